import Derived.Test.YtckpncemdfkmgabGreatW1
import Derived.Maps.RangeRun
import Derived.ChangeSame
import Derived.Carry
import Derived.OpenShut
import Derived.SizedLaws
import Derived.WalkKit
import Derived.ProofKit
import Derived.Lib.LaidTab
open List (mem_map all_eq_true cons_append length_map append_nil map_map take_of_length_le map_congr_left map_nil all_cons map_take map_drop mem_flatMap mem_append_left mem_append_right)
namespace Go.Gb
open Go.RowKit Go.MapKept
theorem Uy{L:Option Nat}{P:Program}{ag:Array Oper}{Q:Exit->Act->World->Prop}{i:Nat}{ae:List Nat}{o:Oper}{a:Act}{w w':World}{v:Value}(h:ag[i]? =some o)(hg:o.guard=none)
 (hx:(execOp a.eval o).run P w=.ok (.value v) w') (hk:wpOpsIn (Fw L) 0 P ag Q ae (a.put o.dst v) w'):wpOpsIn (Fw L) 0 P ag Q (i::ae) a w:=by rw[wpOpsIn_cons];simp[wpOpIn,h];rw[aX (by simp[Region.wanted,hg])];refine⟨λ f _=>Fw.fn L f,?_⟩;rw[xM hx (by simp)];exact hk
structure RgI where
 x:Operand
 t:TypeId
 a0:Nat
 it:Nat
 nn:Nat
 b:Nat
 e:Nat
 xx:Nat
 kv:Nat
 j:Nat
 j2:Nat
 body:Code
section
variable {P:Program} {w0:World} {O0:gA} {N:Nat} {β:Nat->Option cA} {I:Nat->Prop} {σ:St} {a:Act} {w:World}
def St.put(σ:St)(d:Nat)(x:AV):St:=⟨Ar σ.env (some d) x,σ.obj,Ar σ.ok (some d) none⟩
theorem Rel.put(hr:Rel P w0 O0 N β I σ a w){d:Nat}(hd:d<N){x:AV}{v:Value}(hv:VR P β w I x v):Rel P w0 O0 N β I (σ.put d x) (a.put (some d) v) w:=by
 refine⟨by simpa[Act.put]using hr.defers,by simpa[Act.put]using hr.size,λt=>?_,hr.mem⟩;have hold:=hr.env t;simp only[St.put,Ar,Act.put,bM];by_cases hdt:d=t;subst hdt;rw[aX rfl,aX rfl];have e:(a.tmps.setIfInBounds d v).getD d undef=v:=by simp[Nat.lt_of_lt_of_eq hd hr.size.symm]
 rw[e];exact hv
 simp_all
theorem Tj{a:Act}{d:Nat}{v:Value}(hd:d<a.tmps.size):(a.put (some d) v).eval (.tmp d)=v:=by simp[Act.put,Act.eval,hd]
theorem rG{a:Act}{d t:Nat}{v:Value}(h:d≠t):(a.put (some d) v).eval (.tmp t)=a.eval (.tmp t):=by
 simp_all [Act.put,Act.eval]
def BC(w0:World)(O0:gA)(I E:Nat->Prop)(dl:List Deferred):gA:=⟨λ q=>(O0.own q\/w0.heap.size<=q)/\¬E q/\¬I q,λq=>(O0.pT q\/O0.own q\/w0.heap.size<=q)/\¬E q,O0.anc,O0.lt,dl⟩
structure kw(β:Nat->Option cA)(I:Nat->Prop)(obj:Nat->Option aM)(w:World)(r:Nat):Prop where
 lt:r<w.heap.size
 pT:¬I r
 obj:∀k o,obj k=some o->¬fx β k r
theorem Mem.sB{obj:Nat->Option aM}(h:Mem P w0 O0 β I obj w){E:Nat->Prop}(hE:∀q,E q->kw β I obj w q){dl:List Deferred}:Mem P w (BC w0 O0 I E dl) β I obj w:=by refine⟨h.cy,h.er,λk o B q h1 h2 h3=>?_,h.lt,λq hq=>.inl ⟨h.up q hq,λe=>(hE q e).pT hq⟩,λ_ _ _=>rfl,ay _,rfl,rfl,rfl,h.anch,h.vars⟩;have⟨g1,g2,g3⟩:=h.ownB k o B q h1 h2 h3;exact⟨g1,g2,.inl ⟨g3,λe=>(hE q e).obj k o h1 ⟨B,h2,h3⟩,g1⟩⟩
theorem Mem.sx{obj jp:Nat->Option aM}{β':Nat->Option cA}{I':Nat->Prop}{w':World}(h:Mem P w0 O0 β I obj w){E:Nat->Prop}{dl:List Deferred}(h':Mem P w (BC w0 O0 I E dl) β' I' jp w')(hE:∀q,E q->q<w.heap.size):
 Mem P w0 O0 β' I' jp w'/\(∀ q,E q->kw β' I' jp w' q/\w'.heap[q]? =w.heap[q]?)/\Same I w w':=by
 have hle:=h.le;have hle':=h'.le;have own':∀k o B q,jp k=some o->β' k=some B->B.num=some q->(O0.own q\/w0.heap.size<=q)/\¬E q:=by intro k o B q h1 h2 h3;rcases (h'.ownB k o B q h1 h2 h3).2.2 with g|g;exact⟨g.1,g.2.1⟩;exact⟨.inr (by omega),λe=>by have:=hE q e;omega⟩
 have HX:∀q,I' q->(O0.pT q\/O0.own q\/w0.heap.size<=q)/\¬E q:=by intro q hq;rcases h'.up q hq with g|g|g;exact g;exact⟨.inr g.1,g.2.1⟩;exact⟨.inr (.inr (by omega)),λe=>by have:=hE q e;omega⟩
 refine⟨⟨h'.cy,h'.er,λk o B q h1 h2 h3=>⟨(h'.ownB k o B q h1 h2 h3).1,(h'.ownB k o B q h1 h2 h3).2.1,(own' k o B q h1 h2 h3).1⟩,h'.lt,λq hq=>(HX q hq).1,λq hq hno=>?_,by omega,h'.os.trans h.os,h'.tape.trans h.tape,h'.output.trans h.output,h'.anch,h'.vars⟩,
  λq hq=>⟨⟨by have:=hE q hq;omega,λhi=>(HX _ hi).2 hq,λk o h1 ⟨B,h2,h3⟩=>(own' k o B q h1 h2 h3).2 hq⟩,h'.keep q (hE q hq) λhh=>hh.2.1 hq⟩,λq hq=>h'.keep q (h.lt q hq) λhh=>hh.2.2 hq⟩
 exact(h'.keep q (by omega) (λ hh=>by rcases hh.1 with g|g;exact hno g;omega)).trans (h.keep q hq hno)
theorem Mem.T6{obj:Nat->Option aM}(h:Mem P w0 O0 β I obj w){r:Nat}(hr:kw β I obj w r)(hnew:w0.heap.size<=r){w':World}(hother:∀q,q≠r->w'.heap[q]? =w.heap[q]?)(hsize:w'.heap.size=w.heap.size)(hos:w'.os=w.os)(rK:w'.tape=w.tape)(hout:w'.output=w.output):
 Same I w w'/\Mem P w0 O0 β I obj w':=by have hs:Same I w w':=λq hq=>hother q (λ e=>hr.pT (e ▸ hq));refine⟨hs,λk o hk=>?_,h.er,λk o B q h1 h2 h3=>by rw[hsize];exact h.ownB k o B q h1 h2 h3,λq hq=>by rw[hsize];exact h.lt q hq,h.up,λq hq hno=>?_,by rw[hsize];exact h.le,hos.trans h.os,rK.trans h.tape,hout.trans h.output,h.anch,h.vars.mono hs (λ _ h=>h)⟩;have⟨B,hB,hO⟩:=h.cy k o hk;exact⟨B,hB,OR.mono (λ _ _ h=>h) hs (λ _ h=>h) (λ q hq=>hother q (λ e=>hr.obj k o hk ⟨B,hB,e ▸ hq⟩)) hO⟩;rw[hother q (by omega)];exact h.keep q hq hno
theorem Rel.world{w':World}(hr:Rel P w0 O0 N β I σ a w)(hs:Same I w w')(hm:Mem P w0 O0 β I σ.obj w'):Rel P w0 O0 N β I σ a w':=
 ⟨hr.defers,hr.size,λt=>dc.mono (λ _ _ h=>h) hs (λ _ h=>h) (hr.env t),hm⟩
end
open Go.RowKit
def kept(os':List (Option fA))(j:Nat):Prop:=∃p,os'[j]? =some (some p)
def AI(get:Nat->Option aM)(fk:Option Nat)(os':List (Option fA)):AV->Tree->Prop
 |.t x,y=>y=x
 |.cP,y=>y=.sl []
 |.oz k len,y=>fk≠some k/\¬kept os' k/\∃o de,get k=some o/\(o.rows.drop 0).take len=aI de/\de.length=len/\y=.sl de
 |.own k aa len,y=>fk≠some k/\¬kept os' k/\∃o de,get k=some o/\(o.rows.drop aa).take len=aI de/\de.length=len/\y=.sl de
 |_,_=>False
def lP(get:Nat->Option aM)(fk:Option Nat)(os':List (Option fA)):List AV->List Tree->Prop
 |[],[]=>True
 |x::xs,y::ys=>AI get fk os' x y/\lP get fk os' xs ys
 |_,_=>False
def ek(get:Nat->Option aM)(fk:Option Nat)(os':List (Option fA)):List (List AV)->List (List Tree)->Prop
 |[],[]=>True
 |x::xs,y::ys=>lP get fk os' x y/\ek get fk os' xs ys
 |_,_=>False
def Hp(get:Nat->Option aM)(fk:Option Nat)(os':List (Option fA)):AV->RC->Prop
 |.agg cs,.d (.a ts)=>lP get fk os' cs ts
 |x,.d (.s y)=>AI get fk os' x y
 |.cP,.fresh _ rows=>rows=[]
 |.own k aa len,.fresh sz rows=>fk=some k/\¬kept os' k/\aa=0/\∃o,get k=some o/\o.sz=sz/\ek get fk os' (o.rows.take len) rows/\rows.length=len
 |.own k aa len,.whole j len'=>k=j/\aa=0/\len'=len/\kept os' j
 |_,_=>False
def oa(get:Nat->Option aM)(fk:Option Nat)(os':List (Option fA)):List AV->List RC->Prop
 |[],[]=>True
 |x::xs,c::cs=>Hp get fk os' x c/\oa get fk os' xs cs
 |_,_=>False
def Hm(get:Nat->Option aM)(fk:Option Nat)(os':List (Option fA)):List AV->RV->Prop
 |[x],.one c=>Hp get fk os' x c
 |x::y::r,.eV cs=>oa get fk os' (x::y::r) cs
 |[],.eV cs=>cs=[]
 |_,_=>False
def P4(get:Nat->Option aM)(fk:Option Nat)(os':List (Option fA)):Prop:=
 ∀(j:Nat) p,os'[j]? =some (some p)->fk≠some j/\∃o,get j=some o/\o.sz=p.1/\ek get fk os' (o.rows.take p.2.length) p.2
def Tk(T:ed)(t:TypeId)(x:AV)(obj:Nat->Option aM):Option Out:=
 J4 T t x .none obj
def OD(T:ed)(σ:St):ResultVar->Option AV
 |.tmp t=>match σ.ok t with
  |none=>some (σ.env t)
  |some _=>none
 |.cell a t=>match σ.ok a with
  |none=>match Tk T t (σ.env a) σ.obj with
   |some ⟨v,[],[]⟩=>some v
   |_=>none
  |some _=>none
def lM(T:ed)(σ:St):List ResultVar->Option (List AV)
 |[]=>some []
 |r::rs=>(OD T σ r).bind λv=>(lM T σ rs).bind λvs=>some (v::vs)
def QH(tmps:Array Value):ResultVar->Sem Value
 |.tmp t=>pure (tmps.getD t undef)
 |.cell a t=>do loadVar t (<- asAddr (tmps.getD a undef))
theorem Du(fn:Func)(tmps:Array Value):results fn tmps=(fn.results.mapM (QH tmps))>>=λvs=>pure (if h:vs.size=1 then vs[0]else .tuple vs):=by congr 2
def aog(T:ed)(rs:List ResultVar)(rv:RV)(os':List (Option fA)):Exit->St->Prop
 |.normal,σ=>∃xs fk,lM T σ rs=some xs/\Hm σ.obj fk os' xs rv/\P4 σ.obj fk os'
 |.ret,σ=>∃xs fk,lM T σ rs=some xs/\Hm σ.obj fk os' xs rv/\P4 σ.obj fk os'
 |_,_=>False
section
variable {P:Program} {T:ed} {w0:World} {O0:gA} {N:Nat} {β:Nat->Option cA} {I:Nat->Prop} {σ:St} {a:Act} {w:World}
theorem aap(hT:fq P T)(hr:Rel P w0 O0 N β I σ a w){r:ResultVar}{x:AV}(h:OD T σ r=some x):
 ∃v,(QH a.tmps r).run P w=.ok v w/\VR P β w I x v:=by
 cases r with
 |tmp t=>
  simp only[OD]at h;have h1:=hr.env t;cases hk:σ.ok t with
  |some b=>rw[hk]at h;cases h
  |none=>
   rw[hk]at h h1;cases h;exact⟨_,by simp[QH],h1⟩
 |cell ad t=>
  simp only[OD]at h;have hx:=hr.env ad;cases hk:σ.ok ad with
  |some b=>rw[hk]at h;cases h
  |none=>
  rw[hk]at h hx;simp only at h;have hx:VR P β w I (σ.env ad) (a.tmps.getD ad undef):=hx;split at h
  ·rename_i v hl;injection h with h;subst h;obtain⟨u,h1,h2⟩:∃u,(Instr.loadAt t (a.tmps.getD ad undef)).run P w=.ok u w/\VR P β w I v u:=(by obtain⟨u,h1,h2,_⟩:=Qw hT hr.mem (λ _ _ h=>h) hl trivial hx;exact⟨u,h1,h2⟩);refine⟨u,?_,h2⟩;have hp:∃p,a.tmps.getD ad undef=.pointer (some p):=by
    unfold Tk at hl;unfold J4 at hl;cases hti:T t with
    |none=>simp[hti]at hl
    |some ti=>
     simp only[hti,ai]at hl;split at hl
     ·rename_i heq;rw[heq]at hx;simp only[VR]at hx;obtain⟨b,sz,n,_,h⟩:=hx;exact⟨_,h⟩
     ·rename_i heq;rw[heq]at hx;simp only[VR]at hx;obtain⟨b,o,h,_⟩:=hx;exact⟨_,h⟩
     ·cases hl
   obtain⟨p,hp⟩:=hp;rw[hp]at h1;simp only[QH,hp,asAddr,Sem.run_bind,Sem.run_pure,Result.andThen_ok];exact h1
  ·cases h
theorem vo(hT:fq P T)(hr:Rel P w0 O0 N β I σ a w):∀(rs:List ResultVar)(xs:List AV),lM T σ rs=some xs->
 ∃vs,(rs.mapM (QH a.tmps)).run P w=.ok vs w/\bo P β w I xs vs
 |[],xs,h=>by simp_all [lM,bo]
 |r::rs,xs,h=>by
  simp[lM]at h;cases h1:OD T σ r with
  |none=>grind
  |some x=>
   cases h2:lM T σ rs with
   |none=>grind
   |some ys=>
    simp[h1,h2]at h;subst h;have⟨v,g1,g2⟩:=aap hT hr h1;obtain⟨vs,g3,g4⟩:=vo hT hr rs ys h2
    simp_all [g1,g3,bo]
def LF(σ:St)(w0 w:World)(β:Nat->Option cA)(I:Nat->Prop)(O0:gA)(fk:Option Nat)(os':List (Option fA))(b:Nat):Prop:=
 (I b\/O0.pT b\/w0.heap.size<=b\/O0.own b)/\b<w.heap.size/\¬∃k,(fk=some k\/kept os' k)/\(∃ o,σ.obj k=some o)/\fx β k b
theorem acn(hr:Rel P w0 O0 N β I σ a w)(fk:Option Nat)(os':List (Option fA)):∀b,I b->LF σ w0 w β I O0 fk os' b:=λb hb=>
 ⟨.inl hb,hr.mem.lt b hb,λ⟨k,_,⟨o,ho⟩,hβ⟩=>(hr.mem.ix k o b ho hβ).1 hb⟩
theorem LG(hr:Rel P w0 O0 N β I σ a w){fk:Option Nat}{os':List (Option fA)}{k aa len:Nat}{y:Tree}{v:Value}(h:fk≠some k/\¬kept os' k/\∃o de,σ.obj k=some o/\(o.rows.drop aa).take len=aI de/\de.length=len/\y=.sl de)(hv:VR P β w I (.own k aa len) v):TR w (LF σ w0 w β I O0 fk os') y v:=by obtain⟨hne,hnk,o,de,h1,h2,h3,rfl⟩:=h;simp only[TR];rcases hv with ⟨_,rfl,_,h4⟩|⟨b,sz,n,cap,ad,h4,rfl,h5,h6,h7⟩;exact .inl ⟨List.eq_nil_of_length_eq_zero (by omega),none,0,rfl,λ_=>rfl⟩;have⟨g1,g2,g3⟩:=hr.mem.own k o b sz n h1 h4;refine .inr ⟨b,ad,cap,sz,by rw[h3],by omega,⟨.inr (.inr (g3.elim .inr .inl)),g2,λ⟨k',e1,⟨o',e2⟩,e3⟩=>?_⟩,?_⟩;have:=hr.mem.ox k k' o o' b h1 e2 (.at h4) e3;subst this;exact e1.elim hne hnk;by_cases hc:cap=0;have:de=[]:=List.eq_nil_of_length_eq_zero (by omega);subst this;simp[ct];rw[h7 hc];have⟨B,hB,sn⟩:=hr.mem.cy k o h1;rw[h4]at hB;cases hB;obtain⟨hs,c,e,hc',_,sn⟩:=sn;have h8:=bu.take len _ _ _ _ (bu.drop aa _ _ _ _ sn);rw[h2]at h8;exact ct.lw (acn hr fk os') hc' de _ _ h8
theorem Dv(hr:Rel P w0 O0 N β I σ a w){fk:Option Nat}{os':List (Option fA)}{x:AV}{y:Tree}{v:Value}(h:AI σ.obj fk os' x y)(hv:VR P β w I x v):TR w (LF σ w0 w β I O0 fk os') y v:=by
 cases x<;>simp only[AI]at h
 case t x=>subst h;simp[VR]at hv;exact TR.mono (λ _ _=>rfl) (acn hr fk os') _ _ hv
 case cP=>subst h;grind [VR,TR]
 case own k aa len=>exact LG hr h hv
 case oz k len=>
  rcases hv.vm with ⟨rfl,rfl⟩|⟨_,hv⟩;obtain⟨hne,hnk,o,de,h1,h2,h3,rfl⟩:=h;exact .inl ⟨List.eq_nil_of_length_eq_zero h3,none,0,rfl,λ_=>rfl⟩;exact LG hr h hv
theorem LJ(hr:Rel P w0 O0 N β I σ a w){fk:Option Nat}{os':List (Option fA)}{β':Nat->Option cA}:∀{r:List AV}{t:List Tree}{c:Array Value}{aa:Nat},lP σ.obj fk os' r t->cR P β w I r c aa->cR P β' w (LF σ w0 w β I O0 fk os') (t.map AV.t) c aa
 |[],[],_,_,_,_=>trivial
 |x::xs,y::ys,c,aa,h,⟨⟨v,h1,h2,h3⟩,h4⟩=>⟨⟨v,h1,by simp[VR];exact Dv hr h.1 h2,h3⟩,LJ hr h.2 h4⟩
 |[],_::_,_,_,h,_|_::_,[],_,_,h,_=>h.elim
theorem lP.length{get:Nat->Option aM}{fk:Option Nat}{os':List (Option fA)}:∀{r:List AV}{t:List Tree},lP get fk os' r t->t.length=r.length
 |[],[],_=>rfl
 |_::_,_::_,h=>by simp[lP.length h.2]
 |[],_::_,h|_::_,[],h=>h.elim
theorem Au(hr:Rel P w0 O0 N β I σ a w){fk:Option Nat}{os':List (Option fA)}{β':Nat->Option cA}:∀{rs:List (List AV)}{ts:List (List Tree)}{c:Array Value}{aa sz:Nat},ek σ.obj fk os' rs ts->bu P β w I rs c aa sz->bu P β' w (LF σ w0 w β I O0 fk os') (aI ts) c aa sz
 |[],[],_,_,_,_,_=>trivial
 |r::rs,t::ts,c,aa,sz,h,⟨h1,h2,h3⟩=>⟨by rw[length_map,h.1.length,h1],LJ hr h.1 h2,Au hr h.2 h3⟩
 |[],_::_,_,_,_,h,_|_::_,[],_,_,_,h,_=>h.elim
theorem ek.length{get:Nat->Option aM}{fk:Option Nat}{os':List (Option fA)}:∀{rs:List (List AV)}{ts:List (List Tree)},ek get fk os' rs ts->rs.length=ts.length
 |[],[],_=>rfl
 |_::_,_::_,h=>by simp[h.2.length]
 |[],_::_,h|_::_,[],h=>h.elim
theorem Kc(hr:Rel P w0 O0 N β I σ a w){fk:Option Nat}{os':List (Option fA)}{β':Nat->Option cA}:∀{r:List AV}{t:List Tree}{vs:List Value},lP σ.obj fk os' r t->bo P β w I r vs->bo P β' w (LF σ w0 w β I O0 fk os') (t.map AV.t) vs
 |[],[],[],_,_=>by trivial
 |x::xs,y::ys,v::vs,h,hv=>by exact⟨Dv hr h.1 hv.1,Kc hr h.2 hv.2⟩
 |[],_::_,_,h,_|_::_,[],_,h,_=>h.elim
 |[],[],_::_,_,hv|_::_,_::_,[],_,hv=>by trivial
theorem Gy(hr:Rel P w0 O0 N β I σ a w){fk:Option Nat}{os':List (Option fA)}{β':Nat->Option cA}:∀{rs:List (List AV)}{ts:List (List Tree)}{es:List MapEntry},ek σ.obj fk os' rs ts->cD P β w I rs es->cD P β' w (LF σ w0 w β I O0 fk os') (aI ts) es
 |[],[],[],_,_=>trivial
 |_::_,_::_,_::_,h,hm=>⟨Kc hr h.1 hm.1,Gy hr h.2 hm.2⟩
 |[],_::_,_,h,_|_::_,[],_,h,_=>h.elim
 |[],[],_::_,_,hm|_::_,_::_,[],_,hm=>hm.elim
theorem ek.nil{get:Nat->Option aM}{fk:Option Nat}{os':List (Option fA)}{t:List (List Tree)}(h:ek get fk os' [] t):t=[]:=by
 cases t with
 |nil=>rfl
 |cons=>trivial
theorem Uz(hr:Rel P w0 O0 N β I σ a w){F:Nat->Prop}{βi:Nat->Option cA}{fk:Option Nat}{os':List (Option fA)}(hF:∀k o b,fk=some k->σ.obj k=some o->¬kept os' k->fx β k b->F b)(hi:∀j,kept os' j->β j=βi j){x:AV}{c:RC}{v:Value}
 (h:Hp σ.obj fk os' x c) (hv:VR P β w I x v):yy P F βi c w (LF σ w0 w β I O0 fk os') v:=by
 unfold Hp at h;split at h;rename_i cs ts;simp[VR]at hv;obtain⟨vs,rfl,hv⟩:=hv;refine⟨vs,rfl,?_⟩;have:∀(cs:List AV)(ts:List Tree)(vs:List Value),lP σ.obj fk os' cs ts->bo P β w I cs vs->eI w (LF σ w0 w β I O0 fk os') ts vs:=by
  intro cs
  induction cs with
  |nil=>intro ts vs h hv;cases ts<;>cases vs<;>first|trivial|grind|grind
  |cons x xs ih=>
   intro ts vs h hv;cases ts with
   |nil=>exact h.elim
   |cons t ts=>
    cases vs with
    |nil=>simp[bo]at hv
    |cons u us=>simp[bo]at hv;exact⟨Dv hr h.1 hv.1,ih ts us h.2 hv.2⟩
 exact this cs ts vs.toList h hv;exact Dv hr h hv;subst h;simp[VR]at hv;exact .inl ⟨rfl,hv⟩;rename_i k aa len sz rows;obtain⟨rfl,hnk,rfl,o,h1,rfl,h2,h3⟩:=h;simp only[VR]at hv;rcases hv with ⟨_,rfl,_,h4⟩|⟨b,sz,n,cap,ad,h4,rfl,h5,h6,h7⟩;exact .inl ⟨List.eq_nil_of_length_eq_zero (by omega),rfl⟩;have⟨B,hB,sn⟩:=hr.mem.cy k o h1;rw[h4]at hB;cases hB;obtain⟨hs,c,e,hc',hn,sn⟩:=sn;refine .inr ⟨b,c,e,cap,ad,n.s,by rw[h3],hF k o b rfl h1 hnk (.at h4),λhI=>hI.2.2 ⟨k,.inl rfl,⟨o,h1⟩,.at h4⟩,hc',by omega,?_,?_,λhc=>by simpa using h7 hc⟩;rw[<- hs,hn];simpa using h6;rw[<- hs];exact Au hr h2 (bu.take len _ _ _ _ sn);rename_i k aa len j len';obtain⟨rfl,rfl,rfl,hk⟩:=h;show VR P βi w (LF σ w0 w β I O0 fk os') (.own k 0 len') v;simp[VR]at hv ⊢;rw[<- hi k hk];exact hv
 grind
theorem xZ{α:Type}(l:List α)(t:Nat):lk ((List.range l.length).zip l) t=l[t]? :=by
 have qn:∀(l:List α)(s t:Nat),(lk ((List.range' s l.length).zip l) t)=if s<=t/\t<s+l.length then l[t-s]? else none:=by
  intro l
  induction l with
  |nil=>simp[lk]
  |cons x xs ih=>
   simp[List.range'_succ,lk]
   all_goals grind
 simp[List.range_eq_range',qn]
theorem OE{x:AV}:∀{l:List AV},x∈l->∀k∈refs x,k∈fe l
 |[],h,_,_=>by simp at h
 |y::ys,h,k,hk=>by simp[fe];rcases aR.1 h with rfl|h;exact .inl hk;exact .inr (OE h k hk)
theorem ah6(hT : fq P T){f : FuncId}{fn : Func}{c : Code}{args : List AV}{os : List fA}{os' : List (Option fA)}{rv : RV}(hfn : P.funcs[f]? = some fn)(hb : fn.body = some c)(hname : (fn.name == "runtime.NumGoroutine") = false)(hN : args.length <= fn.ntmps)(hargs : ∀ k ∈ fe args, k < 1000)(hos : os.length <= 1000)(hlen : os'.length = os.length)
 (h:Ev P fn.ntmps c (aog T fn.results.toList rv os') (rj.st ⟨(List.range args.length).zip args,(List.range (os.map gz).length).zip (os.map gz)⟩)):p5 P f args os os' rv:=by
 refine⟨⟨fn,hfn,by rw[hb];rfl,hname⟩,λw β I vs hβ hM hv=>?_⟩;have hvl:=bo.length _ _ hv;simp at hvl;have ie:∀k,lk ((List.range (os.map gz).length).zip (os.map gz)) k=rh os k:=λk=>by rw[xZ];simp[rh]
 refine calls_of_wp hfn hb ?_;have hrel:Rel P w (mV β I) fn.ntmps β I (rj.st ⟨(List.range args.length).zip args,(List.range (os.map gz).length).zip (os.map gz)⟩) { tmps:=vs++Array.replicate (fn.ntmps-vs.size) undef,defers:=[] } w:=by
  refine⟨rfl,by simp;omega,λt=>?_,?_⟩;simp only[rj.st,xZ,dc];by_cases ht:t<args.length;obtain⟨v,g1,g2⟩:=bo.get _ _ t _ hv (dJ ht);rw[dJ ht];simp only[Option.getD_some];have:(vs++Array.replicate (fn.ntmps-vs.size) undef).getD t undef=v:=by rw[Array.getElem?_toList]at g1;simp only[Array.getD_eq_getD_getElem?,Array.getElem?_append,show t<vs.size by omega,if_true,g1,Option.getD_some]
  rw[this];exact g2;rw[List.getElem?_eq_none (Nat.le_of_not_lt ht)];simp[VR];have:(rj.st ⟨(List.range args.length).zip args,(List.range (os.map gz).length).zip (os.map gz)⟩).obj=rh os:=funext ie;rw[this];exact hM
 have hold:tU (rj.st ⟨(List.range args.length).zip args,(List.range (os.map gz).length).zip (os.map gz)⟩):=by
  refine⟨λ t k hk=>?_,λk o hk=>?_⟩;simp[rj.st,xZ]at hk;cases ht:args[t]? with
  |none=>rw[ht]at hk;simp[refs]at hk
  |some x=>rw[ht]at hk;have:=hargs k (OE (bZ ht) k hk);omega
  have hk:rh os k=some o:=(ie k).symm.trans hk;simp only[rh,iW]at hk;obtain⟨p,hp,rfl⟩:=hk;refine⟨by have:=(dh.1 hp).1;omega,λr hr x hx j hj=>?_⟩;simp[gz,aI,mem_map]at hr;obtain⟨q,_,rfl⟩:=hr;simp[mem_map]at hx;obtain⟨t,_,rfl⟩:=hx;simp[refs]at hj
 refine wp_mono (wpIn_wide.1 (h none w (mV β I) β I _ w hrel hold)) ?_
 have fin:∀(a':Act) (w':World) (β':Nat->Option cA) (I':Nat->Prop) (σ':St),Rel P w (mV β I) fn.ntmps β' I' σ' a' w'->(∃ xs fk,lM T σ' fn.results.toList=some xs/\Hm σ'.obj fk os' xs rv/\P4 σ'.obj fk os')->
  a'.defers=[]/\∃v,(results fn a'.tmps).run P w'=.ok v w'/\QQ P w β I os' rv (.returned v) w':=by
  intro a' w' β' I' σ' hr ⟨xs,fk,hx,he,heo⟩;obtain⟨us,g1,g2⟩:=vo hT hr _ _ hx;have GS:=bo.length _ _ g2;have hm:=hr.mem;have hrun:(fn.results.mapM (QH a'.tmps)).run P w'=.ok us.toArray w':=by rw[Array.mapM_eq_mapM_toList,Sem.run_map,g1];rfl
  have hko:∀j p,os'[j]? =some (some p)->∃B o,β j=some B/\β' j=some B/\σ'.obj j=some o/\OR P β' w' I' o B/\o.sz=p.1/\ek σ'.obj fk os' (o.rows.take p.2.length) p.2:=by intro j p hj;have⟨_,o,e1,e2,e3⟩:=heo j p hj;have hjl:j<os.length:=(by rw[<- hlen];exact(dh.1 hj).1);obtain⟨B,hB,_⟩:=hM.cy j (gz os[j]) (by simp[rh,hjl]);have hB':=hm.anch j B (by simp only[mV];rw[aX (by omega)];exact hB);have⟨B',hB2,hO⟩:=hm.cy j o e1;rw[hB']at hB2;cases hB2;exact⟨B,o,hB,hB',e1,hO,e2,e3⟩
  have hkept:∀j,kept os' j->β' j=β j:=λj ⟨p,hp⟩=>by have⟨B,o,h1,h2,_⟩:=hko j p hp;rw[h1,h2]
  have rN:∀j o,Dn os' j=some o->∃p,os'[j]? =some (some p)/\o=gz p:=by intro j o hj;simp only[Dn,iW,Option.join_eq_some_iff]at hj;obtain⟨p,hp,rfl⟩:=hj;exact⟨p,hp,rfl⟩
  have mm:∀b,I b->¬Rv β b/\b<w.heap.size:=by intro b hb;refine⟨?_,hM.lt b hb⟩;rintro⟨j,B,hj,hB⟩;rcases Nat.lt_or_ge j os.length with hjl|hjl;exact(hM.ownB j (gz os[j]) B b (by simp[rh,hjl]) hj hB).1 hb;rw[hβ j hjl]at hj;cases hj
  have hOI:∀b,I b->LF σ' w w' β' I' (mV β I) fk os' b:=by intro b hb;have⟨g1,g2⟩:=mm b hb;refine⟨.inr (.inl hb),Nat.lt_of_lt_of_le g2 hm.le,?_⟩;rintro⟨k,_,⟨o,ho⟩,hβk⟩;rcases (hm.ix k o b ho hβk).2.2 with g|g;exact g1 g;omega
  have hmem:Mem P w (mV β I) β (LF σ' w w' β' I' (mV β I) fk os') (Dn os') w':=by
   constructor;intro j o hj;obtain⟨p,hp,rfl⟩:=rN j o hj;have⟨B,o1,b1,b2,b3,b4,b5,b6⟩:=hko j p hp;refine⟨B,b1,?_⟩;cases B with
   |none=>
    simp[OR]at b4 ⊢;rw[b4]at b6;have:=ek.nil (by simpa using b6);simp[gz,aI,this]
   | «at» b s n=>
    obtain⟨c1,c,e,c2,c3,c4⟩:=b4;refine⟨by rw[c1,b5];rfl,c,e,c2,c3,?_⟩;exact Au hr b6 (bu.take _ _ _ _ _ c4)
   |mp b=>
    obtain⟨es,cl,c1,cl',c2,c3⟩:=b4;have hl:=b6.length;simp[List.length_take]at hl;refine⟨es,cl,c1,by simp[gz,aI,length_map];omega,λe=>?_,c3⟩;have e':p.1=p.2.length:=(by simpa[gz,aI]using e);rw[take_of_length_le (by omega)]at b6;exact Gy hr b6 (c2 (by omega))
   intro j j' o o' B B' b h1 h2 h3 h4 h5 h6;obtain⟨p,hp,rfl⟩:=rN j o h1;obtain⟨p',hp',rfl⟩:=rN j' o' h2;have⟨_,o1,_,_,b3,_⟩:=hko j p hp;have⟨_,o1',_,_,b3',_⟩:=hko j' p' hp';rw[<- hkept j ⟨p,hp⟩]at h3;rw[<- hkept j' ⟨p',hp'⟩]at h4;exact hm.er j j' o1 o1' B B' b b3 b3' h3 h4 h5 h6;intro j o B b h1 h2 h5;obtain⟨p,hp,rfl⟩:=rN j o h1;have⟨_,o1,_,_,b3,_⟩:=hko j p hp;rw[<- hkept j ⟨p,hp⟩]at h2;have⟨_,c2,c3⟩:=hm.ownB j o1 B b b3 h2 h5;exact⟨λ hb=>hb.2.2 ⟨j,.inr ⟨p,hp⟩,⟨o1,b3⟩,B,h2,h5⟩,c2,c3⟩;exact λb hb=>hb.2.1;intro b hb;rcases hb.1 with g|g|g|g;exact hm.up b g;exact .inl g;exact .inr (.inr g);exact .inr (.inl g);exact hm.keep;exact hm.le;exact hm.os;exact hm.tape;exact hm.output;intro j B hj;simp only[mV]at hj;split at hj;exact hj;cases hj;exact hM.vars.mono (λ b hb=>hm.keep b (mm b hb).2 (mm b hb).1) hOI
  have hF:∀k o b,fk=some k->σ'.obj k=some o->¬kept os' k->fx β' k b->A3 w β os' b:=by intro k o b _ h2 h3 h4;refine⟨(hm.ix k o b h2 h4).2.2,λj o' h5 h6=>?_⟩;obtain⟨p,hp,rfl⟩:=rN j o' h5;have⟨_,o1,_,_,b3,_⟩:=hko j p hp;have h6':fx β' j b:=(by obtain⟨B,e1,e2⟩:=h6;exact⟨B,by rw[hkept j ⟨p,hp⟩];exact e1,e2⟩);have:=hm.ox k j o o1 b h2 b3 h4 h6';subst this;exact h3 ⟨p,hp⟩
  have ret:∀v,ra P (A3 w β os') β rv w' (LF σ' w w' β' I' (mV β I) fk os') v->QQ P w β I os' rv (.returned v) w':=λv hv'=>⟨v,_,rfl,hmem,hOI,hv'⟩;refine⟨hr.defers,?_⟩;have hlist:∀(xs:List AV)(cs:List RC)(us:List Value),oa σ'.obj fk os' xs cs->bo P β' w' I' xs us->TK P (A3 w β os') β cs w' (LF σ' w w' β' I' (mV β I) fk os') us:=by
   intro xs
   induction xs with
   |nil=>intro cs us h1 h2;cases cs<;>cases us<;>first|trivial|exact h1.elim|(simp [bo]at h2)
   |cons x xs ih=>
    intro cs us h1 h2;cases cs with
    |nil=>exact h1.elim
    |cons c cs=>
     cases us with
     |nil=>simp[bo]at h2
     |cons u us=>simp[bo]at h2;exact⟨Uz hr hF hkept h1.1 h2.1,ih cs us h1.2 h2.2⟩
  simp only[Du,Sem.run_bind,hrun,Result.andThen_ok,Sem.run_pure];refine⟨_,rfl,ret _ ?_⟩
  match xs,us,rv,he,g2 with
  |[x],[u],.one c,he,g2=>
   simp only[bo]at g2;simpa[ra]using Uz hr hF hkept he g2.1
  |x::y::r,u::u'::us,.eV cs,he,g2=>
   have:=hlist _ _ _ he g2;rw[dif_neg (by simp)];exact⟨_,rfl,by simpa using this⟩
  |[],[],.eV cs,he,g2=>
   simp[Hm]at he;subst he;rw[dif_neg (by simp)];exact⟨_,rfl,trivial⟩
  |[x],[u],.eV cs,he,_=>exact he.elim
  |[],_,.one c,he,_=>exact he.elim
  |x::y::r,_,.one c,he,_=>exact he.elim
  |[],_::_,.eV _,_,g2=>simp[bo]at g2
  |[_],[],_,_,g2=>simp[bo]at g2
  |[_],_::_::_,_,_,g2=>simp[bo]at g2
  |_::_::_,[],_,_,g2=>simp[bo]at g2
  |_::_::_,[_],_,_,g2=>simp[bo]at g2
 rintro e a' w' ⟨β',I',σ',h1,h2,h3⟩;cases e with
 |normal=>exact fin a' w' β' I' σ' h1 h3
 |ret=>exact fin a' w' β' I' σ' h1 h3
 |_=>exact h3.elim
def Hk(P:Program)(get:Nat->Option aM)(xs:List AV)(os':List (Nat×aM))(rv:AV):Prop:=
 ∀(w0:World) (O0:gA) (β:Nat->Option cA) (I:Nat->Prop) (w:World) (vs:Array Value),Mem P w0 O0 β I get w->bo P β w I xs vs.toList->∃ β' I',Mem P w0 O0 β' I' (pD os') w/\(∀ b,I b->I' b)/\VR P β' w I' rv (if h:vs.size=1 then vs[0]else .tuple vs)
def anC(P:Program)(T:ed)(rs:List ResultVar)(rv:AV)(os':List (Nat×aM)):Exit->St->Prop
 |.normal,σ=>∃xs,lM T σ rs=some xs/\Hk P σ.obj xs os' rv
 |.ret,σ=>∃xs,lM T σ rs=some xs/\Hk P σ.obj xs os' rv
 |_,_=>False
theorem ah8(hT : fq P T){f : FuncId}{fn : Func}{c : Code}{args : List AV}{os : List aM}{os' : List (Nat × aM)}{rv : AV}(hfn : P.funcs[f]? = some fn)(hb : fn.body = some c)(hname : (fn.name == "runtime.NumGoroutine") = false)(hN : args.length <= fn.ntmps)(hargs : ∀ k ∈ fe args, k < 1000)(hos : os.length <= 1000)
 (XX:∀o∈os,∀r∈o.rows,∀x∈r,∀j∈refs x,j<1000)
 (h:Ev P fn.ntmps c (anC P T fn.results.toList rv os') (rj.st ⟨(List.range args.length).zip args,(List.range os.length).zip os⟩)):GB P f args os os' rv:=by
 refine⟨⟨fn,hfn,by rw[hb];rfl,hname⟩,λw β I vs hβ hM hv=>?_⟩;have hvl:=bo.length _ _ hv;simp at hvl;have ie:∀k,lk ((List.range os.length).zip os) k=tz os k:=λk=>by rw[xZ];rfl
 refine calls_of_wp hfn hb ?_;have hrel:Rel P w (mV β I) fn.ntmps β I (rj.st ⟨(List.range args.length).zip args,(List.range os.length).zip os⟩) { tmps:=vs++Array.replicate (fn.ntmps-vs.size) undef,defers:=[] } w:=by
  refine⟨rfl,by simp;omega,λt=>?_,?_⟩;simp only[rj.st,xZ,dc];by_cases ht:t<args.length;obtain⟨v,g1,g2⟩:=bo.get _ _ t _ hv (dJ ht);rw[dJ ht];simp only[Option.getD_some];have:(vs++Array.replicate (fn.ntmps-vs.size) undef).getD t undef=v:=by rw[Array.getElem?_toList]at g1;simp only[Array.getD_eq_getD_getElem?,Array.getElem?_append,show t<vs.size by omega,if_true,g1,Option.getD_some]
  rw[this];exact g2;rw[List.getElem?_eq_none (Nat.le_of_not_lt ht)];simp[VR];have:(rj.st ⟨(List.range args.length).zip args,(List.range os.length).zip os⟩).obj=tz os:=funext ie;rw[this];exact hM
 have hold:tU (rj.st ⟨(List.range args.length).zip args,(List.range os.length).zip os⟩):=by
  refine⟨λ t k hk=>?_,λk o hk=>?_⟩;simp[rj.st,xZ]at hk;cases ht:args[t]? with
  |none=>rw[ht]at hk;simp[refs]at hk
  |some x=>rw[ht]at hk;have:=hargs k (OE (bZ ht) k hk);omega
  have hk:tz os k=some o:=(ie k).symm.trans hk;simp[tz]at hk;refine⟨by have:=(dh.1 hk).1;omega,λr hr x hx j hj=>?_⟩;have:=XX o (bZ hk) r hr x hx j hj;omega
 refine wp_mono (wpIn_wide.1 (h none w (mV β I) β I _ w hrel hold)) ?_
 have fin:∀(a':Act) (w':World) (β':Nat->Option cA) (I':Nat->Prop) (σ':St),Rel P w (mV β I) fn.ntmps β' I' σ' a' w'->(∃ xs,lM T σ' fn.results.toList=some xs/\Hk P σ'.obj xs os' rv)->
  a'.defers=[]/\∃v,(results fn a'.tmps).run P w'=.ok v w'/\QP P w β I os' rv (.returned v) w':=by
  intro a' w' β' I' σ' hr ⟨xs,hx,he⟩;obtain⟨us,g1,g2⟩:=vo hT hr _ _ hx;have hrun:(fn.results.mapM (QH a'.tmps)).run P w'=.ok us.toArray w':=by rw[Array.mapM_eq_mapM_toList,Sem.run_map,g1];rfl
  have mm:∀b,I b->¬Rv β b/\b<w.heap.size:=by intro b hb;refine⟨?_,hM.lt b hb⟩;rintro⟨j,B,hj,hB⟩;rcases Nat.lt_or_ge j os.length with hjl|hjl;exact(hM.ownB j os[j] B b (by simp[tz]) hj hB).1 hb;rw[hβ j hjl]at hj;cases hj
  obtain⟨β2,I2,hm,hI2,hv2⟩:=he w (mV β I) β' I' w' us.toArray hr.mem (by simpa using g2);have hmem:Mem P w (mV β I) β2 (λ b=>I2 b\/I b) (pD os') w':=by constructor;intro k o hk;have⟨B,hB,hO⟩:=hm.cy k o hk;exact⟨B,hB,OR.mono (λ _ _ h=>h) (λ _ _=>rfl) (λ b hb=>.inl hb) (λ _ _=>rfl) hO⟩;exact hm.er;intro k o B b h1 h2 h3;have⟨a1,a2,a3⟩:=hm.ownB k o B b h1 h2 h3;refine⟨?_,a2,a3⟩;rintro (hb|hb);exact a1 hb;have⟨c1,c2⟩:=mm b hb;rcases a3 with a3|a3;exact c1 a3;omega;rintro b (hb|hb);exact hm.lt b hb;exact Nat.lt_of_lt_of_le (mm b hb).2 hm.le;rintro b (hb|hb);exact hm.up b hb;exact .inl hb;exact hm.keep;exact hm.le;exact hm.os;exact hm.tape;exact hm.output;exact hm.anch;exact hm.vars.mono (λ _ _=>rfl) (λ b hb=>.inl hb)
  refine⟨hr.defers,?_⟩;simp only[Du,Sem.run_bind,hrun,Result.andThen_ok,Sem.run_pure];exact⟨_,rfl,_,β2,_,rfl,hmem,λb hb=>.inr hb,VR.mono (λ _ _ h=>h) (λ _ _=>rfl) (λ b hb=>.inl hb) _ _ hv2⟩
 rintro e a' w' ⟨β',I',σ',h1,h2,h3⟩;cases e with
 |normal|ret=>exact fin a' w' β' I' σ' h1 h3
 |_=>exact h3.elim
theorem ra.HR{F F':Nat->Prop}{βi:Nat->Option cA}{w':World}{I':Nat->Prop}(hF:∀b,F b->F' b){rv:RV}{v:Value}(h:ra P F βi rv w' I' v):ra P F' βi rv w' I' v:=by
 have hc:∀(c:RC)(v:Value),yy P F βi c w' I' v->yy P F' βi c w' I' v:=by
  intro c v h;cases c with
  |d x=>exact h
  |fresh sz rows=>
   rcases h with h|⟨b,c,e,cap,o,s,h1,h2,h3⟩;exact .inl h;exact .inr ⟨b,c,e,cap,o,s,h1,hF b h2,h3⟩
  |whole j len=>exact h
 cases rv with
 |one c=>exact hc c v h
 |eV cs=>
  obtain⟨vs,rfl,h⟩:=h;refine⟨vs,rfl,?_⟩;have:∀(cs:List RC)(vs:List Value),TK P F βi cs w' I' vs->TK P F' βi cs w' I' vs:=by
   intro cs
   induction cs with
   |nil=>intro vs h;cases vs with
    |nil=>trivial
    |cons=>trivial
   |cons c cs ih=>intro vs h;cases vs with
    |nil=>trivial
    |cons v vs=>exact⟨hc c v h.1,ih vs h.2⟩
  grind
theorem UA{f:FuncId}{args:List AV}{rv:RV}(h:p5 P f args [] [] rv):td P f args rv:=by
 refine⟨h.1,λw I vs hlt hgv hv=>?_⟩;have hM:Mem P w (mV k5 I) k5 I (rh []) w:=by
  refine⟨λ k o hk=>by trivial,λk k' o o' B B' b hk=>by trivial,λk o B b hk=>by trivial,hlt,λb hb=>.inl hb,λ_ _ _=>rfl,ay _,rfl,rfl,rfl,λj B hj=>?_,hgv⟩
  simp_all [mV,k5,ite_self]
 refine(h.2 w k5 I vs (λ _ _=>rfl) hM hv).mono ?_;rintro e w' ⟨v,I',rfl,g1,g2,g3⟩;have hno:∀b,¬(mV k5 I).own b:=λb ⟨j,B,hj,_⟩=>by cases hj
 refine⟨v,I',rfl,⟨g1.os,g1.tape,g1.output,g1.le,λb hb=>g1.keep b hb (hno b)⟩,g2,g1.lt,λb hb=>?_,ra.HR (λ b hb=>?_) g3⟩;rcases g1.up b hb with h|h|h;exact .inl h;exact(hno b h).elim;exact .inr h;rcases hb.1 with h|h;exact(hno b h).elim;exact h
end
open Go.RowKit Go.WideShapes Go.ChangeShapes
inductive CS where
 |int (k:IntKind)
 |bool
 |str
 |sl (row:List CS)
 |any
  |mu (row:List CS)
 |back
def aoh:CS->Tree->Prop
 |.int k,x=>∃n,x=.sc (.int k n)/\(Lit.int k n).wf=true
 |.bool,x=>∃b,x=.sc (.bool b)
 |.str,x=>∃s,x=.sc (.string s)/\s.size<=maxLen
 |_,_=>False
def anD:CS->Nat
 |.int .i64=>8
 |.int _=>1
 |.bool=>1
 |.str=>16
 |_=>24
def SP:CS->Nat
 |.int .i64=>8
 |.int _=>1
 |.bool=>1
 |_=>8
def amT:Nat->List CS->Nat
 |o,[]=>o
 |o,c::cs=>amT ((o+(SP c-1))/SP c*SP c+anD c) cs
def Rr(r:List CS):Nat:=bif r.any (λ c=>SP c==8)then(amT 0 r+7)/8*8 else amT 0 r
mutual
inductive Hv(row:List CS):Tree->Prop
 |mk (rows:List (List Tree)) (hl:rows.length<=maxLen) (h:py row rows):Hv row (.sl rows)
inductive py(row:List CS):List (List Tree)->Prop
 |nil:py row []
 |cons {r:List Tree} {rs:List (List Tree)} (h:js row row r) (t:py row rs):py row (r::rs)
inductive js(row:List CS):List CS->List Tree->Prop
 |nil:js row [] []
 |back {cs:List CS} {x:Tree} {xs:List Tree} (h:Hv row x) (t:js row cs xs):js row (.back::cs) (x::xs)
 |one {c:CS} {cs:List CS} {x:Tree} {xs:List Tree} (h:aoh c x) (t:js row cs xs):js row (c::cs) (x::xs)
end
mutual
def Fit:CS->Tree->Prop
 |.int k,x=>∃n,x=.sc (.int k n)/\(Lit.int k n).wf=true
 |.bool,x=>∃b,x=.sc (.bool b)
 |.str,x=>∃s,x=.sc (.string s)/\s.size<=maxLen
 |.sl row,x=>∃rows,x=.sl rows/\(rows.length<=maxLen/\rows.length*Rr row<=reachBytes)/\∀r∈rows,d6 row r
 |.any,_=>True
 |.mu row,x=>Hv row x
 |.back,_=>False
def d6:List CS->List Tree->Prop
 |[],[]=>True
 |c::cs,x::xs=>Fit c x/\d6 cs xs
 |_,_=>False
end
mutual
def oE:Tree->Nat
 |.sc (.string s)=>s.size+1
 |.sc _=>1
 |.sl rows=>Av rows+1
def Av:List (List Tree)->Nat
 |[]=>0
 |r::rs=>lg r+Av rs
def lg:List Tree->Nat
 |[]=>0
 |x::xs=>oE x+lg xs
end
theorem zM:∀a b:List Tree,lg (a++b)=lg a+lg b
 |[],b=>by simp[lg]
 |x::a,b=>by simp[lg,zM a b];omega
structure Bk(H:Type) where
 b:DataW H->Nat
 a:List (DataW H)->Nat
 str:∀l,b (.lit (.string l))=l.length+1
 int:∀k n,b (.lit (.int k n))=1
 bool:∀v,b (.lit (.bool v))=1
 nil:b .nil=1
 sl:∀e s,b (.slice e s)=a e+a s+1
 agg:∀p,b (.agg p)=a p+1
 a0:a []=0
 a1:∀d r,a (d::r)=b d+a r
theorem Bk.app{H:Type}(K:Bk H)(l r:List (DataW H)):K.a (l++r)=K.a l+K.a r:=by
 induction l with
 |nil=>simp[K.a0]
 |cons x l ih=>grind [K.a1]
theorem Bk.drop{H:Type}(K:Bk H){l:List (DataW H×List MemPlace)}{j:Nat}{y:DataW H×List MemPlace}(h:l[j]? =some y):K.a ((l.map (·.1)).drop j)=K.b y.1+K.a ((l.map (·.1)).drop (j+1)):=by obtain⟨hj,rfl⟩:=dh.1 h;rw[List.drop_eq_getElem_cons (by grind),K.a1];simp
def yi(P:Program)(go:TypeId->Option (List CS)):Nat->List Field->Option (List CS)
 |_,[]=>some []
 |o,f::fs=>(go f.type).bind λa=>if f.offset=o/\a.length=P.cellsOf f.type then(yi P go (o+a.length) fs).map (a++ ·)else none
def ae1(P:Program)(t u:TypeId):Option (List CS):=if u=t then some [.back]else match P.underlying u with
 |some (.int k)=>some [.int k]
 |some .bool=>some [.bool]
 |some .string=>some [.str]
 |_=>none
def SO(P:Program)(t e:TypeId):Option (List CS):=match P.underlying e with
 |some (.struct fs)=>(yi P (ae1 P t) 0 fs.toList).bind λr=>if r.length=P.cellsOf e/\0<r.length then some r else none
 |_=>none
def By(P:Program)(cut:List TypeId):Nat->TypeId->Option (List CS)
 | 0,_=>none
 |n+1,t=>match P.underlying t with
  |some (.int k)=>some [.int k]
  |some .bool=>some [.bool]
  |some .string=>some [.str]
  |some (.slice e)=>if cut.contains t then(match SO P t e with|some row=>some [.mu row]|none=>some [.any])else(By P cut n e).bind λr=>if r.length=P.cellsOf e/\0<r.length/\Rr r<=P.bytesOf e then some [.sl r]else none
  |some (.struct fs)=>(yi P (By P cut n) 0 fs.toList).bind λr=>if r.length=P.cellsOf t then some r else none
  |some (.array m e)=>(By P cut n e).bind λr=>if r.length=P.cellsOf e/\m*r.length=P.cellsOf t then some (List.replicate m r).flatten else none
  |_=>none
theorem d6.length:∀(cs:List CS)(ts:List Tree),d6 cs ts->ts.length=cs.length
 |[],[],_=>rfl
 |c::cs,x::xs,h=>by simp[d6]at h;simp[d6.length cs xs h.2]
 |[],_::_,h|_::_,[],h=>by trivial
theorem d6.append:∀(cs:List CS)(ts:List Tree){cs':List CS}{ts':List Tree},d6 cs ts->d6 cs' ts'->d6 (cs++cs') (ts++ts')
 |[],[],_,_,_,h=>h
 |c::cs,x::xs,_,_,h,h'=>by simp at h ⊢;exact⟨h.1,d6.append cs xs h.2 h'⟩
 |[],_::_,_,_,h,_|_::_,[],_,_,h,_=>by trivial
def Here(w:World)(b:Nat):Prop:=b<w.heap.size
section
variable {w:World} {I:Nat->Prop}
theorem eI.append:∀(ts:List Tree)(cs:List Value){ts':List Tree}{cs':List Value},eI w I ts cs->eI w I ts' cs'->eI w I (ts++ts') (cs++cs')
 |[],[],_,_,_,h=>h
 |_::xs,_::vs,_,_,h,h'=>⟨h.1,eI.append xs vs h.2 h'⟩
 |[],_::_,_,_,h,_|_::_,[],_,_,h,_=>h.elim
theorem eI.length:∀(ts:List Tree)(cs:List Value),eI w I ts cs->ts.length=cs.length
 |[],[],_=>rfl
 |_::xs,_::vs,h=>by simp[eI.length xs vs h.2]
 |[],_::_,h|_::_,[],h=>h.elim
theorem aar:∀(ts:List Tree)(cs:List Value)(b aa:Nat),eI w I ts cs->(∀ i,i<cs.length->w.cell? ⟨b,aa+i,none⟩=cs[i]?)->eb w I ts b aa
 |[],[],_,_,_,_=>by trivial
 |x::xs,v::vs,b,aa,h,hc=>by
  refine⟨⟨v,by simpa using hc 0 (by simp),h.1⟩,aar xs vs b (aa+1) h.2 λi hi=>?_⟩;have:=hc (i+1) (by grind)
  grind
 |[],_::_,_,_,h,_|_::_,[],_,_,h,_=>h.elim
end
section
variable {H:Type} {enc:TypeId×Value->H} {P:Program} {w:World} {sp:Nat->Bool} {held:Bool}
theorem OG{a:Addr}{v:Value}(h:w.cell? a=some v):a.spot=none/\a.block<w.heap.size:=by simp[World.cell?]at h;split at h;rename_i c e st hc;split at h;cases h;rename_i hs;exact⟨by simp_all,(Array.getElem?_eq_some_iff.1 hc).1⟩;cases h
def Tu(P:Program)(t:TypeId)(x:DataW H×List MemPlace):Prop:=∀k∈x.1.weights P t,k<=reachBytes
theorem yc{e:TypeId}:∀{l:List (DataW H)}{d:DataW H},d∈l->∀k∈d.weights P e,k∈DataW.weightsAll P e l
 |a::l,d,h,k,hk=>by simp[DataW.weightsAll];rcases aR.1 h with rfl|h;exact .inl hk;exact .inr (yc h k hk)
theorem QI(m:Nat)(cs:List Value)(go:TypeId->Option (List CS))(hgo:∀t sh,go t=some sh->∀cs x,DataW.trod enc P w 0 sp held m t cs=some x->Tu P t x->∃ts,eI w (Here w) ts cs/\d6 sh ts/\∀K:Bk H,lg ts<=K.b x.1):
 ∀(fs:List Field)(l:List (DataW H×List MemPlace))(o:Nat)(sh:List CS),yi P go o fs=some sh->l.length=fs.length->(∀ (i:Nat) (f:Field) (x:DataW H×List MemPlace),fs[i]? =some f->l[i]? =some x->DataW.trod enc P w 0 sp held m f.type ((cs.drop f.offset).take (P.cellsOf f.type))=some x/\Tu P f.type x)->
  ∃ts,eI w (Here w) ts ((cs.drop o).take sh.length)/\d6 sh ts/\∀K:Bk H,lg ts<=K.a (l.map (·.1))
 |[],l,o,sh,h,_,_=>by
  simp[yi]at h
  grind [eI,d6,lg]
 |f::fs,[],o,sh,h,hl,hf=>by grind
 |f::fs,x::l,o,sh,h,hl,hf=>by simp only[yi,ah]at h;obtain⟨a,h1,h2⟩:=h;split at h2;rename_i hc;obtain⟨hc1,hc2⟩:=hc;simp at h2;obtain⟨r,h3,rfl⟩:=h2;have⟨hx,hz⟩:=hf 0 f x rfl rfl;obtain⟨ts,g1,g2,k1⟩:=hgo _ _ h1 _ _ hx hz;obtain⟨ts',g3,g4,k2⟩:=QI m cs go hgo fs l _ _ h3 (by grind) λi f' x' hf' hx'=>hf (i+1) f' x' hf' hx';refine⟨ts++ts',?_,d6.append _ _ g2 g4,λK=>by have:=k1 K;have:=k2 K;rw[zM,bJ,K.a1];omega⟩;rw[fG,List.take_add,List.drop_drop];rw[hc1,<- hc2]at g1;exact eI.append _ _ g1 g3;cases h2
theorem js.append{row:List CS}:∀{a b:List CS}{x y:List Tree},js row a x->js row b y->js row (a++b) (x++y)
 |_,_,_,_,.nil,h=>h
 |_,_,_,_,.back h t,h'=>.back h (t.append h')
 |_,_,_,_,.one h t,h'=>.one h (t.append h')
theorem LK{row:List CS}(m:Nat)(cs:List Value)(go:TypeId->Option (List CS))(hgo:∀t sh,go t=some sh->∀cs x,DataW.trod enc P w 0 sp held m t cs=some x->∃ts,eI w (Here w) ts cs/\js row sh ts/\∀K:Bk H,lg ts<=K.b x.1):
 ∀(fs:List Field)(l:List (DataW H×List MemPlace))(o:Nat)(sh:List CS),yi P go o fs=some sh->l.length=fs.length->(∀ (i:Nat) (f:Field) (x:DataW H×List MemPlace),fs[i]? =some f->l[i]? =some x->DataW.trod enc P w 0 sp held m f.type ((cs.drop f.offset).take (P.cellsOf f.type))=some x)->
  ∃ts,eI w (Here w) ts ((cs.drop o).take sh.length)/\js row sh ts/\∀K:Bk H,lg ts<=K.a (l.map (·.1))
 |[],l,o,sh,h,_,_=>by simp[yi]at h;subst h;exact⟨[],by trivial,.nil,λK=>by simp[lg]⟩
 |f::fs,[],o,sh,h,hl,hf=>by grind
 |f::fs,x::l,o,sh,h,hl,hf=>by simp only[yi,ah]at h;obtain⟨a,h1,h2⟩:=h;split at h2;rename_i hc;obtain⟨hc1,hc2⟩:=hc;simp at h2;obtain⟨r,h3,rfl⟩:=h2;have hx:=hf 0 f x rfl rfl;obtain⟨ts,g1,g2,k1⟩:=hgo _ _ h1 _ _ hx;obtain⟨ts',g3,g4,k2⟩:=LK m cs go hgo fs l _ _ h3 (by grind) λi f' x' hf' hx'=>hf (i+1) f' x' hf' hx';refine⟨ts++ts',?_,g2.append g4,λK=>by have:=k1 K;have:=k2 K;rw[zM,bJ,K.a1];omega⟩;rw[fG,List.take_add,List.drop_drop];rw[hc1,<- hc2]at g1;exact eI.append _ _ g1 g3;cases h2
theorem alB{t e:TypeId}{row:List CS}(hk:P.underlying t=some (.slice e))(hm:SO P t e=some row):∀(fuel:Nat)(cs:List Value)(x:DataW H×List MemPlace),DataW.trod enc P w 0 sp held fuel t cs=some x->∃tr,eI w (Here w) [tr] cs/\Hv row tr/\∀K:Bk H,oE tr<=K.b x.1:=by
 intro fuel
 induction fuel using Nat.strongRecOn with
 |_ fuel ih=>
 intro cs x hx;have one:∀m,m<fuel->∀tM y,DataW.trod enc P w 0 sp held m e tM=some y->∃ts,eI w (Here w) ts tM/\js row row ts/\ts.length=row.length/\∀K:Bk H,lg ts<=K.b y.1:=by
  intro m hmf tM y hy;unfold SO at hm;split at hm;rename_i fs hke;simp only[ah]at hm;obtain⟨r,h1,h2⟩:=hm;split at h2;rename_i hr;injection h2 with h2;subst h2;obtain⟨xs,m',hm',rfl,hl,hxs,hf⟩:=DataW.trod_struct hke hy;obtain⟨ts,g1,g2,k1⟩:=LK (row:=r) m' tM (ae1 P t) (λ u sh hsh cs x hx=>by unfold ae1 at hsh;split at hsh;rename_i hu;cases hsh;rw[hu]at hx;obtain⟨tr,a1,a2,a3⟩:=ih m' (by omega) cs x hx;exact⟨[tr],a1,.back a2 .nil,λK=>by grind [lg]⟩;split at hsh;rename_i k CI;cases hsh;obtain⟨v,rfl,rfl,hw⟩:=DataW.trod_int CI hx;exact⟨[.sc (.int k v)],by simp[eI,TR,oneCell],.one ⟨v,rfl,hw⟩ .nil,λK=>by simp[lg,oE,K.int]⟩;rename_i CI;cases hsh;obtain⟨v,rfl,rfl⟩:=DataW.trod_bool CI hx;exact⟨[.sc (.bool v)],by simp[eI,TR,oneCell],.one ⟨v,rfl⟩ .nil,λK=>by simp[lg,oE,K.bool]⟩;rename_i CI;cases hsh;obtain⟨v,rfl,rfl,hw⟩:=DataW.trod_string CI hx;exact⟨[.sc (.string v)],by simp[eI,TR,oneCell],.one ⟨v,rfl,hw⟩ .nil,λK=>by simp[lg,oE,K.str]⟩;cases hsh) fs.toList xs 0 r h1 (by simpa using hxs) (λ i f x hi hxi=>by have hi':fs[i]? =some f:=(by simpa using hi);rw[hf i f hi',hxi]);rw[List.drop_zero,take_of_length_le (by omega)]at g1;refine⟨ts,g1,g2,?_,λK=>by have:=k1 K;rw[K.agg];omega⟩;rw[eI.length _ _ g1];omega;cases h2;cases hm
 have rl:row.length=P.cellsOf e/\0<row.length:=by unfold SO at hm;split at hm;simp only[ah]at hm;obtain⟨r,h1,h2⟩:=hm;split at h2;rename_i hr;cases h2;exact hr;cases h2;cases hm
 rcases DataW.trod_slice hk hx with ⟨rfl,rfl⟩|⟨a,len,cap,elems,ae,m,hfm,rfl,rfl,_,hl,hmx,hlen,hel,_,_⟩;refine⟨.sl [],?_,.mk [] (by simp[maxLen]) .nil,λK=>by simp[oE,Av,K.nil]⟩;simp only[eI,TR];exact⟨.inl ⟨trivial,none,0,rfl,λ_=>rfl⟩,trivial⟩;have each:∀i,i<len->∃tM y,w.cells? 0 (a.add (i*P.cellsOf e)) (P.cellsOf e)=some tM/\DataW.trod enc P w 0 sp held m e tM=some y/\elems[i]? =some y:=by intro i hi;have h3:=hel i hi;have h6:elems[i]? =some (elems[i]'(by omega)):=dJ (by omega);rw[h6,ah]at h3;obtain⟨tM,h4,h5⟩:=h3;exact⟨tM,_,h4,h5,h6⟩
 by_cases h0:len=0;subst h0;refine⟨.sl [],?_,.mk [] (by simp[maxLen]) .nil,λK=>by simp[oE,Av,K.sl]⟩;simp only[eI,TR];exact⟨.inl ⟨trivial,some a,cap,rfl,λh=>by cases h⟩,trivial⟩;obtain⟨cs0,y0,c0,_,_⟩:=each 0 (by omega);obtain⟨_,c1,c2⟩:=World.cells?_some c0;have c3:=c2 0 (by omega);rw[dJ (by omega)]at c3;have c4:=OG c3;simp[Nat.zero_mul,Addr.add,if_true]at c4;obtain⟨b,aa,s⟩:=a;simp at c4;obtain⟨rfl,hb⟩:=c4;have rows:∀q j,j+q=len->∃rows:List (List Tree),rows.length=q/\ct w (Here w) rows b (aa+j*P.cellsOf e) (P.cellsOf e)/\py row rows/\∀K:Bk H,Av rows<=K.a ((elems.map (·.1)).drop j):=by
  intro q
  induction q with
  |zero=>intro j _;exact⟨[],rfl,by simp[ct],.nil,λK=>by simp[Av]⟩
  |succ q ihq=>
   intro j hj;obtain⟨rows,g1,g2,g3,k3⟩:=ihq (j+1) (by omega);obtain⟨csj,y,g4,g5,gy⟩:=each j (by omega);obtain⟨ts,g6,g7,_,k6⟩:=one m (by omega) _ _ g5;obtain⟨_,g8,g9⟩:=World.cells?_some g4;refine⟨ts::rows,by simp[g1],?_,.cons g7 g3,λK=>by have:=k3 K;have:=k6 K;rw[K.drop gy,Av];omega⟩;simp[ct];refine⟨(eI.length _ _ g6).trans g8,aar _ _ _ _ g6 λi hi=>?_,?_⟩;rw[<- g9 i (by omega),addr_add,addr_add];rw[show aa+j*P.cellsOf e+P.cellsOf e=aa+(j+1)*P.cellsOf e by rw[Nat.add_mul];omega];exact g2
 obtain⟨rows,g1,g2,g3,k3⟩:=rows len 0 (by omega);refine⟨.sl rows,?_,.mk rows (by omega) g3,λK=>by have:=k3 K;rw[List.drop_zero]at this;rw[K.sl,oE];omega⟩;simp only[eI,TR];exact⟨.inr ⟨b,aa,cap,P.cellsOf e,by rw[g1],by omega,hb,by simpa using g2⟩,trivial⟩
theorem Dw{cut:List TypeId}:∀(n:Nat)(t:TypeId)(sh:List CS),By P cut n t=some sh->∀(fuel:Nat)(cs:List Value)(x:DataW H×List MemPlace),DataW.trod enc P w 0 sp held fuel t cs=some x->Tu P t x->
 ∃ts,eI w (Here w) ts cs/\d6 sh ts/\∀K:Bk H,lg ts<=K.b x.1
 | 0,_,_,h,_,_,_,_,_=>by trivial
 |n+1,t,sh,h,fuel,cs,x,hx,hz=>by
  unfold By at h;split at h;rename_i k hk;cases h;obtain⟨v,rfl,rfl,hw⟩:=DataW.trod_int hk hx;exact⟨[.sc (.int k v)],by simp[eI,TR,oneCell],by simp only[d6,Fit];exact⟨⟨v,rfl,hw⟩,trivial⟩,λK=>by simp[lg,oE,K.int]⟩;rename_i hk;cases h;obtain⟨v,rfl,rfl⟩:=DataW.trod_bool hk hx;exact⟨[.sc (.bool v)],by simp[eI,TR,oneCell],by simp only[d6,Fit];exact⟨⟨v,rfl⟩,trivial⟩,λK=>by simp[lg,oE,K.bool]⟩;rename_i hk;cases h;obtain⟨v,rfl,rfl,hw⟩:=DataW.trod_string hk hx;exact⟨[.sc (.string v)],by simp[eI,TR,oneCell],by simp only[d6,Fit];exact⟨⟨v,rfl,hw⟩,trivial⟩,λK=>by simp[lg,oE,K.str]⟩;rename_i e hk;split at h;split at h;rename_i row hmr;cases h;have⟨tr,g1,g2,k1⟩:=alB hk hmr fuel cs x hx;exact⟨[tr],g1,by simp only[d6,Fit];exact⟨g2,trivial⟩,λK=>by have:=k1 K;simp only[lg];omega⟩;cases h;rcases DataW.trod_slice hk hx with ⟨rfl,rfl⟩|⟨a,len,cap,elems,ae,m,_,rfl,rfl,_,hl,hm,hlen,hel,_,_⟩;exact⟨[.sc (.slice none 0 0)],by simp[eI,TR,oneCell],by simp[d6,Fit],λK=>by simp[lg,oE,K.nil]⟩;exact⟨[.sc (.slice (some a) len cap)],by simp[eI,TR,oneCell],by simp[d6,Fit],λK=>by simp[lg,oE,K.sl]⟩;simp only[ah]at h;obtain⟨r,h1,h2⟩:=h;split at h2;rename_i hr;cases h2;rcases DataW.trod_slice hk hx with ⟨rfl,rfl⟩|⟨a,len,cap,elems,ae,m,_,rfl,rfl,_,hl,hm,hlen,hel,_,_⟩;refine⟨[.sl []],?_,by simp only[d6,Fit];exact⟨⟨[],rfl,by simp[maxLen],by simp⟩,trivial⟩,λK=>by simp[lg,oE,Av,K.nil]⟩;simp only[eI,TR];exact⟨.inl ⟨trivial,none,0,rfl,λ_=>rfl⟩,trivial⟩;have hzw:∀k,k=(elems.length+ae.length)*P.bytesOf e\/k∈DataW.weightsAll P e (elems.map (·.1))->k<=reachBytes:=by intro k hkk;refine hz k ?_;simp only[DataW.weights,hk,aR,bK,length_map];rcases hkk with h|h;exact .inl h;exact .inr (.inl h)
  have each:∀i,i<len->∃tM y,w.cells? 0 (a.add (i*P.cellsOf e)) (P.cellsOf e)=some tM/\DataW.trod enc P w 0 sp held m e tM=some y/\Tu P e y/\elems[i]? =some y:=by intro i hi;have h3:=hel i hi;have h6:elems[i]? =some (elems[i]'(by omega)):=dJ (by omega);rw[h6,ah]at h3;obtain⟨tM,h4,h5⟩:=h3;exact⟨tM,_,h4,h5,λk hk=>hzw k (.inr (yc (mem_map.2 ⟨_,List.getElem_mem (by omega),rfl⟩) k hk)),h6⟩
  have hbytes:len*Rr r<=reachBytes:=by have h1:=hzw _ (.inl rfl);have h2:len*Rr r<=(elems.length+ae.length)*P.bytesOf e:=Nat.mul_le_mul (by omega) hr.2.2;omega
  by_cases h0:len=0;subst h0;refine⟨[.sl []],?_,by simp only[d6,Fit];exact⟨⟨[],rfl,by simp[maxLen],by simp⟩,trivial⟩,λK=>by simp[lg,oE,Av,K.sl]⟩;simp only[eI,TR];exact⟨.inl ⟨trivial,some a,cap,rfl,λh=>by cases h⟩,trivial⟩;obtain⟨cs0,y0,c0,_,_,_⟩:=each 0 (by omega);obtain⟨_,c1,c2⟩:=World.cells?_some c0;have c3:=c2 0 (by omega);rw[dJ (by omega)]at c3;have c4:=OG c3;simp[Nat.zero_mul,Addr.add,if_true]at c4;obtain⟨b,aa,s⟩:=a;simp at c4;obtain⟨rfl,hb⟩:=c4;have rows:∀m j,j+m=len->∃rows:List (List Tree),rows.length=m/\ct w (Here w) rows b (aa+j*P.cellsOf e) (P.cellsOf e)/\(∀ x∈rows,d6 r x)/\∀K:Bk H,Av rows<=K.a ((elems.map (·.1)).drop j):=by
   intro m
   induction m with
   |zero=>intro j _;exact⟨[],rfl,by simp[ct],by simp,λK=>by simp[Av]⟩
   |succ m ih=>
    intro j hj;obtain⟨rows,g1,g2,g3,k3⟩:=ih (j+1) (by omega);obtain⟨csj,y,g4,g5,g5z,gy⟩:=each j (by omega);obtain⟨ts,g6,g7,k6⟩:=Dw n e r h1 _ _ _ g5 g5z;obtain⟨_,g8,g9⟩:=World.cells?_some g4;refine⟨ts::rows,by simp[g1],?_,λx hx=>?_,λK=>by have:=k3 K;have:=k6 K;rw[K.drop gy,Av];omega⟩;simp[ct];refine⟨(eI.length _ _ g6).trans g8,aar _ _ _ _ g6 λi hi=>?_,?_⟩;rw[<- g9 i (by omega),addr_add,addr_add];rw[show aa+j*P.cellsOf e+P.cellsOf e=aa+(j+1)*P.cellsOf e by rw[Nat.add_mul];omega];exact g2;rcases aR.1 hx with rfl|hx;exact g7;exact g3 x hx
  obtain⟨rows,g1,g2,g3,k3⟩:=rows len 0 (by omega);refine⟨[.sl rows],?_,by simp only[d6,Fit];exact⟨⟨rows,rfl,⟨by omega,by rw[g1];exact hbytes⟩,g3⟩,trivial⟩,λK=>by have:=k3 K;rw[List.drop_zero]at this;rw[K.sl];simp[lg,oE];omega⟩;simp only[eI,TR];exact⟨.inr ⟨b,aa,cap,P.cellsOf e,by rw[g1],by omega,hb,by simpa using g2⟩,trivial⟩;cases h2;rename_i fs hk;simp only[ah]at h;obtain⟨r,h1,h2⟩:=h;split at h2;rename_i hr;injection h2 with h2;subst h2;obtain⟨xs,m,_,rfl,hl,hxs,hf⟩:=DataW.trod_struct hk hx;obtain⟨ts,g1,g2,k1⟩:=QI m cs (By P cut n) (λ t sh hsh cs x hx hz=>Dw n t sh hsh m cs x hx hz) fs.toList xs 0 r h1 (by simpa using hxs) (λ i f x hi hxi=>by have hi':fs[i]? =some f:=(by simpa using hi);have:=hf i f hi';rw[hxi]at this;refine⟨this,λk hk'=>hz k ?_⟩;simp[DataW.weights,hk];exact DataW.weights_mem_each (j:=i) (t:=f.type) (d:=x.1) (by simp[hi']) (by simp[hxi]) k hk');refine⟨ts,?_,g2,λK=>by have:=k1 K;rw[K.agg];omega⟩;rw[List.drop_zero,take_of_length_le (by omega)]at g1;exact g1;cases h2;rename_i m e hk;simp only[ah]at h;obtain⟨r,h1,h2⟩:=h;split at h2;rename_i hr;cases h2;obtain⟨xs,q,_,rfl,hl,hxs,hf⟩:=DataW.trod_array hk hx;have part:∀i j,j+i=m->∃ts,eI w (Here w) ts (cs.drop (j*P.cellsOf e))/\d6 (List.replicate i r).flatten ts/\∀K:Bk H,lg ts<=K.a ((xs.map (·.1)).drop j):=by
   intro i
   induction i with
   |zero=>
    intro j hj;refine⟨[],?_,by simp[d6],λK=>by simp[lg]⟩;have:j=m:=(by omega);subst this;rw[List.drop_of_length_le (by rw[hl,<- hr.2,<- hr.1];omega)];simp[eI]
   |succ i ih=>
    intro j hj;obtain⟨ts,g1,g2,k1⟩:=ih (j+1) (by omega);have:=hf j (by omega);have hxj:xs[j]? =some (xs[j]'(by omega)):=dJ (by omega);rw[hxj]at this;obtain⟨ts0,g3,g4,k3⟩:=Dw n e r h1 _ _ _ this (λ k hk'=>hz k (by simp[DataW.weights,hk];exact yc (mem_map.2 ⟨_,List.getElem_mem (by omega),rfl⟩) k hk'));refine⟨ts0++ts,?_,?_,λK=>by have:=k1 K;have:=k3 K;rw[K.drop hxj,zM];omega⟩;have:=eI.append _ _ g3 g1;rw[show (j+1)*P.cellsOf e=j*P.cellsOf e+P.cellsOf e by rw[Nat.add_mul];omega,<- List.drop_drop,List.take_append_drop]at this;exact this;exact d6.append _ _ g4 g2
  obtain⟨ts,g1,g2,k1⟩:=part m 0 (by omega);exact⟨ts,by simpa using g1,g2,λK=>by have:=k1 K;rw[List.drop_zero]at this;rw[K.agg];omega⟩;cases h2;cases h
inductive VS where
 |one (c:CS)
 |agg (cs:List CS)
def Nx(P:Program)(cut:List TypeId)(t:TypeId):Option VS:=
 (By P cut 12 t).bind λsh=>match P.underlying t with
  |some (.struct _)|some (.array _ _)=>some (.agg sh)
  |_=>match sh with
   |[c]=>some (.one c)
   |_=>none
def AH:VS->TV->Prop
 |.one c,x=>∃y,x=.s y/\Fit c y
 |.agg cs,x=>∃ys,x=.a ys/\d6 cs ys
def QJ:List VS->List TV->Prop
 |[],[]=>True
 |s::ss,x::xs=>AH s x/\QJ ss xs
 |_,_=>False
def O2:TV->Nat
 |.s y=>oE y
 |.a ys=>lg ys
def UB:List TV->Nat
 |[]=>0
 |x::xs=>O2 x+UB xs
theorem ajF{cut:List TypeId}{t:TypeId}{s:VS}{v:Value}{d:DataW H}{ps:List MemPlace}{b0:Nat}(hs:Nx P cut t=some s)(hval:Value.okWide P w .any b0 t v)(hd:DataW.Trod enc P w 0 sp held t v d ps)(hz:∀k∈d.weights P t,k<=reachBytes):
 ∃x,tS w (Here w) x v/\AH s x/\∀K:Bk H,O2 x<=K.b d:=by
 obtain⟨fuel,hf⟩:=hd;simp[Nx,ah]at hs;obtain⟨sh,h1,h2⟩:=hs;obtain⟨ts,g1,g2,k1⟩:=Dw 12 t sh h1 _ _ _ hf hz;have hag:∀cs:Array Value,v=.agg cs->s=.agg sh->∃x,tS w (Here w) x v/\AH s x/\∀K:Bk H,O2 x<=K.b d:=by rintro cs rfl rfl;exact⟨.a ts,⟨cs,rfl,by trivial⟩,⟨ts,rfl,g2⟩,k1⟩
 unfold Value.okWide at hval;split at h2;rename_i hu;injection h2 with h2;rw[hu]at hval;obtain⟨cs,rfl,_⟩:=hval;exact hag cs rfl h2.symm;rename_i hu;injection h2 with h2;rw[hu]at hval;obtain⟨cs,rfl,_⟩:=hval;exact hag cs rfl h2.symm;split at h2;cases h2;have hone:v.cells.toList=[v]:=by
  cases hu:P.underlying t with
  |none=>simp_all [hu,Cell.okWide,Cell.ok]
  |some d=>
   rw[hu]at hval;cases v<;>first|rfl|(exfalso;revert hval;cases d<;>simp_all [Cell.okWide,Cell.ok])
 rw[hone]at g1
 match ts,g1,g2,k1 with
 |[y],g1,g2,k1=>
  simp only[d6]at g2;exact⟨.s y,g1.1,⟨y,rfl,g2.1⟩,λK=>by have:=k1 K;simpa[lg,O2]using this⟩
 |[],g1,_,_=>exact g1.elim
 |_::_::_,g1,_,_=>exact g1.2.elim
 cases h2
theorem YR{cut:List TypeId}:∀{ts:List TypeId}{ss:List VS}{vs:List Value}{ds:List (DataW H)}{ps:List MemPlace}{b0:Nat},ts.mapM (Nx P cut)=some ss->
 (∀ (j:Nat) t v,ts[j]? =some t->vs[j]? =some v->Value.okWide P w .any b0 t v)->DataW.TrodAll enc P w 0 sp held ts vs ds ps->(∀ k∈DataW.weightsEach P ts ds,k<=reachBytes)->∃xs,nh w (Here w) xs vs/\QJ ss xs/\∀K:Bk H,UB xs<=K.a ds
 |[],ss,vs,ds,ps,b0,hs,_,hd,_=>by obtain⟨rfl,rfl,rfl⟩:=trodAll_nil hd;simp at hs;subst hs;exact⟨[],trivial,trivial,λK=>by simp[UB]⟩
 |t::ts,ss,vs,ds,ps,b0,hs,hval,hd,hz=>by obtain⟨v,vs',d,ds',p,q,rfl,rfl,rfl,h0,r0⟩:=trodAll_cons hd;simp[ah]at hs;obtain⟨s,h1,ss',h2,rfl⟩:=hs;obtain⟨x,g1,g2,k1⟩:=ajF h1 (hval 0 t v rfl rfl) h0 (λ k hk=>hz k (by grind [DataW.weightsEach]));obtain⟨xs,g3,g4,k2⟩:=YR h2 (λ j t v h h'=>hval (j+1) t v h h') r0 (λ k hk=>hz k (by grind [DataW.weightsEach]));exact⟨x::xs,⟨g1,g3⟩,⟨g2,g4⟩,λK=>by have:=k1 K;have:=k2 K;rw[UB,K.a1];omega⟩
theorem QK{β:Nat->Option cA}{I:Nat->Prop}:∀(xs:List TV)(vs:List Value),nh w I xs vs->bo P β w I (xs.map TV.av) vs
 |[],[],_=>by trivial
 |x::xs,v::vs,h=>by
  refine⟨?_,QK xs vs h.2⟩;have h1:=h.1;cases x with
  |s y=>trivial
  |a cs=>
   obtain⟨us,rfl,h2⟩:=h1;refine⟨us,rfl,?_⟩;have:∀(cs:List Tree) (us:List Value),eI w I cs us->bo P β w I (cs.map AV.t) us:=by
    intro cs
    induction cs with
    |nil=>intro us h;cases us<;>first|trivial|grind
    |cons c cs ih=>intro us h;cases us with
     |nil=>trivial
     |cons u us=>simp;exact⟨h.1,ih us h.2⟩
   grind
 |[],_::_,h|_::_,[],h=>h.elim
end
section
variable {H:Type} {enc:TypeId×Value->H} {P:Program}
theorem ae2{f:Func}{s:ChangeSpec}{apart fresh handsOn again:Bool}{W W':World}{args:Array Value}{v:Value}{ds gs:List (DataW H)}{before pa pv:List MemPlace}
 (hW:DataW.Whole enc P f.params.toList s.vars apart W args.toList ds gs before)
 (hres:∀(b:Nat)(sp:Nat->Bool)(hd:Bool),DataW.TrodAll enc P W' b sp hd f.resultTypes.toList (v.resultList f.resultTypes.size) (s.fn H (ds++gs)).results [])
 (hargs:∀sp:Nat->Bool,(∀ p∈before,sp p.block=true)->DataW.TrodAll enc P W' 0 sp true f.params.toList args.toList (s.fn H (ds++gs)).args pa)
 (hvars:∀sp:Nat->Bool,(∀ p∈before,sp p.block=true)->DataW.TrodVars enc P W' sp s.vars (s.fn H (ds++gs)).vars pv)
 (hps:before=pa++pv) (hb:Below W.heap.size W W')
 (hok:∀(j:Nat)(t:TypeId)(r:Value),f.resultTypes[j]? =some t->(v.resultList f.resultTypes.size)[j]? =some r->Value.okWide P W' .any 0 t r):
 s.post enc P f apart fresh handsOn again W args v W':=by
 have hlt:∀p∈before,p.block<W.heap.size:=λp hp=>hW.lt p hp;have hold:∀p∈before,(λ b=>decide (b<W.heap.size)) p.block=true:=λp hp=>by simpa using hlt p hp
 refine⟨ds,gs,before,[],pa,pv,hW,hres _ _ _,hargs _ hold,hvars _ hold,World.keptBut_mono (λ p hp=>⟨hp,?_⟩) (hb.frame (· ∈before)),λ_=>?_⟩;rw[hps,bK]at hp;exact Or.inr hp;obtain⟨_,_,_,_,_,hz,hn⟩:=hW;refine⟨hok,_,_,([]++pa)++pv,⟨[]++pa,pv,trodAll_append (hargs _ (λ _ _=>rfl)) (hres _ _ _),hvars _ (λ _ _=>rfl),rfl,?_,?_⟩,?_⟩;intro b aa hp;have hin:MemPlace.cell b aa∈before:=by rw[hps];simpa using hp
 rw[hb.frozen (hlt _ hin)];exact hz b aa hin;intro ha;have:=hn ha;rw[hps]at this;simpa using this;intro p hp _;rw[hps];simpa using hp
theorem Ke(hl:laidOutB P=true){W W':World}(hb:Below W.heap.size W W'):∀{ts:List TypeId}{vs:List Value}{ds:List (DataW H)}{ps:List MemPlace},(∀ t∈ts,P.readableRec t=true/\t<P.types.size)->
 DataW.TrodAll enc P W 0 (λ _=>true) true ts vs ds ps->(∀ x∈ps,x.block<W.heap.size)->∀sp:Nat->Bool,(∀ p∈ps,sp p.block=true)->DataW.TrodAll enc P W' 0 sp true ts vs ds ps
 |[],vs,ds,ps,_,hd,_,sp,_=>by obtain⟨rfl,rfl,rfl⟩:=trodAll_nil hd;exact trodAll_mk0
 |t::ts,vs,ds,ps,ht,hd,hlt,sp,hsp=>by
  obtain⟨v,vs',d,ds',p,q,rfl,rfl,rfl,h0,r0⟩:=trodAll_cons hd;obtain⟨h1,h2⟩:=ht t (by simp)
  exact trodAll_cons_mk (WideElems.Trod_stays hl h1 h2 h0 (λ x hx=>hb.same (hlt x (by simp[hx]))) (λ x hx=>hsp x (by simp[hx])))
   (Ke hl hb (λ t ht'=>ht t (by simp[ht'])) r0 (λ x hx=>hlt x (by simp[hx])) sp (λ x hx=>hsp x (by simp[hx])))
theorem QL{w:World}{base:Nat}{sp:Nat->Bool}{held:Bool}:∀{ts:List TypeId}{vs:List Value}{ds:List (DataW H)}{ps:List MemPlace},DataW.TrodAll enc P w base sp held ts vs ds ps->ds.length=ts.length
 |[],_,_,_,h=>by obtain⟨_,rfl,_⟩:=trodAll_nil h;rfl
 |_::_,_,_,_,h=>by obtain⟨_,_,_,_,_,_,_,rfl,_,_,h2⟩:=trodAll_cons h;simp[QL h2]
theorem acp:∀{ts:List TypeId}{ds:List (DataW H)}{vt:List TypeId}{gs:List (DataW H)},ds.length=ts.length->∀k∈DataW.weightsEach P ts ds,k∈DataW.weightsEach P (ts++vt) (ds++gs)
 |[],[],_,_,_,k,h=>by simp[DataW.weightsEach]at h
 |t::ts,d::ds,vt,gs,hl,k,h=>by simp[DataW.weightsEach]at h ⊢;rcases h with h|h;exact .inl h;exact .inr (acp (by simpa using hl) k h)
 |[],_::_,_,_,h,_,_|_::_,[],_,_,h,_,_=>by simp at h
theorem aas{cut:List TypeId}{C:Checked}{f:FuncId}{fn:Func}{s:ChangeSpec}{ss:List VS}{tb:TypeId}(hl:laidOutB C.prog=true)(hread:(fn.params.toList.all λt=>C.prog.readableRec t&&decide (t<C.prog.types.size))=true)
 (hss:fn.params.toList.mapM (Nx C.prog cut)=some ss) (hvars:s.vars=[]) (hres:fn.resultTypes=#[tb]) (hb:C.prog.underlying tb=some .bool)
 (hs:∀ds:List (DataW H),ds.length=fn.params.toList.length->s.fn H ds={ results:=[.lit (.bool true)],args:=ds })
 {B:Nat->Prop} (ZZ:∀xs,QJ ss xs->(∀ n,B n->UB xs<=n)->td C.prog f (xs.map TV.av) (.one (.d (.s (.sc (.bool true))))))
 {W:World} {base:Nat} {args:Array Value} {ds gs:List (DataW H)} {before:List MemPlace}
 (hval:∀(j:Nat) t v,fn.params[j]? =some t->args[j]? =some v->Value.okWide C.prog W .any base t v)
 (hW:DataW.Whole enc C.prog fn.params.toList s.vars false W args.toList ds gs before)
 {vt:List TypeId} (hz:(DataW.weightsEach C.prog (fn.params.toList++vt) (ds++gs)).all (· <=reachBytes)=true) (hv:j7 W (Here W)) (hB:∀n,B n->∃K:Bk H,K.a ds<=n):
 Calls C.prog f args W λe W'=>∃v,e=.returned v/\s.post enc C.prog fn false true false false W args v W':=by
 have hW':=hW;obtain⟨p,q,hA,hV,rfl,_,_⟩:=hW;rw[hvars]at hV;obtain⟨rfl,rfl⟩:=trodVars_none hV;have hlen:=QL hA;obtain⟨xs,g1,g2,g3⟩:=YR hss (λ j t v h1 h2=>hval j t v (by simpa using h1) (by simpa using h2)) hA (λ k hk=>by have:=all_eq_true.1 hz k (acp hlen k hk);simpa using this);simp at hW';have hlt:∀x∈p,x.block<W.heap.size:=λx hx=>hW'.lt x hx;refine((ZZ xs g2 (λ n hn=>by have⟨K,hK⟩:=hB n hn;exact Nat.le_trans (g3 K) hK)).2 W (Here W) args (λ _ h=>h) hv (QK _ _ g1)).mono λe W' ⟨v,I',he,hbel,_,_,_,hr⟩=>⟨v,he,?_⟩;simp[ra]at hr;obtain⟨rfl,_⟩:=hr;have hfn:s.fn H (ds++[])={ results:=[.lit (.bool true)],args:=ds }:=by rw[append_nil];exact hs ds hlen
 refine ae2 (pa:=p) (pv:=[]) hW' (λ b sp hd=>?_) (λ sp hsp=>?_) (λ sp _=>?_) (by simp) hbel (ok_one (by rw[hres]) rfl (okWide_bool_mk hb _));rw[hfn,hres];exact trodAll_mk1 (shut_bool hb _);rw[hfn];refine Ke hl hbel (λ t ht=>?_) hA hlt sp hsp;have:=all_eq_true.1 hread t ht;simpa using this;rw[hfn,hvars];rfl
end
def amU:A4->TypeDesc->Bool
 |.slice e,.slice e'=>e==e'
 |.arr n e,.array n' e'=>n==n'&&e==e'
 |.struct fs,.struct fa=>fa.toList.map (λ f=>(f.offset,f.type))==fs
 |.bool,.bool=>true
 |.str,.string=>true
 |.int k,.int k'=>k==k'
 |.map k e,.map k' e'=>k==k'&&e==e'
 |.other,_=>true
 |_,_=>false
def ajG:Value->Value->Bool
 |.int k a,.int k' b=>k==k'&&a==b
 |.bool a,.bool b=>a==b
 |.string a,.string b=>decide (a=b)
 |.slice none 0 0,.slice none 0 0=>true
 |.pointer none,.pointer none=>true
 |.nilFunc,.nilFunc=>true
 |.nilIface,.nilIface=>true
 |.map none,.map none=>true
 |_,_=>false
theorem acr{a b:Value}(h:ajG a b=true):a=b:=by unfold ajG at h;split at h<;>simp_all
def UC:List Value->List Value->Bool
 |[],[]=>true
 |a::as,b::bs=>ajG a b&&UC as bs
 |_,_=>false
theorem LM:∀{a b:List Value},UC a b=true->a=b
 |[],[],_=>rfl
 |a::as,b::bs,h=>by simp[UC]at h;rw[acr h.1,LM h.2]
 |[],_::_,h|_::_,[],h=>by simp[UC]at h
def ajH(P:Program)(t:TypeId)(ti:px):Bool:=
 match P.info? t,P.underlying t with
 |some info,some d=>match info.zero with
  |some z=>info.size==ti.size&&info.bytes==ti.bytes&&sX d==ti.agg&&amU ti.k d&&ti.zero.all jn&&ti.zero.length==ti.size&&
   (ti.cmp.isEmpty || match d with
    |.struct fa=>!P.stoodInHeld t&&!P.eqGuardType P.depth t&&gE P 0 fa.toList ti.cmp
    |.array _ _=>ti.cmp==[9]&&!P.eqGuardType P.depth t
    |_=>false)&&UC z.cells.toList ti.zero&&te ti.agg z
  |none=>false
 |_,_=>false
theorem ae3{k:A4}{d:TypeDesc}(h:amU k d=true):VC k d:=by unfold amU at h;split at h;simp at h;subst h;rfl;simp at h;obtain⟨rfl,rfl⟩:=h;rfl;rename_i fs fa;exact⟨fa,rfl,by simpa using h⟩;rfl;rfl;simp at h;subst h;rfl;simp at h;obtain⟨rfl,rfl⟩:=h;rfl;trivial;cases h
theorem acs{P:Program}{t:TypeId}{ti:px}(h:ajH P t ti=true):lE P t ti:=by
 unfold ajH at h;split at h;rename_i info d h1 h2;split at h
 ·rename_i z h3;simp only[bg,beq_iff_eq]at h;obtain⟨⟨⟨⟨⟨⟨⟨⟨a1,a2⟩,a3⟩,a4⟩,a5⟩,a6⟩,a7⟩,a8⟩,a9⟩:=h;refine⟨⟨info,d,z,h1,h2,a1,a2,h3,LM a8,a3,ae3 a4⟩,a5,a6,λinfo' z' e1 e2=>by rw[h1]at e1;cases e1;rw[h3]at e2;cases e2;exact a9,λhne=>?_⟩
  all_goals grind
 cases h;cases h
def UD(l:List (TypeId×px)):ed:=λt=>(l.find? λp=>p.1==t).map (·.2)
theorem ajI{P:Program}{l:List (TypeId×px)}(h:(l.all λp=>ajH P p.1 p.2)=true):fq P (UD l):=by intro t ti ht;simp only[UD,iW]at ht;obtain⟨p,hp,rfl⟩:=ht;have h1:=List.find?_some hp;simp at h1;subst h1;exact acs (all_eq_true.1 h p (List.mem_of_find?_eq_some hp))
inductive CT(ι:Type) where
 |int (k:IntKind)
 |bool
 |str
 |sl (e:CT ι)
 |st (i:ι)
 |any
 |mp (k v:CT ι)
 deriving DecidableEq
structure SE where
 ι:Type
 dec:DecidableEq ι
 T:ι->Type
 row:(i:ι)->T i->List Tree
instance (E:SE):DecidableEq E.ι:=E.dec
section
variable (E:SE)
@[reducible] def CT.T:CT E.ι->Type
 |.int _=>Int
 |.bool=>Bool
 |.str=>ByteArray
 |.sl e=>List (CT.T e)
 |.st i=>E.T i
 |.any=>Tree
 |.mp k v=>List (CT.T k×CT.T v)
def CT.row:(c:CT E.ι)->CT.T E c->List Tree
 |.int k,n=>[.sc (.int k n)]
 |.bool,b=>[.sc (.bool b)]
 |.str,s=>[.sc (.string s)]
 |.sl e,l=>[.sl (List.map (CT.row e) l)]
 |.st i,x=>E.row i x
 |.any,x=>[x]
 |.mp _ _,_=>[.sl []]
def CT.one{ι:Type}:CT ι->Bool
 |.st _=>false
 |_=>true
def CT.tv:(c:CT E.ι)->CT.T E c->TV
 |.int k,n=>.s (.sc (.int k n))
 |.bool,b=>.s (.sc (.bool b))
 |.str,s=>.s (.sc (.string s))
 |.sl e,l=>.s (.sl (List.map (CT.row E e) l))
 |.st i,x=>.a (E.row i x)
 |.any,x=>.s x
 |.mp _ _,_=>.s (.sl [])
def HL:List (CT E.ι)->Type
 |[]=>Unit
 |c::l=>CT.T E c×HL l
def HL.row:(l:List (CT E.ι))->HL E l->List Tree
 |[],_=>[]
 |c::l,h=>CT.row E c h.1++HL.row l h.2
def HL.m5:(l:List (CT E.ι))->HL E l->List TV
 |[],_=>[]
 |c::l,h=>CT.tv E c h.1::HL.m5 l h.2
end
structure Arr(E:SE) where
 i:E.ι
 c:CT E.ι
 f:E.T i->List (CT.T E c)
 g:List (CT.T E c)->Option (E.T i)
structure SX extends SE where
 cW:ι->List (CT ι)
 get:(i:ι)->T i->HL toSE (cW i)
 make:(i:ι)->HL toSE (cW i)->T i
 oR:∀i x,row i x=HL.row toSE (cW i) (get i x)
 gb:∀i h,row i (make i h)=HL.row toSE (cW i) h
 flat:∀i,(cW i).all CT.one=true
 gv:Nat->Option ((c:CT ι)×CT.T toSE c)
 zz:∀g,(gv g).map (λ p=>CT.row toSE p.1 p.2)=(xy g).map λr=>r.map Tree.sc
 ar:TypeId->Option (Arr toSE):=λ_=>none
 aoJ:∀t a,ar t=some a->a.c.one=true/\(∀ x,row a.i x=((a.f x).map (CT.row toSE a.c)).flatten)/\∀l x,a.g l=some x->a.f x=l:=by intro t a h;cases h
section
variable (X:SX)
abbrev SX.C:=CT X.ι
abbrev SX.t(c:CT X.ι):Type:=CT.T X.toSE c
def CT.sz:CT X.ι->Nat
 |.st i=>(X.cW i).length
 |_=>1
inductive DV where
 |c (t:CT X.ι) (x:CT.T X.toSE t)
 |agg (cs:List DV)
 |eV (vs:List DV)
 |own (k aa len:Nat)
 |ptr (k row aa:Nat)
 |qt (k:Nat) (n:Int) (aa:Nat)
 |tx (k row aa m:Nat) (n:Int)
 |rp (t:CT X.ι) (x:CT.T X.toSE t) (aa:Nat)
 |xi (t:CT X.ι) (x:CT.T X.toSE t) (aa m:Nat) (n:Int)
 |fn (f:FuncId) (first caps:List DV)
 |du (as:List (CT X.ι)) (r:CT X.ι) (φ:HL X.toSE as->Option (CT.T X.toSE r))
 |mp (k:Nat)
 |oz (k len:Nat)
 |raw (v:Value)
 |nil
 |ub
 |skip
 |undef
inductive br where
 |cells (sz:Nat) (rows:List (List (DV X)))
 |ec (c:CT X.ι) (l:List (CT.T X.toSE c))
 |map (kc vc:CT X.ι) (l:List (CT.T X.toSE kc×CT.T X.toSE vc))
structure cH where
 env:List (Nat×DV X)
 obj:List (Nat×Option (br X))
 nx:Nat
 log:List Nat
variable {X}
mutual
def den:DV X->AV
 |.c t x=>(CT.tv X.toSE t x).av
 |.agg cs=>.agg (bF cs)
 |.eV vs=>.eV (bF vs)
 |.own k aa len=>.own k aa len
 |.ptr k row aa=>.ptr k row aa
 |.qt k n aa=>.ptr k n.toNat aa
 |.tx k row aa _ n=>.ptr k row (aa+n.toNat)
 |.rp t x aa=>.ep (CT.row X.toSE t x) aa
 |.xi t x aa _ n=>.ep (CT.row X.toSE t x) (aa+n.toNat)
 |.fn f first caps=>.fn f (bF first) (bF caps)
 |.du as r φ=>.du λts u=>∃h x,φ h=some x/\ts=HL.m5 X.toSE as h/\u=CT.tv X.toSE r x
 |.mp k=>.mp k
 |.oz k len=>.oz k len
 |.raw v=>cv v
 |.nil=>.cP
 |.ub=>.ub
 |.skip=>.undef
 |.undef=>.undef
def bF:List (DV X)->List AV
 |[]=>[]
 |x::xs=>den x::bF xs
end
theorem nU:∀l:List (DV X),bF l=l.map den
 |[]=>rfl
 |x::xs=>by simp[bF,nU xs]
def bH:br X->aM
 |.cells sz rows=>⟨sz,rows.map bF⟩
 |.ec c l=>⟨CT.sz X c,aI (l.map (CT.row X.toSE c))⟩
 |.map kc vc l=>⟨l.length,l.map λp=>[(CT.tv X.toSE kc p.1).av,(CT.tv X.toSE vc p.2).av]⟩
def jm(u:List (Nat×Option (br X))):List (Nat×Option aM):=u.map λp=>(p.1,p.2.map bH)
def fp(o:List (Nat×Option (br X)))(k:Nat):Option (br X):=(lk o k).join
def dC(e:List (Nat×DV X))(t:Nat):DV X:=(lk e t).getD .undef
def cH.st(s:cH X):St:=⟨λ t=>den (dC s.env t),λk=>(fp s.obj k).map bH,λ_=>none⟩
def lq(a b:CT X.ι)(x:CT.T X.toSE a):Option (CT.T X.toSE b):=
 match decEq a b with
 |isTrue h=>some (h ▸ x)
 |isFalse _=>none
theorem rH{a b:CT X.ι}{x:CT.T X.toSE a}{y:CT.T X.toSE b}(h:lq a b x=some y):∃e:a=b,y=e ▸ x:=by unfold lq at h;split at h;rename_i e _;injection h with h;exact⟨e,h.symm⟩;cases h
def HL.cells:(l:List (CT X.ι))->HL X.toSE l->List (DV X)
 |[],_=>[]
 |c::l,h=>.c c h.1::HL.cells l h.2
theorem row_one{c:CT X.ι}(h:c.one=true)(x:CT.T X.toSE c):∃t,CT.row X.toSE c x=[t]/\CT.tv X.toSE c x=.s t:=by cases c<;>first|exact⟨_,rfl,rfl⟩|cases h
theorem HL.qq:∀(l:List (CT X.ι))(h:HL X.toSE l),l.all CT.one=true->bF (HL.cells l h)=(HL.row X.toSE l h).map AV.t
 |[],_,_=>rfl
 |c::l,h,ha=>by simp only[all_cons,bg]at ha;obtain⟨t,h1,h2⟩:=row_one ha.1 h.1;simp[HL.cells,bF,den,HL.row,h1,h2,TV.av,HL.qq l h.2 ha.2]
theorem HL.oX:∀(l:List (CT X.ι))(h:HL X.toSE l),l.all CT.one=true->(HL.row X.toSE l h).length=l.length
 |[],_,_=>rfl
 |c::l,h,ha=>by simp only[all_cons,bg]at ha;obtain⟨t,h1,_⟩:=row_one ha.1 h.1;simp[HL.row,h1,HL.oX l h.2 ha.2]
theorem Gz(c:CT X.ι)(x:CT.T X.toSE c):(CT.row X.toSE c x).length=CT.sz X c:=by
 cases c<;>try rfl
 rename_i i;exact(congrArg List.length (X.oR i x)).trans (HL.oX _ _ (X.flat i))
def uQ:(c:CT X.ι)->CT.T X.toSE c->List (DV X)
 |.st i,x=>HL.cells (X.cW i) (X.get i x)
 |c,x=>[.c c x]
theorem o6(c:CT X.ι)(x:CT.T X.toSE c):bF (uQ c x)=(CT.row X.toSE c x).map AV.t:=by
 cases c<;>try rfl
 rename_i i;exact(HL.qq _ _ (X.flat i)).trans (congrArg (List.map AV.t) (X.oR i x).symm)
def vv:DV X->Bool
 |.agg _|.eV _|.undef|.skip|.raw _|.c (.st _) _=>false
 |_=>true
theorem QM{x:DV X}(h:vv x=true):oZ (den x)=true:=by
 cases x<;>try rfl
 case c t x=>cases t<;>first|rfl|simp[vv]at h
 all_goals simp[vv]at h
def cellsD:DV X->Option (List (DV X))
 |.agg cs=>if cs.all vv then some cs else none
 |.c (.st i) x=>some (uQ (.st i) x)
 |.eV _|.undef|.skip|.raw _=>none
 |x=>some [x]
theorem ag4{l:List (DV X)}(h:l.all vv=true):(bF l).all oZ=true:=by rw[nU,List.all_map,all_eq_true];exact λx hx=>QM (all_eq_true.1 h x hx)
theorem Dx{x:DV X}{cs:List (DV X)}(h:cellsD x=some cs):cellsOf (den x)=some (bF cs):=by
 cases x
 case c t x=>
  cases t
  case st i=>
   simp[cellsD]at h;subst h;simp only[den,CT.tv,TV.av,cellsOf,o6];show(if ((X.row i x).map AV.t).all oZ then some ((X.row i x).map AV.t)else none)=some ((X.row i x).map AV.t);rw[aX];rw[List.all_map,all_eq_true];exact λ_ _=>rfl
  all_goals simp[cellsD]at h;subst h;rfl
 case agg l=>
  simp only[cellsD]at h;split at h;cases h;simp only[den,cellsOf];rw[aX (ag4 ‹_›)];cases h
 all_goals simp[cellsD]at h;try (subst h;rfl)
def wi:Value->DV X
 |.slice none 0 0=>.nil
 |.int k n=>.c (.int k) n
 |.bool b=>.c .bool b
 |.string s=>.c .str s
 |v=>.raw v
theorem ag5(v:Value):den (wi (X:=X) v)=cv v:=by unfold wi;split<;>rfl
theorem BP(l:List Value):bF (l.map (wi (X:=X)))=l.map cv:=by rw[nU,map_map];exact map_congr_left λv _=>ag5 v
def XP(env:Nat->DV X):Operand->DV X
 |.tmp t=>env t
 |.const v=>wi v
 |.global g=>match X.gv g with
  |some p=>.rp p.1 p.2 0
  |none=>.undef
 |.func f=>.fn f [] []
theorem UE(env:Nat->DV X)(x:Operand):den (XP env x)=ma (λ t=>den (env t)) x:=by
 cases x with
 |global g=>
  have h:=X.zz g;simp[XP,ma];cases h1:X.gv g with
  |none=>
   rw[h1]at h;cases h2:xy g with
   |none=>rfl
   |some r=>rw[h2]at h;cases h
  |some p=>grind [den]
 |const v=>exact ag5 _
 |tmp t|func f=>rfl
end
def b7{α:Type}(l:List α)(n:Int):Option α:=bif decide (0<=n)then l[n.toNat]? else none
def sub{α:Type}(l:List α)(aa len:Nat):List α:=(l.drop aa).take len
def cx(n:Int)(len:Nat):Bool:=decide (0<=n)&&decide (n<(len:Int))
def jy{α β:Type}(a:α)(f:α->β):β:=f a
def bL(lo len ln n bytes:Nat):Bool:=decide (lo=len)&&decide (ln=n)&&decide ((len+n)*bytes<=140737488355328)&&decide (len+n<=maxLen)
def be(a b:Nat):Bool:=decide (a=b)
def sI(l h:Int)(len:Nat):Bool:=decide (0<=l)&&decide (l<=h)&&decide (h<=(len:Int))
def UF(a b:ByteArray):Bool:=Op.bytesLess a.toList b.toList
def UG(a b:ByteArray):Bool:=decide (a.size+b.size<=maxLen)
abbrev iN(n:Int):Int:=n
abbrev bN(b:Bool):Bool:=b
def UH{A:Type}:List Bool->Option A->Option A
 |[],k=>k
 |c::cs,k=>bif c then UH cs k else none
section
variable {X:SX} {A:Type}
abbrev KK(X:SX)(A:Type):=DV X->List (Nat×Option (br X))->List Nat->List Nat->Option A
def ajJ(t:Bool)(x y:DV X):DV X:=
 match x,y with
 |.c a p,.c b q=>match decEq b a with
  |isTrue h=>.c a (bif t then p else h ▸ q)
  |isFalse _=>bif t then .c a p else .c b q
 |x,y=>bif t then x else y
def GA(agg:Bool)(size:Nat)(cs:List (DV X)):Option (DV X):=
 if cs.length=size then(if agg then some (.agg cs)else match cs with|[x]=>if vv x then some x else none|_=>none)else none
def SM(agg:Bool)(size:Nat)(c:CT X.ι)(y:CT.T X.toSE c)(aa:Nat):Option (DV X):=
 match c,y with
 |.st i,y=>if aa=0/\agg=true/\size=(X.cW i).length then some (.c (.st i) y)else GA agg size (((uQ (.st i) y).drop aa).take size)
 |c,y=>GA agg size (((uQ c y).drop aa).take size)
def Kz(d:DV X)(c:CT X.ι):Option (CT.T X.toSE c):=
 match d,c with
 |.c a x,c=>lq a c x
 |.nil,.sl _=>some []
 |.nil,.any=>some (.sl [])
 |_,_=>none
def Dy:List (DV X)->(l:List (CT X.ι))->Option (HL X.toSE l)
 |[],[]=>some ()
 |d::ds,c::l=>(Kz d c).bind λx=>(Dy ds l).bind λh=>some (x,h)
 |_,_=>none
def FS(d:DV X)(i:X.ι):Option (CT.T X.toSE (.st i)):=
 match d with
 |.agg cs=>(Dy cs (X.cW i)).bind λh=>some (X.make i h)
 |.c a x=>lq a (.st i) x
 |_=>none
def dat(d:DV X)(c:CT X.ι):Option (CT.T X.toSE c):=
 match c with
 |.st i=>FS d i
 |c=>Kz d c
def mk1(c:CT X.ι):List (DV X)->Option (CT.T X.toSE c)
 |[d]=>Kz d c
 |_=>none
def LP(c:CT X.ι)(ds:List (DV X)):Option (CT.T X.toSE c):=
 match c with
 |.st i=>(Dy ds (X.cW i)).bind λh=>some (X.make i h)
 |c=>mk1 c ds
def No(r:List (DV X))(aa:Nat)(cs:List (DV X)):List (DV X):=r.take aa++cs++r.drop (aa+cs.length)
variable (T:ed) (code:TypeId->Option (CT X.ι))
def Vc(t:TypeId)(x:DV X)(get:Nat->Option (br X))(k:KK X A):Option A:=
 (T t).bind λti=>match x with
 |.ptr kk row aa=>(get kk).bind λo=>match o with
  |.cells _ rows=>(rows[row]?).bind λr=>(GA ti.agg ti.size ((r.drop aa).take ti.size)).bind λv=>k v [] [kk] []
  |_=>none
 |.qt kk n aa=>(get kk).bind λo=>match o with
  |.ec c l=>(b7 l n).bind λy=>(SM ti.agg ti.size c y aa).bind λv=>k v [] [kk] []
  |_=>none
 |.rp c y aa=>(SM ti.agg ti.size c y aa).bind λv=>k v [] [] []
 |_=>none
def T0(t:TypeId)(x y:DV X)(get:Nat->Option (br X))(k:KK X A):Option A:=
 (T t).bind λti=>(cellsD y).bind λcs=>if cs.length=ti.size then match x with
 |.ptr kk row aa=>(get kk).bind λo=>match o with
  |.cells sz rows=>(rows[row]?).bind λr=>if aa+cs.length<=r.length then k .undef [(kk,some (.cells sz (rows.set row (No r aa cs))))] [kk] [kk]else none
  |_=>none
 |.qt kk n aa=>(get kk).bind λo=>match o with
  |.ec c l=>(b7 l n).bind λy=>if aa+cs.length<=CT.sz X c then(LP c (No (uQ c y) aa cs)).bind λz=>k .undef [(kk,some (.ec c (l.set n.toNat z)))] [kk] [kk]else none
  |_=>none
 |_=>none else none
def KA(t:TypeId)(x:DV X)(f:Nat)(k:KK X A):Option A:=
 (zG T t f).bind λp=>match x with
 |.ptr kk row aa=>k (.ptr kk row (aa+p.1)) [] [] []
 |.qt kk n aa=>k (.qt kk n (aa+p.1)) [] [] []
 |.rp c y aa=>k (.rp c y (aa+p.1)) [] [] []
 |_=>none
def ae5(t:TypeId)(x:DV X)(f:Nat)(k:KK X A):Option A:=
 (zG T t f).bind λp=>match x with
 |.agg cs=>(GA p.2.agg p.2.size ((cs.drop p.1).take p.2.size)).bind λv=>k v [] [] []
 |.c (.st i) y=>(GA p.2.agg p.2.size (((uQ (.st i) y).drop p.1).take p.2.size)).bind λv=>k v [] [] []
 |_=>none
def KC(t:TypeId)(x j:DV X)(get:Nat->Option (br X))(k:KK X A):Option A:=
 (T t).bind λti=>match ti.k,j with
 |.slice e,.c (.int _) n=>(T e).bind λei=>match x with
  |.c (.sl c) l=>if CT.sz X c=ei.size then(b7 l n).bind λy=>k (.rp c y 0) [] [] []else none
  |.own kk aa len=>(get kk).bind λo=>match o with
   |.ec c _=>if CT.sz X c=ei.size then bif cx n len then k (.qt kk ((aa:Int)+iN n) 0) [] [kk] []else none else none
   |.cells sz _=>if sz=ei.size then bif cx n len then k (.ptr kk (aa+n.toNat) 0) [] [kk] []else none else none
   |.map _ _ _=>none
  |_=>none
 |.arr m e,.c (.int _) n=>(T e).bind λei=>bif cx n m then match x with
  |.ptr kk row aa=>k (.ptr kk row (aa+n.toNat*ei.size)) [] [] []
  |.qt kk r aa=>k (.qt kk r (aa+n.toNat*ei.size)) [] [] []
  |.rp c y aa=>k (.rp c y (aa+n.toNat*ei.size)) [] [] []
  |_=>none
  else none
 |_,_=>none
def UI(x:DV X)(j:Nat)(k:KK X A):Option A:=
 match x with
 |.eV vs=>(vs[j]?).bind λv=>k v [] [] []
 |_=>none
def GD(op:BinOp)(kd:IntKind)(a b:Int):(DV X)×Option Bool:=
 match op with
 |.add=>(.c (.int kd) (kd.wrap (a+b)),none)
 |.sub=>(.c (.int kd) (kd.wrap (a-b)),none)
 |.mul=>(.c (.int kd) (kd.wrap (a*b)),none)
 |.quo=>(.c (.int kd) (kd.wrap (a.tdiv b)),some (b !=0))
 |.rem=>(.c (.int kd) (a.tmod b),some (b !=0))
 |.and=>(.c (.int kd) (bits .and kd a b),none)
 |.or=>(.c (.int kd) (bits .or kd a b),none)
 |.xor=>(.c (.int kd) (bits .xor kd a b),none)
 |.andNot=>(.c (.int kd) (bits .andNot kd a b),none)
 |.shl=>(.c (.int kd) (kd.wrap (a*2 ^ b.toNat)),some (decide (0<=b)&&decide (b<=kd.bits)))
 |.shr=>(.c (.int kd) (a/2 ^ b.toNat),some (decide (0<=b)&&decide (b<=kd.bits)))
 |.eql=>(.c .bool (a==b),none)
 |.neq=>(.c .bool (a !=b),none)
 |.lss=>(.c .bool (decide (a<b)),none)
 |.leq=>(.c .bool (decide (a<=b)),none)
 |.gtr=>(.c .bool (decide (a>b)),none)
 |.geq=>(.c .bool (decide (a>=b)),none)
def aat:Nat->DV X->DV X->Option Bool
 | 0,.c (.int j) a,.c (.int k) b=>if j=k then some (iN a==iN b)else none
 | 1,.c .bool a,.c .bool b=>some (bN a==bN b)
 | 2,.c .str a,.c .str b=>some (a.toList==b.toList)
 |_,_,_=>none
def GH:List Nat->List (DV X)->List (DV X)->Option Bool
 |[],[],[]=>some true
 |k::ks,x::xs,y::ys=>(aat k x y).bind λa=>(GH ks xs ys).bind λb=>some (a&&b)
 |_,_,_=>none
def Rg:DV X->Option (List (DV X))
 |.agg cs=>some cs
 |.c (.st i) y=>some (uQ (.st i) y)
 |_=>none
def amV(op:BinOp)(t:TypeId)(x y:DV X)(k:KK X A):Option A:=
 match x,y with
 |.c (.int kd) a,.c (.int yk) b=>if kd=yk\/op=.shl\/op=.shr then match (GD op kd a b:DV X×Option Bool).2 with
  |none=>k (GD op kd a b).1 [] [] []
  |some g=>bif g then k (GD op kd a b).1 [] [] []else none
  else none
 |.c .str a,.c .str b=>match op with
  |.eql=>k (.c .bool (a.toList==b.toList)) [] [] []
  |.neq=>k (.c .bool (!(a.toList==b.toList))) [] [] []
  |.lss=>k (.c .bool (UF a b)) [] [] []
  |.gtr=>k (.c .bool (!(UF a b || a.toList==b.toList))) [] [] []
  |.add=>bif UG a b then k (.c .str (a++b)) [] [] []else none
  |_=>none
 |.c .bool a,.c .bool b=>(T t).bind λti=>match ti.k,op with
  |.bool,.eql=>k (.c .bool (bN a==bN b)) [] [] []
  |.bool,.neq=>k (.c .bool (!(bN a==bN b))) [] [] []
  |_,_=>none
 |x,y=>(Rg x).bind λxs=>(Rg y).bind λys=>(T t).bind λti=>if ti.cmp=[]then none else(GH ti.cmp xs ys).bind λb=>match op with
  |.eql=>k (.c .bool b) [] [] []
  |.neq=>k (.c .bool (!b)) [] [] []
  |_=>none
def TO(op:UnOp)(x:DV X)(k:KK X A):Option A:=
 match op,x with
 |.not,.c .bool b=>k (.c .bool (!b)) [] [] []
 |.neg,.c (.int kd) n=>k (.c (.int kd) (kd.wrap (0-iN n))) [] [] []
 |_,_=>none
def I7(mx:Bool)(kd:IntKind):Int->List (DV X)->Option Int
 |a,[]=>some a
 |a,.c (.int k') b::r=>if k'=kd then I7 mx kd (if mx then max a b else min a b) r else none
 |_,_=>none
def Pl(mx:Bool)(args:List (DV X))(k:KK X A):Option A:=
 match args with
 |.c (.int kd) a::r=>(I7 mx kd a r).bind λn=>k (.c (.int kd) n) [] [] []
 |_=>none
def amW(t:TypeId)(x:DV X)(k:KK X A):Option A:=
 (T t).bind λti=>match ti.k,x with
 |.slice _,.c (.sl _) l=>k (.c (.int .i64) (l.length:Int)) [] [] []
 |.slice _,.own _ _ len=>k (.c (.int .i64) (len:Int)) [] [] []
 |.slice _,.oz _ len=>k (.c (.int .i64) (len:Int)) [] [] []
 |.slice _,.nil=>k (.c (.int .i64) (0:Int)) [] [] []
 |.str,.c .str s=>k (.c (.int .i64) (s.size:Int)) [] [] []
 |_,_=>none
def YS(place:Nat->Option (Nat×Nat)):List (DV X)->List (Nat×DV X)->Option (List (DV X))
 |cells,[]=>some cells
 |cells,(j,x)::ae=>(place j).bind λp=>(cellsD x).bind λcs=>
  if cs.length=p.2/\p.1+cs.length<=cells.length then YS place (No cells p.1 cs) ae else none
def ae6(t:TypeId)(parts:List (Nat×DV X))(k:KK X A):Option A:=
 (T t).bind λti=>match ti.k with
 |.struct fs=>if fs.all (λ p=>(T p.2).isSome)then
  (YS (λ j=>(fs[j]?).bind λp=>(T p.2).bind λui=>some (p.1,ui.size)) (ti.zero.map wi) parts).bind λcells=>k (.agg cells) [] [] []else none
 |.arr _ e=>(T e).bind λei=>(YS (λ j=>some (j*ei.size,ei.size)) (ti.zero.map wi) parts).bind λcells=>k (.agg cells) [] [] []
 |_=>none
def Nm(c:CT X.ι):Nat->List (Nat×DV X)->Option (List (CT.T X.toSE c))
 |_,[]=>some []
 |n,(j,x)::r=>if j=n then(dat x c).bind λy=>(Nm c (n+1) r).bind λl=>some (y::l)else none
def GI(i:Nat)(t:TypeId)(len:Nat)(parts:List (Nat×DV X))(k:KK X A):Option A:=
 (T t).bind λti=>match ti.k with
 |.slice e=>(T e).bind λei=>(code e).bind λc=>if ei.size=0\/len*ei.size>2 ^ 24\/CT.sz X c≠ei.size\/parts.length≠len then none else
  (Nm c 0 parts).bind λl=>k (.own (cE i) 0 len) [(cE i,some (.ec c l))] [] []
 |_=>none
def ae7(i:Nat)(e:TypeId)(k:KK X A):Option A:=
 (T e).bind λti=>k (.ptr (cE i) 0 0) [(cE i,some (.cells ti.size [ti.zero.map wi]))] [] []
def amX(i:Nat)(x:DV X)(k:KK X A):Option A:=
 (cellsD x).bind λcs=>k (.ptr (cE i) 0 0) [(cE i,some (.cells cs.length [cs]))] [] []
def AG(d:Int):Option (DV X)->Option Int
 |none=>some d
 |some (.c (.int _) n)=>some n
 |_=>none
def ae8(t:TypeId)(x:DV X)(lo hi:Option (DV X))(get:Nat->Option (br X))(k:KK X A):Option A:=
 (T t).bind λti=>match ti.k with
 |.slice e=>(T e).bind λei=>match x with
  |.own kk aa len=>(get kk).bind λo=>if (bH o).sz=ei.size then(AG 0 lo).bind λl=>(AG len hi).bind λh=>
   bif sI l h len then k (.own kk (aa+l.toNat) (h.toNat-l.toNat)) [] [kk] []else none else none
  |.c (.sl c) xs=>if CT.sz X c=ei.size then(AG 0 lo).bind λl=>(AG xs.length hi).bind λh=>
   bif sI l h xs.length then k (.c (.sl c) (sub xs l.toNat (h.toNat-l.toNat))) [] [] []else none else none
  |_=>none
 |_=>none
def amY(y:DV X)(c:CT X.ι)(get:Nat->Option (br X)):Option (Nat×List (CT.T X.toSE c)×List Nat):=
 match y with
 |.own kk aa len=>(get kk).bind λo=>match o with
  |.ec b l=>(lq (.sl b) (.sl c) l).bind λl=>some (len,sub l aa len,[kk])
  |_=>none
 |.c b l=>(lq b (.sl c) l).bind λ(l:List (CT.T X.toSE c))=>some (l.length,l,[])
 |_=>none
def UJ{α:Type}:Nat->List α->List α
 | 0,l=>l
 |n+1,l=>l.drop (n+1)
def aau(i:Nat)(t:TypeId)(x y:DV X)(get:Nat->Option (br X))(k:KK X A):Option A:=
 (T t).bind λti=>match ti.k with
 |.slice e=>(T e).bind λei=>(code e).bind λc=>if CT.sz X c=ei.size then(amY y c get).bind λs=>match x with
  |.own kk aa len=>(get kk).bind λo=>match o with
   |.ec b l=>(lq (.sl b) (.sl c) l).bind λ(l:List (CT.T X.toSE c))=>bif bL (UJ aa l).length len s.2.1.length s.1 ei.bytes then jy (UJ aa l++s.2.1) λr=>k (.own (cE i) 0 r.length) [(cE i,some (.ec c r)),(kk,none)] (kk::s.2.2) [kk]else none
   |_=>none
  |.nil=>bif bL 0 0 s.2.1.length s.1 ei.bytes then jy s.2.1 λr=>k (.own (cE i) 0 r.length) [(cE i,some (.ec c r))] s.2.2 []else none
  |_=>none
  else none
 |_=>none
def UK(i:Nat)(b:Builtin)(args:List (DV X))(cW:List TypeId)(get:Nat->Option (br X))(k:KK X A):Option A:=
 match b,args,cW with
 |.len,[x],[t]=>amW T t x k
 |.max,args,_=>Pl true args k
 |.min,args,_=>Pl false args k
 |.append,[x,y],[t,u]=>if t=u then aau T code i t x y get k else none
 |_,_,_=>none
def Pc(i:Nat)(o:Op)(ρ:Operand->DV X)(get:Nat->Option (br X))(k:KK X A):Option A:=
 match o with
 |.move x=>k (ρ x) [] [] []
 |.assign x=>k (ρ x) [] [] []
 |.pick c a b=>match ρ c with|.c .bool t=>k (ajJ t (ρ a) (ρ b)) [] [] []|_=>none
 |.alloc e=>ae7 T i e k
 |.box _ x=>amX i (ρ x) k
 |.build t parts=>ae6 T t (parts.toList.map λp=>(p.1,ρ p.2)) k
 |.buildSlice t len parts=>GI T code i t len (parts.toList.map λp=>(p.1,ρ p.2)) k
 |.load t a=>Vc T t (ρ a) get k
 |.store t a x=>T0 T t (ρ a) (ρ x) get k
 |.binOp op t x y _=>amV T op t (ρ x) (ρ y) k
 |.unOp op _ x=>TO op (ρ x) k
 |.makeFunc (.func f) first caps=>k (.fn f (first.toList.map ρ) (caps.toList.map ρ)) [] [] []
 |.slice t x lo hi none=>ae8 T t (ρ x) (lo.map ρ) (hi.map ρ) get k
 |.fieldAddr t x f=>KA T t (ρ x) f k
 |.field t x f=>ae5 T t (ρ x) f k
 |.indexAddr t x j=>KC T t (ρ x) (ρ j) get k
 |.extract x j=>UI (ρ x) j k
 |.call { callee:=.builtin b,args:=args,argTypes:=cW }=>UK T code i b (args.toList.map ρ) cW.toList get k
 |_=>none
end
section
variable {X:SX} {A:Type} {T:ed} {code:TypeId->Option (CT X.ι)} {get:Nat->Option (br X)} {k:KK X A} {r:A} {i:Nat}
def fV(get:Nat->Option (br X)):Nat->Option aM:=λj=>(get j).map bH
theorem fE{rd:List Nat}{j:Nat}{o:br X}(hj:j∈rd)(h:get j=some o):dK rd (fV get) j=some (bH o):=by simp[dK,hj,fV,h]
theorem iR(l:List (DV X)):(bF l).length=l.length:=by simp[nU]
theorem kM(l:List (DV X))(a b:Nat):bF ((l.drop a).take b)=((bF l).drop a).take b:=by simp[nU]
theorem LQ{α:Type}{l:List α}{n:Int}{x:α}(h:b7 l n=some x):0<=n/\l[n.toNat]? =some x:=by
 unfold b7 at h
 all_goals grind
theorem ah9(t:Bool)(x y:DV X):den (ajJ t x y)=Ok t (den x) (den y):=by
 rw[T9];have base:∀x y:DV X,den (bif t then x else y)=if t=true then den x else den y:=λx y=>by cases t<;>rfl
 unfold ajJ;split;split;rename_i h _;subst h;cases t<;>rfl;exact base _ _;exact base _ _
theorem BQ{agg:Bool}{size:Nat}{cs:List (DV X)}{v:DV X}(h:GA agg size cs=some v):part' agg size (bF cs)=some (den v):=by
 unfold GA at h;unfold part';rw[iR];split at h;rename_i hl;rw[aX hl];cases agg with
 |true=>simp at h ⊢;subst h;rfl
 |false=>
  simp at h ⊢
  match cs,h with
  |[x],h=>
   simp only at h;split at h;rename_i hx;cases h;simp only[bF];rw[aX (QM hx)];cases h
  |[],h|_::_::_,h=>cases h
 cases h
theorem OH{agg:Bool}{size aa:Nat}{c:CT X.ι}{y:CT.T X.toSE c}{v:DV X}(h:GA agg size (((uQ c y).drop aa).take size)=some v):part' agg size ((((CT.row X.toSE c y).drop aa).take size).map AV.t)=some (den v):=by have:=BQ h;rw[kM,o6]at this;rw[<- this,map_take,map_drop]
theorem YT{agg:Bool}{size aa:Nat}{c:CT X.ι}{y:CT.T X.toSE c}{v:DV X}(h:SM agg size c y aa=some v):part' agg size ((((CT.row X.toSE c y).drop aa).take size).map AV.t)=some (den v):=by
 cases c
 case st j=>
  simp[SM]at h;split at h;rename_i hh;obtain⟨rfl,rfl,rfl⟩:=hh;cases h;have hl:(CT.row X.toSE (.st j) y).length=(X.cW j).length:=Gz (.st j) y;rw[List.drop_zero,take_of_length_le (by omega)];unfold part';rw[aX (by simpa using hl)];rfl;exact OH h
 all_goals exact OH h
theorem aia{t:TypeId}{x:DV X}(h:Vc T t x get k=some r):∃co rd dv out,J4 T t (den x) co (dK rd (fV get))=some out/\kL out.obs/\out.v=den dv/\out.upd=[]/\k dv [] rd []=some r:=by unfold Vc at h;unfold J4;rw[ah]at h;obtain⟨ti,h1,h⟩:=h;simp only[h1,ai];split at h;rename_i kk row aa;rw[ah]at h;obtain⟨o,h2,h⟩:=h;split at h;rw[ah]at h;obtain⟨rw',h3,h⟩:=h;rw[ah]at h;obtain⟨v,h4,h⟩:=h;refine⟨.none,[kk],v,⟨den v,[],[]⟩,?_,trivial,rfl,rfl,h⟩;have h5:=BQ h4;rw[kM]at h5;simp[den,fE (List.mem_singleton_self kk) h2,bH,h3,h5,pv];cases h;rename_i kk n aa;rw[ah]at h;obtain⟨o,h2,h⟩:=h;split at h;rename_i c l;rw[ah]at h;obtain⟨y,h3,h⟩:=h;rw[ah]at h;obtain⟨v,h4,h⟩:=h;have⟨_,h6⟩:=LQ h3;refine⟨.row ((CT.row X.toSE c y).map AV.t),[kk],v,⟨den v,[],[(aI (l.map (CT.row X.toSE c)))[n.toNat]? =some ((CT.row X.toSE c y).map AV.t)]⟩,?_,?_,rfl,rfl,h⟩;have h5:=YT h4;rw[map_take,map_drop]at h5;simp[den,fE (List.mem_singleton_self kk) h2,bH,h5,m8];simp[kL,aI,h6];cases h;rename_i c y aa;have⟨v,h4,h⟩:=ah.1 h;refine⟨.none,[],v,⟨den v,[],[]⟩,?_,trivial,rfl,rfl,h⟩;simp only[den,YT h4,ai,pv];cases h
theorem UL(a:List (DV X))(aa:Nat)(cs:List (DV X)):bF (No a aa cs)=put' (bF a) aa (bF cs):=by simp[No,put',nU]
theorem oC{a c:CT X.ι}{x:CT.T X.toSE a}{y:CT.T X.toSE c}(h:lq a c x=some y):den (.c a x)=den (.c c y)/\CT.row X.toSE a x=CT.row X.toSE c y:=by
 obtain⟨e,h⟩:=rH h
 grind
theorem S5{c:CT X.ι}(hc:c.one=true)(x:CT.T X.toSE c):[(CT.tv X.toSE c x).av]=(CT.row X.toSE c x).map AV.t:=by obtain⟨t,h1,h2⟩:=row_one hc x;rw[h1,h2];rfl
theorem amE{c:CT X.ι}(x:CT.T X.toSE c):wk (CT.tv X.toSE c x).av=(CT.tv X.toSE c x).av:=by cases c<;>rfl
theorem vI{d:DV X}{c:CT X.ι}{x:CT.T X.toSE c}(h:Kz d c=some x):wk (den d)=(CT.tv X.toSE c x).av:=by unfold Kz at h;split at h;rw[(oC h).1];exact amE x;cases h;rfl;cases h;rfl;cases h
theorem ag7{d:DV X}{c:CT X.ι}{x:CT.T X.toSE c}(hc:c.one=true)(h:Kz d c=some x):vv d=true:=by
 cases d
 case c a y=>
  obtain⟨e,_⟩:=rH (show lq a c y=some x by cases c<;>exact h);subst e;cases a<;>first|rfl|simp[CT.one]at hc
 case nil=>rfl
 all_goals cases c<;>cases h
theorem yg:∀{ds:List (DV X)}{l:List (CT X.ι)}{h:HL X.toSE l},Dy ds l=some h->l.all CT.one=true->(bF ds).map wk=(HL.row X.toSE l h).map AV.t/\ds.all vv=true
 |[],[],h,_,_=>⟨rfl,rfl⟩
 |d::ds,c::l,h,hr,ha=>by simp[Dy]at hr;have⟨x,h1,hr⟩:=ah.1 hr;have⟨g,h2,hr⟩:=ah.1 hr;cases hr;simp only[all_cons,bg]at ha ⊢;have⟨i1,i2⟩:=yg h2 ha.2;simp[bF,HL.row,i1,vI h1,i2,ag7 ha.1 h1];simp[<- S5 ha.1 x]
 |[],_::_,_,hr,_|_::_,[],_,hr,_=>by simp[Dy]at hr
theorem UM(j:X.ι)(h:HL X.toSE (X.cW j)):CT.row X.toSE (.st j) (X.make j h)=HL.row X.toSE (X.cW j) h:=X.gb j h
theorem alD{c:CT X.ι}(hc:c.one=true){ds:List (DV X)}{x:CT.T X.toSE c}(h:mk1 c ds=some x):(bF ds).map wk=(CT.row X.toSE c x).map AV.t:=by
 match ds,h with
 |[d],h=>
  rw[<- S5 hc x];simp[bF,vI h]
 |[],h|_::_::_,h=>cases h
theorem xN{c:CT X.ι}{ds:List (DV X)}{x:CT.T X.toSE c}(h:LP c ds=some x):(bF ds).map wk=(CT.row X.toSE c x).map AV.t:=by
 cases c
 case st j=>
  simp[LP]at h;have⟨g,h1,h⟩:=ah.1 h;cases h;rw[(yg h1 (X.flat j)).1,UM]
 all_goals exact alD rfl h
theorem ae9{d:DV X}{c:CT X.ι}(hc:c.one=true){x:CT.T X.toSE c}(h:Kz d c=some x):∃cs,cellsOf (den d)=some cs/\cs.map wk=(CT.row X.toSE c x).map AV.t:=by
 have hk:=ag7 hc h;have hd:=vI h;have he:cellsOf (den d)=some [den d]:=by
  have:=Dx (x:=d) (cs:=[d]) (by
   cases d
   case c t y=>cases t<;>first|rfl|simp[vv]at hk
   all_goals first|rfl|simp[vv]at hk)
  simpa[bF]using this
 exact⟨_,he,by rw[<- S5 hc x];simp[hd]⟩
theorem aib{d:DV X}{c:CT X.ι}{x:CT.T X.toSE c}(h:dat d c=some x):∃cs,cellsOf (den d)=some cs/\cs.map wk=(CT.row X.toSE c x).map AV.t:=by
 cases c
 case st j=>
  replace h:FS d j=some x:=h
  cases d
  case agg cs=>
   simp[FS]at h;rw[ah]at h;obtain⟨g,h1,h⟩:=h;cases h;have⟨i1,i2⟩:=yg h1 (X.flat j);refine⟨bF cs,?_,by rw[i1,UM]⟩;simp only[den,cellsOf];rw[aX (ag4 i2)]
  case c a y=>
   rw[(oC h).1];refine⟨(CT.row X.toSE (.st j) x).map AV.t,?_,?_⟩;show cellsOf (.agg _)=_;simp only[cellsOf];rw[aX];rfl;rw[List.all_map,all_eq_true];exact λ_ _=>rfl;rw[map_map];rfl
  all_goals cases h
 all_goals exact ae9 rfl h
theorem aic{t:TypeId}{x y:DV X}(h:T0 T t x y get k=some r):∃co kk u out,TP T t (den x) (den y) co (dK [kk] (fV get))=some out/\kL out.obs/\out.v=.undef/\out.upd=jm [(kk,u)]/\k .undef [(kk,u)] [kk] [kk]=some r:=by
 unfold T0 at h;unfold TP;rw[ah]at h;obtain⟨ti,h1,h⟩:=h;rw[ah]at h;obtain⟨cs,h2,h⟩:=h;simp[h1,Dx h2];split at h;rename_i hl;have hdl:(bF cs).length=ti.size:=by rw[iR];exact hl
 simp[hdl];split at h;rename_i kk row aa;rw[ah]at h;obtain⟨o,h3,h⟩:=h;split at h;rw[ah]at h;obtain⟨rw',h4,h⟩:=h;split at h;rename_i hle;refine⟨.none,kk,_,⟨.undef,_,[]⟩,?_,trivial,rfl,rfl,h⟩;simp only[den,fE (List.mem_singleton_self kk) h3,ai,bH,List.getElem?_map,h4,Option.map_some,iR];rw[aX (by rw[<- hl];exact hle)];simp[UL];cases h;cases h;rename_i kk n aa;rw[ah]at h;obtain⟨o,h3,h⟩:=h;split at h;rename_i c l;rw[ah]at h;obtain⟨z,h4,h⟩:=h;split at h;rename_i hle;have⟨z',h5,h⟩:=ah.1 h;have⟨_,h6⟩:=LQ h4;refine⟨.set ((CT.row X.toSE c z).map AV.t) (aI ((l.set n.toNat z').map (CT.row X.toSE c))),kk,_,⟨.undef,_,[(aI (l.map (CT.row X.toSE c)))[n.toNat]? =some ((CT.row X.toSE c z).map AV.t)/\aI ((l.set n.toNat z').map (CT.row X.toSE c))=dW ((aI (l.map (CT.row X.toSE c))).set n.toNat (put' ((CT.row X.toSE c z).map AV.t) aa (bF cs)))]⟩,?_,?_,rfl,rfl,h⟩;simp only[den,fE (List.mem_singleton_self kk) h3,ai,bH];rw[aX (by rw[length_map,Gz,<- hl];exact hle)];simp[bH];refine⟨by simp[aI,h6],?_⟩;have h7:=xN h5;rw[UL,o6]at h7;have hid:dW (aI (l.map (CT.row X.toSE c)))=aI (l.map (CT.row X.toSE c)):=by simp[dW,aI,wk]
 simp[dW,h7];have:(aI (l.map (CT.row X.toSE c))).map (List.map wk)=aI (l.map (CT.row X.toSE c)):=hid;rw[this];simp[aI];cases h;cases h;cases h;cases h
theorem OI{t:TypeId}{x:DV X}{f:Nat}(h:KA T t x f k=some r):∃dv out,xX T t (den x) f=some out/\kL out.obs/\out.v=den dv/\out.upd=[]/\k dv [] [] []=some r:=by unfold KA at h;unfold xX;rw[ah]at h;obtain⟨⟨d,u⟩,h1,h⟩:=h;simp[h1];split at h;exact⟨_,_,rfl,trivial,rfl,rfl,h⟩;exact⟨_,_,rfl,trivial,rfl,rfl,h⟩;exact⟨_,_,rfl,trivial,rfl,rfl,h⟩;cases h
theorem aaw{t:TypeId}{x:DV X}{f:Nat}(h:ae5 T t x f k=some r):∃dv out,TQ T t (den x) f=some out/\kL out.obs/\out.v=den dv/\out.upd=[]/\k dv [] [] []=some r:=by unfold ae5 at h;unfold TQ;rw[ah]at h;obtain⟨⟨d,u⟩,h1,h⟩:=h;simp[h1];split at h;rw[ah]at h;obtain⟨v,h2,h⟩:=h;have h3:=BQ h2;rw[kM]at h3;exact⟨v,⟨den v,[],[]⟩,by simp[den,h3,pv],trivial,rfl,rfl,h⟩;rename_i j y;have⟨v,h2,h⟩:=ah.1 h;have h3:=OH h2;rw[map_take,map_drop]at h3;refine⟨v,⟨den v,[],[]⟩,?_,trivial,rfl,rfl,h⟩;show(part' u.agg u.size (List.take u.size (List.drop d ((CT.row X.toSE (.st j) y).map AV.t)))).bind pv=_;rw[h3];rfl;cases h
theorem dR{α:Type}{b:Bool}{x:Option α}{r:α}(h:(bif b then x else none)=some r):b=true/\x=some r:=by grind
theorem UN{n:Int}{len:Nat}(h:cx n len=true):0<=n/\n.toNat<len:=by simp[cx]at h;omega
theorem pY{A:Type}:∀{cs:List Bool}{k:Option A}{r:A},UH cs k=some r->(∀ c∈cs,c=true)/\k=some r
 |[],_,_,h=>⟨by simp,h⟩
 |c::cs,k,r,h=>by have⟨h1,h2⟩:=dR h;have⟨h3,h4⟩:=pY h2;exact⟨λ x hx=>(aR.1 hx).elim (λ e=>e ▸ h1) (h3 x),h4⟩
theorem OJ{t:TypeId}{x j:DV X}(h:KC T t x j get k=some r):∃co rd dv out,mh T t (den x) (den j) co (dK rd (fV get))=some out/\kL out.obs/\out.v=den dv/\out.upd=[]/\k dv [] rd []=some r:=by unfold KC at h;unfold mh;rw[ah]at h;obtain⟨ti,h1,h⟩:=h;simp[h1];split at h;rename_i e kd n hk;rw[ah]at h;obtain⟨ei,h2,h⟩:=h;simp[hk,den,CT.tv,TV.av,h2];split at h;rename_i c l;split at h;rename_i hs;rw[ah]at h;obtain⟨y,h3,h⟩:=h;have⟨h4,h5⟩:=LQ h3;refine⟨.sy (CT.row X.toSE c y),[],_,⟨.ep (CT.row X.toSE c y) 0,[],[0<=n/\(l.map (CT.row X.toSE c))[n.toNat]? =some (CT.row X.toSE c y)]⟩,?_,?_,rfl,rfl,h⟩;simp only[den,CT.tv,TV.av];rw[aX (by rw[Gz];exact hs)];rfl;exact⟨h4,by simp[h5]⟩;cases h;rename_i kk aa len;rw[ah]at h;obtain⟨o,h3,h⟩:=h;split at h;rename_i c l;split at h;rename_i hs;have⟨h4,h⟩:=dR h;have⟨h5,h6⟩:=UN h4;refine⟨.none,[kk],_,⟨.ptr kk (aa+n.toNat) 0,[],[0<=n/\n.toNat<len]⟩,?_,⟨h5,h6⟩,?_,rfl,h⟩;simp only[den,fE (List.mem_singleton_self kk) h3,ai,bH];rw[aX hs];rfl;simp[iN];congr 1;have:(0:Int)<=n:=h5;omega;cases h;rename_i sz rows;split at h;rename_i hs;have⟨h4,h⟩:=dR h;have⟨h5,h6⟩:=UN h4;refine⟨.none,[kk],_,⟨.ptr kk (aa+n.toNat) 0,[],[0<=n/\n.toNat<len]⟩,?_,⟨h5,h6⟩,rfl,rfl,h⟩;simp only[den,fE (List.mem_singleton_self kk) h3,ai,bH];rw[aX hs];rfl;cases h;cases h;cases h;rename_i m e kd n hk;have⟨ei,h2,h⟩:=ah.1 h;simp[hk,den,CT.tv,TV.av,h2];have⟨h4,h⟩:=dR h;have⟨h5,h6⟩:=UN h4;split at h;exact⟨.none,[],_,_,rfl,⟨h5,h6⟩,rfl,rfl,h⟩;exact⟨.none,[],_,_,rfl,⟨h5,h6⟩,rfl,rfl,h⟩;exact⟨.none,[],_,_,rfl,⟨h5,h6⟩,rfl,rfl,h⟩;cases h;cases h
theorem UO{x:DV X}{j:Nat}(h:UI x j k=some r):∃dv out,Gq (den x) j=some out/\kL out.obs/\out.v=den dv/\out.upd=[]/\k dv [] [] []=some r:=by unfold UI at h;split at h;have⟨v,h2,h⟩:=ah.1 h;refine⟨v,⟨den v,[],[]⟩,?_,trivial,rfl,rfl,h⟩;simp[Gq,den,nU,h2,pv];cases h
end
section
variable {X:SX} {A:Type} {T:ed} {code:TypeId->Option (CT X.ι)} {get:Nat->Option (br X)} {k:KK X A} {r:A} {i:Nat}
theorem aax{op:BinOp}{kd:IntKind}{a b:Int}:∃v obs,TN op kd a b=some (v,obs)/\den (GD (X:=X) op kd a b).1=.t (.sc v)/\(∀ g,(GD (X:=X) op kd a b).2=some g->g=true->kL obs)/\((GD (X:=X) op kd a b).2=none->kL obs):=by
 cases op<;>refine⟨_,_,rfl,rfl,λg hg ht=>?_,λhn=>?_⟩<;>simp[GD]at* <;>try trivial
 all_goals subst hg;simp_all [kL]
theorem acv{n:Nat}{x y:DV X}{b:Bool}(h:aat n x y=some b):Kw n (den x) (den y)=some b:=by unfold aat at h;split at h;split at h;cases h;simp only[den,CT.tv,TV.av,Kw];rw[aX ‹_›];cases h;exact h;exact h;cases h
theorem LU:∀{ks:List Nat}{xs ys:List (DV X)}{b:Bool},GH ks xs ys=some b->sN ks (bF xs) (bF ys)=some b
 |[],[],[],b,h=>h
 |k::ks,x::xs,y::ys,b,h=>by simp[GH]at h;rw[ah]at h;obtain⟨p,h1,h⟩:=h;rw[ah]at h;obtain⟨q,h2,h⟩:=h;simp[bF,sN,acv h1,LU h2,h]
 |[],_::_,_,_,h|[],[],_::_,_,h|_::_,[],_,_,h|_::_,_::_,[],_,h=>by simp[GH]at h
theorem acw{x:DV X}{xs:List (DV X)}(h:Rg x=some xs):den x=.agg (bF xs):=by unfold Rg at h;split at h;cases h;rfl;cases h;rw[o6];rfl;cases h
theorem afa{op:BinOp}{t:TypeId}{x y:DV X}(h:amV T op t x y k=some r):∃dv out,XF T op t (den x) (den y)=some out/\kL out.obs/\out.v=den dv/\out.upd=[]/\k dv [] [] []=some r:=by
 unfold amV at h;split at h;rename_i kd a yk b;split at h;rename_i hk;have⟨v,obs,h1,h2,h3,h4⟩:=aax (X:=X) (op:=op) (kd:=kd) (a:=a) (b:=b);have fin:kL obs->k (GD op kd a b).1 [] [] []=some r->∃dv out,XF T op t (den (.c (.int kd) a:DV X)) (den (.c (.int yk) b:DV X))=some out/\kL out.obs/\out.v=den dv/\out.upd=[]/\k dv [] [] []=some r:=by intro ho hkk;refine⟨_,⟨.t (.sc v),[],obs⟩,?_,ho,h2.symm,rfl,hkk⟩;simp only[den,CT.tv,TV.av,XF];rw[aX hk,h1];rfl
 split at h;rename_i hn;exact fin (h4 hn) h;rename_i g hg;have⟨hgt,h⟩:=dR h;exact fin (h3 g hg hgt) h;cases h;split at h;exact⟨_,_,rfl,trivial,rfl,rfl,h⟩;exact⟨_,_,rfl,trivial,rfl,rfl,h⟩;exact⟨_,_,rfl,trivial,rfl,rfl,h⟩;exact⟨_,_,rfl,trivial,rfl,rfl,h⟩;have⟨hc,h⟩:=dR h;exact⟨_,_,rfl,show _<=maxLen from of_decide_eq_true hc,rfl,rfl,h⟩;cases h;rw[ah]at h;obtain⟨ti,h1,h⟩:=h;split at h;rename_i hk;refine⟨_,⟨.t (.sc (.bool _)),[],[]⟩,?_,trivial,rfl,rfl,h⟩;simp[XF,h1,hk];rfl;rename_i hk;refine⟨_,⟨.t (.sc (.bool _)),[],[]⟩,?_,trivial,rfl,rfl,h⟩;simp[XF,h1,hk];rfl;cases h;rw[ah]at h;obtain⟨xs,h1,h⟩:=h;rw[ah]at h;obtain⟨ys,h2,h⟩:=h;rw[ah]at h;obtain⟨ti,h3,h⟩:=h;split at h;cases h;rename_i hc;have⟨b,h4,h⟩:=ah.1 h;have h5:=LU h4;rw[acw h1,acw h2];split at h;refine⟨_,⟨.t (.sc (.bool b)),[],[]⟩,?_,trivial,rfl,rfl,h⟩;simp only[XF,h3,ai];rw[aV hc,h5];rfl;refine⟨_,⟨.t (.sc (.bool (!b))),[],[]⟩,?_,trivial,rfl,rfl,h⟩;simp only[XF,h3,ai];rw[aV hc,h5];rfl;cases h
theorem aid{op:UnOp}{x:DV X}(h:TO op x k=some r):∃dv out,Ts op (den x)=some out/\kL out.obs/\out.v=den dv/\out.upd=[]/\k dv [] [] []=some r:=by unfold TO at h;split at h;exact⟨_,_,rfl,trivial,rfl,rfl,h⟩;exact⟨_,_,rfl,trivial,rfl,rfl,h⟩;cases h
theorem QN(mx:Bool)(kd:IntKind):∀(l:List (DV X))(a n:Int),I7 mx kd a l=some n->Dl mx kd a (bF l)=some n
 |[],a,n,h=>h
 |x::l,a,n,h=>by
  cases x
  case c t y=>
   cases t
   case int k'=>
    simp only[I7]at h;simp only[bF,den,CT.tv,TV.av,Dl];split at h;rename_i hk;rw[aX hk];exact QN mx kd l _ _ h;cases h
   all_goals simp[I7]at h
  all_goals simp[I7]at h
theorem YU{mx:Bool}{args:List (DV X)}(h:Pl mx args k=some r):∃dv out,Hs mx (bF args)=some out/\kL out.obs/\out.v=den dv/\out.upd=[]/\k dv [] [] []=some r:=by unfold Pl at h;split at h;rename_i kd a l;rw[ah]at h;obtain⟨n,h1,h⟩:=h;refine⟨_,⟨.t (.sc (.int kd n)),[],[]⟩,?_,trivial,rfl,rfl,h⟩;simp[bF,den,CT.tv,TV.av,Hs];have:=QN mx kd l a n h1;simp[this];rfl;cases h
theorem afb{t:TypeId}{x:DV X}(h:amW T t x k=some r):∃co dv out,AW T t (den x) co=some out/\kL out.obs/\out.v=den dv/\out.upd=[]/\k dv [] [] []=some r:=by unfold amW at h;unfold AW;rw[ah]at h;obtain⟨ti,h1,h⟩:=h;simp[h1];split at h;rename_i e c l hk;simp[hk];exact⟨.num (l.length:Int),_,⟨.t (.sc (.int .i64 (l.length:Int))),[],[(l.length:Int)=((l.map (CT.row X.toSE c)).length:Int)]⟩,rfl,by simp[kL],rfl,rfl,h⟩;rename_i hk;simp[hk];exact⟨.none,_,_,rfl,trivial,rfl,rfl,h⟩;rename_i hk;simp[hk];exact⟨.none,_,_,rfl,trivial,rfl,rfl,h⟩;rename_i hk;simp[hk];exact⟨.none,_,_,rfl,trivial,rfl,rfl,h⟩;rename_i hk;simp[hk];exact⟨.none,_,_,rfl,trivial,rfl,rfl,h⟩;cases h
theorem OL(place:Nat->Option (Nat×Nat)):∀(parts:List (Nat×DV X))(cells out:List (DV X)),YS place cells parts=some out->ES place (bF cells) (parts.map λp=>(p.1,den p.2))=some (bF out)
 |[],cells,out,h=>by simp[YS]at h;subst h;rfl
 |(j,x)::ae,cells,out,h=>by simp[YS]at h;rw[ah]at h;obtain⟨⟨aa,size⟩,h1,h⟩:=h;rw[ah]at h;obtain⟨cs,h2,h⟩:=h;split at h;rename_i hl;simp only[bJ,ES,h1,Dx h2,ai,iR];rw[aX hl,<- UL];exact OL place ae _ _ h;cases h
theorem aay{t:TypeId}{parts:List (Nat×DV X)}(h:ae6 T t parts k=some r):∃dv out,TS T t (parts.map λp=>(p.1,den p.2))=some out/\kL out.obs/\out.v=den dv/\out.upd=[]/\k dv [] [] []=some r:=by unfold ae6 at h;unfold TS;rw[ah]at h;obtain⟨ti,h1,h⟩:=h;simp[h1];split at h;rename_i fs hk;split at h;rename_i ha;rw[ah]at h;obtain⟨cells,h2,h⟩:=h;have h3:=OL _ _ _ _ h2;rw[BP]at h3;refine⟨_,⟨.agg (bF cells),[],[]⟩,?_,trivial,rfl,rfl,h⟩;simp only[hk];rw[aX ha,h3];rfl;cases h;rename_i m e hk;rw[ah]at h;obtain⟨ei,h2,h⟩:=h;rw[ah]at h;obtain⟨cells,h3,h⟩:=h;have h4:=OL _ _ _ _ h3;rw[BP]at h4;refine⟨_,⟨.agg (bF cells),[],[]⟩,?_,trivial,rfl,rfl,h⟩;simp[hk,h2,h4];rfl;cases h
theorem YV(size:Nat)(c:CT X.ι)(hs:CT.sz X c=size)(z:List AV):∀(parts:List (Nat×DV X))(n:Nat)(l:List (CT.T X.toSE c))(done:List (List AV)),Nm c n parts=some l->done.length=n->
 ∃css:List (List AV),Ll size (done++List.replicate parts.length z) (parts.map λp=>(p.1,den p.2))=some (done++css)/\css.map (λ r=>r.map wk)=aI (l.map (CT.row X.toSE c))
 |[],n,l,done,h,_=>by simp[Nm]at h;subst h;exact⟨[],by simp[Ll],rfl⟩
 |(j,x)::ae,n,l,done,h,hd=>by
  simp only[Nm]at h;split at h;rename_i hj;subst hj;have⟨y,h1,h⟩:=ah.1 h;have⟨l',h2,h⟩:=ah.1 h;cases h;have⟨cs,g1,g2⟩:=aib h1;have hl:cs.length=size:=by have:=congrArg List.length g2;simp[Gz]at this;omega
  obtain⟨css,i1,i2⟩:=YV size c hs z ae (j+1) l' (done++[cs]) h2 (by simp[hd]);refine⟨cs::css,?_,?_⟩;simp only[bJ,Ll,g1,ai];rw[aX ⟨hl,by simp;omega⟩];have:(done++List.replicate (ae.length+1) z).set j cs=done++[cs]++List.replicate ae.length z:=by rw[List.set_append_right _ _ (by omega),hd];simp[List.replicate_succ]
  simp only[fU,this,i1];simp;simp[i2,g2,aI];cases h
theorem LV{t:TypeId}{len:Nat}{parts:List (Nat×DV X)}(h:GI T code i t len parts k=some r):∃dv u out,vH T i t len (parts.map λp=>(p.1,den p.2))=some out/\kL out.obs/\out.v=den dv/\out.upd=jm [(cE i,u)]/\k dv [(cE i,u)] [] []=some r:=by unfold GI at h;unfold vH;rw[ah]at h;obtain⟨ti,h1,h⟩:=h;simp[h1];split at h;rename_i e hk;rw[ah]at h;obtain⟨ei,h2,h⟩:=h;rw[ah]at h;obtain⟨c,h3,h⟩:=h;simp only[hk,h2,ai];split at h;cases h;rename_i hno;simp only[not_or,Decidable.not_not]at hno;obtain⟨n1,n2,n3,n4⟩:=hno;have⟨l,h4,h⟩:=ah.1 h;have⟨css,g1,g2⟩:=YV ei.size c n3 (ei.zero.map cv) parts 0 l [] h4 rfl;simp[n4]at g1;refine⟨_,_,⟨.own (cE i) 0 len,[(cE i,some ⟨ei.size,dW css⟩)],[]⟩,?_,trivial,rfl,?_,h⟩;rw[aV (by simp only[not_or];exact⟨n1,n2⟩),g1];rfl;simp[jm,bH,n3];rw[show dW css=aI (l.map (CT.row X.toSE c))from g2];cases h
theorem aaz{e:TypeId}(h:ae7 T i e k=some r):∃dv u out,TU T i e=some out/\kL out.obs/\out.v=den dv/\out.upd=jm [(cE i,u)]/\k dv [(cE i,u)] [] []=some r:=by unfold ae7 at h;unfold TU;have⟨ti,h1,h⟩:=ah.1 h;exact⟨_,_,⟨_,[(cE i,some ⟨ti.size,[ti.zero.map cv]⟩)],[]⟩,by simp[h1];rfl,trivial,rfl,by simp[jm,bH,BP],h⟩
theorem afc{x:DV X}(h:amX i x k=some r):∃dv u out,MY i (den x)=some out/\kL out.obs/\out.v=den dv/\out.upd=jm [(cE i,u)]/\k dv [(cE i,u)] [] []=some r:=by unfold amX at h;unfold MY;rw[ah]at h;obtain⟨cs,h1,h⟩:=h;exact⟨_,_,⟨_,[(cE i,some ⟨(bF cs).length,[bF cs]⟩)],[]⟩,by simp[Dx h1];rfl,trivial,rfl,by simp[jm,bH,iR],h⟩
theorem BR{d n:Int}{x:Option (DV X)}(h:AG d x=some n):bnd d (x.map den)=some n:=by unfold AG at h;split at h;exact h;exact h;cases h
theorem YW{l h:Int}{len:Nat}(hh:sI l h len=true):0<=l/\l<=h/\h<=(len:Int):=by simpa[sI,and_assoc]using hh
theorem aaA{t:TypeId}{x:DV X}{lo hi:Option (DV X)}(h:ae8 T t x lo hi get k=some r):∃co rd dv out,TW T t (den x) (lo.map den) (hi.map den) co (dK rd (fV get))=some out/\kL out.obs/\out.v=den dv/\out.upd=[]/\k dv [] rd []=some r:=by
 unfold ae8 at h;unfold TW;rw[ah]at h;obtain⟨ti,h1,h⟩:=h;simp[h1];split at h;rename_i e hk;rw[ah]at h;obtain⟨ei,h2,h⟩:=h;simp[hk,h2];split at h;rename_i kk aa len;rw[ah]at h;obtain⟨o,h3,h⟩:=h;split at h;rename_i hs;rw[ah]at h;obtain⟨l,h4,h⟩:=h;rw[ah]at h;obtain⟨hh,h5,h⟩:=h;have⟨h6,h⟩:=dR h;refine⟨.none,[kk],_,⟨.own kk (aa+l.toNat) (hh.toNat-l.toNat),[],[0<=l/\l<=hh/\hh<=(len:Int)]⟩,?_,YW h6,rfl,rfl,h⟩;simp only[den,fE (List.mem_singleton_self kk) h3,ai];rw[aX hs,BR h4,ai,BR h5];rfl;cases h;rename_i c xs;split at h;rename_i hs;have⟨l,h4,h⟩:=ah.1 h;have⟨hh,h5,h⟩:=ah.1 h;have⟨h6,h⟩:=dR h;refine⟨.Bs ((sub xs l.toNat (hh.toNat-l.toNat)).map (CT.row X.toSE c)),[],_,⟨.t (.sl ((sub xs l.toNat (hh.toNat-l.toNat)).map (CT.row X.toSE c))),[],[0<=l/\l<=hh/\hh<=((xs.map (CT.row X.toSE c)).length:Int)/\(sub xs l.toNat (hh.toNat-l.toNat)).map (CT.row X.toSE c)=((xs.map (CT.row X.toSE c)).drop l.toNat).take (hh.toNat-l.toNat)/\(∀ q∈xs.map (CT.row X.toSE c),q.length=ei.size)]⟩,?_,?_,rfl,rfl,h⟩;simp only[den,CT.tv,TV.av,BR h4,ai];have h7:bnd ((xs.map (CT.row X.toSE c)).length:Int) (hi.map den)=some hh:=by have:=BR h5;simpa using this
 rw[h7];rfl;have⟨a1,a2,a3⟩:=YW h6;refine⟨a1,a2,by simpa using a3,by simp[sub],λq hq=>?_⟩;obtain⟨y,_,rfl⟩:=mem_map.1 hq;rw[Gz];exact hs;cases h;cases h;cases h
end
section
variable {X:SX} {A:Type} {T:ed} {code:TypeId->Option (CT X.ι)} {get:Nat->Option (br X)} {k:KK X A} {r:A} {i:Nat}
theorem jA{b c:CT X.ι}{l:List (CT.T X.toSE b)}{l':List (CT.T X.toSE c)}(h:lq (.sl b) (.sl c) l=some l'):CT.sz X b=CT.sz X c/\l.map (CT.row X.toSE b)=l'.map (CT.row X.toSE c):=by
 obtain⟨e,h⟩:=rH h
 grind
theorem acy{y:DV X}{c:CT X.ι}{n:Nat}{l:List (CT.T X.toSE c)}{rd:List Nat}(h:amY y c get=some (n,l,rd))(hl:l.length=n)(rd':List Nat)(hrd:∀j∈rd,j∈rd'):
 ∃ob,TY (CT.sz X c) (den y) (dK rd' (fV get))=some (n,ob,aI (l.map (CT.row X.toSE c)))/\ob:=by unfold amY at h;split at h;rename_i kk aa len;rw[ah]at h;obtain⟨o,h1,h⟩:=h;split at h;rw[ah]at h;obtain⟨l1,h2,h⟩:=h;injection h with h;obtain⟨rfl,rfl,rfl⟩:=h;have⟨h3,h4⟩:=jA h2;refine⟨True,?_,trivial⟩;simp only[den,TY,fE (hrd kk (by simp)) h1,ai,bH];rw[aX h3];simp[h4];simp[aI,sub];cases h;rename_i b l0;have⟨l1,h2,h⟩:=ah.1 h;injection h with h;simp at h;obtain⟨rfl,rfl,rfl⟩:=h;refine⟨∀ q∈l1.map (CT.row X.toSE c),q.length=CT.sz X c,?_,?_⟩;rw[(oC h2).1];simp[den,CT.tv,TV.av,TY];intro q hq;obtain⟨z,_,rfl⟩:=mem_map.1 hq;exact Gz c z;cases h
theorem UQ{lo len ln n bytes:Nat}(h:bL lo len ln n bytes=true):lo=len/\ln=n/\(len+n)*bytes<=140737488355328/\len+n<=maxLen:=by simpa[bL,and_assoc]using h
theorem pn{α:Type}(n:Nat)(l:List α):UJ n l=l.drop n:=by cases n<;>rfl
theorem XQ{t:TypeId}{x y:DV X}(h:aau T code i t x y get k=some r):∃co rd wr dv upd out,zH T i t (den x) (den y) co (dK rd (fV get))=some out/\kL out.obs/\out.v=den dv/\out.upd=jm upd/\(∀ p∈upd,p.1=cE i\/p.1∈wr)/\k dv upd rd wr=some r:=by
 unfold aau at h;unfold zH;rw[ah]at h;obtain⟨ti,h1,h⟩:=h;simp only[h1,ai];split at h;rename_i e hk;rw[ah]at h;obtain⟨ei,h2,h⟩:=h;rw[ah]at h;obtain⟨c,h3,h⟩:=h;simp only[hk,h2,ai];split at h;rename_i hs;rw[ah]at h;obtain⟨⟨n,l,rd⟩,h4,h⟩:=h;split at h;rename_i kk aa len;have⟨o,h5,h⟩:=ah.1 h;split at h;have⟨l1,h6,h⟩:=ah.1 h;have⟨h7,h⟩:=dR h;rw[pn]at h7 h;have hd:(aI (l1.map (CT.row X.toSE c))).drop aa=aI ((l1.drop aa).map (CT.row X.toSE c)):=by simp[aI]
 have⟨g1,g2,g3,g4⟩:=UQ h7;have⟨h8,h9⟩:=jA h6;obtain⟨ob,i1,i2⟩:=acy h4 g2 (kk::rd) (λ j hj=>by simp[hj]);have i3:=fE (rd:=kk::rd) (by simp) h5
 refine⟨.rows (aI ((l1.drop aa++l).map (CT.row X.toSE c))),kk::rd,[kk],_,_,⟨.own (cE i) 0 (aI ((l1.drop aa++l).map (CT.row X.toSE c))).length,[(cE i,some ⟨ei.size,aI ((l1.drop aa++l).map (CT.row X.toSE c))⟩),(kk,none)],
  [ob/\(aI ((l1.drop aa).map (CT.row X.toSE c))).length=len/\(aI (l.map (CT.row X.toSE c))).length=n/\aI ((l1.drop aa++l).map (CT.row X.toSE c))=aI ((l1.drop aa).map (CT.row X.toSE c))++aI (l.map (CT.row X.toSE c))/\(len+n)*ei.bytes<=140737488355328/\len+n<=maxLen]⟩,?_,?_,?_,?_,?_,h⟩
 rw[hs]at i1;simp only[i1,ai,den,i3,bH,h9,hd];rw[aX (by rw[h8,hs])];exact⟨i2,by simpa[aI]using g1,by simpa[aI]using g2,by simp[aI],g3,g4⟩;simp[den,aI];simp[jm,bH,hs];intro p hp;simp at hp;rcases hp with rfl|rfl;exact .inl rfl;exact .inr (by simp);cases h;have⟨h7,h⟩:=dR h;have⟨g1,g2,g3,g4⟩:=UQ h7;obtain⟨ob,i1,i2⟩:=acy h4 g2 rd (λ j hj=>hj)
 refine⟨.rows (aI (l.map (CT.row X.toSE c))),rd,[],_,_,⟨.own (cE i) 0 (aI (l.map (CT.row X.toSE c))).length,[(cE i,some ⟨ei.size,aI (l.map (CT.row X.toSE c))⟩)],
  [ob/\(aI (l.map (CT.row X.toSE c))).length=n/\aI (l.map (CT.row X.toSE c))=aI (l.map (CT.row X.toSE c))/\n*ei.bytes<=140737488355328/\n<=maxLen]⟩,?_,?_,?_,?_,?_,h⟩
 rw[hs]at i1;simp[i1,den];exact⟨i2,by simpa[aI]using g2,rfl,by simpa using g3,by simpa using g4⟩;simp[den,aI];simp[jm,bH,hs];intro p hp;simp at hp;rcases hp with rfl;exact .inl rfl;cases h;cases h;cases h
def anE(T:ed)(i:Nat)(o:Oper)(ρ:Operand->DV X)(get:Nat->Option (br X))(k:KK X A)(r:A):Prop:=
 ∃co rd wr dv upd out,ql T i o co (λ x=>den (ρ x)) (dK rd (fV get))=some out/\kL out.obs/\out.v=den dv/\out.upd=jm upd/\(∀ p∈upd,p.1=cE i\/p.1∈wr)/\k dv upd rd wr=some r
theorem UR{b:Builtin}{args:List (DV X)}{cW:List TypeId}(h:UK T code i b args cW get k=some r):∃co rd wr dv upd out,BL T i b (bF args) cW co (dK rd (fV get))=some out/\kL out.obs/\out.v=den dv/\out.upd=jm upd/\(∀ p∈upd,p.1=cE i\/p.1∈wr)/\k dv upd rd wr=some r:=by unfold UK at h;unfold BL;split at h;have⟨co,dv,out,h1,h2,h3,h4,h5⟩:=afb h;exact⟨co,[],[],dv,[],out,h1,h2,h3,h4,by simp,h5⟩;have⟨dv,out,h1,h2,h3,h4,h5⟩:=YU h;exact⟨.none,[],[],dv,[],out,h1,h2,h3,h4,by simp,h5⟩;have⟨dv,out,h1,h2,h3,h4,h5⟩:=YU h;exact⟨.none,[],[],dv,[],out,h1,h2,h3,h4,by simp,h5⟩;split at h;rename_i htu;have⟨co,rd,wr,dv,upd,out,h1,h2⟩:=XQ h;refine⟨co,rd,wr,dv,upd,out,?_,h2⟩;simp only[bF];rw[aX htu];exact h1;cases h;cases h
theorem Tm(ρ:Operand->DV X)(l:List Operand):l.map (λ x=>den (ρ x))=bF (l.map ρ):=by rw[nU,map_map];rfl
theorem YX{o:Oper}{ρ:Operand->DV X}(h:Pc T code i o.op ρ get k=some r):anE T i o ρ get k r:=by
 obtain⟨dst,op,ty,am,after,guard⟩:=o;unfold anE ql;simp at h;unfold Pc at h;split at h;exact⟨.none,[],[],_,[],_,rfl,trivial,rfl,rfl,by simp,h⟩;exact⟨.none,[],[],_,[],_,rfl,trivial,rfl,rfl,by simp,h⟩;rename_i c a b;split at h;rename_i t hc;refine⟨.none,[],[],_,[],⟨Ok t (den (ρ a)) (den (ρ b)),[],[]⟩,?_,trivial,(ah9 t _ _).symm,rfl,by simp,h⟩;simp[hc,den,CT.tv,TV.av,pv];cases h;have⟨dv,u,out,h1,h2,h3,h4,h5⟩:=aaz h;exact⟨.none,[],[],dv,_,out,h1,h2,h3,h4,by simp,h5⟩;have⟨dv,u,out,h1,h2,h3,h4,h5⟩:=afc h;exact⟨.none,[],[],dv,_,out,h1,h2,h3,h4,by simp,h5⟩;rename_i t parts;have⟨dv,out,h1,h2,h3,h4,h5⟩:=aay h;refine⟨.none,[],[],dv,[],out,?_,h2,h3,h4,by simp,h5⟩;rw[map_map]at h1;exact h1;rename_i t len parts;have⟨dv,u,out,h1,h2,h3,h4,h5⟩:=LV h;refine⟨.none,[],[],dv,_,out,?_,h2,h3,h4,by simp,h5⟩;rw[map_map]at h1;exact h1;have⟨co,rd,dv,out,h1,h2,h3,h4,h5⟩:=aia h;exact⟨co,rd,[],dv,[],out,h1,h2,h3,h4,by simp,h5⟩;have⟨co,kk,u,out,h1,h2,h3,h4,h5⟩:=aic h;exact⟨co,[kk],[kk],.undef,_,out,h1,h2,h3,h4,by simp,h5⟩;have⟨dv,out,h1,h2,h3,h4,h5⟩:=afa h;exact⟨.none,[],[],dv,[],out,h1,h2,h3,h4,by simp,h5⟩;have⟨dv,out,h1,h2,h3,h4,h5⟩:=aid h;exact⟨.none,[],[],dv,[],out,h1,h2,h3,h4,by simp,h5⟩;rename_i f first caps
 refine⟨.none,[],[],_,[],⟨.fn f (first.toList.map λx=>den (ρ x)) (caps.toList.map λx=>den (ρ x)),[],[]⟩,rfl,trivial,?_,rfl,by simp,h⟩;simp[den,Tm];rename_i t x lo hi;have⟨co,rd,dv,out,h1,h2,h3,h4,h5⟩:=aaA h;refine⟨co,rd,[],dv,[],out,?_,h2,h3,h4,by simp,h5⟩;simp at h1;exact h1;have⟨dv,out,h1,h2,h3,h4,h5⟩:=OI h;exact⟨.none,[],[],dv,[],out,h1,h2,h3,h4,by simp,h5⟩;have⟨dv,out,h1,h2,h3,h4,h5⟩:=aaw h;exact⟨.none,[],[],dv,[],out,h1,h2,h3,h4,by simp,h5⟩;have⟨co,rd,dv,out,h1,h2,h3,h4,h5⟩:=OJ h;exact⟨co,rd,[],dv,[],out,h1,h2,h3,h4,by simp,h5⟩;have⟨dv,out,h1,h2,h3,h4,h5⟩:=UO h;exact⟨.none,[],[],dv,[],out,h1,h2,h3,h4,by simp,h5⟩;rename_i b args cW;have⟨co,rd,wr,dv,upd,out,h1,h2⟩:=UR h;refine⟨co,rd,wr,dv,upd,out,?_,h2⟩;simp[Tm];exact h1;cases h
end
inductive Pt(ι:Type) where
 |v (c:CT ι)
 |o (k:Nat)
 |p (k:Nat)
 |nil
 |f (F:FuncId) (fs cs:List (Pt ι))
 |od (k:Nat)
 |mp (k:Nat)
 |oz (k:Nat)
 |a (ps:List (Pt ι))
inductive OP(ι:Type) where
 |l (c:CT ι)
 |m (k v:CT ι)
 |c (sz:Nat) (rows:List (List (Pt ι)))
section
variable {ι:Type}
mutual
def Pt.vars:Pt ι->List (CT ι)
 |.v c=>[c]
 |.a ps=>cJ ps
 |.f _ fs cs=>cJ fs++cJ cs
 |.od _=>[.int .i64]
 |_=>[]
def cJ:List (Pt ι)->List (CT ι)
 |[]=>[]
 |p::ps=>p.vars++cJ ps
end
def gO:List (Nat×Pt ι)->List (CT ι)
 |[]=>[]
 |p::ps=>p.2.vars++gO ps
def vJ:List (List (Pt ι))->List (CT ι)
 |[]=>[]
 |r::rs=>cJ r++vJ rs
def da:List (Nat×OP ι)->List (CT ι)
 |[]=>[]
 |(_,.l c)::r=>.sl c::da r
 |(_,.m k v)::r=>.mp k v::da r
 |(_,.c _ rows)::r=>vJ rows++da r
end
section
variable {X:SX}
structure DC(X:SX) where
 c:CT X.ι
 x:CT.T X.toSE c
@[reducible] def VT:List (CT X.ι)->Type
 |[]=>Unit
 |[c]=>CT.T X.toSE c
 |c::c'::l=>CT.T X.toSE c×VT (c'::l)
def Fi:(l:List (CT X.ι))->List (DC X)->Option (VT (X:=X) l)
 |[],[]=>some ()
 |[c],[d]=>lq d.c c d.x
 |c::c'::l,d::ds=>(lq d.c c d.x).bind λx=>(Fi (c'::l) ds).bind λv=>some (x,v)
 |_,_=>none
def vK:(l:List (CT X.ι))->VT (X:=X) l->List (DC X)
 |[],_=>[]
 |[c],x=>[⟨c,x⟩]
 |c::c'::l,v=>⟨c,v.1⟩::vK (c'::l) v.2
theorem acz{d:DC X}{c:CT X.ι}{x:CT.T X.toSE c}(h:lq d.c c d.x=some x):(⟨c,x⟩:DC X)=d:=by obtain⟨a,y⟩:=d;have⟨e,h⟩:=rH h;simp at e;subst e;subst h;rfl
theorem UU:∀{l:List (CT X.ι)}{ds:List (DC X)}{v:VT (X:=X) l},Fi l ds=some v->vK l v=ds
 |[],[],_,_=>rfl
 |[c],[d],v,h=>by simp[Fi]at h;simp[vK,acz h]
 |c::c'::l,d::ds,v,h=>by simp[Fi]at h;rw[ah]at h;obtain⟨x,h1,h⟩:=h;rw[ah]at h;obtain⟨v',h2,h⟩:=h;cases h;simp[vK,acz h1,UU h2]
 |[],_::_,_,h|[_],[],_,h|[_],_::_::_,_,h|_::_::_,[],_,h=>by simp[Fi]at h
theorem UW{c:CT X.ι}(x:CT.T X.toSE c):lq c c x=some x:=by unfold lq;split;rfl;rename_i h _;exact absurd rfl h
def YZ(d:DC X):Nat:=match lq d.c (.int .i64) d.x with|some x=>Int.toNat x|none=>0
section
variable (dp:Nat->Nat)
mutual
def eP:Pt X.ι->List (DC X)->DV X×List (DC X)
 |.v _,L=>match L with
  |d::r=>(.c d.c d.x,r)
  |[]=>(.undef,[])
 |.o k,L=>(.own k 0 (dp k),L)
 |.p k,L=>(.ptr k 0 0,L)
 |.mp k,L=>(.mp k,L)
 |.oz k,L=>(.oz k (dp k),L)
 |.nil,L=>(.nil,L)
 |.f F fs cs,L=>(.fn F (k8 fs L).1 (k8 cs (k8 fs L).2).1,(k8 cs (k8 fs L).2).2)
 |.od k,L=>match L with
  |d::r=>(.own k (YZ d) (dp k-YZ d),r)
  |[]=>(.undef,[])
 |.a ps,L=>(.agg (k8 ps L).1,(k8 ps L).2)
def k8:List (Pt X.ι)->List (DC X)->List (DV X)×List (DC X)
 |[],L=>([],L)
 |p::ps,L=>((eP p L).1::(k8 ps (eP p L).2).1,(k8 ps (eP p L).2).2)
end
def wB:List (Nat×Pt X.ι)->List (DC X)->List (Nat×DV X)
 |[],_=>[]
 |(t,p)::r,L=>(t,(eP dp p L).1)::wB r (eP dp p L).2
def vL:List (List (Pt X.ι))->List (DC X)->List (List (DV X))×List (DC X)
 |[],L=>([],L)
 |r::rs,L=>((k8 dp r L).1::(vL rs (k8 dp r L).2).1,(vL rs (k8 dp r L).2).2)
def bX:List (Nat×OP X.ι)->List (DC X)->List (Nat×Option (br X))
 |[],_=>[]
 |(k,.l _)::r,L=>match L with
  |⟨.sl c',x⟩::L=>(k,some (.ec c' x))::bX r L
  |_=>[]
 |(k,.m _ _)::r,L=>match L with
  |⟨.mp kc vc,x⟩::L=>(k,some (.map kc vc x))::bX r L
  |_=>[]
 |(k,.c sz rows)::r,L=>(k,some (.cells sz (vL dp rows L).1))::bX r (vL dp rows L).2
end
def lens:List (Nat×OP X.ι)->List (DC X)->List (Nat×Nat)
 |[],_=>[]
 |(k,.l _)::r,L=>match L with
  |⟨.sl _,x⟩::L=>(k,List.length x)::lens r L
  |_=>[]
 |(_,.m _ _)::r,L=>lens r (L.drop 1)
 |(_,.c _ rows)::r,L=>lens r (L.drop (vJ rows).length)
def lv:Nat->List (Pt X.ι)->List (Nat×Pt X.ι)
 |_,[]=>[]
 |n,p::ps=>(n,p)::lv (n+1) ps
theorem OM:∀(n:Nat)(ps:List (Pt X.ι)),gO (lv n ps)=cJ ps
 |_,[]=>rfl
 |n,p::ps=>by simp[lv,gO,cJ,OM (n+1) ps]
structure cN(X:SX) where
 ml:List (Pt X.ι)
 io:List (Nat×OP X.ι)
 ft:List (Pt X.ι)
 iz:List (Nat×OP X.ι)
 fn:VT (X:=X) (cJ ml++da io)->Option (VT (X:=X) (gO (lv 0 ft)++da iz))
def Dz(O:List (Nat×OP X.ι))(L:List (DC X))(k:Nat):Nat:=(lk (lens O L) k).getD 0
def UX(ps:List (Pt X.ι))(O:List (Nat×OP X.ι))(L:List (DC X)):List (DV X):=(k8 (Dz O (L.drop (cJ ps).length)) ps (L.take (cJ ps).length)).1
def Y0(ps:List (Pt X.ι))(O:List (Nat×OP X.ι))(L:List (DC X)):List (Nat×Option (br X)):=bX (Dz O (L.drop (cJ ps).length)) O (L.drop (cJ ps).length)
def yh:List (DV X)->DV X
 |[d]=>d
 |ds=>.eV ds
def dF:List (Nat×Option (br X))->List (Nat×br X)
 |[]=>[]
 |(k,some o)::r=>(k,o)::dF r
 |(_,none)::r=>dF r
def oM(l:List (Nat×br X)):List (Nat×aM):=l.map λp=>(p.1,bH p.2)
def cN.args(g:cN X)(v:VT (X:=X) (cJ g.ml++da g.io)):List (DV X):=UX g.ml g.io (vK _ v)
def cN.cy(g:cN X)(v:VT (X:=X) (cJ g.ml++da g.io)):List (Nat×br X):=dF (Y0 g.ml g.io (vK _ v))
def cN.res(g:cN X)(r:VT (X:=X) (gO (lv 0 g.ft)++da g.iz)):DV X:=yh (UX g.ft g.iz (vK _ r))
def cN.outs(g:cN X)(r:VT (X:=X) (gO (lv 0 g.ft)++da g.iz)):List (Nat×br X):=dF (Y0 g.ft g.iz (vK _ r))
def Hb(P:Program)(f:FuncId)(g:cN X):Prop:=∀v r,g.fn v=some r->GB P f (bF (g.args v)) ((g.cy v).map λp=>bH p.2) (oM (g.outs r)) (den (g.res r))
end
inductive AT(ι:Type) where
 |d (c:CT ι)
 |ref (c:CT ι)
 |du (as:List (CT ι)) (r:CT ι)
 |mut (c:CT ι)
 |ju (c:CT ι)
 |nil
 deriving DecidableEq
def AT.im{ι:Type}:AT ι->Bool
 |.mut _|.ju _=>true
 |_=>false
def AT.pl{ι:Type}:AT ι->Bool
 |.mut _|.ju _|.nil=>false
 |_=>true
inductive RT(ι:Type) where
 |d (c:CT ι)
 |fresh (e:CT ι)
 |whole (j:Nat)
 |mu (c:CT ι)
 |mr (c:CT ι)
 |mv
def RT.out{ι:Type}:RT ι->Bool
 |.mu _|.mr _|.mv=>true
 |_=>false
section
variable (X:SX)
@[reducible] def AT.T:AT X.ι->Type
 |.d c=>CT.T X.toSE c
 |.ref c=>CT.T X.toSE c
 |.du as r=>HL X.toSE as->Option (CT.T X.toSE r)
 |.mut c=>List (CT.T X.toSE c)
 |.ju c=>CT.T X.toSE c
 |.nil=>Unit
@[reducible] def RT.T:RT X.ι->Type
 |.d c=>CT.T X.toSE c
 |.fresh e=>List (CT.T X.toSE e)
 |.whole _=>Unit
 |.mu c=>List (CT.T X.toSE c)
 |.mr c=>CT.T X.toSE c
 |.mv=>Unit
@[reducible] def jg:List (AT X.ι)->Type
 |[]=>Unit
 |a::l=>AT.T X a×jg l
@[reducible] def sJ:List (RT X.ι)->Type
 |[]=>Unit
 |[r]=>RT.T X r
 |r::r'::l=>RT.T X r×sJ (r'::l)
structure ca where
 args:List (AT X.ι)
 res:List (RT X.ι)
 fn:jg X args->Option (sJ X res)
 gen:Option (cN X):=none
variable {X}
def eU:Nat->(l:List (AT X.ι))->jg X l->List AV
 |_,[],_=>[]
 |n,.d c::l,a=>(CT.tv X.toSE c a.1).av::eU n l a.2
 |n,.ref c::l,a=>.ep (CT.row X.toSE c a.1) 0::eU n l a.2
 |n,.du as r::l,a=>den (.du as r a.1:DV X)::eU n l a.2
 |n,.mut _::l,a=>.own n 0 (List.length a.1)::eU (n+1) l a.2
 |n,.ju _::l,a=>.ptr n 0 0::eU (n+1) l a.2
 |n,.nil::l,a=>.cP::eU n l a.2
abbrev yj(l:List (AT X.ι))(a:jg X l):List AV:=eU 0 l a
def uG(c:CT X.ι)(l:List (CT.T X.toSE c)):fA:=(CT.sz X c,l.map (CT.row X.toSE c))
def uH:(l:List (AT X.ι))->jg X l->List fA
 |[],_=>[]
 |.mut c::l,a=>uG c a.1::uH l a.2
 |.ju c::l,a=>uG c [a.1]::uH l a.2
 |.d _::l,a=>uH l a.2
 |.ref _::l,a=>uH l a.2
 |.du _ _::l,a=>uH l a.2
 |.nil::l,a=>uH l a.2
def qJ:(r:RT X.ι)->RT.T X r->List (Option fA)
 |.mu c,x=>[some (uG c x)]
 |.mr c,x=>[some (uG c [x])]
 |.mv,_=>[none]
 |_,_=>[]
def o7:(l:List (RT X.ι))->sJ X l->List (Option fA)
 |[],_=>[]
 |[r],x=>qJ r x
 |r::r'::l,x=>qJ r x.1++o7 (r'::l) x.2
def XR:(r:RT X.ι)->RT.T X r->List Nat
 |.mu _,x=>[List.length x]
 |.mr _,_=>[1]
 |.mv,_=>[0]
 |_,_=>[]
def yn:(l:List (RT X.ι))->sJ X l->List Nat
 |[],_=>[]
 |[r],x=>XR r x
 |r::r'::l,x=>XR r x.1++yn (r'::l) x.2
def UY(ns:List Nat):(r:RT X.ι)->RT.T X r->List RC
 |.d c,x=>[.d (CT.tv X.toSE c x)]
 |.fresh e,l=>[.fresh (CT.sz X e) (l.map (CT.row X.toSE e))]
 |.whole j,_=>[.whole j (ns.getD j 0)]
 |_,_=>[]
def DF(ns:List Nat):(l:List (RT X.ι))->sJ X l->List RC
 |[],_=>[]
 |[r],x=>UY ns r x
 |r::r'::l,x=>UY ns r x.1++DF ns (r'::l) x.2
def sQ(l:List (RT X.ι))(x:sJ X l):RV:=
 match DF (yn l x) l x with
 |[c]=>.one c
 |cs=>.eV cs
def pL(P:Program)(Γ:FuncId->Option (ca X)):Prop:=
 ∀f s,Γ f=some s->eT P f/\(∀ a r,s.fn a=some r->p5 P f (yj s.args a) (uH s.args a) (o7 s.res r) (sQ s.res r))/\∀g,s.gen=some g->Hb P f g
theorem anF:∀{l:List (AT X.ι)},(l.all λq=>q.pl)=true->(l.all λq=>!q.im)=true:=λ{l} h=>by rw[all_eq_true]at h ⊢;intro q hq;have:=h q hq;cases q<;>simp_all [AT.pl,AT.im]
theorem GJ:∀{l:List (AT X.ι)}{a:jg X l},(l.all λq=>!q.im)=true->uH l a=[]
 |[],_,_=>rfl
 |.d _::l,a,h|.ref _::l,a,h|.du _ _::l,a,h=>GJ (l:=l) (by grind)
 |.mut _::l,a,h|.ju _::l,a,h=>by trivial
 |.nil::l,a,h=>GJ (l:=l) (by grind)
theorem acA{r:RT X.ι}{x:RT.T X r}(h:(!r.out)=true):qJ r x=[]:=by cases r<;>first|rfl|trivial
theorem acB:∀{l:List (RT X.ι)}{x:sJ X l},(l.all λq=>!q.out)=true->o7 l x=[]
 |[],_,_=>rfl
 |[r],x,h=>acA (by grind)
 |r::r'::l,x,h=>by simp only[all_cons,bg]at h;simp[o7,acA h.1];exact acB (l:=r'::l) (by grind)
mutual
def bp:DV X->List Nat
 |.own k _ _=>[k]
 |.ptr k _ _=>[k]
 |.qt k _ _=>[k]
 |.tx k _ _ _ _=>[k]
 |.mp k=>[k]
 |.oz k _=>[k]
 |.agg cs=>aL cs
 |.eV cs=>aL cs
 |.fn _ first caps=>aL first++aL caps
 |_=>[]
def aL:List (DV X)->List Nat
 |[]=>[]
 |x::xs=>bp x++aL xs
end
theorem zN(c:CT X.ι)(x:CT.T X.toSE c):refs (CT.tv X.toSE c x).av=[]:=by
 cases c<;>try rfl
 rename_i i;show fe ((X.row i x).map AV.t)=[];generalize X.row i x=l
 induction l with
 |nil=>rfl
 |cons y ys ih=>trivial
mutual
theorem iP:∀x:DV X,refs (den x)=bp x
 |.c t x=>zN t x
 |.agg cs|.eV cs=>by simp[den,refs,bp,jc cs]
 |.own _ _ _|.ptr _ _ _|.qt _ _ _|.mp _|.oz _ _|.tx _ _ _ _ _|.rp _ _ _|.xi _ _ _ _ _=>rfl
 |.fn f first caps=>by simp[den,refs,bp,jc first,jc caps]
 |.du _ _ _=>rfl
 |.raw v=>by simp[den,cv];split;rfl;split<;>rfl
 |.nil|.ub|.skip|.undef=>rfl
theorem jc:∀l:List (DV X),fe (bF l)=aL l
 |[]=>rfl
 |x::xs=>by simp[bF,fe,aL,iP x,jc xs]
end
def UZ(get:Nat->Option (br X))(d:DV X)(c:CT X.ι):Option (CT.T X.toSE c×List Bool):=
 match d,c with
 |.own kk aa len,.sl e=>(get kk).bind λo=>match o with
  |.ec b l=>(lq (.sl b) (.sl e) l).bind λ(l:List (CT.T X.toSE e))=>some (sub l aa len,[be (sub l aa len).length len])
  |_=>none
 |.own kk aa len,.any=>(get kk).bind λo=>match o with
  |.ec b l=>some (.sl (List.map (CT.row X.toSE b) (sub l aa len)),[be (sub l aa len).length len])
  |_=>none
 |.oz kk len,.sl e=>(get kk).bind λo=>match o with
  |.ec b l=>(lq (.sl b) (.sl e) l).bind λ(l:List (CT.T X.toSE e))=>some (sub l 0 len,[be (sub l 0 len).length len])
  |_=>none
 |d,c=>(Kz d c).bind λx=>some (x,[])
def GK(get:Nat->Option (br X)):List (DV X)->(l:List (CT X.ι))->Option (HL X.toSE l×List Bool)
 |[],[]=>some ((),[])
 |d::ds,c::l=>(UZ get d c).bind λx=>(GK get ds l).bind λh=>some ((x.1,h.1),x.2++h.2)
 |_,_=>none
def Y1(get:Nat->Option (br X))(d:DV X)(i:X.ι):Option (CT.T X.toSE (.st i)×List Bool):=
 match d with
 |.agg cs=>(GK get cs (X.cW i)).bind λh=>some (X.make i h.1,h.2)
 |.c a x=>(lq a (.st i) x).bind λx=>some (x,[])
 |_=>none
def EY(get:Nat->Option (br X))(d:DV X)(c:CT X.ι):Option (CT.T X.toSE c×List Bool):=
 match c with
 |.st i=>Y1 get d i
 |c=>UZ get d c
def ajM(get:Nat->Option (br X))(d:DV X)(c:CT X.ι):Option (CT.T X.toSE c):=
 match d with
 |.ptr kk row 0=>(get kk).bind λo=>match o with
  |.cells _ rows=>(rows[row]?).bind λq=>if q.all (λ x=>match x with|.c _ _=>true|_=>false)then LP c q else none
  |_=>none
 |.rp a x 0=>lq a c x
 |_=>none
def ye:(l l':List (AT X.ι))->jg X l->jg X l'->jg X (l++l')
 |[],_,_,b=>b
 |_::l,l',a,b=>(a.1,ye l l' a.2 b)
def hlA:(as:List (CT X.ι))->HL X.toSE as->jg X (as.map AT.d)
 |[],_=>()
 |_::l,h=>(h.1,hlA l h.2)
def vM:List (AT X.ι)->Nat
 |[]=>0
 |q::l=>(if q.im then 1 else 0)+vM l
theorem sS:∀(n:Nat)(l l':List (AT X.ι))(a:jg X l)(b:jg X l'),eU n (l++l') (ye l l' a b)=eU n l a++eU (n+vM l) l' b
 |n,[],_,_,_=>rfl
 |n,.d c::l,l',a,b|n,.ref c::l,l',a,b|n,.du as r::l,l',a,b=>by simp[eU,ye,sS n l l' a.2 b,vM,AT.im]
 |n,.mut c::l,l',a,b|n,.ju c::l,l',a,b=>by simp[eU,ye,sS (n+1) l l' a.2 b,vM,AT.im,Nat.add_assoc]
 |n,.nil::l,l',a,b=>by simp[eU,ye,sS n l l' a.2 b,vM,AT.im]
theorem OO:∀(n:Nat)(as:List (CT X.ι))(h:HL X.toSE as),eU n (as.map AT.d) (hlA as h)=(HL.m5 X.toSE as h).map TV.av
 |_,[],_=>rfl
 |n,c::l,h=>congrArg ((CT.tv X.toSE c h.1).av:: ·) (OO n l h.2)
def amF{a b:CT X.ι}(h:a=b)(o:Option (CT.T X.toSE a)):Option (CT.T X.toSE b):=h ▸ o
def sU(get:Nat->Option (br X))(pr:FuncId->List (DV X)->List (DV X)->(as:List (CT X.ι))->(r:CT X.ι)->Option ((HL X.toSE as->Option (CT.T X.toSE r))×List Bool)):List (DV X)->(l:List (AT X.ι))->Option (jg X l×List Bool)
 |[],[]=>some ((),[])
 |d::ds,.d c::l=>(EY get d c).bind λx=>(sU get pr ds l).bind λh=>some ((x.1,h.1),x.2++h.2)
 |d::ds,.ref c::l=>(ajM get d c).bind λx=>(sU get pr ds l).bind λh=>some ((x,h.1),h.2)
 |d::ds,.du as r::l=>(match d with
  |.du as' r' φ=>if h:as'=as/\r'=r then some (λ x=>amF h.2 (φ (h.1 ▸ x)),[])else none
  |.fn f first caps=>pr f first caps as r
  |_=>none).bind λφ=>(sU get pr ds l).bind λq=>some ((φ.1,q.1),φ.2++q.2)
 |_,_=>none
def QO(Γ:FuncId->Option (ca X))(get:Nat->Option (br X)):Nat->List (DV X)->(l:List (AT X.ι))->Option (jg X l×List Bool)
 | 0,ds,l=>sU get (λ _ _ _ _ _=>none) ds l
 |n+1,ds,l=>sU get (λ f first caps as r=>(Γ f).bind λs=>match s with
   |⟨sa,[.d r'],fn,_⟩=>
    if h:r'=r/\sa=sa.take first.length++(as.map AT.d++sa.drop (first.length+as.length))/\first.length=0 then
     (QO Γ get n first (sa.take first.length)).bind λhf=>(QO Γ get n caps (sa.drop (first.length+as.length))).bind λhc=>
      some (λ x=>amF h.1 (fn (h.2.1 ▸ ye _ _ hf.1 (ye _ _ (hlA as x) hc.1))),hf.2++hc.2)
    else none
   |_=>none) ds l
section
variable {P:Program} {Γ:FuncId->Option (ca X)} {get:Nat->Option (br X)} {rd:List Nat}
theorem iB{a b:List Prop}(h:∀p∈a,p)(h':∀p∈b,p):∀p∈a++b,p:=by grind
theorem GL{d:DV X}{c:CT X.ι}{x:CT.T X.toSE c×List Bool}(h:UZ get d c=some x)(hc:∀b∈x.2,b=true)(hrd:∀j∈bp d,j∈rd):∃hs obs,(∀ p∈obs,p)/\∀ae,oW P (dK rd (fV get)) (den d) (hs++ae)=some ((CT.tv X.toSE c x.1).av,ae,obs):=by
 have base:∀{d:DV X}{c:CT X.ι}{x:CT.T X.toSE c},Kz d c=some x->∃hs obs,(∀ p∈obs,p)/\∀ae,oW P (dK rd (fV get)) (den d) (hs++ae)=some ((CT.tv X.toSE c x).av,ae,obs):=by
  intro d c x h;unfold Kz at h;split at h;rw[(oC h).1];refine⟨[],[],by simp,λae=>?_⟩;simp;cases c<;>try rfl
  rename_i j;show oW P _ (.agg ((X.row j x).map AV.t)) ae=_;have:∀(l:List Tree)(hs:List LH),mO P (dK rd (fV get)) (l.map AV.t) hs=some (l.map AV.t,hs,[]):=by
   intro l
   induction l with
   |nil=>intro hs;rfl
   |cons y ys ih=>simp_all [mO,oW,ih]
  simp[oW,this];rfl;cases h;exact⟨[.emp],[],by simp,λae=>rfl⟩;cases h;exact⟨[.emp],[],by simp,λae=>rfl⟩;cases h
 unfold UZ at h;split at h;rename_i kk aa len e;rw[ah]at h;obtain⟨o,h1,h⟩:=h;split at h;rename_i b l0;rw[ah]at h;obtain⟨l,h2,h⟩:=h;cases h;have h3:(sub l aa len).length=len:=by simpa[be]using hc (be (sub l aa len).length len) (by simp)
 have⟨h4,h5⟩:=jA h2;refine⟨[.rows ((sub l aa len).map (CT.row X.toSE e))],[(((bH (.ec b l0):aM).rows.drop aa).take len=aI ((sub l aa len).map (CT.row X.toSE e))/\((sub l aa len).map (CT.row X.toSE e)).length=len)],?_,λae=>?_⟩;intro p hp;simp only[bq]at hp;subst hp;refine⟨?_,by simpa using h3⟩;simp[bH,h5];simp[aI,sub];simp[den,oW,fE (hrd kk (by simp[bp])) h1];rfl;cases h;rename_i kk aa len;rw[ah]at h;obtain⟨o,h1,h⟩:=h;split at h;rename_i b l0;cases h;have h3:(sub l0 aa len).length=len:=by simpa[be]using hc (be (sub l0 aa len).length len) (by simp)
 refine⟨[.rows ((sub l0 aa len).map (CT.row X.toSE b))],[(((bH (.ec b l0):aM).rows.drop aa).take len=aI ((sub l0 aa len).map (CT.row X.toSE b))/\((sub l0 aa len).map (CT.row X.toSE b)).length=len)],?_,λae=>?_⟩;intro p hp;simp only[bq]at hp;subst hp;refine⟨?_,by simpa using h3⟩;simp[bH];simp[aI,sub];simp[den,oW,fE (hrd kk (by simp[bp])) h1];rfl;cases h;rename_i kk len e;rw[ah]at h;obtain⟨o,h1,h⟩:=h;split at h;rename_i b l0;have⟨l,h2,h⟩:=ah.1 h;cases h;have h3:(sub l 0 len).length=len:=by simpa[be]using hc (be (sub l 0 len).length len) (by simp)
 have⟨h4,h5⟩:=jA h2;refine⟨[.rows ((sub l 0 len).map (CT.row X.toSE e))],[(((bH (.ec b l0):aM).rows.drop 0).take len=aI ((sub l 0 len).map (CT.row X.toSE e))/\((sub l 0 len).map (CT.row X.toSE e)).length=len)],?_,λae=>?_⟩;intro p hp;simp only[bq]at hp;subst hp;refine⟨?_,by simpa using h3⟩;simp[bH,h5];simp[aI,sub];simp[den,oW,fE (hrd kk (by simp[bp])) h1];rfl;cases h;have⟨y,h1,h⟩:=ah.1 h;cases h
 simp_all
theorem LW:∀{ds:List (DV X)}{l:List (CT X.ι)}{h:HL X.toSE l×List Bool},GK get ds l=some h->(∀ b∈h.2,b=true)->l.all CT.one=true->(∀ j∈aL ds,j∈rd)->
 ∃hs obs,(∀ p∈obs,p)/\∀ae,mO P (dK rd (fV get)) (bF ds) (hs++ae)=some ((HL.row X.toSE l h.1).map AV.t,ae,obs)
 |[],[],h,_,_,_,_=>⟨[],[],by simp,λae=>rfl⟩
 |d::ds,c::l,h,hr,hc,ha,hrd=>by simp[GK]at hr;have⟨x,h1,hr⟩:=ah.1 hr;have⟨g,h2,hr⟩:=ah.1 hr;cases hr;simp only[all_cons,bg]at ha;obtain⟨hs1,o1,p1,q1⟩:=GL (P:=P) (rd:=rd) h1 (λ b hb=>hc b (by grind)) (λ j hj=>hrd j (by simp[aL,hj]));obtain⟨hs2,o2,p2,q2⟩:=LW h2 (λ b hb=>hc b (by grind)) ha.2 (λ j hj=>hrd j (by simp[aL,hj]));refine⟨hs1++hs2,o1++o2,iB p1 p2,λae=>?_⟩;simp only[bF,mO,aT,q1,ai,q2];show _=some ((CT.row X.toSE c x.1++HL.row X.toSE l g.1).map AV.t,ae,o1++o2);rw[List.map_append,<- S5 ha.1 x.1];rfl
 |[],_::_,_,hr,_,_,_|_::_,[],_,hr,_,_,_=>by trivial
theorem zO{d:DV X}{c:CT X.ι}{x:CT.T X.toSE c×List Bool}(h:EY get d c=some x)(hc:∀b∈x.2,b=true)(hrd:∀j∈bp d,j∈rd):∃hs obs,(∀ p∈obs,p)/\∀ae,oW P (dK rd (fV get)) (den d) (hs++ae)=some ((CT.tv X.toSE c x.1).av,ae,obs):=by
 cases c
 case st i=>
  replace h:Y1 get d i=some x:=h
  cases d
  case agg cs=>
   simp[Y1]at h;rw[ah]at h;obtain⟨g,h1,h⟩:=h;cases h;obtain⟨hs,obs,p1,q1⟩:=LW (P:=P) (rd:=rd) h1 hc (X.flat i) (λ j hj=>hrd j (by trivial));refine⟨hs,obs,p1,λae=>?_⟩;simp[den,oW,q1,CT.tv,TV.av];rw[X.gb]
  case c a y=>exact GL (c:=.st i) (x:=x) (by trivial) hc hrd
  all_goals cases h
 all_goals exact GL h hc hrd
theorem acC{d:DV X}{c:CT X.ι}{x:CT.T X.toSE c}(h:ajM get d c=some x)(hrd:∀j∈bp d,j∈rd):∃hs obs,(∀ p∈obs,p)/\∀ae,oW P (dK rd (fV get)) (den d) (hs++ae)=some (.ep (CT.row X.toSE c x) 0,ae,obs):=by
 unfold ajM at h;split at h;rename_i kk row;rw[ah]at h;obtain⟨o,h1,h⟩:=h;split at h;rename_i sz rows;rw[ah]at h;obtain⟨q,h2,h⟩:=h;split at h;rename_i hq;refine⟨[.row (CT.row X.toSE c x)],[(bH (.cells sz rows):aM).rows[row]? =some ((CT.row X.toSE c x).map AV.t)],?_,λae=>?_⟩;intro p hp;simp only[bq]at hp;subst hp;simp only[bH,List.getElem?_map,h2,Option.map_some];rw[<- xN h,nU,map_map];congr 1;refine map_congr_left λy hy=>?_;have:=all_eq_true.1 hq y hy;cases y<;>first|exact(amE _).symm|grind
 simp[den,oW,fE (hrd kk (by simp[bp])) h1];cases h;cases h;rename_i a y;refine⟨[],[],by simp,λae=>?_⟩;simp[den,(oC h).2];rfl;cases h
theorem afe{n:Nat}{l l':List (AT X.ι)}(e:l=l')(b:jg X l):eU n l' (e ▸ b)=eU n l b:=by grind
theorem I8{pr:FuncId->List (DV X)->List (DV X)->(as:List (CT X.ι))->(r:CT X.ι)->Option ((HL X.toSE as->Option (CT.T X.toSE r))×List Bool)}:∀{ds:List (DV X)}{l:List (AT X.ι)}{a:jg X l×List Bool},sU get pr ds l=some a->(l.all λq=>!q.im)=true
 |[],[],_,_=>rfl
 |d::ds,.d c::l,a,h=>by simp[sU]at h;have⟨x,h1,h⟩:=ah.1 h;have⟨q,h2,h⟩:=ah.1 h;simpa[AT.im]using I8 h2
 |d::ds,.ref c::l,a,h=>by simp[sU]at h;have⟨x,h1,h⟩:=ah.1 h;have⟨q,h2,h⟩:=ah.1 h;simpa[AT.im]using I8 h2
 |d::ds,.du as r::l,a,h=>by simp[sU]at h;have⟨x,h1,h⟩:=ah.1 h;have⟨q,h2,h⟩:=ah.1 h;simpa[AT.im]using I8 h2
 |_::_,.mut _::_,_,h|_::_,.ju _::_,_,h|_::_,.nil::_,_,h|[],_::_,_,h|_::_,[],_,h=>by trivial
theorem acD:∀{n:Nat}{ds:List (DV X)}{l:List (AT X.ι)}{a:jg X l×List Bool},QO Γ get n ds l=some a->(l.all λq=>!q.im)=true
 | 0,_,_,_,h|_+1,_,_,_,h=>I8 h
theorem aaC:∀as:List (CT X.ι),((as.map AT.d).all λq=>!q.im)=true
 |[]=>rfl
 |_::l=>aaC l
def anG(P:Program)(get:Nat->Option (br X))(pr:FuncId->List (DV X)->List (DV X)->(as:List (CT X.ι))->(r:CT X.ι)->Option ((HL X.toSE as->Option (CT.T X.toSE r))×List Bool)):Prop:=
 ∀f first caps as r φ rd,pr f first caps as r=some φ->(∀ b∈φ.2,b=true)->(∀ j∈aL first++aL caps,j∈rd)->∃hs obs,(∀ p∈obs,p)/\∀ae,oW P (dK rd (fV get)) (.fn f (bF first) (bF caps)) (hs++ae)=some (den (.du as r φ.1:DV X),ae,obs)
theorem sV{n:Nat}{pr:FuncId->List (DV X)->List (DV X)->(as:List (CT X.ι))->(r:CT X.ι)->Option ((HL X.toSE as->Option (CT.T X.toSE r))×List Bool)}(ud:anG P get pr):∀{ds:List (DV X)}{l:List (AT X.ι)}{a:jg X l×List Bool},sU get pr ds l=some a->(∀ b∈a.2,b=true)->(∀ j∈aL ds,j∈rd)->
 ∃hs obs,(∀ p∈obs,p)/\∀ae,mO P (dK rd (fV get)) (bF ds) (hs++ae)=some (eU n l a.1,ae,obs)
 |[],[],_,_,_,_=>⟨[],[],by simp,λae=>rfl⟩
 |d::ds,.d c::l,a,h,hc,hrd=>by simp[sU]at h;have⟨x,h1,h⟩:=ah.1 h;have⟨q,h2,h⟩:=ah.1 h;cases h;obtain⟨hs1,o1,p1,q1⟩:=zO (P:=P) (rd:=rd) h1 (λ b hb=>hc b (by grind)) (λ j hj=>hrd j (by simp[aL,hj]));obtain⟨hs2,o2,p2,q2⟩:=sV (n:=n) ud h2 (λ b hb=>hc b (by simp[hb])) (λ j hj=>hrd j (by simp[aL,hj]));refine⟨hs1++hs2,o1++o2,iB p1 p2,λae=>?_⟩;simp[bF,mO,q1,q2,eU]
 |d::ds,.ref c::l,a,h,hc,hrd=>by simp[sU]at h;rw[ah]at h;obtain⟨x,h1,h⟩:=h;rw[ah]at h;obtain⟨q,h2,h⟩:=h;cases h;obtain⟨hs1,o1,p1,q1⟩:=acC (P:=P) (rd:=rd) h1 (λ j hj=>hrd j (by simp[aL,hj]));obtain⟨hs2,o2,p2,q2⟩:=sV (n:=n) ud h2 hc (λ j hj=>hrd j (by simp[aL,hj]));refine⟨hs1++hs2,o1++o2,iB p1 p2,λae=>?_⟩;simp[bF,mO,q1,q2,eU]
 |d::ds,.du as r::l,a,h,hc,hrd=>by
  simp[sU]at h;rw[ah]at h;obtain⟨φ,h1,h⟩:=h;rw[ah]at h;obtain⟨q,h2,h⟩:=h;cases h;have hd:∃hs obs,(∀ p∈obs,p)/\∀ae,oW P (dK rd (fV get)) (den d) (hs++ae)=some (den (.du as r φ.1:DV X),ae,obs):=by
   cases d
   case du as' r' ψ=>
    simp only at h1;split at h1;rename_i e;obtain⟨rfl,rfl⟩:=e;cases h1;exact⟨[],[],by simp,λae=>rfl⟩;cases h1
   case fn f first caps=>
    obtain⟨hs,obs,g1,g2⟩:=ud f first caps as r φ rd h1 (λ b hb=>hc b (by simp[hb])) (λ j hj=>hrd j (by simp only[aL,bp,bK]at hj ⊢;exact .inl hj))
    exact⟨hs,obs,g1,λae=>by simp[den];exact g2 ae⟩
   all_goals simp at h1
  obtain⟨hs1,o1,p1,q1⟩:=hd;obtain⟨hs2,o2,p2,q2⟩:=sV (n:=n) ud h2 (λ b hb=>hc b (by simp[hb])) (λ j hj=>hrd j (by simp[aL,hj]));refine⟨hs1++hs2,o1++o2,iB p1 p2,λae=>?_⟩;simp[bF,mO,q1,q2,eU]
 |_::_,.mut _::_,_,h,_,_|_::_,.ju _::_,_,h,_,_|_::_,.nil::_,_,h,_,_|[],_::_,_,h,_,_|_::_,[],_,h,_,_=>by simp[sU]at h
theorem aff{n:Nat}:∀{l:List (AT X.ι)}(a:jg X l),l=[]->eU n l a=[]
 |_,_,rfl=>rfl
theorem rT(hΓ:pL P Γ):∀(m:Nat){n:Nat}{ds:List (DV X)}{l:List (AT X.ι)}{a:jg X l×List Bool}{rd:List Nat},QO Γ get m ds l=some a->(∀ b∈a.2,b=true)->(∀ j∈aL ds,j∈rd)->
 ∃hs obs,(∀ p∈obs,p)/\∀ae,mO P (dK rd (fV get)) (bF ds) (hs++ae)=some (eU n l a.1,ae,obs)
 | 0,n,ds,l,a,rd,h,hcs,hrd=>sV (λ _ _ _ _ _ _ _ h=>by cases h) h hcs hrd
 |m+1,n,ds,l,a,rd,h,hcs,hrd=>by
  refine sV (λ f first caps as r φ rd' hc hb IR=>?_) h hcs hrd;rw[ah]at hc;obtain⟨s,h1,hc⟩:=hc;split at hc;rename_i sa r' fn _;split at hc;rename_i e;obtain⟨rfl,e2,e3⟩:=e;have⟨hf,h2,hc⟩:=ah.1 hc;have⟨hcap,h3,hc⟩:=ah.1 hc;injection hc with hc;rw[<- hc]at hb;obtain⟨g1,g2,_⟩:=hΓ f _ h1;obtain⟨hs1,o1,p1,q1⟩:=rT hΓ m h2 (n:=0) (rd:=rd') (λ b hb'=>hb b (by simp[hb'])) (λ j hj=>IR j (by simp[hj]));obtain⟨hs2,o2,p2,q2⟩:=rT hΓ m h3 (n:=0+vM (sa.take first.length)+vM (as.map AT.d)) (rd:=rd') (λ b hb'=>hb b (by simp[hb'])) (λ j hj=>IR j (by simp[hj]));refine⟨.du (λ ts u=>∃h x,φ.1 h=some x/\ts=HL.m5 X.toSE as h/\u=CT.tv X.toSE r' x)::(hs1++hs2),o1++(o2++[eU 0 _ hf.1=[]/\eT P f/\∀args r,(∃ h x,φ.1 h=some x/\args=HL.m5 X.toSE as h/\r=CT.tv X.toSE r' x)->td P f (eU 0 _ hf.1++args.map TV.av++eU (0+vM (sa.take first.length)+vM (as.map AT.d)) _ hcap.1) (.one (.d r))]),?_,λae=>?_⟩;intro p hp;simp only[bK,bq]at hp;rcases hp with hp|hp|hp;exact p1 p hp;exact p2 p hp;subst hp;refine⟨aff _ (by rw[e3];rfl),g1,?_⟩;rintro args r ⟨x,y,hxy,rfl,rfl⟩;rw[<- hc]at hxy;have hxy':fn (e2 ▸ ye _ _ hf.1 (ye _ _ (hlA as x) hcap.1))=some y:=hxy;have:=g2 _ _ hxy';have hnm:(sa.all λq=>!q.im)=true:=by rw[e2,List.all_append,List.all_append,acD h2,acD h3,aaC];rfl
  rw[GJ hnm,yj,afe e2.symm,sS,sS,OO,<- aT]at this;exact UA this;simp[oW,q1,q2];rfl;cases hc;cases hc
end
end
def QR(s:ByteArray)(n:Int):Option Int:=bif decide (0<=n)then(s[n.toNat]?).map λb=>(b.toNat:Int)else none
def wC(m:Int)(bytes:Nat):Bool:=decide (0<=m)&&decide (m.toNat*bytes<=140737488355328)&&decide (m.toNat<=maxLen)
def gZ{K V:Type}(eq:K->K->Bool)(k:K):List (K×V)->Option V
 |[]=>none
 |p::r=>bif eq k p.1 then some p.2 else gZ eq k r
def Fj{K V:Type}(eq:K->K->Bool)(k:K)(v:V):List (K×V)->List (K×V)
 |[]=>[(k,v)]
 |p::r=>bif eq k p.1 then(k,v)::r else p::Fj eq k v r
def iEq(a b:Int):Bool:=a==b
def fW(a b:ByteArray):Bool:=a.toList==b.toList
def bEq(a b:Bool):Bool:=a==b
section
variable {X:SX} {A:Type}
def LX:(c:CT X.ι)->Option (CT.T X.toSE c->CT.T X.toSE c->Bool)
 |.int _=>some iEq
 |.str=>some fW
 |.bool=>some bEq
 |_=>none
def Fc{ι:Type}:A4->CT ι->Bool
 |.int a,.int b=>decide (a=b)
 |.str,.str=>true
 |.bool,.bool=>true
 |_,_=>false
def anH{ι:Type}:CT ι->Bool
 |.st _=>true
 |_=>false
theorem jo(a b:List (DV X)):bF (a++b)=bF a++bF b:=by simp[nU]
theorem rU(a b:List (Nat×Option (br X))):jm (a++b)=jm a++jm b:=by simp[jm]
def LY(ab:List Nat):List (Nat×Option (br X)):=ab.map λj=>(j,none)
theorem BU(ab:List Nat):jm (LY (X:=X) ab)=ab.map λk=>(k,none):=by simp[jm,LY]
theorem I9{ab:List Nat}{p:Nat×Option (br X)}(h:p∈LY ab):p.1∈ab:=by
 grind [LY]
variable (T:ed) (code:TypeId->Option (CT X.ι))
def afh:DV X->Bool
 |.nil=>true
 |_=>false
def Ha(op:BinOp)(b:DV X)(yes:Bool)(k:KK X A):Option A:=
 match op with
 |.eql=>bif yes then k b [] [] []else k (.c .bool false) [] [] []
 |.neq=>bif yes then k b [] [] []else k (.c .bool true) [] [] []
 |_=>none
def amZ(op:BinOp)(t:TypeId)(x:DV X)(k:KK X A):Option A:=
 (T t).bind λti=>match ti.k,x with
 |.slice _,.c (.sl _) l=>Ha op .ub (List.isEmpty l) k
 |.slice _,.own _ _ len=>Ha op .ub (len==0) k
 |.slice _,.oz _ len=>Ha op (.c .bool (op==.eql)) (len==0) k
 |.slice _,.nil=>Ha op (.c .bool (op==.eql)) true k
 |_,_=>none
def amG(s d:TypeId)(x:DV X)(k:KK X A):Option A:=
 (T s).bind λ_=>(T d).bind λdi=>match di.k,x with
 |.int kd,.c (.int _) n=>k (.c (.int kd) (kd.wrap (iN n))) [] [] []
 |_,_=>none
def ajN(t:TypeId)(x j:DV X)(k:KK X A):Option A:=
 (T t).bind λti=>match ti.k,x,j with
 |.str,.c .str s,.c (.int _) n=>(QR s n).bind λb=>k (.c (.int .u8) b) [] [] []
 |.arr m e,.agg cs,.c (.int _) q=>(T e).bind λei=>bif cx q m then(GA ei.agg ei.size ((cs.drop (q.toNat*ei.size)).take ei.size)).bind λv=>k v [] [] []else none
 |_,_,_=>none
def Y2(t:TypeId)(x:DV X)(lo hi:Option (DV X))(k:KK X A):Option A:=
 (T t).bind λti=>match ti.k,x with
 |.slice e,.nil=>(T e).bind λ_=>(AG 0 lo).bind λl=>(AG 0 hi).bind λh=>bif decide (l=0)&&decide (h=0)then k .nil [] [] []else none
 |_,_=>none
def OQ(i:Nat)(b:Builtin)(args:List (DV X))(cW:List TypeId)(get:Nat->Option (br X))(k:KK X A):Option A:=
 match b,args,cW with
 |.cap,[.nil],[t]=>(T t).bind λti=>match ti.k with
  |.slice _=>k (.c (.int .i64) (0:Int)) [] [] []
  |_=>none
 |.clear,[.own kk aa _],[t]=>(T t).bind λti=>match ti.k with
  |.slice e=>(T e).bind λei=>(get kk).bind λo=>match o with
   |.ec c l=>if CT.sz X c=ei.size then k (.eV []) [(kk,some (.ec c (l.take aa)))] [kk] [kk]else none
   |_=>none
  |_=>none
 |.append,[.nil,.c (.int _) m],[t,u]=>(T t).bind λti=>(T u).bind λui=>match ti.k,ui.k with
  |.slice e,.int _=>(T e).bind λei=>(code e).bind λc=>if CT.sz X c=ei.size/\0<ei.size then(LP c (ei.zero.map wi)).bind λz=>
   bif wC (iN m) ei.bytes then k (.own (cE i) 0 m.toNat) [(cE i,some (.ec c (List.replicate m.toNat z)))] [] []else none else none
  |_,_=>none
 |_,_,_=>none
def OT(x:DV X)(k:KK X A):Option A:=
 match x with
 |.ptr kk r f=>k (.ptr kk r f) [] [] []
 |.qt kk n f=>k (.qt kk n f) [] [] []
 |.tx kk r f m n=>k (.tx kk r f m n) [] [] []
 |.rp c y f=>k (.rp c y f) [] [] []
 |_=>none
def ajO(i:Nat)(t:TypeId)(l c:DV X)(k:KK X A):Option A:=
 (T t).bind λti=>match ti.k,l,c with
 |.slice e,.c (.int _) n,.c (.int _) m=>(T e).bind λei=>(code e).bind λc=>if CT.sz X c=ei.size/\0<ei.size then(LP c (ei.zero.map wi)).bind λz=>
  bif decide (iN n<=iN m)&&(decide (0<=iN n)&&wC (iN m) ei.bytes)then k (.own (cE i) 0 n.toNat) [(cE i,some (.ec c (List.replicate n.toNat z)))] [] []else none else none
 |_,_,_=>none
def U0(i:Nat)(t:TypeId)(k:KK X A):Option A:=
 (T t).bind λti=>match ti.k with
 |.map kt et=>(code kt).bind λkc=>(code et).bind λvc=>k (.mp (cE i)) [(cE i,some (.map kc vc []))] [] []
 |_=>none
def aaD(t:TypeId)(x key:DV X)(ok:Bool)(get:Nat->Option (br X))(k:KK X A):Option A:=
 (T t).bind λti=>match ti.k,x with
 |.map kt et,.mp kk=>(T kt).bind λki=>(T et).bind λei=>(get kk).bind λo=>match o with
  |.map kc vc l=>(LX kc).bind λeq=>(Kz key kc).bind λkv=>if Fc ki.k kc=true/\ei.agg=anH vc/\ei.size=CT.sz X vc then(LP vc (ei.zero.map wi)).bind λz=>
   bif ok then k (.eV [.c vc ((gZ eq kv l).getD z),.c .bool (gZ eq kv l).isSome]) [] [kk] []else k (.c vc ((gZ eq kv l).getD z)) [] [kk] []else none
  |_=>none
 |_,_=>none
def aaE(t:TypeId)(x key y:DV X)(get:Nat->Option (br X))(k:KK X A):Option A:=
 (T t).bind λti=>match ti.k,x with
 |.map kt _,.mp kk=>(T kt).bind λki=>(get kk).bind λo=>match o with
  |.map kc vc l=>(LX kc).bind λeq=>(Kz key kc).bind λkv=>(dat y vc).bind λv=>if Fc ki.k kc=true then k .undef [(kk,some (.map kc vc (Fj eq kv v l)))] [kk] [kk]else none
  |_=>none
 |_,_=>none
def anI(o:Op)(ρ:Operand->DV X):Bool:=
 match o with
 |.binOp _ _ _ y _=>afh (ρ y)
 |.convert _ _ _=>true
 |.index _ _ _=>true
 |.nilCheck _=>true
 |.makeSlice _ _ _=>true
 |.makeMap _ none=>true
 |.lookup _ _ _ _=>true
 |.mapUpdate _ _ _ _=>true
 |.slice _ x _ _ none=>afh (ρ x)
 |.call { callee:=.builtin b,args:=args,argTypes:=_ }=>match b,args.toList.map ρ with
  |.cap,_=>true
  |.clear,_=>true
  |.append,[_,.c (.int _) _]=>true
  |_,_=>false
 |_=>false
def am0(i:Nat)(o:Op)(ρ:Operand->DV X)(get:Nat->Option (br X))(k:KK X A):Option A:=
 match o with
 |.binOp op t x y _=>if afh (ρ y)then amZ T op t (ρ x) k else none
 |.convert s d x=>amG T s d (ρ x) k
 |.index t x j=>ajN T t (ρ x) (ρ j) k
 |.slice t x lo hi none=>Y2 T t (ρ x) (lo.map ρ) (hi.map ρ) k
 |.nilCheck x=>OT (ρ x) k
 |.makeSlice t l c=>ajO T code i t (ρ l) (ρ c) k
 |.makeMap t none=>U0 T code i t k
 |.lookup t m x ok=>aaD T t (ρ m) (ρ x) ok get k
 |.mapUpdate t m x v=>aaE T t (ρ m) (ρ x) (ρ v) get k
 |.call { callee:=.builtin b,args:=args,argTypes:=cW }=>OQ T code i b (args.toList.map ρ) cW.toList get k
 |_=>none
def Nd(get:Nat->Option (br X))(c:CT X.ι)(ρ:Operand->DV X)(x:Operand):DV X:=
 match EY get (ρ x) c with
 |some y=>.c c y.1
 |none=>ρ x
def Re(get:Nat->Option (br X))(c:CT X.ι)(ρ:Operand->DV X):List Operand->List Bool
 |[]=>[]
 |x::xs=>(match EY get (ρ x) c with|some y=>y.2|none=>[])++Re get c ρ xs
def AN(get:Nat->Option (br X))(c:CT X.ι)(ρ:Operand->DV X):List Operand->List Nat
 |[]=>[]
 |x::xs=>(match EY get (ρ x) c with|some _=>bp (ρ x)|none=>[])++AN get c ρ xs
def alF(o:Op)(ρ:Operand->DV X)(get:Nat->Option (br X)):Option (CT X.ι):=
 match o with
 |.box t _=>code t
 |.assign x|.move x=>match ρ x with
  |.own kk _ _=>(get kk).bind λo=>match o with
   |.ec c _=>some (.sl c)
   |_=>none
  |_=>none
 |.buildSlice t _ _=>(T t).bind λti=>match ti.k with
  |.slice e=>code e
  |_=>none
 |.store t _ _=>code t
 |_=>none
def anJ(o:Op)(ρ:Operand->DV X):Bool:=
 match o with
 |.buildSlice _ _ parts=>!(aL (parts.toList.map λp=>ρ p.2)).isEmpty
 |.store _ a x=>match ρ a with
  |.qt _ _ _=>!(bp (ρ x)).isEmpty
  |_=>false
 |_=>false
def am1(i:Nat)(o:Op)(ρ:Operand->DV X)(get:Nat->Option (br X))(k:KK X A):Option A:=
 if aeU o then none else(alF T code o ρ get).bind λc=>UH (Re get c ρ o.operands.toList)
  (Pc T code i o (Nd get c ρ) (λ j=>if j∈AN get c ρ o.operands.toList then none else get j) λdv upd rd wr=>
   k dv (upd++LY (AN get c ρ o.operands.toList)) (rd++AN get c ρ o.operands.toList) (wr++AN get c ρ o.operands.toList))
def anK(o:Op)(ρ:Operand->DV X):Bool:=
 match o with
 |.indexAddr t x (.tmp _)=>match ρ x,T t with
  |.ptr _ _ _,some ti|.rp _ _ _,some ti=>match ti.k with
   |.arr _ e=>match T e with
    |some ei=>ei.size==1
    |none=>false
   |_=>false
  |_,_=>false
 |.load _ a=>match ρ a with
  |.tx _ _ _ _ _|.xi _ _ _ _ _=>true
  |_=>false
 |_=>false
def G4(c:CT X.ι):List (DV X)->Option (List (CT.T X.toSE c))
 |[]=>some []
 |.c a x::r=>(lq a c x).bind λy=>(G4 c r).bind λl=>some (y::l)
 |_=>none
def am2(o:Op)(ρ:Operand->DV X)(get:Nat->Option (br X))(k:KK X A):Option A:=
 match o with
 |.indexAddr t x j=>(T t).bind λti=>match ti.k,ρ x,ρ j with
  |.arr m e,.ptr kk row aa,.c (.int _) n=>(T e).bind λei=>if ei.size=1 then bif cx n m then k (.tx kk row aa m n) [] [] []else none else none
  |.arr m e,.rp c y aa,.c (.int _) n=>(T e).bind λei=>if ei.size=1 then bif cx n m then k (.xi c y aa m n) [] [] []else none else none
  |_,_,_=>none
 |.load t a=>(T t).bind λti=>match ρ a with
  |.tx kk row aa m n=>if ti.size=1/\ti.agg=false then(code t).bind λc=>if c.one=true then(get kk).bind λo=>match o with
   |.cells _ rows=>(rows[row]?).bind λq=>(G4 c ((q.drop aa).take m)).bind λ(xs:List (CT.T X.toSE c))=>(b7 xs n).bind λy=>k (.c c y) [] [kk] []
   |.ec _ _=>none
   |_=>none
   else none else none
  |.xi b y aa m n=>if ti.size=1/\ti.agg=false then(code t).bind λc=>if c.one=true then(G4 c (((uQ b y).drop aa).take m)).bind λ(xs:List (CT.T X.toSE c))=>(b7 xs n).bind λy=>k (.c c y) [] [] []
   else none else none
  |_=>none
 |_=>none
variable {T code}
def d8(P:Program)(T:ed)(i:Nat)(o:Oper)(ρ:Operand->DV X)(get:Nat->Option (br X))(k:KK X A)(r:A):Prop:=
 ∃co rd wr dv upd out,jR P T i o co (λ x=>den (ρ x)) (dK rd (fV get))=some out/\kL out.obs/\out.v=den dv/\out.upd=jm upd/\(∀ p∈upd,p.1=cE i\/p.1∈wr)/\k dv upd rd wr=some r
section
variable {P:Program} {get:Nat->Option (br X)} {k:KK X A} {r:A} {i:Nat} {o:Oper} {ρ:Operand->DV X}
theorem ajQ{t:TypeId}{x:AV}{co:i7}(h:(∃ n,co=.ext n)\/∃ab fr q,co=.wc ab fr q):AW T t x .none=AW T t x co:=by grind [AW]
theorem U1{t:TypeId}{x j:AV}{co:i7}{get:Nat->Option aM}(h:(∃ n,co=.ext n)\/∃ab fr q,co=.wc ab fr q):mh T t x j .none get=mh T t x j co get:=by
 unfold mh;rcases T t with _|ti;rfl;simp;generalize ti.k=kk;cases kk<;>try rfl
 case arr m e=>
  grind
 cases j<;>try rfl
 rename_i e y;cases y<;>try rfl
 rename_i y;cases y<;>try rfl
 simp;rcases T e with _|ei;rfl;rcases h with ⟨n,rfl⟩|⟨ab,fr,q,rfl⟩<;>cases x<;>try rfl
 all_goals grind
theorem acF{t:TypeId}{x y:AV}{co:i7}{get:Nat->Option aM}(h:(∃ n,co=.ext n)\/∃ab fr q,co=.wc ab fr q):zH T i t x y .none get=zH T i t x y co get:=by grind [zH]
theorem aij{co:i7}{ρ:Operand->AV}{get:Nat->Option aM}(h:(∃ n,co=.ext n)\/∃ab fr q,co=.wc ab fr q):ql T i o .none ρ get=ql T i o co ρ get:=by
 obtain⟨dst,op,ty,am,after,guard⟩:=o;cases op
 case call c=>
  obtain⟨callee,args,cW⟩:=c;cases callee<;>try rfl
  simp[ql,BL];split;exact ajQ h;rfl;rfl;rw[acF h];rfl
 case slice t x lo hi mx=>cases mx<;>rcases h with ⟨n,rfl⟩|⟨ab,fr,q,rfl⟩<;>rfl
 case makeFunc fn a b=>cases fn<;>rfl
 case indexAddr t x j=>exact U1 h
 all_goals (rcases h with ⟨n,rfl⟩|⟨ab,fr,q,rfl⟩<;>rfl)
theorem d8.ext{n:Int}{rd wr:List Nat}{dv:DV X}{upd:List (Nat×Option (br X))}{out:Out}(h:sO T i o n (λ x=>den (ρ x)) (dK rd (fV get))=some out)(h1:kL out.obs)(h2:out.v=den dv)(h3:out.upd=jm upd)(h4:∀p∈upd,p.1=cE i\/p.1∈wr)(h5:k dv upd rd wr=some r)(hx:MT o.op=false:=by rfl):d8 P T i o ρ get k r:=
 ⟨.ext n,rd,wr,dv,upd,out,by show sP T i o n _ _=some out;unfold sP;grind,h1,h2,h3,h4,h5⟩
theorem d8.wg{n:Int}{rd wr:List Nat}{dv:DV X}{upd:List (Nat×Option (br X))}{out:Out}(h:Dq T i o n (λ x=>den (ρ x)) (dK rd (fV get))=some out)(h1:kL out.obs)(h2:out.v=den dv)(h3:out.upd=jm upd)(h4:∀p∈upd,p.1=cE i\/p.1∈wr)(h5:k dv upd rd wr=some r)(hx:MT o.op=true:=by rfl):d8 P T i o ρ get k r:=
 ⟨.ext n,rd,wr,dv,upd,out,by show sP T i o n _ _=some out;unfold sP;grind,h1,h2,h3,h4,h5⟩
theorem Ry{x:DV X}(h:OT x k=some r):∃dv,Ox (den x)=some ⟨den dv,[],[]⟩/\k dv [] [] []=some r:=by cases x<;>simp[OT]at h<;>first|cases h|exact⟨_,rfl,h⟩
theorem Y3{co:i7}{ρ:Operand->AV}{get:Nat->Option aM}(hne:∀f args cW,o.op≠.call { callee:=.value f,args:=args,argTypes:=cW })(ho:∀n,co≠.ext n)(hf:∀ab fr q,co≠.wc ab fr q):jR P T i o co ρ get=ql T i o co ρ get:=by
 have e:∀(α:Type) (a:Operand->Array Operand->Array TypeId->α) (b:α),(match o.op with|.call { callee:=.value f,args:=args,argTypes:=cW }=>a f args cW|_=>b)=b:=by grind
 cases co<;>first|grind|omega|exact e _ _ _
theorem d8.op{co:i7}{rd wr:List Nat}{dv:DV X}{upd:List (Nat×Option (br X))}{out:Out}(hne:∀f args cW,o.op≠.call { callee:=.value f,args:=args,argTypes:=cW })
 (h:ql T i o co (λ x=>den (ρ x)) (dK rd (fV get))=some out) (h1:kL out.obs/\out.v=den dv/\out.upd=jm upd/\(∀ p∈upd,p.1=cE i\/p.1∈wr)/\k dv upd rd wr=some r):d8 P T i o ρ get k r:=by
 obtain⟨vn,h'⟩:∃vn,jR P T i o vn (λ x=>den (ρ x)) (dK rd (fV get))=some out:=by by_cases hx:(∃ n,co=.ext n)\/∃ab fr q,co=.wc ab fr q;refine⟨.none,?_⟩;rw[Y3 hne (by simp) (by simp),aij hx,h];simp at hx;exact⟨co,by rw[Y3 hne hx.1 (λ ab fr q=>hx.2 ab fr q),h]⟩
 exact⟨vn,rd,wr,dv,upd,out,h',h1⟩
theorem d8.call{dst:Option Tmp}{f:Operand}{args:Array Operand}{cW:Array TypeId}{ty:TypeId}{am:String}{after:Array Edge}{guard:Option (Nat×Bool)}{co:i7}{rd wr:List Nat}{dv:DV X}{upd:List (Nat×Option (br X))}{out:Out}
 (h:lK P i (den (ρ f)) (args.toList.map λx=>den (ρ x)) co (dK rd (fV get))=some out) (h1:kL out.obs/\out.v=den dv/\out.upd=jm upd/\(∀ p∈upd,p.1=cE i\/p.1∈wr)/\k dv upd rd wr=some r):
 d8 P T i ⟨dst,.call { callee:=.value f,args:=args,argTypes:=cW },ty,am,after,guard⟩ ρ get k r:=by
 refine⟨co,rd,wr,dv,upd,out,?_,h1⟩;unfold jR
 all_goals grind [lK,qI,zJ]
theorem Ja{op:BinOp}{b:DV X}{yes:Bool}(h:Ha op b yes k=some r):∃dv out,FG op (den b) yes=some out/\kL out.obs/\out.v=den dv/\out.upd=[]/\k dv [] [] []=some r:=by
 unfold Ha at h;split at h;cases yes with
 |true=>exact⟨b,_,rfl,trivial,rfl,rfl,h⟩
 |false=>exact⟨.c .bool false,_,rfl,trivial,rfl,rfl,h⟩
 cases yes with
 |true=>exact⟨b,_,rfl,trivial,rfl,rfl,h⟩
 |false=>exact⟨.c .bool true,_,rfl,trivial,rfl,rfl,h⟩
 cases h
theorem afi{op:BinOp}{t:TypeId}{x:DV X}(h:amZ T op t x k=some r):∃dv out,A0 T op t (den x) .cP=some out/\kL out.obs/\out.v=den dv/\out.upd=[]/\k dv [] [] []=some r:=by unfold amZ at h;rw[ah]at h;obtain⟨ti,h1,h⟩:=h;split at h;rename_i e c l hk;have⟨dv,out,g1,g2⟩:=Ja h;refine⟨dv,out,?_,g2⟩;simp[A0,h1,hk];rw[<- g1];cases l<;>rfl;rename_i e kk aa len hk;have⟨dv,out,g1,g2⟩:=Ja h;exact⟨dv,out,by simp[A0,h1,hk];exact g1,g2⟩;rename_i e kk len hk;have⟨dv,out,g1,g2⟩:=Ja h;exact⟨dv,out,by simp[A0,h1,hk];exact g1,g2⟩;rename_i e hk;have⟨dv,out,g1,g2⟩:=Ja h;exact⟨dv,out,by simp[A0,h1,hk];exact g1,g2⟩;cases h
theorem afj{s:ByteArray}{n b:Int}(h:QR s n=some b):0<=n/\∃c,s[n.toNat]? =some c/\b=c.toNat:=by
 unfold QR at h
 grind
theorem Y4{m:Int}{bytes:Nat}(h:wC m bytes=true):0<=m/\m.toNat*bytes<=140737488355328/\m.toNat<=maxLen:=by
 simp_all [wC,and_assoc]
theorem Rz{b:Builtin}{args:List (DV X)}{cW:List TypeId}(h:OQ T code i b args cW get k=some r):
 ∃rd wr dv upd out,uN T i b (bF args) cW (dK rd (fV get))=some out/\kL out.obs/\out.v=den dv/\out.upd=jm upd/\(∀ p∈upd,p.1=cE i\/p.1∈wr)/\k dv upd rd wr=some r:=by unfold OQ at h;split at h;rw[ah]at h;obtain⟨ti,h1,h⟩:=h;split at h;rename_i e hk;refine⟨[],[],_,[],⟨.t (.sc (.int .i64 0)),[],[]⟩,?_,trivial,rfl,rfl,by simp,h⟩;simp[uN,bF,den,h1,hk];rfl;cases h;rename_i kk aa len t;rw[ah]at h;obtain⟨ti,h1,h⟩:=h;split at h;rename_i e hk;rw[ah]at h;obtain⟨ei,h2,h⟩:=h;rw[ah]at h;obtain⟨o,h3,h⟩:=h;split at h;rename_i c l;split at h;rename_i hs;refine⟨[kk],[kk],_,_,⟨.eV [],[(kk,some ⟨CT.sz X c,(aI (l.map (CT.row X.toSE c))).take aa⟩)],[]⟩,?_,trivial,rfl,?_,by simp,h⟩;simp only[uN,bF,den,h1,ai,hk,h2,fE (List.mem_singleton_self kk) h3,bH];rw[aX hs];simp[jm,bH,aI];cases h;cases h;cases h;rename_i kd m t u;rw[ah]at h;obtain⟨ti,h1,h⟩:=h;rw[ah]at h;obtain⟨ui,h2,h⟩:=h;split at h;rename_i e kn hk hk';rw[ah]at h;obtain⟨ei,h3,h⟩:=h;rw[ah]at h;obtain⟨c,h4,h⟩:=h;split at h;rename_i hs;have⟨z,h5,h⟩:=ah.1 h;have⟨h6,h⟩:=dR h;have⟨m1,m2,m3⟩:=Y4 h6;have hz:=xN h5;rw[BP]at hz;refine⟨[],[],_,_,⟨.own (cE i) 0 m.toNat,[(cE i,some ⟨ei.size,dW (List.replicate m.toNat (ei.zero.map cv))⟩)],[0<=m/\m.toNat*ei.bytes<=140737488355328/\m.toNat<=maxLen/\0<ei.size]⟩,?_,?_,rfl,?_,by simp,h⟩;simp[uN,bF,den,CT.tv,TV.av,h1,h2,h3,hk,hk'];exact⟨m1,m2,m3,hs.2⟩;simp only[jm,bJ,map_nil,Option.map_some,bH,hs.1,aI,dW,List.map_replicate];rw[hz];cases h;cases h;cases h
theorem acG{t:TypeId}{l c:DV X}(h:ajO T code i t l c k=some r):∃dv upd out,On T i t (den l) (den c)=some out/\kL out.obs/\out.v=den dv/\out.upd=jm upd/\(∀ p∈upd,p.1=cE i)/\k dv upd [] []=some r:=by unfold ajO at h;rw[ah]at h;obtain⟨ti,h1,h⟩:=h;split at h;rename_i e kl n kc m hk;rw[ah]at h;obtain⟨ei,h3,h⟩:=h;rw[ah]at h;obtain⟨c,h4,h⟩:=h;split at h;rename_i hs;rw[ah]at h;obtain⟨z,h5,h⟩:=h;have⟨h6,h⟩:=dR h;simp at h6;obtain⟨h7,h8,h9⟩:=h6;have⟨m1,m2,m3⟩:=Y4 h9;have hz:=xN h5;rw[BP]at hz;refine⟨_,_,⟨.own (cE i) 0 n.toNat,[(cE i,some ⟨ei.size,dW (List.replicate n.toNat (ei.zero.map cv))⟩)],[0<=n/\n<=m/\m.toNat*ei.bytes<=140737488355328/\m.toNat<=maxLen/\0<ei.size]⟩,?_,?_,rfl,?_,by simp,h⟩;simp[On,den,CT.tv,TV.av,h1,h3,hk];exact⟨h8,h7,m2,m3,hs.2⟩;simp only[jm,bJ,map_nil,Option.map_some,bH,hs.1,aI,dW,List.map_replicate];rw[hz];cases h;cases h
theorem U2{t:TypeId}(h:U0 T code i t k=some r):∃dv upd out,Gw T i t=some out/\kL out.obs/\out.v=den dv/\out.upd=jm upd/\(∀ p∈upd,p.1=cE i)/\k dv upd [] []=some r:=by unfold U0 at h;rw[ah]at h;obtain⟨ti,h1,h⟩:=h;split at h;rename_i kt et hk;have⟨kc,h2,h⟩:=ah.1 h;have⟨vc,h3,h⟩:=ah.1 h;exact⟨_,_,⟨.mp (cE i),[(cE i,some ⟨0,[]⟩)],[]⟩,by simp[Gw,h1,hk],trivial,rfl,rfl,by simp,h⟩;cases h
theorem ajR{ki:px}{kc:CT X.ι}(h:Fc ki.k kc=true)(x:CT.T X.toSE kc):∃v,(CT.tv X.toSE kc x).av=.t (.sc v)/\Lx ki.k v=true:=by
 cases kc
 case int b=>
  refine⟨.int b x,rfl,?_⟩;cases hk:ki.k<;>rw[hk]at h<;>simp[Fc]at h
  grind [Lx]
 case str=>
  refine⟨.string x,rfl,?_⟩;cases hk:ki.k<;>rw[hk]at h<;>simp[Fc]at h;rfl
 case bool=>
  refine⟨.bool x,rfl,?_⟩;cases hk:ki.k<;>rw[hk]at h<;>simp[Fc]at h;rfl
 all_goals (cases hk:ki.k<;>rw[hk]at h<;>simp[Fc]at h)
theorem acH{kc:CT X.ι}{eq:CT.T X.toSE kc->CT.T X.toSE kc->Bool}(h:LX kc=some eq){a b:CT.T X.toSE kc}{va:Value}(ha:(CT.tv X.toSE kc a).av=.t (.sc va)):∃vb,(CT.tv X.toSE kc b).av=.t (.sc vb)/\QA va vb=some (eq a b):=by
 cases kc
 case int q=>
  simp[LX]at h;subst h
  grind [CT.tv,TV.av,QA,iEq]
 case str=>
  simp[LX]at h;subst h
  grind [CT.tv,TV.av,QA,fW]
 case bool=>
  simp[LX]at h;subst h
  grind [CT.tv,TV.av,QA,bEq]
 all_goals simp[LX]at h
theorem Y5{kc vc:CT X.ι}{eq:CT.T X.toSE kc->CT.T X.toSE kc->Bool}(h:LX kc=some eq){a:CT.T X.toSE kc}{va:Value}(ha:(CT.tv X.toSE kc a).av=.t (.sc va)):∀l:List (CT.T X.toSE kc×CT.T X.toSE vc),
 ∃r,QB va (bH (.map kc vc l:br X)).rows=some r/\r.map (·.2)=(gZ eq a l).map λv=>(CT.tv X.toSE vc v).av
 |[]=>⟨none,rfl,rfl⟩
 |p::l=>by
  have⟨vb,h1,h2⟩:=acH h (b:=p.1) ha;have⟨r,g1,g2⟩:=Y5 h ha l;have g1':QB va (l.map λp=>[(CT.tv X.toSE kc p.1).av,(CT.tv X.toSE vc p.2).av])=some r:=g1;simp[bH,h1,QB,h2,gZ];cases eq a p.1 with
  |true=>grind
  |false=>
   simp only[Bool.false_eq_true,if_false,g1',Option.map_some,ax];exact⟨_,rfl,by rw[<- g2,Option.map_map];rfl⟩
theorem acI{kc vc:CT X.ι}{eq:CT.T X.toSE kc->CT.T X.toSE kc->Bool}(h:LX kc=some eq){a:CT.T X.toSE kc}{va:Value}(ha:(CT.tv X.toSE kc a).av=.t (.sc va))(y:CT.T X.toSE vc):∀l:List (CT.T X.toSE kc×CT.T X.toSE vc),
 yl va (CT.tv X.toSE vc y).av (bH (.map kc vc l:br X)).rows=some (bH (.map kc vc (Fj eq a y l):br X)).rows
 |[]=>by simp[bH,yl,Fj,ha]
 |p::l=>by
  have⟨vb,h1,h2⟩:=acH h (b:=p.1) ha;have g:=acI h ha y l;have g':yl va (CT.tv X.toSE vc y).av (l.map λp=>[(CT.tv X.toSE kc p.1).av,(CT.tv X.toSE vc p.2).av])=some ((Fj eq a y l).map λp=>[(CT.tv X.toSE kc p.1).av,(CT.tv X.toSE vc p.2).av]):=g;simp[bH,h1,yl,Fj]
  grind
theorem zero_den{vc:CT X.ι}{ei:px}{z:CT.T X.toSE vc}(h:LP vc (ei.zero.map wi)=some z)(ha:ei.agg=anH vc)(hs:ei.size=CT.sz X vc):part' ei.agg ei.size ((ei.zero.map cv).map wk)=some (CT.tv X.toSE vc z).av:=by
 have hz:=xN h;rw[BP]at hz;rw[hz,ha,hs];have hl:((CT.row X.toSE vc z).map AV.t).length=CT.sz X vc:=by rw[length_map,Gz]
 unfold part';rw[aX hl];cases vc<;>rfl
theorem alG{d:DV X}{c:CT X.ι}{x:CT.T X.toSE c}(h:dat d c=some x):GC (den d)=(CT.tv X.toSE c x).av:=by
 cases c
 case st j=>
  replace h:FS d j=some x:=h
  cases d
  case agg cs=>
   simp[FS]at h;rw[ah]at h;obtain⟨g,h1,h⟩:=h;cases h;simp[den,GC,(yg h1 (X.flat j)).1];rw[<- UM];rfl
  case c a y=>
   rw[(oC h).1];simp only[den,CT.tv,TV.av,GC,map_map];congr 1
  all_goals cases h
 all_goals
  (have h':=h
   have hd:=vI h';cases d
   case c a y=>
    obtain⟨e,_⟩:=rH (show lq a _ y=some x from h);subst e;exact hd
   all_goals first|exact hd|(cases h))
theorem XT{t:TypeId}{x key:DV X}{ok:Bool}(h:aaD T t x key ok get k=some r):∃rd dv out,IZ T t (den x) (den key) ok (dK rd (fV get))=some out/\kL out.obs/\out.v=den dv/\out.upd=[]/\k dv [] rd []=some r:=by
 unfold aaD at h;rw[ah]at h;obtain⟨ti,h1,h⟩:=h;split at h
 ·rename_i kt et kk hk;rw[ah]at h;obtain⟨ki,h2,h⟩:=h;rw[ah]at h;obtain⟨ei,h3,h⟩:=h;rw[ah]at h;obtain⟨o,h4,h⟩:=h;split at h
  ·rename_i kc vc l;rw[ah]at h;obtain⟨eq,h5,h⟩:=h;rw[ah]at h;obtain⟨kv,h6,h⟩:=h;split at h
   ·rename_i hc;have⟨z,h7,h⟩:=ah.1 h;have⟨va,g1,g2⟩:=ajR hc.1 kv;have⟨q,g3,g4⟩:=Y5 (vc:=vc) h5 g1 l;have hkey:den key=.t (.sc va):=(by have:=vI h6;rw[g1]at this;cases hd:den key<;>rw[hd]at this<;>simp only[wk,AV.t.injEq,reduceCtorEq]at this;subst this;rfl);have hv:∀q:Option (Nat×AV),q.map (·.2)=(gZ eq kv l).map (λ v=>(CT.tv X.toSE vc v).av)->HK q (part' ei.agg ei.size ((ei.zero.map cv).map wk))=some (CT.tv X.toSE vc ((gZ eq kv l).getD z)).av:=by
     intro q g;cases hm:gZ eq kv l with
     |none=>
      rw[hm]at g;cases q with
      |none=>exact zero_den h7 hc.2.1 hc.2.2
      |some p=>simp at g
     |some v=>
      rw[hm]at g;cases q with
      |none=>simp at g
      |some p=>simp only[Option.map_some,bM]at g;simp only[HK,g,Option.getD_some]
    have hi:q.isSome=(gZ eq kv l).isSome:=(by have:=congrArg Option.isSome g4;simpa using this);have hb:IZ T t (den (.mp kk:DV X)) (den key) ok (dK [kk] (fV get))=pv (if ok then .eV [den (.c vc ((gZ eq kv l).getD z):DV X),.t (.sc (.bool q.isSome))]else den (.c vc ((gZ eq kv l).getD z):DV X)):=(by simp only[IZ,h1,ai,hk,den,hkey,h2,h3,fE (List.mem_singleton_self kk) h4];rw[aX ⟨g2,by simp[bH]⟩,g3,ai,hv q g4,ai]);cases ok with
    |true=>exact⟨[kk],_,_,hb,trivial,by simp only[if_true,den,bF,hi];rfl,rfl,h⟩
    |false=>exact⟨[kk],_,_,hb,trivial,rfl,rfl,h⟩
   ·cases h
  ·cases h
 ·cases h
theorem XU{t:TypeId}{x key y:DV X}(h:aaE T t x key y get k=some r):∃rd wr dv upd out,I6 T t (den x) (den key) (den y) (dK rd (fV get))=some out/\kL out.obs/\out.v=den dv/\out.upd=jm upd/\(∀ p∈upd,p.1∈wr)/\k dv upd rd wr=some r:=by
 unfold aaE at h;rw[ah]at h;obtain⟨ti,h1,h⟩:=h;split at h
 ·rename_i kt et kk hk;rw[ah]at h;obtain⟨ki,h2,h⟩:=h;rw[ah]at h;obtain⟨o,h4,h⟩:=h;split at h
  ·rename_i kc vc l;rw[ah]at h;obtain⟨eq,h5,h⟩:=h;rw[ah]at h;obtain⟨kv,h6,h⟩:=h;rw[ah]at h;obtain⟨v,h7,h⟩:=h;split at h
   ·rename_i hc;have⟨va,g1,g2⟩:=ajR hc kv;have g3:=acI (vc:=vc) h5 g1 v l;have hkey:den key=.t (.sc va):=(by have:=vI h6;rw[g1]at this;cases hd:den key<;>rw[hd]at this<;>simp only[wk,AV.t.injEq,reduceCtorEq]at this;subst this;rfl);refine⟨[kk],[kk],_,_,⟨.undef,[(kk,some ⟨(bH (.map kc vc (Fj eq kv v l):br X)).rows.length,(bH (.map kc vc (Fj eq kv v l):br X)).rows⟩)],[]⟩,?_,trivial,rfl,?_,by simp,h⟩
    ·simp only[I6,h1,ai,hk,den,hkey,h2,fE (List.mem_singleton_self kk) h4];rw[aX ⟨g2,by simp[bH]⟩,alG h7,g3];rfl
    ·simp[jm,bH]
   ·cases h
  ·cases h
 ·cases h
theorem afk(h:am0 T code i o.op ρ get k=some r):d8 P T i o ρ get k r:=by
 obtain⟨dst,op,ty,am,after,guard⟩:=o;unfold am0 at h;simp only at h;split at h
 ·rename_i op t x y q;split at h
  ·rename_i hn;have⟨dv,out,g1,g2,g3,g4,g5⟩:=afi h;have hy:den (ρ y)=.cP:=(by cases hρ:ρ y<;>rw[hρ]at hn<;>first|rfl|cases hn);exact d8.ext (n:=0) (rd:=[]) (wr:=[]) (upd:=[]) (by simp only[sO,hy];exact g1) g2 g3 g4 (by simp) g5
  ·cases h
 ·rename_i s d x;unfold amG at h;rw[ah]at h;obtain⟨si,h1,h⟩:=h;rw[ah]at h;obtain⟨di,h2,h⟩:=h;split at h
  ·rename_i kd k' n hk hx;refine d8.ext (n:=0) (rd:=[]) (wr:=[]) (upd:=[]) (out:=⟨.t (.sc (.int kd (kd.wrap n))),[],[]⟩) ?_ trivial rfl rfl (by simp) h;simp only[sO,Sx,h1,h2,ai,hk,hx];rfl
  ·cases h
 ·rename_i t x j;unfold ajN at h;rw[ah]at h;obtain⟨ti,h1,h⟩:=h;split at h
  ·rename_i s kk n hk hx hj;rw[ah]at h;obtain⟨b,h2,h⟩:=h;refine d8.ext (n:=b) (rd:=[]) (wr:=[]) (upd:=[]) (out:=⟨.t (.sc (.int .u8 b)),[],[0<=n/\∃c,s[n.toNat]? =some c/\b=c.toNat]⟩) ?_ (afj h2) rfl rfl (by simp) h;simp only[sO,Uk,h1,ai,hk,hx,hj];rfl
  ·rename_i m e cs kd q hk hx hj;rw[ah]at h;obtain⟨ei,h2,h⟩:=h;have⟨h3,h⟩:=dR h;rw[ah]at h;obtain⟨v,h4,h⟩:=h;simp only[cx,bg,bE]at h3;refine d8.ext (n:=0) (rd:=[]) (wr:=[]) (upd:=[]) (out:=⟨den v,[],[0<=q/\q<(m:Int)]⟩) ?_ h3 rfl rfl (by simp) h;have h5:=BQ h4;rw[kM]at h5;simp only[sO,Uk,h1,ai,hk,hx,hj,h2,den,CT.tv,TV.av,h5];rfl
  ·cases h
 ·rename_i t x lo hi;unfold Y2 at h;rw[ah]at h;obtain⟨ti,h1,h⟩:=h;split at h
  ·rename_i e hk hx;rw[ah]at h;obtain⟨ei,h2,h⟩:=h;rw[ah]at h;obtain⟨l,h3,h⟩:=h;rw[ah]at h;obtain⟨hh,h4,h⟩:=h;have⟨h5,h⟩:=dR h;refine d8.ext (n:=0) (rd:=[]) (wr:=[]) (upd:=[]) (out:=⟨.cP,[],[l=0/\hh=0]⟩) ?_ (show l=0/\hh=0 by simpa using h5) rfl rfl (by simp) h;have e1:=BR h3;have e2:=BR h4;rw[Option.map_map]at e1 e2;simp only[sO,IY,h1,ai,hk,hx,h2,den];have PQ:bnd 0 (lo.map λx=>den (ρ x))=some l:=e1;have e2':bnd 0 (hi.map λx=>den (ρ x))=some hh:=e2;rw[PQ,ai,e2'];rfl
  ·cases h
 ·rename_i x;have⟨dv,g1,g2⟩:=Ry h;exact d8.wg (n:=0) (rd:=[]) (wr:=[]) (upd:=[]) g1 trivial rfl rfl (by simp) g2
 ·rename_i t l c;have⟨dv,upd,out,g1,g2,g3,g4,g5,g6⟩:=acG h;exact d8.wg (n:=0) (rd:=[]) (wr:=[]) (upd:=upd) g1 g2 g3 g4 (λ p hp=>.inl (g5 p hp)) g6
 ·rename_i t;have⟨dv,upd,out,g1,g2,g3,g4,g5,g6⟩:=U2 h;exact d8.wg (n:=0) (rd:=[]) (wr:=[]) (upd:=upd) g1 g2 g3 g4 (λ p hp=>.inl (g5 p hp)) g6
 ·rename_i t m x ok;have⟨rd,dv,out,g1,g2,g3,g4,g6⟩:=XT h;exact d8.wg (n:=0) (rd:=rd) (wr:=[]) (upd:=[]) g1 g2 g3 g4 (by simp) g6
 ·rename_i t m x v;have⟨rd,wr,dv,upd,out,g1,g2,g3,g4,g5,g6⟩:=XU h;exact d8.wg (n:=0) (rd:=rd) (wr:=wr) (upd:=upd) g1 g2 g3 g4 (λ p hp=>.inr (g5 p hp)) g6
 ·rename_i b args cW;have⟨rd,wr,dv,upd,out,g1,g2,g3,g4,g5,g6⟩:=Rz h;refine d8.ext (n:=0) (rd:=rd) (wr:=wr) (upd:=upd) ?_ g2 g3 g4 g5 g6;simp only[sO,Tm];exact g1
 ·cases h
theorem acJ{c:CT X.ι}:∀{xs:List Operand}{x:Operand}{y:CT.T X.toSE c×List Bool},x∈xs->EY get (ρ x) c=some y->∀j∈bp (ρ x),j∈AN get c ρ xs
 |z::xs,x,y,hx,h,j,hj=>by simp[AN];rcases aR.1 hx with rfl|hx;left;rw[h];exact hj;exact .inr (acJ hx h j hj)
 |[],_,_,hx,_,_,_=>by grind
theorem acK{c:CT X.ι}:∀{xs:List Operand}{x:Operand}{y:CT.T X.toSE c×List Bool},x∈xs->EY get (ρ x) c=some y->∀b∈y.2,b∈Re get c ρ xs
 |z::xs,x,y,hx,h,b,hb=>by simp[Re];rcases aR.1 hx with rfl|hx;left;rw[h];exact hb;exact .inr (acK hx h b hb)
 |[],_,_,hx,_,_,_=>by grind
theorem afl(h:am1 T code i o.op ρ get k=some r):d8 P T i o ρ get k r:=by
 unfold am1 at h;split at h;cases h;rename_i hpick;have⟨c,h1,h⟩:=ah.1 h;have⟨hcs,h⟩:=pY h;have⟨co,rd,wr,dv,upd,out,g1,g2,g3,g4,g5,g6⟩:=YX h;generalize km:AN get c ρ o.op.operands.toList=ab at*;refine⟨.wc ab (λ x=>den (Nd get c ρ x)) co,rd++ab,wr++ab,dv,upd++LY ab,⟨out.v,out.upd++ab.map (λ k=>(k,none)),out.obs++[∀ x∈o.op.operands,(fy P (dK (rd++ab) (fV get)) (den (ρ x)) (den (Nd get c ρ x))/\∀k∈refs (den (ρ x)),k∈ab)\/den (Nd get c ρ x)=den (ρ x)]⟩,?_,?_,g3,?_,?_,g6⟩;unfold jR Gv;simp only;rw[aV hpick];have e:(λ k=>if k∈ab then none else dK (rd++ab) (fV get) k)=dK rd (fV λj=>if j∈ab then none else get j):=by
  grind [dK,fV]
 rw[e,g1];rfl;refine qW _ λp hp=>?_;rcases bK.1 hp with hp|hp;exact qH _ g2 p hp;rw[bq]at hp;subst hp;intro x hx;unfold Nd;rcases hl:EY get (ρ x) c with _|y;exact .inr rfl;left;have hx':x∈o.op.operands.toList:=by grind
 have hin:=λj hj=>km ▸ acJ hx' hl j hj;obtain⟨hs,obs,p1,p2⟩:=zO (P:=P) (rd:=rd++ab) hl (λ b hb=>hcs b (acK hx' hl b hb)) (λ j hj=>mem_append_right _ (hin j hj));refine⟨?_,λj hj=>hin j (by rwa [iP]at hj)⟩;have:=p2 [];exact Dm _ _ _ this p1;simp[rU,BU,g4];intro p hp;rcases bK.1 hp with hp|hp;exact(g5 p hp).imp id (λ h=>mem_append_left _ h);exact .inr (mem_append_right _ (I9 hp))
theorem U3{c:CT X.ι}:∀{ds:List (DV X)}{xs:List (CT.T X.toSE c)},G4 c ds=some xs->bF ds=xs.map λy=>den (.c c y:DV X)
 |[],xs,h=>by simp[G4]at h;subst h;rfl
 |.c a x::ds,xs,h=>by simp[G4]at h;rw[ah]at h;obtain⟨y,h1,h⟩:=h;rw[ah]at h;obtain⟨l,h2,h⟩:=h;cases h;simp[bF,U3 h2,(oC h1).1]
 |.agg _::_,_,h|.eV _::_,_,h|.own _ _ _::_,_,h|.ptr _ _ _::_,_,h|.qt _ _ _::_,_,h|.mp _::_,_,h|.tx _ _ _ _ _::_,_,h|.rp _ _ _::_,_,h|.xi _ _ _ _ _::_,_,h|.fn _ _ _::_,_,h|.du _ _ _::_,_,h|.raw _::_,_,h|.nil::_,_,h|.ub::_,_,h|.skip::_,_,h|.undef::_,_,h=>by trivial
theorem afm(h:am2 T code o.op ρ get k=some r):d8 P T i o ρ get k r:=by
 obtain⟨dst,op,ty,am,after,guard⟩:=o;unfold am2 at h;simp only at h;split at h
 ·rename_i t x j;rw[ah]at h;obtain⟨ti,h1,h⟩:=h;split at h
  ·rename_i m e kk row aa kd n hk hx hj;rw[ah]at h;obtain⟨ei,h2,h⟩:=h;split at h
   ·rename_i hs;have⟨h3,h⟩:=dR h;refine d8.op (co:=.none) (rd:=[]) (wr:=[]) (upd:=[]) (λ _ _ _ e=>by cases e) (out:=⟨.ptr kk row (aa+n.toNat*1),[],[0<=n/\n.toNat<m]⟩) ?_ ⟨?_,?_,rfl,by simp,h⟩
    ·simp only[ql,mh,h1,ai,hk,hx,hj,den,CT.tv,TV.av,h2,hs];rfl
    ·simp only[cx,bg,bE]at h3;exact⟨h3.1,by omega⟩
    ·simp only[den,Nat.mul_one]
   ·cases h
  ·rename_i m e c y aa kd n hk hx hj;rw[ah]at h;obtain⟨ei,h2,h⟩:=h;split at h
   ·rename_i hs;have⟨h3,h⟩:=dR h;refine d8.op (co:=.none) (rd:=[]) (wr:=[]) (upd:=[]) (λ _ _ _ e=>by cases e) (out:=⟨.ep (CT.row X.toSE c y) (aa+n.toNat*1),[],[0<=n/\n.toNat<m]⟩) ?_ ⟨?_,?_,rfl,by simp,h⟩
    ·simp only[ql,mh,h1,ai,hk,hx,hj,den,CT.tv,TV.av,h2,hs];rfl
    ·simp only[cx,bg,bE]at h3;exact⟨h3.1,by omega⟩
    ·simp only[den,Nat.mul_one]
   ·cases h
  ·cases h
 ·rename_i t a;rw[ah]at h;obtain⟨ti,h1,h⟩:=h;split at h
  ·rename_i kk row aa m n hx;split at h
   ·rename_i hs;rw[ah]at h;obtain⟨c,h2,h⟩:=h;split at h
    ·rename_i hc;rw[ah]at h;obtain⟨ob,h3,h⟩:=h;split at h
     ·rename_i sz rows;have⟨q,h4,h⟩:=ah.1 h;have⟨xs,h5,h⟩:=ah.1 h;have⟨y,h6,h⟩:=ah.1 h;have⟨_,h7⟩:=LQ h6;have h8:=U3 h5;have h9:((bF q).drop (aa+n.toNat)).take 1=[den (.c c y:DV X)]:=by
       have e1:(bF ((q.drop aa).take m))[n.toNat]? =some (den (.c c y:DV X)):=(by rw[h8,List.getElem?_map,h7];rfl);rw[kM,List.getElem?_take]at e1;split at e1
       ·rw[List.getElem?_drop]at e1;have⟨g1,g2⟩:=dh.1 e1;rw[List.drop_eq_getElem_cons g1,List.take_succ_cons,List.take_zero,g2]
       ·cases e1
      refine d8.op (co:=.none) (rd:=[kk]) (wr:=[]) (upd:=[]) (λ _ _ _ e=>by cases e) (out:=⟨den (.c c y:DV X),[],[]⟩) ?_ ⟨trivial,rfl,rfl,by simp,h⟩;simp only[ql,J4,h1,ai,hx,den,fE (List.mem_singleton_self kk) h3,bH,List.getElem?_map,h4,Option.map_some,hs.1,hs.2];rw[h9];obtain⟨t',g1,g2⟩:=row_one hc y;simp only[den,g2,TV.av];rfl
     ·cases h
     ·cases h
    ·cases h
   ·cases h
  ·rename_i b y0 aa m n hx;split at h
   ·rename_i hs;rw[ah]at h;obtain⟨c,h2,h⟩:=h;split at h
    ·rename_i hc;have⟨xs,h5,h⟩:=ah.1 h;have⟨y,h6,h⟩:=ah.1 h;have⟨_,h7⟩:=LQ h6;have h8:=U3 h5;have h9:(((CT.row X.toSE b y0).drop (aa+n.toNat)).take 1).map AV.t=[den (.c c y:DV X)]:=by
      have e1:(bF (((uQ b y0).drop aa).take m))[n.toNat]? =some (den (.c c y:DV X)):=(by rw[h8,List.getElem?_map,h7];rfl);rw[kM,o6,List.getElem?_take]at e1;split at e1
      ·rw[List.getElem?_drop]at e1;have⟨g1,g2⟩:=dh.1 e1;rw[map_take,map_drop,List.drop_eq_getElem_cons g1,List.take_succ_cons,List.take_zero,g2]
      ·cases e1
     refine d8.op (co:=.none) (rd:=[]) (wr:=[]) (upd:=[]) (λ _ _ _ e=>by cases e) (out:=⟨den (.c c y:DV X),[],[]⟩) ?_ ⟨trivial,rfl,rfl,by simp,h⟩;simp only[ql,J4,h1,ai,hx,den,hs.1,hs.2];rw[h9];obtain⟨t',g1,g2⟩:=row_one hc y;simp only[den,g2,TV.av];rfl
    ·cases h
   ·cases h
  ·cases h
 ·cases h
end
end
section
variable {X:SX}
structure MA(X:SX) where
 nm:List (Nat×Nat)
 ev:List (DC X)
 iS:List Bool
def addN(m:MA X)(k' k:Nat):MA X:=if m.nm.contains (k',k)then m else⟨m.nm++[(k',k)],m.ev,m.iS⟩
section
variable (get:Nat->Option (br X))
mutual
def mP:Pt X.ι->DV X->MA X->Option (MA X)
 |.v c,d,m=>(dat d c).bind λx=>some ⟨m.nm,m.ev++[⟨c,x⟩],m.iS⟩
 |.o k,d,m=>match d with
  |.own k' 0 len=>(get k').bind λo=>match o with
   |.ec _ l=>some (addN ⟨m.nm,m.ev,m.iS++[be len l.length]⟩ k' k)
   |_=>none
  |_=>none
 |.oz k,d,m=>match d with
  |.own k' 0 len=>(get k').bind λo=>match o with
   |.ec _ l=>some (addN ⟨m.nm,m.ev,m.iS++[!(len==0)&&be len l.length]⟩ k' k)
   |_=>none
  |.oz k' len=>(get k').bind λo=>match o with
   |.ec _ l=>some (addN ⟨m.nm,m.ev,m.iS++[be len l.length]⟩ k' k)
   |_=>none
  |_=>none
 |.p k,d,m=>match d with
  |.ptr k' 0 0=>some (addN m k' k)
  |_=>none
 |.mp k,d,m=>match d with
  |.mp k'=>some (addN m k' k)
  |_=>none
 |.nil,d,m=>match d with
  |.nil=>some m
  |_=>none
 |.f F fs cs,d,m=>match d with
  |.fn F' first caps=>if F=F' then(tA fs first m).bind λm=>tA cs caps m else none
  |_=>none
 |.od k,d,m=>match d with
  |.own k' aa len=>(get k').bind λo=>match o with
   |.ec _ l=>some (addN ⟨m.nm,m.ev++[⟨.int .i64,(aa:Int)⟩],m.iS++[be (aa+len) l.length]⟩ k' k)
   |_=>none
  |_=>none
 |.a ps,d,m=>match d with
  |.agg ds=>tA ps ds m
  |_=>none
def tA:List (Pt X.ι)->List (DV X)->MA X->Option (MA X)
 |[],[],m=>some m
 |p::ps,d::ds,m=>(mP p d m).bind λm=>tA ps ds m
 |_,_,_=>none
end
def GN(env:Nat->DV X):List (Nat×Pt X.ι)->MA X->Option (MA X)
 |[],m=>some m
 |(t,p)::r,m=>(mP get p (env t) m).bind λm=>GN env r m
def Kg:List (List (Pt X.ι))->List (List (DV X))->MA X->Option (MA X)
 |[],[],m=>some m
 |r::rs,q::qs,m=>(tA get r q m).bind λm=>Kg rs qs m
 |_,_,_=>none
def nameOf(m:MA X)(k:Nat):Nat:=match m.nm.find? (λ q=>q.2==k)with|some q=>q.1|none=>k
def BV:List (Nat×OP X.ι)->MA X->Option (MA X)
 |[],m=>some m
 |(k,op)::r,m=>(get (nameOf m k)).bind λo=>match op,o with
  |.l c,.ec c' l=>(lq (.sl c') (.sl c) l).bind λl'=>BV r (addN ⟨m.nm,m.ev++[⟨.sl c,l'⟩],m.iS⟩ (nameOf m k) k)
  |.m kc vc,.map uc tW l=>(lq (.mp uc tW) (.mp kc vc) l).bind λl'=>BV r (addN ⟨m.nm,m.ev++[⟨.mp kc vc,l'⟩],m.iS⟩ (nameOf m k) k)
  |.c sz rows,.cells sz' rows'=>if sz=sz' then(Kg get rows rows' (addN m (nameOf m k) k)).bind λm=>BV r m else none
  |_,_=>none
end
end
section
variable {X:SX} {A:Type}
mutual
def ry(f:Nat->Nat):DV X->DV X
 |.own k aa len=>.own (f k) aa len
 |.ptr k row aa=>.ptr (f k) row aa
 |.qt k n aa=>.qt (f k) n aa
 |.tx k row aa m n=>.tx (f k) row aa m n
 |.mp k=>.mp (f k)
 |.oz k len=>.oz (f k) len
 |.agg cs=>.agg (KD f cs)
 |.eV cs=>.eV (KD f cs)
 |.fn F first caps=>.fn F (KD f first) (KD f caps)
 |x=>x
def KD(f:Nat->Nat):List (DV X)->List (DV X)
 |[]=>[]
 |x::xs=>ry f x::KD f xs
end
theorem afn(f:Nat->Nat):∀l:List Tree,BN f (l.map AV.t)=l.map AV.t
 |[]=>rfl
 |x::xs=>by simp[BN,jt,afn f xs]
mutual
theorem zP(f:Nat->Nat):∀x:DV X,den (ry f x)=jt f (den x)
 |.own _ _ _|.ptr _ _ _|.qt _ _ _|.mp _|.oz _ _|.tx _ _ _ _ _=>rfl
 |.agg cs|.eV cs=>by simp[ry,den,jt,GQ f cs]
 |.fn F first caps=>by simp[ry,den,jt,GQ f first,GQ f caps]
 |.c t x=>by
  simp[ry,den];cases t<;>try rfl
  simp[CT.tv,TV.av,jt,afn]
 |.rp _ _ _|.xi _ _ _ _ _|.du _ _ _=>rfl
 |.raw v=>by simp[ry,den,cv];split;rfl;split<;>rfl
 |.nil|.ub|.skip|.undef=>rfl
theorem GQ(f:Nat->Nat):∀l:List (DV X),bF (KD f l)=BN f (bF l)
 |[]=>rfl
 |x::xs=>by simp[KD,bF,BN,zP f x,GQ f xs]
end
def pP(f:Nat->Nat):br X->br X
 |.cells sz rows=>.cells sz (rows.map (KD f))
 |o=>o
def d7:br X->List Nat
 |.cells _ rows=>(rows.map aL).flatten
 |.ec _ _=>[]
 |.map _ _ _=>[]
def SJ:CT X.ι->Bool
 |.int _|.bool|.str=>true
 |_=>false
def wQ:CT X.ι->Bool
 |.st i=>(X.cW i).all SJ
 |c=>SJ c
theorem DI{c:CT X.ι}(h:SJ c=true)(x:CT.T X.toSE c):∀t∈CT.row X.toSE c x,t.flat:=by cases c<;>first|(intro t ht;simp[CT.row]at ht;subst ht;trivial)|cases h
theorem ag9:∀(l:List (CT X.ι))(h:HL X.toSE l),l.all SJ=true->∀t∈HL.row X.toSE l h,t.flat
 |[],_,_,t,ht=>by trivial
 |c::l,h,ha,t,ht=>by simp only[all_cons,bg]at ha;rcases bK.1 (show t∈CT.row X.toSE c h.1++HL.row X.toSE l h.2 from ht)with ht|ht;exact DI ha.1 h.1 t ht;exact ag9 l h.2 ha.2 t ht
theorem uR{c:CT X.ι}(h:wQ c=true)(x:CT.T X.toSE c):∀t∈CT.row X.toSE c x,t.flat:=by
 cases c
 case st i=>intro t ht;exact ag9 (X.cW i) (X.get i x) h t ((X.oR i x) ▸ ht)
 case int k=>exact DI (c:=.int k) h x
 case bool=>exact DI (c:=.bool) h x
 case str=>exact DI (c:=.str) h x
 case sl e=>cases h
 case any=>cases h
 trivial
structure MG(X:SX) where
 nm:List (Nat×Nat)
 ev:List (DC X)
 iS:List Bool
 vr:List Nat
section
variable (get:Nat->Option (br X))
mutual
def pZ:Pt X.ι->DV X->MG X->Option (MG X)
 |.v c,d,m=>(EY get d c).bind λx=>some ⟨m.nm,m.ev++[⟨c,x.1⟩],m.iS++x.2,m.vr++bp d⟩
 |.o k,d,m=>match d with
  |.own k' 0 len=>(get k').bind λo=>match o with
   |.ec _ l=>some ⟨m.nm++[(k',k)],m.ev,m.iS++[be len l.length],m.vr⟩
   |_=>none
  |_=>none
 |.od k,d,m=>match d with
  |.own k' aa len=>(get k').bind λo=>match o with
   |.ec _ l=>some ⟨m.nm++[(k',k)],m.ev++[⟨.int .i64,(aa:Int)⟩],m.iS++[be (aa+len) l.length],m.vr⟩
   |_=>none
  |_=>none
 |.p k,d,m=>match d with
  |.ptr k' 0 0=>some ⟨m.nm++[(k',k)],m.ev,m.iS,m.vr⟩
  |_=>none
 |.nil,d,m=>match d with
  |.nil=>some m
  |_=>none
 |.f F fs cs,d,m=>match d with
  |.fn F' first caps=>if F=F' then(so fs first m).bind λm=>so cs caps m else none
  |_=>none
 |.mp k,d,m=>match d with
  |.mp k'=>some ⟨m.nm++[(k',k)],m.ev,m.iS,m.vr⟩
  |_=>none
 |.oz _,_,_=>none
 |.a ps,d,m=>match d with
  |.agg ds=>so ps ds m
  |_=>none
def so:List (Pt X.ι)->List (DV X)->MG X->Option (MG X)
 |[],[],m=>some m
 |p::ps,d::ds,m=>(pZ p d m).bind λm=>so ps ds m
 |_,_,_=>none
end
def LZ:List (List (Pt X.ι))->List (List (DV X))->MG X->Option (MG X)
 |[],[],m=>some m
 |r::rs,q::qs,m=>(so get r q m).bind λm=>LZ rs qs m
 |_,_,_=>none
def qu(m:MG X)(k:Nat):Nat:=match m.nm.find? (λ q=>q.2==k)with|some q=>q.1|none=>k
def stC:CT X.ι->Bool
 |.st _=>true
 |_=>false
def BX:List (Nat×OP X.ι)->MG X->Option (MG X)
 |[],m=>some m
 |(k,op)::r,m=>(get (qu m k)).bind λo=>match op,o with
  |.l c,.ec c' l=>(lq (.sl c') (.sl c) l).bind λl'=>BX r ⟨m.nm++[(qu m k,k)],m.ev++[⟨.sl c,l'⟩],m.iS,m.vr⟩
  |.m kc vc,.map uc tW l=>if (kc.one=true/\vc.one=true)\/stC kc=true then(lq (.mp uc tW) (.mp kc vc) l).bind λl'=>BX r ⟨m.nm++[(qu m k,k)],m.ev++[⟨.mp kc vc,l'⟩],m.iS,m.vr⟩else none
  |.c sz rows,.cells sz' rows'=>if sz=sz' then(LZ get rows rows' ⟨m.nm++[(qu m k,k)],m.ev,m.iS,m.vr⟩).bind λm=>BX r m else none
  |_,_=>none
end
mutual
def Pt.refs:Pt X.ι->List Nat
 |.o k|.od k|.p k|.mp k|.oz k=>[k]
 |.f _ fs cs=>wD fs++wD cs
 |.a ps=>wD ps
 |_=>[]
def wD:List (Pt X.ι)->List Nat
 |[]=>[]
 |p::ps=>p.refs++wD ps
end
def OP.refs:OP X.ι->List Nat
 |.l _=>[]
 |.m _ _=>[]
 |.c _ rows=>rows.flatMap wD
def HP(n k:Nat):Bool:=Nat.blt k n || (Nat.ble 1000 k&&Nat.blt k 1064)
def cN.ok(g:cN X):Bool:=
 decide (g.io.map (·.1)=List.range g.io.length)&&decide (g.io.length<=1000)&&(g.iz.all λq=>HP g.io.length q.1&&q.2.refs.all λk=>HP g.io.length k)&&decide (g.iz.map (·.1)).Nodup&&(wD g.ft).all λk=>HP g.io.length k
def okG(m:MG X)(ab:List Nat):Bool:=
 decide ab.Nodup&&(m.nm.all λq=>match ab[q.2]? with|some k=>Nat.beq k q.1|none=>false)&&m.vr.all λk=>!ab.contains k
def cN.flat(g:cN X):Bool:=(cJ g.ft).all wQ&&g.iz.all λq=>match q.2 with
 |.l c=>wQ c
 |.m _ _=>false
 |.c _ rows=>(vJ rows).all wQ
def tI:List (Nat×br X)->Nat->Option (br X)
 |[],_=>none
 |(j,o)::r,k=>if j=k then some o else tI r k
def Sa(i:Nat)(ab:List Nat)(os':List (Nat×br X)):List (Nat×Option (br X)):=
 (ab.zipIdx.map λp=>(p.1,(tI os' p.2).map (pP (cn i ab))))++(os'.filter λq=>decide (1000<=q.1)).map λq=>(cn i ab q.1,some (pP (cn i ab) q.2))
def afo(g:cN X)(i:Nat)(ds:List (DV X))(get:Nat->Option (br X))(k:KK X A):Option A:=
 (so get g.ml ds ⟨[],[],[],[]⟩).bind λm=>(BX get g.io m).bind λm=>
  bif g.ok&&okG m ((List.range g.io.length).map (qu m))then(Fi (cJ g.ml++da g.io) m.ev).bind λv=>UH m.iS ((g.fn v).bind λr=>
   let ab:=(List.range g.io.length).map (qu m)
   k (ry (cn i ab) (g.res r)) (Sa i ab (g.outs r)++(if g.flat then []else m.vr.map λk=>(k,none))) (ab++m.vr) ((ab++(Sa i ab (g.outs r)).map (·.1))++m.vr))
  else none
section
variable {P:Program} {get:Nat->Option (br X)} {rd ab:List Nat} {dp:Nat->Nat}
def fL(m m':MG X):Prop:=(∀ q∈m.nm,q∈m'.nm)/\(∀ c∈m.iS,c∈m'.iS)/\∀k∈m.vr,k∈m'.vr
theorem fL.refl(m:MG X):fL m m:=⟨λ _ h=>h,λ_ h=>h,λ_ h=>h⟩
theorem fL.trans{a b c:MG X}(h:fL a b)(h':fL b c):fL a c:=⟨λ q hq=>h'.1 q (h.1 q hq),λq hq=>h'.2.1 q (h.2.1 q hq),λq hq=>h'.2.2 q (h.2.2 q hq)⟩
mutual
theorem ajS:∀(p:Pt X.ι)(d:DV X)(m m':MG X),pZ get p d m=some m'->fL m m'/\∃al,m'.ev=m.ev++al/\al.length=p.vars.length
 |.v c,d,m,m',h=>by simp[pZ]at h;rw[ah]at h;obtain⟨x,h1,h⟩:=h;cases h;exact⟨⟨λ _ h=>h,λ_ h=>by simp[h],λ_ h=>by simp[h]⟩,[⟨c,x.1⟩],rfl,rfl⟩
 |.o k,d,m,m',h=>by simp[pZ]at h;split at h;rw[ah]at h;obtain⟨o,h1,h⟩:=h;split at h;cases h;exact⟨⟨λ _ h=>by simp[h],λ_ h=>by simp[h],λ_ h=>h⟩,[],by simp,rfl⟩;cases h;cases h
 |.od k,d,m,m',h=>by simp[pZ]at h;split at h;rename_i k' aa len;have⟨o,h1,h⟩:=ah.1 h;split at h;cases h;exact⟨⟨λ _ h=>by simp[h],λ_ h=>by simp[h],λ_ h=>h⟩,[⟨.int .i64,(aa:Int)⟩],rfl,rfl⟩;cases h;cases h
 |.p k,d,m,m',h=>by simp[pZ]at h;split at h;cases h;exact⟨⟨λ _ h=>by simp[h],λ_ h=>h,λ_ h=>h⟩,[],by simp,rfl⟩;cases h
 |.nil,d,m,m',h=>by simp[pZ]at h;split at h;cases h;exact⟨fL.refl _,[],by simp,rfl⟩;cases h
 |.f F fs cs,d,m,m',h=>by simp[pZ]at h;split at h;split at h;have⟨m1,h1,h⟩:=ah.1 h;obtain⟨a1,n1,b1,c1⟩:=vN fs _ m m1 h1;obtain⟨a2,n2,b2,c2⟩:=vN cs _ m1 m' h;exact⟨a1.trans a2,n1++n2,by rw[b2,b1,aT],by simp[Pt.vars,c1,c2]⟩;cases h;cases h
 |.mp k,d,m,m',h=>by simp[pZ]at h;split at h;cases h;exact⟨⟨λ _ h=>by simp[h],λ_ h=>h,λ_ h=>h⟩,[],by simp,rfl⟩;cases h
 |.oz _,_,_,_,h=>by simp[pZ]at h
 |.a ps,d,m,m',h=>by simp[pZ]at h;split at h;exact vN ps _ m m' h;cases h
theorem vN:∀(ps:List (Pt X.ι))(ds:List (DV X))(m m':MG X),so get ps ds m=some m'->fL m m'/\∃al,m'.ev=m.ev++al/\al.length=(cJ ps).length
 |[],[],m,m',h=>by simp[so]at h;subst h;exact⟨fL.refl _,[],by simp,rfl⟩
 |p::ps,d::ds,m,m',h=>by simp[so]at h;have⟨m1,h1,h⟩:=ah.1 h;have⟨a1,n1,b1,c1⟩:=ajS p d m m1 h1;have⟨a2,n2,b2,c2⟩:=vN ps ds m1 m' h;exact⟨a1.trans a2,n1++n2,by rw[b2,b1,aT],by simp[cJ,c1,c2]⟩
 |[],_::_,m,m',h|_::_,[],m,m',h=>by simp[so]at h
end
def ym:AV->List LH->List LH
 |.agg _,hs=>.agd::hs
 |_,hs=>hs
theorem L6(x:AV)(a b:List LH):ym x (a++b)=ym x a++b:=by cases x<;>rfl
theorem xO{get':Nat->Option aM}{x:AV}{hs:List LH}{p:AV×List LH×List Prop}(h:oW P get' x hs=some p)(hr:∀k∈refs x,k∉ab):qo P get' ab x (ym x hs)=some p:=by
 have hd:((refs x).all λk=>!ab.contains k)=true:=by
  grind
 cases x
 all_goals
  simp[ym];unfold qo;split<;>first|trivial|grind|exact h|grind|(done)
variable {NM:List (Nat×Nat)} {p0:List Nat}
mutual
theorem aik(hi:∀q∈NM,ab[q.2]? =some q.1)(hv:∀k∈p0,k∉ab)(hrd:∀k,(∃ q,(k,q)∈NM)\/k∈p0->k∈rd)(ho:∀q∈NM,∀c l,get q.1=some (.ec c l)->dp q.2=l.length):
 ∀(p:Pt X.ι)(d:DV X)(m m':MG X),pZ get p d m=some m'->(∀ q∈m'.nm,q∈NM)->(∀ c∈m'.iS,c=true)->(∀ k∈m'.vr,k∈p0)->
 ∃al,m'.ev=m.ev++al/\∃d',(∀ ae,eP dp p (al++ae)=(d',ae))/\(∃ hs obs,(∀ p∈obs,p)/\∀ae,qo P (dK rd (fV get)) ab (den d) (hs++ae)=some (den d',ae,obs))/\∀j∈bp d,(∃ q,(j,q)∈NM)\/j∈p0
 |.v c,d,m,m',h,hn,hc,hr=>by simp[pZ]at h;rw[ah]at h;obtain⟨x,h1,h⟩:=h;cases h;have B9:∀j∈bp d,j∈p0:=λj hj=>hr j (by simp[hj]);obtain⟨hs,obs,p1,q1⟩:=zO (P:=P) (rd:=rd) h1 (λ b hb=>hc b (by simp[hb])) (λ j hj=>hrd j (.inr (B9 j hj)));refine⟨[⟨c,x.1⟩],rfl,.c c x.1,λae=>rfl,⟨ym (den d) hs,obs,p1,λae=>?_⟩,λj hj=>.inr (B9 j hj)⟩;rw[<- L6];exact xO (q1 ae) (λ k hk=>hv k (B9 k (by rwa [iP]at hk)))
 |.o k,d,m,m',h,hn,hc,hr=>by
  simp[pZ]at h;split at h;rename_i k' len;rw[ah]at h;obtain⟨o,h1,h⟩:=h;split at h;rename_i c l;cases h;have hq:(k',k)∈NM:=hn _ (by simp);have he:len=l.length:=by have:=hc (be len l.length) (by simp);simpa[be]using this
  refine⟨[],by simp,.own k 0 (dp k),λae=>rfl,⟨[.mut k],[],by simp,λae=>?_⟩,λj hj=>?_⟩;simp[den,qo,hi _ hq,ho _ hq c l h1,he];simp[bp]at hj;subst hj;exact .inl ⟨k,hq⟩;cases h;cases h
 |.od k,d,m,m',h,hn,hc,hr=>by
  simp[pZ]at h;split at h;rename_i k' aa len;rw[ah]at h;obtain⟨o,h1,h⟩:=h;split at h;rename_i c l;cases h;have hq:(k',k)∈NM:=hn _ (by simp);have he:aa+len=l.length:=by have:=hc (be (aa+len) l.length) (by simp);simpa[be]using this
  refine⟨[⟨.int .i64,(aa:Int)⟩],rfl,.own k aa (dp k-aa),λae=>?_,⟨[.mut k],[],by simp,λae=>?_⟩,λj hj=>?_⟩;have:YZ (X:=X) ⟨.int .i64,(aa:Int)⟩=aa:=by simp[YZ];rw[UW];simp
  simp[eP,this];simp[den,qo,hi _ hq,ho _ hq c l h1,show l.length-aa=len by omega];simp[bp,bq]at hj;subst hj;exact .inl ⟨k,hq⟩;cases h;cases h
 |.p k,d,m,m',h,hn,hc,hr=>by simp[pZ]at h;split at h;rename_i k';cases h;have hq:(k',k)∈NM:=hn _ (by simp);refine⟨[],by simp,.ptr k 0 0,λae=>rfl,⟨[.mut k],[],by simp,λae=>?_⟩,λj hj=>?_⟩;simp[den,cons_append,fP,qo,hi _ hq,if_true];simp[bp,bq]at hj;subst hj;exact .inl ⟨k,hq⟩;cases h
 |.nil,d,m,m',h,hn,hc,hr=>by simp[pZ]at h;split at h;cases h;refine⟨[],by simp,.nil,λae=>rfl,⟨[.nil],[],by simp,λae=>?_⟩,by simp[bp]⟩;exact xO (by simp[den,cons_append,fP,oW]) (by simp[den,refs]);cases h
 |.f F fs cs,d,m,m',h,hn,hc,hr=>by
  simp[pZ]at h;split at h;rename_i F' first caps
  split at h;rename_i e;subst e;rw[ah]at h;obtain⟨m1,h1,h⟩:=h;have hm:=(vN cs _ m1 m' h).1;obtain⟨n1,a1,f',b1,⟨hs1,o1,p1,q1⟩,r1⟩:=xP hi hv hrd ho fs _ m m1 h1 (λ q hq=>hn q (hm.1 q hq)) (λ q hq=>hc q (hm.2.1 q hq)) (λ q hq=>hr q (hm.2.2 q hq));obtain⟨n2,a2,c',b2,⟨hs2,o2,p2,q2⟩,r2⟩:=xP hi hv hrd ho cs _ m1 m' h hn hc hr;refine⟨n1++n2,by rw[a2,a1,aT],.fn F f' c',λae=>by simp[eP,aT,b1,b2],⟨.fnw::(hs1++hs2),o1++o2,iB p1 p2,λae=>?_⟩,λj hj=>?_⟩;simp[den,cons_append,aT,qo,q1,ai,q2];simp[bp,bK]at hj;exact hj.elim (r1 j) (r2 j);cases h;cases h
 |.mp k,d,m,m',h,hn,hc,hr=>by simp[pZ]at h;split at h;rename_i k';cases h;have hq:(k',k)∈NM:=hn _ (by simp);refine⟨[],by simp,.mp k,λae=>rfl,⟨[.mut k],[],by simp,λae=>?_⟩,λj hj=>?_⟩;simp[den,cons_append,fP,qo,hi _ hq,if_true];simp[bp,bq]at hj;subst hj;exact .inl ⟨k,hq⟩;cases h
 |.oz _,_,_,_,h,_,_,_=>by simp[pZ]at h
 |.a ps,d,m,m',h,hn,hc,hr=>by simp[pZ]at h;split at h;rename_i ds;have⟨n1,a1,f',b1,⟨hs1,o1,p1,q1⟩,r1⟩:=xP hi hv hrd ho ps ds m m' h hn hc hr;refine⟨n1,a1,.agg f',λae=>by simp[eP,b1],⟨.agw::hs1,o1,p1,λae=>?_⟩,λj hj=>r1 j (by simpa[bp]using hj)⟩;simp[den,cons_append,qo,q1,ai];cases h
theorem xP(hi:∀q∈NM,ab[q.2]? =some q.1)(hv:∀k∈p0,k∉ab)(hrd:∀k,(∃ q,(k,q)∈NM)\/k∈p0->k∈rd)(ho:∀q∈NM,∀c l,get q.1=some (.ec c l)->dp q.2=l.length):
 ∀(ps:List (Pt X.ι))(ds:List (DV X))(m m':MG X),so get ps ds m=some m'->(∀ q∈m'.nm,q∈NM)->(∀ c∈m'.iS,c=true)->(∀ k∈m'.vr,k∈p0)->
 ∃al,m'.ev=m.ev++al/\∃ds',(∀ ae,k8 dp ps (al++ae)=(ds',ae))/\(∃ hs obs,(∀ p∈obs,p)/\∀ae,mq P (dK rd (fV get)) ab (bF ds) (hs++ae)=some (bF ds',ae,obs))/\∀j∈aL ds,(∃ q,(j,q)∈NM)\/j∈p0
 |[],[],m,m',h,_,_,_=>by simp[so,bM]at h;subst h;exact⟨[],by simp,[],λae=>rfl,⟨[],[],by simp,λae=>rfl⟩,by simp[aL]⟩
 |p::ps,d::ds,m,m',h,hn,hc,hr=>by simp[so]at h;have⟨m1,h1,h⟩:=ah.1 h;have hm:=(vN ps ds m1 m' h).1;obtain⟨n1,a1,d',b1,⟨hs1,o1,p1,q1⟩,r1⟩:=aik hi hv hrd ho p d m m1 h1 (λ q hq=>hn q (hm.1 q hq)) (λ q hq=>hc q (hm.2.1 q hq)) (λ q hq=>hr q (hm.2.2 q hq));have⟨n2,a2,ds',b2,⟨hs2,o2,p2,q2⟩,r2⟩:=xP hi hv hrd ho ps ds m1 m' h hn hc hr;refine⟨n1++n2,by rw[a2,a1,aT],d'::ds',λae=>by simp[k8,aT,b1,b2],⟨hs1++hs2,o1++o2,iB p1 p2,λae=>?_⟩,λj hj=>?_⟩;simp[bF,aT,mq,q1,ai,q2];simp[aL,bK]at hj;exact hj.elim (r1 j) (r2 j)
 |[],_::_,m,m',h,_,_,_=>by simp[so]at h
 |_::_,[],m,m',h,_,_,_=>by simp[so]at h
end
theorem yu:∀(rs:List (List (Pt X.ι)))(qs:List (List (DV X)))(m m':MG X),LZ get rs qs m=some m'->fL m m'/\∃al,m'.ev=m.ev++al/\al.length=(vJ rs).length
 |[],[],m,m',h=>by simp[LZ]at h;subst h;exact⟨fL.refl _,[],by simp,rfl⟩
 |r::rs,q::qs,m,m',h=>by simp[LZ]at h;have⟨m1,h1,h⟩:=ah.1 h;have⟨a1,n1,b1,c1⟩:=vN r q m m1 h1;have⟨a2,n2,b2,c2⟩:=yu rs qs m1 m' h;exact⟨a1.trans a2,n1++n2,by grind,by simp[vJ,c1,c2]⟩
 |[],_::_,m,m',h|_::_,[],m,m',h=>by trivial
theorem QS(hi:∀q∈NM,ab[q.2]? =some q.1)(hv:∀k∈p0,k∉ab)(hrd:∀k,(∃ q,(k,q)∈NM)\/k∈p0->k∈rd)(ho:∀q∈NM,∀c l,get q.1=some (.ec c l)->dp q.2=l.length):
 ∀(rs:List (List (Pt X.ι)))(qs:List (List (DV X)))(m m':MG X),LZ get rs qs m=some m'->(∀ q∈m'.nm,q∈NM)->(∀ c∈m'.iS,c=true)->(∀ k∈m'.vr,k∈p0)->
 ∃al,m'.ev=m.ev++al/\∃GE,(∀ ae,vL dp rs (al++ae)=(GE,ae))/\(∃ hs obs,(∀ p∈obs,p)/\Dp P (dK rd (fV get)) ab (qs.map bF) hs=some (GE.map bF,obs))/\∀j∈(qs.map aL).flatten,(∃ q,(j,q)∈NM)\/j∈p0
 |[],[],m,m',h,_,_,_=>by simp[LZ]at h;subst h;exact⟨[],by simp,[],λae=>rfl,⟨[],[],by simp,rfl⟩,by simp⟩
 |r::rs,q::qs,m,m',h,hn,hc,hr=>by
  simp[LZ]at h;have⟨m1,h1,h⟩:=ah.1 h;have hm:=(yu rs qs m1 m' h).1;obtain⟨n1,a1,d',b1,⟨hs1,o1,p1,q1⟩,r1⟩:=xP (P:=P) hi hv hrd ho r q m m1 h1 (λ q hq=>hn q (hm.1 q hq)) (λ q hq=>hc q (hm.2.1 q hq)) (λ q hq=>hr q (hm.2.2 q hq));have⟨n2,a2,ds',b2,⟨hs2,o2,p2,q2⟩,r2⟩:=QS hi hv hrd ho rs qs m1 m' h hn hc hr;refine⟨n1++n2,by rw[a2,a1,aT],d'::ds',λae=>by simp[vL,b1,b2],⟨hs1::hs2,o1++o2,iB p1 p2,?_⟩,λj hj=>?_⟩;have:=q1 [];rw[append_nil]at this;simp[Dp,this,q2]
  grind
 |[],_::_,m,m',h,_,_,_|_::_,[],m,m',h,_,_,_=>by simp[LZ]at h
theorem mD:∀(os:List (Nat×OP X.ι))(m m':MG X),BX get os m=some m'->fL m m'/\∃al,m'.ev=m.ev++al/\al.length=(da os).length
 |[],m,m',h=>by simp[BX]at h;subst h;exact⟨fL.refl _,[],by simp,rfl⟩
 |(k,op)::r,m,m',h=>by simp[BX]at h;rw[ah]at h;obtain⟨o,h1,h⟩:=h;split at h;rename_i c c' l;rw[ah]at h;obtain⟨l',h2,h⟩:=h;obtain⟨a2,n2,b2,c2⟩:=mD r _ m' h;refine⟨fL.trans (b:=⟨m.nm++[(qu m k,k)],m.ev++[⟨.sl c,l'⟩],m.iS,m.vr⟩) ⟨λ _ h=>by simp[h],λ_ h=>h,λ_ h=>h⟩ a2,[⟨.sl c,l'⟩]++n2,?_,by simp[da,c2]⟩;rw[b2,aT];rename_i kc vc uc tW l;split at h;rw[ah]at h;obtain⟨l',h2,h⟩:=h;obtain⟨a2,n2,b2,c2⟩:=mD r _ m' h;refine⟨fL.trans (b:=⟨m.nm++[(qu m k,k)],m.ev++[⟨.mp kc vc,l'⟩],m.iS,m.vr⟩) ⟨λ _ h=>by simp[h],λ_ h=>h,λ_ h=>h⟩ a2,[⟨.mp kc vc,l'⟩]++n2,?_,by simp[da,c2]⟩;rw[b2,aT];cases h;rename_i sz rows sz' rows';split at h;rw[ah]at h;obtain⟨m1,h2,h⟩:=h;obtain⟨a1,n1,b1,c1⟩:=yu rows _ _ m1 h2;have⟨a2,n2,b2,c2⟩:=mD r m1 m' h;refine⟨fL.trans (fL.trans (b:=⟨m.nm++[(qu m k,k)],m.ev,m.iS,m.vr⟩) ⟨λ _ h=>by simp[h],λ_ h=>h,λ_ h=>h⟩ a1) a2,n1++n2,?_,by simp[da,c1,c2]⟩;rw[b2,b1,aT];cases h;cases h
theorem DJ:∀(os:List (Nat×OP X.ι))(m m':MG X),BX get os m=some m'->(∀ q∈m'.nm,q∈NM)->∃al,m'.ev=m.ev++al/\∀ae,∀k∈os.map (·.1),∃k' o,(k',k)∈NM/\get k'=some o/\∀c l,o=.ec c l->(k,List.length l)∈lens os (al++ae)
 |[],m,m',h,_=>by
  simp_all [BX]
 |(k,op)::r,m,m',h,hn=>by
  simp[BX]at h;rw[ah]at h;obtain⟨o,h1,h⟩:=h;split at h;rename_i c c' l;rw[ah]at h;obtain⟨l',h2,h⟩:=h;have hm:=(mD r _ m' h).1;obtain⟨n2,b2,c2⟩:=DJ r _ m' h hn;refine⟨[⟨.sl c,l'⟩]++n2,by grind,λae j hj=>?_⟩;simp only[bJ,aR]at hj;by_cases hjk:j=k;subst hjk;refine⟨_,_,hn _ (hm.1 _ (by simp)),h1,λc2 l2 he=>?_⟩;injection he with e1 e2;subst e1;subst e2;have:=congrArg List.length (jA h2).2;simp at this;rw[this];exact List.mem_cons_self;rcases hj with rfl|hj;exact(hjk rfl).elim;have⟨k',o',g1,g2,g3⟩:=c2 ae j hj;exact⟨k',o',g1,g2,λc l he=>dZ _ (g3 c l he)⟩;rename_i kc vc uc tW l;split at h;rw[ah]at h;obtain⟨l',h2,h⟩:=h;have hm:=(mD r _ m' h).1;obtain⟨n2,b2,c2⟩:=DJ r _ m' h hn;refine⟨[⟨.mp kc vc,l'⟩]++n2,by rw[b2,aT],λae j hj=>?_⟩;simp only[bJ,aR]at hj;by_cases hjk:j=k;subst hjk;exact⟨_,_,hn _ (hm.1 _ (by simp)),h1,λc2 l2 he=>by cases he⟩;rcases hj with rfl|hj;exact(hjk rfl).elim;exact c2 ae j hj;cases h;rename_i sz rows sz' rows';split at h;have⟨m1,h2,h⟩:=ah.1 h;obtain⟨a1,n1,b1,c1⟩:=yu rows _ _ m1 h2;have hm:=(mD r _ m' h).1;obtain⟨n2,b2,c2⟩:=DJ r _ m' h hn;refine⟨n1++n2,by rw[b2,b1,aT],λae j hj=>?_⟩;simp only[bJ,aR]at hj;have hd:(n1++n2++ae).drop (vJ rows).length=n2++ae:=by rw[<- c1,aT,List.drop_left]
  simp only[lens,hd];by_cases hjk:j=k;subst hjk;exact⟨_,_,hn _ (hm.1 _ (a1.1 _ (by simp))),h1,λc2 l2 he=>by cases he⟩;rcases hj with rfl|hj;exact(hjk rfl).elim;exact c2 ae j hj;cases h;cases h
theorem KE:∀(os:List (Nat×OP X.ι))(L:List (DC X)),((lens os L).map (·.1)).Sublist (os.map (·.1))
 |[],_=>by simp[lens]
 |(k,.l c)::r,L=>by
  simp[lens];split;exact(KE r _).cons_cons _
  grind
 |(k,.m kc vc)::r,L|(k,.c sz rows)::r,L=>(KE r _).cons _
def ail(get':Nat->Option aM)(NM:List (Nat×Nat))(p0:List Nat)(bs:List OB)(ks:List Nat):Prop:=
 ∀(j:Nat) hs q o,bs[j]? =some (.GW hs)->ks[j]? =some q->get' q=some o->∀k∈Oy o,(∃ z,(k,z)∈NM)\/k∈p0
theorem L8{sz:Nat}{rows:List (List (DV X))}{k:Nat}(h:k∈Oy (bH (.cells sz rows))):k∈(rows.map aL).flatten:=by
 grind [Oy,bH,jc]
theorem aaG:∀ts:List Tree,fe (ts.map AV.t)=[]
 |[]=>rfl
 |t::ts=>by simp[fe,refs,aaG ts]
theorem ahb{P:Program}{get:Nat->Option aM}:∀(ts:List Tree)(hs:List LH),mO P get (ts.map AV.t) hs=some (ts.map AV.t,hs,[])
 |[],hs=>rfl
 |t::ts,hs=>by simp[mO,oW,ahb ts hs]
theorem aim{P:Program}{get:Nat->Option aM}{ab:List Nat}(v:TV):qo P get ab v.av []=some (v.av,[],[]):=by rcases v with x|cs;rfl;have h:refs (.agg (cs.map AV.t))=[]:=aaG cs;simp[TV.av,qo,h,oW,ahb]
theorem Y6{P:Program}{get:Nat->Option aM}{ab:List Nat}:∀rows:List (TV×TV),Dp P get ab (rows.map λq=>[q.1.av,q.2.av]) (rows.map λ_=>[])=some (rows.map λq=>[q.1.av,q.2.av],[])
 |[]=>rfl
 |q::rows=>by simp[Dp,mq,aim,Y6 rows]
theorem zQ(hi:∀q∈NM,ab[q.2]? =some q.1)(hv:∀k∈p0,k∉ab)(hrd:∀k,(∃ q,(k,q)∈NM)\/k∈p0->k∈rd)(ho:∀q∈NM,∀c l,get q.1=some (.ec c l)->dp q.2=l.length):
 ∀(os:List (Nat×OP X.ι))(m m':MG X),BX get os m=some m'->(∀ q∈m'.nm,q∈NM)->(∀ c∈m'.iS,c=true)->(∀ k∈m'.vr,k∈p0)->
 ∃al,m'.ev=m.ev++al/\∃xs:List (Nat×br X),(∀ ae,bX dp os (al++ae)=xs.map λp=>(p.1,some p.2))/\
  ∃bs mo,(∀ p∈mo,p)/\J9 P (dK rd (fV get)) ab (os.map λp=>(ab[p.1]?).getD 0) bs=some (xs.map λp=>bH p.2,mo)/\ail (dK rd (fV get)) NM p0 bs (os.map λp=>(ab[p.1]?).getD 0)
 |[],m,m',h,_,_,_=>by simp[BX]at h;subst h;exact⟨[],by simp,[],λae=>rfl,[],[],by simp,rfl,λj hs q o h=>by simp at h⟩
 |(k,op)::r,m,m',h,hn,hc,hr=>by
  simp[BX]at h;rw[ah]at h;obtain⟨o,h1,h⟩:=h;split at h;rename_i c c' l;have⟨l',h2,h⟩:=ah.1 h;have hm:=(mD r _ m' h).1;have hq:(qu m k,k)∈NM:=hn _ (hm.1 _ (by simp));have hid:(ab[k]?).getD 0=qu m k:=by grind
  have hget:=fE (hrd (qu m k) (.inl ⟨k,hq⟩)) h1;have⟨h3,h4⟩:=jA h2;obtain⟨n2,a2,xs,b2,bs,mo,p2,q2,r2⟩:=zQ hi hv hrd ho r _ m' h hn hc hr;refine⟨[⟨.sl c,l'⟩]++n2,by rw[a2,aT],(k,.ec c l')::xs,λae=>by simp[bX,b2],.dat (CT.sz X c,l'.map (CT.row X.toSE c))::bs,((bH (.ec c' l)).sz=CT.sz X c/\dW ((bH (.ec c' l)).rows.take (l'.map (CT.row X.toSE c)).length)=aI (l'.map (CT.row X.toSE c)))::mo,?_,?_,?_⟩;intro p hp;rcases aR.1 hp with rfl|hp;refine⟨h3,?_⟩;simp[bH,h4];rw[take_of_length_le (by simp[aI])];simp[dW,aI,wk];exact p2 p hp;simp[bJ,J9,Uo,hid,hget,ai,q2,cons_append,fP];rfl;intro j hs q o' hj hq' ho';cases j with
  |zero=>simp at hj
  |succ j=>exact r2 j hs q o' (by simpa using hj) (by simpa using hq') ho'
  rename_i kc vc uc tW l;split at h;rename_i hone;have⟨l',h2,h⟩:=ah.1 h;have hm:=(mD r _ m' h).1;have hq:(qu m k,k)∈NM:=hn _ (hm.1 _ (by simp));have hid:(ab[k]?).getD 0=qu m k:=by rw[hi _ hq];rfl
  have hget:=fE (hrd (qu m k) (.inl ⟨k,hq⟩)) h1;have hden:bH (.map uc tW l)=bH (.map kc vc l'):=by have⟨e,h2⟩:=rH h2;injection e with e1 e2;subst e1;subst e2;subst h2;rfl
  obtain⟨n2,a2,xs,b2,bs,mo,p2,q2,r2⟩:=zQ hi hv hrd ho r _ m' h hn hc hr;rcases hone with hone|_;have hab:bH (.map kc vc l')=gz (List.length l',l'.map λq=>CT.row X.toSE kc q.1++CT.row X.toSE vc q.2):=by simp only[bH,gz,aI,map_map];congr 1;refine map_congr_left λq _=>?_;obtain⟨t1,g1,g2⟩:=row_one hone.1 q.1;obtain⟨t2,g3,g4⟩:=row_one hone.2 q.2;simp[g1,g2,g3,g4,TV.av]
  refine⟨[⟨.mp kc vc,l'⟩]++n2,by rw[a2,aT],(k,.map kc vc l')::xs,λae=>by simp[cons_append,fP,bX,b2,bJ],.dat (List.length l',l'.map λq=>CT.row X.toSE kc q.1++CT.row X.toSE vc q.2)::bs,((bH (.map uc tW l)).sz=List.length l'/\dW ((bH (.map uc tW l)).rows.take (l'.map λq=>CT.row X.toSE kc q.1++CT.row X.toSE vc q.2).length)=aI (l'.map λq=>CT.row X.toSE kc q.1++CT.row X.toSE vc q.2))::mo,?_,?_,?_⟩;intro p hp;rcases aR.1 hp with rfl|hp;rw[hden,hab];refine⟨rfl,?_⟩;simp[gz];rw[take_of_length_le (by simp[aI])];simp[dW,aI,Function.comp_def,wk];exact p2 p hp;simp[bJ,J9,Uo,hid,hget,ai,q2,cons_append,fP,hab];intro j hs q o' hj hq' ho';cases j with
  |zero=>simp at hj
  |succ j=>exact r2 j hs q o' (by simpa using hj) (by simpa using hq') ho'
  refine⟨[⟨.mp kc vc,l'⟩]++n2,by rw[a2,aT],(k,.map kc vc l')::xs,λae=>by simp[cons_append,fP,bX,b2,bJ],.GW ((l'.map λq=>(CT.tv X.toSE kc q.1,CT.tv X.toSE vc q.2)).map λ_=>[])::bs,mo,p2,?_,?_⟩;have hlr:=Y6 (P:=P) (get:=dK rd (fV get)) (ab:=ab) (l'.map λq=>(CT.tv X.toSE kc q.1,CT.tv X.toSE vc q.2));have hdr:(bH (.map kc vc l')).rows=(l'.map λq=>(CT.tv X.toSE kc q.1,CT.tv X.toSE vc q.2)).map λq=>[q.1.av,q.2.av]:=by simp only[bH,map_map];rfl
  simp only[bJ,J9,Uo,hid,hget,ai,q2,hden,hdr,hlr,fP];rw[<- hdr];intro j hs q o' hj hq' ho';cases j with
  |zero=>
   simp[bJ,List.getElem?_cons_zero,bM]at hq';subst hq';rw[hid,hget]at ho';injection ho' with ho';subst ho';intro k hk;rw[hden]at hk;simp only[Oy,bH,mem_flatMap,mem_map]at hk;obtain⟨_,⟨q,_,rfl⟩,hk⟩:=hk;simp[fe,zN,append_nil,nE]at hk
  |succ j=>exact r2 j hs q o' (by simpa using hj) (by simpa using hq') ho'
  cases h;rename_i sz rows sz' rows';split at h;rename_i hsz;have⟨m1,h2,h⟩:=ah.1 h;have hm1:=(yu rows _ _ m1 h2).1;have hm:=(mD r _ m' h).1;have hq:(qu m k,k)∈NM:=hn _ (hm.1 _ (hm1.1 _ (by simp)));have hid:(ab[k]?).getD 0=qu m k:=by rw[hi _ hq];rfl
  have hget:=fE (hrd (qu m k) (.inl ⟨k,hq⟩)) h1;obtain⟨n1,a1,qs,b1,⟨hs1,o1,p1,q1⟩,r1⟩:=QS (P:=P) hi hv hrd ho rows _ _ m1 h2 (λ q hq=>hn q (hm.1 q hq)) (λ q hq=>hc q (hm.2.1 q hq)) (λ q hq=>hr q (hm.2.2 q hq));obtain⟨n2,a2,xs,b2,bs,mo,p2,q2,r2⟩:=zQ hi hv hrd ho r _ m' h hn hc hr;subst hsz;refine⟨n1++n2,by rw[a2,a1,aT],(k,.cells sz qs)::xs,λae=>by simp[aT,bX,b1,b2,bJ],.GW hs1::bs,o1++mo,iB p1 p2,?_,?_⟩;simp[bJ,J9,Uo,hid,hget,ai,bH,q1,q2];intro j hs q o' hj hq' ho';cases j with
  |zero=>
   simp[bJ,List.getElem?_cons_zero,bM]at hq';rw[<- hq',hid,hget]at ho';injection ho' with ho';subst ho';exact λz hz=>r1 z (L8 hz)
  |succ j=>exact r2 j hs q o' (by simpa using hj) (by simpa using hq') ho'
  cases h;cases h
end
end
end Go.Gb
namespace Go.Gb
open Go.RowKit
section
variable {X:SX} {A:Type}
theorem afp:∀(l:List (CT X.ι))(v:VT (X:=X) l),(vK l v).map (·.c)=l
 |[],_|[_],_=>rfl
 |c::c'::l,v=>by simp[vK,afp (c'::l) v.2]
theorem OU:∀{l:List Tree},(∀ t∈l,t.flat)->pX (l.map AV.t)
 |[],_=>trivial
 |t::l,h=>⟨h t (by simp),OU (λ u hu=>h u (by grind))⟩
theorem aaH{c:CT X.ι}(h:wQ c=true)(x:CT.T X.toSE c):Dr (CT.tv X.toSE c x).av:=by
 have hf:=uR h x;cases c
 case st i=>exact OU hf
 all_goals trivial
section
variable {ol:Nat->Nat}
mutual
theorem alH:∀(p:Pt X.ι)(L:List (DC X))(cs:List (CT X.ι)),L.map (·.c)=p.vars++cs->p.vars.all wQ=true->Dr (den (eP ol p L).1)/\(eP ol p L).2.map (·.c)=cs
 |.v c,L,cs,h,hs=>by
  match L,h with
  |d::r,h=>
   simp[Pt.vars]at h;simp[Pt.vars]at hs;exact⟨aaH (h.1 ▸ hs) d.x,h.2⟩
  |[],h=>trivial
 |.o k,L,cs,h,_|.p k,L,cs,h,_|.mp k,L,cs,h,_|.oz k,L,cs,h,_|.nil,L,cs,h,_=>⟨trivial,by trivial⟩
 |.od k,L,cs,h,_=>by
  match L,h with
  |d::r,h=>
   simp[Pt.vars]at h;exact⟨trivial,h.2⟩
  |[],h=>simp[Pt.vars]at h
 |.f F fs ps,L,cs,h,hs=>by simp only[Pt.vars,List.all_append,bg]at hs;simp[Pt.vars]at h;obtain⟨a1,a2⟩:=BZ fs L _ h hs.1;obtain⟨b1,b2⟩:=BZ ps _ _ a2 hs.2;exact⟨⟨a1,b1⟩,b2⟩
 |.a ps,L,cs,h,hs=>by simp only[Pt.vars]at h hs;exact BZ ps L cs h hs
theorem BZ:∀(ps:List (Pt X.ι))(L:List (DC X))(cs:List (CT X.ι)),L.map (·.c)=cJ ps++cs->(cJ ps).all wQ=true->pX (bF (k8 ol ps L).1)/\(k8 ol ps L).2.map (·.c)=cs
 |[],L,cs,h,_=>⟨trivial,by simpa[cJ,k8]using h⟩
 |p::ps,L,cs,h,hs=>by simp only[cJ,List.all_append,bg]at hs;simp[cJ]at h;obtain⟨a1,a2⟩:=alH p L _ h hs.1;obtain⟨b1,b2⟩:=BZ ps _ _ a2 hs.2;exact⟨⟨a1,b1⟩,b2⟩
end
mutual
theorem alI:∀(p:Pt X.ι)(L:List (DC X)),∀j∈bp (eP ol p L).1,j∈p.refs
 |.v c,L,j,h=>by cases L<;>simp[eP,bp]at h
 |.o k,L,j,h|.p k,L,j,h|.mp k,L,j,h|.oz k,L,j,h=>by simpa[eP,bp,Pt.refs]using h
 |.nil,L,j,h=>by simp[eP,bp]at h
 |.od k,L,j,h=>by cases L<;>simp[eP,bp]at h<;>simp[Pt.refs,h]
 |.f F fs ps,L,j,h=>by simp[eP,bp]at h;simp[Pt.refs];exact h.imp (vO fs _ j) (vO ps _ j)
 |.a ps,L,j,h=>by simp[eP]at h;simp[Pt.refs];exact vO ps _ j h
theorem vO:∀(ps:List (Pt X.ι))(L:List (DC X)),∀j∈aL (k8 ol ps L).1,j∈wD ps
 |[],L,j,h=>by simp[k8,aL]at h
 |p::ps,L,j,h=>by simp[k8,aL]at h;simp[wD];exact h.imp (alI p _ j) (vO ps _ j)
end
theorem KF:∀(rs:List (List (Pt X.ι)))(L:List (DC X))(cs:List (CT X.ι)),L.map (·.c)=vJ rs++cs->(vL ol rs L).2.map (·.c)=cs/\((vJ rs).all wQ=true->∀r∈(vL ol rs L).1,pX (bF r))
 |[],L,cs,h=>⟨by simpa[vJ,vL]using h,by simp[vL]⟩
 |r::rs,L,cs,h=>by simp[vJ]at h;have step:(k8 ol r L).2.map (·.c)=vJ rs++cs:=uk r L _ h;obtain⟨b1,b2⟩:=KF rs _ _ step;refine⟨b1,λhs q hq=>?_⟩;simp only[vJ,List.all_append,bg]at hs;simp[vL]at hq;rcases hq with rfl|hq;exact(BZ r L _ h hs.1).1;exact b2 hs.2 q hq
where
 uk (ps:List (Pt X.ι)) (L:List (DC X)) (cs:List (CT X.ι)) (h:L.map (·.c)=cJ ps++cs):(k8 ol ps L).2.map (·.c)=cs:=pp ps L cs h
 EE:∀(p:Pt X.ι)(L:List (DC X))(cs:List (CT X.ι)),L.map (·.c)=p.vars++cs->(eP ol p L).2.map (·.c)=cs
  |.v c,L,cs,h=>by
   match L,h with
   |d::r,h=>simp[Pt.vars]at h;exact h.2
   |[],h=>simp[Pt.vars]at h
  |.o k,L,cs,h|.p k,L,cs,h|.mp k,L,cs,h|.oz k,L,cs,h|.nil,L,cs,h=>by simpa[Pt.vars,eP]using h
  |.od k,L,cs,h=>by
   match L,h with
   |d::r,h=>simp[Pt.vars]at h;exact h.2
   |[],h=>simp[Pt.vars]at h
  |.f F fs ps,L,cs,h=>by simp[Pt.vars]at h;exact pp ps _ _ (pp fs L _ h)
  |.a ps,L,cs,h=>by simp[Pt.vars]at h;exact pp ps L cs h
 pp:∀(ps:List (Pt X.ι))(L:List (DC X))(cs:List (CT X.ι)),L.map (·.c)=cJ ps++cs->(k8 ol ps L).2.map (·.c)=cs
  |[],L,cs,h=>by simpa[cJ,k8]using h
  |p::ps,L,cs,h=>by simp[cJ]at h;exact pp ps _ _ (EE p L _ h)
theorem U4:∀(rs:List (List (Pt X.ι)))(L:List (DC X)),∀j∈((vL ol rs L).1.map aL).flatten,j∈rs.flatMap wD
 |[],L,j,h=>by simp[vL]at h
 |r::rs,L,j,h=>by simp only[vL,bJ,List.flatten_cons,bK]at h;simp only[List.flatMap_cons,bK];exact h.imp (vO r _ j) (U4 rs _ j)
theorem yw:∀(O:List (Nat×OP X.ι))(L:List (DC X)),((dF (bX ol O L)).map (·.1)).Sublist (O.map (·.1))/\(∀ p∈dF (bX ol O L),∃op,(p.1,op)∈O/\∀j∈d7 p.2,j∈op.refs)/\
 (L.map (·.c)=da O->(O.all λq=>match q.2 with|.l c=>wQ c|.m _ _=>false|.c _ rows=>(vJ rows).all wQ)=true->∀p∈dF (bX ol O L),∀r∈(bH p.2).rows,pX r)
 |[],L=>⟨by simp[bX,dF],by simp[bX,dF],by simp[bX,dF]⟩
 |(k,.l c)::O,L=>by
  match L with
  |[]=>exact⟨by simp[bX,dF],by simp[bX,dF],by simp[bX,dF]⟩
  |⟨.sl c',x⟩::L=>
   have⟨h1,h2,h3⟩:=yw O L;refine⟨?_,?_,?_⟩;simp only[bX,dF,bJ];exact h1.cons_cons _;intro p hp;simp[bX,dF]at hp;rcases hp with rfl|hp;exact⟨.l c,by simp,by simp[d7]⟩;have⟨op,g1,g2⟩:=h2 p hp;exact⟨op,dZ _ g1,g2⟩;intro hL hs p hp r hr;simp only[bJ,da,List.cons.injEq]at hL;simp only[all_cons,bg]at hs;simp[bX,dF]at hp;rcases hp with rfl|hp;obtain⟨e,_⟩:=hL;injection e with e;simp only[bH,aI,mem_map]at hr;obtain⟨q,⟨y,hy,rfl⟩,rfl⟩:=hr;exact OU (uR (e ▸ hs.1) y);exact h3 hL.2 hs.2 p hp r hr
  |⟨.int _,x⟩::L=>exact⟨by simp[bX,dF],by simp[bX,dF],by simp[bX,dF]⟩
  |⟨.bool,x⟩::L=>exact⟨by simp[bX,dF],by simp[bX,dF],by simp[bX,dF]⟩
  |⟨.str,x⟩::L=>exact⟨by simp[bX,dF],by simp[bX,dF],by simp[bX,dF]⟩
  |⟨.any,x⟩::L=>exact⟨by simp[bX,dF],by simp[bX,dF],by simp[bX,dF]⟩
  |⟨.mp _ _,x⟩::L=>exact⟨by simp[bX,dF],by simp[bX,dF],by simp[bX,dF]⟩
  |⟨.st _,x⟩::L=>exact⟨by simp[bX,dF],by simp[bX,dF],by simp[bX,dF]⟩
 |(k,.m kc vc)::O,L=>by
  match L with
  |[]=>exact⟨by simp[bX,dF],by simp[bX,dF],by simp[bX,dF]⟩
  |⟨.mp uc tW,x⟩::L=>
   have⟨h1,h2,h3⟩:=yw O L;refine⟨?_,?_,?_⟩;simp only[bX,dF,bJ];exact h1.cons_cons _;intro p hp;simp[bX,dF,aR]at hp;rcases hp with rfl|hp;exact⟨.m kc vc,by simp,by simp[d7]⟩;have⟨op,g1,g2⟩:=h2 p hp;exact⟨op,dZ _ g1,g2⟩;intro hL hs;simp at hs
  |⟨.sl _,x⟩::L=>exact⟨by simp[bX,dF],by simp[bX,dF],by simp[bX,dF]⟩
  |⟨.int _,x⟩::L=>exact⟨by simp[bX,dF],by simp[bX,dF],by simp[bX,dF]⟩
  |⟨.bool,x⟩::L=>exact⟨by simp[bX,dF],by simp[bX,dF],by simp[bX,dF]⟩
  |⟨.str,x⟩::L=>exact⟨by simp[bX,dF],by simp[bX,dF],by simp[bX,dF]⟩
  |⟨.any,x⟩::L=>exact⟨by simp[bX,dF],by simp[bX,dF],by simp[bX,dF]⟩
  |⟨.st _,x⟩::L=>exact⟨by simp[bX,dF],by simp[bX,dF],by simp[bX,dF]⟩
 |(k,.c sz rows)::O,L=>by have⟨h1,h2,h3⟩:=yw O (vL ol rows L).2;refine⟨?_,?_,?_⟩;simp only[bX,dF,bJ];exact h1.cons_cons _;intro p hp;simp[bX,dF,aR]at hp;rcases hp with rfl|hp;exact⟨.c sz rows,by simp,λj hj=>U4 rows L j hj⟩;have⟨op,g1,g2⟩:=h2 p hp;exact⟨op,dZ _ g1,g2⟩;intro hL hs p hp r hr;simp[da]at hL;simp only[all_cons,bg]at hs;obtain⟨e1,e2⟩:=KF (ol:=ol) rows L _ hL;simp[bX,dF,aR]at hp;rcases hp with rfl|hp;simp[bH,mem_map]at hr;obtain⟨q,hq,rfl⟩:=hr;exact e2 hs.1 q hq;exact h3 e1 hs.2 p hp r hr
end
theorem OV(k:Nat):∀os:List (Nat×br X),pD (oM os) k=(tI os k).map bH
 |[]=>rfl
 |(j,o)::r=>by simp[oM,pD,tI];split;rfl;exact OV k r
theorem U5(f:Nat->Nat)(c:CT X.ι)(x:CT.T X.toSE c):jt f (CT.tv X.toSE c x).av=(CT.tv X.toSE c x).av:=(zP f (.c c x)).symm
theorem acL(f:Nat->Nat)(o:br X):bH (pP f o)=Jy f (bH o):=by
 cases o with
 |cells sz rows=>simp only[pP,bH,Jy,map_map];congr 1;exact map_congr_left λr _=>GQ f r
 |ec c l=>simp only[pP,bH,Jy,aI,map_map];congr 1;exact map_congr_left λr _=>(afn f _).symm
 |map kc vc l=>simp only[pP,bH,Jy,map_map];congr 1;exact map_congr_left λr _=>by simp[BN,U5]
theorem ain(i:Nat)(ab:List Nat)(os:List (Nat×br X)):jm (Sa i ab os)=AK i ab (oM os):=by simp[Sa,rU];congr 1;simp only[jm,map_map];refine map_congr_left λp _=>?_;simp[OV];cases tI os p.2<;>simp[acL];simp[jm,oM,List.filter_map];refine map_congr_left λq _=>?_;simp[acL]
theorem U6{ds:List (DV X)}:(∀ j∈refs (den (yh ds)),j∈aL ds)/\(pX (bF ds)->Dr (den (yh ds))):=by
 match ds with
 |[]=>exact⟨λ j hj=>by simp[yh,den,bF,refs,fe]at hj,λ_=>by simp[yh];exact trivial⟩
 |[d]=>exact⟨λ j hj=>by simp[yh,iP]at hj;simpa[aL]using hj,λh=>h.1⟩
 |d::e::r=>exact⟨λ j hj=>by simp[yh,den,refs,jc]at hj;exact hj,λh=>h⟩
theorem Y7:∀xs:List (Nat×br X),dF (xs.map λp=>(p.1,some p.2))=xs
 |[]=>rfl
 |p::xs=>by simp[dF,Y7 xs]
theorem aaI{P:Program}{g:cN X}{F:FuncId}(hg:Hb P F g){i:Nat}{first args caps:List (DV X)}{get:Nat->Option (br X)}{k:KK X A}{r:A}(h:afo g i (first++args++caps) get k=some r):
 ∃co rd wr dv upd out,lK P i (den (.fn F first caps)) (bF args) co (dK rd (fV get))=some out/\kL out.obs/\out.v=den dv/\out.upd=jm upd/\(∀ p∈upd,p.1=cE i\/p.1∈wr)/\k dv upd rd wr=some r:=by
 unfold afo at h;rw[ah]at h;obtain⟨m1,h1,h⟩:=h;rw[ah]at h;obtain⟨m,h2,h⟩:=h;have⟨h3,h⟩:=dR h;rw[ah]at h;obtain⟨v,h4,h⟩:=h;have⟨h5,h⟩:=pY h;rw[ah]at h;obtain⟨rr,h6,h⟩:=h;simp at h3;obtain⟨hok,Cp⟩:=h3;simp only at h;generalize km:(List.range g.io.length).map (qu m)=ab at h Cp;simp only[cN.ok,bg,bE]at hok;obtain⟨⟨⟨⟨n1,n2⟩,n3⟩,n4⟩,n5⟩:=hok;simp only[okG,bg,bE]at Cp;obtain⟨⟨hnd,hnm⟩,B9⟩:=Cp;have hlen:ab.length=g.io.length:=by rw[<- km];simp
 have hi:∀q∈m.nm,ab[q.2]? =some q.1:=by intro q hq;have:=all_eq_true.1 hnm q hq;split at this;rename_i k' e;rw[e,Nat.eq_of_beq_eq_true this];cases this
 have hv:∀k∈m.vr,k∉ab:=λk hk=>by have:=all_eq_true.1 B9 k hk;simpa using this
 have hrd:∀k,(∃ q,(k,q)∈m.nm)\/k∈m.vr->k∈ab++m.vr:=by rintro k (⟨q,hq⟩|hk);exact mem_append_left _ (bZ (hi _ hq));exact mem_append_right _ hk
 have hm2:=(mD _ _ _ h2).1;have vA:=UU h4;obtain⟨_,nA,dA,lA⟩:=vN _ _ _ _ h1;simp at dA;obtain⟨nB,dB,lB⟩:=DJ (NM:=m.nm) _ _ _ h2 (λ q hq=>hq);have hL:m.ev=nA++nB:=by rw[dB,dA]
 have hdrop:(vK _ v).drop (cJ g.ml).length=nB:=by rw[vA,hL,<- lA,List.drop_left]
 have htake:(vK _ v).take (cJ g.ml).length=nA:=by rw[vA,hL,<- lA,List.take_left]
 have ho:∀q∈m.nm,∀c l,get q.1=some (.ec c l)->Dz g.io nB q.2=l.length:=by
  rintro⟨p,q⟩ hq c l hl;have hq2:=hi _ hq;have hqn:q<g.io.length:=by rw[<- hlen];exact(dh.1 hq2).1
  obtain⟨p',o,g1,g2,g3⟩:=lB [] q (by rw[n1];exact List.mem_range.2 hqn);have:p'=p:=by have e1:=hi _ g1;rw[hq2]at e1;injection e1 with e1;exact e1.symm
  subst this;simp at hl;rw[hl]at g2;injection g2 with g2;have h3:=g3 c l g2.symm;rw[append_nil]at h3;have hk:=(KE g.io nB).nodup (by rw[n1];exact List.nodup_range);simp[Dz,uP hk h3]
 obtain⟨US,Mb,ds',eA,⟨hs,obs,pA,qA⟩,rA⟩:=xP (P:=P) (ab:=ab) (rd:=ab++m.vr) (NM:=m.nm) (p0:=m.vr) (dp:=Dz g.io nB) hi hv hrd ho _ _ _ _ h1 (λ q hq=>hm2.1 q hq) (λ c hc=>h5 c (hm2.2.1 c hc)) (λ q hq=>hm2.2.2 q hq);obtain⟨nB',dB',xs,eB,bs,mo,pB,qB,rB⟩:=zQ (P:=P) (ab:=ab) (rd:=ab++m.vr) (NM:=m.nm) (p0:=m.vr) (dp:=Dz g.io nB) hi hv hrd ho _ _ _ h2 (λ q hq=>hq) h5 (λ q hq=>hq);have eqA:US=nA:=by simp at Mb;rw[<- Mb,dA]
 have eqB:nB'=nB:=List.append_cancel_left (dB'.symm.trans dB);subst eqA eqB;have L5:=eA [];have L4:=eB [];rw[append_nil]at L5 L4;have hargs:g.args v=ds':=by simp[cN.args,UX,hdrop,htake,L5]
 have qk:g.cy v=xs:=by simp[cN.cy,Y0,hdrop,L4,Y7]
 have Z1:(g.io.map λp=>(ab[p.1]?).getD 0)=ab:=by
  have:(g.io.map λp=>(ab[p.1]?).getD 0)=(g.io.map (·.1)).map λj=>(ab[j]?).getD 0:=by rw[map_map];rfl
  rw[this,n1];refine List.ext_getElem (by simp[hlen]) λj a b=>?_;simp[dJ b]
 rw[Z1]at qB rB;have qA0:=qA [];rw[append_nil,jo,jo]at qA0;have hcon:=hg v rr h6;rw[hargs,qk]at hcon;obtain⟨s1,s2,s3⟩:=yw (ol:=Dz g.iz ((vK (gO (lv 0 g.ft)++da g.iz) rr).drop (cJ g.ft).length)) g.iz ((vK _ rr).drop (cJ g.ft).length);have BE:∀k,HP g.io.length k=true->FF ab.length k:=by intro k hk;simp[HP]at hk;simp[hlen];exact hk
 have good:YN ab.length (oM (g.outs rr)) (den (g.res rr)):=by
  refine⟨?_,?_,?_,?_⟩;intro q hq;simp only[oM,mem_map]at hq;obtain⟨p,hp,rfl⟩:=hq;have⟨op,g1,_⟩:=s2 p hp;have:=all_eq_true.1 n3 _ g1;simp at this;exact BE _ this.1;have:(oM (g.outs rr)).map (·.1)=(g.outs rr).map (·.1):=by simp[oM]
  rw[this];exact s1.nodup n4;intro q hq r' hr' j hj;simp only[oM,mem_map]at hq;obtain⟨p,hp,rfl⟩:=hq;have⟨op,g1,g2⟩:=s2 p hp;have:=all_eq_true.1 n3 _ g1;simp only[bg]at this;refine BE _ (all_eq_true.1 this.2 j (g2 j ?_));obtain⟨pk,po⟩:=p;cases po with
  |cells sz rows=>exact L8 (mem_flatMap.2 ⟨r',hr',hj⟩)
  |ec c l=>
   simp[bH,aI,mem_map]at hr';obtain⟨z,_,rfl⟩:=hr';rw[aaG]at hj;simp at hj
  |map kc vc l=>
   simp only[bH,mem_map]at hr';obtain⟨z,_,rfl⟩:=hr';simp only[fe,zN,append_nil]at hj;simp at hj
  intro j hj;have:=(U6 (ds:=UX g.ft g.iz (vK _ rr))).1 j hj;exact BE _ (all_eq_true.1 n5 j (vO g.ft _ j this))
 have flat:g.flat=true->nw (oM (g.outs rr)) (den (g.res rr)):=by intro hf;simp only[cN.flat,bg]at hf;have hc:(vK (gO (lv 0 g.ft)++da g.iz) rr).map (·.c)=cJ g.ft++da g.iz:=(afp _ rr).trans (by rw[OM]);refine⟨(U6 (ds:=UX g.ft g.iz (vK _ rr))).2 ?_,?_⟩;refine(BZ (ol:=_) g.ft _ [] ?_ hf.1).1;rw[append_nil,map_take,hc,List.take_left];intro q hq r' hr';simp only[oM,mem_map]at hq;obtain⟨p,hp,rfl⟩:=hq;exact s3 (by rw[map_drop,hc,List.drop_left]) hf.2 p hp r' hr'
 have cM:Uq (dK (ab++m.vr) (fV get)) (bF first++bF args++bF caps) ab m.vr bs:=by refine⟨hv,λj hj hn=>?_,λj hs' q o e1 e2 e3 z hz hn=>?_⟩;rw[<- jo,<- jo,jc]at hj;rcases rA j hj with ⟨q,hq⟩|hj;exact absurd (bZ (hi _ hq)) hn;exact hj;rcases rB j hs' q o e1 e2 e3 z hz with ⟨q',hq⟩|hz;exact absurd (bZ (hi _ hq)) hn;exact hz
 refine⟨.tR ab m.vr bs hs (oM (g.outs rr)) (den (g.res rr)) g.flat,ab++m.vr,_,_,_,
  ⟨jt (cn i ab) (den (g.res rr)),AK i ab (oM (g.outs rr))++(if g.flat then []else m.vr.map λk=>(k,none)),obs++mo++[GB P F (bF ds') (xs.map λp=>bH p.2) (oM (g.outs rr)) (den (g.res rr)),YN ab.length (oM (g.outs rr)) (den (g.res rr)),Uq (dK (ab++m.vr) (fV get)) (bF first++bF args++bF caps) ab m.vr bs]++(if g.flat then [nw (oM (g.outs rr)) (den (g.res rr))]else [])⟩,?_,?_,(zP _ _).symm,?_,?_,h⟩
 simp only[den,lK,LA,qB,qA0,ai];rw[aX ⟨hnd,by omega⟩];refine qW _ (iB (iB (iB pA pB) ?_) ?_);intro z hz;simp only[aR,nE,or_false]at hz;rcases hz with rfl|rfl|rfl;exact hcon;exact good;exact cM;intro z hz;cases hf:g.flat with
 |true=>rw[hf]at hz;simp only[if_true,bq]at hz;subst hz;exact flat hf
 |false=>rw[hf]at hz;simp at hz
 simp[rU,ain];congr 1;cases g.flat with
 |true=>rfl
 |false=>exact(BU m.vr).symm
 intro p hp;refine .inr ?_;rcases bK.1 hp with hp|hp;exact mem_append_left _ (mem_append_right _ (mem_map.2 ⟨p,hp,rfl⟩));cases hf:g.flat with
 |true=>rw[hf]at hp;simp at hp
 |false=>
  rw[hf]at hp;simp[Bool.false_eq_true,if_false,mem_map]at hp;obtain⟨z,hz,rfl⟩:=hp;exact mem_append_right _ hz
end
section
variable {X:SX} {A:Type}
def U7:RT X.ι->Bool
 |.d c=>wQ c
 |.fresh e=>wQ e
 |.whole _=>true
 |.mu c=>wQ c
 |.mr c=>wQ c
 |.mv=>true
theorem acM{c:CT X.ι}(h:wQ c=true)(x:CT.T X.toSE c):(CT.tv X.toSE c x).flat:=by
 cases c
 case st i=>exact uR h x
 all_goals trivial
theorem U8{ns:List Nat}{q:RT X.ι}{x:RT.T X q}(h:U7 q=true):∀c∈UY ns q x,c.flat:=by
 intro c hc;cases q<;>simp[UY]at hc
 case d c=>subst hc;exact acM h x
 case fresh e=>
  subst hc;intro row hr;obtain⟨y,_,rfl⟩:=mem_map.1 hr;exact uR h y
 case whole j=>subst hc;trivial
theorem QT{ns:List Nat}:∀{l:List (RT X.ι)}{x:sJ X l},l.all U7=true->∀c∈DF ns l x,c.flat
 |[],x,_,c,hc=>by trivial
 |[q],x,h,c,hc=>U8 (by grind) c hc
 |q::q'::l,x,h,c,hc=>by simp at h;simp[DF]at hc;rcases hc with hc|hc;exact U8 h.1 c hc;exact QT (by grind) c hc
theorem U9{l:List (RT X.ι)}(x:sJ X l)(h:l.all U7=true):(sQ l x).flat:=by have:=QT (ns:=yn l x) (x:=x) h;unfold sQ;split;rename_i c hc;exact this c (by grind);trivial
theorem Y8{q:RT X.ι}{x:RT.T X q}(h:U7 q=true):Uh (qJ q x):=by
 intro p hp;cases q<;>simp[qJ]at hp
 case mu c=>
  subst hp;intro r hr;obtain⟨y,_,rfl⟩:=mem_map.1 hr;exact uR h y
 case mr c=>
  subst hp;intro r hr;obtain⟨y,_,rfl⟩:=mem_map.1 hr;exact uR h y
theorem Y9:∀{l:List (RT X.ι)}{x:sJ X l},l.all U7=true->Uh (o7 l x)
 |[],x,_=>λp hp=>by trivial
 |[q],x,h=>Y8 (q:=q) (by grind)
 |q::q'::l,x,h=>by simp at h;intro p hp;rcases bK.1 (show some p∈qJ q x.1++o7 (q'::l) x.2 from hp)with hp|hp;exact Y8 h.1 p hp;exact Y9 (l:=q'::l) (by grind) p hp
def GR(i:Nat)(ab ns:List Nat):(q:RT X.ι)->RT.T X q->List (DV X)×List (Nat×Option (br X))
 |.d c,x=>([.c c x],[])
 |.fresh e,l=>([.own (cE i) 0 l.length],[(cE i,some (.ec e l))])
 |.whole j,_=>([match ab[j]? with|some k=>.own k 0 (ns.getD j 0)|none=>.undef],[])
 |_,_=>([],[])
def Kh(i:Nat)(ab ns:List Nat):(l:List (RT X.ι))->sJ X l->Option (List (DV X)×List (Nat×Option (br X)))
 |[],_=>some ([],[])
 |[q],x=>some (GR i ab ns q x)
 |q::q'::l,x=>(Kh i ab ns (q'::l) x.2).bind λp=>if (GR i ab ns q x.1).2.isEmpty || p.2.isEmpty then some ((GR i ab ns q x.1).1++p.1,(GR i ab ns q x.1).2++p.2)else none
def anL:List (DV X)->DV X
 |[d]=>d
 |ds=>.eV ds
def G3(i:Nat)(ab:List Nat)(l:List (RT X.ι))(x:sJ X l):Option (DV X×List (Nat×Option (br X))):=
 (Kh i ab (yn l x) l x).bind λp=>some (anL p.1,p.2)
theorem aaJ(u:List (Nat×Option (br X))):(jm u).isEmpty=u.isEmpty:=by cases u<;>rfl
theorem Za(i:Nat)(ab ns:List Nat)(q:RT X.ι)(x:RT.T X q):(∃ c,UY ns q x=[c]/\∃d,(GR i ab ns q x).1=[d]/\Jw i ab c=(den d,jm (GR i ab ns q x).2))\/(UY ns q x=[]/\GR i ab ns q x=([],[])):=by
 cases q
 case d c=>exact .inl ⟨_,rfl,_,rfl,rfl⟩
 case fresh e=>exact .inl ⟨_,rfl,_,rfl,by simp[Jw,GR,den,jm,bH,aI]⟩
 case whole j=>
  refine .inl ⟨_,rfl,_,rfl,?_⟩;simp[Jw,jm,GR];cases ab[j]?<;>rfl
 all_goals exact .inr ⟨rfl,rfl⟩
theorem acN(i:Nat)(ab:List Nat)(c:RC):Ls i ab [c]=some ([(Jw i ab c).1],(Jw i ab c).2):=by simp[Ls]
theorem Zb(i:Nat)(ab ns:List Nat):∀(l:List (RT X.ι))(x:sJ X l)(p:List (DV X)×List (Nat×Option (br X))),Kh i ab ns l x=some p->Ls i ab (DF ns l x)=some (bF p.1,jm p.2)
 |[],_,p,h=>by simp[Kh]at h;subst h;rfl
 |[q],x,p,h=>by simp[Kh]at h;subst h;simp[DF];rcases Za i ab ns q x with ⟨c,h1,d,h2,h3⟩|⟨h1,h2⟩;rw[h1,acN,h2,h3];simp[bF];rw[h1,h2];rfl
 |q::q'::l,x,p,h=>by simp only[Kh]at h;rw[ah]at h;obtain⟨p',h1,h⟩:=h;have ih:=Zb i ab ns (q'::l) x.2 p' h1;split at h;rename_i hc;cases h;simp[DF];rcases Za i ab ns q x.1 with ⟨c,h1,d,h2,h3⟩|⟨h1,h2⟩;rw[h1];simp only[List.singleton_append,Ls,ih,ai,h3,aaJ];rw[aX hc,h2];simp[bF,jm];rw[h1,h2];exact ih;cases h
theorem acO{i:Nat}{ab:List Nat}{l:List (RT X.ι)}{x:sJ X l}{p:DV X×List (Nat×Option (br X))}(h:G3 i ab l x=some p):imp i ab (sQ l x)=some (den p.1,jm p.2):=by
 unfold G3 at h;rw[ah]at h;obtain⟨p',h1,h⟩:=h;cases h;have ih:=Zb i ab _ l x p' h1;unfold sQ;split;rename_i c hc;rw[hc,acN]at ih;simp at ih;obtain⟨ds,u⟩:=p'
 match ds,ih with
 |[d],ih=>
  grind [bF,imp,anL,ih.1,ih.2]
 |[],ih|_::_::_,ih=>grind [bF]
 rename_i hne;simp[imp,ih];obtain⟨ds,u⟩:=p'
 match ds,ih with
 |[],_|_::_::_,_=>rfl
 |[d],ih=>
  exfalso;generalize hcs:DF (yn l x) l x=cs at ih hne
  match cs,ih,hne with
  |[],ih,_=>grind [Ls,bF]
  |[c],_,hne=>grind
  |c::c'::cs,ih,_=>
   simp[Ls]at ih;cases h3:Ls i ab cs with
   |none=>grind
   |some q=>
    rw[h3]at ih;simp at ih;split at ih;simp only[ai]at ih;split at ih;simp[bF]at ih;cases ih;simp at ih
def Rd:(q:RT X.ι)->RT.T X q->List (Option (br X))
 |.mu c,x=>[some (.ec c x)]
 |.mr c,x=>[some (.cells (CT.sz X c) [uQ c x])]
 |.mv,_=>[none]
 |_,_=>[]
def Va:(l:List (RT X.ι))->sJ X l->List (Option (br X))
 |[],_=>[]
 |[q],x=>Rd q x
 |q::q'::l,x=>Rd q x.1++Va (q'::l) x.2
def QU:List Nat->List (Option (br X))->List (Nat×Option (br X))
 |k::ab,p::os=>(k,p)::QU ab os
 |_,_=>[]
theorem acP(q:RT X.ι)(x:RT.T X q):(Rd q x).map (·.map bH)=(qJ q x).map (·.map gz):=by
 cases q<;>try rfl
 case mr c=>simp[Rd,qJ,bH,gz,uG,aI,o6]
theorem OW:∀(l:List (RT X.ι))(x:sJ X l),(Va l x).map (·.map bH)=(o7 l x).map (·.map gz)
 |[],_=>rfl
 |[q],x=>acP q x
 |q::q'::l,x=>by simp[Va,o7,acP,OW (q'::l) x.2]
theorem Zc:∀(ab:List Nat)(os:List (Option (br X)))(os':List (Option fA)),os.map (·.map bH)=os'.map (·.map gz)->jm (QU ab os)=BM ab os'
 |[],_,_,_=>by rfl
 |_::_,[],[],_=>rfl
 |k::ab,p::os,p'::os',h=>by
  simp at h;have:=Zc ab os os' h.2
  simp_all [jm,QU,BM,h.1,this]
 |_::_,[],_::_,h|_::_,_::_,[],h=>by simp at h
theorem KG:∀{ab:List Nat}{os:List (Option (br X))}{p:Nat×Option (br X)},p∈QU ab os->p.1∈ab
 |[],_,_,h|_::_,[],_,h=>by trivial
 |k::ab,q::os,p,h=>by simp[QU]at h;rcases h with rfl|h;simp;exact dZ _ (KG h)
def aaK(get:Nat->Option (br X))(d:DV X)(c:CT X.ι):Option (List (CT.T X.toSE c)×Nat×List Bool):=
 match d with
 |.own k 0 len=>(get k).bind λo=>match o with
  |.ec b l=>(lq (.sl b) (.sl c) l).bind λ(l:List (CT.T X.toSE c))=>some (l,k,[be len (List.length l)])
  |_=>none
 |_=>none
def Vb(get:Nat->Option (br X))(d:DV X)(c:CT X.ι):Option (CT.T X.toSE c×Nat):=
 match d with
 |.ptr k 0 0=>(get k).bind λo=>match o with
  |.cells sz [row]=>if sz=CT.sz X c then(LP c row).bind λx=>some (x,k)else none
  |_=>none
 |_=>none
def o8(Γ:FuncId->Option (ca X))(get:Nat->Option (br X)):List (DV X)->(l:List (AT X.ι))->Option (jg X l×List Nat×List Bool)
 |[],[]=>some ((),[],[])
 |d::ds,.mut c::l=>(aaK get d c).bind λx=>(o8 Γ get ds l).bind λh=>some ((x.1,h.1),x.2.1::h.2.1,x.2.2++h.2.2)
 |d::ds,.ju c::l=>(Vb get d c).bind λx=>(o8 Γ get ds l).bind λh=>some ((x.1,h.1),x.2::h.2.1,h.2.2)
 |d::ds,.d c::l=>(QO Γ get 3 [d] [.d c]).bind λx=>(o8 Γ get ds l).bind λh=>some ((x.1.1,h.1),h.2.1,x.2++h.2.2)
 |d::ds,.ref c::l=>(QO Γ get 3 [d] [.ref c]).bind λx=>(o8 Γ get ds l).bind λh=>some ((x.1.1,h.1),h.2.1,x.2++h.2.2)
 |d::ds,.du as r::l=>(QO Γ get 3 [d] [.du as r]).bind λx=>(o8 Γ get ds l).bind λh=>some ((x.1.1,h.1),h.2.1,x.2++h.2.2)
 |d::ds,.nil::l=>match d with
  |.nil=>(o8 Γ get ds l).bind λh=>some (((),h.1),h.2.1,h.2.2)
  |_=>none
 |_,_=>none
def Jb:List (DV X)->List (AT X.ι)->List Nat
 |d::ds,a::l=>(if a.im then []else bp d)++Jb ds l
 |_,_=>[]
def To(get:Nat->Option (br X)):List (DV X)->(l:List (CT X.ι))->Option (HL X.toSE l×List Bool)
 |[],[]=>some ((),[])
 |d::ds,c::l=>(EY get d c).bind λx=>(To get ds l).bind λh=>some ((x.1,h.1),x.2++h.2)
 |_,_=>none
variable (Γ:FuncId->Option (ca X))
def ajT(i:Nat)(f:DV X)(args:List (DV X))(get:Nat->Option (br X))(k:KK X A):Option A:=
 match f with
 |.fn F first caps=>(Γ F).bind λs=>match s.gen.filter λg=>(so get g.ml (first++args++caps) ⟨[],[],[],[]⟩).isSome with
  |some g=>afo g i (first++args++caps) get k
  |none=>if (s.args.all (λ q=>q.pl)&&s.res.all (λ q=>!q.out))=true then(QO Γ get 3 (first++args++caps) s.args).bind λa=>UH a.2 ((s.fn a.1).bind λx=>(G3 i [] s.res x).bind λp=>
   if s.res.all U7 then k p.1 p.2 (aL (first++args++caps)) []
   else k p.1 (p.2++LY (aL (first++args++caps))) (aL (first++args++caps)) (aL (first++args++caps)))
  else(o8 Γ get (first++args++caps) s.args).bind λa=>UH a.2.2 ((s.fn a.1).bind λx=>(G3 i a.2.1 s.res x).bind λp=>
   if (decide a.2.1.Nodup&&(Jb (first++args++caps) s.args).all (λ j=>!a.2.1.contains j)&&decide ((Va s.res x).length=a.2.1.length))=true then
    if s.res.all U7 then k p.1 (p.2++QU a.2.1 (Va s.res x)) (aL (first++args++caps)) a.2.1
    else k p.1 (p.2++(QU a.2.1 (Va s.res x)++LY ((aL (first++args++caps)).filter λj=>!a.2.1.contains j))) (aL (first++args++caps)) (a.2.1++(aL (first++args++caps)).filter λj=>!a.2.1.contains j)
   else none)
 |.du as q φ=>(To get args as).bind λh=>UH h.2 ((φ h.1).bind λy=>
  if wQ q then k (.c q y) [] (aL args) []else k (.c q y) (LY (aL args)) (aL args) (aL args))
 |_=>none
def E7(fz:List Nat)(T:ed)(code:TypeId->Option (CT X.ι))(i:Nat)(o:Op)(ρ:Operand->DV X)(get:Nat->Option (br X))(k:KK X A):Option A:=
 match o with
 |.call { callee:=.value f,args:=args,argTypes:=_ }=>ajT Γ i (ρ f) (args.toList.map ρ) get k
 |o=>if anI o ρ then am0 T code i o ρ get k else if anJ o ρ || fz.contains i then am1 T code i o ρ get k else if anK T o ρ then am2 T code o ρ get k else Pc T code i o ρ get k
variable {Γ}
theorem L9{P:Program}{get:Nat->Option (br X)}{rd:List Nat}:∀{ds:List (DV X)}{l:List (CT X.ι)}{h:HL X.toSE l×List Bool},To get ds l=some h->(∀ b∈h.2,b=true)->(∀ j∈aL ds,j∈rd)->
 ∃hs obs,(∀ p∈obs,p)/\∀ae,mO P (dK rd (fV get)) (bF ds) (hs++ae)=some ((HL.m5 X.toSE l h.1).map TV.av,ae,obs)
 |[],[],h,_,_,_=>⟨[],[],by simp,λae=>rfl⟩
 |d::ds,c::l,h,hr,hc,hrd=>by simp[To]at hr;have⟨x,h1,hr⟩:=ah.1 hr;have⟨g,h2,hr⟩:=ah.1 hr;cases hr;obtain⟨hs1,o1,p1,q1⟩:=zO (P:=P) (rd:=rd) h1 (λ b hb=>hc b (by grind)) (λ j hj=>hrd j (by simp[aL,hj]));obtain⟨hs2,o2,p2,q2⟩:=L9 (P:=P) (rd:=rd) h2 (λ b hb=>hc b (by grind)) (λ j hj=>hrd j (by simp[aL,hj]));refine⟨hs1++hs2,o1++o2,iB p1 p2,λae=>?_⟩;simp[bF,mO,q1,q2];rfl
 |[],_::_,_,hr,_,_|_::_,[],_,hr,_,_=>by trivial
theorem Vd{i:Nat}{ab ns:List Nat}{q:RT X.ι}{x:RT.T X q}:∀p∈(GR i ab ns q x).2,p.1=cE i:=by cases q<;>simp[GR]
theorem Ve{i:Nat}{ab ns:List Nat}:∀{l:List (RT X.ι)}{x:sJ X l}{p:List (DV X)×List (Nat×Option (br X))},Kh i ab ns l x=some p->∀q∈p.2,q.1=cE i
 |[],_,p,h=>by grind [Kh]
 |[q],x,p,h=>by simp[Kh]at h;subst h;exact Vd
 |q::q'::l,x,p,h=>by simp[Kh]at h;have⟨p',h1,h⟩:=ah.1 h;split at h;cases h;intro z hz;rcases bK.1 hz with hz|hz;exact Vd z hz;exact Ve h1 z hz;cases h
theorem Zd{i:Nat}{ab:List Nat}{l:List (RT X.ι)}{x:sJ X l}{p:DV X×List (Nat×Option (br X))}(h:G3 i ab l x=some p):∀q∈p.2,q.1=cE i:=by unfold G3 at h;have⟨p',h1,h⟩:=ah.1 h;cases h;exact Ve h1
theorem GU{P:Program}{get:Nat->Option aM}{x:AV}{hs ae:List LH}{y:AV}{o:List Prop}(h:mO P get [x] hs=some ([y],ae,o)):oW P get x hs=some (y,ae,o):=by
 simp only[mO,ai,append_nil,ah,bM,Prod.mk.injEq,List.cons.injEq,and_true]at h
 grind
theorem lN{d:DV X}{ds:List (DV X)}{a:AT X.ι}{l:List (AT X.ι)}{P:Nat->Prop}(h:∀j∈Jb (d::ds) (a::l),P j):(a.im=false->∀j∈bp d,P j)/\∀j∈Jb ds l,P j:=by
 grind [Jb]
theorem am3{c:CT X.ι}{l:List (CT.T X.toSE c)}:dW ((aI (l.map (CT.row X.toSE c))).take (l.map (CT.row X.toSE c)).length)=aI (l.map (CT.row X.toSE c)):=by rw[take_of_length_le (by simp[aI])];simp only[dW,aI,map_map];exact map_congr_left λy _=>by simp only[Function.comp,map_map];rfl
theorem XV{get:Nat->Option (br X)}{d:DV X}{c:CT X.ι}{x:List (CT.T X.toSE c)×Nat×List Bool}(h:aaK get d c=some x)(hc:∀b∈x.2.2,b=true):
 d=.own x.2.1 0 (List.length x.1)/\∃o,get x.2.1=some o/\(bH o).sz=(uG c x.1).1/\dW ((bH o).rows.take (uG c x.1).2.length)=aI (uG c x.1).2:=by
 unfold aaK at h;split at h;rename_i k len;rw[ah]at h;obtain⟨o,h1,h⟩:=h;split at h;rename_i b l;rw[ah]at h;obtain⟨l',h2,h⟩:=h;cases h;have⟨h3,h4⟩:=jA h2;have h5:len=List.length l':=by simp_all [be]
 refine⟨by rw[h5],.ec b l,h1,by trivial,?_⟩;simp only[bH,uG,h4];exact am3;cases h;cases h
theorem Vf{get:Nat->Option (br X)}{d:DV X}{c:CT X.ι}{x:CT.T X.toSE c×Nat}(h:Vb get d c=some x):
 d=.ptr x.2 0 0/\∃o,get x.2=some o/\(bH o).sz=(uG c [x.1]).1/\dW ((bH o).rows.take (uG c [x.1]).2.length)=aI (uG c [x.1]).2:=by unfold Vb at h;split at h;rw[ah]at h;obtain⟨o,h1,h⟩:=h;split at h;split at h;rename_i hsz;have⟨y,h2,h⟩:=ah.1 h;cases h;refine⟨rfl,_,h1,by trivial,?_⟩;simp[bH,uG,dW,aI];rw[xN h2];cases h;cases h;cases h
theorem nI{P:Program}{Γ:FuncId->Option (ca X)}(hΓ:pL P Γ){get:Nat->Option (br X)}{rd ab:List Nat}:∀{n:Nat}{ds:List (DV X)}{l:List (AT X.ι)}{a:jg X l×List Nat×List Bool},o8 Γ get ds l=some a->(∀ b∈a.2.2,b=true)->(∀ j∈aL ds,j∈rd)->(∀ j∈Jb ds l,j∉ab)->ab.drop n=a.2.1->
 (∃ hs obs,(∀ p∈obs,p)/\∀ae,mq P (dK rd (fV get)) ab (bF ds) (hs++ae)=some (eU n l a.1,ae,obs))/\∃mo,Gs (dK rd (fV get)) a.2.1 (uH l a.1)=some mo/\∀p∈mo,p
 |n,[],[],a,h,_,_,_,_=>by simp[o8]at h;subst h;exact⟨⟨[],[],by simp,λae=>rfl⟩,[],rfl,by simp⟩
 |n,d::ds,.mut c::l,a,h,hc,hrd,hnr,hid=>by
  simp[o8]at h;have⟨x,h1,h⟩:=ah.1 h;have⟨q,h2,h⟩:=ah.1 h;cases h;obtain⟨rfl,o,g1,g2,g3⟩:=XV h1 (λ b hb=>hc b (by simp[hb]));have CM:ab[n]? =some x.2.1:=by rw[<- List.head?_drop,hid];rfl
  have CN:ab.drop (n+1)=q.2.1:=by rw[<- List.tail_drop,hid];rfl
  obtain⟨⟨hs,obs,p1,p2⟩,mo,m1,m2⟩:=nI hΓ (n:=n+1) h2 (λ b hb=>hc b (by simp[hb])) (λ j hj=>hrd j (by simp[aL,hj])) (lN hnr).2 CN;refine⟨⟨.mut n::hs,obs,p1,λae=>?_⟩,((bH o).sz=(uG c x.1).1/\dW ((bH o).rows.take (uG c x.1).2.length)=aI (uG c x.1).2)::mo,?_,?_⟩;simp[bF,den,mq,qo,CM,p2,eU];simp[uH,Gs,fE (hrd x.2.1 (by simp[aL,bp])) g1,m1];intro p hp
  grind
 |n,d::ds,.ju c::l,a,h,hc,hrd,hnr,hid=>by
  simp[o8]at h;have⟨x,h1,h⟩:=ah.1 h;have⟨q,h2,h⟩:=ah.1 h;cases h;obtain⟨rfl,o,g1,g2,g3⟩:=Vf h1;have CM:ab[n]? =some x.2:=by rw[<- List.head?_drop,hid];rfl
  have CN:ab.drop (n+1)=q.2.1:=by rw[<- List.tail_drop,hid];rfl
  obtain⟨⟨hs,obs,p1,p2⟩,mo,m1,m2⟩:=nI hΓ (n:=n+1) h2 (λ b hb=>hc b (by simp[hb])) (λ j hj=>hrd j (by simp[aL,hj])) (lN hnr).2 CN;refine⟨⟨.mut n::hs,obs,p1,λae=>?_⟩,((bH o).sz=(uG c [x.1]).1/\dW ((bH o).rows.take (uG c [x.1]).2.length)=aI (uG c [x.1]).2)::mo,?_,?_⟩;simp[bF,den,mq,cons_append,qo,CM,if_true,ai,p2,eU,fP];simp[uH,Gs,fE (hrd x.2 (by simp[aL,bp])) g1,ai,m1];intro p hp;rcases aR.1 hp with rfl|hp;exact⟨g2,g3⟩;exact m2 p hp
 |n,d::ds,.d c::l,a,h,hc,hrd,hnr,hid=>by simp[o8]at h;have⟨x,h1,h⟩:=ah.1 h;have⟨q,h2,h⟩:=ah.1 h;cases h;obtain⟨hs1,o1,p1,q1⟩:=rT (P:=P) hΓ 3 (n:=n) h1 (λ b hb=>hc b (by simp[hb])) (rd:=rd) (λ j hj=>hrd j (by simp[aL,append_nil]at hj;simp[aL,hj]));obtain⟨⟨hs,obs,p2,q2⟩,mo,m1,m2⟩:=nI hΓ (n:=n) h2 (λ b hb=>hc b (by simp[hb])) (λ j hj=>hrd j (by simp[aL,hj])) (lN hnr).2 hid;refine⟨⟨ym (den d) hs1++hs,o1++obs,iB p1 p2,λae=>?_⟩,mo,m1,m2⟩;have:=xO (GU (q1 (hs++ae))) (λ k hk=>(lN hnr).1 rfl k (by rwa [iP]at hk));rw[L6]at this;simp[bF,mq,aT,this,ai,q2,eU]
 |n,d::ds,.ref c::l,a,h,hc,hrd,hnr,hid=>by simp[o8]at h;have⟨x,h1,h⟩:=ah.1 h;have⟨q,h2,h⟩:=ah.1 h;cases h;obtain⟨hs1,o1,p1,q1⟩:=rT (P:=P) hΓ 3 (n:=n) h1 (λ b hb=>hc b (by simp[hb])) (rd:=rd) (λ j hj=>hrd j (by simp[aL,append_nil]at hj;simp[aL,hj]));obtain⟨⟨hs,obs,p2,q2⟩,mo,m1,m2⟩:=nI hΓ (n:=n) h2 (λ b hb=>hc b (by simp[hb])) (λ j hj=>hrd j (by simp[aL,hj])) (lN hnr).2 hid;refine⟨⟨ym (den d) hs1++hs,o1++obs,iB p1 p2,λae=>?_⟩,mo,m1,m2⟩;have:=xO (GU (q1 (hs++ae))) (λ k hk=>(lN hnr).1 rfl k (by rwa [iP]at hk));rw[L6]at this;simp[bF,mq,aT,this,ai,q2,eU]
 |n,d::ds,.du as r::l,a,h,hc,hrd,hnr,hid=>by simp[o8]at h;have⟨x,h1,h⟩:=ah.1 h;have⟨q,h2,h⟩:=ah.1 h;cases h;obtain⟨hs1,o1,p1,q1⟩:=rT (P:=P) hΓ 3 (n:=n) h1 (λ b hb=>hc b (by simp[hb])) (rd:=rd) (λ j hj=>hrd j (by simp[aL,append_nil]at hj;simp[aL,hj]));obtain⟨⟨hs,obs,p2,q2⟩,mo,m1,m2⟩:=nI hΓ (n:=n) h2 (λ b hb=>hc b (by simp[hb])) (λ j hj=>hrd j (by simp[aL,hj])) (lN hnr).2 hid;refine⟨⟨ym (den d) hs1++hs,o1++obs,iB p1 p2,λae=>?_⟩,mo,m1,m2⟩;have:=xO (GU (q1 (hs++ae))) (λ k hk=>(lN hnr).1 rfl k (by rwa [iP]at hk));rw[L6]at this;simp[bF,mq,aT,this,ai,q2,eU]
 |n,d::ds,.nil::l,a,h,hc,hrd,hnr,hid=>by simp[o8]at h;split at h;have⟨q,h2,h⟩:=ah.1 h;cases h;obtain⟨⟨hs,obs,p2,q2⟩,mo,m1,m2⟩:=nI hΓ (n:=n) h2 hc (λ j hj=>hrd j (by simp[aL,hj])) (lN hnr).2 hid;refine⟨⟨.nil::hs,obs,p2,λae=>?_⟩,mo,m1,m2⟩;have:=xO (P:=P) (get':=dK rd (fV get)) (ab:=ab) (x:=.cP) (hs:=.nil::(hs++ae)) (p:=(.cP,hs++ae,[])) rfl (λ k hk=>by simp[refs]at hk);simp[ym]at this;simp[bF,den,mq,cons_append,this,ai,q2,eU,fP];cases h
 |_,[],_::_,_,h,_,_,_,_=>by simp[o8]at h
 |_,_::_,[],_,h,_,_,_,_=>by simp[o8]at h
theorem acQ{P:Program}(hΓ:pL P Γ){i:Nat}{f:DV X}{args:List (DV X)}{get:Nat->Option (br X)}{k:KK X A}{r:A}(h:ajT Γ i f args get k=some r):
 ∃co rd wr dv upd out,lK P i (den f) (bF args) co (dK rd (fV get))=some out/\kL out.obs/\out.v=den dv/\out.upd=jm upd/\(∀ p∈upd,p.1=cE i\/p.1∈wr)/\k dv upd rd wr=some r:=by
 unfold ajT at h;split at h;rename_i F first caps
 rw[ah]at h;obtain⟨s,h1,h⟩:=h;split at h;rename_i g hgen;exact aaI ((hΓ F s h1).2.2 g (Option.filter_eq_some_iff.1 hgen).1) h;split at h;rename_i hpure;rw[ah]at h;obtain⟨⟨a,cs⟩,h2,h⟩:=h;have⟨hcs,h⟩:=pY h;rw[ah]at h;obtain⟨x,h3,h⟩:=h;rw[ah]at h;obtain⟨p,h4,h⟩:=h;have hf0:=(hΓ F s h1).2.1 a x h3;simp only[bg]at hpure;rw[GJ (anF hpure.1),acB hpure.2]at hf0;have hf:=UA hf0;have hi:=acO h4;have hk:=Zd h4;obtain⟨hs,obs,g1,g2⟩:=rT (P:=P) hΓ 3 h2 hcs (rd:=aL (first++args++caps)) (λ j hj=>hj);have g3:=g2 [];rw[append_nil,jo,jo]at g3;have hrefs:fe (bF first++bF args++bF caps)=aL (first++args++caps):=by
  grind [jo,jc]
 split at h;rename_i hfl;refine⟨.call hs (sQ s.res x) true,_,[],p.1,p.2,⟨den p.1,jm p.2,obs++[td P F (yj s.args a) (sQ s.res x),(sQ s.res x).flat]⟩,?_,?_,rfl,rfl,λq hq=>.inl (hk q hq),h⟩;simp only[den,lK,qI,zJ,hi,ai,g3];rfl;exact qW _ (iB g1 (by intro q hq;simp only[aR,nE,or_false]at hq;rcases hq with rfl|rfl;exact hf;exact U9 x hfl));refine⟨.call hs (sQ s.res x) false,_,_,p.1,_,⟨den p.1,jm p.2++(aL (first++args++caps)).map (λ k=>(k,none)),obs++[td P F (yj s.args a) (sQ s.res x)]⟩,?_,?_,rfl,?_,?_,h⟩;simp only[den,lK,qI,zJ,hi,ai,g3,hrefs];rfl;exact qW _ (iB g1 (by intro q hq;simp only[bq]at hq;subst hq;exact hf));simp[rU,BU];intro q hq;rcases bK.1 hq with hq|hq;exact .inl (hk q hq);exact .inr (I9 hq);rename_i hpure;rw[ah]at h;obtain⟨⟨a,ab,cs⟩,h2,h⟩:=h;have⟨hcs,h⟩:=pY h;rw[ah]at h;obtain⟨x,h3,h⟩:=h;rw[ah]at h;obtain⟨p,h4,h⟩:=h;split at h;rename_i hc;simp only[bg,bE]at hc;obtain⟨⟨hnd,hnr⟩,hlen⟩:=hc;have hf:=(hΓ F s h1).2.1 a x h3;have hi:=acO h4;have hk:=Zd h4;obtain⟨⟨hs,obs,g1,g2⟩,mo,m1,m2⟩:=nI (P:=P) hΓ (rd:=aL (first++args++caps)) (ab:=ab) (n:=0) h2 hcs (λ j hj=>hj) (λ j hj=>by simpa using all_eq_true.1 hnr j hj) rfl;have g3:=g2 [];rw[append_nil,jo,jo]at g3;have hrefs:fe (bF first++bF args++bF caps)=aL (first++args++caps):=by rw[<- jo,<- jo,jc]
 have hlen':(o7 s.res x).length=ab.length:=by rw[<- hlen];simpa using (congrArg List.length (OW s.res x)).symm
 have hout:jm (QU ab (Va s.res x))=BM ab (o7 s.res x):=Zc _ _ _ (OW s.res x);split at h;rename_i hfl;refine⟨.tP ab (uH s.args a) (o7 s.res x) hs (sQ s.res x) true,_,ab,p.1,_,⟨den p.1,jm p.2++BM ab (o7 s.res x),obs++mo++[p5 P F (yj s.args a) (uH s.args a) (o7 s.res x) (sQ s.res x),(sQ s.res x).flat,Uh (o7 s.res x)]⟩,?_,?_,rfl,?_,?_,h⟩;simp only[den,lK,qI,Gu,hi,ai,m1,g3];rw[aX ⟨hnd,hlen'⟩];rfl;refine qW _ (iB (iB g1 m2) ?_);intro q hq;simp only[aR,nE,or_false]at hq;rcases hq with rfl|rfl|rfl;exact hf;exact U9 x hfl;exact Y9 hfl;simp[rU,hout];intro q hq;rcases bK.1 hq with hq|hq;exact .inl (hk q hq);exact .inr (KG hq);refine⟨.tP ab (uH s.args a) (o7 s.res x) hs (sQ s.res x) false,_,_,p.1,_,⟨den p.1,jm p.2++(BM ab (o7 s.res x)++((aL (first++args++caps)).filter λj=>!ab.contains j).map (λ k=>(k,none))),obs++mo++[p5 P F (yj s.args a) (uH s.args a) (o7 s.res x) (sQ s.res x)]⟩,?_,?_,rfl,?_,?_,h⟩;simp only[den,lK,qI,Gu,hi,ai,m1,g3,Gt,hrefs];rw[aX ⟨hnd,hlen'⟩];rfl;refine qW _ (iB (iB g1 m2) ?_);intro q hq;simp only[bq]at hq;subst hq;exact hf;simp[rU,hout,BU];intro q hq;rcases bK.1 hq with hq|hq;exact .inl (hk q hq);rcases bK.1 hq with hq|hq;exact .inr (mem_append_left _ (KG hq));exact .inr (mem_append_right _ (I9 hq));cases h;rename_i as q φ;rw[ah]at h;obtain⟨⟨hh,cs⟩,h1,h⟩:=h;have⟨hcs,h⟩:=pY h;rw[ah]at h;obtain⟨y,h2,h⟩:=h;obtain⟨hs,obs,g1,g2⟩:=L9 (P:=P) h1 hcs (rd:=aL args) (λ j hj=>hj);have g3:=g2 [];rw[append_nil]at g3;have hφ:∃h' x',φ h'=some x'/\HL.m5 X.toSE as hh=HL.m5 X.toSE as h'/\CT.tv X.toSE q y=CT.tv X.toSE q x':=⟨hh,y,h2,rfl,rfl⟩;split at h;rename_i hfl;refine⟨.EV hs (HL.m5 X.toSE as hh) (CT.tv X.toSE q y) true,_,[],.c q y,[],⟨(CT.tv X.toSE q y).av,[],obs++[(HL.m5 X.toSE as hh).map TV.av=(HL.m5 X.toSE as hh).map TV.av,(∃ h' x',φ h'=some x'/\HL.m5 X.toSE as hh=HL.m5 X.toSE as h'/\CT.tv X.toSE q y=CT.tv X.toSE q x'),(CT.tv X.toSE q y).flat]⟩,?_,?_,rfl,rfl,by simp,h⟩;simp only[den,lK,qI,zJ,g3,ai];rfl;exact qW _ (iB g1 (by intro z hz;simp only[aR,nE,or_false]at hz;rcases hz with rfl|rfl|rfl;trivial;exact hφ;exact acM hfl y));refine⟨.EV hs (HL.m5 X.toSE as hh) (CT.tv X.toSE q y) false,_,_,.c q y,_,⟨(CT.tv X.toSE q y).av,(aL args).map (λ k=>(k,none)),obs++[(HL.m5 X.toSE as hh).map TV.av=(HL.m5 X.toSE as hh).map TV.av,(∃ h' x',φ h'=some x'/\HL.m5 X.toSE as hh=HL.m5 X.toSE as h'/\CT.tv X.toSE q y=CT.tv X.toSE q x')]⟩,?_,?_,rfl,(BU _).symm,λz hz=>.inr (I9 hz),h⟩;simp only[den,lK,qI,zJ,g3,ai,jc];rfl;exact qW _ (iB g1 (by intro z hz;simp only[aR,nE,or_false]at hz;rcases hz with rfl|rfl;trivial;exact hφ));cases h
theorem afr{P:Program}(hΓ:pL P Γ){fz:List Nat}{T:ed}{code:TypeId->Option (CT X.ι)}{i:Nat}{o:Oper}{ρ:Operand->DV X}{get:Nat->Option (br X)}{k:KK X A}{r:A}(h:E7 Γ fz T code i o.op ρ get k=some r):d8 P T i o ρ get k r:=by
 obtain⟨dst,op,ty,am,after,guard⟩:=o;unfold E7 at h;simp only at h;split at h
 ·have:=acQ hΓ h;simp only[<- Tm]at this;obtain⟨co,rd,wr,dv,upd,out,g1,g2⟩:=this;exact .call g1 g2
 ·split at h
  ·exact afk (o:=⟨dst,op,ty,am,after,guard⟩) h
  ·split at h
   ·exact afl (o:=⟨dst,op,ty,am,after,guard⟩) h
   ·split at h
    ·exact afm (o:=⟨dst,op,ty,am,after,guard⟩) h
    ·rename_i hne _ _ _;have⟨co,rd,wr,dv,upd,out,g1,g2⟩:=YX (o:=⟨dst,op,ty,am,after,guard⟩) h;exact d8.op (λ f args cW e=>hne f args cW e) g1 g2
end
def k9(x y:AV):Prop:=∀P β w I v,VR P β w I x v->VR P β w I y v
theorem k9.refl(x:AV):k9 x x:=λ_ _ _ _ _ h=>h
theorem k9.undef(x:AV):k9 x .undef:=λ_ _ _ _ _ _=>by simp[VR]
theorem k9.wk(x:AV):k9 x (wk x):=λ_ _ _ _ _ h=>h.wk
section
variable {P:Program} {w0:World} {O0:gA} {N:Nat} {β:Nat->Option cA} {I:Nat->Prop} {a:Act} {w:World} {f g:Nat->Nat} {D:Nat->Prop}
mutual
theorem VR.rn(hgf:∀k,D k->g (f k)=k):∀(x:AV)(v:Value),(∀ k∈refs x,D k)->VR P β w I x v->VR P (λ j=>β (g j)) w I (jt f x) v
 |.own k aa len,v,hd,h=>by simp[jt,VR,hgf k (hd k (by simp[refs]))]at h ⊢;exact h
 |.ptr k row aa,v,hd,h=>by simp[jt,VR,hgf k (hd k (by simp[refs]))]at h ⊢;exact h
 |.agg cs,v,hd,h=>by simp[VR]at h ⊢;obtain⟨vs,h1,h2⟩:=h;exact⟨vs,h1,bo.rn hgf cs _ (by simpa[refs]using hd) h2⟩
 |.eV cs,v,hd,h=>by simp[VR]at h ⊢;obtain⟨vs,h1,h2⟩:=h;exact⟨vs,h1,bo.rn hgf cs _ (by simpa[refs]using hd) h2⟩
 |.fn F first caps,v,hd,h=>by simp[VR]at h ⊢;obtain⟨fs,cs,h1,h2,h3⟩:=h;exact⟨fs,cs,h1,bo.rn hgf first _ (λ k hk=>hd k (by simp[refs,hk])) h2,bo.rn hgf caps _ (λ k hk=>hd k (by simp[refs,hk])) h3⟩
 |.t x,v,_,h|.ep r o,v,_,h|.du φ,v,_,h=>by simpa[jt,VR]using h
 |.mp k,v,hd,h=>by simp[jt,VR,hgf k (hd k (by simp[refs]))]at h ⊢;exact h
 |.oz k len,v,hd,h=>by simp[jt,VR,hgf k (hd k (by simp[refs]))]at h ⊢;exact h
 |.cP,v,_,h|.ub,v,_,h=>by simpa[jt,VR]using h
 |.undef,v,_,h=>by simp[jt,VR]
theorem bo.rn(hgf:∀k,D k->g (f k)=k):∀(xs:List AV)(vs:List Value),(∀ k∈fe xs,D k)->bo P β w I xs vs->bo P (λ j=>β (g j)) w I (BN f xs) vs
 |[],[],_,_=>by simp[BN,bo]
 |x::xs,v::vs,hd,h=>by simp[bo]at h;simp[BN];exact⟨VR.rn hgf x v (λ k hk=>hd k (by simp[fe,hk])) h.1,bo.rn hgf xs vs (λ k hk=>hd k (by simp[fe,hk])) h.2⟩
 |[],_::_,_,h|_::_,[],_,h=>by simp[bo]at h
end
def nj(D:Nat->Prop)(f:Nat->Nat):List AV->List AV->Prop
 |[],[]=>True
 |x::xs,y::ys=>((∀ k∈refs x,D k)/\k9 (jt f x) y)/\nj D f xs ys
 |_,_=>False
def gx(D:Nat->Prop)(f:Nat->Nat):List (List AV)->List (List AV)->Prop
 |[],[]=>True
 |r::rs,q::qs=>nj D f r q/\gx D f rs qs
 |_,_=>False
theorem nj.length:∀{r q:List AV},nj D f r q->q.length=r.length
 |[],[],_=>rfl
 |_::xs,_::ys,h=>by simp[nj.length h.2]
 |[],_::_,h|_::_,[],h=>h.elim
theorem cR.re(hgf:∀k,D k->g (f k)=k):∀{r q:List AV}{c:Array Value}{aa:Nat},nj D f r q->cR P β w I r c aa->cR P (λ j=>β (g j)) w I q c aa
 |[],[],_,_,_,_=>trivial
 |x::xs,y::ys,c,aa,hr,⟨⟨v,h1,h2,h3⟩,h4⟩=>⟨⟨v,h1,hr.1.2 _ _ _ _ _ (VR.rn hgf x v hr.1.1 h2),h3⟩,cR.re hgf hr.2 h4⟩
 |[],_::_,_,_,h,_|_::_,[],_,_,h,_=>h.elim
theorem bu.re(hgf:∀k,D k->g (f k)=k):∀{rs qs:List (List AV)}{c:Array Value}{aa sz:Nat},gx D f rs qs->bu P β w I rs c aa sz->bu P (λ j=>β (g j)) w I qs c aa sz
 |[],[],_,_,_,_,_=>trivial
 |r::rs,q::qs,c,aa,sz,hr,⟨h1,h2,h3⟩=>⟨by rw[hr.1.length];exact h1,cR.re hgf hr.1 h2,bu.re hgf hr.2 h3⟩
 |[],_::_,_,_,_,h,_|_::_,[],_,_,_,h,_=>h.elim
theorem bo.re(hgf:∀k,D k->g (f k)=k):∀{r q:List AV}{vs:List Value},nj D f r q->bo P β w I r vs->bo P (λ j=>β (g j)) w I q vs
 |[],[],[],_,_=>by simp[bo]
 |x::xs,y::ys,v::vs,hr,h=>by exact⟨hr.1.2 _ _ _ _ _ (VR.rn hgf x v hr.1.1 h.1),bo.re hgf hr.2 h.2⟩
 |[],_::_,_,h,_|_::_,[],_,h,_=>h.elim
 |[],[],_::_,_,h|_::_,_::_,[],_,h=>by simp[bo]at h
theorem cD.re(hgf:∀k,D k->g (f k)=k):∀{rs qs:List (List AV)}{es:List MapEntry},gx D f rs qs->cD P β w I rs es->cD P (λ j=>β (g j)) w I qs es
 |[],[],[],_,_=>trivial
 |r::rs,q::qs,_::es,hr,⟨h1,h2⟩=>⟨bo.re hgf hr.1 h1,cD.re hgf hr.2 h2⟩
 |[],_::_,_,h,_|_::_,[],_,h,_|[],[],_::_,_,h|_::_,_::_,[],_,h=>h.elim
theorem gx.length:∀{rs qs:List (List AV)},gx D f rs qs->qs.length=rs.length
 |[],[],_=>rfl
 |_::xs,_::ys,h=>by simp[gx.length h.2]
 |[],_::_,h|_::_,[],h=>h.elim
theorem Rel.re0{s s':St}(hgf:∀k,D k->g (f k)=k)(hg:∀j B,O0.anc j=some B->g j=j)(hr:Rel P w0 O0 N β I s a w)(hok:∀t,s.ok t=none\/s'.env t=.undef)(hok':∀t,s'.ok t=none)
 (hE:∀t,s'.env t=.undef\/((∀ k∈refs (s.env t),D k)/\k9 (jt f (s.env t)) (s'.env t)))
 (hO:∀j o',s'.obj j=some o'->∃k o,s.obj k=some o/\D k/\f k=j/\o'.sz=o.sz/\gx D f o.rows o'.rows):Rel P w0 O0 N (λ j=>β (g j)) I s' a w:=by
 refine⟨hr.defers,hr.size,λt=>?_,?_⟩
 ·have h1:=hr.env t;rw[hok' t];rcases hok t with hk|h
  rotate_left
  rw[h];simp[dc,VR];rw[hk]at h1;rcases hE t with h|⟨h2,h3⟩;rw[h];simp[dc,VR];exact h3 _ _ _ _ _ (VR.rn hgf _ _ h2 h1)
 have hm:=hr.mem;constructor;intro j o' hj;obtain⟨k,o,h1,h2,rfl,h4,h5⟩:=hO j o' hj;have⟨B,hB,sn⟩:=hm.cy k o h1;refine⟨B,by simp[hgf k h2];exact hB,?_⟩;cases B with
 |none=>
  simp[OR]at sn ⊢;rw[sn]at h5;cases ho:o'.rows with
  |nil=>rfl
  |cons=>rw[ho]at h5;exact h5.elim
 | «at» b sz n=>
  obtain⟨g1,c,e,g2,g3,g4⟩:=sn;exact⟨by rw[g1,h4],c,e,g2,g3,bu.re hgf h5 g4⟩
 |mp b=>
  obtain⟨es,cl,g1,gl,g2,g3⟩:=sn;have hl:=h5.length;exact⟨es,cl,g1,by omega,λe=>cD.re hgf h5 (g2 (by omega)),g3⟩
 intro j j' o o' B B' b h1 h2 h3 h4 h5 h6;obtain⟨k,q,i1,i2,rfl,_⟩:=hO j o h1;obtain⟨k',q',i1',i2',rfl,_⟩:=hO j' o' h2;simp[hgf k i2,hgf k' i2']at h3 h4;rw[hm.er k k' q q' B B' b i1 i1' h3 h4 h5 h6];intro j o B b h1 h2;obtain⟨k,q,i1,i2,rfl,_⟩:=hO j o h1;simp[hgf k i2]at h2;exact hm.ownB k q B b i1 h2;exact hm.lt;exact hm.up;exact hm.keep;exact hm.le;exact hm.os;exact hm.tape;exact hm.output;intro j B hj;show β (g j)=some B;rw[hg j B hj];exact hm.anch j B hj;exact hm.vars
theorem Rel.re{s s':St}(hgf:∀k,D k->g (f k)=k)(hg:∀j,j<1000->g j=j)(hr:Rel P w0 O0 N β I s a w)(hok:∀t,s.ok t=none\/s'.env t=.undef)(hok':∀t,s'.ok t=none)
 (hE:∀t,s'.env t=.undef\/((∀ k∈refs (s.env t),D k)/\k9 (jt f (s.env t)) (s'.env t)))
 (hO:∀j o',s'.obj j=some o'->∃k o,s.obj k=some o/\D k/\f k=j/\o'.sz=o.sz/\gx D f o.rows o'.rows):Rel P w0 O0 N (λ j=>β (g j)) I s' a w:=
 Rel.re0 hgf (λ j B hj=>hg j (O0.lt j B hj)) hr hok hok' hE hO
end
section
variable {X:SX}
theorem acR{D:Nat->Prop}(f:Nat->Nat):∀r:List (DV X),(∀ k∈aL r,D k)->nj D f (bF r) (bF (KD f r))
 |[],_=>trivial
 |x::xs,h=>⟨⟨λ k hk=>h k (by rw[iP]at hk;simp[aL,hk]),by rw[zP];exact k9.refl _⟩,acR f xs λk hk=>h k (by simp[aL,hk])⟩
theorem Jc{D:Nat->Prop}(f:Nat->Nat)(o:br X)(h:∀k∈d7 o,D k):(bH (pP f o)).sz=(bH o).sz/\gx D f (bH o).rows (bH (pP f o)).rows:=by
 cases o with
 |cells sz rows=>
  refine⟨rfl,?_⟩;simp only[d7]at h
  induction rows with
  |nil=>trivial
  |cons r rs ih=>
   refine⟨acR f r λk hk=>h k (by simp[hk]),ih λk hk=>h k ?_⟩;simp only[bJ,List.flatten_cons,bK];exact .inr hk
 |ec c l=>
  refine⟨rfl,?_⟩;simp[bH,pP];generalize l.map (CT.row X.toSE c)=rows;have hrow:∀r:List Tree,nj D f (r.map AV.t) (r.map AV.t):=by
   intro r
   induction r with
   |nil=>trivial
   |cons y ys ih=>exact⟨⟨by simp[refs],k9.refl _⟩,ih⟩
  induction rows with
  |nil=>trivial
  |cons r rs ih=>exact⟨hrow r,ih⟩
 |map kc vc l=>
  refine⟨rfl,?_⟩;clear h
  induction l with
  |nil=>trivial
  |cons p ps ih=>exact⟨⟨⟨by simp[zN],by rw[U5];exact k9.refl _⟩,⟨by simp[zN],by rw[U5];exact k9.refl _⟩,trivial⟩,ih⟩
structure Low(s:cH X):Prop where
 le:s.nx<=1000000
 ge:1000<=s.nx
 env:∀t,∀k∈bp (dC s.env t),k<s.nx
 obj:∀k o,fp s.obj k=some o->k<s.nx/\∀j∈d7 o,j<s.nx
theorem Vg{o:br X}{r:List AV}{x:AV}(hr:r∈(bH o).rows)(hx:x∈r):∀j∈refs x,j∈d7 o:=by
 intro j hj;cases o with
 |cells sz rows=>
  simp[bH]at hr;obtain⟨q,hq,rfl⟩:=hr;rw[nU,mem_map]at hx;obtain⟨d,hd,rfl⟩:=hx;simp[d7];refine⟨_,⟨q,hq,rfl⟩,?_⟩;have:∀l:List (DV X),d∈l->j∈aL l:=by
   intro l
   induction l with
   |nil=>intro h;simp at h
   |cons y ys ih=>intro h;rcases aR.1 h with rfl|h
                  simp[aL];left;rwa [iP]at hj;simp[aL];exact .inr (ih h)
  exact this q hd
 |ec c l=>
  simp[bH,aI]at hr;obtain⟨q,_,rfl⟩:=hr;simp at hx;obtain⟨t,_,rfl⟩:=hx;simp[refs]at hj
 |map kc vc l=>
  simp only[bH,mem_map]at hr;obtain⟨q,_,rfl⟩:=hr;simp at hx;rcases hx with rfl|rfl<;>simp[zN]at hj
theorem Low.old{s:cH X}(h:Low s):tU s.st:=by have hle:=h.le;constructor;intro t k hk;have:=h.env t k (by rw[<- iP];exact hk);omega;intro k o hk;simp[cH.st]at hk;obtain⟨o',h1,rfl⟩:=hk;have⟨h2,h3⟩:=h.obj k o' h1;refine⟨by omega,λr hr x hx j hj=>?_⟩;have:=h3 j (Vg hr hx j hj);omega
end
section
variable {X:SX} {A:Type}
def pf(e b:List (Nat×DV X))(t:Nat):DV X:=match lk e t with|some x=>x|none=>dC b t
def xp(o b:List (Nat×Option (br X)))(k:Nat):Option (br X):=match lk o k with|some x=>x|none=>fp b k
def zi(dst:Option Tmp)(dv:DV X)(e:List (Nat×DV X)):List (Nat×DV X):=match dst with|some t=>(t,dv)::e|none=>e
def Vh:DV X->DV X
 |.skip=>.undef
 |x=>x
def Ki(e:List (Nat×DV X)):Operand->Bool
 |.tmp t=>match lk e t with|some .skip=>false|_=>true
 |_=>true
def QV(e b:List (Nat×DV X))(o:Op):Bool:=
 match o with
 |.pick c x y=>Ki e c&&((Ki e x&&Ki e y) || match XP (pf e b) c with|.c .bool t=>bif t then Ki e x else Ki e y|_=>false)
 |o=>o.operands.toList.all (Ki e)
abbrev Gk:=List (Nat×List Nat×List Nat)
section
variable (Γ:FuncId->Option (ca X)) (fz:List Nat) (T:ed) (code:TypeId->Option (CT X.ι)) (ag:Array Oper) (b:cH X)
def yA(k:List (Nat×DV X)->List (Nat×Option (br X))->Gk->Option A):List Nat->List (Nat×DV X)->List (Nat×Option (br X))->Gk->Option A
 |[],e,o,oA=>k e o oA
 |i::r,e,o,oA=>(ag[i]?).bind λop=>match op.guard with
  |none=>bif QV e b.env op.op then E7 Γ fz T code i op.op (XP (pf e b.env)) (xp o b.obj) λdv upd rd wr=>yA k r (zi op.dst (Vh dv) e) (upd++o) ((i,rd,wr)::oA)else none
  |some (j,p)=>((ag[j]?).bind (·.dst)).bind λt=>match pf e b.env t with
   |.c .bool v=>
    bif v then(bif p then(bif QV ((t,.c .bool true)::e) b.env op.op then E7 Γ fz T code i op.op (XP (pf ((t,.c .bool true)::e) b.env)) (xp o b.obj) λdv upd rd wr=>yA k r (zi op.dst (Vh dv) ((t,.c .bool true)::e)) (upd++o) ((i,rd,wr)::oA)else none)
     else yA k r (zi op.dst .skip ((t,.c .bool true)::e)) o ((i,[],[])::oA))
    else(bif p then yA k r (zi op.dst .skip ((t,.c .bool false)::e)) o ((i,[],[])::oA)
     else(bif QV ((t,.c .bool false)::e) b.env op.op then E7 Γ fz T code i op.op (XP (pf ((t,.c .bool false)::e) b.env)) (xp o b.obj) λdv upd rd wr=>yA k r (zi op.dst (Vh dv) ((t,.c .bool false)::e)) (upd++o) ((i,rd,wr)::oA)else none))
   |.skip=>bif(lk e t).isSome then yA k r (zi op.dst .skip e) o ((i,[],[])::oA)else none
   |_=>none
end
def iQ(b:cH X)(e:List (Nat×DV X))(o:List (Nat×Option (br X))):St:=⟨λ t=>den (pf e b.env t),λk=>(xp o b.obj k).map bH,λt=>match lk e t with|some .skip=>some false|_=>none⟩
theorem aip(x:DV X):den (Vh x)=den x:=by cases x<;>rfl
theorem ajU(b:cH X)(e:List (Nat×DV X))(o:List (Nat×Option (br X)))(dst:Option Tmp)(dv:DV X)(upd:List (Nat×Option (br X)))(obs:List Prop):
 (iQ b e o).app dst (⟨den dv,jm upd,obs⟩,none)=iQ b (zi dst (Vh dv) e) (upd++o):=by
 simp[iQ,St.app];refine⟨?_,?_,?_⟩;funext t;cases dst with
 |none=>simp[Ar,zi]
 |some d=>
  simp[Ar,zi,pf,lk];by_cases h:d=t<;>simp[h,aip]
 funext j
 induction upd with
 |nil=>rfl
 |cons p u ih=>
  obtain⟨q,x⟩:=p;simp[jm,bV,xp,lk]at ih ⊢;by_cases h:j=q;simp[h];rw[aV h,aV (Ne.symm h)];exact ih
 funext t;cases dst with
 |none=>simp[Ar,zi]
 |some d=>
  simp[Ar,zi,lk];by_cases h:d=t;simp[h];cases dv<;>rfl;simp[aV h]
theorem aiq(b:cH X)(e:List (Nat×DV X))(o:List (Nat×Option (br X)))(dst:Option Tmp):(iQ b e o).app dst (⟨.undef,[],[]⟩,some false)=iQ b (zi dst .skip e) o:=by
 simp[iQ,St.app];refine⟨?_,rfl,?_⟩;funext t;cases dst with
 |none=>simp[Ar,zi]
 |some d=>
  simp[Ar,zi,pf,lk];by_cases h:d=t<;>simp[h,den]
 funext t;cases dst with
 |none=>simp[Ar,zi]
 |some d=>
  simp[Ar,zi,lk];by_cases h:d=t<;>simp[h]
theorem acS(b:cH X)(e:List (Nat×DV X))(o:List (Nat×Option (br X))):ma (iQ b e o).env=λx=>den (XP (pf e b.env) x):=by funext x;exact(UE _ x).symm
theorem Ca{b:cH X}{e:List (Nat×DV X)}{o:List (Nat×Option (br X))}{x:Operand}(h:Ki e x=true):wP (iQ b e o).ok x=[]:=by
 cases x with
 |tmp t=>
  simp[Ki]at h;simp[wP,iQ];cases ht:lk e t with
  |none=>rfl
  |some d=>rw[ht]at h;cases d<;>first|rfl|cases h
 |_=>rfl
theorem air{b:cH X}{e:List (Nat×DV X)}{o:List (Nat×Option (br X))}{P:Program}{T:ed}{i:Nat}{op:Oper}{co:i7}{get:Nat->Option aM}{out:Out}(hok:QV e b.env op.op=true)
 (h:jR P T i op co (ma (iQ b e o).env) get=some out):∀p∈needs (iQ b e o).env (iQ b e o).ok op.op,p:=by
 obtain⟨dst,op,ty,am,after,guard⟩:=op;unfold needs;split
 ·rename_i c x y heq;simp only at heq;subst heq;simp only[QV,bg,Bool.or_eq_true]at hok;obtain⟨hc,hxy⟩:=hok;have hb:∃t,ma (iQ b e o).env c=.t (.sc (.bool t)):=by
   have h0:(∃ n,co=.ext n)\/(∃ ab fr q,co=.wc ab fr q)\/ql T i ⟨dst,.pick c x y,ty,am,after,guard⟩ co (ma (iQ b e o).env) get=some out:=(by cases co<;>first|exact .inl ⟨_,rfl⟩|exact .inr (.inl ⟨_,_,_,rfl⟩)|exact .inr (.inr h));rcases h0 with ⟨n,rfl⟩|⟨ab,fr,q,rfl⟩|h0
   ·simp[jR,sP,MT,sO]at h
   ·simp[jR,Gv,aeU]at h
   ·simp only[ql]at h0;split at h0
    ·rename_i t ht;exact⟨t,ht⟩
    ·cases h0
  obtain⟨t,ht⟩:=hb;rw[ht];simp only[Ca hc,fP];rcases hxy with ⟨hx,hy⟩|hxy
  ·simp[Ca hx,Ca hy]
  ·split at hxy
   ·rename_i t' ht';have e1:ma (iQ b e o).env c=.t (.sc (.bool t')):=(by rw[acS];simp only[ht'];rfl);rw[e1]at ht;injection ht with ht;injection ht with ht;injection ht with ht;subst ht;cases t' with
    |true=>
     simp only[aj]at hxy;simp[Ca hxy]
    |false=>
     simp only[ax]at hxy;simp[Ca hxy]
   ·cases hxy
 ·rename_i o' hne;intro p hp;have hall:∀x∈op.operands.toList,Ki e x=true:=by have:QV e b.env op=op.operands.toList.all (Ki e):=(by cases op<;>first|rfl|exact(hne _ _ _ rfl).elim);rw[this]at hok;exact all_eq_true.1 hok
  simp only[mem_flatMap]at hp;obtain⟨x,hx,hp⟩:=hp;rw[Ca (hall x hx)]at hp;simp at hp
theorem ajV{a b:List Prop}(h:∀p∈a,p)(h':kL b):kL (a++b):=qW _ (iB h (LD b h'))
variable {Γ:FuncId->Option (ca X)} {fz:List Nat} {T:ed} {code:TypeId->Option (CT X.ι)} {ag:Array Oper} {b:cH X} {P:Program}
theorem ais(hΓ:pL P Γ){i:Nat}{op:Oper}{e:List (Nat×DV X)}{o:List (Nat×Option (br X))}{k:KK X A}{r:A}(hop:ag[i]? =some op)(hw:want ag op (iQ b e o).env (iQ b e o).ok=some true)(hok:QV e b.env op.op=true)
 (h:E7 Γ fz T code i op.op (XP (pf e b.env)) (xp o b.obj) k=some r):
 ∃(a:np)(dv:DV X)(upd:List (Nat×Option (br X))),a.sym=false/\k dv upd a.rd a.wr=some r/\∀(cQ:Nat->np)(K:St->Prop),cQ i=a->K (iQ b (zi op.dst (Vh dv) e) (upd++o))->xT P T ag cQ i K (iQ b e o):=by
 have⟨co,rd,wr,dv,upd,out,h1,h2,h3,h4,h5,h6⟩:=afr hΓ h;refine⟨⟨co,rd,wr,false⟩,dv,upd,rfl,h6,λcQ K ha hK=>?_⟩;have h1':jR P T i op co (ma (iQ b e o).env) (dK rd (iQ b e o).obj)=some out:=by rw[acS];exact h1
 refine⟨op,(⟨out.v,out.upd,needs (iQ b e o).env (iQ b e o).ok op.op++out.obs⟩,none),hop,?_,?_,?_⟩;simp only[opAt,hop,ai,hw,ha,h1'];rw[aX];rw[all_eq_true];intro p hp;rw[h4]at hp;simp only[jm,mem_map]at hp;obtain⟨q,hq,rfl⟩:=hp;rcases h5 q hq with h|h;simp[h,Un.2 (.inl rfl:ip (cE i) (cE i))];simp[h];exact ajV (air hok h1') h2;rw[h3,h4,ajU];exact hK
theorem step_skip{i:Nat}{op:Oper}{e:List (Nat×DV X)}{o:List (Nat×Option (br X))}(hop:ag[i]? =some op)(hw:want ag op (iQ b e o).env (iQ b e o).ok=some false)
 (cQ:Nat->np) (K:St->Prop) (ha:cQ i=⟨.none,[],[],false⟩) (hK:K (iQ b (zi op.dst .skip e) o)):xT P T ag cQ i K (iQ b e o):=by refine⟨op,(⟨.undef,[],[]⟩,some false),hop,?_,trivial,?_⟩;simp[opAt,hop,hw,ha];rw[aiq];exact hK
theorem afs{e:List (Nat×DV X)}{o:List (Nat×Option (br X))}{t:Nat}{v:Bool}(h:pf e b.env t=.c .bool v):iQ b ((t,.c .bool v)::e) o=iQ b e o:=by
 simp[iQ];refine⟨?_,?_⟩;funext s;by_cases hs:t=s;subst hs;rw[h];simp[pf,lk];simp[pf,lk,hs];funext s;by_cases hs:t=s;subst hs;simp[lk];unfold pf at h;cases ht:lk e t with
 |none=>rfl
 |some d=>rw[ht]at h;simp at h;subst h;rfl
 simp[lk,hs]
def Jz(tr:List (Nat×np)):Gk:=tr.map λp=>(p.1,p.2.rd,p.2.wr)
def QW(ag:Array Oper)(t:Nat):Prop:=∃(j:Nat)(op:Oper),ag[j]? =some op/\op.dst=some t
theorem acT{dst:Option Tmp}{dv:DV X}{e:List (Nat×DV X)}{p:Nat×DV X}(h:p∈zi dst dv e):p∈e\/dst=some p.1:=by
 cases dst with
 |none=>exact .inl h
 |some t=>
  simp[zi]at h;rcases h with rfl|h;exact .inr rfl;exact .inl h
theorem DK(hΓ:pL P Γ){k:List (Nat×DV X)->List (Nat×Option (br X))->Gk->Option A}{r:A}:∀(l:List Nat)(e:List (Nat×DV X))(o:List (Nat×Option (br X)))(oA:Gk),yA Γ fz T code ag b k l e o oA=some r->
 ∃(tr:List (Nat×np))(e':List (Nat×DV X))(o':List (Nat×Option (br X))),tr.map (·.1)=l/\k e' o' ((Jz tr).reverse++oA)=some r/\(∀ p∈e',p∈e\/QW ag p.1)/\
  ∀cQ:Nat->np,(∀ p∈tr,cQ p.1=p.2)->Uv P T ag cQ (λ σ=>σ=iQ b e' o') l (iQ b e o)
 |[],e,o,oA,h=>⟨[],e,o,rfl,h,λ_ hp=>.inl hp,λ_ _=>rfl⟩
 |i::l,e,o,oA,h=>by
  simp[yA]at h;have⟨op,hop,h⟩:=ah.1 h
  have exec:∀e:List (Nat×DV X),want ag op (iQ b e o).env (iQ b e o).ok=some true->
   (bif QV e b.env op.op then E7 Γ fz T code i op.op (XP (pf e b.env)) (xp o b.obj) λdv upd rd wr=>yA Γ fz T code ag b k l (zi op.dst (Vh dv) e) (upd++o) ((i,rd,wr)::oA)else none)=some r->
   ∃(tr:List (Nat×np)) (e':List (Nat×DV X)) (o':List (Nat×Option (br X))),tr.map (·.1)=i::l/\k e' o' ((Jz tr).reverse++oA)=some r/\(∀ p∈e',p∈e\/QW ag p.1)/\
    ∀cQ:Nat->np,(∀ p∈tr,cQ p.1=p.2)->Uv P T ag cQ (λ σ=>σ=iQ b e' o') (i::l) (iQ b e o):=by intro e hw h;have⟨hok,h⟩:=dR h;have⟨a,dv,upd,_,h1,h2⟩:=ais hΓ hop hw hok h;obtain⟨tr,e',o',g1,g2,g4,g3⟩:=DK hΓ l _ _ _ h1;refine⟨(i,a)::tr,e',o',by simp[g1],?_,λp hp=>(g4 p hp).elim (λ hp=>(acT hp).elim .inl λhd=>.inr ⟨i,op,hop,hd⟩) .inr,λcQ ha=>?_⟩;simpa[Jz]using g2;exact h2 cQ _ (ha (i,a) (by simp)) (g3 cQ λp hp=>ha p (by simp[hp]))
  have skip:∀e:List (Nat×DV X),want ag op (iQ b e o).env (iQ b e o).ok=some false->yA Γ fz T code ag b k l (zi op.dst .skip e) o ((i,[],[])::oA)=some r->
   ∃(tr:List (Nat×np)) (e':List (Nat×DV X)) (o':List (Nat×Option (br X))),tr.map (·.1)=i::l/\k e' o' ((Jz tr).reverse++oA)=some r/\(∀ p∈e',p∈e\/QW ag p.1)/\
    ∀cQ:Nat->np,(∀ p∈tr,cQ p.1=p.2)->Uv P T ag cQ (λ σ=>σ=iQ b e' o') (i::l) (iQ b e o):=by intro e hw h;obtain⟨tr,e',o',g1,g2,g4,g3⟩:=DK hΓ l _ _ _ h;refine⟨(i,⟨.none,[],[],false⟩)::tr,e',o',by simp[g1],?_,λp hp=>(g4 p hp).elim (λ hp=>(acT hp).elim .inl λhd=>.inr ⟨i,op,hop,hd⟩) .inr,λcQ ha=>?_⟩;simpa[Jz]using g2;exact step_skip hop hw cQ _ (ha (i,_) (by simp)) (g3 cQ λp hp=>ha p (by simp[hp]))
  split at h;rename_i hg;exact exec e (by simp[want,hg]) h;rename_i j p hg;rw[ah]at h;obtain⟨t,ht,h⟩:=h;split at h;rename_i v hv;have hw:∀e:List (Nat×DV X),pf e b.env t=.c .bool v->want ag op (iQ b e o).env (iQ b e o).ok=some (v==p):=by
   intro e he;simp[want,hg,ht];have h0:(iQ b e o).ok t=none:=by
    simp[iQ];unfold pf at he;cases hq:lk e t with
    |none=>rfl
    |some d=>rw[hq]at he;simp at he;subst he;rfl
   have h1:(iQ b e o).env t=.t (.sc (.bool v)):=(by simp[iQ,he];rfl);rw[h0,h1]
  have hk:=afs (b:=b) (o:=o) hv;have hv':pf ((t,.c .bool v)::e) b.env t=.c .bool v:=by simp[pf,lk]
  have htd:QW ag t:=by have⟨oj,h1,h2⟩:=ah.1 ht;exact⟨j,oj,h1,h2⟩
  have wide:(∃ (tr:List (Nat×np)) (e':List (Nat×DV X)) (o':List (Nat×Option (br X))),tr.map (·.1)=i::l/\k e' o' ((Jz tr).reverse++oA)=some r/\(∀ p∈e',p∈((t,.c .bool v)::e:List (Nat×DV X))\/QW ag p.1)/\
   ∀cQ:Nat->np,(∀ p∈tr,cQ p.1=p.2)->Uv P T ag cQ (λ σ=>σ=iQ b e' o') (i::l) (iQ b ((t,.c .bool v)::e) o))->
   ∃(tr:List (Nat×np))(e':List (Nat×DV X))(o':List (Nat×Option (br X))),tr.map (·.1)=i::l/\k e' o' ((Jz tr).reverse++oA)=some r/\(∀ p∈e',p∈e\/QW ag p.1)/\
   ∀cQ:Nat->np,(∀ p∈tr,cQ p.1=p.2)->Uv P T ag cQ (λ σ=>σ=iQ b e' o') (i::l) (iQ b e o):=by rintro⟨tr,e',o',g1,g2,g4,g3⟩;refine⟨tr,e',o',g1,g2,λq hq=>?_,hk ▸ g3⟩;rcases g4 q hq with h|h;rcases aR.1 h with rfl|h;exact .inr htd;exact .inl h;exact .inr h
  apply wide;cases v with
  |true=>
   simp at h;cases p with
   |true=>exact exec _ (hw _ hv') h
   |false=>exact skip _ (hw _ hv') h
  |false=>
   simp at h;cases p with
   |true=>exact skip _ (hw _ hv') h
   |false=>exact exec _ (hw _ hv') h
  rename_i hv;have⟨hsome,h⟩:=dR h;refine skip e ?_ h;simp[want,hg,ht];have h1:(iQ b e o).env t=.undef:=by simp[iQ,hv];rfl
  cases hq:lk e t with
  |some d=>
   have h0:(iQ b e o).ok t=some false:=(by unfold pf at hv;rw[hq]at hv;simp at hv;subst hv;simp[iQ,hq]);rw[h0,h1]
  |none=>rw[hq]at hsome;cases hsome
  cases h
end
section
variable {X:SX} {A:Type}
def fN(nx k:Nat):Nat:=if k<1000000 then k else nx+(k-1000000)
def gN(nx j:Nat):Nat:=if j<nx then j else 1000000+(j-nx)
def HM(nx sz k:Nat):Bool:=decide (k<nx) || (decide (1000000<=k)&&decide (k<1000000+sz))
def okE(nx sz:Nat)(e:List (Nat×DV X)):Bool:=e.all λp=>(bp p.2).all (HM nx sz)
def okO(nx sz:Nat)(o:List (Nat×Option (br X))):Bool:=o.all λp=>HM nx sz p.1&&match p.2 with|some x=>(d7 x).all (HM nx sz)|none=>true
def Q4(oA:Gk):Nat->np:=λi=>match lk oA i with|some p=>⟨.none,p.1,p.2,false⟩|none=>⟨.none,[],[],false⟩
def G2(tr:List (Nat×np)):Nat->np:=λi=>match lk tr i with|some a=>a|none=>⟨.none,[],[],false⟩
def M3:DV X->DV X
 |.skip=>.undef
 |x=>x
theorem ajX(x:DV X):den (M3 x)=den x:=by cases x<;>rfl
theorem Ze(x:DV X):bp (M3 x)=bp x:=by cases x<;>rfl
def fin(s:cH X)(e:List (Nat×DV X))(o:List (Nat×Option (br X)))(sz:Nat):cH X:=
 ⟨e.map (λ p=>(p.1,M3 (ry (fN s.nx) p.2)))++s.env,o.map (λ p=>(fN s.nx p.1,p.2.map (pP (fN s.nx))))++s.obj,s.nx+sz,o.map (λ p=>fN s.nx p.1)++s.log⟩
def ajY(N:Nat)(ag:Array Oper)(d:Bool)(nx:Nat)(e:List (Nat×DV X))(o:List (Nat×Option (br X)))(oA:Gk):Bool:=
 S6 N ag&&(!d || SR ag (Q4 oA))&&okE nx (64*ag.size) e&&okO nx (64*ag.size) o&&decide (nx+64*ag.size<=1000000)
def aft(Γ:FuncId->Option (ca X))(fz:List Nat)(T:ed)(code:TypeId->Option (CT X.ι))(N:Nat)(ag:Array Oper)(d:Bool)(s:cH X)(k:cH X->Option A):Option A:=
 yA Γ fz T code ag s (λ e o oA=>bif ajY N ag d s.nx e o oA then k (fin s e o (64*ag.size))else none) (List.range ag.size) [] [] []
theorem acU{ag:Array Oper}{cQ uv:Nat->np}(h:∀i,(cQ i).rd=(uv i).rd/\(cQ i).wr=(uv i).wr):SR ag cQ=SR ag uv:=by
 have h1:wS cQ=wS uv:=by funext i j;simp[wS,(h i).1,(h i).2,(h j).1,(h j).2]
 have h2:∀md,OA md ag cQ=OA md ag uv:=by intro md;funext listed i;simp[OA,h1]
 have h3:∀(md:Region.Mode)(n k:Nat)(listed:Array Bool),lexFrom' md ag cQ n k listed=lexFrom' md ag uv n k listed:=by
  intro md n
  induction n with
  |zero=>intro k listed;rfl
  |succ n ih=>intro k listed;simp[lexFrom',h2,ih]
 exact h3 _ _ _ _
theorem Cb{α:Type}:∀(a b:List (Nat×α))(k:Nat),lk (a++b) k=match lk a k with|some x=>some x|none=>lk b k
 |[],_,_=>rfl
 |(j,x)::a,b,k=>by simp[lk];by_cases h:j=k;simp[h];simp[aV h,Cb a b k]
theorem ahc{α:Type}:∀{l:List (Nat×α)}{k:Nat},lk l k=none->∀x,(k,x)∉l
 |(j,y)::r,k,h,x=>by simp[lk]at h;split at h;cases h;rename_i hn;simp only[aR,Prod.mk.injEq,not_or];exact⟨λ e=>hn e.1.symm,ahc h x⟩
 |[],_,_,_=>by simp
theorem am4{tr:List (Nat×np)}(hn:(tr.map (·.1)).Nodup)(i:Nat):(Q4 (Jz tr).reverse i).rd=(G2 tr i).rd/\(Q4 (Jz tr).reverse i).wr=(G2 tr i).wr:=by
 have hn':((Jz tr).reverse.map (·.1)).Nodup:=by
  rw[List.map_reverse];have h1:((Jz tr).map (·.1)).Nodup:=by simpa[Jz,Function.comp_def]using hn
  exact List.pairwise_reverse.2 (h1.imp λh=>Ne.symm h)
 unfold Q4 G2;cases h:lk tr i with
 |none=>
  cases h':lk (Jz tr).reverse i with
  |none=>exact⟨rfl,rfl⟩
  |some p=>
   have:=qp h';simp only[Jz,List.mem_reverse,mem_map]at this;obtain⟨q,hq,he⟩:=this;injection he with e1 e2;subst e1;exact(ahc h q.2 hq).elim
 |some a=>
  have h1:=qp h;have h2:(i,a.rd,a.wr)∈(Jz tr).reverse:=by simp only[Jz,List.mem_reverse,mem_map];exact⟨(i,a),h1,rfl⟩
  rw[uP hn' h2];exact⟨rfl,rfl⟩
theorem ajZ{tr:List (Nat×np)}(hn:(tr.map (·.1)).Nodup):∀p∈tr,G2 tr p.1=p.2:=by rintro⟨i,a⟩ hp;rw[G2,uP hn hp]
theorem Vi{nx sz k:Nat}(h:HM nx sz k=true):k<nx\/(1000000<=k/\k<1000000+sz):=by simpa[HM]using h
theorem gfN{nx sz k:Nat}(hle:nx+sz<=1000000)(h:k<nx\/(1000000<=k/\k<1000000+sz)):gN nx (fN nx k)=k:=by grind [gN,fN]
theorem Zf{nx sz k:Nat}(hle:nx+sz<=1000000)(h:k<nx\/(1000000<=k/\k<1000000+sz)):fN nx k<nx+sz:=by grind [fN]
theorem R0{nx k:Nat}(hle:nx<=1000000)(h:k<nx):fN nx k=k:=aX (by omega)
mutual
theorem Vj{f:Nat->Nat}:∀x:DV X,(∀ k∈bp x,f k=k)->ry f x=x
 |.own k _ _,h|.ptr k _ _,h|.qt k _ _,h|.mp k,h|.oz k _,h|.tx k _ _ _ _,h=>by simp[ry,h k (by simp[bp])]
 |.agg cs,h|.eV cs,h=>by simp[ry,DL cs (by simpa[bp]using h)]
 |.fn F first caps,h=>by simp[ry,DL first (λ k hk=>h k (by simp[bp,hk])),DL caps (λ k hk=>h k (by simp[bp,hk]))]
 |.c _ _,_|.rp _ _ _,_|.xi _ _ _ _ _,_|.du _ _ _,_|.raw _,_|.nil,_|.ub,_|.skip,_|.undef,_=>rfl
theorem DL{f:Nat->Nat}:∀l:List (DV X),(∀ k∈aL l,f k=k)->KD f l=l
 |[],_=>rfl
 |x::xs,h=>by simp[KD,Vj x (λ k hk=>h k (by simp[aL,hk])),DL xs (λ k hk=>h k (by simp[aL,hk]))]
end
mutual
theorem Vk(f:Nat->Nat):∀x:DV X,bp (ry f x)=(bp x).map f
 |.own _ _ _|.ptr _ _ _|.qt _ _ _|.mp _|.oz _ _|.tx _ _ _ _ _=>rfl
 |.agg cs|.eV cs=>by simp[ry,bp,Cc f cs]
 |.fn F first caps=>by simp[ry,bp,Cc f first,Cc f caps]
 |.c _ _|.rp _ _ _|.xi _ _ _ _ _|.du _ _ _|.raw _|.nil|.ub|.skip|.undef=>rfl
theorem Cc(f:Nat->Nat):∀l:List (DV X),aL (KD f l)=(aL l).map f
 |[]=>rfl
 |x::xs=>by simp[KD,aL,Vk f x,Cc f xs]
end
theorem acV(f:Nat->Nat)(o:br X):d7 (pP f o)=(d7 o).map f:=by
 cases o with
 |cells sz rows=>simp[pP,d7];congr 1;exact map_congr_left λr _=>Cc f r
 |ec c l|map kc vc l=>rfl
theorem aj0{α β:Type}(f:α->β):∀(l:List (Nat×α))(k:Nat),lk (l.map λp=>(p.1,f p.2)) k=(lk l k).map f
 |[],_=>rfl
 |(j,x)::r,k=>by simp[lk];by_cases h:j=k;simp[h];simp[aV h,aj0 f r k]
theorem ahe{α β:Type}(f:α->β)(g:Nat->Nat):∀(l:List (Nat×α))(j:Nat),(∀ p∈l,∀q∈l,g p.1=g q.1->p.1=q.1)->
 (∀ y,lk (l.map λp=>(g p.1,f p.2)) j=some y->∃k x,lk l k=some x/\g k=j/\y=f x)/\(lk (l.map λp=>(g p.1,f p.2)) j=none->∀p∈l,g p.1≠j)
 |[],_,_=>⟨λ _ h=>by simp[lk]at h,λ_=>by simp⟩
 |(k0,x0)::r,j,hi=>by
  obtain⟨i1,i2⟩:=ahe f g r j (λ p hp q hq=>hi p (by simp[hp]) q (by simp[hq]));simp[lk];by_cases h:g k0=j;rw[aX h];exact⟨λ y hy=>by injection hy with hy;exact⟨k0,x0,by simp,h,hy.symm⟩,λhn=>by cases hn⟩
  grind
structure Ext(ds:Nat->Prop)(s s':cH X):Prop where
 env:∀t,¬ds t->dC s'.env t=dC s.env t\/dC s'.env t=.undef
 obj:∃d,s'.log=d++s.log/\∀k,k<s.nx->k∉d->fp s'.obj k=fp s.obj k\/fp s'.obj k=none
 nx:s.nx<=s'.nx
variable {Γ:FuncId->Option (ca X)} {fz:List Nat} {T:ed} {code:TypeId->Option (CT X.ι)} {P:Program} {N:Nat}
theorem Ma(s:cH X)(e:List (Nat×DV X))(o:List (Nat×Option (br X)))(sz t:Nat):dC (fin s e o sz).env t=match lk e t with|some d=>M3 (ry (fN s.nx) d)|none=>dC s.env t:=by simp[fin,dC,Cb,aj0 (λ d=>M3 (ry (fN s.nx) d))];cases lk e t<;>rfl
theorem aaM(hT:fq P T)(hm:P.follows .mixedOrders=true)(hΓ:pL P Γ){id:Nat}{ag:Array Oper}{d:Bool}{s:cH X}{k:cH X->Option A}{r:A}(hl:Low s)(h:aft Γ fz T code N ag d s k=some r):
 ∃s':cH X,k s'=some r/\Low s'/\Ext (QW ag) s s'/\Ev P N (.region id ag d) (λ e σ=>e=.normal/\σ=s'.st) s.st:=by
 unfold aft at h;obtain⟨tr,e,o,h1,h2,h3,h4⟩:=DK hΓ _ _ _ _ h;have⟨h5,h6⟩:=dR h2;simp only[ajY,bg,append_nil]at h5;obtain⟨⟨⟨⟨hd,hlex⟩,hE⟩,hO⟩,hnx⟩:=h5;have hle:s.nx+64*ag.size<=1000000:=of_decide_eq_true hnx;have IT:(tr.map (·.1)).Nodup:=by rw[h1];exact List.nodup_range
 have hEn:∀t x,lk e t=some x->∀j∈bp x,j<s.nx\/(1000000<=j/\j<1000000+64*ag.size):=by intro t x hx j hj;have:=all_eq_true.1 hE _ (qp hx);exact Vi (all_eq_true.1 this j hj)
 have Kx:∀p∈o,(p.1<s.nx\/(1000000<=p.1/\p.1<1000000+64*ag.size))/\∀x,p.2=some x->∀j∈d7 x,j<s.nx\/(1000000<=j/\j<1000000+64*ag.size):=by intro p hp;have:=all_eq_true.1 hO _ hp;simp at this;refine⟨Vi this.1,λx hx j hj=>?_⟩;have h2:=this.2;rw[hx]at h2;exact Vi (all_eq_true.1 h2 j hj)
 have hinj:∀p∈o,∀q∈o,fN s.nx p.1=fN s.nx q.1->p.1=q.1:=by
  intro p hp q hq he;have:=congrArg (gN s.nx) he
  rwa [gfN hle (Kx p hp).1,gfN hle (Kx q hq).1]at this
 have xt:∀j,(∃ q x,lk o q=some x/\fN s.nx q=j/\fp (fin s e o (64*ag.size)).obj j=x.map (pP (fN s.nx)))\/(fp (fin s e o (64*ag.size)).obj j=fp s.obj j/\∀p∈o,fN s.nx p.1≠j):=by
  intro j;obtain⟨i1,i2⟩:=ahe (λ x:Option (br X)=>x.map (pP (fN s.nx))) (fN s.nx) o j hinj;simp only[fin,fp,Cb];cases hj:lk (o.map λp=>(fN s.nx p.1,p.2.map (pP (fN s.nx)))) j with
  |none=>exact .inr ⟨rfl,i2 hj⟩
  |some y=>
   have⟨q,x,g1,g2,g3⟩:=i1 y hj;exact .inl ⟨q,x,g1,g2,by rw[g3];rfl⟩
 refine⟨fin s e o (64*ag.size),h6,?_,?_,?_⟩;constructor;exact hle;have:=hl.ge;show 1000<=s.nx+64*ag.size;omega;intro t j hj;rw[Ma]at hj;cases ht:lk e t with
 |none=>rw[ht]at hj;have:=hl.env t j hj;show j<s.nx+64*ag.size;omega
 |some x=>
  rw[ht,Ze,Vk]at hj;obtain⟨q,hq,rfl⟩:=mem_map.1 hj;exact Zf hle (hEn t x ht q hq)
 intro j x hx;rcases xt j with ⟨q,y,g1,rfl,g3⟩|⟨g1,_⟩;rw[g3]at hx;rw[iW]at hx;obtain⟨z,rfl,rfl⟩:=hx;obtain⟨k1,k2⟩:=Kx _ (qp g1);refine⟨Zf hle k1,λi hi=>?_⟩;rw[acV]at hi;obtain⟨i',hi',rfl⟩:=mem_map.1 hi;exact Zf hle (k2 z rfl i' hi');rw[g1]at hx;have⟨k1,k2⟩:=hl.obj j x hx;refine⟨show j<s.nx+64*ag.size by omega,λi hi=>?_⟩;have:=k2 i hi;show i<s.nx+64*ag.size;omega;refine⟨λ t ht=>.inl ?_,⟨o.map (λ p=>fN s.nx p.1),rfl,λj hj hn=>?_⟩,by show s.nx<=s.nx+64*ag.size;omega⟩;rw[Ma];cases hx:lk e t with
 |none=>rfl
 |some x=>
  rcases h3 _ (qp hx)with h|h;simp at h;exact(ht h).elim
 rcases xt j with ⟨q,y,g1,g2,g3⟩|⟨g1,_⟩;exact(hn (mem_map.2 ⟨(q,y),qp g1,g2⟩)).elim;exact .inl g1;have hst:iQ s [] []=s.st:=rfl;have hex:=h4 (G2 tr) (ajZ IT);rw[hst]at hex;intro _ w0 O0 β I a w hr ho;have done:∀(e':Exit)(a':Act)(w':World),(∃ β' I' σ1,Rel P w0 O0 N β' I' σ1 a' w'/\e'=.normal/\σ1=iQ s e o)->∃ β' I' σ1,Rel P w0 O0 N β' I' σ1 a' w'/\tU σ1/\e'=.normal/\σ1=(fin s e o (64*ag.size)).st:=by
  rintro e' a' w' ⟨β',I',σ1,g1,rfl,rfl⟩;refine⟨_,I',(fin s e o (64*ag.size)).st,Rel.re (f:=fN s.nx) (g:=gN s.nx) (D:=λk=>k<s.nx\/(1000000<=k/\k<1000000+64*ag.size)) (λ k hk=>gfN hle hk) (λ j hj=>by have:=hl.ge;unfold gN;rw[aX (by omega)]) g1 (λ t=>?_) (λ _=>rfl) (λ t=>.inr ?_) (λ j o' hj=>?_),?_,rfl,rfl⟩;show(match lk e t with|some .skip=>some false|_=>none)=none\/den (dC (fin s e o (64*ag.size)).env t)=.undef;rw[Ma];cases ht:lk e t with
  |none=>exact .inl rfl
  |some d=>cases d<;>first|exact .inl rfl|exact .inr rfl
  show(∀ k∈refs (den (pf e s.env t)),_)/\k9 (jt (fN s.nx) (den (pf e s.env t))) (den (dC (fin s e o (64*ag.size)).env t));rw[Ma,iP,<- zP];unfold pf;cases ht:lk e t with
  |none=>
   refine⟨λ q hq=>.inl (hl.env t q hq),?_⟩;rw[Vj _ (λ q hq=>R0 (by omega) (hl.env t q hq))];exact k9.refl _
  |some x=>exact⟨hEn t x ht,by simp[ajX];exact k9.refl _⟩
  simp[cH.st]at hj;obtain⟨x,hx,rfl⟩:=hj;rcases xt j with ⟨q,y,i1,rfl,i3⟩|⟨i1,i2⟩;rw[i3,iW]at hx;obtain⟨z,rfl,rfl⟩:=hx;obtain⟨k1,k2⟩:=Kx _ (qp i1);obtain⟨r1,r2⟩:=Jc (D:=λk=>k<s.nx\/(1000000<=k/\k<1000000+64*ag.size)) (fN s.nx) z (λ i hi=>k2 z rfl i hi);refine⟨q,bH z,?_,k1,rfl,r1,r2⟩;simp[iQ,xp,i1];rw[i1]at hx;have⟨k1,k2⟩:=hl.obj j x hx;have hid:pP (fN s.nx) x=x:=by
   cases x with
   |ec c l|map kc vc l=>rfl
   |cells sz rows=>
    simp[pP];congr 1;have:∀q∈rows,KD (fN s.nx) q=q:=λq hq=>DL q λi hi=>R0 (by omega) (k2 i (by simp[d7];exact⟨_,⟨q,hq,rfl⟩,hi⟩));rw[map_congr_left this];simp
  obtain⟨r1,r2⟩:=Jc (D:=λk=>k<s.nx\/(1000000<=k/\k<1000000+64*ag.size)) (fN s.nx) x (λ i hi=>.inl (k2 i hi));rw[hid]at r1 r2;refine⟨j,bH x,?_,.inl k1,R0 (by omega) k1,r1,r2⟩;simp[iQ,xp];cases hlo:lk o j with
  |none=>simp[hx]
  |some y=>exact(i2 _ (qp hlo) (R0 (by omega) k1)).elim
  have hL:Low (fin s e o (64*ag.size)):=by
   constructor;exact hle;have:=hl.ge;show 1000<=s.nx+64*ag.size;omega;intro t j hj;rw[Ma]at hj;cases ht:lk e t with
   |none=>rw[ht]at hj;have:=hl.env t j hj;show j<s.nx+64*ag.size;omega
   |some x=>
    rw[ht,Ze,Vk]at hj;obtain⟨q,hq,rfl⟩:=mem_map.1 hj;exact Zf hle (hEn t x ht q hq)
   intro j x hx;rcases xt j with ⟨q,y,g1,rfl,g3⟩|⟨g1,_⟩;rw[g3]at hx;rw[iW]at hx;obtain⟨z,rfl,rfl⟩:=hx;obtain⟨k1,k2⟩:=Kx _ (qp g1);refine⟨Zf hle k1,λi hi=>?_⟩;rw[acV]at hi;obtain⟨i',hi',rfl⟩:=mem_map.1 hi;exact Zf hle (k2 z rfl i' hi');rw[g1]at hx;have⟨k1,k2⟩:=hl.obj j x hx;refine⟨show j<s.nx+64*ag.size by omega,λi hi=>?_⟩;have:=k2 i hi;show i<s.nx+64*ag.size;omega
  exact hL.old
 cases d with
 |false=>exact wpIn_mono (ah3 hT hd ho hex hr) done
 |true=>
  refine wpIn_mono (Ux hT hm hd ?_ ho hex hr) done;rw[<- acU (am4 IT)];simpa using hlex
end
end Go.Gb
namespace Go.Gb
open Go.RowKit
structure Sh(ι:Type) where
 slots:List (Nat×Pt ι)
 cy:List (Nat×OP ι)
 keep:List Nat
 cV:List Nat
 nx:Nat
 BW:List (Nat×CT ι)
def Sh.vars{ι:Type}(s:Sh ι):List (CT ι):=gO s.slots++da s.cy
section
variable {X:SX}
def nz(z:Bool)(k:Nat):DV X:=bif z then .oz k 0 else .own k 0 0
def AM(z:Bool)(s:cH X)(t:Nat)(c:CT X.ι):cH X:=
 match dC s.env t with
 |.nil=>if s.nx<1000000 then⟨(t,nz z s.nx)::s.env,(s.nx,some (.ec c []))::s.obj,s.nx+1,s.nx::s.log⟩else s
 |_=>s
def G1(s:cH X)(q j:Nat)(c:CT X.ι):cH X:=
 match fp s.obj q with
 |some (.cells sz [row])=>match row[j]? with
  |some .nil=>if s.nx<1000000 then⟨s.env,(q,some (.cells sz [row.set j (.own s.nx 0 0)]))::(s.nx,some (.ec c []))::s.obj,s.nx+1,q::s.nx::s.log⟩else s
  |_=>s
 |_=>s
def OX:List (Nat×CT X.ι)->cH X->cH X
 |[],s=>s
 |(t,c)::r,s=>OX r (bif Nat.ble 1000000 t then bif Nat.ble 1099511627776 t then AM true s (t-1099511627776) c else G1 s ((t-1000000)/4096) ((t-1000000)%4096) c else AM false s t c)
def isU:DV X->Bool
 |.undef|.skip=>true
 |_=>false
def encS(sh:Sh X.ι)(s0:cH X)(v:VT (X:=X) sh.vars):cH X:=
 let L:=vK sh.vars v
 let n:=(gO sh.slots).length
 let ol:=λk=>(lk (lens sh.cy (L.drop n)) k).getD 0
 ⟨wB ol sh.slots (L.take n)++sh.keep.map (λ t=>(t,dC s0.env t)),bX ol sh.cy (L.drop n)++sh.cV.map (λ k=>(k,fp s0.obj k)),sh.nx,
  (List.range s0.nx).filter (λ k=>!sh.cV.contains k)++s0.log⟩
def okS(b:Bool)(sh:Sh X.ι)(ds:List Nat)(s0 s':cH X)(m:MA X):Bool:=
 decide (m.nm.map (·.1)++sh.cV).Nodup&&decide (m.nm.map (·.2)++sh.cV).Nodup&&decide (sh.cy.map (·.1)).Nodup&&m.nm.all (λ q=>(sh.cy.map (·.1)).contains q.2&&decide (q.2<sh.nx)&&(decide (q.1=q.2) || decide (1000<=q.2) || !b))&&
  sh.slots.all (λ p=>ds.contains p.1)&&sh.keep.all (λ t=>!ds.contains t&&!isU (dC s'.env t)&&(bp (dC s0.env t)).all λj=>sh.cV.contains j || m.nm.contains (j,j))&&
  sh.cV.all (λ k=>decide (k<s0.nx)&&!(s'.log.take (s'.log.length-s0.log.length)).contains k&&(fp s'.obj k).isSome&&match fp s0.obj k with|some o=>(d7 o).all λj=>sh.cV.contains j || m.nm.contains (j,j)|none=>false)&&
  decide (s0.nx<=sh.nx)&&decide (sh.nx<=1000000)
def Tl{A:Type}(b:Bool)(sh:Sh X.ι)(ds:List Nat)(s0 s':cH X)(k:VT (X:=X) sh.vars->Option A):Option A:=
 (GN (fp s'.obj) (dC s'.env) sh.slots ⟨[],[],[]⟩).bind λm=>(BV (fp s'.obj) sh.cy m).bind λm=>bif okS b sh ds s0 s' m then(Fi sh.vars m.ev).bind λv=>UH m.iS (k v)else none
def afu{A:Type}(b:Bool)(sh:Sh X.ι)(ds:List Nat)(s0 s':cH X)(k:VT (X:=X) sh.vars->Option A):Option A:=
 bif sh.BW.all (λ p=>bif Nat.ble 1000000 p.1 then !Nat.ble 1099511627776 p.1 || ds.contains (p.1-1099511627776)else ds.contains p.1)then Tl b sh ds s0 (OX sh.BW s') k else none
def o9{A:Type}(sh:Sh X.ι)(ds:List Nat)(s0 s':cH X)(k:VT (X:=X) sh.vars->Option A):Option A:=afu true sh ds s0 s' k
end
end Go.Gb
