import Derived.Test.YtlkpmaaacgedkaaGreatW1
import Derived.Maps.RangeRun
import Derived.ChangeSame
import Derived.Carry
import Derived.OpenShut
import Derived.SizedLaws
import Derived.WalkKit
import Derived.ProofKit
import Derived.Lib.LaidTab
open List (mem_map all_eq_true cons_append length_map append_nil map_map take_of_length_le map_congr_left map_nil all_cons map_take map_drop mem_flatMap mem_append_left mem_append_right)
namespace Go.Gb
open Go.RowKit Go.MapKept
theorem UB{L:Option Nat}{P:Program}{ag:Array Oper}{Q:Exit->Act->World->Prop}{i:Nat}{ae:List Nat}{o:Oper}{a:Act}{w w':World}{v:Value}(h:ag[i]? =some o)(hg:o.guard=none)
 (hx:(execOp a.eval o).run P w=.ok (.value v) w') (hk:wpOpsIn (Fw L) 0 P ag Q ae (a.put o.dst v) w'):wpOpsIn (Fw L) 0 P ag Q (i::ae) a w:=by rw[wpOpsIn_cons];simp[wpOpIn,h];rw[aX (by simp[Region.wanted,hg])];refine⟨λ f _=>Fw.fn L f,?_⟩;rw[xP hx (by simp)];exact hk
structure RgI where
 x:Operand
 t:TypeId
 a0:Nat
 it:Nat
 nn:Nat
 b:Nat
 e:Nat
 xx:Nat
 kv:Nat
 j:Nat
 j2:Nat
 body:Code
section
variable {P:Program} {w0:World} {O0:gA} {N:Nat} {β:Nat->Option cy} {I:Nat->Prop} {σ:St} {a:Act} {w:World}
def St.put(σ:St)(d:Nat)(x:AV):St:=⟨AA σ.env (some d) x,σ.obj,AA σ.ok (some d) none⟩
theorem Rel.put(hr:Rel P w0 O0 N β I σ a w){d:Nat}(hd:d<N){x:AV}{v:Value}(hv:VR P β w I x v):Rel P w0 O0 N β I (σ.put d x) (a.put (some d) v) w:=by
 refine⟨by simpa[Act.put]using hr.defers,by simpa[Act.put]using hr.size,λt=>?_,hr.mem⟩;have hold:=hr.env t;simp only[St.put,AA,Act.put,bM];by_cases hdt:d=t;subst hdt;rw[aX rfl,aX rfl];have e:(a.tmps.setIfInBounds d v).getD d undef=v:=by simp[Nat.lt_of_lt_of_eq hd hr.size.symm]
 rw[e];exact hv
 simp_all
theorem Tn{a:Act}{d:Nat}{v:Value}(hd:d<a.tmps.size):(a.put (some d) v).eval (.tmp d)=v:=by simp[Act.put,Act.eval,hd]
theorem rD{a:Act}{d t:Nat}{v:Value}(h:d≠t):(a.put (some d) v).eval (.tmp t)=a.eval (.tmp t):=by
 simp_all [Act.put,Act.eval]
def Bm(w0:World)(O0:gA)(I E:Nat->Prop)(dl:List Deferred):gA:=⟨λ q=>(O0.own q\/w0.heap.size<=q)/\¬E q/\¬I q,λq=>(O0.pS q\/O0.own q\/w0.heap.size<=q)/\¬E q,O0.anc,O0.lt,dl⟩
structure kq(β:Nat->Option cy)(I:Nat->Prop)(obj:Nat->Option aM)(w:World)(r:Nat):Prop where
 lt:r<w.heap.size
 pS:¬I r
 obj:∀k o,obj k=some o->¬fp β k r
theorem Mem.sC{obj:Nat->Option aM}(h:Mem P w0 O0 β I obj w){E:Nat->Prop}(hE:∀q,E q->kq β I obj w q){dl:List Deferred}:Mem P w (Bm w0 O0 I E dl) β I obj w:=by refine⟨h.cw,h.ep,λk o B q h1 h2 h3=>?_,h.lt,λq hq=>.inl ⟨h.up q hq,λe=>(hE q e).pS hq⟩,λ_ _ _=>rfl,ax _,rfl,rfl,rfl,h.anch,h.vars⟩;have⟨g1,g2,g3⟩:=h.ownB k o B q h1 h2 h3;exact⟨g1,g2,.inl ⟨g3,λe=>(hE q e).obj k o h1 ⟨B,h2,h3⟩,g1⟩⟩
theorem Mem.sy{obj jp:Nat->Option aM}{β':Nat->Option cy}{I':Nat->Prop}{w':World}(h:Mem P w0 O0 β I obj w){E:Nat->Prop}{dl:List Deferred}(h':Mem P w (Bm w0 O0 I E dl) β' I' jp w')(hE:∀q,E q->q<w.heap.size):
 Mem P w0 O0 β' I' jp w'/\(∀ q,E q->kq β' I' jp w' q/\w'.heap[q]? =w.heap[q]?)/\Same I w w':=by
 have hle:=h.le;have hle':=h'.le;have own':∀k o B q,jp k=some o->β' k=some B->B.num=some q->(O0.own q\/w0.heap.size<=q)/\¬E q:=by intro k o B q h1 h2 h3;rcases (h'.ownB k o B q h1 h2 h3).2.2 with g|g;exact⟨g.1,g.2.1⟩;exact⟨.inr (by omega),λe=>by have:=hE q e;omega⟩
 have HX:∀q,I' q->(O0.pS q\/O0.own q\/w0.heap.size<=q)/\¬E q:=by intro q hq;rcases h'.up q hq with g|g|g;exact g;exact⟨.inr g.1,g.2.1⟩;exact⟨.inr (.inr (by omega)),λe=>by have:=hE q e;omega⟩
 refine⟨⟨h'.cw,h'.ep,λk o B q h1 h2 h3=>⟨(h'.ownB k o B q h1 h2 h3).1,(h'.ownB k o B q h1 h2 h3).2.1,(own' k o B q h1 h2 h3).1⟩,h'.lt,λq hq=>(HX q hq).1,λq hq hno=>?_,by omega,h'.os.trans h.os,h'.tape.trans h.tape,h'.output.trans h.output,h'.anch,h'.vars⟩,
  λq hq=>⟨⟨by have:=hE q hq;omega,λhi=>(HX _ hi).2 hq,λk o h1 ⟨B,h2,h3⟩=>(own' k o B q h1 h2 h3).2 hq⟩,h'.keep q (hE q hq) λhh=>hh.2.1 hq⟩,λq hq=>h'.keep q (h.lt q hq) λhh=>hh.2.2 hq⟩
 exact(h'.keep q (by omega) (λ hh=>by rcases hh.1 with g|g;exact hno g;omega)).trans (h.keep q hq hno)
theorem Mem.T5{obj:Nat->Option aM}(h:Mem P w0 O0 β I obj w){r:Nat}(hr:kq β I obj w r)(hnew:w0.heap.size<=r){w':World}(hother:∀q,q≠r->w'.heap[q]? =w.heap[q]?)(hsize:w'.heap.size=w.heap.size)(hos:w'.os=w.os)(rL:w'.tape=w.tape)(hout:w'.output=w.output):
 Same I w w'/\Mem P w0 O0 β I obj w':=by have hs:Same I w w':=λq hq=>hother q (λ e=>hr.pS (e ▸ hq));refine⟨hs,λk o hk=>?_,h.ep,λk o B q h1 h2 h3=>by rw[hsize];exact h.ownB k o B q h1 h2 h3,λq hq=>by rw[hsize];exact h.lt q hq,h.up,λq hq hno=>?_,by rw[hsize];exact h.le,hos.trans h.os,rL.trans h.tape,hout.trans h.output,h.anch,h.vars.mono hs (λ _ h=>h)⟩;have⟨B,hB,hO⟩:=h.cw k o hk;exact⟨B,hB,OR.mono (λ _ _ h=>h) hs (λ _ h=>h) (λ q hq=>hother q (λ e=>hr.obj k o hk ⟨B,hB,e ▸ hq⟩)) hO⟩;rw[hother q (by omega)];exact h.keep q hq hno
theorem Rel.world{w':World}(hr:Rel P w0 O0 N β I σ a w)(hs:Same I w w')(hm:Mem P w0 O0 β I σ.obj w'):Rel P w0 O0 N β I σ a w':=
 ⟨hr.defers,hr.size,λt=>da.mono (λ _ _ h=>h) hs (λ _ h=>h) (hr.env t),hm⟩
end
open Go.RowKit
def kept(os':List (Option eZ))(j:Nat):Prop:=∃p,os'[j]? =some (some p)
def AG(get:Nat->Option aM)(fk:Option Nat)(os':List (Option eZ)):AV->Tree->Prop
 |.t x,y=>y=x
 |.cN,y=>y=.sl []
 |.oz k len,y=>fk≠some k/\¬kept os' k/\∃o dc,get k=some o/\(o.rows.drop 0).take len=aI dc/\dc.length=len/\y=.sl dc
 |.own k aa len,y=>fk≠some k/\¬kept os' k/\∃o dc,get k=some o/\(o.rows.drop aa).take len=aI dc/\dc.length=len/\y=.sl dc
 |_,_=>False
def lO(get:Nat->Option aM)(fk:Option Nat)(os':List (Option eZ)):List AV->List Tree->Prop
 |[],[]=>True
 |x::xs,y::ys=>AG get fk os' x y/\lO get fk os' xs ys
 |_,_=>False
def ej(get:Nat->Option aM)(fk:Option Nat)(os':List (Option eZ)):List (List AV)->List (List Tree)->Prop
 |[],[]=>True
 |x::xs,y::ys=>lO get fk os' x y/\ej get fk os' xs ys
 |_,_=>False
def Hb(get:Nat->Option aM)(fk:Option Nat)(os':List (Option eZ)):AV->RC->Prop
 |.agg cs,.d (.a ts)=>lO get fk os' cs ts
 |x,.d (.s y)=>AG get fk os' x y
 |.cN,.fresh _ rows=>rows=[]
 |.own k aa len,.fresh sz rows=>fk=some k/\¬kept os' k/\aa=0/\∃o,get k=some o/\o.sz=sz/\ej get fk os' (o.rows.take len) rows/\rows.length=len
 |.own k aa len,.whole j len'=>k=j/\aa=0/\len'=len/\kept os' j
 |_,_=>False
def nF(get:Nat->Option aM)(fk:Option Nat)(os':List (Option eZ)):List AV->List RC->Prop
 |[],[]=>True
 |x::xs,c::cs=>Hb get fk os' x c/\nF get fk os' xs cs
 |_,_=>False
def Ha(get:Nat->Option aM)(fk:Option Nat)(os':List (Option eZ)):List AV->RV->Prop
 |[x],.one c=>Hb get fk os' x c
 |x::y::r,.eR cs=>nF get fk os' (x::y::r) cs
 |[],.eR cs=>cs=[]
 |_,_=>False
def Re(get:Nat->Option aM)(fk:Option Nat)(os':List (Option eZ)):Prop:=
 ∀(j:Nat) p,os'[j]? =some (some p)->fk≠some j/\∃o,get j=some o/\o.sz=p.1/\ej get fk os' (o.rows.take p.2.length) p.2
def Tp(T:ec)(t:TypeId)(x:AV)(obj:Nat->Option aM):Option Out:=
 J5 T t x .none obj
def OH(T:ec)(σ:St):ResultVar->Option AV
 |.tmp t=>match σ.ok t with
  |none=>some (σ.env t)
  |some _=>none
 |.cell a t=>match σ.ok a with
  |none=>match Tp T t (σ.env a) σ.obj with
   |some ⟨v,[],[]⟩=>some v
   |_=>none
  |some _=>none
def lK(T:ec)(σ:St):List ResultVar->Option (List AV)
 |[]=>some []
 |r::rs=>(OH T σ r).bind λv=>(lK T σ rs).bind λvs=>some (v::vs)
def QK(tmps:Array Value):ResultVar->Sem Value
 |.tmp t=>pure (tmps.getD t undef)
 |.cell a t=>do loadVar t (<- asAddr (tmps.getD a undef))
theorem DF(fn:Func)(tmps:Array Value):results fn tmps=(fn.results.mapM (QK tmps))>>=λvs=>pure (if h:vs.size=1 then vs[0]else .tuple vs):=by congr 2
def aoj(T:ec)(rs:List ResultVar)(rv:RV)(os':List (Option eZ)):Exit->St->Prop
 |.normal,σ=>∃xs fk,lK T σ rs=some xs/\Ha σ.obj fk os' xs rv/\Re σ.obj fk os'
 |.ret,σ=>∃xs fk,lK T σ rs=some xs/\Ha σ.obj fk os' xs rv/\Re σ.obj fk os'
 |_,_=>False
section
variable {P:Program} {T:ec} {w0:World} {O0:gA} {N:Nat} {β:Nat->Option cy} {I:Nat->Prop} {σ:St} {a:Act} {w:World}
theorem aar(hT:eY P T)(hr:Rel P w0 O0 N β I σ a w){r:ResultVar}{x:AV}(h:OH T σ r=some x):
 ∃v,(QK a.tmps r).run P w=.ok v w/\VR P β w I x v:=by
 cases r with
 |tmp t=>
  simp only[OH]at h;have h1:=hr.env t;cases hk:σ.ok t with
  |some b=>rw[hk]at h;cases h
  |none=>
   rw[hk]at h h1;cases h;exact⟨_,by simp[QK],h1⟩
 |cell ad t=>
  simp only[OH]at h;have hx:=hr.env ad;cases hk:σ.ok ad with
  |some b=>rw[hk]at h;cases h
  |none=>
  rw[hk]at h hx;simp only at h;have hx:VR P β w I (σ.env ad) (a.tmps.getD ad undef):=hx;split at h
  ·rename_i v hl;injection h with h;subst h;obtain⟨u,h1,h2⟩:∃u,(Instr.loadAt t (a.tmps.getD ad undef)).run P w=.ok u w/\VR P β w I v u:=(by obtain⟨u,h1,h2,_⟩:=Qz hT hr.mem (λ _ _ h=>h) hl trivial hx;exact⟨u,h1,h2⟩);refine⟨u,?_,h2⟩;have hp:∃p,a.tmps.getD ad undef=.pointer (some p):=by
    unfold Tp at hl;unfold J5 at hl;cases hti:T t with
    |none=>simp[hti]at hl
    |some ti=>
     simp only[hti,ai]at hl;split at hl
     ·rename_i heq;rw[heq]at hx;simp only[VR]at hx;obtain⟨b,sz,n,_,h⟩:=hx;exact⟨_,h⟩
     ·rename_i heq;rw[heq]at hx;simp only[VR]at hx;obtain⟨b,o,h,_⟩:=hx;exact⟨_,h⟩
     ·cases hl
   obtain⟨p,hp⟩:=hp;rw[hp]at h1;simp only[QK,hp,asAddr,Sem.run_bind,Sem.run_pure,Result.andThen_ok];exact h1
  ·cases h
theorem vz(hT:eY P T)(hr:Rel P w0 O0 N β I σ a w):∀(rs:List ResultVar)(xs:List AV),lK T σ rs=some xs->
 ∃vs,(rs.mapM (QK a.tmps)).run P w=.ok vs w/\bk P β w I xs vs
 |[],xs,h=>by simp_all [lK,bk]
 |r::rs,xs,h=>by
  simp[lK]at h;cases h1:OH T σ r with
  |none=>grind
  |some x=>
   cases h2:lK T σ rs with
   |none=>grind
   |some ys=>
    simp[h1,h2]at h;subst h;have⟨v,g1,g2⟩:=aar hT hr h1;obtain⟨vs,g3,g4⟩:=vz hT hr rs ys h2
    simp_all [g1,g3,bk]
def LG(σ:St)(w0 w:World)(β:Nat->Option cy)(I:Nat->Prop)(O0:gA)(fk:Option Nat)(os':List (Option eZ))(b:Nat):Prop:=
 (I b\/O0.pS b\/w0.heap.size<=b\/O0.own b)/\b<w.heap.size/\¬∃k,(fk=some k\/kept os' k)/\(∃ o,σ.obj k=some o)/\fp β k b
theorem aco(hr:Rel P w0 O0 N β I σ a w)(fk:Option Nat)(os':List (Option eZ)):∀b,I b->LG σ w0 w β I O0 fk os' b:=λb hb=>
 ⟨.inl hb,hr.mem.lt b hb,λ⟨k,_,⟨o,ho⟩,hβ⟩=>(hr.mem.ix k o b ho hβ).1 hb⟩
theorem LJ(hr:Rel P w0 O0 N β I σ a w){fk:Option Nat}{os':List (Option eZ)}{k aa len:Nat}{y:Tree}{v:Value}(h:fk≠some k/\¬kept os' k/\∃o dc,σ.obj k=some o/\(o.rows.drop aa).take len=aI dc/\dc.length=len/\y=.sl dc)(hv:VR P β w I (.own k aa len) v):TR w (LG σ w0 w β I O0 fk os') y v:=by obtain⟨hne,hnk,o,dc,h1,h2,h3,rfl⟩:=h;simp only[TR];rcases hv with ⟨_,rfl,_,h4⟩|⟨b,sz,n,cap,ad,h4,rfl,h5,h6,h7⟩;exact .inl ⟨List.eq_nil_of_length_eq_zero (by omega),none,0,rfl,λ_=>rfl⟩;have⟨g1,g2,g3⟩:=hr.mem.own k o b sz n h1 h4;refine .inr ⟨b,ad,cap,sz,by rw[h3],by omega,⟨.inr (.inr (g3.elim .inr .inl)),g2,λ⟨k',e1,⟨o',e2⟩,e3⟩=>?_⟩,?_⟩;have:=hr.mem.ov k k' o o' b h1 e2 (.at h4) e3;subst this;exact e1.elim hne hnk;by_cases hc:cap=0;have:dc=[]:=List.eq_nil_of_length_eq_zero (by omega);subst this;simp[ct];rw[h7 hc];have⟨B,hB,so⟩:=hr.mem.cw k o h1;rw[h4]at hB;cases hB;obtain⟨hs,c,e,hc',_,so⟩:=so;have h8:=br.take len _ _ _ _ (br.drop aa _ _ _ _ so);rw[h2]at h8;exact ct.lv (aco hr fk os') hc' dc _ _ h8
theorem DI(hr:Rel P w0 O0 N β I σ a w){fk:Option Nat}{os':List (Option eZ)}{x:AV}{y:Tree}{v:Value}(h:AG σ.obj fk os' x y)(hv:VR P β w I x v):TR w (LG σ w0 w β I O0 fk os') y v:=by
 cases x<;>simp only[AG]at h
 case t x=>subst h;simp[VR]at hv;exact TR.mono (λ _ _=>rfl) (aco hr fk os') _ _ hv
 case cN=>subst h;grind [VR,TR]
 case own k aa len=>exact LJ hr h hv
 case oz k len=>
  rcases hv.vn with ⟨rfl,rfl⟩|⟨_,hv⟩;obtain⟨hne,hnk,o,dc,h1,h2,h3,rfl⟩:=h;exact .inl ⟨List.eq_nil_of_length_eq_zero h3,none,0,rfl,λ_=>rfl⟩;exact LJ hr h hv
theorem LK(hr:Rel P w0 O0 N β I σ a w){fk:Option Nat}{os':List (Option eZ)}{β':Nat->Option cy}:∀{r:List AV}{t:List Tree}{c:Array Value}{aa:Nat},lO σ.obj fk os' r t->cQ P β w I r c aa->cQ P β' w (LG σ w0 w β I O0 fk os') (t.map AV.t) c aa
 |[],[],_,_,_,_=>trivial
 |x::xs,y::ys,c,aa,h,⟨⟨v,h1,h2,h3⟩,h4⟩=>⟨⟨v,h1,by simp[VR];exact DI hr h.1 h2,h3⟩,LK hr h.2 h4⟩
 |[],_::_,_,_,h,_|_::_,[],_,_,h,_=>h.elim
theorem lO.length{get:Nat->Option aM}{fk:Option Nat}{os':List (Option eZ)}:∀{r:List AV}{t:List Tree},lO get fk os' r t->t.length=r.length
 |[],[],_=>rfl
 |_::_,_::_,h=>by simp[lO.length h.2]
 |[],_::_,h|_::_,[],h=>h.elim
theorem AB(hr:Rel P w0 O0 N β I σ a w){fk:Option Nat}{os':List (Option eZ)}{β':Nat->Option cy}:∀{rs:List (List AV)}{ts:List (List Tree)}{c:Array Value}{aa sz:Nat},ej σ.obj fk os' rs ts->br P β w I rs c aa sz->br P β' w (LG σ w0 w β I O0 fk os') (aI ts) c aa sz
 |[],[],_,_,_,_,_=>trivial
 |r::rs,t::ts,c,aa,sz,h,⟨h1,h2,h3⟩=>⟨by rw[length_map,h.1.length,h1],LK hr h.1 h2,AB hr h.2 h3⟩
 |[],_::_,_,_,_,h,_|_::_,[],_,_,_,h,_=>h.elim
theorem ej.length{get:Nat->Option aM}{fk:Option Nat}{os':List (Option eZ)}:∀{rs:List (List AV)}{ts:List (List Tree)},ej get fk os' rs ts->rs.length=ts.length
 |[],[],_=>rfl
 |_::_,_::_,h=>by simp[h.2.length]
 |[],_::_,h|_::_,[],h=>h.elim
theorem Kc(hr:Rel P w0 O0 N β I σ a w){fk:Option Nat}{os':List (Option eZ)}{β':Nat->Option cy}:∀{r:List AV}{t:List Tree}{vs:List Value},lO σ.obj fk os' r t->bk P β w I r vs->bk P β' w (LG σ w0 w β I O0 fk os') (t.map AV.t) vs
 |[],[],[],_,_=>by trivial
 |x::xs,y::ys,v::vs,h,hv=>by exact⟨DI hr h.1 hv.1,Kc hr h.2 hv.2⟩
 |[],_::_,_,h,_|_::_,[],_,h,_=>h.elim
 |[],[],_::_,_,hv|_::_,_::_,[],_,hv=>by trivial
theorem GD(hr:Rel P w0 O0 N β I σ a w){fk:Option Nat}{os':List (Option eZ)}{β':Nat->Option cy}:∀{rs:List (List AV)}{ts:List (List Tree)}{es:List MapEntry},ej σ.obj fk os' rs ts->cA P β w I rs es->cA P β' w (LG σ w0 w β I O0 fk os') (aI ts) es
 |[],[],[],_,_=>trivial
 |_::_,_::_,_::_,h,hm=>⟨Kc hr h.1 hm.1,GD hr h.2 hm.2⟩
 |[],_::_,_,h,_|_::_,[],_,h,_=>h.elim
 |[],[],_::_,_,hm|_::_,_::_,[],_,hm=>hm.elim
theorem ej.nil{get:Nat->Option aM}{fk:Option Nat}{os':List (Option eZ)}{t:List (List Tree)}(h:ej get fk os' [] t):t=[]:=by
 cases t with
 |nil=>rfl
 |cons=>trivial
theorem UC(hr:Rel P w0 O0 N β I σ a w){F:Nat->Prop}{βi:Nat->Option cy}{fk:Option Nat}{os':List (Option eZ)}(hF:∀k o b,fk=some k->σ.obj k=some o->¬kept os' k->fp β k b->F b)(hi:∀j,kept os' j->β j=βi j){x:AV}{c:RC}{v:Value}
 (h:Hb σ.obj fk os' x c) (hv:VR P β w I x v):yq P F βi c w (LG σ w0 w β I O0 fk os') v:=by
 unfold Hb at h;split at h;rename_i cs ts;simp[VR]at hv;obtain⟨vs,rfl,hv⟩:=hv;refine⟨vs,rfl,?_⟩;have:∀(cs:List AV)(ts:List Tree)(vs:List Value),lO σ.obj fk os' cs ts->bk P β w I cs vs->eC w (LG σ w0 w β I O0 fk os') ts vs:=by
  intro cs
  induction cs with
  |nil=>intro ts vs h hv;cases ts<;>cases vs<;>first|trivial|grind|grind
  |cons x xs ih=>
   intro ts vs h hv;cases ts with
   |nil=>exact h.elim
   |cons t ts=>
    cases vs with
    |nil=>simp[bk]at hv
    |cons u us=>simp[bk]at hv;exact⟨DI hr h.1 hv.1,ih ts us h.2 hv.2⟩
 exact this cs ts vs.toList h hv;exact DI hr h hv;subst h;simp[VR]at hv;exact .inl ⟨rfl,hv⟩;rename_i k aa len sz rows;obtain⟨rfl,hnk,rfl,o,h1,rfl,h2,h3⟩:=h;simp only[VR]at hv;rcases hv with ⟨_,rfl,_,h4⟩|⟨b,sz,n,cap,ad,h4,rfl,h5,h6,h7⟩;exact .inl ⟨List.eq_nil_of_length_eq_zero (by omega),rfl⟩;have⟨B,hB,so⟩:=hr.mem.cw k o h1;rw[h4]at hB;cases hB;obtain⟨hs,c,e,hc',hn,so⟩:=so;refine .inr ⟨b,c,e,cap,ad,n.s,by rw[h3],hF k o b rfl h1 hnk (.at h4),λhI=>hI.2.2 ⟨k,.inl rfl,⟨o,h1⟩,.at h4⟩,hc',by omega,?_,?_,λhc=>by simpa using h7 hc⟩;rw[<- hs,hn];simpa using h6;rw[<- hs];exact AB hr h2 (br.take len _ _ _ _ so);rename_i k aa len j len';obtain⟨rfl,rfl,rfl,hk⟩:=h;show VR P βi w (LG σ w0 w β I O0 fk os') (.own k 0 len') v;simp[VR]at hv ⊢;rw[<- hi k hk];exact hv
 grind
theorem yg{α:Type}(l:List α)(t:Nat):lk ((List.range l.length).zip l) t=l[t]? :=by
 have qk:∀(l:List α)(s t:Nat),(lk ((List.range' s l.length).zip l) t)=if s<=t/\t<s+l.length then l[t-s]? else none:=by
  intro l
  induction l with
  |nil=>simp[lk]
  |cons x xs ih=>
   simp[List.range'_succ,lk]
   all_goals grind
 simp[List.range_eq_range',qk]
theorem OI{x:AV}:∀{l:List AV},x∈l->∀k∈refs x,k∈eT l
 |[],h,_,_=>by simp at h
 |y::ys,h,k,hk=>by simp[eT];rcases aR.1 h with rfl|h;exact .inl hk;exact .inr (OI h k hk)
theorem aic(hT : eY P T){f : FuncId}{fn : Func}{c : Code}{args : List AV}{os : List eZ}{os' : List (Option eZ)}{rv : RV}(hfn : P.funcs[f]? = some fn)(hb : fn.body = some c)(hname : (fn.name == "runtime.NumGoroutine") = false)(hN : args.length <= fn.ntmps)(hargs : ∀ k ∈ eT args, k < 1000)(hos : os.length <= 1000)(hlen : os'.length = os.length)
 (h:Ev P fn.ntmps c (aoj T fn.results.toList rv os') (rk.st ⟨(List.range args.length).zip args,(List.range (os.map gz).length).zip (os.map gz)⟩)):p0 P f args os os' rv:=by
 refine⟨⟨fn,hfn,by rw[hb];rfl,hname⟩,λw β I vs hβ hM hv=>?_⟩;have hvl:=bk.length _ _ hv;simp at hvl;have ia:∀k,lk ((List.range (os.map gz).length).zip (os.map gz)) k=rh os k:=λk=>by rw[yg];simp[rh]
 refine calls_of_wp hfn hb ?_;have hrel:Rel P w (mQ β I) fn.ntmps β I (rk.st ⟨(List.range args.length).zip args,(List.range (os.map gz).length).zip (os.map gz)⟩) { tmps:=vs++Array.replicate (fn.ntmps-vs.size) undef,defers:=[] } w:=by
  refine⟨rfl,by simp;omega,λt=>?_,?_⟩;simp only[rk.st,yg,da];by_cases ht:t<args.length;obtain⟨v,g1,g2⟩:=bk.get _ _ t _ hv (dD ht);rw[dD ht];simp only[Option.getD_some];have:(vs++Array.replicate (fn.ntmps-vs.size) undef).getD t undef=v:=by rw[Array.getElem?_toList]at g1;simp only[Array.getD_eq_getD_getElem?,Array.getElem?_append,show t<vs.size by omega,if_true,g1,Option.getD_some]
  rw[this];exact g2;rw[List.getElem?_eq_none (Nat.le_of_not_lt ht)];simp[VR];have:(rk.st ⟨(List.range args.length).zip args,(List.range (os.map gz).length).zip (os.map gz)⟩).obj=rh os:=funext ia;rw[this];exact hM
 have hold:tR (rk.st ⟨(List.range args.length).zip args,(List.range (os.map gz).length).zip (os.map gz)⟩):=by
  refine⟨λ t k hk=>?_,λk o hk=>?_⟩;simp[rk.st,yg]at hk;cases ht:args[t]? with
  |none=>rw[ht]at hk;simp[refs]at hk
  |some x=>rw[ht]at hk;have:=hargs k (OI (bX ht) k hk);omega
  have hk:rh os k=some o:=(ia k).symm.trans hk;simp only[rh,jI]at hk;obtain⟨p,hp,rfl⟩:=hk;refine⟨by have:=(cZ.1 hp).1;omega,λr hr x hx j hj=>?_⟩;simp[gz,aI,mem_map]at hr;obtain⟨q,_,rfl⟩:=hr;simp[mem_map]at hx;obtain⟨t,_,rfl⟩:=hx;simp[refs]at hj
 refine wp_mono (wpIn_wide.1 (h none w (mQ β I) β I _ w hrel hold)) ?_
 have fin:∀(a':Act) (w':World) (β':Nat->Option cy) (I':Nat->Prop) (σ':St),Rel P w (mQ β I) fn.ntmps β' I' σ' a' w'->(∃ xs fk,lK T σ' fn.results.toList=some xs/\Ha σ'.obj fk os' xs rv/\Re σ'.obj fk os')->
  a'.defers=[]/\∃v,(results fn a'.tmps).run P w'=.ok v w'/\P3 P w β I os' rv (.returned v) w':=by
  intro a' w' β' I' σ' hr ⟨xs,fk,hx,he,heo⟩;obtain⟨us,g1,g2⟩:=vz hT hr _ _ hx;have GM:=bk.length _ _ g2;have hm:=hr.mem;have hrun:(fn.results.mapM (QK a'.tmps)).run P w'=.ok us.toArray w':=by rw[Array.mapM_eq_mapM_toList,Sem.run_map,g1];rfl
  have hko:∀j p,os'[j]? =some (some p)->∃B o,β j=some B/\β' j=some B/\σ'.obj j=some o/\OR P β' w' I' o B/\o.sz=p.1/\ej σ'.obj fk os' (o.rows.take p.2.length) p.2:=by intro j p hj;have⟨_,o,e1,e2,e3⟩:=heo j p hj;have hjl:j<os.length:=(by rw[<- hlen];exact(cZ.1 hj).1);obtain⟨B,hB,_⟩:=hM.cw j (gz os[j]) (by simp[rh,hjl]);have hB':=hm.anch j B (by simp only[mQ];rw[aX (by omega)];exact hB);have⟨B',hB2,hO⟩:=hm.cw j o e1;rw[hB']at hB2;cases hB2;exact⟨B,o,hB,hB',e1,hO,e2,e3⟩
  have hkept:∀j,kept os' j->β' j=β j:=λj ⟨p,hp⟩=>by have⟨B,o,h1,h2,_⟩:=hko j p hp;rw[h1,h2]
  have rS:∀j o,Dv os' j=some o->∃p,os'[j]? =some (some p)/\o=gz p:=by intro j o hj;simp only[Dv,jI,Option.join_eq_some_iff]at hj;obtain⟨p,hp,rfl⟩:=hj;exact⟨p,hp,rfl⟩
  have ml:∀b,I b->¬Rx β b/\b<w.heap.size:=by intro b hb;refine⟨?_,hM.lt b hb⟩;rintro⟨j,B,hj,hB⟩;rcases Nat.lt_or_ge j os.length with hjl|hjl;exact(hM.ownB j (gz os[j]) B b (by simp[rh,hjl]) hj hB).1 hb;rw[hβ j hjl]at hj;cases hj
  have hOI:∀b,I b->LG σ' w w' β' I' (mQ β I) fk os' b:=by intro b hb;have⟨g1,g2⟩:=ml b hb;refine⟨.inr (.inl hb),Nat.lt_of_lt_of_le g2 hm.le,?_⟩;rintro⟨k,_,⟨o,ho⟩,hβk⟩;rcases (hm.ix k o b ho hβk).2.2 with g|g;exact g1 g;omega
  have hmem:Mem P w (mQ β I) β (LG σ' w w' β' I' (mQ β I) fk os') (Dv os') w':=by
   constructor;intro j o hj;obtain⟨p,hp,rfl⟩:=rS j o hj;have⟨B,o1,b1,b2,b3,b4,b5,b6⟩:=hko j p hp;refine⟨B,b1,?_⟩;cases B with
   |none=>
    simp[OR]at b4 ⊢;rw[b4]at b6;have:=ej.nil (by simpa using b6);simp[gz,aI,this]
   | «at» b s n=>
    obtain⟨c1,c,e,c2,c3,c4⟩:=b4;refine⟨by rw[c1,b5];rfl,c,e,c2,c3,?_⟩;exact AB hr b6 (br.take _ _ _ _ _ c4)
   |mp b=>
    obtain⟨es,cl,c1,cl',c2,c3⟩:=b4;have hl:=b6.length;simp[List.length_take]at hl;refine⟨es,cl,c1,by simp[gz,aI,length_map];omega,λe=>?_,c3⟩;have e':p.1=p.2.length:=(by simpa[gz,aI]using e);rw[take_of_length_le (by omega)]at b6;exact GD hr b6 (c2 (by omega))
   intro j j' o o' B B' b h1 h2 h3 h4 h5 h6;obtain⟨p,hp,rfl⟩:=rS j o h1;obtain⟨p',hp',rfl⟩:=rS j' o' h2;have⟨_,o1,_,_,b3,_⟩:=hko j p hp;have⟨_,o1',_,_,b3',_⟩:=hko j' p' hp';rw[<- hkept j ⟨p,hp⟩]at h3;rw[<- hkept j' ⟨p',hp'⟩]at h4;exact hm.ep j j' o1 o1' B B' b b3 b3' h3 h4 h5 h6;intro j o B b h1 h2 h5;obtain⟨p,hp,rfl⟩:=rS j o h1;have⟨_,o1,_,_,b3,_⟩:=hko j p hp;rw[<- hkept j ⟨p,hp⟩]at h2;have⟨_,c2,c3⟩:=hm.ownB j o1 B b b3 h2 h5;exact⟨λ hb=>hb.2.2 ⟨j,.inr ⟨p,hp⟩,⟨o1,b3⟩,B,h2,h5⟩,c2,c3⟩;exact λb hb=>hb.2.1;intro b hb;rcases hb.1 with g|g|g|g;exact hm.up b g;exact .inl g;exact .inr (.inr g);exact .inr (.inl g);exact hm.keep;exact hm.le;exact hm.os;exact hm.tape;exact hm.output;intro j B hj;simp only[mQ]at hj;split at hj;exact hj;cases hj;exact hM.vars.mono (λ b hb=>hm.keep b (ml b hb).2 (ml b hb).1) hOI
  have hF:∀k o b,fk=some k->σ'.obj k=some o->¬kept os' k->fp β' k b->AW w β os' b:=by intro k o b _ h2 h3 h4;refine⟨(hm.ix k o b h2 h4).2.2,λj o' h5 h6=>?_⟩;obtain⟨p,hp,rfl⟩:=rS j o' h5;have⟨_,o1,_,_,b3,_⟩:=hko j p hp;have h6':fp β' j b:=(by obtain⟨B,e1,e2⟩:=h6;exact⟨B,by rw[hkept j ⟨p,hp⟩];exact e1,e2⟩);have:=hm.ov k j o o1 b h2 b3 h4 h6';subst this;exact h3 ⟨p,hp⟩
  have ret:∀v,ra P (AW w β os') β rv w' (LG σ' w w' β' I' (mQ β I) fk os') v->P3 P w β I os' rv (.returned v) w':=λv hv'=>⟨v,_,rfl,hmem,hOI,hv'⟩;refine⟨hr.defers,?_⟩;have hlist:∀(xs:List AV)(cs:List RC)(us:List Value),nF σ'.obj fk os' xs cs->bk P β' w' I' xs us->TP P (AW w β os') β cs w' (LG σ' w w' β' I' (mQ β I) fk os') us:=by
   intro xs
   induction xs with
   |nil=>intro cs us h1 h2;cases cs<;>cases us<;>first|trivial|exact h1.elim|(simp [bk]at h2)
   |cons x xs ih=>
    intro cs us h1 h2;cases cs with
    |nil=>exact h1.elim
    |cons c cs=>
     cases us with
     |nil=>simp[bk]at h2
     |cons u us=>simp[bk]at h2;exact⟨UC hr hF hkept h1.1 h2.1,ih cs us h1.2 h2.2⟩
  simp only[DF,Sem.run_bind,hrun,Result.andThen_ok,Sem.run_pure];refine⟨_,rfl,ret _ ?_⟩
  match xs,us,rv,he,g2 with
  |[x],[u],.one c,he,g2=>
   simp only[bk]at g2;simpa[ra]using UC hr hF hkept he g2.1
  |x::y::r,u::u'::us,.eR cs,he,g2=>
   have:=hlist _ _ _ he g2;rw[dif_neg (by simp)];exact⟨_,rfl,by simpa using this⟩
  |[],[],.eR cs,he,g2=>
   simp[Ha]at he;subst he;rw[dif_neg (by simp)];exact⟨_,rfl,trivial⟩
  |[x],[u],.eR cs,he,_=>exact he.elim
  |[],_,.one c,he,_=>exact he.elim
  |x::y::r,_,.one c,he,_=>exact he.elim
  |[],_::_,.eR _,_,g2=>simp[bk]at g2
  |[_],[],_,_,g2=>simp[bk]at g2
  |[_],_::_::_,_,_,g2=>simp[bk]at g2
  |_::_::_,[],_,_,g2=>simp[bk]at g2
  |_::_::_,[_],_,_,g2=>simp[bk]at g2
 rintro e a' w' ⟨β',I',σ',h1,h2,h3⟩;cases e with
 |normal=>exact fin a' w' β' I' σ' h1 h3
 |ret=>exact fin a' w' β' I' σ' h1 h3
 |_=>exact h3.elim
def G4(P:Program)(get:Nat->Option aM)(xs:List AV)(os':List (Nat×aM))(rv:AV):Prop:=
 ∀(w0:World) (O0:gA) (β:Nat->Option cy) (I:Nat->Prop) (w:World) (vs:Array Value),Mem P w0 O0 β I get w->bk P β w I xs vs.toList->∃ β' I',Mem P w0 O0 β' I' (pC os') w/\(∀ b,I b->I' b)/\VR P β' w I' rv (if h:vs.size=1 then vs[0]else .tuple vs)
def anF(P:Program)(T:ec)(rs:List ResultVar)(rv:AV)(os':List (Nat×aM)):Exit->St->Prop
 |.normal,σ=>∃xs,lK T σ rs=some xs/\G4 P σ.obj xs os' rv
 |.ret,σ=>∃xs,lK T σ rs=some xs/\G4 P σ.obj xs os' rv
 |_,_=>False
theorem aie(hT : eY P T){f : FuncId}{fn : Func}{c : Code}{args : List AV}{os : List aM}{os' : List (Nat × aM)}{rv : AV}(hfn : P.funcs[f]? = some fn)(hb : fn.body = some c)(hname : (fn.name == "runtime.NumGoroutine") = false)(hN : args.length <= fn.ntmps)(hargs : ∀ k ∈ eT args, k < 1000)(hos : os.length <= 1000)
 (XS:∀o∈os,∀r∈o.rows,∀x∈r,∀j∈refs x,j<1000)
 (h:Ev P fn.ntmps c (anF P T fn.results.toList rv os') (rk.st ⟨(List.range args.length).zip args,(List.range os.length).zip os⟩)):F1 P f args os os' rv:=by
 refine⟨⟨fn,hfn,by rw[hb];rfl,hname⟩,λw β I vs hβ hM hv=>?_⟩;have hvl:=bk.length _ _ hv;simp at hvl;have ia:∀k,lk ((List.range os.length).zip os) k=tx os k:=λk=>by rw[yg];rfl
 refine calls_of_wp hfn hb ?_;have hrel:Rel P w (mQ β I) fn.ntmps β I (rk.st ⟨(List.range args.length).zip args,(List.range os.length).zip os⟩) { tmps:=vs++Array.replicate (fn.ntmps-vs.size) undef,defers:=[] } w:=by
  refine⟨rfl,by simp;omega,λt=>?_,?_⟩;simp only[rk.st,yg,da];by_cases ht:t<args.length;obtain⟨v,g1,g2⟩:=bk.get _ _ t _ hv (dD ht);rw[dD ht];simp only[Option.getD_some];have:(vs++Array.replicate (fn.ntmps-vs.size) undef).getD t undef=v:=by rw[Array.getElem?_toList]at g1;simp only[Array.getD_eq_getD_getElem?,Array.getElem?_append,show t<vs.size by omega,if_true,g1,Option.getD_some]
  rw[this];exact g2;rw[List.getElem?_eq_none (Nat.le_of_not_lt ht)];simp[VR];have:(rk.st ⟨(List.range args.length).zip args,(List.range os.length).zip os⟩).obj=tx os:=funext ia;rw[this];exact hM
 have hold:tR (rk.st ⟨(List.range args.length).zip args,(List.range os.length).zip os⟩):=by
  refine⟨λ t k hk=>?_,λk o hk=>?_⟩;simp[rk.st,yg]at hk;cases ht:args[t]? with
  |none=>rw[ht]at hk;simp[refs]at hk
  |some x=>rw[ht]at hk;have:=hargs k (OI (bX ht) k hk);omega
  have hk:tx os k=some o:=(ia k).symm.trans hk;simp[tx]at hk;refine⟨by have:=(cZ.1 hk).1;omega,λr hr x hx j hj=>?_⟩;have:=XS o (bX hk) r hr x hx j hj;omega
 refine wp_mono (wpIn_wide.1 (h none w (mQ β I) β I _ w hrel hold)) ?_
 have fin:∀(a':Act) (w':World) (β':Nat->Option cy) (I':Nat->Prop) (σ':St),Rel P w (mQ β I) fn.ntmps β' I' σ' a' w'->(∃ xs,lK T σ' fn.results.toList=some xs/\G4 P σ'.obj xs os' rv)->
  a'.defers=[]/\∃v,(results fn a'.tmps).run P w'=.ok v w'/\P2 P w β I os' rv (.returned v) w':=by
  intro a' w' β' I' σ' hr ⟨xs,hx,he⟩;obtain⟨us,g1,g2⟩:=vz hT hr _ _ hx;have hrun:(fn.results.mapM (QK a'.tmps)).run P w'=.ok us.toArray w':=by rw[Array.mapM_eq_mapM_toList,Sem.run_map,g1];rfl
  have ml:∀b,I b->¬Rx β b/\b<w.heap.size:=by intro b hb;refine⟨?_,hM.lt b hb⟩;rintro⟨j,B,hj,hB⟩;rcases Nat.lt_or_ge j os.length with hjl|hjl;exact(hM.ownB j os[j] B b (by simp[tx]) hj hB).1 hb;rw[hβ j hjl]at hj;cases hj
  obtain⟨β2,I2,hm,hI2,hv2⟩:=he w (mQ β I) β' I' w' us.toArray hr.mem (by simpa using g2);have hmem:Mem P w (mQ β I) β2 (λ b=>I2 b\/I b) (pC os') w':=by constructor;intro k o hk;have⟨B,hB,hO⟩:=hm.cw k o hk;exact⟨B,hB,OR.mono (λ _ _ h=>h) (λ _ _=>rfl) (λ b hb=>.inl hb) (λ _ _=>rfl) hO⟩;exact hm.ep;intro k o B b h1 h2 h3;have⟨a1,a2,a3⟩:=hm.ownB k o B b h1 h2 h3;refine⟨?_,a2,a3⟩;rintro (hb|hb);exact a1 hb;have⟨c1,c2⟩:=ml b hb;rcases a3 with a3|a3;exact c1 a3;omega;rintro b (hb|hb);exact hm.lt b hb;exact Nat.lt_of_lt_of_le (ml b hb).2 hm.le;rintro b (hb|hb);exact hm.up b hb;exact .inl hb;exact hm.keep;exact hm.le;exact hm.os;exact hm.tape;exact hm.output;exact hm.anch;exact hm.vars.mono (λ _ _=>rfl) (λ b hb=>.inl hb)
  refine⟨hr.defers,?_⟩;simp only[DF,Sem.run_bind,hrun,Result.andThen_ok,Sem.run_pure];exact⟨_,rfl,_,β2,_,rfl,hmem,λb hb=>.inr hb,VR.mono (λ _ _ h=>h) (λ _ _=>rfl) (λ b hb=>.inl hb) _ _ hv2⟩
 rintro e a' w' ⟨β',I',σ',h1,h2,h3⟩;cases e with
 |normal|ret=>exact fin a' w' β' I' σ' h1 h3
 |_=>exact h3.elim
theorem ra.HR{F F':Nat->Prop}{βi:Nat->Option cy}{w':World}{I':Nat->Prop}(hF:∀b,F b->F' b){rv:RV}{v:Value}(h:ra P F βi rv w' I' v):ra P F' βi rv w' I' v:=by
 have hc:∀(c:RC)(v:Value),yq P F βi c w' I' v->yq P F' βi c w' I' v:=by
  intro c v h;cases c with
  |d x=>exact h
  |fresh sz rows=>
   rcases h with h|⟨b,c,e,cap,o,s,h1,h2,h3⟩;exact .inl h;exact .inr ⟨b,c,e,cap,o,s,h1,hF b h2,h3⟩
  |whole j len=>exact h
 cases rv with
 |one c=>exact hc c v h
 |eR cs=>
  obtain⟨vs,rfl,h⟩:=h;refine⟨vs,rfl,?_⟩;have:∀(cs:List RC)(vs:List Value),TP P F βi cs w' I' vs->TP P F' βi cs w' I' vs:=by
   intro cs
   induction cs with
   |nil=>intro vs h;cases vs with
    |nil=>trivial
    |cons=>trivial
   |cons c cs ih=>intro vs h;cases vs with
    |nil=>trivial
    |cons v vs=>exact⟨hc c v h.1,ih vs h.2⟩
  grind
theorem UD{f:FuncId}{args:List AV}{rv:RV}(h:p0 P f args [] [] rv):tc P f args rv:=by
 refine⟨h.1,λw I vs hlt hgv hv=>?_⟩;have hM:Mem P w (mQ kO I) kO I (rh []) w:=by
  refine⟨λ k o hk=>by trivial,λk k' o o' B B' b hk=>by trivial,λk o B b hk=>by trivial,hlt,λb hb=>.inl hb,λ_ _ _=>rfl,ax _,rfl,rfl,rfl,λj B hj=>?_,hgv⟩
  simp_all [mQ,kO,ite_self]
 refine(h.2 w kO I vs (λ _ _=>rfl) hM hv).mono ?_;rintro e w' ⟨v,I',rfl,g1,g2,g3⟩;have hno:∀b,¬(mQ kO I).own b:=λb ⟨j,B,hj,_⟩=>by cases hj
 refine⟨v,I',rfl,⟨g1.os,g1.tape,g1.output,g1.le,λb hb=>g1.keep b hb (hno b)⟩,g2,g1.lt,λb hb=>?_,ra.HR (λ b hb=>?_) g3⟩;rcases g1.up b hb with h|h|h;exact .inl h;exact(hno b h).elim;exact .inr h;rcases hb.1 with h|h;exact(hno b h).elim;exact h
end
open Go.RowKit Go.WideShapes Go.ChangeShapes
inductive CS where
 |int (k:IntKind)
 |bool
 |str
 |sl (row:List CS)
 |any
  |mu (row:List CS)
 |back
def aok:CS->Tree->Prop
 |.int k,x=>∃n,x=.sc (.int k n)/\(Lit.int k n).wf=true
 |.bool,x=>∃b,x=.sc (.bool b)
 |.str,x=>∃s,x=.sc (.string s)/\s.size<=maxLen
 |_,_=>False
def anG:CS->Nat
 |.int .i64=>8
 |.int _=>1
 |.bool=>1
 |.str=>16
 |_=>24
def SJ:CS->Nat
 |.int .i64=>8
 |.int _=>1
 |.bool=>1
 |_=>8
def amW:Nat->List CS->Nat
 |o,[]=>o
 |o,c::cs=>amW ((o+(SJ c-1))/SJ c*SJ c+anG c) cs
def Rd(r:List CS):Nat:=bif r.any (λ c=>SJ c==8)then(amW 0 r+7)/8*8 else amW 0 r
mutual
inductive Hs(row:List CS):Tree->Prop
 |mk (rows:List (List Tree)) (hl:rows.length<=maxLen) (h:px row rows):Hs row (.sl rows)
inductive px(row:List CS):List (List Tree)->Prop
 |nil:px row []
 |cons {r:List Tree} {rs:List (List Tree)} (h:js row row r) (t:px row rs):px row (r::rs)
inductive js(row:List CS):List CS->List Tree->Prop
 |nil:js row [] []
 |back {cs:List CS} {x:Tree} {xs:List Tree} (h:Hs row x) (t:js row cs xs):js row (.back::cs) (x::xs)
 |one {c:CS} {cs:List CS} {x:Tree} {xs:List Tree} (h:aok c x) (t:js row cs xs):js row (c::cs) (x::xs)
end
mutual
def Fit:CS->Tree->Prop
 |.int k,x=>∃n,x=.sc (.int k n)/\(Lit.int k n).wf=true
 |.bool,x=>∃b,x=.sc (.bool b)
 |.str,x=>∃s,x=.sc (.string s)/\s.size<=maxLen
 |.sl row,x=>∃rows,x=.sl rows/\(rows.length<=maxLen/\rows.length*Rd row<=reachBytes)/\∀r∈rows,d6 row r
 |.any,_=>True
 |.mu row,x=>Hs row x
 |.back,_=>False
def d6:List CS->List Tree->Prop
 |[],[]=>True
 |c::cs,x::xs=>Fit c x/\d6 cs xs
 |_,_=>False
end
mutual
def oB:Tree->Nat
 |.sc (.string s)=>s.size+1
 |.sc _=>1
 |.sl rows=>AJ rows+1
def AJ:List (List Tree)->Nat
 |[]=>0
 |r::rs=>kZ r+AJ rs
def kZ:List Tree->Nat
 |[]=>0
 |x::xs=>oB x+kZ xs
end
theorem zQ:∀a b:List Tree,kZ (a++b)=kZ a+kZ b
 |[],b=>by simp[kZ]
 |x::a,b=>by simp[kZ,zQ a b];omega
structure Bk(H:Type) where
 b:DataW H->Nat
 a:List (DataW H)->Nat
 str:∀l,b (.lit (.string l))=l.length+1
 int:∀k n,b (.lit (.int k n))=1
 bool:∀v,b (.lit (.bool v))=1
 nil:b .nil=1
 sl:∀e s,b (.slice e s)=a e+a s+1
 agg:∀p,b (.agg p)=a p+1
 a0:a []=0
 a1:∀d r,a (d::r)=b d+a r
theorem Bk.app{H:Type}(K:Bk H)(l r:List (DataW H)):K.a (l++r)=K.a l+K.a r:=by
 induction l with
 |nil=>simp[K.a0]
 |cons x l ih=>grind [K.a1]
theorem Bk.drop{H:Type}(K:Bk H){l:List (DataW H×List MemPlace)}{j:Nat}{y:DataW H×List MemPlace}(h:l[j]? =some y):K.a ((l.map (·.1)).drop j)=K.b y.1+K.a ((l.map (·.1)).drop (j+1)):=by obtain⟨hj,rfl⟩:=cZ.1 h;rw[List.drop_eq_getElem_cons (by grind),K.a1];simp
def ye(P:Program)(go:TypeId->Option (List CS)):Nat->List Field->Option (List CS)
 |_,[]=>some []
 |o,f::fs=>(go f.type).bind λa=>if f.offset=o/\a.length=P.cellsOf f.type then(ye P go (o+a.length) fs).map (a++ ·)else none
def aeY(P:Program)(t u:TypeId):Option (List CS):=if u=t then some [.back]else match P.underlying u with
 |some (.int k)=>some [.int k]
 |some .bool=>some [.bool]
 |some .string=>some [.str]
 |_=>none
def SD(P:Program)(t e:TypeId):Option (List CS):=match P.underlying e with
 |some (.struct fs)=>(ye P (aeY P t) 0 fs.toList).bind λr=>if r.length=P.cellsOf e/\0<r.length then some r else none
 |_=>none
def Bi(P:Program)(cut:List TypeId):Nat->TypeId->Option (List CS)
 | 0,_=>none
 |n+1,t=>match P.underlying t with
  |some (.int k)=>some [.int k]
  |some .bool=>some [.bool]
  |some .string=>some [.str]
  |some (.slice e)=>if cut.contains t then(match SD P t e with|some row=>some [.mu row]|none=>some [.any])else(Bi P cut n e).bind λr=>if r.length=P.cellsOf e/\0<r.length/\Rd r<=P.bytesOf e then some [.sl r]else none
  |some (.struct fs)=>(ye P (Bi P cut n) 0 fs.toList).bind λr=>if r.length=P.cellsOf t then some r else none
  |some (.array m e)=>(Bi P cut n e).bind λr=>if r.length=P.cellsOf e/\m*r.length=P.cellsOf t then some (List.replicate m r).flatten else none
  |_=>none
theorem d6.length:∀(cs:List CS)(ts:List Tree),d6 cs ts->ts.length=cs.length
 |[],[],_=>rfl
 |c::cs,x::xs,h=>by simp[d6]at h;simp[d6.length cs xs h.2]
 |[],_::_,h|_::_,[],h=>by trivial
theorem d6.append:∀(cs:List CS)(ts:List Tree){cs':List CS}{ts':List Tree},d6 cs ts->d6 cs' ts'->d6 (cs++cs') (ts++ts')
 |[],[],_,_,_,h=>h
 |c::cs,x::xs,_,_,h,h'=>by simp at h ⊢;exact⟨h.1,d6.append cs xs h.2 h'⟩
 |[],_::_,_,_,h,_|_::_,[],_,_,h,_=>by trivial
def Here(w:World)(b:Nat):Prop:=b<w.heap.size
section
variable {w:World} {I:Nat->Prop}
theorem eC.append:∀(ts:List Tree)(cs:List Value){ts':List Tree}{cs':List Value},eC w I ts cs->eC w I ts' cs'->eC w I (ts++ts') (cs++cs')
 |[],[],_,_,_,h=>h
 |_::xs,_::vs,_,_,h,h'=>⟨h.1,eC.append xs vs h.2 h'⟩
 |[],_::_,_,_,h,_|_::_,[],_,_,h,_=>h.elim
theorem eC.length:∀(ts:List Tree)(cs:List Value),eC w I ts cs->ts.length=cs.length
 |[],[],_=>rfl
 |_::xs,_::vs,h=>by simp[eC.length xs vs h.2]
 |[],_::_,h|_::_,[],h=>h.elim
theorem aat:∀(ts:List Tree)(cs:List Value)(b aa:Nat),eC w I ts cs->(∀ i,i<cs.length->w.cell? ⟨b,aa+i,none⟩=cs[i]?)->ea w I ts b aa
 |[],[],_,_,_,_=>by trivial
 |x::xs,v::vs,b,aa,h,hc=>by
  refine⟨⟨v,by simpa using hc 0 (by simp),h.1⟩,aat xs vs b (aa+1) h.2 λi hi=>?_⟩;have:=hc (i+1) (by grind)
  grind
 |[],_::_,_,_,h,_|_::_,[],_,_,h,_=>h.elim
end
section
variable {H:Type} {enc:TypeId×Value->H} {P:Program} {w:World} {sp:Nat->Bool} {held:Bool}
theorem OJ{a:Addr}{v:Value}(h:w.cell? a=some v):a.spot=none/\a.block<w.heap.size:=by simp[World.cell?]at h;split at h;rename_i c e st hc;split at h;cases h;rename_i hs;exact⟨by simp_all,(Array.getElem?_eq_some_iff.1 hc).1⟩;cases h
def Ts(P:Program)(t:TypeId)(x:DataW H×List MemPlace):Prop:=∀k∈x.1.weights P t,k<=reachBytes
theorem yh{e:TypeId}:∀{l:List (DataW H)}{d:DataW H},d∈l->∀k∈d.weights P e,k∈DataW.weightsAll P e l
 |a::l,d,h,k,hk=>by simp[DataW.weightsAll];rcases aR.1 h with rfl|h;exact .inl hk;exact .inr (yh h k hk)
theorem QL(m:Nat)(cs:List Value)(go:TypeId->Option (List CS))(hgo:∀t sh,go t=some sh->∀cs x,DataW.trod enc P w 0 sp held m t cs=some x->Ts P t x->∃ts,eC w (Here w) ts cs/\d6 sh ts/\∀K:Bk H,kZ ts<=K.b x.1):
 ∀(fs:List Field)(l:List (DataW H×List MemPlace))(o:Nat)(sh:List CS),ye P go o fs=some sh->l.length=fs.length->(∀ (i:Nat) (f:Field) (x:DataW H×List MemPlace),fs[i]? =some f->l[i]? =some x->DataW.trod enc P w 0 sp held m f.type ((cs.drop f.offset).take (P.cellsOf f.type))=some x/\Ts P f.type x)->
  ∃ts,eC w (Here w) ts ((cs.drop o).take sh.length)/\d6 sh ts/\∀K:Bk H,kZ ts<=K.a (l.map (·.1))
 |[],l,o,sh,h,_,_=>by
  simp[ye]at h
  grind [eC,d6,kZ]
 |f::fs,[],o,sh,h,hl,hf=>by grind
 |f::fs,x::l,o,sh,h,hl,hf=>by simp only[ye,ah]at h;obtain⟨a,h1,h2⟩:=h;split at h2;rename_i hc;obtain⟨hc1,hc2⟩:=hc;simp at h2;obtain⟨r,h3,rfl⟩:=h2;have⟨hx,hz⟩:=hf 0 f x rfl rfl;obtain⟨ts,g1,g2,k1⟩:=hgo _ _ h1 _ _ hx hz;obtain⟨ts',g3,g4,k2⟩:=QL m cs go hgo fs l _ _ h3 (by grind) λi f' x' hf' hx'=>hf (i+1) f' x' hf' hx';refine⟨ts++ts',?_,d6.append _ _ g2 g4,λK=>by have:=k1 K;have:=k2 K;rw[zQ,bH,K.a1];omega⟩;rw[fO,List.take_add,List.drop_drop];rw[hc1,<- hc2]at g1;exact eC.append _ _ g1 g3;cases h2
theorem js.append{row:List CS}:∀{a b:List CS}{x y:List Tree},js row a x->js row b y->js row (a++b) (x++y)
 |_,_,_,_,.nil,h=>h
 |_,_,_,_,.back h t,h'=>.back h (t.append h')
 |_,_,_,_,.one h t,h'=>.one h (t.append h')
theorem LM{row:List CS}(m:Nat)(cs:List Value)(go:TypeId->Option (List CS))(hgo:∀t sh,go t=some sh->∀cs x,DataW.trod enc P w 0 sp held m t cs=some x->∃ts,eC w (Here w) ts cs/\js row sh ts/\∀K:Bk H,kZ ts<=K.b x.1):
 ∀(fs:List Field)(l:List (DataW H×List MemPlace))(o:Nat)(sh:List CS),ye P go o fs=some sh->l.length=fs.length->(∀ (i:Nat) (f:Field) (x:DataW H×List MemPlace),fs[i]? =some f->l[i]? =some x->DataW.trod enc P w 0 sp held m f.type ((cs.drop f.offset).take (P.cellsOf f.type))=some x)->
  ∃ts,eC w (Here w) ts ((cs.drop o).take sh.length)/\js row sh ts/\∀K:Bk H,kZ ts<=K.a (l.map (·.1))
 |[],l,o,sh,h,_,_=>by simp[ye]at h;subst h;exact⟨[],by trivial,.nil,λK=>by simp[kZ]⟩
 |f::fs,[],o,sh,h,hl,hf=>by grind
 |f::fs,x::l,o,sh,h,hl,hf=>by simp only[ye,ah]at h;obtain⟨a,h1,h2⟩:=h;split at h2;rename_i hc;obtain⟨hc1,hc2⟩:=hc;simp at h2;obtain⟨r,h3,rfl⟩:=h2;have hx:=hf 0 f x rfl rfl;obtain⟨ts,g1,g2,k1⟩:=hgo _ _ h1 _ _ hx;obtain⟨ts',g3,g4,k2⟩:=LM m cs go hgo fs l _ _ h3 (by grind) λi f' x' hf' hx'=>hf (i+1) f' x' hf' hx';refine⟨ts++ts',?_,g2.append g4,λK=>by have:=k1 K;have:=k2 K;rw[zQ,bH,K.a1];omega⟩;rw[fO,List.take_add,List.drop_drop];rw[hc1,<- hc2]at g1;exact eC.append _ _ g1 g3;cases h2
theorem alE{t e:TypeId}{row:List CS}(hk:P.underlying t=some (.slice e))(hm:SD P t e=some row):∀(fuel:Nat)(cs:List Value)(x:DataW H×List MemPlace),DataW.trod enc P w 0 sp held fuel t cs=some x->∃tr,eC w (Here w) [tr] cs/\Hs row tr/\∀K:Bk H,oB tr<=K.b x.1:=by
 intro fuel
 induction fuel using Nat.strongRecOn with
 |_ fuel ih=>
 intro cs x hx;have one:∀m,m<fuel->∀tG y,DataW.trod enc P w 0 sp held m e tG=some y->∃ts,eC w (Here w) ts tG/\js row row ts/\ts.length=row.length/\∀K:Bk H,kZ ts<=K.b y.1:=by
  intro m hmf tG y hy;unfold SD at hm;split at hm;rename_i fs hke;simp only[ah]at hm;obtain⟨r,h1,h2⟩:=hm;split at h2;rename_i hr;injection h2 with h2;subst h2;obtain⟨xs,m',hm',rfl,hl,hxs,hf⟩:=DataW.trod_struct hke hy;obtain⟨ts,g1,g2,k1⟩:=LM (row:=r) m' tG (aeY P t) (λ u sh hsh cs x hx=>by unfold aeY at hsh;split at hsh;rename_i hu;cases hsh;rw[hu]at hx;obtain⟨tr,a1,a2,a3⟩:=ih m' (by omega) cs x hx;exact⟨[tr],a1,.back a2 .nil,λK=>by grind [kZ]⟩;split at hsh;rename_i k CD;cases hsh;obtain⟨v,rfl,rfl,hw⟩:=DataW.trod_int CD hx;exact⟨[.sc (.int k v)],by simp[eC,TR,oneCell],.one ⟨v,rfl,hw⟩ .nil,λK=>by simp[kZ,oB,K.int]⟩;rename_i CD;cases hsh;obtain⟨v,rfl,rfl⟩:=DataW.trod_bool CD hx;exact⟨[.sc (.bool v)],by simp[eC,TR,oneCell],.one ⟨v,rfl⟩ .nil,λK=>by simp[kZ,oB,K.bool]⟩;rename_i CD;cases hsh;obtain⟨v,rfl,rfl,hw⟩:=DataW.trod_string CD hx;exact⟨[.sc (.string v)],by simp[eC,TR,oneCell],.one ⟨v,rfl,hw⟩ .nil,λK=>by simp[kZ,oB,K.str]⟩;cases hsh) fs.toList xs 0 r h1 (by simpa using hxs) (λ i f x hi hxi=>by have hi':fs[i]? =some f:=(by simpa using hi);rw[hf i f hi',hxi]);rw[List.drop_zero,take_of_length_le (by omega)]at g1;refine⟨ts,g1,g2,?_,λK=>by have:=k1 K;rw[K.agg];omega⟩;rw[eC.length _ _ g1];omega;cases h2;cases hm
 have rl:row.length=P.cellsOf e/\0<row.length:=by unfold SD at hm;split at hm;simp only[ah]at hm;obtain⟨r,h1,h2⟩:=hm;split at h2;rename_i hr;cases h2;exact hr;cases h2;cases hm
 rcases DataW.trod_slice hk hx with ⟨rfl,rfl⟩|⟨a,len,cap,elems,ae,m,hfm,rfl,rfl,_,hl,hmx,hlen,hel,_,_⟩;refine⟨.sl [],?_,.mk [] (by simp[maxLen]) .nil,λK=>by simp[oB,AJ,K.nil]⟩;simp only[eC,TR];exact⟨.inl ⟨trivial,none,0,rfl,λ_=>rfl⟩,trivial⟩;have each:∀i,i<len->∃tG y,w.cells? 0 (a.add (i*P.cellsOf e)) (P.cellsOf e)=some tG/\DataW.trod enc P w 0 sp held m e tG=some y/\elems[i]? =some y:=by intro i hi;have h3:=hel i hi;have h6:elems[i]? =some (elems[i]'(by omega)):=dD (by omega);rw[h6,ah]at h3;obtain⟨tG,h4,h5⟩:=h3;exact⟨tG,_,h4,h5,h6⟩
 by_cases h0:len=0;subst h0;refine⟨.sl [],?_,.mk [] (by simp[maxLen]) .nil,λK=>by simp[oB,AJ,K.sl]⟩;simp only[eC,TR];exact⟨.inl ⟨trivial,some a,cap,rfl,λh=>by cases h⟩,trivial⟩;obtain⟨cs0,y0,c0,_,_⟩:=each 0 (by omega);obtain⟨_,c1,c2⟩:=World.cells?_some c0;have c3:=c2 0 (by omega);rw[dD (by omega)]at c3;have c4:=OJ c3;simp[Nat.zero_mul,Addr.add,if_true]at c4;obtain⟨b,aa,s⟩:=a;simp at c4;obtain⟨rfl,hb⟩:=c4;have rows:∀q j,j+q=len->∃rows:List (List Tree),rows.length=q/\ct w (Here w) rows b (aa+j*P.cellsOf e) (P.cellsOf e)/\px row rows/\∀K:Bk H,AJ rows<=K.a ((elems.map (·.1)).drop j):=by
  intro q
  induction q with
  |zero=>intro j _;exact⟨[],rfl,by simp[ct],.nil,λK=>by simp[AJ]⟩
  |succ q ihq=>
   intro j hj;obtain⟨rows,g1,g2,g3,k3⟩:=ihq (j+1) (by omega);obtain⟨csj,y,g4,g5,gy⟩:=each j (by omega);obtain⟨ts,g6,g7,_,k6⟩:=one m (by omega) _ _ g5;obtain⟨_,g8,g9⟩:=World.cells?_some g4;refine⟨ts::rows,by simp[g1],?_,.cons g7 g3,λK=>by have:=k3 K;have:=k6 K;rw[K.drop gy,AJ];omega⟩;simp[ct];refine⟨(eC.length _ _ g6).trans g8,aat _ _ _ _ g6 λi hi=>?_,?_⟩;rw[<- g9 i (by omega),addr_add,addr_add];rw[show aa+j*P.cellsOf e+P.cellsOf e=aa+(j+1)*P.cellsOf e by rw[Nat.add_mul];omega];exact g2
 obtain⟨rows,g1,g2,g3,k3⟩:=rows len 0 (by omega);refine⟨.sl rows,?_,.mk rows (by omega) g3,λK=>by have:=k3 K;rw[List.drop_zero]at this;rw[K.sl,oB];omega⟩;simp only[eC,TR];exact⟨.inr ⟨b,aa,cap,P.cellsOf e,by rw[g1],by omega,hb,by simpa using g2⟩,trivial⟩
theorem DJ{cut:List TypeId}:∀(n:Nat)(t:TypeId)(sh:List CS),Bi P cut n t=some sh->∀(fuel:Nat)(cs:List Value)(x:DataW H×List MemPlace),DataW.trod enc P w 0 sp held fuel t cs=some x->Ts P t x->
 ∃ts,eC w (Here w) ts cs/\d6 sh ts/\∀K:Bk H,kZ ts<=K.b x.1
 | 0,_,_,h,_,_,_,_,_=>by trivial
 |n+1,t,sh,h,fuel,cs,x,hx,hz=>by
  unfold Bi at h;split at h;rename_i k hk;cases h;obtain⟨v,rfl,rfl,hw⟩:=DataW.trod_int hk hx;exact⟨[.sc (.int k v)],by simp[eC,TR,oneCell],by simp only[d6,Fit];exact⟨⟨v,rfl,hw⟩,trivial⟩,λK=>by simp[kZ,oB,K.int]⟩;rename_i hk;cases h;obtain⟨v,rfl,rfl⟩:=DataW.trod_bool hk hx;exact⟨[.sc (.bool v)],by simp[eC,TR,oneCell],by simp only[d6,Fit];exact⟨⟨v,rfl⟩,trivial⟩,λK=>by simp[kZ,oB,K.bool]⟩;rename_i hk;cases h;obtain⟨v,rfl,rfl,hw⟩:=DataW.trod_string hk hx;exact⟨[.sc (.string v)],by simp[eC,TR,oneCell],by simp only[d6,Fit];exact⟨⟨v,rfl,hw⟩,trivial⟩,λK=>by simp[kZ,oB,K.str]⟩;rename_i e hk;split at h;split at h;rename_i row hmr;cases h;have⟨tr,g1,g2,k1⟩:=alE hk hmr fuel cs x hx;exact⟨[tr],g1,by simp only[d6,Fit];exact⟨g2,trivial⟩,λK=>by have:=k1 K;simp only[kZ];omega⟩;cases h;rcases DataW.trod_slice hk hx with ⟨rfl,rfl⟩|⟨a,len,cap,elems,ae,m,_,rfl,rfl,_,hl,hm,hlen,hel,_,_⟩;exact⟨[.sc (.slice none 0 0)],by simp[eC,TR,oneCell],by simp[d6,Fit],λK=>by simp[kZ,oB,K.nil]⟩;exact⟨[.sc (.slice (some a) len cap)],by simp[eC,TR,oneCell],by simp[d6,Fit],λK=>by simp[kZ,oB,K.sl]⟩;simp only[ah]at h;obtain⟨r,h1,h2⟩:=h;split at h2;rename_i hr;cases h2;rcases DataW.trod_slice hk hx with ⟨rfl,rfl⟩|⟨a,len,cap,elems,ae,m,_,rfl,rfl,_,hl,hm,hlen,hel,_,_⟩;refine⟨[.sl []],?_,by simp only[d6,Fit];exact⟨⟨[],rfl,by simp[maxLen],by simp⟩,trivial⟩,λK=>by simp[kZ,oB,AJ,K.nil]⟩;simp only[eC,TR];exact⟨.inl ⟨trivial,none,0,rfl,λ_=>rfl⟩,trivial⟩;have hzw:∀k,k=(elems.length+ae.length)*P.bytesOf e\/k∈DataW.weightsAll P e (elems.map (·.1))->k<=reachBytes:=by intro k hkk;refine hz k ?_;simp only[DataW.weights,hk,aR,bK,length_map];rcases hkk with h|h;exact .inl h;exact .inr (.inl h)
  have each:∀i,i<len->∃tG y,w.cells? 0 (a.add (i*P.cellsOf e)) (P.cellsOf e)=some tG/\DataW.trod enc P w 0 sp held m e tG=some y/\Ts P e y/\elems[i]? =some y:=by intro i hi;have h3:=hel i hi;have h6:elems[i]? =some (elems[i]'(by omega)):=dD (by omega);rw[h6,ah]at h3;obtain⟨tG,h4,h5⟩:=h3;exact⟨tG,_,h4,h5,λk hk=>hzw k (.inr (yh (mem_map.2 ⟨_,List.getElem_mem (by omega),rfl⟩) k hk)),h6⟩
  have hbytes:len*Rd r<=reachBytes:=by have h1:=hzw _ (.inl rfl);have h2:len*Rd r<=(elems.length+ae.length)*P.bytesOf e:=Nat.mul_le_mul (by omega) hr.2.2;omega
  by_cases h0:len=0;subst h0;refine⟨[.sl []],?_,by simp only[d6,Fit];exact⟨⟨[],rfl,by simp[maxLen],by simp⟩,trivial⟩,λK=>by simp[kZ,oB,AJ,K.sl]⟩;simp only[eC,TR];exact⟨.inl ⟨trivial,some a,cap,rfl,λh=>by cases h⟩,trivial⟩;obtain⟨cs0,y0,c0,_,_,_⟩:=each 0 (by omega);obtain⟨_,c1,c2⟩:=World.cells?_some c0;have c3:=c2 0 (by omega);rw[dD (by omega)]at c3;have c4:=OJ c3;simp[Nat.zero_mul,Addr.add,if_true]at c4;obtain⟨b,aa,s⟩:=a;simp at c4;obtain⟨rfl,hb⟩:=c4;have rows:∀m j,j+m=len->∃rows:List (List Tree),rows.length=m/\ct w (Here w) rows b (aa+j*P.cellsOf e) (P.cellsOf e)/\(∀ x∈rows,d6 r x)/\∀K:Bk H,AJ rows<=K.a ((elems.map (·.1)).drop j):=by
   intro m
   induction m with
   |zero=>intro j _;exact⟨[],rfl,by simp[ct],by simp,λK=>by simp[AJ]⟩
   |succ m ih=>
    intro j hj;obtain⟨rows,g1,g2,g3,k3⟩:=ih (j+1) (by omega);obtain⟨csj,y,g4,g5,g5z,gy⟩:=each j (by omega);obtain⟨ts,g6,g7,k6⟩:=DJ n e r h1 _ _ _ g5 g5z;obtain⟨_,g8,g9⟩:=World.cells?_some g4;refine⟨ts::rows,by simp[g1],?_,λx hx=>?_,λK=>by have:=k3 K;have:=k6 K;rw[K.drop gy,AJ];omega⟩;simp[ct];refine⟨(eC.length _ _ g6).trans g8,aat _ _ _ _ g6 λi hi=>?_,?_⟩;rw[<- g9 i (by omega),addr_add,addr_add];rw[show aa+j*P.cellsOf e+P.cellsOf e=aa+(j+1)*P.cellsOf e by rw[Nat.add_mul];omega];exact g2;rcases aR.1 hx with rfl|hx;exact g7;exact g3 x hx
  obtain⟨rows,g1,g2,g3,k3⟩:=rows len 0 (by omega);refine⟨[.sl rows],?_,by simp only[d6,Fit];exact⟨⟨rows,rfl,⟨by omega,by rw[g1];exact hbytes⟩,g3⟩,trivial⟩,λK=>by have:=k3 K;rw[List.drop_zero]at this;rw[K.sl];simp[kZ,oB];omega⟩;simp only[eC,TR];exact⟨.inr ⟨b,aa,cap,P.cellsOf e,by rw[g1],by omega,hb,by simpa using g2⟩,trivial⟩;cases h2;rename_i fs hk;simp only[ah]at h;obtain⟨r,h1,h2⟩:=h;split at h2;rename_i hr;injection h2 with h2;subst h2;obtain⟨xs,m,_,rfl,hl,hxs,hf⟩:=DataW.trod_struct hk hx;obtain⟨ts,g1,g2,k1⟩:=QL m cs (Bi P cut n) (λ t sh hsh cs x hx hz=>DJ n t sh hsh m cs x hx hz) fs.toList xs 0 r h1 (by simpa using hxs) (λ i f x hi hxi=>by have hi':fs[i]? =some f:=(by simpa using hi);have:=hf i f hi';rw[hxi]at this;refine⟨this,λk hk'=>hz k ?_⟩;simp[DataW.weights,hk];exact DataW.weights_mem_each (j:=i) (t:=f.type) (d:=x.1) (by simp[hi']) (by simp[hxi]) k hk');refine⟨ts,?_,g2,λK=>by have:=k1 K;rw[K.agg];omega⟩;rw[List.drop_zero,take_of_length_le (by omega)]at g1;exact g1;cases h2;rename_i m e hk;simp only[ah]at h;obtain⟨r,h1,h2⟩:=h;split at h2;rename_i hr;cases h2;obtain⟨xs,q,_,rfl,hl,hxs,hf⟩:=DataW.trod_array hk hx;have part:∀i j,j+i=m->∃ts,eC w (Here w) ts (cs.drop (j*P.cellsOf e))/\d6 (List.replicate i r).flatten ts/\∀K:Bk H,kZ ts<=K.a ((xs.map (·.1)).drop j):=by
   intro i
   induction i with
   |zero=>
    intro j hj;refine⟨[],?_,by simp[d6],λK=>by simp[kZ]⟩;have:j=m:=(by omega);subst this;rw[List.drop_of_length_le (by rw[hl,<- hr.2,<- hr.1];omega)];simp[eC]
   |succ i ih=>
    intro j hj;obtain⟨ts,g1,g2,k1⟩:=ih (j+1) (by omega);have:=hf j (by omega);have hxj:xs[j]? =some (xs[j]'(by omega)):=dD (by omega);rw[hxj]at this;obtain⟨ts0,g3,g4,k3⟩:=DJ n e r h1 _ _ _ this (λ k hk'=>hz k (by simp[DataW.weights,hk];exact yh (mem_map.2 ⟨_,List.getElem_mem (by omega),rfl⟩) k hk'));refine⟨ts0++ts,?_,?_,λK=>by have:=k1 K;have:=k3 K;rw[K.drop hxj,zQ];omega⟩;have:=eC.append _ _ g3 g1;rw[show (j+1)*P.cellsOf e=j*P.cellsOf e+P.cellsOf e by rw[Nat.add_mul];omega,<- List.drop_drop,List.take_append_drop]at this;exact this;exact d6.append _ _ g4 g2
  obtain⟨ts,g1,g2,k1⟩:=part m 0 (by omega);exact⟨ts,by simpa using g1,g2,λK=>by have:=k1 K;rw[List.drop_zero]at this;rw[K.agg];omega⟩;cases h2;cases h
inductive VS where
 |one (c:CS)
 |agg (cs:List CS)
def Nd(P:Program)(cut:List TypeId)(t:TypeId):Option VS:=
 (Bi P cut 12 t).bind λsh=>match P.underlying t with
  |some (.struct _)|some (.array _ _)=>some (.agg sh)
  |_=>match sh with
   |[c]=>some (.one c)
   |_=>none
def G3:VS->TV->Prop
 |.one c,x=>∃y,x=.s y/\Fit c y
 |.agg cs,x=>∃ys,x=.a ys/\d6 cs ys
def UE:List VS->List TV->Prop
 |[],[]=>True
 |s::ss,x::xs=>G3 s x/\UE ss xs
 |_,_=>False
def ON:TV->Nat
 |.s y=>oB y
 |.a ys=>kZ ys
def UF:List TV->Nat
 |[]=>0
 |x::xs=>ON x+UF xs
theorem ajM{cut:List TypeId}{t:TypeId}{s:VS}{v:Value}{d:DataW H}{ps:List MemPlace}{b0:Nat}(hs:Nd P cut t=some s)(hval:Value.okWide P w .any b0 t v)(hd:DataW.Trod enc P w 0 sp held t v d ps)(hz:∀k∈d.weights P t,k<=reachBytes):
 ∃x,tP w (Here w) x v/\G3 s x/\∀K:Bk H,ON x<=K.b d:=by
 obtain⟨fuel,hf⟩:=hd;simp[Nd,ah]at hs;obtain⟨sh,h1,h2⟩:=hs;obtain⟨ts,g1,g2,k1⟩:=DJ 12 t sh h1 _ _ _ hf hz;have hag:∀cs:Array Value,v=.agg cs->s=.agg sh->∃x,tP w (Here w) x v/\G3 s x/\∀K:Bk H,ON x<=K.b d:=by rintro cs rfl rfl;exact⟨.a ts,⟨cs,rfl,by trivial⟩,⟨ts,rfl,g2⟩,k1⟩
 unfold Value.okWide at hval;split at h2;rename_i hu;injection h2 with h2;rw[hu]at hval;obtain⟨cs,rfl,_⟩:=hval;exact hag cs rfl h2.symm;rename_i hu;injection h2 with h2;rw[hu]at hval;obtain⟨cs,rfl,_⟩:=hval;exact hag cs rfl h2.symm;split at h2;cases h2;have hone:v.cells.toList=[v]:=by
  cases hu:P.underlying t with
  |none=>simp_all [hu,Cell.okWide,Cell.ok]
  |some d=>
   rw[hu]at hval;cases v<;>first|rfl|(exfalso;revert hval;cases d<;>simp_all [Cell.okWide,Cell.ok])
 rw[hone]at g1
 match ts,g1,g2,k1 with
 |[y],g1,g2,k1=>
  simp only[d6]at g2;exact⟨.s y,g1.1,⟨y,rfl,g2.1⟩,λK=>by have:=k1 K;simpa[kZ,ON]using this⟩
 |[],g1,_,_=>exact g1.elim
 |_::_::_,g1,_,_=>exact g1.2.elim
 cases h2
theorem Y0{cut:List TypeId}:∀{ts:List TypeId}{ss:List VS}{vs:List Value}{ds:List (DataW H)}{ps:List MemPlace}{b0:Nat},ts.mapM (Nd P cut)=some ss->
 (∀ (j:Nat) t v,ts[j]? =some t->vs[j]? =some v->Value.okWide P w .any b0 t v)->DataW.TrodAll enc P w 0 sp held ts vs ds ps->(∀ k∈DataW.weightsEach P ts ds,k<=reachBytes)->∃xs,nb w (Here w) xs vs/\UE ss xs/\∀K:Bk H,UF xs<=K.a ds
 |[],ss,vs,ds,ps,b0,hs,_,hd,_=>by obtain⟨rfl,rfl,rfl⟩:=trodAll_nil hd;simp at hs;subst hs;exact⟨[],trivial,trivial,λK=>by simp[UF]⟩
 |t::ts,ss,vs,ds,ps,b0,hs,hval,hd,hz=>by obtain⟨v,vs',d,ds',p,q,rfl,rfl,rfl,h0,r0⟩:=trodAll_cons hd;simp[ah]at hs;obtain⟨s,h1,ss',h2,rfl⟩:=hs;obtain⟨x,g1,g2,k1⟩:=ajM h1 (hval 0 t v rfl rfl) h0 (λ k hk=>hz k (by grind [DataW.weightsEach]));obtain⟨xs,g3,g4,k2⟩:=Y0 h2 (λ j t v h h'=>hval (j+1) t v h h') r0 (λ k hk=>hz k (by grind [DataW.weightsEach]));exact⟨x::xs,⟨g1,g3⟩,⟨g2,g4⟩,λK=>by have:=k1 K;have:=k2 K;rw[UF,K.a1];omega⟩
theorem QM{β:Nat->Option cy}{I:Nat->Prop}:∀(xs:List TV)(vs:List Value),nb w I xs vs->bk P β w I (xs.map TV.av) vs
 |[],[],_=>by trivial
 |x::xs,v::vs,h=>by
  refine⟨?_,QM xs vs h.2⟩;have h1:=h.1;cases x with
  |s y=>trivial
  |a cs=>
   obtain⟨us,rfl,h2⟩:=h1;refine⟨us,rfl,?_⟩;have:∀(cs:List Tree) (us:List Value),eC w I cs us->bk P β w I (cs.map AV.t) us:=by
    intro cs
    induction cs with
    |nil=>intro us h;cases us<;>first|trivial|grind
    |cons c cs ih=>intro us h;cases us with
     |nil=>trivial
     |cons u us=>simp;exact⟨h.1,ih us h.2⟩
   grind
 |[],_::_,h|_::_,[],h=>h.elim
end
section
variable {H:Type} {enc:TypeId×Value->H} {P:Program}
theorem aeZ{f:Func}{s:ChangeSpec}{apart fresh handsOn again:Bool}{W W':World}{args:Array Value}{v:Value}{ds gs:List (DataW H)}{before pa pv:List MemPlace}
 (hW:DataW.Whole enc P f.params.toList s.vars apart W args.toList ds gs before)
 (hres:∀(b:Nat)(sp:Nat->Bool)(hd:Bool),DataW.TrodAll enc P W' b sp hd f.resultTypes.toList (v.resultList f.resultTypes.size) (s.fn H (ds++gs)).results [])
 (hargs:∀sp:Nat->Bool,(∀ p∈before,sp p.block=true)->DataW.TrodAll enc P W' 0 sp true f.params.toList args.toList (s.fn H (ds++gs)).args pa)
 (hvars:∀sp:Nat->Bool,(∀ p∈before,sp p.block=true)->DataW.TrodVars enc P W' sp s.vars (s.fn H (ds++gs)).vars pv)
 (hps:before=pa++pv) (hb:Below W.heap.size W W')
 (hok:∀(j:Nat)(t:TypeId)(r:Value),f.resultTypes[j]? =some t->(v.resultList f.resultTypes.size)[j]? =some r->Value.okWide P W' .any 0 t r):
 s.post enc P f apart fresh handsOn again W args v W':=by
 have hlt:∀p∈before,p.block<W.heap.size:=λp hp=>hW.lt p hp;have hold:∀p∈before,(λ b=>decide (b<W.heap.size)) p.block=true:=λp hp=>by simpa using hlt p hp
 refine⟨ds,gs,before,[],pa,pv,hW,hres _ _ _,hargs _ hold,hvars _ hold,World.keptBut_mono (λ p hp=>⟨hp,?_⟩) (hb.frame (· ∈before)),λ_=>?_⟩;rw[hps,bK]at hp;exact Or.inr hp;obtain⟨_,_,_,_,_,hz,hn⟩:=hW;refine⟨hok,_,_,([]++pa)++pv,⟨[]++pa,pv,trodAll_append (hargs _ (λ _ _=>rfl)) (hres _ _ _),hvars _ (λ _ _=>rfl),rfl,?_,?_⟩,?_⟩;intro b aa hp;have hin:MemPlace.cell b aa∈before:=by rw[hps];simpa using hp
 rw[hb.frozen (hlt _ hin)];exact hz b aa hin;intro ha;have:=hn ha;rw[hps]at this;simpa using this;intro p hp _;rw[hps];simpa using hp
theorem Ke(hl:laidOutB P=true){W W':World}(hb:Below W.heap.size W W'):∀{ts:List TypeId}{vs:List Value}{ds:List (DataW H)}{ps:List MemPlace},(∀ t∈ts,P.readableRec t=true/\t<P.types.size)->
 DataW.TrodAll enc P W 0 (λ _=>true) true ts vs ds ps->(∀ x∈ps,x.block<W.heap.size)->∀sp:Nat->Bool,(∀ p∈ps,sp p.block=true)->DataW.TrodAll enc P W' 0 sp true ts vs ds ps
 |[],vs,ds,ps,_,hd,_,sp,_=>by obtain⟨rfl,rfl,rfl⟩:=trodAll_nil hd;exact trodAll_mk0
 |t::ts,vs,ds,ps,ht,hd,hlt,sp,hsp=>by
  obtain⟨v,vs',d,ds',p,q,rfl,rfl,rfl,h0,r0⟩:=trodAll_cons hd;obtain⟨h1,h2⟩:=ht t (by simp)
  exact trodAll_cons_mk (WideElems.Trod_stays hl h1 h2 h0 (λ x hx=>hb.same (hlt x (by simp[hx]))) (λ x hx=>hsp x (by simp[hx])))
   (Ke hl hb (λ t ht'=>ht t (by simp[ht'])) r0 (λ x hx=>hlt x (by simp[hx])) sp (λ x hx=>hsp x (by simp[hx])))
theorem QN{w:World}{base:Nat}{sp:Nat->Bool}{held:Bool}:∀{ts:List TypeId}{vs:List Value}{ds:List (DataW H)}{ps:List MemPlace},DataW.TrodAll enc P w base sp held ts vs ds ps->ds.length=ts.length
 |[],_,_,_,h=>by obtain⟨_,rfl,_⟩:=trodAll_nil h;rfl
 |_::_,_,_,_,h=>by obtain⟨_,_,_,_,_,_,_,rfl,_,_,h2⟩:=trodAll_cons h;simp[QN h2]
theorem acp:∀{ts:List TypeId}{ds:List (DataW H)}{vt:List TypeId}{gs:List (DataW H)},ds.length=ts.length->∀k∈DataW.weightsEach P ts ds,k∈DataW.weightsEach P (ts++vt) (ds++gs)
 |[],[],_,_,_,k,h=>by simp[DataW.weightsEach]at h
 |t::ts,d::ds,vt,gs,hl,k,h=>by simp[DataW.weightsEach]at h ⊢;rcases h with h|h;exact .inl h;exact .inr (acp (by simpa using hl) k h)
 |[],_::_,_,_,h,_,_|_::_,[],_,_,h,_,_=>by simp at h
theorem aau{cut:List TypeId}{C:Checked}{f:FuncId}{fn:Func}{s:ChangeSpec}{ss:List VS}{tb:TypeId}(hl:laidOutB C.prog=true)(hread:(fn.params.toList.all λt=>C.prog.readableRec t&&decide (t<C.prog.types.size))=true)
 (hss:fn.params.toList.mapM (Nd C.prog cut)=some ss) (hvars:s.vars=[]) (hres:fn.resultTypes=#[tb]) (hb:C.prog.underlying tb=some .bool)
 (hs:∀ds:List (DataW H),ds.length=fn.params.toList.length->s.fn H ds={ results:=[.lit (.bool true)],args:=ds })
 {B:Nat->Prop} (ZS:∀xs,UE ss xs->(∀ n,B n->UF xs<=n)->tc C.prog f (xs.map TV.av) (.one (.d (.s (.sc (.bool true))))))
 {W:World} {base:Nat} {args:Array Value} {ds gs:List (DataW H)} {before:List MemPlace}
 (hval:∀(j:Nat) t v,fn.params[j]? =some t->args[j]? =some v->Value.okWide C.prog W .any base t v)
 (hW:DataW.Whole enc C.prog fn.params.toList s.vars false W args.toList ds gs before)
 {vt:List TypeId} (hz:(DataW.weightsEach C.prog (fn.params.toList++vt) (ds++gs)).all (· <=reachBytes)=true) (hv:j0 W (Here W)) (hB:∀n,B n->∃K:Bk H,K.a ds<=n):
 Calls C.prog f args W λe W'=>∃v,e=.returned v/\s.post enc C.prog fn false true false false W args v W':=by
 have hW':=hW;obtain⟨p,q,hA,hV,rfl,_,_⟩:=hW;rw[hvars]at hV;obtain⟨rfl,rfl⟩:=trodVars_none hV;have hlen:=QN hA;obtain⟨xs,g1,g2,g3⟩:=Y0 hss (λ j t v h1 h2=>hval j t v (by simpa using h1) (by simpa using h2)) hA (λ k hk=>by have:=all_eq_true.1 hz k (acp hlen k hk);simpa using this);simp at hW';have hlt:∀x∈p,x.block<W.heap.size:=λx hx=>hW'.lt x hx;refine((ZS xs g2 (λ n hn=>by have⟨K,hK⟩:=hB n hn;exact Nat.le_trans (g3 K) hK)).2 W (Here W) args (λ _ h=>h) hv (QM _ _ g1)).mono λe W' ⟨v,I',he,hbel,_,_,_,hr⟩=>⟨v,he,?_⟩;simp[ra]at hr;obtain⟨rfl,_⟩:=hr;have hfn:s.fn H (ds++[])={ results:=[.lit (.bool true)],args:=ds }:=by rw[append_nil];exact hs ds hlen
 refine aeZ (pa:=p) (pv:=[]) hW' (λ b sp hd=>?_) (λ sp hsp=>?_) (λ sp _=>?_) (by simp) hbel (ok_one (by rw[hres]) rfl (okWide_bool_mk hb _));rw[hfn,hres];exact trodAll_mk1 (shut_bool hb _);rw[hfn];refine Ke hl hbel (λ t ht=>?_) hA hlt sp hsp;have:=all_eq_true.1 hread t ht;simpa using this;rw[hfn,hvars];rfl
end
def amX:A0->TypeDesc->Bool
 |.slice e,.slice e'=>e==e'
 |.arr n e,.array n' e'=>n==n'&&e==e'
 |.struct fs,.struct fa=>fa.toList.map (λ f=>(f.offset,f.type))==fs
 |.bool,.bool=>true
 |.str,.string=>true
 |.int k,.int k'=>k==k'
 |.map k e,.map k' e'=>k==k'&&e==e'
 |.other,_=>true
 |_,_=>false
def ajN:Value->Value->Bool
 |.int k a,.int k' b=>k==k'&&a==b
 |.bool a,.bool b=>a==b
 |.string a,.string b=>decide (a=b)
 |.slice none 0 0,.slice none 0 0=>true
 |.pointer none,.pointer none=>true
 |.nilFunc,.nilFunc=>true
 |.nilIface,.nilIface=>true
 |.map none,.map none=>true
 |_,_=>false
theorem acr{a b:Value}(h:ajN a b=true):a=b:=by unfold ajN at h;split at h<;>simp_all
def UG:List Value->List Value->Bool
 |[],[]=>true
 |a::as,b::bs=>ajN a b&&UG as bs
 |_,_=>false
theorem LP:∀{a b:List Value},UG a b=true->a=b
 |[],[],_=>rfl
 |a::as,b::bs,h=>by simp[UG]at h;rw[acr h.1,LP h.2]
 |[],_::_,h|_::_,[],h=>by simp[UG]at h
def ajO(P:Program)(t:TypeId)(ti:pw):Bool:=
 match P.info? t,P.underlying t with
 |some info,some d=>match info.zero with
  |some z=>info.size==ti.size&&info.bytes==ti.bytes&&sX d==ti.agg&&amX ti.k d&&ti.zero.all jn&&ti.zero.length==ti.size&&
   (ti.cmp.isEmpty || match d with
    |.struct fa=>!P.stoodInHeld t&&!P.eqGuardType P.depth t&&gE P 0 fa.toList ti.cmp
    |.array _ _=>ti.cmp==[9]&&!P.eqGuardType P.depth t
    |_=>false)&&UG z.cells.toList ti.zero&&td ti.agg z
  |none=>false
 |_,_=>false
theorem ae0{k:A0}{d:TypeDesc}(h:amX k d=true):Vc k d:=by unfold amX at h;split at h;simp at h;subst h;rfl;simp at h;obtain⟨rfl,rfl⟩:=h;rfl;rename_i fs fa;exact⟨fa,rfl,by simpa using h⟩;rfl;rfl;simp at h;subst h;rfl;simp at h;obtain⟨rfl,rfl⟩:=h;rfl;trivial;cases h
theorem acs{P:Program}{t:TypeId}{ti:pw}(h:ajO P t ti=true):lz P t ti:=by
 unfold ajO at h;split at h;rename_i info d h1 h2;split at h
 ·rename_i z h3;simp only[bC,beq_iff_eq]at h;obtain⟨⟨⟨⟨⟨⟨⟨⟨a1,a2⟩,a3⟩,a4⟩,a5⟩,a6⟩,a7⟩,a8⟩,a9⟩:=h;refine⟨⟨info,d,z,h1,h2,a1,a2,h3,LP a8,a3,ae0 a4⟩,a5,a6,λinfo' z' e1 e2=>by rw[h1]at e1;cases e1;rw[h3]at e2;cases e2;exact a9,λhne=>?_⟩
  all_goals grind
 cases h;cases h
def UH(l:List (TypeId×pw)):ec:=λt=>(l.find? λp=>p.1==t).map (·.2)
theorem ajP{P:Program}{l:List (TypeId×pw)}(h:(l.all λp=>ajO P p.1 p.2)=true):eY P (UH l):=by intro t ti ht;simp only[UH,jI]at ht;obtain⟨p,hp,rfl⟩:=ht;have h1:=List.find?_some hp;simp at h1;subst h1;exact acs (all_eq_true.1 h p (List.mem_of_find?_eq_some hp))
inductive CT(ι:Type) where
 |int (k:IntKind)
 |bool
 |str
 |sl (e:CT ι)
 |st (i:ι)
 |any
 |mp (k v:CT ι)
 deriving DecidableEq
structure SE where
 ι:Type
 dec:DecidableEq ι
 T:ι->Type
 row:(i:ι)->T i->List Tree
instance (E:SE):DecidableEq E.ι:=E.dec
section
variable (E:SE)
@[reducible] def CT.T:CT E.ι->Type
 |.int _=>Int
 |.bool=>Bool
 |.str=>ByteArray
 |.sl e=>List (CT.T e)
 |.st i=>E.T i
 |.any=>Tree
 |.mp k v=>List (CT.T k×CT.T v)
def CT.row:(c:CT E.ι)->CT.T E c->List Tree
 |.int k,n=>[.sc (.int k n)]
 |.bool,b=>[.sc (.bool b)]
 |.str,s=>[.sc (.string s)]
 |.sl e,l=>[.sl (List.map (CT.row e) l)]
 |.st i,x=>E.row i x
 |.any,x=>[x]
 |.mp _ _,_=>[.sl []]
def CT.one{ι:Type}:CT ι->Bool
 |.st _=>false
 |_=>true
def CT.tv:(c:CT E.ι)->CT.T E c->TV
 |.int k,n=>.s (.sc (.int k n))
 |.bool,b=>.s (.sc (.bool b))
 |.str,s=>.s (.sc (.string s))
 |.sl e,l=>.s (.sl (List.map (CT.row E e) l))
 |.st i,x=>.a (E.row i x)
 |.any,x=>.s x
 |.mp _ _,_=>.s (.sl [])
def HL:List (CT E.ι)->Type
 |[]=>Unit
 |c::l=>CT.T E c×HL l
def HL.row:(l:List (CT E.ι))->HL E l->List Tree
 |[],_=>[]
 |c::l,h=>CT.row E c h.1++HL.row l h.2
def HL.nq:(l:List (CT E.ι))->HL E l->List TV
 |[],_=>[]
 |c::l,h=>CT.tv E c h.1::HL.nq l h.2
end
structure Arr(E:SE) where
 i:E.ι
 c:CT E.ι
 f:E.T i->List (CT.T E c)
 g:List (CT.T E c)->Option (E.T i)
structure SX extends SE where
 cV:ι->List (CT ι)
 get:(i:ι)->T i->HL toSE (cV i)
 make:(i:ι)->HL toSE (cV i)->T i
 oE:∀i x,row i x=HL.row toSE (cV i) (get i x)
 ga:∀i h,row i (make i h)=HL.row toSE (cV i) h
 flat:∀i,(cV i).all CT.one=true
 gv:Nat->Option ((c:CT ι)×CT.T toSE c)
 zv:∀g,(gv g).map (λ p=>CT.row toSE p.1 p.2)=(xt g).map λr=>r.map Tree.sc
 ar:TypeId->Option (Arr toSE):=λ_=>none
 aoL:∀t a,ar t=some a->a.c.one=true/\(∀ x,row a.i x=((a.f x).map (CT.row toSE a.c)).flatten)/\∀l x,a.g l=some x->a.f x=l:=by intro t a h;cases h
section
variable (X:SX)
abbrev SX.C:=CT X.ι
abbrev SX.t(c:CT X.ι):Type:=CT.T X.toSE c
def CT.sz:CT X.ι->Nat
 |.st i=>(X.cV i).length
 |_=>1
inductive DV where
 |c (t:CT X.ι) (x:CT.T X.toSE t)
 |agg (cs:List DV)
 |eR (vs:List DV)
 |own (k aa len:Nat)
 |ptr (k row aa:Nat)
 |qt (k:Nat) (n:Int) (aa:Nat)
 |tw (k row aa m:Nat) (n:Int)
 |rp (t:CT X.ι) (x:CT.T X.toSE t) (aa:Nat)
 |xf (t:CT X.ι) (x:CT.T X.toSE t) (aa m:Nat) (n:Int)
 |fn (f:FuncId) (first caps:List DV)
 |du (as:List (CT X.ι)) (r:CT X.ι) (φ:HL X.toSE as->Option (CT.T X.toSE r))
 |mp (k:Nat)
 |oz (k len:Nat)
 |raw (v:Value)
 |nil
 |ub
 |skip
 |undef
inductive bp where
 |cells (sz:Nat) (rows:List (List (DV X)))
 |eb (c:CT X.ι) (l:List (CT.T X.toSE c))
 |map (kc vc:CT X.ι) (l:List (CT.T X.toSE kc×CT.T X.toSE vc))
structure cE where
 env:List (Nat×DV X)
 obj:List (Nat×Option (bp X))
 nx:Nat
 log:List Nat
variable {X}
mutual
def den:DV X->AV
 |.c t x=>(CT.tv X.toSE t x).av
 |.agg cs=>.agg (bG cs)
 |.eR vs=>.eR (bG vs)
 |.own k aa len=>.own k aa len
 |.ptr k row aa=>.ptr k row aa
 |.qt k n aa=>.ptr k n.toNat aa
 |.tw k row aa _ n=>.ptr k row (aa+n.toNat)
 |.rp t x aa=>.eo (CT.row X.toSE t x) aa
 |.xf t x aa _ n=>.eo (CT.row X.toSE t x) (aa+n.toNat)
 |.fn f first caps=>.fn f (bG first) (bG caps)
 |.du as r φ=>.du λts u=>∃h x,φ h=some x/\ts=HL.nq X.toSE as h/\u=CT.tv X.toSE r x
 |.mp k=>.mp k
 |.oz k len=>.oz k len
 |.raw v=>cv v
 |.nil=>.cN
 |.ub=>.ub
 |.skip=>.undef
 |.undef=>.undef
def bG:List (DV X)->List AV
 |[]=>[]
 |x::xs=>den x::bG xs
end
theorem nS:∀l:List (DV X),bG l=l.map den
 |[]=>rfl
 |x::xs=>by simp[bG,nS xs]
def bI:bp X->aM
 |.cells sz rows=>⟨sz,rows.map bG⟩
 |.eb c l=>⟨CT.sz X c,aI (l.map (CT.row X.toSE c))⟩
 |.map kc vc l=>⟨l.length,l.map λp=>[(CT.tv X.toSE kc p.1).av,(CT.tv X.toSE vc p.2).av]⟩
def jh(u:List (Nat×Option (bp X))):List (Nat×Option aM):=u.map λp=>(p.1,p.2.map bI)
def fj(o:List (Nat×Option (bp X)))(k:Nat):Option (bp X):=(lk o k).join
def dC(e:List (Nat×DV X))(t:Nat):DV X:=(lk e t).getD .undef
def cE.st(s:cE X):St:=⟨λ t=>den (dC s.env t),λk=>(fj s.obj k).map bI,λ_=>none⟩
def lg(a b:CT X.ι)(x:CT.T X.toSE a):Option (CT.T X.toSE b):=
 match decEq a b with
 |isTrue h=>some (h ▸ x)
 |isFalse _=>none
theorem rE{a b:CT X.ι}{x:CT.T X.toSE a}{y:CT.T X.toSE b}(h:lg a b x=some y):∃e:a=b,y=e ▸ x:=by unfold lg at h;split at h;rename_i e _;injection h with h;exact⟨e,h.symm⟩;cases h
def HL.cells:(l:List (CT X.ι))->HL X.toSE l->List (DV X)
 |[],_=>[]
 |c::l,h=>.c c h.1::HL.cells l h.2
theorem row_one{c:CT X.ι}(h:c.one=true)(x:CT.T X.toSE c):∃t,CT.row X.toSE c x=[t]/\CT.tv X.toSE c x=.s t:=by cases c<;>first|exact⟨_,rfl,rfl⟩|cases h
theorem HL.qq:∀(l:List (CT X.ι))(h:HL X.toSE l),l.all CT.one=true->bG (HL.cells l h)=(HL.row X.toSE l h).map AV.t
 |[],_,_=>rfl
 |c::l,h,ha=>by simp only[all_cons,bC]at ha;obtain⟨t,h1,h2⟩:=row_one ha.1 h.1;simp[HL.cells,bG,den,HL.row,h1,h2,TV.av,HL.qq l h.2 ha.2]
theorem HL.oT:∀(l:List (CT X.ι))(h:HL X.toSE l),l.all CT.one=true->(HL.row X.toSE l h).length=l.length
 |[],_,_=>rfl
 |c::l,h,ha=>by simp only[all_cons,bC]at ha;obtain⟨t,h1,_⟩:=row_one ha.1 h.1;simp[HL.row,h1,HL.oT l h.2 ha.2]
theorem GH(c:CT X.ι)(x:CT.T X.toSE c):(CT.row X.toSE c x).length=CT.sz X c:=by
 cases c<;>try rfl
 rename_i i;exact(congrArg List.length (X.oE i x)).trans (HL.oT _ _ (X.flat i))
def uO:(c:CT X.ι)->CT.T X.toSE c->List (DV X)
 |.st i,x=>HL.cells (X.cV i) (X.get i x)
 |c,x=>[.c c x]
theorem o6(c:CT X.ι)(x:CT.T X.toSE c):bG (uO c x)=(CT.row X.toSE c x).map AV.t:=by
 cases c<;>try rfl
 rename_i i;exact(HL.qq _ _ (X.flat i)).trans (congrArg (List.map AV.t) (X.oE i x).symm)
def vB:DV X->Bool
 |.agg _|.eR _|.undef|.skip|.raw _|.c (.st _) _=>false
 |_=>true
theorem QO{x:DV X}(h:vB x=true):oZ (den x)=true:=by
 cases x<;>try rfl
 case c t x=>cases t<;>first|rfl|simp[vB]at h
 all_goals simp[vB]at h
def cellsD:DV X->Option (List (DV X))
 |.agg cs=>if cs.all vB then some cs else none
 |.c (.st i) x=>some (uO (.st i) x)
 |.eR _|.undef|.skip|.raw _=>none
 |x=>some [x]
theorem ag8{l:List (DV X)}(h:l.all vB=true):(bG l).all oZ=true:=by rw[nS,List.all_map,all_eq_true];exact λx hx=>QO (all_eq_true.1 h x hx)
theorem DK{x:DV X}{cs:List (DV X)}(h:cellsD x=some cs):cellsOf (den x)=some (bG cs):=by
 cases x
 case c t x=>
  cases t
  case st i=>
   simp[cellsD]at h;subst h;simp only[den,CT.tv,TV.av,cellsOf,o6];show(if ((X.row i x).map AV.t).all oZ then some ((X.row i x).map AV.t)else none)=some ((X.row i x).map AV.t);rw[aX];rw[List.all_map,all_eq_true];exact λ_ _=>rfl
  all_goals simp[cellsD]at h;subst h;rfl
 case agg l=>
  simp only[cellsD]at h;split at h;cases h;simp only[den,cellsOf];rw[aX (ag8 ‹_›)];cases h
 all_goals simp[cellsD]at h;try (subst h;rfl)
def wi:Value->DV X
 |.slice none 0 0=>.nil
 |.int k n=>.c (.int k) n
 |.bool b=>.c .bool b
 |.string s=>.c .str s
 |v=>.raw v
theorem ag9(v:Value):den (wi (X:=X) v)=cv v:=by unfold wi;split<;>rfl
theorem Ca(l:List Value):bG (l.map (wi (X:=X)))=l.map cv:=by rw[nS,map_map];exact map_congr_left λv _=>ag9 v
def XV(env:Nat->DV X):Operand->DV X
 |.tmp t=>env t
 |.const v=>wi v
 |.global g=>match X.gv g with
  |some p=>.rp p.1 p.2 0
  |none=>.undef
 |.func f=>.fn f [] []
theorem UI(env:Nat->DV X)(x:Operand):den (XV env x)=l4 (λ t=>den (env t)) x:=by
 cases x with
 |global g=>
  have h:=X.zv g;simp[XV,l4];cases h1:X.gv g with
  |none=>
   rw[h1]at h;cases h2:xt g with
   |none=>rfl
   |some r=>rw[h2]at h;cases h
  |some p=>grind [den]
 |const v=>exact ag9 _
 |tmp t|func f=>rfl
end
def bu{α:Type}(l:List α)(n:Int):Option α:=bif decide (0<=n)then l[n.toNat]? else none
def sub{α:Type}(l:List α)(aa len:Nat):List α:=(l.drop aa).take len
def co(n:Int)(len:Nat):Bool:=decide (0<=n)&&decide (n<(len:Int))
def jq{α β:Type}(a:α)(f:α->β):β:=f a
def bL(lo len ln n bytes:Nat):Bool:=decide (lo=len)&&decide (ln=n)&&decide ((len+n)*bytes<=140737488355328)&&decide (len+n<=maxLen)
def aE(a b:Nat):Bool:=decide (a=b)
def AL(l h:Int)(len:Nat):Bool:=decide (0<=l)&&decide (l<=h)&&decide (h<=(len:Int))
def UJ(a b:ByteArray):Bool:=Op.bytesLess a.toList b.toList
def UK(a b:ByteArray):Bool:=decide (a.size+b.size<=maxLen)
abbrev iN(n:Int):Int:=n
abbrev bN(b:Bool):Bool:=b
def UL{A:Type}:List Bool->Option A->Option A
 |[],k=>k
 |c::cs,k=>bif c then UL cs k else none
section
variable {X:SX} {A:Type}
abbrev KK(X:SX)(A:Type):=DV X->List (Nat×Option (bp X))->List Nat->List Nat->Option A
def ajQ(t:Bool)(x y:DV X):DV X:=
 match x,y with
 |.c a p,.c b q=>match decEq b a with
  |isTrue h=>.c a (bif t then p else h ▸ q)
  |isFalse _=>bif t then .c a p else .c b q
 |x,y=>bif t then x else y
def GI(agg:Bool)(size:Nat)(cs:List (DV X)):Option (DV X):=
 if cs.length=size then(if agg then some (.agg cs)else match cs with|[x]=>if vB x then some x else none|_=>none)else none
def RR(agg:Bool)(size:Nat)(c:CT X.ι)(y:CT.T X.toSE c)(aa:Nat):Option (DV X):=
 match c,y with
 |.st i,y=>if aa=0/\agg=true/\size=(X.cV i).length then some (.c (.st i) y)else GI agg size (((uO (.st i) y).drop aa).take size)
 |c,y=>GI agg size (((uO c y).drop aa).take size)
def KA(d:DV X)(c:CT X.ι):Option (CT.T X.toSE c):=
 match d,c with
 |.c a x,c=>lg a c x
 |.nil,.sl _=>some []
 |.nil,.any=>some (.sl [])
 |_,_=>none
def DL:List (DV X)->(l:List (CT X.ι))->Option (HL X.toSE l)
 |[],[]=>some ()
 |d::ds,c::l=>(KA d c).bind λx=>(DL ds l).bind λh=>some (x,h)
 |_,_=>none
def FA(d:DV X)(i:X.ι):Option (CT.T X.toSE (.st i)):=
 match d with
 |.agg cs=>(DL cs (X.cV i)).bind λh=>some (X.make i h)
 |.c a x=>lg a (.st i) x
 |_=>none
def dat(d:DV X)(c:CT X.ι):Option (CT.T X.toSE c):=
 match c with
 |.st i=>FA d i
 |c=>KA d c
def mk1(c:CT X.ι):List (DV X)->Option (CT.T X.toSE c)
 |[d]=>KA d c
 |_=>none
def LQ(c:CT X.ι)(ds:List (DV X)):Option (CT.T X.toSE c):=
 match c with
 |.st i=>(DL ds (X.cV i)).bind λh=>some (X.make i h)
 |c=>mk1 c ds
def M3(r:List (DV X))(aa:Nat)(cs:List (DV X)):List (DV X):=r.take aa++cs++r.drop (aa+cs.length)
variable (T:ec) (code:TypeId->Option (CT X.ι))
def UV(t:TypeId)(x:DV X)(get:Nat->Option (bp X))(k:KK X A):Option A:=
 (T t).bind λti=>match x with
 |.ptr kk row aa=>(get kk).bind λo=>match o with
  |.cells _ rows=>(rows[row]?).bind λr=>(GI ti.agg ti.size ((r.drop aa).take ti.size)).bind λv=>k v [] [kk] []
  |_=>none
 |.qt kk n aa=>(get kk).bind λo=>match o with
  |.eb c l=>(bu l n).bind λy=>(RR ti.agg ti.size c y aa).bind λv=>k v [] [kk] []
  |_=>none
 |.rp c y aa=>(RR ti.agg ti.size c y aa).bind λv=>k v [] [] []
 |_=>none
def TZ(t:TypeId)(x y:DV X)(get:Nat->Option (bp X))(k:KK X A):Option A:=
 (T t).bind λti=>(cellsD y).bind λcs=>if cs.length=ti.size then match x with
 |.ptr kk row aa=>(get kk).bind λo=>match o with
  |.cells sz rows=>(rows[row]?).bind λr=>if aa+cs.length<=r.length then k .undef [(kk,some (.cells sz (rows.set row (M3 r aa cs))))] [kk] [kk]else none
  |_=>none
 |.qt kk n aa=>(get kk).bind λo=>match o with
  |.eb c l=>(bu l n).bind λy=>if aa+cs.length<=CT.sz X c then(LQ c (M3 (uO c y) aa cs)).bind λz=>k .undef [(kk,some (.eb c (l.set n.toNat z)))] [kk] [kk]else none
  |_=>none
 |_=>none else none
def KC(t:TypeId)(x:DV X)(f:Nat)(k:KK X A):Option A:=
 (zK T t f).bind λp=>match x with
 |.ptr kk row aa=>k (.ptr kk row (aa+p.1)) [] [] []
 |.qt kk n aa=>k (.qt kk n (aa+p.1)) [] [] []
 |.rp c y aa=>k (.rp c y (aa+p.1)) [] [] []
 |_=>none
def ae2(t:TypeId)(x:DV X)(f:Nat)(k:KK X A):Option A:=
 (zK T t f).bind λp=>match x with
 |.agg cs=>(GI p.2.agg p.2.size ((cs.drop p.1).take p.2.size)).bind λv=>k v [] [] []
 |.c (.st i) y=>(GI p.2.agg p.2.size (((uO (.st i) y).drop p.1).take p.2.size)).bind λv=>k v [] [] []
 |_=>none
def KD(t:TypeId)(x j:DV X)(get:Nat->Option (bp X))(k:KK X A):Option A:=
 (T t).bind λti=>match ti.k,j with
 |.slice e,.c (.int _) n=>(T e).bind λei=>match x with
  |.c (.sl c) l=>if CT.sz X c=ei.size then(bu l n).bind λy=>k (.rp c y 0) [] [] []else none
  |.own kk aa len=>(get kk).bind λo=>match o with
   |.eb c _=>if CT.sz X c=ei.size then bif co n len then k (.qt kk ((aa:Int)+iN n) 0) [] [kk] []else none else none
   |.cells sz _=>if sz=ei.size then bif co n len then k (.ptr kk (aa+n.toNat) 0) [] [kk] []else none else none
   |.map _ _ _=>none
  |_=>none
 |.arr m e,.c (.int _) n=>(T e).bind λei=>bif co n m then match x with
  |.ptr kk row aa=>k (.ptr kk row (aa+n.toNat*ei.size)) [] [] []
  |.qt kk r aa=>k (.qt kk r (aa+n.toNat*ei.size)) [] [] []
  |.rp c y aa=>k (.rp c y (aa+n.toNat*ei.size)) [] [] []
  |_=>none
  else none
 |_,_=>none
def UM(x:DV X)(j:Nat)(k:KK X A):Option A:=
 match x with
 |.eR vs=>(vs[j]?).bind λv=>k v [] [] []
 |_=>none
def GJ(op:BinOp)(kd:IntKind)(a b:Int):(DV X)×Option Bool:=
 match op with
 |.add=>(.c (.int kd) (kd.wrap (a+b)),none)
 |.sub=>(.c (.int kd) (kd.wrap (a-b)),none)
 |.mul=>(.c (.int kd) (kd.wrap (a*b)),none)
 |.quo=>(.c (.int kd) (kd.wrap (a.tdiv b)),some (b !=0))
 |.rem=>(.c (.int kd) (a.tmod b),some (b !=0))
 |.and=>(.c (.int kd) (bits .and kd a b),none)
 |.or=>(.c (.int kd) (bits .or kd a b),none)
 |.xor=>(.c (.int kd) (bits .xor kd a b),none)
 |.andNot=>(.c (.int kd) (bits .andNot kd a b),none)
 |.shl=>(.c (.int kd) (kd.wrap (a*2 ^ b.toNat)),some (decide (0<=b)&&decide (b<=kd.bits)))
 |.shr=>(.c (.int kd) (a/2 ^ b.toNat),some (decide (0<=b)&&decide (b<=kd.bits)))
 |.eql=>(.c .bool (a==b),none)
 |.neq=>(.c .bool (a !=b),none)
 |.lss=>(.c .bool (decide (a<b)),none)
 |.leq=>(.c .bool (decide (a<=b)),none)
 |.gtr=>(.c .bool (decide (a>b)),none)
 |.geq=>(.c .bool (decide (a>=b)),none)
def aav:Nat->DV X->DV X->Option Bool
 | 0,.c (.int j) a,.c (.int k) b=>if j=k then some (iN a==iN b)else none
 | 1,.c .bool a,.c .bool b=>some (bN a==bN b)
 | 2,.c .str a,.c .str b=>some (a.toList==b.toList)
 |_,_,_=>none
def GK:List Nat->List (DV X)->List (DV X)->Option Bool
 |[],[],[]=>some true
 |k::ks,x::xs,y::ys=>(aav k x y).bind λa=>(GK ks xs ys).bind λb=>some (a&&b)
 |_,_,_=>none
def Q4:DV X->Option (List (DV X))
 |.agg cs=>some cs
 |.c (.st i) y=>some (uO (.st i) y)
 |_=>none
def amY(op:BinOp)(t:TypeId)(x y:DV X)(k:KK X A):Option A:=
 match x,y with
 |.c (.int kd) a,.c (.int yk) b=>if kd=yk\/op=.shl\/op=.shr then match (GJ op kd a b:DV X×Option Bool).2 with
  |none=>k (GJ op kd a b).1 [] [] []
  |some g=>bif g then k (GJ op kd a b).1 [] [] []else none
  else none
 |.c .str a,.c .str b=>match op with
  |.eql=>k (.c .bool (a.toList==b.toList)) [] [] []
  |.neq=>k (.c .bool (!(a.toList==b.toList))) [] [] []
  |.lss=>k (.c .bool (UJ a b)) [] [] []
  |.gtr=>k (.c .bool (!(UJ a b || a.toList==b.toList))) [] [] []
  |.add=>bif UK a b then k (.c .str (a++b)) [] [] []else none
  |_=>none
 |.c .bool a,.c .bool b=>(T t).bind λti=>match ti.k,op with
  |.bool,.eql=>k (.c .bool (bN a==bN b)) [] [] []
  |.bool,.neq=>k (.c .bool (!(bN a==bN b))) [] [] []
  |_,_=>none
 |x,y=>(Q4 x).bind λxs=>(Q4 y).bind λys=>(T t).bind λti=>if ti.cmp=[]then none else(GK ti.cmp xs ys).bind λb=>match op with
  |.eql=>k (.c .bool b) [] [] []
  |.neq=>k (.c .bool (!b)) [] [] []
  |_=>none
def TE(op:UnOp)(x:DV X)(k:KK X A):Option A:=
 match op,x with
 |.not,.c .bool b=>k (.c .bool (!b)) [] [] []
 |.neg,.c (.int kd) n=>k (.c (.int kd) (kd.wrap (0-iN n))) [] [] []
 |_,_=>none
def Jb(mx:Bool)(kd:IntKind):Int->List (DV X)->Option Int
 |a,[]=>some a
 |a,.c (.int k') b::r=>if k'=kd then Jb mx kd (if mx then max a b else min a b) r else none
 |_,_=>none
def Pc(mx:Bool)(args:List (DV X))(k:KK X A):Option A:=
 match args with
 |.c (.int kd) a::r=>(Jb mx kd a r).bind λn=>k (.c (.int kd) n) [] [] []
 |_=>none
def amZ(t:TypeId)(x:DV X)(k:KK X A):Option A:=
 (T t).bind λti=>match ti.k,x with
 |.slice _,.c (.sl _) l=>k (.c (.int .i64) (l.length:Int)) [] [] []
 |.slice _,.own _ _ len=>k (.c (.int .i64) (len:Int)) [] [] []
 |.slice _,.oz _ len=>k (.c (.int .i64) (len:Int)) [] [] []
 |.slice _,.nil=>k (.c (.int .i64) (0:Int)) [] [] []
 |.str,.c .str s=>k (.c (.int .i64) (s.size:Int)) [] [] []
 |_,_=>none
def Y1(place:Nat->Option (Nat×Nat)):List (DV X)->List (Nat×DV X)->Option (List (DV X))
 |cells,[]=>some cells
 |cells,(j,x)::ae=>(place j).bind λp=>(cellsD x).bind λcs=>
  if cs.length=p.2/\p.1+cs.length<=cells.length then Y1 place (M3 cells p.1 cs) ae else none
def ae3(t:TypeId)(parts:List (Nat×DV X))(k:KK X A):Option A:=
 (T t).bind λti=>match ti.k with
 |.struct fs=>if fs.all (λ p=>(T p.2).isSome)then
  (Y1 (λ j=>(fs[j]?).bind λp=>(T p.2).bind λui=>some (p.1,ui.size)) (ti.zero.map wi) parts).bind λcells=>k (.agg cells) [] [] []else none
 |.arr _ e=>(T e).bind λei=>(Y1 (λ j=>some (j*ei.size,ei.size)) (ti.zero.map wi) parts).bind λcells=>k (.agg cells) [] [] []
 |_=>none
def MY(c:CT X.ι):Nat->List (Nat×DV X)->Option (List (CT.T X.toSE c))
 |_,[]=>some []
 |n,(j,x)::r=>if j=n then(dat x c).bind λy=>(MY c (n+1) r).bind λl=>some (y::l)else none
def GL(i:Nat)(t:TypeId)(len:Nat)(parts:List (Nat×DV X))(k:KK X A):Option A:=
 (T t).bind λti=>match ti.k with
 |.slice e=>(T e).bind λei=>(code e).bind λc=>if ei.size=0\/len*ei.size>2 ^ 24\/CT.sz X c≠ei.size\/parts.length≠len then none else
  (MY c 0 parts).bind λl=>k (.own (cC i) 0 len) [(cC i,some (.eb c l))] [] []
 |_=>none
def ae4(i:Nat)(e:TypeId)(k:KK X A):Option A:=
 (T e).bind λti=>k (.ptr (cC i) 0 0) [(cC i,some (.cells ti.size [ti.zero.map wi]))] [] []
def am0(i:Nat)(x:DV X)(k:KK X A):Option A:=
 (cellsD x).bind λcs=>k (.ptr (cC i) 0 0) [(cC i,some (.cells cs.length [cs]))] [] []
def AF(d:Int):Option (DV X)->Option Int
 |none=>some d
 |some (.c (.int _) n)=>some n
 |_=>none
def ae5(t:TypeId)(x:DV X)(lo hi:Option (DV X))(get:Nat->Option (bp X))(k:KK X A):Option A:=
 (T t).bind λti=>match ti.k with
 |.slice e=>(T e).bind λei=>match x with
  |.own kk aa len=>(get kk).bind λo=>if (bI o).sz=ei.size then(AF 0 lo).bind λl=>(AF len hi).bind λh=>
   bif AL l h len then k (.own kk (aa+l.toNat) (h.toNat-l.toNat)) [] [kk] []else none else none
  |.c (.sl c) xs=>if CT.sz X c=ei.size then(AF 0 lo).bind λl=>(AF xs.length hi).bind λh=>
   bif AL l h xs.length then k (.c (.sl c) (sub xs l.toNat (h.toNat-l.toNat))) [] [] []else none else none
  |_=>none
 |_=>none
def am1(y:DV X)(c:CT X.ι)(get:Nat->Option (bp X)):Option (Nat×List (CT.T X.toSE c)×List Nat):=
 match y with
 |.own kk aa len=>(get kk).bind λo=>match o with
  |.eb b l=>(lg (.sl b) (.sl c) l).bind λl=>some (len,sub l aa len,[kk])
  |_=>none
 |.c b l=>(lg b (.sl c) l).bind λ(l:List (CT.T X.toSE c))=>some (l.length,l,[])
 |_=>none
def UN{α:Type}:Nat->List α->List α
 | 0,l=>l
 |n+1,l=>l.drop (n+1)
def aaw(i:Nat)(t:TypeId)(x y:DV X)(get:Nat->Option (bp X))(k:KK X A):Option A:=
 (T t).bind λti=>match ti.k with
 |.slice e=>(T e).bind λei=>(code e).bind λc=>if CT.sz X c=ei.size then(am1 y c get).bind λs=>match x with
  |.own kk aa len=>(get kk).bind λo=>match o with
   |.eb b l=>(lg (.sl b) (.sl c) l).bind λ(l:List (CT.T X.toSE c))=>bif bL (UN aa l).length len s.2.1.length s.1 ei.bytes then jq (UN aa l++s.2.1) λr=>k (.own (cC i) 0 r.length) [(cC i,some (.eb c r)),(kk,none)] (kk::s.2.2) [kk]else none
   |_=>none
  |.nil=>bif bL 0 0 s.2.1.length s.1 ei.bytes then jq s.2.1 λr=>k (.own (cC i) 0 r.length) [(cC i,some (.eb c r))] s.2.2 []else none
  |_=>none
  else none
 |_=>none
def UO(i:Nat)(b:Builtin)(args:List (DV X))(cV:List TypeId)(get:Nat->Option (bp X))(k:KK X A):Option A:=
 match b,args,cV with
 |.len,[x],[t]=>amZ T t x k
 |.max,args,_=>Pc true args k
 |.min,args,_=>Pc false args k
 |.append,[x,y],[t,u]=>if t=u then aaw T code i t x y get k else none
 |_,_,_=>none
def O2(i:Nat)(o:Op)(ρ:Operand->DV X)(get:Nat->Option (bp X))(k:KK X A):Option A:=
 match o with
 |.move x=>k (ρ x) [] [] []
 |.assign x=>k (ρ x) [] [] []
 |.pick c a b=>match ρ c with|.c .bool t=>k (ajQ t (ρ a) (ρ b)) [] [] []|_=>none
 |.alloc e=>ae4 T i e k
 |.box _ x=>am0 i (ρ x) k
 |.build t parts=>ae3 T t (parts.toList.map λp=>(p.1,ρ p.2)) k
 |.buildSlice t len parts=>GL T code i t len (parts.toList.map λp=>(p.1,ρ p.2)) k
 |.load t a=>UV T t (ρ a) get k
 |.store t a x=>TZ T t (ρ a) (ρ x) get k
 |.binOp op t x y _=>amY T op t (ρ x) (ρ y) k
 |.unOp op _ x=>TE op (ρ x) k
 |.makeFunc (.func f) first caps=>k (.fn f (first.toList.map ρ) (caps.toList.map ρ)) [] [] []
 |.slice t x lo hi none=>ae5 T t (ρ x) (lo.map ρ) (hi.map ρ) get k
 |.fieldAddr t x f=>KC T t (ρ x) f k
 |.field t x f=>ae2 T t (ρ x) f k
 |.indexAddr t x j=>KD T t (ρ x) (ρ j) get k
 |.extract x j=>UM (ρ x) j k
 |.call { callee:=.builtin b,args:=args,argTypes:=cV }=>UO T code i b (args.toList.map ρ) cV.toList get k
 |_=>none
end
section
variable {X:SX} {A:Type} {T:ec} {code:TypeId->Option (CT X.ι)} {get:Nat->Option (bp X)} {k:KK X A} {r:A} {i:Nat}
def fK(get:Nat->Option (bp X)):Nat->Option aM:=λj=>(get j).map bI
theorem fu{rd:List Nat}{j:Nat}{o:bp X}(hj:j∈rd)(h:get j=some o):dJ rd (fK get) j=some (bI o):=by simp[dJ,hj,fK,h]
theorem iL(l:List (DV X)):(bG l).length=l.length:=by simp[nS]
theorem kK(l:List (DV X))(a b:Nat):bG ((l.drop a).take b)=((bG l).drop a).take b:=by simp[nS]
theorem LU{α:Type}{l:List α}{n:Int}{x:α}(h:bu l n=some x):0<=n/\l[n.toNat]? =some x:=by
 unfold bu at h
 all_goals grind
theorem aii(t:Bool)(x y:DV X):den (ajQ t x y)=N6 t (den x) (den y):=by
 rw[Uc];have base:∀x y:DV X,den (bif t then x else y)=if t=true then den x else den y:=λx y=>by cases t<;>rfl
 unfold ajQ;split;split;rename_i h _;subst h;cases t<;>rfl;exact base _ _;exact base _ _
theorem Cb{agg:Bool}{size:Nat}{cs:List (DV X)}{v:DV X}(h:GI agg size cs=some v):part' agg size (bG cs)=some (den v):=by
 unfold GI at h;unfold part';rw[iL];split at h;rename_i hl;rw[aX hl];cases agg with
 |true=>simp at h ⊢;subst h;rfl
 |false=>
  simp at h ⊢
  match cs,h with
  |[x],h=>
   simp only at h;split at h;rename_i hx;cases h;simp only[bG];rw[aX (QO hx)];cases h
  |[],h|_::_::_,h=>cases h
 cases h
theorem OL{agg:Bool}{size aa:Nat}{c:CT X.ι}{y:CT.T X.toSE c}{v:DV X}(h:GI agg size (((uO c y).drop aa).take size)=some v):part' agg size ((((CT.row X.toSE c y).drop aa).take size).map AV.t)=some (den v):=by have:=Cb h;rw[kK,o6]at this;rw[<- this,map_take,map_drop]
theorem Y2{agg:Bool}{size aa:Nat}{c:CT X.ι}{y:CT.T X.toSE c}{v:DV X}(h:RR agg size c y aa=some v):part' agg size ((((CT.row X.toSE c y).drop aa).take size).map AV.t)=some (den v):=by
 cases c
 case st j=>
  simp[RR]at h;split at h;rename_i hh;obtain⟨rfl,rfl,rfl⟩:=hh;cases h;have hl:(CT.row X.toSE (.st j) y).length=(X.cV j).length:=GH (.st j) y;rw[List.drop_zero,take_of_length_le (by omega)];unfold part';rw[aX (by simpa using hl)];rfl;exact OL h
 all_goals exact OL h
theorem aij{t:TypeId}{x:DV X}(h:UV T t x get k=some r):∃cm rd dv out,J5 T t (den x) cm (dJ rd (fK get))=some out/\kJ out.obs/\out.v=den dv/\out.upd=[]/\k dv [] rd []=some r:=by unfold UV at h;unfold J5;rw[ah]at h;obtain⟨ti,h1,h⟩:=h;simp only[h1,ai];split at h;rename_i kk row aa;rw[ah]at h;obtain⟨o,h2,h⟩:=h;split at h;rw[ah]at h;obtain⟨rw',h3,h⟩:=h;rw[ah]at h;obtain⟨v,h4,h⟩:=h;refine⟨.none,[kk],v,⟨den v,[],[]⟩,?_,trivial,rfl,rfl,h⟩;have h5:=Cb h4;rw[kK]at h5;simp[den,fu (List.mem_singleton_self kk) h2,bI,h3,h5,pv];cases h;rename_i kk n aa;rw[ah]at h;obtain⟨o,h2,h⟩:=h;split at h;rename_i c l;rw[ah]at h;obtain⟨y,h3,h⟩:=h;rw[ah]at h;obtain⟨v,h4,h⟩:=h;have⟨_,h6⟩:=LU h3;refine⟨.row ((CT.row X.toSE c y).map AV.t),[kk],v,⟨den v,[],[(aI (l.map (CT.row X.toSE c)))[n.toNat]? =some ((CT.row X.toSE c y).map AV.t)]⟩,?_,?_,rfl,rfl,h⟩;have h5:=Y2 h4;rw[map_take,map_drop]at h5;simp[den,fu (List.mem_singleton_self kk) h2,bI,h5,m6];simp[kJ,aI,h6];cases h;rename_i c y aa;have⟨v,h4,h⟩:=ah.1 h;refine⟨.none,[],v,⟨den v,[],[]⟩,?_,trivial,rfl,rfl,h⟩;simp only[den,Y2 h4,ai,pv];cases h
theorem UQ(a:List (DV X))(aa:Nat)(cs:List (DV X)):bG (M3 a aa cs)=put' (bG a) aa (bG cs):=by simp[M3,put',nS]
theorem oq{a c:CT X.ι}{x:CT.T X.toSE a}{y:CT.T X.toSE c}(h:lg a c x=some y):den (.c a x)=den (.c c y)/\CT.row X.toSE a x=CT.row X.toSE c y:=by
 obtain⟨e,h⟩:=rE h
 grind
theorem S5{c:CT X.ι}(hc:c.one=true)(x:CT.T X.toSE c):[(CT.tv X.toSE c x).av]=(CT.row X.toSE c x).map AV.t:=by obtain⟨t,h1,h2⟩:=row_one hc x;rw[h1,h2];rfl
theorem amH{c:CT X.ι}(x:CT.T X.toSE c):wk (CT.tv X.toSE c x).av=(CT.tv X.toSE c x).av:=by cases c<;>rfl
theorem vM{d:DV X}{c:CT X.ι}{x:CT.T X.toSE c}(h:KA d c=some x):wk (den d)=(CT.tv X.toSE c x).av:=by unfold KA at h;split at h;rw[(oq h).1];exact amH x;cases h;rfl;cases h;rfl;cases h
theorem ahb{d:DV X}{c:CT X.ι}{x:CT.T X.toSE c}(hc:c.one=true)(h:KA d c=some x):vB d=true:=by
 cases d
 case c a y=>
  obtain⟨e,_⟩:=rE (show lg a c y=some x by cases c<;>exact h);subst e;cases a<;>first|rfl|simp[CT.one]at hc
 case nil=>rfl
 all_goals cases c<;>cases h
theorem yj:∀{ds:List (DV X)}{l:List (CT X.ι)}{h:HL X.toSE l},DL ds l=some h->l.all CT.one=true->(bG ds).map wk=(HL.row X.toSE l h).map AV.t/\ds.all vB=true
 |[],[],h,_,_=>⟨rfl,rfl⟩
 |d::ds,c::l,h,hr,ha=>by simp[DL]at hr;have⟨x,h1,hr⟩:=ah.1 hr;have⟨g,h2,hr⟩:=ah.1 hr;cases hr;simp only[all_cons,bC]at ha ⊢;have⟨i1,i2⟩:=yj h2 ha.2;simp[bG,HL.row,i1,vM h1,i2,ahb ha.1 h1];simp[<- S5 ha.1 x]
 |[],_::_,_,hr,_|_::_,[],_,hr,_=>by simp[DL]at hr
theorem UR(j:X.ι)(h:HL X.toSE (X.cV j)):CT.row X.toSE (.st j) (X.make j h)=HL.row X.toSE (X.cV j) h:=X.ga j h
theorem alG{c:CT X.ι}(hc:c.one=true){ds:List (DV X)}{x:CT.T X.toSE c}(h:mk1 c ds=some x):(bG ds).map wk=(CT.row X.toSE c x).map AV.t:=by
 match ds,h with
 |[d],h=>
  rw[<- S5 hc x];simp[bG,vM h]
 |[],h|_::_::_,h=>cases h
theorem xQ{c:CT X.ι}{ds:List (DV X)}{x:CT.T X.toSE c}(h:LQ c ds=some x):(bG ds).map wk=(CT.row X.toSE c x).map AV.t:=by
 cases c
 case st j=>
  simp[LQ]at h;have⟨g,h1,h⟩:=ah.1 h;cases h;rw[(yj h1 (X.flat j)).1,UR]
 all_goals exact alG rfl h
theorem ae6{d:DV X}{c:CT X.ι}(hc:c.one=true){x:CT.T X.toSE c}(h:KA d c=some x):∃cs,cellsOf (den d)=some cs/\cs.map wk=(CT.row X.toSE c x).map AV.t:=by
 have hk:=ahb hc h;have hd:=vM h;have he:cellsOf (den d)=some [den d]:=by
  have:=DK (x:=d) (cs:=[d]) (by
   cases d
   case c t y=>cases t<;>first|rfl|simp[vB]at hk
   all_goals first|rfl|simp[vB]at hk)
  simpa[bG]using this
 exact⟨_,he,by rw[<- S5 hc x];simp[hd]⟩
theorem aik{d:DV X}{c:CT X.ι}{x:CT.T X.toSE c}(h:dat d c=some x):∃cs,cellsOf (den d)=some cs/\cs.map wk=(CT.row X.toSE c x).map AV.t:=by
 cases c
 case st j=>
  replace h:FA d j=some x:=h
  cases d
  case agg cs=>
   simp[FA]at h;rw[ah]at h;obtain⟨g,h1,h⟩:=h;cases h;have⟨i1,i2⟩:=yj h1 (X.flat j);refine⟨bG cs,?_,by rw[i1,UR]⟩;simp only[den,cellsOf];rw[aX (ag8 i2)]
  case c a y=>
   rw[(oq h).1];refine⟨(CT.row X.toSE (.st j) x).map AV.t,?_,?_⟩;show cellsOf (.agg _)=_;simp only[cellsOf];rw[aX];rfl;rw[List.all_map,all_eq_true];exact λ_ _=>rfl;rw[map_map];rfl
  all_goals cases h
 all_goals exact ae6 rfl h
theorem ail{t:TypeId}{x y:DV X}(h:TZ T t x y get k=some r):∃cm kk u out,TU T t (den x) (den y) cm (dJ [kk] (fK get))=some out/\kJ out.obs/\out.v=.undef/\out.upd=jh [(kk,u)]/\k .undef [(kk,u)] [kk] [kk]=some r:=by
 unfold TZ at h;unfold TU;rw[ah]at h;obtain⟨ti,h1,h⟩:=h;rw[ah]at h;obtain⟨cs,h2,h⟩:=h;simp[h1,DK h2];split at h;rename_i hl;have hdl:(bG cs).length=ti.size:=by rw[iL];exact hl
 simp[hdl];split at h;rename_i kk row aa;rw[ah]at h;obtain⟨o,h3,h⟩:=h;split at h;rw[ah]at h;obtain⟨rw',h4,h⟩:=h;split at h;rename_i hle;refine⟨.none,kk,_,⟨.undef,_,[]⟩,?_,trivial,rfl,rfl,h⟩;simp only[den,fu (List.mem_singleton_self kk) h3,ai,bI,List.getElem?_map,h4,Option.map_some,iL];rw[aX (by rw[<- hl];exact hle)];simp[UQ];cases h;cases h;rename_i kk n aa;rw[ah]at h;obtain⟨o,h3,h⟩:=h;split at h;rename_i c l;rw[ah]at h;obtain⟨z,h4,h⟩:=h;split at h;rename_i hle;have⟨z',h5,h⟩:=ah.1 h;have⟨_,h6⟩:=LU h4;refine⟨.set ((CT.row X.toSE c z).map AV.t) (aI ((l.set n.toNat z').map (CT.row X.toSE c))),kk,_,⟨.undef,_,[(aI (l.map (CT.row X.toSE c)))[n.toNat]? =some ((CT.row X.toSE c z).map AV.t)/\aI ((l.set n.toNat z').map (CT.row X.toSE c))=dS ((aI (l.map (CT.row X.toSE c))).set n.toNat (put' ((CT.row X.toSE c z).map AV.t) aa (bG cs)))]⟩,?_,?_,rfl,rfl,h⟩;simp only[den,fu (List.mem_singleton_self kk) h3,ai,bI];rw[aX (by rw[length_map,GH,<- hl];exact hle)];simp[bI];refine⟨by simp[aI,h6],?_⟩;have h7:=xQ h5;rw[UQ,o6]at h7;have hid:dS (aI (l.map (CT.row X.toSE c)))=aI (l.map (CT.row X.toSE c)):=by simp[dS,aI,wk]
 simp[dS,h7];have:(aI (l.map (CT.row X.toSE c))).map (List.map wk)=aI (l.map (CT.row X.toSE c)):=hid;rw[this];simp[aI];cases h;cases h;cases h;cases h
theorem OM{t:TypeId}{x:DV X}{f:Nat}(h:KC T t x f k=some r):∃dv out,xZ T t (den x) f=some out/\kJ out.obs/\out.v=den dv/\out.upd=[]/\k dv [] [] []=some r:=by unfold KC at h;unfold xZ;rw[ah]at h;obtain⟨⟨d,u⟩,h1,h⟩:=h;simp[h1];split at h;exact⟨_,_,rfl,trivial,rfl,rfl,h⟩;exact⟨_,_,rfl,trivial,rfl,rfl,h⟩;exact⟨_,_,rfl,trivial,rfl,rfl,h⟩;cases h
theorem aay{t:TypeId}{x:DV X}{f:Nat}(h:ae2 T t x f k=some r):∃dv out,TW T t (den x) f=some out/\kJ out.obs/\out.v=den dv/\out.upd=[]/\k dv [] [] []=some r:=by unfold ae2 at h;unfold TW;rw[ah]at h;obtain⟨⟨d,u⟩,h1,h⟩:=h;simp[h1];split at h;rw[ah]at h;obtain⟨v,h2,h⟩:=h;have h3:=Cb h2;rw[kK]at h3;exact⟨v,⟨den v,[],[]⟩,by simp[den,h3,pv],trivial,rfl,rfl,h⟩;rename_i j y;have⟨v,h2,h⟩:=ah.1 h;have h3:=OL h2;rw[map_take,map_drop]at h3;refine⟨v,⟨den v,[],[]⟩,?_,trivial,rfl,rfl,h⟩;show(part' u.agg u.size (List.take u.size (List.drop d ((CT.row X.toSE (.st j) y).map AV.t)))).bind pv=_;rw[h3];rfl;cases h
theorem dQ{α:Type}{b:Bool}{x:Option α}{r:α}(h:(bif b then x else none)=some r):b=true/\x=some r:=by grind
theorem UU{n:Int}{len:Nat}(h:co n len=true):0<=n/\n.toNat<len:=by simp[co]at h;omega
theorem pY{A:Type}:∀{cs:List Bool}{k:Option A}{r:A},UL cs k=some r->(∀ c∈cs,c=true)/\k=some r
 |[],_,_,h=>⟨by simp,h⟩
 |c::cs,k,r,h=>by have⟨h1,h2⟩:=dQ h;have⟨h3,h4⟩:=pY h2;exact⟨λ x hx=>(aR.1 hx).elim (λ e=>e ▸ h1) (h3 x),h4⟩
theorem OO{t:TypeId}{x j:DV X}(h:KD T t x j get k=some r):∃cm rd dv out,l9 T t (den x) (den j) cm (dJ rd (fK get))=some out/\kJ out.obs/\out.v=den dv/\out.upd=[]/\k dv [] rd []=some r:=by unfold KD at h;unfold l9;rw[ah]at h;obtain⟨ti,h1,h⟩:=h;simp[h1];split at h;rename_i e kd n hk;rw[ah]at h;obtain⟨ei,h2,h⟩:=h;simp[hk,den,CT.tv,TV.av,h2];split at h;rename_i c l;split at h;rename_i hs;rw[ah]at h;obtain⟨y,h3,h⟩:=h;have⟨h4,h5⟩:=LU h3;refine⟨.sA (CT.row X.toSE c y),[],_,⟨.eo (CT.row X.toSE c y) 0,[],[0<=n/\(l.map (CT.row X.toSE c))[n.toNat]? =some (CT.row X.toSE c y)]⟩,?_,?_,rfl,rfl,h⟩;simp only[den,CT.tv,TV.av];rw[aX (by rw[GH];exact hs)];rfl;exact⟨h4,by simp[h5]⟩;cases h;rename_i kk aa len;rw[ah]at h;obtain⟨o,h3,h⟩:=h;split at h;rename_i c l;split at h;rename_i hs;have⟨h4,h⟩:=dQ h;have⟨h5,h6⟩:=UU h4;refine⟨.none,[kk],_,⟨.ptr kk (aa+n.toNat) 0,[],[0<=n/\n.toNat<len]⟩,?_,⟨h5,h6⟩,?_,rfl,h⟩;simp only[den,fu (List.mem_singleton_self kk) h3,ai,bI];rw[aX hs];rfl;simp[iN];congr 1;have:(0:Int)<=n:=h5;omega;cases h;rename_i sz rows;split at h;rename_i hs;have⟨h4,h⟩:=dQ h;have⟨h5,h6⟩:=UU h4;refine⟨.none,[kk],_,⟨.ptr kk (aa+n.toNat) 0,[],[0<=n/\n.toNat<len]⟩,?_,⟨h5,h6⟩,rfl,rfl,h⟩;simp only[den,fu (List.mem_singleton_self kk) h3,ai,bI];rw[aX hs];rfl;cases h;cases h;cases h;rename_i m e kd n hk;have⟨ei,h2,h⟩:=ah.1 h;simp[hk,den,CT.tv,TV.av,h2];have⟨h4,h⟩:=dQ h;have⟨h5,h6⟩:=UU h4;split at h;exact⟨.none,[],_,_,rfl,⟨h5,h6⟩,rfl,rfl,h⟩;exact⟨.none,[],_,_,rfl,⟨h5,h6⟩,rfl,rfl,h⟩;exact⟨.none,[],_,_,rfl,⟨h5,h6⟩,rfl,rfl,h⟩;cases h;cases h
theorem UW{x:DV X}{j:Nat}(h:UM x j k=some r):∃dv out,Gt (den x) j=some out/\kJ out.obs/\out.v=den dv/\out.upd=[]/\k dv [] [] []=some r:=by unfold UM at h;split at h;have⟨v,h2,h⟩:=ah.1 h;refine⟨v,⟨den v,[],[]⟩,?_,trivial,rfl,rfl,h⟩;simp[Gt,den,nS,h2,pv];cases h
end
section
variable {X:SX} {A:Type} {T:ec} {code:TypeId->Option (CT X.ι)} {get:Nat->Option (bp X)} {k:KK X A} {r:A} {i:Nat}
theorem aaz{op:BinOp}{kd:IntKind}{a b:Int}:∃v obs,TS op kd a b=some (v,obs)/\den (GJ (X:=X) op kd a b).1=.t (.sc v)/\(∀ g,(GJ (X:=X) op kd a b).2=some g->g=true->kJ obs)/\((GJ (X:=X) op kd a b).2=none->kJ obs):=by
 cases op<;>refine⟨_,_,rfl,rfl,λg hg ht=>?_,λhn=>?_⟩<;>simp[GJ]at* <;>try trivial
 all_goals subst hg;simp_all [kJ]
theorem acv{n:Nat}{x y:DV X}{b:Bool}(h:aav n x y=some b):Ky n (den x) (den y)=some b:=by unfold aav at h;split at h;split at h;cases h;simp only[den,CT.tv,TV.av,Ky];rw[aX ‹_›];cases h;exact h;exact h;cases h
theorem LV:∀{ks:List Nat}{xs ys:List (DV X)}{b:Bool},GK ks xs ys=some b->sG ks (bG xs) (bG ys)=some b
 |[],[],[],b,h=>h
 |k::ks,x::xs,y::ys,b,h=>by simp[GK]at h;rw[ah]at h;obtain⟨p,h1,h⟩:=h;rw[ah]at h;obtain⟨q,h2,h⟩:=h;simp[bG,sG,acv h1,LV h2,h]
 |[],_::_,_,_,h|[],[],_::_,_,h|_::_,[],_,_,h|_::_,_::_,[],_,h=>by simp[GK]at h
theorem acw{x:DV X}{xs:List (DV X)}(h:Q4 x=some xs):den x=.agg (bG xs):=by unfold Q4 at h;split at h;cases h;rfl;cases h;rw[o6];rfl;cases h
theorem ae7{op:BinOp}{t:TypeId}{x y:DV X}(h:amY T op t x y k=some r):∃dv out,XJ T op t (den x) (den y)=some out/\kJ out.obs/\out.v=den dv/\out.upd=[]/\k dv [] [] []=some r:=by
 unfold amY at h;split at h;rename_i kd a yk b;split at h;rename_i hk;have⟨v,obs,h1,h2,h3,h4⟩:=aaz (X:=X) (op:=op) (kd:=kd) (a:=a) (b:=b);have fin:kJ obs->k (GJ op kd a b).1 [] [] []=some r->∃dv out,XJ T op t (den (.c (.int kd) a:DV X)) (den (.c (.int yk) b:DV X))=some out/\kJ out.obs/\out.v=den dv/\out.upd=[]/\k dv [] [] []=some r:=by intro ho hkk;refine⟨_,⟨.t (.sc v),[],obs⟩,?_,ho,h2.symm,rfl,hkk⟩;simp only[den,CT.tv,TV.av,XJ];rw[aX hk,h1];rfl
 split at h;rename_i hn;exact fin (h4 hn) h;rename_i g hg;have⟨hgt,h⟩:=dQ h;exact fin (h3 g hg hgt) h;cases h;split at h;exact⟨_,_,rfl,trivial,rfl,rfl,h⟩;exact⟨_,_,rfl,trivial,rfl,rfl,h⟩;exact⟨_,_,rfl,trivial,rfl,rfl,h⟩;exact⟨_,_,rfl,trivial,rfl,rfl,h⟩;have⟨hc,h⟩:=dQ h;exact⟨_,_,rfl,show _<=maxLen from of_decide_eq_true hc,rfl,rfl,h⟩;cases h;rw[ah]at h;obtain⟨ti,h1,h⟩:=h;split at h;rename_i hk;refine⟨_,⟨.t (.sc (.bool _)),[],[]⟩,?_,trivial,rfl,rfl,h⟩;simp[XJ,h1,hk];rfl;rename_i hk;refine⟨_,⟨.t (.sc (.bool _)),[],[]⟩,?_,trivial,rfl,rfl,h⟩;simp[XJ,h1,hk];rfl;cases h;rw[ah]at h;obtain⟨xs,h1,h⟩:=h;rw[ah]at h;obtain⟨ys,h2,h⟩:=h;rw[ah]at h;obtain⟨ti,h3,h⟩:=h;split at h;cases h;rename_i hc;have⟨b,h4,h⟩:=ah.1 h;have h5:=LV h4;rw[acw h1,acw h2];split at h;refine⟨_,⟨.t (.sc (.bool b)),[],[]⟩,?_,trivial,rfl,rfl,h⟩;simp only[XJ,h3,ai];rw[aU hc,h5];rfl;refine⟨_,⟨.t (.sc (.bool (!b))),[],[]⟩,?_,trivial,rfl,rfl,h⟩;simp only[XJ,h3,ai];rw[aU hc,h5];rfl;cases h
theorem aim{op:UnOp}{x:DV X}(h:TE op x k=some r):∃dv out,Tr op (den x)=some out/\kJ out.obs/\out.v=den dv/\out.upd=[]/\k dv [] [] []=some r:=by unfold TE at h;split at h;exact⟨_,_,rfl,trivial,rfl,rfl,h⟩;exact⟨_,_,rfl,trivial,rfl,rfl,h⟩;cases h
theorem QR(mx:Bool)(kd:IntKind):∀(l:List (DV X))(a n:Int),Jb mx kd a l=some n->Dt mx kd a (bG l)=some n
 |[],a,n,h=>h
 |x::l,a,n,h=>by
  cases x
  case c t y=>
   cases t
   case int k'=>
    simp only[Jb]at h;simp only[bG,den,CT.tv,TV.av,Dt];split at h;rename_i hk;rw[aX hk];exact QR mx kd l _ _ h;cases h
   all_goals simp[Jb]at h
  all_goals simp[Jb]at h
theorem Y3{mx:Bool}{args:List (DV X)}(h:Pc mx args k=some r):∃dv out,Hp mx (bG args)=some out/\kJ out.obs/\out.v=den dv/\out.upd=[]/\k dv [] [] []=some r:=by unfold Pc at h;split at h;rename_i kd a l;rw[ah]at h;obtain⟨n,h1,h⟩:=h;refine⟨_,⟨.t (.sc (.int kd n)),[],[]⟩,?_,trivial,rfl,rfl,h⟩;simp[bG,den,CT.tv,TV.av,Hp];have:=QR mx kd l a n h1;simp[this];rfl;cases h
theorem ae8{t:TypeId}{x:DV X}(h:amZ T t x k=some r):∃cm dv out,AN T t (den x) cm=some out/\kJ out.obs/\out.v=den dv/\out.upd=[]/\k dv [] [] []=some r:=by unfold amZ at h;unfold AN;rw[ah]at h;obtain⟨ti,h1,h⟩:=h;simp[h1];split at h;rename_i e c l hk;simp[hk];exact⟨.num (l.length:Int),_,⟨.t (.sc (.int .i64 (l.length:Int))),[],[(l.length:Int)=((l.map (CT.row X.toSE c)).length:Int)]⟩,rfl,by simp[kJ],rfl,rfl,h⟩;rename_i hk;simp[hk];exact⟨.none,_,_,rfl,trivial,rfl,rfl,h⟩;rename_i hk;simp[hk];exact⟨.none,_,_,rfl,trivial,rfl,rfl,h⟩;rename_i hk;simp[hk];exact⟨.none,_,_,rfl,trivial,rfl,rfl,h⟩;rename_i hk;simp[hk];exact⟨.none,_,_,rfl,trivial,rfl,rfl,h⟩;cases h
theorem OQ(place:Nat->Option (Nat×Nat)):∀(parts:List (Nat×DV X))(cells out:List (DV X)),Y1 place cells parts=some out->EY place (bG cells) (parts.map λp=>(p.1,den p.2))=some (bG out)
 |[],cells,out,h=>by simp[Y1]at h;subst h;rfl
 |(j,x)::ae,cells,out,h=>by simp[Y1]at h;rw[ah]at h;obtain⟨⟨aa,size⟩,h1,h⟩:=h;rw[ah]at h;obtain⟨cs,h2,h⟩:=h;split at h;rename_i hl;simp only[bH,EY,h1,DK h2,ai,iL];rw[aX hl,<- UQ];exact OQ place ae _ _ h;cases h
theorem aaA{t:TypeId}{parts:List (Nat×DV X)}(h:ae3 T t parts k=some r):∃dv out,TY T t (parts.map λp=>(p.1,den p.2))=some out/\kJ out.obs/\out.v=den dv/\out.upd=[]/\k dv [] [] []=some r:=by unfold ae3 at h;unfold TY;rw[ah]at h;obtain⟨ti,h1,h⟩:=h;simp[h1];split at h;rename_i fs hk;split at h;rename_i ha;rw[ah]at h;obtain⟨cells,h2,h⟩:=h;have h3:=OQ _ _ _ _ h2;rw[Ca]at h3;refine⟨_,⟨.agg (bG cells),[],[]⟩,?_,trivial,rfl,rfl,h⟩;simp only[hk];rw[aX ha,h3];rfl;cases h;rename_i m e hk;rw[ah]at h;obtain⟨ei,h2,h⟩:=h;rw[ah]at h;obtain⟨cells,h3,h⟩:=h;have h4:=OQ _ _ _ _ h3;rw[Ca]at h4;refine⟨_,⟨.agg (bG cells),[],[]⟩,?_,trivial,rfl,rfl,h⟩;simp[hk,h2,h4];rfl;cases h
theorem Y4(size:Nat)(c:CT X.ι)(hs:CT.sz X c=size)(z:List AV):∀(parts:List (Nat×DV X))(n:Nat)(l:List (CT.T X.toSE c))(done:List (List AV)),MY c n parts=some l->done.length=n->
 ∃css:List (List AV),Ll size (done++List.replicate parts.length z) (parts.map λp=>(p.1,den p.2))=some (done++css)/\css.map (λ r=>r.map wk)=aI (l.map (CT.row X.toSE c))
 |[],n,l,done,h,_=>by simp[MY]at h;subst h;exact⟨[],by simp[Ll],rfl⟩
 |(j,x)::ae,n,l,done,h,hd=>by
  simp only[MY]at h;split at h;rename_i hj;subst hj;have⟨y,h1,h⟩:=ah.1 h;have⟨l',h2,h⟩:=ah.1 h;cases h;have⟨cs,g1,g2⟩:=aik h1;have hl:cs.length=size:=by have:=congrArg List.length g2;simp[GH]at this;omega
  obtain⟨css,i1,i2⟩:=Y4 size c hs z ae (j+1) l' (done++[cs]) h2 (by simp[hd]);refine⟨cs::css,?_,?_⟩;simp only[bH,Ll,g1,ai];rw[aX ⟨hl,by simp;omega⟩];have:(done++List.replicate (ae.length+1) z).set j cs=done++[cs]++List.replicate ae.length z:=by rw[List.set_append_right _ _ (by omega),hd];simp[List.replicate_succ]
  simp only[gH,this,i1];simp;simp[i2,g2,aI];cases h
theorem LW{t:TypeId}{len:Nat}{parts:List (Nat×DV X)}(h:GL T code i t len parts k=some r):∃dv u out,vL T i t len (parts.map λp=>(p.1,den p.2))=some out/\kJ out.obs/\out.v=den dv/\out.upd=jh [(cC i,u)]/\k dv [(cC i,u)] [] []=some r:=by unfold GL at h;unfold vL;rw[ah]at h;obtain⟨ti,h1,h⟩:=h;simp[h1];split at h;rename_i e hk;rw[ah]at h;obtain⟨ei,h2,h⟩:=h;rw[ah]at h;obtain⟨c,h3,h⟩:=h;simp only[hk,h2,ai];split at h;cases h;rename_i hno;simp only[not_or,Decidable.not_not]at hno;obtain⟨n1,n2,n3,n4⟩:=hno;have⟨l,h4,h⟩:=ah.1 h;have⟨css,g1,g2⟩:=Y4 ei.size c n3 (ei.zero.map cv) parts 0 l [] h4 rfl;simp[n4]at g1;refine⟨_,_,⟨.own (cC i) 0 len,[(cC i,some ⟨ei.size,dS css⟩)],[]⟩,?_,trivial,rfl,?_,h⟩;rw[aU (by simp only[not_or];exact⟨n1,n2⟩),g1];rfl;simp[jh,bI,n3];rw[show dS css=aI (l.map (CT.row X.toSE c))from g2];cases h
theorem aaB{e:TypeId}(h:ae4 T i e k=some r):∃dv u out,T9 T i e=some out/\kJ out.obs/\out.v=den dv/\out.upd=jh [(cC i,u)]/\k dv [(cC i,u)] [] []=some r:=by unfold ae4 at h;unfold T9;have⟨ti,h1,h⟩:=ah.1 h;exact⟨_,_,⟨_,[(cC i,some ⟨ti.size,[ti.zero.map cv]⟩)],[]⟩,by simp[h1];rfl,trivial,rfl,by simp[jh,bI,Ca],h⟩
theorem ae9{x:DV X}(h:am0 i x k=some r):∃dv u out,No i (den x)=some out/\kJ out.obs/\out.v=den dv/\out.upd=jh [(cC i,u)]/\k dv [(cC i,u)] [] []=some r:=by unfold am0 at h;unfold No;rw[ah]at h;obtain⟨cs,h1,h⟩:=h;exact⟨_,_,⟨_,[(cC i,some ⟨(bG cs).length,[bG cs]⟩)],[]⟩,by simp[DK h1];rfl,trivial,rfl,by simp[jh,bI,iL],h⟩
theorem Cc{d n:Int}{x:Option (DV X)}(h:AF d x=some n):bnd d (x.map den)=some n:=by unfold AF at h;split at h;exact h;exact h;cases h
theorem Y5{l h:Int}{len:Nat}(hh:AL l h len=true):0<=l/\l<=h/\h<=(len:Int):=by simpa[AL,and_assoc]using hh
theorem aaC{t:TypeId}{x:DV X}{lo hi:Option (DV X)}(h:ae5 T t x lo hi get k=some r):∃cm rd dv out,Ua T t (den x) (lo.map den) (hi.map den) cm (dJ rd (fK get))=some out/\kJ out.obs/\out.v=den dv/\out.upd=[]/\k dv [] rd []=some r:=by
 unfold ae5 at h;unfold Ua;rw[ah]at h;obtain⟨ti,h1,h⟩:=h;simp[h1];split at h;rename_i e hk;rw[ah]at h;obtain⟨ei,h2,h⟩:=h;simp[hk,h2];split at h;rename_i kk aa len;rw[ah]at h;obtain⟨o,h3,h⟩:=h;split at h;rename_i hs;rw[ah]at h;obtain⟨l,h4,h⟩:=h;rw[ah]at h;obtain⟨hh,h5,h⟩:=h;have⟨h6,h⟩:=dQ h;refine⟨.none,[kk],_,⟨.own kk (aa+l.toNat) (hh.toNat-l.toNat),[],[0<=l/\l<=hh/\hh<=(len:Int)]⟩,?_,Y5 h6,rfl,rfl,h⟩;simp only[den,fu (List.mem_singleton_self kk) h3,ai];rw[aX hs,Cc h4,ai,Cc h5];rfl;cases h;rename_i c xs;split at h;rename_i hs;have⟨l,h4,h⟩:=ah.1 h;have⟨hh,h5,h⟩:=ah.1 h;have⟨h6,h⟩:=dQ h;refine⟨.A6 ((sub xs l.toNat (hh.toNat-l.toNat)).map (CT.row X.toSE c)),[],_,⟨.t (.sl ((sub xs l.toNat (hh.toNat-l.toNat)).map (CT.row X.toSE c))),[],[0<=l/\l<=hh/\hh<=((xs.map (CT.row X.toSE c)).length:Int)/\(sub xs l.toNat (hh.toNat-l.toNat)).map (CT.row X.toSE c)=((xs.map (CT.row X.toSE c)).drop l.toNat).take (hh.toNat-l.toNat)/\(∀ q∈xs.map (CT.row X.toSE c),q.length=ei.size)]⟩,?_,?_,rfl,rfl,h⟩;simp only[den,CT.tv,TV.av,Cc h4,ai];have h7:bnd ((xs.map (CT.row X.toSE c)).length:Int) (hi.map den)=some hh:=by have:=Cc h5;simpa using this
 rw[h7];rfl;have⟨a1,a2,a3⟩:=Y5 h6;refine⟨a1,a2,by simpa using a3,by simp[sub],λq hq=>?_⟩;obtain⟨y,_,rfl⟩:=mem_map.1 hq;rw[GH];exact hs;cases h;cases h;cases h
end
section
variable {X:SX} {A:Type} {T:ec} {code:TypeId->Option (CT X.ι)} {get:Nat->Option (bp X)} {k:KK X A} {r:A} {i:Nat}
theorem jr{b c:CT X.ι}{l:List (CT.T X.toSE b)}{l':List (CT.T X.toSE c)}(h:lg (.sl b) (.sl c) l=some l'):CT.sz X b=CT.sz X c/\l.map (CT.row X.toSE b)=l'.map (CT.row X.toSE c):=by
 obtain⟨e,h⟩:=rE h
 grind
theorem acy{y:DV X}{c:CT X.ι}{n:Nat}{l:List (CT.T X.toSE c)}{rd:List Nat}(h:am1 y c get=some (n,l,rd))(hl:l.length=n)(rd':List Nat)(hrd:∀j∈rd,j∈rd'):
 ∃ob,Ub (CT.sz X c) (den y) (dJ rd' (fK get))=some (n,ob,aI (l.map (CT.row X.toSE c)))/\ob:=by unfold am1 at h;split at h;rename_i kk aa len;rw[ah]at h;obtain⟨o,h1,h⟩:=h;split at h;rw[ah]at h;obtain⟨l1,h2,h⟩:=h;injection h with h;obtain⟨rfl,rfl,rfl⟩:=h;have⟨h3,h4⟩:=jr h2;refine⟨True,?_,trivial⟩;simp only[den,Ub,fu (hrd kk (by simp)) h1,ai,bI];rw[aX h3];simp[h4];simp[aI,sub];cases h;rename_i b l0;have⟨l1,h2,h⟩:=ah.1 h;injection h with h;simp at h;obtain⟨rfl,rfl,rfl⟩:=h;refine⟨∀ q∈l1.map (CT.row X.toSE c),q.length=CT.sz X c,?_,?_⟩;rw[(oq h2).1];simp[den,CT.tv,TV.av,Ub];intro q hq;obtain⟨z,_,rfl⟩:=mem_map.1 hq;exact GH c z;cases h
theorem UX{lo len ln n bytes:Nat}(h:bL lo len ln n bytes=true):lo=len/\ln=n/\(len+n)*bytes<=140737488355328/\len+n<=maxLen:=by simpa[bL,and_assoc]using h
theorem pm{α:Type}(n:Nat)(l:List α):UN n l=l.drop n:=by cases n<;>rfl
theorem XW{t:TypeId}{x y:DV X}(h:aaw T code i t x y get k=some r):∃cm rd wr dv upd out,zL T i t (den x) (den y) cm (dJ rd (fK get))=some out/\kJ out.obs/\out.v=den dv/\out.upd=jh upd/\(∀ p∈upd,p.1=cC i\/p.1∈wr)/\k dv upd rd wr=some r:=by
 unfold aaw at h;unfold zL;rw[ah]at h;obtain⟨ti,h1,h⟩:=h;simp only[h1,ai];split at h;rename_i e hk;rw[ah]at h;obtain⟨ei,h2,h⟩:=h;rw[ah]at h;obtain⟨c,h3,h⟩:=h;simp only[hk,h2,ai];split at h;rename_i hs;rw[ah]at h;obtain⟨⟨n,l,rd⟩,h4,h⟩:=h;split at h;rename_i kk aa len;have⟨o,h5,h⟩:=ah.1 h;split at h;have⟨l1,h6,h⟩:=ah.1 h;have⟨h7,h⟩:=dQ h;rw[pm]at h7 h;have hd:(aI (l1.map (CT.row X.toSE c))).drop aa=aI ((l1.drop aa).map (CT.row X.toSE c)):=by simp[aI]
 have⟨g1,g2,g3,g4⟩:=UX h7;have⟨h8,h9⟩:=jr h6;obtain⟨ob,i1,i2⟩:=acy h4 g2 (kk::rd) (λ j hj=>by simp[hj]);have i3:=fu (rd:=kk::rd) (by simp) h5
 refine⟨.rows (aI ((l1.drop aa++l).map (CT.row X.toSE c))),kk::rd,[kk],_,_,⟨.own (cC i) 0 (aI ((l1.drop aa++l).map (CT.row X.toSE c))).length,[(cC i,some ⟨ei.size,aI ((l1.drop aa++l).map (CT.row X.toSE c))⟩),(kk,none)],
  [ob/\(aI ((l1.drop aa).map (CT.row X.toSE c))).length=len/\(aI (l.map (CT.row X.toSE c))).length=n/\aI ((l1.drop aa++l).map (CT.row X.toSE c))=aI ((l1.drop aa).map (CT.row X.toSE c))++aI (l.map (CT.row X.toSE c))/\(len+n)*ei.bytes<=140737488355328/\len+n<=maxLen]⟩,?_,?_,?_,?_,?_,h⟩
 rw[hs]at i1;simp only[i1,ai,den,i3,bI,h9,hd];rw[aX (by rw[h8,hs])];exact⟨i2,by simpa[aI]using g1,by simpa[aI]using g2,by simp[aI],g3,g4⟩;simp[den,aI];simp[jh,bI,hs];intro p hp;simp at hp;rcases hp with rfl|rfl;exact .inl rfl;exact .inr (by simp);cases h;have⟨h7,h⟩:=dQ h;have⟨g1,g2,g3,g4⟩:=UX h7;obtain⟨ob,i1,i2⟩:=acy h4 g2 rd (λ j hj=>hj)
 refine⟨.rows (aI (l.map (CT.row X.toSE c))),rd,[],_,_,⟨.own (cC i) 0 (aI (l.map (CT.row X.toSE c))).length,[(cC i,some ⟨ei.size,aI (l.map (CT.row X.toSE c))⟩)],
  [ob/\(aI (l.map (CT.row X.toSE c))).length=n/\aI (l.map (CT.row X.toSE c))=aI (l.map (CT.row X.toSE c))/\n*ei.bytes<=140737488355328/\n<=maxLen]⟩,?_,?_,?_,?_,?_,h⟩
 rw[hs]at i1;simp[i1,den];exact⟨i2,by simpa[aI]using g2,rfl,by simpa using g3,by simpa using g4⟩;simp[den,aI];simp[jh,bI,hs];intro p hp;simp at hp;rcases hp with rfl;exact .inl rfl;cases h;cases h;cases h
def anH(T:ec)(i:Nat)(o:Oper)(ρ:Operand->DV X)(get:Nat->Option (bp X))(k:KK X A)(r:A):Prop:=
 ∃cm rd wr dv upd out,ql T i o cm (λ x=>den (ρ x)) (dJ rd (fK get))=some out/\kJ out.obs/\out.v=den dv/\out.upd=jh upd/\(∀ p∈upd,p.1=cC i\/p.1∈wr)/\k dv upd rd wr=some r
theorem UY{b:Builtin}{args:List (DV X)}{cV:List TypeId}(h:UO T code i b args cV get k=some r):∃cm rd wr dv upd out,BV T i b (bG args) cV cm (dJ rd (fK get))=some out/\kJ out.obs/\out.v=den dv/\out.upd=jh upd/\(∀ p∈upd,p.1=cC i\/p.1∈wr)/\k dv upd rd wr=some r:=by unfold UO at h;unfold BV;split at h;have⟨cm,dv,out,h1,h2,h3,h4,h5⟩:=ae8 h;exact⟨cm,[],[],dv,[],out,h1,h2,h3,h4,by simp,h5⟩;have⟨dv,out,h1,h2,h3,h4,h5⟩:=Y3 h;exact⟨.none,[],[],dv,[],out,h1,h2,h3,h4,by simp,h5⟩;have⟨dv,out,h1,h2,h3,h4,h5⟩:=Y3 h;exact⟨.none,[],[],dv,[],out,h1,h2,h3,h4,by simp,h5⟩;split at h;rename_i htu;have⟨cm,rd,wr,dv,upd,out,h1,h2⟩:=XW h;refine⟨cm,rd,wr,dv,upd,out,?_,h2⟩;simp only[bG];rw[aX htu];exact h1;cases h;cases h
theorem Tq(ρ:Operand->DV X)(l:List Operand):l.map (λ x=>den (ρ x))=bG (l.map ρ):=by rw[nS,map_map];rfl
theorem Y6{o:Oper}{ρ:Operand->DV X}(h:O2 T code i o.op ρ get k=some r):anH T i o ρ get k r:=by
 obtain⟨dst,op,ty,am,after,guard⟩:=o;unfold anH ql;simp at h;unfold O2 at h;split at h;exact⟨.none,[],[],_,[],_,rfl,trivial,rfl,rfl,by simp,h⟩;exact⟨.none,[],[],_,[],_,rfl,trivial,rfl,rfl,by simp,h⟩;rename_i c a b;split at h;rename_i t hc;refine⟨.none,[],[],_,[],⟨N6 t (den (ρ a)) (den (ρ b)),[],[]⟩,?_,trivial,(aii t _ _).symm,rfl,by simp,h⟩;simp[hc,den,CT.tv,TV.av,pv];cases h;have⟨dv,u,out,h1,h2,h3,h4,h5⟩:=aaB h;exact⟨.none,[],[],dv,_,out,h1,h2,h3,h4,by simp,h5⟩;have⟨dv,u,out,h1,h2,h3,h4,h5⟩:=ae9 h;exact⟨.none,[],[],dv,_,out,h1,h2,h3,h4,by simp,h5⟩;rename_i t parts;have⟨dv,out,h1,h2,h3,h4,h5⟩:=aaA h;refine⟨.none,[],[],dv,[],out,?_,h2,h3,h4,by simp,h5⟩;rw[map_map]at h1;exact h1;rename_i t len parts;have⟨dv,u,out,h1,h2,h3,h4,h5⟩:=LW h;refine⟨.none,[],[],dv,_,out,?_,h2,h3,h4,by simp,h5⟩;rw[map_map]at h1;exact h1;have⟨cm,rd,dv,out,h1,h2,h3,h4,h5⟩:=aij h;exact⟨cm,rd,[],dv,[],out,h1,h2,h3,h4,by simp,h5⟩;have⟨cm,kk,u,out,h1,h2,h3,h4,h5⟩:=ail h;exact⟨cm,[kk],[kk],.undef,_,out,h1,h2,h3,h4,by simp,h5⟩;have⟨dv,out,h1,h2,h3,h4,h5⟩:=ae7 h;exact⟨.none,[],[],dv,[],out,h1,h2,h3,h4,by simp,h5⟩;have⟨dv,out,h1,h2,h3,h4,h5⟩:=aim h;exact⟨.none,[],[],dv,[],out,h1,h2,h3,h4,by simp,h5⟩;rename_i f first caps
 refine⟨.none,[],[],_,[],⟨.fn f (first.toList.map λx=>den (ρ x)) (caps.toList.map λx=>den (ρ x)),[],[]⟩,rfl,trivial,?_,rfl,by simp,h⟩;simp[den,Tq];rename_i t x lo hi;have⟨cm,rd,dv,out,h1,h2,h3,h4,h5⟩:=aaC h;refine⟨cm,rd,[],dv,[],out,?_,h2,h3,h4,by simp,h5⟩;simp at h1;exact h1;have⟨dv,out,h1,h2,h3,h4,h5⟩:=OM h;exact⟨.none,[],[],dv,[],out,h1,h2,h3,h4,by simp,h5⟩;have⟨dv,out,h1,h2,h3,h4,h5⟩:=aay h;exact⟨.none,[],[],dv,[],out,h1,h2,h3,h4,by simp,h5⟩;have⟨cm,rd,dv,out,h1,h2,h3,h4,h5⟩:=OO h;exact⟨cm,rd,[],dv,[],out,h1,h2,h3,h4,by simp,h5⟩;have⟨dv,out,h1,h2,h3,h4,h5⟩:=UW h;exact⟨.none,[],[],dv,[],out,h1,h2,h3,h4,by simp,h5⟩;rename_i b args cV;have⟨cm,rd,wr,dv,upd,out,h1,h2⟩:=UY h;refine⟨cm,rd,wr,dv,upd,out,?_,h2⟩;simp[Tq];exact h1;cases h
end
inductive Pt(ι:Type) where
 |v (c:CT ι)
 |o (k:Nat)
 |p (k:Nat)
 |nil
 |f (F:FuncId) (fs cs:List (Pt ι))
 |od (k:Nat)
 |mp (k:Nat)
 |oz (k:Nat)
 |a (ps:List (Pt ι))
inductive OP(ι:Type) where
 |l (c:CT ι)
 |m (k v:CT ι)
 |c (sz:Nat) (rows:List (List (Pt ι)))
section
variable {ι:Type}
mutual
def Pt.vars:Pt ι->List (CT ι)
 |.v c=>[c]
 |.a ps=>cI ps
 |.f _ fs cs=>cI fs++cI cs
 |.od _=>[.int .i64]
 |_=>[]
def cI:List (Pt ι)->List (CT ι)
 |[]=>[]
 |p::ps=>p.vars++cI ps
end
def gO:List (Nat×Pt ι)->List (CT ι)
 |[]=>[]
 |p::ps=>p.2.vars++gO ps
def vN:List (List (Pt ι))->List (CT ι)
 |[]=>[]
 |r::rs=>cI r++vN rs
def cX:List (Nat×OP ι)->List (CT ι)
 |[]=>[]
 |(_,.l c)::r=>.sl c::cX r
 |(_,.m k v)::r=>.mp k v::cX r
 |(_,.c _ rows)::r=>vN rows++cX r
end
section
variable {X:SX}
structure DC(X:SX) where
 c:CT X.ι
 x:CT.T X.toSE c
@[reducible] def VT:List (CT X.ι)->Type
 |[]=>Unit
 |[c]=>CT.T X.toSE c
 |c::c'::l=>CT.T X.toSE c×VT (c'::l)
def E6:(l:List (CT X.ι))->List (DC X)->Option (VT (X:=X) l)
 |[],[]=>some ()
 |[c],[d]=>lg d.c c d.x
 |c::c'::l,d::ds=>(lg d.c c d.x).bind λx=>(E6 (c'::l) ds).bind λv=>some (x,v)
 |_,_=>none
def vO:(l:List (CT X.ι))->VT (X:=X) l->List (DC X)
 |[],_=>[]
 |[c],x=>[⟨c,x⟩]
 |c::c'::l,v=>⟨c,v.1⟩::vO (c'::l) v.2
theorem acz{d:DC X}{c:CT X.ι}{x:CT.T X.toSE c}(h:lg d.c c d.x=some x):(⟨c,x⟩:DC X)=d:=by obtain⟨a,y⟩:=d;have⟨e,h⟩:=rE h;simp at e;subst e;subst h;rfl
theorem UZ:∀{l:List (CT X.ι)}{ds:List (DC X)}{v:VT (X:=X) l},E6 l ds=some v->vO l v=ds
 |[],[],_,_=>rfl
 |[c],[d],v,h=>by simp[E6]at h;simp[vO,acz h]
 |c::c'::l,d::ds,v,h=>by simp[E6]at h;rw[ah]at h;obtain⟨x,h1,h⟩:=h;rw[ah]at h;obtain⟨v',h2,h⟩:=h;cases h;simp[vO,acz h1,UZ h2]
 |[],_::_,_,h|[_],[],_,h|[_],_::_::_,_,h|_::_::_,[],_,h=>by simp[E6]at h
theorem U0{c:CT X.ι}(x:CT.T X.toSE c):lg c c x=some x:=by unfold lg;split;rfl;rename_i h _;exact absurd rfl h
def Y7(d:DC X):Nat:=match lg d.c (.int .i64) d.x with|some x=>Int.toNat x|none=>0
section
variable (dp:Nat->Nat)
mutual
def eP:Pt X.ι->List (DC X)->DV X×List (DC X)
 |.v _,L=>match L with
  |d::r=>(.c d.c d.x,r)
  |[]=>(.undef,[])
 |.o k,L=>(.own k 0 (dp k),L)
 |.p k,L=>(.ptr k 0 0,L)
 |.mp k,L=>(.mp k,L)
 |.oz k,L=>(.oz k (dp k),L)
 |.nil,L=>(.nil,L)
 |.f F fs cs,L=>(.fn F (k7 fs L).1 (k7 cs (k7 fs L).2).1,(k7 cs (k7 fs L).2).2)
 |.od k,L=>match L with
  |d::r=>(.own k (Y7 d) (dp k-Y7 d),r)
  |[]=>(.undef,[])
 |.a ps,L=>(.agg (k7 ps L).1,(k7 ps L).2)
def k7:List (Pt X.ι)->List (DC X)->List (DV X)×List (DC X)
 |[],L=>([],L)
 |p::ps,L=>((eP p L).1::(k7 ps (eP p L).2).1,(k7 ps (eP p L).2).2)
end
def wE:List (Nat×Pt X.ι)->List (DC X)->List (Nat×DV X)
 |[],_=>[]
 |(t,p)::r,L=>(t,(eP dp p L).1)::wE r (eP dp p L).2
def vP:List (List (Pt X.ι))->List (DC X)->List (List (DV X))×List (DC X)
 |[],L=>([],L)
 |r::rs,L=>((k7 dp r L).1::(vP rs (k7 dp r L).2).1,(vP rs (k7 dp r L).2).2)
def bV:List (Nat×OP X.ι)->List (DC X)->List (Nat×Option (bp X))
 |[],_=>[]
 |(k,.l _)::r,L=>match L with
  |⟨.sl c',x⟩::L=>(k,some (.eb c' x))::bV r L
  |_=>[]
 |(k,.m _ _)::r,L=>match L with
  |⟨.mp kc vc,x⟩::L=>(k,some (.map kc vc x))::bV r L
  |_=>[]
 |(k,.c sz rows)::r,L=>(k,some (.cells sz (vP dp rows L).1))::bV r (vP dp rows L).2
end
def lens:List (Nat×OP X.ι)->List (DC X)->List (Nat×Nat)
 |[],_=>[]
 |(k,.l _)::r,L=>match L with
  |⟨.sl _,x⟩::L=>(k,List.length x)::lens r L
  |_=>[]
 |(_,.m _ _)::r,L=>lens r (L.drop 1)
 |(_,.c _ rows)::r,L=>lens r (L.drop (vN rows).length)
def lr:Nat->List (Pt X.ι)->List (Nat×Pt X.ι)
 |_,[]=>[]
 |n,p::ps=>(n,p)::lr (n+1) ps
theorem OT:∀(n:Nat)(ps:List (Pt X.ι)),gO (lr n ps)=cI ps
 |_,[]=>rfl
 |n,p::ps=>by simp[lr,gO,cI,OT (n+1) ps]
structure cM(X:SX) where
 mj:List (Pt X.ι)
 il:List (Nat×OP X.ι)
 fm:List (Pt X.ι)
 iz:List (Nat×OP X.ι)
 fn:VT (X:=X) (cI mj++cX il)->Option (VT (X:=X) (gO (lr 0 fm)++cX iz))
def DR(O:List (Nat×OP X.ι))(L:List (DC X))(k:Nat):Nat:=(lk (lens O L) k).getD 0
def U1(ps:List (Pt X.ι))(O:List (Nat×OP X.ι))(L:List (DC X)):List (DV X):=(k7 (DR O (L.drop (cI ps).length)) ps (L.take (cI ps).length)).1
def Y8(ps:List (Pt X.ι))(O:List (Nat×OP X.ι))(L:List (DC X)):List (Nat×Option (bp X)):=bV (DR O (L.drop (cI ps).length)) O (L.drop (cI ps).length)
def yu:List (DV X)->DV X
 |[d]=>d
 |ds=>.eR ds
def dF:List (Nat×Option (bp X))->List (Nat×bp X)
 |[]=>[]
 |(k,some o)::r=>(k,o)::dF r
 |(_,none)::r=>dF r
def oL(l:List (Nat×bp X)):List (Nat×aM):=l.map λp=>(p.1,bI p.2)
def cM.args(g:cM X)(v:VT (X:=X) (cI g.mj++cX g.il)):List (DV X):=U1 g.mj g.il (vO _ v)
def cM.cw(g:cM X)(v:VT (X:=X) (cI g.mj++cX g.il)):List (Nat×bp X):=dF (Y8 g.mj g.il (vO _ v))
def cM.res(g:cM X)(r:VT (X:=X) (gO (lr 0 g.fm)++cX g.iz)):DV X:=yu (U1 g.fm g.iz (vO _ r))
def cM.outs(g:cM X)(r:VT (X:=X) (gO (lr 0 g.fm)++cX g.iz)):List (Nat×bp X):=dF (Y8 g.fm g.iz (vO _ r))
def G2(P:Program)(f:FuncId)(g:cM X):Prop:=∀v r,g.fn v=some r->F1 P f (bG (g.args v)) ((g.cw v).map λp=>bI p.2) (oL (g.outs r)) (den (g.res r))
end
inductive AT(ι:Type) where
 |d (c:CT ι)
 |ref (c:CT ι)
 |du (as:List (CT ι)) (r:CT ι)
 |mut (c:CT ι)
 |ju (c:CT ι)
 |nil
 deriving DecidableEq
def AT.im{ι:Type}:AT ι->Bool
 |.mut _|.ju _=>true
 |_=>false
def AT.pl{ι:Type}:AT ι->Bool
 |.mut _|.ju _|.nil=>false
 |_=>true
inductive RT(ι:Type) where
 |d (c:CT ι)
 |fresh (e:CT ι)
 |whole (j:Nat)
 |mu (c:CT ι)
 |mr (c:CT ι)
 |mv
def RT.out{ι:Type}:RT ι->Bool
 |.mu _|.mr _|.mv=>true
 |_=>false
section
variable (X:SX)
@[reducible] def AT.T:AT X.ι->Type
 |.d c=>CT.T X.toSE c
 |.ref c=>CT.T X.toSE c
 |.du as r=>HL X.toSE as->Option (CT.T X.toSE r)
 |.mut c=>List (CT.T X.toSE c)
 |.ju c=>CT.T X.toSE c
 |.nil=>Unit
@[reducible] def RT.T:RT X.ι->Type
 |.d c=>CT.T X.toSE c
 |.fresh e=>List (CT.T X.toSE e)
 |.whole _=>Unit
 |.mu c=>List (CT.T X.toSE c)
 |.mr c=>CT.T X.toSE c
 |.mv=>Unit
@[reducible] def jc:List (AT X.ι)->Type
 |[]=>Unit
 |a::l=>AT.T X a×jc l
@[reducible] def sD:List (RT X.ι)->Type
 |[]=>Unit
 |[r]=>RT.T X r
 |r::r'::l=>RT.T X r×sD (r'::l)
structure b7 where
 args:List (AT X.ι)
 res:List (RT X.ι)
 fn:jc X args->Option (sD X res)
 gen:Option (cM X):=none
variable {X}
def eF:Nat->(l:List (AT X.ι))->jc X l->List AV
 |_,[],_=>[]
 |n,.d c::l,a=>(CT.tv X.toSE c a.1).av::eF n l a.2
 |n,.ref c::l,a=>.eo (CT.row X.toSE c a.1) 0::eF n l a.2
 |n,.du as r::l,a=>den (.du as r a.1:DV X)::eF n l a.2
 |n,.mut _::l,a=>.own n 0 (List.length a.1)::eF (n+1) l a.2
 |n,.ju _::l,a=>.ptr n 0 0::eF (n+1) l a.2
 |n,.nil::l,a=>.cN::eF n l a.2
abbrev yw(l:List (AT X.ι))(a:jc X l):List AV:=eF 0 l a
def uq(c:CT X.ι)(l:List (CT.T X.toSE c)):eZ:=(CT.sz X c,l.map (CT.row X.toSE c))
def uw:(l:List (AT X.ι))->jc X l->List eZ
 |[],_=>[]
 |.mut c::l,a=>uq c a.1::uw l a.2
 |.ju c::l,a=>uq c [a.1]::uw l a.2
 |.d _::l,a=>uw l a.2
 |.ref _::l,a=>uw l a.2
 |.du _ _::l,a=>uw l a.2
 |.nil::l,a=>uw l a.2
def qH:(r:RT X.ι)->RT.T X r->List (Option eZ)
 |.mu c,x=>[some (uq c x)]
 |.mr c,x=>[some (uq c [x])]
 |.mv,_=>[none]
 |_,_=>[]
def o7:(l:List (RT X.ι))->sD X l->List (Option eZ)
 |[],_=>[]
 |[r],x=>qH r x
 |r::r'::l,x=>qH r x.1++o7 (r'::l) x.2
def XY:(r:RT X.ι)->RT.T X r->List Nat
 |.mu _,x=>[List.length x]
 |.mr _,_=>[1]
 |.mv,_=>[0]
 |_,_=>[]
def yl:(l:List (RT X.ι))->sD X l->List Nat
 |[],_=>[]
 |[r],x=>XY r x
 |r::r'::l,x=>XY r x.1++yl (r'::l) x.2
def U2(ns:List Nat):(r:RT X.ι)->RT.T X r->List RC
 |.d c,x=>[.d (CT.tv X.toSE c x)]
 |.fresh e,l=>[.fresh (CT.sz X e) (l.map (CT.row X.toSE e))]
 |.whole j,_=>[.whole j (ns.getD j 0)]
 |_,_=>[]
def DT(ns:List Nat):(l:List (RT X.ι))->sD X l->List RC
 |[],_=>[]
 |[r],x=>U2 ns r x
 |r::r'::l,x=>U2 ns r x.1++DT ns (r'::l) x.2
def sJ(l:List (RT X.ι))(x:sD X l):RV:=
 match DT (yl l x) l x with
 |[c]=>.one c
 |cs=>.eR cs
def pH(P:Program)(Γ:FuncId->Option (b7 X)):Prop:=
 ∀f s,Γ f=some s->eD P f/\(∀ a r,s.fn a=some r->p0 P f (yw s.args a) (uw s.args a) (o7 s.res r) (sJ s.res r))/\∀g,s.gen=some g->G2 P f g
theorem anI:∀{l:List (AT X.ι)},(l.all λq=>q.pl)=true->(l.all λq=>!q.im)=true:=λ{l} h=>by rw[all_eq_true]at h ⊢;intro q hq;have:=h q hq;cases q<;>simp_all [AT.pl,AT.im]
theorem GN:∀{l:List (AT X.ι)}{a:jc X l},(l.all λq=>!q.im)=true->uw l a=[]
 |[],_,_=>rfl
 |.d _::l,a,h|.ref _::l,a,h|.du _ _::l,a,h=>GN (l:=l) (by grind)
 |.mut _::l,a,h|.ju _::l,a,h=>by trivial
 |.nil::l,a,h=>GN (l:=l) (by grind)
theorem acA{r:RT X.ι}{x:RT.T X r}(h:(!r.out)=true):qH r x=[]:=by cases r<;>first|rfl|trivial
theorem acB:∀{l:List (RT X.ι)}{x:sD X l},(l.all λq=>!q.out)=true->o7 l x=[]
 |[],_,_=>rfl
 |[r],x,h=>acA (by grind)
 |r::r'::l,x,h=>by simp only[all_cons,bC]at h;simp[o7,acA h.1];exact acB (l:=r'::l) (by grind)
mutual
def bo:DV X->List Nat
 |.own k _ _=>[k]
 |.ptr k _ _=>[k]
 |.qt k _ _=>[k]
 |.tw k _ _ _ _=>[k]
 |.mp k=>[k]
 |.oz k _=>[k]
 |.agg cs=>aL cs
 |.eR cs=>aL cs
 |.fn _ first caps=>aL first++aL caps
 |_=>[]
def aL:List (DV X)->List Nat
 |[]=>[]
 |x::xs=>bo x++aL xs
end
theorem zR(c:CT X.ι)(x:CT.T X.toSE c):refs (CT.tv X.toSE c x).av=[]:=by
 cases c<;>try rfl
 rename_i i;show eT ((X.row i x).map AV.t)=[];generalize X.row i x=l
 induction l with
 |nil=>rfl
 |cons y ys ih=>trivial
mutual
theorem iH:∀x:DV X,refs (den x)=bo x
 |.c t x=>zR t x
 |.agg cs|.eR cs=>by simp[den,refs,bo,iY cs]
 |.own _ _ _|.ptr _ _ _|.qt _ _ _|.mp _|.oz _ _|.tw _ _ _ _ _|.rp _ _ _|.xf _ _ _ _ _=>rfl
 |.fn f first caps=>by simp[den,refs,bo,iY first,iY caps]
 |.du _ _ _=>rfl
 |.raw v=>by simp[den,cv];split;rfl;split<;>rfl
 |.nil|.ub|.skip|.undef=>rfl
theorem iY:∀l:List (DV X),eT (bG l)=aL l
 |[]=>rfl
 |x::xs=>by simp[bG,eT,aL,iH x,iY xs]
end
def U3(get:Nat->Option (bp X))(d:DV X)(c:CT X.ι):Option (CT.T X.toSE c×List Bool):=
 match d,c with
 |.own kk aa len,.sl e=>(get kk).bind λo=>match o with
  |.eb b l=>(lg (.sl b) (.sl e) l).bind λ(l:List (CT.T X.toSE e))=>some (sub l aa len,[aE (sub l aa len).length len])
  |_=>none
 |.own kk aa len,.any=>(get kk).bind λo=>match o with
  |.eb b l=>some (.sl (List.map (CT.row X.toSE b) (sub l aa len)),[aE (sub l aa len).length len])
  |_=>none
 |.oz kk len,.sl e=>(get kk).bind λo=>match o with
  |.eb b l=>(lg (.sl b) (.sl e) l).bind λ(l:List (CT.T X.toSE e))=>some (sub l 0 len,[aE (sub l 0 len).length len])
  |_=>none
 |d,c=>(KA d c).bind λx=>some (x,[])
def GQ(get:Nat->Option (bp X)):List (DV X)->(l:List (CT X.ι))->Option (HL X.toSE l×List Bool)
 |[],[]=>some ((),[])
 |d::ds,c::l=>(U3 get d c).bind λx=>(GQ get ds l).bind λh=>some ((x.1,h.1),x.2++h.2)
 |_,_=>none
def Y9(get:Nat->Option (bp X))(d:DV X)(i:X.ι):Option (CT.T X.toSE (.st i)×List Bool):=
 match d with
 |.agg cs=>(GQ get cs (X.cV i)).bind λh=>some (X.make i h.1,h.2)
 |.c a x=>(lg a (.st i) x).bind λx=>some (x,[])
 |_=>none
def E9(get:Nat->Option (bp X))(d:DV X)(c:CT X.ι):Option (CT.T X.toSE c×List Bool):=
 match c with
 |.st i=>Y9 get d i
 |c=>U3 get d c
def ajT(get:Nat->Option (bp X))(d:DV X)(c:CT X.ι):Option (CT.T X.toSE c):=
 match d with
 |.ptr kk row 0=>(get kk).bind λo=>match o with
  |.cells _ rows=>(rows[row]?).bind λq=>if q.all (λ x=>match x with|.c _ _=>true|_=>false)then LQ c q else none
  |_=>none
 |.rp a x 0=>lg a c x
 |_=>none
def xT:(l l':List (AT X.ι))->jc X l->jc X l'->jc X (l++l')
 |[],_,_,b=>b
 |_::l,l',a,b=>(a.1,xT l l' a.2 b)
def hlA:(as:List (CT X.ι))->HL X.toSE as->jc X (as.map AT.d)
 |[],_=>()
 |_::l,h=>(h.1,hlA l h.2)
def vQ:List (AT X.ι)->Nat
 |[]=>0
 |q::l=>(if q.im then 1 else 0)+vQ l
theorem sK:∀(n:Nat)(l l':List (AT X.ι))(a:jc X l)(b:jc X l'),eF n (l++l') (xT l l' a b)=eF n l a++eF (n+vQ l) l' b
 |n,[],_,_,_=>rfl
 |n,.d c::l,l',a,b|n,.ref c::l,l',a,b|n,.du as r::l,l',a,b=>by simp[eF,xT,sK n l l' a.2 b,vQ,AT.im]
 |n,.mut c::l,l',a,b|n,.ju c::l,l',a,b=>by simp[eF,xT,sK (n+1) l l' a.2 b,vQ,AT.im,Nat.add_assoc]
 |n,.nil::l,l',a,b=>by simp[eF,xT,sK n l l' a.2 b,vQ,AT.im]
theorem OU:∀(n:Nat)(as:List (CT X.ι))(h:HL X.toSE as),eF n (as.map AT.d) (hlA as h)=(HL.nq X.toSE as h).map TV.av
 |_,[],_=>rfl
 |n,c::l,h=>congrArg ((CT.tv X.toSE c h.1).av:: ·) (OU n l h.2)
def amI{a b:CT X.ι}(h:a=b)(o:Option (CT.T X.toSE a)):Option (CT.T X.toSE b):=h ▸ o
def sM(get:Nat->Option (bp X))(pp:FuncId->List (DV X)->List (DV X)->(as:List (CT X.ι))->(r:CT X.ι)->Option ((HL X.toSE as->Option (CT.T X.toSE r))×List Bool)):List (DV X)->(l:List (AT X.ι))->Option (jc X l×List Bool)
 |[],[]=>some ((),[])
 |d::ds,.d c::l=>(E9 get d c).bind λx=>(sM get pp ds l).bind λh=>some ((x.1,h.1),x.2++h.2)
 |d::ds,.ref c::l=>(ajT get d c).bind λx=>(sM get pp ds l).bind λh=>some ((x,h.1),h.2)
 |d::ds,.du as r::l=>(match d with
  |.du as' r' φ=>if h:as'=as/\r'=r then some (λ x=>amI h.2 (φ (h.1 ▸ x)),[])else none
  |.fn f first caps=>pp f first caps as r
  |_=>none).bind λφ=>(sM get pp ds l).bind λq=>some ((φ.1,q.1),φ.2++q.2)
 |_,_=>none
def QS(Γ:FuncId->Option (b7 X))(get:Nat->Option (bp X)):Nat->List (DV X)->(l:List (AT X.ι))->Option (jc X l×List Bool)
 | 0,ds,l=>sM get (λ _ _ _ _ _=>none) ds l
 |n+1,ds,l=>sM get (λ f first caps as r=>(Γ f).bind λs=>match s with
   |⟨sa,[.d r'],fn,_⟩=>
    if h:r'=r/\sa=sa.take first.length++(as.map AT.d++sa.drop (first.length+as.length))/\first.length=0 then
     (QS Γ get n first (sa.take first.length)).bind λhf=>(QS Γ get n caps (sa.drop (first.length+as.length))).bind λhc=>
      some (λ x=>amI h.1 (fn (h.2.1 ▸ xT _ _ hf.1 (xT _ _ (hlA as x) hc.1))),hf.2++hc.2)
    else none
   |_=>none) ds l
section
variable {P:Program} {Γ:FuncId->Option (b7 X)} {get:Nat->Option (bp X)} {rd:List Nat}
theorem ic{a b:List Prop}(h:∀p∈a,p)(h':∀p∈b,p):∀p∈a++b,p:=by grind
theorem GR{d:DV X}{c:CT X.ι}{x:CT.T X.toSE c×List Bool}(h:U3 get d c=some x)(hc:∀b∈x.2,b=true)(hrd:∀j∈bo d,j∈rd):∃hs obs,(∀ p∈obs,p)/\∀ae,oW P (dJ rd (fK get)) (den d) (hs++ae)=some ((CT.tv X.toSE c x.1).av,ae,obs):=by
 have base:∀{d:DV X}{c:CT X.ι}{x:CT.T X.toSE c},KA d c=some x->∃hs obs,(∀ p∈obs,p)/\∀ae,oW P (dJ rd (fK get)) (den d) (hs++ae)=some ((CT.tv X.toSE c x).av,ae,obs):=by
  intro d c x h;unfold KA at h;split at h;rw[(oq h).1];refine⟨[],[],by simp,λae=>?_⟩;simp;cases c<;>try rfl
  rename_i j;show oW P _ (.agg ((X.row j x).map AV.t)) ae=_;have:∀(l:List Tree)(hs:List LH),mK P (dJ rd (fK get)) (l.map AV.t) hs=some (l.map AV.t,hs,[]):=by
   intro l
   induction l with
   |nil=>intro hs;rfl
   |cons y ys ih=>simp_all [mK,oW,ih]
  simp[oW,this];rfl;cases h;exact⟨[.emp],[],by simp,λae=>rfl⟩;cases h;exact⟨[.emp],[],by simp,λae=>rfl⟩;cases h
 unfold U3 at h;split at h;rename_i kk aa len e;rw[ah]at h;obtain⟨o,h1,h⟩:=h;split at h;rename_i b l0;rw[ah]at h;obtain⟨l,h2,h⟩:=h;cases h;have h3:(sub l aa len).length=len:=by simpa[aE]using hc (aE (sub l aa len).length len) (by simp)
 have⟨h4,h5⟩:=jr h2;refine⟨[.rows ((sub l aa len).map (CT.row X.toSE e))],[(((bI (.eb b l0):aM).rows.drop aa).take len=aI ((sub l aa len).map (CT.row X.toSE e))/\((sub l aa len).map (CT.row X.toSE e)).length=len)],?_,λae=>?_⟩;intro p hp;simp only[bn]at hp;subst hp;refine⟨?_,by simpa using h3⟩;simp[bI,h5];simp[aI,sub];simp[den,oW,fu (hrd kk (by simp[bo])) h1];rfl;cases h;rename_i kk aa len;rw[ah]at h;obtain⟨o,h1,h⟩:=h;split at h;rename_i b l0;cases h;have h3:(sub l0 aa len).length=len:=by simpa[aE]using hc (aE (sub l0 aa len).length len) (by simp)
 refine⟨[.rows ((sub l0 aa len).map (CT.row X.toSE b))],[(((bI (.eb b l0):aM).rows.drop aa).take len=aI ((sub l0 aa len).map (CT.row X.toSE b))/\((sub l0 aa len).map (CT.row X.toSE b)).length=len)],?_,λae=>?_⟩;intro p hp;simp only[bn]at hp;subst hp;refine⟨?_,by simpa using h3⟩;simp[bI];simp[aI,sub];simp[den,oW,fu (hrd kk (by simp[bo])) h1];rfl;cases h;rename_i kk len e;rw[ah]at h;obtain⟨o,h1,h⟩:=h;split at h;rename_i b l0;have⟨l,h2,h⟩:=ah.1 h;cases h;have h3:(sub l 0 len).length=len:=by simpa[aE]using hc (aE (sub l 0 len).length len) (by simp)
 have⟨h4,h5⟩:=jr h2;refine⟨[.rows ((sub l 0 len).map (CT.row X.toSE e))],[(((bI (.eb b l0):aM).rows.drop 0).take len=aI ((sub l 0 len).map (CT.row X.toSE e))/\((sub l 0 len).map (CT.row X.toSE e)).length=len)],?_,λae=>?_⟩;intro p hp;simp only[bn]at hp;subst hp;refine⟨?_,by simpa using h3⟩;simp[bI,h5];simp[aI,sub];simp[den,oW,fu (hrd kk (by simp[bo])) h1];rfl;cases h;have⟨y,h1,h⟩:=ah.1 h;cases h
 simp_all
theorem LX:∀{ds:List (DV X)}{l:List (CT X.ι)}{h:HL X.toSE l×List Bool},GQ get ds l=some h->(∀ b∈h.2,b=true)->l.all CT.one=true->(∀ j∈aL ds,j∈rd)->
 ∃hs obs,(∀ p∈obs,p)/\∀ae,mK P (dJ rd (fK get)) (bG ds) (hs++ae)=some ((HL.row X.toSE l h.1).map AV.t,ae,obs)
 |[],[],h,_,_,_,_=>⟨[],[],by simp,λae=>rfl⟩
 |d::ds,c::l,h,hr,hc,ha,hrd=>by simp[GQ]at hr;have⟨x,h1,hr⟩:=ah.1 hr;have⟨g,h2,hr⟩:=ah.1 hr;cases hr;simp only[all_cons,bC]at ha;obtain⟨hs1,o1,p1,q1⟩:=GR (P:=P) (rd:=rd) h1 (λ b hb=>hc b (by grind)) (λ j hj=>hrd j (by simp[aL,hj]));obtain⟨hs2,o2,p2,q2⟩:=LX h2 (λ b hb=>hc b (by grind)) ha.2 (λ j hj=>hrd j (by simp[aL,hj]));refine⟨hs1++hs2,o1++o2,ic p1 p2,λae=>?_⟩;simp only[bG,mK,aT,q1,ai,q2];show _=some ((CT.row X.toSE c x.1++HL.row X.toSE l g.1).map AV.t,ae,o1++o2);rw[List.map_append,<- S5 ha.1 x.1];rfl
 |[],_::_,_,hr,_,_,_|_::_,[],_,hr,_,_,_=>by trivial
theorem zS{d:DV X}{c:CT X.ι}{x:CT.T X.toSE c×List Bool}(h:E9 get d c=some x)(hc:∀b∈x.2,b=true)(hrd:∀j∈bo d,j∈rd):∃hs obs,(∀ p∈obs,p)/\∀ae,oW P (dJ rd (fK get)) (den d) (hs++ae)=some ((CT.tv X.toSE c x.1).av,ae,obs):=by
 cases c
 case st i=>
  replace h:Y9 get d i=some x:=h
  cases d
  case agg cs=>
   simp[Y9]at h;rw[ah]at h;obtain⟨g,h1,h⟩:=h;cases h;obtain⟨hs,obs,p1,q1⟩:=LX (P:=P) (rd:=rd) h1 hc (X.flat i) (λ j hj=>hrd j (by trivial));refine⟨hs,obs,p1,λae=>?_⟩;simp[den,oW,q1,CT.tv,TV.av];rw[X.ga]
  case c a y=>exact GR (c:=.st i) (x:=x) (by trivial) hc hrd
  all_goals cases h
 all_goals exact GR h hc hrd
theorem acC{d:DV X}{c:CT X.ι}{x:CT.T X.toSE c}(h:ajT get d c=some x)(hrd:∀j∈bo d,j∈rd):∃hs obs,(∀ p∈obs,p)/\∀ae,oW P (dJ rd (fK get)) (den d) (hs++ae)=some (.eo (CT.row X.toSE c x) 0,ae,obs):=by
 unfold ajT at h;split at h;rename_i kk row;rw[ah]at h;obtain⟨o,h1,h⟩:=h;split at h;rename_i sz rows;rw[ah]at h;obtain⟨q,h2,h⟩:=h;split at h;rename_i hq;refine⟨[.row (CT.row X.toSE c x)],[(bI (.cells sz rows):aM).rows[row]? =some ((CT.row X.toSE c x).map AV.t)],?_,λae=>?_⟩;intro p hp;simp only[bn]at hp;subst hp;simp only[bI,List.getElem?_map,h2,Option.map_some];rw[<- xQ h,nS,map_map];congr 1;refine map_congr_left λy hy=>?_;have:=all_eq_true.1 hq y hy;cases y<;>first|exact(amH _).symm|grind
 simp[den,oW,fu (hrd kk (by simp[bo])) h1];cases h;cases h;rename_i a y;refine⟨[],[],by simp,λae=>?_⟩;simp[den,(oq h).2];rfl;cases h
theorem afb{n:Nat}{l l':List (AT X.ι)}(e:l=l')(b:jc X l):eF n l' (e ▸ b)=eF n l b:=by grind
theorem Jc{pp:FuncId->List (DV X)->List (DV X)->(as:List (CT X.ι))->(r:CT X.ι)->Option ((HL X.toSE as->Option (CT.T X.toSE r))×List Bool)}:∀{ds:List (DV X)}{l:List (AT X.ι)}{a:jc X l×List Bool},sM get pp ds l=some a->(l.all λq=>!q.im)=true
 |[],[],_,_=>rfl
 |d::ds,.d c::l,a,h=>by simp[sM]at h;have⟨x,h1,h⟩:=ah.1 h;have⟨q,h2,h⟩:=ah.1 h;simpa[AT.im]using Jc h2
 |d::ds,.ref c::l,a,h=>by simp[sM]at h;have⟨x,h1,h⟩:=ah.1 h;have⟨q,h2,h⟩:=ah.1 h;simpa[AT.im]using Jc h2
 |d::ds,.du as r::l,a,h=>by simp[sM]at h;have⟨x,h1,h⟩:=ah.1 h;have⟨q,h2,h⟩:=ah.1 h;simpa[AT.im]using Jc h2
 |_::_,.mut _::_,_,h|_::_,.ju _::_,_,h|_::_,.nil::_,_,h|[],_::_,_,h|_::_,[],_,h=>by trivial
theorem acD:∀{n:Nat}{ds:List (DV X)}{l:List (AT X.ι)}{a:jc X l×List Bool},QS Γ get n ds l=some a->(l.all λq=>!q.im)=true
 | 0,_,_,_,h|_+1,_,_,_,h=>Jc h
theorem aaE:∀as:List (CT X.ι),((as.map AT.d).all λq=>!q.im)=true
 |[]=>rfl
 |_::l=>aaE l
def anJ(P:Program)(get:Nat->Option (bp X))(pp:FuncId->List (DV X)->List (DV X)->(as:List (CT X.ι))->(r:CT X.ι)->Option ((HL X.toSE as->Option (CT.T X.toSE r))×List Bool)):Prop:=
 ∀f first caps as r φ rd,pp f first caps as r=some φ->(∀ b∈φ.2,b=true)->(∀ j∈aL first++aL caps,j∈rd)->∃hs obs,(∀ p∈obs,p)/\∀ae,oW P (dJ rd (fK get)) (.fn f (bG first) (bG caps)) (hs++ae)=some (den (.du as r φ.1:DV X),ae,obs)
theorem sN{n:Nat}{pp:FuncId->List (DV X)->List (DV X)->(as:List (CT X.ι))->(r:CT X.ι)->Option ((HL X.toSE as->Option (CT.T X.toSE r))×List Bool)}(ud:anJ P get pp):∀{ds:List (DV X)}{l:List (AT X.ι)}{a:jc X l×List Bool},sM get pp ds l=some a->(∀ b∈a.2,b=true)->(∀ j∈aL ds,j∈rd)->
 ∃hs obs,(∀ p∈obs,p)/\∀ae,mK P (dJ rd (fK get)) (bG ds) (hs++ae)=some (eF n l a.1,ae,obs)
 |[],[],_,_,_,_=>⟨[],[],by simp,λae=>rfl⟩
 |d::ds,.d c::l,a,h,hc,hrd=>by simp[sM]at h;have⟨x,h1,h⟩:=ah.1 h;have⟨q,h2,h⟩:=ah.1 h;cases h;obtain⟨hs1,o1,p1,q1⟩:=zS (P:=P) (rd:=rd) h1 (λ b hb=>hc b (by grind)) (λ j hj=>hrd j (by simp[aL,hj]));obtain⟨hs2,o2,p2,q2⟩:=sN (n:=n) ud h2 (λ b hb=>hc b (by simp[hb])) (λ j hj=>hrd j (by simp[aL,hj]));refine⟨hs1++hs2,o1++o2,ic p1 p2,λae=>?_⟩;simp[bG,mK,q1,q2,eF]
 |d::ds,.ref c::l,a,h,hc,hrd=>by simp[sM]at h;rw[ah]at h;obtain⟨x,h1,h⟩:=h;rw[ah]at h;obtain⟨q,h2,h⟩:=h;cases h;obtain⟨hs1,o1,p1,q1⟩:=acC (P:=P) (rd:=rd) h1 (λ j hj=>hrd j (by simp[aL,hj]));obtain⟨hs2,o2,p2,q2⟩:=sN (n:=n) ud h2 hc (λ j hj=>hrd j (by simp[aL,hj]));refine⟨hs1++hs2,o1++o2,ic p1 p2,λae=>?_⟩;simp[bG,mK,q1,q2,eF]
 |d::ds,.du as r::l,a,h,hc,hrd=>by
  simp[sM]at h;rw[ah]at h;obtain⟨φ,h1,h⟩:=h;rw[ah]at h;obtain⟨q,h2,h⟩:=h;cases h;have hd:∃hs obs,(∀ p∈obs,p)/\∀ae,oW P (dJ rd (fK get)) (den d) (hs++ae)=some (den (.du as r φ.1:DV X),ae,obs):=by
   cases d
   case du as' r' ψ=>
    simp only at h1;split at h1;rename_i e;obtain⟨rfl,rfl⟩:=e;cases h1;exact⟨[],[],by simp,λae=>rfl⟩;cases h1
   case fn f first caps=>
    obtain⟨hs,obs,g1,g2⟩:=ud f first caps as r φ rd h1 (λ b hb=>hc b (by simp[hb])) (λ j hj=>hrd j (by simp only[aL,bo,bK]at hj ⊢;exact .inl hj))
    exact⟨hs,obs,g1,λae=>by simp[den];exact g2 ae⟩
   all_goals simp at h1
  obtain⟨hs1,o1,p1,q1⟩:=hd;obtain⟨hs2,o2,p2,q2⟩:=sN (n:=n) ud h2 (λ b hb=>hc b (by simp[hb])) (λ j hj=>hrd j (by simp[aL,hj]));refine⟨hs1++hs2,o1++o2,ic p1 p2,λae=>?_⟩;simp[bG,mK,q1,q2,eF]
 |_::_,.mut _::_,_,h,_,_|_::_,.ju _::_,_,h,_,_|_::_,.nil::_,_,h,_,_|[],_::_,_,h,_,_|_::_,[],_,h,_,_=>by simp[sM]at h
theorem afc{n:Nat}:∀{l:List (AT X.ι)}(a:jc X l),l=[]->eF n l a=[]
 |_,_,rfl=>rfl
theorem rO(hΓ:pH P Γ):∀(m:Nat){n:Nat}{ds:List (DV X)}{l:List (AT X.ι)}{a:jc X l×List Bool}{rd:List Nat},QS Γ get m ds l=some a->(∀ b∈a.2,b=true)->(∀ j∈aL ds,j∈rd)->
 ∃hs obs,(∀ p∈obs,p)/\∀ae,mK P (dJ rd (fK get)) (bG ds) (hs++ae)=some (eF n l a.1,ae,obs)
 | 0,n,ds,l,a,rd,h,hcs,hrd=>sN (λ _ _ _ _ _ _ _ h=>by cases h) h hcs hrd
 |m+1,n,ds,l,a,rd,h,hcs,hrd=>by
  refine sN (λ f first caps as r φ rd' hc hb IR=>?_) h hcs hrd;rw[ah]at hc;obtain⟨s,h1,hc⟩:=hc;split at hc;rename_i sa r' fn _;split at hc;rename_i e;obtain⟨rfl,e2,e3⟩:=e;have⟨hf,h2,hc⟩:=ah.1 hc;have⟨hcap,h3,hc⟩:=ah.1 hc;injection hc with hc;rw[<- hc]at hb;obtain⟨g1,g2,_⟩:=hΓ f _ h1;obtain⟨hs1,o1,p1,q1⟩:=rO hΓ m h2 (n:=0) (rd:=rd') (λ b hb'=>hb b (by simp[hb'])) (λ j hj=>IR j (by simp[hj]));obtain⟨hs2,o2,p2,q2⟩:=rO hΓ m h3 (n:=0+vQ (sa.take first.length)+vQ (as.map AT.d)) (rd:=rd') (λ b hb'=>hb b (by simp[hb'])) (λ j hj=>IR j (by simp[hj]));refine⟨.du (λ ts u=>∃h x,φ.1 h=some x/\ts=HL.nq X.toSE as h/\u=CT.tv X.toSE r' x)::(hs1++hs2),o1++(o2++[eF 0 _ hf.1=[]/\eD P f/\∀args r,(∃ h x,φ.1 h=some x/\args=HL.nq X.toSE as h/\r=CT.tv X.toSE r' x)->tc P f (eF 0 _ hf.1++args.map TV.av++eF (0+vQ (sa.take first.length)+vQ (as.map AT.d)) _ hcap.1) (.one (.d r))]),?_,λae=>?_⟩;intro p hp;simp only[bK,bn]at hp;rcases hp with hp|hp|hp;exact p1 p hp;exact p2 p hp;subst hp;refine⟨afc _ (by rw[e3];rfl),g1,?_⟩;rintro args r ⟨x,y,hxy,rfl,rfl⟩;rw[<- hc]at hxy;have hxy':fn (e2 ▸ xT _ _ hf.1 (xT _ _ (hlA as x) hcap.1))=some y:=hxy;have:=g2 _ _ hxy';have hnm:(sa.all λq=>!q.im)=true:=by rw[e2,List.all_append,List.all_append,acD h2,acD h3,aaE];rfl
  rw[GN hnm,yw,afb e2.symm,sK,sK,OU,<- aT]at this;exact UD this;simp[oW,q1,q2];rfl;cases hc;cases hc
end
end
def QT(s:ByteArray)(n:Int):Option Int:=bif decide (0<=n)then(s[n.toNat]?).map λb=>(b.toNat:Int)else none
def uy(m:Int)(bytes:Nat):Bool:=decide (0<=m)&&decide (m.toNat*bytes<=140737488355328)&&decide (m.toNat<=maxLen)
def gT{K V:Type}(eq:K->K->Bool)(k:K):List (K×V)->Option V
 |[]=>none
 |p::r=>bif eq k p.1 then some p.2 else gT eq k r
def Fq{K V:Type}(eq:K->K->Bool)(k:K)(v:V):List (K×V)->List (K×V)
 |[]=>[(k,v)]
 |p::r=>bif eq k p.1 then(k,v)::r else p::Fq eq k v r
def iEq(a b:Int):Bool:=a==b
def fX(a b:ByteArray):Bool:=a.toList==b.toList
def bEq(a b:Bool):Bool:=a==b
section
variable {X:SX} {A:Type}
def LY:(c:CT X.ι)->Option (CT.T X.toSE c->CT.T X.toSE c->Bool)
 |.int _=>some iEq
 |.str=>some fX
 |.bool=>some bEq
 |_=>none
def E4{ι:Type}:A0->CT ι->Bool
 |.int a,.int b=>decide (a=b)
 |.str,.str=>true
 |.bool,.bool=>true
 |_,_=>false
def anK{ι:Type}:CT ι->Bool
 |.st _=>true
 |_=>false
theorem ji(a b:List (DV X)):bG (a++b)=bG a++bG b:=by simp[nS]
theorem rP(a b:List (Nat×Option (bp X))):jh (a++b)=jh a++jh b:=by simp[jh]
def LZ(ab:List Nat):List (Nat×Option (bp X)):=ab.map λj=>(j,none)
theorem Ce(ab:List Nat):jh (LZ (X:=X) ab)=ab.map λk=>(k,none):=by simp[jh,LZ]
theorem Jd{ab:List Nat}{p:Nat×Option (bp X)}(h:p∈LZ ab):p.1∈ab:=by
 grind [LZ]
variable (T:ec) (code:TypeId->Option (CT X.ι))
def afe:DV X->Bool
 |.nil=>true
 |_=>false
def G1(op:BinOp)(b:DV X)(yes:Bool)(k:KK X A):Option A:=
 match op with
 |.eql=>bif yes then k b [] [] []else k (.c .bool false) [] [] []
 |.neq=>bif yes then k b [] [] []else k (.c .bool true) [] [] []
 |_=>none
def am2(op:BinOp)(t:TypeId)(x:DV X)(k:KK X A):Option A:=
 (T t).bind λti=>match ti.k,x with
 |.slice _,.c (.sl _) l=>G1 op .ub (List.isEmpty l) k
 |.slice _,.own _ _ len=>G1 op .ub (len==0) k
 |.slice _,.oz _ len=>G1 op (.c .bool (op==.eql)) (len==0) k
 |.slice _,.nil=>G1 op (.c .bool (op==.eql)) true k
 |_,_=>none
def amJ(s d:TypeId)(x:DV X)(k:KK X A):Option A:=
 (T s).bind λ_=>(T d).bind λdi=>match di.k,x with
 |.int kd,.c (.int _) n=>k (.c (.int kd) (kd.wrap (iN n))) [] [] []
 |_,_=>none
def ajU(t:TypeId)(x j:DV X)(k:KK X A):Option A:=
 (T t).bind λti=>match ti.k,x,j with
 |.str,.c .str s,.c (.int _) n=>(QT s n).bind λb=>k (.c (.int .u8) b) [] [] []
 |.arr m e,.agg cs,.c (.int _) q=>(T e).bind λei=>bif co q m then(GI ei.agg ei.size ((cs.drop (q.toNat*ei.size)).take ei.size)).bind λv=>k v [] [] []else none
 |_,_,_=>none
def Za(t:TypeId)(x:DV X)(lo hi:Option (DV X))(k:KK X A):Option A:=
 (T t).bind λti=>match ti.k,x with
 |.slice e,.nil=>(T e).bind λ_=>(AF 0 lo).bind λl=>(AF 0 hi).bind λh=>bif decide (l=0)&&decide (h=0)then k .nil [] [] []else none
 |_,_=>none
def OV(i:Nat)(b:Builtin)(args:List (DV X))(cV:List TypeId)(get:Nat->Option (bp X))(k:KK X A):Option A:=
 match b,args,cV with
 |.cap,[.nil],[t]=>(T t).bind λti=>match ti.k with
  |.slice _=>k (.c (.int .i64) (0:Int)) [] [] []
  |_=>none
 |.clear,[.own kk aa _],[t]=>(T t).bind λti=>match ti.k with
  |.slice e=>(T e).bind λei=>(get kk).bind λo=>match o with
   |.eb c l=>if CT.sz X c=ei.size then k (.eR []) [(kk,some (.eb c (l.take aa)))] [kk] [kk]else none
   |_=>none
  |_=>none
 |.append,[.nil,.c (.int _) m],[t,u]=>(T t).bind λti=>(T u).bind λui=>match ti.k,ui.k with
  |.slice e,.int _=>(T e).bind λei=>(code e).bind λc=>if CT.sz X c=ei.size/\0<ei.size then(LQ c (ei.zero.map wi)).bind λz=>
   bif uy (iN m) ei.bytes then k (.own (cC i) 0 m.toNat) [(cC i,some (.eb c (List.replicate m.toNat z)))] [] []else none else none
  |_,_=>none
 |_,_,_=>none
def OW(x:DV X)(k:KK X A):Option A:=
 match x with
 |.ptr kk r f=>k (.ptr kk r f) [] [] []
 |.qt kk n f=>k (.qt kk n f) [] [] []
 |.tw kk r f m n=>k (.tw kk r f m n) [] [] []
 |.rp c y f=>k (.rp c y f) [] [] []
 |_=>none
def ajV(i:Nat)(t:TypeId)(l c:DV X)(k:KK X A):Option A:=
 (T t).bind λti=>match ti.k,l,c with
 |.slice e,.c (.int _) n,.c (.int _) m=>(T e).bind λei=>(code e).bind λc=>if CT.sz X c=ei.size/\0<ei.size then(LQ c (ei.zero.map wi)).bind λz=>
  bif decide (iN n<=iN m)&&(decide (0<=iN n)&&uy (iN m) ei.bytes)then k (.own (cC i) 0 n.toNat) [(cC i,some (.eb c (List.replicate n.toNat z)))] [] []else none else none
 |_,_,_=>none
def U4(i:Nat)(t:TypeId)(k:KK X A):Option A:=
 (T t).bind λti=>match ti.k with
 |.map kt et=>(code kt).bind λkc=>(code et).bind λvc=>k (.mp (cC i)) [(cC i,some (.map kc vc []))] [] []
 |_=>none
def aaF(t:TypeId)(x key:DV X)(ok:Bool)(get:Nat->Option (bp X))(k:KK X A):Option A:=
 (T t).bind λti=>match ti.k,x with
 |.map kt et,.mp kk=>(T kt).bind λki=>(T et).bind λei=>(get kk).bind λo=>match o with
  |.map kc vc l=>(LY kc).bind λeq=>(KA key kc).bind λkv=>if E4 ki.k kc=true/\ei.agg=anK vc/\ei.size=CT.sz X vc then(LQ vc (ei.zero.map wi)).bind λz=>
   bif ok then k (.eR [.c vc ((gT eq kv l).getD z),.c .bool (gT eq kv l).isSome]) [] [kk] []else k (.c vc ((gT eq kv l).getD z)) [] [kk] []else none
  |_=>none
 |_,_=>none
def aaG(t:TypeId)(x key y:DV X)(get:Nat->Option (bp X))(k:KK X A):Option A:=
 (T t).bind λti=>match ti.k,x with
 |.map kt _,.mp kk=>(T kt).bind λki=>(get kk).bind λo=>match o with
  |.map kc vc l=>(LY kc).bind λeq=>(KA key kc).bind λkv=>(dat y vc).bind λv=>if E4 ki.k kc=true then k .undef [(kk,some (.map kc vc (Fq eq kv v l)))] [kk] [kk]else none
  |_=>none
 |_,_=>none
def anL(o:Op)(ρ:Operand->DV X):Bool:=
 match o with
 |.binOp _ _ _ y _=>afe (ρ y)
 |.convert _ _ _=>true
 |.index _ _ _=>true
 |.nilCheck _=>true
 |.makeSlice _ _ _=>true
 |.makeMap _ none=>true
 |.lookup _ _ _ _=>true
 |.mapUpdate _ _ _ _=>true
 |.slice _ x _ _ none=>afe (ρ x)
 |.call { callee:=.builtin b,args:=args,argTypes:=_ }=>match b,args.toList.map ρ with
  |.cap,_=>true
  |.clear,_=>true
  |.append,[_,.c (.int _) _]=>true
  |_,_=>false
 |_=>false
def am3(i:Nat)(o:Op)(ρ:Operand->DV X)(get:Nat->Option (bp X))(k:KK X A):Option A:=
 match o with
 |.binOp op t x y _=>if afe (ρ y)then am2 T op t (ρ x) k else none
 |.convert s d x=>amJ T s d (ρ x) k
 |.index t x j=>ajU T t (ρ x) (ρ j) k
 |.slice t x lo hi none=>Za T t (ρ x) (lo.map ρ) (hi.map ρ) k
 |.nilCheck x=>OW (ρ x) k
 |.makeSlice t l c=>ajV T code i t (ρ l) (ρ c) k
 |.makeMap t none=>U4 T code i t k
 |.lookup t m x ok=>aaF T t (ρ m) (ρ x) ok get k
 |.mapUpdate t m x v=>aaG T t (ρ m) (ρ x) (ρ v) get k
 |.call { callee:=.builtin b,args:=args,argTypes:=cV }=>OV T code i b (args.toList.map ρ) cV.toList get k
 |_=>none
def MT(get:Nat->Option (bp X))(c:CT X.ι)(ρ:Operand->DV X)(x:Operand):DV X:=
 match E9 get (ρ x) c with
 |some y=>.c c y.1
 |none=>ρ x
def Q3(get:Nat->Option (bp X))(c:CT X.ι)(ρ:Operand->DV X):List Operand->List Bool
 |[]=>[]
 |x::xs=>(match E9 get (ρ x) c with|some y=>y.2|none=>[])++Q3 get c ρ xs
def AK(get:Nat->Option (bp X))(c:CT X.ι)(ρ:Operand->DV X):List Operand->List Nat
 |[]=>[]
 |x::xs=>(match E9 get (ρ x) c with|some _=>bo (ρ x)|none=>[])++AK get c ρ xs
def alI(o:Op)(ρ:Operand->DV X)(get:Nat->Option (bp X)):Option (CT X.ι):=
 match o with
 |.box t _=>code t
 |.assign x|.move x=>match ρ x with
  |.own kk _ _=>(get kk).bind λo=>match o with
   |.eb c _=>some (.sl c)
   |_=>none
  |_=>none
 |.buildSlice t _ _=>(T t).bind λti=>match ti.k with
  |.slice e=>code e
  |_=>none
 |.store t _ _=>code t
 |_=>none
def anM(o:Op)(ρ:Operand->DV X):Bool:=
 match o with
 |.buildSlice _ _ parts=>!(aL (parts.toList.map λp=>ρ p.2)).isEmpty
 |.store _ a x=>match ρ a with
  |.qt _ _ _=>!(bo (ρ x)).isEmpty
  |_=>false
 |_=>false
def am4(i:Nat)(o:Op)(ρ:Operand->DV X)(get:Nat->Option (bp X))(k:KK X A):Option A:=
 if aeR o then none else(alI T code o ρ get).bind λc=>UL (Q3 get c ρ o.operands.toList)
  (O2 T code i o (MT get c ρ) (λ j=>if j∈AK get c ρ o.operands.toList then none else get j) λdv upd rd wr=>
   k dv (upd++LZ (AK get c ρ o.operands.toList)) (rd++AK get c ρ o.operands.toList) (wr++AK get c ρ o.operands.toList))
def anN(o:Op)(ρ:Operand->DV X):Bool:=
 match o with
 |.indexAddr t x (.tmp _)=>match ρ x,T t with
  |.ptr _ _ _,some ti|.rp _ _ _,some ti=>match ti.k with
   |.arr _ e=>match T e with
    |some ei=>ei.size==1
    |none=>false
   |_=>false
  |_,_=>false
 |.load _ a=>match ρ a with
  |.tw _ _ _ _ _|.xf _ _ _ _ _=>true
  |_=>false
 |_=>false
def G0(c:CT X.ι):List (DV X)->Option (List (CT.T X.toSE c))
 |[]=>some []
 |.c a x::r=>(lg a c x).bind λy=>(G0 c r).bind λl=>some (y::l)
 |_=>none
def am5(o:Op)(ρ:Operand->DV X)(get:Nat->Option (bp X))(k:KK X A):Option A:=
 match o with
 |.indexAddr t x j=>(T t).bind λti=>match ti.k,ρ x,ρ j with
  |.arr m e,.ptr kk row aa,.c (.int _) n=>(T e).bind λei=>if ei.size=1 then bif co n m then k (.tw kk row aa m n) [] [] []else none else none
  |.arr m e,.rp c y aa,.c (.int _) n=>(T e).bind λei=>if ei.size=1 then bif co n m then k (.xf c y aa m n) [] [] []else none else none
  |_,_,_=>none
 |.load t a=>(T t).bind λti=>match ρ a with
  |.tw kk row aa m n=>if ti.size=1/\ti.agg=false then(code t).bind λc=>if c.one=true then(get kk).bind λo=>match o with
   |.cells _ rows=>(rows[row]?).bind λq=>(G0 c ((q.drop aa).take m)).bind λ(xs:List (CT.T X.toSE c))=>(bu xs n).bind λy=>k (.c c y) [] [kk] []
   |.eb _ _=>none
   |_=>none
   else none else none
  |.xf b y aa m n=>if ti.size=1/\ti.agg=false then(code t).bind λc=>if c.one=true then(G0 c (((uO b y).drop aa).take m)).bind λ(xs:List (CT.T X.toSE c))=>(bu xs n).bind λy=>k (.c c y) [] [] []
   else none else none
  |_=>none
 |_=>none
variable {T code}
def d8(P:Program)(T:ec)(i:Nat)(o:Oper)(ρ:Operand->DV X)(get:Nat->Option (bp X))(k:KK X A)(r:A):Prop:=
 ∃cm rd wr dv upd out,jP P T i o cm (λ x=>den (ρ x)) (dJ rd (fK get))=some out/\kJ out.obs/\out.v=den dv/\out.upd=jh upd/\(∀ p∈upd,p.1=cC i\/p.1∈wr)/\k dv upd rd wr=some r
section
variable {P:Program} {get:Nat->Option (bp X)} {k:KK X A} {r:A} {i:Nat} {o:Oper} {ρ:Operand->DV X}
theorem ajX{t:TypeId}{x:AV}{cm:i7}(h:(∃ n,cm=.ext n)\/∃ab fr q,cm=.wc ab fr q):AN T t x .none=AN T t x cm:=by grind [AN]
theorem U5{t:TypeId}{x j:AV}{cm:i7}{get:Nat->Option aM}(h:(∃ n,cm=.ext n)\/∃ab fr q,cm=.wc ab fr q):l9 T t x j .none get=l9 T t x j cm get:=by
 unfold l9;rcases T t with _|ti;rfl;simp;generalize ti.k=kk;cases kk<;>try rfl
 case arr m e=>
  grind
 cases j<;>try rfl
 rename_i e y;cases y<;>try rfl
 rename_i y;cases y<;>try rfl
 simp;rcases T e with _|ei;rfl;rcases h with ⟨n,rfl⟩|⟨ab,fr,q,rfl⟩<;>cases x<;>try rfl
 all_goals grind
theorem acF{t:TypeId}{x y:AV}{cm:i7}{get:Nat->Option aM}(h:(∃ n,cm=.ext n)\/∃ab fr q,cm=.wc ab fr q):zL T i t x y .none get=zL T i t x y cm get:=by grind [zL]
theorem aiq{cm:i7}{ρ:Operand->AV}{get:Nat->Option aM}(h:(∃ n,cm=.ext n)\/∃ab fr q,cm=.wc ab fr q):ql T i o .none ρ get=ql T i o cm ρ get:=by
 obtain⟨dst,op,ty,am,after,guard⟩:=o;cases op
 case call c=>
  obtain⟨callee,args,cV⟩:=c;cases callee<;>try rfl
  simp[ql,BV];split;exact ajX h;rfl;rfl;rw[acF h];rfl
 case slice t x lo hi mx=>cases mx<;>rcases h with ⟨n,rfl⟩|⟨ab,fr,q,rfl⟩<;>rfl
 case makeFunc fn a b=>cases fn<;>rfl
 case indexAddr t x j=>exact U5 h
 all_goals (rcases h with ⟨n,rfl⟩|⟨ab,fr,q,rfl⟩<;>rfl)
theorem d8.ext{n:Int}{rd wr:List Nat}{dv:DV X}{upd:List (Nat×Option (bp X))}{out:Out}(h:sH T i o n (λ x=>den (ρ x)) (dJ rd (fK get))=some out)(h1:kJ out.obs)(h2:out.v=den dv)(h3:out.upd=jh upd)(h4:∀p∈upd,p.1=cC i\/p.1∈wr)(h5:k dv upd rd wr=some r)(hx:Nm o.op=false:=by rfl):d8 P T i o ρ get k r:=
 ⟨.ext n,rd,wr,dv,upd,out,by show sI T i o n _ _=some out;unfold sI;grind,h1,h2,h3,h4,h5⟩
theorem d8.wg{n:Int}{rd wr:List Nat}{dv:DV X}{upd:List (Nat×Option (bp X))}{out:Out}(h:Dx T i o n (λ x=>den (ρ x)) (dJ rd (fK get))=some out)(h1:kJ out.obs)(h2:out.v=den dv)(h3:out.upd=jh upd)(h4:∀p∈upd,p.1=cC i\/p.1∈wr)(h5:k dv upd rd wr=some r)(hx:Nm o.op=true:=by rfl):d8 P T i o ρ get k r:=
 ⟨.ext n,rd,wr,dv,upd,out,by show sI T i o n _ _=some out;unfold sI;grind,h1,h2,h3,h4,h5⟩
theorem RA{x:DV X}(h:OW x k=some r):∃dv,OA (den x)=some ⟨den dv,[],[]⟩/\k dv [] [] []=some r:=by cases x<;>simp[OW]at h<;>first|cases h|exact⟨_,rfl,h⟩
theorem Zb{cm:i7}{ρ:Operand->AV}{get:Nat->Option aM}(hne:∀f args cV,o.op≠.call { callee:=.value f,args:=args,argTypes:=cV })(ho:∀n,cm≠.ext n)(hf:∀ab fr q,cm≠.wc ab fr q):jP P T i o cm ρ get=ql T i o cm ρ get:=by
 have e:∀(α:Type) (a:Operand->Array Operand->Array TypeId->α) (b:α),(match o.op with|.call { callee:=.value f,args:=args,argTypes:=cV }=>a f args cV|_=>b)=b:=by grind
 cases cm<;>first|grind|omega|exact e _ _ _
theorem d8.op{cm:i7}{rd wr:List Nat}{dv:DV X}{upd:List (Nat×Option (bp X))}{out:Out}(hne:∀f args cV,o.op≠.call { callee:=.value f,args:=args,argTypes:=cV })
 (h:ql T i o cm (λ x=>den (ρ x)) (dJ rd (fK get))=some out) (h1:kJ out.obs/\out.v=den dv/\out.upd=jh upd/\(∀ p∈upd,p.1=cC i\/p.1∈wr)/\k dv upd rd wr=some r):d8 P T i o ρ get k r:=by
 obtain⟨vp,h'⟩:∃vp,jP P T i o vp (λ x=>den (ρ x)) (dJ rd (fK get))=some out:=by by_cases hx:(∃ n,cm=.ext n)\/∃ab fr q,cm=.wc ab fr q;refine⟨.none,?_⟩;rw[Zb hne (by simp) (by simp),aiq hx,h];simp at hx;exact⟨cm,by rw[Zb hne hx.1 (λ ab fr q=>hx.2 ab fr q),h]⟩
 exact⟨vp,rd,wr,dv,upd,out,h',h1⟩
theorem d8.call{dst:Option Tmp}{f:Operand}{args:Array Operand}{cV:Array TypeId}{ty:TypeId}{am:String}{after:Array Edge}{guard:Option (Nat×Bool)}{cm:i7}{rd wr:List Nat}{dv:DV X}{upd:List (Nat×Option (bp X))}{out:Out}
 (h:lJ P i (den (ρ f)) (args.toList.map λx=>den (ρ x)) cm (dJ rd (fK get))=some out) (h1:kJ out.obs/\out.v=den dv/\out.upd=jh upd/\(∀ p∈upd,p.1=cC i\/p.1∈wr)/\k dv upd rd wr=some r):
 d8 P T i ⟨dst,.call { callee:=.value f,args:=args,argTypes:=cV },ty,am,after,guard⟩ ρ get k r:=by
 refine⟨cm,rd,wr,dv,upd,out,?_,h1⟩;unfold jP
 all_goals grind [lJ,qG,zN]
theorem Je{op:BinOp}{b:DV X}{yes:Bool}(h:G1 op b yes k=some r):∃dv out,Fo op (den b) yes=some out/\kJ out.obs/\out.v=den dv/\out.upd=[]/\k dv [] [] []=some r:=by
 unfold G1 at h;split at h;cases yes with
 |true=>exact⟨b,_,rfl,trivial,rfl,rfl,h⟩
 |false=>exact⟨.c .bool false,_,rfl,trivial,rfl,rfl,h⟩
 cases yes with
 |true=>exact⟨b,_,rfl,trivial,rfl,rfl,h⟩
 |false=>exact⟨.c .bool true,_,rfl,trivial,rfl,rfl,h⟩
 cases h
theorem aff{op:BinOp}{t:TypeId}{x:DV X}(h:am2 T op t x k=some r):∃dv out,AS T op t (den x) .cN=some out/\kJ out.obs/\out.v=den dv/\out.upd=[]/\k dv [] [] []=some r:=by unfold am2 at h;rw[ah]at h;obtain⟨ti,h1,h⟩:=h;split at h;rename_i e c l hk;have⟨dv,out,g1,g2⟩:=Je h;refine⟨dv,out,?_,g2⟩;simp[AS,h1,hk];rw[<- g1];cases l<;>rfl;rename_i e kk aa len hk;have⟨dv,out,g1,g2⟩:=Je h;exact⟨dv,out,by simp[AS,h1,hk];exact g1,g2⟩;rename_i e kk len hk;have⟨dv,out,g1,g2⟩:=Je h;exact⟨dv,out,by simp[AS,h1,hk];exact g1,g2⟩;rename_i e hk;have⟨dv,out,g1,g2⟩:=Je h;exact⟨dv,out,by simp[AS,h1,hk];exact g1,g2⟩;cases h
theorem afg{s:ByteArray}{n b:Int}(h:QT s n=some b):0<=n/\∃c,s[n.toNat]? =some c/\b=c.toNat:=by
 unfold QT at h
 grind
theorem Zc{m:Int}{bytes:Nat}(h:uy m bytes=true):0<=m/\m.toNat*bytes<=140737488355328/\m.toNat<=maxLen:=by
 simp_all [uy,and_assoc]
theorem RB{b:Builtin}{args:List (DV X)}{cV:List TypeId}(h:OV T code i b args cV get k=some r):
 ∃rd wr dv upd out,uL T i b (bG args) cV (dJ rd (fK get))=some out/\kJ out.obs/\out.v=den dv/\out.upd=jh upd/\(∀ p∈upd,p.1=cC i\/p.1∈wr)/\k dv upd rd wr=some r:=by unfold OV at h;split at h;rw[ah]at h;obtain⟨ti,h1,h⟩:=h;split at h;rename_i e hk;refine⟨[],[],_,[],⟨.t (.sc (.int .i64 0)),[],[]⟩,?_,trivial,rfl,rfl,by simp,h⟩;simp[uL,bG,den,h1,hk];rfl;cases h;rename_i kk aa len t;rw[ah]at h;obtain⟨ti,h1,h⟩:=h;split at h;rename_i e hk;rw[ah]at h;obtain⟨ei,h2,h⟩:=h;rw[ah]at h;obtain⟨o,h3,h⟩:=h;split at h;rename_i c l;split at h;rename_i hs;refine⟨[kk],[kk],_,_,⟨.eR [],[(kk,some ⟨CT.sz X c,(aI (l.map (CT.row X.toSE c))).take aa⟩)],[]⟩,?_,trivial,rfl,?_,by simp,h⟩;simp only[uL,bG,den,h1,ai,hk,h2,fu (List.mem_singleton_self kk) h3,bI];rw[aX hs];simp[jh,bI,aI];cases h;cases h;cases h;rename_i kd m t u;rw[ah]at h;obtain⟨ti,h1,h⟩:=h;rw[ah]at h;obtain⟨ui,h2,h⟩:=h;split at h;rename_i e kn hk hk';rw[ah]at h;obtain⟨ei,h3,h⟩:=h;rw[ah]at h;obtain⟨c,h4,h⟩:=h;split at h;rename_i hs;have⟨z,h5,h⟩:=ah.1 h;have⟨h6,h⟩:=dQ h;have⟨m1,m2,m3⟩:=Zc h6;have hz:=xQ h5;rw[Ca]at hz;refine⟨[],[],_,_,⟨.own (cC i) 0 m.toNat,[(cC i,some ⟨ei.size,dS (List.replicate m.toNat (ei.zero.map cv))⟩)],[0<=m/\m.toNat*ei.bytes<=140737488355328/\m.toNat<=maxLen/\0<ei.size]⟩,?_,?_,rfl,?_,by simp,h⟩;simp[uL,bG,den,CT.tv,TV.av,h1,h2,h3,hk,hk'];exact⟨m1,m2,m3,hs.2⟩;simp only[jh,bH,map_nil,Option.map_some,bI,hs.1,aI,dS,List.map_replicate];rw[hz];cases h;cases h;cases h
theorem acG{t:TypeId}{l c:DV X}(h:ajV T code i t l c k=some r):∃dv upd out,Of T i t (den l) (den c)=some out/\kJ out.obs/\out.v=den dv/\out.upd=jh upd/\(∀ p∈upd,p.1=cC i)/\k dv upd [] []=some r:=by unfold ajV at h;rw[ah]at h;obtain⟨ti,h1,h⟩:=h;split at h;rename_i e kl n kc m hk;rw[ah]at h;obtain⟨ei,h3,h⟩:=h;rw[ah]at h;obtain⟨c,h4,h⟩:=h;split at h;rename_i hs;rw[ah]at h;obtain⟨z,h5,h⟩:=h;have⟨h6,h⟩:=dQ h;simp at h6;obtain⟨h7,h8,h9⟩:=h6;have⟨m1,m2,m3⟩:=Zc h9;have hz:=xQ h5;rw[Ca]at hz;refine⟨_,_,⟨.own (cC i) 0 n.toNat,[(cC i,some ⟨ei.size,dS (List.replicate n.toNat (ei.zero.map cv))⟩)],[0<=n/\n<=m/\m.toNat*ei.bytes<=140737488355328/\m.toNat<=maxLen/\0<ei.size]⟩,?_,?_,rfl,?_,by simp,h⟩;simp[Of,den,CT.tv,TV.av,h1,h3,hk];exact⟨h8,h7,m2,m3,hs.2⟩;simp only[jh,bH,map_nil,Option.map_some,bI,hs.1,aI,dS,List.map_replicate];rw[hz];cases h;cases h
theorem U6{t:TypeId}(h:U4 T code i t k=some r):∃dv upd out,Gz T i t=some out/\kJ out.obs/\out.v=den dv/\out.upd=jh upd/\(∀ p∈upd,p.1=cC i)/\k dv upd [] []=some r:=by unfold U4 at h;rw[ah]at h;obtain⟨ti,h1,h⟩:=h;split at h;rename_i kt et hk;have⟨kc,h2,h⟩:=ah.1 h;have⟨vc,h3,h⟩:=ah.1 h;exact⟨_,_,⟨.mp (cC i),[(cC i,some ⟨0,[]⟩)],[]⟩,by simp[Gz,h1,hk],trivial,rfl,rfl,by simp,h⟩;cases h
theorem ajY{ki:pw}{kc:CT X.ι}(h:E4 ki.k kc=true)(x:CT.T X.toSE kc):∃v,(CT.tv X.toSE kc x).av=.t (.sc v)/\Lx ki.k v=true:=by
 cases kc
 case int b=>
  refine⟨.int b x,rfl,?_⟩;cases hk:ki.k<;>rw[hk]at h<;>simp[E4]at h
  grind [Lx]
 case str=>
  refine⟨.string x,rfl,?_⟩;cases hk:ki.k<;>rw[hk]at h<;>simp[E4]at h;rfl
 case bool=>
  refine⟨.bool x,rfl,?_⟩;cases hk:ki.k<;>rw[hk]at h<;>simp[E4]at h;rfl
 all_goals (cases hk:ki.k<;>rw[hk]at h<;>simp[E4]at h)
theorem acH{kc:CT X.ι}{eq:CT.T X.toSE kc->CT.T X.toSE kc->Bool}(h:LY kc=some eq){a b:CT.T X.toSE kc}{va:Value}(ha:(CT.tv X.toSE kc a).av=.t (.sc va)):∃vb,(CT.tv X.toSE kc b).av=.t (.sc vb)/\QD va vb=some (eq a b):=by
 cases kc
 case int q=>
  simp[LY]at h;subst h
  grind [CT.tv,TV.av,QD,iEq]
 case str=>
  simp[LY]at h;subst h
  grind [CT.tv,TV.av,QD,fX]
 case bool=>
  simp[LY]at h;subst h
  grind [CT.tv,TV.av,QD,bEq]
 all_goals simp[LY]at h
theorem Zd{kc vc:CT X.ι}{eq:CT.T X.toSE kc->CT.T X.toSE kc->Bool}(h:LY kc=some eq){a:CT.T X.toSE kc}{va:Value}(ha:(CT.tv X.toSE kc a).av=.t (.sc va)):∀l:List (CT.T X.toSE kc×CT.T X.toSE vc),
 ∃r,QE va (bI (.map kc vc l:bp X)).rows=some r/\r.map (·.2)=(gT eq a l).map λv=>(CT.tv X.toSE vc v).av
 |[]=>⟨none,rfl,rfl⟩
 |p::l=>by
  have⟨vb,h1,h2⟩:=acH h (b:=p.1) ha;have⟨r,g1,g2⟩:=Zd h ha l;have g1':QE va (l.map λp=>[(CT.tv X.toSE kc p.1).av,(CT.tv X.toSE vc p.2).av])=some r:=g1;simp[bI,h1,QE,h2,gT];cases eq a p.1 with
  |true=>grind
  |false=>
   simp only[Bool.false_eq_true,if_false,g1',Option.map_some,ay];exact⟨_,rfl,by rw[<- g2,Option.map_map];rfl⟩
theorem acI{kc vc:CT X.ι}{eq:CT.T X.toSE kc->CT.T X.toSE kc->Bool}(h:LY kc=some eq){a:CT.T X.toSE kc}{va:Value}(ha:(CT.tv X.toSE kc a).av=.t (.sc va))(y:CT.T X.toSE vc):∀l:List (CT.T X.toSE kc×CT.T X.toSE vc),
 yf va (CT.tv X.toSE vc y).av (bI (.map kc vc l:bp X)).rows=some (bI (.map kc vc (Fq eq a y l):bp X)).rows
 |[]=>by simp[bI,yf,Fq,ha]
 |p::l=>by
  have⟨vb,h1,h2⟩:=acH h (b:=p.1) ha;have g:=acI h ha y l;have g':yf va (CT.tv X.toSE vc y).av (l.map λp=>[(CT.tv X.toSE kc p.1).av,(CT.tv X.toSE vc p.2).av])=some ((Fq eq a y l).map λp=>[(CT.tv X.toSE kc p.1).av,(CT.tv X.toSE vc p.2).av]):=g;simp[bI,h1,yf,Fq]
  grind
theorem zero_den{vc:CT X.ι}{ei:pw}{z:CT.T X.toSE vc}(h:LQ vc (ei.zero.map wi)=some z)(ha:ei.agg=anK vc)(hs:ei.size=CT.sz X vc):part' ei.agg ei.size ((ei.zero.map cv).map wk)=some (CT.tv X.toSE vc z).av:=by
 have hz:=xQ h;rw[Ca]at hz;rw[hz,ha,hs];have hl:((CT.row X.toSE vc z).map AV.t).length=CT.sz X vc:=by rw[length_map,GH]
 unfold part';rw[aX hl];cases vc<;>rfl
theorem alJ{d:DV X}{c:CT X.ι}{x:CT.T X.toSE c}(h:dat d c=some x):Ge (den d)=(CT.tv X.toSE c x).av:=by
 cases c
 case st j=>
  replace h:FA d j=some x:=h
  cases d
  case agg cs=>
   simp[FA]at h;rw[ah]at h;obtain⟨g,h1,h⟩:=h;cases h;simp[den,Ge,(yj h1 (X.flat j)).1];rw[<- UR];rfl
  case c a y=>
   rw[(oq h).1];simp only[den,CT.tv,TV.av,Ge,map_map];congr 1
  all_goals cases h
 all_goals
  (have h':=h
   have hd:=vM h';cases d
   case c a y=>
    obtain⟨e,_⟩:=rE (show lg a _ y=some x from h);subst e;exact hd
   all_goals first|exact hd|(cases h))
theorem XZ{t:TypeId}{x key:DV X}{ok:Bool}(h:aaF T t x key ok get k=some r):∃rd dv out,Ja T t (den x) (den key) ok (dJ rd (fK get))=some out/\kJ out.obs/\out.v=den dv/\out.upd=[]/\k dv [] rd []=some r:=by
 unfold aaF at h;rw[ah]at h;obtain⟨ti,h1,h⟩:=h;split at h
 ·rename_i kt et kk hk;rw[ah]at h;obtain⟨ki,h2,h⟩:=h;rw[ah]at h;obtain⟨ei,h3,h⟩:=h;rw[ah]at h;obtain⟨o,h4,h⟩:=h;split at h
  ·rename_i kc vc l;rw[ah]at h;obtain⟨eq,h5,h⟩:=h;rw[ah]at h;obtain⟨kv,h6,h⟩:=h;split at h
   ·rename_i hc;have⟨z,h7,h⟩:=ah.1 h;have⟨va,g1,g2⟩:=ajY hc.1 kv;have⟨q,g3,g4⟩:=Zd (vc:=vc) h5 g1 l;have hkey:den key=.t (.sc va):=(by have:=vM h6;rw[g1]at this;cases hd:den key<;>rw[hd]at this<;>simp only[wk,AV.t.injEq,reduceCtorEq]at this;subst this;rfl);have hv:∀q:Option (Nat×AV),q.map (·.2)=(gT eq kv l).map (λ v=>(CT.tv X.toSE vc v).av)->HK q (part' ei.agg ei.size ((ei.zero.map cv).map wk))=some (CT.tv X.toSE vc ((gT eq kv l).getD z)).av:=by
     intro q g;cases hm:gT eq kv l with
     |none=>
      rw[hm]at g;cases q with
      |none=>exact zero_den h7 hc.2.1 hc.2.2
      |some p=>simp at g
     |some v=>
      rw[hm]at g;cases q with
      |none=>simp at g
      |some p=>simp only[Option.map_some,bM]at g;simp only[HK,g,Option.getD_some]
    have hi:q.isSome=(gT eq kv l).isSome:=(by have:=congrArg Option.isSome g4;simpa using this);have hb:Ja T t (den (.mp kk:DV X)) (den key) ok (dJ [kk] (fK get))=pv (if ok then .eR [den (.c vc ((gT eq kv l).getD z):DV X),.t (.sc (.bool q.isSome))]else den (.c vc ((gT eq kv l).getD z):DV X)):=(by simp only[Ja,h1,ai,hk,den,hkey,h2,h3,fu (List.mem_singleton_self kk) h4];rw[aX ⟨g2,by simp[bI]⟩,g3,ai,hv q g4,ai]);cases ok with
    |true=>exact⟨[kk],_,_,hb,trivial,by simp only[if_true,den,bG,hi];rfl,rfl,h⟩
    |false=>exact⟨[kk],_,_,hb,trivial,rfl,rfl,h⟩
   ·cases h
  ·cases h
 ·cases h
theorem X0{t:TypeId}{x key y:DV X}(h:aaG T t x key y get k=some r):∃rd wr dv upd out,LA T t (den x) (den key) (den y) (dJ rd (fK get))=some out/\kJ out.obs/\out.v=den dv/\out.upd=jh upd/\(∀ p∈upd,p.1∈wr)/\k dv upd rd wr=some r:=by
 unfold aaG at h;rw[ah]at h;obtain⟨ti,h1,h⟩:=h;split at h
 ·rename_i kt et kk hk;rw[ah]at h;obtain⟨ki,h2,h⟩:=h;rw[ah]at h;obtain⟨o,h4,h⟩:=h;split at h
  ·rename_i kc vc l;rw[ah]at h;obtain⟨eq,h5,h⟩:=h;rw[ah]at h;obtain⟨kv,h6,h⟩:=h;rw[ah]at h;obtain⟨v,h7,h⟩:=h;split at h
   ·rename_i hc;have⟨va,g1,g2⟩:=ajY hc kv;have g3:=acI (vc:=vc) h5 g1 v l;have hkey:den key=.t (.sc va):=(by have:=vM h6;rw[g1]at this;cases hd:den key<;>rw[hd]at this<;>simp only[wk,AV.t.injEq,reduceCtorEq]at this;subst this;rfl);refine⟨[kk],[kk],_,_,⟨.undef,[(kk,some ⟨(bI (.map kc vc (Fq eq kv v l):bp X)).rows.length,(bI (.map kc vc (Fq eq kv v l):bp X)).rows⟩)],[]⟩,?_,trivial,rfl,?_,by simp,h⟩
    ·simp only[LA,h1,ai,hk,den,hkey,h2,fu (List.mem_singleton_self kk) h4];rw[aX ⟨g2,by simp[bI]⟩,alJ h7,g3];rfl
    ·simp[jh,bI]
   ·cases h
  ·cases h
 ·cases h
theorem afh(h:am3 T code i o.op ρ get k=some r):d8 P T i o ρ get k r:=by
 obtain⟨dst,op,ty,am,after,guard⟩:=o;unfold am3 at h;simp only at h;split at h
 ·rename_i op t x y q;split at h
  ·rename_i hn;have⟨dv,out,g1,g2,g3,g4,g5⟩:=aff h;have hy:den (ρ y)=.cN:=(by cases hρ:ρ y<;>rw[hρ]at hn<;>first|rfl|cases hn);exact d8.ext (n:=0) (rd:=[]) (wr:=[]) (upd:=[]) (by simp only[sH,hy];exact g1) g2 g3 g4 (by simp) g5
  ·cases h
 ·rename_i s d x;unfold amJ at h;rw[ah]at h;obtain⟨si,h1,h⟩:=h;rw[ah]at h;obtain⟨di,h2,h⟩:=h;split at h
  ·rename_i kd k' n hk hx;refine d8.ext (n:=0) (rd:=[]) (wr:=[]) (upd:=[]) (out:=⟨.t (.sc (.int kd (kd.wrap n))),[],[]⟩) ?_ trivial rfl rfl (by simp) h;simp only[sH,SP,h1,h2,ai,hk,hx];rfl
  ·cases h
 ·rename_i t x j;unfold ajU at h;rw[ah]at h;obtain⟨ti,h1,h⟩:=h;split at h
  ·rename_i s kk n hk hx hj;rw[ah]at h;obtain⟨b,h2,h⟩:=h;refine d8.ext (n:=b) (rd:=[]) (wr:=[]) (upd:=[]) (out:=⟨.t (.sc (.int .u8 b)),[],[0<=n/\∃c,s[n.toNat]? =some c/\b=c.toNat]⟩) ?_ (afg h2) rfl rfl (by simp) h;simp only[sH,Un,h1,ai,hk,hx,hj];rfl
  ·rename_i m e cs kd q hk hx hj;rw[ah]at h;obtain⟨ei,h2,h⟩:=h;have⟨h3,h⟩:=dQ h;rw[ah]at h;obtain⟨v,h4,h⟩:=h;simp only[co,bC,bF]at h3;refine d8.ext (n:=0) (rd:=[]) (wr:=[]) (upd:=[]) (out:=⟨den v,[],[0<=q/\q<(m:Int)]⟩) ?_ h3 rfl rfl (by simp) h;have h5:=Cb h4;rw[kK]at h5;simp only[sH,Un,h1,ai,hk,hx,hj,h2,den,CT.tv,TV.av,h5];rfl
  ·cases h
 ·rename_i t x lo hi;unfold Za at h;rw[ah]at h;obtain⟨ti,h1,h⟩:=h;split at h
  ·rename_i e hk hx;rw[ah]at h;obtain⟨ei,h2,h⟩:=h;rw[ah]at h;obtain⟨l,h3,h⟩:=h;rw[ah]at h;obtain⟨hh,h4,h⟩:=h;have⟨h5,h⟩:=dQ h;refine d8.ext (n:=0) (rd:=[]) (wr:=[]) (upd:=[]) (out:=⟨.cN,[],[l=0/\hh=0]⟩) ?_ (show l=0/\hh=0 by simpa using h5) rfl rfl (by simp) h;have e1:=Cc h3;have e2:=Cc h4;rw[Option.map_map]at e1 e2;simp only[sH,I9,h1,ai,hk,hx,h2,den];have PM:bnd 0 (lo.map λx=>den (ρ x))=some l:=e1;have e2':bnd 0 (hi.map λx=>den (ρ x))=some hh:=e2;rw[PM,ai,e2'];rfl
  ·cases h
 ·rename_i x;have⟨dv,g1,g2⟩:=RA h;exact d8.wg (n:=0) (rd:=[]) (wr:=[]) (upd:=[]) g1 trivial rfl rfl (by simp) g2
 ·rename_i t l c;have⟨dv,upd,out,g1,g2,g3,g4,g5,g6⟩:=acG h;exact d8.wg (n:=0) (rd:=[]) (wr:=[]) (upd:=upd) g1 g2 g3 g4 (λ p hp=>.inl (g5 p hp)) g6
 ·rename_i t;have⟨dv,upd,out,g1,g2,g3,g4,g5,g6⟩:=U6 h;exact d8.wg (n:=0) (rd:=[]) (wr:=[]) (upd:=upd) g1 g2 g3 g4 (λ p hp=>.inl (g5 p hp)) g6
 ·rename_i t m x ok;have⟨rd,dv,out,g1,g2,g3,g4,g6⟩:=XZ h;exact d8.wg (n:=0) (rd:=rd) (wr:=[]) (upd:=[]) g1 g2 g3 g4 (by simp) g6
 ·rename_i t m x v;have⟨rd,wr,dv,upd,out,g1,g2,g3,g4,g5,g6⟩:=X0 h;exact d8.wg (n:=0) (rd:=rd) (wr:=wr) (upd:=upd) g1 g2 g3 g4 (λ p hp=>.inr (g5 p hp)) g6
 ·rename_i b args cV;have⟨rd,wr,dv,upd,out,g1,g2,g3,g4,g5,g6⟩:=RB h;refine d8.ext (n:=0) (rd:=rd) (wr:=wr) (upd:=upd) ?_ g2 g3 g4 g5 g6;simp only[sH,Tq];exact g1
 ·cases h
theorem acJ{c:CT X.ι}:∀{xs:List Operand}{x:Operand}{y:CT.T X.toSE c×List Bool},x∈xs->E9 get (ρ x) c=some y->∀j∈bo (ρ x),j∈AK get c ρ xs
 |z::xs,x,y,hx,h,j,hj=>by simp[AK];rcases aR.1 hx with rfl|hx;left;rw[h];exact hj;exact .inr (acJ hx h j hj)
 |[],_,_,hx,_,_,_=>by grind
theorem acK{c:CT X.ι}:∀{xs:List Operand}{x:Operand}{y:CT.T X.toSE c×List Bool},x∈xs->E9 get (ρ x) c=some y->∀b∈y.2,b∈Q3 get c ρ xs
 |z::xs,x,y,hx,h,b,hb=>by simp[Q3];rcases aR.1 hx with rfl|hx;left;rw[h];exact hb;exact .inr (acK hx h b hb)
 |[],_,_,hx,_,_,_=>by grind
theorem afi(h:am4 T code i o.op ρ get k=some r):d8 P T i o ρ get k r:=by
 unfold am4 at h;split at h;cases h;rename_i hpick;have⟨c,h1,h⟩:=ah.1 h;have⟨hcs,h⟩:=pY h;have⟨cm,rd,wr,dv,upd,out,g1,g2,g3,g4,g5,g6⟩:=Y6 h;generalize kf:AK get c ρ o.op.operands.toList=ab at*;refine⟨.wc ab (λ x=>den (MT get c ρ x)) cm,rd++ab,wr++ab,dv,upd++LZ ab,⟨out.v,out.upd++ab.map (λ k=>(k,none)),out.obs++[∀ x∈o.op.operands,(ft P (dJ (rd++ab) (fK get)) (den (ρ x)) (den (MT get c ρ x))/\∀k∈refs (den (ρ x)),k∈ab)\/den (MT get c ρ x)=den (ρ x)]⟩,?_,?_,g3,?_,?_,g6⟩;unfold jP Gy;simp only;rw[aU hpick];have e:(λ k=>if k∈ab then none else dJ (rd++ab) (fK get) k)=dJ rd (fK λj=>if j∈ab then none else get j):=by
  grind [dJ,fK]
 rw[e,g1];rfl;refine qR _ λp hp=>?_;rcases bK.1 hp with hp|hp;exact qF _ g2 p hp;rw[bn]at hp;subst hp;intro x hx;unfold MT;rcases hl:E9 get (ρ x) c with _|y;exact .inr rfl;left;have hx':x∈o.op.operands.toList:=by grind
 have hin:=λj hj=>kf ▸ acJ hx' hl j hj;obtain⟨hs,obs,p1,p2⟩:=zS (P:=P) (rd:=rd++ab) hl (λ b hb=>hcs b (acK hx' hl b hb)) (λ j hj=>mem_append_right _ (hin j hj));refine⟨?_,λj hj=>hin j (by rwa [iH]at hj)⟩;have:=p2 [];exact Du _ _ _ this p1;simp[rP,Ce,g4];intro p hp;rcases bK.1 hp with hp|hp;exact(g5 p hp).imp id (λ h=>mem_append_left _ h);exact .inr (mem_append_right _ (Jd hp))
theorem U7{c:CT X.ι}:∀{ds:List (DV X)}{xs:List (CT.T X.toSE c)},G0 c ds=some xs->bG ds=xs.map λy=>den (.c c y:DV X)
 |[],xs,h=>by simp[G0]at h;subst h;rfl
 |.c a x::ds,xs,h=>by simp[G0]at h;rw[ah]at h;obtain⟨y,h1,h⟩:=h;rw[ah]at h;obtain⟨l,h2,h⟩:=h;cases h;simp[bG,U7 h2,(oq h1).1]
 |.agg _::_,_,h|.eR _::_,_,h|.own _ _ _::_,_,h|.ptr _ _ _::_,_,h|.qt _ _ _::_,_,h|.mp _::_,_,h|.tw _ _ _ _ _::_,_,h|.rp _ _ _::_,_,h|.xf _ _ _ _ _::_,_,h|.fn _ _ _::_,_,h|.du _ _ _::_,_,h|.raw _::_,_,h|.nil::_,_,h|.ub::_,_,h|.skip::_,_,h|.undef::_,_,h=>by trivial
theorem afj(h:am5 T code o.op ρ get k=some r):d8 P T i o ρ get k r:=by
 obtain⟨dst,op,ty,am,after,guard⟩:=o;unfold am5 at h;simp only at h;split at h
 ·rename_i t x j;rw[ah]at h;obtain⟨ti,h1,h⟩:=h;split at h
  ·rename_i m e kk row aa kd n hk hx hj;rw[ah]at h;obtain⟨ei,h2,h⟩:=h;split at h
   ·rename_i hs;have⟨h3,h⟩:=dQ h;refine d8.op (cm:=.none) (rd:=[]) (wr:=[]) (upd:=[]) (λ _ _ _ e=>by cases e) (out:=⟨.ptr kk row (aa+n.toNat*1),[],[0<=n/\n.toNat<m]⟩) ?_ ⟨?_,?_,rfl,by simp,h⟩
    ·simp only[ql,l9,h1,ai,hk,hx,hj,den,CT.tv,TV.av,h2,hs];rfl
    ·simp only[co,bC,bF]at h3;exact⟨h3.1,by omega⟩
    ·simp only[den,Nat.mul_one]
   ·cases h
  ·rename_i m e c y aa kd n hk hx hj;rw[ah]at h;obtain⟨ei,h2,h⟩:=h;split at h
   ·rename_i hs;have⟨h3,h⟩:=dQ h;refine d8.op (cm:=.none) (rd:=[]) (wr:=[]) (upd:=[]) (λ _ _ _ e=>by cases e) (out:=⟨.eo (CT.row X.toSE c y) (aa+n.toNat*1),[],[0<=n/\n.toNat<m]⟩) ?_ ⟨?_,?_,rfl,by simp,h⟩
    ·simp only[ql,l9,h1,ai,hk,hx,hj,den,CT.tv,TV.av,h2,hs];rfl
    ·simp only[co,bC,bF]at h3;exact⟨h3.1,by omega⟩
    ·simp only[den,Nat.mul_one]
   ·cases h
  ·cases h
 ·rename_i t a;rw[ah]at h;obtain⟨ti,h1,h⟩:=h;split at h
  ·rename_i kk row aa m n hx;split at h
   ·rename_i hs;rw[ah]at h;obtain⟨c,h2,h⟩:=h;split at h
    ·rename_i hc;rw[ah]at h;obtain⟨ob,h3,h⟩:=h;split at h
     ·rename_i sz rows;have⟨q,h4,h⟩:=ah.1 h;have⟨xs,h5,h⟩:=ah.1 h;have⟨y,h6,h⟩:=ah.1 h;have⟨_,h7⟩:=LU h6;have h8:=U7 h5;have h9:((bG q).drop (aa+n.toNat)).take 1=[den (.c c y:DV X)]:=by
       have e1:(bG ((q.drop aa).take m))[n.toNat]? =some (den (.c c y:DV X)):=(by rw[h8,List.getElem?_map,h7];rfl);rw[kK,List.getElem?_take]at e1;split at e1
       ·rw[List.getElem?_drop]at e1;have⟨g1,g2⟩:=cZ.1 e1;rw[List.drop_eq_getElem_cons g1,List.take_succ_cons,List.take_zero,g2]
       ·cases e1
      refine d8.op (cm:=.none) (rd:=[kk]) (wr:=[]) (upd:=[]) (λ _ _ _ e=>by cases e) (out:=⟨den (.c c y:DV X),[],[]⟩) ?_ ⟨trivial,rfl,rfl,by simp,h⟩;simp only[ql,J5,h1,ai,hx,den,fu (List.mem_singleton_self kk) h3,bI,List.getElem?_map,h4,Option.map_some,hs.1,hs.2];rw[h9];obtain⟨t',g1,g2⟩:=row_one hc y;simp only[den,g2,TV.av];rfl
     ·cases h
     ·cases h
    ·cases h
   ·cases h
  ·rename_i b y0 aa m n hx;split at h
   ·rename_i hs;rw[ah]at h;obtain⟨c,h2,h⟩:=h;split at h
    ·rename_i hc;have⟨xs,h5,h⟩:=ah.1 h;have⟨y,h6,h⟩:=ah.1 h;have⟨_,h7⟩:=LU h6;have h8:=U7 h5;have h9:(((CT.row X.toSE b y0).drop (aa+n.toNat)).take 1).map AV.t=[den (.c c y:DV X)]:=by
      have e1:(bG (((uO b y0).drop aa).take m))[n.toNat]? =some (den (.c c y:DV X)):=(by rw[h8,List.getElem?_map,h7];rfl);rw[kK,o6,List.getElem?_take]at e1;split at e1
      ·rw[List.getElem?_drop]at e1;have⟨g1,g2⟩:=cZ.1 e1;rw[map_take,map_drop,List.drop_eq_getElem_cons g1,List.take_succ_cons,List.take_zero,g2]
      ·cases e1
     refine d8.op (cm:=.none) (rd:=[]) (wr:=[]) (upd:=[]) (λ _ _ _ e=>by cases e) (out:=⟨den (.c c y:DV X),[],[]⟩) ?_ ⟨trivial,rfl,rfl,by simp,h⟩;simp only[ql,J5,h1,ai,hx,den,hs.1,hs.2];rw[h9];obtain⟨t',g1,g2⟩:=row_one hc y;simp only[den,g2,TV.av];rfl
    ·cases h
   ·cases h
  ·cases h
 ·cases h
end
end
section
variable {X:SX}
structure MA(X:SX) where
 nm:List (Nat×Nat)
 er:List (DC X)
 iS:List Bool
def addN(m:MA X)(k' k:Nat):MA X:=if m.nm.contains (k',k)then m else⟨m.nm++[(k',k)],m.er,m.iS⟩
section
variable (get:Nat->Option (bp X))
mutual
def mP:Pt X.ι->DV X->MA X->Option (MA X)
 |.v c,d,m=>(dat d c).bind λx=>some ⟨m.nm,m.er++[⟨c,x⟩],m.iS⟩
 |.o k,d,m=>match d with
  |.own k' 0 len=>(get k').bind λo=>match o with
   |.eb _ l=>some (addN ⟨m.nm,m.er,m.iS++[aE len l.length]⟩ k' k)
   |_=>none
  |_=>none
 |.oz k,d,m=>match d with
  |.own k' 0 len=>(get k').bind λo=>match o with
   |.eb _ l=>some (addN ⟨m.nm,m.er,m.iS++[!(len==0)&&aE len l.length]⟩ k' k)
   |_=>none
  |.oz k' len=>(get k').bind λo=>match o with
   |.eb _ l=>some (addN ⟨m.nm,m.er,m.iS++[aE len l.length]⟩ k' k)
   |_=>none
  |_=>none
 |.p k,d,m=>match d with
  |.ptr k' 0 0=>some (addN m k' k)
  |_=>none
 |.mp k,d,m=>match d with
  |.mp k'=>some (addN m k' k)
  |_=>none
 |.nil,d,m=>match d with
  |.nil=>some m
  |_=>none
 |.f F fs cs,d,m=>match d with
  |.fn F' first caps=>if F=F' then(tz fs first m).bind λm=>tz cs caps m else none
  |_=>none
 |.od k,d,m=>match d with
  |.own k' aa len=>(get k').bind λo=>match o with
   |.eb _ l=>some (addN ⟨m.nm,m.er++[⟨.int .i64,(aa:Int)⟩],m.iS++[aE (aa+len) l.length]⟩ k' k)
   |_=>none
  |_=>none
 |.a ps,d,m=>match d with
  |.agg ds=>tz ps ds m
  |_=>none
def tz:List (Pt X.ι)->List (DV X)->MA X->Option (MA X)
 |[],[],m=>some m
 |p::ps,d::ds,m=>(mP p d m).bind λm=>tz ps ds m
 |_,_,_=>none
end
def GU(env:Nat->DV X):List (Nat×Pt X.ι)->MA X->Option (MA X)
 |[],m=>some m
 |(t,p)::r,m=>(mP get p (env t) m).bind λm=>GU env r m
def Kg:List (List (Pt X.ι))->List (List (DV X))->MA X->Option (MA X)
 |[],[],m=>some m
 |r::rs,q::qs,m=>(tz get r q m).bind λm=>Kg rs qs m
 |_,_,_=>none
def nameOf(m:MA X)(k:Nat):Nat:=match m.nm.find? (λ q=>q.2==k)with|some q=>q.1|none=>k
def Cf:List (Nat×OP X.ι)->MA X->Option (MA X)
 |[],m=>some m
 |(k,op)::r,m=>(get (nameOf m k)).bind λo=>match op,o with
  |.l c,.eb c' l=>(lg (.sl c') (.sl c) l).bind λl'=>Cf r (addN ⟨m.nm,m.er++[⟨.sl c,l'⟩],m.iS⟩ (nameOf m k) k)
  |.m kc vc,.map uc tU l=>(lg (.mp uc tU) (.mp kc vc) l).bind λl'=>Cf r (addN ⟨m.nm,m.er++[⟨.mp kc vc,l'⟩],m.iS⟩ (nameOf m k) k)
  |.c sz rows,.cells sz' rows'=>if sz=sz' then(Kg get rows rows' (addN m (nameOf m k) k)).bind λm=>Cf r m else none
  |_,_=>none
end
end
section
variable {X:SX} {A:Type}
mutual
def rI(f:Nat->Nat):DV X->DV X
 |.own k aa len=>.own (f k) aa len
 |.ptr k row aa=>.ptr (f k) row aa
 |.qt k n aa=>.qt (f k) n aa
 |.tw k row aa m n=>.tw (f k) row aa m n
 |.mp k=>.mp (f k)
 |.oz k len=>.oz (f k) len
 |.agg cs=>.agg (KE f cs)
 |.eR cs=>.eR (KE f cs)
 |.fn F first caps=>.fn F (KE f first) (KE f caps)
 |x=>x
def KE(f:Nat->Nat):List (DV X)->List (DV X)
 |[]=>[]
 |x::xs=>rI f x::KE f xs
end
theorem afk(f:Nat->Nat):∀l:List Tree,BZ f (l.map AV.t)=l.map AV.t
 |[]=>rfl
 |x::xs=>by simp[BZ,jt,afk f xs]
mutual
theorem zT(f:Nat->Nat):∀x:DV X,den (rI f x)=jt f (den x)
 |.own _ _ _|.ptr _ _ _|.qt _ _ _|.mp _|.oz _ _|.tw _ _ _ _ _=>rfl
 |.agg cs|.eR cs=>by simp[rI,den,jt,GV f cs]
 |.fn F first caps=>by simp[rI,den,jt,GV f first,GV f caps]
 |.c t x=>by
  simp[rI,den];cases t<;>try rfl
  simp[CT.tv,TV.av,jt,afk]
 |.rp _ _ _|.xf _ _ _ _ _|.du _ _ _=>rfl
 |.raw v=>by simp[rI,den,cv];split;rfl;split<;>rfl
 |.nil|.ub|.skip|.undef=>rfl
theorem GV(f:Nat->Nat):∀l:List (DV X),bG (KE f l)=BZ f (bG l)
 |[]=>rfl
 |x::xs=>by simp[KE,bG,BZ,zT f x,GV f xs]
end
def pN(f:Nat->Nat):bp X->bp X
 |.cells sz rows=>.cells sz (rows.map (KE f))
 |o=>o
def d7:bp X->List Nat
 |.cells _ rows=>(rows.map aL).flatten
 |.eb _ _=>[]
 |.map _ _ _=>[]
def RM:CT X.ι->Bool
 |.int _|.bool|.str=>true
 |_=>false
def wU:CT X.ι->Bool
 |.st i=>(X.cV i).all RM
 |c=>RM c
theorem DU{c:CT X.ι}(h:RM c=true)(x:CT.T X.toSE c):∀t∈CT.row X.toSE c x,t.flat:=by cases c<;>first|(intro t ht;simp[CT.row]at ht;subst ht;trivial)|cases h
theorem ahd:∀(l:List (CT X.ι))(h:HL X.toSE l),l.all RM=true->∀t∈HL.row X.toSE l h,t.flat
 |[],_,_,t,ht=>by trivial
 |c::l,h,ha,t,ht=>by simp only[all_cons,bC]at ha;rcases bK.1 (show t∈CT.row X.toSE c h.1++HL.row X.toSE l h.2 from ht)with ht|ht;exact DU ha.1 h.1 t ht;exact ahd l h.2 ha.2 t ht
theorem uP{c:CT X.ι}(h:wU c=true)(x:CT.T X.toSE c):∀t∈CT.row X.toSE c x,t.flat:=by
 cases c
 case st i=>intro t ht;exact ahd (X.cV i) (X.get i x) h t ((X.oE i x) ▸ ht)
 case int k=>exact DU (c:=.int k) h x
 case bool=>exact DU (c:=.bool) h x
 case str=>exact DU (c:=.str) h x
 case sl e=>cases h
 case any=>cases h
 trivial
structure MG(X:SX) where
 nm:List (Nat×Nat)
 er:List (DC X)
 iS:List Bool
 vr:List Nat
section
variable (get:Nat->Option (bp X))
mutual
def pT:Pt X.ι->DV X->MG X->Option (MG X)
 |.v c,d,m=>(E9 get d c).bind λx=>some ⟨m.nm,m.er++[⟨c,x.1⟩],m.iS++x.2,m.vr++bo d⟩
 |.o k,d,m=>match d with
  |.own k' 0 len=>(get k').bind λo=>match o with
   |.eb _ l=>some ⟨m.nm++[(k',k)],m.er,m.iS++[aE len l.length],m.vr⟩
   |_=>none
  |_=>none
 |.od k,d,m=>match d with
  |.own k' aa len=>(get k').bind λo=>match o with
   |.eb _ l=>some ⟨m.nm++[(k',k)],m.er++[⟨.int .i64,(aa:Int)⟩],m.iS++[aE (aa+len) l.length],m.vr⟩
   |_=>none
  |_=>none
 |.p k,d,m=>match d with
  |.ptr k' 0 0=>some ⟨m.nm++[(k',k)],m.er,m.iS,m.vr⟩
  |_=>none
 |.nil,d,m=>match d with
  |.nil=>some m
  |_=>none
 |.f F fs cs,d,m=>match d with
  |.fn F' first caps=>if F=F' then(sq fs first m).bind λm=>sq cs caps m else none
  |_=>none
 |.mp k,d,m=>match d with
  |.mp k'=>some ⟨m.nm++[(k',k)],m.er,m.iS,m.vr⟩
  |_=>none
 |.oz _,_,_=>none
 |.a ps,d,m=>match d with
  |.agg ds=>sq ps ds m
  |_=>none
def sq:List (Pt X.ι)->List (DV X)->MG X->Option (MG X)
 |[],[],m=>some m
 |p::ps,d::ds,m=>(pT p d m).bind λm=>sq ps ds m
 |_,_,_=>none
end
def L6:List (List (Pt X.ι))->List (List (DV X))->MG X->Option (MG X)
 |[],[],m=>some m
 |r::rs,q::qs,m=>(sq get r q m).bind λm=>L6 rs qs m
 |_,_,_=>none
def qu(m:MG X)(k:Nat):Nat:=match m.nm.find? (λ q=>q.2==k)with|some q=>q.1|none=>k
def stC:CT X.ι->Bool
 |.st _=>true
 |_=>false
def Cg:List (Nat×OP X.ι)->MG X->Option (MG X)
 |[],m=>some m
 |(k,op)::r,m=>(get (qu m k)).bind λo=>match op,o with
  |.l c,.eb c' l=>(lg (.sl c') (.sl c) l).bind λl'=>Cg r ⟨m.nm++[(qu m k,k)],m.er++[⟨.sl c,l'⟩],m.iS,m.vr⟩
  |.m kc vc,.map uc tU l=>if (kc.one=true/\vc.one=true)\/stC kc=true then(lg (.mp uc tU) (.mp kc vc) l).bind λl'=>Cg r ⟨m.nm++[(qu m k,k)],m.er++[⟨.mp kc vc,l'⟩],m.iS,m.vr⟩else none
  |.c sz rows,.cells sz' rows'=>if sz=sz' then(L6 get rows rows' ⟨m.nm++[(qu m k,k)],m.er,m.iS,m.vr⟩).bind λm=>Cg r m else none
  |_,_=>none
end
mutual
def Pt.refs:Pt X.ι->List Nat
 |.o k|.od k|.p k|.mp k|.oz k=>[k]
 |.f _ fs cs=>wF fs++wF cs
 |.a ps=>wF ps
 |_=>[]
def wF:List (Pt X.ι)->List Nat
 |[]=>[]
 |p::ps=>p.refs++wF ps
end
def OP.refs:OP X.ι->List Nat
 |.l _=>[]
 |.m _ _=>[]
 |.c _ rows=>rows.flatMap wF
def HP(n k:Nat):Bool:=Nat.blt k n || (Nat.ble 1000 k&&Nat.blt k 1064)
def cM.ok(g:cM X):Bool:=
 decide (g.il.map (·.1)=List.range g.il.length)&&decide (g.il.length<=1000)&&(g.iz.all λq=>HP g.il.length q.1&&q.2.refs.all λk=>HP g.il.length k)&&decide (g.iz.map (·.1)).Nodup&&(wF g.fm).all λk=>HP g.il.length k
def okG(m:MG X)(ab:List Nat):Bool:=
 decide ab.Nodup&&(m.nm.all λq=>match ab[q.2]? with|some k=>Nat.beq k q.1|none=>false)&&m.vr.all λk=>!ab.contains k
def cM.flat(g:cM X):Bool:=(cI g.fm).all wU&&g.iz.all λq=>match q.2 with
 |.l c=>wU c
 |.m _ _=>false
 |.c _ rows=>(vN rows).all wU
def tE:List (Nat×bp X)->Nat->Option (bp X)
 |[],_=>none
 |(j,o)::r,k=>if j=k then some o else tE r k
def RK(i:Nat)(ab:List Nat)(os':List (Nat×bp X)):List (Nat×Option (bp X)):=
 (ab.zipIdx.map λp=>(p.1,(tE os' p.2).map (pN (cn i ab))))++(os'.filter λq=>decide (1000<=q.1)).map λq=>(cn i ab q.1,some (pN (cn i ab) q.2))
def afl(g:cM X)(i:Nat)(ds:List (DV X))(get:Nat->Option (bp X))(k:KK X A):Option A:=
 (sq get g.mj ds ⟨[],[],[],[]⟩).bind λm=>(Cg get g.il m).bind λm=>
  bif g.ok&&okG m ((List.range g.il.length).map (qu m))then(E6 (cI g.mj++cX g.il) m.er).bind λv=>UL m.iS ((g.fn v).bind λr=>
   let ab:=(List.range g.il.length).map (qu m)
   k (rI (cn i ab) (g.res r)) (RK i ab (g.outs r)++(if g.flat then []else m.vr.map λk=>(k,none))) (ab++m.vr) ((ab++(RK i ab (g.outs r)).map (·.1))++m.vr))
  else none
section
variable {P:Program} {get:Nat->Option (bp X)} {rd ab:List Nat} {dp:Nat->Nat}
def fx(m m':MG X):Prop:=(∀ q∈m.nm,q∈m'.nm)/\(∀ c∈m.iS,c∈m'.iS)/\∀k∈m.vr,k∈m'.vr
theorem fx.refl(m:MG X):fx m m:=⟨λ _ h=>h,λ_ h=>h,λ_ h=>h⟩
theorem fx.trans{a b c:MG X}(h:fx a b)(h':fx b c):fx a c:=⟨λ q hq=>h'.1 q (h.1 q hq),λq hq=>h'.2.1 q (h.2.1 q hq),λq hq=>h'.2.2 q (h.2.2 q hq)⟩
mutual
theorem ajZ:∀(p:Pt X.ι)(d:DV X)(m m':MG X),pT get p d m=some m'->fx m m'/\∃al,m'.er=m.er++al/\al.length=p.vars.length
 |.v c,d,m,m',h=>by simp[pT]at h;rw[ah]at h;obtain⟨x,h1,h⟩:=h;cases h;exact⟨⟨λ _ h=>h,λ_ h=>by simp[h],λ_ h=>by simp[h]⟩,[⟨c,x.1⟩],rfl,rfl⟩
 |.o k,d,m,m',h=>by simp[pT]at h;split at h;rw[ah]at h;obtain⟨o,h1,h⟩:=h;split at h;cases h;exact⟨⟨λ _ h=>by simp[h],λ_ h=>by simp[h],λ_ h=>h⟩,[],by simp,rfl⟩;cases h;cases h
 |.od k,d,m,m',h=>by simp[pT]at h;split at h;rename_i k' aa len;have⟨o,h1,h⟩:=ah.1 h;split at h;cases h;exact⟨⟨λ _ h=>by simp[h],λ_ h=>by simp[h],λ_ h=>h⟩,[⟨.int .i64,(aa:Int)⟩],rfl,rfl⟩;cases h;cases h
 |.p k,d,m,m',h=>by simp[pT]at h;split at h;cases h;exact⟨⟨λ _ h=>by simp[h],λ_ h=>h,λ_ h=>h⟩,[],by simp,rfl⟩;cases h
 |.nil,d,m,m',h=>by simp[pT]at h;split at h;cases h;exact⟨fx.refl _,[],by simp,rfl⟩;cases h
 |.f F fs cs,d,m,m',h=>by simp[pT]at h;split at h;split at h;have⟨m1,h1,h⟩:=ah.1 h;obtain⟨a1,n1,b1,c1⟩:=vR fs _ m m1 h1;obtain⟨a2,n2,b2,c2⟩:=vR cs _ m1 m' h;exact⟨a1.trans a2,n1++n2,by rw[b2,b1,aT],by simp[Pt.vars,c1,c2]⟩;cases h;cases h
 |.mp k,d,m,m',h=>by simp[pT]at h;split at h;cases h;exact⟨⟨λ _ h=>by simp[h],λ_ h=>h,λ_ h=>h⟩,[],by simp,rfl⟩;cases h
 |.oz _,_,_,_,h=>by simp[pT]at h
 |.a ps,d,m,m',h=>by simp[pT]at h;split at h;exact vR ps _ m m' h;cases h
theorem vR:∀(ps:List (Pt X.ι))(ds:List (DV X))(m m':MG X),sq get ps ds m=some m'->fx m m'/\∃al,m'.er=m.er++al/\al.length=(cI ps).length
 |[],[],m,m',h=>by simp[sq]at h;subst h;exact⟨fx.refl _,[],by simp,rfl⟩
 |p::ps,d::ds,m,m',h=>by simp[sq]at h;have⟨m1,h1,h⟩:=ah.1 h;have⟨a1,n1,b1,c1⟩:=ajZ p d m m1 h1;have⟨a2,n2,b2,c2⟩:=vR ps ds m1 m' h;exact⟨a1.trans a2,n1++n2,by rw[b2,b1,aT],by simp[cI,c1,c2]⟩
 |[],_::_,m,m',h|_::_,[],m,m',h=>by simp[sq]at h
end
def yi:AV->List LH->List LH
 |.agg _,hs=>.agd::hs
 |_,hs=>hs
theorem L8(x:AV)(a b:List LH):yi x (a++b)=yi x a++b:=by cases x<;>rfl
theorem xR{get':Nat->Option aM}{x:AV}{hs:List LH}{p:AV×List LH×List Prop}(h:oW P get' x hs=some p)(hr:∀k∈refs x,k∉ab):qo P get' ab x (yi x hs)=some p:=by
 have hd:((refs x).all λk=>!ab.contains k)=true:=by
  grind
 cases x
 all_goals
  simp[yi];unfold qo;split<;>first|trivial|grind|exact h|grind|(done)
variable {NM:List (Nat×Nat)} {pZ:List Nat}
mutual
theorem air(hi:∀q∈NM,ab[q.2]? =some q.1)(hv:∀k∈pZ,k∉ab)(hrd:∀k,(∃ q,(k,q)∈NM)\/k∈pZ->k∈rd)(ho:∀q∈NM,∀c l,get q.1=some (.eb c l)->dp q.2=l.length):
 ∀(p:Pt X.ι)(d:DV X)(m m':MG X),pT get p d m=some m'->(∀ q∈m'.nm,q∈NM)->(∀ c∈m'.iS,c=true)->(∀ k∈m'.vr,k∈pZ)->
 ∃al,m'.er=m.er++al/\∃d',(∀ ae,eP dp p (al++ae)=(d',ae))/\(∃ hs obs,(∀ p∈obs,p)/\∀ae,qo P (dJ rd (fK get)) ab (den d) (hs++ae)=some (den d',ae,obs))/\∀j∈bo d,(∃ q,(j,q)∈NM)\/j∈pZ
 |.v c,d,m,m',h,hn,hc,hr=>by simp[pT]at h;rw[ah]at h;obtain⟨x,h1,h⟩:=h;cases h;have B6:∀j∈bo d,j∈pZ:=λj hj=>hr j (by simp[hj]);obtain⟨hs,obs,p1,q1⟩:=zS (P:=P) (rd:=rd) h1 (λ b hb=>hc b (by simp[hb])) (λ j hj=>hrd j (.inr (B6 j hj)));refine⟨[⟨c,x.1⟩],rfl,.c c x.1,λae=>rfl,⟨yi (den d) hs,obs,p1,λae=>?_⟩,λj hj=>.inr (B6 j hj)⟩;rw[<- L8];exact xR (q1 ae) (λ k hk=>hv k (B6 k (by rwa [iH]at hk)))
 |.o k,d,m,m',h,hn,hc,hr=>by
  simp[pT]at h;split at h;rename_i k' len;rw[ah]at h;obtain⟨o,h1,h⟩:=h;split at h;rename_i c l;cases h;have hq:(k',k)∈NM:=hn _ (by simp);have he:len=l.length:=by have:=hc (aE len l.length) (by simp);simpa[aE]using this
  refine⟨[],by simp,.own k 0 (dp k),λae=>rfl,⟨[.mut k],[],by simp,λae=>?_⟩,λj hj=>?_⟩;simp[den,qo,hi _ hq,ho _ hq c l h1,he];simp[bo]at hj;subst hj;exact .inl ⟨k,hq⟩;cases h;cases h
 |.od k,d,m,m',h,hn,hc,hr=>by
  simp[pT]at h;split at h;rename_i k' aa len;rw[ah]at h;obtain⟨o,h1,h⟩:=h;split at h;rename_i c l;cases h;have hq:(k',k)∈NM:=hn _ (by simp);have he:aa+len=l.length:=by have:=hc (aE (aa+len) l.length) (by simp);simpa[aE]using this
  refine⟨[⟨.int .i64,(aa:Int)⟩],rfl,.own k aa (dp k-aa),λae=>?_,⟨[.mut k],[],by simp,λae=>?_⟩,λj hj=>?_⟩;have:Y7 (X:=X) ⟨.int .i64,(aa:Int)⟩=aa:=by simp[Y7];rw[U0];simp
  simp[eP,this];simp[den,qo,hi _ hq,ho _ hq c l h1,show l.length-aa=len by omega];simp[bo,bn]at hj;subst hj;exact .inl ⟨k,hq⟩;cases h;cases h
 |.p k,d,m,m',h,hn,hc,hr=>by simp[pT]at h;split at h;rename_i k';cases h;have hq:(k',k)∈NM:=hn _ (by simp);refine⟨[],by simp,.ptr k 0 0,λae=>rfl,⟨[.mut k],[],by simp,λae=>?_⟩,λj hj=>?_⟩;simp[den,cons_append,fJ,qo,hi _ hq,if_true];simp[bo,bn]at hj;subst hj;exact .inl ⟨k,hq⟩;cases h
 |.nil,d,m,m',h,hn,hc,hr=>by simp[pT]at h;split at h;cases h;refine⟨[],by simp,.nil,λae=>rfl,⟨[.nil],[],by simp,λae=>?_⟩,by simp[bo]⟩;exact xR (by simp[den,cons_append,fJ,oW]) (by simp[den,refs]);cases h
 |.f F fs cs,d,m,m',h,hn,hc,hr=>by
  simp[pT]at h;split at h;rename_i F' first caps
  split at h;rename_i e;subst e;rw[ah]at h;obtain⟨m1,h1,h⟩:=h;have hm:=(vR cs _ m1 m' h).1;obtain⟨n1,a1,f',b1,⟨hs1,o1,p1,q1⟩,r1⟩:=xS hi hv hrd ho fs _ m m1 h1 (λ q hq=>hn q (hm.1 q hq)) (λ q hq=>hc q (hm.2.1 q hq)) (λ q hq=>hr q (hm.2.2 q hq));obtain⟨n2,a2,c',b2,⟨hs2,o2,p2,q2⟩,r2⟩:=xS hi hv hrd ho cs _ m1 m' h hn hc hr;refine⟨n1++n2,by rw[a2,a1,aT],.fn F f' c',λae=>by simp[eP,aT,b1,b2],⟨.fnw::(hs1++hs2),o1++o2,ic p1 p2,λae=>?_⟩,λj hj=>?_⟩;simp[den,cons_append,aT,qo,q1,ai,q2];simp[bo,bK]at hj;exact hj.elim (r1 j) (r2 j);cases h;cases h
 |.mp k,d,m,m',h,hn,hc,hr=>by simp[pT]at h;split at h;rename_i k';cases h;have hq:(k',k)∈NM:=hn _ (by simp);refine⟨[],by simp,.mp k,λae=>rfl,⟨[.mut k],[],by simp,λae=>?_⟩,λj hj=>?_⟩;simp[den,cons_append,fJ,qo,hi _ hq,if_true];simp[bo,bn]at hj;subst hj;exact .inl ⟨k,hq⟩;cases h
 |.oz _,_,_,_,h,_,_,_=>by simp[pT]at h
 |.a ps,d,m,m',h,hn,hc,hr=>by simp[pT]at h;split at h;rename_i ds;have⟨n1,a1,f',b1,⟨hs1,o1,p1,q1⟩,r1⟩:=xS hi hv hrd ho ps ds m m' h hn hc hr;refine⟨n1,a1,.agg f',λae=>by simp[eP,b1],⟨.agw::hs1,o1,p1,λae=>?_⟩,λj hj=>r1 j (by simpa[bo]using hj)⟩;simp[den,cons_append,qo,q1,ai];cases h
theorem xS(hi:∀q∈NM,ab[q.2]? =some q.1)(hv:∀k∈pZ,k∉ab)(hrd:∀k,(∃ q,(k,q)∈NM)\/k∈pZ->k∈rd)(ho:∀q∈NM,∀c l,get q.1=some (.eb c l)->dp q.2=l.length):
 ∀(ps:List (Pt X.ι))(ds:List (DV X))(m m':MG X),sq get ps ds m=some m'->(∀ q∈m'.nm,q∈NM)->(∀ c∈m'.iS,c=true)->(∀ k∈m'.vr,k∈pZ)->
 ∃al,m'.er=m.er++al/\∃ds',(∀ ae,k7 dp ps (al++ae)=(ds',ae))/\(∃ hs obs,(∀ p∈obs,p)/\∀ae,mh P (dJ rd (fK get)) ab (bG ds) (hs++ae)=some (bG ds',ae,obs))/\∀j∈aL ds,(∃ q,(j,q)∈NM)\/j∈pZ
 |[],[],m,m',h,_,_,_=>by simp[sq,bM]at h;subst h;exact⟨[],by simp,[],λae=>rfl,⟨[],[],by simp,λae=>rfl⟩,by simp[aL]⟩
 |p::ps,d::ds,m,m',h,hn,hc,hr=>by simp[sq]at h;have⟨m1,h1,h⟩:=ah.1 h;have hm:=(vR ps ds m1 m' h).1;obtain⟨n1,a1,d',b1,⟨hs1,o1,p1,q1⟩,r1⟩:=air hi hv hrd ho p d m m1 h1 (λ q hq=>hn q (hm.1 q hq)) (λ q hq=>hc q (hm.2.1 q hq)) (λ q hq=>hr q (hm.2.2 q hq));have⟨n2,a2,ds',b2,⟨hs2,o2,p2,q2⟩,r2⟩:=xS hi hv hrd ho ps ds m1 m' h hn hc hr;refine⟨n1++n2,by rw[a2,a1,aT],d'::ds',λae=>by simp[k7,aT,b1,b2],⟨hs1++hs2,o1++o2,ic p1 p2,λae=>?_⟩,λj hj=>?_⟩;simp[bG,aT,mh,q1,ai,q2];simp[aL,bK]at hj;exact hj.elim (r1 j) (r2 j)
 |[],_::_,m,m',h,_,_,_=>by simp[sq]at h
 |_::_,[],m,m',h,_,_,_=>by simp[sq]at h
end
theorem yA:∀(rs:List (List (Pt X.ι)))(qs:List (List (DV X)))(m m':MG X),L6 get rs qs m=some m'->fx m m'/\∃al,m'.er=m.er++al/\al.length=(vN rs).length
 |[],[],m,m',h=>by simp[L6]at h;subst h;exact⟨fx.refl _,[],by simp,rfl⟩
 |r::rs,q::qs,m,m',h=>by simp[L6]at h;have⟨m1,h1,h⟩:=ah.1 h;have⟨a1,n1,b1,c1⟩:=vR r q m m1 h1;have⟨a2,n2,b2,c2⟩:=yA rs qs m1 m' h;exact⟨a1.trans a2,n1++n2,by grind,by simp[vN,c1,c2]⟩
 |[],_::_,m,m',h|_::_,[],m,m',h=>by trivial
theorem QU(hi:∀q∈NM,ab[q.2]? =some q.1)(hv:∀k∈pZ,k∉ab)(hrd:∀k,(∃ q,(k,q)∈NM)\/k∈pZ->k∈rd)(ho:∀q∈NM,∀c l,get q.1=some (.eb c l)->dp q.2=l.length):
 ∀(rs:List (List (Pt X.ι)))(qs:List (List (DV X)))(m m':MG X),L6 get rs qs m=some m'->(∀ q∈m'.nm,q∈NM)->(∀ c∈m'.iS,c=true)->(∀ k∈m'.vr,k∈pZ)->
 ∃al,m'.er=m.er++al/\∃Gk,(∀ ae,vP dp rs (al++ae)=(Gk,ae))/\(∃ hs obs,(∀ p∈obs,p)/\Dw P (dJ rd (fK get)) ab (qs.map bG) hs=some (Gk.map bG,obs))/\∀j∈(qs.map aL).flatten,(∃ q,(j,q)∈NM)\/j∈pZ
 |[],[],m,m',h,_,_,_=>by simp[L6]at h;subst h;exact⟨[],by simp,[],λae=>rfl,⟨[],[],by simp,rfl⟩,by simp⟩
 |r::rs,q::qs,m,m',h,hn,hc,hr=>by
  simp[L6]at h;have⟨m1,h1,h⟩:=ah.1 h;have hm:=(yA rs qs m1 m' h).1;obtain⟨n1,a1,d',b1,⟨hs1,o1,p1,q1⟩,r1⟩:=xS (P:=P) hi hv hrd ho r q m m1 h1 (λ q hq=>hn q (hm.1 q hq)) (λ q hq=>hc q (hm.2.1 q hq)) (λ q hq=>hr q (hm.2.2 q hq));have⟨n2,a2,ds',b2,⟨hs2,o2,p2,q2⟩,r2⟩:=QU hi hv hrd ho rs qs m1 m' h hn hc hr;refine⟨n1++n2,by rw[a2,a1,aT],d'::ds',λae=>by simp[vP,b1,b2],⟨hs1::hs2,o1++o2,ic p1 p2,?_⟩,λj hj=>?_⟩;have:=q1 [];rw[append_nil]at this;simp[Dw,this,q2]
  grind
 |[],_::_,m,m',h,_,_,_|_::_,[],m,m',h,_,_,_=>by simp[L6]at h
theorem mq:∀(os:List (Nat×OP X.ι))(m m':MG X),Cg get os m=some m'->fx m m'/\∃al,m'.er=m.er++al/\al.length=(cX os).length
 |[],m,m',h=>by simp[Cg]at h;subst h;exact⟨fx.refl _,[],by simp,rfl⟩
 |(k,op)::r,m,m',h=>by simp[Cg]at h;rw[ah]at h;obtain⟨o,h1,h⟩:=h;split at h;rename_i c c' l;rw[ah]at h;obtain⟨l',h2,h⟩:=h;obtain⟨a2,n2,b2,c2⟩:=mq r _ m' h;refine⟨fx.trans (b:=⟨m.nm++[(qu m k,k)],m.er++[⟨.sl c,l'⟩],m.iS,m.vr⟩) ⟨λ _ h=>by simp[h],λ_ h=>h,λ_ h=>h⟩ a2,[⟨.sl c,l'⟩]++n2,?_,by simp[cX,c2]⟩;rw[b2,aT];rename_i kc vc uc tU l;split at h;rw[ah]at h;obtain⟨l',h2,h⟩:=h;obtain⟨a2,n2,b2,c2⟩:=mq r _ m' h;refine⟨fx.trans (b:=⟨m.nm++[(qu m k,k)],m.er++[⟨.mp kc vc,l'⟩],m.iS,m.vr⟩) ⟨λ _ h=>by simp[h],λ_ h=>h,λ_ h=>h⟩ a2,[⟨.mp kc vc,l'⟩]++n2,?_,by simp[cX,c2]⟩;rw[b2,aT];cases h;rename_i sz rows sz' rows';split at h;rw[ah]at h;obtain⟨m1,h2,h⟩:=h;obtain⟨a1,n1,b1,c1⟩:=yA rows _ _ m1 h2;have⟨a2,n2,b2,c2⟩:=mq r m1 m' h;refine⟨fx.trans (fx.trans (b:=⟨m.nm++[(qu m k,k)],m.er,m.iS,m.vr⟩) ⟨λ _ h=>by simp[h],λ_ h=>h,λ_ h=>h⟩ a1) a2,n1++n2,?_,by simp[cX,c1,c2]⟩;rw[b2,b1,aT];cases h;cases h
theorem DW:∀(os:List (Nat×OP X.ι))(m m':MG X),Cg get os m=some m'->(∀ q∈m'.nm,q∈NM)->∃al,m'.er=m.er++al/\∀ae,∀k∈os.map (·.1),∃k' o,(k',k)∈NM/\get k'=some o/\∀c l,o=.eb c l->(k,List.length l)∈lens os (al++ae)
 |[],m,m',h,_=>by
  simp_all [Cg]
 |(k,op)::r,m,m',h,hn=>by
  simp[Cg]at h;rw[ah]at h;obtain⟨o,h1,h⟩:=h;split at h;rename_i c c' l;rw[ah]at h;obtain⟨l',h2,h⟩:=h;have hm:=(mq r _ m' h).1;obtain⟨n2,b2,c2⟩:=DW r _ m' h hn;refine⟨[⟨.sl c,l'⟩]++n2,by grind,λae j hj=>?_⟩;simp only[bH,aR]at hj;by_cases hjk:j=k;subst hjk;refine⟨_,_,hn _ (hm.1 _ (by simp)),h1,λc2 l2 he=>?_⟩;injection he with e1 e2;subst e1;subst e2;have:=congrArg List.length (jr h2).2;simp at this;rw[this];exact List.mem_cons_self;rcases hj with rfl|hj;exact(hjk rfl).elim;have⟨k',o',g1,g2,g3⟩:=c2 ae j hj;exact⟨k',o',g1,g2,λc l he=>eX _ (g3 c l he)⟩;rename_i kc vc uc tU l;split at h;rw[ah]at h;obtain⟨l',h2,h⟩:=h;have hm:=(mq r _ m' h).1;obtain⟨n2,b2,c2⟩:=DW r _ m' h hn;refine⟨[⟨.mp kc vc,l'⟩]++n2,by rw[b2,aT],λae j hj=>?_⟩;simp only[bH,aR]at hj;by_cases hjk:j=k;subst hjk;exact⟨_,_,hn _ (hm.1 _ (by simp)),h1,λc2 l2 he=>by cases he⟩;rcases hj with rfl|hj;exact(hjk rfl).elim;exact c2 ae j hj;cases h;rename_i sz rows sz' rows';split at h;have⟨m1,h2,h⟩:=ah.1 h;obtain⟨a1,n1,b1,c1⟩:=yA rows _ _ m1 h2;have hm:=(mq r _ m' h).1;obtain⟨n2,b2,c2⟩:=DW r _ m' h hn;refine⟨n1++n2,by rw[b2,b1,aT],λae j hj=>?_⟩;simp only[bH,aR]at hj;have hd:(n1++n2++ae).drop (vN rows).length=n2++ae:=by rw[<- c1,aT,List.drop_left]
  simp only[lens,hd];by_cases hjk:j=k;subst hjk;exact⟨_,_,hn _ (hm.1 _ (a1.1 _ (by simp))),h1,λc2 l2 he=>by cases he⟩;rcases hj with rfl|hj;exact(hjk rfl).elim;exact c2 ae j hj;cases h;cases h
theorem KF:∀(os:List (Nat×OP X.ι))(L:List (DC X)),((lens os L).map (·.1)).Sublist (os.map (·.1))
 |[],_=>by simp[lens]
 |(k,.l c)::r,L=>by
  simp[lens];split;exact(KF r _).cons_cons _
  grind
 |(k,.m kc vc)::r,L|(k,.c sz rows)::r,L=>(KF r _).cons _
def ais(get':Nat->Option aM)(NM:List (Nat×Nat))(pZ:List Nat)(bs:List OB)(ks:List Nat):Prop:=
 ∀(j:Nat) hs q o,bs[j]? =some (.GP hs)->ks[j]? =some q->get' q=some o->∀k∈OC o,(∃ z,(k,z)∈NM)\/k∈pZ
theorem L9{sz:Nat}{rows:List (List (DV X))}{k:Nat}(h:k∈OC (bI (.cells sz rows))):k∈(rows.map aL).flatten:=by
 grind [OC,bI,iY]
theorem aaI:∀ts:List Tree,eT (ts.map AV.t)=[]
 |[]=>rfl
 |t::ts=>by simp[eT,refs,aaI ts]
theorem ahf{P:Program}{get:Nat->Option aM}:∀(ts:List Tree)(hs:List LH),mK P get (ts.map AV.t) hs=some (ts.map AV.t,hs,[])
 |[],hs=>rfl
 |t::ts,hs=>by simp[mK,oW,ahf ts hs]
theorem ait{P:Program}{get:Nat->Option aM}{ab:List Nat}(v:TV):qo P get ab v.av []=some (v.av,[],[]):=by rcases v with x|cs;rfl;have h:refs (.agg (cs.map AV.t))=[]:=aaI cs;simp[TV.av,qo,h,oW,ahf]
theorem Ze{P:Program}{get:Nat->Option aM}{ab:List Nat}:∀rows:List (TV×TV),Dw P get ab (rows.map λq=>[q.1.av,q.2.av]) (rows.map λ_=>[])=some (rows.map λq=>[q.1.av,q.2.av],[])
 |[]=>rfl
 |q::rows=>by simp[Dw,mh,ait,Ze rows]
theorem zU(hi:∀q∈NM,ab[q.2]? =some q.1)(hv:∀k∈pZ,k∉ab)(hrd:∀k,(∃ q,(k,q)∈NM)\/k∈pZ->k∈rd)(ho:∀q∈NM,∀c l,get q.1=some (.eb c l)->dp q.2=l.length):
 ∀(os:List (Nat×OP X.ι))(m m':MG X),Cg get os m=some m'->(∀ q∈m'.nm,q∈NM)->(∀ c∈m'.iS,c=true)->(∀ k∈m'.vr,k∈pZ)->
 ∃al,m'.er=m.er++al/\∃xs:List (Nat×bp X),(∀ ae,bV dp os (al++ae)=xs.map λp=>(p.1,some p.2))/\
  ∃bs mo,(∀ p∈mo,p)/\J9 P (dJ rd (fK get)) ab (os.map λp=>(ab[p.1]?).getD 0) bs=some (xs.map λp=>bI p.2,mo)/\ais (dJ rd (fK get)) NM pZ bs (os.map λp=>(ab[p.1]?).getD 0)
 |[],m,m',h,_,_,_=>by simp[Cg]at h;subst h;exact⟨[],by simp,[],λae=>rfl,[],[],by simp,rfl,λj hs q o h=>by simp at h⟩
 |(k,op)::r,m,m',h,hn,hc,hr=>by
  simp[Cg]at h;rw[ah]at h;obtain⟨o,h1,h⟩:=h;split at h;rename_i c c' l;have⟨l',h2,h⟩:=ah.1 h;have hm:=(mq r _ m' h).1;have hq:(qu m k,k)∈NM:=hn _ (hm.1 _ (by simp));have hid:(ab[k]?).getD 0=qu m k:=by grind
  have hget:=fu (hrd (qu m k) (.inl ⟨k,hq⟩)) h1;have⟨h3,h4⟩:=jr h2;obtain⟨n2,a2,xs,b2,bs,mo,p2,q2,r2⟩:=zU hi hv hrd ho r _ m' h hn hc hr;refine⟨[⟨.sl c,l'⟩]++n2,by rw[a2,aT],(k,.eb c l')::xs,λae=>by simp[bV,b2],.dat (CT.sz X c,l'.map (CT.row X.toSE c))::bs,((bI (.eb c' l)).sz=CT.sz X c/\dS ((bI (.eb c' l)).rows.take (l'.map (CT.row X.toSE c)).length)=aI (l'.map (CT.row X.toSE c)))::mo,?_,?_,?_⟩;intro p hp;rcases aR.1 hp with rfl|hp;refine⟨h3,?_⟩;simp[bI,h4];rw[take_of_length_le (by simp[aI])];simp[dS,aI,wk];exact p2 p hp;simp[bH,J9,Us,hid,hget,ai,q2,cons_append,fJ];rfl;intro j hs q o' hj hq' ho';cases j with
  |zero=>simp at hj
  |succ j=>exact r2 j hs q o' (by simpa using hj) (by simpa using hq') ho'
  rename_i kc vc uc tU l;split at h;rename_i hone;have⟨l',h2,h⟩:=ah.1 h;have hm:=(mq r _ m' h).1;have hq:(qu m k,k)∈NM:=hn _ (hm.1 _ (by simp));have hid:(ab[k]?).getD 0=qu m k:=by rw[hi _ hq];rfl
  have hget:=fu (hrd (qu m k) (.inl ⟨k,hq⟩)) h1;have hden:bI (.map uc tU l)=bI (.map kc vc l'):=by have⟨e,h2⟩:=rE h2;injection e with e1 e2;subst e1;subst e2;subst h2;rfl
  obtain⟨n2,a2,xs,b2,bs,mo,p2,q2,r2⟩:=zU hi hv hrd ho r _ m' h hn hc hr;rcases hone with hone|_;have hab:bI (.map kc vc l')=gz (List.length l',l'.map λq=>CT.row X.toSE kc q.1++CT.row X.toSE vc q.2):=by simp only[bI,gz,aI,map_map];congr 1;refine map_congr_left λq _=>?_;obtain⟨t1,g1,g2⟩:=row_one hone.1 q.1;obtain⟨t2,g3,g4⟩:=row_one hone.2 q.2;simp[g1,g2,g3,g4,TV.av]
  refine⟨[⟨.mp kc vc,l'⟩]++n2,by rw[a2,aT],(k,.map kc vc l')::xs,λae=>by simp[cons_append,fJ,bV,b2,bH],.dat (List.length l',l'.map λq=>CT.row X.toSE kc q.1++CT.row X.toSE vc q.2)::bs,((bI (.map uc tU l)).sz=List.length l'/\dS ((bI (.map uc tU l)).rows.take (l'.map λq=>CT.row X.toSE kc q.1++CT.row X.toSE vc q.2).length)=aI (l'.map λq=>CT.row X.toSE kc q.1++CT.row X.toSE vc q.2))::mo,?_,?_,?_⟩;intro p hp;rcases aR.1 hp with rfl|hp;rw[hden,hab];refine⟨rfl,?_⟩;simp[gz];rw[take_of_length_le (by simp[aI])];simp[dS,aI,Function.comp_def,wk];exact p2 p hp;simp[bH,J9,Us,hid,hget,ai,q2,cons_append,fJ,hab];intro j hs q o' hj hq' ho';cases j with
  |zero=>simp at hj
  |succ j=>exact r2 j hs q o' (by simpa using hj) (by simpa using hq') ho'
  refine⟨[⟨.mp kc vc,l'⟩]++n2,by rw[a2,aT],(k,.map kc vc l')::xs,λae=>by simp[cons_append,fJ,bV,b2,bH],.GP ((l'.map λq=>(CT.tv X.toSE kc q.1,CT.tv X.toSE vc q.2)).map λ_=>[])::bs,mo,p2,?_,?_⟩;have hlr:=Ze (P:=P) (get:=dJ rd (fK get)) (ab:=ab) (l'.map λq=>(CT.tv X.toSE kc q.1,CT.tv X.toSE vc q.2));have hdr:(bI (.map kc vc l')).rows=(l'.map λq=>(CT.tv X.toSE kc q.1,CT.tv X.toSE vc q.2)).map λq=>[q.1.av,q.2.av]:=by simp only[bI,map_map];rfl
  simp only[bH,J9,Us,hid,hget,ai,q2,hden,hdr,hlr,fJ];rw[<- hdr];intro j hs q o' hj hq' ho';cases j with
  |zero=>
   simp[bH,List.getElem?_cons_zero,bM]at hq';subst hq';rw[hid,hget]at ho';injection ho' with ho';subst ho';intro k hk;rw[hden]at hk;simp only[OC,bI,mem_flatMap,mem_map]at hk;obtain⟨_,⟨q,_,rfl⟩,hk⟩:=hk;simp[eT,zR,append_nil,ny]at hk
  |succ j=>exact r2 j hs q o' (by simpa using hj) (by simpa using hq') ho'
  cases h;rename_i sz rows sz' rows';split at h;rename_i hsz;have⟨m1,h2,h⟩:=ah.1 h;have hm1:=(yA rows _ _ m1 h2).1;have hm:=(mq r _ m' h).1;have hq:(qu m k,k)∈NM:=hn _ (hm.1 _ (hm1.1 _ (by simp)));have hid:(ab[k]?).getD 0=qu m k:=by rw[hi _ hq];rfl
  have hget:=fu (hrd (qu m k) (.inl ⟨k,hq⟩)) h1;obtain⟨n1,a1,qs,b1,⟨hs1,o1,p1,q1⟩,r1⟩:=QU (P:=P) hi hv hrd ho rows _ _ m1 h2 (λ q hq=>hn q (hm.1 q hq)) (λ q hq=>hc q (hm.2.1 q hq)) (λ q hq=>hr q (hm.2.2 q hq));obtain⟨n2,a2,xs,b2,bs,mo,p2,q2,r2⟩:=zU hi hv hrd ho r _ m' h hn hc hr;subst hsz;refine⟨n1++n2,by rw[a2,a1,aT],(k,.cells sz qs)::xs,λae=>by simp[aT,bV,b1,b2,bH],.GP hs1::bs,o1++mo,ic p1 p2,?_,?_⟩;simp[bH,J9,Us,hid,hget,ai,bI,q1,q2];intro j hs q o' hj hq' ho';cases j with
  |zero=>
   simp[bH,List.getElem?_cons_zero,bM]at hq';rw[<- hq',hid,hget]at ho';injection ho' with ho';subst ho';exact λz hz=>r1 z (L9 hz)
  |succ j=>exact r2 j hs q o' (by simpa using hj) (by simpa using hq') ho'
  cases h;cases h
end
end
end Go.Gb
namespace Go.Gb
open Go.RowKit
section
variable {X:SX} {A:Type}
theorem afm:∀(l:List (CT X.ι))(v:VT (X:=X) l),(vO l v).map (·.c)=l
 |[],_|[_],_=>rfl
 |c::c'::l,v=>by simp[vO,afm (c'::l) v.2]
theorem OX:∀{l:List Tree},(∀ t∈l,t.flat)->pX (l.map AV.t)
 |[],_=>trivial
 |t::l,h=>⟨h t (by simp),OX (λ u hu=>h u (by grind))⟩
theorem aaJ{c:CT X.ι}(h:wU c=true)(x:CT.T X.toSE c):Dy (CT.tv X.toSE c x).av:=by
 have hf:=uP h x;cases c
 case st i=>exact OX hf
 all_goals trivial
section
variable {ol:Nat->Nat}
mutual
theorem alK:∀(p:Pt X.ι)(L:List (DC X))(cs:List (CT X.ι)),L.map (·.c)=p.vars++cs->p.vars.all wU=true->Dy (den (eP ol p L).1)/\(eP ol p L).2.map (·.c)=cs
 |.v c,L,cs,h,hs=>by
  match L,h with
  |d::r,h=>
   simp[Pt.vars]at h;simp[Pt.vars]at hs;exact⟨aaJ (h.1 ▸ hs) d.x,h.2⟩
  |[],h=>trivial
 |.o k,L,cs,h,_|.p k,L,cs,h,_|.mp k,L,cs,h,_|.oz k,L,cs,h,_|.nil,L,cs,h,_=>⟨trivial,by trivial⟩
 |.od k,L,cs,h,_=>by
  match L,h with
  |d::r,h=>
   simp[Pt.vars]at h;exact⟨trivial,h.2⟩
  |[],h=>simp[Pt.vars]at h
 |.f F fs ps,L,cs,h,hs=>by simp only[Pt.vars,List.all_append,bC]at hs;simp[Pt.vars]at h;obtain⟨a1,a2⟩:=Ci fs L _ h hs.1;obtain⟨b1,b2⟩:=Ci ps _ _ a2 hs.2;exact⟨⟨a1,b1⟩,b2⟩
 |.a ps,L,cs,h,hs=>by simp only[Pt.vars]at h hs;exact Ci ps L cs h hs
theorem Ci:∀(ps:List (Pt X.ι))(L:List (DC X))(cs:List (CT X.ι)),L.map (·.c)=cI ps++cs->(cI ps).all wU=true->pX (bG (k7 ol ps L).1)/\(k7 ol ps L).2.map (·.c)=cs
 |[],L,cs,h,_=>⟨trivial,by simpa[cI,k7]using h⟩
 |p::ps,L,cs,h,hs=>by simp only[cI,List.all_append,bC]at hs;simp[cI]at h;obtain⟨a1,a2⟩:=alK p L _ h hs.1;obtain⟨b1,b2⟩:=Ci ps _ _ a2 hs.2;exact⟨⟨a1,b1⟩,b2⟩
end
mutual
theorem alL:∀(p:Pt X.ι)(L:List (DC X)),∀j∈bo (eP ol p L).1,j∈p.refs
 |.v c,L,j,h=>by cases L<;>simp[eP,bo]at h
 |.o k,L,j,h|.p k,L,j,h|.mp k,L,j,h|.oz k,L,j,h=>by simpa[eP,bo,Pt.refs]using h
 |.nil,L,j,h=>by simp[eP,bo]at h
 |.od k,L,j,h=>by cases L<;>simp[eP,bo]at h<;>simp[Pt.refs,h]
 |.f F fs ps,L,j,h=>by simp[eP,bo]at h;simp[Pt.refs];exact h.imp (vS fs _ j) (vS ps _ j)
 |.a ps,L,j,h=>by simp[eP]at h;simp[Pt.refs];exact vS ps _ j h
theorem vS:∀(ps:List (Pt X.ι))(L:List (DC X)),∀j∈aL (k7 ol ps L).1,j∈wF ps
 |[],L,j,h=>by simp[k7,aL]at h
 |p::ps,L,j,h=>by simp[k7,aL]at h;simp[wF];exact h.imp (alL p _ j) (vS ps _ j)
end
theorem KG:∀(rs:List (List (Pt X.ι)))(L:List (DC X))(cs:List (CT X.ι)),L.map (·.c)=vN rs++cs->(vP ol rs L).2.map (·.c)=cs/\((vN rs).all wU=true->∀r∈(vP ol rs L).1,pX (bG r))
 |[],L,cs,h=>⟨by simpa[vN,vP]using h,by simp[vP]⟩
 |r::rs,L,cs,h=>by simp[vN]at h;have step:(k7 ol r L).2.map (·.c)=vN rs++cs:=uk r L _ h;obtain⟨b1,b2⟩:=KG rs _ _ step;refine⟨b1,λhs q hq=>?_⟩;simp only[vN,List.all_append,bC]at hs;simp[vP]at hq;rcases hq with rfl|hq;exact(Ci r L _ h hs.1).1;exact b2 hs.2 q hq
where
 uk (ps:List (Pt X.ι)) (L:List (DC X)) (cs:List (CT X.ι)) (h:L.map (·.c)=cI ps++cs):(k7 ol ps L).2.map (·.c)=cs:=pn ps L cs h
 D3:∀(p:Pt X.ι)(L:List (DC X))(cs:List (CT X.ι)),L.map (·.c)=p.vars++cs->(eP ol p L).2.map (·.c)=cs
  |.v c,L,cs,h=>by
   match L,h with
   |d::r,h=>simp[Pt.vars]at h;exact h.2
   |[],h=>simp[Pt.vars]at h
  |.o k,L,cs,h|.p k,L,cs,h|.mp k,L,cs,h|.oz k,L,cs,h|.nil,L,cs,h=>by simpa[Pt.vars,eP]using h
  |.od k,L,cs,h=>by
   match L,h with
   |d::r,h=>simp[Pt.vars]at h;exact h.2
   |[],h=>simp[Pt.vars]at h
  |.f F fs ps,L,cs,h=>by simp[Pt.vars]at h;exact pn ps _ _ (pn fs L _ h)
  |.a ps,L,cs,h=>by simp[Pt.vars]at h;exact pn ps L cs h
 pn:∀(ps:List (Pt X.ι))(L:List (DC X))(cs:List (CT X.ι)),L.map (·.c)=cI ps++cs->(k7 ol ps L).2.map (·.c)=cs
  |[],L,cs,h=>by simpa[cI,k7]using h
  |p::ps,L,cs,h=>by simp[cI]at h;exact pn ps _ _ (D3 p L _ h)
theorem U8:∀(rs:List (List (Pt X.ι)))(L:List (DC X)),∀j∈((vP ol rs L).1.map aL).flatten,j∈rs.flatMap wF
 |[],L,j,h=>by simp[vP]at h
 |r::rs,L,j,h=>by simp only[vP,bH,List.flatten_cons,bK]at h;simp only[List.flatMap_cons,bK];exact h.imp (vS r _ j) (U8 rs _ j)
theorem yB:∀(O:List (Nat×OP X.ι))(L:List (DC X)),((dF (bV ol O L)).map (·.1)).Sublist (O.map (·.1))/\(∀ p∈dF (bV ol O L),∃op,(p.1,op)∈O/\∀j∈d7 p.2,j∈op.refs)/\
 (L.map (·.c)=cX O->(O.all λq=>match q.2 with|.l c=>wU c|.m _ _=>false|.c _ rows=>(vN rows).all wU)=true->∀p∈dF (bV ol O L),∀r∈(bI p.2).rows,pX r)
 |[],L=>⟨by simp[bV,dF],by simp[bV,dF],by simp[bV,dF]⟩
 |(k,.l c)::O,L=>by
  match L with
  |[]=>exact⟨by simp[bV,dF],by simp[bV,dF],by simp[bV,dF]⟩
  |⟨.sl c',x⟩::L=>
   have⟨h1,h2,h3⟩:=yB O L;refine⟨?_,?_,?_⟩;simp only[bV,dF,bH];exact h1.cons_cons _;intro p hp;simp[bV,dF]at hp;rcases hp with rfl|hp;exact⟨.l c,by simp,by simp[d7]⟩;have⟨op,g1,g2⟩:=h2 p hp;exact⟨op,eX _ g1,g2⟩;intro hL hs p hp r hr;simp only[bH,cX,List.cons.injEq]at hL;simp only[all_cons,bC]at hs;simp[bV,dF]at hp;rcases hp with rfl|hp;obtain⟨e,_⟩:=hL;injection e with e;simp only[bI,aI,mem_map]at hr;obtain⟨q,⟨y,hy,rfl⟩,rfl⟩:=hr;exact OX (uP (e ▸ hs.1) y);exact h3 hL.2 hs.2 p hp r hr
  |⟨.int _,x⟩::L=>exact⟨by simp[bV,dF],by simp[bV,dF],by simp[bV,dF]⟩
  |⟨.bool,x⟩::L=>exact⟨by simp[bV,dF],by simp[bV,dF],by simp[bV,dF]⟩
  |⟨.str,x⟩::L=>exact⟨by simp[bV,dF],by simp[bV,dF],by simp[bV,dF]⟩
  |⟨.any,x⟩::L=>exact⟨by simp[bV,dF],by simp[bV,dF],by simp[bV,dF]⟩
  |⟨.mp _ _,x⟩::L=>exact⟨by simp[bV,dF],by simp[bV,dF],by simp[bV,dF]⟩
  |⟨.st _,x⟩::L=>exact⟨by simp[bV,dF],by simp[bV,dF],by simp[bV,dF]⟩
 |(k,.m kc vc)::O,L=>by
  match L with
  |[]=>exact⟨by simp[bV,dF],by simp[bV,dF],by simp[bV,dF]⟩
  |⟨.mp uc tU,x⟩::L=>
   have⟨h1,h2,h3⟩:=yB O L;refine⟨?_,?_,?_⟩;simp only[bV,dF,bH];exact h1.cons_cons _;intro p hp;simp[bV,dF,aR]at hp;rcases hp with rfl|hp;exact⟨.m kc vc,by simp,by simp[d7]⟩;have⟨op,g1,g2⟩:=h2 p hp;exact⟨op,eX _ g1,g2⟩;intro hL hs;simp at hs
  |⟨.sl _,x⟩::L=>exact⟨by simp[bV,dF],by simp[bV,dF],by simp[bV,dF]⟩
  |⟨.int _,x⟩::L=>exact⟨by simp[bV,dF],by simp[bV,dF],by simp[bV,dF]⟩
  |⟨.bool,x⟩::L=>exact⟨by simp[bV,dF],by simp[bV,dF],by simp[bV,dF]⟩
  |⟨.str,x⟩::L=>exact⟨by simp[bV,dF],by simp[bV,dF],by simp[bV,dF]⟩
  |⟨.any,x⟩::L=>exact⟨by simp[bV,dF],by simp[bV,dF],by simp[bV,dF]⟩
  |⟨.st _,x⟩::L=>exact⟨by simp[bV,dF],by simp[bV,dF],by simp[bV,dF]⟩
 |(k,.c sz rows)::O,L=>by have⟨h1,h2,h3⟩:=yB O (vP ol rows L).2;refine⟨?_,?_,?_⟩;simp only[bV,dF,bH];exact h1.cons_cons _;intro p hp;simp[bV,dF,aR]at hp;rcases hp with rfl|hp;exact⟨.c sz rows,by simp,λj hj=>U8 rows L j hj⟩;have⟨op,g1,g2⟩:=h2 p hp;exact⟨op,eX _ g1,g2⟩;intro hL hs p hp r hr;simp[cX]at hL;simp only[all_cons,bC]at hs;obtain⟨e1,e2⟩:=KG (ol:=ol) rows L _ hL;simp[bV,dF,aR]at hp;rcases hp with rfl|hp;simp[bI,mem_map]at hr;obtain⟨q,hq,rfl⟩:=hr;exact e2 hs.1 q hq;exact h3 e1 hs.2 p hp r hr
end
theorem OY(k:Nat):∀os:List (Nat×bp X),pC (oL os) k=(tE os k).map bI
 |[]=>rfl
 |(j,o)::r=>by simp[oL,pC,tE];split;rfl;exact OY k r
theorem U9(f:Nat->Nat)(c:CT X.ι)(x:CT.T X.toSE c):jt f (CT.tv X.toSE c x).av=(CT.tv X.toSE c x).av:=(zT f (.c c x)).symm
theorem acL(f:Nat->Nat)(o:bp X):bI (pN f o)=JA f (bI o):=by
 cases o with
 |cells sz rows=>simp only[pN,bI,JA,map_map];congr 1;exact map_congr_left λr _=>GV f r
 |eb c l=>simp only[pN,bI,JA,aI,map_map];congr 1;exact map_congr_left λr _=>(afk f _).symm
 |map kc vc l=>simp only[pN,bI,JA,map_map];congr 1;exact map_congr_left λr _=>by simp[BZ,U9]
theorem aiu(i:Nat)(ab:List Nat)(os:List (Nat×bp X)):jh (RK i ab os)=AH i ab (oL os):=by simp[RK,rP];congr 1;simp only[jh,map_map];refine map_congr_left λp _=>?_;simp[OY];cases tE os p.2<;>simp[acL];simp[jh,oL,List.filter_map];refine map_congr_left λq _=>?_;simp[acL]
theorem Va{ds:List (DV X)}:(∀ j∈refs (den (yu ds)),j∈aL ds)/\(pX (bG ds)->Dy (den (yu ds))):=by
 match ds with
 |[]=>exact⟨λ j hj=>by simp[yu,den,bG,refs,eT]at hj,λ_=>by simp[yu];exact trivial⟩
 |[d]=>exact⟨λ j hj=>by simp[yu,iH]at hj;simpa[aL]using hj,λh=>h.1⟩
 |d::e::r=>exact⟨λ j hj=>by simp[yu,den,refs,iY]at hj;exact hj,λh=>h⟩
theorem Zf:∀xs:List (Nat×bp X),dF (xs.map λp=>(p.1,some p.2))=xs
 |[]=>rfl
 |p::xs=>by simp[dF,Zf xs]
theorem aaK{P:Program}{g:cM X}{F:FuncId}(hg:G2 P F g){i:Nat}{first args caps:List (DV X)}{get:Nat->Option (bp X)}{k:KK X A}{r:A}(h:afl g i (first++args++caps) get k=some r):
 ∃cm rd wr dv upd out,lJ P i (den (.fn F first caps)) (bG args) cm (dJ rd (fK get))=some out/\kJ out.obs/\out.v=den dv/\out.upd=jh upd/\(∀ p∈upd,p.1=cC i\/p.1∈wr)/\k dv upd rd wr=some r:=by
 unfold afl at h;rw[ah]at h;obtain⟨m1,h1,h⟩:=h;rw[ah]at h;obtain⟨m,h2,h⟩:=h;have⟨h3,h⟩:=dQ h;rw[ah]at h;obtain⟨v,h4,h⟩:=h;have⟨h5,h⟩:=pY h;rw[ah]at h;obtain⟨rr,h6,h⟩:=h;simp at h3;obtain⟨hok,B9⟩:=h3;simp only at h;generalize kf:(List.range g.il.length).map (qu m)=ab at h B9;simp only[cM.ok,bC,bF]at hok;obtain⟨⟨⟨⟨n1,n2⟩,n3⟩,n4⟩,n5⟩:=hok;simp only[okG,bC,bF]at B9;obtain⟨⟨hnd,hnm⟩,B6⟩:=B9;have hlen:ab.length=g.il.length:=by rw[<- kf];simp
 have hi:∀q∈m.nm,ab[q.2]? =some q.1:=by intro q hq;have:=all_eq_true.1 hnm q hq;split at this;rename_i k' e;rw[e,Nat.eq_of_beq_eq_true this];cases this
 have hv:∀k∈m.vr,k∉ab:=λk hk=>by have:=all_eq_true.1 B6 k hk;simpa using this
 have hrd:∀k,(∃ q,(k,q)∈m.nm)\/k∈m.vr->k∈ab++m.vr:=by rintro k (⟨q,hq⟩|hk);exact mem_append_left _ (bX (hi _ hq));exact mem_append_right _ hk
 have hm2:=(mq _ _ _ h2).1;have vA:=UZ h4;obtain⟨_,nA,dA,lA⟩:=vR _ _ _ _ h1;simp at dA;obtain⟨nB,dB,lB⟩:=DW (NM:=m.nm) _ _ _ h2 (λ q hq=>hq);have hL:m.er=nA++nB:=by rw[dB,dA]
 have hdrop:(vO _ v).drop (cI g.mj).length=nB:=by rw[vA,hL,<- lA,List.drop_left]
 have htake:(vO _ v).take (cI g.mj).length=nA:=by rw[vA,hL,<- lA,List.take_left]
 have ho:∀q∈m.nm,∀c l,get q.1=some (.eb c l)->DR g.il nB q.2=l.length:=by
  rintro⟨p,q⟩ hq c l hl;have hq2:=hi _ hq;have hqn:q<g.il.length:=by rw[<- hlen];exact(cZ.1 hq2).1
  obtain⟨p',o,g1,g2,g3⟩:=lB [] q (by rw[n1];exact List.mem_range.2 hqn);have:p'=p:=by have e1:=hi _ g1;rw[hq2]at e1;injection e1 with e1;exact e1.symm
  subst this;simp at hl;rw[hl]at g2;injection g2 with g2;have h3:=g3 c l g2.symm;rw[append_nil]at h3;have hk:=(KF g.il nB).nodup (by rw[n1];exact List.nodup_range);simp[DR,uN hk h3]
 obtain⟨UP,L5,ds',eA,⟨hs,obs,pA,qA⟩,rA⟩:=xS (P:=P) (ab:=ab) (rd:=ab++m.vr) (NM:=m.nm) (pZ:=m.vr) (dp:=DR g.il nB) hi hv hrd ho _ _ _ _ h1 (λ q hq=>hm2.1 q hq) (λ c hc=>h5 c (hm2.2.1 c hc)) (λ q hq=>hm2.2.2 q hq);obtain⟨nB',dB',xs,eB,bs,mo,pB,qB,rB⟩:=zU (P:=P) (ab:=ab) (rd:=ab++m.vr) (NM:=m.nm) (pZ:=m.vr) (dp:=DR g.il nB) hi hv hrd ho _ _ _ h2 (λ q hq=>hq) h5 (λ q hq=>hq);have eqA:UP=nA:=by simp at L5;rw[<- L5,dA]
 have eqB:nB'=nB:=List.append_cancel_left (dB'.symm.trans dB);subst eqA eqB;have L3:=eA [];have LS:=eB [];rw[append_nil]at L3 LS;have hargs:g.args v=ds':=by simp[cM.args,U1,hdrop,htake,L3]
 have qe:g.cw v=xs:=by simp[cM.cw,Y8,hdrop,LS,Zf]
 have ZZ:(g.il.map λp=>(ab[p.1]?).getD 0)=ab:=by
  have:(g.il.map λp=>(ab[p.1]?).getD 0)=(g.il.map (·.1)).map λj=>(ab[j]?).getD 0:=by rw[map_map];rfl
  rw[this,n1];refine List.ext_getElem (by simp[hlen]) λj a b=>?_;simp[dD b]
 rw[ZZ]at qB rB;have qA0:=qA [];rw[append_nil,ji,ji]at qA0;have hcon:=hg v rr h6;rw[hargs,qe]at hcon;obtain⟨s1,s2,s3⟩:=yB (ol:=DR g.iz ((vO (gO (lr 0 g.fm)++cX g.iz) rr).drop (cI g.fm).length)) g.iz ((vO _ rr).drop (cI g.fm).length);have Bs:∀k,HP g.il.length k=true->Fm ab.length k:=by intro k hk;simp[HP]at hk;simp[hlen];exact hk
 have good:YV ab.length (oL (g.outs rr)) (den (g.res rr)):=by
  refine⟨?_,?_,?_,?_⟩;intro q hq;simp only[oL,mem_map]at hq;obtain⟨p,hp,rfl⟩:=hq;have⟨op,g1,_⟩:=s2 p hp;have:=all_eq_true.1 n3 _ g1;simp at this;exact Bs _ this.1;have:(oL (g.outs rr)).map (·.1)=(g.outs rr).map (·.1):=by simp[oL]
  rw[this];exact s1.nodup n4;intro q hq r' hr' j hj;simp only[oL,mem_map]at hq;obtain⟨p,hp,rfl⟩:=hq;have⟨op,g1,g2⟩:=s2 p hp;have:=all_eq_true.1 n3 _ g1;simp only[bC]at this;refine Bs _ (all_eq_true.1 this.2 j (g2 j ?_));obtain⟨pk,po⟩:=p;cases po with
  |cells sz rows=>exact L9 (mem_flatMap.2 ⟨r',hr',hj⟩)
  |eb c l=>
   simp[bI,aI,mem_map]at hr';obtain⟨z,_,rfl⟩:=hr';rw[aaI]at hj;simp at hj
  |map kc vc l=>
   simp only[bI,mem_map]at hr';obtain⟨z,_,rfl⟩:=hr';simp only[eT,zR,append_nil]at hj;simp at hj
  intro j hj;have:=(Va (ds:=U1 g.fm g.iz (vO _ rr))).1 j hj;exact Bs _ (all_eq_true.1 n5 j (vS g.fm _ j this))
 have flat:g.flat=true->nt (oL (g.outs rr)) (den (g.res rr)):=by intro hf;simp only[cM.flat,bC]at hf;have hc:(vO (gO (lr 0 g.fm)++cX g.iz) rr).map (·.c)=cI g.fm++cX g.iz:=(afm _ rr).trans (by rw[OT]);refine⟨(Va (ds:=U1 g.fm g.iz (vO _ rr))).2 ?_,?_⟩;refine(Ci (ol:=_) g.fm _ [] ?_ hf.1).1;rw[append_nil,map_take,hc,List.take_left];intro q hq r' hr';simp only[oL,mem_map]at hq;obtain⟨p,hp,rfl⟩:=hq;exact s3 (by rw[map_drop,hc,List.drop_left]) hf.2 p hp r' hr'
 have cL:Ut (dJ (ab++m.vr) (fK get)) (bG first++bG args++bG caps) ab m.vr bs:=by refine⟨hv,λj hj hn=>?_,λj hs' q o e1 e2 e3 z hz hn=>?_⟩;rw[<- ji,<- ji,iY]at hj;rcases rA j hj with ⟨q,hq⟩|hj;exact absurd (bX (hi _ hq)) hn;exact hj;rcases rB j hs' q o e1 e2 e3 z hz with ⟨q',hq⟩|hz;exact absurd (bX (hi _ hq)) hn;exact hz
 refine⟨.tM ab m.vr bs hs (oL (g.outs rr)) (den (g.res rr)) g.flat,ab++m.vr,_,_,_,
  ⟨jt (cn i ab) (den (g.res rr)),AH i ab (oL (g.outs rr))++(if g.flat then []else m.vr.map λk=>(k,none)),obs++mo++[F1 P F (bG ds') (xs.map λp=>bI p.2) (oL (g.outs rr)) (den (g.res rr)),YV ab.length (oL (g.outs rr)) (den (g.res rr)),Ut (dJ (ab++m.vr) (fK get)) (bG first++bG args++bG caps) ab m.vr bs]++(if g.flat then [nt (oL (g.outs rr)) (den (g.res rr))]else [])⟩,?_,?_,(zT _ _).symm,?_,?_,h⟩
 simp only[den,lJ,LB,qB,qA0,ai];rw[aX ⟨hnd,by omega⟩];refine qR _ (ic (ic (ic pA pB) ?_) ?_);intro z hz;simp only[aR,ny,or_false]at hz;rcases hz with rfl|rfl|rfl;exact hcon;exact good;exact cL;intro z hz;cases hf:g.flat with
 |true=>rw[hf]at hz;simp only[if_true,bn]at hz;subst hz;exact flat hf
 |false=>rw[hf]at hz;simp at hz
 simp[rP,aiu];congr 1;cases g.flat with
 |true=>rfl
 |false=>exact(Ce m.vr).symm
 intro p hp;refine .inr ?_;rcases bK.1 hp with hp|hp;exact mem_append_left _ (mem_append_right _ (mem_map.2 ⟨p,hp,rfl⟩));cases hf:g.flat with
 |true=>rw[hf]at hp;simp at hp
 |false=>
  rw[hf]at hp;simp[Bool.false_eq_true,if_false,mem_map]at hp;obtain⟨z,hz,rfl⟩:=hp;exact mem_append_right _ hz
end
section
variable {X:SX} {A:Type}
def Vb:RT X.ι->Bool
 |.d c=>wU c
 |.fresh e=>wU e
 |.whole _=>true
 |.mu c=>wU c
 |.mr c=>wU c
 |.mv=>true
theorem acM{c:CT X.ι}(h:wU c=true)(x:CT.T X.toSE c):(CT.tv X.toSE c x).flat:=by
 cases c
 case st i=>exact uP h x
 all_goals trivial
theorem Vd{ns:List Nat}{q:RT X.ι}{x:RT.T X q}(h:Vb q=true):∀c∈U2 ns q x,c.flat:=by
 intro c hc;cases q<;>simp[U2]at hc
 case d c=>subst hc;exact acM h x
 case fresh e=>
  subst hc;intro row hr;obtain⟨y,_,rfl⟩:=mem_map.1 hr;exact uP h y
 case whole j=>subst hc;trivial
theorem QV{ns:List Nat}:∀{l:List (RT X.ι)}{x:sD X l},l.all Vb=true->∀c∈DT ns l x,c.flat
 |[],x,_,c,hc=>by trivial
 |[q],x,h,c,hc=>Vd (by grind) c hc
 |q::q'::l,x,h,c,hc=>by simp at h;simp[DT]at hc;rcases hc with hc|hc;exact Vd h.1 c hc;exact QV (by grind) c hc
theorem Ve{l:List (RT X.ι)}(x:sD X l)(h:l.all Vb=true):(sJ l x).flat:=by have:=QV (ns:=yl l x) (x:=x) h;unfold sJ;split;rename_i c hc;exact this c (by grind);trivial
theorem Zg{q:RT X.ι}{x:RT.T X q}(h:Vb q=true):Uk (qH q x):=by
 intro p hp;cases q<;>simp[qH]at hp
 case mu c=>
  subst hp;intro r hr;obtain⟨y,_,rfl⟩:=mem_map.1 hr;exact uP h y
 case mr c=>
  subst hp;intro r hr;obtain⟨y,_,rfl⟩:=mem_map.1 hr;exact uP h y
theorem Zh:∀{l:List (RT X.ι)}{x:sD X l},l.all Vb=true->Uk (o7 l x)
 |[],x,_=>λp hp=>by trivial
 |[q],x,h=>Zg (q:=q) (by grind)
 |q::q'::l,x,h=>by simp at h;intro p hp;rcases bK.1 (show some p∈qH q x.1++o7 (q'::l) x.2 from hp)with hp|hp;exact Zg h.1 p hp;exact Zh (l:=q'::l) (by grind) p hp
def GX(i:Nat)(ab ns:List Nat):(q:RT X.ι)->RT.T X q->List (DV X)×List (Nat×Option (bp X))
 |.d c,x=>([.c c x],[])
 |.fresh e,l=>([.own (cC i) 0 l.length],[(cC i,some (.eb e l))])
 |.whole j,_=>([match ab[j]? with|some k=>.own k 0 (ns.getD j 0)|none=>.undef],[])
 |_,_=>([],[])
def Kh(i:Nat)(ab ns:List Nat):(l:List (RT X.ι))->sD X l->Option (List (DV X)×List (Nat×Option (bp X)))
 |[],_=>some ([],[])
 |[q],x=>some (GX i ab ns q x)
 |q::q'::l,x=>(Kh i ab ns (q'::l) x.2).bind λp=>if (GX i ab ns q x.1).2.isEmpty || p.2.isEmpty then some ((GX i ab ns q x.1).1++p.1,(GX i ab ns q x.1).2++p.2)else none
def anO:List (DV X)->DV X
 |[d]=>d
 |ds=>.eR ds
def GW(i:Nat)(ab:List Nat)(l:List (RT X.ι))(x:sD X l):Option (DV X×List (Nat×Option (bp X))):=
 (Kh i ab (yl l x) l x).bind λp=>some (anO p.1,p.2)
theorem aaL(u:List (Nat×Option (bp X))):(jh u).isEmpty=u.isEmpty:=by cases u<;>rfl
theorem Zi(i:Nat)(ab ns:List Nat)(q:RT X.ι)(x:RT.T X q):(∃ c,U2 ns q x=[c]/\∃d,(GX i ab ns q x).1=[d]/\Jz i ab c=(den d,jh (GX i ab ns q x).2))\/(U2 ns q x=[]/\GX i ab ns q x=([],[])):=by
 cases q
 case d c=>exact .inl ⟨_,rfl,_,rfl,rfl⟩
 case fresh e=>exact .inl ⟨_,rfl,_,rfl,by simp[Jz,GX,den,jh,bI,aI]⟩
 case whole j=>
  refine .inl ⟨_,rfl,_,rfl,?_⟩;simp[Jz,jh,GX];cases ab[j]?<;>rfl
 all_goals exact .inr ⟨rfl,rfl⟩
theorem acN(i:Nat)(ab:List Nat)(c:RC):Ls i ab [c]=some ([(Jz i ab c).1],(Jz i ab c).2):=by simp[Ls]
theorem Zj(i:Nat)(ab ns:List Nat):∀(l:List (RT X.ι))(x:sD X l)(p:List (DV X)×List (Nat×Option (bp X))),Kh i ab ns l x=some p->Ls i ab (DT ns l x)=some (bG p.1,jh p.2)
 |[],_,p,h=>by simp[Kh]at h;subst h;rfl
 |[q],x,p,h=>by simp[Kh]at h;subst h;simp[DT];rcases Zi i ab ns q x with ⟨c,h1,d,h2,h3⟩|⟨h1,h2⟩;rw[h1,acN,h2,h3];simp[bG];rw[h1,h2];rfl
 |q::q'::l,x,p,h=>by simp only[Kh]at h;rw[ah]at h;obtain⟨p',h1,h⟩:=h;have ih:=Zj i ab ns (q'::l) x.2 p' h1;split at h;rename_i hc;cases h;simp[DT];rcases Zi i ab ns q x.1 with ⟨c,h1,d,h2,h3⟩|⟨h1,h2⟩;rw[h1];simp only[List.singleton_append,Ls,ih,ai,h3,aaL];rw[aX hc,h2];simp[bG,jh];rw[h1,h2];exact ih;cases h
theorem acO{i:Nat}{ab:List Nat}{l:List (RT X.ι)}{x:sD X l}{p:DV X×List (Nat×Option (bp X))}(h:GW i ab l x=some p):imp i ab (sJ l x)=some (den p.1,jh p.2):=by
 unfold GW at h;rw[ah]at h;obtain⟨p',h1,h⟩:=h;cases h;have ih:=Zj i ab _ l x p' h1;unfold sJ;split;rename_i c hc;rw[hc,acN]at ih;simp at ih;obtain⟨ds,u⟩:=p'
 match ds,ih with
 |[d],ih=>
  grind [bG,imp,anO,ih.1,ih.2]
 |[],ih|_::_::_,ih=>grind [bG]
 rename_i hne;simp[imp,ih];obtain⟨ds,u⟩:=p'
 match ds,ih with
 |[],_|_::_::_,_=>rfl
 |[d],ih=>
  exfalso;generalize hcs:DT (yl l x) l x=cs at ih hne
  match cs,ih,hne with
  |[],ih,_=>grind [Ls,bG]
  |[c],_,hne=>grind
  |c::c'::cs,ih,_=>
   simp[Ls]at ih;cases h3:Ls i ab cs with
   |none=>grind
   |some q=>
    rw[h3]at ih;simp at ih;split at ih;simp only[ai]at ih;split at ih;simp[bG]at ih;cases ih;simp at ih
def Q2:(q:RT X.ι)->RT.T X q->List (Option (bp X))
 |.mu c,x=>[some (.eb c x)]
 |.mr c,x=>[some (.cells (CT.sz X c) [uO c x])]
 |.mv,_=>[none]
 |_,_=>[]
def Vf:(l:List (RT X.ι))->sD X l->List (Option (bp X))
 |[],_=>[]
 |[q],x=>Q2 q x
 |q::q'::l,x=>Q2 q x.1++Vf (q'::l) x.2
def QW:List Nat->List (Option (bp X))->List (Nat×Option (bp X))
 |k::ab,p::os=>(k,p)::QW ab os
 |_,_=>[]
theorem acP(q:RT X.ι)(x:RT.T X q):(Q2 q x).map (·.map bI)=(qH q x).map (·.map gz):=by
 cases q<;>try rfl
 case mr c=>simp[Q2,qH,bI,gz,uq,aI,o6]
theorem OZ:∀(l:List (RT X.ι))(x:sD X l),(Vf l x).map (·.map bI)=(o7 l x).map (·.map gz)
 |[],_=>rfl
 |[q],x=>acP q x
 |q::q'::l,x=>by simp[Vf,o7,acP,OZ (q'::l) x.2]
theorem Zk:∀(ab:List Nat)(os:List (Option (bp X)))(os':List (Option eZ)),os.map (·.map bI)=os'.map (·.map gz)->jh (QW ab os)=BX ab os'
 |[],_,_,_=>by rfl
 |_::_,[],[],_=>rfl
 |k::ab,p::os,p'::os',h=>by
  simp at h;have:=Zk ab os os' h.2
  simp_all [jh,QW,BX,h.1,this]
 |_::_,[],_::_,h|_::_,_::_,[],h=>by simp at h
theorem KH:∀{ab:List Nat}{os:List (Option (bp X))}{p:Nat×Option (bp X)},p∈QW ab os->p.1∈ab
 |[],_,_,h|_::_,[],_,h=>by trivial
 |k::ab,q::os,p,h=>by simp[QW]at h;rcases h with rfl|h;simp;exact eX _ (KH h)
def aaM(get:Nat->Option (bp X))(d:DV X)(c:CT X.ι):Option (List (CT.T X.toSE c)×Nat×List Bool):=
 match d with
 |.own k 0 len=>(get k).bind λo=>match o with
  |.eb b l=>(lg (.sl b) (.sl c) l).bind λ(l:List (CT.T X.toSE c))=>some (l,k,[aE len (List.length l)])
  |_=>none
 |_=>none
def Vg(get:Nat->Option (bp X))(d:DV X)(c:CT X.ι):Option (CT.T X.toSE c×Nat):=
 match d with
 |.ptr k 0 0=>(get k).bind λo=>match o with
  |.cells sz [row]=>if sz=CT.sz X c then(LQ c row).bind λx=>some (x,k)else none
  |_=>none
 |_=>none
def o8(Γ:FuncId->Option (b7 X))(get:Nat->Option (bp X)):List (DV X)->(l:List (AT X.ι))->Option (jc X l×List Nat×List Bool)
 |[],[]=>some ((),[],[])
 |d::ds,.mut c::l=>(aaM get d c).bind λx=>(o8 Γ get ds l).bind λh=>some ((x.1,h.1),x.2.1::h.2.1,x.2.2++h.2.2)
 |d::ds,.ju c::l=>(Vg get d c).bind λx=>(o8 Γ get ds l).bind λh=>some ((x.1,h.1),x.2::h.2.1,h.2.2)
 |d::ds,.d c::l=>(QS Γ get 3 [d] [.d c]).bind λx=>(o8 Γ get ds l).bind λh=>some ((x.1.1,h.1),h.2.1,x.2++h.2.2)
 |d::ds,.ref c::l=>(QS Γ get 3 [d] [.ref c]).bind λx=>(o8 Γ get ds l).bind λh=>some ((x.1.1,h.1),h.2.1,x.2++h.2.2)
 |d::ds,.du as r::l=>(QS Γ get 3 [d] [.du as r]).bind λx=>(o8 Γ get ds l).bind λh=>some ((x.1.1,h.1),h.2.1,x.2++h.2.2)
 |d::ds,.nil::l=>match d with
  |.nil=>(o8 Γ get ds l).bind λh=>some (((),h.1),h.2.1,h.2.2)
  |_=>none
 |_,_=>none
def Jf:List (DV X)->List (AT X.ι)->List Nat
 |d::ds,a::l=>(if a.im then []else bo d)++Jf ds l
 |_,_=>[]
def Tl(get:Nat->Option (bp X)):List (DV X)->(l:List (CT X.ι))->Option (HL X.toSE l×List Bool)
 |[],[]=>some ((),[])
 |d::ds,c::l=>(E9 get d c).bind λx=>(Tl get ds l).bind λh=>some ((x.1,h.1),x.2++h.2)
 |_,_=>none
variable (Γ:FuncId->Option (b7 X))
def aj0(i:Nat)(f:DV X)(args:List (DV X))(get:Nat->Option (bp X))(k:KK X A):Option A:=
 match f with
 |.fn F first caps=>(Γ F).bind λs=>match s.gen.filter λg=>(sq get g.mj (first++args++caps) ⟨[],[],[],[]⟩).isSome with
  |some g=>afl g i (first++args++caps) get k
  |none=>if (s.args.all (λ q=>q.pl)&&s.res.all (λ q=>!q.out))=true then(QS Γ get 3 (first++args++caps) s.args).bind λa=>UL a.2 ((s.fn a.1).bind λx=>(GW i [] s.res x).bind λp=>
   if s.res.all Vb then k p.1 p.2 (aL (first++args++caps)) []
   else k p.1 (p.2++LZ (aL (first++args++caps))) (aL (first++args++caps)) (aL (first++args++caps)))
  else(o8 Γ get (first++args++caps) s.args).bind λa=>UL a.2.2 ((s.fn a.1).bind λx=>(GW i a.2.1 s.res x).bind λp=>
   if (decide a.2.1.Nodup&&(Jf (first++args++caps) s.args).all (λ j=>!a.2.1.contains j)&&decide ((Vf s.res x).length=a.2.1.length))=true then
    if s.res.all Vb then k p.1 (p.2++QW a.2.1 (Vf s.res x)) (aL (first++args++caps)) a.2.1
    else k p.1 (p.2++(QW a.2.1 (Vf s.res x)++LZ ((aL (first++args++caps)).filter λj=>!a.2.1.contains j))) (aL (first++args++caps)) (a.2.1++(aL (first++args++caps)).filter λj=>!a.2.1.contains j)
   else none)
 |.du as q φ=>(Tl get args as).bind λh=>UL h.2 ((φ h.1).bind λy=>
  if wU q then k (.c q y) [] (aL args) []else k (.c q y) (LZ (aL args)) (aL args) (aL args))
 |_=>none
def E3(fz:List Nat)(T:ec)(code:TypeId->Option (CT X.ι))(i:Nat)(o:Op)(ρ:Operand->DV X)(get:Nat->Option (bp X))(k:KK X A):Option A:=
 match o with
 |.call { callee:=.value f,args:=args,argTypes:=_ }=>aj0 Γ i (ρ f) (args.toList.map ρ) get k
 |o=>if anL o ρ then am3 T code i o ρ get k else if anM o ρ || fz.contains i then am4 T code i o ρ get k else if anN T o ρ then am5 T code o ρ get k else O2 T code i o ρ get k
variable {Γ}
theorem Ma{P:Program}{get:Nat->Option (bp X)}{rd:List Nat}:∀{ds:List (DV X)}{l:List (CT X.ι)}{h:HL X.toSE l×List Bool},Tl get ds l=some h->(∀ b∈h.2,b=true)->(∀ j∈aL ds,j∈rd)->
 ∃hs obs,(∀ p∈obs,p)/\∀ae,mK P (dJ rd (fK get)) (bG ds) (hs++ae)=some ((HL.nq X.toSE l h.1).map TV.av,ae,obs)
 |[],[],h,_,_,_=>⟨[],[],by simp,λae=>rfl⟩
 |d::ds,c::l,h,hr,hc,hrd=>by simp[Tl]at hr;have⟨x,h1,hr⟩:=ah.1 hr;have⟨g,h2,hr⟩:=ah.1 hr;cases hr;obtain⟨hs1,o1,p1,q1⟩:=zS (P:=P) (rd:=rd) h1 (λ b hb=>hc b (by grind)) (λ j hj=>hrd j (by simp[aL,hj]));obtain⟨hs2,o2,p2,q2⟩:=Ma (P:=P) (rd:=rd) h2 (λ b hb=>hc b (by grind)) (λ j hj=>hrd j (by simp[aL,hj]));refine⟨hs1++hs2,o1++o2,ic p1 p2,λae=>?_⟩;simp[bG,mK,q1,q2];rfl
 |[],_::_,_,hr,_,_|_::_,[],_,hr,_,_=>by trivial
theorem Vh{i:Nat}{ab ns:List Nat}{q:RT X.ι}{x:RT.T X q}:∀p∈(GX i ab ns q x).2,p.1=cC i:=by cases q<;>simp[GX]
theorem Vi{i:Nat}{ab ns:List Nat}:∀{l:List (RT X.ι)}{x:sD X l}{p:List (DV X)×List (Nat×Option (bp X))},Kh i ab ns l x=some p->∀q∈p.2,q.1=cC i
 |[],_,p,h=>by grind [Kh]
 |[q],x,p,h=>by simp[Kh]at h;subst h;exact Vh
 |q::q'::l,x,p,h=>by simp[Kh]at h;have⟨p',h1,h⟩:=ah.1 h;split at h;cases h;intro z hz;rcases bK.1 hz with hz|hz;exact Vh z hz;exact Vi h1 z hz;cases h
theorem Zl{i:Nat}{ab:List Nat}{l:List (RT X.ι)}{x:sD X l}{p:DV X×List (Nat×Option (bp X))}(h:GW i ab l x=some p):∀q∈p.2,q.1=cC i:=by unfold GW at h;have⟨p',h1,h⟩:=ah.1 h;cases h;exact Vi h1
theorem GY{P:Program}{get:Nat->Option aM}{x:AV}{hs ae:List LH}{y:AV}{o:List Prop}(h:mK P get [x] hs=some ([y],ae,o)):oW P get x hs=some (y,ae,o):=by
 simp only[mK,ai,append_nil,ah,bM,Prod.mk.injEq,List.cons.injEq,and_true]at h
 grind
theorem lM{d:DV X}{ds:List (DV X)}{a:AT X.ι}{l:List (AT X.ι)}{P:Nat->Prop}(h:∀j∈Jf (d::ds) (a::l),P j):(a.im=false->∀j∈bo d,P j)/\∀j∈Jf ds l,P j:=by
 grind [Jf]
theorem am6{c:CT X.ι}{l:List (CT.T X.toSE c)}:dS ((aI (l.map (CT.row X.toSE c))).take (l.map (CT.row X.toSE c)).length)=aI (l.map (CT.row X.toSE c)):=by rw[take_of_length_le (by simp[aI])];simp only[dS,aI,map_map];exact map_congr_left λy _=>by simp only[Function.comp,map_map];rfl
theorem X4{get:Nat->Option (bp X)}{d:DV X}{c:CT X.ι}{x:List (CT.T X.toSE c)×Nat×List Bool}(h:aaM get d c=some x)(hc:∀b∈x.2.2,b=true):
 d=.own x.2.1 0 (List.length x.1)/\∃o,get x.2.1=some o/\(bI o).sz=(uq c x.1).1/\dS ((bI o).rows.take (uq c x.1).2.length)=aI (uq c x.1).2:=by
 unfold aaM at h;split at h;rename_i k len;rw[ah]at h;obtain⟨o,h1,h⟩:=h;split at h;rename_i b l;rw[ah]at h;obtain⟨l',h2,h⟩:=h;cases h;have⟨h3,h4⟩:=jr h2;have h5:len=List.length l':=by simp_all [aE]
 refine⟨by rw[h5],.eb b l,h1,by trivial,?_⟩;simp only[bI,uq,h4];exact am6;cases h;cases h
theorem Vj{get:Nat->Option (bp X)}{d:DV X}{c:CT X.ι}{x:CT.T X.toSE c×Nat}(h:Vg get d c=some x):
 d=.ptr x.2 0 0/\∃o,get x.2=some o/\(bI o).sz=(uq c [x.1]).1/\dS ((bI o).rows.take (uq c [x.1]).2.length)=aI (uq c [x.1]).2:=by unfold Vg at h;split at h;rw[ah]at h;obtain⟨o,h1,h⟩:=h;split at h;split at h;rename_i hsz;have⟨y,h2,h⟩:=ah.1 h;cases h;refine⟨rfl,_,h1,by trivial,?_⟩;simp[bI,uq,dS,aI];rw[xQ h2];cases h;cases h;cases h
theorem nE{P:Program}{Γ:FuncId->Option (b7 X)}(hΓ:pH P Γ){get:Nat->Option (bp X)}{rd ab:List Nat}:∀{n:Nat}{ds:List (DV X)}{l:List (AT X.ι)}{a:jc X l×List Nat×List Bool},o8 Γ get ds l=some a->(∀ b∈a.2.2,b=true)->(∀ j∈aL ds,j∈rd)->(∀ j∈Jf ds l,j∉ab)->ab.drop n=a.2.1->
 (∃ hs obs,(∀ p∈obs,p)/\∀ae,mh P (dJ rd (fK get)) ab (bG ds) (hs++ae)=some (eF n l a.1,ae,obs))/\∃mo,Gv (dJ rd (fK get)) a.2.1 (uw l a.1)=some mo/\∀p∈mo,p
 |n,[],[],a,h,_,_,_,_=>by simp[o8]at h;subst h;exact⟨⟨[],[],by simp,λae=>rfl⟩,[],rfl,by simp⟩
 |n,d::ds,.mut c::l,a,h,hc,hrd,hnr,hid=>by
  simp[o8]at h;have⟨x,h1,h⟩:=ah.1 h;have⟨q,h2,h⟩:=ah.1 h;cases h;obtain⟨rfl,o,g1,g2,g3⟩:=X4 h1 (λ b hb=>hc b (by simp[hb]));have CH:ab[n]? =some x.2.1:=by rw[<- List.head?_drop,hid];rfl
  have CI:ab.drop (n+1)=q.2.1:=by rw[<- List.tail_drop,hid];rfl
  obtain⟨⟨hs,obs,p1,p2⟩,mo,m1,m2⟩:=nE hΓ (n:=n+1) h2 (λ b hb=>hc b (by simp[hb])) (λ j hj=>hrd j (by simp[aL,hj])) (lM hnr).2 CI;refine⟨⟨.mut n::hs,obs,p1,λae=>?_⟩,((bI o).sz=(uq c x.1).1/\dS ((bI o).rows.take (uq c x.1).2.length)=aI (uq c x.1).2)::mo,?_,?_⟩;simp[bG,den,mh,qo,CH,p2,eF];simp[uw,Gv,fu (hrd x.2.1 (by simp[aL,bo])) g1,m1];intro p hp
  grind
 |n,d::ds,.ju c::l,a,h,hc,hrd,hnr,hid=>by
  simp[o8]at h;have⟨x,h1,h⟩:=ah.1 h;have⟨q,h2,h⟩:=ah.1 h;cases h;obtain⟨rfl,o,g1,g2,g3⟩:=Vj h1;have CH:ab[n]? =some x.2:=by rw[<- List.head?_drop,hid];rfl
  have CI:ab.drop (n+1)=q.2.1:=by rw[<- List.tail_drop,hid];rfl
  obtain⟨⟨hs,obs,p1,p2⟩,mo,m1,m2⟩:=nE hΓ (n:=n+1) h2 (λ b hb=>hc b (by simp[hb])) (λ j hj=>hrd j (by simp[aL,hj])) (lM hnr).2 CI;refine⟨⟨.mut n::hs,obs,p1,λae=>?_⟩,((bI o).sz=(uq c [x.1]).1/\dS ((bI o).rows.take (uq c [x.1]).2.length)=aI (uq c [x.1]).2)::mo,?_,?_⟩;simp[bG,den,mh,cons_append,qo,CH,if_true,ai,p2,eF,fJ];simp[uw,Gv,fu (hrd x.2 (by simp[aL,bo])) g1,ai,m1];intro p hp;rcases aR.1 hp with rfl|hp;exact⟨g2,g3⟩;exact m2 p hp
 |n,d::ds,.d c::l,a,h,hc,hrd,hnr,hid=>by simp[o8]at h;have⟨x,h1,h⟩:=ah.1 h;have⟨q,h2,h⟩:=ah.1 h;cases h;obtain⟨hs1,o1,p1,q1⟩:=rO (P:=P) hΓ 3 (n:=n) h1 (λ b hb=>hc b (by simp[hb])) (rd:=rd) (λ j hj=>hrd j (by simp[aL,append_nil]at hj;simp[aL,hj]));obtain⟨⟨hs,obs,p2,q2⟩,mo,m1,m2⟩:=nE hΓ (n:=n) h2 (λ b hb=>hc b (by simp[hb])) (λ j hj=>hrd j (by simp[aL,hj])) (lM hnr).2 hid;refine⟨⟨yi (den d) hs1++hs,o1++obs,ic p1 p2,λae=>?_⟩,mo,m1,m2⟩;have:=xR (GY (q1 (hs++ae))) (λ k hk=>(lM hnr).1 rfl k (by rwa [iH]at hk));rw[L8]at this;simp[bG,mh,aT,this,ai,q2,eF]
 |n,d::ds,.ref c::l,a,h,hc,hrd,hnr,hid=>by simp[o8]at h;have⟨x,h1,h⟩:=ah.1 h;have⟨q,h2,h⟩:=ah.1 h;cases h;obtain⟨hs1,o1,p1,q1⟩:=rO (P:=P) hΓ 3 (n:=n) h1 (λ b hb=>hc b (by simp[hb])) (rd:=rd) (λ j hj=>hrd j (by simp[aL,append_nil]at hj;simp[aL,hj]));obtain⟨⟨hs,obs,p2,q2⟩,mo,m1,m2⟩:=nE hΓ (n:=n) h2 (λ b hb=>hc b (by simp[hb])) (λ j hj=>hrd j (by simp[aL,hj])) (lM hnr).2 hid;refine⟨⟨yi (den d) hs1++hs,o1++obs,ic p1 p2,λae=>?_⟩,mo,m1,m2⟩;have:=xR (GY (q1 (hs++ae))) (λ k hk=>(lM hnr).1 rfl k (by rwa [iH]at hk));rw[L8]at this;simp[bG,mh,aT,this,ai,q2,eF]
 |n,d::ds,.du as r::l,a,h,hc,hrd,hnr,hid=>by simp[o8]at h;have⟨x,h1,h⟩:=ah.1 h;have⟨q,h2,h⟩:=ah.1 h;cases h;obtain⟨hs1,o1,p1,q1⟩:=rO (P:=P) hΓ 3 (n:=n) h1 (λ b hb=>hc b (by simp[hb])) (rd:=rd) (λ j hj=>hrd j (by simp[aL,append_nil]at hj;simp[aL,hj]));obtain⟨⟨hs,obs,p2,q2⟩,mo,m1,m2⟩:=nE hΓ (n:=n) h2 (λ b hb=>hc b (by simp[hb])) (λ j hj=>hrd j (by simp[aL,hj])) (lM hnr).2 hid;refine⟨⟨yi (den d) hs1++hs,o1++obs,ic p1 p2,λae=>?_⟩,mo,m1,m2⟩;have:=xR (GY (q1 (hs++ae))) (λ k hk=>(lM hnr).1 rfl k (by rwa [iH]at hk));rw[L8]at this;simp[bG,mh,aT,this,ai,q2,eF]
 |n,d::ds,.nil::l,a,h,hc,hrd,hnr,hid=>by simp[o8]at h;split at h;have⟨q,h2,h⟩:=ah.1 h;cases h;obtain⟨⟨hs,obs,p2,q2⟩,mo,m1,m2⟩:=nE hΓ (n:=n) h2 hc (λ j hj=>hrd j (by simp[aL,hj])) (lM hnr).2 hid;refine⟨⟨.nil::hs,obs,p2,λae=>?_⟩,mo,m1,m2⟩;have:=xR (P:=P) (get':=dJ rd (fK get)) (ab:=ab) (x:=.cN) (hs:=.nil::(hs++ae)) (p:=(.cN,hs++ae,[])) rfl (λ k hk=>by simp[refs]at hk);simp[yi]at this;simp[bG,den,mh,cons_append,this,ai,q2,eF,fJ];cases h
 |_,[],_::_,_,h,_,_,_,_=>by simp[o8]at h
 |_,_::_,[],_,h,_,_,_,_=>by simp[o8]at h
theorem acQ{P:Program}(hΓ:pH P Γ){i:Nat}{f:DV X}{args:List (DV X)}{get:Nat->Option (bp X)}{k:KK X A}{r:A}(h:aj0 Γ i f args get k=some r):
 ∃cm rd wr dv upd out,lJ P i (den f) (bG args) cm (dJ rd (fK get))=some out/\kJ out.obs/\out.v=den dv/\out.upd=jh upd/\(∀ p∈upd,p.1=cC i\/p.1∈wr)/\k dv upd rd wr=some r:=by
 unfold aj0 at h;split at h;rename_i F first caps
 rw[ah]at h;obtain⟨s,h1,h⟩:=h;split at h;rename_i g hgen;exact aaK ((hΓ F s h1).2.2 g (Option.filter_eq_some_iff.1 hgen).1) h;split at h;rename_i hpure;rw[ah]at h;obtain⟨⟨a,cs⟩,h2,h⟩:=h;have⟨hcs,h⟩:=pY h;rw[ah]at h;obtain⟨x,h3,h⟩:=h;rw[ah]at h;obtain⟨p,h4,h⟩:=h;have hf0:=(hΓ F s h1).2.1 a x h3;simp only[bC]at hpure;rw[GN (anI hpure.1),acB hpure.2]at hf0;have hf:=UD hf0;have hi:=acO h4;have hk:=Zl h4;obtain⟨hs,obs,g1,g2⟩:=rO (P:=P) hΓ 3 h2 hcs (rd:=aL (first++args++caps)) (λ j hj=>hj);have g3:=g2 [];rw[append_nil,ji,ji]at g3;have hrefs:eT (bG first++bG args++bG caps)=aL (first++args++caps):=by
  grind [ji,iY]
 split at h;rename_i hfl;refine⟨.call hs (sJ s.res x) true,_,[],p.1,p.2,⟨den p.1,jh p.2,obs++[tc P F (yw s.args a) (sJ s.res x),(sJ s.res x).flat]⟩,?_,?_,rfl,rfl,λq hq=>.inl (hk q hq),h⟩;simp only[den,lJ,qG,zN,hi,ai,g3];rfl;exact qR _ (ic g1 (by intro q hq;simp only[aR,ny,or_false]at hq;rcases hq with rfl|rfl;exact hf;exact Ve x hfl));refine⟨.call hs (sJ s.res x) false,_,_,p.1,_,⟨den p.1,jh p.2++(aL (first++args++caps)).map (λ k=>(k,none)),obs++[tc P F (yw s.args a) (sJ s.res x)]⟩,?_,?_,rfl,?_,?_,h⟩;simp only[den,lJ,qG,zN,hi,ai,g3,hrefs];rfl;exact qR _ (ic g1 (by intro q hq;simp only[bn]at hq;subst hq;exact hf));simp[rP,Ce];intro q hq;rcases bK.1 hq with hq|hq;exact .inl (hk q hq);exact .inr (Jd hq);rename_i hpure;rw[ah]at h;obtain⟨⟨a,ab,cs⟩,h2,h⟩:=h;have⟨hcs,h⟩:=pY h;rw[ah]at h;obtain⟨x,h3,h⟩:=h;rw[ah]at h;obtain⟨p,h4,h⟩:=h;split at h;rename_i hc;simp only[bC,bF]at hc;obtain⟨⟨hnd,hnr⟩,hlen⟩:=hc;have hf:=(hΓ F s h1).2.1 a x h3;have hi:=acO h4;have hk:=Zl h4;obtain⟨⟨hs,obs,g1,g2⟩,mo,m1,m2⟩:=nE (P:=P) hΓ (rd:=aL (first++args++caps)) (ab:=ab) (n:=0) h2 hcs (λ j hj=>hj) (λ j hj=>by simpa using all_eq_true.1 hnr j hj) rfl;have g3:=g2 [];rw[append_nil,ji,ji]at g3;have hrefs:eT (bG first++bG args++bG caps)=aL (first++args++caps):=by rw[<- ji,<- ji,iY]
 have hlen':(o7 s.res x).length=ab.length:=by rw[<- hlen];simpa using (congrArg List.length (OZ s.res x)).symm
 have hout:jh (QW ab (Vf s.res x))=BX ab (o7 s.res x):=Zk _ _ _ (OZ s.res x);split at h;rename_i hfl;refine⟨.tI ab (uw s.args a) (o7 s.res x) hs (sJ s.res x) true,_,ab,p.1,_,⟨den p.1,jh p.2++BX ab (o7 s.res x),obs++mo++[p0 P F (yw s.args a) (uw s.args a) (o7 s.res x) (sJ s.res x),(sJ s.res x).flat,Uk (o7 s.res x)]⟩,?_,?_,rfl,?_,?_,h⟩;simp only[den,lJ,qG,Gx,hi,ai,m1,g3];rw[aX ⟨hnd,hlen'⟩];rfl;refine qR _ (ic (ic g1 m2) ?_);intro q hq;simp only[aR,ny,or_false]at hq;rcases hq with rfl|rfl|rfl;exact hf;exact Ve x hfl;exact Zh hfl;simp[rP,hout];intro q hq;rcases bK.1 hq with hq|hq;exact .inl (hk q hq);exact .inr (KH hq);refine⟨.tI ab (uw s.args a) (o7 s.res x) hs (sJ s.res x) false,_,_,p.1,_,⟨den p.1,jh p.2++(BX ab (o7 s.res x)++((aL (first++args++caps)).filter λj=>!ab.contains j).map (λ k=>(k,none))),obs++mo++[p0 P F (yw s.args a) (uw s.args a) (o7 s.res x) (sJ s.res x)]⟩,?_,?_,rfl,?_,?_,h⟩;simp only[den,lJ,qG,Gx,hi,ai,m1,g3,Gw,hrefs];rw[aX ⟨hnd,hlen'⟩];rfl;refine qR _ (ic (ic g1 m2) ?_);intro q hq;simp only[bn]at hq;subst hq;exact hf;simp[rP,hout,Ce];intro q hq;rcases bK.1 hq with hq|hq;exact .inl (hk q hq);rcases bK.1 hq with hq|hq;exact .inr (mem_append_left _ (KH hq));exact .inr (mem_append_right _ (Jd hq));cases h;rename_i as q φ;rw[ah]at h;obtain⟨⟨hh,cs⟩,h1,h⟩:=h;have⟨hcs,h⟩:=pY h;rw[ah]at h;obtain⟨y,h2,h⟩:=h;obtain⟨hs,obs,g1,g2⟩:=Ma (P:=P) h1 hcs (rd:=aL args) (λ j hj=>hj);have g3:=g2 [];rw[append_nil]at g3;have hφ:∃h' x',φ h'=some x'/\HL.nq X.toSE as hh=HL.nq X.toSE as h'/\CT.tv X.toSE q y=CT.tv X.toSE q x':=⟨hh,y,h2,rfl,rfl⟩;split at h;rename_i hfl;refine⟨.D4 hs (HL.nq X.toSE as hh) (CT.tv X.toSE q y) true,_,[],.c q y,[],⟨(CT.tv X.toSE q y).av,[],obs++[(HL.nq X.toSE as hh).map TV.av=(HL.nq X.toSE as hh).map TV.av,(∃ h' x',φ h'=some x'/\HL.nq X.toSE as hh=HL.nq X.toSE as h'/\CT.tv X.toSE q y=CT.tv X.toSE q x'),(CT.tv X.toSE q y).flat]⟩,?_,?_,rfl,rfl,by simp,h⟩;simp only[den,lJ,qG,zN,g3,ai];rfl;exact qR _ (ic g1 (by intro z hz;simp only[aR,ny,or_false]at hz;rcases hz with rfl|rfl|rfl;trivial;exact hφ;exact acM hfl y));refine⟨.D4 hs (HL.nq X.toSE as hh) (CT.tv X.toSE q y) false,_,_,.c q y,_,⟨(CT.tv X.toSE q y).av,(aL args).map (λ k=>(k,none)),obs++[(HL.nq X.toSE as hh).map TV.av=(HL.nq X.toSE as hh).map TV.av,(∃ h' x',φ h'=some x'/\HL.nq X.toSE as hh=HL.nq X.toSE as h'/\CT.tv X.toSE q y=CT.tv X.toSE q x')]⟩,?_,?_,rfl,(Ce _).symm,λz hz=>.inr (Jd hz),h⟩;simp only[den,lJ,qG,zN,g3,ai,iY];rfl;exact qR _ (ic g1 (by intro z hz;simp only[aR,ny,or_false]at hz;rcases hz with rfl|rfl;trivial;exact hφ));cases h
theorem afo{P:Program}(hΓ:pH P Γ){fz:List Nat}{T:ec}{code:TypeId->Option (CT X.ι)}{i:Nat}{o:Oper}{ρ:Operand->DV X}{get:Nat->Option (bp X)}{k:KK X A}{r:A}(h:E3 Γ fz T code i o.op ρ get k=some r):d8 P T i o ρ get k r:=by
 obtain⟨dst,op,ty,am,after,guard⟩:=o;unfold E3 at h;simp only at h;split at h
 ·have:=acQ hΓ h;simp only[<- Tq]at this;obtain⟨cm,rd,wr,dv,upd,out,g1,g2⟩:=this;exact .call g1 g2
 ·split at h
  ·exact afh (o:=⟨dst,op,ty,am,after,guard⟩) h
  ·split at h
   ·exact afi (o:=⟨dst,op,ty,am,after,guard⟩) h
   ·split at h
    ·exact afj (o:=⟨dst,op,ty,am,after,guard⟩) h
    ·rename_i hne _ _ _;have⟨cm,rd,wr,dv,upd,out,g1,g2⟩:=Y6 (o:=⟨dst,op,ty,am,after,guard⟩) h;exact d8.op (λ f args cV e=>hne f args cV e) g1 g2
end
def k8(x y:AV):Prop:=∀P β w I v,VR P β w I x v->VR P β w I y v
theorem k8.refl(x:AV):k8 x x:=λ_ _ _ _ _ h=>h
theorem k8.undef(x:AV):k8 x .undef:=λ_ _ _ _ _ _=>by simp[VR]
theorem k8.wk(x:AV):k8 x (wk x):=λ_ _ _ _ _ h=>h.wk
section
variable {P:Program} {w0:World} {O0:gA} {N:Nat} {β:Nat->Option cy} {I:Nat->Prop} {a:Act} {w:World} {f g:Nat->Nat} {D:Nat->Prop}
mutual
theorem VR.rn(hgf:∀k,D k->g (f k)=k):∀(x:AV)(v:Value),(∀ k∈refs x,D k)->VR P β w I x v->VR P (λ j=>β (g j)) w I (jt f x) v
 |.own k aa len,v,hd,h=>by simp[jt,VR,hgf k (hd k (by simp[refs]))]at h ⊢;exact h
 |.ptr k row aa,v,hd,h=>by simp[jt,VR,hgf k (hd k (by simp[refs]))]at h ⊢;exact h
 |.agg cs,v,hd,h=>by simp[VR]at h ⊢;obtain⟨vs,h1,h2⟩:=h;exact⟨vs,h1,bk.rn hgf cs _ (by simpa[refs]using hd) h2⟩
 |.eR cs,v,hd,h=>by simp[VR]at h ⊢;obtain⟨vs,h1,h2⟩:=h;exact⟨vs,h1,bk.rn hgf cs _ (by simpa[refs]using hd) h2⟩
 |.fn F first caps,v,hd,h=>by simp[VR]at h ⊢;obtain⟨fs,cs,h1,h2,h3⟩:=h;exact⟨fs,cs,h1,bk.rn hgf first _ (λ k hk=>hd k (by simp[refs,hk])) h2,bk.rn hgf caps _ (λ k hk=>hd k (by simp[refs,hk])) h3⟩
 |.t x,v,_,h|.eo r o,v,_,h|.du φ,v,_,h=>by simpa[jt,VR]using h
 |.mp k,v,hd,h=>by simp[jt,VR,hgf k (hd k (by simp[refs]))]at h ⊢;exact h
 |.oz k len,v,hd,h=>by simp[jt,VR,hgf k (hd k (by simp[refs]))]at h ⊢;exact h
 |.cN,v,_,h|.ub,v,_,h=>by simpa[jt,VR]using h
 |.undef,v,_,h=>by simp[jt,VR]
theorem bk.rn(hgf:∀k,D k->g (f k)=k):∀(xs:List AV)(vs:List Value),(∀ k∈eT xs,D k)->bk P β w I xs vs->bk P (λ j=>β (g j)) w I (BZ f xs) vs
 |[],[],_,_=>by simp[BZ,bk]
 |x::xs,v::vs,hd,h=>by simp[bk]at h;simp[BZ];exact⟨VR.rn hgf x v (λ k hk=>hd k (by simp[eT,hk])) h.1,bk.rn hgf xs vs (λ k hk=>hd k (by simp[eT,hk])) h.2⟩
 |[],_::_,_,h|_::_,[],_,h=>by simp[bk]at h
end
def nf(D:Nat->Prop)(f:Nat->Nat):List AV->List AV->Prop
 |[],[]=>True
 |x::xs,y::ys=>((∀ k∈refs x,D k)/\k8 (jt f x) y)/\nf D f xs ys
 |_,_=>False
def gp(D:Nat->Prop)(f:Nat->Nat):List (List AV)->List (List AV)->Prop
 |[],[]=>True
 |r::rs,q::qs=>nf D f r q/\gp D f rs qs
 |_,_=>False
theorem nf.length:∀{r q:List AV},nf D f r q->q.length=r.length
 |[],[],_=>rfl
 |_::xs,_::ys,h=>by simp[nf.length h.2]
 |[],_::_,h|_::_,[],h=>h.elim
theorem cQ.re(hgf:∀k,D k->g (f k)=k):∀{r q:List AV}{c:Array Value}{aa:Nat},nf D f r q->cQ P β w I r c aa->cQ P (λ j=>β (g j)) w I q c aa
 |[],[],_,_,_,_=>trivial
 |x::xs,y::ys,c,aa,hr,⟨⟨v,h1,h2,h3⟩,h4⟩=>⟨⟨v,h1,hr.1.2 _ _ _ _ _ (VR.rn hgf x v hr.1.1 h2),h3⟩,cQ.re hgf hr.2 h4⟩
 |[],_::_,_,_,h,_|_::_,[],_,_,h,_=>h.elim
theorem br.re(hgf:∀k,D k->g (f k)=k):∀{rs qs:List (List AV)}{c:Array Value}{aa sz:Nat},gp D f rs qs->br P β w I rs c aa sz->br P (λ j=>β (g j)) w I qs c aa sz
 |[],[],_,_,_,_,_=>trivial
 |r::rs,q::qs,c,aa,sz,hr,⟨h1,h2,h3⟩=>⟨by rw[hr.1.length];exact h1,cQ.re hgf hr.1 h2,br.re hgf hr.2 h3⟩
 |[],_::_,_,_,_,h,_|_::_,[],_,_,_,h,_=>h.elim
theorem bk.re(hgf:∀k,D k->g (f k)=k):∀{r q:List AV}{vs:List Value},nf D f r q->bk P β w I r vs->bk P (λ j=>β (g j)) w I q vs
 |[],[],[],_,_=>by simp[bk]
 |x::xs,y::ys,v::vs,hr,h=>by exact⟨hr.1.2 _ _ _ _ _ (VR.rn hgf x v hr.1.1 h.1),bk.re hgf hr.2 h.2⟩
 |[],_::_,_,h,_|_::_,[],_,h,_=>h.elim
 |[],[],_::_,_,h|_::_,_::_,[],_,h=>by simp[bk]at h
theorem cA.re(hgf:∀k,D k->g (f k)=k):∀{rs qs:List (List AV)}{es:List MapEntry},gp D f rs qs->cA P β w I rs es->cA P (λ j=>β (g j)) w I qs es
 |[],[],[],_,_=>trivial
 |r::rs,q::qs,_::es,hr,⟨h1,h2⟩=>⟨bk.re hgf hr.1 h1,cA.re hgf hr.2 h2⟩
 |[],_::_,_,h,_|_::_,[],_,h,_|[],[],_::_,_,h|_::_,_::_,[],_,h=>h.elim
theorem gp.length:∀{rs qs:List (List AV)},gp D f rs qs->qs.length=rs.length
 |[],[],_=>rfl
 |_::xs,_::ys,h=>by simp[gp.length h.2]
 |[],_::_,h|_::_,[],h=>h.elim
theorem Rel.re0{s s':St}(hgf:∀k,D k->g (f k)=k)(hg:∀j B,O0.anc j=some B->g j=j)(hr:Rel P w0 O0 N β I s a w)(hok:∀t,s.ok t=none\/s'.env t=.undef)(hok':∀t,s'.ok t=none)
 (hE:∀t,s'.env t=.undef\/((∀ k∈refs (s.env t),D k)/\k8 (jt f (s.env t)) (s'.env t)))
 (hO:∀j o',s'.obj j=some o'->∃k o,s.obj k=some o/\D k/\f k=j/\o'.sz=o.sz/\gp D f o.rows o'.rows):Rel P w0 O0 N (λ j=>β (g j)) I s' a w:=by
 refine⟨hr.defers,hr.size,λt=>?_,?_⟩
 ·have h1:=hr.env t;rw[hok' t];rcases hok t with hk|h
  rotate_left
  rw[h];simp[da,VR];rw[hk]at h1;rcases hE t with h|⟨h2,h3⟩;rw[h];simp[da,VR];exact h3 _ _ _ _ _ (VR.rn hgf _ _ h2 h1)
 have hm:=hr.mem;constructor;intro j o' hj;obtain⟨k,o,h1,h2,rfl,h4,h5⟩:=hO j o' hj;have⟨B,hB,so⟩:=hm.cw k o h1;refine⟨B,by simp[hgf k h2];exact hB,?_⟩;cases B with
 |none=>
  simp[OR]at so ⊢;rw[so]at h5;cases ho:o'.rows with
  |nil=>rfl
  |cons=>rw[ho]at h5;exact h5.elim
 | «at» b sz n=>
  obtain⟨g1,c,e,g2,g3,g4⟩:=so;exact⟨by rw[g1,h4],c,e,g2,g3,br.re hgf h5 g4⟩
 |mp b=>
  obtain⟨es,cl,g1,gl,g2,g3⟩:=so;have hl:=h5.length;exact⟨es,cl,g1,by omega,λe=>cA.re hgf h5 (g2 (by omega)),g3⟩
 intro j j' o o' B B' b h1 h2 h3 h4 h5 h6;obtain⟨k,q,i1,i2,rfl,_⟩:=hO j o h1;obtain⟨k',q',i1',i2',rfl,_⟩:=hO j' o' h2;simp[hgf k i2,hgf k' i2']at h3 h4;rw[hm.ep k k' q q' B B' b i1 i1' h3 h4 h5 h6];intro j o B b h1 h2;obtain⟨k,q,i1,i2,rfl,_⟩:=hO j o h1;simp[hgf k i2]at h2;exact hm.ownB k q B b i1 h2;exact hm.lt;exact hm.up;exact hm.keep;exact hm.le;exact hm.os;exact hm.tape;exact hm.output;intro j B hj;show β (g j)=some B;rw[hg j B hj];exact hm.anch j B hj;exact hm.vars
theorem Rel.re{s s':St}(hgf:∀k,D k->g (f k)=k)(hg:∀j,j<1000->g j=j)(hr:Rel P w0 O0 N β I s a w)(hok:∀t,s.ok t=none\/s'.env t=.undef)(hok':∀t,s'.ok t=none)
 (hE:∀t,s'.env t=.undef\/((∀ k∈refs (s.env t),D k)/\k8 (jt f (s.env t)) (s'.env t)))
 (hO:∀j o',s'.obj j=some o'->∃k o,s.obj k=some o/\D k/\f k=j/\o'.sz=o.sz/\gp D f o.rows o'.rows):Rel P w0 O0 N (λ j=>β (g j)) I s' a w:=
 Rel.re0 hgf (λ j B hj=>hg j (O0.lt j B hj)) hr hok hok' hE hO
end
section
variable {X:SX}
theorem acR{D:Nat->Prop}(f:Nat->Nat):∀r:List (DV X),(∀ k∈aL r,D k)->nf D f (bG r) (bG (KE f r))
 |[],_=>trivial
 |x::xs,h=>⟨⟨λ k hk=>h k (by rw[iH]at hk;simp[aL,hk]),by rw[zT];exact k8.refl _⟩,acR f xs λk hk=>h k (by simp[aL,hk])⟩
theorem Jg{D:Nat->Prop}(f:Nat->Nat)(o:bp X)(h:∀k∈d7 o,D k):(bI (pN f o)).sz=(bI o).sz/\gp D f (bI o).rows (bI (pN f o)).rows:=by
 cases o with
 |cells sz rows=>
  refine⟨rfl,?_⟩;simp only[d7]at h
  induction rows with
  |nil=>trivial
  |cons r rs ih=>
   refine⟨acR f r λk hk=>h k (by simp[hk]),ih λk hk=>h k ?_⟩;simp only[bH,List.flatten_cons,bK];exact .inr hk
 |eb c l=>
  refine⟨rfl,?_⟩;simp[bI,pN];generalize l.map (CT.row X.toSE c)=rows;have hrow:∀r:List Tree,nf D f (r.map AV.t) (r.map AV.t):=by
   intro r
   induction r with
   |nil=>trivial
   |cons y ys ih=>exact⟨⟨by simp[refs],k8.refl _⟩,ih⟩
  induction rows with
  |nil=>trivial
  |cons r rs ih=>exact⟨hrow r,ih⟩
 |map kc vc l=>
  refine⟨rfl,?_⟩;clear h
  induction l with
  |nil=>trivial
  |cons p ps ih=>exact⟨⟨⟨by simp[zR],by rw[U9];exact k8.refl _⟩,⟨by simp[zR],by rw[U9];exact k8.refl _⟩,trivial⟩,ih⟩
structure Low(s:cE X):Prop where
 le:s.nx<=1000000
 ge:1000<=s.nx
 env:∀t,∀k∈bo (dC s.env t),k<s.nx
 obj:∀k o,fj s.obj k=some o->k<s.nx/\∀j∈d7 o,j<s.nx
theorem Vk{o:bp X}{r:List AV}{x:AV}(hr:r∈(bI o).rows)(hx:x∈r):∀j∈refs x,j∈d7 o:=by
 intro j hj;cases o with
 |cells sz rows=>
  simp[bI]at hr;obtain⟨q,hq,rfl⟩:=hr;rw[nS,mem_map]at hx;obtain⟨d,hd,rfl⟩:=hx;simp[d7];refine⟨_,⟨q,hq,rfl⟩,?_⟩;have:∀l:List (DV X),d∈l->j∈aL l:=by
   intro l
   induction l with
   |nil=>intro h;simp at h
   |cons y ys ih=>intro h;rcases aR.1 h with rfl|h
                  simp[aL];left;rwa [iH]at hj;simp[aL];exact .inr (ih h)
  exact this q hd
 |eb c l=>
  simp[bI,aI]at hr;obtain⟨q,_,rfl⟩:=hr;simp at hx;obtain⟨t,_,rfl⟩:=hx;simp[refs]at hj
 |map kc vc l=>
  simp only[bI,mem_map]at hr;obtain⟨q,_,rfl⟩:=hr;simp at hx;rcases hx with rfl|rfl<;>simp[zR]at hj
theorem Low.old{s:cE X}(h:Low s):tR s.st:=by have hle:=h.le;constructor;intro t k hk;have:=h.env t k (by rw[<- iH];exact hk);omega;intro k o hk;simp[cE.st]at hk;obtain⟨o',h1,rfl⟩:=hk;have⟨h2,h3⟩:=h.obj k o' h1;refine⟨by omega,λr hr x hx j hj=>?_⟩;have:=h3 j (Vk hr hx j hj);omega
end
section
variable {X:SX} {A:Type}
def pd(e b:List (Nat×DV X))(t:Nat):DV X:=match lk e t with|some x=>x|none=>dC b t
def xm(o b:List (Nat×Option (bp X)))(k:Nat):Option (bp X):=match lk o k with|some x=>x|none=>fj b k
def zn(dst:Option Tmp)(dv:DV X)(e:List (Nat×DV X)):List (Nat×DV X):=match dst with|some t=>(t,dv)::e|none=>e
def Vl:DV X->DV X
 |.skip=>.undef
 |x=>x
def Ki(e:List (Nat×DV X)):Operand->Bool
 |.tmp t=>match lk e t with|some .skip=>false|_=>true
 |_=>true
def QX(e b:List (Nat×DV X))(o:Op):Bool:=
 match o with
 |.pick c x y=>Ki e c&&((Ki e x&&Ki e y) || match XV (pd e b) c with|.c .bool t=>bif t then Ki e x else Ki e y|_=>false)
 |o=>o.operands.toList.all (Ki e)
abbrev FS:=List (Nat×List Nat×List Nat)
section
variable (Γ:FuncId->Option (b7 X)) (fz:List Nat) (T:ec) (code:TypeId->Option (CT X.ι)) (ag:Array Oper) (b:cE X)
def yC(k:List (Nat×DV X)->List (Nat×Option (bp X))->FS->Option A):List Nat->List (Nat×DV X)->List (Nat×Option (bp X))->FS->Option A
 |[],e,o,oy=>k e o oy
 |i::r,e,o,oy=>(ag[i]?).bind λop=>match op.guard with
  |none=>bif QX e b.env op.op then E3 Γ fz T code i op.op (XV (pd e b.env)) (xm o b.obj) λdv upd rd wr=>yC k r (zn op.dst (Vl dv) e) (upd++o) ((i,rd,wr)::oy)else none
  |some (j,p)=>((ag[j]?).bind (·.dst)).bind λt=>match pd e b.env t with
   |.c .bool v=>
    bif v then(bif p then(bif QX ((t,.c .bool true)::e) b.env op.op then E3 Γ fz T code i op.op (XV (pd ((t,.c .bool true)::e) b.env)) (xm o b.obj) λdv upd rd wr=>yC k r (zn op.dst (Vl dv) ((t,.c .bool true)::e)) (upd++o) ((i,rd,wr)::oy)else none)
     else yC k r (zn op.dst .skip ((t,.c .bool true)::e)) o ((i,[],[])::oy))
    else(bif p then yC k r (zn op.dst .skip ((t,.c .bool false)::e)) o ((i,[],[])::oy)
     else(bif QX ((t,.c .bool false)::e) b.env op.op then E3 Γ fz T code i op.op (XV (pd ((t,.c .bool false)::e) b.env)) (xm o b.obj) λdv upd rd wr=>yC k r (zn op.dst (Vl dv) ((t,.c .bool false)::e)) (upd++o) ((i,rd,wr)::oy)else none))
   |.skip=>bif(lk e t).isSome then yC k r (zn op.dst .skip e) o ((i,[],[])::oy)else none
   |_=>none
end
def iK(b:cE X)(e:List (Nat×DV X))(o:List (Nat×Option (bp X))):St:=⟨λ t=>den (pd e b.env t),λk=>(xm o b.obj k).map bI,λt=>match lk e t with|some .skip=>some false|_=>none⟩
theorem aiw(x:DV X):den (Vl x)=den x:=by cases x<;>rfl
theorem aj1(b:cE X)(e:List (Nat×DV X))(o:List (Nat×Option (bp X)))(dst:Option Tmp)(dv:DV X)(upd:List (Nat×Option (bp X)))(obs:List Prop):
 (iK b e o).app dst (⟨den dv,jh upd,obs⟩,none)=iK b (zn dst (Vl dv) e) (upd++o):=by
 simp[iK,St.app];refine⟨?_,?_,?_⟩;funext t;cases dst with
 |none=>simp[AA,zn]
 |some d=>
  simp[AA,zn,pd,lk];by_cases h:d=t<;>simp[h,aiw]
 funext j
 induction upd with
 |nil=>rfl
 |cons p u ih=>
  obtain⟨q,x⟩:=p;simp[jh,bT,xm,lk]at ih ⊢;by_cases h:j=q;simp[h];rw[aU h,aU (Ne.symm h)];exact ih
 funext t;cases dst with
 |none=>simp[AA,zn]
 |some d=>
  simp[AA,zn,lk];by_cases h:d=t;simp[h];cases dv<;>rfl;simp[aU h]
theorem aix(b:cE X)(e:List (Nat×DV X))(o:List (Nat×Option (bp X)))(dst:Option Tmp):(iK b e o).app dst (⟨.undef,[],[]⟩,some false)=iK b (zn dst .skip e) o:=by
 simp[iK,St.app];refine⟨?_,rfl,?_⟩;funext t;cases dst with
 |none=>simp[AA,zn]
 |some d=>
  simp[AA,zn,pd,lk];by_cases h:d=t<;>simp[h,den]
 funext t;cases dst with
 |none=>simp[AA,zn]
 |some d=>
  simp[AA,zn,lk];by_cases h:d=t<;>simp[h]
theorem acS(b:cE X)(e:List (Nat×DV X))(o:List (Nat×Option (bp X))):l4 (iK b e o).env=λx=>den (XV (pd e b.env) x):=by funext x;exact(UI _ x).symm
theorem Cj{b:cE X}{e:List (Nat×DV X)}{o:List (Nat×Option (bp X))}{x:Operand}(h:Ki e x=true):wT (iK b e o).ok x=[]:=by
 cases x with
 |tmp t=>
  simp[Ki]at h;simp[wT,iK];cases ht:lk e t with
  |none=>rfl
  |some d=>rw[ht]at h;cases d<;>first|rfl|cases h
 |_=>rfl
theorem aiy{b:cE X}{e:List (Nat×DV X)}{o:List (Nat×Option (bp X))}{P:Program}{T:ec}{i:Nat}{op:Oper}{cm:i7}{get:Nat->Option aM}{out:Out}(hok:QX e b.env op.op=true)
 (h:jP P T i op cm (l4 (iK b e o).env) get=some out):∀p∈needs (iK b e o).env (iK b e o).ok op.op,p:=by
 obtain⟨dst,op,ty,am,after,guard⟩:=op;unfold needs;split
 ·rename_i c x y heq;simp only at heq;subst heq;simp only[QX,bC,Bool.or_eq_true]at hok;obtain⟨hc,hxy⟩:=hok;have hb:∃t,l4 (iK b e o).env c=.t (.sc (.bool t)):=by
   have h0:(∃ n,cm=.ext n)\/(∃ ab fr q,cm=.wc ab fr q)\/ql T i ⟨dst,.pick c x y,ty,am,after,guard⟩ cm (l4 (iK b e o).env) get=some out:=(by cases cm<;>first|exact .inl ⟨_,rfl⟩|exact .inr (.inl ⟨_,_,_,rfl⟩)|exact .inr (.inr h));rcases h0 with ⟨n,rfl⟩|⟨ab,fr,q,rfl⟩|h0
   ·simp[jP,sI,Nm,sH]at h
   ·simp[jP,Gy,aeR]at h
   ·simp only[ql]at h0;split at h0
    ·rename_i t ht;exact⟨t,ht⟩
    ·cases h0
  obtain⟨t,ht⟩:=hb;rw[ht];simp only[Cj hc,fJ];rcases hxy with ⟨hx,hy⟩|hxy
  ·simp[Cj hx,Cj hy]
  ·split at hxy
   ·rename_i t' ht';have e1:l4 (iK b e o).env c=.t (.sc (.bool t')):=(by rw[acS];simp only[ht'];rfl);rw[e1]at ht;injection ht with ht;injection ht with ht;injection ht with ht;subst ht;cases t' with
    |true=>
     simp only[aj]at hxy;simp[Cj hxy]
    |false=>
     simp only[ay]at hxy;simp[Cj hxy]
   ·cases hxy
 ·rename_i o' hne;intro p hp;have hall:∀x∈op.operands.toList,Ki e x=true:=by have:QX e b.env op=op.operands.toList.all (Ki e):=(by cases op<;>first|rfl|exact(hne _ _ _ rfl).elim);rw[this]at hok;exact all_eq_true.1 hok
  simp only[mem_flatMap]at hp;obtain⟨x,hx,hp⟩:=hp;rw[Cj (hall x hx)]at hp;simp at hp
theorem aj2{a b:List Prop}(h:∀p∈a,p)(h':kJ b):kJ (a++b):=qR _ (ic h (LF b h'))
variable {Γ:FuncId->Option (b7 X)} {fz:List Nat} {T:ec} {code:TypeId->Option (CT X.ι)} {ag:Array Oper} {b:cE X} {P:Program}
theorem aiz(hΓ:pH P Γ){i:Nat}{op:Oper}{e:List (Nat×DV X)}{o:List (Nat×Option (bp X))}{k:KK X A}{r:A}(hop:ag[i]? =some op)(hw:want ag op (iK b e o).env (iK b e o).ok=some true)(hok:QX e b.env op.op=true)
 (h:E3 Γ fz T code i op.op (XV (pd e b.env)) (xm o b.obj) k=some r):
 ∃(a:nh)(dv:DV X)(upd:List (Nat×Option (bp X))),a.sym=false/\k dv upd a.rd a.wr=some r/\∀(cP:Nat->nh)(K:St->Prop),cP i=a->K (iK b (zn op.dst (Vl dv) e) (upd++o))->xz P T ag cP i K (iK b e o):=by
 have⟨cm,rd,wr,dv,upd,out,h1,h2,h3,h4,h5,h6⟩:=afo hΓ h;refine⟨⟨cm,rd,wr,false⟩,dv,upd,rfl,h6,λcP K ha hK=>?_⟩;have h1':jP P T i op cm (l4 (iK b e o).env) (dJ rd (iK b e o).obj)=some out:=by rw[acS];exact h1
 refine⟨op,(⟨out.v,out.upd,needs (iK b e o).env (iK b e o).ok op.op++out.obs⟩,none),hop,?_,?_,?_⟩;simp only[opAt,hop,ai,hw,ha,h1'];rw[aX];rw[all_eq_true];intro p hp;rw[h4]at hp;simp only[jh,mem_map]at hp;obtain⟨q,hq,rfl⟩:=hp;rcases h5 q hq with h|h;simp[h,Ur.2 (.inl rfl:io (cC i) (cC i))];simp[h];exact aj2 (aiy hok h1') h2;rw[h3,h4,aj1];exact hK
theorem step_skip{i:Nat}{op:Oper}{e:List (Nat×DV X)}{o:List (Nat×Option (bp X))}(hop:ag[i]? =some op)(hw:want ag op (iK b e o).env (iK b e o).ok=some false)
 (cP:Nat->nh) (K:St->Prop) (ha:cP i=⟨.none,[],[],false⟩) (hK:K (iK b (zn op.dst .skip e) o)):xz P T ag cP i K (iK b e o):=by refine⟨op,(⟨.undef,[],[]⟩,some false),hop,?_,trivial,?_⟩;simp[opAt,hop,hw,ha];rw[aix];exact hK
theorem afp{e:List (Nat×DV X)}{o:List (Nat×Option (bp X))}{t:Nat}{v:Bool}(h:pd e b.env t=.c .bool v):iK b ((t,.c .bool v)::e) o=iK b e o:=by
 simp[iK];refine⟨?_,?_⟩;funext s;by_cases hs:t=s;subst hs;rw[h];simp[pd,lk];simp[pd,lk,hs];funext s;by_cases hs:t=s;subst hs;simp[lk];unfold pd at h;cases ht:lk e t with
 |none=>rfl
 |some d=>rw[ht]at h;simp at h;subst h;rfl
 simp[lk,hs]
def JB(tr:List (Nat×nh)):FS:=tr.map λp=>(p.1,p.2.rd,p.2.wr)
def QY(ag:Array Oper)(t:Nat):Prop:=∃(j:Nat)(op:Oper),ag[j]? =some op/\op.dst=some t
theorem acT{dst:Option Tmp}{dv:DV X}{e:List (Nat×DV X)}{p:Nat×DV X}(h:p∈zn dst dv e):p∈e\/dst=some p.1:=by
 cases dst with
 |none=>exact .inl h
 |some t=>
  simp[zn]at h;rcases h with rfl|h;exact .inr rfl;exact .inl h
theorem DX(hΓ:pH P Γ){k:List (Nat×DV X)->List (Nat×Option (bp X))->FS->Option A}{r:A}:∀(l:List Nat)(e:List (Nat×DV X))(o:List (Nat×Option (bp X)))(oy:FS),yC Γ fz T code ag b k l e o oy=some r->
 ∃(tr:List (Nat×nh))(e':List (Nat×DV X))(o':List (Nat×Option (bp X))),tr.map (·.1)=l/\k e' o' ((JB tr).reverse++oy)=some r/\(∀ p∈e',p∈e\/QY ag p.1)/\
  ∀cP:Nat->nh,(∀ p∈tr,cP p.1=p.2)->Uy P T ag cP (λ σ=>σ=iK b e' o') l (iK b e o)
 |[],e,o,oy,h=>⟨[],e,o,rfl,h,λ_ hp=>.inl hp,λ_ _=>rfl⟩
 |i::l,e,o,oy,h=>by
  simp[yC]at h;have⟨op,hop,h⟩:=ah.1 h
  have exec:∀e:List (Nat×DV X),want ag op (iK b e o).env (iK b e o).ok=some true->
   (bif QX e b.env op.op then E3 Γ fz T code i op.op (XV (pd e b.env)) (xm o b.obj) λdv upd rd wr=>yC Γ fz T code ag b k l (zn op.dst (Vl dv) e) (upd++o) ((i,rd,wr)::oy)else none)=some r->
   ∃(tr:List (Nat×nh)) (e':List (Nat×DV X)) (o':List (Nat×Option (bp X))),tr.map (·.1)=i::l/\k e' o' ((JB tr).reverse++oy)=some r/\(∀ p∈e',p∈e\/QY ag p.1)/\
    ∀cP:Nat->nh,(∀ p∈tr,cP p.1=p.2)->Uy P T ag cP (λ σ=>σ=iK b e' o') (i::l) (iK b e o):=by intro e hw h;have⟨hok,h⟩:=dQ h;have⟨a,dv,upd,_,h1,h2⟩:=aiz hΓ hop hw hok h;obtain⟨tr,e',o',g1,g2,g4,g3⟩:=DX hΓ l _ _ _ h1;refine⟨(i,a)::tr,e',o',by simp[g1],?_,λp hp=>(g4 p hp).elim (λ hp=>(acT hp).elim .inl λhd=>.inr ⟨i,op,hop,hd⟩) .inr,λcP ha=>?_⟩;simpa[JB]using g2;exact h2 cP _ (ha (i,a) (by simp)) (g3 cP λp hp=>ha p (by simp[hp]))
  have skip:∀e:List (Nat×DV X),want ag op (iK b e o).env (iK b e o).ok=some false->yC Γ fz T code ag b k l (zn op.dst .skip e) o ((i,[],[])::oy)=some r->
   ∃(tr:List (Nat×nh)) (e':List (Nat×DV X)) (o':List (Nat×Option (bp X))),tr.map (·.1)=i::l/\k e' o' ((JB tr).reverse++oy)=some r/\(∀ p∈e',p∈e\/QY ag p.1)/\
    ∀cP:Nat->nh,(∀ p∈tr,cP p.1=p.2)->Uy P T ag cP (λ σ=>σ=iK b e' o') (i::l) (iK b e o):=by intro e hw h;obtain⟨tr,e',o',g1,g2,g4,g3⟩:=DX hΓ l _ _ _ h;refine⟨(i,⟨.none,[],[],false⟩)::tr,e',o',by simp[g1],?_,λp hp=>(g4 p hp).elim (λ hp=>(acT hp).elim .inl λhd=>.inr ⟨i,op,hop,hd⟩) .inr,λcP ha=>?_⟩;simpa[JB]using g2;exact step_skip hop hw cP _ (ha (i,_) (by simp)) (g3 cP λp hp=>ha p (by simp[hp]))
  split at h;rename_i hg;exact exec e (by simp[want,hg]) h;rename_i j p hg;rw[ah]at h;obtain⟨t,ht,h⟩:=h;split at h;rename_i v hv;have hw:∀e:List (Nat×DV X),pd e b.env t=.c .bool v->want ag op (iK b e o).env (iK b e o).ok=some (v==p):=by
   intro e he;simp[want,hg,ht];have h0:(iK b e o).ok t=none:=by
    simp[iK];unfold pd at he;cases hq:lk e t with
    |none=>rfl
    |some d=>rw[hq]at he;simp at he;subst he;rfl
   have h1:(iK b e o).env t=.t (.sc (.bool v)):=(by simp[iK,he];rfl);rw[h0,h1]
  have hk:=afp (b:=b) (o:=o) hv;have hv':pd ((t,.c .bool v)::e) b.env t=.c .bool v:=by simp[pd,lk]
  have htd:QY ag t:=by have⟨oj,h1,h2⟩:=ah.1 ht;exact⟨j,oj,h1,h2⟩
  have wide:(∃ (tr:List (Nat×nh)) (e':List (Nat×DV X)) (o':List (Nat×Option (bp X))),tr.map (·.1)=i::l/\k e' o' ((JB tr).reverse++oy)=some r/\(∀ p∈e',p∈((t,.c .bool v)::e:List (Nat×DV X))\/QY ag p.1)/\
   ∀cP:Nat->nh,(∀ p∈tr,cP p.1=p.2)->Uy P T ag cP (λ σ=>σ=iK b e' o') (i::l) (iK b ((t,.c .bool v)::e) o))->
   ∃(tr:List (Nat×nh))(e':List (Nat×DV X))(o':List (Nat×Option (bp X))),tr.map (·.1)=i::l/\k e' o' ((JB tr).reverse++oy)=some r/\(∀ p∈e',p∈e\/QY ag p.1)/\
   ∀cP:Nat->nh,(∀ p∈tr,cP p.1=p.2)->Uy P T ag cP (λ σ=>σ=iK b e' o') (i::l) (iK b e o):=by rintro⟨tr,e',o',g1,g2,g4,g3⟩;refine⟨tr,e',o',g1,g2,λq hq=>?_,hk ▸ g3⟩;rcases g4 q hq with h|h;rcases aR.1 h with rfl|h;exact .inr htd;exact .inl h;exact .inr h
  apply wide;cases v with
  |true=>
   simp at h;cases p with
   |true=>exact exec _ (hw _ hv') h
   |false=>exact skip _ (hw _ hv') h
  |false=>
   simp at h;cases p with
   |true=>exact skip _ (hw _ hv') h
   |false=>exact exec _ (hw _ hv') h
  rename_i hv;have⟨hsome,h⟩:=dQ h;refine skip e ?_ h;simp[want,hg,ht];have h1:(iK b e o).env t=.undef:=by simp[iK,hv];rfl
  cases hq:lk e t with
  |some d=>
   have h0:(iK b e o).ok t=some false:=(by unfold pd at hv;rw[hq]at hv;simp at hv;subst hv;simp[iK,hq]);rw[h0,h1]
  |none=>rw[hq]at hsome;cases hsome
  cases h
end
section
variable {X:SX} {A:Type}
def fN(nx k:Nat):Nat:=if k<1000000 then k else nx+(k-1000000)
def gN(nx j:Nat):Nat:=if j<nx then j else 1000000+(j-nx)
def HM(nx sz k:Nat):Bool:=decide (k<nx) || (decide (1000000<=k)&&decide (k<1000000+sz))
def okE(nx sz:Nat)(e:List (Nat×DV X)):Bool:=e.all λp=>(bo p.2).all (HM nx sz)
def okO(nx sz:Nat)(o:List (Nat×Option (bp X))):Bool:=o.all λp=>HM nx sz p.1&&match p.2 with|some x=>(d7 x).all (HM nx sz)|none=>true
def Q1(oy:FS):Nat->nh:=λi=>match lk oy i with|some p=>⟨.none,p.1,p.2,false⟩|none=>⟨.none,[],[],false⟩
def Hj(tr:List (Nat×nh)):Nat->nh:=λi=>match lk tr i with|some a=>a|none=>⟨.none,[],[],false⟩
def Nx:DV X->DV X
 |.skip=>.undef
 |x=>x
theorem aj4(x:DV X):den (Nx x)=den x:=by cases x<;>rfl
theorem Zm(x:DV X):bo (Nx x)=bo x:=by cases x<;>rfl
def fin(s:cE X)(e:List (Nat×DV X))(o:List (Nat×Option (bp X)))(sz:Nat):cE X:=
 ⟨e.map (λ p=>(p.1,Nx (rI (fN s.nx) p.2)))++s.env,o.map (λ p=>(fN s.nx p.1,p.2.map (pN (fN s.nx))))++s.obj,s.nx+sz,o.map (λ p=>fN s.nx p.1)++s.log⟩
def aj5(N:Nat)(ag:Array Oper)(d:Bool)(nx:Nat)(e:List (Nat×DV X))(o:List (Nat×Option (bp X)))(oy:FS):Bool:=
 S6 N ag&&(!d || SM ag (Q1 oy))&&okE nx (64*ag.size) e&&okO nx (64*ag.size) o&&decide (nx+64*ag.size<=1000000)
def afq(Γ:FuncId->Option (b7 X))(fz:List Nat)(T:ec)(code:TypeId->Option (CT X.ι))(N:Nat)(ag:Array Oper)(d:Bool)(s:cE X)(k:cE X->Option A):Option A:=
 yC Γ fz T code ag s (λ e o oy=>bif aj5 N ag d s.nx e o oy then k (fin s e o (64*ag.size))else none) (List.range ag.size) [] [] []
theorem acU{ag:Array Oper}{cP ux:Nat->nh}(h:∀i,(cP i).rd=(ux i).rd/\(cP i).wr=(ux i).wr):SM ag cP=SM ag ux:=by
 have h1:wW cP=wW ux:=by funext i j;simp[wW,(h i).1,(h i).2,(h j).1,(h j).2]
 have h2:∀md,OE md ag cP=OE md ag ux:=by intro md;funext listed i;simp[OE,h1]
 have h3:∀(md:Region.Mode)(n k:Nat)(listed:Array Bool),lexFrom' md ag cP n k listed=lexFrom' md ag ux n k listed:=by
  intro md n
  induction n with
  |zero=>intro k listed;rfl
  |succ n ih=>intro k listed;simp[lexFrom',h2,ih]
 exact h3 _ _ _ _
theorem Ck{α:Type}:∀(a b:List (Nat×α))(k:Nat),lk (a++b) k=match lk a k with|some x=>some x|none=>lk b k
 |[],_,_=>rfl
 |(j,x)::a,b,k=>by simp[lk];by_cases h:j=k;simp[h];simp[aU h,Ck a b k]
theorem ahg{α:Type}:∀{l:List (Nat×α)}{k:Nat},lk l k=none->∀x,(k,x)∉l
 |(j,y)::r,k,h,x=>by simp[lk]at h;split at h;cases h;rename_i hn;simp only[aR,Prod.mk.injEq,not_or];exact⟨λ e=>hn e.1.symm,ahg h x⟩
 |[],_,_,_=>by simp
theorem am7{tr:List (Nat×nh)}(hn:(tr.map (·.1)).Nodup)(i:Nat):(Q1 (JB tr).reverse i).rd=(Hj tr i).rd/\(Q1 (JB tr).reverse i).wr=(Hj tr i).wr:=by
 have hn':((JB tr).reverse.map (·.1)).Nodup:=by
  rw[List.map_reverse];have h1:((JB tr).map (·.1)).Nodup:=by simpa[JB,Function.comp_def]using hn
  exact List.pairwise_reverse.2 (h1.imp λh=>Ne.symm h)
 unfold Q1 Hj;cases h:lk tr i with
 |none=>
  cases h':lk (JB tr).reverse i with
  |none=>exact⟨rfl,rfl⟩
  |some p=>
   have:=qp h';simp only[JB,List.mem_reverse,mem_map]at this;obtain⟨q,hq,he⟩:=this;injection he with e1 e2;subst e1;exact(ahg h q.2 hq).elim
 |some a=>
  have h1:=qp h;have h2:(i,a.rd,a.wr)∈(JB tr).reverse:=by simp only[JB,List.mem_reverse,mem_map];exact⟨(i,a),h1,rfl⟩
  rw[uN hn' h2];exact⟨rfl,rfl⟩
theorem aj6{tr:List (Nat×nh)}(hn:(tr.map (·.1)).Nodup):∀p∈tr,Hj tr p.1=p.2:=by rintro⟨i,a⟩ hp;rw[Hj,uN hn hp]
theorem Vm{nx sz k:Nat}(h:HM nx sz k=true):k<nx\/(1000000<=k/\k<1000000+sz):=by simpa[HM]using h
theorem gfN{nx sz k:Nat}(hle:nx+sz<=1000000)(h:k<nx\/(1000000<=k/\k<1000000+sz)):gN nx (fN nx k)=k:=by grind [gN,fN]
theorem Zn{nx sz k:Nat}(hle:nx+sz<=1000000)(h:k<nx\/(1000000<=k/\k<1000000+sz)):fN nx k<nx+sz:=by grind [fN]
theorem RE{nx k:Nat}(hle:nx<=1000000)(h:k<nx):fN nx k=k:=aX (by omega)
mutual
theorem Vn{f:Nat->Nat}:∀x:DV X,(∀ k∈bo x,f k=k)->rI f x=x
 |.own k _ _,h|.ptr k _ _,h|.qt k _ _,h|.mp k,h|.oz k _,h|.tw k _ _ _ _,h=>by simp[rI,h k (by simp[bo])]
 |.agg cs,h|.eR cs,h=>by simp[rI,DY cs (by simpa[bo]using h)]
 |.fn F first caps,h=>by simp[rI,DY first (λ k hk=>h k (by simp[bo,hk])),DY caps (λ k hk=>h k (by simp[bo,hk]))]
 |.c _ _,_|.rp _ _ _,_|.xf _ _ _ _ _,_|.du _ _ _,_|.raw _,_|.nil,_|.ub,_|.skip,_|.undef,_=>rfl
theorem DY{f:Nat->Nat}:∀l:List (DV X),(∀ k∈aL l,f k=k)->KE f l=l
 |[],_=>rfl
 |x::xs,h=>by simp[KE,Vn x (λ k hk=>h k (by simp[aL,hk])),DY xs (λ k hk=>h k (by simp[aL,hk]))]
end
mutual
theorem Vo(f:Nat->Nat):∀x:DV X,bo (rI f x)=(bo x).map f
 |.own _ _ _|.ptr _ _ _|.qt _ _ _|.mp _|.oz _ _|.tw _ _ _ _ _=>rfl
 |.agg cs|.eR cs=>by simp[rI,bo,Cm f cs]
 |.fn F first caps=>by simp[rI,bo,Cm f first,Cm f caps]
 |.c _ _|.rp _ _ _|.xf _ _ _ _ _|.du _ _ _|.raw _|.nil|.ub|.skip|.undef=>rfl
theorem Cm(f:Nat->Nat):∀l:List (DV X),aL (KE f l)=(aL l).map f
 |[]=>rfl
 |x::xs=>by simp[KE,aL,Vo f x,Cm f xs]
end
theorem acV(f:Nat->Nat)(o:bp X):d7 (pN f o)=(d7 o).map f:=by
 cases o with
 |cells sz rows=>simp[pN,d7];congr 1;exact map_congr_left λr _=>Cm f r
 |eb c l|map kc vc l=>rfl
theorem aj7{α β:Type}(f:α->β):∀(l:List (Nat×α))(k:Nat),lk (l.map λp=>(p.1,f p.2)) k=(lk l k).map f
 |[],_=>rfl
 |(j,x)::r,k=>by simp[lk];by_cases h:j=k;simp[h];simp[aU h,aj7 f r k]
theorem ahi{α β:Type}(f:α->β)(g:Nat->Nat):∀(l:List (Nat×α))(j:Nat),(∀ p∈l,∀q∈l,g p.1=g q.1->p.1=q.1)->
 (∀ y,lk (l.map λp=>(g p.1,f p.2)) j=some y->∃k x,lk l k=some x/\g k=j/\y=f x)/\(lk (l.map λp=>(g p.1,f p.2)) j=none->∀p∈l,g p.1≠j)
 |[],_,_=>⟨λ _ h=>by simp[lk]at h,λ_=>by simp⟩
 |(k0,x0)::r,j,hi=>by
  obtain⟨i1,i2⟩:=ahi f g r j (λ p hp q hq=>hi p (by simp[hp]) q (by simp[hq]));simp[lk];by_cases h:g k0=j;rw[aX h];exact⟨λ y hy=>by injection hy with hy;exact⟨k0,x0,by simp,h,hy.symm⟩,λhn=>by cases hn⟩
  grind
structure Ext(ds:Nat->Prop)(s s':cE X):Prop where
 env:∀t,¬ds t->dC s'.env t=dC s.env t\/dC s'.env t=.undef
 obj:∃d,s'.log=d++s.log/\∀k,k<s.nx->k∉d->fj s'.obj k=fj s.obj k\/fj s'.obj k=none
 nx:s.nx<=s'.nx
variable {Γ:FuncId->Option (b7 X)} {fz:List Nat} {T:ec} {code:TypeId->Option (CT X.ι)} {P:Program} {N:Nat}
theorem Mc(s:cE X)(e:List (Nat×DV X))(o:List (Nat×Option (bp X)))(sz t:Nat):dC (fin s e o sz).env t=match lk e t with|some d=>Nx (rI (fN s.nx) d)|none=>dC s.env t:=by simp[fin,dC,Ck,aj7 (λ d=>Nx (rI (fN s.nx) d))];cases lk e t<;>rfl
theorem aaO(hT:eY P T)(hm:P.follows .mixedOrders=true)(hΓ:pH P Γ){id:Nat}{ag:Array Oper}{d:Bool}{s:cE X}{k:cE X->Option A}{r:A}(hl:Low s)(h:afq Γ fz T code N ag d s k=some r):
 ∃s':cE X,k s'=some r/\Low s'/\Ext (QY ag) s s'/\Ev P N (.region id ag d) (λ e σ=>e=.normal/\σ=s'.st) s.st:=by
 unfold afq at h;obtain⟨tr,e,o,h1,h2,h3,h4⟩:=DX hΓ _ _ _ _ h;have⟨h5,h6⟩:=dQ h2;simp only[aj5,bC,append_nil]at h5;obtain⟨⟨⟨⟨hd,hlex⟩,hE⟩,hO⟩,hnx⟩:=h5;have hle:s.nx+64*ag.size<=1000000:=of_decide_eq_true hnx;have IT:(tr.map (·.1)).Nodup:=by rw[h1];exact List.nodup_range
 have hEn:∀t x,lk e t=some x->∀j∈bo x,j<s.nx\/(1000000<=j/\j<1000000+64*ag.size):=by intro t x hx j hj;have:=all_eq_true.1 hE _ (qp hx);exact Vm (all_eq_true.1 this j hj)
 have KB:∀p∈o,(p.1<s.nx\/(1000000<=p.1/\p.1<1000000+64*ag.size))/\∀x,p.2=some x->∀j∈d7 x,j<s.nx\/(1000000<=j/\j<1000000+64*ag.size):=by intro p hp;have:=all_eq_true.1 hO _ hp;simp at this;refine⟨Vm this.1,λx hx j hj=>?_⟩;have h2:=this.2;rw[hx]at h2;exact Vm (all_eq_true.1 h2 j hj)
 have hinj:∀p∈o,∀q∈o,fN s.nx p.1=fN s.nx q.1->p.1=q.1:=by
  intro p hp q hq he;have:=congrArg (gN s.nx) he
  rwa [gfN hle (KB p hp).1,gfN hle (KB q hq).1]at this
 have xp:∀j,(∃ q x,lk o q=some x/\fN s.nx q=j/\fj (fin s e o (64*ag.size)).obj j=x.map (pN (fN s.nx)))\/(fj (fin s e o (64*ag.size)).obj j=fj s.obj j/\∀p∈o,fN s.nx p.1≠j):=by
  intro j;obtain⟨i1,i2⟩:=ahi (λ x:Option (bp X)=>x.map (pN (fN s.nx))) (fN s.nx) o j hinj;simp only[fin,fj,Ck];cases hj:lk (o.map λp=>(fN s.nx p.1,p.2.map (pN (fN s.nx)))) j with
  |none=>exact .inr ⟨rfl,i2 hj⟩
  |some y=>
   have⟨q,x,g1,g2,g3⟩:=i1 y hj;exact .inl ⟨q,x,g1,g2,by rw[g3];rfl⟩
 refine⟨fin s e o (64*ag.size),h6,?_,?_,?_⟩;constructor;exact hle;have:=hl.ge;show 1000<=s.nx+64*ag.size;omega;intro t j hj;rw[Mc]at hj;cases ht:lk e t with
 |none=>rw[ht]at hj;have:=hl.env t j hj;show j<s.nx+64*ag.size;omega
 |some x=>
  rw[ht,Zm,Vo]at hj;obtain⟨q,hq,rfl⟩:=mem_map.1 hj;exact Zn hle (hEn t x ht q hq)
 intro j x hx;rcases xp j with ⟨q,y,g1,rfl,g3⟩|⟨g1,_⟩;rw[g3]at hx;rw[jI]at hx;obtain⟨z,rfl,rfl⟩:=hx;obtain⟨k1,k2⟩:=KB _ (qp g1);refine⟨Zn hle k1,λi hi=>?_⟩;rw[acV]at hi;obtain⟨i',hi',rfl⟩:=mem_map.1 hi;exact Zn hle (k2 z rfl i' hi');rw[g1]at hx;have⟨k1,k2⟩:=hl.obj j x hx;refine⟨show j<s.nx+64*ag.size by omega,λi hi=>?_⟩;have:=k2 i hi;show i<s.nx+64*ag.size;omega;refine⟨λ t ht=>.inl ?_,⟨o.map (λ p=>fN s.nx p.1),rfl,λj hj hn=>?_⟩,by show s.nx<=s.nx+64*ag.size;omega⟩;rw[Mc];cases hx:lk e t with
 |none=>rfl
 |some x=>
  rcases h3 _ (qp hx)with h|h;simp at h;exact(ht h).elim
 rcases xp j with ⟨q,y,g1,g2,g3⟩|⟨g1,_⟩;exact(hn (mem_map.2 ⟨(q,y),qp g1,g2⟩)).elim;exact .inl g1;have hst:iK s [] []=s.st:=rfl;have hex:=h4 (Hj tr) (aj6 IT);rw[hst]at hex;intro _ w0 O0 β I a w hr ho;have done:∀(e':Exit)(a':Act)(w':World),(∃ β' I' σ1,Rel P w0 O0 N β' I' σ1 a' w'/\e'=.normal/\σ1=iK s e o)->∃ β' I' σ1,Rel P w0 O0 N β' I' σ1 a' w'/\tR σ1/\e'=.normal/\σ1=(fin s e o (64*ag.size)).st:=by
  rintro e' a' w' ⟨β',I',σ1,g1,rfl,rfl⟩;refine⟨_,I',(fin s e o (64*ag.size)).st,Rel.re (f:=fN s.nx) (g:=gN s.nx) (D:=λk=>k<s.nx\/(1000000<=k/\k<1000000+64*ag.size)) (λ k hk=>gfN hle hk) (λ j hj=>by have:=hl.ge;unfold gN;rw[aX (by omega)]) g1 (λ t=>?_) (λ _=>rfl) (λ t=>.inr ?_) (λ j o' hj=>?_),?_,rfl,rfl⟩;show(match lk e t with|some .skip=>some false|_=>none)=none\/den (dC (fin s e o (64*ag.size)).env t)=.undef;rw[Mc];cases ht:lk e t with
  |none=>exact .inl rfl
  |some d=>cases d<;>first|exact .inl rfl|exact .inr rfl
  show(∀ k∈refs (den (pd e s.env t)),_)/\k8 (jt (fN s.nx) (den (pd e s.env t))) (den (dC (fin s e o (64*ag.size)).env t));rw[Mc,iH,<- zT];unfold pd;cases ht:lk e t with
  |none=>
   refine⟨λ q hq=>.inl (hl.env t q hq),?_⟩;rw[Vn _ (λ q hq=>RE (by omega) (hl.env t q hq))];exact k8.refl _
  |some x=>exact⟨hEn t x ht,by simp[aj4];exact k8.refl _⟩
  simp[cE.st]at hj;obtain⟨x,hx,rfl⟩:=hj;rcases xp j with ⟨q,y,i1,rfl,i3⟩|⟨i1,i2⟩;rw[i3,jI]at hx;obtain⟨z,rfl,rfl⟩:=hx;obtain⟨k1,k2⟩:=KB _ (qp i1);obtain⟨r1,r2⟩:=Jg (D:=λk=>k<s.nx\/(1000000<=k/\k<1000000+64*ag.size)) (fN s.nx) z (λ i hi=>k2 z rfl i hi);refine⟨q,bI z,?_,k1,rfl,r1,r2⟩;simp[iK,xm,i1];rw[i1]at hx;have⟨k1,k2⟩:=hl.obj j x hx;have hid:pN (fN s.nx) x=x:=by
   cases x with
   |eb c l|map kc vc l=>rfl
   |cells sz rows=>
    simp[pN];congr 1;have:∀q∈rows,KE (fN s.nx) q=q:=λq hq=>DY q λi hi=>RE (by omega) (k2 i (by simp[d7];exact⟨_,⟨q,hq,rfl⟩,hi⟩));rw[map_congr_left this];simp
  obtain⟨r1,r2⟩:=Jg (D:=λk=>k<s.nx\/(1000000<=k/\k<1000000+64*ag.size)) (fN s.nx) x (λ i hi=>.inl (k2 i hi));rw[hid]at r1 r2;refine⟨j,bI x,?_,.inl k1,RE (by omega) k1,r1,r2⟩;simp[iK,xm];cases hlo:lk o j with
  |none=>simp[hx]
  |some y=>exact(i2 _ (qp hlo) (RE (by omega) k1)).elim
  have hL:Low (fin s e o (64*ag.size)):=by
   constructor;exact hle;have:=hl.ge;show 1000<=s.nx+64*ag.size;omega;intro t j hj;rw[Mc]at hj;cases ht:lk e t with
   |none=>rw[ht]at hj;have:=hl.env t j hj;show j<s.nx+64*ag.size;omega
   |some x=>
    rw[ht,Zm,Vo]at hj;obtain⟨q,hq,rfl⟩:=mem_map.1 hj;exact Zn hle (hEn t x ht q hq)
   intro j x hx;rcases xp j with ⟨q,y,g1,rfl,g3⟩|⟨g1,_⟩;rw[g3]at hx;rw[jI]at hx;obtain⟨z,rfl,rfl⟩:=hx;obtain⟨k1,k2⟩:=KB _ (qp g1);refine⟨Zn hle k1,λi hi=>?_⟩;rw[acV]at hi;obtain⟨i',hi',rfl⟩:=mem_map.1 hi;exact Zn hle (k2 z rfl i' hi');rw[g1]at hx;have⟨k1,k2⟩:=hl.obj j x hx;refine⟨show j<s.nx+64*ag.size by omega,λi hi=>?_⟩;have:=k2 i hi;show i<s.nx+64*ag.size;omega
  exact hL.old
 cases d with
 |false=>exact wpIn_mono (ah9 hT hd ho hex hr) done
 |true=>
  refine wpIn_mono (UA hT hm hd ?_ ho hex hr) done;rw[<- acU (am7 IT)];simpa using hlex
end
end Go.Gb
namespace Go.Gb
open Go.RowKit
structure Sh(ι:Type) where
 slots:List (Nat×Pt ι)
 cw:List (Nat×OP ι)
 keep:List Nat
 cT:List Nat
 nx:Nat
 BC:List (Nat×CT ι)
def Sh.vars{ι:Type}(s:Sh ι):List (CT ι):=gO s.slots++cX s.cw
section
variable {X:SX}
def nz(z:Bool)(k:Nat):DV X:=bif z then .oz k 0 else .own k 0 0
def AI(z:Bool)(s:cE X)(t:Nat)(c:CT X.ι):cE X:=
 match dC s.env t with
 |.nil=>if s.nx<1000000 then⟨(t,nz z s.nx)::s.env,(s.nx,some (.eb c []))::s.obj,s.nx+1,s.nx::s.log⟩else s
 |_=>s
def Hi(s:cE X)(q j:Nat)(c:CT X.ι):cE X:=
 match fj s.obj q with
 |some (.cells sz [row])=>match row[j]? with
  |some .nil=>if s.nx<1000000 then⟨s.env,(q,some (.cells sz [row.set j (.own s.nx 0 0)]))::(s.nx,some (.eb c []))::s.obj,s.nx+1,q::s.nx::s.log⟩else s
  |_=>s
 |_=>s
def O3:List (Nat×CT X.ι)->cE X->cE X
 |[],s=>s
 |(t,c)::r,s=>O3 r (bif Nat.ble 1000000 t then bif Nat.ble 1099511627776 t then AI true s (t-1099511627776) c else Hi s ((t-1000000)/4096) ((t-1000000)%4096) c else AI false s t c)
def isU:DV X->Bool
 |.undef|.skip=>true
 |_=>false
def encS(sh:Sh X.ι)(s0:cE X)(v:VT (X:=X) sh.vars):cE X:=
 let L:=vO sh.vars v
 let n:=(gO sh.slots).length
 let ol:=λk=>(lk (lens sh.cw (L.drop n)) k).getD 0
 ⟨wE ol sh.slots (L.take n)++sh.keep.map (λ t=>(t,dC s0.env t)),bV ol sh.cw (L.drop n)++sh.cT.map (λ k=>(k,fj s0.obj k)),sh.nx,
  (List.range s0.nx).filter (λ k=>!sh.cT.contains k)++s0.log⟩
def okS(b:Bool)(sh:Sh X.ι)(ds:List Nat)(s0 s':cE X)(m:MA X):Bool:=
 decide (m.nm.map (·.1)++sh.cT).Nodup&&decide (m.nm.map (·.2)++sh.cT).Nodup&&decide (sh.cw.map (·.1)).Nodup&&m.nm.all (λ q=>(sh.cw.map (·.1)).contains q.2&&decide (q.2<sh.nx)&&(decide (q.1=q.2) || decide (1000<=q.2) || !b))&&
  sh.slots.all (λ p=>ds.contains p.1)&&sh.keep.all (λ t=>!ds.contains t&&!isU (dC s'.env t)&&(bo (dC s0.env t)).all λj=>sh.cT.contains j || m.nm.contains (j,j))&&
  sh.cT.all (λ k=>decide (k<s0.nx)&&!(s'.log.take (s'.log.length-s0.log.length)).contains k&&(fj s'.obj k).isSome&&match fj s0.obj k with|some o=>(d7 o).all λj=>sh.cT.contains j || m.nm.contains (j,j)|none=>false)&&
  decide (s0.nx<=sh.nx)&&decide (sh.nx<=1000000)
def Th{A:Type}(b:Bool)(sh:Sh X.ι)(ds:List Nat)(s0 s':cE X)(k:VT (X:=X) sh.vars->Option A):Option A:=
 (GU (fj s'.obj) (dC s'.env) sh.slots ⟨[],[],[]⟩).bind λm=>(Cf (fj s'.obj) sh.cw m).bind λm=>bif okS b sh ds s0 s' m then(E6 sh.vars m.er).bind λv=>UL m.iS (k v)else none
def afr{A:Type}(b:Bool)(sh:Sh X.ι)(ds:List Nat)(s0 s':cE X)(k:VT (X:=X) sh.vars->Option A):Option A:=
 bif sh.BC.all (λ p=>bif Nat.ble 1000000 p.1 then !Nat.ble 1099511627776 p.1 || ds.contains (p.1-1099511627776)else ds.contains p.1)then Th b sh ds s0 (O3 sh.BC s') k else none
def o9{A:Type}(sh:Sh X.ι)(ds:List Nat)(s0 s':cE X)(k:VT (X:=X) sh.vars->Option A):Option A:=afr true sh ds s0 s' k
end
end Go.Gb
