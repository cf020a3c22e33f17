import Derived.Test.YtaelkbidpfffmaaGreatW1
import Derived.Maps.RangeRun
import Derived.ChangeSame
import Derived.Carry
import Derived.OpenShut
import Derived.SizedLaws
import Derived.WalkKit
import Derived.ProofKit
import Derived.Lib.LaidTab
open List (mem_map all_eq_true cons_append length_map append_nil map_map take_of_length_le map_congr_left flatten_cons map_nil all_cons map_take map_drop mem_flatMap mem_append_left mem_append_right)
namespace Go.Gb
open Go.RowKit Go.MapKept
structure RgI where
 x:Operand
 t:TypeId
 a0:Nat
 it:Nat
 nn:Nat
 b:Nat
 e:Nat
 xx:Nat
 kv:Nat
 j:Nat
 j2:Nat
 body:Code
section
variable {P:Program} {w0:World} {O0:kq} {N:Nat} {β:Nat->Option cJ} {I:Nat->Prop} {σ:St} {a:Act} {w:World}
def St.put(σ:St)(d:Nat)(x:AV):St:=⟨Ao σ.env (some d) x,σ.obj,Ao σ.ok (some d) none⟩
theorem Rel.put(hr:Rel P w0 O0 N β I σ a w){d:Nat}(hd:d<N){x:AV}{v:Value}(hv:VR P β w I x v):Rel P w0 O0 N β I (σ.put d x) (a.put (some d) v) w:=by
 refine⟨by simpa[Act.put]using hr.defers,by simpa[Act.put]using hr.size,λt=>?_,hr.mem⟩;have hold:=hr.env t;simp only[St.put,Ao,Act.put,bP];by_cases hdt:d=t;subst hdt;rw[bA rfl,bA rfl];have e:(a.tmps.setIfInBounds d v).getD d undef=v:=by simp[Nat.lt_of_lt_of_eq hd hr.size.symm]
 rw[e];exact hv;rw[bn hdt,bn hdt];simpa[Array.getElem?_setIfInBounds_ne hdt]using hold
structure sn(β:Nat->Option cJ)(I:Nat->Prop)(obj:Nat->Option aS)(w:World)(r:Nat):Prop where
 lt:r<w.heap.size
 GF:¬I r
 obj:∀k o,obj k=some o->¬gj β k r
theorem Rel.world{w':World}(hr:Rel P w0 O0 N β I σ a w)(hs:Same I w w')(hm:Mem P w0 O0 β I σ.obj w'):Rel P w0 O0 N β I σ a w':=
 ⟨hr.defers,hr.size,λt=>eW.mono (λ _ _ h=>h) hs (λ _ h=>h) (hr.env t),hm⟩
end
open Go.RowKit
def kept(os':List (Option eH))(j:Nat):Prop:=∃p,os'[j]? =some (some p)
def yd(get:Nat->Option aS)(fk:Option Nat)(os':List (Option eH)):AV->Tree->Prop
 |.t x,y=>y=x
 |.cT,y=>y=.sl []
 |.oz k len,y=>fk≠some k/\¬kept os' k/\∃o dg,get k=some o/\(o.rows.drop 0).take len=aF dg/\dg.length=len/\y=.sl dg
 |.own k aa len,y=>fk≠some k/\¬kept os' k/\∃o dg,get k=some o/\(o.rows.drop aa).take len=aF dg/\dg.length=len/\y=.sl dg
 |_,_=>False
def lp(get:Nat->Option aS)(fk:Option Nat)(os':List (Option eH)):List AV->List Tree->Prop
 |[],[]=>True
 |x::xs,y::ys=>yd get fk os' x y/\lp get fk os' xs ys
 |_,_=>False
def ej(get:Nat->Option aS)(fk:Option Nat)(os':List (Option eH)):List (List AV)->List (List Tree)->Prop
 |[],[]=>True
 |x::xs,y::ys=>lp get fk os' x y/\ej get fk os' xs ys
 |_,_=>False
def D1(get:Nat->Option aS)(fk:Option Nat)(os':List (Option eH)):AV->RC->Prop
 |.agg cs,.d (.a ts)=>lp get fk os' cs ts
 |x,.d (.s y)=>yd get fk os' x y
 |.cT,.fresh _ rows=>rows=[]
 |.own k aa len,.fresh sz rows=>fk=some k/\¬kept os' k/\aa=0/\∃o,get k=some o/\o.sz=sz/\ej get fk os' (o.rows.take len) rows/\rows.length=len
 |.own k aa len,.whole j len'=>k=j/\aa=0/\len'=len/\kept os' j
 |_,_=>False
def m4(get:Nat->Option aS)(fk:Option Nat)(os':List (Option eH)):List AV->List RC->Prop
 |[],[]=>True
 |x::xs,c::cs=>D1 get fk os' x c/\m4 get fk os' xs cs
 |_,_=>False
def DS(get:Nat->Option aS)(fk:Option Nat)(os':List (Option eH)):List AV->RV->Prop
 |[x],.one c=>D1 get fk os' x c
 |x::y::r,.eV cs=>m4 get fk os' (x::y::r) cs
 |[],.eV cs=>cs=[]
 |_,_=>False
def KB(get:Nat->Option aS)(fk:Option Nat)(os':List (Option eH)):Prop:=
 ∀(j:Nat) p,os'[j]? =some (some p)->fk≠some j/\∃o,get j=some o/\o.sz=p.1/\ej get fk os' (o.rows.take p.2.length) p.2
def Sl(T:el)(t:TypeId)(x:AV)(obj:Nat->Option aS):Option Out:=
 JG T t x .none obj
def N7(T:el)(σ:St):ResultVar->Option AV
 |.tmp t=>match σ.ok t with
  |none=>some (σ.env t)
  |some _=>none
 |.cell a t=>match σ.ok a with
  |none=>match Sl T t (σ.env a) σ.obj with
   |some ⟨v,[],[]⟩=>some v
   |_=>none
  |some _=>none
def ni(T:el)(σ:St):List ResultVar->Option (List AV)
 |[]=>some []
 |r::rs=>(N7 T σ r).bind λv=>(ni T σ rs).bind λvs=>some (v::vs)
def TP(tmps:Array Value):ResultVar->Sem Value
 |.tmp t=>pure (tmps.getD t undef)
 |.cell a t=>do loadVar t (<- asAddr (tmps.getD a undef))
theorem TQ(fn:Func)(tmps:Array Value):results fn tmps=(fn.results.mapM (TP tmps))>>=λvs=>pure (if h:vs.size=1 then vs[0]else .tuple vs):=by congr 2
def an8(T:el)(rs:List ResultVar)(rv:RV)(os':List (Option eH)):Exit->St->Prop
 |.normal,σ=>∃xs fk,ni T σ rs=some xs/\DS σ.obj fk os' xs rv/\KB σ.obj fk os'
 |.ret,σ=>∃xs fk,ni T σ rs=some xs/\DS σ.obj fk os' xs rv/\KB σ.obj fk os'
 |_,_=>False
section
variable {P:Program} {T:el} {w0:World} {O0:kq} {N:Nat} {β:Nat->Option cJ} {I:Nat->Prop} {σ:St} {a:Act} {w:World}
theorem Z5(hT:fH P T)(hr:Rel P w0 O0 N β I σ a w){r:ResultVar}{x:AV}(h:N7 T σ r=some x):
 ∃v,(TP a.tmps r).run P w=.ok v w/\VR P β w I x v:=by
 cases r with
 |tmp t=>
  simp only[N7]at h;have h1:=hr.env t;cases hk:σ.ok t with
  |some b=>rw[hk]at h;cases h
  |none=>
   rw[hk]at h h1;cases h;exact⟨_,by simp[TP],h1⟩
 |cell ad t=>
  simp only[N7]at h;have hx:=hr.env ad;cases hk:σ.ok ad with
  |some b=>rw[hk]at h;cases h
  |none=>
  rw[hk]at h hx;simp only at h;have hx:VR P β w I (σ.env ad) (a.tmps.getD ad undef):=hx;split at h
  ·rename_i v hl;injection h with h;subst h;obtain⟨u,h1,h2⟩:∃u,(Instr.loadAt t (a.tmps.getD ad undef)).run P w=.ok u w/\VR P β w I v u:=(by obtain⟨u,h1,h2,_⟩:=PU hT hr.mem (λ _ _ h=>h) hl trivial hx;exact⟨u,h1,h2⟩);refine⟨u,?_,h2⟩;have hp:∃p,a.tmps.getD ad undef=.pointer (some p):=by
    unfold Sl at hl;unfold JG at hl;cases hti:T t with
    |none=>simp[hti]at hl
    |some ti=>
     simp only[hti,ai]at hl;split at hl
     ·rename_i heq;rw[heq]at hx;simp only[VR]at hx;obtain⟨b,sz,n,_,h⟩:=hx;exact⟨_,h⟩
     ·rename_i heq;rw[heq]at hx;simp only[VR]at hx;obtain⟨b,o,h,_⟩:=hx;exact⟨_,h⟩
     ·cases hl
   obtain⟨p,hp⟩:=hp;rw[hp]at h1;simp only[TP,hp,asAddr,Sem.run_bind,Sem.run_pure,Result.andThen_ok];exact h1
  ·cases h
theorem Ap(hT:fH P T)(hr:Rel P w0 O0 N β I σ a w):∀(rs:List ResultVar)(xs:List AV),ni T σ rs=some xs->
 ∃vs,(rs.mapM (TP a.tmps)).run P w=.ok vs w/\br P β w I xs vs
 |[],xs,h=>by simp[ni]at h;subst h;exact⟨[],by simp,by simp[br]⟩
 |r::rs,xs,h=>by
  simp[ni]at h;cases h1:N7 T σ r with
  |none=>simp[h1]at h
  |some x=>
   cases h2:ni T σ rs with
   |none=>simp[h2]at h
   |some ys=>
    simp[h1,h2]at h;subst h;have⟨v,g1,g2⟩:=Z5 hT hr h1;have⟨vs,g3,g4⟩:=Ap hT hr rs ys h2;exact⟨v::vs,by simp[g1,g3],by simp[br];exact⟨g2,g4⟩⟩
def Lr(σ:St)(w0 w:World)(β:Nat->Option cJ)(I:Nat->Prop)(O0:kq)(fk:Option Nat)(os':List (Option eH))(b:Nat):Prop:=
 (I b\/O0.GF b\/w0.heap.size<=b\/O0.own b)/\b<w.heap.size/\¬∃k,(fk=some k\/kept os' k)/\(∃ o,σ.obj k=some o)/\gj β k b
theorem abX(hr:Rel P w0 O0 N β I σ a w)(fk:Option Nat)(os':List (Option eH)):∀b,I b->Lr σ w0 w β I O0 fk os' b:=λb hb=>
 ⟨.inl hb,hr.mem.lt b hb,λ⟨k,_,⟨o,ho⟩,hβ⟩=>(hr.mem.jj k o b ho hβ).1 hb⟩
theorem Ls(hr:Rel P w0 O0 N β I σ a w){fk:Option Nat}{os':List (Option eH)}{k aa len:Nat}{y:Tree}{v:Value}(h:fk≠some k/\¬kept os' k/\∃o dg,σ.obj k=some o/\(o.rows.drop aa).take len=aF dg/\dg.length=len/\y=.sl dg)(hv:VR P β w I (.own k aa len) v):TR w (Lr σ w0 w β I O0 fk os') y v:=by obtain⟨hne,hnk,o,dg,h1,h2,h3,rfl⟩:=h;simp only[TR];rcases hv with ⟨_,rfl,_,h4⟩|⟨b,sz,n,cap,ad,h4,rfl,h5,h6,h7⟩;exact .inl ⟨List.eq_nil_of_length_eq_zero (by omega),none,0,rfl,λ_=>rfl⟩;have⟨g1,g2,g3⟩:=hr.mem.own k o b sz n h1 h4;refine .inr ⟨b,ad,cap,sz,by rw[h3],by omega,⟨.inr (.inr (g3.elim .inr .inl)),g2,λ⟨k',e1,⟨o',e2⟩,e3⟩=>?_⟩,?_⟩;have:=hr.mem.m8 k k' o o' b h1 e2 (.at h4) e3;subst this;exact e1.elim hne hnk;by_cases hc:cap=0;have:dg=[]:=List.eq_nil_of_length_eq_zero (by omega);subst this;simp[cD];rw[h7 hc];have⟨B,hB,ro⟩:=hr.mem.cN k o h1;rw[h4]at hB;cases hB;obtain⟨hs,c,e,hc',_,ro⟩:=ro;have h8:=b9.take len _ _ _ _ (b9.drop aa _ _ _ _ ro);rw[h2]at h8;exact cD.li (abX hr fk os') hc' dg _ _ h8
theorem Dn(hr:Rel P w0 O0 N β I σ a w){fk:Option Nat}{os':List (Option eH)}{x:AV}{y:Tree}{v:Value}(h:yd σ.obj fk os' x y)(hv:VR P β w I x v):TR w (Lr σ w0 w β I O0 fk os') y v:=by
 cases x<;>simp only[yd]at h
 case t x=>subst h;simp[VR]at hv;exact TR.mono (λ _ _=>rfl) (abX hr fk os') _ _ hv
 case cT=>subst h;simp[VR]at hv;simp only[TR];exact .inl ⟨trivial,none,0,hv,λ_=>rfl⟩
 case own k aa len=>exact Ls hr h hv
 case oz k len=>
  rcases hv.tR with ⟨rfl,rfl⟩|⟨_,hv⟩;obtain⟨hne,hnk,o,dg,h1,h2,h3,rfl⟩:=h;exact .inl ⟨List.eq_nil_of_length_eq_zero h3,none,0,rfl,λ_=>rfl⟩;exact Ls hr h hv
theorem Lu(hr:Rel P w0 O0 N β I σ a w){fk:Option Nat}{os':List (Option eH)}{β':Nat->Option cJ}:∀{r:List AV}{t:List Tree}{c:Array Value}{aa:Nat},lp σ.obj fk os' r t->c7 P β w I r c aa->c7 P β' w (Lr σ w0 w β I O0 fk os') (t.map AV.t) c aa
 |[],[],_,_,_,_=>trivial
 |x::xs,y::ys,c,aa,h,⟨⟨v,h1,h2,h3⟩,h4⟩=>⟨⟨v,h1,by simp[VR];exact Dn hr h.1 h2,h3⟩,Lu hr h.2 h4⟩
 |[],_::_,_,_,h,_|_::_,[],_,_,h,_=>h.elim
theorem lp.length{get:Nat->Option aS}{fk:Option Nat}{os':List (Option eH)}:∀{r:List AV}{t:List Tree},lp get fk os' r t->t.length=r.length
 |[],[],_=>rfl
 |_::_,_::_,h=>by simp[lp.length h.2]
 |[],_::_,h|_::_,[],h=>h.elim
theorem Aq(hr:Rel P w0 O0 N β I σ a w){fk:Option Nat}{os':List (Option eH)}{β':Nat->Option cJ}:∀{rs:List (List AV)}{ts:List (List Tree)}{c:Array Value}{aa sz:Nat},ej σ.obj fk os' rs ts->b9 P β w I rs c aa sz->b9 P β' w (Lr σ w0 w β I O0 fk os') (aF ts) c aa sz
 |[],[],_,_,_,_,_=>trivial
 |r::rs,t::ts,c,aa,sz,h,⟨h1,h2,h3⟩=>⟨by rw[length_map,h.1.length,h1],Lu hr h.1 h2,Aq hr h.2 h3⟩
 |[],_::_,_,_,_,h,_|_::_,[],_,_,_,h,_=>h.elim
theorem ej.length{get:Nat->Option aS}{fk:Option Nat}{os':List (Option eH)}:∀{rs:List (List AV)}{ts:List (List Tree)},ej get fk os' rs ts->rs.length=ts.length
 |[],[],_=>rfl
 |_::_,_::_,h=>by simp[h.2.length]
 |[],_::_,h|_::_,[],h=>h.elim
theorem JM(hr:Rel P w0 O0 N β I σ a w){fk:Option Nat}{os':List (Option eH)}{β':Nat->Option cJ}:∀{r:List AV}{t:List Tree}{vs:List Value},lp σ.obj fk os' r t->br P β w I r vs->br P β' w (Lr σ w0 w β I O0 fk os') (t.map AV.t) vs
 |[],[],[],_,_=>by simp[br]
 |x::xs,y::ys,v::vs,h,hv=>by exact⟨Dn hr h.1 hv.1,JM hr h.2 hv.2⟩
 |[],_::_,_,h,_|_::_,[],_,h,_=>h.elim
 |[],[],_::_,_,hv|_::_,_::_,[],_,hv=>by simp[br]at hv
theorem Gm(hr:Rel P w0 O0 N β I σ a w){fk:Option Nat}{os':List (Option eH)}{β':Nat->Option cJ}:∀{rs:List (List AV)}{ts:List (List Tree)}{es:List MapEntry},ej σ.obj fk os' rs ts->cE P β w I rs es->cE P β' w (Lr σ w0 w β I O0 fk os') (aF ts) es
 |[],[],[],_,_=>trivial
 |_::_,_::_,_::_,h,hm=>⟨JM hr h.1 hm.1,Gm hr h.2 hm.2⟩
 |[],_::_,_,h,_|_::_,[],_,h,_=>h.elim
 |[],[],_::_,_,hm|_::_,_::_,[],_,hm=>hm.elim
theorem ej.nil{get:Nat->Option aS}{fk:Option Nat}{os':List (Option eH)}{t:List (List Tree)}(h:ej get fk os' [] t):t=[]:=by
 cases t with
 |nil=>rfl
 |cons=>exact h.elim
theorem TS(hr:Rel P w0 O0 N β I σ a w){F:Nat->Prop}{βi:Nat->Option cJ}{fk:Option Nat}{os':List (Option eH)}(hF:∀k o b,fk=some k->σ.obj k=some o->¬kept os' k->gj β k b->F b)(hi:∀j,kept os' j->β j=βi j){x:AV}{c:RC}{v:Value}
 (h:D1 σ.obj fk os' x c) (hv:VR P β w I x v):yp P F βi c w (Lr σ w0 w β I O0 fk os') v:=by
 unfold D1 at h;split at h;rename_i cs ts;simp[VR]at hv;obtain⟨vs,rfl,hv⟩:=hv;refine⟨vs,rfl,?_⟩;have:∀(cs:List AV)(ts:List Tree)(vs:List Value),lp σ.obj fk os' cs ts->br P β w I cs vs->ez w (Lr σ w0 w β I O0 fk os') ts vs:=by
  intro cs
  induction cs with
  |nil=>intro ts vs h hv;cases ts<;>cases vs<;>first|trivial|exact h.elim|(simp at hv)
  |cons x xs ih=>
   intro ts vs h hv;cases ts with
   |nil=>exact h.elim
   |cons t ts=>
    cases vs with
    |nil=>simp[br]at hv
    |cons u us=>simp[br]at hv;exact⟨Dn hr h.1 hv.1,ih ts us h.2 hv.2⟩
 exact this cs ts vs.toList h hv;exact Dn hr h hv;subst h;simp[VR]at hv;exact .inl ⟨rfl,hv⟩;rename_i k aa len sz rows;obtain⟨rfl,hnk,rfl,o,h1,rfl,h2,h3⟩:=h;simp only[VR]at hv;rcases hv with ⟨_,rfl,_,h4⟩|⟨b,sz,n,cap,ad,h4,rfl,h5,h6,h7⟩;exact .inl ⟨List.eq_nil_of_length_eq_zero (by omega),rfl⟩;have⟨B,hB,ro⟩:=hr.mem.cN k o h1;rw[h4]at hB;cases hB;obtain⟨hs,c,e,hc',hn,ro⟩:=ro;refine .inr ⟨b,c,e,cap,ad,n.s,by rw[h3],hF k o b rfl h1 hnk (.at h4),λhI=>hI.2.2 ⟨k,.inl rfl,⟨o,h1⟩,.at h4⟩,hc',by omega,?_,?_,λhc=>by simpa using h7 hc⟩;rw[<- hs,hn];simpa using h6;rw[<- hs];exact Aq hr h2 (b9.take len _ _ _ _ ro);rename_i k aa len j len';obtain⟨rfl,rfl,rfl,hk⟩:=h;show VR P βi w (Lr σ w0 w β I O0 fk os') (.own k 0 len') v;simp[VR]at hv ⊢;rw[<- hi k hk];exact hv;exact h.elim
theorem Ar{α:Type}(l:List α)(t:Nat):lk ((List.range l.length).zip l) t=l[t]? :=by
 have pC:∀(l:List α)(s t:Nat),(lk ((List.range' s l.length).zip l) t)=if s<=t/\t<s+l.length then l[t-s]? else none:=by
  intro l
  induction l with
  |nil=>intro s t;simp[lk]
  |cons x xs ih=>
   simp[List.range'_succ,lk]
   all_goals grind
 rw[List.range_eq_range',pC];by_cases ht:t<l.length;simp;rw[bn (by omega)];simp[List.getElem?_eq_none (Nat.le_of_not_lt ht)]
theorem N8{x:AV}:∀{l:List AV},x∈l->∀k∈refs x,k∈dV l
 |[],h,_,_=>by simp at h
 |y::ys,h,k,hk=>by simp[dV];rcases aP.1 h with rfl|h;exact .inl hk;exact .inr (N8 h k hk)
theorem ahD(hT : fH P T){f : FuncId}{fn : Func}{c : Code}{args : List AV}{os : List eH}{os' : List (Option eH)}{rv : RV}(hfn : P.funcs[f]? = some fn)(hb : fn.body = some c)(hname : (fn.name == "runtime.NumGoroutine") = false)(hN : args.length <= fn.ntmps)(hargs : ∀ k ∈ dV args, k < 1000)(hos : os.length <= 1000)(hlen : os'.length = os.length)
 (h:Ev P fn.ntmps c (an8 T fn.results.toList rv os') (qn.st ⟨(List.range args.length).zip args,(List.range (os.map gO).length).zip (os.map gO)⟩)):p4 P f args os os' rv:=by
 refine⟨⟨fn,hfn,by rw[hb];rfl,hname⟩,λw β I vs hβ hM hv=>?_⟩;have hvl:=br.length _ _ hv;simp at hvl;have iz:∀k,lk ((List.range (os.map gO).length).zip (os.map gO)) k=qS os k:=λk=>by rw[Ar];simp[qS]
 refine calls_of_wp hfn hb ?_;have hrel:Rel P w (o8 β I) fn.ntmps β I (qn.st ⟨(List.range args.length).zip args,(List.range (os.map gO).length).zip (os.map gO)⟩) { tmps:=vs++Array.replicate (fn.ntmps-vs.size) undef,defers:=[] } w:=by
  refine⟨rfl,by simp;omega,λt=>?_,?_⟩;simp only[qn.st,Ar,eW];by_cases ht:t<args.length;obtain⟨v,g1,g2⟩:=br.get _ _ t _ hv (dD ht);rw[dD ht];simp only[Option.getD_some];have:(vs++Array.replicate (fn.ntmps-vs.size) undef).getD t undef=v:=by rw[Array.getElem?_toList]at g1;simp only[Array.getD_eq_getD_getElem?,Array.getElem?_append,show t<vs.size by omega,if_true,g1,Option.getD_some]
  rw[this];exact g2;rw[List.getElem?_eq_none (Nat.le_of_not_lt ht)];simp[VR];have:(qn.st ⟨(List.range args.length).zip args,(List.range (os.map gO).length).zip (os.map gO)⟩).obj=qS os:=funext iz;rw[this];exact hM
 have hold:te (qn.st ⟨(List.range args.length).zip args,(List.range (os.map gO).length).zip (os.map gO)⟩):=by
  refine⟨λ t k hk=>?_,λk o hk=>?_⟩;simp[qn.st,Ar]at hk;cases ht:args[t]? with
  |none=>rw[ht]at hk;simp[refs]at hk
  |some x=>rw[ht]at hk;have:=hargs k (N8 (bX ht) k hk);omega
  have hk:qS os k=some o:=(iz k).symm.trans hk;simp only[qS,rF]at hk;obtain⟨p,hp,rfl⟩:=hk;refine⟨by have:=(cB.1 hp).1;omega,λr hr x hx j hj=>?_⟩;simp[gO,aF,mem_map]at hr;obtain⟨q,_,rfl⟩:=hr;simp[mem_map]at hx;obtain⟨t,_,rfl⟩:=hx;simp[refs]at hj
 refine wp_mono (h w (o8 β I) β I _ w hrel hold) ?_
 have fin:∀(a':Act) (w':World) (β':Nat->Option cJ) (I':Nat->Prop) (σ':St),Rel P w (o8 β I) fn.ntmps β' I' σ' a' w'->(∃ xs fk,ni T σ' fn.results.toList=some xs/\DS σ'.obj fk os' xs rv/\KB σ'.obj fk os')->
  a'.defers=[]/\∃v,(results fn a'.tmps).run P w'=.ok v w'/\K0 P w β I os' rv (.returned v) w':=by
  intro a' w' β' I' σ' hr ⟨xs,fk,hx,he,heo⟩;obtain⟨us,g1,g2⟩:=Ap hT hr _ _ hx;have DD:=br.length _ _ g2;have hm:=hr.mem;have hrun:(fn.results.mapM (TP a'.tmps)).run P w'=.ok us.toArray w':=by rw[Array.mapM_eq_mapM_toList,Sem.run_map,g1];rfl
  have hko:∀j p,os'[j]? =some (some p)->∃B o,β j=some B/\β' j=some B/\σ'.obj j=some o/\OR P β' w' I' o B/\o.sz=p.1/\ej σ'.obj fk os' (o.rows.take p.2.length) p.2:=by intro j p hj;have⟨_,o,e1,e2,e3⟩:=heo j p hj;have hjl:j<os.length:=(by rw[<- hlen];exact(cB.1 hj).1);obtain⟨B,hB,_⟩:=hM.cN j (gO os[j]) (by simp[qS,hjl]);have hB':=hm.anch j B (by simp only[o8];rw[bA (by omega)];exact hB);have⟨B',hB2,hO⟩:=hm.cN j o e1;rw[hB']at hB2;cases hB2;exact⟨B,o,hB,hB',e1,hO,e2,e3⟩
  have hkept:∀j,kept os' j->β' j=β j:=λj ⟨p,hp⟩=>by have⟨B,o,h1,h2,_⟩:=hko j p hp;rw[h1,h2]
  have ra:∀j o,BN os' j=some o->∃p,os'[j]? =some (some p)/\o=gO p:=by intro j o hj;simp only[BN,rF,Option.join_eq_some_iff]at hj;obtain⟨p,hp,rfl⟩:=hj;exact⟨p,hp,rfl⟩
  have py:∀b,I b->¬Tp β b/\b<w.heap.size:=by intro b hb;refine⟨?_,hM.lt b hb⟩;rintro⟨j,B,hj,hB⟩;rcases Nat.lt_or_ge j os.length with hjl|hjl;exact(hM.ownB j (gO os[j]) B b (by simp[qS,hjl]) hj hB).1 hb;rw[hβ j hjl]at hj;cases hj
  have hOI:∀b,I b->Lr σ' w w' β' I' (o8 β I) fk os' b:=by intro b hb;have⟨g1,g2⟩:=py b hb;refine⟨.inr (.inl hb),Nat.lt_of_lt_of_le g2 hm.le,?_⟩;rintro⟨k,_,⟨o,ho⟩,hβk⟩;rcases (hm.jj k o b ho hβk).2.2 with g|g;exact g1 g;omega
  have hmem:Mem P w (o8 β I) β (Lr σ' w w' β' I' (o8 β I) fk os') (BN os') w':=by
   constructor;intro j o hj;obtain⟨p,hp,rfl⟩:=ra j o hj;have⟨B,o1,b1,b2,b3,b4,b5,b6⟩:=hko j p hp;refine⟨B,b1,?_⟩;cases B with
   |none=>
    simp[OR]at b4 ⊢;rw[b4]at b6;have:=ej.nil (by simpa using b6);simp[gO,aF,this]
   | «at» b s n=>
    obtain⟨c1,c,e,c2,c3,c4⟩:=b4;refine⟨by rw[c1,b5];rfl,c,e,c2,c3,?_⟩;exact Aq hr b6 (b9.take _ _ _ _ _ c4)
   |mp b=>
    obtain⟨es,cl,c1,cl',c2,c3⟩:=b4;have hl:=b6.length;simp[List.length_take]at hl;refine⟨es,cl,c1,by simp[gO,aF,length_map];omega,λe=>?_,c3⟩;have e':p.1=p.2.length:=(by simpa[gO,aF]using e);rw[take_of_length_le (by omega)]at b6;exact Gm hr b6 (c2 (by omega))
   intro j j' o o' B B' b h1 h2 h3 h4 h5 h6;obtain⟨p,hp,rfl⟩:=ra j o h1;obtain⟨p',hp',rfl⟩:=ra j' o' h2;have⟨_,o1,_,_,b3,_⟩:=hko j p hp;have⟨_,o1',_,_,b3',_⟩:=hko j' p' hp';rw[<- hkept j ⟨p,hp⟩]at h3;rw[<- hkept j' ⟨p',hp'⟩]at h4;exact hm.gz j j' o1 o1' B B' b b3 b3' h3 h4 h5 h6;intro j o B b h1 h2 h5;obtain⟨p,hp,rfl⟩:=ra j o h1;have⟨_,o1,_,_,b3,_⟩:=hko j p hp;rw[<- hkept j ⟨p,hp⟩]at h2;have⟨_,c2,c3⟩:=hm.ownB j o1 B b b3 h2 h5;exact⟨λ hb=>hb.2.2 ⟨j,.inr ⟨p,hp⟩,⟨o1,b3⟩,B,h2,h5⟩,c2,c3⟩;exact λb hb=>hb.2.1;intro b hb;rcases hb.1 with g|g|g|g;exact hm.up b g;exact .inl g;exact .inr (.inr g);exact .inr (.inl g);exact hm.keep;exact hm.le;exact hm.os;exact hm.tape;exact hm.output;intro j B hj;simp only[o8]at hj;split at hj;exact hj;cases hj;exact hM.vars.mono (λ b hb=>hm.keep b (py b hb).2 (py b hb).1) hOI
  have hF:∀k o b,fk=some k->σ'.obj k=some o->¬kept os' k->gj β' k b->yi w β os' b:=by intro k o b _ h2 h3 h4;refine⟨(hm.jj k o b h2 h4).2.2,λj o' h5 h6=>?_⟩;obtain⟨p,hp,rfl⟩:=ra j o' h5;have⟨_,o1,_,_,b3,_⟩:=hko j p hp;have h6':gj β' j b:=(by obtain⟨B,e1,e2⟩:=h6;exact⟨B,by rw[hkept j ⟨p,hp⟩];exact e1,e2⟩);have:=hm.m8 k j o o1 b h2 b3 h4 h6';subst this;exact h3 ⟨p,hp⟩
  have ret:∀v,qk P (yi w β os') β rv w' (Lr σ' w w' β' I' (o8 β I) fk os') v->K0 P w β I os' rv (.returned v) w':=λv hv'=>⟨v,_,rfl,hmem,hOI,hv'⟩;refine⟨hr.defers,?_⟩;have hlist:∀(xs:List AV)(cs:List RC)(us:List Value),m4 σ'.obj fk os' xs cs->br P β' w' I' xs us->SK P (yi w β os') β cs w' (Lr σ' w w' β' I' (o8 β I) fk os') us:=by
   intro xs
   induction xs with
   |nil=>intro cs us h1 h2;cases cs<;>cases us<;>first|trivial|exact h1.elim|(simp [br]at h2)
   |cons x xs ih=>
    intro cs us h1 h2;cases cs with
    |nil=>exact h1.elim
    |cons c cs=>
     cases us with
     |nil=>simp[br]at h2
     |cons u us=>simp[br]at h2;exact⟨TS hr hF hkept h1.1 h2.1,ih cs us h1.2 h2.2⟩
  simp only[TQ,Sem.run_bind,hrun,Result.andThen_ok,Sem.run_pure];refine⟨_,rfl,ret _ ?_⟩
  match xs,us,rv,he,g2 with
  |[x],[u],.one c,he,g2=>
   simp only[br]at g2;simpa[qk]using TS hr hF hkept he g2.1
  |x::y::r,u::u'::us,.eV cs,he,g2=>
   have:=hlist _ _ _ he g2;rw[dif_neg (by simp)];exact⟨_,rfl,by simpa using this⟩
  |[],[],.eV cs,he,g2=>
   simp[DS]at he;subst he;rw[dif_neg (by simp)];exact⟨_,rfl,trivial⟩
  |[x],[u],.eV cs,he,_=>exact he.elim
  |[],_,.one c,he,_=>exact he.elim
  |x::y::r,_,.one c,he,_=>exact he.elim
  |[],_::_,.eV _,_,g2=>simp[br]at g2
  |[_],[],_,_,g2=>simp[br]at g2
  |[_],_::_::_,_,_,g2=>simp[br]at g2
  |_::_::_,[],_,_,g2=>simp[br]at g2
  |_::_::_,[_],_,_,g2=>simp[br]at g2
 rintro e a' w' ⟨β',I',σ',h1,h2,h3⟩;cases e with
 |normal=>exact fin a' w' β' I' σ' h1 h3
 |ret=>exact fin a' w' β' I' σ' h1 h3
 |_=>exact h3.elim
def Kx(P:Program)(get:Nat->Option aS)(xs:List AV)(os':List (Nat×aS))(rv:AV):Prop:=
 ∀(w0:World) (O0:kq) (β:Nat->Option cJ) (I:Nat->Prop) (w:World) (vs:Array Value),Mem P w0 O0 β I get w->br P β w I xs vs.toList->∃ β' I',Mem P w0 O0 β' I' (pb os') w/\(∀ b,I b->I' b)/\VR P β' w I' rv (if h:vs.size=1 then vs[0]else .tuple vs)
def anD(P:Program)(T:el)(rs:List ResultVar)(rv:AV)(os':List (Nat×aS)):Exit->St->Prop
 |.normal,σ=>∃xs,ni T σ rs=some xs/\Kx P σ.obj xs os' rv
 |.ret,σ=>∃xs,ni T σ rs=some xs/\Kx P σ.obj xs os' rv
 |_,_=>False
theorem ahE(hT : fH P T){f : FuncId}{fn : Func}{c : Code}{args : List AV}{os : List aS}{os' : List (Nat × aS)}{rv : AV}(hfn : P.funcs[f]? = some fn)(hb : fn.body = some c)(hname : (fn.name == "runtime.NumGoroutine") = false)(hN : args.length <= fn.ntmps)(hargs : ∀ k ∈ dV args, k < 1000)(hos : os.length <= 1000)
 (P4:∀o∈os,∀r∈o.rows,∀x∈r,∀j∈refs x,j<1000)
 (h:Ev P fn.ntmps c (anD P T fn.results.toList rv os') (qn.st ⟨(List.range args.length).zip args,(List.range os.length).zip os⟩)):C1 P f args os os' rv:=by
 refine⟨⟨fn,hfn,by rw[hb];rfl,hname⟩,λw β I vs hβ hM hv=>?_⟩;have hvl:=br.length _ _ hv;simp at hvl;have iz:∀k,lk ((List.range os.length).zip os) k=th os k:=λk=>by rw[Ar];rfl
 refine calls_of_wp hfn hb ?_;have hrel:Rel P w (o8 β I) fn.ntmps β I (qn.st ⟨(List.range args.length).zip args,(List.range os.length).zip os⟩) { tmps:=vs++Array.replicate (fn.ntmps-vs.size) undef,defers:=[] } w:=by
  refine⟨rfl,by simp;omega,λt=>?_,?_⟩;simp only[qn.st,Ar,eW];by_cases ht:t<args.length;obtain⟨v,g1,g2⟩:=br.get _ _ t _ hv (dD ht);rw[dD ht];simp only[Option.getD_some];have:(vs++Array.replicate (fn.ntmps-vs.size) undef).getD t undef=v:=by rw[Array.getElem?_toList]at g1;simp only[Array.getD_eq_getD_getElem?,Array.getElem?_append,show t<vs.size by omega,if_true,g1,Option.getD_some]
  rw[this];exact g2;rw[List.getElem?_eq_none (Nat.le_of_not_lt ht)];simp[VR];have:(qn.st ⟨(List.range args.length).zip args,(List.range os.length).zip os⟩).obj=th os:=funext iz;rw[this];exact hM
 have hold:te (qn.st ⟨(List.range args.length).zip args,(List.range os.length).zip os⟩):=by
  refine⟨λ t k hk=>?_,λk o hk=>?_⟩;simp[qn.st,Ar]at hk;cases ht:args[t]? with
  |none=>rw[ht]at hk;simp[refs]at hk
  |some x=>rw[ht]at hk;have:=hargs k (N8 (bX ht) k hk);omega
  have hk:th os k=some o:=(iz k).symm.trans hk;simp[th]at hk;refine⟨by have:=(cB.1 hk).1;omega,λr hr x hx j hj=>?_⟩;have:=P4 o (bX hk) r hr x hx j hj;omega
 refine wp_mono (h w (o8 β I) β I _ w hrel hold) ?_
 have fin:∀(a':Act) (w':World) (β':Nat->Option cJ) (I':Nat->Prop) (σ':St),Rel P w (o8 β I) fn.ntmps β' I' σ' a' w'->(∃ xs,ni T σ' fn.results.toList=some xs/\Kx P σ'.obj xs os' rv)->
  a'.defers=[]/\∃v,(results fn a'.tmps).run P w'=.ok v w'/\anC P w β I os' rv (.returned v) w':=by
  intro a' w' β' I' σ' hr ⟨xs,hx,he⟩;obtain⟨us,g1,g2⟩:=Ap hT hr _ _ hx;have hrun:(fn.results.mapM (TP a'.tmps)).run P w'=.ok us.toArray w':=by rw[Array.mapM_eq_mapM_toList,Sem.run_map,g1];rfl
  have py:∀b,I b->¬Tp β b/\b<w.heap.size:=by intro b hb;refine⟨?_,hM.lt b hb⟩;rintro⟨j,B,hj,hB⟩;rcases Nat.lt_or_ge j os.length with hjl|hjl;exact(hM.ownB j os[j] B b (by simp[th]) hj hB).1 hb;rw[hβ j hjl]at hj;cases hj
  obtain⟨β2,I2,hm,hI2,hv2⟩:=he w (o8 β I) β' I' w' us.toArray hr.mem (by simpa using g2);have hmem:Mem P w (o8 β I) β2 (λ b=>I2 b\/I b) (pb os') w':=by constructor;intro k o hk;have⟨B,hB,hO⟩:=hm.cN k o hk;exact⟨B,hB,OR.mono (λ _ _ h=>h) (λ _ _=>rfl) (λ b hb=>.inl hb) (λ _ _=>rfl) hO⟩;exact hm.gz;intro k o B b h1 h2 h3;have⟨a1,a2,a3⟩:=hm.ownB k o B b h1 h2 h3;refine⟨?_,a2,a3⟩;rintro (hb|hb);exact a1 hb;have⟨c1,c2⟩:=py b hb;rcases a3 with a3|a3;exact c1 a3;omega;rintro b (hb|hb);exact hm.lt b hb;exact Nat.lt_of_lt_of_le (py b hb).2 hm.le;rintro b (hb|hb);exact hm.up b hb;exact .inl hb;exact hm.keep;exact hm.le;exact hm.os;exact hm.tape;exact hm.output;exact hm.anch;exact hm.vars.mono (λ _ _=>rfl) (λ b hb=>.inl hb)
  refine⟨hr.defers,?_⟩;simp only[TQ,Sem.run_bind,hrun,Result.andThen_ok,Sem.run_pure];exact⟨_,rfl,_,β2,_,rfl,hmem,λb hb=>.inr hb,VR.mono (λ _ _ h=>h) (λ _ _=>rfl) (λ b hb=>.inl hb) _ _ hv2⟩
 rintro e a' w' ⟨β',I',σ',h1,h2,h3⟩;cases e with
 |normal|ret=>exact fin a' w' β' I' σ' h1 h3
 |_=>exact h3.elim
theorem qk.Gk{F F':Nat->Prop}{βi:Nat->Option cJ}{w':World}{I':Nat->Prop}(hF:∀b,F b->F' b){rv:RV}{v:Value}(h:qk P F βi rv w' I' v):qk P F' βi rv w' I' v:=by
 have hc:∀(c:RC)(v:Value),yp P F βi c w' I' v->yp P F' βi c w' I' v:=by
  intro c v h;cases c with
  |d x=>exact h
  |fresh sz rows=>
   rcases h with h|⟨b,c,e,cap,o,s,h1,h2,h3⟩;exact .inl h;exact .inr ⟨b,c,e,cap,o,s,h1,hF b h2,h3⟩
  |whole j len=>exact h
 cases rv with
 |one c=>exact hc c v h
 |eV cs=>
  obtain⟨vs,rfl,h⟩:=h;refine⟨vs,rfl,?_⟩;have:∀(cs:List RC)(vs:List Value),SK P F βi cs w' I' vs->SK P F' βi cs w' I' vs:=by
   intro cs
   induction cs with
   |nil=>intro vs h;cases vs with
    |nil=>trivial
    |cons=>exact h.elim
   |cons c cs ih=>intro vs h;cases vs with
    |nil=>exact h.elim
    |cons v vs=>exact⟨hc c v h.1,ih vs h.2⟩
  exact this cs vs.toList h
theorem TU{f:FuncId}{args:List AV}{rv:RV}(h:p4 P f args [] [] rv):so P f args rv:=by
 refine⟨h.1,λw I vs hlt hgv hv=>?_⟩;have hM:Mem P w (o8 mA I) mA I (qS []) w:=by refine⟨λ k o hk=>by simp[qS]at hk,λk k' o o' B B' b hk=>by simp[qS]at hk,λk o B b hk=>by simp[qS]at hk,hlt,λb hb=>.inl hb,λ_ _ _=>rfl,aB _,rfl,rfl,rfl,λj B hj=>?_,hgv⟩;simp only[o8,mA,ite_self]at hj;cases hj
 refine(h.2 w mA I vs (λ _ _=>rfl) hM hv).mono ?_;rintro e w' ⟨v,I',rfl,g1,g2,g3⟩;have hno:∀b,¬(o8 mA I).own b:=λb ⟨j,B,hj,_⟩=>by cases hj
 refine⟨v,I',rfl,⟨g1.os,g1.tape,g1.output,g1.le,λb hb=>g1.keep b hb (hno b)⟩,g2,g1.lt,λb hb=>?_,qk.Gk (λ b hb=>?_) g3⟩;rcases g1.up b hb with h|h|h;exact .inl h;exact(hno b h).elim;exact .inr h;rcases hb.1 with h|h;exact(hno b h).elim;exact h
end
open Go.RowKit Go.WideShapes Go.ChangeShapes
inductive CS where
 |int (k:IntKind)
 |bool
 |str
 |sl (row:List CS)
 |any
  |mu (row:List CS)
 |back
def an9:CS->Tree->Prop
 |.int k,x=>∃n,x=.sc (.int k n)/\(Lit.int k n).wf=true
 |.bool,x=>∃b,x=.sc (.bool b)
 |.str,x=>∃s,x=.sc (.string s)/\s.size<=maxLen
 |_,_=>False
def anE:CS->Nat
 |.int .i64=>8
 |.int _=>1
 |.bool=>1
 |.str=>16
 |_=>24
def LS:CS->Nat
 |.int .i64=>8
 |.int _=>1
 |.bool=>1
 |_=>8
def TE:Nat->List CS->Nat
 |o,[]=>o
 |o,c::cs=>TE ((o+(LS c-1))/LS c*LS c+anE c) cs
def Ks(r:List CS):Nat:=bif r.any (λ c=>LS c==8)then(TE 0 r+7)/8*8 else TE 0 r
mutual
inductive Ek(row:List CS):Tree->Prop
 |mk (rows:List (List Tree)) (hl:rows.length<=maxLen) (h:oX row rows):Ek row (.sl rows)
inductive oX(row:List CS):List (List Tree)->Prop
 |nil:oX row []
 |cons {r:List Tree} {rs:List (List Tree)} (h:jp row row r) (t:oX row rs):oX row (r::rs)
inductive jp(row:List CS):List CS->List Tree->Prop
 |nil:jp row [] []
 |back {cs:List CS} {x:Tree} {xs:List Tree} (h:Ek row x) (t:jp row cs xs):jp row (.back::cs) (x::xs)
 |one {c:CS} {cs:List CS} {x:Tree} {xs:List Tree} (h:an9 c x) (t:jp row cs xs):jp row (c::cs) (x::xs)
end
mutual
def Fit:CS->Tree->Prop
 |.int k,x=>∃n,x=.sc (.int k n)/\(Lit.int k n).wf=true
 |.bool,x=>∃b,x=.sc (.bool b)
 |.str,x=>∃s,x=.sc (.string s)/\s.size<=maxLen
 |.sl row,x=>∃rows,x=.sl rows/\(rows.length<=maxLen/\rows.length*Ks row<=reachBytes)/\∀r∈rows,du row r
 |.any,_=>True
 |.mu row,x=>Ek row x
 |.back,_=>False
def du:List CS->List Tree->Prop
 |[],[]=>True
 |c::cs,x::xs=>Fit c x/\du cs xs
 |_,_=>False
end
mutual
def nf:Tree->Nat
 |.sc (.string s)=>s.size+1
 |.sc _=>1
 |.sl rows=>Au rows+1
def Au:List (List Tree)->Nat
 |[]=>0
 |r::rs=>kS r+Au rs
def kS:List Tree->Nat
 |[]=>0
 |x::xs=>nf x+kS xs
end
theorem zD:∀a b:List Tree,kS (a++b)=kS a+kS b
 |[],b=>by simp[kS]
 |x::a,b=>by simp[kS,zD a b];omega
structure Bk(H:Type) where
 b:DataW H->Nat
 a:List (DataW H)->Nat
 str:∀l,b (.lit (.string l))=l.length+1
 int:∀k n,b (.lit (.int k n))=1
 bool:∀v,b (.lit (.bool v))=1
 nil:b .nil=1
 sl:∀e s,b (.slice e s)=a e+a s+1
 agg:∀p,b (.agg p)=a p+1
 a0:a []=0
 a1:∀d r,a (d::r)=b d+a r
theorem Bk.app{H:Type}(K:Bk H)(l r:List (DataW H)):K.a (l++r)=K.a l+K.a r:=by
 induction l with
 |nil=>simp[K.a0]
 |cons x l ih=>simp[K.a1];omega
theorem Bk.drop{H:Type}(K:Bk H){l:List (DataW H×List MemPlace)}{j:Nat}{y:DataW H×List MemPlace}(h:l[j]? =some y):K.a ((l.map (·.1)).drop j)=K.b y.1+K.a ((l.map (·.1)).drop (j+1)):=by obtain⟨hj,rfl⟩:=cB.1 h;rw[List.drop_eq_getElem_cons (by simpa using hj),K.a1];simp
def Z6(P:Program)(go:TypeId->Option (List CS)):Nat->List Field->Option (List CS)
 |_,[]=>some []
 |o,f::fs=>(go f.type).bind λa=>if f.offset=o/\a.length=P.cellsOf f.type then(Z6 P go (o+a.length) fs).map (a++ ·)else none
def V2(P:Program)(t u:TypeId):Option (List CS):=if u=t then some [.back]else match P.underlying u with
 |some (.int k)=>some [.int k]
 |some .bool=>some [.bool]
 |some .string=>some [.str]
 |_=>none
def LR(P:Program)(t e:TypeId):Option (List CS):=match P.underlying e with
 |some (.struct fs)=>(Z6 P (V2 P t) 0 fs.toList).bind λr=>if r.length=P.cellsOf e/\0<r.length then some r else none
 |_=>none
def ws(P:Program)(cut:List TypeId):Nat->TypeId->Option (List CS)
 | 0,_=>none
 |n+1,t=>match P.underlying t with
  |some (.int k)=>some [.int k]
  |some .bool=>some [.bool]
  |some .string=>some [.str]
  |some (.slice e)=>if cut.contains t then(match LR P t e with|some row=>some [.mu row]|none=>some [.any])else(ws P cut n e).bind λr=>if r.length=P.cellsOf e/\0<r.length/\Ks r<=P.bytesOf e then some [.sl r]else none
  |some (.struct fs)=>(Z6 P (ws P cut n) 0 fs.toList).bind λr=>if r.length=P.cellsOf t then some r else none
  |some (.array m e)=>(ws P cut n e).bind λr=>if r.length=P.cellsOf e/\m*r.length=P.cellsOf t then some (List.replicate m r).flatten else none
  |_=>none
theorem du.length:∀(cs:List CS)(ts:List Tree),du cs ts->ts.length=cs.length
 |[],[],_=>rfl
 |c::cs,x::xs,h=>by simp[du]at h;simp[du.length cs xs h.2]
 |[],_::_,h|_::_,[],h=>by simp[du]at h
theorem du.append:∀(cs:List CS)(ts:List Tree){cs':List CS}{ts':List Tree},du cs ts->du cs' ts'->du (cs++cs') (ts++ts')
 |[],[],_,_,_,h=>h
 |c::cs,x::xs,_,_,h,h'=>by simp at h ⊢;exact⟨h.1,du.append cs xs h.2 h'⟩
 |[],_::_,_,_,h,_|_::_,[],_,_,h,_=>by simp[du]at h
def Here(w:World)(b:Nat):Prop:=b<w.heap.size
section
variable {w:World} {I:Nat->Prop}
theorem ez.append:∀(ts:List Tree)(cs:List Value){ts':List Tree}{cs':List Value},ez w I ts cs->ez w I ts' cs'->ez w I (ts++ts') (cs++cs')
 |[],[],_,_,_,h=>h
 |_::xs,_::vs,_,_,h,h'=>⟨h.1,ez.append xs vs h.2 h'⟩
 |[],_::_,_,_,h,_|_::_,[],_,_,h,_=>h.elim
theorem ez.length:∀(ts:List Tree)(cs:List Value),ez w I ts cs->ts.length=cs.length
 |[],[],_=>rfl
 |_::xs,_::vs,h=>by simp[ez.length xs vs h.2]
 |[],_::_,h|_::_,[],h=>h.elim
theorem Z7:∀(ts:List Tree)(cs:List Value)(b aa:Nat),ez w I ts cs->(∀ i,i<cs.length->w.cell? ⟨b,aa+i,none⟩=cs[i]?)->ef w I ts b aa
 |[],[],_,_,_,_=>by simp[ef]
 |x::xs,v::vs,b,aa,h,hc=>by refine⟨⟨v,by simpa using hc 0 (by simp),h.1⟩,Z7 xs vs b (aa+1) h.2 λi hi=>?_⟩;have:=hc (i+1) (by simpa using hi);rw[show aa+(i+1)=aa+1+i by omega]at this;simpa using this
 |[],_::_,_,_,h,_|_::_,[],_,_,h,_=>h.elim
end
section
variable {H:Type} {enc:TypeId×Value->H} {P:Program} {w:World} {sp:Nat->Bool} {held:Bool}
theorem N9{a:Addr}{v:Value}(h:w.cell? a=some v):a.spot=none/\a.block<w.heap.size:=by simp[World.cell?]at h;split at h;rename_i c e st hc;split at h;cases h;rename_i hs;exact⟨by simpa using hs,(Array.getElem?_eq_some_iff.1 hc).1⟩;cases h
def M3(P:Program)(t:TypeId)(x:DataW H×List MemPlace):Prop:=∀k∈x.1.weights P t,k<=reachBytes
theorem xZ{e:TypeId}:∀{l:List (DataW H)}{d:DataW H},d∈l->∀k∈d.weights P e,k∈DataW.weightsAll P e l
 |a::l,d,h,k,hk=>by simp[DataW.weightsAll];rcases aP.1 h with rfl|h;exact .inl hk;exact .inr (xZ h k hk)
theorem Qa(m:Nat)(cs:List Value)(go:TypeId->Option (List CS))(hgo:∀t sh,go t=some sh->∀cs x,DataW.trod enc P w 0 sp held m t cs=some x->M3 P t x->∃ts,ez w (Here w) ts cs/\du sh ts/\∀K:Bk H,kS ts<=K.b x.1):
 ∀(fs:List Field)(l:List (DataW H×List MemPlace))(o:Nat)(sh:List CS),Z6 P go o fs=some sh->l.length=fs.length->(∀ (i:Nat) (f:Field) (x:DataW H×List MemPlace),fs[i]? =some f->l[i]? =some x->DataW.trod enc P w 0 sp held m f.type ((cs.drop f.offset).take (P.cellsOf f.type))=some x/\M3 P f.type x)->
  ∃ts,ez w (Here w) ts ((cs.drop o).take sh.length)/\du sh ts/\∀K:Bk H,kS ts<=K.a (l.map (·.1))
 |[],l,o,sh,h,_,_=>by simp[Z6]at h;subst h;exact⟨[],by simp[ez],by simp[du],λK=>by simp[kS]⟩
 |f::fs,[],o,sh,h,hl,hf=>by simp at hl
 |f::fs,x::l,o,sh,h,hl,hf=>by simp only[Z6,ah]at h;obtain⟨a,h1,h2⟩:=h;split at h2;rename_i hc;obtain⟨hc1,hc2⟩:=hc;simp at h2;obtain⟨r,h3,rfl⟩:=h2;have⟨hx,hz⟩:=hf 0 f x rfl rfl;obtain⟨ts,g1,g2,k1⟩:=hgo _ _ h1 _ _ hx hz;obtain⟨ts',g3,g4,k2⟩:=Qa m cs go hgo fs l _ _ h3 (by simpa using hl) λi f' x' hf' hx'=>hf (i+1) f' x' hf' hx';refine⟨ts++ts',?_,du.append _ _ g2 g4,λK=>by have:=k1 K;have:=k2 K;rw[zD,bg,K.a1];omega⟩;rw[eZ,List.take_add,List.drop_drop];rw[hc1,<- hc2]at g1;exact ez.append _ _ g1 g3;cases h2
theorem jp.append{row:List CS}:∀{a b:List CS}{x y:List Tree},jp row a x->jp row b y->jp row (a++b) (x++y)
 |_,_,_,_,.nil,h=>h
 |_,_,_,_,.back h t,h'=>.back h (t.append h')
 |_,_,_,_,.one h t,h'=>.one h (t.append h')
theorem Lv{row:List CS}(m:Nat)(cs:List Value)(go:TypeId->Option (List CS))(hgo:∀t sh,go t=some sh->∀cs x,DataW.trod enc P w 0 sp held m t cs=some x->∃ts,ez w (Here w) ts cs/\jp row sh ts/\∀K:Bk H,kS ts<=K.b x.1):
 ∀(fs:List Field)(l:List (DataW H×List MemPlace))(o:Nat)(sh:List CS),Z6 P go o fs=some sh->l.length=fs.length->(∀ (i:Nat) (f:Field) (x:DataW H×List MemPlace),fs[i]? =some f->l[i]? =some x->DataW.trod enc P w 0 sp held m f.type ((cs.drop f.offset).take (P.cellsOf f.type))=some x)->
  ∃ts,ez w (Here w) ts ((cs.drop o).take sh.length)/\jp row sh ts/\∀K:Bk H,kS ts<=K.a (l.map (·.1))
 |[],l,o,sh,h,_,_=>by simp[Z6]at h;subst h;exact⟨[],by simp[ez],.nil,λK=>by simp[kS]⟩
 |f::fs,[],o,sh,h,hl,hf=>by simp at hl
 |f::fs,x::l,o,sh,h,hl,hf=>by simp only[Z6,ah]at h;obtain⟨a,h1,h2⟩:=h;split at h2;rename_i hc;obtain⟨hc1,hc2⟩:=hc;simp at h2;obtain⟨r,h3,rfl⟩:=h2;have hx:=hf 0 f x rfl rfl;obtain⟨ts,g1,g2,k1⟩:=hgo _ _ h1 _ _ hx;obtain⟨ts',g3,g4,k2⟩:=Lv m cs go hgo fs l _ _ h3 (by simpa using hl) λi f' x' hf' hx'=>hf (i+1) f' x' hf' hx';refine⟨ts++ts',?_,g2.append g4,λK=>by have:=k1 K;have:=k2 K;rw[zD,bg,K.a1];omega⟩;rw[eZ,List.take_add,List.drop_drop];rw[hc1,<- hc2]at g1;exact ez.append _ _ g1 g3;cases h2
theorem alm{t e:TypeId}{row:List CS}(hk:P.underlying t=some (.slice e))(hm:LR P t e=some row):∀(fuel:Nat)(cs:List Value)(x:DataW H×List MemPlace),DataW.trod enc P w 0 sp held fuel t cs=some x->∃tr,ez w (Here w) [tr] cs/\Ek row tr/\∀K:Bk H,nf tr<=K.b x.1:=by
 intro fuel
 induction fuel using Nat.strongRecOn with
 |_ fuel ih=>
 intro cs x hx;have one:∀m,m<fuel->∀s9 y,DataW.trod enc P w 0 sp held m e s9=some y->∃ts,ez w (Here w) ts s9/\jp row row ts/\ts.length=row.length/\∀K:Bk H,kS ts<=K.b y.1:=by
  intro m hmf s9 y hy;unfold LR at hm;split at hm;rename_i fs hke;simp only[ah]at hm;obtain⟨r,h1,h2⟩:=hm;split at h2;rename_i hr;injection h2 with h2;subst h2;obtain⟨xs,m',hm',rfl,hl,hxs,hf⟩:=DataW.trod_struct hke hy;obtain⟨ts,g1,g2,k1⟩:=Lv (row:=r) m' s9 (V2 P t) (λ u sh hsh cs x hx=>by unfold V2 at hsh;split at hsh;rename_i hu;cases hsh;rw[hu]at hx;obtain⟨tr,a1,a2,a3⟩:=ih m' (by omega) cs x hx;exact⟨[tr],a1,.back a2 .nil,λK=>by have:=a3 K;simp[kS];omega⟩;split at hsh;rename_i k An;cases hsh;obtain⟨v,rfl,rfl,hw⟩:=DataW.trod_int An hx;exact⟨[.sc (.int k v)],by simp[ez,TR,oneCell],.one ⟨v,rfl,hw⟩ .nil,λK=>by simp[kS,nf,K.int]⟩;rename_i An;cases hsh;obtain⟨v,rfl,rfl⟩:=DataW.trod_bool An hx;exact⟨[.sc (.bool v)],by simp[ez,TR,oneCell],.one ⟨v,rfl⟩ .nil,λK=>by simp[kS,nf,K.bool]⟩;rename_i An;cases hsh;obtain⟨v,rfl,rfl,hw⟩:=DataW.trod_string An hx;exact⟨[.sc (.string v)],by simp[ez,TR,oneCell],.one ⟨v,rfl,hw⟩ .nil,λK=>by simp[kS,nf,K.str]⟩;cases hsh) fs.toList xs 0 r h1 (by simpa using hxs) (λ i f x hi hxi=>by have hi':fs[i]? =some f:=(by simpa using hi);rw[hf i f hi',hxi]);rw[List.drop_zero,take_of_length_le (by omega)]at g1;refine⟨ts,g1,g2,?_,λK=>by have:=k1 K;rw[K.agg];omega⟩;rw[ez.length _ _ g1];omega;cases h2;cases hm
 have rl:row.length=P.cellsOf e/\0<row.length:=by unfold LR at hm;split at hm;simp only[ah]at hm;obtain⟨r,h1,h2⟩:=hm;split at h2;rename_i hr;cases h2;exact hr;cases h2;cases hm
 rcases DataW.trod_slice hk hx with ⟨rfl,rfl⟩|⟨a,len,cap,elems,ag,m,hfm,rfl,rfl,_,hl,hmx,hlen,hel,_,_⟩;refine⟨.sl [],?_,.mk [] (by simp[maxLen]) .nil,λK=>by simp[nf,Au,K.nil]⟩;simp only[ez,TR];exact⟨.inl ⟨trivial,none,0,rfl,λ_=>rfl⟩,trivial⟩;have each:∀i,i<len->∃s9 y,w.cells? 0 (a.add (i*P.cellsOf e)) (P.cellsOf e)=some s9/\DataW.trod enc P w 0 sp held m e s9=some y/\elems[i]? =some y:=by intro i hi;have h3:=hel i hi;have h6:elems[i]? =some (elems[i]'(by omega)):=dD (by omega);rw[h6,ah]at h3;obtain⟨s9,h4,h5⟩:=h3;exact⟨s9,_,h4,h5,h6⟩
 by_cases h0:len=0;subst h0;refine⟨.sl [],?_,.mk [] (by simp[maxLen]) .nil,λK=>by simp[nf,Au,K.sl]⟩;simp only[ez,TR];exact⟨.inl ⟨trivial,some a,cap,rfl,λh=>by cases h⟩,trivial⟩;obtain⟨cs0,y0,c0,_,_⟩:=each 0 (by omega);obtain⟨_,c1,c2⟩:=World.cells?_some c0;have c3:=c2 0 (by omega);rw[dD (by omega)]at c3;have c4:=N9 c3;simp[Nat.zero_mul,Addr.add,if_true]at c4;obtain⟨b,aa,s⟩:=a;simp at c4;obtain⟨rfl,hb⟩:=c4;have rows:∀q j,j+q=len->∃rows:List (List Tree),rows.length=q/\cD w (Here w) rows b (aa+j*P.cellsOf e) (P.cellsOf e)/\oX row rows/\∀K:Bk H,Au rows<=K.a ((elems.map (·.1)).drop j):=by
  intro q
  induction q with
  |zero=>intro j _;exact⟨[],rfl,by simp[cD],.nil,λK=>by simp[Au]⟩
  |succ q ihq=>
   intro j hj;obtain⟨rows,g1,g2,g3,k3⟩:=ihq (j+1) (by omega);obtain⟨csj,y,g4,g5,gy⟩:=each j (by omega);obtain⟨ts,g6,g7,_,k6⟩:=one m (by omega) _ _ g5;obtain⟨_,g8,g9⟩:=World.cells?_some g4;refine⟨ts::rows,by simp[g1],?_,.cons g7 g3,λK=>by have:=k3 K;have:=k6 K;rw[K.drop gy,Au];omega⟩;simp[cD];refine⟨(ez.length _ _ g6).trans g8,Z7 _ _ _ _ g6 λi hi=>?_,?_⟩;rw[<- g9 i (by omega),addr_add,addr_add];rw[show aa+j*P.cellsOf e+P.cellsOf e=aa+(j+1)*P.cellsOf e by rw[Nat.add_mul];omega];exact g2
 obtain⟨rows,g1,g2,g3,k3⟩:=rows len 0 (by omega);refine⟨.sl rows,?_,.mk rows (by omega) g3,λK=>by have:=k3 K;rw[List.drop_zero]at this;rw[K.sl,nf];omega⟩;simp only[ez,TR];exact⟨.inr ⟨b,aa,cap,P.cellsOf e,by rw[g1],by omega,hb,by simpa using g2⟩,trivial⟩
theorem Dp{cut:List TypeId}:∀(n:Nat)(t:TypeId)(sh:List CS),ws P cut n t=some sh->∀(fuel:Nat)(cs:List Value)(x:DataW H×List MemPlace),DataW.trod enc P w 0 sp held fuel t cs=some x->M3 P t x->
 ∃ts,ez w (Here w) ts cs/\du sh ts/\∀K:Bk H,kS ts<=K.b x.1
 | 0,_,_,h,_,_,_,_,_=>by simp[ws]at h
 |n+1,t,sh,h,fuel,cs,x,hx,hz=>by
  unfold ws at h;split at h;rename_i k hk;cases h;obtain⟨v,rfl,rfl,hw⟩:=DataW.trod_int hk hx;exact⟨[.sc (.int k v)],by simp[ez,TR,oneCell],by simp only[du,Fit];exact⟨⟨v,rfl,hw⟩,trivial⟩,λK=>by simp[kS,nf,K.int]⟩;rename_i hk;cases h;obtain⟨v,rfl,rfl⟩:=DataW.trod_bool hk hx;exact⟨[.sc (.bool v)],by simp[ez,TR,oneCell],by simp only[du,Fit];exact⟨⟨v,rfl⟩,trivial⟩,λK=>by simp[kS,nf,K.bool]⟩;rename_i hk;cases h;obtain⟨v,rfl,rfl,hw⟩:=DataW.trod_string hk hx;exact⟨[.sc (.string v)],by simp[ez,TR,oneCell],by simp only[du,Fit];exact⟨⟨v,rfl,hw⟩,trivial⟩,λK=>by simp[kS,nf,K.str]⟩;rename_i e hk;split at h;split at h;rename_i row hmr;cases h;have⟨tr,g1,g2,k1⟩:=alm hk hmr fuel cs x hx;exact⟨[tr],g1,by simp only[du,Fit];exact⟨g2,trivial⟩,λK=>by have:=k1 K;simp only[kS];omega⟩;cases h;rcases DataW.trod_slice hk hx with ⟨rfl,rfl⟩|⟨a,len,cap,elems,ag,m,_,rfl,rfl,_,hl,hm,hlen,hel,_,_⟩;exact⟨[.sc (.slice none 0 0)],by simp[ez,TR,oneCell],by simp[du,Fit],λK=>by simp[kS,nf,K.nil]⟩;exact⟨[.sc (.slice (some a) len cap)],by simp[ez,TR,oneCell],by simp[du,Fit],λK=>by simp[kS,nf,K.sl]⟩;simp only[ah]at h;obtain⟨r,h1,h2⟩:=h;split at h2;rename_i hr;cases h2;rcases DataW.trod_slice hk hx with ⟨rfl,rfl⟩|⟨a,len,cap,elems,ag,m,_,rfl,rfl,_,hl,hm,hlen,hel,_,_⟩;refine⟨[.sl []],?_,by simp only[du,Fit];exact⟨⟨[],rfl,by simp[maxLen],by simp⟩,trivial⟩,λK=>by simp[kS,nf,Au,K.nil]⟩;simp only[ez,TR];exact⟨.inl ⟨trivial,none,0,rfl,λ_=>rfl⟩,trivial⟩;have hzw:∀k,k=(elems.length+ag.length)*P.bytesOf e\/k∈DataW.weightsAll P e (elems.map (·.1))->k<=reachBytes:=by intro k hkk;refine hz k ?_;simp only[DataW.weights,hk,aP,bO,length_map];rcases hkk with h|h;exact .inl h;exact .inr (.inl h)
  have each:∀i,i<len->∃s9 y,w.cells? 0 (a.add (i*P.cellsOf e)) (P.cellsOf e)=some s9/\DataW.trod enc P w 0 sp held m e s9=some y/\M3 P e y/\elems[i]? =some y:=by intro i hi;have h3:=hel i hi;have h6:elems[i]? =some (elems[i]'(by omega)):=dD (by omega);rw[h6,ah]at h3;obtain⟨s9,h4,h5⟩:=h3;exact⟨s9,_,h4,h5,λk hk=>hzw k (.inr (xZ (mem_map.2 ⟨_,List.getElem_mem (by omega),rfl⟩) k hk)),h6⟩
  have hbytes:len*Ks r<=reachBytes:=by have h1:=hzw _ (.inl rfl);have h2:len*Ks r<=(elems.length+ag.length)*P.bytesOf e:=Nat.mul_le_mul (by omega) hr.2.2;omega
  by_cases h0:len=0;subst h0;refine⟨[.sl []],?_,by simp only[du,Fit];exact⟨⟨[],rfl,by simp[maxLen],by simp⟩,trivial⟩,λK=>by simp[kS,nf,Au,K.sl]⟩;simp only[ez,TR];exact⟨.inl ⟨trivial,some a,cap,rfl,λh=>by cases h⟩,trivial⟩;obtain⟨cs0,y0,c0,_,_,_⟩:=each 0 (by omega);obtain⟨_,c1,c2⟩:=World.cells?_some c0;have c3:=c2 0 (by omega);rw[dD (by omega)]at c3;have c4:=N9 c3;simp[Nat.zero_mul,Addr.add,if_true]at c4;obtain⟨b,aa,s⟩:=a;simp at c4;obtain⟨rfl,hb⟩:=c4;have rows:∀m j,j+m=len->∃rows:List (List Tree),rows.length=m/\cD w (Here w) rows b (aa+j*P.cellsOf e) (P.cellsOf e)/\(∀ x∈rows,du r x)/\∀K:Bk H,Au rows<=K.a ((elems.map (·.1)).drop j):=by
   intro m
   induction m with
   |zero=>intro j _;exact⟨[],rfl,by simp[cD],by simp,λK=>by simp[Au]⟩
   |succ m ih=>
    intro j hj;obtain⟨rows,g1,g2,g3,k3⟩:=ih (j+1) (by omega);obtain⟨csj,y,g4,g5,g5z,gy⟩:=each j (by omega);obtain⟨ts,g6,g7,k6⟩:=Dp n e r h1 _ _ _ g5 g5z;obtain⟨_,g8,g9⟩:=World.cells?_some g4;refine⟨ts::rows,by simp[g1],?_,λx hx=>?_,λK=>by have:=k3 K;have:=k6 K;rw[K.drop gy,Au];omega⟩;simp[cD];refine⟨(ez.length _ _ g6).trans g8,Z7 _ _ _ _ g6 λi hi=>?_,?_⟩;rw[<- g9 i (by omega),addr_add,addr_add];rw[show aa+j*P.cellsOf e+P.cellsOf e=aa+(j+1)*P.cellsOf e by rw[Nat.add_mul];omega];exact g2;rcases aP.1 hx with rfl|hx;exact g7;exact g3 x hx
  obtain⟨rows,g1,g2,g3,k3⟩:=rows len 0 (by omega);refine⟨[.sl rows],?_,by simp only[du,Fit];exact⟨⟨rows,rfl,⟨by omega,by rw[g1];exact hbytes⟩,g3⟩,trivial⟩,λK=>by have:=k3 K;rw[List.drop_zero]at this;rw[K.sl];simp[kS,nf];omega⟩;simp only[ez,TR];exact⟨.inr ⟨b,aa,cap,P.cellsOf e,by rw[g1],by omega,hb,by simpa using g2⟩,trivial⟩;cases h2;rename_i fs hk;simp only[ah]at h;obtain⟨r,h1,h2⟩:=h;split at h2;rename_i hr;injection h2 with h2;subst h2;obtain⟨xs,m,_,rfl,hl,hxs,hf⟩:=DataW.trod_struct hk hx;obtain⟨ts,g1,g2,k1⟩:=Qa m cs (ws P cut n) (λ t sh hsh cs x hx hz=>Dp n t sh hsh m cs x hx hz) fs.toList xs 0 r h1 (by simpa using hxs) (λ i f x hi hxi=>by have hi':fs[i]? =some f:=(by simpa using hi);have:=hf i f hi';rw[hxi]at this;refine⟨this,λk hk'=>hz k ?_⟩;simp[DataW.weights,hk];exact DataW.weights_mem_each (j:=i) (t:=f.type) (d:=x.1) (by simp[hi']) (by simp[hxi]) k hk');refine⟨ts,?_,g2,λK=>by have:=k1 K;rw[K.agg];omega⟩;rw[List.drop_zero,take_of_length_le (by omega)]at g1;exact g1;cases h2;rename_i m e hk;simp only[ah]at h;obtain⟨r,h1,h2⟩:=h;split at h2;rename_i hr;cases h2;obtain⟨xs,q,_,rfl,hl,hxs,hf⟩:=DataW.trod_array hk hx;have part:∀i j,j+i=m->∃ts,ez w (Here w) ts (cs.drop (j*P.cellsOf e))/\du (List.replicate i r).flatten ts/\∀K:Bk H,kS ts<=K.a ((xs.map (·.1)).drop j):=by
   intro i
   induction i with
   |zero=>
    intro j hj;refine⟨[],?_,by simp[du],λK=>by simp[kS]⟩;have:j=m:=(by omega);subst this;rw[List.drop_of_length_le (by rw[hl,<- hr.2,<- hr.1];omega)];simp[ez]
   |succ i ih=>
    intro j hj;obtain⟨ts,g1,g2,k1⟩:=ih (j+1) (by omega);have:=hf j (by omega);have hxj:xs[j]? =some (xs[j]'(by omega)):=dD (by omega);rw[hxj]at this;obtain⟨ts0,g3,g4,k3⟩:=Dp n e r h1 _ _ _ this (λ k hk'=>hz k (by simp[DataW.weights,hk];exact xZ (mem_map.2 ⟨_,List.getElem_mem (by omega),rfl⟩) k hk'));refine⟨ts0++ts,?_,?_,λK=>by have:=k1 K;have:=k3 K;rw[K.drop hxj,zD];omega⟩;have:=ez.append _ _ g3 g1;rw[show (j+1)*P.cellsOf e=j*P.cellsOf e+P.cellsOf e by rw[Nat.add_mul];omega,<- List.drop_drop,List.take_append_drop]at this;exact this;exact du.append _ _ g4 g2
  obtain⟨ts,g1,g2,k1⟩:=part m 0 (by omega);exact⟨ts,by simpa using g1,g2,λK=>by have:=k1 K;rw[List.drop_zero]at this;rw[K.agg];omega⟩;cases h2;cases h
inductive VS where
 |one (c:CS)
 |agg (cs:List CS)
def HT(P:Program)(cut:List TypeId)(t:TypeId):Option VS:=
 (ws P cut 12 t).bind λsh=>match P.underlying t with
  |some (.struct _)|some (.array _ _)=>some (.agg sh)
  |_=>match sh with
   |[c]=>some (.one c)
   |_=>none
def DQ:VS->TV->Prop
 |.one c,x=>∃y,x=.s y/\Fit c y
 |.agg cs,x=>∃ys,x=.a ys/\du cs ys
def TW:List VS->List TV->Prop
 |[],[]=>True
 |s::ss,x::xs=>DQ s x/\TW ss xs
 |_,_=>False
def IP:TV->Nat
 |.s y=>nf y
 |.a ys=>kS ys
def TY:List TV->Nat
 |[]=>0
 |x::xs=>IP x+TY xs
theorem ajk{cut:List TypeId}{t:TypeId}{s:VS}{v:Value}{d:DataW H}{ps:List MemPlace}{b0:Nat}(hs:HT P cut t=some s)(hval:Value.okWide P w .any b0 t v)(hd:DataW.Trod enc P w 0 sp held t v d ps)(hz:∀k∈d.weights P t,k<=reachBytes):
 ∃x,td w (Here w) x v/\DQ s x/\∀K:Bk H,IP x<=K.b d:=by
 obtain⟨fuel,hf⟩:=hd;simp[HT,ah]at hs;obtain⟨sh,h1,h2⟩:=hs;obtain⟨ts,g1,g2,k1⟩:=Dp 12 t sh h1 _ _ _ hf hz;have hag:∀cs:Array Value,v=.agg cs->s=.agg sh->∃x,td w (Here w) x v/\DQ s x/\∀K:Bk H,IP x<=K.b d:=by rintro cs rfl rfl;exact⟨.a ts,⟨cs,rfl,by simpa[Value.cells]using g1⟩,⟨ts,rfl,g2⟩,k1⟩
 unfold Value.okWide at hval;split at h2;rename_i hu;injection h2 with h2;rw[hu]at hval;obtain⟨cs,rfl,_⟩:=hval;exact hag cs rfl h2.symm;rename_i hu;injection h2 with h2;rw[hu]at hval;obtain⟨cs,rfl,_⟩:=hval;exact hag cs rfl h2.symm;split at h2;cases h2;have hone:v.cells.toList=[v]:=by
  cases hu:P.underlying t with
  |none=>rw[hu]at hval;simp[Cell.okWide,Cell.ok,hu]at hval
  |some d=>
   rw[hu]at hval;cases v<;>first|rfl|(exfalso;revert hval;cases d<;>simp_all [Cell.okWide,Cell.ok])
 rw[hone]at g1
 match ts,g1,g2,k1 with
 |[y],g1,g2,k1=>
  simp only[du]at g2;exact⟨.s y,g1.1,⟨y,rfl,g2.1⟩,λK=>by have:=k1 K;simpa[kS,IP]using this⟩
 |[],g1,_,_=>exact g1.elim
 |_::_::_,g1,_,_=>exact g1.2.elim
 cases h2
theorem Yz{cut:List TypeId}:∀{ts:List TypeId}{ss:List VS}{vs:List Value}{ds:List (DataW H)}{ps:List MemPlace}{b0:Nat},ts.mapM (HT P cut)=some ss->
 (∀ (j:Nat) t v,ts[j]? =some t->vs[j]? =some v->Value.okWide P w .any b0 t v)->DataW.TrodAll enc P w 0 sp held ts vs ds ps->(∀ k∈DataW.weightsEach P ts ds,k<=reachBytes)->∃xs,mi w (Here w) xs vs/\TW ss xs/\∀K:Bk H,TY xs<=K.a ds
 |[],ss,vs,ds,ps,b0,hs,_,hd,_=>by obtain⟨rfl,rfl,rfl⟩:=trodAll_nil hd;simp at hs;subst hs;exact⟨[],trivial,trivial,λK=>by simp[TY]⟩
 |t::ts,ss,vs,ds,ps,b0,hs,hval,hd,hz=>by obtain⟨v,vs',d,ds',p,q,rfl,rfl,rfl,h0,r0⟩:=trodAll_cons hd;simp[ah]at hs;obtain⟨s,h1,ss',h2,rfl⟩:=hs;obtain⟨x,g1,g2,k1⟩:=ajk h1 (hval 0 t v rfl rfl) h0 (λ k hk=>hz k (by simp[DataW.weightsEach];exact .inl hk));obtain⟨xs,g3,g4,k2⟩:=Yz h2 (λ j t v h h'=>hval (j+1) t v h h') r0 (λ k hk=>hz k (by simp[DataW.weightsEach];exact .inr hk));exact⟨x::xs,⟨g1,g3⟩,⟨g2,g4⟩,λK=>by have:=k1 K;have:=k2 K;rw[TY,K.a1];omega⟩
theorem Qb{β:Nat->Option cJ}{I:Nat->Prop}:∀(xs:List TV)(vs:List Value),mi w I xs vs->br P β w I (xs.map TV.av) vs
 |[],[],_=>by simp[br]
 |x::xs,v::vs,h=>by
  refine⟨?_,Qb xs vs h.2⟩;have h1:=h.1;cases x with
  |s y=>simp[TV.av];exact h1
  |a cs=>
   obtain⟨us,rfl,h2⟩:=h1;refine⟨us,rfl,?_⟩;have:∀(cs:List Tree) (us:List Value),ez w I cs us->br P β w I (cs.map AV.t) us:=by
    intro cs
    induction cs with
    |nil=>intro us h;cases us<;>first|(simp [br];done)|exact h.elim
    |cons c cs ih=>intro us h;cases us with
     |nil=>exact h.elim
     |cons u us=>simp;exact⟨h.1,ih us h.2⟩
   exact this cs us.toList h2
 |[],_::_,h|_::_,[],h=>h.elim
end
section
variable {H:Type} {enc:TypeId×Value->H} {P:Program}
theorem aeJ{f:Func}{s:ChangeSpec}{apart fresh handsOn again:Bool}{W W':World}{args:Array Value}{v:Value}{ds gs:List (DataW H)}{before pa pv:List MemPlace}
 (hW:DataW.Whole enc P f.params.toList s.vars apart W args.toList ds gs before)
 (hres:∀(b:Nat)(sp:Nat->Bool)(hd:Bool),DataW.TrodAll enc P W' b sp hd f.resultTypes.toList (v.resultList f.resultTypes.size) (s.fn H (ds++gs)).results [])
 (hargs:∀sp:Nat->Bool,(∀ p∈before,sp p.block=true)->DataW.TrodAll enc P W' 0 sp true f.params.toList args.toList (s.fn H (ds++gs)).args pa)
 (hvars:∀sp:Nat->Bool,(∀ p∈before,sp p.block=true)->DataW.TrodVars enc P W' sp s.vars (s.fn H (ds++gs)).vars pv)
 (hps:before=pa++pv) (hb:Below W.heap.size W W')
 (hok:∀(j:Nat)(t:TypeId)(r:Value),f.resultTypes[j]? =some t->(v.resultList f.resultTypes.size)[j]? =some r->Value.okWide P W' .any 0 t r):
 s.post enc P f apart fresh handsOn again W args v W':=by
 have hlt:∀p∈before,p.block<W.heap.size:=λp hp=>hW.lt p hp;have hold:∀p∈before,(λ b=>decide (b<W.heap.size)) p.block=true:=λp hp=>by simpa using hlt p hp
 refine⟨ds,gs,before,[],pa,pv,hW,hres _ _ _,hargs _ hold,hvars _ hold,World.keptBut_mono (λ p hp=>⟨hp,?_⟩) (hb.frame (· ∈before)),λ_=>?_⟩;rw[hps,bO]at hp;exact Or.inr hp;obtain⟨_,_,_,_,_,hz,hn⟩:=hW;refine⟨hok,_,_,([]++pa)++pv,⟨[]++pa,pv,trodAll_append (hargs _ (λ _ _=>rfl)) (hres _ _ _),hvars _ (λ _ _=>rfl),rfl,?_,?_⟩,?_⟩;intro b aa hp;have hin:MemPlace.cell b aa∈before:=by rw[hps];simpa using hp
 rw[hb.frozen (hlt _ hin)];exact hz b aa hin;intro ha;have:=hn ha;rw[hps]at this;simpa using this;intro p hp _;rw[hps];simpa using hp
theorem JN(hl:laidOutB P=true){W W':World}(hb:Below W.heap.size W W'):∀{ts:List TypeId}{vs:List Value}{ds:List (DataW H)}{ps:List MemPlace},(∀ t∈ts,P.readableRec t=true/\t<P.types.size)->
 DataW.TrodAll enc P W 0 (λ _=>true) true ts vs ds ps->(∀ x∈ps,x.block<W.heap.size)->∀sp:Nat->Bool,(∀ p∈ps,sp p.block=true)->DataW.TrodAll enc P W' 0 sp true ts vs ds ps
 |[],vs,ds,ps,_,hd,_,sp,_=>by obtain⟨rfl,rfl,rfl⟩:=trodAll_nil hd;exact trodAll_mk0
 |t::ts,vs,ds,ps,ht,hd,hlt,sp,hsp=>by
  obtain⟨v,vs',d,ds',p,q,rfl,rfl,rfl,h0,r0⟩:=trodAll_cons hd;obtain⟨h1,h2⟩:=ht t (by simp)
  exact trodAll_cons_mk (WideElems.Trod_stays hl h1 h2 h0 (λ x hx=>hb.same (hlt x (by simp[hx]))) (λ x hx=>hsp x (by simp[hx])))
   (JN hl hb (λ t ht'=>ht t (by simp[ht'])) r0 (λ x hx=>hlt x (by simp[hx])) sp (λ x hx=>hsp x (by simp[hx])))
theorem Qc{w:World}{base:Nat}{sp:Nat->Bool}{held:Bool}:∀{ts:List TypeId}{vs:List Value}{ds:List (DataW H)}{ps:List MemPlace},DataW.TrodAll enc P w base sp held ts vs ds ps->ds.length=ts.length
 |[],_,_,_,h=>by obtain⟨_,rfl,_⟩:=trodAll_nil h;rfl
 |_::_,_,_,_,h=>by obtain⟨_,_,_,_,_,_,_,rfl,_,_,h2⟩:=trodAll_cons h;simp[Qc h2]
theorem abY:∀{ts:List TypeId}{ds:List (DataW H)}{vt:List TypeId}{gs:List (DataW H)},ds.length=ts.length->∀k∈DataW.weightsEach P ts ds,k∈DataW.weightsEach P (ts++vt) (ds++gs)
 |[],[],_,_,_,k,h=>by simp[DataW.weightsEach]at h
 |t::ts,d::ds,vt,gs,hl,k,h=>by simp[DataW.weightsEach]at h ⊢;rcases h with h|h;exact .inl h;exact .inr (abY (by simpa using hl) k h)
 |[],_::_,_,_,h,_,_|_::_,[],_,_,h,_,_=>by simp at h
theorem Z8{cut:List TypeId}{C:Checked}{f:FuncId}{fn:Func}{s:ChangeSpec}{ss:List VS}{tb:TypeId}(hl:laidOutB C.prog=true)(hread:(fn.params.toList.all λt=>C.prog.readableRec t&&decide (t<C.prog.types.size))=true)
 (hss:fn.params.toList.mapM (HT C.prog cut)=some ss) (hvars:s.vars=[]) (hres:fn.resultTypes=#[tb]) (hb:C.prog.underlying tb=some .bool)
 (hs:∀ds:List (DataW H),ds.length=fn.params.toList.length->s.fn H ds={ results:=[.lit (.bool true)],args:=ds })
 {B:Nat->Prop} (Rd:∀xs,TW ss xs->(∀ n,B n->TY xs<=n)->so C.prog f (xs.map TV.av) (.one (.d (.s (.sc (.bool true))))))
 {W:World} {base:Nat} {args:Array Value} {ds gs:List (DataW H)} {before:List MemPlace}
 (hval:∀(j:Nat) t v,fn.params[j]? =some t->args[j]? =some v->Value.okWide C.prog W .any base t v)
 (hW:DataW.Whole enc C.prog fn.params.toList s.vars false W args.toList ds gs before)
 {vt:List TypeId} (hz:(DataW.weightsEach C.prog (fn.params.toList++vt) (ds++gs)).all (· <=reachBytes)=true) (hv:kw W (Here W)) (hB:∀n,B n->∃K:Bk H,K.a ds<=n):
 Calls C.prog f args W λe W'=>∃v,e=.returned v/\s.post enc C.prog fn false true false false W args v W':=by
 have hW':=hW;obtain⟨p,q,hA,hV,rfl,_,_⟩:=hW;rw[hvars]at hV;obtain⟨rfl,rfl⟩:=trodVars_none hV;have hlen:=Qc hA;obtain⟨xs,g1,g2,g3⟩:=Yz hss (λ j t v h1 h2=>hval j t v (by simpa using h1) (by simpa using h2)) hA (λ k hk=>by have:=all_eq_true.1 hz k (abY hlen k hk);simpa using this);simp at hW';have hlt:∀x∈p,x.block<W.heap.size:=λx hx=>hW'.lt x hx;refine((Rd xs g2 (λ n hn=>by have⟨K,hK⟩:=hB n hn;exact Nat.le_trans (g3 K) hK)).2 W (Here W) args (λ _ h=>h) hv (Qb _ _ g1)).mono λe W' ⟨v,I',he,hbel,_,_,_,hr⟩=>⟨v,he,?_⟩;simp[qk]at hr;obtain⟨rfl,_⟩:=hr;have hfn:s.fn H (ds++[])={ results:=[.lit (.bool true)],args:=ds }:=by rw[append_nil];exact hs ds hlen
 refine aeJ (pa:=p) (pv:=[]) hW' (λ b sp hd=>?_) (λ sp hsp=>?_) (λ sp _=>?_) (by simp) hbel (ok_one (by rw[hres]) rfl (okWide_bool_mk hb _));rw[hfn,hres];exact trodAll_mk1 (shut_bool hb _);rw[hfn];refine JN hl hbel (λ t ht=>?_) hA hlt sp hsp;have:=all_eq_true.1 hread t ht;simpa using this;rw[hfn,hvars];rfl
end
def TC:yn->TypeDesc->Bool
 |.slice e,.slice e'=>e==e'
 |.arr n e,.array n' e'=>n==n'&&e==e'
 |.struct fs,.struct fa=>fa.toList.map (λ f=>(f.offset,f.type))==fs
 |.bool,.bool=>true
 |.str,.string=>true
 |.int k,.int k'=>k==k'
 |.map k e,.map k' e'=>k==k'&&e==e'
 |.other,_=>true
 |_,_=>false
def T7:Value->Value->Bool
 |.int k a,.int k' b=>k==k'&&a==b
 |.bool a,.bool b=>a==b
 |.string a,.string b=>decide (a=b)
 |.slice none 0 0,.slice none 0 0=>true
 |.pointer none,.pointer none=>true
 |.nilFunc,.nilFunc=>true
 |.nilIface,.nilIface=>true
 |.map none,.map none=>true
 |_,_=>false
theorem abZ{a b:Value}(h:T7 a b=true):a=b:=by unfold T7 at h;split at h<;>simp_all
def T9:List Value->List Value->Bool
 |[],[]=>true
 |a::as,b::bs=>T7 a b&&T9 as bs
 |_,_=>false
theorem Lx:∀{a b:List Value},T9 a b=true->a=b
 |[],[],_=>rfl
 |a::as,b::bs,h=>by simp[T9]at h;rw[abZ h.1,Lx h.2]
 |[],_::_,h|_::_,[],h=>by simp[T9]at h
def T6(P:Program)(t:TypeId)(ti:oT):Bool:=
 match P.info? t,P.underlying t with
 |some info,some d=>match info.zero with
  |some z=>info.size==ti.size&&info.bytes==ti.bytes&&sd d==ti.agg&&TC ti.k d&&ti.zero.all ka&&ti.zero.length==ti.size&&
   (ti.cmp.isEmpty || match d with
    |.struct fa=>!P.stoodInHeld t&&!P.eqGuardType P.depth t&&gS P 0 fa.toList ti.cmp
    |.array _ _=>ti.cmp==[9]&&!P.eqGuardType P.depth t
    |_=>false)&&T9 z.cells.toList ti.zero&&sq ti.agg z
  |none=>false
 |_,_=>false
theorem aeK{k:yn}{d:TypeDesc}(h:TC k d=true):PF k d:=by unfold TC at h;split at h;simp at h;subst h;rfl;simp at h;obtain⟨rfl,rfl⟩:=h;rfl;rename_i fs fa;exact⟨fa,rfl,by simpa using h⟩;rfl;rfl;simp at h;subst h;rfl;simp at h;obtain⟨rfl,rfl⟩:=h;rfl;trivial;cases h
theorem ab0{P:Program}{t:TypeId}{ti:oT}(h:T6 P t ti=true):ll P t ti:=by
 unfold T6 at h;split at h;rename_i info d h1 h2;split at h
 ·rename_i z h3;simp only[bq,beq_iff_eq]at h;obtain⟨⟨⟨⟨⟨⟨⟨⟨a1,a2⟩,a3⟩,a4⟩,a5⟩,a6⟩,a7⟩,a8⟩,a9⟩:=h;refine⟨⟨info,d,z,h1,h2,a1,a2,h3,Lx a8,a3,aeK a4⟩,a5,a6,λinfo' z' e1 e2=>by rw[h1]at e1;cases e1;rw[h3]at e2;cases e2;exact a9,λhne=>?_⟩
  all_goals grind
 cases h;cases h
def Ua(l:List (TypeId×oT)):el:=λt=>(l.find? λp=>p.1==t).map (·.2)
theorem ajn{P:Program}{l:List (TypeId×oT)}(h:(l.all λp=>T6 P p.1 p.2)=true):fH P (Ua l):=by intro t ti ht;simp only[Ua,rF]at ht;obtain⟨p,hp,rfl⟩:=ht;have h1:=List.find?_some hp;simp at h1;subst h1;exact ab0 (all_eq_true.1 h p (List.mem_of_find?_eq_some hp))
inductive CT(ι:Type) where
 |int (k:IntKind)
 |bool
 |str
 |sl (e:CT ι)
 |st (i:ι)
 |any
 |mp (k v:CT ι)
 deriving DecidableEq
structure SE where
 ι:Type
 dec:DecidableEq ι
 T:ι->Type
 row:(i:ι)->T i->List Tree
instance (E:SE):DecidableEq E.ι:=E.dec
section
variable (E:SE)
@[reducible] def CT.T:CT E.ι->Type
 |.int _=>Int
 |.bool=>Bool
 |.str=>ByteArray
 |.sl e=>List (CT.T e)
 |.st i=>E.T i
 |.any=>Tree
 |.mp k v=>List (CT.T k×CT.T v)
def CT.row:(c:CT E.ι)->CT.T E c->List Tree
 |.int k,n=>[.sc (.int k n)]
 |.bool,b=>[.sc (.bool b)]
 |.str,s=>[.sc (.string s)]
 |.sl e,l=>[.sl (List.map (CT.row e) l)]
 |.st i,x=>E.row i x
 |.any,x=>[x]
 |.mp _ _,_=>[.sl []]
def CT.one{ι:Type}:CT ι->Bool
 |.st _=>false
 |_=>true
def CT.tv:(c:CT E.ι)->CT.T E c->TV
 |.int k,n=>.s (.sc (.int k n))
 |.bool,b=>.s (.sc (.bool b))
 |.str,s=>.s (.sc (.string s))
 |.sl e,l=>.s (.sl (List.map (CT.row E e) l))
 |.st i,x=>.a (E.row i x)
 |.any,x=>.s x
 |.mp _ _,_=>.s (.sl [])
def HL:List (CT E.ι)->Type
 |[]=>Unit
 |c::l=>CT.T E c×HL l
def HL.row:(l:List (CT E.ι))->HL E l->List Tree
 |[],_=>[]
 |c::l,h=>CT.row E c h.1++HL.row l h.2
def HL.mw:(l:List (CT E.ι))->HL E l->List TV
 |[],_=>[]
 |c::l,h=>CT.tv E c h.1::HL.mw l h.2
end
structure Arr(E:SE) where
 i:E.ι
 c:CT E.ι
 f:E.T i->List (CT.T E c)
 g:List (CT.T E c)->Option (E.T i)
structure SX extends SE where
 de:ι->List (CT ι)
 get:(i:ι)->T i->HL toSE (de i)
 make:(i:ι)->HL toSE (de i)->T i
 nj:∀i x,row i x=HL.row toSE (de i) (get i x)
 gd:∀i h,row i (make i h)=HL.row toSE (de i) h
 flat:∀i,(de i).all CT.one=true
 gv:Nat->Option ((c:CT ι)×CT.T toSE c)
 xd:∀g,(gv g).map (λ p=>CT.row toSE p.1 p.2)=(vn g).map λr=>r.map Tree.sc
 ar:TypeId->Option (Arr toSE):=λ_=>none
 aog:∀t a,ar t=some a->a.c.one=true/\(∀ x,row a.i x=((a.f x).map (CT.row toSE a.c)).flatten)/\∀l x,a.g l=some x->a.f x=l:=by intro t a h;cases h
section
variable (X:SX)
abbrev SX.C:=CT X.ι
abbrev SX.t(c:CT X.ι):Type:=CT.T X.toSE c
def CT.sz:CT X.ι->Nat
 |.st i=>(X.de i).length
 |_=>1
inductive DV where
 |c (t:CT X.ι) (x:CT.T X.toSE t)
 |agg (cs:List DV)
 |eV (vs:List DV)
 |own (k aa len:Nat)
 |ptr (k row aa:Nat)
 |pN (k:Nat) (n:Int) (aa:Nat)
 |sX (k row aa m:Nat) (n:Int)
 |rp (t:CT X.ι) (x:CT.T X.toSE t) (aa:Nat)
 |u9 (t:CT X.ι) (x:CT.T X.toSE t) (aa m:Nat) (n:Int)
 |fn (f:FuncId) (first caps:List DV)
 |ea (as:List (CT X.ι)) (r:CT X.ι) (φ:HL X.toSE as->Option (CT.T X.toSE r))
 |mp (k:Nat)
 |oz (k len:Nat)
 |raw (v:Value)
 |nil
 |ub
 |skip
 |undef
inductive b7 where
 |cells (sz:Nat) (rows:List (List (DV X)))
 |ed (c:CT X.ι) (l:List (CT.T X.toSE c))
 |map (kc vc:CT X.ι) (l:List (CT.T X.toSE kc×CT.T X.toSE vc))
structure df where
 env:List (Nat×DV X)
 obj:List (Nat×Option (b7 X))
 nx:Nat
 log:List Nat
variable {X}
mutual
def den:DV X->AV
 |.c t x=>(CT.tv X.toSE t x).av
 |.agg cs=>.agg (bG cs)
 |.eV vs=>.eV (bG vs)
 |.own k aa len=>.own k aa len
 |.ptr k row aa=>.ptr k row aa
 |.pN k n aa=>.ptr k n.toNat aa
 |.sX k row aa _ n=>.ptr k row (aa+n.toNat)
 |.rp t x aa=>.en (CT.row X.toSE t x) aa
 |.u9 t x aa _ n=>.en (CT.row X.toSE t x) (aa+n.toNat)
 |.fn f first caps=>.fn f (bG first) (bG caps)
 |.ea as r φ=>.ea λts u=>∃h x,φ h=some x/\ts=HL.mw X.toSE as h/\u=CT.tv X.toSE r x
 |.mp k=>.mp k
 |.oz k len=>.oz k len
 |.raw v=>cv v
 |.nil=>.cT
 |.ub=>.ub
 |.skip=>.undef
 |.undef=>.undef
def bG:List (DV X)->List AV
 |[]=>[]
 |x::xs=>den x::bG xs
end
theorem nM:∀l:List (DV X),bG l=l.map den
 |[]=>rfl
 |x::xs=>by simp[bG,nM xs]
def bI:b7 X->aS
 |.cells sz rows=>⟨sz,rows.map bG⟩
 |.ed c l=>⟨CT.sz X c,aF (l.map (CT.row X.toSE c))⟩
 |.map kc vc l=>⟨l.length,l.map λp=>[(CT.tv X.toSE kc p.1).av,(CT.tv X.toSE vc p.2).av]⟩
def iX(u:List (Nat×Option (b7 X))):List (Nat×Option aS):=u.map λp=>(p.1,p.2.map bI)
def gE(o:List (Nat×Option (b7 X)))(k:Nat):Option (b7 X):=(lk o k).join
def eI(e:List (Nat×DV X))(t:Nat):DV X:=(lk e t).getD .undef
def df.st(s:df X):St:=⟨λ t=>den (eI s.env t),λk=>(gE s.obj k).map bI,λ_=>none⟩
def kT(a b:CT X.ι)(x:CT.T X.toSE a):Option (CT.T X.toSE b):=
 match decEq a b with
 |isTrue h=>some (h ▸ x)
 |isFalse _=>none
theorem qN{a b:CT X.ι}{x:CT.T X.toSE a}{y:CT.T X.toSE b}(h:kT a b x=some y):∃e:a=b,y=e ▸ x:=by unfold kT at h;split at h;rename_i e _;injection h with h;exact⟨e,h.symm⟩;cases h
def HL.cells:(l:List (CT X.ι))->HL X.toSE l->List (DV X)
 |[],_=>[]
 |c::l,h=>.c c h.1::HL.cells l h.2
theorem row_one{c:CT X.ι}(h:c.one=true)(x:CT.T X.toSE c):∃t,CT.row X.toSE c x=[t]/\CT.tv X.toSE c x=.s t:=by cases c<;>first|exact⟨_,rfl,rfl⟩|cases h
theorem HL.pD:∀(l:List (CT X.ι))(h:HL X.toSE l),l.all CT.one=true->bG (HL.cells l h)=(HL.row X.toSE l h).map AV.t
 |[],_,_=>rfl
 |c::l,h,ha=>by simp only[all_cons,bq]at ha;obtain⟨t,h1,h2⟩:=row_one ha.1 h.1;simp[HL.cells,bG,den,HL.row,h1,h2,TV.av,HL.pD l h.2 ha.2]
theorem HL.oa:∀(l:List (CT X.ι))(h:HL X.toSE l),l.all CT.one=true->(HL.row X.toSE l h).length=l.length
 |[],_,_=>rfl
 |c::l,h,ha=>by simp only[all_cons,bq]at ha;obtain⟨t,h1,_⟩:=row_one ha.1 h.1;simp[HL.row,h1,HL.oa l h.2 ha.2]
theorem Gn(c:CT X.ι)(x:CT.T X.toSE c):(CT.row X.toSE c x).length=CT.sz X c:=by
 cases c<;>try rfl
 rename_i i;exact(congrArg List.length (X.nj i x)).trans (HL.oa _ _ (X.flat i))
def uN:(c:CT X.ι)->CT.T X.toSE c->List (DV X)
 |.st i,x=>HL.cells (X.de i) (X.get i x)
 |c,x=>[.c c x]
theorem oJ(c:CT X.ι)(x:CT.T X.toSE c):bG (uN c x)=(CT.row X.toSE c x).map AV.t:=by
 cases c<;>try rfl
 rename_i i;exact(HL.pD _ _ (X.flat i)).trans (congrArg (List.map AV.t) (X.nj i x).symm)
def u6:DV X->Bool
 |.agg _|.eV _|.undef|.skip|.raw _|.c (.st _) _=>false
 |_=>true
theorem Qd{x:DV X}(h:u6 x=true):oI (den x)=true:=by
 cases x<;>try rfl
 case c t x=>cases t<;>first|rfl|simp[u6]at h
 all_goals simp[u6]at h
def cellsD:DV X->Option (List (DV X))
 |.agg cs=>if cs.all u6 then some cs else none
 |.c (.st i) x=>some (uN (.st i) x)
 |.eV _|.undef|.skip|.raw _=>none
 |x=>some [x]
theorem agQ{l:List (DV X)}(h:l.all u6=true):(bG l).all oI=true:=by rw[nM,List.all_map,all_eq_true];exact λx hx=>Qd (all_eq_true.1 h x hx)
theorem Dq{x:DV X}{cs:List (DV X)}(h:cellsD x=some cs):cellsOf (den x)=some (bG cs):=by
 cases x
 case c t x=>
  cases t
  case st i=>
   simp[cellsD]at h;subst h;simp only[den,CT.tv,TV.av,cellsOf,oJ];show(if ((X.row i x).map AV.t).all oI then some ((X.row i x).map AV.t)else none)=some ((X.row i x).map AV.t);rw[bA];rw[List.all_map,all_eq_true];exact λ_ _=>rfl
  all_goals simp[cellsD]at h;subst h;rfl
 case agg l=>
  simp only[cellsD]at h;split at h;cases h;simp only[den,cellsOf];rw[bA (agQ ‹_›)];cases h
 all_goals simp[cellsD]at h;try (subst h;rfl)
def ue:Value->DV X
 |.slice none 0 0=>.nil
 |.int k n=>.c (.int k) n
 |.bool b=>.c .bool b
 |.string s=>.c .str s
 |v=>.raw v
theorem agR(v:Value):den (ue (X:=X) v)=cv v:=by unfold ue;split<;>rfl
theorem BP(l:List Value):bG (l.map (ue (X:=X)))=l.map cv:=by rw[nM,map_map];exact map_congr_left λv _=>agR v
def Xt(env:Nat->DV X):Operand->DV X
 |.tmp t=>env t
 |.const v=>ue v
 |.global g=>match X.gv g with
  |some p=>.rp p.1 p.2 0
  |none=>.undef
 |.func f=>.fn f [] []
theorem Ub(env:Nat->DV X)(x:Operand):den (Xt env x)=lv (λ t=>den (env t)) x:=by
 cases x with
 |global g=>
  have h:=X.xd g;simp[Xt,lv];cases h1:X.gv g with
  |none=>
   rw[h1]at h;cases h2:vn g with
   |none=>rfl
   |some r=>rw[h2]at h;cases h
  |some p=>grind [den]
 |const v=>exact agR _
 |tmp t|func f=>rfl
end
def cd{α:Type}(l:List α)(n:Int):Option α:=bif decide (0<=n)then l[n.toNat]? else none
def sub{α:Type}(l:List α)(aa len:Nat):List α:=(l.drop aa).take len
def cP(n:Int)(len:Nat):Bool:=decide (0<=n)&&decide (n<(len:Int))
def jk{α β:Type}(a:α)(f:α->β):β:=f a
def bQ(lo len ln n bytes:Nat):Bool:=decide (lo=len)&&decide (ln=n)&&decide ((len+n)*bytes<=140737488355328)&&decide (len+n<=maxLen)
def be(a b:Nat):Bool:=decide (a=b)
def Av(l h:Int)(len:Nat):Bool:=decide (0<=l)&&decide (l<=h)&&decide (h<=(len:Int))
def Uc(a b:ByteArray):Bool:=Op.bytesLess a.toList b.toList
def Ud(a b:ByteArray):Bool:=decide (a.size+b.size<=maxLen)
abbrev iN(n:Int):Int:=n
abbrev bN(b:Bool):Bool:=b
def Ue{A:Type}:List Bool->Option A->Option A
 |[],k=>k
 |c::cs,k=>bif c then Ue cs k else none
section
variable {X:SX} {A:Type}
abbrev KK(X:SX)(A:Type):=DV X->List (Nat×Option (b7 X))->List Nat->List Nat->Option A
def T5(t:Bool)(x y:DV X):DV X:=
 match x,y with
 |.c a p,.c b q=>match decEq b a with
  |isTrue h=>.c a (bif t then p else h ▸ q)
  |isFalse _=>bif t then .c a p else .c b q
 |x,y=>bif t then x else y
def Gp(agg:Bool)(size:Nat)(cs:List (DV X)):Option (DV X):=
 if cs.length=size then(if agg then some (.agg cs)else match cs with|[x]=>if u6 x then some x else none|_=>none)else none
def LO(agg:Bool)(size:Nat)(c:CT X.ι)(y:CT.T X.toSE c)(aa:Nat):Option (DV X):=
 match c,y with
 |.st i,y=>if aa=0/\agg=true/\size=(X.de i).length then some (.c (.st i) y)else Gp agg size (((uN (.st i) y).drop aa).take size)
 |c,y=>Gp agg size (((uN c y).drop aa).take size)
def Kc(d:DV X)(c:CT X.ι):Option (CT.T X.toSE c):=
 match d,c with
 |.c a x,c=>kT a c x
 |.nil,.sl _=>some []
 |.nil,.any=>some (.sl [])
 |_,_=>none
def Dr:List (DV X)->(l:List (CT X.ι))->Option (HL X.toSE l)
 |[],[]=>some ()
 |d::ds,c::l=>(Kc d c).bind λx=>(Dr ds l).bind λh=>some (x,h)
 |_,_=>none
def CE(d:DV X)(i:X.ι):Option (CT.T X.toSE (.st i)):=
 match d with
 |.agg cs=>(Dr cs (X.de i)).bind λh=>some (X.make i h)
 |.c a x=>kT a (.st i) x
 |_=>none
def dat(d:DV X)(c:CT X.ι):Option (CT.T X.toSE c):=
 match c with
 |.st i=>CE d i
 |c=>Kc d c
def mk1(c:CT X.ι):List (DV X)->Option (CT.T X.toSE c)
 |[d]=>Kc d c
 |_=>none
def LA(c:CT X.ι)(ds:List (DV X)):Option (CT.T X.toSE c):=
 match c with
 |.st i=>(Dr ds (X.de i)).bind λh=>some (X.make i h)
 |c=>mk1 c ds
def HS(r:List (DV X))(aa:Nat)(cs:List (DV X)):List (DV X):=r.take aa++cs++r.drop (aa+cs.length)
variable (T:el) (am:TypeId->Option (CT X.ι))
def PC(t:TypeId)(x:DV X)(get:Nat->Option (b7 X))(k:KK X A):Option A:=
 (T t).bind λti=>match x with
 |.ptr kk row aa=>(get kk).bind λo=>match o with
  |.cells _ rows=>(rows[row]?).bind λr=>(Gp ti.agg ti.size ((r.drop aa).take ti.size)).bind λv=>k v [] [kk] []
  |_=>none
 |.pN kk n aa=>(get kk).bind λo=>match o with
  |.ed c l=>(cd l n).bind λy=>(LO ti.agg ti.size c y aa).bind λv=>k v [] [kk] []
  |_=>none
 |.rp c y aa=>(LO ti.agg ti.size c y aa).bind λv=>k v [] [] []
 |_=>none
def OS(t:TypeId)(x y:DV X)(get:Nat->Option (b7 X))(k:KK X A):Option A:=
 (T t).bind λti=>(cellsD y).bind λcs=>if cs.length=ti.size then match x with
 |.ptr kk row aa=>(get kk).bind λo=>match o with
  |.cells sz rows=>(rows[row]?).bind λr=>if aa+cs.length<=r.length then k .undef [(kk,some (.cells sz (rows.set row (HS r aa cs))))] [kk] [kk]else none
  |_=>none
 |.pN kk n aa=>(get kk).bind λo=>match o with
  |.ed c l=>(cd l n).bind λy=>if aa+cs.length<=CT.sz X c then(LA c (HS (uN c y) aa cs)).bind λz=>k .undef [(kk,some (.ed c (l.set n.toNat z)))] [kk] [kk]else none
  |_=>none
 |_=>none else none
def Ke(t:TypeId)(x:DV X)(f:Nat)(k:KK X A):Option A:=
 (zw T t f).bind λp=>match x with
 |.ptr kk row aa=>k (.ptr kk row (aa+p.1)) [] [] []
 |.pN kk n aa=>k (.pN kk n (aa+p.1)) [] [] []
 |.rp c y aa=>k (.rp c y (aa+p.1)) [] [] []
 |_=>none
def V1(t:TypeId)(x:DV X)(f:Nat)(k:KK X A):Option A:=
 (zw T t f).bind λp=>match x with
 |.agg cs=>(Gp p.2.agg p.2.size ((cs.drop p.1).take p.2.size)).bind λv=>k v [] [] []
 |.c (.st i) y=>(Gp p.2.agg p.2.size (((uN (.st i) y).drop p.1).take p.2.size)).bind λv=>k v [] [] []
 |_=>none
def Kg(t:TypeId)(x j:DV X)(get:Nat->Option (b7 X))(k:KK X A):Option A:=
 (T t).bind λti=>match ti.k,j with
 |.slice e,.c (.int _) n=>(T e).bind λei=>match x with
  |.c (.sl c) l=>if CT.sz X c=ei.size then(cd l n).bind λy=>k (.rp c y 0) [] [] []else none
  |.own kk aa len=>(get kk).bind λo=>match o with
   |.ed c _=>if CT.sz X c=ei.size then bif cP n len then k (.pN kk ((aa:Int)+iN n) 0) [] [kk] []else none else none
   |.cells sz _=>if sz=ei.size then bif cP n len then k (.ptr kk (aa+n.toNat) 0) [] [kk] []else none else none
   |.map _ _ _=>none
  |_=>none
 |.arr m e,.c (.int _) n=>(T e).bind λei=>bif cP n m then match x with
  |.ptr kk row aa=>k (.ptr kk row (aa+n.toNat*ei.size)) [] [] []
  |.pN kk r aa=>k (.pN kk r (aa+n.toNat*ei.size)) [] [] []
  |.rp c y aa=>k (.rp c y (aa+n.toNat*ei.size)) [] [] []
  |_=>none
  else none
 |_,_=>none
def Uf(x:DV X)(j:Nat)(k:KK X A):Option A:=
 match x with
 |.eV vs=>(vs[j]?).bind λv=>k v [] [] []
 |_=>none
def Gq(op:BinOp)(kd:IntKind)(a b:Int):(DV X)×Option Bool:=
 match op with
 |.add=>(.c (.int kd) (kd.wrap (a+b)),none)
 |.sub=>(.c (.int kd) (kd.wrap (a-b)),none)
 |.mul=>(.c (.int kd) (kd.wrap (a*b)),none)
 |.quo=>(.c (.int kd) (kd.wrap (a.tdiv b)),some (b !=0))
 |.rem=>(.c (.int kd) (a.tmod b),some (b !=0))
 |.and=>(.c (.int kd) (bits .and kd a b),none)
 |.or=>(.c (.int kd) (bits .or kd a b),none)
 |.xor=>(.c (.int kd) (bits .xor kd a b),none)
 |.andNot=>(.c (.int kd) (bits .andNot kd a b),none)
 |.shl=>(.c (.int kd) (kd.wrap (a*2 ^ b.toNat)),some (decide (0<=b)&&decide (b<=kd.bits)))
 |.shr=>(.c (.int kd) (a/2 ^ b.toNat),some (decide (0<=b)&&decide (b<=kd.bits)))
 |.eql=>(.c .bool (a==b),none)
 |.neq=>(.c .bool (a !=b),none)
 |.lss=>(.c .bool (decide (a<b)),none)
 |.leq=>(.c .bool (decide (a<=b)),none)
 |.gtr=>(.c .bool (decide (a>b)),none)
 |.geq=>(.c .bool (decide (a>=b)),none)
def Z9:Nat->DV X->DV X->Option Bool
 | 0,.c (.int j) a,.c (.int k) b=>if j=k then some (iN a==iN b)else none
 | 1,.c .bool a,.c .bool b=>some (bN a==bN b)
 | 2,.c .str a,.c .str b=>some (a.toList==b.toList)
 |_,_,_=>none
def Gr:List Nat->List (DV X)->List (DV X)->Option Bool
 |[],[],[]=>some true
 |k::ks,x::xs,y::ys=>(Z9 k x y).bind λa=>(Gr ks xs ys).bind λb=>some (a&&b)
 |_,_,_=>none
def Kf:DV X->Option (List (DV X))
 |.agg cs=>some cs
 |.c (.st i) y=>some (uN (.st i) y)
 |_=>none
def Tu(op:BinOp)(t:TypeId)(x y:DV X)(k:KK X A):Option A:=
 match x,y with
 |.c (.int kd) a,.c (.int yk) b=>if kd=yk\/op=.shl\/op=.shr then match (Gq op kd a b:DV X×Option Bool).2 with
  |none=>k (Gq op kd a b).1 [] [] []
  |some g=>bif g then k (Gq op kd a b).1 [] [] []else none
  else none
 |.c .str a,.c .str b=>match op with
  |.eql=>k (.c .bool (a.toList==b.toList)) [] [] []
  |.neq=>k (.c .bool (!(a.toList==b.toList))) [] [] []
  |.lss=>k (.c .bool (Uc a b)) [] [] []
  |.gtr=>k (.c .bool (!(Uc a b || a.toList==b.toList))) [] [] []
  |.add=>bif Ud a b then k (.c .str (a++b)) [] [] []else none
  |_=>none
 |.c .bool a,.c .bool b=>(T t).bind λti=>match ti.k,op with
  |.bool,.eql=>k (.c .bool (bN a==bN b)) [] [] []
  |.bool,.neq=>k (.c .bool (!(bN a==bN b))) [] [] []
  |_,_=>none
 |x,y=>(Kf x).bind λxs=>(Kf y).bind λys=>(T t).bind λti=>if ti.cmp=[]then none else(Gr ti.cmp xs ys).bind λb=>match op with
  |.eql=>k (.c .bool b) [] [] []
  |.neq=>k (.c .bool (!b)) [] [] []
  |_=>none
def OK(op:UnOp)(x:DV X)(k:KK X A):Option A:=
 match op,x with
 |.not,.c .bool b=>k (.c .bool (!b)) [] [] []
 |.neg,.c (.int kd) n=>k (.c (.int kd) (kd.wrap (0-iN n))) [] [] []
 |_,_=>none
def II(mx:Bool)(kd:IntKind):Int->List (DV X)->Option Int
 |a,[]=>some a
 |a,.c (.int k') b::r=>if k'=kd then II mx kd (if mx then max a b else min a b) r else none
 |_,_=>none
def IS(mx:Bool)(args:List (DV X))(k:KK X A):Option A:=
 match args with
 |.c (.int kd) a::r=>(II mx kd a r).bind λn=>k (.c (.int kd) n) [] [] []
 |_=>none
def Ts(t:TypeId)(x:DV X)(k:KK X A):Option A:=
 (T t).bind λti=>match ti.k,x with
 |.slice _,.c (.sl _) l=>k (.c (.int .i64) (l.length:Int)) [] [] []
 |.slice _,.own _ _ len=>k (.c (.int .i64) (len:Int)) [] [] []
 |.slice _,.oz _ len=>k (.c (.int .i64) (len:Int)) [] [] []
 |.slice _,.nil=>k (.c (.int .i64) (0:Int)) [] [] []
 |.str,.c .str s=>k (.c (.int .i64) (s.size:Int)) [] [] []
 |_,_=>none
def YA(place:Nat->Option (Nat×Nat)):List (DV X)->List (Nat×DV X)->Option (List (DV X))
 |cells,[]=>some cells
 |cells,(j,x)::ag=>(place j).bind λp=>(cellsD x).bind λcs=>
  if cs.length=p.2/\p.1+cs.length<=cells.length then YA place (HS cells p.1 cs) ag else none
def V0(t:TypeId)(parts:List (Nat×DV X))(k:KK X A):Option A:=
 (T t).bind λti=>match ti.k with
 |.struct fs=>if fs.all (λ p=>(T p.2).isSome)then
  (YA (λ j=>(fs[j]?).bind λp=>(T p.2).bind λui=>some (p.1,ui.size)) (ti.zero.map ue) parts).bind λcells=>k (.agg cells) [] [] []else none
 |.arr _ e=>(T e).bind λei=>(YA (λ j=>some (j*ei.size,ei.size)) (ti.zero.map ue) parts).bind λcells=>k (.agg cells) [] [] []
 |_=>none
def HR(c:CT X.ι):Nat->List (Nat×DV X)->Option (List (CT.T X.toSE c))
 |_,[]=>some []
 |n,(j,x)::r=>if j=n then(dat x c).bind λy=>(HR c (n+1) r).bind λl=>some (y::l)else none
def Gs(i:Nat)(t:TypeId)(len:Nat)(parts:List (Nat×DV X))(k:KK X A):Option A:=
 (T t).bind λti=>match ti.k with
 |.slice e=>(T e).bind λei=>(am e).bind λc=>if ei.size=0\/len*ei.size>2 ^ 24\/CT.sz X c≠ei.size\/parts.length≠len then none else
  (HR c 0 parts).bind λl=>k (.own (cH i) 0 len) [(cH i,some (.ed c l))] [] []
 |_=>none
def VV(i:Nat)(e:TypeId)(k:KK X A):Option A:=
 (T e).bind λti=>k (.ptr (cH i) 0 0) [(cH i,some (.cells ti.size [ti.zero.map ue]))] [] []
def Tr(i:Nat)(x:DV X)(k:KK X A):Option A:=
 (cellsD x).bind λcs=>k (.ptr (cH i) 0 0) [(cH i,some (.cells cs.length [cs]))] [] []
def ym(d:Int):Option (DV X)->Option Int
 |none=>some d
 |some (.c (.int _) n)=>some n
 |_=>none
def VM(t:TypeId)(x:DV X)(lo hi:Option (DV X))(get:Nat->Option (b7 X))(k:KK X A):Option A:=
 (T t).bind λti=>match ti.k with
 |.slice e=>(T e).bind λei=>match x with
  |.own kk aa len=>(get kk).bind λo=>if (bI o).sz=ei.size then(ym 0 lo).bind λl=>(ym len hi).bind λh=>
   bif Av l h len then k (.own kk (aa+l.toNat) (h.toNat-l.toNat)) [] [kk] []else none else none
  |.c (.sl c) xs=>if CT.sz X c=ei.size then(ym 0 lo).bind λl=>(ym xs.length hi).bind λh=>
   bif Av l h xs.length then k (.c (.sl c) (sub xs l.toNat (h.toNat-l.toNat))) [] [] []else none else none
  |_=>none
 |_=>none
def To(y:DV X)(c:CT X.ι)(get:Nat->Option (b7 X)):Option (Nat×List (CT.T X.toSE c)×List Nat):=
 match y with
 |.own kk aa len=>(get kk).bind λo=>match o with
  |.ed b l=>(kT (.sl b) (.sl c) l).bind λl=>some (len,sub l aa len,[kk])
  |_=>none
 |.c b l=>(kT b (.sl c) l).bind λ(l:List (CT.T X.toSE c))=>some (l.length,l,[])
 |_=>none
def Ug{α:Type}:Nat->List α->List α
 | 0,l=>l
 |n+1,l=>l.drop (n+1)
def W4(i:Nat)(t:TypeId)(x y:DV X)(get:Nat->Option (b7 X))(k:KK X A):Option A:=
 (T t).bind λti=>match ti.k with
 |.slice e=>(T e).bind λei=>(am e).bind λc=>if CT.sz X c=ei.size then(To y c get).bind λs=>match x with
  |.own kk aa len=>(get kk).bind λo=>match o with
   |.ed b l=>(kT (.sl b) (.sl c) l).bind λ(l:List (CT.T X.toSE c))=>bif bQ (Ug aa l).length len s.2.1.length s.1 ei.bytes then jk (Ug aa l++s.2.1) λr=>k (.own (cH i) 0 r.length) [(cH i,some (.ed c r)),(kk,none)] (kk::s.2.2) [kk]else none
   |_=>none
  |.nil=>bif bQ 0 0 s.2.1.length s.1 ei.bytes then jk s.2.1 λr=>k (.own (cH i) 0 r.length) [(cH i,some (.ed c r))] s.2.2 []else none
  |_=>none
  else none
 |_=>none
def Uh(i:Nat)(b:Builtin)(args:List (DV X))(de:List TypeId)(get:Nat->Option (b7 X))(k:KK X A):Option A:=
 match b,args,de with
 |.len,[x],[t]=>Ts T t x k
 |.max,args,_=>IS true args k
 |.min,args,_=>IS false args k
 |.append,[x,y],[t,u]=>if t=u then W4 T am i t x y get k else none
 |_,_,_=>none
def IR(i:Nat)(o:Op)(ρ:Operand->DV X)(get:Nat->Option (b7 X))(k:KK X A):Option A:=
 match o with
 |.move x=>k (ρ x) [] [] []
 |.assign x=>k (ρ x) [] [] []
 |.pick c a b=>match ρ c with|.c .bool t=>k (T5 t (ρ a) (ρ b)) [] [] []|_=>none
 |.alloc e=>VV T i e k
 |.box _ x=>Tr i (ρ x) k
 |.build t parts=>V0 T t (parts.toList.map λp=>(p.1,ρ p.2)) k
 |.buildSlice t len parts=>Gs T am i t len (parts.toList.map λp=>(p.1,ρ p.2)) k
 |.load t a=>PC T t (ρ a) get k
 |.store t a x=>OS T t (ρ a) (ρ x) get k
 |.binOp op t x y _=>Tu T op t (ρ x) (ρ y) k
 |.unOp op _ x=>OK op (ρ x) k
 |.makeFunc (.func f) first caps=>k (.fn f (first.toList.map ρ) (caps.toList.map ρ)) [] [] []
 |.slice t x lo hi none=>VM T t (ρ x) (lo.map ρ) (hi.map ρ) get k
 |.fieldAddr t x f=>Ke T t (ρ x) f k
 |.field t x f=>V1 T t (ρ x) f k
 |.indexAddr t x j=>Kg T t (ρ x) (ρ j) get k
 |.extract x j=>Uf (ρ x) j k
 |.call { callee:=.builtin b,args:=args,argTypes:=de }=>Uh T am i b (args.toList.map ρ) de.toList get k
 |_=>none
end
section
variable {X:SX} {A:Type} {T:el} {am:TypeId->Option (CT X.ι)} {get:Nat->Option (b7 X)} {k:KK X A} {r:A} {i:Nat}
def fB(get:Nat->Option (b7 X)):Nat->Option aS:=λj=>(get j).map bI
theorem eU{rd:List Nat}{j:Nat}{o:b7 X}(hj:j∈rd)(h:get j=some o):dG rd (fB get) j=some (bI o):=by simp[dG,hj,fB,h]
theorem lq(l:List (DV X)):(bG l).length=l.length:=by simp[nM]
theorem ko(l:List (DV X))(a b:Nat):bG ((l.drop a).take b)=((bG l).drop a).take b:=by simp[nM]
theorem LB{α:Type}{l:List α}{n:Int}{x:α}(h:cd l n=some x):0<=n/\l[n.toNat]? =some x:=by
 unfold cd at h
 all_goals grind
theorem ahG(t:Bool)(x y:DV X):den (T5 t x y)=Is t (den x) (den y):=by
 rw[Te];have base:∀x y:DV X,den (bif t then x else y)=if t=true then den x else den y:=λx y=>by cases t<;>rfl
 unfold T5;split;split;rename_i h _;subst h;cases t<;>rfl;exact base _ _;exact base _ _
theorem BQ{agg:Bool}{size:Nat}{cs:List (DV X)}{v:DV X}(h:Gp agg size cs=some v):part' agg size (bG cs)=some (den v):=by
 unfold Gp at h;unfold part';rw[lq];split at h;rename_i hl;rw[bA hl];cases agg with
 |true=>simp at h ⊢;subst h;rfl
 |false=>
  simp at h ⊢
  match cs,h with
  |[x],h=>
   simp only at h;split at h;rename_i hx;cases h;simp only[bG];rw[bA (Qd hx)];cases h
  |[],h|_::_::_,h=>cases h
 cases h
theorem Oa{agg:Bool}{size aa:Nat}{c:CT X.ι}{y:CT.T X.toSE c}{v:DV X}(h:Gp agg size (((uN c y).drop aa).take size)=some v):part' agg size ((((CT.row X.toSE c y).drop aa).take size).map AV.t)=some (den v):=by have:=BQ h;rw[ko,oJ]at this;rw[<- this,map_take,map_drop]
theorem YB{agg:Bool}{size aa:Nat}{c:CT X.ι}{y:CT.T X.toSE c}{v:DV X}(h:LO agg size c y aa=some v):part' agg size ((((CT.row X.toSE c y).drop aa).take size).map AV.t)=some (den v):=by
 cases c
 case st j=>
  simp[LO]at h;split at h;rename_i hh;obtain⟨rfl,rfl,rfl⟩:=hh;cases h;have hl:(CT.row X.toSE (.st j) y).length=(X.de j).length:=Gn (.st j) y;rw[List.drop_zero,take_of_length_le (by omega)];unfold part';rw[bA (by simpa using hl)];rfl;exact Oa h
 all_goals exact Oa h
theorem ahH{t:TypeId}{x:DV X}(h:PC T t x get k=some r):∃cC rd dv ab,JG T t (den x) cC (dG rd (fB get))=some ab/\kg ab.obs/\ab.v=den dv/\ab.upd=[]/\k dv [] rd []=some r:=by unfold PC at h;unfold JG;rw[ah]at h;obtain⟨ti,h1,h⟩:=h;simp only[h1,ai];split at h;rename_i kk row aa;rw[ah]at h;obtain⟨o,h2,h⟩:=h;split at h;rw[ah]at h;obtain⟨rw',h3,h⟩:=h;rw[ah]at h;obtain⟨v,h4,h⟩:=h;refine⟨.none,[kk],v,⟨den v,[],[]⟩,?_,trivial,rfl,rfl,h⟩;have h5:=BQ h4;rw[ko]at h5;simp[den,eU (List.mem_singleton_self kk) h2,bI,h3,h5,pv];cases h;rename_i kk n aa;rw[ah]at h;obtain⟨o,h2,h⟩:=h;split at h;rename_i c l;rw[ah]at h;obtain⟨y,h3,h⟩:=h;rw[ah]at h;obtain⟨v,h4,h⟩:=h;have⟨_,h6⟩:=LB h3;refine⟨.row ((CT.row X.toSE c y).map AV.t),[kk],v,⟨den v,[],[(aF (l.map (CT.row X.toSE c)))[n.toNat]? =some ((CT.row X.toSE c y).map AV.t)]⟩,?_,?_,rfl,rfl,h⟩;have h5:=YB h4;rw[map_take,map_drop]at h5;simp[den,eU (List.mem_singleton_self kk) h2,bI,h5,ma];simp[kg,aF,h6];cases h;rename_i c y aa;have⟨v,h4,h⟩:=ah.1 h;refine⟨.none,[],v,⟨den v,[],[]⟩,?_,trivial,rfl,rfl,h⟩;simp only[den,YB h4,ai,pv];cases h
theorem Ui(a:List (DV X))(aa:Nat)(cs:List (DV X)):bG (HS a aa cs)=put' (bG a) aa (bG cs):=by simp[HS,put',nM]
theorem nW{a c:CT X.ι}{x:CT.T X.toSE a}{y:CT.T X.toSE c}(h:kT a c x=some y):den (.c a x)=den (.c c y)/\CT.row X.toSE a x=CT.row X.toSE c y:=by
 obtain⟨e,h⟩:=qN h
 grind
theorem Mp{c:CT X.ι}(hc:c.one=true)(x:CT.T X.toSE c):[(CT.tv X.toSE c x).av]=(CT.row X.toSE c x).map AV.t:=by obtain⟨t,h1,h2⟩:=row_one hc x;rw[h1,h2];rfl
theorem amz{c:CT X.ι}(x:CT.T X.toSE c):wk (CT.tv X.toSE c x).av=(CT.tv X.toSE c x).av:=by cases c<;>rfl
theorem vG{d:DV X}{c:CT X.ι}{x:CT.T X.toSE c}(h:Kc d c=some x):wk (den d)=(CT.tv X.toSE c x).av:=by unfold Kc at h;split at h;rw[(nW h).1];exact amz x;cases h;rfl;cases h;rfl;cases h
theorem agT{d:DV X}{c:CT X.ι}{x:CT.T X.toSE c}(hc:c.one=true)(h:Kc d c=some x):u6 d=true:=by
 cases d
 case c a y=>
  obtain⟨e,_⟩:=qN (show kT a c y=some x by cases c<;>exact h);subst e;cases a<;>first|rfl|simp[CT.one]at hc
 case nil=>rfl
 all_goals cases c<;>cases h
theorem yc:∀{ds:List (DV X)}{l:List (CT X.ι)}{h:HL X.toSE l},Dr ds l=some h->l.all CT.one=true->(bG ds).map wk=(HL.row X.toSE l h).map AV.t/\ds.all u6=true
 |[],[],h,_,_=>⟨rfl,rfl⟩
 |d::ds,c::l,h,hr,ha=>by simp[Dr]at hr;have⟨x,h1,hr⟩:=ah.1 hr;have⟨g,h2,hr⟩:=ah.1 hr;cases hr;simp only[all_cons,bq]at ha ⊢;have⟨i1,i2⟩:=yc h2 ha.2;simp[bG,HL.row,i1,vG h1,i2,agT ha.1 h1];simp[<- Mp ha.1 x]
 |[],_::_,_,hr,_|_::_,[],_,hr,_=>by simp[Dr]at hr
theorem Uj(j:X.ι)(h:HL X.toSE (X.de j)):CT.row X.toSE (.st j) (X.make j h)=HL.row X.toSE (X.de j) h:=X.gd j h
theorem alo{c:CT X.ι}(hc:c.one=true){ds:List (DV X)}{x:CT.T X.toSE c}(h:mk1 c ds=some x):(bG ds).map wk=(CT.row X.toSE c x).map AV.t:=by
 match ds,h with
 |[d],h=>
  rw[<- Mp hc x];simp[bG,vG h]
 |[],h|_::_::_,h=>cases h
theorem xK{c:CT X.ι}{ds:List (DV X)}{x:CT.T X.toSE c}(h:LA c ds=some x):(bG ds).map wk=(CT.row X.toSE c x).map AV.t:=by
 cases c
 case st j=>
  simp[LA]at h;have⟨g,h1,h⟩:=ah.1 h;cases h;rw[(yc h1 (X.flat j)).1,Uj]
 all_goals exact alo rfl h
theorem aeQ{d:DV X}{c:CT X.ι}(hc:c.one=true){x:CT.T X.toSE c}(h:Kc d c=some x):∃cs,cellsOf (den d)=some cs/\cs.map wk=(CT.row X.toSE c x).map AV.t:=by
 have hk:=agT hc h;have hd:=vG h;have he:cellsOf (den d)=some [den d]:=by
  have:=Dq (x:=d) (cs:=[d]) (by
   cases d
   case c t y=>cases t<;>first|rfl|simp[u6]at hk
   all_goals first|rfl|simp[u6]at hk)
  simpa[bG]using this
 exact⟨_,he,by rw[<- Mp hc x];simp[hd]⟩
theorem ahI{d:DV X}{c:CT X.ι}{x:CT.T X.toSE c}(h:dat d c=some x):∃cs,cellsOf (den d)=some cs/\cs.map wk=(CT.row X.toSE c x).map AV.t:=by
 cases c
 case st j=>
  replace h:CE d j=some x:=h
  cases d
  case agg cs=>
   simp[CE]at h;rw[ah]at h;obtain⟨g,h1,h⟩:=h;cases h;have⟨i1,i2⟩:=yc h1 (X.flat j);refine⟨bG cs,?_,by rw[i1,Uj]⟩;simp only[den,cellsOf];rw[bA (agQ i2)]
  case c a y=>
   rw[(nW h).1];refine⟨(CT.row X.toSE (.st j) x).map AV.t,?_,?_⟩;show cellsOf (.agg _)=_;simp only[cellsOf];rw[bA];rfl;rw[List.all_map,all_eq_true];exact λ_ _=>rfl;rw[map_map];rfl
  all_goals cases h
 all_goals exact aeQ rfl h
theorem ahJ{t:TypeId}{x y:DV X}(h:OS T t x y get k=some r):∃cC kk u ab,SS T t (den x) (den y) cC (dG [kk] (fB get))=some ab/\kg ab.obs/\ab.v=.undef/\ab.upd=iX [(kk,u)]/\k .undef [(kk,u)] [kk] [kk]=some r:=by
 unfold OS at h;unfold SS;rw[ah]at h;obtain⟨ti,h1,h⟩:=h;rw[ah]at h;obtain⟨cs,h2,h⟩:=h;simp[h1,Dq h2];split at h;rename_i hl;have hdl:(bG cs).length=ti.size:=by rw[lq];exact hl
 simp[hdl];split at h;rename_i kk row aa;rw[ah]at h;obtain⟨o,h3,h⟩:=h;split at h;rw[ah]at h;obtain⟨rw',h4,h⟩:=h;split at h;rename_i hle;refine⟨.none,kk,_,⟨.undef,_,[]⟩,?_,trivial,rfl,rfl,h⟩;simp only[den,eU (List.mem_singleton_self kk) h3,ai,bI,List.getElem?_map,h4,Option.map_some,lq];rw[bA (by rw[<- hl];exact hle)];simp[Ui];cases h;cases h;rename_i kk n aa;rw[ah]at h;obtain⟨o,h3,h⟩:=h;split at h;rename_i c l;rw[ah]at h;obtain⟨z,h4,h⟩:=h;split at h;rename_i hle;have⟨z',h5,h⟩:=ah.1 h;have⟨_,h6⟩:=LB h4;refine⟨.set ((CT.row X.toSE c z).map AV.t) (aF ((l.set n.toNat z').map (CT.row X.toSE c))),kk,_,⟨.undef,_,[(aF (l.map (CT.row X.toSE c)))[n.toNat]? =some ((CT.row X.toSE c z).map AV.t)/\aF ((l.set n.toNat z').map (CT.row X.toSE c))=dK ((aF (l.map (CT.row X.toSE c))).set n.toNat (put' ((CT.row X.toSE c z).map AV.t) aa (bG cs)))]⟩,?_,?_,rfl,rfl,h⟩;simp only[den,eU (List.mem_singleton_self kk) h3,ai,bI];rw[bA (by rw[length_map,Gn,<- hl];exact hle)];simp[bI];refine⟨by simp[aF,h6],?_⟩;have h7:=xK h5;rw[Ui,oJ]at h7;have hid:dK (aF (l.map (CT.row X.toSE c)))=aF (l.map (CT.row X.toSE c)):=by simp[dK,aF,wk]
 simp[dK,h7];have:(aF (l.map (CT.row X.toSE c))).map (List.map wk)=aF (l.map (CT.row X.toSE c)):=hid;rw[this];simp[aF];cases h;cases h;cases h;cases h
theorem Ob{t:TypeId}{x:DV X}{f:Nat}(h:Ke T t x f k=some r):∃dv ab,xW T t (den x) f=some ab/\kg ab.obs/\ab.v=den dv/\ab.upd=[]/\k dv [] [] []=some r:=by unfold Ke at h;unfold xW;rw[ah]at h;obtain⟨⟨d,u⟩,h1,h⟩:=h;simp[h1];split at h;exact⟨_,_,rfl,trivial,rfl,rfl,h⟩;exact⟨_,_,rfl,trivial,rfl,rfl,h⟩;exact⟨_,_,rfl,trivial,rfl,rfl,h⟩;cases h
theorem aae{t:TypeId}{x:DV X}{f:Nat}(h:V1 T t x f k=some r):∃dv ab,SV T t (den x) f=some ab/\kg ab.obs/\ab.v=den dv/\ab.upd=[]/\k dv [] [] []=some r:=by unfold V1 at h;unfold SV;rw[ah]at h;obtain⟨⟨d,u⟩,h1,h⟩:=h;simp[h1];split at h;rw[ah]at h;obtain⟨v,h2,h⟩:=h;have h3:=BQ h2;rw[ko]at h3;exact⟨v,⟨den v,[],[]⟩,by simp[den,h3,pv],trivial,rfl,rfl,h⟩;rename_i j y;have⟨v,h2,h⟩:=ah.1 h;have h3:=Oa h2;rw[map_take,map_drop]at h3;refine⟨v,⟨den v,[],[]⟩,?_,trivial,rfl,rfl,h⟩;show(part' u.agg u.size (List.take u.size (List.drop d ((CT.row X.toSE (.st j) y).map AV.t)))).bind pv=_;rw[h3];rfl;cases h
theorem dN{α:Type}{b:Bool}{x:Option α}{r:α}(h:(bif b then x else none)=some r):b=true/\x=some r:=by grind
theorem Uk{n:Int}{len:Nat}(h:cP n len=true):0<=n/\n.toNat<len:=by simp[cP]at h;omega
theorem pq{A:Type}:∀{cs:List Bool}{k:Option A}{r:A},Ue cs k=some r->(∀ c∈cs,c=true)/\k=some r
 |[],_,_,h=>⟨by simp,h⟩
 |c::cs,k,r,h=>by have⟨h1,h2⟩:=dN h;have⟨h3,h4⟩:=pq h2;exact⟨λ x hx=>(aP.1 hx).elim (λ e=>e ▸ h1) (h3 x),h4⟩
theorem Oc{t:TypeId}{x j:DV X}(h:Kg T t x j get k=some r):∃cC rd dv ab,lV T t (den x) (den j) cC (dG rd (fB get))=some ab/\kg ab.obs/\ab.v=den dv/\ab.upd=[]/\k dv [] rd []=some r:=by unfold Kg at h;unfold lV;rw[ah]at h;obtain⟨ti,h1,h⟩:=h;simp[h1];split at h;rename_i e kd n hk;rw[ah]at h;obtain⟨ei,h2,h⟩:=h;simp[hk,den,CT.tv,TV.av,h2];split at h;rename_i c l;split at h;rename_i hs;rw[ah]at h;obtain⟨y,h3,h⟩:=h;have⟨h4,h5⟩:=LB h3;refine⟨.rL (CT.row X.toSE c y),[],_,⟨.en (CT.row X.toSE c y) 0,[],[0<=n/\(l.map (CT.row X.toSE c))[n.toNat]? =some (CT.row X.toSE c y)]⟩,?_,?_,rfl,rfl,h⟩;simp only[den,CT.tv,TV.av];rw[bA (by rw[Gn];exact hs)];rfl;exact⟨h4,by simp[h5]⟩;cases h;rename_i kk aa len;rw[ah]at h;obtain⟨o,h3,h⟩:=h;split at h;rename_i c l;split at h;rename_i hs;have⟨h4,h⟩:=dN h;have⟨h5,h6⟩:=Uk h4;refine⟨.none,[kk],_,⟨.ptr kk (aa+n.toNat) 0,[],[0<=n/\n.toNat<len]⟩,?_,⟨h5,h6⟩,?_,rfl,h⟩;simp only[den,eU (List.mem_singleton_self kk) h3,ai,bI];rw[bA hs];rfl;simp[iN];congr 1;have:(0:Int)<=n:=h5;omega;cases h;rename_i sz rows;split at h;rename_i hs;have⟨h4,h⟩:=dN h;have⟨h5,h6⟩:=Uk h4;refine⟨.none,[kk],_,⟨.ptr kk (aa+n.toNat) 0,[],[0<=n/\n.toNat<len]⟩,?_,⟨h5,h6⟩,rfl,rfl,h⟩;simp only[den,eU (List.mem_singleton_self kk) h3,ai,bI];rw[bA hs];rfl;cases h;cases h;cases h;rename_i m e kd n hk;have⟨ei,h2,h⟩:=ah.1 h;simp[hk,den,CT.tv,TV.av,h2];have⟨h4,h⟩:=dN h;have⟨h5,h6⟩:=Uk h4;split at h;exact⟨.none,[],_,_,rfl,⟨h5,h6⟩,rfl,rfl,h⟩;exact⟨.none,[],_,_,rfl,⟨h5,h6⟩,rfl,rfl,h⟩;exact⟨.none,[],_,_,rfl,⟨h5,h6⟩,rfl,rfl,h⟩;cases h;cases h
theorem Ul{x:DV X}{j:Nat}(h:Uf x j k=some r):∃dv ab,Gc (den x) j=some ab/\kg ab.obs/\ab.v=den dv/\ab.upd=[]/\k dv [] [] []=some r:=by unfold Uf at h;split at h;have⟨v,h2,h⟩:=ah.1 h;refine⟨v,⟨den v,[],[]⟩,?_,trivial,rfl,rfl,h⟩;simp[Gc,den,nM,h2,pv];cases h
end
section
variable {X:SX} {A:Type} {T:el} {am:TypeId->Option (CT X.ι)} {get:Nat->Option (b7 X)} {k:KK X A} {r:A} {i:Nat}
theorem aaf{op:BinOp}{kd:IntKind}{a b:Int}:∃v obs,SQ op kd a b=some (v,obs)/\den (Gq (X:=X) op kd a b).1=.t (.sc v)/\(∀ g,(Gq (X:=X) op kd a b).2=some g->g=true->kg obs)/\((Gq (X:=X) op kd a b).2=none->kg obs):=by
 cases op<;>refine⟨_,_,rfl,rfl,λg hg ht=>?_,λhn=>?_⟩<;>simp[Gq]at* <;>try trivial
 all_goals subst hg;simp_all [kg]
theorem ab2{n:Nat}{x y:DV X}{b:Bool}(h:Z9 n x y=some b):Ka n (den x) (den y)=some b:=by unfold Z9 at h;split at h;split at h;cases h;simp only[den,CT.tv,TV.av,Ka];rw[bA ‹_›];cases h;exact h;exact h;cases h
theorem LC:∀{ks:List Nat}{xs ys:List (DV X)}{b:Bool},Gr ks xs ys=some b->rH ks (bG xs) (bG ys)=some b
 |[],[],[],b,h=>h
 |k::ks,x::xs,y::ys,b,h=>by simp[Gr]at h;rw[ah]at h;obtain⟨p,h1,h⟩:=h;rw[ah]at h;obtain⟨q,h2,h⟩:=h;simp[bG,rH,ab2 h1,LC h2,h]
 |[],_::_,_,_,h|[],[],_::_,_,h|_::_,[],_,_,h|_::_,_::_,[],_,h=>by simp[Gr]at h
theorem ab3{x:DV X}{xs:List (DV X)}(h:Kf x=some xs):den x=.agg (bG xs):=by unfold Kf at h;split at h;cases h;rfl;cases h;rw[oJ];rfl;cases h
theorem aeR{op:BinOp}{t:TypeId}{x y:DV X}(h:Tu T op t x y k=some r):∃dv ab,Xi T op t (den x) (den y)=some ab/\kg ab.obs/\ab.v=den dv/\ab.upd=[]/\k dv [] [] []=some r:=by
 unfold Tu at h;split at h;rename_i kd a yk b;split at h;rename_i hk;have⟨v,obs,h1,h2,h3,h4⟩:=aaf (X:=X) (op:=op) (kd:=kd) (a:=a) (b:=b);have fin:kg obs->k (Gq op kd a b).1 [] [] []=some r->∃dv ab,Xi T op t (den (.c (.int kd) a:DV X)) (den (.c (.int yk) b:DV X))=some ab/\kg ab.obs/\ab.v=den dv/\ab.upd=[]/\k dv [] [] []=some r:=by intro ho hkk;refine⟨_,⟨.t (.sc v),[],obs⟩,?_,ho,h2.symm,rfl,hkk⟩;simp only[den,CT.tv,TV.av,Xi];rw[bA hk,h1];rfl
 split at h;rename_i hn;exact fin (h4 hn) h;rename_i g hg;have⟨hgt,h⟩:=dN h;exact fin (h3 g hg hgt) h;cases h;split at h;exact⟨_,_,rfl,trivial,rfl,rfl,h⟩;exact⟨_,_,rfl,trivial,rfl,rfl,h⟩;exact⟨_,_,rfl,trivial,rfl,rfl,h⟩;exact⟨_,_,rfl,trivial,rfl,rfl,h⟩;have⟨hc,h⟩:=dN h;exact⟨_,_,rfl,show _<=maxLen from of_decide_eq_true hc,rfl,rfl,h⟩;cases h;rw[ah]at h;obtain⟨ti,h1,h⟩:=h;split at h;rename_i hk;refine⟨_,⟨.t (.sc (.bool _)),[],[]⟩,?_,trivial,rfl,rfl,h⟩;simp[Xi,h1,hk];rfl;rename_i hk;refine⟨_,⟨.t (.sc (.bool _)),[],[]⟩,?_,trivial,rfl,rfl,h⟩;simp[Xi,h1,hk];rfl;cases h;rw[ah]at h;obtain⟨xs,h1,h⟩:=h;rw[ah]at h;obtain⟨ys,h2,h⟩:=h;rw[ah]at h;obtain⟨ti,h3,h⟩:=h;split at h;cases h;rename_i hc;have⟨b,h4,h⟩:=ah.1 h;have h5:=LC h4;rw[ab3 h1,ab3 h2];split at h;refine⟨_,⟨.t (.sc (.bool b)),[],[]⟩,?_,trivial,rfl,rfl,h⟩;simp only[Xi,h3,ai];rw[bn hc,h5];rfl;refine⟨_,⟨.t (.sc (.bool (!b))),[],[]⟩,?_,trivial,rfl,rfl,h⟩;simp only[Xi,h3,ai];rw[bn hc,h5];rfl;cases h
theorem ahK{op:UnOp}{x:DV X}(h:OK op x k=some r):∃dv ab,M2 op (den x)=some ab/\kg ab.obs/\ab.v=den dv/\ab.upd=[]/\k dv [] [] []=some r:=by unfold OK at h;split at h;exact⟨_,_,rfl,trivial,rfl,rfl,h⟩;exact⟨_,_,rfl,trivial,rfl,rfl,h⟩;cases h
theorem Qe(mx:Bool)(kd:IntKind):∀(l:List (DV X))(a n:Int),II mx kd a l=some n->Di mx kd a (bG l)=some n
 |[],a,n,h=>h
 |x::l,a,n,h=>by
  cases x
  case c t y=>
   cases t
   case int k'=>
    simp only[II]at h;simp only[bG,den,CT.tv,TV.av,Di];split at h;rename_i hk;rw[bA hk];exact Qe mx kd l _ _ h;cases h
   all_goals simp[II]at h
  all_goals simp[II]at h
theorem YC{mx:Bool}{args:List (DV X)}(h:IS mx args k=some r):∃dv ab,D4 mx (bG args)=some ab/\kg ab.obs/\ab.v=den dv/\ab.upd=[]/\k dv [] [] []=some r:=by unfold IS at h;split at h;rename_i kd a l;rw[ah]at h;obtain⟨n,h1,h⟩:=h;refine⟨_,⟨.t (.sc (.int kd n)),[],[]⟩,?_,trivial,rfl,rfl,h⟩;simp[bG,den,CT.tv,TV.av,D4];have:=Qe mx kd l a n h1;simp[this];rfl;cases h
theorem aeS{t:TypeId}{x:DV X}(h:Ts T t x k=some r):∃cC dv ab,yl T t (den x) cC=some ab/\kg ab.obs/\ab.v=den dv/\ab.upd=[]/\k dv [] [] []=some r:=by unfold Ts at h;unfold yl;rw[ah]at h;obtain⟨ti,h1,h⟩:=h;simp[h1];split at h;rename_i e c l hk;simp[hk];exact⟨.num (l.length:Int),_,⟨.t (.sc (.int .i64 (l.length:Int))),[],[(l.length:Int)=((l.map (CT.row X.toSE c)).length:Int)]⟩,rfl,by simp[kg],rfl,rfl,h⟩;rename_i hk;simp[hk];exact⟨.none,_,_,rfl,trivial,rfl,rfl,h⟩;rename_i hk;simp[hk];exact⟨.none,_,_,rfl,trivial,rfl,rfl,h⟩;rename_i hk;simp[hk];exact⟨.none,_,_,rfl,trivial,rfl,rfl,h⟩;rename_i hk;simp[hk];exact⟨.none,_,_,rfl,trivial,rfl,rfl,h⟩;cases h
theorem Od(place:Nat->Option (Nat×Nat)):∀(parts:List (Nat×DV X))(cells ab:List (DV X)),YA place cells parts=some ab->EK place (bG cells) (parts.map λp=>(p.1,den p.2))=some (bG ab)
 |[],cells,ab,h=>by simp[YA]at h;subst h;rfl
 |(j,x)::ag,cells,ab,h=>by simp[YA]at h;rw[ah]at h;obtain⟨⟨aa,size⟩,h1,h⟩:=h;rw[ah]at h;obtain⟨cs,h2,h⟩:=h;split at h;rename_i hl;simp only[bg,EK,h1,Dq h2,ai,lq];rw[bA hl,<- Ui];exact Od place ag _ _ h;cases h
theorem aag{t:TypeId}{parts:List (Nat×DV X)}(h:V0 T t parts k=some r):∃dv ab,SY T t (parts.map λp=>(p.1,den p.2))=some ab/\kg ab.obs/\ab.v=den dv/\ab.upd=[]/\k dv [] [] []=some r:=by unfold V0 at h;unfold SY;rw[ah]at h;obtain⟨ti,h1,h⟩:=h;simp[h1];split at h;rename_i fs hk;split at h;rename_i ha;rw[ah]at h;obtain⟨cells,h2,h⟩:=h;have h3:=Od _ _ _ _ h2;rw[BP]at h3;refine⟨_,⟨.agg (bG cells),[],[]⟩,?_,trivial,rfl,rfl,h⟩;simp only[hk];rw[bA ha,h3];rfl;cases h;rename_i m e hk;rw[ah]at h;obtain⟨ei,h2,h⟩:=h;rw[ah]at h;obtain⟨cells,h3,h⟩:=h;have h4:=Od _ _ _ _ h3;rw[BP]at h4;refine⟨_,⟨.agg (bG cells),[],[]⟩,?_,trivial,rfl,rfl,h⟩;simp[hk,h2,h4];rfl;cases h
theorem YD(size:Nat)(c:CT X.ι)(hs:CT.sz X c=size)(z:List AV):∀(parts:List (Nat×DV X))(n:Nat)(l:List (CT.T X.toSE c))(done:List (List AV)),HR c n parts=some l->done.length=n->
 ∃css:List (List AV),La size (done++List.replicate parts.length z) (parts.map λp=>(p.1,den p.2))=some (done++css)/\css.map (λ r=>r.map wk)=aF (l.map (CT.row X.toSE c))
 |[],n,l,done,h,_=>by simp[HR]at h;subst h;exact⟨[],by simp[La],rfl⟩
 |(j,x)::ag,n,l,done,h,hd=>by
  simp only[HR]at h;split at h;rename_i hj;subst hj;have⟨y,h1,h⟩:=ah.1 h;have⟨l',h2,h⟩:=ah.1 h;cases h;have⟨cs,g1,g2⟩:=ahI h1;have hl:cs.length=size:=by have:=congrArg List.length g2;simp[Gn]at this;omega
  obtain⟨css,i1,i2⟩:=YD size c hs z ag (j+1) l' (done++[cs]) h2 (by simp[hd]);refine⟨cs::css,?_,?_⟩;simp only[bg,La,g1,ai];rw[bA ⟨hl,by simp;omega⟩];have:(done++List.replicate (ag.length+1) z).set j cs=done++[cs]++List.replicate ag.length z:=by rw[List.set_append_right _ _ (by omega),hd];simp[List.replicate_succ]
  simp only[fG,this,i1];simp;simp[i2,g2,aF];cases h
theorem LD{t:TypeId}{len:Nat}{parts:List (Nat×DV X)}(h:Gs T am i t len parts k=some r):∃dv u ab,vF T i t len (parts.map λp=>(p.1,den p.2))=some ab/\kg ab.obs/\ab.v=den dv/\ab.upd=iX [(cH i,u)]/\k dv [(cH i,u)] [] []=some r:=by unfold Gs at h;unfold vF;rw[ah]at h;obtain⟨ti,h1,h⟩:=h;simp[h1];split at h;rename_i e hk;rw[ah]at h;obtain⟨ei,h2,h⟩:=h;rw[ah]at h;obtain⟨c,h3,h⟩:=h;simp only[hk,h2,ai];split at h;cases h;rename_i hno;simp only[not_or,Decidable.not_not]at hno;obtain⟨n1,n2,n3,n4⟩:=hno;have⟨l,h4,h⟩:=ah.1 h;have⟨css,g1,g2⟩:=YD ei.size c n3 (ei.zero.map cv) parts 0 l [] h4 rfl;simp[n4]at g1;refine⟨_,_,⟨.own (cH i) 0 len,[(cH i,some ⟨ei.size,dK css⟩)],[]⟩,?_,trivial,rfl,?_,h⟩;rw[bn (by simp only[not_or];exact⟨n1,n2⟩),g1];rfl;simp[iX,bI,n3];rw[show dK css=aF (l.map (CT.row X.toSE c))from g2];cases h
theorem aah{e:TypeId}(h:VV T i e k=some r):∃dv u ab,S9 T i e=some ab/\kg ab.obs/\ab.v=den dv/\ab.upd=iX [(cH i,u)]/\k dv [(cH i,u)] [] []=some r:=by unfold VV at h;unfold S9;have⟨ti,h1,h⟩:=ah.1 h;exact⟨_,_,⟨_,[(cH i,some ⟨ti.size,[ti.zero.map cv]⟩)],[]⟩,by simp[h1];rfl,trivial,rfl,by simp[iX,bI,BP],h⟩
theorem aeT{x:DV X}(h:Tr i x k=some r):∃dv u ab,HW i (den x)=some ab/\kg ab.obs/\ab.v=den dv/\ab.upd=iX [(cH i,u)]/\k dv [(cH i,u)] [] []=some r:=by unfold Tr at h;unfold HW;rw[ah]at h;obtain⟨cs,h1,h⟩:=h;exact⟨_,_,⟨_,[(cH i,some ⟨(bG cs).length,[bG cs]⟩)],[]⟩,by simp[Dq h1];rfl,trivial,rfl,by simp[iX,bI,lq],h⟩
theorem BR{d n:Int}{x:Option (DV X)}(h:ym d x=some n):bnd d (x.map den)=some n:=by unfold ym at h;split at h;exact h;exact h;cases h
theorem YE{l h:Int}{len:Nat}(hh:Av l h len=true):0<=l/\l<=h/\h<=(len:Int):=by simpa[Av,and_assoc]using hh
theorem aai{t:TypeId}{x:DV X}{lo hi:Option (DV X)}(h:VM T t x lo hi get k=some r):∃cC rd dv ab,Ta T t (den x) (lo.map den) (hi.map den) cC (dG rd (fB get))=some ab/\kg ab.obs/\ab.v=den dv/\ab.upd=[]/\k dv [] rd []=some r:=by
 unfold VM at h;unfold Ta;rw[ah]at h;obtain⟨ti,h1,h⟩:=h;simp[h1];split at h;rename_i e hk;rw[ah]at h;obtain⟨ei,h2,h⟩:=h;simp[hk,h2];split at h;rename_i kk aa len;rw[ah]at h;obtain⟨o,h3,h⟩:=h;split at h;rename_i hs;rw[ah]at h;obtain⟨l,h4,h⟩:=h;rw[ah]at h;obtain⟨hh,h5,h⟩:=h;have⟨h6,h⟩:=dN h;refine⟨.none,[kk],_,⟨.own kk (aa+l.toNat) (hh.toNat-l.toNat),[],[0<=l/\l<=hh/\hh<=(len:Int)]⟩,?_,YE h6,rfl,rfl,h⟩;simp only[den,eU (List.mem_singleton_self kk) h3,ai];rw[bA hs,BR h4,ai,BR h5];rfl;cases h;rename_i c xs;split at h;rename_i hs;have⟨l,h4,h⟩:=ah.1 h;have⟨hh,h5,h⟩:=ah.1 h;have⟨h6,h⟩:=dN h;refine⟨.yr ((sub xs l.toNat (hh.toNat-l.toNat)).map (CT.row X.toSE c)),[],_,⟨.t (.sl ((sub xs l.toNat (hh.toNat-l.toNat)).map (CT.row X.toSE c))),[],[0<=l/\l<=hh/\hh<=((xs.map (CT.row X.toSE c)).length:Int)/\(sub xs l.toNat (hh.toNat-l.toNat)).map (CT.row X.toSE c)=((xs.map (CT.row X.toSE c)).drop l.toNat).take (hh.toNat-l.toNat)/\(∀ q∈xs.map (CT.row X.toSE c),q.length=ei.size)]⟩,?_,?_,rfl,rfl,h⟩;simp only[den,CT.tv,TV.av,BR h4,ai];have h7:bnd ((xs.map (CT.row X.toSE c)).length:Int) (hi.map den)=some hh:=by have:=BR h5;simpa using this
 rw[h7];rfl;have⟨a1,a2,a3⟩:=YE h6;refine⟨a1,a2,by simpa using a3,by simp[sub],λq hq=>?_⟩;obtain⟨y,_,rfl⟩:=mem_map.1 hq;rw[Gn];exact hs;cases h;cases h;cases h
end
section
variable {X:SX} {A:Type} {T:el} {am:TypeId->Option (CT X.ι)} {get:Nat->Option (b7 X)} {k:KK X A} {r:A} {i:Nat}
theorem jv{b c:CT X.ι}{l:List (CT.T X.toSE b)}{l':List (CT.T X.toSE c)}(h:kT (.sl b) (.sl c) l=some l'):CT.sz X b=CT.sz X c/\l.map (CT.row X.toSE b)=l'.map (CT.row X.toSE c):=by
 obtain⟨e,h⟩:=qN h
 grind
theorem ab4{y:DV X}{c:CT X.ι}{n:Nat}{l:List (CT.T X.toSE c)}{rd:List Nat}(h:To y c get=some (n,l,rd))(hl:l.length=n)(rd':List Nat)(hrd:∀j∈rd,j∈rd'):
 ∃ob,Td (CT.sz X c) (den y) (dG rd' (fB get))=some (n,ob,aF (l.map (CT.row X.toSE c)))/\ob:=by unfold To at h;split at h;rename_i kk aa len;rw[ah]at h;obtain⟨o,h1,h⟩:=h;split at h;rw[ah]at h;obtain⟨l1,h2,h⟩:=h;injection h with h;obtain⟨rfl,rfl,rfl⟩:=h;have⟨h3,h4⟩:=jv h2;refine⟨True,?_,trivial⟩;simp only[den,Td,eU (hrd kk (by simp)) h1,ai,bI];rw[bA h3];simp[h4];simp[aF,sub];cases h;rename_i b l0;have⟨l1,h2,h⟩:=ah.1 h;injection h with h;simp at h;obtain⟨rfl,rfl,rfl⟩:=h;refine⟨∀ q∈l1.map (CT.row X.toSE c),q.length=CT.sz X c,?_,?_⟩;rw[(nW h2).1];simp[den,CT.tv,TV.av,Td];intro q hq;obtain⟨z,_,rfl⟩:=mem_map.1 hq;exact Gn c z;cases h
theorem Um{lo len ln n bytes:Nat}(h:bQ lo len ln n bytes=true):lo=len/\ln=n/\(len+n)*bytes<=140737488355328/\len+n<=maxLen:=by simpa[bQ,and_assoc]using h
theorem oB{α:Type}(n:Nat)(l:List α):Ug n l=l.drop n:=by cases n<;>rfl
theorem Xu{t:TypeId}{x y:DV X}(h:W4 T am i t x y get k=some r):∃cC rd wr dv upd ab,zx T i t (den x) (den y) cC (dG rd (fB get))=some ab/\kg ab.obs/\ab.v=den dv/\ab.upd=iX upd/\(∀ p∈upd,p.1=cH i\/p.1∈wr)/\k dv upd rd wr=some r:=by
 unfold W4 at h;unfold zx;rw[ah]at h;obtain⟨ti,h1,h⟩:=h;simp only[h1,ai];split at h;rename_i e hk;rw[ah]at h;obtain⟨ei,h2,h⟩:=h;rw[ah]at h;obtain⟨c,h3,h⟩:=h;simp only[hk,h2,ai];split at h;rename_i hs;rw[ah]at h;obtain⟨⟨n,l,rd⟩,h4,h⟩:=h;split at h;rename_i kk aa len;have⟨o,h5,h⟩:=ah.1 h;split at h;have⟨l1,h6,h⟩:=ah.1 h;have⟨h7,h⟩:=dN h;rw[oB]at h7 h;have hd:(aF (l1.map (CT.row X.toSE c))).drop aa=aF ((l1.drop aa).map (CT.row X.toSE c)):=by simp[aF]
 have⟨g1,g2,g3,g4⟩:=Um h7;have⟨h8,h9⟩:=jv h6;obtain⟨ob,i1,i2⟩:=ab4 h4 g2 (kk::rd) (λ j hj=>by simp[hj]);have i3:=eU (rd:=kk::rd) (by simp) h5
 refine⟨.rows (aF ((l1.drop aa++l).map (CT.row X.toSE c))),kk::rd,[kk],_,_,⟨.own (cH i) 0 (aF ((l1.drop aa++l).map (CT.row X.toSE c))).length,[(cH i,some ⟨ei.size,aF ((l1.drop aa++l).map (CT.row X.toSE c))⟩),(kk,none)],
  [ob/\(aF ((l1.drop aa).map (CT.row X.toSE c))).length=len/\(aF (l.map (CT.row X.toSE c))).length=n/\aF ((l1.drop aa++l).map (CT.row X.toSE c))=aF ((l1.drop aa).map (CT.row X.toSE c))++aF (l.map (CT.row X.toSE c))/\(len+n)*ei.bytes<=140737488355328/\len+n<=maxLen]⟩,?_,?_,?_,?_,?_,h⟩
 rw[hs]at i1;simp only[i1,ai,den,i3,bI,h9,hd];rw[bA (by rw[h8,hs])];exact⟨i2,by simpa[aF]using g1,by simpa[aF]using g2,by simp[aF],g3,g4⟩;simp[den,aF];simp[iX,bI,hs];intro p hp;simp at hp;rcases hp with rfl|rfl;exact .inl rfl;exact .inr (by simp);cases h;have⟨h7,h⟩:=dN h;have⟨g1,g2,g3,g4⟩:=Um h7;obtain⟨ob,i1,i2⟩:=ab4 h4 g2 rd (λ j hj=>hj)
 refine⟨.rows (aF (l.map (CT.row X.toSE c))),rd,[],_,_,⟨.own (cH i) 0 (aF (l.map (CT.row X.toSE c))).length,[(cH i,some ⟨ei.size,aF (l.map (CT.row X.toSE c))⟩)],
  [ob/\(aF (l.map (CT.row X.toSE c))).length=n/\aF (l.map (CT.row X.toSE c))=aF (l.map (CT.row X.toSE c))/\n*ei.bytes<=140737488355328/\n<=maxLen]⟩,?_,?_,?_,?_,?_,h⟩
 rw[hs]at i1;simp[i1,den];exact⟨i2,by simpa[aF]using g2,rfl,by simpa using g3,by simpa using g4⟩;simp[den,aF];simp[iX,bI,hs];intro p hp;simp at hp;rcases hp with rfl;exact .inl rfl;cases h;cases h;cases h
def anF(T:el)(i:Nat)(o:Oper)(ρ:Operand->DV X)(get:Nat->Option (b7 X))(k:KK X A)(r:A):Prop:=
 ∃cC rd wr dv upd ab,pV T i o cC (λ x=>den (ρ x)) (dG rd (fB get))=some ab/\kg ab.obs/\ab.v=den dv/\ab.upd=iX upd/\(∀ p∈upd,p.1=cH i\/p.1∈wr)/\k dv upd rd wr=some r
theorem Un{b:Builtin}{args:List (DV X)}{de:List TypeId}(h:Uh T am i b args de get k=some r):∃cC rd wr dv upd ab,BM T i b (bG args) de cC (dG rd (fB get))=some ab/\kg ab.obs/\ab.v=den dv/\ab.upd=iX upd/\(∀ p∈upd,p.1=cH i\/p.1∈wr)/\k dv upd rd wr=some r:=by unfold Uh at h;unfold BM;split at h;have⟨cC,dv,ab,h1,h2,h3,h4,h5⟩:=aeS h;exact⟨cC,[],[],dv,[],ab,h1,h2,h3,h4,by simp,h5⟩;have⟨dv,ab,h1,h2,h3,h4,h5⟩:=YC h;exact⟨.none,[],[],dv,[],ab,h1,h2,h3,h4,by simp,h5⟩;have⟨dv,ab,h1,h2,h3,h4,h5⟩:=YC h;exact⟨.none,[],[],dv,[],ab,h1,h2,h3,h4,by simp,h5⟩;split at h;rename_i htu;have⟨cC,rd,wr,dv,upd,ab,h1,h2⟩:=Xu h;refine⟨cC,rd,wr,dv,upd,ab,?_,h2⟩;simp only[bG];rw[bA htu];exact h1;cases h;cases h
theorem Sm(ρ:Operand->DV X)(l:List Operand):l.map (λ x=>den (ρ x))=bG (l.map ρ):=by rw[nM,map_map];rfl
theorem YF{o:Oper}{ρ:Operand->DV X}(h:IR T am i o.op ρ get k=some r):anF T i o ρ get k r:=by
 obtain⟨dst,op,ty,ao,after,guard⟩:=o;unfold anF pV;simp at h;unfold IR at h;split at h;exact⟨.none,[],[],_,[],_,rfl,trivial,rfl,rfl,by simp,h⟩;exact⟨.none,[],[],_,[],_,rfl,trivial,rfl,rfl,by simp,h⟩;rename_i c a b;split at h;rename_i t hc;refine⟨.none,[],[],_,[],⟨Is t (den (ρ a)) (den (ρ b)),[],[]⟩,?_,trivial,(ahG t _ _).symm,rfl,by simp,h⟩;simp[hc,den,CT.tv,TV.av,pv];cases h;have⟨dv,u,ab,h1,h2,h3,h4,h5⟩:=aah h;exact⟨.none,[],[],dv,_,ab,h1,h2,h3,h4,by simp,h5⟩;have⟨dv,u,ab,h1,h2,h3,h4,h5⟩:=aeT h;exact⟨.none,[],[],dv,_,ab,h1,h2,h3,h4,by simp,h5⟩;rename_i t parts;have⟨dv,ab,h1,h2,h3,h4,h5⟩:=aag h;refine⟨.none,[],[],dv,[],ab,?_,h2,h3,h4,by simp,h5⟩;rw[map_map]at h1;exact h1;rename_i t len parts;have⟨dv,u,ab,h1,h2,h3,h4,h5⟩:=LD h;refine⟨.none,[],[],dv,_,ab,?_,h2,h3,h4,by simp,h5⟩;rw[map_map]at h1;exact h1;have⟨cC,rd,dv,ab,h1,h2,h3,h4,h5⟩:=ahH h;exact⟨cC,rd,[],dv,[],ab,h1,h2,h3,h4,by simp,h5⟩;have⟨cC,kk,u,ab,h1,h2,h3,h4,h5⟩:=ahJ h;exact⟨cC,[kk],[kk],.undef,_,ab,h1,h2,h3,h4,by simp,h5⟩;have⟨dv,ab,h1,h2,h3,h4,h5⟩:=aeR h;exact⟨.none,[],[],dv,[],ab,h1,h2,h3,h4,by simp,h5⟩;have⟨dv,ab,h1,h2,h3,h4,h5⟩:=ahK h;exact⟨.none,[],[],dv,[],ab,h1,h2,h3,h4,by simp,h5⟩;rename_i f first caps
 refine⟨.none,[],[],_,[],⟨.fn f (first.toList.map λx=>den (ρ x)) (caps.toList.map λx=>den (ρ x)),[],[]⟩,rfl,trivial,?_,rfl,by simp,h⟩;simp[den,Sm];rename_i t x lo hi;have⟨cC,rd,dv,ab,h1,h2,h3,h4,h5⟩:=aai h;refine⟨cC,rd,[],dv,[],ab,?_,h2,h3,h4,by simp,h5⟩;simp at h1;exact h1;have⟨dv,ab,h1,h2,h3,h4,h5⟩:=Ob h;exact⟨.none,[],[],dv,[],ab,h1,h2,h3,h4,by simp,h5⟩;have⟨dv,ab,h1,h2,h3,h4,h5⟩:=aae h;exact⟨.none,[],[],dv,[],ab,h1,h2,h3,h4,by simp,h5⟩;have⟨cC,rd,dv,ab,h1,h2,h3,h4,h5⟩:=Oc h;exact⟨cC,rd,[],dv,[],ab,h1,h2,h3,h4,by simp,h5⟩;have⟨dv,ab,h1,h2,h3,h4,h5⟩:=Ul h;exact⟨.none,[],[],dv,[],ab,h1,h2,h3,h4,by simp,h5⟩;rename_i b args de;have⟨cC,rd,wr,dv,upd,ab,h1,h2⟩:=Un h;refine⟨cC,rd,wr,dv,upd,ab,?_,h2⟩;simp[Sm];exact h1;cases h
end
inductive Pt(ι:Type) where
 |v (c:CT ι)
 |o (k:Nat)
 |p (k:Nat)
 |nil
 |f (F:FuncId) (fs cs:List (Pt ι))
 |od (k:Nat)
 |mp (k:Nat)
 |oz (k:Nat)
 |a (ps:List (Pt ι))
inductive OP(ι:Type) where
 |l (c:CT ι)
 |m (k v:CT ι)
 |c (sz:Nat) (rows:List (List (Pt ι)))
section
variable {ι:Type}
mutual
def Pt.vars:Pt ι->List (CT ι)
 |.v c=>[c]
 |.a ps=>cM ps
 |.f _ fs cs=>cM fs++cM cs
 |.od _=>[.int .i64]
 |_=>[]
def cM:List (Pt ι)->List (CT ι)
 |[]=>[]
 |p::ps=>p.vars++cM ps
end
def hZ:List (Nat×Pt ι)->List (CT ι)
 |[]=>[]
 |p::ps=>p.2.vars++hZ ps
def vH:List (List (Pt ι))->List (CT ι)
 |[]=>[]
 |r::rs=>cM r++vH rs
def da:List (Nat×OP ι)->List (CT ι)
 |[]=>[]
 |(_,.l c)::r=>.sl c::da r
 |(_,.m k v)::r=>.mp k v::da r
 |(_,.c _ rows)::r=>vH rows++da r
end
section
variable {X:SX}
structure DC(X:SX) where
 c:CT X.ι
 x:CT.T X.toSE c
@[reducible] def VT:List (CT X.ι)->Type
 |[]=>Unit
 |[c]=>CT.T X.toSE c
 |c::c'::l=>CT.T X.toSE c×VT (c'::l)
def CD:(l:List (CT X.ι))->List (DC X)->Option (VT (X:=X) l)
 |[],[]=>some ()
 |[c],[d]=>kT d.c c d.x
 |c::c'::l,d::ds=>(kT d.c c d.x).bind λx=>(CD (c'::l) ds).bind λv=>some (x,v)
 |_,_=>none
def vI:(l:List (CT X.ι))->VT (X:=X) l->List (DC X)
 |[],_=>[]
 |[c],x=>[⟨c,x⟩]
 |c::c'::l,v=>⟨c,v.1⟩::vI (c'::l) v.2
theorem ab5{d:DC X}{c:CT X.ι}{x:CT.T X.toSE c}(h:kT d.c c d.x=some x):(⟨c,x⟩:DC X)=d:=by obtain⟨a,y⟩:=d;have⟨e,h⟩:=qN h;simp at e;subst e;subst h;rfl
theorem Uo:∀{l:List (CT X.ι)}{ds:List (DC X)}{v:VT (X:=X) l},CD l ds=some v->vI l v=ds
 |[],[],_,_=>rfl
 |[c],[d],v,h=>by simp[CD]at h;simp[vI,ab5 h]
 |c::c'::l,d::ds,v,h=>by simp[CD]at h;rw[ah]at h;obtain⟨x,h1,h⟩:=h;rw[ah]at h;obtain⟨v',h2,h⟩:=h;cases h;simp[vI,ab5 h1,Uo h2]
 |[],_::_,_,h|[_],[],_,h|[_],_::_::_,_,h|_::_::_,[],_,h=>by simp[CD]at h
theorem Uq{c:CT X.ι}(x:CT.T X.toSE c):kT c c x=some x:=by unfold kT;split;rfl;rename_i h _;exact absurd rfl h
def YG(d:DC X):Nat:=match kT d.c (.int .i64) d.x with|some x=>Int.toNat x|none=>0
section
variable (dC:Nat->Nat)
mutual
def eP:Pt X.ι->List (DC X)->DV X×List (DC X)
 |.v _,L=>match L with
  |d::r=>(.c d.c d.x,r)
  |[]=>(.undef,[])
 |.o k,L=>(.own k 0 (dC k),L)
 |.p k,L=>(.ptr k 0 0,L)
 |.mp k,L=>(.mp k,L)
 |.oz k,L=>(.oz k (dC k),L)
 |.nil,L=>(.nil,L)
 |.f F fs cs,L=>(.fn F (k9 fs L).1 (k9 cs (k9 fs L).2).1,(k9 cs (k9 fs L).2).2)
 |.od k,L=>match L with
  |d::r=>(.own k (YG d) (dC k-YG d),r)
  |[]=>(.undef,[])
 |.a ps,L=>(.agg (k9 ps L).1,(k9 ps L).2)
def k9:List (Pt X.ι)->List (DC X)->List (DV X)×List (DC X)
 |[],L=>([],L)
 |p::ps,L=>((eP p L).1::(k9 ps (eP p L).2).1,(k9 ps (eP p L).2).2)
end
def Kh:List (Nat×Pt X.ι)->List (DC X)->List (Nat×DV X)
 |[],_=>[]
 |(t,p)::r,L=>(t,(eP dC p L).1)::Kh r (eP dC p L).2
def vJ:List (List (Pt X.ι))->List (DC X)->List (List (DV X))×List (DC X)
 |[],L=>([],L)
 |r::rs,L=>((k9 dC r L).1::(vJ rs (k9 dC r L).2).1,(vJ rs (k9 dC r L).2).2)
def bV:List (Nat×OP X.ι)->List (DC X)->List (Nat×Option (b7 X))
 |[],_=>[]
 |(k,.l _)::r,L=>match L with
  |⟨.sl c',x⟩::L=>(k,some (.ed c' x))::bV r L
  |_=>[]
 |(k,.m _ _)::r,L=>match L with
  |⟨.mp kc vc,x⟩::L=>(k,some (.map kc vc x))::bV r L
  |_=>[]
 |(k,.c sz rows)::r,L=>(k,some (.cells sz (vJ dC rows L).1))::bV r (vJ dC rows L).2
end
def lens:List (Nat×OP X.ι)->List (DC X)->List (Nat×Nat)
 |[],_=>[]
 |(k,.l _)::r,L=>match L with
  |⟨.sl _,x⟩::L=>(k,List.length x)::lens r L
  |_=>[]
 |(_,.m _ _)::r,L=>lens r (L.drop 1)
 |(_,.c _ rows)::r,L=>lens r (L.drop (vH rows).length)
def lh:Nat->List (Pt X.ι)->List (Nat×Pt X.ι)
 |_,[]=>[]
 |n,p::ps=>(n,p)::lh (n+1) ps
theorem Oe:∀(n:Nat)(ps:List (Pt X.ι)),hZ (lh n ps)=cM ps
 |_,[]=>rfl
 |n,p::ps=>by simp[lh,hZ,cM,Oe (n+1) ps]
structure cW(X:SX) where
 pd:List (Pt X.ι)
 ix:List (Nat×OP X.ι)
 fy:List (Pt X.ι)
 iv:List (Nat×OP X.ι)
 fn:VT (X:=X) (cM pd++da ix)->Option (VT (X:=X) (hZ (lh 0 fy)++da iv))
def Dt(O:List (Nat×OP X.ι))(L:List (DC X))(k:Nat):Nat:=(lk (lens O L) k).getD 0
def Ur(ps:List (Pt X.ι))(O:List (Nat×OP X.ι))(L:List (DC X)):List (DV X):=(k9 (Dt O (L.drop (cM ps).length)) ps (L.take (cM ps).length)).1
def It(ps:List (Pt X.ι))(O:List (Nat×OP X.ι))(L:List (DC X)):List (Nat×Option (b7 X)):=bV (Dt O (L.drop (cM ps).length)) O (L.drop (cM ps).length)
def yg:List (DV X)->DV X
 |[d]=>d
 |ds=>.eV ds
def cZ:List (Nat×Option (b7 X))->List (Nat×b7 X)
 |[]=>[]
 |(k,some o)::r=>(k,o)::cZ r
 |(_,none)::r=>cZ r
def rO(l:List (Nat×b7 X)):List (Nat×aS):=l.map λp=>(p.1,bI p.2)
def cW.args(g:cW X)(v:VT (X:=X) (cM g.pd++da g.ix)):List (DV X):=Ur g.pd g.ix (vI _ v)
def cW.cN(g:cW X)(v:VT (X:=X) (cM g.pd++da g.ix)):List (Nat×b7 X):=cZ (It g.pd g.ix (vI _ v))
def cW.res(g:cW X)(r:VT (X:=X) (hZ (lh 0 g.fy)++da g.iv)):DV X:=yg (Ur g.fy g.iv (vI _ r))
def cW.outs(g:cW X)(r:VT (X:=X) (hZ (lh 0 g.fy)++da g.iv)):List (Nat×b7 X):=cZ (It g.fy g.iv (vI _ r))
def HQ(P:Program)(f:FuncId)(g:cW X):Prop:=∀v r,g.fn v=some r->C1 P f (bG (g.args v)) ((g.cN v).map λp=>bI p.2) (rO (g.outs r)) (den (g.res r))
end
inductive AT(ι:Type) where
 |d (c:CT ι)
 |ref (c:CT ι)
 |ea (as:List (CT ι)) (r:CT ι)
 |mut (c:CT ι)
 |jt (c:CT ι)
 |nil
 deriving DecidableEq
def AT.im{ι:Type}:AT ι->Bool
 |.mut _|.jt _=>true
 |_=>false
def AT.pl{ι:Type}:AT ι->Bool
 |.mut _|.jt _|.nil=>false
 |_=>true
inductive RT(ι:Type) where
 |d (c:CT ι)
 |fresh (e:CT ι)
 |whole (j:Nat)
 |mu (c:CT ι)
 |mr (c:CT ι)
 |mv
def RT.out{ι:Type}:RT ι->Bool
 |.mu _|.mr _|.mv=>true
 |_=>false
section
variable (X:SX)
@[reducible] def AT.T:AT X.ι->Type
 |.d c=>CT.T X.toSE c
 |.ref c=>CT.T X.toSE c
 |.ea as r=>HL X.toSE as->Option (CT.T X.toSE r)
 |.mut c=>List (CT.T X.toSE c)
 |.jt c=>CT.T X.toSE c
 |.nil=>Unit
@[reducible] def RT.T:RT X.ι->Type
 |.d c=>CT.T X.toSE c
 |.fresh e=>List (CT.T X.toSE e)
 |.whole _=>Unit
 |.mu c=>List (CT.T X.toSE c)
 |.mr c=>CT.T X.toSE c
 |.mv=>Unit
@[reducible] def jg:List (AT X.ι)->Type
 |[]=>Unit
 |a::l=>AT.T X a×jg l
@[reducible] def rE:List (RT X.ι)->Type
 |[]=>Unit
 |[r]=>RT.T X r
 |r::r'::l=>RT.T X r×rE (r'::l)
structure co where
 args:List (AT X.ι)
 res:List (RT X.ι)
 fn:jg X args->Option (rE X res)
 gen:Option (cW X):=none
variable {X}
def dW:Nat->(l:List (AT X.ι))->jg X l->List AV
 |_,[],_=>[]
 |n,.d c::l,a=>(CT.tv X.toSE c a.1).av::dW n l a.2
 |n,.ref c::l,a=>.en (CT.row X.toSE c a.1) 0::dW n l a.2
 |n,.ea as r::l,a=>den (.ea as r a.1:DV X)::dW n l a.2
 |n,.mut _::l,a=>.own n 0 (List.length a.1)::dW (n+1) l a.2
 |n,.jt _::l,a=>.ptr n 0 0::dW (n+1) l a.2
 |n,.nil::l,a=>.cT::dW n l a.2
abbrev yh(l:List (AT X.ι))(a:jg X l):List AV:=dW 0 l a
def uo(c:CT X.ι)(l:List (CT.T X.toSE c)):eH:=(CT.sz X c,l.map (CT.row X.toSE c))
def uq:(l:List (AT X.ι))->jg X l->List eH
 |[],_=>[]
 |.mut c::l,a=>uo c a.1::uq l a.2
 |.jt c::l,a=>uo c [a.1]::uq l a.2
 |.d _::l,a=>uq l a.2
 |.ref _::l,a=>uq l a.2
 |.ea _ _::l,a=>uq l a.2
 |.nil::l,a=>uq l a.2
def pY:(r:RT X.ι)->RT.T X r->List (Option eH)
 |.mu c,x=>[some (uo c x)]
 |.mr c,x=>[some (uo c [x])]
 |.mv,_=>[none]
 |_,_=>[]
def nN:(l:List (RT X.ι))->rE X l->List (Option eH)
 |[],_=>[]
 |[r],x=>pY r x
 |r::r'::l,x=>pY r x.1++nN (r'::l) x.2
def Xv:(r:RT X.ι)->RT.T X r->List Nat
 |.mu _,x=>[List.length x]
 |.mr _,_=>[1]
 |.mv,_=>[0]
 |_,_=>[]
def wd:(l:List (RT X.ι))->rE X l->List Nat
 |[],_=>[]
 |[r],x=>Xv r x
 |r::r'::l,x=>Xv r x.1++wd (r'::l) x.2
def Us(ns:List Nat):(r:RT X.ι)->RT.T X r->List RC
 |.d c,x=>[.d (CT.tv X.toSE c x)]
 |.fresh e,l=>[.fresh (CT.sz X e) (l.map (CT.row X.toSE e))]
 |.whole j,_=>[.whole j (ns.getD j 0)]
 |_,_=>[]
def Aw(ns:List Nat):(l:List (RT X.ι))->rE X l->List RC
 |[],_=>[]
 |[r],x=>Us ns r x
 |r::r'::l,x=>Us ns r x.1++Aw ns (r'::l) x.2
def rP(l:List (RT X.ι))(x:rE X l):RV:=
 match Aw (wd l x) l x with
 |[c]=>.one c
 |cs=>.eV cs
def rK(P:Program)(Γ:FuncId->Option (co X)):Prop:=
 ∀f s,Γ f=some s->fA P f/\(∀ a r,s.fn a=some r->p4 P f (yh s.args a) (uq s.args a) (nN s.res r) (rP s.res r))/\∀g,s.gen=some g->HQ P f g
theorem anG:∀{l:List (AT X.ι)},(l.all λq=>q.pl)=true->(l.all λq=>!q.im)=true:=λ{l} h=>by rw[all_eq_true]at h ⊢;intro q hq;have:=h q hq;cases q<;>simp_all [AT.pl,AT.im]
theorem Gt:∀{l:List (AT X.ι)}{a:jg X l},(l.all λq=>!q.im)=true->uq l a=[]
 |[],_,_=>rfl
 |.d _::l,a,h|.ref _::l,a,h|.ea _ _::l,a,h=>Gt (l:=l) (by simpa[AT.im]using h)
 |.mut _::l,a,h|.jt _::l,a,h=>by simp[AT.im]at h
 |.nil::l,a,h=>Gt (l:=l) (by simpa[AT.im]using h)
theorem ab7{r:RT X.ι}{x:RT.T X r}(h:(!r.out)=true):pY r x=[]:=by cases r<;>first|rfl|simp[RT.out]at h
theorem ab8:∀{l:List (RT X.ι)}{x:rE X l},(l.all λq=>!q.out)=true->nN l x=[]
 |[],_,_=>rfl
 |[r],x,h=>ab7 (by simpa using h)
 |r::r'::l,x,h=>by simp only[all_cons,bq]at h;simp[nN,ab7 h.1];exact ab8 (l:=r'::l) (by simp only[all_cons,bq];exact h.2)
mutual
def bz:DV X->List Nat
 |.own k _ _=>[k]
 |.ptr k _ _=>[k]
 |.pN k _ _=>[k]
 |.sX k _ _ _ _=>[k]
 |.mp k=>[k]
 |.oz k _=>[k]
 |.agg cs=>aN cs
 |.eV cs=>aN cs
 |.fn _ first caps=>aN first++aN caps
 |_=>[]
def aN:List (DV X)->List Nat
 |[]=>[]
 |x::xs=>bz x++aN xs
end
theorem zF(c:CT X.ι)(x:CT.T X.toSE c):refs (CT.tv X.toSE c x).av=[]:=by
 cases c<;>try rfl
 rename_i i;show dV ((X.row i x).map AV.t)=[];generalize X.row i x=l
 induction l with
 |nil=>rfl
 |cons y ys ih=>simp[dV,refs,ih]
mutual
theorem iY:∀x:DV X,refs (den x)=bz x
 |.c t x=>zF t x
 |.agg cs|.eV cs=>by simp[den,refs,bz,iZ cs]
 |.own _ _ _|.ptr _ _ _|.pN _ _ _|.mp _|.oz _ _|.sX _ _ _ _ _|.rp _ _ _|.u9 _ _ _ _ _=>rfl
 |.fn f first caps=>by simp[den,refs,bz,iZ first,iZ caps]
 |.ea _ _ _=>rfl
 |.raw v=>by simp[den,cv];split;rfl;split<;>rfl
 |.nil|.ub|.skip|.undef=>rfl
theorem iZ:∀l:List (DV X),dV (bG l)=aN l
 |[]=>rfl
 |x::xs=>by simp[bG,dV,aN,iY x,iZ xs]
end
def Qf(get:Nat->Option (b7 X))(d:DV X)(c:CT X.ι):Option (CT.T X.toSE c×List Bool):=
 match d,c with
 |.own kk aa len,.sl e=>(get kk).bind λo=>match o with
  |.ed b l=>(kT (.sl b) (.sl e) l).bind λ(l:List (CT.T X.toSE e))=>some (sub l aa len,[be (sub l aa len).length len])
  |_=>none
 |.own kk aa len,.any=>(get kk).bind λo=>match o with
  |.ed b l=>some (.sl (List.map (CT.row X.toSE b) (sub l aa len)),[be (sub l aa len).length len])
  |_=>none
 |.oz kk len,.sl e=>(get kk).bind λo=>match o with
  |.ed b l=>(kT (.sl b) (.sl e) l).bind λ(l:List (CT.T X.toSE e))=>some (sub l 0 len,[be (sub l 0 len).length len])
  |_=>none
 |d,c=>(Kc d c).bind λx=>some (x,[])
def Ay(get:Nat->Option (b7 X)):List (DV X)->(l:List (CT X.ι))->Option (HL X.toSE l×List Bool)
 |[],[]=>some ((),[])
 |d::ds,c::l=>(Qf get d c).bind λx=>(Ay get ds l).bind λh=>some ((x.1,h.1),x.2++h.2)
 |_,_=>none
def YH(get:Nat->Option (b7 X))(d:DV X)(i:X.ι):Option (CT.T X.toSE (.st i)×List Bool):=
 match d with
 |.agg cs=>(Ay get cs (X.de i)).bind λh=>some (X.make i h.1,h.2)
 |.c a x=>(kT a (.st i) x).bind λx=>some (x,[])
 |_=>none
def EO(get:Nat->Option (b7 X))(d:DV X)(c:CT X.ι):Option (CT.T X.toSE c×List Bool):=
 match c with
 |.st i=>YH get d i
 |c=>Qf get d c
def T4(get:Nat->Option (b7 X))(d:DV X)(c:CT X.ι):Option (CT.T X.toSE c):=
 match d with
 |.ptr kk row 0=>(get kk).bind λo=>match o with
  |.cells _ rows=>(rows[row]?).bind λq=>if q.all (λ x=>match x with|.c _ _=>true|_=>false)then LA c q else none
  |_=>none
 |.rp a x 0=>kT a c x
 |_=>none
def vA:(l l':List (AT X.ι))->jg X l->jg X l'->jg X (l++l')
 |[],_,_,b=>b
 |_::l,l',a,b=>(a.1,vA l l' a.2 b)
def hlA:(as:List (CT X.ι))->HL X.toSE as->jg X (as.map AT.d)
 |[],_=>()
 |_::l,h=>(h.1,hlA l h.2)
def vK:List (AT X.ι)->Nat
 |[]=>0
 |q::l=>(if q.im then 1 else 0)+vK l
theorem rQ:∀(n:Nat)(l l':List (AT X.ι))(a:jg X l)(b:jg X l'),dW n (l++l') (vA l l' a b)=dW n l a++dW (n+vK l) l' b
 |n,[],_,_,_=>rfl
 |n,.d c::l,l',a,b|n,.ref c::l,l',a,b|n,.ea as r::l,l',a,b=>by simp[dW,vA,rQ n l l' a.2 b,vK,AT.im]
 |n,.mut c::l,l',a,b|n,.jt c::l,l',a,b=>by simp[dW,vA,rQ (n+1) l l' a.2 b,vK,AT.im,Nat.add_assoc]
 |n,.nil::l,l',a,b=>by simp[dW,vA,rQ n l l' a.2 b,vK,AT.im]
theorem Og:∀(n:Nat)(as:List (CT X.ι))(h:HL X.toSE as),dW n (as.map AT.d) (hlA as h)=(HL.mw X.toSE as h).map TV.av
 |_,[],_=>rfl
 |n,c::l,h=>congrArg ((CT.tv X.toSE c h.1).av:: ·) (Og n l h.2)
def amA{a b:CT X.ι}(h:a=b)(o:Option (CT.T X.toSE a)):Option (CT.T X.toSE b):=h ▸ o
def qO(get:Nat->Option (b7 X))(oR:FuncId->List (DV X)->List (DV X)->(as:List (CT X.ι))->(r:CT X.ι)->Option ((HL X.toSE as->Option (CT.T X.toSE r))×List Bool)):List (DV X)->(l:List (AT X.ι))->Option (jg X l×List Bool)
 |[],[]=>some ((),[])
 |d::ds,.d c::l=>(EO get d c).bind λx=>(qO get oR ds l).bind λh=>some ((x.1,h.1),x.2++h.2)
 |d::ds,.ref c::l=>(T4 get d c).bind λx=>(qO get oR ds l).bind λh=>some ((x,h.1),h.2)
 |d::ds,.ea as r::l=>(match d with
  |.ea as' r' φ=>if h:as'=as/\r'=r then some (λ x=>amA h.2 (φ (h.1 ▸ x)),[])else none
  |.fn f first caps=>oR f first caps as r
  |_=>none).bind λφ=>(qO get oR ds l).bind λq=>some ((φ.1,q.1),φ.2++q.2)
 |_,_=>none
def Qg(Γ:FuncId->Option (co X))(get:Nat->Option (b7 X)):Nat->List (DV X)->(l:List (AT X.ι))->Option (jg X l×List Bool)
 | 0,ds,l=>qO get (λ _ _ _ _ _=>none) ds l
 |n+1,ds,l=>qO get (λ f first caps as r=>(Γ f).bind λs=>match s with
   |⟨sa,[.d r'],fn,_⟩=>
    if h:r'=r/\sa=sa.take first.length++(as.map AT.d++sa.drop (first.length+as.length))/\first.length=0 then
     (Qg Γ get n first (sa.take first.length)).bind λhf=>(Qg Γ get n caps (sa.drop (first.length+as.length))).bind λhc=>
      some (λ x=>amA h.1 (fn (h.2.1 ▸ vA _ _ hf.1 (vA _ _ (hlA as x) hc.1))),hf.2++hc.2)
    else none
   |_=>none) ds l
section
variable {P:Program} {Γ:FuncId->Option (co X)} {get:Nat->Option (b7 X)} {rd:List Nat}
theorem gW{a b:List Prop}(h:∀p∈a,p)(h':∀p∈b,p):∀p∈a++b,p:=by grind
theorem Gu{d:DV X}{c:CT X.ι}{x:CT.T X.toSE c×List Bool}(h:Qf get d c=some x)(hc:∀b∈x.2,b=true)(hrd:∀j∈bz d,j∈rd):∃hs obs,(∀ p∈obs,p)/\∀ag,nZ P (dG rd (fB get)) (den d) (hs++ag)=some ((CT.tv X.toSE c x.1).av,ag,obs):=by
 have base:∀{d:DV X}{c:CT X.ι}{x:CT.T X.toSE c},Kc d c=some x->∃hs obs,(∀ p∈obs,p)/\∀ag,nZ P (dG rd (fB get)) (den d) (hs++ag)=some ((CT.tv X.toSE c x).av,ag,obs):=by
  intro d c x h;unfold Kc at h;split at h;rw[(nW h).1];refine⟨[],[],by simp,λag=>?_⟩;simp;cases c<;>try rfl
  rename_i j;show nZ P _ (.agg ((X.row j x).map AV.t)) ag=_;have:∀(l:List Tree)(hs:List LH),mq P (dG rd (fB get)) (l.map AV.t) hs=some (l.map AV.t,hs,[]):=by
   intro l
   induction l with
   |nil=>intro hs;rfl
   |cons y ys ih=>intro hs;simp[mq,nZ,ih]
  simp[nZ,this];rfl;cases h;exact⟨[.emp],[],by simp,λag=>rfl⟩;cases h;exact⟨[.emp],[],by simp,λag=>rfl⟩;cases h
 unfold Qf at h;split at h;rename_i kk aa len e;rw[ah]at h;obtain⟨o,h1,h⟩:=h;split at h;rename_i b l0;rw[ah]at h;obtain⟨l,h2,h⟩:=h;cases h;have h3:(sub l aa len).length=len:=by simpa[be]using hc (be (sub l aa len).length len) (by simp)
 have⟨h4,h5⟩:=jv h2;refine⟨[.rows ((sub l aa len).map (CT.row X.toSE e))],[(((bI (.ed b l0):aS).rows.drop aa).take len=aF ((sub l aa len).map (CT.row X.toSE e))/\((sub l aa len).map (CT.row X.toSE e)).length=len)],?_,λag=>?_⟩;intro p hp;simp only[aZ]at hp;subst hp;refine⟨?_,by simpa using h3⟩;simp[bI,h5];simp[aF,sub];simp[den,nZ,eU (hrd kk (by simp[bz])) h1];rfl;cases h;rename_i kk aa len;rw[ah]at h;obtain⟨o,h1,h⟩:=h;split at h;rename_i b l0;cases h;have h3:(sub l0 aa len).length=len:=by simpa[be]using hc (be (sub l0 aa len).length len) (by simp)
 refine⟨[.rows ((sub l0 aa len).map (CT.row X.toSE b))],[(((bI (.ed b l0):aS).rows.drop aa).take len=aF ((sub l0 aa len).map (CT.row X.toSE b))/\((sub l0 aa len).map (CT.row X.toSE b)).length=len)],?_,λag=>?_⟩;intro p hp;simp only[aZ]at hp;subst hp;refine⟨?_,by simpa using h3⟩;simp[bI];simp[aF,sub];simp[den,nZ,eU (hrd kk (by simp[bz])) h1];rfl;cases h;rename_i kk len e;rw[ah]at h;obtain⟨o,h1,h⟩:=h;split at h;rename_i b l0;have⟨l,h2,h⟩:=ah.1 h;cases h;have h3:(sub l 0 len).length=len:=by simpa[be]using hc (be (sub l 0 len).length len) (by simp)
 have⟨h4,h5⟩:=jv h2;refine⟨[.rows ((sub l 0 len).map (CT.row X.toSE e))],[(((bI (.ed b l0):aS).rows.drop 0).take len=aF ((sub l 0 len).map (CT.row X.toSE e))/\((sub l 0 len).map (CT.row X.toSE e)).length=len)],?_,λag=>?_⟩;intro p hp;simp only[aZ]at hp;subst hp;refine⟨?_,by simpa using h3⟩;simp[bI,h5];simp[aF,sub];simp[den,nZ,eU (hrd kk (by simp[bz])) h1];rfl;cases h;have⟨y,h1,h⟩:=ah.1 h;cases h;exact base h1
theorem LF:∀{ds:List (DV X)}{l:List (CT X.ι)}{h:HL X.toSE l×List Bool},Ay get ds l=some h->(∀ b∈h.2,b=true)->l.all CT.one=true->(∀ j∈aN ds,j∈rd)->
 ∃hs obs,(∀ p∈obs,p)/\∀ag,mq P (dG rd (fB get)) (bG ds) (hs++ag)=some ((HL.row X.toSE l h.1).map AV.t,ag,obs)
 |[],[],h,_,_,_,_=>⟨[],[],by simp,λag=>rfl⟩
 |d::ds,c::l,h,hr,hc,ha,hrd=>by simp[Ay]at hr;have⟨x,h1,hr⟩:=ah.1 hr;have⟨g,h2,hr⟩:=ah.1 hr;cases hr;simp only[all_cons,bq]at ha;obtain⟨hs1,o1,p1,q1⟩:=Gu (P:=P) (rd:=rd) h1 (λ b hb=>hc b (by simp[hb])) (λ j hj=>hrd j (by simp[aN,hj]));obtain⟨hs2,o2,p2,q2⟩:=LF h2 (λ b hb=>hc b (by simp[hb])) ha.2 (λ j hj=>hrd j (by simp[aN,hj]));refine⟨hs1++hs2,o1++o2,gW p1 p2,λag=>?_⟩;simp only[bG,mq,aR,q1,ai,q2];show _=some ((CT.row X.toSE c x.1++HL.row X.toSE l g.1).map AV.t,ag,o1++o2);rw[List.map_append,<- Mp ha.1 x.1];rfl
 |[],_::_,_,hr,_,_,_|_::_,[],_,hr,_,_,_=>by simp[Ay]at hr
theorem zG{d:DV X}{c:CT X.ι}{x:CT.T X.toSE c×List Bool}(h:EO get d c=some x)(hc:∀b∈x.2,b=true)(hrd:∀j∈bz d,j∈rd):∃hs obs,(∀ p∈obs,p)/\∀ag,nZ P (dG rd (fB get)) (den d) (hs++ag)=some ((CT.tv X.toSE c x.1).av,ag,obs):=by
 cases c
 case st i=>
  replace h:YH get d i=some x:=h
  cases d
  case agg cs=>
   simp[YH]at h;rw[ah]at h;obtain⟨g,h1,h⟩:=h;cases h;obtain⟨hs,obs,p1,q1⟩:=LF (P:=P) (rd:=rd) h1 hc (X.flat i) (λ j hj=>hrd j (by simpa[bz]using hj));refine⟨hs,obs,p1,λag=>?_⟩;simp[den,nZ,q1,CT.tv,TV.av];rw[X.gd]
  case c a y=>exact Gu (c:=.st i) (x:=x) (by unfold Qf;exact h) hc hrd
  all_goals cases h
 all_goals exact Gu h hc hrd
theorem ab9{d:DV X}{c:CT X.ι}{x:CT.T X.toSE c}(h:T4 get d c=some x)(hrd:∀j∈bz d,j∈rd):∃hs obs,(∀ p∈obs,p)/\∀ag,nZ P (dG rd (fB get)) (den d) (hs++ag)=some (.en (CT.row X.toSE c x) 0,ag,obs):=by
 unfold T4 at h;split at h;rename_i kk row;rw[ah]at h;obtain⟨o,h1,h⟩:=h;split at h;rename_i sz rows;rw[ah]at h;obtain⟨q,h2,h⟩:=h;split at h;rename_i hq;refine⟨[.row (CT.row X.toSE c x)],[(bI (.cells sz rows):aS).rows[row]? =some ((CT.row X.toSE c x).map AV.t)],?_,λag=>?_⟩;intro p hp;simp only[aZ]at hp;subst hp;simp only[bI,List.getElem?_map,h2,Option.map_some];rw[<- xK h,nM,map_map];congr 1;refine map_congr_left λy hy=>?_;have:=all_eq_true.1 hq y hy;cases y<;>first|exact(amz _).symm|simp at this
 simp[den,nZ,eU (hrd kk (by simp[bz])) h1];cases h;cases h;rename_i a y;refine⟨[],[],by simp,λag=>?_⟩;simp[den,(nW h).2];rfl;cases h
theorem aeV{n:Nat}{l l':List (AT X.ι)}(e:l=l')(b:jg X l):dW n l' (e ▸ b)=dW n l b:=by subst e;rfl
theorem IJ{oR:FuncId->List (DV X)->List (DV X)->(as:List (CT X.ι))->(r:CT X.ι)->Option ((HL X.toSE as->Option (CT.T X.toSE r))×List Bool)}:∀{ds:List (DV X)}{l:List (AT X.ι)}{a:jg X l×List Bool},qO get oR ds l=some a->(l.all λq=>!q.im)=true
 |[],[],_,_=>rfl
 |d::ds,.d c::l,a,h=>by simp[qO]at h;have⟨x,h1,h⟩:=ah.1 h;have⟨q,h2,h⟩:=ah.1 h;simpa[AT.im]using IJ h2
 |d::ds,.ref c::l,a,h=>by simp[qO]at h;have⟨x,h1,h⟩:=ah.1 h;have⟨q,h2,h⟩:=ah.1 h;simpa[AT.im]using IJ h2
 |d::ds,.ea as r::l,a,h=>by simp[qO]at h;have⟨x,h1,h⟩:=ah.1 h;have⟨q,h2,h⟩:=ah.1 h;simpa[AT.im]using IJ h2
 |_::_,.mut _::_,_,h|_::_,.jt _::_,_,h|_::_,.nil::_,_,h|[],_::_,_,h|_::_,[],_,h=>by simp[qO]at h
theorem acd:∀{n:Nat}{ds:List (DV X)}{l:List (AT X.ι)}{a:jg X l×List Bool},Qg Γ get n ds l=some a->(l.all λq=>!q.im)=true
 | 0,_,_,_,h|_+1,_,_,_,h=>IJ h
theorem W0:∀as:List (CT X.ι),((as.map AT.d).all λq=>!q.im)=true
 |[]=>rfl
 |_::l=>W0 l
def anH(P:Program)(get:Nat->Option (b7 X))(oR:FuncId->List (DV X)->List (DV X)->(as:List (CT X.ι))->(r:CT X.ι)->Option ((HL X.toSE as->Option (CT.T X.toSE r))×List Bool)):Prop:=
 ∀f first caps as r φ rd,oR f first caps as r=some φ->(∀ b∈φ.2,b=true)->(∀ j∈aN first++aN caps,j∈rd)->∃hs obs,(∀ p∈obs,p)/\∀ag,nZ P (dG rd (fB get)) (.fn f (bG first) (bG caps)) (hs++ag)=some (den (.ea as r φ.1:DV X),ag,obs)
theorem rR{n:Nat}{oR:FuncId->List (DV X)->List (DV X)->(as:List (CT X.ι))->(r:CT X.ι)->Option ((HL X.toSE as->Option (CT.T X.toSE r))×List Bool)}(tt:anH P get oR):∀{ds:List (DV X)}{l:List (AT X.ι)}{a:jg X l×List Bool},qO get oR ds l=some a->(∀ b∈a.2,b=true)->(∀ j∈aN ds,j∈rd)->
 ∃hs obs,(∀ p∈obs,p)/\∀ag,mq P (dG rd (fB get)) (bG ds) (hs++ag)=some (dW n l a.1,ag,obs)
 |[],[],_,_,_,_=>⟨[],[],by simp,λag=>rfl⟩
 |d::ds,.d c::l,a,h,hc,hrd=>by simp[qO]at h;have⟨x,h1,h⟩:=ah.1 h;have⟨q,h2,h⟩:=ah.1 h;cases h;obtain⟨hs1,o1,p1,q1⟩:=zG (P:=P) (rd:=rd) h1 (λ b hb=>hc b (by simp[hb])) (λ j hj=>hrd j (by simp[aN,hj]));obtain⟨hs2,o2,p2,q2⟩:=rR (n:=n) tt h2 (λ b hb=>hc b (by simp[hb])) (λ j hj=>hrd j (by simp[aN,hj]));refine⟨hs1++hs2,o1++o2,gW p1 p2,λag=>?_⟩;simp[bG,mq,q1,q2,dW]
 |d::ds,.ref c::l,a,h,hc,hrd=>by simp[qO]at h;rw[ah]at h;obtain⟨x,h1,h⟩:=h;rw[ah]at h;obtain⟨q,h2,h⟩:=h;cases h;obtain⟨hs1,o1,p1,q1⟩:=ab9 (P:=P) (rd:=rd) h1 (λ j hj=>hrd j (by simp[aN,hj]));obtain⟨hs2,o2,p2,q2⟩:=rR (n:=n) tt h2 hc (λ j hj=>hrd j (by simp[aN,hj]));refine⟨hs1++hs2,o1++o2,gW p1 p2,λag=>?_⟩;simp[bG,mq,q1,q2,dW]
 |d::ds,.ea as r::l,a,h,hc,hrd=>by
  simp[qO]at h;rw[ah]at h;obtain⟨φ,h1,h⟩:=h;rw[ah]at h;obtain⟨q,h2,h⟩:=h;cases h;have hd:∃hs obs,(∀ p∈obs,p)/\∀ag,nZ P (dG rd (fB get)) (den d) (hs++ag)=some (den (.ea as r φ.1:DV X),ag,obs):=by
   cases d
   case ea as' r' ψ=>
    simp only at h1;split at h1;rename_i e;obtain⟨rfl,rfl⟩:=e;cases h1;exact⟨[],[],by simp,λag=>rfl⟩;cases h1
   case fn f first caps=>
    obtain⟨hs,obs,g1,g2⟩:=tt f first caps as r φ rd h1 (λ b hb=>hc b (by simp[hb])) (λ j hj=>hrd j (by simp only[aN,bz,bO]at hj ⊢;exact .inl hj))
    exact⟨hs,obs,g1,λag=>by simp[den];exact g2 ag⟩
   all_goals simp at h1
  obtain⟨hs1,o1,p1,q1⟩:=hd;obtain⟨hs2,o2,p2,q2⟩:=rR (n:=n) tt h2 (λ b hb=>hc b (by simp[hb])) (λ j hj=>hrd j (by simp[aN,hj]));refine⟨hs1++hs2,o1++o2,gW p1 p2,λag=>?_⟩;simp[bG,mq,q1,q2,dW]
 |_::_,.mut _::_,_,h,_,_|_::_,.jt _::_,_,h,_,_|_::_,.nil::_,_,h,_,_|[],_::_,_,h,_,_|_::_,[],_,h,_,_=>by simp[qO]at h
theorem aeW{n:Nat}:∀{l:List (AT X.ι)}(a:jg X l),l=[]->dW n l a=[]
 |_,_,rfl=>rfl
theorem qX(hΓ:rK P Γ):∀(m:Nat){n:Nat}{ds:List (DV X)}{l:List (AT X.ι)}{a:jg X l×List Bool}{rd:List Nat},Qg Γ get m ds l=some a->(∀ b∈a.2,b=true)->(∀ j∈aN ds,j∈rd)->
 ∃hs obs,(∀ p∈obs,p)/\∀ag,mq P (dG rd (fB get)) (bG ds) (hs++ag)=some (dW n l a.1,ag,obs)
 | 0,n,ds,l,a,rd,h,hcs,hrd=>rR (λ _ _ _ _ _ _ _ h=>by cases h) h hcs hrd
 |m+1,n,ds,l,a,rd,h,hcs,hrd=>by
  refine rR (λ f first caps as r φ rd' hc hb GS=>?_) h hcs hrd;rw[ah]at hc;obtain⟨s,h1,hc⟩:=hc;split at hc;rename_i sa r' fn _;split at hc;rename_i e;obtain⟨rfl,e2,e3⟩:=e;have⟨hf,h2,hc⟩:=ah.1 hc;have⟨hcap,h3,hc⟩:=ah.1 hc;injection hc with hc;rw[<- hc]at hb;obtain⟨g1,g2,_⟩:=hΓ f _ h1;obtain⟨hs1,o1,p1,q1⟩:=qX hΓ m h2 (n:=0) (rd:=rd') (λ b hb'=>hb b (by simp[hb'])) (λ j hj=>GS j (by simp[hj]));obtain⟨hs2,o2,p2,q2⟩:=qX hΓ m h3 (n:=0+vK (sa.take first.length)+vK (as.map AT.d)) (rd:=rd') (λ b hb'=>hb b (by simp[hb'])) (λ j hj=>GS j (by simp[hj]));refine⟨.ea (λ ts u=>∃h x,φ.1 h=some x/\ts=HL.mw X.toSE as h/\u=CT.tv X.toSE r' x)::(hs1++hs2),o1++(o2++[dW 0 _ hf.1=[]/\fA P f/\∀args r,(∃ h x,φ.1 h=some x/\args=HL.mw X.toSE as h/\r=CT.tv X.toSE r' x)->so P f (dW 0 _ hf.1++args.map TV.av++dW (0+vK (sa.take first.length)+vK (as.map AT.d)) _ hcap.1) (.one (.d r))]),?_,λag=>?_⟩;intro p hp;simp only[bO,aZ]at hp;rcases hp with hp|hp|hp;exact p1 p hp;exact p2 p hp;subst hp;refine⟨aeW _ (by rw[e3];rfl),g1,?_⟩;rintro args r ⟨x,y,hxy,rfl,rfl⟩;rw[<- hc]at hxy;have hxy':fn (e2 ▸ vA _ _ hf.1 (vA _ _ (hlA as x) hcap.1))=some y:=hxy;have:=g2 _ _ hxy';have hnm:(sa.all λq=>!q.im)=true:=by rw[e2,List.all_append,List.all_append,acd h2,acd h3,W0];rfl
  rw[Gt hnm,yh,aeV e2.symm,rQ,rQ,Og,<- aR]at this;exact TU this;simp[nZ,q1,q2];rfl;cases hc;cases hc
end
end
def Qh(s:ByteArray)(n:Int):Option Int:=bif decide (0<=n)then(s[n.toNat]?).map λb=>(b.toNat:Int)else none
def ze(m:Int)(bytes:Nat):Bool:=decide (0<=m)&&decide (m.toNat*bytes<=140737488355328)&&decide (m.toNat<=maxLen)
def gM{K V:Type}(eq:K->K->Bool)(k:K):List (K×V)->Option V
 |[]=>none
 |p::r=>bif eq k p.1 then some p.2 else gM eq k r
def EX{K V:Type}(eq:K->K->Bool)(k:K)(v:V):List (K×V)->List (K×V)
 |[]=>[(k,v)]
 |p::r=>bif eq k p.1 then(k,v)::r else p::EX eq k v r
def iEq(a b:Int):Bool:=a==b
def ff(a b:ByteArray):Bool:=a.toList==b.toList
def bEq(a b:Bool):Bool:=a==b
section
variable {X:SX} {A:Type}
def LG:(c:CT X.ι)->Option (CT.T X.toSE c->CT.T X.toSE c->Bool)
 |.int _=>some iEq
 |.str=>some ff
 |.bool=>some bEq
 |_=>none
def CC{ι:Type}:yn->CT ι->Bool
 |.int a,.int b=>decide (a=b)
 |.str,.str=>true
 |.bool,.bool=>true
 |_,_=>false
def anI{ι:Type}:CT ι->Bool
 |.st _=>true
 |_=>false
theorem iF(a b:List (DV X)):bG (a++b)=bG a++bG b:=by simp[nM]
theorem qY(a b:List (Nat×Option (b7 X))):iX (a++b)=iX a++iX b:=by simp[iX]
def LJ(ae:List Nat):List (Nat×Option (b7 X)):=ae.map λj=>(j,none)
theorem BU(ae:List Nat):iX (LJ (X:=X) ae)=ae.map λk=>(k,none):=by simp[iX,LJ]
theorem IK{ae:List Nat}{p:Nat×Option (b7 X)}(h:p∈LJ ae):p.1∈ae:=by simp[LJ]at h;obtain⟨j,hj,rfl⟩:=h;exact hj
variable (T:el) (am:TypeId->Option (CT X.ι))
def VC:DV X->Bool
 |.nil=>true
 |_=>false
def DP(op:BinOp)(b:DV X)(yes:Bool)(k:KK X A):Option A:=
 match op with
 |.eql=>bif yes then k b [] [] []else k (.c .bool false) [] [] []
 |.neq=>bif yes then k b [] [] []else k (.c .bool true) [] [] []
 |_=>none
def Tl(op:BinOp)(t:TypeId)(x:DV X)(k:KK X A):Option A:=
 (T t).bind λti=>match ti.k,x with
 |.slice _,.c (.sl _) l=>DP op .ub (List.isEmpty l) k
 |.slice _,.own _ _ len=>DP op .ub (len==0) k
 |.slice _,.oz _ len=>DP op (.c .bool (op==.eql)) (len==0) k
 |.slice _,.nil=>DP op (.c .bool (op==.eql)) true k
 |_,_=>none
def amB(s d:TypeId)(x:DV X)(k:KK X A):Option A:=
 (T s).bind λ_=>(T d).bind λdi=>match di.k,x with
 |.int kd,.c (.int _) n=>k (.c (.int kd) (kd.wrap (iN n))) [] [] []
 |_,_=>none
def ajt(t:TypeId)(x j:DV X)(k:KK X A):Option A:=
 (T t).bind λti=>match ti.k,x,j with
 |.str,.c .str s,.c (.int _) n=>(Qh s n).bind λb=>k (.c (.int .u8) b) [] [] []
 |.arr m e,.agg cs,.c (.int _) q=>(T e).bind λei=>bif cP q m then(Gp ei.agg ei.size ((cs.drop (q.toNat*ei.size)).take ei.size)).bind λv=>k v [] [] []else none
 |_,_,_=>none
def YI(t:TypeId)(x:DV X)(lo hi:Option (DV X))(k:KK X A):Option A:=
 (T t).bind λti=>match ti.k,x with
 |.slice e,.nil=>(T e).bind λ_=>(ym 0 lo).bind λl=>(ym 0 hi).bind λh=>bif decide (l=0)&&decide (h=0)then k .nil [] [] []else none
 |_,_=>none
def Oh(i:Nat)(b:Builtin)(args:List (DV X))(de:List TypeId)(get:Nat->Option (b7 X))(k:KK X A):Option A:=
 match b,args,de with
 |.cap,[.nil],[t]=>(T t).bind λti=>match ti.k with
  |.slice _=>k (.c (.int .i64) (0:Int)) [] [] []
  |_=>none
 |.clear,[.own kk aa _],[t]=>(T t).bind λti=>match ti.k with
  |.slice e=>(T e).bind λei=>(get kk).bind λo=>match o with
   |.ed c l=>if CT.sz X c=ei.size then k (.eV []) [(kk,some (.ed c (l.take aa)))] [kk] [kk]else none
   |_=>none
  |_=>none
 |.append,[.nil,.c (.int _) m],[t,u]=>(T t).bind λti=>(T u).bind λui=>match ti.k,ui.k with
  |.slice e,.int _=>(T e).bind λei=>(am e).bind λc=>if CT.sz X c=ei.size/\0<ei.size then(LA c (ei.zero.map ue)).bind λz=>
   bif ze (iN m) ei.bytes then k (.own (cH i) 0 m.toNat) [(cH i,some (.ed c (List.replicate m.toNat z)))] [] []else none else none
  |_,_=>none
 |_,_,_=>none
def Oi(x:DV X)(k:KK X A):Option A:=
 match x with
 |.ptr kk r f=>k (.ptr kk r f) [] [] []
 |.pN kk n f=>k (.pN kk n f) [] [] []
 |.sX kk r f m n=>k (.sX kk r f m n) [] [] []
 |.rp c y f=>k (.rp c y f) [] [] []
 |_=>none
def T3(i:Nat)(t:TypeId)(l c:DV X)(k:KK X A):Option A:=
 (T t).bind λti=>match ti.k,l,c with
 |.slice e,.c (.int _) n,.c (.int _) m=>(T e).bind λei=>(am e).bind λc=>if CT.sz X c=ei.size/\0<ei.size then(LA c (ei.zero.map ue)).bind λz=>
  bif decide (iN n<=iN m)&&(decide (0<=iN n)&&ze (iN m) ei.bytes)then k (.own (cH i) 0 n.toNat) [(cH i,some (.ed c (List.replicate n.toNat z)))] [] []else none else none
 |_,_,_=>none
def Ut(i:Nat)(t:TypeId)(k:KK X A):Option A:=
 (T t).bind λti=>match ti.k with
 |.map kt et=>(am kt).bind λkc=>(am et).bind λvc=>k (.mp (cH i)) [(cH i,some (.map kc vc []))] [] []
 |_=>none
def WP(t:TypeId)(x key:DV X)(ok:Bool)(get:Nat->Option (b7 X))(k:KK X A):Option A:=
 (T t).bind λti=>match ti.k,x with
 |.map kt et,.mp kk=>(T kt).bind λki=>(T et).bind λei=>(get kk).bind λo=>match o with
  |.map kc vc l=>(LG kc).bind λeq=>(Kc key kc).bind λkv=>if CC ki.k kc=true/\ei.agg=anI vc/\ei.size=CT.sz X vc then(LA vc (ei.zero.map ue)).bind λz=>
   bif ok then k (.eV [.c vc ((gM eq kv l).getD z),.c .bool (gM eq kv l).isSome]) [] [kk] []else k (.c vc ((gM eq kv l).getD z)) [] [kk] []else none
  |_=>none
 |_,_=>none
def WF(t:TypeId)(x key y:DV X)(get:Nat->Option (b7 X))(k:KK X A):Option A:=
 (T t).bind λti=>match ti.k,x with
 |.map kt _,.mp kk=>(T kt).bind λki=>(get kk).bind λo=>match o with
  |.map kc vc l=>(LG kc).bind λeq=>(Kc key kc).bind λkv=>(dat y vc).bind λv=>if CC ki.k kc=true then k .undef [(kk,some (.map kc vc (EX eq kv v l)))] [kk] [kk]else none
  |_=>none
 |_,_=>none
def anJ(o:Op)(ρ:Operand->DV X):Bool:=
 match o with
 |.binOp _ _ _ y _=>VC (ρ y)
 |.convert _ _ _=>true
 |.index _ _ _=>true
 |.nilCheck _=>true
 |.makeSlice _ _ _=>true
 |.makeMap _ none=>true
 |.lookup _ _ _ _=>true
 |.mapUpdate _ _ _ _=>true
 |.slice _ x _ _ none=>VC (ρ x)
 |.call { callee:=.builtin b,args:=args,argTypes:=_ }=>match b,args.toList.map ρ with
  |.cap,_=>true
  |.clear,_=>true
  |.append,[_,.c (.int _) _]=>true
  |_,_=>false
 |_=>false
def Th(i:Nat)(o:Op)(ρ:Operand->DV X)(get:Nat->Option (b7 X))(k:KK X A):Option A:=
 match o with
 |.binOp op t x y _=>if VC (ρ y)then Tl T op t (ρ x) k else none
 |.convert s d x=>amB T s d (ρ x) k
 |.index t x j=>ajt T t (ρ x) (ρ j) k
 |.slice t x lo hi none=>YI T t (ρ x) (lo.map ρ) (hi.map ρ) k
 |.nilCheck x=>Oi (ρ x) k
 |.makeSlice t l c=>T3 T am i t (ρ l) (ρ c) k
 |.makeMap t none=>Ut T am i t k
 |.lookup t m x ok=>WP T t (ρ m) (ρ x) ok get k
 |.mapUpdate t m x v=>WF T t (ρ m) (ρ x) (ρ v) get k
 |.call { callee:=.builtin b,args:=args,argTypes:=de }=>Oh T am i b (args.toList.map ρ) de.toList get k
 |_=>none
def HP(get:Nat->Option (b7 X))(c:CT X.ι)(ρ:Operand->DV X)(x:Operand):DV X:=
 match EO get (ρ x) c with
 |some y=>.c c y.1
 |none=>ρ x
def Kd(get:Nat->Option (b7 X))(c:CT X.ι)(ρ:Operand->DV X):List Operand->List Bool
 |[]=>[]
 |x::xs=>(match EO get (ρ x) c with|some y=>y.2|none=>[])++Kd get c ρ xs
def xz(get:Nat->Option (b7 X))(c:CT X.ι)(ρ:Operand->DV X):List Operand->List Nat
 |[]=>[]
 |x::xs=>(match EO get (ρ x) c with|some _=>bz (ρ x)|none=>[])++xz get c ρ xs
def alq(o:Op)(ρ:Operand->DV X)(get:Nat->Option (b7 X)):Option (CT X.ι):=
 match o with
 |.box t _=>am t
 |.assign x|.move x=>match ρ x with
  |.own kk _ _=>(get kk).bind λo=>match o with
   |.ed c _=>some (.sl c)
   |_=>none
  |_=>none
 |.buildSlice t _ _=>(T t).bind λti=>match ti.k with
  |.slice e=>am e
  |_=>none
 |.store t _ _=>am t
 |_=>none
def anK(o:Op)(ρ:Operand->DV X):Bool:=
 match o with
 |.buildSlice _ _ parts=>!(aN (parts.toList.map λp=>ρ p.2)).isEmpty
 |.store _ a x=>match ρ a with
  |.pN _ _ _=>!(bz (ρ x)).isEmpty
  |_=>false
 |_=>false
def Tb(i:Nat)(o:Op)(ρ:Operand->DV X)(get:Nat->Option (b7 X))(k:KK X A):Option A:=
 if Wc o then none else(alq T am o ρ get).bind λc=>Ue (Kd get c ρ o.operands.toList)
  (IR T am i o (HP get c ρ) (λ j=>if j∈xz get c ρ o.operands.toList then none else get j) λdv upd rd wr=>
   k dv (upd++LJ (xz get c ρ o.operands.toList)) (rd++xz get c ρ o.operands.toList) (wr++xz get c ρ o.operands.toList))
def anL(o:Op)(ρ:Operand->DV X):Bool:=
 match o with
 |.indexAddr t x (.tmp _)=>match ρ x,T t with
  |.ptr _ _ _,some ti|.rp _ _ _,some ti=>match ti.k with
   |.arr _ e=>match T e with
    |some ei=>ei.size==1
    |none=>false
   |_=>false
  |_,_=>false
 |.load _ a=>match ρ a with
  |.sX _ _ _ _ _|.u9 _ _ _ _ _=>true
  |_=>false
 |_=>false
def CA(c:CT X.ι):List (DV X)->Option (List (CT.T X.toSE c))
 |[]=>some []
 |.c a x::r=>(kT a c x).bind λy=>(CA c r).bind λl=>some (y::l)
 |_=>none
def S8(o:Op)(ρ:Operand->DV X)(get:Nat->Option (b7 X))(k:KK X A):Option A:=
 match o with
 |.indexAddr t x j=>(T t).bind λti=>match ti.k,ρ x,ρ j with
  |.arr m e,.ptr kk row aa,.c (.int _) n=>(T e).bind λei=>if ei.size=1 then bif cP n m then k (.sX kk row aa m n) [] [] []else none else none
  |.arr m e,.rp c y aa,.c (.int _) n=>(T e).bind λei=>if ei.size=1 then bif cP n m then k (.u9 c y aa m n) [] [] []else none else none
  |_,_,_=>none
 |.load t a=>(T t).bind λti=>match ρ a with
  |.sX kk row aa m n=>if ti.size=1/\ti.agg=false then(am t).bind λc=>if c.one=true then(get kk).bind λo=>match o with
   |.cells _ rows=>(rows[row]?).bind λq=>(CA c ((q.drop aa).take m)).bind λ(xs:List (CT.T X.toSE c))=>(cd xs n).bind λy=>k (.c c y) [] [kk] []
   |.ed _ _=>none
   |_=>none
   else none else none
  |.u9 b y aa m n=>if ti.size=1/\ti.agg=false then(am t).bind λc=>if c.one=true then(CA c (((uN b y).drop aa).take m)).bind λ(xs:List (CT.T X.toSE c))=>(cd xs n).bind λy=>k (.c c y) [] [] []
   else none else none
  |_=>none
 |_=>none
variable {T am}
def d8(P:Program)(T:el)(i:Nat)(o:Oper)(ρ:Operand->DV X)(get:Nat->Option (b7 X))(k:KK X A)(r:A):Prop:=
 ∃cC rd wr dv upd ab,jJ P T i o cC (λ x=>den (ρ x)) (dG rd (fB get))=some ab/\kg ab.obs/\ab.v=den dv/\ab.upd=iX upd/\(∀ p∈upd,p.1=cH i\/p.1∈wr)/\k dv upd rd wr=some r
section
variable {P:Program} {get:Nat->Option (b7 X)} {k:KK X A} {r:A} {i:Nat} {o:Oper} {ρ:Operand->DV X}
theorem ajw{t:TypeId}{x:AV}{cC:i6}(h:(∃ n,cC=.ext n)\/∃ae fr q,cC=.vq ae fr q):yl T t x .none=yl T t x cC:=by grind [yl]
theorem Uu{t:TypeId}{x j:AV}{cC:i6}{get:Nat->Option aS}(h:(∃ n,cC=.ext n)\/∃ae fr q,cC=.vq ae fr q):lV T t x j .none get=lV T t x j cC get:=by
 unfold lV;rcases T t with _|ti;rfl;simp;generalize ti.k=kk;cases kk<;>try rfl
 case arr m e=>
  cases j<;>try rfl
  rename_i y;cases y<;>try rfl
  rename_i y;cases y<;>rfl
 cases j<;>try rfl
 rename_i e y;cases y<;>try rfl
 rename_i y;cases y<;>try rfl
 simp;rcases T e with _|ei;rfl;rcases h with ⟨n,rfl⟩|⟨ae,fr,q,rfl⟩<;>cases x<;>try rfl
 all_goals (rename_i z;cases z<;>rfl)
theorem acf{t:TypeId}{x y:AV}{cC:i6}{get:Nat->Option aS}(h:(∃ n,cC=.ext n)\/∃ae fr q,cC=.vq ae fr q):zx T i t x y .none get=zx T i t x y cC get:=by grind [zx]
theorem ahM{cC:i6}{ρ:Operand->AV}{get:Nat->Option aS}(h:(∃ n,cC=.ext n)\/∃ae fr q,cC=.vq ae fr q):pV T i o .none ρ get=pV T i o cC ρ get:=by
 obtain⟨dst,op,ty,ao,after,guard⟩:=o;cases op
 case call c=>
  obtain⟨callee,args,de⟩:=c;cases callee<;>try rfl
  simp[pV,BM];split;exact ajw h;rfl;rfl;rw[acf h];rfl
 case slice t x lo hi mx=>cases mx<;>rcases h with ⟨n,rfl⟩|⟨ae,fr,q,rfl⟩<;>rfl
 case makeFunc fn a b=>cases fn<;>rfl
 case indexAddr t x j=>exact Uu h
 all_goals (rcases h with ⟨n,rfl⟩|⟨ae,fr,q,rfl⟩<;>rfl)
theorem d8.ext{n:Int}{rd wr:List Nat}{dv:DV X}{upd:List (Nat×Option (b7 X))}{ab:Out}(h:rJ T i o n (λ x=>den (ρ x)) (dG rd (fB get))=some ab)(h1:kg ab.obs)(h2:ab.v=den dv)(h3:ab.upd=iX upd)(h4:∀p∈upd,p.1=cH i\/p.1∈wr)(h5:k dv upd rd wr=some r)(hx:HU o.op=false:=by rfl):d8 P T i o ρ get k r:=
 ⟨.ext n,rd,wr,dv,upd,ab,by show rM T i o n _ _=some ab;unfold rM;rw[hx];simp[h],h1,h2,h3,h4,h5⟩
theorem d8.ud{n:Int}{rd wr:List Nat}{dv:DV X}{upd:List (Nat×Option (b7 X))}{ab:Out}(h:Dl T i o n (λ x=>den (ρ x)) (dG rd (fB get))=some ab)(h1:kg ab.obs)(h2:ab.v=den dv)(h3:ab.upd=iX upd)(h4:∀p∈upd,p.1=cH i\/p.1∈wr)(h5:k dv upd rd wr=some r)(hx:HU o.op=true:=by rfl):d8 P T i o ρ get k r:=
 ⟨.ext n,rd,wr,dv,upd,ab,by show rM T i o n _ _=some ab;unfold rM;rw[hx];simp[h],h1,h2,h3,h4,h5⟩
theorem Q0{x:DV X}(h:Oi x k=some r):∃dv,NV (den x)=some ⟨den dv,[],[]⟩/\k dv [] [] []=some r:=by cases x<;>simp[Oi]at h<;>first|cases h|exact⟨_,rfl,h⟩
theorem YJ{cC:i6}{ρ:Operand->AV}{get:Nat->Option aS}(hne:∀f args de,o.op≠.call { callee:=.value f,args:=args,argTypes:=de })(ho:∀n,cC≠.ext n)(hf:∀ae fr q,cC≠.vq ae fr q):jJ P T i o cC ρ get=pV T i o cC ρ get:=by
 have e:∀(α:Type) (a:Operand->Array Operand->Array TypeId->α) (b:α),(match o.op with|.call { callee:=.value f,args:=args,argTypes:=de }=>a f args de|_=>b)=b:=by grind
 cases cC<;>first|exact(ho _ rfl).elim|exact(hf _ _ _ rfl).elim|exact e _ _ _
theorem d8.op{cC:i6}{rd wr:List Nat}{dv:DV X}{upd:List (Nat×Option (b7 X))}{ab:Out}(hne:∀f args de,o.op≠.call { callee:=.value f,args:=args,argTypes:=de })
 (h:pV T i o cC (λ x=>den (ρ x)) (dG rd (fB get))=some ab) (h1:kg ab.obs/\ab.v=den dv/\ab.upd=iX upd/\(∀ p∈upd,p.1=cH i\/p.1∈wr)/\k dv upd rd wr=some r):d8 P T i o ρ get k r:=by
 obtain⟨tS,h'⟩:∃tS,jJ P T i o tS (λ x=>den (ρ x)) (dG rd (fB get))=some ab:=by by_cases hx:(∃ n,cC=.ext n)\/∃ae fr q,cC=.vq ae fr q;refine⟨.none,?_⟩;rw[YJ hne (by simp) (by simp),ahM hx,h];simp at hx;exact⟨cC,by rw[YJ hne hx.1 (λ ae fr q=>hx.2 ae fr q),h]⟩
 exact⟨tS,rd,wr,dv,upd,ab,h',h1⟩
theorem d8.call{dst:Option Tmp}{f:Operand}{args:Array Operand}{de:Array TypeId}{ty:TypeId}{ao:String}{after:Array Edge}{guard:Option (Nat×Bool)}{cC:i6}{rd wr:List Nat}{dv:DV X}{upd:List (Nat×Option (b7 X))}{ab:Out}
 (h:lg P i (den (ρ f)) (args.toList.map λx=>den (ρ x)) cC (dG rd (fB get))=some ab) (h1:kg ab.obs/\ab.v=den dv/\ab.upd=iX upd/\(∀ p∈upd,p.1=cH i\/p.1∈wr)/\k dv upd rd wr=some r):
 d8 P T i ⟨dst,.call { callee:=.value f,args:=args,argTypes:=de },ty,ao,after,guard⟩ ρ get k r:=by
 refine⟨cC,rd,wr,dv,upd,ab,?_,h1⟩;unfold jJ
 all_goals grind [lg,qh,zA]
theorem IL{op:BinOp}{b:DV X}{yes:Bool}(h:DP op b yes k=some r):∃dv ab,CL op (den b) yes=some ab/\kg ab.obs/\ab.v=den dv/\ab.upd=[]/\k dv [] [] []=some r:=by
 unfold DP at h;split at h;cases yes with
 |true=>exact⟨b,_,rfl,trivial,rfl,rfl,h⟩
 |false=>exact⟨.c .bool false,_,rfl,trivial,rfl,rfl,h⟩
 cases yes with
 |true=>exact⟨b,_,rfl,trivial,rfl,rfl,h⟩
 |false=>exact⟨.c .bool true,_,rfl,trivial,rfl,rfl,h⟩
 cases h
theorem ae0{op:BinOp}{t:TypeId}{x:DV X}(h:Tl T op t x k=some r):∃dv ab,yf T op t (den x) .cT=some ab/\kg ab.obs/\ab.v=den dv/\ab.upd=[]/\k dv [] [] []=some r:=by unfold Tl at h;rw[ah]at h;obtain⟨ti,h1,h⟩:=h;split at h;rename_i e c l hk;have⟨dv,ab,g1,g2⟩:=IL h;refine⟨dv,ab,?_,g2⟩;simp[yf,h1,hk];rw[<- g1];cases l<;>rfl;rename_i e kk aa len hk;have⟨dv,ab,g1,g2⟩:=IL h;exact⟨dv,ab,by simp[yf,h1,hk];exact g1,g2⟩;rename_i e kk len hk;have⟨dv,ab,g1,g2⟩:=IL h;exact⟨dv,ab,by simp[yf,h1,hk];exact g1,g2⟩;rename_i e hk;have⟨dv,ab,g1,g2⟩:=IL h;exact⟨dv,ab,by simp[yf,h1,hk];exact g1,g2⟩;cases h
theorem ae1{s:ByteArray}{n b:Int}(h:Qh s n=some b):0<=n/\∃c,s[n.toNat]? =some c/\b=c.toNat:=by
 unfold Qh at h
 all_goals grind
theorem YK{m:Int}{bytes:Nat}(h:ze m bytes=true):0<=m/\m.toNat*bytes<=140737488355328/\m.toNat<=maxLen:=by simpa[ze,and_assoc]using h
theorem Q5{b:Builtin}{args:List (DV X)}{de:List TypeId}(h:Oh T am i b args de get k=some r):
 ∃rd wr dv upd ab,uK T i b (bG args) de (dG rd (fB get))=some ab/\kg ab.obs/\ab.v=den dv/\ab.upd=iX upd/\(∀ p∈upd,p.1=cH i\/p.1∈wr)/\k dv upd rd wr=some r:=by unfold Oh at h;split at h;rw[ah]at h;obtain⟨ti,h1,h⟩:=h;split at h;rename_i e hk;refine⟨[],[],_,[],⟨.t (.sc (.int .i64 0)),[],[]⟩,?_,trivial,rfl,rfl,by simp,h⟩;simp[uK,bG,den,h1,hk];rfl;cases h;rename_i kk aa len t;rw[ah]at h;obtain⟨ti,h1,h⟩:=h;split at h;rename_i e hk;rw[ah]at h;obtain⟨ei,h2,h⟩:=h;rw[ah]at h;obtain⟨o,h3,h⟩:=h;split at h;rename_i c l;split at h;rename_i hs;refine⟨[kk],[kk],_,_,⟨.eV [],[(kk,some ⟨CT.sz X c,(aF (l.map (CT.row X.toSE c))).take aa⟩)],[]⟩,?_,trivial,rfl,?_,by simp,h⟩;simp only[uK,bG,den,h1,ai,hk,h2,eU (List.mem_singleton_self kk) h3,bI];rw[bA hs];simp[iX,bI,aF];cases h;cases h;cases h;rename_i kd m t u;rw[ah]at h;obtain⟨ti,h1,h⟩:=h;rw[ah]at h;obtain⟨ui,h2,h⟩:=h;split at h;rename_i e kn hk hk';rw[ah]at h;obtain⟨ei,h3,h⟩:=h;rw[ah]at h;obtain⟨c,h4,h⟩:=h;split at h;rename_i hs;have⟨z,h5,h⟩:=ah.1 h;have⟨h6,h⟩:=dN h;have⟨m1,m2,m3⟩:=YK h6;have hz:=xK h5;rw[BP]at hz;refine⟨[],[],_,_,⟨.own (cH i) 0 m.toNat,[(cH i,some ⟨ei.size,dK (List.replicate m.toNat (ei.zero.map cv))⟩)],[0<=m/\m.toNat*ei.bytes<=140737488355328/\m.toNat<=maxLen/\0<ei.size]⟩,?_,?_,rfl,?_,by simp,h⟩;simp[uK,bG,den,CT.tv,TV.av,h1,h2,h3,hk,hk'];exact⟨m1,m2,m3,hs.2⟩;simp only[iX,bg,map_nil,Option.map_some,bI,hs.1,aF,dK,List.map_replicate];rw[hz];cases h;cases h;cases h
theorem acg{t:TypeId}{l c:DV X}(h:T3 T am i t l c k=some r):∃dv upd ab,In T i t (den l) (den c)=some ab/\kg ab.obs/\ab.v=den dv/\ab.upd=iX upd/\(∀ p∈upd,p.1=cH i)/\k dv upd [] []=some r:=by unfold T3 at h;rw[ah]at h;obtain⟨ti,h1,h⟩:=h;split at h;rename_i e kl n kc m hk;rw[ah]at h;obtain⟨ei,h3,h⟩:=h;rw[ah]at h;obtain⟨c,h4,h⟩:=h;split at h;rename_i hs;rw[ah]at h;obtain⟨z,h5,h⟩:=h;have⟨h6,h⟩:=dN h;simp at h6;obtain⟨h7,h8,h9⟩:=h6;have⟨m1,m2,m3⟩:=YK h9;have hz:=xK h5;rw[BP]at hz;refine⟨_,_,⟨.own (cH i) 0 n.toNat,[(cH i,some ⟨ei.size,dK (List.replicate n.toNat (ei.zero.map cv))⟩)],[0<=n/\n<=m/\m.toNat*ei.bytes<=140737488355328/\m.toNat<=maxLen/\0<ei.size]⟩,?_,?_,rfl,?_,by simp,h⟩;simp[In,den,CT.tv,TV.av,h1,h3,hk];exact⟨h8,h7,m2,m3,hs.2⟩;simp only[iX,bg,map_nil,Option.map_some,bI,hs.1,aF,dK,List.map_replicate];rw[hz];cases h;cases h
theorem Uv{t:TypeId}(h:Ut T am i t k=some r):∃dv upd ab,Gi T i t=some ab/\kg ab.obs/\ab.v=den dv/\ab.upd=iX upd/\(∀ p∈upd,p.1=cH i)/\k dv upd [] []=some r:=by unfold Ut at h;rw[ah]at h;obtain⟨ti,h1,h⟩:=h;split at h;rename_i kt et hk;have⟨kc,h2,h⟩:=ah.1 h;have⟨vc,h3,h⟩:=ah.1 h;exact⟨_,_,⟨.mp (cH i),[(cH i,some ⟨0,[]⟩)],[]⟩,by simp[Gi,h1,hk],trivial,rfl,rfl,by simp,h⟩;cases h
theorem ajx{ki:oT}{kc:CT X.ι}(h:CC ki.k kc=true)(x:CT.T X.toSE kc):∃v,(CT.tv X.toSE kc x).av=.t (.sc v)/\Lh ki.k v=true:=by
 cases kc
 case int b=>
  refine⟨.int b x,rfl,?_⟩;cases hk:ki.k<;>rw[hk]at h<;>simp[CC]at h;subst h;simp[Lh]
 case str=>
  refine⟨.string x,rfl,?_⟩;cases hk:ki.k<;>rw[hk]at h<;>simp[CC]at h;rfl
 case bool=>
  refine⟨.bool x,rfl,?_⟩;cases hk:ki.k<;>rw[hk]at h<;>simp[CC]at h;rfl
 all_goals (cases hk:ki.k<;>rw[hk]at h<;>simp[CC]at h)
theorem ach{kc:CT X.ι}{eq:CT.T X.toSE kc->CT.T X.toSE kc->Bool}(h:LG kc=some eq){a b:CT.T X.toSE kc}{va:Value}(ha:(CT.tv X.toSE kc a).av=.t (.sc va)):∃vb,(CT.tv X.toSE kc b).av=.t (.sc vb)/\PY va vb=some (eq a b):=by
 cases kc
 case int q=>
  simp[LG]at h;subst h;simp[CT.tv,TV.av]at ha;subst ha;exact⟨_,rfl,by simp[PY,iEq]⟩
 case str=>
  simp[LG]at h;subst h;simp[CT.tv,TV.av]at ha;subst ha;exact⟨_,rfl,by simp[PY,ff]⟩
 case bool=>
  simp[LG]at h;subst h;simp[CT.tv,TV.av]at ha;subst ha;exact⟨_,rfl,by simp[PY,bEq]⟩
 all_goals simp[LG]at h
theorem YL{kc vc:CT X.ι}{eq:CT.T X.toSE kc->CT.T X.toSE kc->Bool}(h:LG kc=some eq){a:CT.T X.toSE kc}{va:Value}(ha:(CT.tv X.toSE kc a).av=.t (.sc va)):∀l:List (CT.T X.toSE kc×CT.T X.toSE vc),
 ∃r,PZ va (bI (.map kc vc l:b7 X)).rows=some r/\r.map (·.2)=(gM eq a l).map λv=>(CT.tv X.toSE vc v).av
 |[]=>⟨none,rfl,rfl⟩
 |p::l=>by
  have⟨vb,h1,h2⟩:=ach h (b:=p.1) ha;have⟨r,g1,g2⟩:=YL h ha l;have g1':PZ va (l.map λp=>[(CT.tv X.toSE kc p.1).av,(CT.tv X.toSE vc p.2).av])=some r:=g1;simp[bI,h1,PZ,h2,gM];cases eq a p.1 with
  |true=>exact⟨_,rfl,rfl⟩
  |false=>
   simp only[Bool.false_eq_true,if_false,g1',Option.map_some,ax];exact⟨_,rfl,by rw[<- g2,Option.map_map];rfl⟩
theorem aci{kc vc:CT X.ι}{eq:CT.T X.toSE kc->CT.T X.toSE kc->Bool}(h:LG kc=some eq){a:CT.T X.toSE kc}{va:Value}(ha:(CT.tv X.toSE kc a).av=.t (.sc va))(y:CT.T X.toSE vc):∀l:List (CT.T X.toSE kc×CT.T X.toSE vc),
 ZW va (CT.tv X.toSE vc y).av (bI (.map kc vc l:b7 X)).rows=some (bI (.map kc vc (EX eq a y l):b7 X)).rows
 |[]=>by simp[bI,ZW,EX,ha]
 |p::l=>by
  have⟨vb,h1,h2⟩:=ach h (b:=p.1) ha;have g:=aci h ha y l;have g':ZW va (CT.tv X.toSE vc y).av (l.map λp=>[(CT.tv X.toSE kc p.1).av,(CT.tv X.toSE vc p.2).av])=some ((EX eq a y l).map λp=>[(CT.tv X.toSE kc p.1).av,(CT.tv X.toSE vc p.2).av]):=g;simp[bI,h1,ZW,EX]
  grind
theorem zero_den{vc:CT X.ι}{ei:oT}{z:CT.T X.toSE vc}(h:LA vc (ei.zero.map ue)=some z)(ha:ei.agg=anI vc)(hs:ei.size=CT.sz X vc):part' ei.agg ei.size ((ei.zero.map cv).map wk)=some (CT.tv X.toSE vc z).av:=by
 have hz:=xK h;rw[BP]at hz;rw[hz,ha,hs];have hl:((CT.row X.toSE vc z).map AV.t).length=CT.sz X vc:=by rw[length_map,Gn]
 unfold part';rw[bA hl];cases vc<;>rfl
theorem alr{d:DV X}{c:CT X.ι}{x:CT.T X.toSE c}(h:dat d c=some x):C6 (den d)=(CT.tv X.toSE c x).av:=by
 cases c
 case st j=>
  replace h:CE d j=some x:=h
  cases d
  case agg cs=>
   simp[CE]at h;rw[ah]at h;obtain⟨g,h1,h⟩:=h;cases h;simp[den,C6,(yc h1 (X.flat j)).1];rw[<- Uj];rfl
  case c a y=>
   rw[(nW h).1];simp only[den,CT.tv,TV.av,C6,map_map];congr 1
  all_goals cases h
 all_goals
  (have h':=h
   have hd:=vG h';cases d
   case c a y=>
    obtain⟨e,_⟩:=qN (show kT a _ y=some x from h);subst e;exact hd
   all_goals first|exact hd|(cases h))
theorem Xw{t:TypeId}{x key:DV X}{ok:Bool}(h:WP T t x key ok get k=some r):∃rd dv ab,IG T t (den x) (den key) ok (dG rd (fB get))=some ab/\kg ab.obs/\ab.v=den dv/\ab.upd=[]/\k dv [] rd []=some r:=by
 unfold WP at h;rw[ah]at h;obtain⟨ti,h1,h⟩:=h;split at h
 ·rename_i kt et kk hk;rw[ah]at h;obtain⟨ki,h2,h⟩:=h;rw[ah]at h;obtain⟨ei,h3,h⟩:=h;rw[ah]at h;obtain⟨o,h4,h⟩:=h;split at h
  ·rename_i kc vc l;rw[ah]at h;obtain⟨eq,h5,h⟩:=h;rw[ah]at h;obtain⟨kv,h6,h⟩:=h;split at h
   ·rename_i hc;have⟨z,h7,h⟩:=ah.1 h;have⟨va,g1,g2⟩:=ajx hc.1 kv;have⟨q,g3,g4⟩:=YL (vc:=vc) h5 g1 l;have hkey:den key=.t (.sc va):=(by have:=vG h6;rw[g1]at this;cases hd:den key<;>rw[hd]at this<;>simp only[wk,AV.t.injEq,reduceCtorEq]at this;subst this;rfl);have hv:∀q:Option (Nat×AV),q.map (·.2)=(gM eq kv l).map (λ v=>(CT.tv X.toSE vc v).av)->FF q (part' ei.agg ei.size ((ei.zero.map cv).map wk))=some (CT.tv X.toSE vc ((gM eq kv l).getD z)).av:=by
     intro q g;cases hm:gM eq kv l with
     |none=>
      rw[hm]at g;cases q with
      |none=>exact zero_den h7 hc.2.1 hc.2.2
      |some p=>simp at g
     |some v=>
      rw[hm]at g;cases q with
      |none=>simp at g
      |some p=>simp only[Option.map_some,bP]at g;simp only[FF,g,Option.getD_some]
    have hi:q.isSome=(gM eq kv l).isSome:=(by have:=congrArg Option.isSome g4;simpa using this);have hb:IG T t (den (.mp kk:DV X)) (den key) ok (dG [kk] (fB get))=pv (if ok then .eV [den (.c vc ((gM eq kv l).getD z):DV X),.t (.sc (.bool q.isSome))]else den (.c vc ((gM eq kv l).getD z):DV X)):=(by simp only[IG,h1,ai,hk,den,hkey,h2,h3,eU (List.mem_singleton_self kk) h4];rw[bA ⟨g2,by simp[bI]⟩,g3,ai,hv q g4,ai]);cases ok with
    |true=>exact⟨[kk],_,_,hb,trivial,by simp only[if_true,den,bG,hi];rfl,rfl,h⟩
    |false=>exact⟨[kk],_,_,hb,trivial,rfl,rfl,h⟩
   ·cases h
  ·cases h
 ·cases h
theorem Xx{t:TypeId}{x key y:DV X}(h:WF T t x key y get k=some r):∃rd wr dv upd ab,Li T t (den x) (den key) (den y) (dG rd (fB get))=some ab/\kg ab.obs/\ab.v=den dv/\ab.upd=iX upd/\(∀ p∈upd,p.1∈wr)/\k dv upd rd wr=some r:=by
 unfold WF at h;rw[ah]at h;obtain⟨ti,h1,h⟩:=h;split at h
 ·rename_i kt et kk hk;rw[ah]at h;obtain⟨ki,h2,h⟩:=h;rw[ah]at h;obtain⟨o,h4,h⟩:=h;split at h
  ·rename_i kc vc l;rw[ah]at h;obtain⟨eq,h5,h⟩:=h;rw[ah]at h;obtain⟨kv,h6,h⟩:=h;rw[ah]at h;obtain⟨v,h7,h⟩:=h;split at h
   ·rename_i hc;have⟨va,g1,g2⟩:=ajx hc kv;have g3:=aci (vc:=vc) h5 g1 v l;have hkey:den key=.t (.sc va):=(by have:=vG h6;rw[g1]at this;cases hd:den key<;>rw[hd]at this<;>simp only[wk,AV.t.injEq,reduceCtorEq]at this;subst this;rfl);refine⟨[kk],[kk],_,_,⟨.undef,[(kk,some ⟨(bI (.map kc vc (EX eq kv v l):b7 X)).rows.length,(bI (.map kc vc (EX eq kv v l):b7 X)).rows⟩)],[]⟩,?_,trivial,rfl,?_,by simp,h⟩
    ·simp only[Li,h1,ai,hk,den,hkey,h2,eU (List.mem_singleton_self kk) h4];rw[bA ⟨g2,by simp[bI]⟩,alr h7,g3];rfl
    ·simp[iX,bI]
   ·cases h
  ·cases h
 ·cases h
theorem ae2(h:Th T am i o.op ρ get k=some r):d8 P T i o ρ get k r:=by
 obtain⟨dst,op,ty,ao,after,guard⟩:=o;unfold Th at h;simp only at h;split at h
 ·rename_i op t x y q;split at h
  ·rename_i hn;have⟨dv,ab,g1,g2,g3,g4,g5⟩:=ae0 h;have hy:den (ρ y)=.cT:=(by cases hρ:ρ y<;>rw[hρ]at hn<;>first|rfl|cases hn);exact d8.ext (n:=0) (rd:=[]) (wr:=[]) (upd:=[]) (by simp only[rJ,hy];exact g1) g2 g3 g4 (by simp) g5
  ·cases h
 ·rename_i s d x;unfold amB at h;rw[ah]at h;obtain⟨si,h1,h⟩:=h;rw[ah]at h;obtain⟨di,h2,h⟩:=h;split at h
  ·rename_i kd k' n hk hx;refine d8.ext (n:=0) (rd:=[]) (wr:=[]) (upd:=[]) (ab:=⟨.t (.sc (.int kd (kd.wrap n))),[],[]⟩) ?_ trivial rfl rfl (by simp) h;simp only[rJ,L3,h1,h2,ai,hk,hx];rfl
  ·cases h
 ·rename_i t x j;unfold ajt at h;rw[ah]at h;obtain⟨ti,h1,h⟩:=h;split at h
  ·rename_i s kk n hk hx hj;rw[ah]at h;obtain⟨b,h2,h⟩:=h;refine d8.ext (n:=b) (rd:=[]) (wr:=[]) (upd:=[]) (ab:=⟨.t (.sc (.int .u8 b)),[],[0<=n/\∃c,s[n.toNat]? =some c/\b=c.toNat]⟩) ?_ (ae1 h2) rfl rfl (by simp) h;simp only[rJ,Tw,h1,ai,hk,hx,hj];rfl
  ·rename_i m e cs kd q hk hx hj;rw[ah]at h;obtain⟨ei,h2,h⟩:=h;have⟨h3,h⟩:=dN h;rw[ah]at h;obtain⟨v,h4,h⟩:=h;simp only[cP,bq,bM]at h3;refine d8.ext (n:=0) (rd:=[]) (wr:=[]) (upd:=[]) (ab:=⟨den v,[],[0<=q/\q<(m:Int)]⟩) ?_ h3 rfl rfl (by simp) h;have h5:=BQ h4;rw[ko]at h5;simp only[rJ,Tw,h1,ai,hk,hx,hj,h2,den,CT.tv,TV.av,h5];rfl
  ·cases h
 ·rename_i t x lo hi;unfold YI at h;rw[ah]at h;obtain⟨ti,h1,h⟩:=h;split at h
  ·rename_i e hk hx;rw[ah]at h;obtain⟨ei,h2,h⟩:=h;rw[ah]at h;obtain⟨l,h3,h⟩:=h;rw[ah]at h;obtain⟨hh,h4,h⟩:=h;have⟨h5,h⟩:=dN h;refine d8.ext (n:=0) (rd:=[]) (wr:=[]) (upd:=[]) (ab:=⟨.cT,[],[l=0/\hh=0]⟩) ?_ (show l=0/\hh=0 by simpa using h5) rfl rfl (by simp) h;have e1:=BR h3;have e2:=BR h4;rw[Option.map_map]at e1 e2;simp only[rJ,IE,h1,ai,hk,hx,h2,den];have Jx:bnd 0 (lo.map λx=>den (ρ x))=some l:=e1;have e2':bnd 0 (hi.map λx=>den (ρ x))=some hh:=e2;rw[Jx,ai,e2'];rfl
  ·cases h
 ·rename_i x;have⟨dv,g1,g2⟩:=Q0 h;exact d8.ud (n:=0) (rd:=[]) (wr:=[]) (upd:=[]) g1 trivial rfl rfl (by simp) g2
 ·rename_i t l c;have⟨dv,upd,ab,g1,g2,g3,g4,g5,g6⟩:=acg h;exact d8.ud (n:=0) (rd:=[]) (wr:=[]) (upd:=upd) g1 g2 g3 g4 (λ p hp=>.inl (g5 p hp)) g6
 ·rename_i t;have⟨dv,upd,ab,g1,g2,g3,g4,g5,g6⟩:=Uv h;exact d8.ud (n:=0) (rd:=[]) (wr:=[]) (upd:=upd) g1 g2 g3 g4 (λ p hp=>.inl (g5 p hp)) g6
 ·rename_i t m x ok;have⟨rd,dv,ab,g1,g2,g3,g4,g6⟩:=Xw h;exact d8.ud (n:=0) (rd:=rd) (wr:=[]) (upd:=[]) g1 g2 g3 g4 (by simp) g6
 ·rename_i t m x v;have⟨rd,wr,dv,upd,ab,g1,g2,g3,g4,g5,g6⟩:=Xx h;exact d8.ud (n:=0) (rd:=rd) (wr:=wr) (upd:=upd) g1 g2 g3 g4 (λ p hp=>.inr (g5 p hp)) g6
 ·rename_i b args de;have⟨rd,wr,dv,upd,ab,g1,g2,g3,g4,g5,g6⟩:=Q5 h;refine d8.ext (n:=0) (rd:=rd) (wr:=wr) (upd:=upd) ?_ g2 g3 g4 g5 g6;simp only[rJ,Sm];exact g1
 ·cases h
theorem acj{c:CT X.ι}:∀{xs:List Operand}{x:Operand}{y:CT.T X.toSE c×List Bool},x∈xs->EO get (ρ x) c=some y->∀j∈bz (ρ x),j∈xz get c ρ xs
 |z::xs,x,y,hx,h,j,hj=>by simp[xz];rcases aP.1 hx with rfl|hx;left;rw[h];exact hj;exact .inr (acj hx h j hj)
 |[],_,_,hx,_,_,_=>by simp at hx
theorem ack{c:CT X.ι}:∀{xs:List Operand}{x:Operand}{y:CT.T X.toSE c×List Bool},x∈xs->EO get (ρ x) c=some y->∀b∈y.2,b∈Kd get c ρ xs
 |z::xs,x,y,hx,h,b,hb=>by simp[Kd];rcases aP.1 hx with rfl|hx;left;rw[h];exact hb;exact .inr (ack hx h b hb)
 |[],_,_,hx,_,_,_=>by simp at hx
theorem ae3(h:Tb T am i o.op ρ get k=some r):d8 P T i o ρ get k r:=by
 unfold Tb at h;split at h;cases h;rename_i hpick;have⟨c,h1,h⟩:=ah.1 h;have⟨hcs,h⟩:=pq h;have⟨cC,rd,wr,dv,upd,ab,g1,g2,g3,g4,g5,g6⟩:=YF h;generalize kh:xz get c ρ o.op.operands.toList=ae at*;refine⟨.vq ae (λ x=>den (HP get c ρ x)) cC,rd++ae,wr++ae,dv,upd++LJ ae,⟨ab.v,ab.upd++ae.map (λ k=>(k,none)),ab.obs++[∀ x∈o.op.operands,(fS P (dG (rd++ae) (fB get)) (den (ρ x)) (den (HP get c ρ x))/\∀k∈refs (den (ρ x)),k∈ae)\/den (HP get c ρ x)=den (ρ x)]⟩,?_,?_,g3,?_,?_,g6⟩;unfold jJ Gh;simp only;rw[bn hpick];have e:(λ k=>if k∈ae then none else dG (rd++ae) (fB get) k)=dG rd (fB λj=>if j∈ae then none else get j):=by funext j;simp[dG,fB];by_cases hj:j∈ae;simp[hj];simp[hj]
 rw[e,g1];rfl;refine qy _ λp hp=>?_;rcases bO.1 hp with hp|hp;exact qg _ g2 p hp;rw[aZ]at hp;subst hp;intro x hx;unfold HP;rcases hl:EO get (ρ x) c with _|y;exact .inr rfl;left;have hx':x∈o.op.operands.toList:=by simpa using hx
 have hin:=λj hj=>kh ▸ acj hx' hl j hj;obtain⟨hs,obs,p1,p2⟩:=zG (P:=P) (rd:=rd++ae) hl (λ b hb=>hcs b (ack hx' hl b hb)) (λ j hj=>mem_append_right _ (hin j hj));refine⟨?_,λj hj=>hin j (by rwa [iY]at hj)⟩;have:=p2 [];exact Dj _ _ _ this p1;simp[qY,BU,g4];intro p hp;rcases bO.1 hp with hp|hp;exact(g5 p hp).imp id (λ h=>mem_append_left _ h);exact .inr (mem_append_right _ (IK hp))
theorem Uw{c:CT X.ι}:∀{ds:List (DV X)}{xs:List (CT.T X.toSE c)},CA c ds=some xs->bG ds=xs.map λy=>den (.c c y:DV X)
 |[],xs,h=>by simp[CA]at h;subst h;rfl
 |.c a x::ds,xs,h=>by simp[CA]at h;rw[ah]at h;obtain⟨y,h1,h⟩:=h;rw[ah]at h;obtain⟨l,h2,h⟩:=h;cases h;simp[bG,Uw h2,(nW h1).1]
 |.agg _::_,_,h|.eV _::_,_,h|.own _ _ _::_,_,h|.ptr _ _ _::_,_,h|.pN _ _ _::_,_,h|.mp _::_,_,h|.sX _ _ _ _ _::_,_,h|.rp _ _ _::_,_,h|.u9 _ _ _ _ _::_,_,h|.fn _ _ _::_,_,h|.ea _ _ _::_,_,h|.raw _::_,_,h|.nil::_,_,h|.ub::_,_,h|.skip::_,_,h|.undef::_,_,h=>by simp[CA]at h
theorem ae4(h:S8 T am o.op ρ get k=some r):d8 P T i o ρ get k r:=by
 obtain⟨dst,op,ty,ao,after,guard⟩:=o;unfold S8 at h;simp only at h;split at h
 ·rename_i t x j;rw[ah]at h;obtain⟨ti,h1,h⟩:=h;split at h
  ·rename_i m e kk row aa kd n hk hx hj;rw[ah]at h;obtain⟨ei,h2,h⟩:=h;split at h
   ·rename_i hs;have⟨h3,h⟩:=dN h;refine d8.op (cC:=.none) (rd:=[]) (wr:=[]) (upd:=[]) (λ _ _ _ e=>by cases e) (ab:=⟨.ptr kk row (aa+n.toNat*1),[],[0<=n/\n.toNat<m]⟩) ?_ ⟨?_,?_,rfl,by simp,h⟩
    ·simp only[pV,lV,h1,ai,hk,hx,hj,den,CT.tv,TV.av,h2,hs];rfl
    ·simp only[cP,bq,bM]at h3;exact⟨h3.1,by omega⟩
    ·simp only[den,Nat.mul_one]
   ·cases h
  ·rename_i m e c y aa kd n hk hx hj;rw[ah]at h;obtain⟨ei,h2,h⟩:=h;split at h
   ·rename_i hs;have⟨h3,h⟩:=dN h;refine d8.op (cC:=.none) (rd:=[]) (wr:=[]) (upd:=[]) (λ _ _ _ e=>by cases e) (ab:=⟨.en (CT.row X.toSE c y) (aa+n.toNat*1),[],[0<=n/\n.toNat<m]⟩) ?_ ⟨?_,?_,rfl,by simp,h⟩
    ·simp only[pV,lV,h1,ai,hk,hx,hj,den,CT.tv,TV.av,h2,hs];rfl
    ·simp only[cP,bq,bM]at h3;exact⟨h3.1,by omega⟩
    ·simp only[den,Nat.mul_one]
   ·cases h
  ·cases h
 ·rename_i t a;rw[ah]at h;obtain⟨ti,h1,h⟩:=h;split at h
  ·rename_i kk row aa m n hx;split at h
   ·rename_i hs;rw[ah]at h;obtain⟨c,h2,h⟩:=h;split at h
    ·rename_i hc;rw[ah]at h;obtain⟨ob,h3,h⟩:=h;split at h
     ·rename_i sz rows;have⟨q,h4,h⟩:=ah.1 h;have⟨xs,h5,h⟩:=ah.1 h;have⟨y,h6,h⟩:=ah.1 h;have⟨_,h7⟩:=LB h6;have h8:=Uw h5;have h9:((bG q).drop (aa+n.toNat)).take 1=[den (.c c y:DV X)]:=by
       have e1:(bG ((q.drop aa).take m))[n.toNat]? =some (den (.c c y:DV X)):=(by rw[h8,List.getElem?_map,h7];rfl);rw[ko,List.getElem?_take]at e1;split at e1
       ·rw[List.getElem?_drop]at e1;have⟨g1,g2⟩:=cB.1 e1;rw[List.drop_eq_getElem_cons g1,List.take_succ_cons,List.take_zero,g2]
       ·cases e1
      refine d8.op (cC:=.none) (rd:=[kk]) (wr:=[]) (upd:=[]) (λ _ _ _ e=>by cases e) (ab:=⟨den (.c c y:DV X),[],[]⟩) ?_ ⟨trivial,rfl,rfl,by simp,h⟩;simp only[pV,JG,h1,ai,hx,den,eU (List.mem_singleton_self kk) h3,bI,List.getElem?_map,h4,Option.map_some,hs.1,hs.2];rw[h9];obtain⟨t',g1,g2⟩:=row_one hc y;simp only[den,g2,TV.av];rfl
     ·cases h
     ·cases h
    ·cases h
   ·cases h
  ·rename_i b y0 aa m n hx;split at h
   ·rename_i hs;rw[ah]at h;obtain⟨c,h2,h⟩:=h;split at h
    ·rename_i hc;have⟨xs,h5,h⟩:=ah.1 h;have⟨y,h6,h⟩:=ah.1 h;have⟨_,h7⟩:=LB h6;have h8:=Uw h5;have h9:(((CT.row X.toSE b y0).drop (aa+n.toNat)).take 1).map AV.t=[den (.c c y:DV X)]:=by
      have e1:(bG (((uN b y0).drop aa).take m))[n.toNat]? =some (den (.c c y:DV X)):=(by rw[h8,List.getElem?_map,h7];rfl);rw[ko,oJ,List.getElem?_take]at e1;split at e1
      ·rw[List.getElem?_drop]at e1;have⟨g1,g2⟩:=cB.1 e1;rw[map_take,map_drop,List.drop_eq_getElem_cons g1,List.take_succ_cons,List.take_zero,g2]
      ·cases e1
     refine d8.op (cC:=.none) (rd:=[]) (wr:=[]) (upd:=[]) (λ _ _ _ e=>by cases e) (ab:=⟨den (.c c y:DV X),[],[]⟩) ?_ ⟨trivial,rfl,rfl,by simp,h⟩;simp only[pV,JG,h1,ai,hx,den,hs.1,hs.2];rw[h9];obtain⟨t',g1,g2⟩:=row_one hc y;simp only[den,g2,TV.av];rfl
    ·cases h
   ·cases h
  ·cases h
 ·cases h
end
end
section
variable {X:SX}
structure MA(X:SX) where
 nm:List (Nat×Nat)
 eo:List (DC X)
 iS:List Bool
def addN(m:MA X)(k' k:Nat):MA X:=if m.nm.contains (k',k)then m else⟨m.nm++[(k',k)],m.eo,m.iS⟩
section
variable (get:Nat->Option (b7 X))
mutual
def mP:Pt X.ι->DV X->MA X->Option (MA X)
 |.v c,d,m=>(dat d c).bind λx=>some ⟨m.nm,m.eo++[⟨c,x⟩],m.iS⟩
 |.o k,d,m=>match d with
  |.own k' 0 len=>(get k').bind λo=>match o with
   |.ed _ l=>some (addN ⟨m.nm,m.eo,m.iS++[be len l.length]⟩ k' k)
   |_=>none
  |_=>none
 |.oz k,d,m=>match d with
  |.own k' 0 len=>(get k').bind λo=>match o with
   |.ed _ l=>some (addN ⟨m.nm,m.eo,m.iS++[!(len==0)&&be len l.length]⟩ k' k)
   |_=>none
  |.oz k' len=>(get k').bind λo=>match o with
   |.ed _ l=>some (addN ⟨m.nm,m.eo,m.iS++[be len l.length]⟩ k' k)
   |_=>none
  |_=>none
 |.p k,d,m=>match d with
  |.ptr k' 0 0=>some (addN m k' k)
  |_=>none
 |.mp k,d,m=>match d with
  |.mp k'=>some (addN m k' k)
  |_=>none
 |.nil,d,m=>match d with
  |.nil=>some m
  |_=>none
 |.f F fs cs,d,m=>match d with
  |.fn F' first caps=>if F=F' then(sY fs first m).bind λm=>sY cs caps m else none
  |_=>none
 |.od k,d,m=>match d with
  |.own k' aa len=>(get k').bind λo=>match o with
   |.ed _ l=>some (addN ⟨m.nm,m.eo++[⟨.int .i64,(aa:Int)⟩],m.iS++[be (aa+len) l.length]⟩ k' k)
   |_=>none
  |_=>none
 |.a ps,d,m=>match d with
  |.agg ds=>sY ps ds m
  |_=>none
def sY:List (Pt X.ι)->List (DV X)->MA X->Option (MA X)
 |[],[],m=>some m
 |p::ps,d::ds,m=>(mP p d m).bind λm=>sY ps ds m
 |_,_,_=>none
end
def Gv(env:Nat->DV X):List (Nat×Pt X.ι)->MA X->Option (MA X)
 |[],m=>some m
 |(t,p)::r,m=>(mP get p (env t) m).bind λm=>Gv env r m
def JO:List (List (Pt X.ι))->List (List (DV X))->MA X->Option (MA X)
 |[],[],m=>some m
 |r::rs,q::qs,m=>(sY get r q m).bind λm=>JO rs qs m
 |_,_,_=>none
def nameOf(m:MA X)(k:Nat):Nat:=match m.nm.find? (λ q=>q.2==k)with|some q=>q.1|none=>k
def BV:List (Nat×OP X.ι)->MA X->Option (MA X)
 |[],m=>some m
 |(k,op)::r,m=>(get (nameOf m k)).bind λo=>match op,o with
  |.l c,.ed c' l=>(kT (.sl c') (.sl c) l).bind λl'=>BV r (addN ⟨m.nm,m.eo++[⟨.sl c,l'⟩],m.iS⟩ (nameOf m k) k)
  |.m kc vc,.map tm tf l=>(kT (.mp tm tf) (.mp kc vc) l).bind λl'=>BV r (addN ⟨m.nm,m.eo++[⟨.mp kc vc,l'⟩],m.iS⟩ (nameOf m k) k)
  |.c sz rows,.cells sz' rows'=>if sz=sz' then(JO get rows rows' (addN m (nameOf m k) k)).bind λm=>BV r m else none
  |_,_=>none
end
end
section
variable {X:SX} {A:Type}
mutual
def qv(f:Nat->Nat):DV X->DV X
 |.own k aa len=>.own (f k) aa len
 |.ptr k row aa=>.ptr (f k) row aa
 |.pN k n aa=>.pN (f k) n aa
 |.sX k row aa m n=>.sX (f k) row aa m n
 |.mp k=>.mp (f k)
 |.oz k len=>.oz (f k) len
 |.agg cs=>.agg (Ki f cs)
 |.eV cs=>.eV (Ki f cs)
 |.fn F first caps=>.fn F (Ki f first) (Ki f caps)
 |x=>x
def Ki(f:Nat->Nat):List (DV X)->List (DV X)
 |[]=>[]
 |x::xs=>qv f x::Ki f xs
end
theorem Wg(f:Nat->Nat):∀l:List Tree,Am f (l.map AV.t)=l.map AV.t
 |[]=>rfl
 |x::xs=>by simp[Am,js,Wg f xs]
mutual
theorem zH(f:Nat->Nat):∀x:DV X,den (qv f x)=js f (den x)
 |.own _ _ _|.ptr _ _ _|.pN _ _ _|.mp _|.oz _ _|.sX _ _ _ _ _=>rfl
 |.agg cs|.eV cs=>by simp[qv,den,js,Gw f cs]
 |.fn F first caps=>by simp[qv,den,js,Gw f first,Gw f caps]
 |.c t x=>by
  simp[qv,den];cases t<;>try rfl
  simp[CT.tv,TV.av,js,Wg]
 |.rp _ _ _|.u9 _ _ _ _ _|.ea _ _ _=>rfl
 |.raw v=>by simp[qv,den,cv];split;rfl;split<;>rfl
 |.nil|.ub|.skip|.undef=>rfl
theorem Gw(f:Nat->Nat):∀l:List (DV X),bG (Ki f l)=Am f (bG l)
 |[]=>rfl
 |x::xs=>by simp[Ki,bG,Am,zH f x,Gw f xs]
end
def pg(f:Nat->Nat):b7 X->b7 X
 |.cells sz rows=>.cells sz (rows.map (Ki f))
 |o=>o
def d7:b7 X->List Nat
 |.cells _ rows=>(rows.map aN).flatten
 |.ed _ _=>[]
 |.map _ _ _=>[]
def LN:CT X.ι->Bool
 |.int _|.bool|.str=>true
 |_=>false
def wO:CT X.ι->Bool
 |.st i=>(X.de i).all LN
 |c=>LN c
theorem Du{c:CT X.ι}(h:LN c=true)(x:CT.T X.toSE c):∀t∈CT.row X.toSE c x,t.flat:=by cases c<;>first|(intro t ht;simp[CT.row]at ht;subst ht;exact trivial)|cases h
theorem agV:∀(l:List (CT X.ι))(h:HL X.toSE l),l.all LN=true->∀t∈HL.row X.toSE l h,t.flat
 |[],_,_,t,ht=>by simp[HL.row]at ht
 |c::l,h,ha,t,ht=>by simp only[all_cons,bq]at ha;rcases bO.1 (show t∈CT.row X.toSE c h.1++HL.row X.toSE l h.2 from ht)with ht|ht;exact Du ha.1 h.1 t ht;exact agV l h.2 ha.2 t ht
theorem uO{c:CT X.ι}(h:wO c=true)(x:CT.T X.toSE c):∀t∈CT.row X.toSE c x,t.flat:=by
 cases c
 case st i=>intro t ht;exact agV (X.de i) (X.get i x) h t ((X.nj i x) ▸ ht)
 case int k=>exact Du (c:=.int k) h x
 case bool=>exact Du (c:=.bool) h x
 case str=>exact Du (c:=.str) h x
 case sl e=>cases h
 case any=>cases h
 case mp=>cases h
structure MG(X:SX) where
 nm:List (Nat×Nat)
 eo:List (DC X)
 iS:List Bool
 vr:List Nat
section
variable (get:Nat->Option (b7 X))
mutual
def pm:Pt X.ι->DV X->MG X->Option (MG X)
 |.v c,d,m=>(EO get d c).bind λx=>some ⟨m.nm,m.eo++[⟨c,x.1⟩],m.iS++x.2,m.vr++bz d⟩
 |.o k,d,m=>match d with
  |.own k' 0 len=>(get k').bind λo=>match o with
   |.ed _ l=>some ⟨m.nm++[(k',k)],m.eo,m.iS++[be len l.length],m.vr⟩
   |_=>none
  |_=>none
 |.od k,d,m=>match d with
  |.own k' aa len=>(get k').bind λo=>match o with
   |.ed _ l=>some ⟨m.nm++[(k',k)],m.eo++[⟨.int .i64,(aa:Int)⟩],m.iS++[be (aa+len) l.length],m.vr⟩
   |_=>none
  |_=>none
 |.p k,d,m=>match d with
  |.ptr k' 0 0=>some ⟨m.nm++[(k',k)],m.eo,m.iS,m.vr⟩
  |_=>none
 |.nil,d,m=>match d with
  |.nil=>some m
  |_=>none
 |.f F fs cs,d,m=>match d with
  |.fn F' first caps=>if F=F' then(rx fs first m).bind λm=>rx cs caps m else none
  |_=>none
 |.mp k,d,m=>match d with
  |.mp k'=>some ⟨m.nm++[(k',k)],m.eo,m.iS,m.vr⟩
  |_=>none
 |.oz _,_,_=>none
 |.a ps,d,m=>match d with
  |.agg ds=>rx ps ds m
  |_=>none
def rx:List (Pt X.ι)->List (DV X)->MG X->Option (MG X)
 |[],[],m=>some m
 |p::ps,d::ds,m=>(pm p d m).bind λm=>rx ps ds m
 |_,_,_=>none
end
def JP:List (List (Pt X.ι))->List (List (DV X))->MG X->Option (MG X)
 |[],[],m=>some m
 |r::rs,q::qs,m=>(rx get r q m).bind λm=>JP rs qs m
 |_,_,_=>none
def pP(m:MG X)(k:Nat):Nat:=match m.nm.find? (λ q=>q.2==k)with|some q=>q.1|none=>k
def stC:CT X.ι->Bool
 |.st _=>true
 |_=>false
def BX:List (Nat×OP X.ι)->MG X->Option (MG X)
 |[],m=>some m
 |(k,op)::r,m=>(get (pP m k)).bind λo=>match op,o with
  |.l c,.ed c' l=>(kT (.sl c') (.sl c) l).bind λl'=>BX r ⟨m.nm++[(pP m k,k)],m.eo++[⟨.sl c,l'⟩],m.iS,m.vr⟩
  |.m kc vc,.map tm tf l=>if (kc.one=true/\vc.one=true)\/stC kc=true then(kT (.mp tm tf) (.mp kc vc) l).bind λl'=>BX r ⟨m.nm++[(pP m k,k)],m.eo++[⟨.mp kc vc,l'⟩],m.iS,m.vr⟩else none
  |.c sz rows,.cells sz' rows'=>if sz=sz' then(JP get rows rows' ⟨m.nm++[(pP m k,k)],m.eo,m.iS,m.vr⟩).bind λm=>BX r m else none
  |_,_=>none
end
mutual
def Pt.refs:Pt X.ι->List Nat
 |.o k|.od k|.p k|.mp k|.oz k=>[k]
 |.f _ fs cs=>Az fs++Az cs
 |.a ps=>Az ps
 |_=>[]
def Az:List (Pt X.ι)->List Nat
 |[]=>[]
 |p::ps=>p.refs++Az ps
end
def OP.refs:OP X.ι->List Nat
 |.l _=>[]
 |.m _ _=>[]
 |.c _ rows=>rows.flatMap Az
def F1(n k:Nat):Bool:=Nat.blt k n || (Nat.ble 1000 k&&Nat.blt k 1064)
def cW.ok(g:cW X):Bool:=
 decide (g.ix.map (·.1)=List.range g.ix.length)&&decide (g.ix.length<=1000)&&(g.iv.all λq=>F1 g.ix.length q.1&&q.2.refs.all λk=>F1 g.ix.length k)&&decide (g.iv.map (·.1)).Nodup&&(Az g.fy).all λk=>F1 g.ix.length k
def Z2(m:MG X)(ae:List Nat):Bool:=
 decide ae.Nodup&&(m.nm.all λq=>match ae[q.2]? with|some k=>Nat.beq k q.1|none=>false)&&m.vr.all λk=>!ae.contains k
def cW.flat(g:cW X):Bool:=(cM g.fy).all wO&&g.iv.all λq=>match q.2 with
 |.l c=>wO c
 |.m _ _=>false
 |.c _ rows=>(vH rows).all wO
def s8:List (Nat×b7 X)->Nat->Option (b7 X)
 |[],_=>none
 |(j,o)::r,k=>if j=k then some o else s8 r k
def LL(i:Nat)(ae:List Nat)(os':List (Nat×b7 X)):List (Nat×Option (b7 X)):=
 (ae.zipIdx.map λp=>(p.1,(s8 os' p.2).map (pg (cn i ae))))++(os'.filter λq=>decide (1000<=q.1)).map λq=>(cn i ae q.1,some (pg (cn i ae) q.2))
def Wf(g:cW X)(i:Nat)(ds:List (DV X))(get:Nat->Option (b7 X))(k:KK X A):Option A:=
 (rx get g.pd ds ⟨[],[],[],[]⟩).bind λm=>(BX get g.ix m).bind λm=>
  bif g.ok&&Z2 m ((List.range g.ix.length).map (pP m))then(CD (cM g.pd++da g.ix) m.eo).bind λv=>Ue m.iS ((g.fn v).bind λr=>
   let ae:=(List.range g.ix.length).map (pP m)
   k (qv (cn i ae) (g.res r)) (LL i ae (g.outs r)++(if g.flat then []else m.vr.map λk=>(k,none))) (ae++m.vr) ((ae++(LL i ae (g.outs r)).map (·.1))++m.vr))
  else none
section
variable {P:Program} {get:Nat->Option (b7 X)} {rd ae:List Nat} {dC:Nat->Nat}
def fR(m m':MG X):Prop:=(∀ q∈m.nm,q∈m'.nm)/\(∀ c∈m.iS,c∈m'.iS)/\∀k∈m.vr,k∈m'.vr
theorem fR.refl(m:MG X):fR m m:=⟨λ _ h=>h,λ_ h=>h,λ_ h=>h⟩
theorem fR.trans{a b c:MG X}(h:fR a b)(h':fR b c):fR a c:=⟨λ q hq=>h'.1 q (h.1 q hq),λq hq=>h'.2.1 q (h.2.1 q hq),λq hq=>h'.2.2 q (h.2.2 q hq)⟩
mutual
theorem ajy:∀(p:Pt X.ι)(d:DV X)(m m':MG X),pm get p d m=some m'->fR m m'/\∃an,m'.eo=m.eo++an/\an.length=p.vars.length
 |.v c,d,m,m',h=>by simp[pm]at h;rw[ah]at h;obtain⟨x,h1,h⟩:=h;cases h;exact⟨⟨λ _ h=>h,λ_ h=>by simp[h],λ_ h=>by simp[h]⟩,[⟨c,x.1⟩],rfl,rfl⟩
 |.o k,d,m,m',h=>by simp[pm]at h;split at h;rw[ah]at h;obtain⟨o,h1,h⟩:=h;split at h;cases h;exact⟨⟨λ _ h=>by simp[h],λ_ h=>by simp[h],λ_ h=>h⟩,[],by simp,rfl⟩;cases h;cases h
 |.od k,d,m,m',h=>by simp[pm]at h;split at h;rename_i k' aa len;have⟨o,h1,h⟩:=ah.1 h;split at h;cases h;exact⟨⟨λ _ h=>by simp[h],λ_ h=>by simp[h],λ_ h=>h⟩,[⟨.int .i64,(aa:Int)⟩],rfl,rfl⟩;cases h;cases h
 |.p k,d,m,m',h=>by simp[pm]at h;split at h;cases h;exact⟨⟨λ _ h=>by simp[h],λ_ h=>h,λ_ h=>h⟩,[],by simp,rfl⟩;cases h
 |.nil,d,m,m',h=>by simp[pm]at h;split at h;cases h;exact⟨fR.refl _,[],by simp,rfl⟩;cases h
 |.f F fs cs,d,m,m',h=>by simp[pm]at h;split at h;split at h;have⟨m1,h1,h⟩:=ah.1 h;obtain⟨a1,n1,b1,c1⟩:=vL fs _ m m1 h1;obtain⟨a2,n2,b2,c2⟩:=vL cs _ m1 m' h;exact⟨a1.trans a2,n1++n2,by rw[b2,b1,aR],by simp[Pt.vars,c1,c2]⟩;cases h;cases h
 |.mp k,d,m,m',h=>by simp[pm]at h;split at h;cases h;exact⟨⟨λ _ h=>by simp[h],λ_ h=>h,λ_ h=>h⟩,[],by simp,rfl⟩;cases h
 |.oz _,_,_,_,h=>by simp[pm]at h
 |.a ps,d,m,m',h=>by simp[pm]at h;split at h;exact vL ps _ m m' h;cases h
theorem vL:∀(ps:List (Pt X.ι))(ds:List (DV X))(m m':MG X),rx get ps ds m=some m'->fR m m'/\∃an,m'.eo=m.eo++an/\an.length=(cM ps).length
 |[],[],m,m',h=>by simp[rx]at h;subst h;exact⟨fR.refl _,[],by simp,rfl⟩
 |p::ps,d::ds,m,m',h=>by simp[rx]at h;have⟨m1,h1,h⟩:=ah.1 h;have⟨a1,n1,b1,c1⟩:=ajy p d m m1 h1;have⟨a2,n2,b2,c2⟩:=vL ps ds m1 m' h;exact⟨a1.trans a2,n1++n2,by rw[b2,b1,aR],by simp[cM,c1,c2]⟩
 |[],_::_,m,m',h|_::_,[],m,m',h=>by simp[rx]at h
end
def wc:AV->List LH->List LH
 |.agg _,hs=>.agd::hs
 |_,hs=>hs
theorem LK(x:AV)(a b:List LH):wc x (a++b)=wc x a++b:=by cases x<;>rfl
theorem xL{get':Nat->Option aS}{x:AV}{hs:List LH}{p:AV×List LH×List Prop}(h:nZ P get' x hs=some p)(hr:∀k∈refs x,k∉ae):pX P get' ae x (wc x hs)=some p:=by
 have hd:((refs x).all λk=>!ae.contains k)=true:=by simp;exact hr
 cases x
 all_goals
  simp[wc];unfold pX;split<;>first|(simp [nZ]at h;done)|(rw [bA hd];exact h)|exact h|exact absurd hd ‹_› |(done)
variable {NM:List (Nat×Nat)} {pn:List Nat}
mutual
theorem ahN(hi:∀q∈NM,ae[q.2]? =some q.1)(hv:∀k∈pn,k∉ae)(hrd:∀k,(∃ q,(k,q)∈NM)\/k∈pn->k∈rd)(ho:∀q∈NM,∀c l,get q.1=some (.ed c l)->dC q.2=l.length):
 ∀(p:Pt X.ι)(d:DV X)(m m':MG X),pm get p d m=some m'->(∀ q∈m'.nm,q∈NM)->(∀ c∈m'.iS,c=true)->(∀ k∈m'.vr,k∈pn)->
 ∃an,m'.eo=m.eo++an/\∃d',(∀ ag,eP dC p (an++ag)=(d',ag))/\(∃ hs obs,(∀ p∈obs,p)/\∀ag,pX P (dG rd (fB get)) ae (den d) (hs++ag)=some (den d',ag,obs))/\∀j∈bz d,(∃ q,(j,q)∈NM)\/j∈pn
 |.v c,d,m,m',h,hn,hc,hr=>by simp[pm]at h;rw[ah]at h;obtain⟨x,h1,h⟩:=h;cases h;have zj:∀j∈bz d,j∈pn:=λj hj=>hr j (by simp[hj]);obtain⟨hs,obs,p1,q1⟩:=zG (P:=P) (rd:=rd) h1 (λ b hb=>hc b (by simp[hb])) (λ j hj=>hrd j (.inr (zj j hj)));refine⟨[⟨c,x.1⟩],rfl,.c c x.1,λag=>rfl,⟨wc (den d) hs,obs,p1,λag=>?_⟩,λj hj=>.inr (zj j hj)⟩;rw[<- LK];exact xL (q1 ag) (λ k hk=>hv k (zj k (by rwa [iY]at hk)))
 |.o k,d,m,m',h,hn,hc,hr=>by
  simp[pm]at h;split at h;rename_i k' len;rw[ah]at h;obtain⟨o,h1,h⟩:=h;split at h;rename_i c l;cases h;have hq:(k',k)∈NM:=hn _ (by simp);have he:len=l.length:=by have:=hc (be len l.length) (by simp);simpa[be]using this
  refine⟨[],by simp,.own k 0 (dC k),λag=>rfl,⟨[.mut k],[],by simp,λag=>?_⟩,λj hj=>?_⟩;simp[den,pX,hi _ hq,ho _ hq c l h1,he];simp[bz]at hj;subst hj;exact .inl ⟨k,hq⟩;cases h;cases h
 |.od k,d,m,m',h,hn,hc,hr=>by
  simp[pm]at h;split at h;rename_i k' aa len;rw[ah]at h;obtain⟨o,h1,h⟩:=h;split at h;rename_i c l;cases h;have hq:(k',k)∈NM:=hn _ (by simp);have he:aa+len=l.length:=by have:=hc (be (aa+len) l.length) (by simp);simpa[be]using this
  refine⟨[⟨.int .i64,(aa:Int)⟩],rfl,.own k aa (dC k-aa),λag=>?_,⟨[.mut k],[],by simp,λag=>?_⟩,λj hj=>?_⟩;have:YG (X:=X) ⟨.int .i64,(aa:Int)⟩=aa:=by simp[YG];rw[Uq];simp
  simp[eP,this];simp[den,pX,hi _ hq,ho _ hq c l h1,show l.length-aa=len by omega];simp[bz,aZ]at hj;subst hj;exact .inl ⟨k,hq⟩;cases h;cases h
 |.p k,d,m,m',h,hn,hc,hr=>by simp[pm]at h;split at h;rename_i k';cases h;have hq:(k',k)∈NM:=hn _ (by simp);refine⟨[],by simp,.ptr k 0 0,λag=>rfl,⟨[.mut k],[],by simp,λag=>?_⟩,λj hj=>?_⟩;simp[den,cons_append,fM,pX,hi _ hq,if_true];simp[bz,aZ]at hj;subst hj;exact .inl ⟨k,hq⟩;cases h
 |.nil,d,m,m',h,hn,hc,hr=>by simp[pm]at h;split at h;cases h;refine⟨[],by simp,.nil,λag=>rfl,⟨[.nil],[],by simp,λag=>?_⟩,by simp[bz]⟩;exact xL (by simp[den,cons_append,fM,nZ]) (by simp[den,refs]);cases h
 |.f F fs cs,d,m,m',h,hn,hc,hr=>by
  simp[pm]at h;split at h;rename_i F' first caps
  split at h;rename_i e;subst e;rw[ah]at h;obtain⟨m1,h1,h⟩:=h;have hm:=(vL cs _ m1 m' h).1;obtain⟨n1,a1,f',b1,⟨hs1,o1,p1,q1⟩,r1⟩:=xM hi hv hrd ho fs _ m m1 h1 (λ q hq=>hn q (hm.1 q hq)) (λ q hq=>hc q (hm.2.1 q hq)) (λ q hq=>hr q (hm.2.2 q hq));obtain⟨n2,a2,c',b2,⟨hs2,o2,p2,q2⟩,r2⟩:=xM hi hv hrd ho cs _ m1 m' h hn hc hr;refine⟨n1++n2,by rw[a2,a1,aR],.fn F f' c',λag=>by simp[eP,aR,b1,b2],⟨.fnw::(hs1++hs2),o1++o2,gW p1 p2,λag=>?_⟩,λj hj=>?_⟩;simp[den,cons_append,aR,pX,q1,ai,q2];simp[bz,bO]at hj;exact hj.elim (r1 j) (r2 j);cases h;cases h
 |.mp k,d,m,m',h,hn,hc,hr=>by simp[pm]at h;split at h;rename_i k';cases h;have hq:(k',k)∈NM:=hn _ (by simp);refine⟨[],by simp,.mp k,λag=>rfl,⟨[.mut k],[],by simp,λag=>?_⟩,λj hj=>?_⟩;simp[den,cons_append,fM,pX,hi _ hq,if_true];simp[bz,aZ]at hj;subst hj;exact .inl ⟨k,hq⟩;cases h
 |.oz _,_,_,_,h,_,_,_=>by simp[pm]at h
 |.a ps,d,m,m',h,hn,hc,hr=>by simp[pm]at h;split at h;rename_i ds;have⟨n1,a1,f',b1,⟨hs1,o1,p1,q1⟩,r1⟩:=xM hi hv hrd ho ps ds m m' h hn hc hr;refine⟨n1,a1,.agg f',λag=>by simp[eP,b1],⟨.agw::hs1,o1,p1,λag=>?_⟩,λj hj=>r1 j (by simpa[bz]using hj)⟩;simp[den,cons_append,pX,q1,ai];cases h
theorem xM(hi:∀q∈NM,ae[q.2]? =some q.1)(hv:∀k∈pn,k∉ae)(hrd:∀k,(∃ q,(k,q)∈NM)\/k∈pn->k∈rd)(ho:∀q∈NM,∀c l,get q.1=some (.ed c l)->dC q.2=l.length):
 ∀(ps:List (Pt X.ι))(ds:List (DV X))(m m':MG X),rx get ps ds m=some m'->(∀ q∈m'.nm,q∈NM)->(∀ c∈m'.iS,c=true)->(∀ k∈m'.vr,k∈pn)->
 ∃an,m'.eo=m.eo++an/\∃ds',(∀ ag,k9 dC ps (an++ag)=(ds',ag))/\(∃ hs obs,(∀ p∈obs,p)/\∀ag,lW P (dG rd (fB get)) ae (bG ds) (hs++ag)=some (bG ds',ag,obs))/\∀j∈aN ds,(∃ q,(j,q)∈NM)\/j∈pn
 |[],[],m,m',h,_,_,_=>by simp[rx,bP]at h;subst h;exact⟨[],by simp,[],λag=>rfl,⟨[],[],by simp,λag=>rfl⟩,by simp[aN]⟩
 |p::ps,d::ds,m,m',h,hn,hc,hr=>by simp[rx]at h;have⟨m1,h1,h⟩:=ah.1 h;have hm:=(vL ps ds m1 m' h).1;obtain⟨n1,a1,d',b1,⟨hs1,o1,p1,q1⟩,r1⟩:=ahN hi hv hrd ho p d m m1 h1 (λ q hq=>hn q (hm.1 q hq)) (λ q hq=>hc q (hm.2.1 q hq)) (λ q hq=>hr q (hm.2.2 q hq));have⟨n2,a2,ds',b2,⟨hs2,o2,p2,q2⟩,r2⟩:=xM hi hv hrd ho ps ds m1 m' h hn hc hr;refine⟨n1++n2,by rw[a2,a1,aR],d'::ds',λag=>by simp[k9,aR,b1,b2],⟨hs1++hs2,o1++o2,gW p1 p2,λag=>?_⟩,λj hj=>?_⟩;simp[bG,aR,lW,q1,ai,q2];simp[aN,bO]at hj;exact hj.elim (r1 j) (r2 j)
 |[],_::_,m,m',h,_,_,_=>by simp[rx]at h
 |_::_,[],m,m',h,_,_,_=>by simp[rx]at h
end
theorem yj:∀(rs:List (List (Pt X.ι)))(qs:List (List (DV X)))(m m':MG X),JP get rs qs m=some m'->fR m m'/\∃an,m'.eo=m.eo++an/\an.length=(vH rs).length
 |[],[],m,m',h=>by simp[JP]at h;subst h;exact⟨fR.refl _,[],by simp,rfl⟩
 |r::rs,q::qs,m,m',h=>by simp[JP]at h;have⟨m1,h1,h⟩:=ah.1 h;have⟨a1,n1,b1,c1⟩:=vL r q m m1 h1;have⟨a2,n2,b2,c2⟩:=yj rs qs m1 m' h;exact⟨a1.trans a2,n1++n2,by rw[b2,b1,aR],by simp[vH,c1,c2]⟩
 |[],_::_,m,m',h|_::_,[],m,m',h=>by simp[JP]at h
theorem Qi(hi:∀q∈NM,ae[q.2]? =some q.1)(hv:∀k∈pn,k∉ae)(hrd:∀k,(∃ q,(k,q)∈NM)\/k∈pn->k∈rd)(ho:∀q∈NM,∀c l,get q.1=some (.ed c l)->dC q.2=l.length):
 ∀(rs:List (List (Pt X.ι)))(qs:List (List (DV X)))(m m':MG X),JP get rs qs m=some m'->(∀ q∈m'.nm,q∈NM)->(∀ c∈m'.iS,c=true)->(∀ k∈m'.vr,k∈pn)->
 ∃an,m'.eo=m.eo++an/\∃De,(∀ ag,vJ dC rs (an++ag)=(De,ag))/\(∃ hs obs,(∀ p∈obs,p)/\Ak P (dG rd (fB get)) ae (qs.map bG) hs=some (De.map bG,obs))/\∀j∈(qs.map aN).flatten,(∃ q,(j,q)∈NM)\/j∈pn
 |[],[],m,m',h,_,_,_=>by simp[JP]at h;subst h;exact⟨[],by simp,[],λag=>rfl,⟨[],[],by simp,rfl⟩,by simp⟩
 |r::rs,q::qs,m,m',h,hn,hc,hr=>by simp[JP]at h;have⟨m1,h1,h⟩:=ah.1 h;have hm:=(yj rs qs m1 m' h).1;obtain⟨n1,a1,d',b1,⟨hs1,o1,p1,q1⟩,r1⟩:=xM (P:=P) hi hv hrd ho r q m m1 h1 (λ q hq=>hn q (hm.1 q hq)) (λ q hq=>hc q (hm.2.1 q hq)) (λ q hq=>hr q (hm.2.2 q hq));have⟨n2,a2,ds',b2,⟨hs2,o2,p2,q2⟩,r2⟩:=Qi hi hv hrd ho rs qs m1 m' h hn hc hr;refine⟨n1++n2,by rw[a2,a1,aR],d'::ds',λag=>by simp[vJ,b1,b2],⟨hs1::hs2,o1++o2,gW p1 p2,?_⟩,λj hj=>?_⟩;have:=q1 [];rw[append_nil]at this;simp[Ak,this,q2];simp only[bg,flatten_cons,bO]at hj;exact hj.elim (r1 j) (r2 j)
 |[],_::_,m,m',h,_,_,_|_::_,[],m,m',h,_,_,_=>by simp[JP]at h
theorem lX:∀(os:List (Nat×OP X.ι))(m m':MG X),BX get os m=some m'->fR m m'/\∃an,m'.eo=m.eo++an/\an.length=(da os).length
 |[],m,m',h=>by simp[BX]at h;subst h;exact⟨fR.refl _,[],by simp,rfl⟩
 |(k,op)::r,m,m',h=>by simp[BX]at h;rw[ah]at h;obtain⟨o,h1,h⟩:=h;split at h;rename_i c c' l;rw[ah]at h;obtain⟨l',h2,h⟩:=h;obtain⟨a2,n2,b2,c2⟩:=lX r _ m' h;refine⟨fR.trans (b:=⟨m.nm++[(pP m k,k)],m.eo++[⟨.sl c,l'⟩],m.iS,m.vr⟩) ⟨λ _ h=>by simp[h],λ_ h=>h,λ_ h=>h⟩ a2,[⟨.sl c,l'⟩]++n2,?_,by simp[da,c2]⟩;rw[b2,aR];rename_i kc vc tm tf l;split at h;rw[ah]at h;obtain⟨l',h2,h⟩:=h;obtain⟨a2,n2,b2,c2⟩:=lX r _ m' h;refine⟨fR.trans (b:=⟨m.nm++[(pP m k,k)],m.eo++[⟨.mp kc vc,l'⟩],m.iS,m.vr⟩) ⟨λ _ h=>by simp[h],λ_ h=>h,λ_ h=>h⟩ a2,[⟨.mp kc vc,l'⟩]++n2,?_,by simp[da,c2]⟩;rw[b2,aR];cases h;rename_i sz rows sz' rows';split at h;rw[ah]at h;obtain⟨m1,h2,h⟩:=h;obtain⟨a1,n1,b1,c1⟩:=yj rows _ _ m1 h2;have⟨a2,n2,b2,c2⟩:=lX r m1 m' h;refine⟨fR.trans (fR.trans (b:=⟨m.nm++[(pP m k,k)],m.eo,m.iS,m.vr⟩) ⟨λ _ h=>by simp[h],λ_ h=>h,λ_ h=>h⟩ a1) a2,n1++n2,?_,by simp[da,c1,c2]⟩;rw[b2,b1,aR];cases h;cases h
theorem Dv:∀(os:List (Nat×OP X.ι))(m m':MG X),BX get os m=some m'->(∀ q∈m'.nm,q∈NM)->∃an,m'.eo=m.eo++an/\∀ag,∀k∈os.map (·.1),∃k' o,(k',k)∈NM/\get k'=some o/\∀c l,o=.ed c l->(k,List.length l)∈lens os (an++ag)
 |[],m,m',h,_=>by simp[BX]at h;subst h;exact⟨[],by simp,λag k hk=>by simp at hk⟩
 |(k,op)::r,m,m',h,hn=>by
  simp[BX]at h;rw[ah]at h;obtain⟨o,h1,h⟩:=h;split at h;rename_i c c' l;rw[ah]at h;obtain⟨l',h2,h⟩:=h;have hm:=(lX r _ m' h).1;obtain⟨n2,b2,c2⟩:=Dv r _ m' h hn;refine⟨[⟨.sl c,l'⟩]++n2,by rw[b2,aR],λag j hj=>?_⟩;simp only[bg,aP]at hj;by_cases hjk:j=k;subst hjk;refine⟨_,_,hn _ (hm.1 _ (by simp)),h1,λc2 l2 he=>?_⟩;injection he with e1 e2;subst e1;subst e2;have:=congrArg List.length (jv h2).2;simp at this;rw[this];exact List.mem_cons_self;rcases hj with rfl|hj;exact(hjk rfl).elim;have⟨k',o',g1,g2,g3⟩:=c2 ag j hj;exact⟨k',o',g1,g2,λc l he=>cO _ (g3 c l he)⟩;rename_i kc vc tm tf l;split at h;rw[ah]at h;obtain⟨l',h2,h⟩:=h;have hm:=(lX r _ m' h).1;obtain⟨n2,b2,c2⟩:=Dv r _ m' h hn;refine⟨[⟨.mp kc vc,l'⟩]++n2,by rw[b2,aR],λag j hj=>?_⟩;simp only[bg,aP]at hj;by_cases hjk:j=k;subst hjk;exact⟨_,_,hn _ (hm.1 _ (by simp)),h1,λc2 l2 he=>by cases he⟩;rcases hj with rfl|hj;exact(hjk rfl).elim;exact c2 ag j hj;cases h;rename_i sz rows sz' rows';split at h;have⟨m1,h2,h⟩:=ah.1 h;obtain⟨a1,n1,b1,c1⟩:=yj rows _ _ m1 h2;have hm:=(lX r _ m' h).1;obtain⟨n2,b2,c2⟩:=Dv r _ m' h hn;refine⟨n1++n2,by rw[b2,b1,aR],λag j hj=>?_⟩;simp only[bg,aP]at hj;have hd:(n1++n2++ag).drop (vH rows).length=n2++ag:=by rw[<- c1,aR,List.drop_left]
  simp only[lens,hd];by_cases hjk:j=k;subst hjk;exact⟨_,_,hn _ (hm.1 _ (a1.1 _ (by simp))),h1,λc2 l2 he=>by cases he⟩;rcases hj with rfl|hj;exact(hjk rfl).elim;exact c2 ag j hj;cases h;cases h
theorem Kj:∀(os:List (Nat×OP X.ι))(L:List (DC X)),((lens os L).map (·.1)).Sublist (os.map (·.1))
 |[],_=>by simp[lens]
 |(k,.l c)::r,L=>by simp[lens];split;exact(Kj r _).cons_cons _;exact List.nil_sublist _
 |(k,.m kc vc)::r,L|(k,.c sz rows)::r,L=>(Kj r _).cons _
def ahO(get':Nat->Option aS)(NM:List (Nat×Nat))(pn:List Nat)(bs:List OB)(ks:List Nat):Prop:=
 ∀(j:Nat) hs q o,bs[j]? =some (.B3 hs)->ks[j]? =some q->get' q=some o->∀k∈NW o,(∃ z,(k,z)∈NM)\/k∈pn
theorem LM{sz:Nat}{rows:List (List (DV X))}{k:Nat}(h:k∈NW (bI (.cells sz rows))):k∈(rows.map aN).flatten:=by simp[NW,bI]at h;obtain⟨a,⟨r,hr,rfl⟩,hk⟩:=h;rw[iZ]at hk;exact List.mem_flatten.2 ⟨_,mem_map.2 ⟨r,hr,rfl⟩,hk⟩
theorem WD:∀ts:List Tree,dV (ts.map AV.t)=[]
 |[]=>rfl
 |t::ts=>by simp[dV,refs,WD ts]
theorem agX{P:Program}{get:Nat->Option aS}:∀(ts:List Tree)(hs:List LH),mq P get (ts.map AV.t) hs=some (ts.map AV.t,hs,[])
 |[],hs=>rfl
 |t::ts,hs=>by simp[mq,nZ,agX ts hs]
theorem ahP{P:Program}{get:Nat->Option aS}{ae:List Nat}(v:TV):pX P get ae v.av []=some (v.av,[],[]):=by rcases v with x|cs;rfl;have h:refs (.agg (cs.map AV.t))=[]:=WD cs;simp[TV.av,pX,h,nZ,agX]
theorem YM{P:Program}{get:Nat->Option aS}{ae:List Nat}:∀rows:List (TV×TV),Ak P get ae (rows.map λq=>[q.1.av,q.2.av]) (rows.map λ_=>[])=some (rows.map λq=>[q.1.av,q.2.av],[])
 |[]=>rfl
 |q::rows=>by simp[Ak,lW,ahP,YM rows]
theorem zI(hi:∀q∈NM,ae[q.2]? =some q.1)(hv:∀k∈pn,k∉ae)(hrd:∀k,(∃ q,(k,q)∈NM)\/k∈pn->k∈rd)(ho:∀q∈NM,∀c l,get q.1=some (.ed c l)->dC q.2=l.length):
 ∀(os:List (Nat×OP X.ι))(m m':MG X),BX get os m=some m'->(∀ q∈m'.nm,q∈NM)->(∀ c∈m'.iS,c=true)->(∀ k∈m'.vr,k∈pn)->
 ∃an,m'.eo=m.eo++an/\∃xs:List (Nat×b7 X),(∀ ag,bV dC os (an++ag)=xs.map λp=>(p.1,some p.2))/\
  ∃bs mo,(∀ p∈mo,p)/\Gl P (dG rd (fB get)) ae (os.map λp=>(ae[p.1]?).getD 0) bs=some (xs.map λp=>bI p.2,mo)/\ahO (dG rd (fB get)) NM pn bs (os.map λp=>(ae[p.1]?).getD 0)
 |[],m,m',h,_,_,_=>by simp[BX]at h;subst h;exact⟨[],by simp,[],λag=>rfl,[],[],by simp,rfl,λj hs q o h=>by simp at h⟩
 |(k,op)::r,m,m',h,hn,hc,hr=>by
  simp[BX]at h;rw[ah]at h;obtain⟨o,h1,h⟩:=h;split at h;rename_i c c' l;have⟨l',h2,h⟩:=ah.1 h;have hm:=(lX r _ m' h).1;have hq:(pP m k,k)∈NM:=hn _ (hm.1 _ (by simp));have hid:(ae[k]?).getD 0=pP m k:=by rw[hi _ hq];rfl
  have hget:=eU (hrd (pP m k) (.inl ⟨k,hq⟩)) h1;have⟨h3,h4⟩:=jv h2;obtain⟨n2,a2,xs,b2,bs,mo,p2,q2,r2⟩:=zI hi hv hrd ho r _ m' h hn hc hr;refine⟨[⟨.sl c,l'⟩]++n2,by rw[a2,aR],(k,.ed c l')::xs,λag=>by simp[bV,b2],.dat (CT.sz X c,l'.map (CT.row X.toSE c))::bs,((bI (.ed c' l)).sz=CT.sz X c/\dK ((bI (.ed c' l)).rows.take (l'.map (CT.row X.toSE c)).length)=aF (l'.map (CT.row X.toSE c)))::mo,?_,?_,?_⟩;intro p hp;rcases aP.1 hp with rfl|hp;refine⟨h3,?_⟩;simp[bI,h4];rw[take_of_length_le (by simp[aF])];simp[dK,aF,wk];exact p2 p hp;simp[bg,Gl,TA,hid,hget,ai,q2,cons_append,fM];rfl;intro j hs q o' hj hq' ho';cases j with
  |zero=>simp at hj
  |succ j=>exact r2 j hs q o' (by simpa using hj) (by simpa using hq') ho'
  rename_i kc vc tm tf l;split at h;rename_i hone;have⟨l',h2,h⟩:=ah.1 h;have hm:=(lX r _ m' h).1;have hq:(pP m k,k)∈NM:=hn _ (hm.1 _ (by simp));have hid:(ae[k]?).getD 0=pP m k:=by rw[hi _ hq];rfl
  have hget:=eU (hrd (pP m k) (.inl ⟨k,hq⟩)) h1;have hden:bI (.map tm tf l)=bI (.map kc vc l'):=by have⟨e,h2⟩:=qN h2;injection e with e1 e2;subst e1;subst e2;subst h2;rfl
  obtain⟨n2,a2,xs,b2,bs,mo,p2,q2,r2⟩:=zI hi hv hrd ho r _ m' h hn hc hr;rcases hone with hone|_;have hab:bI (.map kc vc l')=gO (List.length l',l'.map λq=>CT.row X.toSE kc q.1++CT.row X.toSE vc q.2):=by simp only[bI,gO,aF,map_map];congr 1;refine map_congr_left λq _=>?_;obtain⟨t1,g1,g2⟩:=row_one hone.1 q.1;obtain⟨t2,g3,g4⟩:=row_one hone.2 q.2;simp[g1,g2,g3,g4,TV.av]
  refine⟨[⟨.mp kc vc,l'⟩]++n2,by rw[a2,aR],(k,.map kc vc l')::xs,λag=>by simp[cons_append,fM,bV,b2,bg],.dat (List.length l',l'.map λq=>CT.row X.toSE kc q.1++CT.row X.toSE vc q.2)::bs,((bI (.map tm tf l)).sz=List.length l'/\dK ((bI (.map tm tf l)).rows.take (l'.map λq=>CT.row X.toSE kc q.1++CT.row X.toSE vc q.2).length)=aF (l'.map λq=>CT.row X.toSE kc q.1++CT.row X.toSE vc q.2))::mo,?_,?_,?_⟩;intro p hp;rcases aP.1 hp with rfl|hp;rw[hden,hab];refine⟨rfl,?_⟩;simp[gO];rw[take_of_length_le (by simp[aF])];simp[dK,aF,Function.comp_def,wk];exact p2 p hp;simp[bg,Gl,TA,hid,hget,ai,q2,cons_append,fM,hab];intro j hs q o' hj hq' ho';cases j with
  |zero=>simp at hj
  |succ j=>exact r2 j hs q o' (by simpa using hj) (by simpa using hq') ho'
  refine⟨[⟨.mp kc vc,l'⟩]++n2,by rw[a2,aR],(k,.map kc vc l')::xs,λag=>by simp[cons_append,fM,bV,b2,bg],.B3 ((l'.map λq=>(CT.tv X.toSE kc q.1,CT.tv X.toSE vc q.2)).map λ_=>[])::bs,mo,p2,?_,?_⟩;have hlr:=YM (P:=P) (get:=dG rd (fB get)) (ae:=ae) (l'.map λq=>(CT.tv X.toSE kc q.1,CT.tv X.toSE vc q.2));have hdr:(bI (.map kc vc l')).rows=(l'.map λq=>(CT.tv X.toSE kc q.1,CT.tv X.toSE vc q.2)).map λq=>[q.1.av,q.2.av]:=by simp only[bI,map_map];rfl
  simp only[bg,Gl,TA,hid,hget,ai,q2,hden,hdr,hlr,fM];rw[<- hdr];intro j hs q o' hj hq' ho';cases j with
  |zero=>
   simp[bg,List.getElem?_cons_zero,bP]at hq';subst hq';rw[hid,hget]at ho';injection ho' with ho';subst ho';intro k hk;rw[hden]at hk;simp only[NW,bI,mem_flatMap,mem_map]at hk;obtain⟨_,⟨q,_,rfl⟩,hk⟩:=hk;simp[dV,zF,append_nil,mY]at hk
  |succ j=>exact r2 j hs q o' (by simpa using hj) (by simpa using hq') ho'
  cases h;rename_i sz rows sz' rows';split at h;rename_i hsz;have⟨m1,h2,h⟩:=ah.1 h;have hm1:=(yj rows _ _ m1 h2).1;have hm:=(lX r _ m' h).1;have hq:(pP m k,k)∈NM:=hn _ (hm.1 _ (hm1.1 _ (by simp)));have hid:(ae[k]?).getD 0=pP m k:=by rw[hi _ hq];rfl
  have hget:=eU (hrd (pP m k) (.inl ⟨k,hq⟩)) h1;obtain⟨n1,a1,qs,b1,⟨hs1,o1,p1,q1⟩,r1⟩:=Qi (P:=P) hi hv hrd ho rows _ _ m1 h2 (λ q hq=>hn q (hm.1 q hq)) (λ q hq=>hc q (hm.2.1 q hq)) (λ q hq=>hr q (hm.2.2 q hq));obtain⟨n2,a2,xs,b2,bs,mo,p2,q2,r2⟩:=zI hi hv hrd ho r _ m' h hn hc hr;subst hsz;refine⟨n1++n2,by rw[a2,a1,aR],(k,.cells sz qs)::xs,λag=>by simp[aR,bV,b1,b2,bg],.B3 hs1::bs,o1++mo,gW p1 p2,?_,?_⟩;simp[bg,Gl,TA,hid,hget,ai,bI,q1,q2];intro j hs q o' hj hq' ho';cases j with
  |zero=>
   simp[bg,List.getElem?_cons_zero,bP]at hq';rw[<- hq',hid,hget]at ho';injection ho' with ho';subst ho';exact λz hz=>r1 z (LM hz)
  |succ j=>exact r2 j hs q o' (by simpa using hj) (by simpa using hq') ho'
  cases h;cases h
end
end
end Go.Gb
namespace Go.Gb
open Go.RowKit
section
variable {X:SX} {A:Type}
theorem We:∀(l:List (CT X.ι))(v:VT (X:=X) l),(vI l v).map (·.c)=l
 |[],_|[_],_=>rfl
 |c::c'::l,v=>by simp[vI,We (c'::l) v.2]
theorem Oj:∀{l:List Tree},(∀ t∈l,t.flat)->o9 (l.map AV.t)
 |[],_=>trivial
 |t::l,h=>⟨h t (by simp),Oj (λ u hu=>h u (by simp[hu]))⟩
theorem aap{c:CT X.ι}(h:wO c=true)(x:CT.T X.toSE c):xY (CT.tv X.toSE c x).av:=by
 have hf:=uO h x;cases c
 case st i=>exact Oj hf
 all_goals first|exact hf _ (aZ.2 rfl)|cases h
section
variable {ol:Nat->Nat}
mutual
theorem als:∀(p:Pt X.ι)(L:List (DC X))(cs:List (CT X.ι)),L.map (·.c)=p.vars++cs->p.vars.all wO=true->xY (den (eP ol p L).1)/\(eP ol p L).2.map (·.c)=cs
 |.v c,L,cs,h,hs=>by
  match L,h with
  |d::r,h=>
   simp[Pt.vars]at h;simp[Pt.vars]at hs;exact⟨aap (h.1 ▸ hs) d.x,h.2⟩
  |[],h=>simp[Pt.vars]at h
 |.o k,L,cs,h,_|.p k,L,cs,h,_|.mp k,L,cs,h,_|.oz k,L,cs,h,_|.nil,L,cs,h,_=>⟨trivial,by simpa[Pt.vars,eP]using h⟩
 |.od k,L,cs,h,_=>by
  match L,h with
  |d::r,h=>
   simp[Pt.vars]at h;exact⟨trivial,h.2⟩
  |[],h=>simp[Pt.vars]at h
 |.f F fs ps,L,cs,h,hs=>by simp only[Pt.vars,List.all_append,bq]at hs;simp[Pt.vars]at h;obtain⟨a1,a2⟩:=BZ fs L _ h hs.1;obtain⟨b1,b2⟩:=BZ ps _ _ a2 hs.2;exact⟨⟨a1,b1⟩,b2⟩
 |.a ps,L,cs,h,hs=>by simp only[Pt.vars]at h hs;exact BZ ps L cs h hs
theorem BZ:∀(ps:List (Pt X.ι))(L:List (DC X))(cs:List (CT X.ι)),L.map (·.c)=cM ps++cs->(cM ps).all wO=true->o9 (bG (k9 ol ps L).1)/\(k9 ol ps L).2.map (·.c)=cs
 |[],L,cs,h,_=>⟨trivial,by simpa[cM,k9]using h⟩
 |p::ps,L,cs,h,hs=>by simp only[cM,List.all_append,bq]at hs;simp[cM]at h;obtain⟨a1,a2⟩:=als p L _ h hs.1;obtain⟨b1,b2⟩:=BZ ps _ _ a2 hs.2;exact⟨⟨a1,b1⟩,b2⟩
end
mutual
theorem alu:∀(p:Pt X.ι)(L:List (DC X)),∀j∈bz (eP ol p L).1,j∈p.refs
 |.v c,L,j,h=>by cases L<;>simp[eP,bz]at h
 |.o k,L,j,h|.p k,L,j,h|.mp k,L,j,h|.oz k,L,j,h=>by simpa[eP,bz,Pt.refs]using h
 |.nil,L,j,h=>by simp[eP,bz]at h
 |.od k,L,j,h=>by cases L<;>simp[eP,bz]at h<;>simp[Pt.refs,h]
 |.f F fs ps,L,j,h=>by simp[eP,bz]at h;simp[Pt.refs];exact h.imp (yu fs _ j) (yu ps _ j)
 |.a ps,L,j,h=>by simp[eP]at h;simp[Pt.refs];exact yu ps _ j h
theorem yu:∀(ps:List (Pt X.ι))(L:List (DC X)),∀j∈aN (k9 ol ps L).1,j∈Az ps
 |[],L,j,h=>by simp[k9,aN]at h
 |p::ps,L,j,h=>by simp[k9,aN]at h;simp[Az];exact h.imp (alu p _ j) (yu ps _ j)
end
theorem Kk:∀(rs:List (List (Pt X.ι)))(L:List (DC X))(cs:List (CT X.ι)),L.map (·.c)=vH rs++cs->(vJ ol rs L).2.map (·.c)=cs/\((vH rs).all wO=true->∀r∈(vJ ol rs L).1,o9 (bG r))
 |[],L,cs,h=>⟨by simpa[vH,vJ]using h,by simp[vJ]⟩
 |r::rs,L,cs,h=>by simp[vH]at h;have step:(k9 ol r L).2.map (·.c)=vH rs++cs:=tx r L _ h;obtain⟨b1,b2⟩:=Kk rs _ _ step;refine⟨b1,λhs q hq=>?_⟩;simp only[vH,List.all_append,bq]at hs;simp[vJ]at hq;rcases hq with rfl|hq;exact(BZ r L _ h hs.1).1;exact b2 hs.2 q hq
where
 tx (ps:List (Pt X.ι)) (L:List (DC X)) (cs:List (CT X.ι)) (h:L.map (·.c)=cM ps++cs):(k9 ol ps L).2.map (·.c)=cs:=oE ps L cs h
 BY:∀(p:Pt X.ι)(L:List (DC X))(cs:List (CT X.ι)),L.map (·.c)=p.vars++cs->(eP ol p L).2.map (·.c)=cs
  |.v c,L,cs,h=>by
   match L,h with
   |d::r,h=>simp only[Pt.vars,bg,List.singleton_append,List.cons.injEq]at h;exact h.2
   |[],h=>simp[Pt.vars]at h
  |.o k,L,cs,h=>by simpa[Pt.vars,eP]using h
  |.p k,L,cs,h=>by simpa[Pt.vars,eP]using h
  |.mp k,L,cs,h=>by simpa[Pt.vars,eP]using h
  |.oz k,L,cs,h=>by simpa[Pt.vars,eP]using h
  |.nil,L,cs,h=>by simpa[Pt.vars,eP]using h
  |.od k,L,cs,h=>by
   match L,h with
   |d::r,h=>simp only[Pt.vars,bg,List.singleton_append,List.cons.injEq]at h;exact h.2
   |[],h=>simp[Pt.vars]at h
  |.f F fs ps,L,cs,h=>by simp only[Pt.vars,aR]at h;exact oE ps _ _ (oE fs L _ h)
  |.a ps,L,cs,h=>by simp only[Pt.vars]at h;exact oE ps L cs h
 oE:∀(ps:List (Pt X.ι))(L:List (DC X))(cs:List (CT X.ι)),L.map (·.c)=cM ps++cs->(k9 ol ps L).2.map (·.c)=cs
  |[],L,cs,h=>by simpa[cM,k9]using h
  |p::ps,L,cs,h=>by simp only[cM,aR]at h;exact oE ps _ _ (BY p L _ h)
theorem Ux:∀(rs:List (List (Pt X.ι)))(L:List (DC X)),∀j∈((vJ ol rs L).1.map aN).flatten,j∈rs.flatMap Az
 |[],L,j,h=>by simp[vJ]at h
 |r::rs,L,j,h=>by simp only[vJ,bg,flatten_cons,bO]at h;simp only[List.flatMap_cons,bO];exact h.imp (yu r _ j) (Ux rs _ j)
theorem yw:∀(O:List (Nat×OP X.ι))(L:List (DC X)),((cZ (bV ol O L)).map (·.1)).Sublist (O.map (·.1))/\(∀ p∈cZ (bV ol O L),∃op,(p.1,op)∈O/\∀j∈d7 p.2,j∈op.refs)/\
 (L.map (·.c)=da O->(O.all λq=>match q.2 with|.l c=>wO c|.m _ _=>false|.c _ rows=>(vH rows).all wO)=true->∀p∈cZ (bV ol O L),∀r∈(bI p.2).rows,o9 r)
 |[],L=>⟨by simp[bV,cZ],by simp[bV,cZ],by simp[bV,cZ]⟩
 |(k,.l c)::O,L=>by
  match L with
  |[]=>exact⟨by simp[bV,cZ],by simp[bV,cZ],by simp[bV,cZ]⟩
  |⟨.sl c',x⟩::L=>
   have⟨h1,h2,h3⟩:=yw O L;refine⟨?_,?_,?_⟩;simp only[bV,cZ,bg];exact h1.cons_cons _;intro p hp;simp[bV,cZ]at hp;rcases hp with rfl|hp;exact⟨.l c,by simp,by simp[d7]⟩;have⟨op,g1,g2⟩:=h2 p hp;exact⟨op,cO _ g1,g2⟩;intro hL hs p hp r hr;simp only[bg,da,List.cons.injEq]at hL;simp only[all_cons,bq]at hs;simp[bV,cZ]at hp;rcases hp with rfl|hp;obtain⟨e,_⟩:=hL;injection e with e;simp only[bI,aF,mem_map]at hr;obtain⟨q,⟨y,hy,rfl⟩,rfl⟩:=hr;exact Oj (uO (e ▸ hs.1) y);exact h3 hL.2 hs.2 p hp r hr
  |⟨.int _,x⟩::L=>exact⟨by simp[bV,cZ],by simp[bV,cZ],by simp[bV,cZ]⟩
  |⟨.bool,x⟩::L=>exact⟨by simp[bV,cZ],by simp[bV,cZ],by simp[bV,cZ]⟩
  |⟨.str,x⟩::L=>exact⟨by simp[bV,cZ],by simp[bV,cZ],by simp[bV,cZ]⟩
  |⟨.any,x⟩::L=>exact⟨by simp[bV,cZ],by simp[bV,cZ],by simp[bV,cZ]⟩
  |⟨.mp _ _,x⟩::L=>exact⟨by simp[bV,cZ],by simp[bV,cZ],by simp[bV,cZ]⟩
  |⟨.st _,x⟩::L=>exact⟨by simp[bV,cZ],by simp[bV,cZ],by simp[bV,cZ]⟩
 |(k,.m kc vc)::O,L=>by
  match L with
  |[]=>exact⟨by simp[bV,cZ],by simp[bV,cZ],by simp[bV,cZ]⟩
  |⟨.mp tm tf,x⟩::L=>
   have⟨h1,h2,h3⟩:=yw O L;refine⟨?_,?_,?_⟩;simp only[bV,cZ,bg];exact h1.cons_cons _;intro p hp;simp[bV,cZ,aP]at hp;rcases hp with rfl|hp;exact⟨.m kc vc,by simp,by simp[d7]⟩;have⟨op,g1,g2⟩:=h2 p hp;exact⟨op,cO _ g1,g2⟩;intro hL hs;simp at hs
  |⟨.sl _,x⟩::L=>exact⟨by simp[bV,cZ],by simp[bV,cZ],by simp[bV,cZ]⟩
  |⟨.int _,x⟩::L=>exact⟨by simp[bV,cZ],by simp[bV,cZ],by simp[bV,cZ]⟩
  |⟨.bool,x⟩::L=>exact⟨by simp[bV,cZ],by simp[bV,cZ],by simp[bV,cZ]⟩
  |⟨.str,x⟩::L=>exact⟨by simp[bV,cZ],by simp[bV,cZ],by simp[bV,cZ]⟩
  |⟨.any,x⟩::L=>exact⟨by simp[bV,cZ],by simp[bV,cZ],by simp[bV,cZ]⟩
  |⟨.st _,x⟩::L=>exact⟨by simp[bV,cZ],by simp[bV,cZ],by simp[bV,cZ]⟩
 |(k,.c sz rows)::O,L=>by have⟨h1,h2,h3⟩:=yw O (vJ ol rows L).2;refine⟨?_,?_,?_⟩;simp only[bV,cZ,bg];exact h1.cons_cons _;intro p hp;simp[bV,cZ,aP]at hp;rcases hp with rfl|hp;exact⟨.c sz rows,by simp,λj hj=>Ux rows L j hj⟩;have⟨op,g1,g2⟩:=h2 p hp;exact⟨op,cO _ g1,g2⟩;intro hL hs p hp r hr;simp[da]at hL;simp only[all_cons,bq]at hs;obtain⟨e1,e2⟩:=Kk (ol:=ol) rows L _ hL;simp[bV,cZ,aP]at hp;rcases hp with rfl|hp;simp[bI,mem_map]at hr;obtain⟨q,hq,rfl⟩:=hr;exact e2 hs.1 q hq;exact h3 e1 hs.2 p hp r hr
end
theorem Ol(k:Nat):∀os:List (Nat×b7 X),pb (rO os) k=(s8 os k).map bI
 |[]=>rfl
 |(j,o)::r=>by simp[rO,pb,s8];split;rfl;exact Ol k r
theorem Uy(f:Nat->Nat)(c:CT X.ι)(x:CT.T X.toSE c):js f (CT.tv X.toSE c x).av=(CT.tv X.toSE c x).av:=(zH f (.c c x)).symm
theorem acn(f:Nat->Nat)(o:b7 X):bI (pg f o)=Ji f (bI o):=by
 cases o with
 |cells sz rows=>simp only[pg,bI,Ji,map_map];congr 1;exact map_congr_left λr _=>Gw f r
 |ed c l=>simp only[pg,bI,Ji,aF,map_map];congr 1;exact map_congr_left λr _=>(Wg f _).symm
 |map kc vc l=>simp only[pg,bI,Ji,map_map];congr 1;exact map_congr_left λr _=>by simp[Am,Uy]
theorem ahQ(i:Nat)(ae:List Nat)(os:List (Nat×b7 X)):iX (LL i ae os)=ye i ae (rO os):=by simp[LL,qY];congr 1;simp only[iX,map_map];refine map_congr_left λp _=>?_;simp[Ol];cases s8 os p.2<;>simp[acn];simp[iX,rO,List.filter_map];refine map_congr_left λq _=>?_;simp[acn]
theorem Uz{ds:List (DV X)}:(∀ j∈refs (den (yg ds)),j∈aN ds)/\(o9 (bG ds)->xY (den (yg ds))):=by
 match ds with
 |[]=>exact⟨λ j hj=>by simp[yg,den,bG,refs,dV]at hj,λ_=>by simp[yg];exact trivial⟩
 |[d]=>exact⟨λ j hj=>by simp[yg,iY]at hj;simpa[aN]using hj,λh=>h.1⟩
 |d::e::r=>exact⟨λ j hj=>by simp[yg,den,refs,iZ]at hj;exact hj,λh=>h⟩
theorem YN:∀xs:List (Nat×b7 X),cZ (xs.map λp=>(p.1,some p.2))=xs
 |[]=>rfl
 |p::xs=>by simp[cZ,YN xs]
theorem aaq{P:Program}{g:cW X}{F:FuncId}(hg:HQ P F g){i:Nat}{first args caps:List (DV X)}{get:Nat->Option (b7 X)}{k:KK X A}{r:A}(h:Wf g i (first++args++caps) get k=some r):
 ∃cC rd wr dv upd ab,lg P i (den (.fn F first caps)) (bG args) cC (dG rd (fB get))=some ab/\kg ab.obs/\ab.v=den dv/\ab.upd=iX upd/\(∀ p∈upd,p.1=cH i\/p.1∈wr)/\k dv upd rd wr=some r:=by
 unfold Wf at h;rw[ah]at h;obtain⟨m1,h1,h⟩:=h;rw[ah]at h;obtain⟨m,h2,h⟩:=h;have⟨h3,h⟩:=dN h;rw[ah]at h;obtain⟨v,h4,h⟩:=h;have⟨h5,h⟩:=pq h;rw[ah]at h;obtain⟨rr,h6,h⟩:=h;simp at h3;obtain⟨hok,zt⟩:=h3;simp only at h;generalize kh:(List.range g.ix.length).map (pP m)=ae at h zt;simp only[cW.ok,bq,bM]at hok;obtain⟨⟨⟨⟨n1,n2⟩,n3⟩,n4⟩,n5⟩:=hok;simp only[Z2,bq,bM]at zt;obtain⟨⟨hnd,hnm⟩,zj⟩:=zt;have hlen:ae.length=g.ix.length:=by rw[<- kh];simp
 have hi:∀q∈m.nm,ae[q.2]? =some q.1:=by intro q hq;have:=all_eq_true.1 hnm q hq;split at this;rename_i k' e;rw[e,Nat.eq_of_beq_eq_true this];cases this
 have hv:∀k∈m.vr,k∉ae:=λk hk=>by have:=all_eq_true.1 zj k hk;simpa using this
 have hrd:∀k,(∃ q,(k,q)∈m.nm)\/k∈m.vr->k∈ae++m.vr:=by rintro k (⟨q,hq⟩|hk);exact mem_append_left _ (bX (hi _ hq));exact mem_append_right _ hk
 have hm2:=(lX _ _ _ h2).1;have t8:=Uo h4;obtain⟨_,nA,dA,lA⟩:=vL _ _ _ _ h1;simp at dA;obtain⟨nB,dB,lB⟩:=Dv (NM:=m.nm) _ _ _ h2 (λ q hq=>hq);have hL:m.eo=nA++nB:=by rw[dB,dA]
 have hdrop:(vI _ v).drop (cM g.pd).length=nB:=by rw[t8,hL,<- lA,List.drop_left]
 have htake:(vI _ v).take (cM g.pd).length=nA:=by rw[t8,hL,<- lA,List.take_left]
 have ho:∀q∈m.nm,∀c l,get q.1=some (.ed c l)->Dt g.ix nB q.2=l.length:=by
  rintro⟨p,q⟩ hq c l hl;have hq2:=hi _ hq;have hqn:q<g.ix.length:=by rw[<- hlen];exact(cB.1 hq2).1
  obtain⟨p',o,g1,g2,g3⟩:=lB [] q (by rw[n1];exact List.mem_range.2 hqn);have:p'=p:=by have e1:=hi _ g1;rw[hq2]at e1;injection e1 with e1;exact e1.symm
  subst this;simp at hl;rw[hl]at g2;injection g2 with g2;have h3:=g3 c l g2.symm;rw[append_nil]at h3;have hk:=(Kj g.ix nB).nodup (by rw[n1];exact List.nodup_range);simp[Dt,uM hk h3]
 obtain⟨PB,HE,ds',eA,⟨hs,obs,pA,qA⟩,rA⟩:=xM (P:=P) (ae:=ae) (rd:=ae++m.vr) (NM:=m.nm) (pn:=m.vr) (dC:=Dt g.ix nB) hi hv hrd ho _ _ _ _ h1 (λ q hq=>hm2.1 q hq) (λ c hc=>h5 c (hm2.2.1 c hc)) (λ q hq=>hm2.2.2 q hq);obtain⟨Z3,S4,xs,eB,bs,mo,pB,qB,rB⟩:=zI (P:=P) (ae:=ae) (rd:=ae++m.vr) (NM:=m.nm) (pn:=m.vr) (dC:=Dt g.ix nB) hi hv hrd ho _ _ _ h2 (λ q hq=>hq) h5 (λ q hq=>hq);have SZ:PB=nA:=by simp at HE;rw[<- HE,dA]
 have SU:Z3=nB:=List.append_cancel_left (S4.symm.trans dB);subst SZ SU;have HC:=eA [];have HB:=eB [];rw[append_nil]at HC HB;have hargs:g.args v=ds':=by simp[cW.args,Ur,hdrop,htake,HC]
 have s7:g.cN v=xs:=by simp[cW.cN,It,hdrop,HB,YN]
 have Re:(g.ix.map λp=>(ae[p.1]?).getD 0)=ae:=by
  have:(g.ix.map λp=>(ae[p.1]?).getD 0)=(g.ix.map (·.1)).map λj=>(ae[j]?).getD 0:=by rw[map_map];rfl
  rw[this,n1];refine List.ext_getElem (by simp[hlen]) λj a b=>?_;simp[dD b]
 rw[Re]at qB rB;have ZS:=qA [];rw[append_nil,iF,iF]at ZS;have hcon:=hg v rr h6;rw[hargs,s7]at hcon;obtain⟨s1,s2,s3⟩:=yw (ol:=Dt g.iv ((vI (hZ (lh 0 g.fy)++da g.iv) rr).drop (cM g.fy).length)) g.iv ((vI _ rr).drop (cM g.fy).length);have yy:∀k,F1 g.ix.length k=true->CI ae.length k:=by intro k hk;simp[F1]at hk;simp[hlen];exact hk
 have good:Yu ae.length (rO (g.outs rr)) (den (g.res rr)):=by
  refine⟨?_,?_,?_,?_⟩;intro q hq;simp only[rO,mem_map]at hq;obtain⟨p,hp,rfl⟩:=hq;have⟨op,g1,_⟩:=s2 p hp;have:=all_eq_true.1 n3 _ g1;simp at this;exact yy _ this.1;have:(rO (g.outs rr)).map (·.1)=(g.outs rr).map (·.1):=by simp[rO]
  rw[this];exact s1.nodup n4;intro q hq r' hr' j hj;simp only[rO,mem_map]at hq;obtain⟨p,hp,rfl⟩:=hq;have⟨op,g1,g2⟩:=s2 p hp;have:=all_eq_true.1 n3 _ g1;simp only[bq]at this;refine yy _ (all_eq_true.1 this.2 j (g2 j ?_));obtain⟨pk,po⟩:=p;cases po with
  |cells sz rows=>exact LM (mem_flatMap.2 ⟨r',hr',hj⟩)
  |ed c l=>
   simp[bI,aF,mem_map]at hr';obtain⟨z,_,rfl⟩:=hr';rw[WD]at hj;simp at hj
  |map kc vc l=>
   simp only[bI,mem_map]at hr';obtain⟨z,_,rfl⟩:=hr';simp only[dV,zF,append_nil]at hj;simp at hj
  intro j hj;have:=(Uz (ds:=Ur g.fy g.iv (vI _ rr))).1 j hj;exact yy _ (all_eq_true.1 n5 j (yu g.fy _ j this))
 have flat:g.flat=true->mS (rO (g.outs rr)) (den (g.res rr)):=by intro hf;simp only[cW.flat,bq]at hf;have hc:(vI (hZ (lh 0 g.fy)++da g.iv) rr).map (·.c)=cM g.fy++da g.iv:=(We _ rr).trans (by rw[Oe]);refine⟨(Uz (ds:=Ur g.fy g.iv (vI _ rr))).2 ?_,?_⟩;refine(BZ (ol:=_) g.fy _ [] ?_ hf.1).1;rw[append_nil,map_take,hc,List.take_left];intro q hq r' hr';simp only[rO,mem_map]at hq;obtain⟨p,hp,rfl⟩:=hq;exact s3 (by rw[map_drop,hc,List.drop_left]) hf.2 p hp r' hr'
 have cQ:TB (dG (ae++m.vr) (fB get)) (bG first++bG args++bG caps) ae m.vr bs:=by refine⟨hv,λj hj hn=>?_,λj hs' q o e1 e2 e3 z hz hn=>?_⟩;rw[<- iF,<- iF,iZ]at hj;rcases rA j hj with ⟨q,hq⟩|hj;exact absurd (bX (hi _ hq)) hn;exact hj;rcases rB j hs' q o e1 e2 e3 z hz with ⟨q',hq⟩|hz;exact absurd (bX (hi _ hq)) hn;exact hz
 refine⟨.tc ae m.vr bs hs (rO (g.outs rr)) (den (g.res rr)) g.flat,ae++m.vr,_,_,_,
  ⟨js (cn i ae) (den (g.res rr)),ye i ae (rO (g.outs rr))++(if g.flat then []else m.vr.map λk=>(k,none)),obs++mo++[C1 P F (bG ds') (xs.map λp=>bI p.2) (rO (g.outs rr)) (den (g.res rr)),Yu ae.length (rO (g.outs rr)) (den (g.res rr)),TB (dG (ae++m.vr) (fB get)) (bG first++bG args++bG caps) ae m.vr bs]++(if g.flat then [mS (rO (g.outs rr)) (den (g.res rr))]else [])⟩,?_,?_,(zH _ _).symm,?_,?_,h⟩
 simp only[den,lg,Lj,qB,ZS,ai];rw[bA ⟨hnd,by omega⟩];refine qy _ (gW (gW (gW pA pB) ?_) ?_);intro z hz;simp only[aP,mY,or_false]at hz;rcases hz with rfl|rfl|rfl;exact hcon;exact good;exact cQ;intro z hz;cases hf:g.flat with
 |true=>rw[hf]at hz;simp only[if_true,aZ]at hz;subst hz;exact flat hf
 |false=>rw[hf]at hz;simp at hz
 simp[qY,ahQ];congr 1;cases g.flat with
 |true=>rfl
 |false=>exact(BU m.vr).symm
 intro p hp;refine .inr ?_;rcases bO.1 hp with hp|hp;exact mem_append_left _ (mem_append_right _ (mem_map.2 ⟨p,hp,rfl⟩));cases hf:g.flat with
 |true=>rw[hf]at hp;simp at hp
 |false=>
  rw[hf]at hp;simp[Bool.false_eq_true,if_false,mem_map]at hp;obtain⟨z,hz,rfl⟩:=hp;exact mem_append_right _ hz
end
section
variable {X:SX} {A:Type}
def UA:RT X.ι->Bool
 |.d c=>wO c
 |.fresh e=>wO e
 |.whole _=>true
 |.mu c=>wO c
 |.mr c=>wO c
 |.mv=>true
theorem aco{c:CT X.ι}(h:wO c=true)(x:CT.T X.toSE c):(CT.tv X.toSE c x).flat:=by
 cases c
 case st i=>exact uO h x
 all_goals first|exact trivial|cases h
theorem UB{ns:List Nat}{q:RT X.ι}{x:RT.T X q}(h:UA q=true):∀c∈Us ns q x,c.flat:=by
 intro c hc;cases q<;>simp[Us]at hc
 case d c=>subst hc;exact aco h x
 case fresh e=>
  subst hc;intro row hr;obtain⟨y,_,rfl⟩:=mem_map.1 hr;exact uO h y
 case whole j=>subst hc;exact trivial
theorem Qj{ns:List Nat}:∀{l:List (RT X.ι)}{x:rE X l},l.all UA=true->∀c∈Aw ns l x,c.flat
 |[],x,_,c,hc=>by simp[Aw]at hc
 |[q],x,h,c,hc=>UB (by simpa using h) c hc
 |q::q'::l,x,h,c,hc=>by simp at h;simp[Aw]at hc;rcases hc with hc|hc;exact UB h.1 c hc;exact Qj (by simp;exact h.2) c hc
theorem UC{l:List (RT X.ι)}(x:rE X l)(h:l.all UA=true):(rP l x).flat:=by have:=Qj (ns:=wd l x) (x:=x) h;unfold rP;split;rename_i c hc;exact this c (by rw[hc];simp);exact this
theorem YO{q:RT X.ι}{x:RT.T X q}(h:UA q=true):Tq (pY q x):=by
 intro p hp;cases q<;>simp[pY]at hp
 case mu c=>
  subst hp;intro r hr;obtain⟨y,_,rfl⟩:=mem_map.1 hr;exact uO h y
 case mr c=>
  subst hp;intro r hr;obtain⟨y,_,rfl⟩:=mem_map.1 hr;exact uO h y
theorem YP:∀{l:List (RT X.ι)}{x:rE X l},l.all UA=true->Tq (nN l x)
 |[],x,_=>λp hp=>by simp[nN]at hp
 |[q],x,h=>YO (q:=q) (by simpa using h)
 |q::q'::l,x,h=>by simp at h;intro p hp;rcases bO.1 (show some p∈pY q x.1++nN (q'::l) x.2 from hp)with hp|hp;exact YO h.1 p hp;exact YP (l:=q'::l) (by simp;exact h.2) p hp
def Gx(i:Nat)(ae ns:List Nat):(q:RT X.ι)->RT.T X q->List (DV X)×List (Nat×Option (b7 X))
 |.d c,x=>([.c c x],[])
 |.fresh e,l=>([.own (cH i) 0 l.length],[(cH i,some (.ed e l))])
 |.whole j,_=>([match ae[j]? with|some k=>.own k 0 (ns.getD j 0)|none=>.undef],[])
 |_,_=>([],[])
def JQ(i:Nat)(ae ns:List Nat):(l:List (RT X.ι))->rE X l->Option (List (DV X)×List (Nat×Option (b7 X)))
 |[],_=>some ([],[])
 |[q],x=>some (Gx i ae ns q x)
 |q::q'::l,x=>(JQ i ae ns (q'::l) x.2).bind λp=>if (Gx i ae ns q x.1).2.isEmpty || p.2.isEmpty then some ((Gx i ae ns q x.1).1++p.1,(Gx i ae ns q x.1).2++p.2)else none
def anM:List (DV X)->DV X
 |[d]=>d
 |ds=>.eV ds
def DO(i:Nat)(ae:List Nat)(l:List (RT X.ι))(x:rE X l):Option (DV X×List (Nat×Option (b7 X))):=
 (JQ i ae (wd l x) l x).bind λp=>some (anM p.1,p.2)
theorem aar(u:List (Nat×Option (b7 X))):(iX u).isEmpty=u.isEmpty:=by cases u<;>rfl
theorem YQ(i:Nat)(ae ns:List Nat)(q:RT X.ι)(x:RT.T X q):(∃ c,Us ns q x=[c]/\∃d,(Gx i ae ns q x).1=[d]/\Jh i ae c=(den d,iX (Gx i ae ns q x).2))\/(Us ns q x=[]/\Gx i ae ns q x=([],[])):=by
 cases q
 case d c=>exact .inl ⟨_,rfl,_,rfl,rfl⟩
 case fresh e=>exact .inl ⟨_,rfl,_,rfl,by simp[Jh,Gx,den,iX,bI,aF]⟩
 case whole j=>
  refine .inl ⟨_,rfl,_,rfl,?_⟩;simp[Jh,iX,Gx];cases ae[j]?<;>rfl
 all_goals exact .inr ⟨rfl,rfl⟩
theorem acp(i:Nat)(ae:List Nat)(c:RC):Le i ae [c]=some ([(Jh i ae c).1],(Jh i ae c).2):=by simp[Le]
theorem YR(i:Nat)(ae ns:List Nat):∀(l:List (RT X.ι))(x:rE X l)(p:List (DV X)×List (Nat×Option (b7 X))),JQ i ae ns l x=some p->Le i ae (Aw ns l x)=some (bG p.1,iX p.2)
 |[],_,p,h=>by simp[JQ]at h;subst h;rfl
 |[q],x,p,h=>by simp[JQ]at h;subst h;simp[Aw];rcases YQ i ae ns q x with ⟨c,h1,d,h2,h3⟩|⟨h1,h2⟩;rw[h1,acp,h2,h3];simp[bG];rw[h1,h2];rfl
 |q::q'::l,x,p,h=>by simp only[JQ]at h;rw[ah]at h;obtain⟨p',h1,h⟩:=h;have ih:=YR i ae ns (q'::l) x.2 p' h1;split at h;rename_i hc;cases h;simp[Aw];rcases YQ i ae ns q x.1 with ⟨c,h1,d,h2,h3⟩|⟨h1,h2⟩;rw[h1];simp only[List.singleton_append,Le,ih,ai,h3,aar];rw[bA hc,h2];simp[bG,iX];rw[h1,h2];exact ih;cases h
theorem acr{i:Nat}{ae:List Nat}{l:List (RT X.ι)}{x:rE X l}{p:DV X×List (Nat×Option (b7 X))}(h:DO i ae l x=some p):imp i ae (rP l x)=some (den p.1,iX p.2):=by
 unfold DO at h;rw[ah]at h;obtain⟨p',h1,h⟩:=h;cases h;have ih:=YR i ae _ l x p' h1;unfold rP;split;rename_i c hc;rw[hc,acp]at ih;simp at ih;obtain⟨ds,u⟩:=p'
 match ds,ih with
 |[d],ih=>
  simp[bG]at ih;simp[imp,anM,<- ih.1,<- ih.2]
 |[],ih|_::_::_,ih=>simp[bG]at ih
 rename_i hne;simp[imp,ih];obtain⟨ds,u⟩:=p'
 match ds,ih with
 |[],_|_::_::_,_=>rfl
 |[d],ih=>
  exfalso;generalize hcs:Aw (wd l x) l x=cs at ih hne
  match cs,ih,hne with
  |[],ih,_=>simp[Le,bG]at ih
  |[c],_,hne=>exact hne c rfl
  |c::c'::cs,ih,_=>
   simp[Le]at ih;cases h3:Le i ae cs with
   |none=>rw[h3]at ih;simp at ih
   |some q=>
    rw[h3]at ih;simp at ih;split at ih;simp only[ai]at ih;split at ih;simp[bG]at ih;cases ih;simp at ih
def J1:(q:RT X.ι)->RT.T X q->List (Option (b7 X))
 |.mu c,x=>[some (.ed c x)]
 |.mr c,x=>[some (.cells (CT.sz X c) [uN c x])]
 |.mv,_=>[none]
 |_,_=>[]
def UD:(l:List (RT X.ι))->rE X l->List (Option (b7 X))
 |[],_=>[]
 |[q],x=>J1 q x
 |q::q'::l,x=>J1 q x.1++UD (q'::l) x.2
def JR:List Nat->List (Option (b7 X))->List (Nat×Option (b7 X))
 |k::ae,p::os=>(k,p)::JR ae os
 |_,_=>[]
theorem acs(q:RT X.ι)(x:RT.T X q):(J1 q x).map (·.map bI)=(pY q x).map (·.map gO):=by
 cases q<;>try rfl
 case mr c=>simp[J1,pY,bI,gO,uo,aF,oJ]
theorem Om:∀(l:List (RT X.ι))(x:rE X l),(UD l x).map (·.map bI)=(nN l x).map (·.map gO)
 |[],_=>rfl
 |[q],x=>acs q x
 |q::q'::l,x=>by simp[UD,nN,acs,Om (q'::l) x.2]
theorem YS:∀(ae:List Nat)(os:List (Option (b7 X)))(os':List (Option eH)),os.map (·.map bI)=os'.map (·.map gO)->iX (JR ae os)=Al ae os'
 |[],_,_,_=>by simp[JR,Al,iX]
 |_::_,[],[],_=>rfl
 |k::ae,p::os,p'::os',h=>by simp at h;have:=YS ae os os' h.2;simp[iX]at this;simp[JR,Al,iX,h.1,this]
 |_::_,[],_::_,h|_::_,_::_,[],h=>by simp at h
theorem Kl:∀{ae:List Nat}{os:List (Option (b7 X))}{p:Nat×Option (b7 X)},p∈JR ae os->p.1∈ae
 |[],_,_,h|_::_,[],_,h=>by simp[JR]at h
 |k::ae,q::os,p,h=>by simp[JR]at h;rcases h with rfl|h;simp;exact cO _ (Kl h)
def Wr(get:Nat->Option (b7 X))(d:DV X)(c:CT X.ι):Option (List (CT.T X.toSE c)×Nat×List Bool):=
 match d with
 |.own k 0 len=>(get k).bind λo=>match o with
  |.ed b l=>(kT (.sl b) (.sl c) l).bind λ(l:List (CT.T X.toSE c))=>some (l,k,[be len (List.length l)])
  |_=>none
 |_=>none
def UE(get:Nat->Option (b7 X))(d:DV X)(c:CT X.ι):Option (CT.T X.toSE c×Nat):=
 match d with
 |.ptr k 0 0=>(get k).bind λo=>match o with
  |.cells sz [row]=>if sz=CT.sz X c then(LA c row).bind λx=>some (x,k)else none
  |_=>none
 |_=>none
def oK(Γ:FuncId->Option (co X))(get:Nat->Option (b7 X)):List (DV X)->(l:List (AT X.ι))->Option (jg X l×List Nat×List Bool)
 |[],[]=>some ((),[],[])
 |d::ds,.mut c::l=>(Wr get d c).bind λx=>(oK Γ get ds l).bind λh=>some ((x.1,h.1),x.2.1::h.2.1,x.2.2++h.2.2)
 |d::ds,.jt c::l=>(UE get d c).bind λx=>(oK Γ get ds l).bind λh=>some ((x.1,h.1),x.2::h.2.1,h.2.2)
 |d::ds,.d c::l=>(Qg Γ get 3 [d] [.d c]).bind λx=>(oK Γ get ds l).bind λh=>some ((x.1.1,h.1),h.2.1,x.2++h.2.2)
 |d::ds,.ref c::l=>(Qg Γ get 3 [d] [.ref c]).bind λx=>(oK Γ get ds l).bind λh=>some ((x.1.1,h.1),h.2.1,x.2++h.2.2)
 |d::ds,.ea as r::l=>(Qg Γ get 3 [d] [.ea as r]).bind λx=>(oK Γ get ds l).bind λh=>some ((x.1.1,h.1),h.2.1,x.2++h.2.2)
 |d::ds,.nil::l=>match d with
  |.nil=>(oK Γ get ds l).bind λh=>some (((),h.1),h.2.1,h.2.2)
  |_=>none
 |_,_=>none
def IQ:List (DV X)->List (AT X.ι)->List Nat
 |d::ds,a::l=>(if a.im then []else bz d)++IQ ds l
 |_,_=>[]
def UF(get:Nat->Option (b7 X)):List (DV X)->(l:List (CT X.ι))->Option (HL X.toSE l×List Bool)
 |[],[]=>some ((),[])
 |d::ds,c::l=>(EO get d c).bind λx=>(UF get ds l).bind λh=>some ((x.1,h.1),x.2++h.2)
 |_,_=>none
variable (Γ:FuncId->Option (co X))
def T2(i:Nat)(f:DV X)(args:List (DV X))(get:Nat->Option (b7 X))(k:KK X A):Option A:=
 match f with
 |.fn F first caps=>(Γ F).bind λs=>match s.gen.filter λg=>(rx get g.pd (first++args++caps) ⟨[],[],[],[]⟩).isSome with
  |some g=>Wf g i (first++args++caps) get k
  |none=>if (s.args.all (λ q=>q.pl)&&s.res.all (λ q=>!q.out))=true then(Qg Γ get 3 (first++args++caps) s.args).bind λa=>Ue a.2 ((s.fn a.1).bind λx=>(DO i [] s.res x).bind λp=>
   if s.res.all UA then k p.1 p.2 (aN (first++args++caps)) []
   else k p.1 (p.2++LJ (aN (first++args++caps))) (aN (first++args++caps)) (aN (first++args++caps)))
  else(oK Γ get (first++args++caps) s.args).bind λa=>Ue a.2.2 ((s.fn a.1).bind λx=>(DO i a.2.1 s.res x).bind λp=>
   if (decide a.2.1.Nodup&&(IQ (first++args++caps) s.args).all (λ j=>!a.2.1.contains j)&&decide ((UD s.res x).length=a.2.1.length))=true then
    if s.res.all UA then k p.1 (p.2++JR a.2.1 (UD s.res x)) (aN (first++args++caps)) a.2.1
    else k p.1 (p.2++(JR a.2.1 (UD s.res x)++LJ ((aN (first++args++caps)).filter λj=>!a.2.1.contains j))) (aN (first++args++caps)) (a.2.1++(aN (first++args++caps)).filter λj=>!a.2.1.contains j)
   else none)
 |.ea as q φ=>(UF get args as).bind λh=>Ue h.2 ((φ h.1).bind λy=>
  if wO q then k (.c q y) [] (aN args) []else k (.c q y) (LJ (aN args)) (aN args) (aN args))
 |_=>none
def CM(fz:List Nat)(T:el)(am:TypeId->Option (CT X.ι))(i:Nat)(o:Op)(ρ:Operand->DV X)(get:Nat->Option (b7 X))(k:KK X A):Option A:=
 match o with
 |.call { callee:=.value f,args:=args,argTypes:=_ }=>T2 Γ i (ρ f) (args.toList.map ρ) get k
 |o=>if anJ o ρ then Th T am i o ρ get k else if anK o ρ || fz.contains i then Tb T am i o ρ get k else if anL T o ρ then S8 T am o ρ get k else IR T am i o ρ get k
variable {Γ}
theorem LP{P:Program}{get:Nat->Option (b7 X)}{rd:List Nat}:∀{ds:List (DV X)}{l:List (CT X.ι)}{h:HL X.toSE l×List Bool},UF get ds l=some h->(∀ b∈h.2,b=true)->(∀ j∈aN ds,j∈rd)->
 ∃hs obs,(∀ p∈obs,p)/\∀ag,mq P (dG rd (fB get)) (bG ds) (hs++ag)=some ((HL.mw X.toSE l h.1).map TV.av,ag,obs)
 |[],[],h,_,_,_=>⟨[],[],by simp,λag=>rfl⟩
 |d::ds,c::l,h,hr,hc,hrd=>by simp[UF]at hr;have⟨x,h1,hr⟩:=ah.1 hr;have⟨g,h2,hr⟩:=ah.1 hr;cases hr;obtain⟨hs1,o1,p1,q1⟩:=zG (P:=P) (rd:=rd) h1 (λ b hb=>hc b (by simp[hb])) (λ j hj=>hrd j (by simp[aN,hj]));obtain⟨hs2,o2,p2,q2⟩:=LP (P:=P) (rd:=rd) h2 (λ b hb=>hc b (by simp[hb])) (λ j hj=>hrd j (by simp[aN,hj]));refine⟨hs1++hs2,o1++o2,gW p1 p2,λag=>?_⟩;simp[bG,mq,q1,q2];rfl
 |[],_::_,_,hr,_,_|_::_,[],_,hr,_,_=>by simp[UF]at hr
theorem UG{i:Nat}{ae ns:List Nat}{q:RT X.ι}{x:RT.T X q}:∀p∈(Gx i ae ns q x).2,p.1=cH i:=by cases q<;>simp[Gx]
theorem UH{i:Nat}{ae ns:List Nat}:∀{l:List (RT X.ι)}{x:rE X l}{p:List (DV X)×List (Nat×Option (b7 X))},JQ i ae ns l x=some p->∀q∈p.2,q.1=cH i
 |[],_,p,h=>by simp[JQ]at h;subst h;simp
 |[q],x,p,h=>by simp[JQ]at h;subst h;exact UG
 |q::q'::l,x,p,h=>by simp[JQ]at h;have⟨p',h1,h⟩:=ah.1 h;split at h;cases h;intro z hz;rcases bO.1 hz with hz|hz;exact UG z hz;exact UH h1 z hz;cases h
theorem YT{i:Nat}{ae:List Nat}{l:List (RT X.ι)}{x:rE X l}{p:DV X×List (Nat×Option (b7 X))}(h:DO i ae l x=some p):∀q∈p.2,q.1=cH i:=by unfold DO at h;have⟨p',h1,h⟩:=ah.1 h;cases h;exact UH h1
theorem Gy{P:Program}{get:Nat->Option aS}{x:AV}{hs ag:List LH}{y:AV}{o:List Prop}(h:mq P get [x] hs=some ([y],ag,o)):nZ P get x hs=some (y,ag,o):=by simp only[mq,ai,append_nil,ah,bP,Prod.mk.injEq,List.cons.injEq,and_true]at h;obtain⟨q,h1,h2,h3,h4⟩:=h;rw[h1,<- h2,<- h3,<- h4]
theorem lu{d:DV X}{ds:List (DV X)}{a:AT X.ι}{l:List (AT X.ι)}{P:Nat->Prop}(h:∀j∈IQ (d::ds) (a::l),P j):(a.im=false->∀j∈bz d,P j)/\∀j∈IQ ds l,P j:=by simp[IQ]at h;exact⟨λ e j hj=>h j (.inl (by rw[e];simpa using hj)),λj hj=>h j (.inr hj)⟩
theorem amY{c:CT X.ι}{l:List (CT.T X.toSE c)}:dK ((aF (l.map (CT.row X.toSE c))).take (l.map (CT.row X.toSE c)).length)=aF (l.map (CT.row X.toSE c)):=by rw[take_of_length_le (by simp[aF])];simp only[dK,aF,map_map];exact map_congr_left λy _=>by simp only[Function.comp,map_map];exact map_congr_left λz _=>rfl
theorem Xy{get:Nat->Option (b7 X)}{d:DV X}{c:CT X.ι}{x:List (CT.T X.toSE c)×Nat×List Bool}(h:Wr get d c=some x)(hc:∀b∈x.2.2,b=true):
 d=.own x.2.1 0 (List.length x.1)/\∃o,get x.2.1=some o/\(bI o).sz=(uo c x.1).1/\dK ((bI o).rows.take (uo c x.1).2.length)=aF (uo c x.1).2:=by
 unfold Wr at h;split at h;rename_i k len;rw[ah]at h;obtain⟨o,h1,h⟩:=h;split at h;rename_i b l;rw[ah]at h;obtain⟨l',h2,h⟩:=h;cases h;have⟨h3,h4⟩:=jv h2;have h5:len=List.length l':=by simpa[be]using hc (be len (List.length l')) (by simp)
 refine⟨by rw[h5],.ed b l,h1,by simp;exact h3,?_⟩;simp only[bI,uo,h4];exact amY;cases h;cases h
theorem UI{get:Nat->Option (b7 X)}{d:DV X}{c:CT X.ι}{x:CT.T X.toSE c×Nat}(h:UE get d c=some x):
 d=.ptr x.2 0 0/\∃o,get x.2=some o/\(bI o).sz=(uo c [x.1]).1/\dK ((bI o).rows.take (uo c [x.1]).2.length)=aF (uo c [x.1]).2:=by unfold UE at h;split at h;rw[ah]at h;obtain⟨o,h1,h⟩:=h;split at h;split at h;rename_i hsz;have⟨y,h2,h⟩:=ah.1 h;cases h;refine⟨rfl,_,h1,by simp;exact hsz,?_⟩;simp[bI,uo,dK,aF];rw[xK h2];cases h;cases h;cases h
theorem nk{P:Program}{Γ:FuncId->Option (co X)}(hΓ:rK P Γ){get:Nat->Option (b7 X)}{rd ae:List Nat}:∀{n:Nat}{ds:List (DV X)}{l:List (AT X.ι)}{a:jg X l×List Nat×List Bool},oK Γ get ds l=some a->(∀ b∈a.2.2,b=true)->(∀ j∈aN ds,j∈rd)->(∀ j∈IQ ds l,j∉ae)->ae.drop n=a.2.1->
 (∃ hs obs,(∀ p∈obs,p)/\∀ag,lW P (dG rd (fB get)) ae (bG ds) (hs++ag)=some (dW n l a.1,ag,obs))/\∃mo,Dk (dG rd (fB get)) a.2.1 (uq l a.1)=some mo/\∀p∈mo,p
 |n,[],[],a,h,_,_,_,_=>by simp[oK]at h;subst h;exact⟨⟨[],[],by simp,λag=>rfl⟩,[],rfl,by simp⟩
 |n,d::ds,.mut c::l,a,h,hc,hrd,hnr,hid=>by
  simp[oK]at h;have⟨x,h1,h⟩:=ah.1 h;have⟨q,h2,h⟩:=ah.1 h;cases h;obtain⟨rfl,o,g1,g2,g3⟩:=Xy h1 (λ b hb=>hc b (by simp[hb]));have At:ae[n]? =some x.2.1:=by rw[<- List.head?_drop,hid];rfl
  have Ax:ae.drop (n+1)=q.2.1:=by rw[<- List.tail_drop,hid];rfl
  obtain⟨⟨hs,obs,p1,p2⟩,mo,m1,m2⟩:=nk hΓ (n:=n+1) h2 (λ b hb=>hc b (by simp[hb])) (λ j hj=>hrd j (by simp[aN,hj])) (lu hnr).2 Ax;refine⟨⟨.mut n::hs,obs,p1,λag=>?_⟩,((bI o).sz=(uo c x.1).1/\dK ((bI o).rows.take (uo c x.1).2.length)=aF (uo c x.1).2)::mo,?_,?_⟩;simp[bG,den,lW,pX,At,p2,dW];simp[uq,Dk,eU (hrd x.2.1 (by simp[aN,bz])) g1,m1];intro p hp;rcases aP.1 hp with rfl|hp;exact⟨g2,g3⟩;exact m2 p hp
 |n,d::ds,.jt c::l,a,h,hc,hrd,hnr,hid=>by
  simp[oK]at h;have⟨x,h1,h⟩:=ah.1 h;have⟨q,h2,h⟩:=ah.1 h;cases h;obtain⟨rfl,o,g1,g2,g3⟩:=UI h1;have At:ae[n]? =some x.2:=by rw[<- List.head?_drop,hid];rfl
  have Ax:ae.drop (n+1)=q.2.1:=by rw[<- List.tail_drop,hid];rfl
  obtain⟨⟨hs,obs,p1,p2⟩,mo,m1,m2⟩:=nk hΓ (n:=n+1) h2 (λ b hb=>hc b (by simp[hb])) (λ j hj=>hrd j (by simp[aN,hj])) (lu hnr).2 Ax;refine⟨⟨.mut n::hs,obs,p1,λag=>?_⟩,((bI o).sz=(uo c [x.1]).1/\dK ((bI o).rows.take (uo c [x.1]).2.length)=aF (uo c [x.1]).2)::mo,?_,?_⟩;simp[bG,den,lW,cons_append,pX,At,if_true,ai,p2,dW,fM];simp[uq,Dk,eU (hrd x.2 (by simp[aN,bz])) g1,ai,m1];intro p hp;rcases aP.1 hp with rfl|hp;exact⟨g2,g3⟩;exact m2 p hp
 |n,d::ds,.d c::l,a,h,hc,hrd,hnr,hid=>by simp[oK]at h;have⟨x,h1,h⟩:=ah.1 h;have⟨q,h2,h⟩:=ah.1 h;cases h;obtain⟨hs1,o1,p1,q1⟩:=qX (P:=P) hΓ 3 (n:=n) h1 (λ b hb=>hc b (by simp[hb])) (rd:=rd) (λ j hj=>hrd j (by simp[aN,append_nil]at hj;simp[aN,hj]));obtain⟨⟨hs,obs,p2,q2⟩,mo,m1,m2⟩:=nk hΓ (n:=n) h2 (λ b hb=>hc b (by simp[hb])) (λ j hj=>hrd j (by simp[aN,hj])) (lu hnr).2 hid;refine⟨⟨wc (den d) hs1++hs,o1++obs,gW p1 p2,λag=>?_⟩,mo,m1,m2⟩;have:=xL (Gy (q1 (hs++ag))) (λ k hk=>(lu hnr).1 rfl k (by rwa [iY]at hk));rw[LK]at this;simp[bG,lW,aR,this,ai,q2,dW]
 |n,d::ds,.ref c::l,a,h,hc,hrd,hnr,hid=>by simp[oK]at h;have⟨x,h1,h⟩:=ah.1 h;have⟨q,h2,h⟩:=ah.1 h;cases h;obtain⟨hs1,o1,p1,q1⟩:=qX (P:=P) hΓ 3 (n:=n) h1 (λ b hb=>hc b (by simp[hb])) (rd:=rd) (λ j hj=>hrd j (by simp[aN,append_nil]at hj;simp[aN,hj]));obtain⟨⟨hs,obs,p2,q2⟩,mo,m1,m2⟩:=nk hΓ (n:=n) h2 (λ b hb=>hc b (by simp[hb])) (λ j hj=>hrd j (by simp[aN,hj])) (lu hnr).2 hid;refine⟨⟨wc (den d) hs1++hs,o1++obs,gW p1 p2,λag=>?_⟩,mo,m1,m2⟩;have:=xL (Gy (q1 (hs++ag))) (λ k hk=>(lu hnr).1 rfl k (by rwa [iY]at hk));rw[LK]at this;simp[bG,lW,aR,this,ai,q2,dW]
 |n,d::ds,.ea as r::l,a,h,hc,hrd,hnr,hid=>by simp[oK]at h;have⟨x,h1,h⟩:=ah.1 h;have⟨q,h2,h⟩:=ah.1 h;cases h;obtain⟨hs1,o1,p1,q1⟩:=qX (P:=P) hΓ 3 (n:=n) h1 (λ b hb=>hc b (by simp[hb])) (rd:=rd) (λ j hj=>hrd j (by simp[aN,append_nil]at hj;simp[aN,hj]));obtain⟨⟨hs,obs,p2,q2⟩,mo,m1,m2⟩:=nk hΓ (n:=n) h2 (λ b hb=>hc b (by simp[hb])) (λ j hj=>hrd j (by simp[aN,hj])) (lu hnr).2 hid;refine⟨⟨wc (den d) hs1++hs,o1++obs,gW p1 p2,λag=>?_⟩,mo,m1,m2⟩;have:=xL (Gy (q1 (hs++ag))) (λ k hk=>(lu hnr).1 rfl k (by rwa [iY]at hk));rw[LK]at this;simp[bG,lW,aR,this,ai,q2,dW]
 |n,d::ds,.nil::l,a,h,hc,hrd,hnr,hid=>by simp[oK]at h;split at h;have⟨q,h2,h⟩:=ah.1 h;cases h;obtain⟨⟨hs,obs,p2,q2⟩,mo,m1,m2⟩:=nk hΓ (n:=n) h2 hc (λ j hj=>hrd j (by simp[aN,hj])) (lu hnr).2 hid;refine⟨⟨.nil::hs,obs,p2,λag=>?_⟩,mo,m1,m2⟩;have:=xL (P:=P) (get':=dG rd (fB get)) (ae:=ae) (x:=.cT) (hs:=.nil::(hs++ag)) (p:=(.cT,hs++ag,[])) rfl (λ k hk=>by simp[refs]at hk);simp[wc]at this;simp[bG,den,lW,cons_append,this,ai,q2,dW,fM];cases h
 |_,[],_::_,_,h,_,_,_,_=>by simp[oK]at h
 |_,_::_,[],_,h,_,_,_,_=>by simp[oK]at h
theorem acu{P:Program}(hΓ:rK P Γ){i:Nat}{f:DV X}{args:List (DV X)}{get:Nat->Option (b7 X)}{k:KK X A}{r:A}(h:T2 Γ i f args get k=some r):
 ∃cC rd wr dv upd ab,lg P i (den f) (bG args) cC (dG rd (fB get))=some ab/\kg ab.obs/\ab.v=den dv/\ab.upd=iX upd/\(∀ p∈upd,p.1=cH i\/p.1∈wr)/\k dv upd rd wr=some r:=by
 unfold T2 at h;split at h;rename_i F first caps
 rw[ah]at h;obtain⟨s,h1,h⟩:=h;split at h;rename_i g hgen;exact aaq ((hΓ F s h1).2.2 g (Option.filter_eq_some_iff.1 hgen).1) h;split at h;rename_i hpure;rw[ah]at h;obtain⟨⟨a,cs⟩,h2,h⟩:=h;have⟨hcs,h⟩:=pq h;rw[ah]at h;obtain⟨x,h3,h⟩:=h;rw[ah]at h;obtain⟨p,h4,h⟩:=h;have hf0:=(hΓ F s h1).2.1 a x h3;simp only[bq]at hpure;rw[Gt (anG hpure.1),ab8 hpure.2]at hf0;have hf:=TU hf0;have hi:=acr h4;have hk:=YT h4;obtain⟨hs,obs,g1,g2⟩:=qX (P:=P) hΓ 3 h2 hcs (rd:=aN (first++args++caps)) (λ j hj=>hj);have g3:=g2 [];rw[append_nil,iF,iF]at g3;have hrefs:dV (bG first++bG args++bG caps)=aN (first++args++caps):=by rw[<- iF,<- iF,iZ]
 split at h;rename_i hfl;refine⟨.call hs (rP s.res x) true,_,[],p.1,p.2,⟨den p.1,iX p.2,obs++[so P F (yh s.args a) (rP s.res x),(rP s.res x).flat]⟩,?_,?_,rfl,rfl,λq hq=>.inl (hk q hq),h⟩;simp only[den,lg,qh,zA,hi,ai,g3];rfl;exact qy _ (gW g1 (by intro q hq;simp only[aP,mY,or_false]at hq;rcases hq with rfl|rfl;exact hf;exact UC x hfl));refine⟨.call hs (rP s.res x) false,_,_,p.1,_,⟨den p.1,iX p.2++(aN (first++args++caps)).map (λ k=>(k,none)),obs++[so P F (yh s.args a) (rP s.res x)]⟩,?_,?_,rfl,?_,?_,h⟩;simp only[den,lg,qh,zA,hi,ai,g3,hrefs];rfl;exact qy _ (gW g1 (by intro q hq;simp only[aZ]at hq;subst hq;exact hf));simp[qY,BU];intro q hq;rcases bO.1 hq with hq|hq;exact .inl (hk q hq);exact .inr (IK hq);rename_i hpure;rw[ah]at h;obtain⟨⟨a,ae,cs⟩,h2,h⟩:=h;have⟨hcs,h⟩:=pq h;rw[ah]at h;obtain⟨x,h3,h⟩:=h;rw[ah]at h;obtain⟨p,h4,h⟩:=h;split at h;rename_i hc;simp only[bq,bM]at hc;obtain⟨⟨hnd,hnr⟩,hlen⟩:=hc;have hf:=(hΓ F s h1).2.1 a x h3;have hi:=acr h4;have hk:=YT h4;obtain⟨⟨hs,obs,g1,g2⟩,mo,m1,m2⟩:=nk (P:=P) hΓ (rd:=aN (first++args++caps)) (ae:=ae) (n:=0) h2 hcs (λ j hj=>hj) (λ j hj=>by simpa using all_eq_true.1 hnr j hj) rfl;have g3:=g2 [];rw[append_nil,iF,iF]at g3;have hrefs:dV (bG first++bG args++bG caps)=aN (first++args++caps):=by rw[<- iF,<- iF,iZ]
 have hlen':(nN s.res x).length=ae.length:=by rw[<- hlen];simpa using (congrArg List.length (Om s.res x)).symm
 have hout:iX (JR ae (UD s.res x))=Al ae (nN s.res x):=YS _ _ _ (Om s.res x);split at h;rename_i hfl;refine⟨.ta ae (uq s.args a) (nN s.res x) hs (rP s.res x) true,_,ae,p.1,_,⟨den p.1,iX p.2++Al ae (nN s.res x),obs++mo++[p4 P F (yh s.args a) (uq s.args a) (nN s.res x) (rP s.res x),(rP s.res x).flat,Tq (nN s.res x)]⟩,?_,?_,rfl,?_,?_,h⟩;simp only[den,lg,qh,Gg,hi,ai,m1,g3];rw[bA ⟨hnd,hlen'⟩];rfl;refine qy _ (gW (gW g1 m2) ?_);intro q hq;simp only[aP,mY,or_false]at hq;rcases hq with rfl|rfl|rfl;exact hf;exact UC x hfl;exact YP hfl;simp[qY,hout];intro q hq;rcases bO.1 hq with hq|hq;exact .inl (hk q hq);exact .inr (Kl hq);refine⟨.ta ae (uq s.args a) (nN s.res x) hs (rP s.res x) false,_,_,p.1,_,⟨den p.1,iX p.2++(Al ae (nN s.res x)++((aN (first++args++caps)).filter λj=>!ae.contains j).map (λ k=>(k,none))),obs++mo++[p4 P F (yh s.args a) (uq s.args a) (nN s.res x) (rP s.res x)]⟩,?_,?_,rfl,?_,?_,h⟩;simp only[den,lg,qh,Gg,hi,ai,m1,g3,Gf,hrefs];rw[bA ⟨hnd,hlen'⟩];rfl;refine qy _ (gW (gW g1 m2) ?_);intro q hq;simp only[aZ]at hq;subst hq;exact hf;simp[qY,hout,BU];intro q hq;rcases bO.1 hq with hq|hq;exact .inl (hk q hq);rcases bO.1 hq with hq|hq;exact .inr (mem_append_left _ (Kl hq));exact .inr (mem_append_right _ (IK hq));cases h;rename_i as q φ;rw[ah]at h;obtain⟨⟨hh,cs⟩,h1,h⟩:=h;have⟨hcs,h⟩:=pq h;rw[ah]at h;obtain⟨y,h2,h⟩:=h;obtain⟨hs,obs,g1,g2⟩:=LP (P:=P) h1 hcs (rd:=aN args) (λ j hj=>hj);have g3:=g2 [];rw[append_nil]at g3;have hφ:∃h' x',φ h'=some x'/\HL.mw X.toSE as hh=HL.mw X.toSE as h'/\CT.tv X.toSE q y=CT.tv X.toSE q x':=⟨hh,y,h2,rfl,rfl⟩;split at h;rename_i hfl;refine⟨.B4 hs (HL.mw X.toSE as hh) (CT.tv X.toSE q y) true,_,[],.c q y,[],⟨(CT.tv X.toSE q y).av,[],obs++[(HL.mw X.toSE as hh).map TV.av=(HL.mw X.toSE as hh).map TV.av,(∃ h' x',φ h'=some x'/\HL.mw X.toSE as hh=HL.mw X.toSE as h'/\CT.tv X.toSE q y=CT.tv X.toSE q x'),(CT.tv X.toSE q y).flat]⟩,?_,?_,rfl,rfl,by simp,h⟩;simp only[den,lg,qh,zA,g3,ai];rfl;exact qy _ (gW g1 (by intro z hz;simp only[aP,mY,or_false]at hz;rcases hz with rfl|rfl|rfl;trivial;exact hφ;exact aco hfl y));refine⟨.B4 hs (HL.mw X.toSE as hh) (CT.tv X.toSE q y) false,_,_,.c q y,_,⟨(CT.tv X.toSE q y).av,(aN args).map (λ k=>(k,none)),obs++[(HL.mw X.toSE as hh).map TV.av=(HL.mw X.toSE as hh).map TV.av,(∃ h' x',φ h'=some x'/\HL.mw X.toSE as hh=HL.mw X.toSE as h'/\CT.tv X.toSE q y=CT.tv X.toSE q x')]⟩,?_,?_,rfl,(BU _).symm,λz hz=>.inr (IK hz),h⟩;simp only[den,lg,qh,zA,g3,ai,iZ];rfl;exact qy _ (gW g1 (by intro z hz;simp only[aP,mY,or_false]at hz;rcases hz with rfl|rfl;trivial;exact hφ));cases h
theorem ae9{P:Program}(hΓ:rK P Γ){fz:List Nat}{T:el}{am:TypeId->Option (CT X.ι)}{i:Nat}{o:Oper}{ρ:Operand->DV X}{get:Nat->Option (b7 X)}{k:KK X A}{r:A}(h:CM Γ fz T am i o.op ρ get k=some r):d8 P T i o ρ get k r:=by
 obtain⟨dst,op,ty,ao,after,guard⟩:=o;unfold CM at h;simp only at h;split at h
 ·have:=acu hΓ h;simp only[<- Sm]at this;obtain⟨cC,rd,wr,dv,upd,ab,g1,g2⟩:=this;exact .call g1 g2
 ·split at h
  ·exact ae2 (o:=⟨dst,op,ty,ao,after,guard⟩) h
  ·split at h
   ·exact ae3 (o:=⟨dst,op,ty,ao,after,guard⟩) h
   ·split at h
    ·exact ae4 (o:=⟨dst,op,ty,ao,after,guard⟩) h
    ·rename_i hne _ _ _;have⟨cC,rd,wr,dv,upd,ab,g1,g2⟩:=YF (o:=⟨dst,op,ty,ao,after,guard⟩) h;exact d8.op (λ f args de e=>hne f args de e) g1 g2
end
def lf(x y:AV):Prop:=∀P β w I v,VR P β w I x v->VR P β w I y v
theorem lf.refl(x:AV):lf x x:=λ_ _ _ _ _ h=>h
theorem lf.undef(x:AV):lf x .undef:=λ_ _ _ _ _ _=>by simp[VR]
theorem lf.wk(x:AV):lf x (wk x):=λ_ _ _ _ _ h=>h.wk
section
variable {P:Program} {w0:World} {O0:kq} {N:Nat} {β:Nat->Option cJ} {I:Nat->Prop} {a:Act} {w:World} {f g:Nat->Nat} {D:Nat->Prop}
mutual
theorem VR.rn(hgf:∀k,D k->g (f k)=k):∀(x:AV)(v:Value),(∀ k∈refs x,D k)->VR P β w I x v->VR P (λ j=>β (g j)) w I (js f x) v
 |.own k aa len,v,hd,h=>by simp[js,VR,hgf k (hd k (by simp[refs]))]at h ⊢;exact h
 |.ptr k row aa,v,hd,h=>by simp[js,VR,hgf k (hd k (by simp[refs]))]at h ⊢;exact h
 |.agg cs,v,hd,h=>by simp[VR]at h ⊢;obtain⟨vs,h1,h2⟩:=h;exact⟨vs,h1,br.rn hgf cs _ (by simpa[refs]using hd) h2⟩
 |.eV cs,v,hd,h=>by simp[VR]at h ⊢;obtain⟨vs,h1,h2⟩:=h;exact⟨vs,h1,br.rn hgf cs _ (by simpa[refs]using hd) h2⟩
 |.fn F first caps,v,hd,h=>by simp[VR]at h ⊢;obtain⟨fs,cs,h1,h2,h3⟩:=h;exact⟨fs,cs,h1,br.rn hgf first _ (λ k hk=>hd k (by simp[refs,hk])) h2,br.rn hgf caps _ (λ k hk=>hd k (by simp[refs,hk])) h3⟩
 |.t x,v,_,h|.en r o,v,_,h|.ea φ,v,_,h=>by simpa[js,VR]using h
 |.mp k,v,hd,h=>by simp[js,VR,hgf k (hd k (by simp[refs]))]at h ⊢;exact h
 |.oz k len,v,hd,h=>by simp[js,VR,hgf k (hd k (by simp[refs]))]at h ⊢;exact h
 |.cT,v,_,h|.ub,v,_,h=>by simpa[js,VR]using h
 |.undef,v,_,h=>by simp[js,VR]
theorem br.rn(hgf:∀k,D k->g (f k)=k):∀(xs:List AV)(vs:List Value),(∀ k∈dV xs,D k)->br P β w I xs vs->br P (λ j=>β (g j)) w I (Am f xs) vs
 |[],[],_,_=>by simp[Am,br]
 |x::xs,v::vs,hd,h=>by simp[br]at h;simp[Am];exact⟨VR.rn hgf x v (λ k hk=>hd k (by simp[dV,hk])) h.1,br.rn hgf xs vs (λ k hk=>hd k (by simp[dV,hk])) h.2⟩
 |[],_::_,_,h|_::_,[],_,h=>by simp[br]at h
end
def mj(D:Nat->Prop)(f:Nat->Nat):List AV->List AV->Prop
 |[],[]=>True
 |x::xs,y::ys=>((∀ k∈refs x,D k)/\lf (js f x) y)/\mj D f xs ys
 |_,_=>False
def io(D:Nat->Prop)(f:Nat->Nat):List (List AV)->List (List AV)->Prop
 |[],[]=>True
 |r::rs,q::qs=>mj D f r q/\io D f rs qs
 |_,_=>False
theorem mj.length:∀{r q:List AV},mj D f r q->q.length=r.length
 |[],[],_=>rfl
 |_::xs,_::ys,h=>by simp[mj.length h.2]
 |[],_::_,h|_::_,[],h=>h.elim
theorem c7.re(hgf:∀k,D k->g (f k)=k):∀{r q:List AV}{c:Array Value}{aa:Nat},mj D f r q->c7 P β w I r c aa->c7 P (λ j=>β (g j)) w I q c aa
 |[],[],_,_,_,_=>trivial
 |x::xs,y::ys,c,aa,hr,⟨⟨v,h1,h2,h3⟩,h4⟩=>⟨⟨v,h1,hr.1.2 _ _ _ _ _ (VR.rn hgf x v hr.1.1 h2),h3⟩,c7.re hgf hr.2 h4⟩
 |[],_::_,_,_,h,_|_::_,[],_,_,h,_=>h.elim
theorem b9.re(hgf:∀k,D k->g (f k)=k):∀{rs qs:List (List AV)}{c:Array Value}{aa sz:Nat},io D f rs qs->b9 P β w I rs c aa sz->b9 P (λ j=>β (g j)) w I qs c aa sz
 |[],[],_,_,_,_,_=>trivial
 |r::rs,q::qs,c,aa,sz,hr,⟨h1,h2,h3⟩=>⟨by rw[hr.1.length];exact h1,c7.re hgf hr.1 h2,b9.re hgf hr.2 h3⟩
 |[],_::_,_,_,_,h,_|_::_,[],_,_,_,h,_=>h.elim
theorem br.re(hgf:∀k,D k->g (f k)=k):∀{r q:List AV}{vs:List Value},mj D f r q->br P β w I r vs->br P (λ j=>β (g j)) w I q vs
 |[],[],[],_,_=>by simp[br]
 |x::xs,y::ys,v::vs,hr,h=>by exact⟨hr.1.2 _ _ _ _ _ (VR.rn hgf x v hr.1.1 h.1),br.re hgf hr.2 h.2⟩
 |[],_::_,_,h,_|_::_,[],_,h,_=>h.elim
 |[],[],_::_,_,h|_::_,_::_,[],_,h=>by simp[br]at h
theorem cE.re(hgf:∀k,D k->g (f k)=k):∀{rs qs:List (List AV)}{es:List MapEntry},io D f rs qs->cE P β w I rs es->cE P (λ j=>β (g j)) w I qs es
 |[],[],[],_,_=>trivial
 |r::rs,q::qs,_::es,hr,⟨h1,h2⟩=>⟨br.re hgf hr.1 h1,cE.re hgf hr.2 h2⟩
 |[],_::_,_,h,_|_::_,[],_,h,_|[],[],_::_,_,h|_::_,_::_,[],_,h=>h.elim
theorem io.length:∀{rs qs:List (List AV)},io D f rs qs->qs.length=rs.length
 |[],[],_=>rfl
 |_::xs,_::ys,h=>by simp[io.length h.2]
 |[],_::_,h|_::_,[],h=>h.elim
theorem Rel.re{s s':St}(hgf:∀k,D k->g (f k)=k)(hg:∀j,j<1000->g j=j)(hr:Rel P w0 O0 N β I s a w)(hok:∀t,s.ok t=none\/s'.env t=.undef)(hok':∀t,s'.ok t=none)
 (hE:∀t,s'.env t=.undef\/((∀ k∈refs (s.env t),D k)/\lf (js f (s.env t)) (s'.env t)))
 (hO:∀j o',s'.obj j=some o'->∃k o,s.obj k=some o/\D k/\f k=j/\o'.sz=o.sz/\io D f o.rows o'.rows):Rel P w0 O0 N (λ j=>β (g j)) I s' a w:=by
 refine⟨hr.defers,hr.size,λt=>?_,?_⟩
 ·have h1:=hr.env t;rw[hok' t];rcases hok t with hk|h
  rotate_left
  rw[h];simp[eW,VR];rw[hk]at h1;rcases hE t with h|⟨h2,h3⟩;rw[h];simp[eW,VR];exact h3 _ _ _ _ _ (VR.rn hgf _ _ h2 h1)
 have hm:=hr.mem;constructor;intro j o' hj;obtain⟨k,o,h1,h2,rfl,h4,h5⟩:=hO j o' hj;have⟨B,hB,ro⟩:=hm.cN k o h1;refine⟨B,by simp[hgf k h2];exact hB,?_⟩;cases B with
 |none=>
  simp[OR]at ro ⊢;rw[ro]at h5;cases ho:o'.rows with
  |nil=>rfl
  |cons=>rw[ho]at h5;exact h5.elim
 | «at» b sz n=>
  obtain⟨g1,c,e,g2,g3,g4⟩:=ro;exact⟨by rw[g1,h4],c,e,g2,g3,b9.re hgf h5 g4⟩
 |mp b=>
  obtain⟨es,cl,g1,gl,g2,g3⟩:=ro;have hl:=h5.length;exact⟨es,cl,g1,by omega,λe=>cE.re hgf h5 (g2 (by omega)),g3⟩
 intro j j' o o' B B' b h1 h2 h3 h4 h5 h6;obtain⟨k,q,i1,i2,rfl,_⟩:=hO j o h1;obtain⟨k',q',i1',i2',rfl,_⟩:=hO j' o' h2;simp[hgf k i2,hgf k' i2']at h3 h4;rw[hm.gz k k' q q' B B' b i1 i1' h3 h4 h5 h6];intro j o B b h1 h2;obtain⟨k,q,i1,i2,rfl,_⟩:=hO j o h1;simp[hgf k i2]at h2;exact hm.ownB k q B b i1 h2;exact hm.lt;exact hm.up;exact hm.keep;exact hm.le;exact hm.os;exact hm.tape;exact hm.output;intro j B hj;show β (g j)=some B;rw[hg j (O0.lt j B hj)];exact hm.anch j B hj;exact hm.vars
end
section
variable {X:SX}
theorem acv{D:Nat->Prop}(f:Nat->Nat):∀r:List (DV X),(∀ k∈aN r,D k)->mj D f (bG r) (bG (Ki f r))
 |[],_=>trivial
 |x::xs,h=>⟨⟨λ k hk=>h k (by rw[iY]at hk;simp[aN,hk]),by rw[zH];exact lf.refl _⟩,acv f xs λk hk=>h k (by simp[aN,hk])⟩
theorem IU{D:Nat->Prop}(f:Nat->Nat)(o:b7 X)(h:∀k∈d7 o,D k):(bI (pg f o)).sz=(bI o).sz/\io D f (bI o).rows (bI (pg f o)).rows:=by
 cases o with
 |cells sz rows=>
  refine⟨rfl,?_⟩;simp only[d7]at h
  induction rows with
  |nil=>trivial
  |cons r rs ih=>
   refine⟨acv f r λk hk=>h k (by simp[hk]),ih λk hk=>h k ?_⟩;simp only[bg,flatten_cons,bO];exact .inr hk
 |ed c l=>
  refine⟨rfl,?_⟩;simp[bI,pg];generalize l.map (CT.row X.toSE c)=rows;have hrow:∀r:List Tree,mj D f (r.map AV.t) (r.map AV.t):=by
   intro r
   induction r with
   |nil=>trivial
   |cons y ys ih=>exact⟨⟨by simp[refs],lf.refl _⟩,ih⟩
  induction rows with
  |nil=>trivial
  |cons r rs ih=>exact⟨hrow r,ih⟩
 |map kc vc l=>
  refine⟨rfl,?_⟩;clear h
  induction l with
  |nil=>trivial
  |cons p ps ih=>exact⟨⟨⟨by simp[zF],by rw[Uy];exact lf.refl _⟩,⟨by simp[zF],by rw[Uy];exact lf.refl _⟩,trivial⟩,ih⟩
structure Low(s:df X):Prop where
 le:s.nx<=1000000
 ge:1000<=s.nx
 env:∀t,∀k∈bz (eI s.env t),k<s.nx
 obj:∀k o,gE s.obj k=some o->k<s.nx/\∀j∈d7 o,j<s.nx
theorem UJ{o:b7 X}{r:List AV}{x:AV}(hr:r∈(bI o).rows)(hx:x∈r):∀j∈refs x,j∈d7 o:=by
 intro j hj;cases o with
 |cells sz rows=>
  simp[bI]at hr;obtain⟨q,hq,rfl⟩:=hr;rw[nM,mem_map]at hx;obtain⟨d,hd,rfl⟩:=hx;simp[d7];refine⟨_,⟨q,hq,rfl⟩,?_⟩;have:∀l:List (DV X),d∈l->j∈aN l:=by
   intro l
   induction l with
   |nil=>intro h;simp at h
   |cons y ys ih=>intro h;rcases aP.1 h with rfl|h
                  simp[aN];left;rwa [iY]at hj;simp[aN];exact .inr (ih h)
  exact this q hd
 |ed c l=>
  simp[bI,aF]at hr;obtain⟨q,_,rfl⟩:=hr;simp at hx;obtain⟨t,_,rfl⟩:=hx;simp[refs]at hj
 |map kc vc l=>
  simp only[bI,mem_map]at hr;obtain⟨q,_,rfl⟩:=hr;simp at hx;rcases hx with rfl|rfl<;>simp[zF]at hj
theorem Low.old{s:df X}(h:Low s):te s.st:=by have hle:=h.le;constructor;intro t k hk;have:=h.env t k (by rw[<- iY];exact hk);omega;intro k o hk;simp[df.st]at hk;obtain⟨o',h1,rfl⟩:=hk;have⟨h2,h3⟩:=h.obj k o' h1;refine⟨by omega,λr hr x hx j hj=>?_⟩;have:=h3 j (UJ hr hx j hj);omega
end
section
variable {X:SX} {A:Type}
def ov(e b:List (Nat×DV X))(t:Nat):DV X:=match lk e t with|some x=>x|none=>eI b t
def vi(o b:List (Nat×Option (b7 X)))(k:Nat):Option (b7 X):=match lk o k with|some x=>x|none=>gE b k
def zf(dst:Option Tmp)(dv:DV X)(e:List (Nat×DV X)):List (Nat×DV X):=match dst with|some t=>(t,dv)::e|none=>e
def UK:DV X->DV X
 |.skip=>.undef
 |x=>x
def JS(e:List (Nat×DV X)):Operand->Bool
 |.tmp t=>match lk e t with|some .skip=>false|_=>true
 |_=>true
def Qk(e b:List (Nat×DV X))(o:Op):Bool:=
 match o with
 |.pick c x y=>JS e c&&((JS e x&&JS e y) || match Xt (ov e b) c with|.c .bool t=>bif t then JS e x else JS e y|_=>false)
 |o=>o.operands.toList.all (JS e)
abbrev C0:=List (Nat×List Nat×List Nat)
section
variable (Γ:FuncId->Option (co X)) (fz:List Nat) (T:el) (am:TypeId->Option (CT X.ι)) (al:Array Oper) (b:df X)
def yx(k:List (Nat×DV X)->List (Nat×Option (b7 X))->C0->Option A):List Nat->List (Nat×DV X)->List (Nat×Option (b7 X))->C0->Option A
 |[],e,o,m9=>k e o m9
 |i::r,e,o,m9=>(al[i]?).bind λop=>match op.guard with
  |none=>bif Qk e b.env op.op then CM Γ fz T am i op.op (Xt (ov e b.env)) (vi o b.obj) λdv upd rd wr=>yx k r (zf op.dst (UK dv) e) (upd++o) ((i,rd,wr)::m9)else none
  |some (j,p)=>((al[j]?).bind (·.dst)).bind λt=>match ov e b.env t with
   |.c .bool v=>
    bif v then(bif p then(bif Qk ((t,.c .bool true)::e) b.env op.op then CM Γ fz T am i op.op (Xt (ov ((t,.c .bool true)::e) b.env)) (vi o b.obj) λdv upd rd wr=>yx k r (zf op.dst (UK dv) ((t,.c .bool true)::e)) (upd++o) ((i,rd,wr)::m9)else none)
     else yx k r (zf op.dst .skip ((t,.c .bool true)::e)) o ((i,[],[])::m9))
    else(bif p then yx k r (zf op.dst .skip ((t,.c .bool false)::e)) o ((i,[],[])::m9)
     else(bif Qk ((t,.c .bool false)::e) b.env op.op then CM Γ fz T am i op.op (Xt (ov ((t,.c .bool false)::e) b.env)) (vi o b.obj) λdv upd rd wr=>yx k r (zf op.dst (UK dv) ((t,.c .bool false)::e)) (upd++o) ((i,rd,wr)::m9)else none))
   |.skip=>bif(lk e t).isSome then yx k r (zf op.dst .skip e) o ((i,[],[])::m9)else none
   |_=>none
end
def iE(b:df X)(e:List (Nat×DV X))(o:List (Nat×Option (b7 X))):St:=⟨λ t=>den (ov e b.env t),λk=>(vi o b.obj k).map bI,λt=>match lk e t with|some .skip=>some false|_=>none⟩
theorem ahS(x:DV X):den (UK x)=den x:=by cases x<;>rfl
theorem ajA(b:df X)(e:List (Nat×DV X))(o:List (Nat×Option (b7 X)))(dst:Option Tmp)(dv:DV X)(upd:List (Nat×Option (b7 X)))(obs:List Prop):
 (iE b e o).app dst (⟨den dv,iX upd,obs⟩,none)=iE b (zf dst (UK dv) e) (upd++o):=by
 simp[iE,St.app];refine⟨?_,?_,?_⟩;funext t;cases dst with
 |none=>simp[Ao,zf]
 |some d=>
  simp[Ao,zf,ov,lk];by_cases h:d=t<;>simp[h,ahS]
 funext j
 induction upd with
 |nil=>rfl
 |cons p u ih=>
  obtain⟨q,x⟩:=p;simp[iX,bT,vi,lk]at ih ⊢;by_cases h:j=q;simp[h];rw[bn h,bn (Ne.symm h)];exact ih
 funext t;cases dst with
 |none=>simp[Ao,zf]
 |some d=>
  simp[Ao,zf,lk];by_cases h:d=t;simp[h];cases dv<;>rfl;simp[bn h]
theorem ahT(b:df X)(e:List (Nat×DV X))(o:List (Nat×Option (b7 X)))(dst:Option Tmp):(iE b e o).app dst (⟨.undef,[],[]⟩,some false)=iE b (zf dst .skip e) o:=by
 simp[iE,St.app];refine⟨?_,rfl,?_⟩;funext t;cases dst with
 |none=>simp[Ao,zf]
 |some d=>
  simp[Ao,zf,ov,lk];by_cases h:d=t<;>simp[h,den]
 funext t;cases dst with
 |none=>simp[Ao,zf]
 |some d=>
  simp[Ao,zf,lk];by_cases h:d=t<;>simp[h]
theorem acw(b:df X)(e:List (Nat×DV X))(o:List (Nat×Option (b7 X))):lv (iE b e o).env=λx=>den (Xt (ov e b.env) x):=by funext x;exact(Ub _ x).symm
theorem Ca{b:df X}{e:List (Nat×DV X)}{o:List (Nat×Option (b7 X))}{x:Operand}(h:JS e x=true):wN (iE b e o).ok x=[]:=by
 cases x with
 |tmp t=>
  simp[JS]at h;simp[wN,iE];cases ht:lk e t with
  |none=>rfl
  |some d=>rw[ht]at h;cases d<;>first|rfl|cases h
 |_=>rfl
theorem ahU{b:df X}{e:List (Nat×DV X)}{o:List (Nat×Option (b7 X))}{P:Program}{T:el}{i:Nat}{op:Oper}{cC:i6}{get:Nat->Option aS}{ab:Out}(hok:Qk e b.env op.op=true)
 (h:jJ P T i op cC (lv (iE b e o).env) get=some ab):∀p∈needs (iE b e o).env (iE b e o).ok op.op,p:=by
 obtain⟨dst,op,ty,ao,after,guard⟩:=op;unfold needs;split
 ·rename_i c x y heq;simp only at heq;subst heq;simp only[Qk,bq,Bool.or_eq_true]at hok;obtain⟨hc,hxy⟩:=hok;have hb:∃t,lv (iE b e o).env c=.t (.sc (.bool t)):=by
   have h0:(∃ n,cC=.ext n)\/(∃ ae fr q,cC=.vq ae fr q)\/pV T i ⟨dst,.pick c x y,ty,ao,after,guard⟩ cC (lv (iE b e o).env) get=some ab:=(by cases cC<;>first|exact .inl ⟨_,rfl⟩|exact .inr (.inl ⟨_,_,_,rfl⟩)|exact .inr (.inr h));rcases h0 with ⟨n,rfl⟩|⟨ae,fr,q,rfl⟩|h0
   ·simp[jJ,rM,HU,rJ]at h
   ·simp[jJ,Gh,Wc]at h
   ·simp only[pV]at h0;split at h0
    ·rename_i t ht;exact⟨t,ht⟩
    ·cases h0
  obtain⟨t,ht⟩:=hb;rw[ht];simp only[Ca hc,fM];rcases hxy with ⟨hx,hy⟩|hxy
  ·simp[Ca hx,Ca hy]
  ·split at hxy
   ·rename_i t' ht';have e1:lv (iE b e o).env c=.t (.sc (.bool t')):=(by rw[acw];simp only[ht'];rfl);rw[e1]at ht;injection ht with ht;injection ht with ht;injection ht with ht;subst ht;cases t' with
    |true=>
     simp only[aj]at hxy;simp[Ca hxy]
    |false=>
     simp only[ax]at hxy;simp[Ca hxy]
   ·cases hxy
 ·rename_i o' hne;intro p hp;have hall:∀x∈op.operands.toList,JS e x=true:=by have:Qk e b.env op=op.operands.toList.all (JS e):=(by cases op<;>first|rfl|exact(hne _ _ _ rfl).elim);rw[this]at hok;exact all_eq_true.1 hok
  simp only[mem_flatMap]at hp;obtain⟨x,hx,hp⟩:=hp;rw[Ca (hall x hx)]at hp;simp at hp
theorem ajB{a b:List Prop}(h:∀p∈a,p)(h':kg b):kg (a++b):=qy _ (gW h (Lp b h'))
variable {Γ:FuncId->Option (co X)} {fz:List Nat} {T:el} {am:TypeId->Option (CT X.ι)} {al:Array Oper} {b:df X} {P:Program}
theorem ahV(hΓ:rK P Γ){i:Nat}{op:Oper}{e:List (Nat×DV X)}{o:List (Nat×Option (b7 X))}{k:KK X A}{r:A}(hop:al[i]? =some op)(hw:want al op (iE b e o).env (iE b e o).ok=some true)(hok:Qk e b.env op.op=true)
 (h:CM Γ fz T am i op.op (Xt (ov e b.env)) (vi o b.obj) k=some r):
 ∃(a:ml)(dv:DV X)(upd:List (Nat×Option (b7 X))),a.sym=false/\k dv upd a.rd a.wr=some r/\∀(cX:Nat->ml)(K:St->Prop),cX i=a->K (iE b (zf op.dst (UK dv) e) (upd++o))->vy P T al cX i K (iE b e o):=by
 have⟨cC,rd,wr,dv,upd,ab,h1,h2,h3,h4,h5,h6⟩:=ae9 hΓ h;refine⟨⟨cC,rd,wr,false⟩,dv,upd,rfl,h6,λcX K ha hK=>?_⟩;have h1':jJ P T i op cC (lv (iE b e o).env) (dG rd (iE b e o).obj)=some ab:=by rw[acw];exact h1
 refine⟨op,(⟨ab.v,ab.upd,needs (iE b e o).env (iE b e o).ok op.op++ab.obs⟩,none),hop,?_,?_,?_⟩;simp only[opAt,hop,ai,hw,ha,h1'];rw[bA];rw[all_eq_true];intro p hp;rw[h4]at hp;simp only[iX,mem_map]at hp;obtain⟨q,hq,rfl⟩:=hp;rcases h5 q hq with h|h;simp[h,Tz.2 (.inl rfl:ir (cH i) (cH i))];simp[h];exact ajB (ahU hok h1') h2;rw[h3,h4,ajA];exact hK
theorem step_skip{i:Nat}{op:Oper}{e:List (Nat×DV X)}{o:List (Nat×Option (b7 X))}(hop:al[i]? =some op)(hw:want al op (iE b e o).env (iE b e o).ok=some false)
 (cX:Nat->ml) (K:St->Prop) (ha:cX i=⟨.none,[],[],false⟩) (hK:K (iE b (zf op.dst .skip e) o)):vy P T al cX i K (iE b e o):=by refine⟨op,(⟨.undef,[],[]⟩,some false),hop,?_,trivial,?_⟩;simp[opAt,hop,hw,ha];rw[ahT];exact hK
theorem afa{e:List (Nat×DV X)}{o:List (Nat×Option (b7 X))}{t:Nat}{v:Bool}(h:ov e b.env t=.c .bool v):iE b ((t,.c .bool v)::e) o=iE b e o:=by
 simp[iE];refine⟨?_,?_⟩;funext s;by_cases hs:t=s;subst hs;rw[h];simp[ov,lk];simp[ov,lk,hs];funext s;by_cases hs:t=s;subst hs;simp[lk];unfold ov at h;cases ht:lk e t with
 |none=>rfl
 |some d=>rw[ht]at h;simp at h;subst h;rfl
 simp[lk,hs]
def Jj(tr:List (Nat×ml)):C0:=tr.map λp=>(p.1,p.2.rd,p.2.wr)
def Ql(al:Array Oper)(t:Nat):Prop:=∃(j:Nat)(op:Oper),al[j]? =some op/\op.dst=some t
theorem acy{dst:Option Tmp}{dv:DV X}{e:List (Nat×DV X)}{p:Nat×DV X}(h:p∈zf dst dv e):p∈e\/dst=some p.1:=by
 cases dst with
 |none=>exact .inl h
 |some t=>
  simp[zf]at h;rcases h with rfl|h;exact .inr rfl;exact .inl h
theorem Dw(hΓ:rK P Γ){k:List (Nat×DV X)->List (Nat×Option (b7 X))->C0->Option A}{r:A}:∀(l:List Nat)(e:List (Nat×DV X))(o:List (Nat×Option (b7 X)))(m9:C0),yx Γ fz T am al b k l e o m9=some r->
 ∃(tr:List (Nat×ml))(e':List (Nat×DV X))(o':List (Nat×Option (b7 X))),tr.map (·.1)=l/\k e' o' ((Jj tr).reverse++m9)=some r/\(∀ p∈e',p∈e\/Ql al p.1)/\
  ∀cX:Nat->ml,(∀ p∈tr,cX p.1=p.2)->TK P T al cX (λ σ=>σ=iE b e' o') l (iE b e o)
 |[],e,o,m9,h=>⟨[],e,o,rfl,h,λ_ hp=>.inl hp,λ_ _=>rfl⟩
 |i::l,e,o,m9,h=>by
  simp[yx]at h;have⟨op,hop,h⟩:=ah.1 h
  have exec:∀e:List (Nat×DV X),want al op (iE b e o).env (iE b e o).ok=some true->
   (bif Qk e b.env op.op then CM Γ fz T am i op.op (Xt (ov e b.env)) (vi o b.obj) λdv upd rd wr=>yx Γ fz T am al b k l (zf op.dst (UK dv) e) (upd++o) ((i,rd,wr)::m9)else none)=some r->
   ∃(tr:List (Nat×ml)) (e':List (Nat×DV X)) (o':List (Nat×Option (b7 X))),tr.map (·.1)=i::l/\k e' o' ((Jj tr).reverse++m9)=some r/\(∀ p∈e',p∈e\/Ql al p.1)/\
    ∀cX:Nat->ml,(∀ p∈tr,cX p.1=p.2)->TK P T al cX (λ σ=>σ=iE b e' o') (i::l) (iE b e o):=by intro e hw h;have⟨hok,h⟩:=dN h;have⟨a,dv,upd,_,h1,h2⟩:=ahV hΓ hop hw hok h;obtain⟨tr,e',o',g1,g2,g4,g3⟩:=Dw hΓ l _ _ _ h1;refine⟨(i,a)::tr,e',o',by simp[g1],?_,λp hp=>(g4 p hp).elim (λ hp=>(acy hp).elim .inl λhd=>.inr ⟨i,op,hop,hd⟩) .inr,λcX ha=>?_⟩;simpa[Jj]using g2;exact h2 cX _ (ha (i,a) (by simp)) (g3 cX λp hp=>ha p (by simp[hp]))
  have skip:∀e:List (Nat×DV X),want al op (iE b e o).env (iE b e o).ok=some false->yx Γ fz T am al b k l (zf op.dst .skip e) o ((i,[],[])::m9)=some r->
   ∃(tr:List (Nat×ml)) (e':List (Nat×DV X)) (o':List (Nat×Option (b7 X))),tr.map (·.1)=i::l/\k e' o' ((Jj tr).reverse++m9)=some r/\(∀ p∈e',p∈e\/Ql al p.1)/\
    ∀cX:Nat->ml,(∀ p∈tr,cX p.1=p.2)->TK P T al cX (λ σ=>σ=iE b e' o') (i::l) (iE b e o):=by intro e hw h;obtain⟨tr,e',o',g1,g2,g4,g3⟩:=Dw hΓ l _ _ _ h;refine⟨(i,⟨.none,[],[],false⟩)::tr,e',o',by simp[g1],?_,λp hp=>(g4 p hp).elim (λ hp=>(acy hp).elim .inl λhd=>.inr ⟨i,op,hop,hd⟩) .inr,λcX ha=>?_⟩;simpa[Jj]using g2;exact step_skip hop hw cX _ (ha (i,_) (by simp)) (g3 cX λp hp=>ha p (by simp[hp]))
  split at h;rename_i hg;exact exec e (by simp[want,hg]) h;rename_i j p hg;rw[ah]at h;obtain⟨t,ht,h⟩:=h;split at h;rename_i v hv;have hw:∀e:List (Nat×DV X),ov e b.env t=.c .bool v->want al op (iE b e o).env (iE b e o).ok=some (v==p):=by
   intro e he;simp[want,hg,ht];have h0:(iE b e o).ok t=none:=by
    simp[iE];unfold ov at he;cases hq:lk e t with
    |none=>rfl
    |some d=>rw[hq]at he;simp at he;subst he;rfl
   have h1:(iE b e o).env t=.t (.sc (.bool v)):=(by simp[iE,he];rfl);rw[h0,h1]
  have hk:=afa (b:=b) (o:=o) hv;have hv':ov ((t,.c .bool v)::e) b.env t=.c .bool v:=by simp[ov,lk]
  have htd:Ql al t:=by have⟨oj,h1,h2⟩:=ah.1 ht;exact⟨j,oj,h1,h2⟩
  have wide:(∃ (tr:List (Nat×ml)) (e':List (Nat×DV X)) (o':List (Nat×Option (b7 X))),tr.map (·.1)=i::l/\k e' o' ((Jj tr).reverse++m9)=some r/\(∀ p∈e',p∈((t,.c .bool v)::e:List (Nat×DV X))\/Ql al p.1)/\
   ∀cX:Nat->ml,(∀ p∈tr,cX p.1=p.2)->TK P T al cX (λ σ=>σ=iE b e' o') (i::l) (iE b ((t,.c .bool v)::e) o))->
   ∃(tr:List (Nat×ml))(e':List (Nat×DV X))(o':List (Nat×Option (b7 X))),tr.map (·.1)=i::l/\k e' o' ((Jj tr).reverse++m9)=some r/\(∀ p∈e',p∈e\/Ql al p.1)/\
   ∀cX:Nat->ml,(∀ p∈tr,cX p.1=p.2)->TK P T al cX (λ σ=>σ=iE b e' o') (i::l) (iE b e o):=by rintro⟨tr,e',o',g1,g2,g4,g3⟩;refine⟨tr,e',o',g1,g2,λq hq=>?_,hk ▸ g3⟩;rcases g4 q hq with h|h;rcases aP.1 h with rfl|h;exact .inr htd;exact .inl h;exact .inr h
  apply wide;cases v with
  |true=>
   simp at h;cases p with
   |true=>exact exec _ (hw _ hv') h
   |false=>exact skip _ (hw _ hv') h
  |false=>
   simp at h;cases p with
   |true=>exact skip _ (hw _ hv') h
   |false=>exact exec _ (hw _ hv') h
  rename_i hv;have⟨hsome,h⟩:=dN h;refine skip e ?_ h;simp[want,hg,ht];have h1:(iE b e o).env t=.undef:=by simp[iE,hv];rfl
  cases hq:lk e t with
  |some d=>
   have h0:(iE b e o).ok t=some false:=(by unfold ov at hv;rw[hq]at hv;simp at hv;subst hv;simp[iE,hq]);rw[h0,h1]
  |none=>rw[hq]at hsome;cases hsome
  cases h
end
section
variable {X:SX} {A:Type}
def fN(nx k:Nat):Nat:=if k<1000000 then k else nx+(k-1000000)
def gN(nx j:Nat):Nat:=if j<nx then j else 1000000+(j-nx)
def FG(nx sz k:Nat):Bool:=decide (k<nx) || (decide (1000000<=k)&&decide (k<1000000+sz))
def okE(nx sz:Nat)(e:List (Nat×DV X)):Bool:=e.all λp=>(bz p.2).all (FG nx sz)
def okO(nx sz:Nat)(o:List (Nat×Option (b7 X))):Bool:=o.all λp=>FG nx sz p.1&&match p.2 with|some x=>(d7 x).all (FG nx sz)|none=>true
def J0(m9:C0):Nat->ml:=λi=>match lk m9 i with|some p=>⟨.none,p.1,p.2,false⟩|none=>⟨.none,[],[],false⟩
def DM(tr:List (Nat×ml)):Nat->ml:=λi=>match lk tr i with|some a=>a|none=>⟨.none,[],[],false⟩
def HX:DV X->DV X
 |.skip=>.undef
 |x=>x
theorem ajD(x:DV X):den (HX x)=den x:=by cases x<;>rfl
theorem YU(x:DV X):bz (HX x)=bz x:=by cases x<;>rfl
def fin(s:df X)(e:List (Nat×DV X))(o:List (Nat×Option (b7 X)))(sz:Nat):df X:=
 ⟨e.map (λ p=>(p.1,HX (qv (fN s.nx) p.2)))++s.env,o.map (λ p=>(fN s.nx p.1,p.2.map (pg (fN s.nx))))++s.obj,s.nx+sz,o.map (λ p=>fN s.nx p.1)++s.log⟩
def ajE(N:Nat)(al:Array Oper)(d:Bool)(nx:Nat)(e:List (Nat×DV X))(o:List (Nat×Option (b7 X)))(m9:C0):Bool:=
 Z4 N al&&(!d || L0 al (J0 m9))&&okE nx (64*al.size) e&&okO nx (64*al.size) o&&decide (nx+64*al.size<=1000000)
def UT(Γ:FuncId->Option (co X))(fz:List Nat)(T:el)(am:TypeId->Option (CT X.ι))(N:Nat)(al:Array Oper)(d:Bool)(s:df X)(k:df X->Option A):Option A:=
 yx Γ fz T am al s (λ e o m9=>bif ajE N al d s.nx e o m9 then k (fin s e o (64*al.size))else none) (List.range al.size) [] [] []
theorem acz{al:Array Oper}{cX tA:Nat->ml}(h:∀i,(cX i).rd=(tA i).rd/\(cX i).wr=(tA i).wr):L0 al cX=L0 al tA:=by
 have h1:wP cX=wP tA:=by funext i j;simp[wP,(h i).1,(h i).2,(h j).1,(h j).2]
 have h2:∀md,NZ md al cX=NZ md al tA:=by intro md;funext listed i;simp[NZ,h1]
 have h3:∀(md:Region.Mode)(n k:Nat)(listed:Array Bool),lexFrom' md al cX n k listed=lexFrom' md al tA n k listed:=by
  intro md n
  induction n with
  |zero=>intro k listed;rfl
  |succ n ih=>intro k listed;simp[lexFrom',h2,ih]
 exact h3 _ _ _ _
theorem Cb{α:Type}:∀(a b:List (Nat×α))(k:Nat),lk (a++b) k=match lk a k with|some x=>some x|none=>lk b k
 |[],_,_=>rfl
 |(j,x)::a,b,k=>by simp[lk];by_cases h:j=k;simp[h];simp[bn h,Cb a b k]
theorem agY{α:Type}:∀{l:List (Nat×α)}{k:Nat},lk l k=none->∀x,(k,x)∉l
 |(j,y)::r,k,h,x=>by simp[lk]at h;split at h;cases h;rename_i hn;simp only[aP,Prod.mk.injEq,not_or];exact⟨λ e=>hn e.1.symm,agY h x⟩
 |[],_,_,_=>by simp
theorem amZ{tr:List (Nat×ml)}(hn:(tr.map (·.1)).Nodup)(i:Nat):(J0 (Jj tr).reverse i).rd=(DM tr i).rd/\(J0 (Jj tr).reverse i).wr=(DM tr i).wr:=by
 have hn':((Jj tr).reverse.map (·.1)).Nodup:=by
  rw[List.map_reverse];have h1:((Jj tr).map (·.1)).Nodup:=by simpa[Jj,Function.comp_def]using hn
  exact List.pairwise_reverse.2 (h1.imp λh=>Ne.symm h)
 unfold J0 DM;cases h:lk tr i with
 |none=>
  cases h':lk (Jj tr).reverse i with
  |none=>exact⟨rfl,rfl⟩
  |some p=>
   have:=qM h';simp only[Jj,List.mem_reverse,mem_map]at this;obtain⟨q,hq,he⟩:=this;injection he with e1 e2;subst e1;exact(agY h q.2 hq).elim
 |some a=>
  have h1:=qM h;have h2:(i,a.rd,a.wr)∈(Jj tr).reverse:=by simp only[Jj,List.mem_reverse,mem_map];exact⟨(i,a),h1,rfl⟩
  rw[uM hn' h2];exact⟨rfl,rfl⟩
theorem ajF{tr:List (Nat×ml)}(hn:(tr.map (·.1)).Nodup):∀p∈tr,DM tr p.1=p.2:=by rintro⟨i,a⟩ hp;rw[DM,uM hn hp]
theorem UL{nx sz k:Nat}(h:FG nx sz k=true):k<nx\/(1000000<=k/\k<1000000+sz):=by simpa[FG]using h
theorem SD{nx sz k:Nat}(hle:nx+sz<=1000000)(h:k<nx\/(1000000<=k/\k<1000000+sz)):gN nx (fN nx k)=k:=by grind [gN,fN]
theorem YV{nx sz k:Nat}(hle:nx+sz<=1000000)(h:k<nx\/(1000000<=k/\k<1000000+sz)):fN nx k<nx+sz:=by grind [fN]
theorem LI{nx k:Nat}(hle:nx<=1000000)(h:k<nx):fN nx k=k:=bA (by omega)
mutual
theorem UM{f:Nat->Nat}:∀x:DV X,(∀ k∈bz x,f k=k)->qv f x=x
 |.own k _ _,h|.ptr k _ _,h|.pN k _ _,h|.mp k,h|.oz k _,h|.sX k _ _ _ _,h=>by simp[qv,h k (by simp[bz])]
 |.agg cs,h|.eV cs,h=>by simp[qv,Dx cs (by simpa[bz]using h)]
 |.fn F first caps,h=>by simp[qv,Dx first (λ k hk=>h k (by simp[bz,hk])),Dx caps (λ k hk=>h k (by simp[bz,hk]))]
 |.c _ _,_|.rp _ _ _,_|.u9 _ _ _ _ _,_|.ea _ _ _,_|.raw _,_|.nil,_|.ub,_|.skip,_|.undef,_=>rfl
theorem Dx{f:Nat->Nat}:∀l:List (DV X),(∀ k∈aN l,f k=k)->Ki f l=l
 |[],_=>rfl
 |x::xs,h=>by simp[Ki,UM x (λ k hk=>h k (by simp[aN,hk])),Dx xs (λ k hk=>h k (by simp[aN,hk]))]
end
mutual
theorem UN(f:Nat->Nat):∀x:DV X,bz (qv f x)=(bz x).map f
 |.own _ _ _|.ptr _ _ _|.pN _ _ _|.mp _|.oz _ _|.sX _ _ _ _ _=>rfl
 |.agg cs|.eV cs=>by simp[qv,bz,Cc f cs]
 |.fn F first caps=>by simp[qv,bz,Cc f first,Cc f caps]
 |.c _ _|.rp _ _ _|.u9 _ _ _ _ _|.ea _ _ _|.raw _|.nil|.ub|.skip|.undef=>rfl
theorem Cc(f:Nat->Nat):∀l:List (DV X),aN (Ki f l)=(aN l).map f
 |[]=>rfl
 |x::xs=>by simp[Ki,aN,UN f x,Cc f xs]
end
theorem acA(f:Nat->Nat)(o:b7 X):d7 (pg f o)=(d7 o).map f:=by
 cases o with
 |cells sz rows=>simp[pg,d7];congr 1;exact map_congr_left λr _=>Cc f r
 |ed c l|map kc vc l=>rfl
theorem ajG{α β:Type}(f:α->β):∀(l:List (Nat×α))(k:Nat),lk (l.map λp=>(p.1,f p.2)) k=(lk l k).map f
 |[],_=>rfl
 |(j,x)::r,k=>by simp[lk];by_cases h:j=k;simp[h];simp[bn h,ajG f r k]
theorem ag0{α β:Type}(f:α->β)(g:Nat->Nat):∀(l:List (Nat×α))(j:Nat),(∀ p∈l,∀q∈l,g p.1=g q.1->p.1=q.1)->
 (∀ y,lk (l.map λp=>(g p.1,f p.2)) j=some y->∃k x,lk l k=some x/\g k=j/\y=f x)/\(lk (l.map λp=>(g p.1,f p.2)) j=none->∀p∈l,g p.1≠j)
 |[],_,_=>⟨λ _ h=>by simp[lk]at h,λ_=>by simp⟩
 |(k0,x0)::r,j,hi=>by
  obtain⟨i1,i2⟩:=ag0 f g r j (λ p hp q hq=>hi p (by simp[hp]) q (by simp[hq]));simp[lk];by_cases h:g k0=j;rw[bA h];exact⟨λ y hy=>by injection hy with hy;exact⟨k0,x0,by simp,h,hy.symm⟩,λhn=>by cases hn⟩
  grind
structure Ext(ds:Nat->Prop)(s s':df X):Prop where
 env:∀t,¬ds t->eI s'.env t=eI s.env t\/eI s'.env t=.undef
 obj:∃d,s'.log=d++s.log/\∀k,k<s.nx->k∉d->gE s'.obj k=gE s.obj k\/gE s'.obj k=none
 nx:s.nx<=s'.nx
variable {Γ:FuncId->Option (co X)} {fz:List Nat} {T:el} {am:TypeId->Option (CT X.ι)} {P:Program} {N:Nat}
theorem LQ(s:df X)(e:List (Nat×DV X))(o:List (Nat×Option (b7 X)))(sz t:Nat):eI (fin s e o sz).env t=match lk e t with|some d=>HX (qv (fN s.nx) d)|none=>eI s.env t:=by simp[fin,eI,Cb,ajG (λ d=>HX (qv (fN s.nx) d))];cases lk e t<;>rfl
theorem aat(hT:fH P T)(hm:P.follows .mixedOrders=true)(hΓ:rK P Γ){id:Nat}{al:Array Oper}{d:Bool}{s:df X}{k:df X->Option A}{r:A}(hl:Low s)(h:UT Γ fz T am N al d s k=some r):
 ∃s':df X,k s'=some r/\Low s'/\Ext (Ql al) s s'/\Ev P N (.region id al d) (λ e σ=>e=.normal/\σ=s'.st) s.st:=by
 unfold UT at h;obtain⟨tr,e,o,h1,h2,h3,h4⟩:=Dw hΓ _ _ _ _ h;have⟨h5,h6⟩:=dN h2;simp only[ajE,bq,append_nil]at h5;obtain⟨⟨⟨⟨hd,hlex⟩,hE⟩,hO⟩,hnx⟩:=h5;have hle:s.nx+64*al.size<=1000000:=of_decide_eq_true hnx;have GT:(tr.map (·.1)).Nodup:=by rw[h1];exact List.nodup_range
 have Se:∀t x,lk e t=some x->∀j∈bz x,j<s.nx\/(1000000<=j/\j<1000000+64*al.size):=by intro t x hx j hj;have:=all_eq_true.1 hE _ (qM hx);exact UL (all_eq_true.1 this j hj)
 have Hb:∀p∈o,(p.1<s.nx\/(1000000<=p.1/\p.1<1000000+64*al.size))/\∀x,p.2=some x->∀j∈d7 x,j<s.nx\/(1000000<=j/\j<1000000+64*al.size):=by intro p hp;have:=all_eq_true.1 hO _ hp;simp at this;refine⟨UL this.1,λx hx j hj=>?_⟩;have h2:=this.2;rw[hx]at h2;exact UL (all_eq_true.1 h2 j hj)
 have hinj:∀p∈o,∀q∈o,fN s.nx p.1=fN s.nx q.1->p.1=q.1:=by
  intro p hp q hq he;have:=congrArg (gN s.nx) he
  rwa [SD hle (Hb p hp).1,SD hle (Hb q hq).1]at this
 have vl:∀j,(∃ q x,lk o q=some x/\fN s.nx q=j/\gE (fin s e o (64*al.size)).obj j=x.map (pg (fN s.nx)))\/(gE (fin s e o (64*al.size)).obj j=gE s.obj j/\∀p∈o,fN s.nx p.1≠j):=by
  intro j;obtain⟨i1,i2⟩:=ag0 (λ x:Option (b7 X)=>x.map (pg (fN s.nx))) (fN s.nx) o j hinj;simp only[fin,gE,Cb];cases hj:lk (o.map λp=>(fN s.nx p.1,p.2.map (pg (fN s.nx)))) j with
  |none=>exact .inr ⟨rfl,i2 hj⟩
  |some y=>
   have⟨q,x,g1,g2,g3⟩:=i1 y hj;exact .inl ⟨q,x,g1,g2,by rw[g3];rfl⟩
 refine⟨fin s e o (64*al.size),h6,?_,?_,?_⟩;constructor;exact hle;have:=hl.ge;show 1000<=s.nx+64*al.size;omega;intro t j hj;rw[LQ]at hj;cases ht:lk e t with
 |none=>rw[ht]at hj;have:=hl.env t j hj;show j<s.nx+64*al.size;omega
 |some x=>
  rw[ht,YU,UN]at hj;obtain⟨q,hq,rfl⟩:=mem_map.1 hj;exact YV hle (Se t x ht q hq)
 intro j x hx;rcases vl j with ⟨q,y,g1,rfl,g3⟩|⟨g1,_⟩;rw[g3]at hx;rw[rF]at hx;obtain⟨z,rfl,rfl⟩:=hx;obtain⟨k1,k2⟩:=Hb _ (qM g1);refine⟨YV hle k1,λi hi=>?_⟩;rw[acA]at hi;obtain⟨i',hi',rfl⟩:=mem_map.1 hi;exact YV hle (k2 z rfl i' hi');rw[g1]at hx;have⟨k1,k2⟩:=hl.obj j x hx;refine⟨show j<s.nx+64*al.size by omega,λi hi=>?_⟩;have:=k2 i hi;show i<s.nx+64*al.size;omega;refine⟨λ t ht=>.inl ?_,⟨o.map (λ p=>fN s.nx p.1),rfl,λj hj hn=>?_⟩,by show s.nx<=s.nx+64*al.size;omega⟩;rw[LQ];cases hx:lk e t with
 |none=>rfl
 |some x=>
  rcases h3 _ (qM hx)with h|h;simp at h;exact(ht h).elim
 rcases vl j with ⟨q,y,g1,g2,g3⟩|⟨g1,_⟩;exact(hn (mem_map.2 ⟨(q,y),qM g1,g2⟩)).elim;exact .inl g1;have hst:iE s [] []=s.st:=rfl;have hex:=h4 (DM tr) (ajF GT);rw[hst]at hex;intro w0 O0 β I a w hr ho;have done:∀(e':Exit)(a':Act)(w':World),(∃ β' I' σ1,Rel P w0 O0 N β' I' σ1 a' w'/\e'=.normal/\σ1=iE s e o)->∃ β' I' σ1,Rel P w0 O0 N β' I' σ1 a' w'/\te σ1/\e'=.normal/\σ1=(fin s e o (64*al.size)).st:=by
  rintro e' a' w' ⟨β',I',σ1,g1,rfl,rfl⟩;refine⟨_,I',(fin s e o (64*al.size)).st,Rel.re (f:=fN s.nx) (g:=gN s.nx) (D:=λk=>k<s.nx\/(1000000<=k/\k<1000000+64*al.size)) (λ k hk=>SD hle hk) (λ j hj=>by have:=hl.ge;unfold gN;rw[bA (by omega)]) g1 (λ t=>?_) (λ _=>rfl) (λ t=>.inr ?_) (λ j o' hj=>?_),?_,rfl,rfl⟩;show(match lk e t with|some .skip=>some false|_=>none)=none\/den (eI (fin s e o (64*al.size)).env t)=.undef;rw[LQ];cases ht:lk e t with
  |none=>exact .inl rfl
  |some d=>cases d<;>first|exact .inl rfl|exact .inr rfl
  show(∀ k∈refs (den (ov e s.env t)),_)/\lf (js (fN s.nx) (den (ov e s.env t))) (den (eI (fin s e o (64*al.size)).env t));rw[LQ,iY,<- zH];unfold ov;cases ht:lk e t with
  |none=>
   refine⟨λ q hq=>.inl (hl.env t q hq),?_⟩;rw[UM _ (λ q hq=>LI (by omega) (hl.env t q hq))];exact lf.refl _
  |some x=>exact⟨Se t x ht,by simp[ajD];exact lf.refl _⟩
  simp[df.st]at hj;obtain⟨x,hx,rfl⟩:=hj;rcases vl j with ⟨q,y,i1,rfl,i3⟩|⟨i1,i2⟩;rw[i3,rF]at hx;obtain⟨z,rfl,rfl⟩:=hx;obtain⟨k1,k2⟩:=Hb _ (qM i1);obtain⟨r1,r2⟩:=IU (D:=λk=>k<s.nx\/(1000000<=k/\k<1000000+64*al.size)) (fN s.nx) z (λ i hi=>k2 z rfl i hi);refine⟨q,bI z,?_,k1,rfl,r1,r2⟩;simp[iE,vi,i1];rw[i1]at hx;have⟨k1,k2⟩:=hl.obj j x hx;have hid:pg (fN s.nx) x=x:=by
   cases x with
   |ed c l|map kc vc l=>rfl
   |cells sz rows=>
    simp[pg];congr 1;have:∀q∈rows,Ki (fN s.nx) q=q:=λq hq=>Dx q λi hi=>LI (by omega) (k2 i (by simp[d7];exact⟨_,⟨q,hq,rfl⟩,hi⟩));rw[map_congr_left this];simp
  obtain⟨r1,r2⟩:=IU (D:=λk=>k<s.nx\/(1000000<=k/\k<1000000+64*al.size)) (fN s.nx) x (λ i hi=>.inl (k2 i hi));rw[hid]at r1 r2;refine⟨j,bI x,?_,.inl k1,LI (by omega) k1,r1,r2⟩;simp[iE,vi];cases hlo:lk o j with
  |none=>simp[hx]
  |some y=>exact(i2 _ (qM hlo) (LI (by omega) k1)).elim
  have hL:Low (fin s e o (64*al.size)):=by
   constructor;exact hle;have:=hl.ge;show 1000<=s.nx+64*al.size;omega;intro t j hj;rw[LQ]at hj;cases ht:lk e t with
   |none=>rw[ht]at hj;have:=hl.env t j hj;show j<s.nx+64*al.size;omega
   |some x=>
    rw[ht,YU,UN]at hj;obtain⟨q,hq,rfl⟩:=mem_map.1 hj;exact YV hle (Se t x ht q hq)
   intro j x hx;rcases vl j with ⟨q,y,g1,rfl,g3⟩|⟨g1,_⟩;rw[g3]at hx;rw[rF]at hx;obtain⟨z,rfl,rfl⟩:=hx;obtain⟨k1,k2⟩:=Hb _ (qM g1);refine⟨YV hle k1,λi hi=>?_⟩;rw[acA]at hi;obtain⟨i',hi',rfl⟩:=mem_map.1 hi;exact YV hle (k2 z rfl i' hi');rw[g1]at hx;have⟨k1,k2⟩:=hl.obj j x hx;refine⟨show j<s.nx+64*al.size by omega,λi hi=>?_⟩;have:=k2 i hi;show i<s.nx+64*al.size;omega
  exact hL.old
 cases d with
 |false=>exact wp_mono (ahA hT hd ho hex hr) done
 |true=>
  refine wp_mono (TN hT hm hd ?_ ho hex hr) done;rw[<- acz (amZ GT)];simpa using hlex
end
end Go.Gb
