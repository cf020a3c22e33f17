import Derived.Test.YtnclkjejgffdmaaGreatW1
import Derived.Maps.RangeRun
import Derived.ChangeSame
import Derived.Carry
import Derived.OpenShut
import Derived.SizedLaws
import Derived.WalkKit
import Derived.ProofKit
import Derived.Lib.LaidTab
open List (mem_map all_eq_true cons_append length_map append_nil map_map take_of_length_le map_congr_left flatten_cons map_nil all_cons map_take map_drop mem_flatMap mem_append_left mem_append_right)
namespace Go.Gb
open Go.RowKit Go.MapKept
structure RgI where
 x:Operand
 t:TypeId
 a0:Nat
 it:Nat
 nn:Nat
 b:Nat
 e:Nat
 xx:Nat
 kv:Nat
 j:Nat
 j2:Nat
 body:Code
section
variable {P:Program} {w0:World} {O0:kA} {N:Nat} {β:Nat->Option cW} {I:Nat->Prop} {σ:St} {a:Act} {w:World}
def St.put(σ:St)(d:Nat)(x:AV):St:=⟨yF σ.env (some d) x,σ.obj,yF σ.ok (some d) none⟩
theorem Rel.put(hr:Rel P w0 O0 N β I σ a w){d:Nat}(hd:d<N){x:AV}{v:Value}(hv:VR P β w I x v):Rel P w0 O0 N β I (σ.put d x) (a.put (some d) v) w:=by
 refine⟨by simpa[Act.put]using hr.defers,by simpa[Act.put]using hr.size,λt=>?_,hr.mem⟩;have hold:=hr.env t;simp only[St.put,yF,Act.put,bJ];by_cases hdt:d=t;subst hdt;rw[aS rfl,aS rfl];have e:(a.tmps.setIfInBounds d v).getD d undef=v:=by simp[Nat.lt_of_lt_of_eq hd hr.size.symm]
 rw[e];exact hv;rw[aR hdt,aR hdt];simpa[Array.getElem?_setIfInBounds_ne hdt]using hold
structure tI(β:Nat->Option cW)(I:Nat->Prop)(obj:Nat->Option aK)(w:World)(r:Nat):Prop where
 lt:r<w.heap.size
 Iv:¬I r
 obj:∀k o,obj k=some o->¬ie β k r
theorem Rel.world{w':World}(hr:Rel P w0 O0 N β I σ a w)(hs:Same I w w')(hm:Mem P w0 O0 β I σ.obj w'):Rel P w0 O0 N β I σ a w':=
 ⟨hr.defers,hr.size,λt=>fx.mono (λ _ _ h=>h) hs (λ _ h=>h) (hr.env t),hm⟩
end
open Go.RowKit
def kept(os':List (Option dZ))(j:Nat):Prop:=∃p,os'[j]? =some (some p)
def Bi(get:Nat->Option aK)(fk:Option Nat)(os':List (Option dZ)):AV->Tree->Prop
 | .t x,y=>y=x
 | .dp,y=>y= .sl []
 | .oz k len,y=>fk≠some k/\¬kept os' k/\∃o ec,get k=some o/\(o.rows.drop 0).take len=aI ec/\ec.length=len/\y= .sl ec
 | .own k aa len,y=>fk≠some k/\¬kept os' k/\∃o ec,get k=some o/\(o.rows.drop aa).take len=aI ec/\ec.length=len/\y= .sl ec
 |_,_=>False
def mw(get:Nat->Option aK)(fk:Option Nat)(os':List (Option dZ)):List AV->List Tree->Prop
 |[],[]=>True
 |x::xs,y::ys=>Bi get fk os' x y/\mw get fk os' xs ys
 |_,_=>False
def eM(get:Nat->Option aK)(fk:Option Nat)(os':List (Option dZ)):List (List AV)->List (List Tree)->Prop
 |[],[]=>True
 |x::xs,y::ys=>mw get fk os' x y/\eM get fk os' xs ys
 |_,_=>False
def HD(get:Nat->Option aK)(fk:Option Nat)(os':List (Option dZ)):AV->RC->Prop
 | .agg cs,.d (.a ts)=>mw get fk os' cs ts
 |x,.d (.s y)=>Bi get fk os' x y
 | .dp,.fresh _ rows=>rows=[]
 | .own k aa len,.fresh sz rows=>fk=some k/\¬kept os' k/\aa=0/\∃o,get k=some o/\o.sz=sz/\eM get fk os' (o.rows.take len) rows/\rows.length=len
 | .own k aa len,.whole j len'=>k=j/\aa=0/\len'=len/\kept os' j
 |_,_=>False
def oB(get:Nat->Option aK)(fk:Option Nat)(os':List (Option dZ)):List AV->List RC->Prop
 |[],[]=>True
 |x::xs,c::cs=>HD get fk os' x c/\oB get fk os' xs cs
 |_,_=>False
def HC(get:Nat->Option aK)(fk:Option Nat)(os':List (Option dZ)):List AV->RV->Prop
 |[x],.one c=>HD get fk os' x c
 |x::y::r,.en cs=>oB get fk os' (x::y::r) cs
 |[],.en cs=>cs=[]
 |_,_=>False
def Q4(get:Nat->Option aK)(fk:Option Nat)(os':List (Option dZ)):Prop:=
 ∀(j:Nat) p,os'[j]? =some (some p)->fk≠some j/\∃o,get j=some o/\o.sz=p.1/\eM get fk os' (o.rows.take p.2.length) p.2
def UR(T:ez)(t:TypeId)(x:AV)(obj:Nat->Option aK):Option Out:=
 KQ T t x .none obj
def PW(T:ez)(σ:St):ResultVar->Option AV
 | .tmp t=>match σ.ok t with
  |none=>some (σ.env t)
  |some _=>none
 | .cell a t=>match σ.ok a with
  |none=>match UR T t (σ.env a) σ.obj with
   |some ⟨v,[],[]⟩=>some v
   |_=>none
  |some _=>none
def nN(T:ez)(σ:St):List ResultVar->Option (List AV)
 |[]=>some []
 |r::rs=>(PW T σ r).bind λv=>(nN T σ rs).bind λvs=>some (v::vs)
def VP(tmps:Array Value):ResultVar->Sem Value
 | .tmp t=>pure (tmps.getD t undef)
 | .cell a t=>do loadVar t (<- asAddr (tmps.getD a undef))
theorem VQ(fn:Func)(tmps:Array Value):results fn tmps=(fn.results.mapM (VP tmps))>>=λvs=>pure (if h:vs.size=1 then vs[0]else .tuple vs):=by congr 2
def My(T:ez)(rs:List ResultVar)(rv:RV)(os':List (Option dZ)):Exit->St->Prop
 | .normal,σ=>∃xs fk,nN T σ rs=some xs/\HC σ.obj fk os' xs rv/\Q4 σ.obj fk os'
 | .ret,σ=>∃xs fk,nN T σ rs=some xs/\HC σ.obj fk os' xs rv/\Q4 σ.obj fk os'
 |_,_=>False
section
variable {P:Program} {T:ez} {w0:World} {O0:kA} {N:Nat} {β:Nat->Option cW} {I:Nat->Prop} {σ:St} {a:Act} {w:World}
theorem ab1(hT:eX P T)(hr:Rel P w0 O0 N β I σ a w){r:ResultVar}{x:AV}(h:PW T σ r=some x):
 ∃v,(VP a.tmps r).run P w= .ok v w/\VR P β w I x v:=by
 cases r with
 |tmp t=>
  simp only[PW]at h;have h1:=hr.env t;cases hk:σ.ok t with
  |some b=>rw[hk]at h;cases h
  |none=>
   rw[hk]at h h1;cases h;exact⟨_,by simp[VP],h1⟩
 |cell ad t=>
  simp only[PW]at h;have hx:=hr.env ad;cases hk:σ.ok ad with
  |some b=>rw[hk]at h;cases h
  |none=>
  rw[hk]at h hx;simp only at h;have hx:VR P β w I (σ.env ad) (a.tmps.getD ad undef):=hx;split at h
  ·rename_i v hl;injection h with h;subst h;obtain⟨u,h1,h2⟩:∃u,(Instr.loadAt t (a.tmps.getD ad undef)).run P w= .ok u w/\VR P β w I v u:=(by obtain⟨u,h1,h2,_⟩:=RO hT hr.mem (λ _ _ h=>h) hl trivial hx;exact⟨u,h1,h2⟩);refine⟨u,?_,h2⟩;have hp:∃p,a.tmps.getD ad undef= .pointer (some p):=by
    unfold UR at hl;unfold KQ at hl;cases hti:T t with
    |none=>simp[hti]at hl
    |some ti=>
     simp only[hti,ai]at hl;split at hl
     ·rename_i heq;rw[heq]at hx;simp only[VR]at hx;obtain⟨b,sz,n,_,h⟩:=hx;exact⟨_,h⟩
     ·rename_i heq;rw[heq]at hx;simp only[VR]at hx;obtain⟨b,o,h,_⟩:=hx;exact⟨_,h⟩
     ·cases hl
   obtain⟨p,hp⟩:=hp;rw[hp]at h1;simp only[VP,hp,asAddr,Sem.run_bind,Sem.run_pure,Result.andThen_ok];exact h1
  ·cases h
theorem Bd(hT:eX P T)(hr:Rel P w0 O0 N β I σ a w):∀(rs:List ResultVar)(xs:List AV),nN T σ rs=some xs->
 ∃vs,(rs.mapM (VP a.tmps)).run P w= .ok vs w/\be P β w I xs vs
 |[],xs,h=>by simp[nN]at h;subst h;exact⟨[],by simp,by simp[be]⟩
 |r::rs,xs,h=>by
  simp[nN]at h;cases h1:PW T σ r with
  |none=>simp[h1]at h
  |some x=>
   cases h2:nN T σ rs with
   |none=>simp[h2]at h
   |some ys=>
    simp[h1,h2]at h;subst h;have⟨v,g1,g2⟩:=ab1 hT hr h1;have⟨vs,g3,g4⟩:=Bd hT hr rs ys h2;exact⟨v::vs,by simp[g1,g3],by simp[be];exact⟨g2,g4⟩⟩
def M7(σ:St)(w0 w:World)(β:Nat->Option cW)(I:Nat->Prop)(O0:kA)(fk:Option Nat)(os':List (Option dZ))(b:Nat):Prop:=
 (I b\/O0.Iv b\/w0.heap.size<=b\/O0.own b)/\b<w.heap.size/\¬∃k,(fk=some k\/kept os' k)/\(∃ o,σ.obj k=some o)/\ie β k b
theorem adS(hr:Rel P w0 O0 N β I σ a w)(fk:Option Nat)(os':List (Option dZ)):∀b,I b->M7 σ w0 w β I O0 fk os' b:=λb hb=>
 ⟨.inl hb,hr.mem.lt b hb,λ⟨k,_,⟨o,ho⟩,hβ⟩=>(hr.mem.kq k o b ho hβ).1 hb⟩
theorem M8(hr:Rel P w0 O0 N β I σ a w){fk:Option Nat}{os':List (Option dZ)}{k aa len:Nat}{y:Tree}{v:Value}(h:fk≠some k/\¬kept os' k/\∃o ec,σ.obj k=some o/\(o.rows.drop aa).take len=aI ec/\ec.length=len/\y= .sl ec)(hv:VR P β w I (.own k aa len) v):TR w (M7 σ w0 w β I O0 fk os') y v:=by obtain⟨hne,hnk,o,ec,h1,h2,h3,rfl⟩:=h;simp only[TR];rcases hv with ⟨_,rfl,_,h4⟩ |⟨b,sz,n,cap,ad,h4,rfl,h5,h6,h7⟩;exact .inl ⟨List.eq_nil_of_length_eq_zero (by omega),none,0,rfl,λ_=>rfl⟩;have⟨g1,g2,g3⟩:=hr.mem.own k o b sz n h1 h4;refine .inr ⟨b,ad,cap,sz,by rw[h3],by omega,⟨.inr (.inr (g3.elim .inr .inl)),g2,λ⟨k',e1,⟨o',e2⟩,e3⟩=>?_⟩,?_⟩;have:=hr.mem.oY k k' o o' b h1 e2 (.at h4) e3;subst this;exact e1.elim hne hnk;by_cases hc:cap=0;have:ec=[]:=List.eq_nil_of_length_eq_zero (by omega);subst this;simp[cL];rw[h7 hc];have⟨B,hB,te⟩:=hr.mem.de k o h1;rw[h4]at hB;cases hB;obtain⟨hs,c,e,hc',_,te⟩:=te;have h8:=bu.take len _ _ _ _ (bu.drop aa _ _ _ _ te);rw[h2]at h8;exact cL.mi (adS hr fk os') hc' ec _ _ h8
theorem Ed(hr:Rel P w0 O0 N β I σ a w){fk:Option Nat}{os':List (Option dZ)}{x:AV}{y:Tree}{v:Value}(h:Bi σ.obj fk os' x y)(hv:VR P β w I x v):TR w (M7 σ w0 w β I O0 fk os') y v:=by
 cases x<;>simp only[Bi]at h
 case t x=>subst h;simp[VR]at hv;exact TR.mono (λ _ _=>rfl) (adS hr fk os') _ _ hv
 case dp=>subst h;simp[VR]at hv;simp only[TR];exact .inl ⟨trivial,none,0,hv,λ_=>rfl⟩
 case own k aa len=>exact M8 hr h hv
 case oz k len=>
  rcases hv.we with ⟨rfl,rfl⟩ |⟨_,hv⟩;obtain⟨hne,hnk,o,ec,h1,h2,h3,rfl⟩:=h;exact .inl ⟨List.eq_nil_of_length_eq_zero h3,none,0,rfl,λ_=>rfl⟩;exact M8 hr h hv
theorem M9(hr:Rel P w0 O0 N β I σ a w){fk:Option Nat}{os':List (Option dZ)}{β':Nat->Option cW}:∀{r:List AV}{t:List Tree}{c:Array Value}{aa:Nat},mw σ.obj fk os' r t->dC P β w I r c aa->dC P β' w (M7 σ w0 w β I O0 fk os') (t.map AV.t) c aa
 |[],[],_,_,_,_=>trivial
 |x::xs,y::ys,c,aa,h,⟨⟨v,h1,h2,h3⟩,h4⟩=>⟨⟨v,h1,by simp[VR];exact Ed hr h.1 h2,h3⟩,M9 hr h.2 h4⟩
 |[],_::_,_,_,h,_ |_::_,[],_,_,h,_=>h.elim
theorem mw.length{get:Nat->Option aK}{fk:Option Nat}{os':List (Option dZ)}:∀{r:List AV}{t:List Tree},mw get fk os' r t->t.length=r.length
 |[],[],_=>rfl
 |_::_,_::_,h=>by simp[mw.length h.2]
 |[],_::_,h |_::_,[],h=>h.elim
theorem Be(hr:Rel P w0 O0 N β I σ a w){fk:Option Nat}{os':List (Option dZ)}{β':Nat->Option cW}:∀{rs:List (List AV)}{ts:List (List Tree)}{c:Array Value}{aa sz:Nat},eM σ.obj fk os' rs ts->bu P β w I rs c aa sz->bu P β' w (M7 σ w0 w β I O0 fk os') (aI ts) c aa sz
 |[],[],_,_,_,_,_=>trivial
 |r::rs,t::ts,c,aa,sz,h,⟨h1,h2,h3⟩=>⟨by rw[length_map,h.1.length,h1],M9 hr h.1 h2,Be hr h.2 h3⟩
 |[],_::_,_,_,_,h,_ |_::_,[],_,_,_,h,_=>h.elim
theorem eM.length{get:Nat->Option aK}{fk:Option Nat}{os':List (Option dZ)}:∀{rs:List (List AV)}{ts:List (List Tree)},eM get fk os' rs ts->rs.length=ts.length
 |[],[],_=>rfl
 |_::_,_::_,h=>by simp[h.2.length]
 |[],_::_,h |_::_,[],h=>h.elim
theorem KX(hr:Rel P w0 O0 N β I σ a w){fk:Option Nat}{os':List (Option dZ)}{β':Nat->Option cW}:∀{r:List AV}{t:List Tree}{vs:List Value},mw σ.obj fk os' r t->be P β w I r vs->be P β' w (M7 σ w0 w β I O0 fk os') (t.map AV.t) vs
 |[],[],[],_,_=>by simp[be]
 |x::xs,y::ys,v::vs,h,hv=>by exact⟨Ed hr h.1 hv.1,KX hr h.2 hv.2⟩
 |[],_::_,_,h,_ |_::_,[],_,h,_=>h.elim
 |[],[],_::_,_,hv |_::_,_::_,[],_,hv=>by simp[be]at hv
theorem Hr(hr:Rel P w0 O0 N β I σ a w){fk:Option Nat}{os':List (Option dZ)}{β':Nat->Option cW}:∀{rs:List (List AV)}{ts:List (List Tree)}{es:List MapEntry},eM σ.obj fk os' rs ts->cT P β w I rs es->cT P β' w (M7 σ w0 w β I O0 fk os') (aI ts) es
 |[],[],[],_,_=>trivial
 |_::_,_::_,_::_,h,hm=>⟨KX hr h.1 hm.1,Hr hr h.2 hm.2⟩
 |[],_::_,_,h,_ |_::_,[],_,h,_=>h.elim
 |[],[],_::_,_,hm |_::_,_::_,[],_,hm=>hm.elim
theorem eM.nil{get:Nat->Option aK}{fk:Option Nat}{os':List (Option dZ)}{t:List (List Tree)}(h:eM get fk os' [] t):t=[]:=by
 cases t with
 |nil=>rfl
 |cons=>exact h.elim
theorem VU(hr:Rel P w0 O0 N β I σ a w){F:Nat->Prop}{βi:Nat->Option cW}{fk:Option Nat}{os':List (Option dZ)}(hF:∀k o b,fk=some k->σ.obj k=some o->¬kept os' k->ie β k b->F b)(hi:∀j,kept os' j->β j=βi j){x:AV}{c:RC}{v:Value}
 (h:HD σ.obj fk os' x c) (hv:VR P β w I x v):BT P F βi c w (M7 σ w0 w β I O0 fk os') v:=by
 unfold HD at h;split at h;rename_i cs ts;simp[VR]at hv;obtain⟨vs,rfl,hv⟩:=hv;refine⟨vs,rfl,?_⟩;have:∀(cs:List AV)(ts:List Tree)(vs:List Value),mw σ.obj fk os' cs ts->be P β w I cs vs->fg w (M7 σ w0 w β I O0 fk os') ts vs:=by
  intro cs
  induction cs with
  |nil=>intro ts vs h hv;cases ts<;>cases vs<;>first |trivial |exact h.elim |(simp at hv)
  |cons x xs ih=>
   intro ts vs h hv;cases ts with
   |nil=>exact h.elim
   |cons t ts=>
    cases vs with
    |nil=>simp[be]at hv
    |cons u us=>simp[be]at hv;exact⟨Ed hr h.1 hv.1,ih ts us h.2 hv.2⟩
 exact this cs ts vs.toList h hv;exact Ed hr h hv;subst h;simp[VR]at hv;exact .inl ⟨rfl,hv⟩;rename_i k aa len sz rows;obtain⟨rfl,hnk,rfl,o,h1,rfl,h2,h3⟩:=h;simp only[VR]at hv;rcases hv with ⟨_,rfl,_,h4⟩ |⟨b,sz,n,cap,ad,h4,rfl,h5,h6,h7⟩;exact .inl ⟨List.eq_nil_of_length_eq_zero (by omega),rfl⟩;have⟨B,hB,te⟩:=hr.mem.de k o h1;rw[h4]at hB;cases hB;obtain⟨hs,c,e,hc',hn,te⟩:=te;refine .inr ⟨b,c,e,cap,ad,n.s,by rw[h3],hF k o b rfl h1 hnk (.at h4),λhI=>hI.2.2 ⟨k,.inl rfl,⟨o,h1⟩,.at h4⟩,hc',by omega,?_,?_,λhc=>by simpa using h7 hc⟩;rw[<- hs,hn];simpa using h6;rw[<- hs];exact Be hr h2 (bu.take len _ _ _ _ te);rename_i k aa len j len';obtain⟨rfl,rfl,rfl,hk⟩:=h;show VR P βi w (M7 σ w0 w β I O0 fk os') (.own k 0 len') v;simp[VR]at hv ⊢;rw[<- hi k hk];exact hv;exact h.elim
theorem Bf{α:Type}(l:List α)(t:Nat):lk ((List.range l.length).zip l) t=l[t]? :=by
 have rj:∀(l:List α)(s t:Nat),(lk ((List.range' s l.length).zip l) t)=if s<=t/\t<s+l.length then l[t -s]? else none:=by
  intro l
  induction l with
  |nil=>intro s t;simp[lk]
  |cons x xs ih=>
   simp[List.range'_succ,lk]
   all_goals grind
 rw[List.range_eq_range',rj];by_cases ht:t<l.length;simp;rw[aR (by omega)];simp[List.getElem?_eq_none (Nat.le_of_not_lt ht)]
theorem JE{x:AV}:∀{l:List AV},x∈l->∀k∈refs x,k∈dh l
 |[],h,_,_=>by simp at h
 |y::ys,h,k,hk=>by simp[dh];rcases aH.1 h with rfl |h;exact .inl hk;exact .inr (JE h k hk)
theorem PX(hT : eX P T){f : FuncId}{fn : Func}{c : Code}{args : List AV}{os : List dZ}{os' : List (Option dZ)}{rv : RV}(hfn : P.funcs[f]? = some fn)(hb : fn.body = some c)(hname : (fn.name == "runtime.NumGoroutine") = false)(hN : args.length <= fn.ntmps)(hargs : ∀ k ∈ dh args, k < 1000)(hos : os.length <= 1000)(hlen : os'.length = os.length)
 (h:Ev P fn.ntmps c (My T fn.results.toList rv os') (sA.st ⟨(List.range args.length).zip args,(List.range (os.map ir).length).zip (os.map ir)⟩)):qu P f args os os' rv:=by
 refine⟨⟨fn,hfn,by rw[hb];rfl,hname⟩,λw β I vs hβ hM hv=>?_⟩;have hvl:=be.length _ _ hv;simp at hvl;have jz:∀k,lk ((List.range (os.map ir).length).zip (os.map ir)) k=sq os k:=λk=>by rw[Bf];simp[sq]
 refine calls_of_wp hfn hb ?_;have hrel:Rel P w (qf β I) fn.ntmps β I (sA.st ⟨(List.range args.length).zip args,(List.range (os.map ir).length).zip (os.map ir)⟩) { tmps:=vs++Array.replicate (fn.ntmps -vs.size) undef,defers:=[] } w:=by
  refine⟨rfl,by simp;omega,λt=>?_,?_⟩;simp only[sA.st,Bf,fx];by_cases ht:t<args.length;obtain⟨v,g1,g2⟩:=be.get _ _ t _ hv (dm ht);rw[dm ht];simp only[Option.getD_some];have:(vs++Array.replicate (fn.ntmps -vs.size) undef).getD t undef=v:=by rw[Array.getElem?_toList]at g1;simp only[Array.getD_eq_getD_getElem?,Array.getElem?_append,show t<vs.size by omega,if_true,g1,Option.getD_some]
  rw[this];exact g2;rw[List.getElem?_eq_none (Nat.le_of_not_lt ht)];simp[VR];have:(sA.st ⟨(List.range args.length).zip args,(List.range (os.map ir).length).zip (os.map ir)⟩).obj=sq os:=funext jz;rw[this];exact hM
 have hold:th (sA.st ⟨(List.range args.length).zip args,(List.range (os.map ir).length).zip (os.map ir)⟩):=by
  refine⟨λ t k hk=>?_,λk o hk=>?_⟩;simp[sA.st,Bf]at hk;cases ht:args[t]? with
  |none=>rw[ht]at hk;simp[refs]at hk
  |some x=>rw[ht]at hk;have:=hargs k (JE (bR ht) k hk);omega
  have hk:sq os k=some o:=(jz k).symm.trans hk;simp only[sq,sS]at hk;obtain⟨p,hp,rfl⟩:=hk;refine⟨by have:=(bZ.1 hp).1;omega,λr hr x hx j hj=>?_⟩;simp[ir,aI,mem_map]at hr;obtain⟨q,_,rfl⟩:=hr;simp[mem_map]at hx;obtain⟨t,_,rfl⟩:=hx;simp[refs]at hj
 refine wp_mono (h w (qf β I) β I _ w hrel hold) ?_
 have fin:∀(a':Act) (w':World) (β':Nat->Option cW) (I':Nat->Prop) (σ':St),Rel P w (qf β I) fn.ntmps β' I' σ' a' w'->(∃ xs fk,nN T σ' fn.results.toList=some xs/\HC σ'.obj fk os' xs rv/\Q4 σ'.obj fk os')->
  a'.defers=[]/\∃v,(results fn a'.tmps).run P w'= .ok v w'/\P2 P w β I os' rv (.returned v) w':=by
  intro a' w' β' I' σ' hr ⟨xs,fk,hx,he,heo⟩;obtain⟨us,g1,g2⟩:=Bd hT hr _ _ hx;have At:=be.length _ _ g2;have hm:=hr.mem;have hrun:(fn.results.mapM (VP a'.tmps)).run P w'= .ok us.toArray w':=by rw[Array.mapM_eq_mapM_toList,Sem.run_map,g1];rfl
  have hko:∀j p,os'[j]? =some (some p)->∃B o,β j=some B/\β' j=some B/\σ'.obj j=some o/\OR P β' w' I' o B/\o.sz=p.1/\eM σ'.obj fk os' (o.rows.take p.2.length) p.2:=by intro j p hj;have⟨_,o,e1,e2,e3⟩:=heo j p hj;have hjl:j<os.length:=(by rw[<- hlen];exact(bZ.1 hj).1);obtain⟨B,hB,_⟩:=hM.de j (ir os[j]) (by simp[sq,hjl]);have hB':=hm.anch j B (by simp only[qf];rw[aS (by omega)];exact hB);have⟨B',hB2,hO⟩:=hm.de j o e1;rw[hB']at hB2;cases hB2;exact⟨B,o,hB,hB',e1,hO,e2,e3⟩
  have hkept:∀j,kept os' j->β' j=β j:=λj ⟨p,hp⟩=>by have⟨B,o,h1,h2,_⟩:=hko j p hp;rw[h1,h2]
  have s6:∀j o,Cw os' j=some o->∃p,os'[j]? =some (some p)/\o=ir p:=by intro j o hj;simp only[Cw,sS,Option.join_eq_some_iff]at hj;obtain⟨p,hp,rfl⟩:=hj;exact⟨p,hp,rfl⟩
  have ri:∀b,I b->¬Vy β b/\b<w.heap.size:=by intro b hb;refine⟨?_,hM.lt b hb⟩;rintro⟨j,B,hj,hB⟩;rcases Nat.lt_or_ge j os.length with hjl |hjl;exact(hM.ownB j (ir os[j]) B b (by simp[sq,hjl]) hj hB).1 hb;rw[hβ j hjl]at hj;cases hj
  have hOI:∀b,I b->M7 σ' w w' β' I' (qf β I) fk os' b:=by intro b hb;have⟨g1,g2⟩:=ri b hb;refine⟨.inr (.inl hb),Nat.lt_of_lt_of_le g2 hm.le,?_⟩;rintro⟨k,_,⟨o,ho⟩,hβk⟩;rcases (hm.kq k o b ho hβk).2.2 with g |g;exact g1 g;omega
  have hmem:Mem P w (qf β I) β (M7 σ' w w' β' I' (qf β I) fk os') (Cw os') w':=by
   constructor;intro j o hj;obtain⟨p,hp,rfl⟩:=s6 j o hj;have⟨B,o1,b1,b2,b3,b4,b5,b6⟩:=hko j p hp;refine⟨B,b1,?_⟩;cases B with
   |none=>
    simp[OR]at b4 ⊢;rw[b4]at b6;have:=eM.nil (by simpa using b6);simp[ir,aI,this]
   | «at» b s n=>
    obtain⟨c1,c,e,c2,c3,c4⟩:=b4;refine⟨by rw[c1,b5];rfl,c,e,c2,c3,?_⟩;exact Be hr b6 (bu.take _ _ _ _ _ c4)
   |mp b=>
    obtain⟨es,cl,c1,cl',c2,c3⟩:=b4;have hl:=b6.length;simp[List.length_take]at hl;refine⟨es,cl,c1,by simp[ir,aI,length_map];omega,λe=>?_,c3⟩;have e':p.1=p.2.length:=(by simpa[ir,aI]using e);rw[take_of_length_le (by omega)]at b6;exact Hr hr b6 (c2 (by omega))
   intro j j' o o' B B' b h1 h2 h3 h4 h5 h6;obtain⟨p,hp,rfl⟩:=s6 j o h1;obtain⟨p',hp',rfl⟩:=s6 j' o' h2;have⟨_,o1,_,_,b3,_⟩:=hko j p hp;have⟨_,o1',_,_,b3',_⟩:=hko j' p' hp';rw[<- hkept j ⟨p,hp⟩]at h3;rw[<- hkept j' ⟨p',hp'⟩]at h4;exact hm.ii j j' o1 o1' B B' b b3 b3' h3 h4 h5 h6;intro j o B b h1 h2 h5;obtain⟨p,hp,rfl⟩:=s6 j o h1;have⟨_,o1,_,_,b3,_⟩:=hko j p hp;rw[<- hkept j ⟨p,hp⟩]at h2;have⟨_,c2,c3⟩:=hm.ownB j o1 B b b3 h2 h5;exact⟨λ hb=>hb.2.2 ⟨j,.inr ⟨p,hp⟩,⟨o1,b3⟩,B,h2,h5⟩,c2,c3⟩;exact λb hb=>hb.2.1;intro b hb;rcases hb.1 with g |g |g |g;exact hm.up b g;exact .inl g;exact .inr (.inr g);exact .inr (.inl g);exact hm.keep;exact hm.le;exact hm.os;exact hm.tape;exact hm.output;intro j B hj;simp only[qf]at hj;split at hj;exact hj;cases hj;exact hM.vars.mono (λ b hb=>hm.keep b (ri b hb).2 (ri b hb).1) hOI
  have hF:∀k o b,fk=some k->σ'.obj k=some o->¬kept os' k->ie β' k b->By w β os' b:=by intro k o b _ h2 h3 h4;refine⟨(hm.kq k o b h2 h4).2.2,λj o' h5 h6=>?_⟩;obtain⟨p,hp,rfl⟩:=s6 j o' h5;have⟨_,o1,_,_,b3,_⟩:=hko j p hp;have h6':ie β' j b:=(by obtain⟨B,e1,e2⟩:=h6;exact⟨B,by rw[hkept j ⟨p,hp⟩];exact e1,e2⟩);have:=hm.oY k j o o1 b h2 b3 h4 h6';subst this;exact h3 ⟨p,hp⟩
  have ret:∀v,sy P (By w β os') β rv w' (M7 σ' w w' β' I' (qf β I) fk os') v->P2 P w β I os' rv (.returned v) w':=λv hv'=>⟨v,_,rfl,hmem,hOI,hv'⟩;refine⟨hr.defers,?_⟩;have hlist:∀(xs:List AV)(cs:List RC)(us:List Value),oB σ'.obj fk os' xs cs->be P β' w' I' xs us->Vh P (By w β os') β cs w' (M7 σ' w w' β' I' (qf β I) fk os') us:=by
   intro xs
   induction xs with
   |nil=>intro cs us h1 h2;cases cs<;>cases us<;>first |trivial |exact h1.elim |(simp [be]at h2)
   |cons x xs ih=>
    intro cs us h1 h2;cases cs with
    |nil=>exact h1.elim
    |cons c cs=>
     cases us with
     |nil=>simp[be]at h2
     |cons u us=>simp[be]at h2;exact⟨VU hr hF hkept h1.1 h2.1,ih cs us h1.2 h2.2⟩
  simp only[VQ,Sem.run_bind,hrun,Result.andThen_ok,Sem.run_pure];refine⟨_,rfl,ret _ ?_⟩
  match xs,us,rv,he,g2 with
  |[x],[u],.one c,he,g2=>
   simp only[be]at g2;simpa[sy]using VU hr hF hkept he g2.1
  |x::y::r,u::u'::us,.en cs,he,g2=>
   have:=hlist _ _ _ he g2;rw[dif_neg (by simp)];exact⟨_,rfl,by simpa using this⟩
  |[],[],.en cs,he,g2=>
   simp[HC]at he;subst he;rw[dif_neg (by simp)];exact⟨_,rfl,trivial⟩
  |[x],[u],.en cs,he,_=>exact he.elim
  |[],_,.one c,he,_=>exact he.elim
  |x::y::r,_,.one c,he,_=>exact he.elim
  |[],_::_,.en _,_,g2=>simp[be]at g2
  |[_],[],_,_,g2=>simp[be]at g2
  |[_],_::_::_,_,_,g2=>simp[be]at g2
  |_::_::_,[],_,_,g2=>simp[be]at g2
  |_::_::_,[_],_,_,g2=>simp[be]at g2
 rintro e a' w' ⟨β',I',σ',h1,h2,h3⟩;cases e with
 |normal=>exact fin a' w' β' I' σ' h1 h3
 |ret=>exact fin a' w' β' I' σ' h1 h3
 |_=>exact h3.elim
def Q3(P:Program)(get:Nat->Option aK)(xs:List AV)(os':List (Nat×aK))(rv:AV):Prop:=
 ∀(w0:World) (O0:kA) (β:Nat->Option cW) (I:Nat->Prop) (w:World) (vs:Array Value),Mem P w0 O0 β I get w->be P β w I xs vs.toList->∃ β' I',Mem P w0 O0 β' I' (pj os') w/\(∀ b,I b->I' b)/\VR P β' w I' rv (if h:vs.size=1 then vs[0]else .tuple vs)
def apR(P:Program)(T:ez)(rs:List ResultVar)(rv:AV)(os':List (Nat×aK)):Exit->St->Prop
 | .normal,σ=>∃xs,nN T σ rs=some xs/\Q3 P σ.obj xs os' rv
 | .ret,σ=>∃xs,nN T σ rs=some xs/\Q3 P σ.obj xs os' rv
 |_,_=>False
theorem aaF(hT : eX P T){f : FuncId}{fn : Func}{c : Code}{args : List AV}{os : List aK}{os' : List (Nat × aK)}{rv : AV}(hfn : P.funcs[f]? = some fn)(hb : fn.body = some c)(hname : (fn.name == "runtime.NumGoroutine") = false)(hN : args.length <= fn.ntmps)(hargs : ∀ k ∈ dh args, k < 1000)(hos : os.length <= 1000)
 (V2:∀o∈os,∀r∈o.rows,∀x∈r,∀j∈refs x,j<1000)
 (h:Ev P fn.ntmps c (apR P T fn.results.toList rv os') (sA.st ⟨(List.range args.length).zip args,(List.range os.length).zip os⟩)):xy P f args os os' rv:=by
 refine⟨⟨fn,hfn,by rw[hb];rfl,hname⟩,λw β I vs hβ hM hv=>?_⟩;have hvl:=be.length _ _ hv;simp at hvl;have jz:∀k,lk ((List.range os.length).zip os) k=uA os k:=λk=>by rw[Bf];rfl
 refine calls_of_wp hfn hb ?_;have hrel:Rel P w (qf β I) fn.ntmps β I (sA.st ⟨(List.range args.length).zip args,(List.range os.length).zip os⟩) { tmps:=vs++Array.replicate (fn.ntmps -vs.size) undef,defers:=[] } w:=by
  refine⟨rfl,by simp;omega,λt=>?_,?_⟩;simp only[sA.st,Bf,fx];by_cases ht:t<args.length;obtain⟨v,g1,g2⟩:=be.get _ _ t _ hv (dm ht);rw[dm ht];simp only[Option.getD_some];have:(vs++Array.replicate (fn.ntmps -vs.size) undef).getD t undef=v:=by rw[Array.getElem?_toList]at g1;simp only[Array.getD_eq_getD_getElem?,Array.getElem?_append,show t<vs.size by omega,if_true,g1,Option.getD_some]
  rw[this];exact g2;rw[List.getElem?_eq_none (Nat.le_of_not_lt ht)];simp[VR];have:(sA.st ⟨(List.range args.length).zip args,(List.range os.length).zip os⟩).obj=uA os:=funext jz;rw[this];exact hM
 have hold:th (sA.st ⟨(List.range args.length).zip args,(List.range os.length).zip os⟩):=by
  refine⟨λ t k hk=>?_,λk o hk=>?_⟩;simp[sA.st,Bf]at hk;cases ht:args[t]? with
  |none=>rw[ht]at hk;simp[refs]at hk
  |some x=>rw[ht]at hk;have:=hargs k (JE (bR ht) k hk);omega
  have hk:uA os k=some o:=(jz k).symm.trans hk;simp[uA]at hk;refine⟨by have:=(bZ.1 hk).1;omega,λr hr x hx j hj=>?_⟩;have:=V2 o (bR hk) r hr x hx j hj;omega
 refine wp_mono (h w (qf β I) β I _ w hrel hold) ?_
 have fin:∀(a':Act) (w':World) (β':Nat->Option cW) (I':Nat->Prop) (σ':St),Rel P w (qf β I) fn.ntmps β' I' σ' a' w'->(∃ xs,nN T σ' fn.results.toList=some xs/\Q3 P σ'.obj xs os' rv)->
  a'.defers=[]/\∃v,(results fn a'.tmps).run P w'= .ok v w'/\apQ P w β I os' rv (.returned v) w':=by
  intro a' w' β' I' σ' hr ⟨xs,hx,he⟩;obtain⟨us,g1,g2⟩:=Bd hT hr _ _ hx;have hrun:(fn.results.mapM (VP a'.tmps)).run P w'= .ok us.toArray w':=by rw[Array.mapM_eq_mapM_toList,Sem.run_map,g1];rfl
  have ri:∀b,I b->¬Vy β b/\b<w.heap.size:=by intro b hb;refine⟨?_,hM.lt b hb⟩;rintro⟨j,B,hj,hB⟩;rcases Nat.lt_or_ge j os.length with hjl |hjl;exact(hM.ownB j os[j] B b (by simp[uA]) hj hB).1 hb;rw[hβ j hjl]at hj;cases hj
  obtain⟨β2,I2,hm,hI2,hv2⟩:=he w (qf β I) β' I' w' us.toArray hr.mem (by simpa using g2);have hmem:Mem P w (qf β I) β2 (λ b=>I2 b\/I b) (pj os') w':=by constructor;intro k o hk;have⟨B,hB,hO⟩:=hm.de k o hk;exact⟨B,hB,OR.mono (λ _ _ h=>h) (λ _ _=>rfl) (λ b hb=> .inl hb) (λ _ _=>rfl) hO⟩;exact hm.ii;intro k o B b h1 h2 h3;have⟨a1,a2,a3⟩:=hm.ownB k o B b h1 h2 h3;refine⟨?_,a2,a3⟩;rintro (hb |hb);exact a1 hb;have⟨c1,c2⟩:=ri b hb;rcases a3 with a3 |a3;exact c1 a3;omega;rintro b (hb |hb);exact hm.lt b hb;exact Nat.lt_of_lt_of_le (ri b hb).2 hm.le;rintro b (hb |hb);exact hm.up b hb;exact .inl hb;exact hm.keep;exact hm.le;exact hm.os;exact hm.tape;exact hm.output;exact hm.anch;exact hm.vars.mono (λ _ _=>rfl) (λ b hb=> .inl hb)
  refine⟨hr.defers,?_⟩;simp only[VQ,Sem.run_bind,hrun,Result.andThen_ok,Sem.run_pure];exact⟨_,rfl,_,β2,_,rfl,hmem,λb hb=> .inr hb,VR.mono (λ _ _ h=>h) (λ _ _=>rfl) (λ b hb=> .inl hb) _ _ hv2⟩
 rintro e a' w' ⟨β',I',σ',h1,h2,h3⟩;cases e with
 |normal |ret=>exact fin a' w' β' I' σ' h1 h3
 |_=>exact h3.elim
theorem sy.If{F F':Nat->Prop}{βi:Nat->Option cW}{w':World}{I':Nat->Prop}(hF:∀b,F b->F' b){rv:RV}{v:Value}(h:sy P F βi rv w' I' v):sy P F' βi rv w' I' v:=by
 have hc:∀(c:RC)(v:Value),BT P F βi c w' I' v->BT P F' βi c w' I' v:=by
  intro c v h;cases c with
  |d x=>exact h
  |fresh sz rows=>
   rcases h with h |⟨b,c,e,cap,o,s,h1,h2,h3⟩;exact .inl h;exact .inr ⟨b,c,e,cap,o,s,h1,hF b h2,h3⟩
  |whole j len=>exact h
 cases rv with
 |one c=>exact hc c v h
 |en cs=>
  obtain⟨vs,rfl,h⟩:=h;refine⟨vs,rfl,?_⟩;have:∀(cs:List RC)(vs:List Value),Vh P F βi cs w' I' vs->Vh P F' βi cs w' I' vs:=by
   intro cs
   induction cs with
   |nil=>intro vs h;cases vs with
    |nil=>trivial
    |cons=>exact h.elim
   |cons c cs ih=>intro vs h;cases vs with
    |nil=>exact h.elim
    |cons v vs=>exact⟨hc c v h.1,ih vs h.2⟩
  exact this cs vs.toList h
theorem oC{f:FuncId}{args:List AV}{rv:RV}(h:qu P f args [] [] rv):rx P f args rv:=by
 refine⟨h.1,λw I vs hlt hgv hv=>?_⟩;have hM:Mem P w (qf oc I) oc I (sq []) w:=by refine⟨λ k o hk=>by simp[sq]at hk,λk k' o o' B B' b hk=>by simp[sq]at hk,λk o B b hk=>by simp[sq]at hk,hlt,λb hb=> .inl hb,λ_ _ _=>rfl,aB _,rfl,rfl,rfl,λj B hj=>?_,hgv⟩;simp only[qf,oc,ite_self]at hj;cases hj
 refine(h.2 w oc I vs (λ _ _=>rfl) hM hv).mono ?_;rintro e w' ⟨v,I',rfl,g1,g2,g3⟩;have hno:∀b,¬(qf oc I).own b:=λb ⟨j,B,hj,_⟩=>by cases hj
 refine⟨v,I',rfl,⟨g1.os,g1.tape,g1.output,g1.le,λb hb=>g1.keep b hb (hno b)⟩,g2,g1.lt,λb hb=>?_,sy.If (λ b hb=>?_) g3⟩;rcases g1.up b hb with h |h |h;exact .inl h;exact(hno b h).elim;exact .inr h;rcases hb.1 with h |h;exact(hno b h).elim;exact h
end
open Go.RowKit Go.WideShapes Go.ChangeShapes
inductive CS where
 |int (k:IntKind)
 |bool
 |str
 |sl (row:List CS)
 |any
  |mu (row:List CS)
 |back
def aqI:CS->Tree->Prop
 | .int k,x=>∃n,x= .sc (.int k n)/\(Lit.int k n).wf=true
 | .bool,x=>∃b,x= .sc (.bool b)
 | .str,x=>∃s,x= .sc (.string s)/\s.size<=maxLen
 |_,_=>False
def apS:CS->Nat
 | .int .i64=>8
 | .int _=>1
 | .bool=>1
 | .str=>16
 |_=>24
def SD:CS->Nat
 | .int .i64=>8
 | .int _=>1
 | .bool=>1
 |_=>8
def ao6:Nat->List CS->Nat
 |o,[]=>o
 |o,c::cs=>ao6 ((o+(SD c -1))/SD c*SD c+apS c) cs
def Q2(r:List CS):Nat:=bif r.any (λ c=>SD c==8)then(ao6 0 r+7)/8*8 else ao6 0 r
mutual
inductive HQ(row:List CS):Tree->Prop
 |mk (rows:List (List Tree)) (hl:rows.length<=maxLen) (h:qk row rows):HQ row (.sl rows)
inductive qk(row:List CS):List (List Tree)->Prop
 |nil:qk row []
 |cons {r:List Tree} {rs:List (List Tree)} (h:kw row row r) (t:qk row rs):qk row (r::rs)
inductive kw(row:List CS):List CS->List Tree->Prop
 |nil:kw row [] []
 |back {cs:List CS} {x:Tree} {xs:List Tree} (h:HQ row x) (t:kw row cs xs):kw row (.back::cs) (x::xs)
 |one {c:CS} {cs:List CS} {x:Tree} {xs:List Tree} (h:aqI c x) (t:kw row cs xs):kw row (c::cs) (x::xs)
end
mutual
def Fit:CS->Tree->Prop
 | .int k,x=>∃n,x= .sc (.int k n)/\(Lit.int k n).wf=true
 | .bool,x=>∃b,x= .sc (.bool b)
 | .str,x=>∃s,x= .sc (.string s)/\s.size<=maxLen
 | .sl row,x=>∃rows,x= .sl rows/\(rows.length<=maxLen/\rows.length*Q2 row<=reachBytes)/\∀r∈rows,ee row r
 | .any,_=>True
 | .mu row,x=>HQ row x
 | .back,_=>False
def ee:List CS->List Tree->Prop
 |[],[]=>True
 |c::cs,x::xs=>Fit c x/\ee cs xs
 |_,_=>False
end
mutual
def nb:Tree->Nat
 | .sc (.string s)=>s.size+1
 | .sc _=>1
 | .sl rows=>wX rows+1
def wX:List (List Tree)->Nat
 |[]=>0
 |r::rs=>gY r+wX rs
def gY:List Tree->Nat
 |[]=>0
 |x::xs=>nb x+gY xs
end
theorem Ac:∀a b:List Tree,gY (a++b)=gY a+gY b
 |[],b=>by simp[gY]
 |x::a,b=>by simp[gY,Ac a b];omega
structure Bk(H:Type) where
 b:DataW H->Nat
 a:List (DataW H)->Nat
 str:∀l,b (.lit (.string l))=l.length+1
 int:∀k n,b (.lit (.int k n))=1
 bool:∀v,b (.lit (.bool v))=1
 nil:b .nil=1
 sl:∀e s,b (.slice e s)=a e+a s+1
 agg:∀p,b (.agg p)=a p+1
 a0:a []=0
 a1:∀d r,a (d::r)=b d+a r
theorem Bk.app{H:Type}(K:Bk H)(l r:List (DataW H)):K.a (l++r)=K.a l+K.a r:=by
 induction l with
 |nil=>simp[K.a0]
 |cons x l ih=>simp[K.a1];omega
theorem Bk.drop{H:Type}(K:Bk H){l:List (DataW H×List MemPlace)}{j:Nat}{y:DataW H×List MemPlace}(h:l[j]? =some y):K.a ((l.map (·.1)).drop j)=K.b y.1+K.a ((l.map (·.1)).drop (j+1)):=by obtain⟨hj,rfl⟩:=bZ.1 h;rw[List.drop_eq_getElem_cons (by simpa using hj),K.a1];simp
def zz(P:Program)(go:TypeId->Option (List CS)):Nat->List Field->Option (List CS)
 |_,[]=>some []
 |o,f::fs=>(go f.type).bind λa=>if f.offset=o/\a.length=P.cellsOf f.type then(zz P go (o+a.length) fs).map (a++ ·)else none
def agI(P:Program)(t u:TypeId):Option (List CS):=if u=t then some [.back]else match P.underlying u with
 |some (.int k)=>some [.int k]
 |some .bool=>some [.bool]
 |some .string=>some [.str]
 |_=>none
def Sx(P:Program)(t e:TypeId):Option (List CS):=match P.underlying e with
 |some (.struct fs)=>(zz P (agI P t) 0 fs.toList).bind λr=>if r.length=P.cellsOf e/\0<r.length then some r else none
 |_=>none
def z6(P:Program)(cut:List TypeId):Nat->TypeId->Option (List CS)
 | 0,_=>none
 |n+1,t=>match P.underlying t with
  |some (.int k)=>some [.int k]
  |some .bool=>some [.bool]
  |some .string=>some [.str]
  |some (.slice e)=>if cut.contains t then(match Sx P t e with |some row=>some [.mu row] |none=>some [.any])else(z6 P cut n e).bind λr=>if r.length=P.cellsOf e/\0<r.length/\Q2 r<=P.bytesOf e then some [.sl r]else none
  |some (.struct fs)=>(zz P (z6 P cut n) 0 fs.toList).bind λr=>if r.length=P.cellsOf t then some r else none
  |some (.array m e)=>(z6 P cut n e).bind λr=>if r.length=P.cellsOf e/\m*r.length=P.cellsOf t then some (List.replicate m r).flatten else none
  |_=>none
theorem ee.length:∀(cs:List CS)(ts:List Tree),ee cs ts->ts.length=cs.length
 |[],[],_=>rfl
 |c::cs,x::xs,h=>by simp[ee]at h;simp[ee.length cs xs h.2]
 |[],_::_,h |_::_,[],h=>by simp[ee]at h
theorem ee.append:∀(cs:List CS)(ts:List Tree){cs':List CS}{ts':List Tree},ee cs ts->ee cs' ts'->ee (cs++cs') (ts++ts')
 |[],[],_,_,_,h=>h
 |c::cs,x::xs,_,_,h,h'=>by simp at h ⊢;exact⟨h.1,ee.append cs xs h.2 h'⟩
 |[],_::_,_,_,h,_ |_::_,[],_,_,h,_=>by simp[ee]at h
def Here(w:World)(b:Nat):Prop:=b<w.heap.size
section
variable {w:World} {I:Nat->Prop}
theorem fg.append:∀(ts:List Tree)(cs:List Value){ts':List Tree}{cs':List Value},fg w I ts cs->fg w I ts' cs'->fg w I (ts++ts') (cs++cs')
 |[],[],_,_,_,h=>h
 |_::xs,_::vs,_,_,h,h'=>⟨h.1,fg.append xs vs h.2 h'⟩
 |[],_::_,_,_,h,_ |_::_,[],_,_,h,_=>h.elim
theorem fg.length:∀(ts:List Tree)(cs:List Value),fg w I ts cs->ts.length=cs.length
 |[],[],_=>rfl
 |_::xs,_::vs,h=>by simp[fg.length xs vs h.2]
 |[],_::_,h |_::_,[],h=>h.elim
theorem ab3:∀(ts:List Tree)(cs:List Value)(b aa:Nat),fg w I ts cs->(∀ i,i<cs.length->w.cell? ⟨b,aa+i,none⟩=cs[i]?)->ey w I ts b aa
 |[],[],_,_,_,_=>by simp[ey]
 |x::xs,v::vs,b,aa,h,hc=>by refine⟨⟨v,by simpa using hc 0 (by simp),h.1⟩,ab3 xs vs b (aa+1) h.2 λi hi=>?_⟩;have:=hc (i+1) (by simpa using hi);rw[show aa+(i+1)=aa+1+i by omega]at this;simpa using this
 |[],_::_,_,_,h,_ |_::_,[],_,_,h,_=>h.elim
end
section
variable {H:Type} {enc:TypeId×Value->H} {P:Program} {w:World} {sp:Nat->Bool} {held:Bool}
theorem PY{a:Addr}{v:Value}(h:w.cell? a=some v):a.spot=none/\a.block<w.heap.size:=by simp[World.cell?]at h;split at h;rename_i c e st hc;split at h;cases h;rename_i hs;exact⟨by simpa using hs,(Array.getElem?_eq_some_iff.1 hc).1⟩;cases h
def Ts(P:Program)(t:TypeId)(x:DataW H×List MemPlace):Prop:=∀k∈x.1.weights P t,k<=reachBytes
theorem yG{e:TypeId}:∀{l:List (DataW H)}{d:DataW H},d∈l->∀k∈d.weights P e,k∈DataW.weightsAll P e l
 |a::l,d,h,k,hk=>by simp[DataW.weightsAll];rcases aH.1 h with rfl |h;exact .inl hk;exact .inr (yG h k hk)
theorem R4(m:Nat)(cs:List Value)(go:TypeId->Option (List CS))(hgo:∀t sh,go t=some sh->∀cs x,DataW.trod enc P w 0 sp held m t cs=some x->Ts P t x->∃ts,fg w (Here w) ts cs/\ee sh ts/\∀K:Bk H,gY ts<=K.b x.1):
 ∀(fs:List Field)(l:List (DataW H×List MemPlace))(o:Nat)(sh:List CS),zz P go o fs=some sh->l.length=fs.length->(∀ (i:Nat) (f:Field) (x:DataW H×List MemPlace),fs[i]? =some f->l[i]? =some x->DataW.trod enc P w 0 sp held m f.type ((cs.drop f.offset).take (P.cellsOf f.type))=some x/\Ts P f.type x)->
  ∃ts,fg w (Here w) ts ((cs.drop o).take sh.length)/\ee sh ts/\∀K:Bk H,gY ts<=K.a (l.map (·.1))
 |[],l,o,sh,h,_,_=>by simp[zz]at h;subst h;exact⟨[],by simp[fg],by simp[ee],λK=>by simp[gY]⟩
 |f::fs,[],o,sh,h,hl,hf=>by simp at hl
 |f::fs,x::l,o,sh,h,hl,hf=>by simp only[zz,ah]at h;obtain⟨a,h1,h2⟩:=h;split at h2;rename_i hc;obtain⟨hc1,hc2⟩:=hc;simp at h2;obtain⟨r,h3,rfl⟩:=h2;have⟨hx,hz⟩:=hf 0 f x rfl rfl;obtain⟨ts,g1,g2,k1⟩:=hgo _ _ h1 _ _ hx hz;obtain⟨ts',g3,g4,k2⟩:=R4 m cs go hgo fs l _ _ h3 (by simpa using hl) λi f' x' hf' hx'=>hf (i+1) f' x' hf' hx';refine⟨ts++ts',?_,ee.append _ _ g2 g4,λK=>by have:=k1 K;have:=k2 K;rw[Ac,bE,K.a1];omega⟩;rw[fe,List.take_add,List.drop_drop];rw[hc1,<- hc2]at g1;exact fg.append _ _ g1 g3;cases h2
theorem kw.append{row:List CS}:∀{a b:List CS}{x y:List Tree},kw row a x->kw row b y->kw row (a++b) (x++y)
 |_,_,_,_,.nil,h=>h
 |_,_,_,_,.back h t,h'=> .back h (t.append h')
 |_,_,_,_,.one h t,h'=> .one h (t.append h')
theorem Na{row:List CS}(m:Nat)(cs:List Value)(go:TypeId->Option (List CS))(hgo:∀t sh,go t=some sh->∀cs x,DataW.trod enc P w 0 sp held m t cs=some x->∃ts,fg w (Here w) ts cs/\kw row sh ts/\∀K:Bk H,gY ts<=K.b x.1):
 ∀(fs:List Field)(l:List (DataW H×List MemPlace))(o:Nat)(sh:List CS),zz P go o fs=some sh->l.length=fs.length->(∀ (i:Nat) (f:Field) (x:DataW H×List MemPlace),fs[i]? =some f->l[i]? =some x->DataW.trod enc P w 0 sp held m f.type ((cs.drop f.offset).take (P.cellsOf f.type))=some x)->
  ∃ts,fg w (Here w) ts ((cs.drop o).take sh.length)/\kw row sh ts/\∀K:Bk H,gY ts<=K.a (l.map (·.1))
 |[],l,o,sh,h,_,_=>by simp[zz]at h;subst h;exact⟨[],by simp[fg],.nil,λK=>by simp[gY]⟩
 |f::fs,[],o,sh,h,hl,hf=>by simp at hl
 |f::fs,x::l,o,sh,h,hl,hf=>by simp only[zz,ah]at h;obtain⟨a,h1,h2⟩:=h;split at h2;rename_i hc;obtain⟨hc1,hc2⟩:=hc;simp at h2;obtain⟨r,h3,rfl⟩:=h2;have hx:=hf 0 f x rfl rfl;obtain⟨ts,g1,g2,k1⟩:=hgo _ _ h1 _ _ hx;obtain⟨ts',g3,g4,k2⟩:=Na m cs go hgo fs l _ _ h3 (by simpa using hl) λi f' x' hf' hx'=>hf (i+1) f' x' hf' hx';refine⟨ts++ts',?_,g2.append g4,λK=>by have:=k1 K;have:=k2 K;rw[Ac,bE,K.a1];omega⟩;rw[fe,List.take_add,List.drop_drop];rw[hc1,<- hc2]at g1;exact fg.append _ _ g1 g3;cases h2
theorem anH{t e:TypeId}{row:List CS}(hk:P.underlying t=some (.slice e))(hm:Sx P t e=some row):∀(fuel:Nat)(cs:List Value)(x:DataW H×List MemPlace),DataW.trod enc P w 0 sp held fuel t cs=some x->∃tr,fg w (Here w) [tr] cs/\HQ row tr/\∀K:Bk H,nb tr<=K.b x.1:=by
 intro fuel
 induction fuel using Nat.strongRecOn with
 |_ fuel ih=>
 intro cs x hx;have one:∀m,m<fuel->∀ud y,DataW.trod enc P w 0 sp held m e ud=some y->∃ts,fg w (Here w) ts ud/\kw row row ts/\ts.length=row.length/\∀K:Bk H,gY ts<=K.b y.1:=by
  intro m hmf ud y hy;unfold Sx at hm;split at hm;rename_i fs hke;simp only[ah]at hm;obtain⟨r,h1,h2⟩:=hm;split at h2;rename_i hr;injection h2 with h2;subst h2;obtain⟨xs,m',hm',rfl,hl,hxs,hf⟩:=DataW.trod_struct hke hy;obtain⟨ts,g1,g2,k1⟩:=Na (row:=r) m' ud (agI P t) (λ u sh hsh cs x hx=>by unfold agI at hsh;split at hsh;rename_i hu;cases hsh;rw[hu]at hx;obtain⟨tr,a1,a2,a3⟩:=ih m' (by omega) cs x hx;exact⟨[tr],a1,.back a2 .nil,λK=>by have:=a3 K;simp[gY];omega⟩;split at hsh;rename_i k C3;cases hsh;obtain⟨v,rfl,rfl,hw⟩:=DataW.trod_int C3 hx;exact⟨[.sc (.int k v)],by simp[fg,TR,oneCell],.one ⟨v,rfl,hw⟩ .nil,λK=>by simp[gY,nb,K.int]⟩;rename_i C3;cases hsh;obtain⟨v,rfl,rfl⟩:=DataW.trod_bool C3 hx;exact⟨[.sc (.bool v)],by simp[fg,TR,oneCell],.one ⟨v,rfl⟩ .nil,λK=>by simp[gY,nb,K.bool]⟩;rename_i C3;cases hsh;obtain⟨v,rfl,rfl,hw⟩:=DataW.trod_string C3 hx;exact⟨[.sc (.string v)],by simp[fg,TR,oneCell],.one ⟨v,rfl,hw⟩ .nil,λK=>by simp[gY,nb,K.str]⟩;cases hsh) fs.toList xs 0 r h1 (by simpa using hxs) (λ i f x hi hxi=>by have hi':fs[i]? =some f:=(by simpa using hi);rw[hf i f hi',hxi]);rw[List.drop_zero,take_of_length_le (by omega)]at g1;refine⟨ts,g1,g2,?_,λK=>by have:=k1 K;rw[K.agg];omega⟩;rw[fg.length _ _ g1];omega;cases h2;cases hm
 have rl:row.length=P.cellsOf e/\0<row.length:=by unfold Sx at hm;split at hm;simp only[ah]at hm;obtain⟨r,h1,h2⟩:=hm;split at h2;rename_i hr;cases h2;exact hr;cases h2;cases hm
 rcases DataW.trod_slice hk hx with ⟨rfl,rfl⟩ |⟨a,len,cap,elems,ae,m,hfm,rfl,rfl,_,hl,hmx,hlen,hel,_,_⟩;refine⟨.sl [],?_,.mk [] (by simp[maxLen]) .nil,λK=>by simp[nb,wX,K.nil]⟩;simp only[fg,TR];exact⟨.inl ⟨trivial,none,0,rfl,λ_=>rfl⟩,trivial⟩;have each:∀i,i<len->∃ud y,w.cells? 0 (a.add (i*P.cellsOf e)) (P.cellsOf e)=some ud/\DataW.trod enc P w 0 sp held m e ud=some y/\elems[i]? =some y:=by intro i hi;have h3:=hel i hi;have h6:elems[i]? =some (elems[i]'(by omega)):=dm (by omega);rw[h6,ah]at h3;obtain⟨ud,h4,h5⟩:=h3;exact⟨ud,_,h4,h5,h6⟩
 by_cases h0:len=0;subst h0;refine⟨.sl [],?_,.mk [] (by simp[maxLen]) .nil,λK=>by simp[nb,wX,K.sl]⟩;simp only[fg,TR];exact⟨.inl ⟨trivial,some a,cap,rfl,λh=>by cases h⟩,trivial⟩;obtain⟨cs0,y0,c0,_,_⟩:=each 0 (by omega);obtain⟨_,c1,c2⟩:=World.cells?_some c0;have c3:=c2 0 (by omega);rw[dm (by omega)]at c3;have c4:=PY c3;simp[Nat.zero_mul,Addr.add,if_true]at c4;obtain⟨b,aa,s⟩:=a;simp at c4;obtain⟨rfl,hb⟩:=c4;have rows:∀q j,j+q=len->∃rows:List (List Tree),rows.length=q/\cL w (Here w) rows b (aa+j*P.cellsOf e) (P.cellsOf e)/\qk row rows/\∀K:Bk H,wX rows<=K.a ((elems.map (·.1)).drop j):=by
  intro q
  induction q with
  |zero=>intro j _;exact⟨[],rfl,by simp[cL],.nil,λK=>by simp[wX]⟩
  |succ q ihq=>
   intro j hj;obtain⟨rows,g1,g2,g3,k3⟩:=ihq (j+1) (by omega);obtain⟨csj,y,g4,g5,gy⟩:=each j (by omega);obtain⟨ts,g6,g7,_,k6⟩:=one m (by omega) _ _ g5;obtain⟨_,g8,g9⟩:=World.cells?_some g4;refine⟨ts::rows,by simp[g1],?_,.cons g7 g3,λK=>by have:=k3 K;have:=k6 K;rw[K.drop gy,wX];omega⟩;simp[cL];refine⟨(fg.length _ _ g6).trans g8,ab3 _ _ _ _ g6 λi hi=>?_,?_⟩;rw[<- g9 i (by omega),addr_add,addr_add];rw[show aa+j*P.cellsOf e+P.cellsOf e=aa+(j+1)*P.cellsOf e by rw[Nat.add_mul];omega];exact g2
 obtain⟨rows,g1,g2,g3,k3⟩:=rows len 0 (by omega);refine⟨.sl rows,?_,.mk rows (by omega) g3,λK=>by have:=k3 K;rw[List.drop_zero]at this;rw[K.sl,nb];omega⟩;simp only[fg,TR];exact⟨.inr ⟨b,aa,cap,P.cellsOf e,by rw[g1],by omega,hb,by simpa using g2⟩,trivial⟩
theorem Ee{cut:List TypeId}:∀(n:Nat)(t:TypeId)(sh:List CS),z6 P cut n t=some sh->∀(fuel:Nat)(cs:List Value)(x:DataW H×List MemPlace),DataW.trod enc P w 0 sp held fuel t cs=some x->Ts P t x->
 ∃ts,fg w (Here w) ts cs/\ee sh ts/\∀K:Bk H,gY ts<=K.b x.1
 | 0,_,_,h,_,_,_,_,_=>by simp[z6]at h
 |n+1,t,sh,h,fuel,cs,x,hx,hz=>by
  unfold z6 at h;split at h;rename_i k hk;cases h;obtain⟨v,rfl,rfl,hw⟩:=DataW.trod_int hk hx;exact⟨[.sc (.int k v)],by simp[fg,TR,oneCell],by simp only[ee,Fit];exact⟨⟨v,rfl,hw⟩,trivial⟩,λK=>by simp[gY,nb,K.int]⟩;rename_i hk;cases h;obtain⟨v,rfl,rfl⟩:=DataW.trod_bool hk hx;exact⟨[.sc (.bool v)],by simp[fg,TR,oneCell],by simp only[ee,Fit];exact⟨⟨v,rfl⟩,trivial⟩,λK=>by simp[gY,nb,K.bool]⟩;rename_i hk;cases h;obtain⟨v,rfl,rfl,hw⟩:=DataW.trod_string hk hx;exact⟨[.sc (.string v)],by simp[fg,TR,oneCell],by simp only[ee,Fit];exact⟨⟨v,rfl,hw⟩,trivial⟩,λK=>by simp[gY,nb,K.str]⟩;rename_i e hk;split at h;split at h;rename_i row hmr;cases h;have⟨tr,g1,g2,k1⟩:=anH hk hmr fuel cs x hx;exact⟨[tr],g1,by simp only[ee,Fit];exact⟨g2,trivial⟩,λK=>by have:=k1 K;simp only[gY];omega⟩;cases h;rcases DataW.trod_slice hk hx with ⟨rfl,rfl⟩ |⟨a,len,cap,elems,ae,m,_,rfl,rfl,_,hl,hm,hlen,hel,_,_⟩;exact⟨[.sc (.slice none 0 0)],by simp[fg,TR,oneCell],by simp[ee,Fit],λK=>by simp[gY,nb,K.nil]⟩;exact⟨[.sc (.slice (some a) len cap)],by simp[fg,TR,oneCell],by simp[ee,Fit],λK=>by simp[gY,nb,K.sl]⟩;simp only[ah]at h;obtain⟨r,h1,h2⟩:=h;split at h2;rename_i hr;cases h2;rcases DataW.trod_slice hk hx with ⟨rfl,rfl⟩ |⟨a,len,cap,elems,ae,m,_,rfl,rfl,_,hl,hm,hlen,hel,_,_⟩;refine⟨[.sl []],?_,by simp only[ee,Fit];exact⟨⟨[],rfl,by simp[maxLen],by simp⟩,trivial⟩,λK=>by simp[gY,nb,wX,K.nil]⟩;simp only[fg,TR];exact⟨.inl ⟨trivial,none,0,rfl,λ_=>rfl⟩,trivial⟩;have hzw:∀k,k=(elems.length+ae.length)*P.bytesOf e\/k∈DataW.weightsAll P e (elems.map (·.1))->k<=reachBytes:=by intro k hkk;refine hz k ?_;simp only[DataW.weights,hk,aH,bM,length_map];rcases hkk with h |h;exact .inl h;exact .inr (.inl h)
  have each:∀i,i<len->∃ud y,w.cells? 0 (a.add (i*P.cellsOf e)) (P.cellsOf e)=some ud/\DataW.trod enc P w 0 sp held m e ud=some y/\Ts P e y/\elems[i]? =some y:=by intro i hi;have h3:=hel i hi;have h6:elems[i]? =some (elems[i]'(by omega)):=dm (by omega);rw[h6,ah]at h3;obtain⟨ud,h4,h5⟩:=h3;exact⟨ud,_,h4,h5,λk hk=>hzw k (.inr (yG (mem_map.2 ⟨_,List.getElem_mem (by omega),rfl⟩) k hk)),h6⟩
  have hbytes:len*Q2 r<=reachBytes:=by have h1:=hzw _ (.inl rfl);have h2:len*Q2 r<=(elems.length+ae.length)*P.bytesOf e:=Nat.mul_le_mul (by omega) hr.2.2;omega
  by_cases h0:len=0;subst h0;refine⟨[.sl []],?_,by simp only[ee,Fit];exact⟨⟨[],rfl,by simp[maxLen],by simp⟩,trivial⟩,λK=>by simp[gY,nb,wX,K.sl]⟩;simp only[fg,TR];exact⟨.inl ⟨trivial,some a,cap,rfl,λh=>by cases h⟩,trivial⟩;obtain⟨cs0,y0,c0,_,_,_⟩:=each 0 (by omega);obtain⟨_,c1,c2⟩:=World.cells?_some c0;have c3:=c2 0 (by omega);rw[dm (by omega)]at c3;have c4:=PY c3;simp[Nat.zero_mul,Addr.add,if_true]at c4;obtain⟨b,aa,s⟩:=a;simp at c4;obtain⟨rfl,hb⟩:=c4;have rows:∀m j,j+m=len->∃rows:List (List Tree),rows.length=m/\cL w (Here w) rows b (aa+j*P.cellsOf e) (P.cellsOf e)/\(∀ x∈rows,ee r x)/\∀K:Bk H,wX rows<=K.a ((elems.map (·.1)).drop j):=by
   intro m
   induction m with
   |zero=>intro j _;exact⟨[],rfl,by simp[cL],by simp,λK=>by simp[wX]⟩
   |succ m ih=>
    intro j hj;obtain⟨rows,g1,g2,g3,k3⟩:=ih (j+1) (by omega);obtain⟨csj,y,g4,g5,g5z,gy⟩:=each j (by omega);obtain⟨ts,g6,g7,k6⟩:=Ee n e r h1 _ _ _ g5 g5z;obtain⟨_,g8,g9⟩:=World.cells?_some g4;refine⟨ts::rows,by simp[g1],?_,λx hx=>?_,λK=>by have:=k3 K;have:=k6 K;rw[K.drop gy,wX];omega⟩;simp[cL];refine⟨(fg.length _ _ g6).trans g8,ab3 _ _ _ _ g6 λi hi=>?_,?_⟩;rw[<- g9 i (by omega),addr_add,addr_add];rw[show aa+j*P.cellsOf e+P.cellsOf e=aa+(j+1)*P.cellsOf e by rw[Nat.add_mul];omega];exact g2;rcases aH.1 hx with rfl |hx;exact g7;exact g3 x hx
  obtain⟨rows,g1,g2,g3,k3⟩:=rows len 0 (by omega);refine⟨[.sl rows],?_,by simp only[ee,Fit];exact⟨⟨rows,rfl,⟨by omega,by rw[g1];exact hbytes⟩,g3⟩,trivial⟩,λK=>by have:=k3 K;rw[List.drop_zero]at this;rw[K.sl];simp[gY,nb];omega⟩;simp only[fg,TR];exact⟨.inr ⟨b,aa,cap,P.cellsOf e,by rw[g1],by omega,hb,by simpa using g2⟩,trivial⟩;cases h2;rename_i fs hk;simp only[ah]at h;obtain⟨r,h1,h2⟩:=h;split at h2;rename_i hr;injection h2 with h2;subst h2;obtain⟨xs,m,_,rfl,hl,hxs,hf⟩:=DataW.trod_struct hk hx;obtain⟨ts,g1,g2,k1⟩:=R4 m cs (z6 P cut n) (λ t sh hsh cs x hx hz=>Ee n t sh hsh m cs x hx hz) fs.toList xs 0 r h1 (by simpa using hxs) (λ i f x hi hxi=>by have hi':fs[i]? =some f:=(by simpa using hi);have:=hf i f hi';rw[hxi]at this;refine⟨this,λk hk'=>hz k ?_⟩;simp[DataW.weights,hk];exact DataW.weights_mem_each (j:=i) (t:=f.type) (d:=x.1) (by simp[hi']) (by simp[hxi]) k hk');refine⟨ts,?_,g2,λK=>by have:=k1 K;rw[K.agg];omega⟩;rw[List.drop_zero,take_of_length_le (by omega)]at g1;exact g1;cases h2;rename_i m e hk;simp only[ah]at h;obtain⟨r,h1,h2⟩:=h;split at h2;rename_i hr;cases h2;obtain⟨xs,q,_,rfl,hl,hxs,hf⟩:=DataW.trod_array hk hx;have part:∀i j,j+i=m->∃ts,fg w (Here w) ts (cs.drop (j*P.cellsOf e))/\ee (List.replicate i r).flatten ts/\∀K:Bk H,gY ts<=K.a ((xs.map (·.1)).drop j):=by
   intro i
   induction i with
   |zero=>
    intro j hj;refine⟨[],?_,by simp[ee],λK=>by simp[gY]⟩;have:j=m:=(by omega);subst this;rw[List.drop_of_length_le (by rw[hl,<- hr.2,<- hr.1];omega)];simp[fg]
   |succ i ih=>
    intro j hj;obtain⟨ts,g1,g2,k1⟩:=ih (j+1) (by omega);have:=hf j (by omega);have hxj:xs[j]? =some (xs[j]'(by omega)):=dm (by omega);rw[hxj]at this;obtain⟨ts0,g3,g4,k3⟩:=Ee n e r h1 _ _ _ this (λ k hk'=>hz k (by simp[DataW.weights,hk];exact yG (mem_map.2 ⟨_,List.getElem_mem (by omega),rfl⟩) k hk'));refine⟨ts0++ts,?_,?_,λK=>by have:=k1 K;have:=k3 K;rw[K.drop hxj,Ac];omega⟩;have:=fg.append _ _ g3 g1;rw[show (j+1)*P.cellsOf e=j*P.cellsOf e+P.cellsOf e by rw[Nat.add_mul];omega,<- List.drop_drop,List.take_append_drop]at this;exact this;exact ee.append _ _ g4 g2
  obtain⟨ts,g1,g2,k1⟩:=part m 0 (by omega);exact⟨ts,by simpa using g1,g2,λK=>by have:=k1 K;rw[List.drop_zero]at this;rw[K.agg];omega⟩;cases h2;cases h
inductive VS where
 |one (c:CS)
 |agg (cs:List CS)
def Mu(P:Program)(cut:List TypeId)(t:TypeId):Option VS:=
 (z6 P cut 12 t).bind λsh=>match P.underlying t with
  |some (.struct _) |some (.array _ _)=>some (.agg sh)
  |_=>match sh with
   |[c]=>some (.one c)
   |_=>none
def HB:VS->TV->Prop
 | .one c,x=>∃y,x= .s y/\Fit c y
 | .agg cs,x=>∃ys,x= .a ys/\ee cs ys
def VW:List VS->List TV->Prop
 |[],[]=>True
 |s::ss,x::xs=>HB s x/\VW ss xs
 |_,_=>False
def OK:TV->Nat
 | .s y=>nb y
 | .a ys=>gY ys
def VX:List TV->Nat
 |[]=>0
 |x::xs=>OK x+VX xs
theorem alu{cut:List TypeId}{t:TypeId}{s:VS}{v:Value}{d:DataW H}{ps:List MemPlace}{b0:Nat}(hs:Mu P cut t=some s)(hval:Value.okWide P w .any b0 t v)(hd:DataW.Trod enc P w 0 sp held t v d ps)(hz:∀k∈d.weights P t,k<=reachBytes):
 ∃x,uk w (Here w) x v/\HB s x/\∀K:Bk H,OK x<=K.b d:=by
 obtain⟨fuel,hf⟩:=hd;simp[Mu,ah]at hs;obtain⟨sh,h1,h2⟩:=hs;obtain⟨ts,g1,g2,k1⟩:=Ee 12 t sh h1 _ _ _ hf hz;have hag:∀cs:Array Value,v= .agg cs->s= .agg sh->∃x,uk w (Here w) x v/\HB s x/\∀K:Bk H,OK x<=K.b d:=by rintro cs rfl rfl;exact⟨.a ts,⟨cs,rfl,by simpa[Value.cells]using g1⟩,⟨ts,rfl,g2⟩,k1⟩
 unfold Value.okWide at hval;split at h2;rename_i hu;injection h2 with h2;rw[hu]at hval;obtain⟨cs,rfl,_⟩:=hval;exact hag cs rfl h2.symm;rename_i hu;injection h2 with h2;rw[hu]at hval;obtain⟨cs,rfl,_⟩:=hval;exact hag cs rfl h2.symm;split at h2;cases h2;have hone:v.cells.toList=[v]:=by
  cases hu:P.underlying t with
  |none=>rw[hu]at hval;simp[Cell.okWide,Cell.ok,hu]at hval
  |some d=>
   rw[hu]at hval;cases v<;>first |rfl |(exfalso;revert hval;cases d<;>simp_all [Cell.okWide,Cell.ok])
 rw[hone]at g1
 match ts,g1,g2,k1 with
 |[y],g1,g2,k1=>
  simp only[ee]at g2;exact⟨.s y,g1.1,⟨y,rfl,g2.1⟩,λK=>by have:=k1 K;simpa[gY,OK]using this⟩
 |[],g1,_,_=>exact g1.elim
 |_::_::_,g1,_,_=>exact g1.2.elim
 cases h2
theorem aaG{cut:List TypeId}:∀{ts:List TypeId}{ss:List VS}{vs:List Value}{ds:List (DataW H)}{ps:List MemPlace}{b0:Nat},ts.mapM (Mu P cut)=some ss->
 (∀ (j:Nat) t v,ts[j]? =some t->vs[j]? =some v->Value.okWide P w .any b0 t v)->DataW.TrodAll enc P w 0 sp held ts vs ds ps->(∀ k∈DataW.weightsEach P ts ds,k<=reachBytes)->∃xs,nr w (Here w) xs vs/\VW ss xs/\∀K:Bk H,VX xs<=K.a ds
 |[],ss,vs,ds,ps,b0,hs,_,hd,_=>by obtain⟨rfl,rfl,rfl⟩:=trodAll_nil hd;simp at hs;subst hs;exact⟨[],trivial,trivial,λK=>by simp[VX]⟩
 |t::ts,ss,vs,ds,ps,b0,hs,hval,hd,hz=>by obtain⟨v,vs',d,ds',p,q,rfl,rfl,rfl,h0,r0⟩:=trodAll_cons hd;simp[ah]at hs;obtain⟨s,h1,ss',h2,rfl⟩:=hs;obtain⟨x,g1,g2,k1⟩:=alu h1 (hval 0 t v rfl rfl) h0 (λ k hk=>hz k (by simp[DataW.weightsEach];exact .inl hk));obtain⟨xs,g3,g4,k2⟩:=aaG h2 (λ j t v h h'=>hval (j+1) t v h h') r0 (λ k hk=>hz k (by simp[DataW.weightsEach];exact .inr hk));exact⟨x::xs,⟨g1,g3⟩,⟨g2,g4⟩,λK=>by have:=k1 K;have:=k2 K;rw[VX,K.a1];omega⟩
theorem R5{β:Nat->Option cW}{I:Nat->Prop}:∀(xs:List TV)(vs:List Value),nr w I xs vs->be P β w I (xs.map TV.av) vs
 |[],[],_=>by simp[be]
 |x::xs,v::vs,h=>by
  refine⟨?_,R5 xs vs h.2⟩;have h1:=h.1;cases x with
  |s y=>simp[TV.av];exact h1
  |a cs=>
   obtain⟨us,rfl,h2⟩:=h1;refine⟨us,rfl,?_⟩;have:∀(cs:List Tree) (us:List Value),fg w I cs us->be P β w I (cs.map AV.t) us:=by
    intro cs
    induction cs with
    |nil=>intro us h;cases us<;>first |(simp [be];done) |exact h.elim
    |cons c cs ih=>intro us h;cases us with
     |nil=>exact h.elim
     |cons u us=>simp;exact⟨h.1,ih us h.2⟩
   exact this cs us.toList h2
 |[],_::_,h |_::_,[],h=>h.elim
end
section
variable {H:Type} {enc:TypeId×Value->H} {P:Program}
theorem agJ{f:Func}{s:ChangeSpec}{apart fresh handsOn again:Bool}{W W':World}{args:Array Value}{v:Value}{ds gs:List (DataW H)}{before pa pv:List MemPlace}
 (hW:DataW.Whole enc P f.params.toList s.vars apart W args.toList ds gs before)
 (hres:∀(b:Nat)(sp:Nat->Bool)(hd:Bool),DataW.TrodAll enc P W' b sp hd f.resultTypes.toList (v.resultList f.resultTypes.size) (s.fn H (ds++gs)).results [])
 (hargs:∀sp:Nat->Bool,(∀ p∈before,sp p.block=true)->DataW.TrodAll enc P W' 0 sp true f.params.toList args.toList (s.fn H (ds++gs)).args pa)
 (hvars:∀sp:Nat->Bool,(∀ p∈before,sp p.block=true)->DataW.TrodVars enc P W' sp s.vars (s.fn H (ds++gs)).vars pv)
 (hps:before=pa++pv) (hb:Below W.heap.size W W')
 (hok:∀(j:Nat)(t:TypeId)(r:Value),f.resultTypes[j]? =some t->(v.resultList f.resultTypes.size)[j]? =some r->Value.okWide P W' .any 0 t r):
 s.post enc P f apart fresh handsOn again W args v W':=by
 have hlt:∀p∈before,p.block<W.heap.size:=λp hp=>hW.lt p hp;have hold:∀p∈before,(λ b=>decide (b<W.heap.size)) p.block=true:=λp hp=>by simpa using hlt p hp
 refine⟨ds,gs,before,[],pa,pv,hW,hres _ _ _,hargs _ hold,hvars _ hold,World.keptBut_mono (λ p hp=>⟨hp,?_⟩) (hb.frame (· ∈before)),λ_=>?_⟩;rw[hps,bM]at hp;exact Or.inr hp;obtain⟨_,_,_,_,_,hz,hn⟩:=hW;refine⟨hok,_,_,([]++pa)++pv,⟨[]++pa,pv,trodAll_append (hargs _ (λ _ _=>rfl)) (hres _ _ _),hvars _ (λ _ _=>rfl),rfl,?_,?_⟩,?_⟩;intro b aa hp;have hin:MemPlace.cell b aa∈before:=by rw[hps];simpa using hp
 rw[hb.frozen (hlt _ hin)];exact hz b aa hin;intro ha;have:=hn ha;rw[hps]at this;simpa using this;intro p hp _;rw[hps];simpa using hp
theorem KY(hl:laidOutB P=true){W W':World}(hb:Below W.heap.size W W'):∀{ts:List TypeId}{vs:List Value}{ds:List (DataW H)}{ps:List MemPlace},(∀ t∈ts,P.readableRec t=true/\t<P.types.size)->
 DataW.TrodAll enc P W 0 (λ _=>true) true ts vs ds ps->(∀ x∈ps,x.block<W.heap.size)->∀sp:Nat->Bool,(∀ p∈ps,sp p.block=true)->DataW.TrodAll enc P W' 0 sp true ts vs ds ps
 |[],vs,ds,ps,_,hd,_,sp,_=>by obtain⟨rfl,rfl,rfl⟩:=trodAll_nil hd;exact trodAll_mk0
 |t::ts,vs,ds,ps,ht,hd,hlt,sp,hsp=>by
  obtain⟨v,vs',d,ds',p,q,rfl,rfl,rfl,h0,r0⟩:=trodAll_cons hd;obtain⟨h1,h2⟩:=ht t (by simp)
  exact trodAll_cons_mk (WideElems.Trod_stays hl h1 h2 h0 (λ x hx=>hb.same (hlt x (by simp[hx]))) (λ x hx=>hsp x (by simp[hx])))
   (KY hl hb (λ t ht'=>ht t (by simp[ht'])) r0 (λ x hx=>hlt x (by simp[hx])) sp (λ x hx=>hsp x (by simp[hx])))
theorem R6{w:World}{base:Nat}{sp:Nat->Bool}{held:Bool}:∀{ts:List TypeId}{vs:List Value}{ds:List (DataW H)}{ps:List MemPlace},DataW.TrodAll enc P w base sp held ts vs ds ps->ds.length=ts.length
 |[],_,_,_,h=>by obtain⟨_,rfl,_⟩:=trodAll_nil h;rfl
 |_::_,_,_,_,h=>by obtain⟨_,_,_,_,_,_,_,rfl,_,_,h2⟩:=trodAll_cons h;simp[R6 h2]
theorem adT:∀{ts:List TypeId}{ds:List (DataW H)}{vt:List TypeId}{gs:List (DataW H)},ds.length=ts.length->∀k∈DataW.weightsEach P ts ds,k∈DataW.weightsEach P (ts++vt) (ds++gs)
 |[],[],_,_,_,k,h=>by simp[DataW.weightsEach]at h
 |t::ts,d::ds,vt,gs,hl,k,h=>by simp[DataW.weightsEach]at h ⊢;rcases h with h |h;exact .inl h;exact .inr (adT (by simpa using hl) k h)
 |[],_::_,_,_,h,_,_ |_::_,[],_,_,h,_,_=>by simp at h
theorem ab4{cut:List TypeId}{C:Checked}{f:FuncId}{fn:Func}{s:ChangeSpec}{ss:List VS}{tb:TypeId}(hl:laidOutB C.prog=true)(hread:(fn.params.toList.all λt=>C.prog.readableRec t&&decide (t<C.prog.types.size))=true)
 (hss:fn.params.toList.mapM (Mu C.prog cut)=some ss) (hvars:s.vars=[]) (hres:fn.resultTypes=#[tb]) (hb:C.prog.underlying tb=some .bool)
 (hs:∀ds:List (DataW H),ds.length=fn.params.toList.length->s.fn H ds={ results:=[.lit (.bool true)],args:=ds })
 {B:Nat->Prop} (Wk:∀xs,VW ss xs->(∀ n,B n->VX xs<=n)->rx C.prog f (xs.map TV.av) (.one (.d (.s (.sc (.bool true))))))
 {W:World} {base:Nat} {args:Array Value} {ds gs:List (DataW H)} {before:List MemPlace}
 (hval:∀(j:Nat) t v,fn.params[j]? =some t->args[j]? =some v->Value.okWide C.prog W .any base t v)
 (hW:DataW.Whole enc C.prog fn.params.toList s.vars false W args.toList ds gs before)
 {vt:List TypeId} (hz:(DataW.weightsEach C.prog (fn.params.toList++vt) (ds++gs)).all (· <=reachBytes)=true) (hv:lp W (Here W)) (hB:∀n,B n->∃K:Bk H,K.a ds<=n):
 Calls C.prog f args W λe W'=>∃v,e= .returned v/\s.post enc C.prog fn false true false false W args v W':=by
 have hW':=hW;obtain⟨p,q,hA,hV,rfl,_,_⟩:=hW;rw[hvars]at hV;obtain⟨rfl,rfl⟩:=trodVars_none hV;have hlen:=R6 hA;obtain⟨xs,g1,g2,g3⟩:=aaG hss (λ j t v h1 h2=>hval j t v (by simpa using h1) (by simpa using h2)) hA (λ k hk=>by have:=all_eq_true.1 hz k (adT hlen k hk);simpa using this);simp at hW';have hlt:∀x∈p,x.block<W.heap.size:=λx hx=>hW'.lt x hx;refine((Wk xs g2 (λ n hn=>by have⟨K,hK⟩:=hB n hn;exact Nat.le_trans (g3 K) hK)).2 W (Here W) args (λ _ h=>h) hv (R5 _ _ g1)).mono λe W' ⟨v,I',he,hbel,_,_,_,hr⟩=>⟨v,he,?_⟩;simp[sy]at hr;obtain⟨rfl,_⟩:=hr;have hfn:s.fn H (ds++[])={ results:=[.lit (.bool true)],args:=ds }:=by rw[append_nil];exact hs ds hlen
 refine agJ (pa:=p) (pv:=[]) hW' (λ b sp hd=>?_) (λ sp hsp=>?_) (λ sp _=>?_) (by simp) hbel (ok_one (by rw[hres]) rfl (okWide_bool_mk hb _));rw[hfn,hres];exact trodAll_mk1 (shut_bool hb _);rw[hfn];refine KY hl hbel (λ t ht=>?_) hA hlt sp hsp;have:=all_eq_true.1 hread t ht;simpa using this;rw[hfn,hvars];rfl
end
def ao7:BE->TypeDesc->Bool
 | .slice e,.slice e'=>e==e'
 | .arr n e,.array n' e'=>n==n'&&e==e'
 | .struct fs,.struct fa=>fa.toList.map (λ f=>(f.offset,f.type))==fs
 | .bool,.bool=>true
 | .str,.string=>true
 | .int k,.int k'=>k==k'
 | .map k e,.map k' e'=>k==k'&&e==e'
 | .other,_=>true
 |_,_=>false
def alv:Value->Value->Bool
 | .int k a,.int k' b=>k==k'&&a==b
 | .bool a,.bool b=>a==b
 | .string a,.string b=>decide (a=b)
 | .slice none 0 0,.slice none 0 0=>true
 | .pointer none,.pointer none=>true
 | .nilFunc,.nilFunc=>true
 | .nilIface,.nilIface=>true
 | .map none,.map none=>true
 |_,_=>false
theorem adU{a b:Value}(h:alv a b=true):a=b:=by unfold alv at h;split at h<;>simp_all
def VY:List Value->List Value->Bool
 |[],[]=>true
 |a::as,b::bs=>alv a b&&VY as bs
 |_,_=>false
theorem Nb:∀{a b:List Value},VY a b=true->a=b
 |[],[],_=>rfl
 |a::as,b::bs,h=>by simp[VY]at h;rw[adU h.1,Nb h.2]
 |[],_::_,h |_::_,[],h=>by simp[VY]at h
def alx(P:Program)(t:TypeId)(ti:py):Bool:=
 match P.info? t,P.underlying t with
 |some info,some d=>match info.zero with
  |some z=>info.size==ti.size&&info.bytes==ti.bytes&&tA d==ti.agg&&ao7 ti.k d&&ti.zero.all k8&&ti.zero.length==ti.size&&
   (ti.cmp.isEmpty || match d with
    | .struct fa=>!P.stoodInHeld t&&!P.eqGuardType P.depth t&&ft P 99 0 fa.toList ti.cmp
    | .array _ _=>ti.cmp==[9]&&!P.eqGuardType P.depth t
    |_=>false)&&VY z.cells.toList ti.zero&&tM ti.agg z
  |none=>false
 |_,_=>false
theorem agK{k:BE}{d:TypeDesc}(h:ao7 k d=true):UP k d:=by unfold ao7 at h;split at h;simp at h;subst h;rfl;simp at h;obtain⟨rfl,rfl⟩:=h;rfl;rename_i fs fa;exact⟨fa,rfl,by simpa using h⟩;rfl;rfl;simp at h;subst h;rfl;simp at h;obtain⟨rfl,rfl⟩:=h;rfl;trivial;cases h
theorem adV{P:Program}{t:TypeId}{ti:py}(h:alx P t ti=true):mn P t ti:=by
 unfold alx at h;split at h;rename_i info d h1 h2;split at h
 ·rename_i z h3;simp only[aY,beq_iff_eq]at h;obtain⟨⟨⟨⟨⟨⟨⟨⟨a1,a2⟩,a3⟩,a4⟩,a5⟩,a6⟩,a7⟩,a8⟩,a9⟩:=h;refine⟨⟨info,d,z,h1,h2,a1,a2,h3,Nb a8,a3,agK a4⟩,a5,a6,λinfo' z' e1 e2=>by rw[h1]at e1;cases e1;rw[h3]at e2;cases e2;exact a9,λhne=>?_⟩
  all_goals grind
 cases h;cases h
def iB(l:List (TypeId×py)):ez:=λt=>(l.find? λp=>p.1==t).map (·.2)
theorem adW{P:Program}{l:List (TypeId×py)}(h:(l.all λp=>alx P p.1 p.2)=true):eX P (iB l):=by intro t ti ht;simp only[iB,sS]at ht;obtain⟨p,hp,rfl⟩:=ht;have h1:=List.find?_some hp;simp at h1;subst h1;exact adV (all_eq_true.1 h p (List.mem_of_find?_eq_some hp))
inductive CT(ι:Type) where
 |int (k:IntKind)
 |bool
 |str
 |sl (e:CT ι)
 |st (i:ι)
 |any
 |mp (k v:CT ι)
 deriving DecidableEq
structure SE where
 ι:Type
 dec:DecidableEq ι
 T:ι->Type
 row:(i:ι)->T i->List Tree
instance (E:SE):DecidableEq E.ι:=E.dec
section
variable (E:SE)
@[reducible] def CT.T:CT E.ι->Type
 | .int _=>Int
 | .bool=>Bool
 | .str=>ByteArray
 | .sl e=>List (CT.T e)
 | .st i=>E.T i
 | .any=>Tree
 | .mp k v=>List (CT.T k×CT.T v)
def CT.row:(c:CT E.ι)->CT.T E c->List Tree
 | .int k,n=>[.sc (.int k n)]
 | .bool,b=>[.sc (.bool b)]
 | .str,s=>[.sc (.string s)]
 | .sl e,l=>[.sl (List.map (CT.row e) l)]
 | .st i,x=>E.row i x
 | .any,x=>[x]
 | .mp _ _,_=>[.sl []]
def CT.one{ι:Type}:CT ι->Bool
 | .st _=>false
 |_=>true
def CT.tv:(c:CT E.ι)->CT.T E c->TV
 | .int k,n=> .s (.sc (.int k n))
 | .bool,b=> .s (.sc (.bool b))
 | .str,s=> .s (.sc (.string s))
 | .sl e,l=> .s (.sl (List.map (CT.row E e) l))
 | .st i,x=> .a (E.row i x)
 | .any,x=> .s x
 | .mp _ _,_=> .s (.sl [])
def HL:List (CT E.ι)->Type
 |[]=>Unit
 |c::l=>CT.T E c×HL l
def HL.row:(l:List (CT E.ι))->HL E l->List Tree
 |[],_=>[]
 |c::l,h=>CT.row E c h.1++HL.row l h.2
def HL.oa:(l:List (CT E.ι))->HL E l->List TV
 |[],_=>[]
 |c::l,h=>CT.tv E c h.1::HL.oa l h.2
end
structure Arr(E:SE) where
 i:E.ι
 c:CT E.ι
 f:E.T i->List (CT.T E c)
 g:List (CT.T E c)->Option (E.T i)
structure SX extends SE where
 d8:ι->List (CT ι)
 get:(i:ι)->T i->HL toSE (d8 i)
 make:(i:ι)->HL toSE (d8 i)->T i
 pg:∀i x,row i x=HL.row toSE (d8 i) (get i x)
 gE:∀i h,row i (make i h)=HL.row toSE (d8 i) h
 flat:∀i,(d8 i).all CT.one=true
 gv:Nat->Option ((c:CT ι)×CT.T toSE c)
 AF:∀g,(gv g).map (λ p=>CT.row toSE p.1 p.2)=(yr g).map λr=>r.map Tree.sc
 ar:TypeId->Option (Arr toSE):=λ_=>none
 aq2:∀t a,ar t=some a->a.c.one=true/\(∀ x,row a.i x=((a.f x).map (CT.row toSE a.c)).flatten)/\∀l x,a.g l=some x->a.f x=l:=by intro t a h;cases h
section
variable (X:SX)
abbrev SX.C:=CT X.ι
abbrev SX.t(c:CT X.ι):Type:=CT.T X.toSE c
def CT.sz:CT X.ι->Nat
 | .st i=>(X.d8 i).length
 |_=>1
inductive DV where
 |c (t:CT X.ι) (x:CT.T X.toSE t)
 |agg (cs:List DV)
 |en (vs:List DV)
 |own (k aa len:Nat)
 |ptr (k row aa:Nat)
 |rK (k:Nat) (n:Int) (aa:Nat)
 |tW (k row aa m:Nat) (n:Int)
 |rp (t:CT X.ι) (x:CT.T X.toSE t) (aa:Nat)
 |ye (t:CT X.ι) (x:CT.T X.toSE t) (aa m:Nat) (n:Int)
 |fn (f:FuncId) (first caps:List DV)
 |el (as:List (CT X.ι)) (r:CT X.ι) (φ:HL X.toSE as->Option (CT.T X.toSE r))
 |mp (k:Nat)
 |oz (k len:Nat)
 |raw (v:Value)
 |nil
 |ub
 |skip
 |undef
inductive bp where
 |cells (sz:Nat) (rows:List (List (DV X)))
 |ev (c:CT X.ι) (l:List (CT.T X.toSE c))
 |map (kc vc:CT X.ι) (l:List (CT.T X.toSE kc×CT.T X.toSE vc))
structure ea where
 env:List (Nat×DV X)
 obj:List (Nat×Option (bp X))
 nx:Nat
 log:List Nat
variable {X}
mutual
def den:DV X->AV
 | .c t x=>(CT.tv X.toSE t x).av
 | .agg cs=> .agg (bG cs)
 | .en vs=> .en (bG vs)
 | .own k aa len=> .own k aa len
 | .ptr k row aa=> .ptr k row aa
 | .rK k n aa=> .ptr k n.toNat aa
 | .tW k row aa _ n=> .ptr k row (aa+n.toNat)
 | .rp t x aa=> .eK (CT.row X.toSE t x) aa
 | .ye t x aa _ n=> .eK (CT.row X.toSE t x) (aa+n.toNat)
 | .fn f first caps=> .fn f (bG first) (bG caps)
 | .el as r φ=> .el λts u=>∃h x,φ h=some x/\ts=HL.oa X.toSE as h/\u=CT.tv X.toSE r x
 | .mp k=> .mp k
 | .oz k len=> .oz k len
 | .raw v=>cv v
 | .nil=> .dp
 | .ub=> .ub
 | .skip=> .undef
 | .undef=> .undef
def bG:List (DV X)->List AV
 |[]=>[]
 |x::xs=>den x::bG xs
end
theorem oD:∀l:List (DV X),bG l=l.map den
 |[]=>rfl
 |x::xs=>by simp[bG,oD xs]
def bI:bp X->aK
 | .cells sz rows=>⟨sz,rows.map bG⟩
 | .ev c l=>⟨CT.sz X c,aI (l.map (CT.row X.toSE c))⟩
 | .map kc vc l=>⟨l.length,l.map λp=>[(CT.tv X.toSE kc p.1).av,(CT.tv X.toSE vc p.2).av]⟩
def iO(u:List (Nat×Option (bp X))):List (Nat×Option aK):=u.map λp=>(p.1,p.2.map bI)
def il(o:List (Nat×Option (bp X)))(k:Nat):Option (bp X):=(lk o k).join
def fh(e:List (Nat×DV X))(t:Nat):DV X:=(lk e t).getD .undef
def ea.st(s:ea X):St:=⟨λ t=>den (fh s.env t),λk=>(il s.obj k).map bI,λ_=>none⟩
def kU(a b:CT X.ι)(x:CT.T X.toSE a):Option (CT.T X.toSE b):=
 match decEq a b with
 |isTrue h=>some (h ▸ x)
 |isFalse _=>none
theorem rR{a b:CT X.ι}{x:CT.T X.toSE a}{y:CT.T X.toSE b}(h:kU a b x=some y):∃e:a=b,y=e ▸ x:=by unfold kU at h;split at h;rename_i e _;injection h with h;exact⟨e,h.symm⟩;cases h
def HL.cells:(l:List (CT X.ι))->HL X.toSE l->List (DV X)
 |[],_=>[]
 |c::l,h=> .c c h.1::HL.cells l h.2
theorem row_one{c:CT X.ι}(h:c.one=true)(x:CT.T X.toSE c):∃t,CT.row X.toSE c x=[t]/\CT.tv X.toSE c x= .s t:=by cases c<;>first |exact⟨_,rfl,rfl⟩ |cases h
theorem HL.rm:∀(l:List (CT X.ι))(h:HL X.toSE l),l.all CT.one=true->bG (HL.cells l h)=(HL.row X.toSE l h).map AV.t
 |[],_,_=>rfl
 |c::l,h,ha=>by simp only[all_cons,aY]at ha;obtain⟨t,h1,h2⟩:=row_one ha.1 h.1;simp[HL.cells,bG,den,HL.row,h1,h2,TV.av,HL.rm l h.2 ha.2]
theorem HL.pC:∀(l:List (CT X.ι))(h:HL X.toSE l),l.all CT.one=true->(HL.row X.toSE l h).length=l.length
 |[],_,_=>rfl
 |c::l,h,ha=>by simp only[all_cons,aY]at ha;obtain⟨t,h1,_⟩:=row_one ha.1 h.1;simp[HL.row,h1,HL.pC l h.2 ha.2]
theorem Ht(c:CT X.ι)(x:CT.T X.toSE c):(CT.row X.toSE c x).length=CT.sz X c:=by
 cases c<;>try rfl
 rename_i i;exact(congrArg List.length (X.pg i x)).trans (HL.pC _ _ (X.flat i))
def vB:(c:CT X.ι)->CT.T X.toSE c->List (DV X)
 | .st i,x=>HL.cells (X.d8 i) (X.get i x)
 |c,x=>[.c c x]
theorem pR(c:CT X.ι)(x:CT.T X.toSE c):bG (vB c x)=(CT.row X.toSE c x).map AV.t:=by
 cases c<;>try rfl
 rename_i i;exact(HL.rm _ _ (X.flat i)).trans (congrArg (List.map AV.t) (X.pg i x).symm)
def vU:DV X->Bool
 | .agg _ | .en _ | .undef | .skip | .raw _ | .c (.st _) _=>false
 |_=>true
theorem R7{x:DV X}(h:vU x=true):pQ (den x)=true:=by
 cases x<;>try rfl
 case c t x=>cases t<;>first |rfl |simp[vU]at h
 all_goals simp[vU]at h
def cellsD:DV X->Option (List (DV X))
 | .agg cs=>if cs.all vU then some cs else none
 | .c (.st i) x=>some (vB (.st i) x)
 | .en _ | .undef | .skip | .raw _=>none
 |x=>some [x]
theorem aiF{l:List (DV X)}(h:l.all vU=true):(bG l).all pQ=true:=by rw[oD,List.all_map,all_eq_true];exact λx hx=>R7 (all_eq_true.1 h x hx)
theorem Ef{x:DV X}{cs:List (DV X)}(h:cellsD x=some cs):cellsOf (den x)=some (bG cs):=by
 cases x
 case c t x=>
  cases t
  case st i=>
   simp[cellsD]at h;subst h;simp only[den,CT.tv,TV.av,cellsOf,pR];show(if ((X.row i x).map AV.t).all pQ then some ((X.row i x).map AV.t)else none)=some ((X.row i x).map AV.t);rw[aS];rw[List.all_map,all_eq_true];exact λ_ _=>rfl
  all_goals simp[cellsD]at h;subst h;rfl
 case agg l=>
  simp only[cellsD]at h;split at h;cases h;simp only[den,cellsOf];rw[aS (aiF ‹_›)];cases h
 all_goals simp[cellsD]at h;try (subst h;rfl)
def xf:Value->DV X
 | .slice none 0 0=> .nil
 | .int k n=> .c (.int k) n
 | .bool b=> .c .bool b
 | .string s=> .c .str s
 |v=> .raw v
theorem aiG(v:Value):den (xf (X:=X) v)=cv v:=by unfold xf;split<;>rfl
theorem Cy(l:List Value):bG (l.map (xf (X:=X)))=l.map cv:=by rw[oD,map_map];exact map_congr_left λv _=>aiG v
def Zl(env:Nat->DV X):Operand->DV X
 | .tmp t=>env t
 | .const v=>xf v
 | .global g=>match X.gv g with
  |some p=> .rp p.1 p.2 0
  |none=> .undef
 | .func f=> .fn f [] []
theorem VZ(env:Nat->DV X)(x:Operand):den (Zl env x)=my (λ t=>den (env t)) x:=by
 cases x with
 |global g=>
  have h:=X.AF g;simp[Zl,my];cases h1:X.gv g with
  |none=>
   rw[h1]at h;cases h2:yr g with
   |none=>rfl
   |some r=>rw[h2]at h;cases h
  |some p=>grind [den]
 |const v=>exact aiG _
 |tmp t |func f=>rfl
end
def bj{α:Type}(l:List α)(n:Int):Option α:=bif decide (0<=n)then l[n.toNat]? else none
def sub{α:Type}(l:List α)(aa len:Nat):List α:=(l.drop aa).take len
def cN(n:Int)(len:Nat):Bool:=decide (0<=n)&&decide (n<(len:Int))
def iP{α β:Type}(a:α)(f:α->β):β:=f a
def bK(lo len ln n bytes:Nat):Bool:=decide (lo=len)&&decide (ln=n)&&decide ((len+n)*bytes<=140737488355328)&&decide (len+n<=maxLen)
def az(a b:Nat):Bool:=decide (a=b)
def Bg(l h:Int)(len:Nat):Bool:=decide (0<=l)&&decide (l<=h)&&decide (h<=(len:Int))
def V3(a b:ByteArray):Bool:=Op.bytesLess a.toList b.toList
def V4(a b:ByteArray):Bool:=decide (a.size+b.size<=maxLen)
abbrev iN(n:Int):Int:=n
abbrev bN(b:Bool):Bool:=b
def V5{A:Type}:List Bool->Option A->Option A
 |[],k=>k
 |c::cs,k=>bif c then V5 cs k else none
section
variable {X:SX} {A:Type}
abbrev KK(X:SX)(A:Type):=DV X->List (Nat×Option (bp X))->List Nat->List Nat->Option A
def aly(t:Bool)(x y:DV X):DV X:=
 match x,y with
 | .c a p,.c b q=>match decEq b a with
  |isTrue h=> .c a (bif t then p else h ▸ q)
  |isFalse _=>bif t then .c a p else .c b q
 |x,y=>bif t then x else y
def Hu(agg:Bool)(size:Nat)(cs:List (DV X)):Option (DV X):=
 if cs.length=size then(if agg then some (.agg cs)else match cs with |[x]=>if vU x then some x else none |_=>none)else none
def Su(agg:Bool)(size:Nat)(c:CT X.ι)(y:CT.T X.toSE c)(aa:Nat):Option (DV X):=
 match c,y with
 | .st i,y=>if aa=0/\agg=true/\size=(X.d8 i).length then some (.c (.st i) y)else Hu agg size (((vB (.st i) y).drop aa).take size)
 |c,y=>Hu agg size (((vB c y).drop aa).take size)
def Ll(d:DV X)(c:CT X.ι):Option (CT.T X.toSE c):=
 match d,c with
 | .c a x,c=>kU a c x
 | .nil,.sl _=>some []
 | .nil,.any=>some (.sl [])
 |_,_=>none
def Eg:List (DV X)->(l:List (CT X.ι))->Option (HL X.toSE l)
 |[],[]=>some ()
 |d::ds,c::l=>(Ll d c).bind λx=>(Eg ds l).bind λh=>some (x,h)
 |_,_=>none
def GB(d:DV X)(i:X.ι):Option (CT.T X.toSE (.st i)):=
 match d with
 | .agg cs=>(Eg cs (X.d8 i)).bind λh=>some (X.make i h)
 | .c a x=>kU a (.st i) x
 |_=>none
def dat(d:DV X)(c:CT X.ι):Option (CT.T X.toSE c):=
 match c with
 | .st i=>GB d i
 |c=>Ll d c
def mk1(c:CT X.ι):List (DV X)->Option (CT.T X.toSE c)
 |[d]=>Ll d c
 |_=>none
def Nc(c:CT X.ι)(ds:List (DV X)):Option (CT.T X.toSE c):=
 match c with
 | .st i=>(Eg ds (X.d8 i)).bind λh=>some (X.make i h)
 |c=>mk1 c ds
def Mp(r:List (DV X))(aa:Nat)(cs:List (DV X)):List (DV X):=r.take aa++cs++r.drop (aa+cs.length)
variable (T:ez) (code:TypeId->Option (CT X.ι))
def Up(t:TypeId)(x:DV X)(get:Nat->Option (bp X))(k:KK X A):Option A:=
 (T t).bind λti=>match x with
 | .ptr kk row aa=>(get kk).bind λo=>match o with
  | .cells _ rows=>(rows[row]?).bind λr=>(Hu ti.agg ti.size ((r.drop aa).take ti.size)).bind λv=>k v [] [kk] []
  |_=>none
 | .rK kk n aa=>(get kk).bind λo=>match o with
  | .ev c l=>(bj l n).bind λy=>(Su ti.agg ti.size c y aa).bind λv=>k v [] [kk] []
  |_=>none
 | .rp c y aa=>(Su ti.agg ti.size c y aa).bind λv=>k v [] [] []
 |_=>none
def T0(t:TypeId)(x y:DV X)(get:Nat->Option (bp X))(k:KK X A):Option A:=
 (T t).bind λti=>(cellsD y).bind λcs=>if cs.length=ti.size then match x with
 | .ptr kk row aa=>(get kk).bind λo=>match o with
  | .cells sz rows=>(rows[row]?).bind λr=>if aa+cs.length<=r.length then k .undef [(kk,some (.cells sz (rows.set row (Mp r aa cs))))] [kk] [kk]else none
  |_=>none
 | .rK kk n aa=>(get kk).bind λo=>match o with
  | .ev c l=>(bj l n).bind λy=>if aa+cs.length<=CT.sz X c then(Nc c (Mp (vB c y) aa cs)).bind λz=>k .undef [(kk,some (.ev c (l.set n.toNat z)))] [kk] [kk]else none
  |_=>none
 |_=>none else none
def Lm(t:TypeId)(x:DV X)(f:Nat)(k:KK X A):Option A:=
 (zX T t f).bind λp=>match x with
 | .ptr kk row aa=>k (.ptr kk row (aa+p.1)) [] [] []
 | .rK kk n aa=>k (.rK kk n (aa+p.1)) [] [] []
 | .rp c y aa=>k (.rp c y (aa+p.1)) [] [] []
 |_=>none
def agM(t:TypeId)(x:DV X)(f:Nat)(k:KK X A):Option A:=
 (zX T t f).bind λp=>match x with
 | .agg cs=>(Hu p.2.agg p.2.size ((cs.drop p.1).take p.2.size)).bind λv=>k v [] [] []
 | .c (.st i) y=>(Hu p.2.agg p.2.size (((vB (.st i) y).drop p.1).take p.2.size)).bind λv=>k v [] [] []
 |_=>none
def Lp(t:TypeId)(x j:DV X)(get:Nat->Option (bp X))(k:KK X A):Option A:=
 (T t).bind λti=>match ti.k,j with
 | .slice e,.c (.int _) n=>(T e).bind λei=>match x with
  | .c (.sl c) l=>if CT.sz X c=ei.size then(bj l n).bind λy=>k (.rp c y 0) [] [] []else none
  | .own kk aa len=>(get kk).bind λo=>match o with
   | .ev c _=>if CT.sz X c=ei.size then bif cN n len then k (.rK kk ((aa:Int)+iN n) 0) [] [kk] []else none else none
   | .cells sz _=>if sz=ei.size then bif cN n len then k (.ptr kk (aa+n.toNat) 0) [] [kk] []else none else none
   | .map _ _ _=>none
  |_=>none
 | .arr m e,.c (.int _) n=>(T e).bind λei=>bif cN n m then match x with
  | .ptr kk row aa=>k (.ptr kk row (aa+n.toNat*ei.size)) [] [] []
  | .rK kk r aa=>k (.rK kk r (aa+n.toNat*ei.size)) [] [] []
  | .rp c y aa=>k (.rp c y (aa+n.toNat*ei.size)) [] [] []
  |_=>none
  else none
 |_,_=>none
def V6(x:DV X)(j:Nat)(k:KK X A):Option A:=
 match x with
 | .en vs=>(vs[j]?).bind λv=>k v [] [] []
 |_=>none
def Hw(op:BinOp)(kd:IntKind)(a b:Int):(DV X)×Option Bool:=
 match op with
 | .add=>(.c (.int kd) (kd.wrap (a+b)),none)
 | .sub=>(.c (.int kd) (kd.wrap (a -b)),none)
 | .mul=>(.c (.int kd) (kd.wrap (a*b)),none)
 | .quo=>(.c (.int kd) (kd.wrap (a.tdiv b)),some (b !=0))
 | .rem=>(.c (.int kd) (a.tmod b),some (b !=0))
 | .and=>(.c (.int kd) (bits .and kd a b),none)
 | .or=>(.c (.int kd) (bits .or kd a b),none)
 | .xor=>(.c (.int kd) (bits .xor kd a b),none)
 | .andNot=>(.c (.int kd) (bits .andNot kd a b),none)
 | .shl=>(.c (.int kd) (kd.wrap (a*2 ^ b.toNat)),some (decide (0<=b)&&decide (b<=kd.bits)))
 | .shr=>(.c (.int kd) (a/2 ^ b.toNat),some (decide (0<=b)&&decide (b<=kd.bits)))
 | .eql=>(.c .bool (a==b),none)
 | .neq=>(.c .bool (a !=b),none)
 | .lss=>(.c .bool (decide (a<b)),none)
 | .leq=>(.c .bool (decide (a<=b)),none)
 | .gtr=>(.c .bool (decide (a>b)),none)
 | .geq=>(.c .bool (decide (a>=b)),none)
def ab5:Nat->DV X->DV X->Option Bool
 | 0,.c (.int j) a,.c (.int k) b=>if j=k then some (iN a==iN b)else none
 | 1,.c .bool a,.c .bool b=>some (bN a==bN b)
 | 2,.c .str a,.c .str b=>some (a.toList==b.toList)
 |_,_,_=>none
def Hy:List Nat->List (DV X)->List (DV X)->Option Bool
 |[],[],[]=>some true
 |k::ks,x::xs,y::ys=>(ab5 k x y).bind λa=>(Hy ks xs ys).bind λb=>some (a&&b)
 |_,_,_=>none
def Q1:DV X->Option (List (DV X))
 | .agg cs=>some cs
 | .c (.st i) y=>some (vB (.st i) y)
 |_=>none
def ao8(op:BinOp)(t:TypeId)(x y:DV X)(k:KK X A):Option A:=
 match x,y with
 | .c (.int kd) a,.c (.int yk) b=>if kd=yk\/op= .shl\/op= .shr then match (Hw op kd a b:DV X×Option Bool).2 with
  |none=>k (Hw op kd a b).1 [] [] []
  |some g=>bif g then k (Hw op kd a b).1 [] [] []else none
  else none
 | .c .str a,.c .str b=>match op with
  | .eql=>k (.c .bool (a.toList==b.toList)) [] [] []
  | .neq=>k (.c .bool (!(a.toList==b.toList))) [] [] []
  | .lss=>k (.c .bool (V3 a b)) [] [] []
  | .gtr=>k (.c .bool (!(V3 a b || a.toList==b.toList))) [] [] []
  | .add=>bif V4 a b then k (.c .str (a++b)) [] [] []else none
  |_=>none
 | .c .bool a,.c .bool b=>(T t).bind λti=>match ti.k,op with
  | .bool,.eql=>k (.c .bool (bN a==bN b)) [] [] []
  | .bool,.neq=>k (.c .bool (!(bN a==bN b))) [] [] []
  |_,_=>none
 |x,y=>(Q1 x).bind λxs=>(Q1 y).bind λys=>(T t).bind λti=>if ti.cmp=[]then none else(Hy ti.cmp xs ys).bind λb=>match op with
  | .eql=>k (.c .bool b) [] [] []
  | .neq=>k (.c .bool (!b)) [] [] []
  |_=>none
def TX(op:UnOp)(x:DV X)(k:KK X A):Option A:=
 match op,x with
 | .not,.c .bool b=>k (.c .bool (!b)) [] [] []
 | .neg,.c (.int kd) n=>k (.c (.int kd) (kd.wrap (0 -iN n))) [] [] []
 |_,_=>none
def JF(mx:Bool)(kd:IntKind):Int->List (DV X)->Option Int
 |a,[]=>some a
 |a,.c (.int k') b::r=>if k'=kd then JF mx kd (if mx then max a b else min a b) r else none
 |_,_=>none
def OS(mx:Bool)(args:List (DV X))(k:KK X A):Option A:=
 match args with
 | .c (.int kd) a::r=>(JF mx kd a r).bind λn=>k (.c (.int kd) n) [] [] []
 |_=>none
def ao9(t:TypeId)(x:DV X)(k:KK X A):Option A:=
 (T t).bind λti=>match ti.k,x with
 | .slice _,.c (.sl _) l=>k (.c (.int .i64) (l.length:Int)) [] [] []
 | .slice _,.own _ _ len=>k (.c (.int .i64) (len:Int)) [] [] []
 | .slice _,.oz _ len=>k (.c (.int .i64) (len:Int)) [] [] []
 | .slice _,.nil=>k (.c (.int .i64) (0:Int)) [] [] []
 | .str,.c .str s=>k (.c (.int .i64) (s.size:Int)) [] [] []
 |_,_=>none
def HM(place:Nat->Option (Nat×Nat)):List (DV X)->List (Nat×DV X)->Option (List (DV X))
 |cells,[]=>some cells
 |cells,(j,x)::ae=>(place j).bind λp=>(cellsD x).bind λcs=>
  if cs.length=p.2/\p.1+cs.length<=cells.length then HM place (Mp cells p.1 cs) ae else none
def agN(t:TypeId)(parts:List (Nat×DV X))(k:KK X A):Option A:=
 (T t).bind λti=>match ti.k with
 | .struct fs=>if fs.all (λ p=>(T p.2).isSome)then
  (HM (λ j=>(fs[j]?).bind λp=>(T p.2).bind λui=>some (p.1,ui.size)) (ti.zero.map xf) parts).bind λcells=>k (.agg cells) [] [] []else none
 | .arr _ e=>(T e).bind λei=>(HM (λ j=>some (j*ei.size,ei.size)) (ti.zero.map xf) parts).bind λcells=>k (.agg cells) [] [] []
 |_=>none
def M1(c:CT X.ι):Nat->List (Nat×DV X)->Option (List (CT.T X.toSE c))
 |_,[]=>some []
 |n,(j,x)::r=>if j=n then(dat x c).bind λy=>(M1 c (n+1) r).bind λl=>some (y::l)else none
def Hz(i:Nat)(t:TypeId)(len:Nat)(parts:List (Nat×DV X))(k:KK X A):Option A:=
 (T t).bind λti=>match ti.k with
 | .slice e=>(T e).bind λei=>(code e).bind λc=>if ei.size=0\/len*ei.size>2 ^ 24\/CT.sz X c≠ei.size\/parts.length≠len then none else
  (M1 c 0 parts).bind λl=>k (.own (cx i) 0 len) [(cx i,some (.ev c l))] [] []
 |_=>none
def agO(i:Nat)(e:TypeId)(k:KK X A):Option A:=
 (T e).bind λti=>k (.ptr (cx i) 0 0) [(cx i,some (.cells ti.size [ti.zero.map xf]))] [] []
def apa(i:Nat)(x:DV X)(k:KK X A):Option A:=
 (cellsD x).bind λcs=>k (.ptr (cx i) 0 0) [(cx i,some (.cells cs.length [cs]))] [] []
def A6(d:Int):Option (DV X)->Option Int
 |none=>some d
 |some (.c (.int _) n)=>some n
 |_=>none
def agP(t:TypeId)(x:DV X)(lo hi:Option (DV X))(get:Nat->Option (bp X))(k:KK X A):Option A:=
 (T t).bind λti=>match ti.k with
 | .slice e=>(T e).bind λei=>match x with
  | .own kk aa len=>(get kk).bind λo=>if (bI o).sz=ei.size then(A6 0 lo).bind λl=>(A6 len hi).bind λh=>
   bif Bg l h len then k (.own kk (aa+l.toNat) (h.toNat -l.toNat)) [] [kk] []else none else none
  | .c (.sl c) xs=>if CT.sz X c=ei.size then(A6 0 lo).bind λl=>(A6 xs.length hi).bind λh=>
   bif Bg l h xs.length then k (.c (.sl c) (sub xs l.toNat (h.toNat -l.toNat))) [] [] []else none else none
  |_=>none
 |_=>none
def apb(y:DV X)(c:CT X.ι)(get:Nat->Option (bp X)):Option (Nat×List (CT.T X.toSE c)×List Nat):=
 match y with
 | .own kk aa len=>(get kk).bind λo=>match o with
  | .ev b l=>(kU (.sl b) (.sl c) l).bind λl=>some (len,sub l aa len,[kk])
  |_=>none
 | .c b l=>(kU b (.sl c) l).bind λ(l:List (CT.T X.toSE c))=>some (l.length,l,[])
 |_=>none
def V7{α:Type}:Nat->List α->List α
 | 0,l=>l
 |n+1,l=>l.drop (n+1)
def ab6(i:Nat)(t:TypeId)(x y:DV X)(get:Nat->Option (bp X))(k:KK X A):Option A:=
 (T t).bind λti=>match ti.k with
 | .slice e=>(T e).bind λei=>(code e).bind λc=>if CT.sz X c=ei.size then(apb y c get).bind λs=>match x with
  | .own kk aa len=>(get kk).bind λo=>match o with
   | .ev b l=>(kU (.sl b) (.sl c) l).bind λ(l:List (CT.T X.toSE c))=>bif bK (V7 aa l).length len s.2.1.length s.1 ei.bytes then iP (V7 aa l++s.2.1) λr=>k (.own (cx i) 0 r.length) [(cx i,some (.ev c r)),(kk,none)] (kk::s.2.2) [kk]else none
   |_=>none
  | .nil=>bif bK 0 0 s.2.1.length s.1 ei.bytes then iP s.2.1 λr=>k (.own (cx i) 0 r.length) [(cx i,some (.ev c r))] s.2.2 []else none
  |_=>none
  else none
 |_=>none
def V8(i:Nat)(b:Builtin)(args:List (DV X))(d8:List TypeId)(get:Nat->Option (bp X))(k:KK X A):Option A:=
 match b,args,d8 with
 | .len,[x],[t]=>ao9 T t x k
 | .max,args,_=>OS true args k
 | .min,args,_=>OS false args k
 | .append,[x,y],[t,u]=>if t=u then ab6 T code i t x y get k else none
 |_,_,_=>none
def ON(i:Nat)(o:Op)(ρ:Operand->DV X)(get:Nat->Option (bp X))(k:KK X A):Option A:=
 match o with
 | .move x=>k (ρ x) [] [] []
 | .assign x=>k (ρ x) [] [] []
 | .pick c a b=>match ρ c with | .c .bool t=>k (aly t (ρ a) (ρ b)) [] [] [] |_=>none
 | .alloc e=>agO T i e k
 | .box _ x=>apa i (ρ x) k
 | .build t parts=>agN T t (parts.toList.map λp=>(p.1,ρ p.2)) k
 | .buildSlice t len parts=>Hz T code i t len (parts.toList.map λp=>(p.1,ρ p.2)) k
 | .load t a=>Up T t (ρ a) get k
 | .store t a x=>T0 T t (ρ a) (ρ x) get k
 | .binOp op t x y _=>ao8 T op t (ρ x) (ρ y) k
 | .unOp op _ x=>TX op (ρ x) k
 | .makeFunc (.func f) first caps=>k (.fn f (first.toList.map ρ) (caps.toList.map ρ)) [] [] []
 | .slice t x lo hi none=>agP T t (ρ x) (lo.map ρ) (hi.map ρ) get k
 | .fieldAddr t x f=>Lm T t (ρ x) f k
 | .field t x f=>agM T t (ρ x) f k
 | .indexAddr t x j=>Lp T t (ρ x) (ρ j) get k
 | .extract x j=>V6 (ρ x) j k
 | .call { callee:= .builtin b,args:=args,argTypes:=d8 }=>V8 T code i b (args.toList.map ρ) d8.toList get k
 |_=>none
end
section
variable {X:SX} {A:Type} {T:ez} {code:TypeId->Option (CT X.ι)} {get:Nat->Option (bp X)} {k:KK X A} {r:A} {i:Nat}
def fB(get:Nat->Option (bp X)):Nat->Option aK:=λj=>(get j).map bI
theorem eD{rd:List Nat}{j:Nat}{o:bp X}(hj:j∈rd)(h:get j=some o):dF rd (fB get) j=some (bI o):=by simp[dF,hj,fB,h]
theorem lI(l:List (DV X)):(bG l).length=l.length:=by simp[oD]
theorem kE(l:List (DV X))(a b:Nat):bG ((l.drop a).take b)=((bG l).drop a).take b:=by simp[oD]
theorem Nf{α:Type}{l:List α}{n:Int}{x:α}(h:bj l n=some x):0<=n/\l[n.toNat]? =some x:=by
 unfold bj at h
 all_goals grind
theorem ajF(t:Bool)(x y:DV X):den (aly t x y)=N3 t (den x) (den y):=by
 rw[Vq];have base:∀x y:DV X,den (bif t then x else y)=if t=true then den x else den y:=λx y=>by cases t<;>rfl
 unfold aly;split;split;rename_i h _;subst h;cases t<;>rfl;exact base _ _;exact base _ _
theorem Cz{agg:Bool}{size:Nat}{cs:List (DV X)}{v:DV X}(h:Hu agg size cs=some v):part' agg size (bG cs)=some (den v):=by
 unfold Hu at h;unfold part';rw[lI];split at h;rename_i hl;rw[aS hl];cases agg with
 |true=>simp at h ⊢;subst h;rfl
 |false=>
  simp at h ⊢
  match cs,h with
  |[x],h=>
   simp only at h;split at h;rename_i hx;cases h;simp only[bG];rw[aS (R7 hx)];cases h
  |[],h |_::_::_,h=>cases h
 cases h
theorem PZ{agg:Bool}{size aa:Nat}{c:CT X.ι}{y:CT.T X.toSE c}{v:DV X}(h:Hu agg size (((vB c y).drop aa).take size)=some v):part' agg size ((((CT.row X.toSE c y).drop aa).take size).map AV.t)=some (den v):=by have:=Cz h;rw[kE,pR]at this;rw[<- this,map_take,map_drop]
theorem aaI{agg:Bool}{size aa:Nat}{c:CT X.ι}{y:CT.T X.toSE c}{v:DV X}(h:Su agg size c y aa=some v):part' agg size ((((CT.row X.toSE c y).drop aa).take size).map AV.t)=some (den v):=by
 cases c
 case st j=>
  simp[Su]at h;split at h;rename_i hh;obtain⟨rfl,rfl,rfl⟩:=hh;cases h;have hl:(CT.row X.toSE (.st j) y).length=(X.d8 j).length:=Ht (.st j) y;rw[List.drop_zero,take_of_length_le (by omega)];unfold part';rw[aS (by simpa using hl)];rfl;exact PZ h
 all_goals exact PZ h
theorem ajG{t:TypeId}{x:DV X}(h:Up T t x get k=some r):∃cJ rd dv out,KQ T t (den x) cJ (dF rd (fB get))=some out/\iM out.obs/\out.v=den dv/\out.upd=[]/\k dv [] rd []=some r:=by unfold Up at h;unfold KQ;rw[ah]at h;obtain⟨ti,h1,h⟩:=h;simp only[h1,ai];split at h;rename_i kk row aa;rw[ah]at h;obtain⟨o,h2,h⟩:=h;split at h;rw[ah]at h;obtain⟨rw',h3,h⟩:=h;rw[ah]at h;obtain⟨v,h4,h⟩:=h;refine⟨.none,[kk],v,⟨den v,[],[]⟩,?_,trivial,rfl,rfl,h⟩;have h5:=Cz h4;rw[kE]at h5;simp[den,eD (List.mem_singleton_self kk) h2,bI,h3,h5,pv];cases h;rename_i kk n aa;rw[ah]at h;obtain⟨o,h2,h⟩:=h;split at h;rename_i c l;rw[ah]at h;obtain⟨y,h3,h⟩:=h;rw[ah]at h;obtain⟨v,h4,h⟩:=h;have⟨_,h6⟩:=Nf h3;refine⟨.row ((CT.row X.toSE c y).map AV.t),[kk],v,⟨den v,[],[(aI (l.map (CT.row X.toSE c)))[n.toNat]? =some ((CT.row X.toSE c y).map AV.t)]⟩,?_,?_,rfl,rfl,h⟩;have h5:=aaI h4;rw[map_take,map_drop]at h5;simp[den,eD (List.mem_singleton_self kk) h2,bI,h5,np];simp[iM,aI,h6];cases h;rename_i c y aa;have⟨v,h4,h⟩:=ah.1 h;refine⟨.none,[],v,⟨den v,[],[]⟩,?_,trivial,rfl,rfl,h⟩;simp only[den,aaI h4,ai,pv];cases h
theorem V9(a:List (DV X))(aa:Nat)(cs:List (DV X)):bG (Mp a aa cs)=put' (bG a) aa (bG cs):=by simp[Mp,put',oD]
theorem oV{a c:CT X.ι}{x:CT.T X.toSE a}{y:CT.T X.toSE c}(h:kU a c x=some y):den (.c a x)=den (.c c y)/\CT.row X.toSE a x=CT.row X.toSE c y:=by
 obtain⟨e,h⟩:=rR h
 grind
theorem Tl{c:CT X.ι}(hc:c.one=true)(x:CT.T X.toSE c):[(CT.tv X.toSE c x).av]=(CT.row X.toSE c x).map AV.t:=by obtain⟨t,h1,h2⟩:=row_one hc x;rw[h1,h2];rfl
theorem aoO{c:CT X.ι}(x:CT.T X.toSE c):wk (CT.tv X.toSE c x).av=(CT.tv X.toSE c x).av:=by cases c<;>rfl
theorem wD{d:DV X}{c:CT X.ι}{x:CT.T X.toSE c}(h:Ll d c=some x):wk (den d)=(CT.tv X.toSE c x).av:=by unfold Ll at h;split at h;rw[(oV h).1];exact aoO x;cases h;rfl;cases h;rfl;cases h
theorem aiI{d:DV X}{c:CT X.ι}{x:CT.T X.toSE c}(hc:c.one=true)(h:Ll d c=some x):vU d=true:=by
 cases d
 case c a y=>
  obtain⟨e,_⟩:=rR (show kU a c y=some x by cases c<;>exact h);subst e;cases a<;>first |rfl |simp[CT.one]at hc
 case nil=>rfl
 all_goals cases c<;>cases h
theorem yH:∀{ds:List (DV X)}{l:List (CT X.ι)}{h:HL X.toSE l},Eg ds l=some h->l.all CT.one=true->(bG ds).map wk=(HL.row X.toSE l h).map AV.t/\ds.all vU=true
 |[],[],h,_,_=>⟨rfl,rfl⟩
 |d::ds,c::l,h,hr,ha=>by simp[Eg]at hr;have⟨x,h1,hr⟩:=ah.1 hr;have⟨g,h2,hr⟩:=ah.1 hr;cases hr;simp only[all_cons,aY]at ha ⊢;have⟨i1,i2⟩:=yH h2 ha.2;simp[bG,HL.row,i1,wD h1,i2,aiI ha.1 h1];simp[<- Tl ha.1 x]
 |[],_::_,_,hr,_ |_::_,[],_,hr,_=>by simp[Eg]at hr
theorem Wh(j:X.ι)(h:HL X.toSE (X.d8 j)):CT.row X.toSE (.st j) (X.make j h)=HL.row X.toSE (X.d8 j) h:=X.gE j h
theorem anJ{c:CT X.ι}(hc:c.one=true){ds:List (DV X)}{x:CT.T X.toSE c}(h:mk1 c ds=some x):(bG ds).map wk=(CT.row X.toSE c x).map AV.t:=by
 match ds,h with
 |[d],h=>
  rw[<- Tl hc x];simp[bG,wD h]
 |[],h |_::_::_,h=>cases h
theorem yh{c:CT X.ι}{ds:List (DV X)}{x:CT.T X.toSE c}(h:Nc c ds=some x):(bG ds).map wk=(CT.row X.toSE c x).map AV.t:=by
 cases c
 case st j=>
  simp[Nc]at h;have⟨g,h1,h⟩:=ah.1 h;cases h;rw[(yH h1 (X.flat j)).1,Wh]
 all_goals exact anJ rfl h
theorem agQ{d:DV X}{c:CT X.ι}(hc:c.one=true){x:CT.T X.toSE c}(h:Ll d c=some x):∃cs,cellsOf (den d)=some cs/\cs.map wk=(CT.row X.toSE c x).map AV.t:=by
 have hk:=aiI hc h;have hd:=wD h;have he:cellsOf (den d)=some [den d]:=by
  have:=Ef (x:=d) (cs:=[d]) (by
   cases d
   case c t y=>cases t<;>first |rfl |simp[vU]at hk
   all_goals first |rfl |simp[vU]at hk)
  simpa[bG]using this
 exact⟨_,he,by rw[<- Tl hc x];simp[hd]⟩
theorem ajH{d:DV X}{c:CT X.ι}{x:CT.T X.toSE c}(h:dat d c=some x):∃cs,cellsOf (den d)=some cs/\cs.map wk=(CT.row X.toSE c x).map AV.t:=by
 cases c
 case st j=>
  replace h:GB d j=some x:=h
  cases d
  case agg cs=>
   simp[GB]at h;rw[ah]at h;obtain⟨g,h1,h⟩:=h;cases h;have⟨i1,i2⟩:=yH h1 (X.flat j);refine⟨bG cs,?_,by rw[i1,Wh]⟩;simp only[den,cellsOf];rw[aS (aiF i2)]
  case c a y=>
   rw[(oV h).1];refine⟨(CT.row X.toSE (.st j) x).map AV.t,?_,?_⟩;show cellsOf (.agg _)=_;simp only[cellsOf];rw[aS];rfl;rw[List.all_map,all_eq_true];exact λ_ _=>rfl;rw[map_map];rfl
  all_goals cases h
 all_goals exact agQ rfl h
theorem ajI{t:TypeId}{x y:DV X}(h:T0 T t x y get k=some r):∃cJ kk u out,Vk T t (den x) (den y) cJ (dF [kk] (fB get))=some out/\iM out.obs/\out.v= .undef/\out.upd=iO [(kk,u)]/\k .undef [(kk,u)] [kk] [kk]=some r:=by
 unfold T0 at h;unfold Vk;rw[ah]at h;obtain⟨ti,h1,h⟩:=h;rw[ah]at h;obtain⟨cs,h2,h⟩:=h;simp[h1,Ef h2];split at h;rename_i hl;have hdl:(bG cs).length=ti.size:=by rw[lI];exact hl
 simp[hdl];split at h;rename_i kk row aa;rw[ah]at h;obtain⟨o,h3,h⟩:=h;split at h;rw[ah]at h;obtain⟨rw',h4,h⟩:=h;split at h;rename_i hle;refine⟨.none,kk,_,⟨.undef,_,[]⟩,?_,trivial,rfl,rfl,h⟩;simp only[den,eD (List.mem_singleton_self kk) h3,ai,bI,List.getElem?_map,h4,Option.map_some,lI];rw[aS (by rw[<- hl];exact hle)];simp[V9];cases h;cases h;rename_i kk n aa;rw[ah]at h;obtain⟨o,h3,h⟩:=h;split at h;rename_i c l;rw[ah]at h;obtain⟨z,h4,h⟩:=h;split at h;rename_i hle;have⟨z',h5,h⟩:=ah.1 h;have⟨_,h6⟩:=Nf h4;refine⟨.set ((CT.row X.toSE c z).map AV.t) (aI ((l.set n.toNat z').map (CT.row X.toSE c))),kk,_,⟨.undef,_,[(aI (l.map (CT.row X.toSE c)))[n.toNat]? =some ((CT.row X.toSE c z).map AV.t)/\aI ((l.set n.toNat z').map (CT.row X.toSE c))=dK ((aI (l.map (CT.row X.toSE c))).set n.toNat (put' ((CT.row X.toSE c z).map AV.t) aa (bG cs)))]⟩,?_,?_,rfl,rfl,h⟩;simp only[den,eD (List.mem_singleton_self kk) h3,ai,bI];rw[aS (by rw[length_map,Ht,<- hl];exact hle)];simp[bI];refine⟨by simp[aI,h6],?_⟩;have h7:=yh h5;rw[V9,pR]at h7;have hid:dK (aI (l.map (CT.row X.toSE c)))=aI (l.map (CT.row X.toSE c)):=by simp[dK,aI,wk]
 simp[dK,h7];have:(aI (l.map (CT.row X.toSE c))).map (List.map wk)=aI (l.map (CT.row X.toSE c)):=hid;rw[this];simp[aI];cases h;cases h;cases h;cases h
theorem P5{t:TypeId}{x:DV X}{f:Nat}(h:Lm T t x f k=some r):∃dv out,yC T t (den x) f=some out/\iM out.obs/\out.v=den dv/\out.upd=[]/\k dv [] [] []=some r:=by unfold Lm at h;unfold yC;rw[ah]at h;obtain⟨⟨d,u⟩,h1,h⟩:=h;simp[h1];split at h;exact⟨_,_,rfl,trivial,rfl,rfl,h⟩;exact⟨_,_,rfl,trivial,rfl,rfl,h⟩;exact⟨_,_,rfl,trivial,rfl,rfl,h⟩;cases h
theorem ab8{t:TypeId}{x:DV X}{f:Nat}(h:agM T t x f k=some r):∃dv out,Vl T t (den x) f=some out/\iM out.obs/\out.v=den dv/\out.upd=[]/\k dv [] [] []=some r:=by unfold agM at h;unfold Vl;rw[ah]at h;obtain⟨⟨d,u⟩,h1,h⟩:=h;simp[h1];split at h;rw[ah]at h;obtain⟨v,h2,h⟩:=h;have h3:=Cz h2;rw[kE]at h3;exact⟨v,⟨den v,[],[]⟩,by simp[den,h3,pv],trivial,rfl,rfl,h⟩;rename_i j y;have⟨v,h2,h⟩:=ah.1 h;have h3:=PZ h2;rw[map_take,map_drop]at h3;refine⟨v,⟨den v,[],[]⟩,?_,trivial,rfl,rfl,h⟩;show(part' u.agg u.size (List.take u.size (List.drop d ((CT.row X.toSE (.st j) y).map AV.t)))).bind pv=_;rw[h3];rfl;cases h
theorem dN{α:Type}{b:Bool}{x:Option α}{r:α}(h:(bif b then x else none)=some r):b=true/\x=some r:=by grind
theorem Wi{n:Int}{len:Nat}(h:cN n len=true):0<=n/\n.toNat<len:=by simp[cN]at h;omega
theorem qh{A:Type}:∀{cs:List Bool}{k:Option A}{r:A},V5 cs k=some r->(∀ c∈cs,c=true)/\k=some r
 |[],_,_,h=>⟨by simp,h⟩
 |c::cs,k,r,h=>by have⟨h1,h2⟩:=dN h;have⟨h3,h4⟩:=qh h2;exact⟨λ x hx=>(aH.1 hx).elim (λ e=>e ▸ h1) (h3 x),h4⟩
theorem P6{t:TypeId}{x j:DV X}(h:Lp T t x j get k=some r):∃cJ rd dv out,mG T t (den x) (den j) cJ (dF rd (fB get))=some out/\iM out.obs/\out.v=den dv/\out.upd=[]/\k dv [] rd []=some r:=by unfold Lp at h;unfold mG;rw[ah]at h;obtain⟨ti,h1,h⟩:=h;simp[h1];split at h;rename_i e kd n hk;rw[ah]at h;obtain⟨ei,h2,h⟩:=h;simp[hk,den,CT.tv,TV.av,h2];split at h;rename_i c l;split at h;rename_i hs;rw[ah]at h;obtain⟨y,h3,h⟩:=h;have⟨h4,h5⟩:=Nf h3;refine⟨.tt (CT.row X.toSE c y),[],_,⟨.eK (CT.row X.toSE c y) 0,[],[0<=n/\(l.map (CT.row X.toSE c))[n.toNat]? =some (CT.row X.toSE c y)]⟩,?_,?_,rfl,rfl,h⟩;simp only[den,CT.tv,TV.av];rw[aS (by rw[Ht];exact hs)];rfl;exact⟨h4,by simp[h5]⟩;cases h;rename_i kk aa len;rw[ah]at h;obtain⟨o,h3,h⟩:=h;split at h;rename_i c l;split at h;rename_i hs;have⟨h4,h⟩:=dN h;have⟨h5,h6⟩:=Wi h4;refine⟨.none,[kk],_,⟨.ptr kk (aa+n.toNat) 0,[],[0<=n/\n.toNat<len]⟩,?_,⟨h5,h6⟩,?_,rfl,h⟩;simp only[den,eD (List.mem_singleton_self kk) h3,ai,bI];rw[aS hs];rfl;simp[iN];congr 1;have:(0:Int)<=n:=h5;omega;cases h;rename_i sz rows;split at h;rename_i hs;have⟨h4,h⟩:=dN h;have⟨h5,h6⟩:=Wi h4;refine⟨.none,[kk],_,⟨.ptr kk (aa+n.toNat) 0,[],[0<=n/\n.toNat<len]⟩,?_,⟨h5,h6⟩,rfl,rfl,h⟩;simp only[den,eD (List.mem_singleton_self kk) h3,ai,bI];rw[aS hs];rfl;cases h;cases h;cases h;rename_i m e kd n hk;have⟨ei,h2,h⟩:=ah.1 h;simp[hk,den,CT.tv,TV.av,h2];have⟨h4,h⟩:=dN h;have⟨h5,h6⟩:=Wi h4;split at h;exact⟨.none,[],_,_,rfl,⟨h5,h6⟩,rfl,rfl,h⟩;exact⟨.none,[],_,_,rfl,⟨h5,h6⟩,rfl,rfl,h⟩;exact⟨.none,[],_,_,rfl,⟨h5,h6⟩,rfl,rfl,h⟩;cases h;cases h
theorem Wj{x:DV X}{j:Nat}(h:V6 x j k=some r):∃dv out,G7 (den x) j=some out/\iM out.obs/\out.v=den dv/\out.upd=[]/\k dv [] [] []=some r:=by unfold V6 at h;split at h;have⟨v,h2,h⟩:=ah.1 h;refine⟨v,⟨den v,[],[]⟩,?_,trivial,rfl,rfl,h⟩;simp[G7,den,oD,h2,pv];cases h
end
section
variable {X:SX} {A:Type} {T:ez} {code:TypeId->Option (CT X.ι)} {get:Nat->Option (bp X)} {k:KK X A} {r:A} {i:Nat}
theorem ab9{op:BinOp}{kd:IntKind}{a b:Int}:∃v obs,Vj op kd a b=some (v,obs)/\den (Hw (X:=X) op kd a b).1= .t (.sc v)/\(∀ g,(Hw (X:=X) op kd a b).2=some g->g=true->iM obs)/\((Hw (X:=X) op kd a b).2=none->iM obs):=by
 cases op<;>refine⟨_,_,rfl,rfl,λg hg ht=>?_,λhn=>?_⟩<;>simp[Hw]at* <;>try trivial
 all_goals subst hg;simp_all [iM]
theorem adY{n:Nat}{x y:DV X}{b:Bool}(h:ab5 n x y=some b):G6 n (den x) (den y)=some b:=by unfold ab5 at h;split at h;split at h;cases h;simp only[den,CT.tv,TV.av,G6];rw[aS ‹_›];cases h;exact h;exact h;cases h
theorem Ng:∀{ks:List Nat}{xs ys:List (DV X)}{b:Bool},Hy ks xs ys=some b->iX ks (bG xs) (bG ys)=some b
 |[],[],[],b,h=>h
 |k::ks,x::xs,y::ys,b,h=>by simp[Hy]at h;rw[ah]at h;obtain⟨p,h1,h⟩:=h;rw[ah]at h;obtain⟨q,h2,h⟩:=h;simp[bG,iX,adY h1,Ng h2,h]
 |[],_::_,_,_,h |[],[],_::_,_,h |_::_,[],_,_,h |_::_,_::_,[],_,h=>by simp[Hy]at h
theorem adZ{x:DV X}{xs:List (DV X)}(h:Q1 x=some xs):den x= .agg (bG xs):=by unfold Q1 at h;split at h;cases h;rfl;cases h;rw[pR];rfl;cases h
theorem agR{op:BinOp}{t:TypeId}{x y:DV X}(h:ao8 T op t x y k=some r):∃dv out,Zc T op t (den x) (den y)=some out/\iM out.obs/\out.v=den dv/\out.upd=[]/\k dv [] [] []=some r:=by
 unfold ao8 at h;split at h;rename_i kd a yk b;split at h;rename_i hk;have⟨v,obs,h1,h2,h3,h4⟩:=ab9 (X:=X) (op:=op) (kd:=kd) (a:=a) (b:=b);have fin:iM obs->k (Hw op kd a b).1 [] [] []=some r->∃dv out,Zc T op t (den (.c (.int kd) a:DV X)) (den (.c (.int yk) b:DV X))=some out/\iM out.obs/\out.v=den dv/\out.upd=[]/\k dv [] [] []=some r:=by intro ho hkk;refine⟨_,⟨.t (.sc v),[],obs⟩,?_,ho,h2.symm,rfl,hkk⟩;simp only[den,CT.tv,TV.av,Zc];rw[aS hk,h1];rfl
 split at h;rename_i hn;exact fin (h4 hn) h;rename_i g hg;have⟨hgt,h⟩:=dN h;exact fin (h3 g hg hgt) h;cases h;split at h;exact⟨_,_,rfl,trivial,rfl,rfl,h⟩;exact⟨_,_,rfl,trivial,rfl,rfl,h⟩;exact⟨_,_,rfl,trivial,rfl,rfl,h⟩;exact⟨_,_,rfl,trivial,rfl,rfl,h⟩;have⟨hc,h⟩:=dN h;exact⟨_,_,rfl,show _<=maxLen from of_decide_eq_true hc,rfl,rfl,h⟩;cases h;rw[ah]at h;obtain⟨ti,h1,h⟩:=h;split at h;rename_i hk;refine⟨_,⟨.t (.sc (.bool _)),[],[]⟩,?_,trivial,rfl,rfl,h⟩;simp[Zc,h1,hk];rfl;rename_i hk;refine⟨_,⟨.t (.sc (.bool _)),[],[]⟩,?_,trivial,rfl,rfl,h⟩;simp[Zc,h1,hk];rfl;cases h;rw[ah]at h;obtain⟨xs,h1,h⟩:=h;rw[ah]at h;obtain⟨ys,h2,h⟩:=h;rw[ah]at h;obtain⟨ti,h3,h⟩:=h;split at h;cases h;rename_i hc;have⟨b,h4,h⟩:=ah.1 h;have h5:=Ng h4;rw[adZ h1,adZ h2];split at h;refine⟨_,⟨.t (.sc (.bool b)),[],[]⟩,?_,trivial,rfl,rfl,h⟩;simp only[Zc,h3,ai];rw[aR hc,h5];rfl;refine⟨_,⟨.t (.sc (.bool (!b))),[],[]⟩,?_,trivial,rfl,rfl,h⟩;simp only[Zc,h3,ai];rw[aR hc,h5];rfl;cases h
theorem ajJ{op:UnOp}{x:DV X}(h:TX op x k=some r):∃dv out,Tr op (den x)=some out/\iM out.obs/\out.v=den dv/\out.upd=[]/\k dv [] [] []=some r:=by unfold TX at h;split at h;exact⟨_,_,rfl,trivial,rfl,rfl,h⟩;exact⟨_,_,rfl,trivial,rfl,rfl,h⟩;cases h
theorem R8(mx:Bool)(kd:IntKind):∀(l:List (DV X))(a n:Int),JF mx kd a l=some n->D7 mx kd a (bG l)=some n
 |[],a,n,h=>h
 |x::l,a,n,h=>by
  cases x
  case c t y=>
   cases t
   case int k'=>
    simp only[JF]at h;simp only[bG,den,CT.tv,TV.av,D7];split at h;rename_i hk;rw[aS hk];exact R8 mx kd l _ _ h;cases h
   all_goals simp[JF]at h
  all_goals simp[JF]at h
theorem aaJ{mx:Bool}{args:List (DV X)}(h:OS mx args k=some r):∃dv out,HP mx (bG args)=some out/\iM out.obs/\out.v=den dv/\out.upd=[]/\k dv [] [] []=some r:=by unfold OS at h;split at h;rename_i kd a l;rw[ah]at h;obtain⟨n,h1,h⟩:=h;refine⟨_,⟨.t (.sc (.int kd n)),[],[]⟩,?_,trivial,rfl,rfl,h⟩;simp[bG,den,CT.tv,TV.av,HP];have:=R8 mx kd l a n h1;simp[this];rfl;cases h
theorem agS{t:TypeId}{x:DV X}(h:ao9 T t x k=some r):∃cJ dv out,A5 T t (den x) cJ=some out/\iM out.obs/\out.v=den dv/\out.upd=[]/\k dv [] [] []=some r:=by unfold ao9 at h;unfold A5;rw[ah]at h;obtain⟨ti,h1,h⟩:=h;simp[h1];split at h;rename_i e c l hk;simp[hk];exact⟨.num (l.length:Int),_,⟨.t (.sc (.int .i64 (l.length:Int))),[],[(l.length:Int)=((l.map (CT.row X.toSE c)).length:Int)]⟩,rfl,by simp[iM],rfl,rfl,h⟩;rename_i hk;simp[hk];exact⟨.none,_,_,rfl,trivial,rfl,rfl,h⟩;rename_i hk;simp[hk];exact⟨.none,_,_,rfl,trivial,rfl,rfl,h⟩;rename_i hk;simp[hk];exact⟨.none,_,_,rfl,trivial,rfl,rfl,h⟩;rename_i hk;simp[hk];exact⟨.none,_,_,rfl,trivial,rfl,rfl,h⟩;cases h
theorem P7(place:Nat->Option (Nat×Nat)):∀(parts:List (Nat×DV X))(cells out:List (DV X)),HM place cells parts=some out->FI place (bG cells) (parts.map λp=>(p.1,den p.2))=some (bG out)
 |[],cells,out,h=>by simp[HM]at h;subst h;rfl
 |(j,x)::ae,cells,out,h=>by simp[HM]at h;rw[ah]at h;obtain⟨⟨aa,size⟩,h1,h⟩:=h;rw[ah]at h;obtain⟨cs,h2,h⟩:=h;split at h;rename_i hl;simp only[bE,FI,h1,Ef h2,ai,lI];rw[aS hl,<- V9];exact P7 place ae _ _ h;cases h
theorem acd{t:TypeId}{parts:List (Nat×DV X)}(h:agN T t parts k=some r):∃dv out,Vm T t (parts.map λp=>(p.1,den p.2))=some out/\iM out.obs/\out.v=den dv/\out.upd=[]/\k dv [] [] []=some r:=by unfold agN at h;unfold Vm;rw[ah]at h;obtain⟨ti,h1,h⟩:=h;simp[h1];split at h;rename_i fs hk;split at h;rename_i ha;rw[ah]at h;obtain⟨cells,h2,h⟩:=h;have h3:=P7 _ _ _ _ h2;rw[Cy]at h3;refine⟨_,⟨.agg (bG cells),[],[]⟩,?_,trivial,rfl,rfl,h⟩;simp only[hk];rw[aS ha,h3];rfl;cases h;rename_i m e hk;rw[ah]at h;obtain⟨ei,h2,h⟩:=h;rw[ah]at h;obtain⟨cells,h3,h⟩:=h;have h4:=P7 _ _ _ _ h3;rw[Cy]at h4;refine⟨_,⟨.agg (bG cells),[],[]⟩,?_,trivial,rfl,rfl,h⟩;simp[hk,h2,h4];rfl;cases h
theorem aaK(size:Nat)(c:CT X.ι)(hs:CT.sz X c=size)(z:List AV):∀(parts:List (Nat×DV X))(n:Nat)(l:List (CT.T X.toSE c))(done:List (List AV)),M1 c n parts=some l->done.length=n->
 ∃css:List (List AV),MO size (done++List.replicate parts.length z) (parts.map λp=>(p.1,den p.2))=some (done++css)/\css.map (λ r=>r.map wk)=aI (l.map (CT.row X.toSE c))
 |[],n,l,done,h,_=>by simp[M1]at h;subst h;exact⟨[],by simp[MO],rfl⟩
 |(j,x)::ae,n,l,done,h,hd=>by
  simp only[M1]at h;split at h;rename_i hj;subst hj;have⟨y,h1,h⟩:=ah.1 h;have⟨l',h2,h⟩:=ah.1 h;cases h;have⟨cs,g1,g2⟩:=ajH h1;have hl:cs.length=size:=by have:=congrArg List.length g2;simp[Ht]at this;omega
  obtain⟨css,i1,i2⟩:=aaK size c hs z ae (j+1) l' (done++[cs]) h2 (by simp[hd]);refine⟨cs::css,?_,?_⟩;simp only[bE,MO,g1,ai];rw[aS ⟨hl,by simp;omega⟩];have:(done++List.replicate (ae.length+1) z).set j cs=done++[cs]++List.replicate ae.length z:=by rw[List.set_append_right _ _ (by omega),hd];simp[List.replicate_succ]
  simp only[fq,this,i1];simp;simp[i2,g2,aI];cases h
theorem Nh{t:TypeId}{len:Nat}{parts:List (Nat×DV X)}(h:Hz T code i t len parts k=some r):∃dv u out,wC T i t len (parts.map λp=>(p.1,den p.2))=some out/\iM out.obs/\out.v=den dv/\out.upd=iO [(cx i,u)]/\k dv [(cx i,u)] [] []=some r:=by unfold Hz at h;unfold wC;rw[ah]at h;obtain⟨ti,h1,h⟩:=h;simp[h1];split at h;rename_i e hk;rw[ah]at h;obtain⟨ei,h2,h⟩:=h;rw[ah]at h;obtain⟨c,h3,h⟩:=h;simp only[hk,h2,ai];split at h;cases h;rename_i hno;simp only[not_or,Decidable.not_not]at hno;obtain⟨n1,n2,n3,n4⟩:=hno;have⟨l,h4,h⟩:=ah.1 h;have⟨css,g1,g2⟩:=aaK ei.size c n3 (ei.zero.map cv) parts 0 l [] h4 rfl;simp[n4]at g1;refine⟨_,_,⟨.own (cx i) 0 len,[(cx i,some ⟨ei.size,dK css⟩)],[]⟩,?_,trivial,rfl,?_,h⟩;rw[aR (by simp only[not_or];exact⟨n1,n2⟩),g1];rfl;simp[iO,bI,n3];rw[show dK css=aI (l.map (CT.row X.toSE c))from g2];cases h
theorem ace{e:TypeId}(h:agO T i e k=some r):∃dv u out,Vn T i e=some out/\iM out.obs/\out.v=den dv/\out.upd=iO [(cx i,u)]/\k dv [(cx i,u)] [] []=some r:=by unfold agO at h;unfold Vn;have⟨ti,h1,h⟩:=ah.1 h;exact⟨_,_,⟨_,[(cx i,some ⟨ti.size,[ti.zero.map cv]⟩)],[]⟩,by simp[h1];rfl,trivial,rfl,by simp[iO,bI,Cy],h⟩
theorem agT{x:DV X}(h:apa i x k=some r):∃dv u out,MD i (den x)=some out/\iM out.obs/\out.v=den dv/\out.upd=iO [(cx i,u)]/\k dv [(cx i,u)] [] []=some r:=by unfold apa at h;unfold MD;rw[ah]at h;obtain⟨cs,h1,h⟩:=h;exact⟨_,_,⟨_,[(cx i,some ⟨(bG cs).length,[bG cs]⟩)],[]⟩,by simp[Ef h1];rfl,trivial,rfl,by simp[iO,bI,lI],h⟩
theorem CB{d n:Int}{x:Option (DV X)}(h:A6 d x=some n):bnd d (x.map den)=some n:=by unfold A6 at h;split at h;exact h;exact h;cases h
theorem aaL{l h:Int}{len:Nat}(hh:Bg l h len=true):0<=l/\l<=h/\h<=(len:Int):=by simpa[Bg,and_assoc]using hh
theorem acf{t:TypeId}{x:DV X}{lo hi:Option (DV X)}(h:agP T t x lo hi get k=some r):∃cJ rd dv out,Vo T t (den x) (lo.map den) (hi.map den) cJ (dF rd (fB get))=some out/\iM out.obs/\out.v=den dv/\out.upd=[]/\k dv [] rd []=some r:=by
 unfold agP at h;unfold Vo;rw[ah]at h;obtain⟨ti,h1,h⟩:=h;simp[h1];split at h;rename_i e hk;rw[ah]at h;obtain⟨ei,h2,h⟩:=h;simp[hk,h2];split at h;rename_i kk aa len;rw[ah]at h;obtain⟨o,h3,h⟩:=h;split at h;rename_i hs;rw[ah]at h;obtain⟨l,h4,h⟩:=h;rw[ah]at h;obtain⟨hh,h5,h⟩:=h;have⟨h6,h⟩:=dN h;refine⟨.none,[kk],_,⟨.own kk (aa+l.toNat) (hh.toNat -l.toNat),[],[0<=l/\l<=hh/\hh<=(len:Int)]⟩,?_,aaL h6,rfl,rfl,h⟩;simp only[den,eD (List.mem_singleton_self kk) h3,ai];rw[aS hs,CB h4,ai,CB h5];rfl;cases h;rename_i c xs;split at h;rename_i hs;have⟨l,h4,h⟩:=ah.1 h;have⟨hh,h5,h⟩:=ah.1 h;have⟨h6,h⟩:=dN h;refine⟨.BY ((sub xs l.toNat (hh.toNat -l.toNat)).map (CT.row X.toSE c)),[],_,⟨.t (.sl ((sub xs l.toNat (hh.toNat -l.toNat)).map (CT.row X.toSE c))),[],[0<=l/\l<=hh/\hh<=((xs.map (CT.row X.toSE c)).length:Int)/\(sub xs l.toNat (hh.toNat -l.toNat)).map (CT.row X.toSE c)=((xs.map (CT.row X.toSE c)).drop l.toNat).take (hh.toNat -l.toNat)/\(∀ q∈xs.map (CT.row X.toSE c),q.length=ei.size)]⟩,?_,?_,rfl,rfl,h⟩;simp only[den,CT.tv,TV.av,CB h4,ai];have h7:bnd ((xs.map (CT.row X.toSE c)).length:Int) (hi.map den)=some hh:=by have:=CB h5;simpa using this
 rw[h7];rfl;have⟨a1,a2,a3⟩:=aaL h6;refine⟨a1,a2,by simpa using a3,by simp[sub],λq hq=>?_⟩;obtain⟨y,_,rfl⟩:=mem_map.1 hq;rw[Ht];exact hs;cases h;cases h;cases h
end
section
variable {X:SX} {A:Type} {T:ez} {code:TypeId->Option (CT X.ι)} {get:Nat->Option (bp X)} {k:KK X A} {r:A} {i:Nat}
theorem ji{b c:CT X.ι}{l:List (CT.T X.toSE b)}{l':List (CT.T X.toSE c)}(h:kU (.sl b) (.sl c) l=some l'):CT.sz X b=CT.sz X c/\l.map (CT.row X.toSE b)=l'.map (CT.row X.toSE c):=by
 obtain⟨e,h⟩:=rR h
 grind
theorem ad1{y:DV X}{c:CT X.ι}{n:Nat}{l:List (CT.T X.toSE c)}{rd:List Nat}(h:apb y c get=some (n,l,rd))(hl:l.length=n)(rd':List Nat)(hrd:∀j∈rd,j∈rd'):
 ∃ob,Vp (CT.sz X c) (den y) (dF rd' (fB get))=some (n,ob,aI (l.map (CT.row X.toSE c)))/\ob:=by unfold apb at h;split at h;rename_i kk aa len;rw[ah]at h;obtain⟨o,h1,h⟩:=h;split at h;rw[ah]at h;obtain⟨l1,h2,h⟩:=h;injection h with h;obtain⟨rfl,rfl,rfl⟩:=h;have⟨h3,h4⟩:=ji h2;refine⟨True,?_,trivial⟩;simp only[den,Vp,eD (hrd kk (by simp)) h1,ai,bI];rw[aS h3];simp[h4];simp[aI,sub];cases h;rename_i b l0;have⟨l1,h2,h⟩:=ah.1 h;injection h with h;simp at h;obtain⟨rfl,rfl,rfl⟩:=h;refine⟨∀ q∈l1.map (CT.row X.toSE c),q.length=CT.sz X c,?_,?_⟩;rw[(oV h2).1];simp[den,CT.tv,TV.av,Vp];intro q hq;obtain⟨z,_,rfl⟩:=mem_map.1 hq;exact Ht c z;cases h
theorem Wl{lo len ln n bytes:Nat}(h:bK lo len ln n bytes=true):lo=len/\ln=n/\(len+n)*bytes<=140737488355328/\len+n<=maxLen:=by simpa[bK,and_assoc]using h
theorem p4{α:Type}(n:Nat)(l:List α):V7 n l=l.drop n:=by cases n<;>rfl
theorem Zm{t:TypeId}{x y:DV X}(h:ab6 T code i t x y get k=some r):∃cJ rd wr dv upd out,zY T i t (den x) (den y) cJ (dF rd (fB get))=some out/\iM out.obs/\out.v=den dv/\out.upd=iO upd/\(∀ p∈upd,p.1=cx i\/p.1∈wr)/\k dv upd rd wr=some r:=by
 unfold ab6 at h;unfold zY;rw[ah]at h;obtain⟨ti,h1,h⟩:=h;simp only[h1,ai];split at h;rename_i e hk;rw[ah]at h;obtain⟨ei,h2,h⟩:=h;rw[ah]at h;obtain⟨c,h3,h⟩:=h;simp only[hk,h2,ai];split at h;rename_i hs;rw[ah]at h;obtain⟨⟨n,l,rd⟩,h4,h⟩:=h;split at h;rename_i kk aa len;have⟨o,h5,h⟩:=ah.1 h;split at h;have⟨l1,h6,h⟩:=ah.1 h;have⟨h7,h⟩:=dN h;rw[p4]at h7 h;have hd:(aI (l1.map (CT.row X.toSE c))).drop aa=aI ((l1.drop aa).map (CT.row X.toSE c)):=by simp[aI]
 have⟨g1,g2,g3,g4⟩:=Wl h7;have⟨h8,h9⟩:=ji h6;obtain⟨ob,i1,i2⟩:=ad1 h4 g2 (kk::rd) (λ j hj=>by simp[hj]);have i3:=eD (rd:=kk::rd) (by simp) h5
 refine⟨.rows (aI ((l1.drop aa++l).map (CT.row X.toSE c))),kk::rd,[kk],_,_,⟨.own (cx i) 0 (aI ((l1.drop aa++l).map (CT.row X.toSE c))).length,[(cx i,some ⟨ei.size,aI ((l1.drop aa++l).map (CT.row X.toSE c))⟩),(kk,none)],
  [ob/\(aI ((l1.drop aa).map (CT.row X.toSE c))).length=len/\(aI (l.map (CT.row X.toSE c))).length=n/\aI ((l1.drop aa++l).map (CT.row X.toSE c))=aI ((l1.drop aa).map (CT.row X.toSE c))++aI (l.map (CT.row X.toSE c))/\(len+n)*ei.bytes<=140737488355328/\len+n<=maxLen]⟩,?_,?_,?_,?_,?_,h⟩
 rw[hs]at i1;simp only[i1,ai,den,i3,bI,h9,hd];rw[aS (by rw[h8,hs])];exact⟨i2,by simpa[aI]using g1,by simpa[aI]using g2,by simp[aI],g3,g4⟩;simp[den,aI];simp[iO,bI,hs];intro p hp;simp at hp;rcases hp with rfl |rfl;exact .inl rfl;exact .inr (by simp);cases h;have⟨h7,h⟩:=dN h;have⟨g1,g2,g3,g4⟩:=Wl h7;obtain⟨ob,i1,i2⟩:=ad1 h4 g2 rd (λ j hj=>hj)
 refine⟨.rows (aI (l.map (CT.row X.toSE c))),rd,[],_,_,⟨.own (cx i) 0 (aI (l.map (CT.row X.toSE c))).length,[(cx i,some ⟨ei.size,aI (l.map (CT.row X.toSE c))⟩)],
  [ob/\(aI (l.map (CT.row X.toSE c))).length=n/\aI (l.map (CT.row X.toSE c))=aI (l.map (CT.row X.toSE c))/\n*ei.bytes<=140737488355328/\n<=maxLen]⟩,?_,?_,?_,?_,?_,h⟩
 rw[hs]at i1;simp[i1,den];exact⟨i2,by simpa[aI]using g2,rfl,by simpa using g3,by simpa using g4⟩;simp[den,aI];simp[iO,bI,hs];intro p hp;simp at hp;rcases hp with rfl;exact .inl rfl;cases h;cases h;cases h
def apT(T:ez)(i:Nat)(o:Oper)(ρ:Operand->DV X)(get:Nat->Option (bp X))(k:KK X A)(r:A):Prop:=
 ∃cJ rd wr dv upd out,qG T i o cJ (λ x=>den (ρ x)) (dF rd (fB get))=some out/\iM out.obs/\out.v=den dv/\out.upd=iO upd/\(∀ p∈upd,p.1=cx i\/p.1∈wr)/\k dv upd rd wr=some r
theorem Wm{b:Builtin}{args:List (DV X)}{d8:List TypeId}(h:V8 T code i b args d8 get k=some r):∃cJ rd wr dv upd out,Cv T i b (bG args) d8 cJ (dF rd (fB get))=some out/\iM out.obs/\out.v=den dv/\out.upd=iO upd/\(∀ p∈upd,p.1=cx i\/p.1∈wr)/\k dv upd rd wr=some r:=by unfold V8 at h;unfold Cv;split at h;have⟨cJ,dv,out,h1,h2,h3,h4,h5⟩:=agS h;exact⟨cJ,[],[],dv,[],out,h1,h2,h3,h4,by simp,h5⟩;have⟨dv,out,h1,h2,h3,h4,h5⟩:=aaJ h;exact⟨.none,[],[],dv,[],out,h1,h2,h3,h4,by simp,h5⟩;have⟨dv,out,h1,h2,h3,h4,h5⟩:=aaJ h;exact⟨.none,[],[],dv,[],out,h1,h2,h3,h4,by simp,h5⟩;split at h;rename_i htu;have⟨cJ,rd,wr,dv,upd,out,h1,h2⟩:=Zm h;refine⟨cJ,rd,wr,dv,upd,out,?_,h2⟩;simp only[bG];rw[aS htu];exact h1;cases h;cases h
theorem UU(ρ:Operand->DV X)(l:List Operand):l.map (λ x=>den (ρ x))=bG (l.map ρ):=by rw[oD,map_map];rfl
theorem aaM{o:Oper}{ρ:Operand->DV X}(h:ON T code i o.op ρ get k=some r):apT T i o ρ get k r:=by
 obtain⟨dst,op,ty,am,after,guard⟩:=o;unfold apT qG;simp at h;unfold ON at h;split at h;exact⟨.none,[],[],_,[],_,rfl,trivial,rfl,rfl,by simp,h⟩;exact⟨.none,[],[],_,[],_,rfl,trivial,rfl,rfl,by simp,h⟩;rename_i c a b;split at h;rename_i t hc;refine⟨.none,[],[],_,[],⟨N3 t (den (ρ a)) (den (ρ b)),[],[]⟩,?_,trivial,(ajF t _ _).symm,rfl,by simp,h⟩;simp[hc,den,CT.tv,TV.av,pv];cases h;have⟨dv,u,out,h1,h2,h3,h4,h5⟩:=ace h;exact⟨.none,[],[],dv,_,out,h1,h2,h3,h4,by simp,h5⟩;have⟨dv,u,out,h1,h2,h3,h4,h5⟩:=agT h;exact⟨.none,[],[],dv,_,out,h1,h2,h3,h4,by simp,h5⟩;rename_i t parts;have⟨dv,out,h1,h2,h3,h4,h5⟩:=acd h;refine⟨.none,[],[],dv,[],out,?_,h2,h3,h4,by simp,h5⟩;rw[map_map]at h1;exact h1;rename_i t len parts;have⟨dv,u,out,h1,h2,h3,h4,h5⟩:=Nh h;refine⟨.none,[],[],dv,_,out,?_,h2,h3,h4,by simp,h5⟩;rw[map_map]at h1;exact h1;have⟨cJ,rd,dv,out,h1,h2,h3,h4,h5⟩:=ajG h;exact⟨cJ,rd,[],dv,[],out,h1,h2,h3,h4,by simp,h5⟩;have⟨cJ,kk,u,out,h1,h2,h3,h4,h5⟩:=ajI h;exact⟨cJ,[kk],[kk],.undef,_,out,h1,h2,h3,h4,by simp,h5⟩;have⟨dv,out,h1,h2,h3,h4,h5⟩:=agR h;exact⟨.none,[],[],dv,[],out,h1,h2,h3,h4,by simp,h5⟩;have⟨dv,out,h1,h2,h3,h4,h5⟩:=ajJ h;exact⟨.none,[],[],dv,[],out,h1,h2,h3,h4,by simp,h5⟩;rename_i f first caps
 refine⟨.none,[],[],_,[],⟨.fn f (first.toList.map λx=>den (ρ x)) (caps.toList.map λx=>den (ρ x)),[],[]⟩,rfl,trivial,?_,rfl,by simp,h⟩;simp[den,UU];rename_i t x lo hi;have⟨cJ,rd,dv,out,h1,h2,h3,h4,h5⟩:=acf h;refine⟨cJ,rd,[],dv,[],out,?_,h2,h3,h4,by simp,h5⟩;simp at h1;exact h1;have⟨dv,out,h1,h2,h3,h4,h5⟩:=P5 h;exact⟨.none,[],[],dv,[],out,h1,h2,h3,h4,by simp,h5⟩;have⟨dv,out,h1,h2,h3,h4,h5⟩:=ab8 h;exact⟨.none,[],[],dv,[],out,h1,h2,h3,h4,by simp,h5⟩;have⟨cJ,rd,dv,out,h1,h2,h3,h4,h5⟩:=P6 h;exact⟨cJ,rd,[],dv,[],out,h1,h2,h3,h4,by simp,h5⟩;have⟨dv,out,h1,h2,h3,h4,h5⟩:=Wj h;exact⟨.none,[],[],dv,[],out,h1,h2,h3,h4,by simp,h5⟩;rename_i b args d8;have⟨cJ,rd,wr,dv,upd,out,h1,h2⟩:=Wm h;refine⟨cJ,rd,wr,dv,upd,out,?_,h2⟩;simp[UU];exact h1;cases h
end
inductive Pt(ι:Type) where
 |v (c:CT ι)
 |o (k:Nat)
 |p (k:Nat)
 |nil
 |f (F:FuncId) (fs cs:List (Pt ι))
 |od (k:Nat)
 |mp (k:Nat)
 |oz (k:Nat)
 |a (ps:List (Pt ι))
inductive OP(ι:Type) where
 |l (c:CT ι)
 |m (k v:CT ι)
 |c (sz:Nat) (rows:List (List (Pt ι)))
section
variable {ι:Type}
mutual
def Pt.vars:Pt ι->List (CT ι)
 | .v c=>[c]
 | .a ps=>c9 ps
 | .f _ fs cs=>c9 fs++c9 cs
 | .od _=>[.int .i64]
 |_=>[]
def c9:List (Pt ι)->List (CT ι)
 |[]=>[]
 |p::ps=>p.vars++c9 ps
end
def iz:List (Nat×Pt ι)->List (CT ι)
 |[]=>[]
 |p::ps=>p.2.vars++iz ps
def wE:List (List (Pt ι))->List (CT ι)
 |[]=>[]
 |r::rs=>c9 r++wE rs
def d7:List (Nat×OP ι)->List (CT ι)
 |[]=>[]
 |(_,.l c)::r=> .sl c::d7 r
 |(_,.m k v)::r=> .mp k v::d7 r
 |(_,.c _ rows)::r=>wE rows++d7 r
end
section
variable {X:SX}
structure DC(X:SX) where
 c:CT X.ι
 x:CT.T X.toSE c
@[reducible] def VT:List (CT X.ι)->Type
 |[]=>Unit
 |[c]=>CT.T X.toSE c
 |c::c'::l=>CT.T X.toSE c×VT (c'::l)
def Gk:(l:List (CT X.ι))->List (DC X)->Option (VT (X:=X) l)
 |[],[]=>some ()
 |[c],[d]=>kU d.c c d.x
 |c::c'::l,d::ds=>(kU d.c c d.x).bind λx=>(Gk (c'::l) ds).bind λv=>some (x,v)
 |_,_=>none
def wF:(l:List (CT X.ι))->VT (X:=X) l->List (DC X)
 |[],_=>[]
 |[c],x=>[⟨c,x⟩]
 |c::c'::l,v=>⟨c,v.1⟩::wF (c'::l) v.2
theorem ad2{d:DC X}{c:CT X.ι}{x:CT.T X.toSE c}(h:kU d.c c d.x=some x):(⟨c,x⟩:DC X)=d:=by obtain⟨a,y⟩:=d;have⟨e,h⟩:=rR h;simp at e;subst e;subst h;rfl
theorem Wn:∀{l:List (CT X.ι)}{ds:List (DC X)}{v:VT (X:=X) l},Gk l ds=some v->wF l v=ds
 |[],[],_,_=>rfl
 |[c],[d],v,h=>by simp[Gk]at h;simp[wF,ad2 h]
 |c::c'::l,d::ds,v,h=>by simp[Gk]at h;rw[ah]at h;obtain⟨x,h1,h⟩:=h;rw[ah]at h;obtain⟨v',h2,h⟩:=h;cases h;simp[wF,ad2 h1,Wn h2]
 |[],_::_,_,h |[_],[],_,h |[_],_::_::_,_,h |_::_::_,[],_,h=>by simp[Gk]at h
theorem Wo{c:CT X.ι}(x:CT.T X.toSE c):kU c c x=some x:=by unfold kU;split;rfl;rename_i h _;exact absurd rfl h
def HK(d:DC X):Nat:=match kU d.c (.int .i64) d.x with |some x=>Int.toNat x |none=>0
section
variable (ef:Nat->Nat)
mutual
def eP:Pt X.ι->List (DC X)->DV X×List (DC X)
 | .v _,L=>match L with
  |d::r=>(.c d.c d.x,r)
  |[]=>(.undef,[])
 | .o k,L=>(.own k 0 (ef k),L)
 | .p k,L=>(.ptr k 0 0,L)
 | .mp k,L=>(.mp k,L)
 | .oz k,L=>(.oz k (ef k),L)
 | .nil,L=>(.nil,L)
 | .f F fs cs,L=>(.fn F (l4 fs L).1 (l4 cs (l4 fs L).2).1,(l4 cs (l4 fs L).2).2)
 | .od k,L=>match L with
  |d::r=>(.own k (HK d) (ef k -HK d),r)
  |[]=>(.undef,[])
 | .a ps,L=>(.agg (l4 ps L).1,(l4 ps L).2)
def l4:List (Pt X.ι)->List (DC X)->List (DV X)×List (DC X)
 |[],L=>([],L)
 |p::ps,L=>((eP p L).1::(l4 ps (eP p L).2).1,(l4 ps (eP p L).2).2)
end
def Lr:List (Nat×Pt X.ι)->List (DC X)->List (Nat×DV X)
 |[],_=>[]
 |(t,p)::r,L=>(t,(eP ef p L).1)::Lr r (eP ef p L).2
def wG:List (List (Pt X.ι))->List (DC X)->List (List (DV X))×List (DC X)
 |[],L=>([],L)
 |r::rs,L=>((l4 ef r L).1::(wG rs (l4 ef r L).2).1,(wG rs (l4 ef r L).2).2)
def bU:List (Nat×OP X.ι)->List (DC X)->List (Nat×Option (bp X))
 |[],_=>[]
 |(k,.l _)::r,L=>match L with
  |⟨.sl c',x⟩::L=>(k,some (.ev c' x))::bU r L
  |_=>[]
 |(k,.m _ _)::r,L=>match L with
  |⟨.mp kc vc,x⟩::L=>(k,some (.map kc vc x))::bU r L
  |_=>[]
 |(k,.c sz rows)::r,L=>(k,some (.cells sz (wG ef rows L).1))::bU r (wG ef rows L).2
end
def lens:List (Nat×OP X.ι)->List (DC X)->List (Nat×Nat)
 |[],_=>[]
 |(k,.l _)::r,L=>match L with
  |⟨.sl _,x⟩::L=>(k,List.length x)::lens r L
  |_=>[]
 |(_,.m _ _)::r,L=>lens r (L.drop 1)
 |(_,.c _ rows)::r,L=>lens r (L.drop (wE rows).length)
def ma:Nat->List (Pt X.ι)->List (Nat×Pt X.ι)
 |_,[]=>[]
 |n,p::ps=>(n,p)::ma (n+1) ps
theorem P8:∀(n:Nat)(ps:List (Pt X.ι)),iz (ma n ps)=c9 ps
 |_,[]=>rfl
 |n,p::ps=>by simp[ma,iz,c9,P8 (n+1) ps]
structure dE(X:SX) where
 qq:List (Pt X.ι)
 ju:List (Nat×OP X.ι)
 fY:List (Pt X.ι)
 jt:List (Nat×OP X.ι)
 fn:VT (X:=X) (c9 qq++d7 ju)->Option (VT (X:=X) (iz (ma 0 fY)++d7 jt))
def Eh(O:List (Nat×OP X.ι))(L:List (DC X))(k:Nat):Nat:=(lk (lens O L) k).getD 0
def Wp(ps:List (Pt X.ι))(O:List (Nat×OP X.ι))(L:List (DC X)):List (DV X):=(l4 (Eh O (L.drop (c9 ps).length)) ps (L.take (c9 ps).length)).1
def N5(ps:List (Pt X.ι))(O:List (Nat×OP X.ι))(L:List (DC X)):List (Nat×Option (bp X)):=bU (Eh O (L.drop (c9 ps).length)) O (L.drop (c9 ps).length)
def yI:List (DV X)->DV X
 |[d]=>d
 |ds=> .en ds
def dn:List (Nat×Option (bp X))->List (Nat×bp X)
 |[]=>[]
 |(k,some o)::r=>(k,o)::dn r
 |(_,none)::r=>dn r
def sZ(l:List (Nat×bp X)):List (Nat×aK):=l.map λp=>(p.1,bI p.2)
def dE.args(g:dE X)(v:VT (X:=X) (c9 g.qq++d7 g.ju)):List (DV X):=Wp g.qq g.ju (wF _ v)
def dE.de(g:dE X)(v:VT (X:=X) (c9 g.qq++d7 g.ju)):List (Nat×bp X):=dn (N5 g.qq g.ju (wF _ v))
def dE.res(g:dE X)(r:VT (X:=X) (iz (ma 0 g.fY)++d7 g.jt)):DV X:=yI (Wp g.fY g.jt (wF _ r))
def dE.outs(g:dE X)(r:VT (X:=X) (iz (ma 0 g.fY)++d7 g.jt)):List (Nat×bp X):=dn (N5 g.fY g.jt (wF _ r))
def MY(P:Program)(f:FuncId)(g:dE X):Prop:=∀v r,g.fn v=some r->xy P f (bG (g.args v)) ((g.de v).map λp=>bI p.2) (sZ (g.outs r)) (den (g.res r))
end
inductive AT(ι:Type) where
 |d (c:CT ι)
 |ref (c:CT ι)
 |el (as:List (CT ι)) (r:CT ι)
 |mut (c:CT ι)
 |kx (c:CT ι)
 |nil
 deriving DecidableEq
def AT.im{ι:Type}:AT ι->Bool
 | .mut _ | .kx _=>true
 |_=>false
def AT.pl{ι:Type}:AT ι->Bool
 | .mut _ | .kx _ | .nil=>false
 |_=>true
inductive RT(ι:Type) where
 |d (c:CT ι)
 |fresh (e:CT ι)
 |whole (j:Nat)
 |mu (c:CT ι)
 |mr (c:CT ι)
 |mv
def RT.out{ι:Type}:RT ι->Bool
 | .mu _ | .mr _ | .mv=>true
 |_=>false
section
variable (X:SX)
@[reducible] def AT.T:AT X.ι->Type
 | .d c=>CT.T X.toSE c
 | .ref c=>CT.T X.toSE c
 | .el as r=>HL X.toSE as->Option (CT.T X.toSE r)
 | .mut c=>List (CT.T X.toSE c)
 | .kx c=>CT.T X.toSE c
 | .nil=>Unit
@[reducible] def RT.T:RT X.ι->Type
 | .d c=>CT.T X.toSE c
 | .fresh e=>List (CT.T X.toSE e)
 | .whole _=>Unit
 | .mu c=>List (CT.T X.toSE c)
 | .mr c=>CT.T X.toSE c
 | .mv=>Unit
@[reducible] def iW:List (AT X.ι)->Type
 |[]=>Unit
 |a::l=>AT.T X a×iW l
@[reducible] def sP:List (RT X.ι)->Type
 |[]=>Unit
 |[r]=>RT.T X r
 |r::r'::l=>RT.T X r×sP (r'::l)
structure cm where
 args:List (AT X.ι)
 res:List (RT X.ι)
 fn:iW X args->Option (sP X res)
 gen:Option (dE X):=none
variable {X}
def dV:Nat->(l:List (AT X.ι))->iW X l->List AV
 |_,[],_=>[]
 |n,.d c::l,a=>(CT.tv X.toSE c a.1).av::dV n l a.2
 |n,.ref c::l,a=> .eK (CT.row X.toSE c a.1) 0::dV n l a.2
 |n,.el as r::l,a=>den (.el as r a.1:DV X)::dV n l a.2
 |n,.mut _::l,a=> .own n 0 (List.length a.1)::dV (n+1) l a.2
 |n,.kx _::l,a=> .ptr n 0 0::dV (n+1) l a.2
 |n,.nil::l,a=> .dp::dV n l a.2
abbrev yJ(l:List (AT X.ι))(a:iW X l):List AV:=dV 0 l a
def uV(c:CT X.ι)(l:List (CT.T X.toSE c)):dZ:=(CT.sz X c,l.map (CT.row X.toSE c))
def uW:(l:List (AT X.ι))->iW X l->List dZ
 |[],_=>[]
 | .mut c::l,a=>uV c a.1::uW l a.2
 | .kx c::l,a=>uV c [a.1]::uW l a.2
 | .d _::l,a=>uW l a.2
 | .ref _::l,a=>uW l a.2
 | .el _ _::l,a=>uW l a.2
 | .nil::l,a=>uW l a.2
def ff:(r:RT X.ι)->RT.T X r->List (Option dZ)
 | .mu c,x=>[some (uV c x)]
 | .mr c,x=>[some (uV c [x])]
 | .mv,_=>[none]
 |_,_=>[]
def oF:(l:List (RT X.ι))->sP X l->List (Option dZ)
 |[],_=>[]
 |[r],x=>ff r x
 |r::r'::l,x=>ff r x.1++oF (r'::l) x.2
def Zn:(r:RT X.ι)->RT.T X r->List Nat
 | .mu _,x=>[List.length x]
 | .mr _,_=>[1]
 | .mv,_=>[0]
 |_,_=>[]
def zp:(l:List (RT X.ι))->sP X l->List Nat
 |[],_=>[]
 |[r],x=>Zn r x
 |r::r'::l,x=>Zn r x.1++zp (r'::l) x.2
def Wq(ns:List Nat):(r:RT X.ι)->RT.T X r->List RC
 | .d c,x=>[.d (CT.tv X.toSE c x)]
 | .fresh e,l=>[.fresh (CT.sz X e) (l.map (CT.row X.toSE e))]
 | .whole j,_=>[.whole j (ns.getD j 0)]
 |_,_=>[]
def Bh(ns:List Nat):(l:List (RT X.ι))->sP X l->List RC
 |[],_=>[]
 |[r],x=>Wq ns r x
 |r::r'::l,x=>Wq ns r x.1++Bh ns (r'::l) x.2
def tq(l:List (RT X.ι))(x:sP X l):RV:=
 match Bh (zp l x) l x with
 |[c]=> .one c
 |cs=> .en cs
def tj(P:Program)(Γ:FuncId->Option (cm X)):Prop:=
 ∀f s,Γ f=some s->dU P f/\(∀ a r,s.fn a=some r->qu P f (yJ s.args a) (uW s.args a) (oF s.res r) (tq s.res r))/\∀g,s.gen=some g->MY P f g
theorem apU:∀{l:List (AT X.ι)},(l.all λq=>q.pl)=true->(l.all λq=>!q.im)=true:=λ{l} h=>by rw[all_eq_true]at h ⊢;intro q hq;have:=h q hq;cases q<;>simp_all [AT.pl,AT.im]
theorem HV:∀{l:List (AT X.ι)}{a:iW X l},(l.all λq=>!q.im)=true->uW l a=[]
 |[],_,_=>rfl
 | .d _::l,a,h | .ref _::l,a,h | .el _ _::l,a,h=>HV (l:=l) (by simpa[AT.im]using h)
 | .mut _::l,a,h | .kx _::l,a,h=>by simp[AT.im]at h
 | .nil::l,a,h=>HV (l:=l) (by simpa[AT.im]using h)
theorem ad4{r:RT X.ι}{x:RT.T X r}(h:(!r.out)=true):ff r x=[]:=by cases r<;>first |rfl |simp[RT.out]at h
theorem ad5:∀{l:List (RT X.ι)}{x:sP X l},(l.all λq=>!q.out)=true->oF l x=[]
 |[],_,_=>rfl
 |[r],x,h=>ad4 (by simpa using h)
 |r::r'::l,x,h=>by simp only[all_cons,aY]at h;simp[oF,ad4 h.1];exact ad5 (l:=r'::l) (by simp only[all_cons,aY];exact h.2)
mutual
def bm:DV X->List Nat
 | .own k _ _=>[k]
 | .ptr k _ _=>[k]
 | .rK k _ _=>[k]
 | .tW k _ _ _ _=>[k]
 | .mp k=>[k]
 | .oz k _=>[k]
 | .agg cs=>aO cs
 | .en cs=>aO cs
 | .fn _ first caps=>aO first++aO caps
 |_=>[]
def aO:List (DV X)->List Nat
 |[]=>[]
 |x::xs=>bm x++aO xs
end
theorem Ad(c:CT X.ι)(x:CT.T X.toSE c):refs (CT.tv X.toSE c x).av=[]:=by
 cases c<;>try rfl
 rename_i i;show dh ((X.row i x).map AV.t)=[];generalize X.row i x=l
 induction l with
 |nil=>rfl
 |cons y ys ih=>simp[dh,refs,ih]
mutual
theorem iQ:∀x:DV X,refs (den x)=bm x
 | .c t x=>Ad t x
 | .agg cs | .en cs=>by simp[den,refs,bm,iR cs]
 | .own _ _ _ | .ptr _ _ _ | .rK _ _ _ | .mp _ | .oz _ _ | .tW _ _ _ _ _ | .rp _ _ _ | .ye _ _ _ _ _=>rfl
 | .fn f first caps=>by simp[den,refs,bm,iR first,iR caps]
 | .el _ _ _=>rfl
 | .raw v=>by simp[den,cv];split;rfl;split<;>rfl
 | .nil | .ub | .skip | .undef=>rfl
theorem iR:∀l:List (DV X),dh (bG l)=aO l
 |[]=>rfl
 |x::xs=>by simp[bG,dh,aO,iQ x,iR xs]
end
def R9(get:Nat->Option (bp X))(d:DV X)(c:CT X.ι):Option (CT.T X.toSE c×List Bool):=
 match d,c with
 | .own kk aa len,.sl e=>(get kk).bind λo=>match o with
  | .ev b l=>(kU (.sl b) (.sl e) l).bind λ(l:List (CT.T X.toSE e))=>some (sub l aa len,[az (sub l aa len).length len])
  |_=>none
 | .own kk aa len,.any=>(get kk).bind λo=>match o with
  | .ev b l=>some (.sl (List.map (CT.row X.toSE b) (sub l aa len)),[az (sub l aa len).length len])
  |_=>none
 | .oz kk len,.sl e=>(get kk).bind λo=>match o with
  | .ev b l=>(kU (.sl b) (.sl e) l).bind λ(l:List (CT.T X.toSE e))=>some (sub l 0 len,[az (sub l 0 len).length len])
  |_=>none
 |d,c=>(Ll d c).bind λx=>some (x,[])
def Bj(get:Nat->Option (bp X)):List (DV X)->(l:List (CT X.ι))->Option (HL X.toSE l×List Bool)
 |[],[]=>some ((),[])
 |d::ds,c::l=>(R9 get d c).bind λx=>(Bj get ds l).bind λh=>some ((x.1,h.1),x.2++h.2)
 |_,_=>none
def HJ(get:Nat->Option (bp X))(d:DV X)(i:X.ι):Option (CT.T X.toSE (.st i)×List Bool):=
 match d with
 | .agg cs=>(Bj get cs (X.d8 i)).bind λh=>some (X.make i h.1,h.2)
 | .c a x=>(kU a (.st i) x).bind λx=>some (x,[])
 |_=>none
def FM(get:Nat->Option (bp X))(d:DV X)(c:CT X.ι):Option (CT.T X.toSE c×List Bool):=
 match c with
 | .st i=>HJ get d i
 |c=>R9 get d c
def alC(get:Nat->Option (bp X))(d:DV X)(c:CT X.ι):Option (CT.T X.toSE c):=
 match d with
 | .ptr kk row 0=>(get kk).bind λo=>match o with
  | .cells _ rows=>(rows[row]?).bind λq=>if q.all (λ x=>match x with | .c _ _=>true |_=>false)then Nc c q else none
  |_=>none
 | .rp a x 0=>kU a c x
 |_=>none
def zc:(l l':List (AT X.ι))->iW X l->iW X l'->iW X (l++l')
 |[],_,_,b=>b
 |_::l,l',a,b=>(a.1,zc l l' a.2 b)
def hlA:(as:List (CT X.ι))->HL X.toSE as->iW X (as.map AT.d)
 |[],_=>()
 |_::l,h=>(h.1,hlA l h.2)
def wH:List (AT X.ι)->Nat
 |[]=>0
 |q::l=>(if q.im then 1 else 0)+wH l
theorem tu:∀(n:Nat)(l l':List (AT X.ι))(a:iW X l)(b:iW X l'),dV n (l++l') (zc l l' a b)=dV n l a++dV (n+wH l) l' b
 |n,[],_,_,_=>rfl
 |n,.d c::l,l',a,b |n,.ref c::l,l',a,b |n,.el as r::l,l',a,b=>by simp[dV,zc,tu n l l' a.2 b,wH,AT.im]
 |n,.mut c::l,l',a,b |n,.kx c::l,l',a,b=>by simp[dV,zc,tu (n+1) l l' a.2 b,wH,AT.im,Nat.add_assoc]
 |n,.nil::l,l',a,b=>by simp[dV,zc,tu n l l' a.2 b,wH,AT.im]
theorem P9:∀(n:Nat)(as:List (CT X.ι))(h:HL X.toSE as),dV n (as.map AT.d) (hlA as h)=(HL.oa X.toSE as h).map TV.av
 |_,[],_=>rfl
 |n,c::l,h=>congrArg ((CT.tv X.toSE c h.1).av:: ·) (P9 n l h.2)
def aoP{a b:CT X.ι}(h:a=b)(o:Option (CT.T X.toSE a)):Option (CT.T X.toSE b):=h ▸ o
def rT(get:Nat->Option (bp X))(p6:FuncId->List (DV X)->List (DV X)->(as:List (CT X.ι))->(r:CT X.ι)->Option ((HL X.toSE as->Option (CT.T X.toSE r))×List Bool)):List (DV X)->(l:List (AT X.ι))->Option (iW X l×List Bool)
 |[],[]=>some ((),[])
 |d::ds,.d c::l=>(FM get d c).bind λx=>(rT get p6 ds l).bind λh=>some ((x.1,h.1),x.2++h.2)
 |d::ds,.ref c::l=>(alC get d c).bind λx=>(rT get p6 ds l).bind λh=>some ((x,h.1),h.2)
 |d::ds,.el as r::l=>(match d with
  | .el as' r' φ=>if h:as'=as/\r'=r then some (λ x=>aoP h.2 (φ (h.1 ▸ x)),[])else none
  | .fn f first caps=>p6 f first caps as r
  |_=>none).bind λφ=>(rT get p6 ds l).bind λq=>some ((φ.1,q.1),φ.2++q.2)
 |_,_=>none
def Sb(Γ:FuncId->Option (cm X))(get:Nat->Option (bp X)):Nat->List (DV X)->(l:List (AT X.ι))->Option (iW X l×List Bool)
 | 0,ds,l=>rT get (λ _ _ _ _ _=>none) ds l
 |n+1,ds,l=>rT get (λ f first caps as r=>(Γ f).bind λs=>match s with
   |⟨sa,[.d r'],fn,_⟩=>
    if h:r'=r/\sa=sa.take first.length++(as.map AT.d++sa.drop (first.length+as.length))/\first.length=0 then
     (Sb Γ get n first (sa.take first.length)).bind λhf=>(Sb Γ get n caps (sa.drop (first.length+as.length))).bind λhc=>
      some (λ x=>aoP h.1 (fn (h.2.1 ▸ zc _ _ hf.1 (zc _ _ (hlA as x) hc.1))),hf.2++hc.2)
    else none
   |_=>none) ds l
section
variable {P:Program} {Γ:FuncId->Option (cm X)} {get:Nat->Option (bp X)} {rd:List Nat}
theorem gP{a b:List Prop}(h:∀p∈a,p)(h':∀p∈b,p):∀p∈a++b,p:=by grind
theorem HY{d:DV X}{c:CT X.ι}{x:CT.T X.toSE c×List Bool}(h:R9 get d c=some x)(hc:∀b∈x.2,b=true)(hrd:∀j∈bm d,j∈rd):∃hs obs,(∀ p∈obs,p)/\∀ae,o9 P (dF rd (fB get)) (den d) (hs++ae)=some ((CT.tv X.toSE c x.1).av,ae,obs):=by
 have base:∀{d:DV X}{c:CT X.ι}{x:CT.T X.toSE c},Ll d c=some x->∃hs obs,(∀ p∈obs,p)/\∀ae,o9 P (dF rd (fB get)) (den d) (hs++ae)=some ((CT.tv X.toSE c x).av,ae,obs):=by
  intro d c x h;unfold Ll at h;split at h;rw[(oV h).1];refine⟨[],[],by simp,λae=>?_⟩;simp;cases c<;>try rfl
  rename_i j;show o9 P _ (.agg ((X.row j x).map AV.t)) ae=_;have:∀(l:List Tree)(hs:List LH),mU P (dF rd (fB get)) (l.map AV.t) hs=some (l.map AV.t,hs,[]):=by
   intro l
   induction l with
   |nil=>intro hs;rfl
   |cons y ys ih=>intro hs;simp[mU,o9,ih]
  simp[o9,this];rfl;cases h;exact⟨[.emp],[],by simp,λae=>rfl⟩;cases h;exact⟨[.emp],[],by simp,λae=>rfl⟩;cases h
 unfold R9 at h;split at h;rename_i kk aa len e;rw[ah]at h;obtain⟨o,h1,h⟩:=h;split at h;rename_i b l0;rw[ah]at h;obtain⟨l,h2,h⟩:=h;cases h;have h3:(sub l aa len).length=len:=by simpa[az]using hc (az (sub l aa len).length len) (by simp)
 have⟨h4,h5⟩:=ji h2;refine⟨[.rows ((sub l aa len).map (CT.row X.toSE e))],[(((bI (.ev b l0):aK).rows.drop aa).take len=aI ((sub l aa len).map (CT.row X.toSE e))/\((sub l aa len).map (CT.row X.toSE e)).length=len)],?_,λae=>?_⟩;intro p hp;simp only[bq]at hp;subst hp;refine⟨?_,by simpa using h3⟩;simp[bI,h5];simp[aI,sub];simp[den,o9,eD (hrd kk (by simp[bm])) h1];rfl;cases h;rename_i kk aa len;rw[ah]at h;obtain⟨o,h1,h⟩:=h;split at h;rename_i b l0;cases h;have h3:(sub l0 aa len).length=len:=by simpa[az]using hc (az (sub l0 aa len).length len) (by simp)
 refine⟨[.rows ((sub l0 aa len).map (CT.row X.toSE b))],[(((bI (.ev b l0):aK).rows.drop aa).take len=aI ((sub l0 aa len).map (CT.row X.toSE b))/\((sub l0 aa len).map (CT.row X.toSE b)).length=len)],?_,λae=>?_⟩;intro p hp;simp only[bq]at hp;subst hp;refine⟨?_,by simpa using h3⟩;simp[bI];simp[aI,sub];simp[den,o9,eD (hrd kk (by simp[bm])) h1];rfl;cases h;rename_i kk len e;rw[ah]at h;obtain⟨o,h1,h⟩:=h;split at h;rename_i b l0;have⟨l,h2,h⟩:=ah.1 h;cases h;have h3:(sub l 0 len).length=len:=by simpa[az]using hc (az (sub l 0 len).length len) (by simp)
 have⟨h4,h5⟩:=ji h2;refine⟨[.rows ((sub l 0 len).map (CT.row X.toSE e))],[(((bI (.ev b l0):aK).rows.drop 0).take len=aI ((sub l 0 len).map (CT.row X.toSE e))/\((sub l 0 len).map (CT.row X.toSE e)).length=len)],?_,λae=>?_⟩;intro p hp;simp only[bq]at hp;subst hp;refine⟨?_,by simpa using h3⟩;simp[bI,h5];simp[aI,sub];simp[den,o9,eD (hrd kk (by simp[bm])) h1];rfl;cases h;have⟨y,h1,h⟩:=ah.1 h;cases h;exact base h1
theorem Ni:∀{ds:List (DV X)}{l:List (CT X.ι)}{h:HL X.toSE l×List Bool},Bj get ds l=some h->(∀ b∈h.2,b=true)->l.all CT.one=true->(∀ j∈aO ds,j∈rd)->
 ∃hs obs,(∀ p∈obs,p)/\∀ae,mU P (dF rd (fB get)) (bG ds) (hs++ae)=some ((HL.row X.toSE l h.1).map AV.t,ae,obs)
 |[],[],h,_,_,_,_=>⟨[],[],by simp,λae=>rfl⟩
 |d::ds,c::l,h,hr,hc,ha,hrd=>by simp[Bj]at hr;have⟨x,h1,hr⟩:=ah.1 hr;have⟨g,h2,hr⟩:=ah.1 hr;cases hr;simp only[all_cons,aY]at ha;obtain⟨hs1,o1,p1,q1⟩:=HY (P:=P) (rd:=rd) h1 (λ b hb=>hc b (by simp[hb])) (λ j hj=>hrd j (by simp[aO,hj]));obtain⟨hs2,o2,p2,q2⟩:=Ni h2 (λ b hb=>hc b (by simp[hb])) ha.2 (λ j hj=>hrd j (by simp[aO,hj]));refine⟨hs1++hs2,o1++o2,gP p1 p2,λae=>?_⟩;simp only[bG,mU,aQ,q1,ai,q2];show _=some ((CT.row X.toSE c x.1++HL.row X.toSE l g.1).map AV.t,ae,o1++o2);rw[List.map_append,<- Tl ha.1 x.1];rfl
 |[],_::_,_,hr,_,_,_ |_::_,[],_,hr,_,_,_=>by simp[Bj]at hr
theorem Ae{d:DV X}{c:CT X.ι}{x:CT.T X.toSE c×List Bool}(h:FM get d c=some x)(hc:∀b∈x.2,b=true)(hrd:∀j∈bm d,j∈rd):∃hs obs,(∀ p∈obs,p)/\∀ae,o9 P (dF rd (fB get)) (den d) (hs++ae)=some ((CT.tv X.toSE c x.1).av,ae,obs):=by
 cases c
 case st i=>
  replace h:HJ get d i=some x:=h
  cases d
  case agg cs=>
   simp[HJ]at h;rw[ah]at h;obtain⟨g,h1,h⟩:=h;cases h;obtain⟨hs,obs,p1,q1⟩:=Ni (P:=P) (rd:=rd) h1 hc (X.flat i) (λ j hj=>hrd j (by simpa[bm]using hj));refine⟨hs,obs,p1,λae=>?_⟩;simp[den,o9,q1,CT.tv,TV.av];rw[X.gE]
  case c a y=>exact HY (c:= .st i) (x:=x) (by unfold R9;exact h) hc hrd
  all_goals cases h
 all_goals exact HY h hc hrd
theorem ad6{d:DV X}{c:CT X.ι}{x:CT.T X.toSE c}(h:alC get d c=some x)(hrd:∀j∈bm d,j∈rd):∃hs obs,(∀ p∈obs,p)/\∀ae,o9 P (dF rd (fB get)) (den d) (hs++ae)=some (.eK (CT.row X.toSE c x) 0,ae,obs):=by
 unfold alC at h;split at h;rename_i kk row;rw[ah]at h;obtain⟨o,h1,h⟩:=h;split at h;rename_i sz rows;rw[ah]at h;obtain⟨q,h2,h⟩:=h;split at h;rename_i hq;refine⟨[.row (CT.row X.toSE c x)],[(bI (.cells sz rows):aK).rows[row]? =some ((CT.row X.toSE c x).map AV.t)],?_,λae=>?_⟩;intro p hp;simp only[bq]at hp;subst hp;simp only[bI,List.getElem?_map,h2,Option.map_some];rw[<- yh h,oD,map_map];congr 1;refine map_congr_left λy hy=>?_;have:=all_eq_true.1 hq y hy;cases y<;>first |exact(aoO _).symm |simp at this
 simp[den,o9,eD (hrd kk (by simp[bm])) h1];cases h;cases h;rename_i a y;refine⟨[],[],by simp,λae=>?_⟩;simp[den,(oV h).2];rfl;cases h
theorem agV{n:Nat}{l l':List (AT X.ι)}(e:l=l')(b:iW X l):dV n l' (e ▸ b)=dV n l b:=by subst e;rfl
theorem JG{p6:FuncId->List (DV X)->List (DV X)->(as:List (CT X.ι))->(r:CT X.ι)->Option ((HL X.toSE as->Option (CT.T X.toSE r))×List Bool)}:∀{ds:List (DV X)}{l:List (AT X.ι)}{a:iW X l×List Bool},rT get p6 ds l=some a->(l.all λq=>!q.im)=true
 |[],[],_,_=>rfl
 |d::ds,.d c::l,a,h=>by simp[rT]at h;have⟨x,h1,h⟩:=ah.1 h;have⟨q,h2,h⟩:=ah.1 h;simpa[AT.im]using JG h2
 |d::ds,.ref c::l,a,h=>by simp[rT]at h;have⟨x,h1,h⟩:=ah.1 h;have⟨q,h2,h⟩:=ah.1 h;simpa[AT.im]using JG h2
 |d::ds,.el as r::l,a,h=>by simp[rT]at h;have⟨x,h1,h⟩:=ah.1 h;have⟨q,h2,h⟩:=ah.1 h;simpa[AT.im]using JG h2
 |_::_,.mut _::_,_,h |_::_,.kx _::_,_,h |_::_,.nil::_,_,h |[],_::_,_,h |_::_,[],_,h=>by simp[rT]at h
theorem ad7:∀{n:Nat}{ds:List (DV X)}{l:List (AT X.ι)}{a:iW X l×List Bool},Sb Γ get n ds l=some a->(l.all λq=>!q.im)=true
 | 0,_,_,_,h |_+1,_,_,_,h=>JG h
theorem ach:∀as:List (CT X.ι),((as.map AT.d).all λq=>!q.im)=true
 |[]=>rfl
 |_::l=>ach l
def apV(P:Program)(get:Nat->Option (bp X))(p6:FuncId->List (DV X)->List (DV X)->(as:List (CT X.ι))->(r:CT X.ι)->Option ((HL X.toSE as->Option (CT.T X.toSE r))×List Bool)):Prop:=
 ∀f first caps as r φ rd,p6 f first caps as r=some φ->(∀ b∈φ.2,b=true)->(∀ j∈aO first++aO caps,j∈rd)->∃hs obs,(∀ p∈obs,p)/\∀ae,o9 P (dF rd (fB get)) (.fn f (bG first) (bG caps)) (hs++ae)=some (den (.el as r φ.1:DV X),ae,obs)
theorem tC{n:Nat}{p6:FuncId->List (DV X)->List (DV X)->(as:List (CT X.ι))->(r:CT X.ι)->Option ((HL X.toSE as->Option (CT.T X.toSE r))×List Bool)}(vd:apV P get p6):∀{ds:List (DV X)}{l:List (AT X.ι)}{a:iW X l×List Bool},rT get p6 ds l=some a->(∀ b∈a.2,b=true)->(∀ j∈aO ds,j∈rd)->
 ∃hs obs,(∀ p∈obs,p)/\∀ae,mU P (dF rd (fB get)) (bG ds) (hs++ae)=some (dV n l a.1,ae,obs)
 |[],[],_,_,_,_=>⟨[],[],by simp,λae=>rfl⟩
 |d::ds,.d c::l,a,h,hc,hrd=>by simp[rT]at h;have⟨x,h1,h⟩:=ah.1 h;have⟨q,h2,h⟩:=ah.1 h;cases h;obtain⟨hs1,o1,p1,q1⟩:=Ae (P:=P) (rd:=rd) h1 (λ b hb=>hc b (by simp[hb])) (λ j hj=>hrd j (by simp[aO,hj]));obtain⟨hs2,o2,p2,q2⟩:=tC (n:=n) vd h2 (λ b hb=>hc b (by simp[hb])) (λ j hj=>hrd j (by simp[aO,hj]));refine⟨hs1++hs2,o1++o2,gP p1 p2,λae=>?_⟩;simp[bG,mU,q1,q2,dV]
 |d::ds,.ref c::l,a,h,hc,hrd=>by simp[rT]at h;rw[ah]at h;obtain⟨x,h1,h⟩:=h;rw[ah]at h;obtain⟨q,h2,h⟩:=h;cases h;obtain⟨hs1,o1,p1,q1⟩:=ad6 (P:=P) (rd:=rd) h1 (λ j hj=>hrd j (by simp[aO,hj]));obtain⟨hs2,o2,p2,q2⟩:=tC (n:=n) vd h2 hc (λ j hj=>hrd j (by simp[aO,hj]));refine⟨hs1++hs2,o1++o2,gP p1 p2,λae=>?_⟩;simp[bG,mU,q1,q2,dV]
 |d::ds,.el as r::l,a,h,hc,hrd=>by
  simp[rT]at h;rw[ah]at h;obtain⟨φ,h1,h⟩:=h;rw[ah]at h;obtain⟨q,h2,h⟩:=h;cases h;have hd:∃hs obs,(∀ p∈obs,p)/\∀ae,o9 P (dF rd (fB get)) (den d) (hs++ae)=some (den (.el as r φ.1:DV X),ae,obs):=by
   cases d
   case el as' r' ψ=>
    simp only at h1;split at h1;rename_i e;obtain⟨rfl,rfl⟩:=e;cases h1;exact⟨[],[],by simp,λae=>rfl⟩;cases h1
   case fn f first caps=>
    obtain⟨hs,obs,g1,g2⟩:=vd f first caps as r φ rd h1 (λ b hb=>hc b (by simp[hb])) (λ j hj=>hrd j (by simp only[aO,bm,bM]at hj ⊢;exact .inl hj))
    exact⟨hs,obs,g1,λae=>by simp[den];exact g2 ae⟩
   all_goals simp at h1
  obtain⟨hs1,o1,p1,q1⟩:=hd;obtain⟨hs2,o2,p2,q2⟩:=tC (n:=n) vd h2 (λ b hb=>hc b (by simp[hb])) (λ j hj=>hrd j (by simp[aO,hj]));refine⟨hs1++hs2,o1++o2,gP p1 p2,λae=>?_⟩;simp[bG,mU,q1,q2,dV]
 |_::_,.mut _::_,_,h,_,_ |_::_,.kx _::_,_,h,_,_ |_::_,.nil::_,_,h,_,_ |[],_::_,_,h,_,_ |_::_,[],_,h,_,_=>by simp[rT]at h
theorem agW{n:Nat}:∀{l:List (AT X.ι)}(a:iW X l),l=[]->dV n l a=[]
 |_,_,rfl=>rfl
theorem sw(hΓ:tj P Γ):∀(m:Nat){n:Nat}{ds:List (DV X)}{l:List (AT X.ι)}{a:iW X l×List Bool}{rd:List Nat},Sb Γ get m ds l=some a->(∀ b∈a.2,b=true)->(∀ j∈aO ds,j∈rd)->
 ∃hs obs,(∀ p∈obs,p)/\∀ae,mU P (dF rd (fB get)) (bG ds) (hs++ae)=some (dV n l a.1,ae,obs)
 | 0,n,ds,l,a,rd,h,hcs,hrd=>tC (λ _ _ _ _ _ _ _ h=>by cases h) h hcs hrd
 |m+1,n,ds,l,a,rd,h,hcs,hrd=>by
  refine tC (λ f first caps as r φ rd' hc hb IP=>?_) h hcs hrd;rw[ah]at hc;obtain⟨s,h1,hc⟩:=hc;split at hc;rename_i sa r' fn _;split at hc;rename_i e;obtain⟨rfl,e2,e3⟩:=e;have⟨hf,h2,hc⟩:=ah.1 hc;have⟨hcap,h3,hc⟩:=ah.1 hc;injection hc with hc;rw[<- hc]at hb;obtain⟨g1,g2,_⟩:=hΓ f _ h1;obtain⟨hs1,o1,p1,q1⟩:=sw hΓ m h2 (n:=0) (rd:=rd') (λ b hb'=>hb b (by simp[hb'])) (λ j hj=>IP j (by simp[hj]));obtain⟨hs2,o2,p2,q2⟩:=sw hΓ m h3 (n:=0+wH (sa.take first.length)+wH (as.map AT.d)) (rd:=rd') (λ b hb'=>hb b (by simp[hb'])) (λ j hj=>IP j (by simp[hj]));refine⟨.el (λ ts u=>∃h x,φ.1 h=some x/\ts=HL.oa X.toSE as h/\u=CT.tv X.toSE r' x)::(hs1++hs2),o1++(o2++[dV 0 _ hf.1=[]/\dU P f/\∀args r,(∃ h x,φ.1 h=some x/\args=HL.oa X.toSE as h/\r=CT.tv X.toSE r' x)->rx P f (dV 0 _ hf.1++args.map TV.av++dV (0+wH (sa.take first.length)+wH (as.map AT.d)) _ hcap.1) (.one (.d r))]),?_,λae=>?_⟩;intro p hp;simp only[bM,bq]at hp;rcases hp with hp |hp |hp;exact p1 p hp;exact p2 p hp;subst hp;refine⟨agW _ (by rw[e3];rfl),g1,?_⟩;rintro args r ⟨x,y,hxy,rfl,rfl⟩;rw[<- hc]at hxy;have hxy':fn (e2 ▸ zc _ _ hf.1 (zc _ _ (hlA as x) hcap.1))=some y:=hxy;have:=g2 _ _ hxy';have hnm:(sa.all λq=>!q.im)=true:=by rw[e2,List.all_append,List.all_append,ad7 h2,ad7 h3,ach];rfl
  rw[HV hnm,yJ,agV e2.symm,tu,tu,P9,<- aQ]at this;exact oC this;simp[o9,q1,q2];rfl;cases hc;cases hc
end
end
def Sc(s:ByteArray)(n:Int):Option Int:=bif decide (0<=n)then(s[n.toNat]?).map λb=>(b.toNat:Int)else none
def sQ(m:Int)(bytes:Nat):Bool:=decide (0<=m)&&decide (m.toNat*bytes<=140737488355328)&&decide (m.toNat<=maxLen)
def gD{K V:Type}(eq:K->K->Bool)(k:K):List (K×V)->Option V
 |[]=>none
 |p::r=>bif eq k p.1 then some p.2 else gD eq k r
def FV{K V:Type}(eq:K->K->Bool)(k:K)(v:V):List (K×V)->List (K×V)
 |[]=>[(k,v)]
 |p::r=>bif eq k p.1 then(k,v)::r else p::FV eq k v r
def iEq(a b:Int):Bool:=a==b
def eb(a b:ByteArray):Bool:=a.toList==b.toList
def bEq(a b:Bool):Bool:=a==b
section
variable {X:SX} {A:Type}
def Nj:(c:CT X.ι)->Option (CT.T X.toSE c->CT.T X.toSE c->Bool)
 | .int _=>some iEq
 | .str=>some eb
 | .bool=>some bEq
 |_=>none
def Ge{ι:Type}:BE->CT ι->Bool
 | .int a,.int b=>decide (a=b)
 | .str,.str=>true
 | .bool,.bool=>true
 |_,_=>false
def apW{ι:Type}:CT ι->Bool
 | .st _=>true
 |_=>false
theorem iC(a b:List (DV X)):bG (a++b)=bG a++bG b:=by simp[oD]
theorem sD(a b:List (Nat×Option (bp X))):iO (a++b)=iO a++iO b:=by simp[iO]
def Nk(ab:List Nat):List (Nat×Option (bp X)):=ab.map λj=>(j,none)
theorem CF(ab:List Nat):iO (Nk (X:=X) ab)=ab.map λk=>(k,none):=by simp[iO,Nk]
theorem JH{ab:List Nat}{p:Nat×Option (bp X)}(h:p∈Nk ab):p.1∈ab:=by simp[Nk]at h;obtain⟨j,hj,rfl⟩:=h;exact hj
variable (T:ez) (code:TypeId->Option (CT X.ι))
def agY:DV X->Bool
 | .nil=>true
 |_=>false
def HA(op:BinOp)(b:DV X)(yes:Bool)(k:KK X A):Option A:=
 match op with
 | .eql=>bif yes then k b [] [] []else k (.c .bool false) [] [] []
 | .neq=>bif yes then k b [] [] []else k (.c .bool true) [] [] []
 |_=>none
def apc(op:BinOp)(t:TypeId)(x:DV X)(k:KK X A):Option A:=
 (T t).bind λti=>match ti.k,x with
 | .slice _,.c (.sl _) l=>HA op .ub (List.isEmpty l) k
 | .slice _,.own _ _ len=>HA op .ub (len==0) k
 | .slice _,.oz _ len=>HA op (.c .bool (op== .eql)) (len==0) k
 | .slice _,.nil=>HA op (.c .bool (op== .eql)) true k
 |_,_=>none
def aoQ(s d:TypeId)(x:DV X)(k:KK X A):Option A:=
 (T s).bind λ_=>(T d).bind λdi=>match di.k,x with
 | .int kd,.c (.int _) n=>k (.c (.int kd) (kd.wrap (iN n))) [] [] []
 |_,_=>none
def alD(t:TypeId)(x j:DV X)(k:KK X A):Option A:=
 (T t).bind λti=>match ti.k,x,j with
 | .str,.c .str s,.c (.int _) n=>(Sc s n).bind λb=>k (.c (.int .u8) b) [] [] []
 | .arr m e,.agg cs,.c (.int _) q=>(T e).bind λei=>bif cN q m then(Hu ei.agg ei.size ((cs.drop (q.toNat*ei.size)).take ei.size)).bind λv=>k v [] [] []else none
 |_,_,_=>none
def aaP(t:TypeId)(x:DV X)(lo hi:Option (DV X))(k:KK X A):Option A:=
 (T t).bind λti=>match ti.k,x with
 | .slice e,.nil=>(T e).bind λ_=>(A6 0 lo).bind λl=>(A6 0 hi).bind λh=>bif decide (l=0)&&decide (h=0)then k .nil [] [] []else none
 |_,_=>none
def Qa(i:Nat)(b:Builtin)(args:List (DV X))(d8:List TypeId)(get:Nat->Option (bp X))(k:KK X A):Option A:=
 match b,args,d8 with
 | .cap,[.nil],[t]=>(T t).bind λti=>match ti.k with
  | .slice _=>k (.c (.int .i64) (0:Int)) [] [] []
  |_=>none
 | .clear,[.own kk aa _],[t]=>(T t).bind λti=>match ti.k with
  | .slice e=>(T e).bind λei=>(get kk).bind λo=>match o with
   | .ev c l=>if CT.sz X c=ei.size then k (.en []) [(kk,some (.ev c (l.take aa)))] [kk] [kk]else none
   |_=>none
  |_=>none
 | .append,[.nil,.c (.int _) m],[t,u]=>(T t).bind λti=>(T u).bind λui=>match ti.k,ui.k with
  | .slice e,.int _=>(T e).bind λei=>(code e).bind λc=>if CT.sz X c=ei.size/\0<ei.size then(Nc c (ei.zero.map xf)).bind λz=>
   bif sQ (iN m) ei.bytes then k (.own (cx i) 0 m.toNat) [(cx i,some (.ev c (List.replicate m.toNat z)))] [] []else none else none
  |_,_=>none
 |_,_,_=>none
def Qb(x:DV X)(k:KK X A):Option A:=
 match x with
 | .ptr kk r f=>k (.ptr kk r f) [] [] []
 | .rK kk n f=>k (.rK kk n f) [] [] []
 | .tW kk r f m n=>k (.tW kk r f m n) [] [] []
 | .rp c y f=>k (.rp c y f) [] [] []
 |_=>none
def alE(i:Nat)(t:TypeId)(l c:DV X)(k:KK X A):Option A:=
 (T t).bind λti=>match ti.k,l,c with
 | .slice e,.c (.int _) n,.c (.int _) m=>(T e).bind λei=>(code e).bind λc=>if CT.sz X c=ei.size/\0<ei.size then(Nc c (ei.zero.map xf)).bind λz=>
  bif decide (iN n<=iN m)&&(decide (0<=iN n)&&sQ (iN m) ei.bytes)then k (.own (cx i) 0 n.toNat) [(cx i,some (.ev c (List.replicate n.toNat z)))] [] []else none else none
 |_,_,_=>none
def Ws(i:Nat)(t:TypeId)(k:KK X A):Option A:=
 (T t).bind λti=>match ti.k with
 | .map kt et=>(code kt).bind λkc=>(code et).bind λvc=>k (.mp (cx i)) [(cx i,some (.map kc vc []))] [] []
 |_=>none
def aci(t:TypeId)(x key:DV X)(ok:Bool)(get:Nat->Option (bp X))(k:KK X A):Option A:=
 (T t).bind λti=>match ti.k,x with
 | .map kt et,.mp kk=>(T kt).bind λki=>(T et).bind λei=>(get kk).bind λo=>match o with
  | .map kc vc l=>(Nj kc).bind λeq=>(Ll key kc).bind λkv=>if Ge ki.k kc=true/\ei.agg=apW vc/\ei.size=CT.sz X vc then(Nc vc (ei.zero.map xf)).bind λz=>
   bif ok then k (.en [.c vc ((gD eq kv l).getD z),.c .bool (gD eq kv l).isSome]) [] [kk] []else k (.c vc ((gD eq kv l).getD z)) [] [kk] []else none
  |_=>none
 |_,_=>none
def acj(t:TypeId)(x key y:DV X)(get:Nat->Option (bp X))(k:KK X A):Option A:=
 (T t).bind λti=>match ti.k,x with
 | .map kt _,.mp kk=>(T kt).bind λki=>(get kk).bind λo=>match o with
  | .map kc vc l=>(Nj kc).bind λeq=>(Ll key kc).bind λkv=>(dat y vc).bind λv=>if Ge ki.k kc=true then k .undef [(kk,some (.map kc vc (FV eq kv v l)))] [kk] [kk]else none
  |_=>none
 |_,_=>none
def apX(o:Op)(ρ:Operand->DV X):Bool:=
 match o with
 | .binOp _ _ _ y _=>agY (ρ y)
 | .convert _ _ _=>true
 | .index _ _ _=>true
 | .nilCheck _=>true
 | .makeSlice _ _ _=>true
 | .makeMap _ none=>true
 | .lookup _ _ _ _=>true
 | .mapUpdate _ _ _ _=>true
 | .slice _ x _ _ none=>agY (ρ x)
 | .call { callee:= .builtin b,args:=args,argTypes:=_ }=>match b,args.toList.map ρ with
  | .cap,_=>true
  | .clear,_=>true
  | .append,[_,.c (.int _) _]=>true
  |_,_=>false
 |_=>false
def apd(i:Nat)(o:Op)(ρ:Operand->DV X)(get:Nat->Option (bp X))(k:KK X A):Option A:=
 match o with
 | .binOp op t x y _=>if agY (ρ y)then apc T op t (ρ x) k else none
 | .convert s d x=>aoQ T s d (ρ x) k
 | .index t x j=>alD T t (ρ x) (ρ j) k
 | .slice t x lo hi none=>aaP T t (ρ x) (lo.map ρ) (hi.map ρ) k
 | .nilCheck x=>Qb (ρ x) k
 | .makeSlice t l c=>alE T code i t (ρ l) (ρ c) k
 | .makeMap t none=>Ws T code i t k
 | .lookup t m x ok=>aci T t (ρ m) (ρ x) ok get k
 | .mapUpdate t m x v=>acj T t (ρ m) (ρ x) (ρ v) get k
 | .call { callee:= .builtin b,args:=args,argTypes:=d8 }=>Qa T code i b (args.toList.map ρ) d8.toList get k
 |_=>none
def MT(get:Nat->Option (bp X))(c:CT X.ι)(ρ:Operand->DV X)(x:Operand):DV X:=
 match FM get (ρ x) c with
 |some y=> .c c y.1
 |none=>ρ x
def QQ(get:Nat->Option (bp X))(c:CT X.ι)(ρ:Operand->DV X):List Operand->List Bool
 |[]=>[]
 |x::xs=>(match FM get (ρ x) c with |some y=>y.2 |none=>[])++QQ get c ρ xs
def BC(get:Nat->Option (bp X))(c:CT X.ι)(ρ:Operand->DV X):List Operand->List Nat
 |[]=>[]
 |x::xs=>(match FM get (ρ x) c with |some _=>bm (ρ x) |none=>[])++BC get c ρ xs
def anL(o:Op)(ρ:Operand->DV X)(get:Nat->Option (bp X)):Option (CT X.ι):=
 match o with
 | .box t _=>code t
 | .assign x | .move x=>match ρ x with
  | .own kk _ _=>(get kk).bind λo=>match o with
   | .ev c _=>some (.sl c)
   |_=>none
  |_=>none
 | .buildSlice t _ _=>(T t).bind λti=>match ti.k with
  | .slice e=>code e
  |_=>none
 | .store t _ _=>code t
 |_=>none
def apY(o:Op)(ρ:Operand->DV X):Bool:=
 match o with
 | .buildSlice _ _ parts=>!(aO (parts.toList.map λp=>ρ p.2)).isEmpty
 | .store _ a x=>match ρ a with
  | .rK _ _ _=>!(bm (ρ x)).isEmpty
  |_=>false
 |_=>false
def ape(i:Nat)(o:Op)(ρ:Operand->DV X)(get:Nat->Option (bp X))(k:KK X A):Option A:=
 if agB o then none else(anL T code o ρ get).bind λc=>V5 (QQ get c ρ o.operands.toList)
  (ON T code i o (MT get c ρ) (λ j=>if j∈BC get c ρ o.operands.toList then none else get j) λdv upd rd wr=>
   k dv (upd++Nk (BC get c ρ o.operands.toList)) (rd++BC get c ρ o.operands.toList) (wr++BC get c ρ o.operands.toList))
def apZ(o:Op)(ρ:Operand->DV X):Bool:=
 match o with
 | .indexAddr t x (.tmp _)=>match ρ x,T t with
  | .ptr _ _ _,some ti | .rp _ _ _,some ti=>match ti.k with
   | .arr _ e=>match T e with
    |some ei=>ei.size==1
    |none=>false
   |_=>false
  |_,_=>false
 | .load _ a=>match ρ a with
  | .tW _ _ _ _ _ | .ye _ _ _ _ _=>true
  |_=>false
 |_=>false
def F1(c:CT X.ι):List (DV X)->Option (List (CT.T X.toSE c))
 |[]=>some []
 | .c a x::r=>(kU a c x).bind λy=>(F1 c r).bind λl=>some (y::l)
 |_=>none
def apf(o:Op)(ρ:Operand->DV X)(get:Nat->Option (bp X))(k:KK X A):Option A:=
 match o with
 | .indexAddr t x j=>(T t).bind λti=>match ti.k,ρ x,ρ j with
  | .arr m e,.ptr kk row aa,.c (.int _) n=>(T e).bind λei=>if ei.size=1 then bif cN n m then k (.tW kk row aa m n) [] [] []else none else none
  | .arr m e,.rp c y aa,.c (.int _) n=>(T e).bind λei=>if ei.size=1 then bif cN n m then k (.ye c y aa m n) [] [] []else none else none
  |_,_,_=>none
 | .load t a=>(T t).bind λti=>match ρ a with
  | .tW kk row aa m n=>if ti.size=1/\ti.agg=false then(code t).bind λc=>if c.one=true then(get kk).bind λo=>match o with
   | .cells _ rows=>(rows[row]?).bind λq=>(F1 c ((q.drop aa).take m)).bind λ(xs:List (CT.T X.toSE c))=>(bj xs n).bind λy=>k (.c c y) [] [kk] []
   | .ev _ _=>none
   |_=>none
   else none else none
  | .ye b y aa m n=>if ti.size=1/\ti.agg=false then(code t).bind λc=>if c.one=true then(F1 c (((vB b y).drop aa).take m)).bind λ(xs:List (CT.T X.toSE c))=>(bj xs n).bind λy=>k (.c c y) [] [] []
   else none else none
  |_=>none
 |_=>none
variable {T code}
def ep(P:Program)(T:ez)(i:Nat)(o:Oper)(ρ:Operand->DV X)(get:Nat->Option (bp X))(k:KK X A)(r:A):Prop:=
 ∃cJ rd wr dv upd out,jN P T i o cJ (λ x=>den (ρ x)) (dF rd (fB get))=some out/\iM out.obs/\out.v=den dv/\out.upd=iO upd/\(∀ p∈upd,p.1=cx i\/p.1∈wr)/\k dv upd rd wr=some r
section
variable {P:Program} {get:Nat->Option (bp X)} {k:KK X A} {r:A} {i:Nat} {o:Oper} {ρ:Operand->DV X}
theorem alG{t:TypeId}{x:AV}{cJ:j8}(h:(∃ n,cJ= .ext n)\/∃ab fr q,cJ= .yy ab fr q):A5 T t x .none=A5 T t x cJ:=by grind [A5]
theorem Wt{t:TypeId}{x j:AV}{cJ:j8}{get:Nat->Option aK}(h:(∃ n,cJ= .ext n)\/∃ab fr q,cJ= .yy ab fr q):mG T t x j .none get=mG T t x j cJ get:=by
 unfold mG;rcases T t with _ |ti;rfl;simp;generalize ti.k=kk;cases kk<;>try rfl
 case arr m e=>
  cases j<;>try rfl
  rename_i y;cases y<;>try rfl
  rename_i y;cases y<;>rfl
 cases j<;>try rfl
 rename_i e y;cases y<;>try rfl
 rename_i y;cases y<;>try rfl
 simp;rcases T e with _ |ei;rfl;rcases h with ⟨n,rfl⟩ |⟨ab,fr,q,rfl⟩<;>cases x<;>try rfl
 all_goals (rename_i z;cases z<;>rfl)
theorem ad9{t:TypeId}{x y:AV}{cJ:j8}{get:Nat->Option aK}(h:(∃ n,cJ= .ext n)\/∃ab fr q,cJ= .yy ab fr q):zY T i t x y .none get=zY T i t x y cJ get:=by grind [zY]
theorem ajL{cJ:j8}{ρ:Operand->AV}{get:Nat->Option aK}(h:(∃ n,cJ= .ext n)\/∃ab fr q,cJ= .yy ab fr q):qG T i o .none ρ get=qG T i o cJ ρ get:=by
 obtain⟨dst,op,ty,am,after,guard⟩:=o;cases op
 case call c=>
  obtain⟨callee,args,d8⟩:=c;cases callee<;>try rfl
  simp[qG,Cv];split;exact alG h;rfl;rfl;rw[ad9 h];rfl
 case slice t x lo hi mx=>cases mx<;>rcases h with ⟨n,rfl⟩ |⟨ab,fr,q,rfl⟩<;>rfl
 case makeFunc fn a b=>cases fn<;>rfl
 case indexAddr t x j=>exact Wt h
 all_goals (rcases h with ⟨n,rfl⟩ |⟨ab,fr,q,rfl⟩<;>rfl)
theorem ep.ext{n:Int}{rd wr:List Nat}{dv:DV X}{upd:List (Nat×Option (bp X))}{out:Out}(h:sV T i o n (λ x=>den (ρ x)) (dF rd (fB get))=some out)(h1:iM out.obs)(h2:out.v=den dv)(h3:out.upd=iO upd)(h4:∀p∈upd,p.1=cx i\/p.1∈wr)(h5:k dv upd rd wr=some r)(hx:Mz o.op=false:=by rfl):ep P T i o ρ get k r:=
 ⟨.ext n,rd,wr,dv,upd,out,by show sW T i o n _ _=some out;unfold sW;rw[hx];simp[h],h1,h2,h3,h4,h5⟩
theorem ep.xe{n:Int}{rd wr:List Nat}{dv:DV X}{upd:List (Nat×Option (bp X))}{out:Out}(h:Ea T i o n (λ x=>den (ρ x)) (dF rd (fB get))=some out)(h1:iM out.obs)(h2:out.v=den dv)(h3:out.upd=iO upd)(h4:∀p∈upd,p.1=cx i\/p.1∈wr)(h5:k dv upd rd wr=some r)(hx:Mz o.op=true:=by rfl):ep P T i o ρ get k r:=
 ⟨.ext n,rd,wr,dv,upd,out,by show sW T i o n _ _=some out;unfold sW;rw[hx];simp[h],h1,h2,h3,h4,h5⟩
theorem Ti{x:DV X}(h:Qb x k=some r):∃dv,PN (den x)=some ⟨den dv,[],[]⟩/\k dv [] [] []=some r:=by cases x<;>simp[Qb]at h<;>first |cases h |exact⟨_,rfl,h⟩
theorem aaQ{cJ:j8}{ρ:Operand->AV}{get:Nat->Option aK}(hne:∀f args d8,o.op≠ .call { callee:= .value f,args:=args,argTypes:=d8 })(ho:∀n,cJ≠ .ext n)(hf:∀ab fr q,cJ≠ .yy ab fr q):jN P T i o cJ ρ get=qG T i o cJ ρ get:=by
 have e:∀(α:Type) (a:Operand->Array Operand->Array TypeId->α) (b:α),(match o.op with | .call { callee:= .value f,args:=args,argTypes:=d8 }=>a f args d8 |_=>b)=b:=by grind
 cases cJ<;>first |exact(ho _ rfl).elim |exact(hf _ _ _ rfl).elim |exact e _ _ _
theorem ep.op{cJ:j8}{rd wr:List Nat}{dv:DV X}{upd:List (Nat×Option (bp X))}{out:Out}(hne:∀f args d8,o.op≠ .call { callee:= .value f,args:=args,argTypes:=d8 })
 (h:qG T i o cJ (λ x=>den (ρ x)) (dF rd (fB get))=some out) (h1:iM out.obs/\out.v=den dv/\out.upd=iO upd/\(∀ p∈upd,p.1=cx i\/p.1∈wr)/\k dv upd rd wr=some r):ep P T i o ρ get k r:=by
 obtain⟨wg,h'⟩:∃wg,jN P T i o wg (λ x=>den (ρ x)) (dF rd (fB get))=some out:=by by_cases hx:(∃ n,cJ= .ext n)\/∃ab fr q,cJ= .yy ab fr q;refine⟨.none,?_⟩;rw[aaQ hne (by simp) (by simp),ajL hx,h];simp at hx;exact⟨cJ,by rw[aaQ hne hx.1 (λ ab fr q=>hx.2 ab fr q),h]⟩
 exact⟨wg,rd,wr,dv,upd,out,h',h1⟩
theorem ep.call{dst:Option Tmp}{f:Operand}{args:Array Operand}{d8:Array TypeId}{ty:TypeId}{am:String}{after:Array Edge}{guard:Option (Nat×Bool)}{cJ:j8}{rd wr:List Nat}{dv:DV X}{upd:List (Nat×Option (bp X))}{out:Out}
 (h:lH P i (den (ρ f)) (args.toList.map λx=>den (ρ x)) cJ (dF rd (fB get))=some out) (h1:iM out.obs/\out.v=den dv/\out.upd=iO upd/\(∀ p∈upd,p.1=cx i\/p.1∈wr)/\k dv upd rd wr=some r):
 ep P T i ⟨dst,.call { callee:= .value f,args:=args,argTypes:=d8 },ty,am,after,guard⟩ ρ get k r:=by
 refine⟨cJ,rd,wr,dv,upd,out,?_,h1⟩;unfold jN
 all_goals grind [lH,qV,z8]
theorem JI{op:BinOp}{b:DV X}{yes:Bool}(h:HA op b yes k=some r):∃dv out,GF op (den b) yes=some out/\iM out.obs/\out.v=den dv/\out.upd=[]/\k dv [] [] []=some r:=by
 unfold HA at h;split at h;cases yes with
 |true=>exact⟨b,_,rfl,trivial,rfl,rfl,h⟩
 |false=>exact⟨.c .bool false,_,rfl,trivial,rfl,rfl,h⟩
 cases yes with
 |true=>exact⟨b,_,rfl,trivial,rfl,rfl,h⟩
 |false=>exact⟨.c .bool true,_,rfl,trivial,rfl,rfl,h⟩
 cases h
theorem ag0{op:BinOp}{t:TypeId}{x:DV X}(h:apc T op t x k=some r):∃dv out,Bs T op t (den x) .dp=some out/\iM out.obs/\out.v=den dv/\out.upd=[]/\k dv [] [] []=some r:=by unfold apc at h;rw[ah]at h;obtain⟨ti,h1,h⟩:=h;split at h;rename_i e c l hk;have⟨dv,out,g1,g2⟩:=JI h;refine⟨dv,out,?_,g2⟩;simp[Bs,h1,hk];rw[<- g1];cases l<;>rfl;rename_i e kk aa len hk;have⟨dv,out,g1,g2⟩:=JI h;exact⟨dv,out,by simp[Bs,h1,hk];exact g1,g2⟩;rename_i e kk len hk;have⟨dv,out,g1,g2⟩:=JI h;exact⟨dv,out,by simp[Bs,h1,hk];exact g1,g2⟩;rename_i e hk;have⟨dv,out,g1,g2⟩:=JI h;exact⟨dv,out,by simp[Bs,h1,hk];exact g1,g2⟩;cases h
theorem ag1{s:ByteArray}{n b:Int}(h:Sc s n=some b):0<=n/\∃c,s[n.toNat]? =some c/\b=c.toNat:=by
 unfold Sc at h
 all_goals grind
theorem aaR{m:Int}{bytes:Nat}(h:sQ m bytes=true):0<=m/\m.toNat*bytes<=140737488355328/\m.toNat<=maxLen:=by simpa[sQ,and_assoc]using h
theorem Tj{b:Builtin}{args:List (DV X)}{d8:List TypeId}(h:Qa T code i b args d8 get k=some r):
 ∃rd wr dv upd out,vo T i b (bG args) d8 (dF rd (fB get))=some out/\iM out.obs/\out.v=den dv/\out.upd=iO upd/\(∀ p∈upd,p.1=cx i\/p.1∈wr)/\k dv upd rd wr=some r:=by unfold Qa at h;split at h;rw[ah]at h;obtain⟨ti,h1,h⟩:=h;split at h;rename_i e hk;refine⟨[],[],_,[],⟨.t (.sc (.int .i64 0)),[],[]⟩,?_,trivial,rfl,rfl,by simp,h⟩;simp[vo,bG,den,h1,hk];rfl;cases h;rename_i kk aa len t;rw[ah]at h;obtain⟨ti,h1,h⟩:=h;split at h;rename_i e hk;rw[ah]at h;obtain⟨ei,h2,h⟩:=h;rw[ah]at h;obtain⟨o,h3,h⟩:=h;split at h;rename_i c l;split at h;rename_i hs;refine⟨[kk],[kk],_,_,⟨.en [],[(kk,some ⟨CT.sz X c,(aI (l.map (CT.row X.toSE c))).take aa⟩)],[]⟩,?_,trivial,rfl,?_,by simp,h⟩;simp only[vo,bG,den,h1,ai,hk,h2,eD (List.mem_singleton_self kk) h3,bI];rw[aS hs];simp[iO,bI,aI];cases h;cases h;cases h;rename_i kd m t u;rw[ah]at h;obtain⟨ti,h1,h⟩:=h;rw[ah]at h;obtain⟨ui,h2,h⟩:=h;split at h;rename_i e kn hk hk';rw[ah]at h;obtain⟨ei,h3,h⟩:=h;rw[ah]at h;obtain⟨c,h4,h⟩:=h;split at h;rename_i hs;have⟨z,h5,h⟩:=ah.1 h;have⟨h6,h⟩:=dN h;have⟨m1,m2,m3⟩:=aaR h6;have hz:=yh h5;rw[Cy]at hz;refine⟨[],[],_,_,⟨.own (cx i) 0 m.toNat,[(cx i,some ⟨ei.size,dK (List.replicate m.toNat (ei.zero.map cv))⟩)],[0<=m/\m.toNat*ei.bytes<=140737488355328/\m.toNat<=maxLen/\0<ei.size]⟩,?_,?_,rfl,?_,by simp,h⟩;simp[vo,bG,den,CT.tv,TV.av,h1,h2,h3,hk,hk'];exact⟨m1,m2,m3,hs.2⟩;simp only[iO,bE,map_nil,Option.map_some,bI,hs.1,aI,dK,List.map_replicate];rw[hz];cases h;cases h;cases h
theorem aea{t:TypeId}{l c:DV X}(h:alE T code i t l c k=some r):∃dv upd out,N4 T i t (den l) (den c)=some out/\iM out.obs/\out.v=den dv/\out.upd=iO upd/\(∀ p∈upd,p.1=cx i)/\k dv upd [] []=some r:=by unfold alE at h;rw[ah]at h;obtain⟨ti,h1,h⟩:=h;split at h;rename_i e kl n kc m hk;rw[ah]at h;obtain⟨ei,h3,h⟩:=h;rw[ah]at h;obtain⟨c,h4,h⟩:=h;split at h;rename_i hs;rw[ah]at h;obtain⟨z,h5,h⟩:=h;have⟨h6,h⟩:=dN h;simp at h6;obtain⟨h7,h8,h9⟩:=h6;have⟨m1,m2,m3⟩:=aaR h9;have hz:=yh h5;rw[Cy]at hz;refine⟨_,_,⟨.own (cx i) 0 n.toNat,[(cx i,some ⟨ei.size,dK (List.replicate n.toNat (ei.zero.map cv))⟩)],[0<=n/\n<=m/\m.toNat*ei.bytes<=140737488355328/\m.toNat<=maxLen/\0<ei.size]⟩,?_,?_,rfl,?_,by simp,h⟩;simp[N4,den,CT.tv,TV.av,h1,h3,hk];exact⟨h8,h7,m2,m3,hs.2⟩;simp only[iO,bE,map_nil,Option.map_some,bI,hs.1,aI,dK,List.map_replicate];rw[hz];cases h;cases h
theorem Wu{t:TypeId}(h:Ws T code i t k=some r):∃dv upd out,Hg T i t=some out/\iM out.obs/\out.v=den dv/\out.upd=iO upd/\(∀ p∈upd,p.1=cx i)/\k dv upd [] []=some r:=by unfold Ws at h;rw[ah]at h;obtain⟨ti,h1,h⟩:=h;split at h;rename_i kt et hk;have⟨kc,h2,h⟩:=ah.1 h;have⟨vc,h3,h⟩:=ah.1 h;exact⟨_,_,⟨.mp (cx i),[(cx i,some ⟨0,[]⟩)],[]⟩,by simp[Hg,h1,hk],trivial,rfl,rfl,by simp,h⟩;cases h
theorem alH{ki:py}{kc:CT X.ι}(h:Ge ki.k kc=true)(x:CT.T X.toSE kc):∃v,(CT.tv X.toSE kc x).av= .t (.sc v)/\MW ki.k v=true:=by
 cases kc
 case int b=>
  refine⟨.int b x,rfl,?_⟩;cases hk:ki.k<;>rw[hk]at h<;>simp[Ge]at h;subst h;simp[MW]
 case str=>
  refine⟨.string x,rfl,?_⟩;cases hk:ki.k<;>rw[hk]at h<;>simp[Ge]at h;rfl
 case bool=>
  refine⟨.bool x,rfl,?_⟩;cases hk:ki.k<;>rw[hk]at h<;>simp[Ge]at h;rfl
 all_goals (cases hk:ki.k<;>rw[hk]at h<;>simp[Ge]at h)
theorem aeb{kc:CT X.ι}{eq:CT.T X.toSE kc->CT.T X.toSE kc->Bool}(h:Nj kc=some eq){a b:CT.T X.toSE kc}{va:Value}(ha:(CT.tv X.toSE kc a).av= .t (.sc va)):∃vb,(CT.tv X.toSE kc b).av= .t (.sc vb)/\MX va vb=some (eq a b):=by
 cases kc
 case int q=>
  simp[Nj]at h;subst h;simp[CT.tv,TV.av]at ha;subst ha;exact⟨_,rfl,by simp[MX,iEq]⟩
 case str=>
  simp[Nj]at h;subst h;simp[CT.tv,TV.av]at ha;subst ha;exact⟨_,rfl,by simp[MX,eb]⟩
 case bool=>
  simp[Nj]at h;subst h;simp[CT.tv,TV.av]at ha;subst ha;exact⟨_,rfl,by simp[MX,bEq]⟩
 all_goals simp[Nj]at h
theorem aaS{kc vc:CT X.ι}{eq:CT.T X.toSE kc->CT.T X.toSE kc->Bool}(h:Nj kc=some eq){a:CT.T X.toSE kc}{va:Value}(ha:(CT.tv X.toSE kc a).av= .t (.sc va)):∀l:List (CT.T X.toSE kc×CT.T X.toSE vc),
 ∃r,xA va (bI (.map kc vc l:bp X)).rows=some r/\r.map (·.2)=(gD eq a l).map λv=>(CT.tv X.toSE vc v).av
 |[]=>⟨none,rfl,rfl⟩
 |p::l=>by
  have⟨vb,h1,h2⟩:=aeb h (b:=p.1) ha;have⟨r,g1,g2⟩:=aaS h ha l;have g1':xA va (l.map λp=>[(CT.tv X.toSE kc p.1).av,(CT.tv X.toSE vc p.2).av])=some r:=g1;simp[bI,h1,xA,h2,gD];cases eq a p.1 with
  |true=>exact⟨_,rfl,rfl⟩
  |false=>
   simp only[Bool.false_eq_true,if_false,g1',Option.map_some,au];exact⟨_,rfl,by rw[<- g2,Option.map_map];rfl⟩
theorem aec{kc vc:CT X.ι}{eq:CT.T X.toSE kc->CT.T X.toSE kc->Bool}(h:Nj kc=some eq){a:CT.T X.toSE kc}{va:Value}(ha:(CT.tv X.toSE kc a).av= .t (.sc va))(y:CT.T X.toSE vc):∀l:List (CT.T X.toSE kc×CT.T X.toSE vc),
 zv va (CT.tv X.toSE vc y).av (bI (.map kc vc l:bp X)).rows=some (bI (.map kc vc (FV eq a y l):bp X)).rows
 |[]=>by simp[bI,zv,FV,ha]
 |p::l=>by
  have⟨vb,h1,h2⟩:=aeb h (b:=p.1) ha;have g:=aec h ha y l;have g':zv va (CT.tv X.toSE vc y).av (l.map λp=>[(CT.tv X.toSE kc p.1).av,(CT.tv X.toSE vc p.2).av])=some ((FV eq a y l).map λp=>[(CT.tv X.toSE kc p.1).av,(CT.tv X.toSE vc p.2).av]):=g;simp[bI,h1,zv,FV]
  grind
theorem zero_den{vc:CT X.ι}{ei:py}{z:CT.T X.toSE vc}(h:Nc vc (ei.zero.map xf)=some z)(ha:ei.agg=apW vc)(hs:ei.size=CT.sz X vc):part' ei.agg ei.size ((ei.zero.map cv).map wk)=some (CT.tv X.toSE vc z).av:=by
 have hz:=yh h;rw[Cy]at hz;rw[hz,ha,hs];have hl:((CT.row X.toSE vc z).map AV.t).length=CT.sz X vc:=by rw[length_map,Ht]
 unfold part';rw[aS hl];cases vc<;>rfl
theorem anM{d:DV X}{c:CT X.ι}{x:CT.T X.toSE c}(h:dat d c=some x):G1 (den d)=(CT.tv X.toSE c x).av:=by
 cases c
 case st j=>
  replace h:GB d j=some x:=h
  cases d
  case agg cs=>
   simp[GB]at h;rw[ah]at h;obtain⟨g,h1,h⟩:=h;cases h;simp[den,G1,(yH h1 (X.flat j)).1];rw[<- Wh];rfl
  case c a y=>
   rw[(oV h).1];simp only[den,CT.tv,TV.av,G1,map_map];congr 1
  all_goals cases h
 all_goals
  (have h':=h
   have hd:=wD h';cases d
   case c a y=>
    obtain⟨e,_⟩:=rR (show kU a _ y=some x from h);subst e;exact hd
   all_goals first |exact hd |(cases h))
theorem Zo{t:TypeId}{x key:DV X}{ok:Bool}(h:aci T t x key ok get k=some r):∃rd dv out,JC T t (den x) (den key) ok (dF rd (fB get))=some out/\iM out.obs/\out.v=den dv/\out.upd=[]/\k dv [] rd []=some r:=by
 unfold aci at h;rw[ah]at h;obtain⟨ti,h1,h⟩:=h;split at h
 ·rename_i kt et kk hk;rw[ah]at h;obtain⟨ki,h2,h⟩:=h;rw[ah]at h;obtain⟨ei,h3,h⟩:=h;rw[ah]at h;obtain⟨o,h4,h⟩:=h;split at h
  ·rename_i kc vc l;rw[ah]at h;obtain⟨eq,h5,h⟩:=h;rw[ah]at h;obtain⟨kv,h6,h⟩:=h;split at h
   ·rename_i hc;have⟨z,h7,h⟩:=ah.1 h;have⟨va,g1,g2⟩:=alH hc.1 kv;have⟨q,g3,g4⟩:=aaS (vc:=vc) h5 g1 l;have hkey:den key= .t (.sc va):=(by have:=wD h6;rw[g1]at this;cases hd:den key<;>rw[hd]at this<;>simp only[wk,AV.t.injEq,reduceCtorEq]at this;subst this;rfl);have hv:∀q:Option (Nat×AV),q.map (·.2)=(gD eq kv l).map (λ v=>(CT.tv X.toSE vc v).av)->wi q (part' ei.agg ei.size ((ei.zero.map cv).map wk))=some (CT.tv X.toSE vc ((gD eq kv l).getD z)).av:=by
     intro q g;cases hm:gD eq kv l with
     |none=>
      rw[hm]at g;cases q with
      |none=>exact zero_den h7 hc.2.1 hc.2.2
      |some p=>simp at g
     |some v=>
      rw[hm]at g;cases q with
      |none=>simp at g
      |some p=>simp only[Option.map_some,bJ]at g;simp only[wi,g,Option.getD_some]
    have hi:q.isSome=(gD eq kv l).isSome:=(by have:=congrArg Option.isSome g4;simpa using this);have hb:JC T t (den (.mp kk:DV X)) (den key) ok (dF [kk] (fB get))=pv (if ok then .en [den (.c vc ((gD eq kv l).getD z):DV X),.t (.sc (.bool q.isSome))]else den (.c vc ((gD eq kv l).getD z):DV X)):=(by simp only[JC,h1,ai,hk,den,hkey,h2,h3,eD (List.mem_singleton_self kk) h4];rw[aS ⟨g2,by simp[bI]⟩,g3,ai,hv q g4,ai]);cases ok with
    |true=>exact⟨[kk],_,_,hb,trivial,by simp only[if_true,den,bG,hi];rfl,rfl,h⟩
    |false=>exact⟨[kk],_,_,hb,trivial,rfl,rfl,h⟩
   ·cases h
  ·cases h
 ·cases h
theorem Zp{t:TypeId}{x key y:DV X}(h:acj T t x key y get k=some r):∃rd wr dv upd out,JD T t (den x) (den key) (den y) (dF rd (fB get))=some out/\iM out.obs/\out.v=den dv/\out.upd=iO upd/\(∀ p∈upd,p.1∈wr)/\k dv upd rd wr=some r:=by
 unfold acj at h;rw[ah]at h;obtain⟨ti,h1,h⟩:=h;split at h
 ·rename_i kt et kk hk;rw[ah]at h;obtain⟨ki,h2,h⟩:=h;rw[ah]at h;obtain⟨o,h4,h⟩:=h;split at h
  ·rename_i kc vc l;rw[ah]at h;obtain⟨eq,h5,h⟩:=h;rw[ah]at h;obtain⟨kv,h6,h⟩:=h;rw[ah]at h;obtain⟨v,h7,h⟩:=h;split at h
   ·rename_i hc;have⟨va,g1,g2⟩:=alH hc kv;have g3:=aec (vc:=vc) h5 g1 v l;have hkey:den key= .t (.sc va):=(by have:=wD h6;rw[g1]at this;cases hd:den key<;>rw[hd]at this<;>simp only[wk,AV.t.injEq,reduceCtorEq]at this;subst this;rfl);refine⟨[kk],[kk],_,_,⟨.undef,[(kk,some ⟨(bI (.map kc vc (FV eq kv v l):bp X)).rows.length,(bI (.map kc vc (FV eq kv v l):bp X)).rows⟩)],[]⟩,?_,trivial,rfl,?_,by simp,h⟩
    ·simp only[JD,h1,ai,hk,den,hkey,h2,eD (List.mem_singleton_self kk) h4];rw[aS ⟨g2,by simp[bI]⟩,anM h7,g3];rfl
    ·simp[iO,bI]
   ·cases h
  ·cases h
 ·cases h
theorem ag2(h:apd T code i o.op ρ get k=some r):ep P T i o ρ get k r:=by
 obtain⟨dst,op,ty,am,after,guard⟩:=o;unfold apd at h;simp only at h;split at h
 ·rename_i op t x y q;split at h
  ·rename_i hn;have⟨dv,out,g1,g2,g3,g4,g5⟩:=ag0 h;have hy:den (ρ y)= .dp:=(by cases hρ:ρ y<;>rw[hρ]at hn<;>first |rfl |cases hn);exact ep.ext (n:=0) (rd:=[]) (wr:=[]) (upd:=[]) (by simp only[sV,hy];exact g1) g2 g3 g4 (by simp) g5
  ·cases h
 ·rename_i s d x;unfold aoQ at h;rw[ah]at h;obtain⟨si,h1,h⟩:=h;rw[ah]at h;obtain⟨di,h2,h⟩:=h;split at h
  ·rename_i kd k' n hk hx;refine ep.ext (n:=0) (rd:=[]) (wr:=[]) (upd:=[]) (out:=⟨.t (.sc (.int kd (kd.wrap n))),[],[]⟩) ?_ trivial rfl rfl (by simp) h;simp only[sV,SM,h1,h2,ai,hk,hx];rfl
  ·cases h
 ·rename_i t x j;unfold alD at h;rw[ah]at h;obtain⟨ti,h1,h⟩:=h;split at h
  ·rename_i s kk n hk hx hj;rw[ah]at h;obtain⟨b,h2,h⟩:=h;refine ep.ext (n:=b) (rd:=[]) (wr:=[]) (upd:=[]) (out:=⟨.t (.sc (.int .u8 b)),[],[0<=n/\∃c,s[n.toNat]? =some c/\b=c.toNat]⟩) ?_ (ag1 h2) rfl rfl (by simp) h;simp only[sV,VD,h1,ai,hk,hx,hj];rfl
  ·rename_i m e cs kd q hk hx hj;rw[ah]at h;obtain⟨ei,h2,h⟩:=h;have⟨h3,h⟩:=dN h;rw[ah]at h;obtain⟨v,h4,h⟩:=h;simp only[cN,aY,bD]at h3;refine ep.ext (n:=0) (rd:=[]) (wr:=[]) (upd:=[]) (out:=⟨den v,[],[0<=q/\q<(m:Int)]⟩) ?_ h3 rfl rfl (by simp) h;have h5:=Cz h4;rw[kE]at h5;simp only[sV,VD,h1,ai,hk,hx,hj,h2,den,CT.tv,TV.av,h5];rfl
  ·cases h
 ·rename_i t x lo hi;unfold aaP at h;rw[ah]at h;obtain⟨ti,h1,h⟩:=h;split at h
  ·rename_i e hk hx;rw[ah]at h;obtain⟨ei,h2,h⟩:=h;rw[ah]at h;obtain⟨l,h3,h⟩:=h;rw[ah]at h;obtain⟨hh,h4,h⟩:=h;have⟨h5,h⟩:=dN h;refine ep.ext (n:=0) (rd:=[]) (wr:=[]) (upd:=[]) (out:=⟨.dp,[],[l=0/\hh=0]⟩) ?_ (show l=0/\hh=0 by simpa using h5) rfl rfl (by simp) h;have e1:=CB h3;have e2:=CB h4;rw[Option.map_map]at e1 e2;simp only[sV,JB,h1,ai,hk,hx,h2,den];have PB:bnd 0 (lo.map λx=>den (ρ x))=some l:=e1;have e2':bnd 0 (hi.map λx=>den (ρ x))=some hh:=e2;rw[PB,ai,e2'];rfl
  ·cases h
 ·rename_i x;have⟨dv,g1,g2⟩:=Ti h;exact ep.xe (n:=0) (rd:=[]) (wr:=[]) (upd:=[]) g1 trivial rfl rfl (by simp) g2
 ·rename_i t l c;have⟨dv,upd,out,g1,g2,g3,g4,g5,g6⟩:=aea h;exact ep.xe (n:=0) (rd:=[]) (wr:=[]) (upd:=upd) g1 g2 g3 g4 (λ p hp=> .inl (g5 p hp)) g6
 ·rename_i t;have⟨dv,upd,out,g1,g2,g3,g4,g5,g6⟩:=Wu h;exact ep.xe (n:=0) (rd:=[]) (wr:=[]) (upd:=upd) g1 g2 g3 g4 (λ p hp=> .inl (g5 p hp)) g6
 ·rename_i t m x ok;have⟨rd,dv,out,g1,g2,g3,g4,g6⟩:=Zo h;exact ep.xe (n:=0) (rd:=rd) (wr:=[]) (upd:=[]) g1 g2 g3 g4 (by simp) g6
 ·rename_i t m x v;have⟨rd,wr,dv,upd,out,g1,g2,g3,g4,g5,g6⟩:=Zp h;exact ep.xe (n:=0) (rd:=rd) (wr:=wr) (upd:=upd) g1 g2 g3 g4 (λ p hp=> .inr (g5 p hp)) g6
 ·rename_i b args d8;have⟨rd,wr,dv,upd,out,g1,g2,g3,g4,g5,g6⟩:=Tj h;refine ep.ext (n:=0) (rd:=rd) (wr:=wr) (upd:=upd) ?_ g2 g3 g4 g5 g6;simp only[sV,UU];exact g1
 ·cases h
theorem aed{c:CT X.ι}:∀{xs:List Operand}{x:Operand}{y:CT.T X.toSE c×List Bool},x∈xs->FM get (ρ x) c=some y->∀j∈bm (ρ x),j∈BC get c ρ xs
 |z::xs,x,y,hx,h,j,hj=>by simp[BC];rcases aH.1 hx with rfl |hx;left;rw[h];exact hj;exact .inr (aed hx h j hj)
 |[],_,_,hx,_,_,_=>by simp at hx
theorem aee{c:CT X.ι}:∀{xs:List Operand}{x:Operand}{y:CT.T X.toSE c×List Bool},x∈xs->FM get (ρ x) c=some y->∀b∈y.2,b∈QQ get c ρ xs
 |z::xs,x,y,hx,h,b,hb=>by simp[QQ];rcases aH.1 hx with rfl |hx;left;rw[h];exact hb;exact .inr (aee hx h b hb)
 |[],_,_,hx,_,_,_=>by simp at hx
theorem ag3(h:ape T code i o.op ρ get k=some r):ep P T i o ρ get k r:=by
 unfold ape at h;split at h;cases h;rename_i hpick;have⟨c,h1,h⟩:=ah.1 h;have⟨hcs,h⟩:=qh h;have⟨cJ,rd,wr,dv,upd,out,g1,g2,g3,g4,g5,g6⟩:=aaM h;generalize ld:BC get c ρ o.op.operands.toList=ab at*;refine⟨.yy ab (λ x=>den (MT get c ρ x)) cJ,rd++ab,wr++ab,dv,upd++Nk ab,⟨out.v,out.upd++ab.map (λ k=>(k,none)),out.obs++[∀ x∈o.op.operands,(gd P (dF (rd++ab) (fB get)) (den (ρ x)) (den (MT get c ρ x))/\∀k∈refs (den (ρ x)),k∈ab)\/den (MT get c ρ x)=den (ρ x)]⟩,?_,?_,g3,?_,?_,g6⟩;unfold jN Hf;simp only;rw[aR hpick];have e:(λ k=>if k∈ab then none else dF (rd++ab) (fB get) k)=dF rd (fB λj=>if j∈ab then none else get j):=by funext j;simp[dF,fB];by_cases hj:j∈ab;simp[hj];simp[hj]
 rw[e,g1];rfl;refine rD _ λp hp=>?_;rcases bM.1 hp with hp |hp;exact qU _ g2 p hp;rw[bq]at hp;subst hp;intro x hx;unfold MT;rcases hl:FM get (ρ x) c with _ |y;exact .inr rfl;left;have hx':x∈o.op.operands.toList:=by simpa using hx
 have hin:=λj hj=>ld ▸ aed hx' hl j hj;obtain⟨hs,obs,p1,p2⟩:=Ae (P:=P) (rd:=rd++ab) hl (λ b hb=>hcs b (aee hx' hl b hb)) (λ j hj=>mem_append_right _ (hin j hj));refine⟨?_,λj hj=>hin j (by rwa [iQ]at hj)⟩;have:=p2 [];exact D8 _ _ _ this p1;simp[sD,CF,g4];intro p hp;rcases bM.1 hp with hp |hp;exact(g5 p hp).imp id (λ h=>mem_append_left _ h);exact .inr (mem_append_right _ (JH hp))
theorem Wv{c:CT X.ι}:∀{ds:List (DV X)}{xs:List (CT.T X.toSE c)},F1 c ds=some xs->bG ds=xs.map λy=>den (.c c y:DV X)
 |[],xs,h=>by simp[F1]at h;subst h;rfl
 | .c a x::ds,xs,h=>by simp[F1]at h;rw[ah]at h;obtain⟨y,h1,h⟩:=h;rw[ah]at h;obtain⟨l,h2,h⟩:=h;cases h;simp[bG,Wv h2,(oV h1).1]
 | .agg _::_,_,h | .en _::_,_,h | .own _ _ _::_,_,h | .ptr _ _ _::_,_,h | .rK _ _ _::_,_,h | .mp _::_,_,h | .tW _ _ _ _ _::_,_,h | .rp _ _ _::_,_,h | .ye _ _ _ _ _::_,_,h | .fn _ _ _::_,_,h | .el _ _ _::_,_,h | .raw _::_,_,h | .nil::_,_,h | .ub::_,_,h | .skip::_,_,h | .undef::_,_,h=>by simp[F1]at h
theorem ag4(h:apf T code o.op ρ get k=some r):ep P T i o ρ get k r:=by
 obtain⟨dst,op,ty,am,after,guard⟩:=o;unfold apf at h;simp only at h;split at h
 ·rename_i t x j;rw[ah]at h;obtain⟨ti,h1,h⟩:=h;split at h
  ·rename_i m e kk row aa kd n hk hx hj;rw[ah]at h;obtain⟨ei,h2,h⟩:=h;split at h
   ·rename_i hs;have⟨h3,h⟩:=dN h;refine ep.op (cJ:= .none) (rd:=[]) (wr:=[]) (upd:=[]) (λ _ _ _ e=>by cases e) (out:=⟨.ptr kk row (aa+n.toNat*1),[],[0<=n/\n.toNat<m]⟩) ?_ ⟨?_,?_,rfl,by simp,h⟩
    ·simp only[qG,mG,h1,ai,hk,hx,hj,den,CT.tv,TV.av,h2,hs];rfl
    ·simp only[cN,aY,bD]at h3;exact⟨h3.1,by omega⟩
    ·simp only[den,Nat.mul_one]
   ·cases h
  ·rename_i m e c y aa kd n hk hx hj;rw[ah]at h;obtain⟨ei,h2,h⟩:=h;split at h
   ·rename_i hs;have⟨h3,h⟩:=dN h;refine ep.op (cJ:= .none) (rd:=[]) (wr:=[]) (upd:=[]) (λ _ _ _ e=>by cases e) (out:=⟨.eK (CT.row X.toSE c y) (aa+n.toNat*1),[],[0<=n/\n.toNat<m]⟩) ?_ ⟨?_,?_,rfl,by simp,h⟩
    ·simp only[qG,mG,h1,ai,hk,hx,hj,den,CT.tv,TV.av,h2,hs];rfl
    ·simp only[cN,aY,bD]at h3;exact⟨h3.1,by omega⟩
    ·simp only[den,Nat.mul_one]
   ·cases h
  ·cases h
 ·rename_i t a;rw[ah]at h;obtain⟨ti,h1,h⟩:=h;split at h
  ·rename_i kk row aa m n hx;split at h
   ·rename_i hs;rw[ah]at h;obtain⟨c,h2,h⟩:=h;split at h
    ·rename_i hc;rw[ah]at h;obtain⟨ob,h3,h⟩:=h;split at h
     ·rename_i sz rows;have⟨q,h4,h⟩:=ah.1 h;have⟨xs,h5,h⟩:=ah.1 h;have⟨y,h6,h⟩:=ah.1 h;have⟨_,h7⟩:=Nf h6;have h8:=Wv h5;have h9:((bG q).drop (aa+n.toNat)).take 1=[den (.c c y:DV X)]:=by
       have e1:(bG ((q.drop aa).take m))[n.toNat]? =some (den (.c c y:DV X)):=(by rw[h8,List.getElem?_map,h7];rfl);rw[kE,List.getElem?_take]at e1;split at e1
       ·rw[List.getElem?_drop]at e1;have⟨g1,g2⟩:=bZ.1 e1;rw[List.drop_eq_getElem_cons g1,List.take_succ_cons,List.take_zero,g2]
       ·cases e1
      refine ep.op (cJ:= .none) (rd:=[kk]) (wr:=[]) (upd:=[]) (λ _ _ _ e=>by cases e) (out:=⟨den (.c c y:DV X),[],[]⟩) ?_ ⟨trivial,rfl,rfl,by simp,h⟩;simp only[qG,KQ,h1,ai,hx,den,eD (List.mem_singleton_self kk) h3,bI,List.getElem?_map,h4,Option.map_some,hs.1,hs.2];rw[h9];obtain⟨t',g1,g2⟩:=row_one hc y;simp only[den,g2,TV.av];rfl
     ·cases h
     ·cases h
    ·cases h
   ·cases h
  ·rename_i b y0 aa m n hx;split at h
   ·rename_i hs;rw[ah]at h;obtain⟨c,h2,h⟩:=h;split at h
    ·rename_i hc;have⟨xs,h5,h⟩:=ah.1 h;have⟨y,h6,h⟩:=ah.1 h;have⟨_,h7⟩:=Nf h6;have h8:=Wv h5;have h9:(((CT.row X.toSE b y0).drop (aa+n.toNat)).take 1).map AV.t=[den (.c c y:DV X)]:=by
      have e1:(bG (((vB b y0).drop aa).take m))[n.toNat]? =some (den (.c c y:DV X)):=(by rw[h8,List.getElem?_map,h7];rfl);rw[kE,pR,List.getElem?_take]at e1;split at e1
      ·rw[List.getElem?_drop]at e1;have⟨g1,g2⟩:=bZ.1 e1;rw[map_take,map_drop,List.drop_eq_getElem_cons g1,List.take_succ_cons,List.take_zero,g2]
      ·cases e1
     refine ep.op (cJ:= .none) (rd:=[]) (wr:=[]) (upd:=[]) (λ _ _ _ e=>by cases e) (out:=⟨den (.c c y:DV X),[],[]⟩) ?_ ⟨trivial,rfl,rfl,by simp,h⟩;simp only[qG,KQ,h1,ai,hx,den,hs.1,hs.2];rw[h9];obtain⟨t',g1,g2⟩:=row_one hc y;simp only[den,g2,TV.av];rfl
    ·cases h
   ·cases h
  ·cases h
 ·cases h
end
end
section
variable {X:SX}
structure MA(X:SX) where
 nm:List (Nat×Nat)
 eS:List (DC X)
 j0:List Bool
def addN(m:MA X)(k' k:Nat):MA X:=if m.nm.contains (k',k)then m else⟨m.nm++[(k',k)],m.eS,m.j0⟩
section
variable (get:Nat->Option (bp X))
mutual
def mP:Pt X.ι->DV X->MA X->Option (MA X)
 | .v c,d,m=>(dat d c).bind λx=>some ⟨m.nm,m.eS++[⟨c,x⟩],m.j0⟩
 | .o k,d,m=>match d with
  | .own k' 0 len=>(get k').bind λo=>match o with
   | .ev _ l=>some (addN ⟨m.nm,m.eS,m.j0++[az len l.length]⟩ k' k)
   |_=>none
  |_=>none
 | .oz k,d,m=>match d with
  | .own k' 0 len=>(get k').bind λo=>match o with
   | .ev _ l=>some (addN ⟨m.nm,m.eS,m.j0++[!(len==0)&&az len l.length]⟩ k' k)
   |_=>none
  | .oz k' len=>(get k').bind λo=>match o with
   | .ev _ l=>some (addN ⟨m.nm,m.eS,m.j0++[az len l.length]⟩ k' k)
   |_=>none
  |_=>none
 | .p k,d,m=>match d with
  | .ptr k' 0 0=>some (addN m k' k)
  |_=>none
 | .mp k,d,m=>match d with
  | .mp k'=>some (addN m k' k)
  |_=>none
 | .nil,d,m=>match d with
  | .nil=>some m
  |_=>none
 | .f F fs cs,d,m=>match d with
  | .fn F' first caps=>if F=F' then(t6 fs first m).bind λm=>t6 cs caps m else none
  |_=>none
 | .od k,d,m=>match d with
  | .own k' aa len=>(get k').bind λo=>match o with
   | .ev _ l=>some (addN ⟨m.nm,m.eS++[⟨.int .i64,(aa:Int)⟩],m.j0++[az (aa+len) l.length]⟩ k' k)
   |_=>none
  |_=>none
 | .a ps,d,m=>match d with
  | .agg ds=>t6 ps ds m
  |_=>none
def t6:List (Pt X.ι)->List (DV X)->MA X->Option (MA X)
 |[],[],m=>some m
 |p::ps,d::ds,m=>(mP p d m).bind λm=>t6 ps ds m
 |_,_,_=>none
end
def HZ(env:Nat->DV X):List (Nat×Pt X.ι)->MA X->Option (MA X)
 |[],m=>some m
 |(t,p)::r,m=>(mP get p (env t) m).bind λm=>HZ env r m
def KZ:List (List (Pt X.ι))->List (List (DV X))->MA X->Option (MA X)
 |[],[],m=>some m
 |r::rs,q::qs,m=>(t6 get r q m).bind λm=>KZ rs qs m
 |_,_,_=>none
def nameOf(m:MA X)(k:Nat):Nat:=match m.nm.find? (λ q=>q.2==k)with |some q=>q.1 |none=>k
def CG:List (Nat×OP X.ι)->MA X->Option (MA X)
 |[],m=>some m
 |(k,op)::r,m=>(get (nameOf m k)).bind λo=>match op,o with
  | .l c,.ev c' l=>(kU (.sl c') (.sl c) l).bind λl'=>CG r (addN ⟨m.nm,m.eS++[⟨.sl c,l'⟩],m.j0⟩ (nameOf m k) k)
  | .m kc vc,.map u9 uu l=>(kU (.mp u9 uu) (.mp kc vc) l).bind λl'=>CG r (addN ⟨m.nm,m.eS++[⟨.mp kc vc,l'⟩],m.j0⟩ (nameOf m k) k)
  | .c sz rows,.cells sz' rows'=>if sz=sz' then(KZ get rows rows' (addN m (nameOf m k) k)).bind λm=>CG r m else none
  |_,_=>none
end
end
section
variable {X:SX} {A:Type}
mutual
def sE(f:Nat->Nat):DV X->DV X
 | .own k aa len=> .own (f k) aa len
 | .ptr k row aa=> .ptr (f k) row aa
 | .rK k n aa=> .rK (f k) n aa
 | .tW k row aa m n=> .tW (f k) row aa m n
 | .mp k=> .mp (f k)
 | .oz k len=> .oz (f k) len
 | .agg cs=> .agg (Ls f cs)
 | .en cs=> .en (Ls f cs)
 | .fn F first caps=> .fn F (Ls f first) (Ls f caps)
 |x=>x
def Ls(f:Nat->Nat):List (DV X)->List (DV X)
 |[]=>[]
 |x::xs=>sE f x::Ls f xs
end
theorem ag5(f:Nat->Nat):∀l:List Tree,vv f (l.map AV.t)=l.map AV.t
 |[]=>rfl
 |x::xs=>by simp[vv,gO,ag5 f xs]
mutual
theorem Af(f:Nat->Nat):∀x:DV X,den (sE f x)=gO f (den x)
 | .own _ _ _ | .ptr _ _ _ | .rK _ _ _ | .mp _ | .oz _ _ | .tW _ _ _ _ _=>rfl
 | .agg cs | .en cs=>by simp[sE,den,gO,H6 f cs]
 | .fn F first caps=>by simp[sE,den,gO,H6 f first,H6 f caps]
 | .c t x=>by
  simp[sE,den];cases t<;>try rfl
  simp[CT.tv,TV.av,gO,ag5]
 | .rp _ _ _ | .ye _ _ _ _ _ | .el _ _ _=>rfl
 | .raw v=>by simp[sE,den,cv];split;rfl;split<;>rfl
 | .nil | .ub | .skip | .undef=>rfl
theorem H6(f:Nat->Nat):∀l:List (DV X),bG (Ls f l)=vv f (bG l)
 |[]=>rfl
 |x::xs=>by simp[Ls,bG,vv,Af f x,H6 f xs]
end
def qS(f:Nat->Nat):bp X->bp X
 | .cells sz rows=> .cells sz (rows.map (Ls f))
 |o=>o
def eo:bp X->List Nat
 | .cells _ rows=>(rows.map aO).flatten
 | .ev _ _=>[]
 | .map _ _ _=>[]
def Ss:CT X.ι->Bool
 | .int _ | .bool | .str=>true
 |_=>false
def xC:CT X.ι->Bool
 | .st i=>(X.d8 i).all Ss
 |c=>Ss c
theorem Ei{c:CT X.ι}(h:Ss c=true)(x:CT.T X.toSE c):∀t∈CT.row X.toSE c x,t.flat:=by cases c<;>first |(intro t ht;simp[CT.row]at ht;subst ht;exact trivial) |cases h
theorem aiK:∀(l:List (CT X.ι))(h:HL X.toSE l),l.all Ss=true->∀t∈HL.row X.toSE l h,t.flat
 |[],_,_,t,ht=>by simp[HL.row]at ht
 |c::l,h,ha,t,ht=>by simp only[all_cons,aY]at ha;rcases bM.1 (show t∈CT.row X.toSE c h.1++HL.row X.toSE l h.2 from ht)with ht |ht;exact Ei ha.1 h.1 t ht;exact aiK l h.2 ha.2 t ht
theorem vC{c:CT X.ι}(h:xC c=true)(x:CT.T X.toSE c):∀t∈CT.row X.toSE c x,t.flat:=by
 cases c
 case st i=>intro t ht;exact aiK (X.d8 i) (X.get i x) h t ((X.pg i x) ▸ ht)
 case int k=>exact Ei (c:= .int k) h x
 case bool=>exact Ei (c:= .bool) h x
 case str=>exact Ei (c:= .str) h x
 case sl e=>cases h
 case any=>cases h
 case mp=>cases h
structure MG(X:SX) where
 nm:List (Nat×Nat)
 eS:List (DC X)
 j0:List Bool
 vr:List Nat
section
variable (get:Nat->Option (bp X))
mutual
def q6:Pt X.ι->DV X->MG X->Option (MG X)
 | .v c,d,m=>(FM get d c).bind λx=>some ⟨m.nm,m.eS++[⟨c,x.1⟩],m.j0++x.2,m.vr++bm d⟩
 | .o k,d,m=>match d with
  | .own k' 0 len=>(get k').bind λo=>match o with
   | .ev _ l=>some ⟨m.nm++[(k',k)],m.eS,m.j0++[az len l.length],m.vr⟩
   |_=>none
  |_=>none
 | .od k,d,m=>match d with
  | .own k' aa len=>(get k').bind λo=>match o with
   | .ev _ l=>some ⟨m.nm++[(k',k)],m.eS++[⟨.int .i64,(aa:Int)⟩],m.j0++[az (aa+len) l.length],m.vr⟩
   |_=>none
  |_=>none
 | .p k,d,m=>match d with
  | .ptr k' 0 0=>some ⟨m.nm++[(k',k)],m.eS,m.j0,m.vr⟩
  |_=>none
 | .nil,d,m=>match d with
  | .nil=>some m
  |_=>none
 | .f F fs cs,d,m=>match d with
  | .fn F' first caps=>if F=F' then(tf fs first m).bind λm=>tf cs caps m else none
  |_=>none
 | .mp k,d,m=>match d with
  | .mp k'=>some ⟨m.nm++[(k',k)],m.eS,m.j0,m.vr⟩
  |_=>none
 | .oz _,_,_=>none
 | .a ps,d,m=>match d with
  | .agg ds=>tf ps ds m
  |_=>none
def tf:List (Pt X.ι)->List (DV X)->MG X->Option (MG X)
 |[],[],m=>some m
 |p::ps,d::ds,m=>(q6 p d m).bind λm=>tf ps ds m
 |_,_,_=>none
end
def K3:List (List (Pt X.ι))->List (List (DV X))->MG X->Option (MG X)
 |[],[],m=>some m
 |r::rs,q::qs,m=>(tf get r q m).bind λm=>K3 rs qs m
 |_,_,_=>none
def rL(m:MG X)(k:Nat):Nat:=match m.nm.find? (λ q=>q.2==k)with |some q=>q.1 |none=>k
def stC:CT X.ι->Bool
 | .st _=>true
 |_=>false
def CJ:List (Nat×OP X.ι)->MG X->Option (MG X)
 |[],m=>some m
 |(k,op)::r,m=>(get (rL m k)).bind λo=>match op,o with
  | .l c,.ev c' l=>(kU (.sl c') (.sl c) l).bind λl'=>CJ r ⟨m.nm++[(rL m k,k)],m.eS++[⟨.sl c,l'⟩],m.j0,m.vr⟩
  | .m kc vc,.map u9 uu l=>if (kc.one=true/\vc.one=true)\/stC kc=true then(kU (.mp u9 uu) (.mp kc vc) l).bind λl'=>CJ r ⟨m.nm++[(rL m k,k)],m.eS++[⟨.mp kc vc,l'⟩],m.j0,m.vr⟩else none
  | .c sz rows,.cells sz' rows'=>if sz=sz' then(K3 get rows rows' ⟨m.nm++[(rL m k,k)],m.eS,m.j0,m.vr⟩).bind λm=>CJ r m else none
  |_,_=>none
end
mutual
def Pt.refs:Pt X.ι->List Nat
 | .o k | .od k | .p k | .mp k | .oz k=>[k]
 | .f _ fs cs=>Bl fs++Bl cs
 | .a ps=>Bl ps
 |_=>[]
def Bl:List (Pt X.ι)->List Nat
 |[]=>[]
 |p::ps=>p.refs++Bl ps
end
def OP.refs:OP X.ι->List Nat
 | .l _=>[]
 | .m _ _=>[]
 | .c _ rows=>rows.flatMap Bl
def H4(n k:Nat):Bool:=Nat.blt k n || (Nat.ble 1000 k&&Nat.blt k 1064)
def dE.ok(g:dE X):Bool:=
 decide (g.ju.map (·.1)=List.range g.ju.length)&&decide (g.ju.length<=1000)&&(g.jt.all λq=>H4 g.ju.length q.1&&q.2.refs.all λk=>H4 g.ju.length k)&&decide (g.jt.map (·.1)).Nodup&&(Bl g.fY).all λk=>H4 g.ju.length k
def okG(m:MG X)(ab:List Nat):Bool:=
 decide ab.Nodup&&(m.nm.all λq=>match ab[q.2]? with |some k=>Nat.beq k q.1 |none=>false)&&m.vr.all λk=>!ab.contains k
def dE.flat(g:dE X):Bool:=(c9 g.fY).all xC&&g.jt.all λq=>match q.2 with
 | .l c=>xC c
 | .m _ _=>false
 | .c _ rows=>(wE rows).all xC
def uc:List (Nat×bp X)->Nat->Option (bp X)
 |[],_=>none
 |(j,o)::r,k=>if j=k then some o else uc r k
def Sp(i:Nat)(ab:List Nat)(os':List (Nat×bp X)):List (Nat×Option (bp X)):=
 (ab.zipIdx.map λp=>(p.1,(uc os' p.2).map (qS (cn i ab))))++(os'.filter λq=>decide (1000<=q.1)).map λq=>(cn i ab q.1,some (qS (cn i ab) q.2))
def ag6(g:dE X)(i:Nat)(ds:List (DV X))(get:Nat->Option (bp X))(k:KK X A):Option A:=
 (tf get g.qq ds ⟨[],[],[],[]⟩).bind λm=>(CJ get g.ju m).bind λm=>
  bif g.ok&&okG m ((List.range g.ju.length).map (rL m))then(Gk (c9 g.qq++d7 g.ju) m.eS).bind λv=>V5 m.j0 ((g.fn v).bind λr=>
   let ab:=(List.range g.ju.length).map (rL m)
   k (sE (cn i ab) (g.res r)) (Sp i ab (g.outs r)++(if g.flat then []else m.vr.map λk=>(k,none))) (ab++m.vr) ((ab++(Sp i ab (g.outs r)).map (·.1))++m.vr))
  else none
section
variable {P:Program} {get:Nat->Option (bp X)} {rd ab:List Nat} {ef:Nat->Nat}
def gc(m m':MG X):Prop:=(∀ q∈m.nm,q∈m'.nm)/\(∀ c∈m.j0,c∈m'.j0)/\∀k∈m.vr,k∈m'.vr
theorem gc.refl(m:MG X):gc m m:=⟨λ _ h=>h,λ_ h=>h,λ_ h=>h⟩
theorem gc.trans{a b c:MG X}(h:gc a b)(h':gc b c):gc a c:=⟨λ q hq=>h'.1 q (h.1 q hq),λq hq=>h'.2.1 q (h.2.1 q hq),λq hq=>h'.2.2 q (h.2.2 q hq)⟩
mutual
theorem alI:∀(p:Pt X.ι)(d:DV X)(m m':MG X),q6 get p d m=some m'->gc m m'/\∃al,m'.eS=m.eS++al/\al.length=p.vars.length
 | .v c,d,m,m',h=>by simp[q6]at h;rw[ah]at h;obtain⟨x,h1,h⟩:=h;cases h;exact⟨⟨λ _ h=>h,λ_ h=>by simp[h],λ_ h=>by simp[h]⟩,[⟨c,x.1⟩],rfl,rfl⟩
 | .o k,d,m,m',h=>by simp[q6]at h;split at h;rw[ah]at h;obtain⟨o,h1,h⟩:=h;split at h;cases h;exact⟨⟨λ _ h=>by simp[h],λ_ h=>by simp[h],λ_ h=>h⟩,[],by simp,rfl⟩;cases h;cases h
 | .od k,d,m,m',h=>by simp[q6]at h;split at h;rename_i k' aa len;have⟨o,h1,h⟩:=ah.1 h;split at h;cases h;exact⟨⟨λ _ h=>by simp[h],λ_ h=>by simp[h],λ_ h=>h⟩,[⟨.int .i64,(aa:Int)⟩],rfl,rfl⟩;cases h;cases h
 | .p k,d,m,m',h=>by simp[q6]at h;split at h;cases h;exact⟨⟨λ _ h=>by simp[h],λ_ h=>h,λ_ h=>h⟩,[],by simp,rfl⟩;cases h
 | .nil,d,m,m',h=>by simp[q6]at h;split at h;cases h;exact⟨gc.refl _,[],by simp,rfl⟩;cases h
 | .f F fs cs,d,m,m',h=>by simp[q6]at h;split at h;split at h;have⟨m1,h1,h⟩:=ah.1 h;obtain⟨a1,n1,b1,c1⟩:=wI fs _ m m1 h1;obtain⟨a2,n2,b2,c2⟩:=wI cs _ m1 m' h;exact⟨a1.trans a2,n1++n2,by rw[b2,b1,aQ],by simp[Pt.vars,c1,c2]⟩;cases h;cases h
 | .mp k,d,m,m',h=>by simp[q6]at h;split at h;cases h;exact⟨⟨λ _ h=>by simp[h],λ_ h=>h,λ_ h=>h⟩,[],by simp,rfl⟩;cases h
 | .oz _,_,_,_,h=>by simp[q6]at h
 | .a ps,d,m,m',h=>by simp[q6]at h;split at h;exact wI ps _ m m' h;cases h
theorem wI:∀(ps:List (Pt X.ι))(ds:List (DV X))(m m':MG X),tf get ps ds m=some m'->gc m m'/\∃al,m'.eS=m.eS++al/\al.length=(c9 ps).length
 |[],[],m,m',h=>by simp[tf]at h;subst h;exact⟨gc.refl _,[],by simp,rfl⟩
 |p::ps,d::ds,m,m',h=>by simp[tf]at h;have⟨m1,h1,h⟩:=ah.1 h;have⟨a1,n1,b1,c1⟩:=alI p d m m1 h1;have⟨a2,n2,b2,c2⟩:=wI ps ds m1 m' h;exact⟨a1.trans a2,n1++n2,by rw[b2,b1,aQ],by simp[c9,c1,c2]⟩
 |[],_::_,m,m',h |_::_,[],m,m',h=>by simp[tf]at h
end
def zj:AV->List LH->List LH
 | .agg _,hs=> .agd::hs
 |_,hs=>hs
theorem Nl(x:AV)(a b:List LH):zj x (a++b)=zj x a++b:=by cases x<;>rfl
theorem yj{get':Nat->Option aK}{x:AV}{hs:List LH}{p:AV×List LH×List Prop}(h:o9 P get' x hs=some p)(hr:∀k∈refs x,k∉ab):qJ P get' ab x (zj x hs)=some p:=by
 have hd:((refs x).all λk=>!ab.contains k)=true:=by simp;exact hr
 cases x
 all_goals
  simp[zj];unfold qJ;split<;>first |(simp [o9]at h;done) |(rw [aS hd];exact h) |exact h |exact absurd hd ‹_› |(done)
variable {NM:List (Nat×Nat)} {q7:List Nat}
mutual
theorem ajM(hi:∀q∈NM,ab[q.2]? =some q.1)(hv:∀k∈q7,k∉ab)(hrd:∀k,(∃ q,(k,q)∈NM)\/k∈q7->k∈rd)(ho:∀q∈NM,∀c l,get q.1=some (.ev c l)->ef q.2=l.length):
 ∀(p:Pt X.ι)(d:DV X)(m m':MG X),q6 get p d m=some m'->(∀ q∈m'.nm,q∈NM)->(∀ c∈m'.j0,c=true)->(∀ k∈m'.vr,k∈q7)->
 ∃al,m'.eS=m.eS++al/\∃d',(∀ ae,eP ef p (al++ae)=(d',ae))/\(∃ hs obs,(∀ p∈obs,p)/\∀ae,qJ P (dF rd (fB get)) ab (den d) (hs++ae)=some (den d',ae,obs))/\∀j∈bm d,(∃ q,(j,q)∈NM)\/j∈q7
 | .v c,d,m,m',h,hn,hc,hr=>by simp[q6]at h;rw[ah]at h;obtain⟨x,h1,h⟩:=h;cases h;have CE:∀j∈bm d,j∈q7:=λj hj=>hr j (by simp[hj]);obtain⟨hs,obs,p1,q1⟩:=Ae (P:=P) (rd:=rd) h1 (λ b hb=>hc b (by simp[hb])) (λ j hj=>hrd j (.inr (CE j hj)));refine⟨[⟨c,x.1⟩],rfl,.c c x.1,λae=>rfl,⟨zj (den d) hs,obs,p1,λae=>?_⟩,λj hj=> .inr (CE j hj)⟩;rw[<- Nl];exact yj (q1 ae) (λ k hk=>hv k (CE k (by rwa [iQ]at hk)))
 | .o k,d,m,m',h,hn,hc,hr=>by
  simp[q6]at h;split at h;rename_i k' len;rw[ah]at h;obtain⟨o,h1,h⟩:=h;split at h;rename_i c l;cases h;have hq:(k',k)∈NM:=hn _ (by simp);have he:len=l.length:=by have:=hc (az len l.length) (by simp);simpa[az]using this
  refine⟨[],by simp,.own k 0 (ef k),λae=>rfl,⟨[.mut k],[],by simp,λae=>?_⟩,λj hj=>?_⟩;simp[den,qJ,hi _ hq,ho _ hq c l h1,he];simp[bm]at hj;subst hj;exact .inl ⟨k,hq⟩;cases h;cases h
 | .od k,d,m,m',h,hn,hc,hr=>by
  simp[q6]at h;split at h;rename_i k' aa len;rw[ah]at h;obtain⟨o,h1,h⟩:=h;split at h;rename_i c l;cases h;have hq:(k',k)∈NM:=hn _ (by simp);have he:aa+len=l.length:=by have:=hc (az (aa+len) l.length) (by simp);simpa[az]using this
  refine⟨[⟨.int .i64,(aa:Int)⟩],rfl,.own k aa (ef k -aa),λae=>?_,⟨[.mut k],[],by simp,λae=>?_⟩,λj hj=>?_⟩;have:HK (X:=X) ⟨.int .i64,(aa:Int)⟩=aa:=by simp[HK];rw[Wo];simp
  simp[eP,this];simp[den,qJ,hi _ hq,ho _ hq c l h1,show l.length -aa=len by omega];simp[bm,bq]at hj;subst hj;exact .inl ⟨k,hq⟩;cases h;cases h
 | .p k,d,m,m',h,hn,hc,hr=>by simp[q6]at h;split at h;rename_i k';cases h;have hq:(k',k)∈NM:=hn _ (by simp);refine⟨[],by simp,.ptr k 0 0,λae=>rfl,⟨[.mut k],[],by simp,λae=>?_⟩,λj hj=>?_⟩;simp[den,cons_append,fI,qJ,hi _ hq,if_true];simp[bm,bq]at hj;subst hj;exact .inl ⟨k,hq⟩;cases h
 | .nil,d,m,m',h,hn,hc,hr=>by simp[q6]at h;split at h;cases h;refine⟨[],by simp,.nil,λae=>rfl,⟨[.nil],[],by simp,λae=>?_⟩,by simp[bm]⟩;exact yj (by simp[den,cons_append,fI,o9]) (by simp[den,refs]);cases h
 | .f F fs cs,d,m,m',h,hn,hc,hr=>by
  simp[q6]at h;split at h;rename_i F' first caps
  split at h;rename_i e;subst e;rw[ah]at h;obtain⟨m1,h1,h⟩:=h;have hm:=(wI cs _ m1 m' h).1;obtain⟨n1,a1,f',b1,⟨hs1,o1,p1,q1⟩,r1⟩:=yu hi hv hrd ho fs _ m m1 h1 (λ q hq=>hn q (hm.1 q hq)) (λ q hq=>hc q (hm.2.1 q hq)) (λ q hq=>hr q (hm.2.2 q hq));obtain⟨n2,a2,c',b2,⟨hs2,o2,p2,q2⟩,r2⟩:=yu hi hv hrd ho cs _ m1 m' h hn hc hr;refine⟨n1++n2,by rw[a2,a1,aQ],.fn F f' c',λae=>by simp[eP,aQ,b1,b2],⟨.fnw::(hs1++hs2),o1++o2,gP p1 p2,λae=>?_⟩,λj hj=>?_⟩;simp[den,cons_append,aQ,qJ,q1,ai,q2];simp[bm,bM]at hj;exact hj.elim (r1 j) (r2 j);cases h;cases h
 | .mp k,d,m,m',h,hn,hc,hr=>by simp[q6]at h;split at h;rename_i k';cases h;have hq:(k',k)∈NM:=hn _ (by simp);refine⟨[],by simp,.mp k,λae=>rfl,⟨[.mut k],[],by simp,λae=>?_⟩,λj hj=>?_⟩;simp[den,cons_append,fI,qJ,hi _ hq,if_true];simp[bm,bq]at hj;subst hj;exact .inl ⟨k,hq⟩;cases h
 | .oz _,_,_,_,h,_,_,_=>by simp[q6]at h
 | .a ps,d,m,m',h,hn,hc,hr=>by simp[q6]at h;split at h;rename_i ds;have⟨n1,a1,f',b1,⟨hs1,o1,p1,q1⟩,r1⟩:=yu hi hv hrd ho ps ds m m' h hn hc hr;refine⟨n1,a1,.agg f',λae=>by simp[eP,b1],⟨.agw::hs1,o1,p1,λae=>?_⟩,λj hj=>r1 j (by simpa[bm]using hj)⟩;simp[den,cons_append,qJ,q1,ai];cases h
theorem yu(hi:∀q∈NM,ab[q.2]? =some q.1)(hv:∀k∈q7,k∉ab)(hrd:∀k,(∃ q,(k,q)∈NM)\/k∈q7->k∈rd)(ho:∀q∈NM,∀c l,get q.1=some (.ev c l)->ef q.2=l.length):
 ∀(ps:List (Pt X.ι))(ds:List (DV X))(m m':MG X),tf get ps ds m=some m'->(∀ q∈m'.nm,q∈NM)->(∀ c∈m'.j0,c=true)->(∀ k∈m'.vr,k∈q7)->
 ∃al,m'.eS=m.eS++al/\∃ds',(∀ ae,l4 ef ps (al++ae)=(ds',ae))/\(∃ hs obs,(∀ p∈obs,p)/\∀ae,mH P (dF rd (fB get)) ab (bG ds) (hs++ae)=some (bG ds',ae,obs))/\∀j∈aO ds,(∃ q,(j,q)∈NM)\/j∈q7
 |[],[],m,m',h,_,_,_=>by simp[tf,bJ]at h;subst h;exact⟨[],by simp,[],λae=>rfl,⟨[],[],by simp,λae=>rfl⟩,by simp[aO]⟩
 |p::ps,d::ds,m,m',h,hn,hc,hr=>by simp[tf]at h;have⟨m1,h1,h⟩:=ah.1 h;have hm:=(wI ps ds m1 m' h).1;obtain⟨n1,a1,d',b1,⟨hs1,o1,p1,q1⟩,r1⟩:=ajM hi hv hrd ho p d m m1 h1 (λ q hq=>hn q (hm.1 q hq)) (λ q hq=>hc q (hm.2.1 q hq)) (λ q hq=>hr q (hm.2.2 q hq));have⟨n2,a2,ds',b2,⟨hs2,o2,p2,q2⟩,r2⟩:=yu hi hv hrd ho ps ds m1 m' h hn hc hr;refine⟨n1++n2,by rw[a2,a1,aQ],d'::ds',λae=>by simp[l4,aQ,b1,b2],⟨hs1++hs2,o1++o2,gP p1 p2,λae=>?_⟩,λj hj=>?_⟩;simp[bG,aQ,mH,q1,ai,q2];simp[aO,bM]at hj;exact hj.elim (r1 j) (r2 j)
 |[],_::_,m,m',h,_,_,_=>by simp[tf]at h
 |_::_,[],m,m',h,_,_,_=>by simp[tf]at h
end
theorem yK:∀(rs:List (List (Pt X.ι)))(qs:List (List (DV X)))(m m':MG X),K3 get rs qs m=some m'->gc m m'/\∃al,m'.eS=m.eS++al/\al.length=(wE rs).length
 |[],[],m,m',h=>by simp[K3]at h;subst h;exact⟨gc.refl _,[],by simp,rfl⟩
 |r::rs,q::qs,m,m',h=>by simp[K3]at h;have⟨m1,h1,h⟩:=ah.1 h;have⟨a1,n1,b1,c1⟩:=wI r q m m1 h1;have⟨a2,n2,b2,c2⟩:=yK rs qs m1 m' h;exact⟨a1.trans a2,n1++n2,by rw[b2,b1,aQ],by simp[wE,c1,c2]⟩
 |[],_::_,m,m',h |_::_,[],m,m',h=>by simp[K3]at h
theorem Sd(hi:∀q∈NM,ab[q.2]? =some q.1)(hv:∀k∈q7,k∉ab)(hrd:∀k,(∃ q,(k,q)∈NM)\/k∈q7->k∈rd)(ho:∀q∈NM,∀c l,get q.1=some (.ev c l)->ef q.2=l.length):
 ∀(rs:List (List (Pt X.ι)))(qs:List (List (DV X)))(m m':MG X),K3 get rs qs m=some m'->(∀ q∈m'.nm,q∈NM)->(∀ c∈m'.j0,c=true)->(∀ k∈m'.vr,k∈q7)->
 ∃al,m'.eS=m.eS++al/\∃G3,(∀ ae,wG ef rs (al++ae)=(G3,ae))/\(∃ hs obs,(∀ p∈obs,p)/\Ba P (dF rd (fB get)) ab (qs.map bG) hs=some (G3.map bG,obs))/\∀j∈(qs.map aO).flatten,(∃ q,(j,q)∈NM)\/j∈q7
 |[],[],m,m',h,_,_,_=>by simp[K3]at h;subst h;exact⟨[],by simp,[],λae=>rfl,⟨[],[],by simp,rfl⟩,by simp⟩
 |r::rs,q::qs,m,m',h,hn,hc,hr=>by simp[K3]at h;have⟨m1,h1,h⟩:=ah.1 h;have hm:=(yK rs qs m1 m' h).1;obtain⟨n1,a1,d',b1,⟨hs1,o1,p1,q1⟩,r1⟩:=yu (P:=P) hi hv hrd ho r q m m1 h1 (λ q hq=>hn q (hm.1 q hq)) (λ q hq=>hc q (hm.2.1 q hq)) (λ q hq=>hr q (hm.2.2 q hq));have⟨n2,a2,ds',b2,⟨hs2,o2,p2,q2⟩,r2⟩:=Sd hi hv hrd ho rs qs m1 m' h hn hc hr;refine⟨n1++n2,by rw[a2,a1,aQ],d'::ds',λae=>by simp[wG,b1,b2],⟨hs1::hs2,o1++o2,gP p1 p2,?_⟩,λj hj=>?_⟩;have:=q1 [];rw[append_nil]at this;simp[Ba,this,q2];simp only[bE,flatten_cons,bM]at hj;exact hj.elim (r1 j) (r2 j)
 |[],_::_,m,m',h,_,_,_ |_::_,[],m,m',h,_,_,_=>by simp[K3]at h
theorem mI:∀(os:List (Nat×OP X.ι))(m m':MG X),CJ get os m=some m'->gc m m'/\∃al,m'.eS=m.eS++al/\al.length=(d7 os).length
 |[],m,m',h=>by simp[CJ]at h;subst h;exact⟨gc.refl _,[],by simp,rfl⟩
 |(k,op)::r,m,m',h=>by simp[CJ]at h;rw[ah]at h;obtain⟨o,h1,h⟩:=h;split at h;rename_i c c' l;rw[ah]at h;obtain⟨l',h2,h⟩:=h;obtain⟨a2,n2,b2,c2⟩:=mI r _ m' h;refine⟨gc.trans (b:=⟨m.nm++[(rL m k,k)],m.eS++[⟨.sl c,l'⟩],m.j0,m.vr⟩) ⟨λ _ h=>by simp[h],λ_ h=>h,λ_ h=>h⟩ a2,[⟨.sl c,l'⟩]++n2,?_,by simp[d7,c2]⟩;rw[b2,aQ];rename_i kc vc u9 uu l;split at h;rw[ah]at h;obtain⟨l',h2,h⟩:=h;obtain⟨a2,n2,b2,c2⟩:=mI r _ m' h;refine⟨gc.trans (b:=⟨m.nm++[(rL m k,k)],m.eS++[⟨.mp kc vc,l'⟩],m.j0,m.vr⟩) ⟨λ _ h=>by simp[h],λ_ h=>h,λ_ h=>h⟩ a2,[⟨.mp kc vc,l'⟩]++n2,?_,by simp[d7,c2]⟩;rw[b2,aQ];cases h;rename_i sz rows sz' rows';split at h;rw[ah]at h;obtain⟨m1,h2,h⟩:=h;obtain⟨a1,n1,b1,c1⟩:=yK rows _ _ m1 h2;have⟨a2,n2,b2,c2⟩:=mI r m1 m' h;refine⟨gc.trans (gc.trans (b:=⟨m.nm++[(rL m k,k)],m.eS,m.j0,m.vr⟩) ⟨λ _ h=>by simp[h],λ_ h=>h,λ_ h=>h⟩ a1) a2,n1++n2,?_,by simp[d7,c1,c2]⟩;rw[b2,b1,aQ];cases h;cases h
theorem Ej:∀(os:List (Nat×OP X.ι))(m m':MG X),CJ get os m=some m'->(∀ q∈m'.nm,q∈NM)->∃al,m'.eS=m.eS++al/\∀ae,∀k∈os.map (·.1),∃k' o,(k',k)∈NM/\get k'=some o/\∀c l,o= .ev c l->(k,List.length l)∈lens os (al++ae)
 |[],m,m',h,_=>by simp[CJ]at h;subst h;exact⟨[],by simp,λae k hk=>by simp at hk⟩
 |(k,op)::r,m,m',h,hn=>by
  simp[CJ]at h;rw[ah]at h;obtain⟨o,h1,h⟩:=h;split at h;rename_i c c' l;rw[ah]at h;obtain⟨l',h2,h⟩:=h;have hm:=(mI r _ m' h).1;obtain⟨n2,b2,c2⟩:=Ej r _ m' h hn;refine⟨[⟨.sl c,l'⟩]++n2,by rw[b2,aQ],λae j hj=>?_⟩;simp only[bE,aH]at hj;by_cases hjk:j=k;subst hjk;refine⟨_,_,hn _ (hm.1 _ (by simp)),h1,λc2 l2 he=>?_⟩;injection he with e1 e2;subst e1;subst e2;have:=congrArg List.length (ji h2).2;simp at this;rw[this];exact List.mem_cons_self;rcases hj with rfl |hj;exact(hjk rfl).elim;have⟨k',o',g1,g2,g3⟩:=c2 ae j hj;exact⟨k',o',g1,g2,λc l he=>dS _ (g3 c l he)⟩;rename_i kc vc u9 uu l;split at h;rw[ah]at h;obtain⟨l',h2,h⟩:=h;have hm:=(mI r _ m' h).1;obtain⟨n2,b2,c2⟩:=Ej r _ m' h hn;refine⟨[⟨.mp kc vc,l'⟩]++n2,by rw[b2,aQ],λae j hj=>?_⟩;simp only[bE,aH]at hj;by_cases hjk:j=k;subst hjk;exact⟨_,_,hn _ (hm.1 _ (by simp)),h1,λc2 l2 he=>by cases he⟩;rcases hj with rfl |hj;exact(hjk rfl).elim;exact c2 ae j hj;cases h;rename_i sz rows sz' rows';split at h;have⟨m1,h2,h⟩:=ah.1 h;obtain⟨a1,n1,b1,c1⟩:=yK rows _ _ m1 h2;have hm:=(mI r _ m' h).1;obtain⟨n2,b2,c2⟩:=Ej r _ m' h hn;refine⟨n1++n2,by rw[b2,b1,aQ],λae j hj=>?_⟩;simp only[bE,aH]at hj;have hd:(n1++n2++ae).drop (wE rows).length=n2++ae:=by rw[<- c1,aQ,List.drop_left]
  simp only[lens,hd];by_cases hjk:j=k;subst hjk;exact⟨_,_,hn _ (hm.1 _ (a1.1 _ (by simp))),h1,λc2 l2 he=>by cases he⟩;rcases hj with rfl |hj;exact(hjk rfl).elim;exact c2 ae j hj;cases h;cases h
theorem Lu:∀(os:List (Nat×OP X.ι))(L:List (DC X)),((lens os L).map (·.1)).Sublist (os.map (·.1))
 |[],_=>by simp[lens]
 |(k,.l c)::r,L=>by simp[lens];split;exact(Lu r _).cons_cons _;exact List.nil_sublist _
 |(k,.m kc vc)::r,L |(k,.c sz rows)::r,L=>(Lu r _).cons _
def ajN(get':Nat->Option aK)(NM:List (Nat×Nat))(q7:List Nat)(bs:List OB)(ks:List Nat):Prop:=
 ∀(j:Nat) hs q o,bs[j]? =some (.E7 hs)->ks[j]? =some q->get' q=some o->∀k∈PO o,(∃ z,(k,z)∈NM)\/k∈q7
theorem Nn{sz:Nat}{rows:List (List (DV X))}{k:Nat}(h:k∈PO (bI (.cells sz rows))):k∈(rows.map aO).flatten:=by simp[PO,bI]at h;obtain⟨a,⟨r,hr,rfl⟩,hk⟩:=h;rw[iR]at hk;exact List.mem_flatten.2 ⟨_,mem_map.2 ⟨r,hr,rfl⟩,hk⟩
theorem acn:∀ts:List Tree,dh (ts.map AV.t)=[]
 |[]=>rfl
 |t::ts=>by simp[dh,refs,acn ts]
theorem aiM{P:Program}{get:Nat->Option aK}:∀(ts:List Tree)(hs:List LH),mU P get (ts.map AV.t) hs=some (ts.map AV.t,hs,[])
 |[],hs=>rfl
 |t::ts,hs=>by simp[mU,o9,aiM ts hs]
theorem ajO{P:Program}{get:Nat->Option aK}{ab:List Nat}(v:TV):qJ P get ab v.av []=some (v.av,[],[]):=by rcases v with x |cs;rfl;have h:refs (.agg (cs.map AV.t))=[]:=acn cs;simp[TV.av,qJ,h,o9,aiM]
theorem aaT{P:Program}{get:Nat->Option aK}{ab:List Nat}:∀rows:List (TV×TV),Ba P get ab (rows.map λq=>[q.1.av,q.2.av]) (rows.map λ_=>[])=some (rows.map λq=>[q.1.av,q.2.av],[])
 |[]=>rfl
 |q::rows=>by simp[Ba,mH,ajO,aaT rows]
theorem Ag(hi:∀q∈NM,ab[q.2]? =some q.1)(hv:∀k∈q7,k∉ab)(hrd:∀k,(∃ q,(k,q)∈NM)\/k∈q7->k∈rd)(ho:∀q∈NM,∀c l,get q.1=some (.ev c l)->ef q.2=l.length):
 ∀(os:List (Nat×OP X.ι))(m m':MG X),CJ get os m=some m'->(∀ q∈m'.nm,q∈NM)->(∀ c∈m'.j0,c=true)->(∀ k∈m'.vr,k∈q7)->
 ∃al,m'.eS=m.eS++al/\∃xs:List (Nat×bp X),(∀ ae,bU ef os (al++ae)=xs.map λp=>(p.1,some p.2))/\
  ∃bs mo,(∀ p∈mo,p)/\Hl P (dF rd (fB get)) ab (os.map λp=>(ab[p.1]?).getD 0) bs=some (xs.map λp=>bI p.2,mo)/\ajN (dF rd (fB get)) NM q7 bs (os.map λp=>(ab[p.1]?).getD 0)
 |[],m,m',h,_,_,_=>by simp[CJ]at h;subst h;exact⟨[],by simp,[],λae=>rfl,[],[],by simp,rfl,λj hs q o h=>by simp at h⟩
 |(k,op)::r,m,m',h,hn,hc,hr=>by
  simp[CJ]at h;rw[ah]at h;obtain⟨o,h1,h⟩:=h;split at h;rename_i c c' l;have⟨l',h2,h⟩:=ah.1 h;have hm:=(mI r _ m' h).1;have hq:(rL m k,k)∈NM:=hn _ (hm.1 _ (by simp));have hid:(ab[k]?).getD 0=rL m k:=by rw[hi _ hq];rfl
  have hget:=eD (hrd (rL m k) (.inl ⟨k,hq⟩)) h1;have⟨h3,h4⟩:=ji h2;obtain⟨n2,a2,xs,b2,bs,mo,p2,q2,r2⟩:=Ag hi hv hrd ho r _ m' h hn hc hr;refine⟨[⟨.sl c,l'⟩]++n2,by rw[a2,aQ],(k,.ev c l')::xs,λae=>by simp[bU,b2],.dat (CT.sz X c,l'.map (CT.row X.toSE c))::bs,((bI (.ev c' l)).sz=CT.sz X c/\dK ((bI (.ev c' l)).rows.take (l'.map (CT.row X.toSE c)).length)=aI (l'.map (CT.row X.toSE c)))::mo,?_,?_,?_⟩;intro p hp;rcases aH.1 hp with rfl |hp;refine⟨h3,?_⟩;simp[bI,h4];rw[take_of_length_le (by simp[aI])];simp[dK,aI,wk];exact p2 p hp;simp[bE,Hl,VH,hid,hget,ai,q2,cons_append,fI];rfl;intro j hs q o' hj hq' ho';cases j with
  |zero=>simp at hj
  |succ j=>exact r2 j hs q o' (by simpa using hj) (by simpa using hq') ho'
  rename_i kc vc u9 uu l;split at h;rename_i hone;have⟨l',h2,h⟩:=ah.1 h;have hm:=(mI r _ m' h).1;have hq:(rL m k,k)∈NM:=hn _ (hm.1 _ (by simp));have hid:(ab[k]?).getD 0=rL m k:=by rw[hi _ hq];rfl
  have hget:=eD (hrd (rL m k) (.inl ⟨k,hq⟩)) h1;have hden:bI (.map u9 uu l)=bI (.map kc vc l'):=by have⟨e,h2⟩:=rR h2;injection e with e1 e2;subst e1;subst e2;subst h2;rfl
  obtain⟨n2,a2,xs,b2,bs,mo,p2,q2,r2⟩:=Ag hi hv hrd ho r _ m' h hn hc hr;rcases hone with hone |_;have hab:bI (.map kc vc l')=ir (List.length l',l'.map λq=>CT.row X.toSE kc q.1++CT.row X.toSE vc q.2):=by simp only[bI,ir,aI,map_map];congr 1;refine map_congr_left λq _=>?_;obtain⟨t1,g1,g2⟩:=row_one hone.1 q.1;obtain⟨t2,g3,g4⟩:=row_one hone.2 q.2;simp[g1,g2,g3,g4,TV.av]
  refine⟨[⟨.mp kc vc,l'⟩]++n2,by rw[a2,aQ],(k,.map kc vc l')::xs,λae=>by simp[cons_append,fI,bU,b2,bE],.dat (List.length l',l'.map λq=>CT.row X.toSE kc q.1++CT.row X.toSE vc q.2)::bs,((bI (.map u9 uu l)).sz=List.length l'/\dK ((bI (.map u9 uu l)).rows.take (l'.map λq=>CT.row X.toSE kc q.1++CT.row X.toSE vc q.2).length)=aI (l'.map λq=>CT.row X.toSE kc q.1++CT.row X.toSE vc q.2))::mo,?_,?_,?_⟩;intro p hp;rcases aH.1 hp with rfl |hp;rw[hden,hab];refine⟨rfl,?_⟩;simp[ir];rw[take_of_length_le (by simp[aI])];simp[dK,aI,Function.comp_def,wk];exact p2 p hp;simp[bE,Hl,VH,hid,hget,ai,q2,cons_append,fI,hab];intro j hs q o' hj hq' ho';cases j with
  |zero=>simp at hj
  |succ j=>exact r2 j hs q o' (by simpa using hj) (by simpa using hq') ho'
  refine⟨[⟨.mp kc vc,l'⟩]++n2,by rw[a2,aQ],(k,.map kc vc l')::xs,λae=>by simp[cons_append,fI,bU,b2,bE],.E7 ((l'.map λq=>(CT.tv X.toSE kc q.1,CT.tv X.toSE vc q.2)).map λ_=>[])::bs,mo,p2,?_,?_⟩;have hlr:=aaT (P:=P) (get:=dF rd (fB get)) (ab:=ab) (l'.map λq=>(CT.tv X.toSE kc q.1,CT.tv X.toSE vc q.2));have hdr:(bI (.map kc vc l')).rows=(l'.map λq=>(CT.tv X.toSE kc q.1,CT.tv X.toSE vc q.2)).map λq=>[q.1.av,q.2.av]:=by simp only[bI,map_map];rfl
  simp only[bE,Hl,VH,hid,hget,ai,q2,hden,hdr,hlr,fI];rw[<- hdr];intro j hs q o' hj hq' ho';cases j with
  |zero=>
   simp[bE,List.getElem?_cons_zero,bJ]at hq';subst hq';rw[hid,hget]at ho';injection ho' with ho';subst ho';intro k hk;rw[hden]at hk;simp only[PO,bI,mem_flatMap,mem_map]at hk;obtain⟨_,⟨q,_,rfl⟩,hk⟩:=hk;simp[dh,Ad,append_nil,bn]at hk
  |succ j=>exact r2 j hs q o' (by simpa using hj) (by simpa using hq') ho'
  cases h;rename_i sz rows sz' rows';split at h;rename_i hsz;have⟨m1,h2,h⟩:=ah.1 h;have hm1:=(yK rows _ _ m1 h2).1;have hm:=(mI r _ m' h).1;have hq:(rL m k,k)∈NM:=hn _ (hm.1 _ (hm1.1 _ (by simp)));have hid:(ab[k]?).getD 0=rL m k:=by rw[hi _ hq];rfl
  have hget:=eD (hrd (rL m k) (.inl ⟨k,hq⟩)) h1;obtain⟨n1,a1,qs,b1,⟨hs1,o1,p1,q1⟩,r1⟩:=Sd (P:=P) hi hv hrd ho rows _ _ m1 h2 (λ q hq=>hn q (hm.1 q hq)) (λ q hq=>hc q (hm.2.1 q hq)) (λ q hq=>hr q (hm.2.2 q hq));obtain⟨n2,a2,xs,b2,bs,mo,p2,q2,r2⟩:=Ag hi hv hrd ho r _ m' h hn hc hr;subst hsz;refine⟨n1++n2,by rw[a2,a1,aQ],(k,.cells sz qs)::xs,λae=>by simp[aQ,bU,b1,b2,bE],.E7 hs1::bs,o1++mo,gP p1 p2,?_,?_⟩;simp[bE,Hl,VH,hid,hget,ai,bI,q1,q2];intro j hs q o' hj hq' ho';cases j with
  |zero=>
   simp[bE,List.getElem?_cons_zero,bJ]at hq';rw[<- hq',hid,hget]at ho';injection ho' with ho';subst ho';exact λz hz=>r1 z (Nn hz)
  |succ j=>exact r2 j hs q o' (by simpa using hj) (by simpa using hq') ho'
  cases h;cases h
end
end
end Go.Gb
namespace Go.Gb
open Go.RowKit
section
variable {X:SX} {A:Type}
theorem ag7:∀(l:List (CT X.ι))(v:VT (X:=X) l),(wF l v).map (·.c)=l
 |[],_ |[_],_=>rfl
 |c::c'::l,v=>by simp[wF,ag7 (c'::l) v.2]
theorem Qc:∀{l:List Tree},(∀ t∈l,t.flat)->qg (l.map AV.t)
 |[],_=>trivial
 |t::l,h=>⟨h t (by simp),Qc (λ u hu=>h u (by simp[hu]))⟩
theorem aco{c:CT X.ι}(h:xC c=true)(x:CT.T X.toSE c):yE (CT.tv X.toSE c x).av:=by
 have hf:=vC h x;cases c
 case st i=>exact Qc hf
 all_goals first |exact hf _ (bq.2 rfl) |cases h
section
variable {ol:Nat->Nat}
mutual
theorem anN:∀(p:Pt X.ι)(L:List (DC X))(cs:List (CT X.ι)),L.map (·.c)=p.vars++cs->p.vars.all xC=true->yE (den (eP ol p L).1)/\(eP ol p L).2.map (·.c)=cs
 | .v c,L,cs,h,hs=>by
  match L,h with
  |d::r,h=>
   simp[Pt.vars]at h;simp[Pt.vars]at hs;exact⟨aco (h.1 ▸ hs) d.x,h.2⟩
  |[],h=>simp[Pt.vars]at h
 | .o k,L,cs,h,_ | .p k,L,cs,h,_ | .mp k,L,cs,h,_ | .oz k,L,cs,h,_ | .nil,L,cs,h,_=>⟨trivial,by simpa[Pt.vars,eP]using h⟩
 | .od k,L,cs,h,_=>by
  match L,h with
  |d::r,h=>
   simp[Pt.vars]at h;exact⟨trivial,h.2⟩
  |[],h=>simp[Pt.vars]at h
 | .f F fs ps,L,cs,h,hs=>by simp only[Pt.vars,List.all_append,aY]at hs;simp[Pt.vars]at h;obtain⟨a1,a2⟩:=CK fs L _ h hs.1;obtain⟨b1,b2⟩:=CK ps _ _ a2 hs.2;exact⟨⟨a1,b1⟩,b2⟩
 | .a ps,L,cs,h,hs=>by simp only[Pt.vars]at h hs;exact CK ps L cs h hs
theorem CK:∀(ps:List (Pt X.ι))(L:List (DC X))(cs:List (CT X.ι)),L.map (·.c)=c9 ps++cs->(c9 ps).all xC=true->qg (bG (l4 ol ps L).1)/\(l4 ol ps L).2.map (·.c)=cs
 |[],L,cs,h,_=>⟨trivial,by simpa[c9,l4]using h⟩
 |p::ps,L,cs,h,hs=>by simp only[c9,List.all_append,aY]at hs;simp[c9]at h;obtain⟨a1,a2⟩:=anN p L _ h hs.1;obtain⟨b1,b2⟩:=CK ps _ _ a2 hs.2;exact⟨⟨a1,b1⟩,b2⟩
end
mutual
theorem anO:∀(p:Pt X.ι)(L:List (DC X)),∀j∈bm (eP ol p L).1,j∈p.refs
 | .v c,L,j,h=>by cases L<;>simp[eP,bm]at h
 | .o k,L,j,h | .p k,L,j,h | .mp k,L,j,h | .oz k,L,j,h=>by simpa[eP,bm,Pt.refs]using h
 | .nil,L,j,h=>by simp[eP,bm]at h
 | .od k,L,j,h=>by cases L<;>simp[eP,bm]at h<;>simp[Pt.refs,h]
 | .f F fs ps,L,j,h=>by simp[eP,bm]at h;simp[Pt.refs];exact h.imp (yL fs _ j) (yL ps _ j)
 | .a ps,L,j,h=>by simp[eP]at h;simp[Pt.refs];exact yL ps _ j h
theorem yL:∀(ps:List (Pt X.ι))(L:List (DC X)),∀j∈aO (l4 ol ps L).1,j∈Bl ps
 |[],L,j,h=>by simp[l4,aO]at h
 |p::ps,L,j,h=>by simp[l4,aO]at h;simp[Bl];exact h.imp (anO p _ j) (yL ps _ j)
end
theorem Lv:∀(rs:List (List (Pt X.ι)))(L:List (DC X))(cs:List (CT X.ι)),L.map (·.c)=wE rs++cs->(wG ol rs L).2.map (·.c)=cs/\((wE rs).all xC=true->∀r∈(wG ol rs L).1,qg (bG r))
 |[],L,cs,h=>⟨by simpa[wE,wG]using h,by simp[wG]⟩
 |r::rs,L,cs,h=>by simp[wE]at h;have step:(l4 ol r L).2.map (·.c)=wE rs++cs:=vi r L _ h;obtain⟨b1,b2⟩:=Lv rs _ _ step;refine⟨b1,λhs q hq=>?_⟩;simp only[wE,List.all_append,aY]at hs;simp[wG]at hq;rcases hq with rfl |hq;exact(CK r L _ h hs.1).1;exact b2 hs.2 q hq
where
 vi (ps:List (Pt X.ι)) (L:List (DC X)) (cs:List (CT X.ι)) (h:L.map (·.c)=c9 ps++cs):(l4 ol ps L).2.map (·.c)=cs:=p5 ps L cs h
 E6:∀(p:Pt X.ι)(L:List (DC X))(cs:List (CT X.ι)),L.map (·.c)=p.vars++cs->(eP ol p L).2.map (·.c)=cs
  | .v c,L,cs,h=>by
   match L,h with
   |d::r,h=>simp only[Pt.vars,bE,List.singleton_append,List.cons.injEq]at h;exact h.2
   |[],h=>simp[Pt.vars]at h
  | .o k,L,cs,h=>by simpa[Pt.vars,eP]using h
  | .p k,L,cs,h=>by simpa[Pt.vars,eP]using h
  | .mp k,L,cs,h=>by simpa[Pt.vars,eP]using h
  | .oz k,L,cs,h=>by simpa[Pt.vars,eP]using h
  | .nil,L,cs,h=>by simpa[Pt.vars,eP]using h
  | .od k,L,cs,h=>by
   match L,h with
   |d::r,h=>simp only[Pt.vars,bE,List.singleton_append,List.cons.injEq]at h;exact h.2
   |[],h=>simp[Pt.vars]at h
  | .f F fs ps,L,cs,h=>by simp only[Pt.vars,aQ]at h;exact p5 ps _ _ (p5 fs L _ h)
  | .a ps,L,cs,h=>by simp only[Pt.vars]at h;exact p5 ps L cs h
 p5:∀(ps:List (Pt X.ι))(L:List (DC X))(cs:List (CT X.ι)),L.map (·.c)=c9 ps++cs->(l4 ol ps L).2.map (·.c)=cs
  |[],L,cs,h=>by simpa[c9,l4]using h
  |p::ps,L,cs,h=>by simp only[c9,aQ]at h;exact p5 ps _ _ (E6 p L _ h)
theorem Ww:∀(rs:List (List (Pt X.ι)))(L:List (DC X)),∀j∈((wG ol rs L).1.map aO).flatten,j∈rs.flatMap Bl
 |[],L,j,h=>by simp[wG]at h
 |r::rs,L,j,h=>by simp only[wG,bE,flatten_cons,bM]at h;simp only[List.flatMap_cons,bM];exact h.imp (yL r _ j) (Ww rs _ j)
theorem yM:∀(O:List (Nat×OP X.ι))(L:List (DC X)),((dn (bU ol O L)).map (·.1)).Sublist (O.map (·.1))/\(∀ p∈dn (bU ol O L),∃op,(p.1,op)∈O/\∀j∈eo p.2,j∈op.refs)/\
 (L.map (·.c)=d7 O->(O.all λq=>match q.2 with | .l c=>xC c | .m _ _=>false | .c _ rows=>(wE rows).all xC)=true->∀p∈dn (bU ol O L),∀r∈(bI p.2).rows,qg r)
 |[],L=>⟨by simp[bU,dn],by simp[bU,dn],by simp[bU,dn]⟩
 |(k,.l c)::O,L=>by
  match L with
  |[]=>exact⟨by simp[bU,dn],by simp[bU,dn],by simp[bU,dn]⟩
  |⟨.sl c',x⟩::L=>
   have⟨h1,h2,h3⟩:=yM O L;refine⟨?_,?_,?_⟩;simp only[bU,dn,bE];exact h1.cons_cons _;intro p hp;simp[bU,dn]at hp;rcases hp with rfl |hp;exact⟨.l c,by simp,by simp[eo]⟩;have⟨op,g1,g2⟩:=h2 p hp;exact⟨op,dS _ g1,g2⟩;intro hL hs p hp r hr;simp only[bE,d7,List.cons.injEq]at hL;simp only[all_cons,aY]at hs;simp[bU,dn]at hp;rcases hp with rfl |hp;obtain⟨e,_⟩:=hL;injection e with e;simp only[bI,aI,mem_map]at hr;obtain⟨q,⟨y,hy,rfl⟩,rfl⟩:=hr;exact Qc (vC (e ▸ hs.1) y);exact h3 hL.2 hs.2 p hp r hr
  |⟨.int _,x⟩::L=>exact⟨by simp[bU,dn],by simp[bU,dn],by simp[bU,dn]⟩
  |⟨.bool,x⟩::L=>exact⟨by simp[bU,dn],by simp[bU,dn],by simp[bU,dn]⟩
  |⟨.str,x⟩::L=>exact⟨by simp[bU,dn],by simp[bU,dn],by simp[bU,dn]⟩
  |⟨.any,x⟩::L=>exact⟨by simp[bU,dn],by simp[bU,dn],by simp[bU,dn]⟩
  |⟨.mp _ _,x⟩::L=>exact⟨by simp[bU,dn],by simp[bU,dn],by simp[bU,dn]⟩
  |⟨.st _,x⟩::L=>exact⟨by simp[bU,dn],by simp[bU,dn],by simp[bU,dn]⟩
 |(k,.m kc vc)::O,L=>by
  match L with
  |[]=>exact⟨by simp[bU,dn],by simp[bU,dn],by simp[bU,dn]⟩
  |⟨.mp u9 uu,x⟩::L=>
   have⟨h1,h2,h3⟩:=yM O L;refine⟨?_,?_,?_⟩;simp only[bU,dn,bE];exact h1.cons_cons _;intro p hp;simp[bU,dn,aH]at hp;rcases hp with rfl |hp;exact⟨.m kc vc,by simp,by simp[eo]⟩;have⟨op,g1,g2⟩:=h2 p hp;exact⟨op,dS _ g1,g2⟩;intro hL hs;simp at hs
  |⟨.sl _,x⟩::L=>exact⟨by simp[bU,dn],by simp[bU,dn],by simp[bU,dn]⟩
  |⟨.int _,x⟩::L=>exact⟨by simp[bU,dn],by simp[bU,dn],by simp[bU,dn]⟩
  |⟨.bool,x⟩::L=>exact⟨by simp[bU,dn],by simp[bU,dn],by simp[bU,dn]⟩
  |⟨.str,x⟩::L=>exact⟨by simp[bU,dn],by simp[bU,dn],by simp[bU,dn]⟩
  |⟨.any,x⟩::L=>exact⟨by simp[bU,dn],by simp[bU,dn],by simp[bU,dn]⟩
  |⟨.st _,x⟩::L=>exact⟨by simp[bU,dn],by simp[bU,dn],by simp[bU,dn]⟩
 |(k,.c sz rows)::O,L=>by have⟨h1,h2,h3⟩:=yM O (wG ol rows L).2;refine⟨?_,?_,?_⟩;simp only[bU,dn,bE];exact h1.cons_cons _;intro p hp;simp[bU,dn,aH]at hp;rcases hp with rfl |hp;exact⟨.c sz rows,by simp,λj hj=>Ww rows L j hj⟩;have⟨op,g1,g2⟩:=h2 p hp;exact⟨op,dS _ g1,g2⟩;intro hL hs p hp r hr;simp[d7]at hL;simp only[all_cons,aY]at hs;obtain⟨e1,e2⟩:=Lv (ol:=ol) rows L _ hL;simp[bU,dn,aH]at hp;rcases hp with rfl |hp;simp[bI,mem_map]at hr;obtain⟨q,hq,rfl⟩:=hr;exact e2 hs.1 q hq;exact h3 e1 hs.2 p hp r hr
end
theorem Qd(k:Nat):∀os:List (Nat×bp X),pj (sZ os) k=(uc os k).map bI
 |[]=>rfl
 |(j,o)::r=>by simp[sZ,pj,uc];split;rfl;exact Qd k r
theorem Wx(f:Nat->Nat)(c:CT X.ι)(x:CT.T X.toSE c):gO f (CT.tv X.toSE c x).av=(CT.tv X.toSE c x).av:=(Af f (.c c x)).symm
theorem aef(f:Nat->Nat)(o:bp X):bI (qS f o)=Cx f (bI o):=by
 cases o with
 |cells sz rows=>simp only[qS,bI,Cx,map_map];congr 1;exact map_congr_left λr _=>H6 f r
 |ev c l=>simp only[qS,bI,Cx,aI,map_map];congr 1;exact map_congr_left λr _=>(ag5 f _).symm
 |map kc vc l=>simp only[qS,bI,Cx,map_map];congr 1;exact map_congr_left λr _=>by simp[vv,Wx]
theorem ajP(i:Nat)(ab:List Nat)(os:List (Nat×bp X)):iO (Sp i ab os)=Bm i ab (sZ os):=by simp[Sp,sD];congr 1;simp only[iO,map_map];refine map_congr_left λp _=>?_;simp[Qd];cases uc os p.2<;>simp[aef];simp[iO,sZ,List.filter_map];refine map_congr_left λq _=>?_;simp[aef]
theorem Wy{ds:List (DV X)}:(∀ j∈refs (den (yI ds)),j∈aO ds)/\(qg (bG ds)->yE (den (yI ds))):=by
 match ds with
 |[]=>exact⟨λ j hj=>by simp[yI,den,bG,refs,dh]at hj,λ_=>by simp[yI];exact trivial⟩
 |[d]=>exact⟨λ j hj=>by simp[yI,iQ]at hj;simpa[aO]using hj,λh=>h.1⟩
 |d::e::r=>exact⟨λ j hj=>by simp[yI,den,refs,iR]at hj;exact hj,λh=>h⟩
theorem aaU:∀xs:List (Nat×bp X),dn (xs.map λp=>(p.1,some p.2))=xs
 |[]=>rfl
 |p::xs=>by simp[dn,aaU xs]
theorem acp{P:Program}{g:dE X}{F:FuncId}(hg:MY P F g){i:Nat}{first args caps:List (DV X)}{get:Nat->Option (bp X)}{k:KK X A}{r:A}(h:ag6 g i (first++args++caps) get k=some r):
 ∃cJ rd wr dv upd out,lH P i (den (.fn F first caps)) (bG args) cJ (dF rd (fB get))=some out/\iM out.obs/\out.v=den dv/\out.upd=iO upd/\(∀ p∈upd,p.1=cx i\/p.1∈wr)/\k dv upd rd wr=some r:=by
 unfold ag6 at h;rw[ah]at h;obtain⟨m1,h1,h⟩:=h;rw[ah]at h;obtain⟨m,h2,h⟩:=h;have⟨h3,h⟩:=dN h;rw[ah]at h;obtain⟨v,h4,h⟩:=h;have⟨h5,h⟩:=qh h;rw[ah]at h;obtain⟨rr,h6,h⟩:=h;simp at h3;obtain⟨hok,CL⟩:=h3;simp only at h;generalize ld:(List.range g.ju.length).map (rL m)=ab at h CL;simp only[dE.ok,aY,bD]at hok;obtain⟨⟨⟨⟨n1,n2⟩,n3⟩,n4⟩,n5⟩:=hok;simp only[okG,aY,bD]at CL;obtain⟨⟨hnd,hnm⟩,CE⟩:=CL;have hlen:ab.length=g.ju.length:=by rw[<- ld];simp
 have hi:∀q∈m.nm,ab[q.2]? =some q.1:=by intro q hq;have:=all_eq_true.1 hnm q hq;split at this;rename_i k' e;rw[e,Nat.eq_of_beq_eq_true this];cases this
 have hv:∀k∈m.vr,k∉ab:=λk hk=>by have:=all_eq_true.1 CE k hk;simpa using this
 have hrd:∀k,(∃ q,(k,q)∈m.nm)\/k∈m.vr->k∈ab++m.vr:=by rintro k (⟨q,hq⟩ |hk);exact mem_append_left _ (bR (hi _ hq));exact mem_append_right _ hk
 have hm2:=(mI _ _ _ h2).1;have xa:=Wn h4;obtain⟨_,nA,dA,lA⟩:=wI _ _ _ _ h1;simp at dA;obtain⟨nB,dB,lB⟩:=Ej (NM:=m.nm) _ _ _ h2 (λ q hq=>hq);have hL:m.eS=nA++nB:=by rw[dB,dA]
 have hdrop:(wF _ v).drop (c9 g.qq).length=nB:=by rw[xa,hL,<- lA,List.drop_left]
 have htake:(wF _ v).take (c9 g.qq).length=nA:=by rw[xa,hL,<- lA,List.take_left]
 have ho:∀q∈m.nm,∀c l,get q.1=some (.ev c l)->Eh g.ju nB q.2=l.length:=by
  rintro⟨p,q⟩ hq c l hl;have hq2:=hi _ hq;have hqn:q<g.ju.length:=by rw[<- hlen];exact(bZ.1 hq2).1
  obtain⟨p',o,g1,g2,g3⟩:=lB [] q (by rw[n1];exact List.mem_range.2 hqn);have:p'=p:=by have e1:=hi _ g1;rw[hq2]at e1;injection e1 with e1;exact e1.symm
  subst this;simp at hl;rw[hl]at g2;injection g2 with g2;have h3:=g3 c l g2.symm;rw[append_nil]at h3;have hk:=(Lu g.ju nB).nodup (by rw[n1];exact List.nodup_range);simp[Eh,vz hk h3]
 obtain⟨T8,LL,ds',eA,⟨hs,obs,pA,qA⟩,rA⟩:=yu (P:=P) (ab:=ab) (rd:=ab++m.vr) (NM:=m.nm) (q7:=m.vr) (ef:=Eh g.ju nB) hi hv hrd ho _ _ _ _ h1 (λ q hq=>hm2.1 q hq) (λ c hc=>h5 c (hm2.2.1 c hc)) (λ q hq=>hm2.2.2 q hq);obtain⟨nB',dB',xs,eB,bs,mo,pB,qB,rB⟩:=Ag (P:=P) (ab:=ab) (rd:=ab++m.vr) (NM:=m.nm) (q7:=m.vr) (ef:=Eh g.ju nB) hi hv hrd ho _ _ _ h2 (λ q hq=>hq) h5 (λ q hq=>hq);have eqA:T8=nA:=by simp at LL;rw[<- LL,dA]
 have eqB:nB'=nB:=List.append_cancel_left (dB'.symm.trans dB);subst eqA eqB;have Lz:=eA [];have Ly:=eB [];rw[append_nil]at Lz Ly;have hargs:g.args v=ds':=by simp[dE.args,Wp,hdrop,htake,Lz]
 have ua:g.de v=xs:=by simp[dE.de,N5,hdrop,Ly,aaU]
 have Wr:(g.ju.map λp=>(ab[p.1]?).getD 0)=ab:=by
  have:(g.ju.map λp=>(ab[p.1]?).getD 0)=(g.ju.map (·.1)).map λj=>(ab[j]?).getD 0:=by rw[map_map];rfl
  rw[this,n1];refine List.ext_getElem (by simp[hlen]) λj a b=>?_;simp[dm b]
 rw[Wr]at qB rB;have qA0:=qA [];rw[append_nil,iC,iC]at qA0;have hcon:=hg v rr h6;rw[hargs,ua]at hcon;obtain⟨s1,s2,s3⟩:=yM (ol:=Eh g.jt ((wF (iz (ma 0 g.fY)++d7 g.jt) rr).drop (c9 g.fY).length)) g.jt ((wF _ rr).drop (c9 g.fY).length);have B4:∀k,H4 g.ju.length k=true->GE ab.length k:=by intro k hk;simp[H4]at hk;simp[hlen];exact hk
 have good:MZ ab.length (sZ (g.outs rr)) (den (g.res rr)):=by
  refine⟨?_,?_,?_,?_⟩;intro q hq;simp only[sZ,mem_map]at hq;obtain⟨p,hp,rfl⟩:=hq;have⟨op,g1,_⟩:=s2 p hp;have:=all_eq_true.1 n3 _ g1;simp at this;exact B4 _ this.1;have:(sZ (g.outs rr)).map (·.1)=(g.outs rr).map (·.1):=by simp[sZ]
  rw[this];exact s1.nodup n4;intro q hq r' hr' j hj;simp only[sZ,mem_map]at hq;obtain⟨p,hp,rfl⟩:=hq;have⟨op,g1,g2⟩:=s2 p hp;have:=all_eq_true.1 n3 _ g1;simp only[aY]at this;refine B4 _ (all_eq_true.1 this.2 j (g2 j ?_));obtain⟨pk,po⟩:=p;cases po with
  |cells sz rows=>exact Nn (mem_flatMap.2 ⟨r',hr',hj⟩)
  |ev c l=>
   simp[bI,aI,mem_map]at hr';obtain⟨z,_,rfl⟩:=hr';rw[acn]at hj;simp at hj
  |map kc vc l=>
   simp only[bI,mem_map]at hr';obtain⟨z,_,rfl⟩:=hr';simp only[dh,Ad,append_nil]at hj;simp at hj
  intro j hj;have:=(Wy (ds:=Wp g.fY g.jt (wF _ rr))).1 j hj;exact B4 _ (all_eq_true.1 n5 j (yL g.fY _ j this))
 have flat:g.flat=true->ox (sZ (g.outs rr)) (den (g.res rr)):=by intro hf;simp only[dE.flat,aY]at hf;have hc:(wF (iz (ma 0 g.fY)++d7 g.jt) rr).map (·.c)=c9 g.fY++d7 g.jt:=(ag7 _ rr).trans (by rw[P8]);refine⟨(Wy (ds:=Wp g.fY g.jt (wF _ rr))).2 ?_,?_⟩;refine(CK (ol:=_) g.fY _ [] ?_ hf.1).1;rw[append_nil,map_take,hc,List.take_left];intro q hq r' hr';simp only[sZ,mem_map]at hq;obtain⟨p,hp,rfl⟩:=hq;exact s3 (by rw[map_drop,hc,List.drop_left]) hf.2 p hp r' hr'
 have dg:Ho (dF (ab++m.vr) (fB get)) (bG first++bG args++bG caps) ab m.vr bs:=by refine⟨hv,λj hj hn=>?_,λj hs' q o e1 e2 e3 z hz hn=>?_⟩;rw[<- iC,<- iC,iR]at hj;rcases rA j hj with ⟨q,hq⟩ |hj;exact absurd (bR (hi _ hq)) hn;exact hj;rcases rB j hs' q o e1 e2 e3 z hz with ⟨q',hq⟩ |hz;exact absurd (bR (hi _ hq)) hn;exact hz
 refine⟨.ro ab m.vr bs hs (sZ (g.outs rr)) (den (g.res rr)) g.flat,ab++m.vr,_,_,_,
  ⟨gO (cn i ab) (den (g.res rr)),Bm i ab (sZ (g.outs rr))++(if g.flat then []else m.vr.map λk=>(k,none)),obs++mo++[xy P F (bG ds') (xs.map λp=>bI p.2) (sZ (g.outs rr)) (den (g.res rr)),MZ ab.length (sZ (g.outs rr)) (den (g.res rr)),Ho (dF (ab++m.vr) (fB get)) (bG first++bG args++bG caps) ab m.vr bs]++(if g.flat then [ox (sZ (g.outs rr)) (den (g.res rr))]else [])⟩,?_,?_,(Af _ _).symm,?_,?_,h⟩
 simp only[den,lH,M0,qB,qA0,ai];rw[aS ⟨hnd,by omega⟩];refine rD _ (gP (gP (gP pA pB) ?_) ?_);intro z hz;simp only[aH,bn,or_false]at hz;rcases hz with rfl |rfl |rfl;exact hcon;exact good;exact dg;intro z hz;cases hf:g.flat with
 |true=>rw[hf]at hz;simp only[if_true,bq]at hz;subst hz;exact flat hf
 |false=>rw[hf]at hz;simp at hz
 simp[sD,ajP];congr 1;cases g.flat with
 |true=>rfl
 |false=>exact(CF m.vr).symm
 intro p hp;refine .inr ?_;rcases bM.1 hp with hp |hp;exact mem_append_left _ (mem_append_right _ (mem_map.2 ⟨p,hp,rfl⟩));cases hf:g.flat with
 |true=>rw[hf]at hp;simp at hp
 |false=>
  rw[hf]at hp;simp[Bool.false_eq_true,if_false,mem_map]at hp;obtain⟨z,hz,rfl⟩:=hp;exact mem_append_right _ hz
end
section
variable {X:SX} {A:Type}
def Wz:RT X.ι->Bool
 | .d c=>xC c
 | .fresh e=>xC e
 | .whole _=>true
 | .mu c=>xC c
 | .mr c=>xC c
 | .mv=>true
theorem aeg{c:CT X.ι}(h:xC c=true)(x:CT.T X.toSE c):(CT.tv X.toSE c x).flat:=by
 cases c
 case st i=>exact vC h x
 all_goals first |exact trivial |cases h
theorem WA{ns:List Nat}{q:RT X.ι}{x:RT.T X q}(h:Wz q=true):∀c∈Wq ns q x,c.flat:=by
 intro c hc;cases q<;>simp[Wq]at hc
 case d c=>subst hc;exact aeg h x
 case fresh e=>
  subst hc;intro row hr;obtain⟨y,_,rfl⟩:=mem_map.1 hr;exact vC h y
 case whole j=>subst hc;exact trivial
theorem Sg{ns:List Nat}:∀{l:List (RT X.ι)}{x:sP X l},l.all Wz=true->∀c∈Bh ns l x,c.flat
 |[],x,_,c,hc=>by simp[Bh]at hc
 |[q],x,h,c,hc=>WA (by simpa using h) c hc
 |q::q'::l,x,h,c,hc=>by simp at h;simp[Bh]at hc;rcases hc with hc |hc;exact WA h.1 c hc;exact Sg (by simp;exact h.2) c hc
theorem WB{l:List (RT X.ι)}(x:sP X l)(h:l.all Wz=true):(tq l x).flat:=by have:=Sg (ns:=zp l x) (x:=x) h;unfold tq;split;rename_i c hc;exact this c (by rw[hc];simp);exact this
theorem aaV{q:RT X.ι}{x:RT.T X q}(h:Wz q=true):Vz (ff q x):=by
 intro p hp;cases q<;>simp[ff]at hp
 case mu c=>
  subst hp;intro r hr;obtain⟨y,_,rfl⟩:=mem_map.1 hr;exact vC h y
 case mr c=>
  subst hp;intro r hr;obtain⟨y,_,rfl⟩:=mem_map.1 hr;exact vC h y
theorem aaW:∀{l:List (RT X.ι)}{x:sP X l},l.all Wz=true->Vz (oF l x)
 |[],x,_=>λp hp=>by simp[oF]at hp
 |[q],x,h=>aaV (q:=q) (by simpa using h)
 |q::q'::l,x,h=>by simp at h;intro p hp;rcases bM.1 (show some p∈ff q x.1++oF (q'::l) x.2 from hp)with hp |hp;exact aaV h.1 p hp;exact aaW (l:=q'::l) (by simp;exact h.2) p hp
def H7(i:Nat)(ab ns:List Nat):(q:RT X.ι)->RT.T X q->List (DV X)×List (Nat×Option (bp X))
 | .d c,x=>([.c c x],[])
 | .fresh e,l=>([.own (cx i) 0 l.length],[(cx i,some (.ev e l))])
 | .whole j,_=>([match ab[j]? with |some k=> .own k 0 (ns.getD j 0) |none=> .undef],[])
 |_,_=>([],[])
def K4(i:Nat)(ab ns:List Nat):(l:List (RT X.ι))->sP X l->Option (List (DV X)×List (Nat×Option (bp X)))
 |[],_=>some ([],[])
 |[q],x=>some (H7 i ab ns q x)
 |q::q'::l,x=>(K4 i ab ns (q'::l) x.2).bind λp=>if (H7 i ab ns q x.1).2.isEmpty || p.2.isEmpty then some ((H7 i ab ns q x.1).1++p.1,(H7 i ab ns q x.1).2++p.2)else none
def ap0:List (DV X)->DV X
 |[d]=>d
 |ds=> .en ds
def Hx(i:Nat)(ab:List Nat)(l:List (RT X.ι))(x:sP X l):Option (DV X×List (Nat×Option (bp X))):=
 (K4 i ab (zp l x) l x).bind λp=>some (ap0 p.1,p.2)
theorem acr(u:List (Nat×Option (bp X))):(iO u).isEmpty=u.isEmpty:=by cases u<;>rfl
theorem aaX(i:Nat)(ab ns:List Nat)(q:RT X.ι)(x:RT.T X q):(∃ c,Wq ns q x=[c]/\∃d,(H7 i ab ns q x).1=[d]/\Kb i ab c=(den d,iO (H7 i ab ns q x).2))\/(Wq ns q x=[]/\H7 i ab ns q x=([],[])):=by
 cases q
 case d c=>exact .inl ⟨_,rfl,_,rfl,rfl⟩
 case fresh e=>exact .inl ⟨_,rfl,_,rfl,by simp[Kb,H7,den,iO,bI,aI]⟩
 case whole j=>
  refine .inl ⟨_,rfl,_,rfl,?_⟩;simp[Kb,iO,H7];cases ab[j]?<;>rfl
 all_goals exact .inr ⟨rfl,rfl⟩
theorem aeh(i:Nat)(ab:List Nat)(c:RC):MS i ab [c]=some ([(Kb i ab c).1],(Kb i ab c).2):=by simp[MS]
theorem aaY(i:Nat)(ab ns:List Nat):∀(l:List (RT X.ι))(x:sP X l)(p:List (DV X)×List (Nat×Option (bp X))),K4 i ab ns l x=some p->MS i ab (Bh ns l x)=some (bG p.1,iO p.2)
 |[],_,p,h=>by simp[K4]at h;subst h;rfl
 |[q],x,p,h=>by simp[K4]at h;subst h;simp[Bh];rcases aaX i ab ns q x with ⟨c,h1,d,h2,h3⟩ |⟨h1,h2⟩;rw[h1,aeh,h2,h3];simp[bG];rw[h1,h2];rfl
 |q::q'::l,x,p,h=>by simp only[K4]at h;rw[ah]at h;obtain⟨p',h1,h⟩:=h;have ih:=aaY i ab ns (q'::l) x.2 p' h1;split at h;rename_i hc;cases h;simp[Bh];rcases aaX i ab ns q x.1 with ⟨c,h1,d,h2,h3⟩ |⟨h1,h2⟩;rw[h1];simp only[List.singleton_append,MS,ih,ai,h3,acr];rw[aS hc,h2];simp[bG,iO];rw[h1,h2];exact ih;cases h
theorem aei{i:Nat}{ab:List Nat}{l:List (RT X.ι)}{x:sP X l}{p:DV X×List (Nat×Option (bp X))}(h:Hx i ab l x=some p):imp i ab (tq l x)=some (den p.1,iO p.2):=by
 unfold Hx at h;rw[ah]at h;obtain⟨p',h1,h⟩:=h;cases h;have ih:=aaY i ab _ l x p' h1;unfold tq;split;rename_i c hc;rw[hc,aeh]at ih;simp at ih;obtain⟨ds,u⟩:=p'
 match ds,ih with
 |[d],ih=>
  simp[bG]at ih;simp[imp,ap0,<- ih.1,<- ih.2]
 |[],ih |_::_::_,ih=>simp[bG]at ih
 rename_i hne;simp[imp,ih];obtain⟨ds,u⟩:=p'
 match ds,ih with
 |[],_ |_::_::_,_=>rfl
 |[d],ih=>
  exfalso;generalize hcs:Bh (zp l x) l x=cs at ih hne
  match cs,ih,hne with
  |[],ih,_=>simp[MS,bG]at ih
  |[c],_,hne=>exact hne c rfl
  |c::c'::cs,ih,_=>
   simp[MS]at ih;cases h3:MS i ab cs with
   |none=>rw[h3]at ih;simp at ih
   |some q=>
    rw[h3]at ih;simp at ih;split at ih;simp only[ai]at ih;split at ih;simp[bG]at ih;cases ih;simp at ih
def QP:(q:RT X.ι)->RT.T X q->List (Option (bp X))
 | .mu c,x=>[some (.ev c x)]
 | .mr c,x=>[some (.cells (CT.sz X c) [vB c x])]
 | .mv,_=>[none]
 |_,_=>[]
def WC:(l:List (RT X.ι))->sP X l->List (Option (bp X))
 |[],_=>[]
 |[q],x=>QP q x
 |q::q'::l,x=>QP q x.1++WC (q'::l) x.2
def K5:List Nat->List (Option (bp X))->List (Nat×Option (bp X))
 |k::ab,p::os=>(k,p)::K5 ab os
 |_,_=>[]
theorem aej(q:RT X.ι)(x:RT.T X q):(QP q x).map (·.map bI)=(ff q x).map (·.map ir):=by
 cases q<;>try rfl
 case mr c=>simp[QP,ff,bI,ir,uV,aI,pR]
theorem Qe:∀(l:List (RT X.ι))(x:sP X l),(WC l x).map (·.map bI)=(oF l x).map (·.map ir)
 |[],_=>rfl
 |[q],x=>aej q x
 |q::q'::l,x=>by simp[WC,oF,aej,Qe (q'::l) x.2]
theorem aaZ:∀(ab:List Nat)(os:List (Option (bp X)))(os':List (Option dZ)),os.map (·.map bI)=os'.map (·.map ir)->iO (K5 ab os)=Bb ab os'
 |[],_,_,_=>by simp[K5,Bb,iO]
 |_::_,[],[],_=>rfl
 |k::ab,p::os,p'::os',h=>by simp at h;have:=aaZ ab os os' h.2;simp[iO]at this;simp[K5,Bb,iO,h.1,this]
 |_::_,[],_::_,h |_::_,_::_,[],h=>by simp at h
theorem Lx:∀{ab:List Nat}{os:List (Option (bp X))}{p:Nat×Option (bp X)},p∈K5 ab os->p.1∈ab
 |[],_,_,h |_::_,[],_,h=>by simp[K5]at h
 |k::ab,q::os,p,h=>by simp[K5]at h;rcases h with rfl |h;simp;exact dS _ (Lx h)
def acs(get:Nat->Option (bp X))(d:DV X)(c:CT X.ι):Option (List (CT.T X.toSE c)×Nat×List Bool):=
 match d with
 | .own k 0 len=>(get k).bind λo=>match o with
  | .ev b l=>(kU (.sl b) (.sl c) l).bind λ(l:List (CT.T X.toSE c))=>some (l,k,[az len (List.length l)])
  |_=>none
 |_=>none
def WE(get:Nat->Option (bp X))(d:DV X)(c:CT X.ι):Option (CT.T X.toSE c×Nat):=
 match d with
 | .ptr k 0 0=>(get k).bind λo=>match o with
  | .cells sz [row]=>if sz=CT.sz X c then(Nc c row).bind λx=>some (x,k)else none
  |_=>none
 |_=>none
def pU(Γ:FuncId->Option (cm X))(get:Nat->Option (bp X)):List (DV X)->(l:List (AT X.ι))->Option (iW X l×List Nat×List Bool)
 |[],[]=>some ((),[],[])
 |d::ds,.mut c::l=>(acs get d c).bind λx=>(pU Γ get ds l).bind λh=>some ((x.1,h.1),x.2.1::h.2.1,x.2.2++h.2.2)
 |d::ds,.kx c::l=>(WE get d c).bind λx=>(pU Γ get ds l).bind λh=>some ((x.1,h.1),x.2::h.2.1,h.2.2)
 |d::ds,.d c::l=>(Sb Γ get 3 [d] [.d c]).bind λx=>(pU Γ get ds l).bind λh=>some ((x.1.1,h.1),h.2.1,x.2++h.2.2)
 |d::ds,.ref c::l=>(Sb Γ get 3 [d] [.ref c]).bind λx=>(pU Γ get ds l).bind λh=>some ((x.1.1,h.1),h.2.1,x.2++h.2.2)
 |d::ds,.el as r::l=>(Sb Γ get 3 [d] [.el as r]).bind λx=>(pU Γ get ds l).bind λh=>some ((x.1.1,h.1),h.2.1,x.2++h.2.2)
 |d::ds,.nil::l=>match d with
  | .nil=>(pU Γ get ds l).bind λh=>some (((),h.1),h.2.1,h.2.2)
  |_=>none
 |_,_=>none
def JJ:List (DV X)->List (AT X.ι)->List Nat
 |d::ds,a::l=>(if a.im then []else bm d)++JJ ds l
 |_,_=>[]
def WG(get:Nat->Option (bp X)):List (DV X)->(l:List (CT X.ι))->Option (HL X.toSE l×List Bool)
 |[],[]=>some ((),[])
 |d::ds,c::l=>(FM get d c).bind λx=>(WG get ds l).bind λh=>some ((x.1,h.1),x.2++h.2)
 |_,_=>none
variable (Γ:FuncId->Option (cm X))
def alJ(i:Nat)(f:DV X)(args:List (DV X))(get:Nat->Option (bp X))(k:KK X A):Option A:=
 match f with
 | .fn F first caps=>(Γ F).bind λs=>match s.gen.filter λg=>(tf get g.qq (first++args++caps) ⟨[],[],[],[]⟩).isSome with
  |some g=>ag6 g i (first++args++caps) get k
  |none=>if (s.args.all (λ q=>q.pl)&&s.res.all (λ q=>!q.out))=true then(Sb Γ get 3 (first++args++caps) s.args).bind λa=>V5 a.2 ((s.fn a.1).bind λx=>(Hx i [] s.res x).bind λp=>
   if s.res.all Wz then k p.1 p.2 (aO (first++args++caps)) []
   else k p.1 (p.2++Nk (aO (first++args++caps))) (aO (first++args++caps)) (aO (first++args++caps)))
  else(pU Γ get (first++args++caps) s.args).bind λa=>V5 a.2.2 ((s.fn a.1).bind λx=>(Hx i a.2.1 s.res x).bind λp=>
   if (decide a.2.1.Nodup&&(JJ (first++args++caps) s.args).all (λ j=>!a.2.1.contains j)&&decide ((WC s.res x).length=a.2.1.length))=true then
    if s.res.all Wz then k p.1 (p.2++K5 a.2.1 (WC s.res x)) (aO (first++args++caps)) a.2.1
    else k p.1 (p.2++(K5 a.2.1 (WC s.res x)++Nk ((aO (first++args++caps)).filter λj=>!a.2.1.contains j))) (aO (first++args++caps)) (a.2.1++(aO (first++args++caps)).filter λj=>!a.2.1.contains j)
   else none)
 | .el as q φ=>(WG get args as).bind λh=>V5 h.2 ((φ h.1).bind λy=>
  if xC q then k (.c q y) [] (aO args) []else k (.c q y) (Nk (aO args)) (aO args) (aO args))
 |_=>none
def GM(fz:List Nat)(T:ez)(code:TypeId->Option (CT X.ι))(i:Nat)(o:Op)(ρ:Operand->DV X)(get:Nat->Option (bp X))(k:KK X A):Option A:=
 match o with
 | .call { callee:= .value f,args:=args,argTypes:=_ }=>alJ Γ i (ρ f) (args.toList.map ρ) get k
 |o=>if apX o ρ then apd T code i o ρ get k else if apY o ρ || fz.contains i then ape T code i o ρ get k else if apZ T o ρ then apf T code o ρ get k else ON T code i o ρ get k
variable {Γ}
theorem Np{P:Program}{get:Nat->Option (bp X)}{rd:List Nat}:∀{ds:List (DV X)}{l:List (CT X.ι)}{h:HL X.toSE l×List Bool},WG get ds l=some h->(∀ b∈h.2,b=true)->(∀ j∈aO ds,j∈rd)->
 ∃hs obs,(∀ p∈obs,p)/\∀ae,mU P (dF rd (fB get)) (bG ds) (hs++ae)=some ((HL.oa X.toSE l h.1).map TV.av,ae,obs)
 |[],[],h,_,_,_=>⟨[],[],by simp,λae=>rfl⟩
 |d::ds,c::l,h,hr,hc,hrd=>by simp[WG]at hr;have⟨x,h1,hr⟩:=ah.1 hr;have⟨g,h2,hr⟩:=ah.1 hr;cases hr;obtain⟨hs1,o1,p1,q1⟩:=Ae (P:=P) (rd:=rd) h1 (λ b hb=>hc b (by simp[hb])) (λ j hj=>hrd j (by simp[aO,hj]));obtain⟨hs2,o2,p2,q2⟩:=Np (P:=P) (rd:=rd) h2 (λ b hb=>hc b (by simp[hb])) (λ j hj=>hrd j (by simp[aO,hj]));refine⟨hs1++hs2,o1++o2,gP p1 p2,λae=>?_⟩;simp[bG,mU,q1,q2];rfl
 |[],_::_,_,hr,_,_ |_::_,[],_,hr,_,_=>by simp[WG]at hr
theorem WH{i:Nat}{ab ns:List Nat}{q:RT X.ι}{x:RT.T X q}:∀p∈(H7 i ab ns q x).2,p.1=cx i:=by cases q<;>simp[H7]
theorem WI{i:Nat}{ab ns:List Nat}:∀{l:List (RT X.ι)}{x:sP X l}{p:List (DV X)×List (Nat×Option (bp X))},K4 i ab ns l x=some p->∀q∈p.2,q.1=cx i
 |[],_,p,h=>by simp[K4]at h;subst h;simp
 |[q],x,p,h=>by simp[K4]at h;subst h;exact WH
 |q::q'::l,x,p,h=>by simp[K4]at h;have⟨p',h1,h⟩:=ah.1 h;split at h;cases h;intro z hz;rcases bM.1 hz with hz |hz;exact WH z hz;exact WI h1 z hz;cases h
theorem aa0{i:Nat}{ab:List Nat}{l:List (RT X.ι)}{x:sP X l}{p:DV X×List (Nat×Option (bp X))}(h:Hx i ab l x=some p):∀q∈p.2,q.1=cx i:=by unfold Hx at h;have⟨p',h1,h⟩:=ah.1 h;cases h;exact WI h1
theorem H8{P:Program}{get:Nat->Option aK}{x:AV}{hs ae:List LH}{y:AV}{o:List Prop}(h:mU P get [x] hs=some ([y],ae,o)):o9 P get x hs=some (y,ae,o):=by simp only[mU,ai,append_nil,ah,bJ,Prod.mk.injEq,List.cons.injEq,and_true]at h;obtain⟨q,h1,h2,h3,h4⟩:=h;rw[h1,<- h2,<- h3,<- h4]
theorem lJ{d:DV X}{ds:List (DV X)}{a:AT X.ι}{l:List (AT X.ι)}{P:Nat->Prop}(h:∀j∈JJ (d::ds) (a::l),P j):(a.im=false->∀j∈bm d,P j)/\∀j∈JJ ds l,P j:=by simp[JJ]at h;exact⟨λ e j hj=>h j (.inl (by rw[e];simpa using hj)),λj hj=>h j (.inr hj)⟩
theorem apg{c:CT X.ι}{l:List (CT.T X.toSE c)}:dK ((aI (l.map (CT.row X.toSE c))).take (l.map (CT.row X.toSE c)).length)=aI (l.map (CT.row X.toSE c)):=by rw[take_of_length_le (by simp[aI])];simp only[dK,aI,map_map];exact map_congr_left λy _=>by simp only[Function.comp,map_map];exact map_congr_left λz _=>rfl
theorem Zq{get:Nat->Option (bp X)}{d:DV X}{c:CT X.ι}{x:List (CT.T X.toSE c)×Nat×List Bool}(h:acs get d c=some x)(hc:∀b∈x.2.2,b=true):
 d= .own x.2.1 0 (List.length x.1)/\∃o,get x.2.1=some o/\(bI o).sz=(uV c x.1).1/\dK ((bI o).rows.take (uV c x.1).2.length)=aI (uV c x.1).2:=by
 unfold acs at h;split at h;rename_i k len;rw[ah]at h;obtain⟨o,h1,h⟩:=h;split at h;rename_i b l;rw[ah]at h;obtain⟨l',h2,h⟩:=h;cases h;have⟨h3,h4⟩:=ji h2;have h5:len=List.length l':=by simpa[az]using hc (az len (List.length l')) (by simp)
 refine⟨by rw[h5],.ev b l,h1,by simp;exact h3,?_⟩;simp only[bI,uV,h4];exact apg;cases h;cases h
theorem WJ{get:Nat->Option (bp X)}{d:DV X}{c:CT X.ι}{x:CT.T X.toSE c×Nat}(h:WE get d c=some x):
 d= .ptr x.2 0 0/\∃o,get x.2=some o/\(bI o).sz=(uV c [x.1]).1/\dK ((bI o).rows.take (uV c [x.1]).2.length)=aI (uV c [x.1]).2:=by unfold WE at h;split at h;rw[ah]at h;obtain⟨o,h1,h⟩:=h;split at h;split at h;rename_i hsz;have⟨y,h2,h⟩:=ah.1 h;cases h;refine⟨rfl,_,h1,by simp;exact hsz,?_⟩;simp[bI,uV,dK,aI];rw[yh h2];cases h;cases h;cases h
theorem nO{P:Program}{Γ:FuncId->Option (cm X)}(hΓ:tj P Γ){get:Nat->Option (bp X)}{rd ab:List Nat}:∀{n:Nat}{ds:List (DV X)}{l:List (AT X.ι)}{a:iW X l×List Nat×List Bool},pU Γ get ds l=some a->(∀ b∈a.2.2,b=true)->(∀ j∈aO ds,j∈rd)->(∀ j∈JJ ds l,j∉ab)->ab.drop n=a.2.1->
 (∃ hs obs,(∀ p∈obs,p)/\∀ae,mH P (dF rd (fB get)) ab (bG ds) (hs++ae)=some (dV n l a.1,ae,obs))/\∃mo,D9 (dF rd (fB get)) a.2.1 (uW l a.1)=some mo/\∀p∈mo,p
 |n,[],[],a,h,_,_,_,_=>by simp[pU]at h;subst h;exact⟨⟨[],[],by simp,λae=>rfl⟩,[],rfl,by simp⟩
 |n,d::ds,.mut c::l,a,h,hc,hrd,hnr,hid=>by
  simp[pU]at h;have⟨x,h1,h⟩:=ah.1 h;have⟨q,h2,h⟩:=ah.1 h;cases h;obtain⟨rfl,o,g1,g2,g3⟩:=Zq h1 (λ b hb=>hc b (by simp[hb]));have C6:ab[n]? =some x.2.1:=by rw[<- List.head?_drop,hid];rfl
  have C7:ab.drop (n+1)=q.2.1:=by rw[<- List.tail_drop,hid];rfl
  obtain⟨⟨hs,obs,p1,p2⟩,mo,m1,m2⟩:=nO hΓ (n:=n+1) h2 (λ b hb=>hc b (by simp[hb])) (λ j hj=>hrd j (by simp[aO,hj])) (lJ hnr).2 C7;refine⟨⟨.mut n::hs,obs,p1,λae=>?_⟩,((bI o).sz=(uV c x.1).1/\dK ((bI o).rows.take (uV c x.1).2.length)=aI (uV c x.1).2)::mo,?_,?_⟩;simp[bG,den,mH,qJ,C6,p2,dV];simp[uW,D9,eD (hrd x.2.1 (by simp[aO,bm])) g1,m1];intro p hp;rcases aH.1 hp with rfl |hp;exact⟨g2,g3⟩;exact m2 p hp
 |n,d::ds,.kx c::l,a,h,hc,hrd,hnr,hid=>by
  simp[pU]at h;have⟨x,h1,h⟩:=ah.1 h;have⟨q,h2,h⟩:=ah.1 h;cases h;obtain⟨rfl,o,g1,g2,g3⟩:=WJ h1;have C6:ab[n]? =some x.2:=by rw[<- List.head?_drop,hid];rfl
  have C7:ab.drop (n+1)=q.2.1:=by rw[<- List.tail_drop,hid];rfl
  obtain⟨⟨hs,obs,p1,p2⟩,mo,m1,m2⟩:=nO hΓ (n:=n+1) h2 (λ b hb=>hc b (by simp[hb])) (λ j hj=>hrd j (by simp[aO,hj])) (lJ hnr).2 C7;refine⟨⟨.mut n::hs,obs,p1,λae=>?_⟩,((bI o).sz=(uV c [x.1]).1/\dK ((bI o).rows.take (uV c [x.1]).2.length)=aI (uV c [x.1]).2)::mo,?_,?_⟩;simp[bG,den,mH,cons_append,qJ,C6,if_true,ai,p2,dV,fI];simp[uW,D9,eD (hrd x.2 (by simp[aO,bm])) g1,ai,m1];intro p hp;rcases aH.1 hp with rfl |hp;exact⟨g2,g3⟩;exact m2 p hp
 |n,d::ds,.d c::l,a,h,hc,hrd,hnr,hid=>by simp[pU]at h;have⟨x,h1,h⟩:=ah.1 h;have⟨q,h2,h⟩:=ah.1 h;cases h;obtain⟨hs1,o1,p1,q1⟩:=sw (P:=P) hΓ 3 (n:=n) h1 (λ b hb=>hc b (by simp[hb])) (rd:=rd) (λ j hj=>hrd j (by simp[aO,append_nil]at hj;simp[aO,hj]));obtain⟨⟨hs,obs,p2,q2⟩,mo,m1,m2⟩:=nO hΓ (n:=n) h2 (λ b hb=>hc b (by simp[hb])) (λ j hj=>hrd j (by simp[aO,hj])) (lJ hnr).2 hid;refine⟨⟨zj (den d) hs1++hs,o1++obs,gP p1 p2,λae=>?_⟩,mo,m1,m2⟩;have:=yj (H8 (q1 (hs++ae))) (λ k hk=>(lJ hnr).1 rfl k (by rwa [iQ]at hk));rw[Nl]at this;simp[bG,mH,aQ,this,ai,q2,dV]
 |n,d::ds,.ref c::l,a,h,hc,hrd,hnr,hid=>by simp[pU]at h;have⟨x,h1,h⟩:=ah.1 h;have⟨q,h2,h⟩:=ah.1 h;cases h;obtain⟨hs1,o1,p1,q1⟩:=sw (P:=P) hΓ 3 (n:=n) h1 (λ b hb=>hc b (by simp[hb])) (rd:=rd) (λ j hj=>hrd j (by simp[aO,append_nil]at hj;simp[aO,hj]));obtain⟨⟨hs,obs,p2,q2⟩,mo,m1,m2⟩:=nO hΓ (n:=n) h2 (λ b hb=>hc b (by simp[hb])) (λ j hj=>hrd j (by simp[aO,hj])) (lJ hnr).2 hid;refine⟨⟨zj (den d) hs1++hs,o1++obs,gP p1 p2,λae=>?_⟩,mo,m1,m2⟩;have:=yj (H8 (q1 (hs++ae))) (λ k hk=>(lJ hnr).1 rfl k (by rwa [iQ]at hk));rw[Nl]at this;simp[bG,mH,aQ,this,ai,q2,dV]
 |n,d::ds,.el as r::l,a,h,hc,hrd,hnr,hid=>by simp[pU]at h;have⟨x,h1,h⟩:=ah.1 h;have⟨q,h2,h⟩:=ah.1 h;cases h;obtain⟨hs1,o1,p1,q1⟩:=sw (P:=P) hΓ 3 (n:=n) h1 (λ b hb=>hc b (by simp[hb])) (rd:=rd) (λ j hj=>hrd j (by simp[aO,append_nil]at hj;simp[aO,hj]));obtain⟨⟨hs,obs,p2,q2⟩,mo,m1,m2⟩:=nO hΓ (n:=n) h2 (λ b hb=>hc b (by simp[hb])) (λ j hj=>hrd j (by simp[aO,hj])) (lJ hnr).2 hid;refine⟨⟨zj (den d) hs1++hs,o1++obs,gP p1 p2,λae=>?_⟩,mo,m1,m2⟩;have:=yj (H8 (q1 (hs++ae))) (λ k hk=>(lJ hnr).1 rfl k (by rwa [iQ]at hk));rw[Nl]at this;simp[bG,mH,aQ,this,ai,q2,dV]
 |n,d::ds,.nil::l,a,h,hc,hrd,hnr,hid=>by simp[pU]at h;split at h;have⟨q,h2,h⟩:=ah.1 h;cases h;obtain⟨⟨hs,obs,p2,q2⟩,mo,m1,m2⟩:=nO hΓ (n:=n) h2 hc (λ j hj=>hrd j (by simp[aO,hj])) (lJ hnr).2 hid;refine⟨⟨.nil::hs,obs,p2,λae=>?_⟩,mo,m1,m2⟩;have:=yj (P:=P) (get':=dF rd (fB get)) (ab:=ab) (x:= .dp) (hs:= .nil::(hs++ae)) (p:=(.dp,hs++ae,[])) rfl (λ k hk=>by simp[refs]at hk);simp[zj]at this;simp[bG,den,mH,cons_append,this,ai,q2,dV,fI];cases h
 |_,[],_::_,_,h,_,_,_,_=>by simp[pU]at h
 |_,_::_,[],_,h,_,_,_,_=>by simp[pU]at h
theorem aek{P:Program}(hΓ:tj P Γ){i:Nat}{f:DV X}{args:List (DV X)}{get:Nat->Option (bp X)}{k:KK X A}{r:A}(h:alJ Γ i f args get k=some r):
 ∃cJ rd wr dv upd out,lH P i (den f) (bG args) cJ (dF rd (fB get))=some out/\iM out.obs/\out.v=den dv/\out.upd=iO upd/\(∀ p∈upd,p.1=cx i\/p.1∈wr)/\k dv upd rd wr=some r:=by
 unfold alJ at h;split at h;rename_i F first caps
 rw[ah]at h;obtain⟨s,h1,h⟩:=h;split at h;rename_i g hgen;exact acp ((hΓ F s h1).2.2 g (Option.filter_eq_some_iff.1 hgen).1) h;split at h;rename_i hpure;rw[ah]at h;obtain⟨⟨a,cs⟩,h2,h⟩:=h;have⟨hcs,h⟩:=qh h;rw[ah]at h;obtain⟨x,h3,h⟩:=h;rw[ah]at h;obtain⟨p,h4,h⟩:=h;have hf0:=(hΓ F s h1).2.1 a x h3;simp only[aY]at hpure;rw[HV (apU hpure.1),ad5 hpure.2]at hf0;have hf:=oC hf0;have hi:=aei h4;have hk:=aa0 h4;obtain⟨hs,obs,g1,g2⟩:=sw (P:=P) hΓ 3 h2 hcs (rd:=aO (first++args++caps)) (λ j hj=>hj);have g3:=g2 [];rw[append_nil,iC,iC]at g3;have hrefs:dh (bG first++bG args++bG caps)=aO (first++args++caps):=by rw[<- iC,<- iC,iR]
 split at h;rename_i hfl;refine⟨.call hs (tq s.res x) true,_,[],p.1,p.2,⟨den p.1,iO p.2,obs++[rx P F (yJ s.args a) (tq s.res x),(tq s.res x).flat]⟩,?_,?_,rfl,rfl,λq hq=> .inl (hk q hq),h⟩;simp only[den,lH,qV,z8,hi,ai,g3];rfl;exact rD _ (gP g1 (by intro q hq;simp only[aH,bn,or_false]at hq;rcases hq with rfl |rfl;exact hf;exact WB x hfl));refine⟨.call hs (tq s.res x) false,_,_,p.1,_,⟨den p.1,iO p.2++(aO (first++args++caps)).map (λ k=>(k,none)),obs++[rx P F (yJ s.args a) (tq s.res x)]⟩,?_,?_,rfl,?_,?_,h⟩;simp only[den,lH,qV,z8,hi,ai,g3,hrefs];rfl;exact rD _ (gP g1 (by intro q hq;simp only[bq]at hq;subst hq;exact hf));simp[sD,CF];intro q hq;rcases bM.1 hq with hq |hq;exact .inl (hk q hq);exact .inr (JH hq);rename_i hpure;rw[ah]at h;obtain⟨⟨a,ab,cs⟩,h2,h⟩:=h;have⟨hcs,h⟩:=qh h;rw[ah]at h;obtain⟨x,h3,h⟩:=h;rw[ah]at h;obtain⟨p,h4,h⟩:=h;split at h;rename_i hc;simp only[aY,bD]at hc;obtain⟨⟨hnd,hnr⟩,hlen⟩:=hc;have hf:=(hΓ F s h1).2.1 a x h3;have hi:=aei h4;have hk:=aa0 h4;obtain⟨⟨hs,obs,g1,g2⟩,mo,m1,m2⟩:=nO (P:=P) hΓ (rd:=aO (first++args++caps)) (ab:=ab) (n:=0) h2 hcs (λ j hj=>hj) (λ j hj=>by simpa using all_eq_true.1 hnr j hj) rfl;have g3:=g2 [];rw[append_nil,iC,iC]at g3;have hrefs:dh (bG first++bG args++bG caps)=aO (first++args++caps):=by rw[<- iC,<- iC,iR]
 have hlen':(oF s.res x).length=ab.length:=by rw[<- hlen];simpa using (congrArg List.length (Qe s.res x)).symm
 have hout:iO (K5 ab (WC s.res x))=Bb ab (oF s.res x):=aaZ _ _ _ (Qe s.res x);split at h;rename_i hfl;refine⟨.ue ab (uW s.args a) (oF s.res x) hs (tq s.res x) true,_,ab,p.1,_,⟨den p.1,iO p.2++Bb ab (oF s.res x),obs++mo++[qu P F (yJ s.args a) (uW s.args a) (oF s.res x) (tq s.res x),(tq s.res x).flat,Vz (oF s.res x)]⟩,?_,?_,rfl,?_,?_,h⟩;simp only[den,lH,qV,He,hi,ai,m1,g3];rw[aS ⟨hnd,hlen'⟩];rfl;refine rD _ (gP (gP g1 m2) ?_);intro q hq;simp only[aH,bn,or_false]at hq;rcases hq with rfl |rfl |rfl;exact hf;exact WB x hfl;exact aaW hfl;simp[sD,hout];intro q hq;rcases bM.1 hq with hq |hq;exact .inl (hk q hq);exact .inr (Lx hq);refine⟨.ue ab (uW s.args a) (oF s.res x) hs (tq s.res x) false,_,_,p.1,_,⟨den p.1,iO p.2++(Bb ab (oF s.res x)++((aO (first++args++caps)).filter λj=>!ab.contains j).map (λ k=>(k,none))),obs++mo++[qu P F (yJ s.args a) (uW s.args a) (oF s.res x) (tq s.res x)]⟩,?_,?_,rfl,?_,?_,h⟩;simp only[den,lH,qV,He,hi,ai,m1,g3,G9,hrefs];rw[aS ⟨hnd,hlen'⟩];rfl;refine rD _ (gP (gP g1 m2) ?_);intro q hq;simp only[bq]at hq;subst hq;exact hf;simp[sD,hout,CF];intro q hq;rcases bM.1 hq with hq |hq;exact .inl (hk q hq);rcases bM.1 hq with hq |hq;exact .inr (mem_append_left _ (Lx hq));exact .inr (mem_append_right _ (JH hq));cases h;rename_i as q φ;rw[ah]at h;obtain⟨⟨hh,cs⟩,h1,h⟩:=h;have⟨hcs,h⟩:=qh h;rw[ah]at h;obtain⟨y,h2,h⟩:=h;obtain⟨hs,obs,g1,g2⟩:=Np (P:=P) h1 hcs (rd:=aO args) (λ j hj=>hj);have g3:=g2 [];rw[append_nil]at g3;have hφ:∃h' x',φ h'=some x'/\HL.oa X.toSE as hh=HL.oa X.toSE as h'/\CT.tv X.toSE q y=CT.tv X.toSE q x':=⟨hh,y,h2,rfl,rfl⟩;split at h;rename_i hfl;refine⟨.Fc hs (HL.oa X.toSE as hh) (CT.tv X.toSE q y) true,_,[],.c q y,[],⟨(CT.tv X.toSE q y).av,[],obs++[(HL.oa X.toSE as hh).map TV.av=(HL.oa X.toSE as hh).map TV.av,(∃ h' x',φ h'=some x'/\HL.oa X.toSE as hh=HL.oa X.toSE as h'/\CT.tv X.toSE q y=CT.tv X.toSE q x'),(CT.tv X.toSE q y).flat]⟩,?_,?_,rfl,rfl,by simp,h⟩;simp only[den,lH,qV,z8,g3,ai];rfl;exact rD _ (gP g1 (by intro z hz;simp only[aH,bn,or_false]at hz;rcases hz with rfl |rfl |rfl;trivial;exact hφ;exact aeg hfl y));refine⟨.Fc hs (HL.oa X.toSE as hh) (CT.tv X.toSE q y) false,_,_,.c q y,_,⟨(CT.tv X.toSE q y).av,(aO args).map (λ k=>(k,none)),obs++[(HL.oa X.toSE as hh).map TV.av=(HL.oa X.toSE as hh).map TV.av,(∃ h' x',φ h'=some x'/\HL.oa X.toSE as hh=HL.oa X.toSE as h'/\CT.tv X.toSE q y=CT.tv X.toSE q x')]⟩,?_,?_,rfl,(CF _).symm,λz hz=> .inr (JH hz),h⟩;simp only[den,lH,qV,z8,g3,ai,iR];rfl;exact rD _ (gP g1 (by intro z hz;simp only[aH,bn,or_false]at hz;rcases hz with rfl |rfl;trivial;exact hφ));cases h
theorem ag9{P:Program}(hΓ:tj P Γ){fz:List Nat}{T:ez}{code:TypeId->Option (CT X.ι)}{i:Nat}{o:Oper}{ρ:Operand->DV X}{get:Nat->Option (bp X)}{k:KK X A}{r:A}(h:GM Γ fz T code i o.op ρ get k=some r):ep P T i o ρ get k r:=by
 obtain⟨dst,op,ty,am,after,guard⟩:=o;unfold GM at h;simp only at h;split at h
 ·have:=aek hΓ h;simp only[<- UU]at this;obtain⟨cJ,rd,wr,dv,upd,out,g1,g2⟩:=this;exact .call g1 g2
 ·split at h
  ·exact ag2 (o:=⟨dst,op,ty,am,after,guard⟩) h
  ·split at h
   ·exact ag3 (o:=⟨dst,op,ty,am,after,guard⟩) h
   ·split at h
    ·exact ag4 (o:=⟨dst,op,ty,am,after,guard⟩) h
    ·rename_i hne _ _ _;have⟨cJ,rd,wr,dv,upd,out,g1,g2⟩:=aaM (o:=⟨dst,op,ty,am,after,guard⟩) h;exact ep.op (λ f args d8 e=>hne f args d8 e) g1 g2
end
def lj(x y:AV):Prop:=∀P β w I v,VR P β w I x v->VR P β w I y v
theorem lj.refl(x:AV):lj x x:=λ_ _ _ _ _ h=>h
theorem lj.undef(x:AV):lj x .undef:=λ_ _ _ _ _ _=>by simp[VR]
theorem lj.wk(x:AV):lj x (wk x):=λ_ _ _ _ _ h=>h.wk
section
variable {P:Program} {w0:World} {O0:kA} {N:Nat} {β:Nat->Option cW} {I:Nat->Prop} {a:Act} {w:World} {f g:Nat->Nat} {D:Nat->Prop}
mutual
theorem VR.rn(hgf:∀k,D k->g (f k)=k):∀(x:AV)(v:Value),(∀ k∈refs x,D k)->VR P β w I x v->VR P (λ j=>β (g j)) w I (gO f x) v
 | .own k aa len,v,hd,h=>by simp[gO,VR,hgf k (hd k (by simp[refs]))]at h ⊢;exact h
 | .ptr k row aa,v,hd,h=>by simp[gO,VR,hgf k (hd k (by simp[refs]))]at h ⊢;exact h
 | .agg cs,v,hd,h=>by simp[VR]at h ⊢;obtain⟨vs,h1,h2⟩:=h;exact⟨vs,h1,be.rn hgf cs _ (by simpa[refs]using hd) h2⟩
 | .en cs,v,hd,h=>by simp[VR]at h ⊢;obtain⟨vs,h1,h2⟩:=h;exact⟨vs,h1,be.rn hgf cs _ (by simpa[refs]using hd) h2⟩
 | .fn F first caps,v,hd,h=>by simp[VR]at h ⊢;obtain⟨fs,cs,h1,h2,h3⟩:=h;exact⟨fs,cs,h1,be.rn hgf first _ (λ k hk=>hd k (by simp[refs,hk])) h2,be.rn hgf caps _ (λ k hk=>hd k (by simp[refs,hk])) h3⟩
 | .t x,v,_,h | .eK r o,v,_,h | .el φ,v,_,h=>by simpa[gO,VR]using h
 | .mp k,v,hd,h=>by simp[gO,VR,hgf k (hd k (by simp[refs]))]at h ⊢;exact h
 | .oz k len,v,hd,h=>by simp[gO,VR,hgf k (hd k (by simp[refs]))]at h ⊢;exact h
 | .dp,v,_,h | .ub,v,_,h=>by simpa[gO,VR]using h
 | .undef,v,_,h=>by simp[gO,VR]
theorem be.rn(hgf:∀k,D k->g (f k)=k):∀(xs:List AV)(vs:List Value),(∀ k∈dh xs,D k)->be P β w I xs vs->be P (λ j=>β (g j)) w I (vv f xs) vs
 |[],[],_,_=>by simp[vv,be]
 |x::xs,v::vs,hd,h=>by simp[be]at h;simp[vv];exact⟨VR.rn hgf x v (λ k hk=>hd k (by simp[dh,hk])) h.1,be.rn hgf xs vs (λ k hk=>hd k (by simp[dh,hk])) h.2⟩
 |[],_::_,_,h |_::_,[],_,h=>by simp[be]at h
end
def m5(D:Nat->Prop)(f:Nat->Nat):List AV->List AV->Prop
 |[],[]=>True
 |x::xs,y::ys=>((∀ k∈refs x,D k)/\lj (gO f x) y)/\m5 D f xs ys
 |_,_=>False
def gS(D:Nat->Prop)(f:Nat->Nat):List (List AV)->List (List AV)->Prop
 |[],[]=>True
 |r::rs,q::qs=>m5 D f r q/\gS D f rs qs
 |_,_=>False
theorem m5.length:∀{r q:List AV},m5 D f r q->q.length=r.length
 |[],[],_=>rfl
 |_::xs,_::ys,h=>by simp[m5.length h.2]
 |[],_::_,h |_::_,[],h=>h.elim
theorem dC.re(hgf:∀k,D k->g (f k)=k):∀{r q:List AV}{c:Array Value}{aa:Nat},m5 D f r q->dC P β w I r c aa->dC P (λ j=>β (g j)) w I q c aa
 |[],[],_,_,_,_=>trivial
 |x::xs,y::ys,c,aa,hr,⟨⟨v,h1,h2,h3⟩,h4⟩=>⟨⟨v,h1,hr.1.2 _ _ _ _ _ (VR.rn hgf x v hr.1.1 h2),h3⟩,dC.re hgf hr.2 h4⟩
 |[],_::_,_,_,h,_ |_::_,[],_,_,h,_=>h.elim
theorem bu.re(hgf:∀k,D k->g (f k)=k):∀{rs qs:List (List AV)}{c:Array Value}{aa sz:Nat},gS D f rs qs->bu P β w I rs c aa sz->bu P (λ j=>β (g j)) w I qs c aa sz
 |[],[],_,_,_,_,_=>trivial
 |r::rs,q::qs,c,aa,sz,hr,⟨h1,h2,h3⟩=>⟨by rw[hr.1.length];exact h1,dC.re hgf hr.1 h2,bu.re hgf hr.2 h3⟩
 |[],_::_,_,_,_,h,_ |_::_,[],_,_,_,h,_=>h.elim
theorem be.re(hgf:∀k,D k->g (f k)=k):∀{r q:List AV}{vs:List Value},m5 D f r q->be P β w I r vs->be P (λ j=>β (g j)) w I q vs
 |[],[],[],_,_=>by simp[be]
 |x::xs,y::ys,v::vs,hr,h=>by exact⟨hr.1.2 _ _ _ _ _ (VR.rn hgf x v hr.1.1 h.1),be.re hgf hr.2 h.2⟩
 |[],_::_,_,h,_ |_::_,[],_,h,_=>h.elim
 |[],[],_::_,_,h |_::_,_::_,[],_,h=>by simp[be]at h
theorem cT.re(hgf:∀k,D k->g (f k)=k):∀{rs qs:List (List AV)}{es:List MapEntry},gS D f rs qs->cT P β w I rs es->cT P (λ j=>β (g j)) w I qs es
 |[],[],[],_,_=>trivial
 |r::rs,q::qs,_::es,hr,⟨h1,h2⟩=>⟨be.re hgf hr.1 h1,cT.re hgf hr.2 h2⟩
 |[],_::_,_,h,_ |_::_,[],_,h,_ |[],[],_::_,_,h |_::_,_::_,[],_,h=>h.elim
theorem gS.length:∀{rs qs:List (List AV)},gS D f rs qs->qs.length=rs.length
 |[],[],_=>rfl
 |_::xs,_::ys,h=>by simp[gS.length h.2]
 |[],_::_,h |_::_,[],h=>h.elim
theorem Rel.re{s s':St}(hgf:∀k,D k->g (f k)=k)(hg:∀j,j<1000->g j=j)(hr:Rel P w0 O0 N β I s a w)(hok:∀t,s.ok t=none\/s'.env t= .undef)(hok':∀t,s'.ok t=none)
 (hE:∀t,s'.env t= .undef\/((∀ k∈refs (s.env t),D k)/\lj (gO f (s.env t)) (s'.env t)))
 (hO:∀j o',s'.obj j=some o'->∃k o,s.obj k=some o/\D k/\f k=j/\o'.sz=o.sz/\gS D f o.rows o'.rows):Rel P w0 O0 N (λ j=>β (g j)) I s' a w:=by
 refine⟨hr.defers,hr.size,λt=>?_,?_⟩
 ·have h1:=hr.env t;rw[hok' t];rcases hok t with hk |h
  rotate_left
  rw[h];simp[fx,VR];rw[hk]at h1;rcases hE t with h |⟨h2,h3⟩;rw[h];simp[fx,VR];exact h3 _ _ _ _ _ (VR.rn hgf _ _ h2 h1)
 have hm:=hr.mem;constructor;intro j o' hj;obtain⟨k,o,h1,h2,rfl,h4,h5⟩:=hO j o' hj;have⟨B,hB,te⟩:=hm.de k o h1;refine⟨B,by simp[hgf k h2];exact hB,?_⟩;cases B with
 |none=>
  simp[OR]at te ⊢;rw[te]at h5;cases ho:o'.rows with
  |nil=>rfl
  |cons=>rw[ho]at h5;exact h5.elim
 | «at» b sz n=>
  obtain⟨g1,c,e,g2,g3,g4⟩:=te;exact⟨by rw[g1,h4],c,e,g2,g3,bu.re hgf h5 g4⟩
 |mp b=>
  obtain⟨es,cl,g1,gl,g2,g3⟩:=te;have hl:=h5.length;exact⟨es,cl,g1,by omega,λe=>cT.re hgf h5 (g2 (by omega)),g3⟩
 intro j j' o o' B B' b h1 h2 h3 h4 h5 h6;obtain⟨k,q,i1,i2,rfl,_⟩:=hO j o h1;obtain⟨k',q',i1',i2',rfl,_⟩:=hO j' o' h2;simp[hgf k i2,hgf k' i2']at h3 h4;rw[hm.ii k k' q q' B B' b i1 i1' h3 h4 h5 h6];intro j o B b h1 h2;obtain⟨k,q,i1,i2,rfl,_⟩:=hO j o h1;simp[hgf k i2]at h2;exact hm.ownB k q B b i1 h2;exact hm.lt;exact hm.up;exact hm.keep;exact hm.le;exact hm.os;exact hm.tape;exact hm.output;intro j B hj;show β (g j)=some B;rw[hg j (O0.lt j B hj)];exact hm.anch j B hj;exact hm.vars
end
section
variable {X:SX}
theorem ael{D:Nat->Prop}(f:Nat->Nat):∀r:List (DV X),(∀ k∈aO r,D k)->m5 D f (bG r) (bG (Ls f r))
 |[],_=>trivial
 |x::xs,h=>⟨⟨λ k hk=>h k (by rw[iQ]at hk;simp[aO,hk]),by rw[Af];exact lj.refl _⟩,ael f xs λk hk=>h k (by simp[aO,hk])⟩
theorem JK{D:Nat->Prop}(f:Nat->Nat)(o:bp X)(h:∀k∈eo o,D k):(bI (qS f o)).sz=(bI o).sz/\gS D f (bI o).rows (bI (qS f o)).rows:=by
 cases o with
 |cells sz rows=>
  refine⟨rfl,?_⟩;simp only[eo]at h
  induction rows with
  |nil=>trivial
  |cons r rs ih=>
   refine⟨ael f r λk hk=>h k (by simp[hk]),ih λk hk=>h k ?_⟩;simp only[bE,flatten_cons,bM];exact .inr hk
 |ev c l=>
  refine⟨rfl,?_⟩;simp[bI,qS];generalize l.map (CT.row X.toSE c)=rows;have hrow:∀r:List Tree,m5 D f (r.map AV.t) (r.map AV.t):=by
   intro r
   induction r with
   |nil=>trivial
   |cons y ys ih=>exact⟨⟨by simp[refs],lj.refl _⟩,ih⟩
  induction rows with
  |nil=>trivial
  |cons r rs ih=>exact⟨hrow r,ih⟩
 |map kc vc l=>
  refine⟨rfl,?_⟩;clear h
  induction l with
  |nil=>trivial
  |cons p ps ih=>exact⟨⟨⟨by simp[Ad],by rw[Wx];exact lj.refl _⟩,⟨by simp[Ad],by rw[Wx];exact lj.refl _⟩,trivial⟩,ih⟩
structure Low(s:ea X):Prop where
 le:s.nx<=1000000
 ge:1000<=s.nx
 env:∀t,∀k∈bm (fh s.env t),k<s.nx
 obj:∀k o,il s.obj k=some o->k<s.nx/\∀j∈eo o,j<s.nx
theorem WK{o:bp X}{r:List AV}{x:AV}(hr:r∈(bI o).rows)(hx:x∈r):∀j∈refs x,j∈eo o:=by
 intro j hj;cases o with
 |cells sz rows=>
  simp[bI]at hr;obtain⟨q,hq,rfl⟩:=hr;rw[oD,mem_map]at hx;obtain⟨d,hd,rfl⟩:=hx;simp[eo];refine⟨_,⟨q,hq,rfl⟩,?_⟩;have:∀l:List (DV X),d∈l->j∈aO l:=by
   intro l
   induction l with
   |nil=>intro h;simp at h
   |cons y ys ih=>intro h;rcases aH.1 h with rfl |h
                  simp[aO];left;rwa [iQ]at hj;simp[aO];exact .inr (ih h)
  exact this q hd
 |ev c l=>
  simp[bI,aI]at hr;obtain⟨q,_,rfl⟩:=hr;simp at hx;obtain⟨t,_,rfl⟩:=hx;simp[refs]at hj
 |map kc vc l=>
  simp only[bI,mem_map]at hr;obtain⟨q,_,rfl⟩:=hr;simp at hx;rcases hx with rfl |rfl<;>simp[Ad]at hj
theorem Low.old{s:ea X}(h:Low s):th s.st:=by have hle:=h.le;constructor;intro t k hk;have:=h.env t k (by rw[<- iQ];exact hk);omega;intro k o hk;simp[ea.st]at hk;obtain⟨o',h1,rfl⟩:=hk;have⟨h2,h3⟩:=h.obj k o' h1;refine⟨by omega,λr hr x hx j hj=>?_⟩;have:=h3 j (WK hr hx j hj);omega
end
section
variable {X:SX} {A:Type}
def pP(e b:List (Nat×DV X))(t:Nat):DV X:=match lk e t with |some x=>x |none=>fh b t
def yl(o b:List (Nat×Option (bp X)))(k:Nat):Option (bp X):=match lk o k with |some x=>x |none=>il b k
def zK(dst:Option Tmp)(dv:DV X)(e:List (Nat×DV X)):List (Nat×DV X):=match dst with |some t=>(t,dv)::e |none=>e
def WL:DV X->DV X
 | .skip=> .undef
 |x=>x
def K6(e:List (Nat×DV X)):Operand->Bool
 | .tmp t=>match lk e t with |some .skip=>false |_=>true
 |_=>true
def Si(e b:List (Nat×DV X))(o:Op):Bool:=
 match o with
 | .pick c x y=>K6 e c&&((K6 e x&&K6 e y) || match Zl (pP e b) c with | .c .bool t=>bif t then K6 e x else K6 e y |_=>false)
 |o=>o.operands.toList.all (K6 e)
abbrev GT:=List (Nat×List Nat×List Nat)
section
variable (Γ:FuncId->Option (cm X)) (fz:List Nat) (T:ez) (code:TypeId->Option (CT X.ι)) (ag:Array Oper) (b:ea X)
def yN(k:List (Nat×DV X)->List (Nat×Option (bp X))->GT->Option A):List Nat->List (Nat×DV X)->List (Nat×Option (bp X))->GT->Option A
 |[],e,o,pc=>k e o pc
 |i::r,e,o,pc=>(ag[i]?).bind λop=>match op.guard with
  |none=>bif Si e b.env op.op then GM Γ fz T code i op.op (Zl (pP e b.env)) (yl o b.obj) λdv upd rd wr=>yN k r (zK op.dst (WL dv) e) (upd++o) ((i,rd,wr)::pc)else none
  |some (j,p)=>((ag[j]?).bind (·.dst)).bind λt=>match pP e b.env t with
   | .c .bool v=>
    bif v then(bif p then(bif Si ((t,.c .bool true)::e) b.env op.op then GM Γ fz T code i op.op (Zl (pP ((t,.c .bool true)::e) b.env)) (yl o b.obj) λdv upd rd wr=>yN k r (zK op.dst (WL dv) ((t,.c .bool true)::e)) (upd++o) ((i,rd,wr)::pc)else none)
     else yN k r (zK op.dst .skip ((t,.c .bool true)::e)) o ((i,[],[])::pc))
    else(bif p then yN k r (zK op.dst .skip ((t,.c .bool false)::e)) o ((i,[],[])::pc)
     else(bif Si ((t,.c .bool false)::e) b.env op.op then GM Γ fz T code i op.op (Zl (pP ((t,.c .bool false)::e) b.env)) (yl o b.obj) λdv upd rd wr=>yN k r (zK op.dst (WL dv) ((t,.c .bool false)::e)) (upd++o) ((i,rd,wr)::pc)else none))
   | .skip=>bif(lk e t).isSome then yN k r (zK op.dst .skip e) o ((i,[],[])::pc)else none
   |_=>none
end
def iA(b:ea X)(e:List (Nat×DV X))(o:List (Nat×Option (bp X))):St:=⟨λ t=>den (pP e b.env t),λk=>(yl o b.obj k).map bI,λt=>match lk e t with |some .skip=>some false |_=>none⟩
theorem ajR(x:DV X):den (WL x)=den x:=by cases x<;>rfl
theorem alK(b:ea X)(e:List (Nat×DV X))(o:List (Nat×Option (bp X)))(dst:Option Tmp)(dv:DV X)(upd:List (Nat×Option (bp X)))(obs:List Prop):
 (iA b e o).app dst (⟨den dv,iO upd,obs⟩,none)=iA b (zK dst (WL dv) e) (upd++o):=by
 simp[iA,St.app];refine⟨?_,?_,?_⟩;funext t;cases dst with
 |none=>simp[yF,zK]
 |some d=>
  simp[yF,zK,pP,lk];by_cases h:d=t<;>simp[h,ajR]
 funext j
 induction upd with
 |nil=>rfl
 |cons p u ih=>
  obtain⟨q,x⟩:=p;simp[iO,bT,yl,lk]at ih ⊢;by_cases h:j=q;simp[h];rw[aR h,aR (Ne.symm h)];exact ih
 funext t;cases dst with
 |none=>simp[yF,zK]
 |some d=>
  simp[yF,zK,lk];by_cases h:d=t;simp[h];cases dv<;>rfl;simp[aR h]
theorem ajS(b:ea X)(e:List (Nat×DV X))(o:List (Nat×Option (bp X)))(dst:Option Tmp):(iA b e o).app dst (⟨.undef,[],[]⟩,some false)=iA b (zK dst .skip e) o:=by
 simp[iA,St.app];refine⟨?_,rfl,?_⟩;funext t;cases dst with
 |none=>simp[yF,zK]
 |some d=>
  simp[yF,zK,pP,lk];by_cases h:d=t<;>simp[h,den]
 funext t;cases dst with
 |none=>simp[yF,zK]
 |some d=>
  simp[yF,zK,lk];by_cases h:d=t<;>simp[h]
theorem aem(b:ea X)(e:List (Nat×DV X))(o:List (Nat×Option (bp X))):my (iA b e o).env=λx=>den (Zl (pP e b.env) x):=by funext x;exact(VZ _ x).symm
theorem CO{b:ea X}{e:List (Nat×DV X)}{o:List (Nat×Option (bp X))}{x:Operand}(h:K6 e x=true):xB (iA b e o).ok x=[]:=by
 cases x with
 |tmp t=>
  simp[K6]at h;simp[xB,iA];cases ht:lk e t with
  |none=>rfl
  |some d=>rw[ht]at h;cases d<;>first |rfl |cases h
 |_=>rfl
theorem ajT{b:ea X}{e:List (Nat×DV X)}{o:List (Nat×Option (bp X))}{P:Program}{T:ez}{i:Nat}{op:Oper}{cJ:j8}{get:Nat->Option aK}{out:Out}(hok:Si e b.env op.op=true)
 (h:jN P T i op cJ (my (iA b e o).env) get=some out):∀p∈needs (iA b e o).env (iA b e o).ok op.op,p:=by
 obtain⟨dst,op,ty,am,after,guard⟩:=op;unfold needs;split
 ·rename_i c x y heq;simp only at heq;subst heq;simp only[Si,aY,Bool.or_eq_true]at hok;obtain⟨hc,hxy⟩:=hok;have hb:∃t,my (iA b e o).env c= .t (.sc (.bool t)):=by
   have h0:(∃ n,cJ= .ext n)\/(∃ ab fr q,cJ= .yy ab fr q)\/qG T i ⟨dst,.pick c x y,ty,am,after,guard⟩ cJ (my (iA b e o).env) get=some out:=(by cases cJ<;>first |exact .inl ⟨_,rfl⟩ |exact .inr (.inl ⟨_,_,_,rfl⟩) |exact .inr (.inr h));rcases h0 with ⟨n,rfl⟩ |⟨ab,fr,q,rfl⟩ |h0
   ·simp[jN,sW,Mz,sV]at h
   ·simp[jN,Hf,agB]at h
   ·simp only[qG]at h0;split at h0
    ·rename_i t ht;exact⟨t,ht⟩
    ·cases h0
  obtain⟨t,ht⟩:=hb;rw[ht];simp only[CO hc,fI];rcases hxy with ⟨hx,hy⟩ |hxy
  ·simp[CO hx,CO hy]
  ·split at hxy
   ·rename_i t' ht';have e1:my (iA b e o).env c= .t (.sc (.bool t')):=(by rw[aem];simp only[ht'];rfl);rw[e1]at ht;injection ht with ht;injection ht with ht;injection ht with ht;subst ht;cases t' with
    |true=>
     simp only[aj]at hxy;simp[CO hxy]
    |false=>
     simp only[au]at hxy;simp[CO hxy]
   ·cases hxy
 ·rename_i o' hne;intro p hp;have hall:∀x∈op.operands.toList,K6 e x=true:=by have:Si e b.env op=op.operands.toList.all (K6 e):=(by cases op<;>first |rfl |exact(hne _ _ _ rfl).elim);rw[this]at hok;exact all_eq_true.1 hok
  simp only[mem_flatMap]at hp;obtain⟨x,hx,hp⟩:=hp;rw[CO (hall x hx)]at hp;simp at hp
theorem alL{a b:List Prop}(h:∀p∈a,p)(h':iM b):iM (a++b):=rD _ (gP h (M6 b h'))
variable {Γ:FuncId->Option (cm X)} {fz:List Nat} {T:ez} {code:TypeId->Option (CT X.ι)} {ag:Array Oper} {b:ea X} {P:Program}
theorem ajU(hΓ:tj P Γ){i:Nat}{op:Oper}{e:List (Nat×DV X)}{o:List (Nat×Option (bp X))}{k:KK X A}{r:A}(hop:ag[i]? =some op)(hw:want ag op (iA b e o).env (iA b e o).ok=some true)(hok:Si e b.env op.op=true)
 (h:GM Γ fz T code i op.op (Zl (pP e b.env)) (yl o b.obj) k=some r):
 ∃(a:j9)(dv:DV X)(upd:List (Nat×Option (bp X))),a.sym=false/\k dv upd a.rd a.wr=some r/\∀(da:Nat->j9)(K:St->Prop),da i=a->K (iA b (zK op.dst (WL dv) e) (upd++o))->yW P T ag da i K (iA b e o):=by
 have⟨cJ,rd,wr,dv,upd,out,h1,h2,h3,h4,h5,h6⟩:=ag9 hΓ h;refine⟨⟨cJ,rd,wr,false⟩,dv,upd,rfl,h6,λda K ha hK=>?_⟩;have h1':jN P T i op cJ (my (iA b e o).env) (dF rd (iA b e o).obj)=some out:=by rw[aem];exact h1
 refine⟨op,(⟨out.v,out.upd,needs (iA b e o).env (iA b e o).ok op.op++out.obs⟩,none),hop,?_,?_,?_⟩;simp only[opAt,hop,ai,hw,ha,h1'];rw[aS];rw[all_eq_true];intro p hp;rw[h4]at hp;simp only[iO,mem_map]at hp;obtain⟨q,hq,rfl⟩:=hp;rcases h5 q hq with h |h;simp[h,VG.2 (.inl rfl:jn (cx i) (cx i))];simp[h];exact alL (ajT hok h1') h2;rw[h3,h4,alK];exact hK
theorem step_skip{i:Nat}{op:Oper}{e:List (Nat×DV X)}{o:List (Nat×Option (bp X))}(hop:ag[i]? =some op)(hw:want ag op (iA b e o).env (iA b e o).ok=some false)
 (da:Nat->j9) (K:St->Prop) (ha:da i=⟨.none,[],[],false⟩) (hK:K (iA b (zK op.dst .skip e) o)):yW P T ag da i K (iA b e o):=by refine⟨op,(⟨.undef,[],[]⟩,some false),hop,?_,trivial,?_⟩;simp[opAt,hop,hw,ha];rw[ajS];exact hK
theorem aha{e:List (Nat×DV X)}{o:List (Nat×Option (bp X))}{t:Nat}{v:Bool}(h:pP e b.env t= .c .bool v):iA b ((t,.c .bool v)::e) o=iA b e o:=by
 simp[iA];refine⟨?_,?_⟩;funext s;by_cases hs:t=s;subst hs;rw[h];simp[pP,lk];simp[pP,lk,hs];funext s;by_cases hs:t=s;subst hs;simp[lk];unfold pP at h;cases ht:lk e t with
 |none=>rfl
 |some d=>rw[ht]at h;simp at h;subst h;rfl
 simp[lk,hs]
def Kc(tr:List (Nat×j9)):GT:=tr.map λp=>(p.1,p.2.rd,p.2.wr)
def Sj(ag:Array Oper)(t:Nat):Prop:=∃(j:Nat)(op:Oper),ag[j]? =some op/\op.dst=some t
theorem aen{dst:Option Tmp}{dv:DV X}{e:List (Nat×DV X)}{p:Nat×DV X}(h:p∈zK dst dv e):p∈e\/dst=some p.1:=by
 cases dst with
 |none=>exact .inl h
 |some t=>
  simp[zK]at h;rcases h with rfl |h;exact .inr rfl;exact .inl h
theorem El(hΓ:tj P Γ){k:List (Nat×DV X)->List (Nat×Option (bp X))->GT->Option A}{r:A}:∀(l:List Nat)(e:List (Nat×DV X))(o:List (Nat×Option (bp X)))(pc:GT),yN Γ fz T code ag b k l e o pc=some r->
 ∃(tr:List (Nat×j9))(e':List (Nat×DV X))(o':List (Nat×Option (bp X))),tr.map (·.1)=l/\k e' o' ((Kc tr).reverse++pc)=some r/\(∀ p∈e',p∈e\/Sj ag p.1)/\
  ∀da:Nat->j9,(∀ p∈tr,da p.1=p.2)->Tg P T ag da (λ σ=>σ=iA b e' o') l (iA b e o)
 |[],e,o,pc,h=>⟨[],e,o,rfl,h,λ_ hp=> .inl hp,λ_ _=>rfl⟩
 |i::l,e,o,pc,h=>by
  simp[yN]at h;have⟨op,hop,h⟩:=ah.1 h
  have exec:∀e:List (Nat×DV X),want ag op (iA b e o).env (iA b e o).ok=some true->
   (bif Si e b.env op.op then GM Γ fz T code i op.op (Zl (pP e b.env)) (yl o b.obj) λdv upd rd wr=>yN Γ fz T code ag b k l (zK op.dst (WL dv) e) (upd++o) ((i,rd,wr)::pc)else none)=some r->
   ∃(tr:List (Nat×j9)) (e':List (Nat×DV X)) (o':List (Nat×Option (bp X))),tr.map (·.1)=i::l/\k e' o' ((Kc tr).reverse++pc)=some r/\(∀ p∈e',p∈e\/Sj ag p.1)/\
    ∀da:Nat->j9,(∀ p∈tr,da p.1=p.2)->Tg P T ag da (λ σ=>σ=iA b e' o') (i::l) (iA b e o):=by intro e hw h;have⟨hok,h⟩:=dN h;have⟨a,dv,upd,_,h1,h2⟩:=ajU hΓ hop hw hok h;obtain⟨tr,e',o',g1,g2,g4,g3⟩:=El hΓ l _ _ _ h1;refine⟨(i,a)::tr,e',o',by simp[g1],?_,λp hp=>(g4 p hp).elim (λ hp=>(aen hp).elim .inl λhd=> .inr ⟨i,op,hop,hd⟩) .inr,λda ha=>?_⟩;simpa[Kc]using g2;exact h2 da _ (ha (i,a) (by simp)) (g3 da λp hp=>ha p (by simp[hp]))
  have skip:∀e:List (Nat×DV X),want ag op (iA b e o).env (iA b e o).ok=some false->yN Γ fz T code ag b k l (zK op.dst .skip e) o ((i,[],[])::pc)=some r->
   ∃(tr:List (Nat×j9)) (e':List (Nat×DV X)) (o':List (Nat×Option (bp X))),tr.map (·.1)=i::l/\k e' o' ((Kc tr).reverse++pc)=some r/\(∀ p∈e',p∈e\/Sj ag p.1)/\
    ∀da:Nat->j9,(∀ p∈tr,da p.1=p.2)->Tg P T ag da (λ σ=>σ=iA b e' o') (i::l) (iA b e o):=by intro e hw h;obtain⟨tr,e',o',g1,g2,g4,g3⟩:=El hΓ l _ _ _ h;refine⟨(i,⟨.none,[],[],false⟩)::tr,e',o',by simp[g1],?_,λp hp=>(g4 p hp).elim (λ hp=>(aen hp).elim .inl λhd=> .inr ⟨i,op,hop,hd⟩) .inr,λda ha=>?_⟩;simpa[Kc]using g2;exact step_skip hop hw da _ (ha (i,_) (by simp)) (g3 da λp hp=>ha p (by simp[hp]))
  split at h;rename_i hg;exact exec e (by simp[want,hg]) h;rename_i j p hg;rw[ah]at h;obtain⟨t,ht,h⟩:=h;split at h;rename_i v hv;have hw:∀e:List (Nat×DV X),pP e b.env t= .c .bool v->want ag op (iA b e o).env (iA b e o).ok=some (v==p):=by
   intro e he;simp[want,hg,ht];have h0:(iA b e o).ok t=none:=by
    simp[iA];unfold pP at he;cases hq:lk e t with
    |none=>rfl
    |some d=>rw[hq]at he;simp at he;subst he;rfl
   have h1:(iA b e o).env t= .t (.sc (.bool v)):=(by simp[iA,he];rfl);rw[h0,h1]
  have hk:=aha (b:=b) (o:=o) hv;have hv':pP ((t,.c .bool v)::e) b.env t= .c .bool v:=by simp[pP,lk]
  have htd:Sj ag t:=by have⟨oj,h1,h2⟩:=ah.1 ht;exact⟨j,oj,h1,h2⟩
  have wide:(∃ (tr:List (Nat×j9)) (e':List (Nat×DV X)) (o':List (Nat×Option (bp X))),tr.map (·.1)=i::l/\k e' o' ((Kc tr).reverse++pc)=some r/\(∀ p∈e',p∈((t,.c .bool v)::e:List (Nat×DV X))\/Sj ag p.1)/\
   ∀da:Nat->j9,(∀ p∈tr,da p.1=p.2)->Tg P T ag da (λ σ=>σ=iA b e' o') (i::l) (iA b ((t,.c .bool v)::e) o))->
   ∃(tr:List (Nat×j9))(e':List (Nat×DV X))(o':List (Nat×Option (bp X))),tr.map (·.1)=i::l/\k e' o' ((Kc tr).reverse++pc)=some r/\(∀ p∈e',p∈e\/Sj ag p.1)/\
   ∀da:Nat->j9,(∀ p∈tr,da p.1=p.2)->Tg P T ag da (λ σ=>σ=iA b e' o') (i::l) (iA b e o):=by rintro⟨tr,e',o',g1,g2,g4,g3⟩;refine⟨tr,e',o',g1,g2,λq hq=>?_,hk ▸ g3⟩;rcases g4 q hq with h |h;rcases aH.1 h with rfl |h;exact .inr htd;exact .inl h;exact .inr h
  apply wide;cases v with
  |true=>
   simp at h;cases p with
   |true=>exact exec _ (hw _ hv') h
   |false=>exact skip _ (hw _ hv') h
  |false=>
   simp at h;cases p with
   |true=>exact skip _ (hw _ hv') h
   |false=>exact exec _ (hw _ hv') h
  rename_i hv;have⟨hsome,h⟩:=dN h;refine skip e ?_ h;simp[want,hg,ht];have h1:(iA b e o).env t= .undef:=by simp[iA,hv];rfl
  cases hq:lk e t with
  |some d=>
   have h0:(iA b e o).ok t=some false:=(by unfold pP at hv;rw[hq]at hv;simp at hv;subst hv;simp[iA,hq]);rw[h0,h1]
  |none=>rw[hq]at hsome;cases hsome
  cases h
end
section
variable {X:SX} {A:Type}
def fN(nx k:Nat):Nat:=if k<1000000 then k else nx+(k -1000000)
def gN(nx j:Nat):Nat:=if j<nx then j else 1000000+(j -nx)
def H0(nx sz k:Nat):Bool:=decide (k<nx) || (decide (1000000<=k)&&decide (k<1000000+sz))
def okE(nx sz:Nat)(e:List (Nat×DV X)):Bool:=e.all λp=>(bm p.2).all (H0 nx sz)
def okO(nx sz:Nat)(o:List (Nat×Option (bp X))):Bool:=o.all λp=>H0 nx sz p.1&&match p.2 with |some x=>(eo x).all (H0 nx sz) |none=>true
def pd(pc:GT):Nat->j9:=λi=>match lk pc i with |some p=>⟨.none,p.1,p.2,false⟩ |none=>⟨.none,[],[],false⟩
def m4(tr:List (Nat×j9)):Nat->j9:=λi=>match lk tr i with |some a=>a |none=>⟨.none,[],[],false⟩
def MM:DV X->DV X
 | .skip=> .undef
 |x=>x
theorem alN(x:DV X):den (MM x)=den x:=by cases x<;>rfl
theorem aa1(x:DV X):bm (MM x)=bm x:=by cases x<;>rfl
def fin(s:ea X)(e:List (Nat×DV X))(o:List (Nat×Option (bp X)))(sz:Nat):ea X:=
 ⟨e.map (λ p=>(p.1,MM (sE (fN s.nx) p.2)))++s.env,o.map (λ p=>(fN s.nx p.1,p.2.map (qS (fN s.nx))))++s.obj,s.nx+sz,o.map (λ p=>fN s.nx p.1)++s.log⟩
def alO(N:Nat)(ag:Array Oper)(d:Bool)(nx:Nat)(e:List (Nat×DV X))(o:List (Nat×Option (bp X)))(pc:GT):Bool:=
 PV N ag&&(!d || VN ag (pd pc))&&okE nx (64*ag.size) e&&okO nx (64*ag.size) o&&decide (nx+64*ag.size<=1000000)
def ahb(Γ:FuncId->Option (cm X))(fz:List Nat)(T:ez)(code:TypeId->Option (CT X.ι))(N:Nat)(ag:Array Oper)(d:Bool)(s:ea X)(k:ea X->Option A):Option A:=
 yN Γ fz T code ag s (λ e o pc=>bif alO N ag d s.nx e o pc then k (fin s e o (64*ag.size))else none) (List.range ag.size) [] [] []
theorem aeo{ag:Array Oper}{da vm:Nat->j9}(h:∀i,(da i).rd=(vm i).rd/\(da i).wr=(vm i).wr):VN ag da=VN ag vm:=by
 have h1:xE da=xE vm:=by funext i j;simp[xE,(h i).1,(h i).2,(h j).1,(h j).2]
 have h2:∀md,PU md ag da=PU md ag vm:=by intro md;funext listed i;simp[PU,h1]
 have h3:∀(md:Region.Mode)(n k:Nat)(listed:Array Bool),lexFrom' md ag da n k listed=lexFrom' md ag vm n k listed:=by
  intro md n
  induction n with
  |zero=>intro k listed;rfl
  |succ n ih=>intro k listed;simp[lexFrom',h2,ih]
 exact h3 _ _ _ _
theorem CP{α:Type}:∀(a b:List (Nat×α))(k:Nat),lk (a++b) k=match lk a k with |some x=>some x |none=>lk b k
 |[],_,_=>rfl
 |(j,x)::a,b,k=>by simp[lk];by_cases h:j=k;simp[h];simp[aR h,CP a b k]
theorem lw{α:Type}:∀{l:List (Nat×α)}{k:Nat},lk l k=none->∀x,(k,x)∉l
 |(j,y)::r,k,h,x=>by simp[lk]at h;split at h;cases h;rename_i hn;simp only[aH,Prod.mk.injEq,not_or];exact⟨λ e=>hn e.1.symm,lw h x⟩
 |[],_,_,_=>by simp
theorem aph{tr:List (Nat×j9)}(hn:(tr.map (·.1)).Nodup)(i:Nat):(pd (Kc tr).reverse i).rd=(m4 tr i).rd/\(pd (Kc tr).reverse i).wr=(m4 tr i).wr:=by
 have hn':((Kc tr).reverse.map (·.1)).Nodup:=by
  rw[List.map_reverse];have h1:((Kc tr).map (·.1)).Nodup:=by simpa[Kc,Function.comp_def]using hn
  exact List.pairwise_reverse.2 (h1.imp λh=>Ne.symm h)
 unfold pd m4;cases h:lk tr i with
 |none=>
  cases h':lk (Kc tr).reverse i with
  |none=>exact⟨rfl,rfl⟩
  |some p=>
   have:=pq h';simp only[Kc,List.mem_reverse,mem_map]at this;obtain⟨q,hq,he⟩:=this;injection he with e1 e2;subst e1;exact(lw h q.2 hq).elim
 |some a=>
  have h1:=pq h;have h2:(i,a.rd,a.wr)∈(Kc tr).reverse:=by simp only[Kc,List.mem_reverse,mem_map];exact⟨(i,a),h1,rfl⟩
  rw[vz hn' h2];exact⟨rfl,rfl⟩
theorem alP{tr:List (Nat×j9)}(hn:(tr.map (·.1)).Nodup):∀p∈tr,m4 tr p.1=p.2:=by rintro⟨i,a⟩ hp;rw[m4,vz hn hp]
theorem WM{nx sz k:Nat}(h:H0 nx sz k=true):k<nx\/(1000000<=k/\k<1000000+sz):=by simpa[H0]using h
theorem ZZ{nx sz k:Nat}(hle:nx+sz<=1000000)(h:k<nx\/(1000000<=k/\k<1000000+sz)):gN nx (fN nx k)=k:=by grind [gN,fN]
theorem HO{nx sz k:Nat}(hle:nx+sz<=1000000)(h:k<nx\/(1000000<=k/\k<1000000+sz)):fN nx k<nx+sz:=by grind [fN]
theorem So{nx k:Nat}(hle:nx<=1000000)(h:k<nx):fN nx k=k:=aS (by omega)
mutual
theorem WN{f:Nat->Nat}:∀x:DV X,(∀ k∈bm x,f k=k)->sE f x=x
 | .own k _ _,h | .ptr k _ _,h | .rK k _ _,h | .mp k,h | .oz k _,h | .tW k _ _ _ _,h=>by simp[sE,h k (by simp[bm])]
 | .agg cs,h | .en cs,h=>by simp[sE,Em cs (by simpa[bm]using h)]
 | .fn F first caps,h=>by simp[sE,Em first (λ k hk=>h k (by simp[bm,hk])),Em caps (λ k hk=>h k (by simp[bm,hk]))]
 | .c _ _,_ | .rp _ _ _,_ | .ye _ _ _ _ _,_ | .el _ _ _,_ | .raw _,_ | .nil,_ | .ub,_ | .skip,_ | .undef,_=>rfl
theorem Em{f:Nat->Nat}:∀l:List (DV X),(∀ k∈aO l,f k=k)->Ls f l=l
 |[],_=>rfl
 |x::xs,h=>by simp[Ls,WN x (λ k hk=>h k (by simp[aO,hk])),Em xs (λ k hk=>h k (by simp[aO,hk]))]
end
mutual
theorem WO(f:Nat->Nat):∀x:DV X,bm (sE f x)=(bm x).map f
 | .own _ _ _ | .ptr _ _ _ | .rK _ _ _ | .mp _ | .oz _ _ | .tW _ _ _ _ _=>rfl
 | .agg cs | .en cs=>by simp[sE,bm,CQ f cs]
 | .fn F first caps=>by simp[sE,bm,CQ f first,CQ f caps]
 | .c _ _ | .rp _ _ _ | .ye _ _ _ _ _ | .el _ _ _ | .raw _ | .nil | .ub | .skip | .undef=>rfl
theorem CQ(f:Nat->Nat):∀l:List (DV X),aO (Ls f l)=(aO l).map f
 |[]=>rfl
 |x::xs=>by simp[Ls,aO,WO f x,CQ f xs]
end
theorem aep(f:Nat->Nat)(o:bp X):eo (qS f o)=(eo o).map f:=by
 cases o with
 |cells sz rows=>simp[qS,eo];congr 1;exact map_congr_left λr _=>CQ f r
 |ev c l |map kc vc l=>rfl
theorem alQ{α β:Type}(f:α->β):∀(l:List (Nat×α))(k:Nat),lk (l.map λp=>(p.1,f p.2)) k=(lk l k).map f
 |[],_=>rfl
 |(j,x)::r,k=>by simp[lk];by_cases h:j=k;simp[h];simp[aR h,alQ f r k]
theorem aiO{α β:Type}(f:α->β)(g:Nat->Nat):∀(l:List (Nat×α))(j:Nat),(∀ p∈l,∀q∈l,g p.1=g q.1->p.1=q.1)->
 (∀ y,lk (l.map λp=>(g p.1,f p.2)) j=some y->∃k x,lk l k=some x/\g k=j/\y=f x)/\(lk (l.map λp=>(g p.1,f p.2)) j=none->∀p∈l,g p.1≠j)
 |[],_,_=>⟨λ _ h=>by simp[lk]at h,λ_=>by simp⟩
 |(k0,x0)::r,j,hi=>by
  obtain⟨i1,i2⟩:=aiO f g r j (λ p hp q hq=>hi p (by simp[hp]) q (by simp[hq]));simp[lk];by_cases h:g k0=j;rw[aS h];exact⟨λ y hy=>by injection hy with hy;exact⟨k0,x0,by simp,h,hy.symm⟩,λhn=>by cases hn⟩
  grind
structure Ext(ds:Nat->Prop)(s s':ea X):Prop where
 env:∀t,¬ds t->fh s'.env t=fh s.env t\/fh s'.env t= .undef
 obj:∃d,s'.log=d++s.log/\∀k,k<s.nx->k∉d->il s'.obj k=il s.obj k\/il s'.obj k=none
 nx:s.nx<=s'.nx
variable {Γ:FuncId->Option (cm X)} {fz:List Nat} {T:ez} {code:TypeId->Option (CT X.ι)} {P:Program} {N:Nat}
theorem Nq(s:ea X)(e:List (Nat×DV X))(o:List (Nat×Option (bp X)))(sz t:Nat):fh (fin s e o sz).env t=match lk e t with |some d=>MM (sE (fN s.nx) d) |none=>fh s.env t:=by simp[fin,fh,CP,alQ (λ d=>MM (sE (fN s.nx) d))];cases lk e t<;>rfl
theorem acu(hT:eX P T)(hm:P.follows .mixedOrders=true)(hΓ:tj P Γ){id:Nat}{ag:Array Oper}{d:Bool}{s:ea X}{k:ea X->Option A}{r:A}(hl:Low s)(h:ahb Γ fz T code N ag d s k=some r):
 ∃s':ea X,k s'=some r/\Low s'/\Ext (Sj ag) s s'/\Ev P N (.region id ag d) (λ e σ=>e= .normal/\σ=s'.st) s.st:=by
 unfold ahb at h;obtain⟨tr,e,o,h1,h2,h3,h4⟩:=El hΓ _ _ _ _ h;have⟨h5,h6⟩:=dN h2;simp only[alO,aY,append_nil]at h5;obtain⟨⟨⟨⟨hd,hlex⟩,hE⟩,hO⟩,hnx⟩:=h5;have hle:s.nx+64*ag.size<=1000000:=of_decide_eq_true hnx;have IR:(tr.map (·.1)).Nodup:=by rw[h1];exact List.nodup_range
 have XX:∀t x,lk e t=some x->∀j∈bm x,j<s.nx\/(1000000<=j/\j<1000000+64*ag.size):=by intro t x hx j hj;have:=all_eq_true.1 hE _ (pq hx);exact WM (all_eq_true.1 this j hj)
 have J1:∀p∈o,(p.1<s.nx\/(1000000<=p.1/\p.1<1000000+64*ag.size))/\∀x,p.2=some x->∀j∈eo x,j<s.nx\/(1000000<=j/\j<1000000+64*ag.size):=by intro p hp;have:=all_eq_true.1 hO _ hp;simp at this;refine⟨WM this.1,λx hx j hj=>?_⟩;have h2:=this.2;rw[hx]at h2;exact WM (all_eq_true.1 h2 j hj)
 have hinj:∀p∈o,∀q∈o,fN s.nx p.1=fN s.nx q.1->p.1=q.1:=by
  intro p hp q hq he;have:=congrArg (gN s.nx) he
  rwa [ZZ hle (J1 p hp).1,ZZ hle (J1 q hq).1]at this
 have yn:∀j,(∃ q x,lk o q=some x/\fN s.nx q=j/\il (fin s e o (64*ag.size)).obj j=x.map (qS (fN s.nx)))\/(il (fin s e o (64*ag.size)).obj j=il s.obj j/\∀p∈o,fN s.nx p.1≠j):=by
  intro j;obtain⟨i1,i2⟩:=aiO (λ x:Option (bp X)=>x.map (qS (fN s.nx))) (fN s.nx) o j hinj;simp only[fin,il,CP];cases hj:lk (o.map λp=>(fN s.nx p.1,p.2.map (qS (fN s.nx)))) j with
  |none=>exact .inr ⟨rfl,i2 hj⟩
  |some y=>
   have⟨q,x,g1,g2,g3⟩:=i1 y hj;exact .inl ⟨q,x,g1,g2,by rw[g3];rfl⟩
 refine⟨fin s e o (64*ag.size),h6,?_,?_,?_⟩;constructor;exact hle;have:=hl.ge;show 1000<=s.nx+64*ag.size;omega;intro t j hj;rw[Nq]at hj;cases ht:lk e t with
 |none=>rw[ht]at hj;have:=hl.env t j hj;show j<s.nx+64*ag.size;omega
 |some x=>
  rw[ht,aa1,WO]at hj;obtain⟨q,hq,rfl⟩:=mem_map.1 hj;exact HO hle (XX t x ht q hq)
 intro j x hx;rcases yn j with ⟨q,y,g1,rfl,g3⟩ |⟨g1,_⟩;rw[g3]at hx;rw[sS]at hx;obtain⟨z,rfl,rfl⟩:=hx;obtain⟨k1,k2⟩:=J1 _ (pq g1);refine⟨HO hle k1,λi hi=>?_⟩;rw[aep]at hi;obtain⟨i',hi',rfl⟩:=mem_map.1 hi;exact HO hle (k2 z rfl i' hi');rw[g1]at hx;have⟨k1,k2⟩:=hl.obj j x hx;refine⟨show j<s.nx+64*ag.size by omega,λi hi=>?_⟩;have:=k2 i hi;show i<s.nx+64*ag.size;omega;refine⟨λ t ht=> .inl ?_,⟨o.map (λ p=>fN s.nx p.1),rfl,λj hj hn=>?_⟩,by show s.nx<=s.nx+64*ag.size;omega⟩;rw[Nq];cases hx:lk e t with
 |none=>rfl
 |some x=>
  rcases h3 _ (pq hx)with h |h;simp at h;exact(ht h).elim
 rcases yn j with ⟨q,y,g1,g2,g3⟩ |⟨g1,_⟩;exact(hn (mem_map.2 ⟨(q,y),pq g1,g2⟩)).elim;exact .inl g1;have hst:iA s [] []=s.st:=rfl;have hex:=h4 (m4 tr) (alP IR);rw[hst]at hex;intro w0 O0 β I a w hr ho;have done:∀(e':Exit)(a':Act)(w':World),(∃ β' I' σ1,Rel P w0 O0 N β' I' σ1 a' w'/\e'= .normal/\σ1=iA s e o)->∃ β' I' σ1,Rel P w0 O0 N β' I' σ1 a' w'/\th σ1/\e'= .normal/\σ1=(fin s e o (64*ag.size)).st:=by
  rintro e' a' w' ⟨β',I',σ1,g1,rfl,rfl⟩;refine⟨_,I',(fin s e o (64*ag.size)).st,Rel.re (f:=fN s.nx) (g:=gN s.nx) (D:=λk=>k<s.nx\/(1000000<=k/\k<1000000+64*ag.size)) (λ k hk=>ZZ hle hk) (λ j hj=>by have:=hl.ge;unfold gN;rw[aS (by omega)]) g1 (λ t=>?_) (λ _=>rfl) (λ t=> .inr ?_) (λ j o' hj=>?_),?_,rfl,rfl⟩;show(match lk e t with |some .skip=>some false |_=>none)=none\/den (fh (fin s e o (64*ag.size)).env t)= .undef;rw[Nq];cases ht:lk e t with
  |none=>exact .inl rfl
  |some d=>cases d<;>first |exact .inl rfl |exact .inr rfl
  show(∀ k∈refs (den (pP e s.env t)),_)/\lj (gO (fN s.nx) (den (pP e s.env t))) (den (fh (fin s e o (64*ag.size)).env t));rw[Nq,iQ,<- Af];unfold pP;cases ht:lk e t with
  |none=>
   refine⟨λ q hq=> .inl (hl.env t q hq),?_⟩;rw[WN _ (λ q hq=>So (by omega) (hl.env t q hq))];exact lj.refl _
  |some x=>exact⟨XX t x ht,by simp[alN];exact lj.refl _⟩
  simp[ea.st]at hj;obtain⟨x,hx,rfl⟩:=hj;rcases yn j with ⟨q,y,i1,rfl,i3⟩ |⟨i1,i2⟩;rw[i3,sS]at hx;obtain⟨z,rfl,rfl⟩:=hx;obtain⟨k1,k2⟩:=J1 _ (pq i1);obtain⟨r1,r2⟩:=JK (D:=λk=>k<s.nx\/(1000000<=k/\k<1000000+64*ag.size)) (fN s.nx) z (λ i hi=>k2 z rfl i hi);refine⟨q,bI z,?_,k1,rfl,r1,r2⟩;simp[iA,yl,i1];rw[i1]at hx;have⟨k1,k2⟩:=hl.obj j x hx;have hid:qS (fN s.nx) x=x:=by
   cases x with
   |ev c l |map kc vc l=>rfl
   |cells sz rows=>
    simp[qS];congr 1;have:∀q∈rows,Ls (fN s.nx) q=q:=λq hq=>Em q λi hi=>So (by omega) (k2 i (by simp[eo];exact⟨_,⟨q,hq,rfl⟩,hi⟩));rw[map_congr_left this];simp
  obtain⟨r1,r2⟩:=JK (D:=λk=>k<s.nx\/(1000000<=k/\k<1000000+64*ag.size)) (fN s.nx) x (λ i hi=> .inl (k2 i hi));rw[hid]at r1 r2;refine⟨j,bI x,?_,.inl k1,So (by omega) k1,r1,r2⟩;simp[iA,yl];cases hlo:lk o j with
  |none=>simp[hx]
  |some y=>exact(i2 _ (pq hlo) (So (by omega) k1)).elim
  have hL:Low (fin s e o (64*ag.size)):=by
   constructor;exact hle;have:=hl.ge;show 1000<=s.nx+64*ag.size;omega;intro t j hj;rw[Nq]at hj;cases ht:lk e t with
   |none=>rw[ht]at hj;have:=hl.env t j hj;show j<s.nx+64*ag.size;omega
   |some x=>
    rw[ht,aa1,WO]at hj;obtain⟨q,hq,rfl⟩:=mem_map.1 hj;exact HO hle (XX t x ht q hq)
   intro j x hx;rcases yn j with ⟨q,y,g1,rfl,g3⟩ |⟨g1,_⟩;rw[g3]at hx;rw[sS]at hx;obtain⟨z,rfl,rfl⟩:=hx;obtain⟨k1,k2⟩:=J1 _ (pq g1);refine⟨HO hle k1,λi hi=>?_⟩;rw[aep]at hi;obtain⟨i',hi',rfl⟩:=mem_map.1 hi;exact HO hle (k2 z rfl i' hi');rw[g1]at hx;have⟨k1,k2⟩:=hl.obj j x hx;refine⟨show j<s.nx+64*ag.size by omega,λi hi=>?_⟩;have:=k2 i hi;show i<s.nx+64*ag.size;omega
  exact hL.old
 cases d with
 |false=>exact wp_mono (aaD hT hd ho hex hr) done
 |true=>
  refine wp_mono (Hq hT hm hd ?_ ho hex hr) done;rw[<- aeo (aph IR)];simpa using hlex
end
end Go.Gb
