import Derived.Test.YtnclkjejgffdmacGreatW1
import Derived.Maps.RangeRun
import Derived.ChangeSame
import Derived.Carry
import Derived.OpenShut
import Derived.SizedLaws
import Derived.WalkKit
import Derived.ProofKit
import Derived.Lib.LaidTab
open List (mem_map all_eq_true cons_append length_map append_nil map_map take_of_length_le map_congr_left flatten_cons map_nil all_cons map_take map_drop mem_flatMap mem_append_left mem_append_right)
namespace Go.Gb
open Go.RowKit Go.MapKept
structure RgI where
 x:Operand
 t:TypeId
 a0:Nat
 it:Nat
 nn:Nat
 b:Nat
 e:Nat
 xx:Nat
 kv:Nat
 j:Nat
 j2:Nat
 body:Code
section
variable {P:Program} {w0:World} {O0:lp} {N:Nat} {G:Nat->Option dc} {I:Nat->Prop} {U:St} {a:Act} {w:World}
def St.put(U:St)(d:Nat)(x:AV):St:=⟨zA U.env (some d) x,U.obj,zA U.ok (some d) none⟩
theorem Rel.put(hr:Rel P w0 O0 N G I U a w){d:Nat}(hd:d<N){x:AV}{v:Ω}(hv:VR P G w I x v):Rel P w0 O0 N G I (U.put d x) (a.put (some d) v) w:=by
 refine⟨by simpa[Act.put]using hr.defers,by simpa[Act.put]using hr.size,λt=>?_,hr.mem⟩;have hold:=hr.env t;simp only[St.put,zA,Act.put,bK];by_cases hdt:d=t;subst hdt;rw[aP rfl,aP rfl];have e:(a.tmps.setIfInBounds d v).getD d undef=v:=by simp[Nat.lt_of_lt_of_eq hd hr.size.symm]
 rw[e];exact hv;rw[aM hdt,aM hdt];simpa[Array.getElem?_setIfInBounds_ne hdt]using hold
structure uA(G:Nat->Option dc)(I:Nat->Prop)(obj:Nat->Option aN)(w:World)(r:Nat):Prop where
 lt:r<w.heap.size
 Ly:¬I r
 obj:∀k o,obj k=some o->¬ir G k r
theorem Rel.world{w':M}(hr:Rel P w0 O0 N G I U a w)(hs:Same I w w')(hm:Mem P w0 O0 G I U.obj w'):Rel P w0 O0 N G I U a w':=
 ⟨hr.defers,hr.size,λt=>gc.mono (λ _ _ h=>h) hs (λ _ h=>h) (hr.env t),hm⟩
end
open Go.RowKit
def kept(os':Y (Option fe))(j:Nat):Prop:=∃p,os'[j]? =some (some p)
def C1(get:S)(fk:J Nat)(os':Y (Option fe)):AV->Tree->Prop
 |.t x,y=>y=x
 |.d5,y=>y=.sl []
 |.oz k len,y=>fk≠some k/\¬kept os' k/\∃o el,get k=some o/\(o.rows.drop 0).take len=aJ el/\el.length=len/\y=.sl el
 |.own k aa len,y=>fk≠some k/\¬kept os' k/\∃o el,get k=some o/\(o.rows.drop aa).take len=aJ el/\el.length=len/\y=.sl el
 |_,_=>False
def m5(get:S)(fk:J Nat)(os':Y (Option fe)):Y AV->Y Tree->Prop
 |[],[]=>True
 |x::xs,y::ys=>C1 get fk os' x y/\m5 get fk os' xs ys
 |_,_=>False
def ff(get:S)(fk:J Nat)(os':Y (Option fe)):Y (List AV)->Y (List Tree)->Prop
 |[],[]=>True
 |x::xs,y::ys=>m5 get fk os' x y/\ff get fk os' xs ys
 |_,_=>False
def Ix(get:S)(fk:J Nat)(os':Y (Option fe)):AV->RC->Prop
 |.agg cs,.d (.a ts)=>m5 get fk os' cs ts
 |x,.d (.s y)=>C1 get fk os' x y
 |.d5,.fresh _ rows=>rows=[]
 |.own k aa len,.fresh sz rows=>fk=some k/\¬kept os' k/\aa=0/\∃o,get k=some o/\o.sz=sz/\ff get fk os' (o.rows.take len) rows/\rows.length=len
 |.own k aa len,.whole j len'=>k=j/\aa=0/\len'=len/\kept os' j
 |_,_=>False
def pm(get:S)(fk:J Nat)(os':Y (Option fe)):Y AV->Y RC->Prop
 |[],[]=>True
 |x::xs,c::cs=>Ix get fk os' x c/\pm get fk os' xs cs
 |_,_=>False
def Iv(get:S)(fk:J Nat)(os':Y (Option fe)):Y AV->RV->Prop
 |[x],.one c=>Ix get fk os' x c
 |x::y::r,.eE cs=>pm get fk os' (x::y::r) cs
 |[],.eE cs=>cs=[]
 |_,_=>False
def S7(get:S)(fk:J Nat)(os':Y (Option fe)):Prop:=
 ∀(j:Nat) p,os'[j]? =some (some p)->fk≠some j/\∃o,get j=some o/\o.sz=p.1/\ff get fk os' (o.rows.take p.2.length) p.2
def VL(T:eM)(t:E)(x:AV)(obj:S):J Out:=
 LK T t x .none obj
def QJ(T:eM)(U:St):ResultVar->J AV
 |.tmp t=>match U.ok t with
  |none=>some (U.env t)
  |some _=>none
 |.cell a t=>match U.ok a with
  |none=>match VL T t (U.env a) U.obj with
   |some ⟨v,[],[]⟩=>some v
   |_=>none
  |some _=>none
def oH(T:eM)(U:St):Y ResultVar->J (List AV)
 |[]=>some []
 |r::rs=>(QJ T U r).bind λv=>(oH T U rs).bind λvs=>some (v::vs)
def WY(tmps:Array Value):ResultVar->Sem Value
 |.tmp t=>pure (tmps.getD t undef)
 |.cell a t=>do loadVar t (<- asAddr (tmps.getD a undef))
theorem WZ(fn:Func)(tmps:Array Value):results fn tmps=(fn.results.mapM (WY tmps))>>=λvs=>pure (if h:vs.size=1 then vs[0]else .tuple vs):=by congr 2
def Pc(T:eM)(rs:Y ResultVar)(rv:RV)(os':Y (Option fe)):Exit->St->Prop
 |.normal,U=>∃xs fk,oH T U rs=some xs/\Iv U.obj fk os' xs rv/\S7 U.obj fk os'
 |.ret,U=>∃xs fk,oH T U rs=some xs/\Iv U.obj fk os' xs rv/\S7 U.obj fk os'
 |_,_=>False
section
variable {P:Program} {T:eM} {w0:World} {O0:lp} {N:Nat} {G:Nat->Option dc} {I:Nat->Prop} {U:St} {a:Act} {w:World}
theorem ac8(hT:fF P T)(hr:Rel P w0 O0 N G I U a w){r:ResultVar}{x:AV}(h:QJ T U r=some x):
 ∃v,(WY a.tmps r).run P w=.ok v w/\VR P G w I x v:=by
 cases r with
 |tmp t=>
  simp only[QJ]at h;have h1:=hr.env t;cases hk:U.ok t with
  |some b=>rw[hk]at h;cases h
  |none=>
   rw[hk]at h h1;cases h;exact⟨_,by simp[WY],h1⟩
 |cell ad t=>
  simp only[QJ]at h;have hx:=hr.env ad;cases hk:U.ok ad with
  |some b=>rw[hk]at h;cases h
  |none=>
  rw[hk]at h hx;simp only at h;have hx:VR P G w I (U.env ad) (a.tmps.getD ad undef):=hx;split at h
  .rename_i v hl;injection h with h;subst h;obtain⟨u,h1,h2⟩:∃u,(Instr.loadAt t (a.tmps.getD ad undef)).run P w=.ok u w/\VR P G w I v u:=(by obtain⟨u,h1,h2,_⟩:=Td hT hr.mem (λ _ _ h=>h) hl trivial hx;exact⟨u,h1,h2⟩);refine⟨u,?_,h2⟩;have hp:∃p,a.tmps.getD ad undef=.pointer (some p):=by
    unfold VL at hl;unfold LK at hl;cases hti:T t with
    |none=>simp[hti]at hl
    |some ti=>
     simp only[hti,ai]at hl;split at hl
     .rename_i heq;rw[heq]at hx;simp only[VR]at hx;obtain⟨b,sz,n,_,h⟩:=hx;exact⟨_,h⟩
     .rename_i heq;rw[heq]at hx;simp only[VR]at hx;obtain⟨b,o,h,_⟩:=hx;exact⟨_,h⟩
     .cases hl
   obtain⟨p,hp⟩:=hp;rw[hp]at h1;simp only[WY,hp,asAddr,Sem.run_bind,Sem.run_pure,Result.andThen_ok];exact h1
  .cases h
theorem BZ(hT:fF P T)(hr:Rel P w0 O0 N G I U a w):∀(rs:Y ResultVar)(xs:Y AV),oH T U rs=some xs->
 ∃vs,(rs.mapM (WY a.tmps)).run P w=.ok vs w/\br P G w I xs vs
 |[],xs,h=>by simp[oH]at h;subst h;exact⟨[],by simp,by simp[br]⟩
 |r::rs,xs,h=>by
  simp[oH]at h;cases h1:QJ T U r with
  |none=>simp[h1]at h
  |some x=>
   cases h2:oH T U rs with
   |none=>simp[h2]at h
   |some ys=>
    simp[h1,h2]at h;subst h;have⟨v,g1,g2⟩:=ac8 hT hr h1;have⟨vs,g3,g4⟩:=BZ hT hr rs ys h2;exact⟨v::vs,by simp[g1,g3],by simp[br];exact⟨g2,g4⟩⟩
def NZ(U:St)(w0 w:M)(G:ζ)(I:Ψ)(O0:lp)(fk:J Nat)(os':Y (Option fe))(b:Nat):Prop:=
 (I b\/O0.Ly b\/w0.heap.size<=b\/O0.own b)/\b<w.heap.size/\¬∃k,(fk=some k\/kept os' k)/\(∃ o,U.obj k=some o)/\ir G k b
theorem ae0(hr:Rel P w0 O0 N G I U a w)(fk:J Nat)(os':Y (Option fe)):∀b,I b->NZ U w0 w G I O0 fk os' b:=λb hb=>
 ⟨.inl hb,hr.mem.lt b hb,λ⟨k,_,⟨o,ho⟩,hβ⟩=>(hr.mem.k8 k o b ho hβ).1 hb⟩
theorem N7(hr:Rel P w0 O0 N G I U a w){fk:J Nat}{os':Y (Option fe)}{k aa len:Nat}{y:Tree}{v:Ω}(h:fk≠some k/\¬kept os' k/\∃o el,U.obj k=some o/\(o.rows.drop aa).take len=aJ el/\el.length=len/\y=.sl el)(hv:VR P G w I (.own k aa len) v):TR w (NZ U w0 w G I O0 fk os') y v:=by obtain⟨hne,hnk,o,el,h1,h2,h3,rfl⟩:=h;simp only[TR];rcases hv with ⟨_,rfl,_,h4⟩|⟨b,sz,n,cap,ad,h4,rfl,h5,h6,h7⟩;exact .inl ⟨List.eq_nil_of_length_eq_zero (by omega),none,0,rfl,λ_=>rfl⟩;have⟨g1,g2,g3⟩:=hr.mem.own k o b sz n h1 h4;refine .inr ⟨b,ad,cap,sz,by rw[h3],by omega,⟨.inr (.inr (g3.elim .inr .inl)),g2,λ⟨k',e1,⟨o',e2⟩,e3⟩=>?_⟩,?_⟩;have:=hr.mem.py k k' o o' b h1 e2 (.at h4) e3;subst this;exact e1.elim hne hnk;by_cases hc:cap=0;have:el=[]:=List.eq_nil_of_length_eq_zero (by omega);subst this;simp[cR];rw[h7 hc];have⟨B,hB,tS⟩:=hr.mem.du k o h1;rw[h4]at hB;cases hB;obtain⟨hs,c,e,hc',_,tS⟩:=tS;have h8:=cj.take len _ _ _ _ (cj.drop aa _ _ _ _ tS);rw[h2]at h8;exact cR.mL (ae0 hr fk os') hc' el _ _ h8
theorem ER(hr:Rel P w0 O0 N G I U a w){fk:J Nat}{os':Y (Option fe)}{x:AV}{y:Tree}{v:Ω}(h:C1 U.obj fk os' x y)(hv:VR P G w I x v):TR w (NZ U w0 w G I O0 fk os') y v:=by
 cases x<;>simp only[C1]at h
 case t x=>subst h;simp[VR]at hv;exact TR.mono (λ _ _=>rfl) (ae0 hr fk os') _ _ hv
 case d5=>subst h;simp[VR]at hv;simp only[TR];exact .inl ⟨trivial,none,0,hv,λ_=>rfl⟩
 case own k aa len=>exact N7 hr h hv
 case oz k len=>
  rcases hv.xt with ⟨rfl,rfl⟩|⟨_,hv⟩;obtain⟨hne,hnk,o,el,h1,h2,h3,rfl⟩:=h;exact .inl ⟨List.eq_nil_of_length_eq_zero h3,none,0,rfl,λ_=>rfl⟩;exact N7 hr h hv
theorem N8(hr:Rel P w0 O0 N G I U a w){fk:J Nat}{os':Y (Option fe)}{β':ζ}:∀{r:Y AV}{t:Y Tree}{c:Array Value}{aa:Nat},m5 U.obj fk os' r t->d8 P G w I r c aa->d8 P β' w (NZ U w0 w G I O0 fk os') (t.map AV.t) c aa
 |[],[],_,_,_,_=>trivial
 |x::xs,y::ys,c,aa,h,⟨⟨v,h1,h2,h3⟩,h4⟩=>⟨⟨v,h1,by simp[VR];exact ER hr h.1 h2,h3⟩,N8 hr h.2 h4⟩
 |[],_::_,_,_,h,_|_::_,[],_,_,h,_=>h.elim
theorem m5.length{get:S}{fk:J Nat}{os':Y (Option fe)}:∀{r:Y AV}{t:Y Tree},m5 get fk os' r t->t.length=r.length
 |[],[],_=>rfl
 |_::_,_::_,h=>by simp[m5.length h.2]
 |[],_::_,h|_::_,[],h=>h.elim
theorem Ca(hr:Rel P w0 O0 N G I U a w){fk:J Nat}{os':Y (Option fe)}{β':ζ}:∀{rs:Y (List AV)}{ts:Y (List Tree)}{c:Array Value}{aa sz:Nat},ff U.obj fk os' rs ts->cj P G w I rs c aa sz->cj P β' w (NZ U w0 w G I O0 fk os') (aJ ts) c aa sz
 |[],[],_,_,_,_,_=>trivial
 |r::rs,t::ts,c,aa,sz,h,⟨h1,h2,h3⟩=>⟨by rw[length_map,h.1.length,h1],N8 hr h.1 h2,Ca hr h.2 h3⟩
 |[],_::_,_,_,_,h,_|_::_,[],_,_,_,h,_=>h.elim
theorem ff.length{get:S}{fk:J Nat}{os':Y (Option fe)}:∀{rs:Y (List AV)}{ts:Y (List Tree)},ff get fk os' rs ts->rs.length=ts.length
 |[],[],_=>rfl
 |_::_,_::_,h=>by simp[h.2.length]
 |[],_::_,h|_::_,[],h=>h.elim
theorem LX(hr:Rel P w0 O0 N G I U a w){fk:J Nat}{os':Y (Option fe)}{β':ζ}:∀{r:Y AV}{t:Y Tree}{vs:Y Value},m5 U.obj fk os' r t->br P G w I r vs->br P β' w (NZ U w0 w G I O0 fk os') (t.map AV.t) vs
 |[],[],[],_,_=>by simp[br]
 |x::xs,y::ys,v::vs,h,hv=>by exact⟨ER hr h.1 hv.1,LX hr h.2 hv.2⟩
 |[],_::_,_,h,_|_::_,[],_,h,_=>h.elim
 |[],[],_::_,_,hv|_::_,_::_,[],_,hv=>by simp[br]at hv
theorem IK(hr:Rel P w0 O0 N G I U a w){fk:J Nat}{os':Y (Option fe)}{β':ζ}:∀{rs:Y (List AV)}{ts:Y (List Tree)}{es:Y MapEntry},ff U.obj fk os' rs ts->c9 P G w I rs es->c9 P β' w (NZ U w0 w G I O0 fk os') (aJ ts) es
 |[],[],[],_,_=>trivial
 |_::_,_::_,_::_,h,hm=>⟨LX hr h.1 hm.1,IK hr h.2 hm.2⟩
 |[],_::_,_,h,_|_::_,[],_,h,_=>h.elim
 |[],[],_::_,_,hm|_::_,_::_,[],_,hm=>hm.elim
theorem ff.nil{get:S}{fk:J Nat}{os':Y (Option fe)}{t:Y (List Tree)}(h:ff get fk os' [] t):t=[]:=by
 cases t with
 |nil=>rfl
 |cons=>exact h.elim
theorem W9(hr:Rel P w0 O0 N G I U a w){F:Ψ}{βi:ζ}{fk:J Nat}{os':Y (Option fe)}(hF:∀k o b,fk=some k->U.obj k=some o->¬kept os' k->ir G k b->F b)(hi:∀j,kept os' j->G j=βi j){x:AV}{c:RC}{v:Ω}
 (h:Ix U.obj fk os' x c) (hv:VR P G w I x v):Dd P F βi c w (NZ U w0 w G I O0 fk os') v:=by
 unfold Ix at h;split at h;rename_i cs ts;simp[VR]at hv;obtain⟨vs,rfl,hv⟩:=hv;refine⟨vs,rfl,?_⟩;have:∀(cs:Y AV)(ts:Y Tree)(vs:Y Value),m5 U.obj fk os' cs ts->br P G w I cs vs->fy w (NZ U w0 w G I O0 fk os') ts vs:=by
  intro cs
  induction cs with
  |nil=>intro ts vs h hv;cases ts<;>cases vs<;>first|trivial|exact h.elim|(simp at hv)
  |cons x xs ih=>
   intro ts vs h hv;cases ts with
   |nil=>exact h.elim
   |cons t ts=>
    cases vs with
    |nil=>simp[br]at hv
    |cons u us=>simp[br]at hv;exact⟨ER hr h.1 hv.1,ih ts us h.2 hv.2⟩
 exact this cs ts vs.toList h hv;exact ER hr h hv;subst h;simp[VR]at hv;exact .inl ⟨rfl,hv⟩;rename_i k aa len sz rows;obtain⟨rfl,hnk,rfl,o,h1,rfl,h2,h3⟩:=h;simp only[VR]at hv;rcases hv with ⟨_,rfl,_,h4⟩|⟨b,sz,n,cap,ad,h4,rfl,h5,h6,h7⟩;exact .inl ⟨List.eq_nil_of_length_eq_zero (by omega),rfl⟩;have⟨B,hB,tS⟩:=hr.mem.du k o h1;rw[h4]at hB;cases hB;obtain⟨hs,c,e,hc',hn,tS⟩:=tS;refine .inr ⟨b,c,e,cap,ad,n.s,by rw[h3],hF k o b rfl h1 hnk (.at h4),λhI=>hI.2.2 ⟨k,.inl rfl,⟨o,h1⟩,.at h4⟩,hc',by omega,?_,?_,λhc=>by simpa using h7 hc⟩;rw[<- hs,hn];simpa using h6;rw[<- hs];exact Ca hr h2 (cj.take len _ _ _ _ tS);rename_i k aa len j len';obtain⟨rfl,rfl,rfl,hk⟩:=h;show VR P βi w (NZ U w0 w G I O0 fk os') (.own k 0 len') v;simp[VR]at hv |-;rw[<- hi k hk];exact hv;exact h.elim
theorem Cb{α:Type}(l:Y α)(t:Nat):lk ((List.range l.length).zip l) t=l[t]? :=by
 have sg:∀(l:Y α)(s t:Nat),(lk ((List.range' s l.length).zip l) t)=if s<=t/\t<s+l.length then l[t-s]? else none:=by
  intro l
  induction l with
  |nil=>intro s t;simp[lk]
  |cons x xs ih=>
   simp[List.range'_succ,lk]
   all_goals grind
 rw[List.range_eq_range',sg];by_cases ht:t<l.length;simp;rw[aM (by omega)];simp[List.getElem?_eq_none (Nat.le_of_not_lt ht)]
theorem Kl{x:AV}:∀{l:Y AV},x∈l->∀k∈refs x,k∈dJ l
 |[],h,_,_=>by simp at h
 |y::ys,h,k,hk=>by simp[dJ];rcases aI.1 h with rfl|h;exact .inl hk;exact .inr (Kl h k hk)
theorem QK(hT : fF P T){f : FuncId}{fn : Func}{c : Code}{args : Y AV}{os : Y fe}{os' : Y (Option fe)}{rv : RV}(hfn : P.funcs[f]? = some fn)(hb : fn.body = some c)(hname : (fn.name == "runtime.NumGoroutine") = false)(hN : args.length <= fn.ntmps)(hargs : ∀ k ∈ dJ args, k < 1000)(hos : os.length <= 1000)(hlen : os'.length = os.length)
 (h:Ev P fn.ntmps c (Pc T fn.results.toList rv os') (tj.st ⟨(List.range args.length).zip args,(List.range (os.map i6).length).zip (os.map i6)⟩)):ro P f args os os' rv:=by
 refine⟨⟨fn,hfn,by rw[hb];rfl,hname⟩,λw G I vs hβ hM hv=>?_⟩;have hvl:=br.length _ _ hv;simp at hvl;have kh:∀k,lk ((List.range (os.map i6).length).zip (os.map i6)) k=te os k:=λk=>by rw[Cb];simp[te]
 refine calls_of_wp hfn hb ?_;have hrel:Rel P w (qR G I) fn.ntmps G I (tj.st ⟨(List.range args.length).zip args,(List.range (os.map i6).length).zip (os.map i6)⟩) { tmps:=vs++Array.replicate (fn.ntmps-vs.size) undef,defers:=[] } w:=by
  refine⟨rfl,by simp;omega,λt=>?_,?_⟩;simp only[tj.st,Cb,gc];by_cases ht:t<args.length;obtain⟨v,g1,g2⟩:=br.get _ _ t _ hv (dI ht);rw[dI ht];simp only[Option.getD_some];have:(vs++Array.replicate (fn.ntmps-vs.size) undef).getD t undef=v:=by rw[Array.getElem?_toList]at g1;simp only[Array.getD_eq_getD_getElem?,Array.getElem?_append,show t<vs.size by omega,if_true,g1,Option.getD_some]
  rw[this];exact g2;rw[List.getElem?_eq_none (Nat.le_of_not_lt ht)];simp[VR];have:(tj.st ⟨(List.range args.length).zip args,(List.range (os.map i6).length).zip (os.map i6)⟩).obj=te os:=funext kh;rw[this];exact hM
 have hold:t6 (tj.st ⟨(List.range args.length).zip args,(List.range (os.map i6).length).zip (os.map i6)⟩):=by
  refine⟨λ t k hk=>?_,λk o hk=>?_⟩;simp[tj.st,Cb]at hk;cases ht:args[t]? with
  |none=>rw[ht]at hk;simp[refs]at hk
  |some x=>rw[ht]at hk;have:=hargs k (Kl (bT ht) k hk);omega
  have hk:te os k=some o:=(kh k).symm.trans hk;simp only[te,uy]at hk;obtain⟨p,hp,rfl⟩:=hk;refine⟨by have:=(bU.1 hp).1;omega,λr hr x hx j hj=>?_⟩;simp[i6,aJ,mem_map]at hr;obtain⟨q,_,rfl⟩:=hr;simp[mem_map]at hx;obtain⟨t,_,rfl⟩:=hx;simp[refs]at hj
 refine wp_mono (h w (qR G I) G I _ w hrel hold) ?_
 have fin:∀(a':Act) (w':World) (β':Nat->J dc) (I':Nat->Prop) (σ':St),Rel P w (qR G I) fn.ntmps β' I' σ' a' w'->(∃ xs fk,oH T σ' fn.results.toList=some xs/\Iv σ'.obj fk os' xs rv/\S7 σ'.obj fk os')->
  a'.defers=[]/\∃v,(results fn a'.tmps).run P w'=.ok v w'/\SZ P w G I os' rv (.returned v) w':=by
  intro a' w' β' I' σ' hr ⟨xs,fk,hx,he,heo⟩;obtain⟨us,g1,g2⟩:=BZ hT hr _ _ hx;have B3:=br.length _ _ g2;have hm:=hr.mem;have hrun:(fn.results.mapM (WY a'.tmps)).run P w'=.ok us.toArray w':=by rw[Array.mapM_eq_mapM_toList,Sem.run_map,g1];rfl
  have hko:∀j p,os'[j]? =some (some p)->∃B o,G j=some B/\β' j=some B/\σ'.obj j=some o/\OR P β' w' I' o B/\o.sz=p.1/\ff σ'.obj fk os' (o.rows.take p.2.length) p.2:=by intro j p hj;have⟨_,o,e1,e2,e3⟩:=heo j p hj;have hjl:j<os.length:=(by rw[<- hlen];exact(bU.1 hj).1);obtain⟨B,hB,_⟩:=hM.du j (i6 os[j]) (by simp[te,hjl]);have hB':=hm.anch j B (by simp only[qR];rw[aP (by omega)];exact hB);have⟨B',hB2,hO⟩:=hm.du j o e1;rw[hB']at hB2;cases hB2;exact⟨B,o,hB,hB',e1,hO,e2,e3⟩
  have hkept:∀j,kept os' j->β' j=G j:=λj ⟨p,hp⟩=>by have⟨B,o,h1,h2,_⟩:=hko j p hp;rw[h1,h2]
  have tE:∀j o,Dr os' j=some o->∃p,os'[j]? =some (some p)/\o=i6 p:=by intro j o hj;simp only[Dr,uy,Option.join_eq_some_iff]at hj;obtain⟨p,hp,rfl⟩:=hj;exact⟨p,hp,rfl⟩
  have sf:∀b,I b->¬WI G b/\b<w.heap.size:=by intro b hb;refine⟨?_,hM.lt b hb⟩;rintro⟨j,B,hj,hB⟩;rcases Nat.lt_or_ge j os.length with hjl|hjl;exact(hM.ownB j (i6 os[j]) B b (by simp[te,hjl]) hj hB).1 hb;rw[hβ j hjl]at hj;cases hj
  have hOI:∀b,I b->NZ σ' w w' β' I' (qR G I) fk os' b:=by intro b hb;have⟨g1,g2⟩:=sf b hb;refine⟨.inr (.inl hb),Nat.lt_of_lt_of_le g2 hm.le,?_⟩;rintro⟨k,_,⟨o,ho⟩,hβk⟩;rcases (hm.k8 k o b ho hβk).2.2 with g|g;exact g1 g;omega
  have hmem:Mem P w (qR G I) G (NZ σ' w w' β' I' (qR G I) fk os') (Dr os') w':=by
   constructor;intro j o hj;obtain⟨p,hp,rfl⟩:=tE j o hj;have⟨B,o1,b1,b2,b3,b4,b5,b6⟩:=hko j p hp;refine⟨B,b1,?_⟩;cases B with
   |none=>
    simp[OR]at b4 |-;rw[b4]at b6;have:=ff.nil (by simpa using b6);simp[i6,aJ,this]
   | «at» b s n=>
    obtain⟨c1,c,e,c2,c3,c4⟩:=b4;refine⟨by rw[c1,b5];rfl,c,e,c2,c3,?_⟩;exact Ca hr b6 (cj.take _ _ _ _ _ c4)
   |mp b=>
    obtain⟨es,cl,c1,cl',c2,c3⟩:=b4;have hl:=b6.length;simp[List.length_take]at hl;refine⟨es,cl,c1,by simp[i6,aJ,length_map];omega,λe=>?_,c3⟩;have e':p.1=p.2.length:=(by simpa[i6,aJ]using e);rw[take_of_length_le (by omega)]at b6;exact IK hr b6 (c2 (by omega))
   intro j j' o o' B B' b h1 h2 h3 h4 h5 h6;obtain⟨p,hp,rfl⟩:=tE j o h1;obtain⟨p',hp',rfl⟩:=tE j' o' h2;have⟨_,o1,_,_,b3,_⟩:=hko j p hp;have⟨_,o1',_,_,b3',_⟩:=hko j' p' hp';rw[<- hkept j ⟨p,hp⟩]at h3;rw[<- hkept j' ⟨p',hp'⟩]at h4;exact hm.iv j j' o1 o1' B B' b b3 b3' h3 h4 h5 h6;intro j o B b h1 h2 h5;obtain⟨p,hp,rfl⟩:=tE j o h1;have⟨_,o1,_,_,b3,_⟩:=hko j p hp;rw[<- hkept j ⟨p,hp⟩]at h2;have⟨_,c2,c3⟩:=hm.ownB j o1 B b b3 h2 h5;exact⟨λ hb=>hb.2.2 ⟨j,.inr ⟨p,hp⟩,⟨o1,b3⟩,B,h2,h5⟩,c2,c3⟩;exact λb hb=>hb.2.1;intro b hb;rcases hb.1 with g|g|g|g;exact hm.up b g;exact .inl g;exact .inr (.inr g);exact .inr (.inl g);exact hm.keep;exact hm.le;exact hm.os;exact hm.tape;exact hm.output;intro j B hj;simp only[qR]at hj;split at hj;exact hj;cases hj;exact hM.vars.mono (λ b hb=>hm.keep b (sf b hb).2 (sf b hb).1) hOI
  have hF:∀k o b,fk=some k->σ'.obj k=some o->¬kept os' k->ir β' k b->C4 w G os' b:=by intro k o b _ h2 h3 h4;refine⟨(hm.k8 k o b h2 h4).2.2,λj o' h5 h6=>?_⟩;obtain⟨p,hp,rfl⟩:=tE j o' h5;have⟨_,o1,_,_,b3,_⟩:=hko j p hp;have h6':ir β' j b:=(by obtain⟨B,e1,e2⟩:=h6;exact⟨B,by rw[hkept j ⟨p,hp⟩];exact e1,e2⟩);have:=hm.py k j o o1 b h2 b3 h4 h6';subst this;exact h3 ⟨p,hp⟩
  have ret:∀v,th P (C4 w G os') G rv w' (NZ σ' w w' β' I' (qR G I) fk os') v->SZ P w G I os' rv (.returned v) w':=λv hv'=>⟨v,_,rfl,hmem,hOI,hv'⟩;refine⟨hr.defers,?_⟩;have hlist:∀(xs:Y AV)(cs:Y RC)(us:Y Value),pm σ'.obj fk os' xs cs->br P β' w' I' xs us->Wo P (C4 w G os') G cs w' (NZ σ' w w' β' I' (qR G I) fk os') us:=by
   intro xs
   induction xs with
   |nil=>intro cs us h1 h2;cases cs<;>cases us<;>first|trivial|exact h1.elim|(simp [br]at h2)
   |cons x xs ih=>
    intro cs us h1 h2;cases cs with
    |nil=>exact h1.elim
    |cons c cs=>
     cases us with
     |nil=>simp[br]at h2
     |cons u us=>simp[br]at h2;exact⟨W9 hr hF hkept h1.1 h2.1,ih cs us h1.2 h2.2⟩
  simp only[WZ,Sem.run_bind,hrun,Result.andThen_ok,Sem.run_pure];refine⟨_,rfl,ret _ ?_⟩
  match xs,us,rv,he,g2 with
  |[x],[u],.one c,he,g2=>
   simp only[br]at g2;simpa[th]using W9 hr hF hkept he g2.1
  |x::y::r,u::u'::us,.eE cs,he,g2=>
   have:=hlist _ _ _ he g2;rw[dif_neg (by simp)];exact⟨_,rfl,by simpa using this⟩
  |[],[],.eE cs,he,g2=>
   simp[Iv]at he;subst he;rw[dif_neg (by simp)];exact⟨_,rfl,trivial⟩
  |[x],[u],.eE cs,he,_=>exact he.elim
  |[],_,.one c,he,_=>exact he.elim
  |x::y::r,_,.one c,he,_=>exact he.elim
  |[],_::_,.eE _,_,g2=>simp[br]at g2
  |[_],[],_,_,g2=>simp[br]at g2
  |[_],_::_::_,_,_,g2=>simp[br]at g2
  |_::_::_,[],_,_,g2=>simp[br]at g2
  |_::_::_,[_],_,_,g2=>simp[br]at g2
 rintro e a' w' ⟨β',I',σ',h1,h2,h3⟩;cases e with
 |normal=>exact fin a' w' β' I' σ' h1 h3
 |ret=>exact fin a' w' β' I' σ' h1 h3
 |_=>exact h3.elim
def S6(P:Q)(get:S)(xs:Y AV)(os':Y (Nat×aN))(rv:AV):Prop:=
 ∀(w0:World) (O0:lp) (G:Nat->J dc) (I:Nat->Prop) (w:World) (vs:Array Value),Mem P w0 O0 G I get w->br P G w I xs vs.toList->∃ β' I',Mem P w0 O0 β' I' (pN os') w/\(∀ b,I b->I' b)/\VR P β' w I' rv (if h:vs.size=1 then vs[0]else .tuple vs)
def aru(P:Q)(T:eM)(rs:Y ResultVar)(rv:AV)(os':Y (Nat×aN)):Exit->St->Prop
 |.normal,U=>∃xs,oH T U rs=some xs/\S6 P U.obj xs os' rv
 |.ret,U=>∃xs,oH T U rs=some xs/\S6 P U.obj xs os' rv
 |_,_=>False
theorem abC(hT : fF P T){f : FuncId}{fn : Func}{c : Code}{args : Y AV}{os : Y aN}{os' : Y (Nat × aN)}{rv : AV}(hfn : P.funcs[f]? = some fn)(hb : fn.body = some c)(hname : (fn.name == "runtime.NumGoroutine") = false)(hN : args.length <= fn.ntmps)(hargs : ∀ k ∈ dJ args, k < 1000)(hos : os.length <= 1000)
 (asG:∀o∈os,∀r∈o.rows,∀x∈r,∀j∈refs x,j<1000)
 (h:Ev P fn.ntmps c (aru P T fn.results.toList rv os') (tj.st ⟨(List.range args.length).zip args,(List.range os.length).zip os⟩)):zz P f args os os' rv:=by
 refine⟨⟨fn,hfn,by rw[hb];rfl,hname⟩,λw G I vs hβ hM hv=>?_⟩;have hvl:=br.length _ _ hv;simp at hvl;have kh:∀k,lk ((List.range os.length).zip os) k=wi os k:=λk=>by rw[Cb];rfl
 refine calls_of_wp hfn hb ?_;have hrel:Rel P w (qR G I) fn.ntmps G I (tj.st ⟨(List.range args.length).zip args,(List.range os.length).zip os⟩) { tmps:=vs++Array.replicate (fn.ntmps-vs.size) undef,defers:=[] } w:=by
  refine⟨rfl,by simp;omega,λt=>?_,?_⟩;simp only[tj.st,Cb,gc];by_cases ht:t<args.length;obtain⟨v,g1,g2⟩:=br.get _ _ t _ hv (dI ht);rw[dI ht];simp only[Option.getD_some];have:(vs++Array.replicate (fn.ntmps-vs.size) undef).getD t undef=v:=by rw[Array.getElem?_toList]at g1;simp only[Array.getD_eq_getD_getElem?,Array.getElem?_append,show t<vs.size by omega,if_true,g1,Option.getD_some]
  rw[this];exact g2;rw[List.getElem?_eq_none (Nat.le_of_not_lt ht)];simp[VR];have:(tj.st ⟨(List.range args.length).zip args,(List.range os.length).zip os⟩).obj=wi os:=funext kh;rw[this];exact hM
 have hold:t6 (tj.st ⟨(List.range args.length).zip args,(List.range os.length).zip os⟩):=by
  refine⟨λ t k hk=>?_,λk o hk=>?_⟩;simp[tj.st,Cb]at hk;cases ht:args[t]? with
  |none=>rw[ht]at hk;simp[refs]at hk
  |some x=>rw[ht]at hk;have:=hargs k (Kl (bT ht) k hk);omega
  have hk:wi os k=some o:=(kh k).symm.trans hk;simp[wi]at hk;refine⟨by have:=(bU.1 hk).1;omega,λr hr x hx j hj=>?_⟩;have:=asG o (bT hk) r hr x hx j hj;omega
 refine wp_mono (h w (qR G I) G I _ w hrel hold) ?_
 have fin:∀(a':Act) (w':World) (β':Nat->J dc) (I':Nat->Prop) (σ':St),Rel P w (qR G I) fn.ntmps β' I' σ' a' w'->(∃ xs,oH T σ' fn.results.toList=some xs/\S6 P σ'.obj xs os' rv)->
  a'.defers=[]/\∃v,(results fn a'.tmps).run P w'=.ok v w'/\ars P w G I os' rv (.returned v) w':=by
  intro a' w' β' I' σ' hr ⟨xs,hx,he⟩;obtain⟨us,g1,g2⟩:=BZ hT hr _ _ hx;have hrun:(fn.results.mapM (WY a'.tmps)).run P w'=.ok us.toArray w':=by rw[Array.mapM_eq_mapM_toList,Sem.run_map,g1];rfl
  have sf:∀b,I b->¬WI G b/\b<w.heap.size:=by intro b hb;refine⟨?_,hM.lt b hb⟩;rintro⟨j,B,hj,hB⟩;rcases Nat.lt_or_ge j os.length with hjl|hjl;exact(hM.ownB j os[j] B b (by simp[wi]) hj hB).1 hb;rw[hβ j hjl]at hj;cases hj
  obtain⟨β2,I2,hm,hI2,hv2⟩:=he w (qR G I) β' I' w' us.toArray hr.mem (by simpa using g2);have hmem:Mem P w (qR G I) β2 (λ b=>I2 b\/I b) (pN os') w':=by constructor;intro k o hk;have⟨B,hB,hO⟩:=hm.du k o hk;exact⟨B,hB,OR.mono (λ _ _ h=>h) (λ _ _=>rfl) (λ b hb=>.inl hb) (λ _ _=>rfl) hO⟩;exact hm.iv;intro k o B b h1 h2 h3;have⟨a1,a2,a3⟩:=hm.ownB k o B b h1 h2 h3;refine⟨?_,a2,a3⟩;rintro (hb|hb);exact a1 hb;have⟨c1,c2⟩:=sf b hb;rcases a3 with a3|a3;exact c1 a3;omega;rintro b (hb|hb);exact hm.lt b hb;exact Nat.lt_of_lt_of_le (sf b hb).2 hm.le;rintro b (hb|hb);exact hm.up b hb;exact .inl hb;exact hm.keep;exact hm.le;exact hm.os;exact hm.tape;exact hm.output;exact hm.anch;exact hm.vars.mono (λ _ _=>rfl) (λ b hb=>.inl hb)
  refine⟨hr.defers,?_⟩;simp only[WZ,Sem.run_bind,hrun,Result.andThen_ok,Sem.run_pure];exact⟨_,rfl,_,β2,_,rfl,hmem,λb hb=>.inr hb,VR.mono (λ _ _ h=>h) (λ _ _=>rfl) (λ b hb=>.inl hb) _ _ hv2⟩
 rintro e a' w' ⟨β',I',σ',h1,h2,h3⟩;cases e with
 |normal|ret=>exact fin a' w' β' I' σ' h1 h3
 |_=>exact h3.elim
theorem th.Lo{F F':Ψ}{βi:ζ}{w':M}{I':Ψ}(hF:∀b,F b->F' b){rv:RV}{v:Ω}(h:th P F βi rv w' I' v):th P F' βi rv w' I' v:=by
 have hc:∀(c:RC)(v:Value),Dd P F βi c w' I' v->Dd P F' βi c w' I' v:=by
  intro c v h;cases c with
  |d x=>exact h
  |fresh sz rows=>
   rcases h with h|⟨b,c,e,cap,o,s,h1,h2,h3⟩;exact .inl h;exact .inr ⟨b,c,e,cap,o,s,h1,hF b h2,h3⟩
  |whole j len=>exact h
 cases rv with
 |one c=>exact hc c v h
 |eE cs=>
  obtain⟨vs,rfl,h⟩:=h;refine⟨vs,rfl,?_⟩;have:∀(cs:Y RC)(vs:Y Value),Wo P F βi cs w' I' vs->Wo P F' βi cs w' I' vs:=by
   intro cs
   induction cs with
   |nil=>intro vs h;cases vs with
    |nil=>trivial
    |cons=>exact h.elim
   |cons c cs ih=>intro vs h;cases vs with
    |nil=>exact h.elim
    |cons v vs=>exact⟨hc c v h.1,ih vs h.2⟩
  exact this cs vs.toList h
theorem pu{f:FuncId}{args:Y AV}{rv:RV}(h:ro P f args [] [] rv):sq P f args rv:=by
 refine⟨h.1,λw I vs hlt hgv hv=>?_⟩;have hM:Mem P w (qR pb I) pb I (te []) w:=by refine⟨λ k o hk=>by simp[te]at hk,λk k' o o' B B' b hk=>by simp[te]at hk,λk o B b hk=>by simp[te]at hk,hlt,λb hb=>.inl hb,λ_ _ _=>rfl,aB _,rfl,rfl,rfl,λj B hj=>?_,hgv⟩;simp only[qR,pb,ite_self]at hj;cases hj
 refine(h.2 w pb I vs (λ _ _=>rfl) hM hv).mono ?_;rintro e w' ⟨v,I',rfl,g1,g2,g3⟩;have hno:∀b,¬(qR pb I).own b:=λb ⟨j,B,hj,_⟩=>by cases hj
 refine⟨v,I',rfl,⟨g1.os,g1.tape,g1.output,g1.le,λb hb=>g1.keep b hb (hno b)⟩,g2,g1.lt,λb hb=>?_,th.Lo (λ b hb=>?_) g3⟩;rcases g1.up b hb with h|h|h;exact .inl h;exact(hno b h).elim;exact .inr h;rcases hb.1 with h|h;exact(hno b h).elim;exact h
end
open Go.RowKit Go.WideShapes Go.ChangeShapes
inductive CS where
 |int (k:IntKind)
 |bool
 |str
 |sl (row:List CS)
 |any
  |mu (row:List CS)
 |back
def aso:CS->Tree->Prop
 |.int k,x=>∃n,x=.sc (.int k n)/\(Lit.int k n).wf=true
 |.bool,x=>∃b,x=.sc (.bool b)
 |.str,x=>∃s,x=.sc (.string s)/\s.size<=maxLen
 |_,_=>False
def arv:CS->Nat
 |.int .i64=>8
 |.int _=>1
 |.bool=>1
 |.str=>16
 |_=>24
def T4:CS->Nat
 |.int .i64=>8
 |.int _=>1
 |.bool=>1
 |_=>8
def aqw:Nat->Y CS->Nat
 |o,[]=>o
 |o,c::cs=>aqw ((o+(T4 c-1))/T4 c*T4 c+arv c) cs
def S5(r:Y CS):Nat:=bif r.any (λ c=>T4 c==8)then(aqw 0 r+7)/8*8 else aqw 0 r
mutual
inductive Jn(row:List CS):Tree->Prop
 |mk (rows:List (List Tree)) (hl:rows.length<=maxLen) (h:ra row rows):Jn row (.sl rows)
inductive ra(row:List CS):List (List Tree)->Prop
 |nil:ra row []
 |cons {r:List Tree} {rs:List (List Tree)} (h:ld row row r) (t:ra row rs):ra row (r::rs)
inductive ld(row:List CS):List CS->List Tree->Prop
 |nil:ld row [] []
 |back {cs:List CS} {x:Tree} {xs:List Tree} (h:Jn row x) (t:ld row cs xs):ld row (.back::cs) (x::xs)
 |one {c:CS} {cs:List CS} {x:Tree} {xs:List Tree} (h:aso c x) (t:ld row cs xs):ld row (c::cs) (x::xs)
end
mutual
def Fit:CS->Tree->Prop
 |.int k,x=>∃n,x=.sc (.int k n)/\(Lit.int k n).wf=true
 |.bool,x=>∃b,x=.sc (.bool b)
 |.str,x=>∃s,x=.sc (.string s)/\s.size<=maxLen
 |.sl row,x=>∃rows,x=.sl rows/\(rows.length<=maxLen/\rows.length*S5 row<=reachBytes)/\∀r∈rows,ep row r
 |.any,_=>True
 |.mu row,x=>Jn row x
 |.back,_=>False
def ep:List CS->List Tree->Prop
 |[],[]=>True
 |c::cs,x::xs=>Fit c x/\ep cs xs
 |_,_=>False
end
mutual
def oe:Tree->Nat
 |.sc (.string s)=>s.size+1
 |.sc _=>1
 |.sl rows=>yw rows+1
def yw:List (List Tree)->Nat
 |[]=>0
 |r::rs=>iD r+yw rs
def iD:List Tree->Nat
 |[]=>0
 |x::xs=>oe x+iD xs
end
theorem Bc:∀a b:Y Tree,iD (a++b)=iD a+iD b
 |[],b=>by simp[iD]
 |x::a,b=>by simp[iD,Bc a b];omega
structure Bk(H:Type) where
 b:DataW H->Nat
 a:List (DataW H)->Nat
 str:∀l,b (.lit (.string l))=l.length+1
 int:∀k n,b (.lit (.int k n))=1
 bool:∀v,b (.lit (.bool v))=1
 nil:b .nil=1
 sl:∀e s,b (.slice e s)=a e+a s+1
 agg:∀p,b (.agg p)=a p+1
 a0:a []=0
 a1:∀d r,a (d::r)=b d+a r
theorem Bk.app{H:Type}(K:Bk H)(l r:Y (DataW H)):K.a (l++r)=K.a l+K.a r:=by
 induction l with
 |nil=>simp[K.a0]
 |cons x l ih=>simp[K.a1];omega
theorem Bk.drop{H:Type}(K:Bk H){l:Y (DataW H×List MemPlace)}{j:Nat}{y:DataW H×List MemPlace}(h:l[j]? =some y):K.a ((l.map (·.1)).drop j)=K.b y.1+K.a ((l.map (·.1)).drop (j+1)):=by obtain⟨hj,rfl⟩:=bU.1 h;rw[List.drop_eq_getElem_cons (by simpa using hj),K.a1];simp
def Bi(P:Q)(go:TypeId->J (List CS)):Nat->Y Field->J (List CS)
 |_,[]=>some []
 |o,f::fs=>(go f.type).bind λa=>if f.offset=o/\a.length=P.cellsOf f.type then(Bi P go (o+a.length) fs).map (a++ ·)else none
def ahR(P:Q)(t u:E):J (List CS):=if u=t then some [.back]else match P.underlying u with
 |some (.int k)=>some [.int k]
 |some .bool=>some [.bool]
 |some .string=>some [.str]
 |_=>none
def T3(P:Q)(t e:E):J (List CS):=match P.underlying e with
 |some (.struct fs)=>(Bi P (ahR P t) 0 fs.toList).bind λr=>if r.length=P.cellsOf e/\0<r.length then some r else none
 |_=>none
def BE(P:Q)(cut:Y TypeId):Nat->TypeId->J (List CS)
 | 0,_=>none
 |n+1,t=>match P.underlying t with
  |some (.int k)=>some [.int k]
  |some .bool=>some [.bool]
  |some .string=>some [.str]
  |some (.slice e)=>if cut.contains t then(match T3 P t e with|some row=>some [.mu row]|none=>some [.any])else(BE P cut n e).bind λr=>if r.length=P.cellsOf e/\0<r.length/\S5 r<=P.bytesOf e then some [.sl r]else none
  |some (.struct fs)=>(Bi P (BE P cut n) 0 fs.toList).bind λr=>if r.length=P.cellsOf t then some r else none
  |some (.array m e)=>(BE P cut n e).bind λr=>if r.length=P.cellsOf e/\m*r.length=P.cellsOf t then some (List.replicate m r).flatten else none
  |_=>none
theorem ep.length:∀(cs:Y CS)(ts:Y Tree),ep cs ts->ts.length=cs.length
 |[],[],_=>rfl
 |c::cs,x::xs,h=>by simp[ep]at h;simp[ep.length cs xs h.2]
 |[],_::_,h|_::_,[],h=>by simp[ep]at h
theorem ep.append:∀(cs:Y CS)(ts:Y Tree){cs':Y CS}{ts':Y Tree},ep cs ts->ep cs' ts'->ep (cs++cs') (ts++ts')
 |[],[],_,_,_,h=>h
 |c::cs,x::xs,_,_,h,h'=>by simp at h |-;exact⟨h.1,ep.append cs xs h.2 h'⟩
 |[],_::_,_,_,h,_|_::_,[],_,_,h,_=>by simp[ep]at h
def Here(w:M)(b:Nat):Prop:=b<w.heap.size
section
variable {w:World} {I:Nat->Prop}
theorem fy.append:∀(ts:Y Tree)(cs:Y Value){ts':Y Tree}{cs':Y Value},fy w I ts cs->fy w I ts' cs'->fy w I (ts++ts') (cs++cs')
 |[],[],_,_,_,h=>h
 |_::xs,_::vs,_,_,h,h'=>⟨h.1,fy.append xs vs h.2 h'⟩
 |[],_::_,_,_,h,_|_::_,[],_,_,h,_=>h.elim
theorem fy.length:∀(ts:Y Tree)(cs:Y Value),fy w I ts cs->ts.length=cs.length
 |[],[],_=>rfl
 |_::xs,_::vs,h=>by simp[fy.length xs vs h.2]
 |[],_::_,h|_::_,[],h=>h.elim
theorem ada:∀(ts:Y Tree)(cs:Y Value)(b aa:Nat),fy w I ts cs->(∀ i,i<cs.length->w.cell? ⟨b,aa+i,none⟩=cs[i]?)->eL w I ts b aa
 |[],[],_,_,_,_=>by simp[eL]
 |x::xs,v::vs,b,aa,h,hc=>by refine⟨⟨v,by simpa using hc 0 (by simp),h.1⟩,ada xs vs b (aa+1) h.2 λi hi=>?_⟩;have:=hc (i+1) (by simpa using hi);rw[show aa+(i+1)=aa+1+i by omega]at this;simpa using this
 |[],_::_,_,_,h,_|_::_,[],_,_,h,_=>h.elim
end
section
variable {H:Type} {enc:TypeId×Value->H} {P:Program} {w:World} {sp:Nat->Bool} {held:Bool}
theorem QL{a:Addr}{v:Ω}(h:w.cell? a=some v):a.spot=none/\a.block<w.heap.size:=by simp[World.cell?]at h;split at h;rename_i c e st hc;split at h;cases h;rename_i hs;exact⟨by simpa using hs,(Array.getElem?_eq_some_iff.1 hc).1⟩;cases h
def Wr(P:Q)(t:E)(x:DataW H×List MemPlace):Prop:=∀k∈x.1.weights P t,k<=reachBytes
theorem zB{e:E}:∀{l:Y (DataW H)}{d:DataW H},d∈l->∀k∈d.weights P e,k∈DataW.weightsAll P e l
 |a::l,d,h,k,hk=>by simp[DataW.weightsAll];rcases aI.1 h with rfl|h;exact .inl hk;exact .inr (zB h k hk)
theorem Tp(m:Nat)(cs:Y Value)(go:TypeId->J (List CS))(hgo:∀t sh,go t=some sh->∀cs x,DataW.trod enc P w 0 sp held m t cs=some x->Wr P t x->∃ts,fy w (Here w) ts cs/\ep sh ts/\∀K:Bk H,iD ts<=K.b x.1):
 ∀(fs:Y Field)(l:Y (DataW H×List MemPlace))(o:Nat)(sh:Y CS),Bi P go o fs=some sh->l.length=fs.length->(∀ (i:Nat) (f:Field) (x:DataW H×List MemPlace),fs[i]? =some f->l[i]? =some x->DataW.trod enc P w 0 sp held m f.type ((cs.drop f.offset).take (P.cellsOf f.type))=some x/\Wr P f.type x)->
  ∃ts,fy w (Here w) ts ((cs.drop o).take sh.length)/\ep sh ts/\∀K:Bk H,iD ts<=K.a (l.map (·.1))
 |[],l,o,sh,h,_,_=>by simp[Bi]at h;subst h;exact⟨[],by simp[fy],by simp[ep],λK=>by simp[iD]⟩
 |f::fs,[],o,sh,h,hl,hf=>by simp at hl
 |f::fs,x::l,o,sh,h,hl,hf=>by simp only[Bi,ah]at h;obtain⟨a,h1,h2⟩:=h;split at h2;rename_i hc;obtain⟨hc1,hc2⟩:=hc;simp at h2;obtain⟨r,h3,rfl⟩:=h2;have⟨hx,hz⟩:=hf 0 f x rfl rfl;obtain⟨ts,g1,g2,k1⟩:=hgo _ _ h1 _ _ hx hz;obtain⟨ts',g3,g4,k2⟩:=Tp m cs go hgo fs l _ _ h3 (by simpa using hl) λi f' x' hf' hx'=>hf (i+1) f' x' hf' hx';refine⟨ts++ts',?_,ep.append _ _ g2 g4,λK=>by have:=k1 K;have:=k2 K;rw[Bc,bq,K.a1];omega⟩;rw[eU,List.take_add,List.drop_drop];rw[hc1,<- hc2]at g1;exact fy.append _ _ g1 g3;cases h2
theorem ld.append{row:Y CS}:∀{a b:Y CS}{x y:Y Tree},ld row a x->ld row b y->ld row (a++b) (x++y)
 |_,_,_,_,.nil,h=>h
 |_,_,_,_,.back h t,h'=>.back h (t.append h')
 |_,_,_,_,.one h t,h'=>.one h (t.append h')
theorem N9{row:Y CS}(m:Nat)(cs:Y Value)(go:TypeId->J (List CS))(hgo:∀t sh,go t=some sh->∀cs x,DataW.trod enc P w 0 sp held m t cs=some x->∃ts,fy w (Here w) ts cs/\ld row sh ts/\∀K:Bk H,iD ts<=K.b x.1):
 ∀(fs:Y Field)(l:Y (DataW H×List MemPlace))(o:Nat)(sh:Y CS),Bi P go o fs=some sh->l.length=fs.length->(∀ (i:Nat) (f:Field) (x:DataW H×List MemPlace),fs[i]? =some f->l[i]? =some x->DataW.trod enc P w 0 sp held m f.type ((cs.drop f.offset).take (P.cellsOf f.type))=some x)->
  ∃ts,fy w (Here w) ts ((cs.drop o).take sh.length)/\ld row sh ts/\∀K:Bk H,iD ts<=K.a (l.map (·.1))
 |[],l,o,sh,h,_,_=>by simp[Bi]at h;subst h;exact⟨[],by simp[fy],.nil,λK=>by simp[iD]⟩
 |f::fs,[],o,sh,h,hl,hf=>by simp at hl
 |f::fs,x::l,o,sh,h,hl,hf=>by simp only[Bi,ah]at h;obtain⟨a,h1,h2⟩:=h;split at h2;rename_i hc;obtain⟨hc1,hc2⟩:=hc;simp at h2;obtain⟨r,h3,rfl⟩:=h2;have hx:=hf 0 f x rfl rfl;obtain⟨ts,g1,g2,k1⟩:=hgo _ _ h1 _ _ hx;obtain⟨ts',g3,g4,k2⟩:=N9 m cs go hgo fs l _ _ h3 (by simpa using hl) λi f' x' hf' hx'=>hf (i+1) f' x' hf' hx';refine⟨ts++ts',?_,g2.append g4,λK=>by have:=k1 K;have:=k2 K;rw[Bc,bq,K.a1];omega⟩;rw[eU,List.take_add,List.drop_drop];rw[hc1,<- hc2]at g1;exact fy.append _ _ g1 g3;cases h2
theorem ao4{t e:E}{row:Y CS}(hk:P.underlying t=some (.slice e))(hm:T3 P t e=some row):∀(fuel:Nat)(cs:Y Value)(x:DataW H×List MemPlace),DataW.trod enc P w 0 sp held fuel t cs=some x->∃tr,fy w (Here w) [tr] cs/\Jn row tr/\∀K:Bk H,oe tr<=K.b x.1:=by
 intro fuel
 induction fuel using Nat.strongRecOn with
 |_ fuel ih=>
 intro cs x hx;have one:∀m,m<fuel->∀vx y,DataW.trod enc P w 0 sp held m e vx=some y->∃ts,fy w (Here w) ts vx/\ld row row ts/\ts.length=row.length/\∀K:Bk H,iD ts<=K.b y.1:=by
  intro m hmf vx y hy;unfold T3 at hm;split at hm;rename_i fs hke;simp only[ah]at hm;obtain⟨r,h1,h2⟩:=hm;split at h2;rename_i hr;injection h2 with h2;subst h2;obtain⟨xs,m',hm',rfl,hl,hxs,hf⟩:=DataW.trod_struct hke hy;obtain⟨ts,g1,g2,k1⟩:=N9 (row:=r) m' vx (ahR P t) (λ u sh hsh cs x hx=>by unfold ahR at hsh;split at hsh;rename_i hu;cases hsh;rw[hu]at hx;obtain⟨tr,a1,a2,a3⟩:=ih m' (by omega) cs x hx;exact⟨[tr],a1,.back a2 .nil,λK=>by have:=a3 K;simp[iD];omega⟩;split at hsh;rename_i k E2;cases hsh;obtain⟨v,rfl,rfl,hw⟩:=DataW.trod_int E2 hx;exact⟨[.sc (.int k v)],by simp[fy,TR,oneCell],.one ⟨v,rfl,hw⟩ .nil,λK=>by simp[iD,oe,K.int]⟩;rename_i E2;cases hsh;obtain⟨v,rfl,rfl⟩:=DataW.trod_bool E2 hx;exact⟨[.sc (.bool v)],by simp[fy,TR,oneCell],.one ⟨v,rfl⟩ .nil,λK=>by simp[iD,oe,K.bool]⟩;rename_i E2;cases hsh;obtain⟨v,rfl,rfl,hw⟩:=DataW.trod_string E2 hx;exact⟨[.sc (.string v)],by simp[fy,TR,oneCell],.one ⟨v,rfl,hw⟩ .nil,λK=>by simp[iD,oe,K.str]⟩;cases hsh) fs.toList xs 0 r h1 (by simpa using hxs) (λ i f x hi hxi=>by have hi':fs[i]? =some f:=(by simpa using hi);rw[hf i f hi',hxi]);rw[List.drop_zero,take_of_length_le (by omega)]at g1;refine⟨ts,g1,g2,?_,λK=>by have:=k1 K;rw[K.agg];omega⟩;rw[fy.length _ _ g1];omega;cases h2;cases hm
 have rl:row.length=P.cellsOf e/\0<row.length:=by unfold T3 at hm;split at hm;simp only[ah]at hm;obtain⟨r,h1,h2⟩:=hm;split at h2;rename_i hr;cases h2;exact hr;cases h2;cases hm
 rcases DataW.trod_slice hk hx with ⟨rfl,rfl⟩|⟨a,len,cap,elems,ae,m,hfm,rfl,rfl,_,hl,hmx,hlen,hel,_,_⟩;refine⟨.sl [],?_,.mk [] (by simp[maxLen]) .nil,λK=>by simp[oe,yw,K.nil]⟩;simp only[fy,TR];exact⟨.inl ⟨trivial,none,0,rfl,λ_=>rfl⟩,trivial⟩;have each:∀i,i<len->∃vx y,w.cells? 0 (a.add (i*P.cellsOf e)) (P.cellsOf e)=some vx/\DataW.trod enc P w 0 sp held m e vx=some y/\elems[i]? =some y:=by intro i hi;have h3:=hel i hi;have h6:elems[i]? =some (elems[i]'(by omega)):=dI (by omega);rw[h6,ah]at h3;obtain⟨vx,h4,h5⟩:=h3;exact⟨vx,_,h4,h5,h6⟩
 by_cases h0:len=0;subst h0;refine⟨.sl [],?_,.mk [] (by simp[maxLen]) .nil,λK=>by simp[oe,yw,K.sl]⟩;simp only[fy,TR];exact⟨.inl ⟨trivial,some a,cap,rfl,λh=>by cases h⟩,trivial⟩;obtain⟨cs0,y0,c0,_,_⟩:=each 0 (by omega);obtain⟨_,c1,c2⟩:=World.cells?_some c0;have c3:=c2 0 (by omega);rw[dI (by omega)]at c3;have c4:=QL c3;simp[Nat.zero_mul,Addr.add,if_true]at c4;obtain⟨b,aa,s⟩:=a;simp at c4;obtain⟨rfl,hb⟩:=c4;have rows:∀q j,j+q=len->∃rows:Y (List Tree),rows.length=q/\cR w (Here w) rows b (aa+j*P.cellsOf e) (P.cellsOf e)/\ra row rows/\∀K:Bk H,yw rows<=K.a ((elems.map (·.1)).drop j):=by
  intro q
  induction q with
  |zero=>intro j _;exact⟨[],rfl,by simp[cR],.nil,λK=>by simp[yw]⟩
  |succ q ihq=>
   intro j hj;obtain⟨rows,g1,g2,g3,k3⟩:=ihq (j+1) (by omega);obtain⟨csj,y,g4,g5,gy⟩:=each j (by omega);obtain⟨ts,g6,g7,_,k6⟩:=one m (by omega) _ _ g5;obtain⟨_,g8,g9⟩:=World.cells?_some g4;refine⟨ts::rows,by simp[g1],?_,.cons g7 g3,λK=>by have:=k3 K;have:=k6 K;rw[K.drop gy,yw];omega⟩;simp[cR];refine⟨(fy.length _ _ g6).trans g8,ada _ _ _ _ g6 λi hi=>?_,?_⟩;rw[<- g9 i (by omega),addr_add,addr_add];rw[show aa+j*P.cellsOf e+P.cellsOf e=aa+(j+1)*P.cellsOf e by rw[Nat.add_mul];omega];exact g2
 obtain⟨rows,g1,g2,g3,k3⟩:=rows len 0 (by omega);refine⟨.sl rows,?_,.mk rows (by omega) g3,λK=>by have:=k3 K;rw[List.drop_zero]at this;rw[K.sl,oe];omega⟩;simp only[fy,TR];exact⟨.inr ⟨b,aa,cap,P.cellsOf e,by rw[g1],by omega,hb,by simpa using g2⟩,trivial⟩
theorem ES{cut:Y TypeId}:∀(n:Nat)(t:TypeId)(sh:Y CS),BE P cut n t=some sh->∀(fuel:Nat)(cs:Y Value)(x:DataW H×List MemPlace),DataW.trod enc P w 0 sp held fuel t cs=some x->Wr P t x->
 ∃ts,fy w (Here w) ts cs/\ep sh ts/\∀K:Bk H,iD ts<=K.b x.1
 | 0,_,_,h,_,_,_,_,_=>by simp[BE]at h
 |n+1,t,sh,h,fuel,cs,x,hx,hz=>by
  unfold BE at h;split at h;rename_i k hk;cases h;obtain⟨v,rfl,rfl,hw⟩:=DataW.trod_int hk hx;exact⟨[.sc (.int k v)],by simp[fy,TR,oneCell],by simp only[ep,Fit];exact⟨⟨v,rfl,hw⟩,trivial⟩,λK=>by simp[iD,oe,K.int]⟩;rename_i hk;cases h;obtain⟨v,rfl,rfl⟩:=DataW.trod_bool hk hx;exact⟨[.sc (.bool v)],by simp[fy,TR,oneCell],by simp only[ep,Fit];exact⟨⟨v,rfl⟩,trivial⟩,λK=>by simp[iD,oe,K.bool]⟩;rename_i hk;cases h;obtain⟨v,rfl,rfl,hw⟩:=DataW.trod_string hk hx;exact⟨[.sc (.string v)],by simp[fy,TR,oneCell],by simp only[ep,Fit];exact⟨⟨v,rfl,hw⟩,trivial⟩,λK=>by simp[iD,oe,K.str]⟩;rename_i e hk;split at h;split at h;rename_i row hmr;cases h;have⟨tr,g1,g2,k1⟩:=ao4 hk hmr fuel cs x hx;exact⟨[tr],g1,by simp only[ep,Fit];exact⟨g2,trivial⟩,λK=>by have:=k1 K;simp only[iD];omega⟩;cases h;rcases DataW.trod_slice hk hx with ⟨rfl,rfl⟩|⟨a,len,cap,elems,ae,m,_,rfl,rfl,_,hl,hm,hlen,hel,_,_⟩;exact⟨[.sc (.slice none 0 0)],by simp[fy,TR,oneCell],by simp[ep,Fit],λK=>by simp[iD,oe,K.nil]⟩;exact⟨[.sc (.slice (some a) len cap)],by simp[fy,TR,oneCell],by simp[ep,Fit],λK=>by simp[iD,oe,K.sl]⟩;simp only[ah]at h;obtain⟨r,h1,h2⟩:=h;split at h2;rename_i hr;cases h2;rcases DataW.trod_slice hk hx with ⟨rfl,rfl⟩|⟨a,len,cap,elems,ae,m,_,rfl,rfl,_,hl,hm,hlen,hel,_,_⟩;refine⟨[.sl []],?_,by simp only[ep,Fit];exact⟨⟨[],rfl,by simp[maxLen],by simp⟩,trivial⟩,λK=>by simp[iD,oe,yw,K.nil]⟩;simp only[fy,TR];exact⟨.inl ⟨trivial,none,0,rfl,λ_=>rfl⟩,trivial⟩;have hzw:∀k,k=(elems.length+ae.length)*P.bytesOf e\/k∈DataW.weightsAll P e (elems.map (·.1))->k<=reachBytes:=by intro k hkk;refine hz k ?_;simp only[DataW.weights,hk,aI,bI,length_map];rcases hkk with h|h;exact .inl h;exact .inr (.inl h)
  have each:∀i,i<len->∃vx y,w.cells? 0 (a.add (i*P.cellsOf e)) (P.cellsOf e)=some vx/\DataW.trod enc P w 0 sp held m e vx=some y/\Wr P e y/\elems[i]? =some y:=by intro i hi;have h3:=hel i hi;have h6:elems[i]? =some (elems[i]'(by omega)):=dI (by omega);rw[h6,ah]at h3;obtain⟨vx,h4,h5⟩:=h3;exact⟨vx,_,h4,h5,λk hk=>hzw k (.inr (zB (mem_map.2 ⟨_,List.getElem_mem (by omega),rfl⟩) k hk)),h6⟩
  have hbytes:len*S5 r<=reachBytes:=by have h1:=hzw _ (.inl rfl);have h2:len*S5 r<=(elems.length+ae.length)*P.bytesOf e:=Nat.mul_le_mul (by omega) hr.2.2;omega
  by_cases h0:len=0;subst h0;refine⟨[.sl []],?_,by simp only[ep,Fit];exact⟨⟨[],rfl,by simp[maxLen],by simp⟩,trivial⟩,λK=>by simp[iD,oe,yw,K.sl]⟩;simp only[fy,TR];exact⟨.inl ⟨trivial,some a,cap,rfl,λh=>by cases h⟩,trivial⟩;obtain⟨cs0,y0,c0,_,_,_⟩:=each 0 (by omega);obtain⟨_,c1,c2⟩:=World.cells?_some c0;have c3:=c2 0 (by omega);rw[dI (by omega)]at c3;have c4:=QL c3;simp[Nat.zero_mul,Addr.add,if_true]at c4;obtain⟨b,aa,s⟩:=a;simp at c4;obtain⟨rfl,hb⟩:=c4;have rows:∀m j,j+m=len->∃rows:Y (List Tree),rows.length=m/\cR w (Here w) rows b (aa+j*P.cellsOf e) (P.cellsOf e)/\(∀ x∈rows,ep r x)/\∀K:Bk H,yw rows<=K.a ((elems.map (·.1)).drop j):=by
   intro m
   induction m with
   |zero=>intro j _;exact⟨[],rfl,by simp[cR],by simp,λK=>by simp[yw]⟩
   |succ m ih=>
    intro j hj;obtain⟨rows,g1,g2,g3,k3⟩:=ih (j+1) (by omega);obtain⟨csj,y,g4,g5,g5z,gy⟩:=each j (by omega);obtain⟨ts,g6,g7,k6⟩:=ES n e r h1 _ _ _ g5 g5z;obtain⟨_,g8,g9⟩:=World.cells?_some g4;refine⟨ts::rows,by simp[g1],?_,λx hx=>?_,λK=>by have:=k3 K;have:=k6 K;rw[K.drop gy,yw];omega⟩;simp[cR];refine⟨(fy.length _ _ g6).trans g8,ada _ _ _ _ g6 λi hi=>?_,?_⟩;rw[<- g9 i (by omega),addr_add,addr_add];rw[show aa+j*P.cellsOf e+P.cellsOf e=aa+(j+1)*P.cellsOf e by rw[Nat.add_mul];omega];exact g2;rcases aI.1 hx with rfl|hx;exact g7;exact g3 x hx
  obtain⟨rows,g1,g2,g3,k3⟩:=rows len 0 (by omega);refine⟨[.sl rows],?_,by simp only[ep,Fit];exact⟨⟨rows,rfl,⟨by omega,by rw[g1];exact hbytes⟩,g3⟩,trivial⟩,λK=>by have:=k3 K;rw[List.drop_zero]at this;rw[K.sl];simp[iD,oe];omega⟩;simp only[fy,TR];exact⟨.inr ⟨b,aa,cap,P.cellsOf e,by rw[g1],by omega,hb,by simpa using g2⟩,trivial⟩;cases h2;rename_i fs hk;simp only[ah]at h;obtain⟨r,h1,h2⟩:=h;split at h2;rename_i hr;injection h2 with h2;subst h2;obtain⟨xs,m,_,rfl,hl,hxs,hf⟩:=DataW.trod_struct hk hx;obtain⟨ts,g1,g2,k1⟩:=Tp m cs (BE P cut n) (λ t sh hsh cs x hx hz=>ES n t sh hsh m cs x hx hz) fs.toList xs 0 r h1 (by simpa using hxs) (λ i f x hi hxi=>by have hi':fs[i]? =some f:=(by simpa using hi);have:=hf i f hi';rw[hxi]at this;refine⟨this,λk hk'=>hz k ?_⟩;simp[DataW.weights,hk];exact DataW.weights_mem_each (j:=i) (t:=f.type) (d:=x.1) (by simp[hi']) (by simp[hxi]) k hk');refine⟨ts,?_,g2,λK=>by have:=k1 K;rw[K.agg];omega⟩;rw[List.drop_zero,take_of_length_le (by omega)]at g1;exact g1;cases h2;rename_i m e hk;simp only[ah]at h;obtain⟨r,h1,h2⟩:=h;split at h2;rename_i hr;cases h2;obtain⟨xs,q,_,rfl,hl,hxs,hf⟩:=DataW.trod_array hk hx;have part:∀i j,j+i=m->∃ts,fy w (Here w) ts (cs.drop (j*P.cellsOf e))/\ep (List.replicate i r).flatten ts/\∀K:Bk H,iD ts<=K.a ((xs.map (·.1)).drop j):=by
   intro i
   induction i with
   |zero=>
    intro j hj;refine⟨[],?_,by simp[ep],λK=>by simp[iD]⟩;have:j=m:=(by omega);subst this;rw[List.drop_of_length_le (by rw[hl,<- hr.2,<- hr.1];omega)];simp[fy]
   |succ i ih=>
    intro j hj;obtain⟨ts,g1,g2,k1⟩:=ih (j+1) (by omega);have:=hf j (by omega);have hxj:xs[j]? =some (xs[j]'(by omega)):=dI (by omega);rw[hxj]at this;obtain⟨ts0,g3,g4,k3⟩:=ES n e r h1 _ _ _ this (λ k hk'=>hz k (by simp[DataW.weights,hk];exact zB (mem_map.2 ⟨_,List.getElem_mem (by omega),rfl⟩) k hk'));refine⟨ts0++ts,?_,?_,λK=>by have:=k1 K;have:=k3 K;rw[K.drop hxj,Bc];omega⟩;have:=fy.append _ _ g3 g1;rw[show (j+1)*P.cellsOf e=j*P.cellsOf e+P.cellsOf e by rw[Nat.add_mul];omega,<- List.drop_drop,List.take_append_drop]at this;exact this;exact ep.append _ _ g4 g2
  obtain⟨ts,g1,g2,k1⟩:=part m 0 (by omega);exact⟨ts,by simpa using g1,g2,λK=>by have:=k1 K;rw[List.drop_zero]at this;rw[K.agg];omega⟩;cases h2;cases h
inductive VS where
 |one (c:CS)
 |agg (cs:List CS)
def Pa(P:Q)(cut:Y TypeId)(t:E):J VS:=
 (BE P cut 12 t).bind λsh=>match P.underlying t with
  |some (.struct _)|some (.array _ _)=>some (.agg sh)
  |_=>match sh with
   |[c]=>some (.one c)
   |_=>none
def It:VS->TV->Prop
 |.one c,x=>∃y,x=.s y/\Fit c y
 |.agg cs,x=>∃ys,x=.a ys/\ep cs ys
def Xa:Y VS->Y TV->Prop
 |[],[]=>True
 |s::ss,x::xs=>It s x/\Xa ss xs
 |_,_=>False
def Q4:TV->Nat
 |.s y=>oe y
 |.a ys=>iD ys
def Xb:Y TV->Nat
 |[]=>0
 |x::xs=>Q4 x+Xb xs
theorem amO{cut:Y TypeId}{t:E}{s:VS}{v:Ω}{d:DataW H}{ps:Y MemPlace}{b0:Nat}(hs:Pa P cut t=some s)(hval:Value.okWide P w .any b0 t v)(hd:DataW.Trod enc P w 0 sp held t v d ps)(hz:∀k∈d.weights P t,k<=reachBytes):
 ∃x,vA w (Here w) x v/\It s x/\∀K:Bk H,Q4 x<=K.b d:=by
 obtain⟨fuel,hf⟩:=hd;simp[Pa,ah]at hs;obtain⟨sh,h1,h2⟩:=hs;obtain⟨ts,g1,g2,k1⟩:=ES 12 t sh h1 _ _ _ hf hz;have hag:∀cs:Array Value,v=.agg cs->s=.agg sh->∃x,vA w (Here w) x v/\It s x/\∀K:Bk H,Q4 x<=K.b d:=by rintro cs rfl rfl;exact⟨.a ts,⟨cs,rfl,by simpa[Value.cells]using g1⟩,⟨ts,rfl,g2⟩,k1⟩
 unfold Value.okWide at hval;split at h2;rename_i hu;injection h2 with h2;rw[hu]at hval;obtain⟨cs,rfl,_⟩:=hval;exact hag cs rfl h2.symm;rename_i hu;injection h2 with h2;rw[hu]at hval;obtain⟨cs,rfl,_⟩:=hval;exact hag cs rfl h2.symm;split at h2;cases h2;have hone:v.cells.toList=[v]:=by
  cases hu:P.underlying t with
  |none=>rw[hu]at hval;simp[Cell.okWide,Cell.ok,hu]at hval
  |some d=>
   rw[hu]at hval;cases v<;>first|rfl|(exfalso;revert hval;cases d<;>simp_all [Cell.okWide,Cell.ok])
 rw[hone]at g1
 match ts,g1,g2,k1 with
 |[y],g1,g2,k1=>
  simp only[ep]at g2;exact⟨.s y,g1.1,⟨y,rfl,g2.1⟩,λK=>by have:=k1 K;simpa[iD,Q4]using this⟩
 |[],g1,_,_=>exact g1.elim
 |_::_::_,g1,_,_=>exact g1.2.elim
 cases h2
theorem abD{cut:Y TypeId}:∀{ts:Y TypeId}{ss:Y VS}{vs:Y Value}{ds:Y (DataW H)}{ps:Y MemPlace}{b0:Nat},ts.mapM (Pa P cut)=some ss->
 (∀ (j:Nat) t v,ts[j]? =some t->vs[j]? =some v->Value.okWide P w .any b0 t v)->DataW.TrodAll enc P w 0 sp held ts vs ds ps->(∀ k∈DataW.weightsEach P ts ds,k<=reachBytes)->∃xs,oR w (Here w) xs vs/\Xa ss xs/\∀K:Bk H,Xb xs<=K.a ds
 |[],ss,vs,ds,ps,b0,hs,_,hd,_=>by obtain⟨rfl,rfl,rfl⟩:=trodAll_nil hd;simp at hs;subst hs;exact⟨[],trivial,trivial,λK=>by simp[Xb]⟩
 |t::ts,ss,vs,ds,ps,b0,hs,hval,hd,hz=>by obtain⟨v,vs',d,ds',p,q,rfl,rfl,rfl,h0,r0⟩:=trodAll_cons hd;simp[ah]at hs;obtain⟨s,h1,ss',h2,rfl⟩:=hs;obtain⟨x,g1,g2,k1⟩:=amO h1 (hval 0 t v rfl rfl) h0 (λ k hk=>hz k (by simp[DataW.weightsEach];exact .inl hk));obtain⟨xs,g3,g4,k2⟩:=abD h2 (λ j t v h h'=>hval (j+1) t v h h') r0 (λ k hk=>hz k (by simp[DataW.weightsEach];exact .inr hk));exact⟨x::xs,⟨g1,g3⟩,⟨g2,g4⟩,λK=>by have:=k1 K;have:=k2 K;rw[Xb,K.a1];omega⟩
theorem Tq{G:ζ}{I:Ψ}:∀(xs:Y TV)(vs:Y Value),oR w I xs vs->br P G w I (xs.map TV.av) vs
 |[],[],_=>by simp[br]
 |x::xs,v::vs,h=>by
  refine⟨?_,Tq xs vs h.2⟩;have h1:=h.1;cases x with
  |s y=>simp[TV.av];exact h1
  |a cs=>
   obtain⟨us,rfl,h2⟩:=h1;refine⟨us,rfl,?_⟩;have:∀(cs:Y Tree) (us:Y Value),fy w I cs us->br P G w I (cs.map AV.t) us:=by
    intro cs
    induction cs with
    |nil=>intro us h;cases us<;>first|(simp [br];done)|exact h.elim
    |cons c cs ih=>intro us h;cases us with
     |nil=>exact h.elim
     |cons u us=>simp;exact⟨h.1,ih us h.2⟩
   exact this cs us.toList h2
 |[],_::_,h|_::_,[],h=>h.elim
end
section
variable {H:Type} {enc:TypeId×Value->H} {P:Program}
theorem ahS{f:Func}{s:ChangeSpec}{apart fresh handsOn again:Bool}{W W':M}{args:Array Value}{v:Ω}{ds gs:Y (DataW H)}{before pa pv:Y MemPlace}
 (hW:DataW.Whole enc P f.params.toList s.vars apart W args.toList ds gs before)
 (hres:∀(b:Nat)(sp:Nat->Bool)(hd:Bool),DataW.TrodAll enc P W' b sp hd f.resultTypes.toList (v.resultList f.resultTypes.size) (s.fn H (ds++gs)).results [])
 (hargs:∀sp:Nat->Bool,(∀ p∈before,sp p.block=true)->DataW.TrodAll enc P W' 0 sp true f.params.toList args.toList (s.fn H (ds++gs)).args pa)
 (hvars:∀sp:Nat->Bool,(∀ p∈before,sp p.block=true)->DataW.TrodVars enc P W' sp s.vars (s.fn H (ds++gs)).vars pv)
 (hps:before=pa++pv) (hb:Below W.heap.size W W')
 (hok:∀(j:Nat)(t:TypeId)(r:Value),f.resultTypes[j]? =some t->(v.resultList f.resultTypes.size)[j]? =some r->Value.okWide P W' .any 0 t r):
 s.post enc P f apart fresh handsOn again W args v W':=by
 have hlt:∀p∈before,p.block<W.heap.size:=λp hp=>hW.lt p hp;have hold:∀p∈before,(λ b=>decide (b<W.heap.size)) p.block=true:=λp hp=>by simpa using hlt p hp
 refine⟨ds,gs,before,[],pa,pv,hW,hres _ _ _,hargs _ hold,hvars _ hold,World.keptBut_mono (λ p hp=>⟨hp,?_⟩) (hb.frame (· ∈before)),λ_=>?_⟩;rw[hps,bI]at hp;exact Or.inr hp;obtain⟨_,_,_,_,_,hz,hn⟩:=hW;refine⟨hok,_,_,([]++pa)++pv,⟨[]++pa,pv,trodAll_append (hargs _ (λ _ _=>rfl)) (hres _ _ _),hvars _ (λ _ _=>rfl),rfl,?_,?_⟩,?_⟩;intro b aa hp;have hin:MemPlace.cell b aa∈before:=by rw[hps];simpa using hp
 rw[hb.frozen (hlt _ hin)];exact hz b aa hin;intro ha;have:=hn ha;rw[hps]at this;simpa using this;intro p hp _;rw[hps];simpa using hp
theorem LY(hl:laidOutB P=true){W W':M}(hb:Below W.heap.size W W'):∀{ts:Y TypeId}{vs:Y Value}{ds:Y (DataW H)}{ps:Y MemPlace},(∀ t∈ts,P.readableRec t=true/\t<P.types.size)->
 DataW.TrodAll enc P W 0 (λ _=>true) true ts vs ds ps->(∀ x∈ps,x.block<W.heap.size)->∀sp:Nat->Bool,(∀ p∈ps,sp p.block=true)->DataW.TrodAll enc P W' 0 sp true ts vs ds ps
 |[],vs,ds,ps,_,hd,_,sp,_=>by obtain⟨rfl,rfl,rfl⟩:=trodAll_nil hd;exact trodAll_mk0
 |t::ts,vs,ds,ps,ht,hd,hlt,sp,hsp=>by
  obtain⟨v,vs',d,ds',p,q,rfl,rfl,rfl,h0,r0⟩:=trodAll_cons hd;obtain⟨h1,h2⟩:=ht t (by simp)
  exact trodAll_cons_mk (WideElems.Trod_stays hl h1 h2 h0 (λ x hx=>hb.same (hlt x (by simp[hx]))) (λ x hx=>hsp x (by simp[hx])))
   (LY hl hb (λ t ht'=>ht t (by simp[ht'])) r0 (λ x hx=>hlt x (by simp[hx])) sp (λ x hx=>hsp x (by simp[hx])))
theorem Tt{w:M}{base:Nat}{sp:Nat->Bool}{held:Bool}:∀{ts:Y TypeId}{vs:Y Value}{ds:Y (DataW H)}{ps:Y MemPlace},DataW.TrodAll enc P w base sp held ts vs ds ps->ds.length=ts.length
 |[],_,_,_,h=>by obtain⟨_,rfl,_⟩:=trodAll_nil h;rfl
 |_::_,_,_,_,h=>by obtain⟨_,_,_,_,_,_,_,rfl,_,_,h2⟩:=trodAll_cons h;simp[Tt h2]
theorem ae1:∀{ts:Y TypeId}{ds:Y (DataW H)}{vt:Y TypeId}{gs:Y (DataW H)},ds.length=ts.length->∀k∈DataW.weightsEach P ts ds,k∈DataW.weightsEach P (ts++vt) (ds++gs)
 |[],[],_,_,_,k,h=>by simp[DataW.weightsEach]at h
 |t::ts,d::ds,vt,gs,hl,k,h=>by simp[DataW.weightsEach]at h |-;rcases h with h|h;exact .inl h;exact .inr (ae1 (by simpa using hl) k h)
 |[],_::_,_,_,h,_,_|_::_,[],_,_,h,_,_=>by simp at h
theorem adb{cut:Y TypeId}{C:Checked}{f:FuncId}{fn:Func}{s:ChangeSpec}{ss:Y VS}{tb:E}(hl:laidOutB C.prog=true)(hread:(fn.params.toList.all λt=>C.prog.readableRec t&&decide (t<C.prog.types.size))=true)
 (hss:fn.params.toList.mapM (Pa C.prog cut)=some ss) (hvars:s.vars=[]) (hres:fn.resultTypes=#[tb]) (hb:C.prog.underlying tb=some .bool)
 (hs:∀ds:Y (DataW H),ds.length=fn.params.toList.length->s.fn H ds={ results:=[.lit (.bool true)],args:=ds })
 {B:Ψ} (asL:∀xs,Xa ss xs->(∀ n,B n->Xb xs<=n)->sq C.prog f (xs.map TV.av) (.one (.d (.s (.sc (.bool true))))))
 {W:M} {base:Nat} {args:Array Value} {ds gs:Y (DataW H)} {before:Y MemPlace}
 (hval:∀(j:Nat) t v,fn.params[j]? =some t->args[j]? =some v->Value.okWide C.prog W .any base t v)
 (hW:DataW.Whole enc C.prog fn.params.toList s.vars false W args.toList ds gs before)
 {vt:Y TypeId} (hz:(DataW.weightsEach C.prog (fn.params.toList++vt) (ds++gs)).all (· <=reachBytes)=true) (hv:lP W (Here W)) (hB:∀n,B n->∃K:Bk H,K.a ds<=n):
 Calls C.prog f args W λe W'=>∃v,e=.returned v/\s.post enc C.prog fn false true false false W args v W':=by
 have hW':=hW;obtain⟨p,q,hA,hV,rfl,_,_⟩:=hW;rw[hvars]at hV;obtain⟨rfl,rfl⟩:=trodVars_none hV;have hlen:=Tt hA;obtain⟨xs,g1,g2,g3⟩:=abD hss (λ j t v h1 h2=>hval j t v (by simpa using h1) (by simpa using h2)) hA (λ k hk=>by have:=all_eq_true.1 hz k (ae1 hlen k hk);simpa using this);simp at hW';have hlt:∀x∈p,x.block<W.heap.size:=λx hx=>hW'.lt x hx;refine((asL xs g2 (λ n hn=>by have⟨K,hK⟩:=hB n hn;exact Nat.le_trans (g3 K) hK)).2 W (Here W) args (λ _ h=>h) hv (Tq _ _ g1)).mono λe W' ⟨v,I',he,hbel,_,_,_,hr⟩=>⟨v,he,?_⟩;simp[th]at hr;obtain⟨rfl,_⟩:=hr;have hfn:s.fn H (ds++[])={ results:=[.lit (.bool true)],args:=ds }:=by rw[append_nil];exact hs ds hlen
 refine ahS (pa:=p) (pv:=[]) hW' (λ b sp hd=>?_) (λ sp hsp=>?_) (λ sp _=>?_) (by simp) hbel (ok_one (by rw[hres]) rfl (okWide_bool_mk hb _));rw[hfn,hres];exact trodAll_mk1 (shut_bool hb _);rw[hfn];refine LY hl hbel (λ t ht=>?_) hA hlt sp hsp;have:=all_eq_true.1 hread t ht;simpa using this;rw[hfn,hvars];rfl
end
def aqx:C7->TypeDesc->Bool
 |.slice e,.slice e'=>e==e'
 |.arr n e,.array n' e'=>n==n'&&e==e'
 |.struct fs,.struct fa=>fa.toList.map (λ f=>(f.offset,f.type))==fs
 |.bool,.bool=>true
 |.str,.string=>true
 |.int k,.int k'=>k==k'
 |.map k e,.map k' e'=>k==k'&&e==e'
 |.other,_=>true
 |_,_=>false
def amP:Value->Value->Bool
 |.int k a,.int k' b=>k==k'&&a==b
 |.bool a,.bool b=>a==b
 |.string a,.string b=>decide (a=b)
 |.slice none 0 0,.slice none 0 0=>true
 |.pointer none,.pointer none=>true
 |.nilFunc,.nilFunc=>true
 |.nilIface,.nilIface=>true
 |.map none,.map none=>true
 |_,_=>false
theorem ae2{a b:Ω}(h:amP a b=true):a=b:=by unfold amP at h;split at h<;>simp_all
def Xc:Y Value->Y Value->Bool
 |[],[]=>true
 |a::as,b::bs=>amP a b&&Xc as bs
 |_,_=>false
theorem Oa:∀{a b:Y Value},Xc a b=true->a=b
 |[],[],_=>rfl
 |a::as,b::bs,h=>by simp[Xc]at h;rw[ae2 h.1,Oa h.2]
 |[],_::_,h|_::_,[],h=>by simp[Xc]at h
def amQ(P:Q)(t:E)(ti:p6):Bool:=
 match P.info? t,P.underlying t with
 |some info,some d=>match info.zero with
  |some z=>info.size==ti.size&&info.bytes==ti.bytes&&uk d==ti.agg&&aqx ti.k d&&ti.zero.all lw&&ti.zero.length==ti.size&&
   (ti.cmp.isEmpty || match d with
    |.struct fa=>!P.stoodInHeld t&&!P.eqGuardType P.depth t&&ga P 99 0 fa.toList ti.cmp
    |.array _ _=>ti.cmp==[9]&&!P.eqGuardType P.depth t
    |_=>false)&&Xc z.cells.toList ti.zero&&uC ti.agg z
  |none=>false
 |_,_=>false
theorem ahT{k:C7}{d:TypeDesc}(h:aqx k d=true):Ys k d:=by unfold aqx at h;split at h;simp at h;subst h;rfl;simp at h;obtain⟨rfl,rfl⟩:=h;rfl;rename_i fs fa;exact⟨fa,rfl,by simpa using h⟩;rfl;rfl;simp at h;subst h;rfl;simp at h;obtain⟨rfl,rfl⟩:=h;rfl;trivial;cases h
theorem ae3{P:Q}{t:E}{ti:p6}(h:amQ P t ti=true):m4 P t ti:=by
 unfold amQ at h;split at h;rename_i info d h1 h2;split at h
 .rename_i z h3;simp only[aT,beq_iff_eq]at h;obtain⟨⟨⟨⟨⟨⟨⟨⟨a1,a2⟩,a3⟩,a4⟩,a5⟩,a6⟩,a7⟩,a8⟩,a9⟩:=h;refine⟨⟨info,d,z,h1,h2,a1,a2,h3,Oa a8,a3,ahT a4⟩,a5,a6,λinfo' z' e1 e2=>by rw[h1]at e1;cases e1;rw[h3]at e2;cases e2;exact a9,λhne=>?_⟩
  all_goals grind
 cases h;cases h
def iM(l:Y (TypeId×p6)):eM:=λt=>(l.find? λp=>p.1==t).map (·.2)
theorem ae4{P:Q}{l:Y (TypeId×p6)}(h:(l.all λp=>amQ P p.1 p.2)=true):fF P (iM l):=by intro t ti ht;simp only[iM,uy]at ht;obtain⟨p,hp,rfl⟩:=ht;have h1:=List.find?_some hp;simp at h1;subst h1;exact ae3 (all_eq_true.1 h p (List.mem_of_find?_eq_some hp))
inductive CT(ι:Type) where
 |int (k:IntKind)
 |bool
 |str
 |sl (e:CT ι)
 |st (i:ι)
 |any
 |mp (k v:CT ι)
 deriving DecidableEq
structure SE where
 ι:Type
 dec:DecidableEq ι
 T:ι->Type
 row:(i:ι)->T i->List Tree
instance (Θ:SE):DecidableEq Θ.ι:=Θ.dec
section
variable (Θ:SE)
@[reducible] def CT.T:CT Θ.ι->Type
 |.int _=>Int
 |.bool=>Bool
 |.str=>ByteArray
 |.sl e=>Y (CT.T e)
 |.st i=>Θ.T i
 |.any=>Tree
 |.mp k v=>Y (CT.T k×CT.T v)
def CT.row:(c:CT Θ.ι)->CT.T Θ c->Y Tree
 |.int k,n=>[.sc (.int k n)]
 |.bool,b=>[.sc (.bool b)]
 |.str,s=>[.sc (.string s)]
 |.sl e,l=>[.sl (List.map (CT.row e) l)]
 |.st i,x=>Θ.row i x
 |.any,x=>[x]
 |.mp _ _,_=>[.sl []]
def CT.one{ι:Type}:CT ι->Bool
 |.st _=>false
 |_=>true
def CT.tv:(c:CT Θ.ι)->CT.T Θ c->TV
 |.int k,n=>.s (.sc (.int k n))
 |.bool,b=>.s (.sc (.bool b))
 |.str,s=>.s (.sc (.string s))
 |.sl e,l=>.s (.sl (List.map (CT.row Θ e) l))
 |.st i,x=>.a (Θ.row i x)
 |.any,x=>.s x
 |.mp _ _,_=>.s (.sl [])
def HL:Y (CT Θ.ι)->Type
 |[]=>Unit
 |c::l=>CT.T Θ c×HL l
def HL.row:(l:Y (CT Θ.ι))->HL Θ l->Y Tree
 |[],_=>[]
 |c::l,h=>CT.row Θ c h.1++HL.row l h.2
def HL.oY:(l:Y (CT Θ.ι))->HL Θ l->Y TV
 |[],_=>[]
 |c::l,h=>CT.tv Θ c h.1::HL.oY l h.2
end
structure Arr(Θ:SE) where
 i:Θ.ι
 c:CT Θ.ι
 f:Θ.T i->List (CT.T Θ c)
 g:List (CT.T Θ c)->Option (Θ.T i)
structure SX extends SE where
 ej:ι->List (CT ι)
 get:(i:ι)->T i->HL toSE (ej i)
 make:(i:ι)->HL toSE (ej i)->T i
 pL:∀i x,row i x=HL.row toSE (ej i) (get i x)
 ij:∀i h,row i (make i h)=HL.row toSE (ej i) h
 flat:∀i,(ej i).all CT.one=true
 gv:Nat->Option ((c:CT ι)×CT.T toSE c)
 B8:∀g,(gv g).map (λ p=>CT.row toSE p.1 p.2)=(AK g).map λr=>r.map Tree.sc
 ar:TypeId->Option (Arr toSE):=λ_=>none
 asZ:∀t a,ar t=some a->a.c.one=true/\(∀ x,row a.i x=((a.f x).map (CT.row toSE a.c)).flatten)/\∀l x,a.g l=some x->a.f x=l:=by intro t a h;cases h
section
variable (X:SX)
abbrev SX.C:=CT X.ι
abbrev SX.t(c:CT X.ι):Type:=CT.T X.toSE c
def CT.sz:CT X.ι->Nat
 |.st i=>(X.ej i).length
 |_=>1
inductive DV where
 |c (t:CT X.ι) (x:CT.T X.toSE t)
 |agg (cs:List DV)
 |eE (vs:List DV)
 |own (k aa len:Nat)
 |ptr (k row aa:Nat)
 |sB (k:Nat) (n:Int) (aa:Nat)
 |vi (k row aa m:Nat) (n:Int)
 |rp (t:CT X.ι) (x:CT.T X.toSE t) (aa:Nat)
 |As (t:CT X.ι) (x:CT.T X.toSE t) (aa m:Nat) (n:Int)
 |fn (f:FuncId) (first caps:List DV)
 |eC (as:List (CT X.ι)) (r:CT X.ι) (Z:HL X.toSE as->Option (CT.T X.toSE r))
 |mp (k:Nat)
 |oz (k len:Nat)
 |raw (v:Value)
 |nil
 |ub
 |skip
 |undef
inductive ci where
 |cells (sz:Nat) (rows:List (List (DV X)))
 |eK (c:CT X.ι) (l:List (CT.T X.toSE c))
 |map (kc vc:CT X.ι) (l:List (CT.T X.toSE kc×CT.T X.toSE vc))
structure ek where
 env:List (Nat×DV X)
 obj:List (Nat×Option (ci X))
 nx:Nat
 log:List Nat
variable {X}
mutual
def den:DV X->AV
 |.c t x=>(CT.tv X.toSE t x).av
 |.agg cs=>.agg (bH cs)
 |.eE vs=>.eE (bH vs)
 |.own k aa len=>.own k aa len
 |.ptr k row aa=>.ptr k row aa
 |.sB k n aa=>.ptr k n.toNat aa
 |.vi k row aa _ n=>.ptr k row (aa+n.toNat)
 |.rp t x aa=>.eW (CT.row X.toSE t x) aa
 |.As t x aa _ n=>.eW (CT.row X.toSE t x) (aa+n.toNat)
 |.fn f first caps=>.fn f (bH first) (bH caps)
 |.eC as r Z=>.eC λts u=>∃h x,Z h=some x/\ts=HL.oY X.toSE as h/\u=CT.tv X.toSE r x
 |.mp k=>.mp k
 |.oz k len=>.oz k len
 |.raw v=>cv v
 |.nil=>.d5
 |.ub=>.ub
 |.skip=>.undef
 |.undef=>.undef
def bH:List (DV X)->List AV
 |[]=>[]
 |x::xs=>den x::bH xs
end
theorem pz:∀l:Y (DV X),bH l=l.map den
 |[]=>rfl
 |x::xs=>by simp[bH,pz xs]
def bL:ci X->aN
 |.cells sz rows=>⟨sz,rows.map bH⟩
 |.eK c l=>⟨CT.sz X c,aJ (l.map (CT.row X.toSE c))⟩
 |.map kc vc l=>⟨l.length,l.map λp=>[(CT.tv X.toSE kc p.1).av,(CT.tv X.toSE vc p.2).av]⟩
def ja(u:Y (Nat×Option (ci X))):Y (Nat×Option aN):=u.map λp=>(p.1,p.2.map bL)
def iS(o:Y (Nat×Option (ci X)))(k:Nat):J (ci X):=(lk o k).join
def fL(e:Y (Nat×DV X))(t:Nat):DV X:=(lk e t).getD .undef
def ek.st(s:ek X):St:=⟨λ t=>den (fL s.env t),λk=>(iS s.obj k).map bL,λ_=>none⟩
def lG(a b:CT X.ι)(x:CT.T X.toSE a):J (CT.T X.toSE b):=
 match decEq a b with
 |isTrue h=>some (h ▸ x)
 |isFalse _=>none
theorem tH{a b:CT X.ι}{x:CT.T X.toSE a}{y:CT.T X.toSE b}(h:lG a b x=some y):∃e:a=b,y=e ▸ x:=by unfold lG at h;split at h;rename_i e _;injection h with h;exact⟨e,h.symm⟩;cases h
def HL.cells:(l:Y (CT X.ι))->HL X.toSE l->Y (DV X)
 |[],_=>[]
 |c::l,h=>.c c h.1::HL.cells l h.2
theorem row_one{c:CT X.ι}(h:c.one=true)(x:CT.T X.toSE c):∃t,CT.row X.toSE c x=[t]/\CT.tv X.toSE c x=.s t:=by cases c<;>first|exact⟨_,rfl,rfl⟩|cases h
theorem HL.sm:∀(l:Y (CT X.ι))(h:HL X.toSE l),l.all CT.one=true->bH (HL.cells l h)=(HL.row X.toSE l h).map AV.t
 |[],_,_=>rfl
 |c::l,h,ha=>by simp only[all_cons,aT]at ha;obtain⟨t,h1,h2⟩:=row_one ha.1 h.1;simp[HL.cells,bH,den,HL.row,h1,h2,TV.av,HL.sm l h.2 ha.2]
theorem HL.p7:∀(l:Y (CT X.ι))(h:HL X.toSE l),l.all CT.one=true->(HL.row X.toSE l h).length=l.length
 |[],_,_=>rfl
 |c::l,h,ha=>by simp only[all_cons,aT]at ha;obtain⟨t,h1,_⟩:=row_one ha.1 h.1;simp[HL.row,h1,HL.p7 l h.2 ha.2]
theorem IL(c:CT X.ι)(x:CT.T X.toSE c):(CT.row X.toSE c x).length=CT.sz X c:=by
 cases c<;>try rfl
 rename_i i;exact(congrArg List.length (X.pL i x)).trans (HL.p7 _ _ (X.flat i))
def wE:(c:CT X.ι)->CT.T X.toSE c->Y (DV X)
 |.st i,x=>HL.cells (X.ej i) (X.get i x)
 |c,x=>[.c c x]
theorem qD(c:CT X.ι)(x:CT.T X.toSE c):bH (wE c x)=(CT.row X.toSE c x).map AV.t:=by
 cases c<;>try rfl
 rename_i i;exact(HL.sm _ _ (X.flat i)).trans (congrArg (List.map AV.t) (X.pL i x).symm)
def wZ:DV X->Bool
 |.agg _|.eE _|.undef|.skip|.raw _|.c (.st _) _=>false
 |_=>true
theorem Tv{x:DV X}(h:wZ x=true):qC (den x)=true:=by
 cases x<;>try rfl
 case c t x=>cases t<;>first|rfl|simp[wZ]at h
 all_goals simp[wZ]at h
def cellsD:DV X->J (List (DV X))
 |.agg cs=>if cs.all wZ then some cs else none
 |.c (.st i) x=>some (wE (.st i) x)
 |.eE _|.undef|.skip|.raw _=>none
 |x=>some [x]
theorem ajP{l:Y (DV X)}(h:l.all wZ=true):(bH l).all qC=true:=by rw[pz,List.all_map,all_eq_true];exact λx hx=>Tv (all_eq_true.1 h x hx)
theorem EU{x:DV X}{cs:Y (DV X)}(h:cellsD x=some cs):cellsOf (den x)=some (bH cs):=by
 cases x
 case c t x=>
  cases t
  case st i=>
   simp[cellsD]at h;subst h;simp only[den,CT.tv,TV.av,cellsOf,qD];show(if ((X.row i x).map AV.t).all qC then some ((X.row i x).map AV.t)else none)=some ((X.row i x).map AV.t);rw[aP];rw[List.all_map,all_eq_true];exact λ_ _=>rfl
  all_goals simp[cellsD]at h;subst h;rfl
 case agg l=>
  simp only[cellsD]at h;split at h;cases h;simp only[den,cellsOf];rw[aP (ajP ‹_›)];cases h
 all_goals simp[cellsD]at h;try (subst h;rfl)
def yl:Value->DV X
 |.slice none 0 0=>.nil
 |.int k n=>.c (.int k) n
 |.bool b=>.c .bool b
 |.string s=>.c .str s
 |v=>.raw v
theorem ajQ(v:Ω):den (yl (X:=X) v)=cv v:=by unfold yl;split<;>rfl
theorem Du(l:Y Value):bH (l.map (yl (X:=X)))=l.map cv:=by rw[pz,map_map];exact map_congr_left λv _=>ajQ v
def y6(env:Nat->DV X):Operand->DV X
 |.tmp t=>env t
 |.const v=>yl v
 |.global g=>match X.gv g with
  |some p=>.rp p.1 p.2 0
  |none=>.undef
 |.func f=>.fn f [] []
theorem Xd(env:Nat->DV X)(x:Operand):den (y6 env x)=m6 (λ t=>den (env t)) x:=by
 cases x with
 |global g=>
  have h:=X.B8 g;simp[y6,m6];cases h1:X.gv g with
  |none=>
   rw[h1]at h;cases h2:AK g with
   |none=>rfl
   |some r=>rw[h2]at h;cases h
  |some p=>grind [den]
 |const v=>exact ajQ _
 |tmp t|func f=>rfl
end
def bx{α:Type}(l:Y α)(n:Int):J α:=bif decide (0<=n)then l[n.toNat]? else none
def sub{α:Type}(l:Y α)(aa len:Nat):Y α:=(l.drop aa).take len
def cV(n:Int)(len:Nat):Bool:=decide (0<=n)&&decide (n<(len:Int))
def gU{α G:Type}(a:α)(f:α->G):G:=f a
def bF(lo len ln n bytes:Nat):Bool:=decide (lo=len)&&decide (ln=n)&&decide ((len+n)*bytes<=140737488355328)&&decide (len+n<=maxLen)
def aE(a b:Nat):Bool:=decide (a=b)
def Cc(l h:Int)(len:Nat):Bool:=decide (0<=l)&&decide (l<=h)&&decide (h<=(len:Int))
def Xe(a b:ByteArray):Bool:=Op.bytesLess a.toList b.toList
def Xf(a b:ByteArray):Bool:=decide (a.size+b.size<=maxLen)
abbrev iN(n:Int):Int:=n
abbrev bN(b:Bool):Bool:=b
def Xg{A:Type}:Y Bool->J A->J A
 |[],k=>k
 |c::cs,k=>bif c then Xg cs k else none
section
variable {X:SX} {A:Type}
abbrev KK(X:SX)(A:Type):=DV X->Y (Nat×Option (ci X))->Y Nat->Y Nat->J A
def amR(t:Bool)(x y:DV X):DV X:=
 match x,y with
 |.c a p,.c b q=>match decEq b a with
  |isTrue h=>.c a (bif t then p else h ▸ q)
  |isFalse _=>bif t then .c a p else .c b q
 |x,y=>bif t then x else y
def IQ(agg:Bool)(size:Nat)(cs:Y (DV X)):J (DV X):=
 if cs.length=size then(if agg then some (.agg cs)else match cs with|[x]=>if wZ x then some x else none|_=>none)else none
def T2(agg:Bool)(size:Nat)(c:CT X.ι)(y:CT.T X.toSE c)(aa:Nat):J (DV X):=
 match c,y with
 |.st i,y=>if aa=0/\agg=true/\size=(X.ej i).length then some (.c (.st i) y)else IQ agg size (((wE (.st i) y).drop aa).take size)
 |c,y=>IQ agg size (((wE c y).drop aa).take size)
def Mt(d:DV X)(c:CT X.ι):J (CT.T X.toSE c):=
 match d,c with
 |.c a x,c=>lG a c x
 |.nil,.sl _=>some []
 |.nil,.any=>some (.sl [])
 |_,_=>none
def EW:Y (DV X)->(l:Y (CT X.ι))->J (HL X.toSE l)
 |[],[]=>some ()
 |d::ds,c::l=>(Mt d c).bind λx=>(EW ds l).bind λh=>some (x,h)
 |_,_=>none
def Hp(d:DV X)(i:X.ι):J (CT.T X.toSE (.st i)):=
 match d with
 |.agg cs=>(EW cs (X.ej i)).bind λh=>some (X.make i h)
 |.c a x=>lG a (.st i) x
 |_=>none
def dat(d:DV X)(c:CT X.ι):J (CT.T X.toSE c):=
 match c with
 |.st i=>Hp d i
 |c=>Mt d c
def mk1(c:CT X.ι):Y (DV X)->J (CT.T X.toSE c)
 |[d]=>Mt d c
 |_=>none
def Ob(c:CT X.ι)(ds:Y (DV X)):J (CT.T X.toSE c):=
 match c with
 |.st i=>(EW ds (X.ej i)).bind λh=>some (X.make i h)
 |c=>mk1 c ds
def O2(r:Y (DV X))(aa:Nat)(cs:Y (DV X)):Y (DV X):=r.take aa++cs++r.drop (aa+cs.length)
variable (T:eM) (code:TypeId->Option (CT X.ι))
def X2(t:E)(x:DV X)(get:Nat->J (ci X))(k:KK X A):J A:=
 (T t).bind λti=>match x with
 |.ptr kk row aa=>(get kk).bind λo=>match o with
  |.cells _ rows=>(rows[row]?).bind λr=>(IQ ti.agg ti.size ((r.drop aa).take ti.size)).bind λv=>k v [] [kk] []
  |_=>none
 |.sB kk n aa=>(get kk).bind λo=>match o with
  |.eK c l=>(bx l n).bind λy=>(T2 ti.agg ti.size c y aa).bind λv=>k v [] [kk] []
  |_=>none
 |.rp c y aa=>(T2 ti.agg ti.size c y aa).bind λv=>k v [] [] []
 |_=>none
def W6(t:E)(x y:DV X)(get:Nat->J (ci X))(k:KK X A):J A:=
 (T t).bind λti=>(cellsD y).bind λcs=>if cs.length=ti.size then match x with
 |.ptr kk row aa=>(get kk).bind λo=>match o with
  |.cells sz rows=>(rows[row]?).bind λr=>if aa+cs.length<=r.length then k .undef [(kk,some (.cells sz (rows.set row (O2 r aa cs))))] [kk] [kk]else none
  |_=>none
 |.sB kk n aa=>(get kk).bind λo=>match o with
  |.eK c l=>(bx l n).bind λy=>if aa+cs.length<=CT.sz X c then(Ob c (O2 (wE c y) aa cs)).bind λz=>k .undef [(kk,some (.eK c (l.set n.toNat z)))] [kk] [kk]else none
  |_=>none
 |_=>none else none
def Mv(t:E)(x:DV X)(f:Nat)(k:KK X A):J A:=
 (AZ T t f).bind λp=>match x with
 |.ptr kk row aa=>k (.ptr kk row (aa+p.1)) [] [] []
 |.sB kk n aa=>k (.sB kk n (aa+p.1)) [] [] []
 |.rp c y aa=>k (.rp c y (aa+p.1)) [] [] []
 |_=>none
def ahV(t:E)(x:DV X)(f:Nat)(k:KK X A):J A:=
 (AZ T t f).bind λp=>match x with
 |.agg cs=>(IQ p.2.agg p.2.size ((cs.drop p.1).take p.2.size)).bind λv=>k v [] [] []
 |.c (.st i) y=>(IQ p.2.agg p.2.size (((wE (.st i) y).drop p.1).take p.2.size)).bind λv=>k v [] [] []
 |_=>none
def Mw(t:E)(x j:DV X)(get:Nat->J (ci X))(k:KK X A):J A:=
 (T t).bind λti=>match ti.k,j with
 |.slice e,.c (.int _) n=>(T e).bind λei=>match x with
  |.c (.sl c) l=>if CT.sz X c=ei.size then(bx l n).bind λy=>k (.rp c y 0) [] [] []else none
  |.own kk aa len=>(get kk).bind λo=>match o with
   |.eK c _=>if CT.sz X c=ei.size then bif cV n len then k (.sB kk ((aa:Int)+iN n) 0) [] [kk] []else none else none
   |.cells sz _=>if sz=ei.size then bif cV n len then k (.ptr kk (aa+n.toNat) 0) [] [kk] []else none else none
   |.map _ _ _=>none
  |_=>none
 |.arr m e,.c (.int _) n=>(T e).bind λei=>bif cV n m then match x with
  |.ptr kk row aa=>k (.ptr kk row (aa+n.toNat*ei.size)) [] [] []
  |.sB kk r aa=>k (.sB kk r (aa+n.toNat*ei.size)) [] [] []
  |.rp c y aa=>k (.rp c y (aa+n.toNat*ei.size)) [] [] []
  |_=>none
  else none
 |_,_=>none
def Xh(x:DV X)(j:Nat)(k:KK X A):J A:=
 match x with
 |.eE vs=>(vs[j]?).bind λv=>k v [] [] []
 |_=>none
def IU(op:BinOp)(kd:IntKind)(a b:Int):(DV X)×Option Bool:=
 match op with
 |.add=>(.c (.int kd) (kd.wrap (a+b)),none)
 |.sub=>(.c (.int kd) (kd.wrap (a-b)),none)
 |.mul=>(.c (.int kd) (kd.wrap (a*b)),none)
 |.quo=>(.c (.int kd) (kd.wrap (a.tdiv b)),some (b !=0))
 |.rem=>(.c (.int kd) (a.tmod b),some (b !=0))
 |.and=>(.c (.int kd) (bits .and kd a b),none)
 |.or=>(.c (.int kd) (bits .or kd a b),none)
 |.xor=>(.c (.int kd) (bits .xor kd a b),none)
 |.andNot=>(.c (.int kd) (bits .andNot kd a b),none)
 |.shl=>(.c (.int kd) (kd.wrap (a*2 ^ b.toNat)),some (decide (0<=b)&&decide (b<=kd.bits)))
 |.shr=>(.c (.int kd) (a/2 ^ b.toNat),some (decide (0<=b)&&decide (b<=kd.bits)))
 |.eql=>(.c .bool (a==b),none)
 |.neq=>(.c .bool (a !=b),none)
 |.lss=>(.c .bool (decide (a<b)),none)
 |.leq=>(.c .bool (decide (a<=b)),none)
 |.gtr=>(.c .bool (decide (a>b)),none)
 |.geq=>(.c .bool (decide (a>=b)),none)
def ade:Nat->DV X->DV X->J Bool
 | 0,.c (.int j) a,.c (.int k) b=>if j=k then some (iN a==iN b)else none
 | 1,.c .bool a,.c .bool b=>some (bN a==bN b)
 | 2,.c .str a,.c .str b=>some (a.toList==b.toList)
 |_,_,_=>none
def IV:Y Nat->Y (DV X)->Y (DV X)->J Bool
 |[],[],[]=>some true
 |k::ks,x::xs,y::ys=>(ade k x y).bind λa=>(IV ks xs ys).bind λb=>some (a&&b)
 |_,_,_=>none
def S4:DV X->J (List (DV X))
 |.agg cs=>some cs
 |.c (.st i) y=>some (wE (.st i) y)
 |_=>none
def aqy(op:BinOp)(t:E)(x y:DV X)(k:KK X A):J A:=
 match x,y with
 |.c (.int kd) a,.c (.int yk) b=>if kd=yk\/op=.shl\/op=.shr then match (IU op kd a b:DV X×Option Bool).2 with
  |none=>k (IU op kd a b).1 [] [] []
  |some g=>bif g then k (IU op kd a b).1 [] [] []else none
  else none
 |.c .str a,.c .str b=>match op with
  |.eql=>k (.c .bool (a.toList==b.toList)) [] [] []
  |.neq=>k (.c .bool (!(a.toList==b.toList))) [] [] []
  |.lss=>k (.c .bool (Xe a b)) [] [] []
  |.gtr=>k (.c .bool (!(Xe a b || a.toList==b.toList))) [] [] []
  |.add=>bif Xf a b then k (.c .str (a++b)) [] [] []else none
  |_=>none
 |.c .bool a,.c .bool b=>(T t).bind λti=>match ti.k,op with
  |.bool,.eql=>k (.c .bool (bN a==bN b)) [] [] []
  |.bool,.neq=>k (.c .bool (!(bN a==bN b))) [] [] []
  |_,_=>none
 |x,y=>(S4 x).bind λxs=>(S4 y).bind λys=>(T t).bind λti=>if ti.cmp=[]then none else(IV ti.cmp xs ys).bind λb=>match op with
  |.eql=>k (.c .bool b) [] [] []
  |.neq=>k (.c .bool (!b)) [] [] []
  |_=>none
def W4(op:UnOp)(x:DV X)(k:KK X A):J A:=
 match op,x with
 |.not,.c .bool b=>k (.c .bool (!b)) [] [] []
 |.neg,.c (.int kd) n=>k (.c (.int kd) (kd.wrap (0-iN n))) [] [] []
 |_,_=>none
def Km(mx:Bool)(kd:IntKind):Int->Y (DV X)->J Int
 |a,[]=>some a
 |a,.c (.int k') b::r=>if k'=kd then Km mx kd (if mx then max a b else min a b) r else none
 |_,_=>none
def Re(mx:Bool)(args:Y (DV X))(k:KK X A):J A:=
 match args with
 |.c (.int kd) a::r=>(Km mx kd a r).bind λn=>k (.c (.int kd) n) [] [] []
 |_=>none
def aqz(t:E)(x:DV X)(k:KK X A):J A:=
 (T t).bind λti=>match ti.k,x with
 |.slice _,.c (.sl _) l=>k (.c (.int .i64) (l.length:Int)) [] [] []
 |.slice _,.own _ _ len=>k (.c (.int .i64) (len:Int)) [] [] []
 |.slice _,.oz _ len=>k (.c (.int .i64) (len:Int)) [] [] []
 |.slice _,.nil=>k (.c (.int .i64) (0:Int)) [] [] []
 |.str,.c .str s=>k (.c (.int .i64) (s.size:Int)) [] [] []
 |_,_=>none
def IT(place:Nat->J (Nat×Nat)):Y (DV X)->Y (Nat×DV X)->J (List (DV X))
 |cells,[]=>some cells
 |cells,(j,x)::ae=>(place j).bind λp=>(cellsD x).bind λcs=>
  if cs.length=p.2/\p.1+cs.length<=cells.length then IT place (O2 cells p.1 cs) ae else none
def ahW(t:E)(parts:Y (Nat×DV X))(k:KK X A):J A:=
 (T t).bind λti=>match ti.k with
 |.struct fs=>if fs.all (λ p=>(T p.2).isSome)then
  (IT (λ j=>(fs[j]?).bind λp=>(T p.2).bind λui=>some (p.1,ui.size)) (ti.zero.map yl) parts).bind λcells=>k (.agg cells) [] [] []else none
 |.arr _ e=>(T e).bind λei=>(IT (λ j=>some (j*ei.size,ei.size)) (ti.zero.map yl) parts).bind λcells=>k (.agg cells) [] [] []
 |_=>none
def OS(c:CT X.ι):Nat->Y (Nat×DV X)->J (List (CT.T X.toSE c))
 |_,[]=>some []
 |n,(j,x)::r=>if j=n then(dat x c).bind λy=>(OS c (n+1) r).bind λl=>some (y::l)else none
def IW(i:Nat)(t:E)(len:Nat)(parts:Y (Nat×DV X))(k:KK X A):J A:=
 (T t).bind λti=>match ti.k with
 |.slice e=>(T e).bind λei=>(code e).bind λc=>if ei.size=0\/len*ei.size>2 ^ 24\/CT.sz X c≠ei.size\/parts.length≠len then none else
  (OS c 0 parts).bind λl=>k (.own (cD i) 0 len) [(cD i,some (.eK c l))] [] []
 |_=>none
def ahX(i:Nat)(e:E)(k:KK X A):J A:=
 (T e).bind λti=>k (.ptr (cD i) 0 0) [(cD i,some (.cells ti.size [ti.zero.map yl]))] [] []
def aqA(i:Nat)(x:DV X)(k:KK X A):J A:=
 (cellsD x).bind λcs=>k (.ptr (cD i) 0 0) [(cD i,some (.cells cs.length [cs]))] [] []
def C6(d:Int):J (DV X)->J Int
 |none=>some d
 |some (.c (.int _) n)=>some n
 |_=>none
def ahY(t:E)(x:DV X)(lo hi:J (DV X))(get:Nat->J (ci X))(k:KK X A):J A:=
 (T t).bind λti=>match ti.k with
 |.slice e=>(T e).bind λei=>match x with
  |.own kk aa len=>(get kk).bind λo=>if (bL o).sz=ei.size then(C6 0 lo).bind λl=>(C6 len hi).bind λh=>
   bif Cc l h len then k (.own kk (aa+l.toNat) (h.toNat-l.toNat)) [] [kk] []else none else none
  |.c (.sl c) xs=>if CT.sz X c=ei.size then(C6 0 lo).bind λl=>(C6 xs.length hi).bind λh=>
   bif Cc l h xs.length then k (.c (.sl c) (sub xs l.toNat (h.toNat-l.toNat))) [] [] []else none else none
  |_=>none
 |_=>none
def aqB(y:DV X)(c:CT X.ι)(get:Nat->J (ci X)):J (Nat×List (CT.T X.toSE c)×List Nat):=
 match y with
 |.own kk aa len=>(get kk).bind λo=>match o with
  |.eK b l=>(lG (.sl b) (.sl c) l).bind λl=>some (len,sub l aa len,[kk])
  |_=>none
 |.c b l=>(lG b (.sl c) l).bind λ(l:List (CT.T X.toSE c))=>some (l.length,l,[])
 |_=>none
def Xi{α:Type}:Nat->Y α->Y α
 | 0,l=>l
 |n+1,l=>l.drop (n+1)
def adf(i:Nat)(t:E)(x y:DV X)(get:Nat->J (ci X))(k:KK X A):J A:=
 (T t).bind λti=>match ti.k with
 |.slice e=>(T e).bind λei=>(code e).bind λc=>if CT.sz X c=ei.size then(aqB y c get).bind λs=>match x with
  |.own kk aa len=>(get kk).bind λo=>match o with
   |.eK b l=>(lG (.sl b) (.sl c) l).bind λ(l:List (CT.T X.toSE c))=>bif bF (Xi aa l).length len s.2.1.length s.1 ei.bytes then gU (Xi aa l++s.2.1) λr=>k (.own (cD i) 0 r.length) [(cD i,some (.eK c r)),(kk,none)] (kk::s.2.2) [kk]else none
   |_=>none
  |.nil=>bif bF 0 0 s.2.1.length s.1 ei.bytes then gU s.2.1 λr=>k (.own (cD i) 0 r.length) [(cD i,some (.eK c r))] s.2.2 []else none
  |_=>none
  else none
 |_=>none
def Xj(i:Nat)(b:Builtin)(args:Y (DV X))(ej:Y TypeId)(get:Nat->J (ci X))(k:KK X A):J A:=
 match b,args,ej with
 |.len,[x],[t]=>aqz T t x k
 |.max,args,_=>Re true args k
 |.min,args,_=>Re false args k
 |.append,[x,y],[t,u]=>if t=u then adf T code i t x y get k else none
 |_,_,_=>none
def Rd(i:Nat)(o:Op)(ρ:Operand->DV X)(get:Nat->J (ci X))(k:KK X A):J A:=
 match o with
 |.move x=>k (ρ x) [] [] []
 |.assign x=>k (ρ x) [] [] []
 |.pick c a b=>match ρ c with|.c .bool t=>k (amR t (ρ a) (ρ b)) [] [] []|_=>none
 |.alloc e=>ahX T i e k
 |.box _ x=>aqA i (ρ x) k
 |.build t parts=>ahW T t (parts.toList.map λp=>(p.1,ρ p.2)) k
 |.buildSlice t len parts=>IW T code i t len (parts.toList.map λp=>(p.1,ρ p.2)) k
 |.load t a=>X2 T t (ρ a) get k
 |.store t a x=>W6 T t (ρ a) (ρ x) get k
 |.binOp op t x y _=>aqy T op t (ρ x) (ρ y) k
 |.unOp op _ x=>W4 op (ρ x) k
 |.makeFunc (.func f) first caps=>k (.fn f (first.toList.map ρ) (caps.toList.map ρ)) [] [] []
 |.slice t x lo hi none=>ahY T t (ρ x) (lo.map ρ) (hi.map ρ) get k
 |.fieldAddr t x f=>Mv T t (ρ x) f k
 |.field t x f=>ahV T t (ρ x) f k
 |.indexAddr t x j=>Mw T t (ρ x) (ρ j) get k
 |.extract x j=>Xh (ρ x) j k
 |.call { callee:=.builtin b,args:=args,argTypes:=ej }=>Xj T code i b (args.toList.map ρ) ej.toList get k
 |_=>none
end
section
variable {X:SX} {A:Type} {T:eM} {code:TypeId->Option (CT X.ι)} {get:Nat->Option (ci X)} {k:KK X A} {r:A} {i:Nat}
def fK(get:Nat->J (ci X)):Nat->J aN:=λj=>(get j).map bL
theorem fA{rd:Y Nat}{j:Nat}{o:ci X}(hj:j∈rd)(h:get j=some o):dN rd (fK get) j=some (bL o):=by simp[dN,hj,fK,h]
theorem lZ(l:Y (DV X)):(bH l).length=l.length:=by simp[pz]
theorem kN(l:Y (DV X))(a b:Nat):bH ((l.drop a).take b)=((bH l).drop a).take b:=by simp[pz]
theorem Oc{α:Type}{l:Y α}{n:Int}{x:α}(h:bx l n=some x):0<=n/\l[n.toNat]? =some x:=by
 unfold bx at h
 all_goals grind
theorem akW(t:Bool)(x y:DV X):den (amR t x y)=P3 t (den x) (den y):=by
 rw[Wy];have base:∀x y:DV X,den (bif t then x else y)=if t=true then den x else den y:=λx y=>by cases t<;>rfl
 unfold amR;split;split;rename_i h _;subst h;cases t<;>rfl;exact base _ _;exact base _ _
theorem Dv{agg:Bool}{size:Nat}{cs:Y (DV X)}{v:DV X}(h:IQ agg size cs=some v):part' agg size (bH cs)=some (den v):=by
 unfold IQ at h;unfold part';rw[lZ];split at h;rename_i hl;rw[aP hl];cases agg with
 |true=>simp at h |-;subst h;rfl
 |false=>
  simp at h |-
  match cs,h with
  |[x],h=>
   simp only at h;split at h;rename_i hx;cases h;simp only[bH];rw[aP (Tv hx)];cases h
  |[],h|_::_::_,h=>cases h
 cases h
theorem QM{agg:Bool}{size aa:Nat}{c:CT X.ι}{y:CT.T X.toSE c}{v:DV X}(h:IQ agg size (((wE c y).drop aa).take size)=some v):part' agg size ((((CT.row X.toSE c y).drop aa).take size).map AV.t)=some (den v):=by have:=Dv h;rw[kN,qD]at this;rw[<- this,map_take,map_drop]
theorem abF{agg:Bool}{size aa:Nat}{c:CT X.ι}{y:CT.T X.toSE c}{v:DV X}(h:T2 agg size c y aa=some v):part' agg size ((((CT.row X.toSE c y).drop aa).take size).map AV.t)=some (den v):=by
 cases c
 case st j=>
  simp[T2]at h;split at h;rename_i hh;obtain⟨rfl,rfl,rfl⟩:=hh;cases h;have hl:(CT.row X.toSE (.st j) y).length=(X.ej j).length:=IL (.st j) y;rw[List.drop_zero,take_of_length_le (by omega)];unfold part';rw[aP (by simpa using hl)];rfl;exact QM h
 all_goals exact QM h
theorem akX{t:E}{x:DV X}(h:X2 T t x get k=some r):∃cP rd dv out,LK T t (den x) cP (dN rd (fK get))=some out/\iZ out.obs/\out.v=den dv/\out.upd=[]/\k dv [] rd []=some r:=by unfold X2 at h;unfold LK;rw[ah]at h;obtain⟨ti,h1,h⟩:=h;simp only[h1,ai];split at h;rename_i kk row aa;rw[ah]at h;obtain⟨o,h2,h⟩:=h;split at h;rw[ah]at h;obtain⟨rw',h3,h⟩:=h;rw[ah]at h;obtain⟨v,h4,h⟩:=h;refine⟨.none,[kk],v,⟨den v,[],[]⟩,?_,trivial,rfl,rfl,h⟩;have h5:=Dv h4;rw[kN]at h5;simp[den,fA (List.mem_singleton_self kk) h2,bL,h3,h5,pv];cases h;rename_i kk n aa;rw[ah]at h;obtain⟨o,h2,h⟩:=h;split at h;rename_i c l;rw[ah]at h;obtain⟨y,h3,h⟩:=h;rw[ah]at h;obtain⟨v,h4,h⟩:=h;have⟨_,h6⟩:=Oc h3;refine⟨.row ((CT.row X.toSE c y).map AV.t),[kk],v,⟨den v,[],[(aJ (l.map (CT.row X.toSE c)))[n.toNat]? =some ((CT.row X.toSE c y).map AV.t)]⟩,?_,?_,rfl,rfl,h⟩;have h5:=abF h4;rw[map_take,map_drop]at h5;simp[den,fA (List.mem_singleton_self kk) h2,bL,h5,oy];simp[iZ,aJ,h6];cases h;rename_i c y aa;have⟨v,h4,h⟩:=ah.1 h;refine⟨.none,[],v,⟨den v,[],[]⟩,?_,trivial,rfl,rfl,h⟩;simp only[den,abF h4,ai,pv];cases h
theorem Xk(a:Y (DV X))(aa:Nat)(cs:Y (DV X)):bH (O2 a aa cs)=put' (bH a) aa (bH cs):=by simp[O2,put',pz]
theorem pX{a c:CT X.ι}{x:CT.T X.toSE a}{y:CT.T X.toSE c}(h:lG a c x=some y):den (.c a x)=den (.c c y)/\CT.row X.toSE a x=CT.row X.toSE c y:=by
 obtain⟨e,h⟩:=tH h
 grind
theorem VC{c:CT X.ι}(hc:c.one=true)(x:CT.T X.toSE c):[(CT.tv X.toSE c x).av]=(CT.row X.toSE c x).map AV.t:=by obtain⟨t,h1,h2⟩:=row_one hc x;rw[h1,h2];rfl
theorem aqe{c:CT X.ι}(x:CT.T X.toSE c):wk (CT.tv X.toSE c x).av=(CT.tv X.toSE c x).av:=by cases c<;>rfl
theorem xI{d:DV X}{c:CT X.ι}{x:CT.T X.toSE c}(h:Mt d c=some x):wk (den d)=(CT.tv X.toSE c x).av:=by unfold Mt at h;split at h;rw[(pX h).1];exact aqe x;cases h;rfl;cases h;rfl;cases h
theorem ajS{d:DV X}{c:CT X.ι}{x:CT.T X.toSE c}(hc:c.one=true)(h:Mt d c=some x):wZ d=true:=by
 cases d
 case c a y=>
  obtain⟨e,_⟩:=tH (show lG a c y=some x by cases c<;>exact h);subst e;cases a<;>first|rfl|simp[CT.one]at hc
 case nil=>rfl
 all_goals cases c<;>cases h
theorem zC:∀{ds:Y (DV X)}{l:Y (CT X.ι)}{h:HL X.toSE l},EW ds l=some h->l.all CT.one=true->(bH ds).map wk=(HL.row X.toSE l h).map AV.t/\ds.all wZ=true
 |[],[],h,_,_=>⟨rfl,rfl⟩
 |d::ds,c::l,h,hr,ha=>by simp[EW]at hr;have⟨x,h1,hr⟩:=ah.1 hr;have⟨g,h2,hr⟩:=ah.1 hr;cases hr;simp only[all_cons,aT]at ha |-;have⟨i1,i2⟩:=zC h2 ha.2;simp[bH,HL.row,i1,xI h1,i2,ajS ha.1 h1];simp[<- VC ha.1 x]
 |[],_::_,_,hr,_|_::_,[],_,hr,_=>by simp[EW]at hr
theorem Xl(j:X.ι)(h:HL X.toSE (X.ej j)):CT.row X.toSE (.st j) (X.make j h)=HL.row X.toSE (X.ej j) h:=X.ij j h
theorem ao6{c:CT X.ι}(hc:c.one=true){ds:Y (DV X)}{x:CT.T X.toSE c}(h:mk1 c ds=some x):(bH ds).map wk=(CT.row X.toSE c x).map AV.t:=by
 match ds,h with
 |[d],h=>
  rw[<- VC hc x];simp[bH,xI h]
 |[],h|_::_::_,h=>cases h
theorem zk{c:CT X.ι}{ds:Y (DV X)}{x:CT.T X.toSE c}(h:Ob c ds=some x):(bH ds).map wk=(CT.row X.toSE c x).map AV.t:=by
 cases c
 case st j=>
  simp[Ob]at h;have⟨g,h1,h⟩:=ah.1 h;cases h;rw[(zC h1 (X.flat j)).1,Xl]
 all_goals exact ao6 rfl h
theorem ahZ{d:DV X}{c:CT X.ι}(hc:c.one=true){x:CT.T X.toSE c}(h:Mt d c=some x):∃cs,cellsOf (den d)=some cs/\cs.map wk=(CT.row X.toSE c x).map AV.t:=by
 have hk:=ajS hc h;have hd:=xI h;have he:cellsOf (den d)=some [den d]:=by
  have:=EU (x:=d) (cs:=[d]) (by
   cases d
   case c t y=>cases t<;>first|rfl|simp[wZ]at hk
   all_goals first|rfl|simp[wZ]at hk)
  simpa[bH]using this
 exact⟨_,he,by rw[<- VC hc x];simp[hd]⟩
theorem akY{d:DV X}{c:CT X.ι}{x:CT.T X.toSE c}(h:dat d c=some x):∃cs,cellsOf (den d)=some cs/\cs.map wk=(CT.row X.toSE c x).map AV.t:=by
 cases c
 case st j=>
  replace h:Hp d j=some x:=h
  cases d
  case agg cs=>
   simp[Hp]at h;rw[ah]at h;obtain⟨g,h1,h⟩:=h;cases h;have⟨i1,i2⟩:=zC h1 (X.flat j);refine⟨bH cs,?_,by rw[i1,Xl]⟩;simp only[den,cellsOf];rw[aP (ajP i2)]
  case c a y=>
   rw[(pX h).1];refine⟨(CT.row X.toSE (.st j) x).map AV.t,?_,?_⟩;show cellsOf (.agg _)=_;simp only[cellsOf];rw[aP];rfl;rw[List.all_map,all_eq_true];exact λ_ _=>rfl;rw[map_map];rfl
  all_goals cases h
 all_goals exact ahZ rfl h
theorem akZ{t:E}{x y:DV X}(h:W6 T t x y get k=some r):∃cP kk u out,Ws T t (den x) (den y) cP (dN [kk] (fK get))=some out/\iZ out.obs/\out.v=.undef/\out.upd=ja [(kk,u)]/\k .undef [(kk,u)] [kk] [kk]=some r:=by
 unfold W6 at h;unfold Ws;rw[ah]at h;obtain⟨ti,h1,h⟩:=h;rw[ah]at h;obtain⟨cs,h2,h⟩:=h;simp[h1,EU h2];split at h;rename_i hl;have hdl:(bH cs).length=ti.size:=by rw[lZ];exact hl
 simp[hdl];split at h;rename_i kk row aa;rw[ah]at h;obtain⟨o,h3,h⟩:=h;split at h;rw[ah]at h;obtain⟨rw',h4,h⟩:=h;split at h;rename_i hle;refine⟨.none,kk,_,⟨.undef,_,[]⟩,?_,trivial,rfl,rfl,h⟩;simp only[den,fA (List.mem_singleton_self kk) h3,ai,bL,List.getElem?_map,h4,Option.map_some,lZ];rw[aP (by rw[<- hl];exact hle)];simp[Xk];cases h;cases h;rename_i kk n aa;rw[ah]at h;obtain⟨o,h3,h⟩:=h;split at h;rename_i c l;rw[ah]at h;obtain⟨z,h4,h⟩:=h;split at h;rename_i hle;have⟨z',h5,h⟩:=ah.1 h;have⟨_,h6⟩:=Oc h4;refine⟨.set ((CT.row X.toSE c z).map AV.t) (aJ ((l.set n.toNat z').map (CT.row X.toSE c))),kk,_,⟨.undef,_,[(aJ (l.map (CT.row X.toSE c)))[n.toNat]? =some ((CT.row X.toSE c z).map AV.t)/\aJ ((l.set n.toNat z').map (CT.row X.toSE c))=dW ((aJ (l.map (CT.row X.toSE c))).set n.toNat (put' ((CT.row X.toSE c z).map AV.t) aa (bH cs)))]⟩,?_,?_,rfl,rfl,h⟩;simp only[den,fA (List.mem_singleton_self kk) h3,ai,bL];rw[aP (by rw[length_map,IL,<- hl];exact hle)];simp[bL];refine⟨by simp[aJ,h6],?_⟩;have h7:=zk h5;rw[Xk,qD]at h7;have hid:dW (aJ (l.map (CT.row X.toSE c)))=aJ (l.map (CT.row X.toSE c)):=by simp[dW,aJ,wk]
 simp[dW,h7];have:(aJ (l.map (CT.row X.toSE c))).map (List.map wk)=aJ (l.map (CT.row X.toSE c)):=hid;rw[this];simp[aJ];cases h;cases h;cases h;cases h
theorem QN{t:E}{x:DV X}{f:Nat}(h:Mv T t x f k=some r):∃dv out,zw T t (den x) f=some out/\iZ out.obs/\out.v=den dv/\out.upd=[]/\k dv [] [] []=some r:=by unfold Mv at h;unfold zw;rw[ah]at h;obtain⟨⟨d,u⟩,h1,h⟩:=h;simp[h1];split at h;exact⟨_,_,rfl,trivial,rfl,rfl,h⟩;exact⟨_,_,rfl,trivial,rfl,rfl,h⟩;exact⟨_,_,rfl,trivial,rfl,rfl,h⟩;cases h
theorem adh{t:E}{x:DV X}{f:Nat}(h:ahV T t x f k=some r):∃dv out,Wt T t (den x) f=some out/\iZ out.obs/\out.v=den dv/\out.upd=[]/\k dv [] [] []=some r:=by unfold ahV at h;unfold Wt;rw[ah]at h;obtain⟨⟨d,u⟩,h1,h⟩:=h;simp[h1];split at h;rw[ah]at h;obtain⟨v,h2,h⟩:=h;have h3:=Dv h2;rw[kN]at h3;exact⟨v,⟨den v,[],[]⟩,by simp[den,h3,pv],trivial,rfl,rfl,h⟩;rename_i j y;have⟨v,h2,h⟩:=ah.1 h;have h3:=QM h2;rw[map_take,map_drop]at h3;refine⟨v,⟨den v,[],[]⟩,?_,trivial,rfl,rfl,h⟩;show(part' u.agg u.size (List.take u.size (List.drop d ((CT.row X.toSE (.st j) y).map AV.t)))).bind pv=_;rw[h3];rfl;cases h
theorem dZ{α:Type}{b:Bool}{x:J α}{r:α}(h:(bif b then x else none)=some r):b=true/\x=some r:=by grind
theorem Xm{n:Int}{len:Nat}(h:cV n len=true):0<=n/\n.toNat<len:=by simp[cV]at h;omega
theorem qV{A:Type}:∀{cs:Y Bool}{k:J A}{r:A},Xg cs k=some r->(∀ c∈cs,c=true)/\k=some r
 |[],_,_,h=>⟨by simp,h⟩
 |c::cs,k,r,h=>by have⟨h1,h2⟩:=dZ h;have⟨h3,h4⟩:=qV h2;exact⟨λ x hx=>(aI.1 hx).elim (λ e=>e ▸ h1) (h3 x),h4⟩
theorem QO{t:E}{x j:DV X}(h:Mw T t x j get k=some r):∃cP rd dv out,ny T t (den x) (den j) cP (dN rd (fK get))=some out/\iZ out.obs/\out.v=den dv/\out.upd=[]/\k dv [] rd []=some r:=by unfold Mw at h;unfold ny;rw[ah]at h;obtain⟨ti,h1,h⟩:=h;simp[h1];split at h;rename_i e kd n hk;rw[ah]at h;obtain⟨ei,h2,h⟩:=h;simp[hk,den,CT.tv,TV.av,h2];split at h;rename_i c l;split at h;rename_i hs;rw[ah]at h;obtain⟨y,h3,h⟩:=h;have⟨h4,h5⟩:=Oc h3;refine⟨.ua (CT.row X.toSE c y),[],_,⟨.eW (CT.row X.toSE c y) 0,[],[0<=n/\(l.map (CT.row X.toSE c))[n.toNat]? =some (CT.row X.toSE c y)]⟩,?_,?_,rfl,rfl,h⟩;simp only[den,CT.tv,TV.av];rw[aP (by rw[IL];exact hs)];rfl;exact⟨h4,by simp[h5]⟩;cases h;rename_i kk aa len;rw[ah]at h;obtain⟨o,h3,h⟩:=h;split at h;rename_i c l;split at h;rename_i hs;have⟨h4,h⟩:=dZ h;have⟨h5,h6⟩:=Xm h4;refine⟨.none,[kk],_,⟨.ptr kk (aa+n.toNat) 0,[],[0<=n/\n.toNat<len]⟩,?_,⟨h5,h6⟩,?_,rfl,h⟩;simp only[den,fA (List.mem_singleton_self kk) h3,ai,bL];rw[aP hs];rfl;simp[iN];congr 1;have:(0:Int)<=n:=h5;omega;cases h;rename_i sz rows;split at h;rename_i hs;have⟨h4,h⟩:=dZ h;have⟨h5,h6⟩:=Xm h4;refine⟨.none,[kk],_,⟨.ptr kk (aa+n.toNat) 0,[],[0<=n/\n.toNat<len]⟩,?_,⟨h5,h6⟩,rfl,rfl,h⟩;simp only[den,fA (List.mem_singleton_self kk) h3,ai,bL];rw[aP hs];rfl;cases h;cases h;cases h;rename_i m e kd n hk;have⟨ei,h2,h⟩:=ah.1 h;simp[hk,den,CT.tv,TV.av,h2];have⟨h4,h⟩:=dZ h;have⟨h5,h6⟩:=Xm h4;split at h;exact⟨.none,[],_,_,rfl,⟨h5,h6⟩,rfl,rfl,h⟩;exact⟨.none,[],_,_,rfl,⟨h5,h6⟩,rfl,rfl,h⟩;exact⟨.none,[],_,_,rfl,⟨h5,h6⟩,rfl,rfl,h⟩;cases h;cases h
theorem Xn{x:DV X}{j:Nat}(h:Xh x j k=some r):∃dv out,Iy (den x) j=some out/\iZ out.obs/\out.v=den dv/\out.upd=[]/\k dv [] [] []=some r:=by unfold Xh at h;split at h;have⟨v,h2,h⟩:=ah.1 h;refine⟨v,⟨den v,[],[]⟩,?_,trivial,rfl,rfl,h⟩;simp[Iy,den,pz,h2,pv];cases h
end
section
variable {X:SX} {A:Type} {T:eM} {code:TypeId->Option (CT X.ι)} {get:Nat->Option (ci X)} {k:KK X A} {r:A} {i:Nat}
theorem adi{op:BinOp}{kd:IntKind}{a b:Int}:∃v obs,Wq op kd a b=some (v,obs)/\den (IU (X:=X) op kd a b).1=.t (.sc v)/\(∀ g,(IU (X:=X) op kd a b).2=some g->g=true->iZ obs)/\((IU (X:=X) op kd a b).2=none->iZ obs):=by
 cases op<;>refine⟨_,_,rfl,rfl,λg hg ht=>?_,λhn=>?_⟩<;>simp[IU]at* <;>try trivial
 all_goals subst hg;simp_all [iZ]
theorem ae6{n:Nat}{x y:DV X}{b:Bool}(h:ade n x y=some b):Iw n (den x) (den y)=some b:=by unfold ade at h;split at h;split at h;cases h;simp only[den,CT.tv,TV.av,Iw];rw[aP ‹_›];cases h;exact h;exact h;cases h
theorem Od:∀{ks:Y Nat}{xs ys:Y (DV X)}{b:Bool},IV ks xs ys=some b->jh ks (bH xs) (bH ys)=some b
 |[],[],[],b,h=>h
 |k::ks,x::xs,y::ys,b,h=>by simp[IV]at h;rw[ah]at h;obtain⟨p,h1,h⟩:=h;rw[ah]at h;obtain⟨q,h2,h⟩:=h;simp[bH,jh,ae6 h1,Od h2,h]
 |[],_::_,_,_,h|[],[],_::_,_,h|_::_,[],_,_,h|_::_,_::_,[],_,h=>by simp[IV]at h
theorem ae7{x:DV X}{xs:Y (DV X)}(h:S4 x=some xs):den x=.agg (bH xs):=by unfold S4 at h;split at h;cases h;rfl;cases h;rw[qD];rfl;cases h
theorem ah0{op:BinOp}{t:E}{x y:DV X}(h:aqy T op t x y k=some r):∃dv out,zc T op t (den x) (den y)=some out/\iZ out.obs/\out.v=den dv/\out.upd=[]/\k dv [] [] []=some r:=by
 unfold aqy at h;split at h;rename_i kd a yk b;split at h;rename_i hk;have⟨v,obs,h1,h2,h3,h4⟩:=adi (X:=X) (op:=op) (kd:=kd) (a:=a) (b:=b);have fin:iZ obs->k (IU op kd a b).1 [] [] []=some r->∃dv out,zc T op t (den (.c (.int kd) a:DV X)) (den (.c (.int yk) b:DV X))=some out/\iZ out.obs/\out.v=den dv/\out.upd=[]/\k dv [] [] []=some r:=by intro ho hkk;refine⟨_,⟨.t (.sc v),[],obs⟩,?_,ho,h2.symm,rfl,hkk⟩;simp only[den,CT.tv,TV.av,zc];rw[aP hk,h1];rfl
 split at h;rename_i hn;exact fin (h4 hn) h;rename_i g hg;have⟨hgt,h⟩:=dZ h;exact fin (h3 g hg hgt) h;cases h;split at h;exact⟨_,_,rfl,trivial,rfl,rfl,h⟩;exact⟨_,_,rfl,trivial,rfl,rfl,h⟩;exact⟨_,_,rfl,trivial,rfl,rfl,h⟩;exact⟨_,_,rfl,trivial,rfl,rfl,h⟩;have⟨hc,h⟩:=dZ h;exact⟨_,_,rfl,show _<=maxLen from of_decide_eq_true hc,rfl,rfl,h⟩;cases h;rw[ah]at h;obtain⟨ti,h1,h⟩:=h;split at h;rename_i hk;refine⟨_,⟨.t (.sc (.bool _)),[],[]⟩,?_,trivial,rfl,rfl,h⟩;simp[zc,h1,hk];rfl;rename_i hk;refine⟨_,⟨.t (.sc (.bool _)),[],[]⟩,?_,trivial,rfl,rfl,h⟩;simp[zc,h1,hk];rfl;cases h;rw[ah]at h;obtain⟨xs,h1,h⟩:=h;rw[ah]at h;obtain⟨ys,h2,h⟩:=h;rw[ah]at h;obtain⟨ti,h3,h⟩:=h;split at h;cases h;rename_i hc;have⟨b,h4,h⟩:=ah.1 h;have h5:=Od h4;rw[ae7 h1,ae7 h2];split at h;refine⟨_,⟨.t (.sc (.bool b)),[],[]⟩,?_,trivial,rfl,rfl,h⟩;simp only[zc,h3,ai];rw[aM hc,h5];rfl;refine⟨_,⟨.t (.sc (.bool (!b))),[],[]⟩,?_,trivial,rfl,rfl,h⟩;simp only[zc,h3,ai];rw[aM hc,h5];rfl;cases h
theorem ak0{op:UnOp}{x:DV X}(h:W4 op x k=some r):∃dv out,Wk op (den x)=some out/\iZ out.obs/\out.v=den dv/\out.upd=[]/\k dv [] [] []=some r:=by unfold W4 at h;split at h;exact⟨_,_,rfl,trivial,rfl,rfl,h⟩;exact⟨_,_,rfl,trivial,rfl,rfl,h⟩;cases h
theorem Tw(mx:Bool)(kd:IntKind):∀(l:Y (DV X))(a n:Int),Km mx kd a l=some n->EL mx kd a (bH l)=some n
 |[],a,n,h=>h
 |x::l,a,n,h=>by
  cases x
  case c t y=>
   cases t
   case int k'=>
    simp only[Km]at h;simp only[bH,den,CT.tv,TV.av,EL];split at h;rename_i hk;rw[aP hk];exact Tw mx kd l _ _ h;cases h
   all_goals simp[Km]at h
  all_goals simp[Km]at h
theorem abG{mx:Bool}{args:Y (DV X)}(h:Re mx args k=some r):∃dv out,I3 mx (bH args)=some out/\iZ out.obs/\out.v=den dv/\out.upd=[]/\k dv [] [] []=some r:=by unfold Re at h;split at h;rename_i kd a l;rw[ah]at h;obtain⟨n,h1,h⟩:=h;refine⟨_,⟨.t (.sc (.int kd n)),[],[]⟩,?_,trivial,rfl,rfl,h⟩;simp[bH,den,CT.tv,TV.av,I3];have:=Tw mx kd l a n h1;simp[this];rfl;cases h
theorem ah1{t:E}{x:DV X}(h:aqz T t x k=some r):∃cP dv out,C5 T t (den x) cP=some out/\iZ out.obs/\out.v=den dv/\out.upd=[]/\k dv [] [] []=some r:=by unfold aqz at h;unfold C5;rw[ah]at h;obtain⟨ti,h1,h⟩:=h;simp[h1];split at h;rename_i e c l hk;simp[hk];exact⟨.num (l.length:Int),_,⟨.t (.sc (.int .i64 (l.length:Int))),[],[(l.length:Int)=((l.map (CT.row X.toSE c)).length:Int)]⟩,rfl,by simp[iZ],rfl,rfl,h⟩;rename_i hk;simp[hk];exact⟨.none,_,_,rfl,trivial,rfl,rfl,h⟩;rename_i hk;simp[hk];exact⟨.none,_,_,rfl,trivial,rfl,rfl,h⟩;rename_i hk;simp[hk];exact⟨.none,_,_,rfl,trivial,rfl,rfl,h⟩;rename_i hk;simp[hk];exact⟨.none,_,_,rfl,trivial,rfl,rfl,h⟩;cases h
theorem QR(place:Nat->J (Nat×Nat)):∀(parts:Y (Nat×DV X))(cells out:Y (DV X)),IT place cells parts=some out->Gt place (bH cells) (parts.map λp=>(p.1,den p.2))=some (bH out)
 |[],cells,out,h=>by simp[IT]at h;subst h;rfl
 |(j,x)::ae,cells,out,h=>by simp[IT]at h;rw[ah]at h;obtain⟨⟨aa,size⟩,h1,h⟩:=h;rw[ah]at h;obtain⟨cs,h2,h⟩:=h;split at h;rename_i hl;simp only[bq,Gt,h1,EU h2,ai,lZ];rw[aP hl,<- Xk];exact QR place ae _ _ h;cases h
theorem adj{t:E}{parts:Y (Nat×DV X)}(h:ahW T t parts k=some r):∃dv out,Wu T t (parts.map λp=>(p.1,den p.2))=some out/\iZ out.obs/\out.v=den dv/\out.upd=[]/\k dv [] [] []=some r:=by unfold ahW at h;unfold Wu;rw[ah]at h;obtain⟨ti,h1,h⟩:=h;simp[h1];split at h;rename_i fs hk;split at h;rename_i ha;rw[ah]at h;obtain⟨cells,h2,h⟩:=h;have h3:=QR _ _ _ _ h2;rw[Du]at h3;refine⟨_,⟨.agg (bH cells),[],[]⟩,?_,trivial,rfl,rfl,h⟩;simp only[hk];rw[aP ha,h3];rfl;cases h;rename_i m e hk;rw[ah]at h;obtain⟨ei,h2,h⟩:=h;rw[ah]at h;obtain⟨cells,h3,h⟩:=h;have h4:=QR _ _ _ _ h3;rw[Du]at h4;refine⟨_,⟨.agg (bH cells),[],[]⟩,?_,trivial,rfl,rfl,h⟩;simp[hk,h2,h4];rfl;cases h
theorem abH(size:Nat)(c:CT X.ι)(hs:CT.sz X c=size)(z:Y AV):∀(parts:Y (Nat×DV X))(n:Nat)(l:Y (CT.T X.toSE c))(done:Y (List AV)),OS c n parts=some l->done.length=n->
 ∃css:Y (List AV),NH size (done++List.replicate parts.length z) (parts.map λp=>(p.1,den p.2))=some (done++css)/\css.map (λ r=>r.map wk)=aJ (l.map (CT.row X.toSE c))
 |[],n,l,done,h,_=>by simp[OS]at h;subst h;exact⟨[],by simp[NH],rfl⟩
 |(j,x)::ae,n,l,done,h,hd=>by
  simp only[OS]at h;split at h;rename_i hj;subst hj;have⟨y,h1,h⟩:=ah.1 h;have⟨l',h2,h⟩:=ah.1 h;cases h;have⟨cs,g1,g2⟩:=akY h1;have hl:cs.length=size:=by have:=congrArg List.length g2;simp[IL]at this;omega
  obtain⟨css,i1,i2⟩:=abH size c hs z ae (j+1) l' (done++[cs]) h2 (by simp[hd]);refine⟨cs::css,?_,?_⟩;simp only[bq,NH,g1,ai];rw[aP ⟨hl,by simp;omega⟩];have:(done++List.replicate (ae.length+1) z).set j cs=done++[cs]++List.replicate ae.length z:=by rw[List.set_append_right _ _ (by omega),hd];simp[List.replicate_succ]
  simp only[d9,this,i1];simp;simp[i2,g2,aJ];cases h
theorem Oe{t:E}{len:Nat}{parts:Y (Nat×DV X)}(h:IW T code i t len parts k=some r):∃dv u out,xH T i t len (parts.map λp=>(p.1,den p.2))=some out/\iZ out.obs/\out.v=den dv/\out.upd=ja [(cD i,u)]/\k dv [(cD i,u)] [] []=some r:=by unfold IW at h;unfold xH;rw[ah]at h;obtain⟨ti,h1,h⟩:=h;simp[h1];split at h;rename_i e hk;rw[ah]at h;obtain⟨ei,h2,h⟩:=h;rw[ah]at h;obtain⟨c,h3,h⟩:=h;simp only[hk,h2,ai];split at h;cases h;rename_i hno;simp only[not_or,Decidable.not_not]at hno;obtain⟨n1,n2,n3,n4⟩:=hno;have⟨l,h4,h⟩:=ah.1 h;have⟨css,g1,g2⟩:=abH ei.size c n3 (ei.zero.map cv) parts 0 l [] h4 rfl;simp[n4]at g1;refine⟨_,_,⟨.own (cD i) 0 len,[(cD i,some ⟨ei.size,dW css⟩)],[]⟩,?_,trivial,rfl,?_,h⟩;rw[aM (by simp only[not_or];exact⟨n1,n2⟩),g1];rfl;simp[ja,bL,n3];rw[show dW css=aJ (l.map (CT.row X.toSE c))from g2];cases h
theorem adk{e:E}(h:ahX T i e k=some r):∃dv u out,Wv T i e=some out/\iZ out.obs/\out.v=den dv/\out.upd=ja [(cD i,u)]/\k dv [(cD i,u)] [] []=some r:=by unfold ahX at h;unfold Wv;have⟨ti,h1,h⟩:=ah.1 h;exact⟨_,_,⟨_,[(cD i,some ⟨ti.size,[ti.zero.map cv]⟩)],[]⟩,by simp[h1];rfl,trivial,rfl,by simp[ja,bL,Du],h⟩
theorem ah2{x:DV X}(h:aqA i x k=some r):∃dv u out,Pl i (den x)=some out/\iZ out.obs/\out.v=den dv/\out.upd=ja [(cD i,u)]/\k dv [(cD i,u)] [] []=some r:=by unfold aqA at h;unfold Pl;rw[ah]at h;obtain⟨cs,h1,h⟩:=h;exact⟨_,_,⟨_,[(cD i,some ⟨(bH cs).length,[bH cs]⟩)],[]⟩,by simp[EU h1];rfl,trivial,rfl,by simp[ja,bL,lZ],h⟩
theorem Dw{d n:Int}{x:J (DV X)}(h:C6 d x=some n):bnd d (x.map den)=some n:=by unfold C6 at h;split at h;exact h;exact h;cases h
theorem abI{l h:Int}{len:Nat}(hh:Cc l h len=true):0<=l/\l<=h/\h<=(len:Int):=by simpa[Cc,and_assoc]using hh
theorem adl{t:E}{x:DV X}{lo hi:J (DV X)}(h:ahY T t x lo hi get k=some r):∃cP rd dv out,Ww T t (den x) (lo.map den) (hi.map den) cP (dN rd (fK get))=some out/\iZ out.obs/\out.v=den dv/\out.upd=[]/\k dv [] rd []=some r:=by
 unfold ahY at h;unfold Ww;rw[ah]at h;obtain⟨ti,h1,h⟩:=h;simp[h1];split at h;rename_i e hk;rw[ah]at h;obtain⟨ei,h2,h⟩:=h;simp[hk,h2];split at h;rename_i kk aa len;rw[ah]at h;obtain⟨o,h3,h⟩:=h;split at h;rename_i hs;rw[ah]at h;obtain⟨l,h4,h⟩:=h;rw[ah]at h;obtain⟨hh,h5,h⟩:=h;have⟨h6,h⟩:=dZ h;refine⟨.none,[kk],_,⟨.own kk (aa+l.toNat) (hh.toNat-l.toNat),[],[0<=l/\l<=hh/\hh<=(len:Int)]⟩,?_,abI h6,rfl,rfl,h⟩;simp only[den,fA (List.mem_singleton_self kk) h3,ai];rw[aP hs,Dw h4,ai,Dw h5];rfl;cases h;rename_i c xs;split at h;rename_i hs;have⟨l,h4,h⟩:=ah.1 h;have⟨hh,h5,h⟩:=ah.1 h;have⟨h6,h⟩:=dZ h;refine⟨.Do ((sub xs l.toNat (hh.toNat-l.toNat)).map (CT.row X.toSE c)),[],_,⟨.t (.sl ((sub xs l.toNat (hh.toNat-l.toNat)).map (CT.row X.toSE c))),[],[0<=l/\l<=hh/\hh<=((xs.map (CT.row X.toSE c)).length:Int)/\(sub xs l.toNat (hh.toNat-l.toNat)).map (CT.row X.toSE c)=((xs.map (CT.row X.toSE c)).drop l.toNat).take (hh.toNat-l.toNat)/\(∀ q∈xs.map (CT.row X.toSE c),q.length=ei.size)]⟩,?_,?_,rfl,rfl,h⟩;simp only[den,CT.tv,TV.av,Dw h4,ai];have h7:bnd ((xs.map (CT.row X.toSE c)).length:Int) (hi.map den)=some hh:=by have:=Dw h5;simpa using this
 rw[h7];rfl;have⟨a1,a2,a3⟩:=abI h6;refine⟨a1,a2,by simpa using a3,by simp[sub],λq hq=>?_⟩;obtain⟨y,_,rfl⟩:=mem_map.1 hq;rw[IL];exact hs;cases h;cases h;cases h
end
section
variable {X:SX} {A:Type} {T:eM} {code:TypeId->Option (CT X.ι)} {get:Nat->Option (ci X)} {k:KK X A} {r:A} {i:Nat}
theorem jy{b c:CT X.ι}{l:Y (CT.T X.toSE b)}{l':Y (CT.T X.toSE c)}(h:lG (.sl b) (.sl c) l=some l'):CT.sz X b=CT.sz X c/\l.map (CT.row X.toSE b)=l'.map (CT.row X.toSE c):=by
 obtain⟨e,h⟩:=tH h
 grind
theorem ae8{y:DV X}{c:CT X.ι}{n:Nat}{l:Y (CT.T X.toSE c)}{rd:Y Nat}(h:aqB y c get=some (n,l,rd))(hl:l.length=n)(rd':Y Nat)(hrd:∀j∈rd,j∈rd'):
 ∃ob,Wx (CT.sz X c) (den y) (dN rd' (fK get))=some (n,ob,aJ (l.map (CT.row X.toSE c)))/\ob:=by unfold aqB at h;split at h;rename_i kk aa len;rw[ah]at h;obtain⟨o,h1,h⟩:=h;split at h;rw[ah]at h;obtain⟨l1,h2,h⟩:=h;injection h with h;obtain⟨rfl,rfl,rfl⟩:=h;have⟨h3,h4⟩:=jy h2;refine⟨True,?_,trivial⟩;simp only[den,Wx,fA (hrd kk (by simp)) h1,ai,bL];rw[aP h3];simp[h4];simp[aJ,sub];cases h;rename_i b l0;have⟨l1,h2,h⟩:=ah.1 h;injection h with h;simp at h;obtain⟨rfl,rfl,rfl⟩:=h;refine⟨∀ q∈l1.map (CT.row X.toSE c),q.length=CT.sz X c,?_,?_⟩;rw[(pX h2).1];simp[den,CT.tv,TV.av,Wx];intro q hq;obtain⟨z,_,rfl⟩:=mem_map.1 hq;exact IL c z;cases h
theorem Xo{lo len ln n bytes:Nat}(h:bF lo len ln n bytes=true):lo=len/\ln=n/\(len+n)*bytes<=140737488355328/\len+n<=maxLen:=by simpa[bF,and_assoc]using h
theorem qS{α:Type}(n:Nat)(l:Y α):Xi n l=l.drop n:=by cases n<;>rfl
theorem aao{t:E}{x y:DV X}(h:adf T code i t x y get k=some r):∃cP rd wr dv upd out,A7 T i t (den x) (den y) cP (dN rd (fK get))=some out/\iZ out.obs/\out.v=den dv/\out.upd=ja upd/\(∀ p∈upd,p.1=cD i\/p.1∈wr)/\k dv upd rd wr=some r:=by
 unfold adf at h;unfold A7;rw[ah]at h;obtain⟨ti,h1,h⟩:=h;simp only[h1,ai];split at h;rename_i e hk;rw[ah]at h;obtain⟨ei,h2,h⟩:=h;rw[ah]at h;obtain⟨c,h3,h⟩:=h;simp only[hk,h2,ai];split at h;rename_i hs;rw[ah]at h;obtain⟨⟨n,l,rd⟩,h4,h⟩:=h;split at h;rename_i kk aa len;have⟨o,h5,h⟩:=ah.1 h;split at h;have⟨l1,h6,h⟩:=ah.1 h;have⟨h7,h⟩:=dZ h;rw[qS]at h7 h;have hd:(aJ (l1.map (CT.row X.toSE c))).drop aa=aJ ((l1.drop aa).map (CT.row X.toSE c)):=by simp[aJ]
 have⟨g1,g2,g3,g4⟩:=Xo h7;have⟨h8,h9⟩:=jy h6;obtain⟨ob,i1,i2⟩:=ae8 h4 g2 (kk::rd) (λ j hj=>by simp[hj]);have i3:=fA (rd:=kk::rd) (by simp) h5
 refine⟨.rows (aJ ((l1.drop aa++l).map (CT.row X.toSE c))),kk::rd,[kk],_,_,⟨.own (cD i) 0 (aJ ((l1.drop aa++l).map (CT.row X.toSE c))).length,[(cD i,some ⟨ei.size,aJ ((l1.drop aa++l).map (CT.row X.toSE c))⟩),(kk,none)],
  [ob/\(aJ ((l1.drop aa).map (CT.row X.toSE c))).length=len/\(aJ (l.map (CT.row X.toSE c))).length=n/\aJ ((l1.drop aa++l).map (CT.row X.toSE c))=aJ ((l1.drop aa).map (CT.row X.toSE c))++aJ (l.map (CT.row X.toSE c))/\(len+n)*ei.bytes<=140737488355328/\len+n<=maxLen]⟩,?_,?_,?_,?_,?_,h⟩
 rw[hs]at i1;simp only[i1,ai,den,i3,bL,h9,hd];rw[aP (by rw[h8,hs])];exact⟨i2,by simpa[aJ]using g1,by simpa[aJ]using g2,by simp[aJ],g3,g4⟩;simp[den,aJ];simp[ja,bL,hs];intro p hp;simp at hp;rcases hp with rfl|rfl;exact .inl rfl;exact .inr (by simp);cases h;have⟨h7,h⟩:=dZ h;have⟨g1,g2,g3,g4⟩:=Xo h7;obtain⟨ob,i1,i2⟩:=ae8 h4 g2 rd (λ j hj=>hj)
 refine⟨.rows (aJ (l.map (CT.row X.toSE c))),rd,[],_,_,⟨.own (cD i) 0 (aJ (l.map (CT.row X.toSE c))).length,[(cD i,some ⟨ei.size,aJ (l.map (CT.row X.toSE c))⟩)],
  [ob/\(aJ (l.map (CT.row X.toSE c))).length=n/\aJ (l.map (CT.row X.toSE c))=aJ (l.map (CT.row X.toSE c))/\n*ei.bytes<=140737488355328/\n<=maxLen]⟩,?_,?_,?_,?_,?_,h⟩
 rw[hs]at i1;simp[i1,den];exact⟨i2,by simpa[aJ]using g2,rfl,by simpa using g3,by simpa using g4⟩;simp[den,aJ];simp[ja,bL,hs];intro p hp;simp at hp;rcases hp with rfl;exact .inl rfl;cases h;cases h;cases h
def arw(T:eM)(i:Nat)(o:Oper)(ρ:Operand->DV X)(get:Nat->J (ci X))(k:KK X A)(r:A):Prop:=
 ∃cP rd wr dv upd out,rO T i o cP (λ x=>den (ρ x)) (dN rd (fK get))=some out/\iZ out.obs/\out.v=den dv/\out.upd=ja upd/\(∀ p∈upd,p.1=cD i\/p.1∈wr)/\k dv upd rd wr=some r
theorem Xp{b:Builtin}{args:Y (DV X)}{ej:Y TypeId}(h:Xj T code i b args ej get k=some r):∃cP rd wr dv upd out,Dq T i b (bH args) ej cP (dN rd (fK get))=some out/\iZ out.obs/\out.v=den dv/\out.upd=ja upd/\(∀ p∈upd,p.1=cD i\/p.1∈wr)/\k dv upd rd wr=some r:=by unfold Xj at h;unfold Dq;split at h;have⟨cP,dv,out,h1,h2,h3,h4,h5⟩:=ah1 h;exact⟨cP,[],[],dv,[],out,h1,h2,h3,h4,by simp,h5⟩;have⟨dv,out,h1,h2,h3,h4,h5⟩:=abG h;exact⟨.none,[],[],dv,[],out,h1,h2,h3,h4,by simp,h5⟩;have⟨dv,out,h1,h2,h3,h4,h5⟩:=abG h;exact⟨.none,[],[],dv,[],out,h1,h2,h3,h4,by simp,h5⟩;split at h;rename_i htu;have⟨cP,rd,wr,dv,upd,out,h1,h2⟩:=aao h;refine⟨cP,rd,wr,dv,upd,out,?_,h2⟩;simp only[bH];rw[aP htu];exact h1;cases h;cases h
theorem VN(ρ:Operand->DV X)(l:Y Operand):l.map (λ x=>den (ρ x))=bH (l.map ρ):=by rw[pz,map_map];rfl
theorem abJ{o:Oper}{ρ:Operand->DV X}(h:Rd T code i o.op ρ get k=some r):arw T i o ρ get k r:=by
 obtain⟨dst,op,ty,am,after,guard⟩:=o;unfold arw rO;simp at h;unfold Rd at h;split at h;exact⟨.none,[],[],_,[],_,rfl,trivial,rfl,rfl,by simp,h⟩;exact⟨.none,[],[],_,[],_,rfl,trivial,rfl,rfl,by simp,h⟩;rename_i c a b;split at h;rename_i t hc;refine⟨.none,[],[],_,[],⟨P3 t (den (ρ a)) (den (ρ b)),[],[]⟩,?_,trivial,(akW t _ _).symm,rfl,by simp,h⟩;simp[hc,den,CT.tv,TV.av,pv];cases h;have⟨dv,u,out,h1,h2,h3,h4,h5⟩:=adk h;exact⟨.none,[],[],dv,_,out,h1,h2,h3,h4,by simp,h5⟩;have⟨dv,u,out,h1,h2,h3,h4,h5⟩:=ah2 h;exact⟨.none,[],[],dv,_,out,h1,h2,h3,h4,by simp,h5⟩;rename_i t parts;have⟨dv,out,h1,h2,h3,h4,h5⟩:=adj h;refine⟨.none,[],[],dv,[],out,?_,h2,h3,h4,by simp,h5⟩;rw[map_map]at h1;exact h1;rename_i t len parts;have⟨dv,u,out,h1,h2,h3,h4,h5⟩:=Oe h;refine⟨.none,[],[],dv,_,out,?_,h2,h3,h4,by simp,h5⟩;rw[map_map]at h1;exact h1;have⟨cP,rd,dv,out,h1,h2,h3,h4,h5⟩:=akX h;exact⟨cP,rd,[],dv,[],out,h1,h2,h3,h4,by simp,h5⟩;have⟨cP,kk,u,out,h1,h2,h3,h4,h5⟩:=akZ h;exact⟨cP,[kk],[kk],.undef,_,out,h1,h2,h3,h4,by simp,h5⟩;have⟨dv,out,h1,h2,h3,h4,h5⟩:=ah0 h;exact⟨.none,[],[],dv,[],out,h1,h2,h3,h4,by simp,h5⟩;have⟨dv,out,h1,h2,h3,h4,h5⟩:=ak0 h;exact⟨.none,[],[],dv,[],out,h1,h2,h3,h4,by simp,h5⟩;rename_i f first caps
 refine⟨.none,[],[],_,[],⟨.fn f (first.toList.map λx=>den (ρ x)) (caps.toList.map λx=>den (ρ x)),[],[]⟩,rfl,trivial,?_,rfl,by simp,h⟩;simp[den,VN];rename_i t x lo hi;have⟨cP,rd,dv,out,h1,h2,h3,h4,h5⟩:=adl h;refine⟨cP,rd,[],dv,[],out,?_,h2,h3,h4,by simp,h5⟩;simp at h1;exact h1;have⟨dv,out,h1,h2,h3,h4,h5⟩:=QN h;exact⟨.none,[],[],dv,[],out,h1,h2,h3,h4,by simp,h5⟩;have⟨dv,out,h1,h2,h3,h4,h5⟩:=adh h;exact⟨.none,[],[],dv,[],out,h1,h2,h3,h4,by simp,h5⟩;have⟨cP,rd,dv,out,h1,h2,h3,h4,h5⟩:=QO h;exact⟨cP,rd,[],dv,[],out,h1,h2,h3,h4,by simp,h5⟩;have⟨dv,out,h1,h2,h3,h4,h5⟩:=Xn h;exact⟨.none,[],[],dv,[],out,h1,h2,h3,h4,by simp,h5⟩;rename_i b args ej;have⟨cP,rd,wr,dv,upd,out,h1,h2⟩:=Xp h;refine⟨cP,rd,wr,dv,upd,out,?_,h2⟩;simp[VN];exact h1;cases h
end
inductive Pt(ι:Type) where
 |v (c:CT ι)
 |o (k:Nat)
 |p (k:Nat)
 |nil
 |f (F:FuncId) (fs cs:List (Pt ι))
 |od (k:Nat)
 |mp (k:Nat)
 |oz (k:Nat)
 |a (ps:List (Pt ι))
inductive OP(ι:Type) where
 |l (c:CT ι)
 |m (k v:CT ι)
 |c (sz:Nat) (rows:List (List (Pt ι)))
section
variable {ι:Type}
mutual
def Pt.vars:Pt ι->List (CT ι)
 |.v c=>[c]
 |.a ps=>dg ps
 |.f _ fs cs=>dg fs++dg cs
 |.od _=>[.int .i64]
 |_=>[]
def dg:List (Pt ι)->List (CT ι)
 |[]=>[]
 |p::ps=>p.vars++dg ps
end
def i9:Y (Nat×Pt ι)->Y (CT ι)
 |[]=>[]
 |p::ps=>p.2.vars++i9 ps
def xJ:Y (List (Pt ι))->Y (CT ι)
 |[]=>[]
 |r::rs=>dg r++xJ rs
def eh:Y (Nat×OP ι)->Y (CT ι)
 |[]=>[]
 |(_,.l c)::r=>.sl c::eh r
 |(_,.m k v)::r=>.mp k v::eh r
 |(_,.c _ rows)::r=>xJ rows++eh r
end
section
variable {X:SX}
structure DC(X:SX) where
 c:CT X.ι
 x:CT.T X.toSE c
@[reducible] def VT:Y (CT X.ι)->Type
 |[]=>Unit
 |[c]=>CT.T X.toSE c
 |c::c'::l=>CT.T X.toSE c×VT (c'::l)
def HC:(l:Y (CT X.ι))->Y (DC X)->J (VT (X:=X) l)
 |[],[]=>some ()
 |[c],[d]=>lG d.c c d.x
 |c::c'::l,d::ds=>(lG d.c c d.x).bind λx=>(HC (c'::l) ds).bind λv=>some (x,v)
 |_,_=>none
def xK:(l:Y (CT X.ι))->VT (X:=X) l->Y (DC X)
 |[],_=>[]
 |[c],x=>[⟨c,x⟩]
 |c::c'::l,v=>⟨c,v.1⟩::xK (c'::l) v.2
theorem ae9{d:DC X}{c:CT X.ι}{x:CT.T X.toSE c}(h:lG d.c c d.x=some x):(⟨c,x⟩:DC X)=d:=by obtain⟨a,y⟩:=d;have⟨e,h⟩:=tH h;simp at e;subst e;subst h;rfl
theorem Xq:∀{l:Y (CT X.ι)}{ds:Y (DC X)}{v:VT (X:=X) l},HC l ds=some v->xK l v=ds
 |[],[],_,_=>rfl
 |[c],[d],v,h=>by simp[HC]at h;simp[xK,ae9 h]
 |c::c'::l,d::ds,v,h=>by simp[HC]at h;rw[ah]at h;obtain⟨x,h1,h⟩:=h;rw[ah]at h;obtain⟨v',h2,h⟩:=h;cases h;simp[xK,ae9 h1,Xq h2]
 |[],_::_,_,h|[_],[],_,h|[_],_::_::_,_,h|_::_::_,[],_,h=>by simp[HC]at h
theorem Xr{c:CT X.ι}(x:CT.T X.toSE c):lG c c x=some x:=by unfold lG;split;rfl;rename_i h _;exact absurd rfl h
def IS(d:DC X):Nat:=match lG d.c (.int .i64) d.x with|some x=>Int.toNat x|none=>0
section
variable (ev:Nat->Nat)
mutual
def eP:Pt X.ι->List (DC X)->DV X×List (DC X)
 |.v _,L=>match L with
  |d::r=>(.c d.c d.x,r)
  |[]=>(.undef,[])
 |.o k,L=>(.own k 0 (ev k),L)
 |.p k,L=>(.ptr k 0 0,L)
 |.mp k,L=>(.mp k,L)
 |.oz k,L=>(.oz k (ev k),L)
 |.nil,L=>(.nil,L)
 |.f F fs cs,L=>(.fn F (my fs L).1 (my cs (my fs L).2).1,(my cs (my fs L).2).2)
 |.od k,L=>match L with
  |d::r=>(.own k (IS d) (ev k-IS d),r)
  |[]=>(.undef,[])
 |.a ps,L=>(.agg (my ps L).1,(my ps L).2)
def my:List (Pt X.ι)->List (DC X)->List (DV X)×List (DC X)
 |[],L=>([],L)
 |p::ps,L=>((eP p L).1::(my ps (eP p L).2).1,(my ps (eP p L).2).2)
end
def Mx:Y (Nat×Pt X.ι)->Y (DC X)->Y (Nat×DV X)
 |[],_=>[]
 |(t,p)::r,L=>(t,(eP ev p L).1)::Mx r (eP ev p L).2
def xL:Y (List (Pt X.ι))->Y (DC X)->Y (List (DV X))×List (DC X)
 |[],L=>([],L)
 |r::rs,L=>((my ev r L).1::(xL rs (my ev r L).2).1,(xL rs (my ev r L).2).2)
def cu:Y (Nat×OP X.ι)->Y (DC X)->Y (Nat×Option (ci X))
 |[],_=>[]
 |(k,.l _)::r,L=>match L with
  |⟨.sl c',x⟩::L=>(k,some (.eK c' x))::cu r L
  |_=>[]
 |(k,.m _ _)::r,L=>match L with
  |⟨.mp kc vc,x⟩::L=>(k,some (.map kc vc x))::cu r L
  |_=>[]
 |(k,.c sz rows)::r,L=>(k,some (.cells sz (xL ev rows L).1))::cu r (xL ev rows L).2
end
def lens:Y (Nat×OP X.ι)->Y (DC X)->Y (Nat×Nat)
 |[],_=>[]
 |(k,.l _)::r,L=>match L with
  |⟨.sl _,x⟩::L=>(k,List.length x)::lens r L
  |_=>[]
 |(_,.m _ _)::r,L=>lens r (L.drop 1)
 |(_,.c _ rows)::r,L=>lens r (L.drop (xJ rows).length)
def mA:Nat->Y (Pt X.ι)->Y (Nat×Pt X.ι)
 |_,[]=>[]
 |n,p::ps=>(n,p)::mA (n+1) ps
theorem QS:∀(n:Nat)(ps:Y (Pt X.ι)),i9 (mA n ps)=dg ps
 |_,[]=>rfl
 |n,p::ps=>by simp[mA,i9,dg,QS (n+1) ps]
structure ea(X:SX) where
 rh:List (Pt X.ι)
 kf:List (Nat×OP X.ι)
 gj:List (Pt X.ι)
 ke:List (Nat×OP X.ι)
 fn:VT (X:=X) (dg rh++eh kf)->Option (VT (X:=X) (i9 (mA 0 gj)++eh ke))
def EX(O:Y (Nat×OP X.ι))(L:Y (DC X))(k:Nat):Nat:=(lk (lens O L) k).getD 0
def Xt(ps:Y (Pt X.ι))(O:Y (Nat×OP X.ι))(L:Y (DC X)):Y (DV X):=(my (EX O (L.drop (dg ps).length)) ps (L.take (dg ps).length)).1
def PR(ps:Y (Pt X.ι))(O:Y (Nat×OP X.ι))(L:Y (DC X)):Y (Nat×Option (ci X)):=cu (EX O (L.drop (dg ps).length)) O (L.drop (dg ps).length)
def zD:Y (DV X)->DV X
 |[d]=>d
 |ds=>.eE ds
def dK:Y (Nat×Option (ci X))->Y (Nat×ci X)
 |[]=>[]
 |(k,some o)::r=>(k,o)::dK r
 |(_,none)::r=>dK r
def uF(l:Y (Nat×ci X)):Y (Nat×aN):=l.map λp=>(p.1,bL p.2)
def ea.args(g:ea X)(v:VT (X:=X) (dg g.rh++eh g.kf)):Y (DV X):=Xt g.rh g.kf (xK _ v)
def ea.du(g:ea X)(v:VT (X:=X) (dg g.rh++eh g.kf)):Y (Nat×ci X):=dK (PR g.rh g.kf (xK _ v))
def ea.res(g:ea X)(r:VT (X:=X) (i9 (mA 0 g.gj)++eh g.ke)):DV X:=zD (Xt g.gj g.ke (xK _ r))
def ea.outs(g:ea X)(r:VT (X:=X) (i9 (mA 0 g.gj)++eh g.ke)):Y (Nat×ci X):=dK (PR g.gj g.ke (xK _ r))
def ON(P:Q)(f:FuncId)(g:ea X):Prop:=∀v r,g.fn v=some r->zz P f (bH (g.args v)) ((g.du v).map λp=>bL p.2) (uF (g.outs r)) (den (g.res r))
end
inductive AT(ι:Type) where
 |d (c:CT ι)
 |ref (c:CT ι)
 |eC (as:List (CT ι)) (r:CT ι)
 |mut (c:CT ι)
 |lh (c:CT ι)
 |nil
 deriving DecidableEq
def AT.im{ι:Type}:AT ι->Bool
 |.mut _|.lh _=>true
 |_=>false
def AT.pl{ι:Type}:AT ι->Bool
 |.mut _|.lh _|.nil=>false
 |_=>true
inductive RT(ι:Type) where
 |d (c:CT ι)
 |fresh (e:CT ι)
 |whole (j:Nat)
 |mu (c:CT ι)
 |mr (c:CT ι)
 |mv
def RT.out{ι:Type}:RT ι->Bool
 |.mu _|.mr _|.mv=>true
 |_=>false
section
variable (X:SX)
@[reducible] def AT.T:AT X.ι->Type
 |.d c=>CT.T X.toSE c
 |.ref c=>CT.T X.toSE c
 |.eC as r=>HL X.toSE as->J (CT.T X.toSE r)
 |.mut c=>Y (CT.T X.toSE c)
 |.lh c=>CT.T X.toSE c
 |.nil=>Unit
@[reducible] def RT.T:RT X.ι->Type
 |.d c=>CT.T X.toSE c
 |.fresh e=>Y (CT.T X.toSE e)
 |.whole _=>Unit
 |.mu c=>Y (CT.T X.toSE c)
 |.mr c=>CT.T X.toSE c
 |.mv=>Unit
@[reducible] def jg:Y (AT X.ι)->Type
 |[]=>Unit
 |a::l=>AT.T X a×jg l
@[reducible] def uw:Y (RT X.ι)->Type
 |[]=>Unit
 |[r]=>RT.T X r
 |r::r'::l=>RT.T X r×uw (r'::l)
structure cy where
 args:List (AT X.ι)
 res:List (RT X.ι)
 fn:jg X args->Option (uw X res)
 gen:Option (ea X):=none
variable {X}
def eO:Nat->(l:Y (AT X.ι))->jg X l->Y AV
 |_,[],_=>[]
 |n,.d c::l,a=>(CT.tv X.toSE c a.1).av::eO n l a.2
 |n,.ref c::l,a=>.eW (CT.row X.toSE c a.1) 0::eO n l a.2
 |n,.eC as r::l,a=>den (.eC as r a.1:DV X)::eO n l a.2
 |n,.mut _::l,a=>.own n 0 (List.length a.1)::eO (n+1) l a.2
 |n,.lh _::l,a=>.ptr n 0 0::eO (n+1) l a.2
 |n,.nil::l,a=>.d5::eO n l a.2
abbrev zF(l:Y (AT X.ι))(a:jg X l):Y AV:=eO 0 l a
def vU(c:CT X.ι)(l:Y (CT.T X.toSE c)):fe:=(CT.sz X c,l.map (CT.row X.toSE c))
def vV:(l:Y (AT X.ι))->jg X l->Y fe
 |[],_=>[]
 |.mut c::l,a=>vU c a.1::vV l a.2
 |.lh c::l,a=>vU c [a.1]::vV l a.2
 |.d _::l,a=>vV l a.2
 |.ref _::l,a=>vV l a.2
 |.eC _ _::l,a=>vV l a.2
 |.nil::l,a=>vV l a.2
def de:(r:RT X.ι)->RT.T X r->Y (Option fe)
 |.mu c,x=>[some (vU c x)]
 |.mr c,x=>[some (vU c [x])]
 |.mv,_=>[none]
 |_,_=>[]
def pE:(l:Y (RT X.ι))->uw X l->Y (Option fe)
 |[],_=>[]
 |[r],x=>de r x
 |r::r'::l,x=>de r x.1++pE (r'::l) x.2
def y4:(r:RT X.ι)->RT.T X r->Y Nat
 |.mu _,x=>[List.length x]
 |.mr _,_=>[1]
 |.mv,_=>[0]
 |_,_=>[]
def A4:(l:Y (RT X.ι))->uw X l->Y Nat
 |[],_=>[]
 |[r],x=>y4 r x
 |r::r'::l,x=>y4 r x.1++A4 (r'::l) x.2
def Xu(ns:Y Nat):(r:RT X.ι)->RT.T X r->Y RC
 |.d c,x=>[.d (CT.tv X.toSE c x)]
 |.fresh e,l=>[.fresh (CT.sz X e) (l.map (CT.row X.toSE e))]
 |.whole j,_=>[.whole j (ns.getD j 0)]
 |_,_=>[]
def Ce(ns:Y Nat):(l:Y (RT X.ι))->uw X l->Y RC
 |[],_=>[]
 |[r],x=>Xu ns r x
 |r::r'::l,x=>Xu ns r x.1++Ce ns (r'::l) x.2
def uG(l:Y (RT X.ι))(x:uw X l):RV:=
 match Ce (A4 l x) l x with
 |[c]=>.one c
 |cs=>.eE cs
def t7(P:Q)(Γ:FuncId->J (cy X)):Prop:=
 ∀f s,Γ f=some s->eH P f/\(∀ a r,s.fn a=some r->ro P f (zF s.args a) (vV s.args a) (pE s.res r) (uG s.res r))/\∀g,s.gen=some g->ON P f g
theorem arx:∀{l:Y (AT X.ι)},(l.all λq=>q.pl)=true->(l.all λq=>!q.im)=true:=λ{l} h=>by rw[all_eq_true]at h |-;intro q hq;have:=h q hq;cases q<;>simp_all [AT.pl,AT.im]
theorem IX:∀{l:Y (AT X.ι)}{a:jg X l},(l.all λq=>!q.im)=true->vV l a=[]
 |[],_,_=>rfl
 |.d _::l,a,h|.ref _::l,a,h|.eC _ _::l,a,h=>IX (l:=l) (by simpa[AT.im]using h)
 |.mut _::l,a,h|.lh _::l,a,h=>by simp[AT.im]at h
 |.nil::l,a,h=>IX (l:=l) (by simpa[AT.im]using h)
theorem afb{r:RT X.ι}{x:RT.T X r}(h:(!r.out)=true):de r x=[]:=by cases r<;>first|rfl|simp[RT.out]at h
theorem afc:∀{l:Y (RT X.ι)}{x:uw X l},(l.all λq=>!q.out)=true->pE l x=[]
 |[],_,_=>rfl
 |[r],x,h=>afb (by simpa using h)
 |r::r'::l,x,h=>by simp only[all_cons,aT]at h;simp[pE,afb h.1];exact afc (l:=r'::l) (by simp only[all_cons,aT];exact h.2)
mutual
def cd:DV X->List Nat
 |.own k _ _=>[k]
 |.ptr k _ _=>[k]
 |.sB k _ _=>[k]
 |.vi k _ _ _ _=>[k]
 |.mp k=>[k]
 |.oz k _=>[k]
 |.agg cs=>aS cs
 |.eE cs=>aS cs
 |.fn _ first caps=>aS first++aS caps
 |_=>[]
def aS:List (DV X)->List Nat
 |[]=>[]
 |x::xs=>cd x++aS xs
end
theorem Bd(c:CT X.ι)(x:CT.T X.toSE c):refs (CT.tv X.toSE c x).av=[]:=by
 cases c<;>try rfl
 rename_i i;show dJ ((X.row i x).map AV.t)=[];generalize X.row i x=l
 induction l with
 |nil=>rfl
 |cons y ys ih=>simp[dJ,refs,ih]
mutual
theorem jb:∀x:DV X,refs (den x)=cd x
 |.c t x=>Bd t x
 |.agg cs|.eE cs=>by simp[den,refs,cd,jc cs]
 |.own _ _ _|.ptr _ _ _|.sB _ _ _|.mp _|.oz _ _|.vi _ _ _ _ _|.rp _ _ _|.As _ _ _ _ _=>rfl
 |.fn f first caps=>by simp[den,refs,cd,jc first,jc caps]
 |.eC _ _ _=>rfl
 |.raw v=>by simp[den,cv];split;rfl;split<;>rfl
 |.nil|.ub|.skip|.undef=>rfl
theorem jc:∀l:List (DV X),dJ (bH l)=aS l
 |[]=>rfl
 |x::xs=>by simp[bH,dJ,aS,jb x,jc xs]
end
def Tx(get:Nat->J (ci X))(d:DV X)(c:CT X.ι):J (CT.T X.toSE c×List Bool):=
 match d,c with
 |.own kk aa len,.sl e=>(get kk).bind λo=>match o with
  |.eK b l=>(lG (.sl b) (.sl e) l).bind λ(l:List (CT.T X.toSE e))=>some (sub l aa len,[aE (sub l aa len).length len])
  |_=>none
 |.own kk aa len,.any=>(get kk).bind λo=>match o with
  |.eK b l=>some (.sl (List.map (CT.row X.toSE b) (sub l aa len)),[aE (sub l aa len).length len])
  |_=>none
 |.oz kk len,.sl e=>(get kk).bind λo=>match o with
  |.eK b l=>(lG (.sl b) (.sl e) l).bind λ(l:List (CT.T X.toSE e))=>some (sub l 0 len,[aE (sub l 0 len).length len])
  |_=>none
 |d,c=>(Mt d c).bind λx=>some (x,[])
def Cf(get:Nat->J (ci X)):Y (DV X)->(l:Y (CT X.ι))->J (HL X.toSE l×List Bool)
 |[],[]=>some ((),[])
 |d::ds,c::l=>(Tx get d c).bind λx=>(Cf get ds l).bind λh=>some ((x.1,h.1),x.2++h.2)
 |_,_=>none
def IR(get:Nat->J (ci X))(d:DV X)(i:X.ι):J (CT.T X.toSE (.st i)×List Bool):=
 match d with
 |.agg cs=>(Cf get cs (X.ej i)).bind λh=>some (X.make i h.1,h.2)
 |.c a x=>(lG a (.st i) x).bind λx=>some (x,[])
 |_=>none
def Gx(get:Nat->J (ci X))(d:DV X)(c:CT X.ι):J (CT.T X.toSE c×List Bool):=
 match c with
 |.st i=>IR get d i
 |c=>Tx get d c
def amV(get:Nat->J (ci X))(d:DV X)(c:CT X.ι):J (CT.T X.toSE c):=
 match d with
 |.ptr kk row 0=>(get kk).bind λo=>match o with
  |.cells _ rows=>(rows[row]?).bind λq=>if q.all (λ x=>match x with|.c _ _=>true|_=>false)then Ob c q else none
  |_=>none
 |.rp a x 0=>lG a c x
 |_=>none
def A0:(l l':Y (AT X.ι))->jg X l->jg X l'->jg X (l++l')
 |[],_,_,b=>b
 |_::l,l',a,b=>(a.1,A0 l l' a.2 b)
def hlA:(as:Y (CT X.ι))->HL X.toSE as->jg X (as.map AT.d)
 |[],_=>()
 |_::l,h=>(h.1,hlA l h.2)
def xM:Y (AT X.ι)->Nat
 |[]=>0
 |q::l=>(if q.im then 1 else 0)+xM l
theorem uH:∀(n:Nat)(l l':Y (AT X.ι))(a:jg X l)(b:jg X l'),eO n (l++l') (A0 l l' a b)=eO n l a++eO (n+xM l) l' b
 |n,[],_,_,_=>rfl
 |n,.d c::l,l',a,b|n,.ref c::l,l',a,b|n,.eC as r::l,l',a,b=>by simp[eO,A0,uH n l l' a.2 b,xM,AT.im]
 |n,.mut c::l,l',a,b|n,.lh c::l,l',a,b=>by simp[eO,A0,uH (n+1) l l' a.2 b,xM,AT.im,Nat.add_assoc]
 |n,.nil::l,l',a,b=>by simp[eO,A0,uH n l l' a.2 b,xM,AT.im]
theorem QT:∀(n:Nat)(as:Y (CT X.ι))(h:HL X.toSE as),eO n (as.map AT.d) (hlA as h)=(HL.oY X.toSE as h).map TV.av
 |_,[],_=>rfl
 |n,c::l,h=>congrArg ((CT.tv X.toSE c h.1).av:: ·) (QT n l h.2)
def aqf{a b:CT X.ι}(h:a=b)(o:J (CT.T X.toSE a)):J (CT.T X.toSE b):=h ▸ o
def tJ(get:Nat->J (ci X))(q6:FuncId->Y (DV X)->Y (DV X)->(as:Y (CT X.ι))->(r:CT X.ι)->J ((HL X.toSE as->J (CT.T X.toSE r))×List Bool)):Y (DV X)->(l:Y (AT X.ι))->J (jg X l×List Bool)
 |[],[]=>some ((),[])
 |d::ds,.d c::l=>(Gx get d c).bind λx=>(tJ get q6 ds l).bind λh=>some ((x.1,h.1),x.2++h.2)
 |d::ds,.ref c::l=>(amV get d c).bind λx=>(tJ get q6 ds l).bind λh=>some ((x,h.1),h.2)
 |d::ds,.eC as r::l=>(match d with
  |.eC as' r' Z=>if h:as'=as/\r'=r then some (λ x=>aqf h.2 (Z (h.1 ▸ x)),[])else none
  |.fn f first caps=>q6 f first caps as r
  |_=>none).bind λZ=>(tJ get q6 ds l).bind λq=>some ((Z.1,q.1),Z.2++q.2)
 |_,_=>none
def Ty(Γ:FuncId->J (cy X))(get:Nat->J (ci X)):Nat->Y (DV X)->(l:Y (AT X.ι))->J (jg X l×List Bool)
 | 0,ds,l=>tJ get (λ _ _ _ _ _=>none) ds l
 |n+1,ds,l=>tJ get (λ f first caps as r=>(Γ f).bind λs=>match s with
   |⟨sa,[.d r'],fn,_⟩=>
    if h:r'=r/\sa=sa.take first.length++(as.map AT.d++sa.drop (first.length+as.length))/\first.length=0 then
     (Ty Γ get n first (sa.take first.length)).bind λhf=>(Ty Γ get n caps (sa.drop (first.length+as.length))).bind λhc=>
      some (λ x=>aqf h.1 (fn (h.2.1 ▸ A0 _ _ hf.1 (A0 _ _ (hlA as x) hc.1))),hf.2++hc.2)
    else none
   |_=>none) ds l
section
variable {P:Program} {Γ:FuncId->Option (cy X)} {get:Nat->Option (ci X)} {rd:List Nat}
theorem ig{a b:Y Prop}(h:∀p∈a,p)(h':∀p∈b,p):∀p∈a++b,p:=by grind
theorem IY{d:DV X}{c:CT X.ι}{x:CT.T X.toSE c×List Bool}(h:Tx get d c=some x)(hc:∀b∈x.2,b=true)(hrd:∀j∈cd d,j∈rd):∃hs obs,(∀ p∈obs,p)/\∀ae,qd P (dN rd (fK get)) (den d) (hs++ae)=some ((CT.tv X.toSE c x.1).av,ae,obs):=by
 have base:∀{d:DV X}{c:CT X.ι}{x:CT.T X.toSE c},Mt d c=some x->∃hs obs,(∀ p∈obs,p)/\∀ae,qd P (dN rd (fK get)) (den d) (hs++ae)=some ((CT.tv X.toSE c x).av,ae,obs):=by
  intro d c x h;unfold Mt at h;split at h;rw[(pX h).1];refine⟨[],[],by simp,λae=>?_⟩;simp;cases c<;>try rfl
  rename_i j;show qd P _ (.agg ((X.row j x).map AV.t)) ae=_;have:∀(l:Y Tree)(hs:Y LH),nL P (dN rd (fK get)) (l.map AV.t) hs=some (l.map AV.t,hs,[]):=by
   intro l
   induction l with
   |nil=>intro hs;rfl
   |cons y ys ih=>intro hs;simp[nL,qd,ih]
  simp[qd,this];rfl;cases h;exact⟨[.emp],[],by simp,λae=>rfl⟩;cases h;exact⟨[.emp],[],by simp,λae=>rfl⟩;cases h
 unfold Tx at h;split at h;rename_i kk aa len e;rw[ah]at h;obtain⟨o,h1,h⟩:=h;split at h;rename_i b l0;rw[ah]at h;obtain⟨l,h2,h⟩:=h;cases h;have h3:(sub l aa len).length=len:=by simpa[aE]using hc (aE (sub l aa len).length len) (by simp)
 have⟨h4,h5⟩:=jy h2;refine⟨[.rows ((sub l aa len).map (CT.row X.toSE e))],[((bL (.eK b l0):aN).rows.drop aa).take len=aJ ((sub l aa len).map (CT.row X.toSE e))/\((sub l aa len).map (CT.row X.toSE e)).length=len],?_,λae=>?_⟩;intro p hp;simp only[bC]at hp;subst hp;refine⟨?_,by simpa using h3⟩;simp[bL,h5];simp[aJ,sub];simp[den,qd,fA (hrd kk (by simp[cd])) h1];rfl;cases h;rename_i kk aa len;rw[ah]at h;obtain⟨o,h1,h⟩:=h;split at h;rename_i b l0;cases h;have h3:(sub l0 aa len).length=len:=by simpa[aE]using hc (aE (sub l0 aa len).length len) (by simp)
 refine⟨[.rows ((sub l0 aa len).map (CT.row X.toSE b))],[((bL (.eK b l0):aN).rows.drop aa).take len=aJ ((sub l0 aa len).map (CT.row X.toSE b))/\((sub l0 aa len).map (CT.row X.toSE b)).length=len],?_,λae=>?_⟩;intro p hp;simp only[bC]at hp;subst hp;refine⟨?_,by simpa using h3⟩;simp[bL];simp[aJ,sub];simp[den,qd,fA (hrd kk (by simp[cd])) h1];rfl;cases h;rename_i kk len e;rw[ah]at h;obtain⟨o,h1,h⟩:=h;split at h;rename_i b l0;have⟨l,h2,h⟩:=ah.1 h;cases h;have h3:(sub l 0 len).length=len:=by simpa[aE]using hc (aE (sub l 0 len).length len) (by simp)
 have⟨h4,h5⟩:=jy h2;refine⟨[.rows ((sub l 0 len).map (CT.row X.toSE e))],[((bL (.eK b l0):aN).rows.drop 0).take len=aJ ((sub l 0 len).map (CT.row X.toSE e))/\((sub l 0 len).map (CT.row X.toSE e)).length=len],?_,λae=>?_⟩;intro p hp;simp only[bC]at hp;subst hp;refine⟨?_,by simpa using h3⟩;simp[bL,h5];simp[aJ,sub];simp[den,qd,fA (hrd kk (by simp[cd])) h1];rfl;cases h;have⟨y,h1,h⟩:=ah.1 h;cases h;exact base h1
theorem Og:∀{ds:Y (DV X)}{l:Y (CT X.ι)}{h:HL X.toSE l×List Bool},Cf get ds l=some h->(∀ b∈h.2,b=true)->l.all CT.one=true->(∀ j∈aS ds,j∈rd)->
 ∃hs obs,(∀ p∈obs,p)/\∀ae,nL P (dN rd (fK get)) (bH ds) (hs++ae)=some ((HL.row X.toSE l h.1).map AV.t,ae,obs)
 |[],[],h,_,_,_,_=>⟨[],[],by simp,λae=>rfl⟩
 |d::ds,c::l,h,hr,hc,ha,hrd=>by simp[Cf]at hr;have⟨x,h1,hr⟩:=ah.1 hr;have⟨g,h2,hr⟩:=ah.1 hr;cases hr;simp only[all_cons,aT]at ha;obtain⟨hs1,o1,p1,q1⟩:=IY (P:=P) (rd:=rd) h1 (λ b hb=>hc b (by simp[hb])) (λ j hj=>hrd j (by simp[aS,hj]));obtain⟨hs2,o2,p2,q2⟩:=Og h2 (λ b hb=>hc b (by simp[hb])) ha.2 (λ j hj=>hrd j (by simp[aS,hj]));refine⟨hs1++hs2,o1++o2,ig p1 p2,λae=>?_⟩;simp only[bH,nL,aU,q1,ai,q2];show _=some ((CT.row X.toSE c x.1++HL.row X.toSE l g.1).map AV.t,ae,o1++o2);rw[List.map_append,<- VC ha.1 x.1];rfl
 |[],_::_,_,hr,_,_,_|_::_,[],_,hr,_,_,_=>by simp[Cf]at hr
theorem Be{d:DV X}{c:CT X.ι}{x:CT.T X.toSE c×List Bool}(h:Gx get d c=some x)(hc:∀b∈x.2,b=true)(hrd:∀j∈cd d,j∈rd):∃hs obs,(∀ p∈obs,p)/\∀ae,qd P (dN rd (fK get)) (den d) (hs++ae)=some ((CT.tv X.toSE c x.1).av,ae,obs):=by
 cases c
 case st i=>
  replace h:IR get d i=some x:=h
  cases d
  case agg cs=>
   simp[IR]at h;rw[ah]at h;obtain⟨g,h1,h⟩:=h;cases h;obtain⟨hs,obs,p1,q1⟩:=Og (P:=P) (rd:=rd) h1 hc (X.flat i) (λ j hj=>hrd j (by simpa[cd]using hj));refine⟨hs,obs,p1,λae=>?_⟩;simp[den,qd,q1,CT.tv,TV.av];rw[X.ij]
  case c a y=>exact IY (c:=.st i) (x:=x) (by unfold Tx;exact h) hc hrd
  all_goals cases h
 all_goals exact IY h hc hrd
theorem afd{d:DV X}{c:CT X.ι}{x:CT.T X.toSE c}(h:amV get d c=some x)(hrd:∀j∈cd d,j∈rd):∃hs obs,(∀ p∈obs,p)/\∀ae,qd P (dN rd (fK get)) (den d) (hs++ae)=some (.eW (CT.row X.toSE c x) 0,ae,obs):=by
 unfold amV at h;split at h;rename_i kk row;rw[ah]at h;obtain⟨o,h1,h⟩:=h;split at h;rename_i sz rows;rw[ah]at h;obtain⟨q,h2,h⟩:=h;split at h;rename_i hq;refine⟨[.row (CT.row X.toSE c x)],[(bL (.cells sz rows):aN).rows[row]? =some ((CT.row X.toSE c x).map AV.t)],?_,λae=>?_⟩;intro p hp;simp only[bC]at hp;subst hp;simp only[bL,List.getElem?_map,h2,Option.map_some];rw[<- zk h,pz,map_map];congr 1;refine map_congr_left λy hy=>?_;have:=all_eq_true.1 hq y hy;cases y<;>first|exact(aqe _).symm|simp at this
 simp[den,qd,fA (hrd kk (by simp[cd])) h1];cases h;cases h;rename_i a y;refine⟨[],[],by simp,λae=>?_⟩;simp[den,(pX h).2];rfl;cases h
theorem ah4{n:Nat}{l l':Y (AT X.ι)}(e:l=l')(b:jg X l):eO n l' (e ▸ b)=eO n l b:=by subst e;rfl
theorem Kn{q6:FuncId->Y (DV X)->Y (DV X)->(as:Y (CT X.ι))->(r:CT X.ι)->J ((HL X.toSE as->J (CT.T X.toSE r))×List Bool)}:∀{ds:Y (DV X)}{l:Y (AT X.ι)}{a:jg X l×List Bool},tJ get q6 ds l=some a->(l.all λq=>!q.im)=true
 |[],[],_,_=>rfl
 |d::ds,.d c::l,a,h=>by simp[tJ]at h;have⟨x,h1,h⟩:=ah.1 h;have⟨q,h2,h⟩:=ah.1 h;simpa[AT.im]using Kn h2
 |d::ds,.ref c::l,a,h=>by simp[tJ]at h;have⟨x,h1,h⟩:=ah.1 h;have⟨q,h2,h⟩:=ah.1 h;simpa[AT.im]using Kn h2
 |d::ds,.eC as r::l,a,h=>by simp[tJ]at h;have⟨x,h1,h⟩:=ah.1 h;have⟨q,h2,h⟩:=ah.1 h;simpa[AT.im]using Kn h2
 |_::_,.mut _::_,_,h|_::_,.lh _::_,_,h|_::_,.nil::_,_,h|[],_::_,_,h|_::_,[],_,h=>by simp[tJ]at h
theorem afe:∀{n:Nat}{ds:Y (DV X)}{l:Y (AT X.ι)}{a:jg X l×List Bool},Ty Γ get n ds l=some a->(l.all λq=>!q.im)=true
 | 0,_,_,_,h|_+1,_,_,_,h=>Kn h
theorem adn:∀as:Y (CT X.ι),((as.map AT.d).all λq=>!q.im)=true
 |[]=>rfl
 |_::l=>adn l
def arz(P:Q)(get:Nat->J (ci X))(q6:FuncId->Y (DV X)->Y (DV X)->(as:Y (CT X.ι))->(r:CT X.ι)->J ((HL X.toSE as->J (CT.T X.toSE r))×List Bool)):Prop:=
 ∀f first caps as r Z rd,q6 f first caps as r=some Z->(∀ b∈Z.2,b=true)->(∀ j∈aS first++aS caps,j∈rd)->∃hs obs,(∀ p∈obs,p)/\∀ae,qd P (dN rd (fK get)) (.fn f (bH first) (bH caps)) (hs++ae)=some (den (.eC as r Z.1:DV X),ae,obs)
theorem uI{n:Nat}{q6:FuncId->Y (DV X)->Y (DV X)->(as:Y (CT X.ι))->(r:CT X.ι)->J ((HL X.toSE as->J (CT.T X.toSE r))×List Bool)}(wx:arz P get q6):∀{ds:Y (DV X)}{l:Y (AT X.ι)}{a:jg X l×List Bool},tJ get q6 ds l=some a->(∀ b∈a.2,b=true)->(∀ j∈aS ds,j∈rd)->
 ∃hs obs,(∀ p∈obs,p)/\∀ae,nL P (dN rd (fK get)) (bH ds) (hs++ae)=some (eO n l a.1,ae,obs)
 |[],[],_,_,_,_=>⟨[],[],by simp,λae=>rfl⟩
 |d::ds,.d c::l,a,h,hc,hrd=>by simp[tJ]at h;have⟨x,h1,h⟩:=ah.1 h;have⟨q,h2,h⟩:=ah.1 h;cases h;obtain⟨hs1,o1,p1,q1⟩:=Be (P:=P) (rd:=rd) h1 (λ b hb=>hc b (by simp[hb])) (λ j hj=>hrd j (by simp[aS,hj]));obtain⟨hs2,o2,p2,q2⟩:=uI (n:=n) wx h2 (λ b hb=>hc b (by simp[hb])) (λ j hj=>hrd j (by simp[aS,hj]));refine⟨hs1++hs2,o1++o2,ig p1 p2,λae=>?_⟩;simp[bH,nL,q1,q2,eO]
 |d::ds,.ref c::l,a,h,hc,hrd=>by simp[tJ]at h;rw[ah]at h;obtain⟨x,h1,h⟩:=h;rw[ah]at h;obtain⟨q,h2,h⟩:=h;cases h;obtain⟨hs1,o1,p1,q1⟩:=afd (P:=P) (rd:=rd) h1 (λ j hj=>hrd j (by simp[aS,hj]));obtain⟨hs2,o2,p2,q2⟩:=uI (n:=n) wx h2 hc (λ j hj=>hrd j (by simp[aS,hj]));refine⟨hs1++hs2,o1++o2,ig p1 p2,λae=>?_⟩;simp[bH,nL,q1,q2,eO]
 |d::ds,.eC as r::l,a,h,hc,hrd=>by
  simp[tJ]at h;rw[ah]at h;obtain⟨Z,h1,h⟩:=h;rw[ah]at h;obtain⟨q,h2,h⟩:=h;cases h;have hd:∃hs obs,(∀ p∈obs,p)/\∀ae,qd P (dN rd (fK get)) (den d) (hs++ae)=some (den (.eC as r Z.1:DV X),ae,obs):=by
   cases d
   case eC as' r' ψ=>
    simp only at h1;split at h1;rename_i e;obtain⟨rfl,rfl⟩:=e;cases h1;exact⟨[],[],by simp,λae=>rfl⟩;cases h1
   case fn f first caps=>
    obtain⟨hs,obs,g1,g2⟩:=wx f first caps as r Z rd h1 (λ b hb=>hc b (by simp[hb])) (λ j hj=>hrd j (by simp only[aS,cd,bI]at hj |-;exact .inl hj))
    exact⟨hs,obs,g1,λae=>by simp[den];exact g2 ae⟩
   all_goals simp at h1
  obtain⟨hs1,o1,p1,q1⟩:=hd;obtain⟨hs2,o2,p2,q2⟩:=uI (n:=n) wx h2 (λ b hb=>hc b (by simp[hb])) (λ j hj=>hrd j (by simp[aS,hj]));refine⟨hs1++hs2,o1++o2,ig p1 p2,λae=>?_⟩;simp[bH,nL,q1,q2,eO]
 |_::_,.mut _::_,_,h,_,_|_::_,.lh _::_,_,h,_,_|_::_,.nil::_,_,h,_,_|[],_::_,_,h,_,_|_::_,[],_,h,_,_=>by simp[tJ]at h
theorem ah5{n:Nat}:∀{l:Y (AT X.ι)}(a:jg X l),l=[]->eO n l a=[]
 |_,_,rfl=>rfl
theorem tX(hΓ:t7 P Γ):∀(m:Nat){n:Nat}{ds:Y (DV X)}{l:Y (AT X.ι)}{a:jg X l×List Bool}{rd:Y Nat},Ty Γ get m ds l=some a->(∀ b∈a.2,b=true)->(∀ j∈aS ds,j∈rd)->
 ∃hs obs,(∀ p∈obs,p)/\∀ae,nL P (dN rd (fK get)) (bH ds) (hs++ae)=some (eO n l a.1,ae,obs)
 | 0,n,ds,l,a,rd,h,hcs,hrd=>uI (λ _ _ _ _ _ _ _ h=>by cases h) h hcs hrd
 |m+1,n,ds,l,a,rd,h,hcs,hrd=>by
  refine uI (λ f first caps as r Z rd' hc hb LS=>?_) h hcs hrd;rw[ah]at hc;obtain⟨s,h1,hc⟩:=hc;split at hc;rename_i sa r' fn _;split at hc;rename_i e;obtain⟨rfl,e2,e3⟩:=e;have⟨hf,h2,hc⟩:=ah.1 hc;have⟨hcap,h3,hc⟩:=ah.1 hc;injection hc with hc;rw[<- hc]at hb;obtain⟨g1,g2,_⟩:=hΓ f _ h1;obtain⟨hs1,o1,p1,q1⟩:=tX hΓ m h2 (n:=0) (rd:=rd') (λ b hb'=>hb b (by simp[hb'])) (λ j hj=>LS j (by simp[hj]));obtain⟨hs2,o2,p2,q2⟩:=tX hΓ m h3 (n:=0+xM (sa.take first.length)+xM (as.map AT.d)) (rd:=rd') (λ b hb'=>hb b (by simp[hb'])) (λ j hj=>LS j (by simp[hj]));refine⟨.eC (λ ts u=>∃h x,Z.1 h=some x/\ts=HL.oY X.toSE as h/\u=CT.tv X.toSE r' x)::(hs1++hs2),o1++(o2++[eO 0 _ hf.1=[]/\eH P f/\∀args r,(∃ h x,Z.1 h=some x/\args=HL.oY X.toSE as h/\r=CT.tv X.toSE r' x)->sq P f (eO 0 _ hf.1++args.map TV.av++eO (0+xM (sa.take first.length)+xM (as.map AT.d)) _ hcap.1) (.one (.d r))]),?_,λae=>?_⟩;intro p hp;simp only[bI,bC]at hp;rcases hp with hp|hp|hp;exact p1 p hp;exact p2 p hp;subst hp;refine⟨ah5 _ (by rw[e3];rfl),g1,?_⟩;rintro args r ⟨x,y,hxy,rfl,rfl⟩;rw[<- hc]at hxy;have hxy':fn (e2 ▸ A0 _ _ hf.1 (A0 _ _ (hlA as x) hcap.1))=some y:=hxy;have:=g2 _ _ hxy';have hnm:(sa.all λq=>!q.im)=true:=by rw[e2,List.all_append,List.all_append,afe h2,afe h3,adn];rfl
  rw[IX hnm,zF,ah4 e2.symm,uH,uH,QT,<- aU]at this;exact pu this;simp[qd,q1,q2];rfl;cases hc;cases hc
end
end
def Tz(s:ByteArray)(n:Int):J Int:=bif decide (0<=n)then(s[n.toNat]?).map λb=>(b.toNat:Int)else none
def qg(m:Int)(bytes:Nat):Bool:=decide (0<=m)&&decide (m.toNat*bytes<=140737488355328)&&decide (m.toNat<=maxLen)
def gQ{K V:Type}(eq:K->K->Bool)(k:K):Y (K×V)->J V
 |[]=>none
 |p::r=>bif eq k p.1 then some p.2 else gQ eq k r
def GL{K V:Type}(eq:K->K->Bool)(k:K)(v:V):Y (K×V)->Y (K×V)
 |[]=>[(k,v)]
 |p::r=>bif eq k p.1 then(k,v)::r else p::GL eq k v r
def iEq(a b:Int):Bool:=a==b
def fg(a b:ByteArray):Bool:=a.toList==b.toList
def bEq(a b:Bool):Bool:=a==b
section
variable {X:SX} {A:Type}
def Oh:(c:CT X.ι)->J (CT.T X.toSE c->CT.T X.toSE c->Bool)
 |.int _=>some iEq
 |.str=>some fg
 |.bool=>some bEq
 |_=>none
def HB{ι:Type}:C7->CT ι->Bool
 |.int a,.int b=>decide (a=b)
 |.str,.str=>true
 |.bool,.bool=>true
 |_,_=>false
def arA{ι:Type}:CT ι->Bool
 |.st _=>true
 |_=>false
theorem iO(a b:Y (DV X)):bH (a++b)=bH a++bH b:=by simp[pz]
theorem tY(a b:Y (Nat×Option (ci X))):ja (a++b)=ja a++ja b:=by simp[ja]
def Oi(ab:Y Nat):Y (Nat×Option (ci X)):=ab.map λj=>(j,none)
theorem Dx(ab:Y Nat):ja (Oi (X:=X) ab)=ab.map λk=>(k,none):=by simp[ja,Oi]
theorem Ko{ab:Y Nat}{p:Nat×Option (ci X)}(h:p∈Oi ab):p.1∈ab:=by simp[Oi]at h;obtain⟨j,hj,rfl⟩:=h;exact hj
variable (T:eM) (code:TypeId->Option (CT X.ι))
def ah7:DV X->Bool
 |.nil=>true
 |_=>false
def IF(op:BinOp)(b:DV X)(yes:Bool)(k:KK X A):J A:=
 match op with
 |.eql=>bif yes then k b [] [] []else k (.c .bool false) [] [] []
 |.neq=>bif yes then k b [] [] []else k (.c .bool true) [] [] []
 |_=>none
def aqC(op:BinOp)(t:E)(x:DV X)(k:KK X A):J A:=
 (T t).bind λti=>match ti.k,x with
 |.slice _,.c (.sl _) l=>IF op .ub (List.isEmpty l) k
 |.slice _,.own _ _ len=>IF op .ub (len==0) k
 |.slice _,.oz _ len=>IF op (.c .bool (op==.eql)) (len==0) k
 |.slice _,.nil=>IF op (.c .bool (op==.eql)) true k
 |_,_=>none
def aqg(s d:E)(x:DV X)(k:KK X A):J A:=
 (T s).bind λ_=>(T d).bind λdi=>match di.k,x with
 |.int kd,.c (.int _) n=>k (.c (.int kd) (kd.wrap (iN n))) [] [] []
 |_,_=>none
def amW(t:E)(x j:DV X)(k:KK X A):J A:=
 (T t).bind λti=>match ti.k,x,j with
 |.str,.c .str s,.c (.int _) n=>(Tz s n).bind λb=>k (.c (.int .u8) b) [] [] []
 |.arr m e,.agg cs,.c (.int _) q=>(T e).bind λei=>bif cV q m then(IQ ei.agg ei.size ((cs.drop (q.toNat*ei.size)).take ei.size)).bind λv=>k v [] [] []else none
 |_,_,_=>none
def abM(t:E)(x:DV X)(lo hi:J (DV X))(k:KK X A):J A:=
 (T t).bind λti=>match ti.k,x with
 |.slice e,.nil=>(T e).bind λ_=>(C6 0 lo).bind λl=>(C6 0 hi).bind λh=>bif decide (l=0)&&decide (h=0)then k .nil [] [] []else none
 |_,_=>none
def QU(i:Nat)(b:Builtin)(args:Y (DV X))(ej:Y TypeId)(get:Nat->J (ci X))(k:KK X A):J A:=
 match b,args,ej with
 |.cap,[.nil],[t]=>(T t).bind λti=>match ti.k with
  |.slice _=>k (.c (.int .i64) (0:Int)) [] [] []
  |_=>none
 |.clear,[.own kk aa _],[t]=>(T t).bind λti=>match ti.k with
  |.slice e=>(T e).bind λei=>(get kk).bind λo=>match o with
   |.eK c l=>if CT.sz X c=ei.size then k (.eE []) [(kk,some (.eK c (l.take aa)))] [kk] [kk]else none
   |_=>none
  |_=>none
 |.append,[.nil,.c (.int _) m],[t,u]=>(T t).bind λti=>(T u).bind λui=>match ti.k,ui.k with
  |.slice e,.int _=>(T e).bind λei=>(code e).bind λc=>if CT.sz X c=ei.size/\0<ei.size then(Ob c (ei.zero.map yl)).bind λz=>
   bif qg (iN m) ei.bytes then k (.own (cD i) 0 m.toNat) [(cD i,some (.eK c (List.replicate m.toNat z)))] [] []else none else none
  |_,_=>none
 |_,_,_=>none
def QV(x:DV X)(k:KK X A):J A:=
 match x with
 |.ptr kk r f=>k (.ptr kk r f) [] [] []
 |.sB kk n f=>k (.sB kk n f) [] [] []
 |.vi kk r f m n=>k (.vi kk r f m n) [] [] []
 |.rp c y f=>k (.rp c y f) [] [] []
 |_=>none
def amX(i:Nat)(t:E)(l c:DV X)(k:KK X A):J A:=
 (T t).bind λti=>match ti.k,l,c with
 |.slice e,.c (.int _) n,.c (.int _) m=>(T e).bind λei=>(code e).bind λc=>if CT.sz X c=ei.size/\0<ei.size then(Ob c (ei.zero.map yl)).bind λz=>
  bif decide (iN n<=iN m)&&(decide (0<=iN n)&&qg (iN m) ei.bytes)then k (.own (cD i) 0 n.toNat) [(cD i,some (.eK c (List.replicate n.toNat z)))] [] []else none else none
 |_,_,_=>none
def Xv(i:Nat)(t:E)(k:KK X A):J A:=
 (T t).bind λti=>match ti.k with
 |.map kt et=>(code kt).bind λkc=>(code et).bind λvc=>k (.mp (cD i)) [(cD i,some (.map kc vc []))] [] []
 |_=>none
def ado(t:E)(x key:DV X)(ok:Bool)(get:Nat->J (ci X))(k:KK X A):J A:=
 (T t).bind λti=>match ti.k,x with
 |.map kt et,.mp kk=>(T kt).bind λki=>(T et).bind λei=>(get kk).bind λo=>match o with
  |.map kc vc l=>(Oh kc).bind λeq=>(Mt key kc).bind λkv=>if HB ki.k kc=true/\ei.agg=arA vc/\ei.size=CT.sz X vc then(Ob vc (ei.zero.map yl)).bind λz=>
   bif ok then k (.eE [.c vc ((gQ eq kv l).getD z),.c .bool (gQ eq kv l).isSome]) [] [kk] []else k (.c vc ((gQ eq kv l).getD z)) [] [kk] []else none
  |_=>none
 |_,_=>none
def adp(t:E)(x key y:DV X)(get:Nat->J (ci X))(k:KK X A):J A:=
 (T t).bind λti=>match ti.k,x with
 |.map kt _,.mp kk=>(T kt).bind λki=>(get kk).bind λo=>match o with
  |.map kc vc l=>(Oh kc).bind λeq=>(Mt key kc).bind λkv=>(dat y vc).bind λv=>if HB ki.k kc=true then k .undef [(kk,some (.map kc vc (GL eq kv v l)))] [kk] [kk]else none
  |_=>none
 |_,_=>none
def arB(o:Op)(ρ:Operand->DV X):Bool:=
 match o with
 |.binOp _ _ _ y _=>ah7 (ρ y)
 |.convert _ _ _=>true
 |.index _ _ _=>true
 |.nilCheck _=>true
 |.makeSlice _ _ _=>true
 |.makeMap _ none=>true
 |.lookup _ _ _ _=>true
 |.mapUpdate _ _ _ _=>true
 |.slice _ x _ _ none=>ah7 (ρ x)
 |.call { callee:=.builtin b,args:=args,argTypes:=_ }=>match b,args.toList.map ρ with
  |.cap,_=>true
  |.clear,_=>true
  |.append,[_,.c (.int _) _]=>true
  |_,_=>false
 |_=>false
def aqD(i:Nat)(o:Op)(ρ:Operand->DV X)(get:Nat->J (ci X))(k:KK X A):J A:=
 match o with
 |.binOp op t x y _=>if ah7 (ρ y)then aqC T op t (ρ x) k else none
 |.convert s d x=>aqg T s d (ρ x) k
 |.index t x j=>amW T t (ρ x) (ρ j) k
 |.slice t x lo hi none=>abM T t (ρ x) (lo.map ρ) (hi.map ρ) k
 |.nilCheck x=>QV (ρ x) k
 |.makeSlice t l c=>amX T code i t (ρ l) (ρ c) k
 |.makeMap t none=>Xv T code i t k
 |.lookup t m x ok=>ado T t (ρ m) (ρ x) ok get k
 |.mapUpdate t m x v=>adp T t (ρ m) (ρ x) (ρ v) get k
 |.call { callee:=.builtin b,args:=args,argTypes:=ej }=>QU T code i b (args.toList.map ρ) ej.toList get k
 |_=>none
def OK(get:Nat->J (ci X))(c:CT X.ι)(ρ:Operand->DV X)(x:Operand):DV X:=
 match Gx get (ρ x) c with
 |some y=>.c c y.1
 |none=>ρ x
def S3(get:Nat->J (ci X))(c:CT X.ι)(ρ:Operand->DV X):Y Operand->Y Bool
 |[]=>[]
 |x::xs=>(match Gx get (ρ x) c with|some y=>y.2|none=>[])++S3 get c ρ xs
def CN(get:Nat->J (ci X))(c:CT X.ι)(ρ:Operand->DV X):Y Operand->Y Nat
 |[]=>[]
 |x::xs=>(match Gx get (ρ x) c with|some _=>cd (ρ x)|none=>[])++CN get c ρ xs
def ao8(o:Op)(ρ:Operand->DV X)(get:Nat->J (ci X)):J (CT X.ι):=
 match o with
 |.box t _=>code t
 |.assign x|.move x=>match ρ x with
  |.own kk _ _=>(get kk).bind λo=>match o with
   |.eK c _=>some (.sl c)
   |_=>none
  |_=>none
 |.buildSlice t _ _=>(T t).bind λti=>match ti.k with
  |.slice e=>code e
  |_=>none
 |.store t _ _=>code t
 |_=>none
def arC(o:Op)(ρ:Operand->DV X):Bool:=
 match o with
 |.buildSlice _ _ parts=>!(aS (parts.toList.map λp=>ρ p.2)).isEmpty
 |.store _ a x=>match ρ a with
  |.sB _ _ _=>!(cd (ρ x)).isEmpty
  |_=>false
 |_=>false
def aqE(i:Nat)(o:Op)(ρ:Operand->DV X)(get:Nat->J (ci X))(k:KK X A):J A:=
 if ahK o then none else(ao8 T code o ρ get).bind λc=>Xg (S3 get c ρ o.operands.toList)
  (Rd T code i o (OK get c ρ) (λ j=>if j∈CN get c ρ o.operands.toList then none else get j) λdv upd rd wr=>
   k dv (upd++Oi (CN get c ρ o.operands.toList)) (rd++CN get c ρ o.operands.toList) (wr++CN get c ρ o.operands.toList))
def arD(o:Op)(ρ:Operand->DV X):Bool:=
 match o with
 |.indexAddr t x (.tmp _)=>match ρ x,T t with
  |.ptr _ _ _,some ti|.rp _ _ _,some ti=>match ti.k with
   |.arr _ e=>match T e with
    |some ei=>ei.size==1
    |none=>false
   |_=>false
  |_,_=>false
 |.load _ a=>match ρ a with
  |.vi _ _ _ _ _|.As _ _ _ _ _=>true
  |_=>false
 |_=>false
def HA(c:CT X.ι):Y (DV X)->J (List (CT.T X.toSE c))
 |[]=>some []
 |.c a x::r=>(lG a c x).bind λy=>(HA c r).bind λl=>some (y::l)
 |_=>none
def aqF(o:Op)(ρ:Operand->DV X)(get:Nat->J (ci X))(k:KK X A):J A:=
 match o with
 |.indexAddr t x j=>(T t).bind λti=>match ti.k,ρ x,ρ j with
  |.arr m e,.ptr kk row aa,.c (.int _) n=>(T e).bind λei=>if ei.size=1 then bif cV n m then k (.vi kk row aa m n) [] [] []else none else none
  |.arr m e,.rp c y aa,.c (.int _) n=>(T e).bind λei=>if ei.size=1 then bif cV n m then k (.As c y aa m n) [] [] []else none else none
  |_,_,_=>none
 |.load t a=>(T t).bind λti=>match ρ a with
  |.vi kk row aa m n=>if ti.size=1/\ti.agg=false then(code t).bind λc=>if c.one=true then(get kk).bind λo=>match o with
   |.cells _ rows=>(rows[row]?).bind λq=>(HA c ((q.drop aa).take m)).bind λ(xs:List (CT.T X.toSE c))=>(bx xs n).bind λy=>k (.c c y) [] [kk] []
   |.eK _ _=>none
   |_=>none
   else none else none
  |.As b y aa m n=>if ti.size=1/\ti.agg=false then(code t).bind λc=>if c.one=true then(HA c (((wE b y).drop aa).take m)).bind λ(xs:List (CT.T X.toSE c))=>(bx xs n).bind λy=>k (.c c y) [] [] []
   else none else none
  |_=>none
 |_=>none
variable {T code}
def eJ(P:Q)(T:eM)(i:Nat)(o:Oper)(ρ:Operand->DV X)(get:Nat->J (ci X))(k:KK X A)(r:A):Prop:=
 ∃cP rd wr dv upd out,jV P T i o cP (λ x=>den (ρ x)) (dN rd (fK get))=some out/\iZ out.obs/\out.v=den dv/\out.upd=ja upd/\(∀ p∈upd,p.1=cD i\/p.1∈wr)/\k dv upd rd wr=some r
section
variable {P:Program} {get:Nat->Option (ci X)} {k:KK X A} {r:A} {i:Nat} {o:Oper} {ρ:Operand->DV X}
theorem amZ{t:E}{x:AV}{cP:kx}(h:(∃ n,cP=.ext n)\/∃ab fr q,cP=.AN ab fr q):C5 T t x .none=C5 T t x cP:=by grind [C5]
theorem Xw{t:E}{x j:AV}{cP:kx}{get:S}(h:(∃ n,cP=.ext n)\/∃ab fr q,cP=.AN ab fr q):ny T t x j .none get=ny T t x j cP get:=by
 unfold ny;rcases T t with _|ti;rfl;simp;generalize ti.k=kk;cases kk<;>try rfl
 case arr m e=>
  cases j<;>try rfl
  rename_i y;cases y<;>try rfl
  rename_i y;cases y<;>rfl
 cases j<;>try rfl
 rename_i e y;cases y<;>try rfl
 rename_i y;cases y<;>try rfl
 simp;rcases T e with _|ei;rfl;rcases h with ⟨n,rfl⟩|⟨ab,fr,q,rfl⟩<;>cases x<;>try rfl
 all_goals (rename_i z;cases z<;>rfl)
theorem afg{t:E}{x y:AV}{cP:kx}{get:S}(h:(∃ n,cP=.ext n)\/∃ab fr q,cP=.AN ab fr q):A7 T i t x y .none get=A7 T i t x y cP get:=by grind [A7]
theorem ak2{cP:kx}{ρ:Operand->AV}{get:S}(h:(∃ n,cP=.ext n)\/∃ab fr q,cP=.AN ab fr q):rO T i o .none ρ get=rO T i o cP ρ get:=by
 obtain⟨dst,op,ty,am,after,guard⟩:=o;cases op
 case call c=>
  obtain⟨callee,args,ej⟩:=c;cases callee<;>try rfl
  simp[rO,Dq];split;exact amZ h;rfl;rfl;rw[afg h];rfl
 case slice t x lo hi mx=>cases mx<;>rcases h with ⟨n,rfl⟩|⟨ab,fr,q,rfl⟩<;>rfl
 case makeFunc fn a b=>cases fn<;>rfl
 case indexAddr t x j=>exact Xw h
 all_goals (rcases h with ⟨n,rfl⟩|⟨ab,fr,q,rfl⟩<;>rfl)
theorem eJ.ext{n:Int}{rd wr:Y Nat}{dv:DV X}{upd:Y (Nat×Option (ci X))}{out:Out}(h:uD T i o n (λ x=>den (ρ x)) (dN rd (fK get))=some out)(h1:iZ out.obs)(h2:out.v=den dv)(h3:out.upd=ja upd)(h4:∀p∈upd,p.1=cD i\/p.1∈wr)(h5:k dv upd rd wr=some r)(hx:Pi o.op=false:=by rfl):eJ P T i o ρ get k r:=
 ⟨.ext n,rd,wr,dv,upd,out,by show uE T i o n _ _=some out;unfold uE;rw[hx];simp[h],h1,h2,h3,h4,h5⟩
theorem eJ.yi{n:Int}{rd wr:Y Nat}{dv:DV X}{upd:Y (Nat×Option (ci X))}{out:Out}(h:EO T i o n (λ x=>den (ρ x)) (dN rd (fK get))=some out)(h1:iZ out.obs)(h2:out.v=den dv)(h3:out.upd=ja upd)(h4:∀p∈upd,p.1=cD i\/p.1∈wr)(h5:k dv upd rd wr=some r)(hx:Pi o.op=true:=by rfl):eJ P T i o ρ get k r:=
 ⟨.ext n,rd,wr,dv,upd,out,by show uE T i o n _ _=some out;unfold uE;rw[hx];simp[h],h1,h2,h3,h4,h5⟩
theorem Uq{x:DV X}(h:QV x k=some r):∃dv,QE (den x)=some ⟨den dv,[],[]⟩/\k dv [] [] []=some r:=by cases x<;>simp[QV]at h<;>first|cases h|exact⟨_,rfl,h⟩
theorem abN{cP:kx}{ρ:Operand->AV}{get:S}(hne:∀f args ej,o.op≠.call { callee:=.value f,args:=args,argTypes:=ej })(ho:∀n,cP≠.ext n)(hf:∀ab fr q,cP≠.AN ab fr q):jV P T i o cP ρ get=rO T i o cP ρ get:=by
 have e:∀(α:Type) (a:Operand->Array Operand->Array TypeId->α) (b:α),(match o.op with|.call { callee:=.value f,args:=args,argTypes:=ej }=>a f args ej|_=>b)=b:=by grind
 cases cP<;>first|exact(ho _ rfl).elim|exact(hf _ _ _ rfl).elim|exact e _ _ _
theorem eJ.op{cP:kx}{rd wr:Y Nat}{dv:DV X}{upd:Y (Nat×Option (ci X))}{out:Out}(hne:∀f args ej,o.op≠.call { callee:=.value f,args:=args,argTypes:=ej })
 (h:rO T i o cP (λ x=>den (ρ x)) (dN rd (fK get))=some out) (h1:iZ out.obs/\out.v=den dv/\out.upd=ja upd/\(∀ p∈upd,p.1=cD i\/p.1∈wr)/\k dv upd rd wr=some r):eJ P T i o ρ get k r:=by
 obtain⟨xv,h'⟩:∃xv,jV P T i o xv (λ x=>den (ρ x)) (dN rd (fK get))=some out:=by by_cases hx:(∃ n,cP=.ext n)\/∃ab fr q,cP=.AN ab fr q;refine⟨.none,?_⟩;rw[abN hne (by simp) (by simp),ak2 hx,h];simp at hx;exact⟨cP,by rw[abN hne hx.1 (λ ab fr q=>hx.2 ab fr q),h]⟩
 exact⟨xv,rd,wr,dv,upd,out,h',h1⟩
theorem eJ.call{dst:J Tmp}{f:Operand}{args:Array Operand}{ej:Array TypeId}{ty:E}{am:String}{after:Array Edge}{guard:J (Nat×Bool)}{cP:kx}{rd wr:Y Nat}{dv:DV X}{upd:Y (Nat×Option (ci X))}{out:Out}
 (h:lY P i (den (ρ f)) (args.toList.map λx=>den (ρ x)) cP (dN rd (fK get))=some out) (h1:iZ out.obs/\out.v=den dv/\out.upd=ja upd/\(∀ p∈upd,p.1=cD i\/p.1∈wr)/\k dv upd rd wr=some r):
 eJ P T i ⟨dst,.call { callee:=.value f,args:=args,argTypes:=ej },ty,am,after,guard⟩ ρ get k r:=by
 refine⟨cP,rd,wr,dv,upd,out,?_,h1⟩;unfold jV
 all_goals grind [lY,sD,A9]
theorem Kq{op:BinOp}{b:DV X}{yes:Bool}(h:IF op b yes k=some r):∃dv out,Hx op (den b) yes=some out/\iZ out.obs/\out.v=den dv/\out.upd=[]/\k dv [] [] []=some r:=by
 unfold IF at h;split at h;cases yes with
 |true=>exact⟨b,_,rfl,trivial,rfl,rfl,h⟩
 |false=>exact⟨.c .bool false,_,rfl,trivial,rfl,rfl,h⟩
 cases yes with
 |true=>exact⟨b,_,rfl,trivial,rfl,rfl,h⟩
 |false=>exact⟨.c .bool true,_,rfl,trivial,rfl,rfl,h⟩
 cases h
theorem ah9{op:BinOp}{t:E}{x:DV X}(h:aqC T op t x k=some r):∃dv out,C3 T op t (den x) .d5=some out/\iZ out.obs/\out.v=den dv/\out.upd=[]/\k dv [] [] []=some r:=by unfold aqC at h;rw[ah]at h;obtain⟨ti,h1,h⟩:=h;split at h;rename_i e c l hk;have⟨dv,out,g1,g2⟩:=Kq h;refine⟨dv,out,?_,g2⟩;simp[C3,h1,hk];rw[<- g1];cases l<;>rfl;rename_i e kk aa len hk;have⟨dv,out,g1,g2⟩:=Kq h;exact⟨dv,out,by simp[C3,h1,hk];exact g1,g2⟩;rename_i e kk len hk;have⟨dv,out,g1,g2⟩:=Kq h;exact⟨dv,out,by simp[C3,h1,hk];exact g1,g2⟩;rename_i e hk;have⟨dv,out,g1,g2⟩:=Kq h;exact⟨dv,out,by simp[C3,h1,hk];exact g1,g2⟩;cases h
theorem aia{s:ByteArray}{n b:Int}(h:Tz s n=some b):0<=n/\∃c,s[n.toNat]? =some c/\b=c.toNat:=by
 unfold Tz at h
 all_goals grind
theorem abO{m:Int}{bytes:Nat}(h:qg m bytes=true):0<=m/\m.toNat*bytes<=140737488355328/\m.toNat<=maxLen:=by simpa[qg,and_assoc]using h
theorem Ur{b:Builtin}{args:Y (DV X)}{ej:Y TypeId}(h:QU T code i b args ej get k=some r):
 ∃rd wr dv upd out,wz T i b (bH args) ej (dN rd (fK get))=some out/\iZ out.obs/\out.v=den dv/\out.upd=ja upd/\(∀ p∈upd,p.1=cD i\/p.1∈wr)/\k dv upd rd wr=some r:=by unfold QU at h;split at h;rw[ah]at h;obtain⟨ti,h1,h⟩:=h;split at h;rename_i e hk;refine⟨[],[],_,[],⟨.t (.sc (.int .i64 0)),[],[]⟩,?_,trivial,rfl,rfl,by simp,h⟩;simp[wz,bH,den,h1,hk];rfl;cases h;rename_i kk aa len t;rw[ah]at h;obtain⟨ti,h1,h⟩:=h;split at h;rename_i e hk;rw[ah]at h;obtain⟨ei,h2,h⟩:=h;rw[ah]at h;obtain⟨o,h3,h⟩:=h;split at h;rename_i c l;split at h;rename_i hs;refine⟨[kk],[kk],_,_,⟨.eE [],[(kk,some ⟨CT.sz X c,(aJ (l.map (CT.row X.toSE c))).take aa⟩)],[]⟩,?_,trivial,rfl,?_,by simp,h⟩;simp only[wz,bH,den,h1,ai,hk,h2,fA (List.mem_singleton_self kk) h3,bL];rw[aP hs];simp[ja,bL,aJ];cases h;cases h;cases h;rename_i kd m t u;rw[ah]at h;obtain⟨ti,h1,h⟩:=h;rw[ah]at h;obtain⟨ui,h2,h⟩:=h;split at h;rename_i e kn hk hk';rw[ah]at h;obtain⟨ei,h3,h⟩:=h;rw[ah]at h;obtain⟨c,h4,h⟩:=h;split at h;rename_i hs;have⟨z,h5,h⟩:=ah.1 h;have⟨h6,h⟩:=dZ h;have⟨m1,m2,m3⟩:=abO h6;have hz:=zk h5;rw[Du]at hz;refine⟨[],[],_,_,⟨.own (cD i) 0 m.toNat,[(cD i,some ⟨ei.size,dW (List.replicate m.toNat (ei.zero.map cv))⟩)],[0<=m/\m.toNat*ei.bytes<=140737488355328/\m.toNat<=maxLen/\0<ei.size]⟩,?_,?_,rfl,?_,by simp,h⟩;simp[wz,bH,den,CT.tv,TV.av,h1,h2,h3,hk,hk'];exact⟨m1,m2,m3,hs.2⟩;simp only[ja,bq,map_nil,Option.map_some,bL,hs.1,aJ,dW,List.map_replicate];rw[hz];cases h;cases h;cases h
theorem afh{t:E}{l c:DV X}(h:amX T code i t l c k=some r):∃dv upd out,P2 T i t (den l) (den c)=some out/\iZ out.obs/\out.v=den dv/\out.upd=ja upd/\(∀ p∈upd,p.1=cD i)/\k dv upd [] []=some r:=by unfold amX at h;rw[ah]at h;obtain⟨ti,h1,h⟩:=h;split at h;rename_i e kl n kc m hk;rw[ah]at h;obtain⟨ei,h3,h⟩:=h;rw[ah]at h;obtain⟨c,h4,h⟩:=h;split at h;rename_i hs;rw[ah]at h;obtain⟨z,h5,h⟩:=h;have⟨h6,h⟩:=dZ h;simp at h6;obtain⟨h7,h8,h9⟩:=h6;have⟨m1,m2,m3⟩:=abO h9;have hz:=zk h5;rw[Du]at hz;refine⟨_,_,⟨.own (cD i) 0 n.toNat,[(cD i,some ⟨ei.size,dW (List.replicate n.toNat (ei.zero.map cv))⟩)],[0<=n/\n<=m/\m.toNat*ei.bytes<=140737488355328/\m.toNat<=maxLen/\0<ei.size]⟩,?_,?_,rfl,?_,by simp,h⟩;simp[P2,den,CT.tv,TV.av,h1,h3,hk];exact⟨h8,h7,m2,m3,hs.2⟩;simp only[ja,bq,map_nil,Option.map_some,bL,hs.1,aJ,dW,List.map_replicate];rw[hz];cases h;cases h
theorem Xx{t:E}(h:Xv T code i t k=some r):∃dv upd out,IE T i t=some out/\iZ out.obs/\out.v=den dv/\out.upd=ja upd/\(∀ p∈upd,p.1=cD i)/\k dv upd [] []=some r:=by unfold Xv at h;rw[ah]at h;obtain⟨ti,h1,h⟩:=h;split at h;rename_i kt et hk;have⟨kc,h2,h⟩:=ah.1 h;have⟨vc,h3,h⟩:=ah.1 h;exact⟨_,_,⟨.mp (cD i),[(cD i,some ⟨0,[]⟩)],[]⟩,by simp[IE,h1,hk],trivial,rfl,rfl,by simp,h⟩;cases h
theorem am0{ki:p6}{kc:CT X.ι}(h:HB ki.k kc=true)(x:CT.T X.toSE kc):∃v,(CT.tv X.toSE kc x).av=.t (.sc v)/\NR ki.k v=true:=by
 cases kc
 case int b=>
  refine⟨.int b x,rfl,?_⟩;cases hk:ki.k<;>rw[hk]at h<;>simp[HB]at h;subst h;simp[NR]
 case str=>
  refine⟨.string x,rfl,?_⟩;cases hk:ki.k<;>rw[hk]at h<;>simp[HB]at h;rfl
 case bool=>
  refine⟨.bool x,rfl,?_⟩;cases hk:ki.k<;>rw[hk]at h<;>simp[HB]at h;rfl
 all_goals (cases hk:ki.k<;>rw[hk]at h<;>simp[HB]at h)
theorem afi{kc:CT X.ι}{eq:CT.T X.toSE kc->CT.T X.toSE kc->Bool}(h:Oh kc=some eq){a b:CT.T X.toSE kc}{va:Ω}(ha:(CT.tv X.toSE kc a).av=.t (.sc va)):∃vb,(CT.tv X.toSE kc b).av=.t (.sc vb)/\NS va vb=some (eq a b):=by
 cases kc
 case int q=>
  simp[Oh]at h;subst h;simp[CT.tv,TV.av]at ha;subst ha;exact⟨_,rfl,by simp[NS,iEq]⟩
 case str=>
  simp[Oh]at h;subst h;simp[CT.tv,TV.av]at ha;subst ha;exact⟨_,rfl,by simp[NS,fg]⟩
 case bool=>
  simp[Oh]at h;subst h;simp[CT.tv,TV.av]at ha;subst ha;exact⟨_,rfl,by simp[NS,bEq]⟩
 all_goals simp[Oh]at h
theorem abP{kc vc:CT X.ι}{eq:CT.T X.toSE kc->CT.T X.toSE kc->Bool}(h:Oh kc=some eq){a:CT.T X.toSE kc}{va:Ω}(ha:(CT.tv X.toSE kc a).av=.t (.sc va)):∀l:Y (CT.T X.toSE kc×CT.T X.toSE vc),
 ∃r,yH va (bL (.map kc vc l:ci X)).rows=some r/\r.map (·.2)=(gQ eq a l).map λv=>(CT.tv X.toSE vc v).av
 |[]=>⟨none,rfl,rfl⟩
 |p::l=>by
  have⟨vb,h1,h2⟩:=afi h (b:=p.1) ha;have⟨r,g1,g2⟩:=abP h ha l;have g1':yH va (l.map λp=>[(CT.tv X.toSE kc p.1).av,(CT.tv X.toSE vc p.2).av])=some r:=g1;simp[bL,h1,yH,h2,gQ];cases eq a p.1 with
  |true=>exact⟨_,rfl,rfl⟩
  |false=>
   simp only[Bool.false_eq_true,if_false,g1',Option.map_some,au];exact⟨_,rfl,by rw[<- g2,Option.map_map];rfl⟩
theorem afj{kc vc:CT X.ι}{eq:CT.T X.toSE kc->CT.T X.toSE kc->Bool}(h:Oh kc=some eq){a:CT.T X.toSE kc}{va:Ω}(ha:(CT.tv X.toSE kc a).av=.t (.sc va))(y:CT.T X.toSE vc):∀l:Y (CT.T X.toSE kc×CT.T X.toSE vc),
 Bm va (CT.tv X.toSE vc y).av (bL (.map kc vc l:ci X)).rows=some (bL (.map kc vc (GL eq a y l):ci X)).rows
 |[]=>by simp[bL,Bm,GL,ha]
 |p::l=>by
  have⟨vb,h1,h2⟩:=afi h (b:=p.1) ha;have g:=afj h ha y l;have g':Bm va (CT.tv X.toSE vc y).av (l.map λp=>[(CT.tv X.toSE kc p.1).av,(CT.tv X.toSE vc p.2).av])=some ((GL eq a y l).map λp=>[(CT.tv X.toSE kc p.1).av,(CT.tv X.toSE vc p.2).av]):=g;simp[bL,h1,Bm,GL]
  grind
theorem zero_den{vc:CT X.ι}{ei:p6}{z:CT.T X.toSE vc}(h:Ob vc (ei.zero.map yl)=some z)(ha:ei.agg=arA vc)(hs:ei.size=CT.sz X vc):part' ei.agg ei.size ((ei.zero.map cv).map wk)=some (CT.tv X.toSE vc z).av:=by
 have hz:=zk h;rw[Du]at hz;rw[hz,ha,hs];have hl:((CT.row X.toSE vc z).map AV.t).length=CT.sz X vc:=by rw[length_map,IL]
 unfold part';rw[aP hl];cases vc<;>rfl
theorem ao9{d:DV X}{c:CT X.ι}{x:CT.T X.toSE c}(h:dat d c=some x):HJ (den d)=(CT.tv X.toSE c x).av:=by
 cases c
 case st j=>
  replace h:Hp d j=some x:=h
  cases d
  case agg cs=>
   simp[Hp]at h;rw[ah]at h;obtain⟨g,h1,h⟩:=h;cases h;simp[den,HJ,(zC h1 (X.flat j)).1];rw[<- Xl];rfl
  case c a y=>
   rw[(pX h).1];simp only[den,CT.tv,TV.av,HJ,map_map];congr 1
  all_goals cases h
 all_goals
  (have h':=h
   have hd:=xI h';cases d
   case c a y=>
    obtain⟨e,_⟩:=tH (show lG a _ y=some x from h);subst e;exact hd
   all_goals first|exact hd|(cases h))
theorem aaq{t:E}{x key:DV X}{ok:Bool}(h:ado T t x key ok get k=some r):∃rd dv out,Kj T t (den x) (den key) ok (dN rd (fK get))=some out/\iZ out.obs/\out.v=den dv/\out.upd=[]/\k dv [] rd []=some r:=by
 unfold ado at h;rw[ah]at h;obtain⟨ti,h1,h⟩:=h;split at h
 .rename_i kt et kk hk;rw[ah]at h;obtain⟨ki,h2,h⟩:=h;rw[ah]at h;obtain⟨ei,h3,h⟩:=h;rw[ah]at h;obtain⟨o,h4,h⟩:=h;split at h
  .rename_i kc vc l;rw[ah]at h;obtain⟨eq,h5,h⟩:=h;rw[ah]at h;obtain⟨kv,h6,h⟩:=h;split at h
   .rename_i hc;have⟨z,h7,h⟩:=ah.1 h;have⟨va,g1,g2⟩:=am0 hc.1 kv;have⟨q,g3,g4⟩:=abP (vc:=vc) h5 g1 l;have hkey:den key=.t (.sc va):=(by have:=xI h6;rw[g1]at this;cases hd:den key<;>rw[hd]at this<;>simp only[wk,AV.t.injEq,reduceCtorEq]at this;subst this;rfl);have hv:∀q:J (Nat×AV),q.map (·.2)=(gQ eq kv l).map (λ v=>(CT.tv X.toSE vc v).av)->xy q (part' ei.agg ei.size ((ei.zero.map cv).map wk))=some (CT.tv X.toSE vc ((gQ eq kv l).getD z)).av:=by
     intro q g;cases hm:gQ eq kv l with
     |none=>
      rw[hm]at g;cases q with
      |none=>exact zero_den h7 hc.2.1 hc.2.2
      |some p=>simp at g
     |some v=>
      rw[hm]at g;cases q with
      |none=>simp at g
      |some p=>simp only[Option.map_some,bK]at g;simp only[xy,g,Option.getD_some]
    have hi:q.isSome=(gQ eq kv l).isSome:=(by have:=congrArg Option.isSome g4;simpa using this);have hb:Kj T t (den (.mp kk:DV X)) (den key) ok (dN [kk] (fK get))=pv (if ok then .eE [den (.c vc ((gQ eq kv l).getD z):DV X),.t (.sc (.bool q.isSome))]else den (.c vc ((gQ eq kv l).getD z):DV X)):=(by simp only[Kj,h1,ai,hk,den,hkey,h2,h3,fA (List.mem_singleton_self kk) h4];rw[aP ⟨g2,by simp[bL]⟩,g3,ai,hv q g4,ai]);cases ok with
    |true=>exact⟨[kk],_,_,hb,trivial,by simp only[if_true,den,bH,hi];rfl,rfl,h⟩
    |false=>exact⟨[kk],_,_,hb,trivial,rfl,rfl,h⟩
   .cases h
  .cases h
 .cases h
theorem aar{t:E}{x key y:DV X}(h:adp T t x key y get k=some r):∃rd wr dv upd out,Kk T t (den x) (den key) (den y) (dN rd (fK get))=some out/\iZ out.obs/\out.v=den dv/\out.upd=ja upd/\(∀ p∈upd,p.1∈wr)/\k dv upd rd wr=some r:=by
 unfold adp at h;rw[ah]at h;obtain⟨ti,h1,h⟩:=h;split at h
 .rename_i kt et kk hk;rw[ah]at h;obtain⟨ki,h2,h⟩:=h;rw[ah]at h;obtain⟨o,h4,h⟩:=h;split at h
  .rename_i kc vc l;rw[ah]at h;obtain⟨eq,h5,h⟩:=h;rw[ah]at h;obtain⟨kv,h6,h⟩:=h;rw[ah]at h;obtain⟨v,h7,h⟩:=h;split at h
   .rename_i hc;have⟨va,g1,g2⟩:=am0 hc kv;have g3:=afj (vc:=vc) h5 g1 v l;have hkey:den key=.t (.sc va):=(by have:=xI h6;rw[g1]at this;cases hd:den key<;>rw[hd]at this<;>simp only[wk,AV.t.injEq,reduceCtorEq]at this;subst this;rfl);refine⟨[kk],[kk],_,_,⟨.undef,[(kk,some ⟨(bL (.map kc vc (GL eq kv v l):ci X)).rows.length,(bL (.map kc vc (GL eq kv v l):ci X)).rows⟩)],[]⟩,?_,trivial,rfl,?_,by simp,h⟩
    .simp only[Kk,h1,ai,hk,den,hkey,h2,fA (List.mem_singleton_self kk) h4];rw[aP ⟨g2,by simp[bL]⟩,ao9 h7,g3];rfl
    .simp[ja,bL]
   .cases h
  .cases h
 .cases h
theorem aib(h:aqD T code i o.op ρ get k=some r):eJ P T i o ρ get k r:=by
 obtain⟨dst,op,ty,am,after,guard⟩:=o;unfold aqD at h;simp only at h;split at h
 .rename_i op t x y q;split at h
  .rename_i hn;have⟨dv,out,g1,g2,g3,g4,g5⟩:=ah9 h;have hy:den (ρ y)=.d5:=(by cases hρ:ρ y<;>rw[hρ]at hn<;>first|rfl|cases hn);exact eJ.ext (n:=0) (rd:=[]) (wr:=[]) (upd:=[]) (by simp only[uD,hy];exact g1) g2 g3 g4 (by simp) g5
  .cases h
 .rename_i s d x;unfold aqg at h;rw[ah]at h;obtain⟨si,h1,h⟩:=h;rw[ah]at h;obtain⟨di,h2,h⟩:=h;split at h
  .rename_i kd k' n hk hx;refine eJ.ext (n:=0) (rd:=[]) (wr:=[]) (upd:=[]) (out:=⟨.t (.sc (.int kd (kd.wrap n))),[],[]⟩) ?_ trivial rfl rfl (by simp) h;simp only[uD,T6,h1,h2,ai,hk,hx];rfl
  .cases h
 .rename_i t x j;unfold amW at h;rw[ah]at h;obtain⟨ti,h1,h⟩:=h;split at h
  .rename_i s kk n hk hx hj;rw[ah]at h;obtain⟨b,h2,h⟩:=h;refine eJ.ext (n:=b) (rd:=[]) (wr:=[]) (upd:=[]) (out:=⟨.t (.sc (.int .u8 b)),[],[0<=n/\∃c,s[n.toNat]? =some c/\b=c.toNat]⟩) ?_ (aia h2) rfl rfl (by simp) h;simp only[uD,WM,h1,ai,hk,hx,hj];rfl
  .rename_i m e cs kd q hk hx hj;rw[ah]at h;obtain⟨ei,h2,h⟩:=h;have⟨h3,h⟩:=dZ h;rw[ah]at h;obtain⟨v,h4,h⟩:=h;simp only[cV,aT,bf]at h3;refine eJ.ext (n:=0) (rd:=[]) (wr:=[]) (upd:=[]) (out:=⟨den v,[],[0<=q/\q<(m:Int)]⟩) ?_ h3 rfl rfl (by simp) h;have h5:=Dv h4;rw[kN]at h5;simp only[uD,WM,h1,ai,hk,hx,hj,h2,den,CT.tv,TV.av,h5];rfl
  .cases h
 .rename_i t x lo hi;unfold abM at h;rw[ah]at h;obtain⟨ti,h1,h⟩:=h;split at h
  .rename_i e hk hx;rw[ah]at h;obtain⟨ei,h2,h⟩:=h;rw[ah]at h;obtain⟨l,h3,h⟩:=h;rw[ah]at h;obtain⟨hh,h4,h⟩:=h;have⟨h5,h⟩:=dZ h;refine eJ.ext (n:=0) (rd:=[]) (wr:=[]) (upd:=[]) (out:=⟨.d5,[],[l=0/\hh=0]⟩) ?_ (show l=0/\hh=0 by simpa using h5) rfl rfl (by simp) h;have e1:=Dw h3;have e2:=Dw h4;rw[Option.map_map]at e1 e2;simp only[uD,Ki,h1,ai,hk,hx,h2,den];have Sa:bnd 0 (lo.map λx=>den (ρ x))=some l:=e1;have e2':bnd 0 (hi.map λx=>den (ρ x))=some hh:=e2;rw[Sa,ai,e2'];rfl
  .cases h
 .rename_i x;have⟨dv,g1,g2⟩:=Uq h;exact eJ.yi (n:=0) (rd:=[]) (wr:=[]) (upd:=[]) g1 trivial rfl rfl (by simp) g2
 .rename_i t l c;have⟨dv,upd,out,g1,g2,g3,g4,g5,g6⟩:=afh h;exact eJ.yi (n:=0) (rd:=[]) (wr:=[]) (upd:=upd) g1 g2 g3 g4 (λ p hp=>.inl (g5 p hp)) g6
 .rename_i t;have⟨dv,upd,out,g1,g2,g3,g4,g5,g6⟩:=Xx h;exact eJ.yi (n:=0) (rd:=[]) (wr:=[]) (upd:=upd) g1 g2 g3 g4 (λ p hp=>.inl (g5 p hp)) g6
 .rename_i t m x ok;have⟨rd,dv,out,g1,g2,g3,g4,g6⟩:=aaq h;exact eJ.yi (n:=0) (rd:=rd) (wr:=[]) (upd:=[]) g1 g2 g3 g4 (by simp) g6
 .rename_i t m x v;have⟨rd,wr,dv,upd,out,g1,g2,g3,g4,g5,g6⟩:=aar h;exact eJ.yi (n:=0) (rd:=rd) (wr:=wr) (upd:=upd) g1 g2 g3 g4 (λ p hp=>.inr (g5 p hp)) g6
 .rename_i b args ej;have⟨rd,wr,dv,upd,out,g1,g2,g3,g4,g5,g6⟩:=Ur h;refine eJ.ext (n:=0) (rd:=rd) (wr:=wr) (upd:=upd) ?_ g2 g3 g4 g5 g6;simp only[uD,VN];exact g1
 .cases h
theorem afk{c:CT X.ι}:∀{xs:Y Operand}{x:Operand}{y:CT.T X.toSE c×List Bool},x∈xs->Gx get (ρ x) c=some y->∀j∈cd (ρ x),j∈CN get c ρ xs
 |z::xs,x,y,hx,h,j,hj=>by simp[CN];rcases aI.1 hx with rfl|hx;left;rw[h];exact hj;exact .inr (afk hx h j hj)
 |[],_,_,hx,_,_,_=>by simp at hx
theorem afl{c:CT X.ι}:∀{xs:Y Operand}{x:Operand}{y:CT.T X.toSE c×List Bool},x∈xs->Gx get (ρ x) c=some y->∀b∈y.2,b∈S3 get c ρ xs
 |z::xs,x,y,hx,h,b,hb=>by simp[S3];rcases aI.1 hx with rfl|hx;left;rw[h];exact hb;exact .inr (afl hx h b hb)
 |[],_,_,hx,_,_,_=>by simp at hx
theorem aic(h:aqE T code i o.op ρ get k=some r):eJ P T i o ρ get k r:=by
 unfold aqE at h;split at h;cases h;rename_i hpick;have⟨c,h1,h⟩:=ah.1 h;have⟨hcs,h⟩:=qV h;have⟨cP,rd,wr,dv,upd,out,g1,g2,g3,g4,g5,g6⟩:=abJ h;generalize lz:CN get c ρ o.op.operands.toList=ab at*;refine⟨.AN ab (λ x=>den (OK get c ρ x)) cP,rd++ab,wr++ab,dv,upd++Oi ab,⟨out.v,out.upd++ab.map (λ k=>(k,none)),out.obs++[∀ x∈o.op.operands,(gE P (dN (rd++ab) (fK get)) (den (ρ x)) (den (OK get c ρ x))/\∀k∈refs (den (ρ x)),k∈ab)\/den (OK get c ρ x)=den (ρ x)]⟩,?_,?_,g3,?_,?_,g6⟩;unfold jV IC;simp only;rw[aM hpick];have e:(λ k=>if k∈ab then none else dN (rd++ab) (fK get) k)=dN rd (fK λj=>if j∈ab then none else get j):=by funext j;simp[dN,fK];by_cases hj:j∈ab;simp[hj];simp[hj]
 rw[e,g1];rfl;refine sQ _ λp hp=>?_;rcases bI.1 hp with hp|hp;exact sw _ g2 p hp;rw[bC]at hp;subst hp;intro x hx;unfold OK;rcases hl:Gx get (ρ x) c with _|y;exact .inr rfl;left;have hx':x∈o.op.operands.toList:=by simpa using hx
 have hin:=λj hj=>lz ▸ afk hx' hl j hj;obtain⟨hs,obs,p1,p2⟩:=Be (P:=P) (rd:=rd++ab) hl (λ b hb=>hcs b (afl hx' hl b hb)) (λ j hj=>mem_append_right _ (hin j hj));refine⟨?_,λj hj=>hin j (by rwa [jb]at hj)⟩;have:=p2 [];exact EM _ _ _ this p1;simp[tY,Dx,g4];intro p hp;rcases bI.1 hp with hp|hp;exact(g5 p hp).imp id (λ h=>mem_append_left _ h);exact .inr (mem_append_right _ (Ko hp))
theorem Xy{c:CT X.ι}:∀{ds:Y (DV X)}{xs:Y (CT.T X.toSE c)},HA c ds=some xs->bH ds=xs.map λy=>den (.c c y:DV X)
 |[],xs,h=>by simp[HA]at h;subst h;rfl
 |.c a x::ds,xs,h=>by simp[HA]at h;rw[ah]at h;obtain⟨y,h1,h⟩:=h;rw[ah]at h;obtain⟨l,h2,h⟩:=h;cases h;simp[bH,Xy h2,(pX h1).1]
 |.agg _::_,_,h|.eE _::_,_,h|.own _ _ _::_,_,h|.ptr _ _ _::_,_,h|.sB _ _ _::_,_,h|.mp _::_,_,h|.vi _ _ _ _ _::_,_,h|.rp _ _ _::_,_,h|.As _ _ _ _ _::_,_,h|.fn _ _ _::_,_,h|.eC _ _ _::_,_,h|.raw _::_,_,h|.nil::_,_,h|.ub::_,_,h|.skip::_,_,h|.undef::_,_,h=>by simp[HA]at h
theorem aid(h:aqF T code o.op ρ get k=some r):eJ P T i o ρ get k r:=by
 obtain⟨dst,op,ty,am,after,guard⟩:=o;unfold aqF at h;simp only at h;split at h
 .rename_i t x j;rw[ah]at h;obtain⟨ti,h1,h⟩:=h;split at h
  .rename_i m e kk row aa kd n hk hx hj;rw[ah]at h;obtain⟨ei,h2,h⟩:=h;split at h
   .rename_i hs;have⟨h3,h⟩:=dZ h;refine eJ.op (cP:=.none) (rd:=[]) (wr:=[]) (upd:=[]) (λ _ _ _ e=>by cases e) (out:=⟨.ptr kk row (aa+n.toNat*1),[],[0<=n/\n.toNat<m]⟩) ?_ ⟨?_,?_,rfl,by simp,h⟩
    .simp only[rO,ny,h1,ai,hk,hx,hj,den,CT.tv,TV.av,h2,hs];rfl
    .simp only[cV,aT,bf]at h3;exact⟨h3.1,by omega⟩
    .simp only[den,Nat.mul_one]
   .cases h
  .rename_i m e c y aa kd n hk hx hj;rw[ah]at h;obtain⟨ei,h2,h⟩:=h;split at h
   .rename_i hs;have⟨h3,h⟩:=dZ h;refine eJ.op (cP:=.none) (rd:=[]) (wr:=[]) (upd:=[]) (λ _ _ _ e=>by cases e) (out:=⟨.eW (CT.row X.toSE c y) (aa+n.toNat*1),[],[0<=n/\n.toNat<m]⟩) ?_ ⟨?_,?_,rfl,by simp,h⟩
    .simp only[rO,ny,h1,ai,hk,hx,hj,den,CT.tv,TV.av,h2,hs];rfl
    .simp only[cV,aT,bf]at h3;exact⟨h3.1,by omega⟩
    .simp only[den,Nat.mul_one]
   .cases h
  .cases h
 .rename_i t a;rw[ah]at h;obtain⟨ti,h1,h⟩:=h;split at h
  .rename_i kk row aa m n hx;split at h
   .rename_i hs;rw[ah]at h;obtain⟨c,h2,h⟩:=h;split at h
    .rename_i hc;rw[ah]at h;obtain⟨ob,h3,h⟩:=h;split at h
     .rename_i sz rows;have⟨q,h4,h⟩:=ah.1 h;have⟨xs,h5,h⟩:=ah.1 h;have⟨y,h6,h⟩:=ah.1 h;have⟨_,h7⟩:=Oc h6;have h8:=Xy h5;have h9:((bH q).drop (aa+n.toNat)).take 1=[den (.c c y:DV X)]:=by
       have e1:(bH ((q.drop aa).take m))[n.toNat]? =some (den (.c c y:DV X)):=(by rw[h8,List.getElem?_map,h7];rfl);rw[kN,List.getElem?_take]at e1;split at e1
       .rw[List.getElem?_drop]at e1;have⟨g1,g2⟩:=bU.1 e1;rw[List.drop_eq_getElem_cons g1,List.take_succ_cons,List.take_zero,g2]
       .cases e1
      refine eJ.op (cP:=.none) (rd:=[kk]) (wr:=[]) (upd:=[]) (λ _ _ _ e=>by cases e) (out:=⟨den (.c c y:DV X),[],[]⟩) ?_ ⟨trivial,rfl,rfl,by simp,h⟩;simp only[rO,LK,h1,ai,hx,den,fA (List.mem_singleton_self kk) h3,bL,List.getElem?_map,h4,Option.map_some,hs.1,hs.2];rw[h9];obtain⟨t',g1,g2⟩:=row_one hc y;simp only[den,g2,TV.av];rfl
     .cases h
     .cases h
    .cases h
   .cases h
  .rename_i b y0 aa m n hx;split at h
   .rename_i hs;rw[ah]at h;obtain⟨c,h2,h⟩:=h;split at h
    .rename_i hc;have⟨xs,h5,h⟩:=ah.1 h;have⟨y,h6,h⟩:=ah.1 h;have⟨_,h7⟩:=Oc h6;have h8:=Xy h5;have h9:(((CT.row X.toSE b y0).drop (aa+n.toNat)).take 1).map AV.t=[den (.c c y:DV X)]:=by
      have e1:(bH (((wE b y0).drop aa).take m))[n.toNat]? =some (den (.c c y:DV X)):=(by rw[h8,List.getElem?_map,h7];rfl);rw[kN,qD,List.getElem?_take]at e1;split at e1
      .rw[List.getElem?_drop]at e1;have⟨g1,g2⟩:=bU.1 e1;rw[map_take,map_drop,List.drop_eq_getElem_cons g1,List.take_succ_cons,List.take_zero,g2]
      .cases e1
     refine eJ.op (cP:=.none) (rd:=[]) (wr:=[]) (upd:=[]) (λ _ _ _ e=>by cases e) (out:=⟨den (.c c y:DV X),[],[]⟩) ?_ ⟨trivial,rfl,rfl,by simp,h⟩;simp only[rO,LK,h1,ai,hx,den,hs.1,hs.2];rw[h9];obtain⟨t',g1,g2⟩:=row_one hc y;simp only[den,g2,TV.av];rfl
    .cases h
   .cases h
  .cases h
 .cases h
end
end
section
variable {X:SX}
structure MA(X:SX) where
 nm:List (Nat×Nat)
 fj:List (DC X)
 km:List Bool
def addN(m:MA X)(k' k:Nat):MA X:=if m.nm.contains (k',k)then m else⟨m.nm++[(k',k)],m.fj,m.km⟩
section
variable (get:Nat->Option (ci X))
mutual
def mP:Pt X.ι->DV X->MA X->Option (MA X)
 |.v c,d,m=>(dat d c).bind λx=>some ⟨m.nm,m.fj++[⟨c,x⟩],m.km⟩
 |.o k,d,m=>match d with
  |.own k' 0 len=>(get k').bind λo=>match o with
   |.eK _ l=>some (addN ⟨m.nm,m.fj,m.km++[aE len l.length]⟩ k' k)
   |_=>none
  |_=>none
 |.oz k,d,m=>match d with
  |.own k' 0 len=>(get k').bind λo=>match o with
   |.eK _ l=>some (addN ⟨m.nm,m.fj,m.km++[!(len==0)&&aE len l.length]⟩ k' k)
   |_=>none
  |.oz k' len=>(get k').bind λo=>match o with
   |.eK _ l=>some (addN ⟨m.nm,m.fj,m.km++[aE len l.length]⟩ k' k)
   |_=>none
  |_=>none
 |.p k,d,m=>match d with
  |.ptr k' 0 0=>some (addN m k' k)
  |_=>none
 |.mp k,d,m=>match d with
  |.mp k'=>some (addN m k' k)
  |_=>none
 |.nil,d,m=>match d with
  |.nil=>some m
  |_=>none
 |.f F fs cs,d,m=>match d with
  |.fn F' first caps=>if F=F' then(vl fs first m).bind λm=>vl cs caps m else none
  |_=>none
 |.od k,d,m=>match d with
  |.own k' aa len=>(get k').bind λo=>match o with
   |.eK _ l=>some (addN ⟨m.nm,m.fj++[⟨.int .i64,(aa:Int)⟩],m.km++[aE (aa+len) l.length]⟩ k' k)
   |_=>none
  |_=>none
 |.a ps,d,m=>match d with
  |.agg ds=>vl ps ds m
  |_=>none
def vl:List (Pt X.ι)->List (DV X)->MA X->Option (MA X)
 |[],[],m=>some m
 |p::ps,d::ds,m=>(mP p d m).bind λm=>vl ps ds m
 |_,_,_=>none
end
def IZ(env:Nat->DV X):Y (Nat×Pt X.ι)->MA X->J (MA X)
 |[],m=>some m
 |(t,p)::r,m=>(mP get p (env t) m).bind λm=>IZ env r m
def LZ:Y (List (Pt X.ι))->Y (List (DV X))->MA X->J (MA X)
 |[],[],m=>some m
 |r::rs,q::qs,m=>(vl get r q m).bind λm=>LZ rs qs m
 |_,_,_=>none
def nameOf(m:MA X)(k:Nat):Nat:=match m.nm.find? (λ q=>q.2==k)with|some q=>q.1|none=>k
def Dy:Y (Nat×OP X.ι)->MA X->J (MA X)
 |[],m=>some m
 |(k,op)::r,m=>(get (nameOf m k)).bind λo=>match op,o with
  |.l c,.eK c' l=>(lG (.sl c') (.sl c) l).bind λl'=>Dy r (addN ⟨m.nm,m.fj++[⟨.sl c,l'⟩],m.km⟩ (nameOf m k) k)
  |.m kc vc,.map ws wd l=>(lG (.mp ws wd) (.mp kc vc) l).bind λl'=>Dy r (addN ⟨m.nm,m.fj++[⟨.mp kc vc,l'⟩],m.km⟩ (nameOf m k) k)
  |.c sz rows,.cells sz' rows'=>if sz=sz' then(LZ get rows rows' (addN m (nameOf m k) k)).bind λm=>Dy r m else none
  |_,_=>none
end
end
section
variable {X:SX} {A:Type}
mutual
def tw(f:Nat->Nat):DV X->DV X
 |.own k aa len=>.own (f k) aa len
 |.ptr k row aa=>.ptr (f k) row aa
 |.sB k n aa=>.sB (f k) n aa
 |.vi k row aa m n=>.vi (f k) row aa m n
 |.mp k=>.mp (f k)
 |.oz k len=>.oz (f k) len
 |.agg cs=>.agg (MB f cs)
 |.eE cs=>.eE (MB f cs)
 |.fn F first caps=>.fn F (MB f first) (MB f caps)
 |x=>x
def MB(f:Nat->Nat):List (DV X)->List (DV X)
 |[]=>[]
 |x::xs=>tw f x::MB f xs
end
theorem aie(f:Nat->Nat):∀l:Y Tree,wB f (l.map AV.t)=l.map AV.t
 |[]=>rfl
 |x::xs=>by simp[wB,ik,aie f xs]
mutual
theorem Bf(f:Nat->Nat):∀x:DV X,den (tw f x)=ik f (den x)
 |.own _ _ _|.ptr _ _ _|.sB _ _ _|.mp _|.oz _ _|.vi _ _ _ _ _=>rfl
 |.agg cs|.eE cs=>by simp[tw,den,ik,I4 f cs]
 |.fn F first caps=>by simp[tw,den,ik,I4 f first,I4 f caps]
 |.c t x=>by
  simp[tw,den];cases t<;>try rfl
  simp[CT.tv,TV.av,ik,aie]
 |.rp _ _ _|.As _ _ _ _ _|.eC _ _ _=>rfl
 |.raw v=>by simp[tw,den,cv];split;rfl;split<;>rfl
 |.nil|.ub|.skip|.undef=>rfl
theorem I4(f:Nat->Nat):∀l:List (DV X),bH (MB f l)=wB f (bH l)
 |[]=>rfl
 |x::xs=>by simp[MB,bH,wB,Bf f x,I4 f xs]
end
def ry(f:Nat->Nat):ci X->ci X
 |.cells sz rows=>.cells sz (rows.map (MB f))
 |o=>o
def eI:ci X->Y Nat
 |.cells _ rows=>(rows.map aS).flatten
 |.eK _ _=>[]
 |.map _ _ _=>[]
def T1:CT X.ι->Bool
 |.int _|.bool|.str=>true
 |_=>false
def yJ:CT X.ι->Bool
 |.st i=>(X.ej i).all T1
 |c=>T1 c
theorem EY{c:CT X.ι}(h:T1 c=true)(x:CT.T X.toSE c):∀t∈CT.row X.toSE c x,t.flat:=by cases c<;>first|(intro t ht;simp[CT.row]at ht;subst ht;exact trivial)|cases h
theorem ajU:∀(l:Y (CT X.ι))(h:HL X.toSE l),l.all T1=true->∀t∈HL.row X.toSE l h,t.flat
 |[],_,_,t,ht=>by simp[HL.row]at ht
 |c::l,h,ha,t,ht=>by simp only[all_cons,aT]at ha;rcases bI.1 (show t∈CT.row X.toSE c h.1++HL.row X.toSE l h.2 from ht)with ht|ht;exact EY ha.1 h.1 t ht;exact ajU l h.2 ha.2 t ht
theorem wF{c:CT X.ι}(h:yJ c=true)(x:CT.T X.toSE c):∀t∈CT.row X.toSE c x,t.flat:=by
 cases c
 case st i=>intro t ht;exact ajU (X.ej i) (X.get i x) h t ((X.pL i x) ▸ ht)
 case int k=>exact EY (c:=.int k) h x
 case bool=>exact EY (c:=.bool) h x
 case str=>exact EY (c:=.str) h x
 case sl e=>cases h
 case any=>cases h
 case mp=>cases h
structure MG(X:SX) where
 nm:List (Nat×Nat)
 fj:List (DC X)
 km:List Bool
 vr:List Nat
section
variable (get:Nat->Option (ci X))
mutual
def rL:Pt X.ι->DV X->MG X->Option (MG X)
 |.v c,d,m=>(Gx get d c).bind λx=>some ⟨m.nm,m.fj++[⟨c,x.1⟩],m.km++x.2,m.vr++cd d⟩
 |.o k,d,m=>match d with
  |.own k' 0 len=>(get k').bind λo=>match o with
   |.eK _ l=>some ⟨m.nm++[(k',k)],m.fj,m.km++[aE len l.length],m.vr⟩
   |_=>none
  |_=>none
 |.od k,d,m=>match d with
  |.own k' aa len=>(get k').bind λo=>match o with
   |.eK _ l=>some ⟨m.nm++[(k',k)],m.fj++[⟨.int .i64,(aa:Int)⟩],m.km++[aE (aa+len) l.length],m.vr⟩
   |_=>none
  |_=>none
 |.p k,d,m=>match d with
  |.ptr k' 0 0=>some ⟨m.nm++[(k',k)],m.fj,m.km,m.vr⟩
  |_=>none
 |.nil,d,m=>match d with
  |.nil=>some m
  |_=>none
 |.f F fs cs,d,m=>match d with
  |.fn F' first caps=>if F=F' then(tU fs first m).bind λm=>tU cs caps m else none
  |_=>none
 |.mp k,d,m=>match d with
  |.mp k'=>some ⟨m.nm++[(k',k)],m.fj,m.km,m.vr⟩
  |_=>none
 |.oz _,_,_=>none
 |.a ps,d,m=>match d with
  |.agg ds=>tU ps ds m
  |_=>none
def tU:List (Pt X.ι)->List (DV X)->MG X->Option (MG X)
 |[],[],m=>some m
 |p::ps,d::ds,m=>(rL p d m).bind λm=>tU ps ds m
 |_,_,_=>none
end
def L6:Y (List (Pt X.ι))->Y (List (DV X))->MG X->J (MG X)
 |[],[],m=>some m
 |r::rs,q::qs,m=>(tU get r q m).bind λm=>L6 rs qs m
 |_,_,_=>none
def sC(m:MG X)(k:Nat):Nat:=match m.nm.find? (λ q=>q.2==k)with|some q=>q.1|none=>k
def stC:CT X.ι->Bool
 |.st _=>true
 |_=>false
def Dz:Y (Nat×OP X.ι)->MG X->J (MG X)
 |[],m=>some m
 |(k,op)::r,m=>(get (sC m k)).bind λo=>match op,o with
  |.l c,.eK c' l=>(lG (.sl c') (.sl c) l).bind λl'=>Dz r ⟨m.nm++[(sC m k,k)],m.fj++[⟨.sl c,l'⟩],m.km,m.vr⟩
  |.m kc vc,.map ws wd l=>if (kc.one=true/\vc.one=true)\/stC kc=true then(lG (.mp ws wd) (.mp kc vc) l).bind λl'=>Dz r ⟨m.nm++[(sC m k,k)],m.fj++[⟨.mp kc vc,l'⟩],m.km,m.vr⟩else none
  |.c sz rows,.cells sz' rows'=>if sz=sz' then(L6 get rows rows' ⟨m.nm++[(sC m k,k)],m.fj,m.km,m.vr⟩).bind λm=>Dz r m else none
  |_,_=>none
end
mutual
def Pt.refs:Pt X.ι->List Nat
 |.o k|.od k|.p k|.mp k|.oz k=>[k]
 |.f _ fs cs=>Cg fs++Cg cs
 |.a ps=>Cg ps
 |_=>[]
def Cg:List (Pt X.ι)->List Nat
 |[]=>[]
 |p::ps=>p.refs++Cg ps
end
def OP.refs:OP X.ι->Y Nat
 |.l _=>[]
 |.m _ _=>[]
 |.c _ rows=>rows.flatMap Cg
def Lk(n k:Nat):Bool:=Nat.blt k n || (Nat.ble 1000 k&&Nat.blt k 1064)
def ea.ok(g:ea X):Bool:=
 decide (g.kf.map (·.1)=List.range g.kf.length)&&decide (g.kf.length<=1000)&&(g.ke.all λq=>Lk g.kf.length q.1&&q.2.refs.all λk=>Lk g.kf.length k)&&decide (g.ke.map (·.1)).Nodup&&(Cg g.gj).all λk=>Lk g.kf.length k
def okG(m:MG X)(ab:Y Nat):Bool:=
 decide ab.Nodup&&(m.nm.all λq=>match ab[q.2]? with|some k=>Nat.beq k q.1|none=>false)&&m.vr.all λk=>!ab.contains k
def ea.flat(g:ea X):Bool:=(dg g.gj).all yJ&&g.ke.all λq=>match q.2 with
 |.l c=>yJ c
 |.m _ _=>false
 |.c _ rows=>(xJ rows).all yJ
def vu:Y (Nat×ci X)->Nat->J (ci X)
 |[],_=>none
 |(j,o)::r,k=>if j=k then some o else vu r k
def T0(i:Nat)(ab:Y Nat)(os':Y (Nat×ci X)):Y (Nat×Option (ci X)):=
 (ab.zipIdx.map λp=>(p.1,(vu os' p.2).map (ry (cn i ab))))++(os'.filter λq=>decide (1000<=q.1)).map λq=>(cn i ab q.1,some (ry (cn i ab) q.2))
def aif(g:ea X)(i:Nat)(ds:Y (DV X))(get:Nat->J (ci X))(k:KK X A):J A:=
 (tU get g.rh ds ⟨[],[],[],[]⟩).bind λm=>(Dz get g.kf m).bind λm=>
  bif g.ok&&okG m ((List.range g.kf.length).map (sC m))then(HC (dg g.rh++eh g.kf) m.fj).bind λv=>Xg m.km ((g.fn v).bind λr=>
   let ab:=(List.range g.kf.length).map (sC m)
   k (tw (cn i ab) (g.res r)) (T0 i ab (g.outs r)++(if g.flat then []else m.vr.map λk=>(k,none))) (ab++m.vr) ((ab++(T0 i ab (g.outs r)).map (·.1))++m.vr))
  else none
section
variable {P:Program} {get:Nat->Option (ci X)} {rd ab:List Nat} {ev:Nat->Nat}
def gC(m m':MG X):Prop:=(∀ q∈m.nm,q∈m'.nm)/\(∀ c∈m.km,c∈m'.km)/\∀k∈m.vr,k∈m'.vr
theorem gC.refl(m:MG X):gC m m:=⟨λ _ h=>h,λ_ h=>h,λ_ h=>h⟩
theorem gC.trans{a b c:MG X}(h:gC a b)(h':gC b c):gC a c:=⟨λ q hq=>h'.1 q (h.1 q hq),λq hq=>h'.2.1 q (h.2.1 q hq),λq hq=>h'.2.2 q (h.2.2 q hq)⟩
mutual
theorem am1:∀(p:Pt X.ι)(d:DV X)(m m':MG X),rL get p d m=some m'->gC m m'/\∃al,m'.fj=m.fj++al/\al.length=p.vars.length
 |.v c,d,m,m',h=>by simp[rL]at h;rw[ah]at h;obtain⟨x,h1,h⟩:=h;cases h;exact⟨⟨λ _ h=>h,λ_ h=>by simp[h],λ_ h=>by simp[h]⟩,[⟨c,x.1⟩],rfl,rfl⟩
 |.o k,d,m,m',h=>by simp[rL]at h;split at h;rw[ah]at h;obtain⟨o,h1,h⟩:=h;split at h;cases h;exact⟨⟨λ _ h=>by simp[h],λ_ h=>by simp[h],λ_ h=>h⟩,[],by simp,rfl⟩;cases h;cases h
 |.od k,d,m,m',h=>by simp[rL]at h;split at h;rename_i k' aa len;have⟨o,h1,h⟩:=ah.1 h;split at h;cases h;exact⟨⟨λ _ h=>by simp[h],λ_ h=>by simp[h],λ_ h=>h⟩,[⟨.int .i64,(aa:Int)⟩],rfl,rfl⟩;cases h;cases h
 |.p k,d,m,m',h=>by simp[rL]at h;split at h;cases h;exact⟨⟨λ _ h=>by simp[h],λ_ h=>h,λ_ h=>h⟩,[],by simp,rfl⟩;cases h
 |.nil,d,m,m',h=>by simp[rL]at h;split at h;cases h;exact⟨gC.refl _,[],by simp,rfl⟩;cases h
 |.f F fs cs,d,m,m',h=>by simp[rL]at h;split at h;split at h;have⟨m1,h1,h⟩:=ah.1 h;obtain⟨a1,n1,b1,c1⟩:=xN fs _ m m1 h1;obtain⟨a2,n2,b2,c2⟩:=xN cs _ m1 m' h;exact⟨a1.trans a2,n1++n2,by rw[b2,b1,aU],by simp[Pt.vars,c1,c2]⟩;cases h;cases h
 |.mp k,d,m,m',h=>by simp[rL]at h;split at h;cases h;exact⟨⟨λ _ h=>by simp[h],λ_ h=>h,λ_ h=>h⟩,[],by simp,rfl⟩;cases h
 |.oz _,_,_,_,h=>by simp[rL]at h
 |.a ps,d,m,m',h=>by simp[rL]at h;split at h;exact xN ps _ m m' h;cases h
theorem xN:∀(ps:List (Pt X.ι))(ds:List (DV X))(m m':MG X),tU get ps ds m=some m'->gC m m'/\∃al,m'.fj=m.fj++al/\al.length=(dg ps).length
 |[],[],m,m',h=>by simp[tU]at h;subst h;exact⟨gC.refl _,[],by simp,rfl⟩
 |p::ps,d::ds,m,m',h=>by simp[tU]at h;have⟨m1,h1,h⟩:=ah.1 h;have⟨a1,n1,b1,c1⟩:=am1 p d m m1 h1;have⟨a2,n2,b2,c2⟩:=xN ps ds m1 m' h;exact⟨a1.trans a2,n1++n2,by rw[b2,b1,aU],by simp[dg,c1,c2]⟩
 |[],_::_,m,m',h|_::_,[],m,m',h=>by simp[tU]at h
end
def A3:AV->Y LH->Y LH
 |.agg _,hs=>.agd::hs
 |_,hs=>hs
theorem Oj(x:AV)(a b:Y LH):A3 x (a++b)=A3 x a++b:=by cases x<;>rfl
theorem zl{get':S}{x:AV}{hs:Y LH}{p:AV×List LH×List Prop}(h:qd P get' x hs=some p)(hr:∀k∈refs x,k∉ab):rR P get' ab x (A3 x hs)=some p:=by
 have hd:((refs x).all λk=>!ab.contains k)=true:=by simp;exact hr
 cases x
 all_goals
  simp[A3];unfold rR;split<;>first|(simp [qd]at h;done)|(rw [aP hd];exact h)|exact h|exact absurd hd ‹_› |(done)
variable {NM:List (Nat×Nat)} {rN:List Nat}
mutual
theorem ak3(hi:∀q∈NM,ab[q.2]? =some q.1)(hv:∀k∈rN,k∉ab)(hrd:∀k,(∃ q,(k,q)∈NM)\/k∈rN->k∈rd)(ho:∀q∈NM,∀c l,get q.1=some (.eK c l)->ev q.2=l.length):
 ∀(p:Pt X.ι)(d:DV X)(m m':MG X),rL get p d m=some m'->(∀ q∈m'.nm,q∈NM)->(∀ c∈m'.km,c=true)->(∀ k∈m'.vr,k∈rN)->
 ∃al,m'.fj=m.fj++al/\∃d',(∀ ae,eP ev p (al++ae)=(d',ae))/\(∃ hs obs,(∀ p∈obs,p)/\∀ae,rR P (dN rd (fK get)) ab (den d) (hs++ae)=some (den d',ae,obs))/\∀j∈cd d,(∃ q,(j,q)∈NM)\/j∈rN
 |.v c,d,m,m',h,hn,hc,hr=>by simp[rL]at h;rw[ah]at h;obtain⟨x,h1,h⟩:=h;cases h;have D1:∀j∈cd d,j∈rN:=λj hj=>hr j (by simp[hj]);obtain⟨hs,obs,p1,q1⟩:=Be (P:=P) (rd:=rd) h1 (λ b hb=>hc b (by simp[hb])) (λ j hj=>hrd j (.inr (D1 j hj)));refine⟨[⟨c,x.1⟩],rfl,.c c x.1,λae=>rfl,⟨A3 (den d) hs,obs,p1,λae=>?_⟩,λj hj=>.inr (D1 j hj)⟩;rw[<- Oj];exact zl (q1 ae) (λ k hk=>hv k (D1 k (by rwa [jb]at hk)))
 |.o k,d,m,m',h,hn,hc,hr=>by
  simp[rL]at h;split at h;rename_i k' len;rw[ah]at h;obtain⟨o,h1,h⟩:=h;split at h;rename_i c l;cases h;have hq:(k',k)∈NM:=hn _ (by simp);have he:len=l.length:=by have:=hc (aE len l.length) (by simp);simpa[aE]using this
  refine⟨[],by simp,.own k 0 (ev k),λae=>rfl,⟨[.mut k],[],by simp,λae=>?_⟩,λj hj=>?_⟩;simp[den,rR,hi _ hq,ho _ hq c l h1,he];simp[cd]at hj;subst hj;exact .inl ⟨k,hq⟩;cases h;cases h
 |.od k,d,m,m',h,hn,hc,hr=>by
  simp[rL]at h;split at h;rename_i k' aa len;rw[ah]at h;obtain⟨o,h1,h⟩:=h;split at h;rename_i c l;cases h;have hq:(k',k)∈NM:=hn _ (by simp);have he:aa+len=l.length:=by have:=hc (aE (aa+len) l.length) (by simp);simpa[aE]using this
  refine⟨[⟨.int .i64,(aa:Int)⟩],rfl,.own k aa (ev k-aa),λae=>?_,⟨[.mut k],[],by simp,λae=>?_⟩,λj hj=>?_⟩;have:IS (X:=X) ⟨.int .i64,(aa:Int)⟩=aa:=by simp[IS];rw[Xr];simp
  simp[eP,this];simp[den,rR,hi _ hq,ho _ hq c l h1,show l.length-aa=len by omega];simp[cd,bC]at hj;subst hj;exact .inl ⟨k,hq⟩;cases h;cases h
 |.p k,d,m,m',h,hn,hc,hr=>by simp[rL]at h;split at h;rename_i k';cases h;have hq:(k',k)∈NM:=hn _ (by simp);refine⟨[],by simp,.ptr k 0 0,λae=>rfl,⟨[.mut k],[],by simp,λae=>?_⟩,λj hj=>?_⟩;simp[den,cons_append,fI,rR,hi _ hq,if_true];simp[cd,bC]at hj;subst hj;exact .inl ⟨k,hq⟩;cases h
 |.nil,d,m,m',h,hn,hc,hr=>by simp[rL]at h;split at h;cases h;refine⟨[],by simp,.nil,λae=>rfl,⟨[.nil],[],by simp,λae=>?_⟩,by simp[cd]⟩;exact zl (by simp[den,cons_append,fI,qd]) (by simp[den,refs]);cases h
 |.f F fs cs,d,m,m',h,hn,hc,hr=>by
  simp[rL]at h;split at h;rename_i F' first caps
  split at h;rename_i e;subst e;rw[ah]at h;obtain⟨m1,h1,h⟩:=h;have hm:=(xN cs _ m1 m' h).1;obtain⟨n1,a1,f',b1,⟨hs1,o1,p1,q1⟩,r1⟩:=zm hi hv hrd ho fs _ m m1 h1 (λ q hq=>hn q (hm.1 q hq)) (λ q hq=>hc q (hm.2.1 q hq)) (λ q hq=>hr q (hm.2.2 q hq));obtain⟨n2,a2,c',b2,⟨hs2,o2,p2,q2⟩,r2⟩:=zm hi hv hrd ho cs _ m1 m' h hn hc hr;refine⟨n1++n2,by rw[a2,a1,aU],.fn F f' c',λae=>by simp[eP,aU,b1,b2],⟨.fnw::(hs1++hs2),o1++o2,ig p1 p2,λae=>?_⟩,λj hj=>?_⟩;simp[den,cons_append,aU,rR,q1,ai,q2];simp[cd,bI]at hj;exact hj.elim (r1 j) (r2 j);cases h;cases h
 |.mp k,d,m,m',h,hn,hc,hr=>by simp[rL]at h;split at h;rename_i k';cases h;have hq:(k',k)∈NM:=hn _ (by simp);refine⟨[],by simp,.mp k,λae=>rfl,⟨[.mut k],[],by simp,λae=>?_⟩,λj hj=>?_⟩;simp[den,cons_append,fI,rR,hi _ hq,if_true];simp[cd,bC]at hj;subst hj;exact .inl ⟨k,hq⟩;cases h
 |.oz _,_,_,_,h,_,_,_=>by simp[rL]at h
 |.a ps,d,m,m',h,hn,hc,hr=>by simp[rL]at h;split at h;rename_i ds;have⟨n1,a1,f',b1,⟨hs1,o1,p1,q1⟩,r1⟩:=zm hi hv hrd ho ps ds m m' h hn hc hr;refine⟨n1,a1,.agg f',λae=>by simp[eP,b1],⟨.agw::hs1,o1,p1,λae=>?_⟩,λj hj=>r1 j (by simpa[cd]using hj)⟩;simp[den,cons_append,rR,q1,ai];cases h
theorem zm(hi:∀q∈NM,ab[q.2]? =some q.1)(hv:∀k∈rN,k∉ab)(hrd:∀k,(∃ q,(k,q)∈NM)\/k∈rN->k∈rd)(ho:∀q∈NM,∀c l,get q.1=some (.eK c l)->ev q.2=l.length):
 ∀(ps:List (Pt X.ι))(ds:List (DV X))(m m':MG X),tU get ps ds m=some m'->(∀ q∈m'.nm,q∈NM)->(∀ c∈m'.km,c=true)->(∀ k∈m'.vr,k∈rN)->
 ∃al,m'.fj=m.fj++al/\∃ds',(∀ ae,my ev ps (al++ae)=(ds',ae))/\(∃ hs obs,(∀ p∈obs,p)/\∀ae,nC P (dN rd (fK get)) ab (bH ds) (hs++ae)=some (bH ds',ae,obs))/\∀j∈aS ds,(∃ q,(j,q)∈NM)\/j∈rN
 |[],[],m,m',h,_,_,_=>by simp[tU,bK]at h;subst h;exact⟨[],by simp,[],λae=>rfl,⟨[],[],by simp,λae=>rfl⟩,by simp[aS]⟩
 |p::ps,d::ds,m,m',h,hn,hc,hr=>by simp[tU]at h;have⟨m1,h1,h⟩:=ah.1 h;have hm:=(xN ps ds m1 m' h).1;obtain⟨n1,a1,d',b1,⟨hs1,o1,p1,q1⟩,r1⟩:=ak3 hi hv hrd ho p d m m1 h1 (λ q hq=>hn q (hm.1 q hq)) (λ q hq=>hc q (hm.2.1 q hq)) (λ q hq=>hr q (hm.2.2 q hq));have⟨n2,a2,ds',b2,⟨hs2,o2,p2,q2⟩,r2⟩:=zm hi hv hrd ho ps ds m1 m' h hn hc hr;refine⟨n1++n2,by rw[a2,a1,aU],d'::ds',λae=>by simp[my,aU,b1,b2],⟨hs1++hs2,o1++o2,ig p1 p2,λae=>?_⟩,λj hj=>?_⟩;simp[bH,aU,nC,q1,ai,q2];simp[aS,bI]at hj;exact hj.elim (r1 j) (r2 j)
 |[],_::_,m,m',h,_,_,_=>by simp[tU]at h
 |_::_,[],m,m',h,_,_,_=>by simp[tU]at h
end
theorem zG:∀(rs:Y (List (Pt X.ι)))(qs:Y (List (DV X)))(m m':MG X),L6 get rs qs m=some m'->gC m m'/\∃al,m'.fj=m.fj++al/\al.length=(xJ rs).length
 |[],[],m,m',h=>by simp[L6]at h;subst h;exact⟨gC.refl _,[],by simp,rfl⟩
 |r::rs,q::qs,m,m',h=>by simp[L6]at h;have⟨m1,h1,h⟩:=ah.1 h;have⟨a1,n1,b1,c1⟩:=xN r q m m1 h1;have⟨a2,n2,b2,c2⟩:=zG rs qs m1 m' h;exact⟨a1.trans a2,n1++n2,by rw[b2,b1,aU],by simp[xJ,c1,c2]⟩
 |[],_::_,m,m',h|_::_,[],m,m',h=>by simp[L6]at h
theorem TA(hi:∀q∈NM,ab[q.2]? =some q.1)(hv:∀k∈rN,k∉ab)(hrd:∀k,(∃ q,(k,q)∈NM)\/k∈rN->k∈rd)(ho:∀q∈NM,∀c l,get q.1=some (.eK c l)->ev q.2=l.length):
 ∀(rs:Y (List (Pt X.ι)))(qs:Y (List (DV X)))(m m':MG X),L6 get rs qs m=some m'->(∀ q∈m'.nm,q∈NM)->(∀ c∈m'.km,c=true)->(∀ k∈m'.vr,k∈rN)->
 ∃al,m'.fj=m.fj++al/\∃HM,(∀ ae,xL ev rs (al++ae)=(HM,ae))/\(∃ hs obs,(∀ p∈obs,p)/\BU P (dN rd (fK get)) ab (qs.map bH) hs=some (HM.map bH,obs))/\∀j∈(qs.map aS).flatten,(∃ q,(j,q)∈NM)\/j∈rN
 |[],[],m,m',h,_,_,_=>by simp[L6]at h;subst h;exact⟨[],by simp,[],λae=>rfl,⟨[],[],by simp,rfl⟩,by simp⟩
 |r::rs,q::qs,m,m',h,hn,hc,hr=>by simp[L6]at h;have⟨m1,h1,h⟩:=ah.1 h;have hm:=(zG rs qs m1 m' h).1;obtain⟨n1,a1,d',b1,⟨hs1,o1,p1,q1⟩,r1⟩:=zm (P:=P) hi hv hrd ho r q m m1 h1 (λ q hq=>hn q (hm.1 q hq)) (λ q hq=>hc q (hm.2.1 q hq)) (λ q hq=>hr q (hm.2.2 q hq));have⟨n2,a2,ds',b2,⟨hs2,o2,p2,q2⟩,r2⟩:=TA hi hv hrd ho rs qs m1 m' h hn hc hr;refine⟨n1++n2,by rw[a2,a1,aU],d'::ds',λae=>by simp[xL,b1,b2],⟨hs1::hs2,o1++o2,ig p1 p2,?_⟩,λj hj=>?_⟩;have:=q1 [];rw[append_nil]at this;simp[BU,this,q2];simp only[bq,flatten_cons,bI]at hj;exact hj.elim (r1 j) (r2 j)
 |[],_::_,m,m',h,_,_,_|_::_,[],m,m',h,_,_,_=>by simp[L6]at h
theorem nD:∀(os:Y (Nat×OP X.ι))(m m':MG X),Dz get os m=some m'->gC m m'/\∃al,m'.fj=m.fj++al/\al.length=(eh os).length
 |[],m,m',h=>by simp[Dz]at h;subst h;exact⟨gC.refl _,[],by simp,rfl⟩
 |(k,op)::r,m,m',h=>by simp[Dz]at h;rw[ah]at h;obtain⟨o,h1,h⟩:=h;split at h;rename_i c c' l;rw[ah]at h;obtain⟨l',h2,h⟩:=h;obtain⟨a2,n2,b2,c2⟩:=nD r _ m' h;refine⟨gC.trans (b:=⟨m.nm++[(sC m k,k)],m.fj++[⟨.sl c,l'⟩],m.km,m.vr⟩) ⟨λ _ h=>by simp[h],λ_ h=>h,λ_ h=>h⟩ a2,[⟨.sl c,l'⟩]++n2,?_,by simp[eh,c2]⟩;rw[b2,aU];rename_i kc vc ws wd l;split at h;rw[ah]at h;obtain⟨l',h2,h⟩:=h;obtain⟨a2,n2,b2,c2⟩:=nD r _ m' h;refine⟨gC.trans (b:=⟨m.nm++[(sC m k,k)],m.fj++[⟨.mp kc vc,l'⟩],m.km,m.vr⟩) ⟨λ _ h=>by simp[h],λ_ h=>h,λ_ h=>h⟩ a2,[⟨.mp kc vc,l'⟩]++n2,?_,by simp[eh,c2]⟩;rw[b2,aU];cases h;rename_i sz rows sz' rows';split at h;rw[ah]at h;obtain⟨m1,h2,h⟩:=h;obtain⟨a1,n1,b1,c1⟩:=zG rows _ _ m1 h2;have⟨a2,n2,b2,c2⟩:=nD r m1 m' h;refine⟨gC.trans (gC.trans (b:=⟨m.nm++[(sC m k,k)],m.fj,m.km,m.vr⟩) ⟨λ _ h=>by simp[h],λ_ h=>h,λ_ h=>h⟩ a1) a2,n1++n2,?_,by simp[eh,c1,c2]⟩;rw[b2,b1,aU];cases h;cases h
theorem EZ:∀(os:Y (Nat×OP X.ι))(m m':MG X),Dz get os m=some m'->(∀ q∈m'.nm,q∈NM)->∃al,m'.fj=m.fj++al/\∀ae,∀k∈os.map (·.1),∃k' o,(k',k)∈NM/\get k'=some o/\∀c l,o=.eK c l->(k,List.length l)∈lens os (al++ae)
 |[],m,m',h,_=>by simp[Dz]at h;subst h;exact⟨[],by simp,λae k hk=>by simp at hk⟩
 |(k,op)::r,m,m',h,hn=>by
  simp[Dz]at h;rw[ah]at h;obtain⟨o,h1,h⟩:=h;split at h;rename_i c c' l;rw[ah]at h;obtain⟨l',h2,h⟩:=h;have hm:=(nD r _ m' h).1;obtain⟨n2,b2,c2⟩:=EZ r _ m' h hn;refine⟨[⟨.sl c,l'⟩]++n2,by rw[b2,aU],λae j hj=>?_⟩;simp only[bq,aI]at hj;by_cases hjk:j=k;subst hjk;refine⟨_,_,hn _ (hm.1 _ (by simp)),h1,λc2 l2 he=>?_⟩;injection he with e1 e2;subst e1;subst e2;have:=congrArg List.length (jy h2).2;simp at this;rw[this];exact List.mem_cons_self;rcases hj with rfl|hj;exact(hjk rfl).elim;have⟨k',o',g1,g2,g3⟩:=c2 ae j hj;exact⟨k',o',g1,g2,λc l he=>eG _ (g3 c l he)⟩;rename_i kc vc ws wd l;split at h;rw[ah]at h;obtain⟨l',h2,h⟩:=h;have hm:=(nD r _ m' h).1;obtain⟨n2,b2,c2⟩:=EZ r _ m' h hn;refine⟨[⟨.mp kc vc,l'⟩]++n2,by rw[b2,aU],λae j hj=>?_⟩;simp only[bq,aI]at hj;by_cases hjk:j=k;subst hjk;exact⟨_,_,hn _ (hm.1 _ (by simp)),h1,λc2 l2 he=>by cases he⟩;rcases hj with rfl|hj;exact(hjk rfl).elim;exact c2 ae j hj;cases h;rename_i sz rows sz' rows';split at h;have⟨m1,h2,h⟩:=ah.1 h;obtain⟨a1,n1,b1,c1⟩:=zG rows _ _ m1 h2;have hm:=(nD r _ m' h).1;obtain⟨n2,b2,c2⟩:=EZ r _ m' h hn;refine⟨n1++n2,by rw[b2,b1,aU],λae j hj=>?_⟩;simp only[bq,aI]at hj;have hd:(n1++n2++ae).drop (xJ rows).length=n2++ae:=by rw[<- c1,aU,List.drop_left]
  simp only[lens,hd];by_cases hjk:j=k;subst hjk;exact⟨_,_,hn _ (hm.1 _ (a1.1 _ (by simp))),h1,λc2 l2 he=>by cases he⟩;rcases hj with rfl|hj;exact(hjk rfl).elim;exact c2 ae j hj;cases h;cases h
theorem MC:∀(os:Y (Nat×OP X.ι))(L:Y (DC X)),((lens os L).map (·.1)).Sublist (os.map (·.1))
 |[],_=>by simp[lens]
 |(k,.l c)::r,L=>by simp[lens];split;exact(MC r _).cons_cons _;exact List.nil_sublist _
 |(k,.m kc vc)::r,L|(k,.c sz rows)::r,L=>(MC r _).cons _
def ak4(get':S)(NM:Y (Nat×Nat))(rN:Y Nat)(bs:Y OB)(ks:Y Nat):Prop:=
 ∀(j:Nat) hs q o,bs[j]? =some (.G2 hs)->ks[j]? =some q->get' q=some o->∀k∈QF o,(∃ z,(k,z)∈NM)\/k∈rN
theorem Ol{sz:Nat}{rows:Y (List (DV X))}{k:Nat}(h:k∈QF (bL (.cells sz rows))):k∈(rows.map aS).flatten:=by simp[QF,bL]at h;obtain⟨a,⟨r,hr,rfl⟩,hk⟩:=h;rw[jc]at hk;exact List.mem_flatten.2 ⟨_,mem_map.2 ⟨r,hr,rfl⟩,hk⟩
theorem adr:∀ts:Y Tree,dJ (ts.map AV.t)=[]
 |[]=>rfl
 |t::ts=>by simp[dJ,refs,adr ts]
theorem ajW{P:Q}{get:S}:∀(ts:Y Tree)(hs:Y LH),nL P get (ts.map AV.t) hs=some (ts.map AV.t,hs,[])
 |[],hs=>rfl
 |t::ts,hs=>by simp[nL,qd,ajW ts hs]
theorem ak5{P:Q}{get:S}{ab:Y Nat}(v:TV):rR P get ab v.av []=some (v.av,[],[]):=by rcases v with x|cs;rfl;have h:refs (.agg (cs.map AV.t))=[]:=adr cs;simp[TV.av,rR,h,qd,ajW]
theorem abQ{P:Q}{get:S}{ab:Y Nat}:∀rows:Y (TV×TV),BU P get ab (rows.map λq=>[q.1.av,q.2.av]) (rows.map λ_=>[])=some (rows.map λq=>[q.1.av,q.2.av],[])
 |[]=>rfl
 |q::rows=>by simp[BU,nC,ak5,abQ rows]
theorem Bg(hi:∀q∈NM,ab[q.2]? =some q.1)(hv:∀k∈rN,k∉ab)(hrd:∀k,(∃ q,(k,q)∈NM)\/k∈rN->k∈rd)(ho:∀q∈NM,∀c l,get q.1=some (.eK c l)->ev q.2=l.length):
 ∀(os:Y (Nat×OP X.ι))(m m':MG X),Dz get os m=some m'->(∀ q∈m'.nm,q∈NM)->(∀ c∈m'.km,c=true)->(∀ k∈m'.vr,k∈rN)->
 ∃al,m'.fj=m.fj++al/\∃xs:Y (Nat×ci X),(∀ ae,cu ev os (al++ae)=xs.map λp=>(p.1,some p.2))/\
  ∃bs mo,(∀ p∈mo,p)/\IG P (dN rd (fK get)) ab (os.map λp=>(ab[p.1]?).getD 0) bs=some (xs.map λp=>bL p.2,mo)/\ak4 (dN rd (fK get)) NM rN bs (os.map λp=>(ab[p.1]?).getD 0)
 |[],m,m',h,_,_,_=>by simp[Dz]at h;subst h;exact⟨[],by simp,[],λae=>rfl,[],[],by simp,rfl,λj hs q o h=>by simp at h⟩
 |(k,op)::r,m,m',h,hn,hc,hr=>by
  simp[Dz]at h;rw[ah]at h;obtain⟨o,h1,h⟩:=h;split at h;rename_i c c' l;have⟨l',h2,h⟩:=ah.1 h;have hm:=(nD r _ m' h).1;have hq:(sC m k,k)∈NM:=hn _ (hm.1 _ (by simp));have hid:(ab[k]?).getD 0=sC m k:=by rw[hi _ hq];rfl
  have hget:=fA (hrd (sC m k) (.inl ⟨k,hq⟩)) h1;have⟨h3,h4⟩:=jy h2;obtain⟨n2,a2,xs,b2,bs,mo,p2,q2,r2⟩:=Bg hi hv hrd ho r _ m' h hn hc hr;refine⟨[⟨.sl c,l'⟩]++n2,by rw[a2,aU],(k,.eK c l')::xs,λae=>by simp[cu,b2],.dat (CT.sz X c,l'.map (CT.row X.toSE c))::bs,((bL (.eK c' l)).sz=CT.sz X c/\dW ((bL (.eK c' l)).rows.take (l'.map (CT.row X.toSE c)).length)=aJ (l'.map (CT.row X.toSE c)))::mo,?_,?_,?_⟩;intro p hp;rcases aI.1 hp with rfl|hp;refine⟨h3,?_⟩;simp[bL,h4];rw[take_of_length_le (by simp[aJ])];simp[dW,aJ,wk];exact p2 p hp;simp[bq,IG,WR,hid,hget,ai,q2,cons_append,fI];rfl;intro j hs q o' hj hq' ho';cases j with
  |zero=>simp at hj
  |succ j=>exact r2 j hs q o' (by simpa using hj) (by simpa using hq') ho'
  rename_i kc vc ws wd l;split at h;rename_i hone;have⟨l',h2,h⟩:=ah.1 h;have hm:=(nD r _ m' h).1;have hq:(sC m k,k)∈NM:=hn _ (hm.1 _ (by simp));have hid:(ab[k]?).getD 0=sC m k:=by rw[hi _ hq];rfl
  have hget:=fA (hrd (sC m k) (.inl ⟨k,hq⟩)) h1;have hden:bL (.map ws wd l)=bL (.map kc vc l'):=by have⟨e,h2⟩:=tH h2;injection e with e1 e2;subst e1;subst e2;subst h2;rfl
  obtain⟨n2,a2,xs,b2,bs,mo,p2,q2,r2⟩:=Bg hi hv hrd ho r _ m' h hn hc hr;rcases hone with hone|_;have hab:bL (.map kc vc l')=i6 (List.length l',l'.map λq=>CT.row X.toSE kc q.1++CT.row X.toSE vc q.2):=by simp only[bL,i6,aJ,map_map];congr 1;refine map_congr_left λq _=>?_;obtain⟨t1,g1,g2⟩:=row_one hone.1 q.1;obtain⟨t2,g3,g4⟩:=row_one hone.2 q.2;simp[g1,g2,g3,g4,TV.av]
  refine⟨[⟨.mp kc vc,l'⟩]++n2,by rw[a2,aU],(k,.map kc vc l')::xs,λae=>by simp[cons_append,fI,cu,b2,bq],.dat (List.length l',l'.map λq=>CT.row X.toSE kc q.1++CT.row X.toSE vc q.2)::bs,((bL (.map ws wd l)).sz=List.length l'/\dW ((bL (.map ws wd l)).rows.take (l'.map λq=>CT.row X.toSE kc q.1++CT.row X.toSE vc q.2).length)=aJ (l'.map λq=>CT.row X.toSE kc q.1++CT.row X.toSE vc q.2))::mo,?_,?_,?_⟩;intro p hp;rcases aI.1 hp with rfl|hp;rw[hden,hab];refine⟨rfl,?_⟩;simp[i6];rw[take_of_length_le (by simp[aJ])];simp[dW,aJ,Function.comp_def,wk];exact p2 p hp;simp[bq,IG,WR,hid,hget,ai,q2,cons_append,fI,hab];intro j hs q o' hj hq' ho';cases j with
  |zero=>simp at hj
  |succ j=>exact r2 j hs q o' (by simpa using hj) (by simpa using hq') ho'
  refine⟨[⟨.mp kc vc,l'⟩]++n2,by rw[a2,aU],(k,.map kc vc l')::xs,λae=>by simp[cons_append,fI,cu,b2,bq],.G2 ((l'.map λq=>(CT.tv X.toSE kc q.1,CT.tv X.toSE vc q.2)).map λ_=>[])::bs,mo,p2,?_,?_⟩;have hlr:=abQ (P:=P) (get:=dN rd (fK get)) (ab:=ab) (l'.map λq=>(CT.tv X.toSE kc q.1,CT.tv X.toSE vc q.2));have hdr:(bL (.map kc vc l')).rows=(l'.map λq=>(CT.tv X.toSE kc q.1,CT.tv X.toSE vc q.2)).map λq=>[q.1.av,q.2.av]:=by simp only[bL,map_map];rfl
  simp only[bq,IG,WR,hid,hget,ai,q2,hden,hdr,hlr,fI];rw[<- hdr];intro j hs q o' hj hq' ho';cases j with
  |zero=>
   simp[bq,List.getElem?_cons_zero,bK]at hq';subst hq';rw[hid,hget]at ho';injection ho' with ho';subst ho';intro k hk;rw[hden]at hk;simp only[QF,bL,mem_flatMap,mem_map]at hk;obtain⟨_,⟨q,_,rfl⟩,hk⟩:=hk;simp[dJ,Bd,append_nil,bB]at hk
  |succ j=>exact r2 j hs q o' (by simpa using hj) (by simpa using hq') ho'
  cases h;rename_i sz rows sz' rows';split at h;rename_i hsz;have⟨m1,h2,h⟩:=ah.1 h;have hm1:=(zG rows _ _ m1 h2).1;have hm:=(nD r _ m' h).1;have hq:(sC m k,k)∈NM:=hn _ (hm.1 _ (hm1.1 _ (by simp)));have hid:(ab[k]?).getD 0=sC m k:=by rw[hi _ hq];rfl
  have hget:=fA (hrd (sC m k) (.inl ⟨k,hq⟩)) h1;obtain⟨n1,a1,qs,b1,⟨hs1,o1,p1,q1⟩,r1⟩:=TA (P:=P) hi hv hrd ho rows _ _ m1 h2 (λ q hq=>hn q (hm.1 q hq)) (λ q hq=>hc q (hm.2.1 q hq)) (λ q hq=>hr q (hm.2.2 q hq));obtain⟨n2,a2,xs,b2,bs,mo,p2,q2,r2⟩:=Bg hi hv hrd ho r _ m' h hn hc hr;subst hsz;refine⟨n1++n2,by rw[a2,a1,aU],(k,.cells sz qs)::xs,λae=>by simp[aU,cu,b1,b2,bq],.G2 hs1::bs,o1++mo,ig p1 p2,?_,?_⟩;simp[bq,IG,WR,hid,hget,ai,bL,q1,q2];intro j hs q o' hj hq' ho';cases j with
  |zero=>
   simp[bq,List.getElem?_cons_zero,bK]at hq';rw[<- hq',hid,hget]at ho';injection ho' with ho';subst ho';exact λz hz=>r1 z (Ol hz)
  |succ j=>exact r2 j hs q o' (by simpa using hj) (by simpa using hq') ho'
  cases h;cases h
end
end
end Go.Gb
namespace Go.Gb
open Go.RowKit
section
variable {X:SX} {A:Type}
theorem aii:∀(l:Y (CT X.ι))(v:VT (X:=X) l),(xK l v).map (·.c)=l
 |[],_|[_],_=>rfl
 |c::c'::l,v=>by simp[xK,aii (c'::l) v.2]
theorem QW:∀{l:Y Tree},(∀ t∈l,t.flat)->qU (l.map AV.t)
 |[],_=>trivial
 |t::l,h=>⟨h t (by simp),QW (λ u hu=>h u (by simp[hu]))⟩
theorem ads{c:CT X.ι}(h:yJ c=true)(x:CT.T X.toSE c):zy (CT.tv X.toSE c x).av:=by
 have hf:=wF h x;cases c
 case st i=>exact QW hf
 all_goals first|exact hf _ (bC.2 rfl)|cases h
section
variable {ol:Nat->Nat}
mutual
theorem apa:∀(p:Pt X.ι)(L:List (DC X))(cs:List (CT X.ι)),L.map (·.c)=p.vars++cs->p.vars.all yJ=true->zy (den (eP ol p L).1)/\(eP ol p L).2.map (·.c)=cs
 |.v c,L,cs,h,hs=>by
  match L,h with
  |d::r,h=>
   simp[Pt.vars]at h;simp[Pt.vars]at hs;exact⟨ads (h.1 ▸ hs) d.x,h.2⟩
  |[],h=>simp[Pt.vars]at h
 |.o k,L,cs,h,_|.p k,L,cs,h,_|.mp k,L,cs,h,_|.oz k,L,cs,h,_|.nil,L,cs,h,_=>⟨trivial,by simpa[Pt.vars,eP]using h⟩
 |.od k,L,cs,h,_=>by
  match L,h with
  |d::r,h=>
   simp[Pt.vars]at h;exact⟨trivial,h.2⟩
  |[],h=>simp[Pt.vars]at h
 |.f F fs ps,L,cs,h,hs=>by simp only[Pt.vars,List.all_append,aT]at hs;simp[Pt.vars]at h;obtain⟨a1,a2⟩:=DF fs L _ h hs.1;obtain⟨b1,b2⟩:=DF ps _ _ a2 hs.2;exact⟨⟨a1,b1⟩,b2⟩
 |.a ps,L,cs,h,hs=>by simp only[Pt.vars]at h hs;exact DF ps L cs h hs
theorem DF:∀(ps:List (Pt X.ι))(L:List (DC X))(cs:List (CT X.ι)),L.map (·.c)=dg ps++cs->(dg ps).all yJ=true->qU (bH (my ol ps L).1)/\(my ol ps L).2.map (·.c)=cs
 |[],L,cs,h,_=>⟨trivial,by simpa[dg,my]using h⟩
 |p::ps,L,cs,h,hs=>by simp only[dg,List.all_append,aT]at hs;simp[dg]at h;obtain⟨a1,a2⟩:=apa p L _ h hs.1;obtain⟨b1,b2⟩:=DF ps _ _ a2 hs.2;exact⟨⟨a1,b1⟩,b2⟩
end
mutual
theorem apb:∀(p:Pt X.ι)(L:List (DC X)),∀j∈cd (eP ol p L).1,j∈p.refs
 |.v c,L,j,h=>by cases L<;>simp[eP,cd]at h
 |.o k,L,j,h|.p k,L,j,h|.mp k,L,j,h|.oz k,L,j,h=>by simpa[eP,cd,Pt.refs]using h
 |.nil,L,j,h=>by simp[eP,cd]at h
 |.od k,L,j,h=>by cases L<;>simp[eP,cd]at h<;>simp[Pt.refs,h]
 |.f F fs ps,L,j,h=>by simp[eP,cd]at h;simp[Pt.refs];exact h.imp (zH fs _ j) (zH ps _ j)
 |.a ps,L,j,h=>by simp[eP]at h;simp[Pt.refs];exact zH ps _ j h
theorem zH:∀(ps:List (Pt X.ι))(L:List (DC X)),∀j∈aS (my ol ps L).1,j∈Cg ps
 |[],L,j,h=>by simp[my,aS]at h
 |p::ps,L,j,h=>by simp[my,aS]at h;simp[Cg];exact h.imp (apb p _ j) (zH ps _ j)
end
theorem ME:∀(rs:Y (List (Pt X.ι)))(L:Y (DC X))(cs:Y (CT X.ι)),L.map (·.c)=xJ rs++cs->(xL ol rs L).2.map (·.c)=cs/\((xJ rs).all yJ=true->∀r∈(xL ol rs L).1,qU (bH r))
 |[],L,cs,h=>⟨by simpa[xJ,xL]using h,by simp[xL]⟩
 |r::rs,L,cs,h=>by simp[xJ]at h;have step:(my ol r L).2.map (·.c)=xJ rs++cs:=wA r L _ h;obtain⟨b1,b2⟩:=ME rs _ _ step;refine⟨b1,λhs q hq=>?_⟩;simp only[xJ,List.all_append,aT]at hs;simp[xL]at hq;rcases hq with rfl|hq;exact(DF r L _ h hs.1).1;exact b2 hs.2 q hq
where
 wA (ps:Y (Pt X.ι)) (L:Y (DC X)) (cs:Y (CT X.ι)) (h:L.map (·.c)=dg ps++cs):(my ol ps L).2.map (·.c)=cs:=qT ps L cs h
 G1:∀(p:Pt X.ι)(L:Y (DC X))(cs:Y (CT X.ι)),L.map (·.c)=p.vars++cs->(eP ol p L).2.map (·.c)=cs
  |.v c,L,cs,h=>by
   match L,h with
   |d::r,h=>simp only[Pt.vars,bq,List.singleton_append,List.cons.injEq]at h;exact h.2
   |[],h=>simp[Pt.vars]at h
  |.o k,L,cs,h=>by simpa[Pt.vars,eP]using h
  |.p k,L,cs,h=>by simpa[Pt.vars,eP]using h
  |.mp k,L,cs,h=>by simpa[Pt.vars,eP]using h
  |.oz k,L,cs,h=>by simpa[Pt.vars,eP]using h
  |.nil,L,cs,h=>by simpa[Pt.vars,eP]using h
  |.od k,L,cs,h=>by
   match L,h with
   |d::r,h=>simp only[Pt.vars,bq,List.singleton_append,List.cons.injEq]at h;exact h.2
   |[],h=>simp[Pt.vars]at h
  |.f F fs ps,L,cs,h=>by simp only[Pt.vars,aU]at h;exact qT ps _ _ (qT fs L _ h)
  |.a ps,L,cs,h=>by simp only[Pt.vars]at h;exact qT ps L cs h
 qT:∀(ps:Y (Pt X.ι))(L:Y (DC X))(cs:Y (CT X.ι)),L.map (·.c)=dg ps++cs->(my ol ps L).2.map (·.c)=cs
  |[],L,cs,h=>by simpa[dg,my]using h
  |p::ps,L,cs,h=>by simp only[dg,aU]at h;exact qT ps _ _ (G1 p L _ h)
theorem Xz:∀(rs:Y (List (Pt X.ι)))(L:Y (DC X)),∀j∈((xL ol rs L).1.map aS).flatten,j∈rs.flatMap Cg
 |[],L,j,h=>by simp[xL]at h
 |r::rs,L,j,h=>by simp only[xL,bq,flatten_cons,bI]at h;simp only[List.flatMap_cons,bI];exact h.imp (zH r _ j) (Xz rs _ j)
theorem zI:∀(O:Y (Nat×OP X.ι))(L:Y (DC X)),((dK (cu ol O L)).map (·.1)).Sublist (O.map (·.1))/\(∀ p∈dK (cu ol O L),∃op,(p.1,op)∈O/\∀j∈eI p.2,j∈op.refs)/\
 (L.map (·.c)=eh O->(O.all λq=>match q.2 with|.l c=>yJ c|.m _ _=>false|.c _ rows=>(xJ rows).all yJ)=true->∀p∈dK (cu ol O L),∀r∈(bL p.2).rows,qU r)
 |[],L=>⟨by simp[cu,dK],by simp[cu,dK],by simp[cu,dK]⟩
 |(k,.l c)::O,L=>by
  match L with
  |[]=>exact⟨by simp[cu,dK],by simp[cu,dK],by simp[cu,dK]⟩
  |⟨.sl c',x⟩::L=>
   have⟨h1,h2,h3⟩:=zI O L;refine⟨?_,?_,?_⟩;simp only[cu,dK,bq];exact h1.cons_cons _;intro p hp;simp[cu,dK]at hp;rcases hp with rfl|hp;exact⟨.l c,by simp,by simp[eI]⟩;have⟨op,g1,g2⟩:=h2 p hp;exact⟨op,eG _ g1,g2⟩;intro hL hs p hp r hr;simp only[bq,eh,List.cons.injEq]at hL;simp only[all_cons,aT]at hs;simp[cu,dK]at hp;rcases hp with rfl|hp;obtain⟨e,_⟩:=hL;injection e with e;simp only[bL,aJ,mem_map]at hr;obtain⟨q,⟨y,hy,rfl⟩,rfl⟩:=hr;exact QW (wF (e ▸ hs.1) y);exact h3 hL.2 hs.2 p hp r hr
  |⟨.int _,x⟩::L=>exact⟨by simp[cu,dK],by simp[cu,dK],by simp[cu,dK]⟩
  |⟨.bool,x⟩::L=>exact⟨by simp[cu,dK],by simp[cu,dK],by simp[cu,dK]⟩
  |⟨.str,x⟩::L=>exact⟨by simp[cu,dK],by simp[cu,dK],by simp[cu,dK]⟩
  |⟨.any,x⟩::L=>exact⟨by simp[cu,dK],by simp[cu,dK],by simp[cu,dK]⟩
  |⟨.mp _ _,x⟩::L=>exact⟨by simp[cu,dK],by simp[cu,dK],by simp[cu,dK]⟩
  |⟨.st _,x⟩::L=>exact⟨by simp[cu,dK],by simp[cu,dK],by simp[cu,dK]⟩
 |(k,.m kc vc)::O,L=>by
  match L with
  |[]=>exact⟨by simp[cu,dK],by simp[cu,dK],by simp[cu,dK]⟩
  |⟨.mp ws wd,x⟩::L=>
   have⟨h1,h2,h3⟩:=zI O L;refine⟨?_,?_,?_⟩;simp only[cu,dK,bq];exact h1.cons_cons _;intro p hp;simp[cu,dK,aI]at hp;rcases hp with rfl|hp;exact⟨.m kc vc,by simp,by simp[eI]⟩;have⟨op,g1,g2⟩:=h2 p hp;exact⟨op,eG _ g1,g2⟩;intro hL hs;simp at hs
  |⟨.sl _,x⟩::L=>exact⟨by simp[cu,dK],by simp[cu,dK],by simp[cu,dK]⟩
  |⟨.int _,x⟩::L=>exact⟨by simp[cu,dK],by simp[cu,dK],by simp[cu,dK]⟩
  |⟨.bool,x⟩::L=>exact⟨by simp[cu,dK],by simp[cu,dK],by simp[cu,dK]⟩
  |⟨.str,x⟩::L=>exact⟨by simp[cu,dK],by simp[cu,dK],by simp[cu,dK]⟩
  |⟨.any,x⟩::L=>exact⟨by simp[cu,dK],by simp[cu,dK],by simp[cu,dK]⟩
  |⟨.st _,x⟩::L=>exact⟨by simp[cu,dK],by simp[cu,dK],by simp[cu,dK]⟩
 |(k,.c sz rows)::O,L=>by have⟨h1,h2,h3⟩:=zI O (xL ol rows L).2;refine⟨?_,?_,?_⟩;simp only[cu,dK,bq];exact h1.cons_cons _;intro p hp;simp[cu,dK,aI]at hp;rcases hp with rfl|hp;exact⟨.c sz rows,by simp,λj hj=>Xz rows L j hj⟩;have⟨op,g1,g2⟩:=h2 p hp;exact⟨op,eG _ g1,g2⟩;intro hL hs p hp r hr;simp[eh]at hL;simp only[all_cons,aT]at hs;obtain⟨e1,e2⟩:=ME (ol:=ol) rows L _ hL;simp[cu,dK,aI]at hp;rcases hp with rfl|hp;simp[bL,mem_map]at hr;obtain⟨q,hq,rfl⟩:=hr;exact e2 hs.1 q hq;exact h3 e1 hs.2 p hp r hr
end
theorem QX(k:Nat):∀os:Y (Nat×ci X),pN (uF os) k=(vu os k).map bL
 |[]=>rfl
 |(j,o)::r=>by simp[uF,pN,vu];split;rfl;exact QX k r
theorem XA(f:Nat->Nat)(c:CT X.ι)(x:CT.T X.toSE c):ik f (CT.tv X.toSE c x).av=(CT.tv X.toSE c x).av:=(Bf f (.c c x)).symm
theorem afm(f:Nat->Nat)(o:ci X):bL (ry f o)=Dt f (bL o):=by
 cases o with
 |cells sz rows=>simp only[ry,bL,Dt,map_map];congr 1;exact map_congr_left λr _=>I4 f r
 |eK c l=>simp only[ry,bL,Dt,aJ,map_map];congr 1;exact map_congr_left λr _=>(aie f _).symm
 |map kc vc l=>simp only[ry,bL,Dt,map_map];congr 1;exact map_congr_left λr _=>by simp[wB,XA]
theorem ak6(i:Nat)(ab:Y Nat)(os:Y (Nat×ci X)):ja (T0 i ab os)=C2 i ab (uF os):=by simp[T0,tY];congr 1;simp only[ja,map_map];refine map_congr_left λp _=>?_;simp[QX];cases vu os p.2<;>simp[afm];simp[ja,uF,List.filter_map];refine map_congr_left λq _=>?_;simp[afm]
theorem XB{ds:Y (DV X)}:(∀ j∈refs (den (zD ds)),j∈aS ds)/\(qU (bH ds)->zy (den (zD ds))):=by
 match ds with
 |[]=>exact⟨λ j hj=>by simp[zD,den,bH,refs,dJ]at hj,λ_=>by simp[zD];exact trivial⟩
 |[d]=>exact⟨λ j hj=>by simp[zD,jb]at hj;simpa[aS]using hj,λh=>h.1⟩
 |d::e::r=>exact⟨λ j hj=>by simp[zD,den,refs,jc]at hj;exact hj,λh=>h⟩
theorem abR:∀xs:Y (Nat×ci X),dK (xs.map λp=>(p.1,some p.2))=xs
 |[]=>rfl
 |p::xs=>by simp[dK,abR xs]
theorem adt{P:Q}{g:ea X}{F:FuncId}(hg:ON P F g){i:Nat}{first args caps:Y (DV X)}{get:Nat->J (ci X)}{k:KK X A}{r:A}(h:aif g i (first++args++caps) get k=some r):
 ∃cP rd wr dv upd out,lY P i (den (.fn F first caps)) (bH args) cP (dN rd (fK get))=some out/\iZ out.obs/\out.v=den dv/\out.upd=ja upd/\(∀ p∈upd,p.1=cD i\/p.1∈wr)/\k dv upd rd wr=some r:=by
 unfold aif at h;rw[ah]at h;obtain⟨m1,h1,h⟩:=h;rw[ah]at h;obtain⟨m,h2,h⟩:=h;have⟨h3,h⟩:=dZ h;rw[ah]at h;obtain⟨v,h4,h⟩:=h;have⟨h5,h⟩:=qV h;rw[ah]at h;obtain⟨rr,h6,h⟩:=h;simp at h3;obtain⟨hok,D4⟩:=h3;simp only at h;generalize lz:(List.range g.kf.length).map (sC m)=ab at h D4;simp only[ea.ok,aT,bf]at hok;obtain⟨⟨⟨⟨n1,n2⟩,n3⟩,n4⟩,n5⟩:=hok;simp only[okG,aT,bf]at D4;obtain⟨⟨hnd,hnm⟩,D1⟩:=D4;have hlen:ab.length=g.kf.length:=by rw[<- lz];simp
 have hi:∀q∈m.nm,ab[q.2]? =some q.1:=by intro q hq;have:=all_eq_true.1 hnm q hq;split at this;rename_i k' e;rw[e,Nat.eq_of_beq_eq_true this];cases this
 have hv:∀k∈m.vr,k∉ab:=λk hk=>by have:=all_eq_true.1 D1 k hk;simpa using this
 have hrd:∀k,(∃ q,(k,q)∈m.nm)\/k∈m.vr->k∈ab++m.vr:=by rintro k (⟨q,hq⟩|hk);exact mem_append_left _ (bT (hi _ hq));exact mem_append_right _ hk
 have hm2:=(nD _ _ _ h2).1;have yd:=Xq h4;obtain⟨_,nA,dA,lA⟩:=xN _ _ _ _ h1;simp at dA;obtain⟨nB,dB,lB⟩:=EZ (NM:=m.nm) _ _ _ h2 (λ q hq=>hq);have hL:m.fj=nA++nB:=by rw[dB,dA]
 have hdrop:(xK _ v).drop (dg g.rh).length=nB:=by rw[yd,hL,<- lA,List.drop_left]
 have htake:(xK _ v).take (dg g.rh).length=nA:=by rw[yd,hL,<- lA,List.take_left]
 have ho:∀q∈m.nm,∀c l,get q.1=some (.eK c l)->EX g.kf nB q.2=l.length:=by
  rintro⟨p,q⟩ hq c l hl;have hq2:=hi _ hq;have hqn:q<g.kf.length:=by rw[<- hlen];exact(bU.1 hq2).1
  obtain⟨p',o,g1,g2,g3⟩:=lB [] q (by rw[n1];exact List.mem_range.2 hqn);have:p'=p:=by have e1:=hi _ g1;rw[hq2]at e1;injection e1 with e1;exact e1.symm
  subst this;simp at hl;rw[hl]at g2;injection g2 with g2;have h3:=g3 c l g2.symm;rw[append_nil]at h3;have hk:=(MC g.kf nB).nodup (by rw[n1];exact List.nodup_range);simp[EX,wD hk h3]
 obtain⟨X1,NO,ds',eA,⟨hs,obs,pA,qA⟩,rA⟩:=zm (P:=P) (ab:=ab) (rd:=ab++m.vr) (NM:=m.nm) (rN:=m.vr) (ev:=EX g.kf nB) hi hv hrd ho _ _ _ _ h1 (λ q hq=>hm2.1 q hq) (λ c hc=>h5 c (hm2.2.1 c hc)) (λ q hq=>hm2.2.2 q hq);obtain⟨nB',dB',xs,eB,bs,mo,pB,qB,rB⟩:=Bg (P:=P) (ab:=ab) (rd:=ab++m.vr) (NM:=m.nm) (rN:=m.vr) (ev:=EX g.kf nB) hi hv hrd ho _ _ _ h2 (λ q hq=>hq) h5 (λ q hq=>hq);have eqA:X1=nA:=by simp at NO;rw[<- NO,dA]
 have eqB:nB'=nB:=List.append_cancel_left (dB'.symm.trans dB);subst eqA eqB;have Nx:=eA [];have No:=eB [];rw[append_nil]at Nx No;have hargs:g.args v=ds':=by simp[ea.args,Xt,hdrop,htake,Nx]
 have vp:g.du v=xs:=by simp[ea.du,PR,hdrop,No,abR]
 have asM:(g.kf.map λp=>(ab[p.1]?).getD 0)=ab:=by
  have:(g.kf.map λp=>(ab[p.1]?).getD 0)=(g.kf.map (·.1)).map λj=>(ab[j]?).getD 0:=by rw[map_map];rfl
  rw[this,n1];refine List.ext_getElem (by simp[hlen]) λj a b=>?_;simp[dI b]
 rw[asM]at qB rB;have qA0:=qA [];rw[append_nil,iO,iO]at qA0;have hcon:=hg v rr h6;rw[hargs,vp]at hcon;obtain⟨s1,s2,s3⟩:=zI (ol:=EX g.ke ((xK (i9 (mA 0 g.gj)++eh g.ke) rr).drop (dg g.gj).length)) g.ke ((xK _ rr).drop (dg g.gj).length);have DA:∀k,Lk g.kf.length k=true->Hv ab.length k:=by intro k hk;simp[Lk]at hk;simp[hlen];exact hk
 have good:NT ab.length (uF (g.outs rr)) (den (g.res rr)):=by
  refine⟨?_,?_,?_,?_⟩;intro q hq;simp only[uF,mem_map]at hq;obtain⟨p,hp,rfl⟩:=hq;have⟨op,g1,_⟩:=s2 p hp;have:=all_eq_true.1 n3 _ g1;simp at this;exact DA _ this.1;have:(uF (g.outs rr)).map (·.1)=(g.outs rr).map (·.1):=by simp[uF]
  rw[this];exact s1.nodup n4;intro q hq r' hr' j hj;simp only[uF,mem_map]at hq;obtain⟨p,hp,rfl⟩:=hq;have⟨op,g1,g2⟩:=s2 p hp;have:=all_eq_true.1 n3 _ g1;simp only[aT]at this;refine DA _ (all_eq_true.1 this.2 j (g2 j ?_));obtain⟨pk,po⟩:=p;cases po with
  |cells sz rows=>exact Ol (mem_flatMap.2 ⟨r',hr',hj⟩)
  |eK c l=>
   simp[bL,aJ,mem_map]at hr';obtain⟨z,_,rfl⟩:=hr';rw[adr]at hj;simp at hj
  |map kc vc l=>
   simp only[bL,mem_map]at hr';obtain⟨z,_,rfl⟩:=hr';simp only[dJ,Bd,append_nil]at hj;simp at hj
  intro j hj;have:=(XB (ds:=Xt g.gj g.ke (xK _ rr))).1 j hj;exact DA _ (all_eq_true.1 n5 j (zH g.gj _ j this))
 have flat:g.flat=true->pg (uF (g.outs rr)) (den (g.res rr)):=by intro hf;simp only[ea.flat,aT]at hf;have hc:(xK (i9 (mA 0 g.gj)++eh g.ke) rr).map (·.c)=dg g.gj++eh g.ke:=(aii _ rr).trans (by rw[QS]);refine⟨(XB (ds:=Xt g.gj g.ke (xK _ rr))).2 ?_,?_⟩;refine(DF (ol:=_) g.gj _ [] ?_ hf.1).1;rw[append_nil,map_take,hc,List.take_left];intro q hq r' hr';simp only[uF,mem_map]at hq;obtain⟨p,hp,rfl⟩:=hq;exact s3 (by rw[map_drop,hc,List.drop_left]) hf.2 p hp r' hr'
 have dC:II (dN (ab++m.vr) (fK get)) (bH first++bH args++bH caps) ab m.vr bs:=by refine⟨hv,λj hj hn=>?_,λj hs' q o e1 e2 e3 z hz hn=>?_⟩;rw[<- iO,<- iO,jc]at hj;rcases rA j hj with ⟨q,hq⟩|hj;exact absurd (bT (hi _ hq)) hn;exact hj;rcases rB j hs' q o e1 e2 e3 z hz with ⟨q',hq⟩|hz;exact absurd (bT (hi _ hq)) hn;exact hz
 refine⟨.so ab m.vr bs hs (uF (g.outs rr)) (den (g.res rr)) g.flat,ab++m.vr,_,_,_,
  ⟨ik (cn i ab) (den (g.res rr)),C2 i ab (uF (g.outs rr))++(if g.flat then []else m.vr.map λk=>(k,none)),obs++mo++[zz P F (bH ds') (xs.map λp=>bL p.2) (uF (g.outs rr)) (den (g.res rr)),NT ab.length (uF (g.outs rr)) (den (g.res rr)),II (dN (ab++m.vr) (fK get)) (bH first++bH args++bH caps) ab m.vr bs]++(if g.flat then [pg (uF (g.outs rr)) (den (g.res rr))]else [])⟩,?_,?_,(Bf _ _).symm,?_,?_,h⟩
 simp only[den,lY,NU,qB,qA0,ai];rw[aP ⟨hnd,by omega⟩];refine sQ _ (ig (ig (ig pA pB) ?_) ?_);intro z hz;simp only[aI,bB,or_false]at hz;rcases hz with rfl|rfl|rfl;exact hcon;exact good;exact dC;intro z hz;cases hf:g.flat with
 |true=>rw[hf]at hz;simp only[if_true,bC]at hz;subst hz;exact flat hf
 |false=>rw[hf]at hz;simp at hz
 simp[tY,ak6];congr 1;cases g.flat with
 |true=>rfl
 |false=>exact(Dx m.vr).symm
 intro p hp;refine .inr ?_;rcases bI.1 hp with hp|hp;exact mem_append_left _ (mem_append_right _ (mem_map.2 ⟨p,hp,rfl⟩));cases hf:g.flat with
 |true=>rw[hf]at hp;simp at hp
 |false=>
  rw[hf]at hp;simp[Bool.false_eq_true,if_false,mem_map]at hp;obtain⟨z,hz,rfl⟩:=hp;exact mem_append_right _ hz
end
section
variable {X:SX} {A:Type}
def XC:RT X.ι->Bool
 |.d c=>yJ c
 |.fresh e=>yJ e
 |.whole _=>true
 |.mu c=>yJ c
 |.mr c=>yJ c
 |.mv=>true
theorem afn{c:CT X.ι}(h:yJ c=true)(x:CT.T X.toSE c):(CT.tv X.toSE c x).flat:=by
 cases c
 case st i=>exact wF h x
 all_goals first|exact trivial|cases h
theorem XD{ns:Y Nat}{q:RT X.ι}{x:RT.T X q}(h:XC q=true):∀c∈Xu ns q x,c.flat:=by
 intro c hc;cases q<;>simp[Xu]at hc
 case d c=>subst hc;exact afn h x
 case fresh e=>
  subst hc;intro row hr;obtain⟨y,_,rfl⟩:=mem_map.1 hr;exact wF h y
 case whole j=>subst hc;exact trivial
theorem TB{ns:Y Nat}:∀{l:Y (RT X.ι)}{x:uw X l},l.all XC=true->∀c∈Ce ns l x,c.flat
 |[],x,_,c,hc=>by simp[Ce]at hc
 |[q],x,h,c,hc=>XD (by simpa using h) c hc
 |q::q'::l,x,h,c,hc=>by simp at h;simp[Ce]at hc;rcases hc with hc|hc;exact XD h.1 c hc;exact TB (by simp;exact h.2) c hc
theorem XE{l:Y (RT X.ι)}(x:uw X l)(h:l.all XC=true):(uG l x).flat:=by have:=TB (ns:=A4 l x) (x:=x) h;unfold uG;split;rename_i c hc;exact this c (by rw[hc];simp);exact this
theorem abS{q:RT X.ι}{x:RT.T X q}(h:XC q=true):WJ (de q x):=by
 intro p hp;cases q<;>simp[de]at hp
 case mu c=>
  subst hp;intro r hr;obtain⟨y,_,rfl⟩:=mem_map.1 hr;exact wF h y
 case mr c=>
  subst hp;intro r hr;obtain⟨y,_,rfl⟩:=mem_map.1 hr;exact wF h y
theorem abT:∀{l:Y (RT X.ι)}{x:uw X l},l.all XC=true->WJ (pE l x)
 |[],x,_=>λp hp=>by simp[pE]at hp
 |[q],x,h=>abS (q:=q) (by simpa using h)
 |q::q'::l,x,h=>by simp at h;intro p hp;rcases bI.1 (show some p∈de q x.1++pE (q'::l) x.2 from hp)with hp|hp;exact abS h.1 p hp;exact abT (l:=q'::l) (by simp;exact h.2) p hp
def I5(i:Nat)(ab ns:Y Nat):(q:RT X.ι)->RT.T X q->Y (DV X)×List (Nat×Option (ci X))
 |.d c,x=>([.c c x],[])
 |.fresh e,l=>([.own (cD i) 0 l.length],[(cD i,some (.eK e l))])
 |.whole j,_=>([match ab[j]? with|some k=>.own k 0 (ns.getD j 0)|none=>.undef],[])
 |_,_=>([],[])
def L8(i:Nat)(ab ns:Y Nat):(l:Y (RT X.ι))->uw X l->J (List (DV X)×List (Nat×Option (ci X)))
 |[],_=>some ([],[])
 |[q],x=>some (I5 i ab ns q x)
 |q::q'::l,x=>(L8 i ab ns (q'::l) x.2).bind λp=>if (I5 i ab ns q x.1).2.isEmpty || p.2.isEmpty then some ((I5 i ab ns q x.1).1++p.1,(I5 i ab ns q x.1).2++p.2)else none
def arE:Y (DV X)->DV X
 |[d]=>d
 |ds=>.eE ds
def ID(i:Nat)(ab:Y Nat)(l:Y (RT X.ι))(x:uw X l):J (DV X×List (Nat×Option (ci X))):=
 (L8 i ab (A4 l x) l x).bind λp=>some (arE p.1,p.2)
theorem adu(u:Y (Nat×Option (ci X))):(ja u).isEmpty=u.isEmpty:=by cases u<;>rfl
theorem abU(i:Nat)(ab ns:Y Nat)(q:RT X.ι)(x:RT.T X q):(∃ c,Xu ns q x=[c]/\∃d,(I5 i ab ns q x).1=[d]/\KW i ab c=(den d,ja (I5 i ab ns q x).2))\/(Xu ns q x=[]/\I5 i ab ns q x=([],[])):=by
 cases q
 case d c=>exact .inl ⟨_,rfl,_,rfl,rfl⟩
 case fresh e=>exact .inl ⟨_,rfl,_,rfl,by simp[KW,I5,den,ja,bL,aJ]⟩
 case whole j=>
  refine .inl ⟨_,rfl,_,rfl,?_⟩;simp[KW,ja,I5];cases ab[j]?<;>rfl
 all_goals exact .inr ⟨rfl,rfl⟩
theorem afo(i:Nat)(ab:Y Nat)(c:RC):NN i ab [c]=some ([(KW i ab c).1],(KW i ab c).2):=by simp[NN]
theorem abV(i:Nat)(ab ns:Y Nat):∀(l:Y (RT X.ι))(x:uw X l)(p:Y (DV X)×List (Nat×Option (ci X))),L8 i ab ns l x=some p->NN i ab (Ce ns l x)=some (bH p.1,ja p.2)
 |[],_,p,h=>by simp[L8]at h;subst h;rfl
 |[q],x,p,h=>by simp[L8]at h;subst h;simp[Ce];rcases abU i ab ns q x with ⟨c,h1,d,h2,h3⟩|⟨h1,h2⟩;rw[h1,afo,h2,h3];simp[bH];rw[h1,h2];rfl
 |q::q'::l,x,p,h=>by simp only[L8]at h;rw[ah]at h;obtain⟨p',h1,h⟩:=h;have ih:=abV i ab ns (q'::l) x.2 p' h1;split at h;rename_i hc;cases h;simp[Ce];rcases abU i ab ns q x.1 with ⟨c,h1,d,h2,h3⟩|⟨h1,h2⟩;rw[h1];simp only[List.singleton_append,NN,ih,ai,h3,adu];rw[aP hc,h2];simp[bH,ja];rw[h1,h2];exact ih;cases h
theorem afp{i:Nat}{ab:Y Nat}{l:Y (RT X.ι)}{x:uw X l}{p:DV X×List (Nat×Option (ci X))}(h:ID i ab l x=some p):imp i ab (uG l x)=some (den p.1,ja p.2):=by
 unfold ID at h;rw[ah]at h;obtain⟨p',h1,h⟩:=h;cases h;have ih:=abV i ab _ l x p' h1;unfold uG;split;rename_i c hc;rw[hc,afo]at ih;simp at ih;obtain⟨ds,u⟩:=p'
 match ds,ih with
 |[d],ih=>
  simp[bH]at ih;simp[imp,arE,<- ih.1,<- ih.2]
 |[],ih|_::_::_,ih=>simp[bH]at ih
 rename_i hne;simp[imp,ih];obtain⟨ds,u⟩:=p'
 match ds,ih with
 |[],_|_::_::_,_=>rfl
 |[d],ih=>
  exfalso;generalize hcs:Ce (A4 l x) l x=cs at ih hne
  match cs,ih,hne with
  |[],ih,_=>simp[NN,bH]at ih
  |[c],_,hne=>exact hne c rfl
  |c::c'::cs,ih,_=>
   simp[NN]at ih;cases h3:NN i ab cs with
   |none=>rw[h3]at ih;simp at ih
   |some q=>
    rw[h3]at ih;simp at ih;split at ih;simp only[ai]at ih;split at ih;simp[bH]at ih;cases ih;simp at ih
def Ss:(q:RT X.ι)->RT.T X q->Y (Option (ci X))
 |.mu c,x=>[some (.eK c x)]
 |.mr c,x=>[some (.cells (CT.sz X c) [wE c x])]
 |.mv,_=>[none]
 |_,_=>[]
def XF:(l:Y (RT X.ι))->uw X l->Y (Option (ci X))
 |[],_=>[]
 |[q],x=>Ss q x
 |q::q'::l,x=>Ss q x.1++XF (q'::l) x.2
def L9:Y Nat->Y (Option (ci X))->Y (Nat×Option (ci X))
 |k::ab,p::os=>(k,p)::L9 ab os
 |_,_=>[]
theorem afq(q:RT X.ι)(x:RT.T X q):(Ss q x).map (·.map bL)=(de q x).map (·.map i6):=by
 cases q<;>try rfl
 case mr c=>simp[Ss,de,bL,i6,vU,aJ,qD]
theorem QY:∀(l:Y (RT X.ι))(x:uw X l),(XF l x).map (·.map bL)=(pE l x).map (·.map i6)
 |[],_=>rfl
 |[q],x=>afq q x
 |q::q'::l,x=>by simp[XF,pE,afq,QY (q'::l) x.2]
theorem abW:∀(ab:Y Nat)(os:Y (Option (ci X)))(os':Y (Option fe)),os.map (·.map bL)=os'.map (·.map i6)->ja (L9 ab os)=BV ab os'
 |[],_,_,_=>by simp[L9,BV,ja]
 |_::_,[],[],_=>rfl
 |k::ab,p::os,p'::os',h=>by simp at h;have:=abW ab os os' h.2;simp[ja]at this;simp[L9,BV,ja,h.1,this]
 |_::_,[],_::_,h|_::_,_::_,[],h=>by simp at h
theorem MF:∀{ab:Y Nat}{os:Y (Option (ci X))}{p:Nat×Option (ci X)},p∈L9 ab os->p.1∈ab
 |[],_,_,h|_::_,[],_,h=>by simp[L9]at h
 |k::ab,q::os,p,h=>by simp[L9]at h;rcases h with rfl|h;simp;exact eG _ (MF h)
def adv(get:Nat->J (ci X))(d:DV X)(c:CT X.ι):J (List (CT.T X.toSE c)×Nat×List Bool):=
 match d with
 |.own k 0 len=>(get k).bind λo=>match o with
  |.eK b l=>(lG (.sl b) (.sl c) l).bind λ(l:List (CT.T X.toSE c))=>some (l,k,[aE len (List.length l)])
  |_=>none
 |_=>none
def XG(get:Nat->J (ci X))(d:DV X)(c:CT X.ι):J (CT.T X.toSE c×Nat):=
 match d with
 |.ptr k 0 0=>(get k).bind λo=>match o with
  |.cells sz [row]=>if sz=CT.sz X c then(Ob c row).bind λx=>some (x,k)else none
  |_=>none
 |_=>none
def qE(Γ:FuncId->J (cy X))(get:Nat->J (ci X)):Y (DV X)->(l:Y (AT X.ι))->J (jg X l×List Nat×List Bool)
 |[],[]=>some ((),[],[])
 |d::ds,.mut c::l=>(adv get d c).bind λx=>(qE Γ get ds l).bind λh=>some ((x.1,h.1),x.2.1::h.2.1,x.2.2++h.2.2)
 |d::ds,.lh c::l=>(XG get d c).bind λx=>(qE Γ get ds l).bind λh=>some ((x.1,h.1),x.2::h.2.1,h.2.2)
 |d::ds,.d c::l=>(Ty Γ get 3 [d] [.d c]).bind λx=>(qE Γ get ds l).bind λh=>some ((x.1.1,h.1),h.2.1,x.2++h.2.2)
 |d::ds,.ref c::l=>(Ty Γ get 3 [d] [.ref c]).bind λx=>(qE Γ get ds l).bind λh=>some ((x.1.1,h.1),h.2.1,x.2++h.2.2)
 |d::ds,.eC as r::l=>(Ty Γ get 3 [d] [.eC as r]).bind λx=>(qE Γ get ds l).bind λh=>some ((x.1.1,h.1),h.2.1,x.2++h.2.2)
 |d::ds,.nil::l=>match d with
  |.nil=>(qE Γ get ds l).bind λh=>some (((),h.1),h.2.1,h.2.2)
  |_=>none
 |_,_=>none
def Kr:Y (DV X)->Y (AT X.ι)->Y Nat
 |d::ds,a::l=>(if a.im then []else cd d)++Kr ds l
 |_,_=>[]
def XH(get:Nat->J (ci X)):Y (DV X)->(l:Y (CT X.ι))->J (HL X.toSE l×List Bool)
 |[],[]=>some ((),[])
 |d::ds,c::l=>(Gx get d c).bind λx=>(XH get ds l).bind λh=>some ((x.1,h.1),x.2++h.2)
 |_,_=>none
variable (Γ:FuncId->Option (cy X))
def am2(i:Nat)(f:DV X)(args:Y (DV X))(get:Nat->J (ci X))(k:KK X A):J A:=
 match f with
 |.fn F first caps=>(Γ F).bind λs=>match s.gen.filter λg=>(tU get g.rh (first++args++caps) ⟨[],[],[],[]⟩).isSome with
  |some g=>aif g i (first++args++caps) get k
  |none=>if (s.args.all (λ q=>q.pl)&&s.res.all (λ q=>!q.out))=true then(Ty Γ get 3 (first++args++caps) s.args).bind λa=>Xg a.2 ((s.fn a.1).bind λx=>(ID i [] s.res x).bind λp=>
   if s.res.all XC then k p.1 p.2 (aS (first++args++caps)) []
   else k p.1 (p.2++Oi (aS (first++args++caps))) (aS (first++args++caps)) (aS (first++args++caps)))
  else(qE Γ get (first++args++caps) s.args).bind λa=>Xg a.2.2 ((s.fn a.1).bind λx=>(ID i a.2.1 s.res x).bind λp=>
   if (decide a.2.1.Nodup&&(Kr (first++args++caps) s.args).all (λ j=>!a.2.1.contains j)&&decide ((XF s.res x).length=a.2.1.length))=true then
    if s.res.all XC then k p.1 (p.2++L9 a.2.1 (XF s.res x)) (aS (first++args++caps)) a.2.1
    else k p.1 (p.2++(L9 a.2.1 (XF s.res x)++Oi ((aS (first++args++caps)).filter λj=>!a.2.1.contains j))) (aS (first++args++caps)) (a.2.1++(aS (first++args++caps)).filter λj=>!a.2.1.contains j)
   else none)
 |.eC as q Z=>(XH get args as).bind λh=>Xg h.2 ((Z h.1).bind λy=>
  if yJ q then k (.c q y) [] (aS args) []else k (.c q y) (Oi (aS args)) (aS args) (aS args))
 |_=>none
def Hh(fz:Y Nat)(T:eM)(code:TypeId->J (CT X.ι))(i:Nat)(o:Op)(ρ:Operand->DV X)(get:Nat->J (ci X))(k:KK X A):J A:=
 match o with
 |.call { callee:=.value f,args:=args,argTypes:=_ }=>am2 Γ i (ρ f) (args.toList.map ρ) get k
 |o=>if arB o ρ then aqD T code i o ρ get k else if arC o ρ || fz.contains i then aqE T code i o ρ get k else if arD T o ρ then aqF T code o ρ get k else Rd T code i o ρ get k
variable {Γ}
theorem Om{P:Q}{get:Nat->J (ci X)}{rd:Y Nat}:∀{ds:Y (DV X)}{l:Y (CT X.ι)}{h:HL X.toSE l×List Bool},XH get ds l=some h->(∀ b∈h.2,b=true)->(∀ j∈aS ds,j∈rd)->
 ∃hs obs,(∀ p∈obs,p)/\∀ae,nL P (dN rd (fK get)) (bH ds) (hs++ae)=some ((HL.oY X.toSE l h.1).map TV.av,ae,obs)
 |[],[],h,_,_,_=>⟨[],[],by simp,λae=>rfl⟩
 |d::ds,c::l,h,hr,hc,hrd=>by simp[XH]at hr;have⟨x,h1,hr⟩:=ah.1 hr;have⟨g,h2,hr⟩:=ah.1 hr;cases hr;obtain⟨hs1,o1,p1,q1⟩:=Be (P:=P) (rd:=rd) h1 (λ b hb=>hc b (by simp[hb])) (λ j hj=>hrd j (by simp[aS,hj]));obtain⟨hs2,o2,p2,q2⟩:=Om (P:=P) (rd:=rd) h2 (λ b hb=>hc b (by simp[hb])) (λ j hj=>hrd j (by simp[aS,hj]));refine⟨hs1++hs2,o1++o2,ig p1 p2,λae=>?_⟩;simp[bH,nL,q1,q2];rfl
 |[],_::_,_,hr,_,_|_::_,[],_,hr,_,_=>by simp[XH]at hr
theorem XI{i:Nat}{ab ns:Y Nat}{q:RT X.ι}{x:RT.T X q}:∀p∈(I5 i ab ns q x).2,p.1=cD i:=by cases q<;>simp[I5]
theorem XJ{i:Nat}{ab ns:Y Nat}:∀{l:Y (RT X.ι)}{x:uw X l}{p:Y (DV X)×List (Nat×Option (ci X))},L8 i ab ns l x=some p->∀q∈p.2,q.1=cD i
 |[],_,p,h=>by simp[L8]at h;subst h;simp
 |[q],x,p,h=>by simp[L8]at h;subst h;exact XI
 |q::q'::l,x,p,h=>by simp[L8]at h;have⟨p',h1,h⟩:=ah.1 h;split at h;cases h;intro z hz;rcases bI.1 hz with hz|hz;exact XI z hz;exact XJ h1 z hz;cases h
theorem abX{i:Nat}{ab:Y Nat}{l:Y (RT X.ι)}{x:uw X l}{p:DV X×List (Nat×Option (ci X))}(h:ID i ab l x=some p):∀q∈p.2,q.1=cD i:=by unfold ID at h;have⟨p',h1,h⟩:=ah.1 h;cases h;exact XJ h1
theorem I6{P:Q}{get:S}{x:AV}{hs ae:Y LH}{y:AV}{o:Y Prop}(h:nL P get [x] hs=some ([y],ae,o)):qd P get x hs=some (y,ae,o):=by simp only[nL,ai,append_nil,ah,bK,Prod.mk.injEq,List.cons.injEq,and_true]at h;obtain⟨q,h1,h2,h3,h4⟩:=h;rw[h1,<- h2,<- h3,<- h4]
theorem l5{d:DV X}{ds:Y (DV X)}{a:AT X.ι}{l:Y (AT X.ι)}{P:Ψ}(h:∀j∈Kr (d::ds) (a::l),P j):(a.im=false->∀j∈cd d,P j)/\∀j∈Kr ds l,P j:=by simp[Kr]at h;exact⟨λ e j hj=>h j (.inl (by rw[e];simpa using hj)),λj hj=>h j (.inr hj)⟩
theorem aqG{c:CT X.ι}{l:Y (CT.T X.toSE c)}:dW ((aJ (l.map (CT.row X.toSE c))).take (l.map (CT.row X.toSE c)).length)=aJ (l.map (CT.row X.toSE c)):=by rw[take_of_length_le (by simp[aJ])];simp only[dW,aJ,map_map];exact map_congr_left λy _=>by simp only[Function.comp,map_map];exact map_congr_left λz _=>rfl
theorem aas{get:Nat->J (ci X)}{d:DV X}{c:CT X.ι}{x:Y (CT.T X.toSE c)×Nat×List Bool}(h:adv get d c=some x)(hc:∀b∈x.2.2,b=true):
 d=.own x.2.1 0 (List.length x.1)/\∃o,get x.2.1=some o/\(bL o).sz=(vU c x.1).1/\dW ((bL o).rows.take (vU c x.1).2.length)=aJ (vU c x.1).2:=by
 unfold adv at h;split at h;rename_i k len;rw[ah]at h;obtain⟨o,h1,h⟩:=h;split at h;rename_i b l;rw[ah]at h;obtain⟨l',h2,h⟩:=h;cases h;have⟨h3,h4⟩:=jy h2;have h5:len=List.length l':=by simpa[aE]using hc (aE len (List.length l')) (by simp)
 refine⟨by rw[h5],.eK b l,h1,by simp;exact h3,?_⟩;simp only[bL,vU,h4];exact aqG;cases h;cases h
theorem XK{get:Nat->J (ci X)}{d:DV X}{c:CT X.ι}{x:CT.T X.toSE c×Nat}(h:XG get d c=some x):
 d=.ptr x.2 0 0/\∃o,get x.2=some o/\(bL o).sz=(vU c [x.1]).1/\dW ((bL o).rows.take (vU c [x.1]).2.length)=aJ (vU c [x.1]).2:=by unfold XG at h;split at h;rw[ah]at h;obtain⟨o,h1,h⟩:=h;split at h;split at h;rename_i hsz;have⟨y,h2,h⟩:=ah.1 h;cases h;refine⟨rfl,_,h1,by simp;exact hsz,?_⟩;simp[bL,vU,dW,aJ];rw[zk h2];cases h;cases h;cases h
theorem oI{P:Q}{Γ:FuncId->J (cy X)}(hΓ:t7 P Γ){get:Nat->J (ci X)}{rd ab:Y Nat}:∀{n:Nat}{ds:Y (DV X)}{l:Y (AT X.ι)}{a:jg X l×List Nat×List Bool},qE Γ get ds l=some a->(∀ b∈a.2.2,b=true)->(∀ j∈aS ds,j∈rd)->(∀ j∈Kr ds l,j∉ab)->ab.drop n=a.2.1->
 (∃ hs obs,(∀ p∈obs,p)/\∀ae,nC P (dN rd (fK get)) ab (bH ds) (hs++ae)=some (eO n l a.1,ae,obs))/\∃mo,EN (dN rd (fK get)) a.2.1 (vV l a.1)=some mo/\∀p∈mo,p
 |n,[],[],a,h,_,_,_,_=>by simp[qE]at h;subst h;exact⟨⟨[],[],by simp,λae=>rfl⟩,[],rfl,by simp⟩
 |n,d::ds,.mut c::l,a,h,hc,hrd,hnr,hid=>by
  simp[qE]at h;have⟨x,h1,h⟩:=ah.1 h;have⟨q,h2,h⟩:=ah.1 h;cases h;obtain⟨rfl,o,g1,g2,g3⟩:=aas h1 (λ b hb=>hc b (by simp[hb]));have E6:ab[n]? =some x.2.1:=by rw[<- List.head?_drop,hid];rfl
  have E7:ab.drop (n+1)=q.2.1:=by rw[<- List.tail_drop,hid];rfl
  obtain⟨⟨hs,obs,p1,p2⟩,mo,m1,m2⟩:=oI hΓ (n:=n+1) h2 (λ b hb=>hc b (by simp[hb])) (λ j hj=>hrd j (by simp[aS,hj])) (l5 hnr).2 E7;refine⟨⟨.mut n::hs,obs,p1,λae=>?_⟩,((bL o).sz=(vU c x.1).1/\dW ((bL o).rows.take (vU c x.1).2.length)=aJ (vU c x.1).2)::mo,?_,?_⟩;simp[bH,den,nC,rR,E6,p2,eO];simp[vV,EN,fA (hrd x.2.1 (by simp[aS,cd])) g1,m1];intro p hp;rcases aI.1 hp with rfl|hp;exact⟨g2,g3⟩;exact m2 p hp
 |n,d::ds,.lh c::l,a,h,hc,hrd,hnr,hid=>by
  simp[qE]at h;have⟨x,h1,h⟩:=ah.1 h;have⟨q,h2,h⟩:=ah.1 h;cases h;obtain⟨rfl,o,g1,g2,g3⟩:=XK h1;have E6:ab[n]? =some x.2:=by rw[<- List.head?_drop,hid];rfl
  have E7:ab.drop (n+1)=q.2.1:=by rw[<- List.tail_drop,hid];rfl
  obtain⟨⟨hs,obs,p1,p2⟩,mo,m1,m2⟩:=oI hΓ (n:=n+1) h2 (λ b hb=>hc b (by simp[hb])) (λ j hj=>hrd j (by simp[aS,hj])) (l5 hnr).2 E7;refine⟨⟨.mut n::hs,obs,p1,λae=>?_⟩,((bL o).sz=(vU c [x.1]).1/\dW ((bL o).rows.take (vU c [x.1]).2.length)=aJ (vU c [x.1]).2)::mo,?_,?_⟩;simp[bH,den,nC,cons_append,rR,E6,if_true,ai,p2,eO,fI];simp[vV,EN,fA (hrd x.2 (by simp[aS,cd])) g1,ai,m1];intro p hp;rcases aI.1 hp with rfl|hp;exact⟨g2,g3⟩;exact m2 p hp
 |n,d::ds,.d c::l,a,h,hc,hrd,hnr,hid=>by simp[qE]at h;have⟨x,h1,h⟩:=ah.1 h;have⟨q,h2,h⟩:=ah.1 h;cases h;obtain⟨hs1,o1,p1,q1⟩:=tX (P:=P) hΓ 3 (n:=n) h1 (λ b hb=>hc b (by simp[hb])) (rd:=rd) (λ j hj=>hrd j (by simp[aS,append_nil]at hj;simp[aS,hj]));obtain⟨⟨hs,obs,p2,q2⟩,mo,m1,m2⟩:=oI hΓ (n:=n) h2 (λ b hb=>hc b (by simp[hb])) (λ j hj=>hrd j (by simp[aS,hj])) (l5 hnr).2 hid;refine⟨⟨A3 (den d) hs1++hs,o1++obs,ig p1 p2,λae=>?_⟩,mo,m1,m2⟩;have:=zl (I6 (q1 (hs++ae))) (λ k hk=>(l5 hnr).1 rfl k (by rwa [jb]at hk));rw[Oj]at this;simp[bH,nC,aU,this,ai,q2,eO]
 |n,d::ds,.ref c::l,a,h,hc,hrd,hnr,hid=>by simp[qE]at h;have⟨x,h1,h⟩:=ah.1 h;have⟨q,h2,h⟩:=ah.1 h;cases h;obtain⟨hs1,o1,p1,q1⟩:=tX (P:=P) hΓ 3 (n:=n) h1 (λ b hb=>hc b (by simp[hb])) (rd:=rd) (λ j hj=>hrd j (by simp[aS,append_nil]at hj;simp[aS,hj]));obtain⟨⟨hs,obs,p2,q2⟩,mo,m1,m2⟩:=oI hΓ (n:=n) h2 (λ b hb=>hc b (by simp[hb])) (λ j hj=>hrd j (by simp[aS,hj])) (l5 hnr).2 hid;refine⟨⟨A3 (den d) hs1++hs,o1++obs,ig p1 p2,λae=>?_⟩,mo,m1,m2⟩;have:=zl (I6 (q1 (hs++ae))) (λ k hk=>(l5 hnr).1 rfl k (by rwa [jb]at hk));rw[Oj]at this;simp[bH,nC,aU,this,ai,q2,eO]
 |n,d::ds,.eC as r::l,a,h,hc,hrd,hnr,hid=>by simp[qE]at h;have⟨x,h1,h⟩:=ah.1 h;have⟨q,h2,h⟩:=ah.1 h;cases h;obtain⟨hs1,o1,p1,q1⟩:=tX (P:=P) hΓ 3 (n:=n) h1 (λ b hb=>hc b (by simp[hb])) (rd:=rd) (λ j hj=>hrd j (by simp[aS,append_nil]at hj;simp[aS,hj]));obtain⟨⟨hs,obs,p2,q2⟩,mo,m1,m2⟩:=oI hΓ (n:=n) h2 (λ b hb=>hc b (by simp[hb])) (λ j hj=>hrd j (by simp[aS,hj])) (l5 hnr).2 hid;refine⟨⟨A3 (den d) hs1++hs,o1++obs,ig p1 p2,λae=>?_⟩,mo,m1,m2⟩;have:=zl (I6 (q1 (hs++ae))) (λ k hk=>(l5 hnr).1 rfl k (by rwa [jb]at hk));rw[Oj]at this;simp[bH,nC,aU,this,ai,q2,eO]
 |n,d::ds,.nil::l,a,h,hc,hrd,hnr,hid=>by simp[qE]at h;split at h;have⟨q,h2,h⟩:=ah.1 h;cases h;obtain⟨⟨hs,obs,p2,q2⟩,mo,m1,m2⟩:=oI hΓ (n:=n) h2 hc (λ j hj=>hrd j (by simp[aS,hj])) (l5 hnr).2 hid;refine⟨⟨.nil::hs,obs,p2,λae=>?_⟩,mo,m1,m2⟩;have:=zl (P:=P) (get':=dN rd (fK get)) (ab:=ab) (x:=.d5) (hs:=.nil::(hs++ae)) (p:=(.d5,hs++ae,[])) rfl (λ k hk=>by simp[refs]at hk);simp[A3]at this;simp[bH,den,nC,cons_append,this,ai,q2,eO,fI];cases h
 |_,[],_::_,_,h,_,_,_,_=>by simp[qE]at h
 |_,_::_,[],_,h,_,_,_,_=>by simp[qE]at h
theorem afr{P:Q}(hΓ:t7 P Γ){i:Nat}{f:DV X}{args:Y (DV X)}{get:Nat->J (ci X)}{k:KK X A}{r:A}(h:am2 Γ i f args get k=some r):
 ∃cP rd wr dv upd out,lY P i (den f) (bH args) cP (dN rd (fK get))=some out/\iZ out.obs/\out.v=den dv/\out.upd=ja upd/\(∀ p∈upd,p.1=cD i\/p.1∈wr)/\k dv upd rd wr=some r:=by
 unfold am2 at h;split at h;rename_i F first caps
 rw[ah]at h;obtain⟨s,h1,h⟩:=h;split at h;rename_i g hgen;exact adt ((hΓ F s h1).2.2 g (Option.filter_eq_some_iff.1 hgen).1) h;split at h;rename_i hpure;rw[ah]at h;obtain⟨⟨a,cs⟩,h2,h⟩:=h;have⟨hcs,h⟩:=qV h;rw[ah]at h;obtain⟨x,h3,h⟩:=h;rw[ah]at h;obtain⟨p,h4,h⟩:=h;have hf0:=(hΓ F s h1).2.1 a x h3;simp only[aT]at hpure;rw[IX (arx hpure.1),afc hpure.2]at hf0;have hf:=pu hf0;have hi:=afp h4;have hk:=abX h4;obtain⟨hs,obs,g1,g2⟩:=tX (P:=P) hΓ 3 h2 hcs (rd:=aS (first++args++caps)) (λ j hj=>hj);have g3:=g2 [];rw[append_nil,iO,iO]at g3;have hrefs:dJ (bH first++bH args++bH caps)=aS (first++args++caps):=by rw[<- iO,<- iO,jc]
 split at h;rename_i hfl;refine⟨.call hs (uG s.res x) true,_,[],p.1,p.2,⟨den p.1,ja p.2,obs++[sq P F (zF s.args a) (uG s.res x),(uG s.res x).flat]⟩,?_,?_,rfl,rfl,λq hq=>.inl (hk q hq),h⟩;simp only[den,lY,sD,A9,hi,ai,g3];rfl;exact sQ _ (ig g1 (by intro q hq;simp only[aI,bB,or_false]at hq;rcases hq with rfl|rfl;exact hf;exact XE x hfl));refine⟨.call hs (uG s.res x) false,_,_,p.1,_,⟨den p.1,ja p.2++(aS (first++args++caps)).map (λ k=>(k,none)),obs++[sq P F (zF s.args a) (uG s.res x)]⟩,?_,?_,rfl,?_,?_,h⟩;simp only[den,lY,sD,A9,hi,ai,g3,hrefs];rfl;exact sQ _ (ig g1 (by intro q hq;simp only[bC]at hq;subst hq;exact hf));simp[tY,Dx];intro q hq;rcases bI.1 hq with hq|hq;exact .inl (hk q hq);exact .inr (Ko hq);rename_i hpure;rw[ah]at h;obtain⟨⟨a,ab,cs⟩,h2,h⟩:=h;have⟨hcs,h⟩:=qV h;rw[ah]at h;obtain⟨x,h3,h⟩:=h;rw[ah]at h;obtain⟨p,h4,h⟩:=h;split at h;rename_i hc;simp only[aT,bf]at hc;obtain⟨⟨hnd,hnr⟩,hlen⟩:=hc;have hf:=(hΓ F s h1).2.1 a x h3;have hi:=afp h4;have hk:=abX h4;obtain⟨⟨hs,obs,g1,g2⟩,mo,m1,m2⟩:=oI (P:=P) hΓ (rd:=aS (first++args++caps)) (ab:=ab) (n:=0) h2 hcs (λ j hj=>hj) (λ j hj=>by simpa using all_eq_true.1 hnr j hj) rfl;have g3:=g2 [];rw[append_nil,iO,iO]at g3;have hrefs:dJ (bH first++bH args++bH caps)=aS (first++args++caps):=by rw[<- iO,<- iO,jc]
 have hlen':(pE s.res x).length=ab.length:=by rw[<- hlen];simpa using (congrArg List.length (QY s.res x)).symm
 have hout:ja (L9 ab (XF s.res x))=BV ab (pE s.res x):=abW _ _ _ (QY s.res x);split at h;rename_i hfl;refine⟨.vy ab (vV s.args a) (pE s.res x) hs (uG s.res x) true,_,ab,p.1,_,⟨den p.1,ja p.2++BV ab (pE s.res x),obs++mo++[ro P F (zF s.args a) (vV s.args a) (pE s.res x) (uG s.res x),(uG s.res x).flat,WJ (pE s.res x)]⟩,?_,?_,rfl,?_,?_,h⟩;simp only[den,lY,sD,IB,hi,ai,m1,g3];rw[aP ⟨hnd,hlen'⟩];rfl;refine sQ _ (ig (ig g1 m2) ?_);intro q hq;simp only[aI,bB,or_false]at hq;rcases hq with rfl|rfl|rfl;exact hf;exact XE x hfl;exact abT hfl;simp[tY,hout];intro q hq;rcases bI.1 hq with hq|hq;exact .inl (hk q hq);exact .inr (MF hq);refine⟨.vy ab (vV s.args a) (pE s.res x) hs (uG s.res x) false,_,_,p.1,_,⟨den p.1,ja p.2++(BV ab (pE s.res x)++((aS (first++args++caps)).filter λj=>!ab.contains j).map (λ k=>(k,none))),obs++mo++[ro P F (zF s.args a) (vV s.args a) (pE s.res x) (uG s.res x)]⟩,?_,?_,rfl,?_,?_,h⟩;simp only[den,lY,sD,IB,hi,ai,m1,g3,IA,hrefs];rw[aP ⟨hnd,hlen'⟩];rfl;refine sQ _ (ig (ig g1 m2) ?_);intro q hq;simp only[bC]at hq;subst hq;exact hf;simp[tY,hout,Dx];intro q hq;rcases bI.1 hq with hq|hq;exact .inl (hk q hq);rcases bI.1 hq with hq|hq;exact .inr (mem_append_left _ (MF hq));exact .inr (mem_append_right _ (Ko hq));cases h;rename_i as q Z;rw[ah]at h;obtain⟨⟨hh,cs⟩,h1,h⟩:=h;have⟨hcs,h⟩:=qV h;rw[ah]at h;obtain⟨y,h2,h⟩:=h;obtain⟨hs,obs,g1,g2⟩:=Om (P:=P) h1 hcs (rd:=aS args) (λ j hj=>hj);have g3:=g2 [];rw[append_nil]at g3;have hφ:∃h' x',Z h'=some x'/\HL.oY X.toSE as hh=HL.oY X.toSE as h'/\CT.tv X.toSE q y=CT.tv X.toSE q x':=⟨hh,y,h2,rfl,rfl⟩;split at h;rename_i hfl;refine⟨.G3 hs (HL.oY X.toSE as hh) (CT.tv X.toSE q y) true,_,[],.c q y,[],⟨(CT.tv X.toSE q y).av,[],obs++[(HL.oY X.toSE as hh).map TV.av=(HL.oY X.toSE as hh).map TV.av,(∃ h' x',Z h'=some x'/\HL.oY X.toSE as hh=HL.oY X.toSE as h'/\CT.tv X.toSE q y=CT.tv X.toSE q x'),(CT.tv X.toSE q y).flat]⟩,?_,?_,rfl,rfl,by simp,h⟩;simp only[den,lY,sD,A9,g3,ai];rfl;exact sQ _ (ig g1 (by intro z hz;simp only[aI,bB,or_false]at hz;rcases hz with rfl|rfl|rfl;trivial;exact hφ;exact afn hfl y));refine⟨.G3 hs (HL.oY X.toSE as hh) (CT.tv X.toSE q y) false,_,_,.c q y,_,⟨(CT.tv X.toSE q y).av,(aS args).map (λ k=>(k,none)),obs++[(HL.oY X.toSE as hh).map TV.av=(HL.oY X.toSE as hh).map TV.av,(∃ h' x',Z h'=some x'/\HL.oY X.toSE as hh=HL.oY X.toSE as h'/\CT.tv X.toSE q y=CT.tv X.toSE q x')]⟩,?_,?_,rfl,(Dx _).symm,λz hz=>.inr (Ko hz),h⟩;simp only[den,lY,sD,A9,g3,ai,jc];rfl;exact sQ _ (ig g1 (by intro z hz;simp only[aI,bB,or_false]at hz;rcases hz with rfl|rfl;trivial;exact hφ));cases h
theorem aik{P:Q}(hΓ:t7 P Γ){fz:Y Nat}{T:eM}{code:TypeId->J (CT X.ι)}{i:Nat}{o:Oper}{ρ:Operand->DV X}{get:Nat->J (ci X)}{k:KK X A}{r:A}(h:Hh Γ fz T code i o.op ρ get k=some r):eJ P T i o ρ get k r:=by
 obtain⟨dst,op,ty,am,after,guard⟩:=o;unfold Hh at h;simp only at h;split at h
 .have:=afr hΓ h;simp only[<- VN]at this;obtain⟨cP,rd,wr,dv,upd,out,g1,g2⟩:=this;exact .call g1 g2
 .split at h
  .exact aib (o:=⟨dst,op,ty,am,after,guard⟩) h
  .split at h
   .exact aic (o:=⟨dst,op,ty,am,after,guard⟩) h
   .split at h
    .exact aid (o:=⟨dst,op,ty,am,after,guard⟩) h
    .rename_i hne _ _ _;have⟨cP,rd,wr,dv,upd,out,g1,g2⟩:=abJ (o:=⟨dst,op,ty,am,after,guard⟩) h;exact eJ.op (λ f args ej e=>hne f args ej e) g1 g2
end
def lO(x y:AV):Prop:=∀P G w I v,VR P G w I x v->VR P G w I y v
theorem lO.refl(x:AV):lO x x:=λ_ _ _ _ _ h=>h
theorem lO.undef(x:AV):lO x .undef:=λ_ _ _ _ _ _=>by simp[VR]
theorem lO.wk(x:AV):lO x (wk x):=λ_ _ _ _ _ h=>h.wk
section
variable {P:Program} {w0:World} {O0:lp} {N:Nat} {G:Nat->Option dc} {I:Nat->Prop} {a:Act} {w:World} {f g:Nat->Nat} {D:Nat->Prop}
mutual
theorem VR.rn(hgf:∀k,D k->g (f k)=k):∀(x:AV)(v:Value),(∀ k∈refs x,D k)->VR P G w I x v->VR P (λ j=>G (g j)) w I (ik f x) v
 |.own k aa len,v,hd,h=>by simp[ik,VR,hgf k (hd k (by simp[refs]))]at h |-;exact h
 |.ptr k row aa,v,hd,h=>by simp[ik,VR,hgf k (hd k (by simp[refs]))]at h |-;exact h
 |.agg cs,v,hd,h=>by simp[VR]at h |-;obtain⟨vs,h1,h2⟩:=h;exact⟨vs,h1,br.rn hgf cs _ (by simpa[refs]using hd) h2⟩
 |.eE cs,v,hd,h=>by simp[VR]at h |-;obtain⟨vs,h1,h2⟩:=h;exact⟨vs,h1,br.rn hgf cs _ (by simpa[refs]using hd) h2⟩
 |.fn F first caps,v,hd,h=>by simp[VR]at h |-;obtain⟨fs,cs,h1,h2,h3⟩:=h;exact⟨fs,cs,h1,br.rn hgf first _ (λ k hk=>hd k (by simp[refs,hk])) h2,br.rn hgf caps _ (λ k hk=>hd k (by simp[refs,hk])) h3⟩
 |.t x,v,_,h|.eW r o,v,_,h|.eC Z,v,_,h=>by simpa[ik,VR]using h
 |.mp k,v,hd,h=>by simp[ik,VR,hgf k (hd k (by simp[refs]))]at h |-;exact h
 |.oz k len,v,hd,h=>by simp[ik,VR,hgf k (hd k (by simp[refs]))]at h |-;exact h
 |.d5,v,_,h|.ub,v,_,h=>by simpa[ik,VR]using h
 |.undef,v,_,h=>by simp[ik,VR]
theorem br.rn(hgf:∀k,D k->g (f k)=k):∀(xs:List AV)(vs:List Value),(∀ k∈dJ xs,D k)->br P G w I xs vs->br P (λ j=>G (g j)) w I (wB f xs) vs
 |[],[],_,_=>by simp[wB,br]
 |x::xs,v::vs,hd,h=>by simp[br]at h;simp[wB];exact⟨VR.rn hgf x v (λ k hk=>hd k (by simp[dJ,hk])) h.1,br.rn hgf xs vs (λ k hk=>hd k (by simp[dJ,hk])) h.2⟩
 |[],_::_,_,h|_::_,[],_,h=>by simp[br]at h
end
def nt(D:Ψ)(f:Nat->Nat):Y AV->Y AV->Prop
 |[],[]=>True
 |x::xs,y::ys=>((∀ k∈refs x,D k)/\lO (ik f x) y)/\nt D f xs ys
 |_,_=>False
def il(D:Ψ)(f:Nat->Nat):Y (List AV)->Y (List AV)->Prop
 |[],[]=>True
 |r::rs,q::qs=>nt D f r q/\il D f rs qs
 |_,_=>False
theorem nt.length:∀{r q:Y AV},nt D f r q->q.length=r.length
 |[],[],_=>rfl
 |_::xs,_::ys,h=>by simp[nt.length h.2]
 |[],_::_,h|_::_,[],h=>h.elim
theorem d8.re(hgf:∀k,D k->g (f k)=k):∀{r q:Y AV}{c:Array Value}{aa:Nat},nt D f r q->d8 P G w I r c aa->d8 P (λ j=>G (g j)) w I q c aa
 |[],[],_,_,_,_=>trivial
 |x::xs,y::ys,c,aa,hr,⟨⟨v,h1,h2,h3⟩,h4⟩=>⟨⟨v,h1,hr.1.2 _ _ _ _ _ (VR.rn hgf x v hr.1.1 h2),h3⟩,d8.re hgf hr.2 h4⟩
 |[],_::_,_,_,h,_|_::_,[],_,_,h,_=>h.elim
theorem cj.re(hgf:∀k,D k->g (f k)=k):∀{rs qs:Y (List AV)}{c:Array Value}{aa sz:Nat},il D f rs qs->cj P G w I rs c aa sz->cj P (λ j=>G (g j)) w I qs c aa sz
 |[],[],_,_,_,_,_=>trivial
 |r::rs,q::qs,c,aa,sz,hr,⟨h1,h2,h3⟩=>⟨by rw[hr.1.length];exact h1,d8.re hgf hr.1 h2,cj.re hgf hr.2 h3⟩
 |[],_::_,_,_,_,h,_|_::_,[],_,_,_,h,_=>h.elim
theorem br.re(hgf:∀k,D k->g (f k)=k):∀{r q:Y AV}{vs:Y Value},nt D f r q->br P G w I r vs->br P (λ j=>G (g j)) w I q vs
 |[],[],[],_,_=>by simp[br]
 |x::xs,y::ys,v::vs,hr,h=>by exact⟨hr.1.2 _ _ _ _ _ (VR.rn hgf x v hr.1.1 h.1),br.re hgf hr.2 h.2⟩
 |[],_::_,_,h,_|_::_,[],_,h,_=>h.elim
 |[],[],_::_,_,h|_::_,_::_,[],_,h=>by simp[br]at h
theorem c9.re(hgf:∀k,D k->g (f k)=k):∀{rs qs:Y (List AV)}{es:Y MapEntry},il D f rs qs->c9 P G w I rs es->c9 P (λ j=>G (g j)) w I qs es
 |[],[],[],_,_=>trivial
 |r::rs,q::qs,_::es,hr,⟨h1,h2⟩=>⟨br.re hgf hr.1 h1,c9.re hgf hr.2 h2⟩
 |[],_::_,_,h,_|_::_,[],_,h,_|[],[],_::_,_,h|_::_,_::_,[],_,h=>h.elim
theorem il.length:∀{rs qs:Y (List AV)},il D f rs qs->qs.length=rs.length
 |[],[],_=>rfl
 |_::xs,_::ys,h=>by simp[il.length h.2]
 |[],_::_,h|_::_,[],h=>h.elim
theorem Rel.re{s s':St}(hgf:∀k,D k->g (f k)=k)(hg:∀j,j<1000->g j=j)(hr:Rel P w0 O0 N G I s a w)(hok:∀t,s.ok t=none\/s'.env t=.undef)(hok':∀t,s'.ok t=none)
 (hE:∀t,s'.env t=.undef\/((∀ k∈refs (s.env t),D k)/\lO (ik f (s.env t)) (s'.env t)))
 (hO:∀j o',s'.obj j=some o'->∃k o,s.obj k=some o/\D k/\f k=j/\o'.sz=o.sz/\il D f o.rows o'.rows):Rel P w0 O0 N (λ j=>G (g j)) I s' a w:=by
 refine⟨hr.defers,hr.size,λt=>?_,?_⟩
 .have h1:=hr.env t;rw[hok' t];rcases hok t with hk|h
  rotate_left
  rw[h];simp[gc,VR];rw[hk]at h1;rcases hE t with h|⟨h2,h3⟩;rw[h];simp[gc,VR];exact h3 _ _ _ _ _ (VR.rn hgf _ _ h2 h1)
 have hm:=hr.mem;constructor;intro j o' hj;obtain⟨k,o,h1,h2,rfl,h4,h5⟩:=hO j o' hj;have⟨B,hB,tS⟩:=hm.du k o h1;refine⟨B,by simp[hgf k h2];exact hB,?_⟩;cases B with
 |none=>
  simp[OR]at tS |-;rw[tS]at h5;cases ho:o'.rows with
  |nil=>rfl
  |cons=>rw[ho]at h5;exact h5.elim
 | «at» b sz n=>
  obtain⟨g1,c,e,g2,g3,g4⟩:=tS;exact⟨by rw[g1,h4],c,e,g2,g3,cj.re hgf h5 g4⟩
 |mp b=>
  obtain⟨es,cl,g1,gl,g2,g3⟩:=tS;have hl:=h5.length;exact⟨es,cl,g1,by omega,λe=>c9.re hgf h5 (g2 (by omega)),g3⟩
 intro j j' o o' B B' b h1 h2 h3 h4 h5 h6;obtain⟨k,q,i1,i2,rfl,_⟩:=hO j o h1;obtain⟨k',q',i1',i2',rfl,_⟩:=hO j' o' h2;simp[hgf k i2,hgf k' i2']at h3 h4;rw[hm.iv k k' q q' B B' b i1 i1' h3 h4 h5 h6];intro j o B b h1 h2;obtain⟨k,q,i1,i2,rfl,_⟩:=hO j o h1;simp[hgf k i2]at h2;exact hm.ownB k q B b i1 h2;exact hm.lt;exact hm.up;exact hm.keep;exact hm.le;exact hm.os;exact hm.tape;exact hm.output;intro j B hj;show G (g j)=some B;rw[hg j (O0.lt j B hj)];exact hm.anch j B hj;exact hm.vars
end
section
variable {X:SX}
theorem afs{D:Ψ}(f:Nat->Nat):∀r:Y (DV X),(∀ k∈aS r,D k)->nt D f (bH r) (bH (MB f r))
 |[],_=>trivial
 |x::xs,h=>⟨⟨λ k hk=>h k (by rw[jb]at hk;simp[aS,hk]),by rw[Bf];exact lO.refl _⟩,afs f xs λk hk=>h k (by simp[aS,hk])⟩
theorem Kt{D:Ψ}(f:Nat->Nat)(o:ci X)(h:∀k∈eI o,D k):(bL (ry f o)).sz=(bL o).sz/\il D f (bL o).rows (bL (ry f o)).rows:=by
 cases o with
 |cells sz rows=>
  refine⟨rfl,?_⟩;simp only[eI]at h
  induction rows with
  |nil=>trivial
  |cons r rs ih=>
   refine⟨afs f r λk hk=>h k (by simp[hk]),ih λk hk=>h k ?_⟩;simp only[bq,flatten_cons,bI];exact .inr hk
 |eK c l=>
  refine⟨rfl,?_⟩;simp[bL,ry];generalize l.map (CT.row X.toSE c)=rows;have hrow:∀r:Y Tree,nt D f (r.map AV.t) (r.map AV.t):=by
   intro r
   induction r with
   |nil=>trivial
   |cons y ys ih=>exact⟨⟨by simp[refs],lO.refl _⟩,ih⟩
  induction rows with
  |nil=>trivial
  |cons r rs ih=>exact⟨hrow r,ih⟩
 |map kc vc l=>
  refine⟨rfl,?_⟩;clear h
  induction l with
  |nil=>trivial
  |cons p ps ih=>exact⟨⟨⟨by simp[Bd],by rw[XA];exact lO.refl _⟩,⟨by simp[Bd],by rw[XA];exact lO.refl _⟩,trivial⟩,ih⟩
structure Low(s:ek X):Prop where
 le:s.nx<=1000000
 ge:1000<=s.nx
 env:∀t,∀k∈cd (fL s.env t),k<s.nx
 obj:∀k o,iS s.obj k=some o->k<s.nx/\∀j∈eI o,j<s.nx
theorem XL{o:ci X}{r:Y AV}{x:AV}(hr:r∈(bL o).rows)(hx:x∈r):∀j∈refs x,j∈eI o:=by
 intro j hj;cases o with
 |cells sz rows=>
  simp[bL]at hr;obtain⟨q,hq,rfl⟩:=hr;rw[pz,mem_map]at hx;obtain⟨d,hd,rfl⟩:=hx;simp[eI];refine⟨_,⟨q,hq,rfl⟩,?_⟩;have:∀l:Y (DV X),d∈l->j∈aS l:=by
   intro l
   induction l with
   |nil=>intro h;simp at h
   |cons y ys ih=>intro h;rcases aI.1 h with rfl|h
                  simp[aS];left;rwa [jb]at hj;simp[aS];exact .inr (ih h)
  exact this q hd
 |eK c l=>
  simp[bL,aJ]at hr;obtain⟨q,_,rfl⟩:=hr;simp at hx;obtain⟨t,_,rfl⟩:=hx;simp[refs]at hj
 |map kc vc l=>
  simp only[bL,mem_map]at hr;obtain⟨q,_,rfl⟩:=hr;simp at hx;rcases hx with rfl|rfl<;>simp[Bd]at hj
theorem Low.old{s:ek X}(h:Low s):t6 s.st:=by have hle:=h.le;constructor;intro t k hk;have:=h.env t k (by rw[<- jb];exact hk);omega;intro k o hk;simp[ek.st]at hk;obtain⟨o',h1,rfl⟩:=hk;have⟨h2,h3⟩:=h.obj k o' h1;refine⟨by omega,λr hr x hx j hj=>?_⟩;have:=h3 j (XL hr hx j hj);omega
end
section
variable {X:SX} {A:Type}
def qr(e b:Y (Nat×DV X))(t:Nat):DV X:=match lk e t with|some x=>x|none=>fL b t
def AE(o b:Y (Nat×Option (ci X)))(k:Nat):J (ci X):=match lk o k with|some x=>x|none=>iS b k
def Ay(dst:J Tmp)(dv:DV X)(e:Y (Nat×DV X)):Y (Nat×DV X):=match dst with|some t=>(t,dv)::e|none=>e
def XM:DV X->DV X
 |.skip=>.undef
 |x=>x
def Ma(e:Y (Nat×DV X)):Operand->Bool
 |.tmp t=>match lk e t with|some .skip=>false|_=>true
 |_=>true
def TD(e b:Y (Nat×DV X))(o:Op):Bool:=
 match o with
 |.pick c x y=>Ma e c&&((Ma e x&&Ma e y) || match y6 (qr e b) c with|.c .bool t=>bif t then Ma e x else Ma e y|_=>false)
 |o=>o.operands.toList.all (Ma e)
abbrev HG:=List (Nat×List Nat×List Nat)
section
variable (Γ:FuncId->Option (cy X)) (fz:List Nat) (T:eM) (code:TypeId->Option (CT X.ι)) (ag:Array Oper) (b:ek X)
def zJ(k:Y (Nat×DV X)->Y (Nat×Option (ci X))->HG->J A):Y Nat->Y (Nat×DV X)->Y (Nat×Option (ci X))->HG->J A
 |[],e,o,pC=>k e o pC
 |i::r,e,o,pC=>(ag[i]?).bind λop=>match op.guard with
  |none=>bif TD e b.env op.op then Hh Γ fz T code i op.op (y6 (qr e b.env)) (AE o b.obj) λdv upd rd wr=>zJ k r (Ay op.dst (XM dv) e) (upd++o) ((i,rd,wr)::pC)else none
  |some (j,p)=>((ag[j]?).bind (·.dst)).bind λt=>match qr e b.env t with
   |.c .bool v=>
    bif v then(bif p then(bif TD ((t,.c .bool true)::e) b.env op.op then Hh Γ fz T code i op.op (y6 (qr ((t,.c .bool true)::e) b.env)) (AE o b.obj) λdv upd rd wr=>zJ k r (Ay op.dst (XM dv) ((t,.c .bool true)::e)) (upd++o) ((i,rd,wr)::pC)else none)
     else zJ k r (Ay op.dst .skip ((t,.c .bool true)::e)) o ((i,[],[])::pC))
    else(bif p then zJ k r (Ay op.dst .skip ((t,.c .bool false)::e)) o ((i,[],[])::pC)
     else(bif TD ((t,.c .bool false)::e) b.env op.op then Hh Γ fz T code i op.op (y6 (qr ((t,.c .bool false)::e) b.env)) (AE o b.obj) λdv upd rd wr=>zJ k r (Ay op.dst (XM dv) ((t,.c .bool false)::e)) (upd++o) ((i,rd,wr)::pC)else none))
   |.skip=>bif(lk e t).isSome then zJ k r (Ay op.dst .skip e) o ((i,[],[])::pC)else none
   |_=>none
end
def iL(b:ek X)(e:Y (Nat×DV X))(o:Y (Nat×Option (ci X))):St:=⟨λ t=>den (qr e b.env t),λk=>(AE o b.obj k).map bL,λt=>match lk e t with|some .skip=>some false|_=>none⟩
theorem ak8(x:DV X):den (XM x)=den x:=by cases x<;>rfl
theorem am3(b:ek X)(e:Y (Nat×DV X))(o:Y (Nat×Option (ci X)))(dst:J Tmp)(dv:DV X)(upd:Y (Nat×Option (ci X)))(obs:Y Prop):
 (iL b e o).app dst (⟨den dv,ja upd,obs⟩,none)=iL b (Ay dst (XM dv) e) (upd++o):=by
 simp[iL,St.app];refine⟨?_,?_,?_⟩;funext t;cases dst with
 |none=>simp[zA,Ay]
 |some d=>
  simp[zA,Ay,qr,lk];by_cases h:d=t<;>simp[h,ak8]
 funext j
 induction upd with
 |nil=>rfl
 |cons p u ih=>
  obtain⟨q,x⟩:=p;simp[ja,bX,AE,lk]at ih |-;by_cases h:j=q;simp[h];rw[aM h,aM (Ne.symm h)];exact ih
 funext t;cases dst with
 |none=>simp[zA,Ay]
 |some d=>
  simp[zA,Ay,lk];by_cases h:d=t;simp[h];cases dv<;>rfl;simp[aM h]
theorem ak9(b:ek X)(e:Y (Nat×DV X))(o:Y (Nat×Option (ci X)))(dst:J Tmp):(iL b e o).app dst (⟨.undef,[],[]⟩,some false)=iL b (Ay dst .skip e) o:=by
 simp[iL,St.app];refine⟨?_,rfl,?_⟩;funext t;cases dst with
 |none=>simp[zA,Ay]
 |some d=>
  simp[zA,Ay,qr,lk];by_cases h:d=t<;>simp[h,den]
 funext t;cases dst with
 |none=>simp[zA,Ay]
 |some d=>
  simp[zA,Ay,lk];by_cases h:d=t<;>simp[h]
theorem aft(b:ek X)(e:Y (Nat×DV X))(o:Y (Nat×Option (ci X))):m6 (iL b e o).env=λx=>den (y6 (qr e b.env) x):=by funext x;exact(Xd _ x).symm
theorem DI{b:ek X}{e:Y (Nat×DV X)}{o:Y (Nat×Option (ci X))}{x:Operand}(h:Ma e x=true):yI (iL b e o).ok x=[]:=by
 cases x with
 |tmp t=>
  simp[Ma]at h;simp[yI,iL];cases ht:lk e t with
  |none=>rfl
  |some d=>rw[ht]at h;cases d<;>first|rfl|cases h
 |_=>rfl
theorem ala{b:ek X}{e:Y (Nat×DV X)}{o:Y (Nat×Option (ci X))}{P:Q}{T:eM}{i:Nat}{op:Oper}{cP:kx}{get:S}{out:Out}(hok:TD e b.env op.op=true)
 (h:jV P T i op cP (m6 (iL b e o).env) get=some out):∀p∈needs (iL b e o).env (iL b e o).ok op.op,p:=by
 obtain⟨dst,op,ty,am,after,guard⟩:=op;unfold needs;split
 .rename_i c x y heq;simp only at heq;subst heq;simp only[TD,aT,Bool.or_eq_true]at hok;obtain⟨hc,hxy⟩:=hok;have hb:∃t,m6 (iL b e o).env c=.t (.sc (.bool t)):=by
   have h0:(∃ n,cP=.ext n)\/(∃ ab fr q,cP=.AN ab fr q)\/rO T i ⟨dst,.pick c x y,ty,am,after,guard⟩ cP (m6 (iL b e o).env) get=some out:=(by cases cP<;>first|exact .inl ⟨_,rfl⟩|exact .inr (.inl ⟨_,_,_,rfl⟩)|exact .inr (.inr h));rcases h0 with ⟨n,rfl⟩|⟨ab,fr,q,rfl⟩|h0
   .simp[jV,uE,Pi,uD]at h
   .simp[jV,IC,ahK]at h
   .simp only[rO]at h0;split at h0
    .rename_i t ht;exact⟨t,ht⟩
    .cases h0
  obtain⟨t,ht⟩:=hb;rw[ht];simp only[DI hc,fI];rcases hxy with ⟨hx,hy⟩|hxy
  .simp[DI hx,DI hy]
  .split at hxy
   .rename_i t' ht';have e1:m6 (iL b e o).env c=.t (.sc (.bool t')):=(by rw[aft];simp only[ht'];rfl);rw[e1]at ht;injection ht with ht;injection ht with ht;injection ht with ht;subst ht;cases t' with
    |true=>
     simp only[aj]at hxy;simp[DI hxy]
    |false=>
     simp only[au]at hxy;simp[DI hxy]
   .cases hxy
 .rename_i o' hne;intro p hp;have hall:∀x∈op.operands.toList,Ma e x=true:=by have:TD e b.env op=op.operands.toList.all (Ma e):=(by cases op<;>first|rfl|exact(hne _ _ _ rfl).elim);rw[this]at hok;exact all_eq_true.1 hok
  simp only[mem_flatMap]at hp;obtain⟨x,hx,hp⟩:=hp;rw[DI (hall x hx)]at hp;simp at hp
theorem am4{a b:Y Prop}(h:∀p∈a,p)(h':iZ b):iZ (a++b):=sQ _ (ig h (NY b h'))
variable {Γ:FuncId->Option (cy X)} {fz:List Nat} {T:eM} {code:TypeId->Option (CT X.ι)} {ag:Array Oper} {b:ek X} {P:Program}
theorem alb(hΓ:t7 P Γ){i:Nat}{op:Oper}{e:Y (Nat×DV X)}{o:Y (Nat×Option (ci X))}{k:KK X A}{r:A}(hop:ag[i]? =some op)(hw:want ag op (iL b e o).env (iL b e o).ok=some true)(hok:TD e b.env op.op=true)
 (h:Hh Γ fz T code i op.op (y6 (qr e b.env)) (AE o b.obj) k=some r):
 ∃(a:ky)(dv:DV X)(upd:Y (Nat×Option (ci X))),a.sym=false/\k dv upd a.rd a.wr=some r/\∀(dp:Nat->ky)(K:St->Prop),dp i=a->K (iL b (Ay op.dst (XM dv) e) (upd++o))->AW P T ag dp i K (iL b e o):=by
 have⟨cP,rd,wr,dv,upd,out,h1,h2,h3,h4,h5,h6⟩:=aik hΓ h;refine⟨⟨cP,rd,wr,false⟩,dv,upd,rfl,h6,λdp K ha hK=>?_⟩;have h1':jV P T i op cP (m6 (iL b e o).env) (dN rd (iL b e o).obj)=some out:=by rw[aft];exact h1
 refine⟨op,(⟨out.v,out.upd,needs (iL b e o).env (iL b e o).ok op.op++out.obs⟩,none),hop,?_,?_,?_⟩;simp only[opAt,hop,ai,hw,ha,h1'];rw[aP];rw[all_eq_true];intro p hp;rw[h4]at hp;simp only[ja,mem_map]at hp;obtain⟨q,hq,rfl⟩:=hp;rcases h5 q hq with h|h;simp[h,WQ.2 (.inl rfl:j7 (cD i) (cD i))];simp[h];exact am4 (ala hok h1') h2;rw[h3,h4,am3];exact hK
theorem step_skip{i:Nat}{op:Oper}{e:Y (Nat×DV X)}{o:Y (Nat×Option (ci X))}(hop:ag[i]? =some op)(hw:want ag op (iL b e o).env (iL b e o).ok=some false)
 (dp:Nat->ky) (K:St->Prop) (ha:dp i=⟨.none,[],[],false⟩) (hK:K (iL b (Ay op.dst .skip e) o)):AW P T ag dp i K (iL b e o):=by refine⟨op,(⟨.undef,[],[]⟩,some false),hop,?_,trivial,?_⟩;simp[opAt,hop,hw,ha];rw[ak9];exact hK
theorem ail{e:Y (Nat×DV X)}{o:Y (Nat×Option (ci X))}{t:Nat}{v:Bool}(h:qr e b.env t=.c .bool v):iL b ((t,.c .bool v)::e) o=iL b e o:=by
 simp[iL];refine⟨?_,?_⟩;funext s;by_cases hs:t=s;subst hs;rw[h];simp[qr,lk];simp[qr,lk,hs];funext s;by_cases hs:t=s;subst hs;simp[lk];unfold qr at h;cases ht:lk e t with
 |none=>rfl
 |some d=>rw[ht]at h;simp at h;subst h;rfl
 simp[lk,hs]
def KX(tr:Y (Nat×ky)):HG:=tr.map λp=>(p.1,p.2.rd,p.2.wr)
def TF(ag:Array Oper)(t:Nat):Prop:=∃(j:Nat)(op:Oper),ag[j]? =some op/\op.dst=some t
theorem afu{dst:J Tmp}{dv:DV X}{e:Y (Nat×DV X)}{p:Nat×DV X}(h:p∈Ay dst dv e):p∈e\/dst=some p.1:=by
 cases dst with
 |none=>exact .inl h
 |some t=>
  simp[Ay]at h;rcases h with rfl|h;exact .inr rfl;exact .inl h
theorem E5(hΓ:t7 P Γ){k:Y (Nat×DV X)->Y (Nat×Option (ci X))->HG->J A}{r:A}:∀(l:Y Nat)(e:Y (Nat×DV X))(o:Y (Nat×Option (ci X)))(pC:HG),zJ Γ fz T code ag b k l e o pC=some r->
 ∃(tr:Y (Nat×ky))(e':Y (Nat×DV X))(o':Y (Nat×Option (ci X))),tr.map (·.1)=l/\k e' o' ((KX tr).reverse++pC)=some r/\(∀ p∈e',p∈e\/TF ag p.1)/\
  ∀dp:Nat->ky,(∀ p∈tr,dp p.1=p.2)->Uo P T ag dp (λ U=>U=iL b e' o') l (iL b e o)
 |[],e,o,pC,h=>⟨[],e,o,rfl,h,λ_ hp=>.inl hp,λ_ _=>rfl⟩
 |i::l,e,o,pC,h=>by
  simp[zJ]at h;have⟨op,hop,h⟩:=ah.1 h
  have exec:∀e:Y (Nat×DV X),want ag op (iL b e o).env (iL b e o).ok=some true->
   (bif TD e b.env op.op then Hh Γ fz T code i op.op (y6 (qr e b.env)) (AE o b.obj) λdv upd rd wr=>zJ Γ fz T code ag b k l (Ay op.dst (XM dv) e) (upd++o) ((i,rd,wr)::pC)else none)=some r->
   ∃(tr:Y (Nat×ky)) (e':Y (Nat×DV X)) (o':Y (Nat×Option (ci X))),tr.map (·.1)=i::l/\k e' o' ((KX tr).reverse++pC)=some r/\(∀ p∈e',p∈e\/TF ag p.1)/\
    ∀dp:Nat->ky,(∀ p∈tr,dp p.1=p.2)->Uo P T ag dp (λ U=>U=iL b e' o') (i::l) (iL b e o):=by intro e hw h;have⟨hok,h⟩:=dZ h;have⟨a,dv,upd,_,h1,h2⟩:=alb hΓ hop hw hok h;obtain⟨tr,e',o',g1,g2,g4,g3⟩:=E5 hΓ l _ _ _ h1;refine⟨(i,a)::tr,e',o',by simp[g1],?_,λp hp=>(g4 p hp).elim (λ hp=>(afu hp).elim .inl λhd=>.inr ⟨i,op,hop,hd⟩) .inr,λdp ha=>?_⟩;simpa[KX]using g2;exact h2 dp _ (ha (i,a) (by simp)) (g3 dp λp hp=>ha p (by simp[hp]))
  have skip:∀e:Y (Nat×DV X),want ag op (iL b e o).env (iL b e o).ok=some false->zJ Γ fz T code ag b k l (Ay op.dst .skip e) o ((i,[],[])::pC)=some r->
   ∃(tr:Y (Nat×ky)) (e':Y (Nat×DV X)) (o':Y (Nat×Option (ci X))),tr.map (·.1)=i::l/\k e' o' ((KX tr).reverse++pC)=some r/\(∀ p∈e',p∈e\/TF ag p.1)/\
    ∀dp:Nat->ky,(∀ p∈tr,dp p.1=p.2)->Uo P T ag dp (λ U=>U=iL b e' o') (i::l) (iL b e o):=by intro e hw h;obtain⟨tr,e',o',g1,g2,g4,g3⟩:=E5 hΓ l _ _ _ h;refine⟨(i,⟨.none,[],[],false⟩)::tr,e',o',by simp[g1],?_,λp hp=>(g4 p hp).elim (λ hp=>(afu hp).elim .inl λhd=>.inr ⟨i,op,hop,hd⟩) .inr,λdp ha=>?_⟩;simpa[KX]using g2;exact step_skip hop hw dp _ (ha (i,_) (by simp)) (g3 dp λp hp=>ha p (by simp[hp]))
  split at h;rename_i hg;exact exec e (by simp[want,hg]) h;rename_i j p hg;rw[ah]at h;obtain⟨t,ht,h⟩:=h;split at h;rename_i v hv;have hw:∀e:Y (Nat×DV X),qr e b.env t=.c .bool v->want ag op (iL b e o).env (iL b e o).ok=some (v==p):=by
   intro e he;simp[want,hg,ht];have h0:(iL b e o).ok t=none:=by
    simp[iL];unfold qr at he;cases hq:lk e t with
    |none=>rfl
    |some d=>rw[hq]at he;simp at he;subst he;rfl
   have h1:(iL b e o).env t=.t (.sc (.bool v)):=(by simp[iL,he];rfl);rw[h0,h1]
  have hk:=ail (b:=b) (o:=o) hv;have hv':qr ((t,.c .bool v)::e) b.env t=.c .bool v:=by simp[qr,lk]
  have htd:TF ag t:=by have⟨oj,h1,h2⟩:=ah.1 ht;exact⟨j,oj,h1,h2⟩
  have wide:(∃ (tr:Y (Nat×ky)) (e':Y (Nat×DV X)) (o':Y (Nat×Option (ci X))),tr.map (·.1)=i::l/\k e' o' ((KX tr).reverse++pC)=some r/\(∀ p∈e',p∈((t,.c .bool v)::e:Y (Nat×DV X))\/TF ag p.1)/\
   ∀dp:Nat->ky,(∀ p∈tr,dp p.1=p.2)->Uo P T ag dp (λ U=>U=iL b e' o') (i::l) (iL b ((t,.c .bool v)::e) o))->
   ∃(tr:Y (Nat×ky))(e':Y (Nat×DV X))(o':Y (Nat×Option (ci X))),tr.map (·.1)=i::l/\k e' o' ((KX tr).reverse++pC)=some r/\(∀ p∈e',p∈e\/TF ag p.1)/\
   ∀dp:Nat->ky,(∀ p∈tr,dp p.1=p.2)->Uo P T ag dp (λ U=>U=iL b e' o') (i::l) (iL b e o):=by rintro⟨tr,e',o',g1,g2,g4,g3⟩;refine⟨tr,e',o',g1,g2,λq hq=>?_,hk ▸ g3⟩;rcases g4 q hq with h|h;rcases aI.1 h with rfl|h;exact .inr htd;exact .inl h;exact .inr h
  apply wide;cases v with
  |true=>
   simp at h;cases p with
   |true=>exact exec _ (hw _ hv') h
   |false=>exact skip _ (hw _ hv') h
  |false=>
   simp at h;cases p with
   |true=>exact skip _ (hw _ hv') h
   |false=>exact exec _ (hw _ hv') h
  rename_i hv;have⟨hsome,h⟩:=dZ h;refine skip e ?_ h;simp[want,hg,ht];have h1:(iL b e o).env t=.undef:=by simp[iL,hv];rfl
  cases hq:lk e t with
  |some d=>
   have h0:(iL b e o).ok t=some false:=(by unfold qr at hv;rw[hq]at hv;simp at hv;subst hv;simp[iL,hq]);rw[h0,h1]
  |none=>rw[hq]at hsome;cases hsome
  cases h
end
section
variable {X:SX} {A:Type}
def fN(nx k:Nat):Nat:=if k<1000000 then k else nx+(k-1000000)
def gN(nx j:Nat):Nat:=if j<nx then j else 1000000+(j-nx)
def Kx(nx sz k:Nat):Bool:=decide (k<nx) || (decide (1000000<=k)&&decide (k<1000000+sz))
def okE(nx sz:Nat)(e:Y (Nat×DV X)):Bool:=e.all λp=>(cd p.2).all (Kx nx sz)
def okO(nx sz:Nat)(o:Y (Nat×Option (ci X))):Bool:=o.all λp=>Kx nx sz p.1&&match p.2 with|some x=>(eI x).all (Kx nx sz)|none=>true
def pD(pC:HG):Nat->ky:=λi=>match lk pC i with|some p=>⟨.none,p.1,p.2,false⟩|none=>⟨.none,[],[],false⟩
def nq(tr:Y (Nat×ky)):Nat->ky:=λi=>match lk tr i with|some a=>a|none=>⟨.none,[],[],false⟩
def Pr:DV X->DV X
 |.skip=>.undef
 |x=>x
theorem am6(x:DV X):den (Pr x)=den x:=by cases x<;>rfl
theorem abY(x:DV X):cd (Pr x)=cd x:=by cases x<;>rfl
def fin(s:ek X)(e:Y (Nat×DV X))(o:Y (Nat×Option (ci X)))(sz:Nat):ek X:=
 ⟨e.map (λ p=>(p.1,Pr (tw (fN s.nx) p.2)))++s.env,o.map (λ p=>(fN s.nx p.1,p.2.map (ry (fN s.nx))))++s.obj,s.nx+sz,o.map (λ p=>fN s.nx p.1)++s.log⟩
def am7(N:Nat)(ag:Array Oper)(d:Bool)(nx:Nat)(e:Y (Nat×DV X))(o:Y (Nat×Option (ci X)))(pC:HG):Bool:=
 QI N ag&&(!d || WW ag (pD pC))&&okE nx (64*ag.size) e&&okO nx (64*ag.size) o&&decide (nx+64*ag.size<=1000000)
def aim(Γ:FuncId->J (cy X))(fz:Y Nat)(T:eM)(code:TypeId->J (CT X.ι))(N:Nat)(ag:Array Oper)(d:Bool)(s:ek X)(k:ek X->J A):J A:=
 zJ Γ fz T code ag s (λ e o pC=>bif am7 N ag d s.nx e o pC then k (fin s e o (64*ag.size))else none) (List.range ag.size) [] [] []
theorem afv{ag:Array Oper}{dp xd:Nat->ky}(h:∀i,(dp i).rd=(xd i).rd/\(dp i).wr=(xd i).wr):WW ag dp=WW ag xd:=by
 have h1:yN dp=yN xd:=by funext i j;simp[yN,(h i).1,(h i).2,(h j).1,(h j).2]
 have h2:∀md,QH md ag dp=QH md ag xd:=by intro md;funext listed i;simp[QH,h1]
 have h3:∀(md:Region.Mode)(n k:Nat)(listed:Array Bool),lexFrom' md ag dp n k listed=lexFrom' md ag xd n k listed:=by
  intro md n
  induction n with
  |zero=>intro k listed;rfl
  |succ n ih=>intro k listed;simp[lexFrom',h2,ih]
 exact h3 _ _ _ _
theorem DJ{α:Type}:∀(a b:Y (Nat×α))(k:Nat),lk (a++b) k=match lk a k with|some x=>some x|none=>lk b k
 |[],_,_=>rfl
 |(j,x)::a,b,k=>by simp[lk];by_cases h:j=k;simp[h];simp[aM h,DJ a b k]
theorem ma{α:Type}:∀{l:Y (Nat×α)}{k:Nat},lk l k=none->∀x,(k,x)∉l
 |(j,y)::r,k,h,x=>by simp[lk]at h;split at h;cases h;rename_i hn;simp only[aI,Prod.mk.injEq,not_or];exact⟨λ e=>hn e.1.symm,ma h x⟩
 |[],_,_,_=>by simp
theorem aqH{tr:Y (Nat×ky)}(hn:(tr.map (·.1)).Nodup)(i:Nat):(pD (KX tr).reverse i).rd=(nq tr i).rd/\(pD (KX tr).reverse i).wr=(nq tr i).wr:=by
 have hn':((KX tr).reverse.map (·.1)).Nodup:=by
  rw[List.map_reverse];have h1:((KX tr).map (·.1)).Nodup:=by simpa[KX,Function.comp_def]using hn
  exact List.pairwise_reverse.2 (h1.imp λh=>Ne.symm h)
 unfold pD nq;cases h:lk tr i with
 |none=>
  cases h':lk (KX tr).reverse i with
  |none=>exact⟨rfl,rfl⟩
  |some p=>
   have:=qf h';simp only[KX,List.mem_reverse,mem_map]at this;obtain⟨q,hq,he⟩:=this;injection he with e1 e2;subst e1;exact(ma h q.2 hq).elim
 |some a=>
  have h1:=qf h;have h2:(i,a.rd,a.wr)∈(KX tr).reverse:=by simp only[KX,List.mem_reverse,mem_map];exact⟨(i,a),h1,rfl⟩
  rw[wD hn' h2];exact⟨rfl,rfl⟩
theorem am8{tr:Y (Nat×ky)}(hn:(tr.map (·.1)).Nodup):∀p∈tr,nq tr p.1=p.2:=by rintro⟨i,a⟩ hp;rw[nq,wD hn hp]
theorem XO{nx sz k:Nat}(h:Kx nx sz k=true):k<nx\/(1000000<=k/\k<1000000+sz):=by simpa[Kx]using h
theorem gfN{nx sz k:Nat}(hle:nx+sz<=1000000)(h:k<nx\/(1000000<=k/\k<1000000+sz)):gN nx (fN nx k)=k:=by grind [gN,fN]
theorem IP{nx sz k:Nat}(hle:nx+sz<=1000000)(h:k<nx\/(1000000<=k/\k<1000000+sz)):fN nx k<nx+sz:=by grind [fN]
theorem TZ{nx k:Nat}(hle:nx<=1000000)(h:k<nx):fN nx k=k:=aP (by omega)
mutual
theorem XP{f:Nat->Nat}:∀x:DV X,(∀ k∈cd x,f k=k)->tw f x=x
 |.own k _ _,h|.ptr k _ _,h|.sB k _ _,h|.mp k,h|.oz k _,h|.vi k _ _ _ _,h=>by simp[tw,h k (by simp[cd])]
 |.agg cs,h|.eE cs,h=>by simp[tw,E8 cs (by simpa[cd]using h)]
 |.fn F first caps,h=>by simp[tw,E8 first (λ k hk=>h k (by simp[cd,hk])),E8 caps (λ k hk=>h k (by simp[cd,hk]))]
 |.c _ _,_|.rp _ _ _,_|.As _ _ _ _ _,_|.eC _ _ _,_|.raw _,_|.nil,_|.ub,_|.skip,_|.undef,_=>rfl
theorem E8{f:Nat->Nat}:∀l:List (DV X),(∀ k∈aS l,f k=k)->MB f l=l
 |[],_=>rfl
 |x::xs,h=>by simp[MB,XP x (λ k hk=>h k (by simp[aS,hk])),E8 xs (λ k hk=>h k (by simp[aS,hk]))]
end
mutual
theorem XQ(f:Nat->Nat):∀x:DV X,cd (tw f x)=(cd x).map f
 |.own _ _ _|.ptr _ _ _|.sB _ _ _|.mp _|.oz _ _|.vi _ _ _ _ _=>rfl
 |.agg cs|.eE cs=>by simp[tw,cd,DK f cs]
 |.fn F first caps=>by simp[tw,cd,DK f first,DK f caps]
 |.c _ _|.rp _ _ _|.As _ _ _ _ _|.eC _ _ _|.raw _|.nil|.ub|.skip|.undef=>rfl
theorem DK(f:Nat->Nat):∀l:List (DV X),aS (MB f l)=(aS l).map f
 |[]=>rfl
 |x::xs=>by simp[MB,aS,XQ f x,DK f xs]
end
theorem afw(f:Nat->Nat)(o:ci X):eI (ry f o)=(eI o).map f:=by
 cases o with
 |cells sz rows=>simp[ry,eI];congr 1;exact map_congr_left λr _=>DK f r
 |eK c l|map kc vc l=>rfl
theorem am9{α G:Type}(f:α->G):∀(l:Y (Nat×α))(k:Nat),lk (l.map λp=>(p.1,f p.2)) k=(lk l k).map f
 |[],_=>rfl
 |(j,x)::r,k=>by simp[lk];by_cases h:j=k;simp[h];simp[aM h,am9 f r k]
theorem ajY{α G:Type}(f:α->G)(g:Nat->Nat):∀(l:Y (Nat×α))(j:Nat),(∀ p∈l,∀q∈l,g p.1=g q.1->p.1=q.1)->
 (∀ y,lk (l.map λp=>(g p.1,f p.2)) j=some y->∃k x,lk l k=some x/\g k=j/\y=f x)/\(lk (l.map λp=>(g p.1,f p.2)) j=none->∀p∈l,g p.1≠j)
 |[],_,_=>⟨λ _ h=>by simp[lk]at h,λ_=>by simp⟩
 |(k0,x0)::r,j,hi=>by
  obtain⟨i1,i2⟩:=ajY f g r j (λ p hp q hq=>hi p (by simp[hp]) q (by simp[hq]));simp[lk];by_cases h:g k0=j;rw[aP h];exact⟨λ y hy=>by injection hy with hy;exact⟨k0,x0,by simp,h,hy.symm⟩,λhn=>by cases hn⟩
  grind
structure Ext(ds:Nat->Prop)(s s':ek X):Prop where
 env:∀t,¬ds t->fL s'.env t=fL s.env t\/fL s'.env t=.undef
 obj:∃d,s'.log=d++s.log/\∀k,k<s.nx->k∉d->iS s'.obj k=iS s.obj k\/iS s'.obj k=none
 nx:s.nx<=s'.nx
variable {Γ:FuncId->Option (cy X)} {fz:List Nat} {T:eM} {code:TypeId->Option (CT X.ι)} {P:Program} {N:Nat}
theorem Oo(s:ek X)(e:Y (Nat×DV X))(o:Y (Nat×Option (ci X)))(sz t:Nat):fL (fin s e o sz).env t=match lk e t with|some d=>Pr (tw (fN s.nx) d)|none=>fL s.env t:=by simp[fin,fL,DJ,am9 (λ d=>Pr (tw (fN s.nx) d))];cases lk e t<;>rfl
theorem adw(hT:fF P T)(hm:P.follows .mixedOrders=true)(hΓ:t7 P Γ){id:Nat}{ag:Array Oper}{d:Bool}{s:ek X}{k:ek X->J A}{r:A}(hl:Low s)(h:aim Γ fz T code N ag d s k=some r):
 ∃s':ek X,k s'=some r/\Low s'/\Ext (TF ag) s s'/\Ev P N (.region id ag d) (λ e U=>e=.normal/\U=s'.st) s.st:=by
 unfold aim at h;obtain⟨tr,e,o,h1,h2,h3,h4⟩:=E5 hΓ _ _ _ _ h;have⟨h5,h6⟩:=dZ h2;simp only[am7,aT,append_nil]at h5;obtain⟨⟨⟨⟨hd,hlex⟩,hE⟩,hO⟩,hnx⟩:=h5;have hle:s.nx+64*ag.size<=1000000:=of_decide_eq_true hnx;have L0:(tr.map (·.1)).Nodup:=by rw[h1];exact List.nodup_range
 have hEn:∀t x,lk e t=some x->∀j∈cd x,j<s.nx\/(1000000<=j/\j<1000000+64*ag.size):=by intro t x hx j hj;have:=all_eq_true.1 hE _ (qf hx);exact XO (all_eq_true.1 this j hj)
 have Mp:∀p∈o,(p.1<s.nx\/(1000000<=p.1/\p.1<1000000+64*ag.size))/\∀x,p.2=some x->∀j∈eI x,j<s.nx\/(1000000<=j/\j<1000000+64*ag.size):=by intro p hp;have:=all_eq_true.1 hO _ hp;simp at this;refine⟨XO this.1,λx hx j hj=>?_⟩;have h2:=this.2;rw[hx]at h2;exact XO (all_eq_true.1 h2 j hj)
 have hinj:∀p∈o,∀q∈o,fN s.nx p.1=fN s.nx q.1->p.1=q.1:=by
  intro p hp q hq he;have:=congrArg (gN s.nx) he
  rwa [gfN hle (Mp p hp).1,gfN hle (Mp q hq).1]at this
 have AG:∀j,(∃ q x,lk o q=some x/\fN s.nx q=j/\iS (fin s e o (64*ag.size)).obj j=x.map (ry (fN s.nx)))\/(iS (fin s e o (64*ag.size)).obj j=iS s.obj j/\∀p∈o,fN s.nx p.1≠j):=by
  intro j;obtain⟨i1,i2⟩:=ajY (λ x:Option (ci X)=>x.map (ry (fN s.nx))) (fN s.nx) o j hinj;simp only[fin,iS,DJ];cases hj:lk (o.map λp=>(fN s.nx p.1,p.2.map (ry (fN s.nx)))) j with
  |none=>exact .inr ⟨rfl,i2 hj⟩
  |some y=>
   have⟨q,x,g1,g2,g3⟩:=i1 y hj;exact .inl ⟨q,x,g1,g2,by rw[g3];rfl⟩
 refine⟨fin s e o (64*ag.size),h6,?_,?_,?_⟩;constructor;exact hle;have:=hl.ge;show 1000<=s.nx+64*ag.size;omega;intro t j hj;rw[Oo]at hj;cases ht:lk e t with
 |none=>rw[ht]at hj;have:=hl.env t j hj;show j<s.nx+64*ag.size;omega
 |some x=>
  rw[ht,abY,XQ]at hj;obtain⟨q,hq,rfl⟩:=mem_map.1 hj;exact IP hle (hEn t x ht q hq)
 intro j x hx;rcases AG j with ⟨q,y,g1,rfl,g3⟩|⟨g1,_⟩;rw[g3]at hx;rw[uy]at hx;obtain⟨z,rfl,rfl⟩:=hx;obtain⟨k1,k2⟩:=Mp _ (qf g1);refine⟨IP hle k1,λi hi=>?_⟩;rw[afw]at hi;obtain⟨i',hi',rfl⟩:=mem_map.1 hi;exact IP hle (k2 z rfl i' hi');rw[g1]at hx;have⟨k1,k2⟩:=hl.obj j x hx;refine⟨show j<s.nx+64*ag.size by omega,λi hi=>?_⟩;have:=k2 i hi;show i<s.nx+64*ag.size;omega;refine⟨λ t ht=>.inl ?_,⟨o.map (λ p=>fN s.nx p.1),rfl,λj hj hn=>?_⟩,by show s.nx<=s.nx+64*ag.size;omega⟩;rw[Oo];cases hx:lk e t with
 |none=>rfl
 |some x=>
  rcases h3 _ (qf hx)with h|h;simp at h;exact(ht h).elim
 rcases AG j with ⟨q,y,g1,g2,g3⟩|⟨g1,_⟩;exact(hn (mem_map.2 ⟨(q,y),qf g1,g2⟩)).elim;exact .inl g1;have hst:iL s [] []=s.st:=rfl;have hex:=h4 (nq tr) (am8 L0);rw[hst]at hex;intro w0 O0 G I a w hr ho;have done:∀(e':Exit)(a':Act)(w':World),(∃ β' I' σ1,Rel P w0 O0 N β' I' σ1 a' w'/\e'=.normal/\σ1=iL s e o)->∃ β' I' σ1,Rel P w0 O0 N β' I' σ1 a' w'/\t6 σ1/\e'=.normal/\σ1=(fin s e o (64*ag.size)).st:=by
  rintro e' a' w' ⟨β',I',σ1,g1,rfl,rfl⟩;refine⟨_,I',(fin s e o (64*ag.size)).st,Rel.re (f:=fN s.nx) (g:=gN s.nx) (D:=λk=>k<s.nx\/(1000000<=k/\k<1000000+64*ag.size)) (λ k hk=>gfN hle hk) (λ j hj=>by have:=hl.ge;unfold gN;rw[aP (by omega)]) g1 (λ t=>?_) (λ _=>rfl) (λ t=>.inr ?_) (λ j o' hj=>?_),?_,rfl,rfl⟩;show(match lk e t with|some .skip=>some false|_=>none)=none\/den (fL (fin s e o (64*ag.size)).env t)=.undef;rw[Oo];cases ht:lk e t with
  |none=>exact .inl rfl
  |some d=>cases d<;>first|exact .inl rfl|exact .inr rfl
  show(∀ k∈refs (den (qr e s.env t)),_)/\lO (ik (fN s.nx) (den (qr e s.env t))) (den (fL (fin s e o (64*ag.size)).env t));rw[Oo,jb,<- Bf];unfold qr;cases ht:lk e t with
  |none=>
   refine⟨λ q hq=>.inl (hl.env t q hq),?_⟩;rw[XP _ (λ q hq=>TZ (by omega) (hl.env t q hq))];exact lO.refl _
  |some x=>exact⟨hEn t x ht,by simp[am6];exact lO.refl _⟩
  simp[ek.st]at hj;obtain⟨x,hx,rfl⟩:=hj;rcases AG j with ⟨q,y,i1,rfl,i3⟩|⟨i1,i2⟩;rw[i3,uy]at hx;obtain⟨z,rfl,rfl⟩:=hx;obtain⟨k1,k2⟩:=Mp _ (qf i1);obtain⟨r1,r2⟩:=Kt (D:=λk=>k<s.nx\/(1000000<=k/\k<1000000+64*ag.size)) (fN s.nx) z (λ i hi=>k2 z rfl i hi);refine⟨q,bL z,?_,k1,rfl,r1,r2⟩;simp[iL,AE,i1];rw[i1]at hx;have⟨k1,k2⟩:=hl.obj j x hx;have hid:ry (fN s.nx) x=x:=by
   cases x with
   |eK c l|map kc vc l=>rfl
   |cells sz rows=>
    simp[ry];congr 1;have:∀q∈rows,MB (fN s.nx) q=q:=λq hq=>E8 q λi hi=>TZ (by omega) (k2 i (by simp[eI];exact⟨_,⟨q,hq,rfl⟩,hi⟩));rw[map_congr_left this];simp
  obtain⟨r1,r2⟩:=Kt (D:=λk=>k<s.nx\/(1000000<=k/\k<1000000+64*ag.size)) (fN s.nx) x (λ i hi=>.inl (k2 i hi));rw[hid]at r1 r2;refine⟨j,bL x,?_,.inl k1,TZ (by omega) k1,r1,r2⟩;simp[iL,AE];cases hlo:lk o j with
  |none=>simp[hx]
  |some y=>exact(i2 _ (qf hlo) (TZ (by omega) k1)).elim
  have hL:Low (fin s e o (64*ag.size)):=by
   constructor;exact hle;have:=hl.ge;show 1000<=s.nx+64*ag.size;omega;intro t j hj;rw[Oo]at hj;cases ht:lk e t with
   |none=>rw[ht]at hj;have:=hl.env t j hj;show j<s.nx+64*ag.size;omega
   |some x=>
    rw[ht,abY,XQ]at hj;obtain⟨q,hq,rfl⟩:=mem_map.1 hj;exact IP hle (hEn t x ht q hq)
   intro j x hx;rcases AG j with ⟨q,y,g1,rfl,g3⟩|⟨g1,_⟩;rw[g3]at hx;rw[uy]at hx;obtain⟨z,rfl,rfl⟩:=hx;obtain⟨k1,k2⟩:=Mp _ (qf g1);refine⟨IP hle k1,λi hi=>?_⟩;rw[afw]at hi;obtain⟨i',hi',rfl⟩:=mem_map.1 hi;exact IP hle (k2 z rfl i' hi');rw[g1]at hx;have⟨k1,k2⟩:=hl.obj j x hx;refine⟨show j<s.nx+64*ag.size by omega,λi hi=>?_⟩;have:=k2 i hi;show i<s.nx+64*ag.size;omega
  exact hL.old
 cases d with
 |false=>exact wp_mono (abA hT hd ho hex hr) done
 |true=>
  refine wp_mono (IJ hT hm hd ?_ ho hex hr) done;rw[<- afv (aqH L0)];simpa using hlex
end
end Go.Gb
