import Derived.Test.YtnclkjejgffdmabGreatW1
import Derived.Maps.RangeRun
import Derived.ChangeSame
import Derived.Carry
import Derived.OpenShut
import Derived.SizedLaws
import Derived.WalkKit
import Derived.ProofKit
import Derived.Lib.LaidTab
open List (mem_map all_eq_true cons_append length_map append_nil map_map take_of_length_le map_congr_left flatten_cons map_nil all_cons map_take map_drop mem_flatMap mem_append_left mem_append_right)
namespace Go.Gb
open Go.RowKit Go.MapKept
structure RgI where
 x:Operand
 t:TypeId
 a0:Nat
 it:Nat
 nn:Nat
 b:Nat
 e:Nat
 xx:Nat
 kv:Nat
 j:Nat
 j2:Nat
 body:Code
section
variable {P:Program} {w0:World} {O0:ld} {N:Nat} {β:Nat->Option c9} {I:Nat->Prop} {σ:St} {a:Act} {w:World}
def St.put(σ:St)(d:Nat)(x:AV):St:=⟨y7 σ.env (some d) x,σ.obj,y7 σ.ok (some d) none⟩
theorem Rel.put(hr:Rel P w0 O0 N β I σ a w){d:Nat}(hd:d<N){x:AV}{v:Value}(hv:VR P β w I x v):Rel P w0 O0 N β I (σ.put d x) (a.put (some d) v) w:=by
 refine⟨by simpa[Act.put]using hr.defers,by simpa[Act.put]using hr.size,λt=>?_,hr.mem⟩;have hold:=hr.env t;simp only[St.put,y7,Act.put,bL];by_cases hdt:d=t;subst hdt;rw[aU rfl,aU rfl];have e:(a.tmps.setIfInBounds d v).getD d undef=v:=by simp[Nat.lt_of_lt_of_eq hd hr.size.symm]
 rw[e];exact hv;rw[aP hdt,aP hdt];simpa[Array.getElem?_setIfInBounds_ne hdt]using hold
structure ue(β:Nat->Option c9)(I:Nat->Prop)(obj:Nat->Option aN)(w:World)(r:Nat):Prop where
 lt:r<w.heap.size
 JT:¬I r
 obj:∀k o,obj k=some o->¬iu β k r
theorem Rel.world{w':World}(hr:Rel P w0 O0 N β I σ a w)(hs:Same I w w')(hm:Mem P w0 O0 β I σ.obj w'):Rel P w0 O0 N β I σ a w':=
 ⟨hr.defers,hr.size,λt=>gd.mono (λ _ _ h=>h) hs (λ _ h=>h) (hr.env t),hm⟩
end
open Go.RowKit
def kept(os':List (Option eU))(j:Nat):Prop:=∃p,os'[j]? =some (some p)
def B5(get:Nat->Option aN)(fk:Option Nat)(os':List (Option eU)):AV->Tree->Prop
 | .t x,y=>y=x
 | .dE,y=>y= .sl []
 | .oz k len,y=>fk≠some k/\¬kept os' k/\∃o en,get k=some o/\(o.rows.drop 0).take len=aK en/\en.length=len/\y= .sl en
 | .own k aa len,y=>fk≠some k/\¬kept os' k/\∃o en,get k=some o/\(o.rows.drop aa).take len=aK en/\en.length=len/\y= .sl en
 |_,_=>False
def mS(get:Nat->Option aN)(fk:Option Nat)(os':List (Option eU)):List AV->List Tree->Prop
 |[],[]=>True
 |x::xs,y::ys=>B5 get fk os' x y/\mS get fk os' xs ys
 |_,_=>False
def fh(get:Nat->Option aN)(fk:Option Nat)(os':List (Option eU)):List (List AV)->List (List Tree)->Prop
 |[],[]=>True
 |x::xs,y::ys=>mS get fk os' x y/\fh get fk os' xs ys
 |_,_=>False
def HM(get:Nat->Option aN)(fk:Option Nat)(os':List (Option eU)):AV->RC->Prop
 | .agg cs,.d (.a ts)=>mS get fk os' cs ts
 |x,.d (.s y)=>B5 get fk os' x y
 | .dE,.fresh _ rows=>rows=[]
 | .own k aa len,.fresh sz rows=>fk=some k/\¬kept os' k/\aa=0/\∃o,get k=some o/\o.sz=sz/\fh get fk os' (o.rows.take len) rows/\rows.length=len
 | .own k aa len,.whole j len'=>k=j/\aa=0/\len'=len/\kept os' j
 |_,_=>False
def pc(get:Nat->Option aN)(fk:Option Nat)(os':List (Option eU)):List AV->List RC->Prop
 |[],[]=>True
 |x::xs,c::cs=>HM get fk os' x c/\pc get fk os' xs cs
 |_,_=>False
def HK(get:Nat->Option aN)(fk:Option Nat)(os':List (Option eU)):List AV->RV->Prop
 |[x],.one c=>HM get fk os' x c
 |x::y::r,.eI cs=>pc get fk os' (x::y::r) cs
 |[],.eI cs=>cs=[]
 |_,_=>False
def RE(get:Nat->Option aN)(fk:Option Nat)(os':List (Option eU)):Prop:=
 ∀(j:Nat) p,os'[j]? =some (some p)->fk≠some j/\∃o,get j=some o/\o.sz=p.1/\fh get fk os' (o.rows.take p.2.length) p.2
def Vl(T:eR)(t:TypeId)(x:AV)(obj:Nat->Option aN):Option Out:=
 Lm T t x .none obj
def Qt(T:eR)(σ:St):ResultVar->Option AV
 | .tmp t=>match σ.ok t with
  |none=>some (σ.env t)
  |some _=>none
 | .cell a t=>match σ.ok a with
  |none=>match Vl T t (σ.env a) σ.obj with
   |some ⟨v,[],[]⟩=>some v
   |_=>none
  |some _=>none
def nX(T:eR)(σ:St):List ResultVar->Option (List AV)
 |[]=>some []
 |r::rs=>(Qt T σ r).bind λv=>(nX T σ rs).bind λvs=>some (v::vs)
def Wu(tmps:Array Value):ResultVar->Sem Value
 | .tmp t=>pure (tmps.getD t undef)
 | .cell a t=>do loadVar t (<- asAddr (tmps.getD a undef))
theorem Wv(fn:Func)(tmps:Array Value):results fn tmps=(fn.results.mapM (Wu tmps))>>=λvs=>pure (if h:vs.size=1 then vs[0]else .tuple vs):=by congr 2
def N1(T:eR)(rs:List ResultVar)(rv:RV)(os':List (Option eU)):Exit->St->Prop
 | .normal,σ=>∃xs fk,nX T σ rs=some xs/\HK σ.obj fk os' xs rv/\RE σ.obj fk os'
 | .ret,σ=>∃xs fk,nX T σ rs=some xs/\HK σ.obj fk os' xs rv/\RE σ.obj fk os'
 |_,_=>False
section
variable {P:Program} {T:eR} {w0:World} {O0:ld} {N:Nat} {β:Nat->Option c9} {I:Nat->Prop} {σ:St} {a:Act} {w:World}
theorem acC(hT:fw P T)(hr:Rel P w0 O0 N β I σ a w){r:ResultVar}{x:AV}(h:Qt T σ r=some x):
 ∃v,(Wu a.tmps r).run P w= .ok v w/\VR P β w I x v:=by
 cases r with
 |tmp t=>
  simp only[Qt]at h;have h1:=hr.env t;cases hk:σ.ok t with
  |some b=>rw[hk]at h;cases h
  |none=>
   rw[hk]at h h1;cases h;exact⟨_,by simp[Wu],h1⟩
 |cell ad t=>
  simp only[Qt]at h;have hx:=hr.env ad;cases hk:σ.ok ad with
  |some b=>rw[hk]at h;cases h
  |none=>
  rw[hk]at h hx;simp only at h;have hx:VR P β w I (σ.env ad) (a.tmps.getD ad undef):=hx;split at h
  ·rename_i v hl;injection h with h;subst h;obtain⟨u,h1,h2⟩:∃u,(Instr.loadAt t (a.tmps.getD ad undef)).run P w= .ok u w/\VR P β w I v u:=(by obtain⟨u,h1,h2,_⟩:=Sq hT hr.mem (λ _ _ h=>h) hl trivial hx;exact⟨u,h1,h2⟩);refine⟨u,?_,h2⟩;have hp:∃p,a.tmps.getD ad undef= .pointer (some p):=by
    unfold Vl at hl;unfold Lm at hl;cases hti:T t with
    |none=>simp[hti]at hl
    |some ti=>
     simp only[hti,ai]at hl;split at hl
     ·rename_i heq;rw[heq]at hx;simp only[VR]at hx;obtain⟨b,sz,n,_,h⟩:=hx;exact⟨_,h⟩
     ·rename_i heq;rw[heq]at hx;simp only[VR]at hx;obtain⟨b,o,h,_⟩:=hx;exact⟨_,h⟩
     ·cases hl
   obtain⟨p,hp⟩:=hp;rw[hp]at h1;simp only[Wu,hp,asAddr,Sem.run_bind,Sem.run_pure,Result.andThen_ok];exact h1
  ·cases h
theorem BB(hT:fw P T)(hr:Rel P w0 O0 N β I σ a w):∀(rs:List ResultVar)(xs:List AV),nX T σ rs=some xs->
 ∃vs,(rs.mapM (Wu a.tmps)).run P w= .ok vs w/\be P β w I xs vs
 |[],xs,h=>by simp[nX]at h;subst h;exact⟨[],by simp,by simp[be]⟩
 |r::rs,xs,h=>by
  simp[nX]at h;cases h1:Qt T σ r with
  |none=>simp[h1]at h
  |some x=>
   cases h2:nX T σ rs with
   |none=>simp[h2]at h
   |some ys=>
    simp[h1,h2]at h;subst h;have⟨v,g1,g2⟩:=acC hT hr h1;have⟨vs,g3,g4⟩:=BB hT hr rs ys h2;exact⟨v::vs,by simp[g1,g3],by simp[be];exact⟨g2,g4⟩⟩
def NF(σ:St)(w0 w:World)(β:Nat->Option c9)(I:Nat->Prop)(O0:ld)(fk:Option Nat)(os':List (Option eU))(b:Nat):Prop:=
 (I b\/O0.JT b\/w0.heap.size<=b\/O0.own b)/\b<w.heap.size/\¬∃k,(fk=some k\/kept os' k)/\(∃ o,σ.obj k=some o)/\iu β k b
theorem aes(hr:Rel P w0 O0 N β I σ a w)(fk:Option Nat)(os':List (Option eU)):∀b,I b->NF σ w0 w β I O0 fk os' b:=λb hb=>
 ⟨.inl hb,hr.mem.lt b hb,λ⟨k,_,⟨o,ho⟩,hβ⟩=>(hr.mem.kB k o b ho hβ).1 hb⟩
theorem NG(hr:Rel P w0 O0 N β I σ a w){fk:Option Nat}{os':List (Option eU)}{k aa len:Nat}{y:Tree}{v:Value}(h:fk≠some k/\¬kept os' k/\∃o en,σ.obj k=some o/\(o.rows.drop aa).take len=aK en/\en.length=len/\y= .sl en)(hv:VR P β w I (.own k aa len) v):TR w (NF σ w0 w β I O0 fk os') y v:=by obtain⟨hne,hnk,o,en,h1,h2,h3,rfl⟩:=h;simp only[TR];rcases hv with ⟨_,rfl,_,h4⟩ |⟨b,sz,n,cap,ad,h4,rfl,h5,h6,h7⟩;exact .inl ⟨List.eq_nil_of_length_eq_zero (by omega),none,0,rfl,λ_=>rfl⟩;have⟨g1,g2,g3⟩:=hr.mem.own k o b sz n h1 h4;refine .inr ⟨b,ad,cap,sz,by rw[h3],by omega,⟨.inr (.inr (g3.elim .inr .inl)),g2,λ⟨k',e1,⟨o',e2⟩,e3⟩=>?_⟩,?_⟩;have:=hr.mem.pn k k' o o' b h1 e2 (.at h4) e3;subst this;exact e1.elim hne hnk;by_cases hc:cap=0;have:en=[]:=List.eq_nil_of_length_eq_zero (by omega);subst this;simp[cN];rw[h7 hc];have⟨B,hB,tB⟩:=hr.mem.dp k o h1;rw[h4]at hB;cases hB;obtain⟨hs,c,e,hc',_,tB⟩:=tB;have h8:=b9.take len _ _ _ _ (b9.drop aa _ _ _ _ tB);rw[h2]at h8;exact cN.mz (aes hr fk os') hc' en _ _ h8
theorem EC(hr:Rel P w0 O0 N β I σ a w){fk:Option Nat}{os':List (Option eU)}{x:AV}{y:Tree}{v:Value}(h:B5 σ.obj fk os' x y)(hv:VR P β w I x v):TR w (NF σ w0 w β I O0 fk os') y v:=by
 cases x<;>simp only[B5]at h
 case t x=>subst h;simp[VR]at hv;exact TR.mono (λ _ _=>rfl) (aes hr fk os') _ _ hv
 case dE=>subst h;simp[VR]at hv;simp only[TR];exact .inl ⟨trivial,none,0,hv,λ_=>rfl⟩
 case own k aa len=>exact NG hr h hv
 case oz k len=>
  rcases hv.xc with ⟨rfl,rfl⟩ |⟨_,hv⟩;obtain⟨hne,hnk,o,en,h1,h2,h3,rfl⟩:=h;exact .inl ⟨List.eq_nil_of_length_eq_zero h3,none,0,rfl,λ_=>rfl⟩;exact NG hr h hv
theorem NH(hr:Rel P w0 O0 N β I σ a w){fk:Option Nat}{os':List (Option eU)}{β':Nat->Option c9}:∀{r:List AV}{t:List Tree}{c:Array Value}{aa:Nat},mS σ.obj fk os' r t->d8 P β w I r c aa->d8 P β' w (NF σ w0 w β I O0 fk os') (t.map AV.t) c aa
 |[],[],_,_,_,_=>trivial
 |x::xs,y::ys,c,aa,h,⟨⟨v,h1,h2,h3⟩,h4⟩=>⟨⟨v,h1,by simp[VR];exact EC hr h.1 h2,h3⟩,NH hr h.2 h4⟩
 |[],_::_,_,_,h,_ |_::_,[],_,_,h,_=>h.elim
theorem mS.length{get:Nat->Option aN}{fk:Option Nat}{os':List (Option eU)}:∀{r:List AV}{t:List Tree},mS get fk os' r t->t.length=r.length
 |[],[],_=>rfl
 |_::_,_::_,h=>by simp[mS.length h.2]
 |[],_::_,h |_::_,[],h=>h.elim
theorem BD(hr:Rel P w0 O0 N β I σ a w){fk:Option Nat}{os':List (Option eU)}{β':Nat->Option c9}:∀{rs:List (List AV)}{ts:List (List Tree)}{c:Array Value}{aa sz:Nat},fh σ.obj fk os' rs ts->b9 P β w I rs c aa sz->b9 P β' w (NF σ w0 w β I O0 fk os') (aK ts) c aa sz
 |[],[],_,_,_,_,_=>trivial
 |r::rs,t::ts,c,aa,sz,h,⟨h1,h2,h3⟩=>⟨by rw[length_map,h.1.length,h1],NH hr h.1 h2,BD hr h.2 h3⟩
 |[],_::_,_,_,_,h,_ |_::_,[],_,_,_,h,_=>h.elim
theorem fh.length{get:Nat->Option aN}{fk:Option Nat}{os':List (Option eU)}:∀{rs:List (List AV)}{ts:List (List Tree)},fh get fk os' rs ts->rs.length=ts.length
 |[],[],_=>rfl
 |_::_,_::_,h=>by simp[h.2.length]
 |[],_::_,h |_::_,[],h=>h.elim
theorem LA(hr:Rel P w0 O0 N β I σ a w){fk:Option Nat}{os':List (Option eU)}{β':Nat->Option c9}:∀{r:List AV}{t:List Tree}{vs:List Value},mS σ.obj fk os' r t->be P β w I r vs->be P β' w (NF σ w0 w β I O0 fk os') (t.map AV.t) vs
 |[],[],[],_,_=>by simp[be]
 |x::xs,y::ys,v::vs,h,hv=>by exact⟨EC hr h.1 hv.1,LA hr h.2 hv.2⟩
 |[],_::_,_,h,_ |_::_,[],_,h,_=>h.elim
 |[],[],_::_,_,hv |_::_,_::_,[],_,hv=>by simp[be]at hv
theorem Iq(hr:Rel P w0 O0 N β I σ a w){fk:Option Nat}{os':List (Option eU)}{β':Nat->Option c9}:∀{rs:List (List AV)}{ts:List (List Tree)}{es:List MapEntry},fh σ.obj fk os' rs ts->cX P β w I rs es->cX P β' w (NF σ w0 w β I O0 fk os') (aK ts) es
 |[],[],[],_,_=>trivial
 |_::_,_::_,_::_,h,hm=>⟨LA hr h.1 hm.1,Iq hr h.2 hm.2⟩
 |[],_::_,_,h,_ |_::_,[],_,h,_=>h.elim
 |[],[],_::_,_,hm |_::_,_::_,[],_,hm=>hm.elim
theorem fh.nil{get:Nat->Option aN}{fk:Option Nat}{os':List (Option eU)}{t:List (List Tree)}(h:fh get fk os' [] t):t=[]:=by
 cases t with
 |nil=>rfl
 |cons=>exact h.elim
theorem Ww(hr:Rel P w0 O0 N β I σ a w){F:Nat->Prop}{βi:Nat->Option c9}{fk:Option Nat}{os':List (Option eU)}(hF:∀k o b,fk=some k->σ.obj k=some o->¬kept os' k->iu β k b->F b)(hi:∀j,kept os' j->β j=βi j){x:AV}{c:RC}{v:Value}
 (h:HM σ.obj fk os' x c) (hv:VR P β w I x v):CA P F βi c w (NF σ w0 w β I O0 fk os') v:=by
 unfold HM at h;split at h;rename_i cs ts;simp[VR]at hv;obtain⟨vs,rfl,hv⟩:=hv;refine⟨vs,rfl,?_⟩;have:∀(cs:List AV)(ts:List Tree)(vs:List Value),mS σ.obj fk os' cs ts->be P β w I cs vs->fy w (NF σ w0 w β I O0 fk os') ts vs:=by
  intro cs
  induction cs with
  |nil=>intro ts vs h hv;cases ts<;>cases vs<;>first |trivial |exact h.elim |(simp at hv)
  |cons x xs ih=>
   intro ts vs h hv;cases ts with
   |nil=>exact h.elim
   |cons t ts=>
    cases vs with
    |nil=>simp[be]at hv
    |cons u us=>simp[be]at hv;exact⟨EC hr h.1 hv.1,ih ts us h.2 hv.2⟩
 exact this cs ts vs.toList h hv;exact EC hr h hv;subst h;simp[VR]at hv;exact .inl ⟨rfl,hv⟩;rename_i k aa len sz rows;obtain⟨rfl,hnk,rfl,o,h1,rfl,h2,h3⟩:=h;simp only[VR]at hv;rcases hv with ⟨_,rfl,_,h4⟩ |⟨b,sz,n,cap,ad,h4,rfl,h5,h6,h7⟩;exact .inl ⟨List.eq_nil_of_length_eq_zero (by omega),rfl⟩;have⟨B,hB,tB⟩:=hr.mem.dp k o h1;rw[h4]at hB;cases hB;obtain⟨hs,c,e,hc',hn,tB⟩:=tB;refine .inr ⟨b,c,e,cap,ad,n.s,by rw[h3],hF k o b rfl h1 hnk (.at h4),λhI=>hI.2.2 ⟨k,.inl rfl,⟨o,h1⟩,.at h4⟩,hc',by omega,?_,?_,λhc=>by simpa using h7 hc⟩;rw[<- hs,hn];simpa using h6;rw[<- hs];exact BD hr h2 (b9.take len _ _ _ _ tB);rename_i k aa len j len';obtain⟨rfl,rfl,rfl,hk⟩:=h;show VR P βi w (NF σ w0 w β I O0 fk os') (.own k 0 len') v;simp[VR]at hv ⊢;rw[<- hi k hk];exact hv;exact h.elim
theorem BF{α:Type}(l:List α)(t:Nat):lk ((List.range l.length).zip l) t=l[t]? :=by
 have rI:∀(l:List α)(s t:Nat),(lk ((List.range' s l.length).zip l) t)=if s<=t/\t<s+l.length then l[t -s]? else none:=by
  intro l
  induction l with
  |nil=>intro s t;simp[lk]
  |cons x xs ih=>
   simp[List.range'_succ,lk]
   all_goals grind
 rw[List.range_eq_range',rI];by_cases ht:t<l.length;simp;rw[aP (by omega)];simp[List.getElem?_eq_none (Nat.le_of_not_lt ht)]
theorem J7{x:AV}:∀{l:List AV},x∈l->∀k∈refs x,k∈dD l
 |[],h,_,_=>by simp at h
 |y::ys,h,k,hk=>by simp[dD];rcases aI.1 h with rfl |h;exact .inl hk;exact .inr (J7 h k hk)
theorem Qu(hT : fw P T){f : FuncId}{fn : Func}{c : Code}{args : List AV}{os : List eU}{os' : List (Option eU)}{rv : RV}(hfn : P.funcs[f]? = some fn)(hb : fn.body = some c)(hname : (fn.name == "runtime.NumGoroutine") = false)(hN : args.length <= fn.ntmps)(hargs : ∀ k ∈ dD args, k < 1000)(hos : os.length <= 1000)(hlen : os'.length = os.length)
 (h:Ev P fn.ntmps c (N1 T fn.results.toList rv os') (s8.st ⟨(List.range args.length).zip args,(List.range (os.map i6).length).zip (os.map i6)⟩)):ra P f args os os' rv:=by
 refine⟨⟨fn,hfn,by rw[hb];rfl,hname⟩,λw β I vs hβ hM hv=>?_⟩;have hvl:=be.length _ _ hv;simp at hvl;have kf:∀k,lk ((List.range (os.map i6).length).zip (os.map i6)) k=sY os k:=λk=>by rw[BF];simp[sY]
 refine calls_of_wp hfn hb ?_;have hrel:Rel P w (qE β I) fn.ntmps β I (s8.st ⟨(List.range args.length).zip args,(List.range (os.map i6).length).zip (os.map i6)⟩) { tmps:=vs++Array.replicate (fn.ntmps -vs.size) undef,defers:=[] } w:=by
  refine⟨rfl,by simp;omega,λt=>?_,?_⟩;simp only[s8.st,BF,gd];by_cases ht:t<args.length;obtain⟨v,g1,g2⟩:=be.get _ _ t _ hv (dF ht);rw[dF ht];simp only[Option.getD_some];have:(vs++Array.replicate (fn.ntmps -vs.size) undef).getD t undef=v:=by rw[Array.getElem?_toList]at g1;simp only[Array.getD_eq_getD_getElem?,Array.getElem?_append,show t<vs.size by omega,if_true,g1,Option.getD_some]
  rw[this];exact g2;rw[List.getElem?_eq_none (Nat.le_of_not_lt ht)];simp[VR];have:(s8.st ⟨(List.range args.length).zip args,(List.range (os.map i6).length).zip (os.map i6)⟩).obj=sY os:=funext kf;rw[this];exact hM
 have hold:tG (s8.st ⟨(List.range args.length).zip args,(List.range (os.map i6).length).zip (os.map i6)⟩):=by
  refine⟨λ t k hk=>?_,λk o hk=>?_⟩;simp[s8.st,BF]at hk;cases ht:args[t]? with
  |none=>rw[ht]at hk;simp[refs]at hk
  |some x=>rw[ht]at hk;have:=hargs k (J7 (bT ht) k hk);omega
  have hk:sY os k=some o:=(kf k).symm.trans hk;simp only[sY,tT]at hk;obtain⟨p,hp,rfl⟩:=hk;refine⟨by have:=(cZ.1 hp).1;omega,λr hr x hx j hj=>?_⟩;simp[i6,aK,mem_map]at hr;obtain⟨q,_,rfl⟩:=hr;simp[mem_map]at hx;obtain⟨t,_,rfl⟩:=hx;simp[refs]at hj
 refine wp_mono (h w (qE β I) β I _ w hrel hold) ?_
 have fin:∀(a':Act) (w':World) (β':Nat->Option c9) (I':Nat->Prop) (σ':St),Rel P w (qE β I) fn.ntmps β' I' σ' a' w'->(∃ xs fk,nX T σ' fn.results.toList=some xs/\HK σ'.obj fk os' xs rv/\RE σ'.obj fk os')->
  a'.defers=[]/\∃v,(results fn a'.tmps).run P w'= .ok v w'/\RK P w β I os' rv (.returned v) w':=by
  intro a' w' β' I' σ' hr ⟨xs,fk,hx,he,heo⟩;obtain⟨us,g1,g2⟩:=BB hT hr _ _ hx;have AW:=be.length _ _ g2;have hm:=hr.mem;have hrun:(fn.results.mapM (Wu a'.tmps)).run P w'= .ok us.toArray w':=by rw[Array.mapM_eq_mapM_toList,Sem.run_map,g1];rfl
  have hko:∀j p,os'[j]? =some (some p)->∃B o,β j=some B/\β' j=some B/\σ'.obj j=some o/\OR P β' w' I' o B/\o.sz=p.1/\fh σ'.obj fk os' (o.rows.take p.2.length) p.2:=by intro j p hj;have⟨_,o,e1,e2,e3⟩:=heo j p hj;have hjl:j<os.length:=(by rw[<- hlen];exact(cZ.1 hj).1);obtain⟨B,hB,_⟩:=hM.dp j (i6 os[j]) (by simp[sY,hjl]);have hB':=hm.anch j B (by simp only[qE];rw[aU (by omega)];exact hB);have⟨B',hB2,hO⟩:=hm.dp j o e1;rw[hB']at hB2;cases hB2;exact⟨B,o,hB,hB',e1,hO,e2,e3⟩
  have hkept:∀j,kept os' j->β' j=β j:=λj ⟨p,hp⟩=>by have⟨B,o,h1,h2,_⟩:=hko j p hp;rw[h1,h2]
  have tj:∀j o,CX os' j=some o->∃p,os'[j]? =some (some p)/\o=i6 p:=by intro j o hj;simp only[CX,tT,Option.join_eq_some_iff]at hj;obtain⟨p,hp,rfl⟩:=hj;exact⟨p,hp,rfl⟩
  have ry:∀b,I b->¬V6 β b/\b<w.heap.size:=by intro b hb;refine⟨?_,hM.lt b hb⟩;rintro⟨j,B,hj,hB⟩;rcases Nat.lt_or_ge j os.length with hjl |hjl;exact(hM.ownB j (i6 os[j]) B b (by simp[sY,hjl]) hj hB).1 hb;rw[hβ j hjl]at hj;cases hj
  have hOI:∀b,I b->NF σ' w w' β' I' (qE β I) fk os' b:=by intro b hb;have⟨g1,g2⟩:=ry b hb;refine⟨.inr (.inl hb),Nat.lt_of_lt_of_le g2 hm.le,?_⟩;rintro⟨k,_,⟨o,ho⟩,hβk⟩;rcases (hm.kB k o b ho hβk).2.2 with g |g;exact g1 g;omega
  have hmem:Mem P w (qE β I) β (NF σ' w w' β' I' (qE β I) fk os') (CX os') w':=by
   constructor;intro j o hj;obtain⟨p,hp,rfl⟩:=tj j o hj;have⟨B,o1,b1,b2,b3,b4,b5,b6⟩:=hko j p hp;refine⟨B,b1,?_⟩;cases B with
   |none=>
    simp[OR]at b4 ⊢;rw[b4]at b6;have:=fh.nil (by simpa using b6);simp[i6,aK,this]
   | «at» b s n=>
    obtain⟨c1,c,e,c2,c3,c4⟩:=b4;refine⟨by rw[c1,b5];rfl,c,e,c2,c3,?_⟩;exact BD hr b6 (b9.take _ _ _ _ _ c4)
   |mp b=>
    obtain⟨es,cl,c1,cl',c2,c3⟩:=b4;have hl:=b6.length;simp[List.length_take]at hl;refine⟨es,cl,c1,by simp[i6,aK,length_map];omega,λe=>?_,c3⟩;have e':p.1=p.2.length:=(by simpa[i6,aK]using e);rw[take_of_length_le (by omega)]at b6;exact Iq hr b6 (c2 (by omega))
   intro j j' o o' B B' b h1 h2 h3 h4 h5 h6;obtain⟨p,hp,rfl⟩:=tj j o h1;obtain⟨p',hp',rfl⟩:=tj j' o' h2;have⟨_,o1,_,_,b3,_⟩:=hko j p hp;have⟨_,o1',_,_,b3',_⟩:=hko j' p' hp';rw[<- hkept j ⟨p,hp⟩]at h3;rw[<- hkept j' ⟨p',hp'⟩]at h4;exact hm.iv j j' o1 o1' B B' b b3 b3' h3 h4 h5 h6;intro j o B b h1 h2 h5;obtain⟨p,hp,rfl⟩:=tj j o h1;have⟨_,o1,_,_,b3,_⟩:=hko j p hp;rw[<- hkept j ⟨p,hp⟩]at h2;have⟨_,c2,c3⟩:=hm.ownB j o1 B b b3 h2 h5;exact⟨λ hb=>hb.2.2 ⟨j,.inr ⟨p,hp⟩,⟨o1,b3⟩,B,h2,h5⟩,c2,c3⟩;exact λb hb=>hb.2.1;intro b hb;rcases hb.1 with g |g |g |g;exact hm.up b g;exact .inl g;exact .inr (.inr g);exact .inr (.inl g);exact hm.keep;exact hm.le;exact hm.os;exact hm.tape;exact hm.output;intro j B hj;simp only[qE]at hj;split at hj;exact hj;cases hj;exact hM.vars.mono (λ b hb=>hm.keep b (ry b hb).2 (ry b hb).1) hOI
  have hF:∀k o b,fk=some k->σ'.obj k=some o->¬kept os' k->iu β' k b->B8 w β os' b:=by intro k o b _ h2 h3 h4;refine⟨(hm.kB k o b h2 h4).2.2,λj o' h5 h6=>?_⟩;obtain⟨p,hp,rfl⟩:=tj j o' h5;have⟨_,o1,_,_,b3,_⟩:=hko j p hp;have h6':iu β' j b:=(by obtain⟨B,e1,e2⟩:=h6;exact⟨B,by rw[hkept j ⟨p,hp⟩];exact e1,e2⟩);have:=hm.pn k j o o1 b h2 b3 h4 h6';subst this;exact h3 ⟨p,hp⟩
  have ret:∀v,s7 P (B8 w β os') β rv w' (NF σ' w w' β' I' (qE β I) fk os') v->RK P w β I os' rv (.returned v) w':=λv hv'=>⟨v,_,rfl,hmem,hOI,hv'⟩;refine⟨hr.defers,?_⟩;have hlist:∀(xs:List AV)(cs:List RC)(us:List Value),pc σ'.obj fk os' xs cs->be P β' w' I' xs us->VH P (B8 w β os') β cs w' (NF σ' w w' β' I' (qE β I) fk os') us:=by
   intro xs
   induction xs with
   |nil=>intro cs us h1 h2;cases cs<;>cases us<;>first |trivial |exact h1.elim |(simp [be]at h2)
   |cons x xs ih=>
    intro cs us h1 h2;cases cs with
    |nil=>exact h1.elim
    |cons c cs=>
     cases us with
     |nil=>simp[be]at h2
     |cons u us=>simp[be]at h2;exact⟨Ww hr hF hkept h1.1 h2.1,ih cs us h1.2 h2.2⟩
  simp only[Wv,Sem.run_bind,hrun,Result.andThen_ok,Sem.run_pure];refine⟨_,rfl,ret _ ?_⟩
  match xs,us,rv,he,g2 with
  |[x],[u],.one c,he,g2=>
   simp only[be]at g2;simpa[s7]using Ww hr hF hkept he g2.1
  |x::y::r,u::u'::us,.eI cs,he,g2=>
   have:=hlist _ _ _ he g2;rw[dif_neg (by simp)];exact⟨_,rfl,by simpa using this⟩
  |[],[],.eI cs,he,g2=>
   simp[HK]at he;subst he;rw[dif_neg (by simp)];exact⟨_,rfl,trivial⟩
  |[x],[u],.eI cs,he,_=>exact he.elim
  |[],_,.one c,he,_=>exact he.elim
  |x::y::r,_,.one c,he,_=>exact he.elim
  |[],_::_,.eI _,_,g2=>simp[be]at g2
  |[_],[],_,_,g2=>simp[be]at g2
  |[_],_::_::_,_,_,g2=>simp[be]at g2
  |_::_::_,[],_,_,g2=>simp[be]at g2
  |_::_::_,[_],_,_,g2=>simp[be]at g2
 rintro e a' w' ⟨β',I',σ',h1,h2,h3⟩;cases e with
 |normal=>exact fin a' w' β' I' σ' h1 h3
 |ret=>exact fin a' w' β' I' σ' h1 h3
 |_=>exact h3.elim
def Rr(P:Program)(get:Nat->Option aN)(xs:List AV)(os':List (Nat×aN))(rv:AV):Prop:=
 ∀(w0:World) (O0:ld) (β:Nat->Option c9) (I:Nat->Prop) (w:World) (vs:Array Value),Mem P w0 O0 β I get w->be P β w I xs vs.toList->∃ β' I',Mem P w0 O0 β' I' (py os') w/\(∀ b,I b->I' b)/\VR P β' w I' rv (if h:vs.size=1 then vs[0]else .tuple vs)
def aqJ(P:Program)(T:eR)(rs:List ResultVar)(rv:AV)(os':List (Nat×aN)):Exit->St->Prop
 | .normal,σ=>∃xs,nX T σ rs=some xs/\Rr P σ.obj xs os' rv
 | .ret,σ=>∃xs,nX T σ rs=some xs/\Rr P σ.obj xs os' rv
 |_,_=>False
theorem aa6(hT : fw P T){f : FuncId}{fn : Func}{c : Code}{args : List AV}{os : List aN}{os' : List (Nat × aN)}{rv : AV}(hfn : P.funcs[f]? = some fn)(hb : fn.body = some c)(hname : (fn.name == "runtime.NumGoroutine") = false)(hN : args.length <= fn.ntmps)(hargs : ∀ k ∈ dD args, k < 1000)(hos : os.length <= 1000)
 (W6:∀o∈os,∀r∈o.rows,∀x∈r,∀j∈refs x,j<1000)
 (h:Ev P fn.ntmps c (aqJ P T fn.results.toList rv os') (s8.st ⟨(List.range args.length).zip args,(List.range os.length).zip os⟩)):yr P f args os os' rv:=by
 refine⟨⟨fn,hfn,by rw[hb];rfl,hname⟩,λw β I vs hβ hM hv=>?_⟩;have hvl:=be.length _ _ hv;simp at hvl;have kf:∀k,lk ((List.range os.length).zip os) k=vq os k:=λk=>by rw[BF];rfl
 refine calls_of_wp hfn hb ?_;have hrel:Rel P w (qE β I) fn.ntmps β I (s8.st ⟨(List.range args.length).zip args,(List.range os.length).zip os⟩) { tmps:=vs++Array.replicate (fn.ntmps -vs.size) undef,defers:=[] } w:=by
  refine⟨rfl,by simp;omega,λt=>?_,?_⟩;simp only[s8.st,BF,gd];by_cases ht:t<args.length;obtain⟨v,g1,g2⟩:=be.get _ _ t _ hv (dF ht);rw[dF ht];simp only[Option.getD_some];have:(vs++Array.replicate (fn.ntmps -vs.size) undef).getD t undef=v:=by rw[Array.getElem?_toList]at g1;simp only[Array.getD_eq_getD_getElem?,Array.getElem?_append,show t<vs.size by omega,if_true,g1,Option.getD_some]
  rw[this];exact g2;rw[List.getElem?_eq_none (Nat.le_of_not_lt ht)];simp[VR];have:(s8.st ⟨(List.range args.length).zip args,(List.range os.length).zip os⟩).obj=vq os:=funext kf;rw[this];exact hM
 have hold:tG (s8.st ⟨(List.range args.length).zip args,(List.range os.length).zip os⟩):=by
  refine⟨λ t k hk=>?_,λk o hk=>?_⟩;simp[s8.st,BF]at hk;cases ht:args[t]? with
  |none=>rw[ht]at hk;simp[refs]at hk
  |some x=>rw[ht]at hk;have:=hargs k (J7 (bT ht) k hk);omega
  have hk:vq os k=some o:=(kf k).symm.trans hk;simp[vq]at hk;refine⟨by have:=(cZ.1 hk).1;omega,λr hr x hx j hj=>?_⟩;have:=W6 o (bT hk) r hr x hx j hj;omega
 refine wp_mono (h w (qE β I) β I _ w hrel hold) ?_
 have fin:∀(a':Act) (w':World) (β':Nat->Option c9) (I':Nat->Prop) (σ':St),Rel P w (qE β I) fn.ntmps β' I' σ' a' w'->(∃ xs,nX T σ' fn.results.toList=some xs/\Rr P σ'.obj xs os' rv)->
  a'.defers=[]/\∃v,(results fn a'.tmps).run P w'= .ok v w'/\aqI P w β I os' rv (.returned v) w':=by
  intro a' w' β' I' σ' hr ⟨xs,hx,he⟩;obtain⟨us,g1,g2⟩:=BB hT hr _ _ hx;have hrun:(fn.results.mapM (Wu a'.tmps)).run P w'= .ok us.toArray w':=by rw[Array.mapM_eq_mapM_toList,Sem.run_map,g1];rfl
  have ry:∀b,I b->¬V6 β b/\b<w.heap.size:=by intro b hb;refine⟨?_,hM.lt b hb⟩;rintro⟨j,B,hj,hB⟩;rcases Nat.lt_or_ge j os.length with hjl |hjl;exact(hM.ownB j os[j] B b (by simp[vq]) hj hB).1 hb;rw[hβ j hjl]at hj;cases hj
  obtain⟨β2,I2,hm,hI2,hv2⟩:=he w (qE β I) β' I' w' us.toArray hr.mem (by simpa using g2);have hmem:Mem P w (qE β I) β2 (λ b=>I2 b\/I b) (py os') w':=by constructor;intro k o hk;have⟨B,hB,hO⟩:=hm.dp k o hk;exact⟨B,hB,OR.mono (λ _ _ h=>h) (λ _ _=>rfl) (λ b hb=> .inl hb) (λ _ _=>rfl) hO⟩;exact hm.iv;intro k o B b h1 h2 h3;have⟨a1,a2,a3⟩:=hm.ownB k o B b h1 h2 h3;refine⟨?_,a2,a3⟩;rintro (hb |hb);exact a1 hb;have⟨c1,c2⟩:=ry b hb;rcases a3 with a3 |a3;exact c1 a3;omega;rintro b (hb |hb);exact hm.lt b hb;exact Nat.lt_of_lt_of_le (ry b hb).2 hm.le;rintro b (hb |hb);exact hm.up b hb;exact .inl hb;exact hm.keep;exact hm.le;exact hm.os;exact hm.tape;exact hm.output;exact hm.anch;exact hm.vars.mono (λ _ _=>rfl) (λ b hb=> .inl hb)
  refine⟨hr.defers,?_⟩;simp only[Wv,Sem.run_bind,hrun,Result.andThen_ok,Sem.run_pure];exact⟨_,rfl,_,β2,_,rfl,hmem,λb hb=> .inr hb,VR.mono (λ _ _ h=>h) (λ _ _=>rfl) (λ b hb=> .inl hb) _ _ hv2⟩
 rintro e a' w' ⟨β',I',σ',h1,h2,h3⟩;cases e with
 |normal |ret=>exact fin a' w' β' I' σ' h1 h3
 |_=>exact h3.elim
theorem s7.I0{F F':Nat->Prop}{βi:Nat->Option c9}{w':World}{I':Nat->Prop}(hF:∀b,F b->F' b){rv:RV}{v:Value}(h:s7 P F βi rv w' I' v):s7 P F' βi rv w' I' v:=by
 have hc:∀(c:RC)(v:Value),CA P F βi c w' I' v->CA P F' βi c w' I' v:=by
  intro c v h;cases c with
  |d x=>exact h
  |fresh sz rows=>
   rcases h with h |⟨b,c,e,cap,o,s,h1,h2,h3⟩;exact .inl h;exact .inr ⟨b,c,e,cap,o,s,h1,hF b h2,h3⟩
  |whole j len=>exact h
 cases rv with
 |one c=>exact hc c v h
 |eI cs=>
  obtain⟨vs,rfl,h⟩:=h;refine⟨vs,rfl,?_⟩;have:∀(cs:List RC)(vs:List Value),VH P F βi cs w' I' vs->VH P F' βi cs w' I' vs:=by
   intro cs
   induction cs with
   |nil=>intro vs h;cases vs with
    |nil=>trivial
    |cons=>exact h.elim
   |cons c cs ih=>intro vs h;cases vs with
    |nil=>exact h.elim
    |cons v vs=>exact⟨hc c v h.1,ih vs h.2⟩
  exact this cs vs.toList h
theorem oO{f:FuncId}{args:List AV}{rv:RV}(h:ra P f args [] [] rv):sd P f args rv:=by
 refine⟨h.1,λw I vs hlt hgv hv=>?_⟩;have hM:Mem P w (qE oE I) oE I (sY []) w:=by refine⟨λ k o hk=>by simp[sY]at hk,λk k' o o' B B' b hk=>by simp[sY]at hk,λk o B b hk=>by simp[sY]at hk,hlt,λb hb=> .inl hb,λ_ _ _=>rfl,aB _,rfl,rfl,rfl,λj B hj=>?_,hgv⟩;simp only[qE,oE,ite_self]at hj;cases hj
 refine(h.2 w oE I vs (λ _ _=>rfl) hM hv).mono ?_;rintro e w' ⟨v,I',rfl,g1,g2,g3⟩;have hno:∀b,¬(qE oE I).own b:=λb ⟨j,B,hj,_⟩=>by cases hj
 refine⟨v,I',rfl,⟨g1.os,g1.tape,g1.output,g1.le,λb hb=>g1.keep b hb (hno b)⟩,g2,g1.lt,λb hb=>?_,s7.I0 (λ b hb=>?_) g3⟩;rcases g1.up b hb with h |h |h;exact .inl h;exact(hno b h).elim;exact .inr h;rcases hb.1 with h |h;exact(hno b h).elim;exact h
end
open Go.RowKit Go.WideShapes Go.ChangeShapes
inductive CS where
 |int (k:IntKind)
 |bool
 |str
 |sl (row:List CS)
 |any
  |mu (row:List CS)
 |back
def arD:CS->Tree->Prop
 | .int k,x=>∃n,x= .sc (.int k n)/\(Lit.int k n).wf=true
 | .bool,x=>∃b,x= .sc (.bool b)
 | .str,x=>∃s,x= .sc (.string s)/\s.size<=maxLen
 |_,_=>False
def aqK:CS->Nat
 | .int .i64=>8
 | .int _=>1
 | .bool=>1
 | .str=>16
 |_=>24
def SR:CS->Nat
 | .int .i64=>8
 | .int _=>1
 | .bool=>1
 |_=>8
def apO:Nat->List CS->Nat
 |o,[]=>o
 |o,c::cs=>apO ((o+(SR c -1))/SR c*SR c+aqK c) cs
def Rg(r:List CS):Nat:=bif r.any (λ c=>SR c==8)then(apO 0 r+7)/8*8 else apO 0 r
mutual
inductive Is(row:List CS):Tree->Prop
 |mk (rows:List (List Tree)) (hl:rows.length<=maxLen) (h:qv row rows):Is row (.sl rows)
inductive qv(row:List CS):List (List Tree)->Prop
 |nil:qv row []
 |cons {r:List Tree} {rs:List (List Tree)} (h:kO row row r) (t:qv row rs):qv row (r::rs)
inductive kO(row:List CS):List CS->List Tree->Prop
 |nil:kO row [] []
 |back {cs:List CS} {x:Tree} {xs:List Tree} (h:Is row x) (t:kO row cs xs):kO row (.back::cs) (x::xs)
 |one {c:CS} {cs:List CS} {x:Tree} {xs:List Tree} (h:arD c x) (t:kO row cs xs):kO row (c::cs) (x::xs)
end
mutual
def Fit:CS->Tree->Prop
 | .int k,x=>∃n,x= .sc (.int k n)/\(Lit.int k n).wf=true
 | .bool,x=>∃b,x= .sc (.bool b)
 | .str,x=>∃s,x= .sc (.string s)/\s.size<=maxLen
 | .sl row,x=>∃rows,x= .sl rows/\(rows.length<=maxLen/\rows.length*Rg row<=reachBytes)/\∀r∈rows,ep row r
 | .any,_=>True
 | .mu row,x=>Is row x
 | .back,_=>False
def ep:List CS->List Tree->Prop
 |[],[]=>True
 |c::cs,x::xs=>Fit c x/\ep cs xs
 |_,_=>False
end
mutual
def nw:Tree->Nat
 | .sc (.string s)=>s.size+1
 | .sc _=>1
 | .sl rows=>xO rows+1
def xO:List (List Tree)->Nat
 |[]=>0
 |r::rs=>ic r+xO rs
def ic:List Tree->Nat
 |[]=>0
 |x::xs=>nw x+ic xs
end
theorem Ay:∀a b:List Tree,ic (a++b)=ic a+ic b
 |[],b=>by simp[ic]
 |x::a,b=>by simp[ic,Ay a b];omega
structure Bk(H:Type) where
 b:DataW H->Nat
 a:List (DataW H)->Nat
 str:∀l,b (.lit (.string l))=l.length+1
 int:∀k n,b (.lit (.int k n))=1
 bool:∀v,b (.lit (.bool v))=1
 nil:b .nil=1
 sl:∀e s,b (.slice e s)=a e+a s+1
 agg:∀p,b (.agg p)=a p+1
 a0:a []=0
 a1:∀d r,a (d::r)=b d+a r
theorem Bk.app{H:Type}(K:Bk H)(l r:List (DataW H)):K.a (l++r)=K.a l+K.a r:=by
 induction l with
 |nil=>simp[K.a0]
 |cons x l ih=>simp[K.a1];omega
theorem Bk.drop{H:Type}(K:Bk H){l:List (DataW H×List MemPlace)}{j:Nat}{y:DataW H×List MemPlace}(h:l[j]? =some y):K.a ((l.map (·.1)).drop j)=K.b y.1+K.a ((l.map (·.1)).drop (j+1)):=by obtain⟨hj,rfl⟩:=cZ.1 h;rw[List.drop_eq_getElem_cons (by simpa using hj),K.a1];simp
def AG(P:Program)(go:TypeId->Option (List CS)):Nat->List Field->Option (List CS)
 |_,[]=>some []
 |o,f::fs=>(go f.type).bind λa=>if f.offset=o/\a.length=P.cellsOf f.type then(AG P go (o+a.length) fs).map (a++ ·)else none
def ahj(P:Program)(t u:TypeId):Option (List CS):=if u=t then some [.back]else match P.underlying u with
 |some (.int k)=>some [.int k]
 |some .bool=>some [.bool]
 |some .string=>some [.str]
 |_=>none
def SP(P:Program)(t e:TypeId):Option (List CS):=match P.underlying e with
 |some (.struct fs)=>(AG P (ahj P t) 0 fs.toList).bind λr=>if r.length=P.cellsOf e/\0<r.length then some r else none
 |_=>none
def AK(P:Program)(cut:List TypeId):Nat->TypeId->Option (List CS)
 | 0,_=>none
 |n+1,t=>match P.underlying t with
  |some (.int k)=>some [.int k]
  |some .bool=>some [.bool]
  |some .string=>some [.str]
  |some (.slice e)=>if cut.contains t then(match SP P t e with |some row=>some [.mu row] |none=>some [.any])else(AK P cut n e).bind λr=>if r.length=P.cellsOf e/\0<r.length/\Rg r<=P.bytesOf e then some [.sl r]else none
  |some (.struct fs)=>(AG P (AK P cut n) 0 fs.toList).bind λr=>if r.length=P.cellsOf t then some r else none
  |some (.array m e)=>(AK P cut n e).bind λr=>if r.length=P.cellsOf e/\m*r.length=P.cellsOf t then some (List.replicate m r).flatten else none
  |_=>none
theorem ep.length:∀(cs:List CS)(ts:List Tree),ep cs ts->ts.length=cs.length
 |[],[],_=>rfl
 |c::cs,x::xs,h=>by simp[ep]at h;simp[ep.length cs xs h.2]
 |[],_::_,h |_::_,[],h=>by simp[ep]at h
theorem ep.append:∀(cs:List CS)(ts:List Tree){cs':List CS}{ts':List Tree},ep cs ts->ep cs' ts'->ep (cs++cs') (ts++ts')
 |[],[],_,_,_,h=>h
 |c::cs,x::xs,_,_,h,h'=>by simp at h ⊢;exact⟨h.1,ep.append cs xs h.2 h'⟩
 |[],_::_,_,_,h,_ |_::_,[],_,_,h,_=>by simp[ep]at h
def Here(w:World)(b:Nat):Prop:=b<w.heap.size
section
variable {w:World} {I:Nat->Prop}
theorem fy.append:∀(ts:List Tree)(cs:List Value){ts':List Tree}{cs':List Value},fy w I ts cs->fy w I ts' cs'->fy w I (ts++ts') (cs++cs')
 |[],[],_,_,_,h=>h
 |_::xs,_::vs,_,_,h,h'=>⟨h.1,fy.append xs vs h.2 h'⟩
 |[],_::_,_,_,h,_ |_::_,[],_,_,h,_=>h.elim
theorem fy.length:∀(ts:List Tree)(cs:List Value),fy w I ts cs->ts.length=cs.length
 |[],[],_=>rfl
 |_::xs,_::vs,h=>by simp[fy.length xs vs h.2]
 |[],_::_,h |_::_,[],h=>h.elim
theorem acE:∀(ts:List Tree)(cs:List Value)(b aa:Nat),fy w I ts cs->(∀ i,i<cs.length->w.cell? ⟨b,aa+i,none⟩=cs[i]?)->eQ w I ts b aa
 |[],[],_,_,_,_=>by simp[eQ]
 |x::xs,v::vs,b,aa,h,hc=>by refine⟨⟨v,by simpa using hc 0 (by simp),h.1⟩,acE xs vs b (aa+1) h.2 λi hi=>?_⟩;have:=hc (i+1) (by simpa using hi);rw[show aa+(i+1)=aa+1+i by omega]at this;simpa using this
 |[],_::_,_,_,h,_ |_::_,[],_,_,h,_=>h.elim
end
section
variable {H:Type} {enc:TypeId×Value->H} {P:Program} {w:World} {sp:Nat->Bool} {held:Bool}
theorem Qv{a:Addr}{v:Value}(h:w.cell? a=some v):a.spot=none/\a.block<w.heap.size:=by simp[World.cell?]at h;split at h;rename_i c e st hc;split at h;cases h;rename_i hs;exact⟨by simpa using hs,(Array.getElem?_eq_some_iff.1 hc).1⟩;cases h
def T8(P:Program)(t:TypeId)(x:DataW H×List MemPlace):Prop:=∀k∈x.1.weights P t,k<=reachBytes
theorem y8{e:TypeId}:∀{l:List (DataW H)}{d:DataW H},d∈l->∀k∈d.weights P e,k∈DataW.weightsAll P e l
 |a::l,d,h,k,hk=>by simp[DataW.weightsAll];rcases aI.1 h with rfl |h;exact .inl hk;exact .inr (y8 h k hk)
theorem SF(m:Nat)(cs:List Value)(go:TypeId->Option (List CS))(hgo:∀t sh,go t=some sh->∀cs x,DataW.trod enc P w 0 sp held m t cs=some x->T8 P t x->∃ts,fy w (Here w) ts cs/\ep sh ts/\∀K:Bk H,ic ts<=K.b x.1):
 ∀(fs:List Field)(l:List (DataW H×List MemPlace))(o:Nat)(sh:List CS),AG P go o fs=some sh->l.length=fs.length->(∀ (i:Nat) (f:Field) (x:DataW H×List MemPlace),fs[i]? =some f->l[i]? =some x->DataW.trod enc P w 0 sp held m f.type ((cs.drop f.offset).take (P.cellsOf f.type))=some x/\T8 P f.type x)->
  ∃ts,fy w (Here w) ts ((cs.drop o).take sh.length)/\ep sh ts/\∀K:Bk H,ic ts<=K.a (l.map (·.1))
 |[],l,o,sh,h,_,_=>by simp[AG]at h;subst h;exact⟨[],by simp[fy],by simp[ep],λK=>by simp[ic]⟩
 |f::fs,[],o,sh,h,hl,hf=>by simp at hl
 |f::fs,x::l,o,sh,h,hl,hf=>by simp only[AG,ah]at h;obtain⟨a,h1,h2⟩:=h;split at h2;rename_i hc;obtain⟨hc1,hc2⟩:=hc;simp at h2;obtain⟨r,h3,rfl⟩:=h2;have⟨hx,hz⟩:=hf 0 f x rfl rfl;obtain⟨ts,g1,g2,k1⟩:=hgo _ _ h1 _ _ hx hz;obtain⟨ts',g3,g4,k2⟩:=SF m cs go hgo fs l _ _ h3 (by simpa using hl) λi f' x' hf' hx'=>hf (i+1) f' x' hf' hx';refine⟨ts++ts',?_,ep.append _ _ g2 g4,λK=>by have:=k1 K;have:=k2 K;rw[Ay,bG,K.a1];omega⟩;rw[dQ,List.take_add,List.drop_drop];rw[hc1,<- hc2]at g1;exact fy.append _ _ g1 g3;cases h2
theorem kO.append{row:List CS}:∀{a b:List CS}{x y:List Tree},kO row a x->kO row b y->kO row (a++b) (x++y)
 |_,_,_,_,.nil,h=>h
 |_,_,_,_,.back h t,h'=> .back h (t.append h')
 |_,_,_,_,.one h t,h'=> .one h (t.append h')
theorem NI{row:List CS}(m:Nat)(cs:List Value)(go:TypeId->Option (List CS))(hgo:∀t sh,go t=some sh->∀cs x,DataW.trod enc P w 0 sp held m t cs=some x->∃ts,fy w (Here w) ts cs/\kO row sh ts/\∀K:Bk H,ic ts<=K.b x.1):
 ∀(fs:List Field)(l:List (DataW H×List MemPlace))(o:Nat)(sh:List CS),AG P go o fs=some sh->l.length=fs.length->(∀ (i:Nat) (f:Field) (x:DataW H×List MemPlace),fs[i]? =some f->l[i]? =some x->DataW.trod enc P w 0 sp held m f.type ((cs.drop f.offset).take (P.cellsOf f.type))=some x)->
  ∃ts,fy w (Here w) ts ((cs.drop o).take sh.length)/\kO row sh ts/\∀K:Bk H,ic ts<=K.a (l.map (·.1))
 |[],l,o,sh,h,_,_=>by simp[AG]at h;subst h;exact⟨[],by simp[fy],.nil,λK=>by simp[ic]⟩
 |f::fs,[],o,sh,h,hl,hf=>by simp at hl
 |f::fs,x::l,o,sh,h,hl,hf=>by simp only[AG,ah]at h;obtain⟨a,h1,h2⟩:=h;split at h2;rename_i hc;obtain⟨hc1,hc2⟩:=hc;simp at h2;obtain⟨r,h3,rfl⟩:=h2;have hx:=hf 0 f x rfl rfl;obtain⟨ts,g1,g2,k1⟩:=hgo _ _ h1 _ _ hx;obtain⟨ts',g3,g4,k2⟩:=NI m cs go hgo fs l _ _ h3 (by simpa using hl) λi f' x' hf' hx'=>hf (i+1) f' x' hf' hx';refine⟨ts++ts',?_,g2.append g4,λK=>by have:=k1 K;have:=k2 K;rw[Ay,bG,K.a1];omega⟩;rw[dQ,List.take_add,List.drop_drop];rw[hc1,<- hc2]at g1;exact fy.append _ _ g1 g3;cases h2
theorem aor{t e:TypeId}{row:List CS}(hk:P.underlying t=some (.slice e))(hm:SP P t e=some row):∀(fuel:Nat)(cs:List Value)(x:DataW H×List MemPlace),DataW.trod enc P w 0 sp held fuel t cs=some x->∃tr,fy w (Here w) [tr] cs/\Is row tr/\∀K:Bk H,nw tr<=K.b x.1:=by
 intro fuel
 induction fuel using Nat.strongRecOn with
 |_ fuel ih=>
 intro cs x hx;have one:∀m,m<fuel->∀vh y,DataW.trod enc P w 0 sp held m e vh=some y->∃ts,fy w (Here w) ts vh/\kO row row ts/\ts.length=row.length/\∀K:Bk H,ic ts<=K.b y.1:=by
  intro m hmf vh y hy;unfold SP at hm;split at hm;rename_i fs hke;simp only[ah]at hm;obtain⟨r,h1,h2⟩:=hm;split at h2;rename_i hr;injection h2 with h2;subst h2;obtain⟨xs,m',hm',rfl,hl,hxs,hf⟩:=DataW.trod_struct hke hy;obtain⟨ts,g1,g2,k1⟩:=NI (row:=r) m' vh (ahj P t) (λ u sh hsh cs x hx=>by unfold ahj at hsh;split at hsh;rename_i hu;cases hsh;rw[hu]at hx;obtain⟨tr,a1,a2,a3⟩:=ih m' (by omega) cs x hx;exact⟨[tr],a1,.back a2 .nil,λK=>by have:=a3 K;simp[ic];omega⟩;split at hsh;rename_i k DH;cases hsh;obtain⟨v,rfl,rfl,hw⟩:=DataW.trod_int DH hx;exact⟨[.sc (.int k v)],by simp[fy,TR,oneCell],.one ⟨v,rfl,hw⟩ .nil,λK=>by simp[ic,nw,K.int]⟩;rename_i DH;cases hsh;obtain⟨v,rfl,rfl⟩:=DataW.trod_bool DH hx;exact⟨[.sc (.bool v)],by simp[fy,TR,oneCell],.one ⟨v,rfl⟩ .nil,λK=>by simp[ic,nw,K.bool]⟩;rename_i DH;cases hsh;obtain⟨v,rfl,rfl,hw⟩:=DataW.trod_string DH hx;exact⟨[.sc (.string v)],by simp[fy,TR,oneCell],.one ⟨v,rfl,hw⟩ .nil,λK=>by simp[ic,nw,K.str]⟩;cases hsh) fs.toList xs 0 r h1 (by simpa using hxs) (λ i f x hi hxi=>by have hi':fs[i]? =some f:=(by simpa using hi);rw[hf i f hi',hxi]);rw[List.drop_zero,take_of_length_le (by omega)]at g1;refine⟨ts,g1,g2,?_,λK=>by have:=k1 K;rw[K.agg];omega⟩;rw[fy.length _ _ g1];omega;cases h2;cases hm
 have rl:row.length=P.cellsOf e/\0<row.length:=by unfold SP at hm;split at hm;simp only[ah]at hm;obtain⟨r,h1,h2⟩:=hm;split at h2;rename_i hr;cases h2;exact hr;cases h2;cases hm
 rcases DataW.trod_slice hk hx with ⟨rfl,rfl⟩ |⟨a,len,cap,elems,ae,m,hfm,rfl,rfl,_,hl,hmx,hlen,hel,_,_⟩;refine⟨.sl [],?_,.mk [] (by simp[maxLen]) .nil,λK=>by simp[nw,xO,K.nil]⟩;simp only[fy,TR];exact⟨.inl ⟨trivial,none,0,rfl,λ_=>rfl⟩,trivial⟩;have each:∀i,i<len->∃vh y,w.cells? 0 (a.add (i*P.cellsOf e)) (P.cellsOf e)=some vh/\DataW.trod enc P w 0 sp held m e vh=some y/\elems[i]? =some y:=by intro i hi;have h3:=hel i hi;have h6:elems[i]? =some (elems[i]'(by omega)):=dF (by omega);rw[h6,ah]at h3;obtain⟨vh,h4,h5⟩:=h3;exact⟨vh,_,h4,h5,h6⟩
 by_cases h0:len=0;subst h0;refine⟨.sl [],?_,.mk [] (by simp[maxLen]) .nil,λK=>by simp[nw,xO,K.sl]⟩;simp only[fy,TR];exact⟨.inl ⟨trivial,some a,cap,rfl,λh=>by cases h⟩,trivial⟩;obtain⟨cs0,y0,c0,_,_⟩:=each 0 (by omega);obtain⟨_,c1,c2⟩:=World.cells?_some c0;have c3:=c2 0 (by omega);rw[dF (by omega)]at c3;have c4:=Qv c3;simp[Nat.zero_mul,Addr.add,if_true]at c4;obtain⟨b,aa,s⟩:=a;simp at c4;obtain⟨rfl,hb⟩:=c4;have rows:∀q j,j+q=len->∃rows:List (List Tree),rows.length=q/\cN w (Here w) rows b (aa+j*P.cellsOf e) (P.cellsOf e)/\qv row rows/\∀K:Bk H,xO rows<=K.a ((elems.map (·.1)).drop j):=by
  intro q
  induction q with
  |zero=>intro j _;exact⟨[],rfl,by simp[cN],.nil,λK=>by simp[xO]⟩
  |succ q ihq=>
   intro j hj;obtain⟨rows,g1,g2,g3,k3⟩:=ihq (j+1) (by omega);obtain⟨csj,y,g4,g5,gy⟩:=each j (by omega);obtain⟨ts,g6,g7,_,k6⟩:=one m (by omega) _ _ g5;obtain⟨_,g8,g9⟩:=World.cells?_some g4;refine⟨ts::rows,by simp[g1],?_,.cons g7 g3,λK=>by have:=k3 K;have:=k6 K;rw[K.drop gy,xO];omega⟩;simp[cN];refine⟨(fy.length _ _ g6).trans g8,acE _ _ _ _ g6 λi hi=>?_,?_⟩;rw[<- g9 i (by omega),addr_add,addr_add];rw[show aa+j*P.cellsOf e+P.cellsOf e=aa+(j+1)*P.cellsOf e by rw[Nat.add_mul];omega];exact g2
 obtain⟨rows,g1,g2,g3,k3⟩:=rows len 0 (by omega);refine⟨.sl rows,?_,.mk rows (by omega) g3,λK=>by have:=k3 K;rw[List.drop_zero]at this;rw[K.sl,nw];omega⟩;simp only[fy,TR];exact⟨.inr ⟨b,aa,cap,P.cellsOf e,by rw[g1],by omega,hb,by simpa using g2⟩,trivial⟩
theorem ED{cut:List TypeId}:∀(n:Nat)(t:TypeId)(sh:List CS),AK P cut n t=some sh->∀(fuel:Nat)(cs:List Value)(x:DataW H×List MemPlace),DataW.trod enc P w 0 sp held fuel t cs=some x->T8 P t x->
 ∃ts,fy w (Here w) ts cs/\ep sh ts/\∀K:Bk H,ic ts<=K.b x.1
 | 0,_,_,h,_,_,_,_,_=>by simp[AK]at h
 |n+1,t,sh,h,fuel,cs,x,hx,hz=>by
  unfold AK at h;split at h;rename_i k hk;cases h;obtain⟨v,rfl,rfl,hw⟩:=DataW.trod_int hk hx;exact⟨[.sc (.int k v)],by simp[fy,TR,oneCell],by simp only[ep,Fit];exact⟨⟨v,rfl,hw⟩,trivial⟩,λK=>by simp[ic,nw,K.int]⟩;rename_i hk;cases h;obtain⟨v,rfl,rfl⟩:=DataW.trod_bool hk hx;exact⟨[.sc (.bool v)],by simp[fy,TR,oneCell],by simp only[ep,Fit];exact⟨⟨v,rfl⟩,trivial⟩,λK=>by simp[ic,nw,K.bool]⟩;rename_i hk;cases h;obtain⟨v,rfl,rfl,hw⟩:=DataW.trod_string hk hx;exact⟨[.sc (.string v)],by simp[fy,TR,oneCell],by simp only[ep,Fit];exact⟨⟨v,rfl,hw⟩,trivial⟩,λK=>by simp[ic,nw,K.str]⟩;rename_i e hk;split at h;split at h;rename_i row hmr;cases h;have⟨tr,g1,g2,k1⟩:=aor hk hmr fuel cs x hx;exact⟨[tr],g1,by simp only[ep,Fit];exact⟨g2,trivial⟩,λK=>by have:=k1 K;simp only[ic];omega⟩;cases h;rcases DataW.trod_slice hk hx with ⟨rfl,rfl⟩ |⟨a,len,cap,elems,ae,m,_,rfl,rfl,_,hl,hm,hlen,hel,_,_⟩;exact⟨[.sc (.slice none 0 0)],by simp[fy,TR,oneCell],by simp[ep,Fit],λK=>by simp[ic,nw,K.nil]⟩;exact⟨[.sc (.slice (some a) len cap)],by simp[fy,TR,oneCell],by simp[ep,Fit],λK=>by simp[ic,nw,K.sl]⟩;simp only[ah]at h;obtain⟨r,h1,h2⟩:=h;split at h2;rename_i hr;cases h2;rcases DataW.trod_slice hk hx with ⟨rfl,rfl⟩ |⟨a,len,cap,elems,ae,m,_,rfl,rfl,_,hl,hm,hlen,hel,_,_⟩;refine⟨[.sl []],?_,by simp only[ep,Fit];exact⟨⟨[],rfl,by simp[maxLen],by simp⟩,trivial⟩,λK=>by simp[ic,nw,xO,K.nil]⟩;simp only[fy,TR];exact⟨.inl ⟨trivial,none,0,rfl,λ_=>rfl⟩,trivial⟩;have hzw:∀k,k=(elems.length+ae.length)*P.bytesOf e\/k∈DataW.weightsAll P e (elems.map (·.1))->k<=reachBytes:=by intro k hkk;refine hz k ?_;simp only[DataW.weights,hk,aI,bP,length_map];rcases hkk with h |h;exact .inl h;exact .inr (.inl h)
  have each:∀i,i<len->∃vh y,w.cells? 0 (a.add (i*P.cellsOf e)) (P.cellsOf e)=some vh/\DataW.trod enc P w 0 sp held m e vh=some y/\T8 P e y/\elems[i]? =some y:=by intro i hi;have h3:=hel i hi;have h6:elems[i]? =some (elems[i]'(by omega)):=dF (by omega);rw[h6,ah]at h3;obtain⟨vh,h4,h5⟩:=h3;exact⟨vh,_,h4,h5,λk hk=>hzw k (.inr (y8 (mem_map.2 ⟨_,List.getElem_mem (by omega),rfl⟩) k hk)),h6⟩
  have hbytes:len*Rg r<=reachBytes:=by have h1:=hzw _ (.inl rfl);have h2:len*Rg r<=(elems.length+ae.length)*P.bytesOf e:=Nat.mul_le_mul (by omega) hr.2.2;omega
  by_cases h0:len=0;subst h0;refine⟨[.sl []],?_,by simp only[ep,Fit];exact⟨⟨[],rfl,by simp[maxLen],by simp⟩,trivial⟩,λK=>by simp[ic,nw,xO,K.sl]⟩;simp only[fy,TR];exact⟨.inl ⟨trivial,some a,cap,rfl,λh=>by cases h⟩,trivial⟩;obtain⟨cs0,y0,c0,_,_,_⟩:=each 0 (by omega);obtain⟨_,c1,c2⟩:=World.cells?_some c0;have c3:=c2 0 (by omega);rw[dF (by omega)]at c3;have c4:=Qv c3;simp[Nat.zero_mul,Addr.add,if_true]at c4;obtain⟨b,aa,s⟩:=a;simp at c4;obtain⟨rfl,hb⟩:=c4;have rows:∀m j,j+m=len->∃rows:List (List Tree),rows.length=m/\cN w (Here w) rows b (aa+j*P.cellsOf e) (P.cellsOf e)/\(∀ x∈rows,ep r x)/\∀K:Bk H,xO rows<=K.a ((elems.map (·.1)).drop j):=by
   intro m
   induction m with
   |zero=>intro j _;exact⟨[],rfl,by simp[cN],by simp,λK=>by simp[xO]⟩
   |succ m ih=>
    intro j hj;obtain⟨rows,g1,g2,g3,k3⟩:=ih (j+1) (by omega);obtain⟨csj,y,g4,g5,g5z,gy⟩:=each j (by omega);obtain⟨ts,g6,g7,k6⟩:=ED n e r h1 _ _ _ g5 g5z;obtain⟨_,g8,g9⟩:=World.cells?_some g4;refine⟨ts::rows,by simp[g1],?_,λx hx=>?_,λK=>by have:=k3 K;have:=k6 K;rw[K.drop gy,xO];omega⟩;simp[cN];refine⟨(fy.length _ _ g6).trans g8,acE _ _ _ _ g6 λi hi=>?_,?_⟩;rw[<- g9 i (by omega),addr_add,addr_add];rw[show aa+j*P.cellsOf e+P.cellsOf e=aa+(j+1)*P.cellsOf e by rw[Nat.add_mul];omega];exact g2;rcases aI.1 hx with rfl |hx;exact g7;exact g3 x hx
  obtain⟨rows,g1,g2,g3,k3⟩:=rows len 0 (by omega);refine⟨[.sl rows],?_,by simp only[ep,Fit];exact⟨⟨rows,rfl,⟨by omega,by rw[g1];exact hbytes⟩,g3⟩,trivial⟩,λK=>by have:=k3 K;rw[List.drop_zero]at this;rw[K.sl];simp[ic,nw];omega⟩;simp only[fy,TR];exact⟨.inr ⟨b,aa,cap,P.cellsOf e,by rw[g1],by omega,hb,by simpa using g2⟩,trivial⟩;cases h2;rename_i fs hk;simp only[ah]at h;obtain⟨r,h1,h2⟩:=h;split at h2;rename_i hr;injection h2 with h2;subst h2;obtain⟨xs,m,_,rfl,hl,hxs,hf⟩:=DataW.trod_struct hk hx;obtain⟨ts,g1,g2,k1⟩:=SF m cs (AK P cut n) (λ t sh hsh cs x hx hz=>ED n t sh hsh m cs x hx hz) fs.toList xs 0 r h1 (by simpa using hxs) (λ i f x hi hxi=>by have hi':fs[i]? =some f:=(by simpa using hi);have:=hf i f hi';rw[hxi]at this;refine⟨this,λk hk'=>hz k ?_⟩;simp[DataW.weights,hk];exact DataW.weights_mem_each (j:=i) (t:=f.type) (d:=x.1) (by simp[hi']) (by simp[hxi]) k hk');refine⟨ts,?_,g2,λK=>by have:=k1 K;rw[K.agg];omega⟩;rw[List.drop_zero,take_of_length_le (by omega)]at g1;exact g1;cases h2;rename_i m e hk;simp only[ah]at h;obtain⟨r,h1,h2⟩:=h;split at h2;rename_i hr;cases h2;obtain⟨xs,q,_,rfl,hl,hxs,hf⟩:=DataW.trod_array hk hx;have part:∀i j,j+i=m->∃ts,fy w (Here w) ts (cs.drop (j*P.cellsOf e))/\ep (List.replicate i r).flatten ts/\∀K:Bk H,ic ts<=K.a ((xs.map (·.1)).drop j):=by
   intro i
   induction i with
   |zero=>
    intro j hj;refine⟨[],?_,by simp[ep],λK=>by simp[ic]⟩;have:j=m:=(by omega);subst this;rw[List.drop_of_length_le (by rw[hl,<- hr.2,<- hr.1];omega)];simp[fy]
   |succ i ih=>
    intro j hj;obtain⟨ts,g1,g2,k1⟩:=ih (j+1) (by omega);have:=hf j (by omega);have hxj:xs[j]? =some (xs[j]'(by omega)):=dF (by omega);rw[hxj]at this;obtain⟨ts0,g3,g4,k3⟩:=ED n e r h1 _ _ _ this (λ k hk'=>hz k (by simp[DataW.weights,hk];exact y8 (mem_map.2 ⟨_,List.getElem_mem (by omega),rfl⟩) k hk'));refine⟨ts0++ts,?_,?_,λK=>by have:=k1 K;have:=k3 K;rw[K.drop hxj,Ay];omega⟩;have:=fy.append _ _ g3 g1;rw[show (j+1)*P.cellsOf e=j*P.cellsOf e+P.cellsOf e by rw[Nat.add_mul];omega,<- List.drop_drop,List.take_append_drop]at this;exact this;exact ep.append _ _ g4 g2
  obtain⟨ts,g1,g2,k1⟩:=part m 0 (by omega);exact⟨ts,by simpa using g1,g2,λK=>by have:=k1 K;rw[List.drop_zero]at this;rw[K.agg];omega⟩;cases h2;cases h
inductive VS where
 |one (c:CS)
 |agg (cs:List CS)
def N0(P:Program)(cut:List TypeId)(t:TypeId):Option VS:=
 (AK P cut 12 t).bind λsh=>match P.underlying t with
  |some (.struct _) |some (.array _ _)=>some (.agg sh)
  |_=>match sh with
   |[c]=>some (.one c)
   |_=>none
def HJ:VS->TV->Prop
 | .one c,x=>∃y,x= .s y/\Fit c y
 | .agg cs,x=>∃ys,x= .a ys/\ep cs ys
def Wx:List VS->List TV->Prop
 |[],[]=>True
 |s::ss,x::xs=>HJ s x/\Wx ss xs
 |_,_=>False
def PM:TV->Nat
 | .s y=>nw y
 | .a ys=>ic ys
def Wy:List TV->Nat
 |[]=>0
 |x::xs=>PM x+Wy xs
theorem amf{cut:List TypeId}{t:TypeId}{s:VS}{v:Value}{d:DataW H}{ps:List MemPlace}{b0:Nat}(hs:N0 P cut t=some s)(hval:Value.okWide P w .any b0 t v)(hd:DataW.Trod enc P w 0 sp held t v d ps)(hz:∀k∈d.weights P t,k<=reachBytes):
 ∃x,vj w (Here w) x v/\HJ s x/\∀K:Bk H,PM x<=K.b d:=by
 obtain⟨fuel,hf⟩:=hd;simp[N0,ah]at hs;obtain⟨sh,h1,h2⟩:=hs;obtain⟨ts,g1,g2,k1⟩:=ED 12 t sh h1 _ _ _ hf hz;have hag:∀cs:Array Value,v= .agg cs->s= .agg sh->∃x,vj w (Here w) x v/\HJ s x/\∀K:Bk H,PM x<=K.b d:=by rintro cs rfl rfl;exact⟨.a ts,⟨cs,rfl,by simpa[Value.cells]using g1⟩,⟨ts,rfl,g2⟩,k1⟩
 unfold Value.okWide at hval;split at h2;rename_i hu;injection h2 with h2;rw[hu]at hval;obtain⟨cs,rfl,_⟩:=hval;exact hag cs rfl h2.symm;rename_i hu;injection h2 with h2;rw[hu]at hval;obtain⟨cs,rfl,_⟩:=hval;exact hag cs rfl h2.symm;split at h2;cases h2;have hone:v.cells.toList=[v]:=by
  cases hu:P.underlying t with
  |none=>rw[hu]at hval;simp[Cell.okWide,Cell.ok,hu]at hval
  |some d=>
   rw[hu]at hval;cases v<;>first |rfl |(exfalso;revert hval;cases d<;>simp_all [Cell.okWide,Cell.ok])
 rw[hone]at g1
 match ts,g1,g2,k1 with
 |[y],g1,g2,k1=>
  simp only[ep]at g2;exact⟨.s y,g1.1,⟨y,rfl,g2.1⟩,λK=>by have:=k1 K;simpa[ic,PM]using this⟩
 |[],g1,_,_=>exact g1.elim
 |_::_::_,g1,_,_=>exact g1.2.elim
 cases h2
theorem aa7{cut:List TypeId}:∀{ts:List TypeId}{ss:List VS}{vs:List Value}{ds:List (DataW H)}{ps:List MemPlace}{b0:Nat},ts.mapM (N0 P cut)=some ss->
 (∀ (j:Nat) t v,ts[j]? =some t->vs[j]? =some v->Value.okWide P w .any b0 t v)->DataW.TrodAll enc P w 0 sp held ts vs ds ps->(∀ k∈DataW.weightsEach P ts ds,k<=reachBytes)->∃xs,ov w (Here w) xs vs/\Wx ss xs/\∀K:Bk H,Wy xs<=K.a ds
 |[],ss,vs,ds,ps,b0,hs,_,hd,_=>by obtain⟨rfl,rfl,rfl⟩:=trodAll_nil hd;simp at hs;subst hs;exact⟨[],trivial,trivial,λK=>by simp[Wy]⟩
 |t::ts,ss,vs,ds,ps,b0,hs,hval,hd,hz=>by obtain⟨v,vs',d,ds',p,q,rfl,rfl,rfl,h0,r0⟩:=trodAll_cons hd;simp[ah]at hs;obtain⟨s,h1,ss',h2,rfl⟩:=hs;obtain⟨x,g1,g2,k1⟩:=amf h1 (hval 0 t v rfl rfl) h0 (λ k hk=>hz k (by simp[DataW.weightsEach];exact .inl hk));obtain⟨xs,g3,g4,k2⟩:=aa7 h2 (λ j t v h h'=>hval (j+1) t v h h') r0 (λ k hk=>hz k (by simp[DataW.weightsEach];exact .inr hk));exact⟨x::xs,⟨g1,g3⟩,⟨g2,g4⟩,λK=>by have:=k1 K;have:=k2 K;rw[Wy,K.a1];omega⟩
theorem SG{β:Nat->Option c9}{I:Nat->Prop}:∀(xs:List TV)(vs:List Value),ov w I xs vs->be P β w I (xs.map TV.av) vs
 |[],[],_=>by simp[be]
 |x::xs,v::vs,h=>by
  refine⟨?_,SG xs vs h.2⟩;have h1:=h.1;cases x with
  |s y=>simp[TV.av];exact h1
  |a cs=>
   obtain⟨us,rfl,h2⟩:=h1;refine⟨us,rfl,?_⟩;have:∀(cs:List Tree) (us:List Value),fy w I cs us->be P β w I (cs.map AV.t) us:=by
    intro cs
    induction cs with
    |nil=>intro us h;cases us<;>first |(simp [be];done) |exact h.elim
    |cons c cs ih=>intro us h;cases us with
     |nil=>exact h.elim
     |cons u us=>simp;exact⟨h.1,ih us h.2⟩
   exact this cs us.toList h2
 |[],_::_,h |_::_,[],h=>h.elim
end
section
variable {H:Type} {enc:TypeId×Value->H} {P:Program}
theorem ahk{f:Func}{s:ChangeSpec}{apart fresh handsOn again:Bool}{W W':World}{args:Array Value}{v:Value}{ds gs:List (DataW H)}{before pa pv:List MemPlace}
 (hW:DataW.Whole enc P f.params.toList s.vars apart W args.toList ds gs before)
 (hres:∀(b:Nat)(sp:Nat->Bool)(hd:Bool),DataW.TrodAll enc P W' b sp hd f.resultTypes.toList (v.resultList f.resultTypes.size) (s.fn H (ds++gs)).results [])
 (hargs:∀sp:Nat->Bool,(∀ p∈before,sp p.block=true)->DataW.TrodAll enc P W' 0 sp true f.params.toList args.toList (s.fn H (ds++gs)).args pa)
 (hvars:∀sp:Nat->Bool,(∀ p∈before,sp p.block=true)->DataW.TrodVars enc P W' sp s.vars (s.fn H (ds++gs)).vars pv)
 (hps:before=pa++pv) (hb:Below W.heap.size W W')
 (hok:∀(j:Nat)(t:TypeId)(r:Value),f.resultTypes[j]? =some t->(v.resultList f.resultTypes.size)[j]? =some r->Value.okWide P W' .any 0 t r):
 s.post enc P f apart fresh handsOn again W args v W':=by
 have hlt:∀p∈before,p.block<W.heap.size:=λp hp=>hW.lt p hp;have hold:∀p∈before,(λ b=>decide (b<W.heap.size)) p.block=true:=λp hp=>by simpa using hlt p hp
 refine⟨ds,gs,before,[],pa,pv,hW,hres _ _ _,hargs _ hold,hvars _ hold,World.keptBut_mono (λ p hp=>⟨hp,?_⟩) (hb.frame (· ∈before)),λ_=>?_⟩;rw[hps,bP]at hp;exact Or.inr hp;obtain⟨_,_,_,_,_,hz,hn⟩:=hW;refine⟨hok,_,_,([]++pa)++pv,⟨[]++pa,pv,trodAll_append (hargs _ (λ _ _=>rfl)) (hres _ _ _),hvars _ (λ _ _=>rfl),rfl,?_,?_⟩,?_⟩;intro b aa hp;have hin:MemPlace.cell b aa∈before:=by rw[hps];simpa using hp
 rw[hb.frozen (hlt _ hin)];exact hz b aa hin;intro ha;have:=hn ha;rw[hps]at this;simpa using this;intro p hp _;rw[hps];simpa using hp
theorem LB(hl:laidOutB P=true){W W':World}(hb:Below W.heap.size W W'):∀{ts:List TypeId}{vs:List Value}{ds:List (DataW H)}{ps:List MemPlace},(∀ t∈ts,P.readableRec t=true/\t<P.types.size)->
 DataW.TrodAll enc P W 0 (λ _=>true) true ts vs ds ps->(∀ x∈ps,x.block<W.heap.size)->∀sp:Nat->Bool,(∀ p∈ps,sp p.block=true)->DataW.TrodAll enc P W' 0 sp true ts vs ds ps
 |[],vs,ds,ps,_,hd,_,sp,_=>by obtain⟨rfl,rfl,rfl⟩:=trodAll_nil hd;exact trodAll_mk0
 |t::ts,vs,ds,ps,ht,hd,hlt,sp,hsp=>by
  obtain⟨v,vs',d,ds',p,q,rfl,rfl,rfl,h0,r0⟩:=trodAll_cons hd;obtain⟨h1,h2⟩:=ht t (by simp)
  exact trodAll_cons_mk (WideElems.Trod_stays hl h1 h2 h0 (λ x hx=>hb.same (hlt x (by simp[hx]))) (λ x hx=>hsp x (by simp[hx])))
   (LB hl hb (λ t ht'=>ht t (by simp[ht'])) r0 (λ x hx=>hlt x (by simp[hx])) sp (λ x hx=>hsp x (by simp[hx])))
theorem SH{w:World}{base:Nat}{sp:Nat->Bool}{held:Bool}:∀{ts:List TypeId}{vs:List Value}{ds:List (DataW H)}{ps:List MemPlace},DataW.TrodAll enc P w base sp held ts vs ds ps->ds.length=ts.length
 |[],_,_,_,h=>by obtain⟨_,rfl,_⟩:=trodAll_nil h;rfl
 |_::_,_,_,_,h=>by obtain⟨_,_,_,_,_,_,_,rfl,_,_,h2⟩:=trodAll_cons h;simp[SH h2]
theorem aeu:∀{ts:List TypeId}{ds:List (DataW H)}{vt:List TypeId}{gs:List (DataW H)},ds.length=ts.length->∀k∈DataW.weightsEach P ts ds,k∈DataW.weightsEach P (ts++vt) (ds++gs)
 |[],[],_,_,_,k,h=>by simp[DataW.weightsEach]at h
 |t::ts,d::ds,vt,gs,hl,k,h=>by simp[DataW.weightsEach]at h ⊢;rcases h with h |h;exact .inl h;exact .inr (aeu (by simpa using hl) k h)
 |[],_::_,_,_,h,_,_ |_::_,[],_,_,h,_,_=>by simp at h
theorem acF{cut:List TypeId}{C:Checked}{f:FuncId}{fn:Func}{s:ChangeSpec}{ss:List VS}{tb:TypeId}(hl:laidOutB C.prog=true)(hread:(fn.params.toList.all λt=>C.prog.readableRec t&&decide (t<C.prog.types.size))=true)
 (hss:fn.params.toList.mapM (N0 C.prog cut)=some ss) (hvars:s.vars=[]) (hres:fn.resultTypes=#[tb]) (hb:C.prog.underlying tb=some .bool)
 (hs:∀ds:List (DataW H),ds.length=fn.params.toList.length->s.fn H ds={ results:=[.lit (.bool true)],args:=ds })
 {B:Nat->Prop} (XX:∀xs,Wx ss xs->(∀ n,B n->Wy xs<=n)->sd C.prog f (xs.map TV.av) (.one (.d (.s (.sc (.bool true))))))
 {W:World} {base:Nat} {args:Array Value} {ds gs:List (DataW H)} {before:List MemPlace}
 (hval:∀(j:Nat) t v,fn.params[j]? =some t->args[j]? =some v->Value.okWide C.prog W .any base t v)
 (hW:DataW.Whole enc C.prog fn.params.toList s.vars false W args.toList ds gs before)
 {vt:List TypeId} (hz:(DataW.weightsEach C.prog (fn.params.toList++vt) (ds++gs)).all (· <=reachBytes)=true) (hv:lL W (Here W)) (hB:∀n,B n->∃K:Bk H,K.a ds<=n):
 Calls C.prog f args W λe W'=>∃v,e= .returned v/\s.post enc C.prog fn false true false false W args v W':=by
 have hW':=hW;obtain⟨p,q,hA,hV,rfl,_,_⟩:=hW;rw[hvars]at hV;obtain⟨rfl,rfl⟩:=trodVars_none hV;have hlen:=SH hA;obtain⟨xs,g1,g2,g3⟩:=aa7 hss (λ j t v h1 h2=>hval j t v (by simpa using h1) (by simpa using h2)) hA (λ k hk=>by have:=all_eq_true.1 hz k (aeu hlen k hk);simpa using this);simp at hW';have hlt:∀x∈p,x.block<W.heap.size:=λx hx=>hW'.lt x hx;refine((XX xs g2 (λ n hn=>by have⟨K,hK⟩:=hB n hn;exact Nat.le_trans (g3 K) hK)).2 W (Here W) args (λ _ h=>h) hv (SG _ _ g1)).mono λe W' ⟨v,I',he,hbel,_,_,_,hr⟩=>⟨v,he,?_⟩;simp[s7]at hr;obtain⟨rfl,_⟩:=hr;have hfn:s.fn H (ds++[])={ results:=[.lit (.bool true)],args:=ds }:=by rw[append_nil];exact hs ds hlen
 refine ahk (pa:=p) (pv:=[]) hW' (λ b sp hd=>?_) (λ sp hsp=>?_) (λ sp _=>?_) (by simp) hbel (ok_one (by rw[hres]) rfl (okWide_bool_mk hb _));rw[hfn,hres];exact trodAll_mk1 (shut_bool hb _);rw[hfn];refine LB hl hbel (λ t ht=>?_) hA hlt sp hsp;have:=all_eq_true.1 hread t ht;simpa using this;rw[hfn,hvars];rfl
end
def apP:Cp->TypeDesc->Bool
 | .slice e,.slice e'=>e==e'
 | .arr n e,.array n' e'=>n==n'&&e==e'
 | .struct fs,.struct fa=>fa.toList.map (λ f=>(f.offset,f.type))==fs
 | .bool,.bool=>true
 | .str,.string=>true
 | .int k,.int k'=>k==k'
 | .map k e,.map k' e'=>k==k'&&e==e'
 | .other,_=>true
 |_,_=>false
def amg:Value->Value->Bool
 | .int k a,.int k' b=>k==k'&&a==b
 | .bool a,.bool b=>a==b
 | .string a,.string b=>decide (a=b)
 | .slice none 0 0,.slice none 0 0=>true
 | .pointer none,.pointer none=>true
 | .nilFunc,.nilFunc=>true
 | .nilIface,.nilIface=>true
 | .map none,.map none=>true
 |_,_=>false
theorem aev{a b:Value}(h:amg a b=true):a=b:=by unfold amg at h;split at h<;>simp_all
def Wz:List Value->List Value->Bool
 |[],[]=>true
 |a::as,b::bs=>amg a b&&Wz as bs
 |_,_=>false
theorem NJ:∀{a b:List Value},Wz a b=true->a=b
 |[],[],_=>rfl
 |a::as,b::bs,h=>by simp[Wz]at h;rw[aev h.1,NJ h.2]
 |[],_::_,h |_::_,[],h=>by simp[Wz]at h
def amh(P:Program)(t:TypeId)(ti:pS):Bool:=
 match P.info? t,P.underlying t with
 |some info,some d=>match info.zero with
  |some z=>info.size==ti.size&&info.bytes==ti.bytes&&t7 d==ti.agg&&apP ti.k d&&ti.zero.all lp&&ti.zero.length==ti.size&&
   (ti.cmp.isEmpty || match d with
    | .struct fa=>!P.stoodInHeld t&&!P.eqGuardType P.depth t&&gb P 99 0 fa.toList ti.cmp
    | .array _ _=>ti.cmp==[9]&&!P.eqGuardType P.depth t
    |_=>false)&&Wz z.cells.toList ti.zero&&uk ti.agg z
  |none=>false
 |_,_=>false
theorem ahl{k:Cp}{d:TypeDesc}(h:apP k d=true):Wf k d:=by unfold apP at h;split at h;simp at h;subst h;rfl;simp at h;obtain⟨rfl,rfl⟩:=h;rfl;rename_i fs fa;exact⟨fa,rfl,by simpa using h⟩;rfl;rfl;simp at h;subst h;rfl;simp at h;obtain⟨rfl,rfl⟩:=h;rfl;trivial;cases h
theorem aew{P:Program}{t:TypeId}{ti:pS}(h:amh P t ti=true):mN P t ti:=by
 unfold amh at h;split at h;rename_i info d h1 h2;split at h
 ·rename_i z h3;simp only[aY,beq_iff_eq]at h;obtain⟨⟨⟨⟨⟨⟨⟨⟨a1,a2⟩,a3⟩,a4⟩,a5⟩,a6⟩,a7⟩,a8⟩,a9⟩:=h;refine⟨⟨info,d,z,h1,h2,a1,a2,h3,NJ a8,a3,ahl a4⟩,a5,a6,λinfo' z' e1 e2=>by rw[h1]at e1;cases e1;rw[h3]at e2;cases e2;exact a9,λhne=>?_⟩
  all_goals grind
 cases h;cases h
def iE(l:List (TypeId×pS)):eR:=λt=>(l.find? λp=>p.1==t).map (·.2)
theorem aex{P:Program}{l:List (TypeId×pS)}(h:(l.all λp=>amh P p.1 p.2)=true):fw P (iE l):=by intro t ti ht;simp only[iE,tT]at ht;obtain⟨p,hp,rfl⟩:=ht;have h1:=List.find?_some hp;simp at h1;subst h1;exact aew (all_eq_true.1 h p (List.mem_of_find?_eq_some hp))
inductive CT(ι:Type) where
 |int (k:IntKind)
 |bool
 |str
 |sl (e:CT ι)
 |st (i:ι)
 |any
 |mp (k v:CT ι)
 deriving DecidableEq
structure SE where
 ι:Type
 dec:DecidableEq ι
 T:ι->Type
 row:(i:ι)->T i->List Tree
instance (E:SE):DecidableEq E.ι:=E.dec
section
variable (E:SE)
@[reducible] def CT.T:CT E.ι->Type
 | .int _=>Int
 | .bool=>Bool
 | .str=>ByteArray
 | .sl e=>List (CT.T e)
 | .st i=>E.T i
 | .any=>Tree
 | .mp k v=>List (CT.T k×CT.T v)
def CT.row:(c:CT E.ι)->CT.T E c->List Tree
 | .int k,n=>[.sc (.int k n)]
 | .bool,b=>[.sc (.bool b)]
 | .str,s=>[.sc (.string s)]
 | .sl e,l=>[.sl (List.map (CT.row e) l)]
 | .st i,x=>E.row i x
 | .any,x=>[x]
 | .mp _ _,_=>[.sl []]
def CT.one{ι:Type}:CT ι->Bool
 | .st _=>false
 |_=>true
def CT.tv:(c:CT E.ι)->CT.T E c->TV
 | .int k,n=> .s (.sc (.int k n))
 | .bool,b=> .s (.sc (.bool b))
 | .str,s=> .s (.sc (.string s))
 | .sl e,l=> .s (.sl (List.map (CT.row E e) l))
 | .st i,x=> .a (E.row i x)
 | .any,x=> .s x
 | .mp _ _,_=> .s (.sl [])
def HL:List (CT E.ι)->Type
 |[]=>Unit
 |c::l=>CT.T E c×HL l
def HL.row:(l:List (CT E.ι))->HL E l->List Tree
 |[],_=>[]
 |c::l,h=>CT.row E c h.1++HL.row l h.2
def HL.oB:(l:List (CT E.ι))->HL E l->List TV
 |[],_=>[]
 |c::l,h=>CT.tv E c h.1::HL.oB l h.2
end
structure Arr(E:SE) where
 i:E.ι
 c:CT E.ι
 f:E.T i->List (CT.T E c)
 g:List (CT.T E c)->Option (E.T i)
structure SX extends SE where
 ej:ι->List (CT ι)
 get:(i:ι)->T i->HL toSE (ej i)
 make:(i:ι)->HL toSE (ej i)->T i
 px:∀i x,row i x=HL.row toSE (ej i) (get i x)
 ik:∀i h,row i (make i h)=HL.row toSE (ej i) h
 flat:∀i,(ej i).all CT.one=true
 gv:Nat->Option ((c:CT ι)×CT.T toSE c)
 A4:∀g,(gv g).map (λ p=>CT.row toSE p.1 p.2)=(zt g).map λr=>r.map Tree.sc
 ar:TypeId->Option (Arr toSE):=λ_=>none
 arX:∀t a,ar t=some a->a.c.one=true/\(∀ x,row a.i x=((a.f x).map (CT.row toSE a.c)).flatten)/\∀l x,a.g l=some x->a.f x=l:=by intro t a h;cases h
section
variable (X:SX)
abbrev SX.C:=CT X.ι
abbrev SX.t(c:CT X.ι):Type:=CT.T X.toSE c
def CT.sz:CT X.ι->Nat
 | .st i=>(X.ej i).length
 |_=>1
inductive DV where
 |c (t:CT X.ι) (x:CT.T X.toSE t)
 |agg (cs:List DV)
 |eI (vs:List DV)
 |own (k aa len:Nat)
 |ptr (k row aa:Nat)
 |sk (k:Nat) (n:Int) (aa:Nat)
 |uv (k row aa m:Nat) (n:Int)
 |rp (t:CT X.ι) (x:CT.T X.toSE t) (aa:Nat)
 |y4 (t:CT X.ι) (x:CT.T X.toSE t) (aa m:Nat) (n:Int)
 |fn (f:FuncId) (first caps:List DV)
 |eE (as:List (CT X.ι)) (r:CT X.ι) (φ:HL X.toSE as->Option (CT.T X.toSE r))
 |mp (k:Nat)
 |oz (k len:Nat)
 |raw (v:Value)
 |nil
 |ub
 |skip
 |undef
inductive b7 where
 |cells (sz:Nat) (rows:List (List (DV X)))
 |eM (c:CT X.ι) (l:List (CT.T X.toSE c))
 |map (kc vc:CT X.ι) (l:List (CT.T X.toSE kc×CT.T X.toSE vc))
structure ek where
 env:List (Nat×DV X)
 obj:List (Nat×Option (b7 X))
 nx:Nat
 log:List Nat
variable {X}
mutual
def den:DV X->AV
 | .c t x=>(CT.tv X.toSE t x).av
 | .agg cs=> .agg (bI cs)
 | .eI vs=> .eI (bI vs)
 | .own k aa len=> .own k aa len
 | .ptr k row aa=> .ptr k row aa
 | .sk k n aa=> .ptr k n.toNat aa
 | .uv k row aa _ n=> .ptr k row (aa+n.toNat)
 | .rp t x aa=> .ff (CT.row X.toSE t x) aa
 | .y4 t x aa _ n=> .ff (CT.row X.toSE t x) (aa+n.toNat)
 | .fn f first caps=> .fn f (bI first) (bI caps)
 | .eE as r φ=> .eE λts u=>∃h x,φ h=some x/\ts=HL.oB X.toSE as h/\u=CT.tv X.toSE r x
 | .mp k=> .mp k
 | .oz k len=> .oz k len
 | .raw v=>cv v
 | .nil=> .dE
 | .ub=> .ub
 | .skip=> .undef
 | .undef=> .undef
def bI:List (DV X)->List AV
 |[]=>[]
 |x::xs=>den x::bI xs
end
theorem oP:∀l:List (DV X),bI l=l.map den
 |[]=>rfl
 |x::xs=>by simp[bI,oP xs]
def bM:b7 X->aN
 | .cells sz rows=>⟨sz,rows.map bI⟩
 | .eM c l=>⟨CT.sz X c,aK (l.map (CT.row X.toSE c))⟩
 | .map kc vc l=>⟨l.length,l.map λp=>[(CT.tv X.toSE kc p.1).av,(CT.tv X.toSE vc p.2).av]⟩
def iU(u:List (Nat×Option (b7 X))):List (Nat×Option aN):=u.map λp=>(p.1,p.2.map bM)
def iS(o:List (Nat×Option (b7 X)))(k:Nat):Option (b7 X):=(lk o k).join
def fS(e:List (Nat×DV X))(t:Nat):DV X:=(lk e t).getD .undef
def ek.st(s:ek X):St:=⟨λ t=>den (fS s.env t),λk=>(iS s.obj k).map bM,λ_=>none⟩
def lg(a b:CT X.ι)(x:CT.T X.toSE a):Option (CT.T X.toSE b):=
 match decEq a b with
 |isTrue h=>some (h ▸ x)
 |isFalse _=>none
theorem sK{a b:CT X.ι}{x:CT.T X.toSE a}{y:CT.T X.toSE b}(h:lg a b x=some y):∃e:a=b,y=e ▸ x:=by unfold lg at h;split at h;rename_i e _;injection h with h;exact⟨e,h.symm⟩;cases h
def HL.cells:(l:List (CT X.ι))->HL X.toSE l->List (DV X)
 |[],_=>[]
 |c::l,h=> .c c h.1::HL.cells l h.2
theorem row_one{c:CT X.ι}(h:c.one=true)(x:CT.T X.toSE c):∃t,CT.row X.toSE c x=[t]/\CT.tv X.toSE c x= .s t:=by cases c<;>first |exact⟨_,rfl,rfl⟩ |cases h
theorem HL.rN:∀(l:List (CT X.ι))(h:HL X.toSE l),l.all CT.one=true->bI (HL.cells l h)=(HL.row X.toSE l h).map AV.t
 |[],_,_=>rfl
 |c::l,h,ha=>by simp only[all_cons,aY]at ha;obtain⟨t,h1,h2⟩:=row_one ha.1 h.1;simp[HL.cells,bI,den,HL.row,h1,h2,TV.av,HL.rN l h.2 ha.2]
theorem HL.pT:∀(l:List (CT X.ι))(h:HL X.toSE l),l.all CT.one=true->(HL.row X.toSE l h).length=l.length
 |[],_,_=>rfl
 |c::l,h,ha=>by simp only[all_cons,aY]at ha;obtain⟨t,h1,_⟩:=row_one ha.1 h.1;simp[HL.row,h1,HL.pT l h.2 ha.2]
theorem Ir(c:CT X.ι)(x:CT.T X.toSE c):(CT.row X.toSE c x).length=CT.sz X c:=by
 cases c<;>try rfl
 rename_i i;exact(congrArg List.length (X.px i x)).trans (HL.pT _ _ (X.flat i))
def vQ:(c:CT X.ι)->CT.T X.toSE c->List (DV X)
 | .st i,x=>HL.cells (X.ej i) (X.get i x)
 |c,x=>[.c c x]
theorem qd(c:CT X.ι)(x:CT.T X.toSE c):bI (vQ c x)=(CT.row X.toSE c x).map AV.t:=by
 cases c<;>try rfl
 rename_i i;exact(HL.rN _ _ (X.flat i)).trans (congrArg (List.map AV.t) (X.px i x).symm)
def wI:DV X->Bool
 | .agg _ | .eI _ | .undef | .skip | .raw _ | .c (.st _) _=>false
 |_=>true
theorem SK{x:DV X}(h:wI x=true):qc (den x)=true:=by
 cases x<;>try rfl
 case c t x=>cases t<;>first |rfl |simp[wI]at h
 all_goals simp[wI]at h
def cellsD:DV X->Option (List (DV X))
 | .agg cs=>if cs.all wI then some cs else none
 | .c (.st i) x=>some (vQ (.st i) x)
 | .eI _ | .undef | .skip | .raw _=>none
 |x=>some [x]
theorem ajg{l:List (DV X)}(h:l.all wI=true):(bI l).all qc=true:=by rw[oP,List.all_map,all_eq_true];exact λx hx=>SK (all_eq_true.1 h x hx)
theorem EF{x:DV X}{cs:List (DV X)}(h:cellsD x=some cs):cellsOf (den x)=some (bI cs):=by
 cases x
 case c t x=>
  cases t
  case st i=>
   simp[cellsD]at h;subst h;simp only[den,CT.tv,TV.av,cellsOf,qd];show(if ((X.row i x).map AV.t).all qc then some ((X.row i x).map AV.t)else none)=some ((X.row i x).map AV.t);rw[aU];rw[List.all_map,all_eq_true];exact λ_ _=>rfl
  all_goals simp[cellsD]at h;subst h;rfl
 case agg l=>
  simp only[cellsD]at h;split at h;cases h;simp only[den,cellsOf];rw[aU (ajg ‹_›)];cases h
 all_goals simp[cellsD]at h;try (subst h;rfl)
def xv:Value->DV X
 | .slice none 0 0=> .nil
 | .int k n=> .c (.int k) n
 | .bool b=> .c .bool b
 | .string s=> .c .str s
 |v=> .raw v
theorem ajh(v:Value):den (xv (X:=X) v)=cv v:=by unfold xv;split<;>rfl
theorem CZ(l:List Value):bI (l.map (xv (X:=X)))=l.map cv:=by rw[oP,map_map];exact map_congr_left λv _=>ajh v
def ZM(env:Nat->DV X):Operand->DV X
 | .tmp t=>env t
 | .const v=>xv v
 | .global g=>match X.gv g with
  |some p=> .rp p.1 p.2 0
  |none=> .undef
 | .func f=> .fn f [] []
theorem WA(env:Nat->DV X)(x:Operand):den (ZM env x)=mT (λ t=>den (env t)) x:=by
 cases x with
 |global g=>
  have h:=X.A4 g;simp[ZM,mT];cases h1:X.gv g with
  |none=>
   rw[h1]at h;cases h2:zt g with
   |none=>rfl
   |some r=>rw[h2]at h;cases h
  |some p=>grind [den]
 |const v=>exact ajh _
 |tmp t |func f=>rfl
end
def bj{α:Type}(l:List α)(n:Int):Option α:=bif decide (0<=n)then l[n.toNat]? else none
def sub{α:Type}(l:List α)(aa len:Nat):List α:=(l.drop aa).take len
def cP(n:Int)(len:Nat):Bool:=decide (0<=n)&&decide (n<(len:Int))
def iH{α β:Type}(a:α)(f:α->β):β:=f a
def bJ(lo len ln n bytes:Nat):Bool:=decide (lo=len)&&decide (ln=n)&&decide ((len+n)*bytes<=140737488355328)&&decide (len+n<=maxLen)
def az(a b:Nat):Bool:=decide (a=b)
def y9(l h:Int)(len:Nat):Bool:=decide (0<=l)&&decide (l<=h)&&decide (h<=(len:Int))
def WB(a b:ByteArray):Bool:=Op.bytesLess a.toList b.toList
def WC(a b:ByteArray):Bool:=decide (a.size+b.size<=maxLen)
abbrev iN(n:Int):Int:=n
abbrev bN(b:Bool):Bool:=b
def WE{A:Type}:List Bool->Option A->Option A
 |[],k=>k
 |c::cs,k=>bif c then WE cs k else none
section
variable {X:SX} {A:Type}
abbrev KK(X:SX)(A:Type):=DV X->List (Nat×Option (b7 X))->List Nat->List Nat->Option A
def ami(t:Bool)(x y:DV X):DV X:=
 match x,y with
 | .c a p,.c b q=>match decEq b a with
  |isTrue h=> .c a (bif t then p else h ▸ q)
  |isFalse _=>bif t then .c a p else .c b q
 |x,y=>bif t then x else y
def Iu(agg:Bool)(size:Nat)(cs:List (DV X)):Option (DV X):=
 if cs.length=size then(if agg then some (.agg cs)else match cs with |[x]=>if wI x then some x else none |_=>none)else none
def SO(agg:Bool)(size:Nat)(c:CT X.ι)(y:CT.T X.toSE c)(aa:Nat):Option (DV X):=
 match c,y with
 | .st i,y=>if aa=0/\agg=true/\size=(X.ej i).length then some (.c (.st i) y)else Iu agg size (((vQ (.st i) y).drop aa).take size)
 |c,y=>Iu agg size (((vQ c y).drop aa).take size)
def Ma(d:DV X)(c:CT X.ι):Option (CT.T X.toSE c):=
 match d,c with
 | .c a x,c=>lg a c x
 | .nil,.sl _=>some []
 | .nil,.any=>some (.sl [])
 |_,_=>none
def EG:List (DV X)->(l:List (CT X.ι))->Option (HL X.toSE l)
 |[],[]=>some ()
 |d::ds,c::l=>(Ma d c).bind λx=>(EG ds l).bind λh=>some (x,h)
 |_,_=>none
def GP(d:DV X)(i:X.ι):Option (CT.T X.toSE (.st i)):=
 match d with
 | .agg cs=>(EG cs (X.ej i)).bind λh=>some (X.make i h)
 | .c a x=>lg a (.st i) x
 |_=>none
def dat(d:DV X)(c:CT X.ι):Option (CT.T X.toSE c):=
 match c with
 | .st i=>GP d i
 |c=>Ma d c
def mk1(c:CT X.ι):List (DV X)->Option (CT.T X.toSE c)
 |[d]=>Ma d c
 |_=>none
def NK(c:CT X.ι)(ds:List (DV X)):Option (CT.T X.toSE c):=
 match c with
 | .st i=>(EG ds (X.ej i)).bind λh=>some (X.make i h)
 |c=>mk1 c ds
def NX(r:List (DV X))(aa:Nat)(cs:List (DV X)):List (DV X):=r.take aa++cs++r.drop (aa+cs.length)
variable (T:eR) (code:TypeId->Option (CT X.ι))
def We(t:TypeId)(x:DV X)(get:Nat->Option (b7 X))(k:KK X A):Option A:=
 (T t).bind λti=>match x with
 | .ptr kk row aa=>(get kk).bind λo=>match o with
  | .cells _ rows=>(rows[row]?).bind λr=>(Iu ti.agg ti.size ((r.drop aa).take ti.size)).bind λv=>k v [] [kk] []
  |_=>none
 | .sk kk n aa=>(get kk).bind λo=>match o with
  | .eM c l=>(bj l n).bind λy=>(SO ti.agg ti.size c y aa).bind λv=>k v [] [kk] []
  |_=>none
 | .rp c y aa=>(SO ti.agg ti.size c y aa).bind λv=>k v [] [] []
 |_=>none
def VC(t:TypeId)(x y:DV X)(get:Nat->Option (b7 X))(k:KK X A):Option A:=
 (T t).bind λti=>(cellsD y).bind λcs=>if cs.length=ti.size then match x with
 | .ptr kk row aa=>(get kk).bind λo=>match o with
  | .cells sz rows=>(rows[row]?).bind λr=>if aa+cs.length<=r.length then k .undef [(kk,some (.cells sz (rows.set row (NX r aa cs))))] [kk] [kk]else none
  |_=>none
 | .sk kk n aa=>(get kk).bind λo=>match o with
  | .eM c l=>(bj l n).bind λy=>if aa+cs.length<=CT.sz X c then(NK c (NX (vQ c y) aa cs)).bind λz=>k .undef [(kk,some (.eM c (l.set n.toNat z)))] [kk] [kk]else none
  |_=>none
 |_=>none else none
def Mc(t:TypeId)(x:DV X)(f:Nat)(k:KK X A):Option A:=
 (Ap T t f).bind λp=>match x with
 | .ptr kk row aa=>k (.ptr kk row (aa+p.1)) [] [] []
 | .sk kk n aa=>k (.sk kk n (aa+p.1)) [] [] []
 | .rp c y aa=>k (.rp c y (aa+p.1)) [] [] []
 |_=>none
def ahn(t:TypeId)(x:DV X)(f:Nat)(k:KK X A):Option A:=
 (Ap T t f).bind λp=>match x with
 | .agg cs=>(Iu p.2.agg p.2.size ((cs.drop p.1).take p.2.size)).bind λv=>k v [] [] []
 | .c (.st i) y=>(Iu p.2.agg p.2.size (((vQ (.st i) y).drop p.1).take p.2.size)).bind λv=>k v [] [] []
 |_=>none
def Md(t:TypeId)(x j:DV X)(get:Nat->Option (b7 X))(k:KK X A):Option A:=
 (T t).bind λti=>match ti.k,j with
 | .slice e,.c (.int _) n=>(T e).bind λei=>match x with
  | .c (.sl c) l=>if CT.sz X c=ei.size then(bj l n).bind λy=>k (.rp c y 0) [] [] []else none
  | .own kk aa len=>(get kk).bind λo=>match o with
   | .eM c _=>if CT.sz X c=ei.size then bif cP n len then k (.sk kk ((aa:Int)+iN n) 0) [] [kk] []else none else none
   | .cells sz _=>if sz=ei.size then bif cP n len then k (.ptr kk (aa+n.toNat) 0) [] [kk] []else none else none
   | .map _ _ _=>none
  |_=>none
 | .arr m e,.c (.int _) n=>(T e).bind λei=>bif cP n m then match x with
  | .ptr kk row aa=>k (.ptr kk row (aa+n.toNat*ei.size)) [] [] []
  | .sk kk r aa=>k (.sk kk r (aa+n.toNat*ei.size)) [] [] []
  | .rp c y aa=>k (.rp c y (aa+n.toNat*ei.size)) [] [] []
  |_=>none
  else none
 |_,_=>none
def WG(x:DV X)(j:Nat)(k:KK X A):Option A:=
 match x with
 | .eI vs=>(vs[j]?).bind λv=>k v [] [] []
 |_=>none
def Iw(op:BinOp)(kd:IntKind)(a b:Int):(DV X)×Option Bool:=
 match op with
 | .add=>(.c (.int kd) (kd.wrap (a+b)),none)
 | .sub=>(.c (.int kd) (kd.wrap (a -b)),none)
 | .mul=>(.c (.int kd) (kd.wrap (a*b)),none)
 | .quo=>(.c (.int kd) (kd.wrap (a.tdiv b)),some (b !=0))
 | .rem=>(.c (.int kd) (a.tmod b),some (b !=0))
 | .and=>(.c (.int kd) (bits .and kd a b),none)
 | .or=>(.c (.int kd) (bits .or kd a b),none)
 | .xor=>(.c (.int kd) (bits .xor kd a b),none)
 | .andNot=>(.c (.int kd) (bits .andNot kd a b),none)
 | .shl=>(.c (.int kd) (kd.wrap (a*2 ^ b.toNat)),some (decide (0<=b)&&decide (b<=kd.bits)))
 | .shr=>(.c (.int kd) (a/2 ^ b.toNat),some (decide (0<=b)&&decide (b<=kd.bits)))
 | .eql=>(.c .bool (a==b),none)
 | .neq=>(.c .bool (a !=b),none)
 | .lss=>(.c .bool (decide (a<b)),none)
 | .leq=>(.c .bool (decide (a<=b)),none)
 | .gtr=>(.c .bool (decide (a>b)),none)
 | .geq=>(.c .bool (decide (a>=b)),none)
def acG:Nat->DV X->DV X->Option Bool
 | 0,.c (.int j) a,.c (.int k) b=>if j=k then some (iN a==iN b)else none
 | 1,.c .bool a,.c .bool b=>some (bN a==bN b)
 | 2,.c .str a,.c .str b=>some (a.toList==b.toList)
 |_,_,_=>none
def Iy:List Nat->List (DV X)->List (DV X)->Option Bool
 |[],[],[]=>some true
 |k::ks,x::xs,y::ys=>(acG k x y).bind λa=>(Iy ks xs ys).bind λb=>some (a&&b)
 |_,_,_=>none
def Re:DV X->Option (List (DV X))
 | .agg cs=>some cs
 | .c (.st i) y=>some (vQ (.st i) y)
 |_=>none
def apQ(op:BinOp)(t:TypeId)(x y:DV X)(k:KK X A):Option A:=
 match x,y with
 | .c (.int kd) a,.c (.int yk) b=>if kd=yk\/op= .shl\/op= .shr then match (Iw op kd a b:DV X×Option Bool).2 with
  |none=>k (Iw op kd a b).1 [] [] []
  |some g=>bif g then k (Iw op kd a b).1 [] [] []else none
  else none
 | .c .str a,.c .str b=>match op with
  | .eql=>k (.c .bool (a.toList==b.toList)) [] [] []
  | .neq=>k (.c .bool (!(a.toList==b.toList))) [] [] []
  | .lss=>k (.c .bool (WB a b)) [] [] []
  | .gtr=>k (.c .bool (!(WB a b || a.toList==b.toList))) [] [] []
  | .add=>bif WC a b then k (.c .str (a++b)) [] [] []else none
  |_=>none
 | .c .bool a,.c .bool b=>(T t).bind λti=>match ti.k,op with
  | .bool,.eql=>k (.c .bool (bN a==bN b)) [] [] []
  | .bool,.neq=>k (.c .bool (!(bN a==bN b))) [] [] []
  |_,_=>none
 |x,y=>(Re x).bind λxs=>(Re y).bind λys=>(T t).bind λti=>if ti.cmp=[]then none else(Iy ti.cmp xs ys).bind λb=>match op with
  | .eql=>k (.c .bool b) [] [] []
  | .neq=>k (.c .bool (!b)) [] [] []
  |_=>none
def UV(op:UnOp)(x:DV X)(k:KK X A):Option A:=
 match op,x with
 | .not,.c .bool b=>k (.c .bool (!b)) [] [] []
 | .neg,.c (.int kd) n=>k (.c (.int kd) (kd.wrap (0 -iN n))) [] [] []
 |_,_=>none
def J8(mx:Bool)(kd:IntKind):Int->List (DV X)->Option Int
 |a,[]=>some a
 |a,.c (.int k') b::r=>if k'=kd then J8 mx kd (if mx then max a b else min a b) r else none
 |_,_=>none
def PQ(mx:Bool)(args:List (DV X))(k:KK X A):Option A:=
 match args with
 | .c (.int kd) a::r=>(J8 mx kd a r).bind λn=>k (.c (.int kd) n) [] [] []
 |_=>none
def apR(t:TypeId)(x:DV X)(k:KK X A):Option A:=
 (T t).bind λti=>match ti.k,x with
 | .slice _,.c (.sl _) l=>k (.c (.int .i64) (l.length:Int)) [] [] []
 | .slice _,.own _ _ len=>k (.c (.int .i64) (len:Int)) [] [] []
 | .slice _,.oz _ len=>k (.c (.int .i64) (len:Int)) [] [] []
 | .slice _,.nil=>k (.c (.int .i64) (0:Int)) [] [] []
 | .str,.c .str s=>k (.c (.int .i64) (s.size:Int)) [] [] []
 |_,_=>none
def If(place:Nat->Option (Nat×Nat)):List (DV X)->List (Nat×DV X)->Option (List (DV X))
 |cells,[]=>some cells
 |cells,(j,x)::ae=>(place j).bind λp=>(cellsD x).bind λcs=>
  if cs.length=p.2/\p.1+cs.length<=cells.length then If place (NX cells p.1 cs) ae else none
def aho(t:TypeId)(parts:List (Nat×DV X))(k:KK X A):Option A:=
 (T t).bind λti=>match ti.k with
 | .struct fs=>if fs.all (λ p=>(T p.2).isSome)then
  (If (λ j=>(fs[j]?).bind λp=>(T p.2).bind λui=>some (p.1,ui.size)) (ti.zero.map xv) parts).bind λcells=>k (.agg cells) [] [] []else none
 | .arr _ e=>(T e).bind λei=>(If (λ j=>some (j*ei.size,ei.size)) (ti.zero.map xv) parts).bind λcells=>k (.agg cells) [] [] []
 |_=>none
def NO(c:CT X.ι):Nat->List (Nat×DV X)->Option (List (CT.T X.toSE c))
 |_,[]=>some []
 |n,(j,x)::r=>if j=n then(dat x c).bind λy=>(NO c (n+1) r).bind λl=>some (y::l)else none
def Iz(i:Nat)(t:TypeId)(len:Nat)(parts:List (Nat×DV X))(k:KK X A):Option A:=
 (T t).bind λti=>match ti.k with
 | .slice e=>(T e).bind λei=>(code e).bind λc=>if ei.size=0\/len*ei.size>2 ^ 24\/CT.sz X c≠ei.size\/parts.length≠len then none else
  (NO c 0 parts).bind λl=>k (.own (cC i) 0 len) [(cC i,some (.eM c l))] [] []
 |_=>none
def ahp(i:Nat)(e:TypeId)(k:KK X A):Option A:=
 (T e).bind λti=>k (.ptr (cC i) 0 0) [(cC i,some (.cells ti.size [ti.zero.map xv]))] [] []
def apS(i:Nat)(x:DV X)(k:KK X A):Option A:=
 (cellsD x).bind λcs=>k (.ptr (cC i) 0 0) [(cC i,some (.cells cs.length [cs]))] [] []
def B4(d:Int):Option (DV X)->Option Int
 |none=>some d
 |some (.c (.int _) n)=>some n
 |_=>none
def ahq(t:TypeId)(x:DV X)(lo hi:Option (DV X))(get:Nat->Option (b7 X))(k:KK X A):Option A:=
 (T t).bind λti=>match ti.k with
 | .slice e=>(T e).bind λei=>match x with
  | .own kk aa len=>(get kk).bind λo=>if (bM o).sz=ei.size then(B4 0 lo).bind λl=>(B4 len hi).bind λh=>
   bif y9 l h len then k (.own kk (aa+l.toNat) (h.toNat -l.toNat)) [] [kk] []else none else none
  | .c (.sl c) xs=>if CT.sz X c=ei.size then(B4 0 lo).bind λl=>(B4 xs.length hi).bind λh=>
   bif y9 l h xs.length then k (.c (.sl c) (sub xs l.toNat (h.toNat -l.toNat))) [] [] []else none else none
  |_=>none
 |_=>none
def apT(y:DV X)(c:CT X.ι)(get:Nat->Option (b7 X)):Option (Nat×List (CT.T X.toSE c)×List Nat):=
 match y with
 | .own kk aa len=>(get kk).bind λo=>match o with
  | .eM b l=>(lg (.sl b) (.sl c) l).bind λl=>some (len,sub l aa len,[kk])
  |_=>none
 | .c b l=>(lg b (.sl c) l).bind λ(l:List (CT.T X.toSE c))=>some (l.length,l,[])
 |_=>none
def WH{α:Type}:Nat->List α->List α
 | 0,l=>l
 |n+1,l=>l.drop (n+1)
def acH(i:Nat)(t:TypeId)(x y:DV X)(get:Nat->Option (b7 X))(k:KK X A):Option A:=
 (T t).bind λti=>match ti.k with
 | .slice e=>(T e).bind λei=>(code e).bind λc=>if CT.sz X c=ei.size then(apT y c get).bind λs=>match x with
  | .own kk aa len=>(get kk).bind λo=>match o with
   | .eM b l=>(lg (.sl b) (.sl c) l).bind λ(l:List (CT.T X.toSE c))=>bif bJ (WH aa l).length len s.2.1.length s.1 ei.bytes then iH (WH aa l++s.2.1) λr=>k (.own (cC i) 0 r.length) [(cC i,some (.eM c r)),(kk,none)] (kk::s.2.2) [kk]else none
   |_=>none
  | .nil=>bif bJ 0 0 s.2.1.length s.1 ei.bytes then iH s.2.1 λr=>k (.own (cC i) 0 r.length) [(cC i,some (.eM c r))] s.2.2 []else none
  |_=>none
  else none
 |_=>none
def WI(i:Nat)(b:Builtin)(args:List (DV X))(ej:List TypeId)(get:Nat->Option (b7 X))(k:KK X A):Option A:=
 match b,args,ej with
 | .len,[x],[t]=>apR T t x k
 | .max,args,_=>PQ true args k
 | .min,args,_=>PQ false args k
 | .append,[x,y],[t,u]=>if t=u then acH T code i t x y get k else none
 |_,_,_=>none
def PP(i:Nat)(o:Op)(ρ:Operand->DV X)(get:Nat->Option (b7 X))(k:KK X A):Option A:=
 match o with
 | .move x=>k (ρ x) [] [] []
 | .assign x=>k (ρ x) [] [] []
 | .pick c a b=>match ρ c with | .c .bool t=>k (ami t (ρ a) (ρ b)) [] [] [] |_=>none
 | .alloc e=>ahp T i e k
 | .box _ x=>apS i (ρ x) k
 | .build t parts=>aho T t (parts.toList.map λp=>(p.1,ρ p.2)) k
 | .buildSlice t len parts=>Iz T code i t len (parts.toList.map λp=>(p.1,ρ p.2)) k
 | .load t a=>We T t (ρ a) get k
 | .store t a x=>VC T t (ρ a) (ρ x) get k
 | .binOp op t x y _=>apQ T op t (ρ x) (ρ y) k
 | .unOp op _ x=>UV op (ρ x) k
 | .makeFunc (.func f) first caps=>k (.fn f (first.toList.map ρ) (caps.toList.map ρ)) [] [] []
 | .slice t x lo hi none=>ahq T t (ρ x) (lo.map ρ) (hi.map ρ) get k
 | .fieldAddr t x f=>Mc T t (ρ x) f k
 | .field t x f=>ahn T t (ρ x) f k
 | .indexAddr t x j=>Md T t (ρ x) (ρ j) get k
 | .extract x j=>WG (ρ x) j k
 | .call { callee:= .builtin b,args:=args,argTypes:=ej }=>WI T code i b (args.toList.map ρ) ej.toList get k
 |_=>none
end
section
variable {X:SX} {A:Type} {T:eR} {code:TypeId->Option (CT X.ι)} {get:Nat->Option (b7 X)} {k:KK X A} {r:A} {i:Nat}
def fD(get:Nat->Option (b7 X)):Nat->Option aN:=λj=>(get j).map bM
theorem eY{rd:List Nat}{j:Nat}{o:b7 X}(hj:j∈rd)(h:get j=some o):dI rd (fD get) j=some (bM o):=by simp[dI,hj,fD,h]
theorem lT(l:List (DV X)):(bI l).length=l.length:=by simp[oP]
theorem kG(l:List (DV X))(a b:Nat):bI ((l.drop a).take b)=((bI l).drop a).take b:=by simp[oP]
theorem NN{α:Type}{l:List α}{n:Int}{x:α}(h:bj l n=some x):0<=n/\l[n.toNat]? =some x:=by
 unfold bj at h
 all_goals grind
theorem akp(t:Bool)(x y:DV X):den (ami t x y)=PA t (den x) (den y):=by
 rw[VU];have base:∀x y:DV X,den (bif t then x else y)=if t=true then den x else den y:=λx y=>by cases t<;>rfl
 unfold ami;split;split;rename_i h _;subst h;cases t<;>rfl;exact base _ _;exact base _ _
theorem C8{agg:Bool}{size:Nat}{cs:List (DV X)}{v:DV X}(h:Iu agg size cs=some v):part' agg size (bI cs)=some (den v):=by
 unfold Iu at h;unfold part';rw[lT];split at h;rename_i hl;rw[aU hl];cases agg with
 |true=>simp at h ⊢;subst h;rfl
 |false=>
  simp at h ⊢
  match cs,h with
  |[x],h=>
   simp only at h;split at h;rename_i hx;cases h;simp only[bI];rw[aU (SK hx)];cases h
  |[],h |_::_::_,h=>cases h
 cases h
theorem Qw{agg:Bool}{size aa:Nat}{c:CT X.ι}{y:CT.T X.toSE c}{v:DV X}(h:Iu agg size (((vQ c y).drop aa).take size)=some v):part' agg size ((((CT.row X.toSE c y).drop aa).take size).map AV.t)=some (den v):=by have:=C8 h;rw[kG,qd]at this;rw[<- this,map_take,map_drop]
theorem aa9{agg:Bool}{size aa:Nat}{c:CT X.ι}{y:CT.T X.toSE c}{v:DV X}(h:SO agg size c y aa=some v):part' agg size ((((CT.row X.toSE c y).drop aa).take size).map AV.t)=some (den v):=by
 cases c
 case st j=>
  simp[SO]at h;split at h;rename_i hh;obtain⟨rfl,rfl,rfl⟩:=hh;cases h;have hl:(CT.row X.toSE (.st j) y).length=(X.ej j).length:=Ir (.st j) y;rw[List.drop_zero,take_of_length_le (by omega)];unfold part';rw[aU (by simpa using hl)];rfl;exact Qw h
 all_goals exact Qw h
theorem akq{t:TypeId}{x:DV X}(h:We T t x get k=some r):∃cM rd dv out,Lm T t (den x) cM (dI rd (fD get))=some out/\iT out.obs/\out.v=den dv/\out.upd=[]/\k dv [] rd []=some r:=by unfold We at h;unfold Lm;rw[ah]at h;obtain⟨ti,h1,h⟩:=h;simp only[h1,ai];split at h;rename_i kk row aa;rw[ah]at h;obtain⟨o,h2,h⟩:=h;split at h;rw[ah]at h;obtain⟨rw',h3,h⟩:=h;rw[ah]at h;obtain⟨v,h4,h⟩:=h;refine⟨.none,[kk],v,⟨den v,[],[]⟩,?_,trivial,rfl,rfl,h⟩;have h5:=C8 h4;rw[kG]at h5;simp[den,eY (List.mem_singleton_self kk) h2,bM,h3,h5,pv];cases h;rename_i kk n aa;rw[ah]at h;obtain⟨o,h2,h⟩:=h;split at h;rename_i c l;rw[ah]at h;obtain⟨y,h3,h⟩:=h;rw[ah]at h;obtain⟨v,h4,h⟩:=h;have⟨_,h6⟩:=NN h3;refine⟨.row ((CT.row X.toSE c y).map AV.t),[kk],v,⟨den v,[],[(aK (l.map (CT.row X.toSE c)))[n.toNat]? =some ((CT.row X.toSE c y).map AV.t)]⟩,?_,?_,rfl,rfl,h⟩;have h5:=aa9 h4;rw[map_take,map_drop]at h5;simp[den,eY (List.mem_singleton_self kk) h2,bM,h5,oc];simp[iT,aK,h6];cases h;rename_i c y aa;have⟨v,h4,h⟩:=ah.1 h;refine⟨.none,[],v,⟨den v,[],[]⟩,?_,trivial,rfl,rfl,h⟩;simp only[den,aa9 h4,ai,pv];cases h
theorem WJ(a:List (DV X))(aa:Nat)(cs:List (DV X)):bI (NX a aa cs)=put' (bI a) aa (bI cs):=by simp[NX,put',oP]
theorem pF{a c:CT X.ι}{x:CT.T X.toSE a}{y:CT.T X.toSE c}(h:lg a c x=some y):den (.c a x)=den (.c c y)/\CT.row X.toSE a x=CT.row X.toSE c y:=by
 obtain⟨e,h⟩:=sK h
 grind
theorem T2{c:CT X.ι}(hc:c.one=true)(x:CT.T X.toSE c):[(CT.tv X.toSE c x).av]=(CT.row X.toSE c x).map AV.t:=by obtain⟨t,h1,h2⟩:=row_one hc x;rw[h1,h2];rfl
theorem apw{c:CT X.ι}(x:CT.T X.toSE c):wk (CT.tv X.toSE c x).av=(CT.tv X.toSE c x).av:=by cases c<;>rfl
theorem wW{d:DV X}{c:CT X.ι}{x:CT.T X.toSE c}(h:Ma d c=some x):wk (den d)=(CT.tv X.toSE c x).av:=by unfold Ma at h;split at h;rw[(pF h).1];exact apw x;cases h;rfl;cases h;rfl;cases h
theorem ajj{d:DV X}{c:CT X.ι}{x:CT.T X.toSE c}(hc:c.one=true)(h:Ma d c=some x):wI d=true:=by
 cases d
 case c a y=>
  obtain⟨e,_⟩:=sK (show lg a c y=some x by cases c<;>exact h);subst e;cases a<;>first |rfl |simp[CT.one]at hc
 case nil=>rfl
 all_goals cases c<;>cases h
theorem za:∀{ds:List (DV X)}{l:List (CT X.ι)}{h:HL X.toSE l},EG ds l=some h->l.all CT.one=true->(bI ds).map wk=(HL.row X.toSE l h).map AV.t/\ds.all wI=true
 |[],[],h,_,_=>⟨rfl,rfl⟩
 |d::ds,c::l,h,hr,ha=>by simp[EG]at hr;have⟨x,h1,hr⟩:=ah.1 hr;have⟨g,h2,hr⟩:=ah.1 hr;cases hr;simp only[all_cons,aY]at ha ⊢;have⟨i1,i2⟩:=za h2 ha.2;simp[bI,HL.row,i1,wW h1,i2,ajj ha.1 h1];simp[<- T2 ha.1 x]
 |[],_::_,_,hr,_ |_::_,[],_,hr,_=>by simp[EG]at hr
theorem WK(j:X.ι)(h:HL X.toSE (X.ej j)):CT.row X.toSE (.st j) (X.make j h)=HL.row X.toSE (X.ej j) h:=X.ik j h
theorem aot{c:CT X.ι}(hc:c.one=true){ds:List (DV X)}{x:CT.T X.toSE c}(h:mk1 c ds=some x):(bI ds).map wk=(CT.row X.toSE c x).map AV.t:=by
 match ds,h with
 |[d],h=>
  rw[<- T2 hc x];simp[bI,wW h]
 |[],h |_::_::_,h=>cases h
theorem yR{c:CT X.ι}{ds:List (DV X)}{x:CT.T X.toSE c}(h:NK c ds=some x):(bI ds).map wk=(CT.row X.toSE c x).map AV.t:=by
 cases c
 case st j=>
  simp[NK]at h;have⟨g,h1,h⟩:=ah.1 h;cases h;rw[(za h1 (X.flat j)).1,WK]
 all_goals exact aot rfl h
theorem ahr{d:DV X}{c:CT X.ι}(hc:c.one=true){x:CT.T X.toSE c}(h:Ma d c=some x):∃cs,cellsOf (den d)=some cs/\cs.map wk=(CT.row X.toSE c x).map AV.t:=by
 have hk:=ajj hc h;have hd:=wW h;have he:cellsOf (den d)=some [den d]:=by
  have:=EF (x:=d) (cs:=[d]) (by
   cases d
   case c t y=>cases t<;>first |rfl |simp[wI]at hk
   all_goals first |rfl |simp[wI]at hk)
  simpa[bI]using this
 exact⟨_,he,by rw[<- T2 hc x];simp[hd]⟩
theorem akr{d:DV X}{c:CT X.ι}{x:CT.T X.toSE c}(h:dat d c=some x):∃cs,cellsOf (den d)=some cs/\cs.map wk=(CT.row X.toSE c x).map AV.t:=by
 cases c
 case st j=>
  replace h:GP d j=some x:=h
  cases d
  case agg cs=>
   simp[GP]at h;rw[ah]at h;obtain⟨g,h1,h⟩:=h;cases h;have⟨i1,i2⟩:=za h1 (X.flat j);refine⟨bI cs,?_,by rw[i1,WK]⟩;simp only[den,cellsOf];rw[aU (ajg i2)]
  case c a y=>
   rw[(pF h).1];refine⟨(CT.row X.toSE (.st j) x).map AV.t,?_,?_⟩;show cellsOf (.agg _)=_;simp only[cellsOf];rw[aU];rfl;rw[List.all_map,all_eq_true];exact λ_ _=>rfl;rw[map_map];rfl
  all_goals cases h
 all_goals exact ahr rfl h
theorem aks{t:TypeId}{x y:DV X}(h:VC T t x y get k=some r):∃cM kk u out,VK T t (den x) (den y) cM (dI [kk] (fD get))=some out/\iT out.obs/\out.v= .undef/\out.upd=iU [(kk,u)]/\k .undef [(kk,u)] [kk] [kk]=some r:=by
 unfold VC at h;unfold VK;rw[ah]at h;obtain⟨ti,h1,h⟩:=h;rw[ah]at h;obtain⟨cs,h2,h⟩:=h;simp[h1,EF h2];split at h;rename_i hl;have hdl:(bI cs).length=ti.size:=by rw[lT];exact hl
 simp[hdl];split at h;rename_i kk row aa;rw[ah]at h;obtain⟨o,h3,h⟩:=h;split at h;rw[ah]at h;obtain⟨rw',h4,h⟩:=h;split at h;rename_i hle;refine⟨.none,kk,_,⟨.undef,_,[]⟩,?_,trivial,rfl,rfl,h⟩;simp only[den,eY (List.mem_singleton_self kk) h3,ai,bM,List.getElem?_map,h4,Option.map_some,lT];rw[aU (by rw[<- hl];exact hle)];simp[WJ];cases h;cases h;rename_i kk n aa;rw[ah]at h;obtain⟨o,h3,h⟩:=h;split at h;rename_i c l;rw[ah]at h;obtain⟨z,h4,h⟩:=h;split at h;rename_i hle;have⟨z',h5,h⟩:=ah.1 h;have⟨_,h6⟩:=NN h4;refine⟨.set ((CT.row X.toSE c z).map AV.t) (aK ((l.set n.toNat z').map (CT.row X.toSE c))),kk,_,⟨.undef,_,[(aK (l.map (CT.row X.toSE c)))[n.toNat]? =some ((CT.row X.toSE c z).map AV.t)/\aK ((l.set n.toNat z').map (CT.row X.toSE c))=dS ((aK (l.map (CT.row X.toSE c))).set n.toNat (put' ((CT.row X.toSE c z).map AV.t) aa (bI cs)))]⟩,?_,?_,rfl,rfl,h⟩;simp only[den,eY (List.mem_singleton_self kk) h3,ai,bM];rw[aU (by rw[length_map,Ir,<- hl];exact hle)];simp[bM];refine⟨by simp[aK,h6],?_⟩;have h7:=yR h5;rw[WJ,qd]at h7;have hid:dS (aK (l.map (CT.row X.toSE c)))=aK (l.map (CT.row X.toSE c)):=by simp[dS,aK,wk]
 simp[dS,h7];have:(aK (l.map (CT.row X.toSE c))).map (List.map wk)=aK (l.map (CT.row X.toSE c)):=hid;rw[this];simp[aK];cases h;cases h;cases h;cases h
theorem Qx{t:TypeId}{x:DV X}{f:Nat}(h:Mc T t x f k=some r):∃dv out,yY T t (den x) f=some out/\iT out.obs/\out.v=den dv/\out.upd=[]/\k dv [] [] []=some r:=by unfold Mc at h;unfold yY;rw[ah]at h;obtain⟨⟨d,u⟩,h1,h⟩:=h;simp[h1];split at h;exact⟨_,_,rfl,trivial,rfl,rfl,h⟩;exact⟨_,_,rfl,trivial,rfl,rfl,h⟩;exact⟨_,_,rfl,trivial,rfl,rfl,h⟩;cases h
theorem acJ{t:TypeId}{x:DV X}{f:Nat}(h:ahn T t x f k=some r):∃dv out,VL T t (den x) f=some out/\iT out.obs/\out.v=den dv/\out.upd=[]/\k dv [] [] []=some r:=by unfold ahn at h;unfold VL;rw[ah]at h;obtain⟨⟨d,u⟩,h1,h⟩:=h;simp[h1];split at h;rw[ah]at h;obtain⟨v,h2,h⟩:=h;have h3:=C8 h2;rw[kG]at h3;exact⟨v,⟨den v,[],[]⟩,by simp[den,h3,pv],trivial,rfl,rfl,h⟩;rename_i j y;have⟨v,h2,h⟩:=ah.1 h;have h3:=Qw h2;rw[map_take,map_drop]at h3;refine⟨v,⟨den v,[],[]⟩,?_,trivial,rfl,rfl,h⟩;show(part' u.agg u.size (List.take u.size (List.drop d ((CT.row X.toSE (.st j) y).map AV.t)))).bind pv=_;rw[h3];rfl;cases h
theorem dW{α:Type}{b:Bool}{x:Option α}{r:α}(h:(bif b then x else none)=some r):b=true/\x=some r:=by grind
theorem WL{n:Int}{len:Nat}(h:cP n len=true):0<=n/\n.toNat<len:=by simp[cP]at h;omega
theorem qG{A:Type}:∀{cs:List Bool}{k:Option A}{r:A},WE cs k=some r->(∀ c∈cs,c=true)/\k=some r
 |[],_,_,h=>⟨by simp,h⟩
 |c::cs,k,r,h=>by have⟨h1,h2⟩:=dW h;have⟨h3,h4⟩:=qG h2;exact⟨λ x hx=>(aI.1 hx).elim (λ e=>e ▸ h1) (h3 x),h4⟩
theorem Qy{t:TypeId}{x j:DV X}(h:Md T t x j get k=some r):∃cM rd dv out,mX T t (den x) (den j) cM (dI rd (fD get))=some out/\iT out.obs/\out.v=den dv/\out.upd=[]/\k dv [] rd []=some r:=by unfold Md at h;unfold mX;rw[ah]at h;obtain⟨ti,h1,h⟩:=h;simp[h1];split at h;rename_i e kd n hk;rw[ah]at h;obtain⟨ei,h2,h⟩:=h;simp[hk,den,CT.tv,TV.av,h2];split at h;rename_i c l;split at h;rename_i hs;rw[ah]at h;obtain⟨y,h3,h⟩:=h;have⟨h4,h5⟩:=NN h3;refine⟨.tS (CT.row X.toSE c y),[],_,⟨.ff (CT.row X.toSE c y) 0,[],[0<=n/\(l.map (CT.row X.toSE c))[n.toNat]? =some (CT.row X.toSE c y)]⟩,?_,?_,rfl,rfl,h⟩;simp only[den,CT.tv,TV.av];rw[aU (by rw[Ir];exact hs)];rfl;exact⟨h4,by simp[h5]⟩;cases h;rename_i kk aa len;rw[ah]at h;obtain⟨o,h3,h⟩:=h;split at h;rename_i c l;split at h;rename_i hs;have⟨h4,h⟩:=dW h;have⟨h5,h6⟩:=WL h4;refine⟨.none,[kk],_,⟨.ptr kk (aa+n.toNat) 0,[],[0<=n/\n.toNat<len]⟩,?_,⟨h5,h6⟩,?_,rfl,h⟩;simp only[den,eY (List.mem_singleton_self kk) h3,ai,bM];rw[aU hs];rfl;simp[iN];congr 1;have:(0:Int)<=n:=h5;omega;cases h;rename_i sz rows;split at h;rename_i hs;have⟨h4,h⟩:=dW h;have⟨h5,h6⟩:=WL h4;refine⟨.none,[kk],_,⟨.ptr kk (aa+n.toNat) 0,[],[0<=n/\n.toNat<len]⟩,?_,⟨h5,h6⟩,rfl,rfl,h⟩;simp only[den,eY (List.mem_singleton_self kk) h3,ai,bM];rw[aU hs];rfl;cases h;cases h;cases h;rename_i m e kd n hk;have⟨ei,h2,h⟩:=ah.1 h;simp[hk,den,CT.tv,TV.av,h2];have⟨h4,h⟩:=dW h;have⟨h5,h6⟩:=WL h4;split at h;exact⟨.none,[],_,_,rfl,⟨h5,h6⟩,rfl,rfl,h⟩;exact⟨.none,[],_,_,rfl,⟨h5,h6⟩,rfl,rfl,h⟩;exact⟨.none,[],_,_,rfl,⟨h5,h6⟩,rfl,rfl,h⟩;cases h;cases h
theorem WM{x:DV X}{j:Nat}(h:WG x j k=some r):∃dv out,Ig (den x) j=some out/\iT out.obs/\out.v=den dv/\out.upd=[]/\k dv [] [] []=some r:=by unfold WG at h;split at h;have⟨v,h2,h⟩:=ah.1 h;refine⟨v,⟨den v,[],[]⟩,?_,trivial,rfl,rfl,h⟩;simp[Ig,den,oP,h2,pv];cases h
end
section
variable {X:SX} {A:Type} {T:eR} {code:TypeId->Option (CT X.ι)} {get:Nat->Option (b7 X)} {k:KK X A} {r:A} {i:Nat}
theorem acK{op:BinOp}{kd:IntKind}{a b:Int}:∃v obs,VJ op kd a b=some (v,obs)/\den (Iw (X:=X) op kd a b).1= .t (.sc v)/\(∀ g,(Iw (X:=X) op kd a b).2=some g->g=true->iT obs)/\((Iw (X:=X) op kd a b).2=none->iT obs):=by
 cases op<;>refine⟨_,_,rfl,rfl,λg hg ht=>?_,λhn=>?_⟩<;>simp[Iw]at* <;>try trivial
 all_goals subst hg;simp_all [iT]
theorem aez{n:Nat}{x y:DV X}{b:Bool}(h:acG n x y=some b):Ie n (den x) (den y)=some b:=by unfold acG at h;split at h;split at h;cases h;simp only[den,CT.tv,TV.av,Ie];rw[aU ‹_›];cases h;exact h;exact h;cases h
theorem NP:∀{ks:List Nat}{xs ys:List (DV X)}{b:Bool},Iy ks xs ys=some b->jb ks (bI xs) (bI ys)=some b
 |[],[],[],b,h=>h
 |k::ks,x::xs,y::ys,b,h=>by simp[Iy]at h;rw[ah]at h;obtain⟨p,h1,h⟩:=h;rw[ah]at h;obtain⟨q,h2,h⟩:=h;simp[bI,jb,aez h1,NP h2,h]
 |[],_::_,_,_,h |[],[],_::_,_,h |_::_,[],_,_,h |_::_,_::_,[],_,h=>by simp[Iy]at h
theorem aeA{x:DV X}{xs:List (DV X)}(h:Re x=some xs):den x= .agg (bI xs):=by unfold Re at h;split at h;cases h;rfl;cases h;rw[qd];rfl;cases h
theorem ahs{op:BinOp}{t:TypeId}{x y:DV X}(h:apQ T op t x y k=some r):∃dv out,ZC T op t (den x) (den y)=some out/\iT out.obs/\out.v=den dv/\out.upd=[]/\k dv [] [] []=some r:=by
 unfold apQ at h;split at h;rename_i kd a yk b;split at h;rename_i hk;have⟨v,obs,h1,h2,h3,h4⟩:=acK (X:=X) (op:=op) (kd:=kd) (a:=a) (b:=b);have fin:iT obs->k (Iw op kd a b).1 [] [] []=some r->∃dv out,ZC T op t (den (.c (.int kd) a:DV X)) (den (.c (.int yk) b:DV X))=some out/\iT out.obs/\out.v=den dv/\out.upd=[]/\k dv [] [] []=some r:=by intro ho hkk;refine⟨_,⟨.t (.sc v),[],obs⟩,?_,ho,h2.symm,rfl,hkk⟩;simp only[den,CT.tv,TV.av,ZC];rw[aU hk,h1];rfl
 split at h;rename_i hn;exact fin (h4 hn) h;rename_i g hg;have⟨hgt,h⟩:=dW h;exact fin (h3 g hg hgt) h;cases h;split at h;exact⟨_,_,rfl,trivial,rfl,rfl,h⟩;exact⟨_,_,rfl,trivial,rfl,rfl,h⟩;exact⟨_,_,rfl,trivial,rfl,rfl,h⟩;exact⟨_,_,rfl,trivial,rfl,rfl,h⟩;have⟨hc,h⟩:=dW h;exact⟨_,_,rfl,show _<=maxLen from of_decide_eq_true hc,rfl,rfl,h⟩;cases h;rw[ah]at h;obtain⟨ti,h1,h⟩:=h;split at h;rename_i hk;refine⟨_,⟨.t (.sc (.bool _)),[],[]⟩,?_,trivial,rfl,rfl,h⟩;simp[ZC,h1,hk];rfl;rename_i hk;refine⟨_,⟨.t (.sc (.bool _)),[],[]⟩,?_,trivial,rfl,rfl,h⟩;simp[ZC,h1,hk];rfl;cases h;rw[ah]at h;obtain⟨xs,h1,h⟩:=h;rw[ah]at h;obtain⟨ys,h2,h⟩:=h;rw[ah]at h;obtain⟨ti,h3,h⟩:=h;split at h;cases h;rename_i hc;have⟨b,h4,h⟩:=ah.1 h;have h5:=NP h4;rw[aeA h1,aeA h2];split at h;refine⟨_,⟨.t (.sc (.bool b)),[],[]⟩,?_,trivial,rfl,rfl,h⟩;simp only[ZC,h3,ai];rw[aP hc,h5];rfl;refine⟨_,⟨.t (.sc (.bool (!b))),[],[]⟩,?_,trivial,rfl,rfl,h⟩;simp only[ZC,h3,ai];rw[aP hc,h5];rfl;cases h
theorem akt{op:UnOp}{x:DV X}(h:UV op x k=some r):∃dv out,T7 op (den x)=some out/\iT out.obs/\out.v=den dv/\out.upd=[]/\k dv [] [] []=some r:=by unfold UV at h;split at h;exact⟨_,_,rfl,trivial,rfl,rfl,h⟩;exact⟨_,_,rfl,trivial,rfl,rfl,h⟩;cases h
theorem SL(mx:Bool)(kd:IntKind):∀(l:List (DV X))(a n:Int),J8 mx kd a l=some n->Eu mx kd a (bI l)=some n
 |[],a,n,h=>h
 |x::l,a,n,h=>by
  cases x
  case c t y=>
   cases t
   case int k'=>
    simp only[J8]at h;simp only[bI,den,CT.tv,TV.av,Eu];split at h;rename_i hk;rw[aU hk];exact SL mx kd l _ _ h;cases h
   all_goals simp[J8]at h
  all_goals simp[J8]at h
theorem abb{mx:Bool}{args:List (DV X)}(h:PQ mx args k=some r):∃dv out,In mx (bI args)=some out/\iT out.obs/\out.v=den dv/\out.upd=[]/\k dv [] [] []=some r:=by unfold PQ at h;split at h;rename_i kd a l;rw[ah]at h;obtain⟨n,h1,h⟩:=h;refine⟨_,⟨.t (.sc (.int kd n)),[],[]⟩,?_,trivial,rfl,rfl,h⟩;simp[bI,den,CT.tv,TV.av,In];have:=SL mx kd l a n h1;simp[this];rfl;cases h
theorem aht{t:TypeId}{x:DV X}(h:apR T t x k=some r):∃cM dv out,Cl T t (den x) cM=some out/\iT out.obs/\out.v=den dv/\out.upd=[]/\k dv [] [] []=some r:=by unfold apR at h;unfold Cl;rw[ah]at h;obtain⟨ti,h1,h⟩:=h;simp[h1];split at h;rename_i e c l hk;simp[hk];exact⟨.num (l.length:Int),_,⟨.t (.sc (.int .i64 (l.length:Int))),[],[(l.length:Int)=((l.map (CT.row X.toSE c)).length:Int)]⟩,rfl,by simp[iT],rfl,rfl,h⟩;rename_i hk;simp[hk];exact⟨.none,_,_,rfl,trivial,rfl,rfl,h⟩;rename_i hk;simp[hk];exact⟨.none,_,_,rfl,trivial,rfl,rfl,h⟩;rename_i hk;simp[hk];exact⟨.none,_,_,rfl,trivial,rfl,rfl,h⟩;rename_i hk;simp[hk];exact⟨.none,_,_,rfl,trivial,rfl,rfl,h⟩;cases h
theorem Qz(place:Nat->Option (Nat×Nat)):∀(parts:List (Nat×DV X))(cells out:List (DV X)),If place cells parts=some out->Gc place (bI cells) (parts.map λp=>(p.1,den p.2))=some (bI out)
 |[],cells,out,h=>by simp[If]at h;subst h;rfl
 |(j,x)::ae,cells,out,h=>by simp[If]at h;rw[ah]at h;obtain⟨⟨aa,size⟩,h1,h⟩:=h;rw[ah]at h;obtain⟨cs,h2,h⟩:=h;split at h;rename_i hl;simp only[bG,Gc,h1,EF h2,ai,lT];rw[aU hl,<- WJ];exact Qz place ae _ _ h;cases h
theorem acL{t:TypeId}{parts:List (Nat×DV X)}(h:aho T t parts k=some r):∃dv out,VN T t (parts.map λp=>(p.1,den p.2))=some out/\iT out.obs/\out.v=den dv/\out.upd=[]/\k dv [] [] []=some r:=by unfold aho at h;unfold VN;rw[ah]at h;obtain⟨ti,h1,h⟩:=h;simp[h1];split at h;rename_i fs hk;split at h;rename_i ha;rw[ah]at h;obtain⟨cells,h2,h⟩:=h;have h3:=Qz _ _ _ _ h2;rw[CZ]at h3;refine⟨_,⟨.agg (bI cells),[],[]⟩,?_,trivial,rfl,rfl,h⟩;simp only[hk];rw[aU ha,h3];rfl;cases h;rename_i m e hk;rw[ah]at h;obtain⟨ei,h2,h⟩:=h;rw[ah]at h;obtain⟨cells,h3,h⟩:=h;have h4:=Qz _ _ _ _ h3;rw[CZ]at h4;refine⟨_,⟨.agg (bI cells),[],[]⟩,?_,trivial,rfl,rfl,h⟩;simp[hk,h2,h4];rfl;cases h
theorem abd(size:Nat)(c:CT X.ι)(hs:CT.sz X c=size)(z:List AV):∀(parts:List (Nat×DV X))(n:Nat)(l:List (CT.T X.toSE c))(done:List (List AV)),NO c n parts=some l->done.length=n->
 ∃css:List (List AV),Nn size (done++List.replicate parts.length z) (parts.map λp=>(p.1,den p.2))=some (done++css)/\css.map (λ r=>r.map wk)=aK (l.map (CT.row X.toSE c))
 |[],n,l,done,h,_=>by simp[NO]at h;subst h;exact⟨[],by simp[Nn],rfl⟩
 |(j,x)::ae,n,l,done,h,hd=>by
  simp only[NO]at h;split at h;rename_i hj;subst hj;have⟨y,h1,h⟩:=ah.1 h;have⟨l',h2,h⟩:=ah.1 h;cases h;have⟨cs,g1,g2⟩:=akr h1;have hl:cs.length=size:=by have:=congrArg List.length g2;simp[Ir]at this;omega
  obtain⟨css,i1,i2⟩:=abd size c hs z ae (j+1) l' (done++[cs]) h2 (by simp[hd]);refine⟨cs::css,?_,?_⟩;simp only[bG,Nn,g1,ai];rw[aU ⟨hl,by simp;omega⟩];have:(done++List.replicate (ae.length+1) z).set j cs=done++[cs]++List.replicate ae.length z:=by rw[List.set_append_right _ _ (by omega),hd];simp[List.replicate_succ]
  simp only[eD,this,i1];simp;simp[i2,g2,aK];cases h
theorem NQ{t:TypeId}{len:Nat}{parts:List (Nat×DV X)}(h:Iz T code i t len parts k=some r):∃dv u out,wV T i t len (parts.map λp=>(p.1,den p.2))=some out/\iT out.obs/\out.v=den dv/\out.upd=iU [(cC i,u)]/\k dv [(cC i,u)] [] []=some r:=by unfold Iz at h;unfold wV;rw[ah]at h;obtain⟨ti,h1,h⟩:=h;simp[h1];split at h;rename_i e hk;rw[ah]at h;obtain⟨ei,h2,h⟩:=h;rw[ah]at h;obtain⟨c,h3,h⟩:=h;simp only[hk,h2,ai];split at h;cases h;rename_i hno;simp only[not_or,Decidable.not_not]at hno;obtain⟨n1,n2,n3,n4⟩:=hno;have⟨l,h4,h⟩:=ah.1 h;have⟨css,g1,g2⟩:=abd ei.size c n3 (ei.zero.map cv) parts 0 l [] h4 rfl;simp[n4]at g1;refine⟨_,_,⟨.own (cC i) 0 len,[(cC i,some ⟨ei.size,dS css⟩)],[]⟩,?_,trivial,rfl,?_,h⟩;rw[aP (by simp only[not_or];exact⟨n1,n2⟩),g1];rfl;simp[iU,bM,n3];rw[show dS css=aK (l.map (CT.row X.toSE c))from g2];cases h
theorem acM{e:TypeId}(h:ahp T i e k=some r):∃dv u out,VO T i e=some out/\iT out.obs/\out.v=den dv/\out.upd=iU [(cC i,u)]/\k dv [(cC i,u)] [] []=some r:=by unfold ahp at h;unfold VO;have⟨ti,h1,h⟩:=ah.1 h;exact⟨_,_,⟨_,[(cC i,some ⟨ti.size,[ti.zero.map cv]⟩)],[]⟩,by simp[h1];rfl,trivial,rfl,by simp[iU,bM,CZ],h⟩
theorem ahu{x:DV X}(h:apS i x k=some r):∃dv u out,N4 i (den x)=some out/\iT out.obs/\out.v=den dv/\out.upd=iU [(cC i,u)]/\k dv [(cC i,u)] [] []=some r:=by unfold apS at h;unfold N4;rw[ah]at h;obtain⟨cs,h1,h⟩:=h;exact⟨_,_,⟨_,[(cC i,some ⟨(bI cs).length,[bI cs]⟩)],[]⟩,by simp[EF h1];rfl,trivial,rfl,by simp[iU,bM,lT],h⟩
theorem C9{d n:Int}{x:Option (DV X)}(h:B4 d x=some n):bnd d (x.map den)=some n:=by unfold B4 at h;split at h;exact h;exact h;cases h
theorem abe{l h:Int}{len:Nat}(hh:y9 l h len=true):0<=l/\l<=h/\h<=(len:Int):=by simpa[y9,and_assoc]using hh
theorem acN{t:TypeId}{x:DV X}{lo hi:Option (DV X)}(h:ahq T t x lo hi get k=some r):∃cM rd dv out,VP T t (den x) (lo.map den) (hi.map den) cM (dI rd (fD get))=some out/\iT out.obs/\out.v=den dv/\out.upd=[]/\k dv [] rd []=some r:=by
 unfold ahq at h;unfold VP;rw[ah]at h;obtain⟨ti,h1,h⟩:=h;simp[h1];split at h;rename_i e hk;rw[ah]at h;obtain⟨ei,h2,h⟩:=h;simp[hk,h2];split at h;rename_i kk aa len;rw[ah]at h;obtain⟨o,h3,h⟩:=h;split at h;rename_i hs;rw[ah]at h;obtain⟨l,h4,h⟩:=h;rw[ah]at h;obtain⟨hh,h5,h⟩:=h;have⟨h6,h⟩:=dW h;refine⟨.none,[kk],_,⟨.own kk (aa+l.toNat) (hh.toNat -l.toNat),[],[0<=l/\l<=hh/\hh<=(len:Int)]⟩,?_,abe h6,rfl,rfl,h⟩;simp only[den,eY (List.mem_singleton_self kk) h3,ai];rw[aU hs,C9 h4,ai,C9 h5];rfl;cases h;rename_i c xs;split at h;rename_i hs;have⟨l,h4,h⟩:=ah.1 h;have⟨hh,h5,h⟩:=ah.1 h;have⟨h6,h⟩:=dW h;refine⟨.CD ((sub xs l.toNat (hh.toNat -l.toNat)).map (CT.row X.toSE c)),[],_,⟨.t (.sl ((sub xs l.toNat (hh.toNat -l.toNat)).map (CT.row X.toSE c))),[],[0<=l/\l<=hh/\hh<=((xs.map (CT.row X.toSE c)).length:Int)/\(sub xs l.toNat (hh.toNat -l.toNat)).map (CT.row X.toSE c)=((xs.map (CT.row X.toSE c)).drop l.toNat).take (hh.toNat -l.toNat)/\(∀ q∈xs.map (CT.row X.toSE c),q.length=ei.size)]⟩,?_,?_,rfl,rfl,h⟩;simp only[den,CT.tv,TV.av,C9 h4,ai];have h7:bnd ((xs.map (CT.row X.toSE c)).length:Int) (hi.map den)=some hh:=by have:=C9 h5;simpa using this
 rw[h7];rfl;have⟨a1,a2,a3⟩:=abe h6;refine⟨a1,a2,by simpa using a3,by simp[sub],λq hq=>?_⟩;obtain⟨y,_,rfl⟩:=mem_map.1 hq;rw[Ir];exact hs;cases h;cases h;cases h
end
section
variable {X:SX} {A:Type} {T:eR} {code:TypeId->Option (CT X.ι)} {get:Nat->Option (b7 X)} {k:KK X A} {r:A} {i:Nat}
theorem jo{b c:CT X.ι}{l:List (CT.T X.toSE b)}{l':List (CT.T X.toSE c)}(h:lg (.sl b) (.sl c) l=some l'):CT.sz X b=CT.sz X c/\l.map (CT.row X.toSE b)=l'.map (CT.row X.toSE c):=by
 obtain⟨e,h⟩:=sK h
 grind
theorem aeB{y:DV X}{c:CT X.ι}{n:Nat}{l:List (CT.T X.toSE c)}{rd:List Nat}(h:apT y c get=some (n,l,rd))(hl:l.length=n)(rd':List Nat)(hrd:∀j∈rd,j∈rd'):
 ∃ob,VQ (CT.sz X c) (den y) (dI rd' (fD get))=some (n,ob,aK (l.map (CT.row X.toSE c)))/\ob:=by unfold apT at h;split at h;rename_i kk aa len;rw[ah]at h;obtain⟨o,h1,h⟩:=h;split at h;rw[ah]at h;obtain⟨l1,h2,h⟩:=h;injection h with h;obtain⟨rfl,rfl,rfl⟩:=h;have⟨h3,h4⟩:=jo h2;refine⟨True,?_,trivial⟩;simp only[den,VQ,eY (hrd kk (by simp)) h1,ai,bM];rw[aU h3];simp[h4];simp[aK,sub];cases h;rename_i b l0;have⟨l1,h2,h⟩:=ah.1 h;injection h with h;simp at h;obtain⟨rfl,rfl,rfl⟩:=h;refine⟨∀ q∈l1.map (CT.row X.toSE c),q.length=CT.sz X c,?_,?_⟩;rw[(pF h2).1];simp[den,CT.tv,TV.av,VQ];intro q hq;obtain⟨z,_,rfl⟩:=mem_map.1 hq;exact Ir c z;cases h
theorem WN{lo len ln n bytes:Nat}(h:bJ lo len ln n bytes=true):lo=len/\ln=n/\(len+n)*bytes<=140737488355328/\len+n<=maxLen:=by simpa[bJ,and_assoc]using h
theorem qq{α:Type}(n:Nat)(l:List α):WH n l=l.drop n:=by cases n<;>rfl
theorem ZN{t:TypeId}{x y:DV X}(h:acH T code i t x y get k=some r):∃cM rd wr dv upd out,Aq T i t (den x) (den y) cM (dI rd (fD get))=some out/\iT out.obs/\out.v=den dv/\out.upd=iU upd/\(∀ p∈upd,p.1=cC i\/p.1∈wr)/\k dv upd rd wr=some r:=by
 unfold acH at h;unfold Aq;rw[ah]at h;obtain⟨ti,h1,h⟩:=h;simp only[h1,ai];split at h;rename_i e hk;rw[ah]at h;obtain⟨ei,h2,h⟩:=h;rw[ah]at h;obtain⟨c,h3,h⟩:=h;simp only[hk,h2,ai];split at h;rename_i hs;rw[ah]at h;obtain⟨⟨n,l,rd⟩,h4,h⟩:=h;split at h;rename_i kk aa len;have⟨o,h5,h⟩:=ah.1 h;split at h;have⟨l1,h6,h⟩:=ah.1 h;have⟨h7,h⟩:=dW h;rw[qq]at h7 h;have hd:(aK (l1.map (CT.row X.toSE c))).drop aa=aK ((l1.drop aa).map (CT.row X.toSE c)):=by simp[aK]
 have⟨g1,g2,g3,g4⟩:=WN h7;have⟨h8,h9⟩:=jo h6;obtain⟨ob,i1,i2⟩:=aeB h4 g2 (kk::rd) (λ j hj=>by simp[hj]);have i3:=eY (rd:=kk::rd) (by simp) h5
 refine⟨.rows (aK ((l1.drop aa++l).map (CT.row X.toSE c))),kk::rd,[kk],_,_,⟨.own (cC i) 0 (aK ((l1.drop aa++l).map (CT.row X.toSE c))).length,[(cC i,some ⟨ei.size,aK ((l1.drop aa++l).map (CT.row X.toSE c))⟩),(kk,none)],
  [ob/\(aK ((l1.drop aa).map (CT.row X.toSE c))).length=len/\(aK (l.map (CT.row X.toSE c))).length=n/\aK ((l1.drop aa++l).map (CT.row X.toSE c))=aK ((l1.drop aa).map (CT.row X.toSE c))++aK (l.map (CT.row X.toSE c))/\(len+n)*ei.bytes<=140737488355328/\len+n<=maxLen]⟩,?_,?_,?_,?_,?_,h⟩
 rw[hs]at i1;simp only[i1,ai,den,i3,bM,h9,hd];rw[aU (by rw[h8,hs])];exact⟨i2,by simpa[aK]using g1,by simpa[aK]using g2,by simp[aK],g3,g4⟩;simp[den,aK];simp[iU,bM,hs];intro p hp;simp at hp;rcases hp with rfl |rfl;exact .inl rfl;exact .inr (by simp);cases h;have⟨h7,h⟩:=dW h;have⟨g1,g2,g3,g4⟩:=WN h7;obtain⟨ob,i1,i2⟩:=aeB h4 g2 rd (λ j hj=>hj)
 refine⟨.rows (aK (l.map (CT.row X.toSE c))),rd,[],_,_,⟨.own (cC i) 0 (aK (l.map (CT.row X.toSE c))).length,[(cC i,some ⟨ei.size,aK (l.map (CT.row X.toSE c))⟩)],
  [ob/\(aK (l.map (CT.row X.toSE c))).length=n/\aK (l.map (CT.row X.toSE c))=aK (l.map (CT.row X.toSE c))/\n*ei.bytes<=140737488355328/\n<=maxLen]⟩,?_,?_,?_,?_,?_,h⟩
 rw[hs]at i1;simp[i1,den];exact⟨i2,by simpa[aK]using g2,rfl,by simpa using g3,by simpa using g4⟩;simp[den,aK];simp[iU,bM,hs];intro p hp;simp at hp;rcases hp with rfl;exact .inl rfl;cases h;cases h;cases h
def aqL(T:eR)(i:Nat)(o:Oper)(ρ:Operand->DV X)(get:Nat->Option (b7 X))(k:KK X A)(r:A):Prop:=
 ∃cM rd wr dv upd out,qZ T i o cM (λ x=>den (ρ x)) (dI rd (fD get))=some out/\iT out.obs/\out.v=den dv/\out.upd=iU upd/\(∀ p∈upd,p.1=cC i\/p.1∈wr)/\k dv upd rd wr=some r
theorem WO{b:Builtin}{args:List (DV X)}{ej:List TypeId}(h:WI T code i b args ej get k=some r):∃cM rd wr dv upd out,CW T i b (bI args) ej cM (dI rd (fD get))=some out/\iT out.obs/\out.v=den dv/\out.upd=iU upd/\(∀ p∈upd,p.1=cC i\/p.1∈wr)/\k dv upd rd wr=some r:=by unfold WI at h;unfold CW;split at h;have⟨cM,dv,out,h1,h2,h3,h4,h5⟩:=aht h;exact⟨cM,[],[],dv,[],out,h1,h2,h3,h4,by simp,h5⟩;have⟨dv,out,h1,h2,h3,h4,h5⟩:=abb h;exact⟨.none,[],[],dv,[],out,h1,h2,h3,h4,by simp,h5⟩;have⟨dv,out,h1,h2,h3,h4,h5⟩:=abb h;exact⟨.none,[],[],dv,[],out,h1,h2,h3,h4,by simp,h5⟩;split at h;rename_i htu;have⟨cM,rd,wr,dv,upd,out,h1,h2⟩:=ZN h;refine⟨cM,rd,wr,dv,upd,out,?_,h2⟩;simp only[bI];rw[aU htu];exact h1;cases h;cases h
theorem Vm(ρ:Operand->DV X)(l:List Operand):l.map (λ x=>den (ρ x))=bI (l.map ρ):=by rw[oP,map_map];rfl
theorem abf{o:Oper}{ρ:Operand->DV X}(h:PP T code i o.op ρ get k=some r):aqL T i o ρ get k r:=by
 obtain⟨dst,op,ty,am,after,guard⟩:=o;unfold aqL qZ;simp at h;unfold PP at h;split at h;exact⟨.none,[],[],_,[],_,rfl,trivial,rfl,rfl,by simp,h⟩;exact⟨.none,[],[],_,[],_,rfl,trivial,rfl,rfl,by simp,h⟩;rename_i c a b;split at h;rename_i t hc;refine⟨.none,[],[],_,[],⟨PA t (den (ρ a)) (den (ρ b)),[],[]⟩,?_,trivial,(akp t _ _).symm,rfl,by simp,h⟩;simp[hc,den,CT.tv,TV.av,pv];cases h;have⟨dv,u,out,h1,h2,h3,h4,h5⟩:=acM h;exact⟨.none,[],[],dv,_,out,h1,h2,h3,h4,by simp,h5⟩;have⟨dv,u,out,h1,h2,h3,h4,h5⟩:=ahu h;exact⟨.none,[],[],dv,_,out,h1,h2,h3,h4,by simp,h5⟩;rename_i t parts;have⟨dv,out,h1,h2,h3,h4,h5⟩:=acL h;refine⟨.none,[],[],dv,[],out,?_,h2,h3,h4,by simp,h5⟩;rw[map_map]at h1;exact h1;rename_i t len parts;have⟨dv,u,out,h1,h2,h3,h4,h5⟩:=NQ h;refine⟨.none,[],[],dv,_,out,?_,h2,h3,h4,by simp,h5⟩;rw[map_map]at h1;exact h1;have⟨cM,rd,dv,out,h1,h2,h3,h4,h5⟩:=akq h;exact⟨cM,rd,[],dv,[],out,h1,h2,h3,h4,by simp,h5⟩;have⟨cM,kk,u,out,h1,h2,h3,h4,h5⟩:=aks h;exact⟨cM,[kk],[kk],.undef,_,out,h1,h2,h3,h4,by simp,h5⟩;have⟨dv,out,h1,h2,h3,h4,h5⟩:=ahs h;exact⟨.none,[],[],dv,[],out,h1,h2,h3,h4,by simp,h5⟩;have⟨dv,out,h1,h2,h3,h4,h5⟩:=akt h;exact⟨.none,[],[],dv,[],out,h1,h2,h3,h4,by simp,h5⟩;rename_i f first caps
 refine⟨.none,[],[],_,[],⟨.fn f (first.toList.map λx=>den (ρ x)) (caps.toList.map λx=>den (ρ x)),[],[]⟩,rfl,trivial,?_,rfl,by simp,h⟩;simp[den,Vm];rename_i t x lo hi;have⟨cM,rd,dv,out,h1,h2,h3,h4,h5⟩:=acN h;refine⟨cM,rd,[],dv,[],out,?_,h2,h3,h4,by simp,h5⟩;simp at h1;exact h1;have⟨dv,out,h1,h2,h3,h4,h5⟩:=Qx h;exact⟨.none,[],[],dv,[],out,h1,h2,h3,h4,by simp,h5⟩;have⟨dv,out,h1,h2,h3,h4,h5⟩:=acJ h;exact⟨.none,[],[],dv,[],out,h1,h2,h3,h4,by simp,h5⟩;have⟨cM,rd,dv,out,h1,h2,h3,h4,h5⟩:=Qy h;exact⟨cM,rd,[],dv,[],out,h1,h2,h3,h4,by simp,h5⟩;have⟨dv,out,h1,h2,h3,h4,h5⟩:=WM h;exact⟨.none,[],[],dv,[],out,h1,h2,h3,h4,by simp,h5⟩;rename_i b args ej;have⟨cM,rd,wr,dv,upd,out,h1,h2⟩:=WO h;refine⟨cM,rd,wr,dv,upd,out,?_,h2⟩;simp[Vm];exact h1;cases h
end
inductive Pt(ι:Type) where
 |v (c:CT ι)
 |o (k:Nat)
 |p (k:Nat)
 |nil
 |f (F:FuncId) (fs cs:List (Pt ι))
 |od (k:Nat)
 |mp (k:Nat)
 |oz (k:Nat)
 |a (ps:List (Pt ι))
inductive OP(ι:Type) where
 |l (c:CT ι)
 |m (k v:CT ι)
 |c (sz:Nat) (rows:List (List (Pt ι)))
section
variable {ι:Type}
mutual
def Pt.vars:Pt ι->List (CT ι)
 | .v c=>[c]
 | .a ps=>de ps
 | .f _ fs cs=>de fs++de cs
 | .od _=>[.int .i64]
 |_=>[]
def de:List (Pt ι)->List (CT ι)
 |[]=>[]
 |p::ps=>p.vars++de ps
end
def i9:List (Nat×Pt ι)->List (CT ι)
 |[]=>[]
 |p::ps=>p.2.vars++i9 ps
def wX:List (List (Pt ι))->List (CT ι)
 |[]=>[]
 |r::rs=>de r++wX rs
def ef:List (Nat×OP ι)->List (CT ι)
 |[]=>[]
 |(_,.l c)::r=> .sl c::ef r
 |(_,.m k v)::r=> .mp k v::ef r
 |(_,.c _ rows)::r=>wX rows++ef r
end
section
variable {X:SX}
structure DC(X:SX) where
 c:CT X.ι
 x:CT.T X.toSE c
@[reducible] def VT:List (CT X.ι)->Type
 |[]=>Unit
 |[c]=>CT.T X.toSE c
 |c::c'::l=>CT.T X.toSE c×VT (c'::l)
def GO:(l:List (CT X.ι))->List (DC X)->Option (VT (X:=X) l)
 |[],[]=>some ()
 |[c],[d]=>lg d.c c d.x
 |c::c'::l,d::ds=>(lg d.c c d.x).bind λx=>(GO (c'::l) ds).bind λv=>some (x,v)
 |_,_=>none
def wY:(l:List (CT X.ι))->VT (X:=X) l->List (DC X)
 |[],_=>[]
 |[c],x=>[⟨c,x⟩]
 |c::c'::l,v=>⟨c,v.1⟩::wY (c'::l) v.2
theorem aeC{d:DC X}{c:CT X.ι}{x:CT.T X.toSE c}(h:lg d.c c d.x=some x):(⟨c,x⟩:DC X)=d:=by obtain⟨a,y⟩:=d;have⟨e,h⟩:=sK h;simp at e;subst e;subst h;rfl
theorem WQ:∀{l:List (CT X.ι)}{ds:List (DC X)}{v:VT (X:=X) l},GO l ds=some v->wY l v=ds
 |[],[],_,_=>rfl
 |[c],[d],v,h=>by simp[GO]at h;simp[wY,aeC h]
 |c::c'::l,d::ds,v,h=>by simp[GO]at h;rw[ah]at h;obtain⟨x,h1,h⟩:=h;rw[ah]at h;obtain⟨v',h2,h⟩:=h;cases h;simp[wY,aeC h1,WQ h2]
 |[],_::_,_,h |[_],[],_,h |[_],_::_::_,_,h |_::_::_,[],_,h=>by simp[GO]at h
theorem WR{c:CT X.ι}(x:CT.T X.toSE c):lg c c x=some x:=by unfold lg;split;rfl;rename_i h _;exact absurd rfl h
def H0(d:DC X):Nat:=match lg d.c (.int .i64) d.x with |some x=>Int.toNat x |none=>0
section
variable (ev:Nat->Nat)
mutual
def eP:Pt X.ι->List (DC X)->DV X×List (DC X)
 | .v _,L=>match L with
  |d::r=>(.c d.c d.x,r)
  |[]=>(.undef,[])
 | .o k,L=>(.own k 0 (ev k),L)
 | .p k,L=>(.ptr k 0 0,L)
 | .mp k,L=>(.mp k,L)
 | .oz k,L=>(.oz k (ev k),L)
 | .nil,L=>(.nil,L)
 | .f F fs cs,L=>(.fn F (mn fs L).1 (mn cs (mn fs L).2).1,(mn cs (mn fs L).2).2)
 | .od k,L=>match L with
  |d::r=>(.own k (H0 d) (ev k -H0 d),r)
  |[]=>(.undef,[])
 | .a ps,L=>(.agg (mn ps L).1,(mn ps L).2)
def mn:List (Pt X.ι)->List (DC X)->List (DV X)×List (DC X)
 |[],L=>([],L)
 |p::ps,L=>((eP p L).1::(mn ps (eP p L).2).1,(mn ps (eP p L).2).2)
end
def Me:List (Nat×Pt X.ι)->List (DC X)->List (Nat×DV X)
 |[],_=>[]
 |(t,p)::r,L=>(t,(eP ev p L).1)::Me r (eP ev p L).2
def wZ:List (List (Pt X.ι))->List (DC X)->List (List (DV X))×List (DC X)
 |[],L=>([],L)
 |r::rs,L=>((mn ev r L).1::(wZ rs (mn ev r L).2).1,(wZ rs (mn ev r L).2).2)
def bW:List (Nat×OP X.ι)->List (DC X)->List (Nat×Option (b7 X))
 |[],_=>[]
 |(k,.l _)::r,L=>match L with
  |⟨.sl c',x⟩::L=>(k,some (.eM c' x))::bW r L
  |_=>[]
 |(k,.m _ _)::r,L=>match L with
  |⟨.mp kc vc,x⟩::L=>(k,some (.map kc vc x))::bW r L
  |_=>[]
 |(k,.c sz rows)::r,L=>(k,some (.cells sz (wZ ev rows L).1))::bW r (wZ ev rows L).2
end
def lens:List (Nat×OP X.ι)->List (DC X)->List (Nat×Nat)
 |[],_=>[]
 |(k,.l _)::r,L=>match L with
  |⟨.sl _,x⟩::L=>(k,List.length x)::lens r L
  |_=>[]
 |(_,.m _ _)::r,L=>lens r (L.drop 1)
 |(_,.c _ rows)::r,L=>lens r (L.drop (wX rows).length)
def mw:Nat->List (Pt X.ι)->List (Nat×Pt X.ι)
 |_,[]=>[]
 |n,p::ps=>(n,p)::mw (n+1) ps
theorem QA:∀(n:Nat)(ps:List (Pt X.ι)),i9 (mw n ps)=de ps
 |_,[]=>rfl
 |n,p::ps=>by simp[mw,i9,de,QA (n+1) ps]
structure ea(X:SX) where
 qT:List (Pt X.ι)
 ke:List (Nat×OP X.ι)
 gz:List (Pt X.ι)
 j9:List (Nat×OP X.ι)
 fn:VT (X:=X) (de qT++ef ke)->Option (VT (X:=X) (i9 (mw 0 gz)++ef j9))
def EH(O:List (Nat×OP X.ι))(L:List (DC X))(k:Nat):Nat:=(lk (lens O L) k).getD 0
def WS(ps:List (Pt X.ι))(O:List (Nat×OP X.ι))(L:List (DC X)):List (DV X):=(mn (EH O (L.drop (de ps).length)) ps (L.take (de ps).length)).1
def Pr(ps:List (Pt X.ι))(O:List (Nat×OP X.ι))(L:List (DC X)):List (Nat×Option (b7 X)):=bW (EH O (L.drop (de ps).length)) O (L.drop (de ps).length)
def zb:List (DV X)->DV X
 |[d]=>d
 |ds=> .eI ds
def dG:List (Nat×Option (b7 X))->List (Nat×b7 X)
 |[]=>[]
 |(k,some o)::r=>(k,o)::dG r
 |(_,none)::r=>dG r
def tZ(l:List (Nat×b7 X)):List (Nat×aN):=l.map λp=>(p.1,bM p.2)
def ea.args(g:ea X)(v:VT (X:=X) (de g.qT++ef g.ke)):List (DV X):=WS g.qT g.ke (wY _ v)
def ea.dp(g:ea X)(v:VT (X:=X) (de g.qT++ef g.ke)):List (Nat×b7 X):=dG (Pr g.qT g.ke (wY _ v))
def ea.res(g:ea X)(r:VT (X:=X) (i9 (mw 0 g.gz)++ef g.j9)):DV X:=zb (WS g.gz g.j9 (wY _ r))
def ea.outs(g:ea X)(r:VT (X:=X) (i9 (mw 0 g.gz)++ef g.j9)):List (Nat×b7 X):=dG (Pr g.gz g.j9 (wY _ r))
def NL(P:Program)(f:FuncId)(g:ea X):Prop:=∀v r,g.fn v=some r->yr P f (bI (g.args v)) ((g.dp v).map λp=>bM p.2) (tZ (g.outs r)) (den (g.res r))
end
inductive AT(ι:Type) where
 |d (c:CT ι)
 |ref (c:CT ι)
 |eE (as:List (CT ι)) (r:CT ι)
 |mut (c:CT ι)
 |k8 (c:CT ι)
 |nil
 deriving DecidableEq
def AT.im{ι:Type}:AT ι->Bool
 | .mut _ | .k8 _=>true
 |_=>false
def AT.pl{ι:Type}:AT ι->Bool
 | .mut _ | .k8 _ | .nil=>false
 |_=>true
inductive RT(ι:Type) where
 |d (c:CT ι)
 |fresh (e:CT ι)
 |whole (j:Nat)
 |mu (c:CT ι)
 |mr (c:CT ι)
 |mv
def RT.out{ι:Type}:RT ι->Bool
 | .mu _ | .mr _ | .mv=>true
 |_=>false
section
variable (X:SX)
@[reducible] def AT.T:AT X.ι->Type
 | .d c=>CT.T X.toSE c
 | .ref c=>CT.T X.toSE c
 | .eE as r=>HL X.toSE as->Option (CT.T X.toSE r)
 | .mut c=>List (CT.T X.toSE c)
 | .k8 c=>CT.T X.toSE c
 | .nil=>Unit
@[reducible] def RT.T:RT X.ι->Type
 | .d c=>CT.T X.toSE c
 | .fresh e=>List (CT.T X.toSE e)
 | .whole _=>Unit
 | .mu c=>List (CT.T X.toSE c)
 | .mr c=>CT.T X.toSE c
 | .mv=>Unit
@[reducible] def ja:List (AT X.ι)->Type
 |[]=>Unit
 |a::l=>AT.T X a×ja l
@[reducible] def tO:List (RT X.ι)->Type
 |[]=>Unit
 |[r]=>RT.T X r
 |r::r'::l=>RT.T X r×tO (r'::l)
structure cw where
 args:List (AT X.ι)
 res:List (RT X.ι)
 fn:ja X args->Option (tO X res)
 gen:Option (ea X):=none
variable {X}
def eG:Nat->(l:List (AT X.ι))->ja X l->List AV
 |_,[],_=>[]
 |n,.d c::l,a=>(CT.tv X.toSE c a.1).av::eG n l a.2
 |n,.ref c::l,a=> .ff (CT.row X.toSE c a.1) 0::eG n l a.2
 |n,.eE as r::l,a=>den (.eE as r a.1:DV X)::eG n l a.2
 |n,.mut _::l,a=> .own n 0 (List.length a.1)::eG (n+1) l a.2
 |n,.k8 _::l,a=> .ptr n 0 0::eG (n+1) l a.2
 |n,.nil::l,a=> .dE::eG n l a.2
abbrev ze(l:List (AT X.ι))(a:ja X l):List AV:=eG 0 l a
def vD(c:CT X.ι)(l:List (CT.T X.toSE c)):eU:=(CT.sz X c,l.map (CT.row X.toSE c))
def vE:(l:List (AT X.ι))->ja X l->List eU
 |[],_=>[]
 | .mut c::l,a=>vD c a.1::vE l a.2
 | .k8 c::l,a=>vD c [a.1]::vE l a.2
 | .d _::l,a=>vE l a.2
 | .ref _::l,a=>vE l a.2
 | .eE _ _::l,a=>vE l a.2
 | .nil::l,a=>vE l a.2
def da:(r:RT X.ι)->RT.T X r->List (Option eU)
 | .mu c,x=>[some (vD c x)]
 | .mr c,x=>[some (vD c [x])]
 | .mv,_=>[none]
 |_,_=>[]
def oQ:(l:List (RT X.ι))->tO X l->List (Option eU)
 |[],_=>[]
 |[r],x=>da r x
 |r::r'::l,x=>da r x.1++oQ (r'::l) x.2
def ZO:(r:RT X.ι)->RT.T X r->List Nat
 | .mu _,x=>[List.length x]
 | .mr _,_=>[1]
 | .mv,_=>[0]
 |_,_=>[]
def AF:(l:List (RT X.ι))->tO X l->List Nat
 |[],_=>[]
 |[r],x=>ZO r x
 |r::r'::l,x=>ZO r x.1++AF (r'::l) x.2
def WT(ns:List Nat):(r:RT X.ι)->RT.T X r->List RC
 | .d c,x=>[.d (CT.tv X.toSE c x)]
 | .fresh e,l=>[.fresh (CT.sz X e) (l.map (CT.row X.toSE e))]
 | .whole j,_=>[.whole j (ns.getD j 0)]
 |_,_=>[]
def BG(ns:List Nat):(l:List (RT X.ι))->tO X l->List RC
 |[],_=>[]
 |[r],x=>WT ns r x
 |r::r'::l,x=>WT ns r x.1++BG ns (r'::l) x.2
def uf(l:List (RT X.ι))(x:tO X l):RV:=
 match BG (AF l x) l x with
 |[c]=> .one c
 |cs=> .eI cs
def tI(P:Program)(Γ:FuncId->Option (cw X)):Prop:=
 ∀f s,Γ f=some s->eF P f/\(∀ a r,s.fn a=some r->ra P f (ze s.args a) (vE s.args a) (oQ s.res r) (uf s.res r))/\∀g,s.gen=some g->NL P f g
theorem aqM:∀{l:List (AT X.ι)},(l.all λq=>q.pl)=true->(l.all λq=>!q.im)=true:=λ{l} h=>by rw[all_eq_true]at h ⊢;intro q hq;have:=h q hq;cases q<;>simp_all [AT.pl,AT.im]
theorem IA:∀{l:List (AT X.ι)}{a:ja X l},(l.all λq=>!q.im)=true->vE l a=[]
 |[],_,_=>rfl
 | .d _::l,a,h | .ref _::l,a,h | .eE _ _::l,a,h=>IA (l:=l) (by simpa[AT.im]using h)
 | .mut _::l,a,h | .k8 _::l,a,h=>by simp[AT.im]at h
 | .nil::l,a,h=>IA (l:=l) (by simpa[AT.im]using h)
theorem aeE{r:RT X.ι}{x:RT.T X r}(h:(!r.out)=true):da r x=[]:=by cases r<;>first |rfl |simp[RT.out]at h
theorem aeF:∀{l:List (RT X.ι)}{x:tO X l},(l.all λq=>!q.out)=true->oQ l x=[]
 |[],_,_=>rfl
 |[r],x,h=>aeE (by simpa using h)
 |r::r'::l,x,h=>by simp only[all_cons,aY]at h;simp[oQ,aeE h.1];exact aeF (l:=r'::l) (by simp only[all_cons,aY];exact h.2)
mutual
def bz:DV X->List Nat
 | .own k _ _=>[k]
 | .ptr k _ _=>[k]
 | .sk k _ _=>[k]
 | .uv k _ _ _ _=>[k]
 | .mp k=>[k]
 | .oz k _=>[k]
 | .agg cs=>aS cs
 | .eI cs=>aS cs
 | .fn _ first caps=>aS first++aS caps
 |_=>[]
def aS:List (DV X)->List Nat
 |[]=>[]
 |x::xs=>bz x++aS xs
end
theorem Az(c:CT X.ι)(x:CT.T X.toSE c):refs (CT.tv X.toSE c x).av=[]:=by
 cases c<;>try rfl
 rename_i i;show dD ((X.row i x).map AV.t)=[];generalize X.row i x=l
 induction l with
 |nil=>rfl
 |cons y ys ih=>simp[dD,refs,ih]
mutual
theorem iV:∀x:DV X,refs (den x)=bz x
 | .c t x=>Az t x
 | .agg cs | .eI cs=>by simp[den,refs,bz,iW cs]
 | .own _ _ _ | .ptr _ _ _ | .sk _ _ _ | .mp _ | .oz _ _ | .uv _ _ _ _ _ | .rp _ _ _ | .y4 _ _ _ _ _=>rfl
 | .fn f first caps=>by simp[den,refs,bz,iW first,iW caps]
 | .eE _ _ _=>rfl
 | .raw v=>by simp[den,cv];split;rfl;split<;>rfl
 | .nil | .ub | .skip | .undef=>rfl
theorem iW:∀l:List (DV X),dD (bI l)=aS l
 |[]=>rfl
 |x::xs=>by simp[bI,dD,aS,iV x,iW xs]
end
def SQ(get:Nat->Option (b7 X))(d:DV X)(c:CT X.ι):Option (CT.T X.toSE c×List Bool):=
 match d,c with
 | .own kk aa len,.sl e=>(get kk).bind λo=>match o with
  | .eM b l=>(lg (.sl b) (.sl e) l).bind λ(l:List (CT.T X.toSE e))=>some (sub l aa len,[az (sub l aa len).length len])
  |_=>none
 | .own kk aa len,.any=>(get kk).bind λo=>match o with
  | .eM b l=>some (.sl (List.map (CT.row X.toSE b) (sub l aa len)),[az (sub l aa len).length len])
  |_=>none
 | .oz kk len,.sl e=>(get kk).bind λo=>match o with
  | .eM b l=>(lg (.sl b) (.sl e) l).bind λ(l:List (CT.T X.toSE e))=>some (sub l 0 len,[az (sub l 0 len).length len])
  |_=>none
 |d,c=>(Ma d c).bind λx=>some (x,[])
def BH(get:Nat->Option (b7 X)):List (DV X)->(l:List (CT X.ι))->Option (HL X.toSE l×List Bool)
 |[],[]=>some ((),[])
 |d::ds,c::l=>(SQ get d c).bind λx=>(BH get ds l).bind λh=>some ((x.1,h.1),x.2++h.2)
 |_,_=>none
def HX(get:Nat->Option (b7 X))(d:DV X)(i:X.ι):Option (CT.T X.toSE (.st i)×List Bool):=
 match d with
 | .agg cs=>(BH get cs (X.ej i)).bind λh=>some (X.make i h.1,h.2)
 | .c a x=>(lg a (.st i) x).bind λx=>some (x,[])
 |_=>none
def Gh(get:Nat->Option (b7 X))(d:DV X)(c:CT X.ι):Option (CT.T X.toSE c×List Bool):=
 match c with
 | .st i=>HX get d i
 |c=>SQ get d c
def amm(get:Nat->Option (b7 X))(d:DV X)(c:CT X.ι):Option (CT.T X.toSE c):=
 match d with
 | .ptr kk row 0=>(get kk).bind λo=>match o with
  | .cells _ rows=>(rows[row]?).bind λq=>if q.all (λ x=>match x with | .c _ _=>true |_=>false)then NK c q else none
  |_=>none
 | .rp a x 0=>lg a c x
 |_=>none
def An:(l l':List (AT X.ι))->ja X l->ja X l'->ja X (l++l')
 |[],_,_,b=>b
 |_::l,l',a,b=>(a.1,An l l' a.2 b)
def hlA:(as:List (CT X.ι))->HL X.toSE as->ja X (as.map AT.d)
 |[],_=>()
 |_::l,h=>(h.1,hlA l h.2)
def xg:List (AT X.ι)->Nat
 |[]=>0
 |q::l=>(if q.im then 1 else 0)+xg l
theorem ug:∀(n:Nat)(l l':List (AT X.ι))(a:ja X l)(b:ja X l'),eG n (l++l') (An l l' a b)=eG n l a++eG (n+xg l) l' b
 |n,[],_,_,_=>rfl
 |n,.d c::l,l',a,b |n,.ref c::l,l',a,b |n,.eE as r::l,l',a,b=>by simp[eG,An,ug n l l' a.2 b,xg,AT.im]
 |n,.mut c::l,l',a,b |n,.k8 c::l,l',a,b=>by simp[eG,An,ug (n+1) l l' a.2 b,xg,AT.im,Nat.add_assoc]
 |n,.nil::l,l',a,b=>by simp[eG,An,ug n l l' a.2 b,xg,AT.im]
theorem QB:∀(n:Nat)(as:List (CT X.ι))(h:HL X.toSE as),eG n (as.map AT.d) (hlA as h)=(HL.oB X.toSE as h).map TV.av
 |_,[],_=>rfl
 |n,c::l,h=>congrArg ((CT.tv X.toSE c h.1).av:: ·) (QB n l h.2)
def apx{a b:CT X.ι}(h:a=b)(o:Option (CT.T X.toSE a)):Option (CT.T X.toSE b):=h ▸ o
def sM(get:Nat->Option (b7 X))(qt:FuncId->List (DV X)->List (DV X)->(as:List (CT X.ι))->(r:CT X.ι)->Option ((HL X.toSE as->Option (CT.T X.toSE r))×List Bool)):List (DV X)->(l:List (AT X.ι))->Option (ja X l×List Bool)
 |[],[]=>some ((),[])
 |d::ds,.d c::l=>(Gh get d c).bind λx=>(sM get qt ds l).bind λh=>some ((x.1,h.1),x.2++h.2)
 |d::ds,.ref c::l=>(amm get d c).bind λx=>(sM get qt ds l).bind λh=>some ((x,h.1),h.2)
 |d::ds,.eE as r::l=>(match d with
  | .eE as' r' φ=>if h:as'=as/\r'=r then some (λ x=>apx h.2 (φ (h.1 ▸ x)),[])else none
  | .fn f first caps=>qt f first caps as r
  |_=>none).bind λφ=>(sM get qt ds l).bind λq=>some ((φ.1,q.1),φ.2++q.2)
 |_,_=>none
def SS(Γ:FuncId->Option (cw X))(get:Nat->Option (b7 X)):Nat->List (DV X)->(l:List (AT X.ι))->Option (ja X l×List Bool)
 | 0,ds,l=>sM get (λ _ _ _ _ _=>none) ds l
 |n+1,ds,l=>sM get (λ f first caps as r=>(Γ f).bind λs=>match s with
   |⟨sa,[.d r'],fn,_⟩=>
    if h:r'=r/\sa=sa.take first.length++(as.map AT.d++sa.drop (first.length+as.length))/\first.length=0 then
     (SS Γ get n first (sa.take first.length)).bind λhf=>(SS Γ get n caps (sa.drop (first.length+as.length))).bind λhc=>
      some (λ x=>apx h.1 (fn (h.2.1 ▸ An _ _ hf.1 (An _ _ (hlA as x) hc.1))),hf.2++hc.2)
    else none
   |_=>none) ds l
section
variable {P:Program} {Γ:FuncId->Option (cw X)} {get:Nat->Option (b7 X)} {rd:List Nat}
theorem gT{a b:List Prop}(h:∀p∈a,p)(h':∀p∈b,p):∀p∈a++b,p:=by grind
theorem IB{d:DV X}{c:CT X.ι}{x:CT.T X.toSE c×List Bool}(h:SQ get d c=some x)(hc:∀b∈x.2,b=true)(hrd:∀j∈bz d,j∈rd):∃hs obs,(∀ p∈obs,p)/\∀ae,pQ P (dI rd (fD get)) (den d) (hs++ae)=some ((CT.tv X.toSE c x.1).av,ae,obs):=by
 have base:∀{d:DV X}{c:CT X.ι}{x:CT.T X.toSE c},Ma d c=some x->∃hs obs,(∀ p∈obs,p)/\∀ae,pQ P (dI rd (fD get)) (den d) (hs++ae)=some ((CT.tv X.toSE c x).av,ae,obs):=by
  intro d c x h;unfold Ma at h;split at h;rw[(pF h).1];refine⟨[],[],by simp,λae=>?_⟩;simp;cases c<;>try rfl
  rename_i j;show pQ P _ (.agg ((X.row j x).map AV.t)) ae=_;have:∀(l:List Tree)(hs:List LH),nD P (dI rd (fD get)) (l.map AV.t) hs=some (l.map AV.t,hs,[]):=by
   intro l
   induction l with
   |nil=>intro hs;rfl
   |cons y ys ih=>intro hs;simp[nD,pQ,ih]
  simp[pQ,this];rfl;cases h;exact⟨[.emp],[],by simp,λae=>rfl⟩;cases h;exact⟨[.emp],[],by simp,λae=>rfl⟩;cases h
 unfold SQ at h;split at h;rename_i kk aa len e;rw[ah]at h;obtain⟨o,h1,h⟩:=h;split at h;rename_i b l0;rw[ah]at h;obtain⟨l,h2,h⟩:=h;cases h;have h3:(sub l aa len).length=len:=by simpa[az]using hc (az (sub l aa len).length len) (by simp)
 have⟨h4,h5⟩:=jo h2;refine⟨[.rows ((sub l aa len).map (CT.row X.toSE e))],[(((bM (.eM b l0):aN).rows.drop aa).take len=aK ((sub l aa len).map (CT.row X.toSE e))/\((sub l aa len).map (CT.row X.toSE e)).length=len)],?_,λae=>?_⟩;intro p hp;simp only[bC]at hp;subst hp;refine⟨?_,by simpa using h3⟩;simp[bM,h5];simp[aK,sub];simp[den,pQ,eY (hrd kk (by simp[bz])) h1];rfl;cases h;rename_i kk aa len;rw[ah]at h;obtain⟨o,h1,h⟩:=h;split at h;rename_i b l0;cases h;have h3:(sub l0 aa len).length=len:=by simpa[az]using hc (az (sub l0 aa len).length len) (by simp)
 refine⟨[.rows ((sub l0 aa len).map (CT.row X.toSE b))],[(((bM (.eM b l0):aN).rows.drop aa).take len=aK ((sub l0 aa len).map (CT.row X.toSE b))/\((sub l0 aa len).map (CT.row X.toSE b)).length=len)],?_,λae=>?_⟩;intro p hp;simp only[bC]at hp;subst hp;refine⟨?_,by simpa using h3⟩;simp[bM];simp[aK,sub];simp[den,pQ,eY (hrd kk (by simp[bz])) h1];rfl;cases h;rename_i kk len e;rw[ah]at h;obtain⟨o,h1,h⟩:=h;split at h;rename_i b l0;have⟨l,h2,h⟩:=ah.1 h;cases h;have h3:(sub l 0 len).length=len:=by simpa[az]using hc (az (sub l 0 len).length len) (by simp)
 have⟨h4,h5⟩:=jo h2;refine⟨[.rows ((sub l 0 len).map (CT.row X.toSE e))],[(((bM (.eM b l0):aN).rows.drop 0).take len=aK ((sub l 0 len).map (CT.row X.toSE e))/\((sub l 0 len).map (CT.row X.toSE e)).length=len)],?_,λae=>?_⟩;intro p hp;simp only[bC]at hp;subst hp;refine⟨?_,by simpa using h3⟩;simp[bM,h5];simp[aK,sub];simp[den,pQ,eY (hrd kk (by simp[bz])) h1];rfl;cases h;have⟨y,h1,h⟩:=ah.1 h;cases h;exact base h1
theorem NR:∀{ds:List (DV X)}{l:List (CT X.ι)}{h:HL X.toSE l×List Bool},BH get ds l=some h->(∀ b∈h.2,b=true)->l.all CT.one=true->(∀ j∈aS ds,j∈rd)->
 ∃hs obs,(∀ p∈obs,p)/\∀ae,nD P (dI rd (fD get)) (bI ds) (hs++ae)=some ((HL.row X.toSE l h.1).map AV.t,ae,obs)
 |[],[],h,_,_,_,_=>⟨[],[],by simp,λae=>rfl⟩
 |d::ds,c::l,h,hr,hc,ha,hrd=>by simp[BH]at hr;have⟨x,h1,hr⟩:=ah.1 hr;have⟨g,h2,hr⟩:=ah.1 hr;cases hr;simp only[all_cons,aY]at ha;obtain⟨hs1,o1,p1,q1⟩:=IB (P:=P) (rd:=rd) h1 (λ b hb=>hc b (by simp[hb])) (λ j hj=>hrd j (by simp[aS,hj]));obtain⟨hs2,o2,p2,q2⟩:=NR h2 (λ b hb=>hc b (by simp[hb])) ha.2 (λ j hj=>hrd j (by simp[aS,hj]));refine⟨hs1++hs2,o1++o2,gT p1 p2,λae=>?_⟩;simp only[bI,nD,aT,q1,ai,q2];show _=some ((CT.row X.toSE c x.1++HL.row X.toSE l g.1).map AV.t,ae,o1++o2);rw[List.map_append,<- T2 ha.1 x.1];rfl
 |[],_::_,_,hr,_,_,_ |_::_,[],_,hr,_,_,_=>by simp[BH]at hr
theorem AA{d:DV X}{c:CT X.ι}{x:CT.T X.toSE c×List Bool}(h:Gh get d c=some x)(hc:∀b∈x.2,b=true)(hrd:∀j∈bz d,j∈rd):∃hs obs,(∀ p∈obs,p)/\∀ae,pQ P (dI rd (fD get)) (den d) (hs++ae)=some ((CT.tv X.toSE c x.1).av,ae,obs):=by
 cases c
 case st i=>
  replace h:HX get d i=some x:=h
  cases d
  case agg cs=>
   simp[HX]at h;rw[ah]at h;obtain⟨g,h1,h⟩:=h;cases h;obtain⟨hs,obs,p1,q1⟩:=NR (P:=P) (rd:=rd) h1 hc (X.flat i) (λ j hj=>hrd j (by simpa[bz]using hj));refine⟨hs,obs,p1,λae=>?_⟩;simp[den,pQ,q1,CT.tv,TV.av];rw[X.ik]
  case c a y=>exact IB (c:= .st i) (x:=x) (by unfold SQ;exact h) hc hrd
  all_goals cases h
 all_goals exact IB h hc hrd
theorem aeG{d:DV X}{c:CT X.ι}{x:CT.T X.toSE c}(h:amm get d c=some x)(hrd:∀j∈bz d,j∈rd):∃hs obs,(∀ p∈obs,p)/\∀ae,pQ P (dI rd (fD get)) (den d) (hs++ae)=some (.ff (CT.row X.toSE c x) 0,ae,obs):=by
 unfold amm at h;split at h;rename_i kk row;rw[ah]at h;obtain⟨o,h1,h⟩:=h;split at h;rename_i sz rows;rw[ah]at h;obtain⟨q,h2,h⟩:=h;split at h;rename_i hq;refine⟨[.row (CT.row X.toSE c x)],[(bM (.cells sz rows):aN).rows[row]? =some ((CT.row X.toSE c x).map AV.t)],?_,λae=>?_⟩;intro p hp;simp only[bC]at hp;subst hp;simp only[bM,List.getElem?_map,h2,Option.map_some];rw[<- yR h,oP,map_map];congr 1;refine map_congr_left λy hy=>?_;have:=all_eq_true.1 hq y hy;cases y<;>first |exact(apw _).symm |simp at this
 simp[den,pQ,eY (hrd kk (by simp[bz])) h1];cases h;cases h;rename_i a y;refine⟨[],[],by simp,λae=>?_⟩;simp[den,(pF h).2];rfl;cases h
theorem ahw{n:Nat}{l l':List (AT X.ι)}(e:l=l')(b:ja X l):eG n l' (e ▸ b)=eG n l b:=by subst e;rfl
theorem J9{qt:FuncId->List (DV X)->List (DV X)->(as:List (CT X.ι))->(r:CT X.ι)->Option ((HL X.toSE as->Option (CT.T X.toSE r))×List Bool)}:∀{ds:List (DV X)}{l:List (AT X.ι)}{a:ja X l×List Bool},sM get qt ds l=some a->(l.all λq=>!q.im)=true
 |[],[],_,_=>rfl
 |d::ds,.d c::l,a,h=>by simp[sM]at h;have⟨x,h1,h⟩:=ah.1 h;have⟨q,h2,h⟩:=ah.1 h;simpa[AT.im]using J9 h2
 |d::ds,.ref c::l,a,h=>by simp[sM]at h;have⟨x,h1,h⟩:=ah.1 h;have⟨q,h2,h⟩:=ah.1 h;simpa[AT.im]using J9 h2
 |d::ds,.eE as r::l,a,h=>by simp[sM]at h;have⟨x,h1,h⟩:=ah.1 h;have⟨q,h2,h⟩:=ah.1 h;simpa[AT.im]using J9 h2
 |_::_,.mut _::_,_,h |_::_,.k8 _::_,_,h |_::_,.nil::_,_,h |[],_::_,_,h |_::_,[],_,h=>by simp[sM]at h
theorem aeH:∀{n:Nat}{ds:List (DV X)}{l:List (AT X.ι)}{a:ja X l×List Bool},SS Γ get n ds l=some a->(l.all λq=>!q.im)=true
 | 0,_,_,_,h |_+1,_,_,_,h=>J9 h
theorem acP:∀as:List (CT X.ι),((as.map AT.d).all λq=>!q.im)=true
 |[]=>rfl
 |_::l=>acP l
def aqN(P:Program)(get:Nat->Option (b7 X))(qt:FuncId->List (DV X)->List (DV X)->(as:List (CT X.ι))->(r:CT X.ι)->Option ((HL X.toSE as->Option (CT.T X.toSE r))×List Bool)):Prop:=
 ∀f first caps as r φ rd,qt f first caps as r=some φ->(∀ b∈φ.2,b=true)->(∀ j∈aS first++aS caps,j∈rd)->∃hs obs,(∀ p∈obs,p)/\∀ae,pQ P (dI rd (fD get)) (.fn f (bI first) (bI caps)) (hs++ae)=some (den (.eE as r φ.1:DV X),ae,obs)
theorem uh{n:Nat}{qt:FuncId->List (DV X)->List (DV X)->(as:List (CT X.ι))->(r:CT X.ι)->Option ((HL X.toSE as->Option (CT.T X.toSE r))×List Bool)}(vy:aqN P get qt):∀{ds:List (DV X)}{l:List (AT X.ι)}{a:ja X l×List Bool},sM get qt ds l=some a->(∀ b∈a.2,b=true)->(∀ j∈aS ds,j∈rd)->
 ∃hs obs,(∀ p∈obs,p)/\∀ae,nD P (dI rd (fD get)) (bI ds) (hs++ae)=some (eG n l a.1,ae,obs)
 |[],[],_,_,_,_=>⟨[],[],by simp,λae=>rfl⟩
 |d::ds,.d c::l,a,h,hc,hrd=>by simp[sM]at h;have⟨x,h1,h⟩:=ah.1 h;have⟨q,h2,h⟩:=ah.1 h;cases h;obtain⟨hs1,o1,p1,q1⟩:=AA (P:=P) (rd:=rd) h1 (λ b hb=>hc b (by simp[hb])) (λ j hj=>hrd j (by simp[aS,hj]));obtain⟨hs2,o2,p2,q2⟩:=uh (n:=n) vy h2 (λ b hb=>hc b (by simp[hb])) (λ j hj=>hrd j (by simp[aS,hj]));refine⟨hs1++hs2,o1++o2,gT p1 p2,λae=>?_⟩;simp[bI,nD,q1,q2,eG]
 |d::ds,.ref c::l,a,h,hc,hrd=>by simp[sM]at h;rw[ah]at h;obtain⟨x,h1,h⟩:=h;rw[ah]at h;obtain⟨q,h2,h⟩:=h;cases h;obtain⟨hs1,o1,p1,q1⟩:=aeG (P:=P) (rd:=rd) h1 (λ j hj=>hrd j (by simp[aS,hj]));obtain⟨hs2,o2,p2,q2⟩:=uh (n:=n) vy h2 hc (λ j hj=>hrd j (by simp[aS,hj]));refine⟨hs1++hs2,o1++o2,gT p1 p2,λae=>?_⟩;simp[bI,nD,q1,q2,eG]
 |d::ds,.eE as r::l,a,h,hc,hrd=>by
  simp[sM]at h;rw[ah]at h;obtain⟨φ,h1,h⟩:=h;rw[ah]at h;obtain⟨q,h2,h⟩:=h;cases h;have hd:∃hs obs,(∀ p∈obs,p)/\∀ae,pQ P (dI rd (fD get)) (den d) (hs++ae)=some (den (.eE as r φ.1:DV X),ae,obs):=by
   cases d
   case eE as' r' ψ=>
    simp only at h1;split at h1;rename_i e;obtain⟨rfl,rfl⟩:=e;cases h1;exact⟨[],[],by simp,λae=>rfl⟩;cases h1
   case fn f first caps=>
    obtain⟨hs,obs,g1,g2⟩:=vy f first caps as r φ rd h1 (λ b hb=>hc b (by simp[hb])) (λ j hj=>hrd j (by simp only[aS,bz,bP]at hj ⊢;exact .inl hj))
    exact⟨hs,obs,g1,λae=>by simp[den];exact g2 ae⟩
   all_goals simp at h1
  obtain⟨hs1,o1,p1,q1⟩:=hd;obtain⟨hs2,o2,p2,q2⟩:=uh (n:=n) vy h2 (λ b hb=>hc b (by simp[hb])) (λ j hj=>hrd j (by simp[aS,hj]));refine⟨hs1++hs2,o1++o2,gT p1 p2,λae=>?_⟩;simp[bI,nD,q1,q2,eG]
 |_::_,.mut _::_,_,h,_,_ |_::_,.k8 _::_,_,h,_,_ |_::_,.nil::_,_,h,_,_ |[],_::_,_,h,_,_ |_::_,[],_,h,_,_=>by simp[sM]at h
theorem ahx{n:Nat}:∀{l:List (AT X.ι)}(a:ja X l),l=[]->eG n l a=[]
 |_,_,rfl=>rfl
theorem sW(hΓ:tI P Γ):∀(m:Nat){n:Nat}{ds:List (DV X)}{l:List (AT X.ι)}{a:ja X l×List Bool}{rd:List Nat},SS Γ get m ds l=some a->(∀ b∈a.2,b=true)->(∀ j∈aS ds,j∈rd)->
 ∃hs obs,(∀ p∈obs,p)/\∀ae,nD P (dI rd (fD get)) (bI ds) (hs++ae)=some (eG n l a.1,ae,obs)
 | 0,n,ds,l,a,rd,h,hcs,hrd=>uh (λ _ _ _ _ _ _ _ h=>by cases h) h hcs hrd
 |m+1,n,ds,l,a,rd,h,hcs,hrd=>by
  refine uh (λ f first caps as r φ rd' hc hb KB=>?_) h hcs hrd;rw[ah]at hc;obtain⟨s,h1,hc⟩:=hc;split at hc;rename_i sa r' fn _;split at hc;rename_i e;obtain⟨rfl,e2,e3⟩:=e;have⟨hf,h2,hc⟩:=ah.1 hc;have⟨hcap,h3,hc⟩:=ah.1 hc;injection hc with hc;rw[<- hc]at hb;obtain⟨g1,g2,_⟩:=hΓ f _ h1;obtain⟨hs1,o1,p1,q1⟩:=sW hΓ m h2 (n:=0) (rd:=rd') (λ b hb'=>hb b (by simp[hb'])) (λ j hj=>KB j (by simp[hj]));obtain⟨hs2,o2,p2,q2⟩:=sW hΓ m h3 (n:=0+xg (sa.take first.length)+xg (as.map AT.d)) (rd:=rd') (λ b hb'=>hb b (by simp[hb'])) (λ j hj=>KB j (by simp[hj]));refine⟨.eE (λ ts u=>∃h x,φ.1 h=some x/\ts=HL.oB X.toSE as h/\u=CT.tv X.toSE r' x)::(hs1++hs2),o1++(o2++[eG 0 _ hf.1=[]/\eF P f/\∀args r,(∃ h x,φ.1 h=some x/\args=HL.oB X.toSE as h/\r=CT.tv X.toSE r' x)->sd P f (eG 0 _ hf.1++args.map TV.av++eG (0+xg (sa.take first.length)+xg (as.map AT.d)) _ hcap.1) (.one (.d r))]),?_,λae=>?_⟩;intro p hp;simp only[bP,bC]at hp;rcases hp with hp |hp |hp;exact p1 p hp;exact p2 p hp;subst hp;refine⟨ahx _ (by rw[e3];rfl),g1,?_⟩;rintro args r ⟨x,y,hxy,rfl,rfl⟩;rw[<- hc]at hxy;have hxy':fn (e2 ▸ An _ _ hf.1 (An _ _ (hlA as x) hcap.1))=some y:=hxy;have:=g2 _ _ hxy';have hnm:(sa.all λq=>!q.im)=true:=by rw[e2,List.all_append,List.all_append,aeH h2,aeH h3,acP];rfl
  rw[IA hnm,ze,ahw e2.symm,ug,ug,QB,<- aT]at this;exact oO this;simp[pQ,q1,q2];rfl;cases hc;cases hc
end
end
def SV(s:ByteArray)(n:Int):Option Int:=bif decide (0<=n)then(s[n.toNat]?).map λb=>(b.toNat:Int)else none
def qH(m:Int)(bytes:Nat):Bool:=decide (0<=m)&&decide (m.toNat*bytes<=140737488355328)&&decide (m.toNat<=maxLen)
def gH{K V:Type}(eq:K->K->Bool)(k:K):List (K×V)->Option V
 |[]=>none
 |p::r=>bif eq k p.1 then some p.2 else gH eq k r
def Gr{K V:Type}(eq:K->K->Bool)(k:K)(v:V):List (K×V)->List (K×V)
 |[]=>[(k,v)]
 |p::r=>bif eq k p.1 then(k,v)::r else p::Gr eq k v r
def iEq(a b:Int):Bool:=a==b
def fi(a b:ByteArray):Bool:=a.toList==b.toList
def bEq(a b:Bool):Bool:=a==b
section
variable {X:SX} {A:Type}
def NS:(c:CT X.ι)->Option (CT.T X.toSE c->CT.T X.toSE c->Bool)
 | .int _=>some iEq
 | .str=>some fi
 | .bool=>some bEq
 |_=>none
def GM{ι:Type}:Cp->CT ι->Bool
 | .int a,.int b=>decide (a=b)
 | .str,.str=>true
 | .bool,.bool=>true
 |_,_=>false
def aqO{ι:Type}:CT ι->Bool
 | .st _=>true
 |_=>false
theorem iF(a b:List (DV X)):bI (a++b)=bI a++bI b:=by simp[oP]
theorem sZ(a b:List (Nat×Option (b7 X))):iU (a++b)=iU a++iU b:=by simp[iU]
def NT(ab:List Nat):List (Nat×Option (b7 X)):=ab.map λj=>(j,none)
theorem Da(ab:List Nat):iU (NT (X:=X) ab)=ab.map λk=>(k,none):=by simp[iU,NT]
theorem Ka{ab:List Nat}{p:Nat×Option (b7 X)}(h:p∈NT ab):p.1∈ab:=by simp[NT]at h;obtain⟨j,hj,rfl⟩:=h;exact hj
variable (T:eR) (code:TypeId->Option (CT X.ι))
def ahz:DV X->Bool
 | .nil=>true
 |_=>false
def HI(op:BinOp)(b:DV X)(yes:Bool)(k:KK X A):Option A:=
 match op with
 | .eql=>bif yes then k b [] [] []else k (.c .bool false) [] [] []
 | .neq=>bif yes then k b [] [] []else k (.c .bool true) [] [] []
 |_=>none
def apU(op:BinOp)(t:TypeId)(x:DV X)(k:KK X A):Option A:=
 (T t).bind λti=>match ti.k,x with
 | .slice _,.c (.sl _) l=>HI op .ub (List.isEmpty l) k
 | .slice _,.own _ _ len=>HI op .ub (len==0) k
 | .slice _,.oz _ len=>HI op (.c .bool (op== .eql)) (len==0) k
 | .slice _,.nil=>HI op (.c .bool (op== .eql)) true k
 |_,_=>none
def apy(s d:TypeId)(x:DV X)(k:KK X A):Option A:=
 (T s).bind λ_=>(T d).bind λdi=>match di.k,x with
 | .int kd,.c (.int _) n=>k (.c (.int kd) (kd.wrap (iN n))) [] [] []
 |_,_=>none
def amn(t:TypeId)(x j:DV X)(k:KK X A):Option A:=
 (T t).bind λti=>match ti.k,x,j with
 | .str,.c .str s,.c (.int _) n=>(SV s n).bind λb=>k (.c (.int .u8) b) [] [] []
 | .arr m e,.agg cs,.c (.int _) q=>(T e).bind λei=>bif cP q m then(Iu ei.agg ei.size ((cs.drop (q.toNat*ei.size)).take ei.size)).bind λv=>k v [] [] []else none
 |_,_,_=>none
def abj(t:TypeId)(x:DV X)(lo hi:Option (DV X))(k:KK X A):Option A:=
 (T t).bind λti=>match ti.k,x with
 | .slice e,.nil=>(T e).bind λ_=>(B4 0 lo).bind λl=>(B4 0 hi).bind λh=>bif decide (l=0)&&decide (h=0)then k .nil [] [] []else none
 |_,_=>none
def QC(i:Nat)(b:Builtin)(args:List (DV X))(ej:List TypeId)(get:Nat->Option (b7 X))(k:KK X A):Option A:=
 match b,args,ej with
 | .cap,[.nil],[t]=>(T t).bind λti=>match ti.k with
  | .slice _=>k (.c (.int .i64) (0:Int)) [] [] []
  |_=>none
 | .clear,[.own kk aa _],[t]=>(T t).bind λti=>match ti.k with
  | .slice e=>(T e).bind λei=>(get kk).bind λo=>match o with
   | .eM c l=>if CT.sz X c=ei.size then k (.eI []) [(kk,some (.eM c (l.take aa)))] [kk] [kk]else none
   |_=>none
  |_=>none
 | .append,[.nil,.c (.int _) m],[t,u]=>(T t).bind λti=>(T u).bind λui=>match ti.k,ui.k with
  | .slice e,.int _=>(T e).bind λei=>(code e).bind λc=>if CT.sz X c=ei.size/\0<ei.size then(NK c (ei.zero.map xv)).bind λz=>
   bif qH (iN m) ei.bytes then k (.own (cC i) 0 m.toNat) [(cC i,some (.eM c (List.replicate m.toNat z)))] [] []else none else none
  |_,_=>none
 |_,_,_=>none
def QD(x:DV X)(k:KK X A):Option A:=
 match x with
 | .ptr kk r f=>k (.ptr kk r f) [] [] []
 | .sk kk n f=>k (.sk kk n f) [] [] []
 | .uv kk r f m n=>k (.uv kk r f m n) [] [] []
 | .rp c y f=>k (.rp c y f) [] [] []
 |_=>none
def amo(i:Nat)(t:TypeId)(l c:DV X)(k:KK X A):Option A:=
 (T t).bind λti=>match ti.k,l,c with
 | .slice e,.c (.int _) n,.c (.int _) m=>(T e).bind λei=>(code e).bind λc=>if CT.sz X c=ei.size/\0<ei.size then(NK c (ei.zero.map xv)).bind λz=>
  bif decide (iN n<=iN m)&&(decide (0<=iN n)&&qH (iN m) ei.bytes)then k (.own (cC i) 0 n.toNat) [(cC i,some (.eM c (List.replicate n.toNat z)))] [] []else none else none
 |_,_,_=>none
def WU(i:Nat)(t:TypeId)(k:KK X A):Option A:=
 (T t).bind λti=>match ti.k with
 | .map kt et=>(code kt).bind λkc=>(code et).bind λvc=>k (.mp (cC i)) [(cC i,some (.map kc vc []))] [] []
 |_=>none
def acQ(t:TypeId)(x key:DV X)(ok:Bool)(get:Nat->Option (b7 X))(k:KK X A):Option A:=
 (T t).bind λti=>match ti.k,x with
 | .map kt et,.mp kk=>(T kt).bind λki=>(T et).bind λei=>(get kk).bind λo=>match o with
  | .map kc vc l=>(NS kc).bind λeq=>(Ma key kc).bind λkv=>if GM ki.k kc=true/\ei.agg=aqO vc/\ei.size=CT.sz X vc then(NK vc (ei.zero.map xv)).bind λz=>
   bif ok then k (.eI [.c vc ((gH eq kv l).getD z),.c .bool (gH eq kv l).isSome]) [] [kk] []else k (.c vc ((gH eq kv l).getD z)) [] [kk] []else none
  |_=>none
 |_,_=>none
def acR(t:TypeId)(x key y:DV X)(get:Nat->Option (b7 X))(k:KK X A):Option A:=
 (T t).bind λti=>match ti.k,x with
 | .map kt _,.mp kk=>(T kt).bind λki=>(get kk).bind λo=>match o with
  | .map kc vc l=>(NS kc).bind λeq=>(Ma key kc).bind λkv=>(dat y vc).bind λv=>if GM ki.k kc=true then k .undef [(kk,some (.map kc vc (Gr eq kv v l)))] [kk] [kk]else none
  |_=>none
 |_,_=>none
def aqP(o:Op)(ρ:Operand->DV X):Bool:=
 match o with
 | .binOp _ _ _ y _=>ahz (ρ y)
 | .convert _ _ _=>true
 | .index _ _ _=>true
 | .nilCheck _=>true
 | .makeSlice _ _ _=>true
 | .makeMap _ none=>true
 | .lookup _ _ _ _=>true
 | .mapUpdate _ _ _ _=>true
 | .slice _ x _ _ none=>ahz (ρ x)
 | .call { callee:= .builtin b,args:=args,argTypes:=_ }=>match b,args.toList.map ρ with
  | .cap,_=>true
  | .clear,_=>true
  | .append,[_,.c (.int _) _]=>true
  |_,_=>false
 |_=>false
def apV(i:Nat)(o:Op)(ρ:Operand->DV X)(get:Nat->Option (b7 X))(k:KK X A):Option A:=
 match o with
 | .binOp op t x y _=>if ahz (ρ y)then apU T op t (ρ x) k else none
 | .convert s d x=>apy T s d (ρ x) k
 | .index t x j=>amn T t (ρ x) (ρ j) k
 | .slice t x lo hi none=>abj T t (ρ x) (lo.map ρ) (hi.map ρ) k
 | .nilCheck x=>QD (ρ x) k
 | .makeSlice t l c=>amo T code i t (ρ l) (ρ c) k
 | .makeMap t none=>WU T code i t k
 | .lookup t m x ok=>acQ T t (ρ m) (ρ x) ok get k
 | .mapUpdate t m x v=>acR T t (ρ m) (ρ x) (ρ v) get k
 | .call { callee:= .builtin b,args:=args,argTypes:=ej }=>QC T code i b (args.toList.map ρ) ej.toList get k
 |_=>none
def NB(get:Nat->Option (b7 X))(c:CT X.ι)(ρ:Operand->DV X)(x:Operand):DV X:=
 match Gh get (ρ x) c with
 |some y=> .c c y.1
 |none=>ρ x
def Rd(get:Nat->Option (b7 X))(c:CT X.ι)(ρ:Operand->DV X):List Operand->List Bool
 |[]=>[]
 |x::xs=>(match Gh get (ρ x) c with |some y=>y.2 |none=>[])++Rd get c ρ xs
def B9(get:Nat->Option (b7 X))(c:CT X.ι)(ρ:Operand->DV X):List Operand->List Nat
 |[]=>[]
 |x::xs=>(match Gh get (ρ x) c with |some _=>bz (ρ x) |none=>[])++B9 get c ρ xs
def aov(o:Op)(ρ:Operand->DV X)(get:Nat->Option (b7 X)):Option (CT X.ι):=
 match o with
 | .box t _=>code t
 | .assign x | .move x=>match ρ x with
  | .own kk _ _=>(get kk).bind λo=>match o with
   | .eM c _=>some (.sl c)
   |_=>none
  |_=>none
 | .buildSlice t _ _=>(T t).bind λti=>match ti.k with
  | .slice e=>code e
  |_=>none
 | .store t _ _=>code t
 |_=>none
def aqQ(o:Op)(ρ:Operand->DV X):Bool:=
 match o with
 | .buildSlice _ _ parts=>!(aS (parts.toList.map λp=>ρ p.2)).isEmpty
 | .store _ a x=>match ρ a with
  | .sk _ _ _=>!(bz (ρ x)).isEmpty
  |_=>false
 |_=>false
def apW(i:Nat)(o:Op)(ρ:Operand->DV X)(get:Nat->Option (b7 X))(k:KK X A):Option A:=
 if ahc o then none else(aov T code o ρ get).bind λc=>WE (Rd get c ρ o.operands.toList)
  (PP T code i o (NB get c ρ) (λ j=>if j∈B9 get c ρ o.operands.toList then none else get j) λdv upd rd wr=>
   k dv (upd++NT (B9 get c ρ o.operands.toList)) (rd++B9 get c ρ o.operands.toList) (wr++B9 get c ρ o.operands.toList))
def aqR(o:Op)(ρ:Operand->DV X):Bool:=
 match o with
 | .indexAddr t x (.tmp _)=>match ρ x,T t with
  | .ptr _ _ _,some ti | .rp _ _ _,some ti=>match ti.k with
   | .arr _ e=>match T e with
    |some ei=>ei.size==1
    |none=>false
   |_=>false
  |_,_=>false
 | .load _ a=>match ρ a with
  | .uv _ _ _ _ _ | .y4 _ _ _ _ _=>true
  |_=>false
 |_=>false
def G2(c:CT X.ι):List (DV X)->Option (List (CT.T X.toSE c))
 |[]=>some []
 | .c a x::r=>(lg a c x).bind λy=>(G2 c r).bind λl=>some (y::l)
 |_=>none
def apX(o:Op)(ρ:Operand->DV X)(get:Nat->Option (b7 X))(k:KK X A):Option A:=
 match o with
 | .indexAddr t x j=>(T t).bind λti=>match ti.k,ρ x,ρ j with
  | .arr m e,.ptr kk row aa,.c (.int _) n=>(T e).bind λei=>if ei.size=1 then bif cP n m then k (.uv kk row aa m n) [] [] []else none else none
  | .arr m e,.rp c y aa,.c (.int _) n=>(T e).bind λei=>if ei.size=1 then bif cP n m then k (.y4 c y aa m n) [] [] []else none else none
  |_,_,_=>none
 | .load t a=>(T t).bind λti=>match ρ a with
  | .uv kk row aa m n=>if ti.size=1/\ti.agg=false then(code t).bind λc=>if c.one=true then(get kk).bind λo=>match o with
   | .cells _ rows=>(rows[row]?).bind λq=>(G2 c ((q.drop aa).take m)).bind λ(xs:List (CT.T X.toSE c))=>(bj xs n).bind λy=>k (.c c y) [] [kk] []
   | .eM _ _=>none
   |_=>none
   else none else none
  | .y4 b y aa m n=>if ti.size=1/\ti.agg=false then(code t).bind λc=>if c.one=true then(G2 c (((vQ b y).drop aa).take m)).bind λ(xs:List (CT.T X.toSE c))=>(bj xs n).bind λy=>k (.c c y) [] [] []
   else none else none
  |_=>none
 |_=>none
variable {T code}
def eK(P:Program)(T:eR)(i:Nat)(o:Oper)(ρ:Operand->DV X)(get:Nat->Option (b7 X))(k:KK X A)(r:A):Prop:=
 ∃cM rd wr dv upd out,jO P T i o cM (λ x=>den (ρ x)) (dI rd (fD get))=some out/\iT out.obs/\out.v=den dv/\out.upd=iU upd/\(∀ p∈upd,p.1=cC i\/p.1∈wr)/\k dv upd rd wr=some r
section
variable {P:Program} {get:Nat->Option (b7 X)} {k:KK X A} {r:A} {i:Nat} {o:Oper} {ρ:Operand->DV X}
theorem amr{t:TypeId}{x:AV}{cM:kq}(h:(∃ n,cM= .ext n)\/∃ab fr q,cM= .zz ab fr q):Cl T t x .none=Cl T t x cM:=by grind [Cl]
theorem WV{t:TypeId}{x j:AV}{cM:kq}{get:Nat->Option aN}(h:(∃ n,cM= .ext n)\/∃ab fr q,cM= .zz ab fr q):mX T t x j .none get=mX T t x j cM get:=by
 unfold mX;rcases T t with _ |ti;rfl;simp;generalize ti.k=kk;cases kk<;>try rfl
 case arr m e=>
  cases j<;>try rfl
  rename_i y;cases y<;>try rfl
  rename_i y;cases y<;>rfl
 cases j<;>try rfl
 rename_i e y;cases y<;>try rfl
 rename_i y;cases y<;>try rfl
 simp;rcases T e with _ |ei;rfl;rcases h with ⟨n,rfl⟩ |⟨ab,fr,q,rfl⟩<;>cases x<;>try rfl
 all_goals (rename_i z;cases z<;>rfl)
theorem aeJ{t:TypeId}{x y:AV}{cM:kq}{get:Nat->Option aN}(h:(∃ n,cM= .ext n)\/∃ab fr q,cM= .zz ab fr q):Aq T i t x y .none get=Aq T i t x y cM get:=by grind [Aq]
theorem akv{cM:kq}{ρ:Operand->AV}{get:Nat->Option aN}(h:(∃ n,cM= .ext n)\/∃ab fr q,cM= .zz ab fr q):qZ T i o .none ρ get=qZ T i o cM ρ get:=by
 obtain⟨dst,op,ty,am,after,guard⟩:=o;cases op
 case call c=>
  obtain⟨callee,args,ej⟩:=c;cases callee<;>try rfl
  simp[qZ,CW];split;exact amr h;rfl;rfl;rw[aeJ h];rfl
 case slice t x lo hi mx=>cases mx<;>rcases h with ⟨n,rfl⟩ |⟨ab,fr,q,rfl⟩<;>rfl
 case makeFunc fn a b=>cases fn<;>rfl
 case indexAddr t x j=>exact WV h
 all_goals (rcases h with ⟨n,rfl⟩ |⟨ab,fr,q,rfl⟩<;>rfl)
theorem eK.ext{n:Int}{rd wr:List Nat}{dv:DV X}{upd:List (Nat×Option (b7 X))}{out:Out}(h:tX T i o n (λ x=>den (ρ x)) (dI rd (fD get))=some out)(h1:iT out.obs)(h2:out.v=den dv)(h3:out.upd=iU upd)(h4:∀p∈upd,p.1=cC i\/p.1∈wr)(h5:k dv upd rd wr=some r)(hx:N3 o.op=false:=by rfl):eK P T i o ρ get k r:=
 ⟨.ext n,rd,wr,dv,upd,out,by show tY T i o n _ _=some out;unfold tY;rw[hx];simp[h],h1,h2,h3,h4,h5⟩
theorem eK.xt{n:Int}{rd wr:List Nat}{dv:DV X}{upd:List (Nat×Option (b7 X))}{out:Out}(h:Ez T i o n (λ x=>den (ρ x)) (dI rd (fD get))=some out)(h1:iT out.obs)(h2:out.v=den dv)(h3:out.upd=iU upd)(h4:∀p∈upd,p.1=cC i\/p.1∈wr)(h5:k dv upd rd wr=some r)(hx:N3 o.op=true:=by rfl):eK P T i o ρ get k r:=
 ⟨.ext n,rd,wr,dv,upd,out,by show tY T i o n _ _=some out;unfold tY;rw[hx];simp[h],h1,h2,h3,h4,h5⟩
theorem TU{x:DV X}(h:QD x k=some r):∃dv,Qo (den x)=some ⟨den dv,[],[]⟩/\k dv [] [] []=some r:=by cases x<;>simp[QD]at h<;>first |cases h |exact⟨_,rfl,h⟩
theorem abk{cM:kq}{ρ:Operand->AV}{get:Nat->Option aN}(hne:∀f args ej,o.op≠ .call { callee:= .value f,args:=args,argTypes:=ej })(ho:∀n,cM≠ .ext n)(hf:∀ab fr q,cM≠ .zz ab fr q):jO P T i o cM ρ get=qZ T i o cM ρ get:=by
 have e:∀(α:Type) (a:Operand->Array Operand->Array TypeId->α) (b:α),(match o.op with | .call { callee:= .value f,args:=args,argTypes:=ej }=>a f args ej |_=>b)=b:=by grind
 cases cM<;>first |exact(ho _ rfl).elim |exact(hf _ _ _ rfl).elim |exact e _ _ _
theorem eK.op{cM:kq}{rd wr:List Nat}{dv:DV X}{upd:List (Nat×Option (b7 X))}{out:Out}(hne:∀f args ej,o.op≠ .call { callee:= .value f,args:=args,argTypes:=ej })
 (h:qZ T i o cM (λ x=>den (ρ x)) (dI rd (fD get))=some out) (h1:iT out.obs/\out.v=den dv/\out.upd=iU upd/\(∀ p∈upd,p.1=cC i\/p.1∈wr)/\k dv upd rd wr=some r):eK P T i o ρ get k r:=by
 obtain⟨xd,h'⟩:∃xd,jO P T i o xd (λ x=>den (ρ x)) (dI rd (fD get))=some out:=by by_cases hx:(∃ n,cM= .ext n)\/∃ab fr q,cM= .zz ab fr q;refine⟨.none,?_⟩;rw[abk hne (by simp) (by simp),akv hx,h];simp at hx;exact⟨cM,by rw[abk hne hx.1 (λ ab fr q=>hx.2 ab fr q),h]⟩
 exact⟨xd,rd,wr,dv,upd,out,h',h1⟩
theorem eK.call{dst:Option Tmp}{f:Operand}{args:Array Operand}{ej:Array TypeId}{ty:TypeId}{am:String}{after:Array Edge}{guard:Option (Nat×Bool)}{cM:kq}{rd wr:List Nat}{dv:DV X}{upd:List (Nat×Option (b7 X))}{out:Out}
 (h:lQ P i (den (ρ f)) (args.toList.map λx=>den (ρ x)) cM (dI rd (fD get))=some out) (h1:iT out.obs/\out.v=den dv/\out.upd=iU upd/\(∀ p∈upd,p.1=cC i\/p.1∈wr)/\k dv upd rd wr=some r):
 eK P T i ⟨dst,.call { callee:= .value f,args:=args,argTypes:=ej },ty,am,after,guard⟩ ρ get k r:=by
 refine⟨cM,rd,wr,dv,upd,out,?_,h1⟩;unfold jO
 all_goals grind [lQ,rJ,Au]
theorem Kb{op:BinOp}{b:DV X}{yes:Bool}(h:HI op b yes k=some r):∃dv out,GW op (den b) yes=some out/\iT out.obs/\out.v=den dv/\out.upd=[]/\k dv [] [] []=some r:=by
 unfold HI at h;split at h;cases yes with
 |true=>exact⟨b,_,rfl,trivial,rfl,rfl,h⟩
 |false=>exact⟨.c .bool false,_,rfl,trivial,rfl,rfl,h⟩
 cases yes with
 |true=>exact⟨b,_,rfl,trivial,rfl,rfl,h⟩
 |false=>exact⟨.c .bool true,_,rfl,trivial,rfl,rfl,h⟩
 cases h
theorem ahB{op:BinOp}{t:TypeId}{x:DV X}(h:apU T op t x k=some r):∃dv out,B7 T op t (den x) .dE=some out/\iT out.obs/\out.v=den dv/\out.upd=[]/\k dv [] [] []=some r:=by unfold apU at h;rw[ah]at h;obtain⟨ti,h1,h⟩:=h;split at h;rename_i e c l hk;have⟨dv,out,g1,g2⟩:=Kb h;refine⟨dv,out,?_,g2⟩;simp[B7,h1,hk];rw[<- g1];cases l<;>rfl;rename_i e kk aa len hk;have⟨dv,out,g1,g2⟩:=Kb h;exact⟨dv,out,by simp[B7,h1,hk];exact g1,g2⟩;rename_i e kk len hk;have⟨dv,out,g1,g2⟩:=Kb h;exact⟨dv,out,by simp[B7,h1,hk];exact g1,g2⟩;rename_i e hk;have⟨dv,out,g1,g2⟩:=Kb h;exact⟨dv,out,by simp[B7,h1,hk];exact g1,g2⟩;cases h
theorem ahC{s:ByteArray}{n b:Int}(h:SV s n=some b):0<=n/\∃c,s[n.toNat]? =some c/\b=c.toNat:=by
 unfold SV at h
 all_goals grind
theorem abl{m:Int}{bytes:Nat}(h:qH m bytes=true):0<=m/\m.toNat*bytes<=140737488355328/\m.toNat<=maxLen:=by simpa[qH,and_assoc]using h
theorem TW{b:Builtin}{args:List (DV X)}{ej:List TypeId}(h:QC T code i b args ej get k=some r):
 ∃rd wr dv upd out,vM T i b (bI args) ej (dI rd (fD get))=some out/\iT out.obs/\out.v=den dv/\out.upd=iU upd/\(∀ p∈upd,p.1=cC i\/p.1∈wr)/\k dv upd rd wr=some r:=by unfold QC at h;split at h;rw[ah]at h;obtain⟨ti,h1,h⟩:=h;split at h;rename_i e hk;refine⟨[],[],_,[],⟨.t (.sc (.int .i64 0)),[],[]⟩,?_,trivial,rfl,rfl,by simp,h⟩;simp[vM,bI,den,h1,hk];rfl;cases h;rename_i kk aa len t;rw[ah]at h;obtain⟨ti,h1,h⟩:=h;split at h;rename_i e hk;rw[ah]at h;obtain⟨ei,h2,h⟩:=h;rw[ah]at h;obtain⟨o,h3,h⟩:=h;split at h;rename_i c l;split at h;rename_i hs;refine⟨[kk],[kk],_,_,⟨.eI [],[(kk,some ⟨CT.sz X c,(aK (l.map (CT.row X.toSE c))).take aa⟩)],[]⟩,?_,trivial,rfl,?_,by simp,h⟩;simp only[vM,bI,den,h1,ai,hk,h2,eY (List.mem_singleton_self kk) h3,bM];rw[aU hs];simp[iU,bM,aK];cases h;cases h;cases h;rename_i kd m t u;rw[ah]at h;obtain⟨ti,h1,h⟩:=h;rw[ah]at h;obtain⟨ui,h2,h⟩:=h;split at h;rename_i e kn hk hk';rw[ah]at h;obtain⟨ei,h3,h⟩:=h;rw[ah]at h;obtain⟨c,h4,h⟩:=h;split at h;rename_i hs;have⟨z,h5,h⟩:=ah.1 h;have⟨h6,h⟩:=dW h;have⟨m1,m2,m3⟩:=abl h6;have hz:=yR h5;rw[CZ]at hz;refine⟨[],[],_,_,⟨.own (cC i) 0 m.toNat,[(cC i,some ⟨ei.size,dS (List.replicate m.toNat (ei.zero.map cv))⟩)],[0<=m/\m.toNat*ei.bytes<=140737488355328/\m.toNat<=maxLen/\0<ei.size]⟩,?_,?_,rfl,?_,by simp,h⟩;simp[vM,bI,den,CT.tv,TV.av,h1,h2,h3,hk,hk'];exact⟨m1,m2,m3,hs.2⟩;simp only[iU,bG,map_nil,Option.map_some,bM,hs.1,aK,dS,List.map_replicate];rw[hz];cases h;cases h;cases h
theorem aeK{t:TypeId}{l c:DV X}(h:amo T code i t l c k=some r):∃dv upd out,Pl T i t (den l) (den c)=some out/\iT out.obs/\out.v=den dv/\out.upd=iU upd/\(∀ p∈upd,p.1=cC i)/\k dv upd [] []=some r:=by unfold amo at h;rw[ah]at h;obtain⟨ti,h1,h⟩:=h;split at h;rename_i e kl n kc m hk;rw[ah]at h;obtain⟨ei,h3,h⟩:=h;rw[ah]at h;obtain⟨c,h4,h⟩:=h;split at h;rename_i hs;rw[ah]at h;obtain⟨z,h5,h⟩:=h;have⟨h6,h⟩:=dW h;simp at h6;obtain⟨h7,h8,h9⟩:=h6;have⟨m1,m2,m3⟩:=abl h9;have hz:=yR h5;rw[CZ]at hz;refine⟨_,_,⟨.own (cC i) 0 n.toNat,[(cC i,some ⟨ei.size,dS (List.replicate n.toNat (ei.zero.map cv))⟩)],[0<=n/\n<=m/\m.toNat*ei.bytes<=140737488355328/\m.toNat<=maxLen/\0<ei.size]⟩,?_,?_,rfl,?_,by simp,h⟩;simp[Pl,den,CT.tv,TV.av,h1,h3,hk];exact⟨h8,h7,m2,m3,hs.2⟩;simp only[iU,bG,map_nil,Option.map_some,bM,hs.1,aK,dS,List.map_replicate];rw[hz];cases h;cases h
theorem WW{t:TypeId}(h:WU T code i t k=some r):∃dv upd out,Il T i t=some out/\iT out.obs/\out.v=den dv/\out.upd=iU upd/\(∀ p∈upd,p.1=cC i)/\k dv upd [] []=some r:=by unfold WU at h;rw[ah]at h;obtain⟨ti,h1,h⟩:=h;split at h;rename_i kt et hk;have⟨kc,h2,h⟩:=ah.1 h;have⟨vc,h3,h⟩:=ah.1 h;exact⟨_,_,⟨.mp (cC i),[(cC i,some ⟨0,[]⟩)],[]⟩,by simp[Il,h1,hk],trivial,rfl,rfl,by simp,h⟩;cases h
theorem ams{ki:pS}{kc:CT X.ι}(h:GM ki.k kc=true)(x:CT.T X.toSE kc):∃v,(CT.tv X.toSE kc x).av= .t (.sc v)/\Nw ki.k v=true:=by
 cases kc
 case int b=>
  refine⟨.int b x,rfl,?_⟩;cases hk:ki.k<;>rw[hk]at h<;>simp[GM]at h;subst h;simp[Nw]
 case str=>
  refine⟨.string x,rfl,?_⟩;cases hk:ki.k<;>rw[hk]at h<;>simp[GM]at h;rfl
 case bool=>
  refine⟨.bool x,rfl,?_⟩;cases hk:ki.k<;>rw[hk]at h<;>simp[GM]at h;rfl
 all_goals (cases hk:ki.k<;>rw[hk]at h<;>simp[GM]at h)
theorem aeL{kc:CT X.ι}{eq:CT.T X.toSE kc->CT.T X.toSE kc->Bool}(h:NS kc=some eq){a b:CT.T X.toSE kc}{va:Value}(ha:(CT.tv X.toSE kc a).av= .t (.sc va)):∃vb,(CT.tv X.toSE kc b).av= .t (.sc vb)/\Ny va vb=some (eq a b):=by
 cases kc
 case int q=>
  simp[NS]at h;subst h;simp[CT.tv,TV.av]at ha;subst ha;exact⟨_,rfl,by simp[Ny,iEq]⟩
 case str=>
  simp[NS]at h;subst h;simp[CT.tv,TV.av]at ha;subst ha;exact⟨_,rfl,by simp[Ny,fi]⟩
 case bool=>
  simp[NS]at h;subst h;simp[CT.tv,TV.av]at ha;subst ha;exact⟨_,rfl,by simp[Ny,bEq]⟩
 all_goals simp[NS]at h
theorem abm{kc vc:CT X.ι}{eq:CT.T X.toSE kc->CT.T X.toSE kc->Bool}(h:NS kc=some eq){a:CT.T X.toSE kc}{va:Value}(ha:(CT.tv X.toSE kc a).av= .t (.sc va)):∀l:List (CT.T X.toSE kc×CT.T X.toSE vc),
 ∃r,xY va (bM (.map kc vc l:b7 X)).rows=some r/\r.map (·.2)=(gH eq a l).map λv=>(CT.tv X.toSE vc v).av
 |[]=>⟨none,rfl,rfl⟩
 |p::l=>by
  have⟨vb,h1,h2⟩:=aeL h (b:=p.1) ha;have⟨r,g1,g2⟩:=abm h ha l;have g1':xY va (l.map λp=>[(CT.tv X.toSE kc p.1).av,(CT.tv X.toSE vc p.2).av])=some r:=g1;simp[bM,h1,xY,h2,gH];cases eq a p.1 with
  |true=>exact⟨_,rfl,rfl⟩
  |false=>
   simp only[Bool.false_eq_true,if_false,g1',Option.map_some,au];exact⟨_,rfl,by rw[<- g2,Option.map_map];rfl⟩
theorem aeM{kc vc:CT X.ι}{eq:CT.T X.toSE kc->CT.T X.toSE kc->Bool}(h:NS kc=some eq){a:CT.T X.toSE kc}{va:Value}(ha:(CT.tv X.toSE kc a).av= .t (.sc va))(y:CT.T X.toSE vc):∀l:List (CT.T X.toSE kc×CT.T X.toSE vc),
 AD va (CT.tv X.toSE vc y).av (bM (.map kc vc l:b7 X)).rows=some (bM (.map kc vc (Gr eq a y l):b7 X)).rows
 |[]=>by simp[bM,AD,Gr,ha]
 |p::l=>by
  have⟨vb,h1,h2⟩:=aeL h (b:=p.1) ha;have g:=aeM h ha y l;have g':AD va (CT.tv X.toSE vc y).av (l.map λp=>[(CT.tv X.toSE kc p.1).av,(CT.tv X.toSE vc p.2).av])=some ((Gr eq a y l).map λp=>[(CT.tv X.toSE kc p.1).av,(CT.tv X.toSE vc p.2).av]):=g;simp[bM,h1,AD,Gr]
  grind
theorem zero_den{vc:CT X.ι}{ei:pS}{z:CT.T X.toSE vc}(h:NK vc (ei.zero.map xv)=some z)(ha:ei.agg=aqO vc)(hs:ei.size=CT.sz X vc):part' ei.agg ei.size ((ei.zero.map cv).map wk)=some (CT.tv X.toSE vc z).av:=by
 have hz:=yR h;rw[CZ]at hz;rw[hz,ha,hs];have hl:((CT.row X.toSE vc z).map AV.t).length=CT.sz X vc:=by rw[length_map,Ir]
 unfold part';rw[aU hl];cases vc<;>rfl
theorem aow{d:DV X}{c:CT X.ι}{x:CT.T X.toSE c}(h:dat d c=some x):Hk (den d)=(CT.tv X.toSE c x).av:=by
 cases c
 case st j=>
  replace h:GP d j=some x:=h
  cases d
  case agg cs=>
   simp[GP]at h;rw[ah]at h;obtain⟨g,h1,h⟩:=h;cases h;simp[den,Hk,(za h1 (X.flat j)).1];rw[<- WK];rfl
  case c a y=>
   rw[(pF h).1];simp only[den,CT.tv,TV.av,Hk,map_map];congr 1
  all_goals cases h
 all_goals
  (have h':=h
   have hd:=wW h';cases d
   case c a y=>
    obtain⟨e,_⟩:=sK (show lg a _ y=some x from h);subst e;exact hd
   all_goals first |exact hd |(cases h))
theorem ZP{t:TypeId}{x key:DV X}{ok:Bool}(h:acQ T t x key ok get k=some r):∃rd dv out,J5 T t (den x) (den key) ok (dI rd (fD get))=some out/\iT out.obs/\out.v=den dv/\out.upd=[]/\k dv [] rd []=some r:=by
 unfold acQ at h;rw[ah]at h;obtain⟨ti,h1,h⟩:=h;split at h
 ·rename_i kt et kk hk;rw[ah]at h;obtain⟨ki,h2,h⟩:=h;rw[ah]at h;obtain⟨ei,h3,h⟩:=h;rw[ah]at h;obtain⟨o,h4,h⟩:=h;split at h
  ·rename_i kc vc l;rw[ah]at h;obtain⟨eq,h5,h⟩:=h;rw[ah]at h;obtain⟨kv,h6,h⟩:=h;split at h
   ·rename_i hc;have⟨z,h7,h⟩:=ah.1 h;have⟨va,g1,g2⟩:=ams hc.1 kv;have⟨q,g3,g4⟩:=abm (vc:=vc) h5 g1 l;have hkey:den key= .t (.sc va):=(by have:=wW h6;rw[g1]at this;cases hd:den key<;>rw[hd]at this<;>simp only[wk,AV.t.injEq,reduceCtorEq]at this;subst this;rfl);have hv:∀q:Option (Nat×AV),q.map (·.2)=(gH eq kv l).map (λ v=>(CT.tv X.toSE vc v).av)->xe q (part' ei.agg ei.size ((ei.zero.map cv).map wk))=some (CT.tv X.toSE vc ((gH eq kv l).getD z)).av:=by
     intro q g;cases hm:gH eq kv l with
     |none=>
      rw[hm]at g;cases q with
      |none=>exact zero_den h7 hc.2.1 hc.2.2
      |some p=>simp at g
     |some v=>
      rw[hm]at g;cases q with
      |none=>simp at g
      |some p=>simp only[Option.map_some,bL]at g;simp only[xe,g,Option.getD_some]
    have hi:q.isSome=(gH eq kv l).isSome:=(by have:=congrArg Option.isSome g4;simpa using this);have hb:J5 T t (den (.mp kk:DV X)) (den key) ok (dI [kk] (fD get))=pv (if ok then .eI [den (.c vc ((gH eq kv l).getD z):DV X),.t (.sc (.bool q.isSome))]else den (.c vc ((gH eq kv l).getD z):DV X)):=(by simp only[J5,h1,ai,hk,den,hkey,h2,h3,eY (List.mem_singleton_self kk) h4];rw[aU ⟨g2,by simp[bM]⟩,g3,ai,hv q g4,ai]);cases ok with
    |true=>exact⟨[kk],_,_,hb,trivial,by simp only[if_true,den,bI,hi];rfl,rfl,h⟩
    |false=>exact⟨[kk],_,_,hb,trivial,rfl,rfl,h⟩
   ·cases h
  ·cases h
 ·cases h
theorem ZQ{t:TypeId}{x key y:DV X}(h:acR T t x key y get k=some r):∃rd wr dv upd out,J6 T t (den x) (den key) (den y) (dI rd (fD get))=some out/\iT out.obs/\out.v=den dv/\out.upd=iU upd/\(∀ p∈upd,p.1∈wr)/\k dv upd rd wr=some r:=by
 unfold acR at h;rw[ah]at h;obtain⟨ti,h1,h⟩:=h;split at h
 ·rename_i kt et kk hk;rw[ah]at h;obtain⟨ki,h2,h⟩:=h;rw[ah]at h;obtain⟨o,h4,h⟩:=h;split at h
  ·rename_i kc vc l;rw[ah]at h;obtain⟨eq,h5,h⟩:=h;rw[ah]at h;obtain⟨kv,h6,h⟩:=h;rw[ah]at h;obtain⟨v,h7,h⟩:=h;split at h
   ·rename_i hc;have⟨va,g1,g2⟩:=ams hc kv;have g3:=aeM (vc:=vc) h5 g1 v l;have hkey:den key= .t (.sc va):=(by have:=wW h6;rw[g1]at this;cases hd:den key<;>rw[hd]at this<;>simp only[wk,AV.t.injEq,reduceCtorEq]at this;subst this;rfl);refine⟨[kk],[kk],_,_,⟨.undef,[(kk,some ⟨(bM (.map kc vc (Gr eq kv v l):b7 X)).rows.length,(bM (.map kc vc (Gr eq kv v l):b7 X)).rows⟩)],[]⟩,?_,trivial,rfl,?_,by simp,h⟩
    ·simp only[J6,h1,ai,hk,den,hkey,h2,eY (List.mem_singleton_self kk) h4];rw[aU ⟨g2,by simp[bM]⟩,aow h7,g3];rfl
    ·simp[iU,bM]
   ·cases h
  ·cases h
 ·cases h
theorem ahD(h:apV T code i o.op ρ get k=some r):eK P T i o ρ get k r:=by
 obtain⟨dst,op,ty,am,after,guard⟩:=o;unfold apV at h;simp only at h;split at h
 ·rename_i op t x y q;split at h
  ·rename_i hn;have⟨dv,out,g1,g2,g3,g4,g5⟩:=ahB h;have hy:den (ρ y)= .dE:=(by cases hρ:ρ y<;>rw[hρ]at hn<;>first |rfl |cases hn);exact eK.ext (n:=0) (rd:=[]) (wr:=[]) (upd:=[]) (by simp only[tX,hy];exact g1) g2 g3 g4 (by simp) g5
  ·cases h
 ·rename_i s d x;unfold apy at h;rw[ah]at h;obtain⟨si,h1,h⟩:=h;rw[ah]at h;obtain⟨di,h2,h⟩:=h;split at h
  ·rename_i kd k' n hk hx;refine eK.ext (n:=0) (rd:=[]) (wr:=[]) (upd:=[]) (out:=⟨.t (.sc (.int kd (kd.wrap n))),[],[]⟩) ?_ trivial rfl rfl (by simp) h;simp only[tX,SZ,h1,h2,ai,hk,hx];rfl
  ·cases h
 ·rename_i t x j;unfold amn at h;rw[ah]at h;obtain⟨ti,h1,h⟩:=h;split at h
  ·rename_i s kk n hk hx hj;rw[ah]at h;obtain⟨b,h2,h⟩:=h;refine eK.ext (n:=b) (rd:=[]) (wr:=[]) (upd:=[]) (out:=⟨.t (.sc (.int .u8 b)),[],[0<=n/\∃c,s[n.toNat]? =some c/\b=c.toNat]⟩) ?_ (ahC h2) rfl rfl (by simp) h;simp only[tX,Wh,h1,ai,hk,hx,hj];rfl
  ·rename_i m e cs kd q hk hx hj;rw[ah]at h;obtain⟨ei,h2,h⟩:=h;have⟨h3,h⟩:=dW h;rw[ah]at h;obtain⟨v,h4,h⟩:=h;simp only[cP,aY,bF]at h3;refine eK.ext (n:=0) (rd:=[]) (wr:=[]) (upd:=[]) (out:=⟨den v,[],[0<=q/\q<(m:Int)]⟩) ?_ h3 rfl rfl (by simp) h;have h5:=C8 h4;rw[kG]at h5;simp only[tX,Wh,h1,ai,hk,hx,hj,h2,den,CT.tv,TV.av,h5];rfl
  ·cases h
 ·rename_i t x lo hi;unfold abj at h;rw[ah]at h;obtain⟨ti,h1,h⟩:=h;split at h
  ·rename_i e hk hx;rw[ah]at h;obtain⟨ei,h2,h⟩:=h;rw[ah]at h;obtain⟨l,h3,h⟩:=h;rw[ah]at h;obtain⟨hh,h4,h⟩:=h;have⟨h5,h⟩:=dW h;refine eK.ext (n:=0) (rd:=[]) (wr:=[]) (upd:=[]) (out:=⟨.dE,[],[l=0/\hh=0]⟩) ?_ (show l=0/\hh=0 by simpa using h5) rfl rfl (by simp) h;have e1:=C9 h3;have e2:=C9 h4;rw[Option.map_map]at e1 e2;simp only[tX,J4,h1,ai,hk,hx,h2,den];have QQ:bnd 0 (lo.map λx=>den (ρ x))=some l:=e1;have e2':bnd 0 (hi.map λx=>den (ρ x))=some hh:=e2;rw[QQ,ai,e2'];rfl
  ·cases h
 ·rename_i x;have⟨dv,g1,g2⟩:=TU h;exact eK.xt (n:=0) (rd:=[]) (wr:=[]) (upd:=[]) g1 trivial rfl rfl (by simp) g2
 ·rename_i t l c;have⟨dv,upd,out,g1,g2,g3,g4,g5,g6⟩:=aeK h;exact eK.xt (n:=0) (rd:=[]) (wr:=[]) (upd:=upd) g1 g2 g3 g4 (λ p hp=> .inl (g5 p hp)) g6
 ·rename_i t;have⟨dv,upd,out,g1,g2,g3,g4,g5,g6⟩:=WW h;exact eK.xt (n:=0) (rd:=[]) (wr:=[]) (upd:=upd) g1 g2 g3 g4 (λ p hp=> .inl (g5 p hp)) g6
 ·rename_i t m x ok;have⟨rd,dv,out,g1,g2,g3,g4,g6⟩:=ZP h;exact eK.xt (n:=0) (rd:=rd) (wr:=[]) (upd:=[]) g1 g2 g3 g4 (by simp) g6
 ·rename_i t m x v;have⟨rd,wr,dv,upd,out,g1,g2,g3,g4,g5,g6⟩:=ZQ h;exact eK.xt (n:=0) (rd:=rd) (wr:=wr) (upd:=upd) g1 g2 g3 g4 (λ p hp=> .inr (g5 p hp)) g6
 ·rename_i b args ej;have⟨rd,wr,dv,upd,out,g1,g2,g3,g4,g5,g6⟩:=TW h;refine eK.ext (n:=0) (rd:=rd) (wr:=wr) (upd:=upd) ?_ g2 g3 g4 g5 g6;simp only[tX,Vm];exact g1
 ·cases h
theorem aeN{c:CT X.ι}:∀{xs:List Operand}{x:Operand}{y:CT.T X.toSE c×List Bool},x∈xs->Gh get (ρ x) c=some y->∀j∈bz (ρ x),j∈B9 get c ρ xs
 |z::xs,x,y,hx,h,j,hj=>by simp[B9];rcases aI.1 hx with rfl |hx;left;rw[h];exact hj;exact .inr (aeN hx h j hj)
 |[],_,_,hx,_,_,_=>by simp at hx
theorem aeO{c:CT X.ι}:∀{xs:List Operand}{x:Operand}{y:CT.T X.toSE c×List Bool},x∈xs->Gh get (ρ x) c=some y->∀b∈y.2,b∈Rd get c ρ xs
 |z::xs,x,y,hx,h,b,hb=>by simp[Rd];rcases aI.1 hx with rfl |hx;left;rw[h];exact hb;exact .inr (aeO hx h b hb)
 |[],_,_,hx,_,_,_=>by simp at hx
theorem ahE(h:apW T code i o.op ρ get k=some r):eK P T i o ρ get k r:=by
 unfold apW at h;split at h;cases h;rename_i hpick;have⟨c,h1,h⟩:=ah.1 h;have⟨hcs,h⟩:=qG h;have⟨cM,rd,wr,dv,upd,out,g1,g2,g3,g4,g5,g6⟩:=abf h;generalize lv:B9 get c ρ o.op.operands.toList=ab at*;refine⟨.zz ab (λ x=>den (NB get c ρ x)) cM,rd++ab,wr++ab,dv,upd++NT ab,⟨out.v,out.upd++ab.map (λ k=>(k,none)),out.obs++[∀ x∈o.op.operands,(gO P (dI (rd++ab) (fD get)) (den (ρ x)) (den (NB get c ρ x))/\∀k∈refs (den (ρ x)),k∈ab)\/den (NB get c ρ x)=den (ρ x)]⟩,?_,?_,g3,?_,?_,g6⟩;unfold jO Ik;simp only;rw[aP hpick];have e:(λ k=>if k∈ab then none else dI (rd++ab) (fD get) k)=dI rd (fD λj=>if j∈ab then none else get j):=by funext j;simp[dI,fD];by_cases hj:j∈ab;simp[hj];simp[hj]
 rw[e,g1];rfl;refine rX _ λp hp=>?_;rcases bP.1 hp with hp |hp;exact rH _ g2 p hp;rw[bC]at hp;subst hp;intro x hx;unfold NB;rcases hl:Gh get (ρ x) c with _ |y;exact .inr rfl;left;have hx':x∈o.op.operands.toList:=by simpa using hx
 have hin:=λj hj=>lv ▸ aeN hx' hl j hj;obtain⟨hs,obs,p1,p2⟩:=AA (P:=P) (rd:=rd++ab) hl (λ b hb=>hcs b (aeO hx' hl b hb)) (λ j hj=>mem_append_right _ (hin j hj));refine⟨?_,λj hj=>hin j (by rwa [iV]at hj)⟩;have:=p2 [];exact Ew _ _ _ this p1;simp[sZ,Da,g4];intro p hp;rcases bP.1 hp with hp |hp;exact(g5 p hp).imp id (λ h=>mem_append_left _ h);exact .inr (mem_append_right _ (Ka hp))
theorem WX{c:CT X.ι}:∀{ds:List (DV X)}{xs:List (CT.T X.toSE c)},G2 c ds=some xs->bI ds=xs.map λy=>den (.c c y:DV X)
 |[],xs,h=>by simp[G2]at h;subst h;rfl
 | .c a x::ds,xs,h=>by simp[G2]at h;rw[ah]at h;obtain⟨y,h1,h⟩:=h;rw[ah]at h;obtain⟨l,h2,h⟩:=h;cases h;simp[bI,WX h2,(pF h1).1]
 | .agg _::_,_,h | .eI _::_,_,h | .own _ _ _::_,_,h | .ptr _ _ _::_,_,h | .sk _ _ _::_,_,h | .mp _::_,_,h | .uv _ _ _ _ _::_,_,h | .rp _ _ _::_,_,h | .y4 _ _ _ _ _::_,_,h | .fn _ _ _::_,_,h | .eE _ _ _::_,_,h | .raw _::_,_,h | .nil::_,_,h | .ub::_,_,h | .skip::_,_,h | .undef::_,_,h=>by simp[G2]at h
theorem ahF(h:apX T code o.op ρ get k=some r):eK P T i o ρ get k r:=by
 obtain⟨dst,op,ty,am,after,guard⟩:=o;unfold apX at h;simp only at h;split at h
 ·rename_i t x j;rw[ah]at h;obtain⟨ti,h1,h⟩:=h;split at h
  ·rename_i m e kk row aa kd n hk hx hj;rw[ah]at h;obtain⟨ei,h2,h⟩:=h;split at h
   ·rename_i hs;have⟨h3,h⟩:=dW h;refine eK.op (cM:= .none) (rd:=[]) (wr:=[]) (upd:=[]) (λ _ _ _ e=>by cases e) (out:=⟨.ptr kk row (aa+n.toNat*1),[],[0<=n/\n.toNat<m]⟩) ?_ ⟨?_,?_,rfl,by simp,h⟩
    ·simp only[qZ,mX,h1,ai,hk,hx,hj,den,CT.tv,TV.av,h2,hs];rfl
    ·simp only[cP,aY,bF]at h3;exact⟨h3.1,by omega⟩
    ·simp only[den,Nat.mul_one]
   ·cases h
  ·rename_i m e c y aa kd n hk hx hj;rw[ah]at h;obtain⟨ei,h2,h⟩:=h;split at h
   ·rename_i hs;have⟨h3,h⟩:=dW h;refine eK.op (cM:= .none) (rd:=[]) (wr:=[]) (upd:=[]) (λ _ _ _ e=>by cases e) (out:=⟨.ff (CT.row X.toSE c y) (aa+n.toNat*1),[],[0<=n/\n.toNat<m]⟩) ?_ ⟨?_,?_,rfl,by simp,h⟩
    ·simp only[qZ,mX,h1,ai,hk,hx,hj,den,CT.tv,TV.av,h2,hs];rfl
    ·simp only[cP,aY,bF]at h3;exact⟨h3.1,by omega⟩
    ·simp only[den,Nat.mul_one]
   ·cases h
  ·cases h
 ·rename_i t a;rw[ah]at h;obtain⟨ti,h1,h⟩:=h;split at h
  ·rename_i kk row aa m n hx;split at h
   ·rename_i hs;rw[ah]at h;obtain⟨c,h2,h⟩:=h;split at h
    ·rename_i hc;rw[ah]at h;obtain⟨ob,h3,h⟩:=h;split at h
     ·rename_i sz rows;have⟨q,h4,h⟩:=ah.1 h;have⟨xs,h5,h⟩:=ah.1 h;have⟨y,h6,h⟩:=ah.1 h;have⟨_,h7⟩:=NN h6;have h8:=WX h5;have h9:((bI q).drop (aa+n.toNat)).take 1=[den (.c c y:DV X)]:=by
       have e1:(bI ((q.drop aa).take m))[n.toNat]? =some (den (.c c y:DV X)):=(by rw[h8,List.getElem?_map,h7];rfl);rw[kG,List.getElem?_take]at e1;split at e1
       ·rw[List.getElem?_drop]at e1;have⟨g1,g2⟩:=cZ.1 e1;rw[List.drop_eq_getElem_cons g1,List.take_succ_cons,List.take_zero,g2]
       ·cases e1
      refine eK.op (cM:= .none) (rd:=[kk]) (wr:=[]) (upd:=[]) (λ _ _ _ e=>by cases e) (out:=⟨den (.c c y:DV X),[],[]⟩) ?_ ⟨trivial,rfl,rfl,by simp,h⟩;simp only[qZ,Lm,h1,ai,hx,den,eY (List.mem_singleton_self kk) h3,bM,List.getElem?_map,h4,Option.map_some,hs.1,hs.2];rw[h9];obtain⟨t',g1,g2⟩:=row_one hc y;simp only[den,g2,TV.av];rfl
     ·cases h
     ·cases h
    ·cases h
   ·cases h
  ·rename_i b y0 aa m n hx;split at h
   ·rename_i hs;rw[ah]at h;obtain⟨c,h2,h⟩:=h;split at h
    ·rename_i hc;have⟨xs,h5,h⟩:=ah.1 h;have⟨y,h6,h⟩:=ah.1 h;have⟨_,h7⟩:=NN h6;have h8:=WX h5;have h9:(((CT.row X.toSE b y0).drop (aa+n.toNat)).take 1).map AV.t=[den (.c c y:DV X)]:=by
      have e1:(bI (((vQ b y0).drop aa).take m))[n.toNat]? =some (den (.c c y:DV X)):=(by rw[h8,List.getElem?_map,h7];rfl);rw[kG,qd,List.getElem?_take]at e1;split at e1
      ·rw[List.getElem?_drop]at e1;have⟨g1,g2⟩:=cZ.1 e1;rw[map_take,map_drop,List.drop_eq_getElem_cons g1,List.take_succ_cons,List.take_zero,g2]
      ·cases e1
     refine eK.op (cM:= .none) (rd:=[]) (wr:=[]) (upd:=[]) (λ _ _ _ e=>by cases e) (out:=⟨den (.c c y:DV X),[],[]⟩) ?_ ⟨trivial,rfl,rfl,by simp,h⟩;simp only[qZ,Lm,h1,ai,hx,den,hs.1,hs.2];rw[h9];obtain⟨t',g1,g2⟩:=row_one hc y;simp only[den,g2,TV.av];rfl
    ·cases h
   ·cases h
  ·cases h
 ·cases h
end
end
section
variable {X:SX}
structure MA(X:SX) where
 nm:List (Nat×Nat)
 fp:List (DC X)
 kh:List Bool
def addN(m:MA X)(k' k:Nat):MA X:=if m.nm.contains (k',k)then m else⟨m.nm++[(k',k)],m.fp,m.kh⟩
section
variable (get:Nat->Option (b7 X))
mutual
def mP:Pt X.ι->DV X->MA X->Option (MA X)
 | .v c,d,m=>(dat d c).bind λx=>some ⟨m.nm,m.fp++[⟨c,x⟩],m.kh⟩
 | .o k,d,m=>match d with
  | .own k' 0 len=>(get k').bind λo=>match o with
   | .eM _ l=>some (addN ⟨m.nm,m.fp,m.kh++[az len l.length]⟩ k' k)
   |_=>none
  |_=>none
 | .oz k,d,m=>match d with
  | .own k' 0 len=>(get k').bind λo=>match o with
   | .eM _ l=>some (addN ⟨m.nm,m.fp,m.kh++[!(len==0)&&az len l.length]⟩ k' k)
   |_=>none
  | .oz k' len=>(get k').bind λo=>match o with
   | .eM _ l=>some (addN ⟨m.nm,m.fp,m.kh++[az len l.length]⟩ k' k)
   |_=>none
  |_=>none
 | .p k,d,m=>match d with
  | .ptr k' 0 0=>some (addN m k' k)
  |_=>none
 | .mp k,d,m=>match d with
  | .mp k'=>some (addN m k' k)
  |_=>none
 | .nil,d,m=>match d with
  | .nil=>some m
  |_=>none
 | .f F fs cs,d,m=>match d with
  | .fn F' first caps=>if F=F' then(ux fs first m).bind λm=>ux cs caps m else none
  |_=>none
 | .od k,d,m=>match d with
  | .own k' aa len=>(get k').bind λo=>match o with
   | .eM _ l=>some (addN ⟨m.nm,m.fp++[⟨.int .i64,(aa:Int)⟩],m.kh++[az (aa+len) l.length]⟩ k' k)
   |_=>none
  |_=>none
 | .a ps,d,m=>match d with
  | .agg ds=>ux ps ds m
  |_=>none
def ux:List (Pt X.ι)->List (DV X)->MA X->Option (MA X)
 |[],[],m=>some m
 |p::ps,d::ds,m=>(mP p d m).bind λm=>ux ps ds m
 |_,_,_=>none
end
def IC(env:Nat->DV X):List (Nat×Pt X.ι)->MA X->Option (MA X)
 |[],m=>some m
 |(t,p)::r,m=>(mP get p (env t) m).bind λm=>IC env r m
def LC:List (List (Pt X.ι))->List (List (DV X))->MA X->Option (MA X)
 |[],[],m=>some m
 |r::rs,q::qs,m=>(ux get r q m).bind λm=>LC rs qs m
 |_,_,_=>none
def nameOf(m:MA X)(k:Nat):Nat:=match m.nm.find? (λ q=>q.2==k)with |some q=>q.1 |none=>k
def Db:List (Nat×OP X.ι)->MA X->Option (MA X)
 |[],m=>some m
 |(k,op)::r,m=>(get (nameOf m k)).bind λo=>match op,o with
  | .l c,.eM c' l=>(lg (.sl c') (.sl c) l).bind λl'=>Db r (addN ⟨m.nm,m.fp++[⟨.sl c,l'⟩],m.kh⟩ (nameOf m k) k)
  | .m kc vc,.map vx vn l=>(lg (.mp vx vn) (.mp kc vc) l).bind λl'=>Db r (addN ⟨m.nm,m.fp++[⟨.mp kc vc,l'⟩],m.kh⟩ (nameOf m k) k)
  | .c sz rows,.cells sz' rows'=>if sz=sz' then(LC get rows rows' (addN m (nameOf m k) k)).bind λm=>Db r m else none
  |_,_=>none
end
end
section
variable {X:SX} {A:Type}
mutual
def tc(f:Nat->Nat):DV X->DV X
 | .own k aa len=> .own (f k) aa len
 | .ptr k row aa=> .ptr (f k) row aa
 | .sk k n aa=> .sk (f k) n aa
 | .uv k row aa m n=> .uv (f k) row aa m n
 | .mp k=> .mp (f k)
 | .oz k len=> .oz (f k) len
 | .agg cs=> .agg (Mf f cs)
 | .eI cs=> .eI (Mf f cs)
 | .fn F first caps=> .fn F (Mf f first) (Mf f caps)
 |x=>x
def Mf(f:Nat->Nat):List (DV X)->List (DV X)
 |[]=>[]
 |x::xs=>tc f x::Mf f xs
end
theorem ahG(f:Nat->Nat):∀l:List Tree,vN f (l.map AV.t)=l.map AV.t
 |[]=>rfl
 |x::xs=>by simp[vN,il,ahG f xs]
mutual
theorem AB(f:Nat->Nat):∀x:DV X,den (tc f x)=il f (den x)
 | .own _ _ _ | .ptr _ _ _ | .sk _ _ _ | .mp _ | .oz _ _ | .uv _ _ _ _ _=>rfl
 | .agg cs | .eI cs=>by simp[tc,den,il,IE f cs]
 | .fn F first caps=>by simp[tc,den,il,IE f first,IE f caps]
 | .c t x=>by
  simp[tc,den];cases t<;>try rfl
  simp[CT.tv,TV.av,il,ahG]
 | .rp _ _ _ | .y4 _ _ _ _ _ | .eE _ _ _=>rfl
 | .raw v=>by simp[tc,den,cv];split;rfl;split<;>rfl
 | .nil | .ub | .skip | .undef=>rfl
theorem IE(f:Nat->Nat):∀l:List (DV X),bI (Mf f l)=vN f (bI l)
 |[]=>rfl
 |x::xs=>by simp[Mf,bI,vN,AB f x,IE f xs]
end
def rh(f:Nat->Nat):b7 X->b7 X
 | .cells sz rows=> .cells sz (rows.map (Mf f))
 |o=>o
def eJ:b7 X->List Nat
 | .cells _ rows=>(rows.map aS).flatten
 | .eM _ _=>[]
 | .map _ _ _=>[]
def SM:CT X.ι->Bool
 | .int _ | .bool | .str=>true
 |_=>false
def yc:CT X.ι->Bool
 | .st i=>(X.ej i).all SM
 |c=>SM c
theorem EI{c:CT X.ι}(h:SM c=true)(x:CT.T X.toSE c):∀t∈CT.row X.toSE c x,t.flat:=by cases c<;>first |(intro t ht;simp[CT.row]at ht;subst ht;exact trivial) |cases h
theorem ajl:∀(l:List (CT X.ι))(h:HL X.toSE l),l.all SM=true->∀t∈HL.row X.toSE l h,t.flat
 |[],_,_,t,ht=>by simp[HL.row]at ht
 |c::l,h,ha,t,ht=>by simp only[all_cons,aY]at ha;rcases bP.1 (show t∈CT.row X.toSE c h.1++HL.row X.toSE l h.2 from ht)with ht |ht;exact EI ha.1 h.1 t ht;exact ajl l h.2 ha.2 t ht
theorem vR{c:CT X.ι}(h:yc c=true)(x:CT.T X.toSE c):∀t∈CT.row X.toSE c x,t.flat:=by
 cases c
 case st i=>intro t ht;exact ajl (X.ej i) (X.get i x) h t ((X.px i x) ▸ ht)
 case int k=>exact EI (c:= .int k) h x
 case bool=>exact EI (c:= .bool) h x
 case str=>exact EI (c:= .str) h x
 case sl e=>cases h
 case any=>cases h
 case mp=>cases h
structure MG(X:SX) where
 nm:List (Nat×Nat)
 fp:List (DC X)
 kh:List Bool
 vr:List Nat
section
variable (get:Nat->Option (b7 X))
mutual
def rj:Pt X.ι->DV X->MG X->Option (MG X)
 | .v c,d,m=>(Gh get d c).bind λx=>some ⟨m.nm,m.fp++[⟨c,x.1⟩],m.kh++x.2,m.vr++bz d⟩
 | .o k,d,m=>match d with
  | .own k' 0 len=>(get k').bind λo=>match o with
   | .eM _ l=>some ⟨m.nm++[(k',k)],m.fp,m.kh++[az len l.length],m.vr⟩
   |_=>none
  |_=>none
 | .od k,d,m=>match d with
  | .own k' aa len=>(get k').bind λo=>match o with
   | .eM _ l=>some ⟨m.nm++[(k',k)],m.fp++[⟨.int .i64,(aa:Int)⟩],m.kh++[az (aa+len) l.length],m.vr⟩
   |_=>none
  |_=>none
 | .p k,d,m=>match d with
  | .ptr k' 0 0=>some ⟨m.nm++[(k',k)],m.fp,m.kh,m.vr⟩
  |_=>none
 | .nil,d,m=>match d with
  | .nil=>some m
  |_=>none
 | .f F fs cs,d,m=>match d with
  | .fn F' first caps=>if F=F' then(tD fs first m).bind λm=>tD cs caps m else none
  |_=>none
 | .mp k,d,m=>match d with
  | .mp k'=>some ⟨m.nm++[(k',k)],m.fp,m.kh,m.vr⟩
  |_=>none
 | .oz _,_,_=>none
 | .a ps,d,m=>match d with
  | .agg ds=>tD ps ds m
  |_=>none
def tD:List (Pt X.ι)->List (DV X)->MG X->Option (MG X)
 |[],[],m=>some m
 |p::ps,d::ds,m=>(rj p d m).bind λm=>tD ps ds m
 |_,_,_=>none
end
def LD:List (List (Pt X.ι))->List (List (DV X))->MG X->Option (MG X)
 |[],[],m=>some m
 |r::rs,q::qs,m=>(tD get r q m).bind λm=>LD rs qs m
 |_,_,_=>none
def sm(m:MG X)(k:Nat):Nat:=match m.nm.find? (λ q=>q.2==k)with |some q=>q.1 |none=>k
def stC:CT X.ι->Bool
 | .st _=>true
 |_=>false
def Dc:List (Nat×OP X.ι)->MG X->Option (MG X)
 |[],m=>some m
 |(k,op)::r,m=>(get (sm m k)).bind λo=>match op,o with
  | .l c,.eM c' l=>(lg (.sl c') (.sl c) l).bind λl'=>Dc r ⟨m.nm++[(sm m k,k)],m.fp++[⟨.sl c,l'⟩],m.kh,m.vr⟩
  | .m kc vc,.map vx vn l=>if (kc.one=true/\vc.one=true)\/stC kc=true then(lg (.mp vx vn) (.mp kc vc) l).bind λl'=>Dc r ⟨m.nm++[(sm m k,k)],m.fp++[⟨.mp kc vc,l'⟩],m.kh,m.vr⟩else none
  | .c sz rows,.cells sz' rows'=>if sz=sz' then(LD get rows rows' ⟨m.nm++[(sm m k,k)],m.fp,m.kh,m.vr⟩).bind λm=>Dc r m else none
  |_,_=>none
end
mutual
def Pt.refs:Pt X.ι->List Nat
 | .o k | .od k | .p k | .mp k | .oz k=>[k]
 | .f _ fs cs=>BJ fs++BJ cs
 | .a ps=>BJ ps
 |_=>[]
def BJ:List (Pt X.ι)->List Nat
 |[]=>[]
 |p::ps=>p.refs++BJ ps
end
def OP.refs:OP X.ι->List Nat
 | .l _=>[]
 | .m _ _=>[]
 | .c _ rows=>rows.flatMap BJ
def IS(n k:Nat):Bool:=Nat.blt k n || (Nat.ble 1000 k&&Nat.blt k 1064)
def ea.ok(g:ea X):Bool:=
 decide (g.ke.map (·.1)=List.range g.ke.length)&&decide (g.ke.length<=1000)&&(g.j9.all λq=>IS g.ke.length q.1&&q.2.refs.all λk=>IS g.ke.length k)&&decide (g.j9.map (·.1)).Nodup&&(BJ g.gz).all λk=>IS g.ke.length k
def okG(m:MG X)(ab:List Nat):Bool:=
 decide ab.Nodup&&(m.nm.all λq=>match ab[q.2]? with |some k=>Nat.beq k q.1 |none=>false)&&m.vr.all λk=>!ab.contains k
def ea.flat(g:ea X):Bool:=(de g.gz).all yc&&g.j9.all λq=>match q.2 with
 | .l c=>yc c
 | .m _ _=>false
 | .c _ rows=>(wX rows).all yc
def vf:List (Nat×b7 X)->Nat->Option (b7 X)
 |[],_=>none
 |(j,o)::r,k=>if j=k then some o else vf r k
def SJ(i:Nat)(ab:List Nat)(os':List (Nat×b7 X)):List (Nat×Option (b7 X)):=
 (ab.zipIdx.map λp=>(p.1,(vf os' p.2).map (rh (cn i ab))))++(os'.filter λq=>decide (1000<=q.1)).map λq=>(cn i ab q.1,some (rh (cn i ab) q.2))
def ahH(g:ea X)(i:Nat)(ds:List (DV X))(get:Nat->Option (b7 X))(k:KK X A):Option A:=
 (tD get g.qT ds ⟨[],[],[],[]⟩).bind λm=>(Dc get g.ke m).bind λm=>
  bif g.ok&&okG m ((List.range g.ke.length).map (sm m))then(GO (de g.qT++ef g.ke) m.fp).bind λv=>WE m.kh ((g.fn v).bind λr=>
   let ab:=(List.range g.ke.length).map (sm m)
   k (tc (cn i ab) (g.res r)) (SJ i ab (g.outs r)++(if g.flat then []else m.vr.map λk=>(k,none))) (ab++m.vr) ((ab++(SJ i ab (g.outs r)).map (·.1))++m.vr))
  else none
section
variable {P:Program} {get:Nat->Option (b7 X)} {rd ab:List Nat} {ev:Nat->Nat}
def gE(m m':MG X):Prop:=(∀ q∈m.nm,q∈m'.nm)/\(∀ c∈m.kh,c∈m'.kh)/\∀k∈m.vr,k∈m'.vr
theorem gE.refl(m:MG X):gE m m:=⟨λ _ h=>h,λ_ h=>h,λ_ h=>h⟩
theorem gE.trans{a b c:MG X}(h:gE a b)(h':gE b c):gE a c:=⟨λ q hq=>h'.1 q (h.1 q hq),λq hq=>h'.2.1 q (h.2.1 q hq),λq hq=>h'.2.2 q (h.2.2 q hq)⟩
mutual
theorem amt:∀(p:Pt X.ι)(d:DV X)(m m':MG X),rj get p d m=some m'->gE m m'/\∃al,m'.fp=m.fp++al/\al.length=p.vars.length
 | .v c,d,m,m',h=>by simp[rj]at h;rw[ah]at h;obtain⟨x,h1,h⟩:=h;cases h;exact⟨⟨λ _ h=>h,λ_ h=>by simp[h],λ_ h=>by simp[h]⟩,[⟨c,x.1⟩],rfl,rfl⟩
 | .o k,d,m,m',h=>by simp[rj]at h;split at h;rw[ah]at h;obtain⟨o,h1,h⟩:=h;split at h;cases h;exact⟨⟨λ _ h=>by simp[h],λ_ h=>by simp[h],λ_ h=>h⟩,[],by simp,rfl⟩;cases h;cases h
 | .od k,d,m,m',h=>by simp[rj]at h;split at h;rename_i k' aa len;have⟨o,h1,h⟩:=ah.1 h;split at h;cases h;exact⟨⟨λ _ h=>by simp[h],λ_ h=>by simp[h],λ_ h=>h⟩,[⟨.int .i64,(aa:Int)⟩],rfl,rfl⟩;cases h;cases h
 | .p k,d,m,m',h=>by simp[rj]at h;split at h;cases h;exact⟨⟨λ _ h=>by simp[h],λ_ h=>h,λ_ h=>h⟩,[],by simp,rfl⟩;cases h
 | .nil,d,m,m',h=>by simp[rj]at h;split at h;cases h;exact⟨gE.refl _,[],by simp,rfl⟩;cases h
 | .f F fs cs,d,m,m',h=>by simp[rj]at h;split at h;split at h;have⟨m1,h1,h⟩:=ah.1 h;obtain⟨a1,n1,b1,c1⟩:=xh fs _ m m1 h1;obtain⟨a2,n2,b2,c2⟩:=xh cs _ m1 m' h;exact⟨a1.trans a2,n1++n2,by rw[b2,b1,aT],by simp[Pt.vars,c1,c2]⟩;cases h;cases h
 | .mp k,d,m,m',h=>by simp[rj]at h;split at h;cases h;exact⟨⟨λ _ h=>by simp[h],λ_ h=>h,λ_ h=>h⟩,[],by simp,rfl⟩;cases h
 | .oz _,_,_,_,h=>by simp[rj]at h
 | .a ps,d,m,m',h=>by simp[rj]at h;split at h;exact xh ps _ m m' h;cases h
theorem xh:∀(ps:List (Pt X.ι))(ds:List (DV X))(m m':MG X),tD get ps ds m=some m'->gE m m'/\∃al,m'.fp=m.fp++al/\al.length=(de ps).length
 |[],[],m,m',h=>by simp[tD]at h;subst h;exact⟨gE.refl _,[],by simp,rfl⟩
 |p::ps,d::ds,m,m',h=>by simp[tD]at h;have⟨m1,h1,h⟩:=ah.1 h;have⟨a1,n1,b1,c1⟩:=amt p d m m1 h1;have⟨a2,n2,b2,c2⟩:=xh ps ds m1 m' h;exact⟨a1.trans a2,n1++n2,by rw[b2,b1,aT],by simp[de,c1,c2]⟩
 |[],_::_,m,m',h |_::_,[],m,m',h=>by simp[tD]at h
end
def AE:AV->List LH->List LH
 | .agg _,hs=> .agd::hs
 |_,hs=>hs
theorem NU(x:AV)(a b:List LH):AE x (a++b)=AE x a++b:=by cases x<;>rfl
theorem yS{get':Nat->Option aN}{x:AV}{hs:List LH}{p:AV×List LH×List Prop}(h:pQ P get' x hs=some p)(hr:∀k∈refs x,k∉ab):rf P get' ab x (AE x hs)=some p:=by
 have hd:((refs x).all λk=>!ab.contains k)=true:=by simp;exact hr
 cases x
 all_goals
  simp[AE];unfold rf;split<;>first |(simp [pQ]at h;done) |(rw [aU hd];exact h) |exact h |exact absurd hd ‹_› |(done)
variable {NM:List (Nat×Nat)} {rk:List Nat}
mutual
theorem akw(hi:∀q∈NM,ab[q.2]? =some q.1)(hv:∀k∈rk,k∉ab)(hrd:∀k,(∃ q,(k,q)∈NM)\/k∈rk->k∈rd)(ho:∀q∈NM,∀c l,get q.1=some (.eM c l)->ev q.2=l.length):
 ∀(p:Pt X.ι)(d:DV X)(m m':MG X),rj get p d m=some m'->(∀ q∈m'.nm,q∈NM)->(∀ c∈m'.kh,c=true)->(∀ k∈m'.vr,k∈rk)->
 ∃al,m'.fp=m.fp++al/\∃d',(∀ ae,eP ev p (al++ae)=(d',ae))/\(∃ hs obs,(∀ p∈obs,p)/\∀ae,rf P (dI rd (fD get)) ab (den d) (hs++ae)=some (den d',ae,obs))/\∀j∈bz d,(∃ q,(j,q)∈NM)\/j∈rk
 | .v c,d,m,m',h,hn,hc,hr=>by simp[rj]at h;rw[ah]at h;obtain⟨x,h1,h⟩:=h;cases h;have C7:∀j∈bz d,j∈rk:=λj hj=>hr j (by simp[hj]);obtain⟨hs,obs,p1,q1⟩:=AA (P:=P) (rd:=rd) h1 (λ b hb=>hc b (by simp[hb])) (λ j hj=>hrd j (.inr (C7 j hj)));refine⟨[⟨c,x.1⟩],rfl,.c c x.1,λae=>rfl,⟨AE (den d) hs,obs,p1,λae=>?_⟩,λj hj=> .inr (C7 j hj)⟩;rw[<- NU];exact yS (q1 ae) (λ k hk=>hv k (C7 k (by rwa [iV]at hk)))
 | .o k,d,m,m',h,hn,hc,hr=>by
  simp[rj]at h;split at h;rename_i k' len;rw[ah]at h;obtain⟨o,h1,h⟩:=h;split at h;rename_i c l;cases h;have hq:(k',k)∈NM:=hn _ (by simp);have he:len=l.length:=by have:=hc (az len l.length) (by simp);simpa[az]using this
  refine⟨[],by simp,.own k 0 (ev k),λae=>rfl,⟨[.mut k],[],by simp,λae=>?_⟩,λj hj=>?_⟩;simp[den,rf,hi _ hq,ho _ hq c l h1,he];simp[bz]at hj;subst hj;exact .inl ⟨k,hq⟩;cases h;cases h
 | .od k,d,m,m',h,hn,hc,hr=>by
  simp[rj]at h;split at h;rename_i k' aa len;rw[ah]at h;obtain⟨o,h1,h⟩:=h;split at h;rename_i c l;cases h;have hq:(k',k)∈NM:=hn _ (by simp);have he:aa+len=l.length:=by have:=hc (az (aa+len) l.length) (by simp);simpa[az]using this
  refine⟨[⟨.int .i64,(aa:Int)⟩],rfl,.own k aa (ev k -aa),λae=>?_,⟨[.mut k],[],by simp,λae=>?_⟩,λj hj=>?_⟩;have:H0 (X:=X) ⟨.int .i64,(aa:Int)⟩=aa:=by simp[H0];rw[WR];simp
  simp[eP,this];simp[den,rf,hi _ hq,ho _ hq c l h1,show l.length -aa=len by omega];simp[bz,bC]at hj;subst hj;exact .inl ⟨k,hq⟩;cases h;cases h
 | .p k,d,m,m',h,hn,hc,hr=>by simp[rj]at h;split at h;rename_i k';cases h;have hq:(k',k)∈NM:=hn _ (by simp);refine⟨[],by simp,.ptr k 0 0,λae=>rfl,⟨[.mut k],[],by simp,λae=>?_⟩,λj hj=>?_⟩;simp[den,cons_append,fH,rf,hi _ hq,if_true];simp[bz,bC]at hj;subst hj;exact .inl ⟨k,hq⟩;cases h
 | .nil,d,m,m',h,hn,hc,hr=>by simp[rj]at h;split at h;cases h;refine⟨[],by simp,.nil,λae=>rfl,⟨[.nil],[],by simp,λae=>?_⟩,by simp[bz]⟩;exact yS (by simp[den,cons_append,fH,pQ]) (by simp[den,refs]);cases h
 | .f F fs cs,d,m,m',h,hn,hc,hr=>by
  simp[rj]at h;split at h;rename_i F' first caps
  split at h;rename_i e;subst e;rw[ah]at h;obtain⟨m1,h1,h⟩:=h;have hm:=(xh cs _ m1 m' h).1;obtain⟨n1,a1,f',b1,⟨hs1,o1,p1,q1⟩,r1⟩:=yT hi hv hrd ho fs _ m m1 h1 (λ q hq=>hn q (hm.1 q hq)) (λ q hq=>hc q (hm.2.1 q hq)) (λ q hq=>hr q (hm.2.2 q hq));obtain⟨n2,a2,c',b2,⟨hs2,o2,p2,q2⟩,r2⟩:=yT hi hv hrd ho cs _ m1 m' h hn hc hr;refine⟨n1++n2,by rw[a2,a1,aT],.fn F f' c',λae=>by simp[eP,aT,b1,b2],⟨.fnw::(hs1++hs2),o1++o2,gT p1 p2,λae=>?_⟩,λj hj=>?_⟩;simp[den,cons_append,aT,rf,q1,ai,q2];simp[bz,bP]at hj;exact hj.elim (r1 j) (r2 j);cases h;cases h
 | .mp k,d,m,m',h,hn,hc,hr=>by simp[rj]at h;split at h;rename_i k';cases h;have hq:(k',k)∈NM:=hn _ (by simp);refine⟨[],by simp,.mp k,λae=>rfl,⟨[.mut k],[],by simp,λae=>?_⟩,λj hj=>?_⟩;simp[den,cons_append,fH,rf,hi _ hq,if_true];simp[bz,bC]at hj;subst hj;exact .inl ⟨k,hq⟩;cases h
 | .oz _,_,_,_,h,_,_,_=>by simp[rj]at h
 | .a ps,d,m,m',h,hn,hc,hr=>by simp[rj]at h;split at h;rename_i ds;have⟨n1,a1,f',b1,⟨hs1,o1,p1,q1⟩,r1⟩:=yT hi hv hrd ho ps ds m m' h hn hc hr;refine⟨n1,a1,.agg f',λae=>by simp[eP,b1],⟨.agw::hs1,o1,p1,λae=>?_⟩,λj hj=>r1 j (by simpa[bz]using hj)⟩;simp[den,cons_append,rf,q1,ai];cases h
theorem yT(hi:∀q∈NM,ab[q.2]? =some q.1)(hv:∀k∈rk,k∉ab)(hrd:∀k,(∃ q,(k,q)∈NM)\/k∈rk->k∈rd)(ho:∀q∈NM,∀c l,get q.1=some (.eM c l)->ev q.2=l.length):
 ∀(ps:List (Pt X.ι))(ds:List (DV X))(m m':MG X),tD get ps ds m=some m'->(∀ q∈m'.nm,q∈NM)->(∀ c∈m'.kh,c=true)->(∀ k∈m'.vr,k∈rk)->
 ∃al,m'.fp=m.fp++al/\∃ds',(∀ ae,mn ev ps (al++ae)=(ds',ae))/\(∃ hs obs,(∀ p∈obs,p)/\∀ae,mY P (dI rd (fD get)) ab (bI ds) (hs++ae)=some (bI ds',ae,obs))/\∀j∈aS ds,(∃ q,(j,q)∈NM)\/j∈rk
 |[],[],m,m',h,_,_,_=>by simp[tD,bL]at h;subst h;exact⟨[],by simp,[],λae=>rfl,⟨[],[],by simp,λae=>rfl⟩,by simp[aS]⟩
 |p::ps,d::ds,m,m',h,hn,hc,hr=>by simp[tD]at h;have⟨m1,h1,h⟩:=ah.1 h;have hm:=(xh ps ds m1 m' h).1;obtain⟨n1,a1,d',b1,⟨hs1,o1,p1,q1⟩,r1⟩:=akw hi hv hrd ho p d m m1 h1 (λ q hq=>hn q (hm.1 q hq)) (λ q hq=>hc q (hm.2.1 q hq)) (λ q hq=>hr q (hm.2.2 q hq));have⟨n2,a2,ds',b2,⟨hs2,o2,p2,q2⟩,r2⟩:=yT hi hv hrd ho ps ds m1 m' h hn hc hr;refine⟨n1++n2,by rw[a2,a1,aT],d'::ds',λae=>by simp[mn,aT,b1,b2],⟨hs1++hs2,o1++o2,gT p1 p2,λae=>?_⟩,λj hj=>?_⟩;simp[bI,aT,mY,q1,ai,q2];simp[aS,bP]at hj;exact hj.elim (r1 j) (r2 j)
 |[],_::_,m,m',h,_,_,_=>by simp[tD]at h
 |_::_,[],m,m',h,_,_,_=>by simp[tD]at h
end
theorem zf:∀(rs:List (List (Pt X.ι)))(qs:List (List (DV X)))(m m':MG X),LD get rs qs m=some m'->gE m m'/\∃al,m'.fp=m.fp++al/\al.length=(wX rs).length
 |[],[],m,m',h=>by simp[LD]at h;subst h;exact⟨gE.refl _,[],by simp,rfl⟩
 |r::rs,q::qs,m,m',h=>by simp[LD]at h;have⟨m1,h1,h⟩:=ah.1 h;have⟨a1,n1,b1,c1⟩:=xh r q m m1 h1;have⟨a2,n2,b2,c2⟩:=zf rs qs m1 m' h;exact⟨a1.trans a2,n1++n2,by rw[b2,b1,aT],by simp[wX,c1,c2]⟩
 |[],_::_,m,m',h |_::_,[],m,m',h=>by simp[LD]at h
theorem SY(hi:∀q∈NM,ab[q.2]? =some q.1)(hv:∀k∈rk,k∉ab)(hrd:∀k,(∃ q,(k,q)∈NM)\/k∈rk->k∈rd)(ho:∀q∈NM,∀c l,get q.1=some (.eM c l)->ev q.2=l.length):
 ∀(rs:List (List (Pt X.ι)))(qs:List (List (DV X)))(m m':MG X),LD get rs qs m=some m'->(∀ q∈m'.nm,q∈NM)->(∀ c∈m'.kh,c=true)->(∀ k∈m'.vr,k∈rk)->
 ∃al,m'.fp=m.fp++al/\∃Hp,(∀ ae,wZ ev rs (al++ae)=(Hp,ae))/\(∃ hs obs,(∀ p∈obs,p)/\Bw P (dI rd (fD get)) ab (qs.map bI) hs=some (Hp.map bI,obs))/\∀j∈(qs.map aS).flatten,(∃ q,(j,q)∈NM)\/j∈rk
 |[],[],m,m',h,_,_,_=>by simp[LD]at h;subst h;exact⟨[],by simp,[],λae=>rfl,⟨[],[],by simp,rfl⟩,by simp⟩
 |r::rs,q::qs,m,m',h,hn,hc,hr=>by simp[LD]at h;have⟨m1,h1,h⟩:=ah.1 h;have hm:=(zf rs qs m1 m' h).1;obtain⟨n1,a1,d',b1,⟨hs1,o1,p1,q1⟩,r1⟩:=yT (P:=P) hi hv hrd ho r q m m1 h1 (λ q hq=>hn q (hm.1 q hq)) (λ q hq=>hc q (hm.2.1 q hq)) (λ q hq=>hr q (hm.2.2 q hq));have⟨n2,a2,ds',b2,⟨hs2,o2,p2,q2⟩,r2⟩:=SY hi hv hrd ho rs qs m1 m' h hn hc hr;refine⟨n1++n2,by rw[a2,a1,aT],d'::ds',λae=>by simp[wZ,b1,b2],⟨hs1::hs2,o1++o2,gT p1 p2,?_⟩,λj hj=>?_⟩;have:=q1 [];rw[append_nil]at this;simp[Bw,this,q2];simp only[bG,flatten_cons,bP]at hj;exact hj.elim (r1 j) (r2 j)
 |[],_::_,m,m',h,_,_,_ |_::_,[],m,m',h,_,_,_=>by simp[LD]at h
theorem mZ:∀(os:List (Nat×OP X.ι))(m m':MG X),Dc get os m=some m'->gE m m'/\∃al,m'.fp=m.fp++al/\al.length=(ef os).length
 |[],m,m',h=>by simp[Dc]at h;subst h;exact⟨gE.refl _,[],by simp,rfl⟩
 |(k,op)::r,m,m',h=>by simp[Dc]at h;rw[ah]at h;obtain⟨o,h1,h⟩:=h;split at h;rename_i c c' l;rw[ah]at h;obtain⟨l',h2,h⟩:=h;obtain⟨a2,n2,b2,c2⟩:=mZ r _ m' h;refine⟨gE.trans (b:=⟨m.nm++[(sm m k,k)],m.fp++[⟨.sl c,l'⟩],m.kh,m.vr⟩) ⟨λ _ h=>by simp[h],λ_ h=>h,λ_ h=>h⟩ a2,[⟨.sl c,l'⟩]++n2,?_,by simp[ef,c2]⟩;rw[b2,aT];rename_i kc vc vx vn l;split at h;rw[ah]at h;obtain⟨l',h2,h⟩:=h;obtain⟨a2,n2,b2,c2⟩:=mZ r _ m' h;refine⟨gE.trans (b:=⟨m.nm++[(sm m k,k)],m.fp++[⟨.mp kc vc,l'⟩],m.kh,m.vr⟩) ⟨λ _ h=>by simp[h],λ_ h=>h,λ_ h=>h⟩ a2,[⟨.mp kc vc,l'⟩]++n2,?_,by simp[ef,c2]⟩;rw[b2,aT];cases h;rename_i sz rows sz' rows';split at h;rw[ah]at h;obtain⟨m1,h2,h⟩:=h;obtain⟨a1,n1,b1,c1⟩:=zf rows _ _ m1 h2;have⟨a2,n2,b2,c2⟩:=mZ r m1 m' h;refine⟨gE.trans (gE.trans (b:=⟨m.nm++[(sm m k,k)],m.fp,m.kh,m.vr⟩) ⟨λ _ h=>by simp[h],λ_ h=>h,λ_ h=>h⟩ a1) a2,n1++n2,?_,by simp[ef,c1,c2]⟩;rw[b2,b1,aT];cases h;cases h
theorem EJ:∀(os:List (Nat×OP X.ι))(m m':MG X),Dc get os m=some m'->(∀ q∈m'.nm,q∈NM)->∃al,m'.fp=m.fp++al/\∀ae,∀k∈os.map (·.1),∃k' o,(k',k)∈NM/\get k'=some o/\∀c l,o= .eM c l->(k,List.length l)∈lens os (al++ae)
 |[],m,m',h,_=>by simp[Dc]at h;subst h;exact⟨[],by simp,λae k hk=>by simp at hk⟩
 |(k,op)::r,m,m',h,hn=>by
  simp[Dc]at h;rw[ah]at h;obtain⟨o,h1,h⟩:=h;split at h;rename_i c c' l;rw[ah]at h;obtain⟨l',h2,h⟩:=h;have hm:=(mZ r _ m' h).1;obtain⟨n2,b2,c2⟩:=EJ r _ m' h hn;refine⟨[⟨.sl c,l'⟩]++n2,by rw[b2,aT],λae j hj=>?_⟩;simp only[bG,aI]at hj;by_cases hjk:j=k;subst hjk;refine⟨_,_,hn _ (hm.1 _ (by simp)),h1,λc2 l2 he=>?_⟩;injection he with e1 e2;subst e1;subst e2;have:=congrArg List.length (jo h2).2;simp at this;rw[this];exact List.mem_cons_self;rcases hj with rfl |hj;exact(hjk rfl).elim;have⟨k',o',g1,g2,g3⟩:=c2 ae j hj;exact⟨k',o',g1,g2,λc l he=>d9 _ (g3 c l he)⟩;rename_i kc vc vx vn l;split at h;rw[ah]at h;obtain⟨l',h2,h⟩:=h;have hm:=(mZ r _ m' h).1;obtain⟨n2,b2,c2⟩:=EJ r _ m' h hn;refine⟨[⟨.mp kc vc,l'⟩]++n2,by rw[b2,aT],λae j hj=>?_⟩;simp only[bG,aI]at hj;by_cases hjk:j=k;subst hjk;exact⟨_,_,hn _ (hm.1 _ (by simp)),h1,λc2 l2 he=>by cases he⟩;rcases hj with rfl |hj;exact(hjk rfl).elim;exact c2 ae j hj;cases h;rename_i sz rows sz' rows';split at h;have⟨m1,h2,h⟩:=ah.1 h;obtain⟨a1,n1,b1,c1⟩:=zf rows _ _ m1 h2;have hm:=(mZ r _ m' h).1;obtain⟨n2,b2,c2⟩:=EJ r _ m' h hn;refine⟨n1++n2,by rw[b2,b1,aT],λae j hj=>?_⟩;simp only[bG,aI]at hj;have hd:(n1++n2++ae).drop (wX rows).length=n2++ae:=by rw[<- c1,aT,List.drop_left]
  simp only[lens,hd];by_cases hjk:j=k;subst hjk;exact⟨_,_,hn _ (hm.1 _ (a1.1 _ (by simp))),h1,λc2 l2 he=>by cases he⟩;rcases hj with rfl |hj;exact(hjk rfl).elim;exact c2 ae j hj;cases h;cases h
theorem Mg:∀(os:List (Nat×OP X.ι))(L:List (DC X)),((lens os L).map (·.1)).Sublist (os.map (·.1))
 |[],_=>by simp[lens]
 |(k,.l c)::r,L=>by simp[lens];split;exact(Mg r _).cons_cons _;exact List.nil_sublist _
 |(k,.m kc vc)::r,L |(k,.c sz rows)::r,L=>(Mg r _).cons _
def akx(get':Nat->Option aN)(NM:List (Nat×Nat))(rk:List Nat)(bs:List OB)(ks:List Nat):Prop:=
 ∀(j:Nat) hs q o,bs[j]? =some (.F1 hs)->ks[j]? =some q->get' q=some o->∀k∈Qp o,(∃ z,(k,z)∈NM)\/k∈rk
theorem NV{sz:Nat}{rows:List (List (DV X))}{k:Nat}(h:k∈Qp (bM (.cells sz rows))):k∈(rows.map aS).flatten:=by simp[Qp,bM]at h;obtain⟨a,⟨r,hr,rfl⟩,hk⟩:=h;rw[iW]at hk;exact List.mem_flatten.2 ⟨_,mem_map.2 ⟨r,hr,rfl⟩,hk⟩
theorem acT:∀ts:List Tree,dD (ts.map AV.t)=[]
 |[]=>rfl
 |t::ts=>by simp[dD,refs,acT ts]
theorem ajn{P:Program}{get:Nat->Option aN}:∀(ts:List Tree)(hs:List LH),nD P get (ts.map AV.t) hs=some (ts.map AV.t,hs,[])
 |[],hs=>rfl
 |t::ts,hs=>by simp[nD,pQ,ajn ts hs]
theorem aky{P:Program}{get:Nat->Option aN}{ab:List Nat}(v:TV):rf P get ab v.av []=some (v.av,[],[]):=by rcases v with x |cs;rfl;have h:refs (.agg (cs.map AV.t))=[]:=acT cs;simp[TV.av,rf,h,pQ,ajn]
theorem abn{P:Program}{get:Nat->Option aN}{ab:List Nat}:∀rows:List (TV×TV),Bw P get ab (rows.map λq=>[q.1.av,q.2.av]) (rows.map λ_=>[])=some (rows.map λq=>[q.1.av,q.2.av],[])
 |[]=>rfl
 |q::rows=>by simp[Bw,mY,aky,abn rows]
theorem AJ(hi:∀q∈NM,ab[q.2]? =some q.1)(hv:∀k∈rk,k∉ab)(hrd:∀k,(∃ q,(k,q)∈NM)\/k∈rk->k∈rd)(ho:∀q∈NM,∀c l,get q.1=some (.eM c l)->ev q.2=l.length):
 ∀(os:List (Nat×OP X.ι))(m m':MG X),Dc get os m=some m'->(∀ q∈m'.nm,q∈NM)->(∀ c∈m'.kh,c=true)->(∀ k∈m'.vr,k∈rk)->
 ∃al,m'.fp=m.fp++al/\∃xs:List (Nat×b7 X),(∀ ae,bW ev os (al++ae)=xs.map λp=>(p.1,some p.2))/\
  ∃bs mo,(∀ p∈mo,p)/\Im P (dI rd (fD get)) ab (os.map λp=>(ab[p.1]?).getD 0) bs=some (xs.map λp=>bM p.2,mo)/\akx (dI rd (fD get)) NM rk bs (os.map λp=>(ab[p.1]?).getD 0)
 |[],m,m',h,_,_,_=>by simp[Dc]at h;subst h;exact⟨[],by simp,[],λae=>rfl,[],[],by simp,rfl,λj hs q o h=>by simp at h⟩
 |(k,op)::r,m,m',h,hn,hc,hr=>by
  simp[Dc]at h;rw[ah]at h;obtain⟨o,h1,h⟩:=h;split at h;rename_i c c' l;have⟨l',h2,h⟩:=ah.1 h;have hm:=(mZ r _ m' h).1;have hq:(sm m k,k)∈NM:=hn _ (hm.1 _ (by simp));have hid:(ab[k]?).getD 0=sm m k:=by rw[hi _ hq];rfl
  have hget:=eY (hrd (sm m k) (.inl ⟨k,hq⟩)) h1;have⟨h3,h4⟩:=jo h2;obtain⟨n2,a2,xs,b2,bs,mo,p2,q2,r2⟩:=AJ hi hv hrd ho r _ m' h hn hc hr;refine⟨[⟨.sl c,l'⟩]++n2,by rw[a2,aT],(k,.eM c l')::xs,λae=>by simp[bW,b2],.dat (CT.sz X c,l'.map (CT.row X.toSE c))::bs,((bM (.eM c' l)).sz=CT.sz X c/\dS ((bM (.eM c' l)).rows.take (l'.map (CT.row X.toSE c)).length)=aK (l'.map (CT.row X.toSE c)))::mo,?_,?_,?_⟩;intro p hp;rcases aI.1 hp with rfl |hp;refine⟨h3,?_⟩;simp[bM,h4];rw[take_of_length_le (by simp[aK])];simp[dS,aK,wk];exact p2 p hp;simp[bG,Im,Wm,hid,hget,ai,q2,cons_append,fH];rfl;intro j hs q o' hj hq' ho';cases j with
  |zero=>simp at hj
  |succ j=>exact r2 j hs q o' (by simpa using hj) (by simpa using hq') ho'
  rename_i kc vc vx vn l;split at h;rename_i hone;have⟨l',h2,h⟩:=ah.1 h;have hm:=(mZ r _ m' h).1;have hq:(sm m k,k)∈NM:=hn _ (hm.1 _ (by simp));have hid:(ab[k]?).getD 0=sm m k:=by rw[hi _ hq];rfl
  have hget:=eY (hrd (sm m k) (.inl ⟨k,hq⟩)) h1;have hden:bM (.map vx vn l)=bM (.map kc vc l'):=by have⟨e,h2⟩:=sK h2;injection e with e1 e2;subst e1;subst e2;subst h2;rfl
  obtain⟨n2,a2,xs,b2,bs,mo,p2,q2,r2⟩:=AJ hi hv hrd ho r _ m' h hn hc hr;rcases hone with hone |_;have hab:bM (.map kc vc l')=i6 (List.length l',l'.map λq=>CT.row X.toSE kc q.1++CT.row X.toSE vc q.2):=by simp only[bM,i6,aK,map_map];congr 1;refine map_congr_left λq _=>?_;obtain⟨t1,g1,g2⟩:=row_one hone.1 q.1;obtain⟨t2,g3,g4⟩:=row_one hone.2 q.2;simp[g1,g2,g3,g4,TV.av]
  refine⟨[⟨.mp kc vc,l'⟩]++n2,by rw[a2,aT],(k,.map kc vc l')::xs,λae=>by simp[cons_append,fH,bW,b2,bG],.dat (List.length l',l'.map λq=>CT.row X.toSE kc q.1++CT.row X.toSE vc q.2)::bs,((bM (.map vx vn l)).sz=List.length l'/\dS ((bM (.map vx vn l)).rows.take (l'.map λq=>CT.row X.toSE kc q.1++CT.row X.toSE vc q.2).length)=aK (l'.map λq=>CT.row X.toSE kc q.1++CT.row X.toSE vc q.2))::mo,?_,?_,?_⟩;intro p hp;rcases aI.1 hp with rfl |hp;rw[hden,hab];refine⟨rfl,?_⟩;simp[i6];rw[take_of_length_le (by simp[aK])];simp[dS,aK,Function.comp_def,wk];exact p2 p hp;simp[bG,Im,Wm,hid,hget,ai,q2,cons_append,fH,hab];intro j hs q o' hj hq' ho';cases j with
  |zero=>simp at hj
  |succ j=>exact r2 j hs q o' (by simpa using hj) (by simpa using hq') ho'
  refine⟨[⟨.mp kc vc,l'⟩]++n2,by rw[a2,aT],(k,.map kc vc l')::xs,λae=>by simp[cons_append,fH,bW,b2,bG],.F1 ((l'.map λq=>(CT.tv X.toSE kc q.1,CT.tv X.toSE vc q.2)).map λ_=>[])::bs,mo,p2,?_,?_⟩;have hlr:=abn (P:=P) (get:=dI rd (fD get)) (ab:=ab) (l'.map λq=>(CT.tv X.toSE kc q.1,CT.tv X.toSE vc q.2));have hdr:(bM (.map kc vc l')).rows=(l'.map λq=>(CT.tv X.toSE kc q.1,CT.tv X.toSE vc q.2)).map λq=>[q.1.av,q.2.av]:=by simp only[bM,map_map];rfl
  simp only[bG,Im,Wm,hid,hget,ai,q2,hden,hdr,hlr,fH];rw[<- hdr];intro j hs q o' hj hq' ho';cases j with
  |zero=>
   simp[bG,List.getElem?_cons_zero,bL]at hq';subst hq';rw[hid,hget]at ho';injection ho' with ho';subst ho';intro k hk;rw[hden]at hk;simp only[Qp,bM,mem_flatMap,mem_map]at hk;obtain⟨_,⟨q,_,rfl⟩,hk⟩:=hk;simp[dD,Az,append_nil,bB]at hk
  |succ j=>exact r2 j hs q o' (by simpa using hj) (by simpa using hq') ho'
  cases h;rename_i sz rows sz' rows';split at h;rename_i hsz;have⟨m1,h2,h⟩:=ah.1 h;have hm1:=(zf rows _ _ m1 h2).1;have hm:=(mZ r _ m' h).1;have hq:(sm m k,k)∈NM:=hn _ (hm.1 _ (hm1.1 _ (by simp)));have hid:(ab[k]?).getD 0=sm m k:=by rw[hi _ hq];rfl
  have hget:=eY (hrd (sm m k) (.inl ⟨k,hq⟩)) h1;obtain⟨n1,a1,qs,b1,⟨hs1,o1,p1,q1⟩,r1⟩:=SY (P:=P) hi hv hrd ho rows _ _ m1 h2 (λ q hq=>hn q (hm.1 q hq)) (λ q hq=>hc q (hm.2.1 q hq)) (λ q hq=>hr q (hm.2.2 q hq));obtain⟨n2,a2,xs,b2,bs,mo,p2,q2,r2⟩:=AJ hi hv hrd ho r _ m' h hn hc hr;subst hsz;refine⟨n1++n2,by rw[a2,a1,aT],(k,.cells sz qs)::xs,λae=>by simp[aT,bW,b1,b2,bG],.F1 hs1::bs,o1++mo,gT p1 p2,?_,?_⟩;simp[bG,Im,Wm,hid,hget,ai,bM,q1,q2];intro j hs q o' hj hq' ho';cases j with
  |zero=>
   simp[bG,List.getElem?_cons_zero,bL]at hq';rw[<- hq',hid,hget]at ho';injection ho' with ho';subst ho';exact λz hz=>r1 z (NV hz)
  |succ j=>exact r2 j hs q o' (by simpa using hj) (by simpa using hq') ho'
  cases h;cases h
end
end
end Go.Gb
namespace Go.Gb
open Go.RowKit
section
variable {X:SX} {A:Type}
theorem ahI:∀(l:List (CT X.ι))(v:VT (X:=X) l),(wY l v).map (·.c)=l
 |[],_ |[_],_=>rfl
 |c::c'::l,v=>by simp[wY,ahI (c'::l) v.2]
theorem QE:∀{l:List Tree},(∀ t∈l,t.flat)->qF (l.map AV.t)
 |[],_=>trivial
 |t::l,h=>⟨h t (by simp),QE (λ u hu=>h u (by simp[hu]))⟩
theorem acU{c:CT X.ι}(h:yc c=true)(x:CT.T X.toSE c):y5 (CT.tv X.toSE c x).av:=by
 have hf:=vR h x;cases c
 case st i=>exact QE hf
 all_goals first |exact hf _ (bC.2 rfl) |cases h
section
variable {ol:Nat->Nat}
mutual
theorem aox:∀(p:Pt X.ι)(L:List (DC X))(cs:List (CT X.ι)),L.map (·.c)=p.vars++cs->p.vars.all yc=true->y5 (den (eP ol p L).1)/\(eP ol p L).2.map (·.c)=cs
 | .v c,L,cs,h,hs=>by
  match L,h with
  |d::r,h=>
   simp[Pt.vars]at h;simp[Pt.vars]at hs;exact⟨acU (h.1 ▸ hs) d.x,h.2⟩
  |[],h=>simp[Pt.vars]at h
 | .o k,L,cs,h,_ | .p k,L,cs,h,_ | .mp k,L,cs,h,_ | .oz k,L,cs,h,_ | .nil,L,cs,h,_=>⟨trivial,by simpa[Pt.vars,eP]using h⟩
 | .od k,L,cs,h,_=>by
  match L,h with
  |d::r,h=>
   simp[Pt.vars]at h;exact⟨trivial,h.2⟩
  |[],h=>simp[Pt.vars]at h
 | .f F fs ps,L,cs,h,hs=>by simp only[Pt.vars,List.all_append,aY]at hs;simp[Pt.vars]at h;obtain⟨a1,a2⟩:=Df fs L _ h hs.1;obtain⟨b1,b2⟩:=Df ps _ _ a2 hs.2;exact⟨⟨a1,b1⟩,b2⟩
 | .a ps,L,cs,h,hs=>by simp only[Pt.vars]at h hs;exact Df ps L cs h hs
theorem Df:∀(ps:List (Pt X.ι))(L:List (DC X))(cs:List (CT X.ι)),L.map (·.c)=de ps++cs->(de ps).all yc=true->qF (bI (mn ol ps L).1)/\(mn ol ps L).2.map (·.c)=cs
 |[],L,cs,h,_=>⟨trivial,by simpa[de,mn]using h⟩
 |p::ps,L,cs,h,hs=>by simp only[de,List.all_append,aY]at hs;simp[de]at h;obtain⟨a1,a2⟩:=aox p L _ h hs.1;obtain⟨b1,b2⟩:=Df ps _ _ a2 hs.2;exact⟨⟨a1,b1⟩,b2⟩
end
mutual
theorem aoy:∀(p:Pt X.ι)(L:List (DC X)),∀j∈bz (eP ol p L).1,j∈p.refs
 | .v c,L,j,h=>by cases L<;>simp[eP,bz]at h
 | .o k,L,j,h | .p k,L,j,h | .mp k,L,j,h | .oz k,L,j,h=>by simpa[eP,bz,Pt.refs]using h
 | .nil,L,j,h=>by simp[eP,bz]at h
 | .od k,L,j,h=>by cases L<;>simp[eP,bz]at h<;>simp[Pt.refs,h]
 | .f F fs ps,L,j,h=>by simp[eP,bz]at h;simp[Pt.refs];exact h.imp (zh fs _ j) (zh ps _ j)
 | .a ps,L,j,h=>by simp[eP]at h;simp[Pt.refs];exact zh ps _ j h
theorem zh:∀(ps:List (Pt X.ι))(L:List (DC X)),∀j∈aS (mn ol ps L).1,j∈BJ ps
 |[],L,j,h=>by simp[mn,aS]at h
 |p::ps,L,j,h=>by simp[mn,aS]at h;simp[BJ];exact h.imp (aoy p _ j) (zh ps _ j)
end
theorem Mh:∀(rs:List (List (Pt X.ι)))(L:List (DC X))(cs:List (CT X.ι)),L.map (·.c)=wX rs++cs->(wZ ol rs L).2.map (·.c)=cs/\((wX rs).all yc=true->∀r∈(wZ ol rs L).1,qF (bI r))
 |[],L,cs,h=>⟨by simpa[wX,wZ]using h,by simp[wZ]⟩
 |r::rs,L,cs,h=>by simp[wX]at h;have step:(mn ol r L).2.map (·.c)=wX rs++cs:=wa r L _ h;obtain⟨b1,b2⟩:=Mh rs _ _ step;refine⟨b1,λhs q hq=>?_⟩;simp only[wX,List.all_append,aY]at hs;simp[wZ]at hq;rcases hq with rfl |hq;exact(Df r L _ h hs.1).1;exact b2 hs.2 q hq
where
 wa (ps:List (Pt X.ι)) (L:List (DC X)) (cs:List (CT X.ι)) (h:L.map (·.c)=de ps++cs):(mn ol ps L).2.map (·.c)=cs:=qr ps L cs h
 F0:∀(p:Pt X.ι)(L:List (DC X))(cs:List (CT X.ι)),L.map (·.c)=p.vars++cs->(eP ol p L).2.map (·.c)=cs
  | .v c,L,cs,h=>by
   match L,h with
   |d::r,h=>simp only[Pt.vars,bG,List.singleton_append,List.cons.injEq]at h;exact h.2
   |[],h=>simp[Pt.vars]at h
  | .o k,L,cs,h=>by simpa[Pt.vars,eP]using h
  | .p k,L,cs,h=>by simpa[Pt.vars,eP]using h
  | .mp k,L,cs,h=>by simpa[Pt.vars,eP]using h
  | .oz k,L,cs,h=>by simpa[Pt.vars,eP]using h
  | .nil,L,cs,h=>by simpa[Pt.vars,eP]using h
  | .od k,L,cs,h=>by
   match L,h with
   |d::r,h=>simp only[Pt.vars,bG,List.singleton_append,List.cons.injEq]at h;exact h.2
   |[],h=>simp[Pt.vars]at h
  | .f F fs ps,L,cs,h=>by simp only[Pt.vars,aT]at h;exact qr ps _ _ (qr fs L _ h)
  | .a ps,L,cs,h=>by simp only[Pt.vars]at h;exact qr ps L cs h
 qr:∀(ps:List (Pt X.ι))(L:List (DC X))(cs:List (CT X.ι)),L.map (·.c)=de ps++cs->(mn ol ps L).2.map (·.c)=cs
  |[],L,cs,h=>by simpa[de,mn]using h
  |p::ps,L,cs,h=>by simp only[de,aT]at h;exact qr ps _ _ (F0 p L _ h)
theorem WY:∀(rs:List (List (Pt X.ι)))(L:List (DC X)),∀j∈((wZ ol rs L).1.map aS).flatten,j∈rs.flatMap BJ
 |[],L,j,h=>by simp[wZ]at h
 |r::rs,L,j,h=>by simp only[wZ,bG,flatten_cons,bP]at h;simp only[List.flatMap_cons,bP];exact h.imp (zh r _ j) (WY rs _ j)
theorem zi:∀(O:List (Nat×OP X.ι))(L:List (DC X)),((dG (bW ol O L)).map (·.1)).Sublist (O.map (·.1))/\(∀ p∈dG (bW ol O L),∃op,(p.1,op)∈O/\∀j∈eJ p.2,j∈op.refs)/\
 (L.map (·.c)=ef O->(O.all λq=>match q.2 with | .l c=>yc c | .m _ _=>false | .c _ rows=>(wX rows).all yc)=true->∀p∈dG (bW ol O L),∀r∈(bM p.2).rows,qF r)
 |[],L=>⟨by simp[bW,dG],by simp[bW,dG],by simp[bW,dG]⟩
 |(k,.l c)::O,L=>by
  match L with
  |[]=>exact⟨by simp[bW,dG],by simp[bW,dG],by simp[bW,dG]⟩
  |⟨.sl c',x⟩::L=>
   have⟨h1,h2,h3⟩:=zi O L;refine⟨?_,?_,?_⟩;simp only[bW,dG,bG];exact h1.cons_cons _;intro p hp;simp[bW,dG]at hp;rcases hp with rfl |hp;exact⟨.l c,by simp,by simp[eJ]⟩;have⟨op,g1,g2⟩:=h2 p hp;exact⟨op,d9 _ g1,g2⟩;intro hL hs p hp r hr;simp only[bG,ef,List.cons.injEq]at hL;simp only[all_cons,aY]at hs;simp[bW,dG]at hp;rcases hp with rfl |hp;obtain⟨e,_⟩:=hL;injection e with e;simp only[bM,aK,mem_map]at hr;obtain⟨q,⟨y,hy,rfl⟩,rfl⟩:=hr;exact QE (vR (e ▸ hs.1) y);exact h3 hL.2 hs.2 p hp r hr
  |⟨.int _,x⟩::L=>exact⟨by simp[bW,dG],by simp[bW,dG],by simp[bW,dG]⟩
  |⟨.bool,x⟩::L=>exact⟨by simp[bW,dG],by simp[bW,dG],by simp[bW,dG]⟩
  |⟨.str,x⟩::L=>exact⟨by simp[bW,dG],by simp[bW,dG],by simp[bW,dG]⟩
  |⟨.any,x⟩::L=>exact⟨by simp[bW,dG],by simp[bW,dG],by simp[bW,dG]⟩
  |⟨.mp _ _,x⟩::L=>exact⟨by simp[bW,dG],by simp[bW,dG],by simp[bW,dG]⟩
  |⟨.st _,x⟩::L=>exact⟨by simp[bW,dG],by simp[bW,dG],by simp[bW,dG]⟩
 |(k,.m kc vc)::O,L=>by
  match L with
  |[]=>exact⟨by simp[bW,dG],by simp[bW,dG],by simp[bW,dG]⟩
  |⟨.mp vx vn,x⟩::L=>
   have⟨h1,h2,h3⟩:=zi O L;refine⟨?_,?_,?_⟩;simp only[bW,dG,bG];exact h1.cons_cons _;intro p hp;simp[bW,dG,aI]at hp;rcases hp with rfl |hp;exact⟨.m kc vc,by simp,by simp[eJ]⟩;have⟨op,g1,g2⟩:=h2 p hp;exact⟨op,d9 _ g1,g2⟩;intro hL hs;simp at hs
  |⟨.sl _,x⟩::L=>exact⟨by simp[bW,dG],by simp[bW,dG],by simp[bW,dG]⟩
  |⟨.int _,x⟩::L=>exact⟨by simp[bW,dG],by simp[bW,dG],by simp[bW,dG]⟩
  |⟨.bool,x⟩::L=>exact⟨by simp[bW,dG],by simp[bW,dG],by simp[bW,dG]⟩
  |⟨.str,x⟩::L=>exact⟨by simp[bW,dG],by simp[bW,dG],by simp[bW,dG]⟩
  |⟨.any,x⟩::L=>exact⟨by simp[bW,dG],by simp[bW,dG],by simp[bW,dG]⟩
  |⟨.st _,x⟩::L=>exact⟨by simp[bW,dG],by simp[bW,dG],by simp[bW,dG]⟩
 |(k,.c sz rows)::O,L=>by have⟨h1,h2,h3⟩:=zi O (wZ ol rows L).2;refine⟨?_,?_,?_⟩;simp only[bW,dG,bG];exact h1.cons_cons _;intro p hp;simp[bW,dG,aI]at hp;rcases hp with rfl |hp;exact⟨.c sz rows,by simp,λj hj=>WY rows L j hj⟩;have⟨op,g1,g2⟩:=h2 p hp;exact⟨op,d9 _ g1,g2⟩;intro hL hs p hp r hr;simp[ef]at hL;simp only[all_cons,aY]at hs;obtain⟨e1,e2⟩:=Mh (ol:=ol) rows L _ hL;simp[bW,dG,aI]at hp;rcases hp with rfl |hp;simp[bM,mem_map]at hr;obtain⟨q,hq,rfl⟩:=hr;exact e2 hs.1 q hq;exact h3 e1 hs.2 p hp r hr
end
theorem QF(k:Nat):∀os:List (Nat×b7 X),py (tZ os) k=(vf os k).map bM
 |[]=>rfl
 |(j,o)::r=>by simp[tZ,py,vf];split;rfl;exact QF k r
theorem WZ(f:Nat->Nat)(c:CT X.ι)(x:CT.T X.toSE c):il f (CT.tv X.toSE c x).av=(CT.tv X.toSE c x).av:=(AB f (.c c x)).symm
theorem aeP(f:Nat->Nat)(o:b7 X):bM (rh f o)=CY f (bM o):=by
 cases o with
 |cells sz rows=>simp only[rh,bM,CY,map_map];congr 1;exact map_congr_left λr _=>IE f r
 |eM c l=>simp only[rh,bM,CY,aK,map_map];congr 1;exact map_congr_left λr _=>(ahG f _).symm
 |map kc vc l=>simp only[rh,bM,CY,map_map];congr 1;exact map_congr_left λr _=>by simp[vN,WZ]
theorem akz(i:Nat)(ab:List Nat)(os:List (Nat×b7 X)):iU (SJ i ab os)=B6 i ab (tZ os):=by simp[SJ,sZ];congr 1;simp only[iU,map_map];refine map_congr_left λp _=>?_;simp[QF];cases vf os p.2<;>simp[aeP];simp[iU,tZ,List.filter_map];refine map_congr_left λq _=>?_;simp[aeP]
theorem W9{ds:List (DV X)}:(∀ j∈refs (den (zb ds)),j∈aS ds)/\(qF (bI ds)->y5 (den (zb ds))):=by
 match ds with
 |[]=>exact⟨λ j hj=>by simp[zb,den,bI,refs,dD]at hj,λ_=>by simp[zb];exact trivial⟩
 |[d]=>exact⟨λ j hj=>by simp[zb,iV]at hj;simpa[aS]using hj,λh=>h.1⟩
 |d::e::r=>exact⟨λ j hj=>by simp[zb,den,refs,iW]at hj;exact hj,λh=>h⟩
theorem abo:∀xs:List (Nat×b7 X),dG (xs.map λp=>(p.1,some p.2))=xs
 |[]=>rfl
 |p::xs=>by simp[dG,abo xs]
theorem acV{P:Program}{g:ea X}{F:FuncId}(hg:NL P F g){i:Nat}{first args caps:List (DV X)}{get:Nat->Option (b7 X)}{k:KK X A}{r:A}(h:ahH g i (first++args++caps) get k=some r):
 ∃cM rd wr dv upd out,lQ P i (den (.fn F first caps)) (bI args) cM (dI rd (fD get))=some out/\iT out.obs/\out.v=den dv/\out.upd=iU upd/\(∀ p∈upd,p.1=cC i\/p.1∈wr)/\k dv upd rd wr=some r:=by
 unfold ahH at h;rw[ah]at h;obtain⟨m1,h1,h⟩:=h;rw[ah]at h;obtain⟨m,h2,h⟩:=h;have⟨h3,h⟩:=dW h;rw[ah]at h;obtain⟨v,h4,h⟩:=h;have⟨h5,h⟩:=qG h;rw[ah]at h;obtain⟨rr,h6,h⟩:=h;simp at h3;obtain⟨hok,Do⟩:=h3;simp only at h;generalize lv:(List.range g.ke.length).map (sm m)=ab at h Do;simp only[ea.ok,aY,bF]at hok;obtain⟨⟨⟨⟨n1,n2⟩,n3⟩,n4⟩,n5⟩:=hok;simp only[okG,aY,bF]at Do;obtain⟨⟨hnd,hnm⟩,C7⟩:=Do;have hlen:ab.length=g.ke.length:=by rw[<- lv];simp
 have hi:∀q∈m.nm,ab[q.2]? =some q.1:=by intro q hq;have:=all_eq_true.1 hnm q hq;split at this;rename_i k' e;rw[e,Nat.eq_of_beq_eq_true this];cases this
 have hv:∀k∈m.vr,k∉ab:=λk hk=>by have:=all_eq_true.1 C7 k hk;simpa using this
 have hrd:∀k,(∃ q,(k,q)∈m.nm)\/k∈m.vr->k∈ab++m.vr:=by rintro k (⟨q,hq⟩ |hk);exact mem_append_left _ (bT (hi _ hq));exact mem_append_right _ hk
 have hm2:=(mZ _ _ _ h2).1;have xn:=WQ h4;obtain⟨_,nA,dA,lA⟩:=xh _ _ _ _ h1;simp at dA;obtain⟨nB,dB,lB⟩:=EJ (NM:=m.nm) _ _ _ h2 (λ q hq=>hq);have hL:m.fp=nA++nB:=by rw[dB,dA]
 have hdrop:(wY _ v).drop (de g.qT).length=nB:=by rw[xn,hL,<- lA,List.drop_left]
 have htake:(wY _ v).take (de g.qT).length=nA:=by rw[xn,hL,<- lA,List.take_left]
 have ho:∀q∈m.nm,∀c l,get q.1=some (.eM c l)->EH g.ke nB q.2=l.length:=by
  rintro⟨p,q⟩ hq c l hl;have hq2:=hi _ hq;have hqn:q<g.ke.length:=by rw[<- hlen];exact(cZ.1 hq2).1
  obtain⟨p',o,g1,g2,g3⟩:=lB [] q (by rw[n1];exact List.mem_range.2 hqn);have:p'=p:=by have e1:=hi _ g1;rw[hq2]at e1;injection e1 with e1;exact e1.symm
  subst this;simp at hl;rw[hl]at g2;injection g2 with g2;have h3:=g3 c l g2.symm;rw[append_nil]at h3;have hk:=(Mg g.ke nB).nodup (by rw[n1];exact List.nodup_range);simp[EH,vP hk h3]
 obtain⟨Wc,Mu,ds',eA,⟨hs,obs,pA,qA⟩,rA⟩:=yT (P:=P) (ab:=ab) (rd:=ab++m.vr) (NM:=m.nm) (rk:=m.vr) (ev:=EH g.ke nB) hi hv hrd ho _ _ _ _ h1 (λ q hq=>hm2.1 q hq) (λ c hc=>h5 c (hm2.2.1 c hc)) (λ q hq=>hm2.2.2 q hq);obtain⟨nB',dB',xs,eB,bs,mo,pB,qB,rB⟩:=AJ (P:=P) (ab:=ab) (rd:=ab++m.vr) (NM:=m.nm) (rk:=m.vr) (ev:=EH g.ke nB) hi hv hrd ho _ _ _ h2 (λ q hq=>hq) h5 (λ q hq=>hq);have eqA:Wc=nA:=by simp at Mu;rw[<- Mu,dA]
 have eqB:nB'=nB:=List.append_cancel_left (dB'.symm.trans dB);subst eqA eqB;have Mo:=eA [];have Mn:=eB [];rw[append_nil]at Mo Mn;have hargs:g.args v=ds':=by simp[ea.args,WS,hdrop,htake,Mo]
 have u9:g.dp v=xs:=by simp[ea.dp,Pr,hdrop,Mn,abo]
 have X1:(g.ke.map λp=>(ab[p.1]?).getD 0)=ab:=by
  have:(g.ke.map λp=>(ab[p.1]?).getD 0)=(g.ke.map (·.1)).map λj=>(ab[j]?).getD 0:=by rw[map_map];rfl
  rw[this,n1];refine List.ext_getElem (by simp[hlen]) λj a b=>?_;simp[dF b]
 rw[X1]at qB rB;have qA0:=qA [];rw[append_nil,iF,iF]at qA0;have hcon:=hg v rr h6;rw[hargs,u9]at hcon;obtain⟨s1,s2,s3⟩:=zi (ol:=EH g.j9 ((wY (i9 (mw 0 g.gz)++ef g.j9) rr).drop (de g.gz).length)) g.j9 ((wY _ rr).drop (de g.gz).length);have CH:∀k,IS g.ke.length k=true->GT ab.length k:=by intro k hk;simp[IS]at hk;simp[hlen];exact hk
 have good:Nz ab.length (tZ (g.outs rr)) (den (g.res rr)):=by
  refine⟨?_,?_,?_,?_⟩;intro q hq;simp only[tZ,mem_map]at hq;obtain⟨p,hp,rfl⟩:=hq;have⟨op,g1,_⟩:=s2 p hp;have:=all_eq_true.1 n3 _ g1;simp at this;exact CH _ this.1;have:(tZ (g.outs rr)).map (·.1)=(g.outs rr).map (·.1):=by simp[tZ]
  rw[this];exact s1.nodup n4;intro q hq r' hr' j hj;simp only[tZ,mem_map]at hq;obtain⟨p,hp,rfl⟩:=hq;have⟨op,g1,g2⟩:=s2 p hp;have:=all_eq_true.1 n3 _ g1;simp only[aY]at this;refine CH _ (all_eq_true.1 this.2 j (g2 j ?_));obtain⟨pk,po⟩:=p;cases po with
  |cells sz rows=>exact NV (mem_flatMap.2 ⟨r',hr',hj⟩)
  |eM c l=>
   simp[bM,aK,mem_map]at hr';obtain⟨z,_,rfl⟩:=hr';rw[acT]at hj;simp at hj
  |map kc vc l=>
   simp only[bM,mem_map]at hr';obtain⟨z,_,rfl⟩:=hr';simp only[dD,Az,append_nil]at hj;simp at hj
  intro j hj;have:=(W9 (ds:=WS g.gz g.j9 (wY _ rr))).1 j hj;exact CH _ (all_eq_true.1 n5 j (zh g.gz _ j this))
 have flat:g.flat=true->oX (tZ (g.outs rr)) (den (g.res rr)):=by intro hf;simp only[ea.flat,aY]at hf;have hc:(wY (i9 (mw 0 g.gz)++ef g.j9) rr).map (·.c)=de g.gz++ef g.j9:=(ahI _ rr).trans (by rw[QA]);refine⟨(W9 (ds:=WS g.gz g.j9 (wY _ rr))).2 ?_,?_⟩;refine(Df (ol:=_) g.gz _ [] ?_ hf.1).1;rw[append_nil,map_take,hc,List.take_left];intro q hq r' hr';simp only[tZ,mem_map]at hq;obtain⟨p,hp,rfl⟩:=hq;exact s3 (by rw[map_drop,hc,List.drop_left]) hf.2 p hp r' hr'
 have dC:Io (dI (ab++m.vr) (fD get)) (bI first++bI args++bI caps) ab m.vr bs:=by refine⟨hv,λj hj hn=>?_,λj hs' q o e1 e2 e3 z hz hn=>?_⟩;rw[<- iF,<- iF,iW]at hj;rcases rA j hj with ⟨q,hq⟩ |hj;exact absurd (bT (hi _ hq)) hn;exact hj;rcases rB j hs' q o e1 e2 e3 z hz with ⟨q',hq⟩ |hz;exact absurd (bT (hi _ hq)) hn;exact hz
 refine⟨.rS ab m.vr bs hs (tZ (g.outs rr)) (den (g.res rr)) g.flat,ab++m.vr,_,_,_,
  ⟨il (cn i ab) (den (g.res rr)),B6 i ab (tZ (g.outs rr))++(if g.flat then []else m.vr.map λk=>(k,none)),obs++mo++[yr P F (bI ds') (xs.map λp=>bM p.2) (tZ (g.outs rr)) (den (g.res rr)),Nz ab.length (tZ (g.outs rr)) (den (g.res rr)),Io (dI (ab++m.vr) (fD get)) (bI first++bI args++bI caps) ab m.vr bs]++(if g.flat then [oX (tZ (g.outs rr)) (den (g.res rr))]else [])⟩,?_,?_,(AB _ _).symm,?_,?_,h⟩
 simp only[den,lQ,NA,qB,qA0,ai];rw[aU ⟨hnd,by omega⟩];refine rX _ (gT (gT (gT pA pB) ?_) ?_);intro z hz;simp only[aI,bB,or_false]at hz;rcases hz with rfl |rfl |rfl;exact hcon;exact good;exact dC;intro z hz;cases hf:g.flat with
 |true=>rw[hf]at hz;simp only[if_true,bC]at hz;subst hz;exact flat hf
 |false=>rw[hf]at hz;simp at hz
 simp[sZ,akz];congr 1;cases g.flat with
 |true=>rfl
 |false=>exact(Da m.vr).symm
 intro p hp;refine .inr ?_;rcases bP.1 hp with hp |hp;exact mem_append_left _ (mem_append_right _ (mem_map.2 ⟨p,hp,rfl⟩));cases hf:g.flat with
 |true=>rw[hf]at hp;simp at hp
 |false=>
  rw[hf]at hp;simp[Bool.false_eq_true,if_false,mem_map]at hp;obtain⟨z,hz,rfl⟩:=hp;exact mem_append_right _ hz
end
section
variable {X:SX} {A:Type}
def Xa:RT X.ι->Bool
 | .d c=>yc c
 | .fresh e=>yc e
 | .whole _=>true
 | .mu c=>yc c
 | .mr c=>yc c
 | .mv=>true
theorem aeQ{c:CT X.ι}(h:yc c=true)(x:CT.T X.toSE c):(CT.tv X.toSE c x).flat:=by
 cases c
 case st i=>exact vR h x
 all_goals first |exact trivial |cases h
theorem Xb{ns:List Nat}{q:RT X.ι}{x:RT.T X q}(h:Xa q=true):∀c∈WT ns q x,c.flat:=by
 intro c hc;cases q<;>simp[WT]at hc
 case d c=>subst hc;exact aeQ h x
 case fresh e=>
  subst hc;intro row hr;obtain⟨y,_,rfl⟩:=mem_map.1 hr;exact vR h y
 case whole j=>subst hc;exact trivial
theorem S9{ns:List Nat}:∀{l:List (RT X.ι)}{x:tO X l},l.all Xa=true->∀c∈BG ns l x,c.flat
 |[],x,_,c,hc=>by simp[BG]at hc
 |[q],x,h,c,hc=>Xb (by simpa using h) c hc
 |q::q'::l,x,h,c,hc=>by simp at h;simp[BG]at hc;rcases hc with hc |hc;exact Xb h.1 c hc;exact S9 (by simp;exact h.2) c hc
theorem Xc{l:List (RT X.ι)}(x:tO X l)(h:l.all Xa=true):(uf l x).flat:=by have:=S9 (ns:=AF l x) (x:=x) h;unfold uf;split;rename_i c hc;exact this c (by rw[hc];simp);exact this
theorem abp{q:RT X.ι}{x:RT.T X q}(h:Xa q=true):V7 (da q x):=by
 intro p hp;cases q<;>simp[da]at hp
 case mu c=>
  subst hp;intro r hr;obtain⟨y,_,rfl⟩:=mem_map.1 hr;exact vR h y
 case mr c=>
  subst hp;intro r hr;obtain⟨y,_,rfl⟩:=mem_map.1 hr;exact vR h y
theorem abq:∀{l:List (RT X.ι)}{x:tO X l},l.all Xa=true->V7 (oQ l x)
 |[],x,_=>λp hp=>by simp[oQ]at hp
 |[q],x,h=>abp (q:=q) (by simpa using h)
 |q::q'::l,x,h=>by simp at h;intro p hp;rcases bP.1 (show some p∈da q x.1++oQ (q'::l) x.2 from hp)with hp |hp;exact abp h.1 p hp;exact abq (l:=q'::l) (by simp;exact h.2) p hp
def IG(i:Nat)(ab ns:List Nat):(q:RT X.ι)->RT.T X q->List (DV X)×List (Nat×Option (b7 X))
 | .d c,x=>([.c c x],[])
 | .fresh e,l=>([.own (cC i) 0 l.length],[(cC i,some (.eM e l))])
 | .whole j,_=>([match ab[j]? with |some k=> .own k 0 (ns.getD j 0) |none=> .undef],[])
 |_,_=>([],[])
def LF(i:Nat)(ab ns:List Nat):(l:List (RT X.ι))->tO X l->Option (List (DV X)×List (Nat×Option (b7 X)))
 |[],_=>some ([],[])
 |[q],x=>some (IG i ab ns q x)
 |q::q'::l,x=>(LF i ab ns (q'::l) x.2).bind λp=>if (IG i ab ns q x.1).2.isEmpty || p.2.isEmpty then some ((IG i ab ns q x.1).1++p.1,(IG i ab ns q x.1).2++p.2)else none
def aqS:List (DV X)->DV X
 |[d]=>d
 |ds=> .eI ds
def HQ(i:Nat)(ab:List Nat)(l:List (RT X.ι))(x:tO X l):Option (DV X×List (Nat×Option (b7 X))):=
 (LF i ab (AF l x) l x).bind λp=>some (aqS p.1,p.2)
theorem acW(u:List (Nat×Option (b7 X))):(iU u).isEmpty=u.isEmpty:=by cases u<;>rfl
theorem abr(i:Nat)(ab ns:List Nat)(q:RT X.ι)(x:RT.T X q):(∃ c,WT ns q x=[c]/\∃d,(IG i ab ns q x).1=[d]/\KI i ab c=(den d,iU (IG i ab ns q x).2))\/(WT ns q x=[]/\IG i ab ns q x=([],[])):=by
 cases q
 case d c=>exact .inl ⟨_,rfl,_,rfl,rfl⟩
 case fresh e=>exact .inl ⟨_,rfl,_,rfl,by simp[KI,IG,den,iU,bM,aK]⟩
 case whole j=>
  refine .inl ⟨_,rfl,_,rfl,?_⟩;simp[KI,iU,IG];cases ab[j]?<;>rfl
 all_goals exact .inr ⟨rfl,rfl⟩
theorem aeR(i:Nat)(ab:List Nat)(c:RC):Nt i ab [c]=some ([(KI i ab c).1],(KI i ab c).2):=by simp[Nt]
theorem abt(i:Nat)(ab ns:List Nat):∀(l:List (RT X.ι))(x:tO X l)(p:List (DV X)×List (Nat×Option (b7 X))),LF i ab ns l x=some p->Nt i ab (BG ns l x)=some (bI p.1,iU p.2)
 |[],_,p,h=>by simp[LF]at h;subst h;rfl
 |[q],x,p,h=>by simp[LF]at h;subst h;simp[BG];rcases abr i ab ns q x with ⟨c,h1,d,h2,h3⟩ |⟨h1,h2⟩;rw[h1,aeR,h2,h3];simp[bI];rw[h1,h2];rfl
 |q::q'::l,x,p,h=>by simp only[LF]at h;rw[ah]at h;obtain⟨p',h1,h⟩:=h;have ih:=abt i ab ns (q'::l) x.2 p' h1;split at h;rename_i hc;cases h;simp[BG];rcases abr i ab ns q x.1 with ⟨c,h1,d,h2,h3⟩ |⟨h1,h2⟩;rw[h1];simp only[List.singleton_append,Nt,ih,ai,h3,acW];rw[aU hc,h2];simp[bI,iU];rw[h1,h2];exact ih;cases h
theorem aeS{i:Nat}{ab:List Nat}{l:List (RT X.ι)}{x:tO X l}{p:DV X×List (Nat×Option (b7 X))}(h:HQ i ab l x=some p):imp i ab (uf l x)=some (den p.1,iU p.2):=by
 unfold HQ at h;rw[ah]at h;obtain⟨p',h1,h⟩:=h;cases h;have ih:=abt i ab _ l x p' h1;unfold uf;split;rename_i c hc;rw[hc,aeR]at ih;simp at ih;obtain⟨ds,u⟩:=p'
 match ds,ih with
 |[d],ih=>
  simp[bI]at ih;simp[imp,aqS,<- ih.1,<- ih.2]
 |[],ih |_::_::_,ih=>simp[bI]at ih
 rename_i hne;simp[imp,ih];obtain⟨ds,u⟩:=p'
 match ds,ih with
 |[],_ |_::_::_,_=>rfl
 |[d],ih=>
  exfalso;generalize hcs:BG (AF l x) l x=cs at ih hne
  match cs,ih,hne with
  |[],ih,_=>simp[Nt,bI]at ih
  |[c],_,hne=>exact hne c rfl
  |c::c'::cs,ih,_=>
   simp[Nt]at ih;cases h3:Nt i ab cs with
   |none=>rw[h3]at ih;simp at ih
   |some q=>
    rw[h3]at ih;simp at ih;split at ih;simp only[ai]at ih;split at ih;simp[bI]at ih;cases ih;simp at ih
def Q4:(q:RT X.ι)->RT.T X q->List (Option (b7 X))
 | .mu c,x=>[some (.eM c x)]
 | .mr c,x=>[some (.cells (CT.sz X c) [vQ c x])]
 | .mv,_=>[none]
 |_,_=>[]
def Xd:(l:List (RT X.ι))->tO X l->List (Option (b7 X))
 |[],_=>[]
 |[q],x=>Q4 q x
 |q::q'::l,x=>Q4 q x.1++Xd (q'::l) x.2
def LG:List Nat->List (Option (b7 X))->List (Nat×Option (b7 X))
 |k::ab,p::os=>(k,p)::LG ab os
 |_,_=>[]
theorem aeT(q:RT X.ι)(x:RT.T X q):(Q4 q x).map (·.map bM)=(da q x).map (·.map i6):=by
 cases q<;>try rfl
 case mr c=>simp[Q4,da,bM,i6,vD,aK,qd]
theorem QG:∀(l:List (RT X.ι))(x:tO X l),(Xd l x).map (·.map bM)=(oQ l x).map (·.map i6)
 |[],_=>rfl
 |[q],x=>aeT q x
 |q::q'::l,x=>by simp[Xd,oQ,aeT,QG (q'::l) x.2]
theorem abu:∀(ab:List Nat)(os:List (Option (b7 X)))(os':List (Option eU)),os.map (·.map bM)=os'.map (·.map i6)->iU (LG ab os)=Bz ab os'
 |[],_,_,_=>by simp[LG,Bz,iU]
 |_::_,[],[],_=>rfl
 |k::ab,p::os,p'::os',h=>by simp at h;have:=abu ab os os' h.2;simp[iU]at this;simp[LG,Bz,iU,h.1,this]
 |_::_,[],_::_,h |_::_,_::_,[],h=>by simp at h
theorem Mi:∀{ab:List Nat}{os:List (Option (b7 X))}{p:Nat×Option (b7 X)},p∈LG ab os->p.1∈ab
 |[],_,_,h |_::_,[],_,h=>by simp[LG]at h
 |k::ab,q::os,p,h=>by simp[LG]at h;rcases h with rfl |h;simp;exact d9 _ (Mi h)
def acX(get:Nat->Option (b7 X))(d:DV X)(c:CT X.ι):Option (List (CT.T X.toSE c)×Nat×List Bool):=
 match d with
 | .own k 0 len=>(get k).bind λo=>match o with
  | .eM b l=>(lg (.sl b) (.sl c) l).bind λ(l:List (CT.T X.toSE c))=>some (l,k,[az len (List.length l)])
  |_=>none
 |_=>none
def Xe(get:Nat->Option (b7 X))(d:DV X)(c:CT X.ι):Option (CT.T X.toSE c×Nat):=
 match d with
 | .ptr k 0 0=>(get k).bind λo=>match o with
  | .cells sz [row]=>if sz=CT.sz X c then(NK c row).bind λx=>some (x,k)else none
  |_=>none
 |_=>none
def qf(Γ:FuncId->Option (cw X))(get:Nat->Option (b7 X)):List (DV X)->(l:List (AT X.ι))->Option (ja X l×List Nat×List Bool)
 |[],[]=>some ((),[],[])
 |d::ds,.mut c::l=>(acX get d c).bind λx=>(qf Γ get ds l).bind λh=>some ((x.1,h.1),x.2.1::h.2.1,x.2.2++h.2.2)
 |d::ds,.k8 c::l=>(Xe get d c).bind λx=>(qf Γ get ds l).bind λh=>some ((x.1,h.1),x.2::h.2.1,h.2.2)
 |d::ds,.d c::l=>(SS Γ get 3 [d] [.d c]).bind λx=>(qf Γ get ds l).bind λh=>some ((x.1.1,h.1),h.2.1,x.2++h.2.2)
 |d::ds,.ref c::l=>(SS Γ get 3 [d] [.ref c]).bind λx=>(qf Γ get ds l).bind λh=>some ((x.1.1,h.1),h.2.1,x.2++h.2.2)
 |d::ds,.eE as r::l=>(SS Γ get 3 [d] [.eE as r]).bind λx=>(qf Γ get ds l).bind λh=>some ((x.1.1,h.1),h.2.1,x.2++h.2.2)
 |d::ds,.nil::l=>match d with
  | .nil=>(qf Γ get ds l).bind λh=>some (((),h.1),h.2.1,h.2.2)
  |_=>none
 |_,_=>none
def Kc:List (DV X)->List (AT X.ι)->List Nat
 |d::ds,a::l=>(if a.im then []else bz d)++Kc ds l
 |_,_=>[]
def Xf(get:Nat->Option (b7 X)):List (DV X)->(l:List (CT X.ι))->Option (HL X.toSE l×List Bool)
 |[],[]=>some ((),[])
 |d::ds,c::l=>(Gh get d c).bind λx=>(Xf get ds l).bind λh=>some ((x.1,h.1),x.2++h.2)
 |_,_=>none
variable (Γ:FuncId->Option (cw X))
def amu(i:Nat)(f:DV X)(args:List (DV X))(get:Nat->Option (b7 X))(k:KK X A):Option A:=
 match f with
 | .fn F first caps=>(Γ F).bind λs=>match s.gen.filter λg=>(tD get g.qT (first++args++caps) ⟨[],[],[],[]⟩).isSome with
  |some g=>ahH g i (first++args++caps) get k
  |none=>if (s.args.all (λ q=>q.pl)&&s.res.all (λ q=>!q.out))=true then(SS Γ get 3 (first++args++caps) s.args).bind λa=>WE a.2 ((s.fn a.1).bind λx=>(HQ i [] s.res x).bind λp=>
   if s.res.all Xa then k p.1 p.2 (aS (first++args++caps)) []
   else k p.1 (p.2++NT (aS (first++args++caps))) (aS (first++args++caps)) (aS (first++args++caps)))
  else(qf Γ get (first++args++caps) s.args).bind λa=>WE a.2.2 ((s.fn a.1).bind λx=>(HQ i a.2.1 s.res x).bind λp=>
   if (decide a.2.1.Nodup&&(Kc (first++args++caps) s.args).all (λ j=>!a.2.1.contains j)&&decide ((Xd s.res x).length=a.2.1.length))=true then
    if s.res.all Xa then k p.1 (p.2++LG a.2.1 (Xd s.res x)) (aS (first++args++caps)) a.2.1
    else k p.1 (p.2++(LG a.2.1 (Xd s.res x)++NT ((aS (first++args++caps)).filter λj=>!a.2.1.contains j))) (aS (first++args++caps)) (a.2.1++(aS (first++args++caps)).filter λj=>!a.2.1.contains j)
   else none)
 | .eE as q φ=>(Xf get args as).bind λh=>WE h.2 ((φ h.1).bind λy=>
  if yc q then k (.c q y) [] (aS args) []else k (.c q y) (NT (aS args)) (aS args) (aS args))
 |_=>none
def G1(fz:List Nat)(T:eR)(code:TypeId->Option (CT X.ι))(i:Nat)(o:Op)(ρ:Operand->DV X)(get:Nat->Option (b7 X))(k:KK X A):Option A:=
 match o with
 | .call { callee:= .value f,args:=args,argTypes:=_ }=>amu Γ i (ρ f) (args.toList.map ρ) get k
 |o=>if aqP o ρ then apV T code i o ρ get k else if aqQ o ρ || fz.contains i then apW T code i o ρ get k else if aqR T o ρ then apX T code o ρ get k else PP T code i o ρ get k
variable {Γ}
theorem NW{P:Program}{get:Nat->Option (b7 X)}{rd:List Nat}:∀{ds:List (DV X)}{l:List (CT X.ι)}{h:HL X.toSE l×List Bool},Xf get ds l=some h->(∀ b∈h.2,b=true)->(∀ j∈aS ds,j∈rd)->
 ∃hs obs,(∀ p∈obs,p)/\∀ae,nD P (dI rd (fD get)) (bI ds) (hs++ae)=some ((HL.oB X.toSE l h.1).map TV.av,ae,obs)
 |[],[],h,_,_,_=>⟨[],[],by simp,λae=>rfl⟩
 |d::ds,c::l,h,hr,hc,hrd=>by simp[Xf]at hr;have⟨x,h1,hr⟩:=ah.1 hr;have⟨g,h2,hr⟩:=ah.1 hr;cases hr;obtain⟨hs1,o1,p1,q1⟩:=AA (P:=P) (rd:=rd) h1 (λ b hb=>hc b (by simp[hb])) (λ j hj=>hrd j (by simp[aS,hj]));obtain⟨hs2,o2,p2,q2⟩:=NW (P:=P) (rd:=rd) h2 (λ b hb=>hc b (by simp[hb])) (λ j hj=>hrd j (by simp[aS,hj]));refine⟨hs1++hs2,o1++o2,gT p1 p2,λae=>?_⟩;simp[bI,nD,q1,q2];rfl
 |[],_::_,_,hr,_,_ |_::_,[],_,hr,_,_=>by simp[Xf]at hr
theorem Xg{i:Nat}{ab ns:List Nat}{q:RT X.ι}{x:RT.T X q}:∀p∈(IG i ab ns q x).2,p.1=cC i:=by cases q<;>simp[IG]
theorem Xh{i:Nat}{ab ns:List Nat}:∀{l:List (RT X.ι)}{x:tO X l}{p:List (DV X)×List (Nat×Option (b7 X))},LF i ab ns l x=some p->∀q∈p.2,q.1=cC i
 |[],_,p,h=>by simp[LF]at h;subst h;simp
 |[q],x,p,h=>by simp[LF]at h;subst h;exact Xg
 |q::q'::l,x,p,h=>by simp[LF]at h;have⟨p',h1,h⟩:=ah.1 h;split at h;cases h;intro z hz;rcases bP.1 hz with hz |hz;exact Xg z hz;exact Xh h1 z hz;cases h
theorem abv{i:Nat}{ab:List Nat}{l:List (RT X.ι)}{x:tO X l}{p:DV X×List (Nat×Option (b7 X))}(h:HQ i ab l x=some p):∀q∈p.2,q.1=cC i:=by unfold HQ at h;have⟨p',h1,h⟩:=ah.1 h;cases h;exact Xh h1
theorem II{P:Program}{get:Nat->Option aN}{x:AV}{hs ae:List LH}{y:AV}{o:List Prop}(h:nD P get [x] hs=some ([y],ae,o)):pQ P get x hs=some (y,ae,o):=by simp only[nD,ai,append_nil,ah,bL,Prod.mk.injEq,List.cons.injEq,and_true]at h;obtain⟨q,h1,h2,h3,h4⟩:=h;rw[h1,<- h2,<- h3,<- h4]
theorem lU{d:DV X}{ds:List (DV X)}{a:AT X.ι}{l:List (AT X.ι)}{P:Nat->Prop}(h:∀j∈Kc (d::ds) (a::l),P j):(a.im=false->∀j∈bz d,P j)/\∀j∈Kc ds l,P j:=by simp[Kc]at h;exact⟨λ e j hj=>h j (.inl (by rw[e];simpa using hj)),λj hj=>h j (.inr hj)⟩
theorem apY{c:CT X.ι}{l:List (CT.T X.toSE c)}:dS ((aK (l.map (CT.row X.toSE c))).take (l.map (CT.row X.toSE c)).length)=aK (l.map (CT.row X.toSE c)):=by rw[take_of_length_le (by simp[aK])];simp only[dS,aK,map_map];exact map_congr_left λy _=>by simp only[Function.comp,map_map];exact map_congr_left λz _=>rfl
theorem ZR{get:Nat->Option (b7 X)}{d:DV X}{c:CT X.ι}{x:List (CT.T X.toSE c)×Nat×List Bool}(h:acX get d c=some x)(hc:∀b∈x.2.2,b=true):
 d= .own x.2.1 0 (List.length x.1)/\∃o,get x.2.1=some o/\(bM o).sz=(vD c x.1).1/\dS ((bM o).rows.take (vD c x.1).2.length)=aK (vD c x.1).2:=by
 unfold acX at h;split at h;rename_i k len;rw[ah]at h;obtain⟨o,h1,h⟩:=h;split at h;rename_i b l;rw[ah]at h;obtain⟨l',h2,h⟩:=h;cases h;have⟨h3,h4⟩:=jo h2;have h5:len=List.length l':=by simpa[az]using hc (az len (List.length l')) (by simp)
 refine⟨by rw[h5],.eM b l,h1,by simp;exact h3,?_⟩;simp only[bM,vD,h4];exact apY;cases h;cases h
theorem Xi{get:Nat->Option (b7 X)}{d:DV X}{c:CT X.ι}{x:CT.T X.toSE c×Nat}(h:Xe get d c=some x):
 d= .ptr x.2 0 0/\∃o,get x.2=some o/\(bM o).sz=(vD c [x.1]).1/\dS ((bM o).rows.take (vD c [x.1]).2.length)=aK (vD c [x.1]).2:=by unfold Xe at h;split at h;rw[ah]at h;obtain⟨o,h1,h⟩:=h;split at h;split at h;rename_i hsz;have⟨y,h2,h⟩:=ah.1 h;cases h;refine⟨rfl,_,h1,by simp;exact hsz,?_⟩;simp[bM,vD,dS,aK];rw[yR h2];cases h;cases h;cases h
theorem nY{P:Program}{Γ:FuncId->Option (cw X)}(hΓ:tI P Γ){get:Nat->Option (b7 X)}{rd ab:List Nat}:∀{n:Nat}{ds:List (DV X)}{l:List (AT X.ι)}{a:ja X l×List Nat×List Bool},qf Γ get ds l=some a->(∀ b∈a.2.2,b=true)->(∀ j∈aS ds,j∈rd)->(∀ j∈Kc ds l,j∉ab)->ab.drop n=a.2.1->
 (∃ hs obs,(∀ p∈obs,p)/\∀ae,mY P (dI rd (fD get)) ab (bI ds) (hs++ae)=some (eG n l a.1,ae,obs))/\∃mo,Ey (dI rd (fD get)) a.2.1 (vE l a.1)=some mo/\∀p∈mo,p
 |n,[],[],a,h,_,_,_,_=>by simp[qf]at h;subst h;exact⟨⟨[],[],by simp,λae=>rfl⟩,[],rfl,by simp⟩
 |n,d::ds,.mut c::l,a,h,hc,hrd,hnr,hid=>by
  simp[qf]at h;have⟨x,h1,h⟩:=ah.1 h;have⟨q,h2,h⟩:=ah.1 h;cases h;obtain⟨rfl,o,g1,g2,g3⟩:=ZR h1 (λ b hb=>hc b (by simp[hb]));have DP:ab[n]? =some x.2.1:=by rw[<- List.head?_drop,hid];rfl
  have DQ:ab.drop (n+1)=q.2.1:=by rw[<- List.tail_drop,hid];rfl
  obtain⟨⟨hs,obs,p1,p2⟩,mo,m1,m2⟩:=nY hΓ (n:=n+1) h2 (λ b hb=>hc b (by simp[hb])) (λ j hj=>hrd j (by simp[aS,hj])) (lU hnr).2 DQ;refine⟨⟨.mut n::hs,obs,p1,λae=>?_⟩,((bM o).sz=(vD c x.1).1/\dS ((bM o).rows.take (vD c x.1).2.length)=aK (vD c x.1).2)::mo,?_,?_⟩;simp[bI,den,mY,rf,DP,p2,eG];simp[vE,Ey,eY (hrd x.2.1 (by simp[aS,bz])) g1,m1];intro p hp;rcases aI.1 hp with rfl |hp;exact⟨g2,g3⟩;exact m2 p hp
 |n,d::ds,.k8 c::l,a,h,hc,hrd,hnr,hid=>by
  simp[qf]at h;have⟨x,h1,h⟩:=ah.1 h;have⟨q,h2,h⟩:=ah.1 h;cases h;obtain⟨rfl,o,g1,g2,g3⟩:=Xi h1;have DP:ab[n]? =some x.2:=by rw[<- List.head?_drop,hid];rfl
  have DQ:ab.drop (n+1)=q.2.1:=by rw[<- List.tail_drop,hid];rfl
  obtain⟨⟨hs,obs,p1,p2⟩,mo,m1,m2⟩:=nY hΓ (n:=n+1) h2 (λ b hb=>hc b (by simp[hb])) (λ j hj=>hrd j (by simp[aS,hj])) (lU hnr).2 DQ;refine⟨⟨.mut n::hs,obs,p1,λae=>?_⟩,((bM o).sz=(vD c [x.1]).1/\dS ((bM o).rows.take (vD c [x.1]).2.length)=aK (vD c [x.1]).2)::mo,?_,?_⟩;simp[bI,den,mY,cons_append,rf,DP,if_true,ai,p2,eG,fH];simp[vE,Ey,eY (hrd x.2 (by simp[aS,bz])) g1,ai,m1];intro p hp;rcases aI.1 hp with rfl |hp;exact⟨g2,g3⟩;exact m2 p hp
 |n,d::ds,.d c::l,a,h,hc,hrd,hnr,hid=>by simp[qf]at h;have⟨x,h1,h⟩:=ah.1 h;have⟨q,h2,h⟩:=ah.1 h;cases h;obtain⟨hs1,o1,p1,q1⟩:=sW (P:=P) hΓ 3 (n:=n) h1 (λ b hb=>hc b (by simp[hb])) (rd:=rd) (λ j hj=>hrd j (by simp[aS,append_nil]at hj;simp[aS,hj]));obtain⟨⟨hs,obs,p2,q2⟩,mo,m1,m2⟩:=nY hΓ (n:=n) h2 (λ b hb=>hc b (by simp[hb])) (λ j hj=>hrd j (by simp[aS,hj])) (lU hnr).2 hid;refine⟨⟨AE (den d) hs1++hs,o1++obs,gT p1 p2,λae=>?_⟩,mo,m1,m2⟩;have:=yS (II (q1 (hs++ae))) (λ k hk=>(lU hnr).1 rfl k (by rwa [iV]at hk));rw[NU]at this;simp[bI,mY,aT,this,ai,q2,eG]
 |n,d::ds,.ref c::l,a,h,hc,hrd,hnr,hid=>by simp[qf]at h;have⟨x,h1,h⟩:=ah.1 h;have⟨q,h2,h⟩:=ah.1 h;cases h;obtain⟨hs1,o1,p1,q1⟩:=sW (P:=P) hΓ 3 (n:=n) h1 (λ b hb=>hc b (by simp[hb])) (rd:=rd) (λ j hj=>hrd j (by simp[aS,append_nil]at hj;simp[aS,hj]));obtain⟨⟨hs,obs,p2,q2⟩,mo,m1,m2⟩:=nY hΓ (n:=n) h2 (λ b hb=>hc b (by simp[hb])) (λ j hj=>hrd j (by simp[aS,hj])) (lU hnr).2 hid;refine⟨⟨AE (den d) hs1++hs,o1++obs,gT p1 p2,λae=>?_⟩,mo,m1,m2⟩;have:=yS (II (q1 (hs++ae))) (λ k hk=>(lU hnr).1 rfl k (by rwa [iV]at hk));rw[NU]at this;simp[bI,mY,aT,this,ai,q2,eG]
 |n,d::ds,.eE as r::l,a,h,hc,hrd,hnr,hid=>by simp[qf]at h;have⟨x,h1,h⟩:=ah.1 h;have⟨q,h2,h⟩:=ah.1 h;cases h;obtain⟨hs1,o1,p1,q1⟩:=sW (P:=P) hΓ 3 (n:=n) h1 (λ b hb=>hc b (by simp[hb])) (rd:=rd) (λ j hj=>hrd j (by simp[aS,append_nil]at hj;simp[aS,hj]));obtain⟨⟨hs,obs,p2,q2⟩,mo,m1,m2⟩:=nY hΓ (n:=n) h2 (λ b hb=>hc b (by simp[hb])) (λ j hj=>hrd j (by simp[aS,hj])) (lU hnr).2 hid;refine⟨⟨AE (den d) hs1++hs,o1++obs,gT p1 p2,λae=>?_⟩,mo,m1,m2⟩;have:=yS (II (q1 (hs++ae))) (λ k hk=>(lU hnr).1 rfl k (by rwa [iV]at hk));rw[NU]at this;simp[bI,mY,aT,this,ai,q2,eG]
 |n,d::ds,.nil::l,a,h,hc,hrd,hnr,hid=>by simp[qf]at h;split at h;have⟨q,h2,h⟩:=ah.1 h;cases h;obtain⟨⟨hs,obs,p2,q2⟩,mo,m1,m2⟩:=nY hΓ (n:=n) h2 hc (λ j hj=>hrd j (by simp[aS,hj])) (lU hnr).2 hid;refine⟨⟨.nil::hs,obs,p2,λae=>?_⟩,mo,m1,m2⟩;have:=yS (P:=P) (get':=dI rd (fD get)) (ab:=ab) (x:= .dE) (hs:= .nil::(hs++ae)) (p:=(.dE,hs++ae,[])) rfl (λ k hk=>by simp[refs]at hk);simp[AE]at this;simp[bI,den,mY,cons_append,this,ai,q2,eG,fH];cases h
 |_,[],_::_,_,h,_,_,_,_=>by simp[qf]at h
 |_,_::_,[],_,h,_,_,_,_=>by simp[qf]at h
theorem aeU{P:Program}(hΓ:tI P Γ){i:Nat}{f:DV X}{args:List (DV X)}{get:Nat->Option (b7 X)}{k:KK X A}{r:A}(h:amu Γ i f args get k=some r):
 ∃cM rd wr dv upd out,lQ P i (den f) (bI args) cM (dI rd (fD get))=some out/\iT out.obs/\out.v=den dv/\out.upd=iU upd/\(∀ p∈upd,p.1=cC i\/p.1∈wr)/\k dv upd rd wr=some r:=by
 unfold amu at h;split at h;rename_i F first caps
 rw[ah]at h;obtain⟨s,h1,h⟩:=h;split at h;rename_i g hgen;exact acV ((hΓ F s h1).2.2 g (Option.filter_eq_some_iff.1 hgen).1) h;split at h;rename_i hpure;rw[ah]at h;obtain⟨⟨a,cs⟩,h2,h⟩:=h;have⟨hcs,h⟩:=qG h;rw[ah]at h;obtain⟨x,h3,h⟩:=h;rw[ah]at h;obtain⟨p,h4,h⟩:=h;have hf0:=(hΓ F s h1).2.1 a x h3;simp only[aY]at hpure;rw[IA (aqM hpure.1),aeF hpure.2]at hf0;have hf:=oO hf0;have hi:=aeS h4;have hk:=abv h4;obtain⟨hs,obs,g1,g2⟩:=sW (P:=P) hΓ 3 h2 hcs (rd:=aS (first++args++caps)) (λ j hj=>hj);have g3:=g2 [];rw[append_nil,iF,iF]at g3;have hrefs:dD (bI first++bI args++bI caps)=aS (first++args++caps):=by rw[<- iF,<- iF,iW]
 split at h;rename_i hfl;refine⟨.call hs (uf s.res x) true,_,[],p.1,p.2,⟨den p.1,iU p.2,obs++[sd P F (ze s.args a) (uf s.res x),(uf s.res x).flat]⟩,?_,?_,rfl,rfl,λq hq=> .inl (hk q hq),h⟩;simp only[den,lQ,rJ,Au,hi,ai,g3];rfl;exact rX _ (gT g1 (by intro q hq;simp only[aI,bB,or_false]at hq;rcases hq with rfl |rfl;exact hf;exact Xc x hfl));refine⟨.call hs (uf s.res x) false,_,_,p.1,_,⟨den p.1,iU p.2++(aS (first++args++caps)).map (λ k=>(k,none)),obs++[sd P F (ze s.args a) (uf s.res x)]⟩,?_,?_,rfl,?_,?_,h⟩;simp only[den,lQ,rJ,Au,hi,ai,g3,hrefs];rfl;exact rX _ (gT g1 (by intro q hq;simp only[bC]at hq;subst hq;exact hf));simp[sZ,Da];intro q hq;rcases bP.1 hq with hq |hq;exact .inl (hk q hq);exact .inr (Ka hq);rename_i hpure;rw[ah]at h;obtain⟨⟨a,ab,cs⟩,h2,h⟩:=h;have⟨hcs,h⟩:=qG h;rw[ah]at h;obtain⟨x,h3,h⟩:=h;rw[ah]at h;obtain⟨p,h4,h⟩:=h;split at h;rename_i hc;simp only[aY,bF]at hc;obtain⟨⟨hnd,hnr⟩,hlen⟩:=hc;have hf:=(hΓ F s h1).2.1 a x h3;have hi:=aeS h4;have hk:=abv h4;obtain⟨⟨hs,obs,g1,g2⟩,mo,m1,m2⟩:=nY (P:=P) hΓ (rd:=aS (first++args++caps)) (ab:=ab) (n:=0) h2 hcs (λ j hj=>hj) (λ j hj=>by simpa using all_eq_true.1 hnr j hj) rfl;have g3:=g2 [];rw[append_nil,iF,iF]at g3;have hrefs:dD (bI first++bI args++bI caps)=aS (first++args++caps):=by rw[<- iF,<- iF,iW]
 have hlen':(oQ s.res x).length=ab.length:=by rw[<- hlen];simpa using (congrArg List.length (QG s.res x)).symm
 have hout:iU (LG ab (Xd s.res x))=Bz ab (oQ s.res x):=abu _ _ _ (QG s.res x);split at h;rename_i hfl;refine⟨.vi ab (vE s.args a) (oQ s.res x) hs (uf s.res x) true,_,ab,p.1,_,⟨den p.1,iU p.2++Bz ab (oQ s.res x),obs++mo++[ra P F (ze s.args a) (vE s.args a) (oQ s.res x) (uf s.res x),(uf s.res x).flat,V7 (oQ s.res x)]⟩,?_,?_,rfl,?_,?_,h⟩;simp only[den,lQ,rJ,Ij,hi,ai,m1,g3];rw[aU ⟨hnd,hlen'⟩];rfl;refine rX _ (gT (gT g1 m2) ?_);intro q hq;simp only[aI,bB,or_false]at hq;rcases hq with rfl |rfl |rfl;exact hf;exact Xc x hfl;exact abq hfl;simp[sZ,hout];intro q hq;rcases bP.1 hq with hq |hq;exact .inl (hk q hq);exact .inr (Mi hq);refine⟨.vi ab (vE s.args a) (oQ s.res x) hs (uf s.res x) false,_,_,p.1,_,⟨den p.1,iU p.2++(Bz ab (oQ s.res x)++((aS (first++args++caps)).filter λj=>!ab.contains j).map (λ k=>(k,none))),obs++mo++[ra P F (ze s.args a) (vE s.args a) (oQ s.res x) (uf s.res x)]⟩,?_,?_,rfl,?_,?_,h⟩;simp only[den,lQ,rJ,Ij,hi,ai,m1,g3,Ii,hrefs];rw[aU ⟨hnd,hlen'⟩];rfl;refine rX _ (gT (gT g1 m2) ?_);intro q hq;simp only[bC]at hq;subst hq;exact hf;simp[sZ,hout,Da];intro q hq;rcases bP.1 hq with hq |hq;exact .inl (hk q hq);rcases bP.1 hq with hq |hq;exact .inr (mem_append_left _ (Mi hq));exact .inr (mem_append_right _ (Ka hq));cases h;rename_i as q φ;rw[ah]at h;obtain⟨⟨hh,cs⟩,h1,h⟩:=h;have⟨hcs,h⟩:=qG h;rw[ah]at h;obtain⟨y,h2,h⟩:=h;obtain⟨hs,obs,g1,g2⟩:=NW (P:=P) h1 hcs (rd:=aS args) (λ j hj=>hj);have g3:=g2 [];rw[append_nil]at g3;have hφ:∃h' x',φ h'=some x'/\HL.oB X.toSE as hh=HL.oB X.toSE as h'/\CT.tv X.toSE q y=CT.tv X.toSE q x':=⟨hh,y,h2,rfl,rfl⟩;split at h;rename_i hfl;refine⟨.Ge hs (HL.oB X.toSE as hh) (CT.tv X.toSE q y) true,_,[],.c q y,[],⟨(CT.tv X.toSE q y).av,[],obs++[(HL.oB X.toSE as hh).map TV.av=(HL.oB X.toSE as hh).map TV.av,(∃ h' x',φ h'=some x'/\HL.oB X.toSE as hh=HL.oB X.toSE as h'/\CT.tv X.toSE q y=CT.tv X.toSE q x'),(CT.tv X.toSE q y).flat]⟩,?_,?_,rfl,rfl,by simp,h⟩;simp only[den,lQ,rJ,Au,g3,ai];rfl;exact rX _ (gT g1 (by intro z hz;simp only[aI,bB,or_false]at hz;rcases hz with rfl |rfl |rfl;trivial;exact hφ;exact aeQ hfl y));refine⟨.Ge hs (HL.oB X.toSE as hh) (CT.tv X.toSE q y) false,_,_,.c q y,_,⟨(CT.tv X.toSE q y).av,(aS args).map (λ k=>(k,none)),obs++[(HL.oB X.toSE as hh).map TV.av=(HL.oB X.toSE as hh).map TV.av,(∃ h' x',φ h'=some x'/\HL.oB X.toSE as hh=HL.oB X.toSE as h'/\CT.tv X.toSE q y=CT.tv X.toSE q x')]⟩,?_,?_,rfl,(Da _).symm,λz hz=> .inr (Ka hz),h⟩;simp only[den,lQ,rJ,Au,g3,ai,iW];rfl;exact rX _ (gT g1 (by intro z hz;simp only[aI,bB,or_false]at hz;rcases hz with rfl |rfl;trivial;exact hφ));cases h
theorem ahK{P:Program}(hΓ:tI P Γ){fz:List Nat}{T:eR}{code:TypeId->Option (CT X.ι)}{i:Nat}{o:Oper}{ρ:Operand->DV X}{get:Nat->Option (b7 X)}{k:KK X A}{r:A}(h:G1 Γ fz T code i o.op ρ get k=some r):eK P T i o ρ get k r:=by
 obtain⟨dst,op,ty,am,after,guard⟩:=o;unfold G1 at h;simp only at h;split at h
 ·have:=aeU hΓ h;simp only[<- Vm]at this;obtain⟨cM,rd,wr,dv,upd,out,g1,g2⟩:=this;exact .call g1 g2
 ·split at h
  ·exact ahD (o:=⟨dst,op,ty,am,after,guard⟩) h
  ·split at h
   ·exact ahE (o:=⟨dst,op,ty,am,after,guard⟩) h
   ·split at h
    ·exact ahF (o:=⟨dst,op,ty,am,after,guard⟩) h
    ·rename_i hne _ _ _;have⟨cM,rd,wr,dv,upd,out,g1,g2⟩:=abf (o:=⟨dst,op,ty,am,after,guard⟩) h;exact eK.op (λ f args ej e=>hne f args ej e) g1 g2
end
def lE(x y:AV):Prop:=∀P β w I v,VR P β w I x v->VR P β w I y v
theorem lE.refl(x:AV):lE x x:=λ_ _ _ _ _ h=>h
theorem lE.undef(x:AV):lE x .undef:=λ_ _ _ _ _ _=>by simp[VR]
theorem lE.wk(x:AV):lE x (wk x):=λ_ _ _ _ _ h=>h.wk
section
variable {P:Program} {w0:World} {O0:ld} {N:Nat} {β:Nat->Option c9} {I:Nat->Prop} {a:Act} {w:World} {f g:Nat->Nat} {D:Nat->Prop}
mutual
theorem VR.rn(hgf:∀k,D k->g (f k)=k):∀(x:AV)(v:Value),(∀ k∈refs x,D k)->VR P β w I x v->VR P (λ j=>β (g j)) w I (il f x) v
 | .own k aa len,v,hd,h=>by simp[il,VR,hgf k (hd k (by simp[refs]))]at h ⊢;exact h
 | .ptr k row aa,v,hd,h=>by simp[il,VR,hgf k (hd k (by simp[refs]))]at h ⊢;exact h
 | .agg cs,v,hd,h=>by simp[VR]at h ⊢;obtain⟨vs,h1,h2⟩:=h;exact⟨vs,h1,be.rn hgf cs _ (by simpa[refs]using hd) h2⟩
 | .eI cs,v,hd,h=>by simp[VR]at h ⊢;obtain⟨vs,h1,h2⟩:=h;exact⟨vs,h1,be.rn hgf cs _ (by simpa[refs]using hd) h2⟩
 | .fn F first caps,v,hd,h=>by simp[VR]at h ⊢;obtain⟨fs,cs,h1,h2,h3⟩:=h;exact⟨fs,cs,h1,be.rn hgf first _ (λ k hk=>hd k (by simp[refs,hk])) h2,be.rn hgf caps _ (λ k hk=>hd k (by simp[refs,hk])) h3⟩
 | .t x,v,_,h | .ff r o,v,_,h | .eE φ,v,_,h=>by simpa[il,VR]using h
 | .mp k,v,hd,h=>by simp[il,VR,hgf k (hd k (by simp[refs]))]at h ⊢;exact h
 | .oz k len,v,hd,h=>by simp[il,VR,hgf k (hd k (by simp[refs]))]at h ⊢;exact h
 | .dE,v,_,h | .ub,v,_,h=>by simpa[il,VR]using h
 | .undef,v,_,h=>by simp[il,VR]
theorem be.rn(hgf:∀k,D k->g (f k)=k):∀(xs:List AV)(vs:List Value),(∀ k∈dD xs,D k)->be P β w I xs vs->be P (λ j=>β (g j)) w I (vN f xs) vs
 |[],[],_,_=>by simp[vN,be]
 |x::xs,v::vs,hd,h=>by simp[be]at h;simp[vN];exact⟨VR.rn hgf x v (λ k hk=>hd k (by simp[dD,hk])) h.1,be.rn hgf xs vs (λ k hk=>hd k (by simp[dD,hk])) h.2⟩
 |[],_::_,_,h |_::_,[],_,h=>by simp[be]at h
end
def nj(D:Nat->Prop)(f:Nat->Nat):List AV->List AV->Prop
 |[],[]=>True
 |x::xs,y::ys=>((∀ k∈refs x,D k)/\lE (il f x) y)/\nj D f xs ys
 |_,_=>False
def io(D:Nat->Prop)(f:Nat->Nat):List (List AV)->List (List AV)->Prop
 |[],[]=>True
 |r::rs,q::qs=>nj D f r q/\io D f rs qs
 |_,_=>False
theorem nj.length:∀{r q:List AV},nj D f r q->q.length=r.length
 |[],[],_=>rfl
 |_::xs,_::ys,h=>by simp[nj.length h.2]
 |[],_::_,h |_::_,[],h=>h.elim
theorem d8.re(hgf:∀k,D k->g (f k)=k):∀{r q:List AV}{c:Array Value}{aa:Nat},nj D f r q->d8 P β w I r c aa->d8 P (λ j=>β (g j)) w I q c aa
 |[],[],_,_,_,_=>trivial
 |x::xs,y::ys,c,aa,hr,⟨⟨v,h1,h2,h3⟩,h4⟩=>⟨⟨v,h1,hr.1.2 _ _ _ _ _ (VR.rn hgf x v hr.1.1 h2),h3⟩,d8.re hgf hr.2 h4⟩
 |[],_::_,_,_,h,_ |_::_,[],_,_,h,_=>h.elim
theorem b9.re(hgf:∀k,D k->g (f k)=k):∀{rs qs:List (List AV)}{c:Array Value}{aa sz:Nat},io D f rs qs->b9 P β w I rs c aa sz->b9 P (λ j=>β (g j)) w I qs c aa sz
 |[],[],_,_,_,_,_=>trivial
 |r::rs,q::qs,c,aa,sz,hr,⟨h1,h2,h3⟩=>⟨by rw[hr.1.length];exact h1,d8.re hgf hr.1 h2,b9.re hgf hr.2 h3⟩
 |[],_::_,_,_,_,h,_ |_::_,[],_,_,_,h,_=>h.elim
theorem be.re(hgf:∀k,D k->g (f k)=k):∀{r q:List AV}{vs:List Value},nj D f r q->be P β w I r vs->be P (λ j=>β (g j)) w I q vs
 |[],[],[],_,_=>by simp[be]
 |x::xs,y::ys,v::vs,hr,h=>by exact⟨hr.1.2 _ _ _ _ _ (VR.rn hgf x v hr.1.1 h.1),be.re hgf hr.2 h.2⟩
 |[],_::_,_,h,_ |_::_,[],_,h,_=>h.elim
 |[],[],_::_,_,h |_::_,_::_,[],_,h=>by simp[be]at h
theorem cX.re(hgf:∀k,D k->g (f k)=k):∀{rs qs:List (List AV)}{es:List MapEntry},io D f rs qs->cX P β w I rs es->cX P (λ j=>β (g j)) w I qs es
 |[],[],[],_,_=>trivial
 |r::rs,q::qs,_::es,hr,⟨h1,h2⟩=>⟨be.re hgf hr.1 h1,cX.re hgf hr.2 h2⟩
 |[],_::_,_,h,_ |_::_,[],_,h,_ |[],[],_::_,_,h |_::_,_::_,[],_,h=>h.elim
theorem io.length:∀{rs qs:List (List AV)},io D f rs qs->qs.length=rs.length
 |[],[],_=>rfl
 |_::xs,_::ys,h=>by simp[io.length h.2]
 |[],_::_,h |_::_,[],h=>h.elim
theorem Rel.re{s s':St}(hgf:∀k,D k->g (f k)=k)(hg:∀j,j<1000->g j=j)(hr:Rel P w0 O0 N β I s a w)(hok:∀t,s.ok t=none\/s'.env t= .undef)(hok':∀t,s'.ok t=none)
 (hE:∀t,s'.env t= .undef\/((∀ k∈refs (s.env t),D k)/\lE (il f (s.env t)) (s'.env t)))
 (hO:∀j o',s'.obj j=some o'->∃k o,s.obj k=some o/\D k/\f k=j/\o'.sz=o.sz/\io D f o.rows o'.rows):Rel P w0 O0 N (λ j=>β (g j)) I s' a w:=by
 refine⟨hr.defers,hr.size,λt=>?_,?_⟩
 ·have h1:=hr.env t;rw[hok' t];rcases hok t with hk |h
  rotate_left
  rw[h];simp[gd,VR];rw[hk]at h1;rcases hE t with h |⟨h2,h3⟩;rw[h];simp[gd,VR];exact h3 _ _ _ _ _ (VR.rn hgf _ _ h2 h1)
 have hm:=hr.mem;constructor;intro j o' hj;obtain⟨k,o,h1,h2,rfl,h4,h5⟩:=hO j o' hj;have⟨B,hB,tB⟩:=hm.dp k o h1;refine⟨B,by simp[hgf k h2];exact hB,?_⟩;cases B with
 |none=>
  simp[OR]at tB ⊢;rw[tB]at h5;cases ho:o'.rows with
  |nil=>rfl
  |cons=>rw[ho]at h5;exact h5.elim
 | «at» b sz n=>
  obtain⟨g1,c,e,g2,g3,g4⟩:=tB;exact⟨by rw[g1,h4],c,e,g2,g3,b9.re hgf h5 g4⟩
 |mp b=>
  obtain⟨es,cl,g1,gl,g2,g3⟩:=tB;have hl:=h5.length;exact⟨es,cl,g1,by omega,λe=>cX.re hgf h5 (g2 (by omega)),g3⟩
 intro j j' o o' B B' b h1 h2 h3 h4 h5 h6;obtain⟨k,q,i1,i2,rfl,_⟩:=hO j o h1;obtain⟨k',q',i1',i2',rfl,_⟩:=hO j' o' h2;simp[hgf k i2,hgf k' i2']at h3 h4;rw[hm.iv k k' q q' B B' b i1 i1' h3 h4 h5 h6];intro j o B b h1 h2;obtain⟨k,q,i1,i2,rfl,_⟩:=hO j o h1;simp[hgf k i2]at h2;exact hm.ownB k q B b i1 h2;exact hm.lt;exact hm.up;exact hm.keep;exact hm.le;exact hm.os;exact hm.tape;exact hm.output;intro j B hj;show β (g j)=some B;rw[hg j (O0.lt j B hj)];exact hm.anch j B hj;exact hm.vars
end
section
variable {X:SX}
theorem aeV{D:Nat->Prop}(f:Nat->Nat):∀r:List (DV X),(∀ k∈aS r,D k)->nj D f (bI r) (bI (Mf f r))
 |[],_=>trivial
 |x::xs,h=>⟨⟨λ k hk=>h k (by rw[iV]at hk;simp[aS,hk]),by rw[AB];exact lE.refl _⟩,aeV f xs λk hk=>h k (by simp[aS,hk])⟩
theorem Ke{D:Nat->Prop}(f:Nat->Nat)(o:b7 X)(h:∀k∈eJ o,D k):(bM (rh f o)).sz=(bM o).sz/\io D f (bM o).rows (bM (rh f o)).rows:=by
 cases o with
 |cells sz rows=>
  refine⟨rfl,?_⟩;simp only[eJ]at h
  induction rows with
  |nil=>trivial
  |cons r rs ih=>
   refine⟨aeV f r λk hk=>h k (by simp[hk]),ih λk hk=>h k ?_⟩;simp only[bG,flatten_cons,bP];exact .inr hk
 |eM c l=>
  refine⟨rfl,?_⟩;simp[bM,rh];generalize l.map (CT.row X.toSE c)=rows;have hrow:∀r:List Tree,nj D f (r.map AV.t) (r.map AV.t):=by
   intro r
   induction r with
   |nil=>trivial
   |cons y ys ih=>exact⟨⟨by simp[refs],lE.refl _⟩,ih⟩
  induction rows with
  |nil=>trivial
  |cons r rs ih=>exact⟨hrow r,ih⟩
 |map kc vc l=>
  refine⟨rfl,?_⟩;clear h
  induction l with
  |nil=>trivial
  |cons p ps ih=>exact⟨⟨⟨by simp[Az],by rw[WZ];exact lE.refl _⟩,⟨by simp[Az],by rw[WZ];exact lE.refl _⟩,trivial⟩,ih⟩
structure Low(s:ek X):Prop where
 le:s.nx<=1000000
 ge:1000<=s.nx
 env:∀t,∀k∈bz (fS s.env t),k<s.nx
 obj:∀k o,iS s.obj k=some o->k<s.nx/\∀j∈eJ o,j<s.nx
theorem Xj{o:b7 X}{r:List AV}{x:AV}(hr:r∈(bM o).rows)(hx:x∈r):∀j∈refs x,j∈eJ o:=by
 intro j hj;cases o with
 |cells sz rows=>
  simp[bM]at hr;obtain⟨q,hq,rfl⟩:=hr;rw[oP,mem_map]at hx;obtain⟨d,hd,rfl⟩:=hx;simp[eJ];refine⟨_,⟨q,hq,rfl⟩,?_⟩;have:∀l:List (DV X),d∈l->j∈aS l:=by
   intro l
   induction l with
   |nil=>intro h;simp at h
   |cons y ys ih=>intro h;rcases aI.1 h with rfl |h
                  simp[aS];left;rwa [iV]at hj;simp[aS];exact .inr (ih h)
  exact this q hd
 |eM c l=>
  simp[bM,aK]at hr;obtain⟨q,_,rfl⟩:=hr;simp at hx;obtain⟨t,_,rfl⟩:=hx;simp[refs]at hj
 |map kc vc l=>
  simp only[bM,mem_map]at hr;obtain⟨q,_,rfl⟩:=hr;simp at hx;rcases hx with rfl |rfl<;>simp[Az]at hj
theorem Low.old{s:ek X}(h:Low s):tG s.st:=by have hle:=h.le;constructor;intro t k hk;have:=h.env t k (by rw[<- iV];exact hk);omega;intro k o hk;simp[ek.st]at hk;obtain⟨o',h1,rfl⟩:=hk;have⟨h2,h3⟩:=h.obj k o' h1;refine⟨by omega,λr hr x hx j hj=>?_⟩;have:=h3 j (Xj hr hx j hj);omega
end
section
variable {X:SX} {A:Type}
def p7(e b:List (Nat×DV X))(t:Nat):DV X:=match lk e t with |some x=>x |none=>fS b t
def zd(o b:List (Nat×Option (b7 X)))(k:Nat):Option (b7 X):=match lk o k with |some x=>x |none=>iS b k
def Ab(dst:Option Tmp)(dv:DV X)(e:List (Nat×DV X)):List (Nat×DV X):=match dst with |some t=>(t,dv)::e |none=>e
def Xk:DV X->DV X
 | .skip=> .undef
 |x=>x
def LJ(e:List (Nat×DV X)):Operand->Bool
 | .tmp t=>match lk e t with |some .skip=>false |_=>true
 |_=>true
def Ta(e b:List (Nat×DV X))(o:Op):Bool:=
 match o with
 | .pick c x y=>LJ e c&&((LJ e x&&LJ e y) || match ZM (p7 e b) c with | .c .bool t=>bif t then LJ e x else LJ e y |_=>false)
 |o=>o.operands.toList.all (LJ e)
abbrev Hh:=List (Nat×List Nat×List Nat)
section
variable (Γ:FuncId->Option (cw X)) (fz:List Nat) (T:eR) (code:TypeId->Option (CT X.ι)) (ag:Array Oper) (b:ek X)
def zk(k:List (Nat×DV X)->List (Nat×Option (b7 X))->Hh->Option A):List Nat->List (Nat×DV X)->List (Nat×Option (b7 X))->Hh->Option A
 |[],e,o,pp=>k e o pp
 |i::r,e,o,pp=>(ag[i]?).bind λop=>match op.guard with
  |none=>bif Ta e b.env op.op then G1 Γ fz T code i op.op (ZM (p7 e b.env)) (zd o b.obj) λdv upd rd wr=>zk k r (Ab op.dst (Xk dv) e) (upd++o) ((i,rd,wr)::pp)else none
  |some (j,p)=>((ag[j]?).bind (·.dst)).bind λt=>match p7 e b.env t with
   | .c .bool v=>
    bif v then(bif p then(bif Ta ((t,.c .bool true)::e) b.env op.op then G1 Γ fz T code i op.op (ZM (p7 ((t,.c .bool true)::e) b.env)) (zd o b.obj) λdv upd rd wr=>zk k r (Ab op.dst (Xk dv) ((t,.c .bool true)::e)) (upd++o) ((i,rd,wr)::pp)else none)
     else zk k r (Ab op.dst .skip ((t,.c .bool true)::e)) o ((i,[],[])::pp))
    else(bif p then zk k r (Ab op.dst .skip ((t,.c .bool false)::e)) o ((i,[],[])::pp)
     else(bif Ta ((t,.c .bool false)::e) b.env op.op then G1 Γ fz T code i op.op (ZM (p7 ((t,.c .bool false)::e) b.env)) (zd o b.obj) λdv upd rd wr=>zk k r (Ab op.dst (Xk dv) ((t,.c .bool false)::e)) (upd++o) ((i,rd,wr)::pp)else none))
   | .skip=>bif(lk e t).isSome then zk k r (Ab op.dst .skip e) o ((i,[],[])::pp)else none
   |_=>none
end
def iD(b:ek X)(e:List (Nat×DV X))(o:List (Nat×Option (b7 X))):St:=⟨λ t=>den (p7 e b.env t),λk=>(zd o b.obj k).map bM,λt=>match lk e t with |some .skip=>some false |_=>none⟩
theorem akB(x:DV X):den (Xk x)=den x:=by cases x<;>rfl
theorem amv(b:ek X)(e:List (Nat×DV X))(o:List (Nat×Option (b7 X)))(dst:Option Tmp)(dv:DV X)(upd:List (Nat×Option (b7 X)))(obs:List Prop):
 (iD b e o).app dst (⟨den dv,iU upd,obs⟩,none)=iD b (Ab dst (Xk dv) e) (upd++o):=by
 simp[iD,St.app];refine⟨?_,?_,?_⟩;funext t;cases dst with
 |none=>simp[y7,Ab]
 |some d=>
  simp[y7,Ab,p7,lk];by_cases h:d=t<;>simp[h,akB]
 funext j
 induction upd with
 |nil=>rfl
 |cons p u ih=>
  obtain⟨q,x⟩:=p;simp[iU,bV,zd,lk]at ih ⊢;by_cases h:j=q;simp[h];rw[aP h,aP (Ne.symm h)];exact ih
 funext t;cases dst with
 |none=>simp[y7,Ab]
 |some d=>
  simp[y7,Ab,lk];by_cases h:d=t;simp[h];cases dv<;>rfl;simp[aP h]
theorem akC(b:ek X)(e:List (Nat×DV X))(o:List (Nat×Option (b7 X)))(dst:Option Tmp):(iD b e o).app dst (⟨.undef,[],[]⟩,some false)=iD b (Ab dst .skip e) o:=by
 simp[iD,St.app];refine⟨?_,rfl,?_⟩;funext t;cases dst with
 |none=>simp[y7,Ab]
 |some d=>
  simp[y7,Ab,p7,lk];by_cases h:d=t<;>simp[h,den]
 funext t;cases dst with
 |none=>simp[y7,Ab]
 |some d=>
  simp[y7,Ab,lk];by_cases h:d=t<;>simp[h]
theorem aeW(b:ek X)(e:List (Nat×DV X))(o:List (Nat×Option (b7 X))):mT (iD b e o).env=λx=>den (ZM (p7 e b.env) x):=by funext x;exact(WA _ x).symm
theorem Dg{b:ek X}{e:List (Nat×DV X)}{o:List (Nat×Option (b7 X))}{x:Operand}(h:LJ e x=true):xZ (iD b e o).ok x=[]:=by
 cases x with
 |tmp t=>
  simp[LJ]at h;simp[xZ,iD];cases ht:lk e t with
  |none=>rfl
  |some d=>rw[ht]at h;cases d<;>first |rfl |cases h
 |_=>rfl
theorem akD{b:ek X}{e:List (Nat×DV X)}{o:List (Nat×Option (b7 X))}{P:Program}{T:eR}{i:Nat}{op:Oper}{cM:kq}{get:Nat->Option aN}{out:Out}(hok:Ta e b.env op.op=true)
 (h:jO P T i op cM (mT (iD b e o).env) get=some out):∀p∈needs (iD b e o).env (iD b e o).ok op.op,p:=by
 obtain⟨dst,op,ty,am,after,guard⟩:=op;unfold needs;split
 ·rename_i c x y heq;simp only at heq;subst heq;simp only[Ta,aY,Bool.or_eq_true]at hok;obtain⟨hc,hxy⟩:=hok;have hb:∃t,mT (iD b e o).env c= .t (.sc (.bool t)):=by
   have h0:(∃ n,cM= .ext n)\/(∃ ab fr q,cM= .zz ab fr q)\/qZ T i ⟨dst,.pick c x y,ty,am,after,guard⟩ cM (mT (iD b e o).env) get=some out:=(by cases cM<;>first |exact .inl ⟨_,rfl⟩ |exact .inr (.inl ⟨_,_,_,rfl⟩) |exact .inr (.inr h));rcases h0 with ⟨n,rfl⟩ |⟨ab,fr,q,rfl⟩ |h0
   ·simp[jO,tY,N3,tX]at h
   ·simp[jO,Ik,ahc]at h
   ·simp only[qZ]at h0;split at h0
    ·rename_i t ht;exact⟨t,ht⟩
    ·cases h0
  obtain⟨t,ht⟩:=hb;rw[ht];simp only[Dg hc,fH];rcases hxy with ⟨hx,hy⟩ |hxy
  ·simp[Dg hx,Dg hy]
  ·split at hxy
   ·rename_i t' ht';have e1:mT (iD b e o).env c= .t (.sc (.bool t')):=(by rw[aeW];simp only[ht'];rfl);rw[e1]at ht;injection ht with ht;injection ht with ht;injection ht with ht;subst ht;cases t' with
    |true=>
     simp only[aj]at hxy;simp[Dg hxy]
    |false=>
     simp only[au]at hxy;simp[Dg hxy]
   ·cases hxy
 ·rename_i o' hne;intro p hp;have hall:∀x∈op.operands.toList,LJ e x=true:=by have:Ta e b.env op=op.operands.toList.all (LJ e):=(by cases op<;>first |rfl |exact(hne _ _ _ rfl).elim);rw[this]at hok;exact all_eq_true.1 hok
  simp only[mem_flatMap]at hp;obtain⟨x,hx,hp⟩:=hp;rw[Dg (hall x hx)]at hp;simp at hp
theorem amw{a b:List Prop}(h:∀p∈a,p)(h':iT b):iT (a++b):=rX _ (gT h (NE b h'))
variable {Γ:FuncId->Option (cw X)} {fz:List Nat} {T:eR} {code:TypeId->Option (CT X.ι)} {ag:Array Oper} {b:ek X} {P:Program}
theorem akE(hΓ:tI P Γ){i:Nat}{op:Oper}{e:List (Nat×DV X)}{o:List (Nat×Option (b7 X))}{k:KK X A}{r:A}(hop:ag[i]? =some op)(hw:want ag op (iD b e o).env (iD b e o).ok=some true)(hok:Ta e b.env op.op=true)
 (h:G1 Γ fz T code i op.op (ZM (p7 e b.env)) (zd o b.obj) k=some r):
 ∃(a:kw)(dv:DV X)(upd:List (Nat×Option (b7 X))),a.sym=false/\k dv upd a.rd a.wr=some r/\∀(df:Nat->kw)(K:St->Prop),df i=a->K (iD b (Ab op.dst (Xk dv) e) (upd++o))->z6 P T ag df i K (iD b e o):=by
 have⟨cM,rd,wr,dv,upd,out,h1,h2,h3,h4,h5,h6⟩:=ahK hΓ h;refine⟨⟨cM,rd,wr,false⟩,dv,upd,rfl,h6,λdf K ha hK=>?_⟩;have h1':jO P T i op cM (mT (iD b e o).env) (dI rd (iD b e o).obj)=some out:=by rw[aeW];exact h1
 refine⟨op,(⟨out.v,out.upd,needs (iD b e o).env (iD b e o).ok op.op++out.obs⟩,none),hop,?_,?_,?_⟩;simp only[opAt,hop,ai,hw,ha,h1'];rw[aU];rw[all_eq_true];intro p hp;rw[h4]at hp;simp only[iU,mem_map]at hp;obtain⟨q,hq,rfl⟩:=hp;rcases h5 q hq with h |h;simp[h,Wl.2 (.inl rfl:j0 (cC i) (cC i))];simp[h];exact amw (akD hok h1') h2;rw[h3,h4,amv];exact hK
theorem step_skip{i:Nat}{op:Oper}{e:List (Nat×DV X)}{o:List (Nat×Option (b7 X))}(hop:ag[i]? =some op)(hw:want ag op (iD b e o).env (iD b e o).ok=some false)
 (df:Nat->kw) (K:St->Prop) (ha:df i=⟨.none,[],[],false⟩) (hK:K (iD b (Ab op.dst .skip e) o)):z6 P T ag df i K (iD b e o):=by refine⟨op,(⟨.undef,[],[]⟩,some false),hop,?_,trivial,?_⟩;simp[opAt,hop,hw,ha];rw[akC];exact hK
theorem ahL{e:List (Nat×DV X)}{o:List (Nat×Option (b7 X))}{t:Nat}{v:Bool}(h:p7 e b.env t= .c .bool v):iD b ((t,.c .bool v)::e) o=iD b e o:=by
 simp[iD];refine⟨?_,?_⟩;funext s;by_cases hs:t=s;subst hs;rw[h];simp[p7,lk];simp[p7,lk,hs];funext s;by_cases hs:t=s;subst hs;simp[lk];unfold p7 at h;cases ht:lk e t with
 |none=>rfl
 |some d=>rw[ht]at h;simp at h;subst h;rfl
 simp[lk,hs]
def KJ(tr:List (Nat×kw)):Hh:=tr.map λp=>(p.1,p.2.rd,p.2.wr)
def Td(ag:Array Oper)(t:Nat):Prop:=∃(j:Nat)(op:Oper),ag[j]? =some op/\op.dst=some t
theorem aeX{dst:Option Tmp}{dv:DV X}{e:List (Nat×DV X)}{p:Nat×DV X}(h:p∈Ab dst dv e):p∈e\/dst=some p.1:=by
 cases dst with
 |none=>exact .inl h
 |some t=>
  simp[Ab]at h;rcases h with rfl |h;exact .inr rfl;exact .inl h
theorem EK(hΓ:tI P Γ){k:List (Nat×DV X)->List (Nat×Option (b7 X))->Hh->Option A}{r:A}:∀(l:List Nat)(e:List (Nat×DV X))(o:List (Nat×Option (b7 X)))(pp:Hh),zk Γ fz T code ag b k l e o pp=some r->
 ∃(tr:List (Nat×kw))(e':List (Nat×DV X))(o':List (Nat×Option (b7 X))),tr.map (·.1)=l/\k e' o' ((KJ tr).reverse++pp)=some r/\(∀ p∈e',p∈e\/Td ag p.1)/\
  ∀df:Nat->kw,(∀ p∈tr,df p.1=p.2)->TS P T ag df (λ σ=>σ=iD b e' o') l (iD b e o)
 |[],e,o,pp,h=>⟨[],e,o,rfl,h,λ_ hp=> .inl hp,λ_ _=>rfl⟩
 |i::l,e,o,pp,h=>by
  simp[zk]at h;have⟨op,hop,h⟩:=ah.1 h
  have exec:∀e:List (Nat×DV X),want ag op (iD b e o).env (iD b e o).ok=some true->
   (bif Ta e b.env op.op then G1 Γ fz T code i op.op (ZM (p7 e b.env)) (zd o b.obj) λdv upd rd wr=>zk Γ fz T code ag b k l (Ab op.dst (Xk dv) e) (upd++o) ((i,rd,wr)::pp)else none)=some r->
   ∃(tr:List (Nat×kw)) (e':List (Nat×DV X)) (o':List (Nat×Option (b7 X))),tr.map (·.1)=i::l/\k e' o' ((KJ tr).reverse++pp)=some r/\(∀ p∈e',p∈e\/Td ag p.1)/\
    ∀df:Nat->kw,(∀ p∈tr,df p.1=p.2)->TS P T ag df (λ σ=>σ=iD b e' o') (i::l) (iD b e o):=by intro e hw h;have⟨hok,h⟩:=dW h;have⟨a,dv,upd,_,h1,h2⟩:=akE hΓ hop hw hok h;obtain⟨tr,e',o',g1,g2,g4,g3⟩:=EK hΓ l _ _ _ h1;refine⟨(i,a)::tr,e',o',by simp[g1],?_,λp hp=>(g4 p hp).elim (λ hp=>(aeX hp).elim .inl λhd=> .inr ⟨i,op,hop,hd⟩) .inr,λdf ha=>?_⟩;simpa[KJ]using g2;exact h2 df _ (ha (i,a) (by simp)) (g3 df λp hp=>ha p (by simp[hp]))
  have skip:∀e:List (Nat×DV X),want ag op (iD b e o).env (iD b e o).ok=some false->zk Γ fz T code ag b k l (Ab op.dst .skip e) o ((i,[],[])::pp)=some r->
   ∃(tr:List (Nat×kw)) (e':List (Nat×DV X)) (o':List (Nat×Option (b7 X))),tr.map (·.1)=i::l/\k e' o' ((KJ tr).reverse++pp)=some r/\(∀ p∈e',p∈e\/Td ag p.1)/\
    ∀df:Nat->kw,(∀ p∈tr,df p.1=p.2)->TS P T ag df (λ σ=>σ=iD b e' o') (i::l) (iD b e o):=by intro e hw h;obtain⟨tr,e',o',g1,g2,g4,g3⟩:=EK hΓ l _ _ _ h;refine⟨(i,⟨.none,[],[],false⟩)::tr,e',o',by simp[g1],?_,λp hp=>(g4 p hp).elim (λ hp=>(aeX hp).elim .inl λhd=> .inr ⟨i,op,hop,hd⟩) .inr,λdf ha=>?_⟩;simpa[KJ]using g2;exact step_skip hop hw df _ (ha (i,_) (by simp)) (g3 df λp hp=>ha p (by simp[hp]))
  split at h;rename_i hg;exact exec e (by simp[want,hg]) h;rename_i j p hg;rw[ah]at h;obtain⟨t,ht,h⟩:=h;split at h;rename_i v hv;have hw:∀e:List (Nat×DV X),p7 e b.env t= .c .bool v->want ag op (iD b e o).env (iD b e o).ok=some (v==p):=by
   intro e he;simp[want,hg,ht];have h0:(iD b e o).ok t=none:=by
    simp[iD];unfold p7 at he;cases hq:lk e t with
    |none=>rfl
    |some d=>rw[hq]at he;simp at he;subst he;rfl
   have h1:(iD b e o).env t= .t (.sc (.bool v)):=(by simp[iD,he];rfl);rw[h0,h1]
  have hk:=ahL (b:=b) (o:=o) hv;have hv':p7 ((t,.c .bool v)::e) b.env t= .c .bool v:=by simp[p7,lk]
  have htd:Td ag t:=by have⟨oj,h1,h2⟩:=ah.1 ht;exact⟨j,oj,h1,h2⟩
  have wide:(∃ (tr:List (Nat×kw)) (e':List (Nat×DV X)) (o':List (Nat×Option (b7 X))),tr.map (·.1)=i::l/\k e' o' ((KJ tr).reverse++pp)=some r/\(∀ p∈e',p∈((t,.c .bool v)::e:List (Nat×DV X))\/Td ag p.1)/\
   ∀df:Nat->kw,(∀ p∈tr,df p.1=p.2)->TS P T ag df (λ σ=>σ=iD b e' o') (i::l) (iD b ((t,.c .bool v)::e) o))->
   ∃(tr:List (Nat×kw))(e':List (Nat×DV X))(o':List (Nat×Option (b7 X))),tr.map (·.1)=i::l/\k e' o' ((KJ tr).reverse++pp)=some r/\(∀ p∈e',p∈e\/Td ag p.1)/\
   ∀df:Nat->kw,(∀ p∈tr,df p.1=p.2)->TS P T ag df (λ σ=>σ=iD b e' o') (i::l) (iD b e o):=by rintro⟨tr,e',o',g1,g2,g4,g3⟩;refine⟨tr,e',o',g1,g2,λq hq=>?_,hk ▸ g3⟩;rcases g4 q hq with h |h;rcases aI.1 h with rfl |h;exact .inr htd;exact .inl h;exact .inr h
  apply wide;cases v with
  |true=>
   simp at h;cases p with
   |true=>exact exec _ (hw _ hv') h
   |false=>exact skip _ (hw _ hv') h
  |false=>
   simp at h;cases p with
   |true=>exact skip _ (hw _ hv') h
   |false=>exact exec _ (hw _ hv') h
  rename_i hv;have⟨hsome,h⟩:=dW h;refine skip e ?_ h;simp[want,hg,ht];have h1:(iD b e o).env t= .undef:=by simp[iD,hv];rfl
  cases hq:lk e t with
  |some d=>
   have h0:(iD b e o).ok t=some false:=(by unfold p7 at hv;rw[hq]at hv;simp at hv;subst hv;simp[iD,hq]);rw[h0,h1]
  |none=>rw[hq]at hsome;cases hsome
  cases h
end
section
variable {X:SX} {A:Type}
def fN(nx k:Nat):Nat:=if k<1000000 then k else nx+(k -1000000)
def gN(nx j:Nat):Nat:=if j<nx then j else 1000000+(j -nx)
def IN(nx sz k:Nat):Bool:=decide (k<nx) || (decide (1000000<=k)&&decide (k<1000000+sz))
def okE(nx sz:Nat)(e:List (Nat×DV X)):Bool:=e.all λp=>(bz p.2).all (IN nx sz)
def okO(nx sz:Nat)(o:List (Nat×Option (b7 X))):Bool:=o.all λp=>IN nx sz p.1&&match p.2 with |some x=>(eJ x).all (IN nx sz) |none=>true
def pr(pp:Hh):Nat->kw:=λi=>match lk pp i with |some p=>⟨.none,p.1,p.2,false⟩ |none=>⟨.none,[],[],false⟩
def nh(tr:List (Nat×kw)):Nat->kw:=λi=>match lk tr i with |some a=>a |none=>⟨.none,[],[],false⟩
def Nx:DV X->DV X
 | .skip=> .undef
 |x=>x
theorem amy(x:DV X):den (Nx x)=den x:=by cases x<;>rfl
theorem abw(x:DV X):bz (Nx x)=bz x:=by cases x<;>rfl
def fin(s:ek X)(e:List (Nat×DV X))(o:List (Nat×Option (b7 X)))(sz:Nat):ek X:=
 ⟨e.map (λ p=>(p.1,Nx (tc (fN s.nx) p.2)))++s.env,o.map (λ p=>(fN s.nx p.1,p.2.map (rh (fN s.nx))))++s.obj,s.nx+sz,o.map (λ p=>fN s.nx p.1)++s.log⟩
def amz(N:Nat)(ag:Array Oper)(d:Bool)(nx:Nat)(e:List (Nat×DV X))(o:List (Nat×Option (b7 X)))(pp:Hh):Bool:=
 Qs N ag&&(!d || Ws ag (pr pp))&&okE nx (64*ag.size) e&&okO nx (64*ag.size) o&&decide (nx+64*ag.size<=1000000)
def ahM(Γ:FuncId->Option (cw X))(fz:List Nat)(T:eR)(code:TypeId->Option (CT X.ι))(N:Nat)(ag:Array Oper)(d:Bool)(s:ek X)(k:ek X->Option A):Option A:=
 zk Γ fz T code ag s (λ e o pp=>bif amz N ag d s.nx e o pp then k (fin s e o (64*ag.size))else none) (List.range ag.size) [] [] []
theorem aeY{ag:Array Oper}{df we:Nat->kw}(h:∀i,(df i).rd=(we i).rd/\(df i).wr=(we i).wr):Ws ag df=Ws ag we:=by
 have h1:yh df=yh we:=by funext i j;simp[yh,(h i).1,(h i).2,(h j).1,(h j).2]
 have h2:∀md,Qr md ag df=Qr md ag we:=by intro md;funext listed i;simp[Qr,h1]
 have h3:∀(md:Region.Mode)(n k:Nat)(listed:Array Bool),lexFrom' md ag df n k listed=lexFrom' md ag we n k listed:=by
  intro md n
  induction n with
  |zero=>intro k listed;rfl
  |succ n ih=>intro k listed;simp[lexFrom',h2,ih]
 exact h3 _ _ _ _
theorem Dh{α:Type}:∀(a b:List (Nat×α))(k:Nat),lk (a++b) k=match lk a k with |some x=>some x |none=>lk b k
 |[],_,_=>rfl
 |(j,x)::a,b,k=>by simp[lk];by_cases h:j=k;simp[h];simp[aP h,Dh a b k]
theorem lR{α:Type}:∀{l:List (Nat×α)}{k:Nat},lk l k=none->∀x,(k,x)∉l
 |(j,y)::r,k,h,x=>by simp[lk]at h;split at h;cases h;rename_i hn;simp only[aI,Prod.mk.injEq,not_or];exact⟨λ e=>hn e.1.symm,lR h x⟩
 |[],_,_,_=>by simp
theorem apZ{tr:List (Nat×kw)}(hn:(tr.map (·.1)).Nodup)(i:Nat):(pr (KJ tr).reverse i).rd=(nh tr i).rd/\(pr (KJ tr).reverse i).wr=(nh tr i).wr:=by
 have hn':((KJ tr).reverse.map (·.1)).Nodup:=by
  rw[List.map_reverse];have h1:((KJ tr).map (·.1)).Nodup:=by simpa[KJ,Function.comp_def]using hn
  exact List.pairwise_reverse.2 (h1.imp λh=>Ne.symm h)
 unfold pr nh;cases h:lk tr i with
 |none=>
  cases h':lk (KJ tr).reverse i with
  |none=>exact⟨rfl,rfl⟩
  |some p=>
   have:=pR h';simp only[KJ,List.mem_reverse,mem_map]at this;obtain⟨q,hq,he⟩:=this;injection he with e1 e2;subst e1;exact(lR h q.2 hq).elim
 |some a=>
  have h1:=pR h;have h2:(i,a.rd,a.wr)∈(KJ tr).reverse:=by simp only[KJ,List.mem_reverse,mem_map];exact⟨(i,a),h1,rfl⟩
  rw[vP hn' h2];exact⟨rfl,rfl⟩
theorem amA{tr:List (Nat×kw)}(hn:(tr.map (·.1)).Nodup):∀p∈tr,nh tr p.1=p.2:=by rintro⟨i,a⟩ hp;rw[nh,vP hn hp]
theorem Xl{nx sz k:Nat}(h:IN nx sz k=true):k<nx\/(1000000<=k/\k<1000000+sz):=by simpa[IN]using h
theorem gfN{nx sz k:Nat}(hle:nx+sz<=1000000)(h:k<nx\/(1000000<=k/\k<1000000+sz)):gN nx (fN nx k)=k:=by grind [gN,fN]
theorem HW{nx sz k:Nat}(hle:nx+sz<=1000000)(h:k<nx\/(1000000<=k/\k<1000000+sz)):fN nx k<nx+sz:=by grind [fN]
theorem SD{nx k:Nat}(hle:nx<=1000000)(h:k<nx):fN nx k=k:=aU (by omega)
mutual
theorem Xm{f:Nat->Nat}:∀x:DV X,(∀ k∈bz x,f k=k)->tc f x=x
 | .own k _ _,h | .ptr k _ _,h | .sk k _ _,h | .mp k,h | .oz k _,h | .uv k _ _ _ _,h=>by simp[tc,h k (by simp[bz])]
 | .agg cs,h | .eI cs,h=>by simp[tc,EL cs (by simpa[bz]using h)]
 | .fn F first caps,h=>by simp[tc,EL first (λ k hk=>h k (by simp[bz,hk])),EL caps (λ k hk=>h k (by simp[bz,hk]))]
 | .c _ _,_ | .rp _ _ _,_ | .y4 _ _ _ _ _,_ | .eE _ _ _,_ | .raw _,_ | .nil,_ | .ub,_ | .skip,_ | .undef,_=>rfl
theorem EL{f:Nat->Nat}:∀l:List (DV X),(∀ k∈aS l,f k=k)->Mf f l=l
 |[],_=>rfl
 |x::xs,h=>by simp[Mf,Xm x (λ k hk=>h k (by simp[aS,hk])),EL xs (λ k hk=>h k (by simp[aS,hk]))]
end
mutual
theorem Xn(f:Nat->Nat):∀x:DV X,bz (tc f x)=(bz x).map f
 | .own _ _ _ | .ptr _ _ _ | .sk _ _ _ | .mp _ | .oz _ _ | .uv _ _ _ _ _=>rfl
 | .agg cs | .eI cs=>by simp[tc,bz,Di f cs]
 | .fn F first caps=>by simp[tc,bz,Di f first,Di f caps]
 | .c _ _ | .rp _ _ _ | .y4 _ _ _ _ _ | .eE _ _ _ | .raw _ | .nil | .ub | .skip | .undef=>rfl
theorem Di(f:Nat->Nat):∀l:List (DV X),aS (Mf f l)=(aS l).map f
 |[]=>rfl
 |x::xs=>by simp[Mf,aS,Xn f x,Di f xs]
end
theorem aeZ(f:Nat->Nat)(o:b7 X):eJ (rh f o)=(eJ o).map f:=by
 cases o with
 |cells sz rows=>simp[rh,eJ];congr 1;exact map_congr_left λr _=>Di f r
 |eM c l |map kc vc l=>rfl
theorem amB{α β:Type}(f:α->β):∀(l:List (Nat×α))(k:Nat),lk (l.map λp=>(p.1,f p.2)) k=(lk l k).map f
 |[],_=>rfl
 |(j,x)::r,k=>by simp[lk];by_cases h:j=k;simp[h];simp[aP h,amB f r k]
theorem ajp{α β:Type}(f:α->β)(g:Nat->Nat):∀(l:List (Nat×α))(j:Nat),(∀ p∈l,∀q∈l,g p.1=g q.1->p.1=q.1)->
 (∀ y,lk (l.map λp=>(g p.1,f p.2)) j=some y->∃k x,lk l k=some x/\g k=j/\y=f x)/\(lk (l.map λp=>(g p.1,f p.2)) j=none->∀p∈l,g p.1≠j)
 |[],_,_=>⟨λ _ h=>by simp[lk]at h,λ_=>by simp⟩
 |(k0,x0)::r,j,hi=>by
  obtain⟨i1,i2⟩:=ajp f g r j (λ p hp q hq=>hi p (by simp[hp]) q (by simp[hq]));simp[lk];by_cases h:g k0=j;rw[aU h];exact⟨λ y hy=>by injection hy with hy;exact⟨k0,x0,by simp,h,hy.symm⟩,λhn=>by cases hn⟩
  grind
structure Ext(ds:Nat->Prop)(s s':ek X):Prop where
 env:∀t,¬ds t->fS s'.env t=fS s.env t\/fS s'.env t= .undef
 obj:∃d,s'.log=d++s.log/\∀k,k<s.nx->k∉d->iS s'.obj k=iS s.obj k\/iS s'.obj k=none
 nx:s.nx<=s'.nx
variable {Γ:FuncId->Option (cw X)} {fz:List Nat} {T:eR} {code:TypeId->Option (CT X.ι)} {P:Program} {N:Nat}
theorem NY(s:ek X)(e:List (Nat×DV X))(o:List (Nat×Option (b7 X)))(sz t:Nat):fS (fin s e o sz).env t=match lk e t with |some d=>Nx (tc (fN s.nx) d) |none=>fS s.env t:=by simp[fin,fS,Dh,amB (λ d=>Nx (tc (fN s.nx) d))];cases lk e t<;>rfl
theorem acY(hT:fw P T)(hm:P.follows .mixedOrders=true)(hΓ:tI P Γ){id:Nat}{ag:Array Oper}{d:Bool}{s:ek X}{k:ek X->Option A}{r:A}(hl:Low s)(h:ahM Γ fz T code N ag d s k=some r):
 ∃s':ek X,k s'=some r/\Low s'/\Ext (Td ag) s s'/\Ev P N (.region id ag d) (λ e σ=>e= .normal/\σ=s'.st) s.st:=by
 unfold ahM at h;obtain⟨tr,e,o,h1,h2,h3,h4⟩:=EK hΓ _ _ _ _ h;have⟨h5,h6⟩:=dW h2;simp only[amz,aY,append_nil]at h5;obtain⟨⟨⟨⟨hd,hlex⟩,hE⟩,hO⟩,hnx⟩:=h5;have hle:s.nx+64*ag.size<=1000000:=of_decide_eq_true hnx;have K0:(tr.map (·.1)).Nodup:=by rw[h1];exact List.nodup_range
 have hEn:∀t x,lk e t=some x->∀j∈bz x,j<s.nx\/(1000000<=j/\j<1000000+64*ag.size):=by intro t x hx j hj;have:=all_eq_true.1 hE _ (pR hx);exact Xl (all_eq_true.1 this j hj)
 have LI:∀p∈o,(p.1<s.nx\/(1000000<=p.1/\p.1<1000000+64*ag.size))/\∀x,p.2=some x->∀j∈eJ x,j<s.nx\/(1000000<=j/\j<1000000+64*ag.size):=by intro p hp;have:=all_eq_true.1 hO _ hp;simp at this;refine⟨Xl this.1,λx hx j hj=>?_⟩;have h2:=this.2;rw[hx]at h2;exact Xl (all_eq_true.1 h2 j hj)
 have hinj:∀p∈o,∀q∈o,fN s.nx p.1=fN s.nx q.1->p.1=q.1:=by
  intro p hp q hq he;have:=congrArg (gN s.nx) he
  rwa [gfN hle (LI p hp).1,gfN hle (LI q hq).1]at this
 have zj:∀j,(∃ q x,lk o q=some x/\fN s.nx q=j/\iS (fin s e o (64*ag.size)).obj j=x.map (rh (fN s.nx)))\/(iS (fin s e o (64*ag.size)).obj j=iS s.obj j/\∀p∈o,fN s.nx p.1≠j):=by
  intro j;obtain⟨i1,i2⟩:=ajp (λ x:Option (b7 X)=>x.map (rh (fN s.nx))) (fN s.nx) o j hinj;simp only[fin,iS,Dh];cases hj:lk (o.map λp=>(fN s.nx p.1,p.2.map (rh (fN s.nx)))) j with
  |none=>exact .inr ⟨rfl,i2 hj⟩
  |some y=>
   have⟨q,x,g1,g2,g3⟩:=i1 y hj;exact .inl ⟨q,x,g1,g2,by rw[g3];rfl⟩
 refine⟨fin s e o (64*ag.size),h6,?_,?_,?_⟩;constructor;exact hle;have:=hl.ge;show 1000<=s.nx+64*ag.size;omega;intro t j hj;rw[NY]at hj;cases ht:lk e t with
 |none=>rw[ht]at hj;have:=hl.env t j hj;show j<s.nx+64*ag.size;omega
 |some x=>
  rw[ht,abw,Xn]at hj;obtain⟨q,hq,rfl⟩:=mem_map.1 hj;exact HW hle (hEn t x ht q hq)
 intro j x hx;rcases zj j with ⟨q,y,g1,rfl,g3⟩ |⟨g1,_⟩;rw[g3]at hx;rw[tT]at hx;obtain⟨z,rfl,rfl⟩:=hx;obtain⟨k1,k2⟩:=LI _ (pR g1);refine⟨HW hle k1,λi hi=>?_⟩;rw[aeZ]at hi;obtain⟨i',hi',rfl⟩:=mem_map.1 hi;exact HW hle (k2 z rfl i' hi');rw[g1]at hx;have⟨k1,k2⟩:=hl.obj j x hx;refine⟨show j<s.nx+64*ag.size by omega,λi hi=>?_⟩;have:=k2 i hi;show i<s.nx+64*ag.size;omega;refine⟨λ t ht=> .inl ?_,⟨o.map (λ p=>fN s.nx p.1),rfl,λj hj hn=>?_⟩,by show s.nx<=s.nx+64*ag.size;omega⟩;rw[NY];cases hx:lk e t with
 |none=>rfl
 |some x=>
  rcases h3 _ (pR hx)with h |h;simp at h;exact(ht h).elim
 rcases zj j with ⟨q,y,g1,g2,g3⟩ |⟨g1,_⟩;exact(hn (mem_map.2 ⟨(q,y),pR g1,g2⟩)).elim;exact .inl g1;have hst:iD s [] []=s.st:=rfl;have hex:=h4 (nh tr) (amA K0);rw[hst]at hex;intro w0 O0 β I a w hr ho;have done:∀(e':Exit)(a':Act)(w':World),(∃ β' I' σ1,Rel P w0 O0 N β' I' σ1 a' w'/\e'= .normal/\σ1=iD s e o)->∃ β' I' σ1,Rel P w0 O0 N β' I' σ1 a' w'/\tG σ1/\e'= .normal/\σ1=(fin s e o (64*ag.size)).st:=by
  rintro e' a' w' ⟨β',I',σ1,g1,rfl,rfl⟩;refine⟨_,I',(fin s e o (64*ag.size)).st,Rel.re (f:=fN s.nx) (g:=gN s.nx) (D:=λk=>k<s.nx\/(1000000<=k/\k<1000000+64*ag.size)) (λ k hk=>gfN hle hk) (λ j hj=>by have:=hl.ge;unfold gN;rw[aU (by omega)]) g1 (λ t=>?_) (λ _=>rfl) (λ t=> .inr ?_) (λ j o' hj=>?_),?_,rfl,rfl⟩;show(match lk e t with |some .skip=>some false |_=>none)=none\/den (fS (fin s e o (64*ag.size)).env t)= .undef;rw[NY];cases ht:lk e t with
  |none=>exact .inl rfl
  |some d=>cases d<;>first |exact .inl rfl |exact .inr rfl
  show(∀ k∈refs (den (p7 e s.env t)),_)/\lE (il (fN s.nx) (den (p7 e s.env t))) (den (fS (fin s e o (64*ag.size)).env t));rw[NY,iV,<- AB];unfold p7;cases ht:lk e t with
  |none=>
   refine⟨λ q hq=> .inl (hl.env t q hq),?_⟩;rw[Xm _ (λ q hq=>SD (by omega) (hl.env t q hq))];exact lE.refl _
  |some x=>exact⟨hEn t x ht,by simp[amy];exact lE.refl _⟩
  simp[ek.st]at hj;obtain⟨x,hx,rfl⟩:=hj;rcases zj j with ⟨q,y,i1,rfl,i3⟩ |⟨i1,i2⟩;rw[i3,tT]at hx;obtain⟨z,rfl,rfl⟩:=hx;obtain⟨k1,k2⟩:=LI _ (pR i1);obtain⟨r1,r2⟩:=Ke (D:=λk=>k<s.nx\/(1000000<=k/\k<1000000+64*ag.size)) (fN s.nx) z (λ i hi=>k2 z rfl i hi);refine⟨q,bM z,?_,k1,rfl,r1,r2⟩;simp[iD,zd,i1];rw[i1]at hx;have⟨k1,k2⟩:=hl.obj j x hx;have hid:rh (fN s.nx) x=x:=by
   cases x with
   |eM c l |map kc vc l=>rfl
   |cells sz rows=>
    simp[rh];congr 1;have:∀q∈rows,Mf (fN s.nx) q=q:=λq hq=>EL q λi hi=>SD (by omega) (k2 i (by simp[eJ];exact⟨_,⟨q,hq,rfl⟩,hi⟩));rw[map_congr_left this];simp
  obtain⟨r1,r2⟩:=Ke (D:=λk=>k<s.nx\/(1000000<=k/\k<1000000+64*ag.size)) (fN s.nx) x (λ i hi=> .inl (k2 i hi));rw[hid]at r1 r2;refine⟨j,bM x,?_,.inl k1,SD (by omega) k1,r1,r2⟩;simp[iD,zd];cases hlo:lk o j with
  |none=>simp[hx]
  |some y=>exact(i2 _ (pR hlo) (SD (by omega) k1)).elim
  have hL:Low (fin s e o (64*ag.size)):=by
   constructor;exact hle;have:=hl.ge;show 1000<=s.nx+64*ag.size;omega;intro t j hj;rw[NY]at hj;cases ht:lk e t with
   |none=>rw[ht]at hj;have:=hl.env t j hj;show j<s.nx+64*ag.size;omega
   |some x=>
    rw[ht,abw,Xn]at hj;obtain⟨q,hq,rfl⟩:=mem_map.1 hj;exact HW hle (hEn t x ht q hq)
   intro j x hx;rcases zj j with ⟨q,y,g1,rfl,g3⟩ |⟨g1,_⟩;rw[g3]at hx;rw[tT]at hx;obtain⟨z,rfl,rfl⟩:=hx;obtain⟨k1,k2⟩:=LI _ (pR g1);refine⟨HW hle k1,λi hi=>?_⟩;rw[aeZ]at hi;obtain⟨i',hi',rfl⟩:=mem_map.1 hi;exact HW hle (k2 z rfl i' hi');rw[g1]at hx;have⟨k1,k2⟩:=hl.obj j x hx;refine⟨show j<s.nx+64*ag.size by omega,λi hi=>?_⟩;have:=k2 i hi;show i<s.nx+64*ag.size;omega
  exact hL.old
 cases d with
 |false=>exact wp_mono (aa4 hT hd ho hex hr) done
 |true=>
  refine wp_mono (Ip hT hm hd ?_ ho hex hr) done;rw[<- aeY (apZ K0)];simpa using hlex
end
end Go.Gb
