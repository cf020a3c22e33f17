import Derived.Test.YtlhamcjimbeggaaGreatDoorW1
import Derived.Maps.RangeRun
import Derived.ChangeSame
import Derived.Carry
import Derived.OpenShut
import Derived.SizedLaws
import Derived.WalkKit
import Derived.ProofKit
import Derived.Lib.LaidTab
open List (mem_map all_eq_true cons_append length_map append_nil map_map take_of_length_le map_congr_left flatten_cons map_nil all_cons map_take map_drop mem_flatMap mem_append_left mem_append_right)
namespace Go.Gb
open Go.RowKit Go.MapKept
structure RgI where
 x:Operand
 t:TypeId
 a0:Nat
 it:Nat
 nn:Nat
 b:Nat
 e:Nat
 xx:Nat
 kv:Nat
 j:Nat
 j2:Nat
 body:Code
section
variable {P:Program} {w0:World} {O0:k5} {N:Nat} {G:Nat->Option cW} {I:Nat->Prop} {M:St} {a:Act} {w:World}
def St.put(M:St)(d:Nat)(x:AV):St:=⟨zX M.env (some d) x,M.obj,zX M.ok (some d) none⟩
theorem Rel.put(hr:Rel P w0 O0 N G I M a w){d:Nat}(hd:d<N){x:AV}{v:Value}(hv:VR P G w I x v):Rel P w0 O0 N G I (M.put d x) (a.put (some d) v) w:=by
 refine⟨by simpa[Act.put]using hr.defers,by simpa[Act.put]using hr.size,λt=>?_,hr.mem⟩;have hold:=hr.env t;simp only[St.put,zX,Act.put,bX];by_cases hdt:d=t;subst hdt;rw[aM rfl,aM rfl];have e:(a.tmps.setIfInBounds d v).getD d undef=v:=by simp[Nat.lt_of_lt_of_eq hd hr.size.symm]
 rw[e];exact hv;rw[aC hdt,aC hdt];simpa[Array.getElem?_setIfInBounds_ne hdt]using hold
structure tD(G:Nat->Option cW)(I:Nat->Prop)(obj:Nat->Option aR)(w:World)(r:Nat):Prop where
 lt:r<w.heap.size
 IH:¬I r
 obj:∀k o,obj k=some o->¬il G k r
theorem Rel.world{w':Y}(hr:Rel P w0 O0 N G I M a w)(hs:Same I w w')(hm:Mem P w0 O0 G I M.obj w'):Rel P w0 O0 N G I M a w':=
 ⟨hr.defers,hr.size,λt=>fL.mono (λ _ _ h=>h) hs (λ _ h=>h) (hr.env t),hm⟩
end
open Go.RowKit
def kept(os':U (Option fD))(j:Nat):Prop:=∃p,os'[j]? =some (some p)
def B5(get:E)(fk:J Nat)(os':U (Option fD)):AV->Tree->Prop
 |.t x,y=>y=x
 |.cD,y=>y=.sl []
 |.oz k len,y=>fk≠some k/\¬kept os' k/\∃o eb,get k=some o/\(o.rows.drop 0).take len=aK eb/\eb.length=len/\y=.sl eb
 |.own k ab len,y=>fk≠some k/\¬kept os' k/\∃o eb,get k=some o/\(o.rows.drop ab).take len=aK eb/\eb.length=len/\y=.sl eb
 |_,_=>False
def ll(get:E)(fk:J Nat)(os':U (Option fD)):U AV->U Tree->Prop
 |[],[]=>True
 |x::xs,y::ys=>B5 get fk os' x y/\ll get fk os' xs ys
 |_,_=>False
def dp(get:E)(fk:J Nat)(os':U (Option fD)):U (List AV)->U (List Tree)->Prop
 |[],[]=>True
 |x::xs,y::ys=>ll get fk os' x y/\dp get fk os' xs ys
 |_,_=>False
def Hp(get:E)(fk:J Nat)(os':U (Option fD)):AV->RC->Prop
 |.agg cs,.d (.a ts)=>ll get fk os' cs ts
 |x,.d (.s y)=>B5 get fk os' x y
 |.cD,.fresh _ rows=>rows=[]
 |.own k ab len,.fresh sz rows=>fk=some k/\¬kept os' k/\ab=0/\∃o,get k=some o/\o.sz=sz/\dp get fk os' (o.rows.take len) rows/\rows.length=len
 |.own k ab len,.whole j len'=>k=j/\ab=0/\len'=len/\kept os' j
 |_,_=>False
def nw(get:E)(fk:J Nat)(os':U (Option fD)):U AV->U RC->Prop
 |[],[]=>True
 |x::xs,c::cs=>Hp get fk os' x c/\nw get fk os' xs cs
 |_,_=>False
def Hm(get:E)(fk:J Nat)(os':U (Option fD)):U AV->RV->Prop
 |[x],.one c=>Hp get fk os' x c
 |x::y::r,.fR cs=>nw get fk os' (x::y::r) cs
 |[],.fR cs=>cs=[]
 |_,_=>False
def PC(get:E)(fk:J Nat)(os':U (Option fD)):Prop:=
 ∀(j:Nat) p,os'[j]? =some (some p)->fk≠some j/\∃o,get j=some o/\o.sz=p.1/\dp get fk os' (o.rows.take p.2.length) p.2
def WW(T:eS)(t:V)(x:AV)(obj:E):J Out:=
 MC T t x .none obj
def RQ(T:eS)(M:St):ResultVar->J AV
 |.tmp t=>match M.ok t with
  |none=>some (M.env t)
  |some _=>none
 |.cell a t=>match M.ok a with
  |none=>match WW T t (M.env a) M.obj with
   |some ⟨v,[],[]⟩=>some v
   |_=>none
  |some _=>none
def o8(T:eS)(M:St):U ResultVar->J (List AV)
 |[]=>some []
 |r::rs=>(RQ T M r).bind λv=>(o8 T M rs).bind λvs=>some (v::vs)
def XZ(tmps:Array Value):ResultVar->Sem Value
 |.tmp t=>pure (tmps.getD t undef)
 |.cell a t=>do loadVar t (<- asAddr (tmps.getD a undef))
theorem X0(fn:Func)(tmps:Array Value):results fn tmps=(fn.results.mapM (XZ tmps))>>=λvs=>pure (if h:vs.size=1 then vs[0]else .tuple vs):=by congr 2
def aqP(T:eS)(rs:U ResultVar)(rv:RV)(os':U (Option fD)):Exit->St->Prop
 |.normal,M=>∃xs fk,o8 T M rs=some xs/\Hm M.obj fk os' xs rv/\PC M.obj fk os'
 |.ret,M=>∃xs fk,o8 T M rs=some xs/\Hm M.obj fk os' xs rv/\PC M.obj fk os'
 |_,_=>False
section
variable {P:Program} {T:eS} {w0:World} {O0:k5} {N:Nat} {G:Nat->Option cW} {I:Nat->Prop} {M:St} {a:Act} {w:World}
theorem adS(hT:fQ P T)(hr:Rel P w0 O0 N G I M a w){r:ResultVar}{x:AV}(h:RQ T M r=some x):
 ∃v,(XZ a.tmps r).run P w=.ok v w/\VR P G w I x v:=by
 cases r with
 |tmp t=>
  simp only[RQ]at h;have h1:=hr.env t;cases hk:M.ok t with
  |some b=>rw[hk]at h;cases h
  |none=>
   rw[hk]at h h1;cases h;exact⟨_,by simp[XZ],h1⟩
 |cell ad t=>
  simp only[RQ]at h;have hx:=hr.env ad;cases hk:M.ok ad with
  |some b=>rw[hk]at h;cases h
  |none=>
  rw[hk]at h hx;simp only at h;have hx:VR P G w I (M.env ad) (a.tmps.getD ad undef):=hx;split at h
  .rename_i v hl;injection h with h;subst h;obtain⟨u,h1,h2⟩:∃u,(Instr.loadAt t (a.tmps.getD ad undef)).run P w=.ok u w/\VR P G w I v u:=(by obtain⟨u,h1,h2,_⟩:=Uw hT hr.mem (λ _ _ h=>h) hl trivial hx;exact⟨u,h1,h2⟩);refine⟨u,?_,h2⟩;have hp:∃p,a.tmps.getD ad undef=.pointer (some p):=by
    unfold WW at hl;unfold MC at hl;cases hti:T t with
    |none=>simp[hti]at hl
    |some ti=>
     simp only[hti,ai]at hl;split at hl
     .rename_i heq;rw[heq]at hx;simp only[VR]at hx;obtain⟨b,sz,n,_,h⟩:=hx;exact⟨_,h⟩
     .rename_i heq;rw[heq]at hx;simp only[VR]at hx;obtain⟨b,o,h,_⟩:=hx;exact⟨_,h⟩
     .cases hl
   obtain⟨p,hp⟩:=hp;rw[hp]at h1;simp only[XZ,hp,asAddr,Sem.run_bind,Sem.run_pure,Result.andThen_ok];exact h1
  .cases h
theorem CG(hT:fQ P T)(hr:Rel P w0 O0 N G I M a w):∀(rs:U ResultVar)(xs:U AV),o8 T M rs=some xs->
 ∃vs,(rs.mapM (XZ a.tmps)).run P w=.ok vs w/\bp P G w I xs vs
 |[],xs,h=>by simp[o8]at h;subst h;exact⟨[],by simp,by simp[bp]⟩
 |r::rs,xs,h=>by
  simp[o8]at h;cases h1:RQ T M r with
  |none=>simp[h1]at h
  |some x=>
   cases h2:o8 T M rs with
   |none=>simp[h2]at h
   |some ys=>
    simp[h1,h2]at h;subst h;have⟨v,g1,g2⟩:=adS hT hr h1;have⟨vs,g3,g4⟩:=CG hT hr rs ys h2;exact⟨v::vs,by simp[g1,g3],by simp[bp];exact⟨g2,g4⟩⟩
def O3(M:St)(w0 w:Y)(G:Ω)(I:Ψ)(O0:k5)(fk:J Nat)(os':U (Option fD))(b:Nat):Prop:=
 (I b\/O0.IH b\/w0.heap.size<=b\/O0.own b)/\b<w.heap.size/\¬∃k,(fk=some k\/kept os' k)/\(∃ o,M.obj k=some o)/\il G k b
theorem afH(hr:Rel P w0 O0 N G I M a w)(fk:J Nat)(os':U (Option fD)):∀b,I b->O3 M w0 w G I O0 fk os' b:=λb hb=>
 ⟨.inl hb,hr.mem.lt b hb,λ⟨k,_,⟨o,ho⟩,hβ⟩=>(hr.mem.kq k o b ho hβ).1 hb⟩
theorem O4(hr:Rel P w0 O0 N G I M a w){fk:J Nat}{os':U (Option fD)}{k ab len:Nat}{y:Tree}{v:Value}(h:fk≠some k/\¬kept os' k/\∃o eb,M.obj k=some o/\(o.rows.drop ab).take len=aK eb/\eb.length=len/\y=.sl eb)(hv:VR P G w I (.own k ab len) v):TR w (O3 M w0 w G I O0 fk os') y v:=by obtain⟨hne,hnk,o,eb,h1,h2,h3,rfl⟩:=h;simp only[TR];rcases hv with ⟨_,rfl,_,h4⟩|⟨b,sz,n,cap,ad,h4,rfl,h5,h6,h7⟩;exact .inl ⟨List.eq_nil_of_length_eq_zero (by omega),none,0,rfl,λ_=>rfl⟩;have⟨g1,g2,g3⟩:=hr.mem.own k o b sz n h1 h4;refine .inr ⟨b,ad,cap,sz,by rw[h3],by omega,⟨.inr (.inr (g3.elim .inr .inl)),g2,λ⟨k',e1,⟨o',e2⟩,e3⟩=>?_⟩,?_⟩;have:=hr.mem.ox k k' o o' b h1 e2 (.at h4) e3;subst this;exact e1.elim hne hnk;by_cases hc:cap=0;have:eb=[]:=List.eq_nil_of_length_eq_zero (by omega);subst this;simp[cN];rw[h7 hc];have⟨B,hB,s9⟩:=hr.mem.c8 k o h1;rw[h4]at hB;cases hB;obtain⟨hs,c,e,hc',_,s9⟩:=s9;have h8:=cj.take len _ _ _ _ (cj.drop ab _ _ _ _ s9);rw[h2]at h8;exact cN.ma (afH hr fk os') hc' eb _ _ h8
theorem FP(hr:Rel P w0 O0 N G I M a w){fk:J Nat}{os':U (Option fD)}{x:AV}{y:Tree}{v:Value}(h:B5 M.obj fk os' x y)(hv:VR P G w I x v):TR w (O3 M w0 w G I O0 fk os') y v:=by
 cases x<;>simp only[B5]at h
 case t x=>subst h;simp[VR]at hv;exact TR.mono (λ _ _=>rfl) (afH hr fk os') _ _ hv
 case cD=>subst h;simp[VR]at hv;simp only[TR];exact .inl ⟨trivial,none,0,hv,λ_=>rfl⟩
 case own k ab len=>exact O4 hr h hv
 case oz k len=>
  rcases hv.we with ⟨rfl,rfl⟩|⟨_,hv⟩;obtain⟨hne,hnk,o,eb,h1,h2,h3,rfl⟩:=h;exact .inl ⟨List.eq_nil_of_length_eq_zero h3,none,0,rfl,λ_=>rfl⟩;exact O4 hr h hv
theorem O5(hr:Rel P w0 O0 N G I M a w){fk:J Nat}{os':U (Option fD)}{β':Ω}:∀{r:U AV}{t:U Tree}{c:Array Value}{ab:Nat},ll M.obj fk os' r t->df P G w I r c ab->df P β' w (O3 M w0 w G I O0 fk os') (t.map AV.t) c ab
 |[],[],_,_,_,_=>trivial
 |x::xs,y::ys,c,ab,h,⟨⟨v,h1,h2,h3⟩,h4⟩=>⟨⟨v,h1,by simp[VR];exact FP hr h.1 h2,h3⟩,O5 hr h.2 h4⟩
 |[],_::_,_,_,h,_|_::_,[],_,_,h,_=>h.elim
theorem ll.length{get:E}{fk:J Nat}{os':U (Option fD)}:∀{r:U AV}{t:U Tree},ll get fk os' r t->t.length=r.length
 |[],[],_=>rfl
 |_::_,_::_,h=>by simp[ll.length h.2]
 |[],_::_,h|_::_,[],h=>h.elim
theorem CJ(hr:Rel P w0 O0 N G I M a w){fk:J Nat}{os':U (Option fD)}{β':Ω}:∀{rs:U (List AV)}{ts:U (List Tree)}{c:Array Value}{ab sz:Nat},dp M.obj fk os' rs ts->cj P G w I rs c ab sz->cj P β' w (O3 M w0 w G I O0 fk os') (aK ts) c ab sz
 |[],[],_,_,_,_,_=>trivial
 |r::rs,t::ts,c,ab,sz,h,⟨h1,h2,h3⟩=>⟨by rw[length_map,h.1.length,h1],O5 hr h.1 h2,CJ hr h.2 h3⟩
 |[],_::_,_,_,_,h,_|_::_,[],_,_,_,h,_=>h.elim
theorem dp.length{get:E}{fk:J Nat}{os':U (Option fD)}:∀{rs:U (List AV)}{ts:U (List Tree)},dp get fk os' rs ts->rs.length=ts.length
 |[],[],_=>rfl
 |_::_,_::_,h=>by simp[h.2.length]
 |[],_::_,h|_::_,[],h=>h.elim
theorem MK(hr:Rel P w0 O0 N G I M a w){fk:J Nat}{os':U (Option fD)}{β':Ω}:∀{r:U AV}{t:U Tree}{vs:U Value},ll M.obj fk os' r t->bp P G w I r vs->bp P β' w (O3 M w0 w G I O0 fk os') (t.map AV.t) vs
 |[],[],[],_,_=>by simp[bp]
 |x::xs,y::ys,v::vs,h,hv=>by exact⟨FP hr h.1 hv.1,MK hr h.2 hv.2⟩
 |[],_::_,_,h,_|_::_,[],_,h,_=>h.elim
 |[],[],_::_,_,hv|_::_,_::_,[],_,hv=>by simp[bp]at hv
theorem Jp(hr:Rel P w0 O0 N G I M a w){fk:J Nat}{os':U (Option fD)}{β':Ω}:∀{rs:U (List AV)}{ts:U (List Tree)}{es:U MapEntry},dp M.obj fk os' rs ts->cQ P G w I rs es->cQ P β' w (O3 M w0 w G I O0 fk os') (aK ts) es
 |[],[],[],_,_=>trivial
 |_::_,_::_,_::_,h,hm=>⟨MK hr h.1 hm.1,Jp hr h.2 hm.2⟩
 |[],_::_,_,h,_|_::_,[],_,h,_=>h.elim
 |[],[],_::_,_,hm|_::_,_::_,[],_,hm=>hm.elim
theorem dp.nil{get:E}{fk:J Nat}{os':U (Option fD)}{t:U (List Tree)}(h:dp get fk os' [] t):t=[]:=by
 cases t with
 |nil=>rfl
 |cons=>exact h.elim
theorem X4(hr:Rel P w0 O0 N G I M a w){F:Ψ}{βi:Ω}{fk:J Nat}{os':U (Option fD)}(hF:∀k o b,fk=some k->M.obj k=some o->¬kept os' k->il G k b->F b)(hi:∀j,kept os' j->G j=βi j){x:AV}{c:RC}{v:Value}
 (h:Hp M.obj fk os' x c) (hv:VR P G w I x v):B7 P F βi c w (O3 M w0 w G I O0 fk os') v:=by
 unfold Hp at h;split at h;rename_i cs ts;simp[VR]at hv;obtain⟨vs,rfl,hv⟩:=hv;refine⟨vs,rfl,?_⟩;have:∀(cs:U AV)(ts:U Tree)(vs:U Value),ll M.obj fk os' cs ts->bp P G w I cs vs->fm w (O3 M w0 w G I O0 fk os') ts vs:=by
  intro cs
  induction cs with
  |nil=>intro ts vs h hv;cases ts<;>cases vs<;>first|trivial|exact h.elim|(simp at hv)
  |cons x xs ih=>
   intro ts vs h hv;cases ts with
   |nil=>exact h.elim
   |cons t ts=>
    cases vs with
    |nil=>simp[bp]at hv
    |cons u us=>simp[bp]at hv;exact⟨FP hr h.1 hv.1,ih ts us h.2 hv.2⟩
 exact this cs ts vs.toList h hv;exact FP hr h hv;subst h;simp[VR]at hv;exact .inl ⟨rfl,hv⟩;rename_i k ab len sz rows;obtain⟨rfl,hnk,rfl,o,h1,rfl,h2,h3⟩:=h;simp only[VR]at hv;rcases hv with ⟨_,rfl,_,h4⟩|⟨b,sz,n,cap,ad,h4,rfl,h5,h6,h7⟩;exact .inl ⟨List.eq_nil_of_length_eq_zero (by omega),rfl⟩;have⟨B,hB,s9⟩:=hr.mem.c8 k o h1;rw[h4]at hB;cases hB;obtain⟨hs,c,e,hc',hn,s9⟩:=s9;refine .inr ⟨b,c,e,cap,ad,n.s,by rw[h3],hF k o b rfl h1 hnk (.at h4),λhI=>hI.2.2 ⟨k,.inl rfl,⟨o,h1⟩,.at h4⟩,hc',by omega,?_,?_,λhc=>by simpa using h7 hc⟩;rw[<- hs,hn];simpa using h6;rw[<- hs];exact CJ hr h2 (cj.take len _ _ _ _ s9);rename_i k ab len j len';obtain⟨rfl,rfl,rfl,hk⟩:=h;show VR P βi w (O3 M w0 w G I O0 fk os') (.own k 0 len') v;simp[VR]at hv |-;rw[<- hi k hk];exact hv;exact h.elim
theorem CK{α:Type}(l:U α)(t:Nat):lk ((List.range l.length).zip l) t=l[t]? :=by
 have qT:∀(l:U α)(s t:Nat),(lk ((List.range' s l.length).zip l) t)=if s<=t/\t<s+l.length then l[t-s]? else none:=by
  intro l
  induction l with
  |nil=>intro s t;simp[lk]
  |cons x xs ih=>
   simp[List.range'_succ,lk]
   all_goals grind
 rw[List.range_eq_range',qT];by_cases ht:t<l.length;simp;rw[aC (by omega)];simp[List.getElem?_eq_none (Nat.le_of_not_lt ht)]
theorem RS{x:AV}:∀{l:U AV},x∈l->∀k∈refs x,k∈cu l
 |[],h,_,_=>by simp at h
 |y::ys,h,k,hk=>by simp[cu];rcases aG.1 h with rfl|h;exact .inl hk;exact .inr (RS h k hk)
theorem acj(hT : fQ P T){f : FuncId}{fn : Func}{c : Code}{args : U AV}{os : U fD}{os' : U (Option fD)}{rv : RV}(hfn : P.funcs[f]? = some fn)(hb : fn.body = some c)(hname : (fn.name == "runtime.NumGoroutine") = false)(hN : args.length <= fn.ntmps)(hargs : ∀ k ∈ cu args, k < 1000)(hos : os.length <= 1000)(hlen : os'.length = os.length)
 (h:Ev P fn.ntmps c (aqP T fn.results.toList rv os') (sg.st ⟨(List.range args.length).zip args,(List.range (os.map iS).length).zip (os.map iS)⟩)):rN P f args os os' rv:=by
 refine⟨⟨fn,hfn,by rw[hb];rfl,hname⟩,λw G I vs hβ hM hv=>?_⟩;have hvl:=bp.length _ _ hv;simp at hvl;have j8:∀k,lk ((List.range (os.map iS).length).zip (os.map iS)) k=sA os k:=λk=>by rw[CK];simp[sA]
 refine calls_of_wp hfn hb ?_;have hrel:Rel P w (q9 G I) fn.ntmps G I (sg.st ⟨(List.range args.length).zip args,(List.range (os.map iS).length).zip (os.map iS)⟩) { tmps:=vs++Array.replicate (fn.ntmps-vs.size) undef,defers:=[] } w:=by
  refine⟨rfl,by simp;omega,λt=>?_,?_⟩;simp only[sg.st,CK,fL];by_cases ht:t<args.length;obtain⟨v,g1,g2⟩:=bp.get _ _ t _ hv (dY ht);rw[dY ht];simp only[Option.getD_some];have:(vs++Array.replicate (fn.ntmps-vs.size) undef).getD t undef=v:=by rw[Array.getElem?_toList]at g1;simp only[Array.getD_eq_getD_getElem?,Array.getElem?_append,show t<vs.size by omega,if_true,g1,Option.getD_some]
  rw[this];exact g2;rw[List.getElem?_eq_none (Nat.le_of_not_lt ht)];simp[VR];have:(sg.st ⟨(List.range args.length).zip args,(List.range (os.map iS).length).zip (os.map iS)⟩).obj=sA os:=funext j8;rw[this];exact hM
 have hold:nb (sg.st ⟨(List.range args.length).zip args,(List.range (os.map iS).length).zip (os.map iS)⟩):=by
  refine⟨λ t k hk=>?_,λk o hk=>?_⟩;simp[sg.st,CK]at hk;cases ht:args[t]? with
  |none=>rw[ht]at hk;simp[refs]at hk
  |some x=>rw[ht]at hk;have:=hargs k (RS (dM ht) k hk);omega
  have hk:sA os k=some o:=(j8 k).symm.trans hk;simp only[sA,sK]at hk;obtain⟨p,hp,rfl⟩:=hk;refine⟨by have:=(dO.1 hp).1;omega,λr hr x hx j hj=>?_⟩;simp[iS,aK,mem_map]at hr;obtain⟨q,_,rfl⟩:=hr;simp[mem_map]at hx;obtain⟨t,_,rfl⟩:=hx;simp[refs]at hj
 refine wp_mono (h w (q9 G I) G I _ w hrel hold) ?_
 have fin:∀(a':Act) (w':World) (β':Nat->J cW) (I':Nat->Prop) (σ':St),Rel P w (q9 G I) fn.ntmps β' I' σ' a' w'->(∃ xs fk,o8 T σ' fn.results.toList=some xs/\Hm σ'.obj fk os' xs rv/\PC σ'.obj fk os')->
  a'.defers=[]/\∃v,(results fn a'.tmps).run P w'=.ok v w'/\PF P w G I os' rv (.returned v) w':=by
  intro a' w' β' I' σ' hr ⟨xs,fk,hx,he,heo⟩;obtain⟨us,g1,g2⟩:=CG hT hr _ _ hx;have Hb:=bp.length _ _ g2;have hm:=hr.mem;have hrun:(fn.results.mapM (XZ a'.tmps)).run P w'=.ok us.toArray w':=by rw[Array.mapM_eq_mapM_toList,Sem.run_map,g1];rfl
  have hko:∀j p,os'[j]? =some (some p)->∃B o,G j=some B/\β' j=some B/\σ'.obj j=some o/\OR P β' w' I' o B/\o.sz=p.1/\dp σ'.obj fk os' (o.rows.take p.2.length) p.2:=by intro j p hj;have⟨_,o,e1,e2,e3⟩:=heo j p hj;have hjl:j<os.length:=(by rw[<- hlen];exact(dO.1 hj).1);obtain⟨B,hB,_⟩:=hM.c8 j (iS os[j]) (by simp[sA,hjl]);have hB':=hm.anch j B (by simp only[q9];rw[aM (by omega)];exact hB);have⟨B',hB2,hO⟩:=hm.c8 j o e1;rw[hB']at hB2;cases hB2;exact⟨B,o,hB,hB',e1,hO,e2,e3⟩
  have hkept:∀j,kept os' j->β' j=G j:=λj ⟨p,hp⟩=>by have⟨B,o,h1,h2,_⟩:=hko j p hp;rw[h1,h2]
  have sL:∀j o,Ei os' j=some o->∃p,os'[j]? =some (some p)/\o=iS p:=by intro j o hj;simp only[Ei,sK,Option.join_eq_some_iff]at hj;obtain⟨p,hp,rfl⟩:=hj;exact⟨p,hp,rfl⟩
  have qS:∀b,I b->¬XH G b/\b<w.heap.size:=by intro b hb;refine⟨?_,hM.lt b hb⟩;rintro⟨j,B,hj,hB⟩;rcases Nat.lt_or_ge j os.length with hjl|hjl;exact(hM.ownB j (iS os[j]) B b (by simp[sA,hjl]) hj hB).1 hb;rw[hβ j hjl]at hj;cases hj
  have hOI:∀b,I b->O3 σ' w w' β' I' (q9 G I) fk os' b:=by intro b hb;have⟨g1,g2⟩:=qS b hb;refine⟨.inr (.inl hb),Nat.lt_of_lt_of_le g2 hm.le,?_⟩;rintro⟨k,_,⟨o,ho⟩,hβk⟩;rcases (hm.kq k o b ho hβk).2.2 with g|g;exact g1 g;omega
  have hmem:Mem P w (q9 G I) G (O3 σ' w w' β' I' (q9 G I) fk os') (Ei os') w':=by
   constructor;intro j o hj;obtain⟨p,hp,rfl⟩:=sL j o hj;have⟨B,o1,b1,b2,b3,b4,b5,b6⟩:=hko j p hp;refine⟨B,b1,?_⟩;cases B with
   |none=>
    simp[OR]at b4 |-;rw[b4]at b6;have:=dp.nil (by simpa using b6);simp[iS,aK,this]
   | «at» b s n=>
    obtain⟨c1,c,e,c2,c3,c4⟩:=b4;refine⟨by rw[c1,b5];rfl,c,e,c2,c3,?_⟩;exact CJ hr b6 (cj.take _ _ _ _ _ c4)
   |mp b=>
    obtain⟨es,cl,c1,cl',c2,c3⟩:=b4;have hl:=b6.length;simp[List.length_take]at hl;refine⟨es,cl,c1,by simp[iS,aK,length_map];omega,λe=>?_,c3⟩;have e':p.1=p.2.length:=(by simpa[iS,aK]using e);rw[take_of_length_le (by omega)]at b6;exact Jp hr b6 (c2 (by omega))
   intro j j' o o' B B' b h1 h2 h3 h4 h5 h6;obtain⟨p,hp,rfl⟩:=sL j o h1;obtain⟨p',hp',rfl⟩:=sL j' o' h2;have⟨_,o1,_,_,b3,_⟩:=hko j p hp;have⟨_,o1',_,_,b3',_⟩:=hko j' p' hp';rw[<- hkept j ⟨p,hp⟩]at h3;rw[<- hkept j' ⟨p',hp'⟩]at h4;exact hm.ir j j' o1 o1' B B' b b3 b3' h3 h4 h5 h6;intro j o B b h1 h2 h5;obtain⟨p,hp,rfl⟩:=sL j o h1;have⟨_,o1,_,_,b3,_⟩:=hko j p hp;rw[<- hkept j ⟨p,hp⟩]at h2;have⟨_,c2,c3⟩:=hm.ownB j o1 B b b3 h2 h5;exact⟨λ hb=>hb.2.2 ⟨j,.inr ⟨p,hp⟩,⟨o1,b3⟩,B,h2,h5⟩,c2,c3⟩;exact λb hb=>hb.2.1;intro b hb;rcases hb.1 with g|g|g|g;exact hm.up b g;exact .inl g;exact .inr (.inr g);exact .inr (.inl g);exact hm.keep;exact hm.le;exact hm.os;exact hm.tape;exact hm.output;intro j B hj;simp only[q9]at hj;split at hj;exact hj;cases hj;exact hM.vars.mono (λ b hb=>hm.keep b (qS b hb).2 (qS b hb).1) hOI
  have hF:∀k o b,fk=some k->σ'.obj k=some o->¬kept os' k->il β' k b->BW w G os' b:=by intro k o b _ h2 h3 h4;refine⟨(hm.kq k o b h2 h4).2.2,λj o' h5 h6=>?_⟩;obtain⟨p,hp,rfl⟩:=sL j o' h5;have⟨_,o1,_,_,b3,_⟩:=hko j p hp;have h6':il β' j b:=(by obtain⟨B,e1,e2⟩:=h6;exact⟨B,by rw[hkept j ⟨p,hp⟩];exact e1,e2⟩);have:=hm.ox k j o o1 b h2 b3 h4 h6';subst this;exact h3 ⟨p,hp⟩
  have ret:∀v,sf P (BW w G os') G rv w' (O3 σ' w w' β' I' (q9 G I) fk os') v->PF P w G I os' rv (.returned v) w':=λv hv'=>⟨v,_,rfl,hmem,hOI,hv'⟩;refine⟨hr.defers,?_⟩;have hlist:∀(xs:U AV)(cs:U RC)(us:U Value),nw σ'.obj fk os' xs cs->bp P β' w' I' xs us->Xp P (BW w G os') G cs w' (O3 σ' w w' β' I' (q9 G I) fk os') us:=by
   intro xs
   induction xs with
   |nil=>intro cs us h1 h2;cases cs<;>cases us<;>first|trivial|exact h1.elim|(simp [bp]at h2)
   |cons x xs ih=>
    intro cs us h1 h2;cases cs with
    |nil=>exact h1.elim
    |cons c cs=>
     cases us with
     |nil=>simp[bp]at h2
     |cons u us=>simp[bp]at h2;exact⟨X4 hr hF hkept h1.1 h2.1,ih cs us h1.2 h2.2⟩
  simp only[X0,Sem.run_bind,hrun,Result.andThen_ok,Sem.run_pure];refine⟨_,rfl,ret _ ?_⟩
  match xs,us,rv,he,g2 with
  |[x],[u],.one c,he,g2=>
   simp only[bp]at g2;simpa[sf]using X4 hr hF hkept he g2.1
  |x::y::r,u::u'::us,.fR cs,he,g2=>
   have:=hlist _ _ _ he g2;rw[dif_neg (by simp)];exact⟨_,rfl,by simpa using this⟩
  |[],[],.fR cs,he,g2=>
   simp[Hm]at he;subst he;rw[dif_neg (by simp)];exact⟨_,rfl,trivial⟩
  |[x],[u],.fR cs,he,_=>exact he.elim
  |[],_,.one c,he,_=>exact he.elim
  |x::y::r,_,.one c,he,_=>exact he.elim
  |[],_::_,.fR _,_,g2=>simp[bp]at g2
  |[_],[],_,_,g2=>simp[bp]at g2
  |[_],_::_::_,_,_,g2=>simp[bp]at g2
  |_::_::_,[],_,_,g2=>simp[bp]at g2
  |_::_::_,[_],_,_,g2=>simp[bp]at g2
 rintro e a' w' ⟨β',I',σ',h1,h2,h3⟩;cases e with
 |normal=>exact fin a' w' β' I' σ' h1 h3
 |ret=>exact fin a' w' β' I' σ' h1 h3
 |_=>exact h3.elim
def PB(P:Ξ)(get:E)(xs:U AV)(os':U (Nat×aR))(rv:AV):Prop:=
 ∀(w0:World) (O0:k5) (G:Nat->J cW) (I:Nat->Prop) (w:World) (vs:Array Value),Mem P w0 O0 G I get w->bp P G w I xs vs.toList->∃ β' I',Mem P w0 O0 β' I' (pP os') w/\(∀ b,I b->I' b)/\VR P β' w I' rv (if h:vs.size=1 then vs[0]else .tuple vs)
def arI(P:Ξ)(T:eS)(rs:U ResultVar)(rv:AV)(os':U (Nat×aR)):Exit->St->Prop
 |.normal,M=>∃xs,o8 T M rs=some xs/\PB P M.obj xs os' rv
 |.ret,M=>∃xs,o8 T M rs=some xs/\PB P M.obj xs os' rv
 |_,_=>False
theorem alu(hT : fQ P T){f : FuncId}{fn : Func}{c : Code}{args : U AV}{os : U aR}{os' : U (Nat × aR)}{rv : AV}(hfn : P.funcs[f]? = some fn)(hb : fn.body = some c)(hname : (fn.name == "runtime.NumGoroutine") = false)(hN : args.length <= fn.ntmps)(hargs : ∀ k ∈ cu args, k < 1000)(hos : os.length <= 1000)
 (T2:∀o∈os,∀r∈o.rows,∀x∈r,∀j∈refs x,j<1000)
 (h:Ev P fn.ntmps c (arI P T fn.results.toList rv os') (sg.st ⟨(List.range args.length).zip args,(List.range os.length).zip os⟩)):GS P f args os os' rv:=by
 refine⟨⟨fn,hfn,by rw[hb];rfl,hname⟩,λw G I vs hβ hM hv=>?_⟩;have hvl:=bp.length _ _ hv;simp at hvl;have j8:∀k,lk ((List.range os.length).zip os) k=u9 os k:=λk=>by rw[CK];rfl
 refine calls_of_wp hfn hb ?_;have hrel:Rel P w (q9 G I) fn.ntmps G I (sg.st ⟨(List.range args.length).zip args,(List.range os.length).zip os⟩) { tmps:=vs++Array.replicate (fn.ntmps-vs.size) undef,defers:=[] } w:=by
  refine⟨rfl,by simp;omega,λt=>?_,?_⟩;simp only[sg.st,CK,fL];by_cases ht:t<args.length;obtain⟨v,g1,g2⟩:=bp.get _ _ t _ hv (dY ht);rw[dY ht];simp only[Option.getD_some];have:(vs++Array.replicate (fn.ntmps-vs.size) undef).getD t undef=v:=by rw[Array.getElem?_toList]at g1;simp only[Array.getD_eq_getD_getElem?,Array.getElem?_append,show t<vs.size by omega,if_true,g1,Option.getD_some]
  rw[this];exact g2;rw[List.getElem?_eq_none (Nat.le_of_not_lt ht)];simp[VR];have:(sg.st ⟨(List.range args.length).zip args,(List.range os.length).zip os⟩).obj=u9 os:=funext j8;rw[this];exact hM
 have hold:nb (sg.st ⟨(List.range args.length).zip args,(List.range os.length).zip os⟩):=by
  refine⟨λ t k hk=>?_,λk o hk=>?_⟩;simp[sg.st,CK]at hk;cases ht:args[t]? with
  |none=>rw[ht]at hk;simp[refs]at hk
  |some x=>rw[ht]at hk;have:=hargs k (RS (dM ht) k hk);omega
  have hk:u9 os k=some o:=(j8 k).symm.trans hk;simp[u9]at hk;refine⟨by have:=(dO.1 hk).1;omega,λr hr x hx j hj=>?_⟩;have:=T2 o (dM hk) r hr x hx j hj;omega
 refine wp_mono (h w (q9 G I) G I _ w hrel hold) ?_
 have fin:∀(a':Act) (w':World) (β':Nat->J cW) (I':Nat->Prop) (σ':St),Rel P w (q9 G I) fn.ntmps β' I' σ' a' w'->(∃ xs,o8 T σ' fn.results.toList=some xs/\PB P σ'.obj xs os' rv)->
  a'.defers=[]/\∃v,(results fn a'.tmps).run P w'=.ok v w'/\arH P w G I os' rv (.returned v) w':=by
  intro a' w' β' I' σ' hr ⟨xs,hx,he⟩;obtain⟨us,g1,g2⟩:=CG hT hr _ _ hx;have hrun:(fn.results.mapM (XZ a'.tmps)).run P w'=.ok us.toArray w':=by rw[Array.mapM_eq_mapM_toList,Sem.run_map,g1];rfl
  have qS:∀b,I b->¬XH G b/\b<w.heap.size:=by intro b hb;refine⟨?_,hM.lt b hb⟩;rintro⟨j,B,hj,hB⟩;rcases Nat.lt_or_ge j os.length with hjl|hjl;exact(hM.ownB j os[j] B b (by simp[u9]) hj hB).1 hb;rw[hβ j hjl]at hj;cases hj
  obtain⟨β2,I2,hm,hI2,hv2⟩:=he w (q9 G I) β' I' w' us.toArray hr.mem (by simpa using g2);have hmem:Mem P w (q9 G I) β2 (λ b=>I2 b\/I b) (pP os') w':=by constructor;intro k o hk;have⟨B,hB,hO⟩:=hm.c8 k o hk;exact⟨B,hB,OR.mono (λ _ _ h=>h) (λ _ _=>rfl) (λ b hb=>.inl hb) (λ _ _=>rfl) hO⟩;exact hm.ir;intro k o B b h1 h2 h3;have⟨a1,a2,a3⟩:=hm.ownB k o B b h1 h2 h3;refine⟨?_,a2,a3⟩;rintro (hb|hb);exact a1 hb;have⟨c1,c2⟩:=qS b hb;rcases a3 with a3|a3;exact c1 a3;omega;rintro b (hb|hb);exact hm.lt b hb;exact Nat.lt_of_lt_of_le (qS b hb).2 hm.le;rintro b (hb|hb);exact hm.up b hb;exact .inl hb;exact hm.keep;exact hm.le;exact hm.os;exact hm.tape;exact hm.output;exact hm.anch;exact hm.vars.mono (λ _ _=>rfl) (λ b hb=>.inl hb)
  refine⟨hr.defers,?_⟩;simp only[X0,Sem.run_bind,hrun,Result.andThen_ok,Sem.run_pure];exact⟨_,rfl,_,β2,_,rfl,hmem,λb hb=>.inr hb,VR.mono (λ _ _ h=>h) (λ _ _=>rfl) (λ b hb=>.inl hb) _ _ hv2⟩
 rintro e a' w' ⟨β',I',σ',h1,h2,h3⟩;cases e with
 |normal|ret=>exact fin a' w' β' I' σ' h1 h3
 |_=>exact h3.elim
theorem sf.Iv{F F':Ψ}{βi:Ω}{w':Y}{I':Ψ}(hF:∀b,F b->F' b){rv:RV}{v:Value}(h:sf P F βi rv w' I' v):sf P F' βi rv w' I' v:=by
 have hc:∀(c:RC)(v:Value),B7 P F βi c w' I' v->B7 P F' βi c w' I' v:=by
  intro c v h;cases c with
  |d x=>exact h
  |fresh sz rows=>
   rcases h with h|⟨b,c,e,cap,o,s,h1,h2,h3⟩;exact .inl h;exact .inr ⟨b,c,e,cap,o,s,h1,hF b h2,h3⟩
  |whole j len=>exact h
 cases rv with
 |one c=>exact hc c v h
 |fR cs=>
  obtain⟨vs,rfl,h⟩:=h;refine⟨vs,rfl,?_⟩;have:∀(cs:U RC)(vs:U Value),Xp P F βi cs w' I' vs->Xp P F' βi cs w' I' vs:=by
   intro cs
   induction cs with
   |nil=>intro vs h;cases vs with
    |nil=>trivial
    |cons=>exact h.elim
   |cons c cs ih=>intro vs h;cases vs with
    |nil=>exact h.elim
    |cons v vs=>exact⟨hc c v h.1,ih vs h.2⟩
  exact this cs vs.toList h
theorem X5{f:FuncId}{args:U AV}{rv:RV}(h:rN P f args [] [] rv):tE P f args rv:=by
 refine⟨h.1,λw I vs hlt hgv hv=>?_⟩;have hM:Mem P w (q9 nj I) nj I (sA []) w:=by refine⟨λ k o hk=>by simp[sA]at hk,λk k' o o' B B' b hk=>by simp[sA]at hk,λk o B b hk=>by simp[sA]at hk,hlt,λb hb=>.inl hb,λ_ _ _=>rfl,aB _,rfl,rfl,rfl,λj B hj=>?_,hgv⟩;simp only[q9,nj,ite_self]at hj;cases hj
 refine(h.2 w nj I vs (λ _ _=>rfl) hM hv).mono ?_;rintro e w' ⟨v,I',rfl,g1,g2,g3⟩;have hno:∀b,¬(q9 nj I).own b:=λb ⟨j,B,hj,_⟩=>by cases hj
 refine⟨v,I',rfl,⟨g1.os,g1.tape,g1.output,g1.le,λb hb=>g1.keep b hb (hno b)⟩,g2,g1.lt,λb hb=>?_,sf.Iv (λ b hb=>?_) g3⟩;rcases g1.up b hb with h|h|h;exact .inl h;exact(hno b h).elim;exact .inr h;rcases hb.1 with h|h;exact(hno b h).elim;exact h
end
open Go.RowKit Go.WideShapes Go.ChangeShapes
inductive CS where
 |int (k:IntKind)
 |bool
 |str
 |sl (row:List CS)
 |any
  |mu (row:List CS)
 |back
def asy:CS->Tree->Prop
 |.int k,x=>∃n,x=.sc (.int k n)/\(Lit.int k n).wf=true
 |.bool,x=>∃b,x=.sc (.bool b)
 |.str,x=>∃s,x=.sc (.string s)/\s.size<=maxLen
 |_,_=>False
def arJ:CS->Nat
 |.int .i64=>8
 |.int _=>1
 |.bool=>1
 |.str=>16
 |_=>24
def Rg:CS->Nat
 |.int .i64=>8
 |.int _=>1
 |.bool=>1
 |_=>8
def aqQ:Nat->U CS->Nat
 |o,[]=>o
 |o,c::cs=>aqQ ((o+(Rg c-1))/Rg c*Rg c+arJ c) cs
def PA(r:U CS):Nat:=bif r.any (λ c=>Rg c==8)then(aqQ 0 r+7)/8*8 else aqQ 0 r
mutual
inductive HS(row:List CS):Tree->Prop
 |mk (rows:List (List Tree)) (hl:rows.length<=maxLen) (h:pL row rows):HS row (.sl rows)
inductive pL(row:List CS):List (List Tree)->Prop
 |nil:pL row []
 |cons {r:List Tree} {rs:List (List Tree)} (h:kx row row r) (t:pL row rs):pL row (r::rs)
inductive kx(row:List CS):List CS->List Tree->Prop
 |nil:kx row [] []
 |back {cs:List CS} {x:Tree} {xs:List Tree} (h:HS row x) (t:kx row cs xs):kx row (.back::cs) (x::xs)
 |one {c:CS} {cs:List CS} {x:Tree} {xs:List Tree} (h:asy c x) (t:kx row cs xs):kx row (c::cs) (x::xs)
end
mutual
def Fit:CS->Tree->Prop
 |.int k,x=>∃n,x=.sc (.int k n)/\(Lit.int k n).wf=true
 |.bool,x=>∃b,x=.sc (.bool b)
 |.str,x=>∃s,x=.sc (.string s)/\s.size<=maxLen
 |.sl row,x=>∃rows,x=.sl rows/\(rows.length<=maxLen/\rows.length*PA row<=reachBytes)/\∀r∈rows,ef row r
 |.any,_=>True
 |.mu row,x=>HS row x
 |.back,_=>False
def ef:List CS->List Tree->Prop
 |[],[]=>True
 |c::cs,x::xs=>Fit c x/\ef cs xs
 |_,_=>False
end
mutual
def mS:Tree->Nat
 |.sc (.string s)=>s.size+1
 |.sc _=>1
 |.sl rows=>zY rows+1
def zY:List (List Tree)->Nat
 |[]=>0
 |r::rs=>jL r+zY rs
def jL:List Tree->Nat
 |[]=>0
 |x::xs=>mS x+jL xs
end
theorem BM:∀a b:U Tree,jL (a++b)=jL a+jL b
 |[],b=>by simp[jL]
 |x::a,b=>by simp[jL,BM a b];omega
structure Bk(H:Type) where
 b:DataW H->Nat
 a:List (DataW H)->Nat
 str:∀l,b (.lit (.string l))=l.length+1
 int:∀k n,b (.lit (.int k n))=1
 bool:∀v,b (.lit (.bool v))=1
 nil:b .nil=1
 sl:∀e s,b (.slice e s)=a e+a s+1
 agg:∀p,b (.agg p)=a p+1
 a0:a []=0
 a1:∀d r,a (d::r)=b d+a r
theorem Bk.app{H:Type}(K:Bk H)(l r:U (DataW H)):K.a (l++r)=K.a l+K.a r:=by
 induction l with
 |nil=>simp[K.a0]
 |cons x l ih=>simp[K.a1];omega
theorem Bk.drop{H:Type}(K:Bk H){l:U (DataW H×List MemPlace)}{j:Nat}{y:DataW H×List MemPlace}(h:l[j]? =some y):K.a ((l.map (·.1)).drop j)=K.b y.1+K.a ((l.map (·.1)).drop (j+1)):=by obtain⟨hj,rfl⟩:=dO.1 h;rw[List.drop_eq_getElem_cons (by simpa using hj),K.a1];simp
def zE(P:Ξ)(go:TypeId->J (List CS)):Nat->U Field->J (List CS)
 |_,[]=>some []
 |o,f::fs=>(go f.type).bind λa=>if f.offset=o/\a.length=P.cellsOf f.type then(zE P go (o+a.length) fs).map (a++ ·)else none
def aiy(P:Ξ)(t u:V):J (List CS):=if u=t then some [.back]else match P.underlying u with
 |some (.int k)=>some [.int k]
 |some .bool=>some [.bool]
 |some .string=>some [.str]
 |_=>none
def Re(P:Ξ)(t e:V):J (List CS):=match P.underlying e with
 |some (.struct fs)=>(zE P (aiy P t) 0 fs.toList).bind λr=>if r.length=P.cellsOf e/\0<r.length then some r else none
 |_=>none
def Ax(P:Ξ)(cut:U TypeId):Nat->TypeId->J (List CS)
 | 0,_=>none
 |n+1,t=>match P.underlying t with
  |some (.int k)=>some [.int k]
  |some .bool=>some [.bool]
  |some .string=>some [.str]
  |some (.slice e)=>if cut.contains t then(match Re P t e with|some row=>some [.mu row]|none=>some [.any])else(Ax P cut n e).bind λr=>if r.length=P.cellsOf e/\0<r.length/\PA r<=P.bytesOf e then some [.sl r]else none
  |some (.struct fs)=>(zE P (Ax P cut n) 0 fs.toList).bind λr=>if r.length=P.cellsOf t then some r else none
  |some (.array m e)=>(Ax P cut n e).bind λr=>if r.length=P.cellsOf e/\m*r.length=P.cellsOf t then some (List.replicate m r).flatten else none
  |_=>none
theorem ef.length:∀(cs:U CS)(ts:U Tree),ef cs ts->ts.length=cs.length
 |[],[],_=>rfl
 |c::cs,x::xs,h=>by simp[ef]at h;simp[ef.length cs xs h.2]
 |[],_::_,h|_::_,[],h=>by simp[ef]at h
theorem ef.append:∀(cs:U CS)(ts:U Tree){cs':U CS}{ts':U Tree},ef cs ts->ef cs' ts'->ef (cs++cs') (ts++ts')
 |[],[],_,_,_,h=>h
 |c::cs,x::xs,_,_,h,h'=>by simp at h |-;exact⟨h.1,ef.append cs xs h.2 h'⟩
 |[],_::_,_,_,h,_|_::_,[],_,_,h,_=>by simp[ef]at h
def Here(w:Y)(b:Nat):Prop:=b<w.heap.size
section
variable {w:World} {I:Nat->Prop}
theorem fm.append:∀(ts:U Tree)(cs:U Value){ts':U Tree}{cs':U Value},fm w I ts cs->fm w I ts' cs'->fm w I (ts++ts') (cs++cs')
 |[],[],_,_,_,h=>h
 |_::xs,_::vs,_,_,h,h'=>⟨h.1,fm.append xs vs h.2 h'⟩
 |[],_::_,_,_,h,_|_::_,[],_,_,h,_=>h.elim
theorem fm.length:∀(ts:U Tree)(cs:U Value),fm w I ts cs->ts.length=cs.length
 |[],[],_=>rfl
 |_::xs,_::vs,h=>by simp[fm.length xs vs h.2]
 |[],_::_,h|_::_,[],h=>h.elim
theorem WX:∀(ts:U Tree)(cs:U Value)(b ab:Nat),fm w I ts cs->(∀ i,i<cs.length->w.cell? ⟨b,ab+i,none⟩=cs[i]?)->eC w I ts b ab
 |[],[],_,_,_,_=>by simp[eC]
 |x::xs,v::vs,b,ab,h,hc=>by refine⟨⟨v,by simpa using hc 0 (by simp),h.1⟩,WX xs vs b (ab+1) h.2 λi hi=>?_⟩;have:=hc (i+1) (by simpa using hi);rw[show ab+(i+1)=ab+1+i by omega]at this;simpa using this
 |[],_::_,_,_,h,_|_::_,[],_,_,h,_=>h.elim
end
section
variable {H:Type} {enc:TypeId×Value->H} {P:Program} {w:World} {sp:Nat->Bool} {held:Bool}
theorem La{a:Addr}{v:Value}(h:w.cell? a=some v):a.spot=none/\a.block<w.heap.size:=by simp[World.cell?]at h;split at h;rename_i c e st hc;split at h;cases h;rename_i hs;exact⟨by simpa using hs,(Array.getElem?_eq_some_iff.1 hc).1⟩;cases h
def SD(P:Ξ)(t:V)(x:DataW H×List MemPlace):Prop:=∀k∈x.1.weights P t,k<=reachBytes
theorem zZ{e:V}:∀{l:U (DataW H)}{d:DataW H},d∈l->∀k∈d.weights P e,k∈DataW.weightsAll P e l
 |a::l,d,h,k,hk=>by simp[DataW.weightsAll];rcases aG.1 h with rfl|h;exact .inl hk;exact .inr (zZ h k hk)
theorem UI(m:Nat)(cs:U Value)(go:TypeId->J (List CS))(hgo:∀t sh,go t=some sh->∀cs x,DataW.trod enc P w 0 sp held m t cs=some x->SD P t x->∃ts,fm w (Here w) ts cs/\ef sh ts/\∀K:Bk H,jL ts<=K.b x.1):
 ∀(fs:U Field)(l:U (DataW H×List MemPlace))(o:Nat)(sh:U CS),zE P go o fs=some sh->l.length=fs.length->(∀ (i:Nat) (f:Field) (x:DataW H×List MemPlace),fs[i]? =some f->l[i]? =some x->DataW.trod enc P w 0 sp held m f.type ((cs.drop f.offset).take (P.cellsOf f.type))=some x/\SD P f.type x)->
  ∃ts,fm w (Here w) ts ((cs.drop o).take sh.length)/\ef sh ts/\∀K:Bk H,jL ts<=K.a (l.map (·.1))
 |[],l,o,sh,h,_,_=>by simp[zE]at h;subst h;exact⟨[],by simp[fm],by simp[ef],λK=>by simp[jL]⟩
 |f::fs,[],o,sh,h,hl,hf=>by simp at hl
 |f::fs,x::l,o,sh,h,hl,hf=>by simp only[zE,ah]at h;obtain⟨a,h1,h2⟩:=h;split at h2;rename_i hc;obtain⟨hc1,hc2⟩:=hc;simp at h2;obtain⟨r,h3,rfl⟩:=h2;have⟨hx,hz⟩:=hf 0 f x rfl rfl;obtain⟨ts,g1,g2,k1⟩:=hgo _ _ h1 _ _ hx hz;obtain⟨ts',g3,g4,k2⟩:=UI m cs go hgo fs l _ _ h3 (by simpa using hl) λi f' x' hf' hx'=>hf (i+1) f' x' hf' hx';refine⟨ts++ts',?_,ef.append _ _ g2 g4,λK=>by have:=k1 K;have:=k2 K;rw[BM,bK,K.a1];omega⟩;rw[bW,List.take_add,List.drop_drop];rw[hc1,<- hc2]at g1;exact fm.append _ _ g1 g3;cases h2
theorem kx.append{row:U CS}:∀{a b:U CS}{x y:U Tree},kx row a x->kx row b y->kx row (a++b) (x++y)
 |_,_,_,_,.nil,h=>h
 |_,_,_,_,.back h t,h'=>.back h (t.append h')
 |_,_,_,_,.one h t,h'=>.one h (t.append h')
theorem O6{row:U CS}(m:Nat)(cs:U Value)(go:TypeId->J (List CS))(hgo:∀t sh,go t=some sh->∀cs x,DataW.trod enc P w 0 sp held m t cs=some x->∃ts,fm w (Here w) ts cs/\kx row sh ts/\∀K:Bk H,jL ts<=K.b x.1):
 ∀(fs:U Field)(l:U (DataW H×List MemPlace))(o:Nat)(sh:U CS),zE P go o fs=some sh->l.length=fs.length->(∀ (i:Nat) (f:Field) (x:DataW H×List MemPlace),fs[i]? =some f->l[i]? =some x->DataW.trod enc P w 0 sp held m f.type ((cs.drop f.offset).take (P.cellsOf f.type))=some x)->
  ∃ts,fm w (Here w) ts ((cs.drop o).take sh.length)/\kx row sh ts/\∀K:Bk H,jL ts<=K.a (l.map (·.1))
 |[],l,o,sh,h,_,_=>by simp[zE]at h;subst h;exact⟨[],by simp[fm],.nil,λK=>by simp[jL]⟩
 |f::fs,[],o,sh,h,hl,hf=>by simp at hl
 |f::fs,x::l,o,sh,h,hl,hf=>by simp only[zE,ah]at h;obtain⟨a,h1,h2⟩:=h;split at h2;rename_i hc;obtain⟨hc1,hc2⟩:=hc;simp at h2;obtain⟨r,h3,rfl⟩:=h2;have hx:=hf 0 f x rfl rfl;obtain⟨ts,g1,g2,k1⟩:=hgo _ _ h1 _ _ hx;obtain⟨ts',g3,g4,k2⟩:=O6 m cs go hgo fs l _ _ h3 (by simpa using hl) λi f' x' hf' hx'=>hf (i+1) f' x' hf' hx';refine⟨ts++ts',?_,g2.append g4,λK=>by have:=k1 K;have:=k2 K;rw[BM,bK,K.a1];omega⟩;rw[bW,List.take_add,List.drop_drop];rw[hc1,<- hc2]at g1;exact fm.append _ _ g1 g3;cases h2
theorem apq{t e:V}{row:U CS}(hk:P.underlying t=some (.slice e))(hm:Re P t e=some row):∀(fuel:Nat)(cs:U Value)(x:DataW H×List MemPlace),DataW.trod enc P w 0 sp held fuel t cs=some x->∃tr,fm w (Here w) [tr] cs/\HS row tr/\∀K:Bk H,mS tr<=K.b x.1:=by
 intro fuel
 induction fuel using Nat.strongRecOn with
 |_ fuel ih=>
 intro cs x hx;have one:∀m,m<fuel->∀uk y,DataW.trod enc P w 0 sp held m e uk=some y->∃ts,fm w (Here w) ts uk/\kx row row ts/\ts.length=row.length/\∀K:Bk H,jL ts<=K.b y.1:=by
  intro m hmf uk y hy;unfold Re at hm;split at hm;rename_i fs hke;simp only[ah]at hm;obtain⟨r,h1,h2⟩:=hm;split at h2;rename_i hr;injection h2 with h2;subst h2;obtain⟨xs,m',hm',rfl,hl,hxs,hf⟩:=DataW.trod_struct hke hy;obtain⟨ts,g1,g2,k1⟩:=O6 (row:=r) m' uk (aiy P t) (λ u sh hsh cs x hx=>by unfold aiy at hsh;split at hsh;rename_i hu;cases hsh;rw[hu]at hx;obtain⟨tr,a1,a2,a3⟩:=ih m' (by omega) cs x hx;exact⟨[tr],a1,.back a2 .nil,λK=>by have:=a3 K;simp[jL];omega⟩;split at hsh;rename_i k C7;cases hsh;obtain⟨v,rfl,rfl,hw⟩:=DataW.trod_int C7 hx;exact⟨[.sc (.int k v)],by simp[fm,TR,oneCell],.one ⟨v,rfl,hw⟩ .nil,λK=>by simp[jL,mS,K.int]⟩;rename_i C7;cases hsh;obtain⟨v,rfl,rfl⟩:=DataW.trod_bool C7 hx;exact⟨[.sc (.bool v)],by simp[fm,TR,oneCell],.one ⟨v,rfl⟩ .nil,λK=>by simp[jL,mS,K.bool]⟩;rename_i C7;cases hsh;obtain⟨v,rfl,rfl,hw⟩:=DataW.trod_string C7 hx;exact⟨[.sc (.string v)],by simp[fm,TR,oneCell],.one ⟨v,rfl,hw⟩ .nil,λK=>by simp[jL,mS,K.str]⟩;cases hsh) fs.toList xs 0 r h1 (by simpa using hxs) (λ i f x hi hxi=>by have hi':fs[i]? =some f:=(by simpa using hi);rw[hf i f hi',hxi]);rw[List.drop_zero,take_of_length_le (by omega)]at g1;refine⟨ts,g1,g2,?_,λK=>by have:=k1 K;rw[K.agg];omega⟩;rw[fm.length _ _ g1];omega;cases h2;cases hm
 have rl:row.length=P.cellsOf e/\0<row.length:=by unfold Re at hm;split at hm;simp only[ah]at hm;obtain⟨r,h1,h2⟩:=hm;split at h2;rename_i hr;cases h2;exact hr;cases h2;cases hm
 rcases DataW.trod_slice hk hx with ⟨rfl,rfl⟩|⟨a,len,cap,elems,ag,m,hfm,rfl,rfl,_,hl,hmx,hlen,hel,_,_⟩;refine⟨.sl [],?_,.mk [] (by simp[maxLen]) .nil,λK=>by simp[mS,zY,K.nil]⟩;simp only[fm,TR];exact⟨.inl ⟨trivial,none,0,rfl,λ_=>rfl⟩,trivial⟩;have each:∀i,i<len->∃uk y,w.cells? 0 (a.add (i*P.cellsOf e)) (P.cellsOf e)=some uk/\DataW.trod enc P w 0 sp held m e uk=some y/\elems[i]? =some y:=by intro i hi;have h3:=hel i hi;have h6:elems[i]? =some (elems[i]'(by omega)):=dY (by omega);rw[h6,ah]at h3;obtain⟨uk,h4,h5⟩:=h3;exact⟨uk,_,h4,h5,h6⟩
 by_cases h0:len=0;subst h0;refine⟨.sl [],?_,.mk [] (by simp[maxLen]) .nil,λK=>by simp[mS,zY,K.sl]⟩;simp only[fm,TR];exact⟨.inl ⟨trivial,some a,cap,rfl,λh=>by cases h⟩,trivial⟩;obtain⟨cs0,y0,c0,_,_⟩:=each 0 (by omega);obtain⟨_,c1,c2⟩:=World.cells?_some c0;have c3:=c2 0 (by omega);rw[dY (by omega)]at c3;have c4:=La c3;simp[Nat.zero_mul,Addr.add]at c4;obtain⟨b,ab,s⟩:=a;simp at c4;obtain⟨rfl,hb⟩:=c4;have rows:∀q j,j+q=len->∃rows:U (List Tree),rows.length=q/\cN w (Here w) rows b (ab+j*P.cellsOf e) (P.cellsOf e)/\pL row rows/\∀K:Bk H,zY rows<=K.a ((elems.map (·.1)).drop j):=by
  intro q
  induction q with
  |zero=>intro j _;exact⟨[],rfl,by simp[cN],.nil,λK=>by simp[zY]⟩
  |succ q ihq=>
   intro j hj;obtain⟨rows,g1,g2,g3,k3⟩:=ihq (j+1) (by omega);obtain⟨csj,y,g4,g5,gy⟩:=each j (by omega);obtain⟨ts,g6,g7,_,k6⟩:=one m (by omega) _ _ g5;obtain⟨_,g8,g9⟩:=World.cells?_some g4;refine⟨ts::rows,by simp[g1],?_,.cons g7 g3,λK=>by have:=k3 K;have:=k6 K;rw[K.drop gy,zY];omega⟩;simp[cN];refine⟨(fm.length _ _ g6).trans g8,WX _ _ _ _ g6 λi hi=>?_,?_⟩;rw[<- g9 i (by omega),addr_add,addr_add];rw[show ab+j*P.cellsOf e+P.cellsOf e=ab+(j+1)*P.cellsOf e by rw[Nat.add_mul];omega];exact g2
 obtain⟨rows,g1,g2,g3,k3⟩:=rows len 0 (by omega);refine⟨.sl rows,?_,.mk rows (by omega) g3,λK=>by have:=k3 K;rw[List.drop_zero]at this;rw[K.sl,mS];omega⟩;simp only[fm,TR];exact⟨.inr ⟨b,ab,cap,P.cellsOf e,by rw[g1],by omega,hb,by simpa using g2⟩,trivial⟩
theorem FQ{cut:U TypeId}:∀(n:Nat)(t:TypeId)(sh:U CS),Ax P cut n t=some sh->∀(fuel:Nat)(cs:U Value)(x:DataW H×List MemPlace),DataW.trod enc P w 0 sp held fuel t cs=some x->SD P t x->
 ∃ts,fm w (Here w) ts cs/\ef sh ts/\∀K:Bk H,jL ts<=K.b x.1
 | 0,_,_,h,_,_,_,_,_=>by simp[Ax]at h
 |n+1,t,sh,h,fuel,cs,x,hx,hz=>by
  unfold Ax at h;split at h;rename_i k hk;cases h;obtain⟨v,rfl,rfl,hw⟩:=DataW.trod_int hk hx;exact⟨[.sc (.int k v)],by simp[fm,TR,oneCell],by simp only[ef,Fit];exact⟨⟨v,rfl,hw⟩,trivial⟩,λK=>by simp[jL,mS,K.int]⟩;rename_i hk;cases h;obtain⟨v,rfl,rfl⟩:=DataW.trod_bool hk hx;exact⟨[.sc (.bool v)],by simp[fm,TR,oneCell],by simp only[ef,Fit];exact⟨⟨v,rfl⟩,trivial⟩,λK=>by simp[jL,mS,K.bool]⟩;rename_i hk;cases h;obtain⟨v,rfl,rfl,hw⟩:=DataW.trod_string hk hx;exact⟨[.sc (.string v)],by simp[fm,TR,oneCell],by simp only[ef,Fit];exact⟨⟨v,rfl,hw⟩,trivial⟩,λK=>by simp[jL,mS,K.str]⟩;rename_i e hk;split at h;split at h;rename_i row hmr;cases h;have⟨tr,g1,g2,k1⟩:=apq hk hmr fuel cs x hx;exact⟨[tr],g1,by simp only[ef,Fit];exact⟨g2,trivial⟩,λK=>by have:=k1 K;simp only[jL];omega⟩;cases h;rcases DataW.trod_slice hk hx with ⟨rfl,rfl⟩|⟨a,len,cap,elems,ag,m,_,rfl,rfl,_,hl,hm,hlen,hel,_,_⟩;exact⟨[.sc (.slice none 0 0)],by simp[fm,TR,oneCell],by simp[ef,Fit],λK=>by simp[jL,mS,K.nil]⟩;exact⟨[.sc (.slice (some a) len cap)],by simp[fm,TR,oneCell],by simp[ef,Fit],λK=>by simp[jL,mS,K.sl]⟩;simp only[ah]at h;obtain⟨r,h1,h2⟩:=h;split at h2;rename_i hr;cases h2;rcases DataW.trod_slice hk hx with ⟨rfl,rfl⟩|⟨a,len,cap,elems,ag,m,_,rfl,rfl,_,hl,hm,hlen,hel,_,_⟩;refine⟨[.sl []],?_,by simp only[ef,Fit];exact⟨⟨[],rfl,by simp[maxLen],by simp⟩,trivial⟩,λK=>by simp[jL,mS,zY,K.nil]⟩;simp only[fm,TR];exact⟨.inl ⟨trivial,none,0,rfl,λ_=>rfl⟩,trivial⟩;have hzw:∀k,k=(elems.length+ag.length)*P.bytesOf e\/k∈DataW.weightsAll P e (elems.map (·.1))->k<=reachBytes:=by intro k hkk;refine hz k ?_;simp only[DataW.weights,hk,aG,bD,length_map];rcases hkk with h|h;exact .inl h;exact .inr (.inl h)
  have each:∀i,i<len->∃uk y,w.cells? 0 (a.add (i*P.cellsOf e)) (P.cellsOf e)=some uk/\DataW.trod enc P w 0 sp held m e uk=some y/\SD P e y/\elems[i]? =some y:=by intro i hi;have h3:=hel i hi;have h6:elems[i]? =some (elems[i]'(by omega)):=dY (by omega);rw[h6,ah]at h3;obtain⟨uk,h4,h5⟩:=h3;exact⟨uk,_,h4,h5,λk hk=>hzw k (.inr (zZ (mem_map.2 ⟨_,List.getElem_mem (by omega),rfl⟩) k hk)),h6⟩
  have hbytes:len*PA r<=reachBytes:=by have h1:=hzw _ (.inl rfl);have h2:len*PA r<=(elems.length+ag.length)*P.bytesOf e:=Nat.mul_le_mul (by omega) hr.2.2;omega
  by_cases h0:len=0;subst h0;refine⟨[.sl []],?_,by simp only[ef,Fit];exact⟨⟨[],rfl,by simp[maxLen],by simp⟩,trivial⟩,λK=>by simp[jL,mS,zY,K.sl]⟩;simp only[fm,TR];exact⟨.inl ⟨trivial,some a,cap,rfl,λh=>by cases h⟩,trivial⟩;obtain⟨cs0,y0,c0,_,_,_⟩:=each 0 (by omega);obtain⟨_,c1,c2⟩:=World.cells?_some c0;have c3:=c2 0 (by omega);rw[dY (by omega)]at c3;have c4:=La c3;simp[Nat.zero_mul,Addr.add]at c4;obtain⟨b,ab,s⟩:=a;simp at c4;obtain⟨rfl,hb⟩:=c4;have rows:∀m j,j+m=len->∃rows:U (List Tree),rows.length=m/\cN w (Here w) rows b (ab+j*P.cellsOf e) (P.cellsOf e)/\(∀ x∈rows,ef r x)/\∀K:Bk H,zY rows<=K.a ((elems.map (·.1)).drop j):=by
   intro m
   induction m with
   |zero=>intro j _;exact⟨[],rfl,by simp[cN],by simp,λK=>by simp[zY]⟩
   |succ m ih=>
    intro j hj;obtain⟨rows,g1,g2,g3,k3⟩:=ih (j+1) (by omega);obtain⟨csj,y,g4,g5,g5z,gy⟩:=each j (by omega);obtain⟨ts,g6,g7,k6⟩:=FQ n e r h1 _ _ _ g5 g5z;obtain⟨_,g8,g9⟩:=World.cells?_some g4;refine⟨ts::rows,by simp[g1],?_,λx hx=>?_,λK=>by have:=k3 K;have:=k6 K;rw[K.drop gy,zY];omega⟩;simp[cN];refine⟨(fm.length _ _ g6).trans g8,WX _ _ _ _ g6 λi hi=>?_,?_⟩;rw[<- g9 i (by omega),addr_add,addr_add];rw[show ab+j*P.cellsOf e+P.cellsOf e=ab+(j+1)*P.cellsOf e by rw[Nat.add_mul];omega];exact g2;rcases aG.1 hx with rfl|hx;exact g7;exact g3 x hx
  obtain⟨rows,g1,g2,g3,k3⟩:=rows len 0 (by omega);refine⟨[.sl rows],?_,by simp only[ef,Fit];exact⟨⟨rows,rfl,⟨by omega,by rw[g1];exact hbytes⟩,g3⟩,trivial⟩,λK=>by have:=k3 K;rw[List.drop_zero]at this;rw[K.sl];simp[jL,mS];omega⟩;simp only[fm,TR];exact⟨.inr ⟨b,ab,cap,P.cellsOf e,by rw[g1],by omega,hb,by simpa using g2⟩,trivial⟩;cases h2;rename_i fs hk;simp only[ah]at h;obtain⟨r,h1,h2⟩:=h;split at h2;rename_i hr;injection h2 with h2;subst h2;obtain⟨xs,m,_,rfl,hl,hxs,hf⟩:=DataW.trod_struct hk hx;obtain⟨ts,g1,g2,k1⟩:=UI m cs (Ax P cut n) (λ t sh hsh cs x hx hz=>FQ n t sh hsh m cs x hx hz) fs.toList xs 0 r h1 (by simpa using hxs) (λ i f x hi hxi=>by have hi':fs[i]? =some f:=(by simpa using hi);have:=hf i f hi';rw[hxi]at this;refine⟨this,λk hk'=>hz k ?_⟩;simp[DataW.weights,hk];exact DataW.weights_mem_each (j:=i) (t:=f.type) (d:=x.1) (by simp[hi']) (by simp[hxi]) k hk');refine⟨ts,?_,g2,λK=>by have:=k1 K;rw[K.agg];omega⟩;rw[List.drop_zero,take_of_length_le (by omega)]at g1;exact g1;cases h2;rename_i m e hk;simp only[ah]at h;obtain⟨r,h1,h2⟩:=h;split at h2;rename_i hr;cases h2;obtain⟨xs,q,_,rfl,hl,hxs,hf⟩:=DataW.trod_array hk hx;have part:∀i j,j+i=m->∃ts,fm w (Here w) ts (cs.drop (j*P.cellsOf e))/\ef (List.replicate i r).flatten ts/\∀K:Bk H,jL ts<=K.a ((xs.map (·.1)).drop j):=by
   intro i
   induction i with
   |zero=>
    intro j hj;refine⟨[],?_,by simp[ef],λK=>by simp[jL]⟩;have:j=m:=(by omega);subst this;rw[List.drop_of_length_le (by rw[hl,<- hr.2,<- hr.1];omega)];simp[fm]
   |succ i ih=>
    intro j hj;obtain⟨ts,g1,g2,k1⟩:=ih (j+1) (by omega);have:=hf j (by omega);have hxj:xs[j]? =some (xs[j]'(by omega)):=dY (by omega);rw[hxj]at this;obtain⟨ts0,g3,g4,k3⟩:=FQ n e r h1 _ _ _ this (λ k hk'=>hz k (by simp[DataW.weights,hk];exact zZ (mem_map.2 ⟨_,List.getElem_mem (by omega),rfl⟩) k hk'));refine⟨ts0++ts,?_,?_,λK=>by have:=k1 K;have:=k3 K;rw[K.drop hxj,BM];omega⟩;have:=fm.append _ _ g3 g1;rw[show (j+1)*P.cellsOf e=j*P.cellsOf e+P.cellsOf e by rw[Nat.add_mul];omega,<- List.drop_drop,List.take_append_drop]at this;exact this;exact ef.append _ _ g4 g2
  obtain⟨ts,g1,g2,k1⟩:=part m 0 (by omega);exact⟨ts,by simpa using g1,g2,λK=>by have:=k1 K;rw[List.drop_zero]at this;rw[K.agg];omega⟩;cases h2;cases h
inductive VS where
 |one (c:CS)
 |agg (cs:List CS)
def MD(P:Ξ)(cut:U TypeId)(t:V):J VS:=
 (Ax P cut 12 t).bind λsh=>match P.underlying t with
  |some (.struct _)|some (.array _ _)=>some (.agg sh)
  |_=>match sh with
   |[c]=>some (.one c)
   |_=>none
def Hk:VS->TV->Prop
 |.one c,x=>∃y,x=.s y/\Fit c y
 |.agg cs,x=>∃ys,x=.a ys/\ef cs ys
def X6:U VS->U TV->Prop
 |[],[]=>True
 |s::ss,x::xs=>Hk s x/\X6 ss xs
 |_,_=>False
def N3:TV->Nat
 |.s y=>mS y
 |.a ys=>jL ys
def yf:U TV->Nat
 |[]=>0
 |x::xs=>N3 x+yf xs
theorem ang{cut:U TypeId}{t:V}{s:VS}{v:Value}{d:DataW H}{ps:U MemPlace}{b0:Nat}(hs:MD P cut t=some s)(hval:Value.okWide P w .any b0 t v)(hd:DataW.Trod enc P w 0 sp held t v d ps)(hz:∀k∈d.weights P t,k<=reachBytes):
 ∃x,uu w (Here w) x v/\Hk s x/\∀K:Bk H,N3 x<=K.b d:=by
 obtain⟨fuel,hf⟩:=hd;simp[MD,ah]at hs;obtain⟨sh,h1,h2⟩:=hs;obtain⟨ts,g1,g2,k1⟩:=FQ 12 t sh h1 _ _ _ hf hz;have hag:∀cs:Array Value,v=.agg cs->s=.agg sh->∃x,uu w (Here w) x v/\Hk s x/\∀K:Bk H,N3 x<=K.b d:=by rintro cs rfl rfl;exact⟨.a ts,⟨cs,rfl,by simpa[Value.cells]using g1⟩,⟨ts,rfl,g2⟩,k1⟩
 unfold Value.okWide at hval;split at h2;rename_i hu;injection h2 with h2;rw[hu]at hval;obtain⟨cs,rfl,_⟩:=hval;exact hag cs rfl h2.symm;rename_i hu;injection h2 with h2;rw[hu]at hval;obtain⟨cs,rfl,_⟩:=hval;exact hag cs rfl h2.symm;split at h2;cases h2;have hone:v.cells.toList=[v]:=by
  cases hu:P.underlying t with
  |none=>rw[hu]at hval;simp[Cell.okWide,Cell.ok,hu]at hval
  |some d=>
   rw[hu]at hval;cases v<;>first|rfl|(exfalso;revert hval;cases d<;>simp_all [Cell.okWide,Cell.ok])
 rw[hone]at g1
 match ts,g1,g2,k1 with
 |[y],g1,g2,k1=>
  simp only[ef]at g2;exact⟨.s y,g1.1,⟨y,rfl,g2.1⟩,λK=>by have:=k1 K;simpa[jL,N3]using this⟩
 |[],g1,_,_=>exact g1.elim
 |_::_::_,g1,_,_=>exact g1.2.elim
 cases h2
theorem ack{cut:U TypeId}:∀{ts:U TypeId}{ss:U VS}{vs:U Value}{ds:U (DataW H)}{ps:U MemPlace}{b0:Nat},ts.mapM (MD P cut)=some ss->
 (∀ (j:Nat) t v,ts[j]? =some t->vs[j]? =some v->Value.okWide P w .any b0 t v)->DataW.TrodAll enc P w 0 sp held ts vs ds ps->(∀ k∈DataW.weightsEach P ts ds,k<=reachBytes)->∃xs,m9 w (Here w) xs vs/\X6 ss xs/\∀K:Bk H,yf xs<=K.a ds
 |[],ss,vs,ds,ps,b0,hs,_,hd,_=>by obtain⟨rfl,rfl,rfl⟩:=trodAll_nil hd;simp at hs;subst hs;exact⟨[],trivial,trivial,λK=>by simp[yf]⟩
 |t::ts,ss,vs,ds,ps,b0,hs,hval,hd,hz=>by obtain⟨v,vs',d,ds',p,q,rfl,rfl,rfl,h0,r0⟩:=trodAll_cons hd;simp[ah]at hs;obtain⟨s,h1,ss',h2,rfl⟩:=hs;obtain⟨x,g1,g2,k1⟩:=ang h1 (hval 0 t v rfl rfl) h0 (λ k hk=>hz k (by simp[DataW.weightsEach];exact .inl hk));obtain⟨xs,g3,g4,k2⟩:=ack h2 (λ j t v h h'=>hval (j+1) t v h h') r0 (λ k hk=>hz k (by simp[DataW.weightsEach];exact .inr hk));exact⟨x::xs,⟨g1,g3⟩,⟨g2,g4⟩,λK=>by have:=k1 K;have:=k2 K;rw[yf,K.a1];omega⟩
theorem UJ{G:Ω}{I:Ψ}:∀(xs:U TV)(vs:U Value),m9 w I xs vs->bp P G w I (xs.map TV.av) vs
 |[],[],_=>by simp[bp]
 |x::xs,v::vs,h=>by
  refine⟨?_,UJ xs vs h.2⟩;have h1:=h.1;cases x with
  |s y=>simp[TV.av];exact h1
  |a cs=>
   obtain⟨us,rfl,h2⟩:=h1;refine⟨us,rfl,?_⟩;have:∀(cs:U Tree) (us:U Value),fm w I cs us->bp P G w I (cs.map AV.t) us:=by
    intro cs
    induction cs with
    |nil=>intro us h;cases us<;>first|(simp [bp];done)|exact h.elim
    |cons c cs ih=>intro us h;cases us with
     |nil=>exact h.elim
     |cons u us=>simp;exact⟨h.1,ih us h.2⟩
   exact this cs us.toList h2
 |[],_::_,h|_::_,[],h=>h.elim
end
section
variable {H:Type} {enc:TypeId×Value->H} {P:Program}
theorem aiz{f:Func}{s:ChangeSpec}{apart fresh handsOn again:Bool}{W W':Y}{args:Array Value}{v:Value}{ds gs:U (DataW H)}{before pa pv:U MemPlace}
 (hW:DataW.Whole enc P f.params.toList s.vars apart W args.toList ds gs before)
 (hres:∀(b:Nat)(sp:Nat->Bool)(hd:Bool),DataW.TrodAll enc P W' b sp hd f.resultTypes.toList (v.resultList f.resultTypes.size) (s.fn H (ds++gs)).results [])
 (hargs:∀sp:Nat->Bool,(∀ p∈before,sp p.block=true)->DataW.TrodAll enc P W' 0 sp true f.params.toList args.toList (s.fn H (ds++gs)).args pa)
 (hvars:∀sp:Nat->Bool,(∀ p∈before,sp p.block=true)->DataW.TrodVars enc P W' sp s.vars (s.fn H (ds++gs)).vars pv)
 (hps:before=pa++pv) (hb:Below W.heap.size W W')
 (hok:∀(j:Nat)(t:TypeId)(r:Value),f.resultTypes[j]? =some t->(v.resultList f.resultTypes.size)[j]? =some r->Value.okWide P W' .any 0 t r):
 s.post enc P f apart fresh handsOn again W args v W':=by
 have hlt:∀p∈before,p.block<W.heap.size:=λp hp=>hW.lt p hp;have hold:∀p∈before,(λ b=>decide (b<W.heap.size)) p.block=true:=λp hp=>by simpa using hlt p hp
 refine⟨ds,gs,before,[],pa,pv,hW,hres _ _ _,hargs _ hold,hvars _ hold,World.keptBut_mono (λ p hp=>⟨hp,?_⟩) (hb.frame (· ∈before)),λ_=>?_⟩;rw[hps,bD]at hp;exact Or.inr hp;obtain⟨_,_,_,_,_,hz,hn⟩:=hW;refine⟨hok,_,_,([]++pa)++pv,⟨[]++pa,pv,trodAll_append (hargs _ (λ _ _=>rfl)) (hres _ _ _),hvars _ (λ _ _=>rfl),rfl,?_,?_⟩,?_⟩;intro b ab hp;have hin:MemPlace.cell b ab∈before:=by rw[hps];simpa using hp
 rw[hb.frozen (hlt _ hin)];exact hz b ab hin;intro ha;have:=hn ha;rw[hps]at this;simpa using this;intro p hp _;rw[hps];simpa using hp
theorem ML(hl:laidOutB P=true){W W':Y}(hb:Below W.heap.size W W'):∀{ts:U TypeId}{vs:U Value}{ds:U (DataW H)}{ps:U MemPlace},(∀ t∈ts,P.readableRec t=true/\t<P.types.size)->
 DataW.TrodAll enc P W 0 (λ _=>true) true ts vs ds ps->(∀ x∈ps,x.block<W.heap.size)->∀sp:Nat->Bool,(∀ p∈ps,sp p.block=true)->DataW.TrodAll enc P W' 0 sp true ts vs ds ps
 |[],vs,ds,ps,_,hd,_,sp,_=>by obtain⟨rfl,rfl,rfl⟩:=trodAll_nil hd;exact trodAll_mk0
 |t::ts,vs,ds,ps,ht,hd,hlt,sp,hsp=>by
  obtain⟨v,vs',d,ds',p,q,rfl,rfl,rfl,h0,r0⟩:=trodAll_cons hd;obtain⟨h1,h2⟩:=ht t (by simp)
  exact trodAll_cons_mk (WideElems.Trod_stays hl h1 h2 h0 (λ x hx=>hb.same (hlt x (by simp[hx]))) (λ x hx=>hsp x (by simp[hx])))
   (ML hl hb (λ t ht'=>ht t (by simp[ht'])) r0 (λ x hx=>hlt x (by simp[hx])) sp (λ x hx=>hsp x (by simp[hx])))
theorem UK{w:Y}{base:Nat}{sp:Nat->Bool}{held:Bool}:∀{ts:U TypeId}{vs:U Value}{ds:U (DataW H)}{ps:U MemPlace},DataW.TrodAll enc P w base sp held ts vs ds ps->ds.length=ts.length
 |[],_,_,_,h=>by obtain⟨_,rfl,_⟩:=trodAll_nil h;rfl
 |_::_,_,_,_,h=>by obtain⟨_,_,_,_,_,_,_,rfl,_,_,h2⟩:=trodAll_cons h;simp[UK h2]
theorem afI:∀{ts:U TypeId}{ds:U (DataW H)}{vt:U TypeId}{gs:U (DataW H)},ds.length=ts.length->∀k∈DataW.weightsEach P ts ds,k∈DataW.weightsEach P (ts++vt) (ds++gs)
 |[],[],_,_,_,k,h=>by simp[DataW.weightsEach]at h
 |t::ts,d::ds,vt,gs,hl,k,h=>by simp[DataW.weightsEach]at h |-;rcases h with h|h;exact .inl h;exact .inr (afI (by simpa using hl) k h)
 |[],_::_,_,_,h,_,_|_::_,[],_,_,h,_,_=>by simp at h
def HK(P:Ξ)(k:IntKind):Nat->U Field->Bool
 |_,[]=>true
 |o,f::fs=>(f.offset==o&&(P.cellsOf f.type==1&&(match P.underlying f.type with|some (.int k')=>k'==k|_=>false)))&&HK P k (o+1) fs
theorem aco{k:IntKind}:∀{fs:U Field}{o i:Nat}{f:Field},HK P k o fs=true->fs[i]? =some f->f.offset=o+i/\P.cellsOf f.type=1/\P.underlying f.type=some (.int k)
 |[],_,_,_,_,h=>by simp at h
 |f0::fs,o,0,f,h,hf=>by simp at hf;subst hf;simp[HK]at h;obtain⟨⟨h1,h2,h3⟩,_⟩:=h;refine⟨by omega,h2,?_⟩;split at h3;rename_i k' hk;rw[hk];simp at h3;rw[h3];cases h3
 |f0::fs,o,i+1,f,h,hf=>by simp[HK]at h;have⟨a,b,c⟩:=aco h.2 hf;exact⟨by omega,b,c⟩
theorem aa9{enc:TypeId×Value->H}{w:Y}{base:Nat}{sp:Nat->Bool}{held:Bool}{fuel:Nat}{t:V}{fs:Array Field}{k:IntKind}{cs:U Value}{zs:U Int}{p:U MemPlace}
 (ht:P.underlying t=some (.struct fs)) (hi:HK P k 0 fs.toList=true) (hct:P.cellsOf t=fs.size)
 (h:DataW.trod enc P w base sp held fuel t cs=some (Lib.tabData k zs,p)):cs=zs.map λz=>Value.int k z:=by
 obtain⟨xs,n,_,hx,hl,hxl,hf⟩:=DataW.trod_struct ht h;have hxs:(xs.map (·.1))=zs.map λz=>(DataW.lit (.int k z):DataW H):=by have:=congrArg Prod.fst hx;simpa[Lib.tabData]using this.symm
 have hzl:zs.length=fs.size:=by have:=congrArg List.length hxs;simp at this;omega
 apply List.ext_getElem?;intro i;by_cases hin:i<fs.size;have hfi:fs[i]? =some fs[i]:=Array.getElem?_eq_getElem hin;obtain⟨o1,o2,o3⟩:=aco (i:=i) (f:=fs[i]) hi (by simp);have h1:=hf i _ hfi;rw[o1,o2,dY (by omega)]at h1;obtain⟨z,hc,hz,_⟩:=DataW.trod_int o3 h1;have h2:cs[i]? =some (.int k z):=by have:=congrArg (·[0]?) hc;simpa[List.getElem?_take,List.getElem?_drop]using this
 have h3:(xs.map (·.1))[i]? =some (DataW.lit (.int k z):DataW H):=by rw[List.getElem?_map,dY (by omega),hz];rfl
 grind
 rw[List.getElem?_eq_none (by omega),List.getElem?_eq_none (by simp;omega)]
theorem adU{W:Y}{name:String}{g:Nat}{t:V}{fs:Array Field}{k:IntKind}{zs:U Int}
 (hg:P.globalNamed name=some g) (hty:(P.globals[g]?).map (·.type)=some t) (ht:P.underlying t=some (.struct fs)) (hi:HK P k 0 fs.toList=true) (hct:P.cellsOf t=fs.size) (hz:0<zs.length)
 (hgv:∀g' row,vj g'=some row->g'=g/\row=zs.map λz=>Value.int k z) (hgi:∀g',PJ g'=true->Here W g'/\∃m,W.cell? ⟨g',0,none⟩=some (.int .i64 m)) (h:laidMet P [(name,Lib.tabData k zs)] W):kf W (Here W):=by
 refine⟨?_,hgi⟩;obtain⟨ps,⟨g',t',cs,fuel,p,q,hg',ht',hvar,hd,_,_⟩,_⟩:=h;obtain rfl:=Option.some.inj (hg.symm.trans hg');obtain rfl:=Option.some.inj (hty.symm.trans ht');have hcs:=aa9 ht hi hct hd;have cell:∀i,W.cell? ⟨g,i,none⟩=(zs.map λz=>Value.int k z)[i]? :=λi=>by rw[World.var?_cell hg hvar i,<- hcs];simp
 intro g' row hrow;obtain⟨rfl,rfl⟩:=hgv g' row hrow;have h0:=cell 0;rw[dY (by simpa using hz)]at h0;refine⟨(La h0).2,?_⟩;rw[map_map];refine WX _ (zs.map λz=>Value.int k z) g' 0 ?_ (λ i _=>by rw[Nat.zero_add];exact cell i);clear cell h0 hz hrow hd hvar hcs hgv
 induction zs with
 |nil=>simp[fm]
 |cons z zs ih=>simp;exact⟨by simp[TR,oneCell],ih⟩
theorem adV{cut:U TypeId}{C:Checked}{f:FuncId}{fn:Func}{s:ChangeSpec}{ss:U VS}{tb:V}(hl:laidOutB C.prog=true)(hread:(fn.params.toList.all λt=>C.prog.readableRec t&&decide (t<C.prog.types.size))=true)
 (hss:fn.params.toList.mapM (MD C.prog cut)=some ss) (hvars:s.vars=[]) (hres:fn.resultTypes=#[tb]) (hb:C.prog.underlying tb=some .bool)
 (hs:∀ds:U (DataW H),ds.length=fn.params.toList.length->s.fn H ds={ results:=[.lit (.bool true)],args:=ds })
 {B:Ψ} (Up:∀xs,X6 ss xs->(∀ n,B n->yf xs<=n)->tE C.prog f (xs.map TV.av) (.one (.d (.s (.sc (.bool true))))))
 {W:Y} {base:Nat} {args:Array Value} {ds gs:U (DataW H)} {before:U MemPlace}
 (hval:∀(j:Nat) t v,fn.params[j]? =some t->args[j]? =some v->Value.okWide C.prog W .any base t v)
 (hW:DataW.Whole enc C.prog fn.params.toList s.vars false W args.toList ds gs before)
 {vt:U TypeId} (hz:(DataW.weightsEach C.prog (fn.params.toList++vt) (ds++gs)).all (· <=reachBytes)=true) (hv:kf W (Here W)) (hB:∀n,B n->∃K:Bk H,K.a ds<=n):
 Calls C.prog f args W λe W'=>∃v,e=.returned v/\s.post enc C.prog fn false true false false W args v W':=by
 have hW':=hW;obtain⟨p,q,hA,hV,rfl,_,_⟩:=hW;rw[hvars]at hV;obtain⟨rfl,rfl⟩:=trodVars_none hV;have hlen:=UK hA;obtain⟨xs,g1,g2,g3⟩:=ack hss (λ j t v h1 h2=>hval j t v (by simpa using h1) (by simpa using h2)) hA (λ k hk=>by have:=all_eq_true.1 hz k (afI hlen k hk);simpa using this);simp at hW';have hlt:∀x∈p,x.block<W.heap.size:=λx hx=>hW'.lt x hx;refine((Up xs g2 (λ n hn=>by have⟨K,hK⟩:=hB n hn;exact Nat.le_trans (g3 K) hK)).2 W (Here W) args (λ _ h=>h) hv (UJ _ _ g1)).mono λe W' ⟨v,I',he,hbel,_,_,_,hr⟩=>⟨v,he,?_⟩;simp[sf]at hr;obtain⟨rfl,_⟩:=hr;have hfn:s.fn H (ds++[])={ results:=[.lit (.bool true)],args:=ds }:=by rw[append_nil];exact hs ds hlen
 refine aiz (pa:=p) (pv:=[]) hW' (λ b sp hd=>?_) (λ sp hsp=>?_) (λ sp _=>?_) (by simp) hbel (ok_one (by rw[hres]) rfl (okWide_bool_mk hb _));rw[hfn,hres];exact trodAll_mk1 (shut_bool hb _);rw[hfn];refine ML hl hbel (λ t ht=>?_) hA hlt sp hsp;have:=all_eq_true.1 hread t ht;simpa using this;rw[hfn,hvars];rfl
end
def aqR:B6->TypeDesc->Bool
 |.slice e,.slice e'=>e==e'
 |.arr n e,.array n' e'=>n==n'&&e==e'
 |.struct fs,.struct fa=>fa.toList.map (λ f=>(f.offset,f.type))==fs
 |.bool,.bool=>true
 |.str,.string=>true
 |.int k,.int k'=>k==k'
 |.map k e,.map k' e'=>k==k'&&e==e'
 |.other,_=>true
 |_,_=>false
def anh:Value->Value->Bool
 |.int k a,.int k' b=>k==k'&&a==b
 |.bool a,.bool b=>a==b
 |.string a,.string b=>decide (a=b)
 |.slice none 0 0,.slice none 0 0=>true
 |.pointer none,.pointer none=>true
 |.nilFunc,.nilFunc=>true
 |.nilIface,.nilIface=>true
 |.map none,.map none=>true
 |_,_=>false
theorem afJ{a b:Value}(h:anh a b=true):a=b:=by unfold anh at h;split at h<;>simp_all
def X7:U Value->U Value->Bool
 |[],[]=>true
 |a::as,b::bs=>anh a b&&X7 as bs
 |_,_=>false
theorem O7:∀{a b:U Value},X7 a b=true->a=b
 |[],[],_=>rfl
 |a::as,b::bs,h=>by simp[X7]at h;rw[afJ h.1,O7 h.2]
 |[],_::_,h|_::_,[],h=>by simp[X7]at h
def ani(P:Ξ)(t:V)(ti:pD):Bool:=
 match P.info? t,P.underlying t with
 |some info,some d=>match info.zero with
  |some z=>info.size==ti.size&&info.bytes==ti.bytes&&tm d==ti.agg&&aqR ti.k d&&ti.zero.all ld&&ti.zero.length==ti.size&&
   (ti.cmp.isEmpty || match d with
    |.struct fa=>!P.stoodInHeld t&&!P.eqGuardType P.depth t&&i8 P 0 fa.toList ti.cmp
    |.array _ _=>ti.cmp==[9]&&!P.eqGuardType P.depth t
    |_=>false)&&X7 z.cells.toList ti.zero&&tG ti.agg z
  |none=>false
 |_,_=>false
theorem aiA{k:B6}{d:TypeDesc}(h:aqR k d=true):Tl k d:=by unfold aqR at h;split at h;simp at h;subst h;rfl;simp at h;obtain⟨rfl,rfl⟩:=h;rfl;rename_i fs fa;exact⟨fa,rfl,by simpa using h⟩;rfl;rfl;simp at h;subst h;rfl;simp at h;obtain⟨rfl,rfl⟩:=h;rfl;trivial;cases h
theorem afK{P:Ξ}{t:V}{ti:pD}(h:ani P t ti=true):mi P t ti:=by
 unfold ani at h;split at h;rename_i info d h1 h2;split at h
 .rename_i z h3;simp only[aY,beq_iff_eq]at h;obtain⟨⟨⟨⟨⟨⟨⟨⟨a1,a2⟩,a3⟩,a4⟩,a5⟩,a6⟩,a7⟩,a8⟩,a9⟩:=h;refine⟨⟨info,d,z,h1,h2,a1,a2,h3,O7 a8,a3,aiA a4⟩,a5,a6,λinfo' z' e1 e2=>by rw[h1]at e1;cases e1;rw[h3]at e2;cases e2;exact a9,λhne=>?_⟩
  all_goals grind
 cases h;cases h
def pV(l:U (TypeId×pD)):eS:=λt=>(l.find? λp=>p.1==t).map (·.2)
theorem anj{P:Ξ}{l:U (TypeId×pD)}(h:(l.all λp=>ani P p.1 p.2)=true):fQ P (pV l):=by intro t ti ht;simp only[pV,sK]at ht;obtain⟨p,hp,rfl⟩:=ht;have h1:=List.find?_some hp;simp at h1;subst h1;exact afK (all_eq_true.1 h p (List.mem_of_find?_eq_some hp))
inductive CT(ι:Type) where
 |int (k:IntKind)
 |bool
 |str
 |sl (e:CT ι)
 |st (i:ι)
 |any
 |mp (k v:CT ι)
 deriving DecidableEq
structure SE where
 ι:Type
 dec:DecidableEq ι
 T:ι->Type
 row:(i:ι)->T i->List Tree
instance (Φ:SE):DecidableEq Φ.ι:=Φ.dec
section
variable (Φ:SE)
@[reducible] def CT.T:CT Φ.ι->Type
 |.int _=>Int
 |.bool=>Bool
 |.str=>ByteArray
 |.sl e=>U (CT.T e)
 |.st i=>Φ.T i
 |.any=>Tree
 |.mp k v=>U (CT.T k×CT.T v)
def CT.row:(c:CT Φ.ι)->CT.T Φ c->U Tree
 |.int k,n=>[.sc (.int k n)]
 |.bool,b=>[.sc (.bool b)]
 |.str,s=>[.sc (.string s)]
 |.sl e,l=>[.sl (List.map (CT.row e) l)]
 |.st i,x=>Φ.row i x
 |.any,x=>[x]
 |.mp _ _,_=>[.sl []]
def CT.one{ι:Type}:CT ι->Bool
 |.st _=>false
 |_=>true
def CT.tv:(c:CT Φ.ι)->CT.T Φ c->TV
 |.int k,n=>.s (.sc (.int k n))
 |.bool,b=>.s (.sc (.bool b))
 |.str,s=>.s (.sc (.string s))
 |.sl e,l=>.s (.sl (List.map (CT.row Φ e) l))
 |.st i,x=>.a (Φ.row i x)
 |.any,x=>.s x
 |.mp _ _,_=>.s (.sl [])
def HL:U (CT Φ.ι)->Type
 |[]=>Unit
 |c::l=>CT.T Φ c×HL l
def HL.row:(l:U (CT Φ.ι))->HL Φ l->U Tree
 |[],_=>[]
 |c::l,h=>CT.row Φ c h.1++HL.row l h.2
def HL.oe:(l:U (CT Φ.ι))->HL Φ l->U TV
 |[],_=>[]
 |c::l,h=>CT.tv Φ c h.1::HL.oe l h.2
end
structure Arr(Φ:SE) where
 i:Φ.ι
 c:CT Φ.ι
 f:Φ.T i->List (CT.T Φ c)
 g:List (CT.T Φ c)->Option (Φ.T i)
structure SX extends SE where
 d6:ι->List (CT ι)
 get:(i:ι)->T i->HL toSE (d6 i)
 make:(i:ι)->HL toSE (d6 i)->T i
 oA:∀i x,row i x=HL.row toSE (d6 i) (get i x)
 ii:∀i h,row i (make i h)=HL.row toSE (d6 i) h
 flat:∀i,(d6 i).all CT.one=true
 gv:Nat->Option ((c:CT ι)×CT.T toSE c)
 AK:∀g,(gv g).map (λ p=>CT.row toSE p.1 p.2)=(vj g).map λr=>r.map Tree.sc
 ar:TypeId->Option (Arr toSE):=λ_=>none
 asF:∀t a,ar t=some a->a.c.one=true/\(∀ x,row a.i x=((a.f x).map (CT.row toSE a.c)).flatten)/\∀l x,a.g l=some x->a.f x=l:=by intro t a h;cases h
section
variable (X:SX)
abbrev SX.C:=CT X.ι
abbrev SX.t(c:CT X.ι):Type:=CT.T X.toSE c
def CT.sz:CT X.ι->Nat
 |.st i=>(X.d6 i).length
 |_=>1
inductive DV where
 |c (t:CT X.ι) (x:CT.T X.toSE t)
 |agg (cs:List DV)
 |fR (vs:List DV)
 |own (k ab len:Nat)
 |ptr (k row ab:Nat)
 |rk (k:Nat) (n:Int) (ab:Nat)
 |t6 (k row ab m:Nat) (n:Int)
 |rp (t:CT X.ι) (x:CT.T X.toSE t) (ab:Nat)
 |yq (t:CT X.ι) (x:CT.T X.toSE t) (ab m:Nat) (n:Int)
 |fn (f:FuncId) (first caps:List DV)
 |en (as:List (CT X.ι)) (r:CT X.ι) (Z:HL X.toSE as->Option (CT.T X.toSE r))
 |mp (k:Nat)
 |oz (k len:Nat)
 |raw (v:Value)
 |nil
 |ub
 |skip
 |undef
inductive cg where
 |cells (sz:Nat) (rows:List (List (DV X)))
 |ey (c:CT X.ι) (l:List (CT.T X.toSE c))
 |map (kc vc:CT X.ι) (l:List (CT.T X.toSE kc×CT.T X.toSE vc))
structure d7 where
 env:List (Nat×DV X)
 obj:List (Nat×Option (cg X))
 nx:Nat
 log:List Nat
variable {X}
mutual
def den:DV X->AV
 |.c t x=>(CT.tv X.toSE t x).av
 |.agg cs=>.agg (bQ cs)
 |.fR vs=>.fR (bQ vs)
 |.own k ab len=>.own k ab len
 |.ptr k row ab=>.ptr k row ab
 |.rk k n ab=>.ptr k n.toNat ab
 |.t6 k row ab _ n=>.ptr k row (ab+n.toNat)
 |.rp t x ab=>.eV (CT.row X.toSE t x) ab
 |.yq t x ab _ n=>.eV (CT.row X.toSE t x) (ab+n.toNat)
 |.fn f first caps=>.fn f (bQ first) (bQ caps)
 |.en as r Z=>.en λts u=>∃h x,Z h=some x/\ts=HL.oe X.toSE as h/\u=CT.tv X.toSE r x
 |.mp k=>.mp k
 |.oz k len=>.oz k len
 |.raw v=>cv v
 |.nil=>.cD
 |.ub=>.ub
 |.skip=>.undef
 |.undef=>.undef
def bQ:List (DV X)->List AV
 |[]=>[]
 |x::xs=>den x::bQ xs
end
theorem pW:∀l:U (DV X),bQ l=l.map den
 |[]=>rfl
 |x::xs=>by simp[bQ,pW xs]
def bS:cg X->aR
 |.cells sz rows=>⟨sz,rows.map bQ⟩
 |.ey c l=>⟨CT.sz X c,aK (l.map (CT.row X.toSE c))⟩
 |.map kc vc l=>⟨l.length,l.map λp=>[(CT.tv X.toSE kc p.1).av,(CT.tv X.toSE vc p.2).av]⟩
def jr(u:U (Nat×Option (cg X))):U (Nat×Option aR):=u.map λp=>(p.1,p.2.map bS)
def iz(o:U (Nat×Option (cg X)))(k:Nat):J (cg X):=(lk o k).join
def fx(e:U (Nat×DV X))(t:Nat):DV X:=(lk e t).getD .undef
def d7.st(s:d7 X):St:=⟨λ t=>den (fx s.env t),λk=>(iz s.obj k).map bS,λ_=>none⟩
def l6(a b:CT X.ι)(x:CT.T X.toSE a):J (CT.T X.toSE b):=
 match decEq a b with
 |isTrue h=>some (h ▸ x)
 |isFalse _=>none
theorem tZ{a b:CT X.ι}{x:CT.T X.toSE a}{y:CT.T X.toSE b}(h:l6 a b x=some y):∃e:a=b,y=e ▸ x:=by unfold l6 at h;split at h;rename_i e _;injection h with h;exact⟨e,h.symm⟩;cases h
def HL.cells:(l:U (CT X.ι))->HL X.toSE l->U (DV X)
 |[],_=>[]
 |c::l,h=>.c c h.1::HL.cells l h.2
theorem row_one{c:CT X.ι}(h:c.one=true)(x:CT.T X.toSE c):∃t,CT.row X.toSE c x=[t]/\CT.tv X.toSE c x=.s t:=by cases c<;>first|exact⟨_,rfl,rfl⟩|cases h
theorem HL.q6:∀(l:U (CT X.ι))(h:HL X.toSE l),l.all CT.one=true->bQ (HL.cells l h)=(HL.row X.toSE l h).map AV.t
 |[],_,_=>rfl
 |c::l,h,ha=>by simp only[all_cons,aY]at ha;obtain⟨t,h1,h2⟩:=row_one ha.1 h.1;simp[HL.cells,bQ,den,HL.row,h1,h2,TV.av,HL.q6 l h.2 ha.2]
theorem HL.pb:∀(l:U (CT X.ι))(h:HL X.toSE l),l.all CT.one=true->(HL.row X.toSE l h).length=l.length
 |[],_,_=>rfl
 |c::l,h,ha=>by simp only[all_cons,aY]at ha;obtain⟨t,h1,_⟩:=row_one ha.1 h.1;simp[HL.row,h1,HL.pb l h.2 ha.2]
theorem Jq(c:CT X.ι)(x:CT.T X.toSE c):(CT.row X.toSE c x).length=CT.sz X c:=by
 cases c<;>try rfl
 rename_i i;exact(congrArg List.length (X.oA i x)).trans (HL.pb _ _ (X.flat i))
def wJ:(c:CT X.ι)->CT.T X.toSE c->U (DV X)
 |.st i,x=>HL.cells (X.d6 i) (X.get i x)
 |c,x=>[.c c x]
theorem qL(c:CT X.ι)(x:CT.T X.toSE c):bQ (wJ c x)=(CT.row X.toSE c x).map AV.t:=by
 cases c<;>try rfl
 rename_i i;exact(HL.q6 _ _ (X.flat i)).trans (congrArg (List.map AV.t) (X.oA i x).symm)
def xg:DV X->Bool
 |.agg _|.fR _|.undef|.skip|.raw _|.c (.st _) _=>false
 |_=>true
theorem UL{x:DV X}(h:xg x=true):qK (den x)=true:=by
 cases x<;>try rfl
 case c t x=>cases t<;>first|rfl|simp[xg]at h
 all_goals simp[xg]at h
def cellsD:DV X->J (List (DV X))
 |.agg cs=>if cs.all xg then some cs else none
 |.c (.st i) x=>some (wJ (.st i) x)
 |.fR _|.undef|.skip|.raw _=>none
 |x=>some [x]
theorem akC{l:U (DV X)}(h:l.all xg=true):(bQ l).all qK=true:=by rw[pW,List.all_map,all_eq_true];exact λx hx=>UL (all_eq_true.1 h x hx)
theorem FR{x:DV X}{cs:U (DV X)}(h:cellsD x=some cs):cellsOf (den x)=some (bQ cs):=by
 cases x
 case c t x=>
  cases t
  case st i=>
   simp[cellsD]at h;subst h;simp only[den,CT.tv,TV.av,cellsOf,qL];show(if ((X.row i x).map AV.t).all qK then some ((X.row i x).map AV.t)else none)=some ((X.row i x).map AV.t);rw[aM];rw[List.all_map,all_eq_true];exact λ_ _=>rfl
  all_goals simp[cellsD]at h;subst h;rfl
 case agg l=>
  simp only[cellsD]at h;split at h;cases h;simp only[den,cellsOf];rw[aM (akC ‹_›)];cases h
 all_goals simp[cellsD]at h;try (subst h;rfl)
def xi:Value->DV X
 |.slice none 0 0=>.nil
 |.int k n=>.c (.int k) n
 |.bool b=>.c .bool b
 |.string s=>.c .str s
 |v=>.raw v
theorem akD(v:Value):den (xi (X:=X) v)=cv v:=by unfold xi;split<;>rfl
theorem Ej(l:U Value):bQ (l.map (xi (X:=X)))=l.map cv:=by rw[pW,map_map];exact map_congr_left λv _=>akD v
def xF(env:Nat->DV X):Operand->DV X
 |.tmp t=>env t
 |.const v=>xi v
 |.global g=>match X.gv g with
  |some p=>.rp p.1 p.2 0
  |none=>.undef
 |.func f=>.fn f [] []
theorem X8(env:Nat->DV X)(x:Operand):den (xF env x)=ml (λ t=>den (env t)) x:=by
 cases x with
 |global g=>
  have h:=X.AK g;simp[xF,ml];cases h1:X.gv g with
  |none=>
   rw[h1]at h;cases h2:vj g with
   |none=>rfl
   |some r=>rw[h2]at h;cases h
  |some p=>grind [den]
 |const v=>exact akD _
 |tmp t|func f=>rfl
end
def ci{α:Type}(l:U α)(n:Int):J α:=bif decide (0<=n)then l[n.toNat]? else none
def sub{α:Type}(l:U α)(ab len:Nat):U α:=(l.drop ab).take len
def cR(n:Int)(len:Nat):Bool:=decide (0<=n)&&decide (n<(len:Int))
def iU{α G:Type}(a:α)(f:α->G):G:=f a
def bP(lo len ln n bytes:Nat):Bool:=decide (lo=len)&&decide (ln=n)&&decide ((len+n)*bytes<=140737488355328)&&decide (len+n<=maxLen)
def bk(a b:Nat):Bool:=decide (a=b)
def z8(l h:Int)(len:Nat):Bool:=decide (0<=l)&&decide (l<=h)&&decide (h<=(len:Int))
def X9(a b:ByteArray):Bool:=Op.bytesLess a.toList b.toList
def Ya(a b:ByteArray):Bool:=decide (a.size+b.size<=maxLen)
abbrev iN(n:Int):Int:=n
abbrev bN(b:Bool):Bool:=b
def Yb{A:Type}:U Bool->J A->J A
 |[],k=>k
 |c::cs,k=>bif c then Yb cs k else none
section
variable {X:SX} {A:Type}
abbrev KK(X:SX)(A:Type):=DV X->U (Nat×Option (cg X))->U Nat->U Nat->J A
def ank(t:Bool)(x y:DV X):DV X:=
 match x,y with
 |.c a p,.c b q=>match decEq b a with
  |isTrue h=>.c a (bif t then p else h ▸ q)
  |isFalse _=>bif t then .c a p else .c b q
 |x,y=>bif t then x else y
def Jr(agg:Bool)(size:Nat)(cs:U (DV X)):J (DV X):=
 if cs.length=size then(if agg then some (.agg cs)else match cs with|[x]=>if xg x then some x else none|_=>none)else none
def Rd(agg:Bool)(size:Nat)(c:CT X.ι)(y:CT.T X.toSE c)(ab:Nat):J (DV X):=
 match c,y with
 |.st i,y=>if ab=0/\agg=true/\size=(X.d6 i).length then some (.c (.st i) y)else Jr agg size (((wJ (.st i) y).drop ab).take size)
 |c,y=>Jr agg size (((wJ c y).drop ab).take size)
def Nb(d:DV X)(c:CT X.ι):J (CT.T X.toSE c):=
 match d,c with
 |.c a x,c=>l6 a c x
 |.nil,.sl _=>some []
 |.nil,.any=>some (.sl [])
 |_,_=>none
def FT:U (DV X)->(l:U (CT X.ι))->J (HL X.toSE l)
 |[],[]=>some ()
 |d::ds,c::l=>(Nb d c).bind λx=>(FT ds l).bind λh=>some (x,h)
 |_,_=>none
def GE(d:DV X)(i:X.ι):J (CT.T X.toSE (.st i)):=
 match d with
 |.agg cs=>(FT cs (X.d6 i)).bind λh=>some (X.make i h)
 |.c a x=>l6 a (.st i) x
 |_=>none
def dat(d:DV X)(c:CT X.ι):J (CT.T X.toSE c):=
 match c with
 |.st i=>GE d i
 |c=>Nb d c
def mk1(c:CT X.ι):U (DV X)->J (CT.T X.toSE c)
 |[d]=>Nb d c
 |_=>none
def O8(c:CT X.ι)(ds:U (DV X)):J (CT.T X.toSE c):=
 match c with
 |.st i=>(FT ds (X.d6 i)).bind λh=>some (X.make i h)
 |c=>mk1 c ds
def Mz(r:U (DV X))(ab:Nat)(cs:U (DV X)):U (DV X):=r.take ab++cs++r.drop (ab+cs.length)
variable (T:eS) (an:TypeId->Option (CT X.ι))
def Th(t:V)(x:DV X)(get:Nat->J (cg X))(k:KK X A):J A:=
 (T t).bind λti=>match x with
 |.ptr kk row ab=>(get kk).bind λo=>match o with
  |.cells _ rows=>(rows[row]?).bind λr=>(Jr ti.agg ti.size ((r.drop ab).take ti.size)).bind λv=>k v [] [kk] []
  |_=>none
 |.rk kk n ab=>(get kk).bind λo=>match o with
  |.ey c l=>(ci l n).bind λy=>(Rd ti.agg ti.size c y ab).bind λv=>k v [] [kk] []
  |_=>none
 |.rp c y ab=>(Rd ti.agg ti.size c y ab).bind λv=>k v [] [] []
 |_=>none
def SZ(t:V)(x y:DV X)(get:Nat->J (cg X))(k:KK X A):J A:=
 (T t).bind λti=>(cellsD y).bind λcs=>if cs.length=ti.size then match x with
 |.ptr kk row ab=>(get kk).bind λo=>match o with
  |.cells sz rows=>(rows[row]?).bind λr=>if ab+cs.length<=r.length then k .undef [(kk,some (.cells sz (rows.set row (Mz r ab cs))))] [kk] [kk]else none
  |_=>none
 |.rk kk n ab=>(get kk).bind λo=>match o with
  |.ey c l=>(ci l n).bind λy=>if ab+cs.length<=CT.sz X c then(O8 c (Mz (wJ c y) ab cs)).bind λz=>k .undef [(kk,some (.ey c (l.set n.toNat z)))] [kk] [kk]else none
  |_=>none
 |_=>none else none
def Nc(t:V)(x:DV X)(f:Nat)(k:KK X A):J A:=
 (BF T t f).bind λp=>match x with
 |.ptr kk row ab=>k (.ptr kk row (ab+p.1)) [] [] []
 |.rk kk n ab=>k (.rk kk n (ab+p.1)) [] [] []
 |.rp c y ab=>k (.rp c y (ab+p.1)) [] [] []
 |_=>none
def aiC(t:V)(x:DV X)(f:Nat)(k:KK X A):J A:=
 (BF T t f).bind λp=>match x with
 |.agg cs=>(Jr p.2.agg p.2.size ((cs.drop p.1).take p.2.size)).bind λv=>k v [] [] []
 |.c (.st i) y=>(Jr p.2.agg p.2.size (((wJ (.st i) y).drop p.1).take p.2.size)).bind λv=>k v [] [] []
 |_=>none
def Nf(t:V)(x j:DV X)(get:Nat->J (cg X))(k:KK X A):J A:=
 (T t).bind λti=>match ti.k,j with
 |.slice e,.c (.int _) n=>(T e).bind λei=>match x with
  |.c (.sl c) l=>if CT.sz X c=ei.size then(ci l n).bind λy=>k (.rp c y 0) [] [] []else none
  |.own kk ab len=>(get kk).bind λo=>match o with
   |.ey c _=>if CT.sz X c=ei.size then bif cR n len then k (.rk kk ((ab:Int)+iN n) 0) [] [kk] []else none else none
   |.cells sz _=>if sz=ei.size then bif cR n len then k (.ptr kk (ab+n.toNat) 0) [] [kk] []else none else none
   |.map _ _ _=>none
  |_=>none
 |.arr m e,.c (.int _) n=>(T e).bind λei=>bif cR n m then match x with
  |.ptr kk row ab=>k (.ptr kk row (ab+n.toNat*ei.size)) [] [] []
  |.rk kk r ab=>k (.rk kk r (ab+n.toNat*ei.size)) [] [] []
  |.rp c y ab=>k (.rp c y (ab+n.toNat*ei.size)) [] [] []
  |_=>none
  else none
 |_,_=>none
def Yc(x:DV X)(j:Nat)(k:KK X A):J A:=
 match x with
 |.fR vs=>(vs[j]?).bind λv=>k v [] [] []
 |_=>none
def Js(op:BinOp)(kd:IntKind)(a b:Int):(DV X)×Option Bool:=
 match op with
 |.add=>(.c (.int kd) (kd.wrap (a+b)),none)
 |.sub=>(.c (.int kd) (kd.wrap (a-b)),none)
 |.mul=>(.c (.int kd) (kd.wrap (a*b)),none)
 |.quo=>(.c (.int kd) (kd.wrap (a.tdiv b)),some (b !=0))
 |.rem=>(.c (.int kd) (a.tmod b),some (b !=0))
 |.and=>(.c (.int kd) (bits .and kd a b),none)
 |.or=>(.c (.int kd) (bits .or kd a b),none)
 |.xor=>(.c (.int kd) (bits .xor kd a b),none)
 |.andNot=>(.c (.int kd) (bits .andNot kd a b),none)
 |.shl=>(.c (.int kd) (kd.wrap (a*2 ^ b.toNat)),some (decide (0<=b)&&decide (b<=kd.bits)))
 |.shr=>(.c (.int kd) (a/2 ^ b.toNat),some (decide (0<=b)&&decide (b<=kd.bits)))
 |.eql=>(.c .bool (a==b),none)
 |.neq=>(.c .bool (a !=b),none)
 |.lss=>(.c .bool (decide (a<b)),none)
 |.leq=>(.c .bool (decide (a<=b)),none)
 |.gtr=>(.c .bool (decide (a>b)),none)
 |.geq=>(.c .bool (decide (a>=b)),none)
def adW:Nat->DV X->DV X->J Bool
 | 0,.c (.int j) a,.c (.int k) b=>if j=k then some (iN a==iN b)else none
 | 1,.c .bool a,.c .bool b=>some (bN a==bN b)
 | 2,.c .str a,.c .str b=>some (a.toList==b.toList)
 |_,_,_=>none
def Jt:U Nat->U (DV X)->U (DV X)->J Bool
 |[],[],[]=>some true
 |k::ks,x::xs,y::ys=>(adW k x y).bind λa=>(Jt ks xs ys).bind λb=>some (a&&b)
 |_,_,_=>none
def Pu:DV X->J (List (DV X))
 |.agg cs=>some cs
 |.c (.st i) y=>some (wJ (.st i) y)
 |_=>none
def aqS(op:BinOp)(t:V)(x y:DV X)(k:KK X A):J A:=
 match x,y with
 |.c (.int kd) a,.c (.int yk) b=>if kd=yk\/op=.shl\/op=.shr then match (Js op kd a b:DV X×Option Bool).2 with
  |none=>k (Js op kd a b).1 [] [] []
  |some g=>bif g then k (Js op kd a b).1 [] [] []else none
  else none
 |.c .str a,.c .str b=>match op with
  |.eql=>k (.c .bool (a.toList==b.toList)) [] [] []
  |.neq=>k (.c .bool (!(a.toList==b.toList))) [] [] []
  |.lss=>k (.c .bool (X9 a b)) [] [] []
  |.gtr=>k (.c .bool (!(X9 a b || a.toList==b.toList))) [] [] []
  |.add=>bif Ya a b then k (.c .str (a++b)) [] [] []else none
  |_=>none
 |.c .bool a,.c .bool b=>(T t).bind λti=>match ti.k,op with
  |.bool,.eql=>k (.c .bool (bN a==bN b)) [] [] []
  |.bool,.neq=>k (.c .bool (!(bN a==bN b))) [] [] []
  |_,_=>none
 |x,y=>(Pu x).bind λxs=>(Pu y).bind λys=>(T t).bind λti=>if ti.cmp=[]then none else(Jt ti.cmp xs ys).bind λb=>match op with
  |.eql=>k (.c .bool b) [] [] []
  |.neq=>k (.c .bool (!b)) [] [] []
  |_=>none
def SO(op:UnOp)(x:DV X)(k:KK X A):J A:=
 match op,x with
 |.not,.c .bool b=>k (.c .bool (!b)) [] [] []
 |.neg,.c (.int kd) n=>k (.c (.int kd) (kd.wrap (0-iN n))) [] [] []
 |_,_=>none
def Lb(mx:Bool)(kd:IntKind):Int->U (DV X)->J Int
 |a,[]=>some a
 |a,.c (.int k') b::r=>if k'=kd then Lb mx kd (if mx then max a b else min a b) r else none
 |_,_=>none
def N6(mx:Bool)(args:U (DV X))(k:KK X A):J A:=
 match args with
 |.c (.int kd) a::r=>(Lb mx kd a r).bind λn=>k (.c (.int kd) n) [] [] []
 |_=>none
def Z3(t:V)(x:DV X)(k:KK X A):J A:=
 (T t).bind λti=>match ti.k,x with
 |.slice _,.c (.sl _) l=>k (.c (.int .i64) (l.length:Int)) [] [] []
 |.slice _,.own _ _ len=>k (.c (.int .i64) (len:Int)) [] [] []
 |.slice _,.oz _ len=>k (.c (.int .i64) (len:Int)) [] [] []
 |.slice _,.nil=>k (.c (.int .i64) (0:Int)) [] [] []
 |.str,.c .str s=>k (.c (.int .i64) (s.size:Int)) [] [] []
 |_,_=>none
def HJ(place:Nat->J (Nat×Nat)):U (DV X)->U (Nat×DV X)->J (List (DV X))
 |cells,[]=>some cells
 |cells,(j,x)::ag=>(place j).bind λp=>(cellsD x).bind λcs=>
  if cs.length=p.2/\p.1+cs.length<=cells.length then HJ place (Mz cells p.1 cs) ag else none
def aiD(t:V)(parts:U (Nat×DV X))(k:KK X A):J A:=
 (T t).bind λti=>match ti.k with
 |.struct fs=>if fs.all (λ p=>(T p.2).isSome)then
  (HJ (λ j=>(fs[j]?).bind λp=>(T p.2).bind λui=>some (p.1,ui.size)) (ti.zero.map xi) parts).bind λcells=>k (.agg cells) [] [] []else none
 |.arr _ e=>(T e).bind λei=>(HJ (λ j=>some (j*ei.size,ei.size)) (ti.zero.map xi) parts).bind λcells=>k (.agg cells) [] [] []
 |_=>none
def My(c:CT X.ι):Nat->U (Nat×DV X)->J (List (CT.T X.toSE c))
 |_,[]=>some []
 |n,(j,x)::r=>if j=n then(dat x c).bind λy=>(My c (n+1) r).bind λl=>some (y::l)else none
def Ju(i:Nat)(t:V)(len:Nat)(parts:U (Nat×DV X))(k:KK X A):J A:=
 (T t).bind λti=>match ti.k with
 |.slice e=>(T e).bind λei=>(an e).bind λc=>if ei.size=0\/len*ei.size>2 ^ 24\/CT.sz X c≠ei.size\/parts.length≠len then none else
  (My c 0 parts).bind λl=>k (.own (cE i) 0 len) [(cE i,some (.ey c l))] [] []
 |_=>none
def aiE(i:Nat)(e:V)(k:KK X A):J A:=
 (T e).bind λti=>k (.ptr (cE i) 0 0) [(cE i,some (.cells ti.size [ti.zero.map xi]))] [] []
def Z2(i:Nat)(x:DV X)(k:KK X A):J A:=
 (cellsD x).bind λcs=>k (.ptr (cE i) 0 0) [(cE i,some (.cells cs.length [cs]))] [] []
def B4(d:Int):J (DV X)->J Int
 |none=>some d
 |some (.c (.int _) n)=>some n
 |_=>none
def aiF(t:V)(x:DV X)(lo hi:J (DV X))(get:Nat->J (cg X))(k:KK X A):J A:=
 (T t).bind λti=>match ti.k with
 |.slice e=>(T e).bind λei=>match x with
  |.own kk ab len=>(get kk).bind λo=>if (bS o).sz=ei.size then(B4 0 lo).bind λl=>(B4 len hi).bind λh=>
   bif z8 l h len then k (.own kk (ab+l.toNat) (h.toNat-l.toNat)) [] [kk] []else none else none
  |.c (.sl c) xs=>if CT.sz X c=ei.size then(B4 0 lo).bind λl=>(B4 xs.length hi).bind λh=>
   bif z8 l h xs.length then k (.c (.sl c) (sub xs l.toNat (h.toNat-l.toNat))) [] [] []else none else none
  |_=>none
 |_=>none
def Z1(y:DV X)(c:CT X.ι)(get:Nat->J (cg X)):J (Nat×List (CT.T X.toSE c)×List Nat):=
 match y with
 |.own kk ab len=>(get kk).bind λo=>match o with
  |.ey b l=>(l6 (.sl b) (.sl c) l).bind λl=>some (len,sub l ab len,[kk])
  |_=>none
 |.c b l=>(l6 b (.sl c) l).bind λ(l:List (CT.T X.toSE c))=>some (l.length,l,[])
 |_=>none
def Yd{α:Type}:Nat->U α->U α
 | 0,l=>l
 |n+1,l=>l.drop (n+1)
def adX(i:Nat)(t:V)(x y:DV X)(get:Nat->J (cg X))(k:KK X A):J A:=
 (T t).bind λti=>match ti.k with
 |.slice e=>(T e).bind λei=>(an e).bind λc=>if CT.sz X c=ei.size then(Z1 y c get).bind λs=>match x with
  |.own kk ab len=>(get kk).bind λo=>match o with
   |.ey b l=>(l6 (.sl b) (.sl c) l).bind λ(l:List (CT.T X.toSE c))=>bif bP (Yd ab l).length len s.2.1.length s.1 ei.bytes then iU (Yd ab l++s.2.1) λr=>k (.own (cE i) 0 r.length) [(cE i,some (.ey c r)),(kk,none)] (kk::s.2.2) [kk]else none
   |_=>none
  |.nil=>bif bP 0 0 s.2.1.length s.1 ei.bytes then iU s.2.1 λr=>k (.own (cE i) 0 r.length) [(cE i,some (.ey c r))] s.2.2 []else none
  |_=>none
  else none
 |_=>none
def Ye(i:Nat)(b:Builtin)(args:U (DV X))(d6:U TypeId)(get:Nat->J (cg X))(k:KK X A):J A:=
 match b,args,d6 with
 |.len,[x],[t]=>Z3 T t x k
 |.max,args,_=>N6 true args k
 |.min,args,_=>N6 false args k
 |.append,[x,y],[t,u]=>if t=u then adX T an i t x y get k else none
 |_,_,_=>none
def N5(i:Nat)(o:Op)(ρ:Operand->DV X)(get:Nat->J (cg X))(k:KK X A):J A:=
 match o with
 |.move x=>k (ρ x) [] [] []
 |.assign x=>k (ρ x) [] [] []
 |.pick c a b=>match ρ c with|.c .bool t=>k (ank t (ρ a) (ρ b)) [] [] []|_=>none
 |.alloc e=>aiE T i e k
 |.box _ x=>Z2 i (ρ x) k
 |.build t parts=>aiD T t (parts.toList.map λp=>(p.1,ρ p.2)) k
 |.buildSlice t len parts=>Ju T an i t len (parts.toList.map λp=>(p.1,ρ p.2)) k
 |.load t a=>Th T t (ρ a) get k
 |.store t a x=>SZ T t (ρ a) (ρ x) get k
 |.binOp op t x y _=>aqS T op t (ρ x) (ρ y) k
 |.unOp op _ x=>SO op (ρ x) k
 |.makeFunc (.func f) first caps=>k (.fn f (first.toList.map ρ) (caps.toList.map ρ)) [] [] []
 |.slice t x lo hi none=>aiF T t (ρ x) (lo.map ρ) (hi.map ρ) get k
 |.fieldAddr t x f=>Nc T t (ρ x) f k
 |.field t x f=>aiC T t (ρ x) f k
 |.indexAddr t x j=>Nf T t (ρ x) (ρ j) get k
 |.extract x j=>Yc (ρ x) j k
 |.call { callee:=.builtin b,args:=args,argTypes:=d6 }=>Ye T an i b (args.toList.map ρ) d6.toList get k
 |_=>none
end
section
variable {X:SX} {A:Type} {T:eS} {an:TypeId->Option (CT X.ι)} {get:Nat->Option (cg X)} {k:KK X A} {r:A} {i:Nat}
def fT(get:Nat->J (cg X)):Nat->J aR:=λj=>(get j).map bS
theorem fF{rd:U Nat}{j:Nat}{o:cg X}(hj:j∈rd)(h:get j=some o):eD rd (fT get) j=some (bS o):=by simp[eD,hj,fT,h]
theorem mI(l:U (DV X)):(bQ l).length=l.length:=by simp[pW]
theorem lD(l:U (DV X))(a b:Nat):bQ ((l.drop a).take b)=((bQ l).drop a).take b:=by simp[pW]
theorem O9{α:Type}{l:U α}{n:Int}{x:α}(h:ci l n=some x):0<=n/\l[n.toNat]? =some x:=by
 unfold ci at h
 all_goals grind
theorem alx(t:Bool)(x y:DV X):den (ank t x y)=NO t (den x) (den y):=by
 rw[Xz];have base:∀x y:DV X,den (bif t then x else y)=if t=true then den x else den y:=λx y=>by cases t<;>rfl
 unfold ank;split;split;rename_i h _;subst h;cases t<;>rfl;exact base _ _;exact base _ _
theorem El{agg:Bool}{size:Nat}{cs:U (DV X)}{v:DV X}(h:Jr agg size cs=some v):part' agg size (bQ cs)=some (den v):=by
 unfold Jr at h;unfold part';rw[mI];split at h;rename_i hl;rw[aM hl];cases agg with
 |true=>simp at h |-;subst h;rfl
 |false=>
  simp at h |-
  match cs,h with
  |[x],h=>
   simp only at h;split at h;rename_i hx;cases h;simp only[bQ];rw[aM (UL hx)];cases h
  |[],h|_::_::_,h=>cases h
 cases h
theorem RU{agg:Bool}{size ab:Nat}{c:CT X.ι}{y:CT.T X.toSE c}{v:DV X}(h:Jr agg size (((wJ c y).drop ab).take size)=some v):part' agg size ((((CT.row X.toSE c y).drop ab).take size).map AV.t)=some (den v):=by have:=El h;rw[lD,qL]at this;rw[<- this,map_take,map_drop]
theorem acr{agg:Bool}{size ab:Nat}{c:CT X.ι}{y:CT.T X.toSE c}{v:DV X}(h:Rd agg size c y ab=some v):part' agg size ((((CT.row X.toSE c y).drop ab).take size).map AV.t)=some (den v):=by
 cases c
 case st j=>
  simp[Rd]at h;split at h;rename_i hh;obtain⟨rfl,rfl,rfl⟩:=hh;cases h;have hl:(CT.row X.toSE (.st j) y).length=(X.d6 j).length:=Jq (.st j) y;rw[List.drop_zero,take_of_length_le (by omega)];unfold part';rw[aM (by simpa using hl)];rfl;exact RU h
 all_goals exact RU h
theorem aly{t:V}{x:DV X}(h:Th T t x get k=some r):∃cL rd dv aa,MC T t (den x) cL (eD rd (fT get))=some aa/\jD aa.obs/\aa.v=den dv/\aa.upd=[]/\k dv [] rd []=some r:=by unfold Th at h;unfold MC;rw[ah]at h;obtain⟨ti,h1,h⟩:=h;simp only[h1,ai];split at h;rename_i kk row ab;rw[ah]at h;obtain⟨o,h2,h⟩:=h;split at h;rw[ah]at h;obtain⟨rw',h3,h⟩:=h;rw[ah]at h;obtain⟨v,h4,h⟩:=h;refine⟨.none,[kk],v,⟨den v,[],[]⟩,?_,trivial,rfl,rfl,h⟩;have h5:=El h4;rw[lD]at h5;simp[den,fF (List.mem_singleton_self kk) h2,bS,h3,h5,pv];cases h;rename_i kk n ab;rw[ah]at h;obtain⟨o,h2,h⟩:=h;split at h;rename_i c l;rw[ah]at h;obtain⟨y,h3,h⟩:=h;rw[ah]at h;obtain⟨v,h4,h⟩:=h;have⟨_,h6⟩:=O9 h3;refine⟨.row ((CT.row X.toSE c y).map AV.t),[kk],v,⟨den v,[],[(aK (l.map (CT.row X.toSE c)))[n.toNat]? =some ((CT.row X.toSE c y).map AV.t)]⟩,?_,?_,rfl,rfl,h⟩;have h5:=acr h4;rw[map_take,map_drop]at h5;simp[den,fF (List.mem_singleton_self kk) h2,bS,h5,m4];simp[jD,aK,h6];cases h;rename_i c y ab;have⟨v,h4,h⟩:=ah.1 h;refine⟨.none,[],v,⟨den v,[],[]⟩,?_,trivial,rfl,rfl,h⟩;simp only[den,acr h4,ai,pv];cases h
theorem Yf(a:U (DV X))(ab:Nat)(cs:U (DV X)):bQ (Mz a ab cs)=put' (bQ a) ab (bQ cs):=by simp[Mz,put',pW]
theorem qh{a c:CT X.ι}{x:CT.T X.toSE a}{y:CT.T X.toSE c}(h:l6 a c x=some y):den (.c a x)=den (.c c y)/\CT.row X.toSE a x=CT.row X.toSE c y:=by
 obtain⟨e,h⟩:=tZ h
 grind
theorem Ss{c:CT X.ι}(hc:c.one=true)(x:CT.T X.toSE c):[(CT.tv X.toSE c x).av]=(CT.row X.toSE c x).map AV.t:=by obtain⟨t,h1,h2⟩:=row_one hc x;rw[h1,h2];rfl
theorem aqx{c:CT X.ι}(x:CT.T X.toSE c):wk (CT.tv X.toSE c x).av=(CT.tv X.toSE c x).av:=by cases c<;>rfl
theorem xJ{d:DV X}{c:CT X.ι}{x:CT.T X.toSE c}(h:Nb d c=some x):wk (den d)=(CT.tv X.toSE c x).av:=by unfold Nb at h;split at h;rw[(qh h).1];exact aqx x;cases h;rfl;cases h;rfl;cases h
theorem akF{d:DV X}{c:CT X.ι}{x:CT.T X.toSE c}(hc:c.one=true)(h:Nb d c=some x):xg d=true:=by
 cases d
 case c a y=>
  obtain⟨e,_⟩:=tZ (show l6 a c y=some x by cases c<;>exact h);subst e;cases a<;>first|rfl|simp[CT.one]at hc
 case nil=>rfl
 all_goals cases c<;>cases h
theorem Aa:∀{ds:U (DV X)}{l:U (CT X.ι)}{h:HL X.toSE l},FT ds l=some h->l.all CT.one=true->(bQ ds).map wk=(HL.row X.toSE l h).map AV.t/\ds.all xg=true
 |[],[],h,_,_=>⟨rfl,rfl⟩
 |d::ds,c::l,h,hr,ha=>by simp[FT]at hr;have⟨x,h1,hr⟩:=ah.1 hr;have⟨g,h2,hr⟩:=ah.1 hr;cases hr;simp only[all_cons,aY]at ha |-;have⟨i1,i2⟩:=Aa h2 ha.2;simp[bQ,HL.row,i1,xJ h1,i2,akF ha.1 h1];simp[<- Ss ha.1 x]
 |[],_::_,_,hr,_|_::_,[],_,hr,_=>by simp[FT]at hr
theorem Yg(j:X.ι)(h:HL X.toSE (X.d6 j)):CT.row X.toSE (.st j) (X.make j h)=HL.row X.toSE (X.d6 j) h:=X.ii j h
theorem aps{c:CT X.ι}(hc:c.one=true){ds:U (DV X)}{x:CT.T X.toSE c}(h:mk1 c ds=some x):(bQ ds).map wk=(CT.row X.toSE c x).map AV.t:=by
 match ds,h with
 |[d],h=>
  rw[<- Ss hc x];simp[bQ,xJ h]
 |[],h|_::_::_,h=>cases h
theorem zK{c:CT X.ι}{ds:U (DV X)}{x:CT.T X.toSE c}(h:O8 c ds=some x):(bQ ds).map wk=(CT.row X.toSE c x).map AV.t:=by
 cases c
 case st j=>
  simp[O8]at h;have⟨g,h1,h⟩:=ah.1 h;cases h;rw[(Aa h1 (X.flat j)).1,Yg]
 all_goals exact aps rfl h
theorem aiG{d:DV X}{c:CT X.ι}(hc:c.one=true){x:CT.T X.toSE c}(h:Nb d c=some x):∃cs,cellsOf (den d)=some cs/\cs.map wk=(CT.row X.toSE c x).map AV.t:=by
 have hk:=akF hc h;have hd:=xJ h;have he:cellsOf (den d)=some [den d]:=by
  have:=FR (x:=d) (cs:=[d]) (by
   cases d
   case c t y=>cases t<;>first|rfl|simp[xg]at hk
   all_goals first|rfl|simp[xg]at hk)
  simpa[bQ]using this
 exact⟨_,he,by rw[<- Ss hc x];simp[hd]⟩
theorem alz{d:DV X}{c:CT X.ι}{x:CT.T X.toSE c}(h:dat d c=some x):∃cs,cellsOf (den d)=some cs/\cs.map wk=(CT.row X.toSE c x).map AV.t:=by
 cases c
 case st j=>
  replace h:GE d j=some x:=h
  cases d
  case agg cs=>
   simp[GE]at h;rw[ah]at h;obtain⟨g,h1,h⟩:=h;cases h;have⟨i1,i2⟩:=Aa h1 (X.flat j);refine⟨bQ cs,?_,by rw[i1,Yg]⟩;simp only[den,cellsOf];rw[aM (akC i2)]
  case c a y=>
   rw[(qh h).1];refine⟨(CT.row X.toSE (.st j) x).map AV.t,?_,?_⟩;show cellsOf (.agg _)=_;simp only[cellsOf];rw[aM];rfl;rw[List.all_map,all_eq_true];exact λ_ _=>rfl;rw[map_map];rfl
  all_goals cases h
 all_goals exact aiG rfl h
theorem alA{t:V}{x y:DV X}(h:SZ T t x y get k=some r):∃cL kk u aa,Xt T t (den x) (den y) cL (eD [kk] (fT get))=some aa/\jD aa.obs/\aa.v=.undef/\aa.upd=jr [(kk,u)]/\k .undef [(kk,u)] [kk] [kk]=some r:=by
 unfold SZ at h;unfold Xt;rw[ah]at h;obtain⟨ti,h1,h⟩:=h;rw[ah]at h;obtain⟨cs,h2,h⟩:=h;simp[h1,FR h2];split at h;rename_i hl;have hdl:(bQ cs).length=ti.size:=by rw[mI];exact hl
 simp[hdl];split at h;rename_i kk row ab;rw[ah]at h;obtain⟨o,h3,h⟩:=h;split at h;rw[ah]at h;obtain⟨rw',h4,h⟩:=h;split at h;rename_i hle;refine⟨.none,kk,_,⟨.undef,_,[]⟩,?_,trivial,rfl,rfl,h⟩;simp only[den,fF (List.mem_singleton_self kk) h3,ai,bS,List.getElem?_map,h4,Option.map_some,mI];rw[aM (by rw[<- hl];exact hle)];simp[Yf];cases h;cases h;rename_i kk n ab;rw[ah]at h;obtain⟨o,h3,h⟩:=h;split at h;rename_i c l;rw[ah]at h;obtain⟨z,h4,h⟩:=h;split at h;rename_i hle;have⟨z',h5,h⟩:=ah.1 h;have⟨_,h6⟩:=O9 h4;refine⟨.set ((CT.row X.toSE c z).map AV.t) (aK ((l.set n.toNat z').map (CT.row X.toSE c))),kk,_,⟨.undef,_,[(aK (l.map (CT.row X.toSE c)))[n.toNat]? =some ((CT.row X.toSE c z).map AV.t)/\aK ((l.set n.toNat z').map (CT.row X.toSE c))=dZ ((aK (l.map (CT.row X.toSE c))).set n.toNat (put' ((CT.row X.toSE c z).map AV.t) ab (bQ cs)))]⟩,?_,?_,rfl,rfl,h⟩;simp only[den,fF (List.mem_singleton_self kk) h3,ai,bS];rw[aM (by rw[length_map,Jq,<- hl];exact hle)];simp[bS];refine⟨by simp[aK,h6],?_⟩;have h7:=zK h5;rw[Yf,qL]at h7;have hid:dZ (aK (l.map (CT.row X.toSE c)))=aK (l.map (CT.row X.toSE c)):=by simp[dZ,aK,wk]
 simp[dZ,h7];have:(aK (l.map (CT.row X.toSE c))).map (List.map wk)=aK (l.map (CT.row X.toSE c)):=hid;rw[this];simp[aK];cases h;cases h;cases h;cases h
theorem RX{t:V}{x:DV X}{f:Nat}(h:Nc T t x f k=some r):∃dv aa,zU T t (den x) f=some aa/\jD aa.obs/\aa.v=den dv/\aa.upd=[]/\k dv [] [] []=some r:=by unfold Nc at h;unfold zU;rw[ah]at h;obtain⟨⟨d,u⟩,h1,h⟩:=h;simp[h1];split at h;exact⟨_,_,rfl,trivial,rfl,rfl,h⟩;exact⟨_,_,rfl,trivial,rfl,rfl,h⟩;exact⟨_,_,rfl,trivial,rfl,rfl,h⟩;cases h
theorem adZ{t:V}{x:DV X}{f:Nat}(h:aiC T t x f k=some r):∃dv aa,Xu T t (den x) f=some aa/\jD aa.obs/\aa.v=den dv/\aa.upd=[]/\k dv [] [] []=some r:=by unfold aiC at h;unfold Xu;rw[ah]at h;obtain⟨⟨d,u⟩,h1,h⟩:=h;simp[h1];split at h;rw[ah]at h;obtain⟨v,h2,h⟩:=h;have h3:=El h2;rw[lD]at h3;exact⟨v,⟨den v,[],[]⟩,by simp[den,h3,pv],trivial,rfl,rfl,h⟩;rename_i j y;have⟨v,h2,h⟩:=ah.1 h;have h3:=RU h2;rw[map_take,map_drop]at h3;refine⟨v,⟨den v,[],[]⟩,?_,trivial,rfl,rfl,h⟩;show(part' u.agg u.size (List.take u.size (List.drop d ((CT.row X.toSE (.st j) y).map AV.t)))).bind pv=_;rw[h3];rfl;cases h
theorem eX{α:Type}{b:Bool}{x:J α}{r:α}(h:(bif b then x else none)=some r):b=true/\x=some r:=by grind
theorem Yh{n:Int}{len:Nat}(h:cR n len=true):0<=n/\n.toNat<len:=by simp[cR]at h;omega
theorem rq{A:Type}:∀{cs:U Bool}{k:J A}{r:A},Yb cs k=some r->(∀ c∈cs,c=true)/\k=some r
 |[],_,_,h=>⟨by simp,h⟩
 |c::cs,k,r,h=>by have⟨h1,h2⟩:=eX h;have⟨h3,h4⟩:=rq h2;exact⟨λ x hx=>(aG.1 hx).elim (λ e=>e ▸ h1) (h3 x),h4⟩
theorem RY{t:V}{x j:DV X}(h:Nf T t x j get k=some r):∃cL rd dv aa,nK T t (den x) (den j) cL (eD rd (fT get))=some aa/\jD aa.obs/\aa.v=den dv/\aa.upd=[]/\k dv [] rd []=some r:=by unfold Nf at h;unfold nK;rw[ah]at h;obtain⟨ti,h1,h⟩:=h;simp[h1];split at h;rename_i e kd n hk;rw[ah]at h;obtain⟨ei,h2,h⟩:=h;simp[hk,den,CT.tv,TV.av,h2];split at h;rename_i c l;split at h;rename_i hs;rw[ah]at h;obtain⟨y,h3,h⟩:=h;have⟨h4,h5⟩:=O9 h3;refine⟨.sq (CT.row X.toSE c y),[],_,⟨.eV (CT.row X.toSE c y) 0,[],[0<=n/\(l.map (CT.row X.toSE c))[n.toNat]? =some (CT.row X.toSE c y)]⟩,?_,?_,rfl,rfl,h⟩;simp only[den,CT.tv,TV.av];rw[aM (by rw[Jq];exact hs)];rfl;exact⟨h4,by simp[h5]⟩;cases h;rename_i kk ab len;rw[ah]at h;obtain⟨o,h3,h⟩:=h;split at h;rename_i c l;split at h;rename_i hs;have⟨h4,h⟩:=eX h;have⟨h5,h6⟩:=Yh h4;refine⟨.none,[kk],_,⟨.ptr kk (ab+n.toNat) 0,[],[0<=n/\n.toNat<len]⟩,?_,⟨h5,h6⟩,?_,rfl,h⟩;simp only[den,fF (List.mem_singleton_self kk) h3,ai,bS];rw[aM hs];rfl;simp[iN];congr 1;have:(0:Int)<=n:=h5;omega;cases h;rename_i sz rows;split at h;rename_i hs;have⟨h4,h⟩:=eX h;have⟨h5,h6⟩:=Yh h4;refine⟨.none,[kk],_,⟨.ptr kk (ab+n.toNat) 0,[],[0<=n/\n.toNat<len]⟩,?_,⟨h5,h6⟩,rfl,rfl,h⟩;simp only[den,fF (List.mem_singleton_self kk) h3,ai,bS];rw[aM hs];rfl;cases h;cases h;cases h;rename_i m e kd n hk;have⟨ei,h2,h⟩:=ah.1 h;simp[hk,den,CT.tv,TV.av,h2];have⟨h4,h⟩:=eX h;have⟨h5,h6⟩:=Yh h4;split at h;exact⟨.none,[],_,_,rfl,⟨h5,h6⟩,rfl,rfl,h⟩;exact⟨.none,[],_,_,rfl,⟨h5,h6⟩,rfl,rfl,h⟩;exact⟨.none,[],_,_,rfl,⟨h5,h6⟩,rfl,rfl,h⟩;cases h;cases h
theorem Yi{x:DV X}{j:Nat}(h:Yc x j k=some r):∃dv aa,Jf (den x) j=some aa/\jD aa.obs/\aa.v=den dv/\aa.upd=[]/\k dv [] [] []=some r:=by unfold Yc at h;split at h;have⟨v,h2,h⟩:=ah.1 h;refine⟨v,⟨den v,[],[]⟩,?_,trivial,rfl,rfl,h⟩;simp[Jf,den,pW,h2,pv];cases h
end
section
variable {X:SX} {A:Type} {T:eS} {an:TypeId->Option (CT X.ι)} {get:Nat->Option (cg X)} {k:KK X A} {r:A} {i:Nat}
theorem ad1{op:BinOp}{kd:IntKind}{a b:Int}:∃v obs,Xr op kd a b=some (v,obs)/\den (Js (X:=X) op kd a b).1=.t (.sc v)/\(∀ g,(Js (X:=X) op kd a b).2=some g->g=true->jD obs)/\((Js (X:=X) op kd a b).2=none->jD obs):=by
 cases op<;>refine⟨_,_,rfl,rfl,λg hg ht=>?_,λhn=>?_⟩<;>simp[Js]at* <;>try trivial
 all_goals subst hg;simp_all [jD]
theorem afM{n:Nat}{x y:DV X}{b:Bool}(h:adW n x y=some b):M9 n (den x) (den y)=some b:=by unfold adW at h;split at h;split at h;cases h;simp only[den,CT.tv,TV.av,M9];rw[aM ‹_›];cases h;exact h;exact h;cases h
theorem Pb:∀{ks:U Nat}{xs ys:U (DV X)}{b:Bool},Jt ks xs ys=some b->uP ks (bQ xs) (bQ ys)=some b
 |[],[],[],b,h=>h
 |k::ks,x::xs,y::ys,b,h=>by simp[Jt]at h;rw[ah]at h;obtain⟨p,h1,h⟩:=h;rw[ah]at h;obtain⟨q,h2,h⟩:=h;simp[bQ,uP,afM h1,Pb h2,h]
 |[],_::_,_,_,h|[],[],_::_,_,h|_::_,[],_,_,h|_::_,_::_,[],_,h=>by simp[Jt]at h
theorem afN{x:DV X}{xs:U (DV X)}(h:Pu x=some xs):den x=.agg (bQ xs):=by unfold Pu at h;split at h;cases h;rfl;cases h;rw[qL];rfl;cases h
theorem aiH{op:BinOp}{t:V}{x y:DV X}(h:aqS T op t x y k=some r):∃dv aa,ye T op t (den x) (den y)=some aa/\jD aa.obs/\aa.v=den dv/\aa.upd=[]/\k dv [] [] []=some r:=by
 unfold aqS at h;split at h;rename_i kd a yk b;split at h;rename_i hk;have⟨v,obs,h1,h2,h3,h4⟩:=ad1 (X:=X) (op:=op) (kd:=kd) (a:=a) (b:=b);have fin:jD obs->k (Js op kd a b).1 [] [] []=some r->∃dv aa,ye T op t (den (.c (.int kd) a:DV X)) (den (.c (.int yk) b:DV X))=some aa/\jD aa.obs/\aa.v=den dv/\aa.upd=[]/\k dv [] [] []=some r:=by intro ho hkk;refine⟨_,⟨.t (.sc v),[],obs⟩,?_,ho,h2.symm,rfl,hkk⟩;simp only[den,CT.tv,TV.av,ye];rw[aM hk,h1];rfl
 split at h;rename_i hn;exact fin (h4 hn) h;rename_i g hg;have⟨hgt,h⟩:=eX h;exact fin (h3 g hg hgt) h;cases h;split at h;exact⟨_,_,rfl,trivial,rfl,rfl,h⟩;exact⟨_,_,rfl,trivial,rfl,rfl,h⟩;exact⟨_,_,rfl,trivial,rfl,rfl,h⟩;exact⟨_,_,rfl,trivial,rfl,rfl,h⟩;have⟨hc,h⟩:=eX h;exact⟨_,_,rfl,show _<=maxLen from of_decide_eq_true hc,rfl,rfl,h⟩;cases h;rw[ah]at h;obtain⟨ti,h1,h⟩:=h;split at h;rename_i hk;refine⟨_,⟨.t (.sc (.bool _)),[],[]⟩,?_,trivial,rfl,rfl,h⟩;simp[ye,h1,hk];rfl;rename_i hk;refine⟨_,⟨.t (.sc (.bool _)),[],[]⟩,?_,trivial,rfl,rfl,h⟩;simp[ye,h1,hk];rfl;cases h;rw[ah]at h;obtain⟨xs,h1,h⟩:=h;rw[ah]at h;obtain⟨ys,h2,h⟩:=h;rw[ah]at h;obtain⟨ti,h3,h⟩:=h;split at h;cases h;rename_i hc;have⟨b,h4,h⟩:=ah.1 h;have h5:=Pb h4;rw[afN h1,afN h2];split at h;refine⟨_,⟨.t (.sc (.bool b)),[],[]⟩,?_,trivial,rfl,rfl,h⟩;simp only[ye,h3,ai];rw[aC hc,h5];rfl;refine⟨_,⟨.t (.sc (.bool (!b))),[],[]⟩,?_,trivial,rfl,rfl,h⟩;simp only[ye,h3,ai];rw[aC hc,h5];rfl;cases h
theorem alB{op:UnOp}{x:DV X}(h:SO op x k=some r):∃dv aa,Sx op (den x)=some aa/\jD aa.obs/\aa.v=den dv/\aa.upd=[]/\k dv [] [] []=some r:=by unfold SO at h;split at h;exact⟨_,_,rfl,trivial,rfl,rfl,h⟩;exact⟨_,_,rfl,trivial,rfl,rfl,h⟩;cases h
theorem UM(mx:Bool)(kd:IntKind):∀(l:U (DV X))(a n:Int),Lb mx kd a l=some n->FJ mx kd a (bQ l)=some n
 |[],a,n,h=>h
 |x::l,a,n,h=>by
  cases x
  case c t y=>
   cases t
   case int k'=>
    simp only[Lb]at h;simp only[bQ,den,CT.tv,TV.av,FJ];split at h;rename_i hk;rw[aM hk];exact UM mx kd l _ _ h;cases h
   all_goals simp[Lb]at h
  all_goals simp[Lb]at h
theorem acs{mx:Bool}{args:U (DV X)}(h:N6 mx args k=some r):∃dv aa,HR mx (bQ args)=some aa/\jD aa.obs/\aa.v=den dv/\aa.upd=[]/\k dv [] [] []=some r:=by unfold N6 at h;split at h;rename_i kd a l;rw[ah]at h;obtain⟨n,h1,h⟩:=h;refine⟨_,⟨.t (.sc (.int kd n)),[],[]⟩,?_,trivial,rfl,rfl,h⟩;simp[bQ,den,CT.tv,TV.av,HR];have:=UM mx kd l a n h1;simp[this];rfl;cases h
theorem aiI{t:V}{x:DV X}(h:Z3 T t x k=some r):∃cL dv aa,BY T t (den x) cL=some aa/\jD aa.obs/\aa.v=den dv/\aa.upd=[]/\k dv [] [] []=some r:=by unfold Z3 at h;unfold BY;rw[ah]at h;obtain⟨ti,h1,h⟩:=h;simp[h1];split at h;rename_i e c l hk;simp[hk];exact⟨.num (l.length:Int),_,⟨.t (.sc (.int .i64 (l.length:Int))),[],[(l.length:Int)=((l.map (CT.row X.toSE c)).length:Int)]⟩,rfl,by simp[jD],rfl,rfl,h⟩;rename_i hk;simp[hk];exact⟨.none,_,_,rfl,trivial,rfl,rfl,h⟩;rename_i hk;simp[hk];exact⟨.none,_,_,rfl,trivial,rfl,rfl,h⟩;rename_i hk;simp[hk];exact⟨.none,_,_,rfl,trivial,rfl,rfl,h⟩;rename_i hk;simp[hk];exact⟨.none,_,_,rfl,trivial,rfl,rfl,h⟩;cases h
theorem RZ(place:Nat->J (Nat×Nat)):∀(parts:U (Nat×DV X))(cells aa:U (DV X)),HJ place cells parts=some aa->G6 place (bQ cells) (parts.map λp=>(p.1,den p.2))=some (bQ aa)
 |[],cells,aa,h=>by simp[HJ]at h;subst h;rfl
 |(j,x)::ag,cells,aa,h=>by simp[HJ]at h;rw[ah]at h;obtain⟨⟨ab,size⟩,h1,h⟩:=h;rw[ah]at h;obtain⟨cs,h2,h⟩:=h;split at h;rename_i hl;simp only[bK,G6,h1,FR h2,ai,mI];rw[aM hl,<- Yf];exact RZ place ag _ _ h;cases h
theorem ad2{t:V}{parts:U (Nat×DV X)}(h:aiD T t parts k=some r):∃dv aa,Xv T t (parts.map λp=>(p.1,den p.2))=some aa/\jD aa.obs/\aa.v=den dv/\aa.upd=[]/\k dv [] [] []=some r:=by unfold aiD at h;unfold Xv;rw[ah]at h;obtain⟨ti,h1,h⟩:=h;simp[h1];split at h;rename_i fs hk;split at h;rename_i ha;rw[ah]at h;obtain⟨cells,h2,h⟩:=h;have h3:=RZ _ _ _ _ h2;rw[Ej]at h3;refine⟨_,⟨.agg (bQ cells),[],[]⟩,?_,trivial,rfl,rfl,h⟩;simp only[hk];rw[aM ha,h3];rfl;cases h;rename_i m e hk;rw[ah]at h;obtain⟨ei,h2,h⟩:=h;rw[ah]at h;obtain⟨cells,h3,h⟩:=h;have h4:=RZ _ _ _ _ h3;rw[Ej]at h4;refine⟨_,⟨.agg (bQ cells),[],[]⟩,?_,trivial,rfl,rfl,h⟩;simp[hk,h2,h4];rfl;cases h
theorem acu(size:Nat)(c:CT X.ι)(hs:CT.sz X c=size)(z:U AV):∀(parts:U (Nat×DV X))(n:Nat)(l:U (CT.T X.toSE c))(done:U (List AV)),My c n parts=some l->done.length=n->
 ∃css:U (List AV),OH size (done++List.replicate parts.length z) (parts.map λp=>(p.1,den p.2))=some (done++css)/\css.map (λ r=>r.map wk)=aK (l.map (CT.row X.toSE c))
 |[],n,l,done,h,_=>by simp[My]at h;subst h;exact⟨[],by simp[OH],rfl⟩
 |(j,x)::ag,n,l,done,h,hd=>by
  simp only[My]at h;split at h;rename_i hj;subst hj;have⟨y,h1,h⟩:=ah.1 h;have⟨l',h2,h⟩:=ah.1 h;cases h;have⟨cs,g1,g2⟩:=alz h1;have hl:cs.length=size:=by have:=congrArg List.length g2;simp[Jq]at this;omega
  obtain⟨css,i1,i2⟩:=acu size c hs z ag (j+1) l' (done++[cs]) h2 (by simp[hd]);refine⟨cs::css,?_,?_⟩;simp only[bK,OH,g1,ai];rw[aM ⟨hl,by simp;omega⟩];have:(done++List.replicate (ag.length+1) z).set j cs=done++[cs]++List.replicate ag.length z:=by rw[List.set_append_right _ _ (by omega),hd];simp[List.replicate_succ]
  simp only[eu,this,i1];simp;simp[i2,g2,aK];cases h
theorem Pd{t:V}{len:Nat}{parts:U (Nat×DV X)}(h:Ju T an i t len parts k=some r):∃dv u aa,xH T i t len (parts.map λp=>(p.1,den p.2))=some aa/\jD aa.obs/\aa.v=den dv/\aa.upd=jr [(cE i,u)]/\k dv [(cE i,u)] [] []=some r:=by unfold Ju at h;unfold xH;rw[ah]at h;obtain⟨ti,h1,h⟩:=h;simp[h1];split at h;rename_i e hk;rw[ah]at h;obtain⟨ei,h2,h⟩:=h;rw[ah]at h;obtain⟨c,h3,h⟩:=h;simp only[hk,h2,ai];split at h;cases h;rename_i hno;simp only[not_or,Decidable.not_not]at hno;obtain⟨n1,n2,n3,n4⟩:=hno;have⟨l,h4,h⟩:=ah.1 h;have⟨css,g1,g2⟩:=acu ei.size c n3 (ei.zero.map cv) parts 0 l [] h4 rfl;simp[n4]at g1;refine⟨_,_,⟨.own (cE i) 0 len,[(cE i,some ⟨ei.size,dZ css⟩)],[]⟩,?_,trivial,rfl,?_,h⟩;rw[aC (by simp only[not_or];exact⟨n1,n2⟩),g1];rfl;simp[jr,bS,n3];rw[show dZ css=aK (l.map (CT.row X.toSE c))from g2];cases h
theorem ad3{e:V}(h:aiE T i e k=some r):∃dv u aa,Xw T i e=some aa/\jD aa.obs/\aa.v=den dv/\aa.upd=jr [(cE i,u)]/\k dv [(cE i,u)] [] []=some r:=by unfold aiE at h;unfold Xw;have⟨ti,h1,h⟩:=ah.1 h;exact⟨_,_,⟨_,[(cE i,some ⟨ti.size,[ti.zero.map cv]⟩)],[]⟩,by simp[h1];rfl,trivial,rfl,by simp[jr,bS,Ej],h⟩
theorem aiJ{x:DV X}(h:Z2 i x k=some r):∃dv u aa,M1 i (den x)=some aa/\jD aa.obs/\aa.v=den dv/\aa.upd=jr [(cE i,u)]/\k dv [(cE i,u)] [] []=some r:=by unfold Z2 at h;unfold M1;rw[ah]at h;obtain⟨cs,h1,h⟩:=h;exact⟨_,_,⟨_,[(cE i,some ⟨(bQ cs).length,[bQ cs]⟩)],[]⟩,by simp[FR h1];rfl,trivial,rfl,by simp[jr,bS,mI],h⟩
theorem Em{d n:Int}{x:J (DV X)}(h:B4 d x=some n):bnd d (x.map den)=some n:=by unfold B4 at h;split at h;exact h;exact h;cases h
theorem acv{l h:Int}{len:Nat}(hh:z8 l h len=true):0<=l/\l<=h/\h<=(len:Int):=by simpa[z8,and_assoc]using hh
theorem ad4{t:V}{x:DV X}{lo hi:J (DV X)}(h:aiF T t x lo hi get k=some r):∃cL rd dv aa,Xx T t (den x) (lo.map den) (hi.map den) cL (eD rd (fT get))=some aa/\jD aa.obs/\aa.v=den dv/\aa.upd=[]/\k dv [] rd []=some r:=by
 unfold aiF at h;unfold Xx;rw[ah]at h;obtain⟨ti,h1,h⟩:=h;simp[h1];split at h;rename_i e hk;rw[ah]at h;obtain⟨ei,h2,h⟩:=h;simp[hk,h2];split at h;rename_i kk ab len;rw[ah]at h;obtain⟨o,h3,h⟩:=h;split at h;rename_i hs;rw[ah]at h;obtain⟨l,h4,h⟩:=h;rw[ah]at h;obtain⟨hh,h5,h⟩:=h;have⟨h6,h⟩:=eX h;refine⟨.none,[kk],_,⟨.own kk (ab+l.toNat) (hh.toNat-l.toNat),[],[0<=l/\l<=hh/\hh<=(len:Int)]⟩,?_,acv h6,rfl,rfl,h⟩;simp only[den,fF (List.mem_singleton_self kk) h3,ai];rw[aM hs,Em h4,ai,Em h5];rfl;cases h;rename_i c xs;split at h;rename_i hs;have⟨l,h4,h⟩:=ah.1 h;have⟨hh,h5,h⟩:=ah.1 h;have⟨h6,h⟩:=eX h;refine⟨.Cd ((sub xs l.toNat (hh.toNat-l.toNat)).map (CT.row X.toSE c)),[],_,⟨.t (.sl ((sub xs l.toNat (hh.toNat-l.toNat)).map (CT.row X.toSE c))),[],[0<=l/\l<=hh/\hh<=((xs.map (CT.row X.toSE c)).length:Int)/\(sub xs l.toNat (hh.toNat-l.toNat)).map (CT.row X.toSE c)=((xs.map (CT.row X.toSE c)).drop l.toNat).take (hh.toNat-l.toNat)/\(∀ q∈xs.map (CT.row X.toSE c),q.length=ei.size)]⟩,?_,?_,rfl,rfl,h⟩;simp only[den,CT.tv,TV.av,Em h4,ai];have h7:bnd ((xs.map (CT.row X.toSE c)).length:Int) (hi.map den)=some hh:=by have:=Em h5;simpa using this
 rw[h7];rfl;have⟨a1,a2,a3⟩:=acv h6;refine⟨a1,a2,by simpa using a3,by simp[sub],λq hq=>?_⟩;obtain⟨y,_,rfl⟩:=mem_map.1 hq;rw[Jq];exact hs;cases h;cases h;cases h
end
section
variable {X:SX} {A:Type} {T:eS} {an:TypeId->Option (CT X.ι)} {get:Nat->Option (cg X)} {k:KK X A} {r:A} {i:Nat}
theorem jN{b c:CT X.ι}{l:U (CT.T X.toSE b)}{l':U (CT.T X.toSE c)}(h:l6 (.sl b) (.sl c) l=some l'):CT.sz X b=CT.sz X c/\l.map (CT.row X.toSE b)=l'.map (CT.row X.toSE c):=by
 obtain⟨e,h⟩:=tZ h
 grind
theorem afO{y:DV X}{c:CT X.ι}{n:Nat}{l:U (CT.T X.toSE c)}{rd:U Nat}(h:Z1 y c get=some (n,l,rd))(hl:l.length=n)(rd':U Nat)(hrd:∀j∈rd,j∈rd'):
 ∃ob,Xy (CT.sz X c) (den y) (eD rd' (fT get))=some (n,ob,aK (l.map (CT.row X.toSE c)))/\ob:=by unfold Z1 at h;split at h;rename_i kk ab len;rw[ah]at h;obtain⟨o,h1,h⟩:=h;split at h;rw[ah]at h;obtain⟨l1,h2,h⟩:=h;injection h with h;obtain⟨rfl,rfl,rfl⟩:=h;have⟨h3,h4⟩:=jN h2;refine⟨True,?_,trivial⟩;simp only[den,Xy,fF (hrd kk (by simp)) h1,ai,bS];rw[aM h3];simp[h4];simp[aK,sub];cases h;rename_i b l0;have⟨l1,h2,h⟩:=ah.1 h;injection h with h;simp at h;obtain⟨rfl,rfl,rfl⟩:=h;refine⟨∀ q∈l1.map (CT.row X.toSE c),q.length=CT.sz X c,?_,?_⟩;rw[(qh h2).1];simp[den,CT.tv,TV.av,Xy];intro q hq;obtain⟨z,_,rfl⟩:=mem_map.1 hq;exact Jq c z;cases h
theorem Yj{lo len ln n bytes:Nat}(h:bP lo len ln n bytes=true):lo=len/\ln=n/\(len+n)*bytes<=140737488355328/\len+n<=maxLen:=by simpa[bP,and_assoc]using h
theorem pr{α:Type}(n:Nat)(l:U α):Yd n l=l.drop n:=by cases n<;>rfl
theorem abd{t:V}{x y:DV X}(h:adX T an i t x y get k=some r):∃cL rd wr dv upd aa,BG T i t (den x) (den y) cL (eD rd (fT get))=some aa/\jD aa.obs/\aa.v=den dv/\aa.upd=jr upd/\(∀ p∈upd,p.1=cE i\/p.1∈wr)/\k dv upd rd wr=some r:=by
 unfold adX at h;unfold BG;rw[ah]at h;obtain⟨ti,h1,h⟩:=h;simp only[h1,ai];split at h;rename_i e hk;rw[ah]at h;obtain⟨ei,h2,h⟩:=h;rw[ah]at h;obtain⟨c,h3,h⟩:=h;simp only[hk,h2,ai];split at h;rename_i hs;rw[ah]at h;obtain⟨⟨n,l,rd⟩,h4,h⟩:=h;split at h;rename_i kk ab len;have⟨o,h5,h⟩:=ah.1 h;split at h;have⟨l1,h6,h⟩:=ah.1 h;have⟨h7,h⟩:=eX h;rw[pr]at h7 h;have hd:(aK (l1.map (CT.row X.toSE c))).drop ab=aK ((l1.drop ab).map (CT.row X.toSE c)):=by simp[aK]
 have⟨g1,g2,g3,g4⟩:=Yj h7;have⟨h8,h9⟩:=jN h6;obtain⟨ob,i1,i2⟩:=afO h4 g2 (kk::rd) (λ j hj=>by simp[hj]);have i3:=fF (rd:=kk::rd) (by simp) h5
 refine⟨.rows (aK ((l1.drop ab++l).map (CT.row X.toSE c))),kk::rd,[kk],_,_,⟨.own (cE i) 0 (aK ((l1.drop ab++l).map (CT.row X.toSE c))).length,[(cE i,some ⟨ei.size,aK ((l1.drop ab++l).map (CT.row X.toSE c))⟩),(kk,none)],
  [ob/\(aK ((l1.drop ab).map (CT.row X.toSE c))).length=len/\(aK (l.map (CT.row X.toSE c))).length=n/\aK ((l1.drop ab++l).map (CT.row X.toSE c))=aK ((l1.drop ab).map (CT.row X.toSE c))++aK (l.map (CT.row X.toSE c))/\(len+n)*ei.bytes<=140737488355328/\len+n<=maxLen]⟩,?_,?_,?_,?_,?_,h⟩
 rw[hs]at i1;simp only[i1,ai,den,i3,bS,h9,hd];rw[aM (by rw[h8,hs])];exact⟨i2,by simpa[aK]using g1,by simpa[aK]using g2,by simp[aK],g3,g4⟩;simp[den,aK];simp[jr,bS,hs];intro p hp;simp at hp;rcases hp with rfl|rfl;exact .inl rfl;exact .inr (by simp);cases h;have⟨h7,h⟩:=eX h;have⟨g1,g2,g3,g4⟩:=Yj h7;obtain⟨ob,i1,i2⟩:=afO h4 g2 rd (λ j hj=>hj)
 refine⟨.rows (aK (l.map (CT.row X.toSE c))),rd,[],_,_,⟨.own (cE i) 0 (aK (l.map (CT.row X.toSE c))).length,[(cE i,some ⟨ei.size,aK (l.map (CT.row X.toSE c))⟩)],
  [ob/\(aK (l.map (CT.row X.toSE c))).length=n/\aK (l.map (CT.row X.toSE c))=aK (l.map (CT.row X.toSE c))/\n*ei.bytes<=140737488355328/\n<=maxLen]⟩,?_,?_,?_,?_,?_,h⟩
 rw[hs]at i1;simp[i1,den];exact⟨i2,by simpa[aK]using g2,rfl,by simpa using g3,by simpa using g4⟩;simp[den,aK];simp[jr,bS,hs];intro p hp;simp at hp;rcases hp with rfl;exact .inl rfl;cases h;cases h;cases h
def arK(T:eS)(i:Nat)(o:Oper)(ρ:Operand->DV X)(get:Nat->J (cg X))(k:KK X A)(r:A):Prop:=
 ∃cL rd wr dv upd aa,rW T i o cL (λ x=>den (ρ x)) (eD rd (fT get))=some aa/\jD aa.obs/\aa.v=den dv/\aa.upd=jr upd/\(∀ p∈upd,p.1=cE i\/p.1∈wr)/\k dv upd rd wr=some r
theorem Yk{b:Builtin}{args:U (DV X)}{d6:U TypeId}(h:Ye T an i b args d6 get k=some r):∃cL rd wr dv upd aa,Eh T i b (bQ args) d6 cL (eD rd (fT get))=some aa/\jD aa.obs/\aa.v=den dv/\aa.upd=jr upd/\(∀ p∈upd,p.1=cE i\/p.1∈wr)/\k dv upd rd wr=some r:=by unfold Ye at h;unfold Eh;split at h;have⟨cL,dv,aa,h1,h2,h3,h4,h5⟩:=aiI h;exact⟨cL,[],[],dv,[],aa,h1,h2,h3,h4,by simp,h5⟩;have⟨dv,aa,h1,h2,h3,h4,h5⟩:=acs h;exact⟨.none,[],[],dv,[],aa,h1,h2,h3,h4,by simp,h5⟩;have⟨dv,aa,h1,h2,h3,h4,h5⟩:=acs h;exact⟨.none,[],[],dv,[],aa,h1,h2,h3,h4,by simp,h5⟩;split at h;rename_i htu;have⟨cL,rd,wr,dv,upd,aa,h1,h2⟩:=abd h;refine⟨cL,rd,wr,dv,upd,aa,?_,h2⟩;simp only[bQ];rw[aM htu];exact h1;cases h;cases h
theorem WY(ρ:Operand->DV X)(l:U Operand):l.map (λ x=>den (ρ x))=bQ (l.map ρ):=by rw[pW,map_map];rfl
theorem acw{o:Oper}{ρ:Operand->DV X}(h:N5 T an i o.op ρ get k=some r):arK T i o ρ get k r:=by
 obtain⟨dst,op,ty,aq,after,guard⟩:=o;unfold arK rW;simp at h;unfold N5 at h;split at h;exact⟨.none,[],[],_,[],_,rfl,trivial,rfl,rfl,by simp,h⟩;exact⟨.none,[],[],_,[],_,rfl,trivial,rfl,rfl,by simp,h⟩;rename_i c a b;split at h;rename_i t hc;refine⟨.none,[],[],_,[],⟨NO t (den (ρ a)) (den (ρ b)),[],[]⟩,?_,trivial,(alx t _ _).symm,rfl,by simp,h⟩;simp[hc,den,CT.tv,TV.av,pv];cases h;have⟨dv,u,aa,h1,h2,h3,h4,h5⟩:=ad3 h;exact⟨.none,[],[],dv,_,aa,h1,h2,h3,h4,by simp,h5⟩;have⟨dv,u,aa,h1,h2,h3,h4,h5⟩:=aiJ h;exact⟨.none,[],[],dv,_,aa,h1,h2,h3,h4,by simp,h5⟩;rename_i t parts;have⟨dv,aa,h1,h2,h3,h4,h5⟩:=ad2 h;refine⟨.none,[],[],dv,[],aa,?_,h2,h3,h4,by simp,h5⟩;rw[map_map]at h1;exact h1;rename_i t len parts;have⟨dv,u,aa,h1,h2,h3,h4,h5⟩:=Pd h;refine⟨.none,[],[],dv,_,aa,?_,h2,h3,h4,by simp,h5⟩;rw[map_map]at h1;exact h1;have⟨cL,rd,dv,aa,h1,h2,h3,h4,h5⟩:=aly h;exact⟨cL,rd,[],dv,[],aa,h1,h2,h3,h4,by simp,h5⟩;have⟨cL,kk,u,aa,h1,h2,h3,h4,h5⟩:=alA h;exact⟨cL,[kk],[kk],.undef,_,aa,h1,h2,h3,h4,by simp,h5⟩;have⟨dv,aa,h1,h2,h3,h4,h5⟩:=aiH h;exact⟨.none,[],[],dv,[],aa,h1,h2,h3,h4,by simp,h5⟩;have⟨dv,aa,h1,h2,h3,h4,h5⟩:=alB h;exact⟨.none,[],[],dv,[],aa,h1,h2,h3,h4,by simp,h5⟩;rename_i f first caps
 refine⟨.none,[],[],_,[],⟨.fn f (first.toList.map λx=>den (ρ x)) (caps.toList.map λx=>den (ρ x)),[],[]⟩,rfl,trivial,?_,rfl,by simp,h⟩;simp[den,WY];rename_i t x lo hi;have⟨cL,rd,dv,aa,h1,h2,h3,h4,h5⟩:=ad4 h;refine⟨cL,rd,[],dv,[],aa,?_,h2,h3,h4,by simp,h5⟩;simp at h1;exact h1;have⟨dv,aa,h1,h2,h3,h4,h5⟩:=RX h;exact⟨.none,[],[],dv,[],aa,h1,h2,h3,h4,by simp,h5⟩;have⟨dv,aa,h1,h2,h3,h4,h5⟩:=adZ h;exact⟨.none,[],[],dv,[],aa,h1,h2,h3,h4,by simp,h5⟩;have⟨cL,rd,dv,aa,h1,h2,h3,h4,h5⟩:=RY h;exact⟨cL,rd,[],dv,[],aa,h1,h2,h3,h4,by simp,h5⟩;have⟨dv,aa,h1,h2,h3,h4,h5⟩:=Yi h;exact⟨.none,[],[],dv,[],aa,h1,h2,h3,h4,by simp,h5⟩;rename_i b args d6;have⟨cL,rd,wr,dv,upd,aa,h1,h2⟩:=Yk h;refine⟨cL,rd,wr,dv,upd,aa,?_,h2⟩;simp[WY];exact h1;cases h
end
inductive Pt(ι:Type) where
 |v (c:CT ι)
 |o (k:Nat)
 |p (k:Nat)
 |nil
 |f (F:FuncId) (fs cs:List (Pt ι))
 |od (k:Nat)
 |mp (k:Nat)
 |oz (k:Nat)
 |a (ps:List (Pt ι))
inductive OP(ι:Type) where
 |l (c:CT ι)
 |m (k v:CT ι)
 |c (sz:Nat) (rows:List (List (Pt ι)))
section
variable {ι:Type}
mutual
def Pt.vars:Pt ι->List (CT ι)
 |.v c=>[c]
 |.a ps=>c7 ps
 |.f _ fs cs=>c7 fs++c7 cs
 |.od _=>[.int .i64]
 |_=>[]
def c7:List (Pt ι)->List (CT ι)
 |[]=>[]
 |p::ps=>p.vars++c7 ps
end
def i9:U (Nat×Pt ι)->U (CT ι)
 |[]=>[]
 |p::ps=>p.2.vars++i9 ps
def xK:U (List (Pt ι))->U (CT ι)
 |[]=>[]
 |r::rs=>c7 r++xK rs
def dE:U (Nat×OP ι)->U (CT ι)
 |[]=>[]
 |(_,.l c)::r=>.sl c::dE r
 |(_,.m k v)::r=>.mp k v::dE r
 |(_,.c _ rows)::r=>xK rows++dE r
end
section
variable {X:SX}
structure DC(X:SX) where
 c:CT X.ι
 x:CT.T X.toSE c
@[reducible] def VT:U (CT X.ι)->Type
 |[]=>Unit
 |[c]=>CT.T X.toSE c
 |c::c'::l=>CT.T X.toSE c×VT (c'::l)
def GC:(l:U (CT X.ι))->U (DC X)->J (VT (X:=X) l)
 |[],[]=>some ()
 |[c],[d]=>l6 d.c c d.x
 |c::c'::l,d::ds=>(l6 d.c c d.x).bind λx=>(GC (c'::l) ds).bind λv=>some (x,v)
 |_,_=>none
def xL:(l:U (CT X.ι))->VT (X:=X) l->U (DC X)
 |[],_=>[]
 |[c],x=>[⟨c,x⟩]
 |c::c'::l,v=>⟨c,v.1⟩::xL (c'::l) v.2
theorem afP{d:DC X}{c:CT X.ι}{x:CT.T X.toSE c}(h:l6 d.c c d.x=some x):(⟨c,x⟩:DC X)=d:=by obtain⟨a,y⟩:=d;have⟨e,h⟩:=tZ h;simp at e;subst e;subst h;rfl
theorem Yl:∀{l:U (CT X.ι)}{ds:U (DC X)}{v:VT (X:=X) l},GC l ds=some v->xL l v=ds
 |[],[],_,_=>rfl
 |[c],[d],v,h=>by simp[GC]at h;simp[xL,afP h]
 |c::c'::l,d::ds,v,h=>by simp[GC]at h;rw[ah]at h;obtain⟨x,h1,h⟩:=h;rw[ah]at h;obtain⟨v',h2,h⟩:=h;cases h;simp[xL,afP h1,Yl h2]
 |[],_::_,_,h|[_],[],_,h|[_],_::_::_,_,h|_::_::_,[],_,h=>by simp[GC]at h
theorem Ym{c:CT X.ι}(x:CT.T X.toSE c):l6 c c x=some x:=by unfold l6;split;rfl;rename_i h _;exact absurd rfl h
def HI(d:DC X):Nat:=match l6 d.c (.int .i64) d.x with|some x=>Int.toNat x|none=>0
section
variable (eh:Nat->Nat)
mutual
def eP:Pt X.ι->List (DC X)->DV X×List (DC X)
 |.v _,L=>match L with
  |d::r=>(.c d.c d.x,r)
  |[]=>(.undef,[])
 |.o k,L=>(.own k 0 (eh k),L)
 |.p k,L=>(.ptr k 0 0,L)
 |.mp k,L=>(.mp k,L)
 |.oz k,L=>(.oz k (eh k),L)
 |.nil,L=>(.nil,L)
 |.f F fs cs,L=>(.fn F (lP fs L).1 (lP cs (lP fs L).2).1,(lP cs (lP fs L).2).2)
 |.od k,L=>match L with
  |d::r=>(.own k (HI d) (eh k-HI d),r)
  |[]=>(.undef,[])
 |.a ps,L=>(.agg (lP ps L).1,(lP ps L).2)
def lP:List (Pt X.ι)->List (DC X)->List (DV X)×List (DC X)
 |[],L=>([],L)
 |p::ps,L=>((eP p L).1::(lP ps (eP p L).2).1,(lP ps (eP p L).2).2)
end
def Ng:U (Nat×Pt X.ι)->U (DC X)->U (Nat×DV X)
 |[],_=>[]
 |(t,p)::r,L=>(t,(eP eh p L).1)::Ng r (eP eh p L).2
def xM:U (List (Pt X.ι))->U (DC X)->U (List (DV X))×List (DC X)
 |[],L=>([],L)
 |r::rs,L=>((lP eh r L).1::(xM rs (lP eh r L).2).1,(xM rs (lP eh r L).2).2)
def dL:U (Nat×OP X.ι)->U (DC X)->U (Nat×Option (cg X))
 |[],_=>[]
 |(k,.l _)::r,L=>match L with
  |⟨.sl c',x⟩::L=>(k,some (.ey c' x))::dL r L
  |_=>[]
 |(k,.m _ _)::r,L=>match L with
  |⟨.mp kc vc,x⟩::L=>(k,some (.map kc vc x))::dL r L
  |_=>[]
 |(k,.c sz rows)::r,L=>(k,some (.cells sz (xM eh rows L).1))::dL r (xM eh rows L).2
end
def lens:U (Nat×OP X.ι)->U (DC X)->U (Nat×Nat)
 |[],_=>[]
 |(k,.l _)::r,L=>match L with
  |⟨.sl _,x⟩::L=>(k,List.length x)::lens r L
  |_=>[]
 |(_,.m _ _)::r,L=>lens r (L.drop 1)
 |(_,.c _ rows)::r,L=>lens r (L.drop (xK rows).length)
def lR:Nat->U (Pt X.ι)->U (Nat×Pt X.ι)
 |_,[]=>[]
 |n,p::ps=>(n,p)::lR (n+1) ps
theorem R3:∀(n:Nat)(ps:U (Pt X.ι)),i9 (lR n ps)=c7 ps
 |_,[]=>rfl
 |n,p::ps=>by simp[lR,i9,c7,R3 (n+1) ps]
structure dg(X:SX) where
 pS:List (Pt X.ι)
 j7:List (Nat×OP X.ι)
 gA:List (Pt X.ι)
 j0:List (Nat×OP X.ι)
 fn:VT (X:=X) (c7 pS++dE j7)->Option (VT (X:=X) (i9 (lR 0 gA)++dE j0))
def FU(O:U (Nat×OP X.ι))(L:U (DC X))(k:Nat):Nat:=(lk (lens O L) k).getD 0
def Yn(ps:U (Pt X.ι))(O:U (Nat×OP X.ι))(L:U (DC X)):U (DV X):=(lP (FU O (L.drop (c7 ps).length)) ps (L.take (c7 ps).length)).1
def NX(ps:U (Pt X.ι))(O:U (Nat×OP X.ι))(L:U (DC X)):U (Nat×Option (cg X)):=dL (FU O (L.drop (c7 ps).length)) O (L.drop (c7 ps).length)
def Ab:U (DV X)->DV X
 |[d]=>d
 |ds=>.fR ds
def dW:U (Nat×Option (cg X))->U (Nat×cg X)
 |[]=>[]
 |(k,some o)::r=>(k,o)::dW r
 |(_,none)::r=>dW r
def uS(l:U (Nat×cg X)):U (Nat×aR):=l.map λp=>(p.1,bS p.2)
def dg.args(g:dg X)(v:VT (X:=X) (c7 g.pS++dE g.j7)):U (DV X):=Yn g.pS g.j7 (xL _ v)
def dg.c8(g:dg X)(v:VT (X:=X) (c7 g.pS++dE g.j7)):U (Nat×cg X):=dW (NX g.pS g.j7 (xL _ v))
def dg.res(g:dg X)(r:VT (X:=X) (i9 (lR 0 g.gA)++dE g.j0)):DV X:=Ab (Yn g.gA g.j0 (xL _ r))
def dg.outs(g:dg X)(r:VT (X:=X) (i9 (lR 0 g.gA)++dE g.j0)):U (Nat×cg X):=dW (NX g.gA g.j0 (xL _ r))
def Mu(P:Ξ)(f:FuncId)(g:dg X):Prop:=∀v r,g.fn v=some r->GS P f (bQ (g.args v)) ((g.c8 v).map λp=>bS p.2) (uS (g.outs r)) (den (g.res r))
end
inductive AT(ι:Type) where
 |d (c:CT ι)
 |ref (c:CT ι)
 |en (as:List (CT ι)) (r:CT ι)
 |mut (c:CT ι)
 |ip (c:CT ι)
 |nil
 deriving DecidableEq
def AT.im{ι:Type}:AT ι->Bool
 |.mut _|.ip _=>true
 |_=>false
def AT.pl{ι:Type}:AT ι->Bool
 |.mut _|.ip _|.nil=>false
 |_=>true
inductive RT(ι:Type) where
 |d (c:CT ι)
 |fresh (e:CT ι)
 |whole (j:Nat)
 |mu (c:CT ι)
 |mr (c:CT ι)
 |mv
def RT.out{ι:Type}:RT ι->Bool
 |.mu _|.mr _|.mv=>true
 |_=>false
section
variable (X:SX)
@[reducible] def AT.T:AT X.ι->Type
 |.d c=>CT.T X.toSE c
 |.ref c=>CT.T X.toSE c
 |.en as r=>HL X.toSE as->J (CT.T X.toSE r)
 |.mut c=>U (CT.T X.toSE c)
 |.ip c=>CT.T X.toSE c
 |.nil=>Unit
@[reducible] def RT.T:RT X.ι->Type
 |.d c=>CT.T X.toSE c
 |.fresh e=>U (CT.T X.toSE e)
 |.whole _=>Unit
 |.mu c=>U (CT.T X.toSE c)
 |.mr c=>CT.T X.toSE c
 |.mv=>Unit
@[reducible] def jC:U (AT X.ι)->Type
 |[]=>Unit
 |a::l=>AT.T X a×jC l
@[reducible] def uM:U (RT X.ι)->Type
 |[]=>Unit
 |[r]=>RT.T X r
 |r::r'::l=>RT.T X r×uM (r'::l)
structure ct where
 args:List (AT X.ι)
 res:List (RT X.ι)
 fn:jC X args->Option (uM X res)
 gen:Option (dg X):=none
variable {X}
def fw:Nat->(l:U (AT X.ι))->jC X l->U AV
 |_,[],_=>[]
 |n,.d c::l,a=>(CT.tv X.toSE c a.1).av::fw n l a.2
 |n,.ref c::l,a=>.eV (CT.row X.toSE c a.1) 0::fw n l a.2
 |n,.en as r::l,a=>den (.en as r a.1:DV X)::fw n l a.2
 |n,.mut _::l,a=>.own n 0 (List.length a.1)::fw (n+1) l a.2
 |n,.ip _::l,a=>.ptr n 0 0::fw (n+1) l a.2
 |n,.nil::l,a=>.cD::fw n l a.2
abbrev Ac(l:U (AT X.ι))(a:jC X l):U AV:=fw 0 l a
def vZ(c:CT X.ι)(l:U (CT.T X.toSE c)):fD:=(CT.sz X c,l.map (CT.row X.toSE c))
def wh:(l:U (AT X.ι))->jC X l->U fD
 |[],_=>[]
 |.mut c::l,a=>vZ c a.1::wh l a.2
 |.ip c::l,a=>vZ c [a.1]::wh l a.2
 |.d _::l,a=>wh l a.2
 |.ref _::l,a=>wh l a.2
 |.en _ _::l,a=>wh l a.2
 |.nil::l,a=>wh l a.2
def sw:(r:RT X.ι)->RT.T X r->U (Option fD)
 |.mu c,x=>[some (vZ c x)]
 |.mr c,x=>[some (vZ c [x])]
 |.mv,_=>[none]
 |_,_=>[]
def pX:(l:U (RT X.ι))->uM X l->U (Option fD)
 |[],_=>[]
 |[r],x=>sw r x
 |r::r'::l,x=>sw r x.1++pX (r'::l) x.2
def xz:(r:RT X.ι)->RT.T X r->U Nat
 |.mu _,x=>[List.length x]
 |.mr _,_=>[1]
 |.mv,_=>[0]
 |_,_=>[]
def An:(l:U (RT X.ι))->uM X l->U Nat
 |[],_=>[]
 |[r],x=>xz r x
 |r::r'::l,x=>xz r x.1++An (r'::l) x.2
def Yo(ns:U Nat):(r:RT X.ι)->RT.T X r->U RC
 |.d c,x=>[.d (CT.tv X.toSE c x)]
 |.fresh e,l=>[.fresh (CT.sz X e) (l.map (CT.row X.toSE e))]
 |.whole j,_=>[.whole j (ns.getD j 0)]
 |_,_=>[]
def CO(ns:U Nat):(l:U (RT X.ι))->uM X l->U RC
 |[],_=>[]
 |[r],x=>Yo ns r x
 |r::r'::l,x=>Yo ns r x.1++CO ns (r'::l) x.2
def uU(l:U (RT X.ι))(x:uM X l):RV:=
 match CO (An l x) l x with
 |[c]=>.one c
 |cs=>.fR cs
def te(P:Ξ)(Γ:FuncId->J (ct X)):Prop:=
 ∀f s,Γ f=some s->fP P f/\(∀ a r,s.fn a=some r->rN P f (Ac s.args a) (wh s.args a) (pX s.res r) (uU s.res r))/\∀g,s.gen=some g->Mu P f g
theorem arL:∀{l:U (AT X.ι)},(l.all λq=>q.pl)=true->(l.all λq=>!q.im)=true:=λ{l} h=>by rw[all_eq_true]at h |-;intro q hq;have:=h q hq;cases q<;>simp_all [AT.pl,AT.im]
theorem Jv:∀{l:U (AT X.ι)}{a:jC X l},(l.all λq=>!q.im)=true->wh l a=[]
 |[],_,_=>rfl
 |.d _::l,a,h|.ref _::l,a,h|.en _ _::l,a,h=>Jv (l:=l) (by simpa[AT.im]using h)
 |.mut _::l,a,h|.ip _::l,a,h=>by simp[AT.im]at h
 |.nil::l,a,h=>Jv (l:=l) (by simpa[AT.im]using h)
theorem afR{r:RT X.ι}{x:RT.T X r}(h:(!r.out)=true):sw r x=[]:=by cases r<;>first|rfl|simp[RT.out]at h
theorem afS:∀{l:U (RT X.ι)}{x:uM X l},(l.all λq=>!q.out)=true->pX l x=[]
 |[],_,_=>rfl
 |[r],x,h=>afR (by simpa using h)
 |r::r'::l,x,h=>by simp only[all_cons,aY]at h;simp[pX,afR h.1];exact afS (l:=r'::l) (by simp only[all_cons,aY];exact h.2)
mutual
def b7:DV X->List Nat
 |.own k _ _=>[k]
 |.ptr k _ _=>[k]
 |.rk k _ _=>[k]
 |.t6 k _ _ _ _=>[k]
 |.mp k=>[k]
 |.oz k _=>[k]
 |.agg cs=>aS cs
 |.fR cs=>aS cs
 |.fn _ first caps=>aS first++aS caps
 |_=>[]
def aS:List (DV X)->List Nat
 |[]=>[]
 |x::xs=>b7 x++aS xs
end
theorem BN(c:CT X.ι)(x:CT.T X.toSE c):refs (CT.tv X.toSE c x).av=[]:=by
 cases c<;>try rfl
 rename_i i;show cu ((X.row i x).map AV.t)=[];generalize X.row i x=l
 induction l with
 |nil=>rfl
 |cons y ys ih=>simp[cu,refs,ih]
mutual
theorem jv:∀x:DV X,refs (den x)=b7 x
 |.c t x=>BN t x
 |.agg cs|.fR cs=>by simp[den,refs,b7,jw cs]
 |.own _ _ _|.ptr _ _ _|.rk _ _ _|.mp _|.oz _ _|.t6 _ _ _ _ _|.rp _ _ _|.yq _ _ _ _ _=>rfl
 |.fn f first caps=>by simp[den,refs,b7,jw first,jw caps]
 |.en _ _ _=>rfl
 |.raw v=>by simp[den,cv];split;rfl;split<;>rfl
 |.nil|.ub|.skip|.undef=>rfl
theorem jw:∀l:List (DV X),cu (bQ l)=aS l
 |[]=>rfl
 |x::xs=>by simp[bQ,cu,aS,jv x,jw xs]
end
def UN(get:Nat->J (cg X))(d:DV X)(c:CT X.ι):J (CT.T X.toSE c×List Bool):=
 match d,c with
 |.own kk ab len,.sl e=>(get kk).bind λo=>match o with
  |.ey b l=>(l6 (.sl b) (.sl e) l).bind λ(l:List (CT.T X.toSE e))=>some (sub l ab len,[bk (sub l ab len).length len])
  |_=>none
 |.own kk ab len,.any=>(get kk).bind λo=>match o with
  |.ey b l=>some (.sl (List.map (CT.row X.toSE b) (sub l ab len)),[bk (sub l ab len).length len])
  |_=>none
 |.oz kk len,.sl e=>(get kk).bind λo=>match o with
  |.ey b l=>(l6 (.sl b) (.sl e) l).bind λ(l:List (CT.T X.toSE e))=>some (sub l 0 len,[bk (sub l 0 len).length len])
  |_=>none
 |d,c=>(Nb d c).bind λx=>some (x,[])
def CP(get:Nat->J (cg X)):U (DV X)->(l:U (CT X.ι))->J (HL X.toSE l×List Bool)
 |[],[]=>some ((),[])
 |d::ds,c::l=>(UN get d c).bind λx=>(CP get ds l).bind λh=>some ((x.1,h.1),x.2++h.2)
 |_,_=>none
def HH(get:Nat->J (cg X))(d:DV X)(i:X.ι):J (CT.T X.toSE (.st i)×List Bool):=
 match d with
 |.agg cs=>(CP get cs (X.d6 i)).bind λh=>some (X.make i h.1,h.2)
 |.c a x=>(l6 a (.st i) x).bind λx=>some (x,[])
 |_=>none
def He(get:Nat->J (cg X))(d:DV X)(c:CT X.ι):J (CT.T X.toSE c×List Bool):=
 match c with
 |.st i=>HH get d i
 |c=>UN get d c
def anp(get:Nat->J (cg X))(d:DV X)(c:CT X.ι):J (CT.T X.toSE c):=
 match d with
 |.ptr kk row 0=>(get kk).bind λo=>match o with
  |.cells _ rows=>(rows[row]?).bind λq=>if q.all (λ x=>match x with|.c _ _=>true|_=>false)then O8 c q else none
  |_=>none
 |.rp a x 0=>l6 a c x
 |_=>none
def zp:(l l':U (AT X.ι))->jC X l->jC X l'->jC X (l++l')
 |[],_,_,b=>b
 |_::l,l',a,b=>(a.1,zp l l' a.2 b)
def hlA:(as:U (CT X.ι))->HL X.toSE as->jC X (as.map AT.d)
 |[],_=>()
 |_::l,h=>(h.1,hlA l h.2)
def xN:U (AT X.ι)->Nat
 |[]=>0
 |q::l=>(if q.im then 1 else 0)+xN l
theorem uV:∀(n:Nat)(l l':U (AT X.ι))(a:jC X l)(b:jC X l'),fw n (l++l') (zp l l' a b)=fw n l a++fw (n+xN l) l' b
 |n,[],_,_,_=>rfl
 |n,.d c::l,l',a,b|n,.ref c::l,l',a,b|n,.en as r::l,l',a,b=>by simp[fw,zp,uV n l l' a.2 b,xN,AT.im]
 |n,.mut c::l,l',a,b|n,.ip c::l,l',a,b=>by simp[fw,zp,uV (n+1) l l' a.2 b,xN,AT.im,Nat.add_assoc]
 |n,.nil::l,l',a,b=>by simp[fw,zp,uV n l l' a.2 b,xN,AT.im]
theorem R4:∀(n:Nat)(as:U (CT X.ι))(h:HL X.toSE as),fw n (as.map AT.d) (hlA as h)=(HL.oe X.toSE as h).map TV.av
 |_,[],_=>rfl
 |n,c::l,h=>congrArg ((CT.tv X.toSE c h.1).av:: ·) (R4 n l h.2)
def aqy{a b:CT X.ι}(h:a=b)(o:J (CT.T X.toSE a)):J (CT.T X.toSE b):=h ▸ o
def uf(get:Nat->J (cg X))(py:FuncId->U (DV X)->U (DV X)->(as:U (CT X.ι))->(r:CT X.ι)->J ((HL X.toSE as->J (CT.T X.toSE r))×List Bool)):U (DV X)->(l:U (AT X.ι))->J (jC X l×List Bool)
 |[],[]=>some ((),[])
 |d::ds,.d c::l=>(He get d c).bind λx=>(uf get py ds l).bind λh=>some ((x.1,h.1),x.2++h.2)
 |d::ds,.ref c::l=>(anp get d c).bind λx=>(uf get py ds l).bind λh=>some ((x,h.1),h.2)
 |d::ds,.en as r::l=>(match d with
  |.en as' r' Z=>if h:as'=as/\r'=r then some (λ x=>aqy h.2 (Z (h.1 ▸ x)),[])else none
  |.fn f first caps=>py f first caps as r
  |_=>none).bind λZ=>(uf get py ds l).bind λq=>some ((Z.1,q.1),Z.2++q.2)
 |_,_=>none
def UO(Γ:FuncId->J (ct X))(get:Nat->J (cg X)):Nat->U (DV X)->(l:U (AT X.ι))->J (jC X l×List Bool)
 | 0,ds,l=>uf get (λ _ _ _ _ _=>none) ds l
 |n+1,ds,l=>uf get (λ f first caps as r=>(Γ f).bind λs=>match s with
   |⟨sa,[.d r'],fn,_⟩=>
    if h:r'=r/\sa=sa.take first.length++(as.map AT.d++sa.drop (first.length+as.length))/\first.length=0 then
     (UO Γ get n first (sa.take first.length)).bind λhf=>(UO Γ get n caps (sa.drop (first.length+as.length))).bind λhc=>
      some (λ x=>aqy h.1 (fn (h.2.1 ▸ zp _ _ hf.1 (zp _ _ (hlA as x) hc.1))),hf.2++hc.2)
    else none
   |_=>none) ds l
section
variable {P:Program} {Γ:FuncId->Option (ct X)} {get:Nat->Option (cg X)} {rd:List Nat}
theorem iK{a b:U Prop}(h:∀p∈a,p)(h':∀p∈b,p):∀p∈a++b,p:=by grind
theorem Jw{d:DV X}{c:CT X.ι}{x:CT.T X.toSE c×List Bool}(h:UN get d c=some x)(hc:∀b∈x.2,b=true)(hrd:∀j∈b7 d,j∈rd):∃hs obs,(∀ p∈obs,p)/\∀ag,qw P (eD rd (fT get)) (den d) (hs++ag)=some ((CT.tv X.toSE c x.1).av,ag,obs):=by
 have base:∀{d:DV X}{c:CT X.ι}{x:CT.T X.toSE c},Nb d c=some x->∃hs obs,(∀ p∈obs,p)/\∀ag,qw P (eD rd (fT get)) (den d) (hs++ag)=some ((CT.tv X.toSE c x).av,ag,obs):=by
  intro d c x h;unfold Nb at h;split at h;rw[(qh h).1];refine⟨[],[],by simp,λag=>?_⟩;simp;cases c<;>try rfl
  rename_i j;show qw P _ (.agg ((X.row j x).map AV.t)) ag=_;have:∀(l:U Tree)(hs:U LH),nW P (eD rd (fT get)) (l.map AV.t) hs=some (l.map AV.t,hs,[]):=by
   intro l
   induction l with
   |nil=>intro hs;rfl
   |cons y ys ih=>intro hs;simp[nW,qw,ih]
  simp[qw,this];rfl;cases h;exact⟨[.emp],[],by simp,λag=>rfl⟩;cases h;exact⟨[.emp],[],by simp,λag=>rfl⟩;cases h
 unfold UN at h;split at h;rename_i kk ab len e;rw[ah]at h;obtain⟨o,h1,h⟩:=h;split at h;rename_i b l0;rw[ah]at h;obtain⟨l,h2,h⟩:=h;cases h;have h3:(sub l ab len).length=len:=by simpa[bk]using hc (bk (sub l ab len).length len) (by simp)
 have⟨h4,h5⟩:=jN h2;refine⟨[.rows ((sub l ab len).map (CT.row X.toSE e))],[((bS (.ey b l0):aR).rows.drop ab).take len=aK ((sub l ab len).map (CT.row X.toSE e))/\((sub l ab len).map (CT.row X.toSE e)).length=len],?_,λag=>?_⟩;intro p hp;simp only[aI]at hp;subst hp;refine⟨?_,by simpa using h3⟩;simp[bS,h5];simp[aK,sub];simp[den,qw,fF (hrd kk (by simp[b7])) h1];rfl;cases h;rename_i kk ab len;rw[ah]at h;obtain⟨o,h1,h⟩:=h;split at h;rename_i b l0;cases h;have h3:(sub l0 ab len).length=len:=by simpa[bk]using hc (bk (sub l0 ab len).length len) (by simp)
 refine⟨[.rows ((sub l0 ab len).map (CT.row X.toSE b))],[((bS (.ey b l0):aR).rows.drop ab).take len=aK ((sub l0 ab len).map (CT.row X.toSE b))/\((sub l0 ab len).map (CT.row X.toSE b)).length=len],?_,λag=>?_⟩;intro p hp;simp only[aI]at hp;subst hp;refine⟨?_,by simpa using h3⟩;simp[bS];simp[aK,sub];simp[den,qw,fF (hrd kk (by simp[b7])) h1];rfl;cases h;rename_i kk len e;rw[ah]at h;obtain⟨o,h1,h⟩:=h;split at h;rename_i b l0;have⟨l,h2,h⟩:=ah.1 h;cases h;have h3:(sub l 0 len).length=len:=by simpa[bk]using hc (bk (sub l 0 len).length len) (by simp)
 have⟨h4,h5⟩:=jN h2;refine⟨[.rows ((sub l 0 len).map (CT.row X.toSE e))],[((bS (.ey b l0):aR).rows.drop 0).take len=aK ((sub l 0 len).map (CT.row X.toSE e))/\((sub l 0 len).map (CT.row X.toSE e)).length=len],?_,λag=>?_⟩;intro p hp;simp only[aI]at hp;subst hp;refine⟨?_,by simpa using h3⟩;simp[bS,h5];simp[aK,sub];simp[den,qw,fF (hrd kk (by simp[b7])) h1];rfl;cases h;have⟨y,h1,h⟩:=ah.1 h;cases h;exact base h1
theorem Pe:∀{ds:U (DV X)}{l:U (CT X.ι)}{h:HL X.toSE l×List Bool},CP get ds l=some h->(∀ b∈h.2,b=true)->l.all CT.one=true->(∀ j∈aS ds,j∈rd)->
 ∃hs obs,(∀ p∈obs,p)/\∀ag,nW P (eD rd (fT get)) (bQ ds) (hs++ag)=some ((HL.row X.toSE l h.1).map AV.t,ag,obs)
 |[],[],h,_,_,_,_=>⟨[],[],by simp,λag=>rfl⟩
 |d::ds,c::l,h,hr,hc,ha,hrd=>by simp[CP]at hr;have⟨x,h1,hr⟩:=ah.1 hr;have⟨g,h2,hr⟩:=ah.1 hr;cases hr;simp only[all_cons,aY]at ha;obtain⟨hs1,o1,p1,q1⟩:=Jw (P:=P) (rd:=rd) h1 (λ b hb=>hc b (by simp[hb])) (λ j hj=>hrd j (by simp[aS,hj]));obtain⟨hs2,o2,p2,q2⟩:=Pe h2 (λ b hb=>hc b (by simp[hb])) ha.2 (λ j hj=>hrd j (by simp[aS,hj]));refine⟨hs1++hs2,o1++o2,iK p1 p2,λag=>?_⟩;simp only[bQ,nW,aP,q1,ai,q2];show _=some ((CT.row X.toSE c x.1++HL.row X.toSE l g.1).map AV.t,ag,o1++o2);rw[List.map_append,<- Ss ha.1 x.1];rfl
 |[],_::_,_,hr,_,_,_|_::_,[],_,hr,_,_,_=>by simp[CP]at hr
theorem BP{d:DV X}{c:CT X.ι}{x:CT.T X.toSE c×List Bool}(h:He get d c=some x)(hc:∀b∈x.2,b=true)(hrd:∀j∈b7 d,j∈rd):∃hs obs,(∀ p∈obs,p)/\∀ag,qw P (eD rd (fT get)) (den d) (hs++ag)=some ((CT.tv X.toSE c x.1).av,ag,obs):=by
 cases c
 case st i=>
  replace h:HH get d i=some x:=h
  cases d
  case agg cs=>
   simp[HH]at h;rw[ah]at h;obtain⟨g,h1,h⟩:=h;cases h;obtain⟨hs,obs,p1,q1⟩:=Pe (P:=P) (rd:=rd) h1 hc (X.flat i) (λ j hj=>hrd j (by simpa[b7]using hj));refine⟨hs,obs,p1,λag=>?_⟩;simp[den,qw,q1,CT.tv,TV.av];rw[X.ii]
  case c a y=>exact Jw (c:=.st i) (x:=x) (by unfold UN;exact h) hc hrd
  all_goals cases h
 all_goals exact Jw h hc hrd
theorem afT{d:DV X}{c:CT X.ι}{x:CT.T X.toSE c}(h:anp get d c=some x)(hrd:∀j∈b7 d,j∈rd):∃hs obs,(∀ p∈obs,p)/\∀ag,qw P (eD rd (fT get)) (den d) (hs++ag)=some (.eV (CT.row X.toSE c x) 0,ag,obs):=by
 unfold anp at h;split at h;rename_i kk row;rw[ah]at h;obtain⟨o,h1,h⟩:=h;split at h;rename_i sz rows;rw[ah]at h;obtain⟨q,h2,h⟩:=h;split at h;rename_i hq;refine⟨[.row (CT.row X.toSE c x)],[(bS (.cells sz rows):aR).rows[row]? =some ((CT.row X.toSE c x).map AV.t)],?_,λag=>?_⟩;intro p hp;simp only[aI]at hp;subst hp;simp only[bS,List.getElem?_map,h2,Option.map_some];rw[<- zK h,pW,map_map];congr 1;refine map_congr_left λy hy=>?_;have:=all_eq_true.1 hq y hy;cases y<;>first|exact(aqx _).symm|simp at this
 simp[den,qw,fF (hrd kk (by simp[b7])) h1];cases h;cases h;rename_i a y;refine⟨[],[],by simp,λag=>?_⟩;simp[den,(qh h).2];rfl;cases h
theorem aiL{n:Nat}{l l':U (AT X.ι)}(e:l=l')(b:jC X l):fw n l' (e ▸ b)=fw n l b:=by subst e;rfl
theorem Lc{py:FuncId->U (DV X)->U (DV X)->(as:U (CT X.ι))->(r:CT X.ι)->J ((HL X.toSE as->J (CT.T X.toSE r))×List Bool)}:∀{ds:U (DV X)}{l:U (AT X.ι)}{a:jC X l×List Bool},uf get py ds l=some a->(l.all λq=>!q.im)=true
 |[],[],_,_=>rfl
 |d::ds,.d c::l,a,h=>by simp[uf]at h;have⟨x,h1,h⟩:=ah.1 h;have⟨q,h2,h⟩:=ah.1 h;simpa[AT.im]using Lc h2
 |d::ds,.ref c::l,a,h=>by simp[uf]at h;have⟨x,h1,h⟩:=ah.1 h;have⟨q,h2,h⟩:=ah.1 h;simpa[AT.im]using Lc h2
 |d::ds,.en as r::l,a,h=>by simp[uf]at h;have⟨x,h1,h⟩:=ah.1 h;have⟨q,h2,h⟩:=ah.1 h;simpa[AT.im]using Lc h2
 |_::_,.mut _::_,_,h|_::_,.ip _::_,_,h|_::_,.nil::_,_,h|[],_::_,_,h|_::_,[],_,h=>by simp[uf]at h
theorem afU:∀{n:Nat}{ds:U (DV X)}{l:U (AT X.ι)}{a:jC X l×List Bool},UO Γ get n ds l=some a->(l.all λq=>!q.im)=true
 | 0,_,_,_,h|_+1,_,_,_,h=>Lc h
theorem ad6:∀as:U (CT X.ι),((as.map AT.d).all λq=>!q.im)=true
 |[]=>rfl
 |_::l=>ad6 l
def arM(P:Ξ)(get:Nat->J (cg X))(py:FuncId->U (DV X)->U (DV X)->(as:U (CT X.ι))->(r:CT X.ι)->J ((HL X.toSE as->J (CT.T X.toSE r))×List Bool)):Prop:=
 ∀f first caps as r Z rd,py f first caps as r=some Z->(∀ b∈Z.2,b=true)->(∀ j∈aS first++aS caps,j∈rd)->∃hs obs,(∀ p∈obs,p)/\∀ag,qw P (eD rd (fT get)) (.fn f (bQ first) (bQ caps)) (hs++ag)=some (den (.en as r Z.1:DV X),ag,obs)
theorem uW{n:Nat}{py:FuncId->U (DV X)->U (DV X)->(as:U (CT X.ι))->(r:CT X.ι)->J ((HL X.toSE as->J (CT.T X.toSE r))×List Bool)}(vh:arM P get py):∀{ds:U (DV X)}{l:U (AT X.ι)}{a:jC X l×List Bool},uf get py ds l=some a->(∀ b∈a.2,b=true)->(∀ j∈aS ds,j∈rd)->
 ∃hs obs,(∀ p∈obs,p)/\∀ag,nW P (eD rd (fT get)) (bQ ds) (hs++ag)=some (fw n l a.1,ag,obs)
 |[],[],_,_,_,_=>⟨[],[],by simp,λag=>rfl⟩
 |d::ds,.d c::l,a,h,hc,hrd=>by simp[uf]at h;have⟨x,h1,h⟩:=ah.1 h;have⟨q,h2,h⟩:=ah.1 h;cases h;obtain⟨hs1,o1,p1,q1⟩:=BP (P:=P) (rd:=rd) h1 (λ b hb=>hc b (by simp[hb])) (λ j hj=>hrd j (by simp[aS,hj]));obtain⟨hs2,o2,p2,q2⟩:=uW (n:=n) vh h2 (λ b hb=>hc b (by simp[hb])) (λ j hj=>hrd j (by simp[aS,hj]));refine⟨hs1++hs2,o1++o2,iK p1 p2,λag=>?_⟩;simp[bQ,nW,q1,q2,fw]
 |d::ds,.ref c::l,a,h,hc,hrd=>by simp[uf]at h;rw[ah]at h;obtain⟨x,h1,h⟩:=h;rw[ah]at h;obtain⟨q,h2,h⟩:=h;cases h;obtain⟨hs1,o1,p1,q1⟩:=afT (P:=P) (rd:=rd) h1 (λ j hj=>hrd j (by simp[aS,hj]));obtain⟨hs2,o2,p2,q2⟩:=uW (n:=n) vh h2 hc (λ j hj=>hrd j (by simp[aS,hj]));refine⟨hs1++hs2,o1++o2,iK p1 p2,λag=>?_⟩;simp[bQ,nW,q1,q2,fw]
 |d::ds,.en as r::l,a,h,hc,hrd=>by
  simp[uf]at h;rw[ah]at h;obtain⟨Z,h1,h⟩:=h;rw[ah]at h;obtain⟨q,h2,h⟩:=h;cases h;have hd:∃hs obs,(∀ p∈obs,p)/\∀ag,qw P (eD rd (fT get)) (den d) (hs++ag)=some (den (.en as r Z.1:DV X),ag,obs):=by
   cases d
   case en as' r' ψ=>
    simp only at h1;split at h1;rename_i e;obtain⟨rfl,rfl⟩:=e;cases h1;exact⟨[],[],by simp,λag=>rfl⟩;cases h1
   case fn f first caps=>
    obtain⟨hs,obs,g1,g2⟩:=vh f first caps as r Z rd h1 (λ b hb=>hc b (by simp[hb])) (λ j hj=>hrd j (by simp only[aS,b7,bD]at hj |-;exact .inl hj))
    exact⟨hs,obs,g1,λag=>by simp[den];exact g2 ag⟩
   all_goals simp at h1
  obtain⟨hs1,o1,p1,q1⟩:=hd;obtain⟨hs2,o2,p2,q2⟩:=uW (n:=n) vh h2 (λ b hb=>hc b (by simp[hb])) (λ j hj=>hrd j (by simp[aS,hj]));refine⟨hs1++hs2,o1++o2,iK p1 p2,λag=>?_⟩;simp[bQ,nW,q1,q2,fw]
 |_::_,.mut _::_,_,h,_,_|_::_,.ip _::_,_,h,_,_|_::_,.nil::_,_,h,_,_|[],_::_,_,h,_,_|_::_,[],_,h,_,_=>by simp[uf]at h
theorem aiM{n:Nat}:∀{l:U (AT X.ι)}(a:jC X l),l=[]->fw n l a=[]
 |_,_,rfl=>rfl
theorem uq(hΓ:te P Γ):∀(m:Nat){n:Nat}{ds:U (DV X)}{l:U (AT X.ι)}{a:jC X l×List Bool}{rd:U Nat},UO Γ get m ds l=some a->(∀ b∈a.2,b=true)->(∀ j∈aS ds,j∈rd)->
 ∃hs obs,(∀ p∈obs,p)/\∀ag,nW P (eD rd (fT get)) (bQ ds) (hs++ag)=some (fw n l a.1,ag,obs)
 | 0,n,ds,l,a,rd,h,hcs,hrd=>uW (λ _ _ _ _ _ _ _ h=>by cases h) h hcs hrd
 |m+1,n,ds,l,a,rd,h,hcs,hrd=>by
  refine uW (λ f first caps as r Z rd' hc hb IS=>?_) h hcs hrd;rw[ah]at hc;obtain⟨s,h1,hc⟩:=hc;split at hc;rename_i sa r' fn _;split at hc;rename_i e;obtain⟨rfl,e2,e3⟩:=e;have⟨hf,h2,hc⟩:=ah.1 hc;have⟨hcap,h3,hc⟩:=ah.1 hc;injection hc with hc;rw[<- hc]at hb;obtain⟨g1,g2,_⟩:=hΓ f _ h1;obtain⟨hs1,o1,p1,q1⟩:=uq hΓ m h2 (n:=0) (rd:=rd') (λ b hb'=>hb b (by simp[hb'])) (λ j hj=>IS j (by simp[hj]));obtain⟨hs2,o2,p2,q2⟩:=uq hΓ m h3 (n:=0+xN (sa.take first.length)+xN (as.map AT.d)) (rd:=rd') (λ b hb'=>hb b (by simp[hb'])) (λ j hj=>IS j (by simp[hj]));refine⟨.en (λ ts u=>∃h x,Z.1 h=some x/\ts=HL.oe X.toSE as h/\u=CT.tv X.toSE r' x)::(hs1++hs2),o1++(o2++[fw 0 _ hf.1=[]/\fP P f/\∀args r,(∃ h x,Z.1 h=some x/\args=HL.oe X.toSE as h/\r=CT.tv X.toSE r' x)->tE P f (fw 0 _ hf.1++args.map TV.av++fw (0+xN (sa.take first.length)+xN (as.map AT.d)) _ hcap.1) (.one (.d r))]),?_,λag=>?_⟩;intro p hp;simp only[bD,aI]at hp;rcases hp with hp|hp|hp;exact p1 p hp;exact p2 p hp;subst hp;refine⟨aiM _ (by rw[e3];rfl),g1,?_⟩;rintro args r ⟨x,y,hxy,rfl,rfl⟩;rw[<- hc]at hxy;have hxy':fn (e2 ▸ zp _ _ hf.1 (zp _ _ (hlA as x) hcap.1))=some y:=hxy;have:=g2 _ _ hxy';have hnm:(sa.all λq=>!q.im)=true:=by rw[e2,List.all_append,List.all_append,afU h2,afU h3,ad6];rfl
  rw[Jv hnm,Ac,aiL e2.symm,uV,uV,R4,<- aP]at this;exact X5 this;simp[qw,q1,q2];rfl;cases hc;cases hc
end
end
def UQ(s:ByteArray)(n:Int):J Int:=bif decide (0<=n)then(s[n.toNat]?).map λb=>(b.toNat:Int)else none
def Bn(m:Int)(bytes:Nat):Bool:=decide (0<=m)&&decide (m.toNat*bytes<=140737488355328)&&decide (m.toNat<=maxLen)
def fV{K Θ:Type}(eq:K->K->Bool)(k:K):U (K×Θ)->J Θ
 |[]=>none
 |p::r=>bif eq k p.1 then some p.2 else fV eq k r
def Hz{K Θ:Type}(eq:K->K->Bool)(k:K)(v:Θ):U (K×Θ)->U (K×Θ)
 |[]=>[(k,v)]
 |p::r=>bif eq k p.1 then(k,v)::r else p::Hz eq k v r
def iEq(a b:Int):Bool:=a==b
def fp(a b:ByteArray):Bool:=a.toList==b.toList
def bEq(a b:Bool):Bool:=a==b
section
variable {X:SX} {A:Type}
def Pf:(c:CT X.ι)->J (CT.T X.toSE c->CT.T X.toSE c->Bool)
 |.int _=>some iEq
 |.str=>some fp
 |.bool=>some bEq
 |_=>none
def GB{ι:Type}:B6->CT ι->Bool
 |.int a,.int b=>decide (a=b)
 |.str,.str=>true
 |.bool,.bool=>true
 |_,_=>false
def arN{ι:Type}:CT ι->Bool
 |.st _=>true
 |_=>false
theorem jb(a b:U (DV X)):bQ (a++b)=bQ a++bQ b:=by simp[pW]
theorem uw(a b:U (Nat×Option (cg X))):jr (a++b)=jr a++jr b:=by simp[jr]
def Pg(ae:U Nat):U (Nat×Option (cg X)):=ae.map λj=>(j,none)
theorem En(ae:U Nat):jr (Pg (X:=X) ae)=ae.map λk=>(k,none):=by simp[jr,Pg]
theorem Ld{ae:U Nat}{p:Nat×Option (cg X)}(h:p∈Pg ae):p.1∈ae:=by simp[Pg]at h;obtain⟨j,hj,rfl⟩:=h;exact hj
variable (T:eS) (an:TypeId->Option (CT X.ι))
def aiO:DV X->Bool
 |.nil=>true
 |_=>false
def HC(op:BinOp)(b:DV X)(yes:Bool)(k:KK X A):J A:=
 match op with
 |.eql=>bif yes then k b [] [] []else k (.c .bool false) [] [] []
 |.neq=>bif yes then k b [] [] []else k (.c .bool true) [] [] []
 |_=>none
def ZZ(op:BinOp)(t:V)(x:DV X)(k:KK X A):J A:=
 (T t).bind λti=>match ti.k,x with
 |.slice _,.c (.sl _) l=>HC op .ub (List.isEmpty l) k
 |.slice _,.own _ _ len=>HC op .ub (len==0) k
 |.slice _,.oz _ len=>HC op (.c .bool (op==.eql)) (len==0) k
 |.slice _,.nil=>HC op (.c .bool (op==.eql)) true k
 |_,_=>none
def aqz(s d:V)(x:DV X)(k:KK X A):J A:=
 (T s).bind λ_=>(T d).bind λdi=>match di.k,x with
 |.int kd,.c (.int _) n=>k (.c (.int kd) (kd.wrap (iN n))) [] [] []
 |_,_=>none
def anq(t:V)(x j:DV X)(k:KK X A):J A:=
 (T t).bind λti=>match ti.k,x,j with
 |.str,.c .str s,.c (.int _) n=>(UQ s n).bind λb=>k (.c (.int .u8) b) [] [] []
 |.arr m e,.agg cs,.c (.int _) q=>(T e).bind λei=>bif cR q m then(Jr ei.agg ei.size ((cs.drop (q.toNat*ei.size)).take ei.size)).bind λv=>k v [] [] []else none
 |_,_,_=>none
def acA(t:V)(x:DV X)(lo hi:J (DV X))(k:KK X A):J A:=
 (T t).bind λti=>match ti.k,x with
 |.slice e,.nil=>(T e).bind λ_=>(B4 0 lo).bind λl=>(B4 0 hi).bind λh=>bif decide (l=0)&&decide (h=0)then k .nil [] [] []else none
 |_,_=>none
def R5(i:Nat)(b:Builtin)(args:U (DV X))(d6:U TypeId)(get:Nat->J (cg X))(k:KK X A):J A:=
 match b,args,d6 with
 |.cap,[.nil],[t]=>(T t).bind λti=>match ti.k with
  |.slice _=>k (.c (.int .i64) (0:Int)) [] [] []
  |_=>none
 |.clear,[.own kk ab _],[t]=>(T t).bind λti=>match ti.k with
  |.slice e=>(T e).bind λei=>(get kk).bind λo=>match o with
   |.ey c l=>if CT.sz X c=ei.size then k (.fR []) [(kk,some (.ey c (l.take ab)))] [kk] [kk]else none
   |_=>none
  |_=>none
 |.append,[.nil,.c (.int _) m],[t,u]=>(T t).bind λti=>(T u).bind λui=>match ti.k,ui.k with
  |.slice e,.int _=>(T e).bind λei=>(an e).bind λc=>if CT.sz X c=ei.size/\0<ei.size then(O8 c (ei.zero.map xi)).bind λz=>
   bif Bn (iN m) ei.bytes then k (.own (cE i) 0 m.toNat) [(cE i,some (.ey c (List.replicate m.toNat z)))] [] []else none else none
  |_,_=>none
 |_,_,_=>none
def R6(x:DV X)(k:KK X A):J A:=
 match x with
 |.ptr kk r f=>k (.ptr kk r f) [] [] []
 |.rk kk n f=>k (.rk kk n f) [] [] []
 |.t6 kk r f m n=>k (.t6 kk r f m n) [] [] []
 |.rp c y f=>k (.rp c y f) [] [] []
 |_=>none
def anr(i:Nat)(t:V)(l c:DV X)(k:KK X A):J A:=
 (T t).bind λti=>match ti.k,l,c with
 |.slice e,.c (.int _) n,.c (.int _) m=>(T e).bind λei=>(an e).bind λc=>if CT.sz X c=ei.size/\0<ei.size then(O8 c (ei.zero.map xi)).bind λz=>
  bif decide (iN n<=iN m)&&(decide (0<=iN n)&&Bn (iN m) ei.bytes)then k (.own (cE i) 0 n.toNat) [(cE i,some (.ey c (List.replicate n.toNat z)))] [] []else none else none
 |_,_,_=>none
def Yp(i:Nat)(t:V)(k:KK X A):J A:=
 (T t).bind λti=>match ti.k with
 |.map kt et=>(an kt).bind λkc=>(an et).bind λvc=>k (.mp (cE i)) [(cE i,some (.map kc vc []))] [] []
 |_=>none
def ad7(t:V)(x key:DV X)(ok:Bool)(get:Nat->J (cg X))(k:KK X A):J A:=
 (T t).bind λti=>match ti.k,x with
 |.map kt et,.mp kk=>(T kt).bind λki=>(T et).bind λei=>(get kk).bind λo=>match o with
  |.map kc vc l=>(Pf kc).bind λeq=>(Nb key kc).bind λkv=>if GB ki.k kc=true/\ei.agg=arN vc/\ei.size=CT.sz X vc then(O8 vc (ei.zero.map xi)).bind λz=>
   bif ok then k (.fR [.c vc ((fV eq kv l).getD z),.c .bool (fV eq kv l).isSome]) [] [kk] []else k (.c vc ((fV eq kv l).getD z)) [] [kk] []else none
  |_=>none
 |_,_=>none
def ad8(t:V)(x key y:DV X)(get:Nat->J (cg X))(k:KK X A):J A:=
 (T t).bind λti=>match ti.k,x with
 |.map kt _,.mp kk=>(T kt).bind λki=>(get kk).bind λo=>match o with
  |.map kc vc l=>(Pf kc).bind λeq=>(Nb key kc).bind λkv=>(dat y vc).bind λv=>if GB ki.k kc=true then k .undef [(kk,some (.map kc vc (Hz eq kv v l)))] [kk] [kk]else none
  |_=>none
 |_,_=>none
def arO(o:Op)(ρ:Operand->DV X):Bool:=
 match o with
 |.binOp _ _ _ y _=>aiO (ρ y)
 |.convert _ _ _=>true
 |.index _ _ _=>true
 |.nilCheck _=>true
 |.makeSlice _ _ _=>true
 |.makeMap _ none=>true
 |.lookup _ _ _ _=>true
 |.mapUpdate _ _ _ _=>true
 |.slice _ x _ _ none=>aiO (ρ x)
 |.call { callee:=.builtin b,args:=args,argTypes:=_ }=>match b,args.toList.map ρ with
  |.cap,_=>true
  |.clear,_=>true
  |.append,[_,.c (.int _) _]=>true
  |_,_=>false
 |_=>false
def ZS(i:Nat)(o:Op)(ρ:Operand->DV X)(get:Nat->J (cg X))(k:KK X A):J A:=
 match o with
 |.binOp op t x y _=>if aiO (ρ y)then ZZ T op t (ρ x) k else none
 |.convert s d x=>aqz T s d (ρ x) k
 |.index t x j=>anq T t (ρ x) (ρ j) k
 |.slice t x lo hi none=>acA T t (ρ x) (lo.map ρ) (hi.map ρ) k
 |.nilCheck x=>R6 (ρ x) k
 |.makeSlice t l c=>anr T an i t (ρ l) (ρ c) k
 |.makeMap t none=>Yp T an i t k
 |.lookup t m x ok=>ad7 T t (ρ m) (ρ x) ok get k
 |.mapUpdate t m x v=>ad8 T t (ρ m) (ρ x) (ρ v) get k
 |.call { callee:=.builtin b,args:=args,argTypes:=d6 }=>R5 T an i b (args.toList.map ρ) d6.toList get k
 |_=>none
def Mp(get:Nat->J (cg X))(c:CT X.ι)(ρ:Operand->DV X)(x:Operand):DV X:=
 match He get (ρ x) c with
 |some y=>.c c y.1
 |none=>ρ x
def Pr(get:Nat->J (cg X))(c:CT X.ι)(ρ:Operand->DV X):U Operand->U Bool
 |[]=>[]
 |x::xs=>(match He get (ρ x) c with|some y=>y.2|none=>[])++Pr get c ρ xs
def B3(get:Nat->J (cg X))(c:CT X.ι)(ρ:Operand->DV X):U Operand->U Nat
 |[]=>[]
 |x::xs=>(match He get (ρ x) c with|some _=>b7 (ρ x)|none=>[])++B3 get c ρ xs
def apu(o:Op)(ρ:Operand->DV X)(get:Nat->J (cg X)):J (CT X.ι):=
 match o with
 |.box t _=>an t
 |.assign x|.move x=>match ρ x with
  |.own kk _ _=>(get kk).bind λo=>match o with
   |.ey c _=>some (.sl c)
   |_=>none
  |_=>none
 |.buildSlice t _ _=>(T t).bind λti=>match ti.k with
  |.slice e=>an e
  |_=>none
 |.store t _ _=>an t
 |_=>none
def arP(o:Op)(ρ:Operand->DV X):Bool:=
 match o with
 |.buildSlice _ _ parts=>!(aS (parts.toList.map λp=>ρ p.2)).isEmpty
 |.store _ a x=>match ρ a with
  |.rk _ _ _=>!(b7 (ρ x)).isEmpty
  |_=>false
 |_=>false
def ZD(i:Nat)(o:Op)(ρ:Operand->DV X)(get:Nat->J (cg X))(k:KK X A):J A:=
 if aiq o then none else(apu T an o ρ get).bind λc=>Yb (Pr get c ρ o.operands.toList)
  (N5 T an i o (Mp get c ρ) (λ j=>if j∈B3 get c ρ o.operands.toList then none else get j) λdv upd rd wr=>
   k dv (upd++Pg (B3 get c ρ o.operands.toList)) (rd++B3 get c ρ o.operands.toList) (wr++B3 get c ρ o.operands.toList))
def arQ(o:Op)(ρ:Operand->DV X):Bool:=
 match o with
 |.indexAddr t x (.tmp _)=>match ρ x,T t with
  |.ptr _ _ _,some ti|.rp _ _ _,some ti=>match ti.k with
   |.arr _ e=>match T e with
    |some ei=>ei.size==1
    |none=>false
   |_=>false
  |_,_=>false
 |.load _ a=>match ρ a with
  |.t6 _ _ _ _ _|.yq _ _ _ _ _=>true
  |_=>false
 |_=>false
def Gk(c:CT X.ι):U (DV X)->J (List (CT.T X.toSE c))
 |[]=>some []
 |.c a x::r=>(l6 a c x).bind λy=>(Gk c r).bind λl=>some (y::l)
 |_=>none
def Zs(o:Op)(ρ:Operand->DV X)(get:Nat->J (cg X))(k:KK X A):J A:=
 match o with
 |.indexAddr t x j=>(T t).bind λti=>match ti.k,ρ x,ρ j with
  |.arr m e,.ptr kk row ab,.c (.int _) n=>(T e).bind λei=>if ei.size=1 then bif cR n m then k (.t6 kk row ab m n) [] [] []else none else none
  |.arr m e,.rp c y ab,.c (.int _) n=>(T e).bind λei=>if ei.size=1 then bif cR n m then k (.yq c y ab m n) [] [] []else none else none
  |_,_,_=>none
 |.load t a=>(T t).bind λti=>match ρ a with
  |.t6 kk row ab m n=>if ti.size=1/\ti.agg=false then(an t).bind λc=>if c.one=true then(get kk).bind λo=>match o with
   |.cells _ rows=>(rows[row]?).bind λq=>(Gk c ((q.drop ab).take m)).bind λ(xs:List (CT.T X.toSE c))=>(ci xs n).bind λy=>k (.c c y) [] [kk] []
   |.ey _ _=>none
   |_=>none
   else none else none
  |.yq b y ab m n=>if ti.size=1/\ti.agg=false then(an t).bind λc=>if c.one=true then(Gk c (((wJ b y).drop ab).take m)).bind λ(xs:List (CT.T X.toSE c))=>(ci xs n).bind λy=>k (.c c y) [] [] []
   else none else none
  |_=>none
 |_=>none
variable {T an}
def er(P:Ξ)(T:eS)(i:Nat)(o:Oper)(ρ:Operand->DV X)(get:Nat->J (cg X))(k:KK X A)(r:A):Prop:=
 ∃cL rd wr dv upd aa,kz P T i o cL (λ x=>den (ρ x)) (eD rd (fT get))=some aa/\jD aa.obs/\aa.v=den dv/\aa.upd=jr upd/\(∀ p∈upd,p.1=cE i\/p.1∈wr)/\k dv upd rd wr=some r
section
variable {P:Program} {get:Nat->Option (cg X)} {k:KK X A} {r:A} {i:Nat} {o:Oper} {ρ:Operand->DV X}
theorem anu{t:V}{x:AV}{cL:kh}(h:(∃ n,cL=.ext n)\/∃ae fr q,cL=.zd ae fr q):BY T t x .none=BY T t x cL:=by grind [BY]
theorem Yq{t:V}{x j:AV}{cL:kh}{get:E}(h:(∃ n,cL=.ext n)\/∃ae fr q,cL=.zd ae fr q):nK T t x j .none get=nK T t x j cL get:=by
 unfold nK;rcases T t with _|ti;rfl;simp;generalize ti.k=kk;cases kk<;>try rfl
 case arr m e=>
  cases j<;>try rfl
  rename_i y;cases y<;>try rfl
  rename_i y;cases y<;>rfl
 cases j<;>try rfl
 rename_i e y;cases y<;>try rfl
 rename_i y;cases y<;>try rfl
 simp;rcases T e with _|ei;rfl;rcases h with ⟨n,rfl⟩|⟨ae,fr,q,rfl⟩<;>cases x<;>try rfl
 all_goals (rename_i z;cases z<;>rfl)
theorem afW{t:V}{x y:AV}{cL:kh}{get:E}(h:(∃ n,cL=.ext n)\/∃ae fr q,cL=.zd ae fr q):BG T i t x y .none get=BG T i t x y cL get:=by grind [BG]
theorem alD{cL:kh}{ρ:Operand->AV}{get:E}(h:(∃ n,cL=.ext n)\/∃ae fr q,cL=.zd ae fr q):rW T i o .none ρ get=rW T i o cL ρ get:=by
 obtain⟨dst,op,ty,aq,after,guard⟩:=o;cases op
 case call c=>
  obtain⟨callee,args,d6⟩:=c;cases callee<;>try rfl
  simp[rW,Eh];split;exact anu h;rfl;rfl;rw[afW h];rfl
 case slice t x lo hi mx=>cases mx<;>rcases h with ⟨n,rfl⟩|⟨ae,fr,q,rfl⟩<;>rfl
 case makeFunc fn a b=>cases fn<;>rfl
 case indexAddr t x j=>exact Yq h
 all_goals (rcases h with ⟨n,rfl⟩|⟨ae,fr,q,rfl⟩<;>rfl)
theorem er.ext{n:Int}{rd wr:U Nat}{dv:DV X}{upd:U (Nat×Option (cg X))}{aa:Out}(h:uQ T i o n (λ x=>den (ρ x)) (eD rd (fT get))=some aa)(h1:jD aa.obs)(h2:aa.v=den dv)(h3:aa.upd=jr upd)(h4:∀p∈upd,p.1=cE i\/p.1∈wr)(h5:k dv upd rd wr=some r)(hx:MY o.op=false:=by rfl):er P T i o ρ get k r:=
 ⟨.ext n,rd,wr,dv,upd,aa,by show uR T i o n _ _=some aa;unfold uR;rw[hx];simp[h],h1,h2,h3,h4,h5⟩
theorem er.xf{n:Int}{rd wr:U Nat}{dv:DV X}{upd:U (Nat×Option (cg X))}{aa:Out}(h:FM T i o n (λ x=>den (ρ x)) (eD rd (fT get))=some aa)(h1:jD aa.obs)(h2:aa.v=den dv)(h3:aa.upd=jr upd)(h4:∀p∈upd,p.1=cE i\/p.1∈wr)(h5:k dv upd rd wr=some r)(hx:MY o.op=true:=by rfl):er P T i o ρ get k r:=
 ⟨.ext n,rd,wr,dv,upd,aa,by show uR T i o n _ _=some aa;unfold uR;rw[hx];simp[h],h1,h2,h3,h4,h5⟩
theorem VB{x:DV X}(h:R6 x k=some r):∃dv,RJ (den x)=some ⟨den dv,[],[]⟩/\k dv [] [] []=some r:=by cases x<;>simp[R6]at h<;>first|cases h|exact⟨_,rfl,h⟩
theorem acB{cL:kh}{ρ:Operand->AV}{get:E}(hne:∀f args d6,o.op≠.call { callee:=.value f,args:=args,argTypes:=d6 })(ho:∀n,cL≠.ext n)(hf:∀ae fr q,cL≠.zd ae fr q):kz P T i o cL ρ get=rW T i o cL ρ get:=by
 have e:∀(α:Type) (a:Operand->Array Operand->Array TypeId->α) (b:α),(match o.op with|.call { callee:=.value f,args:=args,argTypes:=d6 }=>a f args d6|_=>b)=b:=by grind
 cases cL<;>first|exact(ho _ rfl).elim|exact(hf _ _ _ rfl).elim|exact e _ _ _
theorem er.op{cL:kh}{rd wr:U Nat}{dv:DV X}{upd:U (Nat×Option (cg X))}{aa:Out}(hne:∀f args d6,o.op≠.call { callee:=.value f,args:=args,argTypes:=d6 })
 (h:rW T i o cL (λ x=>den (ρ x)) (eD rd (fT get))=some aa) (h1:jD aa.obs/\aa.v=den dv/\aa.upd=jr upd/\(∀ p∈upd,p.1=cE i\/p.1∈wr)/\k dv upd rd wr=some r):er P T i o ρ get k r:=by
 obtain⟨wg,h'⟩:∃wg,kz P T i o wg (λ x=>den (ρ x)) (eD rd (fT get))=some aa:=by by_cases hx:(∃ n,cL=.ext n)\/∃ae fr q,cL=.zd ae fr q;refine⟨.none,?_⟩;rw[acB hne (by simp) (by simp),alD hx,h];simp at hx;exact⟨cL,by rw[acB hne hx.1 (λ ae fr q=>hx.2 ae fr q),h]⟩
 exact⟨wg,rd,wr,dv,upd,aa,h',h1⟩
theorem er.call{dst:J Tmp}{f:Operand}{args:Array Operand}{d6:Array TypeId}{ty:V}{aq:String}{after:Array Edge}{guard:J (Nat×Bool)}{cL:kh}{rd wr:U Nat}{dv:DV X}{upd:U (Nat×Option (cg X))}{aa:Out}
 (h:mH P i (den (ρ f)) (args.toList.map λx=>den (ρ x)) cL (eD rd (fT get))=some aa) (h1:jD aa.obs/\aa.v=den dv/\aa.upd=jr upd/\(∀ p∈upd,p.1=cE i\/p.1∈wr)/\k dv upd rd wr=some r):
 er P T i ⟨dst,.call { callee:=.value f,args:=args,argTypes:=d6 },ty,aq,after,guard⟩ ρ get k r:=by
 refine⟨cL,rd,wr,dv,upd,aa,?_,h1⟩;unfold kz
 all_goals grind [mH,sO,BJ]
theorem Le{op:BinOp}{b:DV X}{yes:Bool}(h:HC op b yes k=some r):∃dv aa,F1 op (den b) yes=some aa/\jD aa.obs/\aa.v=den dv/\aa.upd=[]/\k dv [] [] []=some r:=by
 unfold HC at h;split at h;cases yes with
 |true=>exact⟨b,_,rfl,trivial,rfl,rfl,h⟩
 |false=>exact⟨.c .bool false,_,rfl,trivial,rfl,rfl,h⟩
 cases yes with
 |true=>exact⟨b,_,rfl,trivial,rfl,rfl,h⟩
 |false=>exact⟨.c .bool true,_,rfl,trivial,rfl,rfl,h⟩
 cases h
theorem aiQ{op:BinOp}{t:V}{x:DV X}(h:ZZ T op t x k=some r):∃dv aa,BT T op t (den x) .cD=some aa/\jD aa.obs/\aa.v=den dv/\aa.upd=[]/\k dv [] [] []=some r:=by unfold ZZ at h;rw[ah]at h;obtain⟨ti,h1,h⟩:=h;split at h;rename_i e c l hk;have⟨dv,aa,g1,g2⟩:=Le h;refine⟨dv,aa,?_,g2⟩;simp[BT,h1,hk];rw[<- g1];cases l<;>rfl;rename_i e kk ab len hk;have⟨dv,aa,g1,g2⟩:=Le h;exact⟨dv,aa,by simp[BT,h1,hk];exact g1,g2⟩;rename_i e kk len hk;have⟨dv,aa,g1,g2⟩:=Le h;exact⟨dv,aa,by simp[BT,h1,hk];exact g1,g2⟩;rename_i e hk;have⟨dv,aa,g1,g2⟩:=Le h;exact⟨dv,aa,by simp[BT,h1,hk];exact g1,g2⟩;cases h
theorem aiR{s:ByteArray}{n b:Int}(h:UQ s n=some b):0<=n/\∃c,s[n.toNat]? =some c/\b=c.toNat:=by
 unfold UQ at h
 all_goals grind
theorem acC{m:Int}{bytes:Nat}(h:Bn m bytes=true):0<=m/\m.toNat*bytes<=140737488355328/\m.toNat<=maxLen:=by simpa[Bn,and_assoc]using h
theorem VD{b:Builtin}{args:U (DV X)}{d6:U TypeId}(h:R5 T an i b args d6 get k=some r):
 ∃rd wr dv upd aa,wG T i b (bQ args) d6 (eD rd (fT get))=some aa/\jD aa.obs/\aa.v=den dv/\aa.upd=jr upd/\(∀ p∈upd,p.1=cE i\/p.1∈wr)/\k dv upd rd wr=some r:=by unfold R5 at h;split at h;rw[ah]at h;obtain⟨ti,h1,h⟩:=h;split at h;rename_i e hk;refine⟨[],[],_,[],⟨.t (.sc (.int .i64 0)),[],[]⟩,?_,trivial,rfl,rfl,by simp,h⟩;simp[wG,bQ,den,h1,hk];rfl;cases h;rename_i kk ab len t;rw[ah]at h;obtain⟨ti,h1,h⟩:=h;split at h;rename_i e hk;rw[ah]at h;obtain⟨ei,h2,h⟩:=h;rw[ah]at h;obtain⟨o,h3,h⟩:=h;split at h;rename_i c l;split at h;rename_i hs;refine⟨[kk],[kk],_,_,⟨.fR [],[(kk,some ⟨CT.sz X c,(aK (l.map (CT.row X.toSE c))).take ab⟩)],[]⟩,?_,trivial,rfl,?_,by simp,h⟩;simp only[wG,bQ,den,h1,ai,hk,h2,fF (List.mem_singleton_self kk) h3,bS];rw[aM hs];simp[jr,bS,aK];cases h;cases h;cases h;rename_i kd m t u;rw[ah]at h;obtain⟨ti,h1,h⟩:=h;rw[ah]at h;obtain⟨ui,h2,h⟩:=h;split at h;rename_i e kn hk hk';rw[ah]at h;obtain⟨ei,h3,h⟩:=h;rw[ah]at h;obtain⟨c,h4,h⟩:=h;split at h;rename_i hs;have⟨z,h5,h⟩:=ah.1 h;have⟨h6,h⟩:=eX h;have⟨m1,m2,m3⟩:=acC h6;have hz:=zK h5;rw[Ej]at hz;refine⟨[],[],_,_,⟨.own (cE i) 0 m.toNat,[(cE i,some ⟨ei.size,dZ (List.replicate m.toNat (ei.zero.map cv))⟩)],[0<=m/\m.toNat*ei.bytes<=140737488355328/\m.toNat<=maxLen/\0<ei.size]⟩,?_,?_,rfl,?_,by simp,h⟩;simp[wG,bQ,den,CT.tv,TV.av,h1,h2,h3,hk,hk'];exact⟨m1,m2,m3,hs.2⟩;simp only[jr,bK,map_nil,Option.map_some,bS,hs.1,aK,dZ,List.map_replicate];rw[hz];cases h;cases h;cases h
theorem afX{t:V}{l c:DV X}(h:anr T an i t l c k=some r):∃dv upd aa,NL T i t (den l) (den c)=some aa/\jD aa.obs/\aa.v=den dv/\aa.upd=jr upd/\(∀ p∈upd,p.1=cE i)/\k dv upd [] []=some r:=by unfold anr at h;rw[ah]at h;obtain⟨ti,h1,h⟩:=h;split at h;rename_i e kl n kc m hk;rw[ah]at h;obtain⟨ei,h3,h⟩:=h;rw[ah]at h;obtain⟨c,h4,h⟩:=h;split at h;rename_i hs;rw[ah]at h;obtain⟨z,h5,h⟩:=h;have⟨h6,h⟩:=eX h;simp at h6;obtain⟨h7,h8,h9⟩:=h6;have⟨m1,m2,m3⟩:=acC h9;have hz:=zK h5;rw[Ej]at hz;refine⟨_,_,⟨.own (cE i) 0 n.toNat,[(cE i,some ⟨ei.size,dZ (List.replicate n.toNat (ei.zero.map cv))⟩)],[0<=n/\n<=m/\m.toNat*ei.bytes<=140737488355328/\m.toNat<=maxLen/\0<ei.size]⟩,?_,?_,rfl,?_,by simp,h⟩;simp[NL,den,CT.tv,TV.av,h1,h3,hk];exact⟨h8,h7,m2,m3,hs.2⟩;simp only[jr,bK,map_nil,Option.map_some,bS,hs.1,aK,dZ,List.map_replicate];rw[hz];cases h;cases h
theorem Yr{t:V}(h:Yp T an i t k=some r):∃dv upd aa,Jk T i t=some aa/\jD aa.obs/\aa.v=den dv/\aa.upd=jr upd/\(∀ p∈upd,p.1=cE i)/\k dv upd [] []=some r:=by unfold Yp at h;rw[ah]at h;obtain⟨ti,h1,h⟩:=h;split at h;rename_i kt et hk;have⟨kc,h2,h⟩:=ah.1 h;have⟨vc,h3,h⟩:=ah.1 h;exact⟨_,_,⟨.mp (cE i),[(cE i,some ⟨0,[]⟩)],[]⟩,by simp[Jk,h1,hk],trivial,rfl,rfl,by simp,h⟩;cases h
theorem anv{ki:pD}{kc:CT X.ι}(h:GB ki.k kc=true)(x:CT.T X.toSE kc):∃v,(CT.tv X.toSE kc x).av=.t (.sc v)/\OT ki.k v=true:=by
 cases kc
 case int b=>
  refine⟨.int b x,rfl,?_⟩;cases hk:ki.k<;>rw[hk]at h<;>simp[GB]at h;subst h;simp[OT]
 case str=>
  refine⟨.string x,rfl,?_⟩;cases hk:ki.k<;>rw[hk]at h<;>simp[GB]at h;rfl
 case bool=>
  refine⟨.bool x,rfl,?_⟩;cases hk:ki.k<;>rw[hk]at h<;>simp[GB]at h;rfl
 all_goals (cases hk:ki.k<;>rw[hk]at h<;>simp[GB]at h)
theorem afY{kc:CT X.ι}{eq:CT.T X.toSE kc->CT.T X.toSE kc->Bool}(h:Pf kc=some eq){a b:CT.T X.toSE kc}{va:Value}(ha:(CT.tv X.toSE kc a).av=.t (.sc va)):∃vb,(CT.tv X.toSE kc b).av=.t (.sc vb)/\UA va vb=some (eq a b):=by
 cases kc
 case int q=>
  simp[Pf]at h;subst h;simp[CT.tv,TV.av]at ha;subst ha;exact⟨_,rfl,by simp[UA,iEq]⟩
 case str=>
  simp[Pf]at h;subst h;simp[CT.tv,TV.av]at ha;subst ha;exact⟨_,rfl,by simp[UA,fp]⟩
 case bool=>
  simp[Pf]at h;subst h;simp[CT.tv,TV.av]at ha;subst ha;exact⟨_,rfl,by simp[UA,bEq]⟩
 all_goals simp[Pf]at h
theorem acD{kc vc:CT X.ι}{eq:CT.T X.toSE kc->CT.T X.toSE kc->Bool}(h:Pf kc=some eq){a:CT.T X.toSE kc}{va:Value}(ha:(CT.tv X.toSE kc a).av=.t (.sc va)):∀l:U (CT.T X.toSE kc×CT.T X.toSE vc),
 ∃r,UB va (bS (.map kc vc l:cg X)).rows=some r/\r.map (·.2)=(fV eq a l).map λv=>(CT.tv X.toSE vc v).av
 |[]=>⟨none,rfl,rfl⟩
 |p::l=>by
  have⟨vb,h1,h2⟩:=afY h (b:=p.1) ha;have⟨r,g1,g2⟩:=acD h ha l;have g1':UB va (l.map λp=>[(CT.tv X.toSE kc p.1).av,(CT.tv X.toSE vc p.2).av])=some r:=g1;simp[bS,h1,UB,h2,fV];cases eq a p.1 with
  |true=>exact⟨_,rfl,rfl⟩
  |false=>
   simp only[Bool.false_eq_true,if_false,g1',Option.map_some,ay];exact⟨_,rfl,by rw[<- g2,Option.map_map];rfl⟩
theorem afZ{kc vc:CT X.ι}{eq:CT.T X.toSE kc->CT.T X.toSE kc->Bool}(h:Pf kc=some eq){a:CT.T X.toSE kc}{va:Value}(ha:(CT.tv X.toSE kc a).av=.t (.sc va))(y:CT.T X.toSE vc):∀l:U (CT.T X.toSE kc×CT.T X.toSE vc),
 z6 va (CT.tv X.toSE vc y).av (bS (.map kc vc l:cg X)).rows=some (bS (.map kc vc (Hz eq a y l):cg X)).rows
 |[]=>by simp[bS,z6,Hz,ha]
 |p::l=>by
  have⟨vb,h1,h2⟩:=afY h (b:=p.1) ha;have g:=afZ h ha y l;have g':z6 va (CT.tv X.toSE vc y).av (l.map λp=>[(CT.tv X.toSE kc p.1).av,(CT.tv X.toSE vc p.2).av])=some ((Hz eq a y l).map λp=>[(CT.tv X.toSE kc p.1).av,(CT.tv X.toSE vc p.2).av]):=g;simp[bS,h1,z6,Hz]
  grind
theorem zero_den{vc:CT X.ι}{ei:pD}{z:CT.T X.toSE vc}(h:O8 vc (ei.zero.map xi)=some z)(ha:ei.agg=arN vc)(hs:ei.size=CT.sz X vc):part' ei.agg ei.size ((ei.zero.map cv).map wk)=some (CT.tv X.toSE vc z).av:=by
 have hz:=zK h;rw[Ej]at hz;rw[hz,ha,hs];have hl:((CT.row X.toSE vc z).map AV.t).length=CT.sz X vc:=by rw[length_map,Jq]
 unfold part';rw[aM hl];cases vc<;>rfl
theorem apv{d:DV X}{c:CT X.ι}{x:CT.T X.toSE c}(h:dat d c=some x):G0 (den d)=(CT.tv X.toSE c x).av:=by
 cases c
 case st j=>
  replace h:GE d j=some x:=h
  cases d
  case agg cs=>
   simp[GE]at h;rw[ah]at h;obtain⟨g,h1,h⟩:=h;cases h;simp[den,G0,(Aa h1 (X.flat j)).1];rw[<- Yg];rfl
  case c a y=>
   rw[(qh h).1];simp only[den,CT.tv,TV.av,G0,map_map];congr 1
  all_goals cases h
 all_goals
  (have h':=h
   have hd:=xJ h';cases d
   case c a y=>
    obtain⟨e,_⟩:=tZ (show l6 a _ y=some x from h);subst e;exact hd
   all_goals first|exact hd|(cases h))
theorem abf{t:V}{x key:DV X}{ok:Bool}(h:ad7 T t x key ok get k=some r):∃rd dv aa,K9 T t (den x) (den key) ok (eD rd (fT get))=some aa/\jD aa.obs/\aa.v=den dv/\aa.upd=[]/\k dv [] rd []=some r:=by
 unfold ad7 at h;rw[ah]at h;obtain⟨ti,h1,h⟩:=h;split at h
 .rename_i kt et kk hk;rw[ah]at h;obtain⟨ki,h2,h⟩:=h;rw[ah]at h;obtain⟨ei,h3,h⟩:=h;rw[ah]at h;obtain⟨o,h4,h⟩:=h;split at h
  .rename_i kc vc l;rw[ah]at h;obtain⟨eq,h5,h⟩:=h;rw[ah]at h;obtain⟨kv,h6,h⟩:=h;split at h
   .rename_i hc;have⟨z,h7,h⟩:=ah.1 h;have⟨va,g1,g2⟩:=anv hc.1 kv;have⟨q,g3,g4⟩:=acD (vc:=vc) h5 g1 l;have hkey:den key=.t (.sc va):=(by have:=xJ h6;rw[g1]at this;cases hd:den key<;>rw[hd]at this<;>simp only[wk,AV.t.injEq,reduceCtorEq]at this;subst this;rfl);have hv:∀q:J (Nat×AV),q.map (·.2)=(fV eq kv l).map (λ v=>(CT.tv X.toSE vc v).av)->H4 q (part' ei.agg ei.size ((ei.zero.map cv).map wk))=some (CT.tv X.toSE vc ((fV eq kv l).getD z)).av:=by
     intro q g;cases hm:fV eq kv l with
     |none=>
      rw[hm]at g;cases q with
      |none=>exact zero_den h7 hc.2.1 hc.2.2
      |some p=>simp at g
     |some v=>
      rw[hm]at g;cases q with
      |none=>simp at g
      |some p=>simp only[Option.map_some,bX]at g;simp only[H4,g,Option.getD_some]
    have hi:q.isSome=(fV eq kv l).isSome:=(by have:=congrArg Option.isSome g4;simpa using this);have hb:K9 T t (den (.mp kk:DV X)) (den key) ok (eD [kk] (fT get))=pv (if ok then .fR [den (.c vc ((fV eq kv l).getD z):DV X),.t (.sc (.bool q.isSome))]else den (.c vc ((fV eq kv l).getD z):DV X)):=(by simp only[K9,h1,ai,hk,den,hkey,h2,h3,fF (List.mem_singleton_self kk) h4];rw[aM ⟨g2,by simp[bS]⟩,g3,ai,hv q g4,ai]);cases ok with
    |true=>exact⟨[kk],_,_,hb,trivial,by simp only[if_true,den,bQ,hi];rfl,rfl,h⟩
    |false=>exact⟨[kk],_,_,hb,trivial,rfl,rfl,h⟩
   .cases h
  .cases h
 .cases h
theorem abg{t:V}{x key y:DV X}(h:ad8 T t x key y get k=some r):∃rd wr dv upd aa,OU T t (den x) (den key) (den y) (eD rd (fT get))=some aa/\jD aa.obs/\aa.v=den dv/\aa.upd=jr upd/\(∀ p∈upd,p.1∈wr)/\k dv upd rd wr=some r:=by
 unfold ad8 at h;rw[ah]at h;obtain⟨ti,h1,h⟩:=h;split at h
 .rename_i kt et kk hk;rw[ah]at h;obtain⟨ki,h2,h⟩:=h;rw[ah]at h;obtain⟨o,h4,h⟩:=h;split at h
  .rename_i kc vc l;rw[ah]at h;obtain⟨eq,h5,h⟩:=h;rw[ah]at h;obtain⟨kv,h6,h⟩:=h;rw[ah]at h;obtain⟨v,h7,h⟩:=h;split at h
   .rename_i hc;have⟨va,g1,g2⟩:=anv hc kv;have g3:=afZ (vc:=vc) h5 g1 v l;have hkey:den key=.t (.sc va):=(by have:=xJ h6;rw[g1]at this;cases hd:den key<;>rw[hd]at this<;>simp only[wk,AV.t.injEq,reduceCtorEq]at this;subst this;rfl);refine⟨[kk],[kk],_,_,⟨.undef,[(kk,some ⟨(bS (.map kc vc (Hz eq kv v l):cg X)).rows.length,(bS (.map kc vc (Hz eq kv v l):cg X)).rows⟩)],[]⟩,?_,trivial,rfl,?_,by simp,h⟩
    .simp only[OU,h1,ai,hk,den,hkey,h2,fF (List.mem_singleton_self kk) h4];rw[aM ⟨g2,by simp[bS]⟩,apv h7,g3];rfl
    .simp[jr,bS]
   .cases h
  .cases h
 .cases h
theorem aiS(h:ZS T an i o.op ρ get k=some r):er P T i o ρ get k r:=by
 obtain⟨dst,op,ty,aq,after,guard⟩:=o;unfold ZS at h;simp only at h;split at h
 .rename_i op t x y q;split at h
  .rename_i hn;have⟨dv,aa,g1,g2,g3,g4,g5⟩:=aiQ h;have hy:den (ρ y)=.cD:=(by cases hρ:ρ y<;>rw[hρ]at hn<;>first|rfl|cases hn);exact er.ext (n:=0) (rd:=[]) (wr:=[]) (upd:=[]) (by simp only[uQ,hy];exact g1) g2 g3 g4 (by simp) g5
  .cases h
 .rename_i s d x;unfold aqz at h;rw[ah]at h;obtain⟨si,h1,h⟩:=h;rw[ah]at h;obtain⟨di,h2,h⟩:=h;split at h
  .rename_i kd k' n hk hx;refine er.ext (n:=0) (rd:=[]) (wr:=[]) (upd:=[]) (aa:=⟨.t (.sc (.int kd (kd.wrap n))),[],[]⟩) ?_ trivial rfl rfl (by simp) h;simp only[uQ,QP,h1,h2,ai,hk,hx];rfl
  .cases h
 .rename_i t x j;unfold anq at h;rw[ah]at h;obtain⟨ti,h1,h⟩:=h;split at h
  .rename_i s kk n hk hx hj;rw[ah]at h;obtain⟨b,h2,h⟩:=h;refine er.ext (n:=b) (rd:=[]) (wr:=[]) (upd:=[]) (aa:=⟨.t (.sc (.int .u8 b)),[],[0<=n/\∃c,s[n.toNat]? =some c/\b=c.toNat]⟩) ?_ (aiR h2) rfl rfl (by simp) h;simp only[uQ,XL,h1,ai,hk,hx,hj];rfl
  .rename_i m e cs kd q hk hx hj;rw[ah]at h;obtain⟨ei,h2,h⟩:=h;have⟨h3,h⟩:=eX h;rw[ah]at h;obtain⟨v,h4,h⟩:=h;simp only[cR,aY,bF]at h3;refine er.ext (n:=0) (rd:=[]) (wr:=[]) (upd:=[]) (aa:=⟨den v,[],[0<=q/\q<(m:Int)]⟩) ?_ h3 rfl rfl (by simp) h;have h5:=El h4;rw[lD]at h5;simp only[uQ,XL,h1,ai,hk,hx,hj,h2,den,CT.tv,TV.av,h5];rfl
  .cases h
 .rename_i t x lo hi;unfold acA at h;rw[ah]at h;obtain⟨ti,h1,h⟩:=h;split at h
  .rename_i e hk hx;rw[ah]at h;obtain⟨ei,h2,h⟩:=h;rw[ah]at h;obtain⟨l,h3,h⟩:=h;rw[ah]at h;obtain⟨hh,h4,h⟩:=h;have⟨h5,h⟩:=eX h;refine er.ext (n:=0) (rd:=[]) (wr:=[]) (upd:=[]) (aa:=⟨.cD,[],[l=0/\hh=0]⟩) ?_ (show l=0/\hh=0 by simpa using h5) rfl rfl (by simp) h;have e1:=Em h3;have e2:=Em h4;rw[Option.map_map]at e1 e2;simp only[uQ,K8,h1,ai,hk,hx,h2,den];have O2:bnd 0 (lo.map λx=>den (ρ x))=some l:=e1;have e2':bnd 0 (hi.map λx=>den (ρ x))=some hh:=e2;rw[O2,ai,e2'];rfl
  .cases h
 .rename_i x;have⟨dv,g1,g2⟩:=VB h;exact er.xf (n:=0) (rd:=[]) (wr:=[]) (upd:=[]) g1 trivial rfl rfl (by simp) g2
 .rename_i t l c;have⟨dv,upd,aa,g1,g2,g3,g4,g5,g6⟩:=afX h;exact er.xf (n:=0) (rd:=[]) (wr:=[]) (upd:=upd) g1 g2 g3 g4 (λ p hp=>.inl (g5 p hp)) g6
 .rename_i t;have⟨dv,upd,aa,g1,g2,g3,g4,g5,g6⟩:=Yr h;exact er.xf (n:=0) (rd:=[]) (wr:=[]) (upd:=upd) g1 g2 g3 g4 (λ p hp=>.inl (g5 p hp)) g6
 .rename_i t m x ok;have⟨rd,dv,aa,g1,g2,g3,g4,g6⟩:=abf h;exact er.xf (n:=0) (rd:=rd) (wr:=[]) (upd:=[]) g1 g2 g3 g4 (by simp) g6
 .rename_i t m x v;have⟨rd,wr,dv,upd,aa,g1,g2,g3,g4,g5,g6⟩:=abg h;exact er.xf (n:=0) (rd:=rd) (wr:=wr) (upd:=upd) g1 g2 g3 g4 (λ p hp=>.inr (g5 p hp)) g6
 .rename_i b args d6;have⟨rd,wr,dv,upd,aa,g1,g2,g3,g4,g5,g6⟩:=VD h;refine er.ext (n:=0) (rd:=rd) (wr:=wr) (upd:=upd) ?_ g2 g3 g4 g5 g6;simp only[uQ,WY];exact g1
 .cases h
theorem af0{c:CT X.ι}:∀{xs:U Operand}{x:Operand}{y:CT.T X.toSE c×List Bool},x∈xs->He get (ρ x) c=some y->∀j∈b7 (ρ x),j∈B3 get c ρ xs
 |z::xs,x,y,hx,h,j,hj=>by simp[B3];rcases aG.1 hx with rfl|hx;left;rw[h];exact hj;exact .inr (af0 hx h j hj)
 |[],_,_,hx,_,_,_=>by simp at hx
theorem af2{c:CT X.ι}:∀{xs:U Operand}{x:Operand}{y:CT.T X.toSE c×List Bool},x∈xs->He get (ρ x) c=some y->∀b∈y.2,b∈Pr get c ρ xs
 |z::xs,x,y,hx,h,b,hb=>by simp[Pr];rcases aG.1 hx with rfl|hx;left;rw[h];exact hb;exact .inr (af2 hx h b hb)
 |[],_,_,hx,_,_,_=>by simp at hx
theorem aiT(h:ZD T an i o.op ρ get k=some r):er P T i o ρ get k r:=by
 unfold ZD at h;split at h;cases h;rename_i hpick;have⟨c,h1,h⟩:=ah.1 h;have⟨hcs,h⟩:=rq h;have⟨cL,rd,wr,dv,upd,aa,g1,g2,g3,g4,g5,g6⟩:=acw h;generalize lh:B3 get c ρ o.op.operands.toList=ae at*;refine⟨.zd ae (λ x=>den (Mp get c ρ x)) cL,rd++ae,wr++ae,dv,upd++Pg ae,⟨aa.v,aa.upd++ae.map (λ k=>(k,none)),aa.obs++[∀ x∈o.op.operands,(gO P (eD (rd++ae) (fT get)) (den (ρ x)) (den (Mp get c ρ x))/\∀k∈refs (den (ρ x)),k∈ae)\/den (Mp get c ρ x)=den (ρ x)]⟩,?_,?_,g3,?_,?_,g6⟩;unfold kz Jj;simp only;rw[aC hpick];have e:(λ k=>if k∈ae then none else eD (rd++ae) (fT get) k)=eD rd (fT λj=>if j∈ae then none else get j):=by funext j;simp[eD,fT];by_cases hj:j∈ae;simp[hj];simp[hj]
 rw[e,g1];rfl;refine tF _ λp hp=>?_;rcases bD.1 hp with hp|hp;exact sN _ g2 p hp;rw[aI]at hp;subst hp;intro x hx;unfold Mp;rcases hl:He get (ρ x) c with _|y;exact .inr rfl;left;have hx':x∈o.op.operands.toList:=by simpa using hx
 have hin:=λj hj=>lh ▸ af0 hx' hl j hj;obtain⟨hs,obs,p1,p2⟩:=BP (P:=P) (rd:=rd++ae) hl (λ b hb=>hcs b (af2 hx' hl b hb)) (λ j hj=>mem_append_right _ (hin j hj));refine⟨?_,λj hj=>hin j (by rwa [jv]at hj)⟩;have:=p2 [];exact FK _ _ _ this p1;simp[uw,En,g4];intro p hp;rcases bD.1 hp with hp|hp;exact(g5 p hp).imp id (λ h=>mem_append_left _ h);exact .inr (mem_append_right _ (Ld hp))
theorem Yt{c:CT X.ι}:∀{ds:U (DV X)}{xs:U (CT.T X.toSE c)},Gk c ds=some xs->bQ ds=xs.map λy=>den (.c c y:DV X)
 |[],xs,h=>by simp[Gk]at h;subst h;rfl
 |.c a x::ds,xs,h=>by simp[Gk]at h;rw[ah]at h;obtain⟨y,h1,h⟩:=h;rw[ah]at h;obtain⟨l,h2,h⟩:=h;cases h;simp[bQ,Yt h2,(qh h1).1]
 |.agg _::_,_,h|.fR _::_,_,h|.own _ _ _::_,_,h|.ptr _ _ _::_,_,h|.rk _ _ _::_,_,h|.mp _::_,_,h|.t6 _ _ _ _ _::_,_,h|.rp _ _ _::_,_,h|.yq _ _ _ _ _::_,_,h|.fn _ _ _::_,_,h|.en _ _ _::_,_,h|.raw _::_,_,h|.nil::_,_,h|.ub::_,_,h|.skip::_,_,h|.undef::_,_,h=>by simp[Gk]at h
theorem aiU(h:Zs T an o.op ρ get k=some r):er P T i o ρ get k r:=by
 obtain⟨dst,op,ty,aq,after,guard⟩:=o;unfold Zs at h;simp only at h;split at h
 .rename_i t x j;rw[ah]at h;obtain⟨ti,h1,h⟩:=h;split at h
  .rename_i m e kk row ab kd n hk hx hj;rw[ah]at h;obtain⟨ei,h2,h⟩:=h;split at h
   .rename_i hs;have⟨h3,h⟩:=eX h;refine er.op (cL:=.none) (rd:=[]) (wr:=[]) (upd:=[]) (λ _ _ _ e=>by cases e) (aa:=⟨.ptr kk row (ab+n.toNat*1),[],[0<=n/\n.toNat<m]⟩) ?_ ⟨?_,?_,rfl,by simp,h⟩
    .simp only[rW,nK,h1,ai,hk,hx,hj,den,CT.tv,TV.av,h2,hs];rfl
    .simp only[cR,aY,bF]at h3;exact⟨h3.1,by omega⟩
    .simp only[den,Nat.mul_one]
   .cases h
  .rename_i m e c y ab kd n hk hx hj;rw[ah]at h;obtain⟨ei,h2,h⟩:=h;split at h
   .rename_i hs;have⟨h3,h⟩:=eX h;refine er.op (cL:=.none) (rd:=[]) (wr:=[]) (upd:=[]) (λ _ _ _ e=>by cases e) (aa:=⟨.eV (CT.row X.toSE c y) (ab+n.toNat*1),[],[0<=n/\n.toNat<m]⟩) ?_ ⟨?_,?_,rfl,by simp,h⟩
    .simp only[rW,nK,h1,ai,hk,hx,hj,den,CT.tv,TV.av,h2,hs];rfl
    .simp only[cR,aY,bF]at h3;exact⟨h3.1,by omega⟩
    .simp only[den,Nat.mul_one]
   .cases h
  .cases h
 .rename_i t a;rw[ah]at h;obtain⟨ti,h1,h⟩:=h;split at h
  .rename_i kk row ab m n hx;split at h
   .rename_i hs;rw[ah]at h;obtain⟨c,h2,h⟩:=h;split at h
    .rename_i hc;rw[ah]at h;obtain⟨ob,h3,h⟩:=h;split at h
     .rename_i sz rows;have⟨q,h4,h⟩:=ah.1 h;have⟨xs,h5,h⟩:=ah.1 h;have⟨y,h6,h⟩:=ah.1 h;have⟨_,h7⟩:=O9 h6;have h8:=Yt h5;have h9:((bQ q).drop (ab+n.toNat)).take 1=[den (.c c y:DV X)]:=by
       have e1:(bQ ((q.drop ab).take m))[n.toNat]? =some (den (.c c y:DV X)):=(by rw[h8,List.getElem?_map,h7];rfl);rw[lD,List.getElem?_take]at e1;split at e1
       .rw[List.getElem?_drop]at e1;have⟨g1,g2⟩:=dO.1 e1;rw[List.drop_eq_getElem_cons g1,List.take_succ_cons,List.take_zero,g2]
       .cases e1
      refine er.op (cL:=.none) (rd:=[kk]) (wr:=[]) (upd:=[]) (λ _ _ _ e=>by cases e) (aa:=⟨den (.c c y:DV X),[],[]⟩) ?_ ⟨trivial,rfl,rfl,by simp,h⟩;simp only[rW,MC,h1,ai,hx,den,fF (List.mem_singleton_self kk) h3,bS,List.getElem?_map,h4,Option.map_some,hs.1,hs.2];rw[h9];obtain⟨t',g1,g2⟩:=row_one hc y;simp only[den,g2,TV.av];rfl
     .cases h
     .cases h
    .cases h
   .cases h
  .rename_i b y0 ab m n hx;split at h
   .rename_i hs;rw[ah]at h;obtain⟨c,h2,h⟩:=h;split at h
    .rename_i hc;have⟨xs,h5,h⟩:=ah.1 h;have⟨y,h6,h⟩:=ah.1 h;have⟨_,h7⟩:=O9 h6;have h8:=Yt h5;have h9:(((CT.row X.toSE b y0).drop (ab+n.toNat)).take 1).map AV.t=[den (.c c y:DV X)]:=by
      have e1:(bQ (((wJ b y0).drop ab).take m))[n.toNat]? =some (den (.c c y:DV X)):=(by rw[h8,List.getElem?_map,h7];rfl);rw[lD,qL,List.getElem?_take]at e1;split at e1
      .rw[List.getElem?_drop]at e1;have⟨g1,g2⟩:=dO.1 e1;rw[map_take,map_drop,List.drop_eq_getElem_cons g1,List.take_succ_cons,List.take_zero,g2]
      .cases e1
     refine er.op (cL:=.none) (rd:=[]) (wr:=[]) (upd:=[]) (λ _ _ _ e=>by cases e) (aa:=⟨den (.c c y:DV X),[],[]⟩) ?_ ⟨trivial,rfl,rfl,by simp,h⟩;simp only[rW,MC,h1,ai,hx,den,hs.1,hs.2];rw[h9];obtain⟨t',g1,g2⟩:=row_one hc y;simp only[den,g2,TV.av];rfl
    .cases h
   .cases h
  .cases h
 .cases h
end
end
section
variable {X:SX}
structure MA(X:SX) where
 nm:List (Nat×Nat)
 ff:List (DC X)
 ka:List Bool
def addN(m:MA X)(k' k:Nat):MA X:=if m.nm.contains (k',k)then m else⟨m.nm++[(k',k)],m.ff,m.ka⟩
section
variable (get:Nat->Option (cg X))
mutual
def mP:Pt X.ι->DV X->MA X->Option (MA X)
 |.v c,d,m=>(dat d c).bind λx=>some ⟨m.nm,m.ff++[⟨c,x⟩],m.ka⟩
 |.o k,d,m=>match d with
  |.own k' 0 len=>(get k').bind λo=>match o with
   |.ey _ l=>some (addN ⟨m.nm,m.ff,m.ka++[bk len l.length]⟩ k' k)
   |_=>none
  |_=>none
 |.oz k,d,m=>match d with
  |.own k' 0 len=>(get k').bind λo=>match o with
   |.ey _ l=>some (addN ⟨m.nm,m.ff,m.ka++[!(len==0)&&bk len l.length]⟩ k' k)
   |_=>none
  |.oz k' len=>(get k').bind λo=>match o with
   |.ey _ l=>some (addN ⟨m.nm,m.ff,m.ka++[bk len l.length]⟩ k' k)
   |_=>none
  |_=>none
 |.p k,d,m=>match d with
  |.ptr k' 0 0=>some (addN m k' k)
  |_=>none
 |.mp k,d,m=>match d with
  |.mp k'=>some (addN m k' k)
  |_=>none
 |.nil,d,m=>match d with
  |.nil=>some m
  |_=>none
 |.f F fs cs,d,m=>match d with
  |.fn F' first caps=>if F=F' then(t7 fs first m).bind λm=>t7 cs caps m else none
  |_=>none
 |.od k,d,m=>match d with
  |.own k' ab len=>(get k').bind λo=>match o with
   |.ey _ l=>some (addN ⟨m.nm,m.ff++[⟨.int .i64,(ab:Int)⟩],m.ka++[bk (ab+len) l.length]⟩ k' k)
   |_=>none
  |_=>none
 |.a ps,d,m=>match d with
  |.agg ds=>t7 ps ds m
  |_=>none
def t7:List (Pt X.ι)->List (DV X)->MA X->Option (MA X)
 |[],[],m=>some m
 |p::ps,d::ds,m=>(mP p d m).bind λm=>t7 ps ds m
 |_,_,_=>none
end
def Jy(env:Nat->DV X):U (Nat×Pt X.ι)->MA X->J (MA X)
 |[],m=>some m
 |(t,p)::r,m=>(mP get p (env t) m).bind λm=>Jy env r m
def MN:U (List (Pt X.ι))->U (List (DV X))->MA X->J (MA X)
 |[],[],m=>some m
 |r::rs,q::qs,m=>(t7 get r q m).bind λm=>MN rs qs m
 |_,_,_=>none
def nameOf(m:MA X)(k:Nat):Nat:=match m.nm.find? (λ q=>q.2==k)with|some q=>q.1|none=>k
def Eo:U (Nat×OP X.ι)->MA X->J (MA X)
 |[],m=>some m
 |(k,op)::r,m=>(get (nameOf m k)).bind λo=>match op,o with
  |.l c,.ey c' l=>(l6 (.sl c') (.sl c) l).bind λl'=>Eo r (addN ⟨m.nm,m.ff++[⟨.sl c,l'⟩],m.ka⟩ (nameOf m k) k)
  |.m kc vc,.map vf uv l=>(l6 (.mp vf uv) (.mp kc vc) l).bind λl'=>Eo r (addN ⟨m.nm,m.ff++[⟨.mp kc vc,l'⟩],m.ka⟩ (nameOf m k) k)
  |.c sz rows,.cells sz' rows'=>if sz=sz' then(MN get rows rows' (addN m (nameOf m k) k)).bind λm=>Eo r m else none
  |_,_=>none
end
end
section
variable {X:SX} {A:Type}
mutual
def sy(f:Nat->Nat):DV X->DV X
 |.own k ab len=>.own (f k) ab len
 |.ptr k row ab=>.ptr (f k) row ab
 |.rk k n ab=>.rk (f k) n ab
 |.t6 k row ab m n=>.t6 (f k) row ab m n
 |.mp k=>.mp (f k)
 |.oz k len=>.oz (f k) len
 |.agg cs=>.agg (Nh f cs)
 |.fR cs=>.fR (Nh f cs)
 |.fn F first caps=>.fn F (Nh f first) (Nh f caps)
 |x=>x
def Nh(f:Nat->Nat):List (DV X)->List (DV X)
 |[]=>[]
 |x::xs=>sy f x::Nh f xs
end
theorem aiV(f:Nat->Nat):∀l:U Tree,vY f (l.map AV.t)=l.map AV.t
 |[]=>rfl
 |x::xs=>by simp[vY,ix,aiV f xs]
mutual
theorem BQ(f:Nat->Nat):∀x:DV X,den (sy f x)=ix f (den x)
 |.own _ _ _|.ptr _ _ _|.rk _ _ _|.mp _|.oz _ _|.t6 _ _ _ _ _=>rfl
 |.agg cs|.fR cs=>by simp[sy,den,ix,Jz f cs]
 |.fn F first caps=>by simp[sy,den,ix,Jz f first,Jz f caps]
 |.c t x=>by
  simp[sy,den];cases t<;>try rfl
  simp[CT.tv,TV.av,ix,aiV]
 |.rp _ _ _|.yq _ _ _ _ _|.en _ _ _=>rfl
 |.raw v=>by simp[sy,den,cv];split;rfl;split<;>rfl
 |.nil|.ub|.skip|.undef=>rfl
theorem Jz(f:Nat->Nat):∀l:List (DV X),bQ (Nh f l)=vY f (bQ l)
 |[]=>rfl
 |x::xs=>by simp[Nh,bQ,vY,BQ f x,Jz f xs]
end
def p7(f:Nat->Nat):cg X->cg X
 |.cells sz rows=>.cells sz (rows.map (Nh f))
 |o=>o
def ep:cg X->U Nat
 |.cells _ rows=>(rows.map aS).flatten
 |.ey _ _=>[]
 |.map _ _ _=>[]
def Q4:CT X.ι->Bool
 |.int _|.bool|.str=>true
 |_=>false
def yS:CT X.ι->Bool
 |.st i=>(X.d6 i).all Q4
 |c=>Q4 c
theorem FV{c:CT X.ι}(h:Q4 c=true)(x:CT.T X.toSE c):∀t∈CT.row X.toSE c x,t.flat:=by cases c<;>first|(intro t ht;simp[CT.row]at ht;subst ht;exact trivial)|cases h
theorem akH:∀(l:U (CT X.ι))(h:HL X.toSE l),l.all Q4=true->∀t∈HL.row X.toSE l h,t.flat
 |[],_,_,t,ht=>by simp[HL.row]at ht
 |c::l,h,ha,t,ht=>by simp only[all_cons,aY]at ha;rcases bD.1 (show t∈CT.row X.toSE c h.1++HL.row X.toSE l h.2 from ht)with ht|ht;exact FV ha.1 h.1 t ht;exact akH l h.2 ha.2 t ht
theorem wK{c:CT X.ι}(h:yS c=true)(x:CT.T X.toSE c):∀t∈CT.row X.toSE c x,t.flat:=by
 cases c
 case st i=>intro t ht;exact akH (X.d6 i) (X.get i x) h t ((X.oA i x) ▸ ht)
 case int k=>exact FV (c:=.int k) h x
 case bool=>exact FV (c:=.bool) h x
 case str=>exact FV (c:=.str) h x
 case sl e=>cases h
 case any=>cases h
 case mp=>cases h
structure MG(X:SX) where
 nm:List (Nat×Nat)
 ff:List (DC X)
 ka:List Bool
 vr:List Nat
section
variable (get:Nat->Option (cg X))
mutual
def qk:Pt X.ι->DV X->MG X->Option (MG X)
 |.v c,d,m=>(He get d c).bind λx=>some ⟨m.nm,m.ff++[⟨c,x.1⟩],m.ka++x.2,m.vr++b7 d⟩
 |.o k,d,m=>match d with
  |.own k' 0 len=>(get k').bind λo=>match o with
   |.ey _ l=>some ⟨m.nm++[(k',k)],m.ff,m.ka++[bk len l.length],m.vr⟩
   |_=>none
  |_=>none
 |.od k,d,m=>match d with
  |.own k' ab len=>(get k').bind λo=>match o with
   |.ey _ l=>some ⟨m.nm++[(k',k)],m.ff++[⟨.int .i64,(ab:Int)⟩],m.ka++[bk (ab+len) l.length],m.vr⟩
   |_=>none
  |_=>none
 |.p k,d,m=>match d with
  |.ptr k' 0 0=>some ⟨m.nm++[(k',k)],m.ff,m.ka,m.vr⟩
  |_=>none
 |.nil,d,m=>match d with
  |.nil=>some m
  |_=>none
 |.f F fs cs,d,m=>match d with
  |.fn F' first caps=>if F=F' then(ta fs first m).bind λm=>ta cs caps m else none
  |_=>none
 |.mp k,d,m=>match d with
  |.mp k'=>some ⟨m.nm++[(k',k)],m.ff,m.ka,m.vr⟩
  |_=>none
 |.oz _,_,_=>none
 |.a ps,d,m=>match d with
  |.agg ds=>ta ps ds m
  |_=>none
def ta:List (Pt X.ι)->List (DV X)->MG X->Option (MG X)
 |[],[],m=>some m
 |p::ps,d::ds,m=>(qk p d m).bind λm=>ta ps ds m
 |_,_,_=>none
end
def MO:U (List (Pt X.ι))->U (List (DV X))->MG X->J (MG X)
 |[],[],m=>some m
 |r::rs,q::qs,m=>(ta get r q m).bind λm=>MO rs qs m
 |_,_,_=>none
def rm(m:MG X)(k:Nat):Nat:=match m.nm.find? (λ q=>q.2==k)with|some q=>q.1|none=>k
def stC:CT X.ι->Bool
 |.st _=>true
 |_=>false
def Ep:U (Nat×OP X.ι)->MG X->J (MG X)
 |[],m=>some m
 |(k,op)::r,m=>(get (rm m k)).bind λo=>match op,o with
  |.l c,.ey c' l=>(l6 (.sl c') (.sl c) l).bind λl'=>Ep r ⟨m.nm++[(rm m k,k)],m.ff++[⟨.sl c,l'⟩],m.ka,m.vr⟩
  |.m kc vc,.map vf uv l=>if (kc.one=true/\vc.one=true)\/stC kc=true then(l6 (.mp vf uv) (.mp kc vc) l).bind λl'=>Ep r ⟨m.nm++[(rm m k,k)],m.ff++[⟨.mp kc vc,l'⟩],m.ka,m.vr⟩else none
  |.c sz rows,.cells sz' rows'=>if sz=sz' then(MO get rows rows' ⟨m.nm++[(rm m k,k)],m.ff,m.ka,m.vr⟩).bind λm=>Ep r m else none
  |_,_=>none
end
mutual
def Pt.refs:Pt X.ι->List Nat
 |.o k|.od k|.p k|.mp k|.oz k=>[k]
 |.f _ fs cs=>CQ fs++CQ cs
 |.a ps=>CQ ps
 |_=>[]
def CQ:List (Pt X.ι)->List Nat
 |[]=>[]
 |p::ps=>p.refs++CQ ps
end
def OP.refs:OP X.ι->U Nat
 |.l _=>[]
 |.m _ _=>[]
 |.c _ rows=>rows.flatMap CQ
def Is(n k:Nat):Bool:=Nat.blt k n || (Nat.ble 1000 k&&Nat.blt k 1064)
def dg.ok(g:dg X):Bool:=
 decide (g.j7.map (·.1)=List.range g.j7.length)&&decide (g.j7.length<=1000)&&(g.j0.all λq=>Is g.j7.length q.1&&q.2.refs.all λk=>Is g.j7.length k)&&decide (g.j0.map (·.1)).Nodup&&(CQ g.gA).all λk=>Is g.j7.length k
def okG(m:MG X)(ae:U Nat):Bool:=
 decide ae.Nodup&&(m.nm.all λq=>match ae[q.2]? with|some k=>Nat.beq k q.1|none=>false)&&m.vr.all λk=>!ae.contains k
def dg.flat(g:dg X):Bool:=(c7 g.gA).all yS&&g.j0.all λq=>match q.2 with
 |.l c=>yS c
 |.m _ _=>false
 |.c _ rows=>(xK rows).all yS
def ue:U (Nat×cg X)->Nat->J (cg X)
 |[],_=>none
 |(j,o)::r,k=>if j=k then some o else ue r k
def Q3(i:Nat)(ae:U Nat)(os':U (Nat×cg X)):U (Nat×Option (cg X)):=
 (ae.zipIdx.map λp=>(p.1,(ue os' p.2).map (p7 (cn i ae))))++(os'.filter λq=>decide (1000<=q.1)).map λq=>(cn i ae q.1,some (p7 (cn i ae) q.2))
def aiW(g:dg X)(i:Nat)(ds:U (DV X))(get:Nat->J (cg X))(k:KK X A):J A:=
 (ta get g.pS ds ⟨[],[],[],[]⟩).bind λm=>(Ep get g.j7 m).bind λm=>
  bif g.ok&&okG m ((List.range g.j7.length).map (rm m))then(GC (c7 g.pS++dE g.j7) m.ff).bind λv=>Yb m.ka ((g.fn v).bind λr=>
   let ae:=(List.range g.j7.length).map (rm m)
   k (sy (cn i ae) (g.res r)) (Q3 i ae (g.outs r)++(if g.flat then []else m.vr.map λk=>(k,none))) (ae++m.vr) ((ae++(Q3 i ae (g.outs r)).map (·.1))++m.vr))
  else none
section
variable {P:Program} {get:Nat->Option (cg X)} {rd ae:List Nat} {eh:Nat->Nat}
def gE(m m':MG X):Prop:=(∀ q∈m.nm,q∈m'.nm)/\(∀ c∈m.ka,c∈m'.ka)/\∀k∈m.vr,k∈m'.vr
theorem gE.refl(m:MG X):gE m m:=⟨λ _ h=>h,λ_ h=>h,λ_ h=>h⟩
theorem gE.trans{a b c:MG X}(h:gE a b)(h':gE b c):gE a c:=⟨λ q hq=>h'.1 q (h.1 q hq),λq hq=>h'.2.1 q (h.2.1 q hq),λq hq=>h'.2.2 q (h.2.2 q hq)⟩
mutual
theorem anw:∀(p:Pt X.ι)(d:DV X)(m m':MG X),qk get p d m=some m'->gE m m'/\∃ao,m'.ff=m.ff++ao/\ao.length=p.vars.length
 |.v c,d,m,m',h=>by simp[qk]at h;rw[ah]at h;obtain⟨x,h1,h⟩:=h;cases h;exact⟨⟨λ _ h=>h,λ_ h=>by simp[h],λ_ h=>by simp[h]⟩,[⟨c,x.1⟩],rfl,rfl⟩
 |.o k,d,m,m',h=>by simp[qk]at h;split at h;rw[ah]at h;obtain⟨o,h1,h⟩:=h;split at h;cases h;exact⟨⟨λ _ h=>by simp[h],λ_ h=>by simp[h],λ_ h=>h⟩,[],by simp,rfl⟩;cases h;cases h
 |.od k,d,m,m',h=>by simp[qk]at h;split at h;rename_i k' ab len;have⟨o,h1,h⟩:=ah.1 h;split at h;cases h;exact⟨⟨λ _ h=>by simp[h],λ_ h=>by simp[h],λ_ h=>h⟩,[⟨.int .i64,(ab:Int)⟩],rfl,rfl⟩;cases h;cases h
 |.p k,d,m,m',h=>by simp[qk]at h;split at h;cases h;exact⟨⟨λ _ h=>by simp[h],λ_ h=>h,λ_ h=>h⟩,[],by simp,rfl⟩;cases h
 |.nil,d,m,m',h=>by simp[qk]at h;split at h;cases h;exact⟨gE.refl _,[],by simp,rfl⟩;cases h
 |.f F fs cs,d,m,m',h=>by simp[qk]at h;split at h;split at h;have⟨m1,h1,h⟩:=ah.1 h;obtain⟨a1,n1,b1,c1⟩:=xO fs _ m m1 h1;obtain⟨a2,n2,b2,c2⟩:=xO cs _ m1 m' h;exact⟨a1.trans a2,n1++n2,by rw[b2,b1,aP],by simp[Pt.vars,c1,c2]⟩;cases h;cases h
 |.mp k,d,m,m',h=>by simp[qk]at h;split at h;cases h;exact⟨⟨λ _ h=>by simp[h],λ_ h=>h,λ_ h=>h⟩,[],by simp,rfl⟩;cases h
 |.oz _,_,_,_,h=>by simp[qk]at h
 |.a ps,d,m,m',h=>by simp[qk]at h;split at h;exact xO ps _ m m' h;cases h
theorem xO:∀(ps:List (Pt X.ι))(ds:List (DV X))(m m':MG X),ta get ps ds m=some m'->gE m m'/\∃ao,m'.ff=m.ff++ao/\ao.length=(c7 ps).length
 |[],[],m,m',h=>by simp[ta]at h;subst h;exact⟨gE.refl _,[],by simp,rfl⟩
 |p::ps,d::ds,m,m',h=>by simp[ta]at h;have⟨m1,h1,h⟩:=ah.1 h;have⟨a1,n1,b1,c1⟩:=anw p d m m1 h1;have⟨a2,n2,b2,c2⟩:=xO ps ds m1 m' h;exact⟨a1.trans a2,n1++n2,by rw[b2,b1,aP],by simp[c7,c1,c2]⟩
 |[],_::_,m,m',h|_::_,[],m,m',h=>by simp[ta]at h
end
def z7:AV->U LH->U LH
 |.agg _,hs=>.agd::hs
 |_,hs=>hs
theorem Ph(x:AV)(a b:U LH):z7 x (a++b)=z7 x a++b:=by cases x<;>rfl
theorem zL{get':E}{x:AV}{hs:U LH}{p:AV×List LH×List Prop}(h:qw P get' x hs=some p)(hr:∀k∈refs x,k∉ae):sj P get' ae x (z7 x hs)=some p:=by
 have hd:((refs x).all λk=>!ae.contains k)=true:=by simp;exact hr
 cases x
 all_goals
  simp[z7];unfold sj;split<;>first|(simp [qw]at h;done)|(rw [aM hd];exact h)|exact h|exact absurd hd ‹_› |(done)
variable {NM:List (Nat×Nat)} {qn:List Nat}
mutual
theorem alE(hi:∀q∈NM,ae[q.2]? =some q.1)(hv:∀k∈qn,k∉ae)(hrd:∀k,(∃ q,(k,q)∈NM)\/k∈qn->k∈rd)(ho:∀q∈NM,∀c l,get q.1=some (.ey c l)->eh q.2=l.length):
 ∀(p:Pt X.ι)(d:DV X)(m m':MG X),qk get p d m=some m'->(∀ q∈m'.nm,q∈NM)->(∀ c∈m'.ka,c=true)->(∀ k∈m'.vr,k∈qn)->
 ∃ao,m'.ff=m.ff++ao/\∃d',(∀ ag,eP eh p (ao++ag)=(d',ag))/\(∃ hs obs,(∀ p∈obs,p)/\∀ag,sj P (eD rd (fT get)) ae (den d) (hs++ag)=some (den d',ag,obs))/\∀j∈b7 d,(∃ q,(j,q)∈NM)\/j∈qn
 |.v c,d,m,m',h,hn,hc,hr=>by simp[qk]at h;rw[ah]at h;obtain⟨x,h1,h⟩:=h;cases h;have CM:∀j∈b7 d,j∈qn:=λj hj=>hr j (by simp[hj]);obtain⟨hs,obs,p1,q1⟩:=BP (P:=P) (rd:=rd) h1 (λ b hb=>hc b (by simp[hb])) (λ j hj=>hrd j (.inr (CM j hj)));refine⟨[⟨c,x.1⟩],rfl,.c c x.1,λag=>rfl,⟨z7 (den d) hs,obs,p1,λag=>?_⟩,λj hj=>.inr (CM j hj)⟩;rw[<- Ph];exact zL (q1 ag) (λ k hk=>hv k (CM k (by rwa [jv]at hk)))
 |.o k,d,m,m',h,hn,hc,hr=>by
  simp[qk]at h;split at h;rename_i k' len;rw[ah]at h;obtain⟨o,h1,h⟩:=h;split at h;rename_i c l;cases h;have hq:(k',k)∈NM:=hn _ (by simp);have he:len=l.length:=by have:=hc (bk len l.length) (by simp);simpa[bk]using this
  refine⟨[],by simp,.own k 0 (eh k),λag=>rfl,⟨[.mut k],[],by simp,λag=>?_⟩,λj hj=>?_⟩;simp[den,sj,hi _ hq,ho _ hq c l h1,he];simp[b7]at hj;subst hj;exact .inl ⟨k,hq⟩;cases h;cases h
 |.od k,d,m,m',h,hn,hc,hr=>by
  simp[qk]at h;split at h;rename_i k' ab len;rw[ah]at h;obtain⟨o,h1,h⟩:=h;split at h;rename_i c l;cases h;have hq:(k',k)∈NM:=hn _ (by simp);have he:ab+len=l.length:=by have:=hc (bk (ab+len) l.length) (by simp);simpa[bk]using this
  refine⟨[⟨.int .i64,(ab:Int)⟩],rfl,.own k ab (eh k-ab),λag=>?_,⟨[.mut k],[],by simp,λag=>?_⟩,λj hj=>?_⟩;have:HI (X:=X) ⟨.int .i64,(ab:Int)⟩=ab:=by simp[HI];rw[Ym];simp
  simp[eP,this];simp[den,sj,hi _ hq,ho _ hq c l h1,show l.length-ab=len by omega];simp[b7]at hj;subst hj;exact .inl ⟨k,hq⟩;cases h;cases h
 |.p k,d,m,m',h,hn,hc,hr=>by simp[qk]at h;split at h;rename_i k';cases h;have hq:(k',k)∈NM:=hn _ (by simp);refine⟨[],by simp,.ptr k 0 0,λag=>rfl,⟨[.mut k],[],by simp,λag=>?_⟩,λj hj=>?_⟩;simp[den,cons_append,sj,hi _ hq];simp[b7]at hj;subst hj;exact .inl ⟨k,hq⟩;cases h
 |.nil,d,m,m',h,hn,hc,hr=>by simp[qk]at h;split at h;cases h;refine⟨[],by simp,.nil,λag=>rfl,⟨[.nil],[],by simp,λag=>?_⟩,by simp[b7]⟩;exact zL (by simp[den,cons_append,qw]) (by simp[den,refs]);cases h
 |.f F fs cs,d,m,m',h,hn,hc,hr=>by
  simp[qk]at h;split at h;rename_i F' first caps
  split at h;rename_i e;subst e;rw[ah]at h;obtain⟨m1,h1,h⟩:=h;have hm:=(xO cs _ m1 m' h).1;obtain⟨n1,a1,f',b1,⟨hs1,o1,p1,q1⟩,r1⟩:=zM hi hv hrd ho fs _ m m1 h1 (λ q hq=>hn q (hm.1 q hq)) (λ q hq=>hc q (hm.2.1 q hq)) (λ q hq=>hr q (hm.2.2 q hq));obtain⟨n2,a2,c',b2,⟨hs2,o2,p2,q2⟩,r2⟩:=zM hi hv hrd ho cs _ m1 m' h hn hc hr;refine⟨n1++n2,by rw[a2,a1,aP],.fn F f' c',λag=>by simp[eP,b1,b2],⟨.fnw::(hs1++hs2),o1++o2,iK p1 p2,λag=>?_⟩,λj hj=>?_⟩;simp[den,cons_append,sj,q1,q2];simp[b7]at hj;exact hj.elim (r1 j) (r2 j);cases h;cases h
 |.mp k,d,m,m',h,hn,hc,hr=>by simp[qk]at h;split at h;rename_i k';cases h;have hq:(k',k)∈NM:=hn _ (by simp);refine⟨[],by simp,.mp k,λag=>rfl,⟨[.mut k],[],by simp,λag=>?_⟩,λj hj=>?_⟩;simp[den,cons_append,sj,hi _ hq];simp[b7]at hj;subst hj;exact .inl ⟨k,hq⟩;cases h
 |.oz _,_,_,_,h,_,_,_=>by simp[qk]at h
 |.a ps,d,m,m',h,hn,hc,hr=>by simp[qk]at h;split at h;rename_i ds;have⟨n1,a1,f',b1,⟨hs1,o1,p1,q1⟩,r1⟩:=zM hi hv hrd ho ps ds m m' h hn hc hr;refine⟨n1,a1,.agg f',λag=>by simp[eP,b1],⟨.agw::hs1,o1,p1,λag=>?_⟩,λj hj=>r1 j (by simpa[b7]using hj)⟩;simp[den,cons_append,sj,q1];cases h
theorem zM(hi:∀q∈NM,ae[q.2]? =some q.1)(hv:∀k∈qn,k∉ae)(hrd:∀k,(∃ q,(k,q)∈NM)\/k∈qn->k∈rd)(ho:∀q∈NM,∀c l,get q.1=some (.ey c l)->eh q.2=l.length):
 ∀(ps:List (Pt X.ι))(ds:List (DV X))(m m':MG X),ta get ps ds m=some m'->(∀ q∈m'.nm,q∈NM)->(∀ c∈m'.ka,c=true)->(∀ k∈m'.vr,k∈qn)->
 ∃ao,m'.ff=m.ff++ao/\∃ds',(∀ ag,lP eh ps (ao++ag)=(ds',ag))/\(∃ hs obs,(∀ p∈obs,p)/\∀ag,nL P (eD rd (fT get)) ae (bQ ds) (hs++ag)=some (bQ ds',ag,obs))/\∀j∈aS ds,(∃ q,(j,q)∈NM)\/j∈qn
 |[],[],m,m',h,_,_,_=>by simp[ta]at h;subst h;exact⟨[],by simp,[],λag=>rfl,⟨[],[],by simp,λag=>rfl⟩,by simp[aS]⟩
 |p::ps,d::ds,m,m',h,hn,hc,hr=>by simp[ta]at h;have⟨m1,h1,h⟩:=ah.1 h;have hm:=(xO ps ds m1 m' h).1;obtain⟨n1,a1,d',b1,⟨hs1,o1,p1,q1⟩,r1⟩:=alE hi hv hrd ho p d m m1 h1 (λ q hq=>hn q (hm.1 q hq)) (λ q hq=>hc q (hm.2.1 q hq)) (λ q hq=>hr q (hm.2.2 q hq));have⟨n2,a2,ds',b2,⟨hs2,o2,p2,q2⟩,r2⟩:=zM hi hv hrd ho ps ds m1 m' h hn hc hr;refine⟨n1++n2,by rw[a2,a1,aP],d'::ds',λag=>by simp[lP,b1,b2],⟨hs1++hs2,o1++o2,iK p1 p2,λag=>?_⟩,λj hj=>?_⟩;simp[bQ,nL,q1,q2];simp[aS]at hj;exact hj.elim (r1 j) (r2 j)
 |[],_::_,m,m',h,_,_,_=>by simp[ta]at h
 |_::_,[],m,m',h,_,_,_=>by simp[ta]at h
end
theorem Ad:∀(rs:U (List (Pt X.ι)))(qs:U (List (DV X)))(m m':MG X),MO get rs qs m=some m'->gE m m'/\∃ao,m'.ff=m.ff++ao/\ao.length=(xK rs).length
 |[],[],m,m',h=>by simp[MO]at h;subst h;exact⟨gE.refl _,[],by simp,rfl⟩
 |r::rs,q::qs,m,m',h=>by simp[MO]at h;have⟨m1,h1,h⟩:=ah.1 h;have⟨a1,n1,b1,c1⟩:=xO r q m m1 h1;have⟨a2,n2,b2,c2⟩:=Ad rs qs m1 m' h;exact⟨a1.trans a2,n1++n2,by rw[b2,b1,aP],by simp[xK,c1,c2]⟩
 |[],_::_,m,m',h|_::_,[],m,m',h=>by simp[MO]at h
theorem UR(hi:∀q∈NM,ae[q.2]? =some q.1)(hv:∀k∈qn,k∉ae)(hrd:∀k,(∃ q,(k,q)∈NM)\/k∈qn->k∈rd)(ho:∀q∈NM,∀c l,get q.1=some (.ey c l)->eh q.2=l.length):
 ∀(rs:U (List (Pt X.ι)))(qs:U (List (DV X)))(m m':MG X),MO get rs qs m=some m'->(∀ q∈m'.nm,q∈NM)->(∀ c∈m'.ka,c=true)->(∀ k∈m'.vr,k∈qn)->
 ∃ao,m'.ff=m.ff++ao/\∃G1,(∀ ag,xM eh rs (ao++ag)=(G1,ag))/\(∃ hs obs,(∀ p∈obs,p)/\CB P (eD rd (fT get)) ae (qs.map bQ) hs=some (G1.map bQ,obs))/\∀j∈(qs.map aS).flatten,(∃ q,(j,q)∈NM)\/j∈qn
 |[],[],m,m',h,_,_,_=>by simp[MO]at h;subst h;exact⟨[],by simp,[],λag=>rfl,⟨[],[],by simp,rfl⟩,by simp⟩
 |r::rs,q::qs,m,m',h,hn,hc,hr=>by simp[MO]at h;have⟨m1,h1,h⟩:=ah.1 h;have hm:=(Ad rs qs m1 m' h).1;obtain⟨n1,a1,d',b1,⟨hs1,o1,p1,q1⟩,r1⟩:=zM (P:=P) hi hv hrd ho r q m m1 h1 (λ q hq=>hn q (hm.1 q hq)) (λ q hq=>hc q (hm.2.1 q hq)) (λ q hq=>hr q (hm.2.2 q hq));have⟨n2,a2,ds',b2,⟨hs2,o2,p2,q2⟩,r2⟩:=UR hi hv hrd ho rs qs m1 m' h hn hc hr;refine⟨n1++n2,by rw[a2,a1,aP],d'::ds',λag=>by simp[xM,b1,b2],⟨hs1::hs2,o1++o2,iK p1 p2,?_⟩,λj hj=>?_⟩;have:=q1 [];rw[append_nil]at this;simp[CB,this,q2];simp only[bK,flatten_cons,bD]at hj;exact hj.elim (r1 j) (r2 j)
 |[],_::_,m,m',h,_,_,_|_::_,[],m,m',h,_,_,_=>by simp[MO]at h
theorem nM:∀(os:U (Nat×OP X.ι))(m m':MG X),Ep get os m=some m'->gE m m'/\∃ao,m'.ff=m.ff++ao/\ao.length=(dE os).length
 |[],m,m',h=>by simp[Ep]at h;subst h;exact⟨gE.refl _,[],by simp,rfl⟩
 |(k,op)::r,m,m',h=>by simp[Ep]at h;rw[ah]at h;obtain⟨o,h1,h⟩:=h;split at h;rename_i c c' l;rw[ah]at h;obtain⟨l',h2,h⟩:=h;obtain⟨a2,n2,b2,c2⟩:=nM r _ m' h;refine⟨gE.trans (b:=⟨m.nm++[(rm m k,k)],m.ff++[⟨.sl c,l'⟩],m.ka,m.vr⟩) ⟨λ _ h=>by simp[h],λ_ h=>h,λ_ h=>h⟩ a2,[⟨.sl c,l'⟩]++n2,?_,by simp[dE,c2]⟩;rw[b2,aP];rename_i kc vc vf uv l;split at h;rw[ah]at h;obtain⟨l',h2,h⟩:=h;obtain⟨a2,n2,b2,c2⟩:=nM r _ m' h;refine⟨gE.trans (b:=⟨m.nm++[(rm m k,k)],m.ff++[⟨.mp kc vc,l'⟩],m.ka,m.vr⟩) ⟨λ _ h=>by simp[h],λ_ h=>h,λ_ h=>h⟩ a2,[⟨.mp kc vc,l'⟩]++n2,?_,by simp[dE,c2]⟩;rw[b2,aP];cases h;rename_i sz rows sz' rows';split at h;rw[ah]at h;obtain⟨m1,h2,h⟩:=h;obtain⟨a1,n1,b1,c1⟩:=Ad rows _ _ m1 h2;have⟨a2,n2,b2,c2⟩:=nM r m1 m' h;refine⟨gE.trans (gE.trans (b:=⟨m.nm++[(rm m k,k)],m.ff,m.ka,m.vr⟩) ⟨λ _ h=>by simp[h],λ_ h=>h,λ_ h=>h⟩ a1) a2,n1++n2,?_,by simp[dE,c1,c2]⟩;rw[b2,b1,aP];cases h;cases h
theorem FW:∀(os:U (Nat×OP X.ι))(m m':MG X),Ep get os m=some m'->(∀ q∈m'.nm,q∈NM)->∃ao,m'.ff=m.ff++ao/\∀ag,∀k∈os.map (·.1),∃k' o,(k',k)∈NM/\get k'=some o/\∀c l,o=.ey c l->(k,List.length l)∈lens os (ao++ag)
 |[],m,m',h,_=>by simp[Ep]at h;subst h;exact⟨[],by simp,λag k hk=>by simp at hk⟩
 |(k,op)::r,m,m',h,hn=>by
  simp[Ep]at h;rw[ah]at h;obtain⟨o,h1,h⟩:=h;split at h;rename_i c c' l;rw[ah]at h;obtain⟨l',h2,h⟩:=h;have hm:=(nM r _ m' h).1;obtain⟨n2,b2,c2⟩:=FW r _ m' h hn;refine⟨[⟨.sl c,l'⟩]++n2,by rw[b2,aP],λag j hj=>?_⟩;simp only[bK,aG]at hj;by_cases hjk:j=k;subst hjk;refine⟨_,_,hn _ (hm.1 _ (by simp)),h1,λc2 l2 he=>?_⟩;injection he with e1 e2;subst e1;subst e2;have:=congrArg List.length (jN h2).2;simp at this;rw[this];exact List.mem_cons_self;rcases hj with rfl|hj;exact(hjk rfl).elim;have⟨k',o',g1,g2,g3⟩:=c2 ag j hj;exact⟨k',o',g1,g2,λc l he=>bq _ (g3 c l he)⟩;rename_i kc vc vf uv l;split at h;rw[ah]at h;obtain⟨l',h2,h⟩:=h;have hm:=(nM r _ m' h).1;obtain⟨n2,b2,c2⟩:=FW r _ m' h hn;refine⟨[⟨.mp kc vc,l'⟩]++n2,by rw[b2,aP],λag j hj=>?_⟩;simp only[bK,aG]at hj;by_cases hjk:j=k;subst hjk;exact⟨_,_,hn _ (hm.1 _ (by simp)),h1,λc2 l2 he=>by cases he⟩;rcases hj with rfl|hj;exact(hjk rfl).elim;exact c2 ag j hj;cases h;rename_i sz rows sz' rows';split at h;have⟨m1,h2,h⟩:=ah.1 h;obtain⟨a1,n1,b1,c1⟩:=Ad rows _ _ m1 h2;have hm:=(nM r _ m' h).1;obtain⟨n2,b2,c2⟩:=FW r _ m' h hn;refine⟨n1++n2,by rw[b2,b1,aP],λag j hj=>?_⟩;simp only[bK,aG]at hj;have hd:(n1++n2++ag).drop (xK rows).length=n2++ag:=by rw[<- c1,aP,List.drop_left]
  simp only[lens,hd];by_cases hjk:j=k;subst hjk;exact⟨_,_,hn _ (hm.1 _ (a1.1 _ (by simp))),h1,λc2 l2 he=>by cases he⟩;rcases hj with rfl|hj;exact(hjk rfl).elim;exact c2 ag j hj;cases h;cases h
theorem Ni:∀(os:U (Nat×OP X.ι))(L:U (DC X)),((lens os L).map (·.1)).Sublist (os.map (·.1))
 |[],_=>by simp[lens]
 |(k,.l c)::r,L=>by simp[lens];split;exact(Ni r _).cons_cons _;exact List.nil_sublist _
 |(k,.m kc vc)::r,L|(k,.c sz rows)::r,L=>(Ni r _).cons _
def alF(get':E)(NM:U (Nat×Nat))(qn:U Nat)(bs:U OB)(ks:U Nat):Prop:=
 ∀(j:Nat) hs q o,bs[j]? =some (.Fi hs)->ks[j]? =some q->get' q=some o->∀k∈RL o,(∃ z,(k,z)∈NM)\/k∈qn
theorem Pj{sz:Nat}{rows:U (List (DV X))}{k:Nat}(h:k∈RL (bS (.cells sz rows))):k∈(rows.map aS).flatten:=by simp[RL,bS]at h;obtain⟨a,⟨r,hr,rfl⟩,hk⟩:=h;rw[jw]at hk;exact List.mem_flatten.2 ⟨_,mem_map.2 ⟨r,hr,rfl⟩,hk⟩
theorem aea:∀ts:U Tree,cu (ts.map AV.t)=[]
 |[]=>rfl
 |t::ts=>by simp[cu,refs,aea ts]
theorem akJ{P:Ξ}{get:E}:∀(ts:U Tree)(hs:U LH),nW P get (ts.map AV.t) hs=some (ts.map AV.t,hs,[])
 |[],hs=>rfl
 |t::ts,hs=>by simp[nW,qw,akJ ts hs]
theorem alG{P:Ξ}{get:E}{ae:U Nat}(v:TV):sj P get ae v.av []=some (v.av,[],[]):=by rcases v with x|cs;rfl;have h:refs (.agg (cs.map AV.t))=[]:=aea cs;simp[TV.av,sj,h,qw,akJ]
theorem acE{P:Ξ}{get:E}{ae:U Nat}:∀rows:U (TV×TV),CB P get ae (rows.map λq=>[q.1.av,q.2.av]) (rows.map λ_=>[])=some (rows.map λq=>[q.1.av,q.2.av],[])
 |[]=>rfl
 |q::rows=>by simp[CB,nL,alG,acE rows]
theorem BR(hi:∀q∈NM,ae[q.2]? =some q.1)(hv:∀k∈qn,k∉ae)(hrd:∀k,(∃ q,(k,q)∈NM)\/k∈qn->k∈rd)(ho:∀q∈NM,∀c l,get q.1=some (.ey c l)->eh q.2=l.length):
 ∀(os:U (Nat×OP X.ι))(m m':MG X),Ep get os m=some m'->(∀ q∈m'.nm,q∈NM)->(∀ c∈m'.ka,c=true)->(∀ k∈m'.vr,k∈qn)->
 ∃ao,m'.ff=m.ff++ao/\∃xs:U (Nat×cg X),(∀ ag,dL eh os (ao++ag)=xs.map λp=>(p.1,some p.2))/\
  ∃bs mo,(∀ p∈mo,p)/\Jm P (eD rd (fT get)) ae (os.map λp=>(ae[p.1]?).getD 0) bs=some (xs.map λp=>bS p.2,mo)/\alF (eD rd (fT get)) NM qn bs (os.map λp=>(ae[p.1]?).getD 0)
 |[],m,m',h,_,_,_=>by simp[Ep]at h;subst h;exact⟨[],by simp,[],λag=>rfl,[],[],by simp,rfl,λj hs q o h=>by simp at h⟩
 |(k,op)::r,m,m',h,hn,hc,hr=>by
  simp[Ep]at h;rw[ah]at h;obtain⟨o,h1,h⟩:=h;split at h;rename_i c c' l;have⟨l',h2,h⟩:=ah.1 h;have hm:=(nM r _ m' h).1;have hq:(rm m k,k)∈NM:=hn _ (hm.1 _ (by simp));have hid:(ae[k]?).getD 0=rm m k:=by rw[hi _ hq];rfl
  have hget:=fF (hrd (rm m k) (.inl ⟨k,hq⟩)) h1;have⟨h3,h4⟩:=jN h2;obtain⟨n2,a2,xs,b2,bs,mo,p2,q2,r2⟩:=BR hi hv hrd ho r _ m' h hn hc hr;refine⟨[⟨.sl c,l'⟩]++n2,by rw[a2,aP],(k,.ey c l')::xs,λag=>by simp[dL,b2],.dat (CT.sz X c,l'.map (CT.row X.toSE c))::bs,((bS (.ey c' l)).sz=CT.sz X c/\dZ ((bS (.ey c' l)).rows.take (l'.map (CT.row X.toSE c)).length)=aK (l'.map (CT.row X.toSE c)))::mo,?_,?_,?_⟩;intro p hp;rcases aG.1 hp with rfl|hp;refine⟨h3,?_⟩;simp[bS,h4];rw[take_of_length_le (by simp[aK])];simp[dZ,aK,wk];exact p2 p hp;simp[Jm,XQ,hid,hget,q2,cons_append];rfl;intro j hs q o' hj hq' ho';cases j with
  |zero=>simp at hj
  |succ j=>exact r2 j hs q o' (by simpa using hj) (by simpa using hq') ho'
  rename_i kc vc vf uv l;split at h;rename_i hone;have⟨l',h2,h⟩:=ah.1 h;have hm:=(nM r _ m' h).1;have hq:(rm m k,k)∈NM:=hn _ (hm.1 _ (by simp));have hid:(ae[k]?).getD 0=rm m k:=by rw[hi _ hq];rfl
  have hget:=fF (hrd (rm m k) (.inl ⟨k,hq⟩)) h1;have hden:bS (.map vf uv l)=bS (.map kc vc l'):=by have⟨e,h2⟩:=tZ h2;injection e with e1 e2;subst e1;subst e2;subst h2;rfl
  obtain⟨n2,a2,xs,b2,bs,mo,p2,q2,r2⟩:=BR hi hv hrd ho r _ m' h hn hc hr;rcases hone with hone|_;have hab:bS (.map kc vc l')=iS (List.length l',l'.map λq=>CT.row X.toSE kc q.1++CT.row X.toSE vc q.2):=by simp only[bS,iS,aK,map_map];congr 1;refine map_congr_left λq _=>?_;obtain⟨t1,g1,g2⟩:=row_one hone.1 q.1;obtain⟨t2,g3,g4⟩:=row_one hone.2 q.2;simp[g1,g2,g3,g4,TV.av]
  refine⟨[⟨.mp kc vc,l'⟩]++n2,by rw[a2,aP],(k,.map kc vc l')::xs,λag=>by simp[cons_append,dL,b2],.dat (List.length l',l'.map λq=>CT.row X.toSE kc q.1++CT.row X.toSE vc q.2)::bs,((bS (.map vf uv l)).sz=List.length l'/\dZ ((bS (.map vf uv l)).rows.take (l'.map λq=>CT.row X.toSE kc q.1++CT.row X.toSE vc q.2).length)=aK (l'.map λq=>CT.row X.toSE kc q.1++CT.row X.toSE vc q.2))::mo,?_,?_,?_⟩;intro p hp;rcases aG.1 hp with rfl|hp;rw[hden,hab];refine⟨rfl,?_⟩;simp[iS];rw[take_of_length_le (by simp[aK])];simp[dZ,aK,Function.comp_def,wk];exact p2 p hp;simp[Jm,XQ,hid,hget,q2,cons_append,hab];intro j hs q o' hj hq' ho';cases j with
  |zero=>simp at hj
  |succ j=>exact r2 j hs q o' (by simpa using hj) (by simpa using hq') ho'
  refine⟨[⟨.mp kc vc,l'⟩]++n2,by rw[a2,aP],(k,.map kc vc l')::xs,λag=>by simp[cons_append,dL,b2],.Fi ((l'.map λq=>(CT.tv X.toSE kc q.1,CT.tv X.toSE vc q.2)).map λ_=>[])::bs,mo,p2,?_,?_⟩;have hlr:=acE (P:=P) (get:=eD rd (fT get)) (ae:=ae) (l'.map λq=>(CT.tv X.toSE kc q.1,CT.tv X.toSE vc q.2));have hdr:(bS (.map kc vc l')).rows=(l'.map λq=>(CT.tv X.toSE kc q.1,CT.tv X.toSE vc q.2)).map λq=>[q.1.av,q.2.av]:=by simp only[bS,map_map];rfl
  simp only[bK,Jm,XQ,hid,hget,ai,q2,hden,hdr,hlr,fO];rw[<- hdr];intro j hs q o' hj hq' ho';cases j with
  |zero=>
   simp at hq';subst hq';rw[hid,hget]at ho';injection ho' with ho';subst ho';intro k hk;rw[hden]at hk;simp only[RL,bS,mem_flatMap,mem_map]at hk;obtain⟨_,⟨q,_,rfl⟩,hk⟩:=hk;simp[cu,BN,append_nil]at hk
  |succ j=>exact r2 j hs q o' (by simpa using hj) (by simpa using hq') ho'
  cases h;rename_i sz rows sz' rows';split at h;rename_i hsz;have⟨m1,h2,h⟩:=ah.1 h;have hm1:=(Ad rows _ _ m1 h2).1;have hm:=(nM r _ m' h).1;have hq:(rm m k,k)∈NM:=hn _ (hm.1 _ (hm1.1 _ (by simp)));have hid:(ae[k]?).getD 0=rm m k:=by rw[hi _ hq];rfl
  have hget:=fF (hrd (rm m k) (.inl ⟨k,hq⟩)) h1;obtain⟨n1,a1,qs,b1,⟨hs1,o1,p1,q1⟩,r1⟩:=UR (P:=P) hi hv hrd ho rows _ _ m1 h2 (λ q hq=>hn q (hm.1 q hq)) (λ q hq=>hc q (hm.2.1 q hq)) (λ q hq=>hr q (hm.2.2 q hq));obtain⟨n2,a2,xs,b2,bs,mo,p2,q2,r2⟩:=BR hi hv hrd ho r _ m' h hn hc hr;subst hsz;refine⟨n1++n2,by rw[a2,a1,aP],(k,.cells sz qs)::xs,λag=>by simp[dL,b1,b2],.Fi hs1::bs,o1++mo,iK p1 p2,?_,?_⟩;simp[Jm,XQ,hid,hget,bS,q1,q2];intro j hs q o' hj hq' ho';cases j with
  |zero=>
   simp at hq';rw[<- hq',hid,hget]at ho';injection ho' with ho';subst ho';exact λz hz=>r1 z (Pj hz)
  |succ j=>exact r2 j hs q o' (by simpa using hj) (by simpa using hq') ho'
  cases h;cases h
end
end
end Go.Gb
namespace Go.Gb
open Go.RowKit
section
variable {X:SX} {A:Type}
theorem aiX:∀(l:U (CT X.ι))(v:VT (X:=X) l),(xL l v).map (·.c)=l
 |[],_|[_],_=>rfl
 |c::c'::l,v=>by simp[xL,aiX (c'::l) v.2]
theorem R7:∀{l:U Tree},(∀ t∈l,t.flat)->rf (l.map AV.t)
 |[],_=>trivial
 |t::l,h=>⟨h t (by simp),R7 (λ u hu=>h u (by simp[hu]))⟩
theorem aeb{c:CT X.ι}(h:yS c=true)(x:CT.T X.toSE c):zW (CT.tv X.toSE c x).av:=by
 have hf:=wK h x;cases c
 case st i=>exact R7 hf
 all_goals first|exact hf _ (aI.2 rfl)|cases h
section
variable {ol:Nat->Nat}
mutual
theorem apw:∀(p:Pt X.ι)(L:List (DC X))(cs:List (CT X.ι)),L.map (·.c)=p.vars++cs->p.vars.all yS=true->zW (den (eP ol p L).1)/\(eP ol p L).2.map (·.c)=cs
 |.v c,L,cs,h,hs=>by
  match L,h with
  |d::r,h=>
   simp[Pt.vars]at h;simp[Pt.vars]at hs;exact⟨aeb (h.1 ▸ hs) d.x,h.2⟩
  |[],h=>simp[Pt.vars]at h
 |.o k,L,cs,h,_|.p k,L,cs,h,_|.mp k,L,cs,h,_|.oz k,L,cs,h,_|.nil,L,cs,h,_=>⟨trivial,by simpa[Pt.vars,eP]using h⟩
 |.od k,L,cs,h,_=>by
  match L,h with
  |d::r,h=>
   simp[Pt.vars]at h;exact⟨trivial,h.2⟩
  |[],h=>simp[Pt.vars]at h
 |.f F fs ps,L,cs,h,hs=>by simp only[Pt.vars,List.all_append,aY]at hs;simp[Pt.vars]at h;obtain⟨a1,a2⟩:=Er fs L _ h hs.1;obtain⟨b1,b2⟩:=Er ps _ _ a2 hs.2;exact⟨⟨a1,b1⟩,b2⟩
 |.a ps,L,cs,h,hs=>by simp only[Pt.vars]at h hs;exact Er ps L cs h hs
theorem Er:∀(ps:List (Pt X.ι))(L:List (DC X))(cs:List (CT X.ι)),L.map (·.c)=c7 ps++cs->(c7 ps).all yS=true->rf (bQ (lP ol ps L).1)/\(lP ol ps L).2.map (·.c)=cs
 |[],L,cs,h,_=>⟨trivial,by simpa[c7,lP]using h⟩
 |p::ps,L,cs,h,hs=>by simp only[c7,List.all_append,aY]at hs;simp[c7]at h;obtain⟨a1,a2⟩:=apw p L _ h hs.1;obtain⟨b1,b2⟩:=Er ps _ _ a2 hs.2;exact⟨⟨a1,b1⟩,b2⟩
end
mutual
theorem apx:∀(p:Pt X.ι)(L:List (DC X)),∀j∈b7 (eP ol p L).1,j∈p.refs
 |.v c,L,j,h=>by cases L<;>simp[eP,b7]at h
 |.o k,L,j,h|.p k,L,j,h|.mp k,L,j,h|.oz k,L,j,h=>by simpa[eP,b7,Pt.refs]using h
 |.nil,L,j,h=>by simp[eP,b7]at h
 |.od k,L,j,h=>by cases L<;>simp[eP,b7]at h<;>simp[Pt.refs,h]
 |.f F fs ps,L,j,h=>by simp[eP,b7]at h;simp[Pt.refs];exact h.imp (Ae fs _ j) (Ae ps _ j)
 |.a ps,L,j,h=>by simp[eP]at h;simp[Pt.refs];exact Ae ps _ j h
theorem Ae:∀(ps:List (Pt X.ι))(L:List (DC X)),∀j∈aS (lP ol ps L).1,j∈CQ ps
 |[],L,j,h=>by simp[lP,aS]at h
 |p::ps,L,j,h=>by simp[lP,aS]at h;simp[CQ];exact h.imp (apx p _ j) (Ae ps _ j)
end
theorem Nj:∀(rs:U (List (Pt X.ι)))(L:U (DC X))(cs:U (CT X.ι)),L.map (·.c)=xK rs++cs->(xM ol rs L).2.map (·.c)=cs/\((xK rs).all yS=true->∀r∈(xM ol rs L).1,rf (bQ r))
 |[],L,cs,h=>⟨by simpa[xK,xM]using h,by simp[xM]⟩
 |r::rs,L,cs,h=>by simp[xK]at h;have step:(lP ol r L).2.map (·.c)=xK rs++cs:=vl r L _ h;obtain⟨b1,b2⟩:=Nj rs _ _ step;refine⟨b1,λhs q hq=>?_⟩;simp only[xK,List.all_append,aY]at hs;simp[xM]at hq;rcases hq with rfl|hq;exact(Er r L _ h hs.1).1;exact b2 hs.2 q hq
where
 vl (ps:U (Pt X.ι)) (L:U (DC X)) (cs:U (CT X.ι)) (h:L.map (·.c)=c7 ps++cs):(lP ol ps L).2.map (·.c)=cs:=px ps L cs h
 Fc:∀(p:Pt X.ι)(L:U (DC X))(cs:U (CT X.ι)),L.map (·.c)=p.vars++cs->(eP ol p L).2.map (·.c)=cs
  |.v c,L,cs,h=>by
   match L,h with
   |d::r,h=>simp only[Pt.vars,bK,List.singleton_append,List.cons.injEq]at h;exact h.2
   |[],h=>simp[Pt.vars]at h
  |.o k,L,cs,h=>by simpa[Pt.vars,eP]using h
  |.p k,L,cs,h=>by simpa[Pt.vars,eP]using h
  |.mp k,L,cs,h=>by simpa[Pt.vars,eP]using h
  |.oz k,L,cs,h=>by simpa[Pt.vars,eP]using h
  |.nil,L,cs,h=>by simpa[Pt.vars,eP]using h
  |.od k,L,cs,h=>by
   match L,h with
   |d::r,h=>simp only[Pt.vars,bK,List.singleton_append,List.cons.injEq]at h;exact h.2
   |[],h=>simp[Pt.vars]at h
  |.f F fs ps,L,cs,h=>by simp only[Pt.vars,aP]at h;exact px ps _ _ (px fs L _ h)
  |.a ps,L,cs,h=>by simp only[Pt.vars]at h;exact px ps L cs h
 px:∀(ps:U (Pt X.ι))(L:U (DC X))(cs:U (CT X.ι)),L.map (·.c)=c7 ps++cs->(lP ol ps L).2.map (·.c)=cs
  |[],L,cs,h=>by simpa[c7,lP]using h
  |p::ps,L,cs,h=>by simp only[c7,aP]at h;exact px ps _ _ (Fc p L _ h)
theorem Yu:∀(rs:U (List (Pt X.ι)))(L:U (DC X)),∀j∈((xM ol rs L).1.map aS).flatten,j∈rs.flatMap CQ
 |[],L,j,h=>by simp[xM]at h
 |r::rs,L,j,h=>by simp only[xM,bK,flatten_cons,bD]at h;simp only[List.flatMap_cons,bD];exact h.imp (Ae r _ j) (Yu rs _ j)
theorem Af:∀(O:U (Nat×OP X.ι))(L:U (DC X)),((dW (dL ol O L)).map (·.1)).Sublist (O.map (·.1))/\(∀ p∈dW (dL ol O L),∃op,(p.1,op)∈O/\∀j∈ep p.2,j∈op.refs)/\
 (L.map (·.c)=dE O->(O.all λq=>match q.2 with|.l c=>yS c|.m _ _=>false|.c _ rows=>(xK rows).all yS)=true->∀p∈dW (dL ol O L),∀r∈(bS p.2).rows,rf r)
 |[],L=>⟨by simp[dL,dW],by simp[dL,dW],by simp[dL,dW]⟩
 |(k,.l c)::O,L=>by
  match L with
  |[]=>exact⟨by simp[dL,dW],by simp[dL,dW],by simp[dL,dW]⟩
  |⟨.sl c',x⟩::L=>
   have⟨h1,h2,h3⟩:=Af O L;refine⟨?_,?_,?_⟩;simp only[dL,dW,bK];exact h1.cons_cons _;intro p hp;simp[dL,dW]at hp;rcases hp with rfl|hp;exact⟨.l c,by simp,by simp[ep]⟩;have⟨op,g1,g2⟩:=h2 p hp;exact⟨op,bq _ g1,g2⟩;intro hL hs p hp r hr;simp only[bK,dE,List.cons.injEq]at hL;simp only[all_cons,aY]at hs;simp[dL,dW]at hp;rcases hp with rfl|hp;obtain⟨e,_⟩:=hL;injection e with e;simp only[bS,aK,mem_map]at hr;obtain⟨q,⟨y,hy,rfl⟩,rfl⟩:=hr;exact R7 (wK (e ▸ hs.1) y);exact h3 hL.2 hs.2 p hp r hr
  |⟨.int _,x⟩::L=>exact⟨by simp[dL,dW],by simp[dL,dW],by simp[dL,dW]⟩
  |⟨.bool,x⟩::L=>exact⟨by simp[dL,dW],by simp[dL,dW],by simp[dL,dW]⟩
  |⟨.str,x⟩::L=>exact⟨by simp[dL,dW],by simp[dL,dW],by simp[dL,dW]⟩
  |⟨.any,x⟩::L=>exact⟨by simp[dL,dW],by simp[dL,dW],by simp[dL,dW]⟩
  |⟨.mp _ _,x⟩::L=>exact⟨by simp[dL,dW],by simp[dL,dW],by simp[dL,dW]⟩
  |⟨.st _,x⟩::L=>exact⟨by simp[dL,dW],by simp[dL,dW],by simp[dL,dW]⟩
 |(k,.m kc vc)::O,L=>by
  match L with
  |[]=>exact⟨by simp[dL,dW],by simp[dL,dW],by simp[dL,dW]⟩
  |⟨.mp vf uv,x⟩::L=>
   have⟨h1,h2,h3⟩:=Af O L;refine⟨?_,?_,?_⟩;simp only[dL,dW,bK];exact h1.cons_cons _;intro p hp;simp[dL,dW]at hp;rcases hp with rfl|hp;exact⟨.m kc vc,by simp,by simp[ep]⟩;have⟨op,g1,g2⟩:=h2 p hp;exact⟨op,bq _ g1,g2⟩;intro hL hs;simp at hs
  |⟨.sl _,x⟩::L=>exact⟨by simp[dL,dW],by simp[dL,dW],by simp[dL,dW]⟩
  |⟨.int _,x⟩::L=>exact⟨by simp[dL,dW],by simp[dL,dW],by simp[dL,dW]⟩
  |⟨.bool,x⟩::L=>exact⟨by simp[dL,dW],by simp[dL,dW],by simp[dL,dW]⟩
  |⟨.str,x⟩::L=>exact⟨by simp[dL,dW],by simp[dL,dW],by simp[dL,dW]⟩
  |⟨.any,x⟩::L=>exact⟨by simp[dL,dW],by simp[dL,dW],by simp[dL,dW]⟩
  |⟨.st _,x⟩::L=>exact⟨by simp[dL,dW],by simp[dL,dW],by simp[dL,dW]⟩
 |(k,.c sz rows)::O,L=>by have⟨h1,h2,h3⟩:=Af O (xM ol rows L).2;refine⟨?_,?_,?_⟩;simp only[dL,dW,bK];exact h1.cons_cons _;intro p hp;simp[dL,dW]at hp;rcases hp with rfl|hp;exact⟨.c sz rows,by simp,λj hj=>Yu rows L j hj⟩;have⟨op,g1,g2⟩:=h2 p hp;exact⟨op,bq _ g1,g2⟩;intro hL hs p hp r hr;simp[dE]at hL;simp only[all_cons,aY]at hs;obtain⟨e1,e2⟩:=Nj (ol:=ol) rows L _ hL;simp[dL,dW]at hp;rcases hp with rfl|hp;simp[bS,mem_map]at hr;obtain⟨q,hq,rfl⟩:=hr;exact e2 hs.1 q hq;exact h3 e1 hs.2 p hp r hr
end
theorem R8(k:Nat):∀os:U (Nat×cg X),pP (uS os) k=(ue os k).map bS
 |[]=>rfl
 |(j,o)::r=>by simp[uS,pP,ue];split;rfl;exact R8 k r
theorem Yv(f:Nat->Nat)(c:CT X.ι)(x:CT.T X.toSE c):ix f (CT.tv X.toSE c x).av=(CT.tv X.toSE c x).av:=(BQ f (.c c x)).symm
theorem af3(f:Nat->Nat)(o:cg X):bS (p7 f o)=xI f (bS o):=by
 cases o with
 |cells sz rows=>simp only[p7,bS,xI,map_map];congr 1;exact map_congr_left λr _=>Jz f r
 |ey c l=>simp only[p7,bS,xI,aK,map_map];congr 1;exact map_congr_left λr _=>(aiV f _).symm
 |map kc vc l=>simp only[p7,bS,xI,map_map];congr 1;exact map_congr_left λr _=>by simp[vY,Yv]
theorem alH(i:Nat)(ae:U Nat)(os:U (Nat×cg X)):jr (Q3 i ae os)=BE i ae (uS os):=by simp[Q3,uw];congr 1;simp only[jr,map_map];refine map_congr_left λp _=>?_;simp[R8];cases ue os p.2<;>simp[af3];simp[jr,uS,List.filter_map];refine map_congr_left λq _=>?_;simp[af3]
theorem Yw{ds:U (DV X)}:(∀ j∈refs (den (Ab ds)),j∈aS ds)/\(rf (bQ ds)->zW (den (Ab ds))):=by
 match ds with
 |[]=>exact⟨λ j hj=>by simp[Ab,den,bQ,refs,cu]at hj,λ_=>by simp[Ab];exact trivial⟩
 |[d]=>exact⟨λ j hj=>by simp[Ab,jv]at hj;simpa[aS]using hj,λh=>h.1⟩
 |d::e::r=>exact⟨λ j hj=>by simp[Ab,den,refs,jw]at hj;exact hj,λh=>h⟩
theorem acF:∀xs:U (Nat×cg X),dW (xs.map λp=>(p.1,some p.2))=xs
 |[]=>rfl
 |p::xs=>by simp[dW,acF xs]
theorem aec{P:Ξ}{g:dg X}{F:FuncId}(hg:Mu P F g){i:Nat}{first args caps:U (DV X)}{get:Nat->J (cg X)}{k:KK X A}{r:A}(h:aiW g i (first++args++caps) get k=some r):
 ∃cL rd wr dv upd aa,mH P i (den (.fn F first caps)) (bQ args) cL (eD rd (fT get))=some aa/\jD aa.obs/\aa.v=den dv/\aa.upd=jr upd/\(∀ p∈upd,p.1=cE i\/p.1∈wr)/\k dv upd rd wr=some r:=by
 unfold aiW at h;rw[ah]at h;obtain⟨m1,h1,h⟩:=h;rw[ah]at h;obtain⟨m,h2,h⟩:=h;have⟨h3,h⟩:=eX h;rw[ah]at h;obtain⟨v,h4,h⟩:=h;have⟨h5,h⟩:=rq h;rw[ah]at h;obtain⟨rr,h6,h⟩:=h;simp at h3;obtain⟨hok,C1⟩:=h3;simp only at h;generalize lh:(List.range g.j7.length).map (rm m)=ae at h C1;simp only[dg.ok,aY,bF]at hok;obtain⟨⟨⟨⟨n1,n2⟩,n3⟩,n4⟩,n5⟩:=hok;simp only[okG,aY,bF]at C1;obtain⟨⟨hnd,hnm⟩,CM⟩:=C1;have hlen:ae.length=g.j7.length:=by rw[<- lh];simp
 have hi:∀q∈m.nm,ae[q.2]? =some q.1:=by intro q hq;have:=all_eq_true.1 hnm q hq;split at this;rename_i k' e;rw[e,Nat.eq_of_beq_eq_true this];cases this
 have hv:∀k∈m.vr,k∉ae:=λk hk=>by have:=all_eq_true.1 CM k hk;simpa using this
 have hrd:∀k,(∃ q,(k,q)∈m.nm)\/k∈m.vr->k∈ae++m.vr:=by rintro k (⟨q,hq⟩|hk);exact mem_append_left _ (dM (hi _ hq));exact mem_append_right _ hk
 have hm2:=(nM _ _ _ h2).1;have xa:=Yl h4;obtain⟨_,nA,dA,lA⟩:=xO _ _ _ _ h1;simp at dA;obtain⟨nB,dB,lB⟩:=FW (NM:=m.nm) _ _ _ h2 (λ q hq=>hq);have hL:m.ff=nA++nB:=by rw[dB,dA]
 have hdrop:(xL _ v).drop (c7 g.pS).length=nB:=by rw[xa,hL,<- lA,List.drop_left]
 have htake:(xL _ v).take (c7 g.pS).length=nA:=by rw[xa,hL,<- lA,List.take_left]
 have ho:∀q∈m.nm,∀c l,get q.1=some (.ey c l)->FU g.j7 nB q.2=l.length:=by
  rintro⟨p,q⟩ hq c l hl;have hq2:=hi _ hq;have hqn:q<g.j7.length:=by rw[<- hlen];exact(dO.1 hq2).1
  obtain⟨p',o,g1,g2,g3⟩:=lB [] q (by rw[n1];exact List.mem_range.2 hqn);have:p'=p:=by have e1:=hi _ g1;rw[hq2]at e1;injection e1 with e1;exact e1.symm
  subst this;simp at hl;rw[hl]at g2;injection g2 with g2;have h3:=g3 c l g2.symm;rw[append_nil]at h3;have hk:=(Ni g.j7 nB).nodup (by rw[n1];exact List.nodup_range);simp[FU,wI hk h3]
 obtain⟨Tb,LS,ds',eA,⟨hs,obs,pA,qA⟩,rA⟩:=zM (P:=P) (ae:=ae) (rd:=ae++m.vr) (NM:=m.nm) (qn:=m.vr) (eh:=FU g.j7 nB) hi hv hrd ho _ _ _ _ h1 (λ q hq=>hm2.1 q hq) (λ c hc=>h5 c (hm2.2.1 c hc)) (λ q hq=>hm2.2.2 q hq);obtain⟨nB',XX,xs,eB,bs,mo,pB,qB,rB⟩:=BR (P:=P) (ae:=ae) (rd:=ae++m.vr) (NM:=m.nm) (qn:=m.vr) (eh:=FU g.j7 nB) hi hv hrd ho _ _ _ h2 (λ q hq=>hq) h5 (λ q hq=>hq);have Xs:Tb=nA:=by simp at LS;rw[<- LS,dA]
 have W8:nB'=nB:=List.append_cancel_left (XX.symm.trans dB);subst Xs W8;have LO:=eA [];have LN:=eB [];rw[append_nil]at LO LN;have hargs:g.args v=ds':=by simp[dg.args,Yn,hdrop,htake,LO]
 have uc:g.c8 v=xs:=by simp[dg.c8,NX,hdrop,LN,acF]
 have UP:(g.j7.map λp=>(ae[p.1]?).getD 0)=ae:=by
  have:(g.j7.map λp=>(ae[p.1]?).getD 0)=(g.j7.map (·.1)).map λj=>(ae[j]?).getD 0:=by rw[map_map];rfl
  rw[this,n1];refine List.ext_getElem (by simp[hlen]) λj a b=>?_;simp[dY b]
 rw[UP]at qB rB;have qA0:=qA [];rw[append_nil,jb,jb]at qA0;have hcon:=hg v rr h6;rw[hargs,uc]at hcon;obtain⟨s1,s2,s3⟩:=Af (ol:=FU g.j0 ((xL (i9 (lR 0 g.gA)++dE g.j0) rr).drop (c7 g.gA).length)) g.j0 ((xL _ rr).drop (c7 g.gA).length);have Cp:∀k,Is g.j7.length k=true->F0 ae.length k:=by intro k hk;simp[Is]at hk;simp[hlen];exact hk
 have good:HQ ae.length (uS (g.outs rr)) (den (g.res rr)):=by
  refine⟨?_,?_,?_,?_⟩;intro q hq;simp only[uS,mem_map]at hq;obtain⟨p,hp,rfl⟩:=hq;have⟨op,g1,_⟩:=s2 p hp;have:=all_eq_true.1 n3 _ g1;simp at this;exact Cp _ this.1;have:(uS (g.outs rr)).map (·.1)=(g.outs rr).map (·.1):=by simp[uS]
  rw[this];exact s1.nodup n4;intro q hq r' hr' j hj;simp only[uS,mem_map]at hq;obtain⟨p,hp,rfl⟩:=hq;have⟨op,g1,g2⟩:=s2 p hp;have:=all_eq_true.1 n3 _ g1;simp only[aY]at this;refine Cp _ (all_eq_true.1 this.2 j (g2 j ?_));obtain⟨pk,po⟩:=p;cases po with
  |cells sz rows=>exact Pj (mem_flatMap.2 ⟨r',hr',hj⟩)
  |ey c l=>
   simp[bS,aK,mem_map]at hr';obtain⟨z,_,rfl⟩:=hr';rw[aea]at hj;simp at hj
  |map kc vc l=>
   simp only[bS,mem_map]at hr';obtain⟨z,_,rfl⟩:=hr';simp only[cu,BN,append_nil]at hj;simp at hj
  intro j hj;have:=(Yw (ds:=Yn g.gA g.j0 (xL _ rr))).1 j hj;exact Cp _ (all_eq_true.1 n5 j (Ae g.gA _ j this))
 have flat:g.flat=true->nr (uS (g.outs rr)) (den (g.res rr)):=by intro hf;simp only[dg.flat,aY]at hf;have hc:(xL (i9 (lR 0 g.gA)++dE g.j0) rr).map (·.c)=c7 g.gA++dE g.j0:=(aiX _ rr).trans (by rw[R3]);refine⟨(Yw (ds:=Yn g.gA g.j0 (xL _ rr))).2 ?_,?_⟩;refine(Er (ol:=_) g.gA _ [] ?_ hf.1).1;rw[append_nil,map_take,hc,List.take_left];intro q hq r' hr';simp only[uS,mem_map]at hq;obtain⟨p,hp,rfl⟩:=hq;exact s3 (by rw[map_drop,hc,List.drop_left]) hf.2 p hp r' hr'
 have c9:XR (eD (ae++m.vr) (fT get)) (bQ first++bQ args++bQ caps) ae m.vr bs:=by refine⟨hv,λj hj hn=>?_,λj hs' q o e1 e2 e3 z hz hn=>?_⟩;rw[<- jb,<- jb,jw]at hj;rcases rA j hj with ⟨q,hq⟩|hj;exact absurd (dM (hi _ hq)) hn;exact hj;rcases rB j hs' q o e1 e2 e3 z hz with ⟨q',hq⟩|hz;exact absurd (dM (hi _ hq)) hn;exact hz
 refine⟨.ut ae m.vr bs hs (uS (g.outs rr)) (den (g.res rr)) g.flat,ae++m.vr,_,_,_,
  ⟨ix (cn i ae) (den (g.res rr)),BE i ae (uS (g.outs rr))++(if g.flat then []else m.vr.map λk=>(k,none)),obs++mo++[GS P F (bQ ds') (xs.map λp=>bS p.2) (uS (g.outs rr)) (den (g.res rr)),HQ ae.length (uS (g.outs rr)) (den (g.res rr)),XR (eD (ae++m.vr) (fT get)) (bQ first++bQ args++bQ caps) ae m.vr bs]++(if g.flat then [nr (uS (g.outs rr)) (den (g.res rr))]else [])⟩,?_,?_,(BQ _ _).symm,?_,?_,h⟩
 simp only[den,mH,OV,qB,qA0,ai];rw[aM ⟨hnd,by omega⟩];refine tF _ (iK (iK (iK pA pB) ?_) ?_);intro z hz;simp only[aG,aQ,or_false]at hz;rcases hz with rfl|rfl|rfl;exact hcon;exact good;exact c9;intro z hz;cases hf:g.flat with
 |true=>rw[hf]at hz;simp only[if_true,aI]at hz;subst hz;exact flat hf
 |false=>rw[hf]at hz;simp at hz
 simp[uw,alH];congr 1;cases g.flat with
 |true=>rfl
 |false=>exact(En m.vr).symm
 intro p hp;refine .inr ?_;rcases bD.1 hp with hp|hp;exact mem_append_left _ (mem_append_right _ (mem_map.2 ⟨p,hp,rfl⟩));cases hf:g.flat with
 |true=>rw[hf]at hp;simp at hp
 |false=>
  rw[hf]at hp;simp[Bool.false_eq_true,mem_map]at hp;obtain⟨z,hz,rfl⟩:=hp;exact mem_append_right _ hz
end
section
variable {X:SX} {A:Type}
def Yx:RT X.ι->Bool
 |.d c=>yS c
 |.fresh e=>yS e
 |.whole _=>true
 |.mu c=>yS c
 |.mr c=>yS c
 |.mv=>true
theorem af4{c:CT X.ι}(h:yS c=true)(x:CT.T X.toSE c):(CT.tv X.toSE c x).flat:=by
 cases c
 case st i=>exact wK h x
 all_goals first|exact trivial|cases h
theorem Yy{ns:U Nat}{q:RT X.ι}{x:RT.T X q}(h:Yx q=true):∀c∈Yo ns q x,c.flat:=by
 intro c hc;cases q<;>simp[Yo]at hc
 case d c=>subst hc;exact af4 h x
 case fresh e=>
  subst hc;intro row hr;obtain⟨y,_,rfl⟩:=mem_map.1 hr;exact wK h y
 case whole j=>subst hc;exact trivial
theorem UU{ns:U Nat}:∀{l:U (RT X.ι)}{x:uM X l},l.all Yx=true->∀c∈CO ns l x,c.flat
 |[],x,_,c,hc=>by simp[CO]at hc
 |[q],x,h,c,hc=>Yy (by simpa using h) c hc
 |q::q'::l,x,h,c,hc=>by simp at h;simp[CO]at hc;rcases hc with hc|hc;exact Yy h.1 c hc;exact UU (by simp;exact h.2) c hc
theorem Yz{l:U (RT X.ι)}(x:uM X l)(h:l.all Yx=true):(uU l x).flat:=by have:=UU (ns:=An l x) (x:=x) h;unfold uU;split;rename_i c hc;exact this c (by rw[hc];simp);exact this
theorem acG{q:RT X.ι}{x:RT.T X q}(h:Yx q=true):XI (sw q x):=by
 intro p hp;cases q<;>simp[sw]at hp
 case mu c=>
  subst hp;intro r hr;obtain⟨y,_,rfl⟩:=mem_map.1 hr;exact wK h y
 case mr c=>
  subst hp;intro r hr;obtain⟨y,_,rfl⟩:=mem_map.1 hr;exact wK h y
theorem acH:∀{l:U (RT X.ι)}{x:uM X l},l.all Yx=true->XI (pX l x)
 |[],x,_=>λp hp=>by simp[pX]at hp
 |[q],x,h=>acG (q:=q) (by simpa using h)
 |q::q'::l,x,h=>by simp at h;intro p hp;rcases bD.1 (show some p∈sw q x.1++pX (q'::l) x.2 from hp)with hp|hp;exact acG h.1 p hp;exact acH (l:=q'::l) (by simp;exact h.2) p hp
def JA(i:Nat)(ae ns:U Nat):(q:RT X.ι)->RT.T X q->U (DV X)×List (Nat×Option (cg X))
 |.d c,x=>([.c c x],[])
 |.fresh e,l=>([.own (cE i) 0 l.length],[(cE i,some (.ey e l))])
 |.whole j,_=>([match ae[j]? with|some k=>.own k 0 (ns.getD j 0)|none=>.undef],[])
 |_,_=>([],[])
def MP(i:Nat)(ae ns:U Nat):(l:U (RT X.ι))->uM X l->J (List (DV X)×List (Nat×Option (cg X)))
 |[],_=>some ([],[])
 |[q],x=>some (JA i ae ns q x)
 |q::q'::l,x=>(MP i ae ns (q'::l) x.2).bind λp=>if (JA i ae ns q x.1).2.isEmpty || p.2.isEmpty then some ((JA i ae ns q x.1).1++p.1,(JA i ae ns q x.1).2++p.2)else none
def arR:U (DV X)->DV X
 |[d]=>d
 |ds=>.fR ds
def HB(i:Nat)(ae:U Nat)(l:U (RT X.ι))(x:uM X l):J (DV X×List (Nat×Option (cg X))):=
 (MP i ae (An l x) l x).bind λp=>some (arR p.1,p.2)
theorem aed(u:U (Nat×Option (cg X))):(jr u).isEmpty=u.isEmpty:=by cases u<;>rfl
theorem acI(i:Nat)(ae ns:U Nat)(q:RT X.ι)(x:RT.T X q):(∃ c,Yo ns q x=[c]/\∃d,(JA i ae ns q x).1=[d]/\LJ i ae c=(den d,jr (JA i ae ns q x).2))\/(Yo ns q x=[]/\JA i ae ns q x=([],[])):=by
 cases q
 case d c=>exact .inl ⟨_,rfl,_,rfl,rfl⟩
 case fresh e=>exact .inl ⟨_,rfl,_,rfl,by simp[LJ,JA,den,jr,bS,aK]⟩
 case whole j=>
  refine .inl ⟨_,rfl,_,rfl,?_⟩;simp[LJ,jr,JA];cases ae[j]?<;>rfl
 all_goals exact .inr ⟨rfl,rfl⟩
theorem af5(i:Nat)(ae:U Nat)(c:RC):OM i ae [c]=some ([(LJ i ae c).1],(LJ i ae c).2):=by simp[OM]
theorem acJ(i:Nat)(ae ns:U Nat):∀(l:U (RT X.ι))(x:uM X l)(p:U (DV X)×List (Nat×Option (cg X))),MP i ae ns l x=some p->OM i ae (CO ns l x)=some (bQ p.1,jr p.2)
 |[],_,p,h=>by simp[MP]at h;subst h;rfl
 |[q],x,p,h=>by simp[MP]at h;subst h;simp[CO];rcases acI i ae ns q x with ⟨c,h1,d,h2,h3⟩|⟨h1,h2⟩;rw[h1,af5,h2,h3];simp[bQ];rw[h1,h2];rfl
 |q::q'::l,x,p,h=>by simp only[MP]at h;rw[ah]at h;obtain⟨p',h1,h⟩:=h;have ih:=acJ i ae ns (q'::l) x.2 p' h1;split at h;rename_i hc;cases h;simp[CO];rcases acI i ae ns q x.1 with ⟨c,h1,d,h2,h3⟩|⟨h1,h2⟩;rw[h1];simp only[List.singleton_append,OM,ih,ai,h3,aed];rw[aM hc,h2];simp[bQ,jr];rw[h1,h2];exact ih;cases h
theorem af6{i:Nat}{ae:U Nat}{l:U (RT X.ι)}{x:uM X l}{p:DV X×List (Nat×Option (cg X))}(h:HB i ae l x=some p):imp i ae (uU l x)=some (den p.1,jr p.2):=by
 unfold HB at h;rw[ah]at h;obtain⟨p',h1,h⟩:=h;cases h;have ih:=acJ i ae _ l x p' h1;unfold uU;split;rename_i c hc;rw[hc,af5]at ih;simp at ih;obtain⟨ds,u⟩:=p'
 match ds,ih with
 |[d],ih=>
  simp[bQ]at ih;simp[imp,arR,<- ih.1,<- ih.2]
 |[],ih|_::_::_,ih=>simp[bQ]at ih
 rename_i hne;simp[imp,ih];obtain⟨ds,u⟩:=p'
 match ds,ih with
 |[],_|_::_::_,_=>rfl
 |[d],ih=>
  exfalso;generalize hcs:CO (An l x) l x=cs at ih hne
  match cs,ih,hne with
  |[],ih,_=>simp[OM,bQ]at ih
  |[c],_,hne=>exact hne c rfl
  |c::c'::cs,ih,_=>
   simp[OM]at ih;cases h3:OM i ae cs with
   |none=>rw[h3]at ih;simp at ih
   |some q=>
    rw[h3]at ih;simp at ih;split at ih;simp only[ai]at ih;split at ih;simp[bQ]at ih;cases ih;simp at ih
def Pl:(q:RT X.ι)->RT.T X q->U (Option (cg X))
 |.mu c,x=>[some (.ey c x)]
 |.mr c,x=>[some (.cells (CT.sz X c) [wJ c x])]
 |.mv,_=>[none]
 |_,_=>[]
def YA:(l:U (RT X.ι))->uM X l->U (Option (cg X))
 |[],_=>[]
 |[q],x=>Pl q x
 |q::q'::l,x=>Pl q x.1++YA (q'::l) x.2
def MQ:U Nat->U (Option (cg X))->U (Nat×Option (cg X))
 |k::ae,p::os=>(k,p)::MQ ae os
 |_,_=>[]
theorem af7(q:RT X.ι)(x:RT.T X q):(Pl q x).map (·.map bS)=(sw q x).map (·.map iS):=by
 cases q<;>try rfl
 case mr c=>simp[Pl,sw,bS,iS,vZ,aK,qL]
theorem R9:∀(l:U (RT X.ι))(x:uM X l),(YA l x).map (·.map bS)=(pX l x).map (·.map iS)
 |[],_=>rfl
 |[q],x=>af7 q x
 |q::q'::l,x=>by simp[YA,pX,af7,R9 (q'::l) x.2]
theorem acK:∀(ae:U Nat)(os:U (Option (cg X)))(os':U (Option fD)),os.map (·.map bS)=os'.map (·.map iS)->jr (MQ ae os)=CF ae os'
 |[],_,_,_=>by simp[MQ,CF,jr]
 |_::_,[],[],_=>rfl
 |k::ae,p::os,p'::os',h=>by simp at h;have:=acK ae os os' h.2;simp[jr]at this;simp[MQ,CF,jr,h.1,this]
 |_::_,[],_::_,h|_::_,_::_,[],h=>by simp at h
theorem Nk:∀{ae:U Nat}{os:U (Option (cg X))}{p:Nat×Option (cg X)},p∈MQ ae os->p.1∈ae
 |[],_,_,h|_::_,[],_,h=>by simp[MQ]at h
 |k::ae,q::os,p,h=>by simp[MQ]at h;rcases h with rfl|h;simp;exact bq _ (Nk h)
def aee(get:Nat->J (cg X))(d:DV X)(c:CT X.ι):J (List (CT.T X.toSE c)×Nat×List Bool):=
 match d with
 |.own k 0 len=>(get k).bind λo=>match o with
  |.ey b l=>(l6 (.sl b) (.sl c) l).bind λ(l:List (CT.T X.toSE c))=>some (l,k,[bk len (List.length l)])
  |_=>none
 |_=>none
def YB(get:Nat->J (cg X))(d:DV X)(c:CT X.ι):J (CT.T X.toSE c×Nat):=
 match d with
 |.ptr k 0 0=>(get k).bind λo=>match o with
  |.cells sz [row]=>if sz=CT.sz X c then(O8 c row).bind λx=>some (x,k)else none
  |_=>none
 |_=>none
def qM(Γ:FuncId->J (ct X))(get:Nat->J (cg X)):U (DV X)->(l:U (AT X.ι))->J (jC X l×List Nat×List Bool)
 |[],[]=>some ((),[],[])
 |d::ds,.mut c::l=>(aee get d c).bind λx=>(qM Γ get ds l).bind λh=>some ((x.1,h.1),x.2.1::h.2.1,x.2.2++h.2.2)
 |d::ds,.ip c::l=>(YB get d c).bind λx=>(qM Γ get ds l).bind λh=>some ((x.1,h.1),x.2::h.2.1,h.2.2)
 |d::ds,.d c::l=>(UO Γ get 3 [d] [.d c]).bind λx=>(qM Γ get ds l).bind λh=>some ((x.1.1,h.1),h.2.1,x.2++h.2.2)
 |d::ds,.ref c::l=>(UO Γ get 3 [d] [.ref c]).bind λx=>(qM Γ get ds l).bind λh=>some ((x.1.1,h.1),h.2.1,x.2++h.2.2)
 |d::ds,.en as r::l=>(UO Γ get 3 [d] [.en as r]).bind λx=>(qM Γ get ds l).bind λh=>some ((x.1.1,h.1),h.2.1,x.2++h.2.2)
 |d::ds,.nil::l=>match d with
  |.nil=>(qM Γ get ds l).bind λh=>some (((),h.1),h.2.1,h.2.2)
  |_=>none
 |_,_=>none
def Lf:U (DV X)->U (AT X.ι)->U Nat
 |d::ds,a::l=>(if a.im then []else b7 d)++Lf ds l
 |_,_=>[]
def YC(get:Nat->J (cg X)):U (DV X)->(l:U (CT X.ι))->J (HL X.toSE l×List Bool)
 |[],[]=>some ((),[])
 |d::ds,c::l=>(He get d c).bind λx=>(YC get ds l).bind λh=>some ((x.1,h.1),x.2++h.2)
 |_,_=>none
variable (Γ:FuncId->Option (ct X))
def anx(i:Nat)(f:DV X)(args:U (DV X))(get:Nat->J (cg X))(k:KK X A):J A:=
 match f with
 |.fn F first caps=>(Γ F).bind λs=>match s.gen.filter λg=>(ta get g.pS (first++args++caps) ⟨[],[],[],[]⟩).isSome with
  |some g=>aiW g i (first++args++caps) get k
  |none=>if (s.args.all (λ q=>q.pl)&&s.res.all (λ q=>!q.out))=true then(UO Γ get 3 (first++args++caps) s.args).bind λa=>Yb a.2 ((s.fn a.1).bind λx=>(HB i [] s.res x).bind λp=>
   if s.res.all Yx then k p.1 p.2 (aS (first++args++caps)) []
   else k p.1 (p.2++Pg (aS (first++args++caps))) (aS (first++args++caps)) (aS (first++args++caps)))
  else(qM Γ get (first++args++caps) s.args).bind λa=>Yb a.2.2 ((s.fn a.1).bind λx=>(HB i a.2.1 s.res x).bind λp=>
   if (decide a.2.1.Nodup&&(Lf (first++args++caps) s.args).all (λ j=>!a.2.1.contains j)&&decide ((YA s.res x).length=a.2.1.length))=true then
    if s.res.all Yx then k p.1 (p.2++MQ a.2.1 (YA s.res x)) (aS (first++args++caps)) a.2.1
    else k p.1 (p.2++(MQ a.2.1 (YA s.res x)++Pg ((aS (first++args++caps)).filter λj=>!a.2.1.contains j))) (aS (first++args++caps)) (a.2.1++(aS (first++args++caps)).filter λj=>!a.2.1.contains j)
   else none)
 |.en as q Z=>(YC get args as).bind λh=>Yb h.2 ((Z h.1).bind λy=>
  if yS q then k (.c q y) [] (aS args) []else k (.c q y) (Pg (aS args)) (aS args) (aS args))
 |_=>none
def Ge(fz:U Nat)(T:eS)(an:TypeId->J (CT X.ι))(i:Nat)(o:Op)(ρ:Operand->DV X)(get:Nat->J (cg X))(k:KK X A):J A:=
 match o with
 |.call { callee:=.value f,args:=args,argTypes:=_ }=>anx Γ i (ρ f) (args.toList.map ρ) get k
 |o=>if arO o ρ then ZS T an i o ρ get k else if arP o ρ || fz.contains i then ZD T an i o ρ get k else if arQ T o ρ then Zs T an o ρ get k else N5 T an i o ρ get k
variable {Γ}
theorem Pk{P:Ξ}{get:Nat->J (cg X)}{rd:U Nat}:∀{ds:U (DV X)}{l:U (CT X.ι)}{h:HL X.toSE l×List Bool},YC get ds l=some h->(∀ b∈h.2,b=true)->(∀ j∈aS ds,j∈rd)->
 ∃hs obs,(∀ p∈obs,p)/\∀ag,nW P (eD rd (fT get)) (bQ ds) (hs++ag)=some ((HL.oe X.toSE l h.1).map TV.av,ag,obs)
 |[],[],h,_,_,_=>⟨[],[],by simp,λag=>rfl⟩
 |d::ds,c::l,h,hr,hc,hrd=>by simp[YC]at hr;have⟨x,h1,hr⟩:=ah.1 hr;have⟨g,h2,hr⟩:=ah.1 hr;cases hr;obtain⟨hs1,o1,p1,q1⟩:=BP (P:=P) (rd:=rd) h1 (λ b hb=>hc b (by simp[hb])) (λ j hj=>hrd j (by simp[aS,hj]));obtain⟨hs2,o2,p2,q2⟩:=Pk (P:=P) (rd:=rd) h2 (λ b hb=>hc b (by simp[hb])) (λ j hj=>hrd j (by simp[aS,hj]));refine⟨hs1++hs2,o1++o2,iK p1 p2,λag=>?_⟩;simp[bQ,nW,q1,q2];rfl
 |[],_::_,_,hr,_,_|_::_,[],_,hr,_,_=>by simp[YC]at hr
theorem YD{i:Nat}{ae ns:U Nat}{q:RT X.ι}{x:RT.T X q}:∀p∈(JA i ae ns q x).2,p.1=cE i:=by cases q<;>simp[JA]
theorem YE{i:Nat}{ae ns:U Nat}:∀{l:U (RT X.ι)}{x:uM X l}{p:U (DV X)×List (Nat×Option (cg X))},MP i ae ns l x=some p->∀q∈p.2,q.1=cE i
 |[],_,p,h=>by simp[MP]at h;subst h;simp
 |[q],x,p,h=>by simp[MP]at h;subst h;exact YD
 |q::q'::l,x,p,h=>by simp[MP]at h;have⟨p',h1,h⟩:=ah.1 h;split at h;cases h;intro z hz;rcases bD.1 hz with hz|hz;exact YD z hz;exact YE h1 z hz;cases h
theorem acL{i:Nat}{ae:U Nat}{l:U (RT X.ι)}{x:uM X l}{p:DV X×List (Nat×Option (cg X))}(h:HB i ae l x=some p):∀q∈p.2,q.1=cE i:=by unfold HB at h;have⟨p',h1,h⟩:=ah.1 h;cases h;exact YE h1
theorem JB{P:Ξ}{get:E}{x:AV}{hs ag:U LH}{y:AV}{o:U Prop}(h:nW P get [x] hs=some ([y],ag,o)):qw P get x hs=some (y,ag,o):=by simp only[nW,ai,append_nil,ah,bX,Prod.mk.injEq,List.cons.injEq,and_true]at h;obtain⟨q,h1,h2,h3,h4⟩:=h;rw[h1,<- h2,<- h3,<- h4]
theorem mJ{d:DV X}{ds:U (DV X)}{a:AT X.ι}{l:U (AT X.ι)}{P:Ψ}(h:∀j∈Lf (d::ds) (a::l),P j):(a.im=false->∀j∈b7 d,P j)/\∀j∈Lf ds l,P j:=by simp[Lf]at h;exact⟨λ e j hj=>h j (.inl (by rw[e];simpa using hj)),λj hj=>h j (.inr hj)⟩
theorem aq0{c:CT X.ι}{l:U (CT.T X.toSE c)}:dZ ((aK (l.map (CT.row X.toSE c))).take (l.map (CT.row X.toSE c)).length)=aK (l.map (CT.row X.toSE c)):=by rw[take_of_length_le (by simp[aK])];simp only[dZ,aK,map_map];exact map_congr_left λy _=>by simp only[Function.comp,map_map];exact map_congr_left λz _=>rfl
theorem abh{get:Nat->J (cg X)}{d:DV X}{c:CT X.ι}{x:U (CT.T X.toSE c)×Nat×List Bool}(h:aee get d c=some x)(hc:∀b∈x.2.2,b=true):
 d=.own x.2.1 0 (List.length x.1)/\∃o,get x.2.1=some o/\(bS o).sz=(vZ c x.1).1/\dZ ((bS o).rows.take (vZ c x.1).2.length)=aK (vZ c x.1).2:=by
 unfold aee at h;split at h;rename_i k len;rw[ah]at h;obtain⟨o,h1,h⟩:=h;split at h;rename_i b l;rw[ah]at h;obtain⟨l',h2,h⟩:=h;cases h;have⟨h3,h4⟩:=jN h2;have h5:len=List.length l':=by simpa[bk]using hc (bk len (List.length l')) (by simp)
 refine⟨by rw[h5],.ey b l,h1,by simp;exact h3,?_⟩;simp only[bS,vZ,h4];exact aq0;cases h;cases h
theorem YF{get:Nat->J (cg X)}{d:DV X}{c:CT X.ι}{x:CT.T X.toSE c×Nat}(h:YB get d c=some x):
 d=.ptr x.2 0 0/\∃o,get x.2=some o/\(bS o).sz=(vZ c [x.1]).1/\dZ ((bS o).rows.take (vZ c [x.1]).2.length)=aK (vZ c [x.1]).2:=by unfold YB at h;split at h;rw[ah]at h;obtain⟨o,h1,h⟩:=h;split at h;split at h;rename_i hsz;have⟨y,h2,h⟩:=ah.1 h;cases h;refine⟨rfl,_,h1,by simp;exact hsz,?_⟩;simp[bS,vZ,dZ,aK];rw[zK h2];cases h;cases h;cases h
theorem o9{P:Ξ}{Γ:FuncId->J (ct X)}(hΓ:te P Γ){get:Nat->J (cg X)}{rd ae:U Nat}:∀{n:Nat}{ds:U (DV X)}{l:U (AT X.ι)}{a:jC X l×List Nat×List Bool},qM Γ get ds l=some a->(∀ b∈a.2.2,b=true)->(∀ j∈aS ds,j∈rd)->(∀ j∈Lf ds l,j∉ae)->ae.drop n=a.2.1->
 (∃ hs obs,(∀ p∈obs,p)/\∀ag,nL P (eD rd (fT get)) ae (bQ ds) (hs++ag)=some (fw n l a.1,ag,obs))/\∃mo,FL (eD rd (fT get)) a.2.1 (wh l a.1)=some mo/\∀p∈mo,p
 |n,[],[],a,h,_,_,_,_=>by simp[qM]at h;subst h;exact⟨⟨[],[],by simp,λag=>rfl⟩,[],rfl,by simp⟩
 |n,d::ds,.mut c::l,a,h,hc,hrd,hnr,hid=>by
  simp[qM]at h;have⟨x,h1,h⟩:=ah.1 h;have⟨q,h2,h⟩:=ah.1 h;cases h;obtain⟨rfl,o,g1,g2,g3⟩:=abh h1 (λ b hb=>hc b (by simp[hb]));have De:ae[n]? =some x.2.1:=by rw[<- List.head?_drop,hid];rfl
  have Do:ae.drop (n+1)=q.2.1:=by rw[<- List.tail_drop,hid];rfl
  obtain⟨⟨hs,obs,p1,p2⟩,mo,m1,m2⟩:=o9 hΓ (n:=n+1) h2 (λ b hb=>hc b (by simp[hb])) (λ j hj=>hrd j (by simp[aS,hj])) (mJ hnr).2 Do;refine⟨⟨.mut n::hs,obs,p1,λag=>?_⟩,((bS o).sz=(vZ c x.1).1/\dZ ((bS o).rows.take (vZ c x.1).2.length)=aK (vZ c x.1).2)::mo,?_,?_⟩;simp[bQ,den,nL,sj,De,p2,fw];simp[wh,FL,fF (hrd x.2.1 (by simp[aS,b7])) g1,m1];intro p hp;rcases aG.1 hp with rfl|hp;exact⟨g2,g3⟩;exact m2 p hp
 |n,d::ds,.ip c::l,a,h,hc,hrd,hnr,hid=>by
  simp[qM]at h;have⟨x,h1,h⟩:=ah.1 h;have⟨q,h2,h⟩:=ah.1 h;cases h;obtain⟨rfl,o,g1,g2,g3⟩:=YF h1;have De:ae[n]? =some x.2:=by rw[<- List.head?_drop,hid];rfl
  have Do:ae.drop (n+1)=q.2.1:=by rw[<- List.tail_drop,hid];rfl
  obtain⟨⟨hs,obs,p1,p2⟩,mo,m1,m2⟩:=o9 hΓ (n:=n+1) h2 (λ b hb=>hc b (by simp[hb])) (λ j hj=>hrd j (by simp[aS,hj])) (mJ hnr).2 Do;refine⟨⟨.mut n::hs,obs,p1,λag=>?_⟩,((bS o).sz=(vZ c [x.1]).1/\dZ ((bS o).rows.take (vZ c [x.1]).2.length)=aK (vZ c [x.1]).2)::mo,?_,?_⟩;simp[bQ,den,nL,cons_append,sj,De,p2,fw];simp[wh,FL,fF (hrd x.2 (by simp[aS,b7])) g1,m1];intro p hp;rcases aG.1 hp with rfl|hp;exact⟨g2,g3⟩;exact m2 p hp
 |n,d::ds,.d c::l,a,h,hc,hrd,hnr,hid=>by simp[qM]at h;have⟨x,h1,h⟩:=ah.1 h;have⟨q,h2,h⟩:=ah.1 h;cases h;obtain⟨hs1,o1,p1,q1⟩:=uq (P:=P) hΓ 3 (n:=n) h1 (λ b hb=>hc b (by simp[hb])) (rd:=rd) (λ j hj=>hrd j (by simp[aS,append_nil]at hj;simp[aS,hj]));obtain⟨⟨hs,obs,p2,q2⟩,mo,m1,m2⟩:=o9 hΓ (n:=n) h2 (λ b hb=>hc b (by simp[hb])) (λ j hj=>hrd j (by simp[aS,hj])) (mJ hnr).2 hid;refine⟨⟨z7 (den d) hs1++hs,o1++obs,iK p1 p2,λag=>?_⟩,mo,m1,m2⟩;have:=zL (JB (q1 (hs++ag))) (λ k hk=>(mJ hnr).1 rfl k (by rwa [jv]at hk));rw[Ph]at this;simp[bQ,nL,this,q2,fw]
 |n,d::ds,.ref c::l,a,h,hc,hrd,hnr,hid=>by simp[qM]at h;have⟨x,h1,h⟩:=ah.1 h;have⟨q,h2,h⟩:=ah.1 h;cases h;obtain⟨hs1,o1,p1,q1⟩:=uq (P:=P) hΓ 3 (n:=n) h1 (λ b hb=>hc b (by simp[hb])) (rd:=rd) (λ j hj=>hrd j (by simp[aS,append_nil]at hj;simp[aS,hj]));obtain⟨⟨hs,obs,p2,q2⟩,mo,m1,m2⟩:=o9 hΓ (n:=n) h2 (λ b hb=>hc b (by simp[hb])) (λ j hj=>hrd j (by simp[aS,hj])) (mJ hnr).2 hid;refine⟨⟨z7 (den d) hs1++hs,o1++obs,iK p1 p2,λag=>?_⟩,mo,m1,m2⟩;have:=zL (JB (q1 (hs++ag))) (λ k hk=>(mJ hnr).1 rfl k (by rwa [jv]at hk));rw[Ph]at this;simp[bQ,nL,this,q2,fw]
 |n,d::ds,.en as r::l,a,h,hc,hrd,hnr,hid=>by simp[qM]at h;have⟨x,h1,h⟩:=ah.1 h;have⟨q,h2,h⟩:=ah.1 h;cases h;obtain⟨hs1,o1,p1,q1⟩:=uq (P:=P) hΓ 3 (n:=n) h1 (λ b hb=>hc b (by simp[hb])) (rd:=rd) (λ j hj=>hrd j (by simp[aS,append_nil]at hj;simp[aS,hj]));obtain⟨⟨hs,obs,p2,q2⟩,mo,m1,m2⟩:=o9 hΓ (n:=n) h2 (λ b hb=>hc b (by simp[hb])) (λ j hj=>hrd j (by simp[aS,hj])) (mJ hnr).2 hid;refine⟨⟨z7 (den d) hs1++hs,o1++obs,iK p1 p2,λag=>?_⟩,mo,m1,m2⟩;have:=zL (JB (q1 (hs++ag))) (λ k hk=>(mJ hnr).1 rfl k (by rwa [jv]at hk));rw[Ph]at this;simp[bQ,nL,this,q2,fw]
 |n,d::ds,.nil::l,a,h,hc,hrd,hnr,hid=>by simp[qM]at h;split at h;have⟨q,h2,h⟩:=ah.1 h;cases h;obtain⟨⟨hs,obs,p2,q2⟩,mo,m1,m2⟩:=o9 hΓ (n:=n) h2 hc (λ j hj=>hrd j (by simp[aS,hj])) (mJ hnr).2 hid;refine⟨⟨.nil::hs,obs,p2,λag=>?_⟩,mo,m1,m2⟩;have:=zL (P:=P) (get':=eD rd (fT get)) (ae:=ae) (x:=.cD) (hs:=.nil::(hs++ag)) (p:=(.cD,hs++ag,[])) rfl (λ k hk=>by simp[refs]at hk);simp[z7]at this;simp[bQ,den,nL,cons_append,this,q2,fw];cases h
 |_,[],_::_,_,h,_,_,_,_=>by simp[qM]at h
 |_,_::_,[],_,h,_,_,_,_=>by simp[qM]at h
theorem af8{P:Ξ}(hΓ:te P Γ){i:Nat}{f:DV X}{args:U (DV X)}{get:Nat->J (cg X)}{k:KK X A}{r:A}(h:anx Γ i f args get k=some r):
 ∃cL rd wr dv upd aa,mH P i (den f) (bQ args) cL (eD rd (fT get))=some aa/\jD aa.obs/\aa.v=den dv/\aa.upd=jr upd/\(∀ p∈upd,p.1=cE i\/p.1∈wr)/\k dv upd rd wr=some r:=by
 unfold anx at h;split at h;rename_i F first caps
 rw[ah]at h;obtain⟨s,h1,h⟩:=h;split at h;rename_i g hgen;exact aec ((hΓ F s h1).2.2 g (Option.filter_eq_some_iff.1 hgen).1) h;split at h;rename_i hpure;rw[ah]at h;obtain⟨⟨a,cs⟩,h2,h⟩:=h;have⟨hcs,h⟩:=rq h;rw[ah]at h;obtain⟨x,h3,h⟩:=h;rw[ah]at h;obtain⟨p,h4,h⟩:=h;have hf0:=(hΓ F s h1).2.1 a x h3;simp only[aY]at hpure;rw[Jv (arL hpure.1),afS hpure.2]at hf0;have hf:=X5 hf0;have hi:=af6 h4;have hk:=acL h4;obtain⟨hs,obs,g1,g2⟩:=uq (P:=P) hΓ 3 h2 hcs (rd:=aS (first++args++caps)) (λ j hj=>hj);have g3:=g2 [];rw[append_nil,jb,jb]at g3;have hrefs:cu (bQ first++bQ args++bQ caps)=aS (first++args++caps):=by rw[<- jb,<- jb,jw]
 split at h;rename_i hfl;refine⟨.call hs (uU s.res x) true,_,[],p.1,p.2,⟨den p.1,jr p.2,obs++[tE P F (Ac s.args a) (uU s.res x),(uU s.res x).flat]⟩,?_,?_,rfl,rfl,λq hq=>.inl (hk q hq),h⟩;simp only[den,mH,sO,BJ,hi,ai,g3];rfl;exact tF _ (iK g1 (by intro q hq;simp only[aG,aQ,or_false]at hq;rcases hq with rfl|rfl;exact hf;exact Yz x hfl));refine⟨.call hs (uU s.res x) false,_,_,p.1,_,⟨den p.1,jr p.2++(aS (first++args++caps)).map (λ k=>(k,none)),obs++[tE P F (Ac s.args a) (uU s.res x)]⟩,?_,?_,rfl,?_,?_,h⟩;simp only[den,mH,sO,BJ,hi,ai,g3,hrefs];rfl;exact tF _ (iK g1 (by intro q hq;simp only[aI]at hq;subst hq;exact hf));simp[uw,En];intro q hq;rcases bD.1 hq with hq|hq;exact .inl (hk q hq);exact .inr (Ld hq);rename_i hpure;rw[ah]at h;obtain⟨⟨a,ae,cs⟩,h2,h⟩:=h;have⟨hcs,h⟩:=rq h;rw[ah]at h;obtain⟨x,h3,h⟩:=h;rw[ah]at h;obtain⟨p,h4,h⟩:=h;split at h;rename_i hc;simp only[aY,bF]at hc;obtain⟨⟨hnd,hnr⟩,hlen⟩:=hc;have hf:=(hΓ F s h1).2.1 a x h3;have hi:=af6 h4;have hk:=acL h4;obtain⟨⟨hs,obs,g1,g2⟩,mo,m1,m2⟩:=o9 (P:=P) hΓ (rd:=aS (first++args++caps)) (ae:=ae) (n:=0) h2 hcs (λ j hj=>hj) (λ j hj=>by simpa using all_eq_true.1 hnr j hj) rfl;have g3:=g2 [];rw[append_nil,jb,jb]at g3;have hrefs:cu (bQ first++bQ args++bQ caps)=aS (first++args++caps):=by rw[<- jb,<- jb,jw]
 have hlen':(pX s.res x).length=ae.length:=by rw[<- hlen];simpa using (congrArg List.length (R9 s.res x)).symm
 have hout:jr (MQ ae (YA s.res x))=CF ae (pX s.res x):=acK _ _ _ (R9 s.res x);split at h;rename_i hfl;refine⟨.ur ae (wh s.args a) (pX s.res x) hs (uU s.res x) true,_,ae,p.1,_,⟨den p.1,jr p.2++CF ae (pX s.res x),obs++mo++[rN P F (Ac s.args a) (wh s.args a) (pX s.res x) (uU s.res x),(uU s.res x).flat,XI (pX s.res x)]⟩,?_,?_,rfl,?_,?_,h⟩;simp only[den,mH,sO,Ji,hi,ai,m1,g3];rw[aM ⟨hnd,hlen'⟩];rfl;refine tF _ (iK (iK g1 m2) ?_);intro q hq;simp only[aG,aQ,or_false]at hq;rcases hq with rfl|rfl|rfl;exact hf;exact Yz x hfl;exact acH hfl;simp[uw,hout];intro q hq;rcases bD.1 hq with hq|hq;exact .inl (hk q hq);exact .inr (Nk hq);refine⟨.ur ae (wh s.args a) (pX s.res x) hs (uU s.res x) false,_,_,p.1,_,⟨den p.1,jr p.2++(CF ae (pX s.res x)++((aS (first++args++caps)).filter λj=>!ae.contains j).map (λ k=>(k,none))),obs++mo++[rN P F (Ac s.args a) (wh s.args a) (pX s.res x) (uU s.res x)]⟩,?_,?_,rfl,?_,?_,h⟩;simp only[den,mH,sO,Ji,hi,ai,m1,g3,Jh,hrefs];rw[aM ⟨hnd,hlen'⟩];rfl;refine tF _ (iK (iK g1 m2) ?_);intro q hq;simp only[aI]at hq;subst hq;exact hf;simp[uw,hout,En];intro q hq;rcases bD.1 hq with hq|hq;exact .inl (hk q hq);rcases bD.1 hq with hq|hq;exact .inr (mem_append_left _ (Nk hq));exact .inr (mem_append_right _ (Ld hq));cases h;rename_i as q Z;rw[ah]at h;obtain⟨⟨hh,cs⟩,h1,h⟩:=h;have⟨hcs,h⟩:=rq h;rw[ah]at h;obtain⟨y,h2,h⟩:=h;obtain⟨hs,obs,g1,g2⟩:=Pk (P:=P) h1 hcs (rd:=aS args) (λ j hj=>hj);have g3:=g2 [];rw[append_nil]at g3;have hφ:∃h' x',Z h'=some x'/\HL.oe X.toSE as hh=HL.oe X.toSE as h'/\CT.tv X.toSE q y=CT.tv X.toSE q x':=⟨hh,y,h2,rfl,rfl⟩;split at h;rename_i hfl;refine⟨.Fk hs (HL.oe X.toSE as hh) (CT.tv X.toSE q y) true,_,[],.c q y,[],⟨(CT.tv X.toSE q y).av,[],obs++[(HL.oe X.toSE as hh).map TV.av=(HL.oe X.toSE as hh).map TV.av,(∃ h' x',Z h'=some x'/\HL.oe X.toSE as hh=HL.oe X.toSE as h'/\CT.tv X.toSE q y=CT.tv X.toSE q x'),(CT.tv X.toSE q y).flat]⟩,?_,?_,rfl,rfl,by simp,h⟩;simp only[den,mH,sO,BJ,g3,ai];rfl;exact tF _ (iK g1 (by intro z hz;simp only[aG,aQ,or_false]at hz;rcases hz with rfl|rfl|rfl;trivial;exact hφ;exact af4 hfl y));refine⟨.Fk hs (HL.oe X.toSE as hh) (CT.tv X.toSE q y) false,_,_,.c q y,_,⟨(CT.tv X.toSE q y).av,(aS args).map (λ k=>(k,none)),obs++[(HL.oe X.toSE as hh).map TV.av=(HL.oe X.toSE as hh).map TV.av,(∃ h' x',Z h'=some x'/\HL.oe X.toSE as hh=HL.oe X.toSE as h'/\CT.tv X.toSE q y=CT.tv X.toSE q x')]⟩,?_,?_,rfl,(En _).symm,λz hz=>.inr (Ld hz),h⟩;simp only[den,mH,sO,BJ,g3,ai,jw];rfl;exact tF _ (iK g1 (by intro z hz;simp only[aG,aQ,or_false]at hz;rcases hz with rfl|rfl;trivial;exact hφ));cases h
theorem aiZ{P:Ξ}(hΓ:te P Γ){fz:U Nat}{T:eS}{an:TypeId->J (CT X.ι)}{i:Nat}{o:Oper}{ρ:Operand->DV X}{get:Nat->J (cg X)}{k:KK X A}{r:A}(h:Ge Γ fz T an i o.op ρ get k=some r):er P T i o ρ get k r:=by
 obtain⟨dst,op,ty,aq,after,guard⟩:=o;unfold Ge at h;simp only at h;split at h
 .have:=af8 hΓ h;simp only[<- WY]at this;obtain⟨cL,rd,wr,dv,upd,aa,g1,g2⟩:=this;exact .call g1 g2
 .split at h
  .exact aiS (o:=⟨dst,op,ty,aq,after,guard⟩) h
  .split at h
   .exact aiT (o:=⟨dst,op,ty,aq,after,guard⟩) h
   .split at h
    .exact aiU (o:=⟨dst,op,ty,aq,after,guard⟩) h
    .rename_i hne _ _ _;have⟨cL,rd,wr,dv,upd,aa,g1,g2⟩:=acw (o:=⟨dst,op,ty,aq,after,guard⟩) h;exact er.op (λ f args d6 e=>hne f args d6 e) g1 g2
end
def kO(x y:AV):Prop:=∀P G w I v,VR P G w I x v->VR P G w I y v
theorem kO.refl(x:AV):kO x x:=λ_ _ _ _ _ h=>h
theorem kO.undef(x:AV):kO x .undef:=λ_ _ _ _ _ _=>by simp[VR]
theorem kO.wk(x:AV):kO x (wk x):=λ_ _ _ _ _ h=>h.wk
section
variable {P:Program} {w0:World} {O0:k5} {N:Nat} {G:Nat->Option cW} {I:Nat->Prop} {a:Act} {w:World} {f g:Nat->Nat} {D:Nat->Prop}
mutual
theorem VR.rn(hgf:∀k,D k->g (f k)=k):∀(x:AV)(v:Value),(∀ k∈refs x,D k)->VR P G w I x v->VR P (λ j=>G (g j)) w I (ix f x) v
 |.own k ab len,v,hd,h=>by simp[ix,VR,hgf k (hd k (by simp[refs]))]at h |-;exact h
 |.ptr k row ab,v,hd,h=>by simp[ix,VR,hgf k (hd k (by simp[refs]))]at h |-;exact h
 |.agg cs,v,hd,h=>by simp[VR]at h |-;obtain⟨vs,h1,h2⟩:=h;exact⟨vs,h1,bp.rn hgf cs _ (by simpa[refs]using hd) h2⟩
 |.fR cs,v,hd,h=>by simp[VR]at h |-;obtain⟨vs,h1,h2⟩:=h;exact⟨vs,h1,bp.rn hgf cs _ (by simpa[refs]using hd) h2⟩
 |.fn F first caps,v,hd,h=>by simp[VR]at h |-;obtain⟨fs,cs,h1,h2,h3⟩:=h;exact⟨fs,cs,h1,bp.rn hgf first _ (λ k hk=>hd k (by simp[refs,hk])) h2,bp.rn hgf caps _ (λ k hk=>hd k (by simp[refs,hk])) h3⟩
 |.t x,v,_,h|.eV r o,v,_,h|.en Z,v,_,h=>by simpa[ix,VR]using h
 |.mp k,v,hd,h=>by simp[ix,VR,hgf k (hd k (by simp[refs]))]at h |-;exact h
 |.oz k len,v,hd,h=>by simp[ix,VR,hgf k (hd k (by simp[refs]))]at h |-;exact h
 |.cD,v,_,h|.ub,v,_,h=>by simpa[ix,VR]using h
 |.undef,v,_,h=>by simp[ix,VR]
theorem bp.rn(hgf:∀k,D k->g (f k)=k):∀(xs:List AV)(vs:List Value),(∀ k∈cu xs,D k)->bp P G w I xs vs->bp P (λ j=>G (g j)) w I (vY f xs) vs
 |[],[],_,_=>by simp[vY,bp]
 |x::xs,v::vs,hd,h=>by simp[bp]at h;simp[vY];exact⟨VR.rn hgf x v (λ k hk=>hd k (by simp[cu,hk])) h.1,bp.rn hgf xs vs (λ k hk=>hd k (by simp[cu,hk])) h.2⟩
 |[],_::_,_,h|_::_,[],_,h=>by simp[bp]at h
end
def mC(D:Ψ)(f:Nat->Nat):U AV->U AV->Prop
 |[],[]=>True
 |x::xs,y::ys=>((∀ k∈refs x,D k)/\kO (ix f x) y)/\mC D f xs ys
 |_,_=>False
def ij(D:Ψ)(f:Nat->Nat):U (List AV)->U (List AV)->Prop
 |[],[]=>True
 |r::rs,q::qs=>mC D f r q/\ij D f rs qs
 |_,_=>False
theorem mC.length:∀{r q:U AV},mC D f r q->q.length=r.length
 |[],[],_=>rfl
 |_::xs,_::ys,h=>by simp[mC.length h.2]
 |[],_::_,h|_::_,[],h=>h.elim
theorem df.re(hgf:∀k,D k->g (f k)=k):∀{r q:U AV}{c:Array Value}{ab:Nat},mC D f r q->df P G w I r c ab->df P (λ j=>G (g j)) w I q c ab
 |[],[],_,_,_,_=>trivial
 |x::_,_::_,_,_,hr,⟨⟨v,h1,h2,h3⟩,h4⟩=>⟨⟨v,h1,hr.1.2 _ _ _ _ _ (VR.rn hgf x v hr.1.1 h2),h3⟩,df.re hgf hr.2 h4⟩
 |[],_::_,_,_,h,_|_::_,[],_,_,h,_=>h.elim
theorem cj.re(hgf:∀k,D k->g (f k)=k):∀{rs qs:U (List AV)}{c:Array Value}{ab sz:Nat},ij D f rs qs->cj P G w I rs c ab sz->cj P (λ j=>G (g j)) w I qs c ab sz
 |[],[],_,_,_,_,_=>trivial
 |r::rs,q::qs,c,ab,sz,hr,⟨h1,h2,h3⟩=>⟨by rw[hr.1.length];exact h1,df.re hgf hr.1 h2,cj.re hgf hr.2 h3⟩
 |[],_::_,_,_,_,h,_|_::_,[],_,_,_,h,_=>h.elim
theorem bp.re(hgf:∀k,D k->g (f k)=k):∀{r q:U AV}{vs:U Value},mC D f r q->bp P G w I r vs->bp P (λ j=>G (g j)) w I q vs
 |[],[],[],_,_=>by simp[bp]
 |x::xs,y::ys,v::vs,hr,h=>by exact⟨hr.1.2 _ _ _ _ _ (VR.rn hgf x v hr.1.1 h.1),bp.re hgf hr.2 h.2⟩
 |[],_::_,_,h,_|_::_,[],_,h,_=>h.elim
 |[],[],_::_,_,h|_::_,_::_,[],_,h=>by simp[bp]at h
theorem cQ.re(hgf:∀k,D k->g (f k)=k):∀{rs qs:U (List AV)}{es:U MapEntry},ij D f rs qs->cQ P G w I rs es->cQ P (λ j=>G (g j)) w I qs es
 |[],[],[],_,_=>trivial
 |_::_,_::_,_::_,hr,⟨h1,h2⟩=>⟨bp.re hgf hr.1 h1,cQ.re hgf hr.2 h2⟩
 |[],_::_,_,h,_|_::_,[],_,h,_|[],[],_::_,_,h|_::_,_::_,[],_,h=>h.elim
theorem ij.length:∀{rs qs:U (List AV)},ij D f rs qs->qs.length=rs.length
 |[],[],_=>rfl
 |_::xs,_::ys,h=>by simp[ij.length h.2]
 |[],_::_,h|_::_,[],h=>h.elim
theorem Rel.re{s s':St}(hgf:∀k,D k->g (f k)=k)(hg:∀j,j<1000->g j=j)(hr:Rel P w0 O0 N G I s a w)(hok:∀t,s.ok t=none\/s'.env t=.undef)(hok':∀t,s'.ok t=none)
 (hE:∀t,s'.env t=.undef\/((∀ k∈refs (s.env t),D k)/\kO (ix f (s.env t)) (s'.env t)))
 (hO:∀j o',s'.obj j=some o'->∃k o,s.obj k=some o/\D k/\f k=j/\o'.sz=o.sz/\ij D f o.rows o'.rows):Rel P w0 O0 N (λ j=>G (g j)) I s' a w:=by
 refine⟨hr.defers,hr.size,λt=>?_,?_⟩
 .have h1:=hr.env t;rw[hok' t];rcases hok t with hk|h
  rotate_left
  rw[h];simp[fL,VR];rw[hk]at h1;rcases hE t with h|⟨h2,h3⟩;rw[h];simp[fL,VR];exact h3 _ _ _ _ _ (VR.rn hgf _ _ h2 h1)
 have hm:=hr.mem;constructor;intro j o' hj;obtain⟨k,o,h1,h2,rfl,h4,h5⟩:=hO j o' hj;have⟨B,hB,s9⟩:=hm.c8 k o h1;refine⟨B,by simp[hgf k h2];exact hB,?_⟩;cases B with
 |none=>
  simp[OR]at s9 |-;rw[s9]at h5;cases ho:o'.rows with
  |nil=>rfl
  |cons=>rw[ho]at h5;exact h5.elim
 | «at» b sz n=>
  obtain⟨g1,c,e,g2,g3,g4⟩:=s9;exact⟨by rw[g1,h4],c,e,g2,g3,cj.re hgf h5 g4⟩
 |mp b=>
  obtain⟨es,cl,g1,gl,g2,g3⟩:=s9;have hl:=h5.length;exact⟨es,cl,g1,by omega,λe=>cQ.re hgf h5 (g2 (by omega)),g3⟩
 intro j j' o o' B B' b h1 h2 h3 h4 h5 h6;obtain⟨k,q,i1,i2,rfl,_⟩:=hO j o h1;obtain⟨k',q',i1',i2',rfl,_⟩:=hO j' o' h2;simp[hgf k i2,hgf k' i2']at h3 h4;rw[hm.ir k k' q q' B B' b i1 i1' h3 h4 h5 h6];intro j o B b h1 h2;obtain⟨k,q,i1,i2,rfl,_⟩:=hO j o h1;simp[hgf k i2]at h2;exact hm.ownB k q B b i1 h2;exact hm.lt;exact hm.up;exact hm.keep;exact hm.le;exact hm.os;exact hm.tape;exact hm.output;intro j B hj;show G (g j)=some B;rw[hg j (O0.lt j B hj)];exact hm.anch j B hj;exact hm.vars
end
section
variable {X:SX}
theorem af9{D:Ψ}(f:Nat->Nat):∀r:U (DV X),(∀ k∈aS r,D k)->mC D f (bQ r) (bQ (Nh f r))
 |[],_=>trivial
 |x::xs,h=>⟨⟨λ k hk=>h k (by rw[jv]at hk;simp[aS,hk]),by rw[BQ];exact kO.refl _⟩,af9 f xs λk hk=>h k (by simp[aS,hk])⟩
theorem Lg{D:Ψ}(f:Nat->Nat)(o:cg X)(h:∀k∈ep o,D k):(bS (p7 f o)).sz=(bS o).sz/\ij D f (bS o).rows (bS (p7 f o)).rows:=by
 cases o with
 |cells sz rows=>
  refine⟨rfl,?_⟩;simp only[ep]at h
  induction rows with
  |nil=>trivial
  |cons r rs ih=>
   refine⟨af9 f r λk hk=>h k (by simp[hk]),ih λk hk=>h k ?_⟩;simp only[bK,flatten_cons,bD];exact .inr hk
 |ey c l=>
  refine⟨rfl,?_⟩;simp[bS,p7];generalize l.map (CT.row X.toSE c)=rows;have hrow:∀r:U Tree,mC D f (r.map AV.t) (r.map AV.t):=by
   intro r
   induction r with
   |nil=>trivial
   |cons y ys ih=>exact⟨⟨by simp[refs],kO.refl _⟩,ih⟩
  induction rows with
  |nil=>trivial
  |cons r rs ih=>exact⟨hrow r,ih⟩
 |map kc vc l=>
  refine⟨rfl,?_⟩;clear h
  induction l with
  |nil=>trivial
  |cons p ps ih=>exact⟨⟨⟨by simp[BN],by rw[Yv];exact kO.refl _⟩,⟨by simp[BN],by rw[Yv];exact kO.refl _⟩,trivial⟩,ih⟩
structure Low(s:d7 X):Prop where
 le:s.nx<=1000000
 ge:1000<=s.nx
 env:∀t,∀k∈b7 (fx s.env t),k<s.nx
 obj:∀k o,iz s.obj k=some o->k<s.nx/\∀j∈ep o,j<s.nx
theorem YG{o:cg X}{r:U AV}{x:AV}(hr:r∈(bS o).rows)(hx:x∈r):∀j∈refs x,j∈ep o:=by
 intro j hj;cases o with
 |cells sz rows=>
  simp[bS]at hr;obtain⟨q,hq,rfl⟩:=hr;rw[pW,mem_map]at hx;obtain⟨d,hd,rfl⟩:=hx;simp[ep];refine⟨_,⟨q,hq,rfl⟩,?_⟩;have:∀l:U (DV X),d∈l->j∈aS l:=by
   intro l
   induction l with
   |nil=>intro h;simp at h
   |cons y ys ih=>intro h;rcases aG.1 h with rfl|h
                  simp[aS];left;rwa [jv]at hj;simp[aS];exact .inr (ih h)
  exact this q hd
 |ey c l=>
  simp[bS,aK]at hr;obtain⟨q,_,rfl⟩:=hr;simp at hx;obtain⟨t,_,rfl⟩:=hx;simp[refs]at hj
 |map kc vc l=>
  simp only[bS,mem_map]at hr;obtain⟨q,_,rfl⟩:=hr;simp at hx;rcases hx with rfl|rfl<;>simp[BN]at hj
theorem Low.old{s:d7 X}(h:Low s):nb s.st:=by have hle:=h.le;constructor;intro t k hk;have:=h.env t k (by rw[<- jv];exact hk);omega;intro k o hk;simp[d7.st]at hk;obtain⟨o',h1,rfl⟩:=hk;have⟨h2,h3⟩:=h.obj k o' h1;refine⟨by omega,λr hr x hx j hj=>?_⟩;have:=h3 j (YG hr hx j hj);omega
end
section
variable {X:SX} {A:Type}
def pj(e b:U (Nat×DV X))(t:Nat):DV X:=match lk e t with|some x=>x|none=>fx b t
def yy(o b:U (Nat×Option (cg X)))(k:Nat):J (cg X):=match lk o k with|some x=>x|none=>iz b k
def Bo(dst:J Tmp)(dv:DV X)(e:U (Nat×DV X)):U (Nat×DV X):=match dst with|some t=>(t,dv)::e|none=>e
def YH:DV X->DV X
 |.skip=>.undef
 |x=>x
def MR(e:U (Nat×DV X)):Operand->Bool
 |.tmp t=>match lk e t with|some .skip=>false|_=>true
 |_=>true
def UW(e b:U (Nat×DV X))(o:Op):Bool:=
 match o with
 |.pick c x y=>MR e c&&((MR e x&&MR e y) || match xF (pj e b) c with|.c .bool t=>bif t then MR e x else MR e y|_=>false)
 |o=>o.operands.toList.all (MR e)
abbrev GP:=List (Nat×List Nat×List Nat)
section
variable (Γ:FuncId->Option (ct X)) (fz:List Nat) (T:eS) (an:TypeId->Option (CT X.ι)) (am:Array Oper) (b:d7 X)
def Ag(k:U (Nat×DV X)->U (Nat×Option (cg X))->GP->J A):U Nat->U (Nat×DV X)->U (Nat×Option (cg X))->GP->J A
 |[],e,o,oy=>k e o oy
 |i::r,e,o,oy=>(am[i]?).bind λop=>match op.guard with
  |none=>bif UW e b.env op.op then Ge Γ fz T an i op.op (xF (pj e b.env)) (yy o b.obj) λdv upd rd wr=>Ag k r (Bo op.dst (YH dv) e) (upd++o) ((i,rd,wr)::oy)else none
  |some (j,p)=>((am[j]?).bind (·.dst)).bind λt=>match pj e b.env t with
   |.c .bool v=>
    bif v then(bif p then(bif UW ((t,.c .bool true)::e) b.env op.op then Ge Γ fz T an i op.op (xF (pj ((t,.c .bool true)::e) b.env)) (yy o b.obj) λdv upd rd wr=>Ag k r (Bo op.dst (YH dv) ((t,.c .bool true)::e)) (upd++o) ((i,rd,wr)::oy)else none)
     else Ag k r (Bo op.dst .skip ((t,.c .bool true)::e)) o ((i,[],[])::oy))
    else(bif p then Ag k r (Bo op.dst .skip ((t,.c .bool false)::e)) o ((i,[],[])::oy)
     else(bif UW ((t,.c .bool false)::e) b.env op.op then Ge Γ fz T an i op.op (xF (pj ((t,.c .bool false)::e) b.env)) (yy o b.obj) λdv upd rd wr=>Ag k r (Bo op.dst (YH dv) ((t,.c .bool false)::e)) (upd++o) ((i,rd,wr)::oy)else none))
   |.skip=>bif(lk e t).isSome then Ag k r (Bo op.dst .skip e) o ((i,[],[])::oy)else none
   |_=>none
end
def ja(b:d7 X)(e:U (Nat×DV X))(o:U (Nat×Option (cg X))):St:=⟨λ t=>den (pj e b.env t),λk=>(yy o b.obj k).map bS,λt=>match lk e t with|some .skip=>some false|_=>none⟩
theorem alJ(x:DV X):den (YH x)=den x:=by cases x<;>rfl
theorem anz(b:d7 X)(e:U (Nat×DV X))(o:U (Nat×Option (cg X)))(dst:J Tmp)(dv:DV X)(upd:U (Nat×Option (cg X)))(obs:U Prop):
 (ja b e o).app dst (⟨den dv,jr upd,obs⟩,none)=ja b (Bo dst (YH dv) e) (upd++o):=by
 simp[ja,St.app];refine⟨?_,?_,?_⟩;funext t;cases dst with
 |none=>simp[zX,Bo]
 |some d=>
  simp[zX,Bo,pj,lk];by_cases h:d=t<;>simp[h,alJ]
 funext j
 induction upd with
 |nil=>rfl
 |cons p u ih=>
  obtain⟨q,x⟩:=p;simp[jr,dw,yy,lk]at ih |-;by_cases h:j=q;simp[h];rw[aC h,aC (Ne.symm h)];exact ih
 funext t;cases dst with
 |none=>simp[zX,Bo]
 |some d=>
  simp[zX,Bo,lk];by_cases h:d=t;simp[h];cases dv<;>rfl;simp[aC h]
theorem alK(b:d7 X)(e:U (Nat×DV X))(o:U (Nat×Option (cg X)))(dst:J Tmp):(ja b e o).app dst (⟨.undef,[],[]⟩,some false)=ja b (Bo dst .skip e) o:=by
 simp[ja,St.app];refine⟨?_,rfl,?_⟩;funext t;cases dst with
 |none=>simp[zX,Bo]
 |some d=>
  simp[zX,Bo,pj,lk];by_cases h:d=t<;>simp[h,den]
 funext t;cases dst with
 |none=>simp[zX,Bo]
 |some d=>
  simp[zX,Bo,lk];by_cases h:d=t<;>simp[h]
theorem aga(b:d7 X)(e:U (Nat×DV X))(o:U (Nat×Option (cg X))):ml (ja b e o).env=λx=>den (xF (pj e b.env) x):=by funext x;exact(X8 _ x).symm
theorem Es{b:d7 X}{e:U (Nat×DV X)}{o:U (Nat×Option (cg X))}{x:Operand}(h:MR e x=true):yR (ja b e o).ok x=[]:=by
 cases x with
 |tmp t=>
  simp[MR]at h;simp[yR,ja];cases ht:lk e t with
  |none=>rfl
  |some d=>rw[ht]at h;cases d<;>first|rfl|cases h
 |_=>rfl
theorem alL{b:d7 X}{e:U (Nat×DV X)}{o:U (Nat×Option (cg X))}{P:Ξ}{T:eS}{i:Nat}{op:Oper}{cL:kh}{get:E}{aa:Out}(hok:UW e b.env op.op=true)
 (h:kz P T i op cL (ml (ja b e o).env) get=some aa):∀p∈needs (ja b e o).env (ja b e o).ok op.op,p:=by
 obtain⟨dst,op,ty,aq,after,guard⟩:=op;unfold needs;split
 .rename_i c x y heq;simp only at heq;subst heq;simp only[UW,aY,Bool.or_eq_true]at hok;obtain⟨hc,hxy⟩:=hok;have hb:∃t,ml (ja b e o).env c=.t (.sc (.bool t)):=by
   have h0:(∃ n,cL=.ext n)\/(∃ ae fr q,cL=.zd ae fr q)\/rW T i ⟨dst,.pick c x y,ty,aq,after,guard⟩ cL (ml (ja b e o).env) get=some aa:=(by cases cL<;>first|exact .inl ⟨_,rfl⟩|exact .inr (.inl ⟨_,_,_,rfl⟩)|exact .inr (.inr h));rcases h0 with ⟨n,rfl⟩|⟨ae,fr,q,rfl⟩|h0
   .simp[kz,uR,MY,uQ]at h
   .simp[kz,Jj,aiq]at h
   .simp only[rW]at h0;split at h0
    .rename_i t ht;exact⟨t,ht⟩
    .cases h0
  obtain⟨t,ht⟩:=hb;rw[ht];simp only[Es hc,fO];rcases hxy with ⟨hx,hy⟩|hxy
  .simp[Es hx,Es hy]
  .split at hxy
   .rename_i t' ht';have e1:ml (ja b e o).env c=.t (.sc (.bool t')):=(by rw[aga];simp only[ht'];rfl);rw[e1]at ht;injection ht with ht;injection ht with ht;injection ht with ht;subst ht;cases t' with
    |true=>
     simp only[ak]at hxy;simp[Es hxy]
    |false=>
     simp only[ay]at hxy;simp[Es hxy]
   .cases hxy
 .rename_i o' hne;intro p hp;have hall:∀x∈op.operands.toList,MR e x=true:=by have:UW e b.env op=op.operands.toList.all (MR e):=(by cases op<;>first|rfl|exact(hne _ _ _ rfl).elim);rw[this]at hok;exact all_eq_true.1 hok
  simp only[mem_flatMap]at hp;obtain⟨x,hx,hp⟩:=hp;rw[Es (hall x hx)]at hp;simp at hp
theorem anA{a b:U Prop}(h:∀p∈a,p)(h':jD b):jD (a++b):=tF _ (iK h (OY b h'))
variable {Γ:FuncId->Option (ct X)} {fz:List Nat} {T:eS} {an:TypeId->Option (CT X.ι)} {am:Array Oper} {b:d7 X} {P:Program}
theorem alM(hΓ:te P Γ){i:Nat}{op:Oper}{e:U (Nat×DV X)}{o:U (Nat×Option (cg X))}{k:KK X A}{r:A}(hop:am[i]? =some op)(hw:want am op (ja b e o).env (ja b e o).ok=some true)(hok:UW e b.env op.op=true)
 (h:Ge Γ fz T an i op.op (xF (pj e b.env)) (yy o b.obj) k=some r):
 ∃(a:kB)(dv:DV X)(upd:U (Nat×Option (cg X))),a.sym=false/\k dv upd a.rd a.wr=some r/\∀(da:Nat->kB)(K:St->Prop),da i=a->K (ja b (Bo op.dst (YH dv) e) (upd++o))->zj P T am da i K (ja b e o):=by
 have⟨cL,rd,wr,dv,upd,aa,h1,h2,h3,h4,h5,h6⟩:=aiZ hΓ h;refine⟨⟨cL,rd,wr,false⟩,dv,upd,rfl,h6,λda K ha hK=>?_⟩;have h1':kz P T i op cL (ml (ja b e o).env) (eD rd (ja b e o).obj)=some aa:=by rw[aga];exact h1
 refine⟨op,(⟨aa.v,aa.upd,needs (ja b e o).env (ja b e o).ok op.op++aa.obs⟩,none),hop,?_,?_,?_⟩;simp only[opAt,hop,ai,hw,ha,h1'];rw[aM];rw[all_eq_true];intro p hp;rw[h4]at hp;simp only[jr,mem_map]at hp;obtain⟨q,hq,rfl⟩:=hp;rcases h5 q hq with h|h;simp[h,XP.2 (.inl rfl:jt (cE i) (cE i))];simp[h];exact anA (alL hok h1') h2;rw[h3,h4,anz];exact hK
theorem step_skip{i:Nat}{op:Oper}{e:U (Nat×DV X)}{o:U (Nat×Option (cg X))}(hop:am[i]? =some op)(hw:want am op (ja b e o).env (ja b e o).ok=some false)
 (da:Nat->kB) (K:St->Prop) (ha:da i=⟨.none,[],[],false⟩) (hK:K (ja b (Bo op.dst .skip e) o)):zj P T am da i K (ja b e o):=by refine⟨op,(⟨.undef,[],[]⟩,some false),hop,?_,trivial,?_⟩;simp[opAt,hop,hw,ha];rw[alK];exact hK
theorem ai0{e:U (Nat×DV X)}{o:U (Nat×Option (cg X))}{t:Nat}{v:Bool}(h:pj e b.env t=.c .bool v):ja b ((t,.c .bool v)::e) o=ja b e o:=by
 simp[ja];refine⟨?_,?_⟩;funext s;by_cases hs:t=s;subst hs;rw[h];simp[pj,lk];simp[pj,lk,hs];funext s;by_cases hs:t=s;subst hs;simp[lk];unfold pj at h;cases ht:lk e t with
 |none=>rfl
 |some d=>rw[ht]at h;simp at h;subst h;rfl
 simp[lk,hs]
def LK(tr:U (Nat×kB)):GP:=tr.map λp=>(p.1,p.2.rd,p.2.wr)
def UX(am:Array Oper)(t:Nat):Prop:=∃(j:Nat)(op:Oper),am[j]? =some op/\op.dst=some t
theorem agb{dst:J Tmp}{dv:DV X}{e:U (Nat×DV X)}{p:Nat×DV X}(h:p∈Bo dst dv e):p∈e\/dst=some p.1:=by
 cases dst with
 |none=>exact .inl h
 |some t=>
  simp[Bo]at h;rcases h with rfl|h;exact .inr rfl;exact .inl h
theorem FX(hΓ:te P Γ){k:U (Nat×DV X)->U (Nat×Option (cg X))->GP->J A}{r:A}:∀(l:U Nat)(e:U (Nat×DV X))(o:U (Nat×Option (cg X)))(oy:GP),Ag Γ fz T an am b k l e o oy=some r->
 ∃(tr:U (Nat×kB))(e':U (Nat×DV X))(o':U (Nat×Option (cg X))),tr.map (·.1)=l/\k e' o' ((LK tr).reverse++oy)=some r/\(∀ p∈e',p∈e\/UX am p.1)/\
  ∀da:Nat->kB,(∀ p∈tr,da p.1=p.2)->VA P T am da (λ M=>M=ja b e' o') l (ja b e o)
 |[],e,o,oy,h=>⟨[],e,o,rfl,h,λ_ hp=>.inl hp,λ_ _=>rfl⟩
 |i::l,e,o,oy,h=>by
  simp[Ag]at h;have⟨op,hop,h⟩:=ah.1 h
  have exec:∀e:U (Nat×DV X),want am op (ja b e o).env (ja b e o).ok=some true->
   (bif UW e b.env op.op then Ge Γ fz T an i op.op (xF (pj e b.env)) (yy o b.obj) λdv upd rd wr=>Ag Γ fz T an am b k l (Bo op.dst (YH dv) e) (upd++o) ((i,rd,wr)::oy)else none)=some r->
   ∃(tr:U (Nat×kB)) (e':U (Nat×DV X)) (o':U (Nat×Option (cg X))),tr.map (·.1)=i::l/\k e' o' ((LK tr).reverse++oy)=some r/\(∀ p∈e',p∈e\/UX am p.1)/\
    ∀da:Nat->kB,(∀ p∈tr,da p.1=p.2)->VA P T am da (λ M=>M=ja b e' o') (i::l) (ja b e o):=by intro e hw h;have⟨hok,h⟩:=eX h;have⟨a,dv,upd,_,h1,h2⟩:=alM hΓ hop hw hok h;obtain⟨tr,e',o',g1,g2,g4,g3⟩:=FX hΓ l _ _ _ h1;refine⟨(i,a)::tr,e',o',by simp[g1],?_,λp hp=>(g4 p hp).elim (λ hp=>(agb hp).elim .inl λhd=>.inr ⟨i,op,hop,hd⟩) .inr,λda ha=>?_⟩;simpa[LK]using g2;exact h2 da _ (ha (i,a) (by simp)) (g3 da λp hp=>ha p (by simp[hp]))
  have skip:∀e:U (Nat×DV X),want am op (ja b e o).env (ja b e o).ok=some false->Ag Γ fz T an am b k l (Bo op.dst .skip e) o ((i,[],[])::oy)=some r->
   ∃(tr:U (Nat×kB)) (e':U (Nat×DV X)) (o':U (Nat×Option (cg X))),tr.map (·.1)=i::l/\k e' o' ((LK tr).reverse++oy)=some r/\(∀ p∈e',p∈e\/UX am p.1)/\
    ∀da:Nat->kB,(∀ p∈tr,da p.1=p.2)->VA P T am da (λ M=>M=ja b e' o') (i::l) (ja b e o):=by intro e hw h;obtain⟨tr,e',o',g1,g2,g4,g3⟩:=FX hΓ l _ _ _ h;refine⟨(i,⟨.none,[],[],false⟩)::tr,e',o',by simp[g1],?_,λp hp=>(g4 p hp).elim (λ hp=>(agb hp).elim .inl λhd=>.inr ⟨i,op,hop,hd⟩) .inr,λda ha=>?_⟩;simpa[LK]using g2;exact step_skip hop hw da _ (ha (i,_) (by simp)) (g3 da λp hp=>ha p (by simp[hp]))
  split at h;rename_i hg;exact exec e (by simp[want,hg]) h;rename_i j p hg;rw[ah]at h;obtain⟨t,ht,h⟩:=h;split at h;rename_i v hv;have hw:∀e:U (Nat×DV X),pj e b.env t=.c .bool v->want am op (ja b e o).env (ja b e o).ok=some (v==p):=by
   intro e he;simp[want,hg,ht];have h0:(ja b e o).ok t=none:=by
    simp[ja];unfold pj at he;cases hq:lk e t with
    |none=>rfl
    |some d=>rw[hq]at he;simp at he;subst he;rfl
   have h1:(ja b e o).env t=.t (.sc (.bool v)):=(by simp[ja,he];rfl);rw[h0,h1]
  have hk:=ai0 (b:=b) (o:=o) hv;have hv':pj ((t,.c .bool v)::e) b.env t=.c .bool v:=by simp[pj,lk]
  have htd:UX am t:=by have⟨oj,h1,h2⟩:=ah.1 ht;exact⟨j,oj,h1,h2⟩
  have wide:(∃ (tr:U (Nat×kB)) (e':U (Nat×DV X)) (o':U (Nat×Option (cg X))),tr.map (·.1)=i::l/\k e' o' ((LK tr).reverse++oy)=some r/\(∀ p∈e',p∈((t,.c .bool v)::e:U (Nat×DV X))\/UX am p.1)/\
   ∀da:Nat->kB,(∀ p∈tr,da p.1=p.2)->VA P T am da (λ M=>M=ja b e' o') (i::l) (ja b ((t,.c .bool v)::e) o))->
   ∃(tr:U (Nat×kB))(e':U (Nat×DV X))(o':U (Nat×Option (cg X))),tr.map (·.1)=i::l/\k e' o' ((LK tr).reverse++oy)=some r/\(∀ p∈e',p∈e\/UX am p.1)/\
   ∀da:Nat->kB,(∀ p∈tr,da p.1=p.2)->VA P T am da (λ M=>M=ja b e' o') (i::l) (ja b e o):=by rintro⟨tr,e',o',g1,g2,g4,g3⟩;refine⟨tr,e',o',g1,g2,λq hq=>?_,hk ▸ g3⟩;rcases g4 q hq with h|h;rcases aG.1 h with rfl|h;exact .inr htd;exact .inl h;exact .inr h
  apply wide;cases v with
  |true=>
   simp at h;cases p with
   |true=>exact exec _ (hw _ hv') h
   |false=>exact skip _ (hw _ hv') h
  |false=>
   simp at h;cases p with
   |true=>exact skip _ (hw _ hv') h
   |false=>exact exec _ (hw _ hv') h
  rename_i hv;have⟨hsome,h⟩:=eX h;refine skip e ?_ h;simp[want,hg,ht];have h1:(ja b e o).env t=.undef:=by simp[ja,hv];rfl
  cases hq:lk e t with
  |some d=>
   have h0:(ja b e o).ok t=some false:=(by unfold pj at hv;rw[hq]at hv;simp at hv;subst hv;simp[ja,hq]);rw[h0,h1]
  |none=>rw[hq]at hsome;cases hsome
  cases h
end
section
variable {X:SX} {A:Type}
def fN(nx k:Nat):Nat:=if k<1000000 then k else nx+(k-1000000)
def gN(nx j:Nat):Nat:=if j<nx then j else 1000000+(j-nx)
def H5(nx sz k:Nat):Bool:=decide (k<nx) || (decide (1000000<=k)&&decide (k<1000000+sz))
def okE(nx sz:Nat)(e:U (Nat×DV X)):Bool:=e.all λp=>(b7 p.2).all (H5 nx sz)
def okO(nx sz:Nat)(o:U (Nat×Option (cg X))):Bool:=o.all λp=>H5 nx sz p.1&&match p.2 with|some x=>(ep x).all (H5 nx sz)|none=>true
def Pi(oy:GP):Nat->kB:=λi=>match lk oy i with|some p=>⟨.none,p.1,p.2,false⟩|none=>⟨.none,[],[],false⟩
def HA(tr:U (Nat×kB)):Nat->kB:=λi=>match lk tr i with|some a=>a|none=>⟨.none,[],[],false⟩
def MM:DV X->DV X
 |.skip=>.undef
 |x=>x
theorem anC(x:DV X):den (MM x)=den x:=by cases x<;>rfl
theorem acM(x:DV X):b7 (MM x)=b7 x:=by cases x<;>rfl
def fin(s:d7 X)(e:U (Nat×DV X))(o:U (Nat×Option (cg X)))(sz:Nat):d7 X:=
 ⟨e.map (λ p=>(p.1,MM (sy (fN s.nx) p.2)))++s.env,o.map (λ p=>(fN s.nx p.1,p.2.map (p7 (fN s.nx))))++s.obj,s.nx+sz,o.map (λ p=>fN s.nx p.1)++s.log⟩
def anD(N:Nat)(am:Array Oper)(d:Bool)(nx:Nat)(e:U (Nat×DV X))(o:U (Nat×Option (cg X)))(oy:GP):Bool:=
 RP N am&&(!d || UE am (Pi oy))&&okE nx (64*am.size) e&&okO nx (64*am.size) o&&decide (nx+64*am.size<=1000000)
def ai1(Γ:FuncId->J (ct X))(fz:U Nat)(T:eS)(an:TypeId->J (CT X.ι))(N:Nat)(am:Array Oper)(d:Bool)(s:d7 X)(k:d7 X->J A):J A:=
 Ag Γ fz T an am s (λ e o oy=>bif anD N am d s.nx e o oy then k (fin s e o (64*am.size))else none) (List.range am.size) [] [] []
theorem agc{am:Array Oper}{da vp:Nat->kB}(h:∀i,(da i).rd=(vp i).rd/\(da i).wr=(vp i).wr):UE am da=UE am vp:=by
 have h1:yX da=yX vp:=by funext i j;simp[yX,(h i).1,(h i).2,(h j).1,(h j).2]
 have h2:∀md,RO md am da=RO md am vp:=by intro md;funext listed i;simp[RO,h1]
 have h3:∀(md:Region.Mode)(n k:Nat)(listed:Array Bool),lexFrom' md am da n k listed=lexFrom' md am vp n k listed:=by
  intro md n
  induction n with
  |zero=>intro k listed;rfl
  |succ n ih=>intro k listed;simp[lexFrom',h2,ih]
 exact h3 _ _ _ _
theorem Et{α:Type}:∀(a b:U (Nat×α))(k:Nat),lk (a++b) k=match lk a k with|some x=>some x|none=>lk b k
 |[],_,_=>rfl
 |(j,x)::a,b,k=>by simp[lk];by_cases h:j=k;simp[h];simp[aC h,Et a b k]
theorem akK{α:Type}:∀{l:U (Nat×α)}{k:Nat},lk l k=none->∀x,(k,x)∉l
 |(j,y)::r,k,h,x=>by simp[lk]at h;split at h;cases h;rename_i hn;simp only[aG,Prod.mk.injEq,not_or];exact⟨λ e=>hn e.1.symm,akK h x⟩
 |[],_,_,_=>by simp
theorem aq1{tr:U (Nat×kB)}(hn:(tr.map (·.1)).Nodup)(i:Nat):(Pi (LK tr).reverse i).rd=(HA tr i).rd/\(Pi (LK tr).reverse i).wr=(HA tr i).wr:=by
 have hn':((LK tr).reverse.map (·.1)).Nodup:=by
  rw[List.map_reverse];have h1:((LK tr).map (·.1)).Nodup:=by simpa[LK,Function.comp_def]using hn
  exact List.pairwise_reverse.2 (h1.imp λh=>Ne.symm h)
 unfold Pi HA;cases h:lk tr i with
 |none=>
  cases h':lk (LK tr).reverse i with
  |none=>exact⟨rfl,rfl⟩
  |some p=>
   have:=o7 h';simp only[LK,List.mem_reverse,mem_map]at this;obtain⟨q,hq,he⟩:=this;injection he with e1 e2;subst e1;exact(akK h q.2 hq).elim
 |some a=>
  have h1:=o7 h;have h2:(i,a.rd,a.wr)∈(LK tr).reverse:=by simp only[LK,List.mem_reverse,mem_map];exact⟨(i,a),h1,rfl⟩
  rw[wI hn' h2];exact⟨rfl,rfl⟩
theorem anE{tr:U (Nat×kB)}(hn:(tr.map (·.1)).Nodup):∀p∈tr,HA tr p.1=p.2:=by rintro⟨i,a⟩ hp;rw[HA,wI hn hp]
theorem YI{nx sz k:Nat}(h:H5 nx sz k=true):k<nx\/(1000000<=k/\k<1000000+sz):=by simpa[H5]using h
theorem WP{nx sz k:Nat}(hle:nx+sz<=1000000)(h:k<nx\/(1000000<=k/\k<1000000+sz)):gN nx (fN nx k)=k:=by grind [gN,fN]
theorem HO{nx sz k:Nat}(hle:nx+sz<=1000000)(h:k<nx\/(1000000<=k/\k<1000000+sz)):fN nx k<nx+sz:=by grind [fN]
theorem Q2{nx k:Nat}(hle:nx<=1000000)(h:k<nx):fN nx k=k:=aM (by omega)
mutual
theorem YJ{f:Nat->Nat}:∀x:DV X,(∀ k∈b7 x,f k=k)->sy f x=x
 |.own k _ _,h|.ptr k _ _,h|.rk k _ _,h|.mp k,h|.oz k _,h|.t6 k _ _ _ _,h=>by simp[sy,h k (by simp[b7])]
 |.agg cs,h|.fR cs,h=>by simp[sy,FY cs (by simpa[b7]using h)]
 |.fn F first caps,h=>by simp[sy,FY first (λ k hk=>h k (by simp[b7,hk])),FY caps (λ k hk=>h k (by simp[b7,hk]))]
 |.c _ _,_|.rp _ _ _,_|.yq _ _ _ _ _,_|.en _ _ _,_|.raw _,_|.nil,_|.ub,_|.skip,_|.undef,_=>rfl
theorem FY{f:Nat->Nat}:∀l:List (DV X),(∀ k∈aS l,f k=k)->Nh f l=l
 |[],_=>rfl
 |x::xs,h=>by simp[Nh,YJ x (λ k hk=>h k (by simp[aS,hk])),FY xs (λ k hk=>h k (by simp[aS,hk]))]
end
mutual
theorem YK(f:Nat->Nat):∀x:DV X,b7 (sy f x)=(b7 x).map f
 |.own _ _ _|.ptr _ _ _|.rk _ _ _|.mp _|.oz _ _|.t6 _ _ _ _ _=>rfl
 |.agg cs|.fR cs=>by simp[sy,b7,Eu f cs]
 |.fn F first caps=>by simp[sy,b7,Eu f first,Eu f caps]
 |.c _ _|.rp _ _ _|.yq _ _ _ _ _|.en _ _ _|.raw _|.nil|.ub|.skip|.undef=>rfl
theorem Eu(f:Nat->Nat):∀l:List (DV X),aS (Nh f l)=(aS l).map f
 |[]=>rfl
 |x::xs=>by simp[Nh,aS,YK f x,Eu f xs]
end
theorem agf(f:Nat->Nat)(o:cg X):ep (p7 f o)=(ep o).map f:=by
 cases o with
 |cells sz rows=>simp[p7,ep];congr 1;exact map_congr_left λr _=>Eu f r
 |ey c l|map kc vc l=>rfl
theorem anF{α G:Type}(f:α->G):∀(l:U (Nat×α))(k:Nat),lk (l.map λp=>(p.1,f p.2)) k=(lk l k).map f
 |[],_=>rfl
 |(j,x)::r,k=>by simp[lk];by_cases h:j=k;simp[h];simp[aC h,anF f r k]
theorem akM{α G:Type}(f:α->G)(g:Nat->Nat):∀(l:U (Nat×α))(j:Nat),(∀ p∈l,∀q∈l,g p.1=g q.1->p.1=q.1)->
 (∀ y,lk (l.map λp=>(g p.1,f p.2)) j=some y->∃k x,lk l k=some x/\g k=j/\y=f x)/\(lk (l.map λp=>(g p.1,f p.2)) j=none->∀p∈l,g p.1≠j)
 |[],_,_=>⟨λ _ h=>by simp[lk]at h,λ_=>by simp⟩
 |(k0,x0)::r,j,hi=>by
  obtain⟨i1,i2⟩:=akM f g r j (λ p hp q hq=>hi p (by simp[hp]) q (by simp[hq]));simp[lk];by_cases h:g k0=j;rw[aM h];exact⟨λ y hy=>by injection hy with hy;exact⟨k0,x0,by simp,h,hy.symm⟩,λhn=>by cases hn⟩
  grind
structure Ext(ds:Nat->Prop)(s s':d7 X):Prop where
 env:∀t,¬ds t->fx s'.env t=fx s.env t\/fx s'.env t=.undef
 obj:∃d,s'.log=d++s.log/\∀k,k<s.nx->k∉d->iz s'.obj k=iz s.obj k\/iz s'.obj k=none
 nx:s.nx<=s'.nx
variable {Γ:FuncId->Option (ct X)} {fz:List Nat} {T:eS} {an:TypeId->Option (CT X.ι)} {P:Program} {N:Nat}
theorem Pm(s:d7 X)(e:U (Nat×DV X))(o:U (Nat×Option (cg X)))(sz t:Nat):fx (fin s e o sz).env t=match lk e t with|some d=>MM (sy (fN s.nx) d)|none=>fx s.env t:=by simp[fin,fx,Et,anF (λ d=>MM (sy (fN s.nx) d))];cases lk e t<;>rfl
theorem aef(hT:fQ P T)(hm:P.follows .mixedOrders=true)(hΓ:te P Γ){id:Nat}{am:Array Oper}{d:Bool}{s:d7 X}{k:d7 X->J A}{r:A}(hl:Low s)(h:ai1 Γ fz T an N am d s k=some r):
 ∃s':d7 X,k s'=some r/\Low s'/\Ext (UX am) s s'/\Ev P N (.region id am d) (λ e M=>e=.normal/\M=s'.st) s.st:=by
 unfold ai1 at h;obtain⟨tr,e,o,h1,h2,h3,h4⟩:=FX hΓ _ _ _ _ h;have⟨h5,h6⟩:=eX h2;simp only[anD,aY,append_nil]at h5;obtain⟨⟨⟨⟨hd,hlex⟩,hE⟩,hO⟩,hnx⟩:=h5;have hle:s.nx+64*am.size<=1000000:=of_decide_eq_true hnx;have I0:(tr.map (·.1)).Nodup:=by rw[h1];exact List.nodup_range
 have Wc:∀t x,lk e t=some x->∀j∈b7 x,j<s.nx\/(1000000<=j/\j<1000000+64*am.size):=by intro t x hx j hj;have:=all_eq_true.1 hE _ (o7 hx);exact YI (all_eq_true.1 this j hj)
 have Kx:∀p∈o,(p.1<s.nx\/(1000000<=p.1/\p.1<1000000+64*am.size))/\∀x,p.2=some x->∀j∈ep x,j<s.nx\/(1000000<=j/\j<1000000+64*am.size):=by intro p hp;have:=all_eq_true.1 hO _ hp;simp at this;refine⟨YI this.1,λx hx j hj=>?_⟩;have h2:=this.2;rw[hx]at h2;exact YI (all_eq_true.1 h2 j hj)
 have hinj:∀p∈o,∀q∈o,fN s.nx p.1=fN s.nx q.1->p.1=q.1:=by
  intro p hp q hq he;have:=congrArg (gN s.nx) he
  rwa [WP hle (Kx p hp).1,WP hle (Kx q hq).1]at this
 have yW:∀j,(∃ q x,lk o q=some x/\fN s.nx q=j/\iz (fin s e o (64*am.size)).obj j=x.map (p7 (fN s.nx)))\/(iz (fin s e o (64*am.size)).obj j=iz s.obj j/\∀p∈o,fN s.nx p.1≠j):=by
  intro j;obtain⟨i1,i2⟩:=akM (λ x:Option (cg X)=>x.map (p7 (fN s.nx))) (fN s.nx) o j hinj;simp only[fin,iz,Et];cases hj:lk (o.map λp=>(fN s.nx p.1,p.2.map (p7 (fN s.nx)))) j with
  |none=>exact .inr ⟨rfl,i2 hj⟩
  |some y=>
   have⟨q,x,g1,g2,g3⟩:=i1 y hj;exact .inl ⟨q,x,g1,g2,by rw[g3];rfl⟩
 refine⟨fin s e o (64*am.size),h6,?_,?_,?_⟩;constructor;exact hle;have:=hl.ge;show 1000<=s.nx+64*am.size;omega;intro t j hj;rw[Pm]at hj;cases ht:lk e t with
 |none=>rw[ht]at hj;have:=hl.env t j hj;show j<s.nx+64*am.size;omega
 |some x=>
  rw[ht,acM,YK]at hj;obtain⟨q,hq,rfl⟩:=mem_map.1 hj;exact HO hle (Wc t x ht q hq)
 intro j x hx;rcases yW j with ⟨q,y,g1,rfl,g3⟩|⟨g1,_⟩;rw[g3]at hx;rw[sK]at hx;obtain⟨z,rfl,rfl⟩:=hx;obtain⟨k1,k2⟩:=Kx _ (o7 g1);refine⟨HO hle k1,λi hi=>?_⟩;rw[agf]at hi;obtain⟨i',hi',rfl⟩:=mem_map.1 hi;exact HO hle (k2 z rfl i' hi');rw[g1]at hx;have⟨k1,k2⟩:=hl.obj j x hx;refine⟨show j<s.nx+64*am.size by omega,λi hi=>?_⟩;have:=k2 i hi;show i<s.nx+64*am.size;omega;refine⟨λ t ht=>.inl ?_,⟨o.map (λ p=>fN s.nx p.1),rfl,λj hj hn=>?_⟩,by show s.nx<=s.nx+64*am.size;omega⟩;rw[Pm];cases hx:lk e t with
 |none=>rfl
 |some x=>
  rcases h3 _ (o7 hx)with h|h;simp at h;exact(ht h).elim
 rcases yW j with ⟨q,y,g1,g2,g3⟩|⟨g1,_⟩;exact(hn (mem_map.2 ⟨(q,y),o7 g1,g2⟩)).elim;exact .inl g1;have hst:ja s [] []=s.st:=rfl;have hex:=h4 (HA tr) (anE I0);rw[hst]at hex;intro w0 O0 G I a w hr ho;have done:∀(e':Exit)(a':Act)(w':World),(∃ β' I' σ1,Rel P w0 O0 N β' I' σ1 a' w'/\e'=.normal/\σ1=ja s e o)->∃ β' I' σ1,Rel P w0 O0 N β' I' σ1 a' w'/\nb σ1/\e'=.normal/\σ1=(fin s e o (64*am.size)).st:=by
  rintro e' a' w' ⟨β',I',σ1,g1,rfl,rfl⟩;refine⟨_,I',(fin s e o (64*am.size)).st,Rel.re (f:=fN s.nx) (g:=gN s.nx) (D:=λk=>k<s.nx\/(1000000<=k/\k<1000000+64*am.size)) (λ k hk=>WP hle hk) (λ j hj=>by have:=hl.ge;unfold gN;rw[aM (by omega)]) g1 (λ t=>?_) (λ _=>rfl) (λ t=>.inr ?_) (λ j o' hj=>?_),?_,rfl,rfl⟩;show(match lk e t with|some .skip=>some false|_=>none)=none\/den (fx (fin s e o (64*am.size)).env t)=.undef;rw[Pm];cases ht:lk e t with
  |none=>exact .inl rfl
  |some d=>cases d<;>first|exact .inl rfl|exact .inr rfl
  show(∀ k∈refs (den (pj e s.env t)),_)/\kO (ix (fN s.nx) (den (pj e s.env t))) (den (fx (fin s e o (64*am.size)).env t));rw[Pm,jv,<- BQ];unfold pj;cases ht:lk e t with
  |none=>
   refine⟨λ q hq=>.inl (hl.env t q hq),?_⟩;rw[YJ _ (λ q hq=>Q2 (by omega) (hl.env t q hq))];exact kO.refl _
  |some x=>exact⟨Wc t x ht,by simp[anC];exact kO.refl _⟩
  simp[d7.st]at hj;obtain⟨x,hx,rfl⟩:=hj;rcases yW j with ⟨q,y,i1,rfl,i3⟩|⟨i1,i2⟩;rw[i3,sK]at hx;obtain⟨z,rfl,rfl⟩:=hx;obtain⟨k1,k2⟩:=Kx _ (o7 i1);obtain⟨r1,r2⟩:=Lg (D:=λk=>k<s.nx\/(1000000<=k/\k<1000000+64*am.size)) (fN s.nx) z (λ i hi=>k2 z rfl i hi);refine⟨q,bS z,?_,k1,rfl,r1,r2⟩;simp[ja,yy,i1];rw[i1]at hx;have⟨k1,k2⟩:=hl.obj j x hx;have hid:p7 (fN s.nx) x=x:=by
   cases x with
   |ey c l|map kc vc l=>rfl
   |cells sz rows=>
    simp[p7];congr 1;have:∀q∈rows,Nh (fN s.nx) q=q:=λq hq=>FY q λi hi=>Q2 (by omega) (k2 i (by simp[ep];exact⟨_,⟨q,hq,rfl⟩,hi⟩));rw[map_congr_left this];simp
  obtain⟨r1,r2⟩:=Lg (D:=λk=>k<s.nx\/(1000000<=k/\k<1000000+64*am.size)) (fN s.nx) x (λ i hi=>.inl (k2 i hi));rw[hid]at r1 r2;refine⟨j,bS x,?_,.inl k1,Q2 (by omega) k1,r1,r2⟩;simp[ja,yy];cases hlo:lk o j with
  |none=>simp[hx]
  |some y=>exact(i2 _ (o7 hlo) (Q2 (by omega) k1)).elim
  have hL:Low (fin s e o (64*am.size)):=by
   constructor;exact hle;have:=hl.ge;show 1000<=s.nx+64*am.size;omega;intro t j hj;rw[Pm]at hj;cases ht:lk e t with
   |none=>rw[ht]at hj;have:=hl.env t j hj;show j<s.nx+64*am.size;omega
   |some x=>
    rw[ht,acM,YK]at hj;obtain⟨q,hq,rfl⟩:=mem_map.1 hj;exact HO hle (Wc t x ht q hq)
   intro j x hx;rcases yW j with ⟨q,y,g1,rfl,g3⟩|⟨g1,_⟩;rw[g3]at hx;rw[sK]at hx;obtain⟨z,rfl,rfl⟩:=hx;obtain⟨k1,k2⟩:=Kx _ (o7 g1);refine⟨HO hle k1,λi hi=>?_⟩;rw[agf]at hi;obtain⟨i',hi',rfl⟩:=mem_map.1 hi;exact HO hle (k2 z rfl i' hi');rw[g1]at hx;have⟨k1,k2⟩:=hl.obj j x hx;refine⟨show j<s.nx+64*am.size by omega,λi hi=>?_⟩;have:=k2 i hi;show i<s.nx+64*am.size;omega
  exact hL.old
 cases d with
 |false=>exact wp_mono (acg hT hd ho hex hr) done
 |true=>
  refine wp_mono (Jo hT hm hd ?_ ho hex hr) done;rw[<- agc (aq1 I0)];simpa using hlex
end
end Go.Gb
