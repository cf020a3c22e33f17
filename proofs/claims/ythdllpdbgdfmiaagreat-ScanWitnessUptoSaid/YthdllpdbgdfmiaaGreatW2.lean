import Derived.Test.YthdllpdbgdfmiaaGreatW1
import Derived.Maps.RangeRun
import Derived.ChangeSame
import Derived.Carry
import Derived.OpenShut
import Derived.SizedLaws
import Derived.WalkKit
import Derived.ProofKit
import Derived.Lib.LaidTab
open List (mem_map all_eq_true cons_append length_map append_nil map_map take_of_length_le map_congr_left flatten_cons map_nil all_cons map_take map_drop mem_flatMap mem_append_left mem_append_right)
namespace Go.Gb
open Go.RowKit
def Ev(P:Program)(N:Nat)(c:Code)(Q:Exit->St->Prop)(σ:St):Prop:=
 ∀(w0:World) (O0:lh) (β:Nat->Option cV) (I:Nat->Prop) (a:Act) (w:World),Rel P w0 O0 N β I σ a w->ua σ->
  c.wp P (λ e a' w'=>∃ β' I' σ',Rel P w0 O0 N β' I' σ' a' w'/\ua σ'/\Q e σ') a w
def apS(K:St->Prop)(Q:Exit->St->Prop):Exit->St->Prop
 |.normal,σ=>K σ
 |e,σ=>Q e σ
def agL(id:Nat)(Q:Exit->St->Prop):Exit->St->Prop
 |.exit j,σ=>if j=id then Q .normal σ else Q (.exit j) σ
 |e,σ=>Q e σ
theorem aau{P:Program}{c:Code}{Q:Exit->Act->World->Prop}(J:Nat->Act->World->Prop)(h0:∀a w,¬J 0 a w)(round:∀n a w,J (n+1) a w->c.wp P (Exit.then (J n) Q) a w)(n:Nat)(a:Act)(w:World)(h:J n a w):
 (Code.loop c).wp P Q a w:=by
 intro b k cs;have key:∀n a w,J n a w->∃e a' w',Q e a' w'/\Arrives P (lone (b.at a (.code c::.inLoop c::k)) cs w) b k cs e a' w':=by
  intro n
  induction n with
  |zero=>intro a w h;exact(h0 a w h).elim
  |succ n ih=>
   intro a w hI;have⟨e,a₁,w₁,hq,harr⟩:=round n a w hI b (.inLoop c::k) cs;cases e with
   |normal=>
    have⟨e₂,a₂,w₂,hq₂,harr₂⟩:=ih a₁ w₁ hq;exact⟨e₂,a₂,w₂,hq₂,.of_steps (Steps.trans harr (.one step_inLoop)) harr₂⟩
   |exit id|goto l|ret|panic ch|outgrown=>exact⟨_,a₁,w₁,hq,.pass (x:=.inLoop c) rfl (λ _ _=>.inl (by simp)) harr⟩
 have⟨e,a',w',hq,harr⟩:=key n a w h;exact⟨e,a',w',hq,.of_steps (.one step_loop) harr⟩
section
variable {P:Program} {N:Nat} {Q:Exit->St->Prop} {σ:St}
theorem Ev.mono{c:Code}{Q':Exit->St->Prop}(h:Ev P N c Q σ)(hq:∀e σ,Q e σ->Q' e σ):Ev P N c Q' σ:=
 λw0 O0 β I a w hr ho=>wp_mono (h w0 O0 β I a w hr ho) λ_ _ _ ⟨β',I',σ',h1,h2,h3⟩=>⟨β',I',σ',h1,h2,hq _ _ h3⟩
theorem aou(h:Q .normal σ):Ev P N .skip Q σ:=λ_ _ β I _ _ hr ho=>wp_skip ⟨β,I,σ,hr,ho,h⟩
theorem aov{id:Nat}(h:Q (.exit id) σ):Ev P N (.exit id) Q σ:=λ_ _ β I _ _ hr ho=>wp_exit ⟨β,I,σ,hr,ho,h⟩
theorem ap7(h:Q .ret σ):Ev P N .ret Q σ:=λ_ _ β I _ _ hr ho=>wp_ret ⟨β,I,σ,hr,ho,h⟩
theorem amb{l:Nat}(h:Q .normal σ):Ev P N (.label l) Q σ:=λ_ _ β I _ _ hr ho=>wp_label ⟨β,I,σ,hr,ho,h⟩
theorem ap8{x y:Code}(h:Ev P N x (apS (Ev P N y Q) Q) σ):Ev P N (.seq x y) Q σ:=by intro w0 O0 β I a w hr ho;refine wp_seq (wp_mono (h w0 O0 β I a w hr ho) ?_);rintro e a' w' ⟨β',I',σ',h1,h2,h3⟩;cases e<;>first|exact h3 w0 O0 β' I' a' w' h1 h2|exact⟨β',I',σ',h1,h2,h3⟩
theorem aow{c:Operand}{x y:Code}(b:Bool)(hk:∀t,c=.tmp t->σ.ok t=none)(hc:my σ.env c=.t (.sc (.bool b)))(h:Ev P N (bif b then x else y) Q σ):Ev P N (.cond c x y) Q σ:=by intro w0 O0 β I a w hr ho;have h1:=abT (P:=P) (β:=β) (w:=w) (I:=I) (σ:=σ) (a:=a) (x:=c) hr.mem.vars (λ t ht=>by have h1:=hr.env t;rw[hk t ht]at h1;exact h1);rw[hc]at h1;refine wp_cond (t:=b) h1.1 ?_;cases b<;>exact h w0 O0 β I a w hr ho
theorem agM{c:Operand}{x y:Code}(hk:∀t,c=.tmp t->σ.ok t=none)(hc:my σ.env c=.ub)(h1:Ev P N x Q σ)(h2:Ev P N y Q σ):Ev P N (.cond c x y) Q σ:=by intro w0 O0 β I a w hr ho;have h3:=abT (P:=P) (β:=β) (w:=w) (I:=I) (σ:=σ) (a:=a) (x:=c) hr.mem.vars (λ t ht=>by have h1:=hr.env t;rw[hk t ht]at h1;exact h1);rw[hc]at h3;obtain⟨b,hb⟩:=h3;refine wp_cond (t:=b) hb ?_;cases b;exact h2 w0 O0 β I a w hr ho;exact h1 w0 O0 β I a w hr ho
theorem amc{id:Nat}{c:Code}(h:Ev P N c (agL id Q) σ):Ev P N (.block id c) Q σ:=by
 intro w0 O0 β I a w hr ho;refine wp_block (wp_mono (h w0 O0 β I a w hr ho) ?_);rintro e a' w' ⟨β',I',σ',h1,h2,h3⟩;cases e with
 |exit j=>
  simp[agL]at h3;simp[Exit.inBlock];split;rw[aX ‹_›]at h3;exact⟨β',I',σ',h1,h2,h3⟩;rw[aU ‹_›]at h3;exact⟨β',I',σ',h1,h2,h3⟩
 |_=>exact⟨β',I',σ',h1,h2,h3⟩
theorem aox{c:Code}(J:Nat->St->Prop)(h0:∀ σ,¬J 0 σ)(round:∀n σ,J (n+1) σ->Ev P N c (apS (J n) Q) σ)(n:Nat)(h:J n σ):Ev P N (.loop c) Q σ:=by intro w0 O0 β I a w hr ho;refine aau (λ n a w=>∃ β I σ,Rel P w0 O0 N β I σ a w/\ua σ/\J n σ) (λ a w ⟨_,_,σ,_,_,h⟩=>h0 σ h) ?_ n a w ⟨β,I,σ,hr,ho,h⟩;rintro n a w ⟨β,I,σ,hr,ho,hJ⟩;refine wp_mono (round n σ hJ w0 O0 β I a w hr ho) ?_;rintro e a' w' ⟨β',I',σ',h1,h2,h3⟩;cases e<;>exact⟨β',I',σ',h1,h2,h3⟩
end
def lk{α:Type}:List (Nat×α)->Nat->Option α
 |[],_=>none
 |(j,x)::r,k=>if j=k then some x else lk r k
structure sm where
 env:List (Nat×AV)
 cR:List (Nat×aP)
def sm.st(L:sm):St:=⟨λ t=>(lk L.env t).getD .undef,λk=>lk L.cR k,λ_=>none⟩
theorem rZ{α:Type}:∀{l:List (Nat×α)}{k:Nat}{x:α},lk l k=some x->(k,x)∈l
 |(j,y)::r,k,x,h=>by simp[lk]at h;split at h;cases h;rename_i e;subst e;simp;exact eY _ (rZ h)
theorem vE{α:Type}:∀{l:List (Nat×α)}{k:Nat}{x:α},(l.map (·.1)).Nodup->(k,x)∈l->lk l k=some x
 |(j,y)::r,k,x,hn,h=>by simp only[bE,List.nodup_cons]at hn;simp[lk];rcases aR.1 h with h|h;injection h with h1 h2;subst h1;subst h2;simp;have hne:k≠j:=λe=>hn.1 (mem_map.2 ⟨(k,x),h,e⟩);rw[aU (Ne.symm hne)];exact vE hn.2 h
open Go.RowKit Go.MapKept
structure RgI where
 x:Operand
 t:TypeId
 a0:Nat
 it:Nat
 nn:Nat
 b:Nat
 e:Nat
 xx:Nat
 kv:Nat
 j:Nat
 j2:Nat
 body:Code
section
variable {P:Program} {w0:World} {O0:lh} {N:Nat} {β:Nat->Option cV} {I:Nat->Prop} {σ:St} {a:Act} {w:World}
def St.put(σ:St)(d:Nat)(x:AV):St:=⟨Bt σ.env (some d) x,σ.obj,Bt σ.ok (some d) none⟩
theorem Rel.put(hr:Rel P w0 O0 N β I σ a w){d:Nat}(hd:d<N){x:AV}{v:Value}(hv:VR P β w I x v):Rel P w0 O0 N β I (σ.put d x) (a.put (some d) v) w:=by
 refine⟨by simpa[Act.put]using hr.defers,by simpa[Act.put]using hr.size,λt=>?_,hr.mem⟩;have hold:=hr.env t;simp only[St.put,Bt,Act.put,aZ];by_cases hdt:d=t;subst hdt;rw[aX rfl,aX rfl];have e:(a.tmps.setIfInBounds d v).getD d undef=v:=by simp[Nat.lt_of_lt_of_eq hd hr.size.symm]
 rw[e];exact hv;rw[aU hdt,aU hdt];simpa[Array.getElem?_setIfInBounds_ne hdt]using hold
structure tB(β:Nat->Option cV)(I:Nat->Prop)(obj:Nat->Option aP)(w:World)(r:Nat):Prop where
 lt:r<w.heap.size
 IR:¬I r
 obj:∀k o,obj k=some o->¬gc β k r
theorem Rel.world{w':World}(hr:Rel P w0 O0 N β I σ a w)(hs:Same I w w')(hm:Mem P w0 O0 β I σ.obj w'):Rel P w0 O0 N β I σ a w':=
 ⟨hr.defers,hr.size,λt=>ga.mono (λ _ _ h=>h) hs (λ _ h=>h) (hr.env t),hm⟩
end
def kept(os':List (Option fC))(j:Nat):Prop:=∃p,os'[j]? =some (some p)
def AW(get:Nat->Option aP)(fk:Option Nat)(os':List (Option fC)):AV->Tree->Prop
 |.t x,y=>y=x
 |.de,y=>y=.sl []
 |.oz k len,y=>fk≠some k/\¬kept os' k/\∃o ec,get k=some o/\(o.rows.drop 0).take len=aI ec/\ec.length=len/\y=.sl ec
 |.own k aa len,y=>fk≠some k/\¬kept os' k/\∃o ec,get k=some o/\(o.rows.drop aa).take len=aI ec/\ec.length=len/\y=.sl ec
 |_,_=>False
def mm(get:Nat->Option aP)(fk:Option Nat)(os':List (Option fC)):List AV->List Tree->Prop
 |[],[]=>True
 |x::xs,y::ys=>AW get fk os' x y/\mm get fk os' xs ys
 |_,_=>False
def fc(get:Nat->Option aP)(fk:Option Nat)(os':List (Option fC)):List (List AV)->List (List Tree)->Prop
 |[],[]=>True
 |x::xs,y::ys=>mm get fk os' x y/\fc get fk os' xs ys
 |_,_=>False
def Hm(get:Nat->Option aP)(fk:Option Nat)(os':List (Option fC)):AV->RC->Prop
 |.agg cs,.d (.a ts)=>mm get fk os' cs ts
 |x,.d (.s y)=>AW get fk os' x y
 |.de,.fresh _ rows=>rows=[]
 |.own k aa len,.fresh sz rows=>fk=some k/\¬kept os' k/\aa=0/\∃o,get k=some o/\o.sz=sz/\fc get fk os' (o.rows.take len) rows/\rows.length=len
 |.own k aa len,.whole j len'=>k=j/\aa=0/\len'=len/\kept os' j
 |_,_=>False
def oy(get:Nat->Option aP)(fk:Option Nat)(os':List (Option fC)):List AV->List RC->Prop
 |[],[]=>True
 |x::xs,c::cs=>Hm get fk os' x c/\oy get fk os' xs cs
 |_,_=>False
def Hk(get:Nat->Option aP)(fk:Option Nat)(os':List (Option fC)):List AV->RV->Prop
 |[x],.one c=>Hm get fk os' x c
 |x::y::r,.fj cs=>oy get fk os' (x::y::r) cs
 |[],.fj cs=>cs=[]
 |_,_=>False
def PQ(get:Nat->Option aP)(fk:Option Nat)(os':List (Option fC)):Prop:=
 ∀(j:Nat) p,os'[j]? =some (some p)->fk≠some j/\∃o,get j=some o/\o.sz=p.1/\fc get fk os' (o.rows.take p.2.length) p.2
def UU(T:eI)(t:TypeId)(x:AV)(obj:Nat->Option aP):Option Out:=
 Le T t x .none obj
def Qe(T:eI)(σ:St):ResultVar->Option AV
 |.tmp t=>match σ.ok t with
  |none=>some (σ.env t)
  |some _=>none
 |.cell a t=>match σ.ok a with
  |none=>match UU T t (σ.env a) σ.obj with
   |some ⟨v,[],[]⟩=>some v
   |_=>none
  |some _=>none
def nS(T:eI)(σ:St):List ResultVar->Option (List AV)
 |[]=>some []
 |r::rs=>(Qe T σ r).bind λv=>(nS T σ rs).bind λvs=>some (v::vs)
def V3(tmps:Array Value):ResultVar->Sem Value
 |.tmp t=>pure (tmps.getD t undef)
 |.cell a t=>do loadVar t (<- asAddr (tmps.getD a undef))
theorem V4(fn:Func)(tmps:Array Value):results fn tmps=(fn.results.mapM (V3 tmps))>>=λvs=>pure (if h:vs.size=1 then vs[0]else .tuple vs):=by congr 2
def arA(T:eI)(rs:List ResultVar)(rv:RV)(os':List (Option fC)):Exit->St->Prop
 |.normal,σ=>∃xs fk,nS T σ rs=some xs/\Hk σ.obj fk os' xs rv/\PQ σ.obj fk os'
 |.ret,σ=>∃xs fk,nS T σ rs=some xs/\Hk σ.obj fk os' xs rv/\PQ σ.obj fk os'
 |_,_=>False
section
variable {P:Program} {T:eI} {w0:World} {O0:lh} {N:Nat} {β:Nat->Option cV} {I:Nat->Prop} {σ:St} {a:Act} {w:World}
theorem abV(hT:fw P T)(hr:Rel P w0 O0 N β I σ a w){r:ResultVar}{x:AV}(h:Qe T σ r=some x):
 ∃v,(V3 a.tmps r).run P w=.ok v w/\VR P β w I x v:=by
 cases r with
 |tmp t=>
  simp only[Qe]at h;have h1:=hr.env t;cases hk:σ.ok t with
  |some b=>rw[hk]at h;cases h
  |none=>
   rw[hk]at h h1;cases h;exact⟨_,by simp[V3],h1⟩
 |cell ad t=>
  simp only[Qe]at h;have hx:=hr.env ad;cases hk:σ.ok ad with
  |some b=>rw[hk]at h;cases h
  |none=>
  rw[hk]at h hx;simp only at h;have hx:VR P β w I (σ.env ad) (a.tmps.getD ad undef):=hx;split at h
  ·rename_i v hl;injection h with h;subst h;obtain⟨u,h1,h2⟩:∃u,(Instr.loadAt t (a.tmps.getD ad undef)).run P w=.ok u w/\VR P β w I v u:=(by obtain⟨u,h1,h2,_⟩:=RN hT hr.mem (λ _ _ h=>h) hl trivial hx;exact⟨u,h1,h2⟩);refine⟨u,?_,h2⟩;have hp:∃p,a.tmps.getD ad undef=.pointer (some p):=by
    unfold UU at hl;unfold Le at hl;cases hti:T t with
    |none=>simp[hti]at hl
    |some ti=>
     simp only[hti,ai]at hl;split at hl
     ·rename_i heq;rw[heq]at hx;simp only[VR]at hx;obtain⟨b,sz,n,_,h⟩:=hx;exact⟨_,h⟩
     ·rename_i heq;rw[heq]at hx;simp only[VR]at hx;obtain⟨b,o,h,_⟩:=hx;exact⟨_,h⟩
     ·cases hl
   obtain⟨p,hp⟩:=hp;rw[hp]at h1;simp only[V3,hp,asAddr,Sem.run_bind,Sem.run_pure,Result.andThen_ok];exact h1
  ·cases h
theorem Bu(hT:fw P T)(hr:Rel P w0 O0 N β I σ a w):∀(rs:List ResultVar)(xs:List AV),nS T σ rs=some xs->
 ∃vs,(rs.mapM (V3 a.tmps)).run P w=.ok vs w/\bk P β w I xs vs
 |[],xs,h=>by simp[nS]at h;subst h;exact⟨[],by simp,by simp[bk]⟩
 |r::rs,xs,h=>by
  simp[nS]at h;cases h1:Qe T σ r with
  |none=>simp[h1]at h
  |some x=>
   cases h2:nS T σ rs with
   |none=>simp[h2]at h
   |some ys=>
    simp[h1,h2]at h;subst h;have⟨v,g1,g2⟩:=abV hT hr h1;have⟨vs,g3,g4⟩:=Bu hT hr rs ys h2;exact⟨v::vs,by simp[g1,g3],by simp[bk];exact⟨g2,g4⟩⟩
def Nn(σ:St)(w0 w:World)(β:Nat->Option cV)(I:Nat->Prop)(O0:lh)(fk:Option Nat)(os':List (Option fC))(b:Nat):Prop:=
 (I b\/O0.IR b\/w0.heap.size<=b\/O0.own b)/\b<w.heap.size/\¬∃k,(fk=some k\/kept os' k)/\(∃ o,σ.obj k=some o)/\gc β k b
theorem adX(hr:Rel P w0 O0 N β I σ a w)(fk:Option Nat)(os':List (Option fC)):∀b,I b->Nn σ w0 w β I O0 fk os' b:=λb hb=>
 ⟨.inl hb,hr.mem.lt b hb,λ⟨k,_,⟨o,ho⟩,hβ⟩=>(hr.mem.j9 k o b ho hβ).1 hb⟩
theorem Np(hr:Rel P w0 O0 N β I σ a w){fk:Option Nat}{os':List (Option fC)}{k aa len:Nat}{y:Tree}{v:Value}(h:fk≠some k/\¬kept os' k/\∃o ec,σ.obj k=some o/\(o.rows.drop aa).take len=aI ec/\ec.length=len/\y=.sl ec)(hv:VR P β w I (.own k aa len) v):TR w (Nn σ w0 w β I O0 fk os') y v:=by obtain⟨hne,hnk,o,ec,h1,h2,h3,rfl⟩:=h;simp only[TR];rcases hv with ⟨_,rfl,_,h4⟩|⟨b,sz,n,cap,ad,h4,rfl,h5,h6,h7⟩;exact .inl ⟨List.eq_nil_of_length_eq_zero (by omega),none,0,rfl,λ_=>rfl⟩;have⟨g1,g2,g3⟩:=hr.mem.own k o b sz n h1 h4;refine .inr ⟨b,ad,cap,sz,by rw[h3],by omega,⟨.inr (.inr (g3.elim .inr .inl)),g2,λ⟨k',e1,⟨o',e2⟩,e3⟩=>?_⟩,?_⟩;have:=hr.mem.mi k k' o o' b h1 e2 (.at h4) e3;subst this;exact e1.elim hne hnk;by_cases hc:cap=0;have:ec=[]:=List.eq_nil_of_length_eq_zero (by omega);subst this;simp[cN];rw[h7 hc];have⟨B,hB,s9⟩:=hr.mem.cR k o h1;rw[h4]at hB;cases hB;obtain⟨hs,c,e,hc',_,s9⟩:=s9;have h8:=b7.take len _ _ _ _ (b7.drop aa _ _ _ _ s9);rw[h2]at h8;exact cN.mf (adX hr fk os') hc' ec _ _ h8
theorem Er(hr:Rel P w0 O0 N β I σ a w){fk:Option Nat}{os':List (Option fC)}{x:AV}{y:Tree}{v:Value}(h:AW σ.obj fk os' x y)(hv:VR P β w I x v):TR w (Nn σ w0 w β I O0 fk os') y v:=by
 cases x<;>simp only[AW]at h
 case t x=>subst h;simp[VR]at hv;exact TR.mono (λ _ _=>rfl) (adX hr fk os') _ _ hv
 case de=>subst h;simp[VR]at hv;simp only[TR];exact .inl ⟨trivial,none,0,hv,λ_=>rfl⟩
 case own k aa len=>exact Np hr h hv
 case oz k len=>
  rcases hv.vu with ⟨rfl,rfl⟩|⟨_,hv⟩;obtain⟨hne,hnk,o,ec,h1,h2,h3,rfl⟩:=h;exact .inl ⟨List.eq_nil_of_length_eq_zero h3,none,0,rfl,λ_=>rfl⟩;exact Np hr h hv
theorem Nq(hr:Rel P w0 O0 N β I σ a w){fk:Option Nat}{os':List (Option fC)}{β':Nat->Option cV}:∀{r:List AV}{t:List Tree}{c:Array Value}{aa:Nat},mm σ.obj fk os' r t->dt P β w I r c aa->dt P β' w (Nn σ w0 w β I O0 fk os') (t.map AV.t) c aa
 |[],[],_,_,_,_=>trivial
 |x::xs,y::ys,c,aa,h,⟨⟨v,h1,h2,h3⟩,h4⟩=>⟨⟨v,h1,by simp[VR];exact Er hr h.1 h2,h3⟩,Nq hr h.2 h4⟩
 |[],_::_,_,_,h,_|_::_,[],_,_,h,_=>h.elim
theorem mm.length{get:Nat->Option aP}{fk:Option Nat}{os':List (Option fC)}:∀{r:List AV}{t:List Tree},mm get fk os' r t->t.length=r.length
 |[],[],_=>rfl
 |_::_,_::_,h=>by simp[mm.length h.2]
 |[],_::_,h|_::_,[],h=>h.elim
theorem Bv(hr:Rel P w0 O0 N β I σ a w){fk:Option Nat}{os':List (Option fC)}{β':Nat->Option cV}:∀{rs:List (List AV)}{ts:List (List Tree)}{c:Array Value}{aa sz:Nat},fc σ.obj fk os' rs ts->b7 P β w I rs c aa sz->b7 P β' w (Nn σ w0 w β I O0 fk os') (aI ts) c aa sz
 |[],[],_,_,_,_,_=>trivial
 |r::rs,t::ts,c,aa,sz,h,⟨h1,h2,h3⟩=>⟨by rw[length_map,h.1.length,h1],Nq hr h.1 h2,Bv hr h.2 h3⟩
 |[],_::_,_,_,_,h,_|_::_,[],_,_,_,h,_=>h.elim
theorem fc.length{get:Nat->Option aP}{fk:Option Nat}{os':List (Option fC)}:∀{rs:List (List AV)}{ts:List (List Tree)},fc get fk os' rs ts->rs.length=ts.length
 |[],[],_=>rfl
 |_::_,_::_,h=>by simp[h.2.length]
 |[],_::_,h|_::_,[],h=>h.elim
theorem Lm(hr:Rel P w0 O0 N β I σ a w){fk:Option Nat}{os':List (Option fC)}{β':Nat->Option cV}:∀{r:List AV}{t:List Tree}{vs:List Value},mm σ.obj fk os' r t->bk P β w I r vs->bk P β' w (Nn σ w0 w β I O0 fk os') (t.map AV.t) vs
 |[],[],[],_,_=>by simp[bk]
 |x::xs,y::ys,v::vs,h,hv=>by exact⟨Er hr h.1 hv.1,Lm hr h.2 hv.2⟩
 |[],_::_,_,h,_|_::_,[],_,h,_=>h.elim
 |[],[],_::_,_,hv|_::_,_::_,[],_,hv=>by simp[bk]at hv
theorem Ih(hr:Rel P w0 O0 N β I σ a w){fk:Option Nat}{os':List (Option fC)}{β':Nat->Option cV}:∀{rs:List (List AV)}{ts:List (List Tree)}{es:List MapEntry},fc σ.obj fk os' rs ts->cL P β w I rs es->cL P β' w (Nn σ w0 w β I O0 fk os') (aI ts) es
 |[],[],[],_,_=>trivial
 |_::_,_::_,_::_,h,hm=>⟨Lm hr h.1 hm.1,Ih hr h.2 hm.2⟩
 |[],_::_,_,h,_|_::_,[],_,h,_=>h.elim
 |[],[],_::_,_,hm|_::_,_::_,[],_,hm=>hm.elim
theorem fc.nil{get:Nat->Option aP}{fk:Option Nat}{os':List (Option fC)}{t:List (List Tree)}(h:fc get fk os' [] t):t=[]:=by
 cases t with
 |nil=>rfl
 |cons=>exact h.elim
theorem V5(hr:Rel P w0 O0 N β I σ a w){F:Nat->Prop}{βi:Nat->Option cV}{fk:Option Nat}{os':List (Option fC)}(hF:∀k o b,fk=some k->σ.obj k=some o->¬kept os' k->gc β k b->F b)(hi:∀j,kept os' j->β j=βi j){x:AV}{c:RC}{v:Value}
 (h:Hm σ.obj fk os' x c) (hv:VR P β w I x v):A6 P F βi c w (Nn σ w0 w β I O0 fk os') v:=by
 unfold Hm at h;split at h;rename_i cs ts;simp[VR]at hv;obtain⟨vs,rfl,hv⟩:=hv;refine⟨vs,rfl,?_⟩;have:∀(cs:List AV)(ts:List Tree)(vs:List Value),mm σ.obj fk os' cs ts->bk P β w I cs vs->fx w (Nn σ w0 w β I O0 fk os') ts vs:=by
  intro cs
  induction cs with
  |nil=>intro ts vs h hv;cases ts<;>cases vs<;>first|trivial|exact h.elim|(simp at hv)
  |cons x xs ih=>
   intro ts vs h hv;cases ts with
   |nil=>exact h.elim
   |cons t ts=>
    cases vs with
    |nil=>simp[bk]at hv
    |cons u us=>simp[bk]at hv;exact⟨Er hr h.1 hv.1,ih ts us h.2 hv.2⟩
 exact this cs ts vs.toList h hv;exact Er hr h hv;subst h;simp[VR]at hv;exact .inl ⟨rfl,hv⟩;rename_i k aa len sz rows;obtain⟨rfl,hnk,rfl,o,h1,rfl,h2,h3⟩:=h;simp only[VR]at hv;rcases hv with ⟨_,rfl,_,h4⟩|⟨b,sz,n,cap,ad,h4,rfl,h5,h6,h7⟩;exact .inl ⟨List.eq_nil_of_length_eq_zero (by omega),rfl⟩;have⟨B,hB,s9⟩:=hr.mem.cR k o h1;rw[h4]at hB;cases hB;obtain⟨hs,c,e,hc',hn,s9⟩:=s9;refine .inr ⟨b,c,e,cap,ad,n.s,by rw[h3],hF k o b rfl h1 hnk (.at h4),λhI=>hI.2.2 ⟨k,.inl rfl,⟨o,h1⟩,.at h4⟩,hc',by omega,?_,?_,λhc=>by simpa using h7 hc⟩;rw[<- hs,hn];simpa using h6;rw[<- hs];exact Bv hr h2 (b7.take len _ _ _ _ s9);rename_i k aa len j len';obtain⟨rfl,rfl,rfl,hk⟩:=h;show VR P βi w (Nn σ w0 w β I O0 fk os') (.own k 0 len') v;simp[VR]at hv ⊢;rw[<- hi k hk];exact hv;exact h.elim
theorem Bw{α:Type}(l:List α)(t:Nat):lk ((List.range l.length).zip l) t=l[t]? :=by
 have q7:∀(l:List α)(s t:Nat),(lk ((List.range' s l.length).zip l) t)=if s<=t/\t<s+l.length then l[t-s]? else none:=by
  intro l
  induction l with
  |nil=>intro s t;simp[lk]
  |cons x xs ih=>
   simp[List.range'_succ,lk]
   all_goals grind
 rw[List.range_eq_range',q7];by_cases ht:t<l.length;simp;rw[aU (by omega)];simp[List.getElem?_eq_none (Nat.le_of_not_lt ht)]
theorem Qf{x:AV}:∀{l:List AV},x∈l->∀k∈refs x,k∈fe l
 |[],h,_,_=>by simp at h
 |y::ys,h,k,hk=>by simp[fe];rcases aR.1 h with rfl|h;exact .inl hk;exact .inr (Qf h k hk)
theorem akn(hT : fw P T){f : FuncId}{fn : Func}{c : Code}{args : List AV}{os : List fC}{os' : List (Option fC)}{rv : RV}(hfn : P.funcs[f]? = some fn)(hb : fn.body = some c)(hname : (fn.name == "runtime.NumGoroutine") = false)(hN : args.length <= fn.ntmps)(hargs : ∀ k ∈ fe args, k < 1000)(hos : os.length <= 1000)(hlen : os'.length = os.length)
 (h:Ev P fn.ntmps c (arA T fn.results.toList rv os') (sm.st ⟨(List.range args.length).zip args,(List.range (os.map iS).length).zip (os.map iS)⟩)):qu P f args os os' rv:=by
 refine⟨⟨fn,hfn,by rw[hb];rfl,hname⟩,λw β I vs hβ hM hv=>?_⟩;have hvl:=bk.length _ _ hv;simp at hvl;have iz:∀k,lk ((List.range (os.map iS).length).zip (os.map iS)) k=sA os k:=λk=>by rw[Bw];simp[sA]
 refine calls_of_wp hfn hb ?_;have hrel:Rel P w (nQ β I) fn.ntmps β I (sm.st ⟨(List.range args.length).zip args,(List.range (os.map iS).length).zip (os.map iS)⟩) { tmps:=vs++Array.replicate (fn.ntmps-vs.size) undef,defers:=[] } w:=by
  refine⟨rfl,by simp;omega,λt=>?_,?_⟩;simp only[sm.st,Bw,ga];by_cases ht:t<args.length;obtain⟨v,g1,g2⟩:=bk.get _ _ t _ hv (dI ht);rw[dI ht];simp only[Option.getD_some];have:(vs++Array.replicate (fn.ntmps-vs.size) undef).getD t undef=v:=by rw[Array.getElem?_toList]at g1;simp only[Array.getD_eq_getD_getElem?,Array.getElem?_append,show t<vs.size by omega,if_true,g1,Option.getD_some]
  rw[this];exact g2;rw[List.getElem?_eq_none (Nat.le_of_not_lt ht)];simp[VR];have:(sm.st ⟨(List.range args.length).zip args,(List.range (os.map iS).length).zip (os.map iS)⟩).obj=sA os:=funext iz;rw[this];exact hM
 have hold:ua (sm.st ⟨(List.range args.length).zip args,(List.range (os.map iS).length).zip (os.map iS)⟩):=by
  refine⟨λ t k hk=>?_,λk o hk=>?_⟩;simp[sm.st,Bw]at hk;cases ht:args[t]? with
  |none=>rw[ht]at hk;simp[refs]at hk
  |some x=>rw[ht]at hk;have:=hargs k (Qf (dh ht) k hk);omega
  have hk:sA os k=some o:=(iz k).symm.trans hk;simp only[sA,lK]at hk;obtain⟨p,hp,rfl⟩:=hk;refine⟨by have:=(dH.1 hp).1;omega,λr hr x hx j hj=>?_⟩;simp[iS,aI,mem_map]at hr;obtain⟨q,_,rfl⟩:=hr;simp[mem_map]at hx;obtain⟨t,_,rfl⟩:=hx;simp[refs]at hj
 refine wp_mono (h w (nQ β I) β I _ w hrel hold) ?_
 have fin:∀(a':Act) (w':World) (β':Nat->Option cV) (I':Nat->Prop) (σ':St),Rel P w (nQ β I) fn.ntmps β' I' σ' a' w'->(∃ xs fk,nS T σ' fn.results.toList=some xs/\Hk σ'.obj fk os' xs rv/\PQ σ'.obj fk os')->
  a'.defers=[]/\∃v,(results fn a'.tmps).run P w'=.ok v w'/\PR P w β I os' rv (.returned v) w':=by
  intro a' w' β' I' σ' hr ⟨xs,fk,hx,he,heo⟩;obtain⟨us,g1,g2⟩:=Bu hT hr _ _ hx;have B9:=bk.length _ _ g2;have hm:=hr.mem;have hrun:(fn.results.mapM (V3 a'.tmps)).run P w'=.ok us.toArray w':=by rw[Array.mapM_eq_mapM_toList,Sem.run_map,g1];rfl
  have hko:∀j p,os'[j]? =some (some p)->∃B o,β j=some B/\β' j=some B/\σ'.obj j=some o/\OR P β' w' I' o B/\o.sz=p.1/\fc σ'.obj fk os' (o.rows.take p.2.length) p.2:=by intro j p hj;have⟨_,o,e1,e2,e3⟩:=heo j p hj;have hjl:j<os.length:=(by rw[<- hlen];exact(dH.1 hj).1);obtain⟨B,hB,_⟩:=hM.cR j (iS os[j]) (by simp[sA,hjl]);have hB':=hm.anch j B (by simp only[nQ];rw[aX (by omega)];exact hB);have⟨B',hB2,hO⟩:=hm.cR j o e1;rw[hB']at hB2;cases hB2;exact⟨B,o,hB,hB',e1,hO,e2,e3⟩
  have hkept:∀j,kept os' j->β' j=β j:=λj ⟨p,hp⟩=>by have⟨B,o,h1,h2,_⟩:=hko j p hp;rw[h1,h2]
  have pC:∀j o,CV os' j=some o->∃p,os'[j]? =some (some p)/\o=iS p:=by intro j o hj;simp only[CV,lK,Option.join_eq_some_iff]at hj;obtain⟨p,hp,rfl⟩:=hj;exact⟨p,hp,rfl⟩
  have q6:∀b,I b->¬Vy β b/\b<w.heap.size:=by intro b hb;refine⟨?_,hM.lt b hb⟩;rintro⟨j,B,hj,hB⟩;rcases Nat.lt_or_ge j os.length with hjl|hjl;exact(hM.ownB j (iS os[j]) B b (by simp[sA,hjl]) hj hB).1 hb;rw[hβ j hjl]at hj;cases hj
  have hOI:∀b,I b->Nn σ' w w' β' I' (nQ β I) fk os' b:=by intro b hb;have⟨g1,g2⟩:=q6 b hb;refine⟨.inr (.inl hb),Nat.lt_of_lt_of_le g2 hm.le,?_⟩;rintro⟨k,_,⟨o,ho⟩,hβk⟩;rcases (hm.j9 k o b ho hβk).2.2 with g|g;exact g1 g;omega
  have hmem:Mem P w (nQ β I) β (Nn σ' w w' β' I' (nQ β I) fk os') (CV os') w':=by
   constructor;intro j o hj;obtain⟨p,hp,rfl⟩:=pC j o hj;have⟨B,o1,b1,b2,b3,b4,b5,b6⟩:=hko j p hp;refine⟨B,b1,?_⟩;cases B with
   |none=>
    simp[OR]at b4 ⊢;rw[b4]at b6;have:=fc.nil (by simpa using b6);simp[iS,aI,this]
   | «at» b s n=>
    obtain⟨c1,c,e,c2,c3,c4⟩:=b4;refine⟨by rw[c1,b5];rfl,c,e,c2,c3,?_⟩;exact Bv hr b6 (b7.take _ _ _ _ _ c4)
   |mp b=>
    obtain⟨es,cl,c1,cl',c2,c3⟩:=b4;have hl:=b6.length;simp[List.length_take]at hl;refine⟨es,cl,c1,by simp[iS,aI,length_map];omega,λe=>?_,c3⟩;have e':p.1=p.2.length:=(by simpa[iS,aI]using e);rw[take_of_length_le (by omega)]at b6;exact Ih hr b6 (c2 (by omega))
   intro j j' o o' B B' b h1 h2 h3 h4 h5 h6;obtain⟨p,hp,rfl⟩:=pC j o h1;obtain⟨p',hp',rfl⟩:=pC j' o' h2;have⟨_,o1,_,_,b3,_⟩:=hko j p hp;have⟨_,o1',_,_,b3',_⟩:=hko j' p' hp';rw[<- hkept j ⟨p,hp⟩]at h3;rw[<- hkept j' ⟨p',hp'⟩]at h4;exact hm.ir j j' o1 o1' B B' b b3 b3' h3 h4 h5 h6;intro j o B b h1 h2 h5;obtain⟨p,hp,rfl⟩:=pC j o h1;have⟨_,o1,_,_,b3,_⟩:=hko j p hp;rw[<- hkept j ⟨p,hp⟩]at h2;have⟨_,c2,c3⟩:=hm.ownB j o1 B b b3 h2 h5;exact⟨λ hb=>hb.2.2 ⟨j,.inr ⟨p,hp⟩,⟨o1,b3⟩,B,h2,h5⟩,c2,c3⟩;exact λb hb=>hb.2.1;intro b hb;rcases hb.1 with g|g|g|g;exact hm.up b g;exact .inl g;exact .inr (.inr g);exact .inr (.inl g);exact hm.keep;exact hm.le;exact hm.os;exact hm.tape;exact hm.output;intro j B hj;simp only[nQ]at hj;split at hj;exact hj;cases hj;exact hM.vars.mono (λ b hb=>hm.keep b (q6 b hb).2 (q6 b hb).1) hOI
  have hF:∀k o b,fk=some k->σ'.obj k=some o->¬kept os' k->gc β' k b->A2 w β os' b:=by intro k o b _ h2 h3 h4;refine⟨(hm.j9 k o b h2 h4).2.2,λj o' h5 h6=>?_⟩;obtain⟨p,hp,rfl⟩:=pC j o' h5;have⟨_,o1,_,_,b3,_⟩:=hko j p hp;have h6':gc β' j b:=(by obtain⟨B,e1,e2⟩:=h6;exact⟨B,by rw[hkept j ⟨p,hp⟩];exact e1,e2⟩);have:=hm.mi k j o o1 b h2 b3 h4 h6';subst this;exact h3 ⟨p,hp⟩
  have ret:∀v,sk P (A2 w β os') β rv w' (Nn σ' w w' β' I' (nQ β I) fk os') v->PR P w β I os' rv (.returned v) w':=λv hv'=>⟨v,_,rfl,hmem,hOI,hv'⟩;refine⟨hr.defers,?_⟩;have hlist:∀(xs:List AV)(cs:List RC)(us:List Value),oy σ'.obj fk os' xs cs->bk P β' w' I' xs us->Vi P (A2 w β os') β cs w' (Nn σ' w w' β' I' (nQ β I) fk os') us:=by
   intro xs
   induction xs with
   |nil=>intro cs us h1 h2;cases cs<;>cases us<;>first|trivial|exact h1.elim|(simp [bk]at h2)
   |cons x xs ih=>
    intro cs us h1 h2;cases cs with
    |nil=>exact h1.elim
    |cons c cs=>
     cases us with
     |nil=>simp[bk]at h2
     |cons u us=>simp[bk]at h2;exact⟨V5 hr hF hkept h1.1 h2.1,ih cs us h1.2 h2.2⟩
  simp only[V4,Sem.run_bind,hrun,Result.andThen_ok,Sem.run_pure];refine⟨_,rfl,ret _ ?_⟩
  match xs,us,rv,he,g2 with
  |[x],[u],.one c,he,g2=>
   simp only[bk]at g2;simpa[sk]using V5 hr hF hkept he g2.1
  |x::y::r,u::u'::us,.fj cs,he,g2=>
   have:=hlist _ _ _ he g2;rw[dif_neg (by simp)];exact⟨_,rfl,by simpa using this⟩
  |[],[],.fj cs,he,g2=>
   simp[Hk]at he;subst he;rw[dif_neg (by simp)];exact⟨_,rfl,trivial⟩
  |[x],[u],.fj cs,he,_=>exact he.elim
  |[],_,.one c,he,_=>exact he.elim
  |x::y::r,_,.one c,he,_=>exact he.elim
  |[],_::_,.fj _,_,g2=>simp[bk]at g2
  |[_],[],_,_,g2=>simp[bk]at g2
  |[_],_::_::_,_,_,g2=>simp[bk]at g2
  |_::_::_,[],_,_,g2=>simp[bk]at g2
  |_::_::_,[_],_,_,g2=>simp[bk]at g2
 rintro e a' w' ⟨β',I',σ',h1,h2,h3⟩;cases e with
 |normal=>exact fin a' w' β' I' σ' h1 h3
 |ret=>exact fin a' w' β' I' σ' h1 h3
 |_=>exact h3.elim
def PP(P:Program)(get:Nat->Option aP)(xs:List AV)(os':List (Nat×aP))(rv:AV):Prop:=
 ∀(w0:World) (O0:lh) (β:Nat->Option cV) (I:Nat->Prop) (w:World) (vs:Array Value),Mem P w0 O0 β I get w->bk P β w I xs vs.toList->∃ β' I',Mem P w0 O0 β' I' (oS os') w/\(∀ b,I b->I' b)/\VR P β' w I' rv (if h:vs.size=1 then vs[0]else .tuple vs)
def aqP(P:Program)(T:eI)(rs:List ResultVar)(rv:AV)(os':List (Nat×aP)):Exit->St->Prop
 |.normal,σ=>∃xs,nS T σ rs=some xs/\PP P σ.obj xs os' rv
 |.ret,σ=>∃xs,nS T σ rs=some xs/\PP P σ.obj xs os' rv
 |_,_=>False
theorem ako(hT : fw P T){f : FuncId}{fn : Func}{c : Code}{args : List AV}{os : List aP}{os' : List (Nat × aP)}{rv : AV}(hfn : P.funcs[f]? = some fn)(hb : fn.body = some c)(hname : (fn.name == "runtime.NumGoroutine") = false)(hN : args.length <= fn.ntmps)(hargs : ∀ k ∈ fe args, k < 1000)(hos : os.length <= 1000)
 (VC:∀o∈os,∀r∈o.rows,∀x∈r,∀j∈refs x,j<1000)
 (h:Ev P fn.ntmps c (aqP P T fn.results.toList rv os') (sm.st ⟨(List.range args.length).zip args,(List.range os.length).zip os⟩)):zd P f args os os' rv:=by
 refine⟨⟨fn,hfn,by rw[hb];rfl,hname⟩,λw β I vs hβ hM hv=>?_⟩;have hvl:=bk.length _ _ hv;simp at hvl;have iz:∀k,lk ((List.range os.length).zip os) k=sy os k:=λk=>by rw[Bw];rfl
 refine calls_of_wp hfn hb ?_;have hrel:Rel P w (nQ β I) fn.ntmps β I (sm.st ⟨(List.range args.length).zip args,(List.range os.length).zip os⟩) { tmps:=vs++Array.replicate (fn.ntmps-vs.size) undef,defers:=[] } w:=by
  refine⟨rfl,by simp;omega,λt=>?_,?_⟩;simp only[sm.st,Bw,ga];by_cases ht:t<args.length;obtain⟨v,g1,g2⟩:=bk.get _ _ t _ hv (dI ht);rw[dI ht];simp only[Option.getD_some];have:(vs++Array.replicate (fn.ntmps-vs.size) undef).getD t undef=v:=by rw[Array.getElem?_toList]at g1;simp only[Array.getD_eq_getD_getElem?,Array.getElem?_append,show t<vs.size by omega,if_true,g1,Option.getD_some]
  rw[this];exact g2;rw[List.getElem?_eq_none (Nat.le_of_not_lt ht)];simp[VR];have:(sm.st ⟨(List.range args.length).zip args,(List.range os.length).zip os⟩).obj=sy os:=funext iz;rw[this];exact hM
 have hold:ua (sm.st ⟨(List.range args.length).zip args,(List.range os.length).zip os⟩):=by
  refine⟨λ t k hk=>?_,λk o hk=>?_⟩;simp[sm.st,Bw]at hk;cases ht:args[t]? with
  |none=>rw[ht]at hk;simp[refs]at hk
  |some x=>rw[ht]at hk;have:=hargs k (Qf (dh ht) k hk);omega
  have hk:sy os k=some o:=(iz k).symm.trans hk;simp[sy]at hk;refine⟨by have:=(dH.1 hk).1;omega,λr hr x hx j hj=>?_⟩;have:=VC o (dh hk) r hr x hx j hj;omega
 refine wp_mono (h w (nQ β I) β I _ w hrel hold) ?_
 have fin:∀(a':Act) (w':World) (β':Nat->Option cV) (I':Nat->Prop) (σ':St),Rel P w (nQ β I) fn.ntmps β' I' σ' a' w'->(∃ xs,nS T σ' fn.results.toList=some xs/\PP P σ'.obj xs os' rv)->
  a'.defers=[]/\∃v,(results fn a'.tmps).run P w'=.ok v w'/\ap6 P w β I os' rv (.returned v) w':=by
  intro a' w' β' I' σ' hr ⟨xs,hx,he⟩;obtain⟨us,g1,g2⟩:=Bu hT hr _ _ hx;have hrun:(fn.results.mapM (V3 a'.tmps)).run P w'=.ok us.toArray w':=by rw[Array.mapM_eq_mapM_toList,Sem.run_map,g1];rfl
  have q6:∀b,I b->¬Vy β b/\b<w.heap.size:=by intro b hb;refine⟨?_,hM.lt b hb⟩;rintro⟨j,B,hj,hB⟩;rcases Nat.lt_or_ge j os.length with hjl|hjl;exact(hM.ownB j os[j] B b (by simp[sy]) hj hB).1 hb;rw[hβ j hjl]at hj;cases hj
  obtain⟨β2,I2,hm,hI2,hv2⟩:=he w (nQ β I) β' I' w' us.toArray hr.mem (by simpa using g2);have hmem:Mem P w (nQ β I) β2 (λ b=>I2 b\/I b) (oS os') w':=by constructor;intro k o hk;have⟨B,hB,hO⟩:=hm.cR k o hk;exact⟨B,hB,OR.mono (λ _ _ h=>h) (λ _ _=>rfl) (λ b hb=>.inl hb) (λ _ _=>rfl) hO⟩;exact hm.ir;intro k o B b h1 h2 h3;have⟨a1,a2,a3⟩:=hm.ownB k o B b h1 h2 h3;refine⟨?_,a2,a3⟩;rintro (hb|hb);exact a1 hb;have⟨c1,c2⟩:=q6 b hb;rcases a3 with a3|a3;exact c1 a3;omega;rintro b (hb|hb);exact hm.lt b hb;exact Nat.lt_of_lt_of_le (q6 b hb).2 hm.le;rintro b (hb|hb);exact hm.up b hb;exact .inl hb;exact hm.keep;exact hm.le;exact hm.os;exact hm.tape;exact hm.output;exact hm.anch;exact hm.vars.mono (λ _ _=>rfl) (λ b hb=>.inl hb)
  refine⟨hr.defers,?_⟩;simp only[V4,Sem.run_bind,hrun,Result.andThen_ok,Sem.run_pure];exact⟨_,rfl,_,β2,_,rfl,hmem,λb hb=>.inr hb,VR.mono (λ _ _ h=>h) (λ _ _=>rfl) (λ b hb=>.inl hb) _ _ hv2⟩
 rintro e a' w' ⟨β',I',σ',h1,h2,h3⟩;cases e with
 |normal|ret=>exact fin a' w' β' I' σ' h1 h3
 |_=>exact h3.elim
theorem sk.IH{F F':Nat->Prop}{βi:Nat->Option cV}{w':World}{I':Nat->Prop}(hF:∀b,F b->F' b){rv:RV}{v:Value}(h:sk P F βi rv w' I' v):sk P F' βi rv w' I' v:=by
 have hc:∀(c:RC)(v:Value),A6 P F βi c w' I' v->A6 P F' βi c w' I' v:=by
  intro c v h;cases c with
  |d x=>exact h
  |fresh sz rows=>
   rcases h with h|⟨b,c,e,cap,o,s,h1,h2,h3⟩;exact .inl h;exact .inr ⟨b,c,e,cap,o,s,h1,hF b h2,h3⟩
  |whole j len=>exact h
 cases rv with
 |one c=>exact hc c v h
 |fj cs=>
  obtain⟨vs,rfl,h⟩:=h;refine⟨vs,rfl,?_⟩;have:∀(cs:List RC)(vs:List Value),Vi P F βi cs w' I' vs->Vi P F' βi cs w' I' vs:=by
   intro cs
   induction cs with
   |nil=>intro vs h;cases vs with
    |nil=>trivial
    |cons=>exact h.elim
   |cons c cs ih=>intro vs h;cases vs with
    |nil=>exact h.elim
    |cons v vs=>exact⟨hc c v h.1,ih vs h.2⟩
  exact this cs vs.toList h
theorem Ns{f:FuncId}{args:List AV}{rv:RV}(h:qu P f args [] [] rv):rK P f args rv:=by
 refine⟨h.1,λw I vs hlt hgv hv=>?_⟩;have hM:Mem P w (nQ mN I) mN I (sA []) w:=by refine⟨λ k o hk=>by simp[sA]at hk,λk k' o o' B B' b hk=>by simp[sA]at hk,λk o B b hk=>by simp[sA]at hk,hlt,λb hb=>.inl hb,λ_ _ _=>rfl,aB _,rfl,rfl,rfl,λj B hj=>?_,hgv⟩;simp only[nQ,mN,ite_self]at hj;cases hj
 refine(h.2 w mN I vs (λ _ _=>rfl) hM hv).mono ?_;rintro e w' ⟨v,I',rfl,g1,g2,g3⟩;have hno:∀b,¬(nQ mN I).own b:=λb ⟨j,B,hj,_⟩=>by cases hj
 refine⟨v,I',rfl,⟨g1.os,g1.tape,g1.output,g1.le,λb hb=>g1.keep b hb (hno b)⟩,g2,g1.lt,λb hb=>?_,sk.IH (λ b hb=>?_) g3⟩;rcases g1.up b hb with h|h|h;exact .inl h;exact(hno b h).elim;exact .inr h;rcases hb.1 with h|h;exact(hno b h).elim;exact h
end
open Go.RowKit Go.WideShapes Go.ChangeShapes
inductive CS where
 |int (k:IntKind)
 |bool
 |str
 |sl (row:List CS)
 |any
  |mu (row:List CS)
 |back
def arB:CS->Tree->Prop
 |.int k,x=>∃n,x=.sc (.int k n)/\(Lit.int k n).wf=true
 |.bool,x=>∃b,x=.sc (.bool b)
 |.str,x=>∃s,x=.sc (.string s)/\s.size<=maxLen
 |_,_=>False
def aqQ:CS->Nat
 |.int .i64=>8
 |.int _=>1
 |.bool=>1
 |.str=>16
 |_=>24
def RE:CS->Nat
 |.int .i64=>8
 |.int _=>1
 |.bool=>1
 |_=>8
def ap9:Nat->List CS->Nat
 |o,[]=>o
 |o,c::cs=>ap9 ((o+(RE c-1))/RE c*RE c+aqQ c) cs
def Q1(r:List CS):Nat:=bif r.any (λ c=>RE c==8)then(ap9 0 r+7)/8*8 else ap9 0 r
mutual
inductive HS(row:List CS):Tree->Prop
 |mk (rows:List (List Tree)) (hl:rows.length<=maxLen) (h:p5 row rows):HS row (.sl rows)
inductive p5(row:List CS):List (List Tree)->Prop
 |nil:p5 row []
 |cons {r:List Tree} {rs:List (List Tree)} (h:kO row row r) (t:p5 row rs):p5 row (r::rs)
inductive kO(row:List CS):List CS->List Tree->Prop
 |nil:kO row [] []
 |back {cs:List CS} {x:Tree} {xs:List Tree} (h:HS row x) (t:kO row cs xs):kO row (.back::cs) (x::xs)
 |one {c:CS} {cs:List CS} {x:Tree} {xs:List Tree} (h:arB c x) (t:kO row cs xs):kO row (c::cs) (x::xs)
end
mutual
def Fit:CS->Tree->Prop
 |.int k,x=>∃n,x=.sc (.int k n)/\(Lit.int k n).wf=true
 |.bool,x=>∃b,x=.sc (.bool b)
 |.str,x=>∃s,x=.sc (.string s)/\s.size<=maxLen
 |.sl row,x=>∃rows,x=.sl rows/\(rows.length<=maxLen/\rows.length*Q1 row<=reachBytes)/\∀r∈rows,ee row r
 |.any,_=>True
 |.mu row,x=>HS row x
 |.back,_=>False
def ee:List CS->List Tree->Prop
 |[],[]=>True
 |c::cs,x::xs=>Fit c x/\ee cs xs
 |_,_=>False
end
mutual
def oY:Tree->Nat
 |.sc (.string s)=>s.size+1
 |.sc _=>1
 |.sl rows=>Bz rows+1
def Bz:List (List Tree)->Nat
 |[]=>0
 |r::rs=>lC r+Bz rs
def lC:List Tree->Nat
 |[]=>0
 |x::xs=>oY x+lC xs
end
theorem Ar:∀a b:List Tree,lC (a++b)=lC a+lC b
 |[],b=>by simp[lC]
 |x::a,b=>by simp[lC,Ar a b];omega
structure Bk(H:Type) where
 b:DataW H->Nat
 a:List (DataW H)->Nat
 str:∀l,b (.lit (.string l))=l.length+1
 int:∀k n,b (.lit (.int k n))=1
 bool:∀v,b (.lit (.bool v))=1
 nil:b .nil=1
 sl:∀e s,b (.slice e s)=a e+a s+1
 agg:∀p,b (.agg p)=a p+1
 a0:a []=0
 a1:∀d r,a (d::r)=b d+a r
theorem Bk.app{H:Type}(K:Bk H)(l r:List (DataW H)):K.a (l++r)=K.a l+K.a r:=by
 induction l with
 |nil=>simp[K.a0]
 |cons x l ih=>simp[K.a1];omega
theorem Bk.drop{H:Type}(K:Bk H){l:List (DataW H×List MemPlace)}{j:Nat}{y:DataW H×List MemPlace}(h:l[j]? =some y):K.a ((l.map (·.1)).drop j)=K.b y.1+K.a ((l.map (·.1)).drop (j+1)):=by obtain⟨hj,rfl⟩:=dH.1 h;rw[List.drop_eq_getElem_cons (by simpa using hj),K.a1];simp
def yW(P:Program)(go:TypeId->Option (List CS)):Nat->List Field->Option (List CS)
 |_,[]=>some []
 |o,f::fs=>(go f.type).bind λa=>if f.offset=o/\a.length=P.cellsOf f.type then(yW P go (o+a.length) fs).map (a++ ·)else none
def agN(P:Program)(t u:TypeId):Option (List CS):=if u=t then some [.back]else match P.underlying u with
 |some (.int k)=>some [.int k]
 |some .bool=>some [.bool]
 |some .string=>some [.str]
 |_=>none
def Rr(P:Program)(t e:TypeId):Option (List CS):=match P.underlying e with
 |some (.struct fs)=>(yW P (agN P t) 0 fs.toList).bind λr=>if r.length=P.cellsOf e/\0<r.length then some r else none
 |_=>none
def zr(P:Program)(cut:List TypeId):Nat->TypeId->Option (List CS)
 | 0,_=>none
 |n+1,t=>match P.underlying t with
  |some (.int k)=>some [.int k]
  |some .bool=>some [.bool]
  |some .string=>some [.str]
  |some (.slice e)=>if cut.contains t then(match Rr P t e with|some row=>some [.mu row]|none=>some [.any])else(zr P cut n e).bind λr=>if r.length=P.cellsOf e/\0<r.length/\Q1 r<=P.bytesOf e then some [.sl r]else none
  |some (.struct fs)=>(yW P (zr P cut n) 0 fs.toList).bind λr=>if r.length=P.cellsOf t then some r else none
  |some (.array m e)=>(zr P cut n e).bind λr=>if r.length=P.cellsOf e/\m*r.length=P.cellsOf t then some (List.replicate m r).flatten else none
  |_=>none
theorem ee.length:∀(cs:List CS)(ts:List Tree),ee cs ts->ts.length=cs.length
 |[],[],_=>rfl
 |c::cs,x::xs,h=>by simp[ee]at h;simp[ee.length cs xs h.2]
 |[],_::_,h|_::_,[],h=>by simp[ee]at h
theorem ee.append:∀(cs:List CS)(ts:List Tree){cs':List CS}{ts':List Tree},ee cs ts->ee cs' ts'->ee (cs++cs') (ts++ts')
 |[],[],_,_,_,h=>h
 |c::cs,x::xs,_,_,h,h'=>by simp at h ⊢;exact⟨h.1,ee.append cs xs h.2 h'⟩
 |[],_::_,_,_,h,_|_::_,[],_,_,h,_=>by simp[ee]at h
def Here(w:World)(b:Nat):Prop:=b<w.heap.size
section
variable {w:World} {I:Nat->Prop}
theorem fx.append:∀(ts:List Tree)(cs:List Value){ts':List Tree}{cs':List Value},fx w I ts cs->fx w I ts' cs'->fx w I (ts++ts') (cs++cs')
 |[],[],_,_,_,h=>h
 |_::xs,_::vs,_,_,h,h'=>⟨h.1,fx.append xs vs h.2 h'⟩
 |[],_::_,_,_,h,_|_::_,[],_,_,h,_=>h.elim
theorem fx.length:∀(ts:List Tree)(cs:List Value),fx w I ts cs->ts.length=cs.length
 |[],[],_=>rfl
 |_::xs,_::vs,h=>by simp[fx.length xs vs h.2]
 |[],_::_,h|_::_,[],h=>h.elim
theorem abX:∀(ts:List Tree)(cs:List Value)(b aa:Nat),fx w I ts cs->(∀ i,i<cs.length->w.cell? ⟨b,aa+i,none⟩=cs[i]?)->eK w I ts b aa
 |[],[],_,_,_,_=>by simp[eK]
 |x::xs,v::vs,b,aa,h,hc=>by refine⟨⟨v,by simpa using hc 0 (by simp),h.1⟩,abX xs vs b (aa+1) h.2 λi hi=>?_⟩;have:=hc (i+1) (by simpa using hi);rw[show aa+(i+1)=aa+1+i by omega]at this;simpa using this
 |[],_::_,_,_,h,_|_::_,[],_,_,h,_=>h.elim
end
section
variable {H:Type} {enc:TypeId×Value->H} {P:Program} {w:World} {sp:Nat->Bool} {held:Bool}
theorem Qg{a:Addr}{v:Value}(h:w.cell? a=some v):a.spot=none/\a.block<w.heap.size:=by simp[World.cell?]at h;split at h;rename_i c e st hc;split at h;cases h;rename_i hs;exact⟨by simpa using hs,(Array.getElem?_eq_some_iff.1 hc).1⟩;cases h
def Th(P:Program)(t:TypeId)(x:DataW H×List MemPlace):Prop:=∀k∈x.1.weights P t,k<=reachBytes
theorem y7{e:TypeId}:∀{l:List (DataW H)}{d:DataW H},d∈l->∀k∈d.weights P e,k∈DataW.weightsAll P e l
 |a::l,d,h,k,hk=>by simp[DataW.weightsAll];rcases aR.1 h with rfl|h;exact .inl hk;exact .inr (y7 h k hk)
theorem R6(m:Nat)(cs:List Value)(go:TypeId->Option (List CS))(hgo:∀t sh,go t=some sh->∀cs x,DataW.trod enc P w 0 sp held m t cs=some x->Th P t x->∃ts,fx w (Here w) ts cs/\ee sh ts/\∀K:Bk H,lC ts<=K.b x.1):
 ∀(fs:List Field)(l:List (DataW H×List MemPlace))(o:Nat)(sh:List CS),yW P go o fs=some sh->l.length=fs.length->(∀ (i:Nat) (f:Field) (x:DataW H×List MemPlace),fs[i]? =some f->l[i]? =some x->DataW.trod enc P w 0 sp held m f.type ((cs.drop f.offset).take (P.cellsOf f.type))=some x/\Th P f.type x)->
  ∃ts,fx w (Here w) ts ((cs.drop o).take sh.length)/\ee sh ts/\∀K:Bk H,lC ts<=K.a (l.map (·.1))
 |[],l,o,sh,h,_,_=>by simp[yW]at h;subst h;exact⟨[],by simp[fx],by simp[ee],λK=>by simp[lC]⟩
 |f::fs,[],o,sh,h,hl,hf=>by simp at hl
 |f::fs,x::l,o,sh,h,hl,hf=>by simp only[yW,ah]at h;obtain⟨a,h1,h2⟩:=h;split at h2;rename_i hc;obtain⟨hc1,hc2⟩:=hc;simp at h2;obtain⟨r,h3,rfl⟩:=h2;have⟨hx,hz⟩:=hf 0 f x rfl rfl;obtain⟨ts,g1,g2,k1⟩:=hgo _ _ h1 _ _ hx hz;obtain⟨ts',g3,g4,k2⟩:=R6 m cs go hgo fs l _ _ h3 (by simpa using hl) λi f' x' hf' hx'=>hf (i+1) f' x' hf' hx';refine⟨ts++ts',?_,ee.append _ _ g2 g4,λK=>by have:=k1 K;have:=k2 K;rw[Ar,bE,K.a1];omega⟩;rw[fP,List.take_add,List.drop_drop];rw[hc1,<- hc2]at g1;exact fx.append _ _ g1 g3;cases h2
theorem kO.append{row:List CS}:∀{a b:List CS}{x y:List Tree},kO row a x->kO row b y->kO row (a++b) (x++y)
 |_,_,_,_,.nil,h=>h
 |_,_,_,_,.back h t,h'=>.back h (t.append h')
 |_,_,_,_,.one h t,h'=>.one h (t.append h')
theorem Nt{row:List CS}(m:Nat)(cs:List Value)(go:TypeId->Option (List CS))(hgo:∀t sh,go t=some sh->∀cs x,DataW.trod enc P w 0 sp held m t cs=some x->∃ts,fx w (Here w) ts cs/\kO row sh ts/\∀K:Bk H,lC ts<=K.b x.1):
 ∀(fs:List Field)(l:List (DataW H×List MemPlace))(o:Nat)(sh:List CS),yW P go o fs=some sh->l.length=fs.length->(∀ (i:Nat) (f:Field) (x:DataW H×List MemPlace),fs[i]? =some f->l[i]? =some x->DataW.trod enc P w 0 sp held m f.type ((cs.drop f.offset).take (P.cellsOf f.type))=some x)->
  ∃ts,fx w (Here w) ts ((cs.drop o).take sh.length)/\kO row sh ts/\∀K:Bk H,lC ts<=K.a (l.map (·.1))
 |[],l,o,sh,h,_,_=>by simp[yW]at h;subst h;exact⟨[],by simp[fx],.nil,λK=>by simp[lC]⟩
 |f::fs,[],o,sh,h,hl,hf=>by simp at hl
 |f::fs,x::l,o,sh,h,hl,hf=>by simp only[yW,ah]at h;obtain⟨a,h1,h2⟩:=h;split at h2;rename_i hc;obtain⟨hc1,hc2⟩:=hc;simp at h2;obtain⟨r,h3,rfl⟩:=h2;have hx:=hf 0 f x rfl rfl;obtain⟨ts,g1,g2,k1⟩:=hgo _ _ h1 _ _ hx;obtain⟨ts',g3,g4,k2⟩:=Nt m cs go hgo fs l _ _ h3 (by simpa using hl) λi f' x' hf' hx'=>hf (i+1) f' x' hf' hx';refine⟨ts++ts',?_,g2.append g4,λK=>by have:=k1 K;have:=k2 K;rw[Ar,bE,K.a1];omega⟩;rw[fP,List.take_add,List.drop_drop];rw[hc1,<- hc2]at g1;exact fx.append _ _ g1 g3;cases h2
theorem aoB{t e:TypeId}{row:List CS}(hk:P.underlying t=some (.slice e))(hm:Rr P t e=some row):∀(fuel:Nat)(cs:List Value)(x:DataW H×List MemPlace),DataW.trod enc P w 0 sp held fuel t cs=some x->∃tr,fx w (Here w) [tr] cs/\HS row tr/\∀K:Bk H,oY tr<=K.b x.1:=by
 intro fuel
 induction fuel using Nat.strongRecOn with
 |_ fuel ih=>
 intro cs x hx;have one:∀m,m<fuel->∀tW y,DataW.trod enc P w 0 sp held m e tW=some y->∃ts,fx w (Here w) ts tW/\kO row row ts/\ts.length=row.length/\∀K:Bk H,lC ts<=K.b y.1:=by
  intro m hmf tW y hy;unfold Rr at hm;split at hm;rename_i fs hke;simp only[ah]at hm;obtain⟨r,h1,h2⟩:=hm;split at h2;rename_i hr;injection h2 with h2;subst h2;obtain⟨xs,m',hm',rfl,hl,hxs,hf⟩:=DataW.trod_struct hke hy;obtain⟨ts,g1,g2,k1⟩:=Nt (row:=r) m' tW (agN P t) (λ u sh hsh cs x hx=>by unfold agN at hsh;split at hsh;rename_i hu;cases hsh;rw[hu]at hx;obtain⟨tr,a1,a2,a3⟩:=ih m' (by omega) cs x hx;exact⟨[tr],a1,.back a2 .nil,λK=>by have:=a3 K;simp[lC];omega⟩;split at hsh;rename_i k CN;cases hsh;obtain⟨v,rfl,rfl,hw⟩:=DataW.trod_int CN hx;exact⟨[.sc (.int k v)],by simp[fx,TR,oneCell],.one ⟨v,rfl,hw⟩ .nil,λK=>by simp[lC,oY,K.int]⟩;rename_i CN;cases hsh;obtain⟨v,rfl,rfl⟩:=DataW.trod_bool CN hx;exact⟨[.sc (.bool v)],by simp[fx,TR,oneCell],.one ⟨v,rfl⟩ .nil,λK=>by simp[lC,oY,K.bool]⟩;rename_i CN;cases hsh;obtain⟨v,rfl,rfl,hw⟩:=DataW.trod_string CN hx;exact⟨[.sc (.string v)],by simp[fx,TR,oneCell],.one ⟨v,rfl,hw⟩ .nil,λK=>by simp[lC,oY,K.str]⟩;cases hsh) fs.toList xs 0 r h1 (by simpa using hxs) (λ i f x hi hxi=>by have hi':fs[i]? =some f:=(by simpa using hi);rw[hf i f hi',hxi]);rw[List.drop_zero,take_of_length_le (by omega)]at g1;refine⟨ts,g1,g2,?_,λK=>by have:=k1 K;rw[K.agg];omega⟩;rw[fx.length _ _ g1];omega;cases h2;cases hm
 have rl:row.length=P.cellsOf e/\0<row.length:=by unfold Rr at hm;split at hm;simp only[ah]at hm;obtain⟨r,h1,h2⟩:=hm;split at h2;rename_i hr;cases h2;exact hr;cases h2;cases hm
 rcases DataW.trod_slice hk hx with ⟨rfl,rfl⟩|⟨a,len,cap,elems,ae,m,hfm,rfl,rfl,_,hl,hmx,hlen,hel,_,_⟩;refine⟨.sl [],?_,.mk [] (by simp[maxLen]) .nil,λK=>by simp[oY,Bz,K.nil]⟩;simp only[fx,TR];exact⟨.inl ⟨trivial,none,0,rfl,λ_=>rfl⟩,trivial⟩;have each:∀i,i<len->∃tW y,w.cells? 0 (a.add (i*P.cellsOf e)) (P.cellsOf e)=some tW/\DataW.trod enc P w 0 sp held m e tW=some y/\elems[i]? =some y:=by intro i hi;have h3:=hel i hi;have h6:elems[i]? =some (elems[i]'(by omega)):=dI (by omega);rw[h6,ah]at h3;obtain⟨tW,h4,h5⟩:=h3;exact⟨tW,_,h4,h5,h6⟩
 by_cases h0:len=0;subst h0;refine⟨.sl [],?_,.mk [] (by simp[maxLen]) .nil,λK=>by simp[oY,Bz,K.sl]⟩;simp only[fx,TR];exact⟨.inl ⟨trivial,some a,cap,rfl,λh=>by cases h⟩,trivial⟩;obtain⟨cs0,y0,c0,_,_⟩:=each 0 (by omega);obtain⟨_,c1,c2⟩:=World.cells?_some c0;have c3:=c2 0 (by omega);rw[dI (by omega)]at c3;have c4:=Qg c3;simp[Nat.zero_mul,Addr.add,if_true]at c4;obtain⟨b,aa,s⟩:=a;simp at c4;obtain⟨rfl,hb⟩:=c4;have rows:∀q j,j+q=len->∃rows:List (List Tree),rows.length=q/\cN w (Here w) rows b (aa+j*P.cellsOf e) (P.cellsOf e)/\p5 row rows/\∀K:Bk H,Bz rows<=K.a ((elems.map (·.1)).drop j):=by
  intro q
  induction q with
  |zero=>intro j _;exact⟨[],rfl,by simp[cN],.nil,λK=>by simp[Bz]⟩
  |succ q ihq=>
   intro j hj;obtain⟨rows,g1,g2,g3,k3⟩:=ihq (j+1) (by omega);obtain⟨csj,y,g4,g5,gy⟩:=each j (by omega);obtain⟨ts,g6,g7,_,k6⟩:=one m (by omega) _ _ g5;obtain⟨_,g8,g9⟩:=World.cells?_some g4;refine⟨ts::rows,by simp[g1],?_,.cons g7 g3,λK=>by have:=k3 K;have:=k6 K;rw[K.drop gy,Bz];omega⟩;simp[cN];refine⟨(fx.length _ _ g6).trans g8,abX _ _ _ _ g6 λi hi=>?_,?_⟩;rw[<- g9 i (by omega),addr_add,addr_add];rw[show aa+j*P.cellsOf e+P.cellsOf e=aa+(j+1)*P.cellsOf e by rw[Nat.add_mul];omega];exact g2
 obtain⟨rows,g1,g2,g3,k3⟩:=rows len 0 (by omega);refine⟨.sl rows,?_,.mk rows (by omega) g3,λK=>by have:=k3 K;rw[List.drop_zero]at this;rw[K.sl,oY];omega⟩;simp only[fx,TR];exact⟨.inr ⟨b,aa,cap,P.cellsOf e,by rw[g1],by omega,hb,by simpa using g2⟩,trivial⟩
theorem Es{cut:List TypeId}:∀(n:Nat)(t:TypeId)(sh:List CS),zr P cut n t=some sh->∀(fuel:Nat)(cs:List Value)(x:DataW H×List MemPlace),DataW.trod enc P w 0 sp held fuel t cs=some x->Th P t x->
 ∃ts,fx w (Here w) ts cs/\ee sh ts/\∀K:Bk H,lC ts<=K.b x.1
 | 0,_,_,h,_,_,_,_,_=>by simp[zr]at h
 |n+1,t,sh,h,fuel,cs,x,hx,hz=>by
  unfold zr at h;split at h;rename_i k hk;cases h;obtain⟨v,rfl,rfl,hw⟩:=DataW.trod_int hk hx;exact⟨[.sc (.int k v)],by simp[fx,TR,oneCell],by simp only[ee,Fit];exact⟨⟨v,rfl,hw⟩,trivial⟩,λK=>by simp[lC,oY,K.int]⟩;rename_i hk;cases h;obtain⟨v,rfl,rfl⟩:=DataW.trod_bool hk hx;exact⟨[.sc (.bool v)],by simp[fx,TR,oneCell],by simp only[ee,Fit];exact⟨⟨v,rfl⟩,trivial⟩,λK=>by simp[lC,oY,K.bool]⟩;rename_i hk;cases h;obtain⟨v,rfl,rfl,hw⟩:=DataW.trod_string hk hx;exact⟨[.sc (.string v)],by simp[fx,TR,oneCell],by simp only[ee,Fit];exact⟨⟨v,rfl,hw⟩,trivial⟩,λK=>by simp[lC,oY,K.str]⟩;rename_i e hk;split at h;split at h;rename_i row hmr;cases h;have⟨tr,g1,g2,k1⟩:=aoB hk hmr fuel cs x hx;exact⟨[tr],g1,by simp only[ee,Fit];exact⟨g2,trivial⟩,λK=>by have:=k1 K;simp only[lC];omega⟩;cases h;rcases DataW.trod_slice hk hx with ⟨rfl,rfl⟩|⟨a,len,cap,elems,ae,m,_,rfl,rfl,_,hl,hm,hlen,hel,_,_⟩;exact⟨[.sc (.slice none 0 0)],by simp[fx,TR,oneCell],by simp[ee,Fit],λK=>by simp[lC,oY,K.nil]⟩;exact⟨[.sc (.slice (some a) len cap)],by simp[fx,TR,oneCell],by simp[ee,Fit],λK=>by simp[lC,oY,K.sl]⟩;simp only[ah]at h;obtain⟨r,h1,h2⟩:=h;split at h2;rename_i hr;cases h2;rcases DataW.trod_slice hk hx with ⟨rfl,rfl⟩|⟨a,len,cap,elems,ae,m,_,rfl,rfl,_,hl,hm,hlen,hel,_,_⟩;refine⟨[.sl []],?_,by simp only[ee,Fit];exact⟨⟨[],rfl,by simp[maxLen],by simp⟩,trivial⟩,λK=>by simp[lC,oY,Bz,K.nil]⟩;simp only[fx,TR];exact⟨.inl ⟨trivial,none,0,rfl,λ_=>rfl⟩,trivial⟩;have hzw:∀k,k=(elems.length+ae.length)*P.bytesOf e\/k∈DataW.weightsAll P e (elems.map (·.1))->k<=reachBytes:=by intro k hkk;refine hz k ?_;simp only[DataW.weights,hk,aR,bV,length_map];rcases hkk with h|h;exact .inl h;exact .inr (.inl h)
  have each:∀i,i<len->∃tW y,w.cells? 0 (a.add (i*P.cellsOf e)) (P.cellsOf e)=some tW/\DataW.trod enc P w 0 sp held m e tW=some y/\Th P e y/\elems[i]? =some y:=by intro i hi;have h3:=hel i hi;have h6:elems[i]? =some (elems[i]'(by omega)):=dI (by omega);rw[h6,ah]at h3;obtain⟨tW,h4,h5⟩:=h3;exact⟨tW,_,h4,h5,λk hk=>hzw k (.inr (y7 (mem_map.2 ⟨_,List.getElem_mem (by omega),rfl⟩) k hk)),h6⟩
  have hbytes:len*Q1 r<=reachBytes:=by have h1:=hzw _ (.inl rfl);have h2:len*Q1 r<=(elems.length+ae.length)*P.bytesOf e:=Nat.mul_le_mul (by omega) hr.2.2;omega
  by_cases h0:len=0;subst h0;refine⟨[.sl []],?_,by simp only[ee,Fit];exact⟨⟨[],rfl,by simp[maxLen],by simp⟩,trivial⟩,λK=>by simp[lC,oY,Bz,K.sl]⟩;simp only[fx,TR];exact⟨.inl ⟨trivial,some a,cap,rfl,λh=>by cases h⟩,trivial⟩;obtain⟨cs0,y0,c0,_,_,_⟩:=each 0 (by omega);obtain⟨_,c1,c2⟩:=World.cells?_some c0;have c3:=c2 0 (by omega);rw[dI (by omega)]at c3;have c4:=Qg c3;simp[Nat.zero_mul,Addr.add,if_true]at c4;obtain⟨b,aa,s⟩:=a;simp at c4;obtain⟨rfl,hb⟩:=c4;have rows:∀m j,j+m=len->∃rows:List (List Tree),rows.length=m/\cN w (Here w) rows b (aa+j*P.cellsOf e) (P.cellsOf e)/\(∀ x∈rows,ee r x)/\∀K:Bk H,Bz rows<=K.a ((elems.map (·.1)).drop j):=by
   intro m
   induction m with
   |zero=>intro j _;exact⟨[],rfl,by simp[cN],by simp,λK=>by simp[Bz]⟩
   |succ m ih=>
    intro j hj;obtain⟨rows,g1,g2,g3,k3⟩:=ih (j+1) (by omega);obtain⟨csj,y,g4,g5,g5z,gy⟩:=each j (by omega);obtain⟨ts,g6,g7,k6⟩:=Es n e r h1 _ _ _ g5 g5z;obtain⟨_,g8,g9⟩:=World.cells?_some g4;refine⟨ts::rows,by simp[g1],?_,λx hx=>?_,λK=>by have:=k3 K;have:=k6 K;rw[K.drop gy,Bz];omega⟩;simp[cN];refine⟨(fx.length _ _ g6).trans g8,abX _ _ _ _ g6 λi hi=>?_,?_⟩;rw[<- g9 i (by omega),addr_add,addr_add];rw[show aa+j*P.cellsOf e+P.cellsOf e=aa+(j+1)*P.cellsOf e by rw[Nat.add_mul];omega];exact g2;rcases aR.1 hx with rfl|hx;exact g7;exact g3 x hx
  obtain⟨rows,g1,g2,g3,k3⟩:=rows len 0 (by omega);refine⟨[.sl rows],?_,by simp only[ee,Fit];exact⟨⟨rows,rfl,⟨by omega,by rw[g1];exact hbytes⟩,g3⟩,trivial⟩,λK=>by have:=k3 K;rw[List.drop_zero]at this;rw[K.sl];simp[lC,oY];omega⟩;simp only[fx,TR];exact⟨.inr ⟨b,aa,cap,P.cellsOf e,by rw[g1],by omega,hb,by simpa using g2⟩,trivial⟩;cases h2;rename_i fs hk;simp only[ah]at h;obtain⟨r,h1,h2⟩:=h;split at h2;rename_i hr;injection h2 with h2;subst h2;obtain⟨xs,m,_,rfl,hl,hxs,hf⟩:=DataW.trod_struct hk hx;obtain⟨ts,g1,g2,k1⟩:=R6 m cs (zr P cut n) (λ t sh hsh cs x hx hz=>Es n t sh hsh m cs x hx hz) fs.toList xs 0 r h1 (by simpa using hxs) (λ i f x hi hxi=>by have hi':fs[i]? =some f:=(by simpa using hi);have:=hf i f hi';rw[hxi]at this;refine⟨this,λk hk'=>hz k ?_⟩;simp[DataW.weights,hk];exact DataW.weights_mem_each (j:=i) (t:=f.type) (d:=x.1) (by simp[hi']) (by simp[hxi]) k hk');refine⟨ts,?_,g2,λK=>by have:=k1 K;rw[K.agg];omega⟩;rw[List.drop_zero,take_of_length_le (by omega)]at g1;exact g1;cases h2;rename_i m e hk;simp only[ah]at h;obtain⟨r,h1,h2⟩:=h;split at h2;rename_i hr;cases h2;obtain⟨xs,q,_,rfl,hl,hxs,hf⟩:=DataW.trod_array hk hx;have part:∀i j,j+i=m->∃ts,fx w (Here w) ts (cs.drop (j*P.cellsOf e))/\ee (List.replicate i r).flatten ts/\∀K:Bk H,lC ts<=K.a ((xs.map (·.1)).drop j):=by
   intro i
   induction i with
   |zero=>
    intro j hj;refine⟨[],?_,by simp[ee],λK=>by simp[lC]⟩;have:j=m:=(by omega);subst this;rw[List.drop_of_length_le (by rw[hl,<- hr.2,<- hr.1];omega)];simp[fx]
   |succ i ih=>
    intro j hj;obtain⟨ts,g1,g2,k1⟩:=ih (j+1) (by omega);have:=hf j (by omega);have hxj:xs[j]? =some (xs[j]'(by omega)):=dI (by omega);rw[hxj]at this;obtain⟨ts0,g3,g4,k3⟩:=Es n e r h1 _ _ _ this (λ k hk'=>hz k (by simp[DataW.weights,hk];exact y7 (mem_map.2 ⟨_,List.getElem_mem (by omega),rfl⟩) k hk'));refine⟨ts0++ts,?_,?_,λK=>by have:=k1 K;have:=k3 K;rw[K.drop hxj,Ar];omega⟩;have:=fx.append _ _ g3 g1;rw[show (j+1)*P.cellsOf e=j*P.cellsOf e+P.cellsOf e by rw[Nat.add_mul];omega,<- List.drop_drop,List.take_append_drop]at this;exact this;exact ee.append _ _ g4 g2
  obtain⟨ts,g1,g2,k1⟩:=part m 0 (by omega);exact⟨ts,by simpa using g1,g2,λK=>by have:=k1 K;rw[List.drop_zero]at this;rw[K.agg];omega⟩;cases h2;cases h
inductive VS where
 |one (c:CS)
 |agg (cs:List CS)
def M1(P:Program)(cut:List TypeId)(t:TypeId):Option VS:=
 (zr P cut 12 t).bind λsh=>match P.underlying t with
  |some (.struct _)|some (.array _ _)=>some (.agg sh)
  |_=>match sh with
   |[c]=>some (.one c)
   |_=>none
def Hj:VS->TV->Prop
 |.one c,x=>∃y,x=.s y/\Fit c y
 |.agg cs,x=>∃ys,x=.a ys/\ee cs ys
def V6:List VS->List TV->Prop
 |[],[]=>True
 |s::ss,x::xs=>Hj s x/\V6 ss xs
 |_,_=>False
def OK:TV->Nat
 |.s y=>oY y
 |.a ys=>lC ys
def yz:List TV->Nat
 |[]=>0
 |x::xs=>OK x+yz xs
theorem ame{cut:List TypeId}{t:TypeId}{s:VS}{v:Value}{d:DataW H}{ps:List MemPlace}{b0:Nat}(hs:M1 P cut t=some s)(hval:Value.okWide P w .any b0 t v)(hd:DataW.Trod enc P w 0 sp held t v d ps)(hz:∀k∈d.weights P t,k<=reachBytes):
 ∃x,sX w (Here w) x v/\Hj s x/\∀K:Bk H,OK x<=K.b d:=by
 obtain⟨fuel,hf⟩:=hd;simp[M1,ah]at hs;obtain⟨sh,h1,h2⟩:=hs;obtain⟨ts,g1,g2,k1⟩:=Es 12 t sh h1 _ _ _ hf hz;have hag:∀cs:Array Value,v=.agg cs->s=.agg sh->∃x,sX w (Here w) x v/\Hj s x/\∀K:Bk H,OK x<=K.b d:=by rintro cs rfl rfl;exact⟨.a ts,⟨cs,rfl,by simpa[Value.cells]using g1⟩,⟨ts,rfl,g2⟩,k1⟩
 unfold Value.okWide at hval;split at h2;rename_i hu;injection h2 with h2;rw[hu]at hval;obtain⟨cs,rfl,_⟩:=hval;exact hag cs rfl h2.symm;rename_i hu;injection h2 with h2;rw[hu]at hval;obtain⟨cs,rfl,_⟩:=hval;exact hag cs rfl h2.symm;split at h2;cases h2;have hone:v.cells.toList=[v]:=by
  cases hu:P.underlying t with
  |none=>rw[hu]at hval;simp[Cell.okWide,Cell.ok,hu]at hval
  |some d=>
   rw[hu]at hval;cases v<;>first|rfl|(exfalso;revert hval;cases d<;>simp_all [Cell.okWide,Cell.ok])
 rw[hone]at g1
 match ts,g1,g2,k1 with
 |[y],g1,g2,k1=>
  simp only[ee]at g2;exact⟨.s y,g1.1,⟨y,rfl,g2.1⟩,λK=>by have:=k1 K;simpa[lC,OK]using this⟩
 |[],g1,_,_=>exact g1.elim
 |_::_::_,g1,_,_=>exact g1.2.elim
 cases h2
theorem aav{cut:List TypeId}:∀{ts:List TypeId}{ss:List VS}{vs:List Value}{ds:List (DataW H)}{ps:List MemPlace}{b0:Nat},ts.mapM (M1 P cut)=some ss->
 (∀ (j:Nat) t v,ts[j]? =some t->vs[j]? =some v->Value.okWide P w .any b0 t v)->DataW.TrodAll enc P w 0 sp held ts vs ds ps->(∀ k∈DataW.weightsEach P ts ds,k<=reachBytes)->∃xs,nj w (Here w) xs vs/\V6 ss xs/\∀K:Bk H,yz xs<=K.a ds
 |[],ss,vs,ds,ps,b0,hs,_,hd,_=>by obtain⟨rfl,rfl,rfl⟩:=trodAll_nil hd;simp at hs;subst hs;exact⟨[],trivial,trivial,λK=>by simp[yz]⟩
 |t::ts,ss,vs,ds,ps,b0,hs,hval,hd,hz=>by obtain⟨v,vs',d,ds',p,q,rfl,rfl,rfl,h0,r0⟩:=trodAll_cons hd;simp[ah]at hs;obtain⟨s,h1,ss',h2,rfl⟩:=hs;obtain⟨x,g1,g2,k1⟩:=ame h1 (hval 0 t v rfl rfl) h0 (λ k hk=>hz k (by simp[DataW.weightsEach];exact .inl hk));obtain⟨xs,g3,g4,k2⟩:=aav h2 (λ j t v h h'=>hval (j+1) t v h h') r0 (λ k hk=>hz k (by simp[DataW.weightsEach];exact .inr hk));exact⟨x::xs,⟨g1,g3⟩,⟨g2,g4⟩,λK=>by have:=k1 K;have:=k2 K;rw[yz,K.a1];omega⟩
theorem R7{β:Nat->Option cV}{I:Nat->Prop}:∀(xs:List TV)(vs:List Value),nj w I xs vs->bk P β w I (xs.map TV.av) vs
 |[],[],_=>by simp[bk]
 |x::xs,v::vs,h=>by
  refine⟨?_,R7 xs vs h.2⟩;have h1:=h.1;cases x with
  |s y=>simp[TV.av];exact h1
  |a cs=>
   obtain⟨us,rfl,h2⟩:=h1;refine⟨us,rfl,?_⟩;have:∀(cs:List Tree) (us:List Value),fx w I cs us->bk P β w I (cs.map AV.t) us:=by
    intro cs
    induction cs with
    |nil=>intro us h;cases us<;>first|(simp [bk];done)|exact h.elim
    |cons c cs ih=>intro us h;cases us with
     |nil=>exact h.elim
     |cons u us=>simp;exact⟨h.1,ih us h.2⟩
   exact this cs us.toList h2
 |[],_::_,h|_::_,[],h=>h.elim
end
section
variable {H:Type} {enc:TypeId×Value->H} {P:Program}
theorem agO{f:Func}{s:ChangeSpec}{apart fresh handsOn again:Bool}{W W':World}{args:Array Value}{v:Value}{ds gs:List (DataW H)}{before pa pv:List MemPlace}
 (hW:DataW.Whole enc P f.params.toList s.vars apart W args.toList ds gs before)
 (hres:∀(b:Nat)(sp:Nat->Bool)(hd:Bool),DataW.TrodAll enc P W' b sp hd f.resultTypes.toList (v.resultList f.resultTypes.size) (s.fn H (ds++gs)).results [])
 (hargs:∀sp:Nat->Bool,(∀ p∈before,sp p.block=true)->DataW.TrodAll enc P W' 0 sp true f.params.toList args.toList (s.fn H (ds++gs)).args pa)
 (hvars:∀sp:Nat->Bool,(∀ p∈before,sp p.block=true)->DataW.TrodVars enc P W' sp s.vars (s.fn H (ds++gs)).vars pv)
 (hps:before=pa++pv) (hb:Below W.heap.size W W')
 (hok:∀(j:Nat)(t:TypeId)(r:Value),f.resultTypes[j]? =some t->(v.resultList f.resultTypes.size)[j]? =some r->Value.okWide P W' .any 0 t r):
 s.post enc P f apart fresh handsOn again W args v W':=by
 have hlt:∀p∈before,p.block<W.heap.size:=λp hp=>hW.lt p hp;have hold:∀p∈before,(λ b=>decide (b<W.heap.size)) p.block=true:=λp hp=>by simpa using hlt p hp
 refine⟨ds,gs,before,[],pa,pv,hW,hres _ _ _,hargs _ hold,hvars _ hold,World.keptBut_mono (λ p hp=>⟨hp,?_⟩) (hb.frame (· ∈before)),λ_=>?_⟩;rw[hps,bV]at hp;exact Or.inr hp;obtain⟨_,_,_,_,_,hz,hn⟩:=hW;refine⟨hok,_,_,([]++pa)++pv,⟨[]++pa,pv,trodAll_append (hargs _ (λ _ _=>rfl)) (hres _ _ _),hvars _ (λ _ _=>rfl),rfl,?_,?_⟩,?_⟩;intro b aa hp;have hin:MemPlace.cell b aa∈before:=by rw[hps];simpa using hp
 rw[hb.frozen (hlt _ hin)];exact hz b aa hin;intro ha;have:=hn ha;rw[hps]at this;simpa using this;intro p hp _;rw[hps];simpa using hp
theorem Lp(hl:laidOutB P=true){W W':World}(hb:Below W.heap.size W W'):∀{ts:List TypeId}{vs:List Value}{ds:List (DataW H)}{ps:List MemPlace},(∀ t∈ts,P.readableRec t=true/\t<P.types.size)->
 DataW.TrodAll enc P W 0 (λ _=>true) true ts vs ds ps->(∀ x∈ps,x.block<W.heap.size)->∀sp:Nat->Bool,(∀ p∈ps,sp p.block=true)->DataW.TrodAll enc P W' 0 sp true ts vs ds ps
 |[],vs,ds,ps,_,hd,_,sp,_=>by obtain⟨rfl,rfl,rfl⟩:=trodAll_nil hd;exact trodAll_mk0
 |t::ts,vs,ds,ps,ht,hd,hlt,sp,hsp=>by
  obtain⟨v,vs',d,ds',p,q,rfl,rfl,rfl,h0,r0⟩:=trodAll_cons hd;obtain⟨h1,h2⟩:=ht t (by simp)
  exact trodAll_cons_mk (WideElems.Trod_stays hl h1 h2 h0 (λ x hx=>hb.same (hlt x (by simp[hx]))) (λ x hx=>hsp x (by simp[hx])))
   (Lp hl hb (λ t ht'=>ht t (by simp[ht'])) r0 (λ x hx=>hlt x (by simp[hx])) sp (λ x hx=>hsp x (by simp[hx])))
theorem R8{w:World}{base:Nat}{sp:Nat->Bool}{held:Bool}:∀{ts:List TypeId}{vs:List Value}{ds:List (DataW H)}{ps:List MemPlace},DataW.TrodAll enc P w base sp held ts vs ds ps->ds.length=ts.length
 |[],_,_,_,h=>by obtain⟨_,rfl,_⟩:=trodAll_nil h;rfl
 |_::_,_,_,_,h=>by obtain⟨_,_,_,_,_,_,_,rfl,_,_,h2⟩:=trodAll_cons h;simp[R8 h2]
theorem adY:∀{ts:List TypeId}{ds:List (DataW H)}{vt:List TypeId}{gs:List (DataW H)},ds.length=ts.length->∀k∈DataW.weightsEach P ts ds,k∈DataW.weightsEach P (ts++vt) (ds++gs)
 |[],[],_,_,_,k,h=>by simp[DataW.weightsEach]at h
 |t::ts,d::ds,vt,gs,hl,k,h=>by simp[DataW.weightsEach]at h ⊢;rcases h with h|h;exact .inl h;exact .inr (adY (by simpa using hl) k h)
 |[],_::_,_,_,h,_,_|_::_,[],_,_,h,_,_=>by simp at h
theorem abZ{cut:List TypeId}{C:Checked}{f:FuncId}{fn:Func}{s:ChangeSpec}{ss:List VS}{tb:TypeId}(hl:laidOutB C.prog=true)(hread:(fn.params.toList.all λt=>C.prog.readableRec t&&decide (t<C.prog.types.size))=true)
 (hss:fn.params.toList.mapM (M1 C.prog cut)=some ss) (hvars:s.vars=[]) (hres:fn.resultTypes=#[tb]) (hb:C.prog.underlying tb=some .bool)
 (hs:∀ds:List (DataW H),ds.length=fn.params.toList.length->s.fn H ds={ results:=[.lit (.bool true)],args:=ds })
 {B:Nat->Prop} (tx:∀xs,V6 ss xs->(∀ n,B n->yz xs<=n)->rK C.prog f (xs.map TV.av) (.one (.d (.s (.sc (.bool true))))))
 {W:World} {base:Nat} {args:Array Value} {ds gs:List (DataW H)} {before:List MemPlace}
 (hval:∀(j:Nat) t v,fn.params[j]? =some t->args[j]? =some v->Value.okWide C.prog W .any base t v)
 (hW:DataW.Whole enc C.prog fn.params.toList s.vars false W args.toList ds gs before)
 {vt:List TypeId} (hz:(DataW.weightsEach C.prog (fn.params.toList++vt) (ds++gs)).all (· <=reachBytes)=true) (hv:kq W (Here W)) (hB:∀n,B n->∃K:Bk H,K.a ds<=n):
 Calls C.prog f args W λe W'=>∃v,e=.returned v/\s.post enc C.prog fn false true false false W args v W':=by
 have hW':=hW;obtain⟨p,q,hA,hV,rfl,_,_⟩:=hW;rw[hvars]at hV;obtain⟨rfl,rfl⟩:=trodVars_none hV;have hlen:=R8 hA;obtain⟨xs,g1,g2,g3⟩:=aav hss (λ j t v h1 h2=>hval j t v (by simpa using h1) (by simpa using h2)) hA (λ k hk=>by have:=all_eq_true.1 hz k (adY hlen k hk);simpa using this);simp at hW';have hlt:∀x∈p,x.block<W.heap.size:=λx hx=>hW'.lt x hx;refine((tx xs g2 (λ n hn=>by have⟨K,hK⟩:=hB n hn;exact Nat.le_trans (g3 K) hK)).2 W (Here W) args (λ _ h=>h) hv (R7 _ _ g1)).mono λe W' ⟨v,I',he,hbel,_,_,_,hr⟩=>⟨v,he,?_⟩;simp[sk]at hr;obtain⟨rfl,_⟩:=hr;have hfn:s.fn H (ds++[])={ results:=[.lit (.bool true)],args:=ds }:=by rw[append_nil];exact hs ds hlen
 refine agO (pa:=p) (pv:=[]) hW' (λ b sp hd=>?_) (λ sp hsp=>?_) (λ sp _=>?_) (by simp) hbel (ok_one (by rw[hres]) rfl (okWide_bool_mk hb _));rw[hfn,hres];exact trodAll_mk1 (shut_bool hb _);rw[hfn];refine Lp hl hbel (λ t ht=>?_) hA hlt sp hsp;have:=all_eq_true.1 hread t ht;simpa using this;rw[hfn,hvars];rfl
end
def aqa:A5->TypeDesc->Bool
 |.slice e,.slice e'=>e==e'
 |.arr n e,.array n' e'=>n==n'&&e==e'
 |.struct fs,.struct fa=>fa.toList.map (λ f=>(f.offset,f.type))==fs
 |.bool,.bool=>true
 |.str,.string=>true
 |.int k,.int k'=>k==k'
 |.map k e,.map k' e'=>k==k'&&e==e'
 |.other,_=>true
 |_,_=>false
def amf:Value->Value->Bool
 |.int k a,.int k' b=>k==k'&&a==b
 |.bool a,.bool b=>a==b
 |.string a,.string b=>decide (a=b)
 |.slice none 0 0,.slice none 0 0=>true
 |.pointer none,.pointer none=>true
 |.nilFunc,.nilFunc=>true
 |.nilIface,.nilIface=>true
 |.map none,.map none=>true
 |_,_=>false
theorem adZ{a b:Value}(h:amf a b=true):a=b:=by unfold amf at h;split at h<;>simp_all
def V7:List Value->List Value->Bool
 |[],[]=>true
 |a::as,b::bs=>amf a b&&V7 as bs
 |_,_=>false
theorem Nu:∀{a b:List Value},V7 a b=true->a=b
 |[],[],_=>rfl
 |a::as,b::bs,h=>by simp[V7]at h;rw[adZ h.1,Nu h.2]
 |[],_::_,h|_::_,[],h=>by simp[V7]at h
def amg(P:Program)(t:TypeId)(ti:ox):Bool:=
 match P.info? t,P.underlying t with
 |some info,some d=>match info.zero with
  |some z=>info.size==ti.size&&info.bytes==ti.bytes&&tt d==ti.agg&&aqa ti.k d&&ti.zero.all lj&&ti.zero.length==ti.size&&
   (ti.cmp.isEmpty || match d with
    |.struct fa=>!P.stoodInHeld t&&!P.eqGuardType P.depth t&&i9 P 0 fa.toList ti.cmp
    |.array _ _=>ti.cmp==[9]&&!P.eqGuardType P.depth t
    |_=>false)&&V7 z.cells.toList ti.zero&&tD ti.agg z
  |none=>false
 |_,_=>false
theorem agP{k:A5}{d:TypeDesc}(h:aqa k d=true):T1 k d:=by unfold aqa at h;split at h;simp at h;subst h;rfl;simp at h;obtain⟨rfl,rfl⟩:=h;rfl;rename_i fs fa;exact⟨fa,rfl,by simpa using h⟩;rfl;rfl;simp at h;subst h;rfl;simp at h;obtain⟨rfl,rfl⟩:=h;rfl;trivial;cases h
theorem ad1{P:Program}{t:TypeId}{ti:ox}(h:amg P t ti=true):ml P t ti:=by
 unfold amg at h;split at h;rename_i info d h1 h2;split at h
 ·rename_i z h3;simp only[bK,beq_iff_eq]at h;obtain⟨⟨⟨⟨⟨⟨⟨⟨a1,a2⟩,a3⟩,a4⟩,a5⟩,a6⟩,a7⟩,a8⟩,a9⟩:=h;refine⟨⟨info,d,z,h1,h2,a1,a2,h3,Nu a8,a3,agP a4⟩,a5,a6,λinfo' z' e1 e2=>by rw[h1]at e1;cases e1;rw[h3]at e2;cases e2;exact a9,λhne=>?_⟩
  all_goals grind
 cases h;cases h
def R9(l:List (TypeId×ox)):eI:=λt=>(l.find? λp=>p.1==t).map (·.2)
theorem amh{P:Program}{l:List (TypeId×ox)}(h:(l.all λp=>amg P p.1 p.2)=true):fw P (R9 l):=by intro t ti ht;simp only[R9,lK]at ht;obtain⟨p,hp,rfl⟩:=ht;have h1:=List.find?_some hp;simp at h1;subst h1;exact ad1 (all_eq_true.1 h p (List.mem_of_find?_eq_some hp))
inductive CT(ι:Type) where
 |int (k:IntKind)
 |bool
 |str
 |sl (e:CT ι)
 |st (i:ι)
 |any
 |mp (k v:CT ι)
 deriving DecidableEq
structure SE where
 ι:Type
 dec:DecidableEq ι
 T:ι->Type
 row:(i:ι)->T i->List Tree
instance (E:SE):DecidableEq E.ι:=E.dec
section
variable (E:SE)
@[reducible] def CT.T:CT E.ι->Type
 |.int _=>Int
 |.bool=>Bool
 |.str=>ByteArray
 |.sl e=>List (CT.T e)
 |.st i=>E.T i
 |.any=>Tree
 |.mp k v=>List (CT.T k×CT.T v)
def CT.row:(c:CT E.ι)->CT.T E c->List Tree
 |.int k,n=>[.sc (.int k n)]
 |.bool,b=>[.sc (.bool b)]
 |.str,s=>[.sc (.string s)]
 |.sl e,l=>[.sl (List.map (CT.row e) l)]
 |.st i,x=>E.row i x
 |.any,x=>[x]
 |.mp _ _,_=>[.sl []]
def CT.one{ι:Type}:CT ι->Bool
 |.st _=>false
 |_=>true
def CT.tv:(c:CT E.ι)->CT.T E c->TV
 |.int k,n=>.s (.sc (.int k n))
 |.bool,b=>.s (.sc (.bool b))
 |.str,s=>.s (.sc (.string s))
 |.sl e,l=>.s (.sl (List.map (CT.row E e) l))
 |.st i,x=>.a (E.row i x)
 |.any,x=>.s x
 |.mp _ _,_=>.s (.sl [])
def HL:List (CT E.ι)->Type
 |[]=>Unit
 |c::l=>CT.T E c×HL l
def HL.row:(l:List (CT E.ι))->HL E l->List Tree
 |[],_=>[]
 |c::l,h=>CT.row E c h.1++HL.row l h.2
def HL.oR:(l:List (CT E.ι))->HL E l->List TV
 |[],_=>[]
 |c::l,h=>CT.tv E c h.1::HL.oR l h.2
end
structure Arr(E:SE) where
 i:E.ι
 c:CT E.ι
 f:E.T i->List (CT.T E c)
 g:List (CT.T E c)->Option (E.T i)
structure SX extends SE where
 da:ι->List (CT ι)
 get:(i:ι)->T i->HL toSE (da i)
 make:(i:ι)->HL toSE (da i)->T i
 mL:∀i x,row i x=HL.row toSE (da i) (get i x)
 ii:∀i h,row i (make i h)=HL.row toSE (da i) h
 flat:∀i,(da i).all CT.one=true
 gv:Nat->Option ((c:CT ι)×CT.T toSE c)
 As:∀g,(gv g).map (λ p=>CT.row toSE p.1 p.2)=(ye g).map λr=>r.map Tree.sc
 ar:TypeId->Option (Arr toSE):=λ_=>none
 arN:∀t a,ar t=some a->a.c.one=true/\(∀ x,row a.i x=((a.f x).map (CT.row toSE a.c)).flatten)/\∀l x,a.g l=some x->a.f x=l:=by intro t a h;cases h
section
variable (X:SX)
abbrev SX.C:=CT X.ι
abbrev SX.t(c:CT X.ι):Type:=CT.T X.toSE c
def CT.sz:CT X.ι->Nat
 |.st i=>(X.da i).length
 |_=>1
inductive DV where
 |c (t:CT X.ι) (x:CT.T X.toSE t)
 |agg (cs:List DV)
 |fj (vs:List DV)
 |own (k aa len:Nat)
 |ptr (k row aa:Nat)
 |rj (k:Nat) (n:Int) (aa:Nat)
 |tG (k row aa m:Nat) (n:Int)
 |rp (t:CT X.ι) (x:CT.T X.toSE t) (aa:Nat)
 |xl (t:CT X.ι) (x:CT.T X.toSE t) (aa m:Nat) (n:Int)
 |fn (f:FuncId) (first caps:List DV)
 |eC (as:List (CT X.ι)) (r:CT X.ι) (φ:HL X.toSE as->Option (CT.T X.toSE r))
 |mp (k:Nat)
 |oz (k len:Nat)
 |raw (v:Value)
 |nil
 |ub
 |skip
 |undef
inductive bo where
 |cells (sz:Nat) (rows:List (List (DV X)))
 |eE (c:CT X.ι) (l:List (CT.T X.toSE c))
 |map (kc vc:CT X.ι) (l:List (CT.T X.toSE kc×CT.T X.toSE vc))
structure d8 where
 env:List (Nat×DV X)
 obj:List (Nat×Option (bo X))
 nx:Nat
 log:List Nat
variable {X}
mutual
def den:DV X->AV
 |.c t x=>(CT.tv X.toSE t x).av
 |.agg cs=>.agg (bO cs)
 |.fj vs=>.fj (bO vs)
 |.own k aa len=>.own k aa len
 |.ptr k row aa=>.ptr k row aa
 |.rj k n aa=>.ptr k n.toNat aa
 |.tG k row aa _ n=>.ptr k row (aa+n.toNat)
 |.rp t x aa=>.fh (CT.row X.toSE t x) aa
 |.xl t x aa _ n=>.fh (CT.row X.toSE t x) (aa+n.toNat)
 |.fn f first caps=>.fn f (bO first) (bO caps)
 |.eC as r φ=>.eC λts u=>∃h x,φ h=some x/\ts=HL.oR X.toSE as h/\u=CT.tv X.toSE r x
 |.mp k=>.mp k
 |.oz k len=>.oz k len
 |.raw v=>cv v
 |.nil=>.de
 |.ub=>.ub
 |.skip=>.undef
 |.undef=>.undef
def bO:List (DV X)->List AV
 |[]=>[]
 |x::xs=>den x::bO xs
end
theorem oG:∀l:List (DV X),bO l=l.map den
 |[]=>rfl
 |x::xs=>by simp[bO,oG xs]
def bI:bo X->aP
 |.cells sz rows=>⟨sz,rows.map bO⟩
 |.eE c l=>⟨CT.sz X c,aI (l.map (CT.row X.toSE c))⟩
 |.map kc vc l=>⟨l.length,l.map λp=>[(CT.tv X.toSE kc p.1).av,(CT.tv X.toSE vc p.2).av]⟩
def iV(u:List (Nat×Option (bo X))):List (Nat×Option aP):=u.map λp=>(p.1,p.2.map bI)
def iu(o:List (Nat×Option (bo X)))(k:Nat):Option (bo X):=(lk o k).join
def fy(e:List (Nat×DV X))(t:Nat):DV X:=(lk e t).getD .undef
def d8.st(s:d8 X):St:=⟨λ t=>den (fy s.env t),λk=>(iu s.obj k).map bI,λ_=>none⟩
def lD(a b:CT X.ι)(x:CT.T X.toSE a):Option (CT.T X.toSE b):=
 match decEq a b with
 |isTrue h=>some (h ▸ x)
 |isFalse _=>none
theorem sj{a b:CT X.ι}{x:CT.T X.toSE a}{y:CT.T X.toSE b}(h:lD a b x=some y):∃e:a=b,y=e ▸ x:=by unfold lD at h;split at h;rename_i e _;injection h with h;exact⟨e,h.symm⟩;cases h
def HL.cells:(l:List (CT X.ι))->HL X.toSE l->List (DV X)
 |[],_=>[]
 |c::l,h=>.c c h.1::HL.cells l h.2
theorem row_one{c:CT X.ι}(h:c.one=true)(x:CT.T X.toSE c):∃t,CT.row X.toSE c x=[t]/\CT.tv X.toSE c x=.s t:=by cases c<;>first|exact⟨_,rfl,rfl⟩|cases h
theorem HL.rb:∀(l:List (CT X.ι))(h:HL X.toSE l),l.all CT.one=true->bO (HL.cells l h)=(HL.row X.toSE l h).map AV.t
 |[],_,_=>rfl
 |c::l,h,ha=>by simp only[all_cons,bK]at ha;obtain⟨t,h1,h2⟩:=row_one ha.1 h.1;simp[HL.cells,bO,den,HL.row,h1,h2,TV.av,HL.rb l h.2 ha.2]
theorem HL.pp:∀(l:List (CT X.ι))(h:HL X.toSE l),l.all CT.one=true->(HL.row X.toSE l h).length=l.length
 |[],_,_=>rfl
 |c::l,h,ha=>by simp only[all_cons,bK]at ha;obtain⟨t,h1,_⟩:=row_one ha.1 h.1;simp[HL.row,h1,HL.pp l h.2 ha.2]
theorem Et(c:CT X.ι)(x:CT.T X.toSE c):(CT.row X.toSE c x).length=CT.sz X c:=by
 cases c<;>try rfl
 rename_i i;exact(congrArg List.length (X.mL i x)).trans (HL.pp _ _ (X.flat i))
def vF:(c:CT X.ι)->CT.T X.toSE c->List (DV X)
 |.st i,x=>HL.cells (X.da i) (X.get i x)
 |c,x=>[.c c x]
theorem pU(c:CT X.ι)(x:CT.T X.toSE c):bO (vF c x)=(CT.row X.toSE c x).map AV.t:=by
 cases c<;>try rfl
 rename_i i;exact(HL.rb _ _ (X.flat i)).trans (congrArg (List.map AV.t) (X.mL i x).symm)
def wo:DV X->Bool
 |.agg _|.fj _|.undef|.skip|.raw _|.c (.st _) _=>false
 |_=>true
theorem Sb{x:DV X}(h:wo x=true):pR (den x)=true:=by
 cases x<;>try rfl
 case c t x=>cases t<;>first|rfl|simp[wo]at h
 all_goals simp[wo]at h
def cellsD:DV X->Option (List (DV X))
 |.agg cs=>if cs.all wo then some cs else none
 |.c (.st i) x=>some (vF (.st i) x)
 |.fj _|.undef|.skip|.raw _=>none
 |x=>some [x]
theorem ajc{l:List (DV X)}(h:l.all wo=true):(bO l).all pR=true:=by rw[oG,List.all_map,all_eq_true];exact λx hx=>Sb (all_eq_true.1 h x hx)
theorem Eu{x:DV X}{cs:List (DV X)}(h:cellsD x=some cs):cellsOf (den x)=some (bO cs):=by
 cases x
 case c t x=>
  cases t
  case st i=>
   simp[cellsD]at h;subst h;simp only[den,CT.tv,TV.av,cellsOf,pU];show(if ((X.row i x).map AV.t).all pR then some ((X.row i x).map AV.t)else none)=some ((X.row i x).map AV.t);rw[aX];rw[List.all_map,all_eq_true];exact λ_ _=>rfl
  all_goals simp[cellsD]at h;subst h;rfl
 case agg l=>
  simp only[cellsD]at h;split at h;cases h;simp only[den,cellsOf];rw[aX (ajc ‹_›)];cases h
 all_goals simp[cellsD]at h;try (subst h;rfl)
def ux:Value->DV X
 |.slice none 0 0=>.nil
 |.int k n=>.c (.int k) n
 |.bool b=>.c .bool b
 |.string s=>.c .str s
 |v=>.raw v
theorem ajd(v:Value):den (ux (X:=X) v)=cv v:=by unfold ux;split<;>rfl
theorem CY(l:List Value):bO (l.map (ux (X:=X)))=l.map cv:=by rw[oG,map_map];exact map_congr_left λv _=>ajd v
def Zj(env:Nat->DV X):Operand->DV X
 |.tmp t=>env t
 |.const v=>ux v
 |.global g=>match X.gv g with
  |some p=>.rp p.1 p.2 0
  |none=>.undef
 |.func f=>.fn f [] []
theorem V8(env:Nat->DV X)(x:Operand):den (Zj env x)=my (λ t=>den (env t)) x:=by
 cases x with
 |global g=>
  have h:=X.As g;simp[Zj,my];cases h1:X.gv g with
  |none=>
   rw[h1]at h;cases h2:ye g with
   |none=>rfl
   |some r=>rw[h2]at h;cases h
  |some p=>grind [den]
 |const v=>exact ajd _
 |tmp t|func f=>rfl
end
def bj{α:Type}(l:List α)(n:Int):Option α:=bif decide (0<=n)then l[n.toNat]? else none
def sub{α:Type}(l:List α)(aa len:Nat):List α:=(l.drop aa).take len
def cM(n:Int)(len:Nat):Bool:=decide (0<=n)&&decide (n<(len:Int))
def iM{α β:Type}(a:α)(f:α->β):β:=f a
def bH(lo len ln n bytes:Nat):Bool:=decide (lo=len)&&decide (ln=n)&&decide ((len+n)*bytes<=140737488355328)&&decide (len+n<=maxLen)
def aE(a b:Nat):Bool:=decide (a=b)
def tT(l h:Int)(len:Nat):Bool:=decide (0<=l)&&decide (l<=h)&&decide (h<=(len:Int))
def V9(a b:ByteArray):Bool:=Op.bytesLess a.toList b.toList
def Wh(a b:ByteArray):Bool:=decide (a.size+b.size<=maxLen)
abbrev iN(n:Int):Int:=n
abbrev bN(b:Bool):Bool:=b
def Wi{A:Type}:List Bool->Option A->Option A
 |[],k=>k
 |c::cs,k=>bif c then Wi cs k else none
section
variable {X:SX} {A:Type}
abbrev KK(X:SX)(A:Type):=DV X->List (Nat×Option (bo X))->List Nat->List Nat->Option A
def ami(t:Bool)(x y:DV X):DV X:=
 match x,y with
 |.c a p,.c b q=>match decEq b a with
  |isTrue h=>.c a (bif t then p else h ▸ q)
  |isFalse _=>bif t then .c a p else .c b q
 |x,y=>bif t then x else y
def Ii(agg:Bool)(size:Nat)(cs:List (DV X)):Option (DV X):=
 if cs.length=size then(if agg then some (.agg cs)else match cs with|[x]=>if wo x then some x else none|_=>none)else none
def Rg(agg:Bool)(size:Nat)(c:CT X.ι)(y:CT.T X.toSE c)(aa:Nat):Option (DV X):=
 match c,y with
 |.st i,y=>if aa=0/\agg=true/\size=(X.da i).length then some (.c (.st i) y)else Ii agg size (((vF (.st i) y).drop aa).take size)
 |c,y=>Ii agg size (((vF c y).drop aa).take size)
def LY(d:DV X)(c:CT X.ι):Option (CT.T X.toSE c):=
 match d,c with
 |.c a x,c=>lD a c x
 |.nil,.sl _=>some []
 |.nil,.any=>some (.sl [])
 |_,_=>none
def Ew:List (DV X)->(l:List (CT X.ι))->Option (HL X.toSE l)
 |[],[]=>some ()
 |d::ds,c::l=>(LY d c).bind λx=>(Ew ds l).bind λh=>some (x,h)
 |_,_=>none
def F1(d:DV X)(i:X.ι):Option (CT.T X.toSE (.st i)):=
 match d with
 |.agg cs=>(Ew cs (X.da i)).bind λh=>some (X.make i h)
 |.c a x=>lD a (.st i) x
 |_=>none
def dat(d:DV X)(c:CT X.ι):Option (CT.T X.toSE c):=
 match c with
 |.st i=>F1 d i
 |c=>LY d c
def mk1(c:CT X.ι):List (DV X)->Option (CT.T X.toSE c)
 |[d]=>LY d c
 |_=>none
def Ij(c:CT X.ι)(ds:List (DV X)):Option (CT.T X.toSE c):=
 match c with
 |.st i=>(Ew ds (X.da i)).bind λh=>some (X.make i h)
 |c=>mk1 c ds
def MY(r:List (DV X))(aa:Nat)(cs:List (DV X)):List (DV X):=r.take aa++cs++r.drop (aa+cs.length)
variable (T:eI) (al:TypeId->Option (CT X.ι))
def T0(t:TypeId)(x:DV X)(get:Nat->Option (bo X))(k:KK X A):Option A:=
 (T t).bind λti=>match x with
 |.ptr kk row aa=>(get kk).bind λo=>match o with
  |.cells _ rows=>(rows[row]?).bind λr=>(Ii ti.agg ti.size ((r.drop aa).take ti.size)).bind λv=>k v [] [kk] []
  |_=>none
 |.rj kk n aa=>(get kk).bind λo=>match o with
  |.eE c l=>(bj l n).bind λy=>(Rg ti.agg ti.size c y aa).bind λv=>k v [] [kk] []
  |_=>none
 |.rp c y aa=>(Rg ti.agg ti.size c y aa).bind λv=>k v [] [] []
 |_=>none
def Tu(t:TypeId)(x y:DV X)(get:Nat->Option (bo X))(k:KK X A):Option A:=
 (T t).bind λti=>(cellsD y).bind λcs=>if cs.length=ti.size then match x with
 |.ptr kk row aa=>(get kk).bind λo=>match o with
  |.cells sz rows=>(rows[row]?).bind λr=>if aa+cs.length<=r.length then k .undef [(kk,some (.cells sz (rows.set row (MY r aa cs))))] [kk] [kk]else none
  |_=>none
 |.rj kk n aa=>(get kk).bind λo=>match o with
  |.eE c l=>(bj l n).bind λy=>if aa+cs.length<=CT.sz X c then(Ij c (MY (vF c y) aa cs)).bind λz=>k .undef [(kk,some (.eE c (l.set n.toNat z)))] [kk] [kk]else none
  |_=>none
 |_=>none else none
def LZ(t:TypeId)(x:DV X)(f:Nat)(k:KK X A):Option A:=
 (Ak T t f).bind λp=>match x with
 |.ptr kk row aa=>k (.ptr kk row (aa+p.1)) [] [] []
 |.rj kk n aa=>k (.rj kk n (aa+p.1)) [] [] []
 |.rp c y aa=>k (.rp c y (aa+p.1)) [] [] []
 |_=>none
def agR(t:TypeId)(x:DV X)(f:Nat)(k:KK X A):Option A:=
 (Ak T t f).bind λp=>match x with
 |.agg cs=>(Ii p.2.agg p.2.size ((cs.drop p.1).take p.2.size)).bind λv=>k v [] [] []
 |.c (.st i) y=>(Ii p.2.agg p.2.size (((vF (.st i) y).drop p.1).take p.2.size)).bind λv=>k v [] [] []
 |_=>none
def L6(t:TypeId)(x j:DV X)(get:Nat->Option (bo X))(k:KK X A):Option A:=
 (T t).bind λti=>match ti.k,j with
 |.slice e,.c (.int _) n=>(T e).bind λei=>match x with
  |.c (.sl c) l=>if CT.sz X c=ei.size then(bj l n).bind λy=>k (.rp c y 0) [] [] []else none
  |.own kk aa len=>(get kk).bind λo=>match o with
   |.eE c _=>if CT.sz X c=ei.size then bif cM n len then k (.rj kk ((aa:Int)+iN n) 0) [] [kk] []else none else none
   |.cells sz _=>if sz=ei.size then bif cM n len then k (.ptr kk (aa+n.toNat) 0) [] [kk] []else none else none
   |.map _ _ _=>none
  |_=>none
 |.arr m e,.c (.int _) n=>(T e).bind λei=>bif cM n m then match x with
  |.ptr kk row aa=>k (.ptr kk row (aa+n.toNat*ei.size)) [] [] []
  |.rj kk r aa=>k (.rj kk r (aa+n.toNat*ei.size)) [] [] []
  |.rp c y aa=>k (.rp c y (aa+n.toNat*ei.size)) [] [] []
  |_=>none
  else none
 |_,_=>none
def Wj(x:DV X)(j:Nat)(k:KK X A):Option A:=
 match x with
 |.fj vs=>(vs[j]?).bind λv=>k v [] [] []
 |_=>none
def Ik(op:BinOp)(kd:IntKind)(a b:Int):(DV X)×Option Bool:=
 match op with
 |.add=>(.c (.int kd) (kd.wrap (a+b)),none)
 |.sub=>(.c (.int kd) (kd.wrap (a-b)),none)
 |.mul=>(.c (.int kd) (kd.wrap (a*b)),none)
 |.quo=>(.c (.int kd) (kd.wrap (a.tdiv b)),some (b !=0))
 |.rem=>(.c (.int kd) (a.tmod b),some (b !=0))
 |.and=>(.c (.int kd) (bits .and kd a b),none)
 |.or=>(.c (.int kd) (bits .or kd a b),none)
 |.xor=>(.c (.int kd) (bits .xor kd a b),none)
 |.andNot=>(.c (.int kd) (bits .andNot kd a b),none)
 |.shl=>(.c (.int kd) (kd.wrap (a*2 ^ b.toNat)),some (decide (0<=b)&&decide (b<=kd.bits)))
 |.shr=>(.c (.int kd) (a/2 ^ b.toNat),some (decide (0<=b)&&decide (b<=kd.bits)))
 |.eql=>(.c .bool (a==b),none)
 |.neq=>(.c .bool (a !=b),none)
 |.lss=>(.c .bool (decide (a<b)),none)
 |.leq=>(.c .bool (decide (a<=b)),none)
 |.gtr=>(.c .bool (decide (a>b)),none)
 |.geq=>(.c .bool (decide (a>=b)),none)
def ab0:Nat->DV X->DV X->Option Bool
 | 0,.c (.int j) a,.c (.int k) b=>if j=k then some (iN a==iN b)else none
 | 1,.c .bool a,.c .bool b=>some (bN a==bN b)
 | 2,.c .str a,.c .str b=>some (a.toList==b.toList)
 |_,_,_=>none
def Il:List Nat->List (DV X)->List (DV X)->Option Bool
 |[],[],[]=>some true
 |k::ks,x::xs,y::ys=>(ab0 k x y).bind λa=>(Il ks xs ys).bind λb=>some (a&&b)
 |_,_,_=>none
def QQ:DV X->Option (List (DV X))
 |.agg cs=>some cs
 |.c (.st i) y=>some (vF (.st i) y)
 |_=>none
def aqb(op:BinOp)(t:TypeId)(x y:DV X)(k:KK X A):Option A:=
 match x,y with
 |.c (.int kd) a,.c (.int yk) b=>if kd=yk\/op=.shl\/op=.shr then match (Ik op kd a b:DV X×Option Bool).2 with
  |none=>k (Ik op kd a b).1 [] [] []
  |some g=>bif g then k (Ik op kd a b).1 [] [] []else none
  else none
 |.c .str a,.c .str b=>match op with
  |.eql=>k (.c .bool (a.toList==b.toList)) [] [] []
  |.neq=>k (.c .bool (!(a.toList==b.toList))) [] [] []
  |.lss=>k (.c .bool (V9 a b)) [] [] []
  |.gtr=>k (.c .bool (!(V9 a b || a.toList==b.toList))) [] [] []
  |.add=>bif Wh a b then k (.c .str (a++b)) [] [] []else none
  |_=>none
 |.c .bool a,.c .bool b=>(T t).bind λti=>match ti.k,op with
  |.bool,.eql=>k (.c .bool (bN a==bN b)) [] [] []
  |.bool,.neq=>k (.c .bool (!(bN a==bN b))) [] [] []
  |_,_=>none
 |x,y=>(QQ x).bind λxs=>(QQ y).bind λys=>(T t).bind λti=>if ti.cmp=[]then none else(Il ti.cmp xs ys).bind λb=>match op with
  |.eql=>k (.c .bool b) [] [] []
  |.neq=>k (.c .bool (!b)) [] [] []
  |_=>none
def Ts(op:UnOp)(x:DV X)(k:KK X A):Option A:=
 match op,x with
 |.not,.c .bool b=>k (.c .bool (!b)) [] [] []
 |.neg,.c (.int kd) n=>k (.c (.int kd) (kd.wrap (0-iN n))) [] [] []
 |_,_=>none
def J4(mx:Bool)(kd:IntKind):Int->List (DV X)->Option Int
 |a,[]=>some a
 |a,.c (.int k') b::r=>if k'=kd then J4 mx kd (if mx then max a b else min a b) r else none
 |_,_=>none
def OS(mx:Bool)(args:List (DV X))(k:KK X A):Option A:=
 match args with
 |.c (.int kd) a::r=>(J4 mx kd a r).bind λn=>k (.c (.int kd) n) [] [] []
 |_=>none
def aqc(t:TypeId)(x:DV X)(k:KK X A):Option A:=
 (T t).bind λti=>match ti.k,x with
 |.slice _,.c (.sl _) l=>k (.c (.int .i64) (l.length:Int)) [] [] []
 |.slice _,.own _ _ len=>k (.c (.int .i64) (len:Int)) [] [] []
 |.slice _,.oz _ len=>k (.c (.int .i64) (len:Int)) [] [] []
 |.slice _,.nil=>k (.c (.int .i64) (0:Int)) [] [] []
 |.str,.c .str s=>k (.c (.int .i64) (s.size:Int)) [] [] []
 |_,_=>none
def HF(place:Nat->Option (Nat×Nat)):List (DV X)->List (Nat×DV X)->Option (List (DV X))
 |cells,[]=>some cells
 |cells,(j,x)::ae=>(place j).bind λp=>(cellsD x).bind λcs=>
  if cs.length=p.2/\p.1+cs.length<=cells.length then HF place (MY cells p.1 cs) ae else none
def agS(t:TypeId)(parts:List (Nat×DV X))(k:KK X A):Option A:=
 (T t).bind λti=>match ti.k with
 |.struct fs=>if fs.all (λ p=>(T p.2).isSome)then
  (HF (λ j=>(fs[j]?).bind λp=>(T p.2).bind λui=>some (p.1,ui.size)) (ti.zero.map ux) parts).bind λcells=>k (.agg cells) [] [] []else none
 |.arr _ e=>(T e).bind λei=>(HF (λ j=>some (j*ei.size,ei.size)) (ti.zero.map ux) parts).bind λcells=>k (.agg cells) [] [] []
 |_=>none
def MT(c:CT X.ι):Nat->List (Nat×DV X)->Option (List (CT.T X.toSE c))
 |_,[]=>some []
 |n,(j,x)::r=>if j=n then(dat x c).bind λy=>(MT c (n+1) r).bind λl=>some (y::l)else none
def Im(i:Nat)(t:TypeId)(len:Nat)(parts:List (Nat×DV X))(k:KK X A):Option A:=
 (T t).bind λti=>match ti.k with
 |.slice e=>(T e).bind λei=>(al e).bind λc=>if ei.size=0\/len*ei.size>2 ^ 24\/CT.sz X c≠ei.size\/parts.length≠len then none else
  (MT c 0 parts).bind λl=>k (.own (cT i) 0 len) [(cT i,some (.eE c l))] [] []
 |_=>none
def agT(i:Nat)(e:TypeId)(k:KK X A):Option A:=
 (T e).bind λti=>k (.ptr (cT i) 0 0) [(cT i,some (.cells ti.size [ti.zero.map ux]))] [] []
def aqd(i:Nat)(x:DV X)(k:KK X A):Option A:=
 (cellsD x).bind λcs=>k (.ptr (cT i) 0 0) [(cT i,some (.cells cs.length [cs]))] [] []
def A4(d:Int):Option (DV X)->Option Int
 |none=>some d
 |some (.c (.int _) n)=>some n
 |_=>none
def agU(t:TypeId)(x:DV X)(lo hi:Option (DV X))(get:Nat->Option (bo X))(k:KK X A):Option A:=
 (T t).bind λti=>match ti.k with
 |.slice e=>(T e).bind λei=>match x with
  |.own kk aa len=>(get kk).bind λo=>if (bI o).sz=ei.size then(A4 0 lo).bind λl=>(A4 len hi).bind λh=>
   bif tT l h len then k (.own kk (aa+l.toNat) (h.toNat-l.toNat)) [] [kk] []else none else none
  |.c (.sl c) xs=>if CT.sz X c=ei.size then(A4 0 lo).bind λl=>(A4 xs.length hi).bind λh=>
   bif tT l h xs.length then k (.c (.sl c) (sub xs l.toNat (h.toNat-l.toNat))) [] [] []else none else none
  |_=>none
 |_=>none
def aqe(y:DV X)(c:CT X.ι)(get:Nat->Option (bo X)):Option (Nat×List (CT.T X.toSE c)×List Nat):=
 match y with
 |.own kk aa len=>(get kk).bind λo=>match o with
  |.eE b l=>(lD (.sl b) (.sl c) l).bind λl=>some (len,sub l aa len,[kk])
  |_=>none
 |.c b l=>(lD b (.sl c) l).bind λ(l:List (CT.T X.toSE c))=>some (l.length,l,[])
 |_=>none
def Wl{α:Type}:Nat->List α->List α
 | 0,l=>l
 |n+1,l=>l.drop (n+1)
def ab1(i:Nat)(t:TypeId)(x y:DV X)(get:Nat->Option (bo X))(k:KK X A):Option A:=
 (T t).bind λti=>match ti.k with
 |.slice e=>(T e).bind λei=>(al e).bind λc=>if CT.sz X c=ei.size then(aqe y c get).bind λs=>match x with
  |.own kk aa len=>(get kk).bind λo=>match o with
   |.eE b l=>(lD (.sl b) (.sl c) l).bind λ(l:List (CT.T X.toSE c))=>bif bH (Wl aa l).length len s.2.1.length s.1 ei.bytes then iM (Wl aa l++s.2.1) λr=>k (.own (cT i) 0 r.length) [(cT i,some (.eE c r)),(kk,none)] (kk::s.2.2) [kk]else none
   |_=>none
  |.nil=>bif bH 0 0 s.2.1.length s.1 ei.bytes then iM s.2.1 λr=>k (.own (cT i) 0 r.length) [(cT i,some (.eE c r))] s.2.2 []else none
  |_=>none
  else none
 |_=>none
def Wm(i:Nat)(b:Builtin)(args:List (DV X))(da:List TypeId)(get:Nat->Option (bo X))(k:KK X A):Option A:=
 match b,args,da with
 |.len,[x],[t]=>aqc T t x k
 |.max,args,_=>OS true args k
 |.min,args,_=>OS false args k
 |.append,[x,y],[t,u]=>if t=u then ab1 T al i t x y get k else none
 |_,_,_=>none
def ON(i:Nat)(o:Op)(ρ:Operand->DV X)(get:Nat->Option (bo X))(k:KK X A):Option A:=
 match o with
 |.move x=>k (ρ x) [] [] []
 |.assign x=>k (ρ x) [] [] []
 |.pick c a b=>match ρ c with|.c .bool t=>k (ami t (ρ a) (ρ b)) [] [] []|_=>none
 |.alloc e=>agT T i e k
 |.box _ x=>aqd i (ρ x) k
 |.build t parts=>agS T t (parts.toList.map λp=>(p.1,ρ p.2)) k
 |.buildSlice t len parts=>Im T al i t len (parts.toList.map λp=>(p.1,ρ p.2)) k
 |.load t a=>T0 T t (ρ a) get k
 |.store t a x=>Tu T t (ρ a) (ρ x) get k
 |.binOp op t x y _=>aqb T op t (ρ x) (ρ y) k
 |.unOp op _ x=>Ts op (ρ x) k
 |.makeFunc (.func f) first caps=>k (.fn f (first.toList.map ρ) (caps.toList.map ρ)) [] [] []
 |.slice t x lo hi none=>agU T t (ρ x) (lo.map ρ) (hi.map ρ) get k
 |.fieldAddr t x f=>LZ T t (ρ x) f k
 |.field t x f=>agR T t (ρ x) f k
 |.indexAddr t x j=>L6 T t (ρ x) (ρ j) get k
 |.extract x j=>Wj (ρ x) j k
 |.call { callee:=.builtin b,args:=args,argTypes:=da }=>Wm T al i b (args.toList.map ρ) da.toList get k
 |_=>none
end
section
variable {X:SX} {A:Type} {T:eI} {al:TypeId->Option (CT X.ι)} {get:Nat->Option (bo X)} {k:KK X A} {r:A} {i:Nat}
def fH(get:Nat->Option (bo X)):Nat->Option aP:=λj=>(get j).map bI
theorem eU{rd:List Nat}{j:Nat}{o:bo X}(hj:j∈rd)(h:get j=some o):dM rd (fH get) j=some (bI o):=by simp[dM,hj,fH,h]
theorem lN(l:List (DV X)):(bO l).length=l.length:=by simp[oG]
theorem kR(l:List (DV X))(a b:Nat):bO ((l.drop a).take b)=((bO l).drop a).take b:=by simp[oG]
theorem Nv{α:Type}{l:List α}{n:Int}{x:α}(h:bj l n=some x):0<=n/\l[n.toNat]? =some x:=by
 unfold bj at h
 all_goals grind
theorem akq(t:Bool)(x y:DV X):den (ami t x y)=N3 t (den x) (den y):=by
 rw[Vr];have base:∀x y:DV X,den (bif t then x else y)=if t=true then den x else den y:=λx y=>by cases t<;>rfl
 unfold ami;split;split;rename_i h _;subst h;cases t<;>rfl;exact base _ _;exact base _ _
theorem CZ{agg:Bool}{size:Nat}{cs:List (DV X)}{v:DV X}(h:Ii agg size cs=some v):part' agg size (bO cs)=some (den v):=by
 unfold Ii at h;unfold part';rw[lN];split at h;rename_i hl;rw[aX hl];cases agg with
 |true=>simp at h ⊢;subst h;rfl
 |false=>
  simp at h ⊢
  match cs,h with
  |[x],h=>
   simp only at h;split at h;rename_i hx;cases h;simp only[bO];rw[aX (Sb hx)];cases h
  |[],h|_::_::_,h=>cases h
 cases h
theorem Qh{agg:Bool}{size aa:Nat}{c:CT X.ι}{y:CT.T X.toSE c}{v:DV X}(h:Ii agg size (((vF c y).drop aa).take size)=some v):part' agg size ((((CT.row X.toSE c y).drop aa).take size).map AV.t)=some (den v):=by have:=CZ h;rw[kR,pU]at this;rw[<- this,map_take,map_drop]
theorem aax{agg:Bool}{size aa:Nat}{c:CT X.ι}{y:CT.T X.toSE c}{v:DV X}(h:Rg agg size c y aa=some v):part' agg size ((((CT.row X.toSE c y).drop aa).take size).map AV.t)=some (den v):=by
 cases c
 case st j=>
  simp[Rg]at h;split at h;rename_i hh;obtain⟨rfl,rfl,rfl⟩:=hh;cases h;have hl:(CT.row X.toSE (.st j) y).length=(X.da j).length:=Et (.st j) y;rw[List.drop_zero,take_of_length_le (by omega)];unfold part';rw[aX (by simpa using hl)];rfl;exact Qh h
 all_goals exact Qh h
theorem akr{t:TypeId}{x:DV X}(h:T0 T t x get k=some r):∃cJ rd dv out,Le T t (den x) cJ (dM rd (fH get))=some out/\jO out.obs/\out.v=den dv/\out.upd=[]/\k dv [] rd []=some r:=by unfold T0 at h;unfold Le;rw[ah]at h;obtain⟨ti,h1,h⟩:=h;simp only[h1,ai];split at h;rename_i kk row aa;rw[ah]at h;obtain⟨o,h2,h⟩:=h;split at h;rw[ah]at h;obtain⟨rw',h3,h⟩:=h;rw[ah]at h;obtain⟨v,h4,h⟩:=h;refine⟨.none,[kk],v,⟨den v,[],[]⟩,?_,trivial,rfl,rfl,h⟩;have h5:=CZ h4;rw[kR]at h5;simp[den,eU (List.mem_singleton_self kk) h2,bI,h3,h5,pv];cases h;rename_i kk n aa;rw[ah]at h;obtain⟨o,h2,h⟩:=h;split at h;rename_i c l;rw[ah]at h;obtain⟨y,h3,h⟩:=h;rw[ah]at h;obtain⟨v,h4,h⟩:=h;have⟨_,h6⟩:=Nv h3;refine⟨.row ((CT.row X.toSE c y).map AV.t),[kk],v,⟨den v,[],[(aI (l.map (CT.row X.toSE c)))[n.toNat]? =some ((CT.row X.toSE c y).map AV.t)]⟩,?_,?_,rfl,rfl,h⟩;have h5:=aax h4;rw[map_take,map_drop]at h5;simp[den,eU (List.mem_singleton_self kk) h2,bI,h5,nb];simp[jO,aI,h6];cases h;rename_i c y aa;have⟨v,h4,h⟩:=ah.1 h;refine⟨.none,[],v,⟨den v,[],[]⟩,?_,trivial,rfl,rfl,h⟩;simp only[den,aax h4,ai,pv];cases h
theorem Wn(a:List (DV X))(aa:Nat)(cs:List (DV X)):bO (MY a aa cs)=put' (bO a) aa (bO cs):=by simp[MY,put',oG]
theorem o6{a c:CT X.ι}{x:CT.T X.toSE a}{y:CT.T X.toSE c}(h:lD a c x=some y):den (.c a x)=den (.c c y)/\CT.row X.toSE a x=CT.row X.toSE c y:=by
 obtain⟨e,h⟩:=sj h
 grind
theorem S8{c:CT X.ι}(hc:c.one=true)(x:CT.T X.toSE c):[(CT.tv X.toSE c x).av]=(CT.row X.toSE c x).map AV.t:=by obtain⟨t,h1,h2⟩:=row_one hc x;rw[h1,h2];rfl
theorem apT{c:CT X.ι}(x:CT.T X.toSE c):wk (CT.tv X.toSE c x).av=(CT.tv X.toSE c x).av:=by cases c<;>rfl
theorem wN{d:DV X}{c:CT X.ι}{x:CT.T X.toSE c}(h:LY d c=some x):wk (den d)=(CT.tv X.toSE c x).av:=by unfold LY at h;split at h;rw[(o6 h).1];exact apT x;cases h;rfl;cases h;rfl;cases h
theorem ajf{d:DV X}{c:CT X.ι}{x:CT.T X.toSE c}(hc:c.one=true)(h:LY d c=some x):wo d=true:=by
 cases d
 case c a y=>
  obtain⟨e,_⟩:=sj (show lD a c y=some x by cases c<;>exact h);subst e;cases a<;>first|rfl|simp[CT.one]at hc
 case nil=>rfl
 all_goals cases c<;>cases h
theorem y8:∀{ds:List (DV X)}{l:List (CT X.ι)}{h:HL X.toSE l},Ew ds l=some h->l.all CT.one=true->(bO ds).map wk=(HL.row X.toSE l h).map AV.t/\ds.all wo=true
 |[],[],h,_,_=>⟨rfl,rfl⟩
 |d::ds,c::l,h,hr,ha=>by simp[Ew]at hr;have⟨x,h1,hr⟩:=ah.1 hr;have⟨g,h2,hr⟩:=ah.1 hr;cases hr;simp only[all_cons,bK]at ha ⊢;have⟨i1,i2⟩:=y8 h2 ha.2;simp[bO,HL.row,i1,wN h1,i2,ajf ha.1 h1];simp[<- S8 ha.1 x]
 |[],_::_,_,hr,_|_::_,[],_,hr,_=>by simp[Ew]at hr
theorem Wo(j:X.ι)(h:HL X.toSE (X.da j)):CT.row X.toSE (.st j) (X.make j h)=HL.row X.toSE (X.da j) h:=X.ii j h
theorem aoD{c:CT X.ι}(hc:c.one=true){ds:List (DV X)}{x:CT.T X.toSE c}(h:mk1 c ds=some x):(bO ds).map wk=(CT.row X.toSE c x).map AV.t:=by
 match ds,h with
 |[d],h=>
  rw[<- S8 hc x];simp[bO,wN h]
 |[],h|_::_::_,h=>cases h
theorem yP{c:CT X.ι}{ds:List (DV X)}{x:CT.T X.toSE c}(h:Ij c ds=some x):(bO ds).map wk=(CT.row X.toSE c x).map AV.t:=by
 cases c
 case st j=>
  simp[Ij]at h;have⟨g,h1,h⟩:=ah.1 h;cases h;rw[(y8 h1 (X.flat j)).1,Wo]
 all_goals exact aoD rfl h
theorem agV{d:DV X}{c:CT X.ι}(hc:c.one=true){x:CT.T X.toSE c}(h:LY d c=some x):∃cs,cellsOf (den d)=some cs/\cs.map wk=(CT.row X.toSE c x).map AV.t:=by
 have hk:=ajf hc h;have hd:=wN h;have he:cellsOf (den d)=some [den d]:=by
  have:=Eu (x:=d) (cs:=[d]) (by
   cases d
   case c t y=>cases t<;>first|rfl|simp[wo]at hk
   all_goals first|rfl|simp[wo]at hk)
  simpa[bO]using this
 exact⟨_,he,by rw[<- S8 hc x];simp[hd]⟩
theorem aks{d:DV X}{c:CT X.ι}{x:CT.T X.toSE c}(h:dat d c=some x):∃cs,cellsOf (den d)=some cs/\cs.map wk=(CT.row X.toSE c x).map AV.t:=by
 cases c
 case st j=>
  replace h:F1 d j=some x:=h
  cases d
  case agg cs=>
   simp[F1]at h;rw[ah]at h;obtain⟨g,h1,h⟩:=h;cases h;have⟨i1,i2⟩:=y8 h1 (X.flat j);refine⟨bO cs,?_,by rw[i1,Wo]⟩;simp only[den,cellsOf];rw[aX (ajc i2)]
  case c a y=>
   rw[(o6 h).1];refine⟨(CT.row X.toSE (.st j) x).map AV.t,?_,?_⟩;show cellsOf (.agg _)=_;simp only[cellsOf];rw[aX];rfl;rw[List.all_map,all_eq_true];exact λ_ _=>rfl;rw[map_map];rfl
  all_goals cases h
 all_goals exact agV rfl h
theorem akt{t:TypeId}{x y:DV X}(h:Tu T t x y get k=some r):∃cJ kk u out,Vl T t (den x) (den y) cJ (dM [kk] (fH get))=some out/\jO out.obs/\out.v=.undef/\out.upd=iV [(kk,u)]/\k .undef [(kk,u)] [kk] [kk]=some r:=by
 unfold Tu at h;unfold Vl;rw[ah]at h;obtain⟨ti,h1,h⟩:=h;rw[ah]at h;obtain⟨cs,h2,h⟩:=h;simp[h1,Eu h2];split at h;rename_i hl;have hdl:(bO cs).length=ti.size:=by rw[lN];exact hl
 simp[hdl];split at h;rename_i kk row aa;rw[ah]at h;obtain⟨o,h3,h⟩:=h;split at h;rw[ah]at h;obtain⟨rw',h4,h⟩:=h;split at h;rename_i hle;refine⟨.none,kk,_,⟨.undef,_,[]⟩,?_,trivial,rfl,rfl,h⟩;simp only[den,eU (List.mem_singleton_self kk) h3,ai,bI,List.getElem?_map,h4,Option.map_some,lN];rw[aX (by rw[<- hl];exact hle)];simp[Wn];cases h;cases h;rename_i kk n aa;rw[ah]at h;obtain⟨o,h3,h⟩:=h;split at h;rename_i c l;rw[ah]at h;obtain⟨z,h4,h⟩:=h;split at h;rename_i hle;have⟨z',h5,h⟩:=ah.1 h;have⟨_,h6⟩:=Nv h4;refine⟨.set ((CT.row X.toSE c z).map AV.t) (aI ((l.set n.toNat z').map (CT.row X.toSE c))),kk,_,⟨.undef,_,[(aI (l.map (CT.row X.toSE c)))[n.toNat]? =some ((CT.row X.toSE c z).map AV.t)/\aI ((l.set n.toNat z').map (CT.row X.toSE c))=dZ ((aI (l.map (CT.row X.toSE c))).set n.toNat (put' ((CT.row X.toSE c z).map AV.t) aa (bO cs)))]⟩,?_,?_,rfl,rfl,h⟩;simp only[den,eU (List.mem_singleton_self kk) h3,ai,bI];rw[aX (by rw[length_map,Et,<- hl];exact hle)];simp[bI];refine⟨by simp[aI,h6],?_⟩;have h7:=yP h5;rw[Wn,pU]at h7;have hid:dZ (aI (l.map (CT.row X.toSE c)))=aI (l.map (CT.row X.toSE c)):=by simp[dZ,aI,wk]
 simp[dZ,h7];have:(aI (l.map (CT.row X.toSE c))).map (List.map wk)=aI (l.map (CT.row X.toSE c)):=hid;rw[this];simp[aI];cases h;cases h;cases h;cases h
theorem Qi{t:TypeId}{x:DV X}{f:Nat}(h:LZ T t x f k=some r):∃dv out,yX T t (den x) f=some out/\jO out.obs/\out.v=den dv/\out.upd=[]/\k dv [] [] []=some r:=by unfold LZ at h;unfold yX;rw[ah]at h;obtain⟨⟨d,u⟩,h1,h⟩:=h;simp[h1];split at h;exact⟨_,_,rfl,trivial,rfl,rfl,h⟩;exact⟨_,_,rfl,trivial,rfl,rfl,h⟩;exact⟨_,_,rfl,trivial,rfl,rfl,h⟩;cases h
theorem ab3{t:TypeId}{x:DV X}{f:Nat}(h:agR T t x f k=some r):∃dv out,Vm T t (den x) f=some out/\jO out.obs/\out.v=den dv/\out.upd=[]/\k dv [] [] []=some r:=by unfold agR at h;unfold Vm;rw[ah]at h;obtain⟨⟨d,u⟩,h1,h⟩:=h;simp[h1];split at h;rw[ah]at h;obtain⟨v,h2,h⟩:=h;have h3:=CZ h2;rw[kR]at h3;exact⟨v,⟨den v,[],[]⟩,by simp[den,h3,pv],trivial,rfl,rfl,h⟩;rename_i j y;have⟨v,h2,h⟩:=ah.1 h;have h3:=Qh h2;rw[map_take,map_drop]at h3;refine⟨v,⟨den v,[],[]⟩,?_,trivial,rfl,rfl,h⟩;show(part' u.agg u.size (List.take u.size (List.drop d ((CT.row X.toSE (.st j) y).map AV.t)))).bind pv=_;rw[h3];rfl;cases h
theorem eD{α:Type}{b:Bool}{x:Option α}{r:α}(h:(bif b then x else none)=some r):b=true/\x=some r:=by grind
theorem Wp{n:Int}{len:Nat}(h:cM n len=true):0<=n/\n.toNat<len:=by simp[cM]at h;omega
theorem qi{A:Type}:∀{cs:List Bool}{k:Option A}{r:A},Wi cs k=some r->(∀ c∈cs,c=true)/\k=some r
 |[],_,_,h=>⟨by simp,h⟩
 |c::cs,k,r,h=>by have⟨h1,h2⟩:=eD h;have⟨h3,h4⟩:=qi h2;exact⟨λ x hx=>(aR.1 hx).elim (λ e=>e ▸ h1) (h3 x),h4⟩
theorem Qj{t:TypeId}{x j:DV X}(h:L6 T t x j get k=some r):∃cJ rd dv out,mG T t (den x) (den j) cJ (dM rd (fH get))=some out/\jO out.obs/\out.v=den dv/\out.upd=[]/\k dv [] rd []=some r:=by unfold L6 at h;unfold mG;rw[ah]at h;obtain⟨ti,h1,h⟩:=h;simp[h1];split at h;rename_i e kd n hk;rw[ah]at h;obtain⟨ei,h2,h⟩:=h;simp[hk,den,CT.tv,TV.av,h2];split at h;rename_i c l;split at h;rename_i hs;rw[ah]at h;obtain⟨y,h3,h⟩:=h;have⟨h4,h5⟩:=Nv h3;refine⟨.tf (CT.row X.toSE c y),[],_,⟨.fh (CT.row X.toSE c y) 0,[],[0<=n/\(l.map (CT.row X.toSE c))[n.toNat]? =some (CT.row X.toSE c y)]⟩,?_,?_,rfl,rfl,h⟩;simp only[den,CT.tv,TV.av];rw[aX (by rw[Et];exact hs)];rfl;exact⟨h4,by simp[h5]⟩;cases h;rename_i kk aa len;rw[ah]at h;obtain⟨o,h3,h⟩:=h;split at h;rename_i c l;split at h;rename_i hs;have⟨h4,h⟩:=eD h;have⟨h5,h6⟩:=Wp h4;refine⟨.none,[kk],_,⟨.ptr kk (aa+n.toNat) 0,[],[0<=n/\n.toNat<len]⟩,?_,⟨h5,h6⟩,?_,rfl,h⟩;simp only[den,eU (List.mem_singleton_self kk) h3,ai,bI];rw[aX hs];rfl;simp[iN];congr 1;have:(0:Int)<=n:=h5;omega;cases h;rename_i sz rows;split at h;rename_i hs;have⟨h4,h⟩:=eD h;have⟨h5,h6⟩:=Wp h4;refine⟨.none,[kk],_,⟨.ptr kk (aa+n.toNat) 0,[],[0<=n/\n.toNat<len]⟩,?_,⟨h5,h6⟩,rfl,rfl,h⟩;simp only[den,eU (List.mem_singleton_self kk) h3,ai,bI];rw[aX hs];rfl;cases h;cases h;cases h;rename_i m e kd n hk;have⟨ei,h2,h⟩:=ah.1 h;simp[hk,den,CT.tv,TV.av,h2];have⟨h4,h⟩:=eD h;have⟨h5,h6⟩:=Wp h4;split at h;exact⟨.none,[],_,_,rfl,⟨h5,h6⟩,rfl,rfl,h⟩;exact⟨.none,[],_,_,rfl,⟨h5,h6⟩,rfl,rfl,h⟩;exact⟨.none,[],_,_,rfl,⟨h5,h6⟩,rfl,rfl,h⟩;cases h;cases h
theorem Wq{x:DV X}{j:Nat}(h:Wj x j k=some r):∃dv out,H6 (den x) j=some out/\jO out.obs/\out.v=den dv/\out.upd=[]/\k dv [] [] []=some r:=by unfold Wj at h;split at h;have⟨v,h2,h⟩:=ah.1 h;refine⟨v,⟨den v,[],[]⟩,?_,trivial,rfl,rfl,h⟩;simp[H6,den,oG,h2,pv];cases h
end
section
variable {X:SX} {A:Type} {T:eI} {al:TypeId->Option (CT X.ι)} {get:Nat->Option (bo X)} {k:KK X A} {r:A} {i:Nat}
theorem ab4{op:BinOp}{kd:IntKind}{a b:Int}:∃v obs,Vk op kd a b=some (v,obs)/\den (Ik (X:=X) op kd a b).1=.t (.sc v)/\(∀ g,(Ik (X:=X) op kd a b).2=some g->g=true->jO obs)/\((Ik (X:=X) op kd a b).2=none->jO obs):=by
 cases op<;>refine⟨_,_,rfl,rfl,λg hg ht=>?_,λhn=>?_⟩<;>simp[Ik]at* <;>try trivial
 all_goals subst hg;simp_all [jO]
theorem ad3{n:Nat}{x y:DV X}{b:Bool}(h:ab0 n x y=some b):LW n (den x) (den y)=some b:=by unfold ab0 at h;split at h;split at h;cases h;simp only[den,CT.tv,TV.av,LW];rw[aX ‹_›];cases h;exact h;exact h;cases h
theorem Nw:∀{ks:List Nat}{xs ys:List (DV X)}{b:Bool},Il ks xs ys=some b->tN ks (bO xs) (bO ys)=some b
 |[],[],[],b,h=>h
 |k::ks,x::xs,y::ys,b,h=>by simp[Il]at h;rw[ah]at h;obtain⟨p,h1,h⟩:=h;rw[ah]at h;obtain⟨q,h2,h⟩:=h;simp[bO,tN,ad3 h1,Nw h2,h]
 |[],_::_,_,_,h|[],[],_::_,_,h|_::_,[],_,_,h|_::_,_::_,[],_,h=>by simp[Il]at h
theorem ad4{x:DV X}{xs:List (DV X)}(h:QQ x=some xs):den x=.agg (bO xs):=by unfold QQ at h;split at h;cases h;rfl;cases h;rw[pU];rfl;cases h
theorem agW{op:BinOp}{t:TypeId}{x y:DV X}(h:aqb T op t x y k=some r):∃dv out,Y8 T op t (den x) (den y)=some out/\jO out.obs/\out.v=den dv/\out.upd=[]/\k dv [] [] []=some r:=by
 unfold aqb at h;split at h;rename_i kd a yk b;split at h;rename_i hk;have⟨v,obs,h1,h2,h3,h4⟩:=ab4 (X:=X) (op:=op) (kd:=kd) (a:=a) (b:=b);have fin:jO obs->k (Ik op kd a b).1 [] [] []=some r->∃dv out,Y8 T op t (den (.c (.int kd) a:DV X)) (den (.c (.int yk) b:DV X))=some out/\jO out.obs/\out.v=den dv/\out.upd=[]/\k dv [] [] []=some r:=by intro ho hkk;refine⟨_,⟨.t (.sc v),[],obs⟩,?_,ho,h2.symm,rfl,hkk⟩;simp only[den,CT.tv,TV.av,Y8];rw[aX hk,h1];rfl
 split at h;rename_i hn;exact fin (h4 hn) h;rename_i g hg;have⟨hgt,h⟩:=eD h;exact fin (h3 g hg hgt) h;cases h;split at h;exact⟨_,_,rfl,trivial,rfl,rfl,h⟩;exact⟨_,_,rfl,trivial,rfl,rfl,h⟩;exact⟨_,_,rfl,trivial,rfl,rfl,h⟩;exact⟨_,_,rfl,trivial,rfl,rfl,h⟩;have⟨hc,h⟩:=eD h;exact⟨_,_,rfl,show _<=maxLen from of_decide_eq_true hc,rfl,rfl,h⟩;cases h;rw[ah]at h;obtain⟨ti,h1,h⟩:=h;split at h;rename_i hk;refine⟨_,⟨.t (.sc (.bool _)),[],[]⟩,?_,trivial,rfl,rfl,h⟩;simp[Y8,h1,hk];rfl;rename_i hk;refine⟨_,⟨.t (.sc (.bool _)),[],[]⟩,?_,trivial,rfl,rfl,h⟩;simp[Y8,h1,hk];rfl;cases h;rw[ah]at h;obtain⟨xs,h1,h⟩:=h;rw[ah]at h;obtain⟨ys,h2,h⟩:=h;rw[ah]at h;obtain⟨ti,h3,h⟩:=h;split at h;cases h;rename_i hc;have⟨b,h4,h⟩:=ah.1 h;have h5:=Nw h4;rw[ad4 h1,ad4 h2];split at h;refine⟨_,⟨.t (.sc (.bool b)),[],[]⟩,?_,trivial,rfl,rfl,h⟩;simp only[Y8,h3,ai];rw[aU hc,h5];rfl;refine⟨_,⟨.t (.sc (.bool (!b))),[],[]⟩,?_,trivial,rfl,rfl,h⟩;simp only[Y8,h3,ai];rw[aU hc,h5];rfl;cases h
theorem aku{op:UnOp}{x:DV X}(h:Ts op x k=some r):∃dv out,Tb op (den x)=some out/\jO out.obs/\out.v=den dv/\out.upd=[]/\k dv [] [] []=some r:=by unfold Ts at h;split at h;exact⟨_,_,rfl,trivial,rfl,rfl,h⟩;exact⟨_,_,rfl,trivial,rfl,rfl,h⟩;cases h
theorem Sc(mx:Bool)(kd:IntKind):∀(l:List (DV X))(a n:Int),J4 mx kd a l=some n->Ei mx kd a (bO l)=some n
 |[],a,n,h=>h
 |x::l,a,n,h=>by
  cases x
  case c t y=>
   cases t
   case int k'=>
    simp only[J4]at h;simp only[bO,den,CT.tv,TV.av,Ei];split at h;rename_i hk;rw[aX hk];exact Sc mx kd l _ _ h;cases h
   all_goals simp[J4]at h
  all_goals simp[J4]at h
theorem aay{mx:Bool}{args:List (DV X)}(h:OS mx args k=some r):∃dv out,HP mx (bO args)=some out/\jO out.obs/\out.v=den dv/\out.upd=[]/\k dv [] [] []=some r:=by unfold OS at h;split at h;rename_i kd a l;rw[ah]at h;obtain⟨n,h1,h⟩:=h;refine⟨_,⟨.t (.sc (.int kd n)),[],[]⟩,?_,trivial,rfl,rfl,h⟩;simp[bO,den,CT.tv,TV.av,HP];have:=Sc mx kd l a n h1;simp[this];rfl;cases h
theorem agX{t:TypeId}{x:DV X}(h:aqc T t x k=some r):∃cJ dv out,A3 T t (den x) cJ=some out/\jO out.obs/\out.v=den dv/\out.upd=[]/\k dv [] [] []=some r:=by unfold aqc at h;unfold A3;rw[ah]at h;obtain⟨ti,h1,h⟩:=h;simp[h1];split at h;rename_i e c l hk;simp[hk];exact⟨.num (l.length:Int),_,⟨.t (.sc (.int .i64 (l.length:Int))),[],[(l.length:Int)=((l.map (CT.row X.toSE c)).length:Int)]⟩,rfl,by simp[jO],rfl,rfl,h⟩;rename_i hk;simp[hk];exact⟨.none,_,_,rfl,trivial,rfl,rfl,h⟩;rename_i hk;simp[hk];exact⟨.none,_,_,rfl,trivial,rfl,rfl,h⟩;rename_i hk;simp[hk];exact⟨.none,_,_,rfl,trivial,rfl,rfl,h⟩;rename_i hk;simp[hk];exact⟨.none,_,_,rfl,trivial,rfl,rfl,h⟩;cases h
theorem Qk(place:Nat->Option (Nat×Nat)):∀(parts:List (Nat×DV X))(cells out:List (DV X)),HF place cells parts=some out->F3 place (bO cells) (parts.map λp=>(p.1,den p.2))=some (bO out)
 |[],cells,out,h=>by simp[HF]at h;subst h;rfl
 |(j,x)::ae,cells,out,h=>by simp[HF]at h;rw[ah]at h;obtain⟨⟨aa,size⟩,h1,h⟩:=h;rw[ah]at h;obtain⟨cs,h2,h⟩:=h;split at h;rename_i hl;simp only[bE,F3,h1,Eu h2,ai,lN];rw[aX hl,<- Wn];exact Qk place ae _ _ h;cases h
theorem ab5{t:TypeId}{parts:List (Nat×DV X)}(h:agS T t parts k=some r):∃dv out,Vn T t (parts.map λp=>(p.1,den p.2))=some out/\jO out.obs/\out.v=den dv/\out.upd=[]/\k dv [] [] []=some r:=by unfold agS at h;unfold Vn;rw[ah]at h;obtain⟨ti,h1,h⟩:=h;simp[h1];split at h;rename_i fs hk;split at h;rename_i ha;rw[ah]at h;obtain⟨cells,h2,h⟩:=h;have h3:=Qk _ _ _ _ h2;rw[CY]at h3;refine⟨_,⟨.agg (bO cells),[],[]⟩,?_,trivial,rfl,rfl,h⟩;simp only[hk];rw[aX ha,h3];rfl;cases h;rename_i m e hk;rw[ah]at h;obtain⟨ei,h2,h⟩:=h;rw[ah]at h;obtain⟨cells,h3,h⟩:=h;have h4:=Qk _ _ _ _ h3;rw[CY]at h4;refine⟨_,⟨.agg (bO cells),[],[]⟩,?_,trivial,rfl,rfl,h⟩;simp[hk,h2,h4];rfl;cases h
theorem aaz(size:Nat)(c:CT X.ι)(hs:CT.sz X c=size)(z:List AV):∀(parts:List (Nat×DV X))(n:Nat)(l:List (CT.T X.toSE c))(done:List (List AV)),MT c n parts=some l->done.length=n->
 ∃css:List (List AV),M0 size (done++List.replicate parts.length z) (parts.map λp=>(p.1,den p.2))=some (done++css)/\css.map (λ r=>r.map wk)=aI (l.map (CT.row X.toSE c))
 |[],n,l,done,h,_=>by simp[MT]at h;subst h;exact⟨[],by simp[M0],rfl⟩
 |(j,x)::ae,n,l,done,h,hd=>by
  simp only[MT]at h;split at h;rename_i hj;subst hj;have⟨y,h1,h⟩:=ah.1 h;have⟨l',h2,h⟩:=ah.1 h;cases h;have⟨cs,g1,g2⟩:=aks h1;have hl:cs.length=size:=by have:=congrArg List.length g2;simp[Et]at this;omega
  obtain⟨css,i1,i2⟩:=aaz size c hs z ae (j+1) l' (done++[cs]) h2 (by simp[hd]);refine⟨cs::css,?_,?_⟩;simp only[bE,M0,g1,ai];rw[aX ⟨hl,by simp;omega⟩];have:(done++List.replicate (ae.length+1) z).set j cs=done++[cs]++List.replicate ae.length z:=by rw[List.set_append_right _ _ (by omega),hd];simp[List.replicate_succ]
  simp only[dX,this,i1];simp;simp[i2,g2,aI];cases h
theorem Ny{t:TypeId}{len:Nat}{parts:List (Nat×DV X)}(h:Im T al i t len parts k=some r):∃dv u out,wL T i t len (parts.map λp=>(p.1,den p.2))=some out/\jO out.obs/\out.v=den dv/\out.upd=iV [(cT i,u)]/\k dv [(cT i,u)] [] []=some r:=by unfold Im at h;unfold wL;rw[ah]at h;obtain⟨ti,h1,h⟩:=h;simp[h1];split at h;rename_i e hk;rw[ah]at h;obtain⟨ei,h2,h⟩:=h;rw[ah]at h;obtain⟨c,h3,h⟩:=h;simp only[hk,h2,ai];split at h;cases h;rename_i hno;simp only[not_or,Decidable.not_not]at hno;obtain⟨n1,n2,n3,n4⟩:=hno;have⟨l,h4,h⟩:=ah.1 h;have⟨css,g1,g2⟩:=aaz ei.size c n3 (ei.zero.map cv) parts 0 l [] h4 rfl;simp[n4]at g1;refine⟨_,_,⟨.own (cT i) 0 len,[(cT i,some ⟨ei.size,dZ css⟩)],[]⟩,?_,trivial,rfl,?_,h⟩;rw[aU (by simp only[not_or];exact⟨n1,n2⟩),g1];rfl;simp[iV,bI,n3];rw[show dZ css=aI (l.map (CT.row X.toSE c))from g2];cases h
theorem ab6{e:TypeId}(h:agT T i e k=some r):∃dv u out,Vo T i e=some out/\jO out.obs/\out.v=den dv/\out.upd=iV [(cT i,u)]/\k dv [(cT i,u)] [] []=some r:=by unfold agT at h;unfold Vo;have⟨ti,h1,h⟩:=ah.1 h;exact⟨_,_,⟨_,[(cT i,some ⟨ti.size,[ti.zero.map cv]⟩)],[]⟩,by simp[h1];rfl,trivial,rfl,by simp[iV,bI,CY],h⟩
theorem agY{x:DV X}(h:aqd i x k=some r):∃dv u out,Nd i (den x)=some out/\jO out.obs/\out.v=den dv/\out.upd=iV [(cT i,u)]/\k dv [(cT i,u)] [] []=some r:=by unfold aqd at h;unfold Nd;rw[ah]at h;obtain⟨cs,h1,h⟩:=h;exact⟨_,_,⟨_,[(cT i,some ⟨(bO cs).length,[bO cs]⟩)],[]⟩,by simp[Eu h1];rfl,trivial,rfl,by simp[iV,bI,lN],h⟩
theorem C8{d n:Int}{x:Option (DV X)}(h:A4 d x=some n):bnd d (x.map den)=some n:=by unfold A4 at h;split at h;exact h;exact h;cases h
theorem aaA{l h:Int}{len:Nat}(hh:tT l h len=true):0<=l/\l<=h/\h<=(len:Int):=by simpa[tT,and_assoc]using hh
theorem ab7{t:TypeId}{x:DV X}{lo hi:Option (DV X)}(h:agU T t x lo hi get k=some r):∃cJ rd dv out,Vp T t (den x) (lo.map den) (hi.map den) cJ (dM rd (fH get))=some out/\jO out.obs/\out.v=den dv/\out.upd=[]/\k dv [] rd []=some r:=by
 unfold agU at h;unfold Vp;rw[ah]at h;obtain⟨ti,h1,h⟩:=h;simp[h1];split at h;rename_i e hk;rw[ah]at h;obtain⟨ei,h2,h⟩:=h;simp[hk,h2];split at h;rename_i kk aa len;rw[ah]at h;obtain⟨o,h3,h⟩:=h;split at h;rename_i hs;rw[ah]at h;obtain⟨l,h4,h⟩:=h;rw[ah]at h;obtain⟨hh,h5,h⟩:=h;have⟨h6,h⟩:=eD h;refine⟨.none,[kk],_,⟨.own kk (aa+l.toNat) (hh.toNat-l.toNat),[],[0<=l/\l<=hh/\hh<=(len:Int)]⟩,?_,aaA h6,rfl,rfl,h⟩;simp only[den,eU (List.mem_singleton_self kk) h3,ai];rw[aX hs,C8 h4,ai,C8 h5];rfl;cases h;rename_i c xs;split at h;rename_i hs;have⟨l,h4,h⟩:=ah.1 h;have⟨hh,h5,h⟩:=ah.1 h;have⟨h6,h⟩:=eD h;refine⟨.BE ((sub xs l.toNat (hh.toNat-l.toNat)).map (CT.row X.toSE c)),[],_,⟨.t (.sl ((sub xs l.toNat (hh.toNat-l.toNat)).map (CT.row X.toSE c))),[],[0<=l/\l<=hh/\hh<=((xs.map (CT.row X.toSE c)).length:Int)/\(sub xs l.toNat (hh.toNat-l.toNat)).map (CT.row X.toSE c)=((xs.map (CT.row X.toSE c)).drop l.toNat).take (hh.toNat-l.toNat)/\(∀ q∈xs.map (CT.row X.toSE c),q.length=ei.size)]⟩,?_,?_,rfl,rfl,h⟩;simp only[den,CT.tv,TV.av,C8 h4,ai];have h7:bnd ((xs.map (CT.row X.toSE c)).length:Int) (hi.map den)=some hh:=by have:=C8 h5;simpa using this
 rw[h7];rfl;have⟨a1,a2,a3⟩:=aaA h6;refine⟨a1,a2,by simpa using a3,by simp[sub],λq hq=>?_⟩;obtain⟨y,_,rfl⟩:=mem_map.1 hq;rw[Et];exact hs;cases h;cases h;cases h
end
section
variable {X:SX} {A:Type} {T:eI} {al:TypeId->Option (CT X.ι)} {get:Nat->Option (bo X)} {k:KK X A} {r:A} {i:Nat}
theorem jH{b c:CT X.ι}{l:List (CT.T X.toSE b)}{l':List (CT.T X.toSE c)}(h:lD (.sl b) (.sl c) l=some l'):CT.sz X b=CT.sz X c/\l.map (CT.row X.toSE b)=l'.map (CT.row X.toSE c):=by
 obtain⟨e,h⟩:=sj h
 grind
theorem ad5{y:DV X}{c:CT X.ι}{n:Nat}{l:List (CT.T X.toSE c)}{rd:List Nat}(h:aqe y c get=some (n,l,rd))(hl:l.length=n)(rd':List Nat)(hrd:∀j∈rd,j∈rd'):
 ∃ob,Vq (CT.sz X c) (den y) (dM rd' (fH get))=some (n,ob,aI (l.map (CT.row X.toSE c)))/\ob:=by unfold aqe at h;split at h;rename_i kk aa len;rw[ah]at h;obtain⟨o,h1,h⟩:=h;split at h;rw[ah]at h;obtain⟨l1,h2,h⟩:=h;injection h with h;obtain⟨rfl,rfl,rfl⟩:=h;have⟨h3,h4⟩:=jH h2;refine⟨True,?_,trivial⟩;simp only[den,Vq,eU (hrd kk (by simp)) h1,ai,bI];rw[aX h3];simp[h4];simp[aI,sub];cases h;rename_i b l0;have⟨l1,h2,h⟩:=ah.1 h;injection h with h;simp at h;obtain⟨rfl,rfl,rfl⟩:=h;refine⟨∀ q∈l1.map (CT.row X.toSE c),q.length=CT.sz X c,?_,?_⟩;rw[(o6 h2).1];simp[den,CT.tv,TV.av,Vq];intro q hq;obtain⟨z,_,rfl⟩:=mem_map.1 hq;exact Et c z;cases h
theorem Ws{lo len ln n bytes:Nat}(h:bH lo len ln n bytes=true):lo=len/\ln=n/\(len+n)*bytes<=140737488355328/\len+n<=maxLen:=by simpa[bH,and_assoc]using h
theorem pP{α:Type}(n:Nat)(l:List α):Wl n l=l.drop n:=by cases n<;>rfl
theorem Zk{t:TypeId}{x y:DV X}(h:ab1 T al i t x y get k=some r):∃cJ rd wr dv upd out,Al T i t (den x) (den y) cJ (dM rd (fH get))=some out/\jO out.obs/\out.v=den dv/\out.upd=iV upd/\(∀ p∈upd,p.1=cT i\/p.1∈wr)/\k dv upd rd wr=some r:=by
 unfold ab1 at h;unfold Al;rw[ah]at h;obtain⟨ti,h1,h⟩:=h;simp only[h1,ai];split at h;rename_i e hk;rw[ah]at h;obtain⟨ei,h2,h⟩:=h;rw[ah]at h;obtain⟨c,h3,h⟩:=h;simp only[hk,h2,ai];split at h;rename_i hs;rw[ah]at h;obtain⟨⟨n,l,rd⟩,h4,h⟩:=h;split at h;rename_i kk aa len;have⟨o,h5,h⟩:=ah.1 h;split at h;have⟨l1,h6,h⟩:=ah.1 h;have⟨h7,h⟩:=eD h;rw[pP]at h7 h;have hd:(aI (l1.map (CT.row X.toSE c))).drop aa=aI ((l1.drop aa).map (CT.row X.toSE c)):=by simp[aI]
 have⟨g1,g2,g3,g4⟩:=Ws h7;have⟨h8,h9⟩:=jH h6;obtain⟨ob,i1,i2⟩:=ad5 h4 g2 (kk::rd) (λ j hj=>by simp[hj]);have i3:=eU (rd:=kk::rd) (by simp) h5
 refine⟨.rows (aI ((l1.drop aa++l).map (CT.row X.toSE c))),kk::rd,[kk],_,_,⟨.own (cT i) 0 (aI ((l1.drop aa++l).map (CT.row X.toSE c))).length,[(cT i,some ⟨ei.size,aI ((l1.drop aa++l).map (CT.row X.toSE c))⟩),(kk,none)],
  [ob/\(aI ((l1.drop aa).map (CT.row X.toSE c))).length=len/\(aI (l.map (CT.row X.toSE c))).length=n/\aI ((l1.drop aa++l).map (CT.row X.toSE c))=aI ((l1.drop aa).map (CT.row X.toSE c))++aI (l.map (CT.row X.toSE c))/\(len+n)*ei.bytes<=140737488355328/\len+n<=maxLen]⟩,?_,?_,?_,?_,?_,h⟩
 rw[hs]at i1;simp only[i1,ai,den,i3,bI,h9,hd];rw[aX (by rw[h8,hs])];exact⟨i2,by simpa[aI]using g1,by simpa[aI]using g2,by simp[aI],g3,g4⟩;simp[den,aI];simp[iV,bI,hs];intro p hp;simp at hp;rcases hp with rfl|rfl;exact .inl rfl;exact .inr (by simp);cases h;have⟨h7,h⟩:=eD h;have⟨g1,g2,g3,g4⟩:=Ws h7;obtain⟨ob,i1,i2⟩:=ad5 h4 g2 rd (λ j hj=>hj)
 refine⟨.rows (aI (l.map (CT.row X.toSE c))),rd,[],_,_,⟨.own (cT i) 0 (aI (l.map (CT.row X.toSE c))).length,[(cT i,some ⟨ei.size,aI (l.map (CT.row X.toSE c))⟩)],
  [ob/\(aI (l.map (CT.row X.toSE c))).length=n/\aI (l.map (CT.row X.toSE c))=aI (l.map (CT.row X.toSE c))/\n*ei.bytes<=140737488355328/\n<=maxLen]⟩,?_,?_,?_,?_,?_,h⟩
 rw[hs]at i1;simp[i1,den];exact⟨i2,by simpa[aI]using g2,rfl,by simpa using g3,by simpa using g4⟩;simp[den,aI];simp[iV,bI,hs];intro p hp;simp at hp;rcases hp with rfl;exact .inl rfl;cases h;cases h;cases h
def aqR(T:eI)(i:Nat)(o:Oper)(ρ:Operand->DV X)(get:Nat->Option (bo X))(k:KK X A)(r:A):Prop:=
 ∃cJ rd wr dv upd out,qG T i o cJ (λ x=>den (ρ x)) (dM rd (fH get))=some out/\jO out.obs/\out.v=den dv/\out.upd=iV upd/\(∀ p∈upd,p.1=cT i\/p.1∈wr)/\k dv upd rd wr=some r
theorem Wt{b:Builtin}{args:List (DV X)}{da:List TypeId}(h:Wm T al i b args da get k=some r):∃cJ rd wr dv upd out,CU T i b (bO args) da cJ (dM rd (fH get))=some out/\jO out.obs/\out.v=den dv/\out.upd=iV upd/\(∀ p∈upd,p.1=cT i\/p.1∈wr)/\k dv upd rd wr=some r:=by unfold Wm at h;unfold CU;split at h;have⟨cJ,dv,out,h1,h2,h3,h4,h5⟩:=agX h;exact⟨cJ,[],[],dv,[],out,h1,h2,h3,h4,by simp,h5⟩;have⟨dv,out,h1,h2,h3,h4,h5⟩:=aay h;exact⟨.none,[],[],dv,[],out,h1,h2,h3,h4,by simp,h5⟩;have⟨dv,out,h1,h2,h3,h4,h5⟩:=aay h;exact⟨.none,[],[],dv,[],out,h1,h2,h3,h4,by simp,h5⟩;split at h;rename_i htu;have⟨cJ,rd,wr,dv,upd,out,h1,h2⟩:=Zk h;refine⟨cJ,rd,wr,dv,upd,out,?_,h2⟩;simp only[bO];rw[aX htu];exact h1;cases h;cases h
theorem UW(ρ:Operand->DV X)(l:List Operand):l.map (λ x=>den (ρ x))=bO (l.map ρ):=by rw[oG,map_map];rfl
theorem aaB{o:Oper}{ρ:Operand->DV X}(h:ON T al i o.op ρ get k=some r):aqR T i o ρ get k r:=by
 obtain⟨dst,op,ty,an,after,guard⟩:=o;unfold aqR qG;simp at h;unfold ON at h;split at h;exact⟨.none,[],[],_,[],_,rfl,trivial,rfl,rfl,by simp,h⟩;exact⟨.none,[],[],_,[],_,rfl,trivial,rfl,rfl,by simp,h⟩;rename_i c a b;split at h;rename_i t hc;refine⟨.none,[],[],_,[],⟨N3 t (den (ρ a)) (den (ρ b)),[],[]⟩,?_,trivial,(akq t _ _).symm,rfl,by simp,h⟩;simp[hc,den,CT.tv,TV.av,pv];cases h;have⟨dv,u,out,h1,h2,h3,h4,h5⟩:=ab6 h;exact⟨.none,[],[],dv,_,out,h1,h2,h3,h4,by simp,h5⟩;have⟨dv,u,out,h1,h2,h3,h4,h5⟩:=agY h;exact⟨.none,[],[],dv,_,out,h1,h2,h3,h4,by simp,h5⟩;rename_i t parts;have⟨dv,out,h1,h2,h3,h4,h5⟩:=ab5 h;refine⟨.none,[],[],dv,[],out,?_,h2,h3,h4,by simp,h5⟩;rw[map_map]at h1;exact h1;rename_i t len parts;have⟨dv,u,out,h1,h2,h3,h4,h5⟩:=Ny h;refine⟨.none,[],[],dv,_,out,?_,h2,h3,h4,by simp,h5⟩;rw[map_map]at h1;exact h1;have⟨cJ,rd,dv,out,h1,h2,h3,h4,h5⟩:=akr h;exact⟨cJ,rd,[],dv,[],out,h1,h2,h3,h4,by simp,h5⟩;have⟨cJ,kk,u,out,h1,h2,h3,h4,h5⟩:=akt h;exact⟨cJ,[kk],[kk],.undef,_,out,h1,h2,h3,h4,by simp,h5⟩;have⟨dv,out,h1,h2,h3,h4,h5⟩:=agW h;exact⟨.none,[],[],dv,[],out,h1,h2,h3,h4,by simp,h5⟩;have⟨dv,out,h1,h2,h3,h4,h5⟩:=aku h;exact⟨.none,[],[],dv,[],out,h1,h2,h3,h4,by simp,h5⟩;rename_i f first caps
 refine⟨.none,[],[],_,[],⟨.fn f (first.toList.map λx=>den (ρ x)) (caps.toList.map λx=>den (ρ x)),[],[]⟩,rfl,trivial,?_,rfl,by simp,h⟩;simp[den,UW];rename_i t x lo hi;have⟨cJ,rd,dv,out,h1,h2,h3,h4,h5⟩:=ab7 h;refine⟨cJ,rd,[],dv,[],out,?_,h2,h3,h4,by simp,h5⟩;simp at h1;exact h1;have⟨dv,out,h1,h2,h3,h4,h5⟩:=Qi h;exact⟨.none,[],[],dv,[],out,h1,h2,h3,h4,by simp,h5⟩;have⟨dv,out,h1,h2,h3,h4,h5⟩:=ab3 h;exact⟨.none,[],[],dv,[],out,h1,h2,h3,h4,by simp,h5⟩;have⟨cJ,rd,dv,out,h1,h2,h3,h4,h5⟩:=Qj h;exact⟨cJ,rd,[],dv,[],out,h1,h2,h3,h4,by simp,h5⟩;have⟨dv,out,h1,h2,h3,h4,h5⟩:=Wq h;exact⟨.none,[],[],dv,[],out,h1,h2,h3,h4,by simp,h5⟩;rename_i b args da;have⟨cJ,rd,wr,dv,upd,out,h1,h2⟩:=Wt h;refine⟨cJ,rd,wr,dv,upd,out,?_,h2⟩;simp[UW];exact h1;cases h
end
inductive Pt(ι:Type) where
 |v (c:CT ι)
 |o (k:Nat)
 |p (k:Nat)
 |nil
 |f (F:FuncId) (fs cs:List (Pt ι))
 |od (k:Nat)
 |mp (k:Nat)
 |oz (k:Nat)
 |a (ps:List (Pt ι))
inductive OP(ι:Type) where
 |l (c:CT ι)
 |m (k v:CT ι)
 |c (sz:Nat) (rows:List (List (Pt ι)))
section
variable {ι:Type}
mutual
def Pt.vars:Pt ι->List (CT ι)
 |.v c=>[c]
 |.a ps=>cX ps
 |.f _ fs cs=>cX fs++cX cs
 |.od _=>[.int .i64]
 |_=>[]
def cX:List (Pt ι)->List (CT ι)
 |[]=>[]
 |p::ps=>p.vars++cX ps
end
def jj:List (Nat×Pt ι)->List (CT ι)
 |[]=>[]
 |p::ps=>p.2.vars++jj ps
def wO:List (List (Pt ι))->List (CT ι)
 |[]=>[]
 |r::rs=>cX r++wO rs
def d6:List (Nat×OP ι)->List (CT ι)
 |[]=>[]
 |(_,.l c)::r=>.sl c::d6 r
 |(_,.m k v)::r=>.mp k v::d6 r
 |(_,.c _ rows)::r=>wO rows++d6 r
end
section
variable {X:SX}
structure DC(X:SX) where
 c:CT X.ι
 x:CT.T X.toSE c
@[reducible] def VT:List (CT X.ι)->Type
 |[]=>Unit
 |[c]=>CT.T X.toSE c
 |c::c'::l=>CT.T X.toSE c×VT (c'::l)
def F0:(l:List (CT X.ι))->List (DC X)->Option (VT (X:=X) l)
 |[],[]=>some ()
 |[c],[d]=>lD d.c c d.x
 |c::c'::l,d::ds=>(lD d.c c d.x).bind λx=>(F0 (c'::l) ds).bind λv=>some (x,v)
 |_,_=>none
def wP:(l:List (CT X.ι))->VT (X:=X) l->List (DC X)
 |[],_=>[]
 |[c],x=>[⟨c,x⟩]
 |c::c'::l,v=>⟨c,v.1⟩::wP (c'::l) v.2
theorem ad6{d:DC X}{c:CT X.ι}{x:CT.T X.toSE c}(h:lD d.c c d.x=some x):(⟨c,x⟩:DC X)=d:=by obtain⟨a,y⟩:=d;have⟨e,h⟩:=sj h;simp at e;subst e;subst h;rfl
theorem Wu:∀{l:List (CT X.ι)}{ds:List (DC X)}{v:VT (X:=X) l},F0 l ds=some v->wP l v=ds
 |[],[],_,_=>rfl
 |[c],[d],v,h=>by simp[F0]at h;simp[wP,ad6 h]
 |c::c'::l,d::ds,v,h=>by simp[F0]at h;rw[ah]at h;obtain⟨x,h1,h⟩:=h;rw[ah]at h;obtain⟨v',h2,h⟩:=h;cases h;simp[wP,ad6 h1,Wu h2]
 |[],_::_,_,h|[_],[],_,h|[_],_::_::_,_,h|_::_::_,[],_,h=>by simp[F0]at h
theorem Wv{c:CT X.ι}(x:CT.T X.toSE c):lD c c x=some x:=by unfold lD;split;rfl;rename_i h _;exact absurd rfl h
def HM(d:DC X):Nat:=match lD d.c (.int .i64) d.x with|some x=>Int.toNat x|none=>0
section
variable (eh:Nat->Nat)
mutual
def eP:Pt X.ι->List (DC X)->DV X×List (DC X)
 |.v _,L=>match L with
  |d::r=>(.c d.c d.x,r)
  |[]=>(.undef,[])
 |.o k,L=>(.own k 0 (eh k),L)
 |.p k,L=>(.ptr k 0 0,L)
 |.mp k,L=>(.mp k,L)
 |.oz k,L=>(.oz k (eh k),L)
 |.nil,L=>(.nil,L)
 |.f F fs cs,L=>(.fn F (lR fs L).1 (lR cs (lR fs L).2).1,(lR cs (lR fs L).2).2)
 |.od k,L=>match L with
  |d::r=>(.own k (HM d) (eh k-HM d),r)
  |[]=>(.undef,[])
 |.a ps,L=>(.agg (lR ps L).1,(lR ps L).2)
def lR:List (Pt X.ι)->List (DC X)->List (DV X)×List (DC X)
 |[],L=>([],L)
 |p::ps,L=>((eP p L).1::(lR ps (eP p L).2).1,(lR ps (eP p L).2).2)
end
def L8:List (Nat×Pt X.ι)->List (DC X)->List (Nat×DV X)
 |[],_=>[]
 |(t,p)::r,L=>(t,(eP eh p L).1)::L8 r (eP eh p L).2
def wQ:List (List (Pt X.ι))->List (DC X)->List (List (DV X))×List (DC X)
 |[],L=>([],L)
 |r::rs,L=>((lR eh r L).1::(wQ rs (lR eh r L).2).1,(wQ rs (lR eh r L).2).2)
def cZ:List (Nat×OP X.ι)->List (DC X)->List (Nat×Option (bo X))
 |[],_=>[]
 |(k,.l _)::r,L=>match L with
  |⟨.sl c',x⟩::L=>(k,some (.eE c' x))::cZ r L
  |_=>[]
 |(k,.m _ _)::r,L=>match L with
  |⟨.mp kc vc,x⟩::L=>(k,some (.map kc vc x))::cZ r L
  |_=>[]
 |(k,.c sz rows)::r,L=>(k,some (.cells sz (wQ eh rows L).1))::cZ r (wQ eh rows L).2
end
def lens:List (Nat×OP X.ι)->List (DC X)->List (Nat×Nat)
 |[],_=>[]
 |(k,.l _)::r,L=>match L with
  |⟨.sl _,x⟩::L=>(k,List.length x)::lens r L
  |_=>[]
 |(_,.m _ _)::r,L=>lens r (L.drop 1)
 |(_,.c _ rows)::r,L=>lens r (L.drop (wO rows).length)
def ma:Nat->List (Pt X.ι)->List (Nat×Pt X.ι)
 |_,[]=>[]
 |n,p::ps=>(n,p)::ma (n+1) ps
theorem Ql:∀(n:Nat)(ps:List (Pt X.ι)),jj (ma n ps)=cX ps
 |_,[]=>rfl
 |n,p::ps=>by simp[ma,jj,cX,Ql (n+1) ps]
structure dp(X:SX) where
 p7:List (Pt X.ι)
 kf:List (Nat×OP X.ι)
 gz:List (Pt X.ι)
 ka:List (Nat×OP X.ι)
 fn:VT (X:=X) (cX p7++d6 kf)->Option (VT (X:=X) (jj (ma 0 gz)++d6 ka))
def Ey(O:List (Nat×OP X.ι))(L:List (DC X))(k:Nat):Nat:=(lk (lens O L) k).getD 0
def Ww(ps:List (Pt X.ι))(O:List (Nat×OP X.ι))(L:List (DC X)):List (DV X):=(lR (Ey O (L.drop (cX ps).length)) ps (L.take (cX ps).length)).1
def N4(ps:List (Pt X.ι))(O:List (Nat×OP X.ι))(L:List (DC X)):List (Nat×Option (bo X)):=cZ (Ey O (L.drop (cX ps).length)) O (L.drop (cX ps).length)
def y9:List (DV X)->DV X
 |[d]=>d
 |ds=>.fj ds
def dK:List (Nat×Option (bo X))->List (Nat×bo X)
 |[]=>[]
 |(k,some o)::r=>(k,o)::dK r
 |(_,none)::r=>dK r
def tV(l:List (Nat×bo X)):List (Nat×aP):=l.map λp=>(p.1,bI p.2)
def dp.args(g:dp X)(v:VT (X:=X) (cX g.p7++d6 g.kf)):List (DV X):=Ww g.p7 g.kf (wP _ v)
def dp.cR(g:dp X)(v:VT (X:=X) (cX g.p7++d6 g.kf)):List (Nat×bo X):=dK (N4 g.p7 g.kf (wP _ v))
def dp.res(g:dp X)(r:VT (X:=X) (jj (ma 0 g.gz)++d6 g.ka)):DV X:=y9 (Ww g.gz g.ka (wP _ r))
def dp.outs(g:dp X)(r:VT (X:=X) (jj (ma 0 g.gz)++d6 g.ka)):List (Nat×bo X):=dK (N4 g.gz g.ka (wP _ r))
def Hi(P:Program)(f:FuncId)(g:dp X):Prop:=∀v r,g.fn v=some r->zd P f (bO (g.args v)) ((g.cR v).map λp=>bI p.2) (tV (g.outs r)) (den (g.res r))
end
inductive AT(ι:Type) where
 |d (c:CT ι)
 |ref (c:CT ι)
 |eC (as:List (CT ι)) (r:CT ι)
 |mut (c:CT ι)
 |ke (c:CT ι)
 |nil
 deriving DecidableEq
def AT.im{ι:Type}:AT ι->Bool
 |.mut _|.ke _=>true
 |_=>false
def AT.pl{ι:Type}:AT ι->Bool
 |.mut _|.ke _|.nil=>false
 |_=>true
inductive RT(ι:Type) where
 |d (c:CT ι)
 |fresh (e:CT ι)
 |whole (j:Nat)
 |mu (c:CT ι)
 |mr (c:CT ι)
 |mv
def RT.out{ι:Type}:RT ι->Bool
 |.mu _|.mr _|.mv=>true
 |_=>false
section
variable (X:SX)
@[reducible] def AT.T:AT X.ι->Type
 |.d c=>CT.T X.toSE c
 |.ref c=>CT.T X.toSE c
 |.eC as r=>HL X.toSE as->Option (CT.T X.toSE r)
 |.mut c=>List (CT.T X.toSE c)
 |.ke c=>CT.T X.toSE c
 |.nil=>Unit
@[reducible] def RT.T:RT X.ι->Type
 |.d c=>CT.T X.toSE c
 |.fresh e=>List (CT.T X.toSE e)
 |.whole _=>Unit
 |.mu c=>List (CT.T X.toSE c)
 |.mr c=>CT.T X.toSE c
 |.mv=>Unit
@[reducible] def je:List (AT X.ι)->Type
 |[]=>Unit
 |a::l=>AT.T X a×je l
@[reducible] def tK:List (RT X.ι)->Type
 |[]=>Unit
 |[r]=>RT.T X r
 |r::r'::l=>RT.T X r×tK (r'::l)
structure cx where
 args:List (AT X.ι)
 res:List (RT X.ι)
 fn:je X args->Option (tK X res)
 gen:Option (dp X):=none
variable {X}
def fq:Nat->(l:List (AT X.ι))->je X l->List AV
 |_,[],_=>[]
 |n,.d c::l,a=>(CT.tv X.toSE c a.1).av::fq n l a.2
 |n,.ref c::l,a=>.fh (CT.row X.toSE c a.1) 0::fq n l a.2
 |n,.eC as r::l,a=>den (.eC as r a.1:DV X)::fq n l a.2
 |n,.mut _::l,a=>.own n 0 (List.length a.1)::fq (n+1) l a.2
 |n,.ke _::l,a=>.ptr n 0 0::fq (n+1) l a.2
 |n,.nil::l,a=>.de::fq n l a.2
abbrev wR(l:List (AT X.ι))(a:je X l):List AV:=fq 0 l a
def ve(c:CT X.ι)(l:List (CT.T X.toSE c)):fC:=(CT.sz X c,l.map (CT.row X.toSE c))
def vg:(l:List (AT X.ι))->je X l->List fC
 |[],_=>[]
 |.mut c::l,a=>ve c a.1::vg l a.2
 |.ke c::l,a=>ve c [a.1]::vg l a.2
 |.d _::l,a=>vg l a.2
 |.ref _::l,a=>vg l a.2
 |.eC _ _::l,a=>vg l a.2
 |.nil::l,a=>vg l a.2
def qM:(r:RT X.ι)->RT.T X r->List (Option fC)
 |.mu c,x=>[some (ve c x)]
 |.mr c,x=>[some (ve c [x])]
 |.mv,_=>[none]
 |_,_=>[]
def oH:(l:List (RT X.ι))->tK X l->List (Option fC)
 |[],_=>[]
 |[r],x=>qM r x
 |r::r'::l,x=>qM r x.1++oH (r'::l) x.2
def Zl:(r:RT X.ι)->RT.T X r->List Nat
 |.mu _,x=>[List.length x]
 |.mr _,_=>[1]
 |.mv,_=>[0]
 |_,_=>[]
def y6:(l:List (RT X.ι))->tK X l->List Nat
 |[],_=>[]
 |[r],x=>Zl r x
 |r::r'::l,x=>Zl r x.1++y6 (r'::l) x.2
def Wx(ns:List Nat):(r:RT X.ι)->RT.T X r->List RC
 |.d c,x=>[.d (CT.tv X.toSE c x)]
 |.fresh e,l=>[.fresh (CT.sz X e) (l.map (CT.row X.toSE e))]
 |.whole j,_=>[.whole j (ns.getD j 0)]
 |_,_=>[]
def BB(ns:List Nat):(l:List (RT X.ι))->tK X l->List RC
 |[],_=>[]
 |[r],x=>Wx ns r x
 |r::r'::l,x=>Wx ns r x.1++BB ns (r'::l) x.2
def tX(l:List (RT X.ι))(x:tK X l):RV:=
 match BB (y6 l x) l x with
 |[c]=>.one c
 |cs=>.fj cs
def td(P:Program)(Γ:FuncId->Option (cx X)):Prop:=
 ∀f s,Γ f=some s->eG P f/\(∀ a r,s.fn a=some r->qu P f (wR s.args a) (vg s.args a) (oH s.res r) (tX s.res r))/\∀g,s.gen=some g->Hi P f g
theorem aqS:∀{l:List (AT X.ι)},(l.all λq=>q.pl)=true->(l.all λq=>!q.im)=true:=λ{l} h=>by rw[all_eq_true]at h ⊢;intro q hq;have:=h q hq;cases q<;>simp_all [AT.pl,AT.im]
theorem C9:∀{l:List (AT X.ι)}{a:je X l},(l.all λq=>!q.im)=true->vg l a=[]
 |[],_,_=>rfl
 |.d _::l,a,h|.ref _::l,a,h|.eC _ _::l,a,h=>C9 (l:=l) (by simpa[AT.im]using h)
 |.mut _::l,a,h|.ke _::l,a,h=>by simp[AT.im]at h
 |.nil::l,a,h=>C9 (l:=l) (by simpa[AT.im]using h)
theorem ad8{r:RT X.ι}{x:RT.T X r}(h:(!r.out)=true):qM r x=[]:=by cases r<;>first|rfl|simp[RT.out]at h
theorem ad9:∀{l:List (RT X.ι)}{x:tK X l},(l.all λq=>!q.out)=true->oH l x=[]
 |[],_,_=>rfl
 |[r],x,h=>ad8 (by simpa using h)
 |r::r'::l,x,h=>by simp only[all_cons,bK]at h;simp[oH,ad8 h.1];exact ad9 (l:=r'::l) (by simp only[all_cons,bK];exact h.2)
mutual
def bz:DV X->List Nat
 |.own k _ _=>[k]
 |.ptr k _ _=>[k]
 |.rj k _ _=>[k]
 |.tG k _ _ _ _=>[k]
 |.mp k=>[k]
 |.oz k _=>[k]
 |.agg cs=>aL cs
 |.fj cs=>aL cs
 |.fn _ first caps=>aL first++aL caps
 |_=>[]
def aL:List (DV X)->List Nat
 |[]=>[]
 |x::xs=>bz x++aL xs
end
theorem Au(c:CT X.ι)(x:CT.T X.toSE c):refs (CT.tv X.toSE c x).av=[]:=by
 cases c<;>try rfl
 rename_i i;show fe ((X.row i x).map AV.t)=[];generalize X.row i x=l
 induction l with
 |nil=>rfl
 |cons y ys ih=>simp[fe,refs,ih]
mutual
theorem jm:∀x:DV X,refs (den x)=bz x
 |.c t x=>Au t x
 |.agg cs|.fj cs=>by simp[den,refs,bz,jo cs]
 |.own _ _ _|.ptr _ _ _|.rj _ _ _|.mp _|.oz _ _|.tG _ _ _ _ _|.rp _ _ _|.xl _ _ _ _ _=>rfl
 |.fn f first caps=>by simp[den,refs,bz,jo first,jo caps]
 |.eC _ _ _=>rfl
 |.raw v=>by simp[den,cv];split;rfl;split<;>rfl
 |.nil|.ub|.skip|.undef=>rfl
theorem jo:∀l:List (DV X),fe (bO l)=aL l
 |[]=>rfl
 |x::xs=>by simp[bO,fe,aL,jm x,jo xs]
end
def Sd(get:Nat->Option (bo X))(d:DV X)(c:CT X.ι):Option (CT.T X.toSE c×List Bool):=
 match d,c with
 |.own kk aa len,.sl e=>(get kk).bind λo=>match o with
  |.eE b l=>(lD (.sl b) (.sl e) l).bind λ(l:List (CT.T X.toSE e))=>some (sub l aa len,[aE (sub l aa len).length len])
  |_=>none
 |.own kk aa len,.any=>(get kk).bind λo=>match o with
  |.eE b l=>some (.sl (List.map (CT.row X.toSE b) (sub l aa len)),[aE (sub l aa len).length len])
  |_=>none
 |.oz kk len,.sl e=>(get kk).bind λo=>match o with
  |.eE b l=>(lD (.sl b) (.sl e) l).bind λ(l:List (CT.T X.toSE e))=>some (sub l 0 len,[aE (sub l 0 len).length len])
  |_=>none
 |d,c=>(LY d c).bind λx=>some (x,[])
def BD(get:Nat->Option (bo X)):List (DV X)->(l:List (CT X.ι))->Option (HL X.toSE l×List Bool)
 |[],[]=>some ((),[])
 |d::ds,c::l=>(Sd get d c).bind λx=>(BD get ds l).bind λh=>some ((x.1,h.1),x.2++h.2)
 |_,_=>none
def HK(get:Nat->Option (bo X))(d:DV X)(i:X.ι):Option (CT.T X.toSE (.st i)×List Bool):=
 match d with
 |.agg cs=>(BD get cs (X.da i)).bind λh=>some (X.make i h.1,h.2)
 |.c a x=>(lD a (.st i) x).bind λx=>some (x,[])
 |_=>none
def F7(get:Nat->Option (bo X))(d:DV X)(c:CT X.ι):Option (CT.T X.toSE c×List Bool):=
 match c with
 |.st i=>HK get d i
 |c=>Sd get d c
def aml(get:Nat->Option (bo X))(d:DV X)(c:CT X.ι):Option (CT.T X.toSE c):=
 match d with
 |.ptr kk row 0=>(get kk).bind λo=>match o with
  |.cells _ rows=>(rows[row]?).bind λq=>if q.all (λ x=>match x with|.c _ _=>true|_=>false)then Ij c q else none
  |_=>none
 |.rp a x 0=>lD a c x
 |_=>none
def yp:(l l':List (AT X.ι))->je X l->je X l'->je X (l++l')
 |[],_,_,b=>b
 |_::l,l',a,b=>(a.1,yp l l' a.2 b)
def hlA:(as:List (CT X.ι))->HL X.toSE as->je X (as.map AT.d)
 |[],_=>()
 |_::l,h=>(h.1,hlA l h.2)
def wS:List (AT X.ι)->Nat
 |[]=>0
 |q::l=>(if q.im then 1 else 0)+wS l
theorem tY:∀(n:Nat)(l l':List (AT X.ι))(a:je X l)(b:je X l'),fq n (l++l') (yp l l' a b)=fq n l a++fq (n+wS l) l' b
 |n,[],_,_,_=>rfl
 |n,.d c::l,l',a,b|n,.ref c::l,l',a,b|n,.eC as r::l,l',a,b=>by simp[fq,yp,tY n l l' a.2 b,wS,AT.im]
 |n,.mut c::l,l',a,b|n,.ke c::l,l',a,b=>by simp[fq,yp,tY (n+1) l l' a.2 b,wS,AT.im,Nat.add_assoc]
 |n,.nil::l,l',a,b=>by simp[fq,yp,tY n l l' a.2 b,wS,AT.im]
theorem J5:∀(n:Nat)(as:List (CT X.ι))(h:HL X.toSE as),fq n (as.map AT.d) (hlA as h)=(HL.oR X.toSE as h).map TV.av
 |_,[],_=>rfl
 |n,c::l,h=>congrArg ((CT.tv X.toSE c h.1).av:: ·) (J5 n l h.2)
def apU{a b:CT X.ι}(h:a=b)(o:Option (CT.T X.toSE a)):Option (CT.T X.toSE b):=h ▸ o
def sw(get:Nat->Option (bo X))(pT:FuncId->List (DV X)->List (DV X)->(as:List (CT X.ι))->(r:CT X.ι)->Option ((HL X.toSE as->Option (CT.T X.toSE r))×List Bool)):List (DV X)->(l:List (AT X.ι))->Option (je X l×List Bool)
 |[],[]=>some ((),[])
 |d::ds,.d c::l=>(F7 get d c).bind λx=>(sw get pT ds l).bind λh=>some ((x.1,h.1),x.2++h.2)
 |d::ds,.ref c::l=>(aml get d c).bind λx=>(sw get pT ds l).bind λh=>some ((x,h.1),h.2)
 |d::ds,.eC as r::l=>(match d with
  |.eC as' r' φ=>if h:as'=as/\r'=r then some (λ x=>apU h.2 (φ (h.1 ▸ x)),[])else none
  |.fn f first caps=>pT f first caps as r
  |_=>none).bind λφ=>(sw get pT ds l).bind λq=>some ((φ.1,q.1),φ.2++q.2)
 |_,_=>none
def Sg(Γ:FuncId->Option (cx X))(get:Nat->Option (bo X)):Nat->List (DV X)->(l:List (AT X.ι))->Option (je X l×List Bool)
 | 0,ds,l=>sw get (λ _ _ _ _ _=>none) ds l
 |n+1,ds,l=>sw get (λ f first caps as r=>(Γ f).bind λs=>match s with
   |⟨sa,[.d r'],fn,_⟩=>
    if h:r'=r/\sa=sa.take first.length++(as.map AT.d++sa.drop (first.length+as.length))/\first.length=0 then
     (Sg Γ get n first (sa.take first.length)).bind λhf=>(Sg Γ get n caps (sa.drop (first.length+as.length))).bind λhc=>
      some (λ x=>apU h.1 (fn (h.2.1 ▸ yp _ _ hf.1 (yp _ _ (hlA as x) hc.1))),hf.2++hc.2)
    else none
   |_=>none) ds l
section
variable {P:Program} {Γ:FuncId->Option (cx X)} {get:Nat->Option (bo X)} {rd:List Nat}
theorem iH{a b:List Prop}(h:∀p∈a,p)(h':∀p∈b,p):∀p∈a++b,p:=by grind
theorem Io{d:DV X}{c:CT X.ι}{x:CT.T X.toSE c×List Bool}(h:Sd get d c=some x)(hc:∀b∈x.2,b=true)(hrd:∀j∈bz d,j∈rd):∃hs obs,(∀ p∈obs,p)/\∀ae,pE P (dM rd (fH get)) (den d) (hs++ae)=some ((CT.tv X.toSE c x.1).av,ae,obs):=by
 have base:∀{d:DV X}{c:CT X.ι}{x:CT.T X.toSE c},LY d c=some x->∃hs obs,(∀ p∈obs,p)/\∀ae,pE P (dM rd (fH get)) (den d) (hs++ae)=some ((CT.tv X.toSE c x).av,ae,obs):=by
  intro d c x h;unfold LY at h;split at h;rw[(o6 h).1];refine⟨[],[],by simp,λae=>?_⟩;simp;cases c<;>try rfl
  rename_i j;show pE P _ (.agg ((X.row j x).map AV.t)) ae=_;have:∀(l:List Tree)(hs:List LH),mX P (dM rd (fH get)) (l.map AV.t) hs=some (l.map AV.t,hs,[]):=by
   intro l
   induction l with
   |nil=>intro hs;rfl
   |cons y ys ih=>intro hs;simp[mX,pE,ih]
  simp[pE,this];rfl;cases h;exact⟨[.emp],[],by simp,λae=>rfl⟩;cases h;exact⟨[.emp],[],by simp,λae=>rfl⟩;cases h
 unfold Sd at h;split at h;rename_i kk aa len e;rw[ah]at h;obtain⟨o,h1,h⟩:=h;split at h;rename_i b l0;rw[ah]at h;obtain⟨l,h2,h⟩:=h;cases h;have h3:(sub l aa len).length=len:=by simpa[aE]using hc (aE (sub l aa len).length len) (by simp)
 have⟨h4,h5⟩:=jH h2;refine⟨[.rows ((sub l aa len).map (CT.row X.toSE e))],[(((bI (.eE b l0):aP).rows.drop aa).take len=aI ((sub l aa len).map (CT.row X.toSE e))/\((sub l aa len).map (CT.row X.toSE e)).length=len)],?_,λae=>?_⟩;intro p hp;simp only[bD]at hp;subst hp;refine⟨?_,by simpa using h3⟩;simp[bI,h5];simp[aI,sub];simp[den,pE,eU (hrd kk (by simp[bz])) h1];rfl;cases h;rename_i kk aa len;rw[ah]at h;obtain⟨o,h1,h⟩:=h;split at h;rename_i b l0;cases h;have h3:(sub l0 aa len).length=len:=by simpa[aE]using hc (aE (sub l0 aa len).length len) (by simp)
 refine⟨[.rows ((sub l0 aa len).map (CT.row X.toSE b))],[(((bI (.eE b l0):aP).rows.drop aa).take len=aI ((sub l0 aa len).map (CT.row X.toSE b))/\((sub l0 aa len).map (CT.row X.toSE b)).length=len)],?_,λae=>?_⟩;intro p hp;simp only[bD]at hp;subst hp;refine⟨?_,by simpa using h3⟩;simp[bI];simp[aI,sub];simp[den,pE,eU (hrd kk (by simp[bz])) h1];rfl;cases h;rename_i kk len e;rw[ah]at h;obtain⟨o,h1,h⟩:=h;split at h;rename_i b l0;have⟨l,h2,h⟩:=ah.1 h;cases h;have h3:(sub l 0 len).length=len:=by simpa[aE]using hc (aE (sub l 0 len).length len) (by simp)
 have⟨h4,h5⟩:=jH h2;refine⟨[.rows ((sub l 0 len).map (CT.row X.toSE e))],[(((bI (.eE b l0):aP).rows.drop 0).take len=aI ((sub l 0 len).map (CT.row X.toSE e))/\((sub l 0 len).map (CT.row X.toSE e)).length=len)],?_,λae=>?_⟩;intro p hp;simp only[bD]at hp;subst hp;refine⟨?_,by simpa using h3⟩;simp[bI,h5];simp[aI,sub];simp[den,pE,eU (hrd kk (by simp[bz])) h1];rfl;cases h;have⟨y,h1,h⟩:=ah.1 h;cases h;exact base h1
theorem Nz:∀{ds:List (DV X)}{l:List (CT X.ι)}{h:HL X.toSE l×List Bool},BD get ds l=some h->(∀ b∈h.2,b=true)->l.all CT.one=true->(∀ j∈aL ds,j∈rd)->
 ∃hs obs,(∀ p∈obs,p)/\∀ae,mX P (dM rd (fH get)) (bO ds) (hs++ae)=some ((HL.row X.toSE l h.1).map AV.t,ae,obs)
 |[],[],h,_,_,_,_=>⟨[],[],by simp,λae=>rfl⟩
 |d::ds,c::l,h,hr,hc,ha,hrd=>by simp[BD]at hr;have⟨x,h1,hr⟩:=ah.1 hr;have⟨g,h2,hr⟩:=ah.1 hr;cases hr;simp only[all_cons,bK]at ha;obtain⟨hs1,o1,p1,q1⟩:=Io (P:=P) (rd:=rd) h1 (λ b hb=>hc b (by simp[hb])) (λ j hj=>hrd j (by simp[aL,hj]));obtain⟨hs2,o2,p2,q2⟩:=Nz h2 (λ b hb=>hc b (by simp[hb])) ha.2 (λ j hj=>hrd j (by simp[aL,hj]));refine⟨hs1++hs2,o1++o2,iH p1 p2,λae=>?_⟩;simp only[bO,mX,aM,q1,ai,q2];show _=some ((CT.row X.toSE c x.1++HL.row X.toSE l g.1).map AV.t,ae,o1++o2);rw[List.map_append,<- S8 ha.1 x.1];rfl
 |[],_::_,_,hr,_,_,_|_::_,[],_,hr,_,_,_=>by simp[BD]at hr
theorem Av{d:DV X}{c:CT X.ι}{x:CT.T X.toSE c×List Bool}(h:F7 get d c=some x)(hc:∀b∈x.2,b=true)(hrd:∀j∈bz d,j∈rd):∃hs obs,(∀ p∈obs,p)/\∀ae,pE P (dM rd (fH get)) (den d) (hs++ae)=some ((CT.tv X.toSE c x.1).av,ae,obs):=by
 cases c
 case st i=>
  replace h:HK get d i=some x:=h
  cases d
  case agg cs=>
   simp[HK]at h;rw[ah]at h;obtain⟨g,h1,h⟩:=h;cases h;obtain⟨hs,obs,p1,q1⟩:=Nz (P:=P) (rd:=rd) h1 hc (X.flat i) (λ j hj=>hrd j (by simpa[bz]using hj));refine⟨hs,obs,p1,λae=>?_⟩;simp[den,pE,q1,CT.tv,TV.av];rw[X.ii]
  case c a y=>exact Io (c:=.st i) (x:=x) (by unfold Sd;exact h) hc hrd
  all_goals cases h
 all_goals exact Io h hc hrd
theorem aea{d:DV X}{c:CT X.ι}{x:CT.T X.toSE c}(h:aml get d c=some x)(hrd:∀j∈bz d,j∈rd):∃hs obs,(∀ p∈obs,p)/\∀ae,pE P (dM rd (fH get)) (den d) (hs++ae)=some (.fh (CT.row X.toSE c x) 0,ae,obs):=by
 unfold aml at h;split at h;rename_i kk row;rw[ah]at h;obtain⟨o,h1,h⟩:=h;split at h;rename_i sz rows;rw[ah]at h;obtain⟨q,h2,h⟩:=h;split at h;rename_i hq;refine⟨[.row (CT.row X.toSE c x)],[(bI (.cells sz rows):aP).rows[row]? =some ((CT.row X.toSE c x).map AV.t)],?_,λae=>?_⟩;intro p hp;simp only[bD]at hp;subst hp;simp only[bI,List.getElem?_map,h2,Option.map_some];rw[<- yP h,oG,map_map];congr 1;refine map_congr_left λy hy=>?_;have:=all_eq_true.1 hq y hy;cases y<;>first|exact(apT _).symm|simp at this
 simp[den,pE,eU (hrd kk (by simp[bz])) h1];cases h;cases h;rename_i a y;refine⟨[],[],by simp,λae=>?_⟩;simp[den,(o6 h).2];rfl;cases h
theorem ag0{n:Nat}{l l':List (AT X.ι)}(e:l=l')(b:je X l):fq n l' (e ▸ b)=fq n l b:=by subst e;rfl
theorem J6{pT:FuncId->List (DV X)->List (DV X)->(as:List (CT X.ι))->(r:CT X.ι)->Option ((HL X.toSE as->Option (CT.T X.toSE r))×List Bool)}:∀{ds:List (DV X)}{l:List (AT X.ι)}{a:je X l×List Bool},sw get pT ds l=some a->(l.all λq=>!q.im)=true
 |[],[],_,_=>rfl
 |d::ds,.d c::l,a,h=>by simp[sw]at h;have⟨x,h1,h⟩:=ah.1 h;have⟨q,h2,h⟩:=ah.1 h;simpa[AT.im]using J6 h2
 |d::ds,.ref c::l,a,h=>by simp[sw]at h;have⟨x,h1,h⟩:=ah.1 h;have⟨q,h2,h⟩:=ah.1 h;simpa[AT.im]using J6 h2
 |d::ds,.eC as r::l,a,h=>by simp[sw]at h;have⟨x,h1,h⟩:=ah.1 h;have⟨q,h2,h⟩:=ah.1 h;simpa[AT.im]using J6 h2
 |_::_,.mut _::_,_,h|_::_,.ke _::_,_,h|_::_,.nil::_,_,h|[],_::_,_,h|_::_,[],_,h=>by simp[sw]at h
theorem aeb:∀{n:Nat}{ds:List (DV X)}{l:List (AT X.ι)}{a:je X l×List Bool},Sg Γ get n ds l=some a->(l.all λq=>!q.im)=true
 | 0,_,_,_,h|_+1,_,_,_,h=>J6 h
theorem UX:∀as:List (CT X.ι),((as.map AT.d).all λq=>!q.im)=true
 |[]=>rfl
 |_::l=>UX l
def aqT(P:Program)(get:Nat->Option (bo X))(pT:FuncId->List (DV X)->List (DV X)->(as:List (CT X.ι))->(r:CT X.ι)->Option ((HL X.toSE as->Option (CT.T X.toSE r))×List Bool)):Prop:=
 ∀f first caps as r φ rd,pT f first caps as r=some φ->(∀ b∈φ.2,b=true)->(∀ j∈aL first++aL caps,j∈rd)->∃hs obs,(∀ p∈obs,p)/\∀ae,pE P (dM rd (fH get)) (.fn f (bO first) (bO caps)) (hs++ae)=some (den (.eC as r φ.1:DV X),ae,obs)
theorem tZ{n:Nat}{pT:FuncId->List (DV X)->List (DV X)->(as:List (CT X.ι))->(r:CT X.ι)->Option ((HL X.toSE as->Option (CT.T X.toSE r))×List Bool)}(ut:aqT P get pT):∀{ds:List (DV X)}{l:List (AT X.ι)}{a:je X l×List Bool},sw get pT ds l=some a->(∀ b∈a.2,b=true)->(∀ j∈aL ds,j∈rd)->
 ∃hs obs,(∀ p∈obs,p)/\∀ae,mX P (dM rd (fH get)) (bO ds) (hs++ae)=some (fq n l a.1,ae,obs)
 |[],[],_,_,_,_=>⟨[],[],by simp,λae=>rfl⟩
 |d::ds,.d c::l,a,h,hc,hrd=>by simp[sw]at h;have⟨x,h1,h⟩:=ah.1 h;have⟨q,h2,h⟩:=ah.1 h;cases h;obtain⟨hs1,o1,p1,q1⟩:=Av (P:=P) (rd:=rd) h1 (λ b hb=>hc b (by simp[hb])) (λ j hj=>hrd j (by simp[aL,hj]));obtain⟨hs2,o2,p2,q2⟩:=tZ (n:=n) ut h2 (λ b hb=>hc b (by simp[hb])) (λ j hj=>hrd j (by simp[aL,hj]));refine⟨hs1++hs2,o1++o2,iH p1 p2,λae=>?_⟩;simp[bO,mX,q1,q2,fq]
 |d::ds,.ref c::l,a,h,hc,hrd=>by simp[sw]at h;rw[ah]at h;obtain⟨x,h1,h⟩:=h;rw[ah]at h;obtain⟨q,h2,h⟩:=h;cases h;obtain⟨hs1,o1,p1,q1⟩:=aea (P:=P) (rd:=rd) h1 (λ j hj=>hrd j (by simp[aL,hj]));obtain⟨hs2,o2,p2,q2⟩:=tZ (n:=n) ut h2 hc (λ j hj=>hrd j (by simp[aL,hj]));refine⟨hs1++hs2,o1++o2,iH p1 p2,λae=>?_⟩;simp[bO,mX,q1,q2,fq]
 |d::ds,.eC as r::l,a,h,hc,hrd=>by
  simp[sw]at h;rw[ah]at h;obtain⟨φ,h1,h⟩:=h;rw[ah]at h;obtain⟨q,h2,h⟩:=h;cases h;have hd:∃hs obs,(∀ p∈obs,p)/\∀ae,pE P (dM rd (fH get)) (den d) (hs++ae)=some (den (.eC as r φ.1:DV X),ae,obs):=by
   cases d
   case eC as' r' ψ=>
    simp only at h1;split at h1;rename_i e;obtain⟨rfl,rfl⟩:=e;cases h1;exact⟨[],[],by simp,λae=>rfl⟩;cases h1
   case fn f first caps=>
    obtain⟨hs,obs,g1,g2⟩:=ut f first caps as r φ rd h1 (λ b hb=>hc b (by simp[hb])) (λ j hj=>hrd j (by simp only[aL,bz,bV]at hj ⊢;exact .inl hj))
    exact⟨hs,obs,g1,λae=>by simp[den];exact g2 ae⟩
   all_goals simp at h1
  obtain⟨hs1,o1,p1,q1⟩:=hd;obtain⟨hs2,o2,p2,q2⟩:=tZ (n:=n) ut h2 (λ b hb=>hc b (by simp[hb])) (λ j hj=>hrd j (by simp[aL,hj]));refine⟨hs1++hs2,o1++o2,iH p1 p2,λae=>?_⟩;simp[bO,mX,q1,q2,fq]
 |_::_,.mut _::_,_,h,_,_|_::_,.ke _::_,_,h,_,_|_::_,.nil::_,_,h,_,_|[],_::_,_,h,_,_|_::_,[],_,h,_,_=>by simp[sw]at h
theorem ag1{n:Nat}:∀{l:List (AT X.ι)}(a:je X l),l=[]->fq n l a=[]
 |_,_,rfl=>rfl
theorem sM(hΓ:td P Γ):∀(m:Nat){n:Nat}{ds:List (DV X)}{l:List (AT X.ι)}{a:je X l×List Bool}{rd:List Nat},Sg Γ get m ds l=some a->(∀ b∈a.2,b=true)->(∀ j∈aL ds,j∈rd)->
 ∃hs obs,(∀ p∈obs,p)/\∀ae,mX P (dM rd (fH get)) (bO ds) (hs++ae)=some (fq n l a.1,ae,obs)
 | 0,n,ds,l,a,rd,h,hcs,hrd=>tZ (λ _ _ _ _ _ _ _ h=>by cases h) h hcs hrd
 |m+1,n,ds,l,a,rd,h,hcs,hrd=>by
  refine tZ (λ f first caps as r φ rd' hc hb Jn=>?_) h hcs hrd;rw[ah]at hc;obtain⟨s,h1,hc⟩:=hc;split at hc;rename_i sa r' fn _;split at hc;rename_i e;obtain⟨rfl,e2,e3⟩:=e;have⟨hf,h2,hc⟩:=ah.1 hc;have⟨hcap,h3,hc⟩:=ah.1 hc;injection hc with hc;rw[<- hc]at hb;obtain⟨g1,g2,_⟩:=hΓ f _ h1;obtain⟨hs1,o1,p1,q1⟩:=sM hΓ m h2 (n:=0) (rd:=rd') (λ b hb'=>hb b (by simp[hb'])) (λ j hj=>Jn j (by simp[hj]));obtain⟨hs2,o2,p2,q2⟩:=sM hΓ m h3 (n:=0+wS (sa.take first.length)+wS (as.map AT.d)) (rd:=rd') (λ b hb'=>hb b (by simp[hb'])) (λ j hj=>Jn j (by simp[hj]));refine⟨.eC (λ ts u=>∃h x,φ.1 h=some x/\ts=HL.oR X.toSE as h/\u=CT.tv X.toSE r' x)::(hs1++hs2),o1++(o2++[fq 0 _ hf.1=[]/\eG P f/\∀args r,(∃ h x,φ.1 h=some x/\args=HL.oR X.toSE as h/\r=CT.tv X.toSE r' x)->rK P f (fq 0 _ hf.1++args.map TV.av++fq (0+wS (sa.take first.length)+wS (as.map AT.d)) _ hcap.1) (.one (.d r))]),?_,λae=>?_⟩;intro p hp;simp only[bV,bD]at hp;rcases hp with hp|hp|hp;exact p1 p hp;exact p2 p hp;subst hp;refine⟨ag1 _ (by rw[e3];rfl),g1,?_⟩;rintro args r ⟨x,y,hxy,rfl,rfl⟩;rw[<- hc]at hxy;have hxy':fn (e2 ▸ yp _ _ hf.1 (yp _ _ (hlA as x) hcap.1))=some y:=hxy;have:=g2 _ _ hxy';have hnm:(sa.all λq=>!q.im)=true:=by rw[e2,List.all_append,List.all_append,aeb h2,aeb h3,UX];rfl
  rw[C9 hnm,wR,ag0 e2.symm,tY,tY,J5,<- aM]at this;exact Ns this;simp[pE,q1,q2];rfl;cases hc;cases hc
end
end
def Si(s:ByteArray)(n:Int):Option Int:=bif decide (0<=n)then(s[n.toNat]?).map λb=>(b.toNat:Int)else none
def xE(m:Int)(bytes:Nat):Bool:=decide (0<=m)&&decide (m.toNat*bytes<=140737488355328)&&decide (m.toNat<=maxLen)
def dL{K V:Type}(eq:K->K->Bool)(k:K):List (K×V)->Option V
 |[]=>none
 |p::r=>bif eq k p.1 then some p.2 else dL eq k r
def oI{K V:Type}(eq:K->K->Bool)(k:K)(v:V):List (K×V)->List (K×V)
 |[]=>[(k,v)]
 |p::r=>bif eq k p.1 then(k,v)::r else p::oI eq k v r
def ie(a b:Int):Bool:=a==b
def gR(a b:ByteArray):Bool:=a.toList==b.toList
def bEq(a b:Bool):Bool:=a==b
section
variable {X:SX} {A:Type}
def NA:(c:CT X.ι)->Option (CT.T X.toSE c->CT.T X.toSE c->Bool)
 |.int _=>some ie
 |.str=>some gR
 |.bool=>some bEq
 |_=>none
def GF{ι:Type}:A5->CT ι->Bool
 |.int a,.int b=>decide (a=b)
 |.str,.str=>true
 |.bool,.bool=>true
 |_,_=>false
def QP{ι:Type}:CT ι->Bool
 |.st _=>true
 |_=>false
theorem iY(a b:List (DV X)):bO (a++b)=bO a++bO b:=by simp[oG]
theorem sN(a b:List (Nat×Option (bo X))):iV (a++b)=iV a++iV b:=by simp[iV]
def NC(ab:List Nat):List (Nat×Option (bo X)):=ab.map λj=>(j,none)
theorem Da(ab:List Nat):iV (NC (X:=X) ab)=ab.map λk=>(k,none):=by simp[iV,NC]
theorem J7{ab:List Nat}{p:Nat×Option (bo X)}(h:p∈NC ab):p.1∈ab:=by simp[NC]at h;obtain⟨j,hj,rfl⟩:=h;exact hj
variable (T:eI) (al:TypeId->Option (CT X.ι))
def ag3:DV X->Bool
 |.nil=>true
 |_=>false
def Hh(op:BinOp)(b:DV X)(yes:Bool)(k:KK X A):Option A:=
 match op with
 |.eql=>bif yes then k b [] [] []else k (.c .bool false) [] [] []
 |.neq=>bif yes then k b [] [] []else k (.c .bool true) [] [] []
 |_=>none
def aqf(op:BinOp)(t:TypeId)(x:DV X)(k:KK X A):Option A:=
 (T t).bind λti=>match ti.k,x with
 |.slice _,.c (.sl _) l=>Hh op .ub (List.isEmpty l) k
 |.slice _,.own _ _ len=>Hh op .ub (len==0) k
 |.slice _,.oz _ len=>Hh op (.c .bool (op==.eql)) (len==0) k
 |.slice _,.nil=>Hh op (.c .bool (op==.eql)) true k
 |_,_=>none
def apV(s d:TypeId)(x:DV X)(k:KK X A):Option A:=
 (T s).bind λ_=>(T d).bind λdi=>match di.k,x with
 |.int kd,.c (.int _) n=>k (.c (.int kd) (kd.wrap (iN n))) [] [] []
 |_,_=>none
def amm(t:TypeId)(x j:DV X)(k:KK X A):Option A:=
 (T t).bind λti=>match ti.k,x,j with
 |.str,.c .str s,.c (.int _) n=>(Si s n).bind λb=>k (.c (.int .u8) b) [] [] []
 |.arr m e,.agg cs,.c (.int _) q=>(T e).bind λei=>bif cM q m then(Ii ei.agg ei.size ((cs.drop (q.toNat*ei.size)).take ei.size)).bind λv=>k v [] [] []else none
 |_,_,_=>none
def aaE(t:TypeId)(x:DV X)(lo hi:Option (DV X))(k:KK X A):Option A:=
 (T t).bind λti=>match ti.k,x with
 |.slice e,.nil=>(T e).bind λ_=>(A4 0 lo).bind λl=>(A4 0 hi).bind λh=>bif decide (l=0)&&decide (h=0)then k .nil [] [] []else none
 |_,_=>none
def Qm(i:Nat)(b:Builtin)(args:List (DV X))(da:List TypeId)(get:Nat->Option (bo X))(k:KK X A):Option A:=
 match b,args,da with
 |.cap,[.nil],[t]=>(T t).bind λti=>match ti.k with
  |.slice _=>k (.c (.int .i64) (0:Int)) [] [] []
  |_=>none
 |.clear,[.own kk aa _],[t]=>(T t).bind λti=>match ti.k with
  |.slice e=>(T e).bind λei=>(get kk).bind λo=>match o with
   |.eE c l=>if CT.sz X c=ei.size then k (.fj []) [(kk,some (.eE c (l.take aa)))] [kk] [kk]else none
   |_=>none
  |_=>none
 |.append,[.nil,.c (.int _) m],[t,u]=>(T t).bind λti=>(T u).bind λui=>match ti.k,ui.k with
  |.slice e,.int _=>(T e).bind λei=>(al e).bind λc=>if CT.sz X c=ei.size/\0<ei.size then(Ij c (ei.zero.map ux)).bind λz=>
   bif xE (iN m) ei.bytes then k (.own (cT i) 0 m.toNat) [(cT i,some (.eE c (List.replicate m.toNat z)))] [] []else none else none
  |_,_=>none
 |_,_,_=>none
def Qn(x:DV X)(k:KK X A):Option A:=
 match x with
 |.ptr kk r f=>k (.ptr kk r f) [] [] []
 |.rj kk n f=>k (.rj kk n f) [] [] []
 |.tG kk r f m n=>k (.tG kk r f m n) [] [] []
 |.rp c y f=>k (.rp c y f) [] [] []
 |_=>none
def amn(i:Nat)(t:TypeId)(l c:DV X)(k:KK X A):Option A:=
 (T t).bind λti=>match ti.k,l,c with
 |.slice e,.c (.int _) n,.c (.int _) m=>(T e).bind λei=>(al e).bind λc=>if CT.sz X c=ei.size/\0<ei.size then(Ij c (ei.zero.map ux)).bind λz=>
  bif decide (iN n<=iN m)&&(decide (0<=iN n)&&xE (iN m) ei.bytes)then k (.own (cT i) 0 n.toNat) [(cT i,some (.eE c (List.replicate n.toNat z)))] [] []else none else none
 |_,_,_=>none
def Wy(i:Nat)(t:TypeId)(k:KK X A):Option A:=
 (T t).bind λti=>match ti.k with
 |.map kt et=>(al kt).bind λkc=>(al et).bind λvc=>k (.mp (cT i)) [(cT i,some (.map kc vc []))] [] []
 |_=>none
def UY(t:TypeId)(x key:DV X)(ok:Bool)(get:Nat->Option (bo X))(k:KK X A):Option A:=
 (T t).bind λti=>match ti.k,x with
 |.map kt et,.mp kk=>(T kt).bind λki=>(T et).bind λei=>(get kk).bind λo=>match o with
  |.map kc vc l=>(NA kc).bind λeq=>(LY key kc).bind λkv=>if GF ki.k kc=true/\ei.agg=QP vc/\ei.size=CT.sz X vc then(Ij vc (ei.zero.map ux)).bind λz=>
   bif ok then k (.fj [.c vc ((dL eq kv l).getD z),.c .bool (dL eq kv l).isSome]) [] [kk] []else k (.c vc ((dL eq kv l).getD z)) [] [kk] []else none
  |_=>none
 |_,_=>none
def UZ(t:TypeId)(x key y:DV X)(get:Nat->Option (bo X))(k:KK X A):Option A:=
 (T t).bind λti=>match ti.k,x with
 |.map kt _,.mp kk=>(T kt).bind λki=>(get kk).bind λo=>match o with
  |.map kc vc l=>(NA kc).bind λeq=>(LY key kc).bind λkv=>(dat y vc).bind λv=>if GF ki.k kc=true then k .undef [(kk,some (.map kc vc (oI eq kv v l)))] [kk] [kk]else none
  |_=>none
 |_,_=>none
def nT:(l:List (CT X.ι))->HL X.toSE l->List Int
 |[],_=>[]
 |.int _::l,h=>h.1::nT l h.2
 |_::l,h=>nT l h.2
def Ip(i:X.ι)(a b:CT.T X.toSE (.st i)):Bool:=decide (nT (X.da i) (X.get i a)=nT (X.da i) (X.get i b))
def Ez{ι:Type}(k:IntKind):List (CT ι)->Bool
 |[]=>true
 |.int k'::l=>decide (k'=k)&&Ez k l
 |_=>false
def ND(t:TypeId)(x key:DV X)(ok:Bool)(get:Nat->Option (bo X))(k:KK X A):Option A:=
 (T t).bind λti=>match ti.k,x with
 |.map kt et,.mp kk=>(Hp T kt).bind λmk=>(T et).bind λei=>(get kk).bind λo=>match o with
  |.map (.st i) vc l=>(dat key (.st i)).bind λkv=>if (X.da i).length=mk.1/\Ez mk.2 (X.da i)=true/\ei.agg=QP vc/\ei.size=CT.sz X vc then(Ij vc (ei.zero.map ux)).bind λz=>
   bif ok then k (.fj [.c vc ((dL (Ip i) kv l).getD z),.c .bool (dL (Ip i) kv l).isSome]) [] [kk] []else k (.c vc ((dL (Ip i) kv l).getD z)) [] [kk] []else none
  |_=>none
 |_,_=>none
def NE(t:TypeId)(x key y:DV X)(get:Nat->Option (bo X))(k:KK X A):Option A:=
 (T t).bind λti=>match ti.k,x with
 |.map kt _,.mp kk=>(Hp T kt).bind λmk=>(get kk).bind λo=>match o with
  |.map (.st i) vc l=>(dat key (.st i)).bind λkv=>(dat y vc).bind λv=>if (X.da i).length=mk.1/\Ez mk.2 (X.da i)=true then k .undef [(kk,some (.map (.st i) vc (oI (Ip i) kv v l)))] [kk] [kk]else none
  |_=>none
 |_,_=>none
def Re(x:DV X)(get:Nat->Option (bo X)):Bool:=match x with
 |.mp kk=>match get kk with
  |some (.map (.st _) _ _)=>true
  |_=>false
 |_=>false
def aqU(o:Op)(ρ:Operand->DV X):Bool:=
 match o with
 |.binOp _ _ _ y _=>ag3 (ρ y)
 |.convert _ _ _=>true
 |.index _ _ _=>true
 |.nilCheck _=>true
 |.makeSlice _ _ _=>true
 |.makeMap _ none=>true
 |.lookup _ _ _ _=>true
 |.mapUpdate _ _ _ _=>true
 |.slice _ x _ _ none=>ag3 (ρ x)
 |.call { callee:=.builtin b,args:=args,argTypes:=_ }=>match b,args.toList.map ρ with
  |.cap,_=>true
  |.clear,_=>true
  |.append,[_,.c (.int _) _]=>true
  |_,_=>false
 |_=>false
def aqg(i:Nat)(o:Op)(ρ:Operand->DV X)(get:Nat->Option (bo X))(k:KK X A):Option A:=
 match o with
 |.binOp op t x y _=>if ag3 (ρ y)then aqf T op t (ρ x) k else none
 |.convert s d x=>apV T s d (ρ x) k
 |.index t x j=>amm T t (ρ x) (ρ j) k
 |.slice t x lo hi none=>aaE T t (ρ x) (lo.map ρ) (hi.map ρ) k
 |.nilCheck x=>Qn (ρ x) k
 |.makeSlice t l c=>amn T al i t (ρ l) (ρ c) k
 |.makeMap t none=>Wy T al i t k
 |.lookup t m x ok=>bif Re (ρ m) get then ND T t (ρ m) (ρ x) ok get k else UY T t (ρ m) (ρ x) ok get k
 |.mapUpdate t m x v=>bif Re (ρ m) get then NE T t (ρ m) (ρ x) (ρ v) get k else UZ T t (ρ m) (ρ x) (ρ v) get k
 |.call { callee:=.builtin b,args:=args,argTypes:=da }=>Qm T al i b (args.toList.map ρ) da.toList get k
 |_=>none
def MM(get:Nat->Option (bo X))(c:CT X.ι)(ρ:Operand->DV X)(x:Operand):DV X:=
 match F7 get (ρ x) c with
 |some y=>.c c y.1
 |none=>ρ x
def P4(get:Nat->Option (bo X))(c:CT X.ι)(ρ:Operand->DV X):List Operand->List Bool
 |[]=>[]
 |x::xs=>(match F7 get (ρ x) c with|some y=>y.2|none=>[])++P4 get c ρ xs
def AN(get:Nat->Option (bo X))(c:CT X.ι)(ρ:Operand->DV X):List Operand->List Nat
 |[]=>[]
 |x::xs=>(match F7 get (ρ x) c with|some _=>bz (ρ x)|none=>[])++AN get c ρ xs
def aoG(o:Op)(ρ:Operand->DV X)(get:Nat->Option (bo X)):Option (CT X.ι):=
 match o with
 |.box t _=>al t
 |.assign x|.move x=>match ρ x with
  |.own kk _ _=>(get kk).bind λo=>match o with
   |.eE c _=>some (.sl c)
   |_=>none
  |_=>none
 |.buildSlice t _ _=>(T t).bind λti=>match ti.k with
  |.slice e=>al e
  |_=>none
 |.store t _ _=>al t
 |_=>none
def aqV(o:Op)(ρ:Operand->DV X):Bool:=
 match o with
 |.buildSlice _ _ parts=>!(aL (parts.toList.map λp=>ρ p.2)).isEmpty
 |.store _ a x=>match ρ a with
  |.rj _ _ _=>!(bz (ρ x)).isEmpty
  |_=>false
 |_=>false
def aqh(i:Nat)(o:Op)(ρ:Operand->DV X)(get:Nat->Option (bo X))(k:KK X A):Option A:=
 if agF o then none else(aoG T al o ρ get).bind λc=>Wi (P4 get c ρ o.operands.toList)
  (ON T al i o (MM get c ρ) (λ j=>if j∈AN get c ρ o.operands.toList then none else get j) λdv upd rd wr=>
   k dv (upd++NC (AN get c ρ o.operands.toList)) (rd++AN get c ρ o.operands.toList) (wr++AN get c ρ o.operands.toList))
def aqW(o:Op)(ρ:Operand->DV X):Bool:=
 match o with
 |.indexAddr t x (.tmp _)=>match ρ x,T t with
  |.ptr _ _ _,some ti|.rp _ _ _,some ti=>match ti.k with
   |.arr _ e=>match T e with
    |some ei=>ei.size==1
    |none=>false
   |_=>false
  |_,_=>false
 |.load _ a=>match ρ a with
  |.tG _ _ _ _ _|.xl _ _ _ _ _=>true
  |_=>false
 |_=>false
def GE(c:CT X.ι):List (DV X)->Option (List (CT.T X.toSE c))
 |[]=>some []
 |.c a x::r=>(lD a c x).bind λy=>(GE c r).bind λl=>some (y::l)
 |_=>none
def aqi(o:Op)(ρ:Operand->DV X)(get:Nat->Option (bo X))(k:KK X A):Option A:=
 match o with
 |.indexAddr t x j=>(T t).bind λti=>match ti.k,ρ x,ρ j with
  |.arr m e,.ptr kk row aa,.c (.int _) n=>(T e).bind λei=>if ei.size=1 then bif cM n m then k (.tG kk row aa m n) [] [] []else none else none
  |.arr m e,.rp c y aa,.c (.int _) n=>(T e).bind λei=>if ei.size=1 then bif cM n m then k (.xl c y aa m n) [] [] []else none else none
  |_,_,_=>none
 |.load t a=>(T t).bind λti=>match ρ a with
  |.tG kk row aa m n=>if ti.size=1/\ti.agg=false then(al t).bind λc=>if c.one=true then(get kk).bind λo=>match o with
   |.cells _ rows=>(rows[row]?).bind λq=>(GE c ((q.drop aa).take m)).bind λ(xs:List (CT.T X.toSE c))=>(bj xs n).bind λy=>k (.c c y) [] [kk] []
   |.eE _ _=>none
   |_=>none
   else none else none
  |.xl b y aa m n=>if ti.size=1/\ti.agg=false then(al t).bind λc=>if c.one=true then(GE c (((vF b y).drop aa).take m)).bind λ(xs:List (CT.T X.toSE c))=>(bj xs n).bind λy=>k (.c c y) [] [] []
   else none else none
  |_=>none
 |_=>none
variable {T al}
def ez(P:Program)(T:eI)(i:Nat)(o:Oper)(ρ:Operand->DV X)(get:Nat->Option (bo X))(k:KK X A)(r:A):Prop:=
 ∃cJ rd wr dv upd out,jX P T i o cJ (λ x=>den (ρ x)) (dM rd (fH get))=some out/\jO out.obs/\out.v=den dv/\out.upd=iV upd/\(∀ p∈upd,p.1=cT i\/p.1∈wr)/\k dv upd rd wr=some r
section
variable {P:Program} {get:Nat->Option (bo X)} {k:KK X A} {r:A} {i:Nat} {o:Oper} {ρ:Operand->DV X}
theorem amq{t:TypeId}{x:AV}{cJ:kx}(h:(∃ n,cJ=.ext n)\/∃ab fr q,cJ=.yi ab fr q):A3 T t x .none=A3 T t x cJ:=by grind [A3]
theorem Wz{t:TypeId}{x j:AV}{cJ:kx}{get:Nat->Option aP}(h:(∃ n,cJ=.ext n)\/∃ab fr q,cJ=.yi ab fr q):mG T t x j .none get=mG T t x j cJ get:=by
 unfold mG;rcases T t with _|ti;rfl;simp;generalize ti.k=kk;cases kk<;>try rfl
 case arr m e=>
  cases j<;>try rfl
  rename_i y;cases y<;>try rfl
  rename_i y;cases y<;>rfl
 cases j<;>try rfl
 rename_i e y;cases y<;>try rfl
 rename_i y;cases y<;>try rfl
 simp;rcases T e with _|ei;rfl;rcases h with ⟨n,rfl⟩|⟨ab,fr,q,rfl⟩<;>cases x<;>try rfl
 all_goals (rename_i z;cases z<;>rfl)
theorem aed{t:TypeId}{x y:AV}{cJ:kx}{get:Nat->Option aP}(h:(∃ n,cJ=.ext n)\/∃ab fr q,cJ=.yi ab fr q):Al T i t x y .none get=Al T i t x y cJ get:=by grind [Al]
theorem akx{cJ:kx}{ρ:Operand->AV}{get:Nat->Option aP}(h:(∃ n,cJ=.ext n)\/∃ab fr q,cJ=.yi ab fr q):qG T i o .none ρ get=qG T i o cJ ρ get:=by
 obtain⟨dst,op,ty,an,after,guard⟩:=o;cases op
 case call c=>
  obtain⟨callee,args,da⟩:=c;cases callee<;>try rfl
  simp[qG,CU];split;exact amq h;rfl;rfl;rw[aed h];rfl
 case slice t x lo hi mx=>cases mx<;>rcases h with ⟨n,rfl⟩|⟨ab,fr,q,rfl⟩<;>rfl
 case makeFunc fn a b=>cases fn<;>rfl
 case indexAddr t x j=>exact Wz h
 all_goals (rcases h with ⟨n,rfl⟩|⟨ab,fr,q,rfl⟩<;>rfl)
theorem ez.ext{n:Int}{rd wr:List Nat}{dv:DV X}{upd:List (Nat×Option (bo X))}{out:Out}(h:tO T i o n (λ x=>den (ρ x)) (dM rd (fH get))=some out)(h1:jO out.obs)(h2:out.v=den dv)(h3:out.upd=iV upd)(h4:∀p∈upd,p.1=cT i\/p.1∈wr)(h5:k dv upd rd wr=some r)(hx:M3 o.op=false:=by rfl):ez P T i o ρ get k r:=
 ⟨.ext n,rd,wr,dv,upd,out,by show tQ T i o n _ _=some out;unfold tQ;rw[hx];simp[h],h1,h2,h3,h4,h5⟩
theorem ez.ws{n:Int}{rd wr:List Nat}{dv:DV X}{upd:List (Nat×Option (bo X))}{out:Out}(h:Eo T i o n (λ x=>den (ρ x)) (dM rd (fH get))=some out)(h1:jO out.obs)(h2:out.v=den dv)(h3:out.upd=iV upd)(h4:∀p∈upd,p.1=cT i\/p.1∈wr)(h5:k dv upd rd wr=some r)(hx:M3 o.op=true:=by rfl):ez P T i o ρ get k r:=
 ⟨.ext n,rd,wr,dv,upd,out,by show tQ T i o n _ _=some out;unfold tQ;rw[hx];simp[h],h1,h2,h3,h4,h5⟩
theorem Tw{x:DV X}(h:Qn x k=some r):∃dv,Qa (den x)=some ⟨den dv,[],[]⟩/\k dv [] [] []=some r:=by cases x<;>simp[Qn]at h<;>first|cases h|exact⟨_,rfl,h⟩
theorem aaF{cJ:kx}{ρ:Operand->AV}{get:Nat->Option aP}(hne:∀f args da,o.op≠.call { callee:=.value f,args:=args,argTypes:=da })(ho:∀n,cJ≠.ext n)(hf:∀ab fr q,cJ≠.yi ab fr q):jX P T i o cJ ρ get=qG T i o cJ ρ get:=by
 have e:∀(α:Type) (a:Operand->Array Operand->Array TypeId->α) (b:α),(match o.op with|.call { callee:=.value f,args:=args,argTypes:=da }=>a f args da|_=>b)=b:=by grind
 cases cJ<;>first|exact(ho _ rfl).elim|exact(hf _ _ _ rfl).elim|exact e _ _ _
theorem ez.op{cJ:kx}{rd wr:List Nat}{dv:DV X}{upd:List (Nat×Option (bo X))}{out:Out}(hne:∀f args da,o.op≠.call { callee:=.value f,args:=args,argTypes:=da })
 (h:qG T i o cJ (λ x=>den (ρ x)) (dM rd (fH get))=some out) (h1:jO out.obs/\out.v=den dv/\out.upd=iV upd/\(∀ p∈upd,p.1=cT i\/p.1∈wr)/\k dv upd rd wr=some r):ez P T i o ρ get k r:=by
 obtain⟨vx,h'⟩:∃vx,jX P T i o vx (λ x=>den (ρ x)) (dM rd (fH get))=some out:=by by_cases hx:(∃ n,cJ=.ext n)\/∃ab fr q,cJ=.yi ab fr q;refine⟨.none,?_⟩;rw[aaF hne (by simp) (by simp),akx hx,h];simp at hx;exact⟨cJ,by rw[aaF hne hx.1 (λ ab fr q=>hx.2 ab fr q),h]⟩
 exact⟨vx,rd,wr,dv,upd,out,h',h1⟩
theorem ez.call{dst:Option Tmp}{f:Operand}{args:Array Operand}{da:Array TypeId}{ty:TypeId}{an:String}{after:Array Edge}{guard:Option (Nat×Bool)}{cJ:kx}{rd wr:List Nat}{dv:DV X}{upd:List (Nat×Option (bo X))}{out:Out}
 (h:lM P i (den (ρ f)) (args.toList.map λx=>den (ρ x)) cJ (dM rd (fH get))=some out) (h1:jO out.obs/\out.v=den dv/\out.upd=iV upd/\(∀ p∈upd,p.1=cT i\/p.1∈wr)/\k dv upd rd wr=some r):
 ez P T i ⟨dst,.call { callee:=.value f,args:=args,argTypes:=da },ty,an,after,guard⟩ ρ get k r:=by
 refine⟨cJ,rd,wr,dv,upd,out,?_,h1⟩;unfold jX
 all_goals grind [lM,qY,Ao]
theorem J8{op:BinOp}{b:DV X}{yes:Bool}(h:Hh op b yes k=some r):∃dv out,GC op (den b) yes=some out/\jO out.obs/\out.v=den dv/\out.upd=[]/\k dv [] [] []=some r:=by
 unfold Hh at h;split at h;cases yes with
 |true=>exact⟨b,_,rfl,trivial,rfl,rfl,h⟩
 |false=>exact⟨.c .bool false,_,rfl,trivial,rfl,rfl,h⟩
 cases yes with
 |true=>exact⟨b,_,rfl,trivial,rfl,rfl,h⟩
 |false=>exact⟨.c .bool true,_,rfl,trivial,rfl,rfl,h⟩
 cases h
theorem ag5{op:BinOp}{t:TypeId}{x:DV X}(h:aqf T op t x k=some r):∃dv out,A1 T op t (den x) .de=some out/\jO out.obs/\out.v=den dv/\out.upd=[]/\k dv [] [] []=some r:=by unfold aqf at h;rw[ah]at h;obtain⟨ti,h1,h⟩:=h;split at h;rename_i e c l hk;have⟨dv,out,g1,g2⟩:=J8 h;refine⟨dv,out,?_,g2⟩;simp[A1,h1,hk];rw[<- g1];cases l<;>rfl;rename_i e kk aa len hk;have⟨dv,out,g1,g2⟩:=J8 h;exact⟨dv,out,by simp[A1,h1,hk];exact g1,g2⟩;rename_i e kk len hk;have⟨dv,out,g1,g2⟩:=J8 h;exact⟨dv,out,by simp[A1,h1,hk];exact g1,g2⟩;rename_i e hk;have⟨dv,out,g1,g2⟩:=J8 h;exact⟨dv,out,by simp[A1,h1,hk];exact g1,g2⟩;cases h
theorem ag6{s:ByteArray}{n b:Int}(h:Si s n=some b):0<=n/\∃c,s[n.toNat]? =some c/\b=c.toNat:=by
 unfold Si at h
 all_goals grind
theorem aaG{m:Int}{bytes:Nat}(h:xE m bytes=true):0<=m/\m.toNat*bytes<=140737488355328/\m.toNat<=maxLen:=by simpa[xE,and_assoc]using h
theorem Tx{b:Builtin}{args:List (DV X)}{da:List TypeId}(h:Qm T al i b args da get k=some r):
 ∃rd wr dv upd out,vC T i b (bO args) da (dM rd (fH get))=some out/\jO out.obs/\out.v=den dv/\out.upd=iV upd/\(∀ p∈upd,p.1=cT i\/p.1∈wr)/\k dv upd rd wr=some r:=by unfold Qm at h;split at h;rw[ah]at h;obtain⟨ti,h1,h⟩:=h;split at h;rename_i e hk;refine⟨[],[],_,[],⟨.t (.sc (.int .i64 0)),[],[]⟩,?_,trivial,rfl,rfl,by simp,h⟩;simp[vC,bO,den,h1,hk];rfl;cases h;rename_i kk aa len t;rw[ah]at h;obtain⟨ti,h1,h⟩:=h;split at h;rename_i e hk;rw[ah]at h;obtain⟨ei,h2,h⟩:=h;rw[ah]at h;obtain⟨o,h3,h⟩:=h;split at h;rename_i c l;split at h;rename_i hs;refine⟨[kk],[kk],_,_,⟨.fj [],[(kk,some ⟨CT.sz X c,(aI (l.map (CT.row X.toSE c))).take aa⟩)],[]⟩,?_,trivial,rfl,?_,by simp,h⟩;simp only[vC,bO,den,h1,ai,hk,h2,eU (List.mem_singleton_self kk) h3,bI];rw[aX hs];simp[iV,bI,aI];cases h;cases h;cases h;rename_i kd m t u;rw[ah]at h;obtain⟨ti,h1,h⟩:=h;rw[ah]at h;obtain⟨ui,h2,h⟩:=h;split at h;rename_i e kn hk hk';rw[ah]at h;obtain⟨ei,h3,h⟩:=h;rw[ah]at h;obtain⟨c,h4,h⟩:=h;split at h;rename_i hs;have⟨z,h5,h⟩:=ah.1 h;have⟨h6,h⟩:=eD h;have⟨m1,m2,m3⟩:=aaG h6;have hz:=yP h5;rw[CY]at hz;refine⟨[],[],_,_,⟨.own (cT i) 0 m.toNat,[(cT i,some ⟨ei.size,dZ (List.replicate m.toNat (ei.zero.map cv))⟩)],[0<=m/\m.toNat*ei.bytes<=140737488355328/\m.toNat<=maxLen/\0<ei.size]⟩,?_,?_,rfl,?_,by simp,h⟩;simp[vC,bO,den,CT.tv,TV.av,h1,h2,h3,hk,hk'];exact⟨m1,m2,m3,hs.2⟩;simp only[iV,bE,map_nil,Option.map_some,bI,hs.1,aI,dZ,List.map_replicate];rw[hz];cases h;cases h;cases h
theorem aee{t:TypeId}{l c:DV X}(h:amn T al i t l c k=some r):∃dv upd out,N2 T i t (den l) (den c)=some out/\jO out.obs/\out.v=den dv/\out.upd=iV upd/\(∀ p∈upd,p.1=cT i)/\k dv upd [] []=some r:=by unfold amn at h;rw[ah]at h;obtain⟨ti,h1,h⟩:=h;split at h;rename_i e kl n kc m hk;rw[ah]at h;obtain⟨ei,h3,h⟩:=h;rw[ah]at h;obtain⟨c,h4,h⟩:=h;split at h;rename_i hs;rw[ah]at h;obtain⟨z,h5,h⟩:=h;have⟨h6,h⟩:=eD h;simp at h6;obtain⟨h7,h8,h9⟩:=h6;have⟨m1,m2,m3⟩:=aaG h9;have hz:=yP h5;rw[CY]at hz;refine⟨_,_,⟨.own (cT i) 0 n.toNat,[(cT i,some ⟨ei.size,dZ (List.replicate n.toNat (ei.zero.map cv))⟩)],[0<=n/\n<=m/\m.toNat*ei.bytes<=140737488355328/\m.toNat<=maxLen/\0<ei.size]⟩,?_,?_,rfl,?_,by simp,h⟩;simp[N2,den,CT.tv,TV.av,h1,h3,hk];exact⟨h8,h7,m2,m3,hs.2⟩;simp only[iV,bE,map_nil,Option.map_some,bI,hs.1,aI,dZ,List.map_replicate];rw[hz];cases h;cases h
theorem WA{t:TypeId}(h:Wy T al i t k=some r):∃dv upd out,Ib T i t=some out/\jO out.obs/\out.v=den dv/\out.upd=iV upd/\(∀ p∈upd,p.1=cT i)/\k dv upd [] []=some r:=by unfold Wy at h;rw[ah]at h;obtain⟨ti,h1,h⟩:=h;split at h;rename_i kt et hk;have⟨kc,h2,h⟩:=ah.1 h;have⟨vc,h3,h⟩:=ah.1 h;exact⟨_,_,⟨.mp (cT i),[(cT i,some ⟨0,[]⟩)],[]⟩,by simp[Ib,h1,hk],trivial,rfl,rfl,by simp,h⟩;cases h
theorem amr{ki:ox}{kc:CT X.ι}(h:GF ki.k kc=true)(x:CT.T X.toSE kc):∃v,(CT.tv X.toSE kc x).av=.t (.sc v)/\Nb ki.k v=true:=by
 cases kc
 case int b=>
  refine⟨.int b x,rfl,?_⟩;cases hk:ki.k<;>rw[hk]at h<;>simp[GF]at h;subst h;simp[Nb]
 case str=>
  refine⟨.string x,rfl,?_⟩;cases hk:ki.k<;>rw[hk]at h<;>simp[GF]at h;rfl
 case bool=>
  refine⟨.bool x,rfl,?_⟩;cases hk:ki.k<;>rw[hk]at h<;>simp[GF]at h;rfl
 all_goals (cases hk:ki.k<;>rw[hk]at h<;>simp[GF]at h)
theorem aef{kc:CT X.ι}{eq:CT.T X.toSE kc->CT.T X.toSE kc->Bool}(h:NA kc=some eq){a b:CT.T X.toSE kc}{va:Value}(ha:(CT.tv X.toSE kc a).av=.t (.sc va)):∃vb,(CT.tv X.toSE kc b).av=.t (.sc vb)/\RS va vb=some (eq a b):=by
 cases kc
 case int q=>
  simp[NA]at h;subst h;simp[CT.tv,TV.av]at ha;subst ha;exact⟨_,rfl,by simp[RS,ie]⟩
 case str=>
  simp[NA]at h;subst h;simp[CT.tv,TV.av]at ha;subst ha;exact⟨_,rfl,by simp[RS,gR]⟩
 case bool=>
  simp[NA]at h;subst h;simp[CT.tv,TV.av]at ha;subst ha;exact⟨_,rfl,by simp[RS,bEq]⟩
 all_goals simp[NA]at h
theorem aaH{kc vc:CT X.ι}{eq:CT.T X.toSE kc->CT.T X.toSE kc->Bool}(h:NA kc=some eq){a:CT.T X.toSE kc}{va:Value}(ha:(CT.tv X.toSE kc a).av=.t (.sc va)):∀l:List (CT.T X.toSE kc×CT.T X.toSE vc),
 ∃r,RU va (bI (.map kc vc l:bo X)).rows=some r/\r.map (·.2)=(dL eq a l).map λv=>(CT.tv X.toSE vc v).av
 |[]=>⟨none,rfl,rfl⟩
 |p::l=>by
  have⟨vb,h1,h2⟩:=aef h (b:=p.1) ha;have⟨r,g1,g2⟩:=aaH h ha l;have g1':RU va (l.map λp=>[(CT.tv X.toSE kc p.1).av,(CT.tv X.toSE vc p.2).av])=some r:=g1;simp[bI,h1,RU,h2,dL];cases eq a p.1 with
  |true=>exact⟨_,rfl,rfl⟩
  |false=>
   simp only[Bool.false_eq_true,if_false,g1',Option.map_some,au];exact⟨_,rfl,by rw[<- g2,Option.map_map];rfl⟩
theorem aeg{kc vc:CT X.ι}{eq:CT.T X.toSE kc->CT.T X.toSE kc->Bool}(h:NA kc=some eq){a:CT.T X.toSE kc}{va:Value}(ha:(CT.tv X.toSE kc a).av=.t (.sc va))(y:CT.T X.toSE vc):∀l:List (CT.T X.toSE kc×CT.T X.toSE vc),
 y4 va (CT.tv X.toSE vc y).av (bI (.map kc vc l:bo X)).rows=some (bI (.map kc vc (oI eq a y l):bo X)).rows
 |[]=>by simp[bI,y4,oI,ha]
 |p::l=>by
  have⟨vb,h1,h2⟩:=aef h (b:=p.1) ha;have g:=aeg h ha y l;have g':y4 va (CT.tv X.toSE vc y).av (l.map λp=>[(CT.tv X.toSE kc p.1).av,(CT.tv X.toSE vc p.2).av])=some ((oI eq a y l).map λp=>[(CT.tv X.toSE kc p.1).av,(CT.tv X.toSE vc p.2).av]):=g;simp[bI,h1,y4,oI]
  grind
theorem zero_den{vc:CT X.ι}{ei:ox}{z:CT.T X.toSE vc}(h:Ij vc (ei.zero.map ux)=some z)(ha:ei.agg=QP vc)(hs:ei.size=CT.sz X vc):part' ei.agg ei.size ((ei.zero.map cv).map wk)=some (CT.tv X.toSE vc z).av:=by
 have hz:=yP h;rw[CY]at hz;rw[hz,ha,hs];have hl:((CT.row X.toSE vc z).map AV.t).length=CT.sz X vc:=by rw[length_map,Et]
 unfold part';rw[aX hl];cases vc<;>rfl
theorem ab9{d:DV X}{c:CT X.ι}{x:CT.T X.toSE c}(h:dat d c=some x):zj (den d)=(CT.tv X.toSE c x).av:=by
 cases c
 case st j=>
  replace h:F1 d j=some x:=h
  cases d
  case agg cs=>
   simp[F1]at h;rw[ah]at h;obtain⟨g,h1,h⟩:=h;cases h;simp[den,zj,(y8 h1 (X.flat j)).1];rw[<- Wo];rfl
  case c a y=>
   rw[(o6 h).1];simp only[den,CT.tv,TV.av,zj,map_map];congr 1
  all_goals cases h
 all_goals
  (have h':=h
   have hd:=wN h';cases d
   case c a y=>
    obtain⟨e,_⟩:=sj (show lD a _ y=some x from h);subst e;exact hd
   all_goals first|exact hd|(cases h))
theorem Zm{t:TypeId}{x key:DV X}{ok:Bool}(h:UY T t x key ok get k=some r):∃rd dv out,qZ T t (den x) (den key) ok (dM rd (fH get))=some out/\jO out.obs/\out.v=den dv/\out.upd=[]/\k dv [] rd []=some r:=by
 unfold UY at h;rw[ah]at h;obtain⟨ti,h1,h⟩:=h;split at h;rename_i kt et kk hk;rw[ah]at h;obtain⟨ki,h2,h⟩:=h;rw[ah]at h;obtain⟨ei,h3,h⟩:=h;rw[ah]at h;obtain⟨o,h4,h⟩:=h;split at h;rename_i kc vc l;rw[ah]at h;obtain⟨eq,h5,h⟩:=h;rw[ah]at h;obtain⟨kv,h6,h⟩:=h;split at h;rename_i hc;have⟨z,h7,h⟩:=ah.1 h;have⟨va,g1,g2⟩:=amr hc.1 kv;have⟨q,g3,g4⟩:=aaH (vc:=vc) h5 g1 l;have hkey:den key=.t (.sc va):=by have:=wN h6;rw[g1]at this;cases hd:den key<;>rw[hd]at this<;>simp[wk]at this;subst this;rfl
 have hv:∀q:Option (Nat×AV),q.map (·.2)=(dL eq kv l).map (λ v=>(CT.tv X.toSE vc v).av)->wA q (part' ei.agg ei.size ((ei.zero.map cv).map wk))=some (CT.tv X.toSE vc ((dL eq kv l).getD z)).av:=by intro q g;rcases hm:dL eq kv l with _|v;rw[hm]at g;rcases q with _|p;exact zero_den h7 hc.2.1 hc.2.2;simp at g;rw[hm]at g;rcases q with _|p;simp at g;simp at g;simp[wA,g]
 have hi:q.isSome=(dL eq kv l).isSome:=by have:=congrArg Option.isSome g4;simpa using this
 have hb:qZ T t (den (.mp kk:DV X)) (den key) ok (dM [kk] (fH get))=pv (if ok then .fj [den (.c vc ((dL eq kv l).getD z):DV X),.t (.sc (.bool q.isSome))]else den (.c vc ((dL eq kv l).getD z):DV X)):=by simp only[qZ,UQ,h1,ai,hk,den,hkey,h2,h3,eU (List.mem_singleton_self kk) h4];rw[aX ⟨g2,by simp[bI]⟩,g3,ai,hv q g4,ai]
 cases ok with
 |true=>exact⟨[kk],_,_,hb,trivial,by simp[hi];rfl,rfl,h⟩
 |false=>exact⟨[kk],_,_,hb,trivial,rfl,rfl,h⟩
 cases h;cases h;cases h
theorem Zn{t:TypeId}{x key y:DV X}(h:UZ T t x key y get k=some r):∃rd wr dv upd out,wM T t (den x) (den key) (den y) (dM rd (fH get))=some out/\jO out.obs/\out.v=den dv/\out.upd=iV upd/\(∀ p∈upd,p.1∈wr)/\k dv upd rd wr=some r:=by
 unfold UZ at h;rw[ah]at h;obtain⟨ti,h1,h⟩:=h;split at h;rename_i kt et kk hk;rw[ah]at h;obtain⟨ki,h2,h⟩:=h;rw[ah]at h;obtain⟨o,h4,h⟩:=h;split at h;rename_i kc vc l;rw[ah]at h;obtain⟨eq,h5,h⟩:=h;rw[ah]at h;obtain⟨kv,h6,h⟩:=h;rw[ah]at h;obtain⟨v,h7,h⟩:=h;split at h;rename_i hc;have⟨va,g1,g2⟩:=amr hc kv;have g3:=aeg (vc:=vc) h5 g1 v l;have hkey:den key=.t (.sc va):=by have:=wN h6;rw[g1]at this;cases hd:den key<;>rw[hd]at this<;>simp[wk]at this;subst this;rfl
 refine⟨[kk],[kk],_,_,⟨.undef,[(kk,some ⟨(bI (.map kc vc (oI eq kv v l):bo X)).rows.length,(bI (.map kc vc (oI eq kv v l):bo X)).rows⟩)],[]⟩,?_,trivial,rfl,?_,by simp,h⟩;simp only[wM,UR,h1,ai,hk,den,hkey,h2,eU (List.mem_singleton_self kk) h4];rw[aX ⟨g2,by simp[bI]⟩,ab9 h7,g3];rfl;simp[iV,bI];cases h;cases h;cases h
theorem aeh{k:IntKind}:∀{l:List (CT X.ι)}(h:HL X.toSE l),Ez k l=true->qH k ((HL.row X.toSE l h).map AV.t)=some (nT l h)/\(nT l h).length=l.length
 |[],_,_=>⟨rfl,rfl⟩
 |.int k'::l,h,hi=>by simp[Ez]at hi;obtain⟨rfl,hi⟩:=hi;have⟨g1,g2⟩:=aeh (l:=l) h.2 hi;exact⟨by simp[HL.row,CT.row,qH,g1,nT],by simp[nT,g2]⟩
theorem ajh{k:IntKind}:∀{cs:List AV}{c:List Int},qH k cs=some c->Li k c=.agg cs
 |[],c,h=>by simp[qH]at h;subst h;rfl
 |x::cs,c,h=>by unfold qH at h;split at h;rename_i heq;cases heq;rename_i k' n r heq;injection heq with e1 e2;subst e1;subst e2;split at h;rename_i hk;subst hk;rw[lK]at h;obtain⟨c',h1,rfl⟩:=h;have:=ajh h1;simp only[Li,AV.agg.injEq]at this ⊢;rw[bE,this];cases h;cases h
theorem sO{k:IntKind}{i:X.ι}(hi:Ez k (X.da i)=true)(x:CT.T X.toSE (.st i)):qH k ((X.row i x).map AV.t)=some (nT (X.da i) (X.get i x))/\(nT (X.da i) (X.get i x)).length=(X.da i).length:=by have:=aeh (X.get i x) hi;rw[<- X.mL]at this;exact this
theorem aei{k:IntKind}:∀{cs:List AV}{c:List Int},qH k (cs.map wk)=some c->qH k cs=some c
 |[],c,h=>h
 |x::cs,c,h=>by
  cases x
  case t y=>
   cases y
   case sc v=>
    cases v
    case int k' n=>
     simp only[bE,wk,qH]at h ⊢;split at h;rename_i hk;rw[aX hk];rw[lK]at h ⊢;obtain⟨c',h1,rfl⟩:=h;exact⟨c',aei h1,rfl⟩;cases h
    all_goals (simp [wk,qH]at h)
   all_goals (simp [wk,qH]at h)
  all_goals (simp [wk,qH]at h)
theorem ams{key:DV X}{i:X.ι}{kv:CT.T X.toSE (.st i)}{k:IntKind}(h:dat key (.st i)=some kv)(hi:Ez k (X.da i)=true):∃cs,den key=.agg cs/\qH k cs=some (nT (X.da i) (X.get i kv)):=by have h1:=ab9 h;cases hd:den key<;>rw[hd]at h1<;>simp[zj,wk,CT.tv,TV.av]at h1;rename_i cs;exact⟨cs,rfl,aei (h1 ▸ (sO hi kv).1)⟩
theorem WB{vc:CT X.ι}{i:X.ι}{k:IntKind}(hi:Ez k (X.da i)=true)(a:CT.T X.toSE (.st i)):∀l:List (CT.T X.toSE (.st i)×CT.T X.toSE vc),
 ∃r,Em k (nT (X.da i) (X.get i a)) (bI (.map (.st i) vc l:bo X)).rows=some r/\r.map (·.2)=(dL (Ip i) a l).map λv=>(CT.tv X.toSE vc v).av
 |[]=>⟨none,rfl,rfl⟩
 |p::l=>by have⟨h1,h2⟩:=sO hi p.1;have h3:=(sO hi a).2;have⟨r,g1,g2⟩:=WB hi a l;have g1':=g1;have e:(CT.tv X.toSE (.st i) p.1).av=.agg ((X.row i p.1).map AV.t):=rfl;simp only[bI,bE,e,Em,h1,ai,dL,Ip];rw[aX (by rw[h2,h3])];by_cases hc:nT (X.da i) (X.get i a)=nT (X.da i) (X.get i p.1);rw[aX hc,decide_eq_true hc];exact⟨_,rfl,rfl⟩;rw[aU hc,decide_eq_false hc];refine⟨r.map λp=>(p.1+1,p.2),?_,?_⟩;exact congrArg (Option.map λr:Option (Nat×AV)=>r.map λp=>(p.1+1,p.2)) g1';rw[au,<- g2,Option.map_map];rfl
theorem aky{vc:CT X.ι}{i:X.ι}{k:IntKind}(hi:Ez k (X.da i)=true)(a:CT.T X.toSE (.st i))(y:CT.T X.toSE vc):∀l:List (CT.T X.toSE (.st i)×CT.T X.toSE vc),
 Nf k (nT (X.da i) (X.get i a)) (CT.tv X.toSE vc y).av (bI (.map (.st i) vc l:bo X)).rows=some (bI (.map (.st i) vc (oI (Ip i) a y l):bo X)).rows:=by
 have hA:Li k (nT (X.da i) (X.get i a))=(CT.tv X.toSE (.st i) a).av:=ajh (sO hi a).1;intro l
 induction l with
 |nil=>simp[bI,Nf,oI,hA]
 |cons p l ih=>
  have⟨h1,h2⟩:=sO hi p.1;have h3:=(sO hi a).2;have e:(CT.tv X.toSE (.st i) p.1).av=.agg ((X.row i p.1).map AV.t):=rfl;have ih':Nf k (nT (X.da i) (X.get i a)) (CT.tv X.toSE vc y).av (l.map λp=>[(CT.tv X.toSE (.st i) p.1).av,(CT.tv X.toSE vc p.2).av])=some ((oI (Ip i) a y l).map λp=>[(CT.tv X.toSE (.st i) p.1).av,(CT.tv X.toSE vc p.2).av]):=ih;simp only[bI,bE,e,Nf,h1,ai,oI];rw[aX (by rw[h2,h3])];by_cases hc:nT (X.da i) (X.get i a)=nT (X.da i) (X.get i p.1);rw[aX hc,show Ip i a p.1=true from decide_eq_true hc,hA];rfl;rw[aU hc,show Ip i a p.1=false from decide_eq_false hc,ih'];rfl
theorem aoH{vc:CT X.ι}{ei:ox}{z:CT.T X.toSE vc}(h7:Ij vc (ei.zero.map ux)=some z)(hc1:ei.agg=QP vc)(hc2:ei.size=CT.sz X vc){q:Option (Nat×AV)}{m:Option (CT.T X.toSE vc)}(g:q.map (·.2)=m.map λv=>(CT.tv X.toSE vc v).av):
 wA q (part' ei.agg ei.size ((ei.zero.map cv).map wk))=some (CT.tv X.toSE vc (m.getD z)).av:=by rcases m with _|v;rcases q with _|p;exact zero_den h7 hc1 hc2;simp at g;rcases q with _|p;simp at g;simp at g;simp[wA,g]
theorem WC{t:TypeId}{x key:DV X}{ok:Bool}(h:ND T t x key ok get k=some r):∃rd dv out,qZ T t (den x) (den key) ok (dM rd (fH get))=some out/\jO out.obs/\out.v=den dv/\out.upd=[]/\k dv [] rd []=some r:=by
 unfold ND at h;rw[ah]at h;obtain⟨ti,h1,h⟩:=h;split at h;rename_i kt et kk hk;rw[ah]at h;obtain⟨mk,h2,h⟩:=h;rw[ah]at h;obtain⟨ei,h3,h⟩:=h;rw[ah]at h;obtain⟨o,h4,h⟩:=h;split at h;rename_i i vc l;rw[ah]at h;obtain⟨kv,h6,h⟩:=h;split at h;rename_i hc;have⟨z,h7,h⟩:=ah.1 h;have⟨cs,g1,g2⟩:=ams h6 hc.2.1;have⟨q,g3,g4⟩:=WB (vc:=vc) hc.2.1 kv l;have hi:q.isSome=(dL (Ip i) kv l).isSome:=by have:=congrArg Option.isSome g4;simpa using this
 have hb:qZ T t (den (.mp kk:DV X)) (den key) ok (dM [kk] (fH get))=pv (if ok then .fj [den (.c vc ((dL (Ip i) kv l).getD z):DV X),.t (.sc (.bool q.isSome))]else den (.c vc ((dL (Ip i) kv l).getD z):DV X)):=by simp only[g1,qZ,Ng,h1,ai,hk,den,h2,h3,eU (List.mem_singleton_self kk) h4,g2];rw[aX ⟨(sO hc.2.1 kv).2.trans hc.1,by simp[bI]⟩,g3,ai,aoH h7 hc.2.2.1 hc.2.2.2 g4,ai]
 cases ok with
 |true=>exact⟨[kk],_,_,hb,trivial,by simp[hi];rfl,rfl,h⟩
 |false=>exact⟨[kk],_,_,hb,trivial,rfl,rfl,h⟩
 cases h;cases h;cases h
theorem WE{t:TypeId}{x key y:DV X}(h:NE T t x key y get k=some r):∃rd wr dv upd out,wM T t (den x) (den key) (den y) (dM rd (fH get))=some out/\jO out.obs/\out.v=den dv/\out.upd=iV upd/\(∀ p∈upd,p.1∈wr)/\k dv upd rd wr=some r:=by unfold NE at h;rw[ah]at h;obtain⟨ti,h1,h⟩:=h;split at h;rename_i kt et kk hk;rw[ah]at h;obtain⟨mk,h2,h⟩:=h;rw[ah]at h;obtain⟨o,h4,h⟩:=h;split at h;rename_i i vc l;rw[ah]at h;obtain⟨kv,h6,h⟩:=h;rw[ah]at h;obtain⟨v,h7,h⟩:=h;split at h;rename_i hc;have⟨cs,g1,g2⟩:=ams h6 hc.2;have g3:=aky (vc:=vc) hc.2 kv v l;refine⟨[kk],[kk],_,_,⟨.undef,[(kk,some ⟨(bI (.map (.st i) vc (oI (Ip i) kv v l):bo X)).rows.length,(bI (.map (.st i) vc (oI (Ip i) kv v l):bo X)).rows⟩)],[]⟩,?_,trivial,rfl,?_,by simp,h⟩;simp only[g1,wM,Nh,h1,ai,hk,den,h2,eU (List.mem_singleton_self kk) h4,g2];rw[aX ⟨(sO hc.2 kv).2.trans hc.1,by simp[bI]⟩,ab9 h7,g3];rfl;simp[iV,bI];cases h;cases h;cases h
theorem WG{t:TypeId}{x key:DV X}{ok:Bool}(h:(bif Re x get then ND T t x key ok get k else UY T t x key ok get k)=some r):∃rd dv out,qZ T t (den x) (den key) ok (dM rd (fH get))=some out/\jO out.obs/\out.v=den dv/\out.upd=[]/\k dv [] rd []=some r:=by grind [Zm,WC]
theorem WH{t:TypeId}{x key y:DV X}(h:(bif Re x get then NE T t x key y get k else UZ T t x key y get k)=some r):∃rd wr dv upd out,wM T t (den x) (den key) (den y) (dM rd (fH get))=some out/\jO out.obs/\out.v=den dv/\out.upd=iV upd/\(∀ p∈upd,p.1∈wr)/\k dv upd rd wr=some r:=by grind [Zn,WE]
theorem ag7(h:aqg T al i o.op ρ get k=some r):ez P T i o ρ get k r:=by
 obtain⟨dst,op,ty,an,after,guard⟩:=o;unfold aqg at h;simp at h;split at h;rename_i op t x y q;split at h;rename_i hn;have⟨dv,out,g1,g2,g3,g4,g5⟩:=ag5 h;have hy:den (ρ y)=.de:=by cases hρ:ρ y<;>rw[hρ]at hn<;>first|rfl|cases hn
 exact ez.ext (n:=0) (rd:=[]) (wr:=[]) (upd:=[]) (by simp[tO,hy];exact g1) g2 g3 g4 (by simp) g5;cases h;unfold apV at h;rw[ah]at h;obtain⟨si,h1,h⟩:=h;rw[ah]at h;obtain⟨di,h2,h⟩:=h;split at h;rename_i kd k' n hk hx;refine ez.ext (n:=0) (rd:=[]) (wr:=[]) (upd:=[]) (out:=⟨.t (.sc (.int kd (kd.wrap n))),[],[]⟩) ?_ trivial rfl rfl (by simp) h;simp[tO,Su,h1,h2,hk,hx];rfl;cases h;unfold amm at h;rw[ah]at h;obtain⟨ti,h1,h⟩:=h;split at h;rename_i s kk n hk hx hj;rw[ah]at h;obtain⟨b,h2,h⟩:=h;refine ez.ext (n:=b) (rd:=[]) (wr:=[]) (upd:=[]) (out:=⟨.t (.sc (.int .u8 b)),[],[0<=n/\∃c,s[n.toNat]? =some c/\b=c.toNat]⟩) ?_ (ag6 h2) rfl rfl (by simp) h;simp[tO,VD,h1,hk,hx,hj];rfl;rename_i m e cs kd q hk hx hj;rw[ah]at h;obtain⟨ei,h2,h⟩:=h;have⟨h3,h⟩:=eD h;rw[ah]at h;obtain⟨v,h4,h⟩:=h;simp[cM]at h3;refine ez.ext (n:=0) (rd:=[]) (wr:=[]) (upd:=[]) (out:=⟨den v,[],[0<=q/\q<(m:Int)]⟩) ?_ h3 rfl rfl (by simp) h;have h5:=CZ h4;rw[kR]at h5;simp[tO,VD,h1,hk,hx,hj,h2,den,CT.tv,TV.av,h5];rfl;cases h;rename_i t x lo hi;unfold aaE at h;rw[ah]at h;obtain⟨ti,h1,h⟩:=h;split at h;rename_i e hk hx;have⟨ei,h2,h⟩:=ah.1 h;have⟨l,h3,h⟩:=ah.1 h;have⟨hh,h4,h⟩:=ah.1 h;have⟨h5,h⟩:=eD h;refine ez.ext (n:=0) (rd:=[]) (wr:=[]) (upd:=[]) (out:=⟨.de,[],[l=0/\hh=0]⟩) ?_ (show l=0/\hh=0 by simpa using h5) rfl rfl (by simp) h;have e1:=C8 h3;have e2:=C8 h4;rw[Option.map_map]at e1 e2;simp[tO,J2,h1,hk,hx,h2,den];have PB:bnd 0 (lo.map λx=>den (ρ x))=some l:=e1;have e2':bnd 0 (hi.map λx=>den (ρ x))=some hh:=e2;rw[PB,e2'];rfl;cases h;have⟨dv,g1,g2⟩:=Tw h;exact ez.ws (n:=0) (rd:=[]) (wr:=[]) (upd:=[]) g1 trivial rfl rfl (by simp) g2;have⟨dv,upd,out,g1,g2,g3,g4,g5,g6⟩:=aee h;exact ez.ws (n:=0) (rd:=[]) (wr:=[]) (upd:=upd) g1 g2 g3 g4 (λ p hp=>.inl (g5 p hp)) g6;have⟨dv,upd,out,g1,g2,g3,g4,g5,g6⟩:=WA h;exact ez.ws (n:=0) (rd:=[]) (wr:=[]) (upd:=upd) g1 g2 g3 g4 (λ p hp=>.inl (g5 p hp)) g6;have⟨rd,dv,out,g1,g2,g3,g4,g6⟩:=WG h;exact ez.ws (n:=0) (rd:=rd) (wr:=[]) (upd:=[]) g1 g2 g3 g4 (by simp) g6;have⟨rd,wr,dv,upd,out,g1,g2,g3,g4,g5,g6⟩:=WH h;exact ez.ws (n:=0) (rd:=rd) (wr:=wr) (upd:=upd) g1 g2 g3 g4 (λ p hp=>.inr (g5 p hp)) g6;have⟨rd,wr,dv,upd,out,g1,g2,g3,g4,g5,g6⟩:=Tx h;refine ez.ext (n:=0) (rd:=rd) (wr:=wr) (upd:=upd) ?_ g2 g3 g4 g5 g6;simp[tO,UW];exact g1;cases h
theorem aej{c:CT X.ι}:∀{xs:List Operand}{x:Operand}{y:CT.T X.toSE c×List Bool},x∈xs->F7 get (ρ x) c=some y->∀j∈bz (ρ x),j∈AN get c ρ xs
 |z::xs,x,y,hx,h,j,hj=>by simp[AN];rcases aR.1 hx with rfl|hx;left;rw[h];exact hj;exact .inr (aej hx h j hj)
 |[],_,_,hx,_,_,_=>by simp at hx
theorem aek{c:CT X.ι}:∀{xs:List Operand}{x:Operand}{y:CT.T X.toSE c×List Bool},x∈xs->F7 get (ρ x) c=some y->∀b∈y.2,b∈P4 get c ρ xs
 |z::xs,x,y,hx,h,b,hb=>by simp[P4];rcases aR.1 hx with rfl|hx;left;rw[h];exact hb;exact .inr (aek hx h b hb)
 |[],_,_,hx,_,_,_=>by simp at hx
theorem ag8(h:aqh T al i o.op ρ get k=some r):ez P T i o ρ get k r:=by
 unfold aqh at h;split at h;cases h;rename_i hpick;have⟨c,h1,h⟩:=ah.1 h;have⟨hcs,h⟩:=qi h;have⟨cJ,rd,wr,dv,upd,out,g1,g2,g3,g4,g5,g6⟩:=aaB h;generalize lr:AN get c ρ o.op.operands.toList=ab at*;refine⟨.yi ab (λ x=>den (MM get c ρ x)) cJ,rd++ab,wr++ab,dv,upd++NC ab,⟨out.v,out.upd++ab.map (λ k=>(k,none)),out.obs++[∀ x∈o.op.operands,(gE P (dM (rd++ab) (fH get)) (den (ρ x)) (den (MM get c ρ x))/\∀k∈refs (den (ρ x)),k∈ab)\/den (MM get c ρ x)=den (ρ x)]⟩,?_,?_,g3,?_,?_,g6⟩;unfold jX Ia;simp only;rw[aU hpick];have e:(λ k=>if k∈ab then none else dM (rd++ab) (fH get) k)=dM rd (fH λj=>if j∈ab then none else get j):=by funext j;simp[dM,fH];by_cases hj:j∈ab;simp[hj];simp[hj]
 rw[e,g1];rfl;refine rJ _ λp hp=>?_;rcases bV.1 hp with hp|hp;exact qX _ g2 p hp;rw[bD]at hp;subst hp;intro x hx;unfold MM;rcases hl:F7 get (ρ x) c with _|y;exact .inr rfl;left;have hx':x∈o.op.operands.toList:=by simpa using hx
 have hin:=λj hj=>lr ▸ aej hx' hl j hj;obtain⟨hs,obs,p1,p2⟩:=Av (P:=P) (rd:=rd++ab) hl (λ b hb=>hcs b (aek hx' hl b hb)) (λ j hj=>mem_append_right _ (hin j hj));refine⟨?_,λj hj=>hin j (by rwa [jm]at hj)⟩;have:=p2 [];exact Ej _ _ _ this p1;simp[sN,Da,g4];intro p hp;rcases bV.1 hp with hp|hp;exact(g5 p hp).imp id (λ h=>mem_append_left _ h);exact .inr (mem_append_right _ (J7 hp))
theorem WI{c:CT X.ι}:∀{ds:List (DV X)}{xs:List (CT.T X.toSE c)},GE c ds=some xs->bO ds=xs.map λy=>den (.c c y:DV X)
 |[],xs,h=>by simp[GE]at h;subst h;rfl
 |.c a x::ds,xs,h=>by simp[GE]at h;rw[ah]at h;obtain⟨y,h1,h⟩:=h;rw[ah]at h;obtain⟨l,h2,h⟩:=h;cases h;simp[bO,WI h2,(o6 h1).1]
 |.agg _::_,_,h|.fj _::_,_,h|.own _ _ _::_,_,h|.ptr _ _ _::_,_,h|.rj _ _ _::_,_,h|.mp _::_,_,h|.tG _ _ _ _ _::_,_,h|.rp _ _ _::_,_,h|.xl _ _ _ _ _::_,_,h|.fn _ _ _::_,_,h|.eC _ _ _::_,_,h|.raw _::_,_,h|.nil::_,_,h|.ub::_,_,h|.skip::_,_,h|.undef::_,_,h=>by simp[GE]at h
theorem ag9(h:aqi T al o.op ρ get k=some r):ez P T i o ρ get k r:=by
 obtain⟨dst,op,ty,an,after,guard⟩:=o;unfold aqi at h;simp only at h;split at h
 ·rename_i t x j;rw[ah]at h;obtain⟨ti,h1,h⟩:=h;split at h
  ·rename_i m e kk row aa kd n hk hx hj;rw[ah]at h;obtain⟨ei,h2,h⟩:=h;split at h
   ·rename_i hs;have⟨h3,h⟩:=eD h;refine ez.op (cJ:=.none) (rd:=[]) (wr:=[]) (upd:=[]) (λ _ _ _ e=>by cases e) (out:=⟨.ptr kk row (aa+n.toNat*1),[],[0<=n/\n.toNat<m]⟩) ?_ ⟨?_,?_,rfl,by simp,h⟩
    ·simp only[qG,mG,h1,ai,hk,hx,hj,den,CT.tv,TV.av,h2,hs];rfl
    ·simp only[cM,bK,bT]at h3;exact⟨h3.1,by omega⟩
    ·simp only[den,Nat.mul_one]
   ·cases h
  ·rename_i m e c y aa kd n hk hx hj;rw[ah]at h;obtain⟨ei,h2,h⟩:=h;split at h
   ·rename_i hs;have⟨h3,h⟩:=eD h;refine ez.op (cJ:=.none) (rd:=[]) (wr:=[]) (upd:=[]) (λ _ _ _ e=>by cases e) (out:=⟨.fh (CT.row X.toSE c y) (aa+n.toNat*1),[],[0<=n/\n.toNat<m]⟩) ?_ ⟨?_,?_,rfl,by simp,h⟩
    ·simp only[qG,mG,h1,ai,hk,hx,hj,den,CT.tv,TV.av,h2,hs];rfl
    ·simp only[cM,bK,bT]at h3;exact⟨h3.1,by omega⟩
    ·simp only[den,Nat.mul_one]
   ·cases h
  ·cases h
 ·rename_i t a;rw[ah]at h;obtain⟨ti,h1,h⟩:=h;split at h
  ·rename_i kk row aa m n hx;split at h
   ·rename_i hs;rw[ah]at h;obtain⟨c,h2,h⟩:=h;split at h
    ·rename_i hc;rw[ah]at h;obtain⟨ob,h3,h⟩:=h;split at h
     ·rename_i sz rows;have⟨q,h4,h⟩:=ah.1 h;have⟨xs,h5,h⟩:=ah.1 h;have⟨y,h6,h⟩:=ah.1 h;have⟨_,h7⟩:=Nv h6;have h8:=WI h5;have h9:((bO q).drop (aa+n.toNat)).take 1=[den (.c c y:DV X)]:=by
       have e1:(bO ((q.drop aa).take m))[n.toNat]? =some (den (.c c y:DV X)):=(by rw[h8,List.getElem?_map,h7];rfl);rw[kR,List.getElem?_take]at e1;split at e1
       ·rw[List.getElem?_drop]at e1;have⟨g1,g2⟩:=dH.1 e1;rw[List.drop_eq_getElem_cons g1,List.take_succ_cons,List.take_zero,g2]
       ·cases e1
      refine ez.op (cJ:=.none) (rd:=[kk]) (wr:=[]) (upd:=[]) (λ _ _ _ e=>by cases e) (out:=⟨den (.c c y:DV X),[],[]⟩) ?_ ⟨trivial,rfl,rfl,by simp,h⟩;simp only[qG,Le,h1,ai,hx,den,eU (List.mem_singleton_self kk) h3,bI,List.getElem?_map,h4,Option.map_some,hs.1,hs.2];rw[h9];obtain⟨t',g1,g2⟩:=row_one hc y;simp only[den,g2,TV.av];rfl
     ·cases h
     ·cases h
    ·cases h
   ·cases h
  ·rename_i b y0 aa m n hx;split at h
   ·rename_i hs;rw[ah]at h;obtain⟨c,h2,h⟩:=h;split at h
    ·rename_i hc;have⟨xs,h5,h⟩:=ah.1 h;have⟨y,h6,h⟩:=ah.1 h;have⟨_,h7⟩:=Nv h6;have h8:=WI h5;have h9:(((CT.row X.toSE b y0).drop (aa+n.toNat)).take 1).map AV.t=[den (.c c y:DV X)]:=by
      have e1:(bO (((vF b y0).drop aa).take m))[n.toNat]? =some (den (.c c y:DV X)):=(by rw[h8,List.getElem?_map,h7];rfl);rw[kR,pU,List.getElem?_take]at e1;split at e1
      ·rw[List.getElem?_drop]at e1;have⟨g1,g2⟩:=dH.1 e1;rw[map_take,map_drop,List.drop_eq_getElem_cons g1,List.take_succ_cons,List.take_zero,g2]
      ·cases e1
     refine ez.op (cJ:=.none) (rd:=[]) (wr:=[]) (upd:=[]) (λ _ _ _ e=>by cases e) (out:=⟨den (.c c y:DV X),[],[]⟩) ?_ ⟨trivial,rfl,rfl,by simp,h⟩;simp only[qG,Le,h1,ai,hx,den,hs.1,hs.2];rw[h9];obtain⟨t',g1,g2⟩:=row_one hc y;simp only[den,g2,TV.av];rfl
    ·cases h
   ·cases h
  ·cases h
 ·cases h
end
end
section
variable {X:SX}
structure MA(X:SX) where
 nm:List (Nat×Nat)
 fi:List (DC X)
 kh:List Bool
def addN(m:MA X)(k' k:Nat):MA X:=if m.nm.contains (k',k)then m else⟨m.nm++[(k',k)],m.fi,m.kh⟩
section
variable (get:Nat->Option (bo X))
mutual
def mP:Pt X.ι->DV X->MA X->Option (MA X)
 |.v c,d,m=>(dat d c).bind λx=>some ⟨m.nm,m.fi++[⟨c,x⟩],m.kh⟩
 |.o k,d,m=>match d with
  |.own k' 0 len=>(get k').bind λo=>match o with
   |.eE _ l=>some (addN ⟨m.nm,m.fi,m.kh++[aE len l.length]⟩ k' k)
   |_=>none
  |_=>none
 |.oz k,d,m=>match d with
  |.own k' 0 len=>(get k').bind λo=>match o with
   |.eE _ l=>some (addN ⟨m.nm,m.fi,m.kh++[!(len==0)&&aE len l.length]⟩ k' k)
   |_=>none
  |.oz k' len=>(get k').bind λo=>match o with
   |.eE _ l=>some (addN ⟨m.nm,m.fi,m.kh++[aE len l.length]⟩ k' k)
   |_=>none
  |_=>none
 |.p k,d,m=>match d with
  |.ptr k' 0 0=>some (addN m k' k)
  |_=>none
 |.mp k,d,m=>match d with
  |.mp k'=>some (addN m k' k)
  |_=>none
 |.nil,d,m=>match d with
  |.nil=>some m
  |_=>none
 |.f F fs cs,d,m=>match d with
  |.fn F' first caps=>if F=F' then(tI fs first m).bind λm=>tI cs caps m else none
  |_=>none
 |.od k,d,m=>match d with
  |.own k' aa len=>(get k').bind λo=>match o with
   |.eE _ l=>some (addN ⟨m.nm,m.fi++[⟨.int .i64,(aa:Int)⟩],m.kh++[aE (aa+len) l.length]⟩ k' k)
   |_=>none
  |_=>none
 |.a ps,d,m=>match d with
  |.agg ds=>tI ps ds m
  |_=>none
def tI:List (Pt X.ι)->List (DV X)->MA X->Option (MA X)
 |[],[],m=>some m
 |p::ps,d::ds,m=>(mP p d m).bind λm=>tI ps ds m
 |_,_,_=>none
end
def Iq(env:Nat->DV X):List (Nat×Pt X.ι)->MA X->Option (MA X)
 |[],m=>some m
 |(t,p)::r,m=>(mP get p (env t) m).bind λm=>Iq env r m
def Lr:List (List (Pt X.ι))->List (List (DV X))->MA X->Option (MA X)
 |[],[],m=>some m
 |r::rs,q::qs,m=>(tI get r q m).bind λm=>Lr rs qs m
 |_,_,_=>none
def nameOf(m:MA X)(k:Nat):Nat:=match m.nm.find? (λ q=>q.2==k)with|some q=>q.1|none=>k
def Db:List (Nat×OP X.ι)->MA X->Option (MA X)
 |[],m=>some m
 |(k,op)::r,m=>(get (nameOf m k)).bind λo=>match op,o with
  |.l c,.eE c' l=>(lD (.sl c') (.sl c) l).bind λl'=>Db r (addN ⟨m.nm,m.fi++[⟨.sl c,l'⟩],m.kh⟩ (nameOf m k) k)
  |.m kc vc,.map ur uc l=>(lD (.mp ur uc) (.mp kc vc) l).bind λl'=>Db r (addN ⟨m.nm,m.fi++[⟨.mp kc vc,l'⟩],m.kh⟩ (nameOf m k) k)
  |.c sz rows,.cells sz' rows'=>if sz=sz' then(Lr get rows rows' (addN m (nameOf m k) k)).bind λm=>Db r m else none
  |_,_=>none
end
end
section
variable {X:SX} {A:Type}
mutual
def so(f:Nat->Nat):DV X->DV X
 |.own k aa len=>.own (f k) aa len
 |.ptr k row aa=>.ptr (f k) row aa
 |.rj k n aa=>.rj (f k) n aa
 |.tG k row aa m n=>.tG (f k) row aa m n
 |.mp k=>.mp (f k)
 |.oz k len=>.oz (f k) len
 |.agg cs=>.agg (L9 f cs)
 |.fj cs=>.fj (L9 f cs)
 |.fn F first caps=>.fn F (L9 f first) (L9 f caps)
 |x=>x
def L9(f:Nat->Nat):List (DV X)->List (DV X)
 |[]=>[]
 |x::xs=>so f x::L9 f xs
end
theorem aha(f:Nat->Nat):∀l:List Tree,Br f (l.map AV.t)=l.map AV.t
 |[]=>rfl
 |x::xs=>by simp[Br,k5,aha f xs]
mutual
theorem Aw(f:Nat->Nat):∀x:DV X,den (so f x)=k5 f (den x)
 |.own _ _ _|.ptr _ _ _|.rj _ _ _|.mp _|.oz _ _|.tG _ _ _ _ _=>rfl
 |.agg cs|.fj cs=>by simp[so,den,k5,Ir f cs]
 |.fn F first caps=>by simp[so,den,k5,Ir f first,Ir f caps]
 |.c t x=>by
  simp[so,den];cases t<;>try rfl
  simp[CT.tv,TV.av,k5,aha]
 |.rp _ _ _|.xl _ _ _ _ _|.eC _ _ _=>rfl
 |.raw v=>by simp[so,den,cv];split;rfl;split<;>rfl
 |.nil|.ub|.skip|.undef=>rfl
theorem Ir(f:Nat->Nat):∀l:List (DV X),bO (L9 f l)=Br f (bO l)
 |[]=>rfl
 |x::xs=>by simp[L9,bO,Br,Aw f x,Ir f xs]
end
def qn(f:Nat->Nat):bo X->bo X
 |.cells sz rows=>.cells sz (rows.map (L9 f))
 |o=>o
def ev:bo X->List Nat
 |.cells _ rows=>(rows.map aL).flatten
 |.eE _ _=>[]
 |.map _ _ _=>[]
def Rd:CT X.ι->Bool
 |.int _|.bool|.str=>true
 |_=>false
def xV:CT X.ι->Bool
 |.st i=>(X.da i).all Rd
 |c=>Rd c
theorem EA{c:CT X.ι}(h:Rd c=true)(x:CT.T X.toSE c):∀t∈CT.row X.toSE c x,t.flat:=by cases c<;>first|(intro t ht;simp[CT.row]at ht;subst ht;exact trivial)|cases h
theorem ajj:∀(l:List (CT X.ι))(h:HL X.toSE l),l.all Rd=true->∀t∈HL.row X.toSE l h,t.flat
 |[],_,_,t,ht=>by simp[HL.row]at ht
 |c::l,h,ha,t,ht=>by simp only[all_cons,bK]at ha;rcases bV.1 (show t∈CT.row X.toSE c h.1++HL.row X.toSE l h.2 from ht)with ht|ht;exact EA ha.1 h.1 t ht;exact ajj l h.2 ha.2 t ht
theorem vG{c:CT X.ι}(h:xV c=true)(x:CT.T X.toSE c):∀t∈CT.row X.toSE c x,t.flat:=by
 cases c
 case st i=>intro t ht;exact ajj (X.da i) (X.get i x) h t ((X.mL i x) ▸ ht)
 case int k=>exact EA (c:=.int k) h x
 case bool=>exact EA (c:=.bool) h x
 case str=>exact EA (c:=.str) h x
 case sl e=>cases h
 case any=>cases h
 case mp=>cases h
structure MG(X:SX) where
 nm:List (Nat×Nat)
 fi:List (DC X)
 kh:List Bool
 vr:List Nat
section
variable (get:Nat->Option (bo X))
mutual
def qr:Pt X.ι->DV X->MG X->Option (MG X)
 |.v c,d,m=>(F7 get d c).bind λx=>some ⟨m.nm,m.fi++[⟨c,x.1⟩],m.kh++x.2,m.vr++bz d⟩
 |.o k,d,m=>match d with
  |.own k' 0 len=>(get k').bind λo=>match o with
   |.eE _ l=>some ⟨m.nm++[(k',k)],m.fi,m.kh++[aE len l.length],m.vr⟩
   |_=>none
  |_=>none
 |.od k,d,m=>match d with
  |.own k' aa len=>(get k').bind λo=>match o with
   |.eE _ l=>some ⟨m.nm++[(k',k)],m.fi++[⟨.int .i64,(aa:Int)⟩],m.kh++[aE (aa+len) l.length],m.vr⟩
   |_=>none
  |_=>none
 |.p k,d,m=>match d with
  |.ptr k' 0 0=>some ⟨m.nm++[(k',k)],m.fi,m.kh,m.vr⟩
  |_=>none
 |.nil,d,m=>match d with
  |.nil=>some m
  |_=>none
 |.f F fs cs,d,m=>match d with
  |.fn F' first caps=>if F=F' then(ta fs first m).bind λm=>ta cs caps m else none
  |_=>none
 |.mp k,d,m=>match d with
  |.mp k'=>some ⟨m.nm++[(k',k)],m.fi,m.kh,m.vr⟩
  |_=>none
 |.oz _,_,_=>none
 |.a ps,d,m=>match d with
  |.agg ds=>ta ps ds m
  |_=>none
def ta:List (Pt X.ι)->List (DV X)->MG X->Option (MG X)
 |[],[],m=>some m
 |p::ps,d::ds,m=>(qr p d m).bind λm=>ta ps ds m
 |_,_,_=>none
end
def Ls:List (List (Pt X.ι))->List (List (DV X))->MG X->Option (MG X)
 |[],[],m=>some m
 |r::rs,q::qs,m=>(ta get r q m).bind λm=>Ls rs qs m
 |_,_,_=>none
def rk(m:MG X)(k:Nat):Nat:=match m.nm.find? (λ q=>q.2==k)with|some q=>q.1|none=>k
def stC:CT X.ι->Bool
 |.st _=>true
 |_=>false
def Dc:List (Nat×OP X.ι)->MG X->Option (MG X)
 |[],m=>some m
 |(k,op)::r,m=>(get (rk m k)).bind λo=>match op,o with
  |.l c,.eE c' l=>(lD (.sl c') (.sl c) l).bind λl'=>Dc r ⟨m.nm++[(rk m k,k)],m.fi++[⟨.sl c,l'⟩],m.kh,m.vr⟩
  |.m kc vc,.map ur uc l=>if (kc.one=true/\vc.one=true)\/stC kc=true then(lD (.mp ur uc) (.mp kc vc) l).bind λl'=>Dc r ⟨m.nm++[(rk m k,k)],m.fi++[⟨.mp kc vc,l'⟩],m.kh,m.vr⟩else none
  |.c sz rows,.cells sz' rows'=>if sz=sz' then(Ls get rows rows' ⟨m.nm++[(rk m k,k)],m.fi,m.kh,m.vr⟩).bind λm=>Dc r m else none
  |_,_=>none
end
mutual
def Pt.refs:Pt X.ι->List Nat
 |.o k|.od k|.p k|.mp k|.oz k=>[k]
 |.f _ fs cs=>BG fs++BG cs
 |.a ps=>BG ps
 |_=>[]
def BG:List (Pt X.ι)->List Nat
 |[]=>[]
 |p::ps=>p.refs++BG ps
end
def OP.refs:OP X.ι->List Nat
 |.l _=>[]
 |.m _ _=>[]
 |.c _ rows=>rows.flatMap BG
def ID(n k:Nat):Bool:=Nat.blt k n || (Nat.ble 1000 k&&Nat.blt k 1064)
def dp.ok(g:dp X):Bool:=
 decide (g.kf.map (·.1)=List.range g.kf.length)&&decide (g.kf.length<=1000)&&(g.ka.all λq=>ID g.kf.length q.1&&q.2.refs.all λk=>ID g.kf.length k)&&decide (g.ka.map (·.1)).Nodup&&(BG g.gz).all λk=>ID g.kf.length k
def okG(m:MG X)(ab:List Nat):Bool:=
 decide ab.Nodup&&(m.nm.all λq=>match ab[q.2]? with|some k=>Nat.beq k q.1|none=>false)&&m.vr.all λk=>!ab.contains k
def dp.flat(g:dp X):Bool:=(cX g.gz).all xV&&g.ka.all λq=>match q.2 with
 |.l c=>xV c
 |.m _ _=>false
 |.c _ rows=>(wO rows).all xV
def tU:List (Nat×bo X)->Nat->Option (bo X)
 |[],_=>none
 |(j,o)::r,k=>if j=k then some o else tU r k
def Q4(i:Nat)(ab:List Nat)(os':List (Nat×bo X)):List (Nat×Option (bo X)):=
 (ab.zipIdx.map λp=>(p.1,(tU os' p.2).map (qn (cn i ab))))++(os'.filter λq=>decide (1000<=q.1)).map λq=>(cn i ab q.1,some (qn (cn i ab) q.2))
def ahb(g:dp X)(i:Nat)(ds:List (DV X))(get:Nat->Option (bo X))(k:KK X A):Option A:=
 (ta get g.p7 ds ⟨[],[],[],[]⟩).bind λm=>(Dc get g.kf m).bind λm=>
  bif g.ok&&okG m ((List.range g.kf.length).map (rk m))then(F0 (cX g.p7++d6 g.kf) m.fi).bind λv=>Wi m.kh ((g.fn v).bind λr=>
   let ab:=(List.range g.kf.length).map (rk m)
   k (so (cn i ab) (g.res r)) (Q4 i ab (g.outs r)++(if g.flat then []else m.vr.map λk=>(k,none))) (ab++m.vr) ((ab++(Q4 i ab (g.outs r)).map (·.1))++m.vr))
  else none
section
variable {P:Program} {get:Nat->Option (bo X)} {rd ab:List Nat} {eh:Nat->Nat}
def gC(m m':MG X):Prop:=(∀ q∈m.nm,q∈m'.nm)/\(∀ c∈m.kh,c∈m'.kh)/\∀k∈m.vr,k∈m'.vr
theorem gC.refl(m:MG X):gC m m:=⟨λ _ h=>h,λ_ h=>h,λ_ h=>h⟩
theorem gC.trans{a b c:MG X}(h:gC a b)(h':gC b c):gC a c:=⟨λ q hq=>h'.1 q (h.1 q hq),λq hq=>h'.2.1 q (h.2.1 q hq),λq hq=>h'.2.2 q (h.2.2 q hq)⟩
mutual
theorem amt:∀(p:Pt X.ι)(d:DV X)(m m':MG X),qr get p d m=some m'->gC m m'/\∃am,m'.fi=m.fi++am/\am.length=p.vars.length
 |.v c,d,m,m',h=>by simp[qr]at h;rw[ah]at h;obtain⟨x,h1,h⟩:=h;cases h;exact⟨⟨λ _ h=>h,λ_ h=>by simp[h],λ_ h=>by simp[h]⟩,[⟨c,x.1⟩],rfl,rfl⟩
 |.o k,d,m,m',h=>by simp[qr]at h;split at h;rw[ah]at h;obtain⟨o,h1,h⟩:=h;split at h;cases h;exact⟨⟨λ _ h=>by simp[h],λ_ h=>by simp[h],λ_ h=>h⟩,[],by simp,rfl⟩;cases h;cases h
 |.od k,d,m,m',h=>by simp[qr]at h;split at h;rename_i k' aa len;have⟨o,h1,h⟩:=ah.1 h;split at h;cases h;exact⟨⟨λ _ h=>by simp[h],λ_ h=>by simp[h],λ_ h=>h⟩,[⟨.int .i64,(aa:Int)⟩],rfl,rfl⟩;cases h;cases h
 |.p k,d,m,m',h=>by simp[qr]at h;split at h;cases h;exact⟨⟨λ _ h=>by simp[h],λ_ h=>h,λ_ h=>h⟩,[],by simp,rfl⟩;cases h
 |.nil,d,m,m',h=>by simp[qr]at h;split at h;cases h;exact⟨gC.refl _,[],by simp,rfl⟩;cases h
 |.f F fs cs,d,m,m',h=>by simp[qr]at h;split at h;split at h;have⟨m1,h1,h⟩:=ah.1 h;obtain⟨a1,n1,b1,c1⟩:=wT fs _ m m1 h1;obtain⟨a2,n2,b2,c2⟩:=wT cs _ m1 m' h;exact⟨a1.trans a2,n1++n2,by rw[b2,b1,aM],by simp[Pt.vars,c1,c2]⟩;cases h;cases h
 |.mp k,d,m,m',h=>by simp[qr]at h;split at h;cases h;exact⟨⟨λ _ h=>by simp[h],λ_ h=>h,λ_ h=>h⟩,[],by simp,rfl⟩;cases h
 |.oz _,_,_,_,h=>by simp[qr]at h
 |.a ps,d,m,m',h=>by simp[qr]at h;split at h;exact wT ps _ m m' h;cases h
theorem wT:∀(ps:List (Pt X.ι))(ds:List (DV X))(m m':MG X),ta get ps ds m=some m'->gC m m'/\∃am,m'.fi=m.fi++am/\am.length=(cX ps).length
 |[],[],m,m',h=>by simp[ta]at h;subst h;exact⟨gC.refl _,[],by simp,rfl⟩
 |p::ps,d::ds,m,m',h=>by simp[ta]at h;have⟨m1,h1,h⟩:=ah.1 h;have⟨a1,n1,b1,c1⟩:=amt p d m m1 h1;have⟨a2,n2,b2,c2⟩:=wT ps ds m1 m' h;exact⟨a1.trans a2,n1++n2,by rw[b2,b1,aM],by simp[cX,c1,c2]⟩
 |[],_::_,m,m',h|_::_,[],m,m',h=>by simp[ta]at h
end
def yq:AV->List LH->List LH
 |.agg _,hs=>.agd::hs
 |_,hs=>hs
theorem NF(x:AV)(a b:List LH):yq x (a++b)=yq x a++b:=by cases x<;>rfl
theorem yQ{get':Nat->Option aP}{x:AV}{hs:List LH}{p:AV×List LH×List Prop}(h:pE P get' x hs=some p)(hr:∀k∈refs x,k∉ab):qL P get' ab x (yq x hs)=some p:=by
 have hd:((refs x).all λk=>!ab.contains k)=true:=by simp;exact hr
 cases x
 all_goals
  simp[yq];unfold qL;split<;>first|(simp [pE]at h;done)|(rw [aX hd];exact h)|exact h|exact absurd hd ‹_› |(done)
variable {NM:List (Nat×Nat)} {qt:List Nat}
mutual
theorem akz(hi:∀q∈NM,ab[q.2]? =some q.1)(hv:∀k∈qt,k∉ab)(hrd:∀k,(∃ q,(k,q)∈NM)\/k∈qt->k∈rd)(ho:∀q∈NM,∀c l,get q.1=some (.eE c l)->eh q.2=l.length):
 ∀(p:Pt X.ι)(d:DV X)(m m':MG X),qr get p d m=some m'->(∀ q∈m'.nm,q∈NM)->(∀ c∈m'.kh,c=true)->(∀ k∈m'.vr,k∈qt)->
 ∃am,m'.fi=m.fi++am/\∃d',(∀ ae,eP eh p (am++ae)=(d',ae))/\(∃ hs obs,(∀ p∈obs,p)/\∀ae,qL P (dM rd (fH get)) ab (den d) (hs++ae)=some (den d',ae,obs))/\∀j∈bz d,(∃ q,(j,q)∈NM)\/j∈qt
 |.v c,d,m,m',h,hn,hc,hr=>by simp[qr]at h;rw[ah]at h;obtain⟨x,h1,h⟩:=h;cases h;have B8:∀j∈bz d,j∈qt:=λj hj=>hr j (by simp[hj]);obtain⟨hs,obs,p1,q1⟩:=Av (P:=P) (rd:=rd) h1 (λ b hb=>hc b (by simp[hb])) (λ j hj=>hrd j (.inr (B8 j hj)));refine⟨[⟨c,x.1⟩],rfl,.c c x.1,λae=>rfl,⟨yq (den d) hs,obs,p1,λae=>?_⟩,λj hj=>.inr (B8 j hj)⟩;rw[<- NF];exact yQ (q1 ae) (λ k hk=>hv k (B8 k (by rwa [jm]at hk)))
 |.o k,d,m,m',h,hn,hc,hr=>by
  simp[qr]at h;split at h;rename_i k' len;rw[ah]at h;obtain⟨o,h1,h⟩:=h;split at h;rename_i c l;cases h;have hq:(k',k)∈NM:=hn _ (by simp);have he:len=l.length:=by have:=hc (aE len l.length) (by simp);simpa[aE]using this
  refine⟨[],by simp,.own k 0 (eh k),λae=>rfl,⟨[.mut k],[],by simp,λae=>?_⟩,λj hj=>?_⟩;simp[den,qL,hi _ hq,ho _ hq c l h1,he];simp[bz]at hj;subst hj;exact .inl ⟨k,hq⟩;cases h;cases h
 |.od k,d,m,m',h,hn,hc,hr=>by
  simp[qr]at h;split at h;rename_i k' aa len;rw[ah]at h;obtain⟨o,h1,h⟩:=h;split at h;rename_i c l;cases h;have hq:(k',k)∈NM:=hn _ (by simp);have he:aa+len=l.length:=by have:=hc (aE (aa+len) l.length) (by simp);simpa[aE]using this
  refine⟨[⟨.int .i64,(aa:Int)⟩],rfl,.own k aa (eh k-aa),λae=>?_,⟨[.mut k],[],by simp,λae=>?_⟩,λj hj=>?_⟩;have:HM (X:=X) ⟨.int .i64,(aa:Int)⟩=aa:=by simp[HM];rw[Wv];simp
  simp[eP,this];simp[den,qL,hi _ hq,ho _ hq c l h1,show l.length-aa=len by omega];simp[bz,bD]at hj;subst hj;exact .inl ⟨k,hq⟩;cases h;cases h
 |.p k,d,m,m',h,hn,hc,hr=>by simp[qr]at h;split at h;rename_i k';cases h;have hq:(k',k)∈NM:=hn _ (by simp);refine⟨[],by simp,.ptr k 0 0,λae=>rfl,⟨[.mut k],[],by simp,λae=>?_⟩,λj hj=>?_⟩;simp[den,cons_append,gu,qL,hi _ hq,if_true];simp[bz,bD]at hj;subst hj;exact .inl ⟨k,hq⟩;cases h
 |.nil,d,m,m',h,hn,hc,hr=>by simp[qr]at h;split at h;cases h;refine⟨[],by simp,.nil,λae=>rfl,⟨[.nil],[],by simp,λae=>?_⟩,by simp[bz]⟩;exact yQ (by simp[den,cons_append,gu,pE]) (by simp[den,refs]);cases h
 |.f F fs cs,d,m,m',h,hn,hc,hr=>by
  simp[qr]at h;split at h;rename_i F' first caps
  split at h;rename_i e;subst e;rw[ah]at h;obtain⟨m1,h1,h⟩:=h;have hm:=(wT cs _ m1 m' h).1;obtain⟨n1,a1,f',b1,⟨hs1,o1,p1,q1⟩,r1⟩:=yR hi hv hrd ho fs _ m m1 h1 (λ q hq=>hn q (hm.1 q hq)) (λ q hq=>hc q (hm.2.1 q hq)) (λ q hq=>hr q (hm.2.2 q hq));obtain⟨n2,a2,c',b2,⟨hs2,o2,p2,q2⟩,r2⟩:=yR hi hv hrd ho cs _ m1 m' h hn hc hr;refine⟨n1++n2,by rw[a2,a1,aM],.fn F f' c',λae=>by simp[eP,aM,b1,b2],⟨.fnw::(hs1++hs2),o1++o2,iH p1 p2,λae=>?_⟩,λj hj=>?_⟩;simp[den,cons_append,aM,qL,q1,ai,q2];simp[bz,bV]at hj;exact hj.elim (r1 j) (r2 j);cases h;cases h
 |.mp k,d,m,m',h,hn,hc,hr=>by simp[qr]at h;split at h;rename_i k';cases h;have hq:(k',k)∈NM:=hn _ (by simp);refine⟨[],by simp,.mp k,λae=>rfl,⟨[.mut k],[],by simp,λae=>?_⟩,λj hj=>?_⟩;simp[den,cons_append,gu,qL,hi _ hq,if_true];simp[bz,bD]at hj;subst hj;exact .inl ⟨k,hq⟩;cases h
 |.oz _,_,_,_,h,_,_,_=>by simp[qr]at h
 |.a ps,d,m,m',h,hn,hc,hr=>by simp[qr]at h;split at h;rename_i ds;have⟨n1,a1,f',b1,⟨hs1,o1,p1,q1⟩,r1⟩:=yR hi hv hrd ho ps ds m m' h hn hc hr;refine⟨n1,a1,.agg f',λae=>by simp[eP,b1],⟨.agw::hs1,o1,p1,λae=>?_⟩,λj hj=>r1 j (by simpa[bz]using hj)⟩;simp[den,cons_append,qL,q1,ai];cases h
theorem yR(hi:∀q∈NM,ab[q.2]? =some q.1)(hv:∀k∈qt,k∉ab)(hrd:∀k,(∃ q,(k,q)∈NM)\/k∈qt->k∈rd)(ho:∀q∈NM,∀c l,get q.1=some (.eE c l)->eh q.2=l.length):
 ∀(ps:List (Pt X.ι))(ds:List (DV X))(m m':MG X),ta get ps ds m=some m'->(∀ q∈m'.nm,q∈NM)->(∀ c∈m'.kh,c=true)->(∀ k∈m'.vr,k∈qt)->
 ∃am,m'.fi=m.fi++am/\∃ds',(∀ ae,lR eh ps (am++ae)=(ds',ae))/\(∃ hs obs,(∀ p∈obs,p)/\∀ae,mH P (dM rd (fH get)) ab (bO ds) (hs++ae)=some (bO ds',ae,obs))/\∀j∈aL ds,(∃ q,(j,q)∈NM)\/j∈qt
 |[],[],m,m',h,_,_,_=>by simp[ta,aZ]at h;subst h;exact⟨[],by simp,[],λae=>rfl,⟨[],[],by simp,λae=>rfl⟩,by simp[aL]⟩
 |p::ps,d::ds,m,m',h,hn,hc,hr=>by simp[ta]at h;have⟨m1,h1,h⟩:=ah.1 h;have hm:=(wT ps ds m1 m' h).1;obtain⟨n1,a1,d',b1,⟨hs1,o1,p1,q1⟩,r1⟩:=akz hi hv hrd ho p d m m1 h1 (λ q hq=>hn q (hm.1 q hq)) (λ q hq=>hc q (hm.2.1 q hq)) (λ q hq=>hr q (hm.2.2 q hq));have⟨n2,a2,ds',b2,⟨hs2,o2,p2,q2⟩,r2⟩:=yR hi hv hrd ho ps ds m1 m' h hn hc hr;refine⟨n1++n2,by rw[a2,a1,aM],d'::ds',λae=>by simp[lR,aM,b1,b2],⟨hs1++hs2,o1++o2,iH p1 p2,λae=>?_⟩,λj hj=>?_⟩;simp[bO,aM,mH,q1,ai,q2];simp[aL,bV]at hj;exact hj.elim (r1 j) (r2 j)
 |[],_::_,m,m',h,_,_,_=>by simp[ta]at h
 |_::_,[],m,m',h,_,_,_=>by simp[ta]at h
end
theorem za:∀(rs:List (List (Pt X.ι)))(qs:List (List (DV X)))(m m':MG X),Ls get rs qs m=some m'->gC m m'/\∃am,m'.fi=m.fi++am/\am.length=(wO rs).length
 |[],[],m,m',h=>by simp[Ls]at h;subst h;exact⟨gC.refl _,[],by simp,rfl⟩
 |r::rs,q::qs,m,m',h=>by simp[Ls]at h;have⟨m1,h1,h⟩:=ah.1 h;have⟨a1,n1,b1,c1⟩:=wT r q m m1 h1;have⟨a2,n2,b2,c2⟩:=za rs qs m1 m' h;exact⟨a1.trans a2,n1++n2,by rw[b2,b1,aM],by simp[wO,c1,c2]⟩
 |[],_::_,m,m',h|_::_,[],m,m',h=>by simp[Ls]at h
theorem Sj(hi:∀q∈NM,ab[q.2]? =some q.1)(hv:∀k∈qt,k∉ab)(hrd:∀k,(∃ q,(k,q)∈NM)\/k∈qt->k∈rd)(ho:∀q∈NM,∀c l,get q.1=some (.eE c l)->eh q.2=l.length):
 ∀(rs:List (List (Pt X.ι)))(qs:List (List (DV X)))(m m':MG X),Ls get rs qs m=some m'->(∀ q∈m'.nm,q∈NM)->(∀ c∈m'.kh,c=true)->(∀ k∈m'.vr,k∈qt)->
 ∃am,m'.fi=m.fi++am/\∃GW,(∀ ae,wQ eh rs (am++ae)=(GW,ae))/\(∃ hs obs,(∀ p∈obs,p)/\Bp P (dM rd (fH get)) ab (qs.map bO) hs=some (GW.map bO,obs))/\∀j∈(qs.map aL).flatten,(∃ q,(j,q)∈NM)\/j∈qt
 |[],[],m,m',h,_,_,_=>by simp[Ls]at h;subst h;exact⟨[],by simp,[],λae=>rfl,⟨[],[],by simp,rfl⟩,by simp⟩
 |r::rs,q::qs,m,m',h,hn,hc,hr=>by simp[Ls]at h;have⟨m1,h1,h⟩:=ah.1 h;have hm:=(za rs qs m1 m' h).1;obtain⟨n1,a1,d',b1,⟨hs1,o1,p1,q1⟩,r1⟩:=yR (P:=P) hi hv hrd ho r q m m1 h1 (λ q hq=>hn q (hm.1 q hq)) (λ q hq=>hc q (hm.2.1 q hq)) (λ q hq=>hr q (hm.2.2 q hq));have⟨n2,a2,ds',b2,⟨hs2,o2,p2,q2⟩,r2⟩:=Sj hi hv hrd ho rs qs m1 m' h hn hc hr;refine⟨n1++n2,by rw[a2,a1,aM],d'::ds',λae=>by simp[wQ,b1,b2],⟨hs1::hs2,o1++o2,iH p1 p2,?_⟩,λj hj=>?_⟩;have:=q1 [];rw[append_nil]at this;simp[Bp,this,q2];simp only[bE,flatten_cons,bV]at hj;exact hj.elim (r1 j) (r2 j)
 |[],_::_,m,m',h,_,_,_|_::_,[],m,m',h,_,_,_=>by simp[Ls]at h
theorem mI:∀(os:List (Nat×OP X.ι))(m m':MG X),Dc get os m=some m'->gC m m'/\∃am,m'.fi=m.fi++am/\am.length=(d6 os).length
 |[],m,m',h=>by simp[Dc]at h;subst h;exact⟨gC.refl _,[],by simp,rfl⟩
 |(k,op)::r,m,m',h=>by simp[Dc]at h;rw[ah]at h;obtain⟨o,h1,h⟩:=h;split at h;rename_i c c' l;rw[ah]at h;obtain⟨l',h2,h⟩:=h;obtain⟨a2,n2,b2,c2⟩:=mI r _ m' h;refine⟨gC.trans (b:=⟨m.nm++[(rk m k,k)],m.fi++[⟨.sl c,l'⟩],m.kh,m.vr⟩) ⟨λ _ h=>by simp[h],λ_ h=>h,λ_ h=>h⟩ a2,[⟨.sl c,l'⟩]++n2,?_,by simp[d6,c2]⟩;rw[b2,aM];rename_i kc vc ur uc l;split at h;rw[ah]at h;obtain⟨l',h2,h⟩:=h;obtain⟨a2,n2,b2,c2⟩:=mI r _ m' h;refine⟨gC.trans (b:=⟨m.nm++[(rk m k,k)],m.fi++[⟨.mp kc vc,l'⟩],m.kh,m.vr⟩) ⟨λ _ h=>by simp[h],λ_ h=>h,λ_ h=>h⟩ a2,[⟨.mp kc vc,l'⟩]++n2,?_,by simp[d6,c2]⟩;rw[b2,aM];cases h;rename_i sz rows sz' rows';split at h;rw[ah]at h;obtain⟨m1,h2,h⟩:=h;obtain⟨a1,n1,b1,c1⟩:=za rows _ _ m1 h2;have⟨a2,n2,b2,c2⟩:=mI r m1 m' h;refine⟨gC.trans (gC.trans (b:=⟨m.nm++[(rk m k,k)],m.fi,m.kh,m.vr⟩) ⟨λ _ h=>by simp[h],λ_ h=>h,λ_ h=>h⟩ a1) a2,n1++n2,?_,by simp[d6,c1,c2]⟩;rw[b2,b1,aM];cases h;cases h
theorem EB:∀(os:List (Nat×OP X.ι))(m m':MG X),Dc get os m=some m'->(∀ q∈m'.nm,q∈NM)->∃am,m'.fi=m.fi++am/\∀ae,∀k∈os.map (·.1),∃k' o,(k',k)∈NM/\get k'=some o/\∀c l,o=.eE c l->(k,List.length l)∈lens os (am++ae)
 |[],m,m',h,_=>by simp[Dc]at h;subst h;exact⟨[],by simp,λae k hk=>by simp at hk⟩
 |(k,op)::r,m,m',h,hn=>by
  simp[Dc]at h;rw[ah]at h;obtain⟨o,h1,h⟩:=h;split at h;rename_i c c' l;rw[ah]at h;obtain⟨l',h2,h⟩:=h;have hm:=(mI r _ m' h).1;obtain⟨n2,b2,c2⟩:=EB r _ m' h hn;refine⟨[⟨.sl c,l'⟩]++n2,by rw[b2,aM],λae j hj=>?_⟩;simp only[bE,aR]at hj;by_cases hjk:j=k;subst hjk;refine⟨_,_,hn _ (hm.1 _ (by simp)),h1,λc2 l2 he=>?_⟩;injection he with e1 e2;subst e1;subst e2;have:=congrArg List.length (jH h2).2;simp at this;rw[this];exact List.mem_cons_self;rcases hj with rfl|hj;exact(hjk rfl).elim;have⟨k',o',g1,g2,g3⟩:=c2 ae j hj;exact⟨k',o',g1,g2,λc l he=>eY _ (g3 c l he)⟩;rename_i kc vc ur uc l;split at h;rw[ah]at h;obtain⟨l',h2,h⟩:=h;have hm:=(mI r _ m' h).1;obtain⟨n2,b2,c2⟩:=EB r _ m' h hn;refine⟨[⟨.mp kc vc,l'⟩]++n2,by rw[b2,aM],λae j hj=>?_⟩;simp only[bE,aR]at hj;by_cases hjk:j=k;subst hjk;exact⟨_,_,hn _ (hm.1 _ (by simp)),h1,λc2 l2 he=>by cases he⟩;rcases hj with rfl|hj;exact(hjk rfl).elim;exact c2 ae j hj;cases h;rename_i sz rows sz' rows';split at h;have⟨m1,h2,h⟩:=ah.1 h;obtain⟨a1,n1,b1,c1⟩:=za rows _ _ m1 h2;have hm:=(mI r _ m' h).1;obtain⟨n2,b2,c2⟩:=EB r _ m' h hn;refine⟨n1++n2,by rw[b2,b1,aM],λae j hj=>?_⟩;simp only[bE,aR]at hj;have hd:(n1++n2++ae).drop (wO rows).length=n2++ae:=by rw[<- c1,aM,List.drop_left]
  simp only[lens,hd];by_cases hjk:j=k;subst hjk;exact⟨_,_,hn _ (hm.1 _ (a1.1 _ (by simp))),h1,λc2 l2 he=>by cases he⟩;rcases hj with rfl|hj;exact(hjk rfl).elim;exact c2 ae j hj;cases h;cases h
theorem Ma:∀(os:List (Nat×OP X.ι))(L:List (DC X)),((lens os L).map (·.1)).Sublist (os.map (·.1))
 |[],_=>by simp[lens]
 |(k,.l c)::r,L=>by simp[lens];split;exact(Ma r _).cons_cons _;exact List.nil_sublist _
 |(k,.m kc vc)::r,L|(k,.c sz rows)::r,L=>(Ma r _).cons _
def akA(get':Nat->Option aP)(NM:List (Nat×Nat))(qt:List Nat)(bs:List OB)(ks:List Nat):Prop:=
 ∀(j:Nat) hs q o,bs[j]? =some (.E4 hs)->ks[j]? =some q->get' q=some o->∀k∈Qb o,(∃ z,(k,z)∈NM)\/k∈qt
theorem NG{sz:Nat}{rows:List (List (DV X))}{k:Nat}(h:k∈Qb (bI (.cells sz rows))):k∈(rows.map aL).flatten:=by simp[Qb,bI]at h;obtain⟨a,⟨r,hr,rfl⟩,hk⟩:=h;rw[jo]at hk;exact List.mem_flatten.2 ⟨_,mem_map.2 ⟨r,hr,rfl⟩,hk⟩
theorem ace:∀ts:List Tree,fe (ts.map AV.t)=[]
 |[]=>rfl
 |t::ts=>by simp[fe,refs,ace ts]
theorem ajl{P:Program}{get:Nat->Option aP}:∀(ts:List Tree)(hs:List LH),mX P get (ts.map AV.t) hs=some (ts.map AV.t,hs,[])
 |[],hs=>rfl
 |t::ts,hs=>by simp[mX,pE,ajl ts hs]
theorem akB{P:Program}{get:Nat->Option aP}{ab:List Nat}(v:TV):qL P get ab v.av []=some (v.av,[],[]):=by rcases v with x|cs;rfl;have h:refs (.agg (cs.map AV.t))=[]:=ace cs;simp[TV.av,qL,h,pE,ajl]
theorem aaI{P:Program}{get:Nat->Option aP}{ab:List Nat}:∀rows:List (TV×TV),Bp P get ab (rows.map λq=>[q.1.av,q.2.av]) (rows.map λ_=>[])=some (rows.map λq=>[q.1.av,q.2.av],[])
 |[]=>rfl
 |q::rows=>by simp[Bp,mH,akB,aaI rows]
theorem Ay(hi:∀q∈NM,ab[q.2]? =some q.1)(hv:∀k∈qt,k∉ab)(hrd:∀k,(∃ q,(k,q)∈NM)\/k∈qt->k∈rd)(ho:∀q∈NM,∀c l,get q.1=some (.eE c l)->eh q.2=l.length):
 ∀(os:List (Nat×OP X.ι))(m m':MG X),Dc get os m=some m'->(∀ q∈m'.nm,q∈NM)->(∀ c∈m'.kh,c=true)->(∀ k∈m'.vr,k∈qt)->
 ∃am,m'.fi=m.fi++am/\∃xs:List (Nat×bo X),(∀ ae,cZ eh os (am++ae)=xs.map λp=>(p.1,some p.2))/\
  ∃bs mo,(∀ p∈mo,p)/\Ig P (dM rd (fH get)) ab (os.map λp=>(ab[p.1]?).getD 0) bs=some (xs.map λp=>bI p.2,mo)/\akA (dM rd (fH get)) NM qt bs (os.map λp=>(ab[p.1]?).getD 0)
 |[],m,m',h,_,_,_=>by simp[Dc]at h;subst h;exact⟨[],by simp,[],λae=>rfl,[],[],by simp,rfl,λj hs q o h=>by simp at h⟩
 |(k,op)::r,m,m',h,hn,hc,hr=>by
  simp[Dc]at h;rw[ah]at h;obtain⟨o,h1,h⟩:=h;split at h;rename_i c c' l;have⟨l',h2,h⟩:=ah.1 h;have hm:=(mI r _ m' h).1;have hq:(rk m k,k)∈NM:=hn _ (hm.1 _ (by simp));have hid:(ab[k]?).getD 0=rk m k:=by rw[hi _ hq];rfl
  have hget:=eU (hrd (rk m k) (.inl ⟨k,hq⟩)) h1;have⟨h3,h4⟩:=jH h2;obtain⟨n2,a2,xs,b2,bs,mo,p2,q2,r2⟩:=Ay hi hv hrd ho r _ m' h hn hc hr;refine⟨[⟨.sl c,l'⟩]++n2,by rw[a2,aM],(k,.eE c l')::xs,λae=>by simp[cZ,b2],.dat (CT.sz X c,l'.map (CT.row X.toSE c))::bs,((bI (.eE c' l)).sz=CT.sz X c/\dZ ((bI (.eE c' l)).rows.take (l'.map (CT.row X.toSE c)).length)=aI (l'.map (CT.row X.toSE c)))::mo,?_,?_,?_⟩;intro p hp;rcases aR.1 hp with rfl|hp;refine⟨h3,?_⟩;simp[bI,h4];rw[take_of_length_le (by simp[aI])];simp[dZ,aI,wk];exact p2 p hp;simp[bE,Ig,VN,hid,hget,ai,q2,cons_append,gu];rfl;intro j hs q o' hj hq' ho';cases j with
  |zero=>simp at hj
  |succ j=>exact r2 j hs q o' (by simpa using hj) (by simpa using hq') ho'
  rename_i kc vc ur uc l;split at h;rename_i hone;have⟨l',h2,h⟩:=ah.1 h;have hm:=(mI r _ m' h).1;have hq:(rk m k,k)∈NM:=hn _ (hm.1 _ (by simp));have hid:(ab[k]?).getD 0=rk m k:=by rw[hi _ hq];rfl
  have hget:=eU (hrd (rk m k) (.inl ⟨k,hq⟩)) h1;have hden:bI (.map ur uc l)=bI (.map kc vc l'):=by have⟨e,h2⟩:=sj h2;injection e with e1 e2;subst e1;subst e2;subst h2;rfl
  obtain⟨n2,a2,xs,b2,bs,mo,p2,q2,r2⟩:=Ay hi hv hrd ho r _ m' h hn hc hr;rcases hone with hone|_;have hab:bI (.map kc vc l')=iS (List.length l',l'.map λq=>CT.row X.toSE kc q.1++CT.row X.toSE vc q.2):=by simp only[bI,iS,aI,map_map];congr 1;refine map_congr_left λq _=>?_;obtain⟨t1,g1,g2⟩:=row_one hone.1 q.1;obtain⟨t2,g3,g4⟩:=row_one hone.2 q.2;simp[g1,g2,g3,g4,TV.av]
  refine⟨[⟨.mp kc vc,l'⟩]++n2,by rw[a2,aM],(k,.map kc vc l')::xs,λae=>by simp[cons_append,gu,cZ,b2,bE],.dat (List.length l',l'.map λq=>CT.row X.toSE kc q.1++CT.row X.toSE vc q.2)::bs,((bI (.map ur uc l)).sz=List.length l'/\dZ ((bI (.map ur uc l)).rows.take (l'.map λq=>CT.row X.toSE kc q.1++CT.row X.toSE vc q.2).length)=aI (l'.map λq=>CT.row X.toSE kc q.1++CT.row X.toSE vc q.2))::mo,?_,?_,?_⟩;intro p hp;rcases aR.1 hp with rfl|hp;rw[hden,hab];refine⟨rfl,?_⟩;simp[iS];rw[take_of_length_le (by simp[aI])];simp[dZ,aI,Function.comp_def,wk];exact p2 p hp;simp[bE,Ig,VN,hid,hget,ai,q2,cons_append,gu,hab];intro j hs q o' hj hq' ho';cases j with
  |zero=>simp at hj
  |succ j=>exact r2 j hs q o' (by simpa using hj) (by simpa using hq') ho'
  refine⟨[⟨.mp kc vc,l'⟩]++n2,by rw[a2,aM],(k,.map kc vc l')::xs,λae=>by simp[cons_append,gu,cZ,b2,bE],.E4 ((l'.map λq=>(CT.tv X.toSE kc q.1,CT.tv X.toSE vc q.2)).map λ_=>[])::bs,mo,p2,?_,?_⟩;have hlr:=aaI (P:=P) (get:=dM rd (fH get)) (ab:=ab) (l'.map λq=>(CT.tv X.toSE kc q.1,CT.tv X.toSE vc q.2));have hdr:(bI (.map kc vc l')).rows=(l'.map λq=>(CT.tv X.toSE kc q.1,CT.tv X.toSE vc q.2)).map λq=>[q.1.av,q.2.av]:=by simp only[bI,map_map];rfl
  simp only[bE,Ig,VN,hid,hget,ai,q2,hden,hdr,hlr,gu];rw[<- hdr];intro j hs q o' hj hq' ho';cases j with
  |zero=>
   simp[bE,List.getElem?_cons_zero,aZ]at hq';subst hq';rw[hid,hget]at ho';injection ho' with ho';subst ho';intro k hk;rw[hden]at hk;simp only[Qb,bI,mem_flatMap,mem_map]at hk;obtain⟨_,⟨q,_,rfl⟩,hk⟩:=hk;simp[fe,Au,append_nil,nO]at hk
  |succ j=>exact r2 j hs q o' (by simpa using hj) (by simpa using hq') ho'
  cases h;rename_i sz rows sz' rows';split at h;rename_i hsz;have⟨m1,h2,h⟩:=ah.1 h;have hm1:=(za rows _ _ m1 h2).1;have hm:=(mI r _ m' h).1;have hq:(rk m k,k)∈NM:=hn _ (hm.1 _ (hm1.1 _ (by simp)));have hid:(ab[k]?).getD 0=rk m k:=by rw[hi _ hq];rfl
  have hget:=eU (hrd (rk m k) (.inl ⟨k,hq⟩)) h1;obtain⟨n1,a1,qs,b1,⟨hs1,o1,p1,q1⟩,r1⟩:=Sj (P:=P) hi hv hrd ho rows _ _ m1 h2 (λ q hq=>hn q (hm.1 q hq)) (λ q hq=>hc q (hm.2.1 q hq)) (λ q hq=>hr q (hm.2.2 q hq));obtain⟨n2,a2,xs,b2,bs,mo,p2,q2,r2⟩:=Ay hi hv hrd ho r _ m' h hn hc hr;subst hsz;refine⟨n1++n2,by rw[a2,a1,aM],(k,.cells sz qs)::xs,λae=>by simp[aM,cZ,b1,b2,bE],.E4 hs1::bs,o1++mo,iH p1 p2,?_,?_⟩;simp[bE,Ig,VN,hid,hget,ai,bI,q1,q2];intro j hs q o' hj hq' ho';cases j with
  |zero=>
   simp[bE,List.getElem?_cons_zero,aZ]at hq';rw[<- hq',hid,hget]at ho';injection ho' with ho';subst ho';exact λz hz=>r1 z (NG hz)
  |succ j=>exact r2 j hs q o' (by simpa using hj) (by simpa using hq') ho'
  cases h;cases h
end
end
end Go.Gb
namespace Go.Gb
open Go.RowKit
section
variable {X:SX} {A:Type}
theorem ahc:∀(l:List (CT X.ι))(v:VT (X:=X) l),(wP l v).map (·.c)=l
 |[],_|[_],_=>rfl
 |c::c'::l,v=>by simp[wP,ahc (c'::l) v.2]
theorem Qo:∀{l:List Tree},(∀ t∈l,t.flat)->qh (l.map AV.t)
 |[],_=>trivial
 |t::l,h=>⟨h t (by simp),Qo (λ u hu=>h u (by simp[hu]))⟩
theorem acf{c:CT X.ι}(h:xV c=true)(x:CT.T X.toSE c):y5 (CT.tv X.toSE c x).av:=by
 have hf:=vG h x;cases c
 case st i=>exact Qo hf
 all_goals first|exact hf _ (bD.2 rfl)|cases h
section
variable {ol:Nat->Nat}
mutual
theorem aoI:∀(p:Pt X.ι)(L:List (DC X))(cs:List (CT X.ι)),L.map (·.c)=p.vars++cs->p.vars.all xV=true->y5 (den (eP ol p L).1)/\(eP ol p L).2.map (·.c)=cs
 |.v c,L,cs,h,hs=>by
  match L,h with
  |d::r,h=>
   simp[Pt.vars]at h;simp[Pt.vars]at hs;exact⟨acf (h.1 ▸ hs) d.x,h.2⟩
  |[],h=>simp[Pt.vars]at h
 |.o k,L,cs,h,_|.p k,L,cs,h,_|.mp k,L,cs,h,_|.oz k,L,cs,h,_|.nil,L,cs,h,_=>⟨trivial,by simpa[Pt.vars,eP]using h⟩
 |.od k,L,cs,h,_=>by
  match L,h with
  |d::r,h=>
   simp[Pt.vars]at h;exact⟨trivial,h.2⟩
  |[],h=>simp[Pt.vars]at h
 |.f F fs ps,L,cs,h,hs=>by simp only[Pt.vars,List.all_append,bK]at hs;simp[Pt.vars]at h;obtain⟨a1,a2⟩:=Df fs L _ h hs.1;obtain⟨b1,b2⟩:=Df ps _ _ a2 hs.2;exact⟨⟨a1,b1⟩,b2⟩
 |.a ps,L,cs,h,hs=>by simp only[Pt.vars]at h hs;exact Df ps L cs h hs
theorem Df:∀(ps:List (Pt X.ι))(L:List (DC X))(cs:List (CT X.ι)),L.map (·.c)=cX ps++cs->(cX ps).all xV=true->qh (bO (lR ol ps L).1)/\(lR ol ps L).2.map (·.c)=cs
 |[],L,cs,h,_=>⟨trivial,by simpa[cX,lR]using h⟩
 |p::ps,L,cs,h,hs=>by simp only[cX,List.all_append,bK]at hs;simp[cX]at h;obtain⟨a1,a2⟩:=aoI p L _ h hs.1;obtain⟨b1,b2⟩:=Df ps _ _ a2 hs.2;exact⟨⟨a1,b1⟩,b2⟩
end
mutual
theorem aoJ:∀(p:Pt X.ι)(L:List (DC X)),∀j∈bz (eP ol p L).1,j∈p.refs
 |.v c,L,j,h=>by cases L<;>simp[eP,bz]at h
 |.o k,L,j,h|.p k,L,j,h|.mp k,L,j,h|.oz k,L,j,h=>by simpa[eP,bz,Pt.refs]using h
 |.nil,L,j,h=>by simp[eP,bz]at h
 |.od k,L,j,h=>by cases L<;>simp[eP,bz]at h<;>simp[Pt.refs,h]
 |.f F fs ps,L,j,h=>by simp[eP,bz]at h;simp[Pt.refs];exact h.imp (zb fs _ j) (zb ps _ j)
 |.a ps,L,j,h=>by simp[eP]at h;simp[Pt.refs];exact zb ps _ j h
theorem zb:∀(ps:List (Pt X.ι))(L:List (DC X)),∀j∈aL (lR ol ps L).1,j∈BG ps
 |[],L,j,h=>by simp[lR,aL]at h
 |p::ps,L,j,h=>by simp[lR,aL]at h;simp[BG];exact h.imp (aoJ p _ j) (zb ps _ j)
end
theorem Mc:∀(rs:List (List (Pt X.ι)))(L:List (DC X))(cs:List (CT X.ι)),L.map (·.c)=wO rs++cs->(wQ ol rs L).2.map (·.c)=cs/\((wO rs).all xV=true->∀r∈(wQ ol rs L).1,qh (bO r))
 |[],L,cs,h=>⟨by simpa[wO,wQ]using h,by simp[wQ]⟩
 |r::rs,L,cs,h=>by simp[wO]at h;have step:(lR ol r L).2.map (·.c)=wO rs++cs:=uv r L _ h;obtain⟨b1,b2⟩:=Mc rs _ _ step;refine⟨b1,λhs q hq=>?_⟩;simp only[wO,List.all_append,bK]at hs;simp[wQ]at hq;rcases hq with rfl|hq;exact(Df r L _ h hs.1).1;exact b2 hs.2 q hq
where
 uv (ps:List (Pt X.ι)) (L:List (DC X)) (cs:List (CT X.ι)) (h:L.map (·.c)=cX ps++cs):(lR ol ps L).2.map (·.c)=cs:=pS ps L cs h
 E3:∀(p:Pt X.ι)(L:List (DC X))(cs:List (CT X.ι)),L.map (·.c)=p.vars++cs->(eP ol p L).2.map (·.c)=cs
  |.v c,L,cs,h=>by
   match L,h with
   |d::r,h=>simp only[Pt.vars,bE,List.singleton_append,List.cons.injEq]at h;exact h.2
   |[],h=>simp[Pt.vars]at h
  |.o k,L,cs,h=>by simpa[Pt.vars,eP]using h
  |.p k,L,cs,h=>by simpa[Pt.vars,eP]using h
  |.mp k,L,cs,h=>by simpa[Pt.vars,eP]using h
  |.oz k,L,cs,h=>by simpa[Pt.vars,eP]using h
  |.nil,L,cs,h=>by simpa[Pt.vars,eP]using h
  |.od k,L,cs,h=>by
   match L,h with
   |d::r,h=>simp only[Pt.vars,bE,List.singleton_append,List.cons.injEq]at h;exact h.2
   |[],h=>simp[Pt.vars]at h
  |.f F fs ps,L,cs,h=>by simp only[Pt.vars,aM]at h;exact pS ps _ _ (pS fs L _ h)
  |.a ps,L,cs,h=>by simp only[Pt.vars]at h;exact pS ps L cs h
 pS:∀(ps:List (Pt X.ι))(L:List (DC X))(cs:List (CT X.ι)),L.map (·.c)=cX ps++cs->(lR ol ps L).2.map (·.c)=cs
  |[],L,cs,h=>by simpa[cX,lR]using h
  |p::ps,L,cs,h=>by simp only[cX,aM]at h;exact pS ps _ _ (E3 p L _ h)
theorem WJ:∀(rs:List (List (Pt X.ι)))(L:List (DC X)),∀j∈((wQ ol rs L).1.map aL).flatten,j∈rs.flatMap BG
 |[],L,j,h=>by simp[wQ]at h
 |r::rs,L,j,h=>by simp only[wQ,bE,flatten_cons,bV]at h;simp only[List.flatMap_cons,bV];exact h.imp (zb r _ j) (WJ rs _ j)
theorem ze:∀(O:List (Nat×OP X.ι))(L:List (DC X)),((dK (cZ ol O L)).map (·.1)).Sublist (O.map (·.1))/\(∀ p∈dK (cZ ol O L),∃op,(p.1,op)∈O/\∀j∈ev p.2,j∈op.refs)/\
 (L.map (·.c)=d6 O->(O.all λq=>match q.2 with|.l c=>xV c|.m _ _=>false|.c _ rows=>(wO rows).all xV)=true->∀p∈dK (cZ ol O L),∀r∈(bI p.2).rows,qh r)
 |[],L=>⟨by simp[cZ,dK],by simp[cZ,dK],by simp[cZ,dK]⟩
 |(k,.l c)::O,L=>by
  match L with
  |[]=>exact⟨by simp[cZ,dK],by simp[cZ,dK],by simp[cZ,dK]⟩
  |⟨.sl c',x⟩::L=>
   have⟨h1,h2,h3⟩:=ze O L;refine⟨?_,?_,?_⟩;simp only[cZ,dK,bE];exact h1.cons_cons _;intro p hp;simp[cZ,dK]at hp;rcases hp with rfl|hp;exact⟨.l c,by simp,by simp[ev]⟩;have⟨op,g1,g2⟩:=h2 p hp;exact⟨op,eY _ g1,g2⟩;intro hL hs p hp r hr;simp only[bE,d6,List.cons.injEq]at hL;simp only[all_cons,bK]at hs;simp[cZ,dK]at hp;rcases hp with rfl|hp;obtain⟨e,_⟩:=hL;injection e with e;simp only[bI,aI,mem_map]at hr;obtain⟨q,⟨y,hy,rfl⟩,rfl⟩:=hr;exact Qo (vG (e ▸ hs.1) y);exact h3 hL.2 hs.2 p hp r hr
  |⟨.int _,x⟩::L=>exact⟨by simp[cZ,dK],by simp[cZ,dK],by simp[cZ,dK]⟩
  |⟨.bool,x⟩::L=>exact⟨by simp[cZ,dK],by simp[cZ,dK],by simp[cZ,dK]⟩
  |⟨.str,x⟩::L=>exact⟨by simp[cZ,dK],by simp[cZ,dK],by simp[cZ,dK]⟩
  |⟨.any,x⟩::L=>exact⟨by simp[cZ,dK],by simp[cZ,dK],by simp[cZ,dK]⟩
  |⟨.mp _ _,x⟩::L=>exact⟨by simp[cZ,dK],by simp[cZ,dK],by simp[cZ,dK]⟩
  |⟨.st _,x⟩::L=>exact⟨by simp[cZ,dK],by simp[cZ,dK],by simp[cZ,dK]⟩
 |(k,.m kc vc)::O,L=>by
  match L with
  |[]=>exact⟨by simp[cZ,dK],by simp[cZ,dK],by simp[cZ,dK]⟩
  |⟨.mp ur uc,x⟩::L=>
   have⟨h1,h2,h3⟩:=ze O L;refine⟨?_,?_,?_⟩;simp only[cZ,dK,bE];exact h1.cons_cons _;intro p hp;simp[cZ,dK,aR]at hp;rcases hp with rfl|hp;exact⟨.m kc vc,by simp,by simp[ev]⟩;have⟨op,g1,g2⟩:=h2 p hp;exact⟨op,eY _ g1,g2⟩;intro hL hs;simp at hs
  |⟨.sl _,x⟩::L=>exact⟨by simp[cZ,dK],by simp[cZ,dK],by simp[cZ,dK]⟩
  |⟨.int _,x⟩::L=>exact⟨by simp[cZ,dK],by simp[cZ,dK],by simp[cZ,dK]⟩
  |⟨.bool,x⟩::L=>exact⟨by simp[cZ,dK],by simp[cZ,dK],by simp[cZ,dK]⟩
  |⟨.str,x⟩::L=>exact⟨by simp[cZ,dK],by simp[cZ,dK],by simp[cZ,dK]⟩
  |⟨.any,x⟩::L=>exact⟨by simp[cZ,dK],by simp[cZ,dK],by simp[cZ,dK]⟩
  |⟨.st _,x⟩::L=>exact⟨by simp[cZ,dK],by simp[cZ,dK],by simp[cZ,dK]⟩
 |(k,.c sz rows)::O,L=>by have⟨h1,h2,h3⟩:=ze O (wQ ol rows L).2;refine⟨?_,?_,?_⟩;simp only[cZ,dK,bE];exact h1.cons_cons _;intro p hp;simp[cZ,dK,aR]at hp;rcases hp with rfl|hp;exact⟨.c sz rows,by simp,λj hj=>WJ rows L j hj⟩;have⟨op,g1,g2⟩:=h2 p hp;exact⟨op,eY _ g1,g2⟩;intro hL hs p hp r hr;simp[d6]at hL;simp only[all_cons,bK]at hs;obtain⟨e1,e2⟩:=Mc (ol:=ol) rows L _ hL;simp[cZ,dK,aR]at hp;rcases hp with rfl|hp;simp[bI,mem_map]at hr;obtain⟨q,hq,rfl⟩:=hr;exact e2 hs.1 q hq;exact h3 e1 hs.2 p hp r hr
end
theorem Qp(k:Nat):∀os:List (Nat×bo X),oS (tV os) k=(tU os k).map bI
 |[]=>rfl
 |(j,o)::r=>by simp[tV,oS,tU];split;rfl;exact Qp k r
theorem WK(f:Nat->Nat)(c:CT X.ι)(x:CT.T X.toSE c):k5 f (CT.tv X.toSE c x).av=(CT.tv X.toSE c x).av:=(Aw f (.c c x)).symm
theorem ael(f:Nat->Nat)(o:bo X):bI (qn f o)=KI f (bI o):=by
 cases o with
 |cells sz rows=>simp only[qn,bI,KI,map_map];congr 1;exact map_congr_left λr _=>Ir f r
 |eE c l=>simp only[qn,bI,KI,aI,map_map];congr 1;exact map_congr_left λr _=>(aha f _).symm
 |map kc vc l=>simp only[qn,bI,KI,map_map];congr 1;exact map_congr_left λr _=>by simp[Br,WK]
theorem akC(i:Nat)(ab:List Nat)(os:List (Nat×bo X)):iV (Q4 i ab os)=A0 i ab (tV os):=by simp[Q4,sN];congr 1;simp only[iV,map_map];refine map_congr_left λp _=>?_;simp[Qp];cases tU os p.2<;>simp[ael];simp[iV,tV,List.filter_map];refine map_congr_left λq _=>?_;simp[ael]
theorem WL{ds:List (DV X)}:(∀ j∈refs (den (y9 ds)),j∈aL ds)/\(qh (bO ds)->y5 (den (y9 ds))):=by
 match ds with
 |[]=>exact⟨λ j hj=>by simp[y9,den,bO,refs,fe]at hj,λ_=>by simp[y9];exact trivial⟩
 |[d]=>exact⟨λ j hj=>by simp[y9,jm]at hj;simpa[aL]using hj,λh=>h.1⟩
 |d::e::r=>exact⟨λ j hj=>by simp[y9,den,refs,jo]at hj;exact hj,λh=>h⟩
theorem aaJ:∀xs:List (Nat×bo X),dK (xs.map λp=>(p.1,some p.2))=xs
 |[]=>rfl
 |p::xs=>by simp[dK,aaJ xs]
theorem acg{P:Program}{g:dp X}{F:FuncId}(hg:Hi P F g){i:Nat}{first args caps:List (DV X)}{get:Nat->Option (bo X)}{k:KK X A}{r:A}(h:ahb g i (first++args++caps) get k=some r):
 ∃cJ rd wr dv upd out,lM P i (den (.fn F first caps)) (bO args) cJ (dM rd (fH get))=some out/\jO out.obs/\out.v=den dv/\out.upd=iV upd/\(∀ p∈upd,p.1=cT i\/p.1∈wr)/\k dv upd rd wr=some r:=by
 unfold ahb at h;rw[ah]at h;obtain⟨m1,h1,h⟩:=h;rw[ah]at h;obtain⟨m,h2,h⟩:=h;have⟨h3,h⟩:=eD h;rw[ah]at h;obtain⟨v,h4,h⟩:=h;have⟨h5,h⟩:=qi h;rw[ah]at h;obtain⟨rr,h6,h⟩:=h;simp at h3;obtain⟨hok,CA⟩:=h3;simp only at h;generalize lr:(List.range g.kf.length).map (rk m)=ab at h CA;simp only[dp.ok,bK,bT]at hok;obtain⟨⟨⟨⟨n1,n2⟩,n3⟩,n4⟩,n5⟩:=hok;simp only[okG,bK,bT]at CA;obtain⟨⟨hnd,hnm⟩,B8⟩:=CA;have hlen:ab.length=g.kf.length:=by rw[<- lr];simp
 have hi:∀q∈m.nm,ab[q.2]? =some q.1:=by intro q hq;have:=all_eq_true.1 hnm q hq;split at this;rename_i k' e;rw[e,Nat.eq_of_beq_eq_true this];cases this
 have hv:∀k∈m.vr,k∉ab:=λk hk=>by have:=all_eq_true.1 B8 k hk;simpa using this
 have hrd:∀k,(∃ q,(k,q)∈m.nm)\/k∈m.vr->k∈ab++m.vr:=by rintro k (⟨q,hq⟩|hk);exact mem_append_left _ (dh (hi _ hq));exact mem_append_right _ hk
 have hm2:=(mI _ _ _ h2).1;have wi:=Wu h4;obtain⟨_,nA,dA,lA⟩:=wT _ _ _ _ h1;simp at dA;obtain⟨nB,dB,lB⟩:=EB (NM:=m.nm) _ _ _ h2 (λ q hq=>hq);have hL:m.fi=nA++nB:=by rw[dB,dA]
 have hdrop:(wP _ v).drop (cX g.p7).length=nB:=by rw[wi,hL,<- lA,List.drop_left]
 have htake:(wP _ v).take (cX g.p7).length=nA:=by rw[wi,hL,<- lA,List.take_left]
 have ho:∀q∈m.nm,∀c l,get q.1=some (.eE c l)->Ey g.kf nB q.2=l.length:=by
  rintro⟨p,q⟩ hq c l hl;have hq2:=hi _ hq;have hqn:q<g.kf.length:=by rw[<- hlen];exact(dH.1 hq2).1
  obtain⟨p',o,g1,g2,g3⟩:=lB [] q (by rw[n1];exact List.mem_range.2 hqn);have:p'=p:=by have e1:=hi _ g1;rw[hq2]at e1;injection e1 with e1;exact e1.symm
  subst this;simp at hl;rw[hl]at g2;injection g2 with g2;have h3:=g3 c l g2.symm;rw[append_nil]at h3;have hk:=(Ma g.kf nB).nodup (by rw[n1];exact List.nodup_range);simp[Ey,vE hk h3]
 obtain⟨TZ,L7,ds',eA,⟨hs,obs,pA,qA⟩,rA⟩:=yR (P:=P) (ab:=ab) (rd:=ab++m.vr) (NM:=m.nm) (qt:=m.vr) (eh:=Ey g.kf nB) hi hv hrd ho _ _ _ _ h1 (λ q hq=>hm2.1 q hq) (λ c hc=>h5 c (hm2.2.1 c hc)) (λ q hq=>hm2.2.2 q hq);obtain⟨nB',dB',xs,eB,bs,mo,pB,qB,rB⟩:=Ay (P:=P) (ab:=ab) (rd:=ab++m.vr) (NM:=m.nm) (qt:=m.vr) (eh:=Ey g.kf nB) hi hv hrd ho _ _ _ h2 (λ q hq=>hq) h5 (λ q hq=>hq);have eqA:TZ=nA:=by simp at L7;rw[<- L7,dA]
 have eqB:nB'=nB:=List.append_cancel_left (dB'.symm.trans dB);subst eqA eqB;have L4:=eA [];have L3:=eB [];rw[append_nil]at L4 L3;have hargs:g.args v=ds':=by simp[dp.args,Ww,hdrop,htake,L4]
 have tR:g.cR v=xs:=by simp[dp.cR,N4,hdrop,L3,aaJ]
 have Wg:(g.kf.map λp=>(ab[p.1]?).getD 0)=ab:=by
  have:(g.kf.map λp=>(ab[p.1]?).getD 0)=(g.kf.map (·.1)).map λj=>(ab[j]?).getD 0:=by rw[map_map];rfl
  rw[this,n1];refine List.ext_getElem (by simp[hlen]) λj a b=>?_;simp[dI b]
 rw[Wg]at qB rB;have qA0:=qA [];rw[append_nil,iY,iY]at qA0;have hcon:=hg v rr h6;rw[hargs,tR]at hcon;obtain⟨s1,s2,s3⟩:=ze (ol:=Ey g.ka ((wP (jj (ma 0 g.gz)++d6 g.ka) rr).drop (cX g.gz).length)) g.ka ((wP _ rr).drop (cX g.gz).length);have BT:∀k,ID g.kf.length k=true->Gk ab.length k:=by intro k hk;simp[ID]at hk;simp[hlen];exact hk
 have good:HG ab.length (tV (g.outs rr)) (den (g.res rr)):=by
  refine⟨?_,?_,?_,?_⟩;intro q hq;simp only[tV,mem_map]at hq;obtain⟨p,hp,rfl⟩:=hq;have⟨op,g1,_⟩:=s2 p hp;have:=all_eq_true.1 n3 _ g1;simp at this;exact BT _ this.1;have:(tV (g.outs rr)).map (·.1)=(g.outs rr).map (·.1):=by simp[tV]
  rw[this];exact s1.nodup n4;intro q hq r' hr' j hj;simp only[tV,mem_map]at hq;obtain⟨p,hp,rfl⟩:=hq;have⟨op,g1,g2⟩:=s2 p hp;have:=all_eq_true.1 n3 _ g1;simp only[bK]at this;refine BT _ (all_eq_true.1 this.2 j (g2 j ?_));obtain⟨pk,po⟩:=p;cases po with
  |cells sz rows=>exact NG (mem_flatMap.2 ⟨r',hr',hj⟩)
  |eE c l=>
   simp[bI,aI,mem_map]at hr';obtain⟨z,_,rfl⟩:=hr';rw[ace]at hj;simp at hj
  |map kc vc l=>
   simp only[bI,mem_map]at hr';obtain⟨z,_,rfl⟩:=hr';simp only[fe,Au,append_nil]at hj;simp at hj
  intro j hj;have:=(WL (ds:=Ww g.gz g.ka (wP _ rr))).1 j hj;exact BT _ (all_eq_true.1 n5 j (zb g.gz _ j this))
 have flat:g.flat=true->ot (tV (g.outs rr)) (den (g.res rr)):=by intro hf;simp only[dp.flat,bK]at hf;have hc:(wP (jj (ma 0 g.gz)++d6 g.ka) rr).map (·.c)=cX g.gz++d6 g.ka:=(ahc _ rr).trans (by rw[Ql]);refine⟨(WL (ds:=Ww g.gz g.ka (wP _ rr))).2 ?_,?_⟩;refine(Df (ol:=_) g.gz _ [] ?_ hf.1).1;rw[append_nil,map_take,hc,List.take_left];intro q hq r' hr';simp only[tV,mem_map]at hq;obtain⟨p,hp,rfl⟩:=hq;exact s3 (by rw[map_drop,hc,List.drop_left]) hf.2 p hp r' hr'
 have c9:VO (dM (ab++m.vr) (fH get)) (bO first++bO args++bO caps) ab m.vr bs:=by refine⟨hv,λj hj hn=>?_,λj hs' q o e1 e2 e3 z hz hn=>?_⟩;rw[<- iY,<- iY,jo]at hj;rcases rA j hj with ⟨q,hq⟩|hj;exact absurd (dh (hi _ hq)) hn;exact hj;rcases rB j hs' q o e1 e2 e3 z hz with ⟨q',hq⟩|hz;exact absurd (dh (hi _ hq)) hn;exact hz
 refine⟨.t7 ab m.vr bs hs (tV (g.outs rr)) (den (g.res rr)) g.flat,ab++m.vr,_,_,_,
  ⟨k5 (cn i ab) (den (g.res rr)),A0 i ab (tV (g.outs rr))++(if g.flat then []else m.vr.map λk=>(k,none)),obs++mo++[zd P F (bO ds') (xs.map λp=>bI p.2) (tV (g.outs rr)) (den (g.res rr)),HG ab.length (tV (g.outs rr)) (den (g.res rr)),VO (dM (ab++m.vr) (fH get)) (bO first++bO args++bO caps) ab m.vr bs]++(if g.flat then [ot (tV (g.outs rr)) (den (g.res rr))]else [])⟩,?_,?_,(Aw _ _).symm,?_,?_,h⟩
 simp only[den,lM,Ni,qB,qA0,ai];rw[aX ⟨hnd,by omega⟩];refine rJ _ (iH (iH (iH pA pB) ?_) ?_);intro z hz;simp only[aR,nO,or_false]at hz;rcases hz with rfl|rfl|rfl;exact hcon;exact good;exact c9;intro z hz;cases hf:g.flat with
 |true=>rw[hf]at hz;simp only[if_true,bD]at hz;subst hz;exact flat hf
 |false=>rw[hf]at hz;simp at hz
 simp[sN,akC];congr 1;cases g.flat with
 |true=>rfl
 |false=>exact(Da m.vr).symm
 intro p hp;refine .inr ?_;rcases bV.1 hp with hp|hp;exact mem_append_left _ (mem_append_right _ (mem_map.2 ⟨p,hp,rfl⟩));cases hf:g.flat with
 |true=>rw[hf]at hp;simp at hp
 |false=>
  rw[hf]at hp;simp[Bool.false_eq_true,if_false,mem_map]at hp;obtain⟨z,hz,rfl⟩:=hp;exact mem_append_right _ hz
end
section
variable {X:SX} {A:Type}
def WM:RT X.ι->Bool
 |.d c=>xV c
 |.fresh e=>xV e
 |.whole _=>true
 |.mu c=>xV c
 |.mr c=>xV c
 |.mv=>true
theorem aem{c:CT X.ι}(h:xV c=true)(x:CT.T X.toSE c):(CT.tv X.toSE c x).flat:=by
 cases c
 case st i=>exact vG h x
 all_goals first|exact trivial|cases h
theorem WN{ns:List Nat}{q:RT X.ι}{x:RT.T X q}(h:WM q=true):∀c∈Wx ns q x,c.flat:=by
 intro c hc;cases q<;>simp[Wx]at hc
 case d c=>subst hc;exact aem h x
 case fresh e=>
  subst hc;intro row hr;obtain⟨y,_,rfl⟩:=mem_map.1 hr;exact vG h y
 case whole j=>subst hc;exact trivial
theorem Sk{ns:List Nat}:∀{l:List (RT X.ι)}{x:tK X l},l.all WM=true->∀c∈BB ns l x,c.flat
 |[],x,_,c,hc=>by simp[BB]at hc
 |[q],x,h,c,hc=>WN (by simpa using h) c hc
 |q::q'::l,x,h,c,hc=>by simp at h;simp[BB]at hc;rcases hc with hc|hc;exact WN h.1 c hc;exact Sk (by simp;exact h.2) c hc
theorem WO{l:List (RT X.ι)}(x:tK X l)(h:l.all WM=true):(tX l x).flat:=by have:=Sk (ns:=y6 l x) (x:=x) h;unfold tX;split;rename_i c hc;exact this c (by rw[hc];simp);exact this
theorem aaK{q:RT X.ι}{x:RT.T X q}(h:WM q=true):Vz (qM q x):=by
 intro p hp;cases q<;>simp[qM]at hp
 case mu c=>
  subst hp;intro r hr;obtain⟨y,_,rfl⟩:=mem_map.1 hr;exact vG h y
 case mr c=>
  subst hp;intro r hr;obtain⟨y,_,rfl⟩:=mem_map.1 hr;exact vG h y
theorem aaL:∀{l:List (RT X.ι)}{x:tK X l},l.all WM=true->Vz (oH l x)
 |[],x,_=>λp hp=>by simp[oH]at hp
 |[q],x,h=>aaK (q:=q) (by simpa using h)
 |q::q'::l,x,h=>by simp at h;intro p hp;rcases bV.1 (show some p∈qM q x.1++oH (q'::l) x.2 from hp)with hp|hp;exact aaK h.1 p hp;exact aaL (l:=q'::l) (by simp;exact h.2) p hp
def Iu(i:Nat)(ab ns:List Nat):(q:RT X.ι)->RT.T X q->List (DV X)×List (Nat×Option (bo X))
 |.d c,x=>([.c c x],[])
 |.fresh e,l=>([.own (cT i) 0 l.length],[(cT i,some (.eE e l))])
 |.whole j,_=>([match ab[j]? with|some k=>.own k 0 (ns.getD j 0)|none=>.undef],[])
 |_,_=>([],[])
def Lu(i:Nat)(ab ns:List Nat):(l:List (RT X.ι))->tK X l->Option (List (DV X)×List (Nat×Option (bo X)))
 |[],_=>some ([],[])
 |[q],x=>some (Iu i ab ns q x)
 |q::q'::l,x=>(Lu i ab ns (q'::l) x.2).bind λp=>if (Iu i ab ns q x.1).2.isEmpty || p.2.isEmpty then some ((Iu i ab ns q x.1).1++p.1,(Iu i ab ns q x.1).2++p.2)else none
def aqX:List (DV X)->DV X
 |[d]=>d
 |ds=>.fj ds
def HB(i:Nat)(ab:List Nat)(l:List (RT X.ι))(x:tK X l):Option (DV X×List (Nat×Option (bo X))):=
 (Lu i ab (y6 l x) l x).bind λp=>some (aqX p.1,p.2)
theorem ach(u:List (Nat×Option (bo X))):(iV u).isEmpty=u.isEmpty:=by cases u<;>rfl
theorem aaM(i:Nat)(ab ns:List Nat)(q:RT X.ι)(x:RT.T X q):(∃ c,Wx ns q x=[c]/\∃d,(Iu i ab ns q x).1=[d]/\KH i ab c=(den d,iV (Iu i ab ns q x).2))\/(Wx ns q x=[]/\Iu i ab ns q x=([],[])):=by
 cases q
 case d c=>exact .inl ⟨_,rfl,_,rfl,rfl⟩
 case fresh e=>exact .inl ⟨_,rfl,_,rfl,by simp[KH,Iu,den,iV,bI,aI]⟩
 case whole j=>
  refine .inl ⟨_,rfl,_,rfl,?_⟩;simp[KH,iV,Iu];cases ab[j]?<;>rfl
 all_goals exact .inr ⟨rfl,rfl⟩
theorem aen(i:Nat)(ab:List Nat)(c:RC):M8 i ab [c]=some ([(KH i ab c).1],(KH i ab c).2):=by simp[M8]
theorem aaN(i:Nat)(ab ns:List Nat):∀(l:List (RT X.ι))(x:tK X l)(p:List (DV X)×List (Nat×Option (bo X))),Lu i ab ns l x=some p->M8 i ab (BB ns l x)=some (bO p.1,iV p.2)
 |[],_,p,h=>by simp[Lu]at h;subst h;rfl
 |[q],x,p,h=>by simp[Lu]at h;subst h;simp[BB];rcases aaM i ab ns q x with ⟨c,h1,d,h2,h3⟩|⟨h1,h2⟩;rw[h1,aen,h2,h3];simp[bO];rw[h1,h2];rfl
 |q::q'::l,x,p,h=>by simp only[Lu]at h;rw[ah]at h;obtain⟨p',h1,h⟩:=h;have ih:=aaN i ab ns (q'::l) x.2 p' h1;split at h;rename_i hc;cases h;simp[BB];rcases aaM i ab ns q x.1 with ⟨c,h1,d,h2,h3⟩|⟨h1,h2⟩;rw[h1];simp only[List.singleton_append,M8,ih,ai,h3,ach];rw[aX hc,h2];simp[bO,iV];rw[h1,h2];exact ih;cases h
theorem aeo{i:Nat}{ab:List Nat}{l:List (RT X.ι)}{x:tK X l}{p:DV X×List (Nat×Option (bo X))}(h:HB i ab l x=some p):imp i ab (tX l x)=some (den p.1,iV p.2):=by
 unfold HB at h;rw[ah]at h;obtain⟨p',h1,h⟩:=h;cases h;have ih:=aaN i ab _ l x p' h1;unfold tX;split;rename_i c hc;rw[hc,aen]at ih;simp at ih;obtain⟨ds,u⟩:=p'
 match ds,ih with
 |[d],ih=>
  simp[bO]at ih;simp[imp,aqX,<- ih.1,<- ih.2]
 |[],ih|_::_::_,ih=>simp[bO]at ih
 rename_i hne;simp[imp,ih];obtain⟨ds,u⟩:=p'
 match ds,ih with
 |[],_|_::_::_,_=>rfl
 |[d],ih=>
  exfalso;generalize hcs:BB (y6 l x) l x=cs at ih hne
  match cs,ih,hne with
  |[],ih,_=>simp[M8,bO]at ih
  |[c],_,hne=>exact hne c rfl
  |c::c'::cs,ih,_=>
   simp[M8]at ih;cases h3:M8 i ab cs with
   |none=>rw[h3]at ih;simp at ih
   |some q=>
    rw[h3]at ih;simp at ih;split at ih;simp only[ai]at ih;split at ih;simp[bO]at ih;cases ih;simp at ih
def P3:(q:RT X.ι)->RT.T X q->List (Option (bo X))
 |.mu c,x=>[some (.eE c x)]
 |.mr c,x=>[some (.cells (CT.sz X c) [vF c x])]
 |.mv,_=>[none]
 |_,_=>[]
def WQ:(l:List (RT X.ι))->tK X l->List (Option (bo X))
 |[],_=>[]
 |[q],x=>P3 q x
 |q::q'::l,x=>P3 q x.1++WQ (q'::l) x.2
def Lv:List Nat->List (Option (bo X))->List (Nat×Option (bo X))
 |k::ab,p::os=>(k,p)::Lv ab os
 |_,_=>[]
theorem aep(q:RT X.ι)(x:RT.T X q):(P3 q x).map (·.map bI)=(qM q x).map (·.map iS):=by
 cases q<;>try rfl
 case mr c=>simp[P3,qM,bI,iS,ve,aI,pU]
theorem Qq:∀(l:List (RT X.ι))(x:tK X l),(WQ l x).map (·.map bI)=(oH l x).map (·.map iS)
 |[],_=>rfl
 |[q],x=>aep q x
 |q::q'::l,x=>by simp[WQ,oH,aep,Qq (q'::l) x.2]
theorem aaO:∀(ab:List Nat)(os:List (Option (bo X)))(os':List (Option fC)),os.map (·.map bI)=os'.map (·.map iS)->iV (Lv ab os)=Bq ab os'
 |[],_,_,_=>by simp[Lv,Bq,iV]
 |_::_,[],[],_=>rfl
 |k::ab,p::os,p'::os',h=>by simp at h;have:=aaO ab os os' h.2;simp[iV]at this;simp[Lv,Bq,iV,h.1,this]
 |_::_,[],_::_,h|_::_,_::_,[],h=>by simp at h
theorem Md:∀{ab:List Nat}{os:List (Option (bo X))}{p:Nat×Option (bo X)},p∈Lv ab os->p.1∈ab
 |[],_,_,h|_::_,[],_,h=>by simp[Lv]at h
 |k::ab,q::os,p,h=>by simp[Lv]at h;rcases h with rfl|h;simp;exact eY _ (Md h)
def aci(get:Nat->Option (bo X))(d:DV X)(c:CT X.ι):Option (List (CT.T X.toSE c)×Nat×List Bool):=
 match d with
 |.own k 0 len=>(get k).bind λo=>match o with
  |.eE b l=>(lD (.sl b) (.sl c) l).bind λ(l:List (CT.T X.toSE c))=>some (l,k,[aE len (List.length l)])
  |_=>none
 |_=>none
def WR(get:Nat->Option (bo X))(d:DV X)(c:CT X.ι):Option (CT.T X.toSE c×Nat):=
 match d with
 |.ptr k 0 0=>(get k).bind λo=>match o with
  |.cells sz [row]=>if sz=CT.sz X c then(Ij c row).bind λx=>some (x,k)else none
  |_=>none
 |_=>none
def pV(Γ:FuncId->Option (cx X))(get:Nat->Option (bo X)):List (DV X)->(l:List (AT X.ι))->Option (je X l×List Nat×List Bool)
 |[],[]=>some ((),[],[])
 |d::ds,.mut c::l=>(aci get d c).bind λx=>(pV Γ get ds l).bind λh=>some ((x.1,h.1),x.2.1::h.2.1,x.2.2++h.2.2)
 |d::ds,.ke c::l=>(WR get d c).bind λx=>(pV Γ get ds l).bind λh=>some ((x.1,h.1),x.2::h.2.1,h.2.2)
 |d::ds,.d c::l=>(Sg Γ get 3 [d] [.d c]).bind λx=>(pV Γ get ds l).bind λh=>some ((x.1.1,h.1),h.2.1,x.2++h.2.2)
 |d::ds,.ref c::l=>(Sg Γ get 3 [d] [.ref c]).bind λx=>(pV Γ get ds l).bind λh=>some ((x.1.1,h.1),h.2.1,x.2++h.2.2)
 |d::ds,.eC as r::l=>(Sg Γ get 3 [d] [.eC as r]).bind λx=>(pV Γ get ds l).bind λh=>some ((x.1.1,h.1),h.2.1,x.2++h.2.2)
 |d::ds,.nil::l=>match d with
  |.nil=>(pV Γ get ds l).bind λh=>some (((),h.1),h.2.1,h.2.2)
  |_=>none
 |_,_=>none
def J9:List (DV X)->List (AT X.ι)->List Nat
 |d::ds,a::l=>(if a.im then []else bz d)++J9 ds l
 |_,_=>[]
def WS(get:Nat->Option (bo X)):List (DV X)->(l:List (CT X.ι))->Option (HL X.toSE l×List Bool)
 |[],[]=>some ((),[])
 |d::ds,c::l=>(F7 get d c).bind λx=>(WS get ds l).bind λh=>some ((x.1,h.1),x.2++h.2)
 |_,_=>none
variable (Γ:FuncId->Option (cx X))
def amu(i:Nat)(f:DV X)(args:List (DV X))(get:Nat->Option (bo X))(k:KK X A):Option A:=
 match f with
 |.fn F first caps=>(Γ F).bind λs=>match s.gen.filter λg=>(ta get g.p7 (first++args++caps) ⟨[],[],[],[]⟩).isSome with
  |some g=>ahb g i (first++args++caps) get k
  |none=>if (s.args.all (λ q=>q.pl)&&s.res.all (λ q=>!q.out))=true then(Sg Γ get 3 (first++args++caps) s.args).bind λa=>Wi a.2 ((s.fn a.1).bind λx=>(HB i [] s.res x).bind λp=>
   if s.res.all WM then k p.1 p.2 (aL (first++args++caps)) []
   else k p.1 (p.2++NC (aL (first++args++caps))) (aL (first++args++caps)) (aL (first++args++caps)))
  else(pV Γ get (first++args++caps) s.args).bind λa=>Wi a.2.2 ((s.fn a.1).bind λx=>(HB i a.2.1 s.res x).bind λp=>
   if (decide a.2.1.Nodup&&(J9 (first++args++caps) s.args).all (λ j=>!a.2.1.contains j)&&decide ((WQ s.res x).length=a.2.1.length))=true then
    if s.res.all WM then k p.1 (p.2++Lv a.2.1 (WQ s.res x)) (aL (first++args++caps)) a.2.1
    else k p.1 (p.2++(Lv a.2.1 (WQ s.res x)++NC ((aL (first++args++caps)).filter λj=>!a.2.1.contains j))) (aL (first++args++caps)) (a.2.1++(aL (first++args++caps)).filter λj=>!a.2.1.contains j)
   else none)
 |.eC as q φ=>(WS get args as).bind λh=>Wi h.2 ((φ h.1).bind λy=>
  if xV q then k (.c q y) [] (aL args) []else k (.c q y) (NC (aL args)) (aL args) (aL args))
 |_=>none
def Fl(fz:List Nat)(T:eI)(al:TypeId->Option (CT X.ι))(i:Nat)(o:Op)(ρ:Operand->DV X)(get:Nat->Option (bo X))(k:KK X A):Option A:=
 match o with
 |.call { callee:=.value f,args:=args,argTypes:=_ }=>amu Γ i (ρ f) (args.toList.map ρ) get k
 |o=>if aqU o ρ then aqg T al i o ρ get k else if aqV o ρ || fz.contains i then aqh T al i o ρ get k else if aqW T o ρ then aqi T al o ρ get k else ON T al i o ρ get k
variable {Γ}
theorem NH{P:Program}{get:Nat->Option (bo X)}{rd:List Nat}:∀{ds:List (DV X)}{l:List (CT X.ι)}{h:HL X.toSE l×List Bool},WS get ds l=some h->(∀ b∈h.2,b=true)->(∀ j∈aL ds,j∈rd)->
 ∃hs obs,(∀ p∈obs,p)/\∀ae,mX P (dM rd (fH get)) (bO ds) (hs++ae)=some ((HL.oR X.toSE l h.1).map TV.av,ae,obs)
 |[],[],h,_,_,_=>⟨[],[],by simp,λae=>rfl⟩
 |d::ds,c::l,h,hr,hc,hrd=>by simp[WS]at hr;have⟨x,h1,hr⟩:=ah.1 hr;have⟨g,h2,hr⟩:=ah.1 hr;cases hr;obtain⟨hs1,o1,p1,q1⟩:=Av (P:=P) (rd:=rd) h1 (λ b hb=>hc b (by simp[hb])) (λ j hj=>hrd j (by simp[aL,hj]));obtain⟨hs2,o2,p2,q2⟩:=NH (P:=P) (rd:=rd) h2 (λ b hb=>hc b (by simp[hb])) (λ j hj=>hrd j (by simp[aL,hj]));refine⟨hs1++hs2,o1++o2,iH p1 p2,λae=>?_⟩;simp[bO,mX,q1,q2];rfl
 |[],_::_,_,hr,_,_|_::_,[],_,hr,_,_=>by simp[WS]at hr
theorem WT{i:Nat}{ab ns:List Nat}{q:RT X.ι}{x:RT.T X q}:∀p∈(Iu i ab ns q x).2,p.1=cT i:=by cases q<;>simp[Iu]
theorem WU{i:Nat}{ab ns:List Nat}:∀{l:List (RT X.ι)}{x:tK X l}{p:List (DV X)×List (Nat×Option (bo X))},Lu i ab ns l x=some p->∀q∈p.2,q.1=cT i
 |[],_,p,h=>by simp[Lu]at h;subst h;simp
 |[q],x,p,h=>by simp[Lu]at h;subst h;exact WT
 |q::q'::l,x,p,h=>by simp[Lu]at h;have⟨p',h1,h⟩:=ah.1 h;split at h;cases h;intro z hz;rcases bV.1 hz with hz|hz;exact WT z hz;exact WU h1 z hz;cases h
theorem aaP{i:Nat}{ab:List Nat}{l:List (RT X.ι)}{x:tK X l}{p:DV X×List (Nat×Option (bo X))}(h:HB i ab l x=some p):∀q∈p.2,q.1=cT i:=by unfold HB at h;have⟨p',h1,h⟩:=ah.1 h;cases h;exact WU h1
theorem Iw{P:Program}{get:Nat->Option aP}{x:AV}{hs ae:List LH}{y:AV}{o:List Prop}(h:mX P get [x] hs=some ([y],ae,o)):pE P get x hs=some (y,ae,o):=by simp only[mX,ai,append_nil,ah,aZ,Prod.mk.injEq,List.cons.injEq,and_true]at h;obtain⟨q,h1,h2,h3,h4⟩:=h;rw[h1,<- h2,<- h3,<- h4]
theorem lQ{d:DV X}{ds:List (DV X)}{a:AT X.ι}{l:List (AT X.ι)}{P:Nat->Prop}(h:∀j∈J9 (d::ds) (a::l),P j):(a.im=false->∀j∈bz d,P j)/\∀j∈J9 ds l,P j:=by simp[J9]at h;exact⟨λ e j hj=>h j (.inl (by rw[e];simpa using hj)),λj hj=>h j (.inr hj)⟩
theorem aqj{c:CT X.ι}{l:List (CT.T X.toSE c)}:dZ ((aI (l.map (CT.row X.toSE c))).take (l.map (CT.row X.toSE c)).length)=aI (l.map (CT.row X.toSE c)):=by rw[take_of_length_le (by simp[aI])];simp only[dZ,aI,map_map];exact map_congr_left λy _=>by simp only[Function.comp,map_map];exact map_congr_left λz _=>rfl
theorem Zo{get:Nat->Option (bo X)}{d:DV X}{c:CT X.ι}{x:List (CT.T X.toSE c)×Nat×List Bool}(h:aci get d c=some x)(hc:∀b∈x.2.2,b=true):
 d=.own x.2.1 0 (List.length x.1)/\∃o,get x.2.1=some o/\(bI o).sz=(ve c x.1).1/\dZ ((bI o).rows.take (ve c x.1).2.length)=aI (ve c x.1).2:=by
 unfold aci at h;split at h;rename_i k len;rw[ah]at h;obtain⟨o,h1,h⟩:=h;split at h;rename_i b l;rw[ah]at h;obtain⟨l',h2,h⟩:=h;cases h;have⟨h3,h4⟩:=jH h2;have h5:len=List.length l':=by simpa[aE]using hc (aE len (List.length l')) (by simp)
 refine⟨by rw[h5],.eE b l,h1,by simp;exact h3,?_⟩;simp only[bI,ve,h4];exact aqj;cases h;cases h
theorem WV{get:Nat->Option (bo X)}{d:DV X}{c:CT X.ι}{x:CT.T X.toSE c×Nat}(h:WR get d c=some x):
 d=.ptr x.2 0 0/\∃o,get x.2=some o/\(bI o).sz=(ve c [x.1]).1/\dZ ((bI o).rows.take (ve c [x.1]).2.length)=aI (ve c [x.1]).2:=by unfold WR at h;split at h;rw[ah]at h;obtain⟨o,h1,h⟩:=h;split at h;split at h;rename_i hsz;have⟨y,h2,h⟩:=ah.1 h;cases h;refine⟨rfl,_,h1,by simp;exact hsz,?_⟩;simp[bI,ve,dZ,aI];rw[yP h2];cases h;cases h;cases h
theorem nU{P:Program}{Γ:FuncId->Option (cx X)}(hΓ:td P Γ){get:Nat->Option (bo X)}{rd ab:List Nat}:∀{n:Nat}{ds:List (DV X)}{l:List (AT X.ι)}{a:je X l×List Nat×List Bool},pV Γ get ds l=some a->(∀ b∈a.2.2,b=true)->(∀ j∈aL ds,j∈rd)->(∀ j∈J9 ds l,j∉ab)->ab.drop n=a.2.1->
 (∃ hs obs,(∀ p∈obs,p)/\∀ae,mH P (dM rd (fH get)) ab (bO ds) (hs++ae)=some (fq n l a.1,ae,obs))/\∃mo,El (dM rd (fH get)) a.2.1 (vg l a.1)=some mo/\∀p∈mo,p
 |n,[],[],a,h,_,_,_,_=>by simp[pV]at h;subst h;exact⟨⟨[],[],by simp,λae=>rfl⟩,[],rfl,by simp⟩
 |n,d::ds,.mut c::l,a,h,hc,hrd,hnr,hid=>by
  simp[pV]at h;have⟨x,h1,h⟩:=ah.1 h;have⟨q,h2,h⟩:=ah.1 h;cases h;obtain⟨rfl,o,g1,g2,g3⟩:=Zo h1 (λ b hb=>hc b (by simp[hb]));have C1:ab[n]? =some x.2.1:=by rw[<- List.head?_drop,hid];rfl
  have C2:ab.drop (n+1)=q.2.1:=by rw[<- List.tail_drop,hid];rfl
  obtain⟨⟨hs,obs,p1,p2⟩,mo,m1,m2⟩:=nU hΓ (n:=n+1) h2 (λ b hb=>hc b (by simp[hb])) (λ j hj=>hrd j (by simp[aL,hj])) (lQ hnr).2 C2;refine⟨⟨.mut n::hs,obs,p1,λae=>?_⟩,((bI o).sz=(ve c x.1).1/\dZ ((bI o).rows.take (ve c x.1).2.length)=aI (ve c x.1).2)::mo,?_,?_⟩;simp[bO,den,mH,qL,C1,p2,fq];simp[vg,El,eU (hrd x.2.1 (by simp[aL,bz])) g1,m1];intro p hp;rcases aR.1 hp with rfl|hp;exact⟨g2,g3⟩;exact m2 p hp
 |n,d::ds,.ke c::l,a,h,hc,hrd,hnr,hid=>by
  simp[pV]at h;have⟨x,h1,h⟩:=ah.1 h;have⟨q,h2,h⟩:=ah.1 h;cases h;obtain⟨rfl,o,g1,g2,g3⟩:=WV h1;have C1:ab[n]? =some x.2:=by rw[<- List.head?_drop,hid];rfl
  have C2:ab.drop (n+1)=q.2.1:=by rw[<- List.tail_drop,hid];rfl
  obtain⟨⟨hs,obs,p1,p2⟩,mo,m1,m2⟩:=nU hΓ (n:=n+1) h2 (λ b hb=>hc b (by simp[hb])) (λ j hj=>hrd j (by simp[aL,hj])) (lQ hnr).2 C2;refine⟨⟨.mut n::hs,obs,p1,λae=>?_⟩,((bI o).sz=(ve c [x.1]).1/\dZ ((bI o).rows.take (ve c [x.1]).2.length)=aI (ve c [x.1]).2)::mo,?_,?_⟩;simp[bO,den,mH,cons_append,qL,C1,if_true,ai,p2,fq,gu];simp[vg,El,eU (hrd x.2 (by simp[aL,bz])) g1,ai,m1];intro p hp;rcases aR.1 hp with rfl|hp;exact⟨g2,g3⟩;exact m2 p hp
 |n,d::ds,.d c::l,a,h,hc,hrd,hnr,hid=>by simp[pV]at h;have⟨x,h1,h⟩:=ah.1 h;have⟨q,h2,h⟩:=ah.1 h;cases h;obtain⟨hs1,o1,p1,q1⟩:=sM (P:=P) hΓ 3 (n:=n) h1 (λ b hb=>hc b (by simp[hb])) (rd:=rd) (λ j hj=>hrd j (by simp[aL,append_nil]at hj;simp[aL,hj]));obtain⟨⟨hs,obs,p2,q2⟩,mo,m1,m2⟩:=nU hΓ (n:=n) h2 (λ b hb=>hc b (by simp[hb])) (λ j hj=>hrd j (by simp[aL,hj])) (lQ hnr).2 hid;refine⟨⟨yq (den d) hs1++hs,o1++obs,iH p1 p2,λae=>?_⟩,mo,m1,m2⟩;have:=yQ (Iw (q1 (hs++ae))) (λ k hk=>(lQ hnr).1 rfl k (by rwa [jm]at hk));rw[NF]at this;simp[bO,mH,aM,this,ai,q2,fq]
 |n,d::ds,.ref c::l,a,h,hc,hrd,hnr,hid=>by simp[pV]at h;have⟨x,h1,h⟩:=ah.1 h;have⟨q,h2,h⟩:=ah.1 h;cases h;obtain⟨hs1,o1,p1,q1⟩:=sM (P:=P) hΓ 3 (n:=n) h1 (λ b hb=>hc b (by simp[hb])) (rd:=rd) (λ j hj=>hrd j (by simp[aL,append_nil]at hj;simp[aL,hj]));obtain⟨⟨hs,obs,p2,q2⟩,mo,m1,m2⟩:=nU hΓ (n:=n) h2 (λ b hb=>hc b (by simp[hb])) (λ j hj=>hrd j (by simp[aL,hj])) (lQ hnr).2 hid;refine⟨⟨yq (den d) hs1++hs,o1++obs,iH p1 p2,λae=>?_⟩,mo,m1,m2⟩;have:=yQ (Iw (q1 (hs++ae))) (λ k hk=>(lQ hnr).1 rfl k (by rwa [jm]at hk));rw[NF]at this;simp[bO,mH,aM,this,ai,q2,fq]
 |n,d::ds,.eC as r::l,a,h,hc,hrd,hnr,hid=>by simp[pV]at h;have⟨x,h1,h⟩:=ah.1 h;have⟨q,h2,h⟩:=ah.1 h;cases h;obtain⟨hs1,o1,p1,q1⟩:=sM (P:=P) hΓ 3 (n:=n) h1 (λ b hb=>hc b (by simp[hb])) (rd:=rd) (λ j hj=>hrd j (by simp[aL,append_nil]at hj;simp[aL,hj]));obtain⟨⟨hs,obs,p2,q2⟩,mo,m1,m2⟩:=nU hΓ (n:=n) h2 (λ b hb=>hc b (by simp[hb])) (λ j hj=>hrd j (by simp[aL,hj])) (lQ hnr).2 hid;refine⟨⟨yq (den d) hs1++hs,o1++obs,iH p1 p2,λae=>?_⟩,mo,m1,m2⟩;have:=yQ (Iw (q1 (hs++ae))) (λ k hk=>(lQ hnr).1 rfl k (by rwa [jm]at hk));rw[NF]at this;simp[bO,mH,aM,this,ai,q2,fq]
 |n,d::ds,.nil::l,a,h,hc,hrd,hnr,hid=>by simp[pV]at h;split at h;have⟨q,h2,h⟩:=ah.1 h;cases h;obtain⟨⟨hs,obs,p2,q2⟩,mo,m1,m2⟩:=nU hΓ (n:=n) h2 hc (λ j hj=>hrd j (by simp[aL,hj])) (lQ hnr).2 hid;refine⟨⟨.nil::hs,obs,p2,λae=>?_⟩,mo,m1,m2⟩;have:=yQ (P:=P) (get':=dM rd (fH get)) (ab:=ab) (x:=.de) (hs:=.nil::(hs++ae)) (p:=(.de,hs++ae,[])) rfl (λ k hk=>by simp[refs]at hk);simp[yq]at this;simp[bO,den,mH,cons_append,this,ai,q2,fq,gu];cases h
 |_,[],_::_,_,h,_,_,_,_=>by simp[pV]at h
 |_,_::_,[],_,h,_,_,_,_=>by simp[pV]at h
theorem aer{P:Program}(hΓ:td P Γ){i:Nat}{f:DV X}{args:List (DV X)}{get:Nat->Option (bo X)}{k:KK X A}{r:A}(h:amu Γ i f args get k=some r):
 ∃cJ rd wr dv upd out,lM P i (den f) (bO args) cJ (dM rd (fH get))=some out/\jO out.obs/\out.v=den dv/\out.upd=iV upd/\(∀ p∈upd,p.1=cT i\/p.1∈wr)/\k dv upd rd wr=some r:=by
 unfold amu at h;split at h;rename_i F first caps
 rw[ah]at h;obtain⟨s,h1,h⟩:=h;split at h;rename_i g hgen;exact acg ((hΓ F s h1).2.2 g (Option.filter_eq_some_iff.1 hgen).1) h;split at h;rename_i hpure;rw[ah]at h;obtain⟨⟨a,cs⟩,h2,h⟩:=h;have⟨hcs,h⟩:=qi h;rw[ah]at h;obtain⟨x,h3,h⟩:=h;rw[ah]at h;obtain⟨p,h4,h⟩:=h;have hf0:=(hΓ F s h1).2.1 a x h3;simp only[bK]at hpure;rw[C9 (aqS hpure.1),ad9 hpure.2]at hf0;have hf:=Ns hf0;have hi:=aeo h4;have hk:=aaP h4;obtain⟨hs,obs,g1,g2⟩:=sM (P:=P) hΓ 3 h2 hcs (rd:=aL (first++args++caps)) (λ j hj=>hj);have g3:=g2 [];rw[append_nil,iY,iY]at g3;have hrefs:fe (bO first++bO args++bO caps)=aL (first++args++caps):=by rw[<- iY,<- iY,jo]
 split at h;rename_i hfl;refine⟨.call hs (tX s.res x) true,_,[],p.1,p.2,⟨den p.1,iV p.2,obs++[rK P F (wR s.args a) (tX s.res x),(tX s.res x).flat]⟩,?_,?_,rfl,rfl,λq hq=>.inl (hk q hq),h⟩;simp only[den,lM,qY,Ao,hi,ai,g3];rfl;exact rJ _ (iH g1 (by intro q hq;simp only[aR,nO,or_false]at hq;rcases hq with rfl|rfl;exact hf;exact WO x hfl));refine⟨.call hs (tX s.res x) false,_,_,p.1,_,⟨den p.1,iV p.2++(aL (first++args++caps)).map (λ k=>(k,none)),obs++[rK P F (wR s.args a) (tX s.res x)]⟩,?_,?_,rfl,?_,?_,h⟩;simp only[den,lM,qY,Ao,hi,ai,g3,hrefs];rfl;exact rJ _ (iH g1 (by intro q hq;simp only[bD]at hq;subst hq;exact hf));simp[sN,Da];intro q hq;rcases bV.1 hq with hq|hq;exact .inl (hk q hq);exact .inr (J7 hq);rename_i hpure;rw[ah]at h;obtain⟨⟨a,ab,cs⟩,h2,h⟩:=h;have⟨hcs,h⟩:=qi h;rw[ah]at h;obtain⟨x,h3,h⟩:=h;rw[ah]at h;obtain⟨p,h4,h⟩:=h;split at h;rename_i hc;simp only[bK,bT]at hc;obtain⟨⟨hnd,hnr⟩,hlen⟩:=hc;have hf:=(hΓ F s h1).2.1 a x h3;have hi:=aeo h4;have hk:=aaP h4;obtain⟨⟨hs,obs,g1,g2⟩,mo,m1,m2⟩:=nU (P:=P) hΓ (rd:=aL (first++args++caps)) (ab:=ab) (n:=0) h2 hcs (λ j hj=>hj) (λ j hj=>by simpa using all_eq_true.1 hnr j hj) rfl;have g3:=g2 [];rw[append_nil,iY,iY]at g3;have hrefs:fe (bO first++bO args++bO caps)=aL (first++args++caps):=by rw[<- iY,<- iY,jo]
 have hlen':(oH s.res x).length=ab.length:=by rw[<- hlen];simpa using (congrArg List.length (Qq s.res x)).symm
 have hout:iV (Lv ab (WQ s.res x))=Bq ab (oH s.res x):=aaO _ _ _ (Qq s.res x);split at h;rename_i hfl;refine⟨.t6 ab (vg s.args a) (oH s.res x) hs (tX s.res x) true,_,ab,p.1,_,⟨den p.1,iV p.2++Bq ab (oH s.res x),obs++mo++[qu P F (wR s.args a) (vg s.args a) (oH s.res x) (tX s.res x),(tX s.res x).flat,Vz (oH s.res x)]⟩,?_,?_,rfl,?_,?_,h⟩;simp only[den,lM,qY,H9,hi,ai,m1,g3];rw[aX ⟨hnd,hlen'⟩];rfl;refine rJ _ (iH (iH g1 m2) ?_);intro q hq;simp only[aR,nO,or_false]at hq;rcases hq with rfl|rfl|rfl;exact hf;exact WO x hfl;exact aaL hfl;simp[sN,hout];intro q hq;rcases bV.1 hq with hq|hq;exact .inl (hk q hq);exact .inr (Md hq);refine⟨.t6 ab (vg s.args a) (oH s.res x) hs (tX s.res x) false,_,_,p.1,_,⟨den p.1,iV p.2++(Bq ab (oH s.res x)++((aL (first++args++caps)).filter λj=>!ab.contains j).map (λ k=>(k,none))),obs++mo++[qu P F (wR s.args a) (vg s.args a) (oH s.res x) (tX s.res x)]⟩,?_,?_,rfl,?_,?_,h⟩;simp only[den,lM,qY,H9,hi,ai,m1,g3,H8,hrefs];rw[aX ⟨hnd,hlen'⟩];rfl;refine rJ _ (iH (iH g1 m2) ?_);intro q hq;simp only[bD]at hq;subst hq;exact hf;simp[sN,hout,Da];intro q hq;rcases bV.1 hq with hq|hq;exact .inl (hk q hq);rcases bV.1 hq with hq|hq;exact .inr (mem_append_left _ (Md hq));exact .inr (mem_append_right _ (J7 hq));cases h;rename_i as q φ;rw[ah]at h;obtain⟨⟨hh,cs⟩,h1,h⟩:=h;have⟨hcs,h⟩:=qi h;rw[ah]at h;obtain⟨y,h2,h⟩:=h;obtain⟨hs,obs,g1,g2⟩:=NH (P:=P) h1 hcs (rd:=aL args) (λ j hj=>hj);have g3:=g2 [];rw[append_nil]at g3;have hφ:∃h' x',φ h'=some x'/\HL.oR X.toSE as hh=HL.oR X.toSE as h'/\CT.tv X.toSE q y=CT.tv X.toSE q x':=⟨hh,y,h2,rfl,rfl⟩;split at h;rename_i hfl;refine⟨.E6 hs (HL.oR X.toSE as hh) (CT.tv X.toSE q y) true,_,[],.c q y,[],⟨(CT.tv X.toSE q y).av,[],obs++[(HL.oR X.toSE as hh).map TV.av=(HL.oR X.toSE as hh).map TV.av,(∃ h' x',φ h'=some x'/\HL.oR X.toSE as hh=HL.oR X.toSE as h'/\CT.tv X.toSE q y=CT.tv X.toSE q x'),(CT.tv X.toSE q y).flat]⟩,?_,?_,rfl,rfl,by simp,h⟩;simp only[den,lM,qY,Ao,g3,ai];rfl;exact rJ _ (iH g1 (by intro z hz;simp only[aR,nO,or_false]at hz;rcases hz with rfl|rfl|rfl;trivial;exact hφ;exact aem hfl y));refine⟨.E6 hs (HL.oR X.toSE as hh) (CT.tv X.toSE q y) false,_,_,.c q y,_,⟨(CT.tv X.toSE q y).av,(aL args).map (λ k=>(k,none)),obs++[(HL.oR X.toSE as hh).map TV.av=(HL.oR X.toSE as hh).map TV.av,(∃ h' x',φ h'=some x'/\HL.oR X.toSE as hh=HL.oR X.toSE as h'/\CT.tv X.toSE q y=CT.tv X.toSE q x')]⟩,?_,?_,rfl,(Da _).symm,λz hz=>.inr (J7 hz),h⟩;simp only[den,lM,qY,Ao,g3,ai,jo];rfl;exact rJ _ (iH g1 (by intro z hz;simp only[aR,nO,or_false]at hz;rcases hz with rfl|rfl;trivial;exact hφ));cases h
theorem ahe{P:Program}(hΓ:td P Γ){fz:List Nat}{T:eI}{al:TypeId->Option (CT X.ι)}{i:Nat}{o:Oper}{ρ:Operand->DV X}{get:Nat->Option (bo X)}{k:KK X A}{r:A}(h:Fl Γ fz T al i o.op ρ get k=some r):ez P T i o ρ get k r:=by
 obtain⟨dst,op,ty,an,after,guard⟩:=o;unfold Fl at h;simp only at h;split at h
 ·have:=aer hΓ h;simp only[<- UW]at this;obtain⟨cJ,rd,wr,dv,upd,out,g1,g2⟩:=this;exact .call g1 g2
 ·split at h
  ·exact ag7 (o:=⟨dst,op,ty,an,after,guard⟩) h
  ·split at h
   ·exact ag8 (o:=⟨dst,op,ty,an,after,guard⟩) h
   ·split at h
    ·exact ag9 (o:=⟨dst,op,ty,an,after,guard⟩) h
    ·rename_i hne _ _ _;have⟨cJ,rd,wr,dv,upd,out,g1,g2⟩:=aaB (o:=⟨dst,op,ty,an,after,guard⟩) h;exact ez.op (λ f args da e=>hne f args da e) g1 g2
end
def l4(x y:AV):Prop:=∀P β w I v,VR P β w I x v->VR P β w I y v
theorem l4.refl(x:AV):l4 x x:=λ_ _ _ _ _ h=>h
theorem l4.undef(x:AV):l4 x .undef:=λ_ _ _ _ _ _=>by simp[VR]
theorem l4.wk(x:AV):l4 x (wk x):=λ_ _ _ _ _ h=>h.wk
section
variable {P:Program} {w0:World} {O0:lh} {N:Nat} {β:Nat->Option cV} {I:Nat->Prop} {a:Act} {w:World} {f g:Nat->Nat} {D:Nat->Prop}
mutual
theorem VR.rn(hgf:∀k,D k->g (f k)=k):∀(x:AV)(v:Value),(∀ k∈refs x,D k)->VR P β w I x v->VR P (λ j=>β (g j)) w I (k5 f x) v
 |.own k aa len,v,hd,h=>by simp[k5,VR,hgf k (hd k (by simp[refs]))]at h ⊢;exact h
 |.ptr k row aa,v,hd,h=>by simp[k5,VR,hgf k (hd k (by simp[refs]))]at h ⊢;exact h
 |.agg cs,v,hd,h=>by simp[VR]at h ⊢;obtain⟨vs,h1,h2⟩:=h;exact⟨vs,h1,bk.rn hgf cs _ (by simpa[refs]using hd) h2⟩
 |.fj cs,v,hd,h=>by simp[VR]at h ⊢;obtain⟨vs,h1,h2⟩:=h;exact⟨vs,h1,bk.rn hgf cs _ (by simpa[refs]using hd) h2⟩
 |.fn F first caps,v,hd,h=>by simp[VR]at h ⊢;obtain⟨fs,cs,h1,h2,h3⟩:=h;exact⟨fs,cs,h1,bk.rn hgf first _ (λ k hk=>hd k (by simp[refs,hk])) h2,bk.rn hgf caps _ (λ k hk=>hd k (by simp[refs,hk])) h3⟩
 |.t x,v,_,h|.fh r o,v,_,h|.eC φ,v,_,h=>by simpa[k5,VR]using h
 |.mp k,v,hd,h=>by simp[k5,VR,hgf k (hd k (by simp[refs]))]at h ⊢;exact h
 |.oz k len,v,hd,h=>by simp[k5,VR,hgf k (hd k (by simp[refs]))]at h ⊢;exact h
 |.de,v,_,h|.ub,v,_,h=>by simpa[k5,VR]using h
 |.undef,v,_,h=>by simp[k5,VR]
theorem bk.rn(hgf:∀k,D k->g (f k)=k):∀(xs:List AV)(vs:List Value),(∀ k∈fe xs,D k)->bk P β w I xs vs->bk P (λ j=>β (g j)) w I (Br f xs) vs
 |[],[],_,_=>by simp[Br,bk]
 |x::xs,v::vs,hd,h=>by simp[bk]at h;simp[Br];exact⟨VR.rn hgf x v (λ k hk=>hd k (by simp[fe,hk])) h.1,bk.rn hgf xs vs (λ k hk=>hd k (by simp[fe,hk])) h.2⟩
 |[],_::_,_,h|_::_,[],_,h=>by simp[bk]at h
end
def np(D:Nat->Prop)(f:Nat->Nat):List AV->List AV->Prop
 |[],[]=>True
 |x::xs,y::ys=>((∀ k∈refs x,D k)/\l4 (k5 f x) y)/\np D f xs ys
 |_,_=>False
def ju(D:Nat->Prop)(f:Nat->Nat):List (List AV)->List (List AV)->Prop
 |[],[]=>True
 |r::rs,q::qs=>np D f r q/\ju D f rs qs
 |_,_=>False
theorem np.length:∀{r q:List AV},np D f r q->q.length=r.length
 |[],[],_=>rfl
 |_::xs,_::ys,h=>by simp[np.length h.2]
 |[],_::_,h|_::_,[],h=>h.elim
theorem dt.re(hgf:∀k,D k->g (f k)=k):∀{r q:List AV}{c:Array Value}{aa:Nat},np D f r q->dt P β w I r c aa->dt P (λ j=>β (g j)) w I q c aa
 |[],[],_,_,_,_=>trivial
 |x::xs,y::ys,c,aa,hr,⟨⟨v,h1,h2,h3⟩,h4⟩=>⟨⟨v,h1,hr.1.2 _ _ _ _ _ (VR.rn hgf x v hr.1.1 h2),h3⟩,dt.re hgf hr.2 h4⟩
 |[],_::_,_,_,h,_|_::_,[],_,_,h,_=>h.elim
theorem b7.re(hgf:∀k,D k->g (f k)=k):∀{rs qs:List (List AV)}{c:Array Value}{aa sz:Nat},ju D f rs qs->b7 P β w I rs c aa sz->b7 P (λ j=>β (g j)) w I qs c aa sz
 |[],[],_,_,_,_,_=>trivial
 |r::rs,q::qs,c,aa,sz,hr,⟨h1,h2,h3⟩=>⟨by rw[hr.1.length];exact h1,dt.re hgf hr.1 h2,b7.re hgf hr.2 h3⟩
 |[],_::_,_,_,_,h,_|_::_,[],_,_,_,h,_=>h.elim
theorem bk.re(hgf:∀k,D k->g (f k)=k):∀{r q:List AV}{vs:List Value},np D f r q->bk P β w I r vs->bk P (λ j=>β (g j)) w I q vs
 |[],[],[],_,_=>by simp[bk]
 |x::xs,y::ys,v::vs,hr,h=>by exact⟨hr.1.2 _ _ _ _ _ (VR.rn hgf x v hr.1.1 h.1),bk.re hgf hr.2 h.2⟩
 |[],_::_,_,h,_|_::_,[],_,h,_=>h.elim
 |[],[],_::_,_,h|_::_,_::_,[],_,h=>by simp[bk]at h
theorem cL.re(hgf:∀k,D k->g (f k)=k):∀{rs qs:List (List AV)}{es:List MapEntry},ju D f rs qs->cL P β w I rs es->cL P (λ j=>β (g j)) w I qs es
 |[],[],[],_,_=>trivial
 |r::rs,q::qs,_::es,hr,⟨h1,h2⟩=>⟨bk.re hgf hr.1 h1,cL.re hgf hr.2 h2⟩
 |[],_::_,_,h,_|_::_,[],_,h,_|[],[],_::_,_,h|_::_,_::_,[],_,h=>h.elim
theorem ju.length:∀{rs qs:List (List AV)},ju D f rs qs->qs.length=rs.length
 |[],[],_=>rfl
 |_::xs,_::ys,h=>by simp[ju.length h.2]
 |[],_::_,h|_::_,[],h=>h.elim
theorem Rel.re{s s':St}(hgf:∀k,D k->g (f k)=k)(hg:∀j,j<1000->g j=j)(hr:Rel P w0 O0 N β I s a w)(hok:∀t,s.ok t=none\/s'.env t=.undef)(hok':∀t,s'.ok t=none)
 (hE:∀t,s'.env t=.undef\/((∀ k∈refs (s.env t),D k)/\l4 (k5 f (s.env t)) (s'.env t)))
 (hO:∀j o',s'.obj j=some o'->∃k o,s.obj k=some o/\D k/\f k=j/\o'.sz=o.sz/\ju D f o.rows o'.rows):Rel P w0 O0 N (λ j=>β (g j)) I s' a w:=by
 refine⟨hr.defers,hr.size,λt=>?_,?_⟩
 ·have h1:=hr.env t;rw[hok' t];rcases hok t with hk|h
  rotate_left
  rw[h];simp[ga,VR];rw[hk]at h1;rcases hE t with h|⟨h2,h3⟩;rw[h];simp[ga,VR];exact h3 _ _ _ _ _ (VR.rn hgf _ _ h2 h1)
 have hm:=hr.mem;constructor;intro j o' hj;obtain⟨k,o,h1,h2,rfl,h4,h5⟩:=hO j o' hj;have⟨B,hB,s9⟩:=hm.cR k o h1;refine⟨B,by simp[hgf k h2];exact hB,?_⟩;cases B with
 |none=>
  simp[OR]at s9 ⊢;rw[s9]at h5;cases ho:o'.rows with
  |nil=>rfl
  |cons=>rw[ho]at h5;exact h5.elim
 | «at» b sz n=>
  obtain⟨g1,c,e,g2,g3,g4⟩:=s9;exact⟨by rw[g1,h4],c,e,g2,g3,b7.re hgf h5 g4⟩
 |mp b=>
  obtain⟨es,cl,g1,gl,g2,g3⟩:=s9;have hl:=h5.length;exact⟨es,cl,g1,by omega,λe=>cL.re hgf h5 (g2 (by omega)),g3⟩
 intro j j' o o' B B' b h1 h2 h3 h4 h5 h6;obtain⟨k,q,i1,i2,rfl,_⟩:=hO j o h1;obtain⟨k',q',i1',i2',rfl,_⟩:=hO j' o' h2;simp[hgf k i2,hgf k' i2']at h3 h4;rw[hm.ir k k' q q' B B' b i1 i1' h3 h4 h5 h6];intro j o B b h1 h2;obtain⟨k,q,i1,i2,rfl,_⟩:=hO j o h1;simp[hgf k i2]at h2;exact hm.ownB k q B b i1 h2;exact hm.lt;exact hm.up;exact hm.keep;exact hm.le;exact hm.os;exact hm.tape;exact hm.output;intro j B hj;show β (g j)=some B;rw[hg j (O0.lt j B hj)];exact hm.anch j B hj;exact hm.vars
end
section
variable {X:SX}
theorem aes{D:Nat->Prop}(f:Nat->Nat):∀r:List (DV X),(∀ k∈aL r,D k)->np D f (bO r) (bO (L9 f r))
 |[],_=>trivial
 |x::xs,h=>⟨⟨λ k hk=>h k (by rw[jm]at hk;simp[aL,hk]),by rw[Aw];exact l4.refl _⟩,aes f xs λk hk=>h k (by simp[aL,hk])⟩
theorem Ka{D:Nat->Prop}(f:Nat->Nat)(o:bo X)(h:∀k∈ev o,D k):(bI (qn f o)).sz=(bI o).sz/\ju D f (bI o).rows (bI (qn f o)).rows:=by
 cases o with
 |cells sz rows=>
  refine⟨rfl,?_⟩;simp only[ev]at h
  induction rows with
  |nil=>trivial
  |cons r rs ih=>
   refine⟨aes f r λk hk=>h k (by simp[hk]),ih λk hk=>h k ?_⟩;simp only[bE,flatten_cons,bV];exact .inr hk
 |eE c l=>
  refine⟨rfl,?_⟩;simp[bI,qn];generalize l.map (CT.row X.toSE c)=rows;have hrow:∀r:List Tree,np D f (r.map AV.t) (r.map AV.t):=by
   intro r
   induction r with
   |nil=>trivial
   |cons y ys ih=>exact⟨⟨by simp[refs],l4.refl _⟩,ih⟩
  induction rows with
  |nil=>trivial
  |cons r rs ih=>exact⟨hrow r,ih⟩
 |map kc vc l=>
  refine⟨rfl,?_⟩;clear h
  induction l with
  |nil=>trivial
  |cons p ps ih=>exact⟨⟨⟨by simp[Au],by rw[WK];exact l4.refl _⟩,⟨by simp[Au],by rw[WK];exact l4.refl _⟩,trivial⟩,ih⟩
structure Low(s:d8 X):Prop where
 le:s.nx<=1000000
 ge:1000<=s.nx
 env:∀t,∀k∈bz (fy s.env t),k<s.nx
 obj:∀k o,iu s.obj k=some o->k<s.nx/\∀j∈ev o,j<s.nx
theorem WW{o:bo X}{r:List AV}{x:AV}(hr:r∈(bI o).rows)(hx:x∈r):∀j∈refs x,j∈ev o:=by
 intro j hj;cases o with
 |cells sz rows=>
  simp[bI]at hr;obtain⟨q,hq,rfl⟩:=hr;rw[oG,mem_map]at hx;obtain⟨d,hd,rfl⟩:=hx;simp[ev];refine⟨_,⟨q,hq,rfl⟩,?_⟩;have:∀l:List (DV X),d∈l->j∈aL l:=by
   intro l
   induction l with
   |nil=>intro h;simp at h
   |cons y ys ih=>intro h;rcases aR.1 h with rfl|h
                  simp[aL];left;rwa [jm]at hj;simp[aL];exact .inr (ih h)
  exact this q hd
 |eE c l=>
  simp[bI,aI]at hr;obtain⟨q,_,rfl⟩:=hr;simp at hx;obtain⟨t,_,rfl⟩:=hx;simp[refs]at hj
 |map kc vc l=>
  simp only[bI,mem_map]at hr;obtain⟨q,_,rfl⟩:=hr;simp at hx;rcases hx with rfl|rfl<;>simp[Au]at hj
theorem Low.old{s:d8 X}(h:Low s):ua s.st:=by have hle:=h.le;constructor;intro t k hk;have:=h.env t k (by rw[<- jm];exact hk);omega;intro k o hk;simp[d8.st]at hk;obtain⟨o',h1,rfl⟩:=hk;have⟨h2,h3⟩:=h.obj k o' h1;refine⟨by omega,λr hr x hx j hj=>?_⟩;have:=h3 j (WW hr hx j hj);omega
end
section
variable {X:SX} {A:Type}
def py(e b:List (Nat×DV X))(t:Nat):DV X:=match lk e t with|some x=>x|none=>fy b t
def xt(o b:List (Nat×Option (bo X)))(k:Nat):Option (bo X):=match lk o k with|some x=>x|none=>iu b k
def Ab(dst:Option Tmp)(dv:DV X)(e:List (Nat×DV X)):List (Nat×DV X):=match dst with|some t=>(t,dv)::e|none=>e
def WX:DV X->DV X
 |.skip=>.undef
 |x=>x
def Lx(e:List (Nat×DV X)):Operand->Bool
 |.tmp t=>match lk e t with|some .skip=>false|_=>true
 |_=>true
def Sl(e b:List (Nat×DV X))(o:Op):Bool:=
 match o with
 |.pick c x y=>Lx e c&&((Lx e x&&Lx e y) || match Zj (py e b) c with|.c .bool t=>bif t then Lx e x else Lx e y|_=>false)
 |o=>o.operands.toList.all (Lx e)
abbrev GP:=List (Nat×List Nat×List Nat)
section
variable (Γ:FuncId->Option (cx X)) (fz:List Nat) (T:eI) (al:TypeId->Option (CT X.ι)) (ag:Array Oper) (b:d8 X)
def zf(k:List (Nat×DV X)->List (Nat×Option (bo X))->GP->Option A):List Nat->List (Nat×DV X)->List (Nat×Option (bo X))->GP->Option A
 |[],e,o,oX=>k e o oX
 |i::r,e,o,oX=>(ag[i]?).bind λop=>match op.guard with
  |none=>bif Sl e b.env op.op then Fl Γ fz T al i op.op (Zj (py e b.env)) (xt o b.obj) λdv upd rd wr=>zf k r (Ab op.dst (WX dv) e) (upd++o) ((i,rd,wr)::oX)else none
  |some (j,p)=>((ag[j]?).bind (·.dst)).bind λt=>match py e b.env t with
   |.c .bool v=>
    bif v then(bif p then(bif Sl ((t,.c .bool true)::e) b.env op.op then Fl Γ fz T al i op.op (Zj (py ((t,.c .bool true)::e) b.env)) (xt o b.obj) λdv upd rd wr=>zf k r (Ab op.dst (WX dv) ((t,.c .bool true)::e)) (upd++o) ((i,rd,wr)::oX)else none)
     else zf k r (Ab op.dst .skip ((t,.c .bool true)::e)) o ((i,[],[])::oX))
    else(bif p then zf k r (Ab op.dst .skip ((t,.c .bool false)::e)) o ((i,[],[])::oX)
     else(bif Sl ((t,.c .bool false)::e) b.env op.op then Fl Γ fz T al i op.op (Zj (py ((t,.c .bool false)::e) b.env)) (xt o b.obj) λdv upd rd wr=>zf k r (Ab op.dst (WX dv) ((t,.c .bool false)::e)) (upd++o) ((i,rd,wr)::oX)else none))
   |.skip=>bif(lk e t).isSome then zf k r (Ab op.dst .skip e) o ((i,[],[])::oX)else none
   |_=>none
end
def iW(b:d8 X)(e:List (Nat×DV X))(o:List (Nat×Option (bo X))):St:=⟨λ t=>den (py e b.env t),λk=>(xt o b.obj k).map bI,λt=>match lk e t with|some .skip=>some false|_=>none⟩
theorem akE(x:DV X):den (WX x)=den x:=by cases x<;>rfl
theorem amv(b:d8 X)(e:List (Nat×DV X))(o:List (Nat×Option (bo X)))(dst:Option Tmp)(dv:DV X)(upd:List (Nat×Option (bo X)))(obs:List Prop):
 (iW b e o).app dst (⟨den dv,iV upd,obs⟩,none)=iW b (Ab dst (WX dv) e) (upd++o):=by
 simp[iW,St.app];refine⟨?_,?_,?_⟩;funext t;cases dst with
 |none=>simp[Bt,Ab]
 |some d=>
  simp[Bt,Ab,py,lk];by_cases h:d=t<;>simp[h,akE]
 funext j
 induction upd with
 |nil=>rfl
 |cons p u ih=>
  obtain⟨q,x⟩:=p;simp[iV,cB,xt,lk]at ih ⊢;by_cases h:j=q;simp[h];rw[aU h,aU (Ne.symm h)];exact ih
 funext t;cases dst with
 |none=>simp[Bt,Ab]
 |some d=>
  simp[Bt,Ab,lk];by_cases h:d=t;simp[h];cases dv<;>rfl;simp[aU h]
theorem akF(b:d8 X)(e:List (Nat×DV X))(o:List (Nat×Option (bo X)))(dst:Option Tmp):(iW b e o).app dst (⟨.undef,[],[]⟩,some false)=iW b (Ab dst .skip e) o:=by
 simp[iW,St.app];refine⟨?_,rfl,?_⟩;funext t;cases dst with
 |none=>simp[Bt,Ab]
 |some d=>
  simp[Bt,Ab,py,lk];by_cases h:d=t<;>simp[h,den]
 funext t;cases dst with
 |none=>simp[Bt,Ab]
 |some d=>
  simp[Bt,Ab,lk];by_cases h:d=t<;>simp[h]
theorem aeu(b:d8 X)(e:List (Nat×DV X))(o:List (Nat×Option (bo X))):my (iW b e o).env=λx=>den (Zj (py e b.env) x):=by funext x;exact(V8 _ x).symm
theorem Dg{b:d8 X}{e:List (Nat×DV X)}{o:List (Nat×Option (bo X))}{x:Operand}(h:Lx e x=true):xU (iW b e o).ok x=[]:=by
 cases x with
 |tmp t=>
  simp[Lx]at h;simp[xU,iW];cases ht:lk e t with
  |none=>rfl
  |some d=>rw[ht]at h;cases d<;>first|rfl|cases h
 |_=>rfl
theorem akG{b:d8 X}{e:List (Nat×DV X)}{o:List (Nat×Option (bo X))}{P:Program}{T:eI}{i:Nat}{op:Oper}{cJ:kx}{get:Nat->Option aP}{out:Out}(hok:Sl e b.env op.op=true)
 (h:jX P T i op cJ (my (iW b e o).env) get=some out):∀p∈needs (iW b e o).env (iW b e o).ok op.op,p:=by
 obtain⟨dst,op,ty,an,after,guard⟩:=op;unfold needs;split
 ·rename_i c x y heq;simp only at heq;subst heq;simp only[Sl,bK,Bool.or_eq_true]at hok;obtain⟨hc,hxy⟩:=hok;have hb:∃t,my (iW b e o).env c=.t (.sc (.bool t)):=by
   have h0:(∃ n,cJ=.ext n)\/(∃ ab fr q,cJ=.yi ab fr q)\/qG T i ⟨dst,.pick c x y,ty,an,after,guard⟩ cJ (my (iW b e o).env) get=some out:=(by cases cJ<;>first|exact .inl ⟨_,rfl⟩|exact .inr (.inl ⟨_,_,_,rfl⟩)|exact .inr (.inr h));rcases h0 with ⟨n,rfl⟩|⟨ab,fr,q,rfl⟩|h0
   ·simp[jX,tQ,M3,tO]at h
   ·simp[jX,Ia,agF]at h
   ·simp only[qG]at h0;split at h0
    ·rename_i t ht;exact⟨t,ht⟩
    ·cases h0
  obtain⟨t,ht⟩:=hb;rw[ht];simp only[Dg hc,gu];rcases hxy with ⟨hx,hy⟩|hxy
  ·simp[Dg hx,Dg hy]
  ·split at hxy
   ·rename_i t' ht';have e1:my (iW b e o).env c=.t (.sc (.bool t')):=(by rw[aeu];simp only[ht'];rfl);rw[e1]at ht;injection ht with ht;injection ht with ht;injection ht with ht;subst ht;cases t' with
    |true=>
     simp only[aj]at hxy;simp[Dg hxy]
    |false=>
     simp only[au]at hxy;simp[Dg hxy]
   ·cases hxy
 ·rename_i o' hne;intro p hp;have hall:∀x∈op.operands.toList,Lx e x=true:=by have:Sl e b.env op=op.operands.toList.all (Lx e):=(by cases op<;>first|rfl|exact(hne _ _ _ rfl).elim);rw[this]at hok;exact all_eq_true.1 hok
  simp only[mem_flatMap]at hp;obtain⟨x,hx,hp⟩:=hp;rw[Dg (hall x hx)]at hp;simp at hp
theorem amw{a b:List Prop}(h:∀p∈a,p)(h':jO b):jO (a++b):=rJ _ (iH h (Nl b h'))
variable {Γ:FuncId->Option (cx X)} {fz:List Nat} {T:eI} {al:TypeId->Option (CT X.ι)} {ag:Array Oper} {b:d8 X} {P:Program}
theorem akH(hΓ:td P Γ){i:Nat}{op:Oper}{e:List (Nat×DV X)}{o:List (Nat×Option (bo X))}{k:KK X A}{r:A}(hop:ag[i]? =some op)(hw:want ag op (iW b e o).env (iW b e o).ok=some true)(hok:Sl e b.env op.op=true)
 (h:Fl Γ fz T al i op.op (Zj (py e b.env)) (xt o b.obj) k=some r):
 ∃(a:nq)(dv:DV X)(upd:List (Nat×Option (bo X))),a.sym=false/\k dv upd a.rd a.wr=some r/\∀(dC:Nat->nq)(K:St->Prop),dC i=a->K (iW b (Ab op.dst (WX dv) e) (upd++o))->ym P T ag dC i K (iW b e o):=by
 have⟨cJ,rd,wr,dv,upd,out,h1,h2,h3,h4,h5,h6⟩:=ahe hΓ h;refine⟨⟨cJ,rd,wr,false⟩,dv,upd,rfl,h6,λdC K ha hK=>?_⟩;have h1':jX P T i op cJ (my (iW b e o).env) (dM rd (iW b e o).obj)=some out:=by rw[aeu];exact h1
 refine⟨op,(⟨out.v,out.upd,needs (iW b e o).env (iW b e o).ok op.op++out.obs⟩,none),hop,?_,?_,?_⟩;simp only[opAt,hop,ai,hw,ha,h1'];rw[aX];rw[all_eq_true];intro p hp;rw[h4]at hp;simp only[iV,mem_map]at hp;obtain⟨q,hq,rfl⟩:=hp;rcases h5 q hq with h|h;simp[h,VL.2 (.inl rfl:j0 (cT i) (cT i))];simp[h];exact amw (akG hok h1') h2;rw[h3,h4,amv];exact hK
theorem step_skip{i:Nat}{op:Oper}{e:List (Nat×DV X)}{o:List (Nat×Option (bo X))}(hop:ag[i]? =some op)(hw:want ag op (iW b e o).env (iW b e o).ok=some false)
 (dC:Nat->nq) (K:St->Prop) (ha:dC i=⟨.none,[],[],false⟩) (hK:K (iW b (Ab op.dst .skip e) o)):ym P T ag dC i K (iW b e o):=by refine⟨op,(⟨.undef,[],[]⟩,some false),hop,?_,trivial,?_⟩;simp[opAt,hop,hw,ha];rw[akF];exact hK
theorem ahf{e:List (Nat×DV X)}{o:List (Nat×Option (bo X))}{t:Nat}{v:Bool}(h:py e b.env t=.c .bool v):iW b ((t,.c .bool v)::e) o=iW b e o:=by
 simp[iW];refine⟨?_,?_⟩;funext s;by_cases hs:t=s;subst hs;rw[h];simp[py,lk];simp[py,lk,hs];funext s;by_cases hs:t=s;subst hs;simp[lk];unfold py at h;cases ht:lk e t with
 |none=>rfl
 |some d=>rw[ht]at h;simp at h;subst h;rfl
 simp[lk,hs]
def KJ(tr:List (Nat×nq)):GP:=tr.map λp=>(p.1,p.2.rd,p.2.wr)
def Sm(ag:Array Oper)(t:Nat):Prop:=∃(j:Nat)(op:Oper),ag[j]? =some op/\op.dst=some t
theorem aev{dst:Option Tmp}{dv:DV X}{e:List (Nat×DV X)}{p:Nat×DV X}(h:p∈Ab dst dv e):p∈e\/dst=some p.1:=by
 cases dst with
 |none=>exact .inl h
 |some t=>
  simp[Ab]at h;rcases h with rfl|h;exact .inr rfl;exact .inl h
theorem EC(hΓ:td P Γ){k:List (Nat×DV X)->List (Nat×Option (bo X))->GP->Option A}{r:A}:∀(l:List Nat)(e:List (Nat×DV X))(o:List (Nat×Option (bo X)))(oX:GP),zf Γ fz T al ag b k l e o oX=some r->
 ∃(tr:List (Nat×nq))(e':List (Nat×DV X))(o':List (Nat×Option (bo X))),tr.map (·.1)=l/\k e' o' ((KJ tr).reverse++oX)=some r/\(∀ p∈e',p∈e\/Sm ag p.1)/\
  ∀dC:Nat->nq,(∀ p∈tr,dC p.1=p.2)->VX P T ag dC (λ σ=>σ=iW b e' o') l (iW b e o)
 |[],e,o,oX,h=>⟨[],e,o,rfl,h,λ_ hp=>.inl hp,λ_ _=>rfl⟩
 |i::l,e,o,oX,h=>by
  simp[zf]at h;have⟨op,hop,h⟩:=ah.1 h
  have exec:∀e:List (Nat×DV X),want ag op (iW b e o).env (iW b e o).ok=some true->
   (bif Sl e b.env op.op then Fl Γ fz T al i op.op (Zj (py e b.env)) (xt o b.obj) λdv upd rd wr=>zf Γ fz T al ag b k l (Ab op.dst (WX dv) e) (upd++o) ((i,rd,wr)::oX)else none)=some r->
   ∃(tr:List (Nat×nq)) (e':List (Nat×DV X)) (o':List (Nat×Option (bo X))),tr.map (·.1)=i::l/\k e' o' ((KJ tr).reverse++oX)=some r/\(∀ p∈e',p∈e\/Sm ag p.1)/\
    ∀dC:Nat->nq,(∀ p∈tr,dC p.1=p.2)->VX P T ag dC (λ σ=>σ=iW b e' o') (i::l) (iW b e o):=by intro e hw h;have⟨hok,h⟩:=eD h;have⟨a,dv,upd,_,h1,h2⟩:=akH hΓ hop hw hok h;obtain⟨tr,e',o',g1,g2,g4,g3⟩:=EC hΓ l _ _ _ h1;refine⟨(i,a)::tr,e',o',by simp[g1],?_,λp hp=>(g4 p hp).elim (λ hp=>(aev hp).elim .inl λhd=>.inr ⟨i,op,hop,hd⟩) .inr,λdC ha=>?_⟩;simpa[KJ]using g2;exact h2 dC _ (ha (i,a) (by simp)) (g3 dC λp hp=>ha p (by simp[hp]))
  have skip:∀e:List (Nat×DV X),want ag op (iW b e o).env (iW b e o).ok=some false->zf Γ fz T al ag b k l (Ab op.dst .skip e) o ((i,[],[])::oX)=some r->
   ∃(tr:List (Nat×nq)) (e':List (Nat×DV X)) (o':List (Nat×Option (bo X))),tr.map (·.1)=i::l/\k e' o' ((KJ tr).reverse++oX)=some r/\(∀ p∈e',p∈e\/Sm ag p.1)/\
    ∀dC:Nat->nq,(∀ p∈tr,dC p.1=p.2)->VX P T ag dC (λ σ=>σ=iW b e' o') (i::l) (iW b e o):=by intro e hw h;obtain⟨tr,e',o',g1,g2,g4,g3⟩:=EC hΓ l _ _ _ h;refine⟨(i,⟨.none,[],[],false⟩)::tr,e',o',by simp[g1],?_,λp hp=>(g4 p hp).elim (λ hp=>(aev hp).elim .inl λhd=>.inr ⟨i,op,hop,hd⟩) .inr,λdC ha=>?_⟩;simpa[KJ]using g2;exact step_skip hop hw dC _ (ha (i,_) (by simp)) (g3 dC λp hp=>ha p (by simp[hp]))
  split at h;rename_i hg;exact exec e (by simp[want,hg]) h;rename_i j p hg;rw[ah]at h;obtain⟨t,ht,h⟩:=h;split at h;rename_i v hv;have hw:∀e:List (Nat×DV X),py e b.env t=.c .bool v->want ag op (iW b e o).env (iW b e o).ok=some (v==p):=by
   intro e he;simp[want,hg,ht];have h0:(iW b e o).ok t=none:=by
    simp[iW];unfold py at he;cases hq:lk e t with
    |none=>rfl
    |some d=>rw[hq]at he;simp at he;subst he;rfl
   have h1:(iW b e o).env t=.t (.sc (.bool v)):=(by simp[iW,he];rfl);rw[h0,h1]
  have hk:=ahf (b:=b) (o:=o) hv;have hv':py ((t,.c .bool v)::e) b.env t=.c .bool v:=by simp[py,lk]
  have htd:Sm ag t:=by have⟨oj,h1,h2⟩:=ah.1 ht;exact⟨j,oj,h1,h2⟩
  have wide:(∃ (tr:List (Nat×nq)) (e':List (Nat×DV X)) (o':List (Nat×Option (bo X))),tr.map (·.1)=i::l/\k e' o' ((KJ tr).reverse++oX)=some r/\(∀ p∈e',p∈((t,.c .bool v)::e:List (Nat×DV X))\/Sm ag p.1)/\
   ∀dC:Nat->nq,(∀ p∈tr,dC p.1=p.2)->VX P T ag dC (λ σ=>σ=iW b e' o') (i::l) (iW b ((t,.c .bool v)::e) o))->
   ∃(tr:List (Nat×nq))(e':List (Nat×DV X))(o':List (Nat×Option (bo X))),tr.map (·.1)=i::l/\k e' o' ((KJ tr).reverse++oX)=some r/\(∀ p∈e',p∈e\/Sm ag p.1)/\
   ∀dC:Nat->nq,(∀ p∈tr,dC p.1=p.2)->VX P T ag dC (λ σ=>σ=iW b e' o') (i::l) (iW b e o):=by rintro⟨tr,e',o',g1,g2,g4,g3⟩;refine⟨tr,e',o',g1,g2,λq hq=>?_,hk ▸ g3⟩;rcases g4 q hq with h|h;rcases aR.1 h with rfl|h;exact .inr htd;exact .inl h;exact .inr h
  apply wide;cases v with
  |true=>
   simp at h;cases p with
   |true=>exact exec _ (hw _ hv') h
   |false=>exact skip _ (hw _ hv') h
  |false=>
   simp at h;cases p with
   |true=>exact skip _ (hw _ hv') h
   |false=>exact exec _ (hw _ hv') h
  rename_i hv;have⟨hsome,h⟩:=eD h;refine skip e ?_ h;simp[want,hg,ht];have h1:(iW b e o).env t=.undef:=by simp[iW,hv];rfl
  cases hq:lk e t with
  |some d=>
   have h0:(iW b e o).ok t=some false:=(by unfold py at hv;rw[hq]at hv;simp at hv;subst hv;simp[iW,hq]);rw[h0,h1]
  |none=>rw[hq]at hsome;cases hsome
  cases h
end
end Go.Gb
