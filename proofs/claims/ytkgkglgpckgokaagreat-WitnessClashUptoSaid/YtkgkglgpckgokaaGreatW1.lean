import GoSem.Claims
import Derived.Calls
import Derived.Below
import Derived.Orders
import Derived.Laws.Cells
import Derived.Laws.AppendOwn
import Derived.Laws.StructEq
import Derived.Laws.Build
import Derived.WalkKit
open Go.IntKind (i64)
open List (length_take all_eq_true cons_append length_drop map_map flatten_cons eq_nil_of_length_eq_zero)
namespace Go
universe u v
theorem aj{α:Sort u}(a b:α):cond true a b=a:=rfl
theorem ak{α:Sort u}(a b:α):cond false a b=b:=rfl
theorem af{α:Type u}{β:Type v}(a:α)(f:α->Option β):(some a).bind f=f a:=rfl
theorem aV{p:Prop}[Decidable p]:(decide p=true)=p:=_root_.decide_eq_true_eq
theorem dN{p:Prop}{_:Decidable p}:decide p=false↔¬p:=_root_.decide_eq_false_iff_not
theorem aA{α:Type u}(a b:α):(some a=some b)=(a=b):=Option.some.injEq a b
theorem aL(a b:Bool):((a&&b)=true)=(a=true/\b=true):=Bool.and_eq_true a b
theorem jX{a b:Bool}:a=b↔(a=true↔b=true):=Bool.eq_iff_iff
theorem dJ{α:Type u}{a b:List α}:(a++b).length=a.length+b.length:=List.length_append
theorem aK{α:Type u}(a b c:List α):a++b++c=a++(b++c):=List.append_assoc a b c
theorem fu{α:Type u}{a:α}:¬a∈([]:List α):=List.not_mem_nil
theorem aQ{c:Prop}{h:Decidable c}(hnc:¬c){α:Sort u}{t e:α}:(if c then t else e)=e:=_root_.if_neg hnc
theorem aX{c:Prop}{h:Decidable c}(hc:c){α:Sort u}{t e:α}:(if c then t else e)=t:=_root_.if_pos hc
theorem aW{α:Type u}{a b:α}:a∈[b]↔a=b:=List.mem_singleton
theorem dI{α:Type u}{l:List α}{i:Nat}(h:i<l.length):l[i]? =some l[i]:=List.getElem?_eq_getElem h
theorem jy{α:Type u}{a b:List α}{i:Nat}(h:a.length<=i):(a++b)[i]? =b[i -a.length]? :=List.getElem?_append_right h
theorem dF{α:Type u}{i:Nat}{a:α}{l:List α}:l[i]? =some a↔∃h:i<l.length,l[i]=a:=List.getElem?_eq_some_iff
theorem dh{α:Type u}{l:List α}{i:Nat}{a:α}(h:l[i]? =some a):a∈l:=List.mem_of_getElem? h
theorem dK{α:Type u}{b:α}{α_1:Type v}{x:Option α_1}{f:α_1->α}:Option.map f x=some b↔∃a,x=some a/\f a=b:=Option.map_eq_some_iff
theorem gF{α:Type u}{i:Nat}{l:List α}(h:i<l.length):List.take (i+1) l=List.take i l++[l[i]]:=List.take_succ_eq_append_getElem h
theorem eG{α:Type u}(y:α){a:α}{l:List α}(h:a∈l):a∈y::l:=List.mem_cons_of_mem y h
theorem aC(n:Nat):n<=n:=Nat.le_refl n
theorem bI{α:Type u}{a:α}{l:List α}:(a::l).length=l.length+1:=rfl
theorem aF{α:Type u}{β:Type v}{f:α->β}{a:α}{l:List α}:List.map f (a::l)=f a::List.map f l:=rfl
theorem aN{α:Type u}{b:α}{l:List α}{a:α}:a∈b::l↔a=b\/a∈l:=List.mem_cons
theorem bQ{α:Type u}(l:List α):[]++l=l:=rfl
theorem bf{α:Type u}{a:α}{s t:List α}:a∈s++t↔a∈s\/a∈t:=List.mem_append
theorem uL{p:Prop}(h:¬p->False):p:=Classical.byContradiction h
end Go
namespace Go
theorem ai{α:Type _}{β:Type _}{b:β}{x:Option α}{f:α->Option β}:x.bind f=some b↔∃ a,x=some a/\f a=some b:=Option.bind_eq_some_iff
end Go
namespace Go.Gb
def vp:Nat->Option (List Value):=λ_=>none
def UT:Nat->Bool:=λg=>g==0
open Go.RowKit
inductive Tree where
 |sc (v:Value)
 |sl (rows:List (List Tree))
inductive TV where
 |s (x:Tree)
 |a (cs:List Tree)
inductive AV where
 |t (x:Tree)
 |agg (cs:List AV)
 |eC (vs:List AV)
 |own (k:Nat) (aa len:Nat)
 |ptr (k:Nat) (row aa:Nat)
 |eo (row:List Tree) (aa:Nat)
 |fn (f:FuncId) (first caps:List AV)
 |d7 (φ:List TV->TV->Prop)
 |mp (k:Nat)
 |oz (k len:Nat)
 |cV
 |ub
 |undef
structure aS where
 sz:Nat
 rows:List (List AV)
structure Ex where
 m:Nat
 s:Nat
 h:s<=m
def xn(m:Nat):Ex:=⟨m,0,Nat.zero_le m⟩
@[simp] theorem Nm (m:Nat):(xn m).m=m:=rfl
@[simp] theorem Nd (m:Nat):(xn m).s=0:=rfl
inductive cL where
 |none
 |at (b sz:Nat) (n:Ex)
 |mp (b:Nat)
@[simp] def cL.num:cL->Option Nat
 | .none=>Option.none
 | .at b _ _=>some b
 | .mp b=>some b
def oneCell:Value->Prop
 | .agg _ | .tuple _=>False
 |_=>True
section
variable (w:World) (I:Nat->Prop)
mutual
def TR:Tree->Value->Prop
 | .sc v,u=>u=v/\oneCell v
 | .sl rows,u=>(rows=[]/\∃a cap,u= .slice a 0 cap/\(a=none->cap=0))\/∃b aa cap sz,u= .slice (some ⟨b,aa,none⟩) rows.length cap/\rows.length<=cap/\I b/\cp rows b aa sz
def cp:List (List Tree)->Nat->Nat->Nat->Prop
 |[],_,_,_=>True
 |r::rs,b,aa,sz=>r.length=sz/\dp r b aa/\cp rs b (aa+sz) sz
def dp:List Tree->Nat->Nat->Prop
 |[],_,_=>True
 |x::xs,b,aa=>(∃ c,w.cell? ⟨b,aa,none⟩=some c/\TR x c)/\dp xs b (aa+1)
end
def eI:List Tree->List Value->Prop
 |[],[]=>True
 |x::xs,v::vs=>TR w I x v/\eI xs vs
 |_,_=>False
def rk:TV->Value->Prop
 | .s x,v=>TR w I x v
 | .a cs,v=>∃vs:Array Value,v= .agg vs/\eI w I cs vs.toList
def mL:List TV->List Value->Prop
 |[],[]=>True
 |x::xs,v::vs=>rk w I x v/\mL xs vs
 |_,_=>False
end
def Same(I:Nat->Prop)(w w':World):Prop:=∀b,I b->w'.heap[b]? =w.heap[b]?
theorem Same.cell{I:Nat->Prop}{w w':World}(h:Same I w w'){b aa:Nat}(hb:I b):w'.cell? ⟨b,aa,none⟩=w.cell? ⟨b,aa,none⟩:=by simp only[World.cell?,h b hb]
mutual
theorem TR.mono{w w':World}{I I':Nat->Prop}(hs:Same I w w')(hi:∀b,I b->I' b):∀(x:Tree)(v:Value),TR w I x v->TR w' I' x v
 | .sc _,_,h=>by simpa[TR]using h
 | .sl rows,v,h=>by
  simp only[TR]at h ⊢;rcases h with h |⟨b,aa,cap,sz,h1,h2,h3,h4⟩
  ·exact .inl h
  ·exact .inr ⟨b,aa,cap,sz,h1,h2,hi _ h3,cp.mono hs hi rows b aa sz h3 h4⟩
theorem cp.mono{w w':World}{I I':Nat->Prop}(hs:Same I w w')(hi:∀b,I b->I' b):∀(rows:List (List Tree))(b aa sz:Nat),I b->cp w I rows b aa sz->cp w' I' rows b aa sz
 |[],_,_,_,_,_=>by simp[cp]
 |r::rs,b,aa,sz,hb,h=>by
  simp only[cp]at h ⊢;exact⟨h.1,dp.mono hs hi r b aa hb h.2.1,cp.mono hs hi rs b (aa+sz) sz hb h.2.2⟩
theorem dp.mono{w w':World}{I I':Nat->Prop}(hs:Same I w w')(hi:∀b,I b->I' b):∀(r:List Tree)(b aa:Nat),I b->dp w I r b aa->dp w' I' r b aa
 |[],_,_,_,_=>by simp[dp]
 |x::xs,b,aa,hb,h=>by
  simp only[dp]at h ⊢;obtain⟨⟨c,hc,hx⟩,h2⟩:=h;exact⟨⟨c,by rw[hs.cell hb];exact hc,TR.mono hs hi x c hx⟩,dp.mono hs hi xs b (aa+1) hb h2⟩
end
theorem eI.mono{w w':World}{I I':Nat->Prop}(hs:Same I w w')(hi:∀b,I b->I' b):∀(xs:List Tree)(vs:List Value),eI w I xs vs->eI w' I' xs vs
 |[],[],_=>trivial
 |x::xs,v::vs,h=>⟨TR.mono hs hi x v h.1,eI.mono hs hi xs vs h.2⟩
 |[],_::_,h=>h.elim
 |_::_,[],h=>h.elim
theorem rk.mono{w w':World}{I I':Nat->Prop}(hs:Same I w w')(hi:∀b,I b->I' b):∀(x:TV)(v:Value),rk w I x v->rk w' I' x v
 | .s x,v,h=>TR.mono hs hi x v h
 | .a cs,_,⟨vs,h1,h2⟩=>⟨vs,h1,eI.mono hs hi cs vs.toList h2⟩
theorem mL.mono{w w':World}{I I':Nat->Prop}(hs:Same I w w')(hi:∀b,I b->I' b):∀(xs:List TV)(vs:List Value),mL w I xs vs->mL w' I' xs vs
 |[],[],_=>trivial
 |x::xs,v::vs,h=>⟨rk.mono hs hi x v h.1,mL.mono hs hi xs vs h.2⟩
 |[],_::_,h=>h.elim
 |_::_,[],h=>h.elim
def i7(w:World)(I:Nat->Prop):Prop:=(∀ g row,vp g=some row->I g/\dp w I (row.map Tree.sc) g 0)/\∀g,UT g=true->I g/\∃m,w.cell? ⟨g,0,none⟩=some (.int .i64 m)
theorem i7.mono{w w':World}{I I':Nat->Prop}(hs:Same I w w')(hi:∀b,I b->I' b)(h:i7 w I):i7 w' I':=⟨λ g row hg=>
 ⟨hi g (h.1 g row hg).1,dp.mono hs hi _ g 0 (h.1 g row hg).1 (h.1 g row hg).2⟩,λg hg=>⟨hi g (h.2 g hg).1,by rw[hs.cell (h.2 g hg).1];exact(h.2 g hg).2⟩⟩
def ahw(w:World)(I:Nat->Prop)(R:World->(Nat->Prop)->Value->Prop)(e:Ending)(w':World):Prop:=
 ∃v I',e= .returned v/\Below w.heap.size w w'/\(∀ b,I b->I' b)/\(∀ b,I' b->b<w'.heap.size)/\(∀ b,I' b->I b\/w.heap.size<=b)/\R w' I' v
def rb(P:Program)(w:World)(I:Nat->Prop)(φ:List TV->TV->Prop)(v:Value):Prop:=
 ∃(f:FuncId)(first caps:Array Value),v= .func (.func f) first caps/\first=#[]/\
  (∀ fn, P.funcs[f]? = some fn -> fn.body.isSome = true /\ (fn.name == "runtime.NumGoroutine") = false) /\ (P.funcs[f]?).isSome = true /\
  ∀(w':World)(I':Nat->Prop)(args:List TV)(vs:Array Value)(r:TV),(∀ b,I b->I' b)->Same I w w'->(∀ b,I' b->b<w'.heap.size)->
   φ args r->mL w' I' args vs.toList->Calls P f (first++vs++caps) w' (ahw w' I' λw'' DS u=>rk w'' DS r u)
section
variable (P:Program) (β:Nat->Option cL) (w:World) (I:Nat->Prop)
mutual
def VR:AV->Value->Prop
 | .t x,v=>TR w I x v
 | .agg cs,v=>∃vs:Array Value,v= .agg vs/\aE cs vs.toList
 | .eC cs,v=>∃vs:Array Value,v= .tuple vs/\aE cs vs.toList
 | .own k aa len,v=>(β k=some .none/\v= .slice none 0 0/\aa=0/\len=0)\/
  ∃b sz n cap o,β k=some (.at b sz n)/\v= .slice (some ⟨b,o,none⟩) len cap/\len<=cap/\n.s+(aa+cap)*sz<=n.m/\(cap≠0->o=n.s+aa*sz)
 | .ptr k row aa,v=>∃b sz n,β k=some (.at b sz n)/\v= .pointer (some ⟨b,n.s+row*sz+aa,none⟩)
 | .eo row aa,v=>∃b o,v= .pointer (some ⟨b,o+aa,none⟩)/\I b/\dp w I row b o
 | .fn f first caps,v=>∃fs cs:Array Value,v= .func (.func f) fs cs/\aE first fs.toList/\aE caps cs.toList
 | .d7 φ,v=>rb P w I φ v
 | .mp k,v=>∃b,β k=some (.mp b)/\v= .map (some b)
 | .oz k len,v=>(len=0/\v= .slice none 0 0)\/(len≠0/\∃b sz n cap o,β k=some (.at b sz n)/\v= .slice (some ⟨b,o,none⟩) len cap/\len<=cap/\n.s+(0+cap)*sz<=n.m/\(cap≠0->o=n.s+0*sz))
 | .cV,v=>v= .slice none 0 0
 | .ub,v=>∃b,v= .bool b
 | .undef,_=>True
def aE:List AV->List Value->Prop
 |[],[]=>True
 |x::xs,v::vs=>VR x v/\aE xs vs
 |_,_=>False
end
def cW:List AV->Array Value->Nat->Prop
 |[],_,_=>True
 |x::xs,c,aa=>(∃ v,c[aa]? =some v/\VR P β w I x v/\oneCell v)/\cW xs c (aa+1)
def bo:List (List AV)->Array Value->Nat->Nat->Prop
 |[],_,_,_=>True
 |r::rs,c,aa,sz=>r.length=sz/\cW P β w I r c aa/\bo rs c (aa+sz) sz
def co:List (List AV)->List MapEntry->Prop
 |[],[]=>True
 |r::rs,e::es=>aE P β w I r [e.key,e.val]/\co rs es
 |_,_=>False
def OR(o:aS):cL->Prop
 | .none=>o.rows=[]
 | .mp b=>∃es clock,w.heap[b]? =some (.map es clock)/\o.rows.length<=o.sz/\(o.sz=o.rows.length->co P β w I o.rows es.toList)/\(es.toList.map (·.born)).Nodup/\∀e∈es.toList,e.born<clock
 | .at b sz n=>sz=o.sz/\∃c e,w.heap[b]? =some (.cells c e (0,0))/\c.size=n.m/\bo P β w I o.rows c n.s sz
end
theorem rb.mono{P:Program}{w w':World}{I I':Nat->Prop}(hs:Same I w w')(hi:∀b,I b->I' b){φ:List TV->TV->Prop}{v:Value}(h:rb P w I φ v):rb P w' I' φ v:=by
 obtain⟨f,first,caps,h1,h0,h2,h3,h4⟩:=h;exact⟨f,first,caps,h1,h0,h2,h3,λw2 I2 args vs r hi2 hs2 hlt hφ ha=>h4 w2 I2 args vs r (λ b h=>hi2 b (hi b h)) (λ b h=>(hs2 b (hi b h)).trans (hs b h)) hlt hφ ha⟩
mutual
theorem VR.mono{P:Program}{β β':Nat->Option cL}{w w':World}{I I':Nat->Prop}(hb:∀k B,β k=some B->β' k=some B)(hs:Same I w w')(hi:∀b,I b->I' b):∀(x:AV)(v:Value),VR P β w I x v->VR P β' w' I' x v
 | .t x,v,h=>by simp only[VR]at h ⊢;exact TR.mono hs hi x v h
 | .agg cs,v,h=>by
  simp only[VR]at h ⊢;obtain⟨vs,h1,h2⟩:=h;exact⟨vs,h1,aE.mono hb hs hi cs vs.toList h2⟩
 | .eC cs,v,h=>by
  simp only[VR]at h ⊢;obtain⟨vs,h1,h2⟩:=h;exact⟨vs,h1,aE.mono hb hs hi cs vs.toList h2⟩
 | .own k aa len,v,h=>by
  simp only[VR]at h ⊢;rcases h with ⟨h1,h2⟩ |⟨b,sz,n,cap,o,h1,h2⟩
  ·exact .inl ⟨hb _ _ h1,h2⟩
  ·exact .inr ⟨b,sz,n,cap,o,hb _ _ h1,h2⟩
 | .ptr k row aa,v,h=>by
  simp only[VR]at h ⊢;obtain⟨b,sz,n,h1,h2⟩:=h;exact⟨b,sz,n,hb _ _ h1,h2⟩
 | .eo row aa,v,h=>by
  simp only[VR]at h ⊢;obtain⟨b,o,h1,h2,h3⟩:=h;exact⟨b,o,h1,hi _ h2,dp.mono hs hi row b o h2 h3⟩
 | .fn f first caps,v,h=>by
  simp only[VR]at h ⊢;obtain⟨fs,cs,h1,h2,h3⟩:=h;exact⟨fs,cs,h1,aE.mono hb hs hi first fs.toList h2,aE.mono hb hs hi caps cs.toList h3⟩
 | .d7 φ,v,h=>by simp only[VR]at h ⊢;exact rb.mono hs hi h
 | .mp k,v,h=>by
  simp only[VR]at h ⊢;obtain⟨b,h1,h2⟩:=h;exact⟨b,hb _ _ h1,h2⟩
 | .oz k len,v,h=>by
  simp only[VR]at h ⊢;rcases h with h |⟨h0,b,sz,n,cap,o,h1,h2⟩
  ·exact .inl h
  ·exact .inr ⟨h0,b,sz,n,cap,o,hb _ _ h1,h2⟩
 | .cV,v,h=>by simpa[VR]using h
 | .ub,v,h=>by simpa[VR]using h
 | .undef,_,_=>by simp[VR]
theorem aE.mono{P:Program}{β β':Nat->Option cL}{w w':World}{I I':Nat->Prop}(hb:∀k B,β k=some B->β' k=some B)(hs:Same I w w')(hi:∀b,I b->I' b):∀(xs:List AV)(vs:List Value),aE P β w I xs vs->aE P β' w' I' xs vs
 |[],[],_=>by simp[aE]
 |x::xs,v::vs,h=>by simp only[aE]at h ⊢;exact⟨VR.mono hb hs hi x v h.1,aE.mono hb hs hi xs vs h.2⟩
 |[],_::_,h=>by simp[aE]at h
 |_::_,[],h=>by simp[aE]at h
end
theorem VR.uA{P:Program}{β:Nat->Option cL}{w:World}{I:Nat->Prop}{k len:Nat}{v:Value}(h:VR P β w I (.oz k len) v):(len=0/\v= .slice none 0 0)\/(len≠0/\VR P β w I (.own k 0 len) v):=by
 simp only[VR]at h ⊢;exact h.imp id λh=>⟨h.1,.inr h.2⟩
def wk:AV->AV
 | .cV=> .t (.sl [])
 |x=>x
def dW(rows:List (List AV)):List (List AV):=rows.map λr=>r.map wk
theorem VR.wk{P:Program}{β:Nat->Option cL}{w:World}{I:Nat->Prop}{x:AV}{v:Value}(h:VR P β w I x v):VR P β w I (wk x) v:=by
 cases x<;>simp only[Gb.wk]<;>try exact h
 simp only[VR]at h ⊢;simp only[TR];exact .inl ⟨trivial,none,0,h,λ_=>rfl⟩
theorem cW.wk{P:Program}{β:Nat->Option cL}{w:World}{I:Nat->Prop}:∀(r:List AV)(c:Array Value)(aa:Nat),cW P β w I r c aa->cW P β w I (r.map Gb.wk) c aa
 |[],_,_,_=>trivial
 |_::xs,c,aa,⟨⟨v,h1,h2,h3⟩,h4⟩=>⟨⟨v,h1,h2.wk,h3⟩,cW.wk xs c (aa+1) h4⟩
theorem bo.wk{P:Program}{β:Nat->Option cL}{w:World}{I:Nat->Prop}:∀(rs:List (List AV))(c:Array Value)(aa sz:Nat),bo P β w I rs c aa sz->bo P β w I (dW rs) c aa sz
 |[],_,_,_,_=>trivial
 |r::rs,c,aa,sz,⟨h1,h2,h3⟩=>⟨by simpa using h1,cW.wk r c aa h2,bo.wk rs c (aa+sz) sz h3⟩
theorem cW.mono{P:Program}{β β':Nat->Option cL}{w w':World}{I I':Nat->Prop}(hb:∀k B,β k=some B->β' k=some B)(hs:Same I w w')(hi:∀b,I b->I' b):∀(r:List AV)(c:Array Value)(aa:Nat),cW P β w I r c aa->cW P β' w' I' r c aa
 |[],_,_,_=>trivial
 |x::xs,c,aa,⟨⟨v,h1,h2,h3⟩,h4⟩=>⟨⟨v,h1,VR.mono hb hs hi x v h2,h3⟩,cW.mono hb hs hi xs c (aa+1) h4⟩
theorem bo.mono{P:Program}{β β':Nat->Option cL}{w w':World}{I I':Nat->Prop}(hb:∀k B,β k=some B->β' k=some B)(hs:Same I w w')(hi:∀b,I b->I' b):∀(rs:List (List AV))(c:Array Value)(aa sz:Nat),bo P β w I rs c aa sz->bo P β' w' I' rs c aa sz
 |[],_,_,_,_=>trivial
 |r::rs,c,aa,sz,⟨h1,h2,h3⟩=>⟨h1,cW.mono hb hs hi r c aa h2,bo.mono hb hs hi rs c (aa+sz) sz h3⟩
theorem aE.wk{P:Program}{β:Nat->Option cL}{w:World}{I:Nat->Prop}:∀(r:List AV)(vs:List Value),aE P β w I r vs->aE P β w I (r.map Gb.wk) vs
 |[],[],_=>by simp[aE]
 |x::xs,v::vs,h=>by simp only[aE]at h;simp only[aF,aE];exact⟨h.1.wk,aE.wk xs vs h.2⟩
 |[],_::_,h=>by simp[aE]at h
 |_::_,[],h=>by simp[aE]at h
theorem co.mono{P:Program}{β β':Nat->Option cL}{w w':World}{I I':Nat->Prop}(hb:∀k B,β k=some B->β' k=some B)(hs:Same I w w')(hi:∀b,I b->I' b):∀(rs:List (List AV))(es:List MapEntry),co P β w I rs es->co P β' w' I' rs es
 |[],[],_=>trivial
 |r::rs,_::es,⟨h1,h4⟩=>⟨aE.mono hb hs hi r _ h1,co.mono hb hs hi rs es h4⟩
 |[],_::_,h=>h.elim
 |_::_,[],h=>h.elim
theorem co.wk{P:Program}{β:Nat->Option cL}{w:World}{I:Nat->Prop}:∀(rs:List (List AV))(es:List MapEntry),co P β w I rs es->co P β w I (dW rs) es
 |[],[],_=>trivial
 |r::rs,_::es,⟨h1,h4⟩=>⟨aE.wk r _ h1,co.wk rs es h4⟩
 |[],_::_,h=>h.elim
 |_::_,[],h=>h.elim
structure j8 where
 own:Nat->Prop
 Hj:Nat->Prop
 anc:Nat->Option cL:=λ_=>none
 lt:∀j B,anc j=some B->j<1000:=by intro j B h;cases h
structure Mem(P:Program)(w0:World)(O0:j8)(β:Nat->Option cL)(I:Nat->Prop)(obj:Nat->Option aS)(w:World):Prop where
 cE:∀k o,obj k=some o->∃B,β k=some B/\OR P β w I o B
 gj:∀k k' o o' B B' b,obj k=some o->obj k'=some o'->β k=some B->β k'=some B'->B.num=some b->B'.num=some b->k=k'
 ownB:∀k o B b,obj k=some o->β k=some B->B.num=some b->¬I b/\b<w.heap.size/\(O0.own b\/w0.heap.size<=b)
 lt:∀b,I b->b<w.heap.size
 up:∀b,I b->O0.Hj b\/O0.own b\/w0.heap.size<=b
 keep:∀b,b<w0.heap.size->¬O0.own b->w.heap[b]? =w0.heap[b]?
 le:w0.heap.size<=w.heap.size
 os:w.os=w0.os
 tape:w.tape=w0.tape
 output:w.output=w0.output
 anch:∀j B,O0.anc j=some B->β j=some B
 vars:i7 w I
section
variable {P:Program} {w0:World} {O0:j8} {β:Nat->Option cL} {I:Nat->Prop} {obj:Nat->Option aS} {w:World}
theorem Mem.inj(h:Mem P w0 O0 β I obj w):∀k k' o o' b s n s' n',obj k=some o->obj k'=some o'->β k=some (.at b s n)->β k'=some (.at b s' n')->k=k':=
 λk k' o o' b _ _ _ _ h1 h2 h3 h4=>h.gj k k' o o' _ _ b h1 h2 h3 h4 rfl rfl
theorem Mem.own(h:Mem P w0 O0 β I obj w):∀k o b s n,obj k=some o->β k=some (.at b s n)->¬I b/\b<w.heap.size/\(O0.own b\/w0.heap.size<=b):=
 λk o b _ _ h1 h2=>h.ownB k o _ b h1 h2 rfl
end
def fh(β:Nat->Option cL)(k b:Nat):Prop:=∃B,β k=some B/\B.num=some b
theorem fh.at{β:Nat->Option cL}{k b s:Nat}{n:Ex}(h:β k=some (.at b s n)):fh β k b:=⟨_,h,rfl⟩
section
variable {P:Program} {w0:World} {O0:j8} {β:Nat->Option cL} {I:Nat->Prop} {obj:Nat->Option aS} {w:World}
theorem Mem.lv(h:Mem P w0 O0 β I obj w):∀k k' o o' b,obj k=some o->obj k'=some o'->fh β k b->fh β k' b->k=k':=
 λk k' o o' b h1 h2 ⟨B,h3,h5⟩ ⟨B',h4,h6⟩=>h.gj k k' o o' B B' b h1 h2 h3 h4 h5 h6
theorem Mem.iv(h:Mem P w0 O0 β I obj w):∀k o b,obj k=some o->fh β k b->¬I b/\b<w.heap.size/\(O0.own b\/w0.heap.size<=b):=
 λk o b h1 ⟨B,h2,h3⟩=>h.ownB k o B b h1 h2 h3
end
def cK(obj:Nat->Option aS):List (Nat×Option aS)->Nat->Option aS
 |[],k=>obj k
 |(j,o)::r,k=>if k=j then o else cK obj r k
def ij(i k:Nat):Prop:=k=i\/(1000000<=i/\1000000<=k/\(k -1000000)/64=(i -1000000)/64)
theorem ij.ne{i k:Nat}(h:¬ij i k):k≠i:=λe=>h (.inl e)
structure Step(β:Nat->Option cL)(I:Nat->Prop)(w:World)(i:Nat)(β':Nat->Option cL)(I':Nat->Prop)(w':World):Prop where
 other:∀k,¬ij i k->β' k=β k
 ext:∀k B,β k=some B->β' k=some B
 same:Same I w w'
 inc:∀b,I b->I' b
theorem Step.refl(β:Nat->Option cL)(I:Nat->Prop)(w:World)(i:Nat):Step β I w i β I w:=⟨λ _ _=>rfl,λ_ _ h=>h,λ_ _=>rfl,λ_ h=>h⟩
theorem qi{w:World}{o:Obj}{b:Nat}(h:b<w.heap.size):(w.alloc o).heap[b]? =w.heap[b]? :=by
 simp only[World.alloc,Array.getElem?_push];rw[aQ (by omega)]
theorem Same.alloc{I:Nat->Prop}{w:World}(h:∀b,I b->b<w.heap.size)(o:Obj):Same I w (w.alloc o):=λb hb=>qi (h b hb)
def ins(β:Nat->Option cL)(i:Nat)(B:cL):Nat->Option cL:=λk=>if k=i then some B else β k
theorem mX{β:Nat->Option cL}{i:Nat}{B:cL}(h:β i=none):∀k C,β k=some C->ins β i B k=some C:=by
 intro k C hk;unfold ins;split
 ·subst_vars;rw[h]at hk;cases hk
 ·exact hk
theorem jq{P:Program}{β:Nat->Option cL}{w:World}{I:Nat->Prop}:∀(r:List AV)(c:Array Value)(aa:Nat),cW P β w I r c aa↔∀j x,r[j]? =some x->∃v,c[aa+j]? =some v/\VR P β w I x v/\oneCell v
 |[],c,aa=>by simp[cW]
 |x::xs,c,aa=>by
  simp only[cW,jq xs c (aa+1)];constructor
  ·rintro⟨h1,h2⟩ j y hj;cases j with
   |zero=>simp at hj;subst hj;exact h1
   |succ j=>obtain⟨v,hv⟩:=h2 j y (by simpa using hj);exact⟨v,by rw[show aa+(j+1)=aa+1+j by omega];exact hv.1,hv.2⟩
  ·intro h;refine⟨by simpa using h 0 x rfl,λj y hj=>?_⟩;obtain⟨v,hv⟩:=h (j+1) y (by simpa using hj);exact⟨v,by rw[show aa+1+j=aa+(j+1)by omega];exact hv.1,hv.2⟩
theorem nX{P:Program}{β:Nat->Option cL}{w:World}{I:Nat->Prop}:∀(rs:List (List AV))(c:Array Value)(aa sz:Nat),bo P β w I rs c aa sz↔∀i r,rs[i]? =some r->r.length=sz/\cW P β w I r c (aa+i*sz)
 |[],c,aa,sz=>by simp[bo]
 |r::rs,c,aa,sz=>by
  simp only[bo,nX rs c (aa+sz) sz];constructor
  ·rintro⟨h1,h2,h3⟩ i r' hi;cases i with
   |zero=>simp at hi;subst hi;exact⟨h1,by simpa using h2⟩
   |succ i=>have:=h3 i r' (by simpa using hi);rw[show aa+(i+1)*sz=aa+sz+i*sz by rw[Nat.add_mul];omega];exact this
  ·intro h;have h0:=h 0 r rfl;refine⟨h0.1,by simpa using h0.2,λi r' hi=>?_⟩;have:=h (i+1) r' (by simpa using hi);rw[show aa+sz+i*sz=aa+(i+1)*sz by rw[Nat.add_mul];omega];exact this
section
variable {P:Program} {w0:World} {O0:j8} {β:Nat->Option cL} {I:Nat->Prop} {obj:Nat->Option aS} {w:World}
theorem OR.mono{β':Nat->Option cL}{I':Nat->Prop}{w':World}{o:aS}{B:cL}(hb:∀k B,β k=some B->β' k=some B)(hs:Same I w w')(hi:∀b,I b->I' b)
 (hB:∀b,B.num=some b->w'.heap[b]? =w.heap[b]?) (h:OR P β w I o B):OR P β' w' I' o B:=by
 cases B with
 |none=>exact h
 | «at» b s n=>
  obtain⟨h1,c,e,h2,h3,h4⟩:=h;exact⟨h1,c,e,(hB b rfl).trans h2,h3,bo.mono hb hs hi _ _ _ _ h4⟩
 |mp b=>
  obtain⟨es,cl,h1,hle,h2,h3⟩:=h;exact⟨es,cl,(hB b rfl).trans h1,hle,λe=>co.mono hb hs hi _ _ (h2 e),h3⟩
theorem Mem.alloc{i:Nat}{o:aS}{c:Array Value}{e:TypeId}(h:Mem P w0 O0 β I obj w)(hn:β i=none)
 (hr:bo P β w I o.rows c 0 o.sz):
 Step β I w i (ins β i (.at w.heap.size o.sz (xn c.size))) I (w.alloc (.cells c e))/\
 Mem P w0 O0 (ins β i (.at w.heap.size o.sz (xn c.size))) I (cK obj [(i,some o)]) (w.alloc (.cells c e)):=by
 have hS:Step β I w i (ins β i (.at w.heap.size o.sz (xn c.size))) I (w.alloc (.cells c e)):=
  ⟨λ k hk=>by simp[ins,ij.ne hk],mX hn,Same.alloc h.lt _,λ_ h=>h⟩
 refine⟨hS,?_⟩;have hne:∀k o',obj k=some o'->k≠i:=λk o' hk e=>by
  have⟨B,hB,_⟩:=h.cE k o' hk;rw[e,hn]at hB;cases hB
 constructor
 ·intro k o' hk;simp only[cK]at hk;split at hk
  ·cases hk;rename_i hki;refine⟨.at w.heap.size o.sz (xn c.size),by simp[ins,hki],rfl,c,e,?_,rfl,bo.mono hS.ext hS.same hS.inc _ _ _ _ hr⟩;exact heap_alloc_new w _
  ·have⟨B,hB,hO⟩:=h.cE k o' hk;exact⟨B,mX hn _ _ hB,OR.mono hS.ext hS.same hS.inc (λ b hb=>qi (h.ownB k o' B b hk hB hb).2.1) hO⟩
 ·intro k k' o1 o2 B B' b h1 h2 h3 h4 h5 h6;simp only[cK]at h1 h2;simp only[ins]at h3 h4;split at h1<;>split at h2
  ·rename_i a b;rw[a,b]
  ·rename_i hki pf;simp only[hki,if_true,aA]at h3;simp only[pf,if_false]at h4;subst h3;injection h5 with h5;have:=(h.ownB k' o2 B' b h2 h4 h6).2.1;omega
  ·rename_i hki pf;simp only[pf,if_true,aA]at h4;simp only[hki,if_false]at h3;subst h4;injection h6 with h6;have:=(h.ownB k o1 B b h1 h3 h5).2.1;omega
  ·rename_i hki pf;simp only[hki,pf,if_false]at h3 h4;exact h.gj k k' o1 o2 B B' b h1 h2 h3 h4 h5 h6
 ·intro k o' B b h1 h2 h3;simp only[cK]at h1;simp only[ins]at h2;split at h1
  ·rename_i hki;simp only[hki,if_true,aA]at h2;subst h2;injection h3 with h3;refine⟨λ hI=>?_,?_,.inr ?_⟩
   ·have:=h.lt b hI;omega
   ·simp;omega
   ·have:=h.le;omega
  ·rename_i hki;simp only[hki,if_false]at h2;have⟨a,b',c'⟩:=h.ownB k o' B b h1 h2 h3;exact⟨a,by simp;omega,c'⟩
 ·intro b hb;have:=h.lt b hb;simp;omega
 ·exact h.up
 ·intro b hb hO;rw[qi (by have:=h.le;omega)];exact h.keep b hb hO
 ·have:=h.le;simp;omega
 ·exact h.os
 ·exact h.tape
 ·exact h.output
 ·intro j B hj;exact mX hn _ _ (h.anch j B hj)
 ·exact h.vars.mono (Same.alloc h.lt _) (λ _ h=>h)
theorem Mem.write{k:Nat}{o o':aS}{b s:Nat}{n:Ex}{c':Array Value}{e:TypeId}{w':World}(h:Mem P w0 O0 β I obj w)(hk:obj k=some o)(hβ:β k=some (.at b s n))
 (hnew:w'.heap[b]? =some (.cells c' e (0,0))) (hother:∀b',b'≠b->w'.heap[b']? =w.heap[b']?) (hsize:w'.heap.size=w.heap.size) (hos:w'.os=w.os) (vd:w'.tape=w.tape) (hout:w'.output=w.output)
 (hsz:s=o'.sz) (hn:c'.size=n.m) (hr:bo P β w I o'.rows c' n.s o'.sz):
 Same I w w'/\Mem P w0 O0 β I (cK obj [(k,some o')]) w':=by
 have⟨Sa,hlt,hO⟩:=h.own k o b s n hk hβ;have hs:Same I w w':=λb' hb=>hother b' (λ e=>Sa (e ▸ hb));refine⟨hs,?_⟩;constructor
 ·intro j oj hj;simp only[cK]at hj;split at hj
  ·rename_i hjk;cases hj;refine⟨.at b s n,by rw[hjk];exact hβ,hsz,c',e,?_,hn,hsz ▸ bo.mono (λ _ _ h=>h) hs (λ _ h=>h) _ _ _ _ hr⟩;exact hnew
  ·rename_i hjk;have⟨B,hB,sA⟩:=h.cE j oj hj;refine⟨B,hB,OR.mono (λ _ _ h=>h) hs (λ _ h=>h) (λ b1 e1=>hother b1 (λ e2=>hjk ?_)) sA⟩;subst e2;exact h.gj j k oj o B _ b1 hj hk hB hβ e1 rfl
 ·intro j j' o1 o2 B1 B2 b1 h1 h2 h3 h4 h5 h6;have hx:∀(j:Nat)(o1:aS),cK obj [(k,some o')] j=some o1->∃o2,obj j=some o2:=λj o1 h=>by
   simp only[cK]at h;split at h
   ·rename_i e;exact⟨o,by rw[e];exact hk⟩
   ·exact⟨_,h⟩
  have⟨p1,q1⟩:=hx j o1 h1;have⟨p2,q2⟩:=hx j' o2 h2;exact h.gj j j' p1 p2 B1 B2 b1 q1 q2 h3 h4 h5 h6
 ·intro j o1 B1 b1 h1 h2 h3;have hx:∃o2,obj j=some o2:=by
   simp only[cK]at h1;split at h1
   ·rename_i e;exact⟨o,by rw[e];exact hk⟩
   ·exact⟨_,h1⟩
  obtain⟨p1,q1⟩:=hx;have:=h.ownB j p1 B1 b1 q1 h2 h3;rw[hsize];exact this
 ·intro b1 hb1;rw[hsize];exact h.lt b1 hb1
 ·exact h.up
 ·intro b1 hb1 hno;rw[hother b1 (λ e1=>?_)]
  ·exact h.keep b1 hb1 hno
  ·subst e1;rcases hO with hO |hO
   ·exact hno hO
   ·omega
 ·rw[hsize];exact h.le
 ·rw[hos];exact h.os
 ·rw[vd];exact h.tape
 ·rw[hout];exact h.output
 ·exact h.anch
 ·exact h.vars.mono hs (λ _ h=>h)
theorem Mem.drop(h:Mem P w0 O0 β I obj w)(oa:Nat->Option aS)(hsub:∀k o,oa k=some o->obj k=some o):Mem P w0 O0 β I oa w:=
 ⟨λ k o hk=>h.cE k o (hsub k o hk),λk k' o o' B B' b h1 h2=>h.gj k k' o o' B B' b (hsub _ _ h1) (hsub _ _ h2),λk o B b h1=>h.ownB k o B b (hsub _ _ h1),h.lt,h.up,h.keep,h.le,h.os,h.tape,h.output,h.anch,h.vars⟩
theorem Mem.below{w':World}{I':Nat->Prop}(h:Mem P w0 O0 β I obj w)(hb:Below w.heap.size w w')(hi:∀b,I b->I' b)(hlt:∀b,I' b->b<w'.heap.size)(hI:∀b k o B,I' b->obj k=some o->β k=some B->B.num=some b->False)(hup:∀b,I' b->O0.Hj b\/O0.own b\/w0.heap.size<=b):
 Same I w w'/\Mem P w0 O0 β I' obj w':=by
 have hs:Same I w w':=λb hb'=>hb.block b (h.lt b hb');refine⟨hs,?_⟩;constructor
 ·intro k o hk;have⟨B,hB,hO⟩:=h.cE k o hk;exact⟨B,hB,OR.mono (λ _ _ h=>h) hs hi (λ b e=>hb.block b (h.ownB k o B b hk hB e).2.1) hO⟩
 ·exact h.gj
 ·intro k o B b h1 h2 h3;have⟨a,b',c⟩:=h.ownB k o B b h1 h2 h3;exact⟨λ hb2=>hI b k o B hb2 h1 h2 h3,Nat.lt_of_lt_of_le b' hb.size,c⟩
 ·exact hlt
 ·exact hup
 ·intro b hb1 hno;rw[hb.block b (by have:=h.le;omega)];exact h.keep b hb1 hno
 ·have:=h.le;have:=hb.size;omega
 ·rw[hb.os];exact h.os
 ·rw[hb.tape];exact h.tape
 ·rw[hb.output];exact h.output
 ·exact h.anch
 ·exact h.vars.mono hs hi
theorem Mem.weak{oa:Nat->Option aS}(h:Mem P w0 O0 β I obj w)(ho:∀k o',oa k=some o'->∃o,obj k=some o/\∀B,β k=some B->OR P β w I o B->OR P β w I o' B):Mem P w0 O0 β I oa w:=by
 constructor
 ·intro k o' hk;have⟨o,h1,h2⟩:=ho k o' hk;have⟨B,hB,hO⟩:=h.cE k o h1;exact⟨B,hB,h2 B hB hO⟩
 ·intro k k' o o' B B' b h1 h2;have⟨q,g1,_⟩:=ho k o h1;have⟨q',g2,_⟩:=ho k' o' h2;exact h.gj k k' q q' B B' b g1 g2
 ·intro k o B b h1;have⟨q,g1,_⟩:=ho k o h1;exact h.ownB k q B b g1
 ·exact h.lt
 ·exact h.up
 ·exact h.keep
 ·exact h.le
 ·exact h.os
 ·exact h.tape
 ·exact h.output
 ·exact h.anch
 ·exact h.vars
theorem OR.wk{o:aS}{B:cL}(h:OR P β w I o B):OR P β w I ⟨o.sz,dW o.rows⟩ B:=by
 cases B with
 |none=>simp only[OR]at h ⊢;simp[dW,h]
 | «at» b s n=>
  obtain⟨h1,c,e,h2,h3,h4⟩:=h;exact⟨h1,c,e,h2,h3,bo.wk _ _ _ _ h4⟩
 |mp b=>
  obtain⟨es,cl,h1,hle,h2,h3⟩:=h;exact⟨es,cl,h1,by simpa[dW]using hle,λe=>co.wk _ _ (h2 (by simpa[dW]using e)),h3⟩
theorem Mem.we{k:Nat}{sz:Nat}{rows:List (List AV)}(h:Mem P w0 O0 β I (cK obj [(k,some ⟨sz,rows⟩)]) w):Mem P w0 O0 β I (cK obj [(k,some ⟨sz,dW rows⟩)]) w:=by
 refine h.weak λj o' hj=>?_;simp only[cK]at hj ⊢;by_cases e:j=k
 ·rw[aX e]at hj ⊢;cases hj;exact⟨_,rfl,λB _ hB=>OR.wk hB⟩
 ·rw[aQ e]at hj ⊢;exact⟨o',hj,λ_ _ h=>h⟩
theorem Mem.drew(h:Mem P w0 O0 β I obj w):Mem P w0 O0 β I obj w.drew:=by
 have hb:Below w.heap.size w w.drew:=⟨rfl,rfl,rfl,aC _,λ_ _=>rfl⟩;exact(h.below hb (λ _ h=>h) h.lt (λ b k o B h1 h2 h3 h4=>(h.ownB k o B b h2 h3 h4).1 h1) h.up).2
end
def ma:Nat->Option cL:=λ_=>none
def TV.av:TV->AV
 | .s x=> .t x
 | .a cs=> .agg (cs.map .t)
inductive RC where
 |d (x:TV)
 |fresh (sz:Nat) (rows:List (List Tree))
 |whole (j len:Nat)
inductive RV where
 |one (c:RC)
 |eC (cs:List RC)
def aI(rows:List (List Tree)):List (List AV):=rows.map λr=>r.map AV.t
def Pi(P:Program)(F:Nat->Prop)(sz:Nat)(rows:List (List Tree))(w:World)(I:Nat->Prop)(v:Value):Prop:=
 (rows=[]/\v= .slice none 0 0)\/∃b c e cap o s,v= .slice (some ⟨b,o,none⟩) rows.length cap/\F b/\¬I b/\w.heap[b]? =some (.cells c e (0,0))/\rows.length<=cap/\s+cap*sz<=c.size/\
  bo P ma w I (aI rows) c s sz/\(cap≠0->o=s)
def yd(P:Program)(F:Nat->Prop)(β:Nat->Option cL):RC->World->(Nat->Prop)->Value->Prop
 | .d x,w,I,v=>rk w I x v
 | .fresh sz rows,w,I,v=>Pi P F sz rows w I v
 | .whole j len,w,I,v=>VR P β w I (.own j 0 len) v
def RZ(P:Program)(F:Nat->Prop)(β:Nat->Option cL):List RC->World->(Nat->Prop)->List Value->Prop
 |[],_,_,[]=>True
 |c::cs,w,I,v::vs=>yd P F β c w I v/\RZ P F β cs w I vs
 |_,_,_,_=>False
def rm(P:Program)(F:Nat->Prop)(β:Nat->Option cL):RV->World->(Nat->Prop)->Value->Prop
 | .one c,w,I,v=>yd P F β c w I v
 | .eC cs,w,I,v=>∃vs:Array Value,v= .tuple vs/\RZ P F β cs w I vs.toList
def Mn(w:World)(b:Nat):Prop:=w.heap.size<=b
def eO(P : Program)(f : FuncId): Prop := ∃ fn, P.funcs[f]? = some fn /\ fn.body.isSome = true /\ (fn.name == "runtime.NumGoroutine") = false
def ra(P:Program)(f:FuncId)(args:List AV)(r:RV):Prop:=
 eO P f/\∀(w:World)(I:Nat->Prop)(vs:Array Value),(∀ b,I b->b<w.heap.size)->i7 w I->aE P ma w I args vs.toList->Calls P f vs w (ahw w I (rm P (Mn w) ma r))
mutual
def fx(P:Program)(get:Nat->Option aS):AV->AV->Prop
 | .t x,y=>y= .t x
 | .agg cs,y=>∃cs',y= .agg cs'/\eL P get cs cs'
 | .eC _,_=>False
 | .own k aa len,y=>∃o df,get k=some o/\y= .t (.sl df)/\(o.rows.drop aa).take len=aI df/\df.length=len
 | .ptr k row aa,y=>∃o sE,get k=some o/\y= .eo sE aa/\o.rows[row]? =some (sE.map AV.t)
 | .eo r o,y=>y= .eo r o
 | .fn f first caps,y=>∃first' nb,eL P get first first'/\eL P get caps nb/\(y= .fn f first' nb\/
  ∃ φ,y= .d7 φ/\first'=[]/\eO P f/\∀args r,φ args r->ra P f (first'++args.map TV.av++nb) (.one (.d r)))
 | .d7 φ,y=>y= .d7 φ
 | .mp _,_=>False
 | .oz k len,y=>∃o df,get k=some o/\y= .t (.sl df)/\(o.rows.drop 0).take len=aI df/\df.length=len
 | .cV,y=>y= .t (.sl [])\/y= .cV
 | .ub,_=>False
 | .undef,_=>False
def eL(P:Program)(get:Nat->Option aS):List AV->List AV->Prop
 |[],[]=>True
 |x::xs,y::ys=>fx P get x y/\eL P get xs ys
 |_,_=>False
end
mutual
def refs:AV->List Nat
 | .own k _ _=>[k]
 | .ptr k _ _=>[k]
 | .mp k=>[k]
 | .oz k _=>[k]
 | .agg cs=>eT cs
 | .eC cs=>eT cs
 | .fn _ first caps=>eT first++eT caps
 |_=>[]
def eT:List AV->List Nat
 |[]=>[]
 |x::xs=>refs x++eT xs
end
def fL(β:Nat->Option cL)(obj:Nat->Option aS)(ae:List Nat)(I:Nat->Prop)(b:Nat):Prop:=
 I b\/∃k o s n,k∈ae/\obj k=some o/\β k=some (.at b s n)
theorem fL.sub{β:Nat->Option cL}{obj:Nat->Option aS}{ae Hk:List Nat}{I:Nat->Prop}(h:∀k,k∈ae->k∈Hk):∀b,fL β obj ae I b->fL β obj Hk I b:=by
 intro b hb;rcases hb with hb |⟨k,o,s,n,h1,h2⟩
 ·exact .inl hb
 ·exact .inr ⟨k,o,s,n,h k h1,h2⟩
section
variable {P:Program} {β:Nat->Option cL} {w:World} {I:Nat->Prop}
theorem cW.drop:∀(n:Nat)(r:List AV)(c:Array Value)(aa:Nat),cW P β w I r c aa->cW P β w I (r.drop n) c (aa+n)
 | 0,_,_,_,h=>by simpa using h
 |n+1,[],_,_,_=>by simp[cW]
 |n+1,x::xs,c,aa,⟨_,h⟩=>by
  have:=cW.drop n xs c (aa+1) h;rw[List.drop_succ_cons,show aa+(n+1)=aa+1+n by omega];exact this
theorem cW.take:∀(n:Nat)(r:List AV)(c:Array Value)(aa:Nat),cW P β w I r c aa->cW P β w I (r.take n) c aa
 | 0,_,_,_,_=>by simp[cW]
 |n+1,[],_,_,_=>by simp[cW]
 |n+1,x::xs,c,aa,⟨h1,h⟩=>⟨h1,cW.take n xs c (aa+1) h⟩
theorem bo.drop:∀(n:Nat)(rs:List (List AV))(c:Array Value)(aa sz:Nat),bo P β w I rs c aa sz->bo P β w I (rs.drop n) c (aa+n*sz) sz
 | 0,_,_,_,_,h=>by simpa using h
 |n+1,[],_,_,_,_=>by simp[bo]
 |n+1,r::rs,c,aa,sz,⟨_,_,h⟩=>by
  have:=bo.drop n rs c (aa+sz) sz h;rw[List.drop_succ_cons,show aa+(n+1)*sz=aa+sz+n*sz by rw[Nat.add_mul];omega];exact this
theorem bo.take:∀(n:Nat)(rs:List (List AV))(c:Array Value)(aa sz:Nat),bo P β w I rs c aa sz->bo P β w I (rs.take n) c aa sz
 | 0,_,_,_,_,_=>by simp[bo]
 |n+1,[],_,_,_,_=>by simp[bo]
 |n+1,r::rs,c,aa,sz,⟨h1,h2,h⟩=>⟨h1,h2,bo.take n rs c (aa+sz) sz h⟩
theorem bo.get:∀(i:Nat)(rs:List (List AV))(c:Array Value)(aa sz:Nat)(r:List AV),bo P β w I rs c aa sz->rs[i]? =some r->r.length=sz/\cW P β w I r c (aa+i*sz)
 | 0,r::rs,c,aa,sz,r',⟨h1,h2,_⟩,h=>by simp at h;subst h;exact⟨h1,by simpa using h2⟩
 |i+1,r::rs,c,aa,sz,r',⟨_,_,h3⟩,h=>by
  have:=bo.get i rs c (aa+sz) sz r' h3 (by simpa using h);rw[show aa+(i+1)*sz=aa+sz+i*sz by rw[Nat.add_mul];omega];exact this
 |_,[],_,_,_,_,_,h=>by simp at h
theorem dp.lr{I':Nat->Prop}{b:Nat}{c:Array Value}{e:TypeId}{f:Nat×Nat}(hI:∀b,I b->I' b)(hc:w.heap[b]? =some (.cells c e f)):∀(r:List Tree)(aa:Nat),cW P β w I (r.map AV.t) c aa->dp w I' r b aa
 |[],_,_=>by simp[dp]
 |x::xs,aa,⟨⟨v,h1,h2,_⟩,h3⟩=>by
  simp only[dp];refine⟨⟨v,?_,?_⟩,dp.lr hI hc xs (aa+1) h3⟩
  ·simp[World.cell?,hc,h1]
  ·simp only[VR]at h2;exact TR.mono (λ _ _=>rfl) hI x v h2
theorem cp.lr{I':Nat->Prop}{b:Nat}{c:Array Value}{e:TypeId}{f:Nat×Nat}(hI:∀b,I b->I' b)(hc:w.heap[b]? =some (.cells c e f)):∀(rs:List (List Tree))(aa sz:Nat),bo P β w I (aI rs) c aa sz->cp w I' rs b aa sz
 |[],_,_,_=>by simp[cp]
 |r::rs,aa,sz,h=>by
  simp only[aI,aF,bo]at h;simp only[cp];exact⟨by simpa using h.1,dp.lr hI hc r aa h.2.1,cp.lr hI hc rs (aa+sz) sz h.2.2⟩
theorem rb.G4{f:FuncId}{first caps:Array Value}{first' nb:List AV}{φ:List TV->TV->Prop}(h0:first'=[])(hcall:eO P f)(hgv:i7 w I)(hf:aE P ma w I first' first.toList)(hc:aE P ma w I nb caps.toList)
 (h:∀args r,φ args r->ra P f (first'++args.map TV.av++nb) (.one (.d r))):rb P w I φ (.func (.func f) first caps):=by
 obtain⟨fn,h1,h2,h3⟩:=hcall;have h00:first=#[]:=by
  obtain⟨fs⟩:=first
  cases fs with
  |nil=>rfl
  |cons a b=>rw[h0]at hf;simp[aE]at hf
 refine⟨f,first,caps,rfl,h00,λfn' hfn=>?_,by simp[h1],?_⟩
 ·rw[h1]at hfn;cases hfn;exact⟨h2,h3⟩
 ·intro w' I' args vs r hI hS hlt hφ ha;have happ:∀(a b:List AV)(u v:List Value),aE P ma w' I' a u->aE P ma w' I' b v->aE P ma w' I' (a++b) (u++v):=by
   intro a
   induction a with
   |nil=>intro b u v h1 h2;cases u with
    |nil=>simpa using h2
    |cons=>simp[aE]at h1
   |cons x xs ih=>intro b u v h1 h2;cases u with
    |nil=>simp[aE]at h1
    |cons y ys=>simp only[aE]at h1;simp only[cons_append,aE];exact⟨h1.1,ih _ _ _ h1.2 h2⟩
  have hargs:∀(args:List TV)(vs:List Value),mL w' I' args vs->aE P ma w' I' (args.map TV.av) vs:=by
   intro args
   induction args with
   |nil=>intro vs h;cases vs with
    |nil=>simp[aE]
    |cons=>simp[mL]at h
   |cons x xs ih=>intro vs h;cases vs with
    |nil=>simp[mL]at h
    |cons y ys=>
     simp only[mL]at h;simp only[aF,aE];refine⟨?_,ih ys h.2⟩;cases x with
     |s x=>simpa[TV.av,VR,rk]using h.1
     |a cs=>
      obtain⟨us,rfl,h5⟩:=h.1;simp only[TV.av,VR];refine⟨us,rfl,?_⟩;have:∀(cs:List Tree) (us:List Value),eI w' I' cs us->aE P ma w' I' (cs.map AV.t) us:=by
       intro cs
       induction cs with
       |nil=>intro us h;cases us with
        |nil=>simp[aE]
        |cons=>simp[eI]at h
       |cons x xs ih=>intro us h;cases us with
        |nil=>simp[eI]at h
        |cons y ys=>simp only[eI]at h;simp only[aF,aE,VR];exact⟨h.1,ih _ h.2⟩
      exact this cs us.toList h5
  have hm:∀k B,ma k=some B->ma k=some B:=λ_ _ h=>h;have:=(h args r hφ).2 w' I' (first++vs++caps) hlt (hgv.mono hS hI) (by
   simp only[Array.toList_append];exact happ _ _ _ _ (happ _ _ _ _ (aE.mono hm hS hI _ _ hf) (hargs _ _ ha)) (aE.mono hm hS hI _ _ hc))
  exact this
variable {w0:World} {O0:j8} {obj:Nat->Option aS}
theorem fx.p5(h:Mem P w0 O0 β I obj w)(ae:List Nat){k aa len:Nat}{y:AV}{v:Value}(hk:k∈ae)(hb:∃o df,obj k=some o/\y= .t (.sl df)/\(o.rows.drop aa).take len=aI df/\df.length=len)(hv:VR P β w I (.own k aa len) v):VR P ma w (fL β obj ae I) y v:=by
 obtain⟨o,df,hget,rfl,hrows,hlen⟩:=hb;simp only[VR]at hv ⊢;simp only[TR];rcases hv with ⟨h1,rfl,h2,h3⟩ |⟨b,sz,n,cap,a,h1,rfl,h2,h3,h4⟩
 ·exact .inl ⟨eq_nil_of_length_eq_zero (by omega),none,0,rfl,λ_=>rfl⟩
 ·refine .inr ⟨b,a,cap,sz,by rw[hlen],by omega,.inr ⟨k,o,sz,n,hk,hget,h1⟩,?_⟩;by_cases h0:cap=0
  ·have:df=[]:=eq_nil_of_length_eq_zero (by omega);subst this;simp[cp]
  ·rw[h4 h0];have⟨B,hB,hO⟩:=h.cE k o hget;rw[h1]at hB;cases hB;obtain⟨hs,c,e,hc,_,hO⟩:=hO;have h4:=bo.take len _ _ _ _ (bo.drop aa _ _ _ _ hO);rw[hrows]at h4;exact cp.lr (λ _ h=> .inl h) hc df _ _ h4
mutual
theorem fx.sound(h:Mem P w0 O0 β I obj w)(ae:List Nat):∀(x y:AV)(v:Value),(∀ k,k∈refs x->k∈ae)->fx P obj x y->VR P β w I x v->VR P ma w (fL β obj ae I) y v
 | .t x,y,v,_,hb,hv=>by
  simp only[fx]at hb;subst hb;simp only[VR]at hv ⊢;exact TR.mono (λ _ _=>rfl) (λ _ h=> .inl h) x v hv
 | .agg cs,y,v,hk,hb,hv=>by
  simp only[fx]at hb;obtain⟨cs',rfl,hb⟩:=hb;simp only[VR]at hv ⊢;obtain⟨vs,rfl,hv⟩:=hv;exact⟨vs,rfl,eL.sound h ae cs cs' vs.toList (by simpa[refs]using hk) hb hv⟩
 | .eC _,_,_,_,hb,_=>by simp[fx]at hb
 | .oz k len,y,v,hk,hb,hv=>by
  rcases hv.uA with ⟨rfl,rfl⟩ |⟨_,hv⟩
  ·simp only[fx]at hb;obtain⟨o,df,hget,rfl,hrows,hlen⟩:=hb;simp only[VR,TR];exact .inl ⟨eq_nil_of_length_eq_zero hlen,none,0,rfl,λ_=>rfl⟩
  ·exact fx.p5 h ae (hk k (by simp[refs])) (by simpa only[fx]using hb) hv
 | .own k aa len,y,v,hk,hb,hv=>fx.p5 h ae (hk k (by simp[refs])) (by simpa only[fx]using hb) hv
 | .ptr k row aa,y,v,hk,hb,hv=>by
  simp only[fx]at hb;obtain⟨o,sE,hget,rfl,hrow⟩:=hb;simp only[VR]at hv ⊢;obtain⟨b,sz,n,h1,rfl⟩:=hv;have⟨B,hB,hO⟩:=h.cE k o hget;rw[h1]at hB;cases hB;obtain⟨hs,c,e,hc,_,hO⟩:=hO;have h4:=(bo.get row _ _ _ _ _ hO hrow).2;exact⟨b,n.s+row*sz,rfl,.inr ⟨k,o,sz,n,hk k (by simp[refs]),hget,h1⟩,dp.lr (λ _ h=> .inl h) hc sE _ h4⟩
 | .eo r o,y,v,_,hb,hv=>by
  simp only[fx]at hb;subst hb;simp only[VR]at hv ⊢;obtain⟨b,o',h1,h2,h3⟩:=hv;exact⟨b,o',h1,.inl h2,dp.mono (λ _ _=>rfl) (λ _ h=> .inl h) r b o' h2 h3⟩
 | .fn f first caps,y,v,hk,hb,hv=>by
  simp only[fx]at hb;obtain⟨first',nb,hb1,hb2,hy⟩:=hb;simp only[VR]at hv;obtain⟨fs,cs,rfl,hv1,hv2⟩:=hv;have h1:=eL.sound h ae first first' fs.toList (λ k hk'=>hk k (by simp[refs,hk'])) hb1 hv1
  have h2:=eL.sound h ae caps nb cs.toList (λ k hk'=>hk k (by simp[refs,hk'])) hb2 hv2;rcases hy with rfl |⟨φ,rfl,h0,hc,hφ⟩
  ·simp only[VR];exact⟨fs,cs,rfl,h1,h2⟩
  ·simp only[VR];exact rb.G4 h0 hc (h.vars.mono (λ _ _=>rfl) (λ _ h=> .inl h)) h1 h2 hφ
 | .d7 φ,y,v,_,hb,hv=>by
  simp only[fx]at hb;subst hb;simp only[VR]at hv ⊢;exact rb.mono (λ _ _=>rfl) (λ _ h=> .inl h) hv
 | .cV,y,v,_,hb,hv=>by
  simp only[fx]at hb;rcases hb with rfl |rfl
  ·simp only[VR]at hv ⊢;simp only[TR];exact .inl ⟨trivial,none,0,hv,λ_=>rfl⟩
  ·simpa only[VR]using hv
 | .ub,_,_,_,hb,_=>by simp[fx]at hb
 | .undef,_,_,_,hb,_=>by simp[fx]at hb
theorem eL.sound(h:Mem P w0 O0 β I obj w)(ae:List Nat):∀(xs ys:List AV)(vs:List Value),(∀ k,k∈eT xs->k∈ae)->eL P obj xs ys->aE P β w I xs vs->aE P ma w (fL β obj ae I) ys vs
 |[],[],[],_,_,_=>by simp[aE]
 |x::xs,y::ys,v::vs,hk,hb,hv=>by
  simp only[eL]at hb;simp only[aE]at hv ⊢;exact⟨fx.sound h ae x y v (λ k hk'=>hk k (by simp[eT,hk'])) hb.1 hv.1,eL.sound h ae xs ys vs (λ k hk'=>hk k (by simp[eT,hk'])) hb.2 hv.2⟩
 |[],_::_,_,_,hb,_=>by simp[eL]at hb
 |_::_,[],_,_,hb,_=>by simp[eL]at hb
 |[],[],_::_,_,_,hv=>by simp[aE]at hv
 |_::_,_::_,[],_,_,hv=>by simp[aE]at hv
end
end
inductive AD where
 |slice (e:TypeId)
 |arr (n:Nat) (e:TypeId)
 |struct (fs:List (Nat×TypeId))
 |bool
 |str
 |int (k:IntKind)
 |map (k e:TypeId)
 |other
structure nf where
 size:Nat
 bytes:Nat
 agg:Bool
 zero:List Value
 k:AD
 cmp:List Nat
abbrev ea:=Nat->Option nf
def QQ:AD->TypeDesc->Prop
 | .slice e,d=>d= .slice e
 | .arr n e,d=>d= .array n e
 | .struct fs,d=>∃fa:Array Field,d= .struct fa/\fa.toList.map (λ f=>(f.offset,f.type))=fs
 | .bool,d=>d= .bool
 | .str,d=>d= .string
 | .int k,d=>d= .int k
 | .map k e,d=>d= .map k e
 | .other,_=>True
def s8:TypeDesc->Bool
 | .struct _ | .array _ _=>true
 |_=>false
def kh:Value->Bool
 | .agg _ | .tuple _=>false
 |_=>true
theorem sF{v:Value}(h:kh v=true):oneCell v:=by cases v<;>first |exact trivial |(simp [kh]at h)
def UA(P:Program)(f:Field)(kd:Nat):Bool:=
 (f.name != "_") && match P.underlying f.type with
  |some (.int _)=>kd==0
  |some .bool=>kd==1
  |some .string=>kd==2
  |_=>false
def ga(P:Program):Nat->List Field->List Nat->Bool
 |_,[],[]=>true
 |n,f::fs,k::ks=>f.offset==n&&UA P f k&&ga P (n+1) fs ks
 |_,_,_=>false
def te(agg:Bool):Value->Bool
 | .agg _=>agg
 | .tuple _=>false
 |_=>!agg
structure lE(P:Program)(t:TypeId)(ti:nf):Prop where
 ex:∃info d z,P.info? t=some info/\P.underlying t=some d/\info.size=ti.size/\info.bytes=ti.bytes/\info.zero=some z/\z.cells.toList=ti.zero/\s8 d=ti.agg/\QQ ti.k d
 one:ti.zero.all kh=true
 len:ti.zero.length=ti.size
 form:∀info z,P.info? t=some info->info.zero=some z->te ti.agg z=true
 cmp:ti.cmp≠[]->(∃ fa:Array Field,P.underlying t=some (.struct fa)/\P.stoodInHeld t=false/\P.eqGuardType P.depth t=false/\ga P 0 fa.toList ti.cmp=true)\/(ti.cmp=[9]/\P.eqGuardType P.depth t=false)
def eY(P:Program)(T:ea):Prop:=∀t ti,T t=some ti->lE P t ti
def jl:List Prop->Prop
 |[]=>True
 |[p]=>p
 |p::q::r=>p/\jl (q::r)
structure Out where
 v:AV
 upd:List (Nat×Option aS)
 obs:List Prop
@[reducible] def Out.ob (o:Out):Prop:=jl o.obs
def cJ(i:Nat):Nat:=1000000+64*i
inductive LH where
 |rows (tr:List (List Tree))
 |row (tr:List Tree)
 |fn
 |d7 (φ:List TV->TV->Prop)
 |mut (j:Nat)
 |nil
 |emp
 |fnw
 |agw
 |agd
inductive OB where
 |dat (p:Nat×List (List Tree))
 |C5 (hs:List (List LH))
inductive i8 where
 |none
 |row (r:List AV)
 |set (r:List AV) (rs:List (List AV))
 |sE (r:List Tree)
 |num (n:Int)
 |rows (rs:List (List AV))
 |AF (rows:List (List Tree))
 |call (hs:List LH) (r:RV) (keep:Bool)
 |C6 (hs:List LH) (args:List TV) (r:TV) (keep:Bool)
 |ext (n:Int)
 |xm (ae:List Nat) (fr:Operand->AV) (cw:i8)
 |tz (ae:List Nat) (os:List (Nat×List (List Tree))) (os':List (Option (Nat×List (List Tree)))) (hs:List LH) (r:RV) (keep:Bool)
 |tA (ae cT:List Nat) (bs:List OB) (hs:List LH) (os':List (Nat×aS)) (rv:AV) (keep:Bool)
def pv(v:AV):Option Out:=some ⟨v,[],[]⟩
def mw(v:AV)(ob:Prop):Option Out:=some ⟨v,[],[ob]⟩
def cv:Value->AV
 | .slice none 0 0=> .cV
 |v=>if kh v then .t (.sc v)else .undef
def lp(env:Nat->AV):Operand->AV
 | .tmp t=>env t
 | .const v=>cv v
 | .global g=>match vp g with
  |some row=> .eo (row.map Tree.sc) 0
  |none=> .undef
 | .func f=> .fn f [] []
def oG:AV->Bool
 | .agg _ | .eC _ | .undef=>false
 |_=>true
def cellsOf:AV->Option (List AV)
 | .agg cs=>if cs.all oG then some cs else none
 | .eC _ | .undef=>none
 |x=>some [x]
def part'(agg:Bool)(size:Nat)(cs:List AV):Option AV:=
 if cs.length=size then(if agg then some (.agg cs)else match cs with |[x]=>if oG x then some x else none |_=>none)else none
def put'(r:List AV)(aa:Nat)(cs:List AV):List AV:=r.take aa++cs++r.drop (aa+cs.length)
def UB(op:BinOp)(k:IntKind)(a b:Int):Option (Value×List Prop):=
 match op with
 | .add=>some (.int k (k.wrap (a+b)),[])
 | .sub=>some (.int k (k.wrap (a -b)),[])
 | .mul=>some (.int k (k.wrap (a*b)),[])
 | .quo=>some (.int k (k.wrap (a.tdiv b)),[b≠0])
 | .rem=>some (.int k (a.tmod b),[b≠0])
 | .and=>some (.int k (bits .and k a b),[])
 | .or=>some (.int k (bits .or k a b),[])
 | .xor=>some (.int k (bits .xor k a b),[])
 | .andNot=>some (.int k (bits .andNot k a b),[])
 | .shl=>some (.int k (k.wrap (a*2 ^ b.toNat)),[0<=b/\b<=k.bits])
 | .shr=>some (.int k (a/2 ^ b.toNat),[0<=b/\b<=k.bits])
 | .eql=>some (.bool (a==b),[])
 | .neq=>some (.bool (a !=b),[])
 | .lss=>some (.bool (decide (a<b)),[])
 | .leq=>some (.bool (decide (a<=b)),[])
 | .gtr=>some (.bool (decide (a>b)),[])
 | .geq=>some (.bool (decide (a>=b)),[])
def KF:Nat->AV->AV->Option Bool
 | 0,.t (.sc (.int j a)),.t (.sc (.int k b))=>if j=k then some (a==b)else none
 | 1,.t (.sc (.bool a)),.t (.sc (.bool b))=>some (a==b)
 | 2,.t (.sc (.string a)),.t (.sc (.string b))=>some (a.toList==b.toList)
 |_,_,_=>none
def sG:List Nat->List AV->List AV->Option Bool
 |[],[],[]=>some true
 |k::ks,x::xs,y::ys=>(KF k x y).bind λa=>(sG ks xs ys).bind λb=>some (a&&b)
 |_,_,_=>none
theorem aj8:∀xs ys:List AV,sG [9] xs ys=none:=by intro xs ys;cases xs<;>cases ys<;>simp[sG,KF]
def Yj(T:ea)(op:BinOp)(t:TypeId)(x y:AV):Option Out:=
 match x,y with
 | .t (.sc (.int k a)),.t (.sc (.int yk b))=>if k=yk\/op= .shl\/op= .shr then(UB op k a b).bind λ(v,obs)=>some ⟨.t (.sc v),[],obs⟩else none
 | .t (.sc (.string a)),.t (.sc (.string b))=>match op with
  | .eql=>pv (.t (.sc (.bool (a.toList==b.toList))))
  | .neq=>pv (.t (.sc (.bool (!(a.toList==b.toList)))))
  | .lss=>pv (.t (.sc (.bool (Op.bytesLess a.toList b.toList))))
  | .gtr=>pv (.t (.sc (.bool (!(Op.bytesLess a.toList b.toList || a.toList==b.toList)))))
  | .add=>mw (.t (.sc (.string (a++b)))) (a.size+b.size<=maxLen)
  |_=>none
 | .t (.sc (.bool a)),.t (.sc (.bool b))=>(T t).bind λti=>match ti.k,op with
  | .bool,.eql=>pv (.t (.sc (.bool (a==b))))
  | .bool,.neq=>pv (.t (.sc (.bool (!(a==b)))))
  |_,_=>none
 | .agg xs,.agg ys=>(T t).bind λti=>if ti.cmp=[]then none else(sG ti.cmp xs ys).bind λb=>match op with
  | .eql=>pv (.t (.sc (.bool b)))
  | .neq=>pv (.t (.sc (.bool (!b))))
  |_=>none
 |_,_=>none
def Pu(op:UnOp)(x:AV):Option Out:=
 match op,x with
 | .not,.t (.sc (.bool b))=>pv (.t (.sc (.bool (!b))))
 | .neg,.t (.sc (.int k n))=>pv (.t (.sc (.int k (k.wrap (0 -n)))))
 |_,_=>none
def Dq(mx:Bool)(k:IntKind):Int->List AV->Option Int
 |a,[]=>some a
 |a,.t (.sc (.int k' b))::r=>if k'=k then Dq mx k (if mx then max a b else min a b) r else none
 |_,_=>none
def GC(mx:Bool)(args:List AV):Option Out:=
 match args with
 | .t (.sc (.int k a))::r=>(Dq mx k a r).bind λn=>pv (.t (.sc (.int k n)))
 |_=>none
def Kc(T:ea)(t:TypeId)(x:AV)(cw:i8)(get:Nat->Option aS):Option Out:=
 (T t).bind λti=>match x with
 | .ptr k row aa=>(get k).bind λo=>match cw with
  | .row r=>(part' ti.agg ti.size ((r.drop aa).take ti.size)).bind λv=>mw v (o.rows[row]? =some r)
  |_=>(o.rows[row]?).bind λr=>(part' ti.agg ti.size ((r.drop aa).take ti.size)).bind pv
 | .eo r aa=>(part' ti.agg ti.size (((r.drop aa).take ti.size).map AV.t)).bind pv
 |_=>none
def UC(T:ea)(t:TypeId)(x y:AV)(cw:i8)(get:Nat->Option aS):Option Out:=
 (T t).bind λti=>(cellsOf y).bind λcs=>if cs.length=ti.size then match x with
 | .ptr k row aa=>(get k).bind λo=>match cw with
  | .set r rs=>if aa+cs.length<=r.length then some ⟨.undef,[(k,some ⟨o.sz,rs⟩)],[o.rows[row]? =some r/\rs=dW (o.rows.set row (put' r aa cs))]⟩else none
  |_=>(o.rows[row]?).bind λr=>if aa+cs.length<=r.length then some ⟨.undef,[(k,some ⟨o.sz,o.rows.set row (put' r aa cs)⟩)],[]⟩else none
 |_=>none else none
def zK(T:ea)(t:TypeId)(f:Nat):Option (Nat×nf):=
 (T t).bind λti=>match ti.k with
 | .struct fs=>(fs[f]?).bind λ(aa,u)=>(T u).bind λui=>if ui.size=0 then none else some (aa,ui)
 |_=>none
def yj(T:ea)(t:TypeId)(x:AV)(f:Nat):Option Out:=
 (zK T t f).bind λ(d,_)=>match x with
 | .ptr k row aa=>pv (.ptr k row (aa+d))
 | .eo r aa=>pv (.eo r (aa+d))
 |_=>none
def UD(T:ea)(t:TypeId)(x:AV)(f:Nat):Option Out:=
 (zK T t f).bind λ(d,ui)=>match x with
 | .agg cs=>(part' ui.agg ui.size ((cs.drop d).take ui.size)).bind pv
 |_=>none
def lT(T:ea)(t:TypeId)(x i:AV)(cw:i8)(get:Nat->Option aS):Option Out:=
 (T t).bind λti=>match ti.k,i with
 | .slice e,.t (.sc (.int _ n))=>(T e).bind λei=>match x,cw with
  | .t (.sl rows),.sE r=>if r.length=ei.size then mw (.eo r 0) (0<=n/\rows[n.toNat]? =some r)else none
  | .own k aa len,_=>(get k).bind λo=>if o.sz=ei.size then mw (.ptr k (aa+n.toNat) 0) (0<=n/\n.toNat<len)else none
  |_,_=>none
 | .arr m e,.t (.sc (.int _ n))=>(T e).bind λei=>match x with
  | .ptr k row aa=>mw (.ptr k row (aa+n.toNat*ei.size)) (0<=n/\n.toNat<m)
  | .eo r aa=>mw (.eo r (aa+n.toNat*ei.size)) (0<=n/\n.toNat<m)
  |_=>none
 |_,_=>none
def Gw(x:AV)(j:Nat):Option Out:=
 match x with
 | .eC vs=>(vs[j]?).bind pv
 |_=>none
def z7(T:ea)(t:TypeId)(x:AV)(cw:i8):Option Out:=
 (T t).bind λti=>match ti.k,x,cw with
 | .slice _,.t (.sl rows),.num n=>mw (.t (.sc (.int .i64 n))) (n=(rows.length:Int))
 | .slice _,.own _ _ len,.num n=>mw (.t (.sc (.int .i64 n))) (n=(len:Int))
 | .slice _,.own _ _ len,_=>pv (.t (.sc (.int .i64 (len:Int))))
 | .slice _,.oz _ len,_=>pv (.t (.sc (.int .i64 (len:Int))))
 | .slice _,.cV,_=>pv (.t (.sc (.int .i64 0)))
 | .str,.t (.sc (.string s)),_=>pv (.t (.sc (.int .i64 (s.size:Int))))
 |_,_,_=>none
def EX(place:Nat->Option (Nat×Nat)):List AV->List (Nat×AV)->Option (List AV)
 |cells,[]=>some cells
 |cells,(j,x)::ag=>(place j).bind λ(aa,size)=>(cellsOf x).bind λcs=>
  if cs.length=size/\aa+cs.length<=cells.length then EX place (put' cells aa cs) ag else none
def UE(T:ea)(t:TypeId)(parts:List (Nat×AV)):Option Out:=
 (T t).bind λti=>match ti.k with
 | .struct fs=>if fs.all (λ p=>(T p.2).isSome)then
  (EX (λ j=>(fs[j]?).bind λp=>(T p.2).bind λui=>some (p.1,ui.size)) (ti.zero.map cv) parts).bind λcells=>pv (.agg cells)else none
 | .arr _ e=>(T e).bind λei=>(EX (λ j=>some (j*ei.size,ei.size)) (ti.zero.map cv) parts).bind λcells=>pv (.agg cells)
 |_=>none
def LX(size:Nat):List (List AV)->List (Nat×AV)->Option (List (List AV))
 |rows,[]=>some rows
 |rows,(j,x)::ag=>(cellsOf x).bind λcs=>if cs.length=size/\j<rows.length then LX size (rows.set j cs) ag else none
def vO(T:ea)(i:Nat)(t:TypeId)(len:Nat)(parts:List (Nat×AV))(kp:Bool:=false):Option Out:=
 (T t).bind λti=>match ti.k with
 | .slice e=>(T e).bind λei=>if ei.size=0\/len*ei.size>2 ^ 24 then none else
  (LX ei.size (List.replicate len (ei.zero.map cv)) parts).bind λrows=>some ⟨.own (cJ i) 0 len,[(cJ i,some ⟨ei.size,if kp then rows else dW rows⟩)],[]⟩
 |_=>none
def UF(T:ea)(i:Nat)(e:TypeId):Option Out:=
 (T e).bind λti=>some ⟨.ptr (cJ i) 0 0,[(cJ i,some ⟨ti.size,[ti.zero.map cv]⟩)],[]⟩
def Jn(i:Nat)(x:AV):Option Out:=
 (cellsOf x).bind λcs=>some ⟨.ptr (cJ i) 0 0,[(cJ i,some ⟨cs.length,[cs]⟩)],[]⟩
def bnd(d:Int):Option AV->Option Int
 |none=>some d
 |some (.t (.sc (.int _ n)))=>some n
 |_=>none
def UG(T:ea)(t:TypeId)(x:AV)(lo hi:Option AV)(cw:i8)(get:Nat->Option aS):Option Out:=
 (T t).bind λti=>match ti.k with
 | .slice e=>(T e).bind λei=>match x with
  | .own k aa len=>(get k).bind λo=>if o.sz=ei.size then(bnd 0 lo).bind λl=>(bnd len hi).bind λh=>
   mw (.own k (aa+l.toNat) (h.toNat -l.toNat)) (0<=l/\l<=h/\h<=(len:Int))else none
  | .t (.sl rows)=>match cw with
   | .AF rs=>(bnd 0 lo).bind λl=>(bnd rows.length hi).bind λh=>
    mw (.t (.sl rs)) (0<=l/\l<=h/\h<=(rows.length:Int)/\rs=(rows.drop l.toNat).take (h.toNat -l.toNat)/\(∀ r∈rows,r.length=ei.size))
   |_=>none
  |_=>none
 |_=>none
def UH(size:Nat)(y:AV)(get:Nat->Option aS):Option (Nat×Prop×List (List AV)):=
 match y with
 | .own k aa len=>(get k).bind λo=>if o.sz=size then some (len,True,(o.rows.drop aa).take len)else none
 | .t (.sl rows)=>some (rows.length,∀r∈rows,r.length=size,aI rows)
 |_=>none
def zL(T:ea)(i:Nat)(t:TypeId)(x y:AV)(cw:i8)(get:Nat->Option aS):Option Out:=
 (T t).bind λti=>match ti.k with
 | .slice e=>(T e).bind λei=>match cw with
  | .rows rs=>(UH ei.size y get).bind λ(n,ob,an)=>match x with
   | .own k aa len=>(get k).bind λo=>if o.sz=ei.size then
    some ⟨.own (cJ i) 0 rs.length,[(cJ i,some ⟨ei.size,rs⟩),(k,none)],[ob/\(o.rows.drop aa).length=len/\an.length=n/\rs=o.rows.drop aa++an/\(len+n)*ei.bytes<=140737488355328/\len+n<=maxLen]⟩else none
   | .cV=>some ⟨.own (cJ i) 0 rs.length,[(cJ i,some ⟨ei.size,rs⟩)],[ob/\an.length=n/\rs=an/\n*ei.bytes<=140737488355328/\n<=maxLen]⟩
   |_=>none
  |_=>none
 |_=>none
def Ca(T:ea)(i:Nat)(b:Builtin)(args:List AV)(cQ:List TypeId)(cw:i8)(get:Nat->Option aS):Option Out:=
 match b,args,cQ with
 | .len,[x],[t]=>z7 T t x cw
 | .max,args,_=>GC true args
 | .min,args,_=>GC false args
 | .append,[x,y],[t,u]=>if t=u then zL T i t x y cw get else none
 |_,_,_=>none
def Kx(t:Bool)(x y:AV):AV:=
 match x,y with
 | .t (.sc (.bool p)),.t (.sc (.bool q))=> .t (.sc (.bool (bif t then p else q)))
 | .t (.sc (.int k p)),.t (.sc (.int k' q))=>if k=k' then .t (.sc (.int k (bif t then p else q)))else bif t then x else y
 |_,_=>bif t then x else y
theorem UI(t:Bool)(x y:AV):Kx t x y=if t=true then x else y:=by
 unfold Kx;split
 ·cases t<;>rfl
 ·split
  ·rename_i h;subst h;cases t<;>rfl
  ·cases t<;>rfl
 ·cases t<;>rfl
def pU(T:ea)(i:Nat)(o:Oper)(cw:i8)(ρ:Operand->AV)(get:Nat->Option aS):Option Out:=
 match o.op with
 | .move x=>pv (ρ x)
 | .assign x=>pv (ρ x)
 | .pick c a b=>match ρ c with | .t (.sc (.bool t))=>pv (Kx t (ρ a) (ρ b)) |_=>none
 | .alloc e=>UF T i e
 | .box _ x=>Jn i (ρ x)
 | .build t parts=>UE T t (parts.toList.map λ(j,x)=>(j,ρ x))
 | .buildSlice t len parts=>vO T i t len (parts.toList.map λ(j,x)=>(j,ρ x)) (match cw with | .row _=>true |_=>false)
 | .load t a=>Kc T t (ρ a) cw get
 | .store t a x=>UC T t (ρ a) (ρ x) cw get
 | .binOp op t x y _=>Yj T op t (ρ x) (ρ y)
 | .unOp op _ x=>Pu op (ρ x)
 | .makeFunc (.func f) first caps=>pv (.fn f (first.toList.map ρ) (caps.toList.map ρ))
 | .slice t x lo hi none=>UG T t (ρ x) (lo.map ρ) (hi.map ρ) cw get
 | .fieldAddr t x f=>yj T t (ρ x) f
 | .field t x f=>UD T t (ρ x) f
 | .indexAddr t x j=>lT T t (ρ x) (ρ j) cw get
 | .extract x j=>Gw (ρ x) j
 | .call { callee:= .builtin b,args:=args,argTypes:=cQ }=>Ca T i b (args.toList.map ρ) cQ.toList cw get
 |_=>none
def sk(P:Program)(w0:World)(O0:j8)(β:Nat->Option cL)(I:Nat->Prop)(obj:Nat->Option aS)(w:World)(i:Nat)(ab:Out)(r:Result Next):Prop:=
 ∃v' w' β' I',(r= .ok (.value v') w'\/(r= .ok .skip w'/\v'=undef))/\Step β I w (cJ i) β' I' w'/\Mem P w0 O0 β' I' (cK obj ab.upd) w'/\VR P β' w' I' ab.v v'
section
variable {P:Program} {T:ea} {w0:World} {O0:j8} {β:Nat->Option cL} {I:Nat->Prop} {obj:Nat->Option aS} {w:World} {i:Nat}
theorem sk.pure(h:Mem P w0 O0 β I obj w){x:AV}{ob:List Prop}{v:Value}(hv:VR P β w I x v):sk P w0 O0 β I obj w i ⟨x,[],ob⟩ (.ok (.value v) w):=
 ⟨v,w,β,I,.inl rfl,Step.refl ..,h,hv⟩
theorem aE.length:∀(xs:List AV)(vs:List Value),aE P β w I xs vs->vs.length=xs.length
 |[],[],_=>rfl
 |x::xs,v::vs,h=>by simp only[aE]at h;simp[aE.length xs vs h.2]
 |[],_::_,h=>by simp[aE]at h
 |_::_,[],h=>by simp[aE]at h
theorem aE.get:∀(xs:List AV)(vs:List Value)(j:Nat)(x:AV),aE P β w I xs vs->xs[j]? =some x->∃v,vs[j]? =some v/\VR P β w I x v
 |x::xs,v::vs,0,x',h,hj=>by simp only[aE]at h;simp at hj;subst hj;exact⟨v,rfl,h.1⟩
 |x::xs,v::vs,j+1,x',h,hj=>by simp only[aE]at h;simpa using aE.get xs vs j x' h.2 (by simpa using hj)
 |[],_,_,_,_,hj=>by simp at hj
 |_::_,[],_,_,h,_=>by simp[aE]at h
theorem aE.take:∀(n:Nat)(xs:List AV)(vs:List Value),aE P β w I xs vs->aE P β w I (xs.take n) (vs.take n)
 | 0,_,_,_=>by simp[aE]
 |n+1,[],[],_=>by simp[aE]
 |n+1,x::xs,v::vs,h=>by simp only[aE]at h;simp only[List.take_succ_cons,aE];exact⟨h.1,aE.take n xs vs h.2⟩
 |_+1,[],_::_,h=>by simp[aE]at h
 |_+1,_::_,[],h=>by simp[aE]at h
theorem aE.drop:∀(n:Nat)(xs:List AV)(vs:List Value),aE P β w I xs vs->aE P β w I (xs.drop n) (vs.drop n)
 | 0,_,_,h=>by simpa using h
 |n+1,[],[],_=>by simp[aE]
 |n+1,x::xs,v::vs,h=>by simp only[aE]at h;simpa using aE.drop n xs vs h.2
 |_+1,[],_::_,h=>by simp[aE]at h
 |_+1,_::_,[],h=>by simp[aE]at h
theorem aE.append:∀(xs ys:List AV)(us vs:List Value),aE P β w I xs us->aE P β w I ys vs->aE P β w I (xs++ys) (us++vs)
 |[],ys,[],vs,_,h=>by simpa using h
 |x::xs,ys,u::us,vs,h1,h2=>by simp only[aE]at h1;simp only[cons_append,aE];exact⟨h1.1,aE.append xs ys us vs h1.2 h2⟩
 |[],_,_::_,_,h,_=>by simp[aE]at h
 |_::_,_,[],_,h,_=>by simp[aE]at h
theorem VR.one{x:AV}{v:Value}(hx:oG x=true)(h:VR P β w I x v):oneCell v:=by
 cases x<;>simp only[VR]at h
 case t x=>
  cases x with
  |sc u=>simp only[TR]at h;rw[h.1];exact h.2
  |sl rows=>simp only[TR]at h;rcases h with ⟨_,_,_,rfl,_⟩ |⟨b,aa,cap,sz,rfl,_⟩<;>exact trivial
 case agg=>simp[oG]at hx
 case eC=>simp[oG]at hx
 case own k aa len=>rcases h with ⟨_,rfl,_⟩ |⟨b,sz,n,cap,a,_,rfl,_⟩<;>exact trivial
 case ptr=>obtain⟨b,sz,n,_,rfl⟩:=h;exact trivial
 case eo=>obtain⟨b,o,rfl,_⟩:=h;exact trivial
 case fn=>obtain⟨fs,cs,rfl,_⟩:=h;exact trivial
 case d7=>obtain⟨f,a,b,rfl,_⟩:=h;exact trivial
 case mp=>obtain⟨b,_,rfl⟩:=h;exact trivial
 case oz=>rcases h with ⟨_,rfl⟩ |⟨_,b,sz,n,cap,a,_,rfl,_⟩<;>exact trivial
 case cV=>subst h;exact trivial
 case ub=>obtain⟨b,rfl⟩:=h;exact trivial
 case undef=>simp[oG]at hx
theorem cells_one{v:Value}(h:oneCell v):v.cells=#[v]:=by cases v<;>first |rfl |exact h.elim
theorem Aq{x:AV}{cs:List AV}{v:Value}(hc:cellsOf x=some cs)(h:VR P β w I x v):aE P β w I cs v.cells.toList/\(∀ u∈v.cells.toList,oneCell u):=by
 have single:oG x=true->cs=[x]->aE P β w I cs v.cells.toList/\(∀ u∈v.cells.toList,oneCell u):=λhk e=>by
  have h1:=VR.one hk h;rw[cells_one h1,e];simp only[aE];exact⟨⟨h,trivial⟩,λu hu=>by simp at hu;rw[hu];exact h1⟩
 cases x<;>simp only[cellsOf,aA,reduceCtorEq]at hc
 case agg cs'=>
  split at hc
  ·injection hc with hc;subst hc;rename_i hall;simp only[VR]at h;obtain⟨vs,rfl,hvs⟩:=h;refine⟨hvs,λu hu=>?_⟩;obtain⟨j,hj⟩:=List.getElem?_of_mem hu;have hlen:=aE.length _ _ hvs;have hjl:j<cs'.length:=by
    have:=(dF.1 hj).1;simp only[Value.cells]at this;omega
   obtain⟨u',hu',hv'⟩:=aE.get _ _ j _ hvs (dI hjl);simp only[Value.cells]at hj;rw[hj]at hu';injection hu' with hu';subst hu';exact VR.one (all_eq_true.1 hall _ (List.getElem_mem hjl)) hv'
  ·cases hc
 all_goals exact single rfl hc.symm
theorem VR.cv{v:Value}:VR P β w I (cv v) v:=by
 unfold Gb.cv;split
 ·simp[VR]
 ·split
  ·rename_i h;simp only[VR,TR];exact⟨trivial,sF h⟩
  ·simp[VR]
theorem aE.cv:∀(vs:List Value),aE P β w I (vs.map cv) vs
 |[]=>by simp[aE]
 |v::vs=>by simp only[aF,aE];exact⟨VR.cv,aE.cv vs⟩
theorem cW.ot(cs:List AV)(vs:List Value)(c:Array Value)(aa:Nat)(h:aE P β w I cs vs)(h1:∀u∈vs,oneCell u)(hc:∀j u,vs[j]? =some u->c[aa+j]? =some u):cW P β w I cs c aa:=by
 rw[jq];intro j x hx;obtain⟨v,hv,hr⟩:=aE.get _ _ j x h hx;exact⟨v,hc j v hv,hr,h1 v (dh hv)⟩
theorem cW.list:∀(cs:List AV)(c:Array Value)(aa:Nat),cW P β w I cs c aa->∃vs:List Value,aE P β w I cs vs/\(∀ u∈vs,oneCell u)/\∀j u,vs[j]? =some u->c[aa+j]? =some u
 |[],_,_,_=>⟨[],by simp[aE],by simp,by simp⟩
 |x::xs,c,aa,⟨⟨v,h1,h2,h3⟩,h4⟩=>by
  have⟨vs,g1,g2,g3⟩:=cW.list xs c (aa+1) h4;refine⟨v::vs,by simp only[aE];exact⟨h2,g1⟩,λu hu=>?_,λj u hj=>?_⟩
  ·rcases aN.1 hu with rfl |hu
   ·exact h3
   ·exact g2 u hu
  ·cases j with
   |zero=>simp at hj;subst hj;simpa using h1
   |succ j=>rw[show aa+(j+1)=aa+1+j by omega];exact g3 j u (by simpa using hj)
theorem dp.list:∀(cs:List Tree)(b aa:Nat),dp w I cs b aa->∃vs:List Value,aE P β w I (cs.map AV.t) vs/\∀j u,vs[j]? =some u->w.cell? ⟨b,aa+j,none⟩=some u
 |[],_,_,_=>⟨[],by simp[aE],by simp⟩
 |x::xs,b,aa,h=>by
  simp only[dp]at h;obtain⟨⟨v,h1,h2⟩,h4⟩:=h;have⟨vs,g1,g3⟩:=dp.list xs b (aa+1) h4;refine⟨v::vs,by simp only[aF,aE,VR];exact⟨h2,g1⟩,λj u hj=>?_⟩;cases j with
  |zero=>simp at hj;subst hj;simpa using h1
  |succ j=>rw[show aa+(j+1)=aa+1+j by omega];exact g3 j u (by simpa using hj)
theorem KG{agg:Bool}{size:Nat}{cs:List AV}{v:AV}{vs:List Value}(hp:part' agg size cs=some v)(h:aE P β w I cs vs):cs.length=size/\vs.length=size/\
 (agg=true->VR P β w I v (.agg vs.toArray))/\(agg=false->∃u,vs=[u]/\VR P β w I v u):=by
 unfold part' at hp;split at hp
 ·rename_i hl;have hl2:=aE.length _ _ h;refine⟨hl,by omega,?_,?_⟩
  ·rintro rfl;simp only[if_true,aA]at hp;subst hp;simp only[VR];exact⟨vs.toArray,rfl,h⟩
  ·rintro rfl;simp only[Bool.false_eq_true,if_false]at hp;split at hp
   ·split at hp
    ·cases hp
     match vs,h with
     |[u],h=>simp only[aE]at h;exact⟨u,rfl,h.1⟩
     |[],h=>simp[aE]at h
     |_::_::_,h=>simp[aE]at h
    ·cases hp
   ·cases hp
 ·cases hp
section types
variable {t:TypeId} {ti:nf} (ht:lE P t ti)
include ht
theorem lE.size:(sizeOf t).run P w= .ok ti.size w:=by
 obtain⟨info,d,z,h1,h2,h3,h4,h5,h6,h7,h8⟩:=ht.ex;simp[sizeOf,typeInfo,h1,h3]
theorem lE.agg:(isAgg t).run P w= .ok ti.agg w:=by
 obtain⟨info,d,z,h1,h2,h3,h4,h5,h6,h7,h8⟩:=ht.ex;rw[<- h7];cases d<;>simp[isAgg,run_underlying h2,s8]
theorem lE.zeroV:∃z,(zeroValue t).run P w= .ok z w/\z.cells.toList=ti.zero:=by
 obtain⟨info,d,z,h1,h2,h3,h4,h5,h6,h7,h8⟩:=ht.ex;exact⟨z,by simp[zeroValue,typeInfo,h1,h5],h6⟩
end types
theorem addr_add(b o n:Nat):(⟨b,o,none⟩:Addr).add n=⟨b,o+n,none⟩:=by unfold Addr.add;split<;>simp_all
theorem Gx{t:TypeId}{ti:nf}(ht:lE P t ti){b o:Nat}{cs:List AV}{v:AV}{vs:List Value}(hp:part' ti.agg ti.size cs=some v)(hr:aE P β w I cs vs)
 (hc:∀j u,vs[j]? =some u->w.cell? ⟨b,o+j,none⟩=some u):∃u,(loadVar t ⟨b,o,none⟩).run P w= .ok u w/\VR P β w I v u:=by
 have⟨h1,h2,h3,h4⟩:=KG hp hr;unfold loadVar;simp only[Sem.run_bind,ht.agg (w:=w),Result.andThen_ok];cases hag:ti.agg with
 |true=>
  refine⟨.agg vs.toArray,?_,h3 hag⟩;simp only[if_true,Sem.run_bind,ht.size (w:=w),Result.andThen_ok];rw[<- h2,run_loadCells_list w ⟨b,o,none⟩ vs (λ j u hj=>by rw[addr_add];exact hc j u hj)];simp
 |false=>
  obtain⟨u,rfl,hu⟩:=h4 hag;refine⟨u,?_,hu⟩;have:=hc 0 u rfl;simp only[Nat.add_zero]at this;simp[this]
theorem QU(hT:eY P T)(h:Mem P w0 O0 β I obj w){t:TypeId}{x:AV}{cw:i8}{get:Nat->Option aS}{ab:Out}{v:Value}(hg:∀k o,get k=some o->obj k=some o)
 (ha:Kc T t x cw get=some ab) (cM:ab.ob) (hx:VR P β w I x v):∃u,(Instr.loadAt t v).run P w= .ok u w/\VR P β w I ab.v u/\ab.upd=[]:=by
 unfold Kc at ha;cases hti:T t with
 |none=>simp[hti]at ha
 |some ti=>
  have ht:=hT t ti hti;simp only[hti,af]at ha;cases x<;>simp only[reduceCtorEq]at ha
  case ptr k row aa=>
   cases hk:get k with
   |none=>simp[hk]at ha
   |some o=>
    simp only[hk,af]at ha;have key:∀r,o.rows[row]? =some r->∀u,part' ti.agg ti.size ((r.drop aa).take ti.size)=some u->∃z,(Instr.loadAt t v).run P w= .ok z w/\VR P β w I u z:=by
     intro r hr u hp;simp only[VR]at hx;obtain⟨b,sz,n,h1,rfl⟩:=hx;have⟨B,hB,hO⟩:=h.cE k o (hg k o hk);rw[h1]at hB;cases hB;obtain⟨hs,c,e,hc,_,hO⟩:=hO;have h4:=(bo.get row _ _ _ _ _ hO hr).2;obtain⟨vs,g1,g2,g3⟩:=cW.list _ _ _ (cW.take ti.size _ _ _ (cW.drop aa _ _ _ h4));obtain⟨z,hz,hz2⟩:=Gx ht (b:=b) (o:=n.s+row*sz+aa) hp g1 (λ j u hj=>by simp[World.cell?,hc,g3 j u hj]);exact⟨z,by simp[Instr.loadAt,Instr.sureAddr,hz],hz2⟩
    have fin:∀r ob,o.rows[row]? =some r->((part' ti.agg ti.size ((r.drop aa).take ti.size)).bind λv=>some (⟨v,[],ob⟩:Out))=some ab->∃u,(Instr.loadAt t v).run P w= .ok u w/\VR P β w I ab.v u/\ab.upd=[]:=by
     intro r ob hr hh;cases hp:part' ti.agg ti.size ((r.drop aa).take ti.size)with
     |none=>simp[hp]at hh
     |some u=>
      simp only[hp,af,aA]at hh;subst hh;have⟨z,hz⟩:=key r hr u hp;exact⟨z,hz.1,hz.2,rfl⟩
    cases cw
    case row r=>
     have hr:o.rows[row]? =some r:=by
      cases hp:part' ti.agg ti.size ((r.drop aa).take ti.size)with
      |none=>simp[hp]at ha
      |some u=>simp only[hp,af,mw,aA]at ha;subst ha;exact cM
     exact fin r _ hr ha
    all_goals
     cases hr:o.rows[row]? with
     |none=>simp[hr]at ha
     |some r=>
      simp only[hr,af]at ha;exact fin r _ hr ha
  case eo r aa=>
   cases hp:part' ti.agg ti.size (((r.drop aa).take ti.size).map AV.t)with
   |none=>rw[hp]at ha;simp at ha
   |some u=>
    simp only[hp,af,pv,aA]at ha;subst ha;simp only[VR]at hx;obtain⟨b,o,rfl,hI,hr⟩:=hx;have hdrop:∀(n:Nat) (r:List Tree) (o:Nat),dp w I r b o->dp w I (r.drop n) b (o+n):=by
     intro n
     induction n with
     |zero=>intro r o h;simpa using h
     |succ n ih=>intro r o h;cases r with
      |nil=>simp[dp]
      |cons x xs=>simp only[dp]at h;rw[List.drop_succ_cons,show o+(n+1)=o+1+n by omega];exact ih xs (o+1) h.2
    have htake:∀(n:Nat) (r:List Tree) (o:Nat),dp w I r b o->dp w I (r.take n) b o:=by
     intro n
     induction n with
     |zero=>intro r o h;simp[dp]
     |succ n ih=>intro r o h;cases r with
      |nil=>simp[dp]
      |cons x xs=>simp only[dp]at h;simp only[List.take_succ_cons,dp];exact⟨h.1,ih xs (o+1) h.2⟩
    obtain⟨vs,g1,g3⟩:=dp.list (P:=P) (β:=β) _ _ _ (htake ti.size _ _ (hdrop aa r o hr));have⟨z,hz,hz2⟩:=Gx ht (b:=b) (o:=o+aa) hp g1 g3;exact⟨z,by simp[Instr.loadAt,Instr.sureAddr,hz],hz2,rfl⟩
theorem acy(r:List AV)(aa:Nat)(cs:List AV)(h:aa+cs.length<=r.length):(put' r aa cs).length=r.length:=by simp[put',length_take,length_drop];omega
theorem akb(r:List AV)(aa:Nat)(cs:List AV)(h:aa+cs.length<=r.length)(j:Nat):(put' r aa cs)[j]? =if j<aa then r[j]? else if j<aa+cs.length then cs[j -aa]? else r[j]? :=by
 unfold put';have h1:(r.take aa).length=aa:=by simp[length_take];omega
 split
 ·rw[aK,List.getElem?_append_left (by omega),List.getElem?_take];simp[*]
 ·split
  ·rw[aK,jy (by omega),h1,List.getElem?_append_left (by omega)]
  ·rw[jy (by simp;omega)];simp only[dJ,h1,List.getElem?_drop];congr 1;omega
theorem O1(h:Mem P w0 O0 β I obj w){t:TypeId}{ti:nf}(ht:lE P t ti){k:Nat}{o:aS}{b sz:Nat}{n:Ex}(hk:obj k=some o)(hβ:β k=some (.at b sz n))
 {row aa:Nat} {r:List AV} {cs:List AV} {v:Value} (hr:o.rows[row]? =some r) (hl:aa+cs.length<=r.length) (hlen:cs.length=ti.size) (hcs:aE P β w I cs v.cells.toList) (h1:∀u∈v.cells.toList,oneCell u):
 ∃w',(storeVar t ⟨b,n.s+row*sz+aa,none⟩ v).run P w= .ok () w'/\Same I w w'/\Mem P w0 O0 β I (cK obj [(k,some ⟨o.sz,o.rows.set row (put' r aa cs)⟩)]) w':=by
 have⟨B,hB,hO⟩:=h.cE k o hk;rw[hβ]at hB;cases hB;obtain⟨hs,c,e,hc,hn,hO⟩:=hO;have hO':=hO;rw[nX]at hO;have hrow:=hO row r hr;have hvl:=aE.length _ _ hcs;have hfit:n.s+row*sz+aa+cs.length<=c.size:=by
  by_cases h0:r.length=0
  ·have:aa+cs.length=0:=(by omega);have hz:sz=0:=(by omega);have:row*sz=0:=(by rw[hz];simp);have:=n.h;omega
  ·have hlast:=(jq _ _ _).1 hrow.2 (r.length -1) _ (dI (by omega));obtain⟨u,hu,_⟩:=hlast;have:=(Array.getElem?_eq_some_iff.1 hu).1;omega
 have hst:=run_storeCells_at P b (n.s+row*sz+aa) e v.cells.toList 0 c w hc (by omega) (λ u hu=>by
  have:=h1 u hu;cases u<;>first |rfl |exact this.elim)
 simp only[Nat.add_zero]at hst;generalize hc':(List.take (n.s+row*sz+aa) c.toList++v.cells.toList++List.drop (n.s+row*sz+aa+v.cells.toList.length) c.toList).toArray=c' at hst;have hsize:c'.size=c.size:=by rw[<- hc'];simp[length_take,length_drop];simp at hvl;omega
 refine⟨w.setRow b c',?_,?_⟩
 ·unfold storeVar;simp only[Sem.run_bind,ht.size (w:=w),Result.andThen_ok];rw[aQ (by rw[<- Array.length_toList];omega)];simp only[hst]
 ·have hget:∀j,c'[j]? =if j<n.s+row*sz+aa then c[j]? else if j<n.s+row*sz+aa+cs.length then v.cells.toList[j -(n.s+row*sz+aa)]? else c[j]? :=by
   intro j;rw[<- hc'];have h1:(c.toList.take (n.s+row*sz+aa)).length=n.s+row*sz+aa:=(by simp[length_take];omega);simp only[List.getElem?_toArray];split
   ·rw[aK,List.getElem?_append_left (by omega),List.getElem?_take,aX (by omega)];simp
   ·split
    ·rw[aK,jy (by omega),h1,List.getElem?_append_left (by omega)]
    ·rw[jy (by simp only[dJ,h1];omega)];simp only[dJ,h1,List.getElem?_drop,Array.getElem?_toList];congr 1;omega
  refine Mem.write h hk hβ (c':=c') (e:=e) (setRow_heap w b c c' e (0,0) hc) (λ b' hb=>setRow_other w b b' c' hb) (by simp) rfl rfl rfl hs (by omega) ?_;rw[<- hs,nX];simp only;intro i' r' hi';rw[List.getElem?_set]at hi';have other:∀(i':Nat)(r':List AV),i'≠row->o.rows[i']? =some r'->r'.length=sz/\cW P β w I r' c' (n.s+i'*sz):=by
   intro i' r' hne hi';have hh:=hO i' r' hi';refine⟨hh.1,?_⟩;rw[jq];intro j x hx;obtain⟨u,hu⟩:=(jq _ _ _).1 hh.2 j x hx;have hj:j<sz:=(by have:=(dF.1 hx).1;omega);refine⟨u,?_,hu.2⟩;rw[hget];rcases Nat.lt_or_gt_of_ne hne with hlt |hgt
   ·have:(i'+1)*sz<=row*sz:=Nat.mul_le_mul_right _ hlt;rw[Nat.add_mul]at this;rw[aX (by omega)];exact hu.1
   ·have:(row+1)*sz<=i'*sz:=Nat.mul_le_mul_right _ hgt;rw[Nat.add_mul]at this;rw[aQ (by omega),aQ (by omega)];exact hu.1
  split at hi'
  ·rename_i hrow';subst hrow';split at hi'
   ·injection hi' with hi';subst hi';refine⟨by rw[acy r aa cs hl];exact hrow.1,?_⟩;rw[jq];intro j x hx;rw[akb r aa cs hl]at hx;rw[hget];split at hx
    ·rw[aX (by omega)];exact(jq _ _ _).1 hrow.2 j x hx
    ·split at hx
     ·obtain⟨u,hu,hr2⟩:=aE.get _ _ _ _ hcs hx;rw[aQ (by omega),aX (by omega)];refine⟨u,?_,hr2,h1 u (dh hu)⟩;rw[<- hu];congr 1;omega
     ·rw[aQ (by omega),aQ (by omega)];exact(jq _ _ _).1 hrow.2 j x hx
   ·cases hi'
  ·exact other i' r' (by omega) hi'
theorem aaz(hT:eY P T)(h:Mem P w0 O0 β I obj w){t:TypeId}{x y:AV}{cw:i8}{get:Nat->Option aS}{ab:Out}{v u:Value}(hg:∀k o,get k=some o->obj k=some o)
 (ha:UC T t x y cw get=some ab) (cM:ab.ob) (hx:VR P β w I x v) (hy:VR P β w I y u):
 ∃w',(Instr.storeAt t v u).run P w= .ok () w'/\Same I w w'/\Mem P w0 O0 β I (cK obj ab.upd) w'/\ab.v= .undef:=by
 unfold UC at ha;cases hti:T t with
 |none=>simp[hti]at ha
 |some ti=>
  have ht:=hT t ti hti;simp only[hti,af]at ha;cases hcs:cellsOf y with
  |none=>simp[hcs]at ha
  |some cs=>
   simp only[hcs,af]at ha;have⟨hv1,hv2⟩:=Aq hcs hy;split at ha
   ·rename_i hlen;cases x<;>simp only[reduceCtorEq]at ha
    case ptr k row aa=>
     cases hk:get k with
     |none=>simp[hk]at ha
     |some o=>
      simp only[hk,af]at ha;simp only[VR]at hx;obtain⟨b,sz,n,hβ,rfl⟩:=hx;have fin:∀r,o.rows[row]? =some r->aa+cs.length<=r.length->∃w',(Instr.storeAt t (.pointer (some ⟨b,n.s+row*sz+aa,none⟩)) u).run P w= .ok () w'/\Same I w w'/\Mem P w0 O0 β I (cK obj [(k,some ⟨o.sz,o.rows.set row (put' r aa cs)⟩)]) w':=by
       intro r hr hl;have⟨w',h1,h2,h3⟩:=O1 h ht (hg k o hk) hβ hr hl hlen hv1 hv2;exact⟨w',by simp[Instr.storeAt,Instr.sureAddr,h1],h2,h3⟩
      cases cw
      case set r rs=>
       simp only at ha;split at ha
       ·rename_i hl;cases ha;obtain⟨hr,hrs⟩:=cM;have⟨w',h1,h2,h3⟩:=fin r hr hl;subst hrs;exact⟨w',h1,h2,h3.we,rfl⟩
       ·cases ha
      all_goals
       cases hr:o.rows[row]? with
       |none=>simp[hr]at ha
       |some r=>
        simp only[hr,af]at ha;split at ha
        ·rename_i hl;cases ha;have⟨w',h1,h2,h3⟩:=fin r hr hl;exact⟨w',h1,h2,h3,rfl⟩
        ·cases ha
   ·cases ha
end
section
variable {P:Program} {T:ea} {w0:World} {O0:j8} {β:Nat->Option cL} {I:Nat->Prop} {obj:Nat->Option aS} {w:World} {i:Nat}
theorem LY(h:Mem P w0 O0 β I obj w)(hn:β (cJ i)=none){e:TypeId}{v:Value}{cs:List AV}(hcs:aE P β w I cs v.cells.toList)(h1:∀u∈v.cells.toList,oneCell u):
 ∃w' β',(newVar e v).run P w= .ok ⟨w.heap.size,0,none⟩ w'/\Step β I w (cJ i) β' I w'/\Mem P w0 O0 β' I (cK obj [(cJ i,some ⟨cs.length,[cs]⟩)]) w'/\VR P β' w' I (.ptr (cJ i) 0 0) (.pointer (some ⟨w.heap.size,0,none⟩)):=by
 obtain⟨hS,hM⟩:=Mem.alloc (o:=⟨cs.length,[cs]⟩) (c:=v.cells) (e:=e) h hn (by
  simp only[bo,and_true,true_and];exact cW.ot cs _ _ 0 hcs h1 (λ j u hj=>by simpa using hj))
 refine⟨_,_,?_,hS,hM,?_⟩
 ·simp only[newVar,newRow,Sem.run_bind,run_newObj,Result.andThen_ok,Sem.run_pure];rfl
 ·simp only[VR];exact⟨w.heap.size,cs.length,_,by simp[ins];rfl,by simp⟩
theorem aaA(hT:eY P T)(h:Mem P w0 O0 β I obj w)(hn:β (cJ i)=none){e:TypeId}{ab:Out}(ha:UF T i e=some ab):
 ∃u w' β',(Instr.alloc e true (.tuple #[])).run P w= .ok u w'/\Step β I w (cJ i) β' I w'/\Mem P w0 O0 β' I (cK obj ab.upd) w'/\VR P β' w' I ab.v u:=by
 unfold UF at ha;cases hti:T e with
 |none=>simp[hti]at ha
 |some ti=>
  have ht:=hT e ti hti;simp only[hti,af,aA]at ha;subst ha;have⟨z,hz,hz2⟩:=ht.zeroV (w:=w);obtain⟨w',β',h1,h2,h3,h4⟩:=LY (i:=i) (e:=e) (v:=z) (cs:=ti.zero.map cv) h hn (by rw[hz2];exact aE.cv _) (λ u hu=>sF (all_eq_true.1 ht.one u (hz2 ▸ hu)));have hl:(ti.zero.map cv).length=ti.size:=by simp[ht.len]
  rw[hl]at h3;exact⟨_,w',β',by simp[Instr.alloc,hz,h1],h2,h3,h4⟩
theorem afg(h:Mem P w0 O0 β I obj w)(hn:β (cJ i)=none){e:TypeId}{x:AV}{v:Value}{ab:Out}(ha:Jn i x=some ab)(hx:VR P β w I x v):
 ∃u w' β',(Instr.box e v).run P w= .ok u w'/\Step β I w (cJ i) β' I w'/\Mem P w0 O0 β' I (cK obj ab.upd) w'/\VR P β' w' I ab.v u:=by
 unfold Jn at ha;cases hcs:cellsOf x with
 |none=>simp[hcs]at ha
 |some cs=>
  simp only[hcs,af,aA]at ha;subst ha;have⟨hv1,hv2⟩:=Aq hcs hx;have⟨w',β',h1,h2,h3,h4⟩:=LY (i:=i) (e:=e) h hn hv1 hv2;exact⟨_,w',β',by simp[Instr.box,h1],h2,h3,h4⟩
theorem acz(hT:eY P T){t:TypeId}{f aa:Nat}{ui:nf}(hf:zK T t f=some (aa,ui)):
 ∃(fa:Array Field)(fd:Field),P.underlying t=some (.struct fa)/\fa[f]? =some fd/\fd.offset=aa/\lE P fd.type ui/\ui.size≠0:=by
 unfold zK at hf;cases hti:T t with
 |none=>simp[hti]at hf
 |some ti=>
  have ht:=hT t ti hti;simp only[hti,af]at hf;cases hk:ti.k<;>simp only[hk,reduceCtorEq]at hf
  case struct fs=>
   cases hj:fs[f]? with
   |none=>simp[hj]at hf
   |some p=>
    obtain⟨o,u⟩:=p;simp only[hj,af]at hf;cases hu:T u with
    |none=>simp[hu]at hf
    |some ui'=>
     simp only[hu,af]at hf;split at hf
     ·cases hf
     ·rename_i hne;simp only[aA,Prod.mk.injEq]at hf;obtain⟨rfl,rfl⟩:=hf;obtain⟨info,d,z,h1,h2,h3,h4,h5,h6,h7,h8⟩:=ht.ex;rw[hk]at h8;obtain⟨fa,rfl,hfs⟩:=h8;rw[<- hfs]at hj;simp only[List.getElem?_map,Array.getElem?_toList,dK,Prod.mk.injEq]at hj;obtain⟨fd,g1,g2,g3⟩:=hj;exact⟨fa,fd,h2,g1,g2,g3 ▸ hT u _ hu,hne⟩
theorem O3(hT:eY P T){t:TypeId}{x:AV}{f:Nat}{v:Value}{ab:Out}(ha:yj T t x f=some ab)(hx:VR P β w I x v):
 ∃u,(Instr.fieldAt t v f).run P w= .ok u w/\VR P β w I ab.v u/\ab.upd=[]:=by
 unfold yj at ha;cases hf:zK T t f with
 |none=>simp[hf]at ha
 |some p=>
  obtain⟨d,ui⟩:=p;simp only[hf,af]at ha;have⟨fa,fd,h1,h2,h3,h4,h5⟩:=acz hT hf;have hrun:∀b o,(Instr.fieldAt t (.pointer (some ⟨b,o,none⟩)) f).run P w= .ok (.pointer (some ⟨b,o+d,none⟩)) w:=λb o=>by simp[Instr.fieldAt,run_underlying h1,h2,Instr.sureAddr,fieldPlace,h4.size (w:=w),h5,h3,addr_add]
  cases x<;>simp only[reduceCtorEq]at ha
  case ptr k row aa=>
   simp only[pv,aA]at ha;subst ha;simp only[VR]at hx ⊢;obtain⟨b,sz,n,g1,rfl⟩:=hx;exact⟨_,hrun _ _,⟨b,sz,n,g1,by rw[Nat.add_assoc]⟩,trivial⟩
  case eo r aa=>
   simp only[pv,aA]at ha;subst ha;simp only[VR]at hx ⊢;obtain⟨b,o,rfl,g1,g2⟩:=hx;exact⟨_,hrun _ _,⟨b,o,by rw[Nat.add_assoc],g1,g2⟩,trivial⟩
theorem acA{t:TypeId}{ti:nf}(ht:lE P t ti){cs:List AV}{vs:List Value}{d:Nat}{v:AV}(hp:part' ti.agg ti.size ((cs.drop d).take ti.size)=some v)(hr:aE P β w I cs vs):
 ∃u,(part t vs.toArray d).run P w= .ok u w/\VR P β w I v u:=by
 obtain⟨h1,h2,h3,h4⟩:=KG hp (aE.take ti.size _ _ (aE.drop d _ _ hr));unfold Go.part;simp only[Sem.run_bind,ht.agg (w:=w),Result.andThen_ok];cases hag:ti.agg with
 |true=>
  refine⟨.agg ((vs.drop d).take ti.size).toArray,?_,h3 hag⟩;simp only[if_true,Sem.run_bind,ht.size (w:=w),Result.andThen_ok,Sem.run_pure];congr 2;apply Array.ext';simp[List.extract_eq_take_drop]
 |false=>
  have⟨u,hu,hv⟩:=h4 hag;refine⟨u,?_,hv⟩;have:vs[d]? =some u:=by
   have h5:((vs.drop d).take ti.size)[0]? =some u:=(by rw[hu];rfl);rw[List.getElem?_take]at h5;split at h5
   ·simpa using h5
   ·cases h5
  simp[this]
theorem aaB(hT:eY P T){t:TypeId}{x:AV}{f:Nat}{v:Value}{ab:Out}(ha:UD T t x f=some ab)(hx:VR P β w I x v):
 ∃u,(Instr.field t v f).run P w= .ok u w/\VR P β w I ab.v u/\ab.upd=[]:=by
 unfold UD at ha;cases hf:zK T t f with
 |none=>simp[hf]at ha
 |some p=>
  obtain⟨d,ui⟩:=p;simp only[hf,af]at ha;have⟨fa,fd,h1,h2,h3,h4,h5⟩:=acz hT hf;cases x<;>simp only[reduceCtorEq]at ha
  case agg cs=>
   cases hp:part' ui.agg ui.size ((cs.drop d).take ui.size)with
   |none=>simp[hp]at ha
   |some y=>
    simp only[hp,af,pv,aA]at ha;subst ha;simp only[VR]at hx;obtain⟨vs,rfl,hvs⟩:=hx;have⟨u,hu,hv⟩:=acA h4 hp hvs;refine⟨u,?_,hv,rfl⟩;simp[Instr.field,run_underlying h1,h2,h3,asAgg];simpa using hu
theorem cp.get{b sz:Nat}:∀(n:Nat)(rows:List (List Tree))(aa:Nat)(r:List Tree),cp w I rows b aa sz->rows[n]? =some r->r.length=sz/\dp w I r b (aa+n*sz)
 | 0,r::rs,aa,r',h,hn=>by simp only[cp]at h;simp at hn;subst hn;exact⟨h.1,by simpa using h.2.1⟩
 |n+1,r::rs,aa,r',h,hn=>by
  simp only[cp]at h;have:=cp.get n rs (aa+sz) r' h.2.2 (by simpa using hn);rw[show aa+(n+1)*sz=aa+sz+n*sz by rw[Nat.add_mul];omega];exact this
 |_,[],_,_,_,hn=>by simp at hn
theorem gX{t e:TypeId}{ti:nf}(ht:lE P t ti)(hk:ti.k= .slice e):P.underlying t=some (.slice e):=by
 obtain⟨info,d,z,h1,h2,h3,h4,h5,h6,h7,h8⟩:=ht.ex;rw[hk]at h8;rw[h2,h8]
theorem LZ{t e:TypeId}{n:Nat}{ti:nf}(ht:lE P t ti)(hk:ti.k= .arr n e):P.underlying t=some (.array n e):=by
 obtain⟨info,d,z,h1,h2,h3,h4,h5,h6,h7,h8⟩:=ht.ex;rw[hk]at h8;rw[h2,h8]
theorem O4(hT:eY P T)(h:Mem P w0 O0 β I obj w){t:TypeId}{x j:AV}{cw:i8}{get:Nat->Option aS}{v u:Value}{ab:Out}(hg:∀k o,get k=some o->obj k=some o)
 (ha:lT T t x j cw get=some ab) (cM:ab.ob) (hx:VR P β w I x v) (hj:VR P β w I j u):
 ∃z,(Instr.indexAt t v u).run P w= .ok z w/\VR P β w I ab.v z/\ab.upd=[]:=by
 unfold lT at ha;cases hti:T t with
 |none=>simp[hti]at ha
 |some ti=>
  have ht:=hT t ti hti;simp only[hti,af]at ha;split at ha
  ·rename_i e kd n hk;simp only[VR,TR]at hj;obtain⟨rfl,_⟩:=hj;have eQ:=gX ht hk;cases fj:T e with
   |none=>simp[fj]at ha
   |some ei=>
    have he:=hT e ei fj;simp only[fj,af]at ha;have hrun:∀(b o len cap:Nat),0<=n->n.toNat<len->(Instr.indexAt t (.slice (some ⟨b,o,none⟩) len cap) (.int kd n)).run P w= .ok (.pointer (some ⟨b,o+n.toNat*ei.size,none⟩)) w:=by
     intro b o len cap h0 h1;have h2:n<(len:Int):=(by omega);simp[Instr.indexAt,asIntOf,run_underlying eQ,h0,h2,he.size (w:=w),addr_add]
    split at ha
    ·rename_i rows r;split at ha
     ·rename_i hlen;simp only[mw,aA]at ha;subst ha;obtain⟨h0,hr⟩:=cM;simp only[VR,TR]at hx;rcases hx with ⟨rfl,_⟩ |⟨b,aa,cap,sz,rfl,h1,h2,h3⟩
      ·simp at hr
      ·have hlt:=(dF.1 hr).1;obtain⟨g1,g2⟩:=cp.get _ _ _ _ h3 hr;refine⟨_,hrun _ _ _ _ h0 hlt,?_,rfl⟩;simp only[VR];exact⟨b,aa+n.toNat*sz,by rw[<- g1,hlen];rfl,h2,g2⟩
     ·cases ha
    ·rename_i k aa len;cases hk2:get k with
     |none=>simp[hk2]at ha
     |some o=>
      simp only[hk2,af]at ha;split at ha
      ·rename_i hsz;simp only[mw,aA]at ha;subst ha;obtain⟨h0,hlt⟩:=cM;simp only[VR]at hx ⊢;rcases hx with ⟨_,_,_,rfl⟩ |⟨b,sz,m,cap,a,h1,rfl,h2,h3,h4⟩
       ·omega
       ·have⟨B,hB,hO⟩:=h.cE k o (hg k o hk2);rw[h1]at hB;cases hB;have hs:sz=o.sz:=hO.1;refine⟨_,hrun _ _ _ _ h0 hlt,⟨b,sz,m,h1,?_⟩,trivial⟩;rw[h4 (by omega),hs,hsz,Nat.add_mul,Nat.add_assoc];rfl
      ·cases ha
    ·cases ha
  ·rename_i m e kd n hk;simp only[VR,TR]at hj;obtain⟨rfl,_⟩:=hj;have eQ:=LZ ht hk;cases fj:T e with
   |none=>simp[fj]at ha
   |some ei=>
    have he:=hT e ei fj;simp only[fj,af]at ha;have hrun:∀(b o:Nat),0<=n->n.toNat<m->(Instr.indexAt t (.pointer (some ⟨b,o,none⟩)) (.int kd n)).run P w= .ok (.pointer (some ⟨b,o+n.toNat*ei.size,none⟩)) w:=by
     intro b o h0 h1;have h2:n<(m:Int):=(by omega);simp[Instr.indexAt,asIntOf,run_underlying eQ,Instr.sureAddr,h0,h2,he.size (w:=w),addr_add]
    cases x<;>simp only[reduceCtorEq]at ha
    case ptr k row aa=>
     simp only[mw,aA]at ha;subst ha;simp only[VR]at hx ⊢;obtain⟨b,sz,q,g1,rfl⟩:=hx;exact⟨_,hrun _ _ cM.1 cM.2,⟨b,sz,q,g1,by rw[Nat.add_assoc]⟩,trivial⟩
    case eo r aa=>
     simp only[mw,aA]at ha;subst ha;simp only[VR]at hx ⊢;obtain⟨b,o,rfl,g1,g2⟩:=hx;exact⟨_,hrun _ _ cM.1 cM.2,⟨b,o,by rw[Nat.add_assoc],g1,g2⟩,trivial⟩
  ·cases ha
theorem UJ{x:AV}{j:Nat}{v:Value}{ab:Out}(ha:Gw x j=some ab)(hx:VR P β w I x v):∃u,(Instr.extract v j).run P w= .ok u w/\VR P β w I ab.v u/\ab.upd=[]:=by
 unfold Gw at ha;split at ha
 ·rename_i vs;simp only[VR]at hx;obtain⟨us,rfl,yq⟩:=hx;cases hj:vs[j]? with
  |none=>simp[hj]at ha
  |some y=>
   simp only[hj,af,pv,aA]at ha;subst ha;obtain⟨u,hu,hv⟩:=aE.get _ _ j y yq hj;refine⟨u,?_,hv,rfl⟩;have:us[j]? =some u:=(by simpa using hu);simp[Instr.extract,this]
 ·cases ha
end
section
variable {P:Program} {T:ea} {w0:World} {O0:j8} {β:Nat->Option cL} {I:Nat->Prop} {obj:Nat->Option aS} {w:World} {i:Nat}
theorem aaC{op:BinOp}{t:TypeId}{k yk:IntKind}{a b:Int}{v:Value}{ob:List Prop}(hk:k=yk\/op= .shl\/op= .shr)(h:UB op k a b=some (v,ob))(cM:jl ob):
 (binOp op t (.int k a) (.int yk b)).run P w= .ok v w/\oneCell v:=by
 cases op<;>simp only[UB,aA,Prod.mk.injEq]at h<;>obtain⟨rfl,rfl⟩:=h
 case shl=>exact⟨by rw[binOp_shl,shift_shl k yk a b cM.1 cM.2];simp,trivial⟩
 case shr=>exact⟨by rw[binOp_shr,shift_shr k yk a b cM.1 cM.2];simp,trivial⟩
 all_goals
  have hk':k=yk:=by rcases hk with h |h |h<;>first |exact h |cases h
  subst hk'
 case add=>exact⟨by simp[binOp_add,Op.intArith],trivial⟩
 case sub=>exact⟨by simp[binOp_sub,Op.intArith],trivial⟩
 case mul=>exact⟨by simp[binOp_mul,Op.intArith],trivial⟩
 case quo=>exact⟨by have h0:b≠0:=cM;rw[binOp_quo];simp[Op.intDiv,h0],trivial⟩
 case rem=>exact⟨by have h0:b≠0:=cM;rw[binOp_rem];simp[Op.intDiv,h0],trivial⟩
 case and=>exact⟨by rw[binOp_and,intBits_and];simp,trivial⟩
 case or=>exact⟨by rw[binOp_or,intBits_or];simp,trivial⟩
 case xor=>exact⟨by rw[binOp_xor,intBits_xor];simp,trivial⟩
 case andNot=>exact⟨by rw[binOp_andNot,intBits_andNot];simp,trivial⟩
 case eql=>exact⟨by rw[binOp_eql];simp,trivial⟩
 case neq=>exact⟨by rw[binOp_neq];simp,trivial⟩
 case lss=>exact⟨by rw[binOp_lss];simp,trivial⟩
 case leq=>exact⟨by rw[binOp_leq];simp,trivial⟩
 case gtr=>exact⟨by rw[binOp_gtr];simp,trivial⟩
 case geq=>exact⟨by rw[binOp_geq];simp,trivial⟩
theorem aaD{f:Field}{kd:Nat}{x y:AV}{b:Bool}{u v:Value}(hf:UA P f kd=true)(h:KF kd x y=some b)(hx:VR P β w I x u)(hy:VR P β w I y v)(d:Nat):
 (Op.equalIn (d + 1) f.type u v).run P w = .ok b w /\ f.name ≠ "_" /\ (isAgg f.type).run P w = .ok false w := by
 unfold UA at hf;simp only[aL,bne_iff_ne,ne_eq]at hf;obtain⟨hname,hf⟩:=hf;unfold KF at h;split at h
 ·split at h
  ·rename_i hk;subst hk;cases h;simp only[VR,TR]at hx hy;obtain⟨rfl,_⟩:=hx;obtain⟨rfl,_⟩:=hy;split at hf<;>first |(rename_i hu;exact⟨run_equalIn_int w d _ _ _ _ _ hu,hname,by simp[isAgg,run_underlying hu]⟩) |(simp at hf)
  ·cases h
 ·cases h;simp only[VR,TR]at hx hy;obtain⟨rfl,_⟩:=hx;obtain⟨rfl,_⟩:=hy;split at hf<;>first |(rename_i hu;exact⟨run_equalIn_bool w d _ _ _ hu,hname,by simp[isAgg,run_underlying hu]⟩) |(simp at hf)
 ·cases h;simp only[VR,TR]at hx hy;obtain⟨rfl,_⟩:=hx;obtain⟨rfl,_⟩:=hy;split at hf<;>first |(rename_i hu;exact⟨run_equalIn_string w d _ _ _ hu,hname,by simp[isAgg,run_underlying hu]⟩) |(simp at hf)
 ·cases h
theorem Ke(d:Nat)(us vs:List Value):∀(fs:List Field)(ks:List Nat)(n:Nat)(xs ys:List AV)(b:Bool),ga P n fs ks=true->sG ks xs ys=some b->
 aE P β w I xs (us.drop n)->aE P β w I ys (vs.drop n)->(Op.eqFields (d+1) us.toArray vs.toArray fs).run P w= .ok b w
 |[],[],n,xs,ys,b,_,h,_,_=>by
  cases xs<;>cases ys<;>simp[sG]at h;subst h;simp[Op.eqFields]
 |f::fs,k::ks,n,xs,ys,b,hc,h,hx,hy=>by
  cases xs<;>cases ys<;>simp only[sG,reduceCtorEq]at h;rename_i x xs y ys;simp only[ga,aL,beq_iff_eq]at hc;obtain⟨⟨hoff,hcf⟩,hrest⟩:=hc;cases h1:KF k x y with
  |none=>simp[h1]at h
  |some a=>
   cases h2:sG ks xs ys with
   |none=>simp[h1,h2]at h
   |some c=>
    simp only[h1,h2,af,aA]at h;subst h;have yn:∀(us:List Value) (xs:List AV) (x:AV),aE P β w I (x::xs) (us.drop n)->∃u,us[n]? =some u/\VR P β w I x u/\aE P β w I xs (us.drop (n+1)):=by
     intro us xs x hx;have hlt:n<us.length:=by
      have:=aE.length _ _ hx;simp at this;omega
     rw[List.drop_eq_getElem_cons hlt]at hx;simp only[aE]at hx;exact⟨us[n],dI hlt,hx.1,hx.2⟩
    obtain⟨u,hu,hxu,hxs⟩:=yn us xs x hx;obtain⟨v,hv,hyv,hys⟩:=yn vs ys y hy;have⟨e1,e2,e3⟩:=aaD hcf h1 hxu hyv d;have ih:=Ke d us vs fs ks (n+1) xs ys c hrest h2 hxs hys;have hp:∀(zs:List Value) (z:Value),zs[n]? =some z->(Go.part f.type zs.toArray f.offset).run P w= .ok z w:=by
     intro zs z hz;simp[Go.part,e3,hoff,hz]
    simp only[Op.eqFields,e2,ne_eq,not_false_eq_true,if_true,Sem.run_bind,hp us u hu,hp vs v hv,Result.andThen_ok,e1,Sem.run_ite,Sem.run_pure,ih];cases a<;>simp
 |[],_::_,_,_,_,_,hc,_,_,_=>by simp[ga]at hc
 |_::_,[],_,_,_,_,hc,_,_,_=>by simp[ga]at hc
theorem afh(hT:eY P T){op:BinOp}{t:TypeId}{x y:AV}{xo yo:Operand}{u v:Value}{ab:Out}(ha:Yj T op t x y=some ab)(cM:ab.ob)(hx:VR P β w I x u)(hy:VR P β w I y v):
 ∃z,(do eqGuard op t xo yo u v;binOp op t u v:Sem Value).run P w= .ok z w/\VR P β w I ab.v z/\ab.upd=[]:=by
 unfold Yj at ha;split at ha
 ·rename_i k a yk b;simp only[VR,TR]at hx hy;obtain⟨rfl,_⟩:=hx;obtain⟨rfl,_⟩:=hy;split at ha
  ·rename_i hk;cases har:UB op k a b with
   |none=>simp[har]at ha
   |some p=>
    obtain⟨z,ob⟩:=p;simp only[har,af,aA]at ha;subst ha;have⟨h1,h2⟩:=aaC (P:=P) (w:=w) (t:=t) hk har cM;exact⟨z,by simp[eqGuard_at_int,h1],by simp only[VR,TR];exact⟨trivial,h2⟩,rfl⟩
  ·cases ha
 ·rename_i a b;simp only[VR,TR]at hx hy;obtain⟨rfl,_⟩:=hx;obtain⟨rfl,_⟩:=hy;cases op<;>simp only[pv,mw,aA,reduceCtorEq]at ha<;>subst ha
  ·have hs:¬((a.size+b.size:Nat):Int)>i64.max:=by
    have:a.size+b.size<=maxLen:=cM;have h2:i64.max=9223372036854775807:=(by decide);unfold maxLen at this;omega
   exact⟨.string (a++b),by simp only[eqGuard_at_string,binOp,Op.stringOp,aQ hs];simp,by simp only[VR,TR];exact⟨trivial,trivial⟩,rfl⟩
  ·exact⟨.bool (a.toList==b.toList),by simp[eqGuard_at_string,binOp,Op.stringOp],by simp only[VR,TR];exact⟨trivial,trivial⟩,rfl⟩
  ·exact⟨.bool (!(a.toList==b.toList)),by simp[eqGuard_at_string,binOp,Op.stringOp],by simp only[VR,TR];exact⟨trivial,trivial⟩,rfl⟩
  ·exact⟨.bool (Op.bytesLess a.toList b.toList),by simp[eqGuard_at_string,binOp,Op.stringOp],by simp only[VR,TR];exact⟨trivial,trivial⟩,rfl⟩
  ·exact⟨.bool (!(Op.bytesLess a.toList b.toList || a.toList==b.toList)),by simp[eqGuard_at_string,binOp,Op.stringOp],by simp only[VR,TR];exact⟨trivial,trivial⟩,rfl⟩
 ·rename_i a b;simp only[VR,TR]at hx hy;obtain⟨rfl,_⟩:=hx;obtain⟨rfl,_⟩:=hy;cases hti:T t with
  |none=>simp[hti]at ha
  |some ti=>
   have ht:=hT t ti hti;simp only[hti,af]at ha;have eQ:ti.k= .bool->P.underlying t=some .bool:=λhk=>by
    obtain⟨info,d,z,h1,h2,h3,h4,h5,h6,h7,h8⟩:=ht.ex;rw[hk]at h8;rw[h2,h8]
   split at ha
   ·rename_i hk;simp only[pv,aA]at ha;subst ha;exact⟨.bool (a==b),by simp[eqGuard_at_bool,binOp,run_equal_bool w t a b (eQ hk)],by simp only[VR,TR];exact⟨trivial,trivial⟩,rfl⟩
   ·rename_i hk;simp only[pv,aA]at ha;subst ha;exact⟨.bool (!(a==b)),by simp[eqGuard_at_bool,binOp,run_equal_bool w t a b (eQ hk)],by simp only[VR,TR];exact⟨trivial,trivial⟩,rfl⟩
   ·cases ha
 ·rename_i xs ys;simp only[VR]at hx hy;obtain⟨us,rfl,yq⟩:=hx;obtain⟨vs,rfl,hvs⟩:=hy;cases hti:T t with
  |none=>simp[hti]at ha
  |some ti=>
   have ht:=hT t ti hti;simp only[hti,af]at ha;split at ha
   ·cases ha
   ·rename_i hne;rcases ht.cmp hne with ⟨fa,h1,h2,h3,h4⟩ |⟨h9,_⟩
    rotate_left
    ·rw[h9,aj8]at ha;simp at ha
    cases hc:sG ti.cmp xs ys with
    |none=>simp[hc]at ha
    |some b=>
     simp only[hc,af]at ha;have hfo:P.fieldsOf t=fa:=(by simp[Program.fieldsOf,h1]);have heq:(Op.equalIn 10000 t (.agg us) (.agg vs)).run P w= .ok b w:=by
      rw[run_equalIn_struct w 9999 t us vs (by rw[hfo];exact h1) h2,hfo];have:=Ke (P:=P) (w:=w) 9998 us.toList vs.toList fa.toList ti.cmp 0 xs ys b h4 hc (by simpa using yq) (by simpa using hvs);simpa using this
     have hgd:∀op,(eqGuard op t xo yo (.agg us) (.agg vs)).run P w= .ok () w:=λop=>run_eqGuard_agg w op t xo yo us vs h3;cases op<;>simp only[pv,aA,reduceCtorEq]at ha<;>subst ha
     ·exact⟨.bool b,by simp[hgd,run_eql_struct,heq],by simp only[VR,TR];exact⟨trivial,trivial⟩,rfl⟩
     ·exact⟨.bool (!b),by simp[hgd,run_neq_struct,heq],by simp only[VR,TR];exact⟨trivial,trivial⟩,rfl⟩
 ·cases ha
theorem aip{op:UnOp}{x:AV}{v:Value}{ab:Out}(ha:Pu op x=some ab)(hx:VR P β w I x v):∃z,(Op.unary op v).run P w= .ok z w/\VR P β w I ab.v z/\ab.upd=[]:=by
 unfold Pu at ha;split at ha
 ·simp only[pv,aA]at ha;subst ha;simp only[VR,TR]at hx;obtain⟨rfl,_⟩:=hx;exact⟨_,by simp[Op.unary];rfl,by simp only[VR,TR];exact⟨trivial,trivial⟩,rfl⟩
 ·simp only[pv,aA]at ha;subst ha;simp only[VR,TR]at hx;obtain⟨rfl,_⟩:=hx;exact⟨_,by simp only[Op.unary,Op.intArith];rfl,by simp only[VR,TR];exact⟨trivial,trivial⟩,rfl⟩
 ·cases ha
theorem L6(mx:Bool)(k:IntKind):∀(r:List AV)(vs:List Value)(a n:Int),Dq mx k a r=some n->aE P β w I r vs->
 (vs.foldlM (if mx then Builtin.max2 else Builtin.min2) (.int k a)).run P w= .ok (.int k n) w
 |[],[],a,n,h,_=>by simp only[Dq,aA]at h;subst h;simp
 |x::r,v::vs,a,n,h,hv=>by
  simp only[aE]at hv;have hx:∃k' b,x= .t (.sc (.int k' b)):=by
   unfold Dq at h;split at h
   ·cases ‹_::_=_›
   ·rename_i heq;injection heq with h1 h2;exact⟨_,_,h1⟩
   ·cases h
  obtain⟨k',b,rfl⟩:=hx;simp only[Dq]at h;split at h
  ·rename_i hk;subst hk;simp only[VR,TR]at hv;obtain⟨⟨rfl,_⟩,hv⟩:=hv;have ih:=L6 mx k' r vs _ n h hv;cases mx
   ·simp only[Bool.false_eq_true,if_false]at ih ⊢;simp only[List.foldlM_cons,Builtin.min2,Sem.run_bind,Sem.run_pure,Result.andThen_ok];rw[show (if b<a then b else a)=min a b by rw[Int.min_def];split<;>split<;>omega];exact ih
   ·simp only[if_true]at ih ⊢;simp only[List.foldlM_cons,Builtin.max2,Sem.run_bind,Sem.run_pure,Result.andThen_ok];rw[show (if b>a then b else a)=max a b by rw[Int.max_def];split<;>split<;>omega];exact ih
  ·cases h
 |[],_::_,_,_,_,hv=>by simp[aE]at hv
 |_::_,[],_,_,_,hv=>by simp[aE]at hv
theorem Zk{mx:Bool}{args:List AV}{vs:Array Value}{cQ:Array TypeId}{ty:TypeId}{ab:Out}(ha:GC mx args=some ab)(hx:aE P β w I args vs.toList):
 ∃z,((if mx then Builtin.max_ else Builtin.min_) cQ ty vs).run P w= .ok z w/\VR P β w I ab.v z/\ab.upd=[]:=by
 unfold GC at ha;split at ha
 ·rename_i k a r;cases hf:Dq mx k a r with
  |none=>simp[hf]at ha
  |some n=>
   simp only[hf,af,pv,aA]at ha;subst ha;cases hvs:vs.toList with
   |nil=>rw[hvs]at hx;simp[aE]at hx
   |cons v vs'=>
    rw[hvs]at hx;simp only[aE,VR,TR]at hx;obtain⟨⟨rfl,_⟩,hr⟩:=hx;have:=L6 (P:=P) mx k r vs' a n hf hr;refine⟨.int k n,?_,by simp only[VR,TR];exact⟨trivial,trivial⟩,rfl⟩;cases mx
    ·simpa[Builtin.min_,hvs]using this
    ·simpa[Builtin.max_,hvs]using this
 ·cases ha
end
section
variable {P:Program} {T:ea} {w0:World} {O0:j8} {β:Nat->Option cL} {I:Nat->Prop} {obj:Nat->Option aS} {w:World} {i:Nat}
theorem afi(hT:eY P T){t ty:TypeId}{x:AV}{cw:i8}{v:Value}{ab:Out}(ha:z7 T t x cw=some ab)(cM:ab.ob)(hx:VR P β w I x v):
 ∃z,(Builtin.len_ #[t] ty #[v]).run P w= .ok z w/\VR P β w I ab.v z/\ab.upd=[]:=by
 unfold z7 at ha;cases hti:T t with
 |none=>simp[hti]at ha
 |some ti=>
  have ht:=hT t ti hti;simp only[hti,af]at ha;have hsl:∀e b n c,ti.k= .slice e->(Builtin.len_ #[t] ty #[.slice b n c]).run P w= .ok (goInt n) w:=λe b n c hk=>by simp[Builtin.len_,run_underlying (gX ht hk)]
  split at ha
  ·rename_i e rows n hk;simp only[mw,aA]at ha;subst ha;have cM:n=_:=cM;subst cM;simp only[VR,TR]at hx;rcases hx with ⟨rfl,_,_,rfl,_⟩ |⟨b,aa,cap,sz,rfl,_⟩
   ·exact⟨_,hsl _ _ _ _ hk,by simp only[VR,TR,goInt];exact⟨by simp,trivial⟩,rfl⟩
   ·exact⟨_,hsl _ _ _ _ hk,by simp only[VR,TR,goInt];exact⟨trivial,trivial⟩,rfl⟩
  ·rename_i e k aa len n hk;simp only[mw,aA]at ha;subst ha;have cM:n=_:=cM;subst cM;simp only[VR]at hx;rcases hx with ⟨_,rfl,_,rfl⟩ |⟨b,sz,m,cap,a,_,rfl,_⟩
   ·exact⟨_,hsl _ _ _ _ hk,by simp only[VR,TR,goInt];exact⟨trivial,trivial⟩,rfl⟩
   ·exact⟨_,hsl _ _ _ _ hk,by simp only[VR,TR,goInt];exact⟨trivial,trivial⟩,rfl⟩
  ·rename_i e k aa len hk _;simp only[pv,aA]at ha;subst ha;simp only[VR]at hx;rcases hx with ⟨_,rfl,_,rfl⟩ |⟨b,sz,m,cap,a,_,rfl,_⟩
   ·exact⟨_,hsl _ _ _ _ hk,by simp only[VR,TR,goInt];exact⟨trivial,trivial⟩,rfl⟩
   ·exact⟨_,hsl _ _ _ _ hk,by simp only[VR,TR,goInt];exact⟨trivial,trivial⟩,rfl⟩
  ·rename_i e k len hk;simp only[pv,aA]at ha;subst ha;simp only[VR]at hx;rcases hx with ⟨rfl,rfl⟩ |⟨_,b,sz,m,cap,a,_,rfl,_⟩
   ·exact⟨_,hsl _ _ _ _ hk,by simp only[VR,TR,goInt];exact⟨trivial,trivial⟩,rfl⟩
   ·exact⟨_,hsl _ _ _ _ hk,by simp only[VR,TR,goInt];exact⟨trivial,trivial⟩,rfl⟩
  ·rename_i e hk;simp only[pv,aA]at ha;subst ha;simp only[VR]at hx;subst hx;exact⟨_,hsl _ _ _ _ hk,by simp only[VR,TR,goInt];exact⟨by simp,trivial⟩,rfl⟩
  ·rename_i s hk;simp only[pv,aA]at ha;subst ha;simp only[VR,TR]at hx;obtain⟨rfl,_⟩:=hx;have eQ:P.underlying t=some .string:=by
    obtain⟨info,d,z,h1,h2,h3,h4,h5,h6,h7,h8⟩:=ht.ex;rw[hk]at h8;rw[h2,h8]
   exact⟨_,by simp[Builtin.len_,run_underlying eQ];rfl,by simp only[VR,TR,goInt];exact⟨trivial,trivial⟩,rfl⟩
  ·cases ha
theorem Zl(vs:List Value)(aa:Nat):∀(ps:List Value)(n:Nat)(cs:Array Value),aa+n+ps.length<=cs.size->
 (ps.zipIdx n).foldl (λ cs (c,j)=>cs.setIfInBounds (aa+j) c) cs=((cs.toList.take (aa+n))++ps++cs.toList.drop (aa+n+ps.length)).toArray
 |[],n,cs,_=>by simp
 |p::ps,n,cs,h=>by
  simp only[bI]at h;rw[List.zipIdx_cons,List.foldl_cons,Zl vs aa ps (n+1) _ (by simp;omega)];congr 1;rw[Array.toList_setIfInBounds];have h1:aa+n<cs.toList.length:=by simp;omega
  rw[show aa+(n+1)=aa+n+1 by omega,gF (by simpa using h1)];rw[List.take_set,List.set_eq_of_length_le (by simp;omega)];simp only[List.getElem_set_self,aK,bI,cons_append,bQ];congr 3;rw[List.drop_set_of_lt (by omega)];congr 1;omega
theorem amg{cells cs:List AV}{us vs:List Value}{aa:Nat}(h1:aE P β w I cells us)(h2:aE P β w I cs vs):aE P β w I (put' cells aa cs) (us.take aa++vs++us.drop (aa+vs.length)):=by
 unfold put';rw[aE.length _ _ h2];exact aE.append _ _ _ _ (aE.append _ _ _ _ (aE.take _ _ _ h1) h2) (aE.drop _ _ _ h1)
theorem zM{place oS:Nat->Option (Nat×Nat)}(hpl:∀j p,place j=some p->oS j=some p):∀(parts:List (Nat×AV))(vs:List (Nat×Value))(cells:List AV)(us:Array Value)(ab:List AV),
 EX place cells parts=some ab->aE P β w I cells us.toList->parts.map (·.1)=vs.map (·.1)->aE P β w I (parts.map (·.2)) (vs.map (·.2))->
 ∃zs,Instr.fill oS us vs=some zs/\aE P β w I ab zs.toList
 |[],[],cells,us,ab,h,hc,_,_=>by simp only[EX,aA]at h;subst h;exact⟨us,rfl,hc⟩
 |(j,x)::ag,(j',v)::vs,cells,us,ab,h,hc,hk,hv=>by
  simp only[aF,List.cons.injEq]at hk;obtain⟨rfl,hk⟩:=hk;simp only[aF,aE]at hv;simp only[EX]at h;cases hp:place j with
  |none=>simp[hp]at h
  |some p=>
   obtain⟨aa,size⟩:=p;simp only[hp,af]at h;cases hcs:cellsOf x with
   |none=>simp[hcs]at h
   |some cs=>
    simp only[hcs,af]at h;split at h
    ·rename_i hl;have⟨g1,g2⟩:=Aq hcs hv.1;have hlen:=aE.length _ _ g1;have hlc:=aE.length _ _ hc;simp only[Array.length_toList]at hlen hlc;have hnew:=amg (aa:=aa) hc g1;have:=zM hpl ag vs _ (us.toList.take aa++v.cells.toList++us.toList.drop (aa+v.cells.toList.length)).toArray ab h (by simpa using hnew) hk hv.2;obtain⟨zs,hz,hz2⟩:=this;refine⟨zs,?_,hz2⟩;simp only[Instr.fill,hpl j _ hp];have hsz:v.cells.size=size:=(by omega);have hno:¬(v.cells.size≠size\/aa+v.cells.size>us.size):=(by omega);rw[aQ (by simp only[Bool.or_eq_true,aV];exact hno)];have yv:=Zl [] aa v.cells.toList 0 us (by simp;omega);simp only[Nat.add_zero]at yv;rw[<- hz,<- yv];congr 1;rw[<- Array.foldl_toList,Array.toList_zipIdx]
    ·cases h
 |[],_::_,_,_,_,_,_,hk,_=>by simp at hk
 |_::_,[],_,_,_,_,_,hk,_=>by simp at hk
theorem EY(hT:eY P T):∀(fs:List Field),(∀ f∈fs,(T f.type).isSome=true)->
 ∃ps:List (Nat×Nat),(fs.mapM (λ f=>do pure (f.offset,<- sizeOf f.type):Field->Sem (Nat×Nat))).run P w= .ok ps w/\ps.map some=fs.map λf=>(T f.type).bind λui=>some (f.offset,ui.size)
 |[],_=>⟨[],by simp,rfl⟩
 |f::fs,h=>by
  obtain⟨ui,wc⟩:=Option.isSome_iff_exists.1 (h f (by simp));obtain⟨ps,h1,h2⟩:=EY hT fs (λ g hg=>h g (by simp[hg]));refine⟨(f.offset,ui.size)::ps,?_,by simp[wc,h2]⟩;simp only[List.mapM_cons,Sem.run_bind,(hT _ _ wc).size (w:=w),Result.andThen_ok,Sem.run_pure,h1]
theorem aaE(hT:eY P T){t:TypeId}{parts:List (Nat×AV)}{vs:Array (Nat×Value)}{ab:Out}(ha:UE T t parts=some ab)
 (hk:parts.map (·.1)=vs.toList.map (·.1)) (hv:aE P β w I (parts.map (·.2)) (vs.toList.map (·.2))):∃z,(Instr.build t vs).run P w= .ok z w/\VR P β w I ab.v z/\ab.upd=[]:=by
 unfold UE at ha;cases hti:T t with
 |none=>simp[hti]at ha
 |some ti=>
  have ht:=hT t ti hti;simp only[hti,af]at ha;have⟨z,hz,hz2⟩:=ht.zeroV (w:=w);split at ha
  ·rename_i fs hkd;split at ha
   ·rename_i hall;generalize hpl:(λ (j:Nat)=>(fs[j]?).bind λ(p:Nat×TypeId)=>(T p.2).bind λui=>some (p.1,ui.size))=place at ha;cases hf:EX place (ti.zero.map cv) parts with
    |none=>simp[hf]at ha
    |some cells=>
     simp only[hf,af,pv,aA]at ha;subst ha;obtain⟨info,d,z',h1,h2,h3,h4,h5,h6,h7,h8⟩:=ht.ex;rw[hkd]at h8;obtain⟨fa,rfl,hfa⟩:=h8;have HJ:∀f∈fa.toList,(T f.type).isSome=true:=λf hf=>by
      have:=all_eq_true.1 hall (f.offset,f.type) (by rw[<- hfa];exact List.mem_map.2 ⟨f,hf,rfl⟩);simpa using this
     have⟨ps,hp1,hp2⟩:=EY (w:=w) hT fa.toList HJ;have hpl':∀j p,place j=some p->ps[j]? =some p:=by
      intro j p hj;rw[<- hpl]at hj;simp only at hj;have e1:(ps.map some)[j]? =some (some p):=by
       rw[hp2,List.getElem?_map];rw[<- hfa]at hj;simp only[List.getElem?_map]at hj;cases hfj:fa.toList[j]? with
       |none=>rw[hfj]at hj;simp at hj
       |some f=>rw[hfj]at hj;simpa using hj
      simpa using e1
     obtain⟨zs,hz3,E0⟩:=zM (oS:=λj=>ps.toArray[j]?) (λ j p h=>by simpa using hpl' j p h) parts vs.toList _ z.cells cells hf (by rw[hz2];exact aE.cv _) hk hv;refine⟨.agg zs,?_,by simp only[VR];exact⟨zs,rfl,E0⟩,rfl⟩;have hm:(fa.mapM (λ f=>do pure (f.offset,<- sizeOf f.type):Field->Sem (Nat×Nat))).run P w= .ok ps.toArray w:=(by rw[Array.mapM_eq_mapM_toList,Sem.run_map,hp1];rfl);simp only[Instr.build,Sem.run_bind,hz,Result.andThen_ok,run_underlying h2,hm,hz3,Sem.run_pure]
   ·cases ha
  ·rename_i n e hkd;cases fj:T e with
   |none=>simp[fj]at ha
   |some ei=>
    have he:=hT e ei fj;simp only[fj,af]at ha;cases hf:EX (λ j=>some (j*ei.size,ei.size)) (ti.zero.map cv) parts with
    |none=>simp[hf]at ha
    |some cells=>
     simp only[hf,af,pv,aA]at ha;subst ha;obtain⟨zs,hz3,E0⟩:=zM (oS:=λj=>some (j*ei.size,ei.size)) (λ j p h=>h) parts vs.toList _ z.cells cells hf (by rw[hz2];exact aE.cv _) hk hv;refine⟨.agg zs,?_,by simp only[VR];exact⟨zs,rfl,E0⟩,rfl⟩;simp only[Instr.build,Sem.run_bind,hz,Result.andThen_ok,run_underlying (LZ ht hkd),he.size (w:=w),hz3,Sem.run_pure]
  ·cases ha
end
section
variable {P:Program} {T:ea} {w0:World} {O0:j8} {β:Nat->Option cL} {I:Nat->Prop} {obj:Nat->Option aS} {w:World} {i:Nat}
theorem Mem.wv{i k:Nat}{o o1:aS}{B C:cL}(h:Mem P w0 O0 β I obj w)(hn:β i=none)(hk:obj k=some o)(hβ:β k=some B)(hC:C.num=B.num)(hO:OR P β w I o1 C):
 Step β I w i (ins β i C) I w/\Mem P w0 O0 (ins β i C) I (cK obj [(i,some o1),(k,none)]) w:=by
 have hS:Step β I w i (ins β i C) I w:=⟨λ j hj=>by simp[ins,ij.ne hj],mX hn,λ_ _=>rfl,λ_ h=>h⟩;have look:∀j o',cK obj [(i,some o1),(k,none)] j=some o'->(j=i/\o'=o1)\/(j≠i/\j≠k/\obj j=some o'):=by
  intro j o' hj;simp only[cK]at hj;split at hj
  ·injection hj with hj;exact .inl ⟨‹_›,hj.symm⟩
  ·split at hj
   ·cases hj
   ·exact .inr ⟨‹_›,‹_›,hj⟩
 refine⟨hS,?_⟩;constructor
 ·intro j o' hj;rcases look j o' hj with ⟨rfl,rfl⟩ |⟨h1,h2,h3⟩
  ·exact⟨C,by simp[ins],OR.mono hS.ext hS.same hS.inc (λ _ _=>rfl) hO⟩
  ·have⟨B',hB',hO⟩:=h.cE j o' h3;exact⟨B',mX hn _ _ hB',OR.mono hS.ext hS.same hS.inc (λ _ _=>rfl) hO⟩
 ·intro j j' o1 o2 B1 B2 b h1 h2 h3 h4 h5 h6;rcases look j o1 h1 with ⟨rfl,rfl⟩ |⟨a1,a2,a3⟩<;>rcases look j' o2 h2 with ⟨rfl,rfl⟩ |⟨c1,c2,c3⟩
  ·rfl
  ·simp only[ins,if_true,aA]at h3;simp only[ins,c1,if_false]at h4;subst h3;exact absurd (h.gj k j' _ _ B B2 b hk c3 hβ h4 (hC ▸ h5) h6) (λ e=>c2 e.symm)
  ·simp only[ins,if_true,aA]at h4;simp only[ins,a1,if_false]at h3;subst h4;exact absurd (h.gj j k _ _ B1 B b a3 hk h3 hβ h5 (hC ▸ h6)) (λ e=>a2 e)
  ·simp only[ins,a1,c1,if_false]at h3 h4;exact h.gj j j' o1 o2 B1 B2 b a3 c3 h3 h4 h5 h6
 ·intro j o' B1 b h1 h2 h3;rcases look j o' h1 with ⟨rfl,rfl⟩ |⟨a1,a2,a3⟩
  ·simp only[ins,if_true,aA]at h2;subst h2;exact h.ownB k _ B b hk hβ (hC ▸ h3)
  ·simp only[ins,a1,if_false]at h2;exact h.ownB j o' B1 b a3 h2 h3
 ·exact h.lt
 ·exact h.up
 ·exact h.keep
 ·exact h.le
 ·exact h.os
 ·exact h.tape
 ·exact h.output
 ·intro j C hj;exact mX hn _ _ (h.anch j C hj)
 ·exact h.vars
theorem Kg:∀(rows:List (List AV))(c:Array Value)(aa sz:Nat)(l:List Value),(∀ r∈rows,r.length=sz/\r.all oG=true)->aE P β w I rows.flatten l->(∀ j u,l[j]? =some u->c[aa+j]? =some u)->bo P β w I rows c aa sz
 |[],_,_,_,_,_,_,_=>by simp[bo]
 |r::rs,c,aa,sz,l,hr,hl,hc=>by
  obtain⟨h1,h2⟩:=hr r (by simp);simp only[flatten_cons]at hl;have ht:=aE.take sz _ _ hl;have hd:=aE.drop sz _ _ hl;rw[List.take_append_of_le_length (by omega),List.take_of_length_le (by omega)]at ht;rw[List.drop_append_of_le_length (by omega),List.drop_of_length_le (by omega),bQ]at hd;simp only[bo];refine⟨h1,cW.ot r _ c aa ht (λ u hu=>?_) (λ j u hj=>?_),Kg rs c (aa+sz) sz _ (λ r' hr'=>hr r' (by simp[hr'])) hd (λ j u hj=>?_)⟩
  ·obtain⟨j,hj⟩:=List.getElem?_of_mem hu;have hlen:=aE.length _ _ ht;have hjl:j<r.length:=(by have:=(dF.1 hj).1;omega);obtain⟨u',hu',hv⟩:=aE.get _ _ j _ ht (dI hjl);rw[hj]at hu';injection hu' with hu';subst hu';exact VR.one (all_eq_true.1 h2 _ (List.getElem_mem hjl)) hv
  ·rw[List.getElem?_take]at hj;split at hj
   ·exact hc j u hj
   ·cases hj
  ·rw[List.getElem?_drop]at hj;rw[show aa+sz+j=aa+(sz+j)by omega];exact hc _ u hj
theorem afj{x:AV}{cs:List AV}(h:cellsOf x=some cs):cs.all oG=true:=by
 cases x<;>simp only[cellsOf,aA,reduceCtorEq]at h
 case agg=>split at h<;>first |(cases h;assumption) |cases h
 all_goals subst h;simp[oG]
theorem UK(size:Nat):∀(parts:List (Nat×AV))(rows ab:List (List AV)),LX size rows parts=some ab->(∀ r∈rows,r.length=size/\r.all oG=true)->
 EX (λ j=>some (j*size,size)) rows.flatten parts=some ab.flatten/\(∀ r∈ab,r.length=size/\r.all oG=true)/\ab.length=rows.length
 |[],rows,ab,h,hr=>by simp only[LX,aA]at h;subst h;exact⟨rfl,hr,rfl⟩
 |(j,x)::ag,rows,ab,h,hr=>by
  simp only[LX]at h;cases hcs:cellsOf x with
  |none=>simp[hcs]at h
  |some cs=>
   simp only[hcs,af]at h;split at h
   ·rename_i hl;obtain⟨h1,h2,h3⟩:=UK size ag (rows.set j cs) ab h (λ r hr'=>by
     rcases List.mem_or_eq_of_mem_set hr' with h4 |h4
     ·exact hr r h4
     ·rw[h4];exact⟨hl.1,afj hcs⟩)
    refine⟨?_,h2,by simpa using h3⟩;have HD:∀(n:Nat) (rows:List (List AV)),(∀ r∈rows,r.length=size)->n<rows.length->(rows.set n cs).flatten=put' rows.flatten (n*size) cs/\n*size+cs.length<=rows.flatten.length:=by
     intro n
     induction n with
     |zero=>
      intro rows hr hn;cases rows with
      |nil=>simp at hn
      |cons r rs=>
       have:=hr r (by simp);simp only[List.set_cons_zero,flatten_cons,put',Nat.zero_mul,List.take_zero,bQ,Nat.zero_add,dJ];refine⟨?_,by omega⟩;rw[hl.1,List.drop_append_of_le_length (by omega),List.drop_of_length_le (by omega),bQ]
     |succ n ih=>
      intro rows hr hn;cases rows with
      |nil=>simp at hn
      |cons r rs=>
       have hrl:=hr r (by simp);obtain⟨g1,g2⟩:=ih rs (λ r' h'=>hr r' (by simp[h'])) (by simpa using hn);have e1:(n+1)*size=r.length+n*size:=(by rw[Nat.add_mul];omega);simp only[List.set_cons_succ,flatten_cons,g1,put',e1,dJ];refine⟨?_,by omega⟩;rw[List.take_length_add_append,show r.length+n*size+cs.length=r.length+(n*size+cs.length)by omega,List.drop_length_add_append];simp[aK]
    obtain⟨g1,g2⟩:=HD j rows (λ r h'=>(hr r h').1) hl.2;simp only[EX,af,hcs];rw[aX ⟨hl.1,g2⟩,<- g1];exact h1
   ·cases h
theorem L8(hT:eY P T)(h:Mem P w0 O0 β I obj w)(hn:β (cJ i)=none){t:TypeId}{len:Nat}{parts:List (Nat×AV)}{vs:Array (Nat×Value)}{ab:Out}{kp:Bool}(ha:vO T i t len parts kp=some ab)
 (hk:parts.map (·.1)=vs.toList.map (·.1)) (hv:aE P β w I (parts.map (·.2)) (vs.toList.map (·.2))):
 ∃u w' β',(Instr.buildSlice t len vs).run P w= .ok u w'/\Step β I w (cJ i) β' I w'/\Mem P w0 O0 β' I (cK obj ab.upd) w'/\VR P β' w' I ab.v u:=by
 unfold vO at ha;cases hti:T t with
 |none=>simp[hti]at ha
 |some ti=>
  have ht:=hT t ti hti;simp only[hti,af]at ha;split at ha
  ·rename_i e hkd;cases fj:T e with
   |none=>simp[fj]at ha
   |some ei=>
    have he:=hT e ei fj;simp only[fj,af]at ha;split at ha
    ·cases ha
    ·rename_i hno;simp only[not_or]at hno;cases hf:LX ei.size (List.replicate len (ei.zero.map cv)) parts with
     |none=>simp[hf]at ha
     |some rows=>
      simp only[hf,af,aA]at ha;subst ha;have⟨z,hz,hz2⟩:=he.zeroV (w:=w);have hzl:ei.zero.length=ei.size:=he.len;have hok:∀r∈List.replicate len (ei.zero.map cv),r.length=ei.size/\r.all oG=true:=by
       intro r hr;obtain⟨_,rfl⟩:=List.mem_replicate.1 hr;refine⟨by simpa using hzl,?_⟩;rw[List.all_map,all_eq_true];intro v hvz;have h1:=all_eq_true.1 he.one v hvz;simp only[Function.comp,cv];split
       ·rfl
       ·rw[aX h1];rfl
      obtain⟨h1,h2,h3⟩:=UK ei.size parts _ rows hf hok;have hzs:z.cells.size=ei.size:=(by rw[<- Array.length_toList,hz2];exact hzl);have hinit:((Array.range (len*ei.size)).map (λ j=>z.cells[j%z.cells.size]!)).toList=(List.replicate len ei.zero).flatten:=by
       apply List.ext_getElem?;intro j;have hlen:∀n,((List.replicate n ei.zero).flatten).length=n*ei.size:=λn=>(by simp[hzl]);have hget:∀n j,j<n*ei.size->((List.replicate n ei.zero).flatten)[j]? =ei.zero[j%ei.size]? :=by
        intro n
        induction n with
        |zero=>intro j hj;simp at hj
        |succ n ih=>
         intro j hj;rw[List.replicate_succ,flatten_cons];by_cases hjs:j<ei.size
         ·rw[List.getElem?_append_left (by omega),Nat.mod_eq_of_lt hjs]
         ·rw[jy (by omega),hzl,ih _ (by rw[Nat.add_mul]at hj;omega)];rw[<- Nat.mod_eq_sub_mod (by omega)]
       by_cases hj:j<len*ei.size
       ·rw[hget len j hj,Array.getElem?_toList,Array.getElem?_map];have hm:j%ei.size<ei.size:=Nat.mod_lt _ (by omega);rw[show (Array.range (len*ei.size))[j]? =some j by simp[hj]];simp only[Option.map_some];rw[hzs,<- hz2,Array.getElem?_toList];simp[show j%ei.size<z.cells.size by omega]
       ·rw[List.getElem?_eq_none (by simp;omega),List.getElem?_eq_none (by rw[hlen];omega)]
      generalize hin:(Array.range (len*ei.size)).map (λ j=>z.cells[j%z.cells.size]!)=ta at hinit;obtain⟨zs,hz3,E0⟩:=zM (oS:=λj=>some (j*ei.size,ei.size)) (λ j p h=>h) parts vs.toList _ ta rows.flatten h1 (by
       rw[hinit];have:(List.replicate len (ei.zero.map cv)).flatten=((List.replicate len ei.zero).flatten).map cv:=by
        induction len with
        |zero=>rfl
        |succ n ih=>simp[List.replicate_succ]
       rw[this];exact aE.cv _) hk hv
      have hrl:rows.length=len:=(by rw[h3];simp);obtain⟨hS,hM⟩:=Mem.alloc (o:=⟨ei.size,rows⟩) (c:=zs) (e:=e) h hn (Kg rows zs 0 ei.size zs.toList h2 E0 (λ j u hj=>by simpa using hj));refine⟨.slice (some ⟨w.heap.size,0,none⟩) len len,_,_,?_,hS,by cases kp<;>first |exact hM.we |exact hM,?_⟩
      ·simp only[Instr.buildSlice,Sem.run_bind,run_underlying (gX ht hkd),Result.andThen_ok,he.size (w:=w)];rw[aQ (by omega)];by_cases hl0:len*ei.size=0
       ·have hc0:ta=#[]:=(by rw[<- hin,hl0];simp);have e0:(Array.range (len*ei.size)).map (λ j=>(#[]:Array Value)[j%(#[]:Array Value).size]!)=ta:=(by rw[hc0,hl0];simp);simp only[hl0,if_true,Sem.run_pure,Result.andThen_ok,Sem.run_bind];rw[hl0]at e0;rw[e0,hz3];simp only[Sem.run_bind,newRow,run_newObj,Result.andThen_ok,Sem.run_pure];rfl
       ·simp only[hl0,if_false,Sem.run_bind,hz,Result.andThen_ok,Sem.run_pure];rw[hin,hz3];simp only[Sem.run_bind,newRow,run_newObj,Result.andThen_ok,Sem.run_pure];rfl
      ·simp only[VR];refine .inr ⟨w.heap.size,ei.size,xn zs.size,len,0,by simp[ins],rfl,aC _,?_,by simp⟩;have:=aE.length _ _ E0;simp only[Array.length_toList]at this;rw[Nm,Nd,this,Nat.zero_add,Nat.zero_add,<- hrl];have hfl:∀(l:List (List AV)),(∀ r∈l,r.length=ei.size)->l.flatten.length=l.length*ei.size:=by
        intro l
        induction l with
        |nil=>simp
        |cons r rs ih=>intro h;simp only[flatten_cons,dJ,bI,ih (λ r' h'=>h r' (by simp[h'])),h r (by simp)];rw[Nat.add_mul];omega
       rw[hfl rows (λ r hr=>(h2 r hr).1)];exact aC _
  ·cases ha
end
section
variable {P:Program} {T:ea} {w0:World} {O0:j8} {β:Nat->Option cL} {I:Nat->Prop} {obj:Nat->Option aS} {w:World} {i:Nat}
theorem Jb{d n:Int}{x:Option AV}{v:Option Value}(h:bnd d x=some n)(hx:∀y,x=some y->∃u,v=some u/\VR P β w I y u)(h0:x=none->v=none):(v=none/\n=d)\/∃k,v=some (.int k n):=by
 cases x with
 |none=>simp only[bnd,aA]at h;exact .inl ⟨h0 rfl,h.symm⟩
 |some y=>
  obtain⟨u,rfl,hu⟩:=hx y rfl;unfold bnd at h;split at h
  ·cases ‹some _=none›
  ·rename_i k m heq;cases heq;cases h;simp only[VR,TR]at hu;exact .inr ⟨k,by rw[hu.1]⟩
  ·cases h
theorem EZ{th hiv:Option Value}{l hh:Int}{len cap:Nat}(h1:(th=none/\l=0)\/∃k,th=some (.int k l))(h2:(hiv=none/\hh=(len:Int))\/∃k,hiv=some (.int k hh))(g0:0<=l)(g1:l<=hh)(g2:hh<=(cap:Int)):
 (Instr.sliceBounds true len cap th hiv none).run P w= .ok (l.toNat,hh.toNat,cap) w:=by
 have hb:∀(k:IntKind) (n:Int) (y:Nat) am,0<=n->n<=(y:Int)->(Instr.sliceBound (.int k n) y am).run P w= .ok n.toNat w:=λk n y am a b=>by simp[Instr.sliceBound,asIntOf,a,b]
 rcases h1 with ⟨rfl,rfl⟩ |⟨k,rfl⟩<;>rcases h2 with ⟨rfl,rfl⟩ |⟨k',rfl⟩
 ·simp[Instr.sliceBounds]
 ·simp[Instr.sliceBounds,hb k' hh cap _ (by omega) g2]
 ·simp[Instr.sliceBounds,hb k l len _ g0 g1]
 ·have h3:=λam=>hb k l hh.toNat am g0 (by omega);simp[Instr.sliceBounds,hb k' hh cap _ (by omega) g2,h3]
theorem aaF(hT:eY P T)(h:Mem P w0 O0 β I obj w){t:TypeId}{x:AV}{lo hi:Option AV}{cw:i8}{get:Nat->Option aS}{ab:Out}{v:Value}{th hiv:Option Value}(hg:∀k o,get k=some o->obj k=some o)
 (ha:UG T t x lo hi cw get=some ab) (cM:ab.ob) (hx:VR P β w I x v) (hlo:∀x,lo=some x->∃v,th=some v/\VR P β w I x v) (hlo0:lo=none->th=none) (hhi:∀x,hi=some x->∃v,hiv=some v/\VR P β w I x v) (hhi0:hi=none->hiv=none):
 ∃u,(Instr.sliceAt t v th hiv none).run P w= .ok u w/\VR P β w I ab.v u/\ab.upd=[]:=by
 unfold UG at ha;cases hti:T t with
 |none=>simp[hti]at ha
 |some ti=>
  have ht:=hT t ti hti;simp only[hti,af]at ha;split at ha
  ·rename_i e hkd;cases fj:T e with
   |none=>simp[fj]at ha
   |some ei=>
    have he:=hT e ei fj;simp only[fj,af]at ha;have eQ:=gX ht hkd
    have hrun:∀(a:Option Addr) (len cap:Nat) (l hh:Int),bnd 0 lo=some l->bnd len hi=some hh->0<=l->l<=hh->hh<=(cap:Int)->
     (Instr.sliceAt t (.slice a len cap) th hiv none).run P w= .ok (.slice (if cap=l.toNat then a else a.map (·.add (l.toNat*ei.size))) (hh.toNat -l.toNat) (cap -l.toNat)) w:=by
     intro a len cap l hh b1 b2 b3 b4 b5;have:=EZ (P:=P) (w:=w) (len:=len) (cap:=cap) (Jb b1 hlo hlo0) (Jb b2 hhi hhi0) b3 b4 b5;simp only[Instr.sliceAt,Instr.slice,Sem.run_bind,run_underlying eQ,Result.andThen_ok,this,he.size (w:=w),Sem.run_pure]
    cases x<;>try simp only[reduceCtorEq]at ha
    case own k aa len=>
     cases hk:get k with
     |none=>simp[hk]at ha
     |some o=>
      simp only[hk,af]at ha;split at ha
      ·rename_i hsz;cases hl:bnd 0 lo with
       |none=>simp[hl]at ha
       |some l=>
        cases hh:bnd len hi with
        |none=>simp[hl,hh]at ha
        |some r=>
         simp only[hl,hh,af,mw,aA]at ha;subst ha;obtain⟨b1,b2,b3⟩:=cM;simp only[VR]at hx ⊢;rcases hx with ⟨h1,rfl,h2,h3⟩ |⟨b,sz,m,cap,a,h1,rfl,h2,h3,h4⟩
         ·subst h3;subst h2;have hr:r=0:=(by omega);have hl0:l=0:=(by omega);subst hr;subst hl0;refine⟨_,hrun _ _ _ _ _ hl hh b1 b2 (by omega),.inl ⟨h1,by simp,by simp,by simp⟩,trivial⟩
         ·refine⟨_,hrun _ _ _ _ _ hl hh b1 b2 (by omega),.inr ⟨b,sz,m,cap -l.toNat,if cap=l.toNat then a else a+l.toNat*ei.size,h1,?_,by omega,?_,?_⟩,trivial⟩
          ·split
           ·rfl
           ·simp[addr_add]
          ·have:aa+l.toNat+(cap -l.toNat)=aa+cap:=(by omega);rw[this];exact h3
          ·intro hc;have hcl:¬cap=l.toNat:=(by omega);rw[aQ hcl,h4 (by omega)];have⟨B,hB,hO⟩:=h.cE k o (hg k o hk);rw[h1]at hB;cases hB;have hs:sz=o.sz:=hO.1;rw[hs,hsz,Nat.add_mul,Nat.add_assoc]
      ·cases ha
    case t x=>
     cases x<;>simp only[reduceCtorEq]at ha
     case sl rows=>
      cases cw<;>simp only[reduceCtorEq]at ha
      case AF rs=>
       cases hl:bnd 0 lo with
       |none=>simp[hl]at ha
       |some l=>
        cases hh:bnd rows.length hi with
        |none=>simp[hl,hh]at ha
        |some r=>
         simp only[hl,hh,af,mw,aA]at ha;subst ha;obtain⟨b1,b2,b3,hrs,hall⟩:=cM;simp only[VR,TR]at hx ⊢;have hlen:rs.length=r.toNat -l.toNat:=(by rw[hrs];simp only[length_take,length_drop];omega);rcases hx with ⟨rfl,a,cap,rfl,hac⟩ |⟨b,aa,cap,sz,rfl,h1,h2,h3⟩
         ·simp only[List.length_nil]at b3;have hr:r=0:=(by omega);have hl0:l=0:=(by omega);subst hr;subst hl0;refine⟨_,hrun _ _ _ _ _ hl hh b1 b2 (by omega),.inl ⟨by rw[hrs];simp,a.map (·.add 0),cap,?_,λh0=>hac (by simpa using h0)⟩,trivial⟩;by_cases hc:cap=0
          ·subst hc;cases a<;>simp[Addr.add]
          ·simp[hc]
         ·refine⟨_,hrun _ _ _ _ _ hl hh b1 b2 (by omega),.inr ⟨b,if cap=l.toNat then aa else aa+l.toNat*ei.size,cap -l.toNat,sz,?_,by omega,h2,?_⟩,trivial⟩
          ·rw[hlen];split
           ·rfl
           ·simp[addr_add]
          ·by_cases hc:cap=l.toNat
           ·have:rs=[]:=eq_nil_of_length_eq_zero (by omega);rw[this];simp[cp]
           ·rw[aQ hc,hrs];have hd:∀(n:Nat) (rows:List (List Tree)) (aa:Nat),cp w I rows b aa sz->cp w I (rows.drop n) b (aa+n*sz) sz:=by
             intro n
             induction n with
             |zero=>intro rows aa h;simpa using h
             |succ n ih=>
              intro rows aa h;cases rows with
              |nil=>simp[cp]
              |cons r rs=>
               simp only[cp]at h;rw[List.drop_succ_cons,show aa+(n+1)*sz=aa+sz+n*sz by rw[Nat.add_mul];omega];exact ih rs _ h.2.2
            have htk:∀(n:Nat) (rows:List (List Tree)) (aa:Nat),cp w I rows b aa sz->cp w I (rows.take n) b aa sz:=by
             intro n
             induction n with
             |zero=>intro rows aa h;simp[cp]
             |succ n ih=>
              intro rows aa h;cases rows with
              |nil=>simp[cp]
              |cons r rs=>
               simp only[cp]at h;simp only[List.take_succ_cons,cp];exact⟨h.1,h.2.1,ih rs _ h.2.2⟩
            by_cases hne:rows=[]
            ·subst hne;simp[cp]
            ·obtain⟨r0,ag,rfl⟩:=List.exists_cons_of_ne_nil hne;have hsz:ei.size=sz:=by
              have e1:=hall r0 (by simp);simp only[cp]at h3;omega
             rw[hsz];exact htk _ _ _ (hd _ _ _ h3)
  ·cases ha
end
section
variable {P:Program} {T:ea} {w0:World} {O0:j8} {β:Nat->Option cL} {I:Nat->Prop} {obj:Nat->Option aS} {w:World} {i:Nat}
theorem Mem.pp{i:Nat}{o:aS}(h:Mem P w0 O0 β I obj w)(hn:β i=none)(ho:o.rows=[]):
 Step β I w i (ins β i .none) I w/\Mem P w0 O0 (ins β i .none) I (cK obj [(i,some o)]) w:=by
 have hS:Step β I w i (ins β i .none) I w:=⟨λ j hj=>by simp[ins,ij.ne hj],mX hn,λ_ _=>rfl,λ_ h=>h⟩;refine⟨hS,?_⟩;constructor
 ·intro k o' hk;simp only[cK]at hk;split at hk
  ·cases hk;rename_i hki;exact⟨.none,by simp[ins,hki],ho⟩
  ·have⟨B,hB,hO⟩:=h.cE k o' hk;exact⟨B,mX hn _ _ hB,OR.mono hS.ext hS.same hS.inc (λ _ _=>rfl) hO⟩
 ·intro k k' o1 o2 B1 B2 b h1 h2 h3 h4 h5 h6;simp only[cK]at h1 h2;simp only[ins]at h3 h4;split at h3
  ·cases h3;cases h5
  ·split at h4
   ·cases h4;cases h6
   ·rename_i a b;rw[aQ a]at h1;rw[aQ b]at h2;exact h.gj k k' o1 o2 B1 B2 _ h1 h2 h3 h4 h5 h6
 ·intro k o' B b h1 h2 h3;simp only[cK]at h1;simp only[ins]at h2;split at h2
  ·cases h2;cases h3
  ·rename_i a;rw[aQ a]at h1;exact h.ownB k o' B b h1 h2 h3
 ·exact h.lt
 ·exact h.up
 ·exact h.keep
 ·exact h.le
 ·exact h.os
 ·exact h.tape
 ·exact h.output
 ·intro j C hj;exact mX hn _ _ (h.anch j C hj)
 ·exact h.vars
theorem yu:∀(rows:List (List AV))(c:Array Value)(aa sz:Nat)(l:List Value),(∀ r∈rows,r.length=sz)->aE P β w I rows.flatten l->(∀ u∈l,oneCell u)->(∀ j u,l[j]? =some u->c[aa+j]? =some u)->bo P β w I rows c aa sz
 |[],_,_,_,_,_,_,_,_=>by simp[bo]
 |r::rs,c,aa,sz,l,hr,hl,h1,hc=>by
  have hrl:=hr r (by simp);simp only[flatten_cons]at hl;have ht:=aE.take sz _ _ hl;have hd:=aE.drop sz _ _ hl;rw[List.take_append_of_le_length (by omega),List.take_of_length_le (by omega)]at ht;rw[List.drop_append_of_le_length (by omega),List.drop_of_length_le (by omega),bQ]at hd;simp only[bo];refine⟨hrl,cW.ot r _ c aa ht (λ u hu=>h1 u (List.mem_of_mem_take hu)) (λ j u hj=>?_),yu rs c (aa+sz) sz _ (λ r' hr'=>hr r' (by simp[hr'])) hd (λ u hu=>h1 u (List.mem_of_mem_drop hu)) (λ j u hj=>?_)⟩
  ·rw[List.getElem?_take]at hj;split at hj
   ·exact hc j u hj
   ·cases hj
  ·rw[List.getElem?_drop]at hj;rw[show aa+sz+j=aa+(sz+j)by omega];exact hc _ u hj
theorem bo.list:∀(rows:List (List AV))(c:Array Value)(aa sz:Nat),bo P β w I rows c aa sz->∃l:List Value,aE P β w I rows.flatten l/\(∀ u∈l,oneCell u)/\l.length=rows.length*sz/\(∀ r∈rows,r.length=sz)/\∀j u,l[j]? =some u->c[aa+j]? =some u
 |[],_,_,_,_=>⟨[],by simp[aE],by simp,by simp,by simp,by simp⟩
 |r::rs,c,aa,sz,⟨h1,h2,h3⟩=>by
  have⟨l1,a1,a2,a3⟩:=cW.list r c aa h2;have⟨l2,b1,b2,b3,b4,b5⟩:=bo.list rs c (aa+sz) sz h3;have hl1:l1.length=sz:=by rw[aE.length _ _ a1,h1]
  refine⟨l1++l2,by simp only[flatten_cons];exact aE.append _ _ _ _ a1 b1,λu hu=>?_,?_,λr' hr'=>?_,λj u hj=>?_⟩
  ·rcases bf.1 hu with hu |hu
   ·exact a2 u hu
   ·exact b2 u hu
  ·simp only[dJ,bI,hl1,b3,Nat.add_mul];omega
  ·rcases aN.1 hr' with rfl |hr'
   ·exact h1
   ·exact b4 r' hr'
  ·by_cases hjs:j<sz
   ·rw[List.getElem?_append_left (by omega)]at hj;exact a3 j u hj
   ·rw[jy (by omega)]at hj;have:=b5 _ u hj;rw[hl1]at this;rw[show aa+j=aa+sz+(j -sz)by omega];exact this
theorem cp.list{b sz:Nat}:∀(rows:List (List Tree))(aa:Nat),cp w I rows b aa sz->∃l:List Value,aE P β w I (aI rows).flatten l/\(∀ u∈l,oneCell u)/\l.length=rows.length*sz/\(∀ r∈aI rows,r.length=sz)/\∀j u,l[j]? =some u->w.cell? ⟨b,aa+j,none⟩=some u
 |[],_,_=>⟨[],by simp[aI,aE],by simp,by simp,by simp[aI],by simp⟩
 |r::rs,aa,h=>by
  simp only[cp]at h;obtain⟨h1,h2,h3⟩:=h;have⟨l1,a1,a3⟩:=dp.list (P:=P) (β:=β) r b aa h2;have⟨l2,b1,b2,b3,b4,b5⟩:=cp.list rs (aa+sz) h3;have hl1:l1.length=sz:=by rw[aE.length _ _ a1];simpa using h1
  have a2:∀u∈l1,oneCell u:=by
   intro u hu;obtain⟨j,hj⟩:=List.getElem?_of_mem hu;have hjl:j<(r.map AV.t).length:=(by have:=(dF.1 hj).1;rw[aE.length _ _ a1]at this;exact this);obtain⟨u',hu',hv⟩:=aE.get _ _ j _ a1 (dI hjl);rw[hj]at hu';injection hu' with hu';subst hu';refine VR.one ?_ hv;simp[oG]
  refine⟨l1++l2,by simp only[aI,aF,flatten_cons];exact aE.append _ _ _ _ a1 b1,λu hu=>?_,?_,λr' hr'=>?_,λj u hj=>?_⟩
  ·rcases bf.1 hu with hu |hu
   ·exact a2 u hu
   ·exact b2 u hu
  ·simp only[dJ,bI,hl1,b3,Nat.add_mul];omega
  ·simp only[aI,aF,aN]at hr';rcases hr' with rfl |hr'
   ·simpa using h1
   ·exact b4 r' hr'
  ·by_cases hjs:j<sz
   ·rw[List.getElem?_append_left (by omega)]at hj;exact a3 j u hj
   ·rw[jy (by omega)]at hj;have:=b5 _ u hj;rw[hl1]at this;rw[show aa+j=aa+sz+(j -sz)by omega];exact this
def US(P:Program)(β:Nat->Option cL)(w:World)(I:Nat->Prop)(size n:Nat)(an:List (List AV))(v:Value):Prop:=
 (n=0/\∃b c,v= .slice b 0 c)\/∃(a:Addr)(c:Nat)(l:List Value),v= .slice (some a) n c/\0<n/\aE P β w I an.flatten l/\(∀ u∈l,oneCell u)/\l.length=n*size/\(∀ r∈an,r.length=size)/\∀j u,l[j]? =some u->w.cell? (a.add j)=some u
theorem Zm(h:Mem P w0 O0 β I obj w){size n:Nat}{ob:Prop}{an:List (List AV)}{y:AV}{get:Nat->Option aS}{v:Value}(hg:∀k o,get k=some o->obj k=some o)
 (hs:UH size y get=some (n,ob,an)) (cM:ob) (hl:an.length=n) (hy:VR P β w I y v):US P β w I size n an v:=by
 unfold UH at hs;split at hs
 ·rename_i k aa len;cases hk:get k with
  |none=>simp[hk]at hs
  |some o=>
   simp only[hk,af]at hs;split at hs
   ·rename_i hsz;simp only[aA,Prod.mk.injEq]at hs;obtain⟨rfl,_,rfl⟩:=hs;simp only[VR]at hy;rcases hy with ⟨_,rfl,_,rfl⟩ |⟨b,sz,m,cap,a,h1,rfl,h2,h3,h4⟩
    ·exact .inl ⟨rfl,_,_,rfl⟩
    ·by_cases h0:len=0
     ·subst h0;exact .inl ⟨rfl,_,_,rfl⟩
     ·have⟨B,hB,hO⟩:=h.cE k o (hg k o hk);rw[h1]at hB;cases hB;obtain⟨hs,c,e,hc,_,hO⟩:=hO;have h5:=bo.take len _ _ _ _ (bo.drop aa _ _ _ _ hO);obtain⟨l,g1,g2,g3,g4,g5⟩:=bo.list _ _ _ _ h5;refine .inr ⟨_,cap,l,rfl,by omega,g1,g2,?_,λr hr=>?_,λj u hj=>?_⟩
      ·rw[g3,hl,hs,hsz]
      ·rw[g4 r hr,hs,hsz]
      ·rw[addr_add,h4 (by omega)];simp[World.cell?,hc,g5 j u hj]
   ·cases hs
 ·rename_i rows;simp only[aA,Prod.mk.injEq]at hs;obtain⟨rfl,rfl,rfl⟩:=hs;simp only[VR,TR]at hy;rcases hy with ⟨rfl,_,_,rfl,_⟩ |⟨b,aa,cap,sz,rfl,h1,h2,h3⟩
  ·exact .inl ⟨rfl,_,_,rfl⟩
  ·cases rows with
   |nil=>exact .inl ⟨rfl,_,_,rfl⟩
   |cons r rs=>
    obtain⟨l,g1,g2,g3,g4,g5⟩:=cp.list (P:=P) (β:=β) _ _ h3;have hsz:sz=size:=by
     have e1:=cM r (by simp);simp only[cp]at h3;omega
    subst hsz;exact .inr ⟨_,cap,l,rfl,by simp,g1,g2,g3,g4,λj u hj=>by rw[addr_add];exact g5 j u hj⟩
 ·cases hs
theorem oneCell'{u:Value}(h:oneCell u):u.oneCell'=true:=by cases u<;>first |rfl |exact h.elim
theorem Mem.grow(h:Mem P w0 O0 β I obj w)(hn:β i=none){size:Nat}{rows:List (List AV)}{l:List Value}{e:TypeId}{ag:Array Value}(hr:∀r∈rows,r.length=size)(hl:aE P β w I rows.flatten l)(h1:∀u∈l,oneCell u):
 Step β I w i (ins β i (.at w.heap.size size (xn (l.toArray++ag).size))) I (w.drew.alloc (.cells (l.toArray++ag) e))/\
 Mem P w0 O0 (ins β i (.at w.heap.size size (xn (l.toArray++ag).size))) I (cK obj [(i,some ⟨size,rows⟩)]) (w.drew.alloc (.cells (l.toArray++ag) e)):=by
 have hd:=h.drew;obtain⟨hS,hM⟩:=Mem.alloc (i:=i) (o:=⟨size,rows⟩) (c:=l.toArray++ag) (e:=e) hd hn (yu rows _ 0 size l hr (aE.mono (w:=w) (w':=w.drew) (λ _ _ h=>h) (λ _ _=>rfl) (λ _ h=>h) _ _ hl) h1 (λ j u hj=>by
  have hlt:=(dF.1 hj).1;rw[Nat.zero_add,Array.getElem?_append_left (by simpa using hlt)];simpa using hj))
 exact⟨⟨hS.other,hS.ext,λb hb=>hS.same b hb,hS.inc⟩,hM⟩
theorem E5(hT:eY P T)(h:Mem P w0 O0 β I obj w)(hn:β i=none){t e ty:TypeId}{ei:nf}(eQ:P.underlying t=some (.slice e))(fj:T e=some ei){n:Nat}{an:List (List AV)}{v:Value}
 (hsrc:US P β w I ei.size n an v) (hl:an.length=n) (h48:n*ei.bytes<=140737488355328) (h63:n<=maxLen):
 ∃u w' β',(Builtin.append_ #[t,t] ty #[.slice none 0 0,v]).run P w= .ok u w'/\Step β I w i β' I w'/\Mem P w0 O0 β' I (cK obj [(i,some ⟨ei.size,an⟩)]) w'/\VR P β' w' I (.own i 0 n) u:=by
 have he:=hT e ei fj;obtain⟨info,d,z,g1,g2,g3,g4,g5,g6,g7,g8⟩:=he.ex;rcases hsrc with ⟨rfl,b,c,rfl⟩ |⟨a,c,l,rfl,hpos,q1,q2,q3,q4,q5⟩
 ·have hnew:an=[]:=eq_nil_of_length_eq_zero hl;subst hnew;have⟨hS,hM⟩:=Mem.pp (i:=i) (o:=⟨ei.size,[]⟩) h hn rfl;refine⟨.slice none 0 0,w,_,?_,hS,hM,by simp only[VR];exact .inl ⟨by simp[ins],trivial,trivial,trivial⟩⟩;cases b<;>simp[Builtin.append_,run_underlying eQ,sizeOf,typeInfo,g1,Builtin.lenOf,Builtin.firstCells,loadCells,loadCellsFrom]
 ·have hm:n<=9223372036854775807:=by simp only[maxLen]at h63;omega
  have hrun:=run_append_nil (P:=P) w t ty e info z eQ g1 g5 a n c l (by rw[q3,g3]) q5 hpos (by omega) (by rw[g4];omega);have⟨hS,hM⟩:=Mem.grow (i:=i) (e:=e) (ag:=Builtin.zeroCells z.cells (grownCap w n 0 e -n)) h hn q4 q1 q2;refine⟨_,_,_,hrun,hS,hM,?_⟩;simp only[VR];refine .inr ⟨w.heap.size,ei.size,_,_,0,by simp[ins];rfl,rfl,grownCap_ge w n 0 e,?_,by simp⟩;have hz:z.cells.size=ei.size:=by rw[<- Array.length_toList,g6];exact he.len
  have hge:=grownCap_ge w n 0 e;simp only[size_zeroCells,Nm,Nd,q3,hz,Nat.zero_add,<- Nat.add_mul];exact Nat.mul_le_mul_right _ (by omega)
theorem R3(hT:eY P T)(h:Mem P w0 O0 β I obj w)(hn:β i=none){t e ty:TypeId}{ei:nf}(eQ:P.underlying t=some (.slice e))(fj:T e=some ei){n k aa len:Nat}{o:aS}{an:List (List AV)}{u v:Value}
 (hk:obj k=some o) (hsz:o.sz=ei.size) (hlen:(o.rows.drop aa).length=len) (hx:VR P β w I (.own k aa len) u)
 (hsrc:US P β w I ei.size n an v) (hl:an.length=n) (h48:(len+n)*ei.bytes<=140737488355328) (h63:len+n<=maxLen):
 ∃z w' β',(Builtin.append_ #[t,t] ty #[u,v]).run P w= .ok z w'/\Step β I w i β' I w'/\Mem P w0 O0 β' I (cK obj [(i,some ⟨ei.size,o.rows.drop aa++an⟩),(k,none)]) w'/\VR P β' w' I (.own i 0 (len+n)) z:=by
 have he:=hT e ei fj;obtain⟨info,d,z,g1,g2,g3,g4,g5,g6,g7,g8⟩:=he.ex;have hki:k≠i:=λe=>by
  have⟨B,hB,_⟩:=h.cE k o hk;rw[e,hn]at hB;cases hB
 have zj:∀{β':Nat->Option cL} {I':Nat->Prop} {w':World} {o':aS},Mem P w0 O0 β' I' (cK obj [(i,some o')]) w'->Mem P w0 O0 β' I' (cK obj [(i,some o'),(k,none)]) w':=by
  intro β' I' w' o' hM;refine hM.drop _ λj oj hj=>?_;simp only[cK]at hj ⊢;split
  ·rw[aX ‹_›]at hj;exact hj
  ·rw[aQ ‹_›]at hj;split at hj
   ·cases hj
   ·exact hj
 simp only[VR]at hx;rcases hx with ⟨hβ,rfl,_,rfl⟩ |⟨b,sz,m,cap,a,hβ,rfl,h2,h3,h4⟩
 ·have hr:o.rows.drop aa=[]:=eq_nil_of_length_eq_zero hlen;rw[hr,bQ,Nat.zero_add];obtain⟨z',w',β',e1,e2,e3,e4⟩:=E5 (ty:=ty) hT h hn eQ fj hsrc hl (by simpa using h48) (by simpa using h63);exact⟨z',w',β',e1,e2,zj e3,e4⟩
 ·have⟨B,hB,hO⟩:=h.cE k o hk;rw[hβ]at hB;cases hB;obtain⟨hs,c,ce,hc,hcn,hO⟩:=hO;have hle:m.s+aa*sz<=m.m:=Nat.le_trans (Nat.add_le_add_left (Nat.mul_le_mul_right _ (Nat.le_add_right _ _)) _) h3;rw[Nat.add_mul]at h3;have hO:=bo.drop aa _ _ _ _ hO;obtain⟨hS0,hM0⟩:=Mem.wv (C:= .at b sz ⟨m.m,m.s+aa*sz,hle⟩) (o1:=⟨ei.size,o.rows.drop aa⟩) h hn hk hβ rfl ⟨by rw[hs,hsz],c,ce,hc,hcn,hO⟩;generalize hp:m.s+aa*sz=p at hO hle hS0 hM0 h4;rcases hsrc with ⟨rfl,b',c',rfl⟩ |⟨a',c',l,rfl,hpos,q1,q2,q3,q4,q5⟩
  ·have hnew:an=[]:=eq_nil_of_length_eq_zero hl;subst hnew;rw[List.append_nil,Nat.add_zero];refine⟨.slice (some ⟨b,a,none⟩) len cap,w,_,?_,hS0,hM0,?_⟩
   ·cases b'<;>simp[Builtin.append_,run_underlying eQ,sizeOf,typeInfo,g1,Builtin.lenOf,Builtin.firstCells,loadCells,loadCellsFrom,h2,storeCells]
   ·simp only[VR];exact .inr ⟨b,sz,⟨m.m,p,hle⟩,cap,a,by simp[ins],rfl,h2,by simp only[Nat.zero_add];omega,λh=>by simp[h4 h]⟩
  ·obtain⟨ol,o1,o2,o3,o4,o5⟩:=bo.list _ _ _ _ hO;have hrl:∀r∈o.rows.drop aa++an,r.length=ei.size:=λr hr=>by
    rcases bf.1 hr with hr |hr
    ·rw[o4 r hr,hs,hsz]
    ·exact q4 r hr
   have hol:ol.length=len*info.size:=(by rw[o3,hlen,hs,hsz,g3]);by_cases hroom:len+n<=cap
   ·
    have ha:a=p:=h4 (by omega);subst ha;have hcsz:a+cap*info.size<=c.size:=(by rw[g3,<- hsz,<- hs,hcn];omega);have hfit:a+len*info.size+l.length<=c.size:=by
     have:(len+n)*info.size<=cap*info.size:=Nat.mul_le_mul_right _ hroom;rw[Nat.add_mul]at this;rw[q3,<- g3];omega
    have hf:=run_firstCells_some (P:=P) w info.size n a' n c' l (by rw[q3,g3]) q5;have hst:=run_storeCells_at P b (a+len*info.size) ce l 0 c w hc (by omega) (λ u hu=>oneCell' (q2 u hu));simp only[Nat.add_zero]at hst;generalize hc':(List.take (a+len*info.size) c.toList++l++List.drop (a+len*info.size+l.length) c.toList).toArray=cc at hst;have SO:cc.size=c.size:=(by rw[<- hc'];simp[length_take,length_drop];omega);have hrun:(Builtin.append_ #[t,t] ty #[.slice (some ⟨b,a,none⟩) len cap,.slice (some a') n c']).run P w= .ok (.slice (some ⟨b,a,none⟩) (len+n) cap) (w.setRow b cc):=by
     have hf':(Builtin.firstCells info.size n (.slice (some a') n c')).run P w= .ok l.toArray w:=hf;simp[Builtin.append_,run_underlying eQ,sizeOf,typeInfo,g1,Builtin.lenOf,hroom,hf',addr_add,hst]
    have hcells:∀j u,(ol++l)[j]? =some u->cc[a+j]? =some u:=by
     intro j u hj;rw[<- hc',List.getElem?_toArray];have h1:(c.toList.take (a+len*info.size)).length=a+len*info.size:=(by simp[length_take];omega);by_cases hjl:j<ol.length
     ·rw[List.getElem?_append_left hjl]at hj;have:=o5 j u hj;rw[aK,List.getElem?_append_left (by omega),List.getElem?_take,aX (by omega),Array.getElem?_toList];exact this
     ·rw[jy (by omega)]at hj;have hjl2:=(dF.1 hj).1;rw[aK,jy (by omega),h1,List.getElem?_append_left (by omega),show a+j -(a+len*info.size)=j -ol.length by omega];exact hj
    obtain⟨vn,hM⟩:=Mem.write (o':=⟨ei.size,o.rows.drop aa++an⟩) hM0 (k:=i) (o:=⟨ei.size,o.rows.drop aa⟩) (b:=b) (s:=sz) (n:=⟨m.m,a,hle⟩) (by simp only[cK,if_true]) (by simp only[ins,if_true]) (c':=cc) (e:=ce) (setRow_heap w b c cc ce (0,0) hc) (λ b' hb=>setRow_other w b b' cc hb) (by simp) rfl rfl rfl (by rw[hs,hsz]) (by simp;omega)
     (yu _ _ _ ei.size (ol++l) hrl (aE.mono hS0.ext (λ _ _=>rfl) (λ _ h=>h) _ _ (by simp only[List.flatten_append];exact aE.append _ _ _ _ o1 q1)) (λ u hu=>by
      rcases bf.1 hu with hu |hu
      ·exact o2 u hu
      ·exact q2 u hu) hcells)
    refine⟨_,_,_,hrun,⟨hS0.other,hS0.ext,vn,λ_ h=>h⟩,hM.drop _ (λ j oj hj=>?_),?_⟩
    ·simp only[cK]at hj ⊢;split at hj
     ·rw[aX ‹_›];exact hj
     ·rw[aQ ‹_›,aQ ‹_›];exact hj
    ·simp only[VR];exact .inr ⟨b,sz,⟨m.m,a,hle⟩,cap,a,by simp[ins],rfl,hroom,by simp only[Nat.zero_add];omega,by simp⟩
   ·have holds:∀j v,ol[j]? =some v->w.cell? ((⟨b,a,none⟩:Addr).add j)=some v:=by
     intro j v hj;have hjl:=(dF.1 hj).1;have tt:len≠0:=λh0=>(by rw[hol,h0]at hjl;simp at hjl);rw[addr_add,h4 (by omega)];have:=o5 j v hj;simp[World.cell?,hc]at this ⊢;exact this
    have hm:len+n<=9223372036854775807:=(by simp only[maxLen]at h63;omega);have hrun:=run_append_grow (P:=P) w t ty e info z eQ g1 g5 ⟨b,a,none⟩ len cap ol hol holds a' n c' l (by rw[q3,g3]) q5 (by omega) (by omega) (growslice_fits (by omega) (by rw[g4];exact h48));have happ:aE P β w I (o.rows.drop aa++an).flatten (ol++l):=(by simp only[List.flatten_append];exact aE.append _ _ _ _ o1 q1);obtain⟨hS,hM⟩:=Mem.grow (i:=i) (e:=e) (ag:=Builtin.zeroCells z.cells (grownCap w (len+n) cap e -(len+n))) h hn hrl happ (λ u hu=>by
     rcases bf.1 hu with hu |hu
     ·exact o2 u hu
     ·exact q2 u hu)
    have T3:ol.toArray++l.toArray++Builtin.zeroCells z.cells (grownCap w (len+n) cap e -(len+n))=(ol++l).toArray++Builtin.zeroCells z.cells (grownCap w (len+n) cap e -(len+n)):=(by simp);rw[T3]at hrun;refine⟨_,_,_,hrun,hS,zj hM,?_⟩;simp only[VR];refine .inr ⟨w.heap.size,ei.size,_,_,0,by simp[ins];rfl,rfl,grownCap_ge w (len+n) cap e,?_,by simp⟩;have hz:z.cells.size=ei.size:=(by rw[<- Array.length_toList,g6];exact he.len);have hge:=grownCap_ge w (len+n) cap e;simp only[size_zeroCells,Nm,Nd,q3,hol,hz,g3,Nat.zero_add,<- Nat.add_mul];exact Nat.mul_le_mul_right _ (by omega)
end
section
variable {P:Program} {T:ea} {w0:World} {O0:j8} {β:Nat->Option cL} {I:Nat->Prop} {obj:Nat->Option aS} {w:World} {i:Nat}
theorem Yk(hT:eY P T)(h:Mem P w0 O0 β I obj w)(hn:β (cJ i)=none){t ty:TypeId}{x y:AV}{cw:i8}{get:Nat->Option aS}{ab:Out}{u v:Value}(hg:∀k o,get k=some o->obj k=some o)
 (ha:zL T i t x y cw get=some ab) (cM:ab.ob) (hx:VR P β w I x u) (hy:VR P β w I y v):
 ∃z w' β',(Builtin.append_ #[t,t] ty #[u,v]).run P w= .ok z w'/\Step β I w (cJ i) β' I w'/\Mem P w0 O0 β' I (cK obj ab.upd) w'/\VR P β' w' I ab.v z:=by
 unfold zL at ha;cases hti:T t with
 |none=>simp[hti]at ha
 |some ti=>
  have ht:=hT t ti hti;simp only[hti,af]at ha;split at ha
  ·rename_i e hkd;cases fj:T e with
   |none=>simp[fj]at ha
   |some ei=>
    simp only[fj,af]at ha;have eQ:=gX ht hkd;split at ha
    ·rename_i rs;cases hs:UH ei.size y get with
     |none=>simp[hs]at ha
     |some p=>
      obtain⟨n,ob,an⟩:=p;simp only[hs,af]at ha;split at ha
      ·rename_i k aa len;cases hk:get k with
       |none=>simp[hk]at ha
       |some o=>
        simp only[hk,af]at ha;split at ha
        ·rename_i hsz;cases ha;obtain⟨b1,b2,b3,rfl,b5,b6⟩:=cM;have e:(o.rows.drop aa++an).length=len+n:=(by rw[dJ,b2,b3]);simp only[e];exact R3 hT h hn eQ fj (hg k o hk) hsz b2 hx (Zm h hg hs b1 b3 hy) b3 b5 b6
        ·cases ha
      ·cases ha;obtain⟨b1,b2,rfl,b5,b6⟩:=cM;simp only[VR]at hx;subst hx;simp only[b2];exact E5 hT h hn eQ fj (Zm h hg hs b1 b2 hy) b2 b5 b6
      ·cases ha
    ·cases ha
  ·cases ha
theorem aE.map{ρ:Operand->AV}{r:Operand->Value}(hρ:∀x,VR P β w I (ρ x) (r x)):∀(l:List Operand),aE P β w I (l.map ρ) (l.map r)
 |[]=>by simp[aE]
 |x::xs=>by simp only[aF,aE];exact⟨hρ x,aE.map hρ xs⟩
theorem UL(hT:eY P T)(h:Mem P w0 O0 β I obj w)(hn:β (cJ i)=none){b:Builtin}{args:List AV}{cQ:Array TypeId}{cw:i8}{get:Nat->Option aS}{ab:Out}(hg:∀k o,get k=some o->obj k=some o)
 {vs:Array Value} {ty:TypeId} {al:Array Operand} (ha:Ca T i b args cQ.toList cw get=some ab) (cM:ab.ob) (hv:aE P β w I args vs.toList) {r:Operand->Value} (hops:vs=al.map r) {dst:Option Tmp} {ao:String} {after:Array Edge} {guard:Option (Nat×Bool)}:
 sk P w0 O0 β I obj w i ab ((execOp r ⟨dst,.call { callee:= .builtin b,args:=al,argTypes:=cQ },ty,ao,after,guard⟩).run P w):=by
 unfold Ca at ha;split at ha
 ·rename_i x t qS;obtain⟨v,hvs⟩:∃v,vs=#[v]:=by
   obtain⟨l⟩:=vs
   match l,hv with
   |[v],_=>exact⟨v,rfl⟩
   |[],h=>simp[aE]at h
   |_::_::_,h=>simp[aE]at h
  have ht:cQ=#[t]:=by cases cQ;simpa using qS
  subst hvs ht;simp only[aE]at hv;have⟨u,h1,h2,h3⟩:=afi (ty:=ty) hT ha cM hv.1;refine⟨u,w,β,I,.inl ?_,Step.refl ..,by rw[h3];exact h,h2⟩;simp[execOp,resolve,invoke,builtin,<- hops,h1]
 ·have⟨u,h1,h2,h3⟩:=Zk (cQ:=cQ) (ty:=ty) ha hv;simp only[if_true]at h1;refine⟨u,w,β,I,.inl ?_,Step.refl ..,by rw[h3];exact h,h2⟩;simp[execOp,resolve,invoke,builtin,<- hops,h1]
 ·have⟨u,h1,h2,h3⟩:=Zk (cQ:=cQ) (ty:=ty) ha hv;simp only[Bool.false_eq_true,if_false]at h1;refine⟨u,w,β,I,.inl ?_,Step.refl ..,by rw[h3];exact h,h2⟩;simp[execOp,resolve,invoke,builtin,<- hops,h1]
 ·rename_i x y t u qS;split at ha
  ·rename_i htu;subst htu;obtain⟨v,v',hvs⟩:∃v v',vs=#[v,v']:=by
    obtain⟨l⟩:=vs
    match l,hv with
    |[v,v'],_=>exact⟨v,v',rfl⟩
    |[],h=>simp[aE]at h
    |[_],h=>simp[aE]at h
    |_::_::_::_,h=>simp[aE]at h
   have ht:cQ=#[t,t]:=(by cases cQ;simpa using qS);subst hvs ht;simp only[aE]at hv;have⟨z,w',β',h1,h2,h3,h4⟩:=Yk (ty:=ty) hT h hn hg ha cM hv.1 hv.2.1;refine⟨z,w',β',I,.inl ?_,h2,h3,h4⟩;simp[execOp,resolve,invoke,builtin,<- hops,h1]
  ·cases ha
 ·cases ha
theorem QV(hT:eY P T)(h:Mem P w0 O0 β I obj w)(hn:β (cJ i)=none){o:Oper}{cw:i8}{ρ:Operand->AV}{get:Nat->Option aS}{ab:Out}(hg:∀k o,get k=some o->obj k=some o)
 {r:Operand->Value} (hρ:∀x,VR P β w I (ρ x) (r x)) (ha:pU T i o cw ρ get=some ab) (cM:ab.ob):sk P w0 O0 β I obj w i ab ((execOp r o).run P w):=by
 obtain⟨dst,op,ty,ao,after,guard⟩:=o;have val:∀{s:Sem Value}{z:Value},s.run P w= .ok z w->ab.upd=[]->VR P β w I ab.v z->sk P w0 O0 β I obj w i ab ((do pure (.value (<- s)):Sem Next).run P w):=by
  intro s z h1 h2 h3;refine⟨z,w,β,I,.inl (by simp[h1]),Step.refl ..,by rw[h2];exact h,h3⟩
 have val':∀{s:Sem Value} {z:Value} {w':World} {β':Nat->Option cL},s.run P w= .ok z w'->Step β I w (cJ i) β' I w'->Mem P w0 O0 β' I (cK obj ab.upd) w'->VR P β' w' I ab.v z->sk P w0 O0 β I obj w i ab ((do pure (.value (<- s)):Sem Next).run P w):=by
  intro s z w' β' h1 h2 h3 h4;exact⟨z,w',β',I,.inl (by simp[h1]),h2,h3,h4⟩
 unfold pU at ha;split at ha
 ·rename_i x heq;simp only at heq;subst heq;simp only[pv,aA]at ha;subst ha;exact sk.pure h (hρ x)
 ·rename_i x heq;simp only at heq;subst heq;simp only[pv,aA]at ha;subst ha;exact sk.pure h (hρ x)
 ·rename_i c a b heq;simp only at heq;subst heq;split at ha
  ·rename_i t hc;simp only[pv,aA]at ha;subst ha;have h1:=hρ c;rw[hc]at h1;simp only[VR,TR]at h1;refine⟨if t then r a else r b,w,β,I,.inl ?_,Step.refl ..,h,?_⟩
   ·simp only[execOp,h1.1,asBool];simp
   ·rw[UI];cases t
    ·exact hρ b
    ·exact hρ a
  ·cases ha
 ·rename_i e heq;simp only at heq;subst heq;have⟨u,w',β',h1,h2,h3,h4⟩:=aaA hT h hn ha;exact val' h1 h2 h3 h4
 ·rename_i e x heq;simp only at heq;subst heq;have⟨u,w',β',h1,h2,h3,h4⟩:=afg (e:=e) h hn ha (hρ x);exact val' h1 h2 h3 h4
 ·rename_i t parts heq;simp only at heq;subst heq;obtain⟨z,h1,h2,h3⟩:=aaE (w:=w) (P:=P) (β:=β) (I:=I) (vs:=parts.map λ(i,x)=>(i,r x)) hT ha (by simp) (by
   simp only[Array.toList_map,map_map];have hm:=aE.map (λ x=>hρ x) (parts.toList.map (·.2));simp only[map_map]at hm;exact hm)
  exact val h1 h3 h2
 ·rename_i t len parts heq;simp only at heq;subst heq;obtain⟨z,w',β',h1,h2,h3,h4⟩:=L8 (vs:=parts.map λ(i,x)=>(i,r x)) hT h hn ha (by simp) (by
   simp only[Array.toList_map,map_map];have hm:=aE.map (λ x=>hρ x) (parts.toList.map (·.2));simp only[map_map]at hm;exact hm)
  exact val' h1 h2 h3 h4
 ·rename_i t a heq;simp only at heq;subst heq;have⟨u,h1,h2,h3⟩:=QU hT h hg ha cM (hρ a);exact val h1 h3 h2
 ·rename_i t a x heq;simp only at heq;subst heq;have⟨w',h1,h2,h3,h4⟩:=aaz hT h hg ha cM (hρ a) (hρ x);exact⟨undef,w',β,I,.inr ⟨by simp[execOp,h1],rfl⟩,⟨λ _ _=>rfl,λ_ _ h=>h,h2,λ_ h=>h⟩,h3,by rw[h4];simp[VR]⟩
 ·rename_i op t x y yt heq;simp only at heq;subst heq;have⟨z,h1,h2,h3⟩:=afh (xo:=x) (yo:=y) hT ha cM (hρ x) (hρ y);exact val h1 h3 h2
 ·rename_i op t x heq;simp only at heq;subst heq;have⟨z,h1,h2,h3⟩:=aip ha (hρ x);exact val h1 h3 h2
 ·rename_i f first caps heq
  simp only at heq;subst heq;simp only[pv,aA]at ha;subst ha;refine⟨.func (.func f) (first.map r) (caps.map r),w,β,I,.inl ?_,Step.refl ..,h,?_⟩
  ·simp[execOp,Instr.makeFunc]
  ·simp only[VR];exact⟨_,_,rfl,by rw[Array.toList_map];exact aE.map hρ _,by rw[Array.toList_map];exact aE.map hρ _⟩
 ·rename_i t x lo hi heq;simp only at heq;subst heq
  obtain⟨u,h1,h2,h3⟩:=aaF (th:=lo.map r) (hiv:=hi.map r) hT h hg ha cM (hρ x)
   (λ y hy=>by
    cases lo with
    |none=>simp at hy
    |some z=>simp at hy;subst hy;exact⟨r z,rfl,hρ z⟩) (λ hy=>by cases lo<;>simp at hy ⊢)
   (λ y hy=>by
    cases hi with
    |none=>simp at hy
    |some z=>simp at hy;subst hy;exact⟨r z,rfl,hρ z⟩) (λ hy=>by cases hi<;>simp at hy ⊢)
  exact val h1 h3 h2
 ·rename_i t x f heq;simp only at heq;subst heq;have⟨u,h1,h2,h3⟩:=O3 hT ha (hρ x);exact val h1 h3 h2
 ·rename_i t x f heq;simp only at heq;subst heq;have⟨u,h1,h2,h3⟩:=aaB hT ha (hρ x);exact val h1 h3 h2
 ·rename_i t x j heq;simp only at heq;subst heq;have⟨u,h1,h2,h3⟩:=O4 hT h hg ha cM (hρ x) (hρ j);exact val h1 h3 h2
 ·rename_i x j heq;simp only at heq;subst heq;have⟨u,h1,h2,h3⟩:=UJ ha (hρ x);exact val h1 h3 h2
 ·rename_i b args cQ heq;simp only at heq;subst heq;exact UL (ty:=ty) hT h hn hg (vs:=args.map r) ha cM (by rw[Array.toList_map];exact aE.map hρ _) rfl
 ·cases ha
end
def Tree.flat:Tree->Prop
 | .sc _=>True
 | .sl _=>False
def TV.flat:TV->Prop
 | .s x=>x.flat
 | .a cs=>∀x∈cs,x.flat
def RC.flat:RC->Prop
 | .d x=>x.flat
 | .fresh _ rows=>∀r∈rows,∀x∈r,x.flat
 | .whole _ _=>True
def RV.flat:RV->Prop
 | .one c=>c.flat
 | .eC cs=>∀c∈cs,c.flat
def JI(i:Nat)(ae:List Nat):RC->AV×List (Nat×Option aS)
 | .whole j len=>(match ae[j]? with |some k=> .own k 0 len |none=> .undef,[])
 | .d x=>(x.av,[])
 | .fresh sz rows=>(.own (cJ i) 0 (aI rows).length,[(cJ i,some ⟨sz,aI rows⟩)])
def L9(i:Nat)(ae:List Nat):List RC->Option (List AV×List (Nat×Option aS))
 |[]=>some ([],[])
 |c::cs=>(L9 i ae cs).bind λp=>if (JI i ae c).2.isEmpty || p.2.isEmpty then some ((JI i ae c).1::p.1,(JI i ae c).2++p.2)else none
def imp(i:Nat)(ae:List Nat):RV->Option (AV×List (Nat×Option aS))
 | .one c=>some (JI i ae c)
 | .eC cs=>(L9 i ae cs).bind λp=>some (.eC p.1,p.2)
mutual
def nL(P:Program)(get:Nat->Option aS):AV->List LH->Option (AV×List LH×List Prop)
 | .t x,hs=>some (.t x,hs,[])
 | .agg cs,hs=>(l7 P get cs hs).bind λp=>some (.agg p.1,p.2.1,p.2.2)
 | .eC _,_=>none
 | .own k aa len,hs=>match hs with
  | .rows tr::hs=>(get k).bind λo=>some (.t (.sl tr),hs,[(o.rows.drop aa).take len=aI tr/\tr.length=len])
  |_=>none
 | .ptr k row aa,hs=>match hs with
  | .row tr::hs=>(get k).bind λo=>some (.eo tr aa,hs,[o.rows[row]? =some (tr.map AV.t)])
  |_=>none
 | .eo r o,hs=>some (.eo r o,hs,[])
 | .fn f first caps,hs=>match hs with
  | .fn::hs=>(l7 P get first hs).bind λp=>(l7 P get caps p.2.1).bind λq=>some (.fn f p.1 q.1,q.2.1,p.2.2++q.2.2)
  | .d7 φ::hs=>(l7 P get first hs).bind λp=>(l7 P get caps p.2.1).bind λq=>
   some (.d7 φ,q.2.1,p.2.2++(q.2.2++[p.1=[]/\eO P f/\∀args r,φ args r->ra P f (p.1++args.map TV.av++q.1) (.one (.d r))]))
  |_=>none
 | .d7 φ,hs=>some (.d7 φ,hs,[])
 | .mp _,_=>none
 | .oz k len,hs=>match hs with
  | .rows tr::hs=>(get k).bind λo=>some (.t (.sl tr),hs,[(o.rows.drop 0).take len=aI tr/\tr.length=len])
  |_=>none
 | .cV,hs=>match hs with
  | .nil::hs=>some (.cV,hs,[])
  | .emp::hs=>some (.t (.sl []),hs,[])
  |_=>none
 | .ub,_=>none
 | .undef,_=>none
def l7(P:Program)(get:Nat->Option aS):List AV->List LH->Option (List AV×List LH×List Prop)
 |[],hs=>some ([],hs,[])
 |x::xs,hs=>(nL P get x hs).bind λp=>(l7 P get xs p.2.1).bind λq=>some (p.1::q.1,q.2.1,p.2.2++q.2.2)
end
def xk(P:Program)(i:Nat)(f:AV)(args:List AV)(cw:i8)(get:Nat->Option aS):Option Out:=
 match f,cw with
 | .fn F first caps,.call hs rv keep=>(imp i [] rv).bind λp=>(l7 P get (first++args++caps) hs).bind λq=>
  if keep then some ⟨p.1,p.2,q.2.2++[ra P F q.1 rv,rv.flat]⟩
  else some ⟨p.1,p.2++(eT (first++args++caps)).map (λ k=>(k,none)),q.2.2++[ra P F q.1 rv]⟩
 | .d7 φ,.C6 hs targs r keep=>(l7 P get args hs).bind λq=>
  if keep then some ⟨r.av,[],q.2.2++[q.1=targs.map TV.av,φ targs r,r.flat]⟩
  else some ⟨r.av,(eT args).map (λ k=>(k,none)),q.2.2++[q.1=targs.map TV.av,φ targs r]⟩
 |_,_=>none
def zN(P:Program)(w0:World)(O0:j8)(β:Nat->Option cL)(I:Nat->Prop)(obj:Nat->Option aS)(w:World)(i:Nat)(ab:Out)(r:Result Next):Prop:=
 ∃F args,r= .ok (.enter F args) w/\Calls P F args w λe w'=>∃v' β' I',e= .returned v'/\Step β I w (cJ i) β' I' w'/\Mem P w0 O0 β' I' (cK obj ab.upd) w'/\VR P β' w' I' ab.v v'
section
variable {P:Program} {T:ea} {w0:World} {O0:j8} {β:Nat->Option cL} {I:Nat->Prop} {obj:Nat->Option aS} {w:World} {i:Nat}
mutual
theorem eL.weaken{get get':Nat->Option aS}(h:∀k o,get k=some o->get' k=some o):∀(xs ys:List AV),eL P get xs ys->eL P get' xs ys
 |[],[],_=>by simp[eL]
 |x::xs,y::ys,hb=>by simp only[eL]at hb ⊢;exact⟨fx.weaken h x y hb.1,eL.weaken h xs ys hb.2⟩
 |[],_::_,hb=>by simp[eL]at hb
 |_::_,[],hb=>by simp[eL]at hb
theorem fx.weaken{get get':Nat->Option aS}(h:∀k o,get k=some o->get' k=some o):∀(x y:AV),fx P get x y->fx P get' x y
 | .t _,_,hb=>by simpa[fx]using hb
 | .agg cs,y,hb=>by
  simp only[fx]at hb ⊢;obtain⟨cs',h1,h2⟩:=hb;exact⟨cs',h1,eL.weaken h cs cs' h2⟩
 | .eC _,_,hb=>by simp[fx]at hb
 | .own k aa len,y,hb=>by
  simp only[fx]at hb ⊢;obtain⟨o,tr,h1,h2⟩:=hb;exact⟨o,tr,h k o h1,h2⟩
 | .ptr k row aa,y,hb=>by
  simp only[fx]at hb ⊢;obtain⟨o,tr,h1,h2⟩:=hb;exact⟨o,tr,h k o h1,h2⟩
 | .eo _ _,_,hb=>by simpa[fx]using hb
 | .fn f first caps,y,hb=>by
  simp only[fx]at hb ⊢;obtain⟨a,b,h1,h2,h3⟩:=hb;exact⟨a,b,eL.weaken h first a h1,eL.weaken h caps b h2,h3⟩
 | .d7 _,_,hb=>by simpa[fx]using hb
 | .oz k len,y,hb=>by
  simp only[fx]at hb ⊢;obtain⟨o,tr,h1,h2⟩:=hb;exact⟨o,tr,h k o h1,h2⟩
 | .cV,_,hb=>by simpa[fx]using hb
 | .ub,_,hb=>by simp[fx]at hb
 | .undef,_,hb=>by simp[fx]at hb
end
mutual
theorem Dr{get:Nat->Option aS}:∀(x:AV)(hs:List LH)(p:AV×List LH×List Prop),nL P get x hs=some p->(∀ q∈p.2.2,q)->fx P get x p.1
 | .t x,hs,p,h,_=>by simp only[nL,aA]at h;subst h;simp[fx]
 | .agg cs,hs,p,h,ho=>by
  simp only[nL,ai,aA]at h;obtain⟨q,h1,rfl⟩:=h;simp only[fx];exact⟨_,rfl,jR cs hs q h1 ho⟩
 | .eC _,_,_,h,_=>by simp[nL]at h
 | .own k aa len,hs,p,h,ho=>by
  simp only[nL]at h;split at h
  ·simp only[ai,aA]at h;obtain⟨o,h1,rfl⟩:=h;have h2:=ho _ (aW.2 rfl);simp only[fx];exact⟨o,_,h1,rfl,h2.1,h2.2⟩
  ·cases h
 | .ptr k row aa,hs,p,h,ho=>by
  simp only[nL]at h;split at h
  ·simp only[ai,aA]at h;obtain⟨o,h1,rfl⟩:=h;have h2:=ho _ (aW.2 rfl);simp only[fx];exact⟨o,_,h1,rfl,h2⟩
  ·cases h
 | .eo r o,hs,p,h,_=>by simp only[nL,aA]at h;subst h;simp[fx]
 | .fn f first caps,hs,p,h,ho=>by
  simp only[nL]at h;split at h
  ·simp only[ai,aA]at h;obtain⟨q,h1,q',h2,rfl⟩:=h;simp only[fx];exact⟨q.1,q'.1,jR first _ q h1 (λ x hx=>ho x (by simp[hx])),jR caps _ q' h2 (λ x hx=>ho x (by simp[hx])),.inl rfl⟩
  ·simp only[ai,aA]at h;obtain⟨q,h1,q',h2,rfl⟩:=h;have h3:=ho _ (by simp only[bf,aW];exact .inr (.inr rfl));simp only[fx];exact⟨q.1,q'.1,jR first _ q h1 (λ x hx=>ho x (by simp[hx])),jR caps _ q' h2 (λ x hx=>ho x (by simp[hx])),.inr ⟨_,rfl,h3.1,h3.2⟩⟩
  ·cases h
 | .d7 φ,hs,p,h,_=>by simp only[nL,aA]at h;subst h;simp[fx]
 | .mp _,_,_,h,_=>by simp[nL]at h
 | .oz k len,hs,p,h,ho=>by
  simp only[nL]at h;split at h
  ·simp only[ai,aA]at h;obtain⟨o,h1,rfl⟩:=h;have h2:=ho _ (aW.2 rfl);simp only[fx];exact⟨o,_,h1,rfl,h2.1,h2.2⟩
  ·cases h
 | .cV,hs,p,h,_=>by
  simp only[nL]at h;split at h
  ·cases h;simp[fx]
  ·cases h;simp[fx]
  ·cases h
 | .ub,_,_,h,_=>by simp[nL]at h
 | .undef,_,_,h,_=>by simp[nL]at h
theorem jR{get:Nat->Option aS}:∀(xs:List AV)(hs:List LH)(p:List AV×List LH×List Prop),l7 P get xs hs=some p->(∀ q∈p.2.2,q)->eL P get xs p.1
 |[],hs,p,h,_=>by simp only[l7,aA]at h;subst h;simp[eL]
 |x::xs,hs,p,h,ho=>by
  simp only[l7,ai,aA]at h;obtain⟨q,h1,q',h2,rfl⟩:=h;simp only[eL];exact⟨Dr x hs q h1 (λ y hy=>ho y (by simp[hy])),jR xs _ q' h2 (λ y hy=>ho y (by simp[hy]))⟩
end
theorem qj:∀(l:List Prop),jl l->∀p∈l,p
 |[],_,_,hp=>by simp at hp
 |[q],h,p,hp=>by rw[aW]at hp;rw[hp];exact h
 |q::r::l,h,p,hp=>by
  rcases aN.1 hp with e |hp
  ·rw[e];exact h.1
  ·exact qj (r::l) h.2 p hp
theorem Tree.mf{w':World}{I':Nat->Prop}:∀{x:Tree}{v:Value},x.flat->TR w I x v->TR w' I' x v
 | .sc _,_,_,h=>by simpa[TR]using h
 | .sl _,_,hf,_=>hf.elim
theorem TV.vq{w':World}{I':Nat->Prop}:∀{x:TV}{v:Value},x.flat->rk w I x v->rk w' I' x v
 | .s _,_,hf,h=>Tree.mf hf h
 | .a cs,v,hf,⟨vs,h1,h2⟩=>by
  refine⟨vs,h1,?_⟩;have:∀(cs:List Tree)(vs:List Value),(∀ x∈cs,x.flat)->eI w I cs vs->eI w' I' cs vs:=by
   intro cs
   induction cs with
   |nil=>intro vs _ h;cases vs with
    |nil=>trivial
    |cons=>exact h.elim
   |cons x xs ih=>intro vs hf h;cases vs with
    |nil=>exact h.elim
    |cons v vs=>exact⟨Tree.mf (hf x (by simp)) h.1,ih vs (λ y hy=>hf y (by simp[hy])) h.2⟩
  exact this cs vs.toList hf h2
theorem bo.flat{β':Nat->Option cL}{w':World}{I':Nat->Prop}(rows:List (List Tree))(c:Array Value)(aa sz:Nat)(hf:∀r∈rows,∀x∈r,Tree.flat x)(h:bo P β w I (aI rows) c aa sz):bo P β' w' I' (aI rows) c aa sz:=by
 rw[nX]at h ⊢;intro i r hr;have⟨h1,h2⟩:=h i r hr;refine⟨h1,?_⟩;rw[jq]at h2 ⊢;intro j x hx;have⟨v,g1,g2,g3⟩:=h2 j x hx;refine⟨v,g1,?_,g3⟩;simp only[aI,List.getElem?_map,dK]at hr;obtain⟨r',hr',rfl⟩:=hr;simp only[List.getElem?_map,dK]at hx;obtain⟨x',hx',rfl⟩:=hx;simp only[VR]at g2 ⊢;exact Tree.mf (hf r' (dh hr') x' (dh hx')) g2
theorem TV.Is{x:TV}{v:Value}(h:rk w I x v):VR P β w I x.av v:=by
 cases x with
 |s x=>simp only[TV.av,VR];exact h
 |a cs=>
  obtain⟨vs,rfl,h⟩:=h;simp only[TV.av,VR];refine⟨vs,rfl,?_⟩;have:∀(cs:List Tree)(us:List Value),eI w I cs us->aE P β w I (cs.map AV.t) us:=by
   intro cs
   induction cs with
   |nil=>intro us h;cases us with
    |nil=>simp[aE]
    |cons=>simp[eI]at h
   |cons x xs ih=>intro us h;cases us with
    |nil=>simp[eI]at h
    |cons y ys=>simp only[eI]at h;simp only[aF,aE,VR];exact⟨h.1,ih _ h.2⟩
  exact this cs vs.toList h
theorem Mem.fresh{i:Nat}{obj:Nat->Option aS}{F:Nat->Prop}{sz:Nat}{rows:List (List Tree)}{v:Value}(h:Mem P w0 O0 β I obj w)(hn:β i=none)(hlt:∀k o b,obj k=some o->fh β k b->¬F b)(hle:∀b,F b->O0.own b\/w0.heap.size<=b)(hf:Pi P F sz rows w I v):
 ∃ β',Step β I w i β' I w/\Mem P w0 O0 β' I (cK obj [(i,some ⟨sz,aI rows⟩)]) w/\VR P β' w I (.own i 0 rows.length) v:=by
 rcases hf with ⟨rfl,rfl⟩ |⟨b,c,e,cap,o,s,rfl,h1,h2,h3,h4,h5,h6,h7⟩
 ·have⟨hS,hM⟩:=Mem.pp (i:=i) (o:=⟨sz,aI []⟩) h hn rfl;exact⟨_,hS,hM,by simp only[VR];exact .inl ⟨by simp[ins],trivial,trivial,rfl⟩⟩
 ·have hsl:s<=c.size:=by omega
  have hS:Step β I w i (ins β i (.at b sz ⟨c.size,s,hsl⟩)) I w:=⟨λ j hj=>by simp[ins,ij.ne hj],mX hn,λ_ _=>rfl,λ_ h=>h⟩;refine⟨_,hS,?_,by simp only[VR];exact .inr ⟨b,sz,⟨c.size,s,hsl⟩,cap,o,by simp[ins],rfl,h4,by simpa using h5,λhc=>by simpa using h7 hc⟩⟩;have hbl:b<w.heap.size:=(Array.getElem?_eq_some_iff.1 h3).1;constructor
  ·intro k o' hk;simp only[cK]at hk;split at hk
   ·cases hk;rename_i hki;exact⟨.at b sz ⟨c.size,s,hsl⟩,by simp[ins,hki],rfl,c,e,h3,rfl,bo.mono (λ k B h=>by simp[ma]at h) (λ _ _=>rfl) (λ _ h=>h) _ _ _ _ h6⟩
   ·have⟨B,hB,hO⟩:=h.cE k o' hk;exact⟨B,mX hn _ _ hB,OR.mono hS.ext hS.same hS.inc (λ _ _=>rfl) hO⟩
  ·intro k k' o1 o2 B1 B2 b1 e1 e2 e3 e4 e5 e6;simp only[cK]at e1 e2;simp only[ins]at e3 e4;split at e3<;>split at e4
   ·rename_i p q;rw[p,q]
   ·rename_i p q;cases e3;cases e5;rw[aQ q]at e2;exact(hlt k' o2 _ e2 ⟨_,e4,e6⟩ h1).elim
   ·rename_i p q;cases e4;cases e6;rw[aQ p]at e1;exact(hlt k o1 _ e1 ⟨_,e3,e5⟩ h1).elim
   ·rename_i p q;rw[aQ p]at e1;rw[aQ q]at e2;exact h.gj k k' o1 o2 B1 B2 b1 e1 e2 e3 e4 e5 e6
  ·intro k o' B1 b1 e1 e2 e3;simp only[cK]at e1;simp only[ins]at e2;split at e2
   ·cases e2;cases e3;exact⟨h2,hbl,hle _ h1⟩
   ·rename_i p;rw[aQ p]at e1;exact h.ownB k o' B1 b1 e1 e2 e3
  ·exact h.lt
  ·exact h.up
  ·exact h.keep
  ·exact h.le
  ·exact h.os
  ·exact h.tape
  ·exact h.output
  ·intro j C hj;exact mX hn _ _ (h.anch j C hj)
  ·exact h.vars
theorem UM{i:Nat}{ae:List Nat}{F:Nat->Prop}{βc:Nat->Option cL}{c:RC}{v:Value}(h:Mem P w0 O0 β I obj w)(hn:β (cJ i)=none)(hlt:∀k o b,obj k=some o->fh β k b->¬F b)(hle:∀b,F b->O0.own b\/w0.heap.size<=b)(hbc:∀j B,βc j=some B->∃k,ae[j]? =some k/\β k=some B)(hc:yd P F βc c w I v):
 ∃ β',Step β I w (cJ i) β' I w/\Mem P w0 O0 β' I (cK obj (JI i ae c).2) w/\VR P β' w I (JI i ae c).1 v/\((JI i ae c).2=[]->β'=β):=by
 cases c with
 |d x=>exact⟨β,Step.refl ..,h,TV.Is hc,λ_=>rfl⟩
 |fresh sz rows=>
  have⟨β',h1,h2,h3⟩:=Mem.fresh (i:=cJ i) h hn hlt hle hc;exact⟨β',h1,h2,by simpa[JI,aI]using h3,λh=>by simp[JI]at h⟩
 |whole j len=>
  refine⟨β,Step.refl ..,h,?_,λ_=>rfl⟩;have hc:VR P βc w I (.own j 0 len) v:=hc;simp only[VR]at hc;have key:∀B,βc j=some B->∃k,ae[j]? =some k/\β k=some B:=hbc j;simp only[JI];rcases hc with ⟨g1,g2⟩ |⟨b,sz,n,cap,o,g1,g2⟩
  ·obtain⟨k,e1,e2⟩:=key _ g1;simp only[e1,VR];exact .inl ⟨e2,g2⟩
  ·obtain⟨k,e1,e2⟩:=key _ g1;simp only[e1,VR];exact .inr ⟨b,sz,n,cap,o,e2,g2⟩
theorem UN{i:Nat}{ae:List Nat}{F:Nat->Prop}{βc:Nat->Option cL}:∀(cs:List RC)(vs:List Value)(p:List AV×List (Nat×Option aS)),Mem P w0 O0 β I obj w->β (cJ i)=none->(∀ k o b,obj k=some o->fh β k b->¬F b)->(∀ b,F b->O0.own b\/w0.heap.size<=b)->(∀ j B,βc j=some B->∃k,ae[j]? =some k/\β k=some B)->
 L9 i ae cs=some p->RZ P F βc cs w I vs->∃ β',Step β I w (cJ i) β' I w/\Mem P w0 O0 β' I (cK obj p.2) w/\aE P β' w I p.1 vs/\(p.2=[]->β'=β)
 |[],[],p,h,_,_,_,_,hp,_=>by simp only[L9,aA]at hp;subst hp;exact⟨β,Step.refl ..,h,by simp[aE],λ_=>rfl⟩
 |c::cs,v::vs,p,h,hn,hlt,hle,hbc,hp,hr=>by
  simp only[RZ]at hr;simp only[L9]at hp;cases hq:L9 i ae cs with
  |none=>simp[hq]at hp
  |some q=>
   simp only[hq,af]at hp;split at hp
   ·rename_i hem;simp only[aA]at hp;subst hp;have⟨β1,g1,g2,g3,g4⟩:=UM (i:=i) h hn hlt hle hbc hr.1;have⟨β2,k1,k2,k3,k4⟩:=UN cs vs q h hn hlt hle hbc hq hr.2;have BE:(JI i ae c).2=[]\/q.2=[]:=(by simpa using hem);rcases BE with hem |hem
    ·have:=g4 hem;subst this;refine⟨β2,k1,by simpa[hem]using k2,?_,λh0=>k4 (by simpa[hem]using h0)⟩;simp only[aE];exact⟨VR.mono k1.ext k1.same k1.inc _ _ g3,k3⟩
    ·have:=k4 hem;subst this;refine⟨β1,g1,by simpa[hem]using g2,?_,λh0=>g4 (by simpa[hem]using h0)⟩;simp only[aE];exact⟨g3,aE.mono g1.ext g1.same g1.inc _ _ k3⟩
   ·cases hp
 |[],_::_,_,_,_,_,_,_,_,hr=>by simp[RZ]at hr
 |_::_,[],_,_,_,_,_,_,_,hr=>by simp[RZ]at hr
theorem O5{i:Nat}{ae:List Nat}{F:Nat->Prop}{βc:Nat->Option cL}{rv:RV}{v:Value}{p:AV×List (Nat×Option aS)}(h:Mem P w0 O0 β I obj w)(hn:β (cJ i)=none)(hlt:∀k o b,obj k=some o->fh β k b->¬F b)(hle:∀b,F b->O0.own b\/w0.heap.size<=b)(hbc:∀j B,βc j=some B->∃k,ae[j]? =some k/\β k=some B)
 (hp:imp i ae rv=some p) (hr:rm P F βc rv w I v):∃ β',Step β I w (cJ i) β' I w/\Mem P w0 O0 β' I (cK obj p.2) w/\VR P β' w I p.1 v:=by
 cases rv with
 |one c=>
  simp only[imp,aA]at hp;subst hp;have⟨β',h1,h2,h3,_⟩:=UM (i:=i) h hn hlt hle hbc hr;exact⟨β',h1,h2,h3⟩
 |eC cs=>
  simp only[imp]at hp;cases hq:L9 i ae cs with
  |none=>simp[hq]at hp
  |some q=>
   simp only[hq,af,aA]at hp;subst hp;obtain⟨vs,rfl,hvs⟩:=hr;have⟨β',h1,h2,h3,_⟩:=UN (i:=i) cs vs.toList q h hn hlt hle hbc hq hvs;exact⟨β',h1,h2,by simp only[VR];exact⟨vs,rfl,h3⟩⟩
theorem rJ(obj:Nat->Option aS):∀(a b:List (Nat×Option aS))(k:Nat),cK obj (a++b) k=cK (cK obj b) a k
 |[],_,_=>rfl
 |(j,o)::a,b,k=>by simp only[cons_append,cK,rJ obj a b k]
theorem xW(obj:Nat->Option aS):∀(ae:List Nat)(k:Nat),cK obj (ae.map λk=>(k,none)) k=if k∈ae then none else obj k
 |[],k=>by simp[cK]
 |j::ae,k=>by
  simp only[aF,cK,xW obj ae k,aN];by_cases h:k=j<;>simp[h]
end
section
variable {P:Program} {T:ea} {w0:World} {O0:j8} {β:Nat->Option cL} {I:Nat->Prop} {obj:Nat->Option aS} {w:World} {i:Nat}
theorem rm.flat{F:Nat->Prop}{βc:Nat->Option cL}{w':World}{I' DS:Nat->Prop}{rv:RV}{v:Value}(hf:rv.flat)(hI:∀b,DS b->I' b)(h:rm P F βc rv w' I' v):rm P F βc rv w' DS v:=by
 have hc:∀(c:RC)(v:Value),c.flat->yd P F βc c w' I' v->yd P F βc c w' DS v:=by
  intro c v hf h;cases c with
  |d x=>exact TV.vq hf h
  |fresh sz rows=>
   rcases h with h |⟨b,c,e,cap,o,s,h1,h2,h3,h4,h5,h6,h7,h8⟩
   ·exact .inl h
   ·exact .inr ⟨b,c,e,cap,o,s,h1,h2,λhb=>h3 (hI b hb),h4,h5,h6,bo.flat rows c s sz hf h7,h8⟩
  |whole j len=>have h:VR P βc w' I' (.own j 0 len) v:=h;show VR P βc w' DS (.own j 0 len) v;simp only[VR]at h ⊢;exact h
 cases rv with
 |one c=>exact hc c v hf h
 |eC cs=>
  obtain⟨vs,rfl,h⟩:=h;refine⟨vs,rfl,?_⟩;have:∀(cs:List RC)(vs:List Value),(∀ c∈cs,c.flat)->RZ P F βc cs w' I' vs->RZ P F βc cs w' DS vs:=by
   intro cs
   induction cs with
   |nil=>intro vs _ h;cases vs with
    |nil=>trivial
    |cons=>exact h.elim
   |cons c cs ih=>intro vs hf h;cases vs with
    |nil=>exact h.elim
    |cons v vs=>exact⟨hc c v (hf c (by simp)) h.1,ih vs (λ y hy=>hf y (by simp[hy])) h.2⟩
  exact this cs vs.toList hf h
theorem UO(h:Mem P w0 O0 β I obj w)(hn:β (cJ i)=none){ae:List Nat}{rv:RV}{p:AV×List (Nat×Option aS)}{keep:Bool}(hp:imp i [] rv=some p)(hk:keep=true->rv.flat)
 {w':World} {I1:Nat->Prop} {v:Value} (hb:Below w.heap.size w w') (h1:∀b,fL β obj ae I b->I1 b) (h2:∀b,I1 b->b<w'.heap.size) (h3:∀b,I1 b->fL β obj ae I b\/w.heap.size<=b) (hr:rm P (Mn w) ma rv w' I1 v):
 ∃ β' I',Step β I w (cJ i) β' I' w'/\Mem P w0 O0 β' I' (cK obj (p.2++if keep then []else ae.map (λ k=>(k,none)))) w'/\VR P β' w' I' p.1 v:=by
 have hlt:∀(oa:Nat->Option aS),(∀ k o,oa k=some o->obj k=some o)->∀k o b,oa k=some o->fh β k b->¬Mn w b:=λoa hs k o b e1 e2 hb=>Nat.lt_irrefl _ (Nat.lt_of_lt_of_le (h.iv k o b (hs k o e1) e2).2.1 hb);have hnew:∀b,Mn w b->O0.own b\/w0.heap.size<=b:=λb hb=> .inr (Nat.le_trans h.le hb);have hup:∀b,I1 b->O0.Hj b\/O0.own b\/w0.heap.size<=b:=λb hb'=>by
  rcases h3 b hb' with (h5 |⟨k',o',s',n',g1,g2,g3⟩) |h5
  ·exact h.up b h5
  ·exact .inr (h.own k' o' b s' n' g2 g3).2.2
  ·exact .inr (.inr (Nat.le_trans h.le h5))
 cases keep with
 |true=>
  obtain⟨hS,hM⟩:=h.below (I':=λb=>I1 b/\(I b\/w.heap.size<=b)) hb (λ b hb'=>⟨h1 b (.inl hb'),.inl hb'⟩) (λ b hb'=>h2 b hb'.1) (λ b k o B hb' e1 e2 e3=>by
   have⟨a1,a2,_⟩:=h.ownB k o B b e1 e2 e3;rcases hb'.2 with h5 |h5
   ·exact a1 h5
   ·omega) (λ b hb'=>hup b hb'.1)
  obtain⟨β',k1,k2,k3⟩:=O5 hM hn (hlt obj (λ _ _ h=>h)) hnew (λ _ _ h=>by cases h) hp (rm.flat (hk rfl) (λ b hb=>hb.1) hr);refine⟨β',_,⟨k1.other,k1.ext,hS,λb hb'=>⟨h1 b (.inl hb'),.inl hb'⟩⟩,?_,k3⟩;simpa using k2
 |false=>
  have hsub:∀k o,cK obj (ae.map λk=>(k,none)) k=some o->obj k=some o/\k∉ae:=by
   intro k o hk;rw[xW]at hk;split at hk
   ·cases hk
   ·exact⟨hk,‹_›⟩
  have hd:=h.drop (cK obj (ae.map λk=>(k,none))) (λ k o hk=>(hsub k o hk).1);obtain⟨hS,hM⟩:=hd.below (I':=I1) hb (λ b hb'=>h1 b (.inl hb')) h2 (λ b k o B hb' e1 e2 e3=>by
   have⟨f1,f2⟩:=hsub k o e1;have⟨a1,a2,_⟩:=h.ownB k o B b f1 e2 e3;rcases h3 b hb' with (h5 |⟨k',o',s',n',g1,g2,g3⟩) |h5
   ·exact a1 h5
   ·have:=h.lv k k' o o' b f1 g2 ⟨B,e2,e3⟩ (.at g3);subst this;exact f2 g1
   ·omega) hup
  obtain⟨β',k1,k2,k3⟩:=O5 hM hn (hlt _ (λ k o hk=>(hsub k o hk).1)) hnew (λ _ _ h=>by cases h) hp hr;refine⟨β',I1,⟨k1.other,k1.ext,hS,λb hb'=>h1 b (.inl hb')⟩,?_,k3⟩;simp only[Bool.false_eq_true,if_false];have e:cK obj (p.2++ae.map λk=>(k,none))=cK (cK obj (ae.map λk=>(k,none))) p.2:=funext λk=>rJ obj _ _ k;rw[e];exact k2
theorem Ma(h:Mem P w0 O0 β I obj w)(ae:List Nat):∀b,fL β obj ae I b->b<w.heap.size:=by
 intro b hb;rcases hb with hb |⟨k,o,s,n,_,h2,h3⟩
 ·exact h.lt b hb
 ·exact(h.own k o b s n h2 h3).2.1
theorem Yl(h:Mem P w0 O0 β I obj w)(hn:β (cJ i)=none){f:AV}{args:List AV}{cw:i8}{get:Nat->Option aS}{ab:Out}(hg:∀k o,get k=some o->obj k=some o)
 {fv:Value} {vs:Array Value} {al:Array Operand} {fo:Operand} {r:Operand->Value} (ha:xk P i f args cw get=some ab) (cM:ab.ob) (hf:VR P β w I f fv) (hv:aE P β w I args vs.toList) (hfo:r fo=fv) (hops:vs=al.map r)
 {dst:Option Tmp} {ao:String} {after:Array Edge} {guard:Option (Nat×Bool)} {ty:TypeId} {cQ:Array TypeId}:
 zN P w0 O0 β I obj w i ab ((execOp r ⟨dst,.call { callee:= .value fo,args:=al,argTypes:=cQ },ty,ao,after,guard⟩).run P w):=by
 have enter : ∀ (F : FuncId) (first caps : Array Value) (args' : Array Value), (∃ fn, P.funcs[F]? = some fn /\ fn.body.isSome = true /\ (fn.name == "runtime.NumGoroutine") = false) -> fv = .func (.func F) first caps -> args' = first ++ vs ++ caps ->
  (execOp r ⟨dst,.call { callee:= .value fo,args:=al,argTypes:=cQ },ty,ao,after,guard⟩).run P w= .ok (.enter F args') w:=by
  rintro F first caps args' ⟨fn,e1,e2,e3⟩ e4 rfl
  have hb:¬fn.body=none:=by cases hh:fn.body<;>simp[hh]at e2 ⊢
  have e3' : ¬ fn.name = "runtime.NumGoroutine" := by simpa using e3
  simp[execOp,resolve,hfo,e4,<- hops,Deferred.ofValue,invoke,callFunc,e1,e3',hb]
 unfold xk at ha;split at ha
 ·rename_i F first caps hs rv keep
  cases hp:imp i [] rv with
  |none=>simp[hp]at ha
  |some p=>
   cases hq:l7 P get (first++args++caps) hs with
   |none=>simp only[hp,hq,af,Option.bind_none,reduceCtorEq]at ha
   |some q=>
   simp only[hp,hq,af]at ha;simp only[VR]at hf;obtain⟨fs,cs,rfl,hf1,hf2⟩:=hf
   have fin:∀(keep:Bool),eL P get (first++args++caps) q.1->ra P F q.1 rv->(keep=true->rv.flat)->
    ab=⟨p.1,p.2++(if keep then []else(eT (first++args++caps)).map (λ k=>(k,none))),ab.obs⟩->zN P w0 O0 β I obj w i ab ((execOp r ⟨dst,.call { callee:= .value fo,args:=al,argTypes:=cQ },ty,ao,after,guard⟩).run P w):=by
    intro keep hb hF hk hout;obtain⟨BW,hcon⟩:=hF;have hall:aE P β w I (first++args++caps) (fs++vs++cs).toList:=by
     simp only[Array.toList_append];exact aE.append _ _ _ _ (aE.append _ _ _ _ hf1 hv) hf2
    have pd:=eL.sound h (eT (first++args++caps)) _ _ _ (λ k hk=>hk) (eL.weaken hg _ _ hb) hall;refine⟨F,fs++vs++cs,enter F fs cs _ BW rfl rfl,(hcon w _ _ (Ma h _) (h.vars.mono (λ _ _=>rfl) (λ b hb=> .inl hb)) pd).mono ?_⟩;rintro e w' ⟨v',I1,rfl,hbel,g1,g2,g3,g4⟩;have⟨β',I',k1,k2,k3⟩:=UO (keep:=keep) h hn hp hk hbel g1 g2 g3 g4;rw[hout];exact⟨v',β',I',rfl,k1,k2,k3⟩
   cases keep with
   |true=>
    simp only[if_true,aA]at ha;subst ha;have cM:=qj _ cM;exact fin true (jR _ _ _ hq λx hx=>cM x (by simp[hx])) (cM (ra P F q.1 rv) (by simp)) (λ _=>cM rv.flat (by simp)) (by simp)
   |false=>
    simp only[Bool.false_eq_true,if_false,aA]at ha;subst ha;have cM:=qj _ cM;exact fin false (jR _ _ _ hq λx hx=>cM x (by simp[hx])) (cM (ra P F q.1 rv) (by simp)) (λ h=>by cases h) (by simp)
 ·rename_i φ hs targs rr keep;cases hq:l7 P get args hs with
  |none=>simp[hq]at ha
  |some q=>
  simp only[hq,af]at ha;simp only[VR]at hf;obtain⟨F,fs,cs,rfl,_,hF1,hF2,hF3⟩:=hf;obtain⟨fn,hfn⟩:=Option.isSome_iff_exists.1 hF2
  have fin:∀(keep:Bool),eL P get args (targs.map TV.av)->φ targs rr->(keep=true->rr.flat)->
   ab=⟨rr.av,[]++(if keep then []else(eT args).map (λ k=>(k,none))),ab.obs⟩->zN P w0 O0 β I obj w i ab ((execOp r ⟨dst,.call { callee:= .value fo,args:=al,argTypes:=cQ },ty,ao,after,guard⟩).run P w):=by
   intro keep hb hφ hk hout;have pd:=eL.sound h (eT args) _ _ _ (λ k hk=>hk) (eL.weaken hg _ _ hb) hv;have htv:∀(xs:List TV) (us:List Value),aE P ma w (fL β obj (eT args) I) (xs.map TV.av) us->mL w (fL β obj (eT args) I) xs us:=by
    intro xs
    induction xs with
    |nil=>intro us h;cases us with
     |nil=>trivial
     |cons=>simp[aE]at h
    |cons x xs ih=>intro us h;cases us with
     |nil=>simp[aE]at h
     |cons u us=>
      simp only[aF,aE]at h;refine⟨?_,ih us h.2⟩;cases x with
      |s x=>simpa[TV.av,VR,rk]using h.1
      |a cs=>
       simp only[TV.av,VR]at h;obtain⟨⟨vs',rfl,h1⟩,_⟩:=h;refine⟨vs',rfl,?_⟩;have:∀(cs:List Tree) (us:List Value),aE P ma w (fL β obj (eT args) I) (cs.map AV.t) us->eI w (fL β obj (eT args) I) cs us:=by
        intro cs
        induction cs with
        |nil=>intro us h;cases us with
         |nil=>trivial
         |cons=>simp[aE]at h
        |cons c cs ih=>intro us h;cases us with
         |nil=>simp[aE]at h
         |cons u us=>simp only[aF,aE,VR]at h;exact⟨h.1,ih us h.2⟩
       exact this cs _ h1
   refine⟨F,fs++vs++cs,enter F fs cs _ ⟨fn,hfn,(hF1 fn hfn).1,(hF1 fn hfn).2⟩ rfl rfl,(hF3 w _ targs vs rr (λ b hb=>Or.inl hb) (λ _ _=>rfl) (Ma h _) hφ (htv _ _ pd)).mono ?_⟩;rintro e w' ⟨v',I1,rfl,hbel,g1,g2,g3,g4⟩;have⟨β',I',k1,k2,k3⟩:=UO (i:=i) (rv:= .one (.d rr)) (p:=(rr.av,[])) (keep:=keep) h hn rfl hk hbel g1 g2 g3 g4;rw[hout];exact⟨v',β',I',rfl,k1,k2,k3⟩
  cases keep with
  |true=>
   simp only[if_true,aA]at ha;subst ha;have cM:=qj _ cM;have e:q.1=targs.map TV.av:=cM _ (by simp);exact fin true (e ▸ jR _ _ _ hq λx hx=>cM x (by simp[hx])) (cM (φ targs rr) (by simp)) (λ _=>cM rr.flat (by simp)) (by simp)
  |false=>
   simp only[Bool.false_eq_true,if_false,aA]at ha;subst ha;have cM:=qj _ cM;have e:q.1=targs.map TV.av:=cM _ (by simp);exact fin false (e ▸ jR _ _ _ hq λx hx=>cM x (by simp[hx])) (cM (φ targs rr) (by simp)) (λ h=>by cases h) (by simp)
 ·cases ha
end
abbrev fe:=Nat×List (List Tree)
def gA(p:fe):aS:=⟨p.1,aI p.2⟩
def rL(os:List fe)(k:Nat):Option aS:=(os[k]?).map gA
def Cb(os:List (Option fe))(k:Nat):Option aS:=((os[k]?).join).map gA
def UQ(β:Nat->Option cL)(b:Nat):Prop:=∃j,fh β j b
def mY(β:Nat->Option cL)(I:Nat->Prop):j8:=⟨UQ β,I,λj=>if j<1000 then β j else none,λj B h=>by
 split at h
 ·assumption
 ·cases h⟩
def Ax(w:World)(β:Nat->Option cL)(os':List (Option fe))(b:Nat):Prop:=(UQ β b\/w.heap.size<=b)/\∀k o,Cb os' k=some o->¬fh β k b
def Mm(P:Program)(w:World)(β:Nat->Option cL)(I:Nat->Prop)(os':List (Option fe))(rv:RV)(e:Ending)(w':World):Prop:=
 ∃v I',e= .returned v/\Mem P w (mY β I) β I' (Cb os') w'/\(∀ b,I b->I' b)/\rm P (Ax w β os') β rv w' I' v
def qn(P:Program)(f:FuncId)(args:List AV)(os:List fe)(os':List (Option fe))(rv:RV):Prop:=
 eO P f/\∀(w:World) (β:Nat->Option cL) (I:Nat->Prop) (vs:Array Value),(∀ k,os.length<=k->β k=none)->Mem P w (mY β I) β I (rL os) w->aE P β w I args vs.toList->Calls P f vs w (Mm P w β I os' rv)
def βc(ae:List Nat)(β:Nat->Option cL)(j:Nat):Option cL:=(ae[j]?).bind β
section
variable (P:Program) (get:Nat->Option aS) (ae:List Nat)
mutual
def oH:AV->List LH->Option (AV×List LH×List Prop)
 | .own k aa len,.mut j::hs=>if ae[j]? =some k then some (.own j aa len,hs,[])else none
 | .ptr k row aa,.mut j::hs=>if ae[j]? =some k then some (.ptr j row aa,hs,[])else none
 | .mp k,.mut j::hs=>if ae[j]? =some k then some (.mp j,hs,[])else none
 | .agg cs,.agw::hs=>(lU cs hs).bind λp=>some (.agg p.1,p.2.1,p.2.2)
 | .agg cs,.agd::hs=>if (eT cs).all (λ k=>!ae.contains k)then nL P get (.agg cs) hs else none
 | .fn F first caps,.fnw::hs=>(lU first hs).bind λp=>(lU caps p.2.1).bind λq=>some (.fn F p.1 q.1,q.2.1,p.2.2++q.2.2)
 |x,hs=>if (refs x).all (λ k=>!ae.contains k)then nL P get x hs else none
def lU:List AV->List LH->Option (List AV×List LH×List Prop)
 |[],hs=>some ([],hs,[])
 |x::xs,hs=>(oH x hs).bind λp=>(lU xs p.2.1).bind λq=>some (p.1::q.1,q.2.1,p.2.2++q.2.2)
end
def yw:List (List AV)->List (List LH)->Option (List (List AV)×List Prop)
 |[],[]=>some ([],[])
 |r::rs,h::hs=>(lU P get ae r h).bind λp=>(yw rs hs).bind λq=>some (p.1::q.1,p.2.2++q.2)
 |_,_=>none
def ml(x y:AV):Prop:=
 (∃ j k aa len,ae[j]? =some k/\x= .own k aa len/\y= .own j aa len)\/(∃ j k row aa,ae[j]? =some k/\x= .ptr k row aa/\y= .ptr j row aa)\/(∃ j k,ae[j]? =some k/\x= .mp k/\y= .mp j)\/((∀ k∈refs x,k∉ae)/\fx P get x y)
mutual
def gC:AV->AV->Prop
 | .fn F f1 c1,.fn G f2 c2=>(F=G/\ft f1 f2/\ft c1 c2)\/ml P get ae (.fn F f1 c1) (.fn G f2 c2)
 | .agg c1,.agg c2=>ft c1 c2\/ml P get ae (.agg c1) (.agg c2)
 |x,y=>ml P get ae x y
def ft:List AV->List AV->Prop
 |[],[]=>True
 |x::xs,y::ys=>gC x y/\ft xs ys
 |_,_=>False
end
theorem gC.base{x y:AV}(h:ml P get ae x y):gC P get ae x y:=by cases x<;>cases y<;>simp only[gC]<;>first |exact h |exact .inr h
end
def Ar(get:Nat->Option aS):List Nat->List fe->Option (List Prop)
 |[],[]=>some []
 |k::ae,p::os=>(get k).bind λo=>(Ar get ae os).bind λl=>some ((o.sz=p.1/\dW (o.rows.take p.2.length)=aI p.2)::l)
 |_,_=>none
def Au:List Nat->List (Option fe)->List (Nat×Option aS)
 |k::ae,p::os=>(k,p.map gA)::Au ae os
 |_,_=>[]
def Gy(xs:List AV)(ae:List Nat):List Nat:=(eT xs).filter λk=>!ae.contains k
def UR(os':List (Option fe)):Prop:=∀p,some p∈os'->∀r∈p.2,∀x∈r,Tree.flat x
def Gz(P:Program)(i:Nat)(f:AV)(args:List AV)(cw:i8)(get:Nat->Option aS):Option Out:=
 match f,cw with
 | .fn F first caps,.tz ae os os' hs rv keep=>if ae.Nodup/\os'.length=ae.length then(imp i ae rv).bind λp=>(Ar get ae os).bind λmo=>(lU P get ae (first++args++caps) hs).bind λq=>
  if keep then some ⟨p.1,p.2++Au ae os',q.2.2++mo++[qn P F q.1 os os' rv,rv.flat,UR os']⟩
  else some ⟨p.1,p.2++(Au ae os'++(Gy (first++args++caps) ae).map λk=>(k,none)),q.2.2++mo++[qn P F q.1 os os' rv]⟩
  else none
 |_,_=>none
def oI(P:Program)(i:Nat)(f:AV)(args:List AV)(cw:i8)(get:Nat->Option aS):Option Out:=
 match cw with
 | .tz .. =>Gz P i f args cw get
 |_=>xk P i f args cw get
section
variable {P:Program} {T:ea} {w0:World} {O0:j8} {β:Nat->Option cL} {I:Nat->Prop} {obj:Nat->Option aS} {w:World} {i:Nat}
theorem Mc{ae:List Nat}{j:Nat}{B:cL}(h:βc ae β j=some B):∃k,ae[j]? =some k/\β k=some B:=by simpa[βc,ai]using h
theorem bo.dat{β':Nat->Option cL}{I':Nat->Prop}(hI:∀b,I b->I' b)(rows:List (List Tree))(c:Array Value)(aa sz:Nat)(h:bo P β w I (aI rows) c aa sz):bo P β' w I' (aI rows) c aa sz:=by
 rw[nX]at h ⊢;intro i r hr;have⟨h1,h2⟩:=h i r hr;refine⟨h1,?_⟩;rw[jq]at h2 ⊢;intro j x hx;have⟨v,g1,g2,g3⟩:=h2 j x hx;refine⟨v,g1,?_,g3⟩;simp only[aI,List.getElem?_map,dK]at hr;obtain⟨r',hr',rfl⟩:=hr;simp only[List.getElem?_map,dK]at hx;obtain⟨x',hx',rfl⟩:=hx;simp only[VR]at g2 ⊢;exact TR.mono (λ _ _=>rfl) hI _ _ g2
theorem aE.H4{β':Nat->Option cL}{I':Nat->Prop}(hI:∀b,I b->I' b):∀(r:List Tree)(vs:List Value),aE P β w I (r.map AV.t) vs->aE P β' w I' (r.map AV.t) vs
 |[],[],_=>by simp[aE]
 |x::xs,v::vs,h=>by
  simp only[aF,aE,VR]at h ⊢;exact⟨TR.mono (λ _ _=>rfl) hI _ _ h.1,aE.H4 hI xs vs h.2⟩
 |[],_::_,h=>by simp[aE]at h
 |_::_,[],h=>by simp[aE]at h
theorem co.dat{β':Nat->Option cL}{I':Nat->Prop}(hI:∀b,I b->I' b):∀(rs:List (List Tree))(es:List MapEntry),co P β w I (aI rs) es->co P β' w I' (aI rs) es
 |[],[],_=>trivial
 |r::rs,_::es,⟨h1,h4⟩=>⟨aE.H4 hI r _ h1,co.dat hI rs es h4⟩
 |[],_::_,h=>h.elim
 |_::_,[],h=>h.elim
theorem aE.y4{β':Nat->Option cL}{I':Nat->Prop}:∀(r:List Tree)(vs:List Value),(∀ x∈r,Tree.flat x)->aE P β w I (r.map AV.t) vs->aE P β' w I' (r.map AV.t) vs
 |[],[],_,_=>by simp[aE]
 |x::xs,v::vs,hf,h=>by
  simp only[aF,aE,VR]at h ⊢;exact⟨Tree.mf (hf x (by simp)) h.1,aE.y4 xs vs (λ y hy=>hf y (by simp[hy])) h.2⟩
 |[],_::_,_,h=>by simp[aE]at h
 |_::_,[],_,h=>by simp[aE]at h
theorem co.flat{β':Nat->Option cL}{I':Nat->Prop}:∀{rs:List (List Tree)}(_:∀r∈rs,∀x∈r,Tree.flat x)(es:List MapEntry),co P β w I (aI rs) es->co P β' w I' (aI rs) es
 |[],_,[],_=>trivial
 |r::rs,hf,_::es,⟨h1,h4⟩=>⟨aE.y4 r _ (hf r (by simp)) h1,co.flat (λ r' hr=>hf r' (by simp[hr])) es h4⟩
 |[],_,_::_,h=>h.elim
 |_::_,_,[],h=>h.elim
theorem OR.part{o:aS}{p:fe}{b:Nat}(g4:o.sz=p.1)(g5:dW (o.rows.take p.2.length)=aI p.2)(h:OR P β w I o (.mp b)):OR P β w I (gA p) (.mp b):=by
 obtain⟨es,cl,h1,hle,h2,h3⟩:=h;have hl:=congrArg List.length g5;simp only[dW,aI,List.length_map,length_take]at hl;refine⟨es,cl,h1,by simp only[gA,aI,List.length_map];omega,λe=>?_,h3⟩;have e':p.1=p.2.length:=by simpa[gA,aI]using e
 have:=co.wk _ _ (h2 (by omega));rw[List.take_of_length_le (by omega)]at g5;show co P β w I (aI p.2) es.toList;rw[<- g5];exact this
theorem OR.dat{β':Nat->Option cL}{I':Nat->Prop}(hI:∀b,I b->I' b){p:fe}{B:cL}(h:OR P β w I (gA p) B):OR P β' w I' (gA p) B:=by
 cases B with
 |none=>exact h
 | «at» b s n=>
  obtain⟨h1,c,e,h2,h3,h4⟩:=h;exact⟨h1,c,e,h2,h3,bo.dat hI _ _ _ _ h4⟩
 |mp b=>
  obtain⟨es,cl,h1,hle,h2,h3⟩:=h;exact⟨es,cl,h1,hle,λe=>co.dat hI _ _ (h2 e),h3⟩
theorem OR.flat{β':Nat->Option cL}{I':Nat->Prop}{p:fe}{B:cL}(hf:∀r∈p.2,∀x∈r,Tree.flat x)(h:OR P β w I (gA p) B):OR P β' w I' (gA p) B:=by
 cases B with
 |none=>exact h
 | «at» b s n=>
  obtain⟨h1,c,e,h2,h3,h4⟩:=h;exact⟨h1,c,e,h2,h3,bo.flat _ _ _ _ hf h4⟩
 |mp b=>
  obtain⟨es,cl,h1,hle,h2,h3⟩:=h;exact⟨es,cl,h1,hle,λe=>co.flat hf _ (h2 e),h3⟩
theorem QW{get:Nat->Option aS}:∀{ae:List Nat}{os:List fe}{l:List Prop},Ar get ae os=some l->(∀ q∈l,q)->ae.length=os.length/\∀(j:Nat) k p,ae[j]? =some k->os[j]? =some p->∃o,get k=some o/\o.sz=p.1/\dW (o.rows.take p.2.length)=aI p.2
 |[],[],_,_,_=>⟨rfl,λj k p h=>by simp at h⟩
 |k::ae,p::os,l,h,hq=>by
  simp only[Ar,ai,aA]at h;obtain⟨o,h1,l',h2,rfl⟩:=h;obtain⟨h3,h4⟩:=QW h2 (λ q hq'=>hq q (by simp[hq']));refine⟨by simp[h3],λj k' p' hj hj'=>?_⟩;cases j with
  |zero=>
   simp only[List.getElem?_cons_zero,aA]at hj hj';subst hj;subst hj';exact⟨o,h1,hq _ (by simp)⟩
  |succ j=>exact h4 j k' p' (by simpa using hj) (by simpa using hj')
 |[],_::_,_,h,_=>by simp[Ar]at h
 |_::_,[],_,h,_=>by simp[Ar]at h
theorem aiq{ae:List Nat}:∀{os':List (Option fe)}{g:List (Nat×Option aS)}{k:Nat},k∉ae->cK obj (Au ae os'++g) k=cK obj g k:=by
 induction ae with
 |nil=>intro os' g k _;rfl
 |cons j ae ih=>
  intro os' g k hk;cases os' with
  |nil=>rfl
  |cons p os'=>
   simp only[aN,not_or]at hk;simp only[Au,cons_append,cK,aQ hk.1,ih hk.2]
theorem Zn:∀{ae:List Nat}{os':List (Option fe)}{g:List (Nat×Option aS)}{j k:Nat},ae.Nodup->os'.length=ae.length->ae[j]? =some k->cK obj (Au ae os'++g) k=Cb os' j
 |[],_,_,_,_,_,_,h=>by simp at h
 |i::ae,[],_,_,_,_,hl,_=>by simp at hl
 |i::ae,p::os',g,j,k,hn,hl,h=>by
  simp only[List.nodup_cons]at hn;cases j with
  |zero=>
   simp only[List.getElem?_cons_zero,aA]at h;subst h;simp[Au,cK,Cb]
  |succ j=>
   simp only[List.getElem?_cons_succ]at h;have hne:k≠i:=λe=>hn.1 (e ▸ dh h);simp only[Au,cons_append,cK,aQ hne,Zn hn.2 (by simpa using hl) h];simp[Cb]
theorem O6:∀{ae:List Nat},ae.Nodup->∀{j j' k:Nat},ae[j]? =some k->ae[j']? =some k->j=j'
 |[],_,_,_,_,h,_=>by simp at h
 |i::ae,hn,j,j',k,h,h'=>by
  simp only[List.nodup_cons]at hn;cases j with
  |zero=>
   cases j' with
   |zero=>rfl
   |succ j'=>
    simp only[List.getElem?_cons_zero,aA,List.getElem?_cons_succ]at h h';exact(hn.1 (h ▸ dh h')).elim
  |succ j=>
   cases j' with
   |zero=>
    simp only[List.getElem?_cons_zero,aA,List.getElem?_cons_succ]at h h';exact(hn.1 (h' ▸ dh h)).elim
   |succ j'=>exact congrArg (· +1) (O6 hn.2 (k:=k) (by simpa using h) (by simpa using h'))
theorem Mem.handed(h:Mem P w0 O0 β I obj w){ae cT:List Nat}{os:List fe}(hnd:ae.Nodup)(hlen:ae.length=os.length)
 (hm:∀(j:Nat) k p,ae[j]? =some k->os[j]? =some p->∃o,obj k=some o/\o.sz=p.1/\dW (o.rows.take p.2.length)=aI p.2) (BT:∀k∈cT,k∉ae):
 Mem P w (mY (βc ae β) (fL β obj cT I)) (βc ae β) (fL β obj cT I) (rL os) w:=by
 have look:∀j o',rL os j=some o'->∃k p o,ae[j]? =some k/\os[j]? =some p/\o'=gA p/\obj k=some o/\o.sz=p.1/\dW (o.rows.take p.2.length)=aI p.2:=by
  intro j o' hj;simp only[rL,dK]at hj;obtain⟨p,hp,rfl⟩:=hj;have hjl:j<ae.length:=by rw[hlen];exact(dF.1 hp).1
  obtain⟨o,g⟩:=hm j _ p (dI hjl) hp;exact⟨_,p,o,dI hjl,hp,rfl,g⟩
 have hb0:∀j k,ae[j]? =some k->βc ae β j=β k:=λj k hk=>by simp[βc,hk]
 constructor
 ·intro j o' hj;obtain⟨k,p,o,g1,g2,rfl,g3,g4,g5⟩:=look j o' hj;have⟨B,hB,hO⟩:=h.cE k o g3;refine⟨B,by rw[hb0 j k g1];exact hB,?_⟩;have:OR P β w I (gA p) B:=by
   cases B with
   |none=>
    simp only[OR]at hO ⊢;rw[hO]at g5;simpa[dW,gA]using g5.symm
   | «at» b s n=>
    obtain⟨h1,c,e,h2,h3,h4⟩:=hO;refine⟨by rw[h1,g4];rfl,c,e,h2,h3,?_⟩;have:=bo.wk _ _ _ _ (bo.take p.2.length _ _ _ _ h4);rw[g5]at this;exact this
   |mp b=>exact OR.part g4 g5 hO
  exact this.dat λb hb=> .inl hb
 ·intro j j' o o' B B' b h1 h2 h3 h4 h5 h6;have⟨k,p,q,g1,_,_,g3,_⟩:=look j o h1;have⟨k',p',q',g1',_,_,g3',_⟩:=look j' o' h2;rw[hb0 j k g1]at h3;rw[hb0 j' k' g1']at h4;have:=h.gj k k' q q' B B' b g3 g3' h3 h4 h5 h6;subst this;exact O6 hnd g1 g1'
 ·intro j o B b h1 h2 h5;have⟨k,p,q,g1,_,_,g3,_⟩:=look j o h1;have h2':=h2;rw[hb0 j k g1]at h2;have⟨a1,a2,_⟩:=h.ownB k q B b g3 h2 h5;refine⟨?_,a2,.inl ⟨j,B,h2',h5⟩⟩;rintro (hI |⟨k',o',s',n',e1,e2,e3⟩)
  ·exact a1 hI
  ·have:=h.lv k k' q o' b g3 e2 ⟨B,h2,h5⟩ (.at e3);subst this;exact BT _ e1 (dh g1)
 ·exact Ma h _
 ·exact λb hb=> .inl hb
 ·exact λ_ _ _=>rfl
 ·exact aC _
 ·rfl
 ·rfl
 ·rfl
 ·intro j B hj;simp only[mY]at hj;split at hj
  ·exact hj
  ·cases hj
 ·exact h.vars.mono (λ _ _=>rfl) (λ b hb=> .inl hb)
theorem Mem.DD(h:Mem P w0 O0 β I obj w){ae cT:List Nat}{os':List (Option fe)}{w':World}{I1 I2:Nat->Prop}{wx:Nat->Option aS}
 (hM:Mem P w (mY (βc ae β) (fL β obj cT I)) (βc ae β) I1 (Cb os') w') (hI:∀b,I b->I2 b) (hI1:∀b,I2 b->I1 b) (kq:∀k∈ae,∃o,obj k=some o)
 (ho:∀k o,wx k=some o->(∃ j,ae[j]? =some k/\Cb os' j=some o/\∀B,OR P (βc ae β) w' I1 o B->OR P β w' I2 o B)\/(k∉ae/\obj k=some o/\∀b,fh β k b->¬I2 b)):
 Same I w w'/\Mem P w0 O0 β I2 wx w'/\(∀ b,UQ (βc ae β) b->¬I b/\(O0.own b\/w0.heap.size<=b))/\∀k o b,k∉ae->obj k=some o->fh β k b->¬UQ (βc ae β) b:=by
 have hb0:∀j k,ae[j]? =some k->βc ae β j=β k:=λj k hk=>by simp[βc,hk]
 have hown:∀b,UQ (βc ae β) b->∃k o,k∈ae/\obj k=some o/\fh β k b:=by
  rintro b ⟨j,B,hj,hB⟩;have⟨k,h1,h2⟩:=Mc hj;have⟨o,h3⟩:=kq k (dh h1);exact⟨k,o,dh h1,h3,B,h2,hB⟩
 have hold:∀k o,wx k=some o->∃q,obj k=some q:=by
  intro k o hk;rcases ho k o hk with ⟨j,h1,_⟩ |⟨_,h2,_⟩
  ·exact kq k (dh h1)
  ·exact⟨o,h2⟩
 have hapart:∀k o b,k∉ae->obj k=some o->fh β k b->¬UQ (βc ae β) b:=by
  intro k o b hk h1 h2 hb;have⟨k',o',g1,g2,g3⟩:=hown b hb;have:=h.lv k k' o o' b h1 g2 h2 g3;subst this;exact hk g1
 have hS:Same I w w':=λb hb=>hM.keep b (h.lt b hb) (λ hb'=>by
  have⟨k',o',g1,g2,g3⟩:=hown b hb';exact(h.iv k' o' b g2 g3).1 hb)
 refine⟨hS,?_,λb hb=>?_,hapart⟩
 ·constructor
  ·intro k o hk;rcases ho k o hk with ⟨j,h1,h2,h3⟩ |⟨h1,h2,h3⟩
   ·have⟨B,hB,hO⟩:=hM.cE j o h2;exact⟨B,by rw[<- hb0 j k h1];exact hB,h3 B hO⟩
   ·have⟨B,hB,hO⟩:=h.cE k o h2;refine⟨B,hB,OR.mono (λ _ _ h=>h) hS hI (λ b e=>hM.keep b (h.ownB k o B b h2 hB e).2.1 (hapart k o b h1 h2 ⟨B,hB,e⟩)) hO⟩
  ·intro k k' o o' B B' b h1 h2;have⟨q,e1⟩:=hold k o h1;have⟨q',e2⟩:=hold k' o' h2;exact h.gj k k' q q' B B' b e1 e2
  ·intro k o B b h1 h2 h5;have⟨q,e1⟩:=hold k o h1;have⟨a1,a2,a3⟩:=h.ownB k q B b e1 h2 h5;refine⟨?_,Nat.lt_of_lt_of_le a2 hM.le,a3⟩;rcases ho k o h1 with ⟨j,g1,g2,_⟩ |⟨_,_,g3⟩
   ·exact λhb=>(hM.ownB j o B b g2 (by rw[hb0 j k g1];exact h2) h5).1 (hI1 b hb)
   ·exact g3 b ⟨B,h2,h5⟩
  ·exact λb hb=>hM.lt b (hI1 b hb)
  ·intro b hb;rcases hM.up b (hI1 b hb)with (g |⟨k',o',s',n',_,g2,g3⟩) |g |g
   ·exact h.up b g
   ·exact .inr (h.own k' o' b s' n' g2 g3).2.2
   ·have⟨k',o',_,g2,g3⟩:=hown b g;exact .inr (h.iv k' o' b g2 g3).2.2
   ·exact .inr (.inr (Nat.le_trans h.le g))
  ·intro b hb hno;refine(hM.keep b (Nat.lt_of_lt_of_le hb h.le) (λ hb'=>?_)).trans (h.keep b hb hno);have⟨k',o',_,g2,g3⟩:=hown b hb';rcases (h.iv k' o' b g2 g3).2.2 with g |g
   ·exact hno g
   ·omega
  ·exact Nat.le_trans h.le hM.le
  ·exact hM.os.trans h.os
  ·exact hM.tape.trans h.tape
  ·exact hM.output.trans h.output
  ·exact h.anch
  ·exact h.vars.mono hS hI
 ·have⟨k',o',_,g2,g3⟩:=hown b hb;exact⟨(h.iv k' o' b g2 g3).1,(h.iv k' o' b g2 g3).2.2⟩
mutual
theorem aaG{get:Nat->Option aS}{ae:List Nat}:∀{x:AV}{hs:List LH}{p:AV×List LH×List Prop},oH P get ae x hs=some p->(∀ q∈p.2.2,q)->gC P get ae x p.1:=by
 intro x hs p h ho;unfold oH at h;split at h
 ·split at h
  ·cases h;exact gC.base _ _ _ (.inl ⟨_,_,_,_,‹_›,rfl,rfl⟩)
  ·cases h
 ·split at h
  ·cases h;exact gC.base _ _ _ (.inr (.inl ⟨_,_,_,_,‹_›,rfl,rfl⟩))
  ·cases h
 ·split at h
  ·cases h;exact gC.base _ _ _ (.inr (.inr (.inl ⟨_,_,‹_›,rfl,rfl⟩)))
  ·cases h
 ·rename_i cs hs;simp only[ai,aA]at h;obtain⟨q,h1,rfl⟩:=h;simp only[gC];exact .inl (mZ h1 (λ y hy=>ho y (by simp[hy])))
 ·split at h
  ·rename_i hd;refine gC.base _ _ _ (.inr (.inr (.inr ⟨λ k hk=>by simpa using all_eq_true.1 hd k (by simpa[refs]using hk),Dr _ _ _ h ho⟩)))
  ·cases h
 ·rename_i F first caps hs
  simp only[ai,aA]at h;obtain⟨q,h1,q',h2,rfl⟩:=h;simp only[gC];exact .inl ⟨trivial,mZ h1 (λ y hy=>ho y (by simp[hy])),mZ h2 (λ y hy=>ho y (by simp[hy]))⟩
 ·split at h
  ·rename_i hd;refine gC.base _ _ _ (.inr (.inr (.inr ⟨λ k hk=>by simpa using all_eq_true.1 hd k hk,Dr _ _ _ h ho⟩)))
  ·cases h
theorem mZ{get:Nat->Option aS}{ae:List Nat}:∀{xs:List AV}{hs:List LH}{p:List AV×List LH×List Prop},lU P get ae xs hs=some p->(∀ q∈p.2.2,q)->ft P get ae xs p.1
 |[],hs,p,h,_=>by simp only[lU,aA]at h;subst h;trivial
 |x::xs,hs,p,h,ho=>by
  simp only[lU,ai,aA]at h;obtain⟨q,h1,q',h2,rfl⟩:=h;exact⟨aaG h1 (λ y hy=>ho y (by simp[hy])),mZ h2 (λ y hy=>ho y (by simp[hy]))⟩
end
theorem ml.sound(h:Mem P w0 O0 β I obj w){get:Nat->Option aS}(hg:∀k o,get k=some o->obj k=some o){ae:List Nat}(cT:List Nat){x y:AV}{v:Value}(hk:∀k,k∈refs x->k∉ae->k∈cT)(hb:ml P get ae x y)(hv1:VR P β w I x v):VR P (βc ae β) w (fL β obj cT I) y v:=by
 rcases hb with ⟨j,k,aa,len,e1,rfl,rfl⟩ |⟨j,k,row,aa,e1,rfl,rfl⟩ |⟨j,k,e1,rfl,rfl⟩ |⟨e1,e2⟩
 ·simp only[VR]at hv1 ⊢;have:βc ae β j=β k:=by simp[βc,e1]
  rw[this];exact hv1
 ·simp only[VR]at hv1 ⊢;have:βc ae β j=β k:=by simp[βc,e1]
  rw[this];exact hv1
 ·simp only[VR]at hv1 ⊢;have:βc ae β j=β k:=by simp[βc,e1]
  rw[this];exact hv1
 ·have:=fx.sound h cT x y v (λ k hk'=>hk k hk' (e1 k hk')) (fx.weaken hg x y e2) hv1;exact VR.mono (λ k B h=>by simp[ma]at h) (λ _ _=>rfl) (λ _ h=>h) _ _ this
mutual
theorem gC.sound(h:Mem P w0 O0 β I obj w){get:Nat->Option aS}(hg:∀k o,get k=some o->obj k=some o){ae:List Nat}(cT:List Nat):∀(x y:AV)(v:Value),(∀ k,k∈refs x->k∉ae->k∈cT)->gC P get ae x y->VR P β w I x v->VR P (βc ae β) w (fL β obj cT I) y v:=by
 intro x y v hk hb hv;unfold gC at hb;split at hb
 ·rcases hb with ⟨rfl,h1,h2⟩ |hb
  ·simp only[VR]at hv ⊢;obtain⟨fs,cs,e,g1,g2⟩:=hv;exact⟨fs,cs,e,ft.sound h hg cT _ _ _ (λ k hk'=>hk k (by simp[refs,hk'])) h1 g1,ft.sound h hg cT _ _ _ (λ k hk'=>hk k (by simp[refs,hk'])) h2 g2⟩
  ·exact ml.sound h hg cT hk hb hv
 ·rcases hb with h1 |hb
  ·simp only[VR]at hv ⊢;obtain⟨vs,e,g1⟩:=hv;exact⟨vs,e,ft.sound h hg cT _ _ _ (λ k hk'=>hk k (by simpa[refs]using hk')) h1 g1⟩
  ·exact ml.sound h hg cT hk hb hv
 ·exact ml.sound h hg cT hk hb hv
theorem ft.sound(h:Mem P w0 O0 β I obj w){get:Nat->Option aS}(hg:∀k o,get k=some o->obj k=some o){ae:List Nat}(cT:List Nat):∀(xs ys:List AV)(vs:List Value),(∀ k,k∈eT xs->k∉ae->k∈cT)->ft P get ae xs ys->aE P β w I xs vs->aE P (βc ae β) w (fL β obj cT I) ys vs
 |[],[],[],_,_,_=>by simp[aE]
 |x::xs,y::ys,v::vs,hk,hb,hv=>by
  simp only[aE]at hv ⊢;exact⟨gC.sound h hg cT x y v (λ k hk'=>hk k (by simp[eT,hk'])) hb.1 hv.1,ft.sound h hg cT xs ys vs (λ k hk'=>hk k (by simp[eT,hk'])) hb.2 hv.2⟩
 |[],_::_,_,_,hb,_=>hb.elim
 |_::_,[],_,_,hb,_=>hb.elim
 |[],[],_::_,_,_,hv=>by simp[aE]at hv
 |_::_,_::_,[],_,_,hv=>by simp[aE]at hv
end
theorem acC{os':List (Option fe)}{j:Nat}{o:aS}(h:Cb os' j=some o):∃p,some p∈os'/\o=gA p:=by
 simp only[Cb,dK,Option.join_eq_some_iff]at h;obtain⟨p,hp,rfl⟩:=h;exact⟨p,dh hp,rfl⟩
theorem acD(h:Mem P w0 O0 β I obj w)(hn:β (cJ i)=none){ae cT:List Nat}{os':List (Option fe)}{rv:RV}{p:AV×List (Nat×Option aS)}{keep:Bool}(hp:imp i ae rv=some p)(hk:keep=true->rv.flat/\UR os')
 (hnd:ae.Nodup) (hlen:os'.length=ae.length) (kq:∀k∈ae,∃o,obj k=some o)
 {w':World} {I1:Nat->Prop} {v:Value} (hM:Mem P w (mY (βc ae β) (fL β obj cT I)) (βc ae β) I1 (Cb os') w') (h1:∀b,fL β obj cT I b->I1 b) (hr:rm P (Ax w (βc ae β) os') (βc ae β) rv w' I1 v):
 ∃ β' I',Step β I w (cJ i) β' I' w'/\Mem P w0 O0 β' I' (cK obj (p.2++(Au ae os'++if keep then []else cT.map (λ k=>(k,none))))) w'/\VR P β' w' I' p.1 v:=by
 have look:∀g k o,cK obj (Au ae os'++g) k=some o->(∃ j,ae[j]? =some k/\Cb os' j=some o)\/(k∉ae/\cK obj g k=some o):=by
  intro g k o hk;by_cases hki:k∈ae
  ·obtain⟨j,hj⟩:=List.getElem?_of_mem hki;rw[Zn hnd hlen hj]at hk;exact .inl ⟨j,hj,hk⟩
  ·rw[aiq hki]at hk;exact .inr ⟨hki,hk⟩
 have main:∀(g:List (Nat×Option aS))(I2:Nat->Prop),(∀ k o,cK obj g k=some o->obj k=some o)->(∀ b,I b->I2 b)->(∀ b,I2 b->I1 b)->(∀ j o B,Cb os' j=some o->OR P (βc ae β) w' I1 o B->OR P β w' I2 o B)->
  (∀ k o b,k∉ae->cK obj g k=some o->fh β k b->¬I2 b)->rm P (Ax w (βc ae β) os') (βc ae β) rv w' I2 v->
  ∃ β' I',Step β I w (cJ i) β' I' w'/\Mem P w0 O0 β' I' (cK obj (p.2++(Au ae os'++g))) w'/\VR P β' w' I' p.1 v:=by
  intro g I2 hg hI hI1 hor HB hr2;obtain⟨hS,hM2,hown,hapart⟩:=h.DD (wx:=cK obj (Au ae os'++g)) hM hI hI1 kq (λ k o hk=>by
   rcases look g k o hk with ⟨j,e1,e2⟩ |⟨e1,e2⟩
   ·exact .inl ⟨j,e1,e2,λB=>hor j o B e2⟩
   ·exact .inr ⟨e1,hg k o e2,λb e3=>HB k o b e1 e2 e3⟩)
  obtain⟨β',k1,k2,k3⟩:=O5 (ae:=ae) (F:=Ax w (βc ae β) os') (βc:=βc ae β) hM2 hn (λ k o b e1 e2 hb=>by
   rcases look g k o e1 with ⟨j,e3,e4⟩ |⟨e3,e4⟩
   ·exact hb.2 j o e4 (by obtain⟨B,e5,e6⟩:=e2;exact⟨B,by simp[βc,e3,e5],e6⟩)
   ·rcases hb.1 with hb |hb
    ·exact hapart k o b e3 (hg k o e4) e2 hb
    ·have:=(h.iv k o b (hg k o e4) e2).2.1;omega) (λ b hb=>by
   rcases hb.1 with hb |hb
   ·exact(hown b hb).2
   ·exact .inr (Nat.le_trans h.le hb)) (λ j B hj=>Mc hj) hp hr2
  refine⟨β',I2,⟨k1.other,k1.ext,hS,hI⟩,?_,k3⟩;have e:cK obj (p.2++(Au ae os'++g))=cK (cK obj (Au ae os'++g)) p.2:=funext λk=>rJ obj _ _ k;rw[e];exact k2
 cases keep with
 |true=>
  have⟨hf1,hf2⟩:=hk rfl;exact main [] I (λ _ _ h=>h) (λ _ h=>h) (λ b hb=>h1 b (.inl hb)) (λ j o B hj hO=>by
   obtain⟨q,hq,rfl⟩:=acC hj;exact OR.flat (hf2 q hq) hO) (λ k o b _ e1 e2=>(h.iv k o b e1 e2).1) (rm.flat hf1 (λ b hb=>h1 b (.inl hb)) hr)
 |false=>
  have hsub:∀k o,cK obj (cT.map λk=>(k,none)) k=some o->obj k=some o/\k∉cT:=by
   intro k o hk;rw[xW]at hk;split at hk
   ·cases hk
   ·exact⟨hk,‹_›⟩
  refine main _ I1 (λ k o hk=>(hsub k o hk).1) (λ b hb=>h1 b (.inl hb)) (λ _ h=>h) (λ j o B hj hO=>by
   obtain⟨q,hq,rfl⟩:=acC hj;exact OR.dat (λ _ h=>h) hO) (λ k o b hki e1 e2 hb=>?_) hr
  have⟨f1,f2⟩:=hsub k o e1;have⟨a1,a2,_⟩:=h.iv k o b f1 e2;rcases hM.up b hb with (g |⟨k',o',s',n',g1,g2,g3⟩) |⟨j,B',g,g'⟩ |g
  ·exact a1 g
  ·have:=h.lv k k' o o' b f1 g2 e2 (.at g3);subst this;exact f2 g1
  ·have⟨k',g1,g2⟩:=Mc g;have⟨o',g3⟩:=kq k' (dh g1);have:=h.lv k k' o o' b f1 g3 e2 ⟨B',g2,g'⟩;subst this;exact hki (dh g1)
  ·omega
theorem UU(h:Mem P w0 O0 β I obj w)(hn:β (cJ i)=none){f:AV}{args:List AV}{cw:i8}{get:Nat->Option aS}{ab:Out}(hg:∀k o,get k=some o->obj k=some o)
 {fv:Value} {vs:Array Value} {al:Array Operand} {fo:Operand} {r:Operand->Value} (ha:Gz P i f args cw get=some ab) (cM:ab.ob) (hf:VR P β w I f fv) (hv:aE P β w I args vs.toList) (hfo:r fo=fv) (hops:vs=al.map r)
 {dst:Option Tmp} {ao:String} {after:Array Edge} {guard:Option (Nat×Bool)} {ty:TypeId} {cQ:Array TypeId}:
 zN P w0 O0 β I obj w i ab ((execOp r ⟨dst,.call { callee:= .value fo,args:=al,argTypes:=cQ },ty,ao,after,guard⟩).run P w):=by
 unfold Gz at ha;split at ha
 ·rename_i F first caps ae os os' hs rv keep
  split at ha
  ·rename_i hc;obtain⟨hnd,hlen⟩:=hc;cases hp:imp i ae rv with
   |none=>simp[hp]at ha
   |some p=>
   cases hmo:Ar get ae os with
   |none=>simp[hp,hmo]at ha
   |some mo=>
   cases hq:lU P get ae (first++args++caps) hs with
   |none=>simp only[hp,hmo,hq,af,Option.bind_none,reduceCtorEq]at ha
   |some q=>
   simp only[hp,hmo,hq,af]at ha;simp only[VR]at hf;obtain⟨fs,cs,rfl,hf1,hf2⟩:=hf;have hout:(∀ x∈q.2.2++mo,x)/\qn P F q.1 os os' rv/\(keep=true->rv.flat/\UR os')/\ab.v=p.1/\ab.upd=p.2++(Au ae os'++if keep then []else(Gy (first++args++caps) ae).map (λ k=>(k,none))):=by
    cases keep with
    |true=>
     simp only[if_true,aA]at ha;subst ha;have cM:=qj _ cM;exact⟨λ x hx=>cM x (by simp only[bf]at hx ⊢;exact .inl hx),cM (qn P F q.1 os os' rv) (by simp),λ_=>⟨cM rv.flat (by simp),cM (UR os') (by simp)⟩,rfl,by simp⟩
    |false=>
     simp only[Bool.false_eq_true,if_false,aA]at ha;subst ha;have cM:=qj _ cM;exact⟨λ x hx=>cM x (by simp only[bf]at hx ⊢;exact .inl hx),cM (qn P F q.1 os os' rv) (by simp),λh=>(by cases h),rfl,by simp⟩
   obtain⟨o1,o2,o3,o4,o5⟩:=hout;obtain⟨⟨fn,e1,e2,e3⟩,hcon⟩:=o2;obtain⟨hl2,hmm⟩:=QW hmo (λ x hx=>o1 x (by simp[hx]));have hmm':∀(j:Nat) k p,ae[j]? =some k->os[j]? =some p->∃o,obj k=some o/\o.sz=p.1/\dW (o.rows.take p.2.length)=aI p.2:=λj k p h1 h2=>by
    have⟨o,g1,g2⟩:=hmm j k p h1 h2;exact⟨o,hg k o g1,g2⟩
   have kq:∀k∈ae,∃o,obj k=some o:=by
    intro k hk;obtain⟨j,hj⟩:=List.getElem?_of_mem hk;have hjl:j<os.length:=(by rw[<- hl2];exact(dF.1 hj).1);obtain⟨o,g,_⟩:=hmm' j k _ hj (dI hjl);exact⟨o,g⟩
   have So:∀k∈Gy (first++args++caps) ae,k∉ae:=λk hk=>by
    simp only[Gy,List.mem_filter]at hk;simpa using hk.2
   have hM:=h.handed (cT:=Gy (first++args++caps) ae) hnd hl2 hmm' So;have hall:aE P β w I (first++args++caps) (fs++vs++cs).toList:=by
    simp only[Array.toList_append];exact aE.append _ _ _ _ (aE.append _ _ _ _ hf1 hv) hf2
   have pd:=ft.sound h hg (Gy (first++args++caps) ae) _ _ _ (λ k hk hn=>by simp only[Gy,List.mem_filter];exact⟨hk,by simpa using hn⟩) (mZ hq (λ x hx=>o1 x (by simp[hx]))) hall;refine⟨F,fs++vs++cs,?_,(hcon w _ _ _ (λ k hk=>?_) hM pd).mono ?_⟩
   ·have hb:¬fn.body=none:=(by cases hh:fn.body<;>simp[hh]at e2 ⊢);have e3' : ¬ fn.name = "runtime.NumGoroutine" := (by simpa using e3);simp[execOp,resolve,hfo,<- hops,Deferred.ofValue,invoke,callFunc,e1,e3',hb]
   ·simp[βc,List.getElem?_eq_none (show ae.length<=k by omega)]
   ·rintro e w' ⟨v',I1,rfl,g1,g2,g3⟩;have⟨β',I',k1,k2,k3⟩:=acD (keep:=keep) h hn hp o3 hnd hlen kq g1 g2 g3;exact⟨v',β',I',rfl,k1,by rw[o5];exact k2,by rw[o4];exact k3⟩
  ·cases ha
 ·cases ha
theorem UW(h:Mem P w0 O0 β I obj w)(hn:β (cJ i)=none){f:AV}{args:List AV}{cw:i8}{get:Nat->Option aS}{ab:Out}(hg:∀k o,get k=some o->obj k=some o)
 {fv:Value} {vs:Array Value} {al:Array Operand} {fo:Operand} {r:Operand->Value} (ha:oI P i f args cw get=some ab) (cM:ab.ob) (hf:VR P β w I f fv) (hv:aE P β w I args vs.toList) (hfo:r fo=fv) (hops:vs=al.map r)
 {dst:Option Tmp} {ao:String} {after:Array Edge} {guard:Option (Nat×Bool)} {ty:TypeId} {cQ:Array TypeId}:
 zN P w0 O0 β I obj w i ab ((execOp r ⟨dst,.call { callee:= .value fo,args:=al,argTypes:=cQ },ty,ao,after,guard⟩).run P w):=by
 unfold oI at ha;split at ha
 ·exact UU h hn hg ha cM hf hv hfo hops
 ·exact Yl h hn hg ha cM hf hv hfo hops
end
end Go.Gb
