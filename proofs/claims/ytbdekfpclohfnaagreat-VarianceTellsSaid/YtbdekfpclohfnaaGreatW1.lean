import GoSem.Claims
import Derived.Calls
import Derived.Below
import Derived.Orders
import Derived.Laws.Cells
import Derived.Laws.AppendOwn
import Derived.Laws.StructEq
import Derived.Laws.Build
import Derived.WalkKit
open Go.IntKind (i64)
open List (length_take all_eq_true cons_append length_drop map_map flatten_cons)
namespace Go
universe u v
theorem ai{α:Sort u}(a b:α):cond true a b=a:=rfl
theorem ak{α:Sort u}(a b:α):cond false a b=b:=rfl
theorem ah{α:Type u}{β:Type v}(a:α)(f:α->Option β):(some a).bind f=f a:=rfl
theorem aG{p:Prop}[Decidable p]:(decide p=true)=p:=_root_.decide_eq_true_eq
theorem dn{p:Prop}{_:Decidable p}:decide p=false↔¬p:=_root_.decide_eq_false_iff_not
theorem aC{α:Type u}(a b:α):(some a=some b)=(a=b):=Option.some.injEq a b
theorem aD(a b:Bool):((a&&b)=true)=(a=true/\b=true):=Bool.and_eq_true a b
theorem eu{a b:Bool}:a=b↔(a=true↔b=true):=Bool.eq_iff_iff
theorem bW{α:Type u}{a b:List α}:(a++b).length=a.length+b.length:=List.length_append
theorem aN{α:Type u}(a b c:List α):a++b++c=a++(b++c):=List.append_assoc a b c
theorem iw{α:Type u}{a:α}:¬a∈([]:List α):=List.not_mem_nil
theorem aM{c:Prop}{h:Decidable c}(hnc:¬c){α:Sort u}{t e:α}:(if c then t else e)=e:=_root_.if_neg hnc
theorem aP{c:Prop}{h:Decidable c}(hc:c){α:Sort u}{t e:α}:(if c then t else e)=t:=_root_.if_pos hc
theorem aW{α:Type u}{a b:α}:a∈[b]↔a=b:=List.mem_singleton
theorem dI{α:Type u}{l:List α}{i:Nat}(h:i<l.length):l[i]? =some l[i]:=List.getElem?_eq_getElem h
theorem fO{α:Type u}{a b:List α}{i:Nat}(h:a.length<=i):(a++b)[i]? =b[i -a.length]? :=List.getElem?_append_right h
theorem fe{α:Type u}{i:Nat}{a:α}{l:List α}:l[i]? =some a↔∃h:i<l.length,l[i]=a:=List.getElem?_eq_some_iff
theorem eD{α:Type u}{l:List α}{i:Nat}{a:α}(h:l[i]? =some a):a∈l:=List.mem_of_getElem? h
theorem fq{α:Type u}{b:α}{Se:Type v}{x:Option Se}{f:Se->α}:Option.map f x=some b↔∃a,x=some a/\f a=b:=Option.map_eq_some_iff
theorem dG{α:Type u}{i:Nat}{l:List α}(h:i<l.length):List.take (i+1) l=List.take i l++[l[i]]:=List.take_succ_eq_append_getElem h
theorem dD{α:Type u}(y:α){a:α}{l:List α}(h:a∈l):a∈y::l:=List.mem_cons_of_mem y h
theorem aT(n:Nat):n<=n:=Nat.le_refl n
theorem bH{α:Type u}{a:α}{l:List α}:(a::l).length=l.length+1:=rfl
theorem aF{α:Type u}{β:Type v}{f:α->β}{a:α}{l:List α}:List.map f (a::l)=f a::List.map f l:=rfl
theorem aK{α:Type u}{b:α}{l:List α}{a:α}:a∈b::l↔a=b\/a∈l:=List.mem_cons
theorem bI{α:Type u}(l:List α):[]++l=l:=rfl
theorem bf{α:Type u}{a:α}{s t:List α}:a∈s++t↔a∈s\/a∈t:=List.mem_append
theorem MI{p:Prop}(h:¬p->False):p:=Classical.byContradiction h
end Go
namespace Go
theorem aj{α:Type _}{β:Type _}{b:β}{x:Option α}{f:α->Option β}:x.bind f=some b↔∃ a,x=some a/\f a=some b:=Option.bind_eq_some_iff
end Go
namespace Go.Gb
def rK:Nat->Option (List Value):=λ_=>none
open Go.RowKit
inductive Tree where
 |sc (v:Value)
 |sl (rows:List (List Tree))
inductive TV where
 |s (x:Tree)
 |a (cs:List Tree)
inductive AV where
 |t (x:Tree)
 |agg (cs:List AV)
 |ey (vs:List AV)
 |own (k:Nat) (ae len:Nat)
 |ptr (k:Nat) (row ae:Nat)
 |du (row:List Tree) (ae:Nat)
 |fn (f:FuncId) (first caps:List AV)
 |c6 (φ:List TV->TV->Prop)
 |mp (k:Nat)
 |cG
 |ub
 |undef
structure aX where
 sz:Nat
 rows:List (List AV)
inductive cA where
 |none
 |at (b sz n:Nat)
 |mp (b:Nat)
@[simp] def cA.num:cA->Option Nat
 | .none=>Option.none
 | .at b _ _=>some b
 | .mp b=>some b
def oneCell:Value->Prop
 | .agg _ | .tuple _=>False
 |_=>True
section
variable (w:World) (I:Nat->Prop)
mutual
def TR:Tree->Value->Prop
 | .sc v,u=>u=v/\oneCell v
 | .sl rows,u=>(rows=[]/\∃a cap,u= .slice a 0 cap/\(a=none->cap=0))\/∃b ae cap sz,u= .slice (some ⟨b,ae,none⟩) rows.length cap/\rows.length<=cap/\I b/\cj rows b ae sz
def cj:List (List Tree)->Nat->Nat->Nat->Prop
 |[],_,_,_=>True
 |r::rs,b,ae,sz=>r.length=sz/\de r b ae/\cj rs b (ae+sz) sz
def de:List Tree->Nat->Nat->Prop
 |[],_,_=>True
 |x::xs,b,ae=>(∃ c,w.cell? ⟨b,ae,none⟩=some c/\TR x c)/\de xs b (ae+1)
end
def en:List Tree->List Value->Prop
 |[],[]=>True
 |x::xs,v::vs=>TR w I x v/\en xs vs
 |_,_=>False
def pp:TV->Value->Prop
 | .s x,v=>TR w I x v
 | .a cs,v=>∃vs:Array Value,v= .agg vs/\en w I cs vs.toList
def jt:List TV->List Value->Prop
 |[],[]=>True
 |x::xs,v::vs=>pp w I x v/\jt xs vs
 |_,_=>False
end
def Same(I:Nat->Prop)(w w':World):Prop:=∀b,I b->w'.heap[b]? =w.heap[b]?
theorem Same.cell{I:Nat->Prop}{w w':World}(h:Same I w w'){b ae:Nat}(hb:I b):w'.cell? ⟨b,ae,none⟩=w.cell? ⟨b,ae,none⟩:=by simp only[World.cell?,h b hb]
mutual
theorem TR.mono{w w':World}{I I':Nat->Prop}(hs:Same I w w')(hi:∀b,I b->I' b):∀(x:Tree)(v:Value),TR w I x v->TR w' I' x v
 | .sc _,_,h=>by simpa[TR]using h
 | .sl rows,v,h=>by
  simp only[TR]at h ⊢;rcases h with h |⟨b,ae,cap,sz,h1,h2,h3,h4⟩
  ·exact .inl h
  ·exact .inr ⟨b,ae,cap,sz,h1,h2,hi _ h3,cj.mono hs hi rows b ae sz h3 h4⟩
theorem cj.mono{w w':World}{I I':Nat->Prop}(hs:Same I w w')(hi:∀b,I b->I' b):∀(rows:List (List Tree))(b ae sz:Nat),I b->cj w I rows b ae sz->cj w' I' rows b ae sz
 |[],_,_,_,_,_=>by simp[cj]
 |r::rs,b,ae,sz,hb,h=>by
  simp only[cj]at h ⊢;exact⟨h.1,de.mono hs hi r b ae hb h.2.1,cj.mono hs hi rs b (ae+sz) sz hb h.2.2⟩
theorem de.mono{w w':World}{I I':Nat->Prop}(hs:Same I w w')(hi:∀b,I b->I' b):∀(r:List Tree)(b ae:Nat),I b->de w I r b ae->de w' I' r b ae
 |[],_,_,_,_=>by simp[de]
 |x::xs,b,ae,hb,h=>by
  simp only[de]at h ⊢;obtain⟨⟨c,hc,hx⟩,h2⟩:=h;exact⟨⟨c,by rw[hs.cell hb];exact hc,TR.mono hs hi x c hx⟩,de.mono hs hi xs b (ae+1) hb h2⟩
end
theorem en.mono{w w':World}{I I':Nat->Prop}(hs:Same I w w')(hi:∀b,I b->I' b):∀(xs:List Tree)(vs:List Value),en w I xs vs->en w' I' xs vs
 |[],[],_=>trivial
 |x::xs,v::vs,h=>⟨TR.mono hs hi x v h.1,en.mono hs hi xs vs h.2⟩
 |[],_::_,h=>h.elim
 |_::_,[],h=>h.elim
theorem pp.mono{w w':World}{I I':Nat->Prop}(hs:Same I w w')(hi:∀b,I b->I' b):∀(x:TV)(v:Value),pp w I x v->pp w' I' x v
 | .s x,v,h=>TR.mono hs hi x v h
 | .a cs,_,⟨vs,h1,h2⟩=>⟨vs,h1,en.mono hs hi cs vs.toList h2⟩
theorem jt.mono{w w':World}{I I':Nat->Prop}(hs:Same I w w')(hi:∀b,I b->I' b):∀(xs:List TV)(vs:List Value),jt w I xs vs->jt w' I' xs vs
 |[],[],_=>trivial
 |x::xs,v::vs,h=>⟨pp.mono hs hi x v h.1,jt.mono hs hi xs vs h.2⟩
 |[],_::_,h=>h.elim
 |_::_,[],h=>h.elim
def gC(w:World)(I:Nat->Prop):Prop:=∀g row,rK g=some row->I g/\de w I (row.map Tree.sc) g 0
theorem gC.mono{w w':World}{I I':Nat->Prop}(hs:Same I w w')(hi:∀b,I b->I' b)(h:gC w I):gC w' I':=λg row hg=>
 ⟨hi g (h g row hg).1,de.mono hs hi _ g 0 (h g row hg).1 (h g row hg).2⟩
def Z3(w:World)(I:Nat->Prop)(R:World->(Nat->Prop)->Value->Prop)(e:Ending)(w':World):Prop:=
 ∃v I',e= .returned v/\Below w.heap.size w w'/\(∀ b,I b->I' b)/\(∀ b,I' b->b<w'.heap.size)/\(∀ b,I' b->I b\/w.heap.size<=b)/\R w' I' v
def nj(P:Program)(w:World)(I:Nat->Prop)(φ:List TV->TV->Prop)(v:Value):Prop:=
 ∃(f:FuncId)(first caps:Array Value),v= .func (.func f) first caps/\
  (∀ fn, P.funcs[f]? = some fn -> fn.body.isSome = true /\ (fn.name == "runtime.NumGoroutine") = false) /\ (P.funcs[f]?).isSome = true /\
  ∀(w':World)(I':Nat->Prop)(args:List TV)(vs:Array Value)(r:TV),(∀ b,I b->I' b)->Same I w w'->(∀ b,I' b->b<w'.heap.size)->
   φ args r->jt w' I' args vs.toList->Calls P f (first++vs++caps) w' (Z3 w' I' λw'' zd u=>pp w'' zd r u)
section
variable (P:Program) (β:Nat->Option cA) (w:World) (I:Nat->Prop)
mutual
def VR:AV->Value->Prop
 | .t x,v=>TR w I x v
 | .agg cs,v=>∃vs:Array Value,v= .agg vs/\be cs vs.toList
 | .ey cs,v=>∃vs:Array Value,v= .tuple vs/\be cs vs.toList
 | .own k ae len,v=>(β k=some .none/\v= .slice none 0 0/\ae=0/\len=0)\/
  ∃b sz n cap o,β k=some (.at b sz n)/\v= .slice (some ⟨b,o,none⟩) len cap/\len<=cap/\(ae+cap)*sz<=n/\(cap≠0->o=ae*sz)
 | .ptr k row ae,v=>∃b sz n,β k=some (.at b sz n)/\v= .pointer (some ⟨b,row*sz+ae,none⟩)
 | .du row ae,v=>∃b o,v= .pointer (some ⟨b,o+ae,none⟩)/\I b/\de w I row b o
 | .fn f first caps,v=>∃fs cs:Array Value,v= .func (.func f) fs cs/\be first fs.toList/\be caps cs.toList
 | .c6 φ,v=>nj P w I φ v
 | .mp k,v=>∃b,β k=some (.mp b)/\v= .map (some b)
 | .cG,v=>v= .slice none 0 0
 | .ub,v=>∃b,v= .bool b
 | .undef,_=>True
def be:List AV->List Value->Prop
 |[],[]=>True
 |x::xs,v::vs=>VR x v/\be xs vs
 |_,_=>False
end
def cI:List AV->Array Value->Nat->Prop
 |[],_,_=>True
 |x::xs,c,ae=>(∃ v,c[ae]? =some v/\VR P β w I x v/\oneCell v)/\cI xs c (ae+1)
def bo:List (List AV)->Array Value->Nat->Nat->Prop
 |[],_,_,_=>True
 |r::rs,c,ae,sz=>r.length=sz/\cI P β w I r c ae/\bo rs c (ae+sz) sz
def co:List (List AV)->List MapEntry->Prop
 |[],[]=>True
 |r::rs,e::es=>be P β w I r [e.key,e.val]/\co rs es
 |_,_=>False
def OR(o:aX):cA->Prop
 | .none=>o.rows=[]
 | .mp b=>∃es clock,w.heap[b]? =some (.map es clock)/\o.rows.length<=o.sz/\(o.sz=o.rows.length->co P β w I o.rows es.toList)/\(es.toList.map (·.born)).Nodup/\∀e∈es.toList,e.born<clock
 | .at b sz n=>sz=o.sz/\∃c e,w.heap[b]? =some (.cells c e (0,0))/\c.size=n/\bo P β w I o.rows c 0 sz
end
theorem nj.mono{P:Program}{w w':World}{I I':Nat->Prop}(hs:Same I w w')(hi:∀b,I b->I' b){φ:List TV->TV->Prop}{v:Value}(h:nj P w I φ v):nj P w' I' φ v:=by
 obtain⟨f,first,caps,h1,h2,h3,h4⟩:=h;exact⟨f,first,caps,h1,h2,h3,λw2 I2 args vs r hi2 hs2 hlt hφ ha=>h4 w2 I2 args vs r (λ b h=>hi2 b (hi b h)) (λ b h=>(hs2 b (hi b h)).trans (hs b h)) hlt hφ ha⟩
mutual
theorem VR.mono{P:Program}{β β':Nat->Option cA}{w w':World}{I I':Nat->Prop}(hb:∀k B,β k=some B->β' k=some B)(hs:Same I w w')(hi:∀b,I b->I' b):∀(x:AV)(v:Value),VR P β w I x v->VR P β' w' I' x v
 | .t x,v,h=>by simp only[VR]at h ⊢;exact TR.mono hs hi x v h
 | .agg cs,v,h=>by
  simp only[VR]at h ⊢;obtain⟨vs,h1,h2⟩:=h;exact⟨vs,h1,be.mono hb hs hi cs vs.toList h2⟩
 | .ey cs,v,h=>by
  simp only[VR]at h ⊢;obtain⟨vs,h1,h2⟩:=h;exact⟨vs,h1,be.mono hb hs hi cs vs.toList h2⟩
 | .own k ae len,v,h=>by
  simp only[VR]at h ⊢;rcases h with ⟨h1,h2⟩ |⟨b,sz,n,cap,o,h1,h2⟩
  ·exact .inl ⟨hb _ _ h1,h2⟩
  ·exact .inr ⟨b,sz,n,cap,o,hb _ _ h1,h2⟩
 | .ptr k row ae,v,h=>by
  simp only[VR]at h ⊢;obtain⟨b,sz,n,h1,h2⟩:=h;exact⟨b,sz,n,hb _ _ h1,h2⟩
 | .du row ae,v,h=>by
  simp only[VR]at h ⊢;obtain⟨b,o,h1,h2,h3⟩:=h;exact⟨b,o,h1,hi _ h2,de.mono hs hi row b o h2 h3⟩
 | .fn f first caps,v,h=>by
  simp only[VR]at h ⊢;obtain⟨fs,cs,h1,h2,h3⟩:=h;exact⟨fs,cs,h1,be.mono hb hs hi first fs.toList h2,be.mono hb hs hi caps cs.toList h3⟩
 | .c6 φ,v,h=>by simp only[VR]at h ⊢;exact nj.mono hs hi h
 | .mp k,v,h=>by
  simp only[VR]at h ⊢;obtain⟨b,h1,h2⟩:=h;exact⟨b,hb _ _ h1,h2⟩
 | .cG,v,h=>by simpa[VR]using h
 | .ub,v,h=>by simpa[VR]using h
 | .undef,_,_=>by simp[VR]
theorem be.mono{P:Program}{β β':Nat->Option cA}{w w':World}{I I':Nat->Prop}(hb:∀k B,β k=some B->β' k=some B)(hs:Same I w w')(hi:∀b,I b->I' b):∀(xs:List AV)(vs:List Value),be P β w I xs vs->be P β' w' I' xs vs
 |[],[],_=>by simp[be]
 |x::xs,v::vs,h=>by simp only[be]at h ⊢;exact⟨VR.mono hb hs hi x v h.1,be.mono hb hs hi xs vs h.2⟩
 |[],_::_,h=>by simp[be]at h
 |_::_,[],h=>by simp[be]at h
end
def wk:AV->AV
 | .cG=> .t (.sl [])
 |x=>x
def dX(rows:List (List AV)):List (List AV):=rows.map λr=>r.map wk
theorem VR.wk{P:Program}{β:Nat->Option cA}{w:World}{I:Nat->Prop}{x:AV}{v:Value}(h:VR P β w I x v):VR P β w I (wk x) v:=by
 cases x<;>simp only[Gb.wk]<;>try exact h
 simp only[VR]at h ⊢;simp only[TR];exact .inl ⟨trivial,none,0,h,λ_=>rfl⟩
theorem cI.wk{P:Program}{β:Nat->Option cA}{w:World}{I:Nat->Prop}:∀(r:List AV)(c:Array Value)(ae:Nat),cI P β w I r c ae->cI P β w I (r.map Gb.wk) c ae
 |[],_,_,_=>trivial
 |_::xs,c,ae,⟨⟨v,h1,h2,h3⟩,h4⟩=>⟨⟨v,h1,h2.wk,h3⟩,cI.wk xs c (ae+1) h4⟩
theorem bo.wk{P:Program}{β:Nat->Option cA}{w:World}{I:Nat->Prop}:∀(rs:List (List AV))(c:Array Value)(ae sz:Nat),bo P β w I rs c ae sz->bo P β w I (dX rs) c ae sz
 |[],_,_,_,_=>trivial
 |r::rs,c,ae,sz,⟨h1,h2,h3⟩=>⟨by simpa using h1,cI.wk r c ae h2,bo.wk rs c (ae+sz) sz h3⟩
theorem cI.mono{P:Program}{β β':Nat->Option cA}{w w':World}{I I':Nat->Prop}(hb:∀k B,β k=some B->β' k=some B)(hs:Same I w w')(hi:∀b,I b->I' b):∀(r:List AV)(c:Array Value)(ae:Nat),cI P β w I r c ae->cI P β' w' I' r c ae
 |[],_,_,_=>trivial
 |x::xs,c,ae,⟨⟨v,h1,h2,h3⟩,h4⟩=>⟨⟨v,h1,VR.mono hb hs hi x v h2,h3⟩,cI.mono hb hs hi xs c (ae+1) h4⟩
theorem bo.mono{P:Program}{β β':Nat->Option cA}{w w':World}{I I':Nat->Prop}(hb:∀k B,β k=some B->β' k=some B)(hs:Same I w w')(hi:∀b,I b->I' b):∀(rs:List (List AV))(c:Array Value)(ae sz:Nat),bo P β w I rs c ae sz->bo P β' w' I' rs c ae sz
 |[],_,_,_,_=>trivial
 |r::rs,c,ae,sz,⟨h1,h2,h3⟩=>⟨h1,cI.mono hb hs hi r c ae h2,bo.mono hb hs hi rs c (ae+sz) sz h3⟩
theorem be.wk{P:Program}{β:Nat->Option cA}{w:World}{I:Nat->Prop}:∀(r:List AV)(vs:List Value),be P β w I r vs->be P β w I (r.map Gb.wk) vs
 |[],[],_=>by simp[be]
 |x::xs,v::vs,h=>by simp only[be]at h;simp only[aF,be];exact⟨h.1.wk,be.wk xs vs h.2⟩
 |[],_::_,h=>by simp[be]at h
 |_::_,[],h=>by simp[be]at h
theorem co.mono{P:Program}{β β':Nat->Option cA}{w w':World}{I I':Nat->Prop}(hb:∀k B,β k=some B->β' k=some B)(hs:Same I w w')(hi:∀b,I b->I' b):∀(rs:List (List AV))(es:List MapEntry),co P β w I rs es->co P β' w' I' rs es
 |[],[],_=>trivial
 |r::rs,_::es,⟨h1,h4⟩=>⟨be.mono hb hs hi r _ h1,co.mono hb hs hi rs es h4⟩
 |[],_::_,h=>h.elim
 |_::_,[],h=>h.elim
theorem co.wk{P:Program}{β:Nat->Option cA}{w:World}{I:Nat->Prop}:∀(rs:List (List AV))(es:List MapEntry),co P β w I rs es->co P β w I (dX rs) es
 |[],[],_=>trivial
 |r::rs,_::es,⟨h1,h4⟩=>⟨be.wk r _ h1,co.wk rs es h4⟩
 |[],_::_,h=>h.elim
 |_::_,[],h=>h.elim
structure gi where
 own:Nat->Prop
 CD:Nat->Prop
 anc:Nat->Option cA:=λ_=>none
 lt:∀j B,anc j=some B->j<1000:=by intro j B h;cases h
structure Mem(P:Program)(w0:World)(O0:gi)(β:Nat->Option cA)(I:Nat->Prop)(obj:Nat->Option aX)(w:World):Prop where
 cw:∀k o,obj k=some o->∃B,β k=some B/\OR P β w I o B
 eR:∀k k' o o' B B' b,obj k=some o->obj k'=some o'->β k=some B->β k'=some B'->B.num=some b->B'.num=some b->k=k'
 ownB:∀k o B b,obj k=some o->β k=some B->B.num=some b->¬I b/\b<w.heap.size/\(O0.own b\/w0.heap.size<=b)
 lt:∀b,I b->b<w.heap.size
 up:∀b,I b->O0.CD b\/O0.own b\/w0.heap.size<=b
 keep:∀b,b<w0.heap.size->¬O0.own b->w.heap[b]? =w0.heap[b]?
 le:w0.heap.size<=w.heap.size
 os:w.os=w0.os
 tape:w.tape=w0.tape
 output:w.output=w0.output
 anch:∀j B,O0.anc j=some B->β j=some B
 vars:gC w I
section
variable {P:Program} {w0:World} {O0:gi} {β:Nat->Option cA} {I:Nat->Prop} {obj:Nat->Option aX} {w:World}
theorem Mem.inj(h:Mem P w0 O0 β I obj w):∀k k' o o' b s n s' n',obj k=some o->obj k'=some o'->β k=some (.at b s n)->β k'=some (.at b s' n')->k=k':=
 λk k' o o' b _ _ _ _ h1 h2 h3 h4=>h.eR k k' o o' _ _ b h1 h2 h3 h4 rfl rfl
theorem Mem.own(h:Mem P w0 O0 β I obj w):∀k o b s n,obj k=some o->β k=some (.at b s n)->¬I b/\b<w.heap.size/\(O0.own b\/w0.heap.size<=b):=
 λk o b _ _ h1 h2=>h.ownB k o _ b h1 h2 rfl
end
def eL(β:Nat->Option cA)(k b:Nat):Prop:=∃B,β k=some B/\B.num=some b
theorem eL.at{β:Nat->Option cA}{k b s n:Nat}(h:β k=some (.at b s n)):eL β k b:=⟨_,h,rfl⟩
section
variable {P:Program} {w0:World} {O0:gi} {β:Nat->Option cA} {I:Nat->Prop} {obj:Nat->Option aX} {w:World}
theorem Mem.kq(h:Mem P w0 O0 β I obj w):∀k k' o o' b,obj k=some o->obj k'=some o'->eL β k b->eL β k' b->k=k':=
 λk k' o o' b h1 h2 ⟨B,h3,h5⟩ ⟨B',h4,h6⟩=>h.eR k k' o o' B B' b h1 h2 h3 h4 h5 h6
theorem Mem.fS(h:Mem P w0 O0 β I obj w):∀k o b,obj k=some o->eL β k b->¬I b/\b<w.heap.size/\(O0.own b\/w0.heap.size<=b):=
 λk o b h1 ⟨B,h2,h3⟩=>h.ownB k o B b h1 h2 h3
end
def cZ(obj:Nat->Option aX):List (Nat×Option aX)->Nat->Option aX
 |[],k=>obj k
 |(j,o)::r,k=>if k=j then o else cZ obj r k
def fR(i k:Nat):Prop:=k=i\/(1000000<=i/\1000000<=k/\(k -1000000)/64=(i -1000000)/64)
theorem fR.ne{i k:Nat}(h:¬fR i k):k≠i:=λe=>h (.inl e)
structure Step(β:Nat->Option cA)(I:Nat->Prop)(w:World)(i:Nat)(β':Nat->Option cA)(I':Nat->Prop)(w':World):Prop where
 other:∀k,¬fR i k->β' k=β k
 ext:∀k B,β k=some B->β' k=some B
 same:Same I w w'
 inc:∀b,I b->I' b
theorem Step.refl(β:Nat->Option cA)(I:Nat->Prop)(w:World)(i:Nat):Step β I w i β I w:=⟨λ _ _=>rfl,λ_ _ h=>h,λ_ _=>rfl,λ_ h=>h⟩
theorem qX{w:World}{o:Obj}{b:Nat}(h:b<w.heap.size):(w.alloc o).heap[b]? =w.heap[b]? :=by
 simp only[World.alloc,Array.getElem?_push];rw[aM (by omega)]
theorem Same.alloc{I:Nat->Prop}{w:World}(h:∀b,I b->b<w.heap.size)(o:Obj):Same I w (w.alloc o):=λb hb=>qX (h b hb)
def ins(β:Nat->Option cA)(i:Nat)(B:cA):Nat->Option cA:=λk=>if k=i then some B else β k
theorem mU{β:Nat->Option cA}{i:Nat}{B:cA}(h:β i=none):∀k C,β k=some C->ins β i B k=some C:=by
 intro k C hk;unfold ins;split
 ·subst_vars;rw[h]at hk;cases hk
 ·exact hk
theorem kU{P:Program}{β:Nat->Option cA}{w:World}{I:Nat->Prop}:∀(r:List AV)(c:Array Value)(ae:Nat),cI P β w I r c ae↔∀j x,r[j]? =some x->∃v,c[ae+j]? =some v/\VR P β w I x v/\oneCell v
 |[],c,ae=>by simp[cI]
 |x::xs,c,ae=>by
  simp only[cI,kU xs c (ae+1)];constructor
  ·rintro⟨h1,h2⟩ j y hj;cases j with
   |zero=>simp at hj;subst hj;exact h1
   |succ j=>obtain⟨v,hv⟩:=h2 j y (by simpa using hj);exact⟨v,by rw[show ae+(j+1)=ae+1+j by omega];exact hv.1,hv.2⟩
  ·intro h;refine⟨by simpa using h 0 x rfl,λj y hj=>?_⟩;obtain⟨v,hv⟩:=h (j+1) y (by simpa using hj);exact⟨v,by rw[show ae+1+j=ae+(j+1)by omega];exact hv.1,hv.2⟩
theorem wC{P:Program}{β:Nat->Option cA}{w:World}{I:Nat->Prop}:∀(rs:List (List AV))(c:Array Value)(ae sz:Nat),bo P β w I rs c ae sz↔∀i r,rs[i]? =some r->r.length=sz/\cI P β w I r c (ae+i*sz)
 |[],c,ae,sz=>by simp[bo]
 |r::rs,c,ae,sz=>by
  simp only[bo,wC rs c (ae+sz) sz];constructor
  ·rintro⟨h1,h2,h3⟩ i r' hi;cases i with
   |zero=>simp at hi;subst hi;exact⟨h1,by simpa using h2⟩
   |succ i=>have:=h3 i r' (by simpa using hi);rw[show ae+(i+1)*sz=ae+sz+i*sz by rw[Nat.add_mul];omega];exact this
  ·intro h;have h0:=h 0 r rfl;refine⟨h0.1,by simpa using h0.2,λi r' hi=>?_⟩;have:=h (i+1) r' (by simpa using hi);rw[show ae+sz+i*sz=ae+(i+1)*sz by rw[Nat.add_mul];omega];exact this
section
variable {P:Program} {w0:World} {O0:gi} {β:Nat->Option cA} {I:Nat->Prop} {obj:Nat->Option aX} {w:World}
theorem OR.mono{β':Nat->Option cA}{I':Nat->Prop}{w':World}{o:aX}{B:cA}(hb:∀k B,β k=some B->β' k=some B)(hs:Same I w w')(hi:∀b,I b->I' b)
 (hB:∀b,B.num=some b->w'.heap[b]? =w.heap[b]?) (h:OR P β w I o B):OR P β' w' I' o B:=by
 cases B with
 |none=>exact h
 | «at» b s n=>
  obtain⟨h1,c,e,h2,h3,h4⟩:=h;exact⟨h1,c,e,(hB b rfl).trans h2,h3,bo.mono hb hs hi _ _ _ _ h4⟩
 |mp b=>
  obtain⟨es,cl,h1,hle,h2,h3⟩:=h;exact⟨es,cl,(hB b rfl).trans h1,hle,λe=>co.mono hb hs hi _ _ (h2 e),h3⟩
theorem Mem.alloc{i:Nat}{o:aX}{c:Array Value}{e:TypeId}(h:Mem P w0 O0 β I obj w)(hn:β i=none)
 (hr:bo P β w I o.rows c 0 o.sz):
 Step β I w i (ins β i (.at w.heap.size o.sz c.size)) I (w.alloc (.cells c e))/\
 Mem P w0 O0 (ins β i (.at w.heap.size o.sz c.size)) I (cZ obj [(i,some o)]) (w.alloc (.cells c e)):=by
 have hS:Step β I w i (ins β i (.at w.heap.size o.sz c.size)) I (w.alloc (.cells c e)):=
  ⟨λ k hk=>by simp[ins,fR.ne hk],mU hn,Same.alloc h.lt _,λ_ h=>h⟩
 refine⟨hS,?_⟩;have hne:∀k o',obj k=some o'->k≠i:=λk o' hk e=>by
  have⟨B,hB,_⟩:=h.cw k o' hk;rw[e,hn]at hB;cases hB
 constructor
 ·intro k o' hk;simp only[cZ]at hk;split at hk
  ·cases hk;rename_i hki;refine⟨.at w.heap.size o.sz c.size,by simp[ins,hki],rfl,c,e,?_,rfl,bo.mono hS.ext hS.same hS.inc _ _ _ _ hr⟩;exact heap_alloc_new w _
  ·have⟨B,hB,hO⟩:=h.cw k o' hk;exact⟨B,mU hn _ _ hB,OR.mono hS.ext hS.same hS.inc (λ b hb=>qX (h.ownB k o' B b hk hB hb).2.1) hO⟩
 ·intro k k' o1 o2 B B' b h1 h2 h3 h4 h5 h6;simp only[cZ]at h1 h2;simp only[ins]at h3 h4;split at h1<;>split at h2
  ·rename_i a b;rw[a,b]
  ·rename_i hki ly;simp only[hki,if_true,aC]at h3;simp only[ly,if_false]at h4;subst h3;injection h5 with h5;have:=(h.ownB k' o2 B' b h2 h4 h6).2.1;omega
  ·rename_i hki ly;simp only[ly,if_true,aC]at h4;simp only[hki,if_false]at h3;subst h4;injection h6 with h6;have:=(h.ownB k o1 B b h1 h3 h5).2.1;omega
  ·rename_i hki ly;simp only[hki,ly,if_false]at h3 h4;exact h.eR k k' o1 o2 B B' b h1 h2 h3 h4 h5 h6
 ·intro k o' B b h1 h2 h3;simp only[cZ]at h1;simp only[ins]at h2;split at h1
  ·rename_i hki;simp only[hki,if_true,aC]at h2;subst h2;injection h3 with h3;refine⟨λ hI=>?_,?_,.inr ?_⟩
   ·have:=h.lt b hI;omega
   ·simp;omega
   ·have:=h.le;omega
  ·rename_i hki;simp only[hki,if_false]at h2;have⟨a,b',c'⟩:=h.ownB k o' B b h1 h2 h3;exact⟨a,by simp;omega,c'⟩
 ·intro b hb;have:=h.lt b hb;simp;omega
 ·exact h.up
 ·intro b hb hO;rw[qX (by have:=h.le;omega)];exact h.keep b hb hO
 ·have:=h.le;simp;omega
 ·exact h.os
 ·exact h.tape
 ·exact h.output
 ·intro j B hj;exact mU hn _ _ (h.anch j B hj)
 ·exact h.vars.mono (Same.alloc h.lt _) (λ _ h=>h)
theorem Mem.write{k:Nat}{o o':aX}{b s n:Nat}{c':Array Value}{e:TypeId}{w':World}(h:Mem P w0 O0 β I obj w)(hk:obj k=some o)(hβ:β k=some (.at b s n))
 (hnew:w'.heap[b]? =some (.cells c' e (0,0))) (hother:∀b',b'≠b->w'.heap[b']? =w.heap[b']?) (hsize:w'.heap.size=w.heap.size) (hos:w'.os=w.os) (rm:w'.tape=w.tape) (hout:w'.output=w.output)
 (hsz:s=o'.sz) (hn:c'.size=n) (hr:bo P β w I o'.rows c' 0 o'.sz):
 Same I w w'/\Mem P w0 O0 β I (cZ obj [(k,some o')]) w':=by
 have⟨Ks,hlt,hO⟩:=h.own k o b s n hk hβ;have hs:Same I w w':=λb' hb=>hother b' (λ e=>Ks (e ▸ hb));refine⟨hs,?_⟩;constructor
 ·intro j oj hj;simp only[cZ]at hj;split at hj
  ·rename_i hjk;cases hj;refine⟨.at b s n,by rw[hjk];exact hβ,hsz,c',e,?_,hn,hsz ▸ bo.mono (λ _ _ h=>h) hs (λ _ h=>h) _ _ _ _ hr⟩;exact hnew
  ·rename_i hjk;have⟨B,hB,oY⟩:=h.cw j oj hj;refine⟨B,hB,OR.mono (λ _ _ h=>h) hs (λ _ h=>h) (λ b1 e1=>hother b1 (λ e2=>hjk ?_)) oY⟩;subst e2;exact h.eR j k oj o B _ b1 hj hk hB hβ e1 rfl
 ·intro j j' o1 o2 B1 B2 b1 h1 h2 h3 h4 h5 h6;have hx:∀(j:Nat)(o1:aX),cZ obj [(k,some o')] j=some o1->∃o2,obj j=some o2:=λj o1 h=>by
   simp only[cZ]at h;split at h
   ·rename_i e;exact⟨o,by rw[e];exact hk⟩
   ·exact⟨_,h⟩
  have⟨p1,q1⟩:=hx j o1 h1;have⟨p2,q2⟩:=hx j' o2 h2;exact h.eR j j' p1 p2 B1 B2 b1 q1 q2 h3 h4 h5 h6
 ·intro j o1 B1 b1 h1 h2 h3;have hx:∃o2,obj j=some o2:=by
   simp only[cZ]at h1;split at h1
   ·rename_i e;exact⟨o,by rw[e];exact hk⟩
   ·exact⟨_,h1⟩
  obtain⟨p1,q1⟩:=hx;have:=h.ownB j p1 B1 b1 q1 h2 h3;rw[hsize];exact this
 ·intro b1 hb1;rw[hsize];exact h.lt b1 hb1
 ·exact h.up
 ·intro b1 hb1 hno;rw[hother b1 (λ e1=>?_)]
  ·exact h.keep b1 hb1 hno
  ·subst e1;rcases hO with hO |hO
   ·exact hno hO
   ·omega
 ·rw[hsize];exact h.le
 ·rw[hos];exact h.os
 ·rw[rm];exact h.tape
 ·rw[hout];exact h.output
 ·exact h.anch
 ·exact h.vars.mono hs (λ _ h=>h)
theorem Mem.drop(h:Mem P w0 O0 β I obj w)(kh:Nat->Option aX)(hsub:∀k o,kh k=some o->obj k=some o):Mem P w0 O0 β I kh w:=
 ⟨λ k o hk=>h.cw k o (hsub k o hk),λk k' o o' B B' b h1 h2=>h.eR k k' o o' B B' b (hsub _ _ h1) (hsub _ _ h2),λk o B b h1=>h.ownB k o B b (hsub _ _ h1),h.lt,h.up,h.keep,h.le,h.os,h.tape,h.output,h.anch,h.vars⟩
theorem Mem.below{w':World}{I':Nat->Prop}(h:Mem P w0 O0 β I obj w)(hb:Below w.heap.size w w')(hi:∀b,I b->I' b)(hlt:∀b,I' b->b<w'.heap.size)(hI:∀b k o B,I' b->obj k=some o->β k=some B->B.num=some b->False)(hup:∀b,I' b->O0.CD b\/O0.own b\/w0.heap.size<=b):
 Same I w w'/\Mem P w0 O0 β I' obj w':=by
 have hs:Same I w w':=λb hb'=>hb.block b (h.lt b hb');refine⟨hs,?_⟩;constructor
 ·intro k o hk;have⟨B,hB,hO⟩:=h.cw k o hk;exact⟨B,hB,OR.mono (λ _ _ h=>h) hs hi (λ b e=>hb.block b (h.ownB k o B b hk hB e).2.1) hO⟩
 ·exact h.eR
 ·intro k o B b h1 h2 h3;have⟨a,b',c⟩:=h.ownB k o B b h1 h2 h3;exact⟨λ hb2=>hI b k o B hb2 h1 h2 h3,Nat.lt_of_lt_of_le b' hb.size,c⟩
 ·exact hlt
 ·exact hup
 ·intro b hb1 hno;rw[hb.block b (by have:=h.le;omega)];exact h.keep b hb1 hno
 ·have:=h.le;have:=hb.size;omega
 ·rw[hb.os];exact h.os
 ·rw[hb.tape];exact h.tape
 ·rw[hb.output];exact h.output
 ·exact h.anch
 ·exact h.vars.mono hs hi
theorem Mem.weak{kh:Nat->Option aX}(h:Mem P w0 O0 β I obj w)(ho:∀k o',kh k=some o'->∃o,obj k=some o/\∀B,β k=some B->OR P β w I o B->OR P β w I o' B):Mem P w0 O0 β I kh w:=by
 constructor
 ·intro k o' hk;have⟨o,h1,h2⟩:=ho k o' hk;have⟨B,hB,hO⟩:=h.cw k o h1;exact⟨B,hB,h2 B hB hO⟩
 ·intro k k' o o' B B' b h1 h2;have⟨q,g1,_⟩:=ho k o h1;have⟨q',g2,_⟩:=ho k' o' h2;exact h.eR k k' q q' B B' b g1 g2
 ·intro k o B b h1;have⟨q,g1,_⟩:=ho k o h1;exact h.ownB k q B b g1
 ·exact h.lt
 ·exact h.up
 ·exact h.keep
 ·exact h.le
 ·exact h.os
 ·exact h.tape
 ·exact h.output
 ·exact h.anch
 ·exact h.vars
theorem OR.wk{o:aX}{B:cA}(h:OR P β w I o B):OR P β w I ⟨o.sz,dX o.rows⟩ B:=by
 cases B with
 |none=>simp only[OR]at h ⊢;simp[dX,h]
 | «at» b s n=>
  obtain⟨h1,c,e,h2,h3,h4⟩:=h;exact⟨h1,c,e,h2,h3,bo.wk _ _ _ _ h4⟩
 |mp b=>
  obtain⟨es,cl,h1,hle,h2,h3⟩:=h;exact⟨es,cl,h1,by simpa[dX]using hle,λe=>co.wk _ _ (h2 (by simpa[dX]using e)),h3⟩
theorem Mem.s4{k:Nat}{sz:Nat}{rows:List (List AV)}(h:Mem P w0 O0 β I (cZ obj [(k,some ⟨sz,rows⟩)]) w):Mem P w0 O0 β I (cZ obj [(k,some ⟨sz,dX rows⟩)]) w:=by
 refine h.weak λj o' hj=>?_;simp only[cZ]at hj ⊢;by_cases e:j=k
 ·rw[aP e]at hj ⊢;cases hj;exact⟨_,rfl,λB _ hB=>OR.wk hB⟩
 ·rw[aM e]at hj ⊢;exact⟨o',hj,λ_ _ h=>h⟩
theorem Mem.drew(h:Mem P w0 O0 β I obj w):Mem P w0 O0 β I obj w.drew:=by
 have hb:Below w.heap.size w w.drew:=⟨rfl,rfl,rfl,aT _,λ_ _=>rfl⟩;exact(h.below hb (λ _ h=>h) h.lt (λ b k o B h1 h2 h3 h4=>(h.ownB k o B b h2 h3 h4).1 h1) h.up).2
end
def km:Nat->Option cA:=λ_=>none
def TV.av:TV->AV
 | .s x=> .t x
 | .a cs=> .agg (cs.map .t)
inductive RC where
 |d (x:TV)
 |fresh (sz:Nat) (rows:List (List Tree))
 |whole (j len:Nat)
inductive RV where
 |one (c:RC)
 |ey (cs:List RC)
def aS(rows:List (List Tree)):List (List AV):=rows.map λr=>r.map AV.t
def PB(P:Program)(F:Nat->Prop)(sz:Nat)(rows:List (List Tree))(w:World)(I:Nat->Prop)(v:Value):Prop:=
 (rows=[]/\v= .slice none 0 0)\/∃b c e cap o,v= .slice (some ⟨b,o,none⟩) rows.length cap/\F b/\¬I b/\w.heap[b]? =some (.cells c e (0,0))/\rows.length<=cap/\cap*sz<=c.size/\
  bo P km w I (aS rows) c 0 sz/\(cap≠0->o=0)
def tU(P:Program)(F:Nat->Prop)(β:Nat->Option cA):RC->World->(Nat->Prop)->Value->Prop
 | .d x,w,I,v=>pp w I x v
 | .fresh sz rows,w,I,v=>PB P F sz rows w I v
 | .whole j len,w,I,v=>VR P β w I (.own j 0 len) v
def WY(P:Program)(F:Nat->Prop)(β:Nat->Option cA):List RC->World->(Nat->Prop)->List Value->Prop
 |[],_,_,[]=>True
 |c::cs,w,I,v::vs=>tU P F β c w I v/\WY P F β cs w I vs
 |_,_,_,_=>False
def nv(P:Program)(F:Nat->Prop)(β:Nat->Option cA):RV->World->(Nat->Prop)->Value->Prop
 | .one c,w,I,v=>tU P F β c w I v
 | .ey cs,w,I,v=>∃vs:Array Value,v= .tuple vs/\WY P F β cs w I vs.toList
def Hc(w:World)(b:Nat):Prop:=w.heap.size<=b
def kV(P : Program)(f : FuncId): Prop := ∃ fn, P.funcs[f]? = some fn /\ fn.body.isSome = true /\ (fn.name == "runtime.NumGoroutine") = false
def pr(P:Program)(f:FuncId)(args:List AV)(r:RV):Prop:=
 kV P f/\∀(w:World)(I:Nat->Prop)(vs:Array Value),(∀ b,I b->b<w.heap.size)->gC w I->be P km w I args vs.toList->Calls P f vs w (Z3 w I (nv P (Hc w) km r))
mutual
def eV(P:Program)(get:Nat->Option aX):AV->AV->Prop
 | .t x,y=>y= .t x
 | .agg cs,y=>∃cs',y= .agg cs'/\dE P get cs cs'
 | .ey _,_=>False
 | .own k ae len,y=>∃o f5,get k=some o/\y= .t (.sl f5)/\(o.rows.drop ae).take len=aS f5/\f5.length=len
 | .ptr k row ae,y=>∃o pc,get k=some o/\y= .du pc ae/\o.rows[row]? =some (pc.map AV.t)
 | .du r o,y=>y= .du r o
 | .fn f first caps,y=>∃first' ka,dE P get first first'/\dE P get caps ka/\(y= .fn f first' ka\/
  ∃ φ,y= .c6 φ/\kV P f/\∀args r,φ args r->pr P f (first'++args.map TV.av++ka) (.one (.d r)))
 | .c6 φ,y=>y= .c6 φ
 | .mp _,_=>False
 | .cG,y=>y= .t (.sl [])\/y= .cG
 | .ub,_=>False
 | .undef,_=>False
def dE(P:Program)(get:Nat->Option aX):List AV->List AV->Prop
 |[],[]=>True
 |x::xs,y::ys=>eV P get x y/\dE P get xs ys
 |_,_=>False
end
mutual
def refs:AV->List Nat
 | .own k _ _=>[k]
 | .ptr k _ _=>[k]
 | .mp k=>[k]
 | .agg cs=>fD cs
 | .ey cs=>fD cs
 | .fn _ first caps=>fD first++fD caps
 |_=>[]
def fD:List AV->List Nat
 |[]=>[]
 |x::xs=>refs x++fD xs
end
def eJ(β:Nat->Option cA)(obj:Nat->Option aX)(ag:List Nat)(I:Nat->Prop)(b:Nat):Prop:=
 I b\/∃k o s n,k∈ag/\obj k=some o/\β k=some (.at b s n)
theorem eJ.sub{β:Nat->Option cA}{obj:Nat->Option aX}{ag CE:List Nat}{I:Nat->Prop}(h:∀k,k∈ag->k∈CE):∀b,eJ β obj ag I b->eJ β obj CE I b:=by
 intro b hb;rcases hb with hb |⟨k,o,s,n,h1,h2⟩
 ·exact .inl hb
 ·exact .inr ⟨k,o,s,n,h k h1,h2⟩
section
variable {P:Program} {β:Nat->Option cA} {w:World} {I:Nat->Prop}
theorem cI.drop:∀(n:Nat)(r:List AV)(c:Array Value)(ae:Nat),cI P β w I r c ae->cI P β w I (r.drop n) c (ae+n)
 | 0,_,_,_,h=>by simpa using h
 |n+1,[],_,_,_=>by simp[cI]
 |n+1,x::xs,c,ae,⟨_,h⟩=>by
  have:=cI.drop n xs c (ae+1) h;rw[List.drop_succ_cons,show ae+(n+1)=ae+1+n by omega];exact this
theorem cI.take:∀(n:Nat)(r:List AV)(c:Array Value)(ae:Nat),cI P β w I r c ae->cI P β w I (r.take n) c ae
 | 0,_,_,_,_=>by simp[cI]
 |n+1,[],_,_,_=>by simp[cI]
 |n+1,x::xs,c,ae,⟨h1,h⟩=>⟨h1,cI.take n xs c (ae+1) h⟩
theorem bo.drop:∀(n:Nat)(rs:List (List AV))(c:Array Value)(ae sz:Nat),bo P β w I rs c ae sz->bo P β w I (rs.drop n) c (ae+n*sz) sz
 | 0,_,_,_,_,h=>by simpa using h
 |n+1,[],_,_,_,_=>by simp[bo]
 |n+1,r::rs,c,ae,sz,⟨_,_,h⟩=>by
  have:=bo.drop n rs c (ae+sz) sz h;rw[List.drop_succ_cons,show ae+(n+1)*sz=ae+sz+n*sz by rw[Nat.add_mul];omega];exact this
theorem bo.take:∀(n:Nat)(rs:List (List AV))(c:Array Value)(ae sz:Nat),bo P β w I rs c ae sz->bo P β w I (rs.take n) c ae sz
 | 0,_,_,_,_,_=>by simp[bo]
 |n+1,[],_,_,_,_=>by simp[bo]
 |n+1,r::rs,c,ae,sz,⟨h1,h2,h⟩=>⟨h1,h2,bo.take n rs c (ae+sz) sz h⟩
theorem bo.get:∀(i:Nat)(rs:List (List AV))(c:Array Value)(ae sz:Nat)(r:List AV),bo P β w I rs c ae sz->rs[i]? =some r->r.length=sz/\cI P β w I r c (ae+i*sz)
 | 0,r::rs,c,ae,sz,r',⟨h1,h2,_⟩,h=>by simp at h;subst h;exact⟨h1,by simpa using h2⟩
 |i+1,r::rs,c,ae,sz,r',⟨_,_,h3⟩,h=>by
  have:=bo.get i rs c (ae+sz) sz r' h3 (by simpa using h);rw[show ae+(i+1)*sz=ae+sz+i*sz by rw[Nat.add_mul];omega];exact this
 |_,[],_,_,_,_,_,h=>by simp at h
theorem de.ik{I':Nat->Prop}{b:Nat}{c:Array Value}{e:TypeId}{f:Nat×Nat}(hI:∀b,I b->I' b)(hc:w.heap[b]? =some (.cells c e f)):∀(r:List Tree)(ae:Nat),cI P β w I (r.map AV.t) c ae->de w I' r b ae
 |[],_,_=>by simp[de]
 |x::xs,ae,⟨⟨v,h1,h2,_⟩,h3⟩=>by
  simp only[de];refine⟨⟨v,?_,?_⟩,de.ik hI hc xs (ae+1) h3⟩
  ·simp[World.cell?,hc,h1]
  ·simp only[VR]at h2;exact TR.mono (λ _ _=>rfl) hI x v h2
theorem cj.ik{I':Nat->Prop}{b:Nat}{c:Array Value}{e:TypeId}{f:Nat×Nat}(hI:∀b,I b->I' b)(hc:w.heap[b]? =some (.cells c e f)):∀(rs:List (List Tree))(ae sz:Nat),bo P β w I (aS rs) c ae sz->cj w I' rs b ae sz
 |[],_,_,_=>by simp[cj]
 |r::rs,ae,sz,h=>by
  simp only[aS,aF,bo]at h;simp only[cj];exact⟨by simpa using h.1,de.ik hI hc r ae h.2.1,cj.ik hI hc rs (ae+sz) sz h.2.2⟩
theorem nj.B9{f:FuncId}{first caps:Array Value}{first' ka:List AV}{φ:List TV->TV->Prop}(hcall:kV P f)(hgv:gC w I)(hf:be P km w I first' first.toList)(hc:be P km w I ka caps.toList)
 (h:∀args r,φ args r->pr P f (first'++args.map TV.av++ka) (.one (.d r))):nj P w I φ (.func (.func f) first caps):=by
 obtain⟨fn,h1,h2,h3⟩:=hcall;refine⟨f,first,caps,rfl,λfn' hfn=>?_,by simp[h1],?_⟩
 ·rw[h1]at hfn;cases hfn;exact⟨h2,h3⟩
 ·intro w' I' args vs r hI hS hlt hφ ha;have happ:∀(a b:List AV)(u v:List Value),be P km w' I' a u->be P km w' I' b v->be P km w' I' (a++b) (u++v):=by
   intro a
   induction a with
   |nil=>intro b u v h1 h2;cases u with
    |nil=>simpa using h2
    |cons=>simp[be]at h1
   |cons x xs ih=>intro b u v h1 h2;cases u with
    |nil=>simp[be]at h1
    |cons y ys=>simp only[be]at h1;simp only[cons_append,be];exact⟨h1.1,ih _ _ _ h1.2 h2⟩
  have hargs:∀(args:List TV)(vs:List Value),jt w' I' args vs->be P km w' I' (args.map TV.av) vs:=by
   intro args
   induction args with
   |nil=>intro vs h;cases vs with
    |nil=>simp[be]
    |cons=>simp[jt]at h
   |cons x xs ih=>intro vs h;cases vs with
    |nil=>simp[jt]at h
    |cons y ys=>
     simp only[jt]at h;simp only[aF,be];refine⟨?_,ih ys h.2⟩;cases x with
     |s x=>simpa[TV.av,VR,pp]using h.1
     |a cs=>
      obtain⟨us,rfl,h5⟩:=h.1;simp only[TV.av,VR];refine⟨us,rfl,?_⟩;have:∀(cs:List Tree) (us:List Value),en w' I' cs us->be P km w' I' (cs.map AV.t) us:=by
       intro cs
       induction cs with
       |nil=>intro us h;cases us with
        |nil=>simp[be]
        |cons=>simp[en]at h
       |cons x xs ih=>intro us h;cases us with
        |nil=>simp[en]at h
        |cons y ys=>simp only[en]at h;simp only[aF,be,VR];exact⟨h.1,ih _ h.2⟩
      exact this cs us.toList h5
  have hm:∀k B,km k=some B->km k=some B:=λ_ _ h=>h;have:=(h args r hφ).2 w' I' (first++vs++caps) hlt (hgv.mono hS hI) (by
   simp only[Array.toList_append];exact happ _ _ _ _ (happ _ _ _ _ (be.mono hm hS hI _ _ hf) (hargs _ _ ha)) (be.mono hm hS hI _ _ hc))
  exact this
variable {w0:World} {O0:gi} {obj:Nat->Option aX}
mutual
theorem eV.sound(h:Mem P w0 O0 β I obj w)(ag:List Nat):∀(x y:AV)(v:Value),(∀ k,k∈refs x->k∈ag)->eV P obj x y->VR P β w I x v->VR P km w (eJ β obj ag I) y v
 | .t x,y,v,_,hb,hv=>by
  simp only[eV]at hb;subst hb;simp only[VR]at hv ⊢;exact TR.mono (λ _ _=>rfl) (λ _ h=> .inl h) x v hv
 | .agg cs,y,v,hk,hb,hv=>by
  simp only[eV]at hb;obtain⟨cs',rfl,hb⟩:=hb;simp only[VR]at hv ⊢;obtain⟨vs,rfl,hv⟩:=hv;exact⟨vs,rfl,dE.sound h ag cs cs' vs.toList (by simpa[refs]using hk) hb hv⟩
 | .ey _,_,_,_,hb,_=>by simp[eV]at hb
 | .own k ae len,y,v,hk,hb,hv=>by
  simp only[eV]at hb;obtain⟨o,f5,hget,rfl,hrows,hlen⟩:=hb;simp only[VR]at hv ⊢;simp only[TR];rcases hv with ⟨h1,rfl,h2,h3⟩ |⟨b,sz,n,cap,a,h1,rfl,h2,h3,h4⟩
  ·exact .inl ⟨List.eq_nil_of_length_eq_zero (by omega),none,0,rfl,λ_=>rfl⟩
  ·refine .inr ⟨b,a,cap,sz,by rw[hlen],by omega,.inr ⟨k,o,sz,n,hk k (by simp[refs]),hget,h1⟩,?_⟩;by_cases h0:cap=0
   ·have:f5=[]:=List.eq_nil_of_length_eq_zero (by omega);subst this;simp[cj]
   ·rw[h4 h0];have⟨B,hB,hO⟩:=h.cw k o hget;rw[h1]at hB;cases hB;obtain⟨hs,c,e,hc,_,hO⟩:=hO;have h4:=bo.take len _ _ _ _ (bo.drop ae _ _ _ _ hO);rw[hrows,Nat.zero_add]at h4;exact cj.ik (λ _ h=> .inl h) hc f5 _ _ h4
 | .ptr k row ae,y,v,hk,hb,hv=>by
  simp only[eV]at hb;obtain⟨o,pc,hget,rfl,hrow⟩:=hb;simp only[VR]at hv ⊢;obtain⟨b,sz,n,h1,rfl⟩:=hv;have⟨B,hB,hO⟩:=h.cw k o hget;rw[h1]at hB;cases hB;obtain⟨hs,c,e,hc,_,hO⟩:=hO;have h4:=(bo.get row _ _ _ _ _ hO hrow).2;rw[Nat.zero_add]at h4;exact⟨b,row*sz,rfl,.inr ⟨k,o,sz,n,hk k (by simp[refs]),hget,h1⟩,de.ik (λ _ h=> .inl h) hc pc _ h4⟩
 | .du r o,y,v,_,hb,hv=>by
  simp only[eV]at hb;subst hb;simp only[VR]at hv ⊢;obtain⟨b,o',h1,h2,h3⟩:=hv;exact⟨b,o',h1,.inl h2,de.mono (λ _ _=>rfl) (λ _ h=> .inl h) r b o' h2 h3⟩
 | .fn f first caps,y,v,hk,hb,hv=>by
  simp only[eV]at hb;obtain⟨first',ka,hb1,hb2,hy⟩:=hb;simp only[VR]at hv;obtain⟨fs,cs,rfl,hv1,hv2⟩:=hv;have h1:=dE.sound h ag first first' fs.toList (λ k hk'=>hk k (by simp[refs,hk'])) hb1 hv1
  have h2:=dE.sound h ag caps ka cs.toList (λ k hk'=>hk k (by simp[refs,hk'])) hb2 hv2;rcases hy with rfl |⟨φ,rfl,hc,hφ⟩
  ·simp only[VR];exact⟨fs,cs,rfl,h1,h2⟩
  ·simp only[VR];exact nj.B9 hc (h.vars.mono (λ _ _=>rfl) (λ _ h=> .inl h)) h1 h2 hφ
 | .c6 φ,y,v,_,hb,hv=>by
  simp only[eV]at hb;subst hb;simp only[VR]at hv ⊢;exact nj.mono (λ _ _=>rfl) (λ _ h=> .inl h) hv
 | .cG,y,v,_,hb,hv=>by
  simp only[eV]at hb;rcases hb with rfl |rfl
  ·simp only[VR]at hv ⊢;simp only[TR];exact .inl ⟨trivial,none,0,hv,λ_=>rfl⟩
  ·simpa only[VR]using hv
 | .ub,_,_,_,hb,_=>by simp[eV]at hb
 | .undef,_,_,_,hb,_=>by simp[eV]at hb
theorem dE.sound(h:Mem P w0 O0 β I obj w)(ag:List Nat):∀(xs ys:List AV)(vs:List Value),(∀ k,k∈fD xs->k∈ag)->dE P obj xs ys->be P β w I xs vs->be P km w (eJ β obj ag I) ys vs
 |[],[],[],_,_,_=>by simp[be]
 |x::xs,y::ys,v::vs,hk,hb,hv=>by
  simp only[dE]at hb;simp only[be]at hv ⊢;exact⟨eV.sound h ag x y v (λ k hk'=>hk k (by simp[fD,hk'])) hb.1 hv.1,dE.sound h ag xs ys vs (λ k hk'=>hk k (by simp[fD,hk'])) hb.2 hv.2⟩
 |[],_::_,_,_,hb,_=>by simp[dE]at hb
 |_::_,[],_,_,hb,_=>by simp[dE]at hb
 |[],[],_::_,_,_,hv=>by simp[be]at hv
 |_::_,_::_,[],_,_,hv=>by simp[be]at hv
end
end
inductive u4 where
 |slice (e:TypeId)
 |arr (n:Nat) (e:TypeId)
 |struct (fs:List (Nat×TypeId))
 |bool
 |str
 |int (k:IntKind)
 |map (k e:TypeId)
 |other
structure ky where
 size:Nat
 bytes:Nat
 agg:Bool
 zero:List Value
 k:u4
 cmp:List Nat
abbrev da:=Nat->Option ky
def I0:u4->TypeDesc->Prop
 | .slice e,d=>d= .slice e
 | .arr n e,d=>d= .array n e
 | .struct fs,d=>∃fa:Array Field,d= .struct fa/\fa.toList.map (λ f=>(f.offset,f.type))=fs
 | .bool,d=>d= .bool
 | .str,d=>d= .string
 | .int k,d=>d= .int k
 | .map k e,d=>d= .map k e
 | .other,_=>True
def pj:TypeDesc->Bool
 | .struct _ | .array _ _=>true
 |_=>false
def gj:Value->Bool
 | .agg _ | .tuple _=>false
 |_=>true
theorem pO{v:Value}(h:gj v=true):oneCell v:=by cases v<;>first |exact trivial |(simp [gj]at h)
def WZ(P:Program)(f:Field)(kd:Nat):Bool:=
 (f.name != "_") && match P.underlying f.type with
  |some (.int _)=>kd==0
  |some .bool=>kd==1
  |some .string=>kd==2
  |_=>false
def eI(P:Program):Nat->List Field->List Nat->Bool
 |_,[],[]=>true
 |n,f::fs,k::ks=>f.offset==n&&WZ P f k&&eI P (n+1) fs ks
 |_,_,_=>false
def pt(agg:Bool):Value->Bool
 | .agg _=>agg
 | .tuple _=>false
 |_=>!agg
structure gS(P:Program)(t:TypeId)(ti:ky):Prop where
 ex:∃info d z,P.info? t=some info/\P.underlying t=some d/\info.size=ti.size/\info.bytes=ti.bytes/\info.zero=some z/\z.cells.toList=ti.zero/\pj d=ti.agg/\I0 ti.k d
 one:ti.zero.all gj=true
 len:ti.zero.length=ti.size
 form:∀info z,P.info? t=some info->info.zero=some z->pt ti.agg z=true
 cmp:ti.cmp≠[]->(∃ fa:Array Field,P.underlying t=some (.struct fa)/\P.stoodInHeld t=false/\P.eqGuardType P.depth t=false/\eI P 0 fa.toList ti.cmp=true)\/(ti.cmp=[9]/\P.eqGuardType P.depth t=false)
def fE(P:Program)(T:da):Prop:=∀t ti,T t=some ti->gS P t ti
def jV:List Prop->Prop
 |[]=>True
 |[p]=>p
 |p::q::r=>p/\jV (q::r)
structure Out where
 v:AV
 upd:List (Nat×Option aX)
 obs:List Prop
@[reducible] def Out.ob (o:Out):Prop:=jV o.obs
def cd(i:Nat):Nat:=1000000+64*i
inductive LH where
 |rows (tr:List (List Tree))
 |row (tr:List Tree)
 |fn
 |c6 (φ:List TV->TV->Prop)
 |mut (j:Nat)
 |nil
 |emp
 |Th
 |agw
 |agd
inductive OB where
 |dat (p:Nat×List (List Tree))
 |z9 (hs:List (List LH))
inductive fY where
 |none
 |row (r:List AV)
 |set (r:List AV) (rs:List (List AV))
 |pc (r:List Tree)
 |num (n:Int)
 |rows (rs:List (List AV))
 |vi (rows:List (List Tree))
 |call (hs:List LH) (r:RV) (keep:Bool)
 |xT (hs:List LH) (args:List TV) (r:TV) (keep:Bool)
 |ext (n:Int)
 |tx (ag:List Nat) (fr:Operand->AV) (b8:fY)
 |pL (ag:List Nat) (os:List (Nat×List (List Tree))) (os':List (Option (Nat×List (List Tree)))) (hs:List LH) (r:RV) (keep:Bool)
 |pN (ag cE:List Nat) (bs:List OB) (hs:List LH) (os':List (Nat×aX)) (rv:AV) (keep:Bool)
def pv(v:AV):Option Out:=some ⟨v,[],[]⟩
def gO(v:AV)(ob:Prop):Option Out:=some ⟨v,[],[ob]⟩
def cv:Value->AV
 | .slice none 0 0=> .cG
 |v=>if gj v then .t (.sc v)else .undef
def ij(env:Nat->AV):Operand->AV
 | .tmp t=>env t
 | .const v=>cv v
 | .global g=>match rK g with
  |some row=> .du (row.map Tree.sc) 0
  |none=> .undef
 | .func f=> .fn f [] []
def oU:AV->Bool
 | .agg _ | .ey _ | .undef=>false
 |_=>true
def cellsOf:AV->Option (List AV)
 | .agg cs=>if cs.all oU then some cs else none
 | .ey _ | .undef=>none
 |x=>some [x]
def part'(agg:Bool)(size:Nat)(cs:List AV):Option AV:=
 if cs.length=size then(if agg then some (.agg cs)else match cs with |[x]=>if oU x then some x else none |_=>none)else none
def put'(r:List AV)(ae:Nat)(cs:List AV):List AV:=r.take ae++cs++r.drop (ae+cs.length)
def W9(op:BinOp)(k:IntKind)(a b:Int):Option (Value×List Prop):=
 match op with
 | .add=>some (.int k (k.wrap (a+b)),[])
 | .sub=>some (.int k (k.wrap (a -b)),[])
 | .mul=>some (.int k (k.wrap (a*b)),[])
 | .quo=>some (.int k (k.wrap (a.tdiv b)),[b≠0])
 | .rem=>some (.int k (a.tmod b),[b≠0])
 | .and=>some (.int k (bits .and k a b),[])
 | .or=>some (.int k (bits .or k a b),[])
 | .xor=>some (.int k (bits .xor k a b),[])
 | .andNot=>some (.int k (bits .andNot k a b),[])
 | .shl=>some (.int k (k.wrap (a*2 ^ b.toNat)),[0<=b/\b<=k.bits])
 | .shr=>some (.int k (a/2 ^ b.toNat),[0<=b/\b<=k.bits])
 | .eql=>some (.bool (a==b),[])
 | .neq=>some (.bool (a !=b),[])
 | .lss=>some (.bool (decide (a<b)),[])
 | .leq=>some (.bool (decide (a<=b)),[])
 | .gtr=>some (.bool (decide (a>b)),[])
 | .geq=>some (.bool (decide (a>=b)),[])
def OA:Nat->AV->AV->Option Bool
 | 0,.t (.sc (.int j a)),.t (.sc (.int k b))=>if j=k then some (a==b)else none
 | 1,.t (.sc (.bool a)),.t (.sc (.bool b))=>some (a==b)
 | 2,.t (.sc (.string a)),.t (.sc (.string b))=>some (a.toList==b.toList)
 |_,_,_=>none
def uz:List Nat->List AV->List AV->Option Bool
 |[],[],[]=>some true
 |k::ks,x::xs,y::ys=>(OA k x y).bind λa=>(uz ks xs ys).bind λb=>some (a&&b)
 |_,_,_=>none
theorem amn:∀xs ys:List AV,uz [9] xs ys=none:=by intro xs ys;cases xs<;>cases ys<;>simp[uz,OA]
def Z4(T:da)(op:BinOp)(t:TypeId)(x y:AV):Option Out:=
 match x,y with
 | .t (.sc (.int k a)),.t (.sc (.int yk b))=>if k=yk\/op= .shl\/op= .shr then(W9 op k a b).bind λ(v,obs)=>some ⟨.t (.sc v),[],obs⟩else none
 | .t (.sc (.string a)),.t (.sc (.string b))=>match op with
  | .eql=>pv (.t (.sc (.bool (a.toList==b.toList))))
  | .neq=>pv (.t (.sc (.bool (!(a.toList==b.toList)))))
  | .lss=>pv (.t (.sc (.bool (Op.bytesLess a.toList b.toList))))
  | .gtr=>pv (.t (.sc (.bool (!(Op.bytesLess a.toList b.toList || a.toList==b.toList)))))
  | .add=>gO (.t (.sc (.string (a++b)))) (a.size+b.size<=maxLen)
  |_=>none
 | .t (.sc (.bool a)),.t (.sc (.bool b))=>(T t).bind λti=>match ti.k,op with
  | .bool,.eql=>pv (.t (.sc (.bool (a==b))))
  | .bool,.neq=>pv (.t (.sc (.bool (!(a==b)))))
  |_,_=>none
 | .agg xs,.agg ys=>(T t).bind λti=>if ti.cmp=[]then none else(uz ti.cmp xs ys).bind λb=>match op with
  | .eql=>pv (.t (.sc (.bool b)))
  | .neq=>pv (.t (.sc (.bool (!b))))
  |_=>none
 |_,_=>none
def H2(op:UnOp)(x:AV):Option Out:=
 match op,x with
 | .not,.t (.sc (.bool b))=>pv (.t (.sc (.bool (!b))))
 | .neg,.t (.sc (.int k n))=>pv (.t (.sc (.int k (k.wrap (0 -n)))))
 |_,_=>none
def Ic(mx:Bool)(k:IntKind):Int->List AV->Option Int
 |a,[]=>some a
 |a,.t (.sc (.int k' b))::r=>if k'=k then Ic mx k (if mx then max a b else min a b) r else none
 |_,_=>none
def BC(mx:Bool)(args:List AV):Option Out:=
 match args with
 | .t (.sc (.int k a))::r=>(Ic mx k a r).bind λn=>pv (.t (.sc (.int k n)))
 |_=>none
def FY(T:da)(t:TypeId)(x:AV)(b8:fY)(get:Nat->Option aX):Option Out:=
 (T t).bind λti=>match x with
 | .ptr k row ae=>(get k).bind λo=>match b8 with
  | .row r=>(part' ti.agg ti.size ((r.drop ae).take ti.size)).bind λv=>gO v (o.rows[row]? =some r)
  |_=>(o.rows[row]?).bind λr=>(part' ti.agg ti.size ((r.drop ae).take ti.size)).bind pv
 | .du r ae=>(part' ti.agg ti.size (((r.drop ae).take ti.size).map AV.t)).bind pv
 |_=>none
def Xa(T:da)(t:TypeId)(x y:AV)(b8:fY)(get:Nat->Option aX):Option Out:=
 (T t).bind λti=>(cellsOf y).bind λcs=>if cs.length=ti.size then match x with
 | .ptr k row ae=>(get k).bind λo=>match b8 with
  | .set r rs=>if ae+cs.length<=r.length then some ⟨.undef,[(k,some ⟨o.sz,rs⟩)],[o.rows[row]? =some r/\rs=dX (o.rows.set row (put' r ae cs))]⟩else none
  |_=>(o.rows[row]?).bind λr=>if ae+cs.length<=r.length then some ⟨.undef,[(k,some ⟨o.sz,o.rows.set row (put' r ae cs)⟩)],[]⟩else none
 |_=>none else none
def DY(T:da)(t:TypeId)(f:Nat):Option (Nat×ky):=
 (T t).bind λti=>match ti.k with
 | .struct fs=>(fs[f]?).bind λ(ae,u)=>(T u).bind λui=>if ui.size=0 then none else some (ae,ui)
 |_=>none
def Be(T:da)(t:TypeId)(x:AV)(f:Nat):Option Out:=
 (DY T t f).bind λ(d,_)=>match x with
 | .ptr k row ae=>pv (.ptr k row (ae+d))
 | .du r ae=>pv (.du r (ae+d))
 |_=>none
def Xb(T:da)(t:TypeId)(x:AV)(f:Nat):Option Out:=
 (DY T t f).bind λ(d,ui)=>match x with
 | .agg cs=>(part' ui.agg ui.size ((cs.drop d).take ui.size)).bind pv
 |_=>none
def lN(T:da)(t:TypeId)(x i:AV)(b8:fY)(get:Nat->Option aX):Option Out:=
 (T t).bind λti=>match ti.k,i with
 | .slice e,.t (.sc (.int _ n))=>(T e).bind λei=>match x,b8 with
  | .t (.sl rows),.pc r=>if r.length=ei.size then gO (.du r 0) (0<=n/\rows[n.toNat]? =some r)else none
  | .own k ae len,_=>(get k).bind λo=>if o.sz=ei.size then gO (.ptr k (ae+n.toNat) 0) (0<=n/\n.toNat<len)else none
  |_,_=>none
 | .arr m e,.t (.sc (.int _ n))=>(T e).bind λei=>match x with
  | .ptr k row ae=>gO (.ptr k row (ae+n.toNat*ei.size)) (0<=n/\n.toNat<m)
  | .du r ae=>gO (.du r (ae+n.toNat*ei.size)) (0<=n/\n.toNat<m)
  |_=>none
 |_,_=>none
def KR(x:AV)(j:Nat):Option Out:=
 match x with
 | .ey vs=>(vs[j]?).bind pv
 |_=>none
def uB(T:da)(t:TypeId)(x:AV)(b8:fY):Option Out:=
 (T t).bind λti=>match ti.k,x,b8 with
 | .slice _,.t (.sl rows),.num n=>gO (.t (.sc (.int .i64 n))) (n=(rows.length:Int))
 | .slice _,.own _ _ len,.num n=>gO (.t (.sc (.int .i64 n))) (n=(len:Int))
 | .slice _,.own _ _ len,_=>pv (.t (.sc (.int .i64 (len:Int))))
 | .slice _,.cG,_=>pv (.t (.sc (.int .i64 0)))
 | .str,.t (.sc (.string s)),_=>pv (.t (.sc (.int .i64 (s.size:Int))))
 |_,_,_=>none
def JM(place:Nat->Option (Nat×Nat)):List AV->List (Nat×AV)->Option (List AV)
 |cells,[]=>some cells
 |cells,(j,x)::an=>(place j).bind λ(ae,size)=>(cellsOf x).bind λcs=>
  if cs.length=size/\ae+cs.length<=cells.length then JM place (put' cells ae cs) an else none
def Xc(T:da)(t:TypeId)(parts:List (Nat×AV)):Option Out:=
 (T t).bind λti=>match ti.k with
 | .struct fs=>if fs.all (λ p=>(T p.2).isSome)then
  (JM (λ j=>(fs[j]?).bind λp=>(T p.2).bind λui=>some (p.1,ui.size)) (ti.zero.map cv) parts).bind λcells=>pv (.agg cells)else none
 | .arr _ e=>(T e).bind λei=>(JM (λ j=>some (j*ei.size,ei.size)) (ti.zero.map cv) parts).bind λcells=>pv (.agg cells)
 |_=>none
def PW(size:Nat):List (List AV)->List (Nat×AV)->Option (List (List AV))
 |rows,[]=>some rows
 |rows,(j,x)::an=>(cellsOf x).bind λcs=>if cs.length=size/\j<rows.length then PW size (rows.set j cs) an else none
def xY(T:da)(i:Nat)(t:TypeId)(len:Nat)(parts:List (Nat×AV))(kp:Bool:=false):Option Out:=
 (T t).bind λti=>match ti.k with
 | .slice e=>(T e).bind λei=>if ei.size=0\/len*ei.size>2 ^ 24 then none else
  (PW ei.size (List.replicate len (ei.zero.map cv)) parts).bind λrows=>some ⟨.own (cd i) 0 len,[(cd i,some ⟨ei.size,if kp then rows else dX rows⟩)],[]⟩
 |_=>none
def Xd(T:da)(i:Nat)(e:TypeId):Option Out:=
 (T e).bind λti=>some ⟨.ptr (cd i) 0 0,[(cd i,some ⟨ti.size,[ti.zero.map cv]⟩)],[]⟩
def Fm(i:Nat)(x:AV):Option Out:=
 (cellsOf x).bind λcs=>some ⟨.ptr (cd i) 0 0,[(cd i,some ⟨cs.length,[cs]⟩)],[]⟩
def bnd(d:Int):Option AV->Option Int
 |none=>some d
 |some (.t (.sc (.int _ n)))=>some n
 |_=>none
def Xe(T:da)(t:TypeId)(x:AV)(lo hi:Option AV)(b8:fY)(get:Nat->Option aX):Option Out:=
 (T t).bind λti=>match ti.k with
 | .slice e=>(T e).bind λei=>match x with
  | .own k ae len=>(get k).bind λo=>if o.sz=ei.size then(bnd 0 lo).bind λl=>(bnd len hi).bind λh=>
   gO (.own k (ae+l.toNat) (h.toNat -l.toNat)) (0<=l/\l<=h/\h<=(len:Int))else none
  | .t (.sl rows)=>match b8 with
   | .vi rs=>(bnd 0 lo).bind λl=>(bnd rows.length hi).bind λh=>
    gO (.t (.sl rs)) (0<=l/\l<=h/\h<=(rows.length:Int)/\rs=(rows.drop l.toNat).take (h.toNat -l.toNat)/\(∀ r∈rows,r.length=ei.size))
   |_=>none
  |_=>none
 |_=>none
def Xf(size:Nat)(y:AV)(get:Nat->Option aX):Option (Nat×Prop×List (List AV)):=
 match y with
 | .own k ae len=>(get k).bind λo=>if o.sz=size then some (len,True,(o.rows.drop ae).take len)else none
 | .t (.sl rows)=>some (rows.length,∀r∈rows,r.length=size,aS rows)
 |_=>none
def DZ(T:da)(i:Nat)(t:TypeId)(x y:AV)(b8:fY)(get:Nat->Option aX):Option Out:=
 (T t).bind λti=>match ti.k with
 | .slice e=>(T e).bind λei=>match b8 with
  | .rows rs=>(Xf ei.size y get).bind λ(n,ob,az)=>match x with
   | .own k ae len=>(get k).bind λo=>if o.sz=ei.size/\ae=0 then
    some ⟨.own (cd i) 0 rs.length,[(cd i,some ⟨ei.size,rs⟩),(k,none)],[ob/\o.rows.length=len/\az.length=n/\rs=o.rows++az/\(len+n)*ei.bytes<=140737488355328/\len+n<=maxLen]⟩else none
   | .cG=>some ⟨.own (cd i) 0 rs.length,[(cd i,some ⟨ei.size,rs⟩)],[ob/\az.length=n/\rs=az/\n*ei.bytes<=140737488355328/\n<=maxLen]⟩
   |_=>none
  |_=>none
 |_=>none
def FZ(T:da)(i:Nat)(b:Builtin)(args:List AV)(cQ:List TypeId)(b8:fY)(get:Nat->Option aX):Option Out:=
 match b,args,cQ with
 | .len,[x],[t]=>uB T t x b8
 | .max,args,_=>BC true args
 | .min,args,_=>BC false args
 | .append,[x,y],[t,u]=>if t=u then DZ T i t x y b8 get else none
 |_,_,_=>none
def Gk(t:Bool)(x y:AV):AV:=
 match x,y with
 | .t (.sc (.bool p)),.t (.sc (.bool q))=> .t (.sc (.bool (bif t then p else q)))
 | .t (.sc (.int k p)),.t (.sc (.int k' q))=>if k=k' then .t (.sc (.int k (bif t then p else q)))else bif t then x else y
 |_,_=>bif t then x else y
theorem Xg(t:Bool)(x y:AV):Gk t x y=if t=true then x else y:=by
 unfold Gk;split
 ·cases t<;>rfl
 ·split
  ·rename_i h;subst h;cases t<;>rfl
  ·cases t<;>rfl
 ·cases t<;>rfl
def qz(T:da)(i:Nat)(o:Oper)(b8:fY)(ρ:Operand->AV)(get:Nat->Option aX):Option Out:=
 match o.op with
 | .move x=>pv (ρ x)
 | .assign x=>pv (ρ x)
 | .pick c a b=>match ρ c with | .t (.sc (.bool t))=>pv (Gk t (ρ a) (ρ b)) |_=>none
 | .alloc e=>Xd T i e
 | .box _ x=>Fm i (ρ x)
 | .build t parts=>Xc T t (parts.toList.map λ(j,x)=>(j,ρ x))
 | .buildSlice t len parts=>xY T i t len (parts.toList.map λ(j,x)=>(j,ρ x)) (match b8 with | .row _=>true |_=>false)
 | .load t a=>FY T t (ρ a) b8 get
 | .store t a x=>Xa T t (ρ a) (ρ x) b8 get
 | .binOp op t x y _=>Z4 T op t (ρ x) (ρ y)
 | .unOp op _ x=>H2 op (ρ x)
 | .makeFunc (.func f) first caps=>pv (.fn f (first.toList.map ρ) (caps.toList.map ρ))
 | .slice t x lo hi none=>Xe T t (ρ x) (lo.map ρ) (hi.map ρ) b8 get
 | .fieldAddr t x f=>Be T t (ρ x) f
 | .field t x f=>Xb T t (ρ x) f
 | .indexAddr t x j=>lN T t (ρ x) (ρ j) b8 get
 | .extract x j=>KR (ρ x) j
 | .call { callee:= .builtin b,args:=args,argTypes:=cQ }=>FZ T i b (args.toList.map ρ) cQ.toList b8 get
 |_=>none
def nh(P:Program)(w0:World)(O0:gi)(β:Nat->Option cA)(I:Nat->Prop)(obj:Nat->Option aX)(w:World)(i:Nat)(aa:Out)(r:Result Next):Prop:=
 ∃v' w' β' I',(r= .ok (.value v') w'\/(r= .ok .skip w'/\v'=undef))/\Step β I w (cd i) β' I' w'/\Mem P w0 O0 β' I' (cZ obj aa.upd) w'/\VR P β' w' I' aa.v v'
section
variable {P:Program} {T:da} {w0:World} {O0:gi} {β:Nat->Option cA} {I:Nat->Prop} {obj:Nat->Option aX} {w:World} {i:Nat}
theorem nh.pure(h:Mem P w0 O0 β I obj w){x:AV}{ob:List Prop}{v:Value}(hv:VR P β w I x v):nh P w0 O0 β I obj w i ⟨x,[],ob⟩ (.ok (.value v) w):=
 ⟨v,w,β,I,.inl rfl,Step.refl ..,h,hv⟩
theorem be.length:∀(xs:List AV)(vs:List Value),be P β w I xs vs->vs.length=xs.length
 |[],[],_=>rfl
 |x::xs,v::vs,h=>by simp only[be]at h;simp[be.length xs vs h.2]
 |[],_::_,h=>by simp[be]at h
 |_::_,[],h=>by simp[be]at h
theorem be.get:∀(xs:List AV)(vs:List Value)(j:Nat)(x:AV),be P β w I xs vs->xs[j]? =some x->∃v,vs[j]? =some v/\VR P β w I x v
 |x::xs,v::vs,0,x',h,hj=>by simp only[be]at h;simp at hj;subst hj;exact⟨v,rfl,h.1⟩
 |x::xs,v::vs,j+1,x',h,hj=>by simp only[be]at h;simpa using be.get xs vs j x' h.2 (by simpa using hj)
 |[],_,_,_,_,hj=>by simp at hj
 |_::_,[],_,_,h,_=>by simp[be]at h
theorem be.take:∀(n:Nat)(xs:List AV)(vs:List Value),be P β w I xs vs->be P β w I (xs.take n) (vs.take n)
 | 0,_,_,_=>by simp[be]
 |n+1,[],[],_=>by simp[be]
 |n+1,x::xs,v::vs,h=>by simp only[be]at h;simp only[List.take_succ_cons,be];exact⟨h.1,be.take n xs vs h.2⟩
 |_+1,[],_::_,h=>by simp[be]at h
 |_+1,_::_,[],h=>by simp[be]at h
theorem be.drop:∀(n:Nat)(xs:List AV)(vs:List Value),be P β w I xs vs->be P β w I (xs.drop n) (vs.drop n)
 | 0,_,_,h=>by simpa using h
 |n+1,[],[],_=>by simp[be]
 |n+1,x::xs,v::vs,h=>by simp only[be]at h;simpa using be.drop n xs vs h.2
 |_+1,[],_::_,h=>by simp[be]at h
 |_+1,_::_,[],h=>by simp[be]at h
theorem be.append:∀(xs ys:List AV)(us vs:List Value),be P β w I xs us->be P β w I ys vs->be P β w I (xs++ys) (us++vs)
 |[],ys,[],vs,_,h=>by simpa using h
 |x::xs,ys,u::us,vs,h1,h2=>by simp only[be]at h1;simp only[cons_append,be];exact⟨h1.1,be.append xs ys us vs h1.2 h2⟩
 |[],_,_::_,_,h,_=>by simp[be]at h
 |_::_,_,[],_,h,_=>by simp[be]at h
theorem VR.one{x:AV}{v:Value}(hx:oU x=true)(h:VR P β w I x v):oneCell v:=by
 cases x<;>simp only[VR]at h
 case t x=>
  cases x with
  |sc u=>simp only[TR]at h;rw[h.1];exact h.2
  |sl rows=>simp only[TR]at h;rcases h with ⟨_,_,_,rfl,_⟩ |⟨b,ae,cap,sz,rfl,_⟩<;>exact trivial
 case agg=>simp[oU]at hx
 case ey=>simp[oU]at hx
 case own k ae len=>rcases h with ⟨_,rfl,_⟩ |⟨b,sz,n,cap,a,_,rfl,_⟩<;>exact trivial
 case ptr=>obtain⟨b,sz,n,_,rfl⟩:=h;exact trivial
 case du=>obtain⟨b,o,rfl,_⟩:=h;exact trivial
 case fn=>obtain⟨fs,cs,rfl,_⟩:=h;exact trivial
 case c6=>obtain⟨f,a,b,rfl,_⟩:=h;exact trivial
 case mp=>obtain⟨b,_,rfl⟩:=h;exact trivial
 case cG=>subst h;exact trivial
 case ub=>obtain⟨b,rfl⟩:=h;exact trivial
 case undef=>simp[oU]at hx
theorem cells_one{v:Value}(h:oneCell v):v.cells=#[v]:=by cases v<;>first |rfl |exact h.elim
theorem qY{x:AV}{cs:List AV}{v:Value}(hc:cellsOf x=some cs)(h:VR P β w I x v):be P β w I cs v.cells.toList/\(∀ u∈v.cells.toList,oneCell u):=by
 have single:oU x=true->cs=[x]->be P β w I cs v.cells.toList/\(∀ u∈v.cells.toList,oneCell u):=λhk e=>by
  have h1:=VR.one hk h;rw[cells_one h1,e];simp only[be];exact⟨⟨h,trivial⟩,λu hu=>by simp at hu;rw[hu];exact h1⟩
 cases x<;>simp only[cellsOf,aC,reduceCtorEq]at hc
 case agg cs'=>
  split at hc
  ·injection hc with hc;subst hc;rename_i hall;simp only[VR]at h;obtain⟨vs,rfl,hvs⟩:=h;refine⟨hvs,λu hu=>?_⟩;obtain⟨j,hj⟩:=List.getElem?_of_mem hu;have hlen:=be.length _ _ hvs;have hjl:j<cs'.length:=by
    have:=(fe.1 hj).1;simp only[Value.cells]at this;omega
   obtain⟨u',hu',hv'⟩:=be.get _ _ j _ hvs (dI hjl);simp only[Value.cells]at hj;rw[hj]at hu';injection hu' with hu';subst hu';exact VR.one (all_eq_true.1 hall _ (List.getElem_mem hjl)) hv'
  ·cases hc
 all_goals exact single rfl hc.symm
theorem VR.cv{v:Value}:VR P β w I (cv v) v:=by
 unfold Gb.cv;split
 ·simp[VR]
 ·split
  ·rename_i h;simp only[VR,TR];exact⟨trivial,pO h⟩
  ·simp[VR]
theorem be.cv:∀(vs:List Value),be P β w I (vs.map cv) vs
 |[]=>by simp[be]
 |v::vs=>by simp only[aF,be];exact⟨VR.cv,be.cv vs⟩
theorem cI.kO(cs:List AV)(vs:List Value)(c:Array Value)(ae:Nat)(h:be P β w I cs vs)(h1:∀u∈vs,oneCell u)(hc:∀j u,vs[j]? =some u->c[ae+j]? =some u):cI P β w I cs c ae:=by
 rw[kU];intro j x hx;obtain⟨v,hv,hr⟩:=be.get _ _ j x h hx;exact⟨v,hc j v hv,hr,h1 v (eD hv)⟩
theorem cI.list:∀(cs:List AV)(c:Array Value)(ae:Nat),cI P β w I cs c ae->∃vs:List Value,be P β w I cs vs/\(∀ u∈vs,oneCell u)/\∀j u,vs[j]? =some u->c[ae+j]? =some u
 |[],_,_,_=>⟨[],by simp[be],by simp,by simp⟩
 |x::xs,c,ae,⟨⟨v,h1,h2,h3⟩,h4⟩=>by
  have⟨vs,g1,g2,g3⟩:=cI.list xs c (ae+1) h4;refine⟨v::vs,by simp only[be];exact⟨h2,g1⟩,λu hu=>?_,λj u hj=>?_⟩
  ·rcases aK.1 hu with rfl |hu
   ·exact h3
   ·exact g2 u hu
  ·cases j with
   |zero=>simp at hj;subst hj;simpa using h1
   |succ j=>rw[show ae+(j+1)=ae+1+j by omega];exact g3 j u (by simpa using hj)
theorem de.list:∀(cs:List Tree)(b ae:Nat),de w I cs b ae->∃vs:List Value,be P β w I (cs.map AV.t) vs/\∀j u,vs[j]? =some u->w.cell? ⟨b,ae+j,none⟩=some u
 |[],_,_,_=>⟨[],by simp[be],by simp⟩
 |x::xs,b,ae,h=>by
  simp only[de]at h;obtain⟨⟨v,h1,h2⟩,h4⟩:=h;have⟨vs,g1,g3⟩:=de.list xs b (ae+1) h4;refine⟨v::vs,by simp only[aF,be,VR];exact⟨h2,g1⟩,λj u hj=>?_⟩;cases j with
  |zero=>simp at hj;subst hj;simpa using h1
  |succ j=>rw[show ae+(j+1)=ae+1+j by omega];exact g3 j u (by simpa using hj)
theorem OC{agg:Bool}{size:Nat}{cs:List AV}{v:AV}{vs:List Value}(hp:part' agg size cs=some v)(h:be P β w I cs vs):cs.length=size/\vs.length=size/\
 (agg=true->VR P β w I v (.agg vs.toArray))/\(agg=false->∃u,vs=[u]/\VR P β w I v u):=by
 unfold part' at hp;split at hp
 ·rename_i hl;have hl2:=be.length _ _ h;refine⟨hl,by omega,?_,?_⟩
  ·rintro rfl;simp only[if_true,aC]at hp;subst hp;simp only[VR];exact⟨vs.toArray,rfl,h⟩
  ·rintro rfl;simp only[Bool.false_eq_true,if_false]at hp;split at hp
   ·split at hp
    ·cases hp
     match vs,h with
     |[u],h=>simp only[be]at h;exact⟨u,rfl,h.1⟩
     |[],h=>simp[be]at h
     |_::_::_,h=>simp[be]at h
    ·cases hp
   ·cases hp
 ·cases hp
section types
variable {t:TypeId} {ti:ky} (ht:gS P t ti)
include ht
theorem gS.size:(sizeOf t).run P w= .ok ti.size w:=by
 obtain⟨info,d,z,h1,h2,h3,h4,h5,h6,h7,h8⟩:=ht.ex;simp[sizeOf,typeInfo,h1,h3]
theorem gS.agg:(isAgg t).run P w= .ok ti.agg w:=by
 obtain⟨info,d,z,h1,h2,h3,h4,h5,h6,h7,h8⟩:=ht.ex;rw[<- h7];cases d<;>simp[isAgg,run_underlying h2,pj]
theorem gS.zeroV:∃z,(zeroValue t).run P w= .ok z w/\z.cells.toList=ti.zero:=by
 obtain⟨info,d,z,h1,h2,h3,h4,h5,h6,h7,h8⟩:=ht.ex;exact⟨z,by simp[zeroValue,typeInfo,h1,h5],h6⟩
end types
theorem addr_add(b o n:Nat):(⟨b,o,none⟩:Addr).add n=⟨b,o+n,none⟩:=by unfold Addr.add;split<;>simp_all
theorem Bf{t:TypeId}{ti:ky}(ht:gS P t ti){b o:Nat}{cs:List AV}{v:AV}{vs:List Value}(hp:part' ti.agg ti.size cs=some v)(hr:be P β w I cs vs)
 (hc:∀j u,vs[j]? =some u->w.cell? ⟨b,o+j,none⟩=some u):∃u,(loadVar t ⟨b,o,none⟩).run P w= .ok u w/\VR P β w I v u:=by
 have⟨h1,h2,h3,h4⟩:=OC hp hr;unfold loadVar;simp only[Sem.run_bind,ht.agg (w:=w),Result.andThen_ok];cases hag:ti.agg with
 |true=>
  refine⟨.agg vs.toArray,?_,h3 hag⟩;simp only[if_true,Sem.run_bind,ht.size (w:=w),Result.andThen_ok];rw[<- h2,run_loadCells_list w ⟨b,o,none⟩ vs (λ j u hj=>by rw[addr_add];exact hc j u hj)];simp
 |false=>
  obtain⟨u,rfl,hu⟩:=h4 hag;refine⟨u,?_,hu⟩;have:=hc 0 u rfl;simp only[Nat.add_zero]at this;simp[this]
theorem UA(hT:fE P T)(h:Mem P w0 O0 β I obj w){t:TypeId}{x:AV}{b8:fY}{get:Nat->Option aX}{aa:Out}{v:Value}(hg:∀k o,get k=some o->obj k=some o)
 (ha:FY T t x b8 get=some aa) (cr:aa.ob) (hx:VR P β w I x v):∃u,(Instr.loadAt t v).run P w= .ok u w/\VR P β w I aa.v u/\aa.upd=[]:=by
 unfold FY at ha;cases hti:T t with
 |none=>simp[hti]at ha
 |some ti=>
  have ht:=hT t ti hti;simp only[hti,ah]at ha;cases x<;>simp only[reduceCtorEq]at ha
  case ptr k row ae=>
   cases hk:get k with
   |none=>simp[hk]at ha
   |some o=>
    simp only[hk,ah]at ha;have key:∀r,o.rows[row]? =some r->∀u,part' ti.agg ti.size ((r.drop ae).take ti.size)=some u->∃z,(Instr.loadAt t v).run P w= .ok z w/\VR P β w I u z:=by
     intro r hr u hp;simp only[VR]at hx;obtain⟨b,sz,n,h1,rfl⟩:=hx;have⟨B,hB,hO⟩:=h.cw k o (hg k o hk);rw[h1]at hB;cases hB;obtain⟨hs,c,e,hc,_,hO⟩:=hO;have h4:=(bo.get row _ _ _ _ _ hO hr).2;rw[Nat.zero_add]at h4;obtain⟨vs,g1,g2,g3⟩:=cI.list _ _ _ (cI.take ti.size _ _ _ (cI.drop ae _ _ _ h4));obtain⟨z,hz,hz2⟩:=Bf ht (b:=b) (o:=row*sz+ae) hp g1 (λ j u hj=>by simp[World.cell?,hc,g3 j u hj]);exact⟨z,by simp[Instr.loadAt,Instr.sureAddr,hz],hz2⟩
    have fin:∀r ob,o.rows[row]? =some r->((part' ti.agg ti.size ((r.drop ae).take ti.size)).bind λv=>some (⟨v,[],ob⟩:Out))=some aa->∃u,(Instr.loadAt t v).run P w= .ok u w/\VR P β w I aa.v u/\aa.upd=[]:=by
     intro r ob hr hh;cases hp:part' ti.agg ti.size ((r.drop ae).take ti.size)with
     |none=>simp[hp]at hh
     |some u=>
      simp only[hp,ah,aC]at hh;subst hh;have⟨z,hz⟩:=key r hr u hp;exact⟨z,hz.1,hz.2,rfl⟩
    cases b8
    case row r=>
     have hr:o.rows[row]? =some r:=by
      cases hp:part' ti.agg ti.size ((r.drop ae).take ti.size)with
      |none=>simp[hp]at ha
      |some u=>simp only[hp,ah,gO,aC]at ha;subst ha;exact cr
     exact fin r _ hr ha
    all_goals
     cases hr:o.rows[row]? with
     |none=>simp[hr]at ha
     |some r=>
      simp only[hr,ah]at ha;exact fin r _ hr ha
  case du r ae=>
   cases hp:part' ti.agg ti.size (((r.drop ae).take ti.size).map AV.t)with
   |none=>rw[hp]at ha;simp at ha
   |some u=>
    simp only[hp,ah,pv,aC]at ha;subst ha;simp only[VR]at hx;obtain⟨b,o,rfl,hI,hr⟩:=hx;have hdrop:∀(n:Nat) (r:List Tree) (o:Nat),de w I r b o->de w I (r.drop n) b (o+n):=by
     intro n
     induction n with
     |zero=>intro r o h;simpa using h
     |succ n ih=>intro r o h;cases r with
      |nil=>simp[de]
      |cons x xs=>simp only[de]at h;rw[List.drop_succ_cons,show o+(n+1)=o+1+n by omega];exact ih xs (o+1) h.2
    have htake:∀(n:Nat) (r:List Tree) (o:Nat),de w I r b o->de w I (r.take n) b o:=by
     intro n
     induction n with
     |zero=>intro r o h;simp[de]
     |succ n ih=>intro r o h;cases r with
      |nil=>simp[de]
      |cons x xs=>simp only[de]at h;simp only[List.take_succ_cons,de];exact⟨h.1,ih xs (o+1) h.2⟩
    obtain⟨vs,g1,g3⟩:=de.list (P:=P) (β:=β) _ _ _ (htake ti.size _ _ (hdrop ae r o hr));have⟨z,hz,hz2⟩:=Bf ht (b:=b) (o:=o+ae) hp g1 g3;exact⟨z,by simp[Instr.loadAt,Instr.sureAddr,hz],hz2,rfl⟩
theorem aeQ(r:List AV)(ae:Nat)(cs:List AV)(h:ae+cs.length<=r.length):(put' r ae cs).length=r.length:=by simp[put',length_take,length_drop];omega
theorem amq(r:List AV)(ae:Nat)(cs:List AV)(h:ae+cs.length<=r.length)(j:Nat):(put' r ae cs)[j]? =if j<ae then r[j]? else if j<ae+cs.length then cs[j -ae]? else r[j]? :=by
 unfold put';have h1:(r.take ae).length=ae:=by simp[length_take];omega
 split
 ·rw[aN,List.getElem?_append_left (by omega),List.getElem?_take];simp[*]
 ·split
  ·rw[aN,fO (by omega),h1,List.getElem?_append_left (by omega)]
  ·rw[fO (by simp;omega)];simp only[bW,h1,List.getElem?_drop];congr 1;omega
theorem Sn(h:Mem P w0 O0 β I obj w){t:TypeId}{ti:ky}(ht:gS P t ti){k:Nat}{o:aX}{b sz n:Nat}(hk:obj k=some o)(hβ:β k=some (.at b sz n))
 {row ae:Nat} {r:List AV} {cs:List AV} {v:Value} (hr:o.rows[row]? =some r) (hl:ae+cs.length<=r.length) (hlen:cs.length=ti.size) (hcs:be P β w I cs v.cells.toList) (h1:∀u∈v.cells.toList,oneCell u):
 ∃w',(storeVar t ⟨b,row*sz+ae,none⟩ v).run P w= .ok () w'/\Same I w w'/\Mem P w0 O0 β I (cZ obj [(k,some ⟨o.sz,o.rows.set row (put' r ae cs)⟩)]) w':=by
 have⟨B,hB,hO⟩:=h.cw k o hk;rw[hβ]at hB;cases hB;obtain⟨hs,c,e,hc,hn,hO⟩:=hO;have hO':=hO;rw[wC]at hO;have hrow:=hO row r hr;simp only[Nat.zero_add]at hrow;have hvl:=be.length _ _ hcs;have hfit:row*sz+ae+cs.length<=c.size:=by
  by_cases h0:r.length=0
  ·have:ae+cs.length=0:=(by omega);have hz:sz=0:=(by omega);have:row*sz=0:=(by rw[hz];simp);omega
  ·have hlast:=(kU _ _ _).1 hrow.2 (r.length -1) _ (dI (by omega));obtain⟨u,hu,_⟩:=hlast;have:=(Array.getElem?_eq_some_iff.1 hu).1;omega
 have hst:=run_storeCells_at P b (row*sz+ae) e v.cells.toList 0 c w hc (by omega) (λ u hu=>by
  have:=h1 u hu;cases u<;>first |rfl |exact this.elim)
 simp only[Nat.add_zero]at hst;generalize hc':(List.take (row*sz+ae) c.toList++v.cells.toList++List.drop (row*sz+ae+v.cells.toList.length) c.toList).toArray=c' at hst;have hsize:c'.size=c.size:=by rw[<- hc'];simp[length_take,length_drop];simp at hvl;omega
 refine⟨w.setRow b c',?_,?_⟩
 ·unfold storeVar;simp only[Sem.run_bind,ht.size (w:=w),Result.andThen_ok];rw[aM (by rw[<- Array.length_toList];omega)];simp only[hst]
 ·have hget:∀j,c'[j]? =if j<row*sz+ae then c[j]? else if j<row*sz+ae+cs.length then v.cells.toList[j -(row*sz+ae)]? else c[j]? :=by
   intro j;rw[<- hc'];have h1:(c.toList.take (row*sz+ae)).length=row*sz+ae:=(by simp[length_take];omega);simp only[List.getElem?_toArray];split
   ·rw[aN,List.getElem?_append_left (by omega),List.getElem?_take,aP (by omega)];simp
   ·split
    ·rw[aN,fO (by omega),h1,List.getElem?_append_left (by omega)]
    ·rw[fO (by simp only[bW,h1];omega)];simp only[bW,h1,List.getElem?_drop,Array.getElem?_toList];congr 1;omega
  refine Mem.write h hk hβ (c':=c') (e:=e) (setRow_heap w b c c' e (0,0) hc) (λ b' hb=>setRow_other w b b' c' hb) (by simp) rfl rfl rfl hs (by omega) ?_;rw[<- hs,wC];simp only;intro i' r' hi';rw[List.getElem?_set]at hi';have other:∀(i':Nat)(r':List AV),i'≠row->o.rows[i']? =some r'->r'.length=sz/\cI P β w I r' c' (0+i'*sz):=by
   intro i' r' hne hi';have hh:=hO i' r' hi';simp only[Nat.zero_add]at hh;refine⟨hh.1,?_⟩;rw[Nat.zero_add,kU];intro j x hx;obtain⟨u,hu⟩:=(kU _ _ _).1 hh.2 j x hx;have hj:j<sz:=(by have:=(fe.1 hx).1;omega);refine⟨u,?_,hu.2⟩;rw[hget];rcases Nat.lt_or_gt_of_ne hne with hlt |hgt
   ·have:(i'+1)*sz<=row*sz:=Nat.mul_le_mul_right _ hlt;rw[Nat.add_mul]at this;rw[aP (by omega)];exact hu.1
   ·have:(row+1)*sz<=i'*sz:=Nat.mul_le_mul_right _ hgt;rw[Nat.add_mul]at this;rw[aM (by omega),aM (by omega)];exact hu.1
  split at hi'
  ·rename_i hrow';subst hrow';split at hi'
   ·injection hi' with hi';subst hi';refine⟨by rw[aeQ r ae cs hl];exact hrow.1,?_⟩;rw[Nat.zero_add,kU];intro j x hx;rw[amq r ae cs hl]at hx;rw[hget];split at hx
    ·rw[aP (by omega)];exact(kU _ _ _).1 hrow.2 j x hx
    ·split at hx
     ·obtain⟨u,hu,hr2⟩:=be.get _ _ _ _ hcs hx;rw[aM (by omega),aP (by omega)];refine⟨u,?_,hr2,h1 u (eD hu)⟩;rw[<- hu];congr 1;omega
     ·rw[aM (by omega),aM (by omega)];exact(kU _ _ _).1 hrow.2 j x hx
   ·cases hi'
  ·exact other i' r' (by omega) hi'
theorem acN(hT:fE P T)(h:Mem P w0 O0 β I obj w){t:TypeId}{x y:AV}{b8:fY}{get:Nat->Option aX}{aa:Out}{v u:Value}(hg:∀k o,get k=some o->obj k=some o)
 (ha:Xa T t x y b8 get=some aa) (cr:aa.ob) (hx:VR P β w I x v) (hy:VR P β w I y u):
 ∃w',(Instr.storeAt t v u).run P w= .ok () w'/\Same I w w'/\Mem P w0 O0 β I (cZ obj aa.upd) w'/\aa.v= .undef:=by
 unfold Xa at ha;cases hti:T t with
 |none=>simp[hti]at ha
 |some ti=>
  have ht:=hT t ti hti;simp only[hti,ah]at ha;cases hcs:cellsOf y with
  |none=>simp[hcs]at ha
  |some cs=>
   simp only[hcs,ah]at ha;have⟨hv1,hv2⟩:=qY hcs hy;split at ha
   ·rename_i hlen;cases x<;>simp only[reduceCtorEq]at ha
    case ptr k row ae=>
     cases hk:get k with
     |none=>simp[hk]at ha
     |some o=>
      simp only[hk,ah]at ha;simp only[VR]at hx;obtain⟨b,sz,n,hβ,rfl⟩:=hx;have fin:∀r,o.rows[row]? =some r->ae+cs.length<=r.length->∃w',(Instr.storeAt t (.pointer (some ⟨b,row*sz+ae,none⟩)) u).run P w= .ok () w'/\Same I w w'/\Mem P w0 O0 β I (cZ obj [(k,some ⟨o.sz,o.rows.set row (put' r ae cs)⟩)]) w':=by
       intro r hr hl;have⟨w',h1,h2,h3⟩:=Sn h ht (hg k o hk) hβ hr hl hlen hv1 hv2;exact⟨w',by simp[Instr.storeAt,Instr.sureAddr,h1],h2,h3⟩
      cases b8
      case set r rs=>
       simp only at ha;split at ha
       ·rename_i hl;cases ha;obtain⟨hr,hrs⟩:=cr;have⟨w',h1,h2,h3⟩:=fin r hr hl;subst hrs;exact⟨w',h1,h2,h3.s4,rfl⟩
       ·cases ha
      all_goals
       cases hr:o.rows[row]? with
       |none=>simp[hr]at ha
       |some r=>
        simp only[hr,ah]at ha;split at ha
        ·rename_i hl;cases ha;have⟨w',h1,h2,h3⟩:=fin r hr hl;exact⟨w',h1,h2,h3,rfl⟩
        ·cases ha
   ·cases ha
end
section
variable {P:Program} {T:da} {w0:World} {O0:gi} {β:Nat->Option cA} {I:Nat->Prop} {obj:Nat->Option aX} {w:World} {i:Nat}
theorem PX(h:Mem P w0 O0 β I obj w)(hn:β (cd i)=none){e:TypeId}{v:Value}{cs:List AV}(hcs:be P β w I cs v.cells.toList)(h1:∀u∈v.cells.toList,oneCell u):
 ∃w' β',(newVar e v).run P w= .ok ⟨w.heap.size,0,none⟩ w'/\Step β I w (cd i) β' I w'/\Mem P w0 O0 β' I (cZ obj [(cd i,some ⟨cs.length,[cs]⟩)]) w'/\VR P β' w' I (.ptr (cd i) 0 0) (.pointer (some ⟨w.heap.size,0,none⟩)):=by
 obtain⟨hS,hM⟩:=Mem.alloc (o:=⟨cs.length,[cs]⟩) (c:=v.cells) (e:=e) h hn (by
  simp only[bo,and_true,true_and];exact cI.kO cs _ _ 0 hcs h1 (λ j u hj=>by simpa using hj))
 refine⟨_,_,?_,hS,hM,?_⟩
 ·simp only[newVar,newRow,Sem.run_bind,run_newObj,Result.andThen_ok,Sem.run_pure];rfl
 ·simp only[VR];exact⟨w.heap.size,cs.length,v.cells.size,by simp[ins],by simp⟩
theorem acO(hT:fE P T)(h:Mem P w0 O0 β I obj w)(hn:β (cd i)=none){e:TypeId}{aa:Out}(ha:Xd T i e=some aa):
 ∃u w' β',(Instr.alloc e true (.tuple #[])).run P w= .ok u w'/\Step β I w (cd i) β' I w'/\Mem P w0 O0 β' I (cZ obj aa.upd) w'/\VR P β' w' I aa.v u:=by
 unfold Xd at ha;cases hti:T e with
 |none=>simp[hti]at ha
 |some ti=>
  have ht:=hT e ti hti;simp only[hti,ah,aC]at ha;subst ha;have⟨z,hz,hz2⟩:=ht.zeroV (w:=w);obtain⟨w',β',h1,h2,h3,h4⟩:=PX (i:=i) (e:=e) (v:=z) (cs:=ti.zero.map cv) h hn (by rw[hz2];exact be.cv _) (λ u hu=>pO (all_eq_true.1 ht.one u (hz2 ▸ hu)));have hl:(ti.zero.map cv).length=ti.size:=by simp[ht.len]
  rw[hl]at h3;exact⟨_,w',β',by simp[Instr.alloc,hz,h1],h2,h3,h4⟩
theorem ahe(h:Mem P w0 O0 β I obj w)(hn:β (cd i)=none){e:TypeId}{x:AV}{v:Value}{aa:Out}(ha:Fm i x=some aa)(hx:VR P β w I x v):
 ∃u w' β',(Instr.box e v).run P w= .ok u w'/\Step β I w (cd i) β' I w'/\Mem P w0 O0 β' I (cZ obj aa.upd) w'/\VR P β' w' I aa.v u:=by
 unfold Fm at ha;cases hcs:cellsOf x with
 |none=>simp[hcs]at ha
 |some cs=>
  simp only[hcs,ah,aC]at ha;subst ha;have⟨hv1,hv2⟩:=qY hcs hx;have⟨w',β',h1,h2,h3,h4⟩:=PX (i:=i) (e:=e) h hn hv1 hv2;exact⟨_,w',β',by simp[Instr.box,h1],h2,h3,h4⟩
theorem aeR(hT:fE P T){t:TypeId}{f ae:Nat}{ui:ky}(hf:DY T t f=some (ae,ui)):
 ∃(fa:Array Field)(fd:Field),P.underlying t=some (.struct fa)/\fa[f]? =some fd/\fd.offset=ae/\gS P fd.type ui/\ui.size≠0:=by
 unfold DY at hf;cases hti:T t with
 |none=>simp[hti]at hf
 |some ti=>
  have ht:=hT t ti hti;simp only[hti,ah]at hf;cases hk:ti.k<;>simp only[hk,reduceCtorEq]at hf
  case struct fs=>
   cases hj:fs[f]? with
   |none=>simp[hj]at hf
   |some p=>
    obtain⟨o,u⟩:=p;simp only[hj,ah]at hf;cases hu:T u with
    |none=>simp[hu]at hf
    |some ui'=>
     simp only[hu,ah]at hf;split at hf
     ·cases hf
     ·rename_i hne;simp only[aC,Prod.mk.injEq]at hf;obtain⟨rfl,rfl⟩:=hf;obtain⟨info,d,z,h1,h2,h3,h4,h5,h6,h7,h8⟩:=ht.ex;rw[hk]at h8;obtain⟨fa,rfl,hfs⟩:=h8;rw[<- hfs]at hj;simp only[List.getElem?_map,Array.getElem?_toList,fq,Prod.mk.injEq]at hj;obtain⟨fd,g1,g2,g3⟩:=hj;exact⟨fa,fd,h2,g1,g2,g3 ▸ hT u _ hu,hne⟩
theorem Sq(hT:fE P T){t:TypeId}{x:AV}{f:Nat}{v:Value}{aa:Out}(ha:Be T t x f=some aa)(hx:VR P β w I x v):
 ∃u,(Instr.fieldAt t v f).run P w= .ok u w/\VR P β w I aa.v u/\aa.upd=[]:=by
 unfold Be at ha;cases hf:DY T t f with
 |none=>simp[hf]at ha
 |some p=>
  obtain⟨d,ui⟩:=p;simp only[hf,ah]at ha;have⟨fa,fd,h1,h2,h3,h4,h5⟩:=aeR hT hf;have hrun:∀b o,(Instr.fieldAt t (.pointer (some ⟨b,o,none⟩)) f).run P w= .ok (.pointer (some ⟨b,o+d,none⟩)) w:=λb o=>by simp[Instr.fieldAt,run_underlying h1,h2,Instr.sureAddr,fieldPlace,h4.size (w:=w),h5,h3,addr_add]
  cases x<;>simp only[reduceCtorEq]at ha
  case ptr k row ae=>
   simp only[pv,aC]at ha;subst ha;simp only[VR]at hx ⊢;obtain⟨b,sz,n,g1,rfl⟩:=hx;exact⟨_,hrun _ _,⟨b,sz,n,g1,by rw[Nat.add_assoc]⟩,trivial⟩
  case du r ae=>
   simp only[pv,aC]at ha;subst ha;simp only[VR]at hx ⊢;obtain⟨b,o,rfl,g1,g2⟩:=hx;exact⟨_,hrun _ _,⟨b,o,by rw[Nat.add_assoc],g1,g2⟩,trivial⟩
theorem aeS{t:TypeId}{ti:ky}(ht:gS P t ti){cs:List AV}{vs:List Value}{d:Nat}{v:AV}(hp:part' ti.agg ti.size ((cs.drop d).take ti.size)=some v)(hr:be P β w I cs vs):
 ∃u,(part t vs.toArray d).run P w= .ok u w/\VR P β w I v u:=by
 obtain⟨h1,h2,h3,h4⟩:=OC hp (be.take ti.size _ _ (be.drop d _ _ hr));unfold Go.part;simp only[Sem.run_bind,ht.agg (w:=w),Result.andThen_ok];cases hag:ti.agg with
 |true=>
  refine⟨.agg ((vs.drop d).take ti.size).toArray,?_,h3 hag⟩;simp only[if_true,Sem.run_bind,ht.size (w:=w),Result.andThen_ok,Sem.run_pure];congr 2;apply Array.ext';simp[List.extract_eq_take_drop]
 |false=>
  have⟨u,hu,hv⟩:=h4 hag;refine⟨u,?_,hv⟩;have:vs[d]? =some u:=by
   have h5:((vs.drop d).take ti.size)[0]? =some u:=(by rw[hu];rfl);rw[List.getElem?_take]at h5;split at h5
   ·simpa using h5
   ·cases h5
  simp[this]
theorem acP(hT:fE P T){t:TypeId}{x:AV}{f:Nat}{v:Value}{aa:Out}(ha:Xb T t x f=some aa)(hx:VR P β w I x v):
 ∃u,(Instr.field t v f).run P w= .ok u w/\VR P β w I aa.v u/\aa.upd=[]:=by
 unfold Xb at ha;cases hf:DY T t f with
 |none=>simp[hf]at ha
 |some p=>
  obtain⟨d,ui⟩:=p;simp only[hf,ah]at ha;have⟨fa,fd,h1,h2,h3,h4,h5⟩:=aeR hT hf;cases x<;>simp only[reduceCtorEq]at ha
  case agg cs=>
   cases hp:part' ui.agg ui.size ((cs.drop d).take ui.size)with
   |none=>simp[hp]at ha
   |some y=>
    simp only[hp,ah,pv,aC]at ha;subst ha;simp only[VR]at hx;obtain⟨vs,rfl,hvs⟩:=hx;have⟨u,hu,hv⟩:=aeS h4 hp hvs;refine⟨u,?_,hv,rfl⟩;simp[Instr.field,run_underlying h1,h2,h3,asAgg];simpa using hu
theorem cj.get{b sz:Nat}:∀(n:Nat)(rows:List (List Tree))(ae:Nat)(r:List Tree),cj w I rows b ae sz->rows[n]? =some r->r.length=sz/\de w I r b (ae+n*sz)
 | 0,r::rs,ae,r',h,hn=>by simp only[cj]at h;simp at hn;subst hn;exact⟨h.1,by simpa using h.2.1⟩
 |n+1,r::rs,ae,r',h,hn=>by
  simp only[cj]at h;have:=cj.get n rs (ae+sz) r' h.2.2 (by simpa using hn);rw[show ae+(n+1)*sz=ae+sz+n*sz by rw[Nat.add_mul];omega];exact this
 |_,[],_,_,_,hn=>by simp at hn
theorem iX{t e:TypeId}{ti:ky}(ht:gS P t ti)(hk:ti.k= .slice e):P.underlying t=some (.slice e):=by
 obtain⟨info,d,z,h1,h2,h3,h4,h5,h6,h7,h8⟩:=ht.ex;rw[hk]at h8;rw[h2,h8]
theorem F3{t e:TypeId}{n:Nat}{ti:ky}(ht:gS P t ti)(hk:ti.k= .arr n e):P.underlying t=some (.array n e):=by
 obtain⟨info,d,z,h1,h2,h3,h4,h5,h6,h7,h8⟩:=ht.ex;rw[hk]at h8;rw[h2,h8]
theorem Sr(hT:fE P T)(h:Mem P w0 O0 β I obj w){t:TypeId}{x j:AV}{b8:fY}{get:Nat->Option aX}{v u:Value}{aa:Out}(hg:∀k o,get k=some o->obj k=some o)
 (ha:lN T t x j b8 get=some aa) (cr:aa.ob) (hx:VR P β w I x v) (hj:VR P β w I j u):
 ∃z,(Instr.indexAt t v u).run P w= .ok z w/\VR P β w I aa.v z/\aa.upd=[]:=by
 unfold lN at ha;cases hti:T t with
 |none=>simp[hti]at ha
 |some ti=>
  have ht:=hT t ti hti;simp only[hti,ah]at ha;split at ha
  ·rename_i e kd n hk;simp only[VR,TR]at hj;obtain⟨rfl,_⟩:=hj;have d8:=iX ht hk;cases ed:T e with
   |none=>simp[ed]at ha
   |some ei=>
    have he:=hT e ei ed;simp only[ed,ah]at ha;have hrun:∀(b o len cap:Nat),0<=n->n.toNat<len->(Instr.indexAt t (.slice (some ⟨b,o,none⟩) len cap) (.int kd n)).run P w= .ok (.pointer (some ⟨b,o+n.toNat*ei.size,none⟩)) w:=by
     intro b o len cap h0 h1;have h2:n<(len:Int):=(by omega);simp[Instr.indexAt,asIntOf,run_underlying d8,h0,h2,he.size (w:=w),addr_add]
    split at ha
    ·rename_i rows r;split at ha
     ·rename_i hlen;simp only[gO,aC]at ha;subst ha;obtain⟨h0,hr⟩:=cr;simp only[VR,TR]at hx;rcases hx with ⟨rfl,_⟩ |⟨b,ae,cap,sz,rfl,h1,h2,h3⟩
      ·simp at hr
      ·have hlt:=(fe.1 hr).1;obtain⟨g1,g2⟩:=cj.get _ _ _ _ h3 hr;refine⟨_,hrun _ _ _ _ h0 hlt,?_,rfl⟩;simp only[VR];exact⟨b,ae+n.toNat*sz,by rw[<- g1,hlen];rfl,h2,g2⟩
     ·cases ha
    ·rename_i k ae len;cases hk2:get k with
     |none=>simp[hk2]at ha
     |some o=>
      simp only[hk2,ah]at ha;split at ha
      ·rename_i hsz;simp only[gO,aC]at ha;subst ha;obtain⟨h0,hlt⟩:=cr;simp only[VR]at hx ⊢;rcases hx with ⟨_,_,_,rfl⟩ |⟨b,sz,m,cap,a,h1,rfl,h2,h3,h4⟩
       ·omega
       ·have⟨B,hB,hO⟩:=h.cw k o (hg k o hk2);rw[h1]at hB;cases hB;have hs:sz=o.sz:=hO.1;refine⟨_,hrun _ _ _ _ h0 hlt,⟨b,sz,m,h1,?_⟩,trivial⟩;rw[h4 (by omega),hs,hsz,Nat.add_mul];rfl
      ·cases ha
    ·cases ha
  ·rename_i m e kd n hk;simp only[VR,TR]at hj;obtain⟨rfl,_⟩:=hj;have d8:=F3 ht hk;cases ed:T e with
   |none=>simp[ed]at ha
   |some ei=>
    have he:=hT e ei ed;simp only[ed,ah]at ha;have hrun:∀(b o:Nat),0<=n->n.toNat<m->(Instr.indexAt t (.pointer (some ⟨b,o,none⟩)) (.int kd n)).run P w= .ok (.pointer (some ⟨b,o+n.toNat*ei.size,none⟩)) w:=by
     intro b o h0 h1;have h2:n<(m:Int):=(by omega);simp[Instr.indexAt,asIntOf,run_underlying d8,Instr.sureAddr,h0,h2,he.size (w:=w),addr_add]
    cases x<;>simp only[reduceCtorEq]at ha
    case ptr k row ae=>
     simp only[gO,aC]at ha;subst ha;simp only[VR]at hx ⊢;obtain⟨b,sz,q,g1,rfl⟩:=hx;exact⟨_,hrun _ _ cr.1 cr.2,⟨b,sz,q,g1,by rw[Nat.add_assoc]⟩,trivial⟩
    case du r ae=>
     simp only[gO,aC]at ha;subst ha;simp only[VR]at hx ⊢;obtain⟨b,o,rfl,g1,g2⟩:=hx;exact⟨_,hrun _ _ cr.1 cr.2,⟨b,o,by rw[Nat.add_assoc],g1,g2⟩,trivial⟩
  ·cases ha
theorem Xh{x:AV}{j:Nat}{v:Value}{aa:Out}(ha:KR x j=some aa)(hx:VR P β w I x v):∃u,(Instr.extract v j).run P w= .ok u w/\VR P β w I aa.v u/\aa.upd=[]:=by
 unfold KR at ha;split at ha
 ·rename_i vs;simp only[VR]at hx;obtain⟨us,rfl,CL⟩:=hx;cases hj:vs[j]? with
  |none=>simp[hj]at ha
  |some y=>
   simp only[hj,ah,pv,aC]at ha;subst ha;obtain⟨u,hu,hv⟩:=be.get _ _ j y CL hj;refine⟨u,?_,hv,rfl⟩;have:us[j]? =some u:=(by simpa using hu);simp[Instr.extract,this]
 ·cases ha
end
section
variable {P:Program} {T:da} {w0:World} {O0:gi} {β:Nat->Option cA} {I:Nat->Prop} {obj:Nat->Option aX} {w:World} {i:Nat}
theorem acQ{op:BinOp}{t:TypeId}{k yk:IntKind}{a b:Int}{v:Value}{ob:List Prop}(hk:k=yk\/op= .shl\/op= .shr)(h:W9 op k a b=some (v,ob))(cr:jV ob):
 (binOp op t (.int k a) (.int yk b)).run P w= .ok v w/\oneCell v:=by
 cases op<;>simp only[W9,aC,Prod.mk.injEq]at h<;>obtain⟨rfl,rfl⟩:=h
 case shl=>exact⟨by rw[binOp_shl,shift_shl k yk a b cr.1 cr.2];simp,trivial⟩
 case shr=>exact⟨by rw[binOp_shr,shift_shr k yk a b cr.1 cr.2];simp,trivial⟩
 all_goals
  have hk':k=yk:=by rcases hk with h |h |h<;>first |exact h |cases h
  subst hk'
 case add=>exact⟨by simp[binOp_add,Op.intArith],trivial⟩
 case sub=>exact⟨by simp[binOp_sub,Op.intArith],trivial⟩
 case mul=>exact⟨by simp[binOp_mul,Op.intArith],trivial⟩
 case quo=>exact⟨by have h0:b≠0:=cr;rw[binOp_quo];simp[Op.intDiv,h0],trivial⟩
 case rem=>exact⟨by have h0:b≠0:=cr;rw[binOp_rem];simp[Op.intDiv,h0],trivial⟩
 case and=>exact⟨by rw[binOp_and,intBits_and];simp,trivial⟩
 case or=>exact⟨by rw[binOp_or,intBits_or];simp,trivial⟩
 case xor=>exact⟨by rw[binOp_xor,intBits_xor];simp,trivial⟩
 case andNot=>exact⟨by rw[binOp_andNot,intBits_andNot];simp,trivial⟩
 case eql=>exact⟨by rw[binOp_eql];simp,trivial⟩
 case neq=>exact⟨by rw[binOp_neq];simp,trivial⟩
 case lss=>exact⟨by rw[binOp_lss];simp,trivial⟩
 case leq=>exact⟨by rw[binOp_leq];simp,trivial⟩
 case gtr=>exact⟨by rw[binOp_gtr];simp,trivial⟩
 case geq=>exact⟨by rw[binOp_geq];simp,trivial⟩
theorem acR{f:Field}{kd:Nat}{x y:AV}{b:Bool}{u v:Value}(hf:WZ P f kd=true)(h:OA kd x y=some b)(hx:VR P β w I x u)(hy:VR P β w I y v)(d:Nat):
 (Op.equalIn (d + 1) f.type u v).run P w = .ok b w /\ f.name ≠ "_" /\ (isAgg f.type).run P w = .ok false w := by
 unfold WZ at hf;simp only[aD,bne_iff_ne,ne_eq]at hf;obtain⟨hname,hf⟩:=hf;unfold OA at h;split at h
 ·split at h
  ·rename_i hk;subst hk;cases h;simp only[VR,TR]at hx hy;obtain⟨rfl,_⟩:=hx;obtain⟨rfl,_⟩:=hy;split at hf<;>first |(rename_i hu;exact⟨run_equalIn_int w d _ _ _ _ _ hu,hname,by simp[isAgg,run_underlying hu]⟩) |(simp at hf)
  ·cases h
 ·cases h;simp only[VR,TR]at hx hy;obtain⟨rfl,_⟩:=hx;obtain⟨rfl,_⟩:=hy;split at hf<;>first |(rename_i hu;exact⟨run_equalIn_bool w d _ _ _ hu,hname,by simp[isAgg,run_underlying hu]⟩) |(simp at hf)
 ·cases h;simp only[VR,TR]at hx hy;obtain⟨rfl,_⟩:=hx;obtain⟨rfl,_⟩:=hy;split at hf<;>first |(rename_i hu;exact⟨run_equalIn_string w d _ _ _ hu,hname,by simp[isAgg,run_underlying hu]⟩) |(simp at hf)
 ·cases h
theorem NN(d:Nat)(us vs:List Value):∀(fs:List Field)(ks:List Nat)(n:Nat)(xs ys:List AV)(b:Bool),eI P n fs ks=true->uz ks xs ys=some b->
 be P β w I xs (us.drop n)->be P β w I ys (vs.drop n)->(Op.eqFields (d+1) us.toArray vs.toArray fs).run P w= .ok b w
 |[],[],n,xs,ys,b,_,h,_,_=>by
  cases xs<;>cases ys<;>simp[uz]at h;subst h;simp[Op.eqFields]
 |f::fs,k::ks,n,xs,ys,b,hc,h,hx,hy=>by
  cases xs<;>cases ys<;>simp only[uz,reduceCtorEq]at h;rename_i x xs y ys;simp only[eI,aD,beq_iff_eq]at hc;obtain⟨⟨hoff,hcf⟩,hrest⟩:=hc;cases h1:OA k x y with
  |none=>simp[h1]at h
  |some a=>
   cases h2:uz ks xs ys with
   |none=>simp[h1,h2]at h
   |some c=>
    simp only[h1,h2,ah,aC]at h;subst h;have t4:∀(us:List Value) (xs:List AV) (x:AV),be P β w I (x::xs) (us.drop n)->∃u,us[n]? =some u/\VR P β w I x u/\be P β w I xs (us.drop (n+1)):=by
     intro us xs x hx;have hlt:n<us.length:=by
      have:=be.length _ _ hx;simp at this;omega
     rw[List.drop_eq_getElem_cons hlt]at hx;simp only[be]at hx;exact⟨us[n],dI hlt,hx.1,hx.2⟩
    obtain⟨u,hu,hxu,hxs⟩:=t4 us xs x hx;obtain⟨v,hv,hyv,hys⟩:=t4 vs ys y hy;have⟨e1,e2,e3⟩:=acR hcf h1 hxu hyv d;have ih:=NN d us vs fs ks (n+1) xs ys c hrest h2 hxs hys;have hp:∀(zs:List Value) (z:Value),zs[n]? =some z->(Go.part f.type zs.toArray f.offset).run P w= .ok z w:=by
     intro zs z hz;simp[Go.part,e3,hoff,hz]
    simp only[Op.eqFields,e2,ne_eq,not_false_eq_true,if_true,Sem.run_bind,hp us u hu,hp vs v hv,Result.andThen_ok,e1,Sem.run_ite,Sem.run_pure,ih];cases a<;>simp
 |[],_::_,_,_,_,_,hc,_,_,_=>by simp[eI]at hc
 |_::_,[],_,_,_,_,hc,_,_,_=>by simp[eI]at hc
theorem ahf(hT:fE P T){op:BinOp}{t:TypeId}{x y:AV}{xo yo:Operand}{u v:Value}{aa:Out}(ha:Z4 T op t x y=some aa)(cr:aa.ob)(hx:VR P β w I x u)(hy:VR P β w I y v):
 ∃z,(do eqGuard op t xo yo u v;binOp op t u v:Sem Value).run P w= .ok z w/\VR P β w I aa.v z/\aa.upd=[]:=by
 unfold Z4 at ha;split at ha
 ·rename_i k a yk b;simp only[VR,TR]at hx hy;obtain⟨rfl,_⟩:=hx;obtain⟨rfl,_⟩:=hy;split at ha
  ·rename_i hk;cases har:W9 op k a b with
   |none=>simp[har]at ha
   |some p=>
    obtain⟨z,ob⟩:=p;simp only[har,ah,aC]at ha;subst ha;have⟨h1,h2⟩:=acQ (P:=P) (w:=w) (t:=t) hk har cr;exact⟨z,by simp[eqGuard_at_int,h1],by simp only[VR,TR];exact⟨trivial,h2⟩,rfl⟩
  ·cases ha
 ·rename_i a b;simp only[VR,TR]at hx hy;obtain⟨rfl,_⟩:=hx;obtain⟨rfl,_⟩:=hy;cases op<;>simp only[pv,gO,aC,reduceCtorEq]at ha<;>subst ha
  ·have hs:¬((a.size+b.size:Nat):Int)>i64.max:=by
    have:a.size+b.size<=maxLen:=cr;have h2:i64.max=9223372036854775807:=(by decide);unfold maxLen at this;omega
   exact⟨.string (a++b),by simp only[eqGuard_at_string,binOp,Op.stringOp,aM hs];simp,by simp only[VR,TR];exact⟨trivial,trivial⟩,rfl⟩
  ·exact⟨.bool (a.toList==b.toList),by simp[eqGuard_at_string,binOp,Op.stringOp],by simp only[VR,TR];exact⟨trivial,trivial⟩,rfl⟩
  ·exact⟨.bool (!(a.toList==b.toList)),by simp[eqGuard_at_string,binOp,Op.stringOp],by simp only[VR,TR];exact⟨trivial,trivial⟩,rfl⟩
  ·exact⟨.bool (Op.bytesLess a.toList b.toList),by simp[eqGuard_at_string,binOp,Op.stringOp],by simp only[VR,TR];exact⟨trivial,trivial⟩,rfl⟩
  ·exact⟨.bool (!(Op.bytesLess a.toList b.toList || a.toList==b.toList)),by simp[eqGuard_at_string,binOp,Op.stringOp],by simp only[VR,TR];exact⟨trivial,trivial⟩,rfl⟩
 ·rename_i a b;simp only[VR,TR]at hx hy;obtain⟨rfl,_⟩:=hx;obtain⟨rfl,_⟩:=hy;cases hti:T t with
  |none=>simp[hti]at ha
  |some ti=>
   have ht:=hT t ti hti;simp only[hti,ah]at ha;have d8:ti.k= .bool->P.underlying t=some .bool:=λhk=>by
    obtain⟨info,d,z,h1,h2,h3,h4,h5,h6,h7,h8⟩:=ht.ex;rw[hk]at h8;rw[h2,h8]
   split at ha
   ·rename_i hk;simp only[pv,aC]at ha;subst ha;exact⟨.bool (a==b),by simp[eqGuard_at_bool,binOp,run_equal_bool w t a b (d8 hk)],by simp only[VR,TR];exact⟨trivial,trivial⟩,rfl⟩
   ·rename_i hk;simp only[pv,aC]at ha;subst ha;exact⟨.bool (!(a==b)),by simp[eqGuard_at_bool,binOp,run_equal_bool w t a b (d8 hk)],by simp only[VR,TR];exact⟨trivial,trivial⟩,rfl⟩
   ·cases ha
 ·rename_i xs ys;simp only[VR]at hx hy;obtain⟨us,rfl,CL⟩:=hx;obtain⟨vs,rfl,hvs⟩:=hy;cases hti:T t with
  |none=>simp[hti]at ha
  |some ti=>
   have ht:=hT t ti hti;simp only[hti,ah]at ha;split at ha
   ·cases ha
   ·rename_i hne;rcases ht.cmp hne with ⟨fa,h1,h2,h3,h4⟩ |⟨h9,_⟩
    rotate_left
    ·rw[h9,amn]at ha;simp at ha
    cases hc:uz ti.cmp xs ys with
    |none=>simp[hc]at ha
    |some b=>
     simp only[hc,ah]at ha;have hfo:P.fieldsOf t=fa:=(by simp[Program.fieldsOf,h1]);have heq:(Op.equalIn 10000 t (.agg us) (.agg vs)).run P w= .ok b w:=by
      rw[run_equalIn_struct w 9999 t us vs (by rw[hfo];exact h1) h2,hfo];have:=NN (P:=P) (w:=w) 9998 us.toList vs.toList fa.toList ti.cmp 0 xs ys b h4 hc (by simpa using CL) (by simpa using hvs);simpa using this
     have hgd:∀op,(eqGuard op t xo yo (.agg us) (.agg vs)).run P w= .ok () w:=λop=>run_eqGuard_agg w op t xo yo us vs h3;cases op<;>simp only[pv,aC,reduceCtorEq]at ha<;>subst ha
     ·exact⟨.bool b,by simp[hgd,run_eql_struct,heq],by simp only[VR,TR];exact⟨trivial,trivial⟩,rfl⟩
     ·exact⟨.bool (!b),by simp[hgd,run_neq_struct,heq],by simp only[VR,TR];exact⟨trivial,trivial⟩,rfl⟩
 ·cases ha
theorem aki{op:UnOp}{x:AV}{v:Value}{aa:Out}(ha:H2 op x=some aa)(hx:VR P β w I x v):∃z,(Op.unary op v).run P w= .ok z w/\VR P β w I aa.v z/\aa.upd=[]:=by
 unfold H2 at ha;split at ha
 ·simp only[pv,aC]at ha;subst ha;simp only[VR,TR]at hx;obtain⟨rfl,_⟩:=hx;exact⟨_,by simp[Op.unary];rfl,by simp only[VR,TR];exact⟨trivial,trivial⟩,rfl⟩
 ·simp only[pv,aC]at ha;subst ha;simp only[VR,TR]at hx;obtain⟨rfl,_⟩:=hx;exact⟨_,by simp only[Op.unary,Op.intArith];rfl,by simp only[VR,TR];exact⟨trivial,trivial⟩,rfl⟩
 ·cases ha
theorem PY(mx:Bool)(k:IntKind):∀(r:List AV)(vs:List Value)(a n:Int),Ic mx k a r=some n->be P β w I r vs->
 (vs.foldlM (if mx then Builtin.max2 else Builtin.min2) (.int k a)).run P w= .ok (.int k n) w
 |[],[],a,n,h,_=>by simp only[Ic,aC]at h;subst h;simp
 |x::r,v::vs,a,n,h,hv=>by
  simp only[be]at hv;have hx:∃k' b,x= .t (.sc (.int k' b)):=by
   unfold Ic at h;split at h
   ·cases ‹_::_=_›
   ·rename_i heq;injection heq with h1 h2;exact⟨_,_,h1⟩
   ·cases h
  obtain⟨k',b,rfl⟩:=hx;simp only[Ic]at h;split at h
  ·rename_i hk;subst hk;simp only[VR,TR]at hv;obtain⟨⟨rfl,_⟩,hv⟩:=hv;have ih:=PY mx k' r vs _ n h hv;cases mx
   ·simp only[Bool.false_eq_true,if_false]at ih ⊢;simp only[List.foldlM_cons,Builtin.min2,Sem.run_bind,Sem.run_pure,Result.andThen_ok];rw[show (if b<a then b else a)=min a b by rw[Int.min_def];split<;>split<;>omega];exact ih
   ·simp only[if_true]at ih ⊢;simp only[List.foldlM_cons,Builtin.max2,Sem.run_bind,Sem.run_pure,Result.andThen_ok];rw[show (if b>a then b else a)=max a b by rw[Int.max_def];split<;>split<;>omega];exact ih
  ·cases h
 |[],_::_,_,_,_,hv=>by simp[be]at hv
 |_::_,[],_,_,_,hv=>by simp[be]at hv
theorem abp{mx:Bool}{args:List AV}{vs:Array Value}{cQ:Array TypeId}{ty:TypeId}{aa:Out}(ha:BC mx args=some aa)(hx:be P β w I args vs.toList):
 ∃z,((if mx then Builtin.max_ else Builtin.min_) cQ ty vs).run P w= .ok z w/\VR P β w I aa.v z/\aa.upd=[]:=by
 unfold BC at ha;split at ha
 ·rename_i k a r;cases hf:Ic mx k a r with
  |none=>simp[hf]at ha
  |some n=>
   simp only[hf,ah,pv,aC]at ha;subst ha;cases hvs:vs.toList with
   |nil=>rw[hvs]at hx;simp[be]at hx
   |cons v vs'=>
    rw[hvs]at hx;simp only[be,VR,TR]at hx;obtain⟨⟨rfl,_⟩,hr⟩:=hx;have:=PY (P:=P) mx k r vs' a n hf hr;refine⟨.int k n,?_,by simp only[VR,TR];exact⟨trivial,trivial⟩,rfl⟩;cases mx
    ·simpa[Builtin.min_,hvs]using this
    ·simpa[Builtin.max_,hvs]using this
 ·cases ha
end
section
variable {P:Program} {T:da} {w0:World} {O0:gi} {β:Nat->Option cA} {I:Nat->Prop} {obj:Nat->Option aX} {w:World} {i:Nat}
theorem ahg(hT:fE P T){t ty:TypeId}{x:AV}{b8:fY}{v:Value}{aa:Out}(ha:uB T t x b8=some aa)(cr:aa.ob)(hx:VR P β w I x v):
 ∃z,(Builtin.len_ #[t] ty #[v]).run P w= .ok z w/\VR P β w I aa.v z/\aa.upd=[]:=by
 unfold uB at ha;cases hti:T t with
 |none=>simp[hti]at ha
 |some ti=>
  have ht:=hT t ti hti;simp only[hti,ah]at ha;have hsl:∀e b n c,ti.k= .slice e->(Builtin.len_ #[t] ty #[.slice b n c]).run P w= .ok (goInt n) w:=λe b n c hk=>by simp[Builtin.len_,run_underlying (iX ht hk)]
  split at ha
  ·rename_i e rows n hk;simp only[gO,aC]at ha;subst ha;have cr:n=_:=cr;subst cr;simp only[VR,TR]at hx;rcases hx with ⟨rfl,_,_,rfl,_⟩ |⟨b,ae,cap,sz,rfl,_⟩
   ·exact⟨_,hsl _ _ _ _ hk,by simp only[VR,TR,goInt];exact⟨by simp,trivial⟩,rfl⟩
   ·exact⟨_,hsl _ _ _ _ hk,by simp only[VR,TR,goInt];exact⟨trivial,trivial⟩,rfl⟩
  ·rename_i e k ae len n hk;simp only[gO,aC]at ha;subst ha;have cr:n=_:=cr;subst cr;simp only[VR]at hx;rcases hx with ⟨_,rfl,_,rfl⟩ |⟨b,sz,m,cap,a,_,rfl,_⟩
   ·exact⟨_,hsl _ _ _ _ hk,by simp only[VR,TR,goInt];exact⟨trivial,trivial⟩,rfl⟩
   ·exact⟨_,hsl _ _ _ _ hk,by simp only[VR,TR,goInt];exact⟨trivial,trivial⟩,rfl⟩
  ·rename_i e k ae len hk _;simp only[pv,aC]at ha;subst ha;simp only[VR]at hx;rcases hx with ⟨_,rfl,_,rfl⟩ |⟨b,sz,m,cap,a,_,rfl,_⟩
   ·exact⟨_,hsl _ _ _ _ hk,by simp only[VR,TR,goInt];exact⟨trivial,trivial⟩,rfl⟩
   ·exact⟨_,hsl _ _ _ _ hk,by simp only[VR,TR,goInt];exact⟨trivial,trivial⟩,rfl⟩
  ·rename_i e hk;simp only[pv,aC]at ha;subst ha;simp only[VR]at hx;subst hx;exact⟨_,hsl _ _ _ _ hk,by simp only[VR,TR,goInt];exact⟨by simp,trivial⟩,rfl⟩
  ·rename_i s hk;simp only[pv,aC]at ha;subst ha;simp only[VR,TR]at hx;obtain⟨rfl,_⟩:=hx;have d8:P.underlying t=some .string:=by
    obtain⟨info,d,z,h1,h2,h3,h4,h5,h6,h7,h8⟩:=ht.ex;rw[hk]at h8;rw[h2,h8]
   exact⟨_,by simp[Builtin.len_,run_underlying d8];rfl,by simp only[VR,TR,goInt];exact⟨trivial,trivial⟩,rfl⟩
  ·cases ha
theorem abq(vs:List Value)(ae:Nat):∀(ps:List Value)(n:Nat)(cs:Array Value),ae+n+ps.length<=cs.size->
 (ps.zipIdx n).foldl (λ cs (c,j)=>cs.setIfInBounds (ae+j) c) cs=((cs.toList.take (ae+n))++ps++cs.toList.drop (ae+n+ps.length)).toArray
 |[],n,cs,_=>by simp
 |p::ps,n,cs,h=>by
  simp only[bH]at h;rw[List.zipIdx_cons,List.foldl_cons,abq vs ae ps (n+1) _ (by simp;omega)];congr 1;rw[Array.toList_setIfInBounds];have h1:ae+n<cs.toList.length:=by simp;omega
  rw[show ae+(n+1)=ae+n+1 by omega,dG (by simpa using h1)];rw[List.take_set,List.set_eq_of_length_le (by simp;omega)];simp only[List.getElem_set_self,aN,bH,cons_append,bI];congr 3;rw[List.drop_set_of_lt (by omega)];congr 1;omega
theorem aoc{cells cs:List AV}{us vs:List Value}{ae:Nat}(h1:be P β w I cells us)(h2:be P β w I cs vs):be P β w I (put' cells ae cs) (us.take ae++vs++us.drop (ae+vs.length)):=by
 unfold put';rw[be.length _ _ h2];exact be.append _ _ _ _ (be.append _ _ _ _ (be.take _ _ _ h1) h2) (be.drop _ _ _ h1)
theorem D5{place lj:Nat->Option (Nat×Nat)}(hpl:∀j p,place j=some p->lj j=some p):∀(parts:List (Nat×AV))(vs:List (Nat×Value))(cells:List AV)(us:Array Value)(aa:List AV),
 JM place cells parts=some aa->be P β w I cells us.toList->parts.map (·.1)=vs.map (·.1)->be P β w I (parts.map (·.2)) (vs.map (·.2))->
 ∃zs,Instr.fill lj us vs=some zs/\be P β w I aa zs.toList
 |[],[],cells,us,aa,h,hc,_,_=>by simp only[JM,aC]at h;subst h;exact⟨us,rfl,hc⟩
 |(j,x)::an,(j',v)::vs,cells,us,aa,h,hc,hk,hv=>by
  simp only[aF,List.cons.injEq]at hk;obtain⟨rfl,hk⟩:=hk;simp only[aF,be]at hv;simp only[JM]at h;cases hp:place j with
  |none=>simp[hp]at h
  |some p=>
   obtain⟨ae,size⟩:=p;simp only[hp,ah]at h;cases hcs:cellsOf x with
   |none=>simp[hcs]at h
   |some cs=>
    simp only[hcs,ah]at h;split at h
    ·rename_i hl;have⟨g1,g2⟩:=qY hcs hv.1;have hlen:=be.length _ _ g1;have hlc:=be.length _ _ hc;simp only[Array.length_toList]at hlen hlc;have hnew:=aoc (ae:=ae) hc g1;have:=D5 hpl an vs _ (us.toList.take ae++v.cells.toList++us.toList.drop (ae+v.cells.toList.length)).toArray aa h (by simpa using hnew) hk hv.2;obtain⟨zs,hz,hz2⟩:=this;refine⟨zs,?_,hz2⟩;simp only[Instr.fill,hpl j _ hp];have hsz:v.cells.size=size:=(by omega);have hno:¬(v.cells.size≠size\/ae+v.cells.size>us.size):=(by omega);rw[aM (by simp only[Bool.or_eq_true,aG];exact hno)];have t6:=abq [] ae v.cells.toList 0 us (by simp;omega);simp only[Nat.add_zero]at t6;rw[<- hz,<- t6];congr 1;rw[<- Array.foldl_toList,Array.toList_zipIdx]
    ·cases h
 |[],_::_,_,_,_,_,_,hk,_=>by simp at hk
 |_::_,[],_,_,_,_,_,hk,_=>by simp at hk
theorem JN(hT:fE P T):∀(fs:List Field),(∀ f∈fs,(T f.type).isSome=true)->
 ∃ps:List (Nat×Nat),(fs.mapM (λ f=>do pure (f.offset,<- sizeOf f.type):Field->Sem (Nat×Nat))).run P w= .ok ps w/\ps.map some=fs.map λf=>(T f.type).bind λui=>some (f.offset,ui.size)
 |[],_=>⟨[],by simp,rfl⟩
 |f::fs,h=>by
  obtain⟨ui,t5⟩:=Option.isSome_iff_exists.1 (h f (by simp));obtain⟨ps,h1,h2⟩:=JN hT fs (λ g hg=>h g (by simp[hg]));refine⟨(f.offset,ui.size)::ps,?_,by simp[t5,h2]⟩;simp only[List.mapM_cons,Sem.run_bind,(hT _ _ t5).size (w:=w),Result.andThen_ok,Sem.run_pure,h1]
theorem acS(hT:fE P T){t:TypeId}{parts:List (Nat×AV)}{vs:Array (Nat×Value)}{aa:Out}(ha:Xc T t parts=some aa)
 (hk:parts.map (·.1)=vs.toList.map (·.1)) (hv:be P β w I (parts.map (·.2)) (vs.toList.map (·.2))):∃z,(Instr.build t vs).run P w= .ok z w/\VR P β w I aa.v z/\aa.upd=[]:=by
 unfold Xc at ha;cases hti:T t with
 |none=>simp[hti]at ha
 |some ti=>
  have ht:=hT t ti hti;simp only[hti,ah]at ha;have⟨z,hz,hz2⟩:=ht.zeroV (w:=w);split at ha
  ·rename_i fs hkd;split at ha
   ·rename_i hall;generalize hpl:(λ (j:Nat)=>(fs[j]?).bind λ(p:Nat×TypeId)=>(T p.2).bind λui=>some (p.1,ui.size))=place at ha;cases hf:JM place (ti.zero.map cv) parts with
    |none=>simp[hf]at ha
    |some cells=>
     simp only[hf,ah,pv,aC]at ha;subst ha;obtain⟨info,d,z',h1,h2,h3,h4,h5,h6,h7,h8⟩:=ht.ex;rw[hkd]at h8;obtain⟨fa,rfl,hfa⟩:=h8;have C7:∀f∈fa.toList,(T f.type).isSome=true:=λf hf=>by
      have:=all_eq_true.1 hall (f.offset,f.type) (by rw[<- hfa];exact List.mem_map.2 ⟨f,hf,rfl⟩);simpa using this
     have⟨ps,hp1,hp2⟩:=JN (w:=w) hT fa.toList C7;have hpl':∀j p,place j=some p->ps[j]? =some p:=by
      intro j p hj;rw[<- hpl]at hj;simp only at hj;have e1:(ps.map some)[j]? =some (some p):=by
       rw[hp2,List.getElem?_map];rw[<- hfa]at hj;simp only[List.getElem?_map]at hj;cases hfj:fa.toList[j]? with
       |none=>rw[hfj]at hj;simp at hj
       |some f=>rw[hfj]at hj;simpa using hj
      simpa using e1
     obtain⟨zs,hz3,z4⟩:=D5 (lj:=λj=>ps.toArray[j]?) (λ j p h=>by simpa using hpl' j p h) parts vs.toList _ z.cells cells hf (by rw[hz2];exact be.cv _) hk hv;refine⟨.agg zs,?_,by simp only[VR];exact⟨zs,rfl,z4⟩,rfl⟩;have hm:(fa.mapM (λ f=>do pure (f.offset,<- sizeOf f.type):Field->Sem (Nat×Nat))).run P w= .ok ps.toArray w:=(by rw[Array.mapM_eq_mapM_toList,Sem.run_map,hp1];rfl);simp only[Instr.build,Sem.run_bind,hz,Result.andThen_ok,run_underlying h2,hm,hz3,Sem.run_pure]
   ·cases ha
  ·rename_i n e hkd;cases ed:T e with
   |none=>simp[ed]at ha
   |some ei=>
    have he:=hT e ei ed;simp only[ed,ah]at ha;cases hf:JM (λ j=>some (j*ei.size,ei.size)) (ti.zero.map cv) parts with
    |none=>simp[hf]at ha
    |some cells=>
     simp only[hf,ah,pv,aC]at ha;subst ha;obtain⟨zs,hz3,z4⟩:=D5 (lj:=λj=>some (j*ei.size,ei.size)) (λ j p h=>h) parts vs.toList _ z.cells cells hf (by rw[hz2];exact be.cv _) hk hv;refine⟨.agg zs,?_,by simp only[VR];exact⟨zs,rfl,z4⟩,rfl⟩;simp only[Instr.build,Sem.run_bind,hz,Result.andThen_ok,run_underlying (F3 ht hkd),he.size (w:=w),hz3,Sem.run_pure]
  ·cases ha
end
section
variable {P:Program} {T:da} {w0:World} {O0:gi} {β:Nat->Option cA} {I:Nat->Prop} {obj:Nat->Option aX} {w:World} {i:Nat}
theorem Mem.rename{i k:Nat}{o:aX}{B:cA}(h:Mem P w0 O0 β I obj w)(hn:β i=none)(hk:obj k=some o)(hβ:β k=some B):
 Step β I w i (ins β i B) I w/\Mem P w0 O0 (ins β i B) I (cZ obj [(i,some o),(k,none)]) w:=by
 have hS:Step β I w i (ins β i B) I w:=⟨λ j hj=>by simp[ins,fR.ne hj],mU hn,λ_ _=>rfl,λ_ h=>h⟩;have hne:∀j o',obj j=some o'->j≠i:=λj o' hj e=>by
  have⟨B,hB,_⟩:=h.cw j o' hj;rw[e,hn]at hB;cases hB
 have look:∀j o',cZ obj [(i,some o),(k,none)] j=some o'->(j=i/\o'=o)\/(j≠i/\j≠k/\obj j=some o'):=by
  intro j o' hj;simp only[cZ]at hj;split at hj
  ·injection hj with hj;exact .inl ⟨‹_›,hj.symm⟩
  ·split at hj
   ·cases hj
   ·exact .inr ⟨‹_›,‹_›,hj⟩
 refine⟨hS,?_⟩;constructor
 ·intro j o' hj;rcases look j o' hj with ⟨rfl,rfl⟩ |⟨h1,h2,h3⟩
  ·have⟨B',hB',hO⟩:=h.cw k o' hk;rw[hβ]at hB';injection hB' with hB';subst hB';exact⟨B,by simp[ins],OR.mono hS.ext hS.same hS.inc (λ _ _=>rfl) hO⟩
  ·have⟨B',hB',hO⟩:=h.cw j o' h3;exact⟨B',mU hn _ _ hB',OR.mono hS.ext hS.same hS.inc (λ _ _=>rfl) hO⟩
 ·intro j j' o1 o2 B1 B2 b h1 h2 h3 h4 h5 h6;rcases look j o1 h1 with ⟨rfl,rfl⟩ |⟨a1,a2,a3⟩<;>rcases look j' o2 h2 with ⟨rfl,rfl⟩ |⟨c1,c2,c3⟩
  ·rfl
  ·simp only[ins,if_true,aC]at h3;simp only[ins,c1,if_false]at h4;exact absurd (h.eR k j' _ _ B1 B2 b hk c3 (h3 ▸ hβ) h4 h5 h6) (λ e=>c2 e.symm)
  ·simp only[ins,if_true,aC]at h4;simp only[ins,a1,if_false]at h3;exact absurd (h.eR j k _ _ B1 B2 b a3 hk h3 (h4 ▸ hβ) h5 h6) (λ e=>a2 e)
  ·simp only[ins,a1,c1,if_false]at h3 h4;exact h.eR j j' o1 o2 B1 B2 b a3 c3 h3 h4 h5 h6
 ·intro j o' B1 b h1 h2 h3;rcases look j o' h1 with ⟨rfl,rfl⟩ |⟨a1,a2,a3⟩
  ·simp only[ins,if_true,aC]at h2;exact h.ownB k o' B1 b hk (h2 ▸ hβ) h3
  ·simp only[ins,a1,if_false]at h2;exact h.ownB j o' B1 b a3 h2 h3
 ·exact h.lt
 ·exact h.up
 ·exact h.keep
 ·exact h.le
 ·exact h.os
 ·exact h.tape
 ·exact h.output
 ·intro j C hj;exact mU hn _ _ (h.anch j C hj)
 ·exact h.vars
theorem NP:∀(rows:List (List AV))(c:Array Value)(ae sz:Nat)(l:List Value),(∀ r∈rows,r.length=sz/\r.all oU=true)->be P β w I rows.flatten l->(∀ j u,l[j]? =some u->c[ae+j]? =some u)->bo P β w I rows c ae sz
 |[],_,_,_,_,_,_,_=>by simp[bo]
 |r::rs,c,ae,sz,l,hr,hl,hc=>by
  obtain⟨h1,h2⟩:=hr r (by simp);simp only[flatten_cons]at hl;have ht:=be.take sz _ _ hl;have hd:=be.drop sz _ _ hl;rw[List.take_append_of_le_length (by omega),List.take_of_length_le (by omega)]at ht;rw[List.drop_append_of_le_length (by omega),List.drop_of_length_le (by omega),bI]at hd;simp only[bo];refine⟨h1,cI.kO r _ c ae ht (λ u hu=>?_) (λ j u hj=>?_),NP rs c (ae+sz) sz _ (λ r' hr'=>hr r' (by simp[hr'])) hd (λ j u hj=>?_)⟩
  ·obtain⟨j,hj⟩:=List.getElem?_of_mem hu;have hlen:=be.length _ _ ht;have hjl:j<r.length:=(by have:=(fe.1 hj).1;omega);obtain⟨u',hu',hv⟩:=be.get _ _ j _ ht (dI hjl);rw[hj]at hu';injection hu' with hu';subst hu';exact VR.one (all_eq_true.1 h2 _ (List.getElem_mem hjl)) hv
  ·rw[List.getElem?_take]at hj;split at hj
   ·exact hc j u hj
   ·cases hj
  ·rw[List.getElem?_drop]at hj;rw[show ae+sz+j=ae+(sz+j)by omega];exact hc _ u hj
theorem ahh{x:AV}{cs:List AV}(h:cellsOf x=some cs):cs.all oU=true:=by
 cases x<;>simp only[cellsOf,aC,reduceCtorEq]at h
 case agg=>split at h<;>first |(cases h;assumption) |cases h
 all_goals subst h;simp[oU]
theorem Xi(size:Nat):∀(parts:List (Nat×AV))(rows aa:List (List AV)),PW size rows parts=some aa->(∀ r∈rows,r.length=size/\r.all oU=true)->
 JM (λ j=>some (j*size,size)) rows.flatten parts=some aa.flatten/\(∀ r∈aa,r.length=size/\r.all oU=true)/\aa.length=rows.length
 |[],rows,aa,h,hr=>by simp only[PW,aC]at h;subst h;exact⟨rfl,hr,rfl⟩
 |(j,x)::an,rows,aa,h,hr=>by
  simp only[PW]at h;cases hcs:cellsOf x with
  |none=>simp[hcs]at h
  |some cs=>
   simp only[hcs,ah]at h;split at h
   ·rename_i hl;obtain⟨h1,h2,h3⟩:=Xi size an (rows.set j cs) aa h (λ r hr'=>by
     rcases List.mem_or_eq_of_mem_set hr' with h4 |h4
     ·exact hr r h4
     ·rw[h4];exact⟨hl.1,ahh hcs⟩)
    refine⟨?_,h2,by simpa using h3⟩;have C5:∀(n:Nat) (rows:List (List AV)),(∀ r∈rows,r.length=size)->n<rows.length->(rows.set n cs).flatten=put' rows.flatten (n*size) cs/\n*size+cs.length<=rows.flatten.length:=by
     intro n
     induction n with
     |zero=>
      intro rows hr hn;cases rows with
      |nil=>simp at hn
      |cons r rs=>
       have:=hr r (by simp);simp only[List.set_cons_zero,flatten_cons,put',Nat.zero_mul,List.take_zero,bI,Nat.zero_add,bW];refine⟨?_,by omega⟩;rw[hl.1,List.drop_append_of_le_length (by omega),List.drop_of_length_le (by omega),bI]
     |succ n ih=>
      intro rows hr hn;cases rows with
      |nil=>simp at hn
      |cons r rs=>
       have hrl:=hr r (by simp);obtain⟨g1,g2⟩:=ih rs (λ r' h'=>hr r' (by simp[h'])) (by simpa using hn);have e1:(n+1)*size=r.length+n*size:=(by rw[Nat.add_mul];omega);simp only[List.set_cons_succ,flatten_cons,g1,put',e1,bW];refine⟨?_,by omega⟩;rw[List.take_length_add_append,show r.length+n*size+cs.length=r.length+(n*size+cs.length)by omega,List.drop_length_add_append];simp[aN]
    obtain⟨g1,g2⟩:=C5 j rows (λ r h'=>(hr r h').1) hl.2;simp only[JM,ah,hcs];rw[aP ⟨hl.1,g2⟩,<- g1];exact h1
   ·cases h
theorem PZ(hT:fE P T)(h:Mem P w0 O0 β I obj w)(hn:β (cd i)=none){t:TypeId}{len:Nat}{parts:List (Nat×AV)}{vs:Array (Nat×Value)}{aa:Out}{kp:Bool}(ha:xY T i t len parts kp=some aa)
 (hk:parts.map (·.1)=vs.toList.map (·.1)) (hv:be P β w I (parts.map (·.2)) (vs.toList.map (·.2))):
 ∃u w' β',(Instr.buildSlice t len vs).run P w= .ok u w'/\Step β I w (cd i) β' I w'/\Mem P w0 O0 β' I (cZ obj aa.upd) w'/\VR P β' w' I aa.v u:=by
 unfold xY at ha;cases hti:T t with
 |none=>simp[hti]at ha
 |some ti=>
  have ht:=hT t ti hti;simp only[hti,ah]at ha;split at ha
  ·rename_i e hkd;cases ed:T e with
   |none=>simp[ed]at ha
   |some ei=>
    have he:=hT e ei ed;simp only[ed,ah]at ha;split at ha
    ·cases ha
    ·rename_i hno;simp only[not_or]at hno;cases hf:PW ei.size (List.replicate len (ei.zero.map cv)) parts with
     |none=>simp[hf]at ha
     |some rows=>
      simp only[hf,ah,aC]at ha;subst ha;have⟨z,hz,hz2⟩:=he.zeroV (w:=w);have hzl:ei.zero.length=ei.size:=he.len;have hok:∀r∈List.replicate len (ei.zero.map cv),r.length=ei.size/\r.all oU=true:=by
       intro r hr;obtain⟨_,rfl⟩:=List.mem_replicate.1 hr;refine⟨by simpa using hzl,?_⟩;rw[List.all_map,all_eq_true];intro v hvz;have h1:=all_eq_true.1 he.one v hvz;simp only[Function.comp,cv];split
       ·rfl
       ·rw[aP h1];rfl
      obtain⟨h1,h2,h3⟩:=Xi ei.size parts _ rows hf hok;have hzs:z.cells.size=ei.size:=(by rw[<- Array.length_toList,hz2];exact hzl);have hinit:((Array.range (len*ei.size)).map (λ j=>z.cells[j%z.cells.size]!)).toList=(List.replicate len ei.zero).flatten:=by
       apply List.ext_getElem?;intro j;have hlen:∀n,((List.replicate n ei.zero).flatten).length=n*ei.size:=λn=>(by simp[hzl]);have hget:∀n j,j<n*ei.size->((List.replicate n ei.zero).flatten)[j]? =ei.zero[j%ei.size]? :=by
        intro n
        induction n with
        |zero=>intro j hj;simp at hj
        |succ n ih=>
         intro j hj;rw[List.replicate_succ,flatten_cons];by_cases hjs:j<ei.size
         ·rw[List.getElem?_append_left (by omega),Nat.mod_eq_of_lt hjs]
         ·rw[fO (by omega),hzl,ih _ (by rw[Nat.add_mul]at hj;omega)];rw[<- Nat.mod_eq_sub_mod (by omega)]
       by_cases hj:j<len*ei.size
       ·rw[hget len j hj,Array.getElem?_toList,Array.getElem?_map];have hm:j%ei.size<ei.size:=Nat.mod_lt _ (by omega);rw[show (Array.range (len*ei.size))[j]? =some j by simp[hj]];simp only[Option.map_some];rw[hzs,<- hz2,Array.getElem?_toList];simp[show j%ei.size<z.cells.size by omega]
       ·rw[List.getElem?_eq_none (by simp;omega),List.getElem?_eq_none (by rw[hlen];omega)]
      generalize hin:(Array.range (len*ei.size)).map (λ j=>z.cells[j%z.cells.size]!)=pm at hinit;obtain⟨zs,hz3,z4⟩:=D5 (lj:=λj=>some (j*ei.size,ei.size)) (λ j p h=>h) parts vs.toList _ pm rows.flatten h1 (by
       rw[hinit];have:(List.replicate len (ei.zero.map cv)).flatten=((List.replicate len ei.zero).flatten).map cv:=by
        induction len with
        |zero=>rfl
        |succ n ih=>simp[List.replicate_succ]
       rw[this];exact be.cv _) hk hv
      have hrl:rows.length=len:=(by rw[h3];simp);obtain⟨hS,hM⟩:=Mem.alloc (o:=⟨ei.size,rows⟩) (c:=zs) (e:=e) h hn (NP rows zs 0 ei.size zs.toList h2 z4 (λ j u hj=>by simpa using hj));refine⟨.slice (some ⟨w.heap.size,0,none⟩) len len,_,_,?_,hS,by cases kp<;>first |exact hM.s4 |exact hM,?_⟩
      ·simp only[Instr.buildSlice,Sem.run_bind,run_underlying (iX ht hkd),Result.andThen_ok,he.size (w:=w)];rw[aM (by omega)];by_cases hl0:len*ei.size=0
       ·have hc0:pm=#[]:=(by rw[<- hin,hl0];simp);have e0:(Array.range (len*ei.size)).map (λ j=>(#[]:Array Value)[j%(#[]:Array Value).size]!)=pm:=(by rw[hc0,hl0];simp);simp only[hl0,if_true,Sem.run_pure,Result.andThen_ok,Sem.run_bind];rw[hl0]at e0;rw[e0,hz3];simp only[Sem.run_bind,newRow,run_newObj,Result.andThen_ok,Sem.run_pure];rfl
       ·simp only[hl0,if_false,Sem.run_bind,hz,Result.andThen_ok,Sem.run_pure];rw[hin,hz3];simp only[Sem.run_bind,newRow,run_newObj,Result.andThen_ok,Sem.run_pure];rfl
      ·simp only[VR];refine .inr ⟨w.heap.size,ei.size,zs.size,len,0,by simp[ins],rfl,aT _,?_,by simp⟩;have:=be.length _ _ z4;simp only[Array.length_toList]at this;rw[this,Nat.zero_add,<- hrl];have hfl:∀(l:List (List AV)),(∀ r∈l,r.length=ei.size)->l.flatten.length=l.length*ei.size:=by
        intro l
        induction l with
        |nil=>simp
        |cons r rs ih=>intro h;simp only[flatten_cons,bW,bH,ih (λ r' h'=>h r' (by simp[h'])),h r (by simp)];rw[Nat.add_mul];omega
       rw[hfl rows (λ r hr=>(h2 r hr).1)];exact aT _
  ·cases ha
end
section
variable {P:Program} {T:da} {w0:World} {O0:gi} {β:Nat->Option cA} {I:Nat->Prop} {obj:Nat->Option aX} {w:World} {i:Nat}
theorem AR{d n:Int}{x:Option AV}{v:Option Value}(h:bnd d x=some n)(hx:∀y,x=some y->∃u,v=some u/\VR P β w I y u)(h0:x=none->v=none):(v=none/\n=d)\/∃k,v=some (.int k n):=by
 cases x with
 |none=>simp only[bnd,aC]at h;exact .inl ⟨h0 rfl,h.symm⟩
 |some y=>
  obtain⟨u,rfl,hu⟩:=hx y rfl;unfold bnd at h;split at h
  ·cases ‹some _=none›
  ·rename_i k m heq;cases heq;cases h;simp only[VR,TR]at hu;exact .inr ⟨k,by rw[hu.1]⟩
  ·cases h
theorem JO{lp hiv:Option Value}{l hh:Int}{len cap:Nat}(h1:(lp=none/\l=0)\/∃k,lp=some (.int k l))(h2:(hiv=none/\hh=(len:Int))\/∃k,hiv=some (.int k hh))(g0:0<=l)(g1:l<=hh)(g2:hh<=(cap:Int)):
 (Instr.sliceBounds true len cap lp hiv none).run P w= .ok (l.toNat,hh.toNat,cap) w:=by
 have hb:∀(k:IntKind) (n:Int) (y:Nat) aw,0<=n->n<=(y:Int)->(Instr.sliceBound (.int k n) y aw).run P w= .ok n.toNat w:=λk n y aw a b=>by simp[Instr.sliceBound,asIntOf,a,b]
 rcases h1 with ⟨rfl,rfl⟩ |⟨k,rfl⟩<;>rcases h2 with ⟨rfl,rfl⟩ |⟨k',rfl⟩
 ·simp[Instr.sliceBounds]
 ·simp[Instr.sliceBounds,hb k' hh cap _ (by omega) g2]
 ·simp[Instr.sliceBounds,hb k l len _ g0 g1]
 ·have h3:=λaw=>hb k l hh.toNat aw g0 (by omega);simp[Instr.sliceBounds,hb k' hh cap _ (by omega) g2,h3]
theorem acT(hT:fE P T)(h:Mem P w0 O0 β I obj w){t:TypeId}{x:AV}{lo hi:Option AV}{b8:fY}{get:Nat->Option aX}{aa:Out}{v:Value}{lp hiv:Option Value}(hg:∀k o,get k=some o->obj k=some o)
 (ha:Xe T t x lo hi b8 get=some aa) (cr:aa.ob) (hx:VR P β w I x v) (hlo:∀x,lo=some x->∃v,lp=some v/\VR P β w I x v) (hlo0:lo=none->lp=none) (hhi:∀x,hi=some x->∃v,hiv=some v/\VR P β w I x v) (hhi0:hi=none->hiv=none):
 ∃u,(Instr.sliceAt t v lp hiv none).run P w= .ok u w/\VR P β w I aa.v u/\aa.upd=[]:=by
 unfold Xe at ha;cases hti:T t with
 |none=>simp[hti]at ha
 |some ti=>
  have ht:=hT t ti hti;simp only[hti,ah]at ha;split at ha
  ·rename_i e hkd;cases ed:T e with
   |none=>simp[ed]at ha
   |some ei=>
    have he:=hT e ei ed;simp only[ed,ah]at ha;have d8:=iX ht hkd
    have hrun:∀(a:Option Addr) (len cap:Nat) (l hh:Int),bnd 0 lo=some l->bnd len hi=some hh->0<=l->l<=hh->hh<=(cap:Int)->
     (Instr.sliceAt t (.slice a len cap) lp hiv none).run P w= .ok (.slice (if cap=l.toNat then a else a.map (·.add (l.toNat*ei.size))) (hh.toNat -l.toNat) (cap -l.toNat)) w:=by
     intro a len cap l hh b1 b2 b3 b4 b5;have:=JO (P:=P) (w:=w) (len:=len) (cap:=cap) (AR b1 hlo hlo0) (AR b2 hhi hhi0) b3 b4 b5;simp only[Instr.sliceAt,Instr.slice,Sem.run_bind,run_underlying d8,Result.andThen_ok,this,he.size (w:=w),Sem.run_pure]
    cases x<;>try simp only[reduceCtorEq]at ha
    case own k ae len=>
     cases hk:get k with
     |none=>simp[hk]at ha
     |some o=>
      simp only[hk,ah]at ha;split at ha
      ·rename_i hsz;cases hl:bnd 0 lo with
       |none=>simp[hl]at ha
       |some l=>
        cases hh:bnd len hi with
        |none=>simp[hl,hh]at ha
        |some r=>
         simp only[hl,hh,ah,gO,aC]at ha;subst ha;obtain⟨b1,b2,b3⟩:=cr;simp only[VR]at hx ⊢;rcases hx with ⟨h1,rfl,h2,h3⟩ |⟨b,sz,m,cap,a,h1,rfl,h2,h3,h4⟩
         ·subst h3;subst h2;have hr:r=0:=(by omega);have hl0:l=0:=(by omega);subst hr;subst hl0;refine⟨_,hrun _ _ _ _ _ hl hh b1 b2 (by omega),.inl ⟨h1,by simp,by simp,by simp⟩,trivial⟩
         ·refine⟨_,hrun _ _ _ _ _ hl hh b1 b2 (by omega),.inr ⟨b,sz,m,cap -l.toNat,if cap=l.toNat then a else a+l.toNat*ei.size,h1,?_,by omega,?_,?_⟩,trivial⟩
          ·split
           ·rfl
           ·simp[addr_add]
          ·have:ae+l.toNat+(cap -l.toNat)=ae+cap:=(by omega);rw[this];exact h3
          ·intro hc;have hcl:¬cap=l.toNat:=(by omega);rw[aM hcl,h4 (by omega)];have⟨B,hB,hO⟩:=h.cw k o (hg k o hk);rw[h1]at hB;cases hB;have hs:sz=o.sz:=hO.1;rw[hs,hsz,Nat.add_mul]
      ·cases ha
    case t x=>
     cases x<;>simp only[reduceCtorEq]at ha
     case sl rows=>
      cases b8<;>simp only[reduceCtorEq]at ha
      case vi rs=>
       cases hl:bnd 0 lo with
       |none=>simp[hl]at ha
       |some l=>
        cases hh:bnd rows.length hi with
        |none=>simp[hl,hh]at ha
        |some r=>
         simp only[hl,hh,ah,gO,aC]at ha;subst ha;obtain⟨b1,b2,b3,hrs,hall⟩:=cr;simp only[VR,TR]at hx ⊢;have hlen:rs.length=r.toNat -l.toNat:=(by rw[hrs];simp only[length_take,length_drop];omega);rcases hx with ⟨rfl,a,cap,rfl,hac⟩ |⟨b,ae,cap,sz,rfl,h1,h2,h3⟩
         ·simp only[List.length_nil]at b3;have hr:r=0:=(by omega);have hl0:l=0:=(by omega);subst hr;subst hl0;refine⟨_,hrun _ _ _ _ _ hl hh b1 b2 (by omega),.inl ⟨by rw[hrs];simp,a.map (·.add 0),cap,?_,λh0=>hac (by simpa using h0)⟩,trivial⟩;by_cases hc:cap=0
          ·subst hc;cases a<;>simp[Addr.add]
          ·simp[hc]
         ·refine⟨_,hrun _ _ _ _ _ hl hh b1 b2 (by omega),.inr ⟨b,if cap=l.toNat then ae else ae+l.toNat*ei.size,cap -l.toNat,sz,?_,by omega,h2,?_⟩,trivial⟩
          ·rw[hlen];split
           ·rfl
           ·simp[addr_add]
          ·by_cases hc:cap=l.toNat
           ·have:rs=[]:=List.eq_nil_of_length_eq_zero (by omega);rw[this];simp[cj]
           ·rw[aM hc,hrs];have hd:∀(n:Nat) (rows:List (List Tree)) (ae:Nat),cj w I rows b ae sz->cj w I (rows.drop n) b (ae+n*sz) sz:=by
             intro n
             induction n with
             |zero=>intro rows ae h;simpa using h
             |succ n ih=>
              intro rows ae h;cases rows with
              |nil=>simp[cj]
              |cons r rs=>
               simp only[cj]at h;rw[List.drop_succ_cons,show ae+(n+1)*sz=ae+sz+n*sz by rw[Nat.add_mul];omega];exact ih rs _ h.2.2
            have htk:∀(n:Nat) (rows:List (List Tree)) (ae:Nat),cj w I rows b ae sz->cj w I (rows.take n) b ae sz:=by
             intro n
             induction n with
             |zero=>intro rows ae h;simp[cj]
             |succ n ih=>
              intro rows ae h;cases rows with
              |nil=>simp[cj]
              |cons r rs=>
               simp only[cj]at h;simp only[List.take_succ_cons,cj];exact⟨h.1,h.2.1,ih rs _ h.2.2⟩
            by_cases hne:rows=[]
            ·subst hne;simp[cj]
            ·obtain⟨r0,an,rfl⟩:=List.exists_cons_of_ne_nil hne;have hsz:ei.size=sz:=by
              have e1:=hall r0 (by simp);simp only[cj]at h3;omega
             rw[hsz];exact htk _ _ _ (hd _ _ _ h3)
  ·cases ha
end
section
variable {P:Program} {T:da} {w0:World} {O0:gi} {β:Nat->Option cA} {I:Nat->Prop} {obj:Nat->Option aX} {w:World} {i:Nat}
theorem Mem.lO{i:Nat}{o:aX}(h:Mem P w0 O0 β I obj w)(hn:β i=none)(ho:o.rows=[]):
 Step β I w i (ins β i .none) I w/\Mem P w0 O0 (ins β i .none) I (cZ obj [(i,some o)]) w:=by
 have hS:Step β I w i (ins β i .none) I w:=⟨λ j hj=>by simp[ins,fR.ne hj],mU hn,λ_ _=>rfl,λ_ h=>h⟩;refine⟨hS,?_⟩;constructor
 ·intro k o' hk;simp only[cZ]at hk;split at hk
  ·cases hk;rename_i hki;exact⟨.none,by simp[ins,hki],ho⟩
  ·have⟨B,hB,hO⟩:=h.cw k o' hk;exact⟨B,mU hn _ _ hB,OR.mono hS.ext hS.same hS.inc (λ _ _=>rfl) hO⟩
 ·intro k k' o1 o2 B1 B2 b h1 h2 h3 h4 h5 h6;simp only[cZ]at h1 h2;simp only[ins]at h3 h4;split at h3
  ·cases h3;cases h5
  ·split at h4
   ·cases h4;cases h6
   ·rename_i a b;rw[aM a]at h1;rw[aM b]at h2;exact h.eR k k' o1 o2 B1 B2 _ h1 h2 h3 h4 h5 h6
 ·intro k o' B b h1 h2 h3;simp only[cZ]at h1;simp only[ins]at h2;split at h2
  ·cases h2;cases h3
  ·rename_i a;rw[aM a]at h1;exact h.ownB k o' B b h1 h2 h3
 ·exact h.lt
 ·exact h.up
 ·exact h.keep
 ·exact h.le
 ·exact h.os
 ·exact h.tape
 ·exact h.output
 ·intro j C hj;exact mU hn _ _ (h.anch j C hj)
 ·exact h.vars
theorem oV:∀(rows:List (List AV))(c:Array Value)(ae sz:Nat)(l:List Value),(∀ r∈rows,r.length=sz)->be P β w I rows.flatten l->(∀ u∈l,oneCell u)->(∀ j u,l[j]? =some u->c[ae+j]? =some u)->bo P β w I rows c ae sz
 |[],_,_,_,_,_,_,_,_=>by simp[bo]
 |r::rs,c,ae,sz,l,hr,hl,h1,hc=>by
  have hrl:=hr r (by simp);simp only[flatten_cons]at hl;have ht:=be.take sz _ _ hl;have hd:=be.drop sz _ _ hl;rw[List.take_append_of_le_length (by omega),List.take_of_length_le (by omega)]at ht;rw[List.drop_append_of_le_length (by omega),List.drop_of_length_le (by omega),bI]at hd;simp only[bo];refine⟨hrl,cI.kO r _ c ae ht (λ u hu=>h1 u (List.mem_of_mem_take hu)) (λ j u hj=>?_),oV rs c (ae+sz) sz _ (λ r' hr'=>hr r' (by simp[hr'])) hd (λ u hu=>h1 u (List.mem_of_mem_drop hu)) (λ j u hj=>?_)⟩
  ·rw[List.getElem?_take]at hj;split at hj
   ·exact hc j u hj
   ·cases hj
  ·rw[List.getElem?_drop]at hj;rw[show ae+sz+j=ae+(sz+j)by omega];exact hc _ u hj
theorem bo.list:∀(rows:List (List AV))(c:Array Value)(ae sz:Nat),bo P β w I rows c ae sz->∃l:List Value,be P β w I rows.flatten l/\(∀ u∈l,oneCell u)/\l.length=rows.length*sz/\(∀ r∈rows,r.length=sz)/\∀j u,l[j]? =some u->c[ae+j]? =some u
 |[],_,_,_,_=>⟨[],by simp[be],by simp,by simp,by simp,by simp⟩
 |r::rs,c,ae,sz,⟨h1,h2,h3⟩=>by
  have⟨l1,a1,a2,a3⟩:=cI.list r c ae h2;have⟨l2,b1,b2,b3,b4,b5⟩:=bo.list rs c (ae+sz) sz h3;have hl1:l1.length=sz:=by rw[be.length _ _ a1,h1]
  refine⟨l1++l2,by simp only[flatten_cons];exact be.append _ _ _ _ a1 b1,λu hu=>?_,?_,λr' hr'=>?_,λj u hj=>?_⟩
  ·rcases bf.1 hu with hu |hu
   ·exact a2 u hu
   ·exact b2 u hu
  ·simp only[bW,bH,hl1,b3,Nat.add_mul];omega
  ·rcases aK.1 hr' with rfl |hr'
   ·exact h1
   ·exact b4 r' hr'
  ·by_cases hjs:j<sz
   ·rw[List.getElem?_append_left (by omega)]at hj;exact a3 j u hj
   ·rw[fO (by omega)]at hj;have:=b5 _ u hj;rw[hl1]at this;rw[show ae+j=ae+sz+(j -sz)by omega];exact this
theorem cj.list{b sz:Nat}:∀(rows:List (List Tree))(ae:Nat),cj w I rows b ae sz->∃l:List Value,be P β w I (aS rows).flatten l/\(∀ u∈l,oneCell u)/\l.length=rows.length*sz/\(∀ r∈aS rows,r.length=sz)/\∀j u,l[j]? =some u->w.cell? ⟨b,ae+j,none⟩=some u
 |[],_,_=>⟨[],by simp[aS,be],by simp,by simp,by simp[aS],by simp⟩
 |r::rs,ae,h=>by
  simp only[cj]at h;obtain⟨h1,h2,h3⟩:=h;have⟨l1,a1,a3⟩:=de.list (P:=P) (β:=β) r b ae h2;have⟨l2,b1,b2,b3,b4,b5⟩:=cj.list rs (ae+sz) h3;have hl1:l1.length=sz:=by rw[be.length _ _ a1];simpa using h1
  have a2:∀u∈l1,oneCell u:=by
   intro u hu;obtain⟨j,hj⟩:=List.getElem?_of_mem hu;have hjl:j<(r.map AV.t).length:=(by have:=(fe.1 hj).1;rw[be.length _ _ a1]at this;exact this);obtain⟨u',hu',hv⟩:=be.get _ _ j _ a1 (dI hjl);rw[hj]at hu';injection hu' with hu';subst hu';refine VR.one ?_ hv;simp[oU]
  refine⟨l1++l2,by simp only[aS,aF,flatten_cons];exact be.append _ _ _ _ a1 b1,λu hu=>?_,?_,λr' hr'=>?_,λj u hj=>?_⟩
  ·rcases bf.1 hu with hu |hu
   ·exact a2 u hu
   ·exact b2 u hu
  ·simp only[bW,bH,hl1,b3,Nat.add_mul];omega
  ·simp only[aS,aF,aK]at hr';rcases hr' with rfl |hr'
   ·simpa using h1
   ·exact b4 r' hr'
  ·by_cases hjs:j<sz
   ·rw[List.getElem?_append_left (by omega)]at hj;exact a3 j u hj
   ·rw[fO (by omega)]at hj;have:=b5 _ u hj;rw[hl1]at this;rw[show ae+j=ae+sz+(j -sz)by omega];exact this
def Nm(P:Program)(β:Nat->Option cA)(w:World)(I:Nat->Prop)(size n:Nat)(az:List (List AV))(v:Value):Prop:=
 (n=0/\∃b c,v= .slice b 0 c)\/∃(a:Addr)(c:Nat)(l:List Value),v= .slice (some a) n c/\0<n/\be P β w I az.flatten l/\(∀ u∈l,oneCell u)/\l.length=n*size/\(∀ r∈az,r.length=size)/\∀j u,l[j]? =some u->w.cell? (a.add j)=some u
theorem abr(h:Mem P w0 O0 β I obj w){size n:Nat}{ob:Prop}{az:List (List AV)}{y:AV}{get:Nat->Option aX}{v:Value}(hg:∀k o,get k=some o->obj k=some o)
 (hs:Xf size y get=some (n,ob,az)) (cr:ob) (hl:az.length=n) (hy:VR P β w I y v):Nm P β w I size n az v:=by
 unfold Xf at hs;split at hs
 ·rename_i k ae len;cases hk:get k with
  |none=>simp[hk]at hs
  |some o=>
   simp only[hk,ah]at hs;split at hs
   ·rename_i hsz;simp only[aC,Prod.mk.injEq]at hs;obtain⟨rfl,_,rfl⟩:=hs;simp only[VR]at hy;rcases hy with ⟨_,rfl,_,rfl⟩ |⟨b,sz,m,cap,a,h1,rfl,h2,h3,h4⟩
    ·exact .inl ⟨rfl,_,_,rfl⟩
    ·by_cases h0:len=0
     ·subst h0;exact .inl ⟨rfl,_,_,rfl⟩
     ·have⟨B,hB,hO⟩:=h.cw k o (hg k o hk);rw[h1]at hB;cases hB;obtain⟨hs,c,e,hc,_,hO⟩:=hO;have h5:=bo.take len _ _ _ _ (bo.drop ae _ _ _ _ hO);rw[Nat.zero_add]at h5;obtain⟨l,g1,g2,g3,g4,g5⟩:=bo.list _ _ _ _ h5;refine .inr ⟨_,cap,l,rfl,by omega,g1,g2,?_,λr hr=>?_,λj u hj=>?_⟩
      ·rw[g3,hl,hs,hsz]
      ·rw[g4 r hr,hs,hsz]
      ·rw[addr_add,h4 (by omega)];simp[World.cell?,hc,g5 j u hj]
   ·cases hs
 ·rename_i rows;simp only[aC,Prod.mk.injEq]at hs;obtain⟨rfl,rfl,rfl⟩:=hs;simp only[VR,TR]at hy;rcases hy with ⟨rfl,_,_,rfl,_⟩ |⟨b,ae,cap,sz,rfl,h1,h2,h3⟩
  ·exact .inl ⟨rfl,_,_,rfl⟩
  ·cases rows with
   |nil=>exact .inl ⟨rfl,_,_,rfl⟩
   |cons r rs=>
    obtain⟨l,g1,g2,g3,g4,g5⟩:=cj.list (P:=P) (β:=β) _ _ h3;have hsz:sz=size:=by
     have e1:=cr r (by simp);simp only[cj]at h3;omega
    subst hsz;exact .inr ⟨_,cap,l,rfl,by simp,g1,g2,g3,g4,λj u hj=>by rw[addr_add];exact g5 j u hj⟩
 ·cases hs
theorem oneCell'{u:Value}(h:oneCell u):u.oneCell'=true:=by cases u<;>first |rfl |exact h.elim
theorem Mem.grow(h:Mem P w0 O0 β I obj w)(hn:β i=none){size:Nat}{rows:List (List AV)}{l:List Value}{e:TypeId}{an:Array Value}(hr:∀r∈rows,r.length=size)(hl:be P β w I rows.flatten l)(h1:∀u∈l,oneCell u):
 Step β I w i (ins β i (.at w.heap.size size (l.toArray++an).size)) I (w.drew.alloc (.cells (l.toArray++an) e))/\
 Mem P w0 O0 (ins β i (.at w.heap.size size (l.toArray++an).size)) I (cZ obj [(i,some ⟨size,rows⟩)]) (w.drew.alloc (.cells (l.toArray++an) e)):=by
 have hd:=h.drew;obtain⟨hS,hM⟩:=Mem.alloc (i:=i) (o:=⟨size,rows⟩) (c:=l.toArray++an) (e:=e) hd hn (oV rows _ 0 size l hr (be.mono (w:=w) (w':=w.drew) (λ _ _ h=>h) (λ _ _=>rfl) (λ _ h=>h) _ _ hl) h1 (λ j u hj=>by
  have hlt:=(fe.1 hj).1;rw[Nat.zero_add,Array.getElem?_append_left (by simpa using hlt)];simpa using hj))
 exact⟨⟨hS.other,hS.ext,λb hb=>hS.same b hb,hS.inc⟩,hM⟩
theorem JP(hT:fE P T)(h:Mem P w0 O0 β I obj w)(hn:β i=none){t e ty:TypeId}{ei:ky}(d8:P.underlying t=some (.slice e))(ed:T e=some ei){n:Nat}{az:List (List AV)}{v:Value}
 (hsrc:Nm P β w I ei.size n az v) (hl:az.length=n) (h48:n*ei.bytes<=140737488355328) (h63:n<=maxLen):
 ∃u w' β',(Builtin.append_ #[t,t] ty #[.slice none 0 0,v]).run P w= .ok u w'/\Step β I w i β' I w'/\Mem P w0 O0 β' I (cZ obj [(i,some ⟨ei.size,az⟩)]) w'/\VR P β' w' I (.own i 0 n) u:=by
 have he:=hT e ei ed;obtain⟨info,d,z,g1,g2,g3,g4,g5,g6,g7,g8⟩:=he.ex;rcases hsrc with ⟨rfl,b,c,rfl⟩ |⟨a,c,l,rfl,hpos,q1,q2,q3,q4,q5⟩
 ·have hnew:az=[]:=List.eq_nil_of_length_eq_zero hl;subst hnew;have⟨hS,hM⟩:=Mem.lO (i:=i) (o:=⟨ei.size,[]⟩) h hn rfl;refine⟨.slice none 0 0,w,_,?_,hS,hM,by simp only[VR];exact .inl ⟨by simp[ins],trivial,trivial,trivial⟩⟩;cases b<;>simp[Builtin.append_,run_underlying d8,sizeOf,typeInfo,g1,Builtin.lenOf,Builtin.firstCells,loadCells,loadCellsFrom]
 ·have hm:n<=9223372036854775807:=by simp only[maxLen]at h63;omega
  have hrun:=run_append_nil (P:=P) w t ty e info z d8 g1 g5 a n c l (by rw[q3,g3]) q5 hpos (by omega) (by rw[g4];omega);have⟨hS,hM⟩:=Mem.grow (i:=i) (e:=e) (an:=Builtin.zeroCells z.cells (grownCap w n 0 e -n)) h hn q4 q1 q2;refine⟨_,_,_,hrun,hS,hM,?_⟩;simp only[VR];refine .inr ⟨w.heap.size,ei.size,_,_,0,by simp[ins];rfl,rfl,grownCap_ge w n 0 e,?_,by simp⟩;have hz:z.cells.size=ei.size:=by rw[<- Array.length_toList,g6];exact he.len
  have hge:=grownCap_ge w n 0 e;simp only[size_zeroCells,q3,hz,Nat.zero_add,<- Nat.add_mul];exact Nat.mul_le_mul_right _ (by omega)
theorem Vx(hT:fE P T)(h:Mem P w0 O0 β I obj w)(hn:β i=none){t e ty:TypeId}{ei:ky}(d8:P.underlying t=some (.slice e))(ed:T e=some ei){n k len:Nat}{o:aX}{az:List (List AV)}{u v:Value}
 (hk:obj k=some o) (hsz:o.sz=ei.size) (hlen:o.rows.length=len) (hx:VR P β w I (.own k 0 len) u)
 (hsrc:Nm P β w I ei.size n az v) (hl:az.length=n) (h48:(len+n)*ei.bytes<=140737488355328) (h63:len+n<=maxLen):
 ∃z w' β',(Builtin.append_ #[t,t] ty #[u,v]).run P w= .ok z w'/\Step β I w i β' I w'/\Mem P w0 O0 β' I (cZ obj [(i,some ⟨ei.size,o.rows++az⟩),(k,none)]) w'/\VR P β' w' I (.own i 0 (len+n)) z:=by
 have he:=hT e ei ed;obtain⟨info,d,z,g1,g2,g3,g4,g5,g6,g7,g8⟩:=he.ex;have hki:k≠i:=λe=>by
  have⟨B,hB,_⟩:=h.cw k o hk;rw[e,hn]at hB;cases hB
 have ur:∀{β':Nat->Option cA} {I':Nat->Prop} {w':World} {o':aX},Mem P w0 O0 β' I' (cZ obj [(i,some o')]) w'->Mem P w0 O0 β' I' (cZ obj [(i,some o'),(k,none)]) w':=by
  intro β' I' w' o' hM;refine hM.drop _ λj oj hj=>?_;simp only[cZ]at hj ⊢;split
  ·rw[aP ‹_›]at hj;exact hj
  ·rw[aM ‹_›]at hj;split at hj
   ·cases hj
   ·exact hj
 simp only[VR]at hx;rcases hx with ⟨hβ,rfl,_,rfl⟩ |⟨b,sz,m,cap,a,hβ,rfl,h2,h3,h4⟩
 ·have⟨B,hB,hO⟩:=h.cw k o hk;rw[hβ]at hB;cases hB;have hr:o.rows=[]:=hO;rw[hr,bI,Nat.zero_add];obtain⟨z',w',β',e1,e2,e3,e4⟩:=JP (ty:=ty) hT h hn d8 ed hsrc hl (by simpa using h48) (by simpa using h63);exact⟨z',w',β',e1,e2,ur e3,e4⟩
 ·have⟨B,hB,hO⟩:=h.cw k o hk;rw[hβ]at hB;cases hB;obtain⟨hs,c,ce,hc,hcn,hO⟩:=hO;rw[Nat.zero_add]at h3;rcases hsrc with ⟨rfl,b',c',rfl⟩ |⟨a',c',l,rfl,hpos,q1,q2,q3,q4,q5⟩
  ·have hnew:az=[]:=List.eq_nil_of_length_eq_zero hl;subst hnew;rw[List.append_nil,Nat.add_zero];have⟨hS,hM⟩:=Mem.rename h hn hk hβ;refine⟨.slice (some ⟨b,a,none⟩) len cap,w,_,?_,hS,by rw[<- hsz];exact hM,?_⟩
   ·cases b'<;>simp[Builtin.append_,run_underlying d8,sizeOf,typeInfo,g1,Builtin.lenOf,Builtin.firstCells,loadCells,loadCellsFrom,h2,storeCells]
   ·simp only[VR];exact .inr ⟨b,sz,m,cap,a,by simp[ins],rfl,h2,by simpa using h3,h4⟩
  ·obtain⟨ol,o1,o2,o3,o4,o5⟩:=bo.list _ _ _ _ hO;have hrl:∀r∈o.rows++az,r.length=ei.size:=λr hr=>by
    rcases bf.1 hr with hr |hr
    ·rw[o4 r hr,hs,hsz]
    ·exact q4 r hr
   have hol:ol.length=len*info.size:=(by rw[o3,hlen,hs,hsz,g3]);by_cases hroom:len+n<=cap
   ·
    have ha:a=0:=(by rw[h4 (by omega)];simp);subst ha;have hcsz:cap*info.size<=c.size:=(by rw[g3,<- hsz,<- hs,hcn];exact h3);have hfit:len*info.size+l.length<=c.size:=(by rw[q3,<- g3,<- Nat.add_mul];exact Nat.le_trans (Nat.mul_le_mul_right _ hroom) hcsz);have hf:=run_firstCells_some (P:=P) w info.size n a' n c' l (by rw[q3,g3]) q5;have hst:=run_storeCells_at P b (len*info.size) ce l 0 c w hc (by omega) (λ u hu=>oneCell' (q2 u hu));simp only[Nat.add_zero]at hst;generalize hc':(List.take (len*info.size) c.toList++l++List.drop (len*info.size+l.length) c.toList).toArray=cc at hst;have K2:cc.size=c.size:=(by rw[<- hc'];simp[length_take,length_drop];omega);have hrun:(Builtin.append_ #[t,t] ty #[.slice (some ⟨b,0,none⟩) len cap,.slice (some a') n c']).run P w= .ok (.slice (some ⟨b,0,none⟩) (len+n) cap) (w.setRow b cc):=by
     have hf':(Builtin.firstCells info.size n (.slice (some a') n c')).run P w= .ok l.toArray w:=hf;simp[Builtin.append_,run_underlying d8,sizeOf,typeInfo,g1,Builtin.lenOf,hroom,hf',addr_add,hst]
    have hcells:∀j u,(ol++l)[j]? =some u->cc[0+j]? =some u:=by
     intro j u hj;rw[Nat.zero_add,<- hc',List.getElem?_toArray];have h1:(c.toList.take (len*info.size)).length=len*info.size:=(by simp[length_take];omega);by_cases hjl:j<ol.length
     ·rw[List.getElem?_append_left hjl]at hj;have:=o5 j u hj;rw[Nat.zero_add]at this;rw[aN,List.getElem?_append_left (by omega),List.getElem?_take,aP (by omega),Array.getElem?_toList];exact this
     ·rw[fO (by omega)]at hj;have hjl2:=(fe.1 hj).1;rw[aN,fO (by omega),h1,List.getElem?_append_left (by omega),<- hol];exact hj
    obtain⟨ry,hM⟩:=Mem.write (o':=⟨ei.size,o.rows++az⟩) h hk hβ (c':=cc) (e:=ce) (setRow_heap w b c cc ce (0,0) hc) (λ b' hb=>setRow_other w b b' cc hb) (by simp) rfl rfl rfl (by rw[hs,hsz]) (by omega)
     (oV _ _ 0 ei.size (ol++l) hrl (by simp only[List.flatten_append];exact be.append _ _ _ _ o1 q1) (λ u hu=>by
      rcases bf.1 hu with hu |hu
      ·exact o2 u hu
      ·exact q2 u hu) hcells)
    obtain⟨hS,hM2⟩:=Mem.rename (i:=i) (k:=k) (o:=⟨ei.size,o.rows++az⟩) hM hn (by simp[cZ]) hβ;refine⟨_,_,_,hrun,⟨hS.other,hS.ext,ry,λ_ h=>h⟩,hM2.drop _ (λ j oj hj=>?_),?_⟩
    ·simp only[cZ]at hj ⊢;split at hj
     ·rw[aP ‹_›];exact hj
     ·rw[aM ‹_›];split at hj
      ·cases hj
      ·rw[aM ‹_›,aM ‹_›];exact hj
    ·simp only[VR];exact .inr ⟨b,sz,m,cap,0,by simp[ins],rfl,hroom,by simpa using h3,by simp⟩
   ·have holds:∀j v,ol[j]? =some v->w.cell? ((⟨b,a,none⟩:Addr).add j)=some v:=by
     intro j v hj;have hjl:=(fe.1 hj).1;have S1:len≠0:=λh0=>(by rw[hol,h0]at hjl;simp at hjl);rw[addr_add,h4 (by omega),Nat.zero_mul];have:=o5 j v hj;simp[World.cell?,hc]at this ⊢;exact this
    have hm:len+n<=9223372036854775807:=(by simp only[maxLen]at h63;omega);have hrun:=run_append_grow (P:=P) w t ty e info z d8 g1 g5 ⟨b,a,none⟩ len cap ol hol holds a' n c' l (by rw[q3,g3]) q5 (by omega) (by omega) (growslice_fits (by omega) (by rw[g4];exact h48));have happ:be P β w I (o.rows++az).flatten (ol++l):=(by simp only[List.flatten_append];exact be.append _ _ _ _ o1 q1);obtain⟨hS,hM⟩:=Mem.grow (i:=i) (e:=e) (an:=Builtin.zeroCells z.cells (grownCap w (len+n) cap e -(len+n))) h hn hrl happ (λ u hu=>by
     rcases bf.1 hu with hu |hu
     ·exact o2 u hu
     ·exact q2 u hu)
    have L0:ol.toArray++l.toArray++Builtin.zeroCells z.cells (grownCap w (len+n) cap e -(len+n))=(ol++l).toArray++Builtin.zeroCells z.cells (grownCap w (len+n) cap e -(len+n)):=(by simp);rw[L0]at hrun;refine⟨_,_,_,hrun,hS,ur hM,?_⟩;simp only[VR];refine .inr ⟨w.heap.size,ei.size,_,_,0,by simp[ins];rfl,rfl,grownCap_ge w (len+n) cap e,?_,by simp⟩;have hz:z.cells.size=ei.size:=(by rw[<- Array.length_toList,g6];exact he.len);have hge:=grownCap_ge w (len+n) cap e;simp only[size_zeroCells,q3,hol,hz,g3,Nat.zero_add,<- Nat.add_mul];exact Nat.mul_le_mul_right _ (by omega)
end
section
variable {P:Program} {T:da} {w0:World} {O0:gi} {β:Nat->Option cA} {I:Nat->Prop} {obj:Nat->Option aX} {w:World} {i:Nat}
theorem Z5(hT:fE P T)(h:Mem P w0 O0 β I obj w)(hn:β (cd i)=none){t ty:TypeId}{x y:AV}{b8:fY}{get:Nat->Option aX}{aa:Out}{u v:Value}(hg:∀k o,get k=some o->obj k=some o)
 (ha:DZ T i t x y b8 get=some aa) (cr:aa.ob) (hx:VR P β w I x u) (hy:VR P β w I y v):
 ∃z w' β',(Builtin.append_ #[t,t] ty #[u,v]).run P w= .ok z w'/\Step β I w (cd i) β' I w'/\Mem P w0 O0 β' I (cZ obj aa.upd) w'/\VR P β' w' I aa.v z:=by
 unfold DZ at ha;cases hti:T t with
 |none=>simp[hti]at ha
 |some ti=>
  have ht:=hT t ti hti;simp only[hti,ah]at ha;split at ha
  ·rename_i e hkd;cases ed:T e with
   |none=>simp[ed]at ha
   |some ei=>
    simp only[ed,ah]at ha;have d8:=iX ht hkd;split at ha
    ·rename_i rs;cases hs:Xf ei.size y get with
     |none=>simp[hs]at ha
     |some p=>
      obtain⟨n,ob,az⟩:=p;simp only[hs,ah]at ha;split at ha
      ·rename_i k ae len;cases hk:get k with
       |none=>simp[hk]at ha
       |some o=>
        simp only[hk,ah]at ha;split at ha
        ·rename_i hc;obtain⟨hsz,rfl⟩:=hc;cases ha;obtain⟨b1,b2,b3,rfl,b5,b6⟩:=cr;have e:(o.rows++az).length=len+n:=(by rw[bW,b2,b3]);simp only[e];exact Vx hT h hn d8 ed (hg k o hk) hsz b2 hx (abr h hg hs b1 b3 hy) b3 b5 b6
        ·cases ha
      ·cases ha;obtain⟨b1,b2,rfl,b5,b6⟩:=cr;simp only[VR]at hx;subst hx;simp only[b2];exact JP hT h hn d8 ed (abr h hg hs b1 b2 hy) b2 b5 b6
      ·cases ha
    ·cases ha
  ·cases ha
theorem be.map{ρ:Operand->AV}{r:Operand->Value}(hρ:∀x,VR P β w I (ρ x) (r x)):∀(l:List Operand),be P β w I (l.map ρ) (l.map r)
 |[]=>by simp[be]
 |x::xs=>by simp only[aF,be];exact⟨hρ x,be.map hρ xs⟩
theorem Xj(hT:fE P T)(h:Mem P w0 O0 β I obj w)(hn:β (cd i)=none){b:Builtin}{args:List AV}{cQ:Array TypeId}{b8:fY}{get:Nat->Option aX}{aa:Out}(hg:∀k o,get k=some o->obj k=some o)
 {vs:Array Value} {ty:TypeId} {ao:Array Operand} (ha:FZ T i b args cQ.toList b8 get=some aa) (cr:aa.ob) (hv:be P β w I args vs.toList) {r:Operand->Value} (hops:vs=ao.map r) {dst:Option Tmp} {aE:String} {after:Array Edge} {guard:Option (Nat×Bool)}:
 nh P w0 O0 β I obj w i aa ((execOp r ⟨dst,.call { callee:= .builtin b,args:=ao,argTypes:=cQ },ty,aE,after,guard⟩).run P w):=by
 unfold FZ at ha;split at ha
 ·rename_i x t m5;obtain⟨v,hvs⟩:∃v,vs=#[v]:=by
   obtain⟨l⟩:=vs
   match l,hv with
   |[v],_=>exact⟨v,rfl⟩
   |[],h=>simp[be]at h
   |_::_::_,h=>simp[be]at h
  have ht:cQ=#[t]:=by cases cQ;simpa using m5
  subst hvs ht;simp only[be]at hv;have⟨u,h1,h2,h3⟩:=ahg (ty:=ty) hT ha cr hv.1;refine⟨u,w,β,I,.inl ?_,Step.refl ..,by rw[h3];exact h,h2⟩;simp[execOp,resolve,invoke,builtin,<- hops,h1]
 ·have⟨u,h1,h2,h3⟩:=abp (cQ:=cQ) (ty:=ty) ha hv;simp only[if_true]at h1;refine⟨u,w,β,I,.inl ?_,Step.refl ..,by rw[h3];exact h,h2⟩;simp[execOp,resolve,invoke,builtin,<- hops,h1]
 ·have⟨u,h1,h2,h3⟩:=abp (cQ:=cQ) (ty:=ty) ha hv;simp only[Bool.false_eq_true,if_false]at h1;refine⟨u,w,β,I,.inl ?_,Step.refl ..,by rw[h3];exact h,h2⟩;simp[execOp,resolve,invoke,builtin,<- hops,h1]
 ·rename_i x y t u m5;split at ha
  ·rename_i htu;subst htu;obtain⟨v,v',hvs⟩:∃v v',vs=#[v,v']:=by
    obtain⟨l⟩:=vs
    match l,hv with
    |[v,v'],_=>exact⟨v,v',rfl⟩
    |[],h=>simp[be]at h
    |[_],h=>simp[be]at h
    |_::_::_::_,h=>simp[be]at h
   have ht:cQ=#[t,t]:=(by cases cQ;simpa using m5);subst hvs ht;simp only[be]at hv;have⟨z,w',β',h1,h2,h3,h4⟩:=Z5 (ty:=ty) hT h hn hg ha cr hv.1 hv.2.1;refine⟨z,w',β',I,.inl ?_,h2,h3,h4⟩;simp[execOp,resolve,invoke,builtin,<- hops,h1]
  ·cases ha
 ·cases ha
theorem UB(hT:fE P T)(h:Mem P w0 O0 β I obj w)(hn:β (cd i)=none){o:Oper}{b8:fY}{ρ:Operand->AV}{get:Nat->Option aX}{aa:Out}(hg:∀k o,get k=some o->obj k=some o)
 {r:Operand->Value} (hρ:∀x,VR P β w I (ρ x) (r x)) (ha:qz T i o b8 ρ get=some aa) (cr:aa.ob):nh P w0 O0 β I obj w i aa ((execOp r o).run P w):=by
 obtain⟨dst,op,ty,aE,after,guard⟩:=o;have val:∀{s:Sem Value}{z:Value},s.run P w= .ok z w->aa.upd=[]->VR P β w I aa.v z->nh P w0 O0 β I obj w i aa ((do pure (.value (<- s)):Sem Next).run P w):=by
  intro s z h1 h2 h3;refine⟨z,w,β,I,.inl (by simp[h1]),Step.refl ..,by rw[h2];exact h,h3⟩
 have val':∀{s:Sem Value} {z:Value} {w':World} {β':Nat->Option cA},s.run P w= .ok z w'->Step β I w (cd i) β' I w'->Mem P w0 O0 β' I (cZ obj aa.upd) w'->VR P β' w' I aa.v z->nh P w0 O0 β I obj w i aa ((do pure (.value (<- s)):Sem Next).run P w):=by
  intro s z w' β' h1 h2 h3 h4;exact⟨z,w',β',I,.inl (by simp[h1]),h2,h3,h4⟩
 unfold qz at ha;split at ha
 ·rename_i x heq;simp only at heq;subst heq;simp only[pv,aC]at ha;subst ha;exact nh.pure h (hρ x)
 ·rename_i x heq;simp only at heq;subst heq;simp only[pv,aC]at ha;subst ha;exact nh.pure h (hρ x)
 ·rename_i c a b heq;simp only at heq;subst heq;split at ha
  ·rename_i t hc;simp only[pv,aC]at ha;subst ha;have h1:=hρ c;rw[hc]at h1;simp only[VR,TR]at h1;refine⟨if t then r a else r b,w,β,I,.inl ?_,Step.refl ..,h,?_⟩
   ·simp only[execOp,h1.1,asBool];simp
   ·rw[Xg];cases t
    ·exact hρ b
    ·exact hρ a
  ·cases ha
 ·rename_i e heq;simp only at heq;subst heq;have⟨u,w',β',h1,h2,h3,h4⟩:=acO hT h hn ha;exact val' h1 h2 h3 h4
 ·rename_i e x heq;simp only at heq;subst heq;have⟨u,w',β',h1,h2,h3,h4⟩:=ahe (e:=e) h hn ha (hρ x);exact val' h1 h2 h3 h4
 ·rename_i t parts heq;simp only at heq;subst heq;obtain⟨z,h1,h2,h3⟩:=acS (w:=w) (P:=P) (β:=β) (I:=I) (vs:=parts.map λ(i,x)=>(i,r x)) hT ha (by simp) (by
   simp only[Array.toList_map,map_map];have hm:=be.map (λ x=>hρ x) (parts.toList.map (·.2));simp only[map_map]at hm;exact hm)
  exact val h1 h3 h2
 ·rename_i t len parts heq;simp only at heq;subst heq;obtain⟨z,w',β',h1,h2,h3,h4⟩:=PZ (vs:=parts.map λ(i,x)=>(i,r x)) hT h hn ha (by simp) (by
   simp only[Array.toList_map,map_map];have hm:=be.map (λ x=>hρ x) (parts.toList.map (·.2));simp only[map_map]at hm;exact hm)
  exact val' h1 h2 h3 h4
 ·rename_i t a heq;simp only at heq;subst heq;have⟨u,h1,h2,h3⟩:=UA hT h hg ha cr (hρ a);exact val h1 h3 h2
 ·rename_i t a x heq;simp only at heq;subst heq;have⟨w',h1,h2,h3,h4⟩:=acN hT h hg ha cr (hρ a) (hρ x);exact⟨undef,w',β,I,.inr ⟨by simp[execOp,h1],rfl⟩,⟨λ _ _=>rfl,λ_ _ h=>h,h2,λ_ h=>h⟩,h3,by rw[h4];simp[VR]⟩
 ·rename_i op t x y yt heq;simp only at heq;subst heq;have⟨z,h1,h2,h3⟩:=ahf (xo:=x) (yo:=y) hT ha cr (hρ x) (hρ y);exact val h1 h3 h2
 ·rename_i op t x heq;simp only at heq;subst heq;have⟨z,h1,h2,h3⟩:=aki ha (hρ x);exact val h1 h3 h2
 ·rename_i f first caps heq
  simp only at heq;subst heq;simp only[pv,aC]at ha;subst ha;refine⟨.func (.func f) (first.map r) (caps.map r),w,β,I,.inl ?_,Step.refl ..,h,?_⟩
  ·simp[execOp,Instr.makeFunc]
  ·simp only[VR];exact⟨_,_,rfl,by rw[Array.toList_map];exact be.map hρ _,by rw[Array.toList_map];exact be.map hρ _⟩
 ·rename_i t x lo hi heq;simp only at heq;subst heq
  obtain⟨u,h1,h2,h3⟩:=acT (lp:=lo.map r) (hiv:=hi.map r) hT h hg ha cr (hρ x)
   (λ y hy=>by
    cases lo with
    |none=>simp at hy
    |some z=>simp at hy;subst hy;exact⟨r z,rfl,hρ z⟩) (λ hy=>by cases lo<;>simp at hy ⊢)
   (λ y hy=>by
    cases hi with
    |none=>simp at hy
    |some z=>simp at hy;subst hy;exact⟨r z,rfl,hρ z⟩) (λ hy=>by cases hi<;>simp at hy ⊢)
  exact val h1 h3 h2
 ·rename_i t x f heq;simp only at heq;subst heq;have⟨u,h1,h2,h3⟩:=Sq hT ha (hρ x);exact val h1 h3 h2
 ·rename_i t x f heq;simp only at heq;subst heq;have⟨u,h1,h2,h3⟩:=acP hT ha (hρ x);exact val h1 h3 h2
 ·rename_i t x j heq;simp only at heq;subst heq;have⟨u,h1,h2,h3⟩:=Sr hT h hg ha cr (hρ x) (hρ j);exact val h1 h3 h2
 ·rename_i x j heq;simp only at heq;subst heq;have⟨u,h1,h2,h3⟩:=Xh ha (hρ x);exact val h1 h3 h2
 ·rename_i b args cQ heq;simp only at heq;subst heq;exact Xj (ty:=ty) hT h hn hg (vs:=args.map r) ha cr (by rw[Array.toList_map];exact be.map hρ _) rfl
 ·cases ha
end
def Tree.flat:Tree->Prop
 | .sc _=>True
 | .sl _=>False
def TV.flat:TV->Prop
 | .s x=>x.flat
 | .a cs=>∀x∈cs,x.flat
def RC.flat:RC->Prop
 | .d x=>x.flat
 | .fresh _ rows=>∀r∈rows,∀x∈r,x.flat
 | .whole _ _=>True
def RV.flat:RV->Prop
 | .one c=>c.flat
 | .ey cs=>∀c∈cs,c.flat
def Nj(i:Nat)(ag:List Nat):RC->AV×List (Nat×Option aX)
 | .whole j len=>(match ag[j]? with |some k=> .own k 0 len |none=> .undef,[])
 | .d x=>(x.av,[])
 | .fresh sz rows=>(.own (cd i) 0 (aS rows).length,[(cd i,some ⟨sz,aS rows⟩)])
def P5(i:Nat)(ag:List Nat):List RC->Option (List AV×List (Nat×Option aX))
 |[]=>some ([],[])
 |c::cs=>(P5 i ag cs).bind λp=>if (Nj i ag c).2.isEmpty || p.2.isEmpty then some ((Nj i ag c).1::p.1,(Nj i ag c).2++p.2)else none
def imp(i:Nat)(ag:List Nat):RV->Option (AV×List (Nat×Option aX))
 | .one c=>some (Nj i ag c)
 | .ey cs=>(P5 i ag cs).bind λp=>some (.ey p.1,p.2)
mutual
def pQ(P:Program)(get:Nat->Option aX):AV->List LH->Option (AV×List LH×List Prop)
 | .t x,hs=>some (.t x,hs,[])
 | .agg cs,hs=>(mM P get cs hs).bind λp=>some (.agg p.1,p.2.1,p.2.2)
 | .ey _,_=>none
 | .own k ae len,hs=>match hs with
  | .rows tr::hs=>(get k).bind λo=>some (.t (.sl tr),hs,[(o.rows.drop ae).take len=aS tr/\tr.length=len])
  |_=>none
 | .ptr k row ae,hs=>match hs with
  | .row tr::hs=>(get k).bind λo=>some (.du tr ae,hs,[o.rows[row]? =some (tr.map AV.t)])
  |_=>none
 | .du r o,hs=>some (.du r o,hs,[])
 | .fn f first caps,hs=>match hs with
  | .fn::hs=>(mM P get first hs).bind λp=>(mM P get caps p.2.1).bind λq=>some (.fn f p.1 q.1,q.2.1,p.2.2++q.2.2)
  | .c6 φ::hs=>(mM P get first hs).bind λp=>(mM P get caps p.2.1).bind λq=>
   some (.c6 φ,q.2.1,p.2.2++(q.2.2++[kV P f/\∀args r,φ args r->pr P f (p.1++args.map TV.av++q.1) (.one (.d r))]))
  |_=>none
 | .c6 φ,hs=>some (.c6 φ,hs,[])
 | .mp _,_=>none
 | .cG,hs=>match hs with
  | .nil::hs=>some (.cG,hs,[])
  | .emp::hs=>some (.t (.sl []),hs,[])
  |_=>none
 | .ub,_=>none
 | .undef,_=>none
def mM(P:Program)(get:Nat->Option aX):List AV->List LH->Option (List AV×List LH×List Prop)
 |[],hs=>some ([],hs,[])
 |x::xs,hs=>(pQ P get x hs).bind λp=>(mM P get xs p.2.1).bind λq=>some (p.1::q.1,q.2.1,p.2.2++q.2.2)
end
def z8(P:Program)(i:Nat)(f:AV)(args:List AV)(b8:fY)(get:Nat->Option aX):Option Out:=
 match f,b8 with
 | .fn F first caps,.call hs rv keep=>(imp i [] rv).bind λp=>(mM P get (first++args++caps) hs).bind λq=>
  if keep then some ⟨p.1,p.2,q.2.2++[pr P F q.1 rv,rv.flat]⟩
  else some ⟨p.1,p.2++(fD (first++args++caps)).map (λ k=>(k,none)),q.2.2++[pr P F q.1 rv]⟩
 | .c6 φ,.xT hs targs r keep=>(mM P get args hs).bind λq=>
  if keep then some ⟨r.av,[],q.2.2++[q.1=targs.map TV.av,φ targs r,r.flat]⟩
  else some ⟨r.av,(fD args).map (λ k=>(k,none)),q.2.2++[q.1=targs.map TV.av,φ targs r]⟩
 |_,_=>none
def D6(P:Program)(w0:World)(O0:gi)(β:Nat->Option cA)(I:Nat->Prop)(obj:Nat->Option aX)(w:World)(i:Nat)(aa:Out)(r:Result Next):Prop:=
 ∃F args,r= .ok (.enter F args) w/\Calls P F args w λe w'=>∃v' β' I',e= .returned v'/\Step β I w (cd i) β' I' w'/\Mem P w0 O0 β' I' (cZ obj aa.upd) w'/\VR P β' w' I' aa.v v'
section
variable {P:Program} {T:da} {w0:World} {O0:gi} {β:Nat->Option cA} {I:Nat->Prop} {obj:Nat->Option aX} {w:World} {i:Nat}
mutual
theorem dE.weaken{get get':Nat->Option aX}(h:∀k o,get k=some o->get' k=some o):∀(xs ys:List AV),dE P get xs ys->dE P get' xs ys
 |[],[],_=>by simp[dE]
 |x::xs,y::ys,hb=>by simp only[dE]at hb ⊢;exact⟨eV.weaken h x y hb.1,dE.weaken h xs ys hb.2⟩
 |[],_::_,hb=>by simp[dE]at hb
 |_::_,[],hb=>by simp[dE]at hb
theorem eV.weaken{get get':Nat->Option aX}(h:∀k o,get k=some o->get' k=some o):∀(x y:AV),eV P get x y->eV P get' x y
 | .t _,_,hb=>by simpa[eV]using hb
 | .agg cs,y,hb=>by
  simp only[eV]at hb ⊢;obtain⟨cs',h1,h2⟩:=hb;exact⟨cs',h1,dE.weaken h cs cs' h2⟩
 | .ey _,_,hb=>by simp[eV]at hb
 | .own k ae len,y,hb=>by
  simp only[eV]at hb ⊢;obtain⟨o,tr,h1,h2⟩:=hb;exact⟨o,tr,h k o h1,h2⟩
 | .ptr k row ae,y,hb=>by
  simp only[eV]at hb ⊢;obtain⟨o,tr,h1,h2⟩:=hb;exact⟨o,tr,h k o h1,h2⟩
 | .du _ _,_,hb=>by simpa[eV]using hb
 | .fn f first caps,y,hb=>by
  simp only[eV]at hb ⊢;obtain⟨a,b,h1,h2,h3⟩:=hb;exact⟨a,b,dE.weaken h first a h1,dE.weaken h caps b h2,h3⟩
 | .c6 _,_,hb=>by simpa[eV]using hb
 | .cG,_,hb=>by simpa[eV]using hb
 | .ub,_,hb=>by simp[eV]at hb
 | .undef,_,hb=>by simp[eV]at hb
end
mutual
theorem Ie{get:Nat->Option aX}:∀(x:AV)(hs:List LH)(p:AV×List LH×List Prop),pQ P get x hs=some p->(∀ q∈p.2.2,q)->eV P get x p.1
 | .t x,hs,p,h,_=>by simp only[pQ,aC]at h;subst h;simp[eV]
 | .agg cs,hs,p,h,ho=>by
  simp only[pQ,aj,aC]at h;obtain⟨q,h1,rfl⟩:=h;simp only[eV];exact⟨_,rfl,jT cs hs q h1 ho⟩
 | .ey _,_,_,h,_=>by simp[pQ]at h
 | .own k ae len,hs,p,h,ho=>by
  simp only[pQ]at h;split at h
  ·simp only[aj,aC]at h;obtain⟨o,h1,rfl⟩:=h;have h2:=ho _ (aW.2 rfl);simp only[eV];exact⟨o,_,h1,rfl,h2.1,h2.2⟩
  ·cases h
 | .ptr k row ae,hs,p,h,ho=>by
  simp only[pQ]at h;split at h
  ·simp only[aj,aC]at h;obtain⟨o,h1,rfl⟩:=h;have h2:=ho _ (aW.2 rfl);simp only[eV];exact⟨o,_,h1,rfl,h2⟩
  ·cases h
 | .du r o,hs,p,h,_=>by simp only[pQ,aC]at h;subst h;simp[eV]
 | .fn f first caps,hs,p,h,ho=>by
  simp only[pQ]at h;split at h
  ·simp only[aj,aC]at h;obtain⟨q,h1,q',h2,rfl⟩:=h;simp only[eV];exact⟨q.1,q'.1,jT first _ q h1 (λ x hx=>ho x (by simp[hx])),jT caps _ q' h2 (λ x hx=>ho x (by simp[hx])),.inl rfl⟩
  ·simp only[aj,aC]at h;obtain⟨q,h1,q',h2,rfl⟩:=h;have h3:=ho _ (by simp only[bf,aW];exact .inr (.inr rfl));simp only[eV];exact⟨q.1,q'.1,jT first _ q h1 (λ x hx=>ho x (by simp[hx])),jT caps _ q' h2 (λ x hx=>ho x (by simp[hx])),.inr ⟨_,rfl,h3.1,h3.2⟩⟩
  ·cases h
 | .c6 φ,hs,p,h,_=>by simp only[pQ,aC]at h;subst h;simp[eV]
 | .mp _,_,_,h,_=>by simp[pQ]at h
 | .cG,hs,p,h,_=>by
  simp only[pQ]at h;split at h
  ·cases h;simp[eV]
  ·cases h;simp[eV]
  ·cases h
 | .ub,_,_,h,_=>by simp[pQ]at h
 | .undef,_,_,h,_=>by simp[pQ]at h
theorem jT{get:Nat->Option aX}:∀(xs:List AV)(hs:List LH)(p:List AV×List LH×List Prop),mM P get xs hs=some p->(∀ q∈p.2.2,q)->dE P get xs p.1
 |[],hs,p,h,_=>by simp only[mM,aC]at h;subst h;simp[dE]
 |x::xs,hs,p,h,ho=>by
  simp only[mM,aj,aC]at h;obtain⟨q,h1,q',h2,rfl⟩:=h;simp only[dE];exact⟨Ie x hs q h1 (λ y hy=>ho y (by simp[hy])),jT xs _ q' h2 (λ y hy=>ho y (by simp[hy]))⟩
end
theorem qZ:∀(l:List Prop),jV l->∀p∈l,p
 |[],_,_,hp=>by simp at hp
 |[q],h,p,hp=>by rw[aW]at hp;rw[hp];exact h
 |q::r::l,h,p,hp=>by
  rcases aK.1 hp with e |hp
  ·rw[e];exact h.1
  ·exact qZ (r::l) h.2 p hp
theorem Tree.i7{w':World}{I':Nat->Prop}:∀{x:Tree}{v:Value},x.flat->TR w I x v->TR w' I' x v
 | .sc _,_,_,h=>by simpa[TR]using h
 | .sl _,_,hf,_=>hf.elim
theorem TV.rL{w':World}{I':Nat->Prop}:∀{x:TV}{v:Value},x.flat->pp w I x v->pp w' I' x v
 | .s _,_,hf,h=>Tree.i7 hf h
 | .a cs,v,hf,⟨vs,h1,h2⟩=>by
  refine⟨vs,h1,?_⟩;have:∀(cs:List Tree)(vs:List Value),(∀ x∈cs,x.flat)->en w I cs vs->en w' I' cs vs:=by
   intro cs
   induction cs with
   |nil=>intro vs _ h;cases vs with
    |nil=>trivial
    |cons=>exact h.elim
   |cons x xs ih=>intro vs hf h;cases vs with
    |nil=>exact h.elim
    |cons v vs=>exact⟨Tree.i7 (hf x (by simp)) h.1,ih vs (λ y hy=>hf y (by simp[hy])) h.2⟩
  exact this cs vs.toList hf h2
theorem bo.flat{β':Nat->Option cA}{w':World}{I':Nat->Prop}(rows:List (List Tree))(c:Array Value)(ae sz:Nat)(hf:∀r∈rows,∀x∈r,Tree.flat x)(h:bo P β w I (aS rows) c ae sz):bo P β' w' I' (aS rows) c ae sz:=by
 rw[wC]at h ⊢;intro i r hr;have⟨h1,h2⟩:=h i r hr;refine⟨h1,?_⟩;rw[kU]at h2 ⊢;intro j x hx;have⟨v,g1,g2,g3⟩:=h2 j x hx;refine⟨v,g1,?_,g3⟩;simp only[aS,List.getElem?_map,fq]at hr;obtain⟨r',hr',rfl⟩:=hr;simp only[List.getElem?_map,fq]at hx;obtain⟨x',hx',rfl⟩:=hx;simp only[VR]at g2 ⊢;exact Tree.i7 (hf r' (eD hr') x' (eD hx')) g2
theorem TV.EE{x:TV}{v:Value}(h:pp w I x v):VR P β w I x.av v:=by
 cases x with
 |s x=>simp only[TV.av,VR];exact h
 |a cs=>
  obtain⟨vs,rfl,h⟩:=h;simp only[TV.av,VR];refine⟨vs,rfl,?_⟩;have:∀(cs:List Tree)(us:List Value),en w I cs us->be P β w I (cs.map AV.t) us:=by
   intro cs
   induction cs with
   |nil=>intro us h;cases us with
    |nil=>simp[be]
    |cons=>simp[en]at h
   |cons x xs ih=>intro us h;cases us with
    |nil=>simp[en]at h
    |cons y ys=>simp only[en]at h;simp only[aF,be,VR];exact⟨h.1,ih _ h.2⟩
  exact this cs vs.toList h
theorem Mem.fresh{i:Nat}{obj:Nat->Option aX}{F:Nat->Prop}{sz:Nat}{rows:List (List Tree)}{v:Value}(h:Mem P w0 O0 β I obj w)(hn:β i=none)(hlt:∀k o b,obj k=some o->eL β k b->¬F b)(hle:∀b,F b->O0.own b\/w0.heap.size<=b)(hf:PB P F sz rows w I v):
 ∃ β',Step β I w i β' I w/\Mem P w0 O0 β' I (cZ obj [(i,some ⟨sz,aS rows⟩)]) w/\VR P β' w I (.own i 0 rows.length) v:=by
 rcases hf with ⟨rfl,rfl⟩ |⟨b,c,e,cap,o,rfl,h1,h2,h3,h4,h5,h6,h7⟩
 ·have⟨hS,hM⟩:=Mem.lO (i:=i) (o:=⟨sz,aS []⟩) h hn rfl;exact⟨_,hS,hM,by simp only[VR];exact .inl ⟨by simp[ins],trivial,trivial,rfl⟩⟩
 ·have hS:Step β I w i (ins β i (.at b sz c.size)) I w:=⟨λ j hj=>by simp[ins,fR.ne hj],mU hn,λ_ _=>rfl,λ_ h=>h⟩;refine⟨_,hS,?_,by simp only[VR];exact .inr ⟨b,sz,c.size,cap,o,by simp[ins],rfl,h4,by simpa using h5,λhc=>by simpa using h7 hc⟩⟩;have hbl:b<w.heap.size:=(Array.getElem?_eq_some_iff.1 h3).1;constructor
  ·intro k o' hk;simp only[cZ]at hk;split at hk
   ·cases hk;rename_i hki;exact⟨.at b sz c.size,by simp[ins,hki],rfl,c,e,h3,rfl,bo.mono (λ k B h=>by simp[km]at h) (λ _ _=>rfl) (λ _ h=>h) _ _ _ _ h6⟩
   ·have⟨B,hB,hO⟩:=h.cw k o' hk;exact⟨B,mU hn _ _ hB,OR.mono hS.ext hS.same hS.inc (λ _ _=>rfl) hO⟩
  ·intro k k' o1 o2 B1 B2 b1 e1 e2 e3 e4 e5 e6;simp only[cZ]at e1 e2;simp only[ins]at e3 e4;split at e3<;>split at e4
   ·rename_i p q;rw[p,q]
   ·rename_i p q;cases e3;cases e5;rw[aM q]at e2;exact(hlt k' o2 _ e2 ⟨_,e4,e6⟩ h1).elim
   ·rename_i p q;cases e4;cases e6;rw[aM p]at e1;exact(hlt k o1 _ e1 ⟨_,e3,e5⟩ h1).elim
   ·rename_i p q;rw[aM p]at e1;rw[aM q]at e2;exact h.eR k k' o1 o2 B1 B2 b1 e1 e2 e3 e4 e5 e6
  ·intro k o' B1 b1 e1 e2 e3;simp only[cZ]at e1;simp only[ins]at e2;split at e2
   ·cases e2;cases e3;exact⟨h2,hbl,hle _ h1⟩
   ·rename_i p;rw[aM p]at e1;exact h.ownB k o' B1 b1 e1 e2 e3
  ·exact h.lt
  ·exact h.up
  ·exact h.keep
  ·exact h.le
  ·exact h.os
  ·exact h.tape
  ·exact h.output
  ·intro j C hj;exact mU hn _ _ (h.anch j C hj)
  ·exact h.vars
theorem Xk{i:Nat}{ag:List Nat}{F:Nat->Prop}{βc:Nat->Option cA}{c:RC}{v:Value}(h:Mem P w0 O0 β I obj w)(hn:β (cd i)=none)(hlt:∀k o b,obj k=some o->eL β k b->¬F b)(hle:∀b,F b->O0.own b\/w0.heap.size<=b)(hbc:∀j B,βc j=some B->∃k,ag[j]? =some k/\β k=some B)(hc:tU P F βc c w I v):
 ∃ β',Step β I w (cd i) β' I w/\Mem P w0 O0 β' I (cZ obj (Nj i ag c).2) w/\VR P β' w I (Nj i ag c).1 v/\((Nj i ag c).2=[]->β'=β):=by
 cases c with
 |d x=>exact⟨β,Step.refl ..,h,TV.EE hc,λ_=>rfl⟩
 |fresh sz rows=>
  have⟨β',h1,h2,h3⟩:=Mem.fresh (i:=cd i) h hn hlt hle hc;exact⟨β',h1,h2,by simpa[Nj,aS]using h3,λh=>by simp[Nj]at h⟩
 |whole j len=>
  refine⟨β,Step.refl ..,h,?_,λ_=>rfl⟩;have hc:VR P βc w I (.own j 0 len) v:=hc;simp only[VR]at hc;have key:∀B,βc j=some B->∃k,ag[j]? =some k/\β k=some B:=hbc j;simp only[Nj];rcases hc with ⟨g1,g2⟩ |⟨b,sz,n,cap,o,g1,g2⟩
  ·obtain⟨k,e1,e2⟩:=key _ g1;simp only[e1,VR];exact .inl ⟨e2,g2⟩
  ·obtain⟨k,e1,e2⟩:=key _ g1;simp only[e1,VR];exact .inr ⟨b,sz,n,cap,o,e2,g2⟩
theorem Xl{i:Nat}{ag:List Nat}{F:Nat->Prop}{βc:Nat->Option cA}:∀(cs:List RC)(vs:List Value)(p:List AV×List (Nat×Option aX)),Mem P w0 O0 β I obj w->β (cd i)=none->(∀ k o b,obj k=some o->eL β k b->¬F b)->(∀ b,F b->O0.own b\/w0.heap.size<=b)->(∀ j B,βc j=some B->∃k,ag[j]? =some k/\β k=some B)->
 P5 i ag cs=some p->WY P F βc cs w I vs->∃ β',Step β I w (cd i) β' I w/\Mem P w0 O0 β' I (cZ obj p.2) w/\be P β' w I p.1 vs/\(p.2=[]->β'=β)
 |[],[],p,h,_,_,_,_,hp,_=>by simp only[P5,aC]at hp;subst hp;exact⟨β,Step.refl ..,h,by simp[be],λ_=>rfl⟩
 |c::cs,v::vs,p,h,hn,hlt,hle,hbc,hp,hr=>by
  simp only[WY]at hr;simp only[P5]at hp;cases hq:P5 i ag cs with
  |none=>simp[hq]at hp
  |some q=>
   simp only[hq,ah]at hp;split at hp
   ·rename_i hem;simp only[aC]at hp;subst hp;have⟨β1,g1,g2,g3,g4⟩:=Xk (i:=i) h hn hlt hle hbc hr.1;have⟨β2,k1,k2,k3,k4⟩:=Xl cs vs q h hn hlt hle hbc hq hr.2;have wg:(Nj i ag c).2=[]\/q.2=[]:=(by simpa using hem);rcases wg with hem |hem
    ·have:=g4 hem;subst this;refine⟨β2,k1,by simpa[hem]using k2,?_,λh0=>k4 (by simpa[hem]using h0)⟩;simp only[be];exact⟨VR.mono k1.ext k1.same k1.inc _ _ g3,k3⟩
    ·have:=k4 hem;subst this;refine⟨β1,g1,by simpa[hem]using g2,?_,λh0=>g4 (by simpa[hem]using h0)⟩;simp only[be];exact⟨g3,be.mono g1.ext g1.same g1.inc _ _ k3⟩
   ·cases hp
 |[],_::_,_,_,_,_,_,_,_,hr=>by simp[WY]at hr
 |_::_,[],_,_,_,_,_,_,_,hr=>by simp[WY]at hr
theorem Sv{i:Nat}{ag:List Nat}{F:Nat->Prop}{βc:Nat->Option cA}{rv:RV}{v:Value}{p:AV×List (Nat×Option aX)}(h:Mem P w0 O0 β I obj w)(hn:β (cd i)=none)(hlt:∀k o b,obj k=some o->eL β k b->¬F b)(hle:∀b,F b->O0.own b\/w0.heap.size<=b)(hbc:∀j B,βc j=some B->∃k,ag[j]? =some k/\β k=some B)
 (hp:imp i ag rv=some p) (hr:nv P F βc rv w I v):∃ β',Step β I w (cd i) β' I w/\Mem P w0 O0 β' I (cZ obj p.2) w/\VR P β' w I p.1 v:=by
 cases rv with
 |one c=>
  simp only[imp,aC]at hp;subst hp;have⟨β',h1,h2,h3,_⟩:=Xk (i:=i) h hn hlt hle hbc hr;exact⟨β',h1,h2,h3⟩
 |ey cs=>
  simp only[imp]at hp;cases hq:P5 i ag cs with
  |none=>simp[hq]at hp
  |some q=>
   simp only[hq,ah,aC]at hp;subst hp;obtain⟨vs,rfl,hvs⟩:=hr;have⟨β',h1,h2,h3,_⟩:=Xl (i:=i) cs vs.toList q h hn hlt hle hbc hq hvs;exact⟨β',h1,h2,by simp only[VR];exact⟨vs,rfl,h3⟩⟩
theorem tK(obj:Nat->Option aX):∀(a b:List (Nat×Option aX))(k:Nat),cZ obj (a++b) k=cZ (cZ obj b) a k
 |[],_,_=>rfl
 |(j,o)::a,b,k=>by simp only[cons_append,cZ,tK obj a b k]
theorem AU(obj:Nat->Option aX):∀(ag:List Nat)(k:Nat),cZ obj (ag.map λk=>(k,none)) k=if k∈ag then none else obj k
 |[],k=>by simp[cZ]
 |j::ag,k=>by
  simp only[aF,cZ,AU obj ag k,aK];by_cases h:k=j<;>simp[h]
end
section
variable {P:Program} {T:da} {w0:World} {O0:gi} {β:Nat->Option cA} {I:Nat->Prop} {obj:Nat->Option aX} {w:World} {i:Nat}
theorem nv.flat{F:Nat->Prop}{βc:Nat->Option cA}{w':World}{I' zd:Nat->Prop}{rv:RV}{v:Value}(hf:rv.flat)(hI:∀b,zd b->I' b)(h:nv P F βc rv w' I' v):nv P F βc rv w' zd v:=by
 have hc:∀(c:RC)(v:Value),c.flat->tU P F βc c w' I' v->tU P F βc c w' zd v:=by
  intro c v hf h;cases c with
  |d x=>exact TV.rL hf h
  |fresh sz rows=>
   rcases h with h |⟨b,c,e,cap,o,h1,h2,h3,h4,h5,h6,h7,h8⟩
   ·exact .inl h
   ·exact .inr ⟨b,c,e,cap,o,h1,h2,λhb=>h3 (hI b hb),h4,h5,h6,bo.flat rows c 0 sz hf h7,h8⟩
  |whole j len=>have h:VR P βc w' I' (.own j 0 len) v:=h;show VR P βc w' zd (.own j 0 len) v;simp only[VR]at h ⊢;exact h
 cases rv with
 |one c=>exact hc c v hf h
 |ey cs=>
  obtain⟨vs,rfl,h⟩:=h;refine⟨vs,rfl,?_⟩;have:∀(cs:List RC)(vs:List Value),(∀ c∈cs,c.flat)->WY P F βc cs w' I' vs->WY P F βc cs w' zd vs:=by
   intro cs
   induction cs with
   |nil=>intro vs _ h;cases vs with
    |nil=>trivial
    |cons=>exact h.elim
   |cons c cs ih=>intro vs hf h;cases vs with
    |nil=>exact h.elim
    |cons v vs=>exact⟨hc c v (hf c (by simp)) h.1,ih vs (λ y hy=>hf y (by simp[hy])) h.2⟩
  exact this cs vs.toList hf h
theorem Xm(h:Mem P w0 O0 β I obj w)(hn:β (cd i)=none){ag:List Nat}{rv:RV}{p:AV×List (Nat×Option aX)}{keep:Bool}(hp:imp i [] rv=some p)(hk:keep=true->rv.flat)
 {w':World} {I1:Nat->Prop} {v:Value} (hb:Below w.heap.size w w') (h1:∀b,eJ β obj ag I b->I1 b) (h2:∀b,I1 b->b<w'.heap.size) (h3:∀b,I1 b->eJ β obj ag I b\/w.heap.size<=b) (hr:nv P (Hc w) km rv w' I1 v):
 ∃ β' I',Step β I w (cd i) β' I' w'/\Mem P w0 O0 β' I' (cZ obj (p.2++if keep then []else ag.map (λ k=>(k,none)))) w'/\VR P β' w' I' p.1 v:=by
 have hlt:∀(kh:Nat->Option aX),(∀ k o,kh k=some o->obj k=some o)->∀k o b,kh k=some o->eL β k b->¬Hc w b:=λkh hs k o b e1 e2 hb=>Nat.lt_irrefl _ (Nat.lt_of_lt_of_le (h.fS k o b (hs k o e1) e2).2.1 hb);have hnew:∀b,Hc w b->O0.own b\/w0.heap.size<=b:=λb hb=> .inr (Nat.le_trans h.le hb);have hup:∀b,I1 b->O0.CD b\/O0.own b\/w0.heap.size<=b:=λb hb'=>by
  rcases h3 b hb' with (h5 |⟨k',o',s',n',g1,g2,g3⟩) |h5
  ·exact h.up b h5
  ·exact .inr (h.own k' o' b s' n' g2 g3).2.2
  ·exact .inr (.inr (Nat.le_trans h.le h5))
 cases keep with
 |true=>
  obtain⟨hS,hM⟩:=h.below (I':=λb=>I1 b/\(I b\/w.heap.size<=b)) hb (λ b hb'=>⟨h1 b (.inl hb'),.inl hb'⟩) (λ b hb'=>h2 b hb'.1) (λ b k o B hb' e1 e2 e3=>by
   have⟨a1,a2,_⟩:=h.ownB k o B b e1 e2 e3;rcases hb'.2 with h5 |h5
   ·exact a1 h5
   ·omega) (λ b hb'=>hup b hb'.1)
  obtain⟨β',k1,k2,k3⟩:=Sv hM hn (hlt obj (λ _ _ h=>h)) hnew (λ _ _ h=>by cases h) hp (nv.flat (hk rfl) (λ b hb=>hb.1) hr);refine⟨β',_,⟨k1.other,k1.ext,hS,λb hb'=>⟨h1 b (.inl hb'),.inl hb'⟩⟩,?_,k3⟩;simpa using k2
 |false=>
  have hsub:∀k o,cZ obj (ag.map λk=>(k,none)) k=some o->obj k=some o/\k∉ag:=by
   intro k o hk;rw[AU]at hk;split at hk
   ·cases hk
   ·exact⟨hk,‹_›⟩
  have hd:=h.drop (cZ obj (ag.map λk=>(k,none))) (λ k o hk=>(hsub k o hk).1);obtain⟨hS,hM⟩:=hd.below (I':=I1) hb (λ b hb'=>h1 b (.inl hb')) h2 (λ b k o B hb' e1 e2 e3=>by
   have⟨f1,f2⟩:=hsub k o e1;have⟨a1,a2,_⟩:=h.ownB k o B b f1 e2 e3;rcases h3 b hb' with (h5 |⟨k',o',s',n',g1,g2,g3⟩) |h5
   ·exact a1 h5
   ·have:=h.kq k k' o o' b f1 g2 ⟨B,e2,e3⟩ (.at g3);subst this;exact f2 g1
   ·omega) hup
  obtain⟨β',k1,k2,k3⟩:=Sv hM hn (hlt _ (λ k o hk=>(hsub k o hk).1)) hnew (λ _ _ h=>by cases h) hp hr;refine⟨β',I1,⟨k1.other,k1.ext,hS,λb hb'=>h1 b (.inl hb')⟩,?_,k3⟩;simp only[Bool.false_eq_true,if_false];have e:cZ obj (p.2++ag.map λk=>(k,none))=cZ (cZ obj (ag.map λk=>(k,none))) p.2:=funext λk=>tK obj _ _ k;rw[e];exact k2
theorem P6(h:Mem P w0 O0 β I obj w)(ag:List Nat):∀b,eJ β obj ag I b->b<w.heap.size:=by
 intro b hb;rcases hb with hb |⟨k,o,s,n,_,h2,h3⟩
 ·exact h.lt b hb
 ·exact(h.own k o b s n h2 h3).2.1
theorem Z6(h:Mem P w0 O0 β I obj w)(hn:β (cd i)=none){f:AV}{args:List AV}{b8:fY}{get:Nat->Option aX}{aa:Out}(hg:∀k o,get k=some o->obj k=some o)
 {fv:Value} {vs:Array Value} {ao:Array Operand} {fo:Operand} {r:Operand->Value} (ha:z8 P i f args b8 get=some aa) (cr:aa.ob) (hf:VR P β w I f fv) (hv:be P β w I args vs.toList) (hfo:r fo=fv) (hops:vs=ao.map r)
 {dst:Option Tmp} {aE:String} {after:Array Edge} {guard:Option (Nat×Bool)} {ty:TypeId} {cQ:Array TypeId}:
 D6 P w0 O0 β I obj w i aa ((execOp r ⟨dst,.call { callee:= .value fo,args:=ao,argTypes:=cQ },ty,aE,after,guard⟩).run P w):=by
 have enter : ∀ (F : FuncId) (first caps : Array Value) (args' : Array Value), (∃ fn, P.funcs[F]? = some fn /\ fn.body.isSome = true /\ (fn.name == "runtime.NumGoroutine") = false) -> fv = .func (.func F) first caps -> args' = first ++ vs ++ caps ->
  (execOp r ⟨dst,.call { callee:= .value fo,args:=ao,argTypes:=cQ },ty,aE,after,guard⟩).run P w= .ok (.enter F args') w:=by
  rintro F first caps args' ⟨fn,e1,e2,e3⟩ e4 rfl
  have hb:¬fn.body=none:=by cases hh:fn.body<;>simp[hh]at e2 ⊢
  have e3' : ¬ fn.name = "runtime.NumGoroutine" := by simpa using e3
  simp[execOp,resolve,hfo,e4,<- hops,Deferred.ofValue,invoke,callFunc,e1,e3',hb]
 unfold z8 at ha;split at ha
 ·rename_i F first caps hs rv keep
  cases hp:imp i [] rv with
  |none=>simp[hp]at ha
  |some p=>
   cases hq:mM P get (first++args++caps) hs with
   |none=>simp only[hp,hq,ah,Option.bind_none,reduceCtorEq]at ha
   |some q=>
   simp only[hp,hq,ah]at ha;simp only[VR]at hf;obtain⟨fs,cs,rfl,hf1,hf2⟩:=hf
   have fin:∀(keep:Bool),dE P get (first++args++caps) q.1->pr P F q.1 rv->(keep=true->rv.flat)->
    aa=⟨p.1,p.2++(if keep then []else(fD (first++args++caps)).map (λ k=>(k,none))),aa.obs⟩->D6 P w0 O0 β I obj w i aa ((execOp r ⟨dst,.call { callee:= .value fo,args:=ao,argTypes:=cQ },ty,aE,after,guard⟩).run P w):=by
    intro keep hb hF hk hout;obtain⟨wn,hcon⟩:=hF;have hall:be P β w I (first++args++caps) (fs++vs++cs).toList:=by
     simp only[Array.toList_append];exact be.append _ _ _ _ (be.append _ _ _ _ hf1 hv) hf2
    have lw:=dE.sound h (fD (first++args++caps)) _ _ _ (λ k hk=>hk) (dE.weaken hg _ _ hb) hall;refine⟨F,fs++vs++cs,enter F fs cs _ wn rfl rfl,(hcon w _ _ (P6 h _) (h.vars.mono (λ _ _=>rfl) (λ b hb=> .inl hb)) lw).mono ?_⟩;rintro e w' ⟨v',I1,rfl,hbel,g1,g2,g3,g4⟩;have⟨β',I',k1,k2,k3⟩:=Xm (keep:=keep) h hn hp hk hbel g1 g2 g3 g4;rw[hout];exact⟨v',β',I',rfl,k1,k2,k3⟩
   cases keep with
   |true=>
    simp only[if_true,aC]at ha;subst ha;have cr:=qZ _ cr;exact fin true (jT _ _ _ hq λx hx=>cr x (by simp[hx])) (cr (pr P F q.1 rv) (by simp)) (λ _=>cr rv.flat (by simp)) (by simp)
   |false=>
    simp only[Bool.false_eq_true,if_false,aC]at ha;subst ha;have cr:=qZ _ cr;exact fin false (jT _ _ _ hq λx hx=>cr x (by simp[hx])) (cr (pr P F q.1 rv) (by simp)) (λ h=>by cases h) (by simp)
 ·rename_i φ hs targs rr keep;cases hq:mM P get args hs with
  |none=>simp[hq]at ha
  |some q=>
  simp only[hq,ah]at ha;simp only[VR]at hf;obtain⟨F,fs,cs,rfl,hF1,hF2,hF3⟩:=hf;obtain⟨fn,hfn⟩:=Option.isSome_iff_exists.1 hF2
  have fin:∀(keep:Bool),dE P get args (targs.map TV.av)->φ targs rr->(keep=true->rr.flat)->
   aa=⟨rr.av,[]++(if keep then []else(fD args).map (λ k=>(k,none))),aa.obs⟩->D6 P w0 O0 β I obj w i aa ((execOp r ⟨dst,.call { callee:= .value fo,args:=ao,argTypes:=cQ },ty,aE,after,guard⟩).run P w):=by
   intro keep hb hφ hk hout;have lw:=dE.sound h (fD args) _ _ _ (λ k hk=>hk) (dE.weaken hg _ _ hb) hv;have htv:∀(xs:List TV) (us:List Value),be P km w (eJ β obj (fD args) I) (xs.map TV.av) us->jt w (eJ β obj (fD args) I) xs us:=by
    intro xs
    induction xs with
    |nil=>intro us h;cases us with
     |nil=>trivial
     |cons=>simp[be]at h
    |cons x xs ih=>intro us h;cases us with
     |nil=>simp[be]at h
     |cons u us=>
      simp only[aF,be]at h;refine⟨?_,ih us h.2⟩;cases x with
      |s x=>simpa[TV.av,VR,pp]using h.1
      |a cs=>
       simp only[TV.av,VR]at h;obtain⟨⟨vs',rfl,h1⟩,_⟩:=h;refine⟨vs',rfl,?_⟩;have:∀(cs:List Tree) (us:List Value),be P km w (eJ β obj (fD args) I) (cs.map AV.t) us->en w (eJ β obj (fD args) I) cs us:=by
        intro cs
        induction cs with
        |nil=>intro us h;cases us with
         |nil=>trivial
         |cons=>simp[be]at h
        |cons c cs ih=>intro us h;cases us with
         |nil=>simp[be]at h
         |cons u us=>simp only[aF,be,VR]at h;exact⟨h.1,ih us h.2⟩
       exact this cs _ h1
   refine⟨F,fs++vs++cs,enter F fs cs _ ⟨fn,hfn,(hF1 fn hfn).1,(hF1 fn hfn).2⟩ rfl rfl,(hF3 w _ targs vs rr (λ b hb=>Or.inl hb) (λ _ _=>rfl) (P6 h _) hφ (htv _ _ lw)).mono ?_⟩;rintro e w' ⟨v',I1,rfl,hbel,g1,g2,g3,g4⟩;have⟨β',I',k1,k2,k3⟩:=Xm (i:=i) (rv:= .one (.d rr)) (p:=(rr.av,[])) (keep:=keep) h hn rfl hk hbel g1 g2 g3 g4;rw[hout];exact⟨v',β',I',rfl,k1,k2,k3⟩
  cases keep with
  |true=>
   simp only[if_true,aC]at ha;subst ha;have cr:=qZ _ cr;have e:q.1=targs.map TV.av:=cr _ (by simp);exact fin true (e ▸ jT _ _ _ hq λx hx=>cr x (by simp[hx])) (cr (φ targs rr) (by simp)) (λ _=>cr rr.flat (by simp)) (by simp)
  |false=>
   simp only[Bool.false_eq_true,if_false,aC]at ha;subst ha;have cr:=qZ _ cr;have e:q.1=targs.map TV.av:=cr _ (by simp);exact fin false (e ▸ jT _ _ _ hq λx hx=>cr x (by simp[hx])) (cr (φ targs rr) (by simp)) (λ h=>by cases h) (by simp)
 ·cases ha
end
abbrev fF:=Nat×List (List Tree)
def fg(p:fF):aX:=⟨p.1,aS p.2⟩
def pf(os:List fF)(k:Nat):Option aX:=(os[k]?).map fg
def OD(os:List (Option fF))(k:Nat):Option aX:=((os[k]?).join).map fg
def Xn(β:Nat->Option cA)(b:Nat):Prop:=∃j,eL β j b
def ug(β:Nat->Option cA)(I:Nat->Prop):gi:=⟨Xn β,I,λj=>if j<1000 then β j else none,λj B h=>by
 split at h
 ·assumption
 ·cases h⟩
def yv(w:World)(β:Nat->Option cA)(os':List (Option fF))(b:Nat):Prop:=(Xn β b\/w.heap.size<=b)/\∀k o,OD os' k=some o->¬eL β k b
def Nd(P:Program)(w:World)(β:Nat->Option cA)(I:Nat->Prop)(os':List (Option fF))(rv:RV)(e:Ending)(w':World):Prop:=
 ∃v I',e= .returned v/\Mem P w (ug β I) β I' (OD os') w'/\(∀ b,I b->I' b)/\nv P (yv w β os') β rv w' I' v
def pT(P:Program)(f:FuncId)(args:List AV)(os:List fF)(os':List (Option fF))(rv:RV):Prop:=
 kV P f/\∀(w:World) (β:Nat->Option cA) (I:Nat->Prop) (vs:Array Value),(∀ k,os.length<=k->β k=none)->Mem P w (ug β I) β I (pf os) w->be P β w I args vs.toList->Calls P f vs w (Nd P w β I os' rv)
def βc(ag:List Nat)(β:Nat->Option cA)(j:Nat):Option cA:=(ag[j]?).bind β
section
variable (P:Program) (get:Nat->Option aX) (ag:List Nat)
mutual
def sP:AV->List LH->Option (AV×List LH×List Prop)
 | .own k ae len,.mut j::hs=>if ag[j]? =some k then some (.own j ae len,hs,[])else none
 | .ptr k row ae,.mut j::hs=>if ag[j]? =some k then some (.ptr j row ae,hs,[])else none
 | .mp k,.mut j::hs=>if ag[j]? =some k then some (.mp j,hs,[])else none
 | .agg cs,.agw::hs=>(mG cs hs).bind λp=>some (.agg p.1,p.2.1,p.2.2)
 | .agg cs,.agd::hs=>if (fD cs).all (λ k=>!ag.contains k)then pQ P get (.agg cs) hs else none
 | .fn F first caps,.Th::hs=>(mG first hs).bind λp=>(mG caps p.2.1).bind λq=>some (.fn F p.1 q.1,q.2.1,p.2.2++q.2.2)
 |x,hs=>if (refs x).all (λ k=>!ag.contains k)then pQ P get x hs else none
def mG:List AV->List LH->Option (List AV×List LH×List Prop)
 |[],hs=>some ([],hs,[])
 |x::xs,hs=>(sP x hs).bind λp=>(mG xs p.2.1).bind λq=>some (p.1::q.1,q.2.1,p.2.2++q.2.2)
end
def Ig:List (List AV)->List (List LH)->Option (List (List AV)×List Prop)
 |[],[]=>some ([],[])
 |r::rs,h::hs=>(mG P get ag r h).bind λp=>(Ig rs hs).bind λq=>some (p.1::q.1,p.2.2++q.2)
 |_,_=>none
def jj(x y:AV):Prop:=
 (∃ j k ae len,ag[j]? =some k/\x= .own k ae len/\y= .own j ae len)\/(∃ j k row ae,ag[j]? =some k/\x= .ptr k row ae/\y= .ptr j row ae)\/(∃ j k,ag[j]? =some k/\x= .mp k/\y= .mp j)\/((∀ k∈refs x,k∉ag)/\eV P get x y)
mutual
def eW:AV->AV->Prop
 | .fn F f1 c1,.fn G f2 c2=>(F=G/\er f1 f2/\er c1 c2)\/jj P get ag (.fn F f1 c1) (.fn G f2 c2)
 | .agg c1,.agg c2=>er c1 c2\/jj P get ag (.agg c1) (.agg c2)
 |x,y=>jj P get ag x y
def er:List AV->List AV->Prop
 |[],[]=>True
 |x::xs,y::ys=>eW x y/\er xs ys
 |_,_=>False
end
theorem eW.base{x y:AV}(h:jj P get ag x y):eW P get ag x y:=by cases x<;>cases y<;>simp only[eW]<;>first |exact h |exact .inr h
end
def EQ(get:Nat->Option aX):List Nat->List fF->Option (List Prop)
 |[],[]=>some []
 |k::ag,p::os=>(get k).bind λo=>(EQ get ag os).bind λl=>some ((o.sz=p.1/\dX (o.rows.take p.2.length)=aS p.2)::l)
 |_,_=>none
def ER:List Nat->List (Option fF)->List (Nat×Option aX)
 |k::ag,p::os=>(k,p.map fg)::ER ag os
 |_,_=>[]
def KS(xs:List AV)(ag:List Nat):List Nat:=(fD xs).filter λk=>!ag.contains k
def Xo(os':List (Option fF)):Prop:=∀p,some p∈os'->∀r∈p.2,∀x∈r,Tree.flat x
def KT(P:Program)(i:Nat)(f:AV)(args:List AV)(b8:fY)(get:Nat->Option aX):Option Out:=
 match f,b8 with
 | .fn F first caps,.pL ag os os' hs rv keep=>if ag.Nodup/\os'.length=ag.length then(imp i ag rv).bind λp=>(EQ get ag os).bind λmo=>(mG P get ag (first++args++caps) hs).bind λq=>
  if keep then some ⟨p.1,p.2++ER ag os',q.2.2++mo++[pT P F q.1 os os' rv,rv.flat,Xo os']⟩
  else some ⟨p.1,p.2++(ER ag os'++(KS (first++args++caps) ag).map λk=>(k,none)),q.2.2++mo++[pT P F q.1 os os' rv]⟩
  else none
 |_,_=>none
def oW(P:Program)(i:Nat)(f:AV)(args:List AV)(b8:fY)(get:Nat->Option aX):Option Out:=
 match b8 with
 | .pL .. =>KT P i f args b8 get
 |_=>z8 P i f args b8 get
section
variable {P:Program} {T:da} {w0:World} {O0:gi} {β:Nat->Option cA} {I:Nat->Prop} {obj:Nat->Option aX} {w:World} {i:Nat}
theorem P7{ag:List Nat}{j:Nat}{B:cA}(h:βc ag β j=some B):∃k,ag[j]? =some k/\β k=some B:=by simpa[βc,aj]using h
theorem bo.dat{β':Nat->Option cA}{I':Nat->Prop}(hI:∀b,I b->I' b)(rows:List (List Tree))(c:Array Value)(ae sz:Nat)(h:bo P β w I (aS rows) c ae sz):bo P β' w I' (aS rows) c ae sz:=by
 rw[wC]at h ⊢;intro i r hr;have⟨h1,h2⟩:=h i r hr;refine⟨h1,?_⟩;rw[kU]at h2 ⊢;intro j x hx;have⟨v,g1,g2,g3⟩:=h2 j x hx;refine⟨v,g1,?_,g3⟩;simp only[aS,List.getElem?_map,fq]at hr;obtain⟨r',hr',rfl⟩:=hr;simp only[List.getElem?_map,fq]at hx;obtain⟨x',hx',rfl⟩:=hx;simp only[VR]at g2 ⊢;exact TR.mono (λ _ _=>rfl) hI _ _ g2
theorem be.D3{β':Nat->Option cA}{I':Nat->Prop}(hI:∀b,I b->I' b):∀(r:List Tree)(vs:List Value),be P β w I (r.map AV.t) vs->be P β' w I' (r.map AV.t) vs
 |[],[],_=>by simp[be]
 |x::xs,v::vs,h=>by
  simp only[aF,be,VR]at h ⊢;exact⟨TR.mono (λ _ _=>rfl) hI _ _ h.1,be.D3 hI xs vs h.2⟩
 |[],_::_,h=>by simp[be]at h
 |_::_,[],h=>by simp[be]at h
theorem co.dat{β':Nat->Option cA}{I':Nat->Prop}(hI:∀b,I b->I' b):∀(rs:List (List Tree))(es:List MapEntry),co P β w I (aS rs) es->co P β' w I' (aS rs) es
 |[],[],_=>trivial
 |r::rs,_::es,⟨h1,h4⟩=>⟨be.D3 hI r _ h1,co.dat hI rs es h4⟩
 |[],_::_,h=>h.elim
 |_::_,[],h=>h.elim
theorem be.uc{β':Nat->Option cA}{I':Nat->Prop}:∀(r:List Tree)(vs:List Value),(∀ x∈r,Tree.flat x)->be P β w I (r.map AV.t) vs->be P β' w I' (r.map AV.t) vs
 |[],[],_,_=>by simp[be]
 |x::xs,v::vs,hf,h=>by
  simp only[aF,be,VR]at h ⊢;exact⟨Tree.i7 (hf x (by simp)) h.1,be.uc xs vs (λ y hy=>hf y (by simp[hy])) h.2⟩
 |[],_::_,_,h=>by simp[be]at h
 |_::_,[],_,h=>by simp[be]at h
theorem co.flat{β':Nat->Option cA}{I':Nat->Prop}:∀{rs:List (List Tree)}(_:∀r∈rs,∀x∈r,Tree.flat x)(es:List MapEntry),co P β w I (aS rs) es->co P β' w I' (aS rs) es
 |[],_,[],_=>trivial
 |r::rs,hf,_::es,⟨h1,h4⟩=>⟨be.uc r _ (hf r (by simp)) h1,co.flat (λ r' hr=>hf r' (by simp[hr])) es h4⟩
 |[],_,_::_,h=>h.elim
 |_::_,_,[],h=>h.elim
theorem OR.part{o:aX}{p:fF}{b:Nat}(g4:o.sz=p.1)(g5:dX (o.rows.take p.2.length)=aS p.2)(h:OR P β w I o (.mp b)):OR P β w I (fg p) (.mp b):=by
 obtain⟨es,cl,h1,hle,h2,h3⟩:=h;have hl:=congrArg List.length g5;simp only[dX,aS,List.length_map,length_take]at hl;refine⟨es,cl,h1,by simp only[fg,aS,List.length_map];omega,λe=>?_,h3⟩;have e':p.1=p.2.length:=by simpa[fg,aS]using e
 have:=co.wk _ _ (h2 (by omega));rw[List.take_of_length_le (by omega)]at g5;show co P β w I (aS p.2) es.toList;rw[<- g5];exact this
theorem OR.dat{β':Nat->Option cA}{I':Nat->Prop}(hI:∀b,I b->I' b){p:fF}{B:cA}(h:OR P β w I (fg p) B):OR P β' w I' (fg p) B:=by
 cases B with
 |none=>exact h
 | «at» b s n=>
  obtain⟨h1,c,e,h2,h3,h4⟩:=h;exact⟨h1,c,e,h2,h3,bo.dat hI _ _ _ _ h4⟩
 |mp b=>
  obtain⟨es,cl,h1,hle,h2,h3⟩:=h;exact⟨es,cl,h1,hle,λe=>co.dat hI _ _ (h2 e),h3⟩
theorem OR.flat{β':Nat->Option cA}{I':Nat->Prop}{p:fF}{B:cA}(hf:∀r∈p.2,∀x∈r,Tree.flat x)(h:OR P β w I (fg p) B):OR P β' w I' (fg p) B:=by
 cases B with
 |none=>exact h
 | «at» b s n=>
  obtain⟨h1,c,e,h2,h3,h4⟩:=h;exact⟨h1,c,e,h2,h3,bo.flat _ _ _ _ hf h4⟩
 |mp b=>
  obtain⟨es,cl,h1,hle,h2,h3⟩:=h;exact⟨es,cl,h1,hle,λe=>co.flat hf _ (h2 e),h3⟩
theorem UC{get:Nat->Option aX}:∀{ag:List Nat}{os:List fF}{l:List Prop},EQ get ag os=some l->(∀ q∈l,q)->ag.length=os.length/\∀(j:Nat) k p,ag[j]? =some k->os[j]? =some p->∃o,get k=some o/\o.sz=p.1/\dX (o.rows.take p.2.length)=aS p.2
 |[],[],_,_,_=>⟨rfl,λj k p h=>by simp at h⟩
 |k::ag,p::os,l,h,hq=>by
  simp only[EQ,aj,aC]at h;obtain⟨o,h1,l',h2,rfl⟩:=h;obtain⟨h3,h4⟩:=UC h2 (λ q hq'=>hq q (by simp[hq']));refine⟨by simp[h3],λj k' p' hj hj'=>?_⟩;cases j with
  |zero=>
   simp only[List.getElem?_cons_zero,aC]at hj hj';subst hj;subst hj';exact⟨o,h1,hq _ (by simp)⟩
  |succ j=>exact h4 j k' p' (by simpa using hj) (by simpa using hj')
 |[],_::_,_,h,_=>by simp[EQ]at h
 |_::_,[],_,h,_=>by simp[EQ]at h
theorem akj{ag:List Nat}:∀{os':List (Option fF)}{g:List (Nat×Option aX)}{k:Nat},k∉ag->cZ obj (ER ag os'++g) k=cZ obj g k:=by
 induction ag with
 |nil=>intro os' g k _;rfl
 |cons j ag ih=>
  intro os' g k hk;cases os' with
  |nil=>rfl
  |cons p os'=>
   simp only[aK,not_or]at hk;simp only[ER,cons_append,cZ,aM hk.1,ih hk.2]
theorem abt:∀{ag:List Nat}{os':List (Option fF)}{g:List (Nat×Option aX)}{j k:Nat},ag.Nodup->os'.length=ag.length->ag[j]? =some k->cZ obj (ER ag os'++g) k=OD os' j
 |[],_,_,_,_,_,_,h=>by simp at h
 |i::ag,[],_,_,_,_,hl,_=>by simp at hl
 |i::ag,p::os',g,j,k,hn,hl,h=>by
  simp only[List.nodup_cons]at hn;cases j with
  |zero=>
   simp only[List.getElem?_cons_zero,aC]at h;subst h;simp[ER,cZ,OD]
  |succ j=>
   simp only[List.getElem?_cons_succ]at h;have hne:k≠i:=λe=>hn.1 (e ▸ eD h);simp only[ER,cons_append,cZ,aM hne,abt hn.2 (by simpa using hl) h];simp[OD]
theorem Sw:∀{ag:List Nat},ag.Nodup->∀{j j' k:Nat},ag[j]? =some k->ag[j']? =some k->j=j'
 |[],_,_,_,_,h,_=>by simp at h
 |i::ag,hn,j,j',k,h,h'=>by
  simp only[List.nodup_cons]at hn;cases j with
  |zero=>
   cases j' with
   |zero=>rfl
   |succ j'=>
    simp only[List.getElem?_cons_zero,aC,List.getElem?_cons_succ]at h h';exact(hn.1 (h ▸ eD h')).elim
  |succ j=>
   cases j' with
   |zero=>
    simp only[List.getElem?_cons_zero,aC,List.getElem?_cons_succ]at h h';exact(hn.1 (h' ▸ eD h)).elim
   |succ j'=>exact congrArg (· +1) (Sw hn.2 (k:=k) (by simpa using h) (by simpa using h'))
theorem Mem.handed(h:Mem P w0 O0 β I obj w){ag cE:List Nat}{os:List fF}(hnd:ag.Nodup)(hlen:ag.length=os.length)
 (hm:∀(j:Nat) k p,ag[j]? =some k->os[j]? =some p->∃o,obj k=some o/\o.sz=p.1/\dX (o.rows.take p.2.length)=aS p.2) (wi:∀k∈cE,k∉ag):
 Mem P w (ug (βc ag β) (eJ β obj cE I)) (βc ag β) (eJ β obj cE I) (pf os) w:=by
 have look:∀j o',pf os j=some o'->∃k p o,ag[j]? =some k/\os[j]? =some p/\o'=fg p/\obj k=some o/\o.sz=p.1/\dX (o.rows.take p.2.length)=aS p.2:=by
  intro j o' hj;simp only[pf,fq]at hj;obtain⟨p,hp,rfl⟩:=hj;have hjl:j<ag.length:=by rw[hlen];exact(fe.1 hp).1
  obtain⟨o,g⟩:=hm j _ p (dI hjl) hp;exact⟨_,p,o,dI hjl,hp,rfl,g⟩
 have hb0:∀j k,ag[j]? =some k->βc ag β j=β k:=λj k hk=>by simp[βc,hk]
 constructor
 ·intro j o' hj;obtain⟨k,p,o,g1,g2,rfl,g3,g4,g5⟩:=look j o' hj;have⟨B,hB,hO⟩:=h.cw k o g3;refine⟨B,by rw[hb0 j k g1];exact hB,?_⟩;have:OR P β w I (fg p) B:=by
   cases B with
   |none=>
    simp only[OR]at hO ⊢;rw[hO]at g5;simpa[dX,fg]using g5.symm
   | «at» b s n=>
    obtain⟨h1,c,e,h2,h3,h4⟩:=hO;refine⟨by rw[h1,g4];rfl,c,e,h2,h3,?_⟩;have:=bo.wk _ _ _ _ (bo.take p.2.length _ _ _ _ h4);rw[g5]at this;exact this
   |mp b=>exact OR.part g4 g5 hO
  exact this.dat λb hb=> .inl hb
 ·intro j j' o o' B B' b h1 h2 h3 h4 h5 h6;have⟨k,p,q,g1,_,_,g3,_⟩:=look j o h1;have⟨k',p',q',g1',_,_,g3',_⟩:=look j' o' h2;rw[hb0 j k g1]at h3;rw[hb0 j' k' g1']at h4;have:=h.eR k k' q q' B B' b g3 g3' h3 h4 h5 h6;subst this;exact Sw hnd g1 g1'
 ·intro j o B b h1 h2 h5;have⟨k,p,q,g1,_,_,g3,_⟩:=look j o h1;have h2':=h2;rw[hb0 j k g1]at h2;have⟨a1,a2,_⟩:=h.ownB k q B b g3 h2 h5;refine⟨?_,a2,.inl ⟨j,B,h2',h5⟩⟩;rintro (hI |⟨k',o',s',n',e1,e2,e3⟩)
  ·exact a1 hI
  ·have:=h.kq k k' q o' b g3 e2 ⟨B,h2,h5⟩ (.at e3);subst this;exact wi _ e1 (eD g1)
 ·exact P6 h _
 ·exact λb hb=> .inl hb
 ·exact λ_ _ _=>rfl
 ·exact aT _
 ·rfl
 ·rfl
 ·rfl
 ·intro j B hj;simp only[ug]at hj;split at hj
  ·exact hj
  ·cases hj
 ·exact h.vars.mono (λ _ _=>rfl) (λ b hb=> .inl hb)
theorem Mem.y6(h:Mem P w0 O0 β I obj w){ag cE:List Nat}{os':List (Option fF)}{w':World}{I1 I2:Nat->Prop}{td:Nat->Option aX}
 (hM:Mem P w (ug (βc ag β) (eJ β obj cE I)) (βc ag β) I1 (OD os') w') (hI:∀b,I b->I2 b) (hI1:∀b,I2 b->I1 b) (gx:∀k∈ag,∃o,obj k=some o)
 (ho:∀k o,td k=some o->(∃ j,ag[j]? =some k/\OD os' j=some o/\∀B,OR P (βc ag β) w' I1 o B->OR P β w' I2 o B)\/(k∉ag/\obj k=some o/\∀b,eL β k b->¬I2 b)):
 Same I w w'/\Mem P w0 O0 β I2 td w'/\(∀ b,Xn (βc ag β) b->¬I b/\(O0.own b\/w0.heap.size<=b))/\∀k o b,k∉ag->obj k=some o->eL β k b->¬Xn (βc ag β) b:=by
 have hb0:∀j k,ag[j]? =some k->βc ag β j=β k:=λj k hk=>by simp[βc,hk]
 have hown:∀b,Xn (βc ag β) b->∃k o,k∈ag/\obj k=some o/\eL β k b:=by
  rintro b ⟨j,B,hj,hB⟩;have⟨k,h1,h2⟩:=P7 hj;have⟨o,h3⟩:=gx k (eD h1);exact⟨k,o,eD h1,h3,B,h2,hB⟩
 have hold:∀k o,td k=some o->∃q,obj k=some q:=by
  intro k o hk;rcases ho k o hk with ⟨j,h1,_⟩ |⟨_,h2,_⟩
  ·exact gx k (eD h1)
  ·exact⟨o,h2⟩
 have hapart:∀k o b,k∉ag->obj k=some o->eL β k b->¬Xn (βc ag β) b:=by
  intro k o b hk h1 h2 hb;have⟨k',o',g1,g2,g3⟩:=hown b hb;have:=h.kq k k' o o' b h1 g2 h2 g3;subst this;exact hk g1
 have hS:Same I w w':=λb hb=>hM.keep b (h.lt b hb) (λ hb'=>by
  have⟨k',o',g1,g2,g3⟩:=hown b hb';exact(h.fS k' o' b g2 g3).1 hb)
 refine⟨hS,?_,λb hb=>?_,hapart⟩
 ·constructor
  ·intro k o hk;rcases ho k o hk with ⟨j,h1,h2,h3⟩ |⟨h1,h2,h3⟩
   ·have⟨B,hB,hO⟩:=hM.cw j o h2;exact⟨B,by rw[<- hb0 j k h1];exact hB,h3 B hO⟩
   ·have⟨B,hB,hO⟩:=h.cw k o h2;refine⟨B,hB,OR.mono (λ _ _ h=>h) hS hI (λ b e=>hM.keep b (h.ownB k o B b h2 hB e).2.1 (hapart k o b h1 h2 ⟨B,hB,e⟩)) hO⟩
  ·intro k k' o o' B B' b h1 h2;have⟨q,e1⟩:=hold k o h1;have⟨q',e2⟩:=hold k' o' h2;exact h.eR k k' q q' B B' b e1 e2
  ·intro k o B b h1 h2 h5;have⟨q,e1⟩:=hold k o h1;have⟨a1,a2,a3⟩:=h.ownB k q B b e1 h2 h5;refine⟨?_,Nat.lt_of_lt_of_le a2 hM.le,a3⟩;rcases ho k o h1 with ⟨j,g1,g2,_⟩ |⟨_,_,g3⟩
   ·exact λhb=>(hM.ownB j o B b g2 (by rw[hb0 j k g1];exact h2) h5).1 (hI1 b hb)
   ·exact g3 b ⟨B,h2,h5⟩
  ·exact λb hb=>hM.lt b (hI1 b hb)
  ·intro b hb;rcases hM.up b (hI1 b hb)with (g |⟨k',o',s',n',_,g2,g3⟩) |g |g
   ·exact h.up b g
   ·exact .inr (h.own k' o' b s' n' g2 g3).2.2
   ·have⟨k',o',_,g2,g3⟩:=hown b g;exact .inr (h.fS k' o' b g2 g3).2.2
   ·exact .inr (.inr (Nat.le_trans h.le g))
  ·intro b hb hno;refine(hM.keep b (Nat.lt_of_lt_of_le hb h.le) (λ hb'=>?_)).trans (h.keep b hb hno);have⟨k',o',_,g2,g3⟩:=hown b hb';rcases (h.fS k' o' b g2 g3).2.2 with g |g
   ·exact hno g
   ·omega
  ·exact Nat.le_trans h.le hM.le
  ·exact hM.os.trans h.os
  ·exact hM.tape.trans h.tape
  ·exact hM.output.trans h.output
  ·exact h.anch
  ·exact h.vars.mono hS hI
 ·have⟨k',o',_,g2,g3⟩:=hown b hb;exact⟨(h.fS k' o' b g2 g3).1,(h.fS k' o' b g2 g3).2.2⟩
mutual
theorem acU{get:Nat->Option aX}{ag:List Nat}:∀{x:AV}{hs:List LH}{p:AV×List LH×List Prop},sP P get ag x hs=some p->(∀ q∈p.2.2,q)->eW P get ag x p.1:=by
 intro x hs p h ho;unfold sP at h;split at h
 ·split at h
  ·cases h;exact eW.base _ _ _ (.inl ⟨_,_,_,_,‹_›,rfl,rfl⟩)
  ·cases h
 ·split at h
  ·cases h;exact eW.base _ _ _ (.inr (.inl ⟨_,_,_,_,‹_›,rfl,rfl⟩))
  ·cases h
 ·split at h
  ·cases h;exact eW.base _ _ _ (.inr (.inr (.inl ⟨_,_,‹_›,rfl,rfl⟩)))
  ·cases h
 ·rename_i cs hs;simp only[aj,aC]at h;obtain⟨q,h1,rfl⟩:=h;simp only[eW];exact .inl (mV h1 (λ y hy=>ho y (by simp[hy])))
 ·split at h
  ·rename_i hd;refine eW.base _ _ _ (.inr (.inr (.inr ⟨λ k hk=>by simpa using all_eq_true.1 hd k (by simpa[refs]using hk),Ie _ _ _ h ho⟩)))
  ·cases h
 ·rename_i F first caps hs
  simp only[aj,aC]at h;obtain⟨q,h1,q',h2,rfl⟩:=h;simp only[eW];exact .inl ⟨trivial,mV h1 (λ y hy=>ho y (by simp[hy])),mV h2 (λ y hy=>ho y (by simp[hy]))⟩
 ·split at h
  ·rename_i hd;refine eW.base _ _ _ (.inr (.inr (.inr ⟨λ k hk=>by simpa using all_eq_true.1 hd k hk,Ie _ _ _ h ho⟩)))
  ·cases h
theorem mV{get:Nat->Option aX}{ag:List Nat}:∀{xs:List AV}{hs:List LH}{p:List AV×List LH×List Prop},mG P get ag xs hs=some p->(∀ q∈p.2.2,q)->er P get ag xs p.1
 |[],hs,p,h,_=>by simp only[mG,aC]at h;subst h;trivial
 |x::xs,hs,p,h,ho=>by
  simp only[mG,aj,aC]at h;obtain⟨q,h1,q',h2,rfl⟩:=h;exact⟨acU h1 (λ y hy=>ho y (by simp[hy])),mV h2 (λ y hy=>ho y (by simp[hy]))⟩
end
theorem jj.sound(h:Mem P w0 O0 β I obj w){get:Nat->Option aX}(hg:∀k o,get k=some o->obj k=some o){ag:List Nat}(cE:List Nat){x y:AV}{v:Value}(hk:∀k,k∈refs x->k∉ag->k∈cE)(hb:jj P get ag x y)(hv1:VR P β w I x v):VR P (βc ag β) w (eJ β obj cE I) y v:=by
 rcases hb with ⟨j,k,ae,len,e1,rfl,rfl⟩ |⟨j,k,row,ae,e1,rfl,rfl⟩ |⟨j,k,e1,rfl,rfl⟩ |⟨e1,e2⟩
 ·simp only[VR]at hv1 ⊢;have:βc ag β j=β k:=by simp[βc,e1]
  rw[this];exact hv1
 ·simp only[VR]at hv1 ⊢;have:βc ag β j=β k:=by simp[βc,e1]
  rw[this];exact hv1
 ·simp only[VR]at hv1 ⊢;have:βc ag β j=β k:=by simp[βc,e1]
  rw[this];exact hv1
 ·have:=eV.sound h cE x y v (λ k hk'=>hk k hk' (e1 k hk')) (eV.weaken hg x y e2) hv1;exact VR.mono (λ k B h=>by simp[km]at h) (λ _ _=>rfl) (λ _ h=>h) _ _ this
mutual
theorem eW.sound(h:Mem P w0 O0 β I obj w){get:Nat->Option aX}(hg:∀k o,get k=some o->obj k=some o){ag:List Nat}(cE:List Nat):∀(x y:AV)(v:Value),(∀ k,k∈refs x->k∉ag->k∈cE)->eW P get ag x y->VR P β w I x v->VR P (βc ag β) w (eJ β obj cE I) y v:=by
 intro x y v hk hb hv;unfold eW at hb;split at hb
 ·rcases hb with ⟨rfl,h1,h2⟩ |hb
  ·simp only[VR]at hv ⊢;obtain⟨fs,cs,e,g1,g2⟩:=hv;exact⟨fs,cs,e,er.sound h hg cE _ _ _ (λ k hk'=>hk k (by simp[refs,hk'])) h1 g1,er.sound h hg cE _ _ _ (λ k hk'=>hk k (by simp[refs,hk'])) h2 g2⟩
  ·exact jj.sound h hg cE hk hb hv
 ·rcases hb with h1 |hb
  ·simp only[VR]at hv ⊢;obtain⟨vs,e,g1⟩:=hv;exact⟨vs,e,er.sound h hg cE _ _ _ (λ k hk'=>hk k (by simpa[refs]using hk')) h1 g1⟩
  ·exact jj.sound h hg cE hk hb hv
 ·exact jj.sound h hg cE hk hb hv
theorem er.sound(h:Mem P w0 O0 β I obj w){get:Nat->Option aX}(hg:∀k o,get k=some o->obj k=some o){ag:List Nat}(cE:List Nat):∀(xs ys:List AV)(vs:List Value),(∀ k,k∈fD xs->k∉ag->k∈cE)->er P get ag xs ys->be P β w I xs vs->be P (βc ag β) w (eJ β obj cE I) ys vs
 |[],[],[],_,_,_=>by simp[be]
 |x::xs,y::ys,v::vs,hk,hb,hv=>by
  simp only[be]at hv ⊢;exact⟨eW.sound h hg cE x y v (λ k hk'=>hk k (by simp[fD,hk'])) hb.1 hv.1,er.sound h hg cE xs ys vs (λ k hk'=>hk k (by simp[fD,hk'])) hb.2 hv.2⟩
 |[],_::_,_,_,hb,_=>hb.elim
 |_::_,[],_,_,hb,_=>hb.elim
 |[],[],_::_,_,_,hv=>by simp[be]at hv
 |_::_,_::_,[],_,_,hv=>by simp[be]at hv
end
theorem aeT{os':List (Option fF)}{j:Nat}{o:aX}(h:OD os' j=some o):∃p,some p∈os'/\o=fg p:=by
 simp only[OD,fq,Option.join_eq_some_iff]at h;obtain⟨p,hp,rfl⟩:=h;exact⟨p,eD hp,rfl⟩
theorem aeU(h:Mem P w0 O0 β I obj w)(hn:β (cd i)=none){ag cE:List Nat}{os':List (Option fF)}{rv:RV}{p:AV×List (Nat×Option aX)}{keep:Bool}(hp:imp i ag rv=some p)(hk:keep=true->rv.flat/\Xo os')
 (hnd:ag.Nodup) (hlen:os'.length=ag.length) (gx:∀k∈ag,∃o,obj k=some o)
 {w':World} {I1:Nat->Prop} {v:Value} (hM:Mem P w (ug (βc ag β) (eJ β obj cE I)) (βc ag β) I1 (OD os') w') (h1:∀b,eJ β obj cE I b->I1 b) (hr:nv P (yv w (βc ag β) os') (βc ag β) rv w' I1 v):
 ∃ β' I',Step β I w (cd i) β' I' w'/\Mem P w0 O0 β' I' (cZ obj (p.2++(ER ag os'++if keep then []else cE.map (λ k=>(k,none))))) w'/\VR P β' w' I' p.1 v:=by
 have look:∀g k o,cZ obj (ER ag os'++g) k=some o->(∃ j,ag[j]? =some k/\OD os' j=some o)\/(k∉ag/\cZ obj g k=some o):=by
  intro g k o hk;by_cases hki:k∈ag
  ·obtain⟨j,hj⟩:=List.getElem?_of_mem hki;rw[abt hnd hlen hj]at hk;exact .inl ⟨j,hj,hk⟩
  ·rw[akj hki]at hk;exact .inr ⟨hki,hk⟩
 have main:∀(g:List (Nat×Option aX))(I2:Nat->Prop),(∀ k o,cZ obj g k=some o->obj k=some o)->(∀ b,I b->I2 b)->(∀ b,I2 b->I1 b)->(∀ j o B,OD os' j=some o->OR P (βc ag β) w' I1 o B->OR P β w' I2 o B)->
  (∀ k o b,k∉ag->cZ obj g k=some o->eL β k b->¬I2 b)->nv P (yv w (βc ag β) os') (βc ag β) rv w' I2 v->
  ∃ β' I',Step β I w (cd i) β' I' w'/\Mem P w0 O0 β' I' (cZ obj (p.2++(ER ag os'++g))) w'/\VR P β' w' I' p.1 v:=by
  intro g I2 hg hI hI1 hor Kd hr2;obtain⟨hS,hM2,hown,hapart⟩:=h.y6 (td:=cZ obj (ER ag os'++g)) hM hI hI1 gx (λ k o hk=>by
   rcases look g k o hk with ⟨j,e1,e2⟩ |⟨e1,e2⟩
   ·exact .inl ⟨j,e1,e2,λB=>hor j o B e2⟩
   ·exact .inr ⟨e1,hg k o e2,λb e3=>Kd k o b e1 e2 e3⟩)
  obtain⟨β',k1,k2,k3⟩:=Sv (ag:=ag) (F:=yv w (βc ag β) os') (βc:=βc ag β) hM2 hn (λ k o b e1 e2 hb=>by
   rcases look g k o e1 with ⟨j,e3,e4⟩ |⟨e3,e4⟩
   ·exact hb.2 j o e4 (by obtain⟨B,e5,e6⟩:=e2;exact⟨B,by simp[βc,e3,e5],e6⟩)
   ·rcases hb.1 with hb |hb
    ·exact hapart k o b e3 (hg k o e4) e2 hb
    ·have:=(h.fS k o b (hg k o e4) e2).2.1;omega) (λ b hb=>by
   rcases hb.1 with hb |hb
   ·exact(hown b hb).2
   ·exact .inr (Nat.le_trans h.le hb)) (λ j B hj=>P7 hj) hp hr2
  refine⟨β',I2,⟨k1.other,k1.ext,hS,hI⟩,?_,k3⟩;have e:cZ obj (p.2++(ER ag os'++g))=cZ (cZ obj (ER ag os'++g)) p.2:=funext λk=>tK obj _ _ k;rw[e];exact k2
 cases keep with
 |true=>
  have⟨hf1,hf2⟩:=hk rfl;exact main [] I (λ _ _ h=>h) (λ _ h=>h) (λ b hb=>h1 b (.inl hb)) (λ j o B hj hO=>by
   obtain⟨q,hq,rfl⟩:=aeT hj;exact OR.flat (hf2 q hq) hO) (λ k o b _ e1 e2=>(h.fS k o b e1 e2).1) (nv.flat hf1 (λ b hb=>h1 b (.inl hb)) hr)
 |false=>
  have hsub:∀k o,cZ obj (cE.map λk=>(k,none)) k=some o->obj k=some o/\k∉cE:=by
   intro k o hk;rw[AU]at hk;split at hk
   ·cases hk
   ·exact⟨hk,‹_›⟩
  refine main _ I1 (λ k o hk=>(hsub k o hk).1) (λ b hb=>h1 b (.inl hb)) (λ _ h=>h) (λ j o B hj hO=>by
   obtain⟨q,hq,rfl⟩:=aeT hj;exact OR.dat (λ _ h=>h) hO) (λ k o b hki e1 e2 hb=>?_) hr
  have⟨f1,f2⟩:=hsub k o e1;have⟨a1,a2,_⟩:=h.fS k o b f1 e2;rcases hM.up b hb with (g |⟨k',o',s',n',g1,g2,g3⟩) |⟨j,B',g,g'⟩ |g
  ·exact a1 g
  ·have:=h.kq k k' o o' b f1 g2 e2 (.at g3);subst this;exact f2 g1
  ·have⟨k',g1,g2⟩:=P7 g;have⟨o',g3⟩:=gx k' (eD g1);have:=h.kq k k' o o' b f1 g3 e2 ⟨B',g2,g'⟩;subst this;exact hki (eD g1)
  ·omega
theorem Xp(h:Mem P w0 O0 β I obj w)(hn:β (cd i)=none){f:AV}{args:List AV}{b8:fY}{get:Nat->Option aX}{aa:Out}(hg:∀k o,get k=some o->obj k=some o)
 {fv:Value} {vs:Array Value} {ao:Array Operand} {fo:Operand} {r:Operand->Value} (ha:KT P i f args b8 get=some aa) (cr:aa.ob) (hf:VR P β w I f fv) (hv:be P β w I args vs.toList) (hfo:r fo=fv) (hops:vs=ao.map r)
 {dst:Option Tmp} {aE:String} {after:Array Edge} {guard:Option (Nat×Bool)} {ty:TypeId} {cQ:Array TypeId}:
 D6 P w0 O0 β I obj w i aa ((execOp r ⟨dst,.call { callee:= .value fo,args:=ao,argTypes:=cQ },ty,aE,after,guard⟩).run P w):=by
 unfold KT at ha;split at ha
 ·rename_i F first caps ag os os' hs rv keep
  split at ha
  ·rename_i hc;obtain⟨hnd,hlen⟩:=hc;cases hp:imp i ag rv with
   |none=>simp[hp]at ha
   |some p=>
   cases hmo:EQ get ag os with
   |none=>simp[hp,hmo]at ha
   |some mo=>
   cases hq:mG P get ag (first++args++caps) hs with
   |none=>simp only[hp,hmo,hq,ah,Option.bind_none,reduceCtorEq]at ha
   |some q=>
   simp only[hp,hmo,hq,ah]at ha;simp only[VR]at hf;obtain⟨fs,cs,rfl,hf1,hf2⟩:=hf;have hout:(∀ x∈q.2.2++mo,x)/\pT P F q.1 os os' rv/\(keep=true->rv.flat/\Xo os')/\aa.v=p.1/\aa.upd=p.2++(ER ag os'++if keep then []else(KS (first++args++caps) ag).map (λ k=>(k,none))):=by
    cases keep with
    |true=>
     simp only[if_true,aC]at ha;subst ha;have cr:=qZ _ cr;exact⟨λ x hx=>cr x (by simp only[bf]at hx ⊢;exact .inl hx),cr (pT P F q.1 os os' rv) (by simp),λ_=>⟨cr rv.flat (by simp),cr (Xo os') (by simp)⟩,rfl,by simp⟩
    |false=>
     simp only[Bool.false_eq_true,if_false,aC]at ha;subst ha;have cr:=qZ _ cr;exact⟨λ x hx=>cr x (by simp only[bf]at hx ⊢;exact .inl hx),cr (pT P F q.1 os os' rv) (by simp),λh=>(by cases h),rfl,by simp⟩
   obtain⟨o1,o2,o3,o4,o5⟩:=hout;obtain⟨⟨fn,e1,e2,e3⟩,hcon⟩:=o2;obtain⟨hl2,hmm⟩:=UC hmo (λ x hx=>o1 x (by simp[hx]));have hmm':∀(j:Nat) k p,ag[j]? =some k->os[j]? =some p->∃o,obj k=some o/\o.sz=p.1/\dX (o.rows.take p.2.length)=aS p.2:=λj k p h1 h2=>by
    have⟨o,g1,g2⟩:=hmm j k p h1 h2;exact⟨o,hg k o g1,g2⟩
   have gx:∀k∈ag,∃o,obj k=some o:=by
    intro k hk;obtain⟨j,hj⟩:=List.getElem?_of_mem hk;have hjl:j<os.length:=(by rw[<- hl2];exact(fe.1 hj).1);obtain⟨o,g,_⟩:=hmm' j k _ hj (dI hjl);exact⟨o,g⟩
   have Kx:∀k∈KS (first++args++caps) ag,k∉ag:=λk hk=>by
    simp only[KS,List.mem_filter]at hk;simpa using hk.2
   have hM:=h.handed (cE:=KS (first++args++caps) ag) hnd hl2 hmm' Kx;have hall:be P β w I (first++args++caps) (fs++vs++cs).toList:=by
    simp only[Array.toList_append];exact be.append _ _ _ _ (be.append _ _ _ _ hf1 hv) hf2
   have lw:=er.sound h hg (KS (first++args++caps) ag) _ _ _ (λ k hk hn=>by simp only[KS,List.mem_filter];exact⟨hk,by simpa using hn⟩) (mV hq (λ x hx=>o1 x (by simp[hx]))) hall;refine⟨F,fs++vs++cs,?_,(hcon w _ _ _ (λ k hk=>?_) hM lw).mono ?_⟩
   ·have hb:¬fn.body=none:=(by cases hh:fn.body<;>simp[hh]at e2 ⊢);have e3' : ¬ fn.name = "runtime.NumGoroutine" := (by simpa using e3);simp[execOp,resolve,hfo,<- hops,Deferred.ofValue,invoke,callFunc,e1,e3',hb]
   ·simp[βc,List.getElem?_eq_none (show ag.length<=k by omega)]
   ·rintro e w' ⟨v',I1,rfl,g1,g2,g3⟩;have⟨β',I',k1,k2,k3⟩:=aeU (keep:=keep) h hn hp o3 hnd hlen gx g1 g2 g3;exact⟨v',β',I',rfl,k1,by rw[o5];exact k2,by rw[o4];exact k3⟩
  ·cases ha
 ·cases ha
theorem Xq(h:Mem P w0 O0 β I obj w)(hn:β (cd i)=none){f:AV}{args:List AV}{b8:fY}{get:Nat->Option aX}{aa:Out}(hg:∀k o,get k=some o->obj k=some o)
 {fv:Value} {vs:Array Value} {ao:Array Operand} {fo:Operand} {r:Operand->Value} (ha:oW P i f args b8 get=some aa) (cr:aa.ob) (hf:VR P β w I f fv) (hv:be P β w I args vs.toList) (hfo:r fo=fv) (hops:vs=ao.map r)
 {dst:Option Tmp} {aE:String} {after:Array Edge} {guard:Option (Nat×Bool)} {ty:TypeId} {cQ:Array TypeId}:
 D6 P w0 O0 β I obj w i aa ((execOp r ⟨dst,.call { callee:= .value fo,args:=ao,argTypes:=cQ },ty,aE,after,guard⟩).run P w):=by
 unfold oW at ha;split at ha
 ·exact Xp h hn hg ha cr hf hv hfo hops
 ·exact Z6 h hn hg ha cr hf hv hfo hops
end
end Go.Gb
