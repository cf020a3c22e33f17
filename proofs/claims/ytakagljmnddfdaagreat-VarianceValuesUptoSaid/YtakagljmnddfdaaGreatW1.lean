import GoSem.Claims
import Derived.Calls
import Derived.Below
import Derived.Orders
import Derived.Laws.Cells
import Derived.Laws.AppendOwn
import Derived.Laws.StructEq
import Derived.Laws.Build
import Derived.WalkKit
import Derived.Lib.AppendZeros
import Derived.MapKept
import Derived.Laws.MakeOwn
abbrev U:=@List
abbrev J:=@Option
open Go.IntKind (i64)
open List (length_take mem_map all_eq_true cons_append length_drop map_map take_of_length_le mem_filter map_congr_left flatten_cons eq_nil_of_length_eq_zero)
namespace Go
universe u v
theorem aj{α:Sort u}(a b:α):cond true a b=a:=rfl
theorem ak{α:Sort u}(a b:α):cond false a b=b:=rfl
theorem af{α:Type u}{β:Type v}(a:α)(f:α->J β):(some a).bind f=f a:=rfl
theorem aJ{p:Prop}[Decidable p]:(decide p=true)=p:=_root_.decide_eq_true_eq
theorem dD{p:Prop}{_:Decidable p}:decide p=false↔¬p:=_root_.decide_eq_false_iff_not
theorem ay{α:Type u}(a b:α):(some a=some b)=(a=b):=Option.some.injEq a b
theorem aG(a b:Bool):((a&&b)=true)=(a=true/\b=true):=Bool.and_eq_true a b
theorem fB{a b:Bool}:a=b↔(a=true↔b=true):=Bool.eq_iff_iff
theorem dM{α:Type u}{a b:U α}:(a++b).length=a.length+b.length:=List.length_append
theorem aM{α:Type u}(a b c:U α):a++b++c=a++(b++c):=List.append_assoc a b c
theorem fM{α:Type u}{a:α}:¬a∈([]:U α):=List.not_mem_nil
theorem aW{c:Prop}{h:Decidable c}(hnc:¬c){α:Sort u}{t e:α}:(if c then t else e)=e:=_root_.if_neg hnc
theorem aT{c:Prop}{h:Decidable c}(hc:c){α:Sort u}{t e:α}:(if c then t else e)=t:=_root_.if_pos hc
theorem aY{α:Type u}{a b:α}:a∈[b]↔a=b:=List.mem_singleton
theorem bX{α:Type u}{l:U α}{i:Nat}(h:i<l.length):l[i]? =some l[i]:=List.getElem?_eq_getElem h
theorem lM{α:Type u}{a b:U α}{i:Nat}(h:a.length<=i):(a++b)[i]? =b[i -a.length]? :=List.getElem?_append_right h
theorem dh{α:Type u}{i:Nat}{a:α}{l:U α}:l[i]? =some a↔∃h:i<l.length,l[i]=a:=List.getElem?_eq_some_iff
theorem cO{α:Type u}{l:U α}{i:Nat}{a:α}(h:l[i]? =some a):a∈l:=List.mem_of_getElem? h
theorem eH{α:Type u}{b:α}{α_1:Type v}{x:J α_1}{f:α_1->α}:Option.map f x=some b↔∃a,x=some a/\f a=b:=Option.map_eq_some_iff
theorem fD{α:Type u}{i:Nat}{l:U α}(h:i<l.length):List.take (i+1) l=List.take i l++[l[i]]:=List.take_succ_eq_append_getElem h
theorem fF{α:Type u}(y:α){a:α}{l:U α}(h:a∈l):a∈y::l:=List.mem_cons_of_mem y h
theorem aC(n:Nat):n<=n:=Nat.le_refl n
theorem bn{α:Type u}{a:α}{l:U α}:(a::l).length=l.length+1:=rfl
theorem aF{α:Type u}{β:Type v}{f:α->β}{a:α}{l:U α}:List.map f (a::l)=f a::List.map f l:=rfl
theorem aO{α:Type u}{b:α}{l:U α}{a:α}:a∈b::l↔a=b\/a∈l:=List.mem_cons
theorem bI{α:Type u}(l:U α):[]++l=l:=rfl
theorem bg{α:Type u}{a:α}{s t:U α}:a∈s++t↔a∈s\/a∈t:=List.mem_append
theorem vW{p:Prop}(h:¬p->False):p:=Classical.byContradiction h
end Go
namespace Go
theorem ai{α:Type _}{β:Type _}{b:β}{x:J α}{f:α->J β}:x.bind f=some b↔∃ a,x=some a/\f a=some b:=Option.bind_eq_some_iff
end Go
namespace Go.Gb
def xy:Nat->J (List Value):=λ_=>none
def XX:Nat->Bool:=λg=>g==0
open Go.RowKit
inductive Tree where
 |sc (v:Value)
 |sl (rows:List (List Tree))
inductive TV where
 |s (x:Tree)
 |a (cs:List Tree)
inductive AV where
 |t (x:Tree)
 |agg (cs:List AV)
 |eC (vs:List AV)
 |own (k:Nat) (aa len:Nat)
 |ptr (k:Nat) (row aa:Nat)
 |ej (row:List Tree) (aa:Nat)
 |fn (f:FuncId) (first caps:List AV)
 |du (φ:List TV->TV->Prop)
 |mp (k:Nat)
 |oz (k len:Nat)
 |cM
 |ub
 |undef
structure aS where
 sz:Nat
 rows:List (List AV)
structure Ex where
 m:Nat
 s:Nat
 h:s<=m
def vy(m:Nat):Ex:=⟨m,0,Nat.zero_le m⟩
@[simp] theorem PA (m:Nat):(vy m).m=m:=rfl
@[simp] theorem Pu (m:Nat):(vy m).s=0:=rfl
inductive cE where
 |none
 |at (b sz:Nat) (n:Ex)
 |mp (b:Nat)
@[simp] def cE.num:cE->J Nat
 | .none=>Option.none
 | .at b _ _=>some b
 | .mp b=>some b
def oneCell:Value->Prop
 | .agg _ | .tuple _=>False
 |_=>True
section
variable (w:World) (I:Nat->Prop)
mutual
def TR:Tree->Value->Prop
 | .sc v,u=>u=v/\oneCell v
 | .sl rows,u=>(rows=[]/\∃a cap,u= .slice a 0 cap/\(a=none->cap=0))\/∃b aa cap sz,u= .slice (some ⟨b,aa,none⟩) rows.length cap/\rows.length<=cap/\I b/\ci rows b aa sz
def ci:List (List Tree)->Nat->Nat->Nat->Prop
 |[],_,_,_=>True
 |r::rs,b,aa,sz=>r.length=sz/\df r b aa/\ci rs b (aa+sz) sz
def df:List Tree->Nat->Nat->Prop
 |[],_,_=>True
 |x::xs,b,aa=>(∃ c,w.cell? ⟨b,aa,none⟩=some c/\TR x c)/\df xs b (aa+1)
end
def ep:U Tree->U Value->Prop
 |[],[]=>True
 |x::xs,v::vs=>TR w I x v/\ep xs vs
 |_,_=>False
def td:TV->Value->Prop
 | .s x,v=>TR w I x v
 | .a cs,v=>∃vs:Array Value,v= .agg vs/\ep w I cs vs.toList
def ml:U TV->U Value->Prop
 |[],[]=>True
 |x::xs,v::vs=>td w I x v/\ml xs vs
 |_,_=>False
end
def Same(I:Nat->Prop)(w w':World):Prop:=∀b,I b->w'.heap[b]? =w.heap[b]?
theorem Same.cell{I:Nat->Prop}{w w':World}(h:Same I w w'){b aa:Nat}(hb:I b):w'.cell? ⟨b,aa,none⟩=w.cell? ⟨b,aa,none⟩:=by simp only[World.cell?,h b hb]
mutual
theorem TR.mono{w w':World}{I I':Nat->Prop}(hs:Same I w w')(hi:∀b,I b->I' b):∀(x:Tree)(v:Value),TR w I x v->TR w' I' x v
 | .sc _,_,h=>by simpa[TR]using h
 | .sl rows,v,h=>by
  simp only[TR]at h ⊢;rcases h with h |⟨b,aa,cap,sz,h1,h2,h3,h4⟩
  .exact .inl h
  .exact .inr ⟨b,aa,cap,sz,h1,h2,hi _ h3,ci.mono hs hi rows b aa sz h3 h4⟩
theorem ci.mono{w w':World}{I I':Nat->Prop}(hs:Same I w w')(hi:∀b,I b->I' b):∀(rows:List (List Tree))(b aa sz:Nat),I b->ci w I rows b aa sz->ci w' I' rows b aa sz
 |[],_,_,_,_,_=>by simp[ci]
 |r::rs,b,aa,sz,hb,h=>by
  simp only[ci]at h ⊢;exact⟨h.1,df.mono hs hi r b aa hb h.2.1,ci.mono hs hi rs b (aa+sz) sz hb h.2.2⟩
theorem df.mono{w w':World}{I I':Nat->Prop}(hs:Same I w w')(hi:∀b,I b->I' b):∀(r:List Tree)(b aa:Nat),I b->df w I r b aa->df w' I' r b aa
 |[],_,_,_,_=>by simp[df]
 |x::xs,b,aa,hb,h=>by
  simp only[df]at h ⊢;obtain⟨⟨c,hc,hx⟩,h2⟩:=h;exact⟨⟨c,by rw[hs.cell hb];exact hc,TR.mono hs hi x c hx⟩,df.mono hs hi xs b (aa+1) hb h2⟩
end
theorem ep.mono{w w':World}{I I':Nat->Prop}(hs:Same I w w')(hi:∀b,I b->I' b):∀(xs:U Tree)(vs:U Value),ep w I xs vs->ep w' I' xs vs
 |[],[],_=>trivial
 |x::xs,v::vs,h=>⟨TR.mono hs hi x v h.1,ep.mono hs hi xs vs h.2⟩
 |[],_::_,h=>h.elim
 |_::_,[],h=>h.elim
theorem td.mono{w w':World}{I I':Nat->Prop}(hs:Same I w w')(hi:∀b,I b->I' b):∀(x:TV)(v:Value),td w I x v->td w' I' x v
 | .s x,v,h=>TR.mono hs hi x v h
 | .a cs,_,⟨vs,h1,h2⟩=>⟨vs,h1,ep.mono hs hi cs vs.toList h2⟩
theorem ml.mono{w w':World}{I I':Nat->Prop}(hs:Same I w w')(hi:∀b,I b->I' b):∀(xs:U TV)(vs:U Value),ml w I xs vs->ml w' I' xs vs
 |[],[],_=>trivial
 |x::xs,v::vs,h=>⟨td.mono hs hi x v h.1,ml.mono hs hi xs vs h.2⟩
 |[],_::_,h=>h.elim
 |_::_,[],h=>h.elim
def j7(w:World)(I:Nat->Prop):Prop:=(∀ g row,xy g=some row->I g/\df w I (row.map Tree.sc) g 0)/\∀g,XX g=true->I g/\∃m,w.cell? ⟨g,0,none⟩=some (.int .i64 m)
theorem j7.mono{w w':World}{I I':Nat->Prop}(hs:Same I w w')(hi:∀b,I b->I' b)(h:j7 w I):j7 w' I':=⟨λ g row hg=>
 ⟨hi g (h.1 g row hg).1,df.mono hs hi _ g 0 (h.1 g row hg).1 (h.1 g row hg).2⟩,λg hg=>⟨hi g (h.2 g hg).1,by rw[hs.cell (h.2 g hg).1];exact(h.2 g hg).2⟩⟩
def ajF(w:World)(I:Nat->Prop)(R:World->(Nat->Prop)->Value->Prop)(e:Ending)(w':World):Prop:=
 ∃v I',e= .returned v/\Below w.heap.size w w'/\(∀ b,I b->I' b)/\(∀ b,I' b->b<w'.heap.size)/\(∀ b,I' b->I b\/w.heap.size<=b)/\R w' I' v
def ra(P:Program)(w:World)(I:Nat->Prop)(φ:U TV->TV->Prop)(v:Value):Prop:=
 ∃(f:FuncId)(first caps:Array Value),v= .func (.func f) first caps/\first=#[]/\
  (∀ fn, P.funcs[f]? = some fn -> fn.body.isSome = true /\ (fn.name == "runtime.NumGoroutine") = false) /\ (P.funcs[f]?).isSome = true /\
  ∀(w':World)(I':Nat->Prop)(args:U TV)(vs:Array Value)(r:TV),(∀ b,I b->I' b)->Same I w w'->(∀ b,I' b->b<w'.heap.size)->
   φ args r->ml w' I' args vs.toList->Calls P f (first++vs++caps) w' (ajF w' I' λw'' E2 u=>td w'' E2 r u)
section
variable (P:Program) (β:Nat->Option cE) (w:World) (I:Nat->Prop)
mutual
def VR:AV->Value->Prop
 | .t x,v=>TR w I x v
 | .agg cs,v=>∃vs:Array Value,v= .agg vs/\bj cs vs.toList
 | .eC cs,v=>∃vs:Array Value,v= .tuple vs/\bj cs vs.toList
 | .own k aa len,v=>(β k=some .none/\v= .slice none 0 0/\aa=0/\len=0)\/
  ∃b sz n cap o,β k=some (.at b sz n)/\v= .slice (some ⟨b,o,none⟩) len cap/\len<=cap/\n.s+(aa+cap)*sz<=n.m/\(cap≠0->o=n.s+aa*sz)
 | .ptr k row aa,v=>∃b sz n,β k=some (.at b sz n)/\v= .pointer (some ⟨b,n.s+row*sz+aa,none⟩)
 | .ej row aa,v=>∃b o,v= .pointer (some ⟨b,o+aa,none⟩)/\I b/\df w I row b o
 | .fn f first caps,v=>∃fs cs:Array Value,v= .func (.func f) fs cs/\bj first fs.toList/\bj caps cs.toList
 | .du φ,v=>ra P w I φ v
 | .mp k,v=>∃b,β k=some (.mp b)/\v= .map (some b)
 | .oz k len,v=>(len=0/\v= .slice none 0 0)\/(len≠0/\∃b sz n cap o,β k=some (.at b sz n)/\v= .slice (some ⟨b,o,none⟩) len cap/\len<=cap/\n.s+(0+cap)*sz<=n.m/\(cap≠0->o=n.s+0*sz))
 | .cM,v=>v= .slice none 0 0
 | .ub,v=>∃b,v= .bool b
 | .undef,_=>True
def bj:List AV->List Value->Prop
 |[],[]=>True
 |x::xs,v::vs=>VR x v/\bj xs vs
 |_,_=>False
end
def cQ:U AV->Array Value->Nat->Prop
 |[],_,_=>True
 |x::xs,c,aa=>(∃ v,c[aa]? =some v/\VR P β w I x v/\oneCell v)/\cQ xs c (aa+1)
def bo:U (List AV)->Array Value->Nat->Nat->Prop
 |[],_,_,_=>True
 |r::rs,c,aa,sz=>r.length=sz/\cQ P β w I r c aa/\bo rs c (aa+sz) sz
def cy:U (List AV)->U MapEntry->Prop
 |[],[]=>True
 |r::rs,e::es=>bj P β w I r [e.key,e.val]/\cy rs es
 |_,_=>False
def OR(o:aS):cE->Prop
 | .none=>o.rows=[]
 | .mp b=>∃es clock,w.heap[b]? =some (.map es clock)/\o.rows.length<=o.sz/\(o.sz=o.rows.length->cy P β w I o.rows es.toList)/\(es.toList.map (·.born)).Nodup/\∀e∈es.toList,e.born<clock
 | .at b sz n=>sz=o.sz/\∃c e,w.heap[b]? =some (.cells c e (0,0))/\c.size=n.m/\bo P β w I o.rows c n.s sz
end
theorem ra.mono{P:Program}{w w':World}{I I':Nat->Prop}(hs:Same I w w')(hi:∀b,I b->I' b){φ:U TV->TV->Prop}{v:Value}(h:ra P w I φ v):ra P w' I' φ v:=by
 obtain⟨f,first,caps,h1,h0,h2,h3,h4⟩:=h;exact⟨f,first,caps,h1,h0,h2,h3,λw2 I2 args vs r hi2 hs2 hlt hφ ha=>h4 w2 I2 args vs r (λ b h=>hi2 b (hi b h)) (λ b h=>(hs2 b (hi b h)).trans (hs b h)) hlt hφ ha⟩
mutual
theorem VR.mono{P:Program}{β β':Nat->Option cE}{w w':World}{I I':Nat->Prop}(hb:∀k B,β k=some B->β' k=some B)(hs:Same I w w')(hi:∀b,I b->I' b):∀(x:AV)(v:Value),VR P β w I x v->VR P β' w' I' x v
 | .t x,v,h=>by simp only[VR]at h ⊢;exact TR.mono hs hi x v h
 | .agg cs,v,h=>by
  simp only[VR]at h ⊢;obtain⟨vs,h1,h2⟩:=h;exact⟨vs,h1,bj.mono hb hs hi cs vs.toList h2⟩
 | .eC cs,v,h=>by
  simp only[VR]at h ⊢;obtain⟨vs,h1,h2⟩:=h;exact⟨vs,h1,bj.mono hb hs hi cs vs.toList h2⟩
 | .own k aa len,v,h=>by
  simp only[VR]at h ⊢;rcases h with ⟨h1,h2⟩ |⟨b,sz,n,cap,o,h1,h2⟩
  .exact .inl ⟨hb _ _ h1,h2⟩
  .exact .inr ⟨b,sz,n,cap,o,hb _ _ h1,h2⟩
 | .ptr k row aa,v,h=>by
  simp only[VR]at h ⊢;obtain⟨b,sz,n,h1,h2⟩:=h;exact⟨b,sz,n,hb _ _ h1,h2⟩
 | .ej row aa,v,h=>by
  simp only[VR]at h ⊢;obtain⟨b,o,h1,h2,h3⟩:=h;exact⟨b,o,h1,hi _ h2,df.mono hs hi row b o h2 h3⟩
 | .fn f first caps,v,h=>by
  simp only[VR]at h ⊢;obtain⟨fs,cs,h1,h2,h3⟩:=h;exact⟨fs,cs,h1,bj.mono hb hs hi first fs.toList h2,bj.mono hb hs hi caps cs.toList h3⟩
 | .du φ,v,h=>by simp only[VR]at h ⊢;exact ra.mono hs hi h
 | .mp k,v,h=>by
  simp only[VR]at h ⊢;obtain⟨b,h1,h2⟩:=h;exact⟨b,hb _ _ h1,h2⟩
 | .oz k len,v,h=>by
  simp only[VR]at h ⊢;rcases h with h |⟨h0,b,sz,n,cap,o,h1,h2⟩
  .exact .inl h
  .exact .inr ⟨h0,b,sz,n,cap,o,hb _ _ h1,h2⟩
 | .cM,v,h=>by simpa[VR]using h
 | .ub,v,h=>by simpa[VR]using h
 | .undef,_,_=>by simp[VR]
theorem bj.mono{P:Program}{β β':Nat->Option cE}{w w':World}{I I':Nat->Prop}(hb:∀k B,β k=some B->β' k=some B)(hs:Same I w w')(hi:∀b,I b->I' b):∀(xs:List AV)(vs:List Value),bj P β w I xs vs->bj P β' w' I' xs vs
 |[],[],_=>by simp[bj]
 |x::xs,v::vs,h=>by simp only[bj]at h ⊢;exact⟨VR.mono hb hs hi x v h.1,bj.mono hb hs hi xs vs h.2⟩
 |[],_::_,h=>by simp[bj]at h
 |_::_,[],h=>by simp[bj]at h
end
theorem VR.uA{P:Program}{β:Nat->J cE}{w:World}{I:Nat->Prop}{k len:Nat}{v:Value}(h:VR P β w I (.oz k len) v):(len=0/\v= .slice none 0 0)\/(len≠0/\VR P β w I (.own k 0 len) v):=by
 simp only[VR]at h ⊢;exact h.imp id λh=>⟨h.1,.inr h.2⟩
def wk:AV->AV
 | .cM=> .t (.sl [])
 |x=>x
def eu(rows:U (List AV)):U (List AV):=rows.map λr=>r.map wk
theorem VR.wk{P:Program}{β:Nat->J cE}{w:World}{I:Nat->Prop}{x:AV}{v:Value}(h:VR P β w I x v):VR P β w I (wk x) v:=by
 cases x<;>simp only[Gb.wk]<;>try exact h
 simp only[VR]at h ⊢;simp only[TR];exact .inl ⟨trivial,none,0,h,λ_=>rfl⟩
theorem cQ.wk{P:Program}{β:Nat->J cE}{w:World}{I:Nat->Prop}:∀(r:U AV)(c:Array Value)(aa:Nat),cQ P β w I r c aa->cQ P β w I (r.map Gb.wk) c aa
 |[],_,_,_=>trivial
 |_::xs,c,aa,⟨⟨v,h1,h2,h3⟩,h4⟩=>⟨⟨v,h1,h2.wk,h3⟩,cQ.wk xs c (aa+1) h4⟩
theorem bo.wk{P:Program}{β:Nat->J cE}{w:World}{I:Nat->Prop}:∀(rs:U (List AV))(c:Array Value)(aa sz:Nat),bo P β w I rs c aa sz->bo P β w I (eu rs) c aa sz
 |[],_,_,_,_=>trivial
 |r::rs,c,aa,sz,⟨h1,h2,h3⟩=>⟨by simpa using h1,cQ.wk r c aa h2,bo.wk rs c (aa+sz) sz h3⟩
theorem cQ.mono{P:Program}{β β':Nat->J cE}{w w':World}{I I':Nat->Prop}(hb:∀k B,β k=some B->β' k=some B)(hs:Same I w w')(hi:∀b,I b->I' b):∀(r:U AV)(c:Array Value)(aa:Nat),cQ P β w I r c aa->cQ P β' w' I' r c aa
 |[],_,_,_=>trivial
 |x::xs,c,aa,⟨⟨v,h1,h2,h3⟩,h4⟩=>⟨⟨v,h1,VR.mono hb hs hi x v h2,h3⟩,cQ.mono hb hs hi xs c (aa+1) h4⟩
theorem bo.mono{P:Program}{β β':Nat->J cE}{w w':World}{I I':Nat->Prop}(hb:∀k B,β k=some B->β' k=some B)(hs:Same I w w')(hi:∀b,I b->I' b):∀(rs:U (List AV))(c:Array Value)(aa sz:Nat),bo P β w I rs c aa sz->bo P β' w' I' rs c aa sz
 |[],_,_,_,_=>trivial
 |r::rs,c,aa,sz,⟨h1,h2,h3⟩=>⟨h1,cQ.mono hb hs hi r c aa h2,bo.mono hb hs hi rs c (aa+sz) sz h3⟩
theorem bj.wk{P:Program}{β:Nat->J cE}{w:World}{I:Nat->Prop}:∀(r:U AV)(vs:U Value),bj P β w I r vs->bj P β w I (r.map Gb.wk) vs
 |[],[],_=>by simp[bj]
 |x::xs,v::vs,h=>by simp only[bj]at h;simp only[aF,bj];exact⟨h.1.wk,bj.wk xs vs h.2⟩
 |[],_::_,h=>by simp[bj]at h
 |_::_,[],h=>by simp[bj]at h
theorem cy.mono{P:Program}{β β':Nat->J cE}{w w':World}{I I':Nat->Prop}(hb:∀k B,β k=some B->β' k=some B)(hs:Same I w w')(hi:∀b,I b->I' b):∀(rs:U (List AV))(es:U MapEntry),cy P β w I rs es->cy P β' w' I' rs es
 |[],[],_=>trivial
 |r::rs,_::es,⟨h1,h4⟩=>⟨bj.mono hb hs hi r _ h1,cy.mono hb hs hi rs es h4⟩
 |[],_::_,h=>h.elim
 |_::_,[],h=>h.elim
theorem cy.wk{P:Program}{β:Nat->J cE}{w:World}{I:Nat->Prop}:∀(rs:U (List AV))(es:U MapEntry),cy P β w I rs es->cy P β w I (eu rs) es
 |[],[],_=>trivial
 |r::rs,_::es,⟨h1,h4⟩=>⟨bj.wk r _ h1,cy.wk rs es h4⟩
 |[],_::_,h=>h.elim
 |_::_,[],h=>h.elim
structure i9 where
 own:Nat->Prop
 HF:Nat->Prop
 anc:Nat->Option cE:=λ_=>none
 lt:∀j B,anc j=some B->j<1000:=by intro j B h;cases h
structure Mem(P:Program)(w0:World)(O0:i9)(β:Nat->Option cE)(I:Nat->Prop)(obj:Nat->Option aS)(w:World):Prop where
 cD:∀k o,obj k=some o->∃B,β k=some B/\OR P β w I o B
 gd:∀k k' o o' B B' b,obj k=some o->obj k'=some o'->β k=some B->β k'=some B'->B.num=some b->B'.num=some b->k=k'
 ownB:∀k o B b,obj k=some o->β k=some B->B.num=some b->¬I b/\b<w.heap.size/\(O0.own b\/w0.heap.size<=b)
 lt:∀b,I b->b<w.heap.size
 up:∀b,I b->O0.HF b\/O0.own b\/w0.heap.size<=b
 keep:∀b,b<w0.heap.size->¬O0.own b->w.heap[b]? =w0.heap[b]?
 le:w0.heap.size<=w.heap.size
 os:w.os=w0.os
 tape:w.tape=w0.tape
 output:w.output=w0.output
 anch:∀j B,O0.anc j=some B->β j=some B
 vars:j7 w I
section
variable {P:Program} {w0:World} {O0:i9} {β:Nat->Option cE} {I:Nat->Prop} {obj:Nat->Option aS} {w:World}
theorem Mem.inj(h:Mem P w0 O0 β I obj w):∀k k' o o' b s n s' n',obj k=some o->obj k'=some o'->β k=some (.at b s n)->β k'=some (.at b s' n')->k=k':=
 λk k' o o' b _ _ _ _ h1 h2 h3 h4=>h.gd k k' o o' _ _ b h1 h2 h3 h4 rfl rfl
theorem Mem.own(h:Mem P w0 O0 β I obj w):∀k o b s n,obj k=some o->β k=some (.at b s n)->¬I b/\b<w.heap.size/\(O0.own b\/w0.heap.size<=b):=
 λk o b _ _ h1 h2=>h.ownB k o _ b h1 h2 rfl
end
def gb(β:Nat->J cE)(k b:Nat):Prop:=∃B,β k=some B/\B.num=some b
theorem gb.at{β:Nat->J cE}{k b s:Nat}{n:Ex}(h:β k=some (.at b s n)):gb β k b:=⟨_,h,rfl⟩
section
variable {P:Program} {w0:World} {O0:i9} {β:Nat->Option cE} {I:Nat->Prop} {obj:Nat->Option aS} {w:World}
theorem Mem.nb(h:Mem P w0 O0 β I obj w):∀k k' o o' b,obj k=some o->obj k'=some o'->gb β k b->gb β k' b->k=k':=
 λk k' o o' b h1 h2 ⟨B,h3,h5⟩ ⟨B',h4,h6⟩=>h.gd k k' o o' B B' b h1 h2 h3 h4 h5 h6
theorem Mem.ik(h:Mem P w0 O0 β I obj w):∀k o b,obj k=some o->gb β k b->¬I b/\b<w.heap.size/\(O0.own b\/w0.heap.size<=b):=
 λk o b h1 ⟨B,h2,h3⟩=>h.ownB k o B b h1 h2 h3
end
def bU(obj:Nat->J aS):U (Nat×Option aS)->Nat->J aS
 |[],k=>obj k
 |(j,o)::r,k=>if k=j then o else bU obj r k
def ie(i k:Nat):Prop:=k=i\/(1000000<=i/\1000000<=k/\(k -1000000)/64=(i -1000000)/64)
theorem ie.ne{i k:Nat}(h:¬ie i k):k≠i:=λe=>h (.inl e)
structure Step(β:Nat->Option cE)(I:Nat->Prop)(w:World)(i:Nat)(β':Nat->Option cE)(I':Nat->Prop)(w':World):Prop where
 other:∀k,¬ie i k->β' k=β k
 ext:∀k B,β k=some B->β' k=some B
 same:Same I w w'
 inc:∀b,I b->I' b
theorem Step.refl(β:Nat->J cE)(I:Nat->Prop)(w:World)(i:Nat):Step β I w i β I w:=⟨λ _ _=>rfl,λ_ _ h=>h,λ_ _=>rfl,λ_ h=>h⟩
theorem rQ{w:World}{o:Obj}{b:Nat}(h:b<w.heap.size):(w.alloc o).heap[b]? =w.heap[b]? :=by grind [World.alloc]
theorem Same.alloc{I:Nat->Prop}{w:World}(h:∀b,I b->b<w.heap.size)(o:Obj):Same I w (w.alloc o):=λb hb=>rQ (h b hb)
def ins(β:Nat->J cE)(i:Nat)(B:cE):Nat->J cE:=λk=>if k=i then some B else β k
theorem nS{β:Nat->J cE}{i:Nat}{B:cE}(h:β i=none):∀k C,β k=some C->ins β i B k=some C:=by grind [ins]
theorem jL{P:Program}{β:Nat->J cE}{w:World}{I:Nat->Prop}:∀(r:U AV)(c:Array Value)(aa:Nat),cQ P β w I r c aa↔∀j x,r[j]? =some x->∃v,c[aa+j]? =some v/\VR P β w I x v/\oneCell v
 |[],c,aa=>by simp[cQ]
 |x::xs,c,aa=>by
  simp only[cQ,jL xs c (aa+1)];constructor
  .grind
  .intro h;refine⟨by simpa using h 0 x rfl,λj y hj=>?_⟩;obtain⟨v,hv⟩:=h (j+1) y (by simpa using hj);exact⟨v,by rw[show aa+1+j=aa+(j+1)by omega];exact hv.1,hv.2⟩
theorem nI{P:Program}{β:Nat->J cE}{w:World}{I:Nat->Prop}:∀(rs:U (List AV))(c:Array Value)(aa sz:Nat),bo P β w I rs c aa sz↔∀i r,rs[i]? =some r->r.length=sz/\cQ P β w I r c (aa+i*sz)
 |[],c,aa,sz=>by simp[bo]
 |r::rs,c,aa,sz=>by
  simp only[bo,nI rs c (aa+sz) sz];constructor
  .rintro⟨h1,h2,h3⟩ i r' hi;cases i with
   |zero=>simp at hi;subst hi;exact⟨h1,by simpa using h2⟩
   |succ i=>have:=h3 i r' (by simpa using hi);rw[show aa+(i+1)*sz=aa+sz+i*sz by rw[Nat.add_mul];omega];exact this
  .intro h;have h0:=h 0 r rfl;refine⟨h0.1,by simpa using h0.2,λi r' hi=>?_⟩;have:=h (i+1) r' (by simpa using hi);rw[show aa+sz+i*sz=aa+(i+1)*sz by rw[Nat.add_mul];omega];exact this
section
variable {P:Program} {w0:World} {O0:i9} {β:Nat->Option cE} {I:Nat->Prop} {obj:Nat->Option aS} {w:World}
theorem OR.mono{β':Nat->J cE}{I':Nat->Prop}{w':World}{o:aS}{B:cE}(hb:∀k B,β k=some B->β' k=some B)(hs:Same I w w')(hi:∀b,I b->I' b)
 (hB:∀b,B.num=some b->w'.heap[b]? =w.heap[b]?) (h:OR P β w I o B):OR P β' w' I' o B:=by
 cases B with
 |none=>exact h
 | «at» b s n=>
  obtain⟨h1,c,e,h2,h3,h4⟩:=h;exact⟨h1,c,e,(hB b rfl).trans h2,h3,bo.mono hb hs hi _ _ _ _ h4⟩
 |mp b=>
  obtain⟨es,cl,h1,hle,h2,h3⟩:=h;exact⟨es,cl,(hB b rfl).trans h1,hle,λe=>cy.mono hb hs hi _ _ (h2 e),h3⟩
theorem Mem.alloc{i:Nat}{o:aS}{c:Array Value}{e:TypeId}(h:Mem P w0 O0 β I obj w)(hn:β i=none)
 (hr:bo P β w I o.rows c 0 o.sz):
 Step β I w i (ins β i (.at w.heap.size o.sz (vy c.size))) I (w.alloc (.cells c e))/\
 Mem P w0 O0 (ins β i (.at w.heap.size o.sz (vy c.size))) I (bU obj [(i,some o)]) (w.alloc (.cells c e)):=by
 have hS:Step β I w i (ins β i (.at w.heap.size o.sz (vy c.size))) I (w.alloc (.cells c e)):=
  ⟨λ k hk=>by simp[ins,ie.ne hk],nS hn,Same.alloc h.lt _,λ_ h=>h⟩
 refine⟨hS,?_⟩;have hne:∀k o',obj k=some o'->k≠i:=λk o' hk e=>by
  have⟨B,hB,_⟩:=h.cD k o' hk;rw[e,hn]at hB;cases hB
 constructor
 .intro k o' hk;simp only[bU]at hk;split at hk
  .cases hk;rename_i hki;refine⟨.at w.heap.size o.sz (vy c.size),by simp[ins,hki],rfl,c,e,?_,rfl,bo.mono hS.ext hS.same hS.inc _ _ _ _ hr⟩;exact heap_alloc_new w _
  .have⟨B,hB,hO⟩:=h.cD k o' hk;exact⟨B,nS hn _ _ hB,OR.mono hS.ext hS.same hS.inc (λ b hb=>rQ (h.ownB k o' B b hk hB hb).2.1) hO⟩
 .intro k k' o1 o2 B B' b h1 h2 h3 h4 h5 h6;simp only[bU]at h1 h2;simp only[ins]at h3 h4;split at h1<;>split at h2
  .rename_i a b;rw[a,b]
  .rename_i hki oX;simp only[hki,if_true,ay]at h3;simp only[oX,if_false]at h4;subst h3;injection h5 with h5;have:=(h.ownB k' o2 B' b h2 h4 h6).2.1;omega
  .rename_i hki oX;simp only[oX,if_true,ay]at h4;simp only[hki,if_false]at h3;subst h4;injection h6 with h6;have:=(h.ownB k o1 B b h1 h3 h5).2.1;omega
  .rename_i hki oX;simp only[hki,oX,if_false]at h3 h4;exact h.gd k k' o1 o2 B B' b h1 h2 h3 h4 h5 h6
 .intro k o' B b h1 h2 h3;simp only[bU]at h1;simp only[ins]at h2;split at h1
  .rename_i hki;simp only[hki,if_true,ay]at h2;subst h2;injection h3 with h3;refine⟨λ hI=>?_,?_,.inr ?_⟩
   .have:=h.lt b hI;omega
   .simp;omega
   .have:=h.le;omega
  .rename_i hki;simp only[hki,if_false]at h2;have⟨a,b',c'⟩:=h.ownB k o' B b h1 h2 h3;exact⟨a,by simp;omega,c'⟩
 .intro b hb;have:=h.lt b hb;simp;omega
 .exact h.up
 .intro b hb hO;rw[rQ (by have:=h.le;omega)];exact h.keep b hb hO
 .have:=h.le;simp;omega
 .exact h.os
 .exact h.tape
 .exact h.output
 .intro j B hj;exact nS hn _ _ (h.anch j B hj)
 .exact h.vars.mono (Same.alloc h.lt _) (λ _ h=>h)
theorem Mem.write{k:Nat}{o o':aS}{b s:Nat}{n:Ex}{c':Array Value}{e:TypeId}{w':World}(h:Mem P w0 O0 β I obj w)(hk:obj k=some o)(hβ:β k=some (.at b s n))
 (hnew:w'.heap[b]? =some (.cells c' e (0,0))) (hother:∀b',b'≠b->w'.heap[b']? =w.heap[b']?) (hsize:w'.heap.size=w.heap.size) (hos:w'.os=w.os) (vf:w'.tape=w.tape) (hout:w'.output=w.output)
 (hsz:s=o'.sz) (hn:c'.size=n.m) (hr:bo P β w I o'.rows c' n.s o'.sz):
 Same I w w'/\Mem P w0 O0 β I (bU obj [(k,some o')]) w':=by
 have⟨S5,hlt,hO⟩:=h.own k o b s n hk hβ;have hs:Same I w w':=λb' hb=>hother b' (λ e=>S5 (e ▸ hb));refine⟨hs,?_⟩;constructor
 .intro j oj hj;simp only[bU]at hj;split at hj
  .rename_i hjk;cases hj;refine⟨.at b s n,by rw[hjk];exact hβ,hsz,c',e,?_,hn,hsz ▸ bo.mono (λ _ _ h=>h) hs (λ _ h=>h) _ _ _ _ hr⟩;exact hnew
  .rename_i hjk;have⟨B,hB,sq⟩:=h.cD j oj hj;refine⟨B,hB,OR.mono (λ _ _ h=>h) hs (λ _ h=>h) (λ b1 e1=>hother b1 (λ e2=>hjk ?_)) sq⟩;subst e2;exact h.gd j k oj o B _ b1 hj hk hB hβ e1 rfl
 .intro j j' o1 o2 B1 B2 b1 h1 h2 h3 h4 h5 h6;have hx:∀(j:Nat)(o1:aS),bU obj [(k,some o')] j=some o1->∃o2,obj j=some o2:=λj o1 h=>by
   simp only[bU]at h;split at h
   .rename_i e;exact⟨o,by rw[e];exact hk⟩
   .exact⟨_,h⟩
  have⟨p1,q1⟩:=hx j o1 h1;have⟨p2,q2⟩:=hx j' o2 h2;exact h.gd j j' p1 p2 B1 B2 b1 q1 q2 h3 h4 h5 h6
 .intro j o1 B1 b1 h1 h2 h3;have hx:∃o2,obj j=some o2:=by
   simp only[bU]at h1;split at h1
   .rename_i e;exact⟨o,by rw[e];exact hk⟩
   .exact⟨_,h1⟩
  obtain⟨p1,q1⟩:=hx;have:=h.ownB j p1 B1 b1 q1 h2 h3;rw[hsize];exact this
 .intro b1 hb1;rw[hsize];exact h.lt b1 hb1
 .exact h.up
 .intro b1 hb1 hno;rw[hother b1 (λ e1=>?_)]
  .exact h.keep b1 hb1 hno
  .subst e1;rcases hO with hO |hO
   .exact hno hO
   .omega
 .rw[hsize];exact h.le
 .rw[hos];exact h.os
 .rw[vf];exact h.tape
 .rw[hout];exact h.output
 .exact h.anch
 .exact h.vars.mono hs (λ _ h=>h)
theorem Mem.drop(h:Mem P w0 O0 β I obj w)(m8:Nat->J aS)(hsub:∀k o,m8 k=some o->obj k=some o):Mem P w0 O0 β I m8 w:=
 ⟨λ k o hk=>h.cD k o (hsub k o hk),λk k' o o' B B' b h1 h2=>h.gd k k' o o' B B' b (hsub _ _ h1) (hsub _ _ h2),λk o B b h1=>h.ownB k o B b (hsub _ _ h1),h.lt,h.up,h.keep,h.le,h.os,h.tape,h.output,h.anch,h.vars⟩
theorem Mem.below{w':World}{I':Nat->Prop}(h:Mem P w0 O0 β I obj w)(hb:Below w.heap.size w w')(hi:∀b,I b->I' b)(hlt:∀b,I' b->b<w'.heap.size)(hI:∀b k o B,I' b->obj k=some o->β k=some B->B.num=some b->False)(hup:∀b,I' b->O0.HF b\/O0.own b\/w0.heap.size<=b):
 Same I w w'/\Mem P w0 O0 β I' obj w':=by
 have hs:Same I w w':=λb hb'=>hb.block b (h.lt b hb');refine⟨hs,?_⟩;constructor
 .intro k o hk;have⟨B,hB,hO⟩:=h.cD k o hk;exact⟨B,hB,OR.mono (λ _ _ h=>h) hs hi (λ b e=>hb.block b (h.ownB k o B b hk hB e).2.1) hO⟩
 .exact h.gd
 .intro k o B b h1 h2 h3;have⟨a,b',c⟩:=h.ownB k o B b h1 h2 h3;exact⟨λ hb2=>hI b k o B hb2 h1 h2 h3,Nat.lt_of_lt_of_le b' hb.size,c⟩
 .exact hlt
 .exact hup
 .intro b hb1 hno;rw[hb.block b (by have:=h.le;omega)];exact h.keep b hb1 hno
 .have:=h.le;have:=hb.size;omega
 .rw[hb.os];exact h.os
 .rw[hb.tape];exact h.tape
 .rw[hb.output];exact h.output
 .exact h.anch
 .exact h.vars.mono hs hi
theorem Mem.weak{m8:Nat->J aS}(h:Mem P w0 O0 β I obj w)(ho:∀k o',m8 k=some o'->∃o,obj k=some o/\∀B,β k=some B->OR P β w I o B->OR P β w I o' B):Mem P w0 O0 β I m8 w:=by
 constructor
 .intro k o' hk;have⟨o,h1,h2⟩:=ho k o' hk;have⟨B,hB,hO⟩:=h.cD k o h1;exact⟨B,hB,h2 B hB hO⟩
 .intro k k' o o' B B' b h1 h2;have⟨q,g1,_⟩:=ho k o h1;have⟨q',g2,_⟩:=ho k' o' h2;exact h.gd k k' q q' B B' b g1 g2
 .intro k o B b h1;have⟨q,g1,_⟩:=ho k o h1;exact h.ownB k q B b g1
 .exact h.lt
 .exact h.up
 .exact h.keep
 .exact h.le
 .exact h.os
 .exact h.tape
 .exact h.output
 .exact h.anch
 .exact h.vars
theorem OR.wk{o:aS}{B:cE}(h:OR P β w I o B):OR P β w I ⟨o.sz,eu o.rows⟩ B:=by
 cases B with
 |none=>simp only[OR]at h ⊢;simp[eu,h]
 | «at» b s n=>
  obtain⟨h1,c,e,h2,h3,h4⟩:=h;exact⟨h1,c,e,h2,h3,bo.wk _ _ _ _ h4⟩
 |mp b=>
  obtain⟨es,cl,h1,hle,h2,h3⟩:=h;exact⟨es,cl,h1,by simpa[eu]using hle,λe=>cy.wk _ _ (h2 (by simpa[eu]using e)),h3⟩
theorem Mem.xa{k:Nat}{sz:Nat}{rows:U (List AV)}(h:Mem P w0 O0 β I (bU obj [(k,some ⟨sz,rows⟩)]) w):Mem P w0 O0 β I (bU obj [(k,some ⟨sz,eu rows⟩)]) w:=by
 refine h.weak λj o' hj=>?_;simp only[bU]at hj ⊢;by_cases e:j=k
 .rw[aT e]at hj ⊢;cases hj;exact⟨_,rfl,λB _ hB=>OR.wk hB⟩
 .rw[aW e]at hj ⊢;exact⟨o',hj,λ_ _ h=>h⟩
theorem Mem.drew(h:Mem P w0 O0 β I obj w):Mem P w0 O0 β I obj w.drew:=by
 have hb:Below w.heap.size w w.drew:=⟨rfl,rfl,rfl,aC _,λ_ _=>rfl⟩;exact(h.below hb (λ _ h=>h) h.lt (λ b k o B h1 h2 h3 h4=>(h.ownB k o B b h2 h3 h4).1 h1) h.up).2
end
def mA:Nat->J cE:=λ_=>none
def TV.av:TV->AV
 | .s x=> .t x
 | .a cs=> .agg (cs.map .t)
inductive RC where
 |d (x:TV)
 |fresh (sz:Nat) (rows:List (List Tree))
 |whole (j len:Nat)
inductive RV where
 |one (c:RC)
 |eC (cs:List RC)
def aL(rows:U (List Tree)):U (List AV):=rows.map λr=>r.map AV.t
def WM(P:Program)(F:Nat->Prop)(sz:Nat)(rows:U (List Tree))(w:World)(I:Nat->Prop)(v:Value):Prop:=
 (rows=[]/\v= .slice none 0 0)\/∃b c e cap o s,v= .slice (some ⟨b,o,none⟩) rows.length cap/\F b/\¬I b/\w.heap[b]? =some (.cells c e (0,0))/\rows.length<=cap/\s+cap*sz<=c.size/\
  bo P mA w I (aL rows) c s sz/\(cap≠0->o=s)
def yv(P:Program)(F:Nat->Prop)(β:Nat->J cE):RC->World->(Nat->Prop)->Value->Prop
 | .d x,w,I,v=>td w I x v
 | .fresh sz rows,w,I,v=>WM P F sz rows w I v
 | .whole j len,w,I,v=>VR P β w I (.own j 0 len) v
def UD(P:Program)(F:Nat->Prop)(β:Nat->J cE):U RC->World->(Nat->Prop)->U Value->Prop
 |[],_,_,[]=>True
 |c::cs,w,I,v::vs=>yv P F β c w I v/\UD P F β cs w I vs
 |_,_,_,_=>False
def ri(P:Program)(F:Nat->Prop)(β:Nat->J cE):RV->World->(Nat->Prop)->Value->Prop
 | .one c,w,I,v=>yv P F β c w I v
 | .eC cs,w,I,v=>∃vs:Array Value,v= .tuple vs/\UD P F β cs w I vs.toList
def M2(w:World)(b:Nat):Prop:=w.heap.size<=b
def eU(P : Program)(f : FuncId): Prop := ∃ fn, P.funcs[f]? = some fn /\ fn.body.isSome = true /\ (fn.name == "runtime.NumGoroutine") = false
def tf(P:Program)(f:FuncId)(args:U AV)(r:RV):Prop:=
 eU P f/\∀(w:World)(I:Nat->Prop)(vs:Array Value),(∀ b,I b->b<w.heap.size)->j7 w I->bj P mA w I args vs.toList->Calls P f vs w (ajF w I (ri P (M2 w) mA r))
mutual
def fh(P:Program)(get:Nat->Option aS):AV->AV->Prop
 | .t x,y=>y= .t x
 | .agg cs,y=>∃cs',y= .agg cs'/\ev P get cs cs'
 | .eC _,_=>False
 | .own k aa len,y=>∃o dc,get k=some o/\y= .t (.sl dc)/\(o.rows.drop aa).take len=aL dc/\dc.length=len
 | .ptr k row aa,y=>∃o sB,get k=some o/\y= .ej sB aa/\o.rows[row]? =some (sB.map AV.t)
 | .ej r o,y=>y= .ej r o
 | .fn f first caps,y=>∃first' mT,ev P get first first'/\ev P get caps mT/\(y= .fn f first' mT\/
  ∃ φ,y= .du φ/\first'=[]/\eU P f/\∀args r,φ args r->tf P f (first'++args.map TV.av++mT) (.one (.d r)))
 | .du φ,y=>y= .du φ
 | .mp _,_=>False
 | .oz k len,y=>∃o dc,get k=some o/\y= .t (.sl dc)/\(o.rows.drop 0).take len=aL dc/\dc.length=len
 | .cM,y=>y= .t (.sl [])\/y= .cM
 | .ub,_=>False
 | .undef,_=>False
def ev(P:Program)(get:Nat->Option aS):List AV->List AV->Prop
 |[],[]=>True
 |x::xs,y::ys=>fh P get x y/\ev P get xs ys
 |_,_=>False
end
mutual
def refs:AV->List Nat
 | .own k _ _=>[k]
 | .ptr k _ _=>[k]
 | .mp k=>[k]
 | .oz k _=>[k]
 | .agg cs=>eX cs
 | .eC cs=>eX cs
 | .fn _ first caps=>eX first++eX caps
 |_=>[]
def eX:List AV->List Nat
 |[]=>[]
 |x::xs=>refs x++eX xs
end
def fm(β:Nat->J cE)(obj:Nat->J aS)(ae:U Nat)(I:Nat->Prop)(b:Nat):Prop:=
 I b\/∃k o s n,k∈ae/\obj k=some o/\β k=some (.at b s n)
theorem fm.sub{β:Nat->J cE}{obj:Nat->J aS}{ae HG:U Nat}{I:Nat->Prop}(h:∀k,k∈ae->k∈HG):∀b,fm β obj ae I b->fm β obj HG I b:=by
 intro b hb;rcases hb with hb |⟨k,o,s,n,h1,h2⟩
 .exact .inl hb
 .exact .inr ⟨k,o,s,n,h k h1,h2⟩
section
variable {P:Program} {β:Nat->Option cE} {w:World} {I:Nat->Prop}
theorem cQ.drop:∀(n:Nat)(r:U AV)(c:Array Value)(aa:Nat),cQ P β w I r c aa->cQ P β w I (r.drop n) c (aa+n)
 | 0,_,_,_,h=>by simpa using h
 |n+1,[],_,_,_=>by simp[cQ]
 |n+1,x::xs,c,aa,⟨_,h⟩=>by
  have:=cQ.drop n xs c (aa+1) h;rw[List.drop_succ_cons,show aa+(n+1)=aa+1+n by omega];exact this
theorem cQ.take:∀(n:Nat)(r:U AV)(c:Array Value)(aa:Nat),cQ P β w I r c aa->cQ P β w I (r.take n) c aa
 | 0,_,_,_,_=>by simp[cQ]
 |n+1,[],_,_,_=>by simp[cQ]
 |n+1,x::xs,c,aa,⟨h1,h⟩=>⟨h1,cQ.take n xs c (aa+1) h⟩
theorem bo.drop:∀(n:Nat)(rs:U (List AV))(c:Array Value)(aa sz:Nat),bo P β w I rs c aa sz->bo P β w I (rs.drop n) c (aa+n*sz) sz
 | 0,_,_,_,_,h=>by simpa using h
 |n+1,[],_,_,_,_=>by simp[bo]
 |n+1,r::rs,c,aa,sz,⟨_,_,h⟩=>by
  have:=bo.drop n rs c (aa+sz) sz h;rw[List.drop_succ_cons,show aa+(n+1)*sz=aa+sz+n*sz by rw[Nat.add_mul];omega];exact this
theorem bo.take:∀(n:Nat)(rs:U (List AV))(c:Array Value)(aa sz:Nat),bo P β w I rs c aa sz->bo P β w I (rs.take n) c aa sz
 | 0,_,_,_,_,_=>by simp[bo]
 |n+1,[],_,_,_,_=>by simp[bo]
 |n+1,r::rs,c,aa,sz,⟨h1,h2,h⟩=>⟨h1,h2,bo.take n rs c (aa+sz) sz h⟩
theorem bo.get:∀(i:Nat)(rs:U (List AV))(c:Array Value)(aa sz:Nat)(r:U AV),bo P β w I rs c aa sz->rs[i]? =some r->r.length=sz/\cQ P β w I r c (aa+i*sz)
 | 0,r::rs,c,aa,sz,r',⟨h1,h2,_⟩,h=>by simp at h;subst h;exact⟨h1,by simpa using h2⟩
 |i+1,r::rs,c,aa,sz,r',⟨_,_,h3⟩,h=>by
  have:=bo.get i rs c (aa+sz) sz r' h3 (by simpa using h);rw[show aa+(i+1)*sz=aa+sz+i*sz by rw[Nat.add_mul];omega];exact this
 |_,[],_,_,_,_,_,h=>by simp at h
theorem df.li{I':Nat->Prop}{b:Nat}{c:Array Value}{e:TypeId}{f:Nat×Nat}(hI:∀b,I b->I' b)(hc:w.heap[b]? =some (.cells c e f)):∀(r:U Tree)(aa:Nat),cQ P β w I (r.map AV.t) c aa->df w I' r b aa
 |[],_,_=>by simp[df]
 |x::xs,aa,⟨⟨v,h1,h2,_⟩,h3⟩=>by
  simp only[df];refine⟨⟨v,?_,?_⟩,df.li hI hc xs (aa+1) h3⟩
  .simp[World.cell?,hc,h1]
  .simp only[VR]at h2;exact TR.mono (λ _ _=>rfl) hI x v h2
theorem ci.li{I':Nat->Prop}{b:Nat}{c:Array Value}{e:TypeId}{f:Nat×Nat}(hI:∀b,I b->I' b)(hc:w.heap[b]? =some (.cells c e f)):∀(rs:U (List Tree))(aa sz:Nat),bo P β w I (aL rs) c aa sz->ci w I' rs b aa sz
 |[],_,_,_=>by simp[ci]
 |r::rs,aa,sz,h=>by
  simp only[aL,aF,bo]at h;simp only[ci];exact⟨by simpa using h.1,df.li hI hc r aa h.2.1,ci.li hI hc rs (aa+sz) sz h.2.2⟩
theorem ra.Hv{f:FuncId}{first caps:Array Value}{first' mT:U AV}{φ:U TV->TV->Prop}(h0:first'=[])(hcall:eU P f)(hgv:j7 w I)(hf:bj P mA w I first' first.toList)(hc:bj P mA w I mT caps.toList)
 (h:∀args r,φ args r->tf P f (first'++args.map TV.av++mT) (.one (.d r))):ra P w I φ (.func (.func f) first caps):=by
 obtain⟨fn,h1,h2,h3⟩:=hcall;have h00:first=#[]:=by
  obtain⟨fs⟩:=first
  cases fs with
  |nil=>rfl
  |cons a b=>rw[h0]at hf;simp[bj]at hf
 refine⟨f,first,caps,rfl,h00,λfn' hfn=>?_,by simp[h1],?_⟩
 .rw[h1]at hfn;cases hfn;exact⟨h2,h3⟩
 .intro w' I' args vs r hI hS hlt hφ ha;have happ:∀(a b:U AV)(u v:U Value),bj P mA w' I' a u->bj P mA w' I' b v->bj P mA w' I' (a++b) (u++v):=by
   intro a
   induction a with
   |nil=>intro b u v h1 h2;cases u with
    |nil=>simpa using h2
    |cons=>simp[bj]at h1
   |cons x xs ih=>intro b u v h1 h2;cases u with
    |nil=>simp[bj]at h1
    |cons y ys=>simp only[bj]at h1;simp only[cons_append,bj];exact⟨h1.1,ih _ _ _ h1.2 h2⟩
  have hargs:∀(args:U TV)(vs:U Value),ml w' I' args vs->bj P mA w' I' (args.map TV.av) vs:=by
   intro args
   induction args with
   |nil=>intro vs h;cases vs with
    |nil=>simp[bj]
    |cons=>simp[ml]at h
   |cons x xs ih=>intro vs h;cases vs with
    |nil=>simp[ml]at h
    |cons y ys=>
     simp only[ml]at h;simp only[aF,bj];refine⟨?_,ih ys h.2⟩;cases x with
     |s x=>simpa[TV.av,VR,td]using h.1
     |a cs=>
      obtain⟨us,rfl,h5⟩:=h.1;simp only[TV.av,VR];refine⟨us,rfl,?_⟩;have:∀(cs:U Tree) (us:U Value),ep w' I' cs us->bj P mA w' I' (cs.map AV.t) us:=by
       intro cs
       induction cs with
       |nil=>intro us h;cases us with
        |nil=>simp[bj]
        |cons=>simp[ep]at h
       |cons x xs ih=>intro us h;cases us with
        |nil=>simp[ep]at h
        |cons y ys=>simp only[ep]at h;simp only[aF,bj,VR];exact⟨h.1,ih _ h.2⟩
      exact this cs us.toList h5
  have hm:∀k B,mA k=some B->mA k=some B:=λ_ _ h=>h;have:=(h args r hφ).2 w' I' (first++vs++caps) hlt (hgv.mono hS hI) (by
   simp only[Array.toList_append];exact happ _ _ _ _ (happ _ _ _ _ (bj.mono hm hS hI _ _ hf) (hargs _ _ ha)) (bj.mono hm hS hI _ _ hc))
  exact this
variable {w0:World} {O0:i9} {obj:Nat->Option aS}
theorem fh.pP(h:Mem P w0 O0 β I obj w)(ae:U Nat){k aa len:Nat}{y:AV}{v:Value}(hk:k∈ae)(hb:∃o dc,obj k=some o/\y= .t (.sl dc)/\(o.rows.drop aa).take len=aL dc/\dc.length=len)(hv:VR P β w I (.own k aa len) v):VR P mA w (fm β obj ae I) y v:=by
 obtain⟨o,dc,hget,rfl,hrows,hlen⟩:=hb;simp only[VR]at hv ⊢;simp only[TR];rcases hv with ⟨h1,rfl,h2,h3⟩ |⟨b,sz,n,cap,a,h1,rfl,h2,h3,h4⟩
 .exact .inl ⟨eq_nil_of_length_eq_zero (by omega),none,0,rfl,λ_=>rfl⟩
 .refine .inr ⟨b,a,cap,sz,by rw[hlen],by omega,.inr ⟨k,o,sz,n,hk,hget,h1⟩,?_⟩;by_cases h0:cap=0
  .have:dc=[]:=eq_nil_of_length_eq_zero (by omega);subst this;simp[ci]
  .rw[h4 h0];have⟨B,hB,hO⟩:=h.cD k o hget;rw[h1]at hB;cases hB;obtain⟨hs,c,e,hc,_,hO⟩:=hO;have h4:=bo.take len _ _ _ _ (bo.drop aa _ _ _ _ hO);rw[hrows]at h4;exact ci.li (λ _ h=> .inl h) hc dc _ _ h4
mutual
theorem fh.sound(h:Mem P w0 O0 β I obj w)(ae:List Nat):∀(x y:AV)(v:Value),(∀ k,k∈refs x->k∈ae)->fh P obj x y->VR P β w I x v->VR P mA w (fm β obj ae I) y v
 | .t x,y,v,_,hb,hv=>by
  simp only[fh]at hb;subst hb;simp only[VR]at hv ⊢;exact TR.mono (λ _ _=>rfl) (λ _ h=> .inl h) x v hv
 | .agg cs,y,v,hk,hb,hv=>by
  simp only[fh]at hb;obtain⟨cs',rfl,hb⟩:=hb;simp only[VR]at hv ⊢;obtain⟨vs,rfl,hv⟩:=hv;exact⟨vs,rfl,ev.sound h ae cs cs' vs.toList (by simpa[refs]using hk) hb hv⟩
 | .eC _,_,_,_,hb,_=>by simp[fh]at hb
 | .oz k len,y,v,hk,hb,hv=>by
  rcases hv.uA with ⟨rfl,rfl⟩ |⟨_,hv⟩
  .simp only[fh]at hb;obtain⟨o,dc,hget,rfl,hrows,hlen⟩:=hb;simp only[VR,TR];exact .inl ⟨eq_nil_of_length_eq_zero hlen,none,0,rfl,λ_=>rfl⟩
  .exact fh.pP h ae (hk k (by simp[refs])) (by simpa only[fh]using hb) hv
 | .own k aa len,y,v,hk,hb,hv=>fh.pP h ae (hk k (by simp[refs])) (by simpa only[fh]using hb) hv
 | .ptr k row aa,y,v,hk,hb,hv=>by
  simp only[fh]at hb;obtain⟨o,sB,hget,rfl,hrow⟩:=hb;simp only[VR]at hv ⊢;obtain⟨b,sz,n,h1,rfl⟩:=hv;have⟨B,hB,hO⟩:=h.cD k o hget;rw[h1]at hB;cases hB;obtain⟨hs,c,e,hc,_,hO⟩:=hO;have h4:=(bo.get row _ _ _ _ _ hO hrow).2;exact⟨b,n.s+row*sz,rfl,.inr ⟨k,o,sz,n,hk k (by simp[refs]),hget,h1⟩,df.li (λ _ h=> .inl h) hc sB _ h4⟩
 | .ej r o,y,v,_,hb,hv=>by
  simp only[fh]at hb;subst hb;simp only[VR]at hv ⊢;obtain⟨b,o',h1,h2,h3⟩:=hv;exact⟨b,o',h1,.inl h2,df.mono (λ _ _=>rfl) (λ _ h=> .inl h) r b o' h2 h3⟩
 | .fn f first caps,y,v,hk,hb,hv=>by
  simp only[fh]at hb;obtain⟨first',mT,hb1,hb2,hy⟩:=hb;simp only[VR]at hv;obtain⟨fs,cs,rfl,hv1,hv2⟩:=hv;have h1:=ev.sound h ae first first' fs.toList (λ k hk'=>hk k (by simp[refs,hk'])) hb1 hv1
  have h2:=ev.sound h ae caps mT cs.toList (λ k hk'=>hk k (by simp[refs,hk'])) hb2 hv2;rcases hy with rfl |⟨φ,rfl,h0,hc,hφ⟩
  .simp only[VR];exact⟨fs,cs,rfl,h1,h2⟩
  .simp only[VR];exact ra.Hv h0 hc (h.vars.mono (λ _ _=>rfl) (λ _ h=> .inl h)) h1 h2 hφ
 | .du φ,y,v,_,hb,hv=>by
  simp only[fh]at hb;subst hb;simp only[VR]at hv ⊢;exact ra.mono (λ _ _=>rfl) (λ _ h=> .inl h) hv
 | .cM,y,v,_,hb,hv=>by
  simp only[fh]at hb;rcases hb with rfl |rfl
  .simp only[VR]at hv ⊢;simp only[TR];exact .inl ⟨trivial,none,0,hv,λ_=>rfl⟩
  .simpa only[VR]using hv
 | .ub,_,_,_,hb,_=>by simp[fh]at hb
 | .undef,_,_,_,hb,_=>by simp[fh]at hb
theorem ev.sound(h:Mem P w0 O0 β I obj w)(ae:List Nat):∀(xs ys:List AV)(vs:List Value),(∀ k,k∈eX xs->k∈ae)->ev P obj xs ys->bj P β w I xs vs->bj P mA w (fm β obj ae I) ys vs
 |[],[],[],_,_,_=>by simp[bj]
 |x::xs,y::ys,v::vs,hk,hb,hv=>by
  simp only[ev]at hb;simp only[bj]at hv ⊢;exact⟨fh.sound h ae x y v (λ k hk'=>hk k (by simp[eX,hk'])) hb.1 hv.1,ev.sound h ae xs ys vs (λ k hk'=>hk k (by simp[eX,hk'])) hb.2 hv.2⟩
 |[],_::_,_,_,hb,_=>by simp[ev]at hb
 |_::_,[],_,_,hb,_=>by simp[ev]at hb
 |[],[],_::_,_,_,hv=>by simp[bj]at hv
 |_::_,_::_,[],_,_,hv=>by simp[bj]at hv
end
end
inductive AM where
 |slice (e:TypeId)
 |arr (n:Nat) (e:TypeId)
 |struct (fs:List (Nat×TypeId))
 |bool
 |str
 |int (k:IntKind)
 |map (k e:TypeId)
 |other
structure m4 where
 size:Nat
 bytes:Nat
 agg:Bool
 zero:List Value
 k:AM
 cmp:List Nat
abbrev dC:=Nat->J m4
def So:AM->TypeDesc->Prop
 | .slice e,d=>d= .slice e
 | .arr n e,d=>d= .array n e
 | .struct fs,d=>∃fa:Array Field,d= .struct fa/\fa.toList.map (λ f=>(f.offset,f.type))=fs
 | .bool,d=>d= .bool
 | .str,d=>d= .string
 | .int k,d=>d= .int k
 | .map k e,d=>d= .map k e
 | .other,_=>True
def s8:TypeDesc->Bool
 | .struct _ | .array _ _=>true
 |_=>false
def jt:Value->Bool
 | .agg _ | .tuple _=>false
 |_=>true
theorem qz{v:Value}(h:jt v=true):oneCell v:=by cases v<;>first |exact trivial |(simp [jt]at h)
def WN(P:Program)(f:Field)(kd:Nat):Bool:=
 (f.name != "_") && match P.underlying f.type with
  |some (.int _)=>kd==0
  |some .bool=>kd==1
  |some .string=>kd==2
  |_=>false
def fR(P:Program):Nat->U Field->U Nat->Bool
 |_,[],[]=>true
 |n,f::fs,k::ks=>f.offset==n&&WN P f k&&fR P (n+1) fs ks
 |_,_,_=>false
def tg(agg:Bool):Value->Bool
 | .agg _=>agg
 | .tuple _=>false
 |_=>!agg
structure ky(P:Program)(t:TypeId)(ti:m4):Prop where
 ex:∃info d z,P.info? t=some info/\P.underlying t=some d/\info.size=ti.size/\info.bytes=ti.bytes/\info.zero=some z/\z.cells.toList=ti.zero/\s8 d=ti.agg/\So ti.k d
 one:ti.zero.all jt=true
 len:ti.zero.length=ti.size
 form:∀info z,P.info? t=some info->info.zero=some z->tg ti.agg z=true
 cmp:ti.cmp≠[]->(∃ fa:Array Field,P.underlying t=some (.struct fa)/\P.stoodInHeld t=false/\P.eqGuardType P.depth t=false/\fR P 0 fa.toList ti.cmp=true)\/(ti.cmp=[9]/\P.eqGuardType P.depth t=false)
def eZ(P:Program)(T:dC):Prop:=∀t ti,T t=some ti->ky P t ti
def kE:U Prop->Prop
 |[]=>True
 |[p]=>p
 |p::q::r=>p/\kE (q::r)
structure Out where
 v:AV
 upd:List (Nat×Option aS)
 obs:List Prop
@[reducible] def Out.ob (o:Out):Prop:=kE o.obs
def cx(i:Nat):Nat:=1000000+64*i
inductive LH where
 |rows (tr:List (List Tree))
 |row (tr:List Tree)
 |fn
 |du (φ:List TV->TV->Prop)
 |mut (j:Nat)
 |nil
 |emp
 |fnw
 |agw
 |agd
inductive OB where
 |dat (p:Nat×List (List Tree))
 |DD (hs:List (List LH))
inductive iu where
 |none
 |row (r:List AV)
 |set (r:List AV) (rs:List (List AV))
 |sB (r:List Tree)
 |num (n:Int)
 |rows (rs:List (List AV))
 |A0 (rows:List (List Tree))
 |call (hs:List LH) (r:RV) (keep:Bool)
 |DE (hs:List LH) (args:List TV) (r:TV) (keep:Bool)
 |ext (n:Int)
 |xF (ae:List Nat) (fr:Operand->AV) (cm:iu)
 |tD (ae:List Nat) (os:List (Nat×List (List Tree))) (os':List (Option (Nat×List (List Tree)))) (hs:List LH) (r:RV) (keep:Bool)
 |tE (ae cL:List Nat) (bs:List OB) (hs:List LH) (os':List (Nat×aS)) (rv:AV) (keep:Bool)
def pv(v:AV):J Out:=some ⟨v,[],[]⟩
def kx(v:AV)(ob:Prop):J Out:=some ⟨v,[],[ob]⟩
def cv:Value->AV
 | .slice none 0 0=> .cM
 |v=>if jt v then .t (.sc v)else .undef
def lh(env:Nat->AV):Operand->AV
 | .tmp t=>env t
 | .const v=>cv v
 | .global g=>match xy g with
  |some row=> .ej (row.map Tree.sc) 0
  |none=> .undef
 | .func f=> .fn f [] []
def qc:AV->Bool
 | .agg _ | .eC _ | .undef=>false
 |_=>true
def cellsOf:AV->J (List AV)
 | .agg cs=>if cs.all qc then some cs else none
 | .eC _ | .undef=>none
 |x=>some [x]
def part'(agg:Bool)(size:Nat)(cs:U AV):J AV:=
 if cs.length=size then(if agg then some (.agg cs)else match cs with |[x]=>if qc x then some x else none |_=>none)else none
def put'(r:U AV)(aa:Nat)(cs:U AV):U AV:=r.take aa++cs++r.drop (aa+cs.length)
def WO(op:BinOp)(k:IntKind)(a b:Int):J (Value×List Prop):=
 match op with
 | .add=>some (.int k (k.wrap (a+b)),[])
 | .sub=>some (.int k (k.wrap (a -b)),[])
 | .mul=>some (.int k (k.wrap (a*b)),[])
 | .quo=>some (.int k (k.wrap (a.tdiv b)),[b≠0])
 | .rem=>some (.int k (a.tmod b),[b≠0])
 | .and=>some (.int k (bits .and k a b),[])
 | .or=>some (.int k (bits .or k a b),[])
 | .xor=>some (.int k (bits .xor k a b),[])
 | .andNot=>some (.int k (bits .andNot k a b),[])
 | .shl=>some (.int k (k.wrap (a*2 ^ b.toNat)),[0<=b/\b<=k.bits])
 | .shr=>some (.int k (a/2 ^ b.toNat),[0<=b/\b<=k.bits])
 | .eql=>some (.bool (a==b),[])
 | .neq=>some (.bool (a !=b),[])
 | .lss=>some (.bool (decide (a<b)),[])
 | .leq=>some (.bool (decide (a<=b)),[])
 | .gtr=>some (.bool (decide (a>b)),[])
 | .geq=>some (.bool (decide (a>=b)),[])
def MF:Nat->AV->AV->J Bool
 | 0,.t (.sc (.int j a)),.t (.sc (.int k b))=>if j=k then some (a==b)else none
 | 1,.t (.sc (.bool a)),.t (.sc (.bool b))=>some (a==b)
 | 2,.t (.sc (.string a)),.t (.sc (.string b))=>some (a.toList==b.toList)
 |_,_,_=>none
def uI:U Nat->U AV->U AV->J Bool
 |[],[],[]=>some true
 |k::ks,x::xs,y::ys=>(MF k x y).bind λa=>(uI ks xs ys).bind λb=>some (a&&b)
 |_,_,_=>none
theorem amm:∀xs ys:U AV,uI [9] xs ys=none:=by intro xs ys;cases xs<;>cases ys<;>simp[uI,MF]
def wn(T:dC)(op:BinOp)(t:TypeId)(x y:AV):J Out:=
 match x,y with
 | .t (.sc (.int k a)),.t (.sc (.int yk b))=>if k=yk\/op= .shl\/op= .shr then(WO op k a b).bind λ(v,obs)=>some ⟨.t (.sc v),[],obs⟩else none
 | .t (.sc (.string a)),.t (.sc (.string b))=>match op with
  | .eql=>pv (.t (.sc (.bool (a.toList==b.toList))))
  | .neq=>pv (.t (.sc (.bool (!(a.toList==b.toList)))))
  | .lss=>pv (.t (.sc (.bool (Op.bytesLess a.toList b.toList))))
  | .gtr=>pv (.t (.sc (.bool (!(Op.bytesLess a.toList b.toList || a.toList==b.toList)))))
  | .add=>kx (.t (.sc (.string (a++b)))) (a.size+b.size<=maxLen)
  |_=>none
 | .t (.sc (.bool a)),.t (.sc (.bool b))=>(T t).bind λti=>match ti.k,op with
  | .bool,.eql=>pv (.t (.sc (.bool (a==b))))
  | .bool,.neq=>pv (.t (.sc (.bool (!(a==b)))))
  |_,_=>none
 | .agg xs,.agg ys=>(T t).bind λti=>if ti.cmp=[]then none else(uI ti.cmp xs ys).bind λb=>match op with
  | .eql=>pv (.t (.sc (.bool b)))
  | .neq=>pv (.t (.sc (.bool (!b))))
  |_=>none
 |_,_=>none
def QP(op:UnOp)(x:AV):J Out:=
 match op,x with
 | .not,.t (.sc (.bool b))=>pv (.t (.sc (.bool (!b))))
 | .neg,.t (.sc (.int k n))=>pv (.t (.sc (.int k (k.wrap (0 -n)))))
 |_,_=>none
def EQ(mx:Bool)(k:IntKind):Int->U AV->J Int
 |a,[]=>some a
 |a,.t (.sc (.int k' b))::r=>if k'=k then EQ mx k (if mx then max a b else min a b) r else none
 |_,_=>none
def Hc(mx:Bool)(args:U AV):J Out:=
 match args with
 | .t (.sc (.int k a))::r=>(EQ mx k a r).bind λn=>pv (.t (.sc (.int k n)))
 |_=>none
def Dv(T:dC)(t:TypeId)(x:AV)(cm:iu)(get:Nat->J aS):J Out:=
 (T t).bind λti=>match x with
 | .ptr k row aa=>(get k).bind λo=>match cm with
  | .row r=>(part' ti.agg ti.size ((r.drop aa).take ti.size)).bind λv=>kx v (o.rows[row]? =some r)
  |_=>(o.rows[row]?).bind λr=>(part' ti.agg ti.size ((r.drop aa).take ti.size)).bind pv
 | .ej r aa=>(part' ti.agg ti.size (((r.drop aa).take ti.size).map AV.t)).bind pv
 |_=>none
def WQ(T:dC)(t:TypeId)(x y:AV)(cm:iu)(get:Nat->J aS):J Out:=
 (T t).bind λti=>(cellsOf y).bind λcs=>if cs.length=ti.size then match x with
 | .ptr k row aa=>(get k).bind λo=>match cm with
  | .set r rs=>if aa+cs.length<=r.length then some ⟨.undef,[(k,some ⟨o.sz,rs⟩)],[o.rows[row]? =some r/\rs=eu (o.rows.set row (put' r aa cs))]⟩else none
  |_=>(o.rows[row]?).bind λr=>if aa+cs.length<=r.length then some ⟨.undef,[(k,some ⟨o.sz,o.rows.set row (put' r aa cs)⟩)],[]⟩else none
 |_=>none else none
def Bb(T:dC)(t:TypeId)(f:Nat):J (Nat×m4):=
 (T t).bind λti=>match ti.k with
 | .struct fs=>(fs[f]?).bind λ(aa,u)=>(T u).bind λui=>if ui.size=0 then none else some (aa,ui)
 |_=>none
def zk(T:dC)(t:TypeId)(x:AV)(f:Nat):J Out:=
 (Bb T t f).bind λ(d,_)=>match x with
 | .ptr k row aa=>pv (.ptr k row (aa+d))
 | .ej r aa=>pv (.ej r (aa+d))
 |_=>none
def WR(T:dC)(t:TypeId)(x:AV)(f:Nat):J Out:=
 (Bb T t f).bind λ(d,ui)=>match x with
 | .agg cs=>(part' ui.agg ui.size ((cs.drop d).take ui.size)).bind pv
 |_=>none
def mK(T:dC)(t:TypeId)(x i:AV)(cm:iu)(get:Nat->J aS):J Out:=
 (T t).bind λti=>match ti.k,i with
 | .slice e,.t (.sc (.int _ n))=>(T e).bind λei=>match x,cm with
  | .t (.sl rows),.sB r=>if r.length=ei.size then kx (.ej r 0) (0<=n/\rows[n.toNat]? =some r)else none
  | .own k aa len,_=>(get k).bind λo=>if o.sz=ei.size then kx (.ptr k (aa+n.toNat) 0) (0<=n/\n.toNat<len)else none
  |_,_=>none
 | .arr m e,.t (.sc (.int _ n))=>(T e).bind λei=>match x with
  | .ptr k row aa=>kx (.ptr k row (aa+n.toNat*ei.size)) (0<=n/\n.toNat<m)
  | .ej r aa=>kx (.ej r (aa+n.toNat*ei.size)) (0<=n/\n.toNat<m)
  |_=>none
 |_,_=>none
def IL(x:AV)(j:Nat):J Out:=
 match x with
 | .eC vs=>(vs[j]?).bind pv
 |_=>none
def AI(T:dC)(t:TypeId)(x:AV)(cm:iu):J Out:=
 (T t).bind λti=>match ti.k,x,cm with
 | .slice _,.t (.sl rows),.num n=>kx (.t (.sc (.int .i64 n))) (n=(rows.length:Int))
 | .slice _,.own _ _ len,.num n=>kx (.t (.sc (.int .i64 n))) (n=(len:Int))
 | .slice _,.own _ _ len,_=>pv (.t (.sc (.int .i64 (len:Int))))
 | .slice _,.oz _ len,_=>pv (.t (.sc (.int .i64 (len:Int))))
 | .slice _,.cM,_=>pv (.t (.sc (.int .i64 0)))
 | .str,.t (.sc (.string s)),_=>pv (.t (.sc (.int .i64 (s.size:Int))))
 |_,_,_=>none
def Gm(place:Nat->J (Nat×Nat)):U AV->U (Nat×AV)->J (List AV)
 |cells,[]=>some cells
 |cells,(j,x)::ag=>(place j).bind λ(aa,size)=>(cellsOf x).bind λcs=>
  if cs.length=size/\aa+cs.length<=cells.length then Gm place (put' cells aa cs) ag else none
def WS(T:dC)(t:TypeId)(parts:U (Nat×AV)):J Out:=
 (T t).bind λti=>match ti.k with
 | .struct fs=>if fs.all (λ p=>(T p.2).isSome)then
  (Gm (λ j=>(fs[j]?).bind λp=>(T p.2).bind λui=>some (p.1,ui.size)) (ti.zero.map cv) parts).bind λcells=>pv (.agg cells)else none
 | .arr _ e=>(T e).bind λei=>(Gm (λ j=>some (j*ei.size,ei.size)) (ti.zero.map cv) parts).bind λcells=>pv (.agg cells)
 |_=>none
def NU(size:Nat):U (List AV)->U (Nat×AV)->J (List (List AV))
 |rows,[]=>some rows
 |rows,(j,x)::ag=>(cellsOf x).bind λcs=>if cs.length=size/\j<rows.length then NU size (rows.set j cs) ag else none
def wY(T:dC)(i:Nat)(t:TypeId)(len:Nat)(parts:U (Nat×AV))(kp:Bool:=false):J Out:=
 (T t).bind λti=>match ti.k with
 | .slice e=>(T e).bind λei=>if ei.size=0\/len*ei.size>2 ^ 24 then none else
  (NU ei.size (List.replicate len (ei.zero.map cv)) parts).bind λrows=>some ⟨.own (cx i) 0 len,[(cx i,some ⟨ei.size,if kp then rows else eu rows⟩)],[]⟩
 |_=>none
def WT(T:dC)(i:Nat)(e:TypeId):J Out:=
 (T e).bind λti=>some ⟨.ptr (cx i) 0 0,[(cx i,some ⟨ti.size,[ti.zero.map cv]⟩)],[]⟩
def Ln(i:Nat)(x:AV):J Out:=
 (cellsOf x).bind λcs=>some ⟨.ptr (cx i) 0 0,[(cx i,some ⟨cs.length,[cs]⟩)],[]⟩
def bnd(d:Int):J AV->J Int
 |none=>some d
 |some (.t (.sc (.int _ n)))=>some n
 |_=>none
def WU(T:dC)(t:TypeId)(x:AV)(lo hi:J AV)(cm:iu)(get:Nat->J aS):J Out:=
 (T t).bind λti=>match ti.k with
 | .slice e=>(T e).bind λei=>match x with
  | .own k aa len=>(get k).bind λo=>if o.sz=ei.size then(bnd 0 lo).bind λl=>(bnd len hi).bind λh=>
   kx (.own k (aa+l.toNat) (h.toNat -l.toNat)) (0<=l/\l<=h/\h<=(len:Int))else none
  | .t (.sl rows)=>match cm with
   | .A0 rs=>(bnd 0 lo).bind λl=>(bnd rows.length hi).bind λh=>
    kx (.t (.sl rs)) (0<=l/\l<=h/\h<=(rows.length:Int)/\rs=(rows.drop l.toNat).take (h.toNat -l.toNat)/\(∀ r∈rows,r.length=ei.size))
   |_=>none
  |_=>none
 |_=>none
def WV(size:Nat)(y:AV)(get:Nat->J aS):J (Nat×Prop×List (List AV)):=
 match y with
 | .own k aa len=>(get k).bind λo=>if o.sz=size then some (len,True,(o.rows.drop aa).take len)else none
 | .t (.sl rows)=>some (rows.length,∀r∈rows,r.length=size,aL rows)
 |_=>none
def Bc(T:dC)(i:Nat)(t:TypeId)(x y:AV)(cm:iu)(get:Nat->J aS):J Out:=
 (T t).bind λti=>match ti.k with
 | .slice e=>(T e).bind λei=>match cm with
  | .rows rs=>(WV ei.size y get).bind λ(n,ob,ao)=>match x with
   | .own k aa len=>(get k).bind λo=>if o.sz=ei.size then
    some ⟨.own (cx i) 0 rs.length,[(cx i,some ⟨ei.size,rs⟩),(k,none)],[ob/\(o.rows.drop aa).length=len/\ao.length=n/\rs=o.rows.drop aa++ao/\(len+n)*ei.bytes<=140737488355328/\len+n<=maxLen]⟩else none
   | .cM=>some ⟨.own (cx i) 0 rs.length,[(cx i,some ⟨ei.size,rs⟩)],[ob/\ao.length=n/\rs=ao/\n*ei.bytes<=140737488355328/\n<=maxLen]⟩
   |_=>none
  |_=>none
 |_=>none
def Dw(T:dC)(i:Nat)(b:Builtin)(args:U AV)(cX:U TypeId)(cm:iu)(get:Nat->J aS):J Out:=
 match b,args,cX with
 | .len,[x],[t]=>AI T t x cm
 | .max,args,_=>Hc true args
 | .min,args,_=>Hc false args
 | .append,[x,y],[t,u]=>if t=u then Bc T i t x y cm get else none
 |_,_,_=>none
def L0(t:Bool)(x y:AV):AV:=
 match x,y with
 | .t (.sc (.bool p)),.t (.sc (.bool q))=> .t (.sc (.bool (bif t then p else q)))
 | .t (.sc (.int k p)),.t (.sc (.int k' q))=>if k=k' then .t (.sc (.int k (bif t then p else q)))else bif t then x else y
 |_,_=>bif t then x else y
theorem WW(t:Bool)(x y:AV):L0 t x y=if t=true then x else y:=by
 unfold L0;split
 .cases t<;>rfl
 .split
  .rename_i h;subst h;cases t<;>rfl
  .cases t<;>rfl
 .cases t<;>rfl
def qZ(T:dC)(i:Nat)(o:Oper)(cm:iu)(ρ:Operand->AV)(get:Nat->J aS):J Out:=
 match o.op with
 | .move x=>pv (ρ x)
 | .assign x=>pv (ρ x)
 | .pick c a b=>match ρ c with | .t (.sc (.bool t))=>pv (L0 t (ρ a) (ρ b)) |_=>none
 | .alloc e=>WT T i e
 | .box _ x=>Ln i (ρ x)
 | .build t parts=>WS T t (parts.toList.map λ(j,x)=>(j,ρ x))
 | .buildSlice t len parts=>wY T i t len (parts.toList.map λ(j,x)=>(j,ρ x)) (match cm with | .row _=>true |_=>false)
 | .load t a=>Dv T t (ρ a) cm get
 | .store t a x=>WQ T t (ρ a) (ρ x) cm get
 | .binOp op t x y _=>wn T op t (ρ x) (ρ y)
 | .unOp op _ x=>QP op (ρ x)
 | .makeFunc (.func f) first caps=>pv (.fn f (first.toList.map ρ) (caps.toList.map ρ))
 | .slice t x lo hi none=>WU T t (ρ x) (lo.map ρ) (hi.map ρ) cm get
 | .fieldAddr t x f=>zk T t (ρ x) f
 | .field t x f=>WR T t (ρ x) f
 | .indexAddr t x j=>mK T t (ρ x) (ρ j) cm get
 | .extract x j=>IL (ρ x) j
 | .call { callee:= .builtin b,args:=args,argTypes:=cX }=>Dw T i b (args.toList.map ρ) cX.toList cm get
 |_=>none
def q7(P:Program)(w0:World)(O0:i9)(β:Nat->J cE)(I:Nat->Prop)(obj:Nat->J aS)(w:World)(i:Nat)(ab:Out)(r:Result Next):Prop:=
 ∃v' w' β' I',(r= .ok (.value v') w'\/(r= .ok .skip w'/\v'=undef))/\Step β I w (cx i) β' I' w'/\Mem P w0 O0 β' I' (bU obj ab.upd) w'/\VR P β' w' I' ab.v v'
section
variable {P:Program} {T:dC} {w0:World} {O0:i9} {β:Nat->Option cE} {I:Nat->Prop} {obj:Nat->Option aS} {w:World} {i:Nat}
theorem q7.pure(h:Mem P w0 O0 β I obj w){x:AV}{ob:U Prop}{v:Value}(hv:VR P β w I x v):q7 P w0 O0 β I obj w i ⟨x,[],ob⟩ (.ok (.value v) w):=
 ⟨v,w,β,I,.inl rfl,Step.refl ..,h,hv⟩
theorem bj.length:∀(xs:U AV)(vs:U Value),bj P β w I xs vs->vs.length=xs.length
 |[],[],_=>rfl
 |x::xs,v::vs,h=>by simp only[bj]at h;simp[bj.length xs vs h.2]
 |[],_::_,h=>by simp[bj]at h
 |_::_,[],h=>by simp[bj]at h
theorem bj.get:∀(xs:U AV)(vs:U Value)(j:Nat)(x:AV),bj P β w I xs vs->xs[j]? =some x->∃v,vs[j]? =some v/\VR P β w I x v
 |x::xs,v::vs,0,x',h,hj=>by grind [bj]
 |x::xs,v::vs,j+1,x',h,hj=>by simp only[bj]at h;simpa using bj.get xs vs j x' h.2 (by simpa using hj)
 |[],_,_,_,_,hj=>by simp at hj
 |_::_,[],_,_,h,_=>by simp[bj]at h
theorem bj.take:∀(n:Nat)(xs:U AV)(vs:U Value),bj P β w I xs vs->bj P β w I (xs.take n) (vs.take n)
 | 0,_,_,_=>by simp[bj]
 |n+1,[],[],_=>by simp[bj]
 |n+1,x::xs,v::vs,h=>by simp only[bj]at h;simp only[List.take_succ_cons,bj];exact⟨h.1,bj.take n xs vs h.2⟩
 |_+1,[],_::_,h=>by simp[bj]at h
 |_+1,_::_,[],h=>by simp[bj]at h
theorem bj.drop:∀(n:Nat)(xs:U AV)(vs:U Value),bj P β w I xs vs->bj P β w I (xs.drop n) (vs.drop n)
 | 0,_,_,h=>by simpa using h
 |n+1,[],[],_=>by simp[bj]
 |n+1,x::xs,v::vs,h=>by simp only[bj]at h;simpa using bj.drop n xs vs h.2
 |_+1,[],_::_,h=>by simp[bj]at h
 |_+1,_::_,[],h=>by simp[bj]at h
theorem bj.append:∀(xs ys:U AV)(us vs:U Value),bj P β w I xs us->bj P β w I ys vs->bj P β w I (xs++ys) (us++vs)
 |[],ys,[],vs,_,h=>by simpa using h
 |x::xs,ys,u::us,vs,h1,h2=>by simp only[bj]at h1;simp only[cons_append,bj];exact⟨h1.1,bj.append xs ys us vs h1.2 h2⟩
 |[],_,_::_,_,h,_=>by simp[bj]at h
 |_::_,_,[],_,h,_=>by simp[bj]at h
theorem VR.one{x:AV}{v:Value}(hx:qc x=true)(h:VR P β w I x v):oneCell v:=by
 cases x<;>simp only[VR]at h
 case t x=>
  cases x with
  |sc u=>simp only[TR]at h;rw[h.1];exact h.2
  |sl rows=>simp only[TR]at h;rcases h with ⟨_,_,_,rfl,_⟩ |⟨b,aa,cap,sz,rfl,_⟩<;>exact trivial
 case agg=>simp[qc]at hx
 case eC=>simp[qc]at hx
 case own k aa len=>rcases h with ⟨_,rfl,_⟩ |⟨b,sz,n,cap,a,_,rfl,_⟩<;>exact trivial
 case ptr=>obtain⟨b,sz,n,_,rfl⟩:=h;exact trivial
 case ej=>obtain⟨b,o,rfl,_⟩:=h;exact trivial
 case fn=>obtain⟨fs,cs,rfl,_⟩:=h;exact trivial
 case du=>obtain⟨f,a,b,rfl,_⟩:=h;exact trivial
 case mp=>obtain⟨b,_,rfl⟩:=h;exact trivial
 case oz=>rcases h with ⟨_,rfl⟩ |⟨_,b,sz,n,cap,a,_,rfl,_⟩<;>exact trivial
 case cM=>subst h;exact trivial
 case ub=>obtain⟨b,rfl⟩:=h;exact trivial
 case undef=>simp[qc]at hx
theorem cells_one{v:Value}(h:oneCell v):v.cells=#[v]:=by cases v<;>first |rfl |exact h.elim
theorem rR{x:AV}{cs:U AV}{v:Value}(hc:cellsOf x=some cs)(h:VR P β w I x v):bj P β w I cs v.cells.toList/\(∀ u∈v.cells.toList,oneCell u):=by
 have single:qc x=true->cs=[x]->bj P β w I cs v.cells.toList/\(∀ u∈v.cells.toList,oneCell u):=λhk e=>by
  have h1:=VR.one hk h;rw[cells_one h1,e];simp only[bj];exact⟨⟨h,trivial⟩,λu hu=>by simp at hu;rw[hu];exact h1⟩
 cases x<;>simp only[cellsOf,ay,reduceCtorEq]at hc
 case agg cs'=>
  split at hc
  .injection hc with hc;subst hc;rename_i hall;simp only[VR]at h;obtain⟨vs,rfl,hvs⟩:=h;refine⟨hvs,λu hu=>?_⟩;obtain⟨j,hj⟩:=List.getElem?_of_mem hu;have hlen:=bj.length _ _ hvs;have hjl:j<cs'.length:=by
    have:=(dh.1 hj).1;simp only[Value.cells]at this;omega
   obtain⟨u',hu',hv'⟩:=bj.get _ _ j _ hvs (bX hjl);simp only[Value.cells]at hj;rw[hj]at hu';injection hu' with hu';subst hu';exact VR.one (all_eq_true.1 hall _ (List.getElem_mem hjl)) hv'
  .cases hc
 all_goals exact single rfl hc.symm
theorem VR.cv{v:Value}:VR P β w I (cv v) v:=by
 unfold Gb.cv;split
 .simp[VR]
 .split
  .rename_i h;simp only[VR,TR];exact⟨trivial,qz h⟩
  .simp[VR]
theorem bj.cv:∀(vs:U Value),bj P β w I (vs.map cv) vs
 |[]=>by simp[bj]
 |v::vs=>by simp only[aF,bj];exact⟨VR.cv,bj.cv vs⟩
theorem cQ.nr(cs:U AV)(vs:U Value)(c:Array Value)(aa:Nat)(h:bj P β w I cs vs)(h1:∀u∈vs,oneCell u)(hc:∀j u,vs[j]? =some u->c[aa+j]? =some u):cQ P β w I cs c aa:=by
 rw[jL];intro j x hx;obtain⟨v,hv,hr⟩:=bj.get _ _ j x h hx;exact⟨v,hc j v hv,hr,h1 v (cO hv)⟩
theorem cQ.list:∀(cs:U AV)(c:Array Value)(aa:Nat),cQ P β w I cs c aa->∃vs:U Value,bj P β w I cs vs/\(∀ u∈vs,oneCell u)/\∀j u,vs[j]? =some u->c[aa+j]? =some u
 |[],_,_,_=>⟨[],by simp[bj],by simp,by simp⟩
 |x::xs,c,aa,⟨⟨v,h1,h2,h3⟩,h4⟩=>by
  have⟨vs,g1,g2,g3⟩:=cQ.list xs c (aa+1) h4;refine⟨v::vs,by simp only[bj];exact⟨h2,g1⟩,λu hu=>?_,λj u hj=>?_⟩
  all_goals grind
theorem df.list:∀(cs:U Tree)(b aa:Nat),df w I cs b aa->∃vs:U Value,bj P β w I (cs.map AV.t) vs/\∀j u,vs[j]? =some u->w.cell? ⟨b,aa+j,none⟩=some u
 |[],_,_,_=>⟨[],by simp[bj],by simp⟩
 |x::xs,b,aa,h=>by
  simp only[df]at h;obtain⟨⟨v,h1,h2⟩,h4⟩:=h;have⟨vs,g1,g3⟩:=df.list xs b (aa+1) h4;refine⟨v::vs,by simp only[aF,bj,VR];exact⟨h2,g1⟩,λj u hj=>?_⟩
  grind
theorem MH{agg:Bool}{size:Nat}{cs:U AV}{v:AV}{vs:U Value}(hp:part' agg size cs=some v)(h:bj P β w I cs vs):cs.length=size/\vs.length=size/\
 (agg=true->VR P β w I v (.agg vs.toArray))/\(agg=false->∃u,vs=[u]/\VR P β w I v u):=by
 unfold part' at hp;split at hp
 .rename_i hl;have hl2:=bj.length _ _ h;refine⟨hl,by omega,?_,?_⟩
  .rintro rfl;simp only[if_true,ay]at hp;subst hp;simp only[VR];exact⟨vs.toArray,rfl,h⟩
  .rintro rfl;simp only[Bool.false_eq_true,if_false]at hp;split at hp
   .split at hp
    .cases hp
     match vs,h with
     |[u],h=>simp only[bj]at h;exact⟨u,rfl,h.1⟩
     |[],h=>simp[bj]at h
     |_::_::_,h=>simp[bj]at h
    .cases hp
   .cases hp
 .cases hp
section types
variable {t:TypeId} {ti:m4} (ht:ky P t ti)
include ht
theorem ky.size:(sizeOf t).run P w= .ok ti.size w:=by
 obtain⟨info,d,z,h1,h2,h3,h4,h5,h6,h7,h8⟩:=ht.ex;simp[sizeOf,typeInfo,h1,h3]
theorem ky.agg:(isAgg t).run P w= .ok ti.agg w:=by
 obtain⟨info,d,z,h1,h2,h3,h4,h5,h6,h7,h8⟩:=ht.ex;rw[<- h7];cases d<;>simp[isAgg,run_underlying h2,s8]
theorem ky.zeroV:∃z,(zeroValue t).run P w= .ok z w/\z.cells.toList=ti.zero:=by
 obtain⟨info,d,z,h1,h2,h3,h4,h5,h6,h7,h8⟩:=ht.ex;exact⟨z,by simp[zeroValue,typeInfo,h1,h5],h6⟩
end types
theorem addr_add(b o n:Nat):(⟨b,o,none⟩:Addr).add n=⟨b,o+n,none⟩:=by unfold Addr.add;split<;>simp_all
theorem zl{t:TypeId}{ti:m4}(ht:ky P t ti){b o:Nat}{cs:U AV}{v:AV}{vs:U Value}(hp:part' ti.agg ti.size cs=some v)(hr:bj P β w I cs vs)
 (hc:∀j u,vs[j]? =some u->w.cell? ⟨b,o+j,none⟩=some u):∃u,(loadVar t ⟨b,o,none⟩).run P w= .ok u w/\VR P β w I v u:=by
 have⟨h1,h2,h3,h4⟩:=MH hp hr;unfold loadVar;simp only[Sem.run_bind,ht.agg (w:=w),Result.andThen_ok];cases hag:ti.agg with
 |true=>
  refine⟨.agg vs.toArray,?_,h3 hag⟩;simp only[if_true,Sem.run_bind,ht.size (w:=w),Result.andThen_ok];rw[<- h2,run_loadCells_list w ⟨b,o,none⟩ vs (λ j u hj=>by rw[addr_add];exact hc j u hj)];simp
 |false=>
  obtain⟨u,rfl,hu⟩:=h4 hag;refine⟨u,?_,hu⟩;have:=hc 0 u rfl;simp only[Nat.add_zero]at this;simp[this]
theorem Tv(hT:eZ P T)(h:Mem P w0 O0 β I obj w){t:TypeId}{x:AV}{cm:iu}{get:Nat->J aS}{ab:Out}{v:Value}(hg:∀k o,get k=some o->obj k=some o)
 (ha:Dv T t x cm get=some ab) (cA:ab.ob) (hx:VR P β w I x v):∃u,(Instr.loadAt t v).run P w= .ok u w/\VR P β w I ab.v u/\ab.upd=[]:=by
 unfold Dv at ha;cases hti:T t with
 |none=>simp[hti]at ha
 |some ti=>
  have ht:=hT t ti hti;simp only[hti,af]at ha;cases x<;>simp only[reduceCtorEq]at ha
  case ptr k row aa=>
   cases hk:get k with
   |none=>simp[hk]at ha
   |some o=>
    simp only[hk,af]at ha;have key:∀r,o.rows[row]? =some r->∀u,part' ti.agg ti.size ((r.drop aa).take ti.size)=some u->∃z,(Instr.loadAt t v).run P w= .ok z w/\VR P β w I u z:=by
     intro r hr u hp;simp only[VR]at hx;obtain⟨b,sz,n,h1,rfl⟩:=hx;have⟨B,hB,hO⟩:=h.cD k o (hg k o hk);rw[h1]at hB;cases hB;obtain⟨hs,c,e,hc,_,hO⟩:=hO;have h4:=(bo.get row _ _ _ _ _ hO hr).2;obtain⟨vs,g1,g2,g3⟩:=cQ.list _ _ _ (cQ.take ti.size _ _ _ (cQ.drop aa _ _ _ h4));obtain⟨z,hz,hz2⟩:=zl ht (b:=b) (o:=n.s+row*sz+aa) hp g1 (λ j u hj=>by simp[World.cell?,hc,g3 j u hj]);exact⟨z,by simp[Instr.loadAt,Instr.sureAddr,hz],hz2⟩
    have fin:∀r ob,o.rows[row]? =some r->((part' ti.agg ti.size ((r.drop aa).take ti.size)).bind λv=>some (⟨v,[],ob⟩:Out))=some ab->∃u,(Instr.loadAt t v).run P w= .ok u w/\VR P β w I ab.v u/\ab.upd=[]:=by
     intro r ob hr hh;cases hp:part' ti.agg ti.size ((r.drop aa).take ti.size)with
     |none=>simp[hp]at hh
     |some u=>
      simp only[hp,af,ay]at hh;subst hh;have⟨z,hz⟩:=key r hr u hp;exact⟨z,hz.1,hz.2,rfl⟩
    cases cm
    case row r=>
     have hr:o.rows[row]? =some r:=by
      cases hp:part' ti.agg ti.size ((r.drop aa).take ti.size)with
      |none=>simp[hp]at ha
      |some u=>simp only[hp,af,kx,ay]at ha;subst ha;exact cA
     exact fin r _ hr ha
    all_goals
     cases hr:o.rows[row]? with
     |none=>simp[hr]at ha
     |some r=>
      simp only[hr,af]at ha;exact fin r _ hr ha
  case ej r aa=>
   cases hp:part' ti.agg ti.size (((r.drop aa).take ti.size).map AV.t)with
   |none=>rw[hp]at ha;simp at ha
   |some u=>
    simp only[hp,af,pv,ay]at ha;subst ha;simp only[VR]at hx;obtain⟨b,o,rfl,hI,hr⟩:=hx;have hdrop:∀(n:Nat) (r:U Tree) (o:Nat),df w I r b o->df w I (r.drop n) b (o+n):=by
     intro n
     induction n with
     |zero=>intro r o h;simpa using h
     |succ n ih=>intro r o h;cases r with
      |nil=>simp[df]
      |cons x xs=>simp only[df]at h;rw[List.drop_succ_cons,show o+(n+1)=o+1+n by omega];exact ih xs (o+1) h.2
    have htake:∀(n:Nat) (r:U Tree) (o:Nat),df w I r b o->df w I (r.take n) b o:=by
     intro n
     induction n with
     |zero=>intro r o h;simp[df]
     |succ n ih=>intro r o h;cases r with
      |nil=>simp[df]
      |cons x xs=>simp only[df]at h;simp only[List.take_succ_cons,df];exact⟨h.1,ih xs (o+1) h.2⟩
    obtain⟨vs,g1,g3⟩:=df.list (P:=P) (β:=β) _ _ _ (htake ti.size _ _ (hdrop aa r o hr));have⟨z,hz,hz2⟩:=zl ht (b:=b) (o:=o+aa) hp g1 g3;exact⟨z,by simp[Instr.loadAt,Instr.sureAddr,hz],hz2,rfl⟩
theorem aeQ(r:U AV)(aa:Nat)(cs:U AV)(h:aa+cs.length<=r.length):(put' r aa cs).length=r.length:=by simp[put',length_take,length_drop];omega
theorem amo(r:U AV)(aa:Nat)(cs:U AV)(h:aa+cs.length<=r.length)(j:Nat):(put' r aa cs)[j]? =if j<aa then r[j]? else if j<aa+cs.length then cs[j -aa]? else r[j]? :=by
 unfold put'
 all_goals grind
theorem QL(h:Mem P w0 O0 β I obj w){t:TypeId}{ti:m4}(ht:ky P t ti){k:Nat}{o:aS}{b sz:Nat}{n:Ex}(hk:obj k=some o)(hβ:β k=some (.at b sz n))
 {row aa:Nat} {r:U AV} {cs:U AV} {v:Value} (hr:o.rows[row]? =some r) (hl:aa+cs.length<=r.length) (hlen:cs.length=ti.size) (hcs:bj P β w I cs v.cells.toList) (h1:∀u∈v.cells.toList,oneCell u):
 ∃w',(storeVar t ⟨b,n.s+row*sz+aa,none⟩ v).run P w= .ok () w'/\Same I w w'/\Mem P w0 O0 β I (bU obj [(k,some ⟨o.sz,o.rows.set row (put' r aa cs)⟩)]) w':=by
 have⟨B,hB,hO⟩:=h.cD k o hk;rw[hβ]at hB;cases hB;obtain⟨hs,c,e,hc,hn,hO⟩:=hO;have hO':=hO;rw[nI]at hO;have hrow:=hO row r hr;have hvl:=bj.length _ _ hcs;have hfit:n.s+row*sz+aa+cs.length<=c.size:=by
  by_cases h0:r.length=0
  .have:aa+cs.length=0:=(by omega);have hz:sz=0:=(by omega);have:row*sz=0:=(by rw[hz];simp);have:=n.h;omega
  .have hlast:=(jL _ _ _).1 hrow.2 (r.length -1) _ (bX (by omega));obtain⟨u,hu,_⟩:=hlast;have:=(Array.getElem?_eq_some_iff.1 hu).1;omega
 have hst:=run_storeCells_at P b (n.s+row*sz+aa) e v.cells.toList 0 c w hc (by omega) (λ u hu=>by
  have:=h1 u hu;cases u<;>first |rfl |exact this.elim)
 simp only[Nat.add_zero]at hst;generalize hc':(List.take (n.s+row*sz+aa) c.toList++v.cells.toList++List.drop (n.s+row*sz+aa+v.cells.toList.length) c.toList).toArray=c' at hst;have hsize:c'.size=c.size:=by rw[<- hc'];simp[length_take,length_drop];simp at hvl;omega
 refine⟨w.setRow b c',?_,?_⟩
 .unfold storeVar;simp only[Sem.run_bind,ht.size (w:=w),Result.andThen_ok];rw[aW (by rw[<- Array.length_toList];omega)];simp only[hst]
 .have hget:∀j,c'[j]? =if j<n.s+row*sz+aa then c[j]? else if j<n.s+row*sz+aa+cs.length then v.cells.toList[j -(n.s+row*sz+aa)]? else c[j]? :=by
   intro j;rw[<- hc'];have h1:(c.toList.take (n.s+row*sz+aa)).length=n.s+row*sz+aa:=(by simp[length_take];omega);simp only[List.getElem?_toArray];split
   .rw[aM,List.getElem?_append_left (by omega),List.getElem?_take,aT (by omega)];simp
   .split
    .rw[aM,lM (by omega),h1,List.getElem?_append_left (by omega)]
    .rw[lM (by simp only[dM,h1];omega)];simp only[dM,h1,List.getElem?_drop,Array.getElem?_toList];congr 1;omega
  refine Mem.write h hk hβ (c':=c') (e:=e) (setRow_heap w b c c' e (0,0) hc) (λ b' hb=>setRow_other w b b' c' hb) (by simp) rfl rfl rfl hs (by omega) ?_;rw[<- hs,nI];simp only;intro i' r' hi';rw[List.getElem?_set]at hi';have other:∀(i':Nat)(r':U AV),i'≠row->o.rows[i']? =some r'->r'.length=sz/\cQ P β w I r' c' (n.s+i'*sz):=by
   intro i' r' hne hi';have hh:=hO i' r' hi';refine⟨hh.1,?_⟩;rw[jL];intro j x hx;obtain⟨u,hu⟩:=(jL _ _ _).1 hh.2 j x hx;have hj:j<sz:=(by have:=(dh.1 hx).1;omega);refine⟨u,?_,hu.2⟩;rw[hget];rcases Nat.lt_or_gt_of_ne hne with hlt |hgt
   .have:(i'+1)*sz<=row*sz:=Nat.mul_le_mul_right _ hlt;rw[Nat.add_mul]at this;rw[aT (by omega)];exact hu.1
   .have:(row+1)*sz<=i'*sz:=Nat.mul_le_mul_right _ hgt;rw[Nat.add_mul]at this;rw[aW (by omega),aW (by omega)];exact hu.1
  split at hi'
  .rename_i hrow';subst hrow';split at hi'
   .injection hi' with hi';subst hi';refine⟨by rw[aeQ r aa cs hl];exact hrow.1,?_⟩;rw[jL];intro j x hx;rw[amo r aa cs hl]at hx;rw[hget];split at hx
    .rw[aT (by omega)];exact(jL _ _ _).1 hrow.2 j x hx
    .split at hx
     .obtain⟨u,hu,hr2⟩:=bj.get _ _ _ _ hcs hx;rw[aW (by omega),aT (by omega)];refine⟨u,?_,hr2,h1 u (cO hu)⟩;rw[<- hu];congr 1;omega
     .rw[aW (by omega),aW (by omega)];exact(jL _ _ _).1 hrow.2 j x hx
   .cases hi'
  .exact other i' r' (by omega) hi'
theorem ac3(hT:eZ P T)(h:Mem P w0 O0 β I obj w){t:TypeId}{x y:AV}{cm:iu}{get:Nat->J aS}{ab:Out}{v u:Value}(hg:∀k o,get k=some o->obj k=some o)
 (ha:WQ T t x y cm get=some ab) (cA:ab.ob) (hx:VR P β w I x v) (hy:VR P β w I y u):
 ∃w',(Instr.storeAt t v u).run P w= .ok () w'/\Same I w w'/\Mem P w0 O0 β I (bU obj ab.upd) w'/\ab.v= .undef:=by
 unfold WQ at ha;cases hti:T t with
 |none=>simp[hti]at ha
 |some ti=>
  have ht:=hT t ti hti;simp only[hti,af]at ha;cases hcs:cellsOf y with
  |none=>simp[hcs]at ha
  |some cs=>
   simp only[hcs,af]at ha;have⟨hv1,hv2⟩:=rR hcs hy;split at ha
   .rename_i hlen;cases x<;>simp only[reduceCtorEq]at ha
    case ptr k row aa=>
     cases hk:get k with
     |none=>simp[hk]at ha
     |some o=>
      simp only[hk,af]at ha;simp only[VR]at hx;obtain⟨b,sz,n,hβ,rfl⟩:=hx;have fin:∀r,o.rows[row]? =some r->aa+cs.length<=r.length->∃w',(Instr.storeAt t (.pointer (some ⟨b,n.s+row*sz+aa,none⟩)) u).run P w= .ok () w'/\Same I w w'/\Mem P w0 O0 β I (bU obj [(k,some ⟨o.sz,o.rows.set row (put' r aa cs)⟩)]) w':=by
       intro r hr hl;have⟨w',h1,h2,h3⟩:=QL h ht (hg k o hk) hβ hr hl hlen hv1 hv2;exact⟨w',by simp[Instr.storeAt,Instr.sureAddr,h1],h2,h3⟩
      cases cm
      case set r rs=>
       simp only at ha;split at ha
       .rename_i hl;cases ha;obtain⟨hr,hrs⟩:=cA;have⟨w',h1,h2,h3⟩:=fin r hr hl;subst hrs;exact⟨w',h1,h2,h3.xa,rfl⟩
       .cases ha
      all_goals
       cases hr:o.rows[row]? with
       |none=>simp[hr]at ha
       |some r=>
        simp only[hr,af]at ha;split at ha
        .rename_i hl;cases ha;have⟨w',h1,h2,h3⟩:=fin r hr hl;exact⟨w',h1,h2,h3,rfl⟩
        .cases ha
   .cases ha
end
section
variable {P:Program} {T:dC} {w0:World} {O0:i9} {β:Nat->Option cE} {I:Nat->Prop} {obj:Nat->Option aS} {w:World} {i:Nat}
theorem NV(h:Mem P w0 O0 β I obj w)(hn:β (cx i)=none){e:TypeId}{v:Value}{cs:U AV}(hcs:bj P β w I cs v.cells.toList)(h1:∀u∈v.cells.toList,oneCell u):
 ∃w' β',(newVar e v).run P w= .ok ⟨w.heap.size,0,none⟩ w'/\Step β I w (cx i) β' I w'/\Mem P w0 O0 β' I (bU obj [(cx i,some ⟨cs.length,[cs]⟩)]) w'/\VR P β' w' I (.ptr (cx i) 0 0) (.pointer (some ⟨w.heap.size,0,none⟩)):=by
 obtain⟨hS,hM⟩:=Mem.alloc (o:=⟨cs.length,[cs]⟩) (c:=v.cells) (e:=e) h hn (by
  simp only[bo,and_true,true_and];exact cQ.nr cs _ _ 0 hcs h1 (λ j u hj=>by simpa using hj))
 refine⟨_,_,?_,hS,hM,?_⟩
 .simp only[newVar,newRow,Sem.run_bind,run_newObj,Result.andThen_ok,Sem.run_pure];rfl
 .simp only[VR];exact⟨w.heap.size,cs.length,_,by simp[ins];rfl,by simp⟩
theorem ac4(hT:eZ P T)(h:Mem P w0 O0 β I obj w)(hn:β (cx i)=none){e:TypeId}{ab:Out}(ha:WT T i e=some ab):
 ∃u w' β',(Instr.alloc e true (.tuple #[])).run P w= .ok u w'/\Step β I w (cx i) β' I w'/\Mem P w0 O0 β' I (bU obj ab.upd) w'/\VR P β' w' I ab.v u:=by
 unfold WT at ha;cases hti:T e with
 |none=>simp[hti]at ha
 |some ti=>
  have ht:=hT e ti hti;simp only[hti,af,ay]at ha;subst ha;have⟨z,hz,hz2⟩:=ht.zeroV (w:=w);obtain⟨w',β',h1,h2,h3,h4⟩:=NV (i:=i) (e:=e) (v:=z) (cs:=ti.zero.map cv) h hn (by rw[hz2];exact bj.cv _) (λ u hu=>qz (all_eq_true.1 ht.one u (hz2 ▸ hu)));have hl:(ti.zero.map cv).length=ti.size:=by simp[ht.len]
  rw[hl]at h3;exact⟨_,w',β',by simp[Instr.alloc,hz,h1],h2,h3,h4⟩
theorem ahy(h:Mem P w0 O0 β I obj w)(hn:β (cx i)=none){e:TypeId}{x:AV}{v:Value}{ab:Out}(ha:Ln i x=some ab)(hx:VR P β w I x v):
 ∃u w' β',(Instr.box e v).run P w= .ok u w'/\Step β I w (cx i) β' I w'/\Mem P w0 O0 β' I (bU obj ab.upd) w'/\VR P β' w' I ab.v u:=by
 unfold Ln at ha;cases hcs:cellsOf x with
 |none=>simp[hcs]at ha
 |some cs=>
  simp only[hcs,af,ay]at ha;subst ha;have⟨hv1,hv2⟩:=rR hcs hx;have⟨w',β',h1,h2,h3,h4⟩:=NV (i:=i) (e:=e) h hn hv1 hv2;exact⟨_,w',β',by simp[Instr.box,h1],h2,h3,h4⟩
theorem aeR(hT:eZ P T){t:TypeId}{f aa:Nat}{ui:m4}(hf:Bb T t f=some (aa,ui)):
 ∃(fa:Array Field)(fd:Field),P.underlying t=some (.struct fa)/\fa[f]? =some fd/\fd.offset=aa/\ky P fd.type ui/\ui.size≠0:=by
 unfold Bb at hf;cases hti:T t with
 |none=>simp[hti]at hf
 |some ti=>
  have ht:=hT t ti hti;simp only[hti,af]at hf;cases hk:ti.k<;>simp only[hk,reduceCtorEq]at hf
  case struct fs=>
   cases hj:fs[f]? with
   |none=>simp[hj]at hf
   |some p=>
    obtain⟨o,u⟩:=p;simp only[hj,af]at hf;cases hu:T u with
    |none=>simp[hu]at hf
    |some ui'=>
     simp only[hu,af]at hf;split at hf
     .cases hf
     .rename_i hne;simp only[ay,Prod.mk.injEq]at hf;obtain⟨rfl,rfl⟩:=hf;obtain⟨info,d,z,h1,h2,h3,h4,h5,h6,h7,h8⟩:=ht.ex;rw[hk]at h8;obtain⟨fa,rfl,hfs⟩:=h8;rw[<- hfs]at hj;simp only[List.getElem?_map,Array.getElem?_toList,eH,Prod.mk.injEq]at hj;obtain⟨fd,g1,g2,g3⟩:=hj;exact⟨fa,fd,h2,g1,g2,g3 ▸ hT u _ hu,hne⟩
theorem QM(hT:eZ P T){t:TypeId}{x:AV}{f:Nat}{v:Value}{ab:Out}(ha:zk T t x f=some ab)(hx:VR P β w I x v):
 ∃u,(Instr.fieldAt t v f).run P w= .ok u w/\VR P β w I ab.v u/\ab.upd=[]:=by
 unfold zk at ha;cases hf:Bb T t f with
 |none=>simp[hf]at ha
 |some p=>
  obtain⟨d,ui⟩:=p;simp only[hf,af]at ha;have⟨fa,fd,h1,h2,h3,h4,h5⟩:=aeR hT hf;have hrun:∀b o,(Instr.fieldAt t (.pointer (some ⟨b,o,none⟩)) f).run P w= .ok (.pointer (some ⟨b,o+d,none⟩)) w:=λb o=>by simp[Instr.fieldAt,run_underlying h1,h2,Instr.sureAddr,fieldPlace,h4.size (w:=w),h5,h3,addr_add]
  cases x<;>simp only[reduceCtorEq]at ha
  case ptr k row aa=>
   simp only[pv,ay]at ha;subst ha;simp only[VR]at hx ⊢;obtain⟨b,sz,n,g1,rfl⟩:=hx;exact⟨_,hrun _ _,⟨b,sz,n,g1,by rw[Nat.add_assoc]⟩,trivial⟩
  grind [pv,VR]
theorem aeS{t:TypeId}{ti:m4}(ht:ky P t ti){cs:U AV}{vs:U Value}{d:Nat}{v:AV}(hp:part' ti.agg ti.size ((cs.drop d).take ti.size)=some v)(hr:bj P β w I cs vs):
 ∃u,(part t vs.toArray d).run P w= .ok u w/\VR P β w I v u:=by
 obtain⟨h1,h2,h3,h4⟩:=MH hp (bj.take ti.size _ _ (bj.drop d _ _ hr));unfold Go.part;simp only[Sem.run_bind,ht.agg (w:=w),Result.andThen_ok];cases hag:ti.agg with
 |true=>
  refine⟨.agg ((vs.drop d).take ti.size).toArray,?_,h3 hag⟩;simp only[if_true,Sem.run_bind,ht.size (w:=w),Result.andThen_ok,Sem.run_pure];congr 2;apply Array.ext';simp[List.extract_eq_take_drop]
 |false=>
  have⟨u,hu,hv⟩:=h4 hag;refine⟨u,?_,hv⟩;have:vs[d]? =some u:=by
   have h5:((vs.drop d).take ti.size)[0]? =some u:=(by rw[hu];rfl);rw[List.getElem?_take]at h5;split at h5
   .simpa using h5
   .cases h5
  simp[this]
theorem ac5(hT:eZ P T){t:TypeId}{x:AV}{f:Nat}{v:Value}{ab:Out}(ha:WR T t x f=some ab)(hx:VR P β w I x v):
 ∃u,(Instr.field t v f).run P w= .ok u w/\VR P β w I ab.v u/\ab.upd=[]:=by
 unfold WR at ha;cases hf:Bb T t f with
 |none=>simp[hf]at ha
 |some p=>
  obtain⟨d,ui⟩:=p;simp only[hf,af]at ha;have⟨fa,fd,h1,h2,h3,h4,h5⟩:=aeR hT hf;cases x<;>simp only[reduceCtorEq]at ha
  case agg cs=>
   cases hp:part' ui.agg ui.size ((cs.drop d).take ui.size)with
   |none=>simp[hp]at ha
   |some y=>
    simp only[hp,af,pv,ay]at ha;subst ha;simp only[VR]at hx;obtain⟨vs,rfl,hvs⟩:=hx;have⟨u,hu,hv⟩:=aeS h4 hp hvs;refine⟨u,?_,hv,rfl⟩;simp[Instr.field,run_underlying h1,h2,h3,asAgg];simpa using hu
theorem ci.get{b sz:Nat}:∀(n:Nat)(rows:U (List Tree))(aa:Nat)(r:U Tree),ci w I rows b aa sz->rows[n]? =some r->r.length=sz/\df w I r b (aa+n*sz)
 | 0,r::rs,aa,r',h,hn=>by simp only[ci]at h;simp at hn;subst hn;exact⟨h.1,by simpa using h.2.1⟩
 |n+1,r::rs,aa,r',h,hn=>by
  simp only[ci]at h;have:=ci.get n rs (aa+sz) r' h.2.2 (by simpa using hn);rw[show aa+(n+1)*sz=aa+sz+n*sz by rw[Nat.add_mul];omega];exact this
 |_,[],_,_,_,hn=>by simp at hn
theorem iB{t e:TypeId}{ti:m4}(ht:ky P t ti)(hk:ti.k= .slice e):P.underlying t=some (.slice e):=by
 obtain⟨info,d,z,h1,h2,h3,h4,h5,h6,h7,h8⟩:=ht.ex;rw[hk]at h8;rw[h2,h8]
theorem Dx{t e:TypeId}{n:Nat}{ti:m4}(ht:ky P t ti)(hk:ti.k= .arr n e):P.underlying t=some (.array n e):=by
 obtain⟨info,d,z,h1,h2,h3,h4,h5,h6,h7,h8⟩:=ht.ex;rw[hk]at h8;rw[h2,h8]
theorem QN(hT:eZ P T)(h:Mem P w0 O0 β I obj w){t:TypeId}{x j:AV}{cm:iu}{get:Nat->J aS}{v u:Value}{ab:Out}(hg:∀k o,get k=some o->obj k=some o)
 (ha:mK T t x j cm get=some ab) (cA:ab.ob) (hx:VR P β w I x v) (hj:VR P β w I j u):
 ∃z,(Instr.indexAt t v u).run P w= .ok z w/\VR P β w I ab.v z/\ab.upd=[]:=by
 unfold mK at ha;cases hti:T t with
 |none=>simp[hti]at ha
 |some ti=>
  have ht:=hT t ti hti;simp only[hti,af]at ha;split at ha
  .rename_i e kd n hk;simp only[VR,TR]at hj;obtain⟨rfl,_⟩:=hj;have ez:=iB ht hk;cases eL:T e with
   |none=>simp[eL]at ha
   |some ei=>
    have he:=hT e ei eL;simp only[eL,af]at ha;have hrun:∀(b o len cap:Nat),0<=n->n.toNat<len->(Instr.indexAt t (.slice (some ⟨b,o,none⟩) len cap) (.int kd n)).run P w= .ok (.pointer (some ⟨b,o+n.toNat*ei.size,none⟩)) w:=by
     intro b o len cap h0 h1;have h2:n<(len:Int):=(by omega);simp[Instr.indexAt,asIntOf,run_underlying ez,h0,h2,he.size (w:=w),addr_add]
    split at ha
    .rename_i rows r;split at ha
     .rename_i hlen;simp only[kx,ay]at ha;subst ha;obtain⟨h0,hr⟩:=cA;simp only[VR,TR]at hx;rcases hx with ⟨rfl,_⟩ |⟨b,aa,cap,sz,rfl,h1,h2,h3⟩
      .simp at hr
      .have hlt:=(dh.1 hr).1;obtain⟨g1,g2⟩:=ci.get _ _ _ _ h3 hr;refine⟨_,hrun _ _ _ _ h0 hlt,?_,rfl⟩;simp only[VR];exact⟨b,aa+n.toNat*sz,by rw[<- g1,hlen];rfl,h2,g2⟩
     .cases ha
    .rename_i k aa len;cases hk2:get k with
     |none=>simp[hk2]at ha
     |some o=>
      simp only[hk2,af]at ha;split at ha
      .rename_i hsz;simp only[kx,ay]at ha;subst ha;obtain⟨h0,hlt⟩:=cA;simp only[VR]at hx ⊢;rcases hx with ⟨_,_,_,rfl⟩ |⟨b,sz,m,cap,a,h1,rfl,h2,h3,h4⟩
       .omega
       .have⟨B,hB,hO⟩:=h.cD k o (hg k o hk2);rw[h1]at hB;cases hB;have hs:sz=o.sz:=hO.1;refine⟨_,hrun _ _ _ _ h0 hlt,⟨b,sz,m,h1,?_⟩,trivial⟩;rw[h4 (by omega),hs,hsz,Nat.add_mul,Nat.add_assoc];rfl
      .cases ha
    .cases ha
  .rename_i m e kd n hk;simp only[VR,TR]at hj;obtain⟨rfl,_⟩:=hj;have ez:=Dx ht hk;cases eL:T e with
   |none=>simp[eL]at ha
   |some ei=>
    have he:=hT e ei eL;simp only[eL,af]at ha;have hrun:∀(b o:Nat),0<=n->n.toNat<m->(Instr.indexAt t (.pointer (some ⟨b,o,none⟩)) (.int kd n)).run P w= .ok (.pointer (some ⟨b,o+n.toNat*ei.size,none⟩)) w:=by
     intro b o h0 h1;have h2:n<(m:Int):=(by omega);simp[Instr.indexAt,asIntOf,run_underlying ez,Instr.sureAddr,h0,h2,he.size (w:=w),addr_add]
    cases x<;>simp only[reduceCtorEq]at ha
    case ptr k row aa=>
     simp only[kx,ay]at ha;subst ha;simp only[VR]at hx ⊢;obtain⟨b,sz,q,g1,rfl⟩:=hx;exact⟨_,hrun _ _ cA.1 cA.2,⟨b,sz,q,g1,by rw[Nat.add_assoc]⟩,trivial⟩
    case ej r aa=>
     simp only[kx,ay]at ha;subst ha;simp only[VR]at hx ⊢;obtain⟨b,o,rfl,g1,g2⟩:=hx;exact⟨_,hrun _ _ cA.1 cA.2,⟨b,o,by rw[Nat.add_assoc],g1,g2⟩,trivial⟩
  .cases ha
theorem WX{x:AV}{j:Nat}{v:Value}{ab:Out}(ha:IL x j=some ab)(hx:VR P β w I x v):∃u,(Instr.extract v j).run P w= .ok u w/\VR P β w I ab.v u/\ab.upd=[]:=by
 unfold IL at ha;split at ha
 .rename_i vs;simp only[VR]at hx;obtain⟨us,rfl,vu⟩:=hx;cases hj:vs[j]? with
  |none=>simp[hj]at ha
  |some y=>
   simp only[hj,af,pv,ay]at ha;subst ha;obtain⟨u,hu,hv⟩:=bj.get _ _ j y vu hj;refine⟨u,?_,hv,rfl⟩;have:us[j]? =some u:=(by simpa using hu);simp[Instr.extract,this]
 .cases ha
end
section
variable {P:Program} {T:dC} {w0:World} {O0:i9} {β:Nat->Option cE} {I:Nat->Prop} {obj:Nat->Option aS} {w:World} {i:Nat}
theorem ac6{op:BinOp}{t:TypeId}{k yk:IntKind}{a b:Int}{v:Value}{ob:U Prop}(hk:k=yk\/op= .shl\/op= .shr)(h:WO op k a b=some (v,ob))(cA:kE ob):
 (binOp op t (.int k a) (.int yk b)).run P w= .ok v w/\oneCell v:=by
 cases op<;>simp only[WO,ay,Prod.mk.injEq]at h<;>obtain⟨rfl,rfl⟩:=h
 case shl=>exact⟨by rw[binOp_shl,shift_shl k yk a b cA.1 cA.2];simp,trivial⟩
 case shr=>exact⟨by rw[binOp_shr,shift_shr k yk a b cA.1 cA.2];simp,trivial⟩
 all_goals
  have hk':k=yk:=by rcases hk with h |h |h<;>first |exact h |cases h
  subst hk'
 case add=>exact⟨by simp[binOp_add,Op.intArith],trivial⟩
 case sub=>exact⟨by simp[binOp_sub,Op.intArith],trivial⟩
 case mul=>exact⟨by simp[binOp_mul,Op.intArith],trivial⟩
 case quo=>exact⟨by have h0:b≠0:=cA;rw[binOp_quo];simp[Op.intDiv,h0],trivial⟩
 case rem=>exact⟨by have h0:b≠0:=cA;rw[binOp_rem];simp[Op.intDiv,h0],trivial⟩
 case and=>exact⟨by rw[binOp_and,intBits_and];simp,trivial⟩
 case or=>exact⟨by rw[binOp_or,intBits_or];simp,trivial⟩
 case xor=>exact⟨by rw[binOp_xor,intBits_xor];simp,trivial⟩
 case andNot=>exact⟨by rw[binOp_andNot,intBits_andNot];simp,trivial⟩
 case eql=>exact⟨by rw[binOp_eql];simp,trivial⟩
 case neq=>exact⟨by rw[binOp_neq];simp,trivial⟩
 case lss=>exact⟨by rw[binOp_lss];simp,trivial⟩
 case leq=>exact⟨by rw[binOp_leq];simp,trivial⟩
 case gtr=>exact⟨by rw[binOp_gtr];simp,trivial⟩
 case geq=>exact⟨by rw[binOp_geq];simp,trivial⟩
theorem ac7{f:Field}{kd:Nat}{x y:AV}{b:Bool}{u v:Value}(hf:WN P f kd=true)(h:MF kd x y=some b)(hx:VR P β w I x u)(hy:VR P β w I y v)(d:Nat):
 (Op.equalIn (d + 1) f.type u v).run P w = .ok b w /\ f.name ≠ "_" /\ (isAgg f.type).run P w = .ok false w := by
 unfold WN at hf;simp only[aG,bne_iff_ne,ne_eq]at hf;obtain⟨hname,hf⟩:=hf;unfold MF at h;split at h
 .split at h
  .rename_i hk;subst hk;cases h;simp only[VR,TR]at hx hy;obtain⟨rfl,_⟩:=hx;obtain⟨rfl,_⟩:=hy;split at hf<;>first |(rename_i hu;exact⟨run_equalIn_int w d _ _ _ _ _ hu,hname,by simp[isAgg,run_underlying hu]⟩) |(simp at hf)
  .cases h
 .cases h;simp only[VR,TR]at hx hy;obtain⟨rfl,_⟩:=hx;obtain⟨rfl,_⟩:=hy;split at hf<;>first |(rename_i hu;exact⟨run_equalIn_bool w d _ _ _ hu,hname,by simp[isAgg,run_underlying hu]⟩) |(simp at hf)
 .cases h;simp only[VR,TR]at hx hy;obtain⟨rfl,_⟩:=hx;obtain⟨rfl,_⟩:=hy;split at hf<;>first |(rename_i hu;exact⟨run_equalIn_string w d _ _ _ hu,hname,by simp[isAgg,run_underlying hu]⟩) |(simp at hf)
 .cases h
theorem L8(d:Nat)(us vs:U Value):∀(fs:U Field)(ks:U Nat)(n:Nat)(xs ys:U AV)(b:Bool),fR P n fs ks=true->uI ks xs ys=some b->
 bj P β w I xs (us.drop n)->bj P β w I ys (vs.drop n)->(Op.eqFields (d+1) us.toArray vs.toArray fs).run P w= .ok b w
 |[],[],n,xs,ys,b,_,h,_,_=>by
  cases xs<;>cases ys<;>simp[uI]at h;subst h;simp[Op.eqFields]
 |f::fs,k::ks,n,xs,ys,b,hc,h,hx,hy=>by
  cases xs<;>cases ys<;>simp only[uI,reduceCtorEq]at h;rename_i x xs y ys;simp only[fR,aG,beq_iff_eq]at hc;obtain⟨⟨hoff,hcf⟩,hrest⟩:=hc;cases h1:MF k x y with
  |none=>simp[h1]at h
  |some a=>
   cases h2:uI ks xs ys with
   |none=>simp[h1,h2]at h
   |some c=>
    simp only[h1,h2,af,ay]at h;subst h;have y6:∀(us:U Value) (xs:U AV) (x:AV),bj P β w I (x::xs) (us.drop n)->∃u,us[n]? =some u/\VR P β w I x u/\bj P β w I xs (us.drop (n+1)):=by
     intro us xs x hx;have hlt:n<us.length:=by
      have:=bj.length _ _ hx;simp at this;omega
     rw[List.drop_eq_getElem_cons hlt]at hx;simp only[bj]at hx;exact⟨us[n],bX hlt,hx.1,hx.2⟩
    obtain⟨u,hu,hxu,hxs⟩:=y6 us xs x hx;obtain⟨v,hv,hyv,hys⟩:=y6 vs ys y hy;have⟨e1,e2,e3⟩:=ac7 hcf h1 hxu hyv d;have ih:=L8 d us vs fs ks (n+1) xs ys c hrest h2 hxs hys;have hp:∀(zs:U Value) (z:Value),zs[n]? =some z->(Go.part f.type zs.toArray f.offset).run P w= .ok z w:=by
     intro zs z hz;simp[Go.part,e3,hoff,hz]
    simp only[Op.eqFields,e2,ne_eq,not_false_eq_true,if_true,Sem.run_bind,hp us u hu,hp vs v hv,Result.andThen_ok,e1,Sem.run_ite,Sem.run_pure,ih];cases a<;>simp
 |[],_::_,_,_,_,_,hc,_,_,_=>by simp[fR]at hc
 |_::_,[],_,_,_,_,hc,_,_,_=>by simp[fR]at hc
theorem ahz(hT:eZ P T){op:BinOp}{t:TypeId}{x y:AV}{xo yo:Operand}{u v:Value}{ab:Out}(ha:wn T op t x y=some ab)(cA:ab.ob)(hx:VR P β w I x u)(hy:VR P β w I y v):
 ∃z,(do eqGuard op t xo yo u v;binOp op t u v:Sem Value).run P w= .ok z w/\VR P β w I ab.v z/\ab.upd=[]:=by
 unfold wn at ha;split at ha
 .rename_i k a yk b;simp only[VR,TR]at hx hy;obtain⟨rfl,_⟩:=hx;obtain⟨rfl,_⟩:=hy;split at ha
  .rename_i hk;cases har:WO op k a b with
   |none=>simp[har]at ha
   |some p=>
    obtain⟨z,ob⟩:=p;simp only[har,af,ay]at ha;subst ha;have⟨h1,h2⟩:=ac6 (P:=P) (w:=w) (t:=t) hk har cA;exact⟨z,by simp[eqGuard_at_int,h1],by simp only[VR,TR];exact⟨trivial,h2⟩,rfl⟩
  .cases ha
 .rename_i a b;simp only[VR,TR]at hx hy;obtain⟨rfl,_⟩:=hx;obtain⟨rfl,_⟩:=hy;cases op<;>simp only[pv,kx,ay,reduceCtorEq]at ha<;>subst ha
  .have hs:¬((a.size+b.size:Nat):Int)>i64.max:=by
    have:a.size+b.size<=maxLen:=cA;have h2:i64.max=9223372036854775807:=(by decide);unfold maxLen at this;omega
   exact⟨.string (a++b),by simp only[eqGuard_at_string,binOp,Op.stringOp,aW hs];simp,by simp only[VR,TR];exact⟨trivial,trivial⟩,rfl⟩
  .exact⟨.bool (a.toList==b.toList),by simp[eqGuard_at_string,binOp,Op.stringOp],by simp only[VR,TR];exact⟨trivial,trivial⟩,rfl⟩
  .exact⟨.bool (!(a.toList==b.toList)),by simp[eqGuard_at_string,binOp,Op.stringOp],by simp only[VR,TR];exact⟨trivial,trivial⟩,rfl⟩
  .exact⟨.bool (Op.bytesLess a.toList b.toList),by simp[eqGuard_at_string,binOp,Op.stringOp],by simp only[VR,TR];exact⟨trivial,trivial⟩,rfl⟩
  .exact⟨.bool (!(Op.bytesLess a.toList b.toList || a.toList==b.toList)),by simp[eqGuard_at_string,binOp,Op.stringOp],by simp only[VR,TR];exact⟨trivial,trivial⟩,rfl⟩
 .rename_i a b;simp only[VR,TR]at hx hy;obtain⟨rfl,_⟩:=hx;obtain⟨rfl,_⟩:=hy;cases hti:T t with
  |none=>simp[hti]at ha
  |some ti=>
   have ht:=hT t ti hti;simp only[hti,af]at ha;have ez:ti.k= .bool->P.underlying t=some .bool:=λhk=>by
    obtain⟨info,d,z,h1,h2,h3,h4,h5,h6,h7,h8⟩:=ht.ex;rw[hk]at h8;rw[h2,h8]
   split at ha
   .rename_i hk;simp only[pv,ay]at ha;subst ha;exact⟨.bool (a==b),by simp[eqGuard_at_bool,binOp,run_equal_bool w t a b (ez hk)],by simp only[VR,TR];exact⟨trivial,trivial⟩,rfl⟩
   .rename_i hk;simp only[pv,ay]at ha;subst ha;exact⟨.bool (!(a==b)),by simp[eqGuard_at_bool,binOp,run_equal_bool w t a b (ez hk)],by simp only[VR,TR];exact⟨trivial,trivial⟩,rfl⟩
   .cases ha
 .rename_i xs ys;simp only[VR]at hx hy;obtain⟨us,rfl,vu⟩:=hx;obtain⟨vs,rfl,hvs⟩:=hy;cases hti:T t with
  |none=>simp[hti]at ha
  |some ti=>
   have ht:=hT t ti hti;simp only[hti,af]at ha;split at ha
   .cases ha
   .rename_i hne;rcases ht.cmp hne with ⟨fa,h1,h2,h3,h4⟩ |⟨h9,_⟩
    rotate_left
    .rw[h9,amm]at ha;simp at ha
    cases hc:uI ti.cmp xs ys with
    |none=>simp[hc]at ha
    |some b=>
     simp only[hc,af]at ha;have hfo:P.fieldsOf t=fa:=(by simp[Program.fieldsOf,h1]);have heq:(Op.equalIn 10000 t (.agg us) (.agg vs)).run P w= .ok b w:=by
      rw[run_equalIn_struct w 9999 t us vs (by rw[hfo];exact h1) h2,hfo];have:=L8 (P:=P) (w:=w) 9998 us.toList vs.toList fa.toList ti.cmp 0 xs ys b h4 hc (by simpa using vu) (by simpa using hvs);simpa using this
     have hgd:∀op,(eqGuard op t xo yo (.agg us) (.agg vs)).run P w= .ok () w:=λop=>run_eqGuard_agg w op t xo yo us vs h3;cases op<;>simp only[pv,ay,reduceCtorEq]at ha<;>subst ha
     .exact⟨.bool b,by simp[hgd,run_eql_struct,heq],by simp only[VR,TR];exact⟨trivial,trivial⟩,rfl⟩
     .exact⟨.bool (!b),by simp[hgd,run_neq_struct,heq],by simp only[VR,TR];exact⟨trivial,trivial⟩,rfl⟩
 .cases ha
theorem aky{op:UnOp}{x:AV}{v:Value}{ab:Out}(ha:QP op x=some ab)(hx:VR P β w I x v):∃z,(Op.unary op v).run P w= .ok z w/\VR P β w I ab.v z/\ab.upd=[]:=by
 unfold QP at ha;split at ha
 .simp only[pv,ay]at ha;subst ha;simp only[VR,TR]at hx;obtain⟨rfl,_⟩:=hx;exact⟨_,by simp[Op.unary];rfl,by simp only[VR,TR];exact⟨trivial,trivial⟩,rfl⟩
 .simp only[pv,ay]at ha;subst ha;simp only[VR,TR]at hx;obtain⟨rfl,_⟩:=hx;exact⟨_,by simp only[Op.unary,Op.intArith];rfl,by simp only[VR,TR];exact⟨trivial,trivial⟩,rfl⟩
 .cases ha
theorem NW(mx:Bool)(k:IntKind):∀(r:U AV)(vs:U Value)(a n:Int),EQ mx k a r=some n->bj P β w I r vs->
 (vs.foldlM (if mx then Builtin.max2 else Builtin.min2) (.int k a)).run P w= .ok (.int k n) w
 |[],[],a,n,h,_=>by simp only[EQ,ay]at h;subst h;simp
 |x::r,v::vs,a,n,h,hv=>by
  simp only[bj]at hv;have hx:∃k' b,x= .t (.sc (.int k' b)):=by
   unfold EQ at h;split at h
   .cases ‹_::_=_›
   .rename_i heq;injection heq with h1 h2;exact⟨_,_,h1⟩
   .cases h
  obtain⟨k',b,rfl⟩:=hx;simp only[EQ]at h;split at h
  .rename_i hk;subst hk;simp only[VR,TR]at hv;obtain⟨⟨rfl,_⟩,hv⟩:=hv;have ih:=NW mx k' r vs _ n h hv;cases mx
   .simp only[Bool.false_eq_true,if_false]at ih ⊢;simp only[List.foldlM_cons,Builtin.min2,Sem.run_bind,Sem.run_pure,Result.andThen_ok];rw[show (if b<a then b else a)=min a b by rw[Int.min_def];split<;>split<;>omega];exact ih
   .simp only[if_true]at ih ⊢;simp only[List.foldlM_cons,Builtin.max2,Sem.run_bind,Sem.run_pure,Result.andThen_ok];rw[show (if b>a then b else a)=max a b by rw[Int.max_def];split<;>split<;>omega];exact ih
  .cases h
 |[],_::_,_,_,_,hv=>by simp[bj]at hv
 |_::_,[],_,_,_,hv=>by simp[bj]at hv
theorem abR{mx:Bool}{args:U AV}{vs:Array Value}{cX:Array TypeId}{ty:TypeId}{ab:Out}(ha:Hc mx args=some ab)(hx:bj P β w I args vs.toList):
 ∃z,((if mx then Builtin.max_ else Builtin.min_) cX ty vs).run P w= .ok z w/\VR P β w I ab.v z/\ab.upd=[]:=by
 unfold Hc at ha;split at ha
 .rename_i k a r;cases hf:EQ mx k a r with
  |none=>simp[hf]at ha
  |some n=>
   simp only[hf,af,pv,ay]at ha;subst ha;cases hvs:vs.toList with
   |nil=>rw[hvs]at hx;simp[bj]at hx
   |cons v vs'=>
    rw[hvs]at hx;simp only[bj,VR,TR]at hx;obtain⟨⟨rfl,_⟩,hr⟩:=hx;have:=NW (P:=P) mx k r vs' a n hf hr;refine⟨.int k n,?_,by simp only[VR,TR];exact⟨trivial,trivial⟩,rfl⟩;cases mx
    .simpa[Builtin.min_,hvs]using this
    .simpa[Builtin.max_,hvs]using this
 .cases ha
end
section
variable {P:Program} {T:dC} {w0:World} {O0:i9} {β:Nat->Option cE} {I:Nat->Prop} {obj:Nat->Option aS} {w:World} {i:Nat}
theorem ahA(hT:eZ P T){t ty:TypeId}{x:AV}{cm:iu}{v:Value}{ab:Out}(ha:AI T t x cm=some ab)(cA:ab.ob)(hx:VR P β w I x v):
 ∃z,(Builtin.len_ #[t] ty #[v]).run P w= .ok z w/\VR P β w I ab.v z/\ab.upd=[]:=by
 unfold AI at ha;cases hti:T t with
 |none=>simp[hti]at ha
 |some ti=>
  have ht:=hT t ti hti;simp only[hti,af]at ha;have hsl:∀e b n c,ti.k= .slice e->(Builtin.len_ #[t] ty #[.slice b n c]).run P w= .ok (goInt n) w:=λe b n c hk=>by simp[Builtin.len_,run_underlying (iB ht hk)]
  split at ha
  .rename_i e rows n hk;simp only[kx,ay]at ha;subst ha;have cA:n=_:=cA;subst cA;simp only[VR,TR]at hx;rcases hx with ⟨rfl,_,_,rfl,_⟩ |⟨b,aa,cap,sz,rfl,_⟩
   .exact⟨_,hsl _ _ _ _ hk,by simp only[VR,TR,goInt];exact⟨by simp,trivial⟩,rfl⟩
   .exact⟨_,hsl _ _ _ _ hk,by simp only[VR,TR,goInt];exact⟨trivial,trivial⟩,rfl⟩
  .rename_i e k aa len n hk;simp only[kx,ay]at ha;subst ha;have cA:n=_:=cA;subst cA;simp only[VR]at hx;rcases hx with ⟨_,rfl,_,rfl⟩ |⟨b,sz,m,cap,a,_,rfl,_⟩
   .exact⟨_,hsl _ _ _ _ hk,by simp only[VR,TR,goInt];exact⟨trivial,trivial⟩,rfl⟩
   .exact⟨_,hsl _ _ _ _ hk,by simp only[VR,TR,goInt];exact⟨trivial,trivial⟩,rfl⟩
  .rename_i e k aa len hk _;simp only[pv,ay]at ha;subst ha;simp only[VR]at hx;rcases hx with ⟨_,rfl,_,rfl⟩ |⟨b,sz,m,cap,a,_,rfl,_⟩
   .exact⟨_,hsl _ _ _ _ hk,by simp only[VR,TR,goInt];exact⟨trivial,trivial⟩,rfl⟩
   .exact⟨_,hsl _ _ _ _ hk,by simp only[VR,TR,goInt];exact⟨trivial,trivial⟩,rfl⟩
  .rename_i e k len hk;simp only[pv,ay]at ha;subst ha;simp only[VR]at hx;rcases hx with ⟨rfl,rfl⟩ |⟨_,b,sz,m,cap,a,_,rfl,_⟩
   .exact⟨_,hsl _ _ _ _ hk,by simp only[VR,TR,goInt];exact⟨trivial,trivial⟩,rfl⟩
   .exact⟨_,hsl _ _ _ _ hk,by simp only[VR,TR,goInt];exact⟨trivial,trivial⟩,rfl⟩
  .rename_i e hk;simp only[pv,ay]at ha;subst ha;simp only[VR]at hx;subst hx;exact⟨_,hsl _ _ _ _ hk,by simp only[VR,TR,goInt];exact⟨by simp,trivial⟩,rfl⟩
  .rename_i s hk;simp only[pv,ay]at ha;subst ha;simp only[VR,TR]at hx;obtain⟨rfl,_⟩:=hx;have ez:P.underlying t=some .string:=by
    obtain⟨info,d,z,h1,h2,h3,h4,h5,h6,h7,h8⟩:=ht.ex;rw[hk]at h8;rw[h2,h8]
   exact⟨_,by simp[Builtin.len_,run_underlying ez];rfl,by simp only[VR,TR,goInt];exact⟨trivial,trivial⟩,rfl⟩
  .cases ha
theorem abS(vs:U Value)(aa:Nat):∀(ps:U Value)(n:Nat)(cs:Array Value),aa+n+ps.length<=cs.size->
 (ps.zipIdx n).foldl (λ cs (c,j)=>cs.setIfInBounds (aa+j) c) cs=((cs.toList.take (aa+n))++ps++cs.toList.drop (aa+n+ps.length)).toArray
 |[],n,cs,_=>by simp
 |p::ps,n,cs,h=>by
  simp only[bn]at h;rw[List.zipIdx_cons,List.foldl_cons,abS vs aa ps (n+1) _ (by simp;omega)];congr 1;rw[Array.toList_setIfInBounds];have h1:aa+n<cs.toList.length:=by simp;omega
  rw[show aa+(n+1)=aa+n+1 by omega,fD (by simpa using h1)];rw[List.take_set,List.set_eq_of_length_le (by simp;omega)];simp only[List.getElem_set_self,aM,bn,cons_append,bI];congr 3;rw[List.drop_set_of_lt (by omega)];congr 1;omega
theorem aoq{cells cs:U AV}{us vs:U Value}{aa:Nat}(h1:bj P β w I cells us)(h2:bj P β w I cs vs):bj P β w I (put' cells aa cs) (us.take aa++vs++us.drop (aa+vs.length)):=by
 unfold put';rw[bj.length _ _ h2];exact bj.append _ _ _ _ (bj.append _ _ _ _ (bj.take _ _ _ h1) h2) (bj.drop _ _ _ h1)
theorem Bd{place oA:Nat->J (Nat×Nat)}(hpl:∀j p,place j=some p->oA j=some p):∀(parts:U (Nat×AV))(vs:U (Nat×Value))(cells:U AV)(us:Array Value)(ab:U AV),
 Gm place cells parts=some ab->bj P β w I cells us.toList->parts.map (·.1)=vs.map (·.1)->bj P β w I (parts.map (·.2)) (vs.map (·.2))->
 ∃zs,Instr.fill oA us vs=some zs/\bj P β w I ab zs.toList
 |[],[],cells,us,ab,h,hc,_,_=>by simp only[Gm,ay]at h;subst h;exact⟨us,rfl,hc⟩
 |(j,x)::ag,(j',v)::vs,cells,us,ab,h,hc,hk,hv=>by
  simp only[aF,List.cons.injEq]at hk;obtain⟨rfl,hk⟩:=hk;simp only[aF,bj]at hv;simp only[Gm]at h;cases hp:place j with
  |none=>simp[hp]at h
  |some p=>
   obtain⟨aa,size⟩:=p;simp only[hp,af]at h;cases hcs:cellsOf x with
   |none=>simp[hcs]at h
   |some cs=>
    simp only[hcs,af]at h;split at h
    .rename_i hl;have⟨g1,g2⟩:=rR hcs hv.1;have hlen:=bj.length _ _ g1;have hlc:=bj.length _ _ hc;simp only[Array.length_toList]at hlen hlc;have hnew:=aoq (aa:=aa) hc g1;have:=Bd hpl ag vs _ (us.toList.take aa++v.cells.toList++us.toList.drop (aa+v.cells.toList.length)).toArray ab h (by simpa using hnew) hk hv.2;obtain⟨zs,hz,hz2⟩:=this;refine⟨zs,?_,hz2⟩;simp only[Instr.fill,hpl j _ hp];have hsz:v.cells.size=size:=(by omega);have hno:¬(v.cells.size≠size\/aa+v.cells.size>us.size):=(by omega);rw[aW (by simp only[Bool.or_eq_true,aJ];exact hno)];have zj:=abS [] aa v.cells.toList 0 us (by simp;omega);simp only[Nat.add_zero]at zj;rw[<- hz,<- zj];congr 1;rw[<- Array.foldl_toList,Array.toList_zipIdx]
    .cases h
 |[],_::_,_,_,_,_,_,hk,_=>by simp at hk
 |_::_,[],_,_,_,_,_,hk,_=>by simp at hk
theorem Gn(hT:eZ P T):∀(fs:U Field),(∀ f∈fs,(T f.type).isSome=true)->
 ∃ps:U (Nat×Nat),(fs.mapM (λ f=>do pure (f.offset,<- sizeOf f.type):Field->Sem (Nat×Nat))).run P w= .ok ps w/\ps.map some=fs.map λf=>(T f.type).bind λui=>some (f.offset,ui.size)
 |[],_=>⟨[],by simp,rfl⟩
 |f::fs,h=>by
  obtain⟨ui,vx⟩:=Option.isSome_iff_exists.1 (h f (by simp));obtain⟨ps,h1,h2⟩:=Gn hT fs (λ g hg=>h g (by simp[hg]));refine⟨(f.offset,ui.size)::ps,?_,by simp[vx,h2]⟩;simp only[List.mapM_cons,Sem.run_bind,(hT _ _ vx).size (w:=w),Result.andThen_ok,Sem.run_pure,h1]
theorem ac8(hT:eZ P T){t:TypeId}{parts:U (Nat×AV)}{vs:Array (Nat×Value)}{ab:Out}(ha:WS T t parts=some ab)
 (hk:parts.map (·.1)=vs.toList.map (·.1)) (hv:bj P β w I (parts.map (·.2)) (vs.toList.map (·.2))):∃z,(Instr.build t vs).run P w= .ok z w/\VR P β w I ab.v z/\ab.upd=[]:=by
 unfold WS at ha;cases hti:T t with
 |none=>simp[hti]at ha
 |some ti=>
  have ht:=hT t ti hti;simp only[hti,af]at ha;have⟨z,hz,hz2⟩:=ht.zeroV (w:=w);split at ha
  .rename_i fs hkd;split at ha
   .rename_i hall;generalize hpl:(λ (j:Nat)=>(fs[j]?).bind λ(p:Nat×TypeId)=>(T p.2).bind λui=>some (p.1,ui.size))=place at ha;cases hf:Gm place (ti.zero.map cv) parts with
    |none=>simp[hf]at ha
    |some cells=>
     simp only[hf,af,pv,ay]at ha;subst ha;obtain⟨info,d,z',h1,h2,h3,h4,h5,h6,h7,h8⟩:=ht.ex;rw[hkd]at h8;obtain⟨fa,rfl,hfa⟩:=h8;have HX:∀f∈fa.toList,(T f.type).isSome=true:=λf hf=>by
      have:=all_eq_true.1 hall (f.offset,f.type) (by rw[<- hfa];exact mem_map.2 ⟨f,hf,rfl⟩);simpa using this
     have⟨ps,hp1,hp2⟩:=Gn (w:=w) hT fa.toList HX;have hpl':∀j p,place j=some p->ps[j]? =some p:=by
      intro j p hj;rw[<- hpl]at hj;simp only at hj;have e1:(ps.map some)[j]? =some (some p):=by
       rw[hp2,List.getElem?_map];rw[<- hfa]at hj
       grind
      simpa using e1
     obtain⟨zs,hz3,Fl⟩:=Bd (oA:=λj=>ps.toArray[j]?) (λ j p h=>by simpa using hpl' j p h) parts vs.toList _ z.cells cells hf (by rw[hz2];exact bj.cv _) hk hv;refine⟨.agg zs,?_,by simp only[VR];exact⟨zs,rfl,Fl⟩,rfl⟩;have hm:(fa.mapM (λ f=>do pure (f.offset,<- sizeOf f.type):Field->Sem (Nat×Nat))).run P w= .ok ps.toArray w:=(by rw[Array.mapM_eq_mapM_toList,Sem.run_map,hp1];rfl);simp only[Instr.build,Sem.run_bind,hz,Result.andThen_ok,run_underlying h2,hm,hz3,Sem.run_pure]
   .cases ha
  .rename_i n e hkd;cases eL:T e with
   |none=>simp[eL]at ha
   |some ei=>
    have he:=hT e ei eL;simp only[eL,af]at ha;cases hf:Gm (λ j=>some (j*ei.size,ei.size)) (ti.zero.map cv) parts with
    |none=>simp[hf]at ha
    |some cells=>
     simp only[hf,af,pv,ay]at ha;subst ha;obtain⟨zs,hz3,Fl⟩:=Bd (oA:=λj=>some (j*ei.size,ei.size)) (λ j p h=>h) parts vs.toList _ z.cells cells hf (by rw[hz2];exact bj.cv _) hk hv;refine⟨.agg zs,?_,by simp only[VR];exact⟨zs,rfl,Fl⟩,rfl⟩;simp only[Instr.build,Sem.run_bind,hz,Result.andThen_ok,run_underlying (Dx ht hkd),he.size (w:=w),hz3,Sem.run_pure]
  .cases ha
end
section
variable {P:Program} {T:dC} {w0:World} {O0:i9} {β:Nat->Option cE} {I:Nat->Prop} {obj:Nat->Option aS} {w:World} {i:Nat}
theorem Mem.xj{i k:Nat}{o o1:aS}{B C:cE}(h:Mem P w0 O0 β I obj w)(hn:β i=none)(hk:obj k=some o)(hβ:β k=some B)(hC:C.num=B.num)(hO:OR P β w I o1 C):
 Step β I w i (ins β i C) I w/\Mem P w0 O0 (ins β i C) I (bU obj [(i,some o1),(k,none)]) w:=by
 have hS:Step β I w i (ins β i C) I w:=⟨λ j hj=>by simp[ins,ie.ne hj],nS hn,λ_ _=>rfl,λ_ h=>h⟩;have look:∀j o',bU obj [(i,some o1),(k,none)] j=some o'->(j=i/\o'=o1)\/(j≠i/\j≠k/\obj j=some o'):=by
  intro j o' hj;simp only[bU]at hj;split at hj
  .injection hj with hj;exact .inl ⟨‹_›,hj.symm⟩
  .split at hj
   .cases hj
   .exact .inr ⟨‹_›,‹_›,hj⟩
 refine⟨hS,?_⟩;constructor
 .intro j o' hj;rcases look j o' hj with ⟨rfl,rfl⟩ |⟨h1,h2,h3⟩
  .exact⟨C,by simp[ins],OR.mono hS.ext hS.same hS.inc (λ _ _=>rfl) hO⟩
  .have⟨B',hB',hO⟩:=h.cD j o' h3;exact⟨B',nS hn _ _ hB',OR.mono hS.ext hS.same hS.inc (λ _ _=>rfl) hO⟩
 .intro j j' o1 o2 B1 B2 b h1 h2 h3 h4 h5 h6;rcases look j o1 h1 with ⟨rfl,rfl⟩ |⟨a1,a2,a3⟩<;>rcases look j' o2 h2 with ⟨rfl,rfl⟩ |⟨c1,c2,c3⟩
  .rfl
  .simp only[ins,if_true,ay]at h3;simp only[ins,c1,if_false]at h4;subst h3;exact absurd (h.gd k j' _ _ B B2 b hk c3 hβ h4 (hC ▸ h5) h6) (λ e=>c2 e.symm)
  .simp only[ins,if_true,ay]at h4;simp only[ins,a1,if_false]at h3;subst h4;exact absurd (h.gd j k _ _ B1 B b a3 hk h3 hβ h5 (hC ▸ h6)) (λ e=>a2 e)
  .simp only[ins,a1,c1,if_false]at h3 h4;exact h.gd j j' o1 o2 B1 B2 b a3 c3 h3 h4 h5 h6
 .intro j o' B1 b h1 h2 h3;rcases look j o' h1 with ⟨rfl,rfl⟩ |⟨a1,a2,a3⟩
  .simp only[ins,if_true,ay]at h2;subst h2;exact h.ownB k _ B b hk hβ (hC ▸ h3)
  .simp only[ins,a1,if_false]at h2;exact h.ownB j o' B1 b a3 h2 h3
 .exact h.lt
 .exact h.up
 .exact h.keep
 .exact h.le
 .exact h.os
 .exact h.tape
 .exact h.output
 .intro j C hj;exact nS hn _ _ (h.anch j C hj)
 .exact h.vars
theorem L9:∀(rows:U (List AV))(c:Array Value)(aa sz:Nat)(l:U Value),(∀ r∈rows,r.length=sz/\r.all qc=true)->bj P β w I rows.flatten l->(∀ j u,l[j]? =some u->c[aa+j]? =some u)->bo P β w I rows c aa sz
 |[],_,_,_,_,_,_,_=>by simp[bo]
 |r::rs,c,aa,sz,l,hr,hl,hc=>by
  obtain⟨h1,h2⟩:=hr r (by simp);simp only[flatten_cons]at hl;have ht:=bj.take sz _ _ hl;have hd:=bj.drop sz _ _ hl;rw[List.take_append_of_le_length (by omega),take_of_length_le (by omega)]at ht;rw[List.drop_append_of_le_length (by omega),List.drop_of_length_le (by omega),bI]at hd;simp only[bo];refine⟨h1,cQ.nr r _ c aa ht (λ u hu=>?_) (λ j u hj=>?_),L9 rs c (aa+sz) sz _ (λ r' hr'=>hr r' (by simp[hr'])) hd (λ j u hj=>?_)⟩
  .obtain⟨j,hj⟩:=List.getElem?_of_mem hu;have hlen:=bj.length _ _ ht;have hjl:j<r.length:=(by have:=(dh.1 hj).1;omega);obtain⟨u',hu',hv⟩:=bj.get _ _ j _ ht (bX hjl);rw[hj]at hu';injection hu' with hu';subst hu';exact VR.one (all_eq_true.1 h2 _ (List.getElem_mem hjl)) hv
  all_goals grind
theorem ahB{x:AV}{cs:U AV}(h:cellsOf x=some cs):cs.all qc=true:=by
 cases x<;>simp only[cellsOf,ay,reduceCtorEq]at h
 case agg=>split at h<;>first |(cases h;assumption) |cases h
 all_goals subst h;simp[qc]
theorem WY(size:Nat):∀(parts:U (Nat×AV))(rows ab:U (List AV)),NU size rows parts=some ab->(∀ r∈rows,r.length=size/\r.all qc=true)->
 Gm (λ j=>some (j*size,size)) rows.flatten parts=some ab.flatten/\(∀ r∈ab,r.length=size/\r.all qc=true)/\ab.length=rows.length
 |[],rows,ab,h,hr=>by simp only[NU,ay]at h;subst h;exact⟨rfl,hr,rfl⟩
 |(j,x)::ag,rows,ab,h,hr=>by
  simp only[NU]at h;cases hcs:cellsOf x with
  |none=>simp[hcs]at h
  |some cs=>
   simp only[hcs,af]at h;split at h
   .rename_i hl;obtain⟨h1,h2,h3⟩:=WY size ag (rows.set j cs) ab h (λ r hr'=>by
     rcases List.mem_or_eq_of_mem_set hr' with h4 |h4
     .exact hr r h4
     .rw[h4];exact⟨hl.1,ahB hcs⟩)
    refine⟨?_,h2,by simpa using h3⟩;have HQ:∀(n:Nat) (rows:U (List AV)),(∀ r∈rows,r.length=size)->n<rows.length->(rows.set n cs).flatten=put' rows.flatten (n*size) cs/\n*size+cs.length<=rows.flatten.length:=by
     intro n
     induction n with
     |zero=>
      intro rows hr hn;cases rows with
      |nil=>simp at hn
      |cons r rs=>
       have:=hr r (by simp);simp only[List.set_cons_zero,flatten_cons,put',Nat.zero_mul,List.take_zero,bI,Nat.zero_add,dM];refine⟨?_,by omega⟩;rw[hl.1,List.drop_append_of_le_length (by omega),List.drop_of_length_le (by omega),bI]
     |succ n ih=>
      intro rows hr hn;cases rows with
      |nil=>simp at hn
      |cons r rs=>
       have hrl:=hr r (by simp);obtain⟨g1,g2⟩:=ih rs (λ r' h'=>hr r' (by simp[h'])) (by simpa using hn);have e1:(n+1)*size=r.length+n*size:=(by rw[Nat.add_mul];omega);simp only[List.set_cons_succ,flatten_cons,g1,put',e1,dM];refine⟨?_,by omega⟩;rw[List.take_length_add_append,show r.length+n*size+cs.length=r.length+(n*size+cs.length)by omega,List.drop_length_add_append];simp[aM]
    obtain⟨g1,g2⟩:=HQ j rows (λ r h'=>(hr r h').1) hl.2;simp only[Gm,af,hcs];rw[aT ⟨hl.1,g2⟩,<- g1];exact h1
   .cases h
theorem NY(hT:eZ P T)(h:Mem P w0 O0 β I obj w)(hn:β (cx i)=none){t:TypeId}{len:Nat}{parts:U (Nat×AV)}{vs:Array (Nat×Value)}{ab:Out}{kp:Bool}(ha:wY T i t len parts kp=some ab)
 (hk:parts.map (·.1)=vs.toList.map (·.1)) (hv:bj P β w I (parts.map (·.2)) (vs.toList.map (·.2))):
 ∃u w' β',(Instr.buildSlice t len vs).run P w= .ok u w'/\Step β I w (cx i) β' I w'/\Mem P w0 O0 β' I (bU obj ab.upd) w'/\VR P β' w' I ab.v u:=by
 unfold wY at ha;cases hti:T t with
 |none=>simp[hti]at ha
 |some ti=>
  have ht:=hT t ti hti;simp only[hti,af]at ha;split at ha
  .rename_i e hkd;cases eL:T e with
   |none=>simp[eL]at ha
   |some ei=>
    have he:=hT e ei eL;simp only[eL,af]at ha;split at ha
    .cases ha
    .rename_i hno;simp only[not_or]at hno;cases hf:NU ei.size (List.replicate len (ei.zero.map cv)) parts with
     |none=>simp[hf]at ha
     |some rows=>
      simp only[hf,af,ay]at ha;subst ha;have⟨z,hz,hz2⟩:=he.zeroV (w:=w);have hzl:ei.zero.length=ei.size:=he.len;have hok:∀r∈List.replicate len (ei.zero.map cv),r.length=ei.size/\r.all qc=true:=by
       intro r hr;obtain⟨_,rfl⟩:=List.mem_replicate.1 hr;refine⟨by simpa using hzl,?_⟩;rw[List.all_map,all_eq_true];intro v hvz;have h1:=all_eq_true.1 he.one v hvz;simp only[Function.comp,cv];split
       .rfl
       .rw[aT h1];rfl
      obtain⟨h1,h2,h3⟩:=WY ei.size parts _ rows hf hok;have hzs:z.cells.size=ei.size:=(by rw[<- Array.length_toList,hz2];exact hzl);have hinit:((Array.range (len*ei.size)).map (λ j=>z.cells[j%z.cells.size]!)).toList=(List.replicate len ei.zero).flatten:=by
       apply List.ext_getElem?;intro j;have hlen:∀n,((List.replicate n ei.zero).flatten).length=n*ei.size:=λn=>(by simp[hzl]);have hget:∀n j,j<n*ei.size->((List.replicate n ei.zero).flatten)[j]? =ei.zero[j%ei.size]? :=by
        intro n
        induction n with
        |zero=>intro j hj;simp at hj
        |succ n ih=>
         intro j hj;rw[List.replicate_succ,flatten_cons];by_cases hjs:j<ei.size
         .rw[List.getElem?_append_left (by omega),Nat.mod_eq_of_lt hjs]
         .rw[lM (by omega),hzl,ih _ (by rw[Nat.add_mul]at hj;omega)];rw[<- Nat.mod_eq_sub_mod (by omega)]
       by_cases hj:j<len*ei.size
       .rw[hget len j hj,Array.getElem?_toList,Array.getElem?_map];have hm:j%ei.size<ei.size:=Nat.mod_lt _ (by omega);rw[show (Array.range (len*ei.size))[j]? =some j by simp[hj]];simp only[Option.map_some];rw[hzs,<- hz2,Array.getElem?_toList];simp[show j%ei.size<z.cells.size by omega]
       .rw[List.getElem?_eq_none (by simp;omega),List.getElem?_eq_none (by rw[hlen];omega)]
      generalize hin:(Array.range (len*ei.size)).map (λ j=>z.cells[j%z.cells.size]!)=ta at hinit;obtain⟨zs,hz3,Fl⟩:=Bd (oA:=λj=>some (j*ei.size,ei.size)) (λ j p h=>h) parts vs.toList _ ta rows.flatten h1 (by
       rw[hinit];have:(List.replicate len (ei.zero.map cv)).flatten=((List.replicate len ei.zero).flatten).map cv:=by
        induction len with
        |zero=>rfl
        |succ n ih=>simp[List.replicate_succ]
       rw[this];exact bj.cv _) hk hv
      have hrl:rows.length=len:=(by rw[h3];simp);obtain⟨hS,hM⟩:=Mem.alloc (o:=⟨ei.size,rows⟩) (c:=zs) (e:=e) h hn (L9 rows zs 0 ei.size zs.toList h2 Fl (λ j u hj=>by simpa using hj));refine⟨.slice (some ⟨w.heap.size,0,none⟩) len len,_,_,?_,hS,by cases kp<;>first |exact hM.xa |exact hM,?_⟩
      .simp only[Instr.buildSlice,Sem.run_bind,run_underlying (iB ht hkd),Result.andThen_ok,he.size (w:=w)];rw[aW (by omega)];by_cases hl0:len*ei.size=0
       .have hc0:ta=#[]:=(by rw[<- hin,hl0];simp);have e0:(Array.range (len*ei.size)).map (λ j=>(#[]:Array Value)[j%(#[]:Array Value).size]!)=ta:=(by rw[hc0,hl0];simp);simp only[hl0,if_true,Sem.run_pure,Result.andThen_ok,Sem.run_bind];rw[hl0]at e0;rw[e0,hz3];simp only[Sem.run_bind,newRow,run_newObj,Result.andThen_ok,Sem.run_pure];rfl
       .simp only[hl0,if_false,Sem.run_bind,hz,Result.andThen_ok,Sem.run_pure];rw[hin,hz3];simp only[Sem.run_bind,newRow,run_newObj,Result.andThen_ok,Sem.run_pure];rfl
      .simp only[VR];refine .inr ⟨w.heap.size,ei.size,vy zs.size,len,0,by simp[ins],rfl,aC _,?_,by simp⟩;have:=bj.length _ _ Fl;simp only[Array.length_toList]at this;rw[PA,Pu,this,Nat.zero_add,Nat.zero_add,<- hrl];have hfl:∀(l:U (List AV)),(∀ r∈l,r.length=ei.size)->l.flatten.length=l.length*ei.size:=by
        intro l
        induction l with
        |nil=>simp
        |cons r rs ih=>intro h;simp only[flatten_cons,dM,bn,ih (λ r' h'=>h r' (by simp[h'])),h r (by simp)];rw[Nat.add_mul];omega
       rw[hfl rows (λ r hr=>(h2 r hr).1)];exact aC _
  .cases ha
end
section
variable {P:Program} {T:dC} {w0:World} {O0:i9} {β:Nat->Option cE} {I:Nat->Prop} {obj:Nat->Option aS} {w:World} {i:Nat}
theorem y8{d n:Int}{x:J AV}{v:J Value}(h:bnd d x=some n)(hx:∀y,x=some y->∃u,v=some u/\VR P β w I y u)(h0:x=none->v=none):(v=none/\n=d)\/∃k,v=some (.int k n):=by
 cases x with
 |none=>simp only[bnd,ay]at h;exact .inl ⟨h0 rfl,h.symm⟩
 |some y=>
  obtain⟨u,rfl,hu⟩:=hx y rfl;unfold bnd at h;split at h
  .cases ‹some _=none›
  .rename_i k m heq;cases heq;cases h;simp only[VR,TR]at hu;exact .inr ⟨k,by rw[hu.1]⟩
  .cases h
theorem Gp{oE hiv:J Value}{l hh:Int}{len cap:Nat}(h1:(oE=none/\l=0)\/∃k,oE=some (.int k l))(h2:(hiv=none/\hh=(len:Int))\/∃k,hiv=some (.int k hh))(g0:0<=l)(g1:l<=hh)(g2:hh<=(cap:Int)):
 (Instr.sliceBounds true len cap oE hiv none).run P w= .ok (l.toNat,hh.toNat,cap) w:=by
 have hb:∀(k:IntKind) (n:Int) (y:Nat) an,0<=n->n<=(y:Int)->(Instr.sliceBound (.int k n) y an).run P w= .ok n.toNat w:=λk n y an a b=>by simp[Instr.sliceBound,asIntOf,a,b]
 rcases h1 with ⟨rfl,rfl⟩ |⟨k,rfl⟩<;>rcases h2 with ⟨rfl,rfl⟩ |⟨k',rfl⟩
 .simp[Instr.sliceBounds]
 .simp[Instr.sliceBounds,hb k' hh cap _ (by omega) g2]
 .simp[Instr.sliceBounds,hb k l len _ g0 g1]
 .have h3:=λan=>hb k l hh.toNat an g0 (by omega);simp[Instr.sliceBounds,hb k' hh cap _ (by omega) g2,h3]
theorem ac9(hT:eZ P T)(h:Mem P w0 O0 β I obj w){t:TypeId}{x:AV}{lo hi:J AV}{cm:iu}{get:Nat->J aS}{ab:Out}{v:Value}{oE hiv:J Value}(hg:∀k o,get k=some o->obj k=some o)
 (ha:WU T t x lo hi cm get=some ab) (cA:ab.ob) (hx:VR P β w I x v) (hlo:∀x,lo=some x->∃v,oE=some v/\VR P β w I x v) (hlo0:lo=none->oE=none) (hhi:∀x,hi=some x->∃v,hiv=some v/\VR P β w I x v) (hhi0:hi=none->hiv=none):
 ∃u,(Instr.sliceAt t v oE hiv none).run P w= .ok u w/\VR P β w I ab.v u/\ab.upd=[]:=by
 unfold WU at ha;cases hti:T t with
 |none=>simp[hti]at ha
 |some ti=>
  have ht:=hT t ti hti;simp only[hti,af]at ha;split at ha
  .rename_i e hkd;cases eL:T e with
   |none=>simp[eL]at ha
   |some ei=>
    have he:=hT e ei eL;simp only[eL,af]at ha;have ez:=iB ht hkd
    have hrun:∀(a:J Addr) (len cap:Nat) (l hh:Int),bnd 0 lo=some l->bnd len hi=some hh->0<=l->l<=hh->hh<=(cap:Int)->
     (Instr.sliceAt t (.slice a len cap) oE hiv none).run P w= .ok (.slice (if cap=l.toNat then a else a.map (·.add (l.toNat*ei.size))) (hh.toNat -l.toNat) (cap -l.toNat)) w:=by
     intro a len cap l hh b1 b2 b3 b4 b5;have:=Gp (P:=P) (w:=w) (len:=len) (cap:=cap) (y8 b1 hlo hlo0) (y8 b2 hhi hhi0) b3 b4 b5;simp only[Instr.sliceAt,Instr.slice,Sem.run_bind,run_underlying ez,Result.andThen_ok,this,he.size (w:=w),Sem.run_pure]
    cases x<;>try simp only[reduceCtorEq]at ha
    case own k aa len=>
     cases hk:get k with
     |none=>simp[hk]at ha
     |some o=>
      simp only[hk,af]at ha;split at ha
      .rename_i hsz;cases hl:bnd 0 lo with
       |none=>simp[hl]at ha
       |some l=>
        cases hh:bnd len hi with
        |none=>simp[hl,hh]at ha
        |some r=>
         simp only[hl,hh,af,kx,ay]at ha;subst ha;obtain⟨b1,b2,b3⟩:=cA;simp only[VR]at hx ⊢;rcases hx with ⟨h1,rfl,h2,h3⟩ |⟨b,sz,m,cap,a,h1,rfl,h2,h3,h4⟩
         .subst h3;subst h2;have hr:r=0:=(by omega);have hl0:l=0:=(by omega);subst hr;subst hl0;refine⟨_,hrun _ _ _ _ _ hl hh b1 b2 (by omega),.inl ⟨h1,by simp,by simp,by simp⟩,trivial⟩
         .refine⟨_,hrun _ _ _ _ _ hl hh b1 b2 (by omega),.inr ⟨b,sz,m,cap -l.toNat,if cap=l.toNat then a else a+l.toNat*ei.size,h1,?_,by omega,?_,?_⟩,trivial⟩
          .split
           .rfl
           .simp[addr_add]
          .have:aa+l.toNat+(cap -l.toNat)=aa+cap:=(by omega);rw[this];exact h3
          .intro hc;have hcl:¬cap=l.toNat:=(by omega);rw[aW hcl,h4 (by omega)];have⟨B,hB,hO⟩:=h.cD k o (hg k o hk);rw[h1]at hB;cases hB;have hs:sz=o.sz:=hO.1;rw[hs,hsz,Nat.add_mul,Nat.add_assoc]
      .cases ha
    case t x=>
     cases x<;>simp only[reduceCtorEq]at ha
     case sl rows=>
      cases cm<;>simp only[reduceCtorEq]at ha
      case A0 rs=>
       cases hl:bnd 0 lo with
       |none=>simp[hl]at ha
       |some l=>
        cases hh:bnd rows.length hi with
        |none=>simp[hl,hh]at ha
        |some r=>
         simp only[hl,hh,af,kx,ay]at ha;subst ha;obtain⟨b1,b2,b3,hrs,hall⟩:=cA;simp only[VR,TR]at hx ⊢;have hlen:rs.length=r.toNat -l.toNat:=(by rw[hrs];simp only[length_take,length_drop];omega);rcases hx with ⟨rfl,a,cap,rfl,hac⟩ |⟨b,aa,cap,sz,rfl,h1,h2,h3⟩
         .simp only[List.length_nil]at b3;have hr:r=0:=(by omega);have hl0:l=0:=(by omega);subst hr;subst hl0;refine⟨_,hrun _ _ _ _ _ hl hh b1 b2 (by omega),.inl ⟨by rw[hrs];simp,a.map (·.add 0),cap,?_,λh0=>hac (by simpa using h0)⟩,trivial⟩;by_cases hc:cap=0
          .subst hc;cases a<;>simp[Addr.add]
          .simp[hc]
         .refine⟨_,hrun _ _ _ _ _ hl hh b1 b2 (by omega),.inr ⟨b,if cap=l.toNat then aa else aa+l.toNat*ei.size,cap -l.toNat,sz,?_,by omega,h2,?_⟩,trivial⟩
          .rw[hlen];split
           .rfl
           .simp[addr_add]
          .by_cases hc:cap=l.toNat
           .have:rs=[]:=eq_nil_of_length_eq_zero (by omega);rw[this];simp[ci]
           .rw[aW hc,hrs];have hd:∀(n:Nat) (rows:U (List Tree)) (aa:Nat),ci w I rows b aa sz->ci w I (rows.drop n) b (aa+n*sz) sz:=by
             intro n
             induction n with
             |zero=>intro rows aa h;simpa using h
             |succ n ih=>
              intro rows aa h;cases rows with
              |nil=>simp[ci]
              |cons r rs=>
               simp only[ci]at h;rw[List.drop_succ_cons,show aa+(n+1)*sz=aa+sz+n*sz by rw[Nat.add_mul];omega];exact ih rs _ h.2.2
            have htk:∀(n:Nat) (rows:U (List Tree)) (aa:Nat),ci w I rows b aa sz->ci w I (rows.take n) b aa sz:=by
             intro n
             induction n with
             |zero=>intro rows aa h;simp[ci]
             |succ n ih=>
              intro rows aa h;cases rows with
              |nil=>simp[ci]
              |cons r rs=>
               simp only[ci]at h;simp only[List.take_succ_cons,ci];exact⟨h.1,h.2.1,ih rs _ h.2.2⟩
            by_cases hne:rows=[]
            .subst hne;simp[ci]
            .obtain⟨r0,ag,rfl⟩:=List.exists_cons_of_ne_nil hne;have hsz:ei.size=sz:=by
              have e1:=hall r0 (by simp);simp only[ci]at h3;omega
             rw[hsz];exact htk _ _ _ (hd _ _ _ h3)
  .cases ha
end
section
variable {P:Program} {T:dC} {w0:World} {O0:i9} {β:Nat->Option cE} {I:Nat->Prop} {obj:Nat->Option aS} {w:World} {i:Nat}
theorem Mem.pg{i:Nat}{o:aS}(h:Mem P w0 O0 β I obj w)(hn:β i=none)(ho:o.rows=[]):
 Step β I w i (ins β i .none) I w/\Mem P w0 O0 (ins β i .none) I (bU obj [(i,some o)]) w:=by
 have hS:Step β I w i (ins β i .none) I w:=⟨λ j hj=>by simp[ins,ie.ne hj],nS hn,λ_ _=>rfl,λ_ h=>h⟩;refine⟨hS,?_⟩;constructor
 .intro k o' hk;simp only[bU]at hk;split at hk
  .cases hk;rename_i hki;exact⟨.none,by simp[ins,hki],ho⟩
  .have⟨B,hB,hO⟩:=h.cD k o' hk;exact⟨B,nS hn _ _ hB,OR.mono hS.ext hS.same hS.inc (λ _ _=>rfl) hO⟩
 .intro k k' o1 o2 B1 B2 b h1 h2 h3 h4 h5 h6;simp only[bU]at h1 h2;simp only[ins]at h3 h4;split at h3
  .cases h3;cases h5
  .split at h4
   .cases h4;cases h6
   .rename_i a b;rw[aW a]at h1;rw[aW b]at h2;exact h.gd k k' o1 o2 B1 B2 _ h1 h2 h3 h4 h5 h6
 .intro k o' B b h1 h2 h3;simp only[bU]at h1;simp only[ins]at h2;split at h2
  .cases h2;cases h3
  .rename_i a;rw[aW a]at h1;exact h.ownB k o' B b h1 h2 h3
 .exact h.lt
 .exact h.up
 .exact h.keep
 .exact h.le
 .exact h.os
 .exact h.tape
 .exact h.output
 .intro j C hj;exact nS hn _ _ (h.anch j C hj)
 .exact h.vars
theorem qd:∀(rows:U (List AV))(c:Array Value)(aa sz:Nat)(l:U Value),(∀ r∈rows,r.length=sz)->bj P β w I rows.flatten l->(∀ u∈l,oneCell u)->(∀ j u,l[j]? =some u->c[aa+j]? =some u)->bo P β w I rows c aa sz
 |[],_,_,_,_,_,_,_,_=>by simp[bo]
 |r::rs,c,aa,sz,l,hr,hl,h1,hc=>by
  have hrl:=hr r (by simp);simp only[flatten_cons]at hl;have ht:=bj.take sz _ _ hl;have hd:=bj.drop sz _ _ hl;rw[List.take_append_of_le_length (by omega),take_of_length_le (by omega)]at ht;rw[List.drop_append_of_le_length (by omega),List.drop_of_length_le (by omega),bI]at hd;simp only[bo];refine⟨hrl,cQ.nr r _ c aa ht (λ u hu=>h1 u (List.mem_of_mem_take hu)) (λ j u hj=>?_),qd rs c (aa+sz) sz _ (λ r' hr'=>hr r' (by simp[hr'])) hd (λ u hu=>h1 u (List.mem_of_mem_drop hu)) (λ j u hj=>?_)⟩
  all_goals grind
theorem bo.list:∀(rows:U (List AV))(c:Array Value)(aa sz:Nat),bo P β w I rows c aa sz->∃l:U Value,bj P β w I rows.flatten l/\(∀ u∈l,oneCell u)/\l.length=rows.length*sz/\(∀ r∈rows,r.length=sz)/\∀j u,l[j]? =some u->c[aa+j]? =some u
 |[],_,_,_,_=>⟨[],by simp[bj],by simp,by simp,by simp,by simp⟩
 |r::rs,c,aa,sz,⟨h1,h2,h3⟩=>by
  have⟨l1,a1,a2,a3⟩:=cQ.list r c aa h2;have⟨l2,b1,b2,b3,b4,b5⟩:=bo.list rs c (aa+sz) sz h3;have hl1:l1.length=sz:=by rw[bj.length _ _ a1,h1]
  refine⟨l1++l2,by simp only[flatten_cons];exact bj.append _ _ _ _ a1 b1,λu hu=>?_,?_,λr' hr'=>?_,λj u hj=>?_⟩
  all_goals grind
theorem ci.list{b sz:Nat}:∀(rows:U (List Tree))(aa:Nat),ci w I rows b aa sz->∃l:U Value,bj P β w I (aL rows).flatten l/\(∀ u∈l,oneCell u)/\l.length=rows.length*sz/\(∀ r∈aL rows,r.length=sz)/\∀j u,l[j]? =some u->w.cell? ⟨b,aa+j,none⟩=some u
 |[],_,_=>⟨[],by simp[aL,bj],by simp,by simp,by simp[aL],by simp⟩
 |r::rs,aa,h=>by
  simp only[ci]at h;obtain⟨h1,h2,h3⟩:=h;have⟨l1,a1,a3⟩:=df.list (P:=P) (β:=β) r b aa h2;have⟨l2,b1,b2,b3,b4,b5⟩:=ci.list rs (aa+sz) h3;have hl1:l1.length=sz:=by rw[bj.length _ _ a1];simpa using h1
  have a2:∀u∈l1,oneCell u:=by
   intro u hu;obtain⟨j,hj⟩:=List.getElem?_of_mem hu;have hjl:j<(r.map AV.t).length:=(by have:=(dh.1 hj).1;rw[bj.length _ _ a1]at this;exact this);obtain⟨u',hu',hv⟩:=bj.get _ _ j _ a1 (bX hjl);rw[hj]at hu';injection hu' with hu';subst hu';refine VR.one ?_ hv;simp[qc]
  refine⟨l1++l2,by simp only[aL,aF,flatten_cons];exact bj.append _ _ _ _ a1 b1,λu hu=>?_,?_,λr' hr'=>?_,λj u hj=>?_⟩
  .rcases bg.1 hu with hu |hu
   .exact a2 u hu
   .exact b2 u hu
  .simp only[dM,bn,hl1,b3,Nat.add_mul];omega
  .simp only[aL,aF,aO]at hr';rcases hr' with rfl |hr'
   .simpa using h1
   .exact b4 r' hr'
  .by_cases hjs:j<sz
   all_goals grind
def XS(P:Program)(β:Nat->J cE)(w:World)(I:Nat->Prop)(size n:Nat)(ao:U (List AV))(v:Value):Prop:=
 (n=0/\∃b c,v= .slice b 0 c)\/∃(a:Addr)(c:Nat)(l:U Value),v= .slice (some a) n c/\0<n/\bj P β w I ao.flatten l/\(∀ u∈l,oneCell u)/\l.length=n*size/\(∀ r∈ao,r.length=size)/\∀j u,l[j]? =some u->w.cell? (a.add j)=some u
theorem abT(h:Mem P w0 O0 β I obj w){size n:Nat}{ob:Prop}{ao:U (List AV)}{y:AV}{get:Nat->J aS}{v:Value}(hg:∀k o,get k=some o->obj k=some o)
 (hs:WV size y get=some (n,ob,ao)) (cA:ob) (hl:ao.length=n) (hy:VR P β w I y v):XS P β w I size n ao v:=by
 unfold WV at hs;split at hs
 .rename_i k aa len;cases hk:get k with
  |none=>simp[hk]at hs
  |some o=>
   simp only[hk,af]at hs;split at hs
   .rename_i hsz;simp only[ay,Prod.mk.injEq]at hs;obtain⟨rfl,_,rfl⟩:=hs;simp only[VR]at hy;rcases hy with ⟨_,rfl,_,rfl⟩ |⟨b,sz,m,cap,a,h1,rfl,h2,h3,h4⟩
    .exact .inl ⟨rfl,_,_,rfl⟩
    .by_cases h0:len=0
     .subst h0;exact .inl ⟨rfl,_,_,rfl⟩
     .have⟨B,hB,hO⟩:=h.cD k o (hg k o hk);rw[h1]at hB;cases hB;obtain⟨hs,c,e,hc,_,hO⟩:=hO;have h5:=bo.take len _ _ _ _ (bo.drop aa _ _ _ _ hO);obtain⟨l,g1,g2,g3,g4,g5⟩:=bo.list _ _ _ _ h5;refine .inr ⟨_,cap,l,rfl,by omega,g1,g2,?_,λr hr=>?_,λj u hj=>?_⟩
      .rw[g3,hl,hs,hsz]
      .rw[g4 r hr,hs,hsz]
      .rw[addr_add,h4 (by omega)];simp[World.cell?,hc,g5 j u hj]
   .cases hs
 .rename_i rows;simp only[ay,Prod.mk.injEq]at hs;obtain⟨rfl,rfl,rfl⟩:=hs;simp only[VR,TR]at hy;rcases hy with ⟨rfl,_,_,rfl,_⟩ |⟨b,aa,cap,sz,rfl,h1,h2,h3⟩
  .exact .inl ⟨rfl,_,_,rfl⟩
  .cases rows with
   |nil=>exact .inl ⟨rfl,_,_,rfl⟩
   |cons r rs=>
    obtain⟨l,g1,g2,g3,g4,g5⟩:=ci.list (P:=P) (β:=β) _ _ h3;have hsz:sz=size:=by
     have e1:=cA r (by simp);simp only[ci]at h3;omega
    subst hsz;exact .inr ⟨_,cap,l,rfl,by simp,g1,g2,g3,g4,λj u hj=>by rw[addr_add];exact g5 j u hj⟩
 .cases hs
theorem oneCell'{u:Value}(h:oneCell u):u.oneCell'=true:=by cases u<;>first |rfl |exact h.elim
theorem Mem.grow(h:Mem P w0 O0 β I obj w)(hn:β i=none){size:Nat}{rows:U (List AV)}{l:U Value}{e:TypeId}{ag:Array Value}(hr:∀r∈rows,r.length=size)(hl:bj P β w I rows.flatten l)(h1:∀u∈l,oneCell u):
 Step β I w i (ins β i (.at w.heap.size size (vy (l.toArray++ag).size))) I (w.drew.alloc (.cells (l.toArray++ag) e))/\
 Mem P w0 O0 (ins β i (.at w.heap.size size (vy (l.toArray++ag).size))) I (bU obj [(i,some ⟨size,rows⟩)]) (w.drew.alloc (.cells (l.toArray++ag) e)):=by
 have hd:=h.drew;obtain⟨hS,hM⟩:=Mem.alloc (i:=i) (o:=⟨size,rows⟩) (c:=l.toArray++ag) (e:=e) hd hn (qd rows _ 0 size l hr (bj.mono (w:=w) (w':=w.drew) (λ _ _ h=>h) (λ _ _=>rfl) (λ _ h=>h) _ _ hl) h1 (λ j u hj=>by
  have hlt:=(dh.1 hj).1;rw[Nat.zero_add,Array.getElem?_append_left (by simpa using hlt)];simpa using hj))
 exact⟨⟨hS.other,hS.ext,λb hb=>hS.same b hb,hS.inc⟩,hM⟩
theorem Gq(hT:eZ P T)(h:Mem P w0 O0 β I obj w)(hn:β i=none){t e ty:TypeId}{ei:m4}(ez:P.underlying t=some (.slice e))(eL:T e=some ei){n:Nat}{ao:U (List AV)}{v:Value}
 (hsrc:XS P β w I ei.size n ao v) (hl:ao.length=n) (h48:n*ei.bytes<=140737488355328) (h63:n<=maxLen):
 ∃u w' β',(Builtin.append_ #[t,t] ty #[.slice none 0 0,v]).run P w= .ok u w'/\Step β I w i β' I w'/\Mem P w0 O0 β' I (bU obj [(i,some ⟨ei.size,ao⟩)]) w'/\VR P β' w' I (.own i 0 n) u:=by
 have he:=hT e ei eL;obtain⟨info,d,z,g1,g2,g3,g4,g5,g6,g7,g8⟩:=he.ex;rcases hsrc with ⟨rfl,b,c,rfl⟩ |⟨a,c,l,rfl,hpos,q1,q2,q3,q4,q5⟩
 .have hnew:ao=[]:=eq_nil_of_length_eq_zero hl;subst hnew;have⟨hS,hM⟩:=Mem.pg (i:=i) (o:=⟨ei.size,[]⟩) h hn rfl;refine⟨.slice none 0 0,w,_,?_,hS,hM,by simp only[VR];exact .inl ⟨by simp[ins],trivial,trivial,trivial⟩⟩;cases b<;>simp[Builtin.append_,run_underlying ez,sizeOf,typeInfo,g1,Builtin.lenOf,Builtin.firstCells,loadCells,loadCellsFrom]
 .have hm:n<=9223372036854775807:=by simp only[maxLen]at h63;omega
  have hrun:=run_append_nil (P:=P) w t ty e info z ez g1 g5 a n c l (by rw[q3,g3]) q5 hpos (by omega) (by rw[g4];omega);have⟨hS,hM⟩:=Mem.grow (i:=i) (e:=e) (ag:=Builtin.zeroCells z.cells (grownCap w n 0 e -n)) h hn q4 q1 q2;refine⟨_,_,_,hrun,hS,hM,?_⟩;simp only[VR];refine .inr ⟨w.heap.size,ei.size,_,_,0,by simp[ins];rfl,rfl,grownCap_ge w n 0 e,?_,by simp⟩;have hz:z.cells.size=ei.size:=by rw[<- Array.length_toList,g6];exact he.len
  have hge:=grownCap_ge w n 0 e;simp only[size_zeroCells,PA,Pu,q3,hz,Nat.zero_add,<- Nat.add_mul];exact Nat.mul_le_mul_right _ (by omega)
theorem UE(hT:eZ P T)(h:Mem P w0 O0 β I obj w)(hn:β i=none){t e ty:TypeId}{ei:m4}(ez:P.underlying t=some (.slice e))(eL:T e=some ei){n k aa len:Nat}{o:aS}{ao:U (List AV)}{u v:Value}
 (hk:obj k=some o) (hsz:o.sz=ei.size) (hlen:(o.rows.drop aa).length=len) (hx:VR P β w I (.own k aa len) u)
 (hsrc:XS P β w I ei.size n ao v) (hl:ao.length=n) (h48:(len+n)*ei.bytes<=140737488355328) (h63:len+n<=maxLen):
 ∃z w' β',(Builtin.append_ #[t,t] ty #[u,v]).run P w= .ok z w'/\Step β I w i β' I w'/\Mem P w0 O0 β' I (bU obj [(i,some ⟨ei.size,o.rows.drop aa++ao⟩),(k,none)]) w'/\VR P β' w' I (.own i 0 (len+n)) z:=by
 have he:=hT e ei eL;obtain⟨info,d,z,g1,g2,g3,g4,g5,g6,g7,g8⟩:=he.ex;have hki:k≠i:=λe=>by
  have⟨B,hB,_⟩:=h.cD k o hk;rw[e,hn]at hB;cases hB
 have z7:∀{β':Nat->J cE} {I':Nat->Prop} {w':World} {o':aS},Mem P w0 O0 β' I' (bU obj [(i,some o')]) w'->Mem P w0 O0 β' I' (bU obj [(i,some o'),(k,none)]) w':=by
  intro β' I' w' o' hM;refine hM.drop _ λj oj hj=>?_;simp only[bU]at hj ⊢;split
  .rw[aT ‹_›]at hj;exact hj
  .rw[aW ‹_›]at hj;split at hj
   .cases hj
   .exact hj
 simp only[VR]at hx;rcases hx with ⟨hβ,rfl,_,rfl⟩ |⟨b,sz,m,cap,a,hβ,rfl,h2,h3,h4⟩
 .have hr:o.rows.drop aa=[]:=eq_nil_of_length_eq_zero hlen;rw[hr,bI,Nat.zero_add];obtain⟨z',w',β',e1,e2,e3,e4⟩:=Gq (ty:=ty) hT h hn ez eL hsrc hl (by simpa using h48) (by simpa using h63);exact⟨z',w',β',e1,e2,z7 e3,e4⟩
 .have⟨B,hB,hO⟩:=h.cD k o hk;rw[hβ]at hB;cases hB;obtain⟨hs,c,ce,hc,hcn,hO⟩:=hO;have hle:m.s+aa*sz<=m.m:=Nat.le_trans (Nat.add_le_add_left (Nat.mul_le_mul_right _ (Nat.le_add_right _ _)) _) h3;rw[Nat.add_mul]at h3;have hO:=bo.drop aa _ _ _ _ hO;obtain⟨hS0,hM0⟩:=Mem.xj (C:= .at b sz ⟨m.m,m.s+aa*sz,hle⟩) (o1:=⟨ei.size,o.rows.drop aa⟩) h hn hk hβ rfl ⟨by rw[hs,hsz],c,ce,hc,hcn,hO⟩;generalize hp:m.s+aa*sz=p at hO hle hS0 hM0 h4;rcases hsrc with ⟨rfl,b',c',rfl⟩ |⟨a',c',l,rfl,hpos,q1,q2,q3,q4,q5⟩
  .have hnew:ao=[]:=eq_nil_of_length_eq_zero hl;subst hnew;rw[List.append_nil,Nat.add_zero];refine⟨.slice (some ⟨b,a,none⟩) len cap,w,_,?_,hS0,hM0,?_⟩
   .cases b'<;>simp[Builtin.append_,run_underlying ez,sizeOf,typeInfo,g1,Builtin.lenOf,Builtin.firstCells,loadCells,loadCellsFrom,h2,storeCells]
   .simp only[VR];exact .inr ⟨b,sz,⟨m.m,p,hle⟩,cap,a,by simp[ins],rfl,h2,by simp only[Nat.zero_add];omega,λh=>by simp[h4 h]⟩
  .obtain⟨ol,o1,o2,o3,o4,o5⟩:=bo.list _ _ _ _ hO;have hrl:∀r∈o.rows.drop aa++ao,r.length=ei.size:=λr hr=>by
    rcases bg.1 hr with hr |hr
    .rw[o4 r hr,hs,hsz]
    .exact q4 r hr
   have hol:ol.length=len*info.size:=(by rw[o3,hlen,hs,hsz,g3]);by_cases hroom:len+n<=cap
   .
    have ha:a=p:=h4 (by omega);subst ha;have hcsz:a+cap*info.size<=c.size:=(by rw[g3,<- hsz,<- hs,hcn];omega);have hfit:a+len*info.size+l.length<=c.size:=by
     have:(len+n)*info.size<=cap*info.size:=Nat.mul_le_mul_right _ hroom;rw[Nat.add_mul]at this;rw[q3,<- g3];omega
    have hf:=run_firstCells_some (P:=P) w info.size n a' n c' l (by rw[q3,g3]) q5;have hst:=run_storeCells_at P b (a+len*info.size) ce l 0 c w hc (by omega) (λ u hu=>oneCell' (q2 u hu));simp only[Nat.add_zero]at hst;generalize hc':(List.take (a+len*info.size) c.toList++l++List.drop (a+len*info.size+l.length) c.toList).toArray=cc at hst;have Th:cc.size=c.size:=(by rw[<- hc'];simp[length_take,length_drop];omega);have hrun:(Builtin.append_ #[t,t] ty #[.slice (some ⟨b,a,none⟩) len cap,.slice (some a') n c']).run P w= .ok (.slice (some ⟨b,a,none⟩) (len+n) cap) (w.setRow b cc):=by
     have hf':(Builtin.firstCells info.size n (.slice (some a') n c')).run P w= .ok l.toArray w:=hf;simp[Builtin.append_,run_underlying ez,sizeOf,typeInfo,g1,Builtin.lenOf,hroom,hf',addr_add,hst]
    have hcells:∀j u,(ol++l)[j]? =some u->cc[a+j]? =some u:=by
     intro j u hj;rw[<- hc',List.getElem?_toArray];have h1:(c.toList.take (a+len*info.size)).length=a+len*info.size:=(by simp[length_take];omega);by_cases hjl:j<ol.length
     .rw[List.getElem?_append_left hjl]at hj;have:=o5 j u hj;rw[aM,List.getElem?_append_left (by omega),List.getElem?_take,aT (by omega),Array.getElem?_toList];exact this
     .rw[lM (by omega)]at hj;have hjl2:=(dh.1 hj).1;rw[aM,lM (by omega),h1,List.getElem?_append_left (by omega),show a+j -(a+len*info.size)=j -ol.length by omega];exact hj
    obtain⟨vm,hM⟩:=Mem.write (o':=⟨ei.size,o.rows.drop aa++ao⟩) hM0 (k:=i) (o:=⟨ei.size,o.rows.drop aa⟩) (b:=b) (s:=sz) (n:=⟨m.m,a,hle⟩) (by simp only[bU,if_true]) (by simp only[ins,if_true]) (c':=cc) (e:=ce) (setRow_heap w b c cc ce (0,0) hc) (λ b' hb=>setRow_other w b b' cc hb) (by simp) rfl rfl rfl (by rw[hs,hsz]) (by simp;omega)
     (qd _ _ _ ei.size (ol++l) hrl (bj.mono hS0.ext (λ _ _=>rfl) (λ _ h=>h) _ _ (by simp only[List.flatten_append];exact bj.append _ _ _ _ o1 q1)) (λ u hu=>by
      rcases bg.1 hu with hu |hu
      .exact o2 u hu
      .exact q2 u hu) hcells)
    refine⟨_,_,_,hrun,⟨hS0.other,hS0.ext,vm,λ_ h=>h⟩,hM.drop _ (λ j oj hj=>?_),?_⟩
    .simp only[bU]at hj ⊢;split at hj
     .rw[aT ‹_›];exact hj
     .rw[aW ‹_›,aW ‹_›];exact hj
    .simp only[VR];exact .inr ⟨b,sz,⟨m.m,a,hle⟩,cap,a,by simp[ins],rfl,hroom,by simp only[Nat.zero_add];omega,by simp⟩
   .have holds:∀j v,ol[j]? =some v->w.cell? ((⟨b,a,none⟩:Addr).add j)=some v:=by
     intro j v hj;have hjl:=(dh.1 hj).1;have zg:len≠0:=λh0=>(by rw[hol,h0]at hjl;simp at hjl);rw[addr_add,h4 (by omega)];have:=o5 j v hj;simp[World.cell?,hc]at this ⊢;exact this
    have hm:len+n<=9223372036854775807:=(by simp only[maxLen]at h63;omega);have hrun:=run_append_grow (P:=P) w t ty e info z ez g1 g5 ⟨b,a,none⟩ len cap ol hol holds a' n c' l (by rw[q3,g3]) q5 (by omega) (by omega) (growslice_fits (by omega) (by rw[g4];exact h48));have happ:bj P β w I (o.rows.drop aa++ao).flatten (ol++l):=(by simp only[List.flatten_append];exact bj.append _ _ _ _ o1 q1);obtain⟨hS,hM⟩:=Mem.grow (i:=i) (e:=e) (ag:=Builtin.zeroCells z.cells (grownCap w (len+n) cap e -(len+n))) h hn hrl happ (λ u hu=>by
     rcases bg.1 hu with hu |hu
     .exact o2 u hu
     .exact q2 u hu)
    have V1:ol.toArray++l.toArray++Builtin.zeroCells z.cells (grownCap w (len+n) cap e -(len+n))=(ol++l).toArray++Builtin.zeroCells z.cells (grownCap w (len+n) cap e -(len+n)):=(by simp);rw[V1]at hrun;refine⟨_,_,_,hrun,hS,z7 hM,?_⟩;simp only[VR];refine .inr ⟨w.heap.size,ei.size,_,_,0,by simp[ins];rfl,rfl,grownCap_ge w (len+n) cap e,?_,by simp⟩;have hz:z.cells.size=ei.size:=(by rw[<- Array.length_toList,g6];exact he.len);have hge:=grownCap_ge w (len+n) cap e;simp only[size_zeroCells,PA,Pu,q3,hol,hz,g3,Nat.zero_add,<- Nat.add_mul];exact Nat.mul_le_mul_right _ (by omega)
end
section
variable {P:Program} {T:dC} {w0:World} {O0:i9} {β:Nat->Option cE} {I:Nat->Prop} {obj:Nat->Option aS} {w:World} {i:Nat}
theorem aaE(hT:eZ P T)(h:Mem P w0 O0 β I obj w)(hn:β (cx i)=none){t ty:TypeId}{x y:AV}{cm:iu}{get:Nat->J aS}{ab:Out}{u v:Value}(hg:∀k o,get k=some o->obj k=some o)
 (ha:Bc T i t x y cm get=some ab) (cA:ab.ob) (hx:VR P β w I x u) (hy:VR P β w I y v):
 ∃z w' β',(Builtin.append_ #[t,t] ty #[u,v]).run P w= .ok z w'/\Step β I w (cx i) β' I w'/\Mem P w0 O0 β' I (bU obj ab.upd) w'/\VR P β' w' I ab.v z:=by
 unfold Bc at ha;cases hti:T t with
 |none=>simp[hti]at ha
 |some ti=>
  have ht:=hT t ti hti;simp only[hti,af]at ha;split at ha
  .rename_i e hkd;cases eL:T e with
   |none=>simp[eL]at ha
   |some ei=>
    simp only[eL,af]at ha;have ez:=iB ht hkd;split at ha
    .rename_i rs;cases hs:WV ei.size y get with
     |none=>simp[hs]at ha
     |some p=>
      obtain⟨n,ob,ao⟩:=p;simp only[hs,af]at ha;split at ha
      .rename_i k aa len;cases hk:get k with
       |none=>simp[hk]at ha
       |some o=>
        simp only[hk,af]at ha;split at ha
        .rename_i hsz;cases ha;obtain⟨b1,b2,b3,rfl,b5,b6⟩:=cA;have e:(o.rows.drop aa++ao).length=len+n:=(by rw[dM,b2,b3]);simp only[e];exact UE hT h hn ez eL (hg k o hk) hsz b2 hx (abT h hg hs b1 b3 hy) b3 b5 b6
        .cases ha
      .cases ha;obtain⟨b1,b2,rfl,b5,b6⟩:=cA;simp only[VR]at hx;subst hx;simp only[b2];exact Gq hT h hn ez eL (abT h hg hs b1 b2 hy) b2 b5 b6
      .cases ha
    .cases ha
  .cases ha
theorem bj.map{ρ:Operand->AV}{r:Operand->Value}(hρ:∀x,VR P β w I (ρ x) (r x)):∀(l:U Operand),bj P β w I (l.map ρ) (l.map r)
 |[]=>by simp[bj]
 |x::xs=>by simp only[aF,bj];exact⟨hρ x,bj.map hρ xs⟩
theorem WZ(hT:eZ P T)(h:Mem P w0 O0 β I obj w)(hn:β (cx i)=none){b:Builtin}{args:U AV}{cX:Array TypeId}{cm:iu}{get:Nat->J aS}{ab:Out}(hg:∀k o,get k=some o->obj k=some o)
 {vs:Array Value} {ty:TypeId} {am:Array Operand} (ha:Dw T i b args cX.toList cm get=some ab) (cA:ab.ob) (hv:bj P β w I args vs.toList) {r:Operand->Value} (hops:vs=am.map r) {dst:J Tmp} {aq:String} {after:Array Edge} {guard:J (Nat×Bool)}:
 q7 P w0 O0 β I obj w i ab ((execOp r ⟨dst,.call { callee:= .builtin b,args:=am,argTypes:=cX },ty,aq,after,guard⟩).run P w):=by
 unfold Dw at ha;split at ha
 .rename_i x t qu;obtain⟨v,hvs⟩:∃v,vs=#[v]:=by
   obtain⟨l⟩:=vs
   match l,hv with
   |[v],_=>exact⟨v,rfl⟩
   |[],h=>simp[bj]at h
   |_::_::_,h=>simp[bj]at h
  have ht:cX=#[t]:=by cases cX;simpa using qu
  subst hvs ht;simp only[bj]at hv;have⟨u,h1,h2,h3⟩:=ahA (ty:=ty) hT ha cA hv.1;refine⟨u,w,β,I,.inl ?_,Step.refl ..,by rw[h3];exact h,h2⟩;simp[execOp,resolve,invoke,builtin,<- hops,h1]
 .have⟨u,h1,h2,h3⟩:=abR (cX:=cX) (ty:=ty) ha hv;simp only[if_true]at h1;refine⟨u,w,β,I,.inl ?_,Step.refl ..,by rw[h3];exact h,h2⟩;simp[execOp,resolve,invoke,builtin,<- hops,h1]
 .have⟨u,h1,h2,h3⟩:=abR (cX:=cX) (ty:=ty) ha hv;simp only[Bool.false_eq_true,if_false]at h1;refine⟨u,w,β,I,.inl ?_,Step.refl ..,by rw[h3];exact h,h2⟩;simp[execOp,resolve,invoke,builtin,<- hops,h1]
 .rename_i x y t u qu;split at ha
  .rename_i htu;subst htu;obtain⟨v,v',hvs⟩:∃v v',vs=#[v,v']:=by
    obtain⟨l⟩:=vs
    match l,hv with
    |[v,v'],_=>exact⟨v,v',rfl⟩
    |[],h=>simp[bj]at h
    |[_],h=>simp[bj]at h
    |_::_::_::_,h=>simp[bj]at h
   have ht:cX=#[t,t]:=(by cases cX;simpa using qu);subst hvs ht;simp only[bj]at hv;have⟨z,w',β',h1,h2,h3,h4⟩:=aaE (ty:=ty) hT h hn hg ha cA hv.1 hv.2.1;refine⟨z,w',β',I,.inl ?_,h2,h3,h4⟩;simp[execOp,resolve,invoke,builtin,<- hops,h1]
  .cases ha
 .cases ha
theorem Tw(hT:eZ P T)(h:Mem P w0 O0 β I obj w)(hn:β (cx i)=none){o:Oper}{cm:iu}{ρ:Operand->AV}{get:Nat->J aS}{ab:Out}(hg:∀k o,get k=some o->obj k=some o)
 {r:Operand->Value} (hρ:∀x,VR P β w I (ρ x) (r x)) (ha:qZ T i o cm ρ get=some ab) (cA:ab.ob):q7 P w0 O0 β I obj w i ab ((execOp r o).run P w):=by
 obtain⟨dst,op,ty,aq,after,guard⟩:=o;have val:∀{s:Sem Value}{z:Value},s.run P w= .ok z w->ab.upd=[]->VR P β w I ab.v z->q7 P w0 O0 β I obj w i ab ((do pure (.value (<- s)):Sem Next).run P w):=by
  intro s z h1 h2 h3;refine⟨z,w,β,I,.inl (by simp[h1]),Step.refl ..,by rw[h2];exact h,h3⟩
 have val':∀{s:Sem Value} {z:Value} {w':World} {β':Nat->J cE},s.run P w= .ok z w'->Step β I w (cx i) β' I w'->Mem P w0 O0 β' I (bU obj ab.upd) w'->VR P β' w' I ab.v z->q7 P w0 O0 β I obj w i ab ((do pure (.value (<- s)):Sem Next).run P w):=by
  intro s z w' β' h1 h2 h3 h4;exact⟨z,w',β',I,.inl (by simp[h1]),h2,h3,h4⟩
 unfold qZ at ha;split at ha
 .rename_i x heq;simp only at heq;subst heq;simp only[pv,ay]at ha;subst ha;exact q7.pure h (hρ x)
 .rename_i x heq;simp only at heq;subst heq;simp only[pv,ay]at ha;subst ha;exact q7.pure h (hρ x)
 .rename_i c a b heq;simp only at heq;subst heq;split at ha
  .rename_i t hc;simp only[pv,ay]at ha;subst ha;have h1:=hρ c;rw[hc]at h1;simp only[VR,TR]at h1;refine⟨if t then r a else r b,w,β,I,.inl ?_,Step.refl ..,h,?_⟩
   .simp only[execOp,h1.1,asBool];simp
   .rw[WW];cases t
    .exact hρ b
    .exact hρ a
  .cases ha
 .rename_i e heq;simp only at heq;subst heq;have⟨u,w',β',h1,h2,h3,h4⟩:=ac4 hT h hn ha;exact val' h1 h2 h3 h4
 .rename_i e x heq;simp only at heq;subst heq;have⟨u,w',β',h1,h2,h3,h4⟩:=ahy (e:=e) h hn ha (hρ x);exact val' h1 h2 h3 h4
 .rename_i t parts heq;simp only at heq;subst heq;obtain⟨z,h1,h2,h3⟩:=ac8 (w:=w) (P:=P) (β:=β) (I:=I) (vs:=parts.map λ(i,x)=>(i,r x)) hT ha (by simp) (by
   simp only[Array.toList_map,map_map];have hm:=bj.map (λ x=>hρ x) (parts.toList.map (·.2));simp only[map_map]at hm;exact hm)
  exact val h1 h3 h2
 .rename_i t len parts heq;simp only at heq;subst heq;obtain⟨z,w',β',h1,h2,h3,h4⟩:=NY (vs:=parts.map λ(i,x)=>(i,r x)) hT h hn ha (by simp) (by
   simp only[Array.toList_map,map_map];have hm:=bj.map (λ x=>hρ x) (parts.toList.map (·.2));simp only[map_map]at hm;exact hm)
  exact val' h1 h2 h3 h4
 .rename_i t a heq;simp only at heq;subst heq;have⟨u,h1,h2,h3⟩:=Tv hT h hg ha cA (hρ a);exact val h1 h3 h2
 .rename_i t a x heq;simp only at heq;subst heq;have⟨w',h1,h2,h3,h4⟩:=ac3 hT h hg ha cA (hρ a) (hρ x);exact⟨undef,w',β,I,.inr ⟨by simp[execOp,h1],rfl⟩,⟨λ _ _=>rfl,λ_ _ h=>h,h2,λ_ h=>h⟩,h3,by rw[h4];simp[VR]⟩
 .rename_i op t x y yt heq;simp only at heq;subst heq;have⟨z,h1,h2,h3⟩:=ahz (xo:=x) (yo:=y) hT ha cA (hρ x) (hρ y);exact val h1 h3 h2
 .rename_i op t x heq;simp only at heq;subst heq;have⟨z,h1,h2,h3⟩:=aky ha (hρ x);exact val h1 h3 h2
 .rename_i f first caps heq
  simp only at heq;subst heq;simp only[pv,ay]at ha;subst ha;refine⟨.func (.func f) (first.map r) (caps.map r),w,β,I,.inl ?_,Step.refl ..,h,?_⟩
  .simp[execOp,Instr.makeFunc]
  .simp only[VR];exact⟨_,_,rfl,by rw[Array.toList_map];exact bj.map hρ _,by rw[Array.toList_map];exact bj.map hρ _⟩
 .rename_i t x lo hi heq;simp only at heq;subst heq
  obtain⟨u,h1,h2,h3⟩:=ac9 (oE:=lo.map r) (hiv:=hi.map r) hT h hg ha cA (hρ x)
   (λ y hy=>by
    cases lo with
    |none=>simp at hy
    |some z=>simp at hy;subst hy;exact⟨r z,rfl,hρ z⟩) (λ hy=>by cases lo<;>simp at hy ⊢)
   (λ y hy=>by
    cases hi with
    |none=>simp at hy
    |some z=>simp at hy;subst hy;exact⟨r z,rfl,hρ z⟩) (λ hy=>by cases hi<;>simp at hy ⊢)
  exact val h1 h3 h2
 .rename_i t x f heq;simp only at heq;subst heq;have⟨u,h1,h2,h3⟩:=QM hT ha (hρ x);exact val h1 h3 h2
 .rename_i t x f heq;simp only at heq;subst heq;have⟨u,h1,h2,h3⟩:=ac5 hT ha (hρ x);exact val h1 h3 h2
 .rename_i t x j heq;simp only at heq;subst heq;have⟨u,h1,h2,h3⟩:=QN hT h hg ha cA (hρ x) (hρ j);exact val h1 h3 h2
 .rename_i x j heq;simp only at heq;subst heq;have⟨u,h1,h2,h3⟩:=WX ha (hρ x);exact val h1 h3 h2
 .rename_i b args cX heq;simp only at heq;subst heq;exact WZ (ty:=ty) hT h hn hg (vs:=args.map r) ha cA (by rw[Array.toList_map];exact bj.map hρ _) rfl
 .cases ha
end
def Tree.flat:Tree->Prop
 | .sc _=>True
 | .sl _=>False
def TV.flat:TV->Prop
 | .s x=>x.flat
 | .a cs=>∀x∈cs,x.flat
def RC.flat:RC->Prop
 | .d x=>x.flat
 | .fresh _ rows=>∀r∈rows,∀x∈r,x.flat
 | .whole _ _=>True
def RV.flat:RV->Prop
 | .one c=>c.flat
 | .eC cs=>∀c∈cs,c.flat
def K9(i:Nat)(ae:U Nat):RC->AV×List (Nat×Option aS)
 | .whole j len=>(match ae[j]? with |some k=> .own k 0 len |none=> .undef,[])
 | .d x=>(x.av,[])
 | .fresh sz rows=>(.own (cx i) 0 (aL rows).length,[(cx i,some ⟨sz,aL rows⟩)])
def NZ(i:Nat)(ae:U Nat):U RC->J (List AV×List (Nat×Option aS))
 |[]=>some ([],[])
 |c::cs=>(NZ i ae cs).bind λp=>if (K9 i ae c).2.isEmpty || p.2.isEmpty then some ((K9 i ae c).1::p.1,(K9 i ae c).2++p.2)else none
def imp(i:Nat)(ae:U Nat):RV->J (AV×List (Nat×Option aS))
 | .one c=>some (K9 i ae c)
 | .eC cs=>(NZ i ae cs).bind λp=>some (.eC p.1,p.2)
mutual
def oM(P:Program)(get:Nat->Option aS):AV->List LH->Option (AV×List LH×List Prop)
 | .t x,hs=>some (.t x,hs,[])
 | .agg cs,hs=>(mZ P get cs hs).bind λp=>some (.agg p.1,p.2.1,p.2.2)
 | .eC _,_=>none
 | .own k aa len,hs=>match hs with
  | .rows tr::hs=>(get k).bind λo=>some (.t (.sl tr),hs,[(o.rows.drop aa).take len=aL tr/\tr.length=len])
  |_=>none
 | .ptr k row aa,hs=>match hs with
  | .row tr::hs=>(get k).bind λo=>some (.ej tr aa,hs,[o.rows[row]? =some (tr.map AV.t)])
  |_=>none
 | .ej r o,hs=>some (.ej r o,hs,[])
 | .fn f first caps,hs=>match hs with
  | .fn::hs=>(mZ P get first hs).bind λp=>(mZ P get caps p.2.1).bind λq=>some (.fn f p.1 q.1,q.2.1,p.2.2++q.2.2)
  | .du φ::hs=>(mZ P get first hs).bind λp=>(mZ P get caps p.2.1).bind λq=>
   some (.du φ,q.2.1,p.2.2++(q.2.2++[p.1=[]/\eU P f/\∀args r,φ args r->tf P f (p.1++args.map TV.av++q.1) (.one (.d r))]))
  |_=>none
 | .du φ,hs=>some (.du φ,hs,[])
 | .mp _,_=>none
 | .oz k len,hs=>match hs with
  | .rows tr::hs=>(get k).bind λo=>some (.t (.sl tr),hs,[(o.rows.drop 0).take len=aL tr/\tr.length=len])
  |_=>none
 | .cM,hs=>match hs with
  | .nil::hs=>some (.cM,hs,[])
  | .emp::hs=>some (.t (.sl []),hs,[])
  |_=>none
 | .ub,_=>none
 | .undef,_=>none
def mZ(P:Program)(get:Nat->Option aS):List AV->List LH->Option (List AV×List LH×List Prop)
 |[],hs=>some ([],hs,[])
 |x::xs,hs=>(oM P get x hs).bind λp=>(mZ P get xs p.2.1).bind λq=>some (p.1::q.1,q.2.1,p.2.2++q.2.2)
end
def Be(P:Program)(i:Nat)(f:AV)(args:U AV)(cm:iu)(get:Nat->J aS):J Out:=
 match f,cm with
 | .fn F first caps,.call hs rv keep=>(imp i [] rv).bind λp=>(mZ P get (first++args++caps) hs).bind λq=>
  if keep then some ⟨p.1,p.2,q.2.2++[tf P F q.1 rv,rv.flat]⟩
  else some ⟨p.1,p.2++(eX (first++args++caps)).map (λ k=>(k,none)),q.2.2++[tf P F q.1 rv]⟩
 | .du φ,.DE hs targs r keep=>(mZ P get args hs).bind λq=>
  if keep then some ⟨r.av,[],q.2.2++[q.1=targs.map TV.av,φ targs r,r.flat]⟩
  else some ⟨r.av,(eX args).map (λ k=>(k,none)),q.2.2++[q.1=targs.map TV.av,φ targs r]⟩
 |_,_=>none
def Bf(P:Program)(w0:World)(O0:i9)(β:Nat->J cE)(I:Nat->Prop)(obj:Nat->J aS)(w:World)(i:Nat)(ab:Out)(r:Result Next):Prop:=
 ∃F args,r= .ok (.enter F args) w/\Calls P F args w λe w'=>∃v' β' I',e= .returned v'/\Step β I w (cx i) β' I' w'/\Mem P w0 O0 β' I' (bU obj ab.upd) w'/\VR P β' w' I' ab.v v'
section
variable {P:Program} {T:dC} {w0:World} {O0:i9} {β:Nat->Option cE} {I:Nat->Prop} {obj:Nat->Option aS} {w:World} {i:Nat}
mutual
theorem ev.weaken{get get':Nat->Option aS}(h:∀k o,get k=some o->get' k=some o):∀(xs ys:List AV),ev P get xs ys->ev P get' xs ys
 |[],[],_=>by simp[ev]
 |x::xs,y::ys,hb=>by simp only[ev]at hb ⊢;exact⟨fh.weaken h x y hb.1,ev.weaken h xs ys hb.2⟩
 |[],_::_,hb=>by simp[ev]at hb
 |_::_,[],hb=>by simp[ev]at hb
theorem fh.weaken{get get':Nat->Option aS}(h:∀k o,get k=some o->get' k=some o):∀(x y:AV),fh P get x y->fh P get' x y
 | .t _,_,hb=>by simpa[fh]using hb
 | .agg cs,y,hb=>by
  simp only[fh]at hb ⊢;obtain⟨cs',h1,h2⟩:=hb;exact⟨cs',h1,ev.weaken h cs cs' h2⟩
 | .eC _,_,hb=>by simp[fh]at hb
 | .own k aa len,y,hb=>by
  simp only[fh]at hb ⊢;obtain⟨o,tr,h1,h2⟩:=hb;exact⟨o,tr,h k o h1,h2⟩
 | .ptr k row aa,y,hb=>by
  simp only[fh]at hb ⊢;obtain⟨o,tr,h1,h2⟩:=hb;exact⟨o,tr,h k o h1,h2⟩
 | .ej _ _,_,hb=>by simpa[fh]using hb
 | .fn f first caps,y,hb=>by
  simp only[fh]at hb ⊢;obtain⟨a,b,h1,h2,h3⟩:=hb;exact⟨a,b,ev.weaken h first a h1,ev.weaken h caps b h2,h3⟩
 | .du _,_,hb=>by simpa[fh]using hb
 | .oz k len,y,hb=>by
  simp only[fh]at hb ⊢;obtain⟨o,tr,h1,h2⟩:=hb;exact⟨o,tr,h k o h1,h2⟩
 | .cM,_,hb=>by simpa[fh]using hb
 | .ub,_,hb=>by simp[fh]at hb
 | .undef,_,hb=>by simp[fh]at hb
end
mutual
theorem ER{get:Nat->Option aS}:∀(x:AV)(hs:List LH)(p:AV×List LH×List Prop),oM P get x hs=some p->(∀ q∈p.2.2,q)->fh P get x p.1
 | .t x,hs,p,h,_=>by simp only[oM,ay]at h;subst h;simp[fh]
 | .agg cs,hs,p,h,ho=>by
  simp only[oM,ai,ay]at h;obtain⟨q,h1,rfl⟩:=h;simp only[fh];exact⟨_,rfl,kC cs hs q h1 ho⟩
 | .eC _,_,_,h,_=>by simp[oM]at h
 | .own k aa len,hs,p,h,ho=>by
  simp only[oM]at h;split at h
  .simp only[ai,ay]at h;obtain⟨o,h1,rfl⟩:=h;have h2:=ho _ (aY.2 rfl);simp only[fh];exact⟨o,_,h1,rfl,h2.1,h2.2⟩
  .cases h
 | .ptr k row aa,hs,p,h,ho=>by
  simp only[oM]at h;split at h
  .simp only[ai,ay]at h;obtain⟨o,h1,rfl⟩:=h;have h2:=ho _ (aY.2 rfl);simp only[fh];exact⟨o,_,h1,rfl,h2⟩
  .cases h
 | .ej r o,hs,p,h,_=>by simp only[oM,ay]at h;subst h;simp[fh]
 | .fn f first caps,hs,p,h,ho=>by
  simp only[oM]at h;split at h
  .simp only[ai,ay]at h;obtain⟨q,h1,q',h2,rfl⟩:=h;simp only[fh];exact⟨q.1,q'.1,kC first _ q h1 (λ x hx=>ho x (by simp[hx])),kC caps _ q' h2 (λ x hx=>ho x (by simp[hx])),.inl rfl⟩
  .simp only[ai,ay]at h;obtain⟨q,h1,q',h2,rfl⟩:=h;have h3:=ho _ (by simp only[bg,aY];exact .inr (.inr rfl));simp only[fh];exact⟨q.1,q'.1,kC first _ q h1 (λ x hx=>ho x (by simp[hx])),kC caps _ q' h2 (λ x hx=>ho x (by simp[hx])),.inr ⟨_,rfl,h3.1,h3.2⟩⟩
  .cases h
 | .du φ,hs,p,h,_=>by simp only[oM,ay]at h;subst h;simp[fh]
 | .mp _,_,_,h,_=>by simp[oM]at h
 | .oz k len,hs,p,h,ho=>by
  simp only[oM]at h;split at h
  .simp only[ai,ay]at h;obtain⟨o,h1,rfl⟩:=h;have h2:=ho _ (aY.2 rfl);simp only[fh];exact⟨o,_,h1,rfl,h2.1,h2.2⟩
  .cases h
 | .cM,hs,p,h,_=>by
  simp only[oM]at h;split at h
  .cases h;simp[fh]
  .cases h;simp[fh]
  .cases h
 | .ub,_,_,h,_=>by simp[oM]at h
 | .undef,_,_,h,_=>by simp[oM]at h
theorem kC{get:Nat->Option aS}:∀(xs:List AV)(hs:List LH)(p:List AV×List LH×List Prop),mZ P get xs hs=some p->(∀ q∈p.2.2,q)->ev P get xs p.1
 |[],hs,p,h,_=>by simp only[mZ,ay]at h;subst h;simp[ev]
 |x::xs,hs,p,h,ho=>by
  simp only[mZ,ai,ay]at h;obtain⟨q,h1,q',h2,rfl⟩:=h;simp only[ev];exact⟨ER x hs q h1 (λ y hy=>ho y (by simp[hy])),kC xs _ q' h2 (λ y hy=>ho y (by simp[hy]))⟩
end
theorem rT:∀(l:U Prop),kE l->∀p∈l,p
 |[],_,_,hp=>by simp at hp
 |[q],h,p,hp=>by rw[aY]at hp;rw[hp];exact h
 |q::r::l,h,p,hp=>by
  rcases aO.1 hp with e |hp
  .rw[e];exact h.1
  .exact rT (r::l) h.2 p hp
theorem Tree.lO{w':World}{I':Nat->Prop}:∀{x:Tree}{v:Value},x.flat->TR w I x v->TR w' I' x v
 | .sc _,_,_,h=>by simpa[TR]using h
 | .sl _,_,hf,_=>hf.elim
theorem TV.vn{w':World}{I':Nat->Prop}:∀{x:TV}{v:Value},x.flat->td w I x v->td w' I' x v
 | .s _,_,hf,h=>Tree.lO hf h
 | .a cs,v,hf,⟨vs,h1,h2⟩=>by
  refine⟨vs,h1,?_⟩;have:∀(cs:U Tree)(vs:U Value),(∀ x∈cs,x.flat)->ep w I cs vs->ep w' I' cs vs:=by
   intro cs
   induction cs with
   |nil=>intro vs _ h;cases vs with
    |nil=>trivial
    |cons=>exact h.elim
   |cons x xs ih=>intro vs hf h;cases vs with
    |nil=>exact h.elim
    |cons v vs=>exact⟨Tree.lO (hf x (by simp)) h.1,ih vs (λ y hy=>hf y (by simp[hy])) h.2⟩
  exact this cs vs.toList hf h2
theorem bo.flat{β':Nat->J cE}{w':World}{I':Nat->Prop}(rows:U (List Tree))(c:Array Value)(aa sz:Nat)(hf:∀r∈rows,∀x∈r,Tree.flat x)(h:bo P β w I (aL rows) c aa sz):bo P β' w' I' (aL rows) c aa sz:=by
 rw[nI]at h ⊢;intro i r hr;have⟨h1,h2⟩:=h i r hr;refine⟨h1,?_⟩;rw[jL]at h2 ⊢;intro j x hx;have⟨v,g1,g2,g3⟩:=h2 j x hx;refine⟨v,g1,?_,g3⟩;simp only[aL,List.getElem?_map,eH]at hr;obtain⟨r',hr',rfl⟩:=hr;simp only[List.getElem?_map,eH]at hx;obtain⟨x',hx',rfl⟩:=hx;simp only[VR]at g2 ⊢;exact Tree.lO (hf r' (cO hr') x' (cO hx')) g2
theorem TV.I0{x:TV}{v:Value}(h:td w I x v):VR P β w I x.av v:=by
 cases x with
 |s x=>simp only[TV.av,VR];exact h
 |a cs=>
  obtain⟨vs,rfl,h⟩:=h;simp only[TV.av,VR];refine⟨vs,rfl,?_⟩;have:∀(cs:U Tree)(us:U Value),ep w I cs us->bj P β w I (cs.map AV.t) us:=by
   intro cs
   induction cs with
   |nil=>intro us h;cases us with
    |nil=>simp[bj]
    |cons=>simp[ep]at h
   |cons x xs ih=>intro us h;cases us with
    |nil=>simp[ep]at h
    |cons y ys=>simp only[ep]at h;simp only[aF,bj,VR];exact⟨h.1,ih _ h.2⟩
  exact this cs vs.toList h
theorem Mem.fresh{i:Nat}{obj:Nat->J aS}{F:Nat->Prop}{sz:Nat}{rows:U (List Tree)}{v:Value}(h:Mem P w0 O0 β I obj w)(hn:β i=none)(hlt:∀k o b,obj k=some o->gb β k b->¬F b)(hle:∀b,F b->O0.own b\/w0.heap.size<=b)(hf:WM P F sz rows w I v):
 ∃ β',Step β I w i β' I w/\Mem P w0 O0 β' I (bU obj [(i,some ⟨sz,aL rows⟩)]) w/\VR P β' w I (.own i 0 rows.length) v:=by
 rcases hf with ⟨rfl,rfl⟩ |⟨b,c,e,cap,o,s,rfl,h1,h2,h3,h4,h5,h6,h7⟩
 .have⟨hS,hM⟩:=Mem.pg (i:=i) (o:=⟨sz,aL []⟩) h hn rfl;exact⟨_,hS,hM,by simp only[VR];exact .inl ⟨by simp[ins],trivial,trivial,rfl⟩⟩
 .have hsl:s<=c.size:=by omega
  have hS:Step β I w i (ins β i (.at b sz ⟨c.size,s,hsl⟩)) I w:=⟨λ j hj=>by simp[ins,ie.ne hj],nS hn,λ_ _=>rfl,λ_ h=>h⟩;refine⟨_,hS,?_,by simp only[VR];exact .inr ⟨b,sz,⟨c.size,s,hsl⟩,cap,o,by simp[ins],rfl,h4,by simpa using h5,λhc=>by simpa using h7 hc⟩⟩;have hbl:b<w.heap.size:=(Array.getElem?_eq_some_iff.1 h3).1;constructor
  .intro k o' hk;simp only[bU]at hk;split at hk
   .cases hk;rename_i hki;exact⟨.at b sz ⟨c.size,s,hsl⟩,by simp[ins,hki],rfl,c,e,h3,rfl,bo.mono (λ k B h=>by simp[mA]at h) (λ _ _=>rfl) (λ _ h=>h) _ _ _ _ h6⟩
   .have⟨B,hB,hO⟩:=h.cD k o' hk;exact⟨B,nS hn _ _ hB,OR.mono hS.ext hS.same hS.inc (λ _ _=>rfl) hO⟩
  .intro k k' o1 o2 B1 B2 b1 e1 e2 e3 e4 e5 e6;simp only[bU]at e1 e2;simp only[ins]at e3 e4;split at e3<;>split at e4
   .rename_i p q;rw[p,q]
   .rename_i p q;cases e3;cases e5;rw[aW q]at e2;exact(hlt k' o2 _ e2 ⟨_,e4,e6⟩ h1).elim
   .rename_i p q;cases e4;cases e6;rw[aW p]at e1;exact(hlt k o1 _ e1 ⟨_,e3,e5⟩ h1).elim
   .rename_i p q;rw[aW p]at e1;rw[aW q]at e2;exact h.gd k k' o1 o2 B1 B2 b1 e1 e2 e3 e4 e5 e6
  .intro k o' B1 b1 e1 e2 e3;simp only[bU]at e1;simp only[ins]at e2;split at e2
   .cases e2;cases e3;exact⟨h2,hbl,hle _ h1⟩
   .rename_i p;rw[aW p]at e1;exact h.ownB k o' B1 b1 e1 e2 e3
  .exact h.lt
  .exact h.up
  .exact h.keep
  .exact h.le
  .exact h.os
  .exact h.tape
  .exact h.output
  .intro j C hj;exact nS hn _ _ (h.anch j C hj)
  .exact h.vars
theorem W9{i:Nat}{ae:U Nat}{F:Nat->Prop}{βc:Nat->J cE}{c:RC}{v:Value}(h:Mem P w0 O0 β I obj w)(hn:β (cx i)=none)(hlt:∀k o b,obj k=some o->gb β k b->¬F b)(hle:∀b,F b->O0.own b\/w0.heap.size<=b)(hbc:∀j B,βc j=some B->∃k,ae[j]? =some k/\β k=some B)(hc:yv P F βc c w I v):
 ∃ β',Step β I w (cx i) β' I w/\Mem P w0 O0 β' I (bU obj (K9 i ae c).2) w/\VR P β' w I (K9 i ae c).1 v/\((K9 i ae c).2=[]->β'=β):=by
 cases c with
 |d x=>exact⟨β,Step.refl ..,h,TV.I0 hc,λ_=>rfl⟩
 |fresh sz rows=>
  have⟨β',h1,h2,h3⟩:=Mem.fresh (i:=cx i) h hn hlt hle hc;exact⟨β',h1,h2,by simpa[K9,aL]using h3,λh=>by simp[K9]at h⟩
 |whole j len=>
  refine⟨β,Step.refl ..,h,?_,λ_=>rfl⟩;have hc:VR P βc w I (.own j 0 len) v:=hc;simp only[VR]at hc;have key:∀B,βc j=some B->∃k,ae[j]? =some k/\β k=some B:=hbc j;simp only[K9]
  all_goals grind [VR]
theorem Xa{i:Nat}{ae:U Nat}{F:Nat->Prop}{βc:Nat->J cE}:∀(cs:U RC)(vs:U Value)(p:U AV×List (Nat×Option aS)),Mem P w0 O0 β I obj w->β (cx i)=none->(∀ k o b,obj k=some o->gb β k b->¬F b)->(∀ b,F b->O0.own b\/w0.heap.size<=b)->(∀ j B,βc j=some B->∃k,ae[j]? =some k/\β k=some B)->
 NZ i ae cs=some p->UD P F βc cs w I vs->∃ β',Step β I w (cx i) β' I w/\Mem P w0 O0 β' I (bU obj p.2) w/\bj P β' w I p.1 vs/\(p.2=[]->β'=β)
 |[],[],p,h,_,_,_,_,hp,_=>by simp only[NZ,ay]at hp;subst hp;exact⟨β,Step.refl ..,h,by simp[bj],λ_=>rfl⟩
 |c::cs,v::vs,p,h,hn,hlt,hle,hbc,hp,hr=>by
  simp only[UD]at hr;simp only[NZ]at hp;cases hq:NZ i ae cs with
  |none=>simp[hq]at hp
  |some q=>
   simp only[hq,af]at hp;split at hp
   .rename_i hem;simp only[ay]at hp;subst hp;have⟨β1,g1,g2,g3,g4⟩:=W9 (i:=i) h hn hlt hle hbc hr.1;have⟨β2,k1,k2,k3,k4⟩:=Xa cs vs q h hn hlt hle hbc hq hr.2;have B9:(K9 i ae c).2=[]\/q.2=[]:=(by simpa using hem);rcases B9 with hem |hem
    .have:=g4 hem;subst this;refine⟨β2,k1,by simpa[hem]using k2,?_,λh0=>k4 (by simpa[hem]using h0)⟩;simp only[bj];exact⟨VR.mono k1.ext k1.same k1.inc _ _ g3,k3⟩
    .have:=k4 hem;subst this;refine⟨β1,g1,by simpa[hem]using g2,?_,λh0=>g4 (by simpa[hem]using h0)⟩;simp only[bj];exact⟨g3,bj.mono g1.ext g1.same g1.inc _ _ k3⟩
   .cases hp
 |[],_::_,_,_,_,_,_,_,_,hr=>by simp[UD]at hr
 |_::_,[],_,_,_,_,_,_,_,hr=>by simp[UD]at hr
theorem QO{i:Nat}{ae:U Nat}{F:Nat->Prop}{βc:Nat->J cE}{rv:RV}{v:Value}{p:AV×List (Nat×Option aS)}(h:Mem P w0 O0 β I obj w)(hn:β (cx i)=none)(hlt:∀k o b,obj k=some o->gb β k b->¬F b)(hle:∀b,F b->O0.own b\/w0.heap.size<=b)(hbc:∀j B,βc j=some B->∃k,ae[j]? =some k/\β k=some B)
 (hp:imp i ae rv=some p) (hr:ri P F βc rv w I v):∃ β',Step β I w (cx i) β' I w/\Mem P w0 O0 β' I (bU obj p.2) w/\VR P β' w I p.1 v:=by
 cases rv with
 |one c=>
  simp only[imp,ay]at hp;subst hp;have⟨β',h1,h2,h3,_⟩:=W9 (i:=i) h hn hlt hle hbc hr;exact⟨β',h1,h2,h3⟩
 |eC cs=>
  simp only[imp]at hp;cases hq:NZ i ae cs with
  |none=>simp[hq]at hp
  |some q=>
   simp only[hq,af,ay]at hp;subst hp;obtain⟨vs,rfl,hvs⟩:=hr;have⟨β',h1,h2,h3,_⟩:=Xa (i:=i) cs vs.toList q h hn hlt hle hbc hq hvs;exact⟨β',h1,h2,by simp only[VR];exact⟨vs,rfl,h3⟩⟩
theorem uf(obj:Nat->J aS):∀(a b:U (Nat×Option aS))(k:Nat),bU obj (a++b) k=bU (bU obj b) a k
 |[],_,_=>rfl
 |(j,o)::a,b,k=>by simp only[cons_append,bU,uf obj a b k]
theorem y9(obj:Nat->J aS):∀(ae:U Nat)(k:Nat),bU obj (ae.map λk=>(k,none)) k=if k∈ae then none else obj k
 |[],k=>by simp[bU]
 |j::ae,k=>by
  simp only[aF,bU,y9 obj ae k,aO];by_cases h:k=j<;>simp[h]
end
section
variable {P:Program} {T:dC} {w0:World} {O0:i9} {β:Nat->Option cE} {I:Nat->Prop} {obj:Nat->Option aS} {w:World} {i:Nat}
theorem ri.flat{F:Nat->Prop}{βc:Nat->J cE}{w':World}{I' E2:Nat->Prop}{rv:RV}{v:Value}(hf:rv.flat)(hI:∀b,E2 b->I' b)(h:ri P F βc rv w' I' v):ri P F βc rv w' E2 v:=by
 have hc:∀(c:RC)(v:Value),c.flat->yv P F βc c w' I' v->yv P F βc c w' E2 v:=by
  intro c v hf h;cases c with
  |d x=>exact TV.vn hf h
  |fresh sz rows=>
   rcases h with h |⟨b,c,e,cap,o,s,h1,h2,h3,h4,h5,h6,h7,h8⟩
   .exact .inl h
   .exact .inr ⟨b,c,e,cap,o,s,h1,h2,λhb=>h3 (hI b hb),h4,h5,h6,bo.flat rows c s sz hf h7,h8⟩
  |whole j len=>have h:VR P βc w' I' (.own j 0 len) v:=h;show VR P βc w' E2 (.own j 0 len) v;simp only[VR]at h ⊢;exact h
 cases rv with
 |one c=>exact hc c v hf h
 |eC cs=>
  obtain⟨vs,rfl,h⟩:=h;refine⟨vs,rfl,?_⟩;have:∀(cs:U RC)(vs:U Value),(∀ c∈cs,c.flat)->UD P F βc cs w' I' vs->UD P F βc cs w' E2 vs:=by
   intro cs
   induction cs with
   |nil=>intro vs _ h;cases vs with
    |nil=>trivial
    |cons=>exact h.elim
   |cons c cs ih=>intro vs hf h;cases vs with
    |nil=>exact h.elim
    |cons v vs=>exact⟨hc c v (hf c (by simp)) h.1,ih vs (λ y hy=>hf y (by simp[hy])) h.2⟩
  exact this cs vs.toList hf h
theorem Xb(h:Mem P w0 O0 β I obj w)(hn:β (cx i)=none){ae:U Nat}{rv:RV}{p:AV×List (Nat×Option aS)}{keep:Bool}(hp:imp i [] rv=some p)(hk:keep=true->rv.flat)
 {w':World} {I1:Nat->Prop} {v:Value} (hb:Below w.heap.size w w') (h1:∀b,fm β obj ae I b->I1 b) (h2:∀b,I1 b->b<w'.heap.size) (h3:∀b,I1 b->fm β obj ae I b\/w.heap.size<=b) (hr:ri P (M2 w) mA rv w' I1 v):
 ∃ β' I',Step β I w (cx i) β' I' w'/\Mem P w0 O0 β' I' (bU obj (p.2++if keep then []else ae.map (λ k=>(k,none)))) w'/\VR P β' w' I' p.1 v:=by
 have hlt:∀(m8:Nat->J aS),(∀ k o,m8 k=some o->obj k=some o)->∀k o b,m8 k=some o->gb β k b->¬M2 w b:=λm8 hs k o b e1 e2 hb=>Nat.lt_irrefl _ (Nat.lt_of_lt_of_le (h.ik k o b (hs k o e1) e2).2.1 hb);have hnew:∀b,M2 w b->O0.own b\/w0.heap.size<=b:=λb hb=> .inr (Nat.le_trans h.le hb);have hup:∀b,I1 b->O0.HF b\/O0.own b\/w0.heap.size<=b:=λb hb'=>by
  rcases h3 b hb' with (h5 |⟨k',o',s',n',g1,g2,g3⟩) |h5
  .exact h.up b h5
  .exact .inr (h.own k' o' b s' n' g2 g3).2.2
  .exact .inr (.inr (Nat.le_trans h.le h5))
 cases keep with
 |true=>
  obtain⟨hS,hM⟩:=h.below (I':=λb=>I1 b/\(I b\/w.heap.size<=b)) hb (λ b hb'=>⟨h1 b (.inl hb'),.inl hb'⟩) (λ b hb'=>h2 b hb'.1) (λ b k o B hb' e1 e2 e3=>by
   have⟨a1,a2,_⟩:=h.ownB k o B b e1 e2 e3;rcases hb'.2 with h5 |h5
   .exact a1 h5
   .omega) (λ b hb'=>hup b hb'.1)
  obtain⟨β',k1,k2,k3⟩:=QO hM hn (hlt obj (λ _ _ h=>h)) hnew (λ _ _ h=>by cases h) hp (ri.flat (hk rfl) (λ b hb=>hb.1) hr);refine⟨β',_,⟨k1.other,k1.ext,hS,λb hb'=>⟨h1 b (.inl hb'),.inl hb'⟩⟩,?_,k3⟩;simpa using k2
 |false=>
  have hsub:∀k o,bU obj (ae.map λk=>(k,none)) k=some o->obj k=some o/\k∉ae:=by
   intro k o hk;rw[y9]at hk;split at hk
   .cases hk
   .exact⟨hk,‹_›⟩
  have hd:=h.drop (bU obj (ae.map λk=>(k,none))) (λ k o hk=>(hsub k o hk).1);obtain⟨hS,hM⟩:=hd.below (I':=I1) hb (λ b hb'=>h1 b (.inl hb')) h2 (λ b k o B hb' e1 e2 e3=>by
   have⟨f1,f2⟩:=hsub k o e1;have⟨a1,a2,_⟩:=h.ownB k o B b f1 e2 e3;rcases h3 b hb' with (h5 |⟨k',o',s',n',g1,g2,g3⟩) |h5
   .exact a1 h5
   .have:=h.nb k k' o o' b f1 g2 ⟨B,e2,e3⟩ (.at g3);subst this;exact f2 g1
   .omega) hup
  obtain⟨β',k1,k2,k3⟩:=QO hM hn (hlt _ (λ k o hk=>(hsub k o hk).1)) hnew (λ _ _ h=>by cases h) hp hr;refine⟨β',I1,⟨k1.other,k1.ext,hS,λb hb'=>h1 b (.inl hb')⟩,?_,k3⟩;simp only[Bool.false_eq_true,if_false];have e:bU obj (p.2++ae.map λk=>(k,none))=bU (bU obj (ae.map λk=>(k,none))) p.2:=funext λk=>uf obj _ _ k;rw[e];exact k2
theorem N7(h:Mem P w0 O0 β I obj w)(ae:U Nat):∀b,fm β obj ae I b->b<w.heap.size:=by
 intro b hb;rcases hb with hb |⟨k,o,s,n,_,h2,h3⟩
 .exact h.lt b hb
 .exact(h.own k o b s n h2 h3).2.1
theorem aaF(h:Mem P w0 O0 β I obj w)(hn:β (cx i)=none){f:AV}{args:U AV}{cm:iu}{get:Nat->J aS}{ab:Out}(hg:∀k o,get k=some o->obj k=some o)
 {fv:Value} {vs:Array Value} {am:Array Operand} {fo:Operand} {r:Operand->Value} (ha:Be P i f args cm get=some ab) (cA:ab.ob) (hf:VR P β w I f fv) (hv:bj P β w I args vs.toList) (hfo:r fo=fv) (hops:vs=am.map r)
 {dst:J Tmp} {aq:String} {after:Array Edge} {guard:J (Nat×Bool)} {ty:TypeId} {cX:Array TypeId}:
 Bf P w0 O0 β I obj w i ab ((execOp r ⟨dst,.call { callee:= .value fo,args:=am,argTypes:=cX },ty,aq,after,guard⟩).run P w):=by
 have enter : ∀ (F : FuncId) (first caps : Array Value) (args' : Array Value), (∃ fn, P.funcs[F]? = some fn /\ fn.body.isSome = true /\ (fn.name == "runtime.NumGoroutine") = false) -> fv = .func (.func F) first caps -> args' = first ++ vs ++ caps ->
  (execOp r ⟨dst,.call { callee:= .value fo,args:=am,argTypes:=cX },ty,aq,after,guard⟩).run P w= .ok (.enter F args') w:=by
  rintro F first caps args' ⟨fn,e1,e2,e3⟩ e4 rfl
  have hb:¬fn.body=none:=by cases hh:fn.body<;>simp[hh]at e2 ⊢
  have e3' : ¬ fn.name = "runtime.NumGoroutine" := by simpa using e3
  simp[execOp,resolve,hfo,e4,<- hops,Deferred.ofValue,invoke,callFunc,e1,e3',hb]
 unfold Be at ha;split at ha
 .rename_i F first caps hs rv keep
  cases hp:imp i [] rv with
  |none=>simp[hp]at ha
  |some p=>
   cases hq:mZ P get (first++args++caps) hs with
   |none=>simp only[hp,hq,af,Option.bind_none,reduceCtorEq]at ha
   |some q=>
   simp only[hp,hq,af]at ha;simp only[VR]at hf;obtain⟨fs,cs,rfl,hf1,hf2⟩:=hf
   have fin:∀(keep:Bool),ev P get (first++args++caps) q.1->tf P F q.1 rv->(keep=true->rv.flat)->
    ab=⟨p.1,p.2++(if keep then []else(eX (first++args++caps)).map (λ k=>(k,none))),ab.obs⟩->Bf P w0 O0 β I obj w i ab ((execOp r ⟨dst,.call { callee:= .value fo,args:=am,argTypes:=cX },ty,aq,after,guard⟩).run P w):=by
    intro keep hb hF hk hout;obtain⟨Cl,hcon⟩:=hF;have hall:bj P β w I (first++args++caps) (fs++vs++cs).toList:=by
     simp only[Array.toList_append];exact bj.append _ _ _ _ (bj.append _ _ _ _ hf1 hv) hf2
    have oT:=ev.sound h (eX (first++args++caps)) _ _ _ (λ k hk=>hk) (ev.weaken hg _ _ hb) hall;refine⟨F,fs++vs++cs,enter F fs cs _ Cl rfl rfl,(hcon w _ _ (N7 h _) (h.vars.mono (λ _ _=>rfl) (λ b hb=> .inl hb)) oT).mono ?_⟩;rintro e w' ⟨v',I1,rfl,hbel,g1,g2,g3,g4⟩;have⟨β',I',k1,k2,k3⟩:=Xb (keep:=keep) h hn hp hk hbel g1 g2 g3 g4;rw[hout];exact⟨v',β',I',rfl,k1,k2,k3⟩
   cases keep with
   |true=>
    simp only[if_true,ay]at ha;subst ha;have cA:=rT _ cA;exact fin true (kC _ _ _ hq λx hx=>cA x (by simp[hx])) (cA (tf P F q.1 rv) (by simp)) (λ _=>cA rv.flat (by simp)) (by simp)
   |false=>
    simp only[Bool.false_eq_true,if_false,ay]at ha;subst ha;have cA:=rT _ cA;exact fin false (kC _ _ _ hq λx hx=>cA x (by simp[hx])) (cA (tf P F q.1 rv) (by simp)) (λ h=>by cases h) (by simp)
 .rename_i φ hs targs rr keep;cases hq:mZ P get args hs with
  |none=>simp[hq]at ha
  |some q=>
  simp only[hq,af]at ha;simp only[VR]at hf;obtain⟨F,fs,cs,rfl,_,hF1,hF2,hF3⟩:=hf;obtain⟨fn,hfn⟩:=Option.isSome_iff_exists.1 hF2
  have fin:∀(keep:Bool),ev P get args (targs.map TV.av)->φ targs rr->(keep=true->rr.flat)->
   ab=⟨rr.av,[]++(if keep then []else(eX args).map (λ k=>(k,none))),ab.obs⟩->Bf P w0 O0 β I obj w i ab ((execOp r ⟨dst,.call { callee:= .value fo,args:=am,argTypes:=cX },ty,aq,after,guard⟩).run P w):=by
   intro keep hb hφ hk hout;have oT:=ev.sound h (eX args) _ _ _ (λ k hk=>hk) (ev.weaken hg _ _ hb) hv;have htv:∀(xs:U TV) (us:U Value),bj P mA w (fm β obj (eX args) I) (xs.map TV.av) us->ml w (fm β obj (eX args) I) xs us:=by
    intro xs
    induction xs with
    |nil=>intro us h;cases us with
     |nil=>trivial
     |cons=>simp[bj]at h
    |cons x xs ih=>intro us h;cases us with
     |nil=>simp[bj]at h
     |cons u us=>
      simp only[aF,bj]at h;refine⟨?_,ih us h.2⟩;cases x with
      |s x=>simpa[TV.av,VR,td]using h.1
      |a cs=>
       simp only[TV.av,VR]at h;obtain⟨⟨vs',rfl,h1⟩,_⟩:=h;refine⟨vs',rfl,?_⟩;have:∀(cs:U Tree) (us:U Value),bj P mA w (fm β obj (eX args) I) (cs.map AV.t) us->ep w (fm β obj (eX args) I) cs us:=by
        intro cs
        induction cs with
        |nil=>intro us h;cases us with
         |nil=>trivial
         |cons=>simp[bj]at h
        |cons c cs ih=>intro us h;cases us with
         |nil=>simp[bj]at h
         |cons u us=>simp only[aF,bj,VR]at h;exact⟨h.1,ih us h.2⟩
       exact this cs _ h1
   refine⟨F,fs++vs++cs,enter F fs cs _ ⟨fn,hfn,(hF1 fn hfn).1,(hF1 fn hfn).2⟩ rfl rfl,(hF3 w _ targs vs rr (λ b hb=>Or.inl hb) (λ _ _=>rfl) (N7 h _) hφ (htv _ _ oT)).mono ?_⟩;rintro e w' ⟨v',I1,rfl,hbel,g1,g2,g3,g4⟩;have⟨β',I',k1,k2,k3⟩:=Xb (i:=i) (rv:= .one (.d rr)) (p:=(rr.av,[])) (keep:=keep) h hn rfl hk hbel g1 g2 g3 g4;rw[hout];exact⟨v',β',I',rfl,k1,k2,k3⟩
  cases keep with
  |true=>
   simp only[if_true,ay]at ha;subst ha;have cA:=rT _ cA;have e:q.1=targs.map TV.av:=cA _ (by simp);exact fin true (e ▸ kC _ _ _ hq λx hx=>cA x (by simp[hx])) (cA (φ targs rr) (by simp)) (λ _=>cA rr.flat (by simp)) (by simp)
  |false=>
   simp only[Bool.false_eq_true,if_false,ay]at ha;subst ha;have cA:=rT _ cA;have e:q.1=targs.map TV.av:=cA _ (by simp);exact fin false (e ▸ kC _ _ _ hq λx hx=>cA x (by simp[hx])) (cA (φ targs rr) (by simp)) (λ h=>by cases h) (by simp)
 .cases ha
end
abbrev fe:=Nat×List (List Tree)
def gj(p:fe):aS:=⟨p.1,aL p.2⟩
def rK(os:U fe)(k:Nat):J aS:=(os[k]?).map gj
def Dy(os:U (Option fe))(k:Nat):J aS:=((os[k]?).join).map gj
def Xc(β:Nat->J cE)(b:Nat):Prop:=∃j,gb β j b
def qC(β:Nat->J cE)(I:Nat->Prop):i9:=⟨Xc β,I,λj=>if j<1000 then β j else none,λj B h=>by
 split at h
 .assumption
 .cases h⟩
def AH(w:World)(β:Nat->J cE)(os':U (Option fe))(b:Nat):Prop:=(Xc β b\/w.heap.size<=b)/\∀k o,Dy os' k=some o->¬gb β k b
def M1(P:Program)(w:World)(β:Nat->J cE)(I:Nat->Prop)(os':U (Option fe))(rv:RV)(e:Ending)(w':World):Prop:=
 ∃v I',e= .returned v/\Mem P w (qC β I) β I' (Dy os') w'/\(∀ b,I b->I' b)/\ri P (AH w β os') β rv w' I' v
def p6(P:Program)(f:FuncId)(args:U AV)(os:U fe)(os':U (Option fe))(rv:RV):Prop:=
 eU P f/\∀(w:World) (β:Nat->J cE) (I:Nat->Prop) (vs:Array Value),(∀ k,os.length<=k->β k=none)->Mem P w (qC β I) β I (rK os) w->bj P β w I args vs.toList->Calls P f vs w (M1 P w β I os' rv)
def βc(ae:U Nat)(β:Nat->J cE)(j:Nat):J cE:=(ae[j]?).bind β
section
variable (P:Program) (get:Nat->Option aS) (ae:List Nat)
mutual
def qf:AV->List LH->Option (AV×List LH×List Prop)
 | .own k aa len,.mut j::hs=>if ae[j]? =some k then some (.own j aa len,hs,[])else none
 | .ptr k row aa,.mut j::hs=>if ae[j]? =some k then some (.ptr j row aa,hs,[])else none
 | .mp k,.mut j::hs=>if ae[j]? =some k then some (.mp j,hs,[])else none
 | .agg cs,.agw::hs=>(mM cs hs).bind λp=>some (.agg p.1,p.2.1,p.2.2)
 | .agg cs,.agd::hs=>if (eX cs).all (λ k=>!ae.contains k)then oM P get (.agg cs) hs else none
 | .fn F first caps,.fnw::hs=>(mM first hs).bind λp=>(mM caps p.2.1).bind λq=>some (.fn F p.1 q.1,q.2.1,p.2.2++q.2.2)
 |x,hs=>if (refs x).all (λ k=>!ae.contains k)then oM P get x hs else none
def mM:List AV->List LH->Option (List AV×List LH×List Prop)
 |[],hs=>some ([],hs,[])
 |x::xs,hs=>(qf x hs).bind λp=>(mM xs p.2.1).bind λq=>some (p.1::q.1,q.2.1,p.2.2++q.2.2)
end
def zm:U (List AV)->U (List LH)->J (List (List AV)×List Prop)
 |[],[]=>some ([],[])
 |r::rs,h::hs=>(mM P get ae r h).bind λp=>(zm rs hs).bind λq=>some (p.1::q.1,p.2.2++q.2)
 |_,_=>none
def ma(x y:AV):Prop:=
 (∃ j k aa len,ae[j]? =some k/\x= .own k aa len/\y= .own j aa len)\/(∃ j k row aa,ae[j]? =some k/\x= .ptr k row aa/\y= .ptr j row aa)\/(∃ j k,ae[j]? =some k/\x= .mp k/\y= .mp j)\/((∀ k∈refs x,k∉ae)/\fh P get x y)
mutual
def gx:AV->AV->Prop
 | .fn F f1 c1,.fn G f2 c2=>(F=G/\fg f1 f2/\fg c1 c2)\/ma P get ae (.fn F f1 c1) (.fn G f2 c2)
 | .agg c1,.agg c2=>fg c1 c2\/ma P get ae (.agg c1) (.agg c2)
 |x,y=>ma P get ae x y
def fg:List AV->List AV->Prop
 |[],[]=>True
 |x::xs,y::ys=>gx x y/\fg xs ys
 |_,_=>False
end
theorem gx.base{x y:AV}(h:ma P get ae x y):gx P get ae x y:=by cases x<;>cases y<;>simp only[gx]<;>first |exact h |exact .inr h
end
def Cc(get:Nat->J aS):U Nat->U fe->J (List Prop)
 |[],[]=>some []
 |k::ae,p::os=>(get k).bind λo=>(Cc get ae os).bind λl=>some ((o.sz=p.1/\eu (o.rows.take p.2.length)=aL p.2)::l)
 |_,_=>none
def Ce:U Nat->U (Option fe)->U (Nat×Option aS)
 |k::ae,p::os=>(k,p.map gj)::Ce ae os
 |_,_=>[]
def IQ(xs:U AV)(ae:U Nat):U Nat:=(eX xs).filter λk=>!ae.contains k
def Xd(os':U (Option fe)):Prop:=∀p,some p∈os'->∀r∈p.2,∀x∈r,Tree.flat x
def IU(P:Program)(i:Nat)(f:AV)(args:U AV)(cm:iu)(get:Nat->J aS):J Out:=
 match f,cm with
 | .fn F first caps,.tD ae os os' hs rv keep=>if ae.Nodup/\os'.length=ae.length then(imp i ae rv).bind λp=>(Cc get ae os).bind λmo=>(mM P get ae (first++args++caps) hs).bind λq=>
  if keep then some ⟨p.1,p.2++Ce ae os',q.2.2++mo++[p6 P F q.1 os os' rv,rv.flat,Xd os']⟩
  else some ⟨p.1,p.2++(Ce ae os'++(IQ (first++args++caps) ae).map λk=>(k,none)),q.2.2++mo++[p6 P F q.1 os os' rv]⟩
  else none
 |_,_=>none
def rU(P:Program)(i:Nat)(f:AV)(args:U AV)(cm:iu)(get:Nat->J aS):J Out:=
 match cm with
 | .tD .. =>IU P i f args cm get
 |_=>Be P i f args cm get
section
variable {P:Program} {T:dC} {w0:World} {O0:i9} {β:Nat->Option cE} {I:Nat->Prop} {obj:Nat->Option aS} {w:World} {i:Nat}
theorem N8{ae:U Nat}{j:Nat}{B:cE}(h:βc ae β j=some B):∃k,ae[j]? =some k/\β k=some B:=by simpa[βc,ai]using h
theorem bo.dat{β':Nat->J cE}{I':Nat->Prop}(hI:∀b,I b->I' b)(rows:U (List Tree))(c:Array Value)(aa sz:Nat)(h:bo P β w I (aL rows) c aa sz):bo P β' w I' (aL rows) c aa sz:=by
 rw[nI]at h ⊢;intro i r hr;have⟨h1,h2⟩:=h i r hr;refine⟨h1,?_⟩;rw[jL]at h2 ⊢;intro j x hx;have⟨v,g1,g2,g3⟩:=h2 j x hx;refine⟨v,g1,?_,g3⟩;simp only[aL,List.getElem?_map,eH]at hr;obtain⟨r',hr',rfl⟩:=hr;simp only[List.getElem?_map,eH]at hx;obtain⟨x',hx',rfl⟩:=hx;simp only[VR]at g2 ⊢;exact TR.mono (λ _ _=>rfl) hI _ _ g2
theorem bj.IP{β':Nat->J cE}{I':Nat->Prop}(hI:∀b,I b->I' b):∀(r:U Tree)(vs:U Value),bj P β w I (r.map AV.t) vs->bj P β' w I' (r.map AV.t) vs
 |[],[],_=>by simp[bj]
 |x::xs,v::vs,h=>by
  simp only[aF,bj,VR]at h ⊢;exact⟨TR.mono (λ _ _=>rfl) hI _ _ h.1,bj.IP hI xs vs h.2⟩
 |[],_::_,h=>by simp[bj]at h
 |_::_,[],h=>by simp[bj]at h
theorem cy.dat{β':Nat->J cE}{I':Nat->Prop}(hI:∀b,I b->I' b):∀(rs:U (List Tree))(es:U MapEntry),cy P β w I (aL rs) es->cy P β' w I' (aL rs) es
 |[],[],_=>trivial
 |r::rs,_::es,⟨h1,h4⟩=>⟨bj.IP hI r _ h1,cy.dat hI rs es h4⟩
 |[],_::_,h=>h.elim
 |_::_,[],h=>h.elim
theorem bj.zv{β':Nat->J cE}{I':Nat->Prop}:∀(r:U Tree)(vs:U Value),(∀ x∈r,Tree.flat x)->bj P β w I (r.map AV.t) vs->bj P β' w I' (r.map AV.t) vs
 |[],[],_,_=>by simp[bj]
 |x::xs,v::vs,hf,h=>by
  simp only[aF,bj,VR]at h ⊢;exact⟨Tree.lO (hf x (by simp)) h.1,bj.zv xs vs (λ y hy=>hf y (by simp[hy])) h.2⟩
 |[],_::_,_,h=>by simp[bj]at h
 |_::_,[],_,h=>by simp[bj]at h
theorem cy.flat{β':Nat->J cE}{I':Nat->Prop}:∀{rs:U (List Tree)}(_:∀r∈rs,∀x∈r,Tree.flat x)(es:U MapEntry),cy P β w I (aL rs) es->cy P β' w I' (aL rs) es
 |[],_,[],_=>trivial
 |r::rs,hf,_::es,⟨h1,h4⟩=>⟨bj.zv r _ (hf r (by simp)) h1,cy.flat (λ r' hr=>hf r' (by simp[hr])) es h4⟩
 |[],_,_::_,h=>h.elim
 |_::_,_,[],h=>h.elim
theorem OR.part{o:aS}{p:fe}{b:Nat}(g4:o.sz=p.1)(g5:eu (o.rows.take p.2.length)=aL p.2)(h:OR P β w I o (.mp b)):OR P β w I (gj p) (.mp b):=by
 obtain⟨es,cl,h1,hle,h2,h3⟩:=h;have hl:=congrArg List.length g5;simp only[eu,aL,List.length_map,length_take]at hl;refine⟨es,cl,h1,by simp only[gj,aL,List.length_map];omega,λe=>?_,h3⟩;have e':p.1=p.2.length:=by simpa[gj,aL]using e
 have:=cy.wk _ _ (h2 (by omega));rw[take_of_length_le (by omega)]at g5;show cy P β w I (aL p.2) es.toList;rw[<- g5];exact this
theorem OR.dat{β':Nat->J cE}{I':Nat->Prop}(hI:∀b,I b->I' b){p:fe}{B:cE}(h:OR P β w I (gj p) B):OR P β' w I' (gj p) B:=by
 cases B with
 |none=>exact h
 | «at» b s n=>
  obtain⟨h1,c,e,h2,h3,h4⟩:=h;exact⟨h1,c,e,h2,h3,bo.dat hI _ _ _ _ h4⟩
 |mp b=>
  obtain⟨es,cl,h1,hle,h2,h3⟩:=h;exact⟨es,cl,h1,hle,λe=>cy.dat hI _ _ (h2 e),h3⟩
theorem OR.flat{β':Nat->J cE}{I':Nat->Prop}{p:fe}{B:cE}(hf:∀r∈p.2,∀x∈r,Tree.flat x)(h:OR P β w I (gj p) B):OR P β' w I' (gj p) B:=by
 cases B with
 |none=>exact h
 | «at» b s n=>
  obtain⟨h1,c,e,h2,h3,h4⟩:=h;exact⟨h1,c,e,h2,h3,bo.flat _ _ _ _ hf h4⟩
 |mp b=>
  obtain⟨es,cl,h1,hle,h2,h3⟩:=h;exact⟨es,cl,h1,hle,λe=>cy.flat hf _ (h2 e),h3⟩
theorem Tx{get:Nat->J aS}:∀{ae:U Nat}{os:U fe}{l:U Prop},Cc get ae os=some l->(∀ q∈l,q)->ae.length=os.length/\∀(j:Nat) k p,ae[j]? =some k->os[j]? =some p->∃o,get k=some o/\o.sz=p.1/\eu (o.rows.take p.2.length)=aL p.2
 |[],[],_,_,_=>⟨rfl,λj k p h=>by simp at h⟩
 |k::ae,p::os,l,h,hq=>by
  simp only[Cc,ai,ay]at h;obtain⟨o,h1,l',h2,rfl⟩:=h;obtain⟨h3,h4⟩:=Tx h2 (λ q hq'=>hq q (by simp[hq']));refine⟨by simp[h3],λj k' p' hj hj'=>?_⟩;cases j with
  |zero=>
   simp only[List.getElem?_cons_zero,ay]at hj hj';subst hj;subst hj';exact⟨o,h1,hq _ (by simp)⟩
  |succ j=>exact h4 j k' p' (by simpa using hj) (by simpa using hj')
 |[],_::_,_,h,_=>by simp[Cc]at h
 |_::_,[],_,h,_=>by simp[Cc]at h
theorem akz{ae:U Nat}:∀{os':U (Option fe)}{g:U (Nat×Option aS)}{k:Nat},k∉ae->bU obj (Ce ae os'++g) k=bU obj g k:=by
 induction ae with
 |nil=>intro os' g k _;rfl
 |cons j ae ih=>
  intro os' g k hk;cases os' with
  |nil=>rfl
  |cons p os'=>
   simp only[aO,not_or]at hk;simp only[Ce,cons_append,bU,aW hk.1,ih hk.2]
theorem abU:∀{ae:U Nat}{os':U (Option fe)}{g:U (Nat×Option aS)}{j k:Nat},ae.Nodup->os'.length=ae.length->ae[j]? =some k->bU obj (Ce ae os'++g) k=Dy os' j
 |[],_,_,_,_,_,_,h=>by simp at h
 |i::ae,[],_,_,_,_,hl,_=>by simp at hl
 |i::ae,p::os',g,j,k,hn,hl,h=>by
  simp only[List.nodup_cons]at hn;cases j with
  |zero=>
   simp only[List.getElem?_cons_zero,ay]at h;subst h;simp[Ce,bU,Dy]
  |succ j=>
   simp only[List.getElem?_cons_succ]at h;have hne:k≠i:=λe=>hn.1 (e ▸ cO h);simp only[Ce,cons_append,bU,aW hne,abU hn.2 (by simpa using hl) h];simp[Dy]
theorem QR:∀{ae:U Nat},ae.Nodup->∀{j j' k:Nat},ae[j]? =some k->ae[j']? =some k->j=j'
 |[],_,_,_,_,h,_=>by simp at h
 |i::ae,hn,j,j',k,h,h'=>by
  simp only[List.nodup_cons]at hn;cases j with
  |zero=>grind
  |succ j=>
   cases j' with
   |zero=>grind
   |succ j'=>exact congrArg (· +1) (QR hn.2 (k:=k) (by simpa using h) (by simpa using h'))
theorem Mem.handed(h:Mem P w0 O0 β I obj w){ae cL:U Nat}{os:U fe}(hnd:ae.Nodup)(hlen:ae.length=os.length)
 (hm:∀(j:Nat) k p,ae[j]? =some k->os[j]? =some p->∃o,obj k=some o/\o.sz=p.1/\eu (o.rows.take p.2.length)=aL p.2) (Cd:∀k∈cL,k∉ae):
 Mem P w (qC (βc ae β) (fm β obj cL I)) (βc ae β) (fm β obj cL I) (rK os) w:=by
 have look:∀j o',rK os j=some o'->∃k p o,ae[j]? =some k/\os[j]? =some p/\o'=gj p/\obj k=some o/\o.sz=p.1/\eu (o.rows.take p.2.length)=aL p.2:=by
  intro j o' hj;simp only[rK,eH]at hj;obtain⟨p,hp,rfl⟩:=hj;have hjl:j<ae.length:=by rw[hlen];exact(dh.1 hp).1
  obtain⟨o,g⟩:=hm j _ p (bX hjl) hp;exact⟨_,p,o,bX hjl,hp,rfl,g⟩
 have hb0:∀j k,ae[j]? =some k->βc ae β j=β k:=λj k hk=>by simp[βc,hk]
 constructor
 .intro j o' hj;obtain⟨k,p,o,g1,g2,rfl,g3,g4,g5⟩:=look j o' hj;have⟨B,hB,hO⟩:=h.cD k o g3;refine⟨B,by rw[hb0 j k g1];exact hB,?_⟩;have:OR P β w I (gj p) B:=by
   cases B with
   |none=>
    simp only[OR]at hO ⊢;rw[hO]at g5;simpa[eu,gj]using g5.symm
   | «at» b s n=>
    obtain⟨h1,c,e,h2,h3,h4⟩:=hO;refine⟨by rw[h1,g4];rfl,c,e,h2,h3,?_⟩;have:=bo.wk _ _ _ _ (bo.take p.2.length _ _ _ _ h4);rw[g5]at this;exact this
   |mp b=>exact OR.part g4 g5 hO
  exact this.dat λb hb=> .inl hb
 .intro j j' o o' B B' b h1 h2 h3 h4 h5 h6;have⟨k,p,q,g1,_,_,g3,_⟩:=look j o h1;have⟨k',p',q',g1',_,_,g3',_⟩:=look j' o' h2;rw[hb0 j k g1]at h3;rw[hb0 j' k' g1']at h4;have:=h.gd k k' q q' B B' b g3 g3' h3 h4 h5 h6;subst this;exact QR hnd g1 g1'
 .intro j o B b h1 h2 h5;have⟨k,p,q,g1,_,_,g3,_⟩:=look j o h1;have h2':=h2;rw[hb0 j k g1]at h2;have⟨a1,a2,_⟩:=h.ownB k q B b g3 h2 h5;refine⟨?_,a2,.inl ⟨j,B,h2',h5⟩⟩;rintro (hI |⟨k',o',s',n',e1,e2,e3⟩)
  .exact a1 hI
  .have:=h.nb k k' q o' b g3 e2 ⟨B,h2,h5⟩ (.at e3);subst this;exact Cd _ e1 (cO g1)
 .exact N7 h _
 .exact λb hb=> .inl hb
 .exact λ_ _ _=>rfl
 .exact aC _
 .rfl
 .rfl
 .rfl
 .intro j B hj;simp only[qC]at hj;split at hj
  .exact hj
  .cases hj
 .exact h.vars.mono (λ _ _=>rfl) (λ b hb=> .inl hb)
theorem Mem.E0(h:Mem P w0 O0 β I obj w){ae cL:U Nat}{os':U (Option fe)}{w':World}{I1 I2:Nat->Prop}{xl:Nat->J aS}
 (hM:Mem P w (qC (βc ae β) (fm β obj cL I)) (βc ae β) I1 (Dy os') w') (hI:∀b,I b->I2 b) (hI1:∀b,I2 b->I1 b) (jz:∀k∈ae,∃o,obj k=some o)
 (ho:∀k o,xl k=some o->(∃ j,ae[j]? =some k/\Dy os' j=some o/\∀B,OR P (βc ae β) w' I1 o B->OR P β w' I2 o B)\/(k∉ae/\obj k=some o/\∀b,gb β k b->¬I2 b)):
 Same I w w'/\Mem P w0 O0 β I2 xl w'/\(∀ b,Xc (βc ae β) b->¬I b/\(O0.own b\/w0.heap.size<=b))/\∀k o b,k∉ae->obj k=some o->gb β k b->¬Xc (βc ae β) b:=by
 have hb0:∀j k,ae[j]? =some k->βc ae β j=β k:=λj k hk=>by simp[βc,hk]
 have hown:∀b,Xc (βc ae β) b->∃k o,k∈ae/\obj k=some o/\gb β k b:=by
  rintro b ⟨j,B,hj,hB⟩;have⟨k,h1,h2⟩:=N8 hj;have⟨o,h3⟩:=jz k (cO h1);exact⟨k,o,cO h1,h3,B,h2,hB⟩
 have hold:∀k o,xl k=some o->∃q,obj k=some q:=by
  intro k o hk;rcases ho k o hk with ⟨j,h1,_⟩ |⟨_,h2,_⟩
  .exact jz k (cO h1)
  .exact⟨o,h2⟩
 have hapart:∀k o b,k∉ae->obj k=some o->gb β k b->¬Xc (βc ae β) b:=by
  intro k o b hk h1 h2 hb;have⟨k',o',g1,g2,g3⟩:=hown b hb;have:=h.nb k k' o o' b h1 g2 h2 g3;subst this;exact hk g1
 have hS:Same I w w':=λb hb=>hM.keep b (h.lt b hb) (λ hb'=>by
  have⟨k',o',g1,g2,g3⟩:=hown b hb';exact(h.ik k' o' b g2 g3).1 hb)
 refine⟨hS,?_,λb hb=>?_,hapart⟩
 .constructor
  .intro k o hk;rcases ho k o hk with ⟨j,h1,h2,h3⟩ |⟨h1,h2,h3⟩
   .have⟨B,hB,hO⟩:=hM.cD j o h2;exact⟨B,by rw[<- hb0 j k h1];exact hB,h3 B hO⟩
   .have⟨B,hB,hO⟩:=h.cD k o h2;refine⟨B,hB,OR.mono (λ _ _ h=>h) hS hI (λ b e=>hM.keep b (h.ownB k o B b h2 hB e).2.1 (hapart k o b h1 h2 ⟨B,hB,e⟩)) hO⟩
  .intro k k' o o' B B' b h1 h2;have⟨q,e1⟩:=hold k o h1;have⟨q',e2⟩:=hold k' o' h2;exact h.gd k k' q q' B B' b e1 e2
  .intro k o B b h1 h2 h5;have⟨q,e1⟩:=hold k o h1;have⟨a1,a2,a3⟩:=h.ownB k q B b e1 h2 h5;refine⟨?_,Nat.lt_of_lt_of_le a2 hM.le,a3⟩;rcases ho k o h1 with ⟨j,g1,g2,_⟩ |⟨_,_,g3⟩
   .exact λhb=>(hM.ownB j o B b g2 (by rw[hb0 j k g1];exact h2) h5).1 (hI1 b hb)
   .exact g3 b ⟨B,h2,h5⟩
  .exact λb hb=>hM.lt b (hI1 b hb)
  .intro b hb;rcases hM.up b (hI1 b hb)with (g |⟨k',o',s',n',_,g2,g3⟩) |g |g
   .exact h.up b g
   .exact .inr (h.own k' o' b s' n' g2 g3).2.2
   .have⟨k',o',_,g2,g3⟩:=hown b g;exact .inr (h.ik k' o' b g2 g3).2.2
   .exact .inr (.inr (Nat.le_trans h.le g))
  .intro b hb hno;refine(hM.keep b (Nat.lt_of_lt_of_le hb h.le) (λ hb'=>?_)).trans (h.keep b hb hno);have⟨k',o',_,g2,g3⟩:=hown b hb';rcases (h.ik k' o' b g2 g3).2.2 with g |g
   .exact hno g
   .omega
  .exact Nat.le_trans h.le hM.le
  .exact hM.os.trans h.os
  .exact hM.tape.trans h.tape
  .exact hM.output.trans h.output
  .exact h.anch
  .exact h.vars.mono hS hI
 .have⟨k',o',_,g2,g3⟩:=hown b hb;exact⟨(h.ik k' o' b g2 g3).1,(h.ik k' o' b g2 g3).2.2⟩
mutual
theorem ada{get:Nat->Option aS}{ae:List Nat}:∀{x:AV}{hs:List LH}{p:AV×List LH×List Prop},qf P get ae x hs=some p->(∀ q∈p.2.2,q)->gx P get ae x p.1:=by
 intro x hs p h ho;unfold qf at h;split at h
 .split at h
  .cases h;exact gx.base _ _ _ (.inl ⟨_,_,_,_,‹_›,rfl,rfl⟩)
  .cases h
 .split at h
  .cases h;exact gx.base _ _ _ (.inr (.inl ⟨_,_,_,_,‹_›,rfl,rfl⟩))
  .cases h
 .split at h
  .cases h;exact gx.base _ _ _ (.inr (.inr (.inl ⟨_,_,‹_›,rfl,rfl⟩)))
  .cases h
 .rename_i cs hs;simp only[ai,ay]at h;obtain⟨q,h1,rfl⟩:=h;simp only[gx];exact .inl (nT h1 (λ y hy=>ho y (by simp[hy])))
 .split at h
  .rename_i hd;refine gx.base _ _ _ (.inr (.inr (.inr ⟨λ k hk=>by simpa using all_eq_true.1 hd k (by simpa[refs]using hk),ER _ _ _ h ho⟩)))
  .cases h
 .rename_i F first caps hs
  simp only[ai,ay]at h;obtain⟨q,h1,q',h2,rfl⟩:=h;simp only[gx];exact .inl ⟨trivial,nT h1 (λ y hy=>ho y (by simp[hy])),nT h2 (λ y hy=>ho y (by simp[hy]))⟩
 .split at h
  .rename_i hd;refine gx.base _ _ _ (.inr (.inr (.inr ⟨λ k hk=>by simpa using all_eq_true.1 hd k hk,ER _ _ _ h ho⟩)))
  .cases h
theorem nT{get:Nat->Option aS}{ae:List Nat}:∀{xs:List AV}{hs:List LH}{p:List AV×List LH×List Prop},mM P get ae xs hs=some p->(∀ q∈p.2.2,q)->fg P get ae xs p.1
 |[],hs,p,h,_=>by simp only[mM,ay]at h;subst h;trivial
 |x::xs,hs,p,h,ho=>by
  simp only[mM,ai,ay]at h;obtain⟨q,h1,q',h2,rfl⟩:=h;exact⟨ada h1 (λ y hy=>ho y (by simp[hy])),nT h2 (λ y hy=>ho y (by simp[hy]))⟩
end
theorem ma.sound(h:Mem P w0 O0 β I obj w){get:Nat->J aS}(hg:∀k o,get k=some o->obj k=some o){ae:U Nat}(cL:U Nat){x y:AV}{v:Value}(hk:∀k,k∈refs x->k∉ae->k∈cL)(hb:ma P get ae x y)(hv1:VR P β w I x v):VR P (βc ae β) w (fm β obj cL I) y v:=by
 rcases hb with ⟨j,k,aa,len,e1,rfl,rfl⟩ |⟨j,k,row,aa,e1,rfl,rfl⟩ |⟨j,k,e1,rfl,rfl⟩ |⟨e1,e2⟩
 .simp only[VR]at hv1 ⊢;have:βc ae β j=β k:=by simp[βc,e1]
  rw[this];exact hv1
 .simp only[VR]at hv1 ⊢;have:βc ae β j=β k:=by simp[βc,e1]
  rw[this];exact hv1
 .simp only[VR]at hv1 ⊢;have:βc ae β j=β k:=by simp[βc,e1]
  rw[this];exact hv1
 .have:=fh.sound h cL x y v (λ k hk'=>hk k hk' (e1 k hk')) (fh.weaken hg x y e2) hv1;exact VR.mono (λ k B h=>by simp[mA]at h) (λ _ _=>rfl) (λ _ h=>h) _ _ this
mutual
theorem gx.sound(h:Mem P w0 O0 β I obj w){get:Nat->Option aS}(hg:∀k o,get k=some o->obj k=some o){ae:List Nat}(cL:List Nat):∀(x y:AV)(v:Value),(∀ k,k∈refs x->k∉ae->k∈cL)->gx P get ae x y->VR P β w I x v->VR P (βc ae β) w (fm β obj cL I) y v:=by
 intro x y v hk hb hv;unfold gx at hb;split at hb
 .rcases hb with ⟨rfl,h1,h2⟩ |hb
  .simp only[VR]at hv ⊢;obtain⟨fs,cs,e,g1,g2⟩:=hv;exact⟨fs,cs,e,fg.sound h hg cL _ _ _ (λ k hk'=>hk k (by simp[refs,hk'])) h1 g1,fg.sound h hg cL _ _ _ (λ k hk'=>hk k (by simp[refs,hk'])) h2 g2⟩
  .exact ma.sound h hg cL hk hb hv
 .rcases hb with h1 |hb
  .simp only[VR]at hv ⊢;obtain⟨vs,e,g1⟩:=hv;exact⟨vs,e,fg.sound h hg cL _ _ _ (λ k hk'=>hk k (by simpa[refs]using hk')) h1 g1⟩
  .exact ma.sound h hg cL hk hb hv
 .exact ma.sound h hg cL hk hb hv
theorem fg.sound(h:Mem P w0 O0 β I obj w){get:Nat->Option aS}(hg:∀k o,get k=some o->obj k=some o){ae:List Nat}(cL:List Nat):∀(xs ys:List AV)(vs:List Value),(∀ k,k∈eX xs->k∉ae->k∈cL)->fg P get ae xs ys->bj P β w I xs vs->bj P (βc ae β) w (fm β obj cL I) ys vs
 |[],[],[],_,_,_=>by simp[bj]
 |x::xs,y::ys,v::vs,hk,hb,hv=>by
  simp only[bj]at hv ⊢;exact⟨gx.sound h hg cL x y v (λ k hk'=>hk k (by simp[eX,hk'])) hb.1 hv.1,fg.sound h hg cL xs ys vs (λ k hk'=>hk k (by simp[eX,hk'])) hb.2 hv.2⟩
 |[],_::_,_,_,hb,_=>hb.elim
 |_::_,[],_,_,hb,_=>hb.elim
 |[],[],_::_,_,_,hv=>by simp[bj]at hv
 |_::_,_::_,[],_,_,hv=>by simp[bj]at hv
end
theorem aeU{os':U (Option fe)}{j:Nat}{o:aS}(h:Dy os' j=some o):∃p,some p∈os'/\o=gj p:=by
 simp only[Dy,eH,Option.join_eq_some_iff]at h;obtain⟨p,hp,rfl⟩:=h;exact⟨p,cO hp,rfl⟩
theorem aeV(h:Mem P w0 O0 β I obj w)(hn:β (cx i)=none){ae cL:U Nat}{os':U (Option fe)}{rv:RV}{p:AV×List (Nat×Option aS)}{keep:Bool}(hp:imp i ae rv=some p)(hk:keep=true->rv.flat/\Xd os')
 (hnd:ae.Nodup) (hlen:os'.length=ae.length) (jz:∀k∈ae,∃o,obj k=some o)
 {w':World} {I1:Nat->Prop} {v:Value} (hM:Mem P w (qC (βc ae β) (fm β obj cL I)) (βc ae β) I1 (Dy os') w') (h1:∀b,fm β obj cL I b->I1 b) (hr:ri P (AH w (βc ae β) os') (βc ae β) rv w' I1 v):
 ∃ β' I',Step β I w (cx i) β' I' w'/\Mem P w0 O0 β' I' (bU obj (p.2++(Ce ae os'++if keep then []else cL.map (λ k=>(k,none))))) w'/\VR P β' w' I' p.1 v:=by
 have look:∀g k o,bU obj (Ce ae os'++g) k=some o->(∃ j,ae[j]? =some k/\Dy os' j=some o)\/(k∉ae/\bU obj g k=some o):=by
  intro g k o hk;by_cases hki:k∈ae
  .obtain⟨j,hj⟩:=List.getElem?_of_mem hki;rw[abU hnd hlen hj]at hk;exact .inl ⟨j,hj,hk⟩
  .rw[akz hki]at hk;exact .inr ⟨hki,hk⟩
 have main:∀(g:U (Nat×Option aS))(I2:Nat->Prop),(∀ k o,bU obj g k=some o->obj k=some o)->(∀ b,I b->I2 b)->(∀ b,I2 b->I1 b)->(∀ j o B,Dy os' j=some o->OR P (βc ae β) w' I1 o B->OR P β w' I2 o B)->
  (∀ k o b,k∉ae->bU obj g k=some o->gb β k b->¬I2 b)->ri P (AH w (βc ae β) os') (βc ae β) rv w' I2 v->
  ∃ β' I',Step β I w (cx i) β' I' w'/\Mem P w0 O0 β' I' (bU obj (p.2++(Ce ae os'++g))) w'/\VR P β' w' I' p.1 v:=by
  intro g I2 hg hI hI1 hor HO hr2;obtain⟨hS,hM2,hown,hapart⟩:=h.E0 (xl:=bU obj (Ce ae os'++g)) hM hI hI1 jz (λ k o hk=>by
   rcases look g k o hk with ⟨j,e1,e2⟩ |⟨e1,e2⟩
   .exact .inl ⟨j,e1,e2,λB=>hor j o B e2⟩
   .exact .inr ⟨e1,hg k o e2,λb e3=>HO k o b e1 e2 e3⟩)
  obtain⟨β',k1,k2,k3⟩:=QO (ae:=ae) (F:=AH w (βc ae β) os') (βc:=βc ae β) hM2 hn (λ k o b e1 e2 hb=>by
   rcases look g k o e1 with ⟨j,e3,e4⟩ |⟨e3,e4⟩
   .exact hb.2 j o e4 (by obtain⟨B,e5,e6⟩:=e2;exact⟨B,by simp[βc,e3,e5],e6⟩)
   .rcases hb.1 with hb |hb
    .exact hapart k o b e3 (hg k o e4) e2 hb
    .have:=(h.ik k o b (hg k o e4) e2).2.1;omega) (λ b hb=>by
   rcases hb.1 with hb |hb
   .exact(hown b hb).2
   .exact .inr (Nat.le_trans h.le hb)) (λ j B hj=>N8 hj) hp hr2
  refine⟨β',I2,⟨k1.other,k1.ext,hS,hI⟩,?_,k3⟩;have e:bU obj (p.2++(Ce ae os'++g))=bU (bU obj (Ce ae os'++g)) p.2:=funext λk=>uf obj _ _ k;rw[e];exact k2
 cases keep with
 |true=>
  have⟨hf1,hf2⟩:=hk rfl;exact main [] I (λ _ _ h=>h) (λ _ h=>h) (λ b hb=>h1 b (.inl hb)) (λ j o B hj hO=>by
   obtain⟨q,hq,rfl⟩:=aeU hj;exact OR.flat (hf2 q hq) hO) (λ k o b _ e1 e2=>(h.ik k o b e1 e2).1) (ri.flat hf1 (λ b hb=>h1 b (.inl hb)) hr)
 |false=>
  have hsub:∀k o,bU obj (cL.map λk=>(k,none)) k=some o->obj k=some o/\k∉cL:=by
   intro k o hk;rw[y9]at hk;split at hk
   .cases hk
   .exact⟨hk,‹_›⟩
  refine main _ I1 (λ k o hk=>(hsub k o hk).1) (λ b hb=>h1 b (.inl hb)) (λ _ h=>h) (λ j o B hj hO=>by
   obtain⟨q,hq,rfl⟩:=aeU hj;exact OR.dat (λ _ h=>h) hO) (λ k o b hki e1 e2 hb=>?_) hr
  have⟨f1,f2⟩:=hsub k o e1;have⟨a1,a2,_⟩:=h.ik k o b f1 e2;rcases hM.up b hb with (g |⟨k',o',s',n',g1,g2,g3⟩) |⟨j,B',g,g'⟩ |g
  .exact a1 g
  .have:=h.nb k k' o o' b f1 g2 e2 (.at g3);subst this;exact f2 g1
  .have⟨k',g1,g2⟩:=N8 g;have⟨o',g3⟩:=jz k' (cO g1);have:=h.nb k k' o o' b f1 g3 e2 ⟨B',g2,g'⟩;subst this;exact hki (cO g1)
  .omega
theorem Xe(h:Mem P w0 O0 β I obj w)(hn:β (cx i)=none){f:AV}{args:U AV}{cm:iu}{get:Nat->J aS}{ab:Out}(hg:∀k o,get k=some o->obj k=some o)
 {fv:Value} {vs:Array Value} {am:Array Operand} {fo:Operand} {r:Operand->Value} (ha:IU P i f args cm get=some ab) (cA:ab.ob) (hf:VR P β w I f fv) (hv:bj P β w I args vs.toList) (hfo:r fo=fv) (hops:vs=am.map r)
 {dst:J Tmp} {aq:String} {after:Array Edge} {guard:J (Nat×Bool)} {ty:TypeId} {cX:Array TypeId}:
 Bf P w0 O0 β I obj w i ab ((execOp r ⟨dst,.call { callee:= .value fo,args:=am,argTypes:=cX },ty,aq,after,guard⟩).run P w):=by
 unfold IU at ha;split at ha
 .rename_i F first caps ae os os' hs rv keep
  split at ha
  .rename_i hc;obtain⟨hnd,hlen⟩:=hc;cases hp:imp i ae rv with
   |none=>simp[hp]at ha
   |some p=>
   cases hmo:Cc get ae os with
   |none=>simp[hp,hmo]at ha
   |some mo=>
   cases hq:mM P get ae (first++args++caps) hs with
   |none=>simp only[hp,hmo,hq,af,Option.bind_none,reduceCtorEq]at ha
   |some q=>
   simp only[hp,hmo,hq,af]at ha;simp only[VR]at hf;obtain⟨fs,cs,rfl,hf1,hf2⟩:=hf;have hout:(∀ x∈q.2.2++mo,x)/\p6 P F q.1 os os' rv/\(keep=true->rv.flat/\Xd os')/\ab.v=p.1/\ab.upd=p.2++(Ce ae os'++if keep then []else(IQ (first++args++caps) ae).map (λ k=>(k,none))):=by
    cases keep with
    |true=>
     simp only[if_true,ay]at ha;subst ha;have cA:=rT _ cA;exact⟨λ x hx=>cA x (by simp only[bg]at hx ⊢;exact .inl hx),cA (p6 P F q.1 os os' rv) (by simp),λ_=>⟨cA rv.flat (by simp),cA (Xd os') (by simp)⟩,rfl,by simp⟩
    |false=>
     simp only[Bool.false_eq_true,if_false,ay]at ha;subst ha;have cA:=rT _ cA;exact⟨λ x hx=>cA x (by simp only[bg]at hx ⊢;exact .inl hx),cA (p6 P F q.1 os os' rv) (by simp),λh=>(by cases h),rfl,by simp⟩
   obtain⟨o1,o2,o3,o4,o5⟩:=hout;obtain⟨⟨fn,e1,e2,e3⟩,hcon⟩:=o2;obtain⟨hl2,hmm⟩:=Tx hmo (λ x hx=>o1 x (by simp[hx]));have hmm':∀(j:Nat) k p,ae[j]? =some k->os[j]? =some p->∃o,obj k=some o/\o.sz=p.1/\eu (o.rows.take p.2.length)=aL p.2:=λj k p h1 h2=>by
    have⟨o,g1,g2⟩:=hmm j k p h1 h2;exact⟨o,hg k o g1,g2⟩
   have jz:∀k∈ae,∃o,obj k=some o:=by
    intro k hk;obtain⟨j,hj⟩:=List.getElem?_of_mem hk;have hjl:j<os.length:=(by rw[<- hl2];exact(dh.1 hj).1);obtain⟨o,g,_⟩:=hmm' j k _ hj (bX hjl);exact⟨o,g⟩
   have S6:∀k∈IQ (first++args++caps) ae,k∉ae:=λk hk=>by
    simp only[IQ,mem_filter]at hk;simpa using hk.2
   have hM:=h.handed (cL:=IQ (first++args++caps) ae) hnd hl2 hmm' S6;have hall:bj P β w I (first++args++caps) (fs++vs++cs).toList:=by
    simp only[Array.toList_append];exact bj.append _ _ _ _ (bj.append _ _ _ _ hf1 hv) hf2
   have oT:=fg.sound h hg (IQ (first++args++caps) ae) _ _ _ (λ k hk hn=>by simp only[IQ,mem_filter];exact⟨hk,by simpa using hn⟩) (nT hq (λ x hx=>o1 x (by simp[hx]))) hall;refine⟨F,fs++vs++cs,?_,(hcon w _ _ _ (λ k hk=>?_) hM oT).mono ?_⟩
   .have hb:¬fn.body=none:=(by cases hh:fn.body<;>simp[hh]at e2 ⊢);have e3' : ¬ fn.name = "runtime.NumGoroutine" := (by simpa using e3);simp[execOp,resolve,hfo,<- hops,Deferred.ofValue,invoke,callFunc,e1,e3',hb]
   .simp[βc,List.getElem?_eq_none (show ae.length<=k by omega)]
   .rintro e w' ⟨v',I1,rfl,g1,g2,g3⟩;have⟨β',I',k1,k2,k3⟩:=aeV (keep:=keep) h hn hp o3 hnd hlen jz g1 g2 g3;exact⟨v',β',I',rfl,k1,by rw[o5];exact k2,by rw[o4];exact k3⟩
  .cases ha
 .cases ha
theorem Xf(h:Mem P w0 O0 β I obj w)(hn:β (cx i)=none){f:AV}{args:U AV}{cm:iu}{get:Nat->J aS}{ab:Out}(hg:∀k o,get k=some o->obj k=some o)
 {fv:Value} {vs:Array Value} {am:Array Operand} {fo:Operand} {r:Operand->Value} (ha:rU P i f args cm get=some ab) (cA:ab.ob) (hf:VR P β w I f fv) (hv:bj P β w I args vs.toList) (hfo:r fo=fv) (hops:vs=am.map r)
 {dst:J Tmp} {aq:String} {after:Array Edge} {guard:J (Nat×Bool)} {ty:TypeId} {cX:Array TypeId}:
 Bf P w0 O0 β I obj w i ab ((execOp r ⟨dst,.call { callee:= .value fo,args:=am,argTypes:=cX },ty,aq,after,guard⟩).run P w):=by
 unfold rU at ha;split at ha
 .exact Xe h hn hg ha cA hf hv hfo hops
 .exact aaF h hn hg ha cA hf hv hfo hops
end
def EV(op:BinOp)(b:AV)(yes:Bool):J Out:=
 match op with
 | .eql=>pv (if yes then b else .t (.sc (.bool false)))
 | .neq=>pv (if yes then b else .t (.sc (.bool true)))
 |_=>none
def wj(T:dC)(op:BinOp)(t:TypeId)(x y:AV):J Out:=
 (T t).bind λti=>match ti.k,x,y with
 | .slice _,.t (.sl rows),.cM=>EV op .ub rows.isEmpty
 | .slice _,.own _ _ len,.cM=>EV op .ub (len==0)
 | .slice _,.oz _ len,.cM=>EV op (.t (.sc (.bool (op== .eql)))) (len==0)
 | .slice _,.cM,.cM=>EV op (.t (.sc (.bool (op== .eql)))) true
 |_,_,_=>none
def Pr(T:dC)(s d:TypeId)(x:AV):J Out:=
 (T s).bind λ_=>(T d).bind λdi=>match di.k,x with
 | .int k,.t (.sc (.int _ n))=>pv (.t (.sc (.int k (k.wrap n))))
 |_,_=>none
def Xg(T:dC)(t:TypeId)(x j:AV)(n:Int):J Out:=
 (T t).bind λti=>match ti.k,x,j with
 | .str,.t (.sc (.string s)),.t (.sc (.int _ m))=>kx (.t (.sc (.int .u8 n))) (0<=m/\∃b,s[m.toNat]? =some b/\n=b.toNat)
 | .arr m e,.agg cs,.t (.sc (.int _ q))=>(T e).bind λei=>(part' ei.agg ei.size ((cs.drop (q.toNat*ei.size)).take ei.size)).bind λv=>kx v (0<=q/\q<(m:Int))
 |_,_,_=>none
def Dz(T:dC)(t:TypeId)(x:AV)(lo hi:J AV):J Out:=
 (T t).bind λti=>match ti.k,x with
 | .slice e,.cM=>(T e).bind λ_=>(bnd 0 lo).bind λl=>(bnd 0 hi).bind λh=>kx .cM (l=0/\h=0)
 |_,_=>none
def vX(T:dC)(i:Nat)(b:Builtin)(args:U AV)(cX:U TypeId)(get:Nat->J aS):J Out:=
 match b,args,cX with
 | .cap,[.cM],[t]=>(T t).bind λti=>match ti.k with
  | .slice _=>pv (.t (.sc (.int .i64 0)))
  |_=>none
 | .clear,[.own k aa _],[t]=>(T t).bind λti=>match ti.k with
  | .slice e=>(T e).bind λei=>(get k).bind λo=>if o.sz=ei.size then some ⟨.eC [],[(k,some ⟨o.sz,o.rows.take aa⟩)],[]⟩else none
  |_=>none
 | .append,[.cM,.t (.sc (.int _ m))],[t,u]=>(T t).bind λti=>(T u).bind λui=>match ti.k,ui.k with
  | .slice e,.int _=>(T e).bind λei=>some ⟨.own (cx i) 0 m.toNat,[(cx i,some ⟨ei.size,eu (List.replicate m.toNat (ei.zero.map cv))⟩)],[0<=m/\m.toNat*ei.bytes<=140737488355328/\m.toNat<=maxLen/\0<ei.size]⟩
  |_,_=>none
 |_,_,_=>none
def pO(T:dC)(i:Nat)(o:Oper)(n:Int)(ρ:Operand->AV)(get:Nat->J aS):J Out:=
 match o.op with
 | .binOp op t x y _=>wj T op t (ρ x) (ρ y)
 | .convert s d x=>Pr T s d (ρ x)
 | .index t x j=>Xg T t (ρ x) (ρ j) n
 | .slice t x lo hi none=>Dz T t (ρ x) (lo.map ρ) (hi.map ρ)
 | .call { callee:= .builtin b,args:=args,argTypes:=cX }=>vX T i b (args.toList.map ρ) cX.toList get
 |_=>none
section
variable {T:dC}
theorem Ty{i:Nat}{o:Oper}{cm:iu}{ρ ρ':Operand->AV}{get:Nat->J aS}(h:∀x∈o.op.operands,ρ x=ρ' x):qZ T i o cm ρ get=qZ T i o cm ρ' get:=by
 obtain⟨dst,op,ty,aq,after,guard⟩:=o;have pairs:∀ps:Array (Nat×Operand),(∀ x∈(ps.toList.map (·.2)).toArray,ρ x=ρ' x)->(ps.toList.map λ(j,x)=>(j,ρ x))=(ps.toList.map λ(j,x)=>(j,ρ' x)):=λps hp=>
  map_congr_left λp hm=>by
   obtain⟨i,x⟩:=p;simp only[hp x (by simp only[List.mem_toArray];exact mem_map.2 ⟨(i,x),hm,rfl⟩)]
 cases op<;>simp only[Op.operands]at h<;>simp only[qZ]
 case build t ps=>rw[pairs ps h]
 case buildSlice t n ps=>rw[pairs ps h]
 case makeFunc fn first captured=>
  have h1:first.toList.map ρ=first.toList.map ρ':=map_congr_left λx hx=>h x (by simp;exact .inl (by simpa using hx))
  have h2:captured.toList.map ρ=captured.toList.map ρ':=map_congr_left λx hx=>h x (by simp;exact .inr (by simpa using hx));cases fn<;>simp only[h1,h2]
 case call c=>
  obtain⟨callee,args,cX⟩:=c;cases callee<;>simp only
  case builtin b=>
   have h1:args.toList.map ρ=args.toList.map ρ':=map_congr_left λx hx=>h x (by simp[Call.operands];simpa using hx);rw[h1]
 case slice t x lo hi mx=>
  have hx:=h x (by simp);cases mx with
  |some m=>rfl
  |none=>
   simp only[hx];cases lo<;>cases hi<;>simp_all
 case pick c a b=>rw[h c (by simp),h a (by simp),h b (by simp)]
 all_goals (first |rfl |(simp_all;done))
theorem sK:∀(l:U Prop),(∀ p∈l,p)->kE l
 |[],_=>trivial
 |[q],h=>h q (by simp)
 |q::r::l,h=>⟨h q (by simp),sK (r::l) λp hp=>h p (fF _ hp)⟩
theorem adb{i:Nat}{o:Oper}{n:Int}{ρ ρ':Operand->AV}{get:Nat->J aS}(h:∀x∈o.op.operands,ρ x=ρ' x):pO T i o n ρ get=pO T i o n ρ' get:=by
 obtain⟨dst,op,ty,aq,after,guard⟩:=o;cases op<;>simp only[Op.operands]at h<;>simp only[pO]
 case binOp a b c d e=>rw[h c (by simp),h d (by simp)]
 case convert s d x=>rw[h x (by simp)]
 case index t x j=>rw[h x (by simp),h j (by simp)]
 case call c=>
  obtain⟨callee,args,cX⟩:=c;cases callee<;>simp only
  case builtin b=>
   have h1:args.toList.map ρ=args.toList.map ρ':=map_congr_left λx hx=>h x (by simp[Call.operands];simpa using hx);rw[h1]
 case slice t x lo hi mx=>
  have hx:=h x (by simp);cases mx with
  |some m=>rfl
  |none=>
   simp only[hx];cases lo<;>cases hi<;>simp_all
end
def ahD:Op->Bool
 | .pick .. =>true
 |_=>false
def IV(P:Program)(T:dC)(i:Nat)(o:Oper)(ae:U Nat)(fr:Operand->AV)(cm:iu)(ρ:Operand->AV)(get:Nat->J aS):J Out:=
 if ahD o.op then none else(qZ T i o cm fr (λ k=>if k∈ae then none else get k)).bind λab=>
  some ⟨ab.v,ab.upd++ae.map (λ k=>(k,none)),ab.obs++[∀ x∈o.op.operands,(fh P get (ρ x) (fr x)/\∀k∈refs (ρ x),k∈ae)\/fr x=ρ x]⟩
theorem ade{P:Program}{T:dC}{i:Nat}{o:Oper}{ae:U Nat}{fr:Operand->AV}{cm:iu}{ρ ρ':Operand->AV}{get:Nat->J aS}(h:∀x∈o.op.operands,ρ x=ρ' x):IV P T i o ae fr cm ρ get=IV P T i o ae fr cm ρ' get:=by
 unfold IV;have:(∀ x∈o.op.operands,(fh P get (ρ x) (fr x)/\∀k∈refs (ρ x),k∈ae)\/fr x=ρ x)=(∀ x∈o.op.operands,(fh P get (ρ' x) (fr x)/\∀k∈refs (ρ' x),k∈ae)\/fr x=ρ' x):=by grind
 rw[this]
section
variable {P:Program} {T:dC} {w0:World} {O0:i9} {β:Nat->Option cE} {I:Nat->Prop} {obj:Nat->Option aS} {w:World} {i:Nat}
theorem ahE(hT:eZ P T){op:BinOp}{t:TypeId}{x y:AV}{xo yo:Operand}{u v:Value}{ab:Out}(ha:wj T op t x y=some ab)(hx:VR P β w I x u)(hy:VR P β w I y v):
 ∃z,(do eqGuard op t xo yo u v;binOp op t u v:Sem Value).run P w= .ok z w/\VR P β w I ab.v z/\ab.upd=[]:=by
 unfold wj at ha;cases hti:T t with
 |none=>simp[hti]at ha
 |some ti=>
  have ht:=hT t ti hti;simp only[hti,af]at ha;have eq:∀e a n c,P.underlying t=some (.slice e)->(Op.equal t (.slice a n c) (.slice none 0 0)).run P w= .ok a.isNone w:=by
   intro e a n c hu;have:∀d,(Op.equalIn (d+1) t (.slice a n c) (.slice none 0 0)).run P w= .ok a.isNone w:=by
    intro d;cases a<;>simp[Op.equalIn,run_underlying hu]
   exact this 9999
  have main:∀e,P.underlying t=some (.slice e)->∀a n c,u= .slice a n c->v= .slice none 0 0->(op= .eql\/op= .neq)->
   (do eqGuard op t xo yo u v;binOp op t u v:Sem Value).run P w= .ok (.bool (if op= .eql then a.isNone else !a.isNone)) w:=by
   rintro e hu a n c rfl rfl (rfl |rfl)
   .simp[eqGuard,binOp,eq e a n c hu]
   .simp[eqGuard,binOp,eq e a n c hu]
  have fin:∀e,P.underlying t=some (.slice e)->∀a n c,u= .slice a n c->v= .slice none 0 0->∀(bv:AV)(yes:Bool),EV op bv yes=some ab->
   (yes=false->a.isNone=false)->(yes=true->∀q,(q=if op= .eql then a.isNone else !a.isNone)->VR P β w I bv (.bool q))->
   ∃z,(do eqGuard op t xo yo u v;binOp op t u v:Sem Value).run P w= .ok z w/\VR P β w I ab.v z/\ab.upd=[]:=by
   intro e hu a n c h1 h2 bv yes hn hno HH;unfold EV at hn;split at hn
   .simp only[pv,ay]at hn;subst hn;refine⟨_,main e hu a n c h1 h2 (.inl rfl),?_,rfl⟩;cases yes with
    |true=>exact HH rfl _ rfl
    |false=>simp only[hno rfl];exact⟨by simp,trivial⟩
   .simp only[pv,ay]at hn;subst hn;refine⟨_,main e hu a n c h1 h2 (.inr rfl),?_,rfl⟩;cases yes with
    |true=>exact HH rfl _ rfl
    |false=>simp only[hno rfl];exact⟨by simp,trivial⟩
   .cases hn
  split at ha
  .rename_i e rows hk;have hu:=iB ht hk;simp only[VR]at hy;simp only[VR,TR]at hx;rcases hx with ⟨rfl,a,c,rfl,_⟩ |⟨b,aa,c,sz,rfl,_⟩
   .exact fin _ hu _ _ _ rfl hy _ _ ha (λ h=>by simp at h) (λ _ q _=>by simp only[VR];exact⟨q,rfl⟩)
   .exact fin _ hu _ _ _ rfl hy _ _ ha (λ _=>rfl) (λ _ q _=>by simp only[VR];exact⟨q,rfl⟩)
  .rename_i e k aa len hk;have hu:=iB ht hk;simp only[VR]at hx hy;rcases hx with ⟨_,rfl,_,rfl⟩ |⟨b,sz,n,cap,o,_,rfl,_⟩
   .exact fin _ hu _ _ _ rfl hy _ _ ha (λ h=>by simp at h) (λ _ q _=>by simp only[VR];exact⟨q,rfl⟩)
   .exact fin _ hu _ _ _ rfl hy _ _ ha (λ _=>rfl) (λ _ q _=>by simp only[VR];exact⟨q,rfl⟩)
  .rename_i e k len hk;have hu:=iB ht hk;simp only[VR]at hx hy;rcases hx with ⟨h0,rfl⟩ |⟨h0,b,sz,n,cap,o,_,rfl,_⟩
   .refine fin _ hu _ _ _ rfl hy _ _ ha (λ h=>by simp[h0]at h) (λ _ q hq=>?_);simp only[VR,TR,hq];cases op<;>exact⟨by simp,trivial⟩
   .exact fin _ hu _ _ _ rfl hy _ _ ha (λ _=>rfl) (λ h=>by simp[h0]at h)
  .rename_i e hk;have hu:=iB ht hk;simp only[VR]at hx hy;subst hx;refine fin _ hu _ _ _ rfl hy _ _ ha (λ h=>by cases h) (λ _ q hq=>?_);simp only[VR,TR,hq];cases op<;>exact⟨by simp,trivial⟩
  .cases ha
theorem aeW(hT:eZ P T){s d:TypeId}{x:AV}{u:Value}{ab:Out}(ha:Pr T s d x=some ab)(hx:VR P β w I x u):
 ∃z,(convert s d u).run P w= .ok z w/\VR P β w I ab.v z/\ab.upd=[]:=by
 unfold Pr at ha;cases hsi:T s with
 |none=>simp[hsi]at ha
 |some si=>
  cases hdi:T d with
  |none=>simp[hsi,hdi]at ha
  |some di=>
   simp only[hsi,hdi,af]at ha;split at ha
   .rename_i k kk n hk;simp only[pv,ay]at ha;subst ha;have⟨info,dd,z,_,h2,_⟩:=(hT s si hsi).ex;have⟨info',dd',z',_,h2',_,_,_,_,_,h8⟩:=(hT d di hdi).ex;rw[hk]at h8;have h8:dd'= .int k:=h8;subst h8;simp only[VR,TR]at hx;obtain⟨rfl,_⟩:=hx;refine⟨.int k (k.wrap n),?_,by simp only[VR,TR];exact⟨trivial,trivial⟩,rfl⟩;simp[convert,run_underlying h2,run_underlying h2',Conv.intToInt]
   .cases ha
theorem adf(hT:eZ P T){t:TypeId}{x j:AV}{n:Int}{u v:Value}{ab:Out}(ha:Xg T t x j n=some ab)(cA:ab.ob)(hx:VR P β w I x u)(hj:VR P β w I j v):
 ∃z,(Instr.index t u v).run P w= .ok z w/\VR P β w I ab.v z/\ab.upd=[]:=by
 unfold Xg at ha;cases hti:T t with
 |none=>simp[hti]at ha
 |some ti=>
  simp only[hti,af]at ha;split at ha
  .rename_i s k m hk;simp only[kx,ay]at ha;subst ha;obtain⟨h0,b,hb,rfl⟩:=cA;have⟨info',dd',z',_,h2',_,_,_,_,_,h8⟩:=(hT t ti hti).ex;rw[hk]at h8;have h8:dd'= .string:=h8;subst h8;simp only[VR,TR]at hx hj;obtain⟨rfl,_⟩:=hx;obtain⟨rfl,_⟩:=hj;refine⟨.int .u8 b.toNat,?_,by simp only[VR,TR];exact⟨trivial,trivial⟩,rfl⟩;simp[Instr.index,asIntOf,run_underlying h2',h0,hb]
  .rename_i m e cs kd q hk;have ez:=Dx (hT t ti hti) hk;cases eL:T e with
   |none=>simp[eL]at ha
   |some ei=>
    simp only[eL,af]at ha;cases hp:part' ei.agg ei.size ((cs.drop (q.toNat*ei.size)).take ei.size)with
    |none=>simp[hp]at ha
    |some y=>
     simp only[hp,af,kx,ay]at ha;subst ha;have cA:0<=q/\q<(m:Int):=cA;simp only[VR,TR]at hx hj;obtain⟨vs,rfl,hvs⟩:=hx;obtain⟨rfl,_⟩:=hj;have he:=hT e ei eL;have⟨u,hu,hv⟩:=aeS he hp hvs;refine⟨u,?_,hv,rfl⟩;simp[Instr.index,asIntOf,run_underlying ez,cA.1,cA.2,he.size (w:=w)];simpa using hu
  .cases ha
theorem UF(hT:eZ P T){t:TypeId}{x:AV}{lo hi:J AV}{ab:Out}{v:Value}{oE hiv:J Value}
 (ha:Dz T t x lo hi=some ab) (cA:ab.ob) (hx:VR P β w I x v) (hlo:∀x,lo=some x->∃v,oE=some v/\VR P β w I x v) (hlo0:lo=none->oE=none) (hhi:∀x,hi=some x->∃v,hiv=some v/\VR P β w I x v) (hhi0:hi=none->hiv=none):
 ∃u,(Instr.sliceAt t v oE hiv none).run P w= .ok u w/\VR P β w I ab.v u/\ab.upd=[]:=by
 unfold Dz at ha;cases hti:T t with
 |none=>simp[hti]at ha
 |some ti=>
  have ht:=hT t ti hti;simp only[hti,af]at ha;split at ha
  .rename_i e hkd;cases eL:T e with
   |none=>simp[eL]at ha
   |some ei=>
    have he:=hT e ei eL;simp only[eL,af]at ha;cases hl:bnd 0 lo with
    |none=>simp[hl]at ha
    |some l=>
     cases hh:bnd 0 hi with
     |none=>simp[hl,hh]at ha
     |some r=>
      simp only[hl,hh,af,kx,ay]at ha;subst ha;obtain⟨rfl,rfl⟩:=cA;simp only[VR]at hx;subst hx;have:=Gp (P:=P) (w:=w) (len:=0) (cap:=0) (y8 hl hlo hlo0) (y8 hh hhi hhi0) (by omega) (by omega) (by omega);refine⟨.slice none 0 0,?_,by simp only[VR],rfl⟩;simp[Instr.sliceAt,Instr.slice,run_underlying (iB ht hkd),this,he.size (w:=w)]
  .cases ha
theorem bo.congr:∀(rows:U (List AV))(c c':Array Value)(aa sz:Nat),(∀ j,j<aa+rows.length*sz->c'[j]? =c[j]?)->bo P β w I rows c aa sz->bo P β w I rows c' aa sz
 |[],_,_,_,_,_,_=>trivial
 |r::rs,c,c',aa,sz,hc,⟨h1,h2,h3⟩=>by
  have hl:(r::rs).length*sz=sz+rs.length*sz:=by rw[bn,Nat.add_mul];omega
  rw[hl]at hc;refine⟨h1,?_,bo.congr rs c c' (aa+sz) sz (λ j hj=>hc j (by omega)) h3⟩;rw[jL]at h2 ⊢;intro j x hx;have hj:=(dh.1 hx).1;rw[hc (aa+j) (by omega)];exact h2 j x hx
theorem bo.zeros(z:U Value)(sz:Nat)(hz:z.length=sz)(h1:∀v∈z,oneCell v):∀(n:Nat)(c:Array Value)(aa:Nat),(∀ i j,i<n->j<sz->c[aa+i*sz+j]? =z[j]?)->bo P β w I (List.replicate n (z.map cv)) c aa sz
 | 0,_,_,_=>trivial
 |n+1,c,aa,hc=>by
  rw[List.replicate_succ];refine⟨by simpa using hz,?_,bo.zeros z sz hz h1 n c (aa+sz) λi j hi hj=>?_⟩
  .rw[jL];intro j x hx;simp only[List.getElem?_map,eH]at hx;obtain⟨v,hv,rfl⟩:=hx;have hj:=(dh.1 hv).1;refine⟨v,?_,VR.cv,h1 v (cO hv)⟩;have:=hc 0 j (by omega) (by omega);rw[Nat.zero_mul,Nat.add_zero]at this;rw[this];exact hv
  .have:=hc (i+1) j (by omega) hj;rw[show aa+sz+i*sz+j=aa+(i+1)*sz+j by rw[Nat.add_mul];omega];exact this
theorem Ma(z:Array Value)(n j:Nat)(h:j<n*z.size):(Builtin.zeroCells z n)[j]? =z[j%z.size]? :=by
 have hz:0<z.size:=Nat.pos_of_ne_zero λe=>by rw[e]at h;omega
 have hm:j%z.size<z.size:=Nat.mod_lt _ hz;simp[Builtin.zeroCells,h,hm]
theorem UG(hT:eZ P T)(h:Mem P w0 O0 β I obj w)(hn:β (cx i)=none){b:Builtin}{args:U AV}{cX:Array TypeId}{get:Nat->J aS}{ab:Out}(hg:∀k o,get k=some o->obj k=some o)
 {vs:Array Value} {ty:TypeId} {am:Array Operand} (ha:vX T i b args cX.toList get=some ab) (cA:ab.ob) (hv:bj P β w I args vs.toList) {r:Operand->Value} (hops:vs=am.map r) {dst:J Tmp} {aq:String} {after:Array Edge} {guard:J (Nat×Bool)}:
 q7 P w0 O0 β I obj w i ab ((execOp r ⟨dst,.call { callee:= .builtin b,args:=am,argTypes:=cX },ty,aq,after,guard⟩).run P w):=by
 unfold vX at ha;split at ha
 .rename_i t qu;obtain⟨v,hvs⟩:∃v,vs=#[v]:=by
   obtain⟨l⟩:=vs
   match l,hv with
   |[v],_=>exact⟨v,rfl⟩
   |[],h=>simp[bj]at h
   |_::_::_,h=>simp[bj]at h
  have ht:cX=#[t]:=by cases cX;simpa using qu
  subst hvs ht;simp only[bj,VR]at hv;cases hti:T t with
  |none=>simp[hti]at ha
  |some ti=>
   simp only[hti,af]at ha;split at ha
   .rename_i e hk;simp only[pv,ay]at ha;subst ha;refine⟨.int .i64 0,w,β,I,.inl ?_,Step.refl ..,h,by simp only[VR,TR];exact⟨trivial,trivial⟩⟩;rw[hv.1]at hops;simp[execOp,resolve,invoke,builtin,<- hops,Builtin.cap_,run_underlying (iB (hT t ti hti) hk),goInt]
   .cases ha
 .rename_i k aa len t qu;obtain⟨v,hvs⟩:∃v,vs=#[v]:=by
   obtain⟨l⟩:=vs
   match l,hv with
   |[v],_=>exact⟨v,rfl⟩
   |[],h=>simp[bj]at h
   |_::_::_,h=>simp[bj]at h
  have ht:cX=#[t]:=by cases cX;simpa using qu
  subst hvs ht;simp only[bj]at hv;have hv:=hv.1;cases hti:T t with
  |none=>simp[hti]at ha
  |some ti=>
   simp only[hti,af]at ha;split at ha
   .rename_i e hkd;cases eL:T e with
    |none=>simp[eL]at ha
    |some ei=>
     cases hk:get k with
     |none=>simp[eL,hk]at ha
     |some o=>
      simp only[eL,hk,af]at ha;split at ha
      .rename_i hsz;cases ha;have he:=hT e ei eL;have ez:=iB (hT t ti hti) hkd;obtain⟨info,d,z,g1,g2,g3,g4,g5,g6,g7,g8⟩:=he.ex;have hko:=hg k o hk;have weak:∀{w':World},Mem P w0 O0 β I obj w'->Mem P w0 O0 β I (bU obj [(k,some ⟨o.sz,o.rows.take aa⟩)]) w':=by
        intro w' hm;refine hm.weak λj o' hj=>?_;simp only[bU]at hj;split at hj
        .rename_i e;subst e;cases hj;refine⟨o,hko,λB hB hO=>?_⟩;cases B with
         |none=>simp only[OR]at hO ⊢;simp[hO]
         | «at» b s n=>
          obtain⟨h1,c,e,h2,h3,h4⟩:=hO;exact⟨h1,c,e,h2,h3,bo.take _ _ _ _ _ h4⟩
         |mp b=>
          obtain⟨es,cl,h1,hle,h2,h3⟩:=hO;refine⟨es,cl,h1,by simp only[length_take];omega,λe=>?_,h3⟩;simp only[length_take]at e;simp only;rw[take_of_length_le (by omega)];exact h2 (by omega)
        .exact⟨o',hj,λ_ _ h=>h⟩
       have hdone:∀w',(Builtin.clear_ #[t] ty #[v]).run P w= .ok (.tuple #[]) w'->(execOp r ⟨dst,.call { callee:= .builtin .clear,args:=am,argTypes:=#[t] },ty,aq,after,guard⟩).run P w= .ok (.value (.tuple #[])) w':=by
        intro w' hw;simp[execOp,resolve,invoke,builtin,<- hops,hw]
       have By:∀{w':World},VR P β w' I (.eC []) (.tuple #[]):=by
        intro w';simp only[VR];exact⟨#[],rfl,trivial⟩
       simp only[VR]at hv;rcases hv with ⟨h1,rfl,_,rfl⟩ |⟨b,sz,m,cap,a,h1,rfl,h2,h3,h4⟩
       .exact⟨_,w,β,I,.inl (hdone w (by simp[Builtin.clear_,run_underlying ez])),Step.refl ..,weak h,By⟩
       .by_cases h0:len=0
        .subst h0;exact⟨_,w,β,I,.inl (hdone w (by simp[Builtin.clear_,run_underlying ez])),Step.refl ..,weak h,By⟩
        .have⟨B,hB,hO⟩:=h.cD k o hko;rw[h1]at hB;cases hB;obtain⟨hs,c,ce,hc,hcn,hO⟩:=hO;have ha':a=m.s+aa*sz:=h4 (by omega);subst ha';have hzs:z.cells.size=ei.size:=(by rw[<- Array.length_toList,g6];exact he.len);have hzl:(Builtin.zeroCells z.cells len).toList.length=len*ei.size:=(by simp[size_zeroCells,hzs]);have hfit:m.s+aa*sz+len*ei.size<=c.size:=by
          rw[hcn,<- hsz,<- hs,Nat.add_assoc,<- Nat.add_mul];have:(aa+len)*sz<=(aa+cap)*sz:=Nat.mul_le_mul_right _ (by omega);omega
         have hone:∀u∈(Builtin.zeroCells z.cells len).toList,u.oneCell'=true:=by
          intro u hu;obtain⟨j,hj⟩:=List.getElem?_of_mem hu;have hjl:=(dh.1 hj).1;rw[hzl,<- hzs]at hjl;rw[Array.getElem?_toList,Ma _ _ _ hjl]at hj;have:u∈ei.zero:=(by rw[<- g6];exact Array.mem_toList_iff.2 (Array.mem_of_getElem? hj));exact oneCell' (qz (all_eq_true.1 he.one u this))
         have hst:=run_storeCells_at P b (m.s+aa*sz) ce (Builtin.zeroCells z.cells len).toList 0 c w hc (by rw[hzl];omega) hone;simp only[Nat.add_zero]at hst;generalize hcc:(List.take (m.s+aa*sz) c.toList++(Builtin.zeroCells z.cells len).toList++List.drop (m.s+aa*sz+(Builtin.zeroCells z.cells len).toList.length) c.toList).toArray=cc at hst;have Th:cc.size=c.size:=(by rw[<- hcc];simp[length_take,length_drop,size_zeroCells,hzs];omega);have hzv:(zeroValue e).run P w= .ok z w:=(by simp[zeroValue,typeInfo,g1,g5]);have hrun:(Builtin.clear_ #[t] ty #[.slice (some ⟨b,m.s+aa*sz,none⟩) len cap]).run P w= .ok (.tuple #[]) (w.setRow b cc):=by
          obtain⟨len',rfl⟩:∃len',len=len'+1:=⟨len -1,by omega⟩;simp[Builtin.clear_,run_underlying ez,hzv,hst]
         obtain⟨vm,hM⟩:=Mem.write (o':=⟨o.sz,o.rows.take aa⟩) h hko h1 (c':=cc) (e:=ce) (setRow_heap w b c cc ce (0,0) hc) (λ b' hb=>setRow_other w b b' cc hb) (by simp) rfl rfl rfl hs (by omega) (by
          refine bo.congr _ c cc m.s o.sz (λ j hj=>?_) (by rw[<- hs];exact bo.take _ _ _ _ _ hO);have hj2:j<m.s+aa*sz:=by
           rw[hs];refine Nat.lt_of_lt_of_le hj (Nat.add_le_add_left ?_ _);exact Nat.mul_le_mul_right _ (by simp[length_take];omega)
          rw[<- hcc,List.getElem?_toArray,aM,List.getElem?_append_left (by simp[length_take];omega),List.getElem?_take,aT hj2,Array.getElem?_toList])
         exact⟨_,_,β,I,.inl (hdone _ hrun),⟨λ _ _=>rfl,λ_ _ h=>h,vm,λ_ h=>h⟩,hM,By⟩
      .cases ha
   .cases ha
 .rename_i kk m t u qu;obtain⟨v,v',hvs⟩:∃v v',vs=#[v,v']:=by
   obtain⟨l⟩:=vs
   match l,hv with
   |[v,v'],_=>exact⟨v,v',rfl⟩
   |[],h=>simp[bj]at h
   |[_],h=>simp[bj]at h
   |_::_::_::_,h=>simp[bj]at h
  have ht:cX=#[t,u]:=by cases cX;simpa using qu
  subst hvs ht;simp only[bj,VR,TR]at hv;obtain⟨rfl,⟨rfl,_⟩,_⟩:=hv;cases hti:T t with
  |none=>simp[hti]at ha
  |some ti=>
   cases vx:T u with
   |none=>simp[hti,vx]at ha
   |some ui=>
    simp only[hti,vx,af]at ha;split at ha
    .rename_i e kn hkd B5;cases eL:T e with
     |none=>simp[eL]at ha
     |some ei=>
      simp only[eL,af,ay]at ha;subst ha;obtain⟨m0,m48,HD,mpos⟩:=cA;have he:=hT e ei eL;have ez:=iB (hT t ti hti) hkd;obtain⟨info,d,z,g1,g2,g3,g4,g5,g6,g7,g8⟩:=he.ex;have⟨_,dd',_,_,h2',_,_,_,_,_,h8⟩:=(hT u ui vx).ex;rw[B5]at h8;have h8:dd'= .int kn:=h8;subst h8;obtain⟨n,rfl⟩:∃n:Nat,m=(n:Int):=⟨m.toNat,by omega⟩;simp only[Int.toNat_natCast]at m48 HD ⊢;by_cases h0:n=0
      .subst h0;have⟨hS,hM⟩:=Mem.pg (i:=cx i) (o:=⟨ei.size,[]⟩) h hn rfl;have hrun:(Builtin.append_ #[t,u] ty #[.slice none 0 0,.int kk ((0:Nat):Int)]).run P w= .ok (.slice none 0 0) w:=by
        have hw0:i64.wrap (0:Int)=0:=(by decide);simp[Builtin.append_,run_underlying ez,run_underlying h2',sizeOf,typeInfo,g1,asInt,asIntOf,hw0]
       replace hrun:(Builtin.append_ #[t,u] ty #[.slice none 0 0,.int kk 0]).run P w= .ok (.slice none 0 0) w:=hrun
       refine⟨.slice none 0 0,w,_,I,.inl (by simp[execOp,resolve,invoke,builtin,<- hops,hrun]),hS,by simpa[eu]using hM,by simp only[VR];exact .inl ⟨by simp[ins],trivial,trivial,trivial⟩⟩
      .have hrun:=Lib.run_append_nil_zeros (P:=P) w t u ty e info z kk kn ez h2' g1 g5 n (by omega) (by omega) (by simp only[maxLen]at HD;omega) (by rw[g4];omega);have hd:=h.drew;have hzs:z.cells.size=ei.size:=(by rw[<- Array.length_toList,g6];exact he.len);have hge:=grownCap_ge w n 0 e;generalize hC:Builtin.zeroCells z.cells n++Builtin.zeroCells z.cells (grownCap w n 0 e -n)=cs at hrun;have hcs:cs.size=grownCap w n 0 e*ei.size:=by
        rw[<- hC];simp only[Array.size_append,size_zeroCells,hzs,<- Nat.add_mul];rw[show n+(grownCap w n 0 e -n)=grownCap w n 0 e by omega]
       obtain⟨hS,hM⟩:=Mem.alloc (i:=cx i) (o:=⟨ei.size,List.replicate n (ei.zero.map cv)⟩) (c:=cs) (e:=e) hd hn (by
        refine bo.zeros ei.zero ei.size he.len (λ v hv=>qz (all_eq_true.1 he.one v hv)) n cs 0 (λ i j hi hj=>?_);have hlt:0+i*ei.size+j<n*ei.size:=by
         have:(i+1)*ei.size<=n*ei.size:=Nat.mul_le_mul_right _ (by omega);rw[Nat.add_mul]at this;omega
        rw[<- hC,Array.getElem?_append_left (by simpa[size_zeroCells,hzs]using hlt),Ma _ _ _ (by rw[hzs];exact hlt),hzs,<- g6,Array.getElem?_toList];congr 1;rw[Nat.zero_add,Nat.mul_comm,Nat.mul_add_mod,Nat.mod_eq_of_lt hj])
       refine⟨_,_,_,I,.inl (by simp[execOp,resolve,invoke,builtin,<- hops,hrun];rfl),⟨hS.other,hS.ext,λb hb=>hS.same b hb,hS.inc⟩,hM.xa,?_⟩;simp only[VR];refine .inr ⟨w.heap.size,ei.size,_,_,0,by simp[ins];rfl,rfl,hge,?_,by simp⟩;rw[hcs,Nat.zero_add];simp
    .cases ha
 .cases ha
theorem adg(hT:eZ P T)(h:Mem P w0 O0 β I obj w)(hn:β (cx i)=none){o:Oper}{n:Int}{ρ:Operand->AV}{get:Nat->J aS}{ab:Out}(hg:∀k o,get k=some o->obj k=some o)
 {r:Operand->Value} (hρ:∀x,VR P β w I (ρ x) (r x)) (ha:pO T i o n ρ get=some ab) (cA:ab.ob):q7 P w0 O0 β I obj w i ab ((execOp r o).run P w):=by
 obtain⟨dst,op,ty,aq,after,guard⟩:=o;have val:∀{s:Sem Value}{z:Value},s.run P w= .ok z w->ab.upd=[]->VR P β w I ab.v z->q7 P w0 O0 β I obj w i ab ((do pure (.value (<- s)):Sem Next).run P w):=by
  intro s z h1 h2 h3;refine⟨z,w,β,I,.inl (by simp[h1]),Step.refl ..,by rw[h2];exact h,h3⟩
 unfold pO at ha;split at ha
 .rename_i Wc t x y q heq;simp only at heq;subst heq;have⟨z,h1,h2,h3⟩:=ahE (xo:=x) (yo:=y) hT ha (hρ x) (hρ y);exact val h1 h3 h2
 .rename_i s d x heq;simp only at heq;subst heq;have⟨z,h1,h2,h3⟩:=aeW hT ha (hρ x);exact val h1 h3 h2
 .rename_i t x j heq;simp only at heq;subst heq;have⟨z,h1,h2,h3⟩:=adf hT ha cA (hρ x) (hρ j);exact val h1 h3 h2
 .rename_i t x lo hi heq;simp only at heq;subst heq;obtain⟨z,h1,h2,h3⟩:=UF (oE:=lo.map r) (hiv:=hi.map r) hT ha cA (hρ x) (λ y hy=>by
   cases lo with
   |none=>cases hy
   |some q=>cases hy;exact⟨r q,rfl,hρ q⟩) (λ h=>by cases lo<;>first |rfl |cases h) (λ y hy=>by
   cases hi with
   |none=>cases hy
   |some q=>cases hy;exact⟨r q,rfl,hρ q⟩) (λ h=>by cases hi<;>first |rfl |cases h)
  exact val h1 h3 h2
 .rename_i b args cX heq;simp only at heq;subst heq;exact UG hT h hn hg ha cA (by rw[Array.toList_map];exact bj.map hρ _) rfl
 .cases ha
theorem adh(hT:eZ P T)(h:Mem P w0 O0 β I obj w)(hn:β (cx i)=none){o:Oper}{ae:U Nat}{fr:Operand->AV}{cm:iu}{ρ:Operand->AV}{get:Nat->J aS}{ab:Out}(hg:∀k o,get k=some o->obj k=some o)
 {r:Operand->Value} (hρ:∀x,VR P β w I (ρ x) (r x)) (ha:IV P T i o ae fr cm ρ get=some ab) (cA:ab.ob):q7 P w0 O0 β I obj w i ab ((execOp r o).run P w):=by
 unfold IV at ha;split at ha
 .cases ha
 rw[ai]at ha;obtain⟨out',h1,h2⟩:=ha;cases h2;have cA:=rT _ cA;have hb:=cA (∀ x∈o.op.operands,(fh P get (ρ x) (fr x)/\∀k∈refs (ρ x),k∈ae)\/fr x=ρ x) (by simp);have hsub:∀k o',bU obj (ae.map λk=>(k,none)) k=some o'->obj k=some o'/\k∉ae:=by
  intro k o' hk;rw[y9]at hk;split at hk
  .cases hk
  .exact⟨hk,‹_›⟩
 have hd:=h.drop (bU obj (ae.map λk=>(k,none))) (λ k o hk=>(hsub k o hk).1);obtain⟨_,hM⟩:=hd.below (I':=fm β obj ae I) (w':=w) ⟨rfl,rfl,rfl,aC _,λ_ _=>rfl⟩ (λ b hb=> .inl hb) (N7 h ae) (λ b k o B hb' e1 e2 e3=>by
  have⟨f1,f2⟩:=hsub k o e1;have⟨a1,_,_⟩:=h.ownB k o B b f1 e2 e3;rcases hb' with h5 |⟨k',o',s',n',g1,g2,g3⟩
  .exact a1 h5
  .have:=h.nb k k' o o' b f1 g2 ⟨B,e2,e3⟩ (.at g3);subst this;exact f2 g1) (λ b hb'=>by
  rcases hb' with h5 |⟨k',o',s',n',g1,g2,g3⟩
  .exact h.up b h5
  .exact .inr (h.own k' o' b s' n' g2 g3).2.2)
 have hfr:∀x,VR P β w (fm β obj ae I) ((λ x=>open Classical in if x∈o.op.operands then fr x else .undef) x) (r x):=by
  intro x;by_cases hx:x∈o.op.operands
  .simp only[hx,if_true];rcases hb x hx with ⟨b1,b2⟩ |b1
   .exact VR.mono (λ k B h=>by simp[mA]at h) (λ _ _=>rfl) (λ _ h=>h) _ _ (fh.sound h ae _ _ _ b2 (fh.weaken hg _ _ b1) (hρ x))
   .rw[b1];exact VR.mono (λ _ _ h=>h) (λ _ _=>rfl) (λ _ h=> .inl h) _ _ (hρ x)
  .simp only[hx,if_false,VR]
 rw[Ty (ρ':=λx=>open Classical in if x∈o.op.operands then fr x else .undef) (λ x hx=>by simp only[hx,if_true])]at h1;obtain⟨v',w',β',I',k1,k2,k3,k4⟩:=Tw hT hM hn (λ k o' hk=>by
  rw[y9];split at hk
  .cases hk
  .rw[aW ‹_›];exact hg k o' hk) hfr h1 (sK _ λp hp=>cA p (by simp[hp]))
 refine⟨v',w',β',I',k1,⟨k2.other,k2.ext,λb hb=>k2.same b (.inl hb),λb hb=>k2.inc b (.inl hb)⟩,?_,k4⟩;have e:bU obj (out'.upd++ae.map λk=>(k,none))=bU (bU obj (ae.map λk=>(k,none))) out'.upd:=funext λk=>uf obj _ _ k;rw[e];exact k3
end
open Go.RowKit Go.MapKept
def N9:AM->Value->Bool
 | .int a,.int b _=>decide (a=b)
 | .str,.string _=>true
 | .bool,.bool _=>true
 |_,_=>false
def Tz:Value->Value->J Bool
 | .int k a,.int k' b=>if k=k' then some (a==b)else none
 | .string a,.string b=>some (a.toList==b.toList)
 | .bool a,.bool b=>some (a==b)
 |_,_=>none
def TA(key:Value):U (List AV)->J (Option (Nat×AV))
 |[]=>some none
 |[.t (.sc kv),y]::rs=>(Tz key kv).bind λb=>if b then some (some (0,y))else(TA key rs).map λr=>r.map λp=>(p.1+1,p.2)
 |_=>none
def yn(key:Value)(y':AV):U (List AV)->J (List (List AV))
 |[]=>some [[.t (.sc key),y']]
 |[.t (.sc kv),y]::rs=>(Tz key kv).bind λb=>if b then some ([.t (.sc key),y']::rs)else(yn key y' rs).map λr=>[.t (.sc kv),y]::r
 |_=>none
def E6:AV->AV
 | .agg cs=> .agg (cs.map wk)
 |x=>wk x
def IW(T:dC)(i:Nat)(t:TypeId):J Out:=
 (T t).bind λti=>match ti.k with
 | .map _ _=>some ⟨.mp (cx i),[(cx i,some ⟨0,[]⟩)],[]⟩
 |_=>none
def Hp(r:J (Nat×AV))(z:J AV):J AV:=match r with
 |some p=>some p.2
 |none=>z
def KE(T:dC)(t:TypeId)(x key:AV)(ok:Bool)(get:Nat->J aS):J Out:=
 (T t).bind λti=>match ti.k,x,key with
 | .map kt et,.mp k,.t (.sc kv)=>(T kt).bind λki=>(T et).bind λei=>(get k).bind λo=>if N9 ki.k kv=true/\o.sz=o.rows.length then(TA kv o.rows).bind λr=>
  (Hp r (part' ei.agg ei.size ((ei.zero.map cv).map wk))).bind λv=>pv (if ok then .eC [v,.t (.sc (.bool r.isSome))]else v)else none
 |_,_,_=>none
def Oa(T:dC)(t:TypeId)(x key y:AV)(get:Nat->J aS):J Out:=
 (T t).bind λti=>match ti.k,x,key with
 | .map kt _,.mp k,.t (.sc kv)=>(T kt).bind λki=>(get k).bind λo=>if N9 ki.k kv=true/\o.sz=o.rows.length then(yn kv (E6 y) o.rows).bind λrs=>
  some ⟨.undef,[(k,some ⟨rs.length,rs⟩)],[]⟩else none
 |_,_,_=>none
section
variable {P:Program} {T:dC} {w0:World} {O0:i9} {β:Nat->Option cE} {I:Nat->Prop} {obj:Nat->Option aS} {w:World} {i:Nat}
theorem akA{k:AM}{v:Value}{d:TypeDesc}(h:N9 k v=true)(hd:So k d):IsKey d v:=by
 unfold N9 at h;split at h
 .rename_i a b n;have hd:d= .int a:=hd;subst hd;simp only[aJ]at h;subst h;simp[IsKey]
 .have hd:d= .string:=hd;subst hd;simp[IsKey]
 .have hd:d= .bool:=hd;subst hd;simp[IsKey]
 .cases h
theorem abV{d:TypeDesc}{a b:Value}(ha:IsKey d a){r:Bool}(h:Tz a b=some r):Instr.sameNow d a b=some r/\(r=true->a=b)/\IsKey d b:=by
 unfold Tz at h;split at h
 .rename_i k x k' y;split at h
  .rename_i hk;subst hk;cases h;cases d<;>simp only[IsKey]at ha ⊢
   all_goals first |exact ha.elim |skip
   subst ha;refine⟨by simp[Instr.sameNow],λhh=>?_,rfl⟩;rw[eq_of_beq hh]
  .cases h
 .rename_i x y;cases h;cases d<;>simp only[IsKey]at ha ⊢
  all_goals first |exact ha.elim |skip
  have e:(x==y)=(x.toList==y.toList):=by
   rw[fB,bytes_beq];constructor
   .rintro rfl;simp
   .intro hh;have:=eq_of_beq hh;cases x;cases y;simp only[ByteArray.toList_eq]at this;congr 1;exact Array.ext' this
  refine⟨by simp[Instr.sameNow,e],λhh=>?_,trivial⟩;rw[(bytes_beq x y).1 (e ▸ hh)]
 .rename_i x y;cases h;cases d<;>simp only[IsKey]at ha ⊢
  all_goals first |exact ha.elim |skip
  exact⟨by simp[Instr.sameNow],λhh=>by rw[eq_of_beq hh],trivial⟩
 .cases h
theorem TB{d:TypeDesc}{key:Value}(hk:IsKey d key):∀(rows:U (List AV))(es:U MapEntry)(i:Nat)(r:J (Nat×AV)),cy P β w I rows es->TA key rows=some r->
 (r=none/\Instr.findNow d key es i=some none)\/∃j y e,r=some (j,y)/\Instr.findNow d key es i=some (some (i+j,e.val))/\es[j]? =some e/\e.key=key/\VR P β w I y e.val
 |[],[],i,r,_,h=>by simp only[TA,ay]at h;exact .inl ⟨h.symm,rfl⟩
 |row::rows,e::es,i,r,hm,h=>by
  obtain⟨h1,h2⟩:=hm;unfold TA at h;split at h
  .rename_i heq;cases heq
  .rename_i kv y rs heq;injection heq with e1 e2;subst e1;subst e2;simp only[bj,VR,TR]at h1;obtain⟨⟨g1,_⟩,g2,_⟩:=h1;rw[ai]at h;obtain⟨b,h3,h⟩:=h;rw[<- g1]at h3;have⟨q1,q2,_⟩:=abV hk h3;cases b with
   |true=>
    simp only[if_true,ay]at h;subst h;exact .inr ⟨0,y,e,rfl,by simp[Instr.findNow,q1],rfl,(q2 rfl).symm,g2⟩
   |false=>
    simp only[Bool.false_eq_true,if_false,eH]at h;obtain⟨r',h4,rfl⟩:=h;rcases TB hk rows es (i+1) r' h2 h4 with ⟨rfl,a2⟩ |⟨j,y',e',rfl,a2,a3,a4,a5⟩
    .exact .inl ⟨rfl,by simp[Instr.findNow,q1,a2]⟩
    .exact .inr ⟨j+1,y',e',rfl,by simp only[Instr.findNow,q1,a2];congr 3;omega,by simpa using a3,a4,a5⟩
  .cases h
 |[],_::_,_,_,hm,_=>hm.elim
 |_::_,[],_,_,hm,_=>hm.elim
theorem Xh{d:TypeDesc}{key v:Value}{y':AV}(hk:IsKey d key)(hv:VR P β w I y' v)(hkv:oneCell key):∀(rows:U (List AV))(es:U MapEntry)(i:Nat)(rs':U (List AV)),cy P β w I rows es->yn key y' rows=some rs'->
 (Instr.findNow d key es i=some none/\∀n,cy P β w I rs' (es++[⟨key,v,n⟩]))\/∃j e,Instr.findNow d key es i=some (some (i+j,e.val))/\es[j]? =some e/\e.key=key/\cy P β w I rs' (es.modify j λe=>{ e with key:=key,val:=v })
 |[],[],i,r,_,h=>by
  simp only[yn,ay]at h;subst h;refine .inl ⟨rfl,λn=>?_⟩;simp only[bI,cy,bj,VR,TR];exact⟨⟨⟨trivial,hkv⟩,hv,trivial⟩,trivial⟩
 |row::rows,e::es,i,r,hm,h=>by
  obtain⟨h1,h2⟩:=hm;unfold yn at h;split at h
  .rename_i heq;cases heq
  .rename_i kv y rs heq;injection heq with e1 e2;subst e1;subst e2;have h1':=h1;simp only[bj,VR,TR]at h1;obtain⟨⟨g1,g1'⟩,g2,_⟩:=h1;rw[ai]at h;obtain⟨b,h3,h⟩:=h;rw[<- g1]at h3;have⟨q1,q2,_⟩:=abV hk h3;cases b with
   |true=>
    simp only[if_true,ay]at h;subst h;refine .inr ⟨0,e,by simp[Instr.findNow,q1],rfl,(q2 rfl).symm,?_⟩;simp only[List.modify_zero_cons,cy,bj,VR,TR];exact⟨⟨⟨trivial,hkv⟩,hv,trivial⟩,h2⟩
   |false=>
    simp only[Bool.false_eq_true,if_false,eH]at h;obtain⟨r',h4,rfl⟩:=h;rcases Xh hk hv hkv rows es (i+1) r' h2 h4 with ⟨a1,a2⟩ |⟨j,e',a1,a2,a3,a4⟩
    .exact .inl ⟨by simp[Instr.findNow,q1,a1],λn=>⟨h1',a2 n⟩⟩
    .refine .inr ⟨j+1,e',by simp only[Instr.findNow,q1,a1];congr 3;omega,by simpa using a2,a3,?_⟩;simp only[List.modify_succ_cons,cy];exact⟨h1',a4⟩
  .cases h
 |[],_::_,_,_,hm,_=>hm.elim
 |_::_,[],_,_,hm,_=>hm.elim
theorem Mem.ur{k:Nat}{o o':aS}{b:Nat}{es:Array MapEntry}{cl:Nat}{w':World}(h:Mem P w0 O0 β I obj w)(hk:obj k=some o)(hβ:β k=some (.mp b))
 (hnew:w'.heap[b]? =some (.map es cl)) (hother:∀b',b'≠b->w'.heap[b']? =w.heap[b']?) (hsize:w'.heap.size=w.heap.size) (hos:w'.os=w.os) (vf:w'.tape=w.tape) (hout:w'.output=w.output)
 (hle:o'.rows.length<=o'.sz) (hr:cy P β w I o'.rows es.toList) (hnd:(es.toList.map (·.born)).Nodup) (hlt':∀e∈es.toList,e.born<cl):
 Same I w w'/\Mem P w0 O0 β I (bU obj [(k,some o')]) w':=by
 obtain⟨S5,hlt,hO⟩:=h.ik k o b hk ⟨_,hβ,rfl⟩;have hs:Same I w w':=λb' hb=>hother b' (λ e=>S5 (e ▸ hb));have hx:∀(j:Nat)(o1:aS),bU obj [(k,some o')] j=some o1->∃o2,obj j=some o2:=λj o1 h=>by
  simp only[bU]at h;split at h
  .rename_i e;exact⟨o,by rw[e];exact hk⟩
  .exact⟨_,h⟩
 refine⟨hs,?_⟩;constructor
 .intro j oj hj;simp only[bU]at hj;split at hj
  .rename_i hjk;cases hj;exact⟨.mp b,by rw[hjk];exact hβ,es,cl,hnew,hle,λ_=>cy.mono (λ _ _ h=>h) hs (λ _ h=>h) _ _ hr,hnd,hlt'⟩
  .rename_i hjk;have⟨B,hB,sq⟩:=h.cD j oj hj;refine⟨B,hB,OR.mono (λ _ _ h=>h) hs (λ _ h=>h) (λ b1 e1=>hother b1 (λ e2=>hjk ?_)) sq⟩;subst e2;exact h.gd j k oj o B _ b1 hj hk hB hβ e1 rfl
 .intro j j' o1 o2 B1 B2 b1 h1 h2 h3 h4 h5 h6;have⟨p1,q1⟩:=hx j o1 h1;have⟨p2,q2⟩:=hx j' o2 h2;exact h.gd j j' p1 p2 B1 B2 b1 q1 q2 h3 h4 h5 h6
 .intro j o1 B1 b1 h1 h2 h3;have⟨p1,q1⟩:=hx j o1 h1;have:=h.ownB j p1 B1 b1 q1 h2 h3;rw[hsize];exact this
 .intro b1 hb1;rw[hsize];exact h.lt b1 hb1
 .exact h.up
 .intro b1 hb1 hno;rw[hother b1 (λ e1=>?_)]
  .exact h.keep b1 hb1 hno
  .subst e1;rcases hO with hO |hO
   .exact hno hO
   .omega
 .rw[hsize];exact h.le
 .rw[hos];exact h.os
 .rw[vf];exact h.tape
 .rw[hout];exact h.output
 .exact h.anch
 .exact h.vars.mono hs (λ _ h=>h)
theorem Mem.DG(h:Mem P w0 O0 β I obj w)(hn:β i=none):
 Step β I w i (ins β i (.mp w.heap.size)) I (w.alloc (.map #[] 0))/\Mem P w0 O0 (ins β i (.mp w.heap.size)) I (bU obj [(i,some ⟨0,[]⟩)]) (w.alloc (.map #[] 0)):=by
 have hS:Step β I w i (ins β i (.mp w.heap.size)) I (w.alloc (.map #[] 0)):=
  ⟨λ k hk=>by simp[ins,ie.ne hk],nS hn,Same.alloc h.lt _,λ_ h=>h⟩
 refine⟨hS,?_⟩;constructor
 .intro k o' hk;simp only[bU]at hk;split at hk
  .cases hk;rename_i hki;exact⟨.mp w.heap.size,by simp[ins,hki],#[],0,heap_alloc_new w _,aC _,λ_=>trivial,by simp,by simp⟩
  .have⟨B,hB,hO⟩:=h.cD k o' hk;exact⟨B,nS hn _ _ hB,OR.mono hS.ext hS.same hS.inc (λ b hb=>rQ (h.ownB k o' B b hk hB hb).2.1) hO⟩
 .intro k k' o1 o2 B B' b h1 h2 h3 h4 h5 h6;simp only[bU]at h1 h2;simp only[ins]at h3 h4;split at h1<;>split at h2
  .rename_i a b;rw[a,b]
  .rename_i hki oX;simp only[hki,if_true,ay]at h3;simp only[oX,if_false]at h4;subst h3;injection h5 with h5;have:=(h.ownB k' o2 B' b h2 h4 h6).2.1;omega
  .rename_i hki oX;simp only[oX,if_true,ay]at h4;simp only[hki,if_false]at h3;subst h4;injection h6 with h6;have:=(h.ownB k o1 B b h1 h3 h5).2.1;omega
  .rename_i hki oX;simp only[hki,oX,if_false]at h3 h4;exact h.gd k k' o1 o2 B B' b h1 h2 h3 h4 h5 h6
 .intro k o' B b h1 h2 h3;simp only[bU]at h1;simp only[ins]at h2;split at h1
  .rename_i hki;simp only[hki,if_true,ay]at h2;subst h2;injection h3 with h3;refine⟨λ hI=>?_,?_,.inr ?_⟩
   .have:=h.lt b hI;omega
   .simp;omega
   .have:=h.le;omega
  .rename_i hki;simp only[hki,if_false]at h2;have⟨a,b',c'⟩:=h.ownB k o' B b h1 h2 h3;exact⟨a,by simp;omega,c'⟩
 .intro b hb;have:=h.lt b hb;simp;omega
 .exact h.up
 .intro b hb hO;rw[rQ (by have:=h.le;omega)];exact h.keep b hb hO
 .have:=h.le;simp;omega
 .exact h.os
 .exact h.tape
 .exact h.output
 .intro j B hj;exact nS hn _ _ (h.anch j B hj)
 .exact h.vars.mono (Same.alloc h.lt _) (λ _ h=>h)
theorem aeX{t:TypeId}{ti:m4}(ht:ky P t ti){k e:TypeId}(h:ti.k= .map k e):P.underlying t=some (.map k e):=by
 obtain⟨info,d,z,_,h2,_,_,_,_,_,h8⟩:=ht.ex;rw[h]at h8;have h8:d= .map k e:=h8;rw[h2,h8]
theorem aeY{t:TypeId}{ti:m4}(ht:ky P t ti){v:Value}(h:N9 ti.k v=true):∃d,P.underlying t=some d/\IsKey d v:=by
 obtain⟨info,d,z,_,h2,_,_,_,_,_,h8⟩:=ht.ex;exact⟨d,h2,akA h h8⟩
theorem aos{k:AM}{v:Value}(h:N9 k v=true):oneCell v:=by
 unfold N9 at h;split at h
 .exact trivial
 .exact trivial
 .exact trivial
 .cases h
theorem aot{t:TypeId}{ti:m4}(ht:ky P t ti){v:AV}(hp:part' ti.agg ti.size ((ti.zero.map cv).map wk)=some v):∃z,(zeroValue t).run P w= .ok z w/\VR P β w I v z:=by
 obtain⟨info,d,z,h1,h2,h3,h4,h5,h6,h7,h8⟩:=ht.ex;refine⟨z,by simp[zeroValue,typeInfo,h1,h5],?_⟩;obtain⟨_,_,g1,g2⟩:=MH (P:=P) (β:=β) (w:=w) (I:=I) hp (bj.wk _ _ (bj.cv ti.zero));have hf:=ht.form info z h1 h5;cases ha:ti.agg with
 |true=>
  rw[ha]at hf;cases z<;>simp only[tg,Bool.not_true,reduceCtorEq]at hf;rename_i cs;have:=g1 ha;simp only[Value.cells]at h6;rw[<- h6]at this;simpa using this
 |false=>
  rw[ha]at hf;have h1c:oneCell z:=by cases z<;>simp only[tg,Bool.not_false,Bool.false_eq_true]at hf<;>trivial
  have⟨u,e1,e2⟩:=g2 ha;rw[cells_one h1c]at h6;simp only at h6;rw[<- h6]at e1;cases e1;exact e2
theorem Xi(h:Mem P w0 O0 β I obj w)(hn:β (cx i)=none){t:TypeId}{ab:Out}(ha:IW T i t=some ab){r:Operand->Value}
 {dst:J Tmp} {ty:TypeId} {aq:String} {after:Array Edge} {guard:J (Nat×Bool)}:q7 P w0 O0 β I obj w i ab ((execOp r ⟨dst,.makeMap t none,ty,aq,after,guard⟩).run P w):=by
 unfold IW at ha;cases hti:T t with
 |none=>simp[hti]at ha
 |some ti=>
  simp only[hti,af]at ha;split at ha
  .cases ha;have⟨hS,hM⟩:=Mem.DG h hn;refine⟨.map (some w.heap.size),_,_,I,.inl ?_,hS,hM,?_⟩
   .simp[execOp,Instr.makeMap]
   .simp only[VR];exact⟨_,by simp[ins],rfl⟩
  .cases ha
theorem akB(hT:eZ P T){t kt et:TypeId}{ei:m4}(eL:T et=some ei){b:Nat}{es:Array MapEntry}{cl:Nat}{kv:Value}{ok:Bool}{r:J (Nat×AV)}{v:AV}
 (hu:P.underlying t=some (.map kt et)) (g1:w.heap[b]? =some (.map es cl)) (hck:(Instr.checkKey es.isEmpty 10000 kt kv).run P w= .ok () w)
 (hf:(r=none/\(Instr.findKey kt kv es.toList).run P w= .ok none w)\/∃(j:Nat)(y:AV)(e:MapEntry),r=some (j,y)/\(Instr.findKey kt kv es.toList).run P w= .ok (some (j,e.val)) w/\VR P β w I y e.val)
 (hv:Hp r (part' ei.agg ei.size ((ei.zero.map cv).map wk))=some v):
 ∃z,(Instr.lookup t (.map (some b)) kv ok).run P w= .ok z w/\VR P β w I (if ok then .eC [v,.t (.sc (.bool r.isSome))]else v) z:=by
 rcases hf with ⟨rfl,a2⟩ |⟨j,y,e,rfl,a2,a5⟩
 .have⟨z,hz,hzv⟩:=aot (β:=β) (I:=I) (w:=w) (hT et ei eL) hv;cases ok with
  |true=>
   refine⟨.tuple #[z,.bool false],?_,?_⟩
   .simp[Instr.lookup,run_underlying hu,MapKept.run_getObj_map g1,hck,a2,hz,Result.andThen]
   .simp only[if_true,VR];exact⟨_,rfl,by simp only[bj,VR,TR];exact⟨hzv,⟨rfl,trivial⟩,trivial⟩⟩
  |false=>
   refine⟨z,?_,by simpa using hzv⟩;simp[Instr.lookup,run_underlying hu,MapKept.run_getObj_map g1,hck,a2,hz,Result.andThen]
 .simp only[Hp,ay]at hv;subst hv;cases ok with
  |true=>
   refine⟨.tuple #[e.val,.bool true],?_,?_⟩
   .simp[Instr.lookup,run_underlying hu,MapKept.run_getObj_map g1,hck,a2,Result.andThen]
   .simp only[if_true,VR];exact⟨_,rfl,by simp only[bj,VR,TR];exact⟨a5,⟨rfl,trivial⟩,trivial⟩⟩
  |false=>
   refine⟨e.val,?_,by simpa using a5⟩;simp[Instr.lookup,run_underlying hu,MapKept.run_getObj_map g1,hck,a2,Result.andThen]
theorem aaH(hT:eZ P T)(h:Mem P w0 O0 β I obj w){t:TypeId}{x key:AV}{ok:Bool}{get:Nat->J aS}{ab:Out}(hg:∀k o,get k=some o->obj k=some o){u kv:Value}
 (ha:KE T t x key ok get=some ab) (hx:VR P β w I x u) (hk:VR P β w I key kv):∃z,(Instr.lookup t u kv ok).run P w= .ok z w/\VR P β w I ab.v z/\ab.upd=[]:=by
 unfold KE at ha;cases hti:T t with
 |none=>simp[hti]at ha
 |some ti=>
  simp only[hti,af]at ha;split at ha
  .rename_i kt et k kv' hk1;rw[ai]at ha;obtain⟨ki,hki,ha⟩:=ha;rw[ai]at ha;obtain⟨ei,eL,ha⟩:=ha;rw[ai]at ha;obtain⟨o,ho,ha⟩:=ha;split at ha
   .rename_i hc;rw[ai]at ha;obtain⟨r,hr,ha⟩:=ha;rw[ai]at ha;obtain⟨v,hv,ha⟩:=ha;simp only[pv,ay]at ha;subst ha;simp only[VR,TR]at hx hk;obtain⟨b,hβ,rfl⟩:=hx;obtain⟨rfl,_⟩:=hk;have⟨B,hB,hO⟩:=h.cD k o (hg k o ho);rw[hβ]at hB;cases hB;obtain⟨es,cl,g1,g2,g3,g4⟩:=hO;have hu:=aeX (hT t ti hti) hk1;have⟨d,hd,hkey⟩:=aeY (hT kt ki hki) hc.1;obtain⟨z,q1,q2⟩:=akB (β:=β) (I:=I) hT eL (ok:=ok) hu g1 (run_checkKey hd hkey _ 9999) (by
     rcases TB hkey o.rows es.toList 0 r (g3 hc.2) hr with ⟨rfl,a2⟩ |⟨j,y,e,rfl,a2,a3,a4,a5⟩
     .exact .inl ⟨rfl,run_findKey hd a2⟩
     .rw[Nat.zero_add]at a2;exact .inr ⟨j,y,e,rfl,run_findKey hd a2,a5⟩) hv
    exact⟨z,q1,q2,rfl⟩
   .cases ha
  .cases ha
theorem ap4{x:AV}{v:Value}(h:VR P β w I x v):VR P β w I (E6 x) v:=by
 cases x<;>simp only[E6]<;>try exact h.wk
 simp only[VR]at h ⊢;obtain⟨vs,h1,h2⟩:=h;exact⟨vs,h1,bj.wk _ _ h2⟩
theorem adj{d:TypeDesc}{v:Value}(h:IsKey d v):Instr.sameBits 10000 v v=true:=by cases d<;>cases v<;>simp only[IsKey]at h<;>simp_all [Instr.sameBits,bytes_beq]
theorem amq(h:Mem P w0 O0 β I obj w){t kt et:TypeId}{k b:Nat}{o:aS}{es:Array MapEntry}{cl:Nat}{kv v:Value}{rs:U (List AV)}
 (hu:P.underlying t=some (.map kt et)) (ii:obj k=some o) (hβ:β k=some (.mp b)) (g1:w.heap[b]? =some (.map es cl)) (g4:(es.toList.map (·.born)).Nodup) (g5:∀e∈es.toList,e.born<cl)
 (hck:(Instr.checkKey false 10000 kt kv).run P w= .ok () w) (hks:(Instr.keyThatStays kv kv).run P w= .ok kv w)
 (hf:((Instr.findKey kt kv es.toList).run P w= .ok none w/\∀n,cy P β w I rs (es.toList++[⟨kv,v,n⟩]))\/
  ∃(j:Nat)(e:MapEntry),(Instr.findKey kt kv es.toList).run P w= .ok (some (j,e.val)) w/\es.toList[j]? =some e/\e.key=kv/\cy P β w I rs (es.toList.modify j λe=>{ e with key:=kv,val:=v })):
 ∃w',(Instr.mapUpdate t (.map (some b)) kv v).run P w= .ok () w'/\Same I w w'/\Mem P w0 O0 β I (bU obj [(k,some ⟨rs.length,rs⟩)]) w':=by
 rcases hf with ⟨a1,a2⟩ |⟨j,e,a1,a2,a3,a4⟩
 .obtain⟨k1,k2⟩:=heap_set (o':= .map (es.push ⟨kv,v,cl⟩) (cl+1)) g1
  obtain⟨m1,m2⟩:=h.ur (o':=⟨rs.length,rs⟩) (w':={ w with heap:=w.heap.setIfInBounds b (.map (es.push ⟨kv,v,cl⟩) (cl+1)) }) ii hβ k1 k2 (by simp) rfl rfl rfl (aC _) (by simpa using a2 cl)
   (by
    rw[Array.toList_push,List.map_append,List.nodup_append];refine⟨g4,by simp,λa ha b hb=>?_⟩;simp only[aF,List.map_nil,aY]at hb;obtain⟨e,he,rfl⟩:=mem_map.1 ha;have:=g5 e he;omega)
   (λ e he=>by
    rw[Array.toList_push,bg]at he;rcases he with he |he
    .have:=g5 e he;omega
    .simp only[aY]at he;subst he;exact Nat.lt_succ_self _)
  refine⟨_,?_,m1,m2⟩;simp[Instr.mapUpdate,run_underlying hu,MapKept.run_getObj_map g1,hck,a1,run_setObj_map _ g1,Result.andThen]
 .obtain⟨k1,k2⟩:=heap_set (o':= .map (es.modify j λe=>{ e with key:=kv,val:=v }) cl) g1;have ht:(es.modify j λe=>{ e with key:=kv,val:=v }).toList=es.toList.modify j λe=>{ e with key:=kv,val:=v }:=Array.toList_modify;have hb:(es.toList.modify j λe=>{ e with key:=kv,val:=v }).map (·.born)=es.toList.map (·.born):=by
   apply List.ext_getElem?;intro q;simp only[List.getElem?_map,List.getElem?_modify];split<;>cases es.toList[q]?<;>rfl
  obtain⟨m1,m2⟩:=h.ur (o':=⟨rs.length,rs⟩) (w':={ w with heap:=w.heap.setIfInBounds b (.map (es.modify j λe=>{ e with key:=kv,val:=v }) cl) }) ii hβ k1 k2 (by simp) rfl rfl rfl (aC _) (by rw[ht];exact a4)
   (by rw[ht,hb];exact g4)
   (λ e he=>by
    rw[ht]at he;have:e.born∈(es.toList.modify j λe=>{ e with key:=kv,val:=v }).map (·.born):=mem_map.2 ⟨e,he,rfl⟩;rw[hb]at this;obtain⟨e',he',hh⟩:=mem_map.1 this;rw[<- hh];exact g5 e' he')
  refine⟨_,?_,m1,m2⟩;have hold:((es[j]?).map (·.key)).getD kv=kv:=by rw[<- Array.getElem?_toList,a2];exact a3
  simp only[Instr.mapUpdate,Sem.run_bind,run_underlying hu,MapKept.run_getObj_map g1,hck,a1,Result.andThen,hold,hks,run_setObj_map _ g1]
theorem aaI(hT:eZ P T)(h:Mem P w0 O0 β I obj w){t:TypeId}{x key y:AV}{get:Nat->J aS}{ab:Out}(hg:∀k o,get k=some o->obj k=some o){u kv v:Value}
 (ha:Oa T t x key y get=some ab) (hx:VR P β w I x u) (hk:VR P β w I key kv) (hy:VR P β w I y v):∃w',(Instr.mapUpdate t u kv v).run P w= .ok () w'/\Same I w w'/\Mem P w0 O0 β I (bU obj ab.upd) w'/\ab.v= .undef:=by
 unfold Oa at ha;cases hti:T t with
 |none=>simp[hti]at ha
 |some ti=>
  simp only[hti,af]at ha;split at ha
  .rename_i kt et k kv' hk1;rw[ai]at ha;obtain⟨ki,hki,ha⟩:=ha;rw[ai]at ha;obtain⟨o,ho,ha⟩:=ha;split at ha
   .rename_i hc;rw[ai]at ha;obtain⟨rs,hr,ha⟩:=ha;cases ha;simp only[VR,TR]at hx hk;obtain⟨b,hβ,rfl⟩:=hx;obtain⟨hkk,_⟩:=hk;subst hkk;have ii:=hg k o ho;have⟨B,hB,hO⟩:=h.cD k o ii;rw[hβ]at hB;cases hB;obtain⟨es,cl,g1,g2,g3,g4,g5⟩:=hO;have hu:=aeX (hT t ti hti) hk1;have⟨d,hd,hkey⟩:=aeY (hT kt ki hki) hc.1;have hlt:b<w.heap.size:=(Array.getElem?_eq_some_iff.1 g1).1;obtain⟨w',q1,q2,q3⟩:=amq (rs:=rs) (v:=v) h hu ii hβ g1 g4 g5 (run_checkKey hd hkey _ 9999) (by simp[Instr.keyThatStays,adj hkey]) (by
     rcases Xh hkey (ap4 hy) (aos hc.1) o.rows es.toList 0 rs (g3 hc.2) hr with ⟨a1,a2⟩ |⟨j,e,a1,a2,a3,a4⟩
     .exact .inl ⟨run_findKey hd a1,a2⟩
     .rw[Nat.zero_add]at a1;exact .inr ⟨j,e,run_findKey hd a1,a2,a3,a4⟩)
    exact⟨w',q1,q2,q3,rfl⟩
   .cases ha
  .cases ha
end
def eT(cs:U AV):U (List AV):=cs.map λx=>[x]
def Xj(o:aS)(p n:Nat):U AV:=((o.rows.drop p).take n).flatten
def ES(T:dC)(t:TypeId)(x:AV)(get:Nat->J aS):J Out:=
 (T t).bind λti=>match x with
 | .ptr k row aa=>(get k).bind λo=>if o.sz=1 then(part' ti.agg ti.size (Xj o (row+aa) ti.size)).bind pv else none
 |_=>none
def Ob(T:dC)(t:TypeId)(x y:AV)(get:Nat->J aS):J Out:=
 (T t).bind λti=>(cellsOf y).bind λcs=>match x with
 | .ptr k row aa=>(get k).bind λo=>if o.sz=1/\cs.length=ti.size/\row+aa+cs.length<=o.rows.length then
  some ⟨.undef,[(k,some ⟨1,o.rows.take (row+aa)++eT cs++o.rows.drop (row+aa+cs.length)⟩)],[]⟩else none
 |_=>none
def V9(T:dC)(i:Nat)(e:TypeId):J Out:=
 (T e).bind λti=>some ⟨.ptr (cx i) 0 0,[(cx i,some ⟨1,eT (ti.zero.map cv)⟩)],[]⟩
def Pl(i:Nat)(x:AV):J Out:=
 (cellsOf x).bind λcs=>some ⟨.ptr (cx i) 0 0,[(cx i,some ⟨1,eT cs⟩)],[]⟩
def Wh(T:dC)(t:TypeId)(x:AV)(lo hi:J AV)(get:Nat->J aS):J Out:=
 (T t).bind λti=>match ti.k,x with
 | .arr m e,.ptr k row aa=>(T e).bind λei=>(get k).bind λo=>if o.sz=1/\ei.size=1 then(bnd 0 lo).bind λl=>(bnd m hi).bind λh=>
  kx (.own k (row+aa+l.toNat) (h.toNat -l.toNat)) (0<=l/\l<=h/\h<=(m:Int)/\row+aa+m<=o.rows.length)else none
 |_,_=>none
def EU(T:dC):Nat->TypeId->Bool
 | 0,_=>false
 |d+1,t=>match T t with
  |some ti=>match ti.k with
   | .bool=>ti.size==1&&!ti.agg
   | .arr m e=>ti.agg&&match T e with
    |some ei=>ti.size==m*ei.size&&EU T d e
    |none=>false
   |_=>false
  |none=>false
def tB(b:Bool):AV:= .t (.sc (.bool b))
def Lk(T:dC)(op:BinOp)(t:TypeId)(x y:AV)(n:Int):J Out:=
 (T t).bind λti=>match ti.k,x,y with
 | .arr _ _,.agg xs,.agg ys=>if EU T 9 t=true/\ti.cmp=[9]then match op with
  | .eql=>kx (tB (n !=0)) (∃ l1 l2:U Bool,xs=l1.map tB/\ys=l2.map tB/\l1.length=ti.size/\l2.length=ti.size/\(n≠0↔l1=l2))
  | .neq=>kx (tB (!(n !=0))) (∃ l1 l2:U Bool,xs=l1.map tB/\ys=l2.map tB/\l1.length=ti.size/\l2.length=ti.size/\(n≠0↔l1=l2))
  |_=>none
  else none
 |_,_,_=>none
def lN(T:dC)(i:Nat)(o:Oper)(n:Int)(ρ:Operand->AV)(get:Nat->J aS):J Out:=
 match o.op with
 | .load t a=>ES T t (ρ a) get
 | .store t a x=>Ob T t (ρ a) (ρ x) get
 | .alloc e=>V9 T i e
 | .box _ x=>Pl i (ρ x)
 | .slice t x lo hi none=>Wh T t (ρ x) (lo.map ρ) (hi.map ρ) get
 | .binOp op t x y _=>Lk T op t (ρ x) (ρ y) n
 |_=>none
section
variable {T:dC}
theorem aaJ{i:Nat}{o:Oper}{n:Int}{ρ ρ':Operand->AV}{get:Nat->J aS}(h:∀x∈o.op.operands,ρ x=ρ' x):lN T i o n ρ get=lN T i o n ρ' get:=by
 obtain⟨dst,op,ty,aq,after,guard⟩:=o;cases op<;>simp only[Op.operands]at h<;>simp only[lN]
 case load t a=>rw[h a (by simp)]
 case store t a x=>rw[h a (by simp),h x (by simp)]
 case box e x=>rw[h x (by simp)]
 case binOp a b c d e=>rw[h c (by simp),h d (by simp)]
 case slice t x lo hi mx=>
  have hx:=h x (by simp);cases mx with
  |some m=>rfl
  |none=>
   simp only[hx];cases lo<;>cases hi<;>simp_all
end
section
variable {P:Program} {T:dC} {w0:World} {O0:i9} {β:Nat->Option cE} {I:Nat->Prop} {obj:Nat->Option aS} {w:World} {i:Nat}
theorem sM:∀cs:U AV,(eT cs).flatten=cs
 |[]=>rfl
 |c::cs=>by simp only[eT,aF,flatten_cons,List.singleton_append];exact congrArg (c:: ·) (sM cs)
theorem TD(cs:U AV):∀r∈eT cs,r.length=1:=by
 intro r hr;simp only[eT,mem_map]at hr;obtain⟨x,_,rfl⟩:=hr;rfl
theorem Oc(hT:eZ P T)(h:Mem P w0 O0 β I obj w){t:TypeId}{x:AV}{get:Nat->J aS}{ab:Out}{v:Value}(hg:∀k o,get k=some o->obj k=some o)
 (ha:ES T t x get=some ab) (hx:VR P β w I x v):∃u,(Instr.loadAt t v).run P w= .ok u w/\VR P β w I ab.v u/\ab.upd=[]:=by
 unfold ES at ha;cases hti:T t with
 |none=>simp[hti]at ha
 |some ti=>
  have ht:=hT t ti hti;simp only[hti,af]at ha;cases x<;>simp only[reduceCtorEq]at ha
  case ptr k row aa=>
   cases hk:get k with
   |none=>simp[hk]at ha
   |some o=>
    simp only[hk,af]at ha;split at ha
    .rename_i hsz;cases hp:part' ti.agg ti.size (Xj o (row+aa) ti.size)with
     |none=>simp[hp]at ha
     |some u=>
      simp only[hp,af,pv,ay]at ha;subst ha;simp only[VR]at hx;obtain⟨b,sz,n,h1,rfl⟩:=hx;have⟨B,hB,hO⟩:=h.cD k o (hg k o hk);rw[h1]at hB;cases hB;obtain⟨hs,c,e,hc,_,hO⟩:=hO;rw[hsz]at hs;subst hs;have h5:=bo.take ti.size _ _ _ _ (bo.drop (row+aa) _ _ _ _ hO);obtain⟨l,g1,g2,g3,g4,g5⟩:=bo.list _ _ _ _ h5;obtain⟨z,hz,hz2⟩:=zl ht (b:=b) (o:=n.s+row*1+aa) hp g1 (λ j u hj=>by
       have:=g5 j u hj;rw[Nat.mul_one,<- Nat.add_assoc]at this;rw[Nat.mul_one];simp[World.cell?,hc,this])
      exact⟨z,by simp[Instr.loadAt,Instr.sureAddr]at hz ⊢;exact hz,hz2,rfl⟩
    .cases ha
theorem aaK(hT:eZ P T)(h:Mem P w0 O0 β I obj w){t:TypeId}{x y:AV}{get:Nat->J aS}{ab:Out}{v u:Value}(hg:∀k o,get k=some o->obj k=some o)
 (ha:Ob T t x y get=some ab) (hx:VR P β w I x v) (hy:VR P β w I y u):
 ∃w',(Instr.storeAt t v u).run P w= .ok () w'/\Same I w w'/\Mem P w0 O0 β I (bU obj ab.upd) w'/\ab.v= .undef:=by
 unfold Ob at ha;cases hti:T t with
 |none=>simp[hti]at ha
 |some ti=>
  have ht:=hT t ti hti;simp only[hti,af]at ha;cases hcs:cellsOf y with
  |none=>simp[hcs]at ha
  |some cs=>
   simp only[hcs,af]at ha;have⟨hv1,hv2⟩:=rR hcs hy;cases x<;>simp only[reduceCtorEq]at ha
   case ptr k row aa=>
    cases hk:get k with
    |none=>simp[hk]at ha
    |some o=>
     simp only[hk,af]at ha;split at ha
     .rename_i hh;obtain⟨hsz,hlen,hfit⟩:=hh;cases ha;simp only[VR]at hx;obtain⟨b,sz,n,hβ,rfl⟩:=hx;have⟨B,hB,hO⟩:=h.cD k o (hg k o hk);rw[hβ]at hB;cases hB;obtain⟨hs,c,e,hc,hn,hO⟩:=hO;rw[hsz]at hs;subst hs;obtain⟨ol,o1,o2,o3,o4,o5⟩:=bo.list _ _ _ _ hO;have hvl:=bj.length _ _ hv1;have hol:ol.length=o.rows.length:=(by rw[o3,Nat.mul_one]);have hcsz:n.s+ol.length<=c.size:=by
       by_cases h0:ol.length=0
       .have:=n.h;omega
       .have:=o5 (ol.length -1) _ (bX (by omega));have:=(Array.getElem?_eq_some_iff.1 this).1;omega
      generalize hp:row+aa=p at*;have hpp:n.s+row*1+aa=n.s+p:=(by omega);rw[hpp];have hst:=run_storeCells_at P b (n.s+p) e u.cells.toList 0 c w hc (by omega) (λ u hu=>by
       have:=hv2 u hu;cases u<;>first |rfl |exact this.elim)
      simp only[Nat.add_zero]at hst;generalize hc':(List.take (n.s+p) c.toList++u.cells.toList++List.drop (n.s+p+u.cells.toList.length) c.toList).toArray=c' at hst;have hsize:c'.size=c.size:=(by rw[<- hc'];simp[length_take,length_drop];simp at hvl;omega);obtain⟨hS,hM⟩:=Mem.write (o':=⟨1,o.rows.take p++eT cs++o.rows.drop (p+cs.length)⟩) h (hg k o hk) hβ (c':=c') (e:=e) (setRow_heap w b c c' e (0,0) hc) (λ b' hb=>setRow_other w b b' c' hb) (by simp) rfl rfl rfl rfl (by omega) (by
       have hfl:(o.rows.take p++eT cs++o.rows.drop (p+cs.length)).flatten=(o.rows.flatten.take p++cs)++o.rows.flatten.drop (p+cs.length):=by
        have one:∀(n:Nat) (rs:U (List AV)),(∀ r∈rs,r.length=1)->(rs.take n).flatten=rs.flatten.take n/\(rs.drop n).flatten=rs.flatten.drop n:=by
         intro n
         induction n with
         |zero=>intro rs _;simp
         |succ n ih=>
          intro rs hrs;cases rs with
          |nil=>simp
          |cons r rs=>
           have hr:=hrs r (by simp);obtain⟨i1,i2⟩:=ih rs (λ r h=>hrs r (by simp[h]))
           match r,hr with
           |[x],_=>simp[i1,i2]
        simp only[List.flatten_append,sM,(one _ _ o4).1,(one _ _ o4).2]
       refine qd _ _ _ 1 (ol.take p++u.cells.toList++ol.drop (p+cs.length)) (λ r hr=>?_) ?_ (λ z hz=>?_) (λ j z hj=>?_)
       .rcases bg.1 hr with hr |hr
        .rcases bg.1 hr with hr |hr
         .exact o4 r (List.mem_of_mem_take hr)
         .exact TD cs r hr
        .exact o4 r (List.mem_of_mem_drop hr)
       .rw[hfl];exact bj.append _ _ _ _ (bj.append _ _ _ _ (bj.take _ _ _ o1) hv1) (bj.drop _ _ _ o1)
       .rcases bg.1 hz with hz |hz
        .rcases bg.1 hz with hz |hz
         .exact o2 z (List.mem_of_mem_take hz)
         .exact hv2 z hz
        .exact o2 z (List.mem_of_mem_drop hz)
       .rw[<- hc',List.getElem?_toArray];have e1:(ol.take p).length=p:=(by simp[length_take];omega);have e2:(c.toList.take (n.s+p)).length=n.s+p:=(by simp[length_take];omega);rw[aM]at hj ⊢;by_cases hjp:j<p
        .rw[List.getElem?_append_left (by omega),List.getElem?_take,aT hjp]at hj;rw[List.getElem?_append_left (by omega),List.getElem?_take,aT (by omega),Array.getElem?_toList];exact o5 j z hj
        .rw[lM (by omega),e1]at hj;rw[lM (by omega),e2,show n.s+j -(n.s+p)=j -p by omega];by_cases hj2:j -p<u.cells.toList.length
         .rw[List.getElem?_append_left hj2]at hj ⊢;exact hj
         .rw[lM (by omega),List.getElem?_drop]at hj;rw[lM (by omega),List.getElem?_drop,Array.getElem?_toList];have:=o5 _ z hj;rw[show n.s+p+u.cells.toList.length+(j -p -u.cells.toList.length)=n.s+(p+cs.length+(j -p -u.cells.toList.length))by omega];exact this)
      refine⟨w.setRow b c',?_,hS,hM,rfl⟩;have:(storeVar t ⟨b,n.s+p,none⟩ u).run P w= .ok () (w.setRow b c'):=by
       unfold storeVar;simp only[Sem.run_bind,ht.size (w:=w),Result.andThen_ok];rw[aW (by rw[<- Array.length_toList];omega)];simp only[hst]
      simp[Instr.storeAt,Instr.sureAddr]at this ⊢;exact this
     .cases ha
theorem Mc(h:Mem P w0 O0 β I obj w)(hn:β (cx i)=none){e:TypeId}{v:Value}{cs:U AV}(hcs:bj P β w I cs v.cells.toList)(h1:∀u∈v.cells.toList,oneCell u):
 ∃w' β',(newVar e v).run P w= .ok ⟨w.heap.size,0,none⟩ w'/\Step β I w (cx i) β' I w'/\Mem P w0 O0 β' I (bU obj [(cx i,some ⟨1,eT cs⟩)]) w'/\VR P β' w' I (.ptr (cx i) 0 0) (.pointer (some ⟨w.heap.size,0,none⟩)):=by
 obtain⟨hS,hM⟩:=Mem.alloc (o:=⟨1,eT cs⟩) (c:=v.cells) (e:=e) h hn (qd _ _ 0 1 v.cells.toList (TD cs) (by rw[sM];exact hcs) h1 (λ j u hj=>by simpa using hj));refine⟨_,_,?_,hS,hM,?_⟩
 .simp only[newVar,newRow,Sem.run_bind,run_newObj,Result.andThen_ok,Sem.run_pure];rfl
 .simp only[VR];exact⟨w.heap.size,1,vy v.cells.size,by simp[ins],by simp⟩
theorem aaL(hT:eZ P T)(h:Mem P w0 O0 β I obj w)(hn:β (cx i)=none){e:TypeId}{ab:Out}(ha:V9 T i e=some ab):
 ∃u w' β',(Instr.alloc e true (.tuple #[])).run P w= .ok u w'/\Step β I w (cx i) β' I w'/\Mem P w0 O0 β' I (bU obj ab.upd) w'/\VR P β' w' I ab.v u:=by
 unfold V9 at ha;cases hti:T e with
 |none=>simp[hti]at ha
 |some ti=>
  have ht:=hT e ti hti;simp only[hti,af,ay]at ha;subst ha;have⟨z,hz,hz2⟩:=ht.zeroV (w:=w);obtain⟨w',β',h1,h2,h3,h4⟩:=Mc (i:=i) (e:=e) (v:=z) (cs:=ti.zero.map cv) h hn (by rw[hz2];exact bj.cv _) (λ u hu=>qz (all_eq_true.1 ht.one u (hz2 ▸ hu)));exact⟨_,w',β',by simp[Instr.alloc,hz,h1],h2,h3,h4⟩
theorem aeZ(h:Mem P w0 O0 β I obj w)(hn:β (cx i)=none){e:TypeId}{x:AV}{v:Value}{ab:Out}(ha:Pl i x=some ab)(hx:VR P β w I x v):
 ∃u w' β',(Instr.box e v).run P w= .ok u w'/\Step β I w (cx i) β' I w'/\Mem P w0 O0 β' I (bU obj ab.upd) w'/\VR P β' w' I ab.v u:=by
 unfold Pl at ha;cases hcs:cellsOf x with
 |none=>simp[hcs]at ha
 |some cs=>
  simp only[hcs,af,ay]at ha;subst ha;have⟨hv1,hv2⟩:=rR hcs hx;have⟨w',β',h1,h2,h3,h4⟩:=Mc (i:=i) (e:=e) h hn hv1 hv2;exact⟨_,w',β',by simp[Instr.box,h1],h2,h3,h4⟩
theorem QS{oE hiv:J Value}{l hh:Int}{len:Nat}(h1:(oE=none/\l=0)\/∃k,oE=some (.int k l))(h2:(hiv=none/\hh=(len:Int))\/∃k,hiv=some (.int k hh))(g0:0<=l)(g1:l<=hh)(g2:hh<=(len:Int)):
 (Instr.sliceBounds false len len oE hiv none).run P w= .ok (l.toNat,hh.toNat,len) w:=by
 have hb:∀(k:IntKind) (n:Int) (y:Nat) an,0<=n->n<=(y:Int)->(Instr.sliceBound (.int k n) y an).run P w= .ok n.toNat w:=λk n y an a b=>by simp[Instr.sliceBound,asIntOf,a,b]
 rcases h1 with ⟨rfl,rfl⟩ |⟨k,rfl⟩<;>rcases h2 with ⟨rfl,rfl⟩ |⟨k',rfl⟩
 .simp[Instr.sliceBounds]
 .simp[Instr.sliceBounds,hb k' hh len _ (by omega) g2]
 .simp[Instr.sliceBounds,hb k l len _ g0 g1]
 .have h3:=λan=>hb k l hh.toNat an g0 (by omega);simp[Instr.sliceBounds,hb k' hh len _ (by omega) g2,h3]
theorem aaM(hT:eZ P T)(h:Mem P w0 O0 β I obj w){t:TypeId}{x:AV}{lo hi:J AV}{get:Nat->J aS}{ab:Out}{v:Value}{oE hiv:J Value}(hg:∀k o,get k=some o->obj k=some o)
 (ha:Wh T t x lo hi get=some ab) (cA:ab.ob) (hx:VR P β w I x v) (hlo:∀x,lo=some x->∃v,oE=some v/\VR P β w I x v) (hlo0:lo=none->oE=none) (hhi:∀x,hi=some x->∃v,hiv=some v/\VR P β w I x v) (hhi0:hi=none->hiv=none):
 ∃u,(Instr.sliceAt t v oE hiv none).run P w= .ok u w/\VR P β w I ab.v u/\ab.upd=[]:=by
 unfold Wh at ha;cases hti:T t with
 |none=>simp[hti]at ha
 |some ti=>
  have ht:=hT t ti hti;simp only[hti,af]at ha;split at ha
  .rename_i m e k row aa hkd;cases eL:T e with
   |none=>simp[eL]at ha
   |some ei=>
    have he:=hT e ei eL;cases hk:get k with
    |none=>simp[eL,hk]at ha
    |some o=>
     simp only[eL,hk,af]at ha;split at ha
     .rename_i hsz;cases hl:bnd 0 lo with
      |none=>simp[hl]at ha
      |some l=>
       cases hh:bnd (m:Int) hi with
       |none=>simp[hl,hh]at ha
       |some r=>
        simp only[hl,hh,af,kx,ay]at ha;subst ha;have cA:0<=l/\l<=r/\r<=(m:Int)/\row+aa+m<=o.rows.length:=cA;obtain⟨q1,q2,q3,q4⟩:=cA;simp only[VR]at hx;obtain⟨b,sz,n,hβ,rfl⟩:=hx;have⟨B,hB,hO⟩:=h.cD k o (hg k o hk);rw[hβ]at hB;cases hB;obtain⟨hs,c,ce,hc,hn,hO⟩:=hO;rw[hsz.1]at hs;subst hs;obtain⟨ol,o1,o2,o3,o4,o5⟩:=bo.list _ _ _ _ hO;have hcsz:n.s+o.rows.length<=n.m:=by
         by_cases h0:o.rows.length=0
         .have:=n.h;omega
         .have:=o5 (ol.length -1) _ (bX (by omega));have:=(Array.getElem?_eq_some_iff.1 this).1;omega
        have hb:=QS (P:=P) (w:=w) (len:=m) (y8 hl hlo hlo0) (y8 hh hhi hhi0) q1 q2 q3;refine⟨.slice (some (if m=l.toNat then⟨b,n.s+row*1+aa,none⟩else(⟨b,n.s+row*1+aa,none⟩:Addr).add (l.toNat*ei.size))) (r.toNat -l.toNat) (m -l.toNat),?_,?_,rfl⟩
        .simp only[Instr.sliceAt,Sem.run_bind,run_underlying (Dx ht hkd),Result.andThen_ok,Instr.sureAddr,Sem.run_pure,hb,he.size (w:=w)]
        .simp only[VR];by_cases hml:m=l.toNat
         .rw[aT hml];exact .inr ⟨b,1,n,m -l.toNat,n.s+row*1+aa,hβ,rfl,by omega,by omega,λh=>by omega⟩
         .rw[aW hml];exact .inr ⟨b,1,n,m -l.toNat,n.s+row*1+aa+l.toNat*ei.size,hβ,by rw[addr_add],by omega,by omega,λ_=>by rw[hsz.2];omega⟩
     .cases ha
  .cases ha
def bV(agg:Bool)(xs:U Bool):Value:=if agg then .agg (xs.map Value.bool).toArray else .bool (xs.headD false)
def chunk{α:Type}(s i:Nat)(xs:U α):U α:=(xs.drop (i*s)).take s
theorem akC{α:Type}{s m:Nat}{xs ys:U α}(hx:xs.length=m*s)(hy:ys.length=m*s)(h:∀i,i<m->chunk s i xs=chunk s i ys):xs=ys:=by
 apply List.ext_getElem?;intro j;by_cases hj:j<m*s
 .have hs:0<s:=Nat.pos_of_ne_zero λe=>by subst e;simp at hj
  have h1:j/s<m:=(Nat.div_lt_iff_lt_mul hs).2 hj;have h2:=congrArg (·[j%s]?) (h _ h1);have h3:=Nat.mod_lt j hs;have h4:j/s*s+j%s=j:=by rw[Nat.mul_comm];exact Nat.div_add_mod j s
  simp only[chunk,List.getElem?_take,aT h3,List.getElem?_drop,h4]at h2;exact h2
 .rw[List.getElem?_eq_none (by omega),List.getElem?_eq_none (by omega)]
theorem Xk{e:TypeId}{ei:m4}(he:ky P e ei)(hf:ei.agg=false->ei.size=1){xs:U Bool}{i m:Nat}(hi:i<m)(hl:xs.length=m*ei.size):
 (part e (xs.map Value.bool).toArray (i*ei.size)).run P w= .ok (bV ei.agg (chunk ei.size i xs)) w/\(chunk ei.size i xs).length=ei.size:=by
 have hle:(i+1)*ei.size<=m*ei.size:=Nat.mul_le_mul_right _ (by omega);rw[Nat.add_mul,Nat.one_mul]at hle;have hc:(chunk ei.size i xs).length=ei.size:=by simp only[chunk,length_take,length_drop];omega
 refine⟨?_,hc⟩;unfold part;simp only[Sem.run_bind,he.agg (w:=w),Result.andThen_ok];cases hag:ei.agg with
 |true=>
  simp only[if_true,Sem.run_bind,he.size (w:=w),Result.andThen_ok,Sem.run_pure,bV];congr 2;apply Array.ext';simp[chunk,List.extract_eq_take_drop,List.map_take,List.map_drop]
 |false=>
  have h1:=hf hag;simp only[Bool.false_eq_true,if_false,bV];have h2:i*ei.size<xs.length:=by omega
  have h3:chunk ei.size i xs=[xs[i*ei.size]]:=by
   simp only[chunk];rw[List.drop_eq_getElem_cons h2]
   conv=>lhs;arg 1;rw[h1]
   rfl
  rw[h3];simp[h2]
theorem Xl(hT:eZ P T):∀(d:Nat)(t:TypeId)(ti:m4),T t=some ti->EU T d t=true->(ti.agg=false->ti.size=1)/\∀(D:Nat),d<=D->∀xs ys:U Bool,xs.length=ti.size->ys.length=ti.size->
 (Op.equalIn D t (bV ti.agg xs) (bV ti.agg ys)).run P w= .ok (decide (xs=ys)) w
 | 0,_,_,_,h=>by simp[EU]at h
 |d+1,t,ti,hti,h=>by
  have ht:=hT t ti hti;simp only[EU,hti]at h;split at h
  .rename_i hk;simp only[aG,beq_iff_eq,Bool.not_eq_true']at h;refine⟨λ _=>h.1,λD hD xs ys hx hy=>?_⟩;obtain⟨D,rfl⟩:∃D',D=D'+1:=⟨D -1,by omega⟩;obtain⟨info,dd,z,g1,g2,g3,g4,g5,g6,g7,g8⟩:=ht.ex;rw[hk]at g8;have g8:dd= .bool:=g8;subst g8;rw[h.1]at hx hy
   match xs,ys,hx,hy with
   |[a],[b],_,_=>
    rw[h.2];simp only[bV,Bool.false_eq_true,if_false,List.headD_cons];rw[run_equalIn_bool w D t a b g2];cases a<;>cases b<;>rfl
  .rename_i m e hk;simp only[aG]at h;obtain⟨hag,h⟩:=h;refine⟨λ hf=>by rw[hag]at hf;(cases hf),λD hD xs ys hx hy=>?_⟩;obtain⟨D,rfl⟩:∃D',D=D'+1:=⟨D -1,by omega⟩;cases eL:T e with
   |none=>rw[eL]at h;cases h
   |some ei=>
    rw[eL]at h;simp only[aG,beq_iff_eq]at h;have he:=hT e ei eL;have⟨hf,ih⟩:=Xl hT d e ei eL h.2;obtain⟨info,dd,z,g1,g2,g3,g4,g5,g6,g7,g8⟩:=he.ex;have hce:P.cellsOf e=ei.size:=(by simp[Program.cellsOf,g1,g3]);rw[h.1]at hx hy;rw[hag];simp only[bV,if_true];rw[run_equalIn_array w D _ _ (Dx ht hk) g1,hce];have items:∀is:U Nat,(∀ i∈is,i<m)->(Op.eqItems D e ei.size (xs.map Value.bool).toArray (ys.map Value.bool).toArray is).run P w= .ok (decide (∀ i∈is,chunk ei.size i xs=chunk ei.size i ys)) w:=by
     intro is
     induction is with
     |nil=>intro _;simp[Op.eqItems]
     |cons i is ihh=>
      intro hi;obtain⟨p1,p2⟩:=Xk (w:=w) he hf (hi i (by simp)) hx;obtain⟨q1,q2⟩:=Xk (w:=w) he hf (hi i (by simp)) hy;simp only[Op.eqItems,Sem.run_bind,p1,q1,Result.andThen_ok,ih D (by omega) _ _ p2 q2];by_cases hcc:chunk ei.size i xs=chunk ei.size i ys
      .simp only[hcc,decide_true,Bool.not_true,Bool.false_eq_true,if_false];rw[ihh (λ j hj=>hi j (by simp[hj]))];simp[hcc]
      .simp[hcc]
    rw[items _ (λ i hi=>List.mem_range.1 hi)];congr 1;rw[decide_eq_decide];exact⟨λ hh=>akC hx hy (λ i hi=>hh i (List.mem_range.2 hi)),λe _ _=>by rw[e]⟩
  .cases h
theorem QT:∀(l:U Bool)(vs:U Value),bj P β w I (l.map tB) vs->vs=l.map Value.bool
 |[],[],_=>rfl
 |b::l,v::vs,h=>by
  simp only[aF,bj,tB,VR,TR]at h;rw[h.1.1,QT l vs h.2];rfl
 |[],_::_,h=>by simp[bj]at h
 |_::_,[],h=>by simp[bj]at h
theorem ahF(hT:eZ P T){op:BinOp}{t:TypeId}{x y:AV}{n:Int}{xo yo:Operand}{u v:Value}{ab:Out}(ha:Lk T op t x y n=some ab)(cA:ab.ob)(hx:VR P β w I x u)(hy:VR P β w I y v):
 ∃z,(do eqGuard op t xo yo u v;binOp op t u v:Sem Value).run P w= .ok z w/\VR P β w I ab.v z/\ab.upd=[]:=by
 unfold Lk at ha;cases hti:T t with
 |none=>simp[hti]at ha
 |some ti=>
  have ht:=hT t ti hti;simp only[hti,af]at ha;split at ha
  .rename_i m e xs ys hk;split at ha
   .rename_i hb;have hgt:P.eqGuardType P.depth t=false:=by
     rcases ht.cmp (by rw[hb.2];simp)with ⟨fa,h1,_⟩ |⟨_,h⟩
     .rw[Dx ht hk]at h1;injection h1 with h1;cases h1
     .exact h
    have hagg:ti.agg=true:=by
     have:=hb.1;simp only[EU,hti,hk,aG]at this;exact this.1
    simp only[VR]at hx hy;obtain⟨us,rfl,vu⟩:=hx;obtain⟨vs,rfl,hvs⟩:=hy;have key:(∃ l1 l2:U Bool,xs=l1.map tB/\ys=l2.map tB/\l1.length=ti.size/\l2.length=ti.size/\(n≠0↔l1=l2))->(Op.equalIn 10000 t (.agg us) (.agg vs)).run P w= .ok (n !=0) w:=by
     rintro⟨l1,l2,rfl,rfl,e1,e2,e3⟩;have h1:=QT _ _ vu;have h2:=QT _ _ hvs;have:=(Xl (w:=w) hT 9 t ti hti hb.1).2 10000 (by omega) l1 l2 e1 e2;rw[hagg]at this;simp only[bV,if_true,<- h1,<- h2,Array.toArray_toList]at this
     all_goals grind
    have hgd:∀op,(eqGuard op t xo yo (.agg us) (.agg vs)).run P w= .ok () w:=λop=>run_eqGuard_agg w op t xo yo us vs hgt;cases op<;>simp only[kx,ay,reduceCtorEq]at ha<;>subst ha
    .have:=key cA;exact⟨.bool (n !=0),by simp[hgd,run_eql_struct,this],by simp only[tB,VR,TR];exact⟨trivial,trivial⟩,rfl⟩
    .have:=key cA;exact⟨.bool (!(n !=0)),by simp[hgd,run_neq_struct,this],by simp only[tB,VR,TR];exact⟨trivial,trivial⟩,rfl⟩
   .cases ha
  .cases ha
theorem aaN(hT:eZ P T)(h:Mem P w0 O0 β I obj w)(hn:β (cx i)=none){o:Oper}{n:Int}{ρ:Operand->AV}{get:Nat->J aS}{ab:Out}(hg:∀k o,get k=some o->obj k=some o)
 {r:Operand->Value} (hρ:∀x,VR P β w I (ρ x) (r x)) (ha:lN T i o n ρ get=some ab) (cA:ab.ob):q7 P w0 O0 β I obj w i ab ((execOp r o).run P w):=by
 obtain⟨dst,op,ty,aq,after,guard⟩:=o;have val:∀{s:Sem Value}{z:Value},s.run P w= .ok z w->ab.upd=[]->VR P β w I ab.v z->q7 P w0 O0 β I obj w i ab ((do pure (.value (<- s)):Sem Next).run P w):=by
  intro s z h1 h2 h3;refine⟨z,w,β,I,.inl (by simp[h1]),Step.refl ..,by rw[h2];exact h,h3⟩
 unfold lN at ha;split at ha
 .rename_i t a heq;simp only at heq;subst heq;have⟨z,h1,h2,h3⟩:=Oc hT h hg ha (hρ a);exact val h1 h3 h2
 .rename_i t a x heq;simp only at heq;subst heq;have⟨w',h1,h2,h3,h4⟩:=aaK hT h hg ha (hρ a) (hρ x);exact⟨undef,w',β,I,.inr ⟨by simp[execOp,h1],rfl⟩,⟨λ _ _=>rfl,λ_ _ h=>h,h2,λ_ h=>h⟩,h3,by rw[h4];simp[VR]⟩
 .rename_i e heq;simp only at heq;subst heq;have⟨u,w',β',h1,h2,h3,h4⟩:=aaL hT h hn ha;exact⟨u,w',β',I,.inl (by simp[execOp,h1]),h2,h3,h4⟩
 .rename_i e x heq;simp only at heq;subst heq;have⟨u,w',β',h1,h2,h3,h4⟩:=aeZ (e:=e) h hn ha (hρ x);exact⟨u,w',β',I,.inl (by simp[execOp,h1]),h2,h3,h4⟩
 .rename_i t x lo hi heq;simp only at heq;subst heq;obtain⟨z,h1,h2,h3⟩:=aaM (oE:=lo.map r) (hiv:=hi.map r) hT h hg ha cA (hρ x) (λ y hy=>by
   cases lo with
   |none=>cases hy
   |some q=>cases hy;exact⟨r q,rfl,hρ q⟩) (λ h=>by cases lo<;>first |rfl |cases h) (λ y hy=>by
   cases hi with
   |none=>cases hy
   |some q=>cases hy;exact⟨r q,rfl,hρ q⟩) (λ h=>by cases hi<;>first |rfl |cases h)
  exact val h1 h3 h2
 .rename_i Wc t x y q heq;simp only at heq;subst heq;have⟨z,h1,h2,h3⟩:=ahF (xo:=x) (yo:=y) hT ha cA (hρ x) (hρ y);exact val h1 h3 h2
 .cases ha
end
def L2(T:dC)(i:Nat)(t:TypeId)(l c:AV):J Out:=
 (T t).bind λti=>match ti.k,l,c with
 | .slice e,.t (.sc (.int _ n)),.t (.sc (.int _ m))=>(T e).bind λei=>
  some ⟨.own (cx i) 0 n.toNat,[(cx i,some ⟨ei.size,eu (List.replicate n.toNat (ei.zero.map cv))⟩)],[0<=n/\n<=m/\m.toNat*ei.bytes<=140737488355328/\m.toNat<=maxLen/\0<ei.size]⟩
 |_,_,_=>none
def QU(x:AV):J Out:=
 match x with
 | .ptr k r f=>pv (.ptr k r f)
 | .ej r f=>pv (.ej r f)
 |_=>none
def GO:Op->Bool
 | .nilCheck _=>true
 | .makeSlice _ _ _=>true
 | .makeMap _ none=>true
 | .lookup _ _ _ _=>true
 | .mapUpdate _ _ _ _=>true
 |_=>false
def EW(T:dC)(i:Nat)(o:Oper)(_n:Int)(ρ:Operand->AV)(get:Nat->J aS):J Out:=
 match o.op with
 | .nilCheck x=>QU (ρ x)
 | .makeSlice t l c=>L2 T i t (ρ l) (ρ c)
 | .makeMap t none=>IW T i t
 | .lookup t m x ok=>KE T t (ρ m) (ρ x) ok get
 | .mapUpdate t m x v=>Oa T t (ρ m) (ρ x) (ρ v) get
 |_=>none
def qD(T:dC)(i:Nat)(o:Oper)(n:Int)(ρ:Operand->AV)(get:Nat->J aS):J Out:=
 match (bif GO o.op then EW T i o n ρ get else pO T i o n ρ get)with
 |some ab=>some ab
 |none=>lN T i o n ρ get
section
variable {T:dC}
theorem aaO{i:Nat}{o:Oper}{n:Int}{ρ ρ':Operand->AV}{get:Nat->J aS}(h:∀x∈o.op.operands,ρ x=ρ' x):EW T i o n ρ get=EW T i o n ρ' get:=by
 obtain⟨dst,op,ty,aq,after,guard⟩:=o;cases op<;>simp only[Op.operands]at h<;>simp only[EW]
 case nilCheck x=>rw[h x (by simp)]
 case makeSlice t l c=>rw[h l (by simp),h c (by simp)]
 case makeMap t r=>cases r<;>rfl
 case lookup t m x ok=>rw[h m (by simp),h x (by simp)]
 case mapUpdate t m x v=>rw[h m (by simp),h x (by simp),h v (by simp)]
theorem aaP{i:Nat}{o:Oper}{n:Int}{ρ ρ':Operand->AV}{get:Nat->J aS}(h:∀x∈o.op.operands,ρ x=ρ' x):qD T i o n ρ get=qD T i o n ρ' get:=by
 unfold qD;rw[adb h,aaO h,aaJ h]
end
section
variable {P:Program} {T:dC} {w0:World} {O0:i9} {β:Nat->Option cE} {I:Nat->Prop} {obj:Nat->Option aS} {w:World} {i:Nat}
theorem aaQ(z:Array Value)(n j:Nat)(h:j<n):(madeCells z n)[j]? =some (z[j%z.size]!):=by simp[madeCells,h]
theorem ae1(hT:eZ P T)(h:Mem P w0 O0 β I obj w)(hn:β (cx i)=none){t:TypeId}{l c:AV}{u v:Value}{ab:Out}(ha:L2 T i t l c=some ab)(cA:ab.ob)(hl:VR P β w I l u)(hc:VR P β w I c v)
 {r:Operand->Value} {x y:Operand} (hu:r x=u) (hv:r y=v) {dst:J Tmp} {ty:TypeId} {aq:String} {after:Array Edge} {guard:J (Nat×Bool)}:
 q7 P w0 O0 β I obj w i ab ((execOp r ⟨dst,.makeSlice t x y,ty,aq,after,guard⟩).run P w):=by
 unfold L2 at ha;cases hti:T t with
 |none=>simp[hti]at ha
 |some ti=>
  simp only[hti,af]at ha;split at ha
  .rename_i e kl n kc m hkd;cases eL:T e with
   |none=>simp[eL]at ha
   |some ei=>
    simp only[eL,af,ay]at ha;subst ha;obtain⟨n0,nm,m47,HD,mpos⟩:=cA;simp only[VR,TR]at hl hc;obtain⟨rfl,_⟩:=hl;obtain⟨rfl,_⟩:=hc;have he:=hT e ei eL;have ez:=iB (hT t ti hti) hkd;obtain⟨info,d,z,g1,g2,g3,g4,g5,g6,g7,g8⟩:=he.ex;obtain⟨n,rfl⟩:∃n':Nat,n=(n':Int):=⟨n.toNat,by omega⟩;obtain⟨m,rfl⟩:∃m':Nat,m=(m':Int):=⟨m.toNat,by omega⟩;simp only[Int.toNat_natCast]at m47 HD ⊢;have hb:(info.bytes:Int)*(m:Int)<=281474976710656:=by
     have:((info.bytes*m:Nat):Int)<=281474976710656:=by rw[g4,Nat.mul_comm];omega
     rwa [Int.natCast_mul]at this
    have hrun:=run_make (P:=P) w t e info z ez g1 g5 kl kc n m n0 nm hb (by simp only[maxLen]at HD;omega);simp only[Int.toNat_natCast,g3]at hrun;have hzs:z.cells.size=ei.size:=(by rw[<- Array.length_toList,g6];exact he.len);have hcs:(madeCells z.cells (m*ei.size)).size=m*ei.size:=size_madeCells _ _;obtain⟨hS,hM⟩:=Mem.alloc (i:=cx i) (o:=⟨ei.size,List.replicate n (ei.zero.map cv)⟩) (c:=madeCells z.cells (m*ei.size)) (e:=e) h hn (by
     refine bo.zeros ei.zero ei.size he.len (λ v hv=>qz (all_eq_true.1 he.one v hv)) n _ 0 (λ i j hi hj=>?_);have hlt:0+i*ei.size+j<m*ei.size:=by
      have:(i+1)*ei.size<=m*ei.size:=Nat.mul_le_mul_right _ (by omega);rw[Nat.add_mul]at this;omega
     rw[aaQ _ _ _ hlt,hzs];have e1:(0+i*ei.size+j)%ei.size=j:=(by rw[Nat.zero_add,Nat.mul_comm,Nat.mul_add_mod,Nat.mod_eq_of_lt hj]);rw[e1,<- g6,Array.getElem?_toList,getElem!_pos z.cells j (by rw[hzs];exact hj),Array.getElem?_eq_getElem])
    refine⟨_,_,_,I,.inl (by simp[execOp,hu,hv,hrun];rfl),hS,hM.xa,?_⟩;simp only[VR];refine .inr ⟨w.heap.size,ei.size,_,_,0,by simp[ins];rfl,rfl,by omega,?_,by simp⟩;rw[PA,Pu,hcs,Nat.zero_add,Nat.zero_add];exact aC _
  .cases ha
theorem aaR(hT:eZ P T)(h:Mem P w0 O0 β I obj w)(hn:β (cx i)=none){o:Oper}{n:Int}{ρ:Operand->AV}{get:Nat->J aS}{ab:Out}(hg:∀k o,get k=some o->obj k=some o)
 {r:Operand->Value} (hρ:∀x,VR P β w I (ρ x) (r x)) (ha:EW T i o n ρ get=some ab) (cA:ab.ob):q7 P w0 O0 β I obj w i ab ((execOp r o).run P w):=by
 obtain⟨dst,op,ty,aq,after,guard⟩:=o;unfold EW at ha;split at ha
 .rename_i x heq;simp only at heq;subst heq;have hx:=hρ x;unfold QU at ha;split at ha
  .rename_i k q f hk;simp only[pv,ay]at ha;subst ha;rw[hk]at hx;have hx2:=hx;simp only[VR]at hx2;obtain⟨b,sz,m,_,e1⟩:=hx2;exact⟨r x,w,β,I,.inl (by simp[execOp,e1]),Step.refl ..,h,hx⟩
  .rename_i q f hk;simp only[pv,ay]at ha;subst ha;rw[hk]at hx;have hx2:=hx;simp only[VR]at hx2;obtain⟨b,o',e1,_⟩:=hx2;exact⟨r x,w,β,I,.inl (by simp[execOp,e1]),Step.refl ..,h,hx⟩
  .cases ha
 .rename_i t l c heq;simp only at heq;subst heq;exact ae1 hT h hn ha cA (hρ l) (hρ c) rfl rfl
 .rename_i t heq;simp only at heq;subst heq;exact Xi h hn ha
 .rename_i t m x ok heq;simp only at heq;subst heq;have⟨z,h1,h2,h3⟩:=aaH hT h hg ha (hρ m) (hρ x);exact⟨z,w,β,I,.inl (by simp[execOp,h1]),Step.refl ..,by rw[h3];exact h,h2⟩
 .rename_i t m x v heq;simp only at heq;subst heq;have⟨w',h1,h2,h3,h4⟩:=aaI hT h hg ha (hρ m) (hρ x) (hρ v);exact⟨undef,w',β,I,.inr ⟨by simp[execOp,h1],rfl⟩,⟨λ _ _=>rfl,λ_ _ h=>h,h2,λ_ h=>h⟩,h3,by rw[h4];simp[VR]⟩
 .cases ha
theorem aaS(hT:eZ P T)(h:Mem P w0 O0 β I obj w)(hn:β (cx i)=none){o:Oper}{n:Int}{ρ:Operand->AV}{get:Nat->J aS}{ab:Out}(hg:∀k o,get k=some o->obj k=some o)
 {r:Operand->Value} (hρ:∀x,VR P β w I (ρ x) (r x)) (ha:qD T i o n ρ get=some ab) (cA:ab.ob):q7 P w0 O0 β I obj w i ab ((execOp r o).run P w):=by
 unfold qD at ha;split at ha
 .rename_i out' he;cases ha;cases hx:GO o.op with
  |true=>rw[hx]at he;exact aaR (n:=n) hT h hn hg hρ he cA
  |false=>rw[hx]at he;exact adg hT h hn hg hρ he cA
 .exact aaN hT h hn hg hρ ha cA
end
mutual
def fx(f:Nat->Nat):AV->AV
 | .own k aa len=> .own (f k) aa len
 | .ptr k row aa=> .ptr (f k) row aa
 | .agg cs=> .agg (Av f cs)
 | .eC cs=> .eC (Av f cs)
 | .fn F first caps=> .fn F (Av f first) (Av f caps)
 | .t x=> .t x
 | .ej r o=> .ej r o
 | .du φ=> .du φ
 | .mp k=> .mp (f k)
 | .oz k len=> .oz (f k) len
 | .cM=> .cM
 | .ub=> .ub
 | .undef=> .undef
def Av(f:Nat->Nat):List AV->List AV
 |[]=>[]
 |x::xs=>fx f x::Av f xs
end
def La(f:Nat->Nat)(o:aS):aS:=⟨o.sz,o.rows.map (Av f)⟩
def nq(os:U (Nat×aS))(k:Nat):J aS:=match os with
 |[]=>none
 |(j,o)::r=>if j=k then some o else nq r k
def aqR(P:Program)(w:World)(β:Nat->J cE)(I:Nat->Prop)(os':U (Nat×aS))(rv:AV)(e:Ending)(w':World):Prop:=
 ∃v β' I',e= .returned v/\Mem P w (qC β I) β' I' (nq os') w'/\(∀ b,I b->I' b)/\VR P β' w' I' rv v
def sR(os:U aS)(k:Nat):J aS:=os[k]?
def yy(P:Program)(f:FuncId)(args:U AV)(os:U aS)(os':U (Nat×aS))(rv:AV):Prop:=
 eU P f/\∀(w:World) (β:Nat->J cE) (I:Nat->Prop) (vs:Array Value),(∀ k,os.length<=k->β k=none)->Mem P w (qC β I) β I (sR os) w->bj P β w I args vs.toList->Calls P f vs w (aqR P w β I os' rv)
def IX(i k:Nat):Bool:=Nat.ble 1000000 k&&(k -1000000)/64==i
theorem Xm{i k:Nat}:IX i k=true↔ie (cx i) k:=by
 simp only[IX,aG,Nat.ble_eq,beq_iff_eq,ie,cx];omega
def cn(i:Nat)(ae:U Nat)(j:Nat):Nat:=if j<1000 then(ae[j]?).getD 0 else cx i+(j -1000)
def Xn(P:Program)(get:Nat->J aS)(ae:U Nat)(k:Nat):OB->J (aS×List Prop)
 | .dat p=>(get k).bind λo=>some (gj p,[o.sz=p.1/\eu (o.rows.take p.2.length)=aL p.2])
 | .DD hs=>(get k).bind λo=>(zm P get ae o.rows hs).bind λq=>some (⟨o.sz,q.1⟩,q.2)
def Gr(P:Program)(get:Nat->J aS)(ae:U Nat):U Nat->U OB->J (List aS×List Prop)
 |[],[]=>some ([],[])
 |k::ks,b::bs=>(Xn P get ae k b).bind λp=>(Gr P get ae ks bs).bind λq=>some (p.1::q.1,p.2++q.2)
 |_,_=>none
def QV(o:aS):U Nat:=o.rows.flatMap eX
def Xo(get:Nat->J aS)(xs:U AV)(ae cL:U Nat)(bs:U OB):Prop:=
 (∀ k∈cL,k∉ae)/\(∀ k∈eX xs,k∉ae->k∈cL)/\∀(j:Nat) hs q o,bs[j]? =some (.DD hs)->ae[j]? =some q->get q=some o->∀k∈QV o,k∉ae->k∈cL
def ym(i:Nat)(ae:U Nat)(os':U (Nat×aS)):U (Nat×Option aS):=
 (ae.zipIdx.map λp=>(p.1,(nq os' p.2).map (La (cn i ae))))++(os'.filter λq=>decide (1000<=q.1)).map λq=>(cn i ae q.1,some (La (cn i ae) q.2))
mutual
def vY:AV->Prop
 | .t x=>x.flat
 | .ej _ _ | .du _=>False
 | .agg cs | .eC cs=>qE cs
 | .fn _ first caps=>qE first/\qE caps
 |_=>True
def qE:List AV->Prop
 |[]=>True
 |x::xs=>vY x/\qE xs
end
def AK(n k:Nat):Prop:=k<n\/(1000<=k/\k<1064)
def G3(n:Nat)(os':U (Nat×aS))(rv:AV):Prop:=
 (∀ q∈os',AK n q.1)/\(os'.map (·.1)).Nodup/\(∀ q∈os',∀r∈q.2.rows,∀k∈eX r,AK n k)/\∀k∈refs rv,AK n k
def mS(os':U (Nat×aS))(rv:AV):Prop:=vY rv/\∀q∈os',∀r∈q.2.rows,qE r
def Od(P:Program)(i:Nat)(f:AV)(args:U AV)(cm:iu)(get:Nat->J aS):J Out:=
 match f,cm with
 | .fn F first caps,.tE ae cL bs hs os' rv keep=>if ae.Nodup/\ae.length<=1000 then(Gr P get ae ae bs).bind λho=>(mM P get ae (first++args++caps) hs).bind λq=>
  some ⟨fx (cn i ae) rv,ym i ae os'++(if keep then []else cL.map λk=>(k,none)),
   q.2.2++ho.2++[yy P F q.1 ho.1 os' rv,G3 ae.length os' rv,Xo get (first++args++caps) ae cL bs]++(if keep then [mS os' rv]else [])⟩
  else none
 |_,_=>none
section
variable {P:Program} {w0:World} {O0:i9} {β β1 β2:Nat->Option cE} {I:Nat->Prop} {obj:Nat->Option aS} {w:World} {i:Nat}
mutual
theorem VR.ux{f:Nat->Nat}:∀(x:AV)(v:Value),(∀ k∈refs x,∀B,β1 k=some B->β2 (f k)=some B)->VR P β1 w I x v->VR P β2 w I (fx f x) v
 | .own k aa len,v,hd,h=>by
  simp only[fx,VR]at h ⊢;have hd':=hd k (by simp[refs]);rcases h with ⟨h1,h2⟩ |⟨b,s,n,c,o,h1,h2⟩
  .exact .inl ⟨hd' _ h1,h2⟩
  .exact .inr ⟨b,s,n,c,o,hd' _ h1,h2⟩
 | .ptr k row aa,v,hd,h=>by
  simp only[fx,VR]at h ⊢;obtain⟨b,s,n,h1,h2⟩:=h;exact⟨b,s,n,hd k (by simp[refs]) _ h1,h2⟩
 | .agg cs,v,hd,h=>by
  simp only[fx,VR]at h ⊢;obtain⟨vs,h1,h2⟩:=h;exact⟨vs,h1,bj.ux cs _ (by simpa[refs]using hd) h2⟩
 | .eC cs,v,hd,h=>by
  simp only[fx,VR]at h ⊢;obtain⟨vs,h1,h2⟩:=h;exact⟨vs,h1,bj.ux cs _ (by simpa[refs]using hd) h2⟩
 | .fn F first caps,v,hd,h=>by
  simp only[fx,VR]at h ⊢;obtain⟨fs,cs,h1,h2,h3⟩:=h;exact⟨fs,cs,h1,bj.ux first _ (λ k hk=>hd k (by simp[refs,hk])) h2,bj.ux caps _ (λ k hk=>hd k (by simp[refs,hk])) h3⟩
 | .t x,v,_,h=>by simpa[fx,VR]using h
 | .ej r o,v,_,h=>by simpa[fx,VR]using h
 | .du φ,v,_,h=>by simpa[fx,VR]using h
 | .mp k,v,hd,h=>by
  simp only[fx,VR]at h ⊢;obtain⟨b,h1,h2⟩:=h;exact⟨b,hd k (by simp[refs]) _ h1,h2⟩
 | .oz k len,v,hd,h=>by
  simp only[fx,VR]at h ⊢;rcases h with h |⟨h0,b,sz,n,cap,o,h1,h2⟩
  .exact .inl h
  .exact .inr ⟨h0,b,sz,n,cap,o,hd k (by simp[refs]) _ h1,h2⟩
 | .cM,v,_,h=>by simpa[fx,VR]using h
 | .ub,v,_,h=>by simpa[fx,VR]using h
 | .undef,v,_,h=>by simp[fx,VR]
theorem bj.ux{f:Nat->Nat}:∀(xs:List AV)(vs:List Value),(∀ k∈eX xs,∀B,β1 k=some B->β2 (f k)=some B)->bj P β1 w I xs vs->bj P β2 w I (Av f xs) vs
 |[],[],_,_=>by simp[Av,bj]
 |x::xs,v::vs,hd,h=>by
  simp only[bj]at h;simp only[Av,bj];exact⟨VR.ux x v (λ k hk=>hd k (by simp[eX,hk])) h.1,bj.ux xs vs (λ k hk=>hd k (by simp[eX,hk])) h.2⟩
 |[],_::_,_,h=>by simp[bj]at h
 |_::_,[],_,h=>by simp[bj]at h
end
mutual
theorem VR.flat{I2:Nat->Prop}:∀(x:AV)(v:Value),vY x->VR P β w I x v->VR P β w I2 x v
 | .own k aa len,v,_,h=>by simpa only[VR]using h
 | .ptr k row aa,v,_,h=>by simpa only[VR]using h
 | .agg cs,v,hf,h=>by
  simp only[VR]at h ⊢;obtain⟨vs,h1,h2⟩:=h;exact⟨vs,h1,bj.flat cs _ (by simpa[vY]using hf) h2⟩
 | .eC cs,v,hf,h=>by
  simp only[VR]at h ⊢;obtain⟨vs,h1,h2⟩:=h;exact⟨vs,h1,bj.flat cs _ (by simpa[vY]using hf) h2⟩
 | .fn F first caps,v,hf,h=>by
  simp only[VR]at h ⊢;obtain⟨fs,cs,h1,h2,h3⟩:=h;simp only[vY]at hf;exact⟨fs,cs,h1,bj.flat first _ hf.1 h2,bj.flat caps _ hf.2 h3⟩
 | .t x,v,hf,h=>by
  simp only[VR]at h ⊢;exact Tree.lO (by simpa[vY]using hf) h
 | .ej r o,v,hf,h=>by simp[vY]at hf
 | .du φ,v,hf,h=>by simp[vY]at hf
 | .mp k,v,_,h=>by simpa only[VR]using h
 | .oz k len,v,_,h=>by simpa only[VR]using h
 | .cM,v,_,h=>by simpa only[VR]using h
 | .ub,v,_,h=>by simpa only[VR]using h
 | .undef,v,_,h=>by simp[VR]
theorem bj.flat{I2:Nat->Prop}:∀(xs:List AV)(vs:List Value),qE xs->bj P β w I xs vs->bj P β w I2 xs vs
 |[],[],_,_=>by simp[bj]
 |x::xs,v::vs,hf,h=>by
  simp only[bj]at h ⊢;simp only[qE]at hf;exact⟨VR.flat x v hf.1 h.1,bj.flat xs vs hf.2 h.2⟩
 |[],_::_,_,h=>by simp[bj]at h
 |_::_,[],_,h=>by simp[bj]at h
end
theorem TF(f:Nat->Nat):∀l:U AV,(Av f l).length=l.length
 |[]=>rfl
 |_::l=>by simp only[Av,bn,TF f l]
theorem cQ.tell{β':Nat->J cE}{w':World}{I':Nat->Prop}{r q:U AV}{c:Array Value}{aa:Nat}(hv:∀vs:U Value,bj P β w I r vs->bj P β' w' I' q vs)(h:cQ P β w I r c aa):cQ P β' w' I' q c aa:=by
 have⟨vs,h1,h2,h3⟩:=cQ.list r c aa h;exact cQ.nr q vs c aa (hv vs h1) h2 h3
theorem bo.tell{β':Nat->J cE}{w':World}{I':Nat->Prop}:∀{rs qs:U (List AV)}{c:Array Value}{aa sz:Nat},rs.length=qs.length->(∀ (j:Nat) r q,rs[j]? =some r->qs[j]? =some q->q.length=r.length/\∀vs:U Value,bj P β w I r vs->bj P β' w' I' q vs)->
 bo P β w I rs c aa sz->bo P β' w' I' qs c aa sz
 |[],[],_,_,_,_,_,h=>h
 |r::rs,q::qs,c,aa,sz,hl,hr,h=>by
  simp only[bo]at h ⊢;obtain⟨h1,h2,h3⟩:=h;have⟨e1,e2⟩:=hr 0 r q rfl rfl;exact⟨e1.trans h1,h2.tell e2,bo.tell (by simpa using hl) (λ j a b ha hb=>hr (j+1) a b (by simpa using ha) (by simpa using hb)) h3⟩
 |[],_::_,_,_,_,hl,_,_=>by simp at hl
 |_::_,[],_,_,_,hl,_,_=>by simp at hl
theorem cy.tell{β':Nat->J cE}{I':Nat->Prop}:∀{rs qs:U (List AV)}{es:U MapEntry},rs.length=qs.length->(∀ (j:Nat) r q',rs[j]? =some r->qs[j]? =some q'->∀vs:U Value,bj P β w I r vs->bj P β' w I' q' vs)->cy P β w I rs es->cy P β' w I' qs es
 |[],[],[],_,_,_=>trivial
 |r::rs,q::qs,_::es,hl,hr,⟨h1,h2⟩=>⟨hr 0 r q rfl rfl _ h1,cy.tell (by simpa using hl) (λ j r' q' a b=>hr (j+1) r' q' (by simpa using a) (by simpa using b)) h2⟩
 |[],_::_,_,hl,_,_=>by simp at hl
 |_::_,[],_,hl,_,_=>by simp at hl
 |[],_,_::_,_,_,h=>h.elim
 |_::_,_,[],_,_,h=>h.elim
theorem OR.tell{β':Nat->J cE}{I':Nat->Prop}{o q:aS}{B:cE}(hsz:q.sz=o.sz)(hl:o.rows.length=q.rows.length)(hr:∀(j:Nat) r q',o.rows[j]? =some r->q.rows[j]? =some q'->q'.length=r.length/\∀vs:U Value,bj P β w I r vs->bj P β' w I' q' vs)
 (h:OR P β w I o B):OR P β' w I' q B:=by
 cases B with
 |none=>
  simp only[OR]at h ⊢;rw[h]at hl;exact eq_nil_of_length_eq_zero hl.symm
 | «at» b s n=>
  obtain⟨h1,c,e,h2,h3,h4⟩:=h;exact⟨by rw[hsz];exact h1,c,e,h2,h3,h4.tell hl hr⟩
 |mp b=>
  obtain⟨es,cl,h1,hle,h2,h3⟩:=h;exact⟨es,cl,h1,by omega,λe=>cy.tell hl (λ j r q' a b=>(hr j r q' a b).2) (h2 (by omega)),h3⟩
theorem OR.ux{f:Nat->Nat}{o:aS}{B:cE}(hf:∀r∈o.rows,∀k∈eX r,∀B,β1 k=some B->β2 (f k)=some B)(h:OR P β1 w I o B):OR P β2 w I (La f o) B:=by
 refine OR.tell (o:=o) (q:=La f o) rfl (by simp[La]) (λ j r q h1 h2=>?_) h;simp only[La,List.getElem?_map,eH]at h2;obtain⟨r',h3,rfl⟩:=h2;rw[h1]at h3;cases h3;exact⟨TF f r,λvs hv=>bj.ux r vs (hf r (cO h1)) hv⟩
theorem OR.mS{I2:Nat->Prop}{o:aS}{B:cE}(hf:∀r∈o.rows,qE r)(h:OR P β w I o B):OR P β w I2 o B:=by
 refine OR.tell rfl rfl (λ j r q h1 h2=>?_) h;rw[h1]at h2;cases h2;exact⟨rfl,λvs hv=>bj.flat r vs (hf r (cO h1)) hv⟩
def pm(P:Program)(get:Nat->J aS)(ae:U Nat):U (List AV)->U (List AV)->Prop
 |[],[]=>True
 |r::rs,q::qs=>fg P get ae r q/\pm P get ae rs qs
 |_,_=>False
theorem Oe{get:Nat->J aS}{ae:U Nat}:∀{rs:U (List AV)}{hs:U (List LH)}{p:U (List AV)×List Prop},zm P get ae rs hs=some p->(∀ q∈p.2,q)->pm P get ae rs p.1
 |[],[],p,h,_=>by simp only[zm,ay]at h;subst h;trivial
 |r::rs,hl::hs,p,h,ho=>by
  simp only[zm,ai,ay]at h;obtain⟨q,h1,q',h2,rfl⟩:=h;exact⟨nT h1 (λ y hy=>ho y (by simp[hy])),Oe h2 (λ y hy=>ho y (by simp[hy]))⟩
 |[],_::_,p,h,_=>by simp[zm]at h
 |_::_,[],p,h,_=>by simp[zm]at h
theorem fg.length{get:Nat->J aS}{ae:U Nat}:∀{xs ys:U AV},fg P get ae xs ys->ys.length=xs.length
 |[],[],_=>rfl
 |x::xs,y::ys,h=>by simp only[bn,fg.length h.2]
 |[],_::_,h=>h.elim
 |_::_,[],h=>h.elim
theorem pm.get{get:Nat->J aS}{ae:U Nat}:∀{rs qs:U (List AV)},pm P get ae rs qs->rs.length=qs.length/\∀(j:Nat) r q,rs[j]? =some r->qs[j]? =some q->fg P get ae r q
 |[],[],_=>⟨rfl,λj r q h=>by simp at h⟩
 |r::rs,q::qs,h=>by
  obtain⟨h1,h2⟩:=pm.get h.2
  grind [h.1]
 |[],_::_,h=>h.elim
 |_::_,[],h=>h.elim
theorem Xp{get:Nat->J aS}{ae:U Nat}:∀{ks:U Nat}{bs:U OB}{p:U aS×List Prop},Gr P get ae ks bs=some p->(∀ q∈p.2,q)->ks.length=p.1.length/\∀(j:Nat) k q,ks[j]? =some k->p.1[j]? =some q->∃o,get k=some o/\
 ((∃ d:fe,bs[j]? =some (.dat d)/\q=gj d/\o.sz=d.1/\eu (o.rows.take d.2.length)=aL d.2)\/(∃ hs,bs[j]? =some (.DD hs)/\q.sz=o.sz/\pm P get ae o.rows q.rows))
 |[],[],p,h,_=>by simp only[Gr,ay]at h;subst h;exact⟨rfl,λj k q h=>by simp at h⟩
 |k::ks,b::bs,p,h,ho=>by
  simp only[Gr,ai,ay]at h;obtain⟨q,h1,q',h2,rfl⟩:=h;obtain⟨g1,g2⟩:=Xp h2 (λ y hy=>ho y (by simp[hy]));refine⟨by simp[g1],λj k' z hj hz=>?_⟩;cases j with
  |succ j=>
   obtain⟨o,e1,e2⟩:=g2 j k' z (by simpa using hj) (by simpa using hz);exact⟨o,e1,by simpa using e2⟩
  |zero=>
   simp only[List.getElem?_cons_zero,ay]at hj hz;subst hj;subst hz;cases b with
   |dat d=>
    simp only[Xn,ai,ay]at h1;obtain⟨o,e1,rfl⟩:=h1;have:=ho _ (List.mem_append_left _ (aY.2 rfl));exact⟨o,e1,.inl ⟨d,rfl,rfl,this.1,this.2⟩⟩
   |DD hs=>
    simp only[Xn,ai,ay]at h1;obtain⟨o,e1,z,e2,rfl⟩:=h1;exact⟨o,e1,.inr ⟨hs,rfl,rfl,Oe e2 (λ y hy=>ho y (List.mem_append_left _ hy))⟩⟩
 |[],_::_,p,h,_=>by simp[Gr]at h
 |_::_,[],p,h,_=>by simp[Gr]at h
theorem Mem.xv(h:Mem P w0 O0 β I obj w){get:Nat->J aS}(hg:∀k o,get k=some o->obj k=some o){ae cL:U Nat}{os:U aS}(hnd:ae.Nodup)(hlen:ae.length=os.length)
 (hm:∀(j:Nat) k q,ae[j]? =some k->os[j]? =some q->∃o,get k=some o/\((∃ d:fe,q=gj d/\o.sz=d.1/\eu (o.rows.take d.2.length)=aL d.2)\/(q.sz=o.sz/\pm P get ae o.rows q.rows/\∀k∈QV o,k∉ae->k∈cL))) (Cd:∀k∈cL,k∉ae):
 Mem P w (qC (βc ae β) (fm β obj cL I)) (βc ae β) (fm β obj cL I) (sR os) w:=by
 have hb0:∀j k,ae[j]? =some k->βc ae β j=β k:=λj k hk=>by simp[βc,hk]
 have look:∀j q,sR os j=some q->∃k o,ae[j]? =some k/\obj k=some o/\∀B,OR P β w I o B->OR P (βc ae β) w (fm β obj cL I) q B:=by
  intro j q hj;simp only[sR]at hj;have hjl:j<ae.length:=by rw[hlen];exact(dh.1 hj).1
  obtain⟨o,g,hh⟩:=hm j _ q (bX hjl) hj;refine⟨_,o,bX hjl,hg _ _ g,λB hO=>?_⟩;rcases hh with ⟨d,rfl,g4,g5⟩ |⟨g4,g5,g6⟩
  .have:OR P β w I (gj d) B:=by
    cases B with
    |none=>
     simp only[OR]at hO ⊢;rw[hO]at g5;simpa[eu,gj]using g5.symm
    | «at» b s n=>
     obtain⟨h1,c,e,h2,h3,h4⟩:=hO;refine⟨by rw[h1,g4];rfl,c,e,h2,h3,?_⟩;have:=bo.wk _ _ _ _ (bo.take d.2.length _ _ _ _ h4);rw[g5]at this;exact this
    |mp b=>exact OR.part g4 g5 hO
   exact this.dat λb hb=> .inl hb
  .obtain⟨e1,e2⟩:=g5.get;refine hO.tell g4 e1 (λ m r q' hr hq=>?_);have hb:=e2 m r q' hr hq;refine⟨hb.length,λvs hv=>?_⟩;refine fg.sound h hg cL r q' vs (λ k hk hn=>g6 k ?_ hn) hb hv;exact List.mem_flatMap.2 ⟨r,cO hr,hk⟩
 constructor
 .intro j q hj;have⟨k,o,g1,g2,g3⟩:=look j q hj;have⟨B,hB,hO⟩:=h.cD k o g2;exact⟨B,by rw[hb0 j k g1];exact hB,g3 B hO⟩
 .intro j j' o o' B B' b h1 h2 h3 h4 h5 h6;have⟨k,q,g1,g3,_⟩:=look j o h1;have⟨k',q',g1',g3',_⟩:=look j' o' h2;rw[hb0 j k g1]at h3;rw[hb0 j' k' g1']at h4;have:=h.gd k k' q q' B B' b g3 g3' h3 h4 h5 h6;subst this;exact QR hnd g1 g1'
 .intro j o B b h1 h2 h5;have⟨k,q,g1,g3,_⟩:=look j o h1;have h2':=h2;rw[hb0 j k g1]at h2;have⟨a1,a2,_⟩:=h.ownB k q B b g3 h2 h5;refine⟨?_,a2,.inl ⟨j,B,h2',h5⟩⟩;rintro (hI |⟨k',o',s',n',e1,e2,e3⟩)
  .exact a1 hI
  .have:=h.nb k k' q o' b g3 e2 ⟨B,h2,h5⟩ (.at e3);subst this;exact Cd _ e1 (cO g1)
 .exact N7 h _
 .exact λb hb=> .inl hb
 .exact λ_ _ _=>rfl
 .exact aC _
 .rfl
 .rfl
 .rfl
 .intro j B hj;simp only[qC]at hj;split at hj
  .exact hj
  .cases hj
 .exact h.vars.mono (λ _ _=>rfl) (λ b hb=> .inl hb)
theorem adl:∀{os':U (Nat×aS)}{k:Nat}{o:aS},nq os' k=some o->(k,o)∈os'
 |[],_,_,h=>by simp[nq]at h
 |(j,q)::r,k,o,h=>by
  simp only[nq]at h;split at h
  .rename_i e;cases h;subst e;exact List.mem_cons_self
  .exact fF _ (adl h)
theorem Xq:∀{os':U (Nat×aS)}{k:Nat}{o:aS},(os'.map (·.1)).Nodup->(k,o)∈os'->nq os' k=some o
 |(j,q)::r,k,o,hn,h=>by
  simp only[aF,List.nodup_cons]at hn;simp only[nq];rcases aO.1 h with e |h
  .injection e with e1 e2;subst e1;subst e2;rw[aT rfl]
  .rw[aW (λ e=>hn.1 (mem_map.2 ⟨(k,o),h,e.symm⟩)),Xq hn.2 h]
theorem ae3{F:Nat->J aS}{k:Nat}:∀(ae:U Nat)(n:Nat),(∃ j,ae[j]? =some k/\bU obj ((ae.zipIdx n).map λp=>(p.1,F p.2)) k=F (n+j))\/(k∉ae/\bU obj ((ae.zipIdx n).map λp=>(p.1,F p.2)) k=obj k)
 |[],n=> .inr ⟨by simp,rfl⟩
 |q::ae,n=>by
  simp only[List.zipIdx_cons,aF,bU];by_cases e:k=q
  .subst e;exact .inl ⟨0,rfl,by simp⟩
  .rw[aW e];rcases ae3 (k:=k) ae (n+1)with ⟨j,h1,h2⟩ |⟨h1,h2⟩
   .exact .inl ⟨j+1,by simpa using h1,by rw[h2];congr 1;omega⟩
   .exact .inr ⟨by simp[e,h1],h2⟩
theorem abX{c:Nat->Nat}{G:aS->aS}{k:Nat}:∀(l:U (Nat×aS)),(∃ q∈l,k=c q.1/\bU obj (l.map λq=>(c q.1,some (G q.2))) k=some (G q.2))\/bU obj (l.map λq=>(c q.1,some (G q.2))) k=obj k
 |[]=> .inr rfl
 |q::l=>by
  simp only[aF,bU];by_cases e:k=c q.1
  .exact .inl ⟨q,by simp,e,by rw[aT e]⟩
  .rw[aW e];rcases abX (c:=c) (G:=G) (k:=k) l with ⟨z,h1,h2,h3⟩ |h
   .exact .inl ⟨z,fF _ h1,h2,h3⟩
   .exact .inr h
theorem ae4(h:Mem P w0 O0 β I obj w)(hn:∀k,ie (cx i) k->β k=none){ae cL:U Nat}{os':U (Nat×aS)}{rv:AV}{keep:Bool}(hgood:G3 ae.length os' rv)(hk:keep=true->mS os' rv)
 (hnd:ae.Nodup) (hl:ae.length<=1000) (jz:∀k∈ae,∃o,obj k=some o)
 {w':World} {I1:Nat->Prop} {v:Value} (hM:Mem P w (qC (βc ae β) (fm β obj cL I)) β1 I1 (nq os') w') (h1:∀b,fm β obj cL I b->I1 b) (hr:VR P β1 w' I1 rv v):
 ∃ β' I',Step β I w (cx i) β' I' w'/\Mem P w0 O0 β' I' (bU obj (ym i ae os'++if keep then []else cL.map (λ k=>(k,none)))) w'/\VR P β' w' I' (fx (cn i ae) rv) v:=by
 obtain⟨gk,gn,gr,gv⟩:=hgood;have hb0:∀j k,ae[j]? =some k->βc ae β j=β k:=λj k hk=>by simp[βc,hk]
 have hown0:∀k B,β k=some B->¬ie (cx i) k:=λk B hk e=>by rw[hn k e]at hk;cases hk
 have HW:∀j k,ae[j]? =some k->∃B,β k=some B/\β1 j=some B:=by
  intro j k hj;have⟨o,ho⟩:=jz k (cO hj);have⟨B,hB,_⟩:=h.cD k o ho;have hjl:=(dh.1 hj).1;exact⟨B,hB,hM.anch j B (by simp only[qC];rw[aT (by omega),hb0 j k hj];exact hB)⟩
 generalize Fi:(λ k=>if IX i k then β1 (1000+(k -cx i))else β k:Nat->J cE)=β2;have A6:∀k,¬ie (cx i) k->β2 k=β k:=λk hk=>by
  rw[<- Fi];have:IX i k=false:=by
   cases e:IX i k with
   |false=>rfl
   |true=>exact absurd (Xm.1 e) hk
  simp[this]
 have hβn:∀j,1000<=j->j<1064->β2 (cx i+(j -1000))=β1 j:=λj e1 e2=>by
  rw[<- Fi];have e:IX i (cx i+(j -1000))=true:=Xm.2 (by simp only[ie,cx];omega);have e':1000+(cx i+(j -1000) -cx i)=j:=by omega
  simp only[e,if_true,e']
 have hmap:∀k,AK ae.length k->∀B,β1 k=some B->β2 (cn i ae k)=some B:=by
  rintro k (hk |⟨hk1,hk2⟩) B hB
  .obtain⟨B',e1,e2⟩:=HW k _ (bX hk);rw[e2]at hB;cases hB;simp only[cn,show k<1000 by omega,if_true,bX hk,Option.getD_some];rw[A6 _ (hown0 _ _ e1)];exact e1
  .simp only[cn,show ¬k<1000 by omega,if_false];rw[hβn k hk1 hk2];exact hB
 have look:∀g k o,bU obj (ym i ae os'++g) k=some o->(∃ j o0,ae[j]? =some k/\nq os' j=some o0/\o=La (cn i ae) o0)\/
  (∃ j o0,1000<=j/\j<1064/\nq os' j=some o0/\k=cx i+(j -1000)/\o=La (cn i ae) o0)\/(k∉ae/\bU obj g k=some o):=by
  intro g k o hko;rw[uf,ym,uf]at hko;rcases ae3 (obj:=bU (bU obj g) ((os'.filter λ(q:Nat×aS)=>decide (1000<=q.1)).map λ(q:Nat×aS)=>(cn i ae q.1,some (La (cn i ae) q.2)))) (F:=λj=>(nq os' j).map (La (cn i ae))) (k:=k) ae 0 with ⟨j,e1,e2⟩ |⟨e1,e2⟩
  .rw[e2]at hko;simp only[Nat.zero_add,eH]at hko;obtain⟨o0,e3,e4⟩:=hko;exact .inl ⟨j,o0,e1,e3,e4.symm⟩
  .rw[e2]at hko;rcases abX (obj:=bU obj g) (c:=cn i ae) (G:=La (cn i ae)) (k:=k) (os'.filter λq=>decide (1000<=q.1))with ⟨q,e3,e4,e5⟩ |e3
   .rw[e5]at hko;injection hko with hko;simp only[mem_filter,aJ]at e3;have hq:=gk q e3.1;simp only[AK]at hq;refine .inr (.inl ⟨q.1,q.2,e3.2,by omega,Xq gn e3.1,?_,hko.symm⟩);rw[e4];simp only[cn,show ¬q.1<1000 by omega,if_false]
   .rw[e3]at hko;exact .inr (.inr ⟨e1,hko⟩)
 have main:∀(g:U (Nat×Option aS))(I2:Nat->Prop),(∀ k o,bU obj g k=some o->obj k=some o)->(∀ b,I b->I2 b)->(∀ b,I2 b->I1 b)->(∀ j o B,nq os' j=some o->OR P β1 w' I1 o B->OR P β1 w' I2 o B)->
  (∀ k o b,k∉ae->bU obj g k=some o->gb β k b->¬I2 b)->VR P β1 w' I2 rv v->
  ∃ β' I',Step β I w (cx i) β' I' w'/\Mem P w0 O0 β' I' (bU obj (ym i ae os'++g)) w'/\VR P β' w' I' (fx (cn i ae) rv) v:=by
  intro g I2 hg hI hI1 hor HO hr2;have hown:∀b,Xc (βc ae β) b->∃k o,k∈ae/\obj k=some o/\gb β k b:=by
   rintro b ⟨j,B,hj,hB⟩;have⟨k,e1,e2⟩:=N8 hj;have⟨o,e3⟩:=jz k (cO e1);exact⟨k,o,cO e1,e3,B,e2,hB⟩
  have hapart:∀k o b,k∉ae->obj k=some o->gb β k b->¬Xc (βc ae β) b:=by
   intro k o b hk e1 e2 hb;have⟨k',o',g1,g2,g3⟩:=hown b hb;have:=h.nb k k' o o' b e1 g2 e2 g3;subst this;exact hk g1
  have hS:Same I w w':=λb hb=>hM.keep b (h.lt b hb) (λ hb'=>by
   have⟨k',o',g1,g2,g3⟩:=hown b hb';exact(h.ik k' o' b g2 g3).1 hb)
  have IS:∀k o,bU obj (ym i ae os'++g) k=some o->(∃ j o0,nq os' j=some o0/\AK ae.length j/\k=cn i ae j/\β2 k=β1 j/\o=La (cn i ae) o0)\/(k∉ae/\obj k=some o/\bU obj g k=some o/\β2 k=β k):=by
   intro k o hko;rcases look g k o hko with ⟨j,o0,e1,e2,e3⟩ |⟨j,o0,e1,Mz,e2,e3,e4⟩ |⟨e1,e2⟩
   .have⟨B,e4,e5⟩:=HW j k e1;have hjl:=(dh.1 e1).1;refine .inl ⟨j,o0,e2,.inl hjl,?_,?_,e3⟩
    .simp only[cn,show j<1000 by omega,if_true,e1,Option.getD_some]
    .rw[A6 _ (hown0 _ _ e4),e4,e5]
   .refine .inl ⟨j,o0,e2,.inr ⟨e1,Mz⟩,?_,?_,e4⟩
    .simp only[cn,show ¬j<1000 by omega,if_false];exact e3
    .rw[e3];exact hβn j e1 Mz
   .have⟨B,e3,_⟩:=h.cD k o (hg k o e2);exact .inr ⟨e1,hg k o e2,e2,A6 _ (hown0 _ _ e3)⟩
  have sX:∀j o0 b,nq os' j=some o0->gb β1 j b->¬I2 b/\b<w'.heap.size/\(Xc (βc ae β) b\/w.heap.size<=b):=by
   intro j o0 b e1 e2;have⟨a1,a2,a3⟩:=hM.ik j o0 b e1 e2;exact⟨λ hb=>a1 (hI1 b hb),a2,a3⟩
  refine⟨β2,I2,⟨A6,λk B hk=>by rw[A6 k (hown0 k B hk)];exact hk,hS,hI⟩,?_,VR.ux rv v (λ k hk=>hmap k (gv k hk)) hr2⟩;constructor
  .intro k o hko;rcases IS k o hko with ⟨j,o0,e1,e2,e3,e4,rfl⟩ |⟨e1,e2,e3,e4⟩
   .have⟨B,hB,hO⟩:=hM.cD j o0 e1;refine⟨B,by rw[e4];exact hB,OR.ux (λ r hr' q hq=>hmap q (gr (j,o0) (adl e1) r hr' q hq)) (hor j o0 B e1 hO)⟩
   .have⟨B,hB,hO⟩:=h.cD k o e2;refine⟨B,by rw[e4];exact hB,OR.mono (λ q C hq=>by rw[A6 q (hown0 q C hq)];exact hq) hS hI (λ b e=>hM.keep b (h.ownB k o B b e2 hB e).2.1 (hapart k o b e1 e2 ⟨B,hB,e⟩)) hO⟩
  .intro k k' o o' B B' b ho ho' hb hb' h5 h6;rcases IS k o ho with ⟨j,o0,e1,e2,e3,e4,rfl⟩ |⟨e1,e2,e3,e4⟩
   .rw[e4]at hb;rcases IS k' o' ho' with ⟨j',R0,f1,f2,f3,f4,rfl⟩ |⟨f1,f2,f3,f4⟩
    .rw[f4]at hb';have:=hM.gd j j' o0 R0 B B' b e1 f1 hb hb' h5 h6;subst this;rw[e3,f3]
    .rw[f4]at hb';rcases (sX j o0 b e1 ⟨B,hb,h5⟩).2.2 with g1 |g1
     .exact absurd g1 (hapart k' o' b f1 f2 ⟨B',hb',h6⟩)
     .have:=(h.ownB k' o' B' b f2 hb' h6).2.1;omega
   .rw[e4]at hb;rcases IS k' o' ho' with ⟨j',R0,f1,f2,f3,f4,rfl⟩ |⟨f1,f2,f3,f4⟩
    .rw[f4]at hb';rcases (sX j' R0 b f1 ⟨B',hb',h6⟩).2.2 with g1 |g1
     .exact absurd g1 (hapart k o b e1 e2 ⟨B,hb,h5⟩)
     .have:=(h.ownB k o B b e2 hb h5).2.1;omega
    .rw[f4]at hb';exact h.gd k k' o o' B B' b e2 f2 hb hb' h5 h6
  .intro k o B b ho hb h5;rcases IS k o ho with ⟨j,o0,e1,e2,e3,e4,rfl⟩ |⟨e1,e2,e3,e4⟩
   .rw[e4]at hb;have⟨a1,a2,a3⟩:=sX j o0 b e1 ⟨B,hb,h5⟩;refine⟨a1,a2,?_⟩;rcases a3 with a3 |a3
    .have⟨k',o',g1,g2,g3⟩:=hown b a3;exact(h.ik k' o' b g2 g3).2.2
    .exact .inr (Nat.le_trans h.le a3)
   .rw[e4]at hb;have⟨a1,a2,a3⟩:=h.ownB k o B b e2 hb h5;exact⟨HO k o b e1 e3 ⟨B,hb,h5⟩,Nat.lt_of_lt_of_le a2 hM.le,a3⟩
  .exact λb hb=>hM.lt b (hI1 b hb)
  .intro b hb;rcases hM.up b (hI1 b hb)with (g1 |⟨k',o',s',n',_,g2,g3⟩) |g1 |g1
   .exact h.up b g1
   .exact .inr (h.own k' o' b s' n' g2 g3).2.2
   .have⟨k',o',_,g2,g3⟩:=hown b g1;exact .inr (h.ik k' o' b g2 g3).2.2
   .exact .inr (.inr (Nat.le_trans h.le g1))
  .intro b hb hno;refine(hM.keep b (Nat.lt_of_lt_of_le hb h.le) (λ hb'=>?_)).trans (h.keep b hb hno);have⟨k',o',_,g2,g3⟩:=hown b hb';rcases (h.ik k' o' b g2 g3).2.2 with g1 |g1
   .exact hno g1
   .omega
  .exact Nat.le_trans h.le hM.le
  .exact hM.os.trans h.os
  .exact hM.tape.trans h.tape
  .exact hM.output.trans h.output
  .intro j B hj;have e:=h.anch j B hj;rw[A6 j (hown0 j B e)];exact e
  .exact h.vars.mono hS hI
 cases keep with
 |true=>
  have⟨hf1,hf2⟩:=hk rfl;exact main [] I (λ _ _ h=>h) (λ _ h=>h) (λ b hb=>h1 b (.inl hb)) (λ j o B hj hO=>OR.mS (hf2 (j,o) (adl hj)) hO) (λ k o b _ e1 e2=>(h.ik k o b e1 e2).1) (VR.flat rv v hf1 hr)
 |false=>
  have hsub:∀k o,bU obj (cL.map λk=>(k,none)) k=some o->obj k=some o/\k∉cL:=by
   intro k o hk;rw[y9]at hk;split at hk
   .cases hk
   .exact⟨hk,‹_›⟩
  refine main _ I1 (λ k o hk=>(hsub k o hk).1) (λ b hb=>h1 b (.inl hb)) (λ _ h=>h) (λ j o B hj hO=>hO) (λ k o b hki e1 e2 hb=>?_) hr;have⟨f1,f2⟩:=hsub k o e1;have⟨a1,a2,_⟩:=h.ik k o b f1 e2;rcases hM.up b hb with (g |⟨k',o',s',n',g1,g2,g3⟩) |⟨j,B',g,g'⟩ |g
  .exact a1 g
  .have:=h.nb k k' o o' b f1 g2 e2 (.at g3);subst this;exact f2 g1
  .have⟨k',g1,g2⟩:=N8 g;have⟨o',g3⟩:=jz k' (cO g1);have:=h.nb k k' o o' b f1 g3 e2 ⟨B',g2,g'⟩;subst this;exact hki (cO g1)
  .omega
theorem Xr(h:Mem P w0 O0 β I obj w)(hn:∀k,ie (cx i) k->β k=none){f:AV}{args:U AV}{cm:iu}{get:Nat->J aS}{ab:Out}(hg:∀k o,get k=some o->obj k=some o)
 {fv:Value} {vs:Array Value} {am:Array Operand} {fo:Operand} {r:Operand->Value} (ha:Od P i f args cm get=some ab) (cA:ab.ob) (hf:VR P β w I f fv) (hv:bj P β w I args vs.toList) (hfo:r fo=fv) (hops:vs=am.map r)
 {dst:J Tmp} {aq:String} {after:Array Edge} {guard:J (Nat×Bool)} {ty:TypeId} {cX:Array TypeId}:
 Bf P w0 O0 β I obj w i ab ((execOp r ⟨dst,.call { callee:= .value fo,args:=am,argTypes:=cX },ty,aq,after,guard⟩).run P w):=by
 unfold Od at ha;split at ha
 .rename_i F first caps ae cL bs hs os' rv keep
  split at ha
  .rename_i hc;obtain⟨hnd,hl⟩:=hc;rw[ai]at ha;obtain⟨ho,hho,ha⟩:=ha;rw[ai]at ha;obtain⟨q,hq,ha⟩:=ha;cases ha;have cA:=rT _ cA;simp only[VR]at hf;obtain⟨fs,cs,rfl,hf1,hf2⟩:=hf;have o1:∀x∈q.2.2,x:=λx hx=>cA x (by simp[hx]);have o2:∀x∈ho.2,x:=λx hx=>cA x (by simp[hx]);have o3:yy P F q.1 ho.1 os' rv:=cA (yy P F q.1 ho.1 os' rv) (by simp);have o4:G3 ae.length os' rv:=cA (G3 ae.length os' rv) (by simp);have o5:keep=true->mS os' rv:=λe=>cA (mS os' rv) (by simp[e]);obtain⟨l1,l2,l3⟩:Xo get (first++args++caps) ae cL bs:=cA (Xo get (first++args++caps) ae cL bs) (by simp);obtain⟨⟨fn,e1,e2,e3⟩,hcon⟩:=o3;have⟨hl2,hmm⟩:=Xp hho o2;have jz:∀k∈ae,∃o,obj k=some o:=by
    intro k hk;obtain⟨j,hj⟩:=List.getElem?_of_mem hk;have hjl:j<ho.1.length:=(by rw[<- hl2];exact(dh.1 hj).1);obtain⟨o,g,_⟩:=hmm j k _ hj (bX hjl);exact⟨o,hg _ _ g⟩
   have hM:=h.xv hg (cL:=cL) hnd hl2 (λ j k z hj hz=>by
    have⟨o,g1,g2⟩:=hmm j k z hj hz;refine⟨o,g1,?_⟩;rcases g2 with ⟨d,_,g3⟩ |⟨hs',g3,g4,g5⟩
    .exact .inl ⟨d,g3⟩
    .exact .inr ⟨g4,g5,λk' hk' hn'=>l3 j hs' k o g3 hj g1 k' hk' hn'⟩) l1
   have hall:bj P β w I (first++args++caps) (fs++vs++cs).toList:=by
    simp only[Array.toList_append];exact bj.append _ _ _ _ (bj.append _ _ _ _ hf1 hv) hf2
   have oT:=fg.sound h hg cL _ _ _ (λ k hk hn=>l2 k hk hn) (nT hq o1) hall;refine⟨F,fs++vs++cs,?_,(hcon w _ _ _ (λ k hk=>?_) hM oT).mono ?_⟩
   .have hb:¬fn.body=none:=(by cases hh:fn.body<;>simp[hh]at e2 ⊢);have e3' : ¬ fn.name = "runtime.NumGoroutine" := (by simpa using e3);simp[execOp,resolve,hfo,<- hops,Deferred.ofValue,invoke,callFunc,e1,e3',hb]
   .simp[βc,List.getElem?_eq_none (show ae.length<=k by omega)]
   .rintro e w' ⟨v',β1,I1,rfl,g1,g2,g3⟩;have⟨β',I',k1,k2,k3⟩:=ae4 (keep:=keep) h hn o4 o5 hnd hl jz g1 g2 g3;exact⟨v',β',I',rfl,k1,k2,k3⟩
  .cases ha
 .cases ha
end
def lQ(P:Program)(i:Nat)(f:AV)(args:U AV)(cm:iu)(get:Nat->J aS):J Out:=
 match cm with
 | .tE ae cL bs hs os' rv keep=>Od P i f args (.tE ae cL bs hs os' rv keep) get
 |cm=>rU P i f args cm get
section
variable {P:Program} {w0:World} {O0:i9} {β:Nat->Option cE} {I:Nat->Prop} {obj:Nat->Option aS} {w:World} {i:Nat}
theorem Xt(h:Mem P w0 O0 β I obj w)(hn:∀k,ie (cx i) k->β k=none){f:AV}{args:U AV}{cm:iu}{get:Nat->J aS}{ab:Out}(hg:∀k o,get k=some o->obj k=some o)
 {fv:Value} {vs:Array Value} {am:Array Operand} {fo:Operand} {r:Operand->Value} (ha:lQ P i f args cm get=some ab) (cA:ab.ob) (hf:VR P β w I f fv) (hv:bj P β w I args vs.toList) (hfo:r fo=fv) (hops:vs=am.map r)
 {dst:J Tmp} {aq:String} {after:Array Edge} {guard:J (Nat×Bool)} {ty:TypeId} {cX:Array TypeId}:
 Bf P w0 O0 β I obj w i ab ((execOp r ⟨dst,.call { callee:= .value fo,args:=am,argTypes:=cX },ty,aq,after,guard⟩).run P w):=by
 unfold lQ at ha;split at ha
 .exact Xr h hn hg ha cA hf hv hfo hops
 .exact Xf h (hn _ (.inl rfl)) hg ha cA hf hv hfo hops
end
end Go.Gb
