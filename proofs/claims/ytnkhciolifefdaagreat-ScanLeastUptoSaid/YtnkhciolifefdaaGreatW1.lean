import GoSem.Claims
import Derived.Calls
import Derived.Below
import Derived.Orders
import Derived.Laws.Cells
import Derived.Laws.AppendOwn
import Derived.Laws.StructEq
import Derived.Laws.Build
import Derived.WalkKit
import Derived.Lib.AppendZeros
import Derived.MapKept
import Derived.WideKeyRuns
import Derived.Laws.MakeOwn
abbrev U:=@List
abbrev J:=@Option
open Go.IntKind (i64)
open List (length_take mem_map all_eq_true cons_append length_drop map_map take_of_length_le mem_filter map_congr_left flatten_cons eq_nil_of_length_eq_zero)
namespace Go
universe u v
theorem aj{α:Sort u}(a b:α):cond true a b=a:=rfl
theorem ak{α:Sort u}(a b:α):cond false a b=b:=rfl
theorem af{α:Type u}{β:Type v}(a:α)(f:α->J β):(some a).bind f=f a:=rfl
theorem aW{p:Prop}[Decidable p]:(decide p=true)=p:=_root_.decide_eq_true_eq
theorem dL{p:Prop}{_:Decidable p}:decide p=false↔¬p:=_root_.decide_eq_false_iff_not
theorem aC{α:Type u}(a b:α):(some a=some b)=(a=b):=Option.some.injEq a b
theorem aN(a b:Bool):((a&&b)=true)=(a=true/\b=true):=Bool.and_eq_true a b
theorem iY{a b:Bool}:a=b↔(a=true↔b=true):=Bool.eq_iff_iff
theorem dP{α:Type u}{a b:U α}:(a++b).length=a.length+b.length:=List.length_append
theorem aO{α:Type u}(a b c:U α):a++b++c=a++(b++c):=List.append_assoc a b c
theorem gG{α:Type u}{a:α}:¬a∈([]:U α):=List.not_mem_nil
theorem aT{c:Prop}{h:Decidable c}(hnc:¬c){α:Sort u}{t e:α}:(if c then t else e)=e:=_root_.if_neg hnc
theorem aZ{c:Prop}{h:Decidable c}(hc:c){α:Sort u}{t e:α}:(if c then t else e)=t:=_root_.if_pos hc
theorem aR{α:Type u}{a b:α}:a∈[b]↔a=b:=List.mem_singleton
theorem dU{α:Type u}{l:U α}{i:Nat}(h:i<l.length):l[i]? =some l[i]:=List.getElem?_eq_getElem h
theorem jD{α:Type u}{a b:U α}{i:Nat}(h:a.length<=i):(a++b)[i]? =b[i -a.length]? :=List.getElem?_append_right h
theorem dJ{α:Type u}{i:Nat}{a:α}{l:U α}:l[i]? =some a↔∃h:i<l.length,l[i]=a:=List.getElem?_eq_some_iff
theorem dD{α:Type u}{l:U α}{i:Nat}{a:α}(h:l[i]? =some a):a∈l:=List.mem_of_getElem? h
theorem dQ{α:Type u}{b:α}{α_1:Type v}{x:J α_1}{f:α_1->α}:Option.map f x=some b↔∃a,x=some a/\f a=b:=Option.map_eq_some_iff
theorem je{α:Type u}{i:Nat}{l:U α}(h:i<l.length):List.take (i+1) l=List.take i l++[l[i]]:=List.take_succ_eq_append_getElem h
theorem eX{α:Type u}(y:α){a:α}{l:U α}(h:a∈l):a∈y::l:=List.mem_cons_of_mem y h
theorem aG(n:Nat):n<=n:=Nat.le_refl n
theorem bG{α:Type u}{a:α}{l:U α}:(a::l).length=l.length+1:=rfl
theorem aH{α:Type u}{β:Type v}{f:α->β}{a:α}{l:U α}:List.map f (a::l)=f a::List.map f l:=rfl
theorem aQ{α:Type u}{b:α}{l:U α}{a:α}:a∈b::l↔a=b\/a∈l:=List.mem_cons
theorem bT{α:Type u}(l:U α):[]++l=l:=rfl
theorem bn{α:Type u}{a:α}{s t:U α}:a∈s++t↔a∈s\/a∈t:=List.mem_append
theorem rX{p:Prop}(h:¬p->False):p:=Classical.byContradiction h
end Go
namespace Go
theorem ai{α:Type _}{β:Type _}{b:β}{x:J α}{f:α->J β}:x.bind f=some b↔∃ a,x=some a/\f a=some b:=Option.bind_eq_some_iff
end Go
namespace Go.Gb
def wc:Nat->J (List Value):=λ_=>none
def W6:Nat->Bool:=λg=>g==0
open Go.RowKit
inductive Tree where
 |sc (v:Value)
 |sl (rows:List (List Tree))
inductive TV where
 |s (x:Tree)
 |a (cs:List Tree)
inductive AV where
 |t (x:Tree)
 |agg (cs:List AV)
 |eV (vs:List AV)
 |own (k:Nat) (aa len:Nat)
 |ptr (k:Nat) (row aa:Nat)
 |eM (row:List Tree) (aa:Nat)
 |fn (f:FuncId) (first caps:List AV)
 |eo (φ:List TV->TV->Prop)
 |mp (k:Nat)
 |oz (k len:Nat)
 |dc
 |ub
 |undef
structure aU where
 sz:Nat
 rows:List (List AV)
structure Ex where
 m:Nat
 s:Nat
 h:s<=m
def xy(m:Nat):Ex:=⟨m,0,Nat.zero_le m⟩
@[simp] theorem OK (m:Nat):(xy m).m=m:=rfl
@[simp] theorem OF (m:Nat):(xy m).s=0:=rfl
inductive cV where
 |none
 |at (b sz:Nat) (n:Ex)
 |mp (b:Nat)
@[simp] def cV.num:cV->J Nat
 | .none=>Option.none
 | .at b _ _=>some b
 | .mp b=>some b
def oneCell:Value->Prop
 | .agg _ | .tuple _=>False
 |_=>True
section
variable (w:World) (I:Nat->Prop)
mutual
def TR:Tree->Value->Prop
 | .sc v,u=>u=v/\oneCell v
 | .sl rows,u=>(rows=[]/\∃a cap,u= .slice a 0 cap/\(a=none->cap=0))\/∃b aa cap sz,u= .slice (some ⟨b,aa,none⟩) rows.length cap/\rows.length<=cap/\I b/\cJ rows b aa sz
def cJ:List (List Tree)->Nat->Nat->Nat->Prop
 |[],_,_,_=>True
 |r::rs,b,aa,sz=>r.length=sz/\ea r b aa/\cJ rs b (aa+sz) sz
def ea:List Tree->Nat->Nat->Prop
 |[],_,_=>True
 |x::xs,b,aa=>(∃ c,w.cell? ⟨b,aa,none⟩=some c/\TR x c)/\ea xs b (aa+1)
end
def ff:U Tree->U Value->Prop
 |[],[]=>True
 |x::xs,v::vs=>TR w I x v/\ff xs vs
 |_,_=>False
def rx:TV->Value->Prop
 | .s x,v=>TR w I x v
 | .a cs,v=>∃vs:Array Value,v= .agg vs/\ff w I cs vs.toList
def m6:U TV->U Value->Prop
 |[],[]=>True
 |x::xs,v::vs=>rx w I x v/\m6 xs vs
 |_,_=>False
end
def Same(I:Nat->Prop)(w w':World):Prop:=∀b,I b->w'.heap[b]? =w.heap[b]?
theorem Same.cell{I:Nat->Prop}{w w':World}(h:Same I w w'){b aa:Nat}(hb:I b):w'.cell? ⟨b,aa,none⟩=w.cell? ⟨b,aa,none⟩:=by simp only[World.cell?,h b hb]
mutual
theorem TR.mono{w w':World}{I I':Nat->Prop}(hs:Same I w w')(hi:∀b,I b->I' b):∀(x:Tree)(v:Value),TR w I x v->TR w' I' x v
 | .sc _,_,h=>by simpa[TR]using h
 | .sl rows,v,h=>by
  simp only[TR]at h ⊢;rcases h with h |⟨b,aa,cap,sz,h1,h2,h3,h4⟩
  .exact .inl h
  .exact .inr ⟨b,aa,cap,sz,h1,h2,hi _ h3,cJ.mono hs hi rows b aa sz h3 h4⟩
theorem cJ.mono{w w':World}{I I':Nat->Prop}(hs:Same I w w')(hi:∀b,I b->I' b):∀(rows:List (List Tree))(b aa sz:Nat),I b->cJ w I rows b aa sz->cJ w' I' rows b aa sz
 |[],_,_,_,_,_=>by simp[cJ]
 |r::rs,b,aa,sz,hb,h=>by
  simp only[cJ]at h ⊢;exact⟨h.1,ea.mono hs hi r b aa hb h.2.1,cJ.mono hs hi rs b (aa+sz) sz hb h.2.2⟩
theorem ea.mono{w w':World}{I I':Nat->Prop}(hs:Same I w w')(hi:∀b,I b->I' b):∀(r:List Tree)(b aa:Nat),I b->ea w I r b aa->ea w' I' r b aa
 |[],_,_,_,_=>by simp[ea]
 |x::xs,b,aa,hb,h=>by
  simp only[ea]at h ⊢;obtain⟨⟨c,hc,hx⟩,h2⟩:=h;exact⟨⟨c,by rw[hs.cell hb];exact hc,TR.mono hs hi x c hx⟩,ea.mono hs hi xs b (aa+1) hb h2⟩
end
theorem ff.mono{w w':World}{I I':Nat->Prop}(hs:Same I w w')(hi:∀b,I b->I' b):∀(xs:U Tree)(vs:U Value),ff w I xs vs->ff w' I' xs vs
 |[],[],_=>trivial
 |x::xs,v::vs,h=>⟨TR.mono hs hi x v h.1,ff.mono hs hi xs vs h.2⟩
 |[],_::_,h=>h.elim
 |_::_,[],h=>h.elim
theorem rx.mono{w w':World}{I I':Nat->Prop}(hs:Same I w w')(hi:∀b,I b->I' b):∀(x:TV)(v:Value),rx w I x v->rx w' I' x v
 | .s x,v,h=>TR.mono hs hi x v h
 | .a cs,_,⟨vs,h1,h2⟩=>⟨vs,h1,ff.mono hs hi cs vs.toList h2⟩
theorem m6.mono{w w':World}{I I':Nat->Prop}(hs:Same I w w')(hi:∀b,I b->I' b):∀(xs:U TV)(vs:U Value),m6 w I xs vs->m6 w' I' xs vs
 |[],[],_=>trivial
 |x::xs,v::vs,h=>⟨rx.mono hs hi x v h.1,m6.mono hs hi xs vs h.2⟩
 |[],_::_,h=>h.elim
 |_::_,[],h=>h.elim
def j0(w:World)(I:Nat->Prop):Prop:=(∀ g row,wc g=some row->I g/\ea w I (row.map Tree.sc) g 0)/\∀g,W6 g=true->I g/\∃m,w.cell? ⟨g,0,none⟩=some (.int .i64 m)
theorem j0.mono{w w':World}{I I':Nat->Prop}(hs:Same I w w')(hi:∀b,I b->I' b)(h:j0 w I):j0 w' I':=⟨λ g row hg=>
 ⟨hi g (h.1 g row hg).1,ea.mono hs hi _ g 0 (h.1 g row hg).1 (h.1 g row hg).2⟩,λg hg=>⟨hi g (h.2 g hg).1,by rw[hs.cell (h.2 g hg).1];exact(h.2 g hg).2⟩⟩
def aip(w:World)(I:Nat->Prop)(R:World->(Nat->Prop)->Value->Prop)(e:Ending)(w':World):Prop:=
 ∃v I',e= .returned v/\Below w.heap.size w w'/\(∀ b,I b->I' b)/\(∀ b,I' b->b<w'.heap.size)/\(∀ b,I' b->I b\/w.heap.size<=b)/\R w' I' v
def rj(P:Program)(w:World)(I:Nat->Prop)(φ:U TV->TV->Prop)(v:Value):Prop:=
 ∃(f:FuncId)(first caps:Array Value),v= .func (.func f) first caps/\first=#[]/\
  (∀ fn, P.funcs[f]? = some fn -> fn.body.isSome = true /\ (fn.name == "runtime.NumGoroutine") = false) /\ (P.funcs[f]?).isSome = true /\
  ∀(w':World)(I':Nat->Prop)(args:U TV)(vs:Array Value)(r:TV),(∀ b,I b->I' b)->Same I w w'->(∀ b,I' b->b<w'.heap.size)->
   φ args r->m6 w' I' args vs.toList->Calls P f (first++vs++caps) w' (aip w' I' λw'' E1 u=>rx w'' E1 r u)
section
variable (P:Program) (β:Nat->Option cV) (w:World) (I:Nat->Prop)
mutual
def VR:AV->Value->Prop
 | .t x,v=>TR w I x v
 | .agg cs,v=>∃vs:Array Value,v= .agg vs/\bj cs vs.toList
 | .eV cs,v=>∃vs:Array Value,v= .tuple vs/\bj cs vs.toList
 | .own k aa len,v=>(β k=some .none/\v= .slice none 0 0/\aa=0/\len=0)\/
  ∃b sz n cap o,β k=some (.at b sz n)/\v= .slice (some ⟨b,o,none⟩) len cap/\len<=cap/\n.s+(aa+cap)*sz<=n.m/\(cap≠0->o=n.s+aa*sz)
 | .ptr k row aa,v=>∃b sz n,β k=some (.at b sz n)/\v= .pointer (some ⟨b,n.s+row*sz+aa,none⟩)
 | .eM row aa,v=>∃b o,v= .pointer (some ⟨b,o+aa,none⟩)/\I b/\ea w I row b o
 | .fn f first caps,v=>∃fs cs:Array Value,v= .func (.func f) fs cs/\bj first fs.toList/\bj caps cs.toList
 | .eo φ,v=>rj P w I φ v
 | .mp k,v=>∃b,β k=some (.mp b)/\v= .map (some b)
 | .oz k len,v=>(len=0/\v= .slice none 0 0)\/(len≠0/\∃b sz n cap o,β k=some (.at b sz n)/\v= .slice (some ⟨b,o,none⟩) len cap/\len<=cap/\n.s+(0+cap)*sz<=n.m/\(cap≠0->o=n.s+0*sz))
 | .dc,v=>v= .slice none 0 0
 | .ub,v=>∃b,v= .bool b
 | .undef,_=>True
def bj:List AV->List Value->Prop
 |[],[]=>True
 |x::xs,v::vs=>VR x v/\bj xs vs
 |_,_=>False
end
def de:U AV->Array Value->Nat->Prop
 |[],_,_=>True
 |x::xs,c,aa=>(∃ v,c[aa]? =some v/\VR P β w I x v/\oneCell v)/\de xs c (aa+1)
def bp:U (List AV)->Array Value->Nat->Nat->Prop
 |[],_,_,_=>True
 |r::rs,c,aa,sz=>r.length=sz/\de P β w I r c aa/\bp rs c (aa+sz) sz
def cH:U (List AV)->U MapEntry->Prop
 |[],[]=>True
 |r::rs,e::es=>bj P β w I r [e.key,e.val]/\cH rs es
 |_,_=>False
def OR(o:aU):cV->Prop
 | .none=>o.rows=[]
 | .mp b=>∃es clock,w.heap[b]? =some (.map es clock)/\o.rows.length<=o.sz/\(o.sz=o.rows.length->cH P β w I o.rows es.toList)/\(es.toList.map (·.born)).Nodup/\∀e∈es.toList,e.born<clock
 | .at b sz n=>sz=o.sz/\∃c e,w.heap[b]? =some (.cells c e (0,0))/\c.size=n.m/\bp P β w I o.rows c n.s sz
end
theorem rj.mono{P:Program}{w w':World}{I I':Nat->Prop}(hs:Same I w w')(hi:∀b,I b->I' b){φ:U TV->TV->Prop}{v:Value}(h:rj P w I φ v):rj P w' I' φ v:=by
 obtain⟨f,first,caps,h1,h0,h2,h3,h4⟩:=h;exact⟨f,first,caps,h1,h0,h2,h3,λw2 I2 args vs r hi2 hs2 hlt hφ ha=>h4 w2 I2 args vs r (λ b h=>hi2 b (hi b h)) (λ b h=>(hs2 b (hi b h)).trans (hs b h)) hlt hφ ha⟩
mutual
theorem VR.mono{P:Program}{β β':Nat->Option cV}{w w':World}{I I':Nat->Prop}(hb:∀k B,β k=some B->β' k=some B)(hs:Same I w w')(hi:∀b,I b->I' b):∀(x:AV)(v:Value),VR P β w I x v->VR P β' w' I' x v
 | .t x,v,h=>by simp only[VR]at h ⊢;exact TR.mono hs hi x v h
 | .agg cs,v,h=>by
  simp only[VR]at h ⊢;obtain⟨vs,h1,h2⟩:=h;exact⟨vs,h1,bj.mono hb hs hi cs vs.toList h2⟩
 | .eV cs,v,h=>by
  simp only[VR]at h ⊢;obtain⟨vs,h1,h2⟩:=h;exact⟨vs,h1,bj.mono hb hs hi cs vs.toList h2⟩
 | .own k aa len,v,h=>by
  simp only[VR]at h ⊢;rcases h with ⟨h1,h2⟩ |⟨b,sz,n,cap,o,h1,h2⟩
  .exact .inl ⟨hb _ _ h1,h2⟩
  .exact .inr ⟨b,sz,n,cap,o,hb _ _ h1,h2⟩
 | .ptr k row aa,v,h=>by
  simp only[VR]at h ⊢;obtain⟨b,sz,n,h1,h2⟩:=h;exact⟨b,sz,n,hb _ _ h1,h2⟩
 | .eM row aa,v,h=>by
  simp only[VR]at h ⊢;obtain⟨b,o,h1,h2,h3⟩:=h;exact⟨b,o,h1,hi _ h2,ea.mono hs hi row b o h2 h3⟩
 | .fn f first caps,v,h=>by
  simp only[VR]at h ⊢;obtain⟨fs,cs,h1,h2,h3⟩:=h;exact⟨fs,cs,h1,bj.mono hb hs hi first fs.toList h2,bj.mono hb hs hi caps cs.toList h3⟩
 | .eo φ,v,h=>by simp only[VR]at h ⊢;exact rj.mono hs hi h
 | .mp k,v,h=>by
  simp only[VR]at h ⊢;obtain⟨b,h1,h2⟩:=h;exact⟨b,hb _ _ h1,h2⟩
 | .oz k len,v,h=>by
  simp only[VR]at h ⊢;rcases h with h |⟨h0,b,sz,n,cap,o,h1,h2⟩
  .exact .inl h
  .exact .inr ⟨h0,b,sz,n,cap,o,hb _ _ h1,h2⟩
 | .dc,v,h=>by simpa[VR]using h
 | .ub,v,h=>by simpa[VR]using h
 | .undef,_,_=>by simp[VR]
theorem bj.mono{P:Program}{β β':Nat->Option cV}{w w':World}{I I':Nat->Prop}(hb:∀k B,β k=some B->β' k=some B)(hs:Same I w w')(hi:∀b,I b->I' b):∀(xs:List AV)(vs:List Value),bj P β w I xs vs->bj P β' w' I' xs vs
 |[],[],_=>by simp[bj]
 |x::xs,v::vs,h=>by simp only[bj]at h ⊢;exact⟨VR.mono hb hs hi x v h.1,bj.mono hb hs hi xs vs h.2⟩
 |[],_::_,h=>by simp[bj]at h
 |_::_,[],h=>by simp[bj]at h
end
theorem VR.vh{P:Program}{β:Nat->J cV}{w:World}{I:Nat->Prop}{k len:Nat}{v:Value}(h:VR P β w I (.oz k len) v):(len=0/\v= .slice none 0 0)\/(len≠0/\VR P β w I (.own k 0 len) v):=by
 simp only[VR]at h ⊢;exact h.imp id λh=>⟨h.1,.inr h.2⟩
def wk:AV->AV
 | .dc=> .t (.sl [])
 |x=>x
def eu(rows:U (List AV)):U (List AV):=rows.map λr=>r.map wk
theorem VR.wk{P:Program}{β:Nat->J cV}{w:World}{I:Nat->Prop}{x:AV}{v:Value}(h:VR P β w I x v):VR P β w I (wk x) v:=by
 cases x<;>simp only[Gb.wk]<;>try exact h
 simp only[VR]at h ⊢;simp only[TR];exact .inl ⟨trivial,none,0,h,λ_=>rfl⟩
theorem de.wk{P:Program}{β:Nat->J cV}{w:World}{I:Nat->Prop}:∀(r:U AV)(c:Array Value)(aa:Nat),de P β w I r c aa->de P β w I (r.map Gb.wk) c aa
 |[],_,_,_=>trivial
 |_::xs,c,aa,⟨⟨v,h1,h2,h3⟩,h4⟩=>⟨⟨v,h1,h2.wk,h3⟩,de.wk xs c (aa+1) h4⟩
theorem bp.wk{P:Program}{β:Nat->J cV}{w:World}{I:Nat->Prop}:∀(rs:U (List AV))(c:Array Value)(aa sz:Nat),bp P β w I rs c aa sz->bp P β w I (eu rs) c aa sz
 |[],_,_,_,_=>trivial
 |r::rs,c,aa,sz,⟨h1,h2,h3⟩=>⟨by simpa using h1,de.wk r c aa h2,bp.wk rs c (aa+sz) sz h3⟩
theorem de.mono{P:Program}{β β':Nat->J cV}{w w':World}{I I':Nat->Prop}(hb:∀k B,β k=some B->β' k=some B)(hs:Same I w w')(hi:∀b,I b->I' b):∀(r:U AV)(c:Array Value)(aa:Nat),de P β w I r c aa->de P β' w' I' r c aa
 |[],_,_,_=>trivial
 |x::xs,c,aa,⟨⟨v,h1,h2,h3⟩,h4⟩=>⟨⟨v,h1,VR.mono hb hs hi x v h2,h3⟩,de.mono hb hs hi xs c (aa+1) h4⟩
theorem bp.mono{P:Program}{β β':Nat->J cV}{w w':World}{I I':Nat->Prop}(hb:∀k B,β k=some B->β' k=some B)(hs:Same I w w')(hi:∀b,I b->I' b):∀(rs:U (List AV))(c:Array Value)(aa sz:Nat),bp P β w I rs c aa sz->bp P β' w' I' rs c aa sz
 |[],_,_,_,_=>trivial
 |r::rs,c,aa,sz,⟨h1,h2,h3⟩=>⟨h1,de.mono hb hs hi r c aa h2,bp.mono hb hs hi rs c (aa+sz) sz h3⟩
theorem bj.wk{P:Program}{β:Nat->J cV}{w:World}{I:Nat->Prop}:∀(r:U AV)(vs:U Value),bj P β w I r vs->bj P β w I (r.map Gb.wk) vs
 |[],[],_=>by simp[bj]
 |x::xs,v::vs,h=>by simp only[bj]at h;simp only[aH,bj];exact⟨h.1.wk,bj.wk xs vs h.2⟩
 |[],_::_,h=>by simp[bj]at h
 |_::_,[],h=>by simp[bj]at h
theorem cH.mono{P:Program}{β β':Nat->J cV}{w w':World}{I I':Nat->Prop}(hb:∀k B,β k=some B->β' k=some B)(hs:Same I w w')(hi:∀b,I b->I' b):∀(rs:U (List AV))(es:U MapEntry),cH P β w I rs es->cH P β' w' I' rs es
 |[],[],_=>trivial
 |r::rs,_::es,⟨h1,h4⟩=>⟨bj.mono hb hs hi r _ h1,cH.mono hb hs hi rs es h4⟩
 |[],_::_,h=>h.elim
 |_::_,[],h=>h.elim
theorem cH.wk{P:Program}{β:Nat->J cV}{w:World}{I:Nat->Prop}:∀(rs:U (List AV))(es:U MapEntry),cH P β w I rs es->cH P β w I (eu rs) es
 |[],[],_=>trivial
 |r::rs,_::es,⟨h1,h4⟩=>⟨bj.wk r _ h1,cH.wk rs es h4⟩
 |[],_::_,h=>h.elim
 |_::_,[],h=>h.elim
structure kx where
 own:Nat->Prop
 HG:Nat->Prop
 anc:Nat->Option cV:=λ_=>none
 lt:∀j B,anc j=some B->j<1000:=by intro j B h;cases h
structure Mem(P:Program)(w0:World)(O0:kx)(β:Nat->Option cV)(I:Nat->Prop)(obj:Nat->Option aU)(w:World):Prop where
 cQ:∀k o,obj k=some o->∃B,β k=some B/\OR P β w I o B
 gE:∀k k' o o' B B' b,obj k=some o->obj k'=some o'->β k=some B->β k'=some B'->B.num=some b->B'.num=some b->k=k'
 ownB:∀k o B b,obj k=some o->β k=some B->B.num=some b->¬I b/\b<w.heap.size/\(O0.own b\/w0.heap.size<=b)
 lt:∀b,I b->b<w.heap.size
 up:∀b,I b->O0.HG b\/O0.own b\/w0.heap.size<=b
 keep:∀b,b<w0.heap.size->¬O0.own b->w.heap[b]? =w0.heap[b]?
 le:w0.heap.size<=w.heap.size
 os:w.os=w0.os
 tape:w.tape=w0.tape
 output:w.output=w0.output
 anch:∀j B,O0.anc j=some B->β j=some B
 vars:j0 w I
section
variable {P:Program} {w0:World} {O0:kx} {β:Nat->Option cV} {I:Nat->Prop} {obj:Nat->Option aU} {w:World}
theorem Mem.inj(h:Mem P w0 O0 β I obj w):∀k k' o o' b s n s' n',obj k=some o->obj k'=some o'->β k=some (.at b s n)->β k'=some (.at b s' n')->k=k':=
 λk k' o o' b _ _ _ _ h1 h2 h3 h4=>h.gE k k' o o' _ _ b h1 h2 h3 h4 rfl rfl
theorem Mem.own(h:Mem P w0 O0 β I obj w):∀k o b s n,obj k=some o->β k=some (.at b s n)->¬I b/\b<w.heap.size/\(O0.own b\/w0.heap.size<=b):=
 λk o b _ _ h1 h2=>h.ownB k o _ b h1 h2 rfl
end
def fx(β:Nat->J cV)(k b:Nat):Prop:=∃B,β k=some B/\B.num=some b
theorem fx.at{β:Nat->J cV}{k b s:Nat}{n:Ex}(h:β k=some (.at b s n)):fx β k b:=⟨_,h,rfl⟩
section
variable {P:Program} {w0:World} {O0:kx} {β:Nat->Option cV} {I:Nat->Prop} {obj:Nat->Option aU} {w:World}
theorem Mem.ma(h:Mem P w0 O0 β I obj w):∀k k' o o' b,obj k=some o->obj k'=some o'->fx β k b->fx β k' b->k=k':=
 λk k' o o' b h1 h2 ⟨B,h3,h5⟩ ⟨B',h4,h6⟩=>h.gE k k' o o' B B' b h1 h2 h3 h4 h5 h6
theorem Mem.jn(h:Mem P w0 O0 β I obj w):∀k o b,obj k=some o->fx β k b->¬I b/\b<w.heap.size/\(O0.own b\/w0.heap.size<=b):=
 λk o b h1 ⟨B,h2,h3⟩=>h.ownB k o B b h1 h2 h3
end
def dn(obj:Nat->J aU):U (Nat×Option aU)->Nat->J aU
 |[],k=>obj k
 |(j,o)::r,k=>if k=j then o else dn obj r k
def i7(i k:Nat):Prop:=k=i\/(1000000<=i/\1000000<=k/\(k -1000000)/64=(i -1000000)/64)
theorem i7.ne{i k:Nat}(h:¬i7 i k):k≠i:=λe=>h (.inl e)
structure Step(β:Nat->Option cV)(I:Nat->Prop)(w:World)(i:Nat)(β':Nat->Option cV)(I':Nat->Prop)(w':World):Prop where
 other:∀k,¬i7 i k->β' k=β k
 ext:∀k B,β k=some B->β' k=some B
 same:Same I w w'
 inc:∀b,I b->I' b
theorem Step.refl(β:Nat->J cV)(I:Nat->Prop)(w:World)(i:Nat):Step β I w i β I w:=⟨λ _ _=>rfl,λ_ _ h=>h,λ_ _=>rfl,λ_ h=>h⟩
theorem qI{w:World}{o:Obj}{b:Nat}(h:b<w.heap.size):(w.alloc o).heap[b]? =w.heap[b]? :=by
 simp only[World.alloc,Array.getElem?_push];rw[aT (by omega)]
theorem Same.alloc{I:Nat->Prop}{w:World}(h:∀b,I b->b<w.heap.size)(o:Obj):Same I w (w.alloc o):=λb hb=>qI (h b hb)
def ins(β:Nat->J cV)(i:Nat)(B:cV):Nat->J cV:=λk=>if k=i then some B else β k
theorem ny{β:Nat->J cV}{i:Nat}{B:cV}(h:β i=none):∀k C,β k=some C->ins β i B k=some C:=by
 intro k C hk;unfold ins;split
 .subst_vars;rw[h]at hk;cases hk
 .exact hk
theorem jy{P:Program}{β:Nat->J cV}{w:World}{I:Nat->Prop}:∀(r:U AV)(c:Array Value)(aa:Nat),de P β w I r c aa↔∀j x,r[j]? =some x->∃v,c[aa+j]? =some v/\VR P β w I x v/\oneCell v
 |[],c,aa=>by simp[de]
 |x::xs,c,aa=>by
  simp only[de,jy xs c (aa+1)];constructor
  .rintro⟨h1,h2⟩ j y hj;cases j with
   |zero=>simp at hj;subst hj;exact h1
   |succ j=>obtain⟨v,hv⟩:=h2 j y (by simpa using hj);exact⟨v,by rw[show aa+(j+1)=aa+1+j by omega];exact hv.1,hv.2⟩
  .intro h;refine⟨by simpa using h 0 x rfl,λj y hj=>?_⟩;obtain⟨v,hv⟩:=h (j+1) y (by simpa using hj);exact⟨v,by rw[show aa+1+j=aa+(j+1)by omega];exact hv.1,hv.2⟩
theorem oG{P:Program}{β:Nat->J cV}{w:World}{I:Nat->Prop}:∀(rs:U (List AV))(c:Array Value)(aa sz:Nat),bp P β w I rs c aa sz↔∀i r,rs[i]? =some r->r.length=sz/\de P β w I r c (aa+i*sz)
 |[],c,aa,sz=>by simp[bp]
 |r::rs,c,aa,sz=>by
  simp only[bp,oG rs c (aa+sz) sz];constructor
  .rintro⟨h1,h2,h3⟩ i r' hi;cases i with
   |zero=>simp at hi;subst hi;exact⟨h1,by simpa using h2⟩
   |succ i=>have:=h3 i r' (by simpa using hi);rw[show aa+(i+1)*sz=aa+sz+i*sz by rw[Nat.add_mul];omega];exact this
  .intro h;have h0:=h 0 r rfl;refine⟨h0.1,by simpa using h0.2,λi r' hi=>?_⟩;have:=h (i+1) r' (by simpa using hi);rw[show aa+sz+i*sz=aa+(i+1)*sz by rw[Nat.add_mul];omega];exact this
section
variable {P:Program} {w0:World} {O0:kx} {β:Nat->Option cV} {I:Nat->Prop} {obj:Nat->Option aU} {w:World}
theorem OR.mono{β':Nat->J cV}{I':Nat->Prop}{w':World}{o:aU}{B:cV}(hb:∀k B,β k=some B->β' k=some B)(hs:Same I w w')(hi:∀b,I b->I' b)
 (hB:∀b,B.num=some b->w'.heap[b]? =w.heap[b]?) (h:OR P β w I o B):OR P β' w' I' o B:=by
 cases B with
 |none=>exact h
 | «at» b s n=>
  obtain⟨h1,c,e,h2,h3,h4⟩:=h;exact⟨h1,c,e,(hB b rfl).trans h2,h3,bp.mono hb hs hi _ _ _ _ h4⟩
 |mp b=>
  obtain⟨es,cl,h1,hle,h2,h3⟩:=h;exact⟨es,cl,(hB b rfl).trans h1,hle,λe=>cH.mono hb hs hi _ _ (h2 e),h3⟩
theorem Mem.alloc{i:Nat}{o:aU}{c:Array Value}{e:TypeId}(h:Mem P w0 O0 β I obj w)(hn:β i=none)
 (hr:bp P β w I o.rows c 0 o.sz):
 Step β I w i (ins β i (.at w.heap.size o.sz (xy c.size))) I (w.alloc (.cells c e))/\
 Mem P w0 O0 (ins β i (.at w.heap.size o.sz (xy c.size))) I (dn obj [(i,some o)]) (w.alloc (.cells c e)):=by
 have hS:Step β I w i (ins β i (.at w.heap.size o.sz (xy c.size))) I (w.alloc (.cells c e)):=
  ⟨λ k hk=>by simp[ins,i7.ne hk],ny hn,Same.alloc h.lt _,λ_ h=>h⟩
 refine⟨hS,?_⟩;have hne:∀k o',obj k=some o'->k≠i:=λk o' hk e=>by
  have⟨B,hB,_⟩:=h.cQ k o' hk;rw[e,hn]at hB;cases hB
 constructor
 .intro k o' hk;simp only[dn]at hk;split at hk
  .cases hk;rename_i hki;refine⟨.at w.heap.size o.sz (xy c.size),by simp[ins,hki],rfl,c,e,?_,rfl,bp.mono hS.ext hS.same hS.inc _ _ _ _ hr⟩;exact heap_alloc_new w _
  .have⟨B,hB,hO⟩:=h.cQ k o' hk;exact⟨B,ny hn _ _ hB,OR.mono hS.ext hS.same hS.inc (λ b hb=>qI (h.ownB k o' B b hk hB hb).2.1) hO⟩
 .intro k k' o1 o2 B B' b h1 h2 h3 h4 h5 h6;simp only[dn]at h1 h2;simp only[ins]at h3 h4;split at h1<;>split at h2
  .rename_i a b;rw[a,b]
  .rename_i hki pr;simp only[hki,if_true,aC]at h3;simp only[pr,if_false]at h4;subst h3;injection h5 with h5;have:=(h.ownB k' o2 B' b h2 h4 h6).2.1;omega
  .rename_i hki pr;simp only[pr,if_true,aC]at h4;simp only[hki,if_false]at h3;subst h4;injection h6 with h6;have:=(h.ownB k o1 B b h1 h3 h5).2.1;omega
  .rename_i hki pr;simp only[hki,pr,if_false]at h3 h4;exact h.gE k k' o1 o2 B B' b h1 h2 h3 h4 h5 h6
 .intro k o' B b h1 h2 h3;simp only[dn]at h1;simp only[ins]at h2;split at h1
  .rename_i hki;simp only[hki,if_true,aC]at h2;subst h2;injection h3 with h3;refine⟨λ hI=>?_,?_,.inr ?_⟩
   .have:=h.lt b hI;omega
   .simp;omega
   .have:=h.le;omega
  .rename_i hki;simp only[hki,if_false]at h2;have⟨a,b',c'⟩:=h.ownB k o' B b h1 h2 h3;exact⟨a,by simp;omega,c'⟩
 .intro b hb;have:=h.lt b hb;simp;omega
 .exact h.up
 .intro b hb hO;rw[qI (by have:=h.le;omega)];exact h.keep b hb hO
 .have:=h.le;simp;omega
 .exact h.os
 .exact h.tape
 .exact h.output
 .intro j B hj;exact ny hn _ _ (h.anch j B hj)
 .exact h.vars.mono (Same.alloc h.lt _) (λ _ h=>h)
theorem Mem.write{k:Nat}{o o':aU}{b s:Nat}{n:Ex}{c':Array Value}{e:TypeId}{w':World}(h:Mem P w0 O0 β I obj w)(hk:obj k=some o)(hβ:β k=some (.at b s n))
 (hnew:w'.heap[b]? =some (.cells c' e (0,0))) (hother:∀b',b'≠b->w'.heap[b']? =w.heap[b']?) (hsize:w'.heap.size=w.heap.size) (hos:w'.os=w.os) (vl:w'.tape=w.tape) (hout:w'.output=w.output)
 (hsz:s=o'.sz) (hn:c'.size=n.m) (hr:bp P β w I o'.rows c' n.s o'.sz):
 Same I w w'/\Mem P w0 O0 β I (dn obj [(k,some o')]) w':=by
 have⟨SZ,hlt,hO⟩:=h.own k o b s n hk hβ;have hs:Same I w w':=λb' hb=>hother b' (λ e=>SZ (e ▸ hb));refine⟨hs,?_⟩;constructor
 .intro j oj hj;simp only[dn]at hj;split at hj
  .rename_i hjk;cases hj;refine⟨.at b s n,by rw[hjk];exact hβ,hsz,c',e,?_,hn,hsz ▸ bp.mono (λ _ _ h=>h) hs (λ _ h=>h) _ _ _ _ hr⟩;exact hnew
  .rename_i hjk;have⟨B,hB,sB⟩:=h.cQ j oj hj;refine⟨B,hB,OR.mono (λ _ _ h=>h) hs (λ _ h=>h) (λ b1 e1=>hother b1 (λ e2=>hjk ?_)) sB⟩;subst e2;exact h.gE j k oj o B _ b1 hj hk hB hβ e1 rfl
 .intro j j' o1 o2 B1 B2 b1 h1 h2 h3 h4 h5 h6;have hx:∀(j:Nat)(o1:aU),dn obj [(k,some o')] j=some o1->∃o2,obj j=some o2:=λj o1 h=>by
   simp only[dn]at h;split at h
   .rename_i e;exact⟨o,by rw[e];exact hk⟩
   .exact⟨_,h⟩
  have⟨p1,q1⟩:=hx j o1 h1;have⟨p2,q2⟩:=hx j' o2 h2;exact h.gE j j' p1 p2 B1 B2 b1 q1 q2 h3 h4 h5 h6
 .intro j o1 B1 b1 h1 h2 h3;have hx:∃o2,obj j=some o2:=by
   simp only[dn]at h1;split at h1
   .rename_i e;exact⟨o,by rw[e];exact hk⟩
   .exact⟨_,h1⟩
  obtain⟨p1,q1⟩:=hx;have:=h.ownB j p1 B1 b1 q1 h2 h3;rw[hsize];exact this
 .intro b1 hb1;rw[hsize];exact h.lt b1 hb1
 .exact h.up
 .intro b1 hb1 hno;rw[hother b1 (λ e1=>?_)]
  .exact h.keep b1 hb1 hno
  .subst e1;rcases hO with hO |hO
   .exact hno hO
   .omega
 .rw[hsize];exact h.le
 .rw[hos];exact h.os
 .rw[vl];exact h.tape
 .rw[hout];exact h.output
 .exact h.anch
 .exact h.vars.mono hs (λ _ h=>h)
theorem Mem.drop(h:Mem P w0 O0 β I obj w)(ov:Nat->J aU)(hsub:∀k o,ov k=some o->obj k=some o):Mem P w0 O0 β I ov w:=
 ⟨λ k o hk=>h.cQ k o (hsub k o hk),λk k' o o' B B' b h1 h2=>h.gE k k' o o' B B' b (hsub _ _ h1) (hsub _ _ h2),λk o B b h1=>h.ownB k o B b (hsub _ _ h1),h.lt,h.up,h.keep,h.le,h.os,h.tape,h.output,h.anch,h.vars⟩
theorem Mem.below{w':World}{I':Nat->Prop}(h:Mem P w0 O0 β I obj w)(hb:Below w.heap.size w w')(hi:∀b,I b->I' b)(hlt:∀b,I' b->b<w'.heap.size)(hI:∀b k o B,I' b->obj k=some o->β k=some B->B.num=some b->False)(hup:∀b,I' b->O0.HG b\/O0.own b\/w0.heap.size<=b):
 Same I w w'/\Mem P w0 O0 β I' obj w':=by
 have hs:Same I w w':=λb hb'=>hb.block b (h.lt b hb');refine⟨hs,?_⟩;constructor
 .intro k o hk;have⟨B,hB,hO⟩:=h.cQ k o hk;exact⟨B,hB,OR.mono (λ _ _ h=>h) hs hi (λ b e=>hb.block b (h.ownB k o B b hk hB e).2.1) hO⟩
 .exact h.gE
 .intro k o B b h1 h2 h3;have⟨a,b',c⟩:=h.ownB k o B b h1 h2 h3;exact⟨λ hb2=>hI b k o B hb2 h1 h2 h3,Nat.lt_of_lt_of_le b' hb.size,c⟩
 .exact hlt
 .exact hup
 .intro b hb1 hno;rw[hb.block b (by have:=h.le;omega)];exact h.keep b hb1 hno
 .have:=h.le;have:=hb.size;omega
 .rw[hb.os];exact h.os
 .rw[hb.tape];exact h.tape
 .rw[hb.output];exact h.output
 .exact h.anch
 .exact h.vars.mono hs hi
theorem Mem.weak{ov:Nat->J aU}(h:Mem P w0 O0 β I obj w)(ho:∀k o',ov k=some o'->∃o,obj k=some o/\∀B,β k=some B->OR P β w I o B->OR P β w I o' B):Mem P w0 O0 β I ov w:=by
 constructor
 .intro k o' hk;have⟨o,h1,h2⟩:=ho k o' hk;have⟨B,hB,hO⟩:=h.cQ k o h1;exact⟨B,hB,h2 B hB hO⟩
 .intro k k' o o' B B' b h1 h2;have⟨q,g1,_⟩:=ho k o h1;have⟨q',g2,_⟩:=ho k' o' h2;exact h.gE k k' q q' B B' b g1 g2
 .intro k o B b h1;have⟨q,g1,_⟩:=ho k o h1;exact h.ownB k q B b g1
 .exact h.lt
 .exact h.up
 .exact h.keep
 .exact h.le
 .exact h.os
 .exact h.tape
 .exact h.output
 .exact h.anch
 .exact h.vars
theorem OR.wk{o:aU}{B:cV}(h:OR P β w I o B):OR P β w I ⟨o.sz,eu o.rows⟩ B:=by
 cases B with
 |none=>simp only[OR]at h ⊢;simp[eu,h]
 | «at» b s n=>
  obtain⟨h1,c,e,h2,h3,h4⟩:=h;exact⟨h1,c,e,h2,h3,bp.wk _ _ _ _ h4⟩
 |mp b=>
  obtain⟨es,cl,h1,hle,h2,h3⟩:=h;exact⟨es,cl,h1,by simpa[eu]using hle,λe=>cH.wk _ _ (h2 (by simpa[eu]using e)),h3⟩
theorem Mem.wx{k:Nat}{sz:Nat}{rows:U (List AV)}(h:Mem P w0 O0 β I (dn obj [(k,some ⟨sz,rows⟩)]) w):Mem P w0 O0 β I (dn obj [(k,some ⟨sz,eu rows⟩)]) w:=by
 refine h.weak λj o' hj=>?_;simp only[dn]at hj ⊢;by_cases e:j=k
 .rw[aZ e]at hj ⊢;cases hj;exact⟨_,rfl,λB _ hB=>OR.wk hB⟩
 .rw[aT e]at hj ⊢;exact⟨o',hj,λ_ _ h=>h⟩
theorem Mem.drew(h:Mem P w0 O0 β I obj w):Mem P w0 O0 β I obj w.drew:=by
 have hb:Below w.heap.size w w.drew:=⟨rfl,rfl,rfl,aG _,λ_ _=>rfl⟩;exact(h.below hb (λ _ h=>h) h.lt (λ b k o B h1 h2 h3 h4=>(h.ownB k o B b h2 h3 h4).1 h1) h.up).2
end
def my:Nat->J cV:=λ_=>none
def TV.av:TV->AV
 | .s x=> .t x
 | .a cs=> .agg (cs.map .t)
inductive RC where
 |d (x:TV)
 |fresh (sz:Nat) (rows:List (List Tree))
 |whole (j len:Nat)
inductive RV where
 |one (c:RC)
 |eV (cs:List RC)
def aK(rows:U (List Tree)):U (List AV):=rows.map λr=>r.map AV.t
def P4(P:Program)(F:Nat->Prop)(sz:Nat)(rows:U (List Tree))(w:World)(I:Nat->Prop)(v:Value):Prop:=
 (rows=[]/\v= .slice none 0 0)\/∃b c e cap o s,v= .slice (some ⟨b,o,none⟩) rows.length cap/\F b/\¬I b/\w.heap[b]? =some (.cells c e (0,0))/\rows.length<=cap/\s+cap*sz<=c.size/\
  bp P my w I (aK rows) c s sz/\(cap≠0->o=s)
def yq(P:Program)(F:Nat->Prop)(β:Nat->J cV):RC->World->(Nat->Prop)->Value->Prop
 | .d x,w,I,v=>rx w I x v
 | .fresh sz rows,w,I,v=>P4 P F sz rows w I v
 | .whole j len,w,I,v=>VR P β w I (.own j 0 len) v
def Sy(P:Program)(F:Nat->Prop)(β:Nat->J cV):U RC->World->(Nat->Prop)->U Value->Prop
 |[],_,_,[]=>True
 |c::cs,w,I,v::vs=>yq P F β c w I v/\Sy P F β cs w I vs
 |_,_,_,_=>False
def ry(P:Program)(F:Nat->Prop)(β:Nat->J cV):RV->World->(Nat->Prop)->Value->Prop
 | .one c,w,I,v=>yq P F β c w I v
 | .eV cs,w,I,v=>∃vs:Array Value,v= .tuple vs/\Sy P F β cs w I vs.toList
def MY(w:World)(b:Nat):Prop:=w.heap.size<=b
def eZ(P : Program)(f : FuncId): Prop := ∃ fn, P.funcs[f]? = some fn /\ fn.body.isSome = true /\ (fn.name == "runtime.NumGoroutine") = false
def ri(P:Program)(f:FuncId)(args:U AV)(r:RV):Prop:=
 eZ P f/\∀(w:World)(I:Nat->Prop)(vs:Array Value),(∀ b,I b->b<w.heap.size)->j0 w I->bj P my w I args vs.toList->Calls P f vs w (aip w I (ry P (MY w) my r))
mutual
def fW(P:Program)(get:Nat->Option aU):AV->AV->Prop
 | .t x,y=>y= .t x
 | .agg cs,y=>∃cs',y= .agg cs'/\fh P get cs cs'
 | .eV _,_=>False
 | .own k aa len,y=>∃o d7,get k=some o/\y= .t (.sl d7)/\(o.rows.drop aa).take len=aK d7/\d7.length=len
 | .ptr k row aa,y=>∃o sL,get k=some o/\y= .eM sL aa/\o.rows[row]? =some (sL.map AV.t)
 | .eM r o,y=>y= .eM r o
 | .fn f first caps,y=>∃first' nq,fh P get first first'/\fh P get caps nq/\(y= .fn f first' nq\/
  ∃ φ,y= .eo φ/\first'=[]/\eZ P f/\∀args r,φ args r->ri P f (first'++args.map TV.av++nq) (.one (.d r)))
 | .eo φ,y=>y= .eo φ
 | .mp _,_=>False
 | .oz k len,y=>∃o d7,get k=some o/\y= .t (.sl d7)/\(o.rows.drop 0).take len=aK d7/\d7.length=len
 | .dc,y=>y= .t (.sl [])\/y= .dc
 | .ub,_=>False
 | .undef,_=>False
def fh(P:Program)(get:Nat->Option aU):List AV->List AV->Prop
 |[],[]=>True
 |x::xs,y::ys=>fW P get x y/\fh P get xs ys
 |_,_=>False
end
mutual
def refs:AV->List Nat
 | .own k _ _=>[k]
 | .ptr k _ _=>[k]
 | .mp k=>[k]
 | .oz k _=>[k]
 | .agg cs=>fe cs
 | .eV cs=>fe cs
 | .fn _ first caps=>fe first++fe caps
 |_=>[]
def fe:List AV->List Nat
 |[]=>[]
 |x::xs=>refs x++fe xs
end
def fY(β:Nat->J cV)(obj:Nat->J aU)(ae:U Nat)(I:Nat->Prop)(b:Nat):Prop:=
 I b\/∃k o s n,k∈ae/\obj k=some o/\β k=some (.at b s n)
theorem fY.sub{β:Nat->J cV}{obj:Nat->J aU}{ae HH:U Nat}{I:Nat->Prop}(h:∀k,k∈ae->k∈HH):∀b,fY β obj ae I b->fY β obj HH I b:=by
 intro b hb;rcases hb with hb |⟨k,o,s,n,h1,h2⟩
 .exact .inl hb
 .exact .inr ⟨k,o,s,n,h k h1,h2⟩
section
variable {P:Program} {β:Nat->Option cV} {w:World} {I:Nat->Prop}
theorem de.drop:∀(n:Nat)(r:U AV)(c:Array Value)(aa:Nat),de P β w I r c aa->de P β w I (r.drop n) c (aa+n)
 | 0,_,_,_,h=>by simpa using h
 |n+1,[],_,_,_=>by simp[de]
 |n+1,x::xs,c,aa,⟨_,h⟩=>by
  have:=de.drop n xs c (aa+1) h;rw[List.drop_succ_cons,show aa+(n+1)=aa+1+n by omega];exact this
theorem de.take:∀(n:Nat)(r:U AV)(c:Array Value)(aa:Nat),de P β w I r c aa->de P β w I (r.take n) c aa
 | 0,_,_,_,_=>by simp[de]
 |n+1,[],_,_,_=>by simp[de]
 |n+1,x::xs,c,aa,⟨h1,h⟩=>⟨h1,de.take n xs c (aa+1) h⟩
theorem bp.drop:∀(n:Nat)(rs:U (List AV))(c:Array Value)(aa sz:Nat),bp P β w I rs c aa sz->bp P β w I (rs.drop n) c (aa+n*sz) sz
 | 0,_,_,_,_,h=>by simpa using h
 |n+1,[],_,_,_,_=>by simp[bp]
 |n+1,r::rs,c,aa,sz,⟨_,_,h⟩=>by
  have:=bp.drop n rs c (aa+sz) sz h;rw[List.drop_succ_cons,show aa+(n+1)*sz=aa+sz+n*sz by rw[Nat.add_mul];omega];exact this
theorem bp.take:∀(n:Nat)(rs:U (List AV))(c:Array Value)(aa sz:Nat),bp P β w I rs c aa sz->bp P β w I (rs.take n) c aa sz
 | 0,_,_,_,_,_=>by simp[bp]
 |n+1,[],_,_,_,_=>by simp[bp]
 |n+1,r::rs,c,aa,sz,⟨h1,h2,h⟩=>⟨h1,h2,bp.take n rs c (aa+sz) sz h⟩
theorem bp.get:∀(i:Nat)(rs:U (List AV))(c:Array Value)(aa sz:Nat)(r:U AV),bp P β w I rs c aa sz->rs[i]? =some r->r.length=sz/\de P β w I r c (aa+i*sz)
 | 0,r::rs,c,aa,sz,r',⟨h1,h2,_⟩,h=>by simp at h;subst h;exact⟨h1,by simpa using h2⟩
 |i+1,r::rs,c,aa,sz,r',⟨_,_,h3⟩,h=>by
  have:=bp.get i rs c (aa+sz) sz r' h3 (by simpa using h);rw[show aa+(i+1)*sz=aa+sz+i*sz by rw[Nat.add_mul];omega];exact this
 |_,[],_,_,_,_,_,h=>by simp at h
theorem ea.l4{I':Nat->Prop}{b:Nat}{c:Array Value}{e:TypeId}{f:Nat×Nat}(hI:∀b,I b->I' b)(hc:w.heap[b]? =some (.cells c e f)):∀(r:U Tree)(aa:Nat),de P β w I (r.map AV.t) c aa->ea w I' r b aa
 |[],_,_=>by simp[ea]
 |x::xs,aa,⟨⟨v,h1,h2,_⟩,h3⟩=>by
  simp only[ea];refine⟨⟨v,?_,?_⟩,ea.l4 hI hc xs (aa+1) h3⟩
  .simp[World.cell?,hc,h1]
  .simp only[VR]at h2;exact TR.mono (λ _ _=>rfl) hI x v h2
theorem cJ.l4{I':Nat->Prop}{b:Nat}{c:Array Value}{e:TypeId}{f:Nat×Nat}(hI:∀b,I b->I' b)(hc:w.heap[b]? =some (.cells c e f)):∀(rs:U (List Tree))(aa sz:Nat),bp P β w I (aK rs) c aa sz->cJ w I' rs b aa sz
 |[],_,_,_=>by simp[cJ]
 |r::rs,aa,sz,h=>by
  simp only[aK,aH,bp]at h;simp only[cJ];exact⟨by simpa using h.1,ea.l4 hI hc r aa h.2.1,cJ.l4 hI hc rs (aa+sz) sz h.2.2⟩
theorem rj.Hx{f:FuncId}{first caps:Array Value}{first' nq:U AV}{φ:U TV->TV->Prop}(h0:first'=[])(hcall:eZ P f)(hgv:j0 w I)(hf:bj P my w I first' first.toList)(hc:bj P my w I nq caps.toList)
 (h:∀args r,φ args r->ri P f (first'++args.map TV.av++nq) (.one (.d r))):rj P w I φ (.func (.func f) first caps):=by
 obtain⟨fn,h1,h2,h3⟩:=hcall;have h00:first=#[]:=by
  obtain⟨fs⟩:=first
  cases fs with
  |nil=>rfl
  |cons a b=>rw[h0]at hf;simp[bj]at hf
 refine⟨f,first,caps,rfl,h00,λfn' hfn=>?_,by simp[h1],?_⟩
 .rw[h1]at hfn;cases hfn;exact⟨h2,h3⟩
 .intro w' I' args vs r hI hS hlt hφ ha;have happ:∀(a b:U AV)(u v:U Value),bj P my w' I' a u->bj P my w' I' b v->bj P my w' I' (a++b) (u++v):=by
   intro a
   induction a with
   |nil=>intro b u v h1 h2;cases u with
    |nil=>simpa using h2
    |cons=>simp[bj]at h1
   |cons x xs ih=>intro b u v h1 h2;cases u with
    |nil=>simp[bj]at h1
    |cons y ys=>simp only[bj]at h1;simp only[cons_append,bj];exact⟨h1.1,ih _ _ _ h1.2 h2⟩
  have hargs:∀(args:U TV)(vs:U Value),m6 w' I' args vs->bj P my w' I' (args.map TV.av) vs:=by
   intro args
   induction args with
   |nil=>intro vs h;cases vs with
    |nil=>simp[bj]
    |cons=>simp[m6]at h
   |cons x xs ih=>intro vs h;cases vs with
    |nil=>simp[m6]at h
    |cons y ys=>
     simp only[m6]at h;simp only[aH,bj];refine⟨?_,ih ys h.2⟩;cases x with
     |s x=>simpa[TV.av,VR,rx]using h.1
     |a cs=>
      obtain⟨us,rfl,h5⟩:=h.1;simp only[TV.av,VR];refine⟨us,rfl,?_⟩;have:∀(cs:U Tree) (us:U Value),ff w' I' cs us->bj P my w' I' (cs.map AV.t) us:=by
       intro cs
       induction cs with
       |nil=>intro us h;cases us with
        |nil=>simp[bj]
        |cons=>simp[ff]at h
       |cons x xs ih=>intro us h;cases us with
        |nil=>simp[ff]at h
        |cons y ys=>simp only[ff]at h;simp only[aH,bj,VR];exact⟨h.1,ih _ h.2⟩
      exact this cs us.toList h5
  have hm:∀k B,my k=some B->my k=some B:=λ_ _ h=>h;have:=(h args r hφ).2 w' I' (first++vs++caps) hlt (hgv.mono hS hI) (by
   simp only[Array.toList_append];exact happ _ _ _ _ (happ _ _ _ _ (bj.mono hm hS hI _ _ hf) (hargs _ _ ha)) (bj.mono hm hS hI _ _ hc))
  exact this
variable {w0:World} {O0:kx} {obj:Nat->Option aU}
theorem fW.qe(h:Mem P w0 O0 β I obj w)(ae:U Nat){k aa len:Nat}{y:AV}{v:Value}(hk:k∈ae)(hb:∃o d7,obj k=some o/\y= .t (.sl d7)/\(o.rows.drop aa).take len=aK d7/\d7.length=len)(hv:VR P β w I (.own k aa len) v):VR P my w (fY β obj ae I) y v:=by
 obtain⟨o,d7,hget,rfl,hrows,hlen⟩:=hb;simp only[VR]at hv ⊢;simp only[TR];rcases hv with ⟨h1,rfl,h2,h3⟩ |⟨b,sz,n,cap,a,h1,rfl,h2,h3,h4⟩
 .exact .inl ⟨eq_nil_of_length_eq_zero (by omega),none,0,rfl,λ_=>rfl⟩
 .refine .inr ⟨b,a,cap,sz,by rw[hlen],by omega,.inr ⟨k,o,sz,n,hk,hget,h1⟩,?_⟩;by_cases h0:cap=0
  .have:d7=[]:=eq_nil_of_length_eq_zero (by omega);subst this;simp[cJ]
  .rw[h4 h0];have⟨B,hB,hO⟩:=h.cQ k o hget;rw[h1]at hB;cases hB;obtain⟨hs,c,e,hc,_,hO⟩:=hO;have h4:=bp.take len _ _ _ _ (bp.drop aa _ _ _ _ hO);rw[hrows]at h4;exact cJ.l4 (λ _ h=> .inl h) hc d7 _ _ h4
mutual
theorem fW.sound(h:Mem P w0 O0 β I obj w)(ae:List Nat):∀(x y:AV)(v:Value),(∀ k,k∈refs x->k∈ae)->fW P obj x y->VR P β w I x v->VR P my w (fY β obj ae I) y v
 | .t x,y,v,_,hb,hv=>by
  simp only[fW]at hb;subst hb;simp only[VR]at hv ⊢;exact TR.mono (λ _ _=>rfl) (λ _ h=> .inl h) x v hv
 | .agg cs,y,v,hk,hb,hv=>by
  simp only[fW]at hb;obtain⟨cs',rfl,hb⟩:=hb;simp only[VR]at hv ⊢;obtain⟨vs,rfl,hv⟩:=hv;exact⟨vs,rfl,fh.sound h ae cs cs' vs.toList (by simpa[refs]using hk) hb hv⟩
 | .eV _,_,_,_,hb,_=>by simp[fW]at hb
 | .oz k len,y,v,hk,hb,hv=>by
  rcases hv.vh with ⟨rfl,rfl⟩ |⟨_,hv⟩
  .simp only[fW]at hb;obtain⟨o,d7,hget,rfl,hrows,hlen⟩:=hb;simp only[VR,TR];exact .inl ⟨eq_nil_of_length_eq_zero hlen,none,0,rfl,λ_=>rfl⟩
  .exact fW.qe h ae (hk k (by simp[refs])) (by simpa only[fW]using hb) hv
 | .own k aa len,y,v,hk,hb,hv=>fW.qe h ae (hk k (by simp[refs])) (by simpa only[fW]using hb) hv
 | .ptr k row aa,y,v,hk,hb,hv=>by
  simp only[fW]at hb;obtain⟨o,sL,hget,rfl,hrow⟩:=hb;simp only[VR]at hv ⊢;obtain⟨b,sz,n,h1,rfl⟩:=hv;have⟨B,hB,hO⟩:=h.cQ k o hget;rw[h1]at hB;cases hB;obtain⟨hs,c,e,hc,_,hO⟩:=hO;have h4:=(bp.get row _ _ _ _ _ hO hrow).2;exact⟨b,n.s+row*sz,rfl,.inr ⟨k,o,sz,n,hk k (by simp[refs]),hget,h1⟩,ea.l4 (λ _ h=> .inl h) hc sL _ h4⟩
 | .eM r o,y,v,_,hb,hv=>by
  simp only[fW]at hb;subst hb;simp only[VR]at hv ⊢;obtain⟨b,o',h1,h2,h3⟩:=hv;exact⟨b,o',h1,.inl h2,ea.mono (λ _ _=>rfl) (λ _ h=> .inl h) r b o' h2 h3⟩
 | .fn f first caps,y,v,hk,hb,hv=>by
  simp only[fW]at hb;obtain⟨first',nq,hb1,hb2,hy⟩:=hb;simp only[VR]at hv;obtain⟨fs,cs,rfl,hv1,hv2⟩:=hv;have h1:=fh.sound h ae first first' fs.toList (λ k hk'=>hk k (by simp[refs,hk'])) hb1 hv1
  have h2:=fh.sound h ae caps nq cs.toList (λ k hk'=>hk k (by simp[refs,hk'])) hb2 hv2;rcases hy with rfl |⟨φ,rfl,h0,hc,hφ⟩
  .simp only[VR];exact⟨fs,cs,rfl,h1,h2⟩
  .simp only[VR];exact rj.Hx h0 hc (h.vars.mono (λ _ _=>rfl) (λ _ h=> .inl h)) h1 h2 hφ
 | .eo φ,y,v,_,hb,hv=>by
  simp only[fW]at hb;subst hb;simp only[VR]at hv ⊢;exact rj.mono (λ _ _=>rfl) (λ _ h=> .inl h) hv
 | .dc,y,v,_,hb,hv=>by
  simp only[fW]at hb;rcases hb with rfl |rfl
  .simp only[VR]at hv ⊢;simp only[TR];exact .inl ⟨trivial,none,0,hv,λ_=>rfl⟩
  .simpa only[VR]using hv
 | .ub,_,_,_,hb,_=>by simp[fW]at hb
 | .undef,_,_,_,hb,_=>by simp[fW]at hb
theorem fh.sound(h:Mem P w0 O0 β I obj w)(ae:List Nat):∀(xs ys:List AV)(vs:List Value),(∀ k,k∈fe xs->k∈ae)->fh P obj xs ys->bj P β w I xs vs->bj P my w (fY β obj ae I) ys vs
 |[],[],[],_,_,_=>by simp[bj]
 |x::xs,y::ys,v::vs,hk,hb,hv=>by
  simp only[fh]at hb;simp only[bj]at hv ⊢;exact⟨fW.sound h ae x y v (λ k hk'=>hk k (by simp[fe,hk'])) hb.1 hv.1,fh.sound h ae xs ys vs (λ k hk'=>hk k (by simp[fe,hk'])) hb.2 hv.2⟩
 |[],_::_,_,_,hb,_=>by simp[fh]at hb
 |_::_,[],_,_,hb,_=>by simp[fh]at hb
 |[],[],_::_,_,_,hv=>by simp[bj]at hv
 |_::_,_::_,[],_,_,hv=>by simp[bj]at hv
end
end
inductive AI where
 |slice (e:TypeId)
 |arr (n:Nat) (e:TypeId)
 |struct (fs:List (Nat×TypeId))
 |bool
 |str
 |int (k:IntKind)
 |map (k e:TypeId)
 |other
structure nr where
 size:Nat
 bytes:Nat
 agg:Bool
 zero:List Value
 k:AI
 cmp:List Nat
abbrev er:=Nat->J nr
def R0:AI->TypeDesc->Prop
 | .slice e,d=>d= .slice e
 | .arr n e,d=>d= .array n e
 | .struct fs,d=>∃fa:Array Field,d= .struct fa/\fa.toList.map (λ f=>(f.offset,f.type))=fs
 | .bool,d=>d= .bool
 | .str,d=>d= .string
 | .int k,d=>d= .int k
 | .map k e,d=>d= .map k e
 | .other,_=>True
def s8:TypeDesc->Bool
 | .struct _ | .array _ _=>true
 |_=>false
def kA:Value->Bool
 | .agg _ | .tuple _=>false
 |_=>true
theorem sS{v:Value}(h:kA v=true):oneCell v:=by cases v<;>first |exact trivial |(simp [kA]at h)
def UN(P:Program)(f:Field)(kd:Nat):Bool:=
 (f.name != "_") && match P.underlying f.type with
  |some (.int _)=>kd==0
  |some .bool=>kd==1
  |some .string=>kd==2
  |_=>false
def gh(P:Program):Nat->U Field->U Nat->Bool
 |_,[],[]=>true
 |n,f::fs,k::ks=>f.offset==n&&UN P f k&&gh P (n+1) fs ks
 |_,_,_=>false
def tg(agg:Bool):Value->Bool
 | .agg _=>agg
 | .tuple _=>false
 |_=>!agg
structure mj(P:Program)(t:TypeId)(ti:nr):Prop where
 ex:∃info d z,P.info? t=some info/\P.underlying t=some d/\info.size=ti.size/\info.bytes=ti.bytes/\info.zero=some z/\z.cells.toList=ti.zero/\s8 d=ti.agg/\R0 ti.k d
 one:ti.zero.all kA=true
 len:ti.zero.length=ti.size
 form:∀info z,P.info? t=some info->info.zero=some z->tg ti.agg z=true
 cmp:ti.cmp≠[]->(∃ fa:Array Field,P.underlying t=some (.struct fa)/\P.stoodInHeld t=false/\P.eqGuardType P.depth t=false/\gh P 0 fa.toList ti.cmp=true)\/(ti.cmp=[9]/\P.eqGuardType P.depth t=false)
def fu(P:Program)(T:er):Prop:=∀t ti,T t=some ti->mj P t ti
def jq:U Prop->Prop
 |[]=>True
 |[p]=>p
 |p::q::r=>p/\jq (q::r)
structure Out where
 v:AV
 upd:List (Nat×Option aU)
 obs:List Prop
@[reducible] def Out.ob (o:Out):Prop:=jq o.obs
def cT(i:Nat):Nat:=1000000+64*i
inductive LH where
 |rows (tr:List (List Tree))
 |row (tr:List Tree)
 |fn
 |eo (φ:List TV->TV->Prop)
 |mut (j:Nat)
 |nil
 |emp
 |fnw
 |agw
 |agd
inductive OB where
 |dat (p:Nat×List (List Tree))
 |DD (hs:List (List LH))
inductive j7 where
 |none
 |row (r:List AV)
 |set (r:List AV) (rs:List (List AV))
 |sL (r:List Tree)
 |num (n:Int)
 |rows (rs:List (List AV))
 |AS (rows:List (List Tree))
 |call (hs:List LH) (r:RV) (keep:Bool)
 |DE (hs:List LH) (args:List TV) (r:TV) (keep:Bool)
 |ext (n:Int)
 |xv (ae:List Nat) (fr:Operand->AV) (cL:j7)
 |tD (ae:List Nat) (os:List (Nat×List (List Tree))) (os':List (Option (Nat×List (List Tree)))) (hs:List LH) (r:RV) (keep:Bool)
 |tE (ae c9:List Nat) (bs:List OB) (hs:List LH) (os':List (Nat×aU)) (rv:AV) (keep:Bool)
def pv(v:AV):J Out:=some ⟨v,[],[]⟩
def mT(v:AV)(ob:Prop):J Out:=some ⟨v,[],[ob]⟩
def cv:Value->AV
 | .slice none 0 0=> .dc
 |v=>if kA v then .t (.sc v)else .undef
def lR(env:Nat->AV):Operand->AV
 | .tmp t=>env t
 | .const v=>cv v
 | .global g=>match wc g with
  |some row=> .eM (row.map Tree.sc) 0
  |none=> .undef
 | .func f=> .fn f [] []
def o8:AV->Bool
 | .agg _ | .eV _ | .undef=>false
 |_=>true
def cellsOf:AV->J (List AV)
 | .agg cs=>if cs.all o8 then some cs else none
 | .eV _ | .undef=>none
 |x=>some [x]
def part'(agg:Bool)(size:Nat)(cs:U AV):J AV:=
 if cs.length=size then(if agg then some (.agg cs)else match cs with |[x]=>if o8 x then some x else none |_=>none)else none
def put'(r:U AV)(aa:Nat)(cs:U AV):U AV:=r.take aa++cs++r.drop (aa+cs.length)
def UO(op:BinOp)(k:IntKind)(a b:Int):J (Value×List Prop):=
 match op with
 | .add=>some (.int k (k.wrap (a+b)),[])
 | .sub=>some (.int k (k.wrap (a -b)),[])
 | .mul=>some (.int k (k.wrap (a*b)),[])
 | .quo=>some (.int k (k.wrap (a.tdiv b)),[b≠0])
 | .rem=>some (.int k (a.tmod b),[b≠0])
 | .and=>some (.int k (bits .and k a b),[])
 | .or=>some (.int k (bits .or k a b),[])
 | .xor=>some (.int k (bits .xor k a b),[])
 | .andNot=>some (.int k (bits .andNot k a b),[])
 | .shl=>some (.int k (k.wrap (a*2 ^ b.toNat)),[0<=b/\b<=k.bits])
 | .shr=>some (.int k (a/2 ^ b.toNat),[0<=b/\b<=k.bits])
 | .eql=>some (.bool (a==b),[])
 | .neq=>some (.bool (a !=b),[])
 | .lss=>some (.bool (decide (a<b)),[])
 | .leq=>some (.bool (decide (a<=b)),[])
 | .gtr=>some (.bool (decide (a>b)),[])
 | .geq=>some (.bool (decide (a>=b)),[])
def LD:Nat->AV->AV->J Bool
 | 0,.t (.sc (.int j a)),.t (.sc (.int k b))=>if j=k then some (a==b)else none
 | 1,.t (.sc (.bool a)),.t (.sc (.bool b))=>some (a==b)
 | 2,.t (.sc (.string a)),.t (.sc (.string b))=>some (a.toList==b.toList)
 |_,_,_=>none
def sU:U Nat->U AV->U AV->J Bool
 |[],[],[]=>some true
 |k::ks,x::xs,y::ys=>(LD k x y).bind λa=>(sU ks xs ys).bind λb=>some (a&&b)
 |_,_,_=>none
theorem ak5:∀xs ys:U AV,sU [9] xs ys=none:=by intro xs ys;cases xs<;>cases ys<;>simp[sU,LD]
def Yw(T:er)(op:BinOp)(t:TypeId)(x y:AV):J Out:=
 match x,y with
 | .t (.sc (.int k a)),.t (.sc (.int yk b))=>if k=yk\/op= .shl\/op= .shr then(UO op k a b).bind λ(v,obs)=>some ⟨.t (.sc v),[],obs⟩else none
 | .t (.sc (.string a)),.t (.sc (.string b))=>match op with
  | .eql=>pv (.t (.sc (.bool (a.toList==b.toList))))
  | .neq=>pv (.t (.sc (.bool (!(a.toList==b.toList)))))
  | .lss=>pv (.t (.sc (.bool (Op.bytesLess a.toList b.toList))))
  | .gtr=>pv (.t (.sc (.bool (!(Op.bytesLess a.toList b.toList || a.toList==b.toList)))))
  | .add=>mT (.t (.sc (.string (a++b)))) (a.size+b.size<=maxLen)
  |_=>none
 | .t (.sc (.bool a)),.t (.sc (.bool b))=>(T t).bind λti=>match ti.k,op with
  | .bool,.eql=>pv (.t (.sc (.bool (a==b))))
  | .bool,.neq=>pv (.t (.sc (.bool (!(a==b)))))
  |_,_=>none
 | .agg xs,.agg ys=>(T t).bind λti=>if ti.cmp=[]then none else(sU ti.cmp xs ys).bind λb=>match op with
  | .eql=>pv (.t (.sc (.bool b)))
  | .neq=>pv (.t (.sc (.bool (!b))))
  |_=>none
 |_,_=>none
def QP(op:UnOp)(x:AV):J Out:=
 match op,x with
 | .not,.t (.sc (.bool b))=>pv (.t (.sc (.bool (!b))))
 | .neg,.t (.sc (.int k n))=>pv (.t (.sc (.int k (k.wrap (0 -n)))))
 |_,_=>none
def D8(mx:Bool)(k:IntKind):Int->U AV->J Int
 |a,[]=>some a
 |a,.t (.sc (.int k' b))::r=>if k'=k then D8 mx k (if mx then max a b else min a b) r else none
 |_,_=>none
def G2(mx:Bool)(args:U AV):J Out:=
 match args with
 | .t (.sc (.int k a))::r=>(D8 mx k a r).bind λn=>pv (.t (.sc (.int k n)))
 |_=>none
def K6(T:er)(t:TypeId)(x:AV)(cL:j7)(get:Nat->J aU):J Out:=
 (T t).bind λti=>match x with
 | .ptr k row aa=>(get k).bind λo=>match cL with
  | .row r=>(part' ti.agg ti.size ((r.drop aa).take ti.size)).bind λv=>mT v (o.rows[row]? =some r)
  |_=>(o.rows[row]?).bind λr=>(part' ti.agg ti.size ((r.drop aa).take ti.size)).bind pv
 | .eM r aa=>(part' ti.agg ti.size (((r.drop aa).take ti.size).map AV.t)).bind pv
 |_=>none
def UQ(T:er)(t:TypeId)(x y:AV)(cL:j7)(get:Nat->J aU):J Out:=
 (T t).bind λti=>(cellsOf y).bind λcs=>if cs.length=ti.size then match x with
 | .ptr k row aa=>(get k).bind λo=>match cL with
  | .set r rs=>if aa+cs.length<=r.length then some ⟨.undef,[(k,some ⟨o.sz,rs⟩)],[o.rows[row]? =some r/\rs=eu (o.rows.set row (put' r aa cs))]⟩else none
  |_=>(o.rows[row]?).bind λr=>if aa+cs.length<=r.length then some ⟨.undef,[(k,some ⟨o.sz,o.rows.set row (put' r aa cs)⟩)],[]⟩else none
 |_=>none else none
def zY(T:er)(t:TypeId)(f:Nat):J (Nat×nr):=
 (T t).bind λti=>match ti.k with
 | .struct fs=>(fs[f]?).bind λ(aa,u)=>(T u).bind λui=>if ui.size=0 then none else some (aa,ui)
 |_=>none
def yI(T:er)(t:TypeId)(x:AV)(f:Nat):J Out:=
 (zY T t f).bind λ(d,_)=>match x with
 | .ptr k row aa=>pv (.ptr k row (aa+d))
 | .eM r aa=>pv (.eM r (aa+d))
 |_=>none
def UR(T:er)(t:TypeId)(x:AV)(f:Nat):J Out:=
 (zY T t f).bind λ(d,ui)=>match x with
 | .agg cs=>(part' ui.agg ui.size ((cs.drop d).take ui.size)).bind pv
 |_=>none
def l8(T:er)(t:TypeId)(x i:AV)(cL:j7)(get:Nat->J aU):J Out:=
 (T t).bind λti=>match ti.k,i with
 | .slice e,.t (.sc (.int _ n))=>(T e).bind λei=>match x,cL with
  | .t (.sl rows),.sL r=>if r.length=ei.size then mT (.eM r 0) (0<=n/\rows[n.toNat]? =some r)else none
  | .own k aa len,_=>(get k).bind λo=>if o.sz=ei.size then mT (.ptr k (aa+n.toNat) 0) (0<=n/\n.toNat<len)else none
  |_,_=>none
 | .arr m e,.t (.sc (.int _ n))=>(T e).bind λei=>match x with
  | .ptr k row aa=>mT (.ptr k row (aa+n.toNat*ei.size)) (0<=n/\n.toNat<m)
  | .eM r aa=>mT (.eM r (aa+n.toNat*ei.size)) (0<=n/\n.toNat<m)
  |_=>none
 |_,_=>none
def Ht(x:AV)(j:Nat):J Out:=
 match x with
 | .eV vs=>(vs[j]?).bind pv
 |_=>none
def AH(T:er)(t:TypeId)(x:AV)(cL:j7):J Out:=
 (T t).bind λti=>match ti.k,x,cL with
 | .slice _,.t (.sl rows),.num n=>mT (.t (.sc (.int .i64 n))) (n=(rows.length:Int))
 | .slice _,.own _ _ len,.num n=>mT (.t (.sc (.int .i64 n))) (n=(len:Int))
 | .slice _,.own _ _ len,_=>pv (.t (.sc (.int .i64 (len:Int))))
 | .slice _,.oz _ len,_=>pv (.t (.sc (.int .i64 (len:Int))))
 | .slice _,.dc,_=>pv (.t (.sc (.int .i64 0)))
 | .str,.t (.sc (.string s)),_=>pv (.t (.sc (.int .i64 (s.size:Int))))
 |_,_,_=>none
def FK(place:Nat->J (Nat×Nat)):U AV->U (Nat×AV)->J (List AV)
 |cells,[]=>some cells
 |cells,(j,x)::ag=>(place j).bind λ(aa,size)=>(cellsOf x).bind λcs=>
  if cs.length=size/\aa+cs.length<=cells.length then FK place (put' cells aa cs) ag else none
def UU(T:er)(t:TypeId)(parts:U (Nat×AV)):J Out:=
 (T t).bind λti=>match ti.k with
 | .struct fs=>if fs.all (λ p=>(T p.2).isSome)then
  (FK (λ j=>(fs[j]?).bind λp=>(T p.2).bind λui=>some (p.1,ui.size)) (ti.zero.map cv) parts).bind λcells=>pv (.agg cells)else none
 | .arr _ e=>(T e).bind λei=>(FK (λ j=>some (j*ei.size,ei.size)) (ti.zero.map cv) parts).bind λcells=>pv (.agg cells)
 |_=>none
def ML(size:Nat):U (List AV)->U (Nat×AV)->J (List (List AV))
 |rows,[]=>some rows
 |rows,(j,x)::ag=>(cellsOf x).bind λcs=>if cs.length=size/\j<rows.length then ML size (rows.set j cs) ag else none
def vW(T:er)(i:Nat)(t:TypeId)(len:Nat)(parts:U (Nat×AV))(kp:Bool:=false):J Out:=
 (T t).bind λti=>match ti.k with
 | .slice e=>(T e).bind λei=>if ei.size=0\/len*ei.size>2 ^ 24 then none else
  (ML ei.size (List.replicate len (ei.zero.map cv)) parts).bind λrows=>some ⟨.own (cT i) 0 len,[(cT i,some ⟨ei.size,if kp then rows else eu rows⟩)],[]⟩
 |_=>none
def UW(T:er)(i:Nat)(e:TypeId):J Out:=
 (T e).bind λti=>some ⟨.ptr (cT i) 0 0,[(cT i,some ⟨ti.size,[ti.zero.map cv]⟩)],[]⟩
def Lo(i:Nat)(x:AV):J Out:=
 (cellsOf x).bind λcs=>some ⟨.ptr (cT i) 0 0,[(cT i,some ⟨cs.length,[cs]⟩)],[]⟩
def bnd(d:Int):J AV->J Int
 |none=>some d
 |some (.t (.sc (.int _ n)))=>some n
 |_=>none
def UX(T:er)(t:TypeId)(x:AV)(lo hi:J AV)(cL:j7)(get:Nat->J aU):J Out:=
 (T t).bind λti=>match ti.k with
 | .slice e=>(T e).bind λei=>match x with
  | .own k aa len=>(get k).bind λo=>if o.sz=ei.size then(bnd 0 lo).bind λl=>(bnd len hi).bind λh=>
   mT (.own k (aa+l.toNat) (h.toNat -l.toNat)) (0<=l/\l<=h/\h<=(len:Int))else none
  | .t (.sl rows)=>match cL with
   | .AS rs=>(bnd 0 lo).bind λl=>(bnd rows.length hi).bind λh=>
    mT (.t (.sl rs)) (0<=l/\l<=h/\h<=(rows.length:Int)/\rs=(rows.drop l.toNat).take (h.toNat -l.toNat)/\(∀ r∈rows,r.length=ei.size))
   |_=>none
  |_=>none
 |_=>none
def UY(size:Nat)(y:AV)(get:Nat->J aU):J (Nat×Prop×List (List AV)):=
 match y with
 | .own k aa len=>(get k).bind λo=>if o.sz=size then some (len,True,(o.rows.drop aa).take len)else none
 | .t (.sl rows)=>some (rows.length,∀r∈rows,r.length=size,aK rows)
 |_=>none
def zZ(T:er)(i:Nat)(t:TypeId)(x y:AV)(cL:j7)(get:Nat->J aU):J Out:=
 (T t).bind λti=>match ti.k with
 | .slice e=>(T e).bind λei=>match cL with
  | .rows rs=>(UY ei.size y get).bind λ(n,ob,an)=>match x with
   | .own k aa len=>(get k).bind λo=>if o.sz=ei.size then
    some ⟨.own (cT i) 0 rs.length,[(cT i,some ⟨ei.size,rs⟩),(k,none)],[ob/\(o.rows.drop aa).length=len/\an.length=n/\rs=o.rows.drop aa++an/\(len+n)*ei.bytes<=140737488355328/\len+n<=maxLen]⟩else none
   | .dc=>some ⟨.own (cT i) 0 rs.length,[(cT i,some ⟨ei.size,rs⟩)],[ob/\an.length=n/\rs=an/\n*ei.bytes<=140737488355328/\n<=maxLen]⟩
   |_=>none
  |_=>none
 |_=>none
def Cv(T:er)(i:Nat)(b:Builtin)(args:U AV)(c7:U TypeId)(cL:j7)(get:Nat->J aU):J Out:=
 match b,args,c7 with
 | .len,[x],[t]=>AH T t x cL
 | .max,args,_=>G2 true args
 | .min,args,_=>G2 false args
 | .append,[x,y],[t,u]=>if t=u then zZ T i t x y cL get else none
 |_,_,_=>none
def L0(t:Bool)(x y:AV):AV:=
 match x,y with
 | .t (.sc (.bool p)),.t (.sc (.bool q))=> .t (.sc (.bool (bif t then p else q)))
 | .t (.sc (.int k p)),.t (.sc (.int k' q))=>if k=k' then .t (.sc (.int k (bif t then p else q)))else bif t then x else y
 |_,_=>bif t then x else y
theorem UZ(t:Bool)(x y:AV):L0 t x y=if t=true then x else y:=by
 unfold L0;split
 .cases t<;>rfl
 .split
  .rename_i h;subst h;cases t<;>rfl
  .cases t<;>rfl
 .cases t<;>rfl
def ql(T:er)(i:Nat)(o:Oper)(cL:j7)(ρ:Operand->AV)(get:Nat->J aU):J Out:=
 match o.op with
 | .move x=>pv (ρ x)
 | .assign x=>pv (ρ x)
 | .pick c a b=>match ρ c with | .t (.sc (.bool t))=>pv (L0 t (ρ a) (ρ b)) |_=>none
 | .alloc e=>UW T i e
 | .box _ x=>Lo i (ρ x)
 | .build t parts=>UU T t (parts.toList.map λ(j,x)=>(j,ρ x))
 | .buildSlice t len parts=>vW T i t len (parts.toList.map λ(j,x)=>(j,ρ x)) (match cL with | .row _=>true |_=>false)
 | .load t a=>K6 T t (ρ a) cL get
 | .store t a x=>UQ T t (ρ a) (ρ x) cL get
 | .binOp op t x y _=>Yw T op t (ρ x) (ρ y)
 | .unOp op _ x=>QP op (ρ x)
 | .makeFunc (.func f) first caps=>pv (.fn f (first.toList.map ρ) (caps.toList.map ρ))
 | .slice t x lo hi none=>UX T t (ρ x) (lo.map ρ) (hi.map ρ) cL get
 | .fieldAddr t x f=>yI T t (ρ x) f
 | .field t x f=>UR T t (ρ x) f
 | .indexAddr t x j=>l8 T t (ρ x) (ρ j) cL get
 | .extract x j=>Ht (ρ x) j
 | .call { callee:= .builtin b,args:=args,argTypes:=c7 }=>Cv T i b (args.toList.map ρ) c7.toList cL get
 |_=>none
def sq(P:Program)(w0:World)(O0:kx)(β:Nat->J cV)(I:Nat->Prop)(obj:Nat->J aU)(w:World)(i:Nat)(ab:Out)(r:Result Next):Prop:=
 ∃v' w' β' I',(r= .ok (.value v') w'\/(r= .ok .skip w'/\v'=undef))/\Step β I w (cT i) β' I' w'/\Mem P w0 O0 β' I' (dn obj ab.upd) w'/\VR P β' w' I' ab.v v'
section
variable {P:Program} {T:er} {w0:World} {O0:kx} {β:Nat->Option cV} {I:Nat->Prop} {obj:Nat->Option aU} {w:World} {i:Nat}
theorem sq.pure(h:Mem P w0 O0 β I obj w){x:AV}{ob:U Prop}{v:Value}(hv:VR P β w I x v):sq P w0 O0 β I obj w i ⟨x,[],ob⟩ (.ok (.value v) w):=
 ⟨v,w,β,I,.inl rfl,Step.refl ..,h,hv⟩
theorem bj.length:∀(xs:U AV)(vs:U Value),bj P β w I xs vs->vs.length=xs.length
 |[],[],_=>rfl
 |x::xs,v::vs,h=>by simp only[bj]at h;simp[bj.length xs vs h.2]
 |[],_::_,h=>by simp[bj]at h
 |_::_,[],h=>by simp[bj]at h
theorem bj.get:∀(xs:U AV)(vs:U Value)(j:Nat)(x:AV),bj P β w I xs vs->xs[j]? =some x->∃v,vs[j]? =some v/\VR P β w I x v
 |x::xs,v::vs,0,x',h,hj=>by simp only[bj]at h;simp at hj;subst hj;exact⟨v,rfl,h.1⟩
 |x::xs,v::vs,j+1,x',h,hj=>by simp only[bj]at h;simpa using bj.get xs vs j x' h.2 (by simpa using hj)
 |[],_,_,_,_,hj=>by simp at hj
 |_::_,[],_,_,h,_=>by simp[bj]at h
theorem bj.take:∀(n:Nat)(xs:U AV)(vs:U Value),bj P β w I xs vs->bj P β w I (xs.take n) (vs.take n)
 | 0,_,_,_=>by simp[bj]
 |n+1,[],[],_=>by simp[bj]
 |n+1,x::xs,v::vs,h=>by simp only[bj]at h;simp only[List.take_succ_cons,bj];exact⟨h.1,bj.take n xs vs h.2⟩
 |_+1,[],_::_,h=>by simp[bj]at h
 |_+1,_::_,[],h=>by simp[bj]at h
theorem bj.drop:∀(n:Nat)(xs:U AV)(vs:U Value),bj P β w I xs vs->bj P β w I (xs.drop n) (vs.drop n)
 | 0,_,_,h=>by simpa using h
 |n+1,[],[],_=>by simp[bj]
 |n+1,x::xs,v::vs,h=>by simp only[bj]at h;simpa using bj.drop n xs vs h.2
 |_+1,[],_::_,h=>by simp[bj]at h
 |_+1,_::_,[],h=>by simp[bj]at h
theorem bj.append:∀(xs ys:U AV)(us vs:U Value),bj P β w I xs us->bj P β w I ys vs->bj P β w I (xs++ys) (us++vs)
 |[],ys,[],vs,_,h=>by simpa using h
 |x::xs,ys,u::us,vs,h1,h2=>by simp only[bj]at h1;simp only[cons_append,bj];exact⟨h1.1,bj.append xs ys us vs h1.2 h2⟩
 |[],_,_::_,_,h,_=>by simp[bj]at h
 |_::_,_,[],_,h,_=>by simp[bj]at h
theorem VR.one{x:AV}{v:Value}(hx:o8 x=true)(h:VR P β w I x v):oneCell v:=by
 cases x<;>simp only[VR]at h
 case t x=>
  cases x with
  |sc u=>simp only[TR]at h;rw[h.1];exact h.2
  |sl rows=>simp only[TR]at h;rcases h with ⟨_,_,_,rfl,_⟩ |⟨b,aa,cap,sz,rfl,_⟩<;>exact trivial
 case agg=>simp[o8]at hx
 case eV=>simp[o8]at hx
 case own k aa len=>rcases h with ⟨_,rfl,_⟩ |⟨b,sz,n,cap,a,_,rfl,_⟩<;>exact trivial
 case ptr=>obtain⟨b,sz,n,_,rfl⟩:=h;exact trivial
 case eM=>obtain⟨b,o,rfl,_⟩:=h;exact trivial
 case fn=>obtain⟨fs,cs,rfl,_⟩:=h;exact trivial
 case eo=>obtain⟨f,a,b,rfl,_⟩:=h;exact trivial
 case mp=>obtain⟨b,_,rfl⟩:=h;exact trivial
 case oz=>rcases h with ⟨_,rfl⟩ |⟨_,b,sz,n,cap,a,_,rfl,_⟩<;>exact trivial
 case dc=>subst h;exact trivial
 case ub=>obtain⟨b,rfl⟩:=h;exact trivial
 case undef=>simp[o8]at hx
theorem cells_one{v:Value}(h:oneCell v):v.cells=#[v]:=by cases v<;>first |rfl |exact h.elim
theorem A8{x:AV}{cs:U AV}{v:Value}(hc:cellsOf x=some cs)(h:VR P β w I x v):bj P β w I cs v.cells.toList/\(∀ u∈v.cells.toList,oneCell u):=by
 have single:o8 x=true->cs=[x]->bj P β w I cs v.cells.toList/\(∀ u∈v.cells.toList,oneCell u):=λhk e=>by
  have h1:=VR.one hk h;rw[cells_one h1,e];simp only[bj];exact⟨⟨h,trivial⟩,λu hu=>by simp at hu;rw[hu];exact h1⟩
 cases x<;>simp only[cellsOf,aC,reduceCtorEq]at hc
 case agg cs'=>
  split at hc
  .injection hc with hc;subst hc;rename_i hall;simp only[VR]at h;obtain⟨vs,rfl,hvs⟩:=h;refine⟨hvs,λu hu=>?_⟩;obtain⟨j,hj⟩:=List.getElem?_of_mem hu;have hlen:=bj.length _ _ hvs;have hjl:j<cs'.length:=by
    have:=(dJ.1 hj).1;simp only[Value.cells]at this;omega
   obtain⟨u',hu',hv'⟩:=bj.get _ _ j _ hvs (dU hjl);simp only[Value.cells]at hj;rw[hj]at hu';injection hu' with hu';subst hu';exact VR.one (all_eq_true.1 hall _ (List.getElem_mem hjl)) hv'
  .cases hc
 all_goals exact single rfl hc.symm
theorem VR.cv{v:Value}:VR P β w I (cv v) v:=by
 unfold Gb.cv;split
 .simp[VR]
 .split
  .rename_i h;simp only[VR,TR];exact⟨trivial,sS h⟩
  .simp[VR]
theorem bj.cv:∀(vs:U Value),bj P β w I (vs.map cv) vs
 |[]=>by simp[bj]
 |v::vs=>by simp only[aH,bj];exact⟨VR.cv,bj.cv vs⟩
theorem de.oB(cs:U AV)(vs:U Value)(c:Array Value)(aa:Nat)(h:bj P β w I cs vs)(h1:∀u∈vs,oneCell u)(hc:∀j u,vs[j]? =some u->c[aa+j]? =some u):de P β w I cs c aa:=by
 rw[jy];intro j x hx;obtain⟨v,hv,hr⟩:=bj.get _ _ j x h hx;exact⟨v,hc j v hv,hr,h1 v (dD hv)⟩
theorem de.list:∀(cs:U AV)(c:Array Value)(aa:Nat),de P β w I cs c aa->∃vs:U Value,bj P β w I cs vs/\(∀ u∈vs,oneCell u)/\∀j u,vs[j]? =some u->c[aa+j]? =some u
 |[],_,_,_=>⟨[],by simp[bj],by simp,by simp⟩
 |x::xs,c,aa,⟨⟨v,h1,h2,h3⟩,h4⟩=>by
  have⟨vs,g1,g2,g3⟩:=de.list xs c (aa+1) h4;refine⟨v::vs,by simp only[bj];exact⟨h2,g1⟩,λu hu=>?_,λj u hj=>?_⟩
  .rcases aQ.1 hu with rfl |hu
   .exact h3
   .exact g2 u hu
  .cases j with
   |zero=>simp at hj;subst hj;simpa using h1
   |succ j=>rw[show aa+(j+1)=aa+1+j by omega];exact g3 j u (by simpa using hj)
theorem ea.list:∀(cs:U Tree)(b aa:Nat),ea w I cs b aa->∃vs:U Value,bj P β w I (cs.map AV.t) vs/\∀j u,vs[j]? =some u->w.cell? ⟨b,aa+j,none⟩=some u
 |[],_,_,_=>⟨[],by simp[bj],by simp⟩
 |x::xs,b,aa,h=>by
  simp only[ea]at h;obtain⟨⟨v,h1,h2⟩,h4⟩:=h;have⟨vs,g1,g3⟩:=ea.list xs b (aa+1) h4;refine⟨v::vs,by simp only[aH,bj,VR];exact⟨h2,g1⟩,λj u hj=>?_⟩;cases j with
  |zero=>simp at hj;subst hj;simpa using h1
  |succ j=>rw[show aa+(j+1)=aa+1+j by omega];exact g3 j u (by simpa using hj)
theorem LF{agg:Bool}{size:Nat}{cs:U AV}{v:AV}{vs:U Value}(hp:part' agg size cs=some v)(h:bj P β w I cs vs):cs.length=size/\vs.length=size/\
 (agg=true->VR P β w I v (.agg vs.toArray))/\(agg=false->∃u,vs=[u]/\VR P β w I v u):=by
 unfold part' at hp;split at hp
 .rename_i hl;have hl2:=bj.length _ _ h;refine⟨hl,by omega,?_,?_⟩
  .rintro rfl;simp only[if_true,aC]at hp;subst hp;simp only[VR];exact⟨vs.toArray,rfl,h⟩
  .rintro rfl;simp only[Bool.false_eq_true,if_false]at hp;split at hp
   .split at hp
    .cases hp
     match vs,h with
     |[u],h=>simp only[bj]at h;exact⟨u,rfl,h.1⟩
     |[],h=>simp[bj]at h
     |_::_::_,h=>simp[bj]at h
    .cases hp
   .cases hp
 .cases hp
section types
variable {t:TypeId} {ti:nr} (ht:mj P t ti)
include ht
theorem mj.size:(sizeOf t).run P w= .ok ti.size w:=by
 obtain⟨info,d,z,h1,h2,h3,h4,h5,h6,h7,h8⟩:=ht.ex;simp[sizeOf,typeInfo,h1,h3]
theorem mj.agg:(isAgg t).run P w= .ok ti.agg w:=by
 obtain⟨info,d,z,h1,h2,h3,h4,h5,h6,h7,h8⟩:=ht.ex;rw[<- h7];cases d<;>simp[isAgg,run_underlying h2,s8]
theorem mj.zeroV:∃z,(zeroValue t).run P w= .ok z w/\z.cells.toList=ti.zero:=by
 obtain⟨info,d,z,h1,h2,h3,h4,h5,h6,h7,h8⟩:=ht.ex;exact⟨z,by simp[zeroValue,typeInfo,h1,h5],h6⟩
end types
theorem addr_add(b o n:Nat):(⟨b,o,none⟩:Addr).add n=⟨b,o+n,none⟩:=by unfold Addr.add;split<;>simp_all
theorem Hu{t:TypeId}{ti:nr}(ht:mj P t ti){b o:Nat}{cs:U AV}{v:AV}{vs:U Value}(hp:part' ti.agg ti.size cs=some v)(hr:bj P β w I cs vs)
 (hc:∀j u,vs[j]? =some u->w.cell? ⟨b,o+j,none⟩=some u):∃u,(loadVar t ⟨b,o,none⟩).run P w= .ok u w/\VR P β w I v u:=by
 have⟨h1,h2,h3,h4⟩:=LF hp hr;unfold loadVar;simp only[Sem.run_bind,ht.agg (w:=w),Result.andThen_ok];cases hag:ti.agg with
 |true=>
  refine⟨.agg vs.toArray,?_,h3 hag⟩;simp only[if_true,Sem.run_bind,ht.size (w:=w),Result.andThen_ok];rw[<- h2,run_loadCells_list w ⟨b,o,none⟩ vs (λ j u hj=>by rw[addr_add];exact hc j u hj)];simp
 |false=>
  obtain⟨u,rfl,hu⟩:=h4 hag;refine⟨u,?_,hu⟩;have:=hc 0 u rfl;simp only[Nat.add_zero]at this;simp[this]
theorem Rn(hT:fu P T)(h:Mem P w0 O0 β I obj w){t:TypeId}{x:AV}{cL:j7}{get:Nat->J aU}{ab:Out}{v:Value}(hg:∀k o,get k=some o->obj k=some o)
 (ha:K6 T t x cL get=some ab) (cW:ab.ob) (hx:VR P β w I x v):∃u,(Instr.loadAt t v).run P w= .ok u w/\VR P β w I ab.v u/\ab.upd=[]:=by
 unfold K6 at ha;cases hti:T t with
 |none=>simp[hti]at ha
 |some ti=>
  have ht:=hT t ti hti;simp only[hti,af]at ha;cases x<;>simp only[reduceCtorEq]at ha
  case ptr k row aa=>
   cases hk:get k with
   |none=>simp[hk]at ha
   |some o=>
    simp only[hk,af]at ha;have key:∀r,o.rows[row]? =some r->∀u,part' ti.agg ti.size ((r.drop aa).take ti.size)=some u->∃z,(Instr.loadAt t v).run P w= .ok z w/\VR P β w I u z:=by
     intro r hr u hp;simp only[VR]at hx;obtain⟨b,sz,n,h1,rfl⟩:=hx;have⟨B,hB,hO⟩:=h.cQ k o (hg k o hk);rw[h1]at hB;cases hB;obtain⟨hs,c,e,hc,_,hO⟩:=hO;have h4:=(bp.get row _ _ _ _ _ hO hr).2;obtain⟨vs,g1,g2,g3⟩:=de.list _ _ _ (de.take ti.size _ _ _ (de.drop aa _ _ _ h4));obtain⟨z,hz,hz2⟩:=Hu ht (b:=b) (o:=n.s+row*sz+aa) hp g1 (λ j u hj=>by simp[World.cell?,hc,g3 j u hj]);exact⟨z,by simp[Instr.loadAt,Instr.sureAddr,hz],hz2⟩
    have fin:∀r ob,o.rows[row]? =some r->((part' ti.agg ti.size ((r.drop aa).take ti.size)).bind λv=>some (⟨v,[],ob⟩:Out))=some ab->∃u,(Instr.loadAt t v).run P w= .ok u w/\VR P β w I ab.v u/\ab.upd=[]:=by
     intro r ob hr hh;cases hp:part' ti.agg ti.size ((r.drop aa).take ti.size)with
     |none=>simp[hp]at hh
     |some u=>
      simp only[hp,af,aC]at hh;subst hh;have⟨z,hz⟩:=key r hr u hp;exact⟨z,hz.1,hz.2,rfl⟩
    cases cL
    case row r=>
     have hr:o.rows[row]? =some r:=by
      cases hp:part' ti.agg ti.size ((r.drop aa).take ti.size)with
      |none=>simp[hp]at ha
      |some u=>simp only[hp,af,mT,aC]at ha;subst ha;exact cW
     exact fin r _ hr ha
    all_goals
     cases hr:o.rows[row]? with
     |none=>simp[hr]at ha
     |some r=>
      simp only[hr,af]at ha;exact fin r _ hr ha
  case eM r aa=>
   cases hp:part' ti.agg ti.size (((r.drop aa).take ti.size).map AV.t)with
   |none=>rw[hp]at ha;simp at ha
   |some u=>
    simp only[hp,af,pv,aC]at ha;subst ha;simp only[VR]at hx;obtain⟨b,o,rfl,hI,hr⟩:=hx;have hdrop:∀(n:Nat) (r:U Tree) (o:Nat),ea w I r b o->ea w I (r.drop n) b (o+n):=by
     intro n
     induction n with
     |zero=>intro r o h;simpa using h
     |succ n ih=>intro r o h;cases r with
      |nil=>simp[ea]
      |cons x xs=>simp only[ea]at h;rw[List.drop_succ_cons,show o+(n+1)=o+1+n by omega];exact ih xs (o+1) h.2
    have htake:∀(n:Nat) (r:U Tree) (o:Nat),ea w I r b o->ea w I (r.take n) b o:=by
     intro n
     induction n with
     |zero=>intro r o h;simp[ea]
     |succ n ih=>intro r o h;cases r with
      |nil=>simp[ea]
      |cons x xs=>simp only[ea]at h;simp only[List.take_succ_cons,ea];exact⟨h.1,ih xs (o+1) h.2⟩
    obtain⟨vs,g1,g3⟩:=ea.list (P:=P) (β:=β) _ _ _ (htake ti.size _ _ (hdrop aa r o hr));have⟨z,hz,hz2⟩:=Hu ht (b:=b) (o:=o+aa) hp g1 g3;exact⟨z,by simp[Instr.loadAt,Instr.sureAddr,hz],hz2,rfl⟩
theorem ac3(r:U AV)(aa:Nat)(cs:U AV)(h:aa+cs.length<=r.length):(put' r aa cs).length=r.length:=by simp[put',length_take,length_drop];omega
theorem ak7(r:U AV)(aa:Nat)(cs:U AV)(h:aa+cs.length<=r.length)(j:Nat):(put' r aa cs)[j]? =if j<aa then r[j]? else if j<aa+cs.length then cs[j -aa]? else r[j]? :=by
 unfold put';have h1:(r.take aa).length=aa:=by simp[length_take];omega
 split
 .rw[aO,List.getElem?_append_left (by omega),List.getElem?_take];simp[*]
 .split
  .rw[aO,jD (by omega),h1,List.getElem?_append_left (by omega)]
  .rw[jD (by simp;omega)];simp only[dP,h1,List.getElem?_drop];congr 1;omega
theorem Ps(h:Mem P w0 O0 β I obj w){t:TypeId}{ti:nr}(ht:mj P t ti){k:Nat}{o:aU}{b sz:Nat}{n:Ex}(hk:obj k=some o)(hβ:β k=some (.at b sz n))
 {row aa:Nat} {r:U AV} {cs:U AV} {v:Value} (hr:o.rows[row]? =some r) (hl:aa+cs.length<=r.length) (hlen:cs.length=ti.size) (hcs:bj P β w I cs v.cells.toList) (h1:∀u∈v.cells.toList,oneCell u):
 ∃w',(storeVar t ⟨b,n.s+row*sz+aa,none⟩ v).run P w= .ok () w'/\Same I w w'/\Mem P w0 O0 β I (dn obj [(k,some ⟨o.sz,o.rows.set row (put' r aa cs)⟩)]) w':=by
 have⟨B,hB,hO⟩:=h.cQ k o hk;rw[hβ]at hB;cases hB;obtain⟨hs,c,e,hc,hn,hO⟩:=hO;have hO':=hO;rw[oG]at hO;have hrow:=hO row r hr;have hvl:=bj.length _ _ hcs;have hfit:n.s+row*sz+aa+cs.length<=c.size:=by
  by_cases h0:r.length=0
  .have:aa+cs.length=0:=(by omega);have hz:sz=0:=(by omega);have:row*sz=0:=(by rw[hz];simp);have:=n.h;omega
  .have hlast:=(jy _ _ _).1 hrow.2 (r.length -1) _ (dU (by omega));obtain⟨u,hu,_⟩:=hlast;have:=(Array.getElem?_eq_some_iff.1 hu).1;omega
 have hst:=run_storeCells_at P b (n.s+row*sz+aa) e v.cells.toList 0 c w hc (by omega) (λ u hu=>by
  have:=h1 u hu;cases u<;>first |rfl |exact this.elim)
 simp only[Nat.add_zero]at hst;generalize hc':(List.take (n.s+row*sz+aa) c.toList++v.cells.toList++List.drop (n.s+row*sz+aa+v.cells.toList.length) c.toList).toArray=c' at hst;have hsize:c'.size=c.size:=by rw[<- hc'];simp[length_take,length_drop];simp at hvl;omega
 refine⟨w.setRow b c',?_,?_⟩
 .unfold storeVar;simp only[Sem.run_bind,ht.size (w:=w),Result.andThen_ok];rw[aT (by rw[<- Array.length_toList];omega)];simp only[hst]
 .have hget:∀j,c'[j]? =if j<n.s+row*sz+aa then c[j]? else if j<n.s+row*sz+aa+cs.length then v.cells.toList[j -(n.s+row*sz+aa)]? else c[j]? :=by
   intro j;rw[<- hc'];have h1:(c.toList.take (n.s+row*sz+aa)).length=n.s+row*sz+aa:=(by simp[length_take];omega);simp only[List.getElem?_toArray];split
   .rw[aO,List.getElem?_append_left (by omega),List.getElem?_take,aZ (by omega)];simp
   .split
    .rw[aO,jD (by omega),h1,List.getElem?_append_left (by omega)]
    .rw[jD (by simp only[dP,h1];omega)];simp only[dP,h1,List.getElem?_drop,Array.getElem?_toList];congr 1;omega
  refine Mem.write h hk hβ (c':=c') (e:=e) (setRow_heap w b c c' e (0,0) hc) (λ b' hb=>setRow_other w b b' c' hb) (by simp) rfl rfl rfl hs (by omega) ?_;rw[<- hs,oG];simp only;intro i' r' hi';rw[List.getElem?_set]at hi';have other:∀(i':Nat)(r':U AV),i'≠row->o.rows[i']? =some r'->r'.length=sz/\de P β w I r' c' (n.s+i'*sz):=by
   intro i' r' hne hi';have hh:=hO i' r' hi';refine⟨hh.1,?_⟩;rw[jy];intro j x hx;obtain⟨u,hu⟩:=(jy _ _ _).1 hh.2 j x hx;have hj:j<sz:=(by have:=(dJ.1 hx).1;omega);refine⟨u,?_,hu.2⟩;rw[hget];rcases Nat.lt_or_gt_of_ne hne with hlt |hgt
   .have:(i'+1)*sz<=row*sz:=Nat.mul_le_mul_right _ hlt;rw[Nat.add_mul]at this;rw[aZ (by omega)];exact hu.1
   .have:(row+1)*sz<=i'*sz:=Nat.mul_le_mul_right _ hgt;rw[Nat.add_mul]at this;rw[aT (by omega),aT (by omega)];exact hu.1
  split at hi'
  .rename_i hrow';subst hrow';split at hi'
   .injection hi' with hi';subst hi';refine⟨by rw[ac3 r aa cs hl];exact hrow.1,?_⟩;rw[jy];intro j x hx;rw[ak7 r aa cs hl]at hx;rw[hget];split at hx
    .rw[aZ (by omega)];exact(jy _ _ _).1 hrow.2 j x hx
    .split at hx
     .obtain⟨u,hu,hr2⟩:=bj.get _ _ _ _ hcs hx;rw[aT (by omega),aZ (by omega)];refine⟨u,?_,hr2,h1 u (dD hu)⟩;rw[<- hu];congr 1;omega
     .rw[aT (by omega),aT (by omega)];exact(jy _ _ _).1 hrow.2 j x hx
   .cases hi'
  .exact other i' r' (by omega) hi'
theorem aaW(hT:fu P T)(h:Mem P w0 O0 β I obj w){t:TypeId}{x y:AV}{cL:j7}{get:Nat->J aU}{ab:Out}{v u:Value}(hg:∀k o,get k=some o->obj k=some o)
 (ha:UQ T t x y cL get=some ab) (cW:ab.ob) (hx:VR P β w I x v) (hy:VR P β w I y u):
 ∃w',(Instr.storeAt t v u).run P w= .ok () w'/\Same I w w'/\Mem P w0 O0 β I (dn obj ab.upd) w'/\ab.v= .undef:=by
 unfold UQ at ha;cases hti:T t with
 |none=>simp[hti]at ha
 |some ti=>
  have ht:=hT t ti hti;simp only[hti,af]at ha;cases hcs:cellsOf y with
  |none=>simp[hcs]at ha
  |some cs=>
   simp only[hcs,af]at ha;have⟨hv1,hv2⟩:=A8 hcs hy;split at ha
   .rename_i hlen;cases x<;>simp only[reduceCtorEq]at ha
    case ptr k row aa=>
     cases hk:get k with
     |none=>simp[hk]at ha
     |some o=>
      simp only[hk,af]at ha;simp only[VR]at hx;obtain⟨b,sz,n,hβ,rfl⟩:=hx;have fin:∀r,o.rows[row]? =some r->aa+cs.length<=r.length->∃w',(Instr.storeAt t (.pointer (some ⟨b,n.s+row*sz+aa,none⟩)) u).run P w= .ok () w'/\Same I w w'/\Mem P w0 O0 β I (dn obj [(k,some ⟨o.sz,o.rows.set row (put' r aa cs)⟩)]) w':=by
       intro r hr hl;have⟨w',h1,h2,h3⟩:=Ps h ht (hg k o hk) hβ hr hl hlen hv1 hv2;exact⟨w',by simp[Instr.storeAt,Instr.sureAddr,h1],h2,h3⟩
      cases cL
      case set r rs=>
       simp only at ha;split at ha
       .rename_i hl;cases ha;obtain⟨hr,hrs⟩:=cW;have⟨w',h1,h2,h3⟩:=fin r hr hl;subst hrs;exact⟨w',h1,h2,h3.wx,rfl⟩
       .cases ha
      all_goals
       cases hr:o.rows[row]? with
       |none=>simp[hr]at ha
       |some r=>
        simp only[hr,af]at ha;split at ha
        .rename_i hl;cases ha;have⟨w',h1,h2,h3⟩:=fin r hr hl;exact⟨w',h1,h2,h3,rfl⟩
        .cases ha
   .cases ha
end
section
variable {P:Program} {T:er} {w0:World} {O0:kx} {β:Nat->Option cV} {I:Nat->Prop} {obj:Nat->Option aU} {w:World} {i:Nat}
theorem MN(h:Mem P w0 O0 β I obj w)(hn:β (cT i)=none){e:TypeId}{v:Value}{cs:U AV}(hcs:bj P β w I cs v.cells.toList)(h1:∀u∈v.cells.toList,oneCell u):
 ∃w' β',(newVar e v).run P w= .ok ⟨w.heap.size,0,none⟩ w'/\Step β I w (cT i) β' I w'/\Mem P w0 O0 β' I (dn obj [(cT i,some ⟨cs.length,[cs]⟩)]) w'/\VR P β' w' I (.ptr (cT i) 0 0) (.pointer (some ⟨w.heap.size,0,none⟩)):=by
 obtain⟨hS,hM⟩:=Mem.alloc (o:=⟨cs.length,[cs]⟩) (c:=v.cells) (e:=e) h hn (by
  simp only[bp,and_true,true_and];exact de.oB cs _ _ 0 hcs h1 (λ j u hj=>by simpa using hj))
 refine⟨_,_,?_,hS,hM,?_⟩
 .simp only[newVar,newRow,Sem.run_bind,run_newObj,Result.andThen_ok,Sem.run_pure];rfl
 .simp only[VR];exact⟨w.heap.size,cs.length,_,by simp[ins];rfl,by simp⟩
theorem aaX(hT:fu P T)(h:Mem P w0 O0 β I obj w)(hn:β (cT i)=none){e:TypeId}{ab:Out}(ha:UW T i e=some ab):
 ∃u w' β',(Instr.alloc e true (.tuple #[])).run P w= .ok u w'/\Step β I w (cT i) β' I w'/\Mem P w0 O0 β' I (dn obj ab.upd) w'/\VR P β' w' I ab.v u:=by
 unfold UW at ha;cases hti:T e with
 |none=>simp[hti]at ha
 |some ti=>
  have ht:=hT e ti hti;simp only[hti,af,aC]at ha;subst ha;have⟨z,hz,hz2⟩:=ht.zeroV (w:=w);obtain⟨w',β',h1,h2,h3,h4⟩:=MN (i:=i) (e:=e) (v:=z) (cs:=ti.zero.map cv) h hn (by rw[hz2];exact bj.cv _) (λ u hu=>sS (all_eq_true.1 ht.one u (hz2 ▸ hu)));have hl:(ti.zero.map cv).length=ti.size:=by simp[ht.len]
  rw[hl]at h3;exact⟨_,w',β',by simp[Instr.alloc,hz,h1],h2,h3,h4⟩
theorem afT(h:Mem P w0 O0 β I obj w)(hn:β (cT i)=none){e:TypeId}{x:AV}{v:Value}{ab:Out}(ha:Lo i x=some ab)(hx:VR P β w I x v):
 ∃u w' β',(Instr.box e v).run P w= .ok u w'/\Step β I w (cT i) β' I w'/\Mem P w0 O0 β' I (dn obj ab.upd) w'/\VR P β' w' I ab.v u:=by
 unfold Lo at ha;cases hcs:cellsOf x with
 |none=>simp[hcs]at ha
 |some cs=>
  simp only[hcs,af,aC]at ha;subst ha;have⟨hv1,hv2⟩:=A8 hcs hx;have⟨w',β',h1,h2,h3,h4⟩:=MN (i:=i) (e:=e) h hn hv1 hv2;exact⟨_,w',β',by simp[Instr.box,h1],h2,h3,h4⟩
theorem ac4(hT:fu P T){t:TypeId}{f aa:Nat}{ui:nr}(hf:zY T t f=some (aa,ui)):
 ∃(fa:Array Field)(fd:Field),P.underlying t=some (.struct fa)/\fa[f]? =some fd/\fd.offset=aa/\mj P fd.type ui/\ui.size≠0:=by
 unfold zY at hf;cases hti:T t with
 |none=>simp[hti]at hf
 |some ti=>
  have ht:=hT t ti hti;simp only[hti,af]at hf;cases hk:ti.k<;>simp only[hk,reduceCtorEq]at hf
  case struct fs=>
   cases hj:fs[f]? with
   |none=>simp[hj]at hf
   |some p=>
    obtain⟨o,u⟩:=p;simp only[hj,af]at hf;cases hu:T u with
    |none=>simp[hu]at hf
    |some ui'=>
     simp only[hu,af]at hf;split at hf
     .cases hf
     .rename_i hne;simp only[aC,Prod.mk.injEq]at hf;obtain⟨rfl,rfl⟩:=hf;obtain⟨info,d,z,h1,h2,h3,h4,h5,h6,h7,h8⟩:=ht.ex;rw[hk]at h8;obtain⟨fa,rfl,hfs⟩:=h8;rw[<- hfs]at hj;simp only[List.getElem?_map,Array.getElem?_toList,dQ,Prod.mk.injEq]at hj;obtain⟨fd,g1,g2,g3⟩:=hj;exact⟨fa,fd,h2,g1,g2,g3 ▸ hT u _ hu,hne⟩
theorem Pv(hT:fu P T){t:TypeId}{x:AV}{f:Nat}{v:Value}{ab:Out}(ha:yI T t x f=some ab)(hx:VR P β w I x v):
 ∃u,(Instr.fieldAt t v f).run P w= .ok u w/\VR P β w I ab.v u/\ab.upd=[]:=by
 unfold yI at ha;cases hf:zY T t f with
 |none=>simp[hf]at ha
 |some p=>
  obtain⟨d,ui⟩:=p;simp only[hf,af]at ha;have⟨fa,fd,h1,h2,h3,h4,h5⟩:=ac4 hT hf;have hrun:∀b o,(Instr.fieldAt t (.pointer (some ⟨b,o,none⟩)) f).run P w= .ok (.pointer (some ⟨b,o+d,none⟩)) w:=λb o=>by simp[Instr.fieldAt,run_underlying h1,h2,Instr.sureAddr,fieldPlace,h4.size (w:=w),h5,h3,addr_add]
  cases x<;>simp only[reduceCtorEq]at ha
  case ptr k row aa=>
   simp only[pv,aC]at ha;subst ha;simp only[VR]at hx ⊢;obtain⟨b,sz,n,g1,rfl⟩:=hx;exact⟨_,hrun _ _,⟨b,sz,n,g1,by rw[Nat.add_assoc]⟩,trivial⟩
  case eM r aa=>
   simp only[pv,aC]at ha;subst ha;simp only[VR]at hx ⊢;obtain⟨b,o,rfl,g1,g2⟩:=hx;exact⟨_,hrun _ _,⟨b,o,by rw[Nat.add_assoc],g1,g2⟩,trivial⟩
theorem ac5{t:TypeId}{ti:nr}(ht:mj P t ti){cs:U AV}{vs:U Value}{d:Nat}{v:AV}(hp:part' ti.agg ti.size ((cs.drop d).take ti.size)=some v)(hr:bj P β w I cs vs):
 ∃u,(part t vs.toArray d).run P w= .ok u w/\VR P β w I v u:=by
 obtain⟨h1,h2,h3,h4⟩:=LF hp (bj.take ti.size _ _ (bj.drop d _ _ hr));unfold Go.part;simp only[Sem.run_bind,ht.agg (w:=w),Result.andThen_ok];cases hag:ti.agg with
 |true=>
  refine⟨.agg ((vs.drop d).take ti.size).toArray,?_,h3 hag⟩;simp only[if_true,Sem.run_bind,ht.size (w:=w),Result.andThen_ok,Sem.run_pure];congr 2;apply Array.ext';simp[List.extract_eq_take_drop]
 |false=>
  have⟨u,hu,hv⟩:=h4 hag;refine⟨u,?_,hv⟩;have:vs[d]? =some u:=by
   have h5:((vs.drop d).take ti.size)[0]? =some u:=(by rw[hu];rfl);rw[List.getElem?_take]at h5;split at h5
   .simpa using h5
   .cases h5
  simp[this]
theorem aaY(hT:fu P T){t:TypeId}{x:AV}{f:Nat}{v:Value}{ab:Out}(ha:UR T t x f=some ab)(hx:VR P β w I x v):
 ∃u,(Instr.field t v f).run P w= .ok u w/\VR P β w I ab.v u/\ab.upd=[]:=by
 unfold UR at ha;cases hf:zY T t f with
 |none=>simp[hf]at ha
 |some p=>
  obtain⟨d,ui⟩:=p;simp only[hf,af]at ha;have⟨fa,fd,h1,h2,h3,h4,h5⟩:=ac4 hT hf;cases x<;>simp only[reduceCtorEq]at ha
  case agg cs=>
   cases hp:part' ui.agg ui.size ((cs.drop d).take ui.size)with
   |none=>simp[hp]at ha
   |some y=>
    simp only[hp,af,pv,aC]at ha;subst ha;simp only[VR]at hx;obtain⟨vs,rfl,hvs⟩:=hx;have⟨u,hu,hv⟩:=ac5 h4 hp hvs;refine⟨u,?_,hv,rfl⟩;simp[Instr.field,run_underlying h1,h2,h3,asAgg];simpa using hu
theorem cJ.get{b sz:Nat}:∀(n:Nat)(rows:U (List Tree))(aa:Nat)(r:U Tree),cJ w I rows b aa sz->rows[n]? =some r->r.length=sz/\ea w I r b (aa+n*sz)
 | 0,r::rs,aa,r',h,hn=>by simp only[cJ]at h;simp at hn;subst hn;exact⟨h.1,by simpa using h.2.1⟩
 |n+1,r::rs,aa,r',h,hn=>by
  simp only[cJ]at h;have:=cJ.get n rs (aa+sz) r' h.2.2 (by simpa using hn);rw[show aa+(n+1)*sz=aa+sz+n*sz by rw[Nat.add_mul];omega];exact this
 |_,[],_,_,_,hn=>by simp at hn
theorem gY{t e:TypeId}{ti:nr}(ht:mj P t ti)(hk:ti.k= .slice e):P.underlying t=some (.slice e):=by
 obtain⟨info,d,z,h1,h2,h3,h4,h5,h6,h7,h8⟩:=ht.ex;rw[hk]at h8;rw[h2,h8]
theorem MO{t e:TypeId}{n:Nat}{ti:nr}(ht:mj P t ti)(hk:ti.k= .arr n e):P.underlying t=some (.array n e):=by
 obtain⟨info,d,z,h1,h2,h3,h4,h5,h6,h7,h8⟩:=ht.ex;rw[hk]at h8;rw[h2,h8]
theorem Pw(hT:fu P T)(h:Mem P w0 O0 β I obj w){t:TypeId}{x j:AV}{cL:j7}{get:Nat->J aU}{v u:Value}{ab:Out}(hg:∀k o,get k=some o->obj k=some o)
 (ha:l8 T t x j cL get=some ab) (cW:ab.ob) (hx:VR P β w I x v) (hj:VR P β w I j u):
 ∃z,(Instr.indexAt t v u).run P w= .ok z w/\VR P β w I ab.v z/\ab.upd=[]:=by
 unfold l8 at ha;cases hti:T t with
 |none=>simp[hti]at ha
 |some ti=>
  have ht:=hT t ti hti;simp only[hti,af]at ha;split at ha
  .rename_i e kd n hk;simp only[VR,TR]at hj;obtain⟨rfl,_⟩:=hj;have fj:=gY ht hk;cases fL:T e with
   |none=>simp[fL]at ha
   |some ei=>
    have he:=hT e ei fL;simp only[fL,af]at ha;have hrun:∀(b o len cap:Nat),0<=n->n.toNat<len->(Instr.indexAt t (.slice (some ⟨b,o,none⟩) len cap) (.int kd n)).run P w= .ok (.pointer (some ⟨b,o+n.toNat*ei.size,none⟩)) w:=by
     intro b o len cap h0 h1;have h2:n<(len:Int):=(by omega);simp[Instr.indexAt,asIntOf,run_underlying fj,h0,h2,he.size (w:=w),addr_add]
    split at ha
    .rename_i rows r;split at ha
     .rename_i hlen;simp only[mT,aC]at ha;subst ha;obtain⟨h0,hr⟩:=cW;simp only[VR,TR]at hx;rcases hx with ⟨rfl,_⟩ |⟨b,aa,cap,sz,rfl,h1,h2,h3⟩
      .simp at hr
      .have hlt:=(dJ.1 hr).1;obtain⟨g1,g2⟩:=cJ.get _ _ _ _ h3 hr;refine⟨_,hrun _ _ _ _ h0 hlt,?_,rfl⟩;simp only[VR];exact⟨b,aa+n.toNat*sz,by rw[<- g1,hlen];rfl,h2,g2⟩
     .cases ha
    .rename_i k aa len;cases hk2:get k with
     |none=>simp[hk2]at ha
     |some o=>
      simp only[hk2,af]at ha;split at ha
      .rename_i hsz;simp only[mT,aC]at ha;subst ha;obtain⟨h0,hlt⟩:=cW;simp only[VR]at hx ⊢;rcases hx with ⟨_,_,_,rfl⟩ |⟨b,sz,m,cap,a,h1,rfl,h2,h3,h4⟩
       .omega
       .have⟨B,hB,hO⟩:=h.cQ k o (hg k o hk2);rw[h1]at hB;cases hB;have hs:sz=o.sz:=hO.1;refine⟨_,hrun _ _ _ _ h0 hlt,⟨b,sz,m,h1,?_⟩,trivial⟩;rw[h4 (by omega),hs,hsz,Nat.add_mul,Nat.add_assoc];rfl
      .cases ha
    .cases ha
  .rename_i m e kd n hk;simp only[VR,TR]at hj;obtain⟨rfl,_⟩:=hj;have fj:=MO ht hk;cases fL:T e with
   |none=>simp[fL]at ha
   |some ei=>
    have he:=hT e ei fL;simp only[fL,af]at ha;have hrun:∀(b o:Nat),0<=n->n.toNat<m->(Instr.indexAt t (.pointer (some ⟨b,o,none⟩)) (.int kd n)).run P w= .ok (.pointer (some ⟨b,o+n.toNat*ei.size,none⟩)) w:=by
     intro b o h0 h1;have h2:n<(m:Int):=(by omega);simp[Instr.indexAt,asIntOf,run_underlying fj,Instr.sureAddr,h0,h2,he.size (w:=w),addr_add]
    cases x<;>simp only[reduceCtorEq]at ha
    case ptr k row aa=>
     simp only[mT,aC]at ha;subst ha;simp only[VR]at hx ⊢;obtain⟨b,sz,q,g1,rfl⟩:=hx;exact⟨_,hrun _ _ cW.1 cW.2,⟨b,sz,q,g1,by rw[Nat.add_assoc]⟩,trivial⟩
    case eM r aa=>
     simp only[mT,aC]at ha;subst ha;simp only[VR]at hx ⊢;obtain⟨b,o,rfl,g1,g2⟩:=hx;exact⟨_,hrun _ _ cW.1 cW.2,⟨b,o,by rw[Nat.add_assoc],g1,g2⟩,trivial⟩
  .cases ha
theorem U0{x:AV}{j:Nat}{v:Value}{ab:Out}(ha:Ht x j=some ab)(hx:VR P β w I x v):∃u,(Instr.extract v j).run P w= .ok u w/\VR P β w I ab.v u/\ab.upd=[]:=by
 unfold Ht at ha;split at ha
 .rename_i vs;simp only[VR]at hx;obtain⟨us,rfl,y6⟩:=hx;cases hj:vs[j]? with
  |none=>simp[hj]at ha
  |some y=>
   simp only[hj,af,pv,aC]at ha;subst ha;obtain⟨u,hu,hv⟩:=bj.get _ _ j y y6 hj;refine⟨u,?_,hv,rfl⟩;have:us[j]? =some u:=(by simpa using hu);simp[Instr.extract,this]
 .cases ha
end
section
variable {P:Program} {T:er} {w0:World} {O0:kx} {β:Nat->Option cV} {I:Nat->Prop} {obj:Nat->Option aU} {w:World} {i:Nat}
theorem aaZ{op:BinOp}{t:TypeId}{k yk:IntKind}{a b:Int}{v:Value}{ob:U Prop}(hk:k=yk\/op= .shl\/op= .shr)(h:UO op k a b=some (v,ob))(cW:jq ob):
 (binOp op t (.int k a) (.int yk b)).run P w= .ok v w/\oneCell v:=by
 cases op<;>simp only[UO,aC,Prod.mk.injEq]at h<;>obtain⟨rfl,rfl⟩:=h
 case shl=>exact⟨by rw[binOp_shl,shift_shl k yk a b cW.1 cW.2];simp,trivial⟩
 case shr=>exact⟨by rw[binOp_shr,shift_shr k yk a b cW.1 cW.2];simp,trivial⟩
 all_goals
  have hk':k=yk:=by rcases hk with h |h |h<;>first |exact h |cases h
  subst hk'
 case add=>exact⟨by simp[binOp_add,Op.intArith],trivial⟩
 case sub=>exact⟨by simp[binOp_sub,Op.intArith],trivial⟩
 case mul=>exact⟨by simp[binOp_mul,Op.intArith],trivial⟩
 case quo=>exact⟨by have h0:b≠0:=cW;rw[binOp_quo];simp[Op.intDiv,h0],trivial⟩
 case rem=>exact⟨by have h0:b≠0:=cW;rw[binOp_rem];simp[Op.intDiv,h0],trivial⟩
 case and=>exact⟨by rw[binOp_and,intBits_and];simp,trivial⟩
 case or=>exact⟨by rw[binOp_or,intBits_or];simp,trivial⟩
 case xor=>exact⟨by rw[binOp_xor,intBits_xor];simp,trivial⟩
 case andNot=>exact⟨by rw[binOp_andNot,intBits_andNot];simp,trivial⟩
 case eql=>exact⟨by rw[binOp_eql];simp,trivial⟩
 case neq=>exact⟨by rw[binOp_neq];simp,trivial⟩
 case lss=>exact⟨by rw[binOp_lss];simp,trivial⟩
 case leq=>exact⟨by rw[binOp_leq];simp,trivial⟩
 case gtr=>exact⟨by rw[binOp_gtr];simp,trivial⟩
 case geq=>exact⟨by rw[binOp_geq];simp,trivial⟩
theorem aa0{f:Field}{kd:Nat}{x y:AV}{b:Bool}{u v:Value}(hf:UN P f kd=true)(h:LD kd x y=some b)(hx:VR P β w I x u)(hy:VR P β w I y v)(d:Nat):
 (Op.equalIn (d + 1) f.type u v).run P w = .ok b w /\ f.name ≠ "_" /\ (isAgg f.type).run P w = .ok false w := by
 unfold UN at hf;simp only[aN,bne_iff_ne,ne_eq]at hf;obtain⟨hname,hf⟩:=hf;unfold LD at h;split at h
 .split at h
  .rename_i hk;subst hk;cases h;simp only[VR,TR]at hx hy;obtain⟨rfl,_⟩:=hx;obtain⟨rfl,_⟩:=hy;split at hf<;>first |(rename_i hu;exact⟨run_equalIn_int w d _ _ _ _ _ hu,hname,by simp[isAgg,run_underlying hu]⟩) |(simp at hf)
  .cases h
 .cases h;simp only[VR,TR]at hx hy;obtain⟨rfl,_⟩:=hx;obtain⟨rfl,_⟩:=hy;split at hf<;>first |(rename_i hu;exact⟨run_equalIn_bool w d _ _ _ hu,hname,by simp[isAgg,run_underlying hu]⟩) |(simp at hf)
 .cases h;simp only[VR,TR]at hx hy;obtain⟨rfl,_⟩:=hx;obtain⟨rfl,_⟩:=hy;split at hf<;>first |(rename_i hu;exact⟨run_equalIn_string w d _ _ _ hu,hname,by simp[isAgg,run_underlying hu]⟩) |(simp at hf)
 .cases h
theorem K7(d:Nat)(us vs:U Value):∀(fs:U Field)(ks:U Nat)(n:Nat)(xs ys:U AV)(b:Bool),gh P n fs ks=true->sU ks xs ys=some b->
 bj P β w I xs (us.drop n)->bj P β w I ys (vs.drop n)->(Op.eqFields (d+1) us.toArray vs.toArray fs).run P w= .ok b w
 |[],[],n,xs,ys,b,_,h,_,_=>by
  cases xs<;>cases ys<;>simp[sU]at h;subst h;simp[Op.eqFields]
 |f::fs,k::ks,n,xs,ys,b,hc,h,hx,hy=>by
  cases xs<;>cases ys<;>simp only[sU,reduceCtorEq]at h;rename_i x xs y ys;simp only[gh,aN,beq_iff_eq]at hc;obtain⟨⟨hoff,hcf⟩,hrest⟩:=hc;cases h1:LD k x y with
  |none=>simp[h1]at h
  |some a=>
   cases h2:sU ks xs ys with
   |none=>simp[h1,h2]at h
   |some c=>
    simp only[h1,h2,af,aC]at h;subst h;have yW:∀(us:U Value) (xs:U AV) (x:AV),bj P β w I (x::xs) (us.drop n)->∃u,us[n]? =some u/\VR P β w I x u/\bj P β w I xs (us.drop (n+1)):=by
     intro us xs x hx;have hlt:n<us.length:=by
      have:=bj.length _ _ hx;simp at this;omega
     rw[List.drop_eq_getElem_cons hlt]at hx;simp only[bj]at hx;exact⟨us[n],dU hlt,hx.1,hx.2⟩
    obtain⟨u,hu,hxu,hxs⟩:=yW us xs x hx;obtain⟨v,hv,hyv,hys⟩:=yW vs ys y hy;have⟨e1,e2,e3⟩:=aa0 hcf h1 hxu hyv d;have ih:=K7 d us vs fs ks (n+1) xs ys c hrest h2 hxs hys;have hp:∀(zs:U Value) (z:Value),zs[n]? =some z->(Go.part f.type zs.toArray f.offset).run P w= .ok z w:=by
     intro zs z hz;simp[Go.part,e3,hoff,hz]
    simp only[Op.eqFields,e2,ne_eq,not_false_eq_true,if_true,Sem.run_bind,hp us u hu,hp vs v hv,Result.andThen_ok,e1,Sem.run_ite,Sem.run_pure,ih];cases a<;>simp
 |[],_::_,_,_,_,_,hc,_,_,_=>by simp[gh]at hc
 |_::_,[],_,_,_,_,hc,_,_,_=>by simp[gh]at hc
theorem afU(hT:fu P T){op:BinOp}{t:TypeId}{x y:AV}{xo yo:Operand}{u v:Value}{ab:Out}(ha:Yw T op t x y=some ab)(cW:ab.ob)(hx:VR P β w I x u)(hy:VR P β w I y v):
 ∃z,(do eqGuard op t xo yo u v;binOp op t u v:Sem Value).run P w= .ok z w/\VR P β w I ab.v z/\ab.upd=[]:=by
 unfold Yw at ha;split at ha
 .rename_i k a yk b;simp only[VR,TR]at hx hy;obtain⟨rfl,_⟩:=hx;obtain⟨rfl,_⟩:=hy;split at ha
  .rename_i hk;cases har:UO op k a b with
   |none=>simp[har]at ha
   |some p=>
    obtain⟨z,ob⟩:=p;simp only[har,af,aC]at ha;subst ha;have⟨h1,h2⟩:=aaZ (P:=P) (w:=w) (t:=t) hk har cW;exact⟨z,by simp[eqGuard_at_int,h1],by simp only[VR,TR];exact⟨trivial,h2⟩,rfl⟩
  .cases ha
 .rename_i a b;simp only[VR,TR]at hx hy;obtain⟨rfl,_⟩:=hx;obtain⟨rfl,_⟩:=hy;cases op<;>simp only[pv,mT,aC,reduceCtorEq]at ha<;>subst ha
  .have hs:¬((a.size+b.size:Nat):Int)>i64.max:=by
    have:a.size+b.size<=maxLen:=cW;have h2:i64.max=9223372036854775807:=(by decide);unfold maxLen at this;omega
   exact⟨.string (a++b),by simp only[eqGuard_at_string,binOp,Op.stringOp,aT hs];simp,by simp only[VR,TR];exact⟨trivial,trivial⟩,rfl⟩
  .exact⟨.bool (a.toList==b.toList),by simp[eqGuard_at_string,binOp,Op.stringOp],by simp only[VR,TR];exact⟨trivial,trivial⟩,rfl⟩
  .exact⟨.bool (!(a.toList==b.toList)),by simp[eqGuard_at_string,binOp,Op.stringOp],by simp only[VR,TR];exact⟨trivial,trivial⟩,rfl⟩
  .exact⟨.bool (Op.bytesLess a.toList b.toList),by simp[eqGuard_at_string,binOp,Op.stringOp],by simp only[VR,TR];exact⟨trivial,trivial⟩,rfl⟩
  .exact⟨.bool (!(Op.bytesLess a.toList b.toList || a.toList==b.toList)),by simp[eqGuard_at_string,binOp,Op.stringOp],by simp only[VR,TR];exact⟨trivial,trivial⟩,rfl⟩
 .rename_i a b;simp only[VR,TR]at hx hy;obtain⟨rfl,_⟩:=hx;obtain⟨rfl,_⟩:=hy;cases hti:T t with
  |none=>simp[hti]at ha
  |some ti=>
   have ht:=hT t ti hti;simp only[hti,af]at ha;have fj:ti.k= .bool->P.underlying t=some .bool:=λhk=>by
    obtain⟨info,d,z,h1,h2,h3,h4,h5,h6,h7,h8⟩:=ht.ex;rw[hk]at h8;rw[h2,h8]
   split at ha
   .rename_i hk;simp only[pv,aC]at ha;subst ha;exact⟨.bool (a==b),by simp[eqGuard_at_bool,binOp,run_equal_bool w t a b (fj hk)],by simp only[VR,TR];exact⟨trivial,trivial⟩,rfl⟩
   .rename_i hk;simp only[pv,aC]at ha;subst ha;exact⟨.bool (!(a==b)),by simp[eqGuard_at_bool,binOp,run_equal_bool w t a b (fj hk)],by simp only[VR,TR];exact⟨trivial,trivial⟩,rfl⟩
   .cases ha
 .rename_i xs ys;simp only[VR]at hx hy;obtain⟨us,rfl,y6⟩:=hx;obtain⟨vs,rfl,hvs⟩:=hy;cases hti:T t with
  |none=>simp[hti]at ha
  |some ti=>
   have ht:=hT t ti hti;simp only[hti,af]at ha;split at ha
   .cases ha
   .rename_i hne;rcases ht.cmp hne with ⟨fa,h1,h2,h3,h4⟩ |⟨h9,_⟩
    rotate_left
    .rw[h9,ak5]at ha;simp at ha
    cases hc:sU ti.cmp xs ys with
    |none=>simp[hc]at ha
    |some b=>
     simp only[hc,af]at ha;have hfo:P.fieldsOf t=fa:=(by simp[Program.fieldsOf,h1]);have heq:(Op.equalIn 10000 t (.agg us) (.agg vs)).run P w= .ok b w:=by
      rw[run_equalIn_struct w 9999 t us vs (by rw[hfo];exact h1) h2,hfo];have:=K7 (P:=P) (w:=w) 9998 us.toList vs.toList fa.toList ti.cmp 0 xs ys b h4 hc (by simpa using y6) (by simpa using hvs);simpa using this
     have hgd:∀op,(eqGuard op t xo yo (.agg us) (.agg vs)).run P w= .ok () w:=λop=>run_eqGuard_agg w op t xo yo us vs h3;cases op<;>simp only[pv,aC,reduceCtorEq]at ha<;>subst ha
     .exact⟨.bool b,by simp[hgd,run_eql_struct,heq],by simp only[VR,TR];exact⟨trivial,trivial⟩,rfl⟩
     .exact⟨.bool (!b),by simp[hgd,run_neq_struct,heq],by simp only[VR,TR];exact⟨trivial,trivial⟩,rfl⟩
 .cases ha
theorem ajo{op:UnOp}{x:AV}{v:Value}{ab:Out}(ha:QP op x=some ab)(hx:VR P β w I x v):∃z,(Op.unary op v).run P w= .ok z w/\VR P β w I ab.v z/\ab.upd=[]:=by
 unfold QP at ha;split at ha
 .simp only[pv,aC]at ha;subst ha;simp only[VR,TR]at hx;obtain⟨rfl,_⟩:=hx;exact⟨_,by simp[Op.unary];rfl,by simp only[VR,TR];exact⟨trivial,trivial⟩,rfl⟩
 .simp only[pv,aC]at ha;subst ha;simp only[VR,TR]at hx;obtain⟨rfl,_⟩:=hx;exact⟨_,by simp only[Op.unary,Op.intArith];rfl,by simp only[VR,TR];exact⟨trivial,trivial⟩,rfl⟩
 .cases ha
theorem MP(mx:Bool)(k:IntKind):∀(r:U AV)(vs:U Value)(a n:Int),D8 mx k a r=some n->bj P β w I r vs->
 (vs.foldlM (if mx then Builtin.max2 else Builtin.min2) (.int k a)).run P w= .ok (.int k n) w
 |[],[],a,n,h,_=>by simp only[D8,aC]at h;subst h;simp
 |x::r,v::vs,a,n,h,hv=>by
  simp only[bj]at hv;have hx:∃k' b,x= .t (.sc (.int k' b)):=by
   unfold D8 at h;split at h
   .cases ‹_::_=_›
   .rename_i heq;injection heq with h1 h2;exact⟨_,_,h1⟩
   .cases h
  obtain⟨k',b,rfl⟩:=hx;simp only[D8]at h;split at h
  .rename_i hk;subst hk;simp only[VR,TR]at hv;obtain⟨⟨rfl,_⟩,hv⟩:=hv;have ih:=MP mx k' r vs _ n h hv;cases mx
   .simp only[Bool.false_eq_true,if_false]at ih ⊢;simp only[List.foldlM_cons,Builtin.min2,Sem.run_bind,Sem.run_pure,Result.andThen_ok];rw[show (if b<a then b else a)=min a b by rw[Int.min_def];split<;>split<;>omega];exact ih
   .simp only[if_true]at ih ⊢;simp only[List.foldlM_cons,Builtin.max2,Sem.run_bind,Sem.run_pure,Result.andThen_ok];rw[show (if b>a then b else a)=max a b by rw[Int.max_def];split<;>split<;>omega];exact ih
  .cases h
 |[],_::_,_,_,_,hv=>by simp[bj]at hv
 |_::_,[],_,_,_,hv=>by simp[bj]at hv
theorem ZF{mx:Bool}{args:U AV}{vs:Array Value}{c7:Array TypeId}{ty:TypeId}{ab:Out}(ha:G2 mx args=some ab)(hx:bj P β w I args vs.toList):
 ∃z,((if mx then Builtin.max_ else Builtin.min_) c7 ty vs).run P w= .ok z w/\VR P β w I ab.v z/\ab.upd=[]:=by
 unfold G2 at ha;split at ha
 .rename_i k a r;cases hf:D8 mx k a r with
  |none=>simp[hf]at ha
  |some n=>
   simp only[hf,af,pv,aC]at ha;subst ha;cases hvs:vs.toList with
   |nil=>rw[hvs]at hx;simp[bj]at hx
   |cons v vs'=>
    rw[hvs]at hx;simp only[bj,VR,TR]at hx;obtain⟨⟨rfl,_⟩,hr⟩:=hx;have:=MP (P:=P) mx k r vs' a n hf hr;refine⟨.int k n,?_,by simp only[VR,TR];exact⟨trivial,trivial⟩,rfl⟩;cases mx
    .simpa[Builtin.min_,hvs]using this
    .simpa[Builtin.max_,hvs]using this
 .cases ha
end
section
variable {P:Program} {T:er} {w0:World} {O0:kx} {β:Nat->Option cV} {I:Nat->Prop} {obj:Nat->Option aU} {w:World} {i:Nat}
theorem afV(hT:fu P T){t ty:TypeId}{x:AV}{cL:j7}{v:Value}{ab:Out}(ha:AH T t x cL=some ab)(cW:ab.ob)(hx:VR P β w I x v):
 ∃z,(Builtin.len_ #[t] ty #[v]).run P w= .ok z w/\VR P β w I ab.v z/\ab.upd=[]:=by
 unfold AH at ha;cases hti:T t with
 |none=>simp[hti]at ha
 |some ti=>
  have ht:=hT t ti hti;simp only[hti,af]at ha;have hsl:∀e b n c,ti.k= .slice e->(Builtin.len_ #[t] ty #[.slice b n c]).run P w= .ok (goInt n) w:=λe b n c hk=>by simp[Builtin.len_,run_underlying (gY ht hk)]
  split at ha
  .rename_i e rows n hk;simp only[mT,aC]at ha;subst ha;have cW:n=_:=cW;subst cW;simp only[VR,TR]at hx;rcases hx with ⟨rfl,_,_,rfl,_⟩ |⟨b,aa,cap,sz,rfl,_⟩
   .exact⟨_,hsl _ _ _ _ hk,by simp only[VR,TR,goInt];exact⟨by simp,trivial⟩,rfl⟩
   .exact⟨_,hsl _ _ _ _ hk,by simp only[VR,TR,goInt];exact⟨trivial,trivial⟩,rfl⟩
  .rename_i e k aa len n hk;simp only[mT,aC]at ha;subst ha;have cW:n=_:=cW;subst cW;simp only[VR]at hx;rcases hx with ⟨_,rfl,_,rfl⟩ |⟨b,sz,m,cap,a,_,rfl,_⟩
   .exact⟨_,hsl _ _ _ _ hk,by simp only[VR,TR,goInt];exact⟨trivial,trivial⟩,rfl⟩
   .exact⟨_,hsl _ _ _ _ hk,by simp only[VR,TR,goInt];exact⟨trivial,trivial⟩,rfl⟩
  .rename_i e k aa len hk _;simp only[pv,aC]at ha;subst ha;simp only[VR]at hx;rcases hx with ⟨_,rfl,_,rfl⟩ |⟨b,sz,m,cap,a,_,rfl,_⟩
   .exact⟨_,hsl _ _ _ _ hk,by simp only[VR,TR,goInt];exact⟨trivial,trivial⟩,rfl⟩
   .exact⟨_,hsl _ _ _ _ hk,by simp only[VR,TR,goInt];exact⟨trivial,trivial⟩,rfl⟩
  .rename_i e k len hk;simp only[pv,aC]at ha;subst ha;simp only[VR]at hx;rcases hx with ⟨rfl,rfl⟩ |⟨_,b,sz,m,cap,a,_,rfl,_⟩
   .exact⟨_,hsl _ _ _ _ hk,by simp only[VR,TR,goInt];exact⟨trivial,trivial⟩,rfl⟩
   .exact⟨_,hsl _ _ _ _ hk,by simp only[VR,TR,goInt];exact⟨trivial,trivial⟩,rfl⟩
  .rename_i e hk;simp only[pv,aC]at ha;subst ha;simp only[VR]at hx;subst hx;exact⟨_,hsl _ _ _ _ hk,by simp only[VR,TR,goInt];exact⟨by simp,trivial⟩,rfl⟩
  .rename_i s hk;simp only[pv,aC]at ha;subst ha;simp only[VR,TR]at hx;obtain⟨rfl,_⟩:=hx;have fj:P.underlying t=some .string:=by
    obtain⟨info,d,z,h1,h2,h3,h4,h5,h6,h7,h8⟩:=ht.ex;rw[hk]at h8;rw[h2,h8]
   exact⟨_,by simp[Builtin.len_,run_underlying fj];rfl,by simp only[VR,TR,goInt];exact⟨trivial,trivial⟩,rfl⟩
  .cases ha
theorem ZG(vs:U Value)(aa:Nat):∀(ps:U Value)(n:Nat)(cs:Array Value),aa+n+ps.length<=cs.size->
 (ps.zipIdx n).foldl (λ cs (c,j)=>cs.setIfInBounds (aa+j) c) cs=((cs.toList.take (aa+n))++ps++cs.toList.drop (aa+n+ps.length)).toArray
 |[],n,cs,_=>by simp
 |p::ps,n,cs,h=>by
  simp only[bG]at h;rw[List.zipIdx_cons,List.foldl_cons,ZG vs aa ps (n+1) _ (by simp;omega)];congr 1;rw[Array.toList_setIfInBounds];have h1:aa+n<cs.toList.length:=by simp;omega
  rw[show aa+(n+1)=aa+n+1 by omega,je (by simpa using h1)];rw[List.take_set,List.set_eq_of_length_le (by simp;omega)];simp only[List.getElem_set_self,aO,bG,cons_append,bT];congr 3;rw[List.drop_set_of_lt (by omega)];congr 1;omega
theorem anv{cells cs:U AV}{us vs:U Value}{aa:Nat}(h1:bj P β w I cells us)(h2:bj P β w I cs vs):bj P β w I (put' cells aa cs) (us.take aa++vs++us.drop (aa+vs.length)):=by
 unfold put';rw[bj.length _ _ h2];exact bj.append _ _ _ _ (bj.append _ _ _ _ (bj.take _ _ _ h1) h2) (bj.drop _ _ _ h1)
theorem z8{place pd:Nat->J (Nat×Nat)}(hpl:∀j p,place j=some p->pd j=some p):∀(parts:U (Nat×AV))(vs:U (Nat×Value))(cells:U AV)(us:Array Value)(ab:U AV),
 FK place cells parts=some ab->bj P β w I cells us.toList->parts.map (·.1)=vs.map (·.1)->bj P β w I (parts.map (·.2)) (vs.map (·.2))->
 ∃zs,Instr.fill pd us vs=some zs/\bj P β w I ab zs.toList
 |[],[],cells,us,ab,h,hc,_,_=>by simp only[FK,aC]at h;subst h;exact⟨us,rfl,hc⟩
 |(j,x)::ag,(j',v)::vs,cells,us,ab,h,hc,hk,hv=>by
  simp only[aH,List.cons.injEq]at hk;obtain⟨rfl,hk⟩:=hk;simp only[aH,bj]at hv;simp only[FK]at h;cases hp:place j with
  |none=>simp[hp]at h
  |some p=>
   obtain⟨aa,size⟩:=p;simp only[hp,af]at h;cases hcs:cellsOf x with
   |none=>simp[hcs]at h
   |some cs=>
    simp only[hcs,af]at h;split at h
    .rename_i hl;have⟨g1,g2⟩:=A8 hcs hv.1;have hlen:=bj.length _ _ g1;have hlc:=bj.length _ _ hc;simp only[Array.length_toList]at hlen hlc;have hnew:=anv (aa:=aa) hc g1;have:=z8 hpl ag vs _ (us.toList.take aa++v.cells.toList++us.toList.drop (aa+v.cells.toList.length)).toArray ab h (by simpa using hnew) hk hv.2;obtain⟨zs,hz,hz2⟩:=this;refine⟨zs,?_,hz2⟩;simp only[Instr.fill,hpl j _ hp];have hsz:v.cells.size=size:=(by omega);have hno:¬(v.cells.size≠size\/aa+v.cells.size>us.size):=(by omega);rw[aT (by simp only[Bool.or_eq_true,aW];exact hno)];have zg:=ZG [] aa v.cells.toList 0 us (by simp;omega);simp only[Nat.add_zero]at zg;rw[<- hz,<- zg];congr 1;rw[<- Array.foldl_toList,Array.toList_zipIdx]
    .cases h
 |[],_::_,_,_,_,_,_,hk,_=>by simp at hk
 |_::_,[],_,_,_,_,_,hk,_=>by simp at hk
theorem FL(hT:fu P T):∀(fs:U Field),(∀ f∈fs,(T f.type).isSome=true)->
 ∃ps:U (Nat×Nat),(fs.mapM (λ f=>do pure (f.offset,<- sizeOf f.type):Field->Sem (Nat×Nat))).run P w= .ok ps w/\ps.map some=fs.map λf=>(T f.type).bind λui=>some (f.offset,ui.size)
 |[],_=>⟨[],by simp,rfl⟩
 |f::fs,h=>by
  obtain⟨ui,wn⟩:=Option.isSome_iff_exists.1 (h f (by simp));obtain⟨ps,h1,h2⟩:=FL hT fs (λ g hg=>h g (by simp[hg]));refine⟨(f.offset,ui.size)::ps,?_,by simp[wn,h2]⟩;simp only[List.mapM_cons,Sem.run_bind,(hT _ _ wn).size (w:=w),Result.andThen_ok,Sem.run_pure,h1]
theorem aa1(hT:fu P T){t:TypeId}{parts:U (Nat×AV)}{vs:Array (Nat×Value)}{ab:Out}(ha:UU T t parts=some ab)
 (hk:parts.map (·.1)=vs.toList.map (·.1)) (hv:bj P β w I (parts.map (·.2)) (vs.toList.map (·.2))):∃z,(Instr.build t vs).run P w= .ok z w/\VR P β w I ab.v z/\ab.upd=[]:=by
 unfold UU at ha;cases hti:T t with
 |none=>simp[hti]at ha
 |some ti=>
  have ht:=hT t ti hti;simp only[hti,af]at ha;have⟨z,hz,hz2⟩:=ht.zeroV (w:=w);split at ha
  .rename_i fs hkd;split at ha
   .rename_i hall;generalize hpl:(λ (j:Nat)=>(fs[j]?).bind λ(p:Nat×TypeId)=>(T p.2).bind λui=>some (p.1,ui.size))=place at ha;cases hf:FK place (ti.zero.map cv) parts with
    |none=>simp[hf]at ha
    |some cells=>
     simp only[hf,af,pv,aC]at ha;subst ha;obtain⟨info,d,z',h1,h2,h3,h4,h5,h6,h7,h8⟩:=ht.ex;rw[hkd]at h8;obtain⟨fa,rfl,hfa⟩:=h8;have H2:∀f∈fa.toList,(T f.type).isSome=true:=λf hf=>by
      have:=all_eq_true.1 hall (f.offset,f.type) (by rw[<- hfa];exact mem_map.2 ⟨f,hf,rfl⟩);simpa using this
     have⟨ps,hp1,hp2⟩:=FL (w:=w) hT fa.toList H2;have hpl':∀j p,place j=some p->ps[j]? =some p:=by
      intro j p hj;rw[<- hpl]at hj;simp only at hj;have e1:(ps.map some)[j]? =some (some p):=by
       rw[hp2,List.getElem?_map];rw[<- hfa]at hj;simp only[List.getElem?_map]at hj;cases hfj:fa.toList[j]? with
       |none=>rw[hfj]at hj;simp at hj
       |some f=>rw[hfj]at hj;simpa using hj
      simpa using e1
     obtain⟨zs,hz3,Fi⟩:=z8 (pd:=λj=>ps.toArray[j]?) (λ j p h=>by simpa using hpl' j p h) parts vs.toList _ z.cells cells hf (by rw[hz2];exact bj.cv _) hk hv;refine⟨.agg zs,?_,by simp only[VR];exact⟨zs,rfl,Fi⟩,rfl⟩;have hm:(fa.mapM (λ f=>do pure (f.offset,<- sizeOf f.type):Field->Sem (Nat×Nat))).run P w= .ok ps.toArray w:=(by rw[Array.mapM_eq_mapM_toList,Sem.run_map,hp1];rfl);simp only[Instr.build,Sem.run_bind,hz,Result.andThen_ok,run_underlying h2,hm,hz3,Sem.run_pure]
   .cases ha
  .rename_i n e hkd;cases fL:T e with
   |none=>simp[fL]at ha
   |some ei=>
    have he:=hT e ei fL;simp only[fL,af]at ha;cases hf:FK (λ j=>some (j*ei.size,ei.size)) (ti.zero.map cv) parts with
    |none=>simp[hf]at ha
    |some cells=>
     simp only[hf,af,pv,aC]at ha;subst ha;obtain⟨zs,hz3,Fi⟩:=z8 (pd:=λj=>some (j*ei.size,ei.size)) (λ j p h=>h) parts vs.toList _ z.cells cells hf (by rw[hz2];exact bj.cv _) hk hv;refine⟨.agg zs,?_,by simp only[VR];exact⟨zs,rfl,Fi⟩,rfl⟩;simp only[Instr.build,Sem.run_bind,hz,Result.andThen_ok,run_underlying (MO ht hkd),he.size (w:=w),hz3,Sem.run_pure]
  .cases ha
end
section
variable {P:Program} {T:er} {w0:World} {O0:kx} {β:Nat->Option cV} {I:Nat->Prop} {obj:Nat->Option aU} {w:World} {i:Nat}
theorem Mem.xc{i k:Nat}{o o1:aU}{B C:cV}(h:Mem P w0 O0 β I obj w)(hn:β i=none)(hk:obj k=some o)(hβ:β k=some B)(hC:C.num=B.num)(hO:OR P β w I o1 C):
 Step β I w i (ins β i C) I w/\Mem P w0 O0 (ins β i C) I (dn obj [(i,some o1),(k,none)]) w:=by
 have hS:Step β I w i (ins β i C) I w:=⟨λ j hj=>by simp[ins,i7.ne hj],ny hn,λ_ _=>rfl,λ_ h=>h⟩;have look:∀j o',dn obj [(i,some o1),(k,none)] j=some o'->(j=i/\o'=o1)\/(j≠i/\j≠k/\obj j=some o'):=by
  intro j o' hj;simp only[dn]at hj;split at hj
  .injection hj with hj;exact .inl ⟨‹_›,hj.symm⟩
  .split at hj
   .cases hj
   .exact .inr ⟨‹_›,‹_›,hj⟩
 refine⟨hS,?_⟩;constructor
 .intro j o' hj;rcases look j o' hj with ⟨rfl,rfl⟩ |⟨h1,h2,h3⟩
  .exact⟨C,by simp[ins],OR.mono hS.ext hS.same hS.inc (λ _ _=>rfl) hO⟩
  .have⟨B',hB',hO⟩:=h.cQ j o' h3;exact⟨B',ny hn _ _ hB',OR.mono hS.ext hS.same hS.inc (λ _ _=>rfl) hO⟩
 .intro j j' o1 o2 B1 B2 b h1 h2 h3 h4 h5 h6;rcases look j o1 h1 with ⟨rfl,rfl⟩ |⟨a1,a2,a3⟩<;>rcases look j' o2 h2 with ⟨rfl,rfl⟩ |⟨c1,c2,c3⟩
  .rfl
  .simp only[ins,if_true,aC]at h3;simp only[ins,c1,if_false]at h4;subst h3;exact absurd (h.gE k j' _ _ B B2 b hk c3 hβ h4 (hC ▸ h5) h6) (λ e=>c2 e.symm)
  .simp only[ins,if_true,aC]at h4;simp only[ins,a1,if_false]at h3;subst h4;exact absurd (h.gE j k _ _ B1 B b a3 hk h3 hβ h5 (hC ▸ h6)) (λ e=>a2 e)
  .simp only[ins,a1,c1,if_false]at h3 h4;exact h.gE j j' o1 o2 B1 B2 b a3 c3 h3 h4 h5 h6
 .intro j o' B1 b h1 h2 h3;rcases look j o' h1 with ⟨rfl,rfl⟩ |⟨a1,a2,a3⟩
  .simp only[ins,if_true,aC]at h2;subst h2;exact h.ownB k _ B b hk hβ (hC ▸ h3)
  .simp only[ins,a1,if_false]at h2;exact h.ownB j o' B1 b a3 h2 h3
 .exact h.lt
 .exact h.up
 .exact h.keep
 .exact h.le
 .exact h.os
 .exact h.tape
 .exact h.output
 .intro j C hj;exact ny hn _ _ (h.anch j C hj)
 .exact h.vars
theorem K8:∀(rows:U (List AV))(c:Array Value)(aa sz:Nat)(l:U Value),(∀ r∈rows,r.length=sz/\r.all o8=true)->bj P β w I rows.flatten l->(∀ j u,l[j]? =some u->c[aa+j]? =some u)->bp P β w I rows c aa sz
 |[],_,_,_,_,_,_,_=>by simp[bp]
 |r::rs,c,aa,sz,l,hr,hl,hc=>by
  obtain⟨h1,h2⟩:=hr r (by simp);simp only[flatten_cons]at hl;have ht:=bj.take sz _ _ hl;have hd:=bj.drop sz _ _ hl;rw[List.take_append_of_le_length (by omega),take_of_length_le (by omega)]at ht;rw[List.drop_append_of_le_length (by omega),List.drop_of_length_le (by omega),bT]at hd;simp only[bp];refine⟨h1,de.oB r _ c aa ht (λ u hu=>?_) (λ j u hj=>?_),K8 rs c (aa+sz) sz _ (λ r' hr'=>hr r' (by simp[hr'])) hd (λ j u hj=>?_)⟩
  .obtain⟨j,hj⟩:=List.getElem?_of_mem hu;have hlen:=bj.length _ _ ht;have hjl:j<r.length:=(by have:=(dJ.1 hj).1;omega);obtain⟨u',hu',hv⟩:=bj.get _ _ j _ ht (dU hjl);rw[hj]at hu';injection hu' with hu';subst hu';exact VR.one (all_eq_true.1 h2 _ (List.getElem_mem hjl)) hv
  .rw[List.getElem?_take]at hj;split at hj
   .exact hc j u hj
   .cases hj
  .rw[List.getElem?_drop]at hj;rw[show aa+sz+j=aa+(sz+j)by omega];exact hc _ u hj
theorem afW{x:AV}{cs:U AV}(h:cellsOf x=some cs):cs.all o8=true:=by
 cases x<;>simp only[cellsOf,aC,reduceCtorEq]at h
 case agg=>split at h<;>first |(cases h;assumption) |cases h
 all_goals subst h;simp[o8]
theorem U1(size:Nat):∀(parts:U (Nat×AV))(rows ab:U (List AV)),ML size rows parts=some ab->(∀ r∈rows,r.length=size/\r.all o8=true)->
 FK (λ j=>some (j*size,size)) rows.flatten parts=some ab.flatten/\(∀ r∈ab,r.length=size/\r.all o8=true)/\ab.length=rows.length
 |[],rows,ab,h,hr=>by simp only[ML,aC]at h;subst h;exact⟨rfl,hr,rfl⟩
 |(j,x)::ag,rows,ab,h,hr=>by
  simp only[ML]at h;cases hcs:cellsOf x with
  |none=>simp[hcs]at h
  |some cs=>
   simp only[hcs,af]at h;split at h
   .rename_i hl;obtain⟨h1,h2,h3⟩:=U1 size ag (rows.set j cs) ab h (λ r hr'=>by
     rcases List.mem_or_eq_of_mem_set hr' with h4 |h4
     .exact hr r h4
     .rw[h4];exact⟨hl.1,afW hcs⟩)
    refine⟨?_,h2,by simpa using h3⟩;have HU:∀(n:Nat) (rows:U (List AV)),(∀ r∈rows,r.length=size)->n<rows.length->(rows.set n cs).flatten=put' rows.flatten (n*size) cs/\n*size+cs.length<=rows.flatten.length:=by
     intro n
     induction n with
     |zero=>
      intro rows hr hn;cases rows with
      |nil=>simp at hn
      |cons r rs=>
       have:=hr r (by simp);simp only[List.set_cons_zero,flatten_cons,put',Nat.zero_mul,List.take_zero,bT,Nat.zero_add,dP];refine⟨?_,by omega⟩;rw[hl.1,List.drop_append_of_le_length (by omega),List.drop_of_length_le (by omega),bT]
     |succ n ih=>
      intro rows hr hn;cases rows with
      |nil=>simp at hn
      |cons r rs=>
       have hrl:=hr r (by simp);obtain⟨g1,g2⟩:=ih rs (λ r' h'=>hr r' (by simp[h'])) (by simpa using hn);have e1:(n+1)*size=r.length+n*size:=(by rw[Nat.add_mul];omega);simp only[List.set_cons_succ,flatten_cons,g1,put',e1,dP];refine⟨?_,by omega⟩;rw[List.take_length_add_append,show r.length+n*size+cs.length=r.length+(n*size+cs.length)by omega,List.drop_length_add_append];simp[aO]
    obtain⟨g1,g2⟩:=HU j rows (λ r h'=>(hr r h').1) hl.2;simp only[FK,af,hcs];rw[aZ ⟨hl.1,g2⟩,<- g1];exact h1
   .cases h
theorem MQ(hT:fu P T)(h:Mem P w0 O0 β I obj w)(hn:β (cT i)=none){t:TypeId}{len:Nat}{parts:U (Nat×AV)}{vs:Array (Nat×Value)}{ab:Out}{kp:Bool}(ha:vW T i t len parts kp=some ab)
 (hk:parts.map (·.1)=vs.toList.map (·.1)) (hv:bj P β w I (parts.map (·.2)) (vs.toList.map (·.2))):
 ∃u w' β',(Instr.buildSlice t len vs).run P w= .ok u w'/\Step β I w (cT i) β' I w'/\Mem P w0 O0 β' I (dn obj ab.upd) w'/\VR P β' w' I ab.v u:=by
 unfold vW at ha;cases hti:T t with
 |none=>simp[hti]at ha
 |some ti=>
  have ht:=hT t ti hti;simp only[hti,af]at ha;split at ha
  .rename_i e hkd;cases fL:T e with
   |none=>simp[fL]at ha
   |some ei=>
    have he:=hT e ei fL;simp only[fL,af]at ha;split at ha
    .cases ha
    .rename_i hno;simp only[not_or]at hno;cases hf:ML ei.size (List.replicate len (ei.zero.map cv)) parts with
     |none=>simp[hf]at ha
     |some rows=>
      simp only[hf,af,aC]at ha;subst ha;have⟨z,hz,hz2⟩:=he.zeroV (w:=w);have hzl:ei.zero.length=ei.size:=he.len;have hok:∀r∈List.replicate len (ei.zero.map cv),r.length=ei.size/\r.all o8=true:=by
       intro r hr;obtain⟨_,rfl⟩:=List.mem_replicate.1 hr;refine⟨by simpa using hzl,?_⟩;rw[List.all_map,all_eq_true];intro v hvz;have h1:=all_eq_true.1 he.one v hvz;simp only[Function.comp,cv];split
       .rfl
       .rw[aZ h1];rfl
      obtain⟨h1,h2,h3⟩:=U1 ei.size parts _ rows hf hok;have hzs:z.cells.size=ei.size:=(by rw[<- Array.length_toList,hz2];exact hzl);have hinit:((Array.range (len*ei.size)).map (λ j=>z.cells[j%z.cells.size]!)).toList=(List.replicate len ei.zero).flatten:=by
       apply List.ext_getElem?;intro j;have hlen:∀n,((List.replicate n ei.zero).flatten).length=n*ei.size:=λn=>(by simp[hzl]);have hget:∀n j,j<n*ei.size->((List.replicate n ei.zero).flatten)[j]? =ei.zero[j%ei.size]? :=by
        intro n
        induction n with
        |zero=>intro j hj;simp at hj
        |succ n ih=>
         intro j hj;rw[List.replicate_succ,flatten_cons];by_cases hjs:j<ei.size
         .rw[List.getElem?_append_left (by omega),Nat.mod_eq_of_lt hjs]
         .rw[jD (by omega),hzl,ih _ (by rw[Nat.add_mul]at hj;omega)];rw[<- Nat.mod_eq_sub_mod (by omega)]
       by_cases hj:j<len*ei.size
       .rw[hget len j hj,Array.getElem?_toList,Array.getElem?_map];have hm:j%ei.size<ei.size:=Nat.mod_lt _ (by omega);rw[show (Array.range (len*ei.size))[j]? =some j by simp[hj]];simp only[Option.map_some];rw[hzs,<- hz2,Array.getElem?_toList];simp[show j%ei.size<z.cells.size by omega]
       .rw[List.getElem?_eq_none (by simp;omega),List.getElem?_eq_none (by rw[hlen];omega)]
      generalize hin:(Array.range (len*ei.size)).map (λ j=>z.cells[j%z.cells.size]!)=ta at hinit;obtain⟨zs,hz3,Fi⟩:=z8 (pd:=λj=>some (j*ei.size,ei.size)) (λ j p h=>h) parts vs.toList _ ta rows.flatten h1 (by
       rw[hinit];have:(List.replicate len (ei.zero.map cv)).flatten=((List.replicate len ei.zero).flatten).map cv:=by
        induction len with
        |zero=>rfl
        |succ n ih=>simp[List.replicate_succ]
       rw[this];exact bj.cv _) hk hv
      have hrl:rows.length=len:=(by rw[h3];simp);obtain⟨hS,hM⟩:=Mem.alloc (o:=⟨ei.size,rows⟩) (c:=zs) (e:=e) h hn (K8 rows zs 0 ei.size zs.toList h2 Fi (λ j u hj=>by simpa using hj));refine⟨.slice (some ⟨w.heap.size,0,none⟩) len len,_,_,?_,hS,by cases kp<;>first |exact hM.wx |exact hM,?_⟩
      .simp only[Instr.buildSlice,Sem.run_bind,run_underlying (gY ht hkd),Result.andThen_ok,he.size (w:=w)];rw[aT (by omega)];by_cases hl0:len*ei.size=0
       .have hc0:ta=#[]:=(by rw[<- hin,hl0];simp);have e0:(Array.range (len*ei.size)).map (λ j=>(#[]:Array Value)[j%(#[]:Array Value).size]!)=ta:=(by rw[hc0,hl0];simp);simp only[hl0,if_true,Sem.run_pure,Result.andThen_ok,Sem.run_bind];rw[hl0]at e0;rw[e0,hz3];simp only[Sem.run_bind,newRow,run_newObj,Result.andThen_ok,Sem.run_pure];rfl
       .simp only[hl0,if_false,Sem.run_bind,hz,Result.andThen_ok,Sem.run_pure];rw[hin,hz3];simp only[Sem.run_bind,newRow,run_newObj,Result.andThen_ok,Sem.run_pure];rfl
      .simp only[VR];refine .inr ⟨w.heap.size,ei.size,xy zs.size,len,0,by simp[ins],rfl,aG _,?_,by simp⟩;have:=bj.length _ _ Fi;simp only[Array.length_toList]at this;rw[OK,OF,this,Nat.zero_add,Nat.zero_add,<- hrl];have hfl:∀(l:U (List AV)),(∀ r∈l,r.length=ei.size)->l.flatten.length=l.length*ei.size:=by
        intro l
        induction l with
        |nil=>simp
        |cons r rs ih=>intro h;simp only[flatten_cons,dP,bG,ih (λ r' h'=>h r' (by simp[h'])),h r (by simp)];rw[Nat.add_mul];omega
       rw[hfl rows (λ r hr=>(h2 r hr).1)];exact aG _
  .cases ha
end
section
variable {P:Program} {T:er} {w0:World} {O0:kx} {β:Nat->Option cV} {I:Nat->Prop} {obj:Nat->Option aU} {w:World} {i:Nat}
theorem JP{d n:Int}{x:J AV}{v:J Value}(h:bnd d x=some n)(hx:∀y,x=some y->∃u,v=some u/\VR P β w I y u)(h0:x=none->v=none):(v=none/\n=d)\/∃k,v=some (.int k n):=by
 cases x with
 |none=>simp only[bnd,aC]at h;exact .inl ⟨h0 rfl,h.symm⟩
 |some y=>
  obtain⟨u,rfl,hu⟩:=hx y rfl;unfold bnd at h;split at h
  .cases ‹some _=none›
  .rename_i k m heq;cases heq;cases h;simp only[VR,TR]at hu;exact .inr ⟨k,by rw[hu.1]⟩
  .cases h
theorem FM{tw hiv:J Value}{l hh:Int}{len cap:Nat}(h1:(tw=none/\l=0)\/∃k,tw=some (.int k l))(h2:(hiv=none/\hh=(len:Int))\/∃k,hiv=some (.int k hh))(g0:0<=l)(g1:l<=hh)(g2:hh<=(cap:Int)):
 (Instr.sliceBounds true len cap tw hiv none).run P w= .ok (l.toNat,hh.toNat,cap) w:=by
 have hb:∀(k:IntKind) (n:Int) (y:Nat) am,0<=n->n<=(y:Int)->(Instr.sliceBound (.int k n) y am).run P w= .ok n.toNat w:=λk n y am a b=>by simp[Instr.sliceBound,asIntOf,a,b]
 rcases h1 with ⟨rfl,rfl⟩ |⟨k,rfl⟩<;>rcases h2 with ⟨rfl,rfl⟩ |⟨k',rfl⟩
 .simp[Instr.sliceBounds]
 .simp[Instr.sliceBounds,hb k' hh cap _ (by omega) g2]
 .simp[Instr.sliceBounds,hb k l len _ g0 g1]
 .have h3:=λam=>hb k l hh.toNat am g0 (by omega);simp[Instr.sliceBounds,hb k' hh cap _ (by omega) g2,h3]
theorem aa2(hT:fu P T)(h:Mem P w0 O0 β I obj w){t:TypeId}{x:AV}{lo hi:J AV}{cL:j7}{get:Nat->J aU}{ab:Out}{v:Value}{tw hiv:J Value}(hg:∀k o,get k=some o->obj k=some o)
 (ha:UX T t x lo hi cL get=some ab) (cW:ab.ob) (hx:VR P β w I x v) (hlo:∀x,lo=some x->∃v,tw=some v/\VR P β w I x v) (hlo0:lo=none->tw=none) (hhi:∀x,hi=some x->∃v,hiv=some v/\VR P β w I x v) (hhi0:hi=none->hiv=none):
 ∃u,(Instr.sliceAt t v tw hiv none).run P w= .ok u w/\VR P β w I ab.v u/\ab.upd=[]:=by
 unfold UX at ha;cases hti:T t with
 |none=>simp[hti]at ha
 |some ti=>
  have ht:=hT t ti hti;simp only[hti,af]at ha;split at ha
  .rename_i e hkd;cases fL:T e with
   |none=>simp[fL]at ha
   |some ei=>
    have he:=hT e ei fL;simp only[fL,af]at ha;have fj:=gY ht hkd
    have hrun:∀(a:J Addr) (len cap:Nat) (l hh:Int),bnd 0 lo=some l->bnd len hi=some hh->0<=l->l<=hh->hh<=(cap:Int)->
     (Instr.sliceAt t (.slice a len cap) tw hiv none).run P w= .ok (.slice (if cap=l.toNat then a else a.map (·.add (l.toNat*ei.size))) (hh.toNat -l.toNat) (cap -l.toNat)) w:=by
     intro a len cap l hh b1 b2 b3 b4 b5;have:=FM (P:=P) (w:=w) (len:=len) (cap:=cap) (JP b1 hlo hlo0) (JP b2 hhi hhi0) b3 b4 b5;simp only[Instr.sliceAt,Instr.slice,Sem.run_bind,run_underlying fj,Result.andThen_ok,this,he.size (w:=w),Sem.run_pure]
    cases x<;>try simp only[reduceCtorEq]at ha
    case own k aa len=>
     cases hk:get k with
     |none=>simp[hk]at ha
     |some o=>
      simp only[hk,af]at ha;split at ha
      .rename_i hsz;cases hl:bnd 0 lo with
       |none=>simp[hl]at ha
       |some l=>
        cases hh:bnd len hi with
        |none=>simp[hl,hh]at ha
        |some r=>
         simp only[hl,hh,af,mT,aC]at ha;subst ha;obtain⟨b1,b2,b3⟩:=cW;simp only[VR]at hx ⊢;rcases hx with ⟨h1,rfl,h2,h3⟩ |⟨b,sz,m,cap,a,h1,rfl,h2,h3,h4⟩
         .subst h3;subst h2;have hr:r=0:=(by omega);have hl0:l=0:=(by omega);subst hr;subst hl0;refine⟨_,hrun _ _ _ _ _ hl hh b1 b2 (by omega),.inl ⟨h1,by simp,by simp,by simp⟩,trivial⟩
         .refine⟨_,hrun _ _ _ _ _ hl hh b1 b2 (by omega),.inr ⟨b,sz,m,cap -l.toNat,if cap=l.toNat then a else a+l.toNat*ei.size,h1,?_,by omega,?_,?_⟩,trivial⟩
          .split
           .rfl
           .simp[addr_add]
          .have:aa+l.toNat+(cap -l.toNat)=aa+cap:=(by omega);rw[this];exact h3
          .intro hc;have hcl:¬cap=l.toNat:=(by omega);rw[aT hcl,h4 (by omega)];have⟨B,hB,hO⟩:=h.cQ k o (hg k o hk);rw[h1]at hB;cases hB;have hs:sz=o.sz:=hO.1;rw[hs,hsz,Nat.add_mul,Nat.add_assoc]
      .cases ha
    case t x=>
     cases x<;>simp only[reduceCtorEq]at ha
     case sl rows=>
      cases cL<;>simp only[reduceCtorEq]at ha
      case AS rs=>
       cases hl:bnd 0 lo with
       |none=>simp[hl]at ha
       |some l=>
        cases hh:bnd rows.length hi with
        |none=>simp[hl,hh]at ha
        |some r=>
         simp only[hl,hh,af,mT,aC]at ha;subst ha;obtain⟨b1,b2,b3,hrs,hall⟩:=cW;simp only[VR,TR]at hx ⊢;have hlen:rs.length=r.toNat -l.toNat:=(by rw[hrs];simp only[length_take,length_drop];omega);rcases hx with ⟨rfl,a,cap,rfl,hac⟩ |⟨b,aa,cap,sz,rfl,h1,h2,h3⟩
         .simp only[List.length_nil]at b3;have hr:r=0:=(by omega);have hl0:l=0:=(by omega);subst hr;subst hl0;refine⟨_,hrun _ _ _ _ _ hl hh b1 b2 (by omega),.inl ⟨by rw[hrs];simp,a.map (·.add 0),cap,?_,λh0=>hac (by simpa using h0)⟩,trivial⟩;by_cases hc:cap=0
          .subst hc;cases a<;>simp[Addr.add]
          .simp[hc]
         .refine⟨_,hrun _ _ _ _ _ hl hh b1 b2 (by omega),.inr ⟨b,if cap=l.toNat then aa else aa+l.toNat*ei.size,cap -l.toNat,sz,?_,by omega,h2,?_⟩,trivial⟩
          .rw[hlen];split
           .rfl
           .simp[addr_add]
          .by_cases hc:cap=l.toNat
           .have:rs=[]:=eq_nil_of_length_eq_zero (by omega);rw[this];simp[cJ]
           .rw[aT hc,hrs];have hd:∀(n:Nat) (rows:U (List Tree)) (aa:Nat),cJ w I rows b aa sz->cJ w I (rows.drop n) b (aa+n*sz) sz:=by
             intro n
             induction n with
             |zero=>intro rows aa h;simpa using h
             |succ n ih=>
              intro rows aa h;cases rows with
              |nil=>simp[cJ]
              |cons r rs=>
               simp only[cJ]at h;rw[List.drop_succ_cons,show aa+(n+1)*sz=aa+sz+n*sz by rw[Nat.add_mul];omega];exact ih rs _ h.2.2
            have htk:∀(n:Nat) (rows:U (List Tree)) (aa:Nat),cJ w I rows b aa sz->cJ w I (rows.take n) b aa sz:=by
             intro n
             induction n with
             |zero=>intro rows aa h;simp[cJ]
             |succ n ih=>
              intro rows aa h;cases rows with
              |nil=>simp[cJ]
              |cons r rs=>
               simp only[cJ]at h;simp only[List.take_succ_cons,cJ];exact⟨h.1,h.2.1,ih rs _ h.2.2⟩
            by_cases hne:rows=[]
            .subst hne;simp[cJ]
            .obtain⟨r0,ag,rfl⟩:=List.exists_cons_of_ne_nil hne;have hsz:ei.size=sz:=by
              have e1:=hall r0 (by simp);simp only[cJ]at h3;omega
             rw[hsz];exact htk _ _ _ (hd _ _ _ h3)
  .cases ha
end
section
variable {P:Program} {T:er} {w0:World} {O0:kx} {β:Nat->Option cV} {I:Nat->Prop} {obj:Nat->Option aU} {w:World} {i:Nat}
theorem Mem.pH{i:Nat}{o:aU}(h:Mem P w0 O0 β I obj w)(hn:β i=none)(ho:o.rows=[]):
 Step β I w i (ins β i .none) I w/\Mem P w0 O0 (ins β i .none) I (dn obj [(i,some o)]) w:=by
 have hS:Step β I w i (ins β i .none) I w:=⟨λ j hj=>by simp[ins,i7.ne hj],ny hn,λ_ _=>rfl,λ_ h=>h⟩;refine⟨hS,?_⟩;constructor
 .intro k o' hk;simp only[dn]at hk;split at hk
  .cases hk;rename_i hki;exact⟨.none,by simp[ins,hki],ho⟩
  .have⟨B,hB,hO⟩:=h.cQ k o' hk;exact⟨B,ny hn _ _ hB,OR.mono hS.ext hS.same hS.inc (λ _ _=>rfl) hO⟩
 .intro k k' o1 o2 B1 B2 b h1 h2 h3 h4 h5 h6;simp only[dn]at h1 h2;simp only[ins]at h3 h4;split at h3
  .cases h3;cases h5
  .split at h4
   .cases h4;cases h6
   .rename_i a b;rw[aT a]at h1;rw[aT b]at h2;exact h.gE k k' o1 o2 B1 B2 _ h1 h2 h3 h4 h5 h6
 .intro k o' B b h1 h2 h3;simp only[dn]at h1;simp only[ins]at h2;split at h2
  .cases h2;cases h3
  .rename_i a;rw[aT a]at h1;exact h.ownB k o' B b h1 h2 h3
 .exact h.lt
 .exact h.up
 .exact h.keep
 .exact h.le
 .exact h.os
 .exact h.tape
 .exact h.output
 .intro j C hj;exact ny hn _ _ (h.anch j C hj)
 .exact h.vars
theorem yJ:∀(rows:U (List AV))(c:Array Value)(aa sz:Nat)(l:U Value),(∀ r∈rows,r.length=sz)->bj P β w I rows.flatten l->(∀ u∈l,oneCell u)->(∀ j u,l[j]? =some u->c[aa+j]? =some u)->bp P β w I rows c aa sz
 |[],_,_,_,_,_,_,_,_=>by simp[bp]
 |r::rs,c,aa,sz,l,hr,hl,h1,hc=>by
  have hrl:=hr r (by simp);simp only[flatten_cons]at hl;have ht:=bj.take sz _ _ hl;have hd:=bj.drop sz _ _ hl;rw[List.take_append_of_le_length (by omega),take_of_length_le (by omega)]at ht;rw[List.drop_append_of_le_length (by omega),List.drop_of_length_le (by omega),bT]at hd;simp only[bp];refine⟨hrl,de.oB r _ c aa ht (λ u hu=>h1 u (List.mem_of_mem_take hu)) (λ j u hj=>?_),yJ rs c (aa+sz) sz _ (λ r' hr'=>hr r' (by simp[hr'])) hd (λ u hu=>h1 u (List.mem_of_mem_drop hu)) (λ j u hj=>?_)⟩
  .rw[List.getElem?_take]at hj;split at hj
   .exact hc j u hj
   .cases hj
  .rw[List.getElem?_drop]at hj;rw[show aa+sz+j=aa+(sz+j)by omega];exact hc _ u hj
theorem bp.list:∀(rows:U (List AV))(c:Array Value)(aa sz:Nat),bp P β w I rows c aa sz->∃l:U Value,bj P β w I rows.flatten l/\(∀ u∈l,oneCell u)/\l.length=rows.length*sz/\(∀ r∈rows,r.length=sz)/\∀j u,l[j]? =some u->c[aa+j]? =some u
 |[],_,_,_,_=>⟨[],by simp[bj],by simp,by simp,by simp,by simp⟩
 |r::rs,c,aa,sz,⟨h1,h2,h3⟩=>by
  have⟨l1,a1,a2,a3⟩:=de.list r c aa h2;have⟨l2,b1,b2,b3,b4,b5⟩:=bp.list rs c (aa+sz) sz h3;have hl1:l1.length=sz:=by rw[bj.length _ _ a1,h1]
  refine⟨l1++l2,by simp only[flatten_cons];exact bj.append _ _ _ _ a1 b1,λu hu=>?_,?_,λr' hr'=>?_,λj u hj=>?_⟩
  .rcases bn.1 hu with hu |hu
   .exact a2 u hu
   .exact b2 u hu
  .simp only[dP,bG,hl1,b3,Nat.add_mul];omega
  .rcases aQ.1 hr' with rfl |hr'
   .exact h1
   .exact b4 r' hr'
  .by_cases hjs:j<sz
   .rw[List.getElem?_append_left (by omega)]at hj;exact a3 j u hj
   .rw[jD (by omega)]at hj;have:=b5 _ u hj;rw[hl1]at this;rw[show aa+j=aa+sz+(j -sz)by omega];exact this
theorem cJ.list{b sz:Nat}:∀(rows:U (List Tree))(aa:Nat),cJ w I rows b aa sz->∃l:U Value,bj P β w I (aK rows).flatten l/\(∀ u∈l,oneCell u)/\l.length=rows.length*sz/\(∀ r∈aK rows,r.length=sz)/\∀j u,l[j]? =some u->w.cell? ⟨b,aa+j,none⟩=some u
 |[],_,_=>⟨[],by simp[aK,bj],by simp,by simp,by simp[aK],by simp⟩
 |r::rs,aa,h=>by
  simp only[cJ]at h;obtain⟨h1,h2,h3⟩:=h;have⟨l1,a1,a3⟩:=ea.list (P:=P) (β:=β) r b aa h2;have⟨l2,b1,b2,b3,b4,b5⟩:=cJ.list rs (aa+sz) h3;have hl1:l1.length=sz:=by rw[bj.length _ _ a1];simpa using h1
  have a2:∀u∈l1,oneCell u:=by
   intro u hu;obtain⟨j,hj⟩:=List.getElem?_of_mem hu;have hjl:j<(r.map AV.t).length:=(by have:=(dJ.1 hj).1;rw[bj.length _ _ a1]at this;exact this);obtain⟨u',hu',hv⟩:=bj.get _ _ j _ a1 (dU hjl);rw[hj]at hu';injection hu' with hu';subst hu';refine VR.one ?_ hv;simp[o8]
  refine⟨l1++l2,by simp only[aK,aH,flatten_cons];exact bj.append _ _ _ _ a1 b1,λu hu=>?_,?_,λr' hr'=>?_,λj u hj=>?_⟩
  .rcases bn.1 hu with hu |hu
   .exact a2 u hu
   .exact b2 u hu
  .simp only[dP,bG,hl1,b3,Nat.add_mul];omega
  .simp only[aK,aH,aQ]at hr';rcases hr' with rfl |hr'
   .simpa using h1
   .exact b4 r' hr'
  .by_cases hjs:j<sz
   .rw[List.getElem?_append_left (by omega)]at hj;exact a3 j u hj
   .rw[jD (by omega)]at hj;have:=b5 _ u hj;rw[hl1]at this;rw[show aa+j=aa+sz+(j -sz)by omega];exact this
def W5(P:Program)(β:Nat->J cV)(w:World)(I:Nat->Prop)(size n:Nat)(an:U (List AV))(v:Value):Prop:=
 (n=0/\∃b c,v= .slice b 0 c)\/∃(a:Addr)(c:Nat)(l:U Value),v= .slice (some a) n c/\0<n/\bj P β w I an.flatten l/\(∀ u∈l,oneCell u)/\l.length=n*size/\(∀ r∈an,r.length=size)/\∀j u,l[j]? =some u->w.cell? (a.add j)=some u
theorem ZH(h:Mem P w0 O0 β I obj w){size n:Nat}{ob:Prop}{an:U (List AV)}{y:AV}{get:Nat->J aU}{v:Value}(hg:∀k o,get k=some o->obj k=some o)
 (hs:UY size y get=some (n,ob,an)) (cW:ob) (hl:an.length=n) (hy:VR P β w I y v):W5 P β w I size n an v:=by
 unfold UY at hs;split at hs
 .rename_i k aa len;cases hk:get k with
  |none=>simp[hk]at hs
  |some o=>
   simp only[hk,af]at hs;split at hs
   .rename_i hsz;simp only[aC,Prod.mk.injEq]at hs;obtain⟨rfl,_,rfl⟩:=hs;simp only[VR]at hy;rcases hy with ⟨_,rfl,_,rfl⟩ |⟨b,sz,m,cap,a,h1,rfl,h2,h3,h4⟩
    .exact .inl ⟨rfl,_,_,rfl⟩
    .by_cases h0:len=0
     .subst h0;exact .inl ⟨rfl,_,_,rfl⟩
     .have⟨B,hB,hO⟩:=h.cQ k o (hg k o hk);rw[h1]at hB;cases hB;obtain⟨hs,c,e,hc,_,hO⟩:=hO;have h5:=bp.take len _ _ _ _ (bp.drop aa _ _ _ _ hO);obtain⟨l,g1,g2,g3,g4,g5⟩:=bp.list _ _ _ _ h5;refine .inr ⟨_,cap,l,rfl,by omega,g1,g2,?_,λr hr=>?_,λj u hj=>?_⟩
      .rw[g3,hl,hs,hsz]
      .rw[g4 r hr,hs,hsz]
      .rw[addr_add,h4 (by omega)];simp[World.cell?,hc,g5 j u hj]
   .cases hs
 .rename_i rows;simp only[aC,Prod.mk.injEq]at hs;obtain⟨rfl,rfl,rfl⟩:=hs;simp only[VR,TR]at hy;rcases hy with ⟨rfl,_,_,rfl,_⟩ |⟨b,aa,cap,sz,rfl,h1,h2,h3⟩
  .exact .inl ⟨rfl,_,_,rfl⟩
  .cases rows with
   |nil=>exact .inl ⟨rfl,_,_,rfl⟩
   |cons r rs=>
    obtain⟨l,g1,g2,g3,g4,g5⟩:=cJ.list (P:=P) (β:=β) _ _ h3;have hsz:sz=size:=by
     have e1:=cW r (by simp);simp only[cJ]at h3;omega
    subst hsz;exact .inr ⟨_,cap,l,rfl,by simp,g1,g2,g3,g4,λj u hj=>by rw[addr_add];exact g5 j u hj⟩
 .cases hs
theorem oneCell'{u:Value}(h:oneCell u):u.oneCell'=true:=by cases u<;>first |rfl |exact h.elim
theorem Mem.grow(h:Mem P w0 O0 β I obj w)(hn:β i=none){size:Nat}{rows:U (List AV)}{l:U Value}{e:TypeId}{ag:Array Value}(hr:∀r∈rows,r.length=size)(hl:bj P β w I rows.flatten l)(h1:∀u∈l,oneCell u):
 Step β I w i (ins β i (.at w.heap.size size (xy (l.toArray++ag).size))) I (w.drew.alloc (.cells (l.toArray++ag) e))/\
 Mem P w0 O0 (ins β i (.at w.heap.size size (xy (l.toArray++ag).size))) I (dn obj [(i,some ⟨size,rows⟩)]) (w.drew.alloc (.cells (l.toArray++ag) e)):=by
 have hd:=h.drew;obtain⟨hS,hM⟩:=Mem.alloc (i:=i) (o:=⟨size,rows⟩) (c:=l.toArray++ag) (e:=e) hd hn (yJ rows _ 0 size l hr (bj.mono (w:=w) (w':=w.drew) (λ _ _ h=>h) (λ _ _=>rfl) (λ _ h=>h) _ _ hl) h1 (λ j u hj=>by
  have hlt:=(dJ.1 hj).1;rw[Nat.zero_add,Array.getElem?_append_left (by simpa using hlt)];simpa using hj))
 exact⟨⟨hS.other,hS.ext,λb hb=>hS.same b hb,hS.inc⟩,hM⟩
theorem FN(hT:fu P T)(h:Mem P w0 O0 β I obj w)(hn:β i=none){t e ty:TypeId}{ei:nr}(fj:P.underlying t=some (.slice e))(fL:T e=some ei){n:Nat}{an:U (List AV)}{v:Value}
 (hsrc:W5 P β w I ei.size n an v) (hl:an.length=n) (h48:n*ei.bytes<=140737488355328) (h63:n<=maxLen):
 ∃u w' β',(Builtin.append_ #[t,t] ty #[.slice none 0 0,v]).run P w= .ok u w'/\Step β I w i β' I w'/\Mem P w0 O0 β' I (dn obj [(i,some ⟨ei.size,an⟩)]) w'/\VR P β' w' I (.own i 0 n) u:=by
 have he:=hT e ei fL;obtain⟨info,d,z,g1,g2,g3,g4,g5,g6,g7,g8⟩:=he.ex;rcases hsrc with ⟨rfl,b,c,rfl⟩ |⟨a,c,l,rfl,hpos,q1,q2,q3,q4,q5⟩
 .have hnew:an=[]:=eq_nil_of_length_eq_zero hl;subst hnew;have⟨hS,hM⟩:=Mem.pH (i:=i) (o:=⟨ei.size,[]⟩) h hn rfl;refine⟨.slice none 0 0,w,_,?_,hS,hM,by simp only[VR];exact .inl ⟨by simp[ins],trivial,trivial,trivial⟩⟩;cases b<;>simp[Builtin.append_,run_underlying fj,sizeOf,typeInfo,g1,Builtin.lenOf,Builtin.firstCells,loadCells,loadCellsFrom]
 .have hm:n<=9223372036854775807:=by simp only[maxLen]at h63;omega
  have hrun:=run_append_nil (P:=P) w t ty e info z fj g1 g5 a n c l (by rw[q3,g3]) q5 hpos (by omega) (by rw[g4];omega);have⟨hS,hM⟩:=Mem.grow (i:=i) (e:=e) (ag:=Builtin.zeroCells z.cells (grownCap w n 0 e -n)) h hn q4 q1 q2;refine⟨_,_,_,hrun,hS,hM,?_⟩;simp only[VR];refine .inr ⟨w.heap.size,ei.size,_,_,0,by simp[ins];rfl,rfl,grownCap_ge w n 0 e,?_,by simp⟩;have hz:z.cells.size=ei.size:=by rw[<- Array.length_toList,g6];exact he.len
  have hge:=grownCap_ge w n 0 e;simp only[size_zeroCells,OK,OF,q3,hz,Nat.zero_add,<- Nat.add_mul];exact Nat.mul_le_mul_right _ (by omega)
theorem Sz(hT:fu P T)(h:Mem P w0 O0 β I obj w)(hn:β i=none){t e ty:TypeId}{ei:nr}(fj:P.underlying t=some (.slice e))(fL:T e=some ei){n k aa len:Nat}{o:aU}{an:U (List AV)}{u v:Value}
 (hk:obj k=some o) (hsz:o.sz=ei.size) (hlen:(o.rows.drop aa).length=len) (hx:VR P β w I (.own k aa len) u)
 (hsrc:W5 P β w I ei.size n an v) (hl:an.length=n) (h48:(len+n)*ei.bytes<=140737488355328) (h63:len+n<=maxLen):
 ∃z w' β',(Builtin.append_ #[t,t] ty #[u,v]).run P w= .ok z w'/\Step β I w i β' I w'/\Mem P w0 O0 β' I (dn obj [(i,some ⟨ei.size,o.rows.drop aa++an⟩),(k,none)]) w'/\VR P β' w' I (.own i 0 (len+n)) z:=by
 have he:=hT e ei fL;obtain⟨info,d,z,g1,g2,g3,g4,g5,g6,g7,g8⟩:=he.ex;have hki:k≠i:=λe=>by
  have⟨B,hB,_⟩:=h.cQ k o hk;rw[e,hn]at hB;cases hB
 have z6:∀{β':Nat->J cV} {I':Nat->Prop} {w':World} {o':aU},Mem P w0 O0 β' I' (dn obj [(i,some o')]) w'->Mem P w0 O0 β' I' (dn obj [(i,some o'),(k,none)]) w':=by
  intro β' I' w' o' hM;refine hM.drop _ λj oj hj=>?_;simp only[dn]at hj ⊢;split
  .rw[aZ ‹_›]at hj;exact hj
  .rw[aT ‹_›]at hj;split at hj
   .cases hj
   .exact hj
 simp only[VR]at hx;rcases hx with ⟨hβ,rfl,_,rfl⟩ |⟨b,sz,m,cap,a,hβ,rfl,h2,h3,h4⟩
 .have hr:o.rows.drop aa=[]:=eq_nil_of_length_eq_zero hlen;rw[hr,bT,Nat.zero_add];obtain⟨z',w',β',e1,e2,e3,e4⟩:=FN (ty:=ty) hT h hn fj fL hsrc hl (by simpa using h48) (by simpa using h63);exact⟨z',w',β',e1,e2,z6 e3,e4⟩
 .have⟨B,hB,hO⟩:=h.cQ k o hk;rw[hβ]at hB;cases hB;obtain⟨hs,c,ce,hc,hcn,hO⟩:=hO;have hle:m.s+aa*sz<=m.m:=Nat.le_trans (Nat.add_le_add_left (Nat.mul_le_mul_right _ (Nat.le_add_right _ _)) _) h3;rw[Nat.add_mul]at h3;have hO:=bp.drop aa _ _ _ _ hO;obtain⟨hS0,hM0⟩:=Mem.xc (C:= .at b sz ⟨m.m,m.s+aa*sz,hle⟩) (o1:=⟨ei.size,o.rows.drop aa⟩) h hn hk hβ rfl ⟨by rw[hs,hsz],c,ce,hc,hcn,hO⟩;generalize hp:m.s+aa*sz=p at hO hle hS0 hM0 h4;rcases hsrc with ⟨rfl,b',c',rfl⟩ |⟨a',c',l,rfl,hpos,q1,q2,q3,q4,q5⟩
  .have hnew:an=[]:=eq_nil_of_length_eq_zero hl;subst hnew;rw[List.append_nil,Nat.add_zero];refine⟨.slice (some ⟨b,a,none⟩) len cap,w,_,?_,hS0,hM0,?_⟩
   .cases b'<;>simp[Builtin.append_,run_underlying fj,sizeOf,typeInfo,g1,Builtin.lenOf,Builtin.firstCells,loadCells,loadCellsFrom,h2,storeCells]
   .simp only[VR];exact .inr ⟨b,sz,⟨m.m,p,hle⟩,cap,a,by simp[ins],rfl,h2,by simp only[Nat.zero_add];omega,λh=>by simp[h4 h]⟩
  .obtain⟨ol,o1,o2,o3,o4,o5⟩:=bp.list _ _ _ _ hO;have hrl:∀r∈o.rows.drop aa++an,r.length=ei.size:=λr hr=>by
    rcases bn.1 hr with hr |hr
    .rw[o4 r hr,hs,hsz]
    .exact q4 r hr
   have hol:ol.length=len*info.size:=(by rw[o3,hlen,hs,hsz,g3]);by_cases hroom:len+n<=cap
   .
    have ha:a=p:=h4 (by omega);subst ha;have hcsz:a+cap*info.size<=c.size:=(by rw[g3,<- hsz,<- hs,hcn];omega);have hfit:a+len*info.size+l.length<=c.size:=by
     have:(len+n)*info.size<=cap*info.size:=Nat.mul_le_mul_right _ hroom;rw[Nat.add_mul]at this;rw[q3,<- g3];omega
    have hf:=run_firstCells_some (P:=P) w info.size n a' n c' l (by rw[q3,g3]) q5;have hst:=run_storeCells_at P b (a+len*info.size) ce l 0 c w hc (by omega) (λ u hu=>oneCell' (q2 u hu));simp only[Nat.add_zero]at hst;generalize hc':(List.take (a+len*info.size) c.toList++l++List.drop (a+len*info.size+l.length) c.toList).toArray=cc at hst;have Th:cc.size=c.size:=(by rw[<- hc'];simp[length_take,length_drop];omega);have hrun:(Builtin.append_ #[t,t] ty #[.slice (some ⟨b,a,none⟩) len cap,.slice (some a') n c']).run P w= .ok (.slice (some ⟨b,a,none⟩) (len+n) cap) (w.setRow b cc):=by
     have hf':(Builtin.firstCells info.size n (.slice (some a') n c')).run P w= .ok l.toArray w:=hf;simp[Builtin.append_,run_underlying fj,sizeOf,typeInfo,g1,Builtin.lenOf,hroom,hf',addr_add,hst]
    have hcells:∀j u,(ol++l)[j]? =some u->cc[a+j]? =some u:=by
     intro j u hj;rw[<- hc',List.getElem?_toArray];have h1:(c.toList.take (a+len*info.size)).length=a+len*info.size:=(by simp[length_take];omega);by_cases hjl:j<ol.length
     .rw[List.getElem?_append_left hjl]at hj;have:=o5 j u hj;rw[aO,List.getElem?_append_left (by omega),List.getElem?_take,aZ (by omega),Array.getElem?_toList];exact this
     .rw[jD (by omega)]at hj;have hjl2:=(dJ.1 hj).1;rw[aO,jD (by omega),h1,List.getElem?_append_left (by omega),show a+j -(a+len*info.size)=j -ol.length by omega];exact hj
    obtain⟨wa,hM⟩:=Mem.write (o':=⟨ei.size,o.rows.drop aa++an⟩) hM0 (k:=i) (o:=⟨ei.size,o.rows.drop aa⟩) (b:=b) (s:=sz) (n:=⟨m.m,a,hle⟩) (by simp only[dn,if_true]) (by simp only[ins,if_true]) (c':=cc) (e:=ce) (setRow_heap w b c cc ce (0,0) hc) (λ b' hb=>setRow_other w b b' cc hb) (by simp) rfl rfl rfl (by rw[hs,hsz]) (by simp;omega)
     (yJ _ _ _ ei.size (ol++l) hrl (bj.mono hS0.ext (λ _ _=>rfl) (λ _ h=>h) _ _ (by simp only[List.flatten_append];exact bj.append _ _ _ _ o1 q1)) (λ u hu=>by
      rcases bn.1 hu with hu |hu
      .exact o2 u hu
      .exact q2 u hu) hcells)
    refine⟨_,_,_,hrun,⟨hS0.other,hS0.ext,wa,λ_ h=>h⟩,hM.drop _ (λ j oj hj=>?_),?_⟩
    .simp only[dn]at hj ⊢;split at hj
     .rw[aZ ‹_›];exact hj
     .rw[aT ‹_›,aT ‹_›];exact hj
    .simp only[VR];exact .inr ⟨b,sz,⟨m.m,a,hle⟩,cap,a,by simp[ins],rfl,hroom,by simp only[Nat.zero_add];omega,by simp⟩
   .have holds:∀j v,ol[j]? =some v->w.cell? ((⟨b,a,none⟩:Addr).add j)=some v:=by
     intro j v hj;have hjl:=(dJ.1 hj).1;have tz:len≠0:=λh0=>(by rw[hol,h0]at hjl;simp at hjl);rw[addr_add,h4 (by omega)];have:=o5 j v hj;simp[World.cell?,hc]at this ⊢;exact this
    have hm:len+n<=9223372036854775807:=(by simp only[maxLen]at h63;omega);have hrun:=run_append_grow (P:=P) w t ty e info z fj g1 g5 ⟨b,a,none⟩ len cap ol hol holds a' n c' l (by rw[q3,g3]) q5 (by omega) (by omega) (growslice_fits (by omega) (by rw[g4];exact h48));have happ:bj P β w I (o.rows.drop aa++an).flatten (ol++l):=(by simp only[List.flatten_append];exact bj.append _ _ _ _ o1 q1);obtain⟨hS,hM⟩:=Mem.grow (i:=i) (e:=e) (ag:=Builtin.zeroCells z.cells (grownCap w (len+n) cap e -(len+n))) h hn hrl happ (λ u hu=>by
     rcases bn.1 hu with hu |hu
     .exact o2 u hu
     .exact q2 u hu)
    have VV:ol.toArray++l.toArray++Builtin.zeroCells z.cells (grownCap w (len+n) cap e -(len+n))=(ol++l).toArray++Builtin.zeroCells z.cells (grownCap w (len+n) cap e -(len+n)):=(by simp);rw[VV]at hrun;refine⟨_,_,_,hrun,hS,z6 hM,?_⟩;simp only[VR];refine .inr ⟨w.heap.size,ei.size,_,_,0,by simp[ins];rfl,rfl,grownCap_ge w (len+n) cap e,?_,by simp⟩;have hz:z.cells.size=ei.size:=(by rw[<- Array.length_toList,g6];exact he.len);have hge:=grownCap_ge w (len+n) cap e;simp only[size_zeroCells,OK,OF,q3,hol,hz,g3,Nat.zero_add,<- Nat.add_mul];exact Nat.mul_le_mul_right _ (by omega)
end
section
variable {P:Program} {T:er} {w0:World} {O0:kx} {β:Nat->Option cV} {I:Nat->Prop} {obj:Nat->Option aU} {w:World} {i:Nat}
theorem Yx(hT:fu P T)(h:Mem P w0 O0 β I obj w)(hn:β (cT i)=none){t ty:TypeId}{x y:AV}{cL:j7}{get:Nat->J aU}{ab:Out}{u v:Value}(hg:∀k o,get k=some o->obj k=some o)
 (ha:zZ T i t x y cL get=some ab) (cW:ab.ob) (hx:VR P β w I x u) (hy:VR P β w I y v):
 ∃z w' β',(Builtin.append_ #[t,t] ty #[u,v]).run P w= .ok z w'/\Step β I w (cT i) β' I w'/\Mem P w0 O0 β' I (dn obj ab.upd) w'/\VR P β' w' I ab.v z:=by
 unfold zZ at ha;cases hti:T t with
 |none=>simp[hti]at ha
 |some ti=>
  have ht:=hT t ti hti;simp only[hti,af]at ha;split at ha
  .rename_i e hkd;cases fL:T e with
   |none=>simp[fL]at ha
   |some ei=>
    simp only[fL,af]at ha;have fj:=gY ht hkd;split at ha
    .rename_i rs;cases hs:UY ei.size y get with
     |none=>simp[hs]at ha
     |some p=>
      obtain⟨n,ob,an⟩:=p;simp only[hs,af]at ha;split at ha
      .rename_i k aa len;cases hk:get k with
       |none=>simp[hk]at ha
       |some o=>
        simp only[hk,af]at ha;split at ha
        .rename_i hsz;cases ha;obtain⟨b1,b2,b3,rfl,b5,b6⟩:=cW;have e:(o.rows.drop aa++an).length=len+n:=(by rw[dP,b2,b3]);simp only[e];exact Sz hT h hn fj fL (hg k o hk) hsz b2 hx (ZH h hg hs b1 b3 hy) b3 b5 b6
        .cases ha
      .cases ha;obtain⟨b1,b2,rfl,b5,b6⟩:=cW;simp only[VR]at hx;subst hx;simp only[b2];exact FN hT h hn fj fL (ZH h hg hs b1 b2 hy) b2 b5 b6
      .cases ha
    .cases ha
  .cases ha
theorem bj.map{ρ:Operand->AV}{r:Operand->Value}(hρ:∀x,VR P β w I (ρ x) (r x)):∀(l:U Operand),bj P β w I (l.map ρ) (l.map r)
 |[]=>by simp[bj]
 |x::xs=>by simp only[aH,bj];exact⟨hρ x,bj.map hρ xs⟩
theorem U2(hT:fu P T)(h:Mem P w0 O0 β I obj w)(hn:β (cT i)=none){b:Builtin}{args:U AV}{c7:Array TypeId}{cL:j7}{get:Nat->J aU}{ab:Out}(hg:∀k o,get k=some o->obj k=some o)
 {vs:Array Value} {ty:TypeId} {al:Array Operand} (ha:Cv T i b args c7.toList cL get=some ab) (cW:ab.ob) (hv:bj P β w I args vs.toList) {r:Operand->Value} (hops:vs=al.map r) {dst:J Tmp} {ao:String} {after:Array Edge} {guard:J (Nat×Bool)}:
 sq P w0 O0 β I obj w i ab ((execOp r ⟨dst,.call { callee:= .builtin b,args:=al,argTypes:=c7 },ty,ao,after,guard⟩).run P w):=by
 unfold Cv at ha;split at ha
 .rename_i x t q7;obtain⟨v,hvs⟩:∃v,vs=#[v]:=by
   obtain⟨l⟩:=vs
   match l,hv with
   |[v],_=>exact⟨v,rfl⟩
   |[],h=>simp[bj]at h
   |_::_::_,h=>simp[bj]at h
  have ht:c7=#[t]:=by cases c7;simpa using q7
  subst hvs ht;simp only[bj]at hv;have⟨u,h1,h2,h3⟩:=afV (ty:=ty) hT ha cW hv.1;refine⟨u,w,β,I,.inl ?_,Step.refl ..,by rw[h3];exact h,h2⟩;simp[execOp,resolve,invoke,builtin,<- hops,h1]
 .have⟨u,h1,h2,h3⟩:=ZF (c7:=c7) (ty:=ty) ha hv;simp only[if_true]at h1;refine⟨u,w,β,I,.inl ?_,Step.refl ..,by rw[h3];exact h,h2⟩;simp[execOp,resolve,invoke,builtin,<- hops,h1]
 .have⟨u,h1,h2,h3⟩:=ZF (c7:=c7) (ty:=ty) ha hv;simp only[Bool.false_eq_true,if_false]at h1;refine⟨u,w,β,I,.inl ?_,Step.refl ..,by rw[h3];exact h,h2⟩;simp[execOp,resolve,invoke,builtin,<- hops,h1]
 .rename_i x y t u q7;split at ha
  .rename_i htu;subst htu;obtain⟨v,v',hvs⟩:∃v v',vs=#[v,v']:=by
    obtain⟨l⟩:=vs
    match l,hv with
    |[v,v'],_=>exact⟨v,v',rfl⟩
    |[],h=>simp[bj]at h
    |[_],h=>simp[bj]at h
    |_::_::_::_,h=>simp[bj]at h
   have ht:c7=#[t,t]:=(by cases c7;simpa using q7);subst hvs ht;simp only[bj]at hv;have⟨z,w',β',h1,h2,h3,h4⟩:=Yx (ty:=ty) hT h hn hg ha cW hv.1 hv.2.1;refine⟨z,w',β',I,.inl ?_,h2,h3,h4⟩;simp[execOp,resolve,invoke,builtin,<- hops,h1]
  .cases ha
 .cases ha
theorem Ro(hT:fu P T)(h:Mem P w0 O0 β I obj w)(hn:β (cT i)=none){o:Oper}{cL:j7}{ρ:Operand->AV}{get:Nat->J aU}{ab:Out}(hg:∀k o,get k=some o->obj k=some o)
 {r:Operand->Value} (hρ:∀x,VR P β w I (ρ x) (r x)) (ha:ql T i o cL ρ get=some ab) (cW:ab.ob):sq P w0 O0 β I obj w i ab ((execOp r o).run P w):=by
 obtain⟨dst,op,ty,ao,after,guard⟩:=o;have val:∀{s:Sem Value}{z:Value},s.run P w= .ok z w->ab.upd=[]->VR P β w I ab.v z->sq P w0 O0 β I obj w i ab ((do pure (.value (<- s)):Sem Next).run P w):=by
  intro s z h1 h2 h3;refine⟨z,w,β,I,.inl (by simp[h1]),Step.refl ..,by rw[h2];exact h,h3⟩
 have val':∀{s:Sem Value} {z:Value} {w':World} {β':Nat->J cV},s.run P w= .ok z w'->Step β I w (cT i) β' I w'->Mem P w0 O0 β' I (dn obj ab.upd) w'->VR P β' w' I ab.v z->sq P w0 O0 β I obj w i ab ((do pure (.value (<- s)):Sem Next).run P w):=by
  intro s z w' β' h1 h2 h3 h4;exact⟨z,w',β',I,.inl (by simp[h1]),h2,h3,h4⟩
 unfold ql at ha;split at ha
 .rename_i x heq;simp only at heq;subst heq;simp only[pv,aC]at ha;subst ha;exact sq.pure h (hρ x)
 .rename_i x heq;simp only at heq;subst heq;simp only[pv,aC]at ha;subst ha;exact sq.pure h (hρ x)
 .rename_i c a b heq;simp only at heq;subst heq;split at ha
  .rename_i t hc;simp only[pv,aC]at ha;subst ha;have h1:=hρ c;rw[hc]at h1;simp only[VR,TR]at h1;refine⟨if t then r a else r b,w,β,I,.inl ?_,Step.refl ..,h,?_⟩
   .simp only[execOp,h1.1,asBool];simp
   .rw[UZ];cases t
    .exact hρ b
    .exact hρ a
  .cases ha
 .rename_i e heq;simp only at heq;subst heq;have⟨u,w',β',h1,h2,h3,h4⟩:=aaX hT h hn ha;exact val' h1 h2 h3 h4
 .rename_i e x heq;simp only at heq;subst heq;have⟨u,w',β',h1,h2,h3,h4⟩:=afT (e:=e) h hn ha (hρ x);exact val' h1 h2 h3 h4
 .rename_i t parts heq;simp only at heq;subst heq;obtain⟨z,h1,h2,h3⟩:=aa1 (w:=w) (P:=P) (β:=β) (I:=I) (vs:=parts.map λ(i,x)=>(i,r x)) hT ha (by simp) (by
   simp only[Array.toList_map,map_map];have hm:=bj.map (λ x=>hρ x) (parts.toList.map (·.2));simp only[map_map]at hm;exact hm)
  exact val h1 h3 h2
 .rename_i t len parts heq;simp only at heq;subst heq;obtain⟨z,w',β',h1,h2,h3,h4⟩:=MQ (vs:=parts.map λ(i,x)=>(i,r x)) hT h hn ha (by simp) (by
   simp only[Array.toList_map,map_map];have hm:=bj.map (λ x=>hρ x) (parts.toList.map (·.2));simp only[map_map]at hm;exact hm)
  exact val' h1 h2 h3 h4
 .rename_i t a heq;simp only at heq;subst heq;have⟨u,h1,h2,h3⟩:=Rn hT h hg ha cW (hρ a);exact val h1 h3 h2
 .rename_i t a x heq;simp only at heq;subst heq;have⟨w',h1,h2,h3,h4⟩:=aaW hT h hg ha cW (hρ a) (hρ x);exact⟨undef,w',β,I,.inr ⟨by simp[execOp,h1],rfl⟩,⟨λ _ _=>rfl,λ_ _ h=>h,h2,λ_ h=>h⟩,h3,by rw[h4];simp[VR]⟩
 .rename_i op t x y yt heq;simp only at heq;subst heq;have⟨z,h1,h2,h3⟩:=afU (xo:=x) (yo:=y) hT ha cW (hρ x) (hρ y);exact val h1 h3 h2
 .rename_i op t x heq;simp only at heq;subst heq;have⟨z,h1,h2,h3⟩:=ajo ha (hρ x);exact val h1 h3 h2
 .rename_i f first caps heq
  simp only at heq;subst heq;simp only[pv,aC]at ha;subst ha;refine⟨.func (.func f) (first.map r) (caps.map r),w,β,I,.inl ?_,Step.refl ..,h,?_⟩
  .simp[execOp,Instr.makeFunc]
  .simp only[VR];exact⟨_,_,rfl,by rw[Array.toList_map];exact bj.map hρ _,by rw[Array.toList_map];exact bj.map hρ _⟩
 .rename_i t x lo hi heq;simp only at heq;subst heq
  obtain⟨u,h1,h2,h3⟩:=aa2 (tw:=lo.map r) (hiv:=hi.map r) hT h hg ha cW (hρ x)
   (λ y hy=>by
    cases lo with
    |none=>simp at hy
    |some z=>simp at hy;subst hy;exact⟨r z,rfl,hρ z⟩) (λ hy=>by cases lo<;>simp at hy ⊢)
   (λ y hy=>by
    cases hi with
    |none=>simp at hy
    |some z=>simp at hy;subst hy;exact⟨r z,rfl,hρ z⟩) (λ hy=>by cases hi<;>simp at hy ⊢)
  exact val h1 h3 h2
 .rename_i t x f heq;simp only at heq;subst heq;have⟨u,h1,h2,h3⟩:=Pv hT ha (hρ x);exact val h1 h3 h2
 .rename_i t x f heq;simp only at heq;subst heq;have⟨u,h1,h2,h3⟩:=aaY hT ha (hρ x);exact val h1 h3 h2
 .rename_i t x j heq;simp only at heq;subst heq;have⟨u,h1,h2,h3⟩:=Pw hT h hg ha cW (hρ x) (hρ j);exact val h1 h3 h2
 .rename_i x j heq;simp only at heq;subst heq;have⟨u,h1,h2,h3⟩:=U0 ha (hρ x);exact val h1 h3 h2
 .rename_i b args c7 heq;simp only at heq;subst heq;exact U2 (ty:=ty) hT h hn hg (vs:=args.map r) ha cW (by rw[Array.toList_map];exact bj.map hρ _) rfl
 .cases ha
end
def Tree.flat:Tree->Prop
 | .sc _=>True
 | .sl _=>False
def TV.flat:TV->Prop
 | .s x=>x.flat
 | .a cs=>∀x∈cs,x.flat
def RC.flat:RC->Prop
 | .d x=>x.flat
 | .fresh _ rows=>∀r∈rows,∀x∈r,x.flat
 | .whole _ _=>True
def RV.flat:RV->Prop
 | .one c=>c.flat
 | .eV cs=>∀c∈cs,c.flat
def Kv(i:Nat)(ae:U Nat):RC->AV×List (Nat×Option aU)
 | .whole j len=>(match ae[j]? with |some k=> .own k 0 len |none=> .undef,[])
 | .d x=>(x.av,[])
 | .fresh sz rows=>(.own (cT i) 0 (aK rows).length,[(cT i,some ⟨sz,aK rows⟩)])
def MR(i:Nat)(ae:U Nat):U RC->J (List AV×List (Nat×Option aU))
 |[]=>some ([],[])
 |c::cs=>(MR i ae cs).bind λp=>if (Kv i ae c).2.isEmpty || p.2.isEmpty then some ((Kv i ae c).1::p.1,(Kv i ae c).2++p.2)else none
def imp(i:Nat)(ae:U Nat):RV->J (AV×List (Nat×Option aU))
 | .one c=>some (Kv i ae c)
 | .eV cs=>(MR i ae cs).bind λp=>some (.eV p.1,p.2)
mutual
def nU(P:Program)(get:Nat->Option aU):AV->List LH->Option (AV×List LH×List Prop)
 | .t x,hs=>some (.t x,hs,[])
 | .agg cs,hs=>(mI P get cs hs).bind λp=>some (.agg p.1,p.2.1,p.2.2)
 | .eV _,_=>none
 | .own k aa len,hs=>match hs with
  | .rows tr::hs=>(get k).bind λo=>some (.t (.sl tr),hs,[(o.rows.drop aa).take len=aK tr/\tr.length=len])
  |_=>none
 | .ptr k row aa,hs=>match hs with
  | .row tr::hs=>(get k).bind λo=>some (.eM tr aa,hs,[o.rows[row]? =some (tr.map AV.t)])
  |_=>none
 | .eM r o,hs=>some (.eM r o,hs,[])
 | .fn f first caps,hs=>match hs with
  | .fn::hs=>(mI P get first hs).bind λp=>(mI P get caps p.2.1).bind λq=>some (.fn f p.1 q.1,q.2.1,p.2.2++q.2.2)
  | .eo φ::hs=>(mI P get first hs).bind λp=>(mI P get caps p.2.1).bind λq=>
   some (.eo φ,q.2.1,p.2.2++(q.2.2++[p.1=[]/\eZ P f/\∀args r,φ args r->ri P f (p.1++args.map TV.av++q.1) (.one (.d r))]))
  |_=>none
 | .eo φ,hs=>some (.eo φ,hs,[])
 | .mp _,_=>none
 | .oz k len,hs=>match hs with
  | .rows tr::hs=>(get k).bind λo=>some (.t (.sl tr),hs,[(o.rows.drop 0).take len=aK tr/\tr.length=len])
  |_=>none
 | .dc,hs=>match hs with
  | .nil::hs=>some (.dc,hs,[])
  | .emp::hs=>some (.t (.sl []),hs,[])
  |_=>none
 | .ub,_=>none
 | .undef,_=>none
def mI(P:Program)(get:Nat->Option aU):List AV->List LH->Option (List AV×List LH×List Prop)
 |[],hs=>some ([],hs,[])
 |x::xs,hs=>(nU P get x hs).bind λp=>(mI P get xs p.2.1).bind λq=>some (p.1::q.1,q.2.1,p.2.2++q.2.2)
end
def xI(P:Program)(i:Nat)(f:AV)(args:U AV)(cL:j7)(get:Nat->J aU):J Out:=
 match f,cL with
 | .fn F first caps,.call hs rv keep=>(imp i [] rv).bind λp=>(mI P get (first++args++caps) hs).bind λq=>
  if keep then some ⟨p.1,p.2,q.2.2++[ri P F q.1 rv,rv.flat]⟩
  else some ⟨p.1,p.2++(fe (first++args++caps)).map (λ k=>(k,none)),q.2.2++[ri P F q.1 rv]⟩
 | .eo φ,.DE hs targs r keep=>(mI P get args hs).bind λq=>
  if keep then some ⟨r.av,[],q.2.2++[q.1=targs.map TV.av,φ targs r,r.flat]⟩
  else some ⟨r.av,(fe args).map (λ k=>(k,none)),q.2.2++[q.1=targs.map TV.av,φ targs r]⟩
 |_,_=>none
def Aa(P:Program)(w0:World)(O0:kx)(β:Nat->J cV)(I:Nat->Prop)(obj:Nat->J aU)(w:World)(i:Nat)(ab:Out)(r:Result Next):Prop:=
 ∃F args,r= .ok (.enter F args) w/\Calls P F args w λe w'=>∃v' β' I',e= .returned v'/\Step β I w (cT i) β' I' w'/\Mem P w0 O0 β' I' (dn obj ab.upd) w'/\VR P β' w' I' ab.v v'
section
variable {P:Program} {T:er} {w0:World} {O0:kx} {β:Nat->Option cV} {I:Nat->Prop} {obj:Nat->Option aU} {w:World} {i:Nat}
mutual
theorem fh.weaken{get get':Nat->Option aU}(h:∀k o,get k=some o->get' k=some o):∀(xs ys:List AV),fh P get xs ys->fh P get' xs ys
 |[],[],_=>by simp[fh]
 |x::xs,y::ys,hb=>by simp only[fh]at hb ⊢;exact⟨fW.weaken h x y hb.1,fh.weaken h xs ys hb.2⟩
 |[],_::_,hb=>by simp[fh]at hb
 |_::_,[],hb=>by simp[fh]at hb
theorem fW.weaken{get get':Nat->Option aU}(h:∀k o,get k=some o->get' k=some o):∀(x y:AV),fW P get x y->fW P get' x y
 | .t _,_,hb=>by simpa[fW]using hb
 | .agg cs,y,hb=>by
  simp only[fW]at hb ⊢;obtain⟨cs',h1,h2⟩:=hb;exact⟨cs',h1,fh.weaken h cs cs' h2⟩
 | .eV _,_,hb=>by simp[fW]at hb
 | .own k aa len,y,hb=>by
  simp only[fW]at hb ⊢;obtain⟨o,tr,h1,h2⟩:=hb;exact⟨o,tr,h k o h1,h2⟩
 | .ptr k row aa,y,hb=>by
  simp only[fW]at hb ⊢;obtain⟨o,tr,h1,h2⟩:=hb;exact⟨o,tr,h k o h1,h2⟩
 | .eM _ _,_,hb=>by simpa[fW]using hb
 | .fn f first caps,y,hb=>by
  simp only[fW]at hb ⊢;obtain⟨a,b,h1,h2,h3⟩:=hb;exact⟨a,b,fh.weaken h first a h1,fh.weaken h caps b h2,h3⟩
 | .eo _,_,hb=>by simpa[fW]using hb
 | .oz k len,y,hb=>by
  simp only[fW]at hb ⊢;obtain⟨o,tr,h1,h2⟩:=hb;exact⟨o,tr,h k o h1,h2⟩
 | .dc,_,hb=>by simpa[fW]using hb
 | .ub,_,hb=>by simp[fW]at hb
 | .undef,_,hb=>by simp[fW]at hb
end
mutual
theorem D9{get:Nat->Option aU}:∀(x:AV)(hs:List LH)(p:AV×List LH×List Prop),nU P get x hs=some p->(∀ q∈p.2.2,q)->fW P get x p.1
 | .t x,hs,p,h,_=>by simp only[nU,aC]at h;subst h;simp[fW]
 | .agg cs,hs,p,h,ho=>by
  simp only[nU,ai,aC]at h;obtain⟨q,h1,rfl⟩:=h;simp only[fW];exact⟨_,rfl,jX cs hs q h1 ho⟩
 | .eV _,_,_,h,_=>by simp[nU]at h
 | .own k aa len,hs,p,h,ho=>by
  simp only[nU]at h;split at h
  .simp only[ai,aC]at h;obtain⟨o,h1,rfl⟩:=h;have h2:=ho _ (aR.2 rfl);simp only[fW];exact⟨o,_,h1,rfl,h2.1,h2.2⟩
  .cases h
 | .ptr k row aa,hs,p,h,ho=>by
  simp only[nU]at h;split at h
  .simp only[ai,aC]at h;obtain⟨o,h1,rfl⟩:=h;have h2:=ho _ (aR.2 rfl);simp only[fW];exact⟨o,_,h1,rfl,h2⟩
  .cases h
 | .eM r o,hs,p,h,_=>by simp only[nU,aC]at h;subst h;simp[fW]
 | .fn f first caps,hs,p,h,ho=>by
  simp only[nU]at h;split at h
  .simp only[ai,aC]at h;obtain⟨q,h1,q',h2,rfl⟩:=h;simp only[fW];exact⟨q.1,q'.1,jX first _ q h1 (λ x hx=>ho x (by simp[hx])),jX caps _ q' h2 (λ x hx=>ho x (by simp[hx])),.inl rfl⟩
  .simp only[ai,aC]at h;obtain⟨q,h1,q',h2,rfl⟩:=h;have h3:=ho _ (by simp only[bn,aR];exact .inr (.inr rfl));simp only[fW];exact⟨q.1,q'.1,jX first _ q h1 (λ x hx=>ho x (by simp[hx])),jX caps _ q' h2 (λ x hx=>ho x (by simp[hx])),.inr ⟨_,rfl,h3.1,h3.2⟩⟩
  .cases h
 | .eo φ,hs,p,h,_=>by simp only[nU,aC]at h;subst h;simp[fW]
 | .mp _,_,_,h,_=>by simp[nU]at h
 | .oz k len,hs,p,h,ho=>by
  simp only[nU]at h;split at h
  .simp only[ai,aC]at h;obtain⟨o,h1,rfl⟩:=h;have h2:=ho _ (aR.2 rfl);simp only[fW];exact⟨o,_,h1,rfl,h2.1,h2.2⟩
  .cases h
 | .dc,hs,p,h,_=>by
  simp only[nU]at h;split at h
  .cases h;simp[fW]
  .cases h;simp[fW]
  .cases h
 | .ub,_,_,h,_=>by simp[nU]at h
 | .undef,_,_,h,_=>by simp[nU]at h
theorem jX{get:Nat->Option aU}:∀(xs:List AV)(hs:List LH)(p:List AV×List LH×List Prop),mI P get xs hs=some p->(∀ q∈p.2.2,q)->fh P get xs p.1
 |[],hs,p,h,_=>by simp only[mI,aC]at h;subst h;simp[fh]
 |x::xs,hs,p,h,ho=>by
  simp only[mI,ai,aC]at h;obtain⟨q,h1,q',h2,rfl⟩:=h;simp only[fh];exact⟨D9 x hs q h1 (λ y hy=>ho y (by simp[hy])),jX xs _ q' h2 (λ y hy=>ho y (by simp[hy]))⟩
end
theorem qJ:∀(l:U Prop),jq l->∀p∈l,p
 |[],_,_,hp=>by simp at hp
 |[q],h,p,hp=>by rw[aR]at hp;rw[hp];exact h
 |q::r::l,h,p,hp=>by
  rcases aQ.1 hp with e |hp
  .rw[e];exact h.1
  .exact qJ (r::l) h.2 p hp
theorem Tree.mz{w':World}{I':Nat->Prop}:∀{x:Tree}{v:Value},x.flat->TR w I x v->TR w' I' x v
 | .sc _,_,_,h=>by simpa[TR]using h
 | .sl _,_,hf,_=>hf.elim
theorem TV.wd{w':World}{I':Nat->Prop}:∀{x:TV}{v:Value},x.flat->rx w I x v->rx w' I' x v
 | .s _,_,hf,h=>Tree.mz hf h
 | .a cs,v,hf,⟨vs,h1,h2⟩=>by
  refine⟨vs,h1,?_⟩;have:∀(cs:U Tree)(vs:U Value),(∀ x∈cs,x.flat)->ff w I cs vs->ff w' I' cs vs:=by
   intro cs
   induction cs with
   |nil=>intro vs _ h;cases vs with
    |nil=>trivial
    |cons=>exact h.elim
   |cons x xs ih=>intro vs hf h;cases vs with
    |nil=>exact h.elim
    |cons v vs=>exact⟨Tree.mz (hf x (by simp)) h.1,ih vs (λ y hy=>hf y (by simp[hy])) h.2⟩
  exact this cs vs.toList hf h2
theorem bp.flat{β':Nat->J cV}{w':World}{I':Nat->Prop}(rows:U (List Tree))(c:Array Value)(aa sz:Nat)(hf:∀r∈rows,∀x∈r,Tree.flat x)(h:bp P β w I (aK rows) c aa sz):bp P β' w' I' (aK rows) c aa sz:=by
 rw[oG]at h ⊢;intro i r hr;have⟨h1,h2⟩:=h i r hr;refine⟨h1,?_⟩;rw[jy]at h2 ⊢;intro j x hx;have⟨v,g1,g2,g3⟩:=h2 j x hx;refine⟨v,g1,?_,g3⟩;simp only[aK,List.getElem?_map,dQ]at hr;obtain⟨r',hr',rfl⟩:=hr;simp only[List.getElem?_map,dQ]at hx;obtain⟨x',hx',rfl⟩:=hx;simp only[VR]at g2 ⊢;exact Tree.mz (hf r' (dD hr') x' (dD hx')) g2
theorem TV.Jn{x:TV}{v:Value}(h:rx w I x v):VR P β w I x.av v:=by
 cases x with
 |s x=>simp only[TV.av,VR];exact h
 |a cs=>
  obtain⟨vs,rfl,h⟩:=h;simp only[TV.av,VR];refine⟨vs,rfl,?_⟩;have:∀(cs:U Tree)(us:U Value),ff w I cs us->bj P β w I (cs.map AV.t) us:=by
   intro cs
   induction cs with
   |nil=>intro us h;cases us with
    |nil=>simp[bj]
    |cons=>simp[ff]at h
   |cons x xs ih=>intro us h;cases us with
    |nil=>simp[ff]at h
    |cons y ys=>simp only[ff]at h;simp only[aH,bj,VR];exact⟨h.1,ih _ h.2⟩
  exact this cs vs.toList h
theorem Mem.fresh{i:Nat}{obj:Nat->J aU}{F:Nat->Prop}{sz:Nat}{rows:U (List Tree)}{v:Value}(h:Mem P w0 O0 β I obj w)(hn:β i=none)(hlt:∀k o b,obj k=some o->fx β k b->¬F b)(hle:∀b,F b->O0.own b\/w0.heap.size<=b)(hf:P4 P F sz rows w I v):
 ∃ β',Step β I w i β' I w/\Mem P w0 O0 β' I (dn obj [(i,some ⟨sz,aK rows⟩)]) w/\VR P β' w I (.own i 0 rows.length) v:=by
 rcases hf with ⟨rfl,rfl⟩ |⟨b,c,e,cap,o,s,rfl,h1,h2,h3,h4,h5,h6,h7⟩
 .have⟨hS,hM⟩:=Mem.pH (i:=i) (o:=⟨sz,aK []⟩) h hn rfl;exact⟨_,hS,hM,by simp only[VR];exact .inl ⟨by simp[ins],trivial,trivial,rfl⟩⟩
 .have hsl:s<=c.size:=by omega
  have hS:Step β I w i (ins β i (.at b sz ⟨c.size,s,hsl⟩)) I w:=⟨λ j hj=>by simp[ins,i7.ne hj],ny hn,λ_ _=>rfl,λ_ h=>h⟩;refine⟨_,hS,?_,by simp only[VR];exact .inr ⟨b,sz,⟨c.size,s,hsl⟩,cap,o,by simp[ins],rfl,h4,by simpa using h5,λhc=>by simpa using h7 hc⟩⟩;have hbl:b<w.heap.size:=(Array.getElem?_eq_some_iff.1 h3).1;constructor
  .intro k o' hk;simp only[dn]at hk;split at hk
   .cases hk;rename_i hki;exact⟨.at b sz ⟨c.size,s,hsl⟩,by simp[ins,hki],rfl,c,e,h3,rfl,bp.mono (λ k B h=>by simp[my]at h) (λ _ _=>rfl) (λ _ h=>h) _ _ _ _ h6⟩
   .have⟨B,hB,hO⟩:=h.cQ k o' hk;exact⟨B,ny hn _ _ hB,OR.mono hS.ext hS.same hS.inc (λ _ _=>rfl) hO⟩
  .intro k k' o1 o2 B1 B2 b1 e1 e2 e3 e4 e5 e6;simp only[dn]at e1 e2;simp only[ins]at e3 e4;split at e3<;>split at e4
   .rename_i p q;rw[p,q]
   .rename_i p q;cases e3;cases e5;rw[aT q]at e2;exact(hlt k' o2 _ e2 ⟨_,e4,e6⟩ h1).elim
   .rename_i p q;cases e4;cases e6;rw[aT p]at e1;exact(hlt k o1 _ e1 ⟨_,e3,e5⟩ h1).elim
   .rename_i p q;rw[aT p]at e1;rw[aT q]at e2;exact h.gE k k' o1 o2 B1 B2 b1 e1 e2 e3 e4 e5 e6
  .intro k o' B1 b1 e1 e2 e3;simp only[dn]at e1;simp only[ins]at e2;split at e2
   .cases e2;cases e3;exact⟨h2,hbl,hle _ h1⟩
   .rename_i p;rw[aT p]at e1;exact h.ownB k o' B1 b1 e1 e2 e3
  .exact h.lt
  .exact h.up
  .exact h.keep
  .exact h.le
  .exact h.os
  .exact h.tape
  .exact h.output
  .intro j C hj;exact ny hn _ _ (h.anch j C hj)
  .exact h.vars
theorem U3{i:Nat}{ae:U Nat}{F:Nat->Prop}{βc:Nat->J cV}{c:RC}{v:Value}(h:Mem P w0 O0 β I obj w)(hn:β (cT i)=none)(hlt:∀k o b,obj k=some o->fx β k b->¬F b)(hle:∀b,F b->O0.own b\/w0.heap.size<=b)(hbc:∀j B,βc j=some B->∃k,ae[j]? =some k/\β k=some B)(hc:yq P F βc c w I v):
 ∃ β',Step β I w (cT i) β' I w/\Mem P w0 O0 β' I (dn obj (Kv i ae c).2) w/\VR P β' w I (Kv i ae c).1 v/\((Kv i ae c).2=[]->β'=β):=by
 cases c with
 |d x=>exact⟨β,Step.refl ..,h,TV.Jn hc,λ_=>rfl⟩
 |fresh sz rows=>
  have⟨β',h1,h2,h3⟩:=Mem.fresh (i:=cT i) h hn hlt hle hc;exact⟨β',h1,h2,by simpa[Kv,aK]using h3,λh=>by simp[Kv]at h⟩
 |whole j len=>
  refine⟨β,Step.refl ..,h,?_,λ_=>rfl⟩;have hc:VR P βc w I (.own j 0 len) v:=hc;simp only[VR]at hc;have key:∀B,βc j=some B->∃k,ae[j]? =some k/\β k=some B:=hbc j;simp only[Kv];rcases hc with ⟨g1,g2⟩ |⟨b,sz,n,cap,o,g1,g2⟩
  .obtain⟨k,e1,e2⟩:=key _ g1;simp only[e1,VR];exact .inl ⟨e2,g2⟩
  .obtain⟨k,e1,e2⟩:=key _ g1;simp only[e1,VR];exact .inr ⟨b,sz,n,cap,o,e2,g2⟩
theorem U4{i:Nat}{ae:U Nat}{F:Nat->Prop}{βc:Nat->J cV}:∀(cs:U RC)(vs:U Value)(p:U AV×List (Nat×Option aU)),Mem P w0 O0 β I obj w->β (cT i)=none->(∀ k o b,obj k=some o->fx β k b->¬F b)->(∀ b,F b->O0.own b\/w0.heap.size<=b)->(∀ j B,βc j=some B->∃k,ae[j]? =some k/\β k=some B)->
 MR i ae cs=some p->Sy P F βc cs w I vs->∃ β',Step β I w (cT i) β' I w/\Mem P w0 O0 β' I (dn obj p.2) w/\bj P β' w I p.1 vs/\(p.2=[]->β'=β)
 |[],[],p,h,_,_,_,_,hp,_=>by simp only[MR,aC]at hp;subst hp;exact⟨β,Step.refl ..,h,by simp[bj],λ_=>rfl⟩
 |c::cs,v::vs,p,h,hn,hlt,hle,hbc,hp,hr=>by
  simp only[Sy]at hr;simp only[MR]at hp;cases hq:MR i ae cs with
  |none=>simp[hq]at hp
  |some q=>
   simp only[hq,af]at hp;split at hp
   .rename_i hem;simp only[aC]at hp;subst hp;have⟨β1,g1,g2,g3,g4⟩:=U3 (i:=i) h hn hlt hle hbc hr.1;have⟨β2,k1,k2,k3,k4⟩:=U4 cs vs q h hn hlt hle hbc hq hr.2;have B6:(Kv i ae c).2=[]\/q.2=[]:=(by simpa using hem);rcases B6 with hem |hem
    .have:=g4 hem;subst this;refine⟨β2,k1,by simpa[hem]using k2,?_,λh0=>k4 (by simpa[hem]using h0)⟩;simp only[bj];exact⟨VR.mono k1.ext k1.same k1.inc _ _ g3,k3⟩
    .have:=k4 hem;subst this;refine⟨β1,g1,by simpa[hem]using g2,?_,λh0=>g4 (by simpa[hem]using h0)⟩;simp only[bj];exact⟨g3,bj.mono g1.ext g1.same g1.inc _ _ k3⟩
   .cases hp
 |[],_::_,_,_,_,_,_,_,_,hr=>by simp[Sy]at hr
 |_::_,[],_,_,_,_,_,_,_,hr=>by simp[Sy]at hr
theorem Px{i:Nat}{ae:U Nat}{F:Nat->Prop}{βc:Nat->J cV}{rv:RV}{v:Value}{p:AV×List (Nat×Option aU)}(h:Mem P w0 O0 β I obj w)(hn:β (cT i)=none)(hlt:∀k o b,obj k=some o->fx β k b->¬F b)(hle:∀b,F b->O0.own b\/w0.heap.size<=b)(hbc:∀j B,βc j=some B->∃k,ae[j]? =some k/\β k=some B)
 (hp:imp i ae rv=some p) (hr:ry P F βc rv w I v):∃ β',Step β I w (cT i) β' I w/\Mem P w0 O0 β' I (dn obj p.2) w/\VR P β' w I p.1 v:=by
 cases rv with
 |one c=>
  simp only[imp,aC]at hp;subst hp;have⟨β',h1,h2,h3,_⟩:=U3 (i:=i) h hn hlt hle hbc hr;exact⟨β',h1,h2,h3⟩
 |eV cs=>
  simp only[imp]at hp;cases hq:MR i ae cs with
  |none=>simp[hq]at hp
  |some q=>
   simp only[hq,af,aC]at hp;subst hp;obtain⟨vs,rfl,hvs⟩:=hr;have⟨β',h1,h2,h3,_⟩:=U4 (i:=i) cs vs.toList q h hn hlt hle hbc hq hvs;exact⟨β',h1,h2,by simp only[VR];exact⟨vs,rfl,h3⟩⟩
theorem rY(obj:Nat->J aU):∀(a b:U (Nat×Option aU))(k:Nat),dn obj (a++b) k=dn (dn obj b) a k
 |[],_,_=>rfl
 |(j,o)::a,b,k=>by simp only[cons_append,dn,rY obj a b k]
theorem yC(obj:Nat->J aU):∀(ae:U Nat)(k:Nat),dn obj (ae.map λk=>(k,none)) k=if k∈ae then none else obj k
 |[],k=>by simp[dn]
 |j::ae,k=>by
  simp only[aH,dn,yC obj ae k,aQ];by_cases h:k=j<;>simp[h]
end
section
variable {P:Program} {T:er} {w0:World} {O0:kx} {β:Nat->Option cV} {I:Nat->Prop} {obj:Nat->Option aU} {w:World} {i:Nat}
theorem ry.flat{F:Nat->Prop}{βc:Nat->J cV}{w':World}{I' E1:Nat->Prop}{rv:RV}{v:Value}(hf:rv.flat)(hI:∀b,E1 b->I' b)(h:ry P F βc rv w' I' v):ry P F βc rv w' E1 v:=by
 have hc:∀(c:RC)(v:Value),c.flat->yq P F βc c w' I' v->yq P F βc c w' E1 v:=by
  intro c v hf h;cases c with
  |d x=>exact TV.wd hf h
  |fresh sz rows=>
   rcases h with h |⟨b,c,e,cap,o,s,h1,h2,h3,h4,h5,h6,h7,h8⟩
   .exact .inl h
   .exact .inr ⟨b,c,e,cap,o,s,h1,h2,λhb=>h3 (hI b hb),h4,h5,h6,bp.flat rows c s sz hf h7,h8⟩
  |whole j len=>have h:VR P βc w' I' (.own j 0 len) v:=h;show VR P βc w' E1 (.own j 0 len) v;simp only[VR]at h ⊢;exact h
 cases rv with
 |one c=>exact hc c v hf h
 |eV cs=>
  obtain⟨vs,rfl,h⟩:=h;refine⟨vs,rfl,?_⟩;have:∀(cs:U RC)(vs:U Value),(∀ c∈cs,c.flat)->Sy P F βc cs w' I' vs->Sy P F βc cs w' E1 vs:=by
   intro cs
   induction cs with
   |nil=>intro vs _ h;cases vs with
    |nil=>trivial
    |cons=>exact h.elim
   |cons c cs ih=>intro vs hf h;cases vs with
    |nil=>exact h.elim
    |cons v vs=>exact⟨hc c v (hf c (by simp)) h.1,ih vs (λ y hy=>hf y (by simp[hy])) h.2⟩
  exact this cs vs.toList hf h
theorem U5(h:Mem P w0 O0 β I obj w)(hn:β (cT i)=none){ae:U Nat}{rv:RV}{p:AV×List (Nat×Option aU)}{keep:Bool}(hp:imp i [] rv=some p)(hk:keep=true->rv.flat)
 {w':World} {I1:Nat->Prop} {v:Value} (hb:Below w.heap.size w w') (h1:∀b,fY β obj ae I b->I1 b) (h2:∀b,I1 b->b<w'.heap.size) (h3:∀b,I1 b->fY β obj ae I b\/w.heap.size<=b) (hr:ry P (MY w) my rv w' I1 v):
 ∃ β' I',Step β I w (cT i) β' I' w'/\Mem P w0 O0 β' I' (dn obj (p.2++if keep then []else ae.map (λ k=>(k,none)))) w'/\VR P β' w' I' p.1 v:=by
 have hlt:∀(ov:Nat->J aU),(∀ k o,ov k=some o->obj k=some o)->∀k o b,ov k=some o->fx β k b->¬MY w b:=λov hs k o b e1 e2 hb=>Nat.lt_irrefl _ (Nat.lt_of_lt_of_le (h.jn k o b (hs k o e1) e2).2.1 hb);have hnew:∀b,MY w b->O0.own b\/w0.heap.size<=b:=λb hb=> .inr (Nat.le_trans h.le hb);have hup:∀b,I1 b->O0.HG b\/O0.own b\/w0.heap.size<=b:=λb hb'=>by
  rcases h3 b hb' with (h5 |⟨k',o',s',n',g1,g2,g3⟩) |h5
  .exact h.up b h5
  .exact .inr (h.own k' o' b s' n' g2 g3).2.2
  .exact .inr (.inr (Nat.le_trans h.le h5))
 cases keep with
 |true=>
  obtain⟨hS,hM⟩:=h.below (I':=λb=>I1 b/\(I b\/w.heap.size<=b)) hb (λ b hb'=>⟨h1 b (.inl hb'),.inl hb'⟩) (λ b hb'=>h2 b hb'.1) (λ b k o B hb' e1 e2 e3=>by
   have⟨a1,a2,_⟩:=h.ownB k o B b e1 e2 e3;rcases hb'.2 with h5 |h5
   .exact a1 h5
   .omega) (λ b hb'=>hup b hb'.1)
  obtain⟨β',k1,k2,k3⟩:=Px hM hn (hlt obj (λ _ _ h=>h)) hnew (λ _ _ h=>by cases h) hp (ry.flat (hk rfl) (λ b hb=>hb.1) hr);refine⟨β',_,⟨k1.other,k1.ext,hS,λb hb'=>⟨h1 b (.inl hb'),.inl hb'⟩⟩,?_,k3⟩;simpa using k2
 |false=>
  have hsub:∀k o,dn obj (ae.map λk=>(k,none)) k=some o->obj k=some o/\k∉ae:=by
   intro k o hk;rw[yC]at hk;split at hk
   .cases hk
   .exact⟨hk,‹_›⟩
  have hd:=h.drop (dn obj (ae.map λk=>(k,none))) (λ k o hk=>(hsub k o hk).1);obtain⟨hS,hM⟩:=hd.below (I':=I1) hb (λ b hb'=>h1 b (.inl hb')) h2 (λ b k o B hb' e1 e2 e3=>by
   have⟨f1,f2⟩:=hsub k o e1;have⟨a1,a2,_⟩:=h.ownB k o B b f1 e2 e3;rcases h3 b hb' with (h5 |⟨k',o',s',n',g1,g2,g3⟩) |h5
   .exact a1 h5
   .have:=h.ma k k' o o' b f1 g2 ⟨B,e2,e3⟩ (.at g3);subst this;exact f2 g1
   .omega) hup
  obtain⟨β',k1,k2,k3⟩:=Px hM hn (hlt _ (λ k o hk=>(hsub k o hk).1)) hnew (λ _ _ h=>by cases h) hp hr;refine⟨β',I1,⟨k1.other,k1.ext,hS,λb hb'=>h1 b (.inl hb')⟩,?_,k3⟩;simp only[Bool.false_eq_true,if_false];have e:dn obj (p.2++ae.map λk=>(k,none))=dn (dn obj (ae.map λk=>(k,none))) p.2:=funext λk=>rY obj _ _ k;rw[e];exact k2
theorem MS(h:Mem P w0 O0 β I obj w)(ae:U Nat):∀b,fY β obj ae I b->b<w.heap.size:=by
 intro b hb;rcases hb with hb |⟨k,o,s,n,_,h2,h3⟩
 .exact h.lt b hb
 .exact(h.own k o b s n h2 h3).2.1
theorem Yy(h:Mem P w0 O0 β I obj w)(hn:β (cT i)=none){f:AV}{args:U AV}{cL:j7}{get:Nat->J aU}{ab:Out}(hg:∀k o,get k=some o->obj k=some o)
 {fv:Value} {vs:Array Value} {al:Array Operand} {fo:Operand} {r:Operand->Value} (ha:xI P i f args cL get=some ab) (cW:ab.ob) (hf:VR P β w I f fv) (hv:bj P β w I args vs.toList) (hfo:r fo=fv) (hops:vs=al.map r)
 {dst:J Tmp} {ao:String} {after:Array Edge} {guard:J (Nat×Bool)} {ty:TypeId} {c7:Array TypeId}:
 Aa P w0 O0 β I obj w i ab ((execOp r ⟨dst,.call { callee:= .value fo,args:=al,argTypes:=c7 },ty,ao,after,guard⟩).run P w):=by
 have enter : ∀ (F : FuncId) (first caps : Array Value) (args' : Array Value), (∃ fn, P.funcs[F]? = some fn /\ fn.body.isSome = true /\ (fn.name == "runtime.NumGoroutine") = false) -> fv = .func (.func F) first caps -> args' = first ++ vs ++ caps ->
  (execOp r ⟨dst,.call { callee:= .value fo,args:=al,argTypes:=c7 },ty,ao,after,guard⟩).run P w= .ok (.enter F args') w:=by
  rintro F first caps args' ⟨fn,e1,e2,e3⟩ e4 rfl
  have hb:¬fn.body=none:=by cases hh:fn.body<;>simp[hh]at e2 ⊢
  have e3' : ¬ fn.name = "runtime.NumGoroutine" := by simpa using e3
  simp[execOp,resolve,hfo,e4,<- hops,Deferred.ofValue,invoke,callFunc,e1,e3',hb]
 unfold xI at ha;split at ha
 .rename_i F first caps hs rv keep
  cases hp:imp i [] rv with
  |none=>simp[hp]at ha
  |some p=>
   cases hq:mI P get (first++args++caps) hs with
   |none=>simp only[hp,hq,af,Option.bind_none,reduceCtorEq]at ha
   |some q=>
   simp only[hp,hq,af]at ha;simp only[VR]at hf;obtain⟨fs,cs,rfl,hf1,hf2⟩:=hf
   have fin:∀(keep:Bool),fh P get (first++args++caps) q.1->ri P F q.1 rv->(keep=true->rv.flat)->
    ab=⟨p.1,p.2++(if keep then []else(fe (first++args++caps)).map (λ k=>(k,none))),ab.obs⟩->Aa P w0 O0 β I obj w i ab ((execOp r ⟨dst,.call { callee:= .value fo,args:=al,argTypes:=c7 },ty,ao,after,guard⟩).run P w):=by
    intro keep hb hF hk hout;obtain⟨B8,hcon⟩:=hF;have hall:bj P β w I (first++args++caps) (fs++vs++cs).toList:=by
     simp only[Array.toList_append];exact bj.append _ _ _ _ (bj.append _ _ _ _ hf1 hv) hf2
    have pp:=fh.sound h (fe (first++args++caps)) _ _ _ (λ k hk=>hk) (fh.weaken hg _ _ hb) hall;refine⟨F,fs++vs++cs,enter F fs cs _ B8 rfl rfl,(hcon w _ _ (MS h _) (h.vars.mono (λ _ _=>rfl) (λ b hb=> .inl hb)) pp).mono ?_⟩;rintro e w' ⟨v',I1,rfl,hbel,g1,g2,g3,g4⟩;have⟨β',I',k1,k2,k3⟩:=U5 (keep:=keep) h hn hp hk hbel g1 g2 g3 g4;rw[hout];exact⟨v',β',I',rfl,k1,k2,k3⟩
   cases keep with
   |true=>
    simp only[if_true,aC]at ha;subst ha;have cW:=qJ _ cW;exact fin true (jX _ _ _ hq λx hx=>cW x (by simp[hx])) (cW (ri P F q.1 rv) (by simp)) (λ _=>cW rv.flat (by simp)) (by simp)
   |false=>
    simp only[Bool.false_eq_true,if_false,aC]at ha;subst ha;have cW:=qJ _ cW;exact fin false (jX _ _ _ hq λx hx=>cW x (by simp[hx])) (cW (ri P F q.1 rv) (by simp)) (λ h=>by cases h) (by simp)
 .rename_i φ hs targs rr keep;cases hq:mI P get args hs with
  |none=>simp[hq]at ha
  |some q=>
  simp only[hq,af]at ha;simp only[VR]at hf;obtain⟨F,fs,cs,rfl,_,hF1,hF2,hF3⟩:=hf;obtain⟨fn,hfn⟩:=Option.isSome_iff_exists.1 hF2
  have fin:∀(keep:Bool),fh P get args (targs.map TV.av)->φ targs rr->(keep=true->rr.flat)->
   ab=⟨rr.av,[]++(if keep then []else(fe args).map (λ k=>(k,none))),ab.obs⟩->Aa P w0 O0 β I obj w i ab ((execOp r ⟨dst,.call { callee:= .value fo,args:=al,argTypes:=c7 },ty,ao,after,guard⟩).run P w):=by
   intro keep hb hφ hk hout;have pp:=fh.sound h (fe args) _ _ _ (λ k hk=>hk) (fh.weaken hg _ _ hb) hv;have htv:∀(xs:U TV) (us:U Value),bj P my w (fY β obj (fe args) I) (xs.map TV.av) us->m6 w (fY β obj (fe args) I) xs us:=by
    intro xs
    induction xs with
    |nil=>intro us h;cases us with
     |nil=>trivial
     |cons=>simp[bj]at h
    |cons x xs ih=>intro us h;cases us with
     |nil=>simp[bj]at h
     |cons u us=>
      simp only[aH,bj]at h;refine⟨?_,ih us h.2⟩;cases x with
      |s x=>simpa[TV.av,VR,rx]using h.1
      |a cs=>
       simp only[TV.av,VR]at h;obtain⟨⟨vs',rfl,h1⟩,_⟩:=h;refine⟨vs',rfl,?_⟩;have:∀(cs:U Tree) (us:U Value),bj P my w (fY β obj (fe args) I) (cs.map AV.t) us->ff w (fY β obj (fe args) I) cs us:=by
        intro cs
        induction cs with
        |nil=>intro us h;cases us with
         |nil=>trivial
         |cons=>simp[bj]at h
        |cons c cs ih=>intro us h;cases us with
         |nil=>simp[bj]at h
         |cons u us=>simp only[aH,bj,VR]at h;exact⟨h.1,ih us h.2⟩
       exact this cs _ h1
   refine⟨F,fs++vs++cs,enter F fs cs _ ⟨fn,hfn,(hF1 fn hfn).1,(hF1 fn hfn).2⟩ rfl rfl,(hF3 w _ targs vs rr (λ b hb=>Or.inl hb) (λ _ _=>rfl) (MS h _) hφ (htv _ _ pp)).mono ?_⟩;rintro e w' ⟨v',I1,rfl,hbel,g1,g2,g3,g4⟩;have⟨β',I',k1,k2,k3⟩:=U5 (i:=i) (rv:= .one (.d rr)) (p:=(rr.av,[])) (keep:=keep) h hn rfl hk hbel g1 g2 g3 g4;rw[hout];exact⟨v',β',I',rfl,k1,k2,k3⟩
  cases keep with
  |true=>
   simp only[if_true,aC]at ha;subst ha;have cW:=qJ _ cW;have e:q.1=targs.map TV.av:=cW _ (by simp);exact fin true (e ▸ jX _ _ _ hq λx hx=>cW x (by simp[hx])) (cW (φ targs rr) (by simp)) (λ _=>cW rr.flat (by simp)) (by simp)
  |false=>
   simp only[Bool.false_eq_true,if_false,aC]at ha;subst ha;have cW:=qJ _ cW;have e:q.1=targs.map TV.av:=cW _ (by simp);exact fin false (e ▸ jX _ _ _ hq λx hx=>cW x (by simp[hx])) (cW (φ targs rr) (by simp)) (λ h=>by cases h) (by simp)
 .cases ha
end
abbrev fw:=Nat×List (List Tree)
def ia(p:fw):aU:=⟨p.1,aK p.2⟩
def sd(os:U fw)(k:Nat):J aU:=(os[k]?).map ia
def Cw(os:U (Option fw))(k:Nat):J aU:=((os[k]?).join).map ia
def U6(β:Nat->J cV)(b:Nat):Prop:=∃j,fx β j b
def nC(β:Nat->J cV)(I:Nat->Prop):kx:=⟨U6 β,I,λj=>if j<1000 then β j else none,λj B h=>by
 split at h
 .assumption
 .cases h⟩
def AG(w:World)(β:Nat->J cV)(os':U (Option fw))(b:Nat):Prop:=(U6 β b\/w.heap.size<=b)/\∀k o,Cw os' k=some o->¬fx β k b
def MT(P:Program)(w:World)(β:Nat->J cV)(I:Nat->Prop)(os':U (Option fw))(rv:RV)(e:Ending)(w':World):Prop:=
 ∃v I',e= .returned v/\Mem P w (nC β I) β I' (Cw os') w'/\(∀ b,I b->I' b)/\ry P (AG w β os') β rv w' I' v
def qt(P:Program)(f:FuncId)(args:U AV)(os:U fw)(os':U (Option fw))(rv:RV):Prop:=
 eZ P f/\∀(w:World) (β:Nat->J cV) (I:Nat->Prop) (vs:Array Value),(∀ k,os.length<=k->β k=none)->Mem P w (nC β I) β I (sd os) w->bj P β w I args vs.toList->Calls P f vs w (MT P w β I os' rv)
def βc(ae:U Nat)(β:Nat->J cV)(j:Nat):J cV:=(ae[j]?).bind β
section
variable (P:Program) (get:Nat->Option aU) (ae:List Nat)
mutual
def o9:AV->List LH->Option (AV×List LH×List Prop)
 | .own k aa len,.mut j::hs=>if ae[j]? =some k then some (.own j aa len,hs,[])else none
 | .ptr k row aa,.mut j::hs=>if ae[j]? =some k then some (.ptr j row aa,hs,[])else none
 | .mp k,.mut j::hs=>if ae[j]? =some k then some (.mp j,hs,[])else none
 | .agg cs,.agw::hs=>(l9 cs hs).bind λp=>some (.agg p.1,p.2.1,p.2.2)
 | .agg cs,.agd::hs=>if (fe cs).all (λ k=>!ae.contains k)then nU P get (.agg cs) hs else none
 | .fn F first caps,.fnw::hs=>(l9 first hs).bind λp=>(l9 caps p.2.1).bind λq=>some (.fn F p.1 q.1,q.2.1,p.2.2++q.2.2)
 |x,hs=>if (refs x).all (λ k=>!ae.contains k)then nU P get x hs else none
def l9:List AV->List LH->Option (List AV×List LH×List Prop)
 |[],hs=>some ([],hs,[])
 |x::xs,hs=>(o9 x hs).bind λp=>(l9 xs p.2.1).bind λq=>some (p.1::q.1,q.2.1,p.2.2++q.2.2)
end
def yK:U (List AV)->U (List LH)->J (List (List AV)×List Prop)
 |[],[]=>some ([],[])
 |r::rs,h::hs=>(l9 P get ae r h).bind λp=>(yK rs hs).bind λq=>some (p.1::q.1,p.2.2++q.2)
 |_,_=>none
def mL(x y:AV):Prop:=
 (∃ j k aa len,ae[j]? =some k/\x= .own k aa len/\y= .own j aa len)\/(∃ j k row aa,ae[j]? =some k/\x= .ptr k row aa/\y= .ptr j row aa)\/(∃ j k,ae[j]? =some k/\x= .mp k/\y= .mp j)\/((∀ k∈refs x,k∉ae)/\fW P get x y)
mutual
def ii:AV->AV->Prop
 | .fn F f1 c1,.fn G f2 c2=>(F=G/\fS f1 f2/\fS c1 c2)\/mL P get ae (.fn F f1 c1) (.fn G f2 c2)
 | .agg c1,.agg c2=>fS c1 c2\/mL P get ae (.agg c1) (.agg c2)
 |x,y=>mL P get ae x y
def fS:List AV->List AV->Prop
 |[],[]=>True
 |x::xs,y::ys=>ii x y/\fS xs ys
 |_,_=>False
end
theorem ii.base{x y:AV}(h:mL P get ae x y):ii P get ae x y:=by cases x<;>cases y<;>simp only[ii]<;>first |exact h |exact .inr h
end
def A9(get:Nat->J aU):U Nat->U fw->J (List Prop)
 |[],[]=>some []
 |k::ae,p::os=>(get k).bind λo=>(A9 get ae os).bind λl=>some ((o.sz=p.1/\eu (o.rows.take p.2.length)=aK p.2)::l)
 |_,_=>none
def Ba:U Nat->U (Option fw)->U (Nat×Option aU)
 |k::ae,p::os=>(k,p.map ia)::Ba ae os
 |_,_=>[]
def Hw(xs:U AV)(ae:U Nat):U Nat:=(fe xs).filter λk=>!ae.contains k
def U7(os':U (Option fw)):Prop:=∀p,some p∈os'->∀r∈p.2,∀x∈r,Tree.flat x
def Hy(P:Program)(i:Nat)(f:AV)(args:U AV)(cL:j7)(get:Nat->J aU):J Out:=
 match f,cL with
 | .fn F first caps,.tD ae os os' hs rv keep=>if ae.Nodup/\os'.length=ae.length then(imp i ae rv).bind λp=>(A9 get ae os).bind λmo=>(l9 P get ae (first++args++caps) hs).bind λq=>
  if keep then some ⟨p.1,p.2++Ba ae os',q.2.2++mo++[qt P F q.1 os os' rv,rv.flat,U7 os']⟩
  else some ⟨p.1,p.2++(Ba ae os'++(Hw (first++args++caps) ae).map λk=>(k,none)),q.2.2++mo++[qt P F q.1 os os' rv]⟩
  else none
 |_,_=>none
def pq(P:Program)(i:Nat)(f:AV)(args:U AV)(cL:j7)(get:Nat->J aU):J Out:=
 match cL with
 | .tD .. =>Hy P i f args cL get
 |_=>xI P i f args cL get
section
variable {P:Program} {T:er} {w0:World} {O0:kx} {β:Nat->Option cV} {I:Nat->Prop} {obj:Nat->Option aU} {w:World} {i:Nat}
theorem MU{ae:U Nat}{j:Nat}{B:cV}(h:βc ae β j=some B):∃k,ae[j]? =some k/\β k=some B:=by simpa[βc,ai]using h
theorem bp.dat{β':Nat->J cV}{I':Nat->Prop}(hI:∀b,I b->I' b)(rows:U (List Tree))(c:Array Value)(aa sz:Nat)(h:bp P β w I (aK rows) c aa sz):bp P β' w I' (aK rows) c aa sz:=by
 rw[oG]at h ⊢;intro i r hr;have⟨h1,h2⟩:=h i r hr;refine⟨h1,?_⟩;rw[jy]at h2 ⊢;intro j x hx;have⟨v,g1,g2,g3⟩:=h2 j x hx;refine⟨v,g1,?_,g3⟩;simp only[aK,List.getElem?_map,dQ]at hr;obtain⟨r',hr',rfl⟩:=hr;simp only[List.getElem?_map,dQ]at hx;obtain⟨x',hx',rfl⟩:=hx;simp only[VR]at g2 ⊢;exact TR.mono (λ _ _=>rfl) hI _ _ g2
theorem bj.IS{β':Nat->J cV}{I':Nat->Prop}(hI:∀b,I b->I' b):∀(r:U Tree)(vs:U Value),bj P β w I (r.map AV.t) vs->bj P β' w I' (r.map AV.t) vs
 |[],[],_=>by simp[bj]
 |x::xs,v::vs,h=>by
  simp only[aH,bj,VR]at h ⊢;exact⟨TR.mono (λ _ _=>rfl) hI _ _ h.1,bj.IS hI xs vs h.2⟩
 |[],_::_,h=>by simp[bj]at h
 |_::_,[],h=>by simp[bj]at h
theorem cH.dat{β':Nat->J cV}{I':Nat->Prop}(hI:∀b,I b->I' b):∀(rs:U (List Tree))(es:U MapEntry),cH P β w I (aK rs) es->cH P β' w I' (aK rs) es
 |[],[],_=>trivial
 |r::rs,_::es,⟨h1,h4⟩=>⟨bj.IS hI r _ h1,cH.dat hI rs es h4⟩
 |[],_::_,h=>h.elim
 |_::_,[],h=>h.elim
theorem bj.zt{β':Nat->J cV}{I':Nat->Prop}:∀(r:U Tree)(vs:U Value),(∀ x∈r,Tree.flat x)->bj P β w I (r.map AV.t) vs->bj P β' w I' (r.map AV.t) vs
 |[],[],_,_=>by simp[bj]
 |x::xs,v::vs,hf,h=>by
  simp only[aH,bj,VR]at h ⊢;exact⟨Tree.mz (hf x (by simp)) h.1,bj.zt xs vs (λ y hy=>hf y (by simp[hy])) h.2⟩
 |[],_::_,_,h=>by simp[bj]at h
 |_::_,[],_,h=>by simp[bj]at h
theorem cH.flat{β':Nat->J cV}{I':Nat->Prop}:∀{rs:U (List Tree)}(_:∀r∈rs,∀x∈r,Tree.flat x)(es:U MapEntry),cH P β w I (aK rs) es->cH P β' w I' (aK rs) es
 |[],_,[],_=>trivial
 |r::rs,hf,_::es,⟨h1,h4⟩=>⟨bj.zt r _ (hf r (by simp)) h1,cH.flat (λ r' hr=>hf r' (by simp[hr])) es h4⟩
 |[],_,_::_,h=>h.elim
 |_::_,_,[],h=>h.elim
theorem OR.part{o:aU}{p:fw}{b:Nat}(g4:o.sz=p.1)(g5:eu (o.rows.take p.2.length)=aK p.2)(h:OR P β w I o (.mp b)):OR P β w I (ia p) (.mp b):=by
 obtain⟨es,cl,h1,hle,h2,h3⟩:=h;have hl:=congrArg List.length g5;simp only[eu,aK,List.length_map,length_take]at hl;refine⟨es,cl,h1,by simp only[ia,aK,List.length_map];omega,λe=>?_,h3⟩;have e':p.1=p.2.length:=by simpa[ia,aK]using e
 have:=cH.wk _ _ (h2 (by omega));rw[take_of_length_le (by omega)]at g5;show cH P β w I (aK p.2) es.toList;rw[<- g5];exact this
theorem OR.dat{β':Nat->J cV}{I':Nat->Prop}(hI:∀b,I b->I' b){p:fw}{B:cV}(h:OR P β w I (ia p) B):OR P β' w I' (ia p) B:=by
 cases B with
 |none=>exact h
 | «at» b s n=>
  obtain⟨h1,c,e,h2,h3,h4⟩:=h;exact⟨h1,c,e,h2,h3,bp.dat hI _ _ _ _ h4⟩
 |mp b=>
  obtain⟨es,cl,h1,hle,h2,h3⟩:=h;exact⟨es,cl,h1,hle,λe=>cH.dat hI _ _ (h2 e),h3⟩
theorem OR.flat{β':Nat->J cV}{I':Nat->Prop}{p:fw}{B:cV}(hf:∀r∈p.2,∀x∈r,Tree.flat x)(h:OR P β w I (ia p) B):OR P β' w I' (ia p) B:=by
 cases B with
 |none=>exact h
 | «at» b s n=>
  obtain⟨h1,c,e,h2,h3,h4⟩:=h;exact⟨h1,c,e,h2,h3,bp.flat _ _ _ _ hf h4⟩
 |mp b=>
  obtain⟨es,cl,h1,hle,h2,h3⟩:=h;exact⟨es,cl,h1,hle,λe=>cH.flat hf _ (h2 e),h3⟩
theorem Rp{get:Nat->J aU}:∀{ae:U Nat}{os:U fw}{l:U Prop},A9 get ae os=some l->(∀ q∈l,q)->ae.length=os.length/\∀(j:Nat) k p,ae[j]? =some k->os[j]? =some p->∃o,get k=some o/\o.sz=p.1/\eu (o.rows.take p.2.length)=aK p.2
 |[],[],_,_,_=>⟨rfl,λj k p h=>by simp at h⟩
 |k::ae,p::os,l,h,hq=>by
  simp only[A9,ai,aC]at h;obtain⟨o,h1,l',h2,rfl⟩:=h;obtain⟨h3,h4⟩:=Rp h2 (λ q hq'=>hq q (by simp[hq']));refine⟨by simp[h3],λj k' p' hj hj'=>?_⟩;cases j with
  |zero=>
   simp only[List.getElem?_cons_zero,aC]at hj hj';subst hj;subst hj';exact⟨o,h1,hq _ (by simp)⟩
  |succ j=>exact h4 j k' p' (by simpa using hj) (by simpa using hj')
 |[],_::_,_,h,_=>by simp[A9]at h
 |_::_,[],_,h,_=>by simp[A9]at h
theorem ajp{ae:U Nat}:∀{os':U (Option fw)}{g:U (Nat×Option aU)}{k:Nat},k∉ae->dn obj (Ba ae os'++g) k=dn obj g k:=by
 induction ae with
 |nil=>intro os' g k _;rfl
 |cons j ae ih=>
  intro os' g k hk;cases os' with
  |nil=>rfl
  |cons p os'=>
   simp only[aQ,not_or]at hk;simp only[Ba,cons_append,dn,aT hk.1,ih hk.2]
theorem ZI:∀{ae:U Nat}{os':U (Option fw)}{g:U (Nat×Option aU)}{j k:Nat},ae.Nodup->os'.length=ae.length->ae[j]? =some k->dn obj (Ba ae os'++g) k=Cw os' j
 |[],_,_,_,_,_,_,h=>by simp at h
 |i::ae,[],_,_,_,_,hl,_=>by simp at hl
 |i::ae,p::os',g,j,k,hn,hl,h=>by
  simp only[List.nodup_cons]at hn;cases j with
  |zero=>
   simp only[List.getElem?_cons_zero,aC]at h;subst h;simp[Ba,dn,Cw]
  |succ j=>
   simp only[List.getElem?_cons_succ]at h;have hne:k≠i:=λe=>hn.1 (e ▸ dD h);simp only[Ba,cons_append,dn,aT hne,ZI hn.2 (by simpa using hl) h];simp[Cw]
theorem Py:∀{ae:U Nat},ae.Nodup->∀{j j' k:Nat},ae[j]? =some k->ae[j']? =some k->j=j'
 |[],_,_,_,_,h,_=>by simp at h
 |i::ae,hn,j,j',k,h,h'=>by
  simp only[List.nodup_cons]at hn;cases j with
  |zero=>
   cases j' with
   |zero=>rfl
   |succ j'=>
    simp only[List.getElem?_cons_zero,aC,List.getElem?_cons_succ]at h h';exact(hn.1 (h ▸ dD h')).elim
  |succ j=>
   cases j' with
   |zero=>
    simp only[List.getElem?_cons_zero,aC,List.getElem?_cons_succ]at h h';exact(hn.1 (h' ▸ dD h)).elim
   |succ j'=>exact congrArg (· +1) (Py hn.2 (k:=k) (by simpa using h) (by simpa using h'))
theorem Mem.handed(h:Mem P w0 O0 β I obj w){ae c9:U Nat}{os:U fw}(hnd:ae.Nodup)(hlen:ae.length=os.length)
 (hm:∀(j:Nat) k p,ae[j]? =some k->os[j]? =some p->∃o,obj k=some o/\o.sz=p.1/\eu (o.rows.take p.2.length)=aK p.2) (B7:∀k∈c9,k∉ae):
 Mem P w (nC (βc ae β) (fY β obj c9 I)) (βc ae β) (fY β obj c9 I) (sd os) w:=by
 have look:∀j o',sd os j=some o'->∃k p o,ae[j]? =some k/\os[j]? =some p/\o'=ia p/\obj k=some o/\o.sz=p.1/\eu (o.rows.take p.2.length)=aK p.2:=by
  intro j o' hj;simp only[sd,dQ]at hj;obtain⟨p,hp,rfl⟩:=hj;have hjl:j<ae.length:=by rw[hlen];exact(dJ.1 hp).1
  obtain⟨o,g⟩:=hm j _ p (dU hjl) hp;exact⟨_,p,o,dU hjl,hp,rfl,g⟩
 have hb0:∀j k,ae[j]? =some k->βc ae β j=β k:=λj k hk=>by simp[βc,hk]
 constructor
 .intro j o' hj;obtain⟨k,p,o,g1,g2,rfl,g3,g4,g5⟩:=look j o' hj;have⟨B,hB,hO⟩:=h.cQ k o g3;refine⟨B,by rw[hb0 j k g1];exact hB,?_⟩;have:OR P β w I (ia p) B:=by
   cases B with
   |none=>
    simp only[OR]at hO ⊢;rw[hO]at g5;simpa[eu,ia]using g5.symm
   | «at» b s n=>
    obtain⟨h1,c,e,h2,h3,h4⟩:=hO;refine⟨by rw[h1,g4];rfl,c,e,h2,h3,?_⟩;have:=bp.wk _ _ _ _ (bp.take p.2.length _ _ _ _ h4);rw[g5]at this;exact this
   |mp b=>exact OR.part g4 g5 hO
  exact this.dat λb hb=> .inl hb
 .intro j j' o o' B B' b h1 h2 h3 h4 h5 h6;have⟨k,p,q,g1,_,_,g3,_⟩:=look j o h1;have⟨k',p',q',g1',_,_,g3',_⟩:=look j' o' h2;rw[hb0 j k g1]at h3;rw[hb0 j' k' g1']at h4;have:=h.gE k k' q q' B B' b g3 g3' h3 h4 h5 h6;subst this;exact Py hnd g1 g1'
 .intro j o B b h1 h2 h5;have⟨k,p,q,g1,_,_,g3,_⟩:=look j o h1;have h2':=h2;rw[hb0 j k g1]at h2;have⟨a1,a2,_⟩:=h.ownB k q B b g3 h2 h5;refine⟨?_,a2,.inl ⟨j,B,h2',h5⟩⟩;rintro (hI |⟨k',o',s',n',e1,e2,e3⟩)
  .exact a1 hI
  .have:=h.ma k k' q o' b g3 e2 ⟨B,h2,h5⟩ (.at e3);subst this;exact B7 _ e1 (dD g1)
 .exact MS h _
 .exact λb hb=> .inl hb
 .exact λ_ _ _=>rfl
 .exact aG _
 .rfl
 .rfl
 .rfl
 .intro j B hj;simp only[nC]at hj;split at hj
  .exact hj
  .cases hj
 .exact h.vars.mono (λ _ _=>rfl) (λ b hb=> .inl hb)
theorem Mem.D3(h:Mem P w0 O0 β I obj w){ae c9:U Nat}{os':U (Option fw)}{w':World}{I1 I2:Nat->Prop}{xd:Nat->J aU}
 (hM:Mem P w (nC (βc ae β) (fY β obj c9 I)) (βc ae β) I1 (Cw os') w') (hI:∀b,I b->I2 b) (hI1:∀b,I2 b->I1 b) (kO:∀k∈ae,∃o,obj k=some o)
 (ho:∀k o,xd k=some o->(∃ j,ae[j]? =some k/\Cw os' j=some o/\∀B,OR P (βc ae β) w' I1 o B->OR P β w' I2 o B)\/(k∉ae/\obj k=some o/\∀b,fx β k b->¬I2 b)):
 Same I w w'/\Mem P w0 O0 β I2 xd w'/\(∀ b,U6 (βc ae β) b->¬I b/\(O0.own b\/w0.heap.size<=b))/\∀k o b,k∉ae->obj k=some o->fx β k b->¬U6 (βc ae β) b:=by
 have hb0:∀j k,ae[j]? =some k->βc ae β j=β k:=λj k hk=>by simp[βc,hk]
 have hown:∀b,U6 (βc ae β) b->∃k o,k∈ae/\obj k=some o/\fx β k b:=by
  rintro b ⟨j,B,hj,hB⟩;have⟨k,h1,h2⟩:=MU hj;have⟨o,h3⟩:=kO k (dD h1);exact⟨k,o,dD h1,h3,B,h2,hB⟩
 have hold:∀k o,xd k=some o->∃q,obj k=some q:=by
  intro k o hk;rcases ho k o hk with ⟨j,h1,_⟩ |⟨_,h2,_⟩
  .exact kO k (dD h1)
  .exact⟨o,h2⟩
 have hapart:∀k o b,k∉ae->obj k=some o->fx β k b->¬U6 (βc ae β) b:=by
  intro k o b hk h1 h2 hb;have⟨k',o',g1,g2,g3⟩:=hown b hb;have:=h.ma k k' o o' b h1 g2 h2 g3;subst this;exact hk g1
 have hS:Same I w w':=λb hb=>hM.keep b (h.lt b hb) (λ hb'=>by
  have⟨k',o',g1,g2,g3⟩:=hown b hb';exact(h.jn k' o' b g2 g3).1 hb)
 refine⟨hS,?_,λb hb=>?_,hapart⟩
 .constructor
  .intro k o hk;rcases ho k o hk with ⟨j,h1,h2,h3⟩ |⟨h1,h2,h3⟩
   .have⟨B,hB,hO⟩:=hM.cQ j o h2;exact⟨B,by rw[<- hb0 j k h1];exact hB,h3 B hO⟩
   .have⟨B,hB,hO⟩:=h.cQ k o h2;refine⟨B,hB,OR.mono (λ _ _ h=>h) hS hI (λ b e=>hM.keep b (h.ownB k o B b h2 hB e).2.1 (hapart k o b h1 h2 ⟨B,hB,e⟩)) hO⟩
  .intro k k' o o' B B' b h1 h2;have⟨q,e1⟩:=hold k o h1;have⟨q',e2⟩:=hold k' o' h2;exact h.gE k k' q q' B B' b e1 e2
  .intro k o B b h1 h2 h5;have⟨q,e1⟩:=hold k o h1;have⟨a1,a2,a3⟩:=h.ownB k q B b e1 h2 h5;refine⟨?_,Nat.lt_of_lt_of_le a2 hM.le,a3⟩;rcases ho k o h1 with ⟨j,g1,g2,_⟩ |⟨_,_,g3⟩
   .exact λhb=>(hM.ownB j o B b g2 (by rw[hb0 j k g1];exact h2) h5).1 (hI1 b hb)
   .exact g3 b ⟨B,h2,h5⟩
  .exact λb hb=>hM.lt b (hI1 b hb)
  .intro b hb;rcases hM.up b (hI1 b hb)with (g |⟨k',o',s',n',_,g2,g3⟩) |g |g
   .exact h.up b g
   .exact .inr (h.own k' o' b s' n' g2 g3).2.2
   .have⟨k',o',_,g2,g3⟩:=hown b g;exact .inr (h.jn k' o' b g2 g3).2.2
   .exact .inr (.inr (Nat.le_trans h.le g))
  .intro b hb hno;refine(hM.keep b (Nat.lt_of_lt_of_le hb h.le) (λ hb'=>?_)).trans (h.keep b hb hno);have⟨k',o',_,g2,g3⟩:=hown b hb';rcases (h.jn k' o' b g2 g3).2.2 with g |g
   .exact hno g
   .omega
  .exact Nat.le_trans h.le hM.le
  .exact hM.os.trans h.os
  .exact hM.tape.trans h.tape
  .exact hM.output.trans h.output
  .exact h.anch
  .exact h.vars.mono hS hI
 .have⟨k',o',_,g2,g3⟩:=hown b hb;exact⟨(h.jn k' o' b g2 g3).1,(h.jn k' o' b g2 g3).2.2⟩
mutual
theorem aa3{get:Nat->Option aU}{ae:List Nat}:∀{x:AV}{hs:List LH}{p:AV×List LH×List Prop},o9 P get ae x hs=some p->(∀ q∈p.2.2,q)->ii P get ae x p.1:=by
 intro x hs p h ho;unfold o9 at h;split at h
 .split at h
  .cases h;exact ii.base _ _ _ (.inl ⟨_,_,_,_,‹_›,rfl,rfl⟩)
  .cases h
 .split at h
  .cases h;exact ii.base _ _ _ (.inr (.inl ⟨_,_,_,_,‹_›,rfl,rfl⟩))
  .cases h
 .split at h
  .cases h;exact ii.base _ _ _ (.inr (.inr (.inl ⟨_,_,‹_›,rfl,rfl⟩)))
  .cases h
 .rename_i cs hs;simp only[ai,aC]at h;obtain⟨q,h1,rfl⟩:=h;simp only[ii];exact .inl (nD h1 (λ y hy=>ho y (by simp[hy])))
 .split at h
  .rename_i hd;refine ii.base _ _ _ (.inr (.inr (.inr ⟨λ k hk=>by simpa using all_eq_true.1 hd k (by simpa[refs]using hk),D9 _ _ _ h ho⟩)))
  .cases h
 .rename_i F first caps hs
  simp only[ai,aC]at h;obtain⟨q,h1,q',h2,rfl⟩:=h;simp only[ii];exact .inl ⟨trivial,nD h1 (λ y hy=>ho y (by simp[hy])),nD h2 (λ y hy=>ho y (by simp[hy]))⟩
 .split at h
  .rename_i hd;refine ii.base _ _ _ (.inr (.inr (.inr ⟨λ k hk=>by simpa using all_eq_true.1 hd k hk,D9 _ _ _ h ho⟩)))
  .cases h
theorem nD{get:Nat->Option aU}{ae:List Nat}:∀{xs:List AV}{hs:List LH}{p:List AV×List LH×List Prop},l9 P get ae xs hs=some p->(∀ q∈p.2.2,q)->fS P get ae xs p.1
 |[],hs,p,h,_=>by simp only[l9,aC]at h;subst h;trivial
 |x::xs,hs,p,h,ho=>by
  simp only[l9,ai,aC]at h;obtain⟨q,h1,q',h2,rfl⟩:=h;exact⟨aa3 h1 (λ y hy=>ho y (by simp[hy])),nD h2 (λ y hy=>ho y (by simp[hy]))⟩
end
theorem mL.sound(h:Mem P w0 O0 β I obj w){get:Nat->J aU}(hg:∀k o,get k=some o->obj k=some o){ae:U Nat}(c9:U Nat){x y:AV}{v:Value}(hk:∀k,k∈refs x->k∉ae->k∈c9)(hb:mL P get ae x y)(hv1:VR P β w I x v):VR P (βc ae β) w (fY β obj c9 I) y v:=by
 rcases hb with ⟨j,k,aa,len,e1,rfl,rfl⟩ |⟨j,k,row,aa,e1,rfl,rfl⟩ |⟨j,k,e1,rfl,rfl⟩ |⟨e1,e2⟩
 .simp only[VR]at hv1 ⊢;have:βc ae β j=β k:=by simp[βc,e1]
  rw[this];exact hv1
 .simp only[VR]at hv1 ⊢;have:βc ae β j=β k:=by simp[βc,e1]
  rw[this];exact hv1
 .simp only[VR]at hv1 ⊢;have:βc ae β j=β k:=by simp[βc,e1]
  rw[this];exact hv1
 .have:=fW.sound h c9 x y v (λ k hk'=>hk k hk' (e1 k hk')) (fW.weaken hg x y e2) hv1;exact VR.mono (λ k B h=>by simp[my]at h) (λ _ _=>rfl) (λ _ h=>h) _ _ this
mutual
theorem ii.sound(h:Mem P w0 O0 β I obj w){get:Nat->Option aU}(hg:∀k o,get k=some o->obj k=some o){ae:List Nat}(c9:List Nat):∀(x y:AV)(v:Value),(∀ k,k∈refs x->k∉ae->k∈c9)->ii P get ae x y->VR P β w I x v->VR P (βc ae β) w (fY β obj c9 I) y v:=by
 intro x y v hk hb hv;unfold ii at hb;split at hb
 .rcases hb with ⟨rfl,h1,h2⟩ |hb
  .simp only[VR]at hv ⊢;obtain⟨fs,cs,e,g1,g2⟩:=hv;exact⟨fs,cs,e,fS.sound h hg c9 _ _ _ (λ k hk'=>hk k (by simp[refs,hk'])) h1 g1,fS.sound h hg c9 _ _ _ (λ k hk'=>hk k (by simp[refs,hk'])) h2 g2⟩
  .exact mL.sound h hg c9 hk hb hv
 .rcases hb with h1 |hb
  .simp only[VR]at hv ⊢;obtain⟨vs,e,g1⟩:=hv;exact⟨vs,e,fS.sound h hg c9 _ _ _ (λ k hk'=>hk k (by simpa[refs]using hk')) h1 g1⟩
  .exact mL.sound h hg c9 hk hb hv
 .exact mL.sound h hg c9 hk hb hv
theorem fS.sound(h:Mem P w0 O0 β I obj w){get:Nat->Option aU}(hg:∀k o,get k=some o->obj k=some o){ae:List Nat}(c9:List Nat):∀(xs ys:List AV)(vs:List Value),(∀ k,k∈fe xs->k∉ae->k∈c9)->fS P get ae xs ys->bj P β w I xs vs->bj P (βc ae β) w (fY β obj c9 I) ys vs
 |[],[],[],_,_,_=>by simp[bj]
 |x::xs,y::ys,v::vs,hk,hb,hv=>by
  simp only[bj]at hv ⊢;exact⟨ii.sound h hg c9 x y v (λ k hk'=>hk k (by simp[fe,hk'])) hb.1 hv.1,fS.sound h hg c9 xs ys vs (λ k hk'=>hk k (by simp[fe,hk'])) hb.2 hv.2⟩
 |[],_::_,_,_,hb,_=>hb.elim
 |_::_,[],_,_,hb,_=>hb.elim
 |[],[],_::_,_,_,hv=>by simp[bj]at hv
 |_::_,_::_,[],_,_,hv=>by simp[bj]at hv
end
theorem ac7{os':U (Option fw)}{j:Nat}{o:aU}(h:Cw os' j=some o):∃p,some p∈os'/\o=ia p:=by
 simp only[Cw,dQ,Option.join_eq_some_iff]at h;obtain⟨p,hp,rfl⟩:=h;exact⟨p,dD hp,rfl⟩
theorem ac8(h:Mem P w0 O0 β I obj w)(hn:β (cT i)=none){ae c9:U Nat}{os':U (Option fw)}{rv:RV}{p:AV×List (Nat×Option aU)}{keep:Bool}(hp:imp i ae rv=some p)(hk:keep=true->rv.flat/\U7 os')
 (hnd:ae.Nodup) (hlen:os'.length=ae.length) (kO:∀k∈ae,∃o,obj k=some o)
 {w':World} {I1:Nat->Prop} {v:Value} (hM:Mem P w (nC (βc ae β) (fY β obj c9 I)) (βc ae β) I1 (Cw os') w') (h1:∀b,fY β obj c9 I b->I1 b) (hr:ry P (AG w (βc ae β) os') (βc ae β) rv w' I1 v):
 ∃ β' I',Step β I w (cT i) β' I' w'/\Mem P w0 O0 β' I' (dn obj (p.2++(Ba ae os'++if keep then []else c9.map (λ k=>(k,none))))) w'/\VR P β' w' I' p.1 v:=by
 have look:∀g k o,dn obj (Ba ae os'++g) k=some o->(∃ j,ae[j]? =some k/\Cw os' j=some o)\/(k∉ae/\dn obj g k=some o):=by
  intro g k o hk;by_cases hki:k∈ae
  .obtain⟨j,hj⟩:=List.getElem?_of_mem hki;rw[ZI hnd hlen hj]at hk;exact .inl ⟨j,hj,hk⟩
  .rw[ajp hki]at hk;exact .inr ⟨hki,hk⟩
 have main:∀(g:U (Nat×Option aU))(I2:Nat->Prop),(∀ k o,dn obj g k=some o->obj k=some o)->(∀ b,I b->I2 b)->(∀ b,I2 b->I1 b)->(∀ j o B,Cw os' j=some o->OR P (βc ae β) w' I1 o B->OR P β w' I2 o B)->
  (∀ k o b,k∉ae->dn obj g k=some o->fx β k b->¬I2 b)->ry P (AG w (βc ae β) os') (βc ae β) rv w' I2 v->
  ∃ β' I',Step β I w (cT i) β' I' w'/\Mem P w0 O0 β' I' (dn obj (p.2++(Ba ae os'++g))) w'/\VR P β' w' I' p.1 v:=by
  intro g I2 hg hI hI1 hor HP hr2;obtain⟨hS,hM2,hown,hapart⟩:=h.D3 (xd:=dn obj (Ba ae os'++g)) hM hI hI1 kO (λ k o hk=>by
   rcases look g k o hk with ⟨j,e1,e2⟩ |⟨e1,e2⟩
   .exact .inl ⟨j,e1,e2,λB=>hor j o B e2⟩
   .exact .inr ⟨e1,hg k o e2,λb e3=>HP k o b e1 e2 e3⟩)
  obtain⟨β',k1,k2,k3⟩:=Px (ae:=ae) (F:=AG w (βc ae β) os') (βc:=βc ae β) hM2 hn (λ k o b e1 e2 hb=>by
   rcases look g k o e1 with ⟨j,e3,e4⟩ |⟨e3,e4⟩
   .exact hb.2 j o e4 (by obtain⟨B,e5,e6⟩:=e2;exact⟨B,by simp[βc,e3,e5],e6⟩)
   .rcases hb.1 with hb |hb
    .exact hapart k o b e3 (hg k o e4) e2 hb
    .have:=(h.jn k o b (hg k o e4) e2).2.1;omega) (λ b hb=>by
   rcases hb.1 with hb |hb
   .exact(hown b hb).2
   .exact .inr (Nat.le_trans h.le hb)) (λ j B hj=>MU hj) hp hr2
  refine⟨β',I2,⟨k1.other,k1.ext,hS,hI⟩,?_,k3⟩;have e:dn obj (p.2++(Ba ae os'++g))=dn (dn obj (Ba ae os'++g)) p.2:=funext λk=>rY obj _ _ k;rw[e];exact k2
 cases keep with
 |true=>
  have⟨hf1,hf2⟩:=hk rfl;exact main [] I (λ _ _ h=>h) (λ _ h=>h) (λ b hb=>h1 b (.inl hb)) (λ j o B hj hO=>by
   obtain⟨q,hq,rfl⟩:=ac7 hj;exact OR.flat (hf2 q hq) hO) (λ k o b _ e1 e2=>(h.jn k o b e1 e2).1) (ry.flat hf1 (λ b hb=>h1 b (.inl hb)) hr)
 |false=>
  have hsub:∀k o,dn obj (c9.map λk=>(k,none)) k=some o->obj k=some o/\k∉c9:=by
   intro k o hk;rw[yC]at hk;split at hk
   .cases hk
   .exact⟨hk,‹_›⟩
  refine main _ I1 (λ k o hk=>(hsub k o hk).1) (λ b hb=>h1 b (.inl hb)) (λ _ h=>h) (λ j o B hj hO=>by
   obtain⟨q,hq,rfl⟩:=ac7 hj;exact OR.dat (λ _ h=>h) hO) (λ k o b hki e1 e2 hb=>?_) hr
  have⟨f1,f2⟩:=hsub k o e1;have⟨a1,a2,_⟩:=h.jn k o b f1 e2;rcases hM.up b hb with (g |⟨k',o',s',n',g1,g2,g3⟩) |⟨j,B',g,g'⟩ |g
  .exact a1 g
  .have:=h.ma k k' o o' b f1 g2 e2 (.at g3);subst this;exact f2 g1
  .have⟨k',g1,g2⟩:=MU g;have⟨o',g3⟩:=kO k' (dD g1);have:=h.ma k k' o o' b f1 g3 e2 ⟨B',g2,g'⟩;subst this;exact hki (dD g1)
  .omega
theorem U8(h:Mem P w0 O0 β I obj w)(hn:β (cT i)=none){f:AV}{args:U AV}{cL:j7}{get:Nat->J aU}{ab:Out}(hg:∀k o,get k=some o->obj k=some o)
 {fv:Value} {vs:Array Value} {al:Array Operand} {fo:Operand} {r:Operand->Value} (ha:Hy P i f args cL get=some ab) (cW:ab.ob) (hf:VR P β w I f fv) (hv:bj P β w I args vs.toList) (hfo:r fo=fv) (hops:vs=al.map r)
 {dst:J Tmp} {ao:String} {after:Array Edge} {guard:J (Nat×Bool)} {ty:TypeId} {c7:Array TypeId}:
 Aa P w0 O0 β I obj w i ab ((execOp r ⟨dst,.call { callee:= .value fo,args:=al,argTypes:=c7 },ty,ao,after,guard⟩).run P w):=by
 unfold Hy at ha;split at ha
 .rename_i F first caps ae os os' hs rv keep
  split at ha
  .rename_i hc;obtain⟨hnd,hlen⟩:=hc;cases hp:imp i ae rv with
   |none=>simp[hp]at ha
   |some p=>
   cases hmo:A9 get ae os with
   |none=>simp[hp,hmo]at ha
   |some mo=>
   cases hq:l9 P get ae (first++args++caps) hs with
   |none=>simp only[hp,hmo,hq,af,Option.bind_none,reduceCtorEq]at ha
   |some q=>
   simp only[hp,hmo,hq,af]at ha;simp only[VR]at hf;obtain⟨fs,cs,rfl,hf1,hf2⟩:=hf;have hout:(∀ x∈q.2.2++mo,x)/\qt P F q.1 os os' rv/\(keep=true->rv.flat/\U7 os')/\ab.v=p.1/\ab.upd=p.2++(Ba ae os'++if keep then []else(Hw (first++args++caps) ae).map (λ k=>(k,none))):=by
    cases keep with
    |true=>
     simp only[if_true,aC]at ha;subst ha;have cW:=qJ _ cW;exact⟨λ x hx=>cW x (by simp only[bn]at hx ⊢;exact .inl hx),cW (qt P F q.1 os os' rv) (by simp),λ_=>⟨cW rv.flat (by simp),cW (U7 os') (by simp)⟩,rfl,by simp⟩
    |false=>
     simp only[Bool.false_eq_true,if_false,aC]at ha;subst ha;have cW:=qJ _ cW;exact⟨λ x hx=>cW x (by simp only[bn]at hx ⊢;exact .inl hx),cW (qt P F q.1 os os' rv) (by simp),λh=>(by cases h),rfl,by simp⟩
   obtain⟨o1,o2,o3,o4,o5⟩:=hout;obtain⟨⟨fn,e1,e2,e3⟩,hcon⟩:=o2;obtain⟨hl2,hmm⟩:=Rp hmo (λ x hx=>o1 x (by simp[hx]));have hmm':∀(j:Nat) k p,ae[j]? =some k->os[j]? =some p->∃o,obj k=some o/\o.sz=p.1/\eu (o.rows.take p.2.length)=aK p.2:=λj k p h1 h2=>by
    have⟨o,g1,g2⟩:=hmm j k p h1 h2;exact⟨o,hg k o g1,g2⟩
   have kO:∀k∈ae,∃o,obj k=some o:=by
    intro k hk;obtain⟨j,hj⟩:=List.getElem?_of_mem hk;have hjl:j<os.length:=(by rw[<- hl2];exact(dJ.1 hj).1);obtain⟨o,g,_⟩:=hmm' j k _ hj (dU hjl);exact⟨o,g⟩
   have S0:∀k∈Hw (first++args++caps) ae,k∉ae:=λk hk=>by
    simp only[Hw,mem_filter]at hk;simpa using hk.2
   have hM:=h.handed (c9:=Hw (first++args++caps) ae) hnd hl2 hmm' S0;have hall:bj P β w I (first++args++caps) (fs++vs++cs).toList:=by
    simp only[Array.toList_append];exact bj.append _ _ _ _ (bj.append _ _ _ _ hf1 hv) hf2
   have pp:=fS.sound h hg (Hw (first++args++caps) ae) _ _ _ (λ k hk hn=>by simp only[Hw,mem_filter];exact⟨hk,by simpa using hn⟩) (nD hq (λ x hx=>o1 x (by simp[hx]))) hall;refine⟨F,fs++vs++cs,?_,(hcon w _ _ _ (λ k hk=>?_) hM pp).mono ?_⟩
   .have hb:¬fn.body=none:=(by cases hh:fn.body<;>simp[hh]at e2 ⊢);have e3' : ¬ fn.name = "runtime.NumGoroutine" := (by simpa using e3);simp[execOp,resolve,hfo,<- hops,Deferred.ofValue,invoke,callFunc,e1,e3',hb]
   .simp[βc,List.getElem?_eq_none (show ae.length<=k by omega)]
   .rintro e w' ⟨v',I1,rfl,g1,g2,g3⟩;have⟨β',I',k1,k2,k3⟩:=ac8 (keep:=keep) h hn hp o3 hnd hlen kO g1 g2 g3;exact⟨v',β',I',rfl,k1,by rw[o5];exact k2,by rw[o4];exact k3⟩
  .cases ha
 .cases ha
theorem U9(h:Mem P w0 O0 β I obj w)(hn:β (cT i)=none){f:AV}{args:U AV}{cL:j7}{get:Nat->J aU}{ab:Out}(hg:∀k o,get k=some o->obj k=some o)
 {fv:Value} {vs:Array Value} {al:Array Operand} {fo:Operand} {r:Operand->Value} (ha:pq P i f args cL get=some ab) (cW:ab.ob) (hf:VR P β w I f fv) (hv:bj P β w I args vs.toList) (hfo:r fo=fv) (hops:vs=al.map r)
 {dst:J Tmp} {ao:String} {after:Array Edge} {guard:J (Nat×Bool)} {ty:TypeId} {c7:Array TypeId}:
 Aa P w0 O0 β I obj w i ab ((execOp r ⟨dst,.call { callee:= .value fo,args:=al,argTypes:=c7 },ty,ao,after,guard⟩).run P w):=by
 unfold pq at ha;split at ha
 .exact U8 h hn hg ha cW hf hv hfo hops
 .exact Yy h hn hg ha cW hf hv hfo hops
end
def D4(op:BinOp)(b:AV)(yes:Bool):J Out:=
 match op with
 | .eql=>pv (if yes then b else .t (.sc (.bool false)))
 | .neq=>pv (if yes then b else .t (.sc (.bool true)))
 |_=>none
def AF(T:er)(op:BinOp)(t:TypeId)(x y:AV):J Out:=
 (T t).bind λti=>match ti.k,x,y with
 | .slice _,.t (.sl rows),.dc=>D4 op .ub rows.isEmpty
 | .slice _,.own _ _ len,.dc=>D4 op .ub (len==0)
 | .slice _,.oz _ len,.dc=>D4 op (.t (.sc (.bool (op== .eql)))) (len==0)
 | .slice _,.dc,.dc=>D4 op (.t (.sc (.bool (op== .eql)))) true
 |_,_,_=>none
def On(T:er)(s d:TypeId)(x:AV):J Out:=
 (T s).bind λ_=>(T d).bind λdi=>match di.k,x with
 | .int k,.t (.sc (.int _ n))=>pv (.t (.sc (.int k (k.wrap n))))
 |_,_=>none
def Va(T:er)(t:TypeId)(x j:AV)(n:Int):J Out:=
 (T t).bind λti=>match ti.k,x,j with
 | .str,.t (.sc (.string s)),.t (.sc (.int _ m))=>mT (.t (.sc (.int .u8 n))) (0<=m/\∃b,s[m.toNat]? =some b/\n=b.toNat)
 | .arr m e,.agg cs,.t (.sc (.int _ q))=>(T e).bind λei=>(part' ei.agg ei.size ((cs.drop (q.toNat*ei.size)).take ei.size)).bind λv=>mT v (0<=q/\q<(m:Int))
 |_,_,_=>none
def JQ(T:er)(t:TypeId)(x:AV)(lo hi:J AV):J Out:=
 (T t).bind λti=>match ti.k,x with
 | .slice e,.dc=>(T e).bind λ_=>(bnd 0 lo).bind λl=>(bnd 0 hi).bind λh=>mT .dc (l=0/\h=0)
 |_,_=>none
def uT(T:er)(i:Nat)(b:Builtin)(args:U AV)(c7:U TypeId)(get:Nat->J aU):J Out:=
 match b,args,c7 with
 | .cap,[.dc],[t]=>(T t).bind λti=>match ti.k with
  | .slice _=>pv (.t (.sc (.int .i64 0)))
  |_=>none
 | .clear,[.own k aa _],[t]=>(T t).bind λti=>match ti.k with
  | .slice e=>(T e).bind λei=>(get k).bind λo=>if o.sz=ei.size then some ⟨.eV [],[(k,some ⟨o.sz,o.rows.take aa⟩)],[]⟩else none
  |_=>none
 | .append,[.dc,.t (.sc (.int _ m))],[t,u]=>(T t).bind λti=>(T u).bind λui=>match ti.k,ui.k with
  | .slice e,.int _=>(T e).bind λei=>some ⟨.own (cT i) 0 m.toNat,[(cT i,some ⟨ei.size,eu (List.replicate m.toNat (ei.zero.map cv))⟩)],[0<=m/\m.toNat*ei.bytes<=140737488355328/\m.toNat<=maxLen/\0<ei.size]⟩
  |_,_=>none
 |_,_,_=>none
def sV(T:er)(i:Nat)(o:Oper)(n:Int)(ρ:Operand->AV)(get:Nat->J aU):J Out:=
 match o.op with
 | .binOp op t x y _=>AF T op t (ρ x) (ρ y)
 | .convert s d x=>On T s d (ρ x)
 | .index t x j=>Va T t (ρ x) (ρ j) n
 | .slice t x lo hi none=>JQ T t (ρ x) (lo.map ρ) (hi.map ρ)
 | .call { callee:= .builtin b,args:=args,argTypes:=c7 }=>uT T i b (args.toList.map ρ) c7.toList get
 |_=>none
section
variable {T:er}
theorem Rq{i:Nat}{o:Oper}{cL:j7}{ρ ρ':Operand->AV}{get:Nat->J aU}(h:∀x∈o.op.operands,ρ x=ρ' x):ql T i o cL ρ get=ql T i o cL ρ' get:=by
 obtain⟨dst,op,ty,ao,after,guard⟩:=o;have pairs:∀ps:Array (Nat×Operand),(∀ x∈(ps.toList.map (·.2)).toArray,ρ x=ρ' x)->(ps.toList.map λ(j,x)=>(j,ρ x))=(ps.toList.map λ(j,x)=>(j,ρ' x)):=λps hp=>
  map_congr_left λp hm=>by
   obtain⟨i,x⟩:=p;simp only[hp x (by simp only[List.mem_toArray];exact mem_map.2 ⟨(i,x),hm,rfl⟩)]
 cases op<;>simp only[Op.operands]at h<;>simp only[ql]
 case build t ps=>rw[pairs ps h]
 case buildSlice t n ps=>rw[pairs ps h]
 case makeFunc fn first captured=>
  have h1:first.toList.map ρ=first.toList.map ρ':=map_congr_left λx hx=>h x (by simp;exact .inl (by simpa using hx))
  have h2:captured.toList.map ρ=captured.toList.map ρ':=map_congr_left λx hx=>h x (by simp;exact .inr (by simpa using hx));cases fn<;>simp only[h1,h2]
 case call c=>
  obtain⟨callee,args,c7⟩:=c;cases callee<;>simp only
  case builtin b=>
   have h1:args.toList.map ρ=args.toList.map ρ':=map_congr_left λx hx=>h x (by simp[Call.operands];simpa using hx);rw[h1]
 case slice t x lo hi mx=>
  have hx:=h x (by simp);cases mx with
  |some m=>rfl
  |none=>
   simp only[hx];cases lo<;>cases hi<;>simp_all
 case pick c a b=>rw[h c (by simp),h a (by simp),h b (by simp)]
 all_goals (first |rfl |(simp_all;done))
theorem q8:∀(l:U Prop),(∀ p∈l,p)->jq l
 |[],_=>trivial
 |[q],h=>h q (by simp)
 |q::r::l,h=>⟨h q (by simp),q8 (r::l) λp hp=>h p (eX _ hp)⟩
theorem aa4{i:Nat}{o:Oper}{n:Int}{ρ ρ':Operand->AV}{get:Nat->J aU}(h:∀x∈o.op.operands,ρ x=ρ' x):sV T i o n ρ get=sV T i o n ρ' get:=by
 obtain⟨dst,op,ty,ao,after,guard⟩:=o;cases op<;>simp only[Op.operands]at h<;>simp only[sV]
 case binOp a b c d e=>rw[h c (by simp),h d (by simp)]
 case convert s d x=>rw[h x (by simp)]
 case index t x j=>rw[h x (by simp),h j (by simp)]
 case call c=>
  obtain⟨callee,args,c7⟩:=c;cases callee<;>simp only
  case builtin b=>
   have h1:args.toList.map ρ=args.toList.map ρ':=map_congr_left λx hx=>h x (by simp[Call.operands];simpa using hx);rw[h1]
 case slice t x lo hi mx=>
  have hx:=h x (by simp);cases mx with
  |some m=>rfl
  |none=>
   simp only[hx];cases lo<;>cases hi<;>simp_all
end
def afY:Op->Bool
 | .pick .. =>true
 |_=>false
def Hz(P:Program)(T:er)(i:Nat)(o:Oper)(ae:U Nat)(fr:Operand->AV)(cL:j7)(ρ:Operand->AV)(get:Nat->J aU):J Out:=
 if afY o.op then none else(ql T i o cL fr (λ k=>if k∈ae then none else get k)).bind λab=>
  some ⟨ab.v,ab.upd++ae.map (λ k=>(k,none)),ab.obs++[∀ x∈o.op.operands,(fW P get (ρ x) (fr x)/\∀k∈refs (ρ x),k∈ae)\/fr x=ρ x]⟩
theorem aa5{P:Program}{T:er}{i:Nat}{o:Oper}{ae:U Nat}{fr:Operand->AV}{cL:j7}{ρ ρ':Operand->AV}{get:Nat->J aU}(h:∀x∈o.op.operands,ρ x=ρ' x):Hz P T i o ae fr cL ρ get=Hz P T i o ae fr cL ρ' get:=by
 unfold Hz;have:(∀ x∈o.op.operands,(fW P get (ρ x) (fr x)/\∀k∈refs (ρ x),k∈ae)\/fr x=ρ x)=(∀ x∈o.op.operands,(fW P get (ρ' x) (fr x)/\∀k∈refs (ρ' x),k∈ae)\/fr x=ρ' x):=by
  apply propext;constructor<;>intro hh x hx
  .rw[<- h x hx];exact hh x hx
  .rw[h x hx];exact hh x hx
 rw[this]
section
variable {P:Program} {T:er} {w0:World} {O0:kx} {β:Nat->Option cV} {I:Nat->Prop} {obj:Nat->Option aU} {w:World} {i:Nat}
theorem afZ(hT:fu P T){op:BinOp}{t:TypeId}{x y:AV}{xo yo:Operand}{u v:Value}{ab:Out}(ha:AF T op t x y=some ab)(hx:VR P β w I x u)(hy:VR P β w I y v):
 ∃z,(do eqGuard op t xo yo u v;binOp op t u v:Sem Value).run P w= .ok z w/\VR P β w I ab.v z/\ab.upd=[]:=by
 unfold AF at ha;cases hti:T t with
 |none=>simp[hti]at ha
 |some ti=>
  have ht:=hT t ti hti;simp only[hti,af]at ha;have eq:∀e a n c,P.underlying t=some (.slice e)->(Op.equal t (.slice a n c) (.slice none 0 0)).run P w= .ok a.isNone w:=by
   intro e a n c hu;have:∀d,(Op.equalIn (d+1) t (.slice a n c) (.slice none 0 0)).run P w= .ok a.isNone w:=by
    intro d;cases a<;>simp[Op.equalIn,run_underlying hu]
   exact this 9999
  have main:∀e,P.underlying t=some (.slice e)->∀a n c,u= .slice a n c->v= .slice none 0 0->(op= .eql\/op= .neq)->
   (do eqGuard op t xo yo u v;binOp op t u v:Sem Value).run P w= .ok (.bool (if op= .eql then a.isNone else !a.isNone)) w:=by
   rintro e hu a n c rfl rfl (rfl |rfl)
   .simp[eqGuard,binOp,eq e a n c hu]
   .simp[eqGuard,binOp,eq e a n c hu]
  have fin:∀e,P.underlying t=some (.slice e)->∀a n c,u= .slice a n c->v= .slice none 0 0->∀(bv:AV)(yes:Bool),D4 op bv yes=some ab->
   (yes=false->a.isNone=false)->(yes=true->∀q,(q=if op= .eql then a.isNone else !a.isNone)->VR P β w I bv (.bool q))->
   ∃z,(do eqGuard op t xo yo u v;binOp op t u v:Sem Value).run P w= .ok z w/\VR P β w I ab.v z/\ab.upd=[]:=by
   intro e hu a n c h1 h2 bv yes hn hno HI;unfold D4 at hn;split at hn
   .simp only[pv,aC]at hn;subst hn;refine⟨_,main e hu a n c h1 h2 (.inl rfl),?_,rfl⟩;cases yes with
    |true=>exact HI rfl _ rfl
    |false=>simp only[hno rfl];exact⟨by simp,trivial⟩
   .simp only[pv,aC]at hn;subst hn;refine⟨_,main e hu a n c h1 h2 (.inr rfl),?_,rfl⟩;cases yes with
    |true=>exact HI rfl _ rfl
    |false=>simp only[hno rfl];exact⟨by simp,trivial⟩
   .cases hn
  split at ha
  .rename_i e rows hk;have hu:=gY ht hk;simp only[VR]at hy;simp only[VR,TR]at hx;rcases hx with ⟨rfl,a,c,rfl,_⟩ |⟨b,aa,c,sz,rfl,_⟩
   .exact fin _ hu _ _ _ rfl hy _ _ ha (λ h=>by simp at h) (λ _ q _=>by simp only[VR];exact⟨q,rfl⟩)
   .exact fin _ hu _ _ _ rfl hy _ _ ha (λ _=>rfl) (λ _ q _=>by simp only[VR];exact⟨q,rfl⟩)
  .rename_i e k aa len hk;have hu:=gY ht hk;simp only[VR]at hx hy;rcases hx with ⟨_,rfl,_,rfl⟩ |⟨b,sz,n,cap,o,_,rfl,_⟩
   .exact fin _ hu _ _ _ rfl hy _ _ ha (λ h=>by simp at h) (λ _ q _=>by simp only[VR];exact⟨q,rfl⟩)
   .exact fin _ hu _ _ _ rfl hy _ _ ha (λ _=>rfl) (λ _ q _=>by simp only[VR];exact⟨q,rfl⟩)
  .rename_i e k len hk;have hu:=gY ht hk;simp only[VR]at hx hy;rcases hx with ⟨h0,rfl⟩ |⟨h0,b,sz,n,cap,o,_,rfl,_⟩
   .refine fin _ hu _ _ _ rfl hy _ _ ha (λ h=>by simp[h0]at h) (λ _ q hq=>?_);simp only[VR,TR,hq];cases op<;>exact⟨by simp,trivial⟩
   .exact fin _ hu _ _ _ rfl hy _ _ ha (λ _=>rfl) (λ h=>by simp[h0]at h)
  .rename_i e hk;have hu:=gY ht hk;simp only[VR]at hx hy;subst hx;refine fin _ hu _ _ _ rfl hy _ _ ha (λ h=>by cases h) (λ _ q hq=>?_);simp only[VR,TR,hq];cases op<;>exact⟨by simp,trivial⟩
  .cases ha
theorem ada(hT:fu P T){s d:TypeId}{x:AV}{u:Value}{ab:Out}(ha:On T s d x=some ab)(hx:VR P β w I x u):
 ∃z,(convert s d u).run P w= .ok z w/\VR P β w I ab.v z/\ab.upd=[]:=by
 unfold On at ha;cases hsi:T s with
 |none=>simp[hsi]at ha
 |some si=>
  cases hdi:T d with
  |none=>simp[hsi,hdi]at ha
  |some di=>
   simp only[hsi,hdi,af]at ha;split at ha
   .rename_i k kk n hk;simp only[pv,aC]at ha;subst ha;have⟨info,dd,z,_,h2,_⟩:=(hT s si hsi).ex;have⟨info',dd',z',_,h2',_,_,_,_,_,h8⟩:=(hT d di hdi).ex;rw[hk]at h8;have h8:dd'= .int k:=h8;subst h8;simp only[VR,TR]at hx;obtain⟨rfl,_⟩:=hx;refine⟨.int k (k.wrap n),?_,by simp only[VR,TR];exact⟨trivial,trivial⟩,rfl⟩;simp[convert,run_underlying h2,run_underlying h2',Conv.intToInt]
   .cases ha
theorem aa6(hT:fu P T){t:TypeId}{x j:AV}{n:Int}{u v:Value}{ab:Out}(ha:Va T t x j n=some ab)(cW:ab.ob)(hx:VR P β w I x u)(hj:VR P β w I j v):
 ∃z,(Instr.index t u v).run P w= .ok z w/\VR P β w I ab.v z/\ab.upd=[]:=by
 unfold Va at ha;cases hti:T t with
 |none=>simp[hti]at ha
 |some ti=>
  simp only[hti,af]at ha;split at ha
  .rename_i s k m hk;simp only[mT,aC]at ha;subst ha;obtain⟨h0,b,hb,rfl⟩:=cW;have⟨info',dd',z',_,h2',_,_,_,_,_,h8⟩:=(hT t ti hti).ex;rw[hk]at h8;have h8:dd'= .string:=h8;subst h8;simp only[VR,TR]at hx hj;obtain⟨rfl,_⟩:=hx;obtain⟨rfl,_⟩:=hj;refine⟨.int .u8 b.toNat,?_,by simp only[VR,TR];exact⟨trivial,trivial⟩,rfl⟩;simp[Instr.index,asIntOf,run_underlying h2',h0,hb]
  .rename_i m e cs kd q hk;have fj:=MO (hT t ti hti) hk;cases fL:T e with
   |none=>simp[fL]at ha
   |some ei=>
    simp only[fL,af]at ha;cases hp:part' ei.agg ei.size ((cs.drop (q.toNat*ei.size)).take ei.size)with
    |none=>simp[hp]at ha
    |some y=>
     simp only[hp,af,mT,aC]at ha;subst ha;have cW:0<=q/\q<(m:Int):=cW;simp only[VR,TR]at hx hj;obtain⟨vs,rfl,hvs⟩:=hx;obtain⟨rfl,_⟩:=hj;have he:=hT e ei fL;have⟨u,hu,hv⟩:=ac5 he hp hvs;refine⟨u,?_,hv,rfl⟩;simp[Instr.index,asIntOf,run_underlying fj,cW.1,cW.2,he.size (w:=w)];simpa using hu
  .cases ha
theorem SA(hT:fu P T){t:TypeId}{x:AV}{lo hi:J AV}{ab:Out}{v:Value}{tw hiv:J Value}
 (ha:JQ T t x lo hi=some ab) (cW:ab.ob) (hx:VR P β w I x v) (hlo:∀x,lo=some x->∃v,tw=some v/\VR P β w I x v) (hlo0:lo=none->tw=none) (hhi:∀x,hi=some x->∃v,hiv=some v/\VR P β w I x v) (hhi0:hi=none->hiv=none):
 ∃u,(Instr.sliceAt t v tw hiv none).run P w= .ok u w/\VR P β w I ab.v u/\ab.upd=[]:=by
 unfold JQ at ha;cases hti:T t with
 |none=>simp[hti]at ha
 |some ti=>
  have ht:=hT t ti hti;simp only[hti,af]at ha;split at ha
  .rename_i e hkd;cases fL:T e with
   |none=>simp[fL]at ha
   |some ei=>
    have he:=hT e ei fL;simp only[fL,af]at ha;cases hl:bnd 0 lo with
    |none=>simp[hl]at ha
    |some l=>
     cases hh:bnd 0 hi with
     |none=>simp[hl,hh]at ha
     |some r=>
      simp only[hl,hh,af,mT,aC]at ha;subst ha;obtain⟨rfl,rfl⟩:=cW;simp only[VR]at hx;subst hx;have:=FM (P:=P) (w:=w) (len:=0) (cap:=0) (JP hl hlo hlo0) (JP hh hhi hhi0) (by omega) (by omega) (by omega);refine⟨.slice none 0 0,?_,by simp only[VR],rfl⟩;simp[Instr.sliceAt,Instr.slice,run_underlying (gY ht hkd),this,he.size (w:=w)]
  .cases ha
theorem bp.congr:∀(rows:U (List AV))(c c':Array Value)(aa sz:Nat),(∀ j,j<aa+rows.length*sz->c'[j]? =c[j]?)->bp P β w I rows c aa sz->bp P β w I rows c' aa sz
 |[],_,_,_,_,_,_=>trivial
 |r::rs,c,c',aa,sz,hc,⟨h1,h2,h3⟩=>by
  have hl:(r::rs).length*sz=sz+rs.length*sz:=by rw[bG,Nat.add_mul];omega
  rw[hl]at hc;refine⟨h1,?_,bp.congr rs c c' (aa+sz) sz (λ j hj=>hc j (by omega)) h3⟩;rw[jy]at h2 ⊢;intro j x hx;have hj:=(dJ.1 hx).1;rw[hc (aa+j) (by omega)];exact h2 j x hx
theorem bp.zeros(z:U Value)(sz:Nat)(hz:z.length=sz)(h1:∀v∈z,oneCell v):∀(n:Nat)(c:Array Value)(aa:Nat),(∀ i j,i<n->j<sz->c[aa+i*sz+j]? =z[j]?)->bp P β w I (List.replicate n (z.map cv)) c aa sz
 | 0,_,_,_=>trivial
 |n+1,c,aa,hc=>by
  rw[List.replicate_succ];refine⟨by simpa using hz,?_,bp.zeros z sz hz h1 n c (aa+sz) λi j hi hj=>?_⟩
  .rw[jy];intro j x hx;simp only[List.getElem?_map,dQ]at hx;obtain⟨v,hv,rfl⟩:=hx;have hj:=(dJ.1 hv).1;refine⟨v,?_,VR.cv,h1 v (dD hv)⟩;have:=hc 0 j (by omega) (by omega);rw[Nat.zero_mul,Nat.add_zero]at this;rw[this];exact hv
  .have:=hc (i+1) j (by omega) hj;rw[show aa+sz+i*sz+j=aa+(i+1)*sz+j by rw[Nat.add_mul];omega];exact this
theorem K9(z:Array Value)(n j:Nat)(h:j<n*z.size):(Builtin.zeroCells z n)[j]? =z[j%z.size]? :=by
 have hz:0<z.size:=Nat.pos_of_ne_zero λe=>by rw[e]at h;omega
 have hm:j%z.size<z.size:=Nat.mod_lt _ hz;simp[Builtin.zeroCells,h,hm]
theorem SB(hT:fu P T)(h:Mem P w0 O0 β I obj w)(hn:β (cT i)=none){b:Builtin}{args:U AV}{c7:Array TypeId}{get:Nat->J aU}{ab:Out}(hg:∀k o,get k=some o->obj k=some o)
 {vs:Array Value} {ty:TypeId} {al:Array Operand} (ha:uT T i b args c7.toList get=some ab) (cW:ab.ob) (hv:bj P β w I args vs.toList) {r:Operand->Value} (hops:vs=al.map r) {dst:J Tmp} {ao:String} {after:Array Edge} {guard:J (Nat×Bool)}:
 sq P w0 O0 β I obj w i ab ((execOp r ⟨dst,.call { callee:= .builtin b,args:=al,argTypes:=c7 },ty,ao,after,guard⟩).run P w):=by
 unfold uT at ha;split at ha
 .rename_i t q7;obtain⟨v,hvs⟩:∃v,vs=#[v]:=by
   obtain⟨l⟩:=vs
   match l,hv with
   |[v],_=>exact⟨v,rfl⟩
   |[],h=>simp[bj]at h
   |_::_::_,h=>simp[bj]at h
  have ht:c7=#[t]:=by cases c7;simpa using q7
  subst hvs ht;simp only[bj,VR]at hv;cases hti:T t with
  |none=>simp[hti]at ha
  |some ti=>
   simp only[hti,af]at ha;split at ha
   .rename_i e hk;simp only[pv,aC]at ha;subst ha;refine⟨.int .i64 0,w,β,I,.inl ?_,Step.refl ..,h,by simp only[VR,TR];exact⟨trivial,trivial⟩⟩;rw[hv.1]at hops;simp[execOp,resolve,invoke,builtin,<- hops,Builtin.cap_,run_underlying (gY (hT t ti hti) hk),goInt]
   .cases ha
 .rename_i k aa len t q7;obtain⟨v,hvs⟩:∃v,vs=#[v]:=by
   obtain⟨l⟩:=vs
   match l,hv with
   |[v],_=>exact⟨v,rfl⟩
   |[],h=>simp[bj]at h
   |_::_::_,h=>simp[bj]at h
  have ht:c7=#[t]:=by cases c7;simpa using q7
  subst hvs ht;simp only[bj]at hv;have hv:=hv.1;cases hti:T t with
  |none=>simp[hti]at ha
  |some ti=>
   simp only[hti,af]at ha;split at ha
   .rename_i e hkd;cases fL:T e with
    |none=>simp[fL]at ha
    |some ei=>
     cases hk:get k with
     |none=>simp[fL,hk]at ha
     |some o=>
      simp only[fL,hk,af]at ha;split at ha
      .rename_i hsz;cases ha;have he:=hT e ei fL;have fj:=gY (hT t ti hti) hkd;obtain⟨info,d,z,g1,g2,g3,g4,g5,g6,g7,g8⟩:=he.ex;have hko:=hg k o hk;have weak:∀{w':World},Mem P w0 O0 β I obj w'->Mem P w0 O0 β I (dn obj [(k,some ⟨o.sz,o.rows.take aa⟩)]) w':=by
        intro w' hm;refine hm.weak λj o' hj=>?_;simp only[dn]at hj;split at hj
        .rename_i e;subst e;cases hj;refine⟨o,hko,λB hB hO=>?_⟩;cases B with
         |none=>simp only[OR]at hO ⊢;simp[hO]
         | «at» b s n=>
          obtain⟨h1,c,e,h2,h3,h4⟩:=hO;exact⟨h1,c,e,h2,h3,bp.take _ _ _ _ _ h4⟩
         |mp b=>
          obtain⟨es,cl,h1,hle,h2,h3⟩:=hO;refine⟨es,cl,h1,by simp only[length_take];omega,λe=>?_,h3⟩;simp only[length_take]at e;simp only;rw[take_of_length_le (by omega)];exact h2 (by omega)
        .exact⟨o',hj,λ_ _ h=>h⟩
       have hdone:∀w',(Builtin.clear_ #[t] ty #[v]).run P w= .ok (.tuple #[]) w'->(execOp r ⟨dst,.call { callee:= .builtin .clear,args:=al,argTypes:=#[t] },ty,ao,after,guard⟩).run P w= .ok (.value (.tuple #[])) w':=by
        intro w' hw;simp[execOp,resolve,invoke,builtin,<- hops,hw]
       have A6:∀{w':World},VR P β w' I (.eV []) (.tuple #[]):=by
        intro w';simp only[VR];exact⟨#[],rfl,trivial⟩
       simp only[VR]at hv;rcases hv with ⟨h1,rfl,_,rfl⟩ |⟨b,sz,m,cap,a,h1,rfl,h2,h3,h4⟩
       .exact⟨_,w,β,I,.inl (hdone w (by simp[Builtin.clear_,run_underlying fj])),Step.refl ..,weak h,A6⟩
       .by_cases h0:len=0
        .subst h0;exact⟨_,w,β,I,.inl (hdone w (by simp[Builtin.clear_,run_underlying fj])),Step.refl ..,weak h,A6⟩
        .have⟨B,hB,hO⟩:=h.cQ k o hko;rw[h1]at hB;cases hB;obtain⟨hs,c,ce,hc,hcn,hO⟩:=hO;have ha':a=m.s+aa*sz:=h4 (by omega);subst ha';have hzs:z.cells.size=ei.size:=(by rw[<- Array.length_toList,g6];exact he.len);have hzl:(Builtin.zeroCells z.cells len).toList.length=len*ei.size:=(by simp[size_zeroCells,hzs]);have hfit:m.s+aa*sz+len*ei.size<=c.size:=by
          rw[hcn,<- hsz,<- hs,Nat.add_assoc,<- Nat.add_mul];have:(aa+len)*sz<=(aa+cap)*sz:=Nat.mul_le_mul_right _ (by omega);omega
         have hone:∀u∈(Builtin.zeroCells z.cells len).toList,u.oneCell'=true:=by
          intro u hu;obtain⟨j,hj⟩:=List.getElem?_of_mem hu;have hjl:=(dJ.1 hj).1;rw[hzl,<- hzs]at hjl;rw[Array.getElem?_toList,K9 _ _ _ hjl]at hj;have:u∈ei.zero:=(by rw[<- g6];exact Array.mem_toList_iff.2 (Array.mem_of_getElem? hj));exact oneCell' (sS (all_eq_true.1 he.one u this))
         have hst:=run_storeCells_at P b (m.s+aa*sz) ce (Builtin.zeroCells z.cells len).toList 0 c w hc (by rw[hzl];omega) hone;simp only[Nat.add_zero]at hst;generalize hcc:(List.take (m.s+aa*sz) c.toList++(Builtin.zeroCells z.cells len).toList++List.drop (m.s+aa*sz+(Builtin.zeroCells z.cells len).toList.length) c.toList).toArray=cc at hst;have Th:cc.size=c.size:=(by rw[<- hcc];simp[length_take,length_drop,size_zeroCells,hzs];omega);have hzv:(zeroValue e).run P w= .ok z w:=(by simp[zeroValue,typeInfo,g1,g5]);have hrun:(Builtin.clear_ #[t] ty #[.slice (some ⟨b,m.s+aa*sz,none⟩) len cap]).run P w= .ok (.tuple #[]) (w.setRow b cc):=by
          obtain⟨len',rfl⟩:∃len',len=len'+1:=⟨len -1,by omega⟩;simp[Builtin.clear_,run_underlying fj,hzv,hst]
         obtain⟨wa,hM⟩:=Mem.write (o':=⟨o.sz,o.rows.take aa⟩) h hko h1 (c':=cc) (e:=ce) (setRow_heap w b c cc ce (0,0) hc) (λ b' hb=>setRow_other w b b' cc hb) (by simp) rfl rfl rfl hs (by omega) (by
          refine bp.congr _ c cc m.s o.sz (λ j hj=>?_) (by rw[<- hs];exact bp.take _ _ _ _ _ hO);have hj2:j<m.s+aa*sz:=by
           rw[hs];refine Nat.lt_of_lt_of_le hj (Nat.add_le_add_left ?_ _);exact Nat.mul_le_mul_right _ (by simp[length_take];omega)
          rw[<- hcc,List.getElem?_toArray,aO,List.getElem?_append_left (by simp[length_take];omega),List.getElem?_take,aZ hj2,Array.getElem?_toList])
         exact⟨_,_,β,I,.inl (hdone _ hrun),⟨λ _ _=>rfl,λ_ _ h=>h,wa,λ_ h=>h⟩,hM,A6⟩
      .cases ha
   .cases ha
 .rename_i kk m t u q7;obtain⟨v,v',hvs⟩:∃v v',vs=#[v,v']:=by
   obtain⟨l⟩:=vs
   match l,hv with
   |[v,v'],_=>exact⟨v,v',rfl⟩
   |[],h=>simp[bj]at h
   |[_],h=>simp[bj]at h
   |_::_::_::_,h=>simp[bj]at h
  have ht:c7=#[t,u]:=by cases c7;simpa using q7
  subst hvs ht;simp only[bj,VR,TR]at hv;obtain⟨rfl,⟨rfl,_⟩,_⟩:=hv;cases hti:T t with
  |none=>simp[hti]at ha
  |some ti=>
   cases wn:T u with
   |none=>simp[hti,wn]at ha
   |some ui=>
    simp only[hti,wn,af]at ha;split at ha
    .rename_i e kn hkd BY;cases fL:T e with
     |none=>simp[fL]at ha
     |some ei=>
      simp only[fL,af,aC]at ha;subst ha;obtain⟨m0,m48,HE,mpos⟩:=cW;have he:=hT e ei fL;have fj:=gY (hT t ti hti) hkd;obtain⟨info,d,z,g1,g2,g3,g4,g5,g6,g7,g8⟩:=he.ex;have⟨_,dd',_,_,h2',_,_,_,_,_,h8⟩:=(hT u ui wn).ex;rw[BY]at h8;have h8:dd'= .int kn:=h8;subst h8;obtain⟨n,rfl⟩:∃n:Nat,m=(n:Int):=⟨m.toNat,by omega⟩;simp only[Int.toNat_natCast]at m48 HE ⊢;by_cases h0:n=0
      .subst h0;have⟨hS,hM⟩:=Mem.pH (i:=cT i) (o:=⟨ei.size,[]⟩) h hn rfl;have hrun:(Builtin.append_ #[t,u] ty #[.slice none 0 0,.int kk ((0:Nat):Int)]).run P w= .ok (.slice none 0 0) w:=by
        have hw0:i64.wrap (0:Int)=0:=(by decide);simp[Builtin.append_,run_underlying fj,run_underlying h2',sizeOf,typeInfo,g1,asInt,asIntOf,hw0]
       replace hrun:(Builtin.append_ #[t,u] ty #[.slice none 0 0,.int kk 0]).run P w= .ok (.slice none 0 0) w:=hrun
       refine⟨.slice none 0 0,w,_,I,.inl (by simp[execOp,resolve,invoke,builtin,<- hops,hrun]),hS,by simpa[eu]using hM,by simp only[VR];exact .inl ⟨by simp[ins],trivial,trivial,trivial⟩⟩
      .have hrun:=Lib.run_append_nil_zeros (P:=P) w t u ty e info z kk kn fj h2' g1 g5 n (by omega) (by omega) (by simp only[maxLen]at HE;omega) (by rw[g4];omega);have hd:=h.drew;have hzs:z.cells.size=ei.size:=(by rw[<- Array.length_toList,g6];exact he.len);have hge:=grownCap_ge w n 0 e;generalize hC:Builtin.zeroCells z.cells n++Builtin.zeroCells z.cells (grownCap w n 0 e -n)=cs at hrun;have hcs:cs.size=grownCap w n 0 e*ei.size:=by
        rw[<- hC];simp only[Array.size_append,size_zeroCells,hzs,<- Nat.add_mul];rw[show n+(grownCap w n 0 e -n)=grownCap w n 0 e by omega]
       obtain⟨hS,hM⟩:=Mem.alloc (i:=cT i) (o:=⟨ei.size,List.replicate n (ei.zero.map cv)⟩) (c:=cs) (e:=e) hd hn (by
        refine bp.zeros ei.zero ei.size he.len (λ v hv=>sS (all_eq_true.1 he.one v hv)) n cs 0 (λ i j hi hj=>?_);have hlt:0+i*ei.size+j<n*ei.size:=by
         have:(i+1)*ei.size<=n*ei.size:=Nat.mul_le_mul_right _ (by omega);rw[Nat.add_mul]at this;omega
        rw[<- hC,Array.getElem?_append_left (by simpa[size_zeroCells,hzs]using hlt),K9 _ _ _ (by rw[hzs];exact hlt),hzs,<- g6,Array.getElem?_toList];congr 1;rw[Nat.zero_add,Nat.mul_comm,Nat.mul_add_mod,Nat.mod_eq_of_lt hj])
       refine⟨_,_,_,I,.inl (by simp[execOp,resolve,invoke,builtin,<- hops,hrun];rfl),⟨hS.other,hS.ext,λb hb=>hS.same b hb,hS.inc⟩,hM.wx,?_⟩;simp only[VR];refine .inr ⟨w.heap.size,ei.size,_,_,0,by simp[ins];rfl,rfl,hge,?_,by simp⟩;rw[hcs,Nat.zero_add];simp
    .cases ha
 .cases ha
theorem aa7(hT:fu P T)(h:Mem P w0 O0 β I obj w)(hn:β (cT i)=none){o:Oper}{n:Int}{ρ:Operand->AV}{get:Nat->J aU}{ab:Out}(hg:∀k o,get k=some o->obj k=some o)
 {r:Operand->Value} (hρ:∀x,VR P β w I (ρ x) (r x)) (ha:sV T i o n ρ get=some ab) (cW:ab.ob):sq P w0 O0 β I obj w i ab ((execOp r o).run P w):=by
 obtain⟨dst,op,ty,ao,after,guard⟩:=o;have val:∀{s:Sem Value}{z:Value},s.run P w= .ok z w->ab.upd=[]->VR P β w I ab.v z->sq P w0 O0 β I obj w i ab ((do pure (.value (<- s)):Sem Next).run P w):=by
  intro s z h1 h2 h3;refine⟨z,w,β,I,.inl (by simp[h1]),Step.refl ..,by rw[h2];exact h,h3⟩
 unfold sV at ha;split at ha
 .rename_i bop t x y q heq;simp only at heq;subst heq;have⟨z,h1,h2,h3⟩:=afZ (xo:=x) (yo:=y) hT ha (hρ x) (hρ y);exact val h1 h3 h2
 .rename_i s d x heq;simp only at heq;subst heq;have⟨z,h1,h2,h3⟩:=ada hT ha (hρ x);exact val h1 h3 h2
 .rename_i t x j heq;simp only at heq;subst heq;have⟨z,h1,h2,h3⟩:=aa6 hT ha cW (hρ x) (hρ j);exact val h1 h3 h2
 .rename_i t x lo hi heq;simp only at heq;subst heq;obtain⟨z,h1,h2,h3⟩:=SA (tw:=lo.map r) (hiv:=hi.map r) hT ha cW (hρ x) (λ y hy=>by
   cases lo with
   |none=>cases hy
   |some q=>cases hy;exact⟨r q,rfl,hρ q⟩) (λ h=>by cases lo<;>first |rfl |cases h) (λ y hy=>by
   cases hi with
   |none=>cases hy
   |some q=>cases hy;exact⟨r q,rfl,hρ q⟩) (λ h=>by cases hi<;>first |rfl |cases h)
  exact val h1 h3 h2
 .rename_i b args c7 heq;simp only at heq;subst heq;exact SB hT h hn hg ha cW (by rw[Array.toList_map];exact bj.map hρ _) rfl
 .cases ha
theorem aa8(hT:fu P T)(h:Mem P w0 O0 β I obj w)(hn:β (cT i)=none){o:Oper}{ae:U Nat}{fr:Operand->AV}{cL:j7}{ρ:Operand->AV}{get:Nat->J aU}{ab:Out}(hg:∀k o,get k=some o->obj k=some o)
 {r:Operand->Value} (hρ:∀x,VR P β w I (ρ x) (r x)) (ha:Hz P T i o ae fr cL ρ get=some ab) (cW:ab.ob):sq P w0 O0 β I obj w i ab ((execOp r o).run P w):=by
 unfold Hz at ha;split at ha
 .cases ha
 rw[ai]at ha;obtain⟨out',h1,h2⟩:=ha;cases h2;have cW:=qJ _ cW;have hb:=cW (∀ x∈o.op.operands,(fW P get (ρ x) (fr x)/\∀k∈refs (ρ x),k∈ae)\/fr x=ρ x) (by simp);have hsub:∀k o',dn obj (ae.map λk=>(k,none)) k=some o'->obj k=some o'/\k∉ae:=by
  intro k o' hk;rw[yC]at hk;split at hk
  .cases hk
  .exact⟨hk,‹_›⟩
 have hd:=h.drop (dn obj (ae.map λk=>(k,none))) (λ k o hk=>(hsub k o hk).1);obtain⟨_,hM⟩:=hd.below (I':=fY β obj ae I) (w':=w) ⟨rfl,rfl,rfl,aG _,λ_ _=>rfl⟩ (λ b hb=> .inl hb) (MS h ae) (λ b k o B hb' e1 e2 e3=>by
  have⟨f1,f2⟩:=hsub k o e1;have⟨a1,_,_⟩:=h.ownB k o B b f1 e2 e3;rcases hb' with h5 |⟨k',o',s',n',g1,g2,g3⟩
  .exact a1 h5
  .have:=h.ma k k' o o' b f1 g2 ⟨B,e2,e3⟩ (.at g3);subst this;exact f2 g1) (λ b hb'=>by
  rcases hb' with h5 |⟨k',o',s',n',g1,g2,g3⟩
  .exact h.up b h5
  .exact .inr (h.own k' o' b s' n' g2 g3).2.2)
 have hfr:∀x,VR P β w (fY β obj ae I) ((λ x=>open Classical in if x∈o.op.operands then fr x else .undef) x) (r x):=by
  intro x;by_cases hx:x∈o.op.operands
  .simp only[hx,if_true];rcases hb x hx with ⟨b1,b2⟩ |b1
   .exact VR.mono (λ k B h=>by simp[my]at h) (λ _ _=>rfl) (λ _ h=>h) _ _ (fW.sound h ae _ _ _ b2 (fW.weaken hg _ _ b1) (hρ x))
   .rw[b1];exact VR.mono (λ _ _ h=>h) (λ _ _=>rfl) (λ _ h=> .inl h) _ _ (hρ x)
  .simp only[hx,if_false,VR]
 rw[Rq (ρ':=λx=>open Classical in if x∈o.op.operands then fr x else .undef) (λ x hx=>by simp only[hx,if_true])]at h1;obtain⟨v',w',β',I',k1,k2,k3,k4⟩:=Ro hT hM hn (λ k o' hk=>by
  rw[yC];split at hk
  .cases hk
  .rw[aT ‹_›];exact hg k o' hk) hfr h1 (q8 _ λp hp=>cW p (by simp[hp]))
 refine⟨v',w',β',I',k1,⟨k2.other,k2.ext,λb hb=>k2.same b (.inl hb),λb hb=>k2.inc b (.inl hb)⟩,?_,k4⟩;have e:dn obj (out'.upd++ae.map λk=>(k,none))=dn (dn obj (ae.map λk=>(k,none))) out'.upd:=funext λk=>rY obj _ _ k;rw[e];exact k3
end
open Go.RowKit Go.MapKept
def MV:AI->Value->Bool
 | .int a,.int b _=>decide (a=b)
 | .str,.string _=>true
 | .bool,.bool _=>true
 |_,_=>false
def Rs:Value->Value->J Bool
 | .int k a,.int k' b=>if k=k' then some (a==b)else none
 | .string a,.string b=>some (a.toList==b.toList)
 | .bool a,.bool b=>some (a==b)
 |_,_=>none
def Rt(key:Value):U (List AV)->J (Option (Nat×AV))
 |[]=>some none
 |[.t (.sc kv),y]::rs=>(Rs key kv).bind λb=>if b then some (some (0,y))else(Rt key rs).map λr=>r.map λp=>(p.1+1,p.2)
 |_=>none
def yn(key:Value)(y':AV):U (List AV)->J (List (List AV))
 |[]=>some [[.t (.sc key),y']]
 |[.t (.sc kv),y]::rs=>(Rs key kv).bind λb=>if b then some ([.t (.sc key),y']::rs)else(yn key y' rs).map λr=>[.t (.sc kv),y]::r
 |_=>none
def yv:AV->AV
 | .agg cs=> .agg (cs.map wk)
 |x=>wk x
def HV(T:er)(i:Nat)(t:TypeId):J Out:=
 (T t).bind λti=>match ti.k with
 | .map _ _=>some ⟨.mp (cT i),[(cT i,some ⟨0,[]⟩)],[]⟩
 |_=>none
def wi(r:J (Nat×AV))(z:J AV):J AV:=match r with
 |some p=>some p.2
 |none=>z
def Us(T:er)(t:TypeId)(x key:AV)(ok:Bool)(get:Nat->J aU):J Out:=
 (T t).bind λti=>match ti.k,x,key with
 | .map kt et,.mp k,.t (.sc kv)=>(T kt).bind λki=>(T et).bind λei=>(get k).bind λo=>if MV ki.k kv=true/\o.sz=o.rows.length then(Rt kv o.rows).bind λr=>
  (wi r (part' ei.agg ei.size ((ei.zero.map cv).map wk))).bind λv=>pv (if ok then .eV [v,.t (.sc (.bool r.isSome))]else v)else none
 |_,_,_=>none
def Ut(T:er)(t:TypeId)(x key y:AV)(get:Nat->J aU):J Out:=
 (T t).bind λti=>match ti.k,x,key with
 | .map kt _,.mp k,.t (.sc kv)=>(T kt).bind λki=>(get k).bind λo=>if MV ki.k kv=true/\o.sz=o.rows.length then(yn kv (yv y) o.rows).bind λrs=>
  some ⟨.undef,[(k,some ⟨rs.length,rs⟩)],[]⟩else none
 |_,_,_=>none
section
variable {P:Program} {T:er} {w0:World} {O0:kx} {β:Nat->Option cV} {I:Nat->Prop} {obj:Nat->Option aU} {w:World} {i:Nat}
theorem ajq{k:AI}{v:Value}{d:TypeDesc}(h:MV k v=true)(hd:R0 k d):IsKey d v:=by
 unfold MV at h;split at h
 .rename_i a b n;have hd:d= .int a:=hd;subst hd;simp only[aW]at h;subst h;simp[IsKey]
 .have hd:d= .string:=hd;subst hd;simp[IsKey]
 .have hd:d= .bool:=hd;subst hd;simp[IsKey]
 .cases h
theorem ZJ{d:TypeDesc}{a b:Value}(ha:IsKey d a){r:Bool}(h:Rs a b=some r):Instr.sameNow d a b=some r/\(r=true->a=b)/\IsKey d b:=by
 unfold Rs at h;split at h
 .rename_i k x k' y;split at h
  .rename_i hk;subst hk;cases h;cases d<;>simp only[IsKey]at ha ⊢
   all_goals first |exact ha.elim |skip
   subst ha;refine⟨by simp[Instr.sameNow],λhh=>?_,rfl⟩;rw[eq_of_beq hh]
  .cases h
 .rename_i x y;cases h;cases d<;>simp only[IsKey]at ha ⊢
  all_goals first |exact ha.elim |skip
  have e:(x==y)=(x.toList==y.toList):=by
   rw[iY,bytes_beq];constructor
   .rintro rfl;simp
   .intro hh;have:=eq_of_beq hh;cases x;cases y;simp only[ByteArray.toList_eq]at this;congr 1;exact Array.ext' this
  refine⟨by simp[Instr.sameNow,e],λhh=>?_,trivial⟩;rw[(bytes_beq x y).1 (e ▸ hh)]
 .rename_i x y;cases h;cases d<;>simp only[IsKey]at ha ⊢
  all_goals first |exact ha.elim |skip
  exact⟨by simp[Instr.sameNow],λhh=>by rw[eq_of_beq hh],trivial⟩
 .cases h
theorem Ru{d:TypeDesc}{key:Value}(hk:IsKey d key):∀(rows:U (List AV))(es:U MapEntry)(i:Nat)(r:J (Nat×AV)),cH P β w I rows es->Rt key rows=some r->
 (r=none/\Instr.findNow d key es i=some none)\/∃j y e,r=some (j,y)/\Instr.findNow d key es i=some (some (i+j,e.val))/\es[j]? =some e/\e.key=key/\VR P β w I y e.val
 |[],[],i,r,_,h=>by simp only[Rt,aC]at h;exact .inl ⟨h.symm,rfl⟩
 |row::rows,e::es,i,r,hm,h=>by
  obtain⟨h1,h2⟩:=hm;unfold Rt at h;split at h
  .rename_i heq;cases heq
  .rename_i kv y rs heq;injection heq with e1 e2;subst e1;subst e2;simp only[bj,VR,TR]at h1;obtain⟨⟨g1,_⟩,g2,_⟩:=h1;rw[ai]at h;obtain⟨b,h3,h⟩:=h;rw[<- g1]at h3;have⟨q1,q2,_⟩:=ZJ hk h3;cases b with
   |true=>
    simp only[if_true,aC]at h;subst h;exact .inr ⟨0,y,e,rfl,by simp[Instr.findNow,q1],rfl,(q2 rfl).symm,g2⟩
   |false=>
    simp only[Bool.false_eq_true,if_false,dQ]at h;obtain⟨r',h4,rfl⟩:=h;rcases Ru hk rows es (i+1) r' h2 h4 with ⟨rfl,a2⟩ |⟨j,y',e',rfl,a2,a3,a4,a5⟩
    .exact .inl ⟨rfl,by simp[Instr.findNow,q1,a2]⟩
    .exact .inr ⟨j+1,y',e',rfl,by simp only[Instr.findNow,q1,a2];congr 3;omega,by simpa using a3,a4,a5⟩
  .cases h
 |[],_::_,_,_,hm,_=>hm.elim
 |_::_,[],_,_,hm,_=>hm.elim
theorem Vb{d:TypeDesc}{key v:Value}{y':AV}(hk:IsKey d key)(hv:VR P β w I y' v)(hkv:oneCell key):∀(rows:U (List AV))(es:U MapEntry)(i:Nat)(rs':U (List AV)),cH P β w I rows es->yn key y' rows=some rs'->
 (Instr.findNow d key es i=some none/\∀n,cH P β w I rs' (es++[⟨key,v,n⟩]))\/∃j e,Instr.findNow d key es i=some (some (i+j,e.val))/\es[j]? =some e/\e.key=key/\cH P β w I rs' (es.modify j λe=>{ e with key:=key,val:=v })
 |[],[],i,r,_,h=>by
  simp only[yn,aC]at h;subst h;refine .inl ⟨rfl,λn=>?_⟩;simp only[bT,cH,bj,VR,TR];exact⟨⟨⟨trivial,hkv⟩,hv,trivial⟩,trivial⟩
 |row::rows,e::es,i,r,hm,h=>by
  obtain⟨h1,h2⟩:=hm;unfold yn at h;split at h
  .rename_i heq;cases heq
  .rename_i kv y rs heq;injection heq with e1 e2;subst e1;subst e2;have h1':=h1;simp only[bj,VR,TR]at h1;obtain⟨⟨g1,g1'⟩,g2,_⟩:=h1;rw[ai]at h;obtain⟨b,h3,h⟩:=h;rw[<- g1]at h3;have⟨q1,q2,_⟩:=ZJ hk h3;cases b with
   |true=>
    simp only[if_true,aC]at h;subst h;refine .inr ⟨0,e,by simp[Instr.findNow,q1],rfl,(q2 rfl).symm,?_⟩;simp only[List.modify_zero_cons,cH,bj,VR,TR];exact⟨⟨⟨trivial,hkv⟩,hv,trivial⟩,h2⟩
   |false=>
    simp only[Bool.false_eq_true,if_false,dQ]at h;obtain⟨r',h4,rfl⟩:=h;rcases Vb hk hv hkv rows es (i+1) r' h2 h4 with ⟨a1,a2⟩ |⟨j,e',a1,a2,a3,a4⟩
    .exact .inl ⟨by simp[Instr.findNow,q1,a1],λn=>⟨h1',a2 n⟩⟩
    .refine .inr ⟨j+1,e',by simp only[Instr.findNow,q1,a1];congr 3;omega,by simpa using a2,a3,?_⟩;simp only[List.modify_succ_cons,cH];exact⟨h1',a4⟩
  .cases h
 |[],_::_,_,_,hm,_=>hm.elim
 |_::_,[],_,_,hm,_=>hm.elim
theorem Mem.uC{k:Nat}{o o':aU}{b:Nat}{es:Array MapEntry}{cl:Nat}{w':World}(h:Mem P w0 O0 β I obj w)(hk:obj k=some o)(hβ:β k=some (.mp b))
 (hnew:w'.heap[b]? =some (.map es cl)) (hother:∀b',b'≠b->w'.heap[b']? =w.heap[b']?) (hsize:w'.heap.size=w.heap.size) (hos:w'.os=w.os) (vl:w'.tape=w.tape) (hout:w'.output=w.output)
 (hle:o'.rows.length<=o'.sz) (hr:cH P β w I o'.rows es.toList) (hnd:(es.toList.map (·.born)).Nodup) (hlt':∀e∈es.toList,e.born<cl):
 Same I w w'/\Mem P w0 O0 β I (dn obj [(k,some o')]) w':=by
 obtain⟨SZ,hlt,hO⟩:=h.jn k o b hk ⟨_,hβ,rfl⟩;have hs:Same I w w':=λb' hb=>hother b' (λ e=>SZ (e ▸ hb));have hx:∀(j:Nat)(o1:aU),dn obj [(k,some o')] j=some o1->∃o2,obj j=some o2:=λj o1 h=>by
  simp only[dn]at h;split at h
  .rename_i e;exact⟨o,by rw[e];exact hk⟩
  .exact⟨_,h⟩
 refine⟨hs,?_⟩;constructor
 .intro j oj hj;simp only[dn]at hj;split at hj
  .rename_i hjk;cases hj;exact⟨.mp b,by rw[hjk];exact hβ,es,cl,hnew,hle,λ_=>cH.mono (λ _ _ h=>h) hs (λ _ h=>h) _ _ hr,hnd,hlt'⟩
  .rename_i hjk;have⟨B,hB,sB⟩:=h.cQ j oj hj;refine⟨B,hB,OR.mono (λ _ _ h=>h) hs (λ _ h=>h) (λ b1 e1=>hother b1 (λ e2=>hjk ?_)) sB⟩;subst e2;exact h.gE j k oj o B _ b1 hj hk hB hβ e1 rfl
 .intro j j' o1 o2 B1 B2 b1 h1 h2 h3 h4 h5 h6;have⟨p1,q1⟩:=hx j o1 h1;have⟨p2,q2⟩:=hx j' o2 h2;exact h.gE j j' p1 p2 B1 B2 b1 q1 q2 h3 h4 h5 h6
 .intro j o1 B1 b1 h1 h2 h3;have⟨p1,q1⟩:=hx j o1 h1;have:=h.ownB j p1 B1 b1 q1 h2 h3;rw[hsize];exact this
 .intro b1 hb1;rw[hsize];exact h.lt b1 hb1
 .exact h.up
 .intro b1 hb1 hno;rw[hother b1 (λ e1=>?_)]
  .exact h.keep b1 hb1 hno
  .subst e1;rcases hO with hO |hO
   .exact hno hO
   .omega
 .rw[hsize];exact h.le
 .rw[hos];exact h.os
 .rw[vl];exact h.tape
 .rw[hout];exact h.output
 .exact h.anch
 .exact h.vars.mono hs (λ _ h=>h)
theorem Mem.DG(h:Mem P w0 O0 β I obj w)(hn:β i=none):
 Step β I w i (ins β i (.mp w.heap.size)) I (w.alloc (.map #[] 0))/\Mem P w0 O0 (ins β i (.mp w.heap.size)) I (dn obj [(i,some ⟨0,[]⟩)]) (w.alloc (.map #[] 0)):=by
 have hS:Step β I w i (ins β i (.mp w.heap.size)) I (w.alloc (.map #[] 0)):=
  ⟨λ k hk=>by simp[ins,i7.ne hk],ny hn,Same.alloc h.lt _,λ_ h=>h⟩
 refine⟨hS,?_⟩;constructor
 .intro k o' hk;simp only[dn]at hk;split at hk
  .cases hk;rename_i hki;exact⟨.mp w.heap.size,by simp[ins,hki],#[],0,heap_alloc_new w _,aG _,λ_=>trivial,by simp,by simp⟩
  .have⟨B,hB,hO⟩:=h.cQ k o' hk;exact⟨B,ny hn _ _ hB,OR.mono hS.ext hS.same hS.inc (λ b hb=>qI (h.ownB k o' B b hk hB hb).2.1) hO⟩
 .intro k k' o1 o2 B B' b h1 h2 h3 h4 h5 h6;simp only[dn]at h1 h2;simp only[ins]at h3 h4;split at h1<;>split at h2
  .rename_i a b;rw[a,b]
  .rename_i hki pr;simp only[hki,if_true,aC]at h3;simp only[pr,if_false]at h4;subst h3;injection h5 with h5;have:=(h.ownB k' o2 B' b h2 h4 h6).2.1;omega
  .rename_i hki pr;simp only[pr,if_true,aC]at h4;simp only[hki,if_false]at h3;subst h4;injection h6 with h6;have:=(h.ownB k o1 B b h1 h3 h5).2.1;omega
  .rename_i hki pr;simp only[hki,pr,if_false]at h3 h4;exact h.gE k k' o1 o2 B B' b h1 h2 h3 h4 h5 h6
 .intro k o' B b h1 h2 h3;simp only[dn]at h1;simp only[ins]at h2;split at h1
  .rename_i hki;simp only[hki,if_true,aC]at h2;subst h2;injection h3 with h3;refine⟨λ hI=>?_,?_,.inr ?_⟩
   .have:=h.lt b hI;omega
   .simp;omega
   .have:=h.le;omega
  .rename_i hki;simp only[hki,if_false]at h2;have⟨a,b',c'⟩:=h.ownB k o' B b h1 h2 h3;exact⟨a,by simp;omega,c'⟩
 .intro b hb;have:=h.lt b hb;simp;omega
 .exact h.up
 .intro b hb hO;rw[qI (by have:=h.le;omega)];exact h.keep b hb hO
 .have:=h.le;simp;omega
 .exact h.os
 .exact h.tape
 .exact h.output
 .intro j B hj;exact ny hn _ _ (h.anch j B hj)
 .exact h.vars.mono (Same.alloc h.lt _) (λ _ h=>h)
theorem MW{t:TypeId}{ti:nr}(ht:mj P t ti){k e:TypeId}(h:ti.k= .map k e):P.underlying t=some (.map k e):=by
 obtain⟨info,d,z,_,h2,_,_,_,_,_,h8⟩:=ht.ex;rw[h]at h8;have h8:d= .map k e:=h8;rw[h2,h8]
theorem adb{t:TypeId}{ti:nr}(ht:mj P t ti){v:Value}(h:MV ti.k v=true):∃d,P.underlying t=some d/\IsKey d v:=by
 obtain⟨info,d,z,_,h2,_,_,_,_,_,h8⟩:=ht.ex;exact⟨d,h2,ajq h h8⟩
theorem anx{k:AI}{v:Value}(h:MV k v=true):oneCell v:=by
 unfold MV at h;split at h
 .exact trivial
 .exact trivial
 .exact trivial
 .cases h
theorem anz{t:TypeId}{ti:nr}(ht:mj P t ti){v:AV}(hp:part' ti.agg ti.size ((ti.zero.map cv).map wk)=some v):∃z,(zeroValue t).run P w= .ok z w/\VR P β w I v z:=by
 obtain⟨info,d,z,h1,h2,h3,h4,h5,h6,h7,h8⟩:=ht.ex;refine⟨z,by simp[zeroValue,typeInfo,h1,h5],?_⟩;obtain⟨_,_,g1,g2⟩:=LF (P:=P) (β:=β) (w:=w) (I:=I) hp (bj.wk _ _ (bj.cv ti.zero));have hf:=ht.form info z h1 h5;cases ha:ti.agg with
 |true=>
  rw[ha]at hf;cases z<;>simp only[tg,Bool.not_true,reduceCtorEq]at hf;rename_i cs;have:=g1 ha;simp only[Value.cells]at h6;rw[<- h6]at this;simpa using this
 |false=>
  rw[ha]at hf;have h1c:oneCell z:=by cases z<;>simp only[tg,Bool.not_false,Bool.false_eq_true]at hf<;>trivial
  have⟨u,e1,e2⟩:=g2 ha;rw[cells_one h1c]at h6;simp only at h6;rw[<- h6]at e1;cases e1;exact e2
theorem Vd(h:Mem P w0 O0 β I obj w)(hn:β (cT i)=none){t:TypeId}{ab:Out}(ha:HV T i t=some ab){r:Operand->Value}
 {dst:J Tmp} {ty:TypeId} {ao:String} {after:Array Edge} {guard:J (Nat×Bool)}:sq P w0 O0 β I obj w i ab ((execOp r ⟨dst,.makeMap t none,ty,ao,after,guard⟩).run P w):=by
 unfold HV at ha;cases hti:T t with
 |none=>simp[hti]at ha
 |some ti=>
  simp only[hti,af]at ha;split at ha
  .cases ha;have⟨hS,hM⟩:=Mem.DG h hn;refine⟨.map (some w.heap.size),_,_,I,.inl ?_,hS,hM,?_⟩
   .simp[execOp,Instr.makeMap]
   .simp only[VR];exact⟨_,by simp[ins],rfl⟩
  .cases ha
theorem Pz(hT:fu P T){t kt et:TypeId}{ei:nr}(fL:T et=some ei){b:Nat}{es:Array MapEntry}{cl:Nat}{kv:Value}{ok:Bool}{r:J (Nat×AV)}{v:AV}
 (hu:P.underlying t=some (.map kt et)) (g1:w.heap[b]? =some (.map es cl)) (hck:(Instr.checkKey es.isEmpty 10000 kt kv).run P w= .ok () w)
 (hf:(r=none/\(Instr.findKey kt kv es.toList).run P w= .ok none w)\/∃(j:Nat)(y:AV)(e:MapEntry),r=some (j,y)/\(Instr.findKey kt kv es.toList).run P w= .ok (some (j,e.val)) w/\VR P β w I y e.val)
 (hv:wi r (part' ei.agg ei.size ((ei.zero.map cv).map wk))=some v):
 ∃z,(Instr.lookup t (.map (some b)) kv ok).run P w= .ok z w/\VR P β w I (if ok then .eV [v,.t (.sc (.bool r.isSome))]else v) z:=by
 rcases hf with ⟨rfl,a2⟩ |⟨j,y,e,rfl,a2,a5⟩
 .have⟨z,hz,hzv⟩:=anz (β:=β) (I:=I) (w:=w) (hT et ei fL) hv;cases ok with
  |true=>
   refine⟨.tuple #[z,.bool false],?_,?_⟩
   .simp[Instr.lookup,run_underlying hu,MapKept.run_getObj_map g1,hck,a2,hz,Result.andThen]
   .simp only[if_true,VR];exact⟨_,rfl,by simp only[bj,VR,TR];exact⟨hzv,⟨rfl,trivial⟩,trivial⟩⟩
  |false=>
   refine⟨z,?_,by simpa using hzv⟩;simp[Instr.lookup,run_underlying hu,MapKept.run_getObj_map g1,hck,a2,hz,Result.andThen]
 .simp only[wi,aC]at hv;subst hv;cases ok with
  |true=>
   refine⟨.tuple #[e.val,.bool true],?_,?_⟩
   .simp[Instr.lookup,run_underlying hu,MapKept.run_getObj_map g1,hck,a2,Result.andThen]
   .simp only[if_true,VR];exact⟨_,rfl,by simp only[bj,VR,TR];exact⟨a5,⟨rfl,trivial⟩,trivial⟩⟩
  |false=>
   refine⟨e.val,?_,by simpa using a5⟩;simp[Instr.lookup,run_underlying hu,MapKept.run_getObj_map g1,hck,a2,Result.andThen]
theorem Yz(hT:fu P T)(h:Mem P w0 O0 β I obj w){t:TypeId}{x key:AV}{ok:Bool}{get:Nat->J aU}{ab:Out}(hg:∀k o,get k=some o->obj k=some o){u kv:Value}
 (ha:Us T t x key ok get=some ab) (hx:VR P β w I x u) (hk:VR P β w I key kv):∃z,(Instr.lookup t u kv ok).run P w= .ok z w/\VR P β w I ab.v z/\ab.upd=[]:=by
 unfold Us at ha;cases hti:T t with
 |none=>simp[hti]at ha
 |some ti=>
  simp only[hti,af]at ha;split at ha
  .rename_i kt et k kv' hk1;rw[ai]at ha;obtain⟨ki,hki,ha⟩:=ha;rw[ai]at ha;obtain⟨ei,fL,ha⟩:=ha;rw[ai]at ha;obtain⟨o,ho,ha⟩:=ha;split at ha
   .rename_i hc;rw[ai]at ha;obtain⟨r,hr,ha⟩:=ha;rw[ai]at ha;obtain⟨v,hv,ha⟩:=ha;simp only[pv,aC]at ha;subst ha;simp only[VR,TR]at hx hk;obtain⟨b,hβ,rfl⟩:=hx;obtain⟨rfl,_⟩:=hk;have⟨B,hB,hO⟩:=h.cQ k o (hg k o ho);rw[hβ]at hB;cases hB;obtain⟨es,cl,g1,g2,g3,g4⟩:=hO;have hu:=MW (hT t ti hti) hk1;have⟨d,hd,hkey⟩:=adb (hT kt ki hki) hc.1;obtain⟨z,q1,q2⟩:=Pz (β:=β) (I:=I) hT fL (ok:=ok) hu g1 (run_checkKey hd hkey _ 9999) (by
     rcases Ru hkey o.rows es.toList 0 r (g3 hc.2) hr with ⟨rfl,a2⟩ |⟨j,y,e,rfl,a2,a3,a4,a5⟩
     .exact .inl ⟨rfl,run_findKey hd a2⟩
     .rw[Nat.zero_add]at a2;exact .inr ⟨j,y,e,rfl,run_findKey hd a2,a5⟩) hv
    exact⟨z,q1,q2,rfl⟩
   .cases ha
  .cases ha
theorem ak8{x:AV}{v:Value}(h:VR P β w I x v):VR P β w I (yv x) v:=by
 cases x<;>simp only[yv]<;>try exact h.wk
 simp only[VR]at h ⊢;obtain⟨vs,h1,h2⟩:=h;exact⟨vs,h1,bj.wk _ _ h2⟩
theorem abb{d:TypeDesc}{v:Value}(h:IsKey d v):Instr.sameBits 10000 v v=true:=by cases d<;>cases v<;>simp only[IsKey]at h<;>simp_all [Instr.sameBits,bytes_beq]
theorem ade(h:Mem P w0 O0 β I obj w){t kt et:TypeId}{k b:Nat}{o:aU}{es:Array MapEntry}{cl:Nat}{kv v:Value}{rs:U (List AV)}
 (hu:P.underlying t=some (.map kt et)) (gO:obj k=some o) (hβ:β k=some (.mp b)) (g1:w.heap[b]? =some (.map es cl)) (g4:(es.toList.map (·.born)).Nodup) (g5:∀e∈es.toList,e.born<cl)
 (hck:(Instr.checkKey false 10000 kt kv).run P w= .ok () w) (hks:(Instr.keyThatStays kv kv).run P w= .ok kv w)
 (hf:((Instr.findKey kt kv es.toList).run P w= .ok none w/\∀n,cH P β w I rs (es.toList++[⟨kv,v,n⟩]))\/
  ∃(j:Nat)(e:MapEntry),(Instr.findKey kt kv es.toList).run P w= .ok (some (j,e.val)) w/\es.toList[j]? =some e/\e.key=kv/\cH P β w I rs (es.toList.modify j λe=>{ e with key:=kv,val:=v })):
 ∃w',(Instr.mapUpdate t (.map (some b)) kv v).run P w= .ok () w'/\Same I w w'/\Mem P w0 O0 β I (dn obj [(k,some ⟨rs.length,rs⟩)]) w':=by
 rcases hf with ⟨a1,a2⟩ |⟨j,e,a1,a2,a3,a4⟩
 .obtain⟨k1,k2⟩:=heap_set (o':= .map (es.push ⟨kv,v,cl⟩) (cl+1)) g1
  obtain⟨m1,m2⟩:=h.uC (o':=⟨rs.length,rs⟩) (w':={ w with heap:=w.heap.setIfInBounds b (.map (es.push ⟨kv,v,cl⟩) (cl+1)) }) gO hβ k1 k2 (by simp) rfl rfl rfl (aG _) (by simpa using a2 cl)
   (by
    rw[Array.toList_push,List.map_append,List.nodup_append];refine⟨g4,by simp,λa ha b hb=>?_⟩;simp only[aH,List.map_nil,aR]at hb;obtain⟨e,he,rfl⟩:=mem_map.1 ha;have:=g5 e he;omega)
   (λ e he=>by
    rw[Array.toList_push,bn]at he;rcases he with he |he
    .have:=g5 e he;omega
    .simp only[aR]at he;subst he;exact Nat.lt_succ_self _)
  refine⟨_,?_,m1,m2⟩;simp[Instr.mapUpdate,run_underlying hu,MapKept.run_getObj_map g1,hck,a1,run_setObj_map _ g1,Result.andThen]
 .obtain⟨k1,k2⟩:=heap_set (o':= .map (es.modify j λe=>{ e with key:=kv,val:=v }) cl) g1;have ht:(es.modify j λe=>{ e with key:=kv,val:=v }).toList=es.toList.modify j λe=>{ e with key:=kv,val:=v }:=Array.toList_modify;have hb:(es.toList.modify j λe=>{ e with key:=kv,val:=v }).map (·.born)=es.toList.map (·.born):=by
   apply List.ext_getElem?;intro q;simp only[List.getElem?_map,List.getElem?_modify];split<;>cases es.toList[q]?<;>rfl
  obtain⟨m1,m2⟩:=h.uC (o':=⟨rs.length,rs⟩) (w':={ w with heap:=w.heap.setIfInBounds b (.map (es.modify j λe=>{ e with key:=kv,val:=v }) cl) }) gO hβ k1 k2 (by simp) rfl rfl rfl (aG _) (by rw[ht];exact a4)
   (by rw[ht,hb];exact g4)
   (λ e he=>by
    rw[ht]at he;have:e.born∈(es.toList.modify j λe=>{ e with key:=kv,val:=v }).map (·.born):=mem_map.2 ⟨e,he,rfl⟩;rw[hb]at this;obtain⟨e',he',hh⟩:=mem_map.1 this;rw[<- hh];exact g5 e' he')
  refine⟨_,?_,m1,m2⟩;have hold:((es[j]?).map (·.key)).getD kv=kv:=by rw[<- Array.getElem?_toList,a2];exact a3
  simp only[Instr.mapUpdate,Sem.run_bind,run_underlying hu,MapKept.run_getObj_map g1,hck,a1,Result.andThen,hold,hks,run_setObj_map _ g1]
theorem YA(hT:fu P T)(h:Mem P w0 O0 β I obj w){t:TypeId}{x key y:AV}{get:Nat->J aU}{ab:Out}(hg:∀k o,get k=some o->obj k=some o){u kv v:Value}
 (ha:Ut T t x key y get=some ab) (hx:VR P β w I x u) (hk:VR P β w I key kv) (hy:VR P β w I y v):∃w',(Instr.mapUpdate t u kv v).run P w= .ok () w'/\Same I w w'/\Mem P w0 O0 β I (dn obj ab.upd) w'/\ab.v= .undef:=by
 unfold Ut at ha;cases hti:T t with
 |none=>simp[hti]at ha
 |some ti=>
  simp only[hti,af]at ha;split at ha
  .rename_i kt et k kv' hk1;rw[ai]at ha;obtain⟨ki,hki,ha⟩:=ha;rw[ai]at ha;obtain⟨o,ho,ha⟩:=ha;split at ha
   .rename_i hc;rw[ai]at ha;obtain⟨rs,hr,ha⟩:=ha;cases ha;simp only[VR,TR]at hx hk;obtain⟨b,hβ,rfl⟩:=hx;obtain⟨hkk,_⟩:=hk;subst hkk;have gO:=hg k o ho;have⟨B,hB,hO⟩:=h.cQ k o gO;rw[hβ]at hB;cases hB;obtain⟨es,cl,g1,g2,g3,g4,g5⟩:=hO;have hu:=MW (hT t ti hti) hk1;have⟨d,hd,hkey⟩:=adb (hT kt ki hki) hc.1;have hlt:b<w.heap.size:=(Array.getElem?_eq_some_iff.1 g1).1;obtain⟨w',q1,q2,q3⟩:=ade (rs:=rs) (v:=v) h hu gO hβ g1 g4 g5 (run_checkKey hd hkey _ 9999) (by simp[Instr.keyThatStays,abb hkey]) (by
     rcases Vb hkey (ak8 hy) (anx hc.1) o.rows es.toList 0 rs (g3 hc.2) hr with ⟨a1,a2⟩ |⟨j,e,a1,a2,a3,a4⟩
     .exact .inl ⟨run_findKey hd a1,a2⟩
     .rw[Nat.zero_add]at a1;exact .inr ⟨j,e,run_findKey hd a1,a2,a3,a4⟩)
    exact⟨w',q1,q2,q3,rfl⟩
   .cases ha
  .cases ha
end
def qm(k:IntKind):U AV->J (List Int)
 |[]=>some []
 | .t (.sc (.int k' n))::r=>if k'=k then(qm k r).map (n:: ·)else none
 |_=>none
def mJ(k:IntKind)(c:U Int):Value:= .agg (c.map (Value.int k)).toArray
def HY(k:IntKind)(c:U Int):AV:= .agg (c.map λn=> .t (.sc (.int k n)))
def Bb(k:IntKind)(key:U Int):U (List AV)->J (Option (Nat×AV))
 |[]=>some none
 |[.agg cs,y]::rs=>(qm k cs).bind λc=>if c.length=key.length then if key=c then some (some (0,y))else(Bb k key rs).map λr=>r.map λp=>(p.1+1,p.2)else none
 |_=>none
def MX(k:IntKind)(key:U Int)(y':AV):U (List AV)->J (List (List AV))
 |[]=>some [[HY k key,y']]
 |[.agg cs,y]::rs=>(qm k cs).bind λc=>if c.length=key.length then if key=c then some ([HY k key,y']::rs)else(MX k key y' rs).map λr=>[.agg cs,y]::r else none
 |_=>none
def F1(T:er)(kt:TypeId):J (Nat×IntKind):=
 (T kt).bind λki=>match ki.k with
 | .arr m e=>(T e).bind λei=>match ei.k with
  | .int k=>if ei.size=1 then some (m,k)else none
  |_=>none
 |_=>none
def MZ(T:er)(t:TypeId)(x key:AV)(ok:Bool)(get:Nat->J aU):J Out:=
 (T t).bind λti=>match ti.k,x,key with
 | .map kt et,.mp k,.agg cs=>(F1 T kt).bind λmk=>(T et).bind λei=>(get k).bind λo=>(qm mk.2 cs).bind λc=>if c.length=mk.1/\o.sz=o.rows.length then(Bb mk.2 c o.rows).bind λr=>
  (wi r (part' ei.agg ei.size ((ei.zero.map cv).map wk))).bind λv=>pv (if ok then .eV [v,.t (.sc (.bool r.isSome))]else v)else none
 |_,_,_=>none
def M0(T:er)(t:TypeId)(x key y:AV)(get:Nat->J aU):J Out:=
 (T t).bind λti=>match ti.k,x,key with
 | .map kt _,.mp k,.agg cs=>(F1 T kt).bind λmk=>(get k).bind λo=>(qm mk.2 cs).bind λc=>if c.length=mk.1/\o.sz=o.rows.length then(MX mk.2 c (yv y) o.rows).bind λrs=>
  some ⟨.undef,[(k,some ⟨rs.length,rs⟩)],[]⟩else none
 |_,_,_=>none
section
variable {P:Program} {T:er} {w0:World} {O0:kx} {β:Nat->Option cV} {I:Nat->Prop} {obj:Nat->Option aU} {w:World} {i:Nat}
theorem JR{k:IntKind}:∀{cs:U AV}{c:U Int}{vs:U Value},qm k cs=some c->bj P β w I cs vs->vs=c.map (Value.int k)
 |[],c,vs,h,hv=>by
  simp only[qm,aC]at h;subst h;cases vs with
  |nil=>rfl
  |cons=>simp[bj]at hv
 |x::cs,c,vs,h,hv=>by
  unfold qm at h;split at h
  .rename_i heq;cases heq
  .rename_i k' n r heq;injection heq with e1 e2;subst e1;subst e2;split at h
   .rename_i hk;subst hk;rw[dQ]at h;obtain⟨c',h1,rfl⟩:=h;cases vs with
    |nil=>simp[bj]at hv
    |cons v vs=>
     simp only[bj,VR,TR]at hv;rw[JR h1 hv.2,hv.1.1];rfl
   .cases h
  .cases h
theorem Cx{e:TypeId}{k:IntKind}(he:P.underlying e=some (.int k))(d:Nat)(xs ys:U Int)(hl:xs.length=ys.length):∀is:U Nat,(∀ i∈is,i<xs.length)->
 (Op.eqItems (d+1) e 1 (xs.map (Value.int k)).toArray (ys.map (Value.int k)).toArray is).run P w= .ok (decide (∀ i∈is,xs[i]? =ys[i]?)) w
 |[],_=>by simp[Op.eqItems]
 |i::is,h=>by
  have hi:=h i (by simp);have hpl:P.plainKey e=true:=by simp[Program.plainKey,he]
  have p1:=run_part_plain (w:=w) hpl (show (xs.map (Value.int k)).toArray[i*1]? =some (.int k xs[i])by simp[hi]);have p2:=run_part_plain (w:=w) hpl (show (ys.map (Value.int k)).toArray[i*1]? =some (.int k ys[i])by simp[hl ▸ hi]);have ih:=Cx he d xs ys hl is λj hj=>h j (by simp[hj]);simp only[Op.eqItems,Sem.run_bind,p1,p2,Result.andThen_ok,run_equalIn_int w d e k k _ _ he];have hi2:i<ys.length:=hl ▸ hi;by_cases hc:xs[i]=ys[i]
  .have e1:(!(xs[i]==ys[i]))=false:=(by simp[hc]);rw[e1,aT (by decide),ih];congr 1;rw[decide_eq_decide];simp[hi,hi2,hc]
  .have e1:(!(xs[i]==ys[i]))=true:=(by simp[hc]);rw[e1,aZ rfl,Sem.run_pure];congr 1;symm;rw[dL];intro hh;have:=hh i (by simp);rw[dU hi,dU hi2]at this;injection this with this;exact hc this
theorem HZ{t e:TypeId}{n:Nat}{k:IntKind}{info:TypeInfo}(hu:P.underlying t=some (.array n e))(he:P.underlying e=some (.int k))(hi:P.info? e=some info)(hs:info.size=1){xs ys:U Int}(hx:xs.length=n)(hy:ys.length=n):
 (Op.equal t (mJ k xs) (mJ k ys)).run P w= .ok (decide (xs=ys)) w:=by
 have hce:P.cellsOf e=1:=by simp[Program.cellsOf,hi,hs]
 show(Op.equalIn (9999+1) t _ _).run P w=_;unfold mJ;rw[run_equalIn_array w 9999 _ _ hu hi,hce,Cx he 9998 xs ys (by omega) _ (λ i hi=>by rw[hx];exact List.mem_range.1 hi)];congr 1;rw[decide_eq_decide];constructor
 .intro h;refine List.ext_getElem? λi=>?_;by_cases hi:i<n
  .exact h i (List.mem_range.2 hi)
  .rw[List.getElem?_eq_none (by omega),List.getElem?_eq_none (by omega)]
 .rintro rfl _ _;rfl
def EV(P:Program)(t:TypeId)(n:Nat)(k:IntKind):Prop:=∃e info,P.underlying t=some (.array n e)/\P.underlying e=some (.int k)/\P.info? e=some info/\info.size=1
theorem abd(hT:fu P T){kt:TypeId}{mk:Nat×IntKind}(h:F1 T kt=some mk):EV P kt mk.1 mk.2:=by
 unfold F1 at h;rw[ai]at h;obtain⟨ki,h1,h⟩:=h;split at h
 .rename_i m e hk;rw[ai]at h;obtain⟨ei,h2,h⟩:=h;split at h
  .rename_i k hk2;split at h
   .rename_i hs;cases h;have⟨info,d,z,g1,g2,g3,_,_,_,_,g8⟩:=(hT e ei h2).ex;rw[hk2]at g8;have g8:d= .int k:=g8;subst g8;exact⟨e,info,MO (hT kt ki h1) hk,g2,g1,by rw[g3,hs]⟩
   .cases h
  .cases h
 .cases h
theorem yL{t:TypeId}{n:Nat}{k:IntKind}(h:EV P t n k){c:U Int}(hc:c.length=n)(em:Bool):(Instr.checkKey em 10000 t (mJ k c)).run P w= .ok () w:=by
 obtain⟨e,info,hu,he,hi,hs⟩:=h;have hpl:P.plainKey e=true:=by simp[Program.plainKey,he]
 have hce:P.cellsOf e=1:=by simp[Program.cellsOf,hi,hs]
 show(Instr.checkKey em (9999+1) t (mJ k c)).run P w=_;unfold mJ;rw[Instr.checkKey];simp only[Sem.run_bind,run_underlying hu,Result.andThen_ok];simp only[Std.Legacy.Range.forIn_eq_forIn_range',Std.Legacy.Range.size,Nat.sub_zero,Nat.add_one_sub_one,Nat.div_one];have each:∀j∈List.range' 0 n,j<c.length:=λj hj=>by rw[List.mem_range']at hj;obtain⟨q,hq,rfl⟩:=hj;omega
 generalize List.range' 0 n=is at each
 induction is with
 |nil=>simp
 |cons j is ih=>
  have hj:=each j (by simp);have p1:=run_part_plain (w:=w) hpl (show (c.map (Value.int k)).toArray[j*1]? =some (.int k c[j])by simp[hj]);have p2:(Instr.checkKey em 9999 e (.int k c[j])).run P w= .ok () w:=MapKept.run_checkKey (k:= .int k c[j]) he (by simp[IsKey]) em 9998;simp only[List.forIn_cons,Sem.run_bind,run_sizeOf w hi,hce,Result.andThen_ok,p1,p2,Sem.run_pure];exact ih (λ y hy=>each y (by simp[hy]))
theorem Cy{t:TypeId}{n:Nat}{k:IntKind}(h:EV P t n k):(match P.underlying t with |some (.array _ _) |some (.struct _)=>true |_=>false)=true:=by
 obtain⟨e,info,hu,_⟩:=h;rw[hu]
theorem Ea{t:TypeId}{n:Nat}{k:IntKind}(ht:EV P t n k){key:U Int}(hk:key.length=n):∀(rows:U (List AV))(es:U MapEntry)(i:Nat)(r:J (Nat×AV)),cH P β w I rows es->Bb k key rows=some r->
 (r=none/\(Instr.findAsking t (mJ k key) es i).run P w= .ok none w)\/∃j y e,r=some (j,y)/\(Instr.findAsking t (mJ k key) es i).run P w= .ok (some (i+j,e.val)) w/\es[j]? =some e/\e.key=mJ k key/\VR P β w I y e.val
 |[],[],i,r,_,h=>by simp only[Bb,aC]at h;exact .inl ⟨h.symm,by simp[Instr.findAsking]⟩
 |row::rows,e::es,i,r,hm,h=>by
  obtain⟨h1,h2⟩:=hm;unfold Bb at h;split at h
  .rename_i heq;cases heq
  .rename_i cs y rs heq;injection heq with e1 e2;subst e1;subst e2;rw[ai]at h;obtain⟨c,h3,h⟩:=h;simp only[bj,VR]at h1;obtain⟨⟨vs,g1,g2⟩,g3,_⟩:=h1;have g4:=JR h3 g2;have hkey:e.key=mJ k c:=(by rw[g1];unfold mJ;rw[<- g4]);split at h
   .rename_i hlen;obtain⟨e0,info,hu,he,hi,hs⟩:=ht;have hq:=HZ (w:=w) hu he hi hs (k:=k) (xs:=key) (ys:=c) hk (by omega);split at h
    .rename_i hkc;cases h;refine .inr ⟨0,y,e,rfl,?_,rfl,by rw[hkey,hkc],g3⟩;rw[show decide (key=c)=true by simp[hkc]]at hq;simp[Instr.findAsking,hkey,hq,Result.andThen]
    .rename_i hkc;rw[dQ]at h;obtain⟨r',h4,rfl⟩:=h;have hd:decide (key=c)=false:=(by simp[hkc]);rw[hd]at hq;rcases Ea ⟨e0,info,hu,he,hi,hs⟩ hk rows es (i+1) r' h2 h4 with ⟨rfl,a2⟩ |⟨j,y',e',rfl,a2,a3,a4,a5⟩
     .exact .inl ⟨rfl,by simp[Instr.findAsking,hkey,hq,a2,Result.andThen]⟩
     .exact .inr ⟨j+1,y',e',rfl,by simp[Instr.findAsking,hkey,hq,a2,Result.andThen];omega,by simpa using a3,a4,a5⟩
   .cases h
  .cases h
 |[],_::_,_,_,hm,_=>hm.elim
 |_::_,[],_,_,hm,_=>hm.elim
theorem Ve(k:IntKind)(c:U Int):VR P β w I (HY k c) (mJ k c):=by
 simp only[HY,VR];refine⟨_,rfl,?_⟩;simp only[]
 induction c with
 |nil=>simp[bj]
 |cons x c ih=>simp only[aH,bj,VR,TR];exact⟨⟨trivial,trivial⟩,ih⟩
theorem Rv{t:TypeId}{n:Nat}{k:IntKind}(ht:EV P t n k){key:U Int}(hk:key.length=n){v:Value}{y':AV}(hv:VR P β w I y' v):∀(rows:U (List AV))(es:U MapEntry)(i:Nat)(rs':U (List AV)),cH P β w I rows es->MX k key y' rows=some rs'->
 ((Instr.findAsking t (mJ k key) es i).run P w= .ok none w/\∀n,cH P β w I rs' (es++[⟨mJ k key,v,n⟩]))\/
 ∃j e,(Instr.findAsking t (mJ k key) es i).run P w= .ok (some (i+j,e.val)) w/\es[j]? =some e/\e.key=mJ k key/\cH P β w I rs' (es.modify j λe=>{ e with key:=mJ k key,val:=v })
 |[],[],i,r,_,h=>by
  simp only[MX,aC]at h;subst h;refine .inl ⟨by simp[Instr.findAsking],λn=>?_⟩;simp only[bT,cH,bj];exact⟨⟨Ve k key,hv,trivial⟩,trivial⟩
 |row::rows,e::es,i,r,hm,h=>by
  obtain⟨h1,h2⟩:=hm;unfold MX at h;split at h
  .rename_i heq;cases heq
  .rename_i cs y rs heq;injection heq with e1 e2;subst e1;subst e2;rw[ai]at h;obtain⟨c,h3,h⟩:=h;have h1':=h1;simp only[bj,VR]at h1;obtain⟨⟨vs,g1,g2⟩,g3,_⟩:=h1;have g4:=JR h3 g2;have hkey:e.key=mJ k c:=(by rw[g1];unfold mJ;rw[<- g4]);split at h
   .rename_i hlen;obtain⟨e0,info,hu,he,hi,hs⟩:=ht;have hq:=HZ (w:=w) hu he hi hs (k:=k) (xs:=key) (ys:=c) hk (by omega);split at h
    .rename_i hkc;cases h;rw[show decide (key=c)=true by simp[hkc]]at hq;refine .inr ⟨0,e,by simp[Instr.findAsking,hkey,hq,Result.andThen],rfl,by rw[hkey,hkc],?_⟩;simp only[List.modify_zero_cons,cH,bj];exact⟨⟨Ve k key,hv,trivial⟩,h2⟩
    .rename_i hkc;rw[dQ]at h;obtain⟨r',h4,rfl⟩:=h;rw[show decide (key=c)=false by simp[hkc]]at hq;rcases Rv ⟨e0,info,hu,he,hi,hs⟩ hk hv rows es (i+1) r' h2 h4 with ⟨a1,a2⟩ |⟨j,e',a1,a2,a3,a4⟩
     .exact .inl ⟨by simp[Instr.findAsking,hkey,hq,a1,Result.andThen],λn=>⟨h1',a2 n⟩⟩
     .refine .inr ⟨j+1,e',by simp[Instr.findAsking,hkey,hq,a1,Result.andThen];omega,by simpa using a2,a3,?_⟩;simp only[List.modify_succ_cons,cH];exact⟨h1',a4⟩
   .cases h
  .cases h
 |[],_::_,_,_,hm,_=>hm.elim
 |_::_,[],_,_,hm,_=>hm.elim
theorem Vf(hT:fu P T)(h:Mem P w0 O0 β I obj w){t:TypeId}{x key:AV}{ok:Bool}{get:Nat->J aU}{ab:Out}(hg:∀k o,get k=some o->obj k=some o){u kv:Value}
 (ha:MZ T t x key ok get=some ab) (hx:VR P β w I x u) (hk:VR P β w I key kv):∃z,(Instr.lookup t u kv ok).run P w= .ok z w/\VR P β w I ab.v z/\ab.upd=[]:=by
 unfold MZ at ha;rw[ai]at ha;obtain⟨ti,hti,ha⟩:=ha;split at ha
 .rename_i kt et k cs hk1;rw[ai]at ha;obtain⟨mk,hmk,ha⟩:=ha;rw[ai]at ha;obtain⟨ei,fL,ha⟩:=ha;rw[ai]at ha;obtain⟨o,ho,ha⟩:=ha;rw[ai]at ha;obtain⟨c,hc,ha⟩:=ha;split at ha
  .rename_i hh;rw[ai]at ha;obtain⟨r,hr,ha⟩:=ha;rw[ai]at ha;obtain⟨v,hv,ha⟩:=ha;simp only[pv,aC]at ha;subst ha;simp only[VR]at hx hk;obtain⟨b,hβ,rfl⟩:=hx;obtain⟨vs,rfl,hvs⟩:=hk;have e1:Value.agg vs=mJ mk.2 c:=(by unfold mJ;rw[<- JR hc hvs]);rw[e1];have⟨B,hB,hO⟩:=h.cQ k o (hg k o ho);rw[hβ]at hB;cases hB;obtain⟨es,cl,g1,g2,g3,g4⟩:=hO;have hAr:=abd hT hmk;obtain⟨z,q1,q2⟩:=Pz (β:=β) (I:=I) hT fL (ok:=ok) (MW (hT t ti hti) hk1) g1 (yL hAr hh.1 _) (by
    rcases Ea hAr hh.1 o.rows es.toList 0 r (g3 hh.2) hr with ⟨rfl,a2⟩ |⟨j,y,e,rfl,a2,a3,a4,a5⟩
    .exact .inl ⟨rfl,(run_findKey_eq w (Cy hAr) _ _).trans a2⟩
    .rw[Nat.zero_add]at a2;exact .inr ⟨j,y,e,rfl,(run_findKey_eq w (Cy hAr) _ _).trans a2,a5⟩) hv
   exact⟨z,q1,q2,rfl⟩
  .cases ha
 .cases ha
theorem YB(k:IntKind)(c:U Int):Instr.sameBits 10000 (mJ k c) (mJ k c)=true:=by
 unfold mJ;show(_&&_)=true;rw[aN];refine⟨by simp,?_⟩;rw[all_eq_true];rintro⟨a,b⟩ h;simp only[List.zip_map',mem_map]at h;obtain⟨x,_,hx⟩:=h;injection hx with h1 h2;subst h1;subst h2;simp[Instr.sameBits]
theorem Vg(hT:fu P T)(h:Mem P w0 O0 β I obj w){t:TypeId}{x key y:AV}{get:Nat->J aU}{ab:Out}(hg:∀k o,get k=some o->obj k=some o){u kv v:Value}
 (ha:M0 T t x key y get=some ab) (hx:VR P β w I x u) (hk:VR P β w I key kv) (hy:VR P β w I y v):∃w',(Instr.mapUpdate t u kv v).run P w= .ok () w'/\Same I w w'/\Mem P w0 O0 β I (dn obj ab.upd) w'/\ab.v= .undef:=by
 unfold M0 at ha;rw[ai]at ha;obtain⟨ti,hti,ha⟩:=ha;split at ha
 .rename_i kt et k cs hk1;rw[ai]at ha;obtain⟨mk,hmk,ha⟩:=ha;rw[ai]at ha;obtain⟨o,ho,ha⟩:=ha;rw[ai]at ha;obtain⟨c,hc,ha⟩:=ha;split at ha
  .rename_i hh;rw[ai]at ha;obtain⟨rs,hr,ha⟩:=ha;cases ha;simp only[VR]at hx hk;obtain⟨b,hβ,rfl⟩:=hx;obtain⟨vs,rfl,hvs⟩:=hk;have e1:Value.agg vs=mJ mk.2 c:=(by unfold mJ;rw[<- JR hc hvs]);rw[e1];have gO:=hg k o ho;have⟨B,hB,hO⟩:=h.cQ k o gO;rw[hβ]at hB;cases hB;obtain⟨es,cl,g1,g2,g3,g4,g5⟩:=hO;have hAr:=abd hT hmk;obtain⟨w',q1,q2,q3⟩:=ade (rs:=rs) (v:=v) h (MW (hT t ti hti) hk1) gO hβ g1 g4 g5 (yL hAr hh.1 _) (by simp[Instr.keyThatStays,YB]) (by
    rcases Rv hAr hh.1 (ak8 hy) o.rows es.toList 0 rs (g3 hh.2) hr with ⟨a1,a2⟩ |⟨j,e,a1,a2,a3,a4⟩
    .exact .inl ⟨(run_findKey_eq w (Cy hAr) _ _).trans a1,a2⟩
    .rw[Nat.zero_add]at a1;exact .inr ⟨j,e,(run_findKey_eq w (Cy hAr) _ _).trans a1,a2,a3,a4⟩)
   exact⟨w',q1,q2,q3,rfl⟩
  .cases ha
 .cases ha
def qK(T:er)(t:TypeId)(x key:AV)(ok:Bool)(get:Nat->J aU):J Out:=match key with
 | .agg cs=>MZ T t x (.agg cs) ok get
 |key=>Us T t x key ok get
def vX(T:er)(t:TypeId)(x key y:AV)(get:Nat->J aU):J Out:=match key with
 | .agg cs=>M0 T t x (.agg cs) y get
 |key=>Ut T t x key y get
theorem Vh(hT:fu P T)(h:Mem P w0 O0 β I obj w){t:TypeId}{x key:AV}{ok:Bool}{get:Nat->J aU}{ab:Out}(hg:∀k o,get k=some o->obj k=some o){u kv:Value}
 (ha:qK T t x key ok get=some ab) (hx:VR P β w I x u) (hk:VR P β w I key kv):∃z,(Instr.lookup t u kv ok).run P w= .ok z w/\VR P β w I ab.v z/\ab.upd=[]:=by
 unfold qK at ha;split at ha
 .exact Vf hT h hg ha hx hk
 .exact Yz hT h hg ha hx hk
theorem Vi(hT:fu P T)(h:Mem P w0 O0 β I obj w){t:TypeId}{x key y:AV}{get:Nat->J aU}{ab:Out}(hg:∀k o,get k=some o->obj k=some o){u kv v:Value}
 (ha:vX T t x key y get=some ab) (hx:VR P β w I x u) (hk:VR P β w I key kv) (hy:VR P β w I y v):∃w',(Instr.mapUpdate t u kv v).run P w= .ok () w'/\Same I w w'/\Mem P w0 O0 β I (dn obj ab.upd) w'/\ab.v= .undef:=by
 unfold vX at ha;split at ha
 .exact Vg hT h hg ha hx hk hy
 .exact YA hT h hg ha hx hk hy
end
def LR(T:er)(i:Nat)(t:TypeId)(l c:AV):J Out:=
 (T t).bind λti=>match ti.k,l,c with
 | .slice e,.t (.sc (.int _ n)),.t (.sc (.int _ m))=>(T e).bind λei=>
  some ⟨.own (cT i) 0 n.toNat,[(cT i,some ⟨ei.size,eu (List.replicate n.toNat (ei.zero.map cv))⟩)],[0<=n/\n<=m/\m.toNat*ei.bytes<=140737488355328/\m.toNat<=maxLen/\0<ei.size]⟩
 |_,_,_=>none
def PD(x:AV):J Out:=
 match x with
 | .ptr k r f=>pv (.ptr k r f)
 | .eM r f=>pv (.eM r f)
 |_=>none
def Ln:Op->Bool
 | .nilCheck _=>true
 | .makeSlice _ _ _=>true
 | .makeMap _ none=>true
 | .lookup _ _ _ _=>true
 | .mapUpdate _ _ _ _=>true
 |_=>false
def Eb(T:er)(i:Nat)(o:Oper)(_n:Int)(ρ:Operand->AV)(get:Nat->J aU):J Out:=
 match o.op with
 | .nilCheck x=>PD (ρ x)
 | .makeSlice t l c=>LR T i t (ρ l) (ρ c)
 | .makeMap t none=>HV T i t
 | .lookup t m x ok=>qK T t (ρ m) (ρ x) ok get
 | .mapUpdate t m x v=>vX T t (ρ m) (ρ x) (ρ v) get
 |_=>none
def sW(T:er)(i:Nat)(o:Oper)(n:Int)(ρ:Operand->AV)(get:Nat->J aU):J Out:=
 bif Ln o.op then Eb T i o n ρ get else sV T i o n ρ get
section
variable {T:er}
theorem YC{i:Nat}{o:Oper}{n:Int}{ρ ρ':Operand->AV}{get:Nat->J aU}(h:∀x∈o.op.operands,ρ x=ρ' x):Eb T i o n ρ get=Eb T i o n ρ' get:=by
 obtain⟨dst,op,ty,ao,after,guard⟩:=o;cases op<;>simp only[Op.operands]at h<;>simp only[Eb]
 case nilCheck x=>rw[h x (by simp)]
 case makeSlice t l c=>rw[h l (by simp),h c (by simp)]
 case makeMap t r=>cases r<;>rfl
 case lookup t m x ok=>rw[h m (by simp),h x (by simp)]
 case mapUpdate t m x v=>rw[h m (by simp),h x (by simp),h v (by simp)]
theorem YD{i:Nat}{o:Oper}{n:Int}{ρ ρ':Operand->AV}{get:Nat->J aU}(h:∀x∈o.op.operands,ρ x=ρ' x):sW T i o n ρ get=sW T i o n ρ' get:=by
 unfold sW;rw[aa4 h,YC h]
end
section
variable {P:Program} {T:er} {w0:World} {O0:kx} {β:Nat->Option cV} {I:Nat->Prop} {obj:Nat->Option aU} {w:World} {i:Nat}
theorem YE(z:Array Value)(n j:Nat)(h:j<n):(madeCells z n)[j]? =some (z[j%z.size]!):=by simp[madeCells,h]
theorem adg(hT:fu P T)(h:Mem P w0 O0 β I obj w)(hn:β (cT i)=none){t:TypeId}{l c:AV}{u v:Value}{ab:Out}(ha:LR T i t l c=some ab)(cW:ab.ob)(hl:VR P β w I l u)(hc:VR P β w I c v)
 {r:Operand->Value} {x y:Operand} (hu:r x=u) (hv:r y=v) {dst:J Tmp} {ty:TypeId} {ao:String} {after:Array Edge} {guard:J (Nat×Bool)}:
 sq P w0 O0 β I obj w i ab ((execOp r ⟨dst,.makeSlice t x y,ty,ao,after,guard⟩).run P w):=by
 unfold LR at ha;cases hti:T t with
 |none=>simp[hti]at ha
 |some ti=>
  simp only[hti,af]at ha;split at ha
  .rename_i e kl n kc m hkd;cases fL:T e with
   |none=>simp[fL]at ha
   |some ei=>
    simp only[fL,af,aC]at ha;subst ha;obtain⟨n0,nm,m47,HE,mpos⟩:=cW;simp only[VR,TR]at hl hc;obtain⟨rfl,_⟩:=hl;obtain⟨rfl,_⟩:=hc;have he:=hT e ei fL;have fj:=gY (hT t ti hti) hkd;obtain⟨info,d,z,g1,g2,g3,g4,g5,g6,g7,g8⟩:=he.ex;obtain⟨n,rfl⟩:∃n':Nat,n=(n':Int):=⟨n.toNat,by omega⟩;obtain⟨m,rfl⟩:∃m':Nat,m=(m':Int):=⟨m.toNat,by omega⟩;simp only[Int.toNat_natCast]at m47 HE ⊢;have hb:(info.bytes:Int)*(m:Int)<=281474976710656:=by
     have:((info.bytes*m:Nat):Int)<=281474976710656:=by rw[g4,Nat.mul_comm];omega
     rwa [Int.natCast_mul]at this
    have hrun:=run_make (P:=P) w t e info z fj g1 g5 kl kc n m n0 nm hb (by simp only[maxLen]at HE;omega);simp only[Int.toNat_natCast,g3]at hrun;have hzs:z.cells.size=ei.size:=(by rw[<- Array.length_toList,g6];exact he.len);have hcs:(madeCells z.cells (m*ei.size)).size=m*ei.size:=size_madeCells _ _;obtain⟨hS,hM⟩:=Mem.alloc (i:=cT i) (o:=⟨ei.size,List.replicate n (ei.zero.map cv)⟩) (c:=madeCells z.cells (m*ei.size)) (e:=e) h hn (by
     refine bp.zeros ei.zero ei.size he.len (λ v hv=>sS (all_eq_true.1 he.one v hv)) n _ 0 (λ i j hi hj=>?_);have hlt:0+i*ei.size+j<m*ei.size:=by
      have:(i+1)*ei.size<=m*ei.size:=Nat.mul_le_mul_right _ (by omega);rw[Nat.add_mul]at this;omega
     rw[YE _ _ _ hlt,hzs];have e1:(0+i*ei.size+j)%ei.size=j:=(by rw[Nat.zero_add,Nat.mul_comm,Nat.mul_add_mod,Nat.mod_eq_of_lt hj]);rw[e1,<- g6,Array.getElem?_toList,getElem!_pos z.cells j (by rw[hzs];exact hj),Array.getElem?_eq_getElem])
    refine⟨_,_,_,I,.inl (by simp[execOp,hu,hv,hrun];rfl),hS,hM.wx,?_⟩;simp only[VR];refine .inr ⟨w.heap.size,ei.size,_,_,0,by simp[ins];rfl,rfl,by omega,?_,by simp⟩;rw[OK,OF,hcs,Nat.zero_add,Nat.zero_add];exact aG _
  .cases ha
theorem YF(hT:fu P T)(h:Mem P w0 O0 β I obj w)(hn:β (cT i)=none){o:Oper}{n:Int}{ρ:Operand->AV}{get:Nat->J aU}{ab:Out}(hg:∀k o,get k=some o->obj k=some o)
 {r:Operand->Value} (hρ:∀x,VR P β w I (ρ x) (r x)) (ha:Eb T i o n ρ get=some ab) (cW:ab.ob):sq P w0 O0 β I obj w i ab ((execOp r o).run P w):=by
 obtain⟨dst,op,ty,ao,after,guard⟩:=o;unfold Eb at ha;split at ha
 .rename_i x heq;simp only at heq;subst heq;have hx:=hρ x;unfold PD at ha;split at ha
  .rename_i k q f hk;simp only[pv,aC]at ha;subst ha;rw[hk]at hx;have hx2:=hx;simp only[VR]at hx2;obtain⟨b,sz,m,_,e1⟩:=hx2;exact⟨r x,w,β,I,.inl (by simp[execOp,e1]),Step.refl ..,h,hx⟩
  .rename_i q f hk;simp only[pv,aC]at ha;subst ha;rw[hk]at hx;have hx2:=hx;simp only[VR]at hx2;obtain⟨b,o',e1,_⟩:=hx2;exact⟨r x,w,β,I,.inl (by simp[execOp,e1]),Step.refl ..,h,hx⟩
  .cases ha
 .rename_i t l c heq;simp only at heq;subst heq;exact adg hT h hn ha cW (hρ l) (hρ c) rfl rfl
 .rename_i t heq;simp only at heq;subst heq;exact Vd h hn ha
 .rename_i t m x ok heq;simp only at heq;subst heq;have⟨z,h1,h2,h3⟩:=Vh hT h hg ha (hρ m) (hρ x);exact⟨z,w,β,I,.inl (by simp[execOp,h1]),Step.refl ..,by rw[h3];exact h,h2⟩
 .rename_i t m x v heq;simp only at heq;subst heq;have⟨w',h1,h2,h3,h4⟩:=Vi hT h hg ha (hρ m) (hρ x) (hρ v);exact⟨undef,w',β,I,.inr ⟨by simp[execOp,h1],rfl⟩,⟨λ _ _=>rfl,λ_ _ h=>h,h2,λ_ h=>h⟩,h3,by rw[h4];simp[VR]⟩
 .cases ha
theorem YG(hT:fu P T)(h:Mem P w0 O0 β I obj w)(hn:β (cT i)=none){o:Oper}{n:Int}{ρ:Operand->AV}{get:Nat->J aU}{ab:Out}(hg:∀k o,get k=some o->obj k=some o)
 {r:Operand->Value} (hρ:∀x,VR P β w I (ρ x) (r x)) (ha:sW T i o n ρ get=some ab) (cW:ab.ob):sq P w0 O0 β I obj w i ab ((execOp r o).run P w):=by
 unfold sW at ha;cases hx:Ln o.op with
 |true=>rw[hx]at ha;exact YF (n:=n) hT h hn hg hρ ha cW
 |false=>rw[hx]at ha;exact aa7 hT h hn hg hρ ha cW
end
mutual
def gc(f:Nat->Nat):AV->AV
 | .own k aa len=> .own (f k) aa len
 | .ptr k row aa=> .ptr (f k) row aa
 | .agg cs=> .agg (zN f cs)
 | .eV cs=> .eV (zN f cs)
 | .fn F first caps=> .fn F (zN f first) (zN f caps)
 | .t x=> .t x
 | .eM r o=> .eM r o
 | .eo φ=> .eo φ
 | .mp k=> .mp (f k)
 | .oz k len=> .oz (f k) len
 | .dc=> .dc
 | .ub=> .ub
 | .undef=> .undef
def zN(f:Nat->Nat):List AV->List AV
 |[]=>[]
 |x::xs=>gc f x::zN f xs
end
def Kw(f:Nat->Nat)(o:aU):aU:=⟨o.sz,o.rows.map (zN f)⟩
def ot(os:U (Nat×aU))(k:Nat):J aU:=match os with
 |[]=>none
 |(j,o)::r=>if j=k then some o else ot r k
def W4(P:Program)(w:World)(β:Nat->J cV)(I:Nat->Prop)(os':U (Nat×aU))(rv:AV)(e:Ending)(w':World):Prop:=
 ∃v β' I',e= .returned v/\Mem P w (nC β I) β' I' (ot os') w'/\(∀ b,I b->I' b)/\VR P β' w' I' rv v
def rS(os:U aU)(k:Nat):J aU:=os[k]?
def yr(P:Program)(f:FuncId)(args:U AV)(os:U aU)(os':U (Nat×aU))(rv:AV):Prop:=
 eZ P f/\∀(w:World) (β:Nat->J cV) (I:Nat->Prop) (vs:Array Value),(∀ k,os.length<=k->β k=none)->Mem P w (nC β I) β I (rS os) w->bj P β w I args vs.toList->Calls P f vs w (W4 P w β I os' rv)
def H6(i k:Nat):Bool:=Nat.ble 1000000 k&&(k -1000000)/64==i
theorem Vj{i k:Nat}:H6 i k=true↔i7 (cT i) k:=by
 simp only[H6,aN,Nat.ble_eq,beq_iff_eq,i7,cT];omega
def cn(i:Nat)(ae:U Nat)(j:Nat):Nat:=if j<1000 then(ae[j]?).getD 0 else cT i+(j -1000)
def Vk(P:Program)(get:Nat->J aU)(ae:U Nat)(k:Nat):OB->J (aU×List Prop)
 | .dat p=>(get k).bind λo=>some (ia p,[o.sz=p.1/\eu (o.rows.take p.2.length)=aK p.2])
 | .DD hs=>(get k).bind λo=>(yK P get ae o.rows hs).bind λq=>some (⟨o.sz,q.1⟩,q.2)
def FO(P:Program)(get:Nat->J aU)(ae:U Nat):U Nat->U OB->J (List aU×List Prop)
 |[],[]=>some ([],[])
 |k::ks,b::bs=>(Vk P get ae k b).bind λp=>(FO P get ae ks bs).bind λq=>some (p.1::q.1,p.2++q.2)
 |_,_=>none
def PE(o:aU):U Nat:=o.rows.flatMap fe
def Vl(get:Nat->J aU)(xs:U AV)(ae c9:U Nat)(bs:U OB):Prop:=
 (∀ k∈c9,k∉ae)/\(∀ k∈fe xs,k∉ae->k∈c9)/\∀(j:Nat) hs q o,bs[j]? =some (.DD hs)->ae[j]? =some q->get q=some o->∀k∈PE o,k∉ae->k∈c9
def ym(i:Nat)(ae:U Nat)(os':U (Nat×aU)):U (Nat×Option aU):=
 (ae.zipIdx.map λp=>(p.1,(ot os' p.2).map (Kw (cn i ae))))++(os'.filter λq=>decide (1000<=q.1)).map λq=>(cn i ae q.1,some (Kw (cn i ae) q.2))
mutual
def uU:AV->Prop
 | .t x=>x.flat
 | .eM _ _ | .eo _=>False
 | .agg cs | .eV cs=>pU cs
 | .fn _ first caps=>pU first/\pU caps
 |_=>True
def pU:List AV->Prop
 |[]=>True
 |x::xs=>uU x/\pU xs
end
def Ax(n k:Nat):Prop:=k<n\/(1000<=k/\k<1064)
def ZK(n:Nat)(os':U (Nat×aU))(rv:AV):Prop:=
 (∀ q∈os',Ax n q.1)/\(os'.map (·.1)).Nodup/\(∀ q∈os',∀r∈q.2.rows,∀k∈fe r,Ax n k)/\∀k∈refs rv,Ax n k
def np(os':U (Nat×aU))(rv:AV):Prop:=uU rv/\∀q∈os',∀r∈q.2.rows,pU r
def M4(P:Program)(i:Nat)(f:AV)(args:U AV)(cL:j7)(get:Nat->J aU):J Out:=
 match f,cL with
 | .fn F first caps,.tE ae c9 bs hs os' rv keep=>if ae.Nodup/\ae.length<=1000 then(FO P get ae ae bs).bind λho=>(l9 P get ae (first++args++caps) hs).bind λq=>
  some ⟨gc (cn i ae) rv,ym i ae os'++(if keep then []else c9.map λk=>(k,none)),
   q.2.2++ho.2++[yr P F q.1 ho.1 os' rv,ZK ae.length os' rv,Vl get (first++args++caps) ae c9 bs]++(if keep then [np os' rv]else [])⟩
  else none
 |_,_=>none
section
variable {P:Program} {w0:World} {O0:kx} {β β1 β2:Nat->Option cV} {I:Nat->Prop} {obj:Nat->Option aU} {w:World} {i:Nat}
mutual
theorem VR.vf{f:Nat->Nat}:∀(x:AV)(v:Value),(∀ k∈refs x,∀B,β1 k=some B->β2 (f k)=some B)->VR P β1 w I x v->VR P β2 w I (gc f x) v
 | .own k aa len,v,hd,h=>by
  simp only[gc,VR]at h ⊢;have hd':=hd k (by simp[refs]);rcases h with ⟨h1,h2⟩ |⟨b,s,n,c,o,h1,h2⟩
  .exact .inl ⟨hd' _ h1,h2⟩
  .exact .inr ⟨b,s,n,c,o,hd' _ h1,h2⟩
 | .ptr k row aa,v,hd,h=>by
  simp only[gc,VR]at h ⊢;obtain⟨b,s,n,h1,h2⟩:=h;exact⟨b,s,n,hd k (by simp[refs]) _ h1,h2⟩
 | .agg cs,v,hd,h=>by
  simp only[gc,VR]at h ⊢;obtain⟨vs,h1,h2⟩:=h;exact⟨vs,h1,bj.vf cs _ (by simpa[refs]using hd) h2⟩
 | .eV cs,v,hd,h=>by
  simp only[gc,VR]at h ⊢;obtain⟨vs,h1,h2⟩:=h;exact⟨vs,h1,bj.vf cs _ (by simpa[refs]using hd) h2⟩
 | .fn F first caps,v,hd,h=>by
  simp only[gc,VR]at h ⊢;obtain⟨fs,cs,h1,h2,h3⟩:=h;exact⟨fs,cs,h1,bj.vf first _ (λ k hk=>hd k (by simp[refs,hk])) h2,bj.vf caps _ (λ k hk=>hd k (by simp[refs,hk])) h3⟩
 | .t x,v,_,h=>by simpa[gc,VR]using h
 | .eM r o,v,_,h=>by simpa[gc,VR]using h
 | .eo φ,v,_,h=>by simpa[gc,VR]using h
 | .mp k,v,hd,h=>by
  simp only[gc,VR]at h ⊢;obtain⟨b,h1,h2⟩:=h;exact⟨b,hd k (by simp[refs]) _ h1,h2⟩
 | .oz k len,v,hd,h=>by
  simp only[gc,VR]at h ⊢;rcases h with h |⟨h0,b,sz,n,cap,o,h1,h2⟩
  .exact .inl h
  .exact .inr ⟨h0,b,sz,n,cap,o,hd k (by simp[refs]) _ h1,h2⟩
 | .dc,v,_,h=>by simpa[gc,VR]using h
 | .ub,v,_,h=>by simpa[gc,VR]using h
 | .undef,v,_,h=>by simp[gc,VR]
theorem bj.vf{f:Nat->Nat}:∀(xs:List AV)(vs:List Value),(∀ k∈fe xs,∀B,β1 k=some B->β2 (f k)=some B)->bj P β1 w I xs vs->bj P β2 w I (zN f xs) vs
 |[],[],_,_=>by simp[zN,bj]
 |x::xs,v::vs,hd,h=>by
  simp only[bj]at h;simp only[zN,bj];exact⟨VR.vf x v (λ k hk=>hd k (by simp[fe,hk])) h.1,bj.vf xs vs (λ k hk=>hd k (by simp[fe,hk])) h.2⟩
 |[],_::_,_,h=>by simp[bj]at h
 |_::_,[],_,h=>by simp[bj]at h
end
mutual
theorem VR.flat{I2:Nat->Prop}:∀(x:AV)(v:Value),uU x->VR P β w I x v->VR P β w I2 x v
 | .own k aa len,v,_,h=>by simpa only[VR]using h
 | .ptr k row aa,v,_,h=>by simpa only[VR]using h
 | .agg cs,v,hf,h=>by
  simp only[VR]at h ⊢;obtain⟨vs,h1,h2⟩:=h;exact⟨vs,h1,bj.flat cs _ (by simpa[uU]using hf) h2⟩
 | .eV cs,v,hf,h=>by
  simp only[VR]at h ⊢;obtain⟨vs,h1,h2⟩:=h;exact⟨vs,h1,bj.flat cs _ (by simpa[uU]using hf) h2⟩
 | .fn F first caps,v,hf,h=>by
  simp only[VR]at h ⊢;obtain⟨fs,cs,h1,h2,h3⟩:=h;simp only[uU]at hf;exact⟨fs,cs,h1,bj.flat first _ hf.1 h2,bj.flat caps _ hf.2 h3⟩
 | .t x,v,hf,h=>by
  simp only[VR]at h ⊢;exact Tree.mz (by simpa[uU]using hf) h
 | .eM r o,v,hf,h=>by simp[uU]at hf
 | .eo φ,v,hf,h=>by simp[uU]at hf
 | .mp k,v,_,h=>by simpa only[VR]using h
 | .oz k len,v,_,h=>by simpa only[VR]using h
 | .dc,v,_,h=>by simpa only[VR]using h
 | .ub,v,_,h=>by simpa only[VR]using h
 | .undef,v,_,h=>by simp[VR]
theorem bj.flat{I2:Nat->Prop}:∀(xs:List AV)(vs:List Value),pU xs->bj P β w I xs vs->bj P β w I2 xs vs
 |[],[],_,_=>by simp[bj]
 |x::xs,v::vs,hf,h=>by
  simp only[bj]at h ⊢;simp only[pU]at hf;exact⟨VR.flat x v hf.1 h.1,bj.flat xs vs hf.2 h.2⟩
 |[],_::_,_,h=>by simp[bj]at h
 |_::_,[],_,h=>by simp[bj]at h
end
theorem Rw(f:Nat->Nat):∀l:U AV,(zN f l).length=l.length
 |[]=>rfl
 |_::l=>by simp only[zN,bG,Rw f l]
theorem de.tell{β':Nat->J cV}{w':World}{I':Nat->Prop}{r q:U AV}{c:Array Value}{aa:Nat}(hv:∀vs:U Value,bj P β w I r vs->bj P β' w' I' q vs)(h:de P β w I r c aa):de P β' w' I' q c aa:=by
 have⟨vs,h1,h2,h3⟩:=de.list r c aa h;exact de.oB q vs c aa (hv vs h1) h2 h3
theorem bp.tell{β':Nat->J cV}{w':World}{I':Nat->Prop}:∀{rs qs:U (List AV)}{c:Array Value}{aa sz:Nat},rs.length=qs.length->(∀ (j:Nat) r q,rs[j]? =some r->qs[j]? =some q->q.length=r.length/\∀vs:U Value,bj P β w I r vs->bj P β' w' I' q vs)->
 bp P β w I rs c aa sz->bp P β' w' I' qs c aa sz
 |[],[],_,_,_,_,_,h=>h
 |r::rs,q::qs,c,aa,sz,hl,hr,h=>by
  simp only[bp]at h ⊢;obtain⟨h1,h2,h3⟩:=h;have⟨e1,e2⟩:=hr 0 r q rfl rfl;exact⟨e1.trans h1,h2.tell e2,bp.tell (by simpa using hl) (λ j a b ha hb=>hr (j+1) a b (by simpa using ha) (by simpa using hb)) h3⟩
 |[],_::_,_,_,_,hl,_,_=>by simp at hl
 |_::_,[],_,_,_,hl,_,_=>by simp at hl
theorem cH.tell{β':Nat->J cV}{I':Nat->Prop}:∀{rs qs:U (List AV)}{es:U MapEntry},rs.length=qs.length->(∀ (j:Nat) r q',rs[j]? =some r->qs[j]? =some q'->∀vs:U Value,bj P β w I r vs->bj P β' w I' q' vs)->cH P β w I rs es->cH P β' w I' qs es
 |[],[],[],_,_,_=>trivial
 |r::rs,q::qs,_::es,hl,hr,⟨h1,h2⟩=>⟨hr 0 r q rfl rfl _ h1,cH.tell (by simpa using hl) (λ j r' q' a b=>hr (j+1) r' q' (by simpa using a) (by simpa using b)) h2⟩
 |[],_::_,_,hl,_,_=>by simp at hl
 |_::_,[],_,hl,_,_=>by simp at hl
 |[],_,_::_,_,_,h=>h.elim
 |_::_,_,[],_,_,h=>h.elim
theorem OR.tell{β':Nat->J cV}{I':Nat->Prop}{o q:aU}{B:cV}(hsz:q.sz=o.sz)(hl:o.rows.length=q.rows.length)(hr:∀(j:Nat) r q',o.rows[j]? =some r->q.rows[j]? =some q'->q'.length=r.length/\∀vs:U Value,bj P β w I r vs->bj P β' w I' q' vs)
 (h:OR P β w I o B):OR P β' w I' q B:=by
 cases B with
 |none=>
  simp only[OR]at h ⊢;rw[h]at hl;exact eq_nil_of_length_eq_zero hl.symm
 | «at» b s n=>
  obtain⟨h1,c,e,h2,h3,h4⟩:=h;exact⟨by rw[hsz];exact h1,c,e,h2,h3,h4.tell hl hr⟩
 |mp b=>
  obtain⟨es,cl,h1,hle,h2,h3⟩:=h;exact⟨es,cl,h1,by omega,λe=>cH.tell hl (λ j r q' a b=>(hr j r q' a b).2) (h2 (by omega)),h3⟩
theorem OR.vf{f:Nat->Nat}{o:aU}{B:cV}(hf:∀r∈o.rows,∀k∈fe r,∀B,β1 k=some B->β2 (f k)=some B)(h:OR P β1 w I o B):OR P β2 w I (Kw f o) B:=by
 refine OR.tell (o:=o) (q:=Kw f o) rfl (by simp[Kw]) (λ j r q h1 h2=>?_) h;simp only[Kw,List.getElem?_map,dQ]at h2;obtain⟨r',h3,rfl⟩:=h2;rw[h1]at h3;cases h3;exact⟨Rw f r,λvs hv=>bj.vf r vs (hf r (dD h1)) hv⟩
theorem OR.np{I2:Nat->Prop}{o:aU}{B:cV}(hf:∀r∈o.rows,pU r)(h:OR P β w I o B):OR P β w I2 o B:=by
 refine OR.tell rfl rfl (λ j r q h1 h2=>?_) h;rw[h1]at h2;cases h2;exact⟨rfl,λvs hv=>bj.flat r vs (hf r (dD h1)) hv⟩
def pN(P:Program)(get:Nat->J aU)(ae:U Nat):U (List AV)->U (List AV)->Prop
 |[],[]=>True
 |r::rs,q::qs=>fS P get ae r q/\pN P get ae rs qs
 |_,_=>False
theorem M5{get:Nat->J aU}{ae:U Nat}:∀{rs:U (List AV)}{hs:U (List LH)}{p:U (List AV)×List Prop},yK P get ae rs hs=some p->(∀ q∈p.2,q)->pN P get ae rs p.1
 |[],[],p,h,_=>by simp only[yK,aC]at h;subst h;trivial
 |r::rs,hl::hs,p,h,ho=>by
  simp only[yK,ai,aC]at h;obtain⟨q,h1,q',h2,rfl⟩:=h;exact⟨nD h1 (λ y hy=>ho y (by simp[hy])),M5 h2 (λ y hy=>ho y (by simp[hy]))⟩
 |[],_::_,p,h,_=>by simp[yK]at h
 |_::_,[],p,h,_=>by simp[yK]at h
theorem fS.length{get:Nat->J aU}{ae:U Nat}:∀{xs ys:U AV},fS P get ae xs ys->ys.length=xs.length
 |[],[],_=>rfl
 |x::xs,y::ys,h=>by simp only[bG,fS.length h.2]
 |[],_::_,h=>h.elim
 |_::_,[],h=>h.elim
theorem pN.get{get:Nat->J aU}{ae:U Nat}:∀{rs qs:U (List AV)},pN P get ae rs qs->rs.length=qs.length/\∀(j:Nat) r q,rs[j]? =some r->qs[j]? =some q->fS P get ae r q
 |[],[],_=>⟨rfl,λj r q h=>by simp at h⟩
 |r::rs,q::qs,h=>by
  have⟨h1,h2⟩:=pN.get h.2;refine⟨by simp[h1],λj a b ha hb=>?_⟩;cases j with
  |zero=>simp only[List.getElem?_cons_zero,aC]at ha hb;subst ha;subst hb;exact h.1
  |succ j=>exact h2 j a b (by simpa using ha) (by simpa using hb)
 |[],_::_,h=>h.elim
 |_::_,[],h=>h.elim
theorem Vm{get:Nat->J aU}{ae:U Nat}:∀{ks:U Nat}{bs:U OB}{p:U aU×List Prop},FO P get ae ks bs=some p->(∀ q∈p.2,q)->ks.length=p.1.length/\∀(j:Nat) k q,ks[j]? =some k->p.1[j]? =some q->∃o,get k=some o/\
 ((∃ d:fw,bs[j]? =some (.dat d)/\q=ia d/\o.sz=d.1/\eu (o.rows.take d.2.length)=aK d.2)\/(∃ hs,bs[j]? =some (.DD hs)/\q.sz=o.sz/\pN P get ae o.rows q.rows))
 |[],[],p,h,_=>by simp only[FO,aC]at h;subst h;exact⟨rfl,λj k q h=>by simp at h⟩
 |k::ks,b::bs,p,h,ho=>by
  simp only[FO,ai,aC]at h;obtain⟨q,h1,q',h2,rfl⟩:=h;obtain⟨g1,g2⟩:=Vm h2 (λ y hy=>ho y (by simp[hy]));refine⟨by simp[g1],λj k' z hj hz=>?_⟩;cases j with
  |succ j=>
   obtain⟨o,e1,e2⟩:=g2 j k' z (by simpa using hj) (by simpa using hz);exact⟨o,e1,by simpa using e2⟩
  |zero=>
   simp only[List.getElem?_cons_zero,aC]at hj hz;subst hj;subst hz;cases b with
   |dat d=>
    simp only[Vk,ai,aC]at h1;obtain⟨o,e1,rfl⟩:=h1;have:=ho _ (List.mem_append_left _ (aR.2 rfl));exact⟨o,e1,.inl ⟨d,rfl,rfl,this.1,this.2⟩⟩
   |DD hs=>
    simp only[Vk,ai,aC]at h1;obtain⟨o,e1,z,e2,rfl⟩:=h1;exact⟨o,e1,.inr ⟨hs,rfl,rfl,M5 e2 (λ y hy=>ho y (List.mem_append_left _ hy))⟩⟩
 |[],_::_,p,h,_=>by simp[FO]at h
 |_::_,[],p,h,_=>by simp[FO]at h
theorem Mem.xp(h:Mem P w0 O0 β I obj w){get:Nat->J aU}(hg:∀k o,get k=some o->obj k=some o){ae c9:U Nat}{os:U aU}(hnd:ae.Nodup)(hlen:ae.length=os.length)
 (hm:∀(j:Nat) k q,ae[j]? =some k->os[j]? =some q->∃o,get k=some o/\((∃ d:fw,q=ia d/\o.sz=d.1/\eu (o.rows.take d.2.length)=aK d.2)\/(q.sz=o.sz/\pN P get ae o.rows q.rows/\∀k∈PE o,k∉ae->k∈c9))) (B7:∀k∈c9,k∉ae):
 Mem P w (nC (βc ae β) (fY β obj c9 I)) (βc ae β) (fY β obj c9 I) (rS os) w:=by
 have hb0:∀j k,ae[j]? =some k->βc ae β j=β k:=λj k hk=>by simp[βc,hk]
 have look:∀j q,rS os j=some q->∃k o,ae[j]? =some k/\obj k=some o/\∀B,OR P β w I o B->OR P (βc ae β) w (fY β obj c9 I) q B:=by
  intro j q hj;simp only[rS]at hj;have hjl:j<ae.length:=by rw[hlen];exact(dJ.1 hj).1
  obtain⟨o,g,hh⟩:=hm j _ q (dU hjl) hj;refine⟨_,o,dU hjl,hg _ _ g,λB hO=>?_⟩;rcases hh with ⟨d,rfl,g4,g5⟩ |⟨g4,g5,g6⟩
  .have:OR P β w I (ia d) B:=by
    cases B with
    |none=>
     simp only[OR]at hO ⊢;rw[hO]at g5;simpa[eu,ia]using g5.symm
    | «at» b s n=>
     obtain⟨h1,c,e,h2,h3,h4⟩:=hO;refine⟨by rw[h1,g4];rfl,c,e,h2,h3,?_⟩;have:=bp.wk _ _ _ _ (bp.take d.2.length _ _ _ _ h4);rw[g5]at this;exact this
    |mp b=>exact OR.part g4 g5 hO
   exact this.dat λb hb=> .inl hb
  .obtain⟨e1,e2⟩:=g5.get;refine hO.tell g4 e1 (λ m r q' hr hq=>?_);have hb:=e2 m r q' hr hq;refine⟨hb.length,λvs hv=>?_⟩;refine fS.sound h hg c9 r q' vs (λ k hk hn=>g6 k ?_ hn) hb hv;exact List.mem_flatMap.2 ⟨r,dD hr,hk⟩
 constructor
 .intro j q hj;have⟨k,o,g1,g2,g3⟩:=look j q hj;have⟨B,hB,hO⟩:=h.cQ k o g2;exact⟨B,by rw[hb0 j k g1];exact hB,g3 B hO⟩
 .intro j j' o o' B B' b h1 h2 h3 h4 h5 h6;have⟨k,q,g1,g3,_⟩:=look j o h1;have⟨k',q',g1',g3',_⟩:=look j' o' h2;rw[hb0 j k g1]at h3;rw[hb0 j' k' g1']at h4;have:=h.gE k k' q q' B B' b g3 g3' h3 h4 h5 h6;subst this;exact Py hnd g1 g1'
 .intro j o B b h1 h2 h5;have⟨k,q,g1,g3,_⟩:=look j o h1;have h2':=h2;rw[hb0 j k g1]at h2;have⟨a1,a2,_⟩:=h.ownB k q B b g3 h2 h5;refine⟨?_,a2,.inl ⟨j,B,h2',h5⟩⟩;rintro (hI |⟨k',o',s',n',e1,e2,e3⟩)
  .exact a1 hI
  .have:=h.ma k k' q o' b g3 e2 ⟨B,h2,h5⟩ (.at e3);subst this;exact B7 _ e1 (dD g1)
 .exact MS h _
 .exact λb hb=> .inl hb
 .exact λ_ _ _=>rfl
 .exact aG _
 .rfl
 .rfl
 .rfl
 .intro j B hj;simp only[nC]at hj;split at hj
  .exact hj
  .cases hj
 .exact h.vars.mono (λ _ _=>rfl) (λ b hb=> .inl hb)
theorem abf:∀{os':U (Nat×aU)}{k:Nat}{o:aU},ot os' k=some o->(k,o)∈os'
 |[],_,_,h=>by simp[ot]at h
 |(j,q)::r,k,o,h=>by
  simp only[ot]at h;split at h
  .rename_i e;cases h;subst e;exact List.mem_cons_self
  .exact eX _ (abf h)
theorem Vn:∀{os':U (Nat×aU)}{k:Nat}{o:aU},(os'.map (·.1)).Nodup->(k,o)∈os'->ot os' k=some o
 |(j,q)::r,k,o,hn,h=>by
  simp only[aH,List.nodup_cons]at hn;simp only[ot];rcases aQ.1 h with e |h
  .injection e with e1 e2;subst e1;subst e2;rw[aZ rfl]
  .rw[aT (λ e=>hn.1 (mem_map.2 ⟨(k,o),h,e.symm⟩)),Vn hn.2 h]
theorem adi{F:Nat->J aU}{k:Nat}:∀(ae:U Nat)(n:Nat),(∃ j,ae[j]? =some k/\dn obj ((ae.zipIdx n).map λp=>(p.1,F p.2)) k=F (n+j))\/(k∉ae/\dn obj ((ae.zipIdx n).map λp=>(p.1,F p.2)) k=obj k)
 |[],n=> .inr ⟨by simp,rfl⟩
 |q::ae,n=>by
  simp only[List.zipIdx_cons,aH,dn];by_cases e:k=q
  .subst e;exact .inl ⟨0,rfl,by simp⟩
  .rw[aT e];rcases adi (k:=k) ae (n+1)with ⟨j,h1,h2⟩ |⟨h1,h2⟩
   .exact .inl ⟨j+1,by simpa using h1,by rw[h2];congr 1;omega⟩
   .exact .inr ⟨by simp[e,h1],h2⟩
theorem ZL{c:Nat->Nat}{G:aU->aU}{k:Nat}:∀(l:U (Nat×aU)),(∃ q∈l,k=c q.1/\dn obj (l.map λq=>(c q.1,some (G q.2))) k=some (G q.2))\/dn obj (l.map λq=>(c q.1,some (G q.2))) k=obj k
 |[]=> .inr rfl
 |q::l=>by
  simp only[aH,dn];by_cases e:k=c q.1
  .exact .inl ⟨q,by simp,e,by rw[aZ e]⟩
  .rw[aT e];rcases ZL (c:=c) (G:=G) (k:=k) l with ⟨z,h1,h2,h3⟩ |h
   .exact .inl ⟨z,eX _ h1,h2,h3⟩
   .exact .inr h
theorem adj(h:Mem P w0 O0 β I obj w)(hn:∀k,i7 (cT i) k->β k=none){ae c9:U Nat}{os':U (Nat×aU)}{rv:AV}{keep:Bool}(hgood:ZK ae.length os' rv)(hk:keep=true->np os' rv)
 (hnd:ae.Nodup) (hl:ae.length<=1000) (kO:∀k∈ae,∃o,obj k=some o)
 {w':World} {I1:Nat->Prop} {v:Value} (hM:Mem P w (nC (βc ae β) (fY β obj c9 I)) β1 I1 (ot os') w') (h1:∀b,fY β obj c9 I b->I1 b) (hr:VR P β1 w' I1 rv v):
 ∃ β' I',Step β I w (cT i) β' I' w'/\Mem P w0 O0 β' I' (dn obj (ym i ae os'++if keep then []else c9.map (λ k=>(k,none)))) w'/\VR P β' w' I' (gc (cn i ae) rv) v:=by
 obtain⟨gk,gn,gr,gv⟩:=hgood;have hb0:∀j k,ae[j]? =some k->βc ae β j=β k:=λj k hk=>by simp[βc,hk]
 have hown0:∀k B,β k=some B->¬i7 (cT i) k:=λk B hk e=>by rw[hn k e]at hk;cases hk
 have H0:∀j k,ae[j]? =some k->∃B,β k=some B/\β1 j=some B:=by
  intro j k hj;have⟨o,ho⟩:=kO k (dD hj);have⟨B,hB,_⟩:=h.cQ k o ho;have hjl:=(dJ.1 hj).1;exact⟨B,hB,hM.anch j B (by simp only[nC];rw[aZ (by omega),hb0 j k hj];exact hB)⟩
 generalize E7:(λ k=>if H6 i k then β1 (1000+(k -cT i))else β k:Nat->J cV)=β2;have A4:∀k,¬i7 (cT i) k->β2 k=β k:=λk hk=>by
  rw[<- E7];have:H6 i k=false:=by
   cases e:H6 i k with
   |false=>rfl
   |true=>exact absurd (Vj.1 e) hk
  simp[this]
 have hβn:∀j,1000<=j->j<1064->β2 (cT i+(j -1000))=β1 j:=λj e1 e2=>by
  rw[<- E7];have e:H6 i (cT i+(j -1000))=true:=Vj.2 (by simp only[i7,cT];omega);have e':1000+(cT i+(j -1000) -cT i)=j:=by omega
  simp only[e,if_true,e']
 have hmap:∀k,Ax ae.length k->∀B,β1 k=some B->β2 (cn i ae k)=some B:=by
  rintro k (hk |⟨hk1,hk2⟩) B hB
  .obtain⟨B',e1,e2⟩:=H0 k _ (dU hk);rw[e2]at hB;cases hB;simp only[cn,show k<1000 by omega,if_true,dU hk,Option.getD_some];rw[A4 _ (hown0 _ _ e1)];exact e1
  .simp only[cn,show ¬k<1000 by omega,if_false];rw[hβn k hk1 hk2];exact hB
 have look:∀g k o,dn obj (ym i ae os'++g) k=some o->(∃ j o0,ae[j]? =some k/\ot os' j=some o0/\o=Kw (cn i ae) o0)\/
  (∃ j o0,1000<=j/\j<1064/\ot os' j=some o0/\k=cT i+(j -1000)/\o=Kw (cn i ae) o0)\/(k∉ae/\dn obj g k=some o):=by
  intro g k o hko;rw[rY,ym,rY]at hko;rcases adi (obj:=dn (dn obj g) ((os'.filter λ(q:Nat×aU)=>decide (1000<=q.1)).map λ(q:Nat×aU)=>(cn i ae q.1,some (Kw (cn i ae) q.2)))) (F:=λj=>(ot os' j).map (Kw (cn i ae))) (k:=k) ae 0 with ⟨j,e1,e2⟩ |⟨e1,e2⟩
  .rw[e2]at hko;simp only[Nat.zero_add,dQ]at hko;obtain⟨o0,e3,e4⟩:=hko;exact .inl ⟨j,o0,e1,e3,e4.symm⟩
  .rw[e2]at hko;rcases ZL (obj:=dn obj g) (c:=cn i ae) (G:=Kw (cn i ae)) (k:=k) (os'.filter λq=>decide (1000<=q.1))with ⟨q,e3,e4,e5⟩ |e3
   .rw[e5]at hko;injection hko with hko;simp only[mem_filter,aW]at e3;have hq:=gk q e3.1;simp only[Ax]at hq;refine .inr (.inl ⟨q.1,q.2,e3.2,by omega,Vn gn e3.1,?_,hko.symm⟩);rw[e4];simp only[cn,show ¬q.1<1000 by omega,if_false]
   .rw[e3]at hko;exact .inr (.inr ⟨e1,hko⟩)
 have main:∀(g:U (Nat×Option aU))(I2:Nat->Prop),(∀ k o,dn obj g k=some o->obj k=some o)->(∀ b,I b->I2 b)->(∀ b,I2 b->I1 b)->(∀ j o B,ot os' j=some o->OR P β1 w' I1 o B->OR P β1 w' I2 o B)->
  (∀ k o b,k∉ae->dn obj g k=some o->fx β k b->¬I2 b)->VR P β1 w' I2 rv v->
  ∃ β' I',Step β I w (cT i) β' I' w'/\Mem P w0 O0 β' I' (dn obj (ym i ae os'++g)) w'/\VR P β' w' I' (gc (cn i ae) rv) v:=by
  intro g I2 hg hI hI1 hor HP hr2;have hown:∀b,U6 (βc ae β) b->∃k o,k∈ae/\obj k=some o/\fx β k b:=by
   rintro b ⟨j,B,hj,hB⟩;have⟨k,e1,e2⟩:=MU hj;have⟨o,e3⟩:=kO k (dD e1);exact⟨k,o,dD e1,e3,B,e2,hB⟩
  have hapart:∀k o b,k∉ae->obj k=some o->fx β k b->¬U6 (βc ae β) b:=by
   intro k o b hk e1 e2 hb;have⟨k',o',g1,g2,g3⟩:=hown b hb;have:=h.ma k k' o o' b e1 g2 e2 g3;subst this;exact hk g1
  have hS:Same I w w':=λb hb=>hM.keep b (h.lt b hb) (λ hb'=>by
   have⟨k',o',g1,g2,g3⟩:=hown b hb';exact(h.jn k' o' b g2 g3).1 hb)
  have I0:∀k o,dn obj (ym i ae os'++g) k=some o->(∃ j o0,ot os' j=some o0/\Ax ae.length j/\k=cn i ae j/\β2 k=β1 j/\o=Kw (cn i ae) o0)\/(k∉ae/\obj k=some o/\dn obj g k=some o/\β2 k=β k):=by
   intro k o hko;rcases look g k o hko with ⟨j,o0,e1,e2,e3⟩ |⟨j,o0,e1,My,e2,e3,e4⟩ |⟨e1,e2⟩
   .have⟨B,e4,e5⟩:=H0 j k e1;have hjl:=(dJ.1 e1).1;refine .inl ⟨j,o0,e2,.inl hjl,?_,?_,e3⟩
    .simp only[cn,show j<1000 by omega,if_true,e1,Option.getD_some]
    .rw[A4 _ (hown0 _ _ e4),e4,e5]
   .refine .inl ⟨j,o0,e2,.inr ⟨e1,My⟩,?_,?_,e4⟩
    .simp only[cn,show ¬j<1000 by omega,if_false];exact e3
    .rw[e3];exact hβn j e1 My
   .have⟨B,e3,_⟩:=h.cQ k o (hg k o e2);exact .inr ⟨e1,hg k o e2,e2,A4 _ (hown0 _ _ e3)⟩
  have sX:∀j o0 b,ot os' j=some o0->fx β1 j b->¬I2 b/\b<w'.heap.size/\(U6 (βc ae β) b\/w.heap.size<=b):=by
   intro j o0 b e1 e2;have⟨a1,a2,a3⟩:=hM.jn j o0 b e1 e2;exact⟨λ hb=>a1 (hI1 b hb),a2,a3⟩
  refine⟨β2,I2,⟨A4,λk B hk=>by rw[A4 k (hown0 k B hk)];exact hk,hS,hI⟩,?_,VR.vf rv v (λ k hk=>hmap k (gv k hk)) hr2⟩;constructor
  .intro k o hko;rcases I0 k o hko with ⟨j,o0,e1,e2,e3,e4,rfl⟩ |⟨e1,e2,e3,e4⟩
   .have⟨B,hB,hO⟩:=hM.cQ j o0 e1;refine⟨B,by rw[e4];exact hB,OR.vf (λ r hr' q hq=>hmap q (gr (j,o0) (abf e1) r hr' q hq)) (hor j o0 B e1 hO)⟩
   .have⟨B,hB,hO⟩:=h.cQ k o e2;refine⟨B,by rw[e4];exact hB,OR.mono (λ q C hq=>by rw[A4 q (hown0 q C hq)];exact hq) hS hI (λ b e=>hM.keep b (h.ownB k o B b e2 hB e).2.1 (hapart k o b e1 e2 ⟨B,hB,e⟩)) hO⟩
  .intro k k' o o' B B' b ho ho' hb hb' h5 h6;rcases I0 k o ho with ⟨j,o0,e1,e2,e3,e4,rfl⟩ |⟨e1,e2,e3,e4⟩
   .rw[e4]at hb;rcases I0 k' o' ho' with ⟨j',Rr,f1,f2,f3,f4,rfl⟩ |⟨f1,f2,f3,f4⟩
    .rw[f4]at hb';have:=hM.gE j j' o0 Rr B B' b e1 f1 hb hb' h5 h6;subst this;rw[e3,f3]
    .rw[f4]at hb';rcases (sX j o0 b e1 ⟨B,hb,h5⟩).2.2 with g1 |g1
     .exact absurd g1 (hapart k' o' b f1 f2 ⟨B',hb',h6⟩)
     .have:=(h.ownB k' o' B' b f2 hb' h6).2.1;omega
   .rw[e4]at hb;rcases I0 k' o' ho' with ⟨j',Rr,f1,f2,f3,f4,rfl⟩ |⟨f1,f2,f3,f4⟩
    .rw[f4]at hb';rcases (sX j' Rr b f1 ⟨B',hb',h6⟩).2.2 with g1 |g1
     .exact absurd g1 (hapart k o b e1 e2 ⟨B,hb,h5⟩)
     .have:=(h.ownB k o B b e2 hb h5).2.1;omega
    .rw[f4]at hb';exact h.gE k k' o o' B B' b e2 f2 hb hb' h5 h6
  .intro k o B b ho hb h5;rcases I0 k o ho with ⟨j,o0,e1,e2,e3,e4,rfl⟩ |⟨e1,e2,e3,e4⟩
   .rw[e4]at hb;have⟨a1,a2,a3⟩:=sX j o0 b e1 ⟨B,hb,h5⟩;refine⟨a1,a2,?_⟩;rcases a3 with a3 |a3
    .have⟨k',o',g1,g2,g3⟩:=hown b a3;exact(h.jn k' o' b g2 g3).2.2
    .exact .inr (Nat.le_trans h.le a3)
   .rw[e4]at hb;have⟨a1,a2,a3⟩:=h.ownB k o B b e2 hb h5;exact⟨HP k o b e1 e3 ⟨B,hb,h5⟩,Nat.lt_of_lt_of_le a2 hM.le,a3⟩
  .exact λb hb=>hM.lt b (hI1 b hb)
  .intro b hb;rcases hM.up b (hI1 b hb)with (g1 |⟨k',o',s',n',_,g2,g3⟩) |g1 |g1
   .exact h.up b g1
   .exact .inr (h.own k' o' b s' n' g2 g3).2.2
   .have⟨k',o',_,g2,g3⟩:=hown b g1;exact .inr (h.jn k' o' b g2 g3).2.2
   .exact .inr (.inr (Nat.le_trans h.le g1))
  .intro b hb hno;refine(hM.keep b (Nat.lt_of_lt_of_le hb h.le) (λ hb'=>?_)).trans (h.keep b hb hno);have⟨k',o',_,g2,g3⟩:=hown b hb';rcases (h.jn k' o' b g2 g3).2.2 with g1 |g1
   .exact hno g1
   .omega
  .exact Nat.le_trans h.le hM.le
  .exact hM.os.trans h.os
  .exact hM.tape.trans h.tape
  .exact hM.output.trans h.output
  .intro j B hj;have e:=h.anch j B hj;rw[A4 j (hown0 j B e)];exact e
  .exact h.vars.mono hS hI
 cases keep with
 |true=>
  have⟨hf1,hf2⟩:=hk rfl;exact main [] I (λ _ _ h=>h) (λ _ h=>h) (λ b hb=>h1 b (.inl hb)) (λ j o B hj hO=>OR.np (hf2 (j,o) (abf hj)) hO) (λ k o b _ e1 e2=>(h.jn k o b e1 e2).1) (VR.flat rv v hf1 hr)
 |false=>
  have hsub:∀k o,dn obj (c9.map λk=>(k,none)) k=some o->obj k=some o/\k∉c9:=by
   intro k o hk;rw[yC]at hk;split at hk
   .cases hk
   .exact⟨hk,‹_›⟩
  refine main _ I1 (λ k o hk=>(hsub k o hk).1) (λ b hb=>h1 b (.inl hb)) (λ _ h=>h) (λ j o B hj hO=>hO) (λ k o b hki e1 e2 hb=>?_) hr;have⟨f1,f2⟩:=hsub k o e1;have⟨a1,a2,_⟩:=h.jn k o b f1 e2;rcases hM.up b hb with (g |⟨k',o',s',n',g1,g2,g3⟩) |⟨j,B',g,g'⟩ |g
  .exact a1 g
  .have:=h.ma k k' o o' b f1 g2 e2 (.at g3);subst this;exact f2 g1
  .have⟨k',g1,g2⟩:=MU g;have⟨o',g3⟩:=kO k' (dD g1);have:=h.ma k k' o o' b f1 g3 e2 ⟨B',g2,g'⟩;subst this;exact hki (dD g1)
  .omega
theorem Vo(h:Mem P w0 O0 β I obj w)(hn:∀k,i7 (cT i) k->β k=none){f:AV}{args:U AV}{cL:j7}{get:Nat->J aU}{ab:Out}(hg:∀k o,get k=some o->obj k=some o)
 {fv:Value} {vs:Array Value} {al:Array Operand} {fo:Operand} {r:Operand->Value} (ha:M4 P i f args cL get=some ab) (cW:ab.ob) (hf:VR P β w I f fv) (hv:bj P β w I args vs.toList) (hfo:r fo=fv) (hops:vs=al.map r)
 {dst:J Tmp} {ao:String} {after:Array Edge} {guard:J (Nat×Bool)} {ty:TypeId} {c7:Array TypeId}:
 Aa P w0 O0 β I obj w i ab ((execOp r ⟨dst,.call { callee:= .value fo,args:=al,argTypes:=c7 },ty,ao,after,guard⟩).run P w):=by
 unfold M4 at ha;split at ha
 .rename_i F first caps ae c9 bs hs os' rv keep
  split at ha
  .rename_i hc;obtain⟨hnd,hl⟩:=hc;rw[ai]at ha;obtain⟨ho,hho,ha⟩:=ha;rw[ai]at ha;obtain⟨q,hq,ha⟩:=ha;cases ha;have cW:=qJ _ cW;simp only[VR]at hf;obtain⟨fs,cs,rfl,hf1,hf2⟩:=hf;have o1:∀x∈q.2.2,x:=λx hx=>cW x (by simp[hx]);have o2:∀x∈ho.2,x:=λx hx=>cW x (by simp[hx]);have o3:yr P F q.1 ho.1 os' rv:=cW (yr P F q.1 ho.1 os' rv) (by simp);have o4:ZK ae.length os' rv:=cW (ZK ae.length os' rv) (by simp);have o5:keep=true->np os' rv:=λe=>cW (np os' rv) (by simp[e]);obtain⟨l1,l2,l3⟩:Vl get (first++args++caps) ae c9 bs:=cW (Vl get (first++args++caps) ae c9 bs) (by simp);obtain⟨⟨fn,e1,e2,e3⟩,hcon⟩:=o3;have⟨hl2,hmm⟩:=Vm hho o2;have kO:∀k∈ae,∃o,obj k=some o:=by
    intro k hk;obtain⟨j,hj⟩:=List.getElem?_of_mem hk;have hjl:j<ho.1.length:=(by rw[<- hl2];exact(dJ.1 hj).1);obtain⟨o,g,_⟩:=hmm j k _ hj (dU hjl);exact⟨o,hg _ _ g⟩
   have hM:=h.xp hg (c9:=c9) hnd hl2 (λ j k z hj hz=>by
    have⟨o,g1,g2⟩:=hmm j k z hj hz;refine⟨o,g1,?_⟩;rcases g2 with ⟨d,_,g3⟩ |⟨hs',g3,g4,g5⟩
    .exact .inl ⟨d,g3⟩
    .exact .inr ⟨g4,g5,λk' hk' hn'=>l3 j hs' k o g3 hj g1 k' hk' hn'⟩) l1
   have hall:bj P β w I (first++args++caps) (fs++vs++cs).toList:=by
    simp only[Array.toList_append];exact bj.append _ _ _ _ (bj.append _ _ _ _ hf1 hv) hf2
   have pp:=fS.sound h hg c9 _ _ _ (λ k hk hn=>l2 k hk hn) (nD hq o1) hall;refine⟨F,fs++vs++cs,?_,(hcon w _ _ _ (λ k hk=>?_) hM pp).mono ?_⟩
   .have hb:¬fn.body=none:=(by cases hh:fn.body<;>simp[hh]at e2 ⊢);have e3' : ¬ fn.name = "runtime.NumGoroutine" := (by simpa using e3);simp[execOp,resolve,hfo,<- hops,Deferred.ofValue,invoke,callFunc,e1,e3',hb]
   .simp[βc,List.getElem?_eq_none (show ae.length<=k by omega)]
   .rintro e w' ⟨v',β1,I1,rfl,g1,g2,g3⟩;have⟨β',I',k1,k2,k3⟩:=adj (keep:=keep) h hn o4 o5 hnd hl kO g1 g2 g3;exact⟨v',β',I',rfl,k1,k2,k3⟩
  .cases ha
 .cases ha
end
def kg(P:Program)(i:Nat)(f:AV)(args:U AV)(cL:j7)(get:Nat->J aU):J Out:=
 match cL with
 | .tE ae c9 bs hs os' rv keep=>M4 P i f args (.tE ae c9 bs hs os' rv keep) get
 |cL=>pq P i f args cL get
section
variable {P:Program} {w0:World} {O0:kx} {β:Nat->Option cV} {I:Nat->Prop} {obj:Nat->Option aU} {w:World} {i:Nat}
theorem Vp(h:Mem P w0 O0 β I obj w)(hn:∀k,i7 (cT i) k->β k=none){f:AV}{args:U AV}{cL:j7}{get:Nat->J aU}{ab:Out}(hg:∀k o,get k=some o->obj k=some o)
 {fv:Value} {vs:Array Value} {al:Array Operand} {fo:Operand} {r:Operand->Value} (ha:kg P i f args cL get=some ab) (cW:ab.ob) (hf:VR P β w I f fv) (hv:bj P β w I args vs.toList) (hfo:r fo=fv) (hops:vs=al.map r)
 {dst:J Tmp} {ao:String} {after:Array Edge} {guard:J (Nat×Bool)} {ty:TypeId} {c7:Array TypeId}:
 Aa P w0 O0 β I obj w i ab ((execOp r ⟨dst,.call { callee:= .value fo,args:=al,argTypes:=c7 },ty,ao,after,guard⟩).run P w):=by
 unfold kg at ha;split at ha
 .exact Vo h hn hg ha cW hf hv hfo hops
 .exact U9 h (hn _ (.inl rfl)) hg ha cW hf hv hfo hops
end
end Go.Gb
