import GoSem.Claims
import Derived.Calls
import Derived.Below
import Derived.Orders
import Derived.Laws.Cells
import Derived.Laws.AppendOwn
import Derived.Laws.StructEq
import Derived.Laws.Build
import Derived.WalkKit
import Derived.Lib.AppendZeros
import Derived.MapKept
import Derived.WideKeyRuns
import Derived.Laws.MakeOwn
abbrev U:=@List
abbrev J:=@Option
open Go.IntKind (i64)
open List (length_take mem_map all_eq_true cons_append length_drop map_map take_of_length_le mem_filter map_congr_left flatten_cons eq_nil_of_length_eq_zero)
namespace Go
universe u v
theorem aj{α:Sort u}(a b:α):cond true a b=a:=rfl
theorem ak{α:Sort u}(a b:α):cond false a b=b:=rfl
theorem af{α:Type u}{β:Type v}(a:α)(f:α->J β):(some a).bind f=f a:=rfl
theorem aV{p:Prop}[Decidable p]:(decide p=true)=p:=_root_.decide_eq_true_eq
theorem dP{p:Prop}{_:Decidable p}:decide p=false↔¬p:=_root_.decide_eq_false_iff_not
theorem aA{α:Type u}(a b:α):(some a=some b)=(a=b):=Option.some.injEq a b
theorem aL(a b:Bool):((a&&b)=true)=(a=true/\b=true):=Bool.and_eq_true a b
theorem jZ{a b:Bool}:a=b↔(a=true↔b=true):=Bool.eq_iff_iff
theorem dM{α:Type u}{a b:U α}:(a++b).length=a.length+b.length:=List.length_append
theorem aM{α:Type u}(a b c:U α):a++b++c=a++(b++c):=List.append_assoc a b c
theorem gB{α:Type u}{a:α}:¬a∈([]:U α):=List.not_mem_nil
theorem aS{c:Prop}{h:Decidable c}(hnc:¬c){α:Sort u}{t e:α}:(if c then t else e)=e:=_root_.if_neg hnc
theorem aX{c:Prop}{h:Decidable c}(hc:c){α:Sort u}{t e:α}:(if c then t else e)=t:=_root_.if_pos hc
theorem aP{α:Type u}{a b:α}:a∈[b]↔a=b:=List.mem_singleton
theorem dQ{α:Type u}{l:U α}{i:Nat}(h:i<l.length):l[i]? =some l[i]:=List.getElem?_eq_getElem h
theorem jw{α:Type u}{a b:U α}{i:Nat}(h:a.length<=i):(a++b)[i]? =b[i -a.length]? :=List.getElem?_append_right h
theorem dH{α:Type u}{i:Nat}{a:α}{l:U α}:l[i]? =some a↔∃h:i<l.length,l[i]=a:=List.getElem?_eq_some_iff
theorem dw{α:Type u}{l:U α}{i:Nat}{a:α}(h:l[i]? =some a):a∈l:=List.mem_of_getElem? h
theorem dN{α:Type u}{b:α}{α_1:Type v}{x:J α_1}{f:α_1->α}:Option.map f x=some b↔∃a,x=some a/\f a=b:=Option.map_eq_some_iff
theorem iJ{α:Type u}{i:Nat}{l:U α}(h:i<l.length):List.take (i+1) l=List.take i l++[l[i]]:=List.take_succ_eq_append_getElem h
theorem eH{α:Type u}(y:α){a:α}{l:U α}(h:a∈l):a∈y::l:=List.mem_cons_of_mem y h
theorem aD(n:Nat):n<=n:=Nat.le_refl n
theorem bC{α:Type u}{a:α}{l:U α}:(a::l).length=l.length+1:=rfl
theorem aF{α:Type u}{β:Type v}{f:α->β}{a:α}{l:U α}:List.map f (a::l)=f a::List.map f l:=rfl
theorem aO{α:Type u}{b:α}{l:U α}{a:α}:a∈b::l↔a=b\/a∈l:=List.mem_cons
theorem bT{α:Type u}(l:U α):[]++l=l:=rfl
theorem aZ{α:Type u}{a:α}{s t:U α}:a∈s++t↔a∈s\/a∈t:=List.mem_append
theorem uQ{p:Prop}(h:¬p->False):p:=Classical.byContradiction h
end Go
namespace Go
theorem ai{α:Type _}{β:Type _}{b:β}{x:J α}{f:α->J β}:x.bind f=some b↔∃ a,x=some a/\f a=some b:=Option.bind_eq_some_iff
end Go
namespace Go.Gb
def vy:Nat->J (List Value):=λ_=>none
def WF:Nat->Bool:=λg=>g==0
open Go.RowKit
inductive Tree where
 |sc (v:Value)
 |sl (rows:List (List Tree))
inductive TV where
 |s (x:Tree)
 |a (cs:List Tree)
inductive AV where
 |t (x:Tree)
 |agg (cs:List AV)
 |eV (vs:List AV)
 |own (k:Nat) (aa len:Nat)
 |ptr (k:Nat) (row aa:Nat)
 |eM (row:List Tree) (aa:Nat)
 |fn (f:FuncId) (first caps:List AV)
 |ek (φ:List TV->TV->Prop)
 |mp (k:Nat)
 |oz (k len:Nat)
 |da
 |ub
 |undef
structure aT where
 sz:Nat
 rows:List (List AV)
structure Ex where
 m:Nat
 s:Nat
 h:s<=m
def xv(m:Nat):Ex:=⟨m,0,Nat.zero_le m⟩
@[simp] theorem Of (m:Nat):(xv m).m=m:=rfl
@[simp] theorem N6 (m:Nat):(xv m).s=0:=rfl
inductive cT where
 |none
 |at (b sz:Nat) (n:Ex)
 |mp (b:Nat)
@[simp] def cT.num:cT->J Nat
 | .none=>Option.none
 | .at b _ _=>some b
 | .mp b=>some b
def oneCell:Value->Prop
 | .agg _ | .tuple _=>False
 |_=>True
section
variable (w:World) (I:Nat->Prop)
mutual
def TR:Tree->Value->Prop
 | .sc v,u=>u=v/\oneCell v
 | .sl rows,u=>(rows=[]/\∃a cap,u= .slice a 0 cap/\(a=none->cap=0))\/∃b aa cap sz,u= .slice (some ⟨b,aa,none⟩) rows.length cap/\rows.length<=cap/\I b/\cJ rows b aa sz
def cJ:List (List Tree)->Nat->Nat->Nat->Prop
 |[],_,_,_=>True
 |r::rs,b,aa,sz=>r.length=sz/\d8 r b aa/\cJ rs b (aa+sz) sz
def d8:List Tree->Nat->Nat->Prop
 |[],_,_=>True
 |x::xs,b,aa=>(∃ c,w.cell? ⟨b,aa,none⟩=some c/\TR x c)/\d8 xs b (aa+1)
end
def ff:U Tree->U Value->Prop
 |[],[]=>True
 |x::xs,v::vs=>TR w I x v/\ff xs vs
 |_,_=>False
def ro:TV->Value->Prop
 | .s x,v=>TR w I x v
 | .a cs,v=>∃vs:Array Value,v= .agg vs/\ff w I cs vs.toList
def m4:U TV->U Value->Prop
 |[],[]=>True
 |x::xs,v::vs=>ro w I x v/\m4 xs vs
 |_,_=>False
end
def Same(I:Nat->Prop)(w w':World):Prop:=∀b,I b->w'.heap[b]? =w.heap[b]?
theorem Same.cell{I:Nat->Prop}{w w':World}(h:Same I w w'){b aa:Nat}(hb:I b):w'.cell? ⟨b,aa,none⟩=w.cell? ⟨b,aa,none⟩:=by simp only[World.cell?,h b hb]
mutual
theorem TR.mono{w w':World}{I I':Nat->Prop}(hs:Same I w w')(hi:∀b,I b->I' b):∀(x:Tree)(v:Value),TR w I x v->TR w' I' x v
 | .sc _,_,h=>by simpa[TR]using h
 | .sl rows,v,h=>by
  simp only[TR]at h ⊢;rcases h with h |⟨b,aa,cap,sz,h1,h2,h3,h4⟩
  .exact .inl h
  .exact .inr ⟨b,aa,cap,sz,h1,h2,hi _ h3,cJ.mono hs hi rows b aa sz h3 h4⟩
theorem cJ.mono{w w':World}{I I':Nat->Prop}(hs:Same I w w')(hi:∀b,I b->I' b):∀(rows:List (List Tree))(b aa sz:Nat),I b->cJ w I rows b aa sz->cJ w' I' rows b aa sz
 |[],_,_,_,_,_=>by simp[cJ]
 |r::rs,b,aa,sz,hb,h=>by
  simp only[cJ]at h ⊢;exact⟨h.1,d8.mono hs hi r b aa hb h.2.1,cJ.mono hs hi rs b (aa+sz) sz hb h.2.2⟩
theorem d8.mono{w w':World}{I I':Nat->Prop}(hs:Same I w w')(hi:∀b,I b->I' b):∀(r:List Tree)(b aa:Nat),I b->d8 w I r b aa->d8 w' I' r b aa
 |[],_,_,_,_=>by simp[d8]
 |x::xs,b,aa,hb,h=>by
  simp only[d8]at h ⊢;obtain⟨⟨c,hc,hx⟩,h2⟩:=h;exact⟨⟨c,by rw[hs.cell hb];exact hc,TR.mono hs hi x c hx⟩,d8.mono hs hi xs b (aa+1) hb h2⟩
end
theorem ff.mono{w w':World}{I I':Nat->Prop}(hs:Same I w w')(hi:∀b,I b->I' b):∀(xs:U Tree)(vs:U Value),ff w I xs vs->ff w' I' xs vs
 |[],[],_=>trivial
 |x::xs,v::vs,h=>⟨TR.mono hs hi x v h.1,ff.mono hs hi xs vs h.2⟩
 |[],_::_,h=>h.elim
 |_::_,[],h=>h.elim
theorem ro.mono{w w':World}{I I':Nat->Prop}(hs:Same I w w')(hi:∀b,I b->I' b):∀(x:TV)(v:Value),ro w I x v->ro w' I' x v
 | .s x,v,h=>TR.mono hs hi x v h
 | .a cs,_,⟨vs,h1,h2⟩=>⟨vs,h1,ff.mono hs hi cs vs.toList h2⟩
theorem m4.mono{w w':World}{I I':Nat->Prop}(hs:Same I w w')(hi:∀b,I b->I' b):∀(xs:U TV)(vs:U Value),m4 w I xs vs->m4 w' I' xs vs
 |[],[],_=>trivial
 |x::xs,v::vs,h=>⟨ro.mono hs hi x v h.1,m4.mono hs hi xs vs h.2⟩
 |[],_::_,h=>h.elim
 |_::_,[],h=>h.elim
def j9(w:World)(I:Nat->Prop):Prop:=(∀ g row,vy g=some row->I g/\d8 w I (row.map Tree.sc) g 0)/\∀g,WF g=true->I g/\∃m,w.cell? ⟨g,0,none⟩=some (.int .i64 m)
theorem j9.mono{w w':World}{I I':Nat->Prop}(hs:Same I w w')(hi:∀b,I b->I' b)(h:j9 w I):j9 w' I':=⟨λ g row hg=>
 ⟨hi g (h.1 g row hg).1,d8.mono hs hi _ g 0 (h.1 g row hg).1 (h.1 g row hg).2⟩,λg hg=>⟨hi g (h.2 g hg).1,by rw[hs.cell (h.2 g hg).1];exact(h.2 g hg).2⟩⟩
def aii(w:World)(I:Nat->Prop)(R:World->(Nat->Prop)->Value->Prop)(e:Ending)(w':World):Prop:=
 ∃v I',e= .returned v/\Below w.heap.size w w'/\(∀ b,I b->I' b)/\(∀ b,I' b->b<w'.heap.size)/\(∀ b,I' b->I b\/w.heap.size<=b)/\R w' I' v
def ri(P:Program)(w:World)(I:Nat->Prop)(φ:U TV->TV->Prop)(v:Value):Prop:=
 ∃(f:FuncId)(first caps:Array Value),v= .func (.func f) first caps/\first=#[]/\
  (∀ fn, P.funcs[f]? = some fn -> fn.body.isSome = true /\ (fn.name == "runtime.NumGoroutine") = false) /\ (P.funcs[f]?).isSome = true /\
  ∀(w':World)(I':Nat->Prop)(args:U TV)(vs:Array Value)(r:TV),(∀ b,I b->I' b)->Same I w w'->(∀ b,I' b->b<w'.heap.size)->
   φ args r->m4 w' I' args vs.toList->Calls P f (first++vs++caps) w' (aii w' I' λw'' E0 u=>ro w'' E0 r u)
section
variable (P:Program) (β:Nat->Option cT) (w:World) (I:Nat->Prop)
mutual
def VR:AV->Value->Prop
 | .t x,v=>TR w I x v
 | .agg cs,v=>∃vs:Array Value,v= .agg vs/\bj cs vs.toList
 | .eV cs,v=>∃vs:Array Value,v= .tuple vs/\bj cs vs.toList
 | .own k aa len,v=>(β k=some .none/\v= .slice none 0 0/\aa=0/\len=0)\/
  ∃b sz n cap o,β k=some (.at b sz n)/\v= .slice (some ⟨b,o,none⟩) len cap/\len<=cap/\n.s+(aa+cap)*sz<=n.m/\(cap≠0->o=n.s+aa*sz)
 | .ptr k row aa,v=>∃b sz n,β k=some (.at b sz n)/\v= .pointer (some ⟨b,n.s+row*sz+aa,none⟩)
 | .eM row aa,v=>∃b o,v= .pointer (some ⟨b,o+aa,none⟩)/\I b/\d8 w I row b o
 | .fn f first caps,v=>∃fs cs:Array Value,v= .func (.func f) fs cs/\bj first fs.toList/\bj caps cs.toList
 | .ek φ,v=>ri P w I φ v
 | .mp k,v=>∃b,β k=some (.mp b)/\v= .map (some b)
 | .oz k len,v=>(len=0/\v= .slice none 0 0)\/(len≠0/\∃b sz n cap o,β k=some (.at b sz n)/\v= .slice (some ⟨b,o,none⟩) len cap/\len<=cap/\n.s+(0+cap)*sz<=n.m/\(cap≠0->o=n.s+0*sz))
 | .da,v=>v= .slice none 0 0
 | .ub,v=>∃b,v= .bool b
 | .undef,_=>True
def bj:List AV->List Value->Prop
 |[],[]=>True
 |x::xs,v::vs=>VR x v/\bj xs vs
 |_,_=>False
end
def dc:U AV->Array Value->Nat->Prop
 |[],_,_=>True
 |x::xs,c,aa=>(∃ v,c[aa]? =some v/\VR P β w I x v/\oneCell v)/\dc xs c (aa+1)
def bp:U (List AV)->Array Value->Nat->Nat->Prop
 |[],_,_,_=>True
 |r::rs,c,aa,sz=>r.length=sz/\dc P β w I r c aa/\bp rs c (aa+sz) sz
def cH:U (List AV)->U MapEntry->Prop
 |[],[]=>True
 |r::rs,e::es=>bj P β w I r [e.key,e.val]/\cH rs es
 |_,_=>False
def OR(o:aT):cT->Prop
 | .none=>o.rows=[]
 | .mp b=>∃es clock,w.heap[b]? =some (.map es clock)/\o.rows.length<=o.sz/\(o.sz=o.rows.length->cH P β w I o.rows es.toList)/\(es.toList.map (·.born)).Nodup/\∀e∈es.toList,e.born<clock
 | .at b sz n=>sz=o.sz/\∃c e,w.heap[b]? =some (.cells c e (0,0))/\c.size=n.m/\bp P β w I o.rows c n.s sz
end
theorem ri.mono{P:Program}{w w':World}{I I':Nat->Prop}(hs:Same I w w')(hi:∀b,I b->I' b){φ:U TV->TV->Prop}{v:Value}(h:ri P w I φ v):ri P w' I' φ v:=by
 obtain⟨f,first,caps,h1,h0,h2,h3,h4⟩:=h;exact⟨f,first,caps,h1,h0,h2,h3,λw2 I2 args vs r hi2 hs2 hlt hφ ha=>h4 w2 I2 args vs r (λ b h=>hi2 b (hi b h)) (λ b h=>(hs2 b (hi b h)).trans (hs b h)) hlt hφ ha⟩
mutual
theorem VR.mono{P:Program}{β β':Nat->Option cT}{w w':World}{I I':Nat->Prop}(hb:∀k B,β k=some B->β' k=some B)(hs:Same I w w')(hi:∀b,I b->I' b):∀(x:AV)(v:Value),VR P β w I x v->VR P β' w' I' x v
 | .t x,v,h=>by simp only[VR]at h ⊢;exact TR.mono hs hi x v h
 | .agg cs,v,h=>by
  simp only[VR]at h ⊢;obtain⟨vs,h1,h2⟩:=h;exact⟨vs,h1,bj.mono hb hs hi cs vs.toList h2⟩
 | .eV cs,v,h=>by
  simp only[VR]at h ⊢;obtain⟨vs,h1,h2⟩:=h;exact⟨vs,h1,bj.mono hb hs hi cs vs.toList h2⟩
 | .own k aa len,v,h=>by
  simp only[VR]at h ⊢;rcases h with ⟨h1,h2⟩ |⟨b,sz,n,cap,o,h1,h2⟩
  .exact .inl ⟨hb _ _ h1,h2⟩
  .exact .inr ⟨b,sz,n,cap,o,hb _ _ h1,h2⟩
 | .ptr k row aa,v,h=>by
  simp only[VR]at h ⊢;obtain⟨b,sz,n,h1,h2⟩:=h;exact⟨b,sz,n,hb _ _ h1,h2⟩
 | .eM row aa,v,h=>by
  simp only[VR]at h ⊢;obtain⟨b,o,h1,h2,h3⟩:=h;exact⟨b,o,h1,hi _ h2,d8.mono hs hi row b o h2 h3⟩
 | .fn f first caps,v,h=>by
  simp only[VR]at h ⊢;obtain⟨fs,cs,h1,h2,h3⟩:=h;exact⟨fs,cs,h1,bj.mono hb hs hi first fs.toList h2,bj.mono hb hs hi caps cs.toList h3⟩
 | .ek φ,v,h=>by simp only[VR]at h ⊢;exact ri.mono hs hi h
 | .mp k,v,h=>by
  simp only[VR]at h ⊢;obtain⟨b,h1,h2⟩:=h;exact⟨b,hb _ _ h1,h2⟩
 | .oz k len,v,h=>by
  simp only[VR]at h ⊢;rcases h with h |⟨h0,b,sz,n,cap,o,h1,h2⟩
  .exact .inl h
  .exact .inr ⟨h0,b,sz,n,cap,o,hb _ _ h1,h2⟩
 | .da,v,h=>by simpa[VR]using h
 | .ub,v,h=>by simpa[VR]using h
 | .undef,_,_=>by simp[VR]
theorem bj.mono{P:Program}{β β':Nat->Option cT}{w w':World}{I I':Nat->Prop}(hb:∀k B,β k=some B->β' k=some B)(hs:Same I w w')(hi:∀b,I b->I' b):∀(xs:List AV)(vs:List Value),bj P β w I xs vs->bj P β' w' I' xs vs
 |[],[],_=>by simp[bj]
 |x::xs,v::vs,h=>by simp only[bj]at h ⊢;exact⟨VR.mono hb hs hi x v h.1,bj.mono hb hs hi xs vs h.2⟩
 |[],_::_,h=>by simp[bj]at h
 |_::_,[],h=>by simp[bj]at h
end
theorem VR.u9{P:Program}{β:Nat->J cT}{w:World}{I:Nat->Prop}{k len:Nat}{v:Value}(h:VR P β w I (.oz k len) v):(len=0/\v= .slice none 0 0)\/(len≠0/\VR P β w I (.own k 0 len) v):=by
 simp only[VR]at h ⊢;exact h.imp id λh=>⟨h.1,.inr h.2⟩
def wk:AV->AV
 | .da=> .t (.sl [])
 |x=>x
def dX(rows:U (List AV)):U (List AV):=rows.map λr=>r.map wk
theorem VR.wk{P:Program}{β:Nat->J cT}{w:World}{I:Nat->Prop}{x:AV}{v:Value}(h:VR P β w I x v):VR P β w I (wk x) v:=by
 cases x<;>simp only[Gb.wk]<;>try exact h
 simp only[VR]at h ⊢;simp only[TR];exact .inl ⟨trivial,none,0,h,λ_=>rfl⟩
theorem dc.wk{P:Program}{β:Nat->J cT}{w:World}{I:Nat->Prop}:∀(r:U AV)(c:Array Value)(aa:Nat),dc P β w I r c aa->dc P β w I (r.map Gb.wk) c aa
 |[],_,_,_=>trivial
 |_::xs,c,aa,⟨⟨v,h1,h2,h3⟩,h4⟩=>⟨⟨v,h1,h2.wk,h3⟩,dc.wk xs c (aa+1) h4⟩
theorem bp.wk{P:Program}{β:Nat->J cT}{w:World}{I:Nat->Prop}:∀(rs:U (List AV))(c:Array Value)(aa sz:Nat),bp P β w I rs c aa sz->bp P β w I (dX rs) c aa sz
 |[],_,_,_,_=>trivial
 |r::rs,c,aa,sz,⟨h1,h2,h3⟩=>⟨by simpa using h1,dc.wk r c aa h2,bp.wk rs c (aa+sz) sz h3⟩
theorem dc.mono{P:Program}{β β':Nat->J cT}{w w':World}{I I':Nat->Prop}(hb:∀k B,β k=some B->β' k=some B)(hs:Same I w w')(hi:∀b,I b->I' b):∀(r:U AV)(c:Array Value)(aa:Nat),dc P β w I r c aa->dc P β' w' I' r c aa
 |[],_,_,_=>trivial
 |x::xs,c,aa,⟨⟨v,h1,h2,h3⟩,h4⟩=>⟨⟨v,h1,VR.mono hb hs hi x v h2,h3⟩,dc.mono hb hs hi xs c (aa+1) h4⟩
theorem bp.mono{P:Program}{β β':Nat->J cT}{w w':World}{I I':Nat->Prop}(hb:∀k B,β k=some B->β' k=some B)(hs:Same I w w')(hi:∀b,I b->I' b):∀(rs:U (List AV))(c:Array Value)(aa sz:Nat),bp P β w I rs c aa sz->bp P β' w' I' rs c aa sz
 |[],_,_,_,_=>trivial
 |r::rs,c,aa,sz,⟨h1,h2,h3⟩=>⟨h1,dc.mono hb hs hi r c aa h2,bp.mono hb hs hi rs c (aa+sz) sz h3⟩
theorem bj.wk{P:Program}{β:Nat->J cT}{w:World}{I:Nat->Prop}:∀(r:U AV)(vs:U Value),bj P β w I r vs->bj P β w I (r.map Gb.wk) vs
 |[],[],_=>by simp[bj]
 |x::xs,v::vs,h=>by simp only[bj]at h;simp only[aF,bj];exact⟨h.1.wk,bj.wk xs vs h.2⟩
 |[],_::_,h=>by simp[bj]at h
 |_::_,[],h=>by simp[bj]at h
theorem cH.mono{P:Program}{β β':Nat->J cT}{w w':World}{I I':Nat->Prop}(hb:∀k B,β k=some B->β' k=some B)(hs:Same I w w')(hi:∀b,I b->I' b):∀(rs:U (List AV))(es:U MapEntry),cH P β w I rs es->cH P β' w' I' rs es
 |[],[],_=>trivial
 |r::rs,_::es,⟨h1,h4⟩=>⟨bj.mono hb hs hi r _ h1,cH.mono hb hs hi rs es h4⟩
 |[],_::_,h=>h.elim
 |_::_,[],h=>h.elim
theorem cH.wk{P:Program}{β:Nat->J cT}{w:World}{I:Nat->Prop}:∀(rs:U (List AV))(es:U MapEntry),cH P β w I rs es->cH P β w I (dX rs) es
 |[],[],_=>trivial
 |r::rs,_::es,⟨h1,h4⟩=>⟨bj.wk r _ h1,cH.wk rs es h4⟩
 |[],_::_,h=>h.elim
 |_::_,[],h=>h.elim
structure ky where
 own:Nat->Prop
 HH:Nat->Prop
 anc:Nat->Option cT:=λ_=>none
 lt:∀j B,anc j=some B->j<1000:=by intro j B h;cases h
structure Mem(P:Program)(w0:World)(O0:ky)(β:Nat->Option cT)(I:Nat->Prop)(obj:Nat->Option aT)(w:World):Prop where
 cP:∀k o,obj k=some o->∃B,β k=some B/\OR P β w I o B
 gS:∀k k' o o' B B' b,obj k=some o->obj k'=some o'->β k=some B->β k'=some B'->B.num=some b->B'.num=some b->k=k'
 ownB:∀k o B b,obj k=some o->β k=some B->B.num=some b->¬I b/\b<w.heap.size/\(O0.own b\/w0.heap.size<=b)
 lt:∀b,I b->b<w.heap.size
 up:∀b,I b->O0.HH b\/O0.own b\/w0.heap.size<=b
 keep:∀b,b<w0.heap.size->¬O0.own b->w.heap[b]? =w0.heap[b]?
 le:w0.heap.size<=w.heap.size
 os:w.os=w0.os
 tape:w.tape=w0.tape
 output:w.output=w0.output
 anch:∀j B,O0.anc j=some B->β j=some B
 vars:j9 w I
section
variable {P:Program} {w0:World} {O0:ky} {β:Nat->Option cT} {I:Nat->Prop} {obj:Nat->Option aT} {w:World}
theorem Mem.inj(h:Mem P w0 O0 β I obj w):∀k k' o o' b s n s' n',obj k=some o->obj k'=some o'->β k=some (.at b s n)->β k'=some (.at b s' n')->k=k':=
 λk k' o o' b _ _ _ _ h1 h2 h3 h4=>h.gS k k' o o' _ _ b h1 h2 h3 h4 rfl rfl
theorem Mem.own(h:Mem P w0 O0 β I obj w):∀k o b s n,obj k=some o->β k=some (.at b s n)->¬I b/\b<w.heap.size/\(O0.own b\/w0.heap.size<=b):=
 λk o b _ _ h1 h2=>h.ownB k o _ b h1 h2 rfl
end
def fL(β:Nat->J cT)(k b:Nat):Prop:=∃B,β k=some B/\B.num=some b
theorem fL.at{β:Nat->J cT}{k b s:Nat}{n:Ex}(h:β k=some (.at b s n)):fL β k b:=⟨_,h,rfl⟩
section
variable {P:Program} {w0:World} {O0:ky} {β:Nat->Option cT} {I:Nat->Prop} {obj:Nat->Option aT} {w:World}
theorem Mem.lP(h:Mem P w0 O0 β I obj w):∀k k' o o' b,obj k=some o->obj k'=some o'->fL β k b->fL β k' b->k=k':=
 λk k' o o' b h1 h2 ⟨B,h3,h5⟩ ⟨B',h4,h6⟩=>h.gS k k' o o' B B' b h1 h2 h3 h4 h5 h6
theorem Mem.jt(h:Mem P w0 O0 β I obj w):∀k o b,obj k=some o->fL β k b->¬I b/\b<w.heap.size/\(O0.own b\/w0.heap.size<=b):=
 λk o b h1 ⟨B,h2,h3⟩=>h.ownB k o B b h1 h2 h3
end
def dm(obj:Nat->J aT):U (Nat×Option aT)->Nat->J aT
 |[],k=>obj k
 |(j,o)::r,k=>if k=j then o else dm obj r k
def jj(i k:Nat):Prop:=k=i\/(1000000<=i/\1000000<=k/\(k -1000000)/64=(i -1000000)/64)
theorem jj.ne{i k:Nat}(h:¬jj i k):k≠i:=λe=>h (.inl e)
structure Step(β:Nat->Option cT)(I:Nat->Prop)(w:World)(i:Nat)(β':Nat->Option cT)(I':Nat->Prop)(w':World):Prop where
 other:∀k,¬jj i k->β' k=β k
 ext:∀k B,β k=some B->β' k=some B
 same:Same I w w'
 inc:∀b,I b->I' b
theorem Step.refl(β:Nat->J cT)(I:Nat->Prop)(w:World)(i:Nat):Step β I w i β I w:=⟨λ _ _=>rfl,λ_ _ h=>h,λ_ _=>rfl,λ_ h=>h⟩
theorem qD{w:World}{o:Obj}{b:Nat}(h:b<w.heap.size):(w.alloc o).heap[b]? =w.heap[b]? :=by
 simp only[World.alloc,Array.getElem?_push];rw[aS (by omega)]
theorem Same.alloc{I:Nat->Prop}{w:World}(h:∀b,I b->b<w.heap.size)(o:Obj):Same I w (w.alloc o):=λb hb=>qD (h b hb)
def ins(β:Nat->J cT)(i:Nat)(B:cT):Nat->J cT:=λk=>if k=i then some B else β k
theorem nu{β:Nat->J cT}{i:Nat}{B:cT}(h:β i=none):∀k C,β k=some C->ins β i B k=some C:=by
 intro k C hk;unfold ins;split
 .subst_vars;rw[h]at hk;cases hk
 .exact hk
theorem jo{P:Program}{β:Nat->J cT}{w:World}{I:Nat->Prop}:∀(r:U AV)(c:Array Value)(aa:Nat),dc P β w I r c aa↔∀j x,r[j]? =some x->∃v,c[aa+j]? =some v/\VR P β w I x v/\oneCell v
 |[],c,aa=>by simp[dc]
 |x::xs,c,aa=>by
  simp only[dc,jo xs c (aa+1)];constructor
  .rintro⟨h1,h2⟩ j y hj;cases j with
   |zero=>simp at hj;subst hj;exact h1
   |succ j=>obtain⟨v,hv⟩:=h2 j y (by simpa using hj);exact⟨v,by rw[show aa+(j+1)=aa+1+j by omega];exact hv.1,hv.2⟩
  .intro h;refine⟨by simpa using h 0 x rfl,λj y hj=>?_⟩;obtain⟨v,hv⟩:=h (j+1) y (by simpa using hj);exact⟨v,by rw[show aa+1+j=aa+(j+1)by omega];exact hv.1,hv.2⟩
theorem ow{P:Program}{β:Nat->J cT}{w:World}{I:Nat->Prop}:∀(rs:U (List AV))(c:Array Value)(aa sz:Nat),bp P β w I rs c aa sz↔∀i r,rs[i]? =some r->r.length=sz/\dc P β w I r c (aa+i*sz)
 |[],c,aa,sz=>by simp[bp]
 |r::rs,c,aa,sz=>by
  simp only[bp,ow rs c (aa+sz) sz];constructor
  .rintro⟨h1,h2,h3⟩ i r' hi;cases i with
   |zero=>simp at hi;subst hi;exact⟨h1,by simpa using h2⟩
   |succ i=>have:=h3 i r' (by simpa using hi);rw[show aa+(i+1)*sz=aa+sz+i*sz by rw[Nat.add_mul];omega];exact this
  .intro h;have h0:=h 0 r rfl;refine⟨h0.1,by simpa using h0.2,λi r' hi=>?_⟩;have:=h (i+1) r' (by simpa using hi);rw[show aa+sz+i*sz=aa+(i+1)*sz by rw[Nat.add_mul];omega];exact this
section
variable {P:Program} {w0:World} {O0:ky} {β:Nat->Option cT} {I:Nat->Prop} {obj:Nat->Option aT} {w:World}
theorem OR.mono{β':Nat->J cT}{I':Nat->Prop}{w':World}{o:aT}{B:cT}(hb:∀k B,β k=some B->β' k=some B)(hs:Same I w w')(hi:∀b,I b->I' b)
 (hB:∀b,B.num=some b->w'.heap[b]? =w.heap[b]?) (h:OR P β w I o B):OR P β' w' I' o B:=by
 cases B with
 |none=>exact h
 | «at» b s n=>
  obtain⟨h1,c,e,h2,h3,h4⟩:=h;exact⟨h1,c,e,(hB b rfl).trans h2,h3,bp.mono hb hs hi _ _ _ _ h4⟩
 |mp b=>
  obtain⟨es,cl,h1,hle,h2,h3⟩:=h;exact⟨es,cl,(hB b rfl).trans h1,hle,λe=>cH.mono hb hs hi _ _ (h2 e),h3⟩
theorem Mem.alloc{i:Nat}{o:aT}{c:Array Value}{e:TypeId}(h:Mem P w0 O0 β I obj w)(hn:β i=none)
 (hr:bp P β w I o.rows c 0 o.sz):
 Step β I w i (ins β i (.at w.heap.size o.sz (xv c.size))) I (w.alloc (.cells c e))/\
 Mem P w0 O0 (ins β i (.at w.heap.size o.sz (xv c.size))) I (dm obj [(i,some o)]) (w.alloc (.cells c e)):=by
 have hS:Step β I w i (ins β i (.at w.heap.size o.sz (xv c.size))) I (w.alloc (.cells c e)):=
  ⟨λ k hk=>by simp[ins,jj.ne hk],nu hn,Same.alloc h.lt _,λ_ h=>h⟩
 refine⟨hS,?_⟩;have hne:∀k o',obj k=some o'->k≠i:=λk o' hk e=>by
  have⟨B,hB,_⟩:=h.cP k o' hk;rw[e,hn]at hB;cases hB
 constructor
 .intro k o' hk;simp only[dm]at hk;split at hk
  .cases hk;rename_i hki;refine⟨.at w.heap.size o.sz (xv c.size),by simp[ins,hki],rfl,c,e,?_,rfl,bp.mono hS.ext hS.same hS.inc _ _ _ _ hr⟩;exact heap_alloc_new w _
  .have⟨B,hB,hO⟩:=h.cP k o' hk;exact⟨B,nu hn _ _ hB,OR.mono hS.ext hS.same hS.inc (λ b hb=>qD (h.ownB k o' B b hk hB hb).2.1) hO⟩
 .intro k k' o1 o2 B B' b h1 h2 h3 h4 h5 h6;simp only[dm]at h1 h2;simp only[ins]at h3 h4;split at h1<;>split at h2
  .rename_i a b;rw[a,b]
  .rename_i hki pn;simp only[hki,if_true,aA]at h3;simp only[pn,if_false]at h4;subst h3;injection h5 with h5;have:=(h.ownB k' o2 B' b h2 h4 h6).2.1;omega
  .rename_i hki pn;simp only[pn,if_true,aA]at h4;simp only[hki,if_false]at h3;subst h4;injection h6 with h6;have:=(h.ownB k o1 B b h1 h3 h5).2.1;omega
  .rename_i hki pn;simp only[hki,pn,if_false]at h3 h4;exact h.gS k k' o1 o2 B B' b h1 h2 h3 h4 h5 h6
 .intro k o' B b h1 h2 h3;simp only[dm]at h1;simp only[ins]at h2;split at h1
  .rename_i hki;simp only[hki,if_true,aA]at h2;subst h2;injection h3 with h3;refine⟨λ hI=>?_,?_,.inr ?_⟩
   .have:=h.lt b hI;omega
   .simp;omega
   .have:=h.le;omega
  .rename_i hki;simp only[hki,if_false]at h2;have⟨a,b',c'⟩:=h.ownB k o' B b h1 h2 h3;exact⟨a,by simp;omega,c'⟩
 .intro b hb;have:=h.lt b hb;simp;omega
 .exact h.up
 .intro b hb hO;rw[qD (by have:=h.le;omega)];exact h.keep b hb hO
 .have:=h.le;simp;omega
 .exact h.os
 .exact h.tape
 .exact h.output
 .intro j B hj;exact nu hn _ _ (h.anch j B hj)
 .exact h.vars.mono (Same.alloc h.lt _) (λ _ h=>h)
theorem Mem.write{k:Nat}{o o':aT}{b s:Nat}{n:Ex}{c':Array Value}{e:TypeId}{w':World}(h:Mem P w0 O0 β I obj w)(hk:obj k=some o)(hβ:β k=some (.at b s n))
 (hnew:w'.heap[b]? =some (.cells c' e (0,0))) (hother:∀b',b'≠b->w'.heap[b']? =w.heap[b']?) (hsize:w'.heap.size=w.heap.size) (hos:w'.os=w.os) (vh:w'.tape=w.tape) (hout:w'.output=w.output)
 (hsz:s=o'.sz) (hn:c'.size=n.m) (hr:bp P β w I o'.rows c' n.s o'.sz):
 Same I w w'/\Mem P w0 O0 β I (dm obj [(k,some o')]) w':=by
 have⟨SO,hlt,hO⟩:=h.own k o b s n hk hβ;have hs:Same I w w':=λb' hb=>hother b' (λ e=>SO (e ▸ hb));refine⟨hs,?_⟩;constructor
 .intro j oj hj;simp only[dm]at hj;split at hj
  .rename_i hjk;cases hj;refine⟨.at b s n,by rw[hjk];exact hβ,hsz,c',e,?_,hn,hsz ▸ bp.mono (λ _ _ h=>h) hs (λ _ h=>h) _ _ _ _ hr⟩;exact hnew
  .rename_i hjk;have⟨B,hB,sA⟩:=h.cP j oj hj;refine⟨B,hB,OR.mono (λ _ _ h=>h) hs (λ _ h=>h) (λ b1 e1=>hother b1 (λ e2=>hjk ?_)) sA⟩;subst e2;exact h.gS j k oj o B _ b1 hj hk hB hβ e1 rfl
 .intro j j' o1 o2 B1 B2 b1 h1 h2 h3 h4 h5 h6;have hx:∀(j:Nat)(o1:aT),dm obj [(k,some o')] j=some o1->∃o2,obj j=some o2:=λj o1 h=>by
   simp only[dm]at h;split at h
   .rename_i e;exact⟨o,by rw[e];exact hk⟩
   .exact⟨_,h⟩
  have⟨p1,q1⟩:=hx j o1 h1;have⟨p2,q2⟩:=hx j' o2 h2;exact h.gS j j' p1 p2 B1 B2 b1 q1 q2 h3 h4 h5 h6
 .intro j o1 B1 b1 h1 h2 h3;have hx:∃o2,obj j=some o2:=by
   simp only[dm]at h1;split at h1
   .rename_i e;exact⟨o,by rw[e];exact hk⟩
   .exact⟨_,h1⟩
  obtain⟨p1,q1⟩:=hx;have:=h.ownB j p1 B1 b1 q1 h2 h3;rw[hsize];exact this
 .intro b1 hb1;rw[hsize];exact h.lt b1 hb1
 .exact h.up
 .intro b1 hb1 hno;rw[hother b1 (λ e1=>?_)]
  .exact h.keep b1 hb1 hno
  .subst e1;rcases hO with hO |hO
   .exact hno hO
   .omega
 .rw[hsize];exact h.le
 .rw[hos];exact h.os
 .rw[vh];exact h.tape
 .rw[hout];exact h.output
 .exact h.anch
 .exact h.vars.mono hs (λ _ h=>h)
theorem Mem.drop(h:Mem P w0 O0 β I obj w)(oe:Nat->J aT)(hsub:∀k o,oe k=some o->obj k=some o):Mem P w0 O0 β I oe w:=
 ⟨λ k o hk=>h.cP k o (hsub k o hk),λk k' o o' B B' b h1 h2=>h.gS k k' o o' B B' b (hsub _ _ h1) (hsub _ _ h2),λk o B b h1=>h.ownB k o B b (hsub _ _ h1),h.lt,h.up,h.keep,h.le,h.os,h.tape,h.output,h.anch,h.vars⟩
theorem Mem.below{w':World}{I':Nat->Prop}(h:Mem P w0 O0 β I obj w)(hb:Below w.heap.size w w')(hi:∀b,I b->I' b)(hlt:∀b,I' b->b<w'.heap.size)(hI:∀b k o B,I' b->obj k=some o->β k=some B->B.num=some b->False)(hup:∀b,I' b->O0.HH b\/O0.own b\/w0.heap.size<=b):
 Same I w w'/\Mem P w0 O0 β I' obj w':=by
 have hs:Same I w w':=λb hb'=>hb.block b (h.lt b hb');refine⟨hs,?_⟩;constructor
 .intro k o hk;have⟨B,hB,hO⟩:=h.cP k o hk;exact⟨B,hB,OR.mono (λ _ _ h=>h) hs hi (λ b e=>hb.block b (h.ownB k o B b hk hB e).2.1) hO⟩
 .exact h.gS
 .intro k o B b h1 h2 h3;have⟨a,b',c⟩:=h.ownB k o B b h1 h2 h3;exact⟨λ hb2=>hI b k o B hb2 h1 h2 h3,Nat.lt_of_lt_of_le b' hb.size,c⟩
 .exact hlt
 .exact hup
 .intro b hb1 hno;rw[hb.block b (by have:=h.le;omega)];exact h.keep b hb1 hno
 .have:=h.le;have:=hb.size;omega
 .rw[hb.os];exact h.os
 .rw[hb.tape];exact h.tape
 .rw[hb.output];exact h.output
 .exact h.anch
 .exact h.vars.mono hs hi
theorem Mem.weak{oe:Nat->J aT}(h:Mem P w0 O0 β I obj w)(ho:∀k o',oe k=some o'->∃o,obj k=some o/\∀B,β k=some B->OR P β w I o B->OR P β w I o' B):Mem P w0 O0 β I oe w:=by
 constructor
 .intro k o' hk;have⟨o,h1,h2⟩:=ho k o' hk;have⟨B,hB,hO⟩:=h.cP k o h1;exact⟨B,hB,h2 B hB hO⟩
 .intro k k' o o' B B' b h1 h2;have⟨q,g1,_⟩:=ho k o h1;have⟨q',g2,_⟩:=ho k' o' h2;exact h.gS k k' q q' B B' b g1 g2
 .intro k o B b h1;have⟨q,g1,_⟩:=ho k o h1;exact h.ownB k q B b g1
 .exact h.lt
 .exact h.up
 .exact h.keep
 .exact h.le
 .exact h.os
 .exact h.tape
 .exact h.output
 .exact h.anch
 .exact h.vars
theorem OR.wk{o:aT}{B:cT}(h:OR P β w I o B):OR P β w I ⟨o.sz,dX o.rows⟩ B:=by
 cases B with
 |none=>simp only[OR]at h ⊢;simp[dX,h]
 | «at» b s n=>
  obtain⟨h1,c,e,h2,h3,h4⟩:=h;exact⟨h1,c,e,h2,h3,bp.wk _ _ _ _ h4⟩
 |mp b=>
  obtain⟨es,cl,h1,hle,h2,h3⟩:=h;exact⟨es,cl,h1,by simpa[dX]using hle,λe=>cH.wk _ _ (h2 (by simpa[dX]using e)),h3⟩
theorem Mem.ws{k:Nat}{sz:Nat}{rows:U (List AV)}(h:Mem P w0 O0 β I (dm obj [(k,some ⟨sz,rows⟩)]) w):Mem P w0 O0 β I (dm obj [(k,some ⟨sz,dX rows⟩)]) w:=by
 refine h.weak λj o' hj=>?_;simp only[dm]at hj ⊢;by_cases e:j=k
 .rw[aX e]at hj ⊢;cases hj;exact⟨_,rfl,λB _ hB=>OR.wk hB⟩
 .rw[aS e]at hj ⊢;exact⟨o',hj,λ_ _ h=>h⟩
theorem Mem.drew(h:Mem P w0 O0 β I obj w):Mem P w0 O0 β I obj w.drew:=by
 have hb:Below w.heap.size w w.drew:=⟨rfl,rfl,rfl,aD _,λ_ _=>rfl⟩;exact(h.below hb (λ _ h=>h) h.lt (λ b k o B h1 h2 h3 h4=>(h.ownB k o B b h2 h3 h4).1 h1) h.up).2
end
def mm:Nat->J cT:=λ_=>none
def TV.av:TV->AV
 | .s x=> .t x
 | .a cs=> .agg (cs.map .t)
inductive RC where
 |d (x:TV)
 |fresh (sz:Nat) (rows:List (List Tree))
 |whole (j len:Nat)
inductive RV where
 |one (c:RC)
 |eV (cs:List RC)
def aI(rows:U (List Tree)):U (List AV):=rows.map λr=>r.map AV.t
def P1(P:Program)(F:Nat->Prop)(sz:Nat)(rows:U (List Tree))(w:World)(I:Nat->Prop)(v:Value):Prop:=
 (rows=[]/\v= .slice none 0 0)\/∃b c e cap o s,v= .slice (some ⟨b,o,none⟩) rows.length cap/\F b/\¬I b/\w.heap[b]? =some (.cells c e (0,0))/\rows.length<=cap/\s+cap*sz<=c.size/\
  bp P mm w I (aI rows) c s sz/\(cap≠0->o=s)
def yn(P:Program)(F:Nat->Prop)(β:Nat->J cT):RC->World->(Nat->Prop)->Value->Prop
 | .d x,w,I,v=>ro w I x v
 | .fresh sz rows,w,I,v=>P1 P F sz rows w I v
 | .whole j len,w,I,v=>VR P β w I (.own j 0 len) v
def Sw(P:Program)(F:Nat->Prop)(β:Nat->J cT):U RC->World->(Nat->Prop)->U Value->Prop
 |[],_,_,[]=>True
 |c::cs,w,I,v::vs=>yn P F β c w I v/\Sw P F β cs w I vs
 |_,_,_,_=>False
def rx(P:Program)(F:Nat->Prop)(β:Nat->J cT):RV->World->(Nat->Prop)->Value->Prop
 | .one c,w,I,v=>yn P F β c w I v
 | .eV cs,w,I,v=>∃vs:Array Value,v= .tuple vs/\Sw P F β cs w I vs.toList
def MM(w:World)(b:Nat):Prop:=w.heap.size<=b
def eU(P : Program)(f : FuncId): Prop := ∃ fn, P.funcs[f]? = some fn /\ fn.body.isSome = true /\ (fn.name == "runtime.NumGoroutine") = false
def rh(P:Program)(f:FuncId)(args:U AV)(r:RV):Prop:=
 eU P f/\∀(w:World)(I:Nat->Prop)(vs:Array Value),(∀ b,I b->b<w.heap.size)->j9 w I->bj P mm w I args vs.toList->Calls P f vs w (aii w I (rx P (MM w) mm r))
mutual
def fY(P:Program)(get:Nat->Option aT):AV->AV->Prop
 | .t x,y=>y= .t x
 | .agg cs,y=>∃cs',y= .agg cs'/\fh P get cs cs'
 | .eV _,_=>False
 | .own k aa len,y=>∃o d6,get k=some o/\y= .t (.sl d6)/\(o.rows.drop aa).take len=aI d6/\d6.length=len
 | .ptr k row aa,y=>∃o sL,get k=some o/\y= .eM sL aa/\o.rows[row]? =some (sL.map AV.t)
 | .eM r o,y=>y= .eM r o
 | .fn f first caps,y=>∃first' nj,fh P get first first'/\fh P get caps nj/\(y= .fn f first' nj\/
  ∃ φ,y= .ek φ/\first'=[]/\eU P f/\∀args r,φ args r->rh P f (first'++args.map TV.av++nj) (.one (.d r)))
 | .ek φ,y=>y= .ek φ
 | .mp _,_=>False
 | .oz k len,y=>∃o d6,get k=some o/\y= .t (.sl d6)/\(o.rows.drop 0).take len=aI d6/\d6.length=len
 | .da,y=>y= .t (.sl [])\/y= .da
 | .ub,_=>False
 | .undef,_=>False
def fh(P:Program)(get:Nat->Option aT):List AV->List AV->Prop
 |[],[]=>True
 |x::xs,y::ys=>fY P get x y/\fh P get xs ys
 |_,_=>False
end
mutual
def refs:AV->List Nat
 | .own k _ _=>[k]
 | .ptr k _ _=>[k]
 | .mp k=>[k]
 | .oz k _=>[k]
 | .agg cs=>eX cs
 | .eV cs=>eX cs
 | .fn _ first caps=>eX first++eX caps
 |_=>[]
def eX:List AV->List Nat
 |[]=>[]
 |x::xs=>refs x++eX xs
end
def gb(β:Nat->J cT)(obj:Nat->J aT)(ae:U Nat)(I:Nat->Prop)(b:Nat):Prop:=
 I b\/∃k o s n,k∈ae/\obj k=some o/\β k=some (.at b s n)
theorem gb.sub{β:Nat->J cT}{obj:Nat->J aT}{ae HI:U Nat}{I:Nat->Prop}(h:∀k,k∈ae->k∈HI):∀b,gb β obj ae I b->gb β obj HI I b:=by
 intro b hb;rcases hb with hb |⟨k,o,s,n,h1,h2⟩
 .exact .inl hb
 .exact .inr ⟨k,o,s,n,h k h1,h2⟩
section
variable {P:Program} {β:Nat->Option cT} {w:World} {I:Nat->Prop}
theorem dc.drop:∀(n:Nat)(r:U AV)(c:Array Value)(aa:Nat),dc P β w I r c aa->dc P β w I (r.drop n) c (aa+n)
 | 0,_,_,_,h=>by simpa using h
 |n+1,[],_,_,_=>by simp[dc]
 |n+1,x::xs,c,aa,⟨_,h⟩=>by
  have:=dc.drop n xs c (aa+1) h;rw[List.drop_succ_cons,show aa+(n+1)=aa+1+n by omega];exact this
theorem dc.take:∀(n:Nat)(r:U AV)(c:Array Value)(aa:Nat),dc P β w I r c aa->dc P β w I (r.take n) c aa
 | 0,_,_,_,_=>by simp[dc]
 |n+1,[],_,_,_=>by simp[dc]
 |n+1,x::xs,c,aa,⟨h1,h⟩=>⟨h1,dc.take n xs c (aa+1) h⟩
theorem bp.drop:∀(n:Nat)(rs:U (List AV))(c:Array Value)(aa sz:Nat),bp P β w I rs c aa sz->bp P β w I (rs.drop n) c (aa+n*sz) sz
 | 0,_,_,_,_,h=>by simpa using h
 |n+1,[],_,_,_,_=>by simp[bp]
 |n+1,r::rs,c,aa,sz,⟨_,_,h⟩=>by
  have:=bp.drop n rs c (aa+sz) sz h;rw[List.drop_succ_cons,show aa+(n+1)*sz=aa+sz+n*sz by rw[Nat.add_mul];omega];exact this
theorem bp.take:∀(n:Nat)(rs:U (List AV))(c:Array Value)(aa sz:Nat),bp P β w I rs c aa sz->bp P β w I (rs.take n) c aa sz
 | 0,_,_,_,_,_=>by simp[bp]
 |n+1,[],_,_,_,_=>by simp[bp]
 |n+1,r::rs,c,aa,sz,⟨h1,h2,h⟩=>⟨h1,h2,bp.take n rs c (aa+sz) sz h⟩
theorem bp.get:∀(i:Nat)(rs:U (List AV))(c:Array Value)(aa sz:Nat)(r:U AV),bp P β w I rs c aa sz->rs[i]? =some r->r.length=sz/\dc P β w I r c (aa+i*sz)
 | 0,r::rs,c,aa,sz,r',⟨h1,h2,_⟩,h=>by simp at h;subst h;exact⟨h1,by simpa using h2⟩
 |i+1,r::rs,c,aa,sz,r',⟨_,_,h3⟩,h=>by
  have:=bp.get i rs c (aa+sz) sz r' h3 (by simpa using h);rw[show aa+(i+1)*sz=aa+sz+i*sz by rw[Nat.add_mul];omega];exact this
 |_,[],_,_,_,_,_,h=>by simp at h
theorem d8.lO{I':Nat->Prop}{b:Nat}{c:Array Value}{e:TypeId}{f:Nat×Nat}(hI:∀b,I b->I' b)(hc:w.heap[b]? =some (.cells c e f)):∀(r:U Tree)(aa:Nat),dc P β w I (r.map AV.t) c aa->d8 w I' r b aa
 |[],_,_=>by simp[d8]
 |x::xs,aa,⟨⟨v,h1,h2,_⟩,h3⟩=>by
  simp only[d8];refine⟨⟨v,?_,?_⟩,d8.lO hI hc xs (aa+1) h3⟩
  .simp[World.cell?,hc,h1]
  .simp only[VR]at h2;exact TR.mono (λ _ _=>rfl) hI x v h2
theorem cJ.lO{I':Nat->Prop}{b:Nat}{c:Array Value}{e:TypeId}{f:Nat×Nat}(hI:∀b,I b->I' b)(hc:w.heap[b]? =some (.cells c e f)):∀(rs:U (List Tree))(aa sz:Nat),bp P β w I (aI rs) c aa sz->cJ w I' rs b aa sz
 |[],_,_,_=>by simp[cJ]
 |r::rs,aa,sz,h=>by
  simp only[aI,aF,bp]at h;simp only[cJ];exact⟨by simpa using h.1,d8.lO hI hc r aa h.2.1,cJ.lO hI hc rs (aa+sz) sz h.2.2⟩
theorem ri.Hv{f:FuncId}{first caps:Array Value}{first' nj:U AV}{φ:U TV->TV->Prop}(h0:first'=[])(hcall:eU P f)(hgv:j9 w I)(hf:bj P mm w I first' first.toList)(hc:bj P mm w I nj caps.toList)
 (h:∀args r,φ args r->rh P f (first'++args.map TV.av++nj) (.one (.d r))):ri P w I φ (.func (.func f) first caps):=by
 obtain⟨fn,h1,h2,h3⟩:=hcall;have h00:first=#[]:=by
  obtain⟨fs⟩:=first
  cases fs with
  |nil=>rfl
  |cons a b=>rw[h0]at hf;simp[bj]at hf
 refine⟨f,first,caps,rfl,h00,λfn' hfn=>?_,by simp[h1],?_⟩
 .rw[h1]at hfn;cases hfn;exact⟨h2,h3⟩
 .intro w' I' args vs r hI hS hlt hφ ha;have happ:∀(a b:U AV)(u v:U Value),bj P mm w' I' a u->bj P mm w' I' b v->bj P mm w' I' (a++b) (u++v):=by
   intro a
   induction a with
   |nil=>intro b u v h1 h2;cases u with
    |nil=>simpa using h2
    |cons=>simp[bj]at h1
   |cons x xs ih=>intro b u v h1 h2;cases u with
    |nil=>simp[bj]at h1
    |cons y ys=>simp only[bj]at h1;simp only[cons_append,bj];exact⟨h1.1,ih _ _ _ h1.2 h2⟩
  have hargs:∀(args:U TV)(vs:U Value),m4 w' I' args vs->bj P mm w' I' (args.map TV.av) vs:=by
   intro args
   induction args with
   |nil=>intro vs h;cases vs with
    |nil=>simp[bj]
    |cons=>simp[m4]at h
   |cons x xs ih=>intro vs h;cases vs with
    |nil=>simp[m4]at h
    |cons y ys=>
     simp only[m4]at h;simp only[aF,bj];refine⟨?_,ih ys h.2⟩;cases x with
     |s x=>simpa[TV.av,VR,ro]using h.1
     |a cs=>
      obtain⟨us,rfl,h5⟩:=h.1;simp only[TV.av,VR];refine⟨us,rfl,?_⟩;have:∀(cs:U Tree) (us:U Value),ff w' I' cs us->bj P mm w' I' (cs.map AV.t) us:=by
       intro cs
       induction cs with
       |nil=>intro us h;cases us with
        |nil=>simp[bj]
        |cons=>simp[ff]at h
       |cons x xs ih=>intro us h;cases us with
        |nil=>simp[ff]at h
        |cons y ys=>simp only[ff]at h;simp only[aF,bj,VR];exact⟨h.1,ih _ h.2⟩
      exact this cs us.toList h5
  have hm:∀k B,mm k=some B->mm k=some B:=λ_ _ h=>h;have:=(h args r hφ).2 w' I' (first++vs++caps) hlt (hgv.mono hS hI) (by
   simp only[Array.toList_append];exact happ _ _ _ _ (happ _ _ _ _ (bj.mono hm hS hI _ _ hf) (hargs _ _ ha)) (bj.mono hm hS hI _ _ hc))
  exact this
variable {w0:World} {O0:ky} {obj:Nat->Option aT}
theorem fY.p6(h:Mem P w0 O0 β I obj w)(ae:U Nat){k aa len:Nat}{y:AV}{v:Value}(hk:k∈ae)(hb:∃o d6,obj k=some o/\y= .t (.sl d6)/\(o.rows.drop aa).take len=aI d6/\d6.length=len)(hv:VR P β w I (.own k aa len) v):VR P mm w (gb β obj ae I) y v:=by
 obtain⟨o,d6,hget,rfl,hrows,hlen⟩:=hb;simp only[VR]at hv ⊢;simp only[TR];rcases hv with ⟨h1,rfl,h2,h3⟩ |⟨b,sz,n,cap,a,h1,rfl,h2,h3,h4⟩
 .exact .inl ⟨eq_nil_of_length_eq_zero (by omega),none,0,rfl,λ_=>rfl⟩
 .refine .inr ⟨b,a,cap,sz,by rw[hlen],by omega,.inr ⟨k,o,sz,n,hk,hget,h1⟩,?_⟩;by_cases h0:cap=0
  .have:d6=[]:=eq_nil_of_length_eq_zero (by omega);subst this;simp[cJ]
  .rw[h4 h0];have⟨B,hB,hO⟩:=h.cP k o hget;rw[h1]at hB;cases hB;obtain⟨hs,c,e,hc,_,hO⟩:=hO;have h4:=bp.take len _ _ _ _ (bp.drop aa _ _ _ _ hO);rw[hrows]at h4;exact cJ.lO (λ _ h=> .inl h) hc d6 _ _ h4
mutual
theorem fY.sound(h:Mem P w0 O0 β I obj w)(ae:List Nat):∀(x y:AV)(v:Value),(∀ k,k∈refs x->k∈ae)->fY P obj x y->VR P β w I x v->VR P mm w (gb β obj ae I) y v
 | .t x,y,v,_,hb,hv=>by
  simp only[fY]at hb;subst hb;simp only[VR]at hv ⊢;exact TR.mono (λ _ _=>rfl) (λ _ h=> .inl h) x v hv
 | .agg cs,y,v,hk,hb,hv=>by
  simp only[fY]at hb;obtain⟨cs',rfl,hb⟩:=hb;simp only[VR]at hv ⊢;obtain⟨vs,rfl,hv⟩:=hv;exact⟨vs,rfl,fh.sound h ae cs cs' vs.toList (by simpa[refs]using hk) hb hv⟩
 | .eV _,_,_,_,hb,_=>by simp[fY]at hb
 | .oz k len,y,v,hk,hb,hv=>by
  rcases hv.u9 with ⟨rfl,rfl⟩ |⟨_,hv⟩
  .simp only[fY]at hb;obtain⟨o,d6,hget,rfl,hrows,hlen⟩:=hb;simp only[VR,TR];exact .inl ⟨eq_nil_of_length_eq_zero hlen,none,0,rfl,λ_=>rfl⟩
  .exact fY.p6 h ae (hk k (by simp[refs])) (by simpa only[fY]using hb) hv
 | .own k aa len,y,v,hk,hb,hv=>fY.p6 h ae (hk k (by simp[refs])) (by simpa only[fY]using hb) hv
 | .ptr k row aa,y,v,hk,hb,hv=>by
  simp only[fY]at hb;obtain⟨o,sL,hget,rfl,hrow⟩:=hb;simp only[VR]at hv ⊢;obtain⟨b,sz,n,h1,rfl⟩:=hv;have⟨B,hB,hO⟩:=h.cP k o hget;rw[h1]at hB;cases hB;obtain⟨hs,c,e,hc,_,hO⟩:=hO;have h4:=(bp.get row _ _ _ _ _ hO hrow).2;exact⟨b,n.s+row*sz,rfl,.inr ⟨k,o,sz,n,hk k (by simp[refs]),hget,h1⟩,d8.lO (λ _ h=> .inl h) hc sL _ h4⟩
 | .eM r o,y,v,_,hb,hv=>by
  simp only[fY]at hb;subst hb;simp only[VR]at hv ⊢;obtain⟨b,o',h1,h2,h3⟩:=hv;exact⟨b,o',h1,.inl h2,d8.mono (λ _ _=>rfl) (λ _ h=> .inl h) r b o' h2 h3⟩
 | .fn f first caps,y,v,hk,hb,hv=>by
  simp only[fY]at hb;obtain⟨first',nj,hb1,hb2,hy⟩:=hb;simp only[VR]at hv;obtain⟨fs,cs,rfl,hv1,hv2⟩:=hv;have h1:=fh.sound h ae first first' fs.toList (λ k hk'=>hk k (by simp[refs,hk'])) hb1 hv1
  have h2:=fh.sound h ae caps nj cs.toList (λ k hk'=>hk k (by simp[refs,hk'])) hb2 hv2;rcases hy with rfl |⟨φ,rfl,h0,hc,hφ⟩
  .simp only[VR];exact⟨fs,cs,rfl,h1,h2⟩
  .simp only[VR];exact ri.Hv h0 hc (h.vars.mono (λ _ _=>rfl) (λ _ h=> .inl h)) h1 h2 hφ
 | .ek φ,y,v,_,hb,hv=>by
  simp only[fY]at hb;subst hb;simp only[VR]at hv ⊢;exact ri.mono (λ _ _=>rfl) (λ _ h=> .inl h) hv
 | .da,y,v,_,hb,hv=>by
  simp only[fY]at hb;rcases hb with rfl |rfl
  .simp only[VR]at hv ⊢;simp only[TR];exact .inl ⟨trivial,none,0,hv,λ_=>rfl⟩
  .simpa only[VR]using hv
 | .ub,_,_,_,hb,_=>by simp[fY]at hb
 | .undef,_,_,_,hb,_=>by simp[fY]at hb
theorem fh.sound(h:Mem P w0 O0 β I obj w)(ae:List Nat):∀(xs ys:List AV)(vs:List Value),(∀ k,k∈eX xs->k∈ae)->fh P obj xs ys->bj P β w I xs vs->bj P mm w (gb β obj ae I) ys vs
 |[],[],[],_,_,_=>by simp[bj]
 |x::xs,y::ys,v::vs,hk,hb,hv=>by
  simp only[fh]at hb;simp only[bj]at hv ⊢;exact⟨fY.sound h ae x y v (λ k hk'=>hk k (by simp[eX,hk'])) hb.1 hv.1,fh.sound h ae xs ys vs (λ k hk'=>hk k (by simp[eX,hk'])) hb.2 hv.2⟩
 |[],_::_,_,_,hb,_=>by simp[fh]at hb
 |_::_,[],_,_,hb,_=>by simp[fh]at hb
 |[],[],_::_,_,_,hv=>by simp[bj]at hv
 |_::_,_::_,[],_,_,hv=>by simp[bj]at hv
end
end
inductive AG where
 |slice (e:TypeId)
 |arr (n:Nat) (e:TypeId)
 |struct (fs:List (Nat×TypeId))
 |bool
 |str
 |int (k:IntKind)
 |map (k e:TypeId)
 |other
structure np where
 size:Nat
 bytes:Nat
 agg:Bool
 zero:List Value
 k:AG
 cmp:List Nat
abbrev eo:=Nat->J np
def RM:AG->TypeDesc->Prop
 | .slice e,d=>d= .slice e
 | .arr n e,d=>d= .array n e
 | .struct fs,d=>∃fa:Array Field,d= .struct fa/\fa.toList.map (λ f=>(f.offset,f.type))=fs
 | .bool,d=>d= .bool
 | .str,d=>d= .string
 | .int k,d=>d= .int k
 | .map k e,d=>d= .map k e
 | .other,_=>True
def s8:TypeDesc->Bool
 | .struct _ | .array _ _=>true
 |_=>false
def kB:Value->Bool
 | .agg _ | .tuple _=>false
 |_=>true
theorem sO{v:Value}(h:kB v=true):oneCell v:=by cases v<;>first |exact trivial |(simp [kB]at h)
def UQ(P:Program)(f:Field)(kd:Nat):Bool:=
 (f.name != "_") && match P.underlying f.type with
  |some (.int _)=>kd==0
  |some .bool=>kd==1
  |some .string=>kd==2
  |_=>false
def gp(P:Program):Nat->U Field->U Nat->Bool
 |_,[],[]=>true
 |n,f::fs,k::ks=>f.offset==n&&UQ P f k&&gp P (n+1) fs ks
 |_,_,_=>false
def tg(agg:Bool):Value->Bool
 | .agg _=>agg
 | .tuple _=>false
 |_=>!agg
structure ma(P:Program)(t:TypeId)(ti:np):Prop where
 ex:∃info d z,P.info? t=some info/\P.underlying t=some d/\info.size=ti.size/\info.bytes=ti.bytes/\info.zero=some z/\z.cells.toList=ti.zero/\s8 d=ti.agg/\RM ti.k d
 one:ti.zero.all kB=true
 len:ti.zero.length=ti.size
 form:∀info z,P.info? t=some info->info.zero=some z->tg ti.agg z=true
 cmp:ti.cmp≠[]->(∃ fa:Array Field,P.underlying t=some (.struct fa)/\P.stoodInHeld t=false/\P.eqGuardType P.depth t=false/\gp P 0 fa.toList ti.cmp=true)\/(ti.cmp=[9]/\P.eqGuardType P.depth t=false)
def fe(P:Program)(T:eo):Prop:=∀t ti,T t=some ti->ma P t ti
def jk:U Prop->Prop
 |[]=>True
 |[p]=>p
 |p::q::r=>p/\jk (q::r)
structure Out where
 v:AV
 upd:List (Nat×Option aT)
 obs:List Prop
@[reducible] def Out.ob (o:Out):Prop:=jk o.obs
def cR(i:Nat):Nat:=1000000+64*i
inductive LH where
 |rows (tr:List (List Tree))
 |row (tr:List Tree)
 |fn
 |ek (φ:List TV->TV->Prop)
 |mut (j:Nat)
 |nil
 |emp
 |fnw
 |agw
 |agd
inductive OB where
 |dat (p:Nat×List (List Tree))
 |DD (hs:List (List LH))
inductive ka where
 |none
 |row (r:List AV)
 |set (r:List AV) (rs:List (List AV))
 |sL (r:List Tree)
 |num (n:Int)
 |rows (rs:List (List AV))
 |AM (rows:List (List Tree))
 |call (hs:List LH) (r:RV) (keep:Bool)
 |DE (hs:List LH) (args:List TV) (r:TV) (keep:Bool)
 |ext (n:Int)
 |xt (ae:List Nat) (fr:Operand->AV) (cL:ka)
 |tB (ae:List Nat) (os:List (Nat×List (List Tree))) (os':List (Option (Nat×List (List Tree)))) (hs:List LH) (r:RV) (keep:Bool)
 |tD (ae c8:List Nat) (bs:List OB) (hs:List LH) (os':List (Nat×aT)) (rv:AV) (keep:Bool)
def pv(v:AV):J Out:=some ⟨v,[],[]⟩
def mN(v:AV)(ob:Prop):J Out:=some ⟨v,[],[ob]⟩
def cv:Value->AV
 | .slice none 0 0=> .da
 |v=>if kB v then .t (.sc v)else .undef
def lL(env:Nat->AV):Operand->AV
 | .tmp t=>env t
 | .const v=>cv v
 | .global g=>match vy g with
  |some row=> .eM (row.map Tree.sc) 0
  |none=> .undef
 | .func f=> .fn f [] []
def oU:AV->Bool
 | .agg _ | .eV _ | .undef=>false
 |_=>true
def cellsOf:AV->J (List AV)
 | .agg cs=>if cs.all oU then some cs else none
 | .eV _ | .undef=>none
 |x=>some [x]
def part'(agg:Bool)(size:Nat)(cs:U AV):J AV:=
 if cs.length=size then(if agg then some (.agg cs)else match cs with |[x]=>if oU x then some x else none |_=>none)else none
def put'(r:U AV)(aa:Nat)(cs:U AV):U AV:=r.take aa++cs++r.drop (aa+cs.length)
def UR(op:BinOp)(k:IntKind)(a b:Int):J (Value×List Prop):=
 match op with
 | .add=>some (.int k (k.wrap (a+b)),[])
 | .sub=>some (.int k (k.wrap (a -b)),[])
 | .mul=>some (.int k (k.wrap (a*b)),[])
 | .quo=>some (.int k (k.wrap (a.tdiv b)),[b≠0])
 | .rem=>some (.int k (a.tmod b),[b≠0])
 | .and=>some (.int k (bits .and k a b),[])
 | .or=>some (.int k (bits .or k a b),[])
 | .xor=>some (.int k (bits .xor k a b),[])
 | .andNot=>some (.int k (bits .andNot k a b),[])
 | .shl=>some (.int k (k.wrap (a*2 ^ b.toNat)),[0<=b/\b<=k.bits])
 | .shr=>some (.int k (a/2 ^ b.toNat),[0<=b/\b<=k.bits])
 | .eql=>some (.bool (a==b),[])
 | .neq=>some (.bool (a !=b),[])
 | .lss=>some (.bool (decide (a<b)),[])
 | .leq=>some (.bool (decide (a<=b)),[])
 | .gtr=>some (.bool (decide (a>b)),[])
 | .geq=>some (.bool (decide (a>=b)),[])
def Li:Nat->AV->AV->J Bool
 | 0,.t (.sc (.int j a)),.t (.sc (.int k b))=>if j=k then some (a==b)else none
 | 1,.t (.sc (.bool a)),.t (.sc (.bool b))=>some (a==b)
 | 2,.t (.sc (.string a)),.t (.sc (.string b))=>some (a.toList==b.toList)
 |_,_,_=>none
def sP:U Nat->U AV->U AV->J Bool
 |[],[],[]=>some true
 |k::ks,x::xs,y::ys=>(Li k x y).bind λa=>(sP ks xs ys).bind λb=>some (a&&b)
 |_,_,_=>none
theorem akZ:∀xs ys:U AV,sP [9] xs ys=none:=by intro xs ys;cases xs<;>cases ys<;>simp[sP,Li]
def YA(T:eo)(op:BinOp)(t:TypeId)(x y:AV):J Out:=
 match x,y with
 | .t (.sc (.int k a)),.t (.sc (.int yk b))=>if k=yk\/op= .shl\/op= .shr then(UR op k a b).bind λ(v,obs)=>some ⟨.t (.sc v),[],obs⟩else none
 | .t (.sc (.string a)),.t (.sc (.string b))=>match op with
  | .eql=>pv (.t (.sc (.bool (a.toList==b.toList))))
  | .neq=>pv (.t (.sc (.bool (!(a.toList==b.toList)))))
  | .lss=>pv (.t (.sc (.bool (Op.bytesLess a.toList b.toList))))
  | .gtr=>pv (.t (.sc (.bool (!(Op.bytesLess a.toList b.toList || a.toList==b.toList)))))
  | .add=>mN (.t (.sc (.string (a++b)))) (a.size+b.size<=maxLen)
  |_=>none
 | .t (.sc (.bool a)),.t (.sc (.bool b))=>(T t).bind λti=>match ti.k,op with
  | .bool,.eql=>pv (.t (.sc (.bool (a==b))))
  | .bool,.neq=>pv (.t (.sc (.bool (!(a==b)))))
  |_,_=>none
 | .agg xs,.agg ys=>(T t).bind λti=>if ti.cmp=[]then none else(sP ti.cmp xs ys).bind λb=>match op with
  | .eql=>pv (.t (.sc (.bool b)))
  | .neq=>pv (.t (.sc (.bool (!b))))
  |_=>none
 |_,_=>none
def P2(op:UnOp)(x:AV):J Out:=
 match op,x with
 | .not,.t (.sc (.bool b))=>pv (.t (.sc (.bool (!b))))
 | .neg,.t (.sc (.int k n))=>pv (.t (.sc (.int k (k.wrap (0 -n)))))
 |_,_=>none
def D5(mx:Bool)(k:IntKind):Int->U AV->J Int
 |a,[]=>some a
 |a,.t (.sc (.int k' b))::r=>if k'=k then D5 mx k (if mx then max a b else min a b) r else none
 |_,_=>none
def G2(mx:Bool)(args:U AV):J Out:=
 match args with
 | .t (.sc (.int k a))::r=>(D5 mx k a r).bind λn=>pv (.t (.sc (.int k n)))
 |_=>none
def KR(T:eo)(t:TypeId)(x:AV)(cL:ka)(get:Nat->J aT):J Out:=
 (T t).bind λti=>match x with
 | .ptr k row aa=>(get k).bind λo=>match cL with
  | .row r=>(part' ti.agg ti.size ((r.drop aa).take ti.size)).bind λv=>mN v (o.rows[row]? =some r)
  |_=>(o.rows[row]?).bind λr=>(part' ti.agg ti.size ((r.drop aa).take ti.size)).bind pv
 | .eM r aa=>(part' ti.agg ti.size (((r.drop aa).take ti.size).map AV.t)).bind pv
 |_=>none
def UU(T:eo)(t:TypeId)(x y:AV)(cL:ka)(get:Nat->J aT):J Out:=
 (T t).bind λti=>(cellsOf y).bind λcs=>if cs.length=ti.size then match x with
 | .ptr k row aa=>(get k).bind λo=>match cL with
  | .set r rs=>if aa+cs.length<=r.length then some ⟨.undef,[(k,some ⟨o.sz,rs⟩)],[o.rows[row]? =some r/\rs=dX (o.rows.set row (put' r aa cs))]⟩else none
  |_=>(o.rows[row]?).bind λr=>if aa+cs.length<=r.length then some ⟨.undef,[(k,some ⟨o.sz,o.rows.set row (put' r aa cs)⟩)],[]⟩else none
 |_=>none else none
def zT(T:eo)(t:TypeId)(f:Nat):J (Nat×np):=
 (T t).bind λti=>match ti.k with
 | .struct fs=>(fs[f]?).bind λ(aa,u)=>(T u).bind λui=>if ui.size=0 then none else some (aa,ui)
 |_=>none
def yB(T:eo)(t:TypeId)(x:AV)(f:Nat):J Out:=
 (zT T t f).bind λ(d,_)=>match x with
 | .ptr k row aa=>pv (.ptr k row (aa+d))
 | .eM r aa=>pv (.eM r (aa+d))
 |_=>none
def UW(T:eo)(t:TypeId)(x:AV)(f:Nat):J Out:=
 (zT T t f).bind λ(d,ui)=>match x with
 | .agg cs=>(part' ui.agg ui.size ((cs.drop d).take ui.size)).bind pv
 |_=>none
def l5(T:eo)(t:TypeId)(x i:AV)(cL:ka)(get:Nat->J aT):J Out:=
 (T t).bind λti=>match ti.k,i with
 | .slice e,.t (.sc (.int _ n))=>(T e).bind λei=>match x,cL with
  | .t (.sl rows),.sL r=>if r.length=ei.size then mN (.eM r 0) (0<=n/\rows[n.toNat]? =some r)else none
  | .own k aa len,_=>(get k).bind λo=>if o.sz=ei.size then mN (.ptr k (aa+n.toNat) 0) (0<=n/\n.toNat<len)else none
  |_,_=>none
 | .arr m e,.t (.sc (.int _ n))=>(T e).bind λei=>match x with
  | .ptr k row aa=>mN (.ptr k row (aa+n.toNat*ei.size)) (0<=n/\n.toNat<m)
  | .eM r aa=>mN (.eM r (aa+n.toNat*ei.size)) (0<=n/\n.toNat<m)
  |_=>none
 |_,_=>none
def Hf(x:AV)(j:Nat):J Out:=
 match x with
 | .eV vs=>(vs[j]?).bind pv
 |_=>none
def AF(T:eo)(t:TypeId)(x:AV)(cL:ka):J Out:=
 (T t).bind λti=>match ti.k,x,cL with
 | .slice _,.t (.sl rows),.num n=>mN (.t (.sc (.int .i64 n))) (n=(rows.length:Int))
 | .slice _,.own _ _ len,.num n=>mN (.t (.sc (.int .i64 n))) (n=(len:Int))
 | .slice _,.own _ _ len,_=>pv (.t (.sc (.int .i64 (len:Int))))
 | .slice _,.oz _ len,_=>pv (.t (.sc (.int .i64 (len:Int))))
 | .slice _,.da,_=>pv (.t (.sc (.int .i64 0)))
 | .str,.t (.sc (.string s)),_=>pv (.t (.sc (.int .i64 (s.size:Int))))
 |_,_,_=>none
def FD(place:Nat->J (Nat×Nat)):U AV->U (Nat×AV)->J (List AV)
 |cells,[]=>some cells
 |cells,(j,x)::ag=>(place j).bind λ(aa,size)=>(cellsOf x).bind λcs=>
  if cs.length=size/\aa+cs.length<=cells.length then FD place (put' cells aa cs) ag else none
def UX(T:eo)(t:TypeId)(parts:U (Nat×AV)):J Out:=
 (T t).bind λti=>match ti.k with
 | .struct fs=>if fs.all (λ p=>(T p.2).isSome)then
  (FD (λ j=>(fs[j]?).bind λp=>(T p.2).bind λui=>some (p.1,ui.size)) (ti.zero.map cv) parts).bind λcells=>pv (.agg cells)else none
 | .arr _ e=>(T e).bind λei=>(FD (λ j=>some (j*ei.size,ei.size)) (ti.zero.map cv) parts).bind λcells=>pv (.agg cells)
 |_=>none
def Ms(size:Nat):U (List AV)->U (Nat×AV)->J (List (List AV))
 |rows,[]=>some rows
 |rows,(j,x)::ag=>(cellsOf x).bind λcs=>if cs.length=size/\j<rows.length then Ms size (rows.set j cs) ag else none
def vU(T:eo)(i:Nat)(t:TypeId)(len:Nat)(parts:U (Nat×AV))(kp:Bool:=false):J Out:=
 (T t).bind λti=>match ti.k with
 | .slice e=>(T e).bind λei=>if ei.size=0\/len*ei.size>2 ^ 24 then none else
  (Ms ei.size (List.replicate len (ei.zero.map cv)) parts).bind λrows=>some ⟨.own (cR i) 0 len,[(cR i,some ⟨ei.size,if kp then rows else dX rows⟩)],[]⟩
 |_=>none
def UY(T:eo)(i:Nat)(e:TypeId):J Out:=
 (T e).bind λti=>some ⟨.ptr (cR i) 0 0,[(cR i,some ⟨ti.size,[ti.zero.map cv]⟩)],[]⟩
def Lk(i:Nat)(x:AV):J Out:=
 (cellsOf x).bind λcs=>some ⟨.ptr (cR i) 0 0,[(cR i,some ⟨cs.length,[cs]⟩)],[]⟩
def bnd(d:Int):J AV->J Int
 |none=>some d
 |some (.t (.sc (.int _ n)))=>some n
 |_=>none
def UZ(T:eo)(t:TypeId)(x:AV)(lo hi:J AV)(cL:ka)(get:Nat->J aT):J Out:=
 (T t).bind λti=>match ti.k with
 | .slice e=>(T e).bind λei=>match x with
  | .own k aa len=>(get k).bind λo=>if o.sz=ei.size then(bnd 0 lo).bind λl=>(bnd len hi).bind λh=>
   mN (.own k (aa+l.toNat) (h.toNat -l.toNat)) (0<=l/\l<=h/\h<=(len:Int))else none
  | .t (.sl rows)=>match cL with
   | .AM rs=>(bnd 0 lo).bind λl=>(bnd rows.length hi).bind λh=>
    mN (.t (.sl rs)) (0<=l/\l<=h/\h<=(rows.length:Int)/\rs=(rows.drop l.toNat).take (h.toNat -l.toNat)/\(∀ r∈rows,r.length=ei.size))
   |_=>none
  |_=>none
 |_=>none
def U0(size:Nat)(y:AV)(get:Nat->J aT):J (Nat×Prop×List (List AV)):=
 match y with
 | .own k aa len=>(get k).bind λo=>if o.sz=size then some (len,True,(o.rows.drop aa).take len)else none
 | .t (.sl rows)=>some (rows.length,∀r∈rows,r.length=size,aI rows)
 |_=>none
def zU(T:eo)(i:Nat)(t:TypeId)(x y:AV)(cL:ka)(get:Nat->J aT):J Out:=
 (T t).bind λti=>match ti.k with
 | .slice e=>(T e).bind λei=>match cL with
  | .rows rs=>(U0 ei.size y get).bind λ(n,ob,an)=>match x with
   | .own k aa len=>(get k).bind λo=>if o.sz=ei.size then
    some ⟨.own (cR i) 0 rs.length,[(cR i,some ⟨ei.size,rs⟩),(k,none)],[ob/\(o.rows.drop aa).length=len/\an.length=n/\rs=o.rows.drop aa++an/\(len+n)*ei.bytes<=140737488355328/\len+n<=maxLen]⟩else none
   | .da=>some ⟨.own (cR i) 0 rs.length,[(cR i,some ⟨ei.size,rs⟩)],[ob/\an.length=n/\rs=an/\n*ei.bytes<=140737488355328/\n<=maxLen]⟩
   |_=>none
  |_=>none
 |_=>none
def Cr(T:eo)(i:Nat)(b:Builtin)(args:U AV)(cX:U TypeId)(cL:ka)(get:Nat->J aT):J Out:=
 match b,args,cX with
 | .len,[x],[t]=>AF T t x cL
 | .max,args,_=>G2 true args
 | .min,args,_=>G2 false args
 | .append,[x,y],[t,u]=>if t=u then zU T i t x y cL get else none
 |_,_,_=>none
def LS(t:Bool)(x y:AV):AV:=
 match x,y with
 | .t (.sc (.bool p)),.t (.sc (.bool q))=> .t (.sc (.bool (bif t then p else q)))
 | .t (.sc (.int k p)),.t (.sc (.int k' q))=>if k=k' then .t (.sc (.int k (bif t then p else q)))else bif t then x else y
 |_,_=>bif t then x else y
theorem U1(t:Bool)(x y:AV):LS t x y=if t=true then x else y:=by
 unfold LS;split
 .cases t<;>rfl
 .split
  .rename_i h;subst h;cases t<;>rfl
  .cases t<;>rfl
 .cases t<;>rfl
def qg(T:eo)(i:Nat)(o:Oper)(cL:ka)(ρ:Operand->AV)(get:Nat->J aT):J Out:=
 match o.op with
 | .move x=>pv (ρ x)
 | .assign x=>pv (ρ x)
 | .pick c a b=>match ρ c with | .t (.sc (.bool t))=>pv (LS t (ρ a) (ρ b)) |_=>none
 | .alloc e=>UY T i e
 | .box _ x=>Lk i (ρ x)
 | .build t parts=>UX T t (parts.toList.map λ(j,x)=>(j,ρ x))
 | .buildSlice t len parts=>vU T i t len (parts.toList.map λ(j,x)=>(j,ρ x)) (match cL with | .row _=>true |_=>false)
 | .load t a=>KR T t (ρ a) cL get
 | .store t a x=>UU T t (ρ a) (ρ x) cL get
 | .binOp op t x y _=>YA T op t (ρ x) (ρ y)
 | .unOp op _ x=>P2 op (ρ x)
 | .makeFunc (.func f) first caps=>pv (.fn f (first.toList.map ρ) (caps.toList.map ρ))
 | .slice t x lo hi none=>UZ T t (ρ x) (lo.map ρ) (hi.map ρ) cL get
 | .fieldAddr t x f=>yB T t (ρ x) f
 | .field t x f=>UW T t (ρ x) f
 | .indexAddr t x j=>l5 T t (ρ x) (ρ j) cL get
 | .extract x j=>Hf (ρ x) j
 | .call { callee:= .builtin b,args:=args,argTypes:=cX }=>Cr T i b (args.toList.map ρ) cX.toList cL get
 |_=>none
def so(P:Program)(w0:World)(O0:ky)(β:Nat->J cT)(I:Nat->Prop)(obj:Nat->J aT)(w:World)(i:Nat)(ab:Out)(r:Result Next):Prop:=
 ∃v' w' β' I',(r= .ok (.value v') w'\/(r= .ok .skip w'/\v'=undef))/\Step β I w (cR i) β' I' w'/\Mem P w0 O0 β' I' (dm obj ab.upd) w'/\VR P β' w' I' ab.v v'
section
variable {P:Program} {T:eo} {w0:World} {O0:ky} {β:Nat->Option cT} {I:Nat->Prop} {obj:Nat->Option aT} {w:World} {i:Nat}
theorem so.pure(h:Mem P w0 O0 β I obj w){x:AV}{ob:U Prop}{v:Value}(hv:VR P β w I x v):so P w0 O0 β I obj w i ⟨x,[],ob⟩ (.ok (.value v) w):=
 ⟨v,w,β,I,.inl rfl,Step.refl ..,h,hv⟩
theorem bj.length:∀(xs:U AV)(vs:U Value),bj P β w I xs vs->vs.length=xs.length
 |[],[],_=>rfl
 |x::xs,v::vs,h=>by simp only[bj]at h;simp[bj.length xs vs h.2]
 |[],_::_,h=>by simp[bj]at h
 |_::_,[],h=>by simp[bj]at h
theorem bj.get:∀(xs:U AV)(vs:U Value)(j:Nat)(x:AV),bj P β w I xs vs->xs[j]? =some x->∃v,vs[j]? =some v/\VR P β w I x v
 |x::xs,v::vs,0,x',h,hj=>by simp only[bj]at h;simp at hj;subst hj;exact⟨v,rfl,h.1⟩
 |x::xs,v::vs,j+1,x',h,hj=>by simp only[bj]at h;simpa using bj.get xs vs j x' h.2 (by simpa using hj)
 |[],_,_,_,_,hj=>by simp at hj
 |_::_,[],_,_,h,_=>by simp[bj]at h
theorem bj.take:∀(n:Nat)(xs:U AV)(vs:U Value),bj P β w I xs vs->bj P β w I (xs.take n) (vs.take n)
 | 0,_,_,_=>by simp[bj]
 |n+1,[],[],_=>by simp[bj]
 |n+1,x::xs,v::vs,h=>by simp only[bj]at h;simp only[List.take_succ_cons,bj];exact⟨h.1,bj.take n xs vs h.2⟩
 |_+1,[],_::_,h=>by simp[bj]at h
 |_+1,_::_,[],h=>by simp[bj]at h
theorem bj.drop:∀(n:Nat)(xs:U AV)(vs:U Value),bj P β w I xs vs->bj P β w I (xs.drop n) (vs.drop n)
 | 0,_,_,h=>by simpa using h
 |n+1,[],[],_=>by simp[bj]
 |n+1,x::xs,v::vs,h=>by simp only[bj]at h;simpa using bj.drop n xs vs h.2
 |_+1,[],_::_,h=>by simp[bj]at h
 |_+1,_::_,[],h=>by simp[bj]at h
theorem bj.append:∀(xs ys:U AV)(us vs:U Value),bj P β w I xs us->bj P β w I ys vs->bj P β w I (xs++ys) (us++vs)
 |[],ys,[],vs,_,h=>by simpa using h
 |x::xs,ys,u::us,vs,h1,h2=>by simp only[bj]at h1;simp only[cons_append,bj];exact⟨h1.1,bj.append xs ys us vs h1.2 h2⟩
 |[],_,_::_,_,h,_=>by simp[bj]at h
 |_::_,_,[],_,h,_=>by simp[bj]at h
theorem VR.one{x:AV}{v:Value}(hx:oU x=true)(h:VR P β w I x v):oneCell v:=by
 cases x<;>simp only[VR]at h
 case t x=>
  cases x with
  |sc u=>simp only[TR]at h;rw[h.1];exact h.2
  |sl rows=>simp only[TR]at h;rcases h with ⟨_,_,_,rfl,_⟩ |⟨b,aa,cap,sz,rfl,_⟩<;>exact trivial
 case agg=>simp[oU]at hx
 case eV=>simp[oU]at hx
 case own k aa len=>rcases h with ⟨_,rfl,_⟩ |⟨b,sz,n,cap,a,_,rfl,_⟩<;>exact trivial
 case ptr=>obtain⟨b,sz,n,_,rfl⟩:=h;exact trivial
 case eM=>obtain⟨b,o,rfl,_⟩:=h;exact trivial
 case fn=>obtain⟨fs,cs,rfl,_⟩:=h;exact trivial
 case ek=>obtain⟨f,a,b,rfl,_⟩:=h;exact trivial
 case mp=>obtain⟨b,_,rfl⟩:=h;exact trivial
 case oz=>rcases h with ⟨_,rfl⟩ |⟨_,b,sz,n,cap,a,_,rfl,_⟩<;>exact trivial
 case da=>subst h;exact trivial
 case ub=>obtain⟨b,rfl⟩:=h;exact trivial
 case undef=>simp[oU]at hx
theorem cells_one{v:Value}(h:oneCell v):v.cells=#[v]:=by cases v<;>first |rfl |exact h.elim
theorem AX{x:AV}{cs:U AV}{v:Value}(hc:cellsOf x=some cs)(h:VR P β w I x v):bj P β w I cs v.cells.toList/\(∀ u∈v.cells.toList,oneCell u):=by
 have single:oU x=true->cs=[x]->bj P β w I cs v.cells.toList/\(∀ u∈v.cells.toList,oneCell u):=λhk e=>by
  have h1:=VR.one hk h;rw[cells_one h1,e];simp only[bj];exact⟨⟨h,trivial⟩,λu hu=>by simp at hu;rw[hu];exact h1⟩
 cases x<;>simp only[cellsOf,aA,reduceCtorEq]at hc
 case agg cs'=>
  split at hc
  .injection hc with hc;subst hc;rename_i hall;simp only[VR]at h;obtain⟨vs,rfl,hvs⟩:=h;refine⟨hvs,λu hu=>?_⟩;obtain⟨j,hj⟩:=List.getElem?_of_mem hu;have hlen:=bj.length _ _ hvs;have hjl:j<cs'.length:=by
    have:=(dH.1 hj).1;simp only[Value.cells]at this;omega
   obtain⟨u',hu',hv'⟩:=bj.get _ _ j _ hvs (dQ hjl);simp only[Value.cells]at hj;rw[hj]at hu';injection hu' with hu';subst hu';exact VR.one (all_eq_true.1 hall _ (List.getElem_mem hjl)) hv'
  .cases hc
 all_goals exact single rfl hc.symm
theorem VR.cv{v:Value}:VR P β w I (cv v) v:=by
 unfold Gb.cv;split
 .simp[VR]
 .split
  .rename_i h;simp only[VR,TR];exact⟨trivial,sO h⟩
  .simp[VR]
theorem bj.cv:∀(vs:U Value),bj P β w I (vs.map cv) vs
 |[]=>by simp[bj]
 |v::vs=>by simp only[aF,bj];exact⟨VR.cv,bj.cv vs⟩
theorem dc.oy(cs:U AV)(vs:U Value)(c:Array Value)(aa:Nat)(h:bj P β w I cs vs)(h1:∀u∈vs,oneCell u)(hc:∀j u,vs[j]? =some u->c[aa+j]? =some u):dc P β w I cs c aa:=by
 rw[jo];intro j x hx;obtain⟨v,hv,hr⟩:=bj.get _ _ j x h hx;exact⟨v,hc j v hv,hr,h1 v (dw hv)⟩
theorem dc.list:∀(cs:U AV)(c:Array Value)(aa:Nat),dc P β w I cs c aa->∃vs:U Value,bj P β w I cs vs/\(∀ u∈vs,oneCell u)/\∀j u,vs[j]? =some u->c[aa+j]? =some u
 |[],_,_,_=>⟨[],by simp[bj],by simp,by simp⟩
 |x::xs,c,aa,⟨⟨v,h1,h2,h3⟩,h4⟩=>by
  have⟨vs,g1,g2,g3⟩:=dc.list xs c (aa+1) h4;refine⟨v::vs,by simp only[bj];exact⟨h2,g1⟩,λu hu=>?_,λj u hj=>?_⟩
  .rcases aO.1 hu with rfl |hu
   .exact h3
   .exact g2 u hu
  .cases j with
   |zero=>simp at hj;subst hj;simpa using h1
   |succ j=>rw[show aa+(j+1)=aa+1+j by omega];exact g3 j u (by simpa using hj)
theorem d8.list:∀(cs:U Tree)(b aa:Nat),d8 w I cs b aa->∃vs:U Value,bj P β w I (cs.map AV.t) vs/\∀j u,vs[j]? =some u->w.cell? ⟨b,aa+j,none⟩=some u
 |[],_,_,_=>⟨[],by simp[bj],by simp⟩
 |x::xs,b,aa,h=>by
  simp only[d8]at h;obtain⟨⟨v,h1,h2⟩,h4⟩:=h;have⟨vs,g1,g3⟩:=d8.list xs b (aa+1) h4;refine⟨v::vs,by simp only[aF,bj,VR];exact⟨h2,g1⟩,λj u hj=>?_⟩;cases j with
  |zero=>simp at hj;subst hj;simpa using h1
  |succ j=>rw[show aa+(j+1)=aa+1+j by omega];exact g3 j u (by simpa using hj)
theorem Lj{agg:Bool}{size:Nat}{cs:U AV}{v:AV}{vs:U Value}(hp:part' agg size cs=some v)(h:bj P β w I cs vs):cs.length=size/\vs.length=size/\
 (agg=true->VR P β w I v (.agg vs.toArray))/\(agg=false->∃u,vs=[u]/\VR P β w I v u):=by
 unfold part' at hp;split at hp
 .rename_i hl;have hl2:=bj.length _ _ h;refine⟨hl,by omega,?_,?_⟩
  .rintro rfl;simp only[if_true,aA]at hp;subst hp;simp only[VR];exact⟨vs.toArray,rfl,h⟩
  .rintro rfl;simp only[Bool.false_eq_true,if_false]at hp;split at hp
   .split at hp
    .cases hp
     match vs,h with
     |[u],h=>simp only[bj]at h;exact⟨u,rfl,h.1⟩
     |[],h=>simp[bj]at h
     |_::_::_,h=>simp[bj]at h
    .cases hp
   .cases hp
 .cases hp
section types
variable {t:TypeId} {ti:np} (ht:ma P t ti)
include ht
theorem ma.size:(sizeOf t).run P w= .ok ti.size w:=by
 obtain⟨info,d,z,h1,h2,h3,h4,h5,h6,h7,h8⟩:=ht.ex;simp[sizeOf,typeInfo,h1,h3]
theorem ma.agg:(isAgg t).run P w= .ok ti.agg w:=by
 obtain⟨info,d,z,h1,h2,h3,h4,h5,h6,h7,h8⟩:=ht.ex;rw[<- h7];cases d<;>simp[isAgg,run_underlying h2,s8]
theorem ma.zeroV:∃z,(zeroValue t).run P w= .ok z w/\z.cells.toList=ti.zero:=by
 obtain⟨info,d,z,h1,h2,h3,h4,h5,h6,h7,h8⟩:=ht.ex;exact⟨z,by simp[zeroValue,typeInfo,h1,h5],h6⟩
end types
theorem addr_add(b o n:Nat):(⟨b,o,none⟩:Addr).add n=⟨b,o+n,none⟩:=by unfold Addr.add;split<;>simp_all
theorem Hg{t:TypeId}{ti:np}(ht:ma P t ti){b o:Nat}{cs:U AV}{v:AV}{vs:U Value}(hp:part' ti.agg ti.size cs=some v)(hr:bj P β w I cs vs)
 (hc:∀j u,vs[j]? =some u->w.cell? ⟨b,o+j,none⟩=some u):∃u,(loadVar t ⟨b,o,none⟩).run P w= .ok u w/\VR P β w I v u:=by
 have⟨h1,h2,h3,h4⟩:=Lj hp hr;unfold loadVar;simp only[Sem.run_bind,ht.agg (w:=w),Result.andThen_ok];cases hag:ti.agg with
 |true=>
  refine⟨.agg vs.toArray,?_,h3 hag⟩;simp only[if_true,Sem.run_bind,ht.size (w:=w),Result.andThen_ok];rw[<- h2,run_loadCells_list w ⟨b,o,none⟩ vs (λ j u hj=>by rw[addr_add];exact hc j u hj)];simp
 |false=>
  obtain⟨u,rfl,hu⟩:=h4 hag;refine⟨u,?_,hu⟩;have:=hc 0 u rfl;simp only[Nat.add_zero]at this;simp[this]
theorem Rl(hT:fe P T)(h:Mem P w0 O0 β I obj w){t:TypeId}{x:AV}{cL:ka}{get:Nat->J aT}{ab:Out}{v:Value}(hg:∀k o,get k=some o->obj k=some o)
 (ha:KR T t x cL get=some ab) (cV:ab.ob) (hx:VR P β w I x v):∃u,(Instr.loadAt t v).run P w= .ok u w/\VR P β w I ab.v u/\ab.upd=[]:=by
 unfold KR at ha;cases hti:T t with
 |none=>simp[hti]at ha
 |some ti=>
  have ht:=hT t ti hti;simp only[hti,af]at ha;cases x<;>simp only[reduceCtorEq]at ha
  case ptr k row aa=>
   cases hk:get k with
   |none=>simp[hk]at ha
   |some o=>
    simp only[hk,af]at ha;have key:∀r,o.rows[row]? =some r->∀u,part' ti.agg ti.size ((r.drop aa).take ti.size)=some u->∃z,(Instr.loadAt t v).run P w= .ok z w/\VR P β w I u z:=by
     intro r hr u hp;simp only[VR]at hx;obtain⟨b,sz,n,h1,rfl⟩:=hx;have⟨B,hB,hO⟩:=h.cP k o (hg k o hk);rw[h1]at hB;cases hB;obtain⟨hs,c,e,hc,_,hO⟩:=hO;have h4:=(bp.get row _ _ _ _ _ hO hr).2;obtain⟨vs,g1,g2,g3⟩:=dc.list _ _ _ (dc.take ti.size _ _ _ (dc.drop aa _ _ _ h4));obtain⟨z,hz,hz2⟩:=Hg ht (b:=b) (o:=n.s+row*sz+aa) hp g1 (λ j u hj=>by simp[World.cell?,hc,g3 j u hj]);exact⟨z,by simp[Instr.loadAt,Instr.sureAddr,hz],hz2⟩
    have fin:∀r ob,o.rows[row]? =some r->((part' ti.agg ti.size ((r.drop aa).take ti.size)).bind λv=>some (⟨v,[],ob⟩:Out))=some ab->∃u,(Instr.loadAt t v).run P w= .ok u w/\VR P β w I ab.v u/\ab.upd=[]:=by
     intro r ob hr hh;cases hp:part' ti.agg ti.size ((r.drop aa).take ti.size)with
     |none=>simp[hp]at hh
     |some u=>
      simp only[hp,af,aA]at hh;subst hh;have⟨z,hz⟩:=key r hr u hp;exact⟨z,hz.1,hz.2,rfl⟩
    cases cL
    case row r=>
     have hr:o.rows[row]? =some r:=by
      cases hp:part' ti.agg ti.size ((r.drop aa).take ti.size)with
      |none=>simp[hp]at ha
      |some u=>simp only[hp,af,mN,aA]at ha;subst ha;exact cV
     exact fin r _ hr ha
    all_goals
     cases hr:o.rows[row]? with
     |none=>simp[hr]at ha
     |some r=>
      simp only[hr,af]at ha;exact fin r _ hr ha
  case eM r aa=>
   cases hp:part' ti.agg ti.size (((r.drop aa).take ti.size).map AV.t)with
   |none=>rw[hp]at ha;simp at ha
   |some u=>
    simp only[hp,af,pv,aA]at ha;subst ha;simp only[VR]at hx;obtain⟨b,o,rfl,hI,hr⟩:=hx;have hdrop:∀(n:Nat) (r:U Tree) (o:Nat),d8 w I r b o->d8 w I (r.drop n) b (o+n):=by
     intro n
     induction n with
     |zero=>intro r o h;simpa using h
     |succ n ih=>intro r o h;cases r with
      |nil=>simp[d8]
      |cons x xs=>simp only[d8]at h;rw[List.drop_succ_cons,show o+(n+1)=o+1+n by omega];exact ih xs (o+1) h.2
    have htake:∀(n:Nat) (r:U Tree) (o:Nat),d8 w I r b o->d8 w I (r.take n) b o:=by
     intro n
     induction n with
     |zero=>intro r o h;simp[d8]
     |succ n ih=>intro r o h;cases r with
      |nil=>simp[d8]
      |cons x xs=>simp only[d8]at h;simp only[List.take_succ_cons,d8];exact⟨h.1,ih xs (o+1) h.2⟩
    obtain⟨vs,g1,g3⟩:=d8.list (P:=P) (β:=β) _ _ _ (htake ti.size _ _ (hdrop aa r o hr));have⟨z,hz,hz2⟩:=Hg ht (b:=b) (o:=o+aa) hp g1 g3;exact⟨z,by simp[Instr.loadAt,Instr.sureAddr,hz],hz2,rfl⟩
theorem ac5(r:U AV)(aa:Nat)(cs:U AV)(h:aa+cs.length<=r.length):(put' r aa cs).length=r.length:=by simp[put',length_take,length_drop];omega
theorem ak1(r:U AV)(aa:Nat)(cs:U AV)(h:aa+cs.length<=r.length)(j:Nat):(put' r aa cs)[j]? =if j<aa then r[j]? else if j<aa+cs.length then cs[j -aa]? else r[j]? :=by
 unfold put';have h1:(r.take aa).length=aa:=by simp[length_take];omega
 split
 .rw[aM,List.getElem?_append_left (by omega),List.getElem?_take];simp[*]
 .split
  .rw[aM,jw (by omega),h1,List.getElem?_append_left (by omega)]
  .rw[jw (by simp;omega)];simp only[dM,h1,List.getElem?_drop];congr 1;omega
theorem Pj(h:Mem P w0 O0 β I obj w){t:TypeId}{ti:np}(ht:ma P t ti){k:Nat}{o:aT}{b sz:Nat}{n:Ex}(hk:obj k=some o)(hβ:β k=some (.at b sz n))
 {row aa:Nat} {r:U AV} {cs:U AV} {v:Value} (hr:o.rows[row]? =some r) (hl:aa+cs.length<=r.length) (hlen:cs.length=ti.size) (hcs:bj P β w I cs v.cells.toList) (h1:∀u∈v.cells.toList,oneCell u):
 ∃w',(storeVar t ⟨b,n.s+row*sz+aa,none⟩ v).run P w= .ok () w'/\Same I w w'/\Mem P w0 O0 β I (dm obj [(k,some ⟨o.sz,o.rows.set row (put' r aa cs)⟩)]) w':=by
 have⟨B,hB,hO⟩:=h.cP k o hk;rw[hβ]at hB;cases hB;obtain⟨hs,c,e,hc,hn,hO⟩:=hO;have hO':=hO;rw[ow]at hO;have hrow:=hO row r hr;have hvl:=bj.length _ _ hcs;have hfit:n.s+row*sz+aa+cs.length<=c.size:=by
  by_cases h0:r.length=0
  .have:aa+cs.length=0:=(by omega);have hz:sz=0:=(by omega);have:row*sz=0:=(by rw[hz];simp);have:=n.h;omega
  .have hlast:=(jo _ _ _).1 hrow.2 (r.length -1) _ (dQ (by omega));obtain⟨u,hu,_⟩:=hlast;have:=(Array.getElem?_eq_some_iff.1 hu).1;omega
 have hst:=run_storeCells_at P b (n.s+row*sz+aa) e v.cells.toList 0 c w hc (by omega) (λ u hu=>by
  have:=h1 u hu;cases u<;>first |rfl |exact this.elim)
 simp only[Nat.add_zero]at hst;generalize hc':(List.take (n.s+row*sz+aa) c.toList++v.cells.toList++List.drop (n.s+row*sz+aa+v.cells.toList.length) c.toList).toArray=c' at hst;have hsize:c'.size=c.size:=by rw[<- hc'];simp[length_take,length_drop];simp at hvl;omega
 refine⟨w.setRow b c',?_,?_⟩
 .unfold storeVar;simp only[Sem.run_bind,ht.size (w:=w),Result.andThen_ok];rw[aS (by rw[<- Array.length_toList];omega)];simp only[hst]
 .have hget:∀j,c'[j]? =if j<n.s+row*sz+aa then c[j]? else if j<n.s+row*sz+aa+cs.length then v.cells.toList[j -(n.s+row*sz+aa)]? else c[j]? :=by
   intro j;rw[<- hc'];have h1:(c.toList.take (n.s+row*sz+aa)).length=n.s+row*sz+aa:=(by simp[length_take];omega);simp only[List.getElem?_toArray];split
   .rw[aM,List.getElem?_append_left (by omega),List.getElem?_take,aX (by omega)];simp
   .split
    .rw[aM,jw (by omega),h1,List.getElem?_append_left (by omega)]
    .rw[jw (by simp only[dM,h1];omega)];simp only[dM,h1,List.getElem?_drop,Array.getElem?_toList];congr 1;omega
  refine Mem.write h hk hβ (c':=c') (e:=e) (setRow_heap w b c c' e (0,0) hc) (λ b' hb=>setRow_other w b b' c' hb) (by simp) rfl rfl rfl hs (by omega) ?_;rw[<- hs,ow];simp only;intro i' r' hi';rw[List.getElem?_set]at hi';have other:∀(i':Nat)(r':U AV),i'≠row->o.rows[i']? =some r'->r'.length=sz/\dc P β w I r' c' (n.s+i'*sz):=by
   intro i' r' hne hi';have hh:=hO i' r' hi';refine⟨hh.1,?_⟩;rw[jo];intro j x hx;obtain⟨u,hu⟩:=(jo _ _ _).1 hh.2 j x hx;have hj:j<sz:=(by have:=(dH.1 hx).1;omega);refine⟨u,?_,hu.2⟩;rw[hget];rcases Nat.lt_or_gt_of_ne hne with hlt |hgt
   .have:(i'+1)*sz<=row*sz:=Nat.mul_le_mul_right _ hlt;rw[Nat.add_mul]at this;rw[aX (by omega)];exact hu.1
   .have:(row+1)*sz<=i'*sz:=Nat.mul_le_mul_right _ hgt;rw[Nat.add_mul]at this;rw[aS (by omega),aS (by omega)];exact hu.1
  split at hi'
  .rename_i hrow';subst hrow';split at hi'
   .injection hi' with hi';subst hi';refine⟨by rw[ac5 r aa cs hl];exact hrow.1,?_⟩;rw[jo];intro j x hx;rw[ak1 r aa cs hl]at hx;rw[hget];split at hx
    .rw[aX (by omega)];exact(jo _ _ _).1 hrow.2 j x hx
    .split at hx
     .obtain⟨u,hu,hr2⟩:=bj.get _ _ _ _ hcs hx;rw[aS (by omega),aX (by omega)];refine⟨u,?_,hr2,h1 u (dw hu)⟩;rw[<- hu];congr 1;omega
     .rw[aS (by omega),aS (by omega)];exact(jo _ _ _).1 hrow.2 j x hx
   .cases hi'
  .exact other i' r' (by omega) hi'
theorem aaY(hT:fe P T)(h:Mem P w0 O0 β I obj w){t:TypeId}{x y:AV}{cL:ka}{get:Nat->J aT}{ab:Out}{v u:Value}(hg:∀k o,get k=some o->obj k=some o)
 (ha:UU T t x y cL get=some ab) (cV:ab.ob) (hx:VR P β w I x v) (hy:VR P β w I y u):
 ∃w',(Instr.storeAt t v u).run P w= .ok () w'/\Same I w w'/\Mem P w0 O0 β I (dm obj ab.upd) w'/\ab.v= .undef:=by
 unfold UU at ha;cases hti:T t with
 |none=>simp[hti]at ha
 |some ti=>
  have ht:=hT t ti hti;simp only[hti,af]at ha;cases hcs:cellsOf y with
  |none=>simp[hcs]at ha
  |some cs=>
   simp only[hcs,af]at ha;have⟨hv1,hv2⟩:=AX hcs hy;split at ha
   .rename_i hlen;cases x<;>simp only[reduceCtorEq]at ha
    case ptr k row aa=>
     cases hk:get k with
     |none=>simp[hk]at ha
     |some o=>
      simp only[hk,af]at ha;simp only[VR]at hx;obtain⟨b,sz,n,hβ,rfl⟩:=hx;have fin:∀r,o.rows[row]? =some r->aa+cs.length<=r.length->∃w',(Instr.storeAt t (.pointer (some ⟨b,n.s+row*sz+aa,none⟩)) u).run P w= .ok () w'/\Same I w w'/\Mem P w0 O0 β I (dm obj [(k,some ⟨o.sz,o.rows.set row (put' r aa cs)⟩)]) w':=by
       intro r hr hl;have⟨w',h1,h2,h3⟩:=Pj h ht (hg k o hk) hβ hr hl hlen hv1 hv2;exact⟨w',by simp[Instr.storeAt,Instr.sureAddr,h1],h2,h3⟩
      cases cL
      case set r rs=>
       simp only at ha;split at ha
       .rename_i hl;cases ha;obtain⟨hr,hrs⟩:=cV;have⟨w',h1,h2,h3⟩:=fin r hr hl;subst hrs;exact⟨w',h1,h2,h3.ws,rfl⟩
       .cases ha
      all_goals
       cases hr:o.rows[row]? with
       |none=>simp[hr]at ha
       |some r=>
        simp only[hr,af]at ha;split at ha
        .rename_i hl;cases ha;have⟨w',h1,h2,h3⟩:=fin r hr hl;exact⟨w',h1,h2,h3,rfl⟩
        .cases ha
   .cases ha
end
section
variable {P:Program} {T:eo} {w0:World} {O0:ky} {β:Nat->Option cT} {I:Nat->Prop} {obj:Nat->Option aT} {w:World} {i:Nat}
theorem Mt(h:Mem P w0 O0 β I obj w)(hn:β (cR i)=none){e:TypeId}{v:Value}{cs:U AV}(hcs:bj P β w I cs v.cells.toList)(h1:∀u∈v.cells.toList,oneCell u):
 ∃w' β',(newVar e v).run P w= .ok ⟨w.heap.size,0,none⟩ w'/\Step β I w (cR i) β' I w'/\Mem P w0 O0 β' I (dm obj [(cR i,some ⟨cs.length,[cs]⟩)]) w'/\VR P β' w' I (.ptr (cR i) 0 0) (.pointer (some ⟨w.heap.size,0,none⟩)):=by
 obtain⟨hS,hM⟩:=Mem.alloc (o:=⟨cs.length,[cs]⟩) (c:=v.cells) (e:=e) h hn (by
  simp only[bp,and_true,true_and];exact dc.oy cs _ _ 0 hcs h1 (λ j u hj=>by simpa using hj))
 refine⟨_,_,?_,hS,hM,?_⟩
 .simp only[newVar,newRow,Sem.run_bind,run_newObj,Result.andThen_ok,Sem.run_pure];rfl
 .simp only[VR];exact⟨w.heap.size,cs.length,_,by simp[ins];rfl,by simp⟩
theorem aaZ(hT:fe P T)(h:Mem P w0 O0 β I obj w)(hn:β (cR i)=none){e:TypeId}{ab:Out}(ha:UY T i e=some ab):
 ∃u w' β',(Instr.alloc e true (.tuple #[])).run P w= .ok u w'/\Step β I w (cR i) β' I w'/\Mem P w0 O0 β' I (dm obj ab.upd) w'/\VR P β' w' I ab.v u:=by
 unfold UY at ha;cases hti:T e with
 |none=>simp[hti]at ha
 |some ti=>
  have ht:=hT e ti hti;simp only[hti,af,aA]at ha;subst ha;have⟨z,hz,hz2⟩:=ht.zeroV (w:=w);obtain⟨w',β',h1,h2,h3,h4⟩:=Mt (i:=i) (e:=e) (v:=z) (cs:=ti.zero.map cv) h hn (by rw[hz2];exact bj.cv _) (λ u hu=>sO (all_eq_true.1 ht.one u (hz2 ▸ hu)));have hl:(ti.zero.map cv).length=ti.size:=by simp[ht.len]
  rw[hl]at h3;exact⟨_,w',β',by simp[Instr.alloc,hz,h1],h2,h3,h4⟩
theorem afW(h:Mem P w0 O0 β I obj w)(hn:β (cR i)=none){e:TypeId}{x:AV}{v:Value}{ab:Out}(ha:Lk i x=some ab)(hx:VR P β w I x v):
 ∃u w' β',(Instr.box e v).run P w= .ok u w'/\Step β I w (cR i) β' I w'/\Mem P w0 O0 β' I (dm obj ab.upd) w'/\VR P β' w' I ab.v u:=by
 unfold Lk at ha;cases hcs:cellsOf x with
 |none=>simp[hcs]at ha
 |some cs=>
  simp only[hcs,af,aA]at ha;subst ha;have⟨hv1,hv2⟩:=AX hcs hx;have⟨w',β',h1,h2,h3,h4⟩:=Mt (i:=i) (e:=e) h hn hv1 hv2;exact⟨_,w',β',by simp[Instr.box,h1],h2,h3,h4⟩
theorem ac6(hT:fe P T){t:TypeId}{f aa:Nat}{ui:np}(hf:zT T t f=some (aa,ui)):
 ∃(fa:Array Field)(fd:Field),P.underlying t=some (.struct fa)/\fa[f]? =some fd/\fd.offset=aa/\ma P fd.type ui/\ui.size≠0:=by
 unfold zT at hf;cases hti:T t with
 |none=>simp[hti]at hf
 |some ti=>
  have ht:=hT t ti hti;simp only[hti,af]at hf;cases hk:ti.k<;>simp only[hk,reduceCtorEq]at hf
  case struct fs=>
   cases hj:fs[f]? with
   |none=>simp[hj]at hf
   |some p=>
    obtain⟨o,u⟩:=p;simp only[hj,af]at hf;cases hu:T u with
    |none=>simp[hu]at hf
    |some ui'=>
     simp only[hu,af]at hf;split at hf
     .cases hf
     .rename_i hne;simp only[aA,Prod.mk.injEq]at hf;obtain⟨rfl,rfl⟩:=hf;obtain⟨info,d,z,h1,h2,h3,h4,h5,h6,h7,h8⟩:=ht.ex;rw[hk]at h8;obtain⟨fa,rfl,hfs⟩:=h8;rw[<- hfs]at hj;simp only[List.getElem?_map,Array.getElem?_toList,dN,Prod.mk.injEq]at hj;obtain⟨fd,g1,g2,g3⟩:=hj;exact⟨fa,fd,h2,g1,g2,g3 ▸ hT u _ hu,hne⟩
theorem Pk(hT:fe P T){t:TypeId}{x:AV}{f:Nat}{v:Value}{ab:Out}(ha:yB T t x f=some ab)(hx:VR P β w I x v):
 ∃u,(Instr.fieldAt t v f).run P w= .ok u w/\VR P β w I ab.v u/\ab.upd=[]:=by
 unfold yB at ha;cases hf:zT T t f with
 |none=>simp[hf]at ha
 |some p=>
  obtain⟨d,ui⟩:=p;simp only[hf,af]at ha;have⟨fa,fd,h1,h2,h3,h4,h5⟩:=ac6 hT hf;have hrun:∀b o,(Instr.fieldAt t (.pointer (some ⟨b,o,none⟩)) f).run P w= .ok (.pointer (some ⟨b,o+d,none⟩)) w:=λb o=>by simp[Instr.fieldAt,run_underlying h1,h2,Instr.sureAddr,fieldPlace,h4.size (w:=w),h5,h3,addr_add]
  cases x<;>simp only[reduceCtorEq]at ha
  case ptr k row aa=>
   simp only[pv,aA]at ha;subst ha;simp only[VR]at hx ⊢;obtain⟨b,sz,n,g1,rfl⟩:=hx;exact⟨_,hrun _ _,⟨b,sz,n,g1,by rw[Nat.add_assoc]⟩,trivial⟩
  case eM r aa=>
   simp only[pv,aA]at ha;subst ha;simp only[VR]at hx ⊢;obtain⟨b,o,rfl,g1,g2⟩:=hx;exact⟨_,hrun _ _,⟨b,o,by rw[Nat.add_assoc],g1,g2⟩,trivial⟩
theorem ac7{t:TypeId}{ti:np}(ht:ma P t ti){cs:U AV}{vs:U Value}{d:Nat}{v:AV}(hp:part' ti.agg ti.size ((cs.drop d).take ti.size)=some v)(hr:bj P β w I cs vs):
 ∃u,(part t vs.toArray d).run P w= .ok u w/\VR P β w I v u:=by
 obtain⟨h1,h2,h3,h4⟩:=Lj hp (bj.take ti.size _ _ (bj.drop d _ _ hr));unfold Go.part;simp only[Sem.run_bind,ht.agg (w:=w),Result.andThen_ok];cases hag:ti.agg with
 |true=>
  refine⟨.agg ((vs.drop d).take ti.size).toArray,?_,h3 hag⟩;simp only[if_true,Sem.run_bind,ht.size (w:=w),Result.andThen_ok,Sem.run_pure];congr 2;apply Array.ext';simp[List.extract_eq_take_drop]
 |false=>
  have⟨u,hu,hv⟩:=h4 hag;refine⟨u,?_,hv⟩;have:vs[d]? =some u:=by
   have h5:((vs.drop d).take ti.size)[0]? =some u:=(by rw[hu];rfl);rw[List.getElem?_take]at h5;split at h5
   .simpa using h5
   .cases h5
  simp[this]
theorem aa0(hT:fe P T){t:TypeId}{x:AV}{f:Nat}{v:Value}{ab:Out}(ha:UW T t x f=some ab)(hx:VR P β w I x v):
 ∃u,(Instr.field t v f).run P w= .ok u w/\VR P β w I ab.v u/\ab.upd=[]:=by
 unfold UW at ha;cases hf:zT T t f with
 |none=>simp[hf]at ha
 |some p=>
  obtain⟨d,ui⟩:=p;simp only[hf,af]at ha;have⟨fa,fd,h1,h2,h3,h4,h5⟩:=ac6 hT hf;cases x<;>simp only[reduceCtorEq]at ha
  case agg cs=>
   cases hp:part' ui.agg ui.size ((cs.drop d).take ui.size)with
   |none=>simp[hp]at ha
   |some y=>
    simp only[hp,af,pv,aA]at ha;subst ha;simp only[VR]at hx;obtain⟨vs,rfl,hvs⟩:=hx;have⟨u,hu,hv⟩:=ac7 h4 hp hvs;refine⟨u,?_,hv,rfl⟩;simp[Instr.field,run_underlying h1,h2,h3,asAgg];simpa using hu
theorem cJ.get{b sz:Nat}:∀(n:Nat)(rows:U (List Tree))(aa:Nat)(r:U Tree),cJ w I rows b aa sz->rows[n]? =some r->r.length=sz/\d8 w I r b (aa+n*sz)
 | 0,r::rs,aa,r',h,hn=>by simp only[cJ]at h;simp at hn;subst hn;exact⟨h.1,by simpa using h.2.1⟩
 |n+1,r::rs,aa,r',h,hn=>by
  simp only[cJ]at h;have:=cJ.get n rs (aa+sz) r' h.2.2 (by simpa using hn);rw[show aa+(n+1)*sz=aa+sz+n*sz by rw[Nat.add_mul];omega];exact this
 |_,[],_,_,_,hn=>by simp at hn
theorem gW{t e:TypeId}{ti:np}(ht:ma P t ti)(hk:ti.k= .slice e):P.underlying t=some (.slice e):=by
 obtain⟨info,d,z,h1,h2,h3,h4,h5,h6,h7,h8⟩:=ht.ex;rw[hk]at h8;rw[h2,h8]
theorem Mv{t e:TypeId}{n:Nat}{ti:np}(ht:ma P t ti)(hk:ti.k= .arr n e):P.underlying t=some (.array n e):=by
 obtain⟨info,d,z,h1,h2,h3,h4,h5,h6,h7,h8⟩:=ht.ex;rw[hk]at h8;rw[h2,h8]
theorem Pm(hT:fe P T)(h:Mem P w0 O0 β I obj w){t:TypeId}{x j:AV}{cL:ka}{get:Nat->J aT}{v u:Value}{ab:Out}(hg:∀k o,get k=some o->obj k=some o)
 (ha:l5 T t x j cL get=some ab) (cV:ab.ob) (hx:VR P β w I x v) (hj:VR P β w I j u):
 ∃z,(Instr.indexAt t v u).run P w= .ok z w/\VR P β w I ab.v z/\ab.upd=[]:=by
 unfold l5 at ha;cases hti:T t with
 |none=>simp[hti]at ha
 |some ti=>
  have ht:=hT t ti hti;simp only[hti,af]at ha;split at ha
  .rename_i e kd n hk;simp only[VR,TR]at hj;obtain⟨rfl,_⟩:=hj;have fj:=gW ht hk;cases fS:T e with
   |none=>simp[fS]at ha
   |some ei=>
    have he:=hT e ei fS;simp only[fS,af]at ha;have hrun:∀(b o len cap:Nat),0<=n->n.toNat<len->(Instr.indexAt t (.slice (some ⟨b,o,none⟩) len cap) (.int kd n)).run P w= .ok (.pointer (some ⟨b,o+n.toNat*ei.size,none⟩)) w:=by
     intro b o len cap h0 h1;have h2:n<(len:Int):=(by omega);simp[Instr.indexAt,asIntOf,run_underlying fj,h0,h2,he.size (w:=w),addr_add]
    split at ha
    .rename_i rows r;split at ha
     .rename_i hlen;simp only[mN,aA]at ha;subst ha;obtain⟨h0,hr⟩:=cV;simp only[VR,TR]at hx;rcases hx with ⟨rfl,_⟩ |⟨b,aa,cap,sz,rfl,h1,h2,h3⟩
      .simp at hr
      .have hlt:=(dH.1 hr).1;obtain⟨g1,g2⟩:=cJ.get _ _ _ _ h3 hr;refine⟨_,hrun _ _ _ _ h0 hlt,?_,rfl⟩;simp only[VR];exact⟨b,aa+n.toNat*sz,by rw[<- g1,hlen];rfl,h2,g2⟩
     .cases ha
    .rename_i k aa len;cases hk2:get k with
     |none=>simp[hk2]at ha
     |some o=>
      simp only[hk2,af]at ha;split at ha
      .rename_i hsz;simp only[mN,aA]at ha;subst ha;obtain⟨h0,hlt⟩:=cV;simp only[VR]at hx ⊢;rcases hx with ⟨_,_,_,rfl⟩ |⟨b,sz,m,cap,a,h1,rfl,h2,h3,h4⟩
       .omega
       .have⟨B,hB,hO⟩:=h.cP k o (hg k o hk2);rw[h1]at hB;cases hB;have hs:sz=o.sz:=hO.1;refine⟨_,hrun _ _ _ _ h0 hlt,⟨b,sz,m,h1,?_⟩,trivial⟩;rw[h4 (by omega),hs,hsz,Nat.add_mul,Nat.add_assoc];rfl
      .cases ha
    .cases ha
  .rename_i m e kd n hk;simp only[VR,TR]at hj;obtain⟨rfl,_⟩:=hj;have fj:=Mv ht hk;cases fS:T e with
   |none=>simp[fS]at ha
   |some ei=>
    have he:=hT e ei fS;simp only[fS,af]at ha;have hrun:∀(b o:Nat),0<=n->n.toNat<m->(Instr.indexAt t (.pointer (some ⟨b,o,none⟩)) (.int kd n)).run P w= .ok (.pointer (some ⟨b,o+n.toNat*ei.size,none⟩)) w:=by
     intro b o h0 h1;have h2:n<(m:Int):=(by omega);simp[Instr.indexAt,asIntOf,run_underlying fj,Instr.sureAddr,h0,h2,he.size (w:=w),addr_add]
    cases x<;>simp only[reduceCtorEq]at ha
    case ptr k row aa=>
     simp only[mN,aA]at ha;subst ha;simp only[VR]at hx ⊢;obtain⟨b,sz,q,g1,rfl⟩:=hx;exact⟨_,hrun _ _ cV.1 cV.2,⟨b,sz,q,g1,by rw[Nat.add_assoc]⟩,trivial⟩
    case eM r aa=>
     simp only[mN,aA]at ha;subst ha;simp only[VR]at hx ⊢;obtain⟨b,o,rfl,g1,g2⟩:=hx;exact⟨_,hrun _ _ cV.1 cV.2,⟨b,o,by rw[Nat.add_assoc],g1,g2⟩,trivial⟩
  .cases ha
theorem U2{x:AV}{j:Nat}{v:Value}{ab:Out}(ha:Hf x j=some ab)(hx:VR P β w I x v):∃u,(Instr.extract v j).run P w= .ok u w/\VR P β w I ab.v u/\ab.upd=[]:=by
 unfold Hf at ha;split at ha
 .rename_i vs;simp only[VR]at hx;obtain⟨us,rfl,yW⟩:=hx;cases hj:vs[j]? with
  |none=>simp[hj]at ha
  |some y=>
   simp only[hj,af,pv,aA]at ha;subst ha;obtain⟨u,hu,hv⟩:=bj.get _ _ j y yW hj;refine⟨u,?_,hv,rfl⟩;have:us[j]? =some u:=(by simpa using hu);simp[Instr.extract,this]
 .cases ha
end
section
variable {P:Program} {T:eo} {w0:World} {O0:ky} {β:Nat->Option cT} {I:Nat->Prop} {obj:Nat->Option aT} {w:World} {i:Nat}
theorem aa1{op:BinOp}{t:TypeId}{k yk:IntKind}{a b:Int}{v:Value}{ob:U Prop}(hk:k=yk\/op= .shl\/op= .shr)(h:UR op k a b=some (v,ob))(cV:jk ob):
 (binOp op t (.int k a) (.int yk b)).run P w= .ok v w/\oneCell v:=by
 cases op<;>simp only[UR,aA,Prod.mk.injEq]at h<;>obtain⟨rfl,rfl⟩:=h
 case shl=>exact⟨by rw[binOp_shl,shift_shl k yk a b cV.1 cV.2];simp,trivial⟩
 case shr=>exact⟨by rw[binOp_shr,shift_shr k yk a b cV.1 cV.2];simp,trivial⟩
 all_goals
  have hk':k=yk:=by rcases hk with h |h |h<;>first |exact h |cases h
  subst hk'
 case add=>exact⟨by simp[binOp_add,Op.intArith],trivial⟩
 case sub=>exact⟨by simp[binOp_sub,Op.intArith],trivial⟩
 case mul=>exact⟨by simp[binOp_mul,Op.intArith],trivial⟩
 case quo=>exact⟨by have h0:b≠0:=cV;rw[binOp_quo];simp[Op.intDiv,h0],trivial⟩
 case rem=>exact⟨by have h0:b≠0:=cV;rw[binOp_rem];simp[Op.intDiv,h0],trivial⟩
 case and=>exact⟨by rw[binOp_and,intBits_and];simp,trivial⟩
 case or=>exact⟨by rw[binOp_or,intBits_or];simp,trivial⟩
 case xor=>exact⟨by rw[binOp_xor,intBits_xor];simp,trivial⟩
 case andNot=>exact⟨by rw[binOp_andNot,intBits_andNot];simp,trivial⟩
 case eql=>exact⟨by rw[binOp_eql];simp,trivial⟩
 case neq=>exact⟨by rw[binOp_neq];simp,trivial⟩
 case lss=>exact⟨by rw[binOp_lss];simp,trivial⟩
 case leq=>exact⟨by rw[binOp_leq];simp,trivial⟩
 case gtr=>exact⟨by rw[binOp_gtr];simp,trivial⟩
 case geq=>exact⟨by rw[binOp_geq];simp,trivial⟩
theorem aa2{f:Field}{kd:Nat}{x y:AV}{b:Bool}{u v:Value}(hf:UQ P f kd=true)(h:Li kd x y=some b)(hx:VR P β w I x u)(hy:VR P β w I y v)(d:Nat):
 (Op.equalIn (d + 1) f.type u v).run P w = .ok b w /\ f.name ≠ "_" /\ (isAgg f.type).run P w = .ok false w := by
 unfold UQ at hf;simp only[aL,bne_iff_ne,ne_eq]at hf;obtain⟨hname,hf⟩:=hf;unfold Li at h;split at h
 .split at h
  .rename_i hk;subst hk;cases h;simp only[VR,TR]at hx hy;obtain⟨rfl,_⟩:=hx;obtain⟨rfl,_⟩:=hy;split at hf<;>first |(rename_i hu;exact⟨run_equalIn_int w d _ _ _ _ _ hu,hname,by simp[isAgg,run_underlying hu]⟩) |(simp at hf)
  .cases h
 .cases h;simp only[VR,TR]at hx hy;obtain⟨rfl,_⟩:=hx;obtain⟨rfl,_⟩:=hy;split at hf<;>first |(rename_i hu;exact⟨run_equalIn_bool w d _ _ _ hu,hname,by simp[isAgg,run_underlying hu]⟩) |(simp at hf)
 .cases h;simp only[VR,TR]at hx hy;obtain⟨rfl,_⟩:=hx;obtain⟨rfl,_⟩:=hy;split at hf<;>first |(rename_i hu;exact⟨run_equalIn_string w d _ _ _ hu,hname,by simp[isAgg,run_underlying hu]⟩) |(simp at hf)
 .cases h
theorem KS(d:Nat)(us vs:U Value):∀(fs:U Field)(ks:U Nat)(n:Nat)(xs ys:U AV)(b:Bool),gp P n fs ks=true->sP ks xs ys=some b->
 bj P β w I xs (us.drop n)->bj P β w I ys (vs.drop n)->(Op.eqFields (d+1) us.toArray vs.toArray fs).run P w= .ok b w
 |[],[],n,xs,ys,b,_,h,_,_=>by
  cases xs<;>cases ys<;>simp[sP]at h;subst h;simp[Op.eqFields]
 |f::fs,k::ks,n,xs,ys,b,hc,h,hx,hy=>by
  cases xs<;>cases ys<;>simp only[sP,reduceCtorEq]at h;rename_i x xs y ys;simp only[gp,aL,beq_iff_eq]at hc;obtain⟨⟨hoff,hcf⟩,hrest⟩:=hc;cases h1:Li k x y with
  |none=>simp[h1]at h
  |some a=>
   cases h2:sP ks xs ys with
   |none=>simp[h1,h2]at h
   |some c=>
    simp only[h1,h2,af,aA]at h;subst h;have yy:∀(us:U Value) (xs:U AV) (x:AV),bj P β w I (x::xs) (us.drop n)->∃u,us[n]? =some u/\VR P β w I x u/\bj P β w I xs (us.drop (n+1)):=by
     intro us xs x hx;have hlt:n<us.length:=by
      have:=bj.length _ _ hx;simp at this;omega
     rw[List.drop_eq_getElem_cons hlt]at hx;simp only[bj]at hx;exact⟨us[n],dQ hlt,hx.1,hx.2⟩
    obtain⟨u,hu,hxu,hxs⟩:=yy us xs x hx;obtain⟨v,hv,hyv,hys⟩:=yy vs ys y hy;have⟨e1,e2,e3⟩:=aa2 hcf h1 hxu hyv d;have ih:=KS d us vs fs ks (n+1) xs ys c hrest h2 hxs hys;have hp:∀(zs:U Value) (z:Value),zs[n]? =some z->(Go.part f.type zs.toArray f.offset).run P w= .ok z w:=by
     intro zs z hz;simp[Go.part,e3,hoff,hz]
    simp only[Op.eqFields,e2,ne_eq,not_false_eq_true,if_true,Sem.run_bind,hp us u hu,hp vs v hv,Result.andThen_ok,e1,Sem.run_ite,Sem.run_pure,ih];cases a<;>simp
 |[],_::_,_,_,_,_,hc,_,_,_=>by simp[gp]at hc
 |_::_,[],_,_,_,_,hc,_,_,_=>by simp[gp]at hc
theorem afX(hT:fe P T){op:BinOp}{t:TypeId}{x y:AV}{xo yo:Operand}{u v:Value}{ab:Out}(ha:YA T op t x y=some ab)(cV:ab.ob)(hx:VR P β w I x u)(hy:VR P β w I y v):
 ∃z,(do eqGuard op t xo yo u v;binOp op t u v:Sem Value).run P w= .ok z w/\VR P β w I ab.v z/\ab.upd=[]:=by
 unfold YA at ha;split at ha
 .rename_i k a yk b;simp only[VR,TR]at hx hy;obtain⟨rfl,_⟩:=hx;obtain⟨rfl,_⟩:=hy;split at ha
  .rename_i hk;cases har:UR op k a b with
   |none=>simp[har]at ha
   |some p=>
    obtain⟨z,ob⟩:=p;simp only[har,af,aA]at ha;subst ha;have⟨h1,h2⟩:=aa1 (P:=P) (w:=w) (t:=t) hk har cV;exact⟨z,by simp[eqGuard_at_int,h1],by simp only[VR,TR];exact⟨trivial,h2⟩,rfl⟩
  .cases ha
 .rename_i a b;simp only[VR,TR]at hx hy;obtain⟨rfl,_⟩:=hx;obtain⟨rfl,_⟩:=hy;cases op<;>simp only[pv,mN,aA,reduceCtorEq]at ha<;>subst ha
  .have hs:¬((a.size+b.size:Nat):Int)>i64.max:=by
    have:a.size+b.size<=maxLen:=cV;have h2:i64.max=9223372036854775807:=(by decide);unfold maxLen at this;omega
   exact⟨.string (a++b),by simp only[eqGuard_at_string,binOp,Op.stringOp,aS hs];simp,by simp only[VR,TR];exact⟨trivial,trivial⟩,rfl⟩
  .exact⟨.bool (a.toList==b.toList),by simp[eqGuard_at_string,binOp,Op.stringOp],by simp only[VR,TR];exact⟨trivial,trivial⟩,rfl⟩
  .exact⟨.bool (!(a.toList==b.toList)),by simp[eqGuard_at_string,binOp,Op.stringOp],by simp only[VR,TR];exact⟨trivial,trivial⟩,rfl⟩
  .exact⟨.bool (Op.bytesLess a.toList b.toList),by simp[eqGuard_at_string,binOp,Op.stringOp],by simp only[VR,TR];exact⟨trivial,trivial⟩,rfl⟩
  .exact⟨.bool (!(Op.bytesLess a.toList b.toList || a.toList==b.toList)),by simp[eqGuard_at_string,binOp,Op.stringOp],by simp only[VR,TR];exact⟨trivial,trivial⟩,rfl⟩
 .rename_i a b;simp only[VR,TR]at hx hy;obtain⟨rfl,_⟩:=hx;obtain⟨rfl,_⟩:=hy;cases hti:T t with
  |none=>simp[hti]at ha
  |some ti=>
   have ht:=hT t ti hti;simp only[hti,af]at ha;have fj:ti.k= .bool->P.underlying t=some .bool:=λhk=>by
    obtain⟨info,d,z,h1,h2,h3,h4,h5,h6,h7,h8⟩:=ht.ex;rw[hk]at h8;rw[h2,h8]
   split at ha
   .rename_i hk;simp only[pv,aA]at ha;subst ha;exact⟨.bool (a==b),by simp[eqGuard_at_bool,binOp,run_equal_bool w t a b (fj hk)],by simp only[VR,TR];exact⟨trivial,trivial⟩,rfl⟩
   .rename_i hk;simp only[pv,aA]at ha;subst ha;exact⟨.bool (!(a==b)),by simp[eqGuard_at_bool,binOp,run_equal_bool w t a b (fj hk)],by simp only[VR,TR];exact⟨trivial,trivial⟩,rfl⟩
   .cases ha
 .rename_i xs ys;simp only[VR]at hx hy;obtain⟨us,rfl,yW⟩:=hx;obtain⟨vs,rfl,hvs⟩:=hy;cases hti:T t with
  |none=>simp[hti]at ha
  |some ti=>
   have ht:=hT t ti hti;simp only[hti,af]at ha;split at ha
   .cases ha
   .rename_i hne;rcases ht.cmp hne with ⟨fa,h1,h2,h3,h4⟩ |⟨h9,_⟩
    rotate_left
    .rw[h9,akZ]at ha;simp at ha
    cases hc:sP ti.cmp xs ys with
    |none=>simp[hc]at ha
    |some b=>
     simp only[hc,af]at ha;have hfo:P.fieldsOf t=fa:=(by simp[Program.fieldsOf,h1]);have heq:(Op.equalIn 10000 t (.agg us) (.agg vs)).run P w= .ok b w:=by
      rw[run_equalIn_struct w 9999 t us vs (by rw[hfo];exact h1) h2,hfo];have:=KS (P:=P) (w:=w) 9998 us.toList vs.toList fa.toList ti.cmp 0 xs ys b h4 hc (by simpa using yW) (by simpa using hvs);simpa using this
     have hgd:∀op,(eqGuard op t xo yo (.agg us) (.agg vs)).run P w= .ok () w:=λop=>run_eqGuard_agg w op t xo yo us vs h3;cases op<;>simp only[pv,aA,reduceCtorEq]at ha<;>subst ha
     .exact⟨.bool b,by simp[hgd,run_eql_struct,heq],by simp only[VR,TR];exact⟨trivial,trivial⟩,rfl⟩
     .exact⟨.bool (!b),by simp[hgd,run_neq_struct,heq],by simp only[VR,TR];exact⟨trivial,trivial⟩,rfl⟩
 .cases ha
theorem aje{op:UnOp}{x:AV}{v:Value}{ab:Out}(ha:P2 op x=some ab)(hx:VR P β w I x v):∃z,(Op.unary op v).run P w= .ok z w/\VR P β w I ab.v z/\ab.upd=[]:=by
 unfold P2 at ha;split at ha
 .simp only[pv,aA]at ha;subst ha;simp only[VR,TR]at hx;obtain⟨rfl,_⟩:=hx;exact⟨_,by simp[Op.unary];rfl,by simp only[VR,TR];exact⟨trivial,trivial⟩,rfl⟩
 .simp only[pv,aA]at ha;subst ha;simp only[VR,TR]at hx;obtain⟨rfl,_⟩:=hx;exact⟨_,by simp only[Op.unary,Op.intArith];rfl,by simp only[VR,TR];exact⟨trivial,trivial⟩,rfl⟩
 .cases ha
theorem Mw(mx:Bool)(k:IntKind):∀(r:U AV)(vs:U Value)(a n:Int),D5 mx k a r=some n->bj P β w I r vs->
 (vs.foldlM (if mx then Builtin.max2 else Builtin.min2) (.int k a)).run P w= .ok (.int k n) w
 |[],[],a,n,h,_=>by simp only[D5,aA]at h;subst h;simp
 |x::r,v::vs,a,n,h,hv=>by
  simp only[bj]at hv;have hx:∃k' b,x= .t (.sc (.int k' b)):=by
   unfold D5 at h;split at h
   .cases ‹_::_=_›
   .rename_i heq;injection heq with h1 h2;exact⟨_,_,h1⟩
   .cases h
  obtain⟨k',b,rfl⟩:=hx;simp only[D5]at h;split at h
  .rename_i hk;subst hk;simp only[VR,TR]at hv;obtain⟨⟨rfl,_⟩,hv⟩:=hv;have ih:=Mw mx k' r vs _ n h hv;cases mx
   .simp only[Bool.false_eq_true,if_false]at ih ⊢;simp only[List.foldlM_cons,Builtin.min2,Sem.run_bind,Sem.run_pure,Result.andThen_ok];rw[show (if b<a then b else a)=min a b by rw[Int.min_def];split<;>split<;>omega];exact ih
   .simp only[if_true]at ih ⊢;simp only[List.foldlM_cons,Builtin.max2,Sem.run_bind,Sem.run_pure,Result.andThen_ok];rw[show (if b>a then b else a)=max a b by rw[Int.max_def];split<;>split<;>omega];exact ih
  .cases h
 |[],_::_,_,_,_,hv=>by simp[bj]at hv
 |_::_,[],_,_,_,hv=>by simp[bj]at hv
theorem ZG{mx:Bool}{args:U AV}{vs:Array Value}{cX:Array TypeId}{ty:TypeId}{ab:Out}(ha:G2 mx args=some ab)(hx:bj P β w I args vs.toList):
 ∃z,((if mx then Builtin.max_ else Builtin.min_) cX ty vs).run P w= .ok z w/\VR P β w I ab.v z/\ab.upd=[]:=by
 unfold G2 at ha;split at ha
 .rename_i k a r;cases hf:D5 mx k a r with
  |none=>simp[hf]at ha
  |some n=>
   simp only[hf,af,pv,aA]at ha;subst ha;cases hvs:vs.toList with
   |nil=>rw[hvs]at hx;simp[bj]at hx
   |cons v vs'=>
    rw[hvs]at hx;simp only[bj,VR,TR]at hx;obtain⟨⟨rfl,_⟩,hr⟩:=hx;have:=Mw (P:=P) mx k r vs' a n hf hr;refine⟨.int k n,?_,by simp only[VR,TR];exact⟨trivial,trivial⟩,rfl⟩;cases mx
    .simpa[Builtin.min_,hvs]using this
    .simpa[Builtin.max_,hvs]using this
 .cases ha
end
section
variable {P:Program} {T:eo} {w0:World} {O0:ky} {β:Nat->Option cT} {I:Nat->Prop} {obj:Nat->Option aT} {w:World} {i:Nat}
theorem afY(hT:fe P T){t ty:TypeId}{x:AV}{cL:ka}{v:Value}{ab:Out}(ha:AF T t x cL=some ab)(cV:ab.ob)(hx:VR P β w I x v):
 ∃z,(Builtin.len_ #[t] ty #[v]).run P w= .ok z w/\VR P β w I ab.v z/\ab.upd=[]:=by
 unfold AF at ha;cases hti:T t with
 |none=>simp[hti]at ha
 |some ti=>
  have ht:=hT t ti hti;simp only[hti,af]at ha;have hsl:∀e b n c,ti.k= .slice e->(Builtin.len_ #[t] ty #[.slice b n c]).run P w= .ok (goInt n) w:=λe b n c hk=>by simp[Builtin.len_,run_underlying (gW ht hk)]
  split at ha
  .rename_i e rows n hk;simp only[mN,aA]at ha;subst ha;have cV:n=_:=cV;subst cV;simp only[VR,TR]at hx;rcases hx with ⟨rfl,_,_,rfl,_⟩ |⟨b,aa,cap,sz,rfl,_⟩
   .exact⟨_,hsl _ _ _ _ hk,by simp only[VR,TR,goInt];exact⟨by simp,trivial⟩,rfl⟩
   .exact⟨_,hsl _ _ _ _ hk,by simp only[VR,TR,goInt];exact⟨trivial,trivial⟩,rfl⟩
  .rename_i e k aa len n hk;simp only[mN,aA]at ha;subst ha;have cV:n=_:=cV;subst cV;simp only[VR]at hx;rcases hx with ⟨_,rfl,_,rfl⟩ |⟨b,sz,m,cap,a,_,rfl,_⟩
   .exact⟨_,hsl _ _ _ _ hk,by simp only[VR,TR,goInt];exact⟨trivial,trivial⟩,rfl⟩
   .exact⟨_,hsl _ _ _ _ hk,by simp only[VR,TR,goInt];exact⟨trivial,trivial⟩,rfl⟩
  .rename_i e k aa len hk _;simp only[pv,aA]at ha;subst ha;simp only[VR]at hx;rcases hx with ⟨_,rfl,_,rfl⟩ |⟨b,sz,m,cap,a,_,rfl,_⟩
   .exact⟨_,hsl _ _ _ _ hk,by simp only[VR,TR,goInt];exact⟨trivial,trivial⟩,rfl⟩
   .exact⟨_,hsl _ _ _ _ hk,by simp only[VR,TR,goInt];exact⟨trivial,trivial⟩,rfl⟩
  .rename_i e k len hk;simp only[pv,aA]at ha;subst ha;simp only[VR]at hx;rcases hx with ⟨rfl,rfl⟩ |⟨_,b,sz,m,cap,a,_,rfl,_⟩
   .exact⟨_,hsl _ _ _ _ hk,by simp only[VR,TR,goInt];exact⟨trivial,trivial⟩,rfl⟩
   .exact⟨_,hsl _ _ _ _ hk,by simp only[VR,TR,goInt];exact⟨trivial,trivial⟩,rfl⟩
  .rename_i e hk;simp only[pv,aA]at ha;subst ha;simp only[VR]at hx;subst hx;exact⟨_,hsl _ _ _ _ hk,by simp only[VR,TR,goInt];exact⟨by simp,trivial⟩,rfl⟩
  .rename_i s hk;simp only[pv,aA]at ha;subst ha;simp only[VR,TR]at hx;obtain⟨rfl,_⟩:=hx;have fj:P.underlying t=some .string:=by
    obtain⟨info,d,z,h1,h2,h3,h4,h5,h6,h7,h8⟩:=ht.ex;rw[hk]at h8;rw[h2,h8]
   exact⟨_,by simp[Builtin.len_,run_underlying fj];rfl,by simp only[VR,TR,goInt];exact⟨trivial,trivial⟩,rfl⟩
  .cases ha
theorem ZH(vs:U Value)(aa:Nat):∀(ps:U Value)(n:Nat)(cs:Array Value),aa+n+ps.length<=cs.size->
 (ps.zipIdx n).foldl (λ cs (c,j)=>cs.setIfInBounds (aa+j) c) cs=((cs.toList.take (aa+n))++ps++cs.toList.drop (aa+n+ps.length)).toArray
 |[],n,cs,_=>by simp
 |p::ps,n,cs,h=>by
  simp only[bC]at h;rw[List.zipIdx_cons,List.foldl_cons,ZH vs aa ps (n+1) _ (by simp;omega)];congr 1;rw[Array.toList_setIfInBounds];have h1:aa+n<cs.toList.length:=by simp;omega
  rw[show aa+(n+1)=aa+n+1 by omega,iJ (by simpa using h1)];rw[List.take_set,List.set_eq_of_length_le (by simp;omega)];simp only[List.getElem_set_self,aM,bC,cons_append,bT];congr 3;rw[List.drop_set_of_lt (by omega)];congr 1;omega
theorem ant{cells cs:U AV}{us vs:U Value}{aa:Nat}(h1:bj P β w I cells us)(h2:bj P β w I cs vs):bj P β w I (put' cells aa cs) (us.take aa++vs++us.drop (aa+vs.length)):=by
 unfold put';rw[bj.length _ _ h2];exact bj.append _ _ _ _ (bj.append _ _ _ _ (bj.take _ _ _ h1) h2) (bj.drop _ _ _ h1)
theorem zV{place pb:Nat->J (Nat×Nat)}(hpl:∀j p,place j=some p->pb j=some p):∀(parts:U (Nat×AV))(vs:U (Nat×Value))(cells:U AV)(us:Array Value)(ab:U AV),
 FD place cells parts=some ab->bj P β w I cells us.toList->parts.map (·.1)=vs.map (·.1)->bj P β w I (parts.map (·.2)) (vs.map (·.2))->
 ∃zs,Instr.fill pb us vs=some zs/\bj P β w I ab zs.toList
 |[],[],cells,us,ab,h,hc,_,_=>by simp only[FD,aA]at h;subst h;exact⟨us,rfl,hc⟩
 |(j,x)::ag,(j',v)::vs,cells,us,ab,h,hc,hk,hv=>by
  simp only[aF,List.cons.injEq]at hk;obtain⟨rfl,hk⟩:=hk;simp only[aF,bj]at hv;simp only[FD]at h;cases hp:place j with
  |none=>simp[hp]at h
  |some p=>
   obtain⟨aa,size⟩:=p;simp only[hp,af]at h;cases hcs:cellsOf x with
   |none=>simp[hcs]at h
   |some cs=>
    simp only[hcs,af]at h;split at h
    .rename_i hl;have⟨g1,g2⟩:=AX hcs hv.1;have hlen:=bj.length _ _ g1;have hlc:=bj.length _ _ hc;simp only[Array.length_toList]at hlen hlc;have hnew:=ant (aa:=aa) hc g1;have:=zV hpl ag vs _ (us.toList.take aa++v.cells.toList++us.toList.drop (aa+v.cells.toList.length)).toArray ab h (by simpa using hnew) hk hv.2;obtain⟨zs,hz,hz2⟩:=this;refine⟨zs,?_,hz2⟩;simp only[Instr.fill,hpl j _ hp];have hsz:v.cells.size=size:=(by omega);have hno:¬(v.cells.size≠size\/aa+v.cells.size>us.size):=(by omega);rw[aS (by simp only[Bool.or_eq_true,aV];exact hno)];have y6:=ZH [] aa v.cells.toList 0 us (by simp;omega);simp only[Nat.add_zero]at y6;rw[<- hz,<- y6];congr 1;rw[<- Array.foldl_toList,Array.toList_zipIdx]
    .cases h
 |[],_::_,_,_,_,_,_,hk,_=>by simp at hk
 |_::_,[],_,_,_,_,_,hk,_=>by simp at hk
theorem FE(hT:fe P T):∀(fs:U Field),(∀ f∈fs,(T f.type).isSome=true)->
 ∃ps:U (Nat×Nat),(fs.mapM (λ f=>do pure (f.offset,<- sizeOf f.type):Field->Sem (Nat×Nat))).run P w= .ok ps w/\ps.map some=fs.map λf=>(T f.type).bind λui=>some (f.offset,ui.size)
 |[],_=>⟨[],by simp,rfl⟩
 |f::fs,h=>by
  obtain⟨ui,wj⟩:=Option.isSome_iff_exists.1 (h f (by simp));obtain⟨ps,h1,h2⟩:=FE hT fs (λ g hg=>h g (by simp[hg]));refine⟨(f.offset,ui.size)::ps,?_,by simp[wj,h2]⟩;simp only[List.mapM_cons,Sem.run_bind,(hT _ _ wj).size (w:=w),Result.andThen_ok,Sem.run_pure,h1]
theorem aa3(hT:fe P T){t:TypeId}{parts:U (Nat×AV)}{vs:Array (Nat×Value)}{ab:Out}(ha:UX T t parts=some ab)
 (hk:parts.map (·.1)=vs.toList.map (·.1)) (hv:bj P β w I (parts.map (·.2)) (vs.toList.map (·.2))):∃z,(Instr.build t vs).run P w= .ok z w/\VR P β w I ab.v z/\ab.upd=[]:=by
 unfold UX at ha;cases hti:T t with
 |none=>simp[hti]at ha
 |some ti=>
  have ht:=hT t ti hti;simp only[hti,af]at ha;have⟨z,hz,hz2⟩:=ht.zeroV (w:=w);split at ha
  .rename_i fs hkd;split at ha
   .rename_i hall;generalize hpl:(λ (j:Nat)=>(fs[j]?).bind λ(p:Nat×TypeId)=>(T p.2).bind λui=>some (p.1,ui.size))=place at ha;cases hf:FD place (ti.zero.map cv) parts with
    |none=>simp[hf]at ha
    |some cells=>
     simp only[hf,af,pv,aA]at ha;subst ha;obtain⟨info,d,z',h1,h2,h3,h4,h5,h6,h7,h8⟩:=ht.ex;rw[hkd]at h8;obtain⟨fa,rfl,hfa⟩:=h8;have H0:∀f∈fa.toList,(T f.type).isSome=true:=λf hf=>by
      have:=all_eq_true.1 hall (f.offset,f.type) (by rw[<- hfa];exact mem_map.2 ⟨f,hf,rfl⟩);simpa using this
     have⟨ps,hp1,hp2⟩:=FE (w:=w) hT fa.toList H0;have hpl':∀j p,place j=some p->ps[j]? =some p:=by
      intro j p hj;rw[<- hpl]at hj;simp only at hj;have e1:(ps.map some)[j]? =some (some p):=by
       rw[hp2,List.getElem?_map];rw[<- hfa]at hj;simp only[List.getElem?_map]at hj;cases hfj:fa.toList[j]? with
       |none=>rw[hfj]at hj;simp at hj
       |some f=>rw[hfj]at hj;simpa using hj
      simpa using e1
     obtain⟨zs,hz3,Fc⟩:=zV (pb:=λj=>ps.toArray[j]?) (λ j p h=>by simpa using hpl' j p h) parts vs.toList _ z.cells cells hf (by rw[hz2];exact bj.cv _) hk hv;refine⟨.agg zs,?_,by simp only[VR];exact⟨zs,rfl,Fc⟩,rfl⟩;have hm:(fa.mapM (λ f=>do pure (f.offset,<- sizeOf f.type):Field->Sem (Nat×Nat))).run P w= .ok ps.toArray w:=(by rw[Array.mapM_eq_mapM_toList,Sem.run_map,hp1];rfl);simp only[Instr.build,Sem.run_bind,hz,Result.andThen_ok,run_underlying h2,hm,hz3,Sem.run_pure]
   .cases ha
  .rename_i n e hkd;cases fS:T e with
   |none=>simp[fS]at ha
   |some ei=>
    have he:=hT e ei fS;simp only[fS,af]at ha;cases hf:FD (λ j=>some (j*ei.size,ei.size)) (ti.zero.map cv) parts with
    |none=>simp[hf]at ha
    |some cells=>
     simp only[hf,af,pv,aA]at ha;subst ha;obtain⟨zs,hz3,Fc⟩:=zV (pb:=λj=>some (j*ei.size,ei.size)) (λ j p h=>h) parts vs.toList _ z.cells cells hf (by rw[hz2];exact bj.cv _) hk hv;refine⟨.agg zs,?_,by simp only[VR];exact⟨zs,rfl,Fc⟩,rfl⟩;simp only[Instr.build,Sem.run_bind,hz,Result.andThen_ok,run_underlying (Mv ht hkd),he.size (w:=w),hz3,Sem.run_pure]
  .cases ha
end
section
variable {P:Program} {T:eo} {w0:World} {O0:ky} {β:Nat->Option cT} {I:Nat->Prop} {obj:Nat->Option aT} {w:World} {i:Nat}
theorem Mem.wA{i k:Nat}{o o1:aT}{B C:cT}(h:Mem P w0 O0 β I obj w)(hn:β i=none)(hk:obj k=some o)(hβ:β k=some B)(hC:C.num=B.num)(hO:OR P β w I o1 C):
 Step β I w i (ins β i C) I w/\Mem P w0 O0 (ins β i C) I (dm obj [(i,some o1),(k,none)]) w:=by
 have hS:Step β I w i (ins β i C) I w:=⟨λ j hj=>by simp[ins,jj.ne hj],nu hn,λ_ _=>rfl,λ_ h=>h⟩;have look:∀j o',dm obj [(i,some o1),(k,none)] j=some o'->(j=i/\o'=o1)\/(j≠i/\j≠k/\obj j=some o'):=by
  intro j o' hj;simp only[dm]at hj;split at hj
  .injection hj with hj;exact .inl ⟨‹_›,hj.symm⟩
  .split at hj
   .cases hj
   .exact .inr ⟨‹_›,‹_›,hj⟩
 refine⟨hS,?_⟩;constructor
 .intro j o' hj;rcases look j o' hj with ⟨rfl,rfl⟩ |⟨h1,h2,h3⟩
  .exact⟨C,by simp[ins],OR.mono hS.ext hS.same hS.inc (λ _ _=>rfl) hO⟩
  .have⟨B',hB',hO⟩:=h.cP j o' h3;exact⟨B',nu hn _ _ hB',OR.mono hS.ext hS.same hS.inc (λ _ _=>rfl) hO⟩
 .intro j j' o1 o2 B1 B2 b h1 h2 h3 h4 h5 h6;rcases look j o1 h1 with ⟨rfl,rfl⟩ |⟨a1,a2,a3⟩<;>rcases look j' o2 h2 with ⟨rfl,rfl⟩ |⟨c1,c2,c3⟩
  .rfl
  .simp only[ins,if_true,aA]at h3;simp only[ins,c1,if_false]at h4;subst h3;exact absurd (h.gS k j' _ _ B B2 b hk c3 hβ h4 (hC ▸ h5) h6) (λ e=>c2 e.symm)
  .simp only[ins,if_true,aA]at h4;simp only[ins,a1,if_false]at h3;subst h4;exact absurd (h.gS j k _ _ B1 B b a3 hk h3 hβ h5 (hC ▸ h6)) (λ e=>a2 e)
  .simp only[ins,a1,c1,if_false]at h3 h4;exact h.gS j j' o1 o2 B1 B2 b a3 c3 h3 h4 h5 h6
 .intro j o' B1 b h1 h2 h3;rcases look j o' h1 with ⟨rfl,rfl⟩ |⟨a1,a2,a3⟩
  .simp only[ins,if_true,aA]at h2;subst h2;exact h.ownB k _ B b hk hβ (hC ▸ h3)
  .simp only[ins,a1,if_false]at h2;exact h.ownB j o' B1 b a3 h2 h3
 .exact h.lt
 .exact h.up
 .exact h.keep
 .exact h.le
 .exact h.os
 .exact h.tape
 .exact h.output
 .intro j C hj;exact nu hn _ _ (h.anch j C hj)
 .exact h.vars
theorem KT:∀(rows:U (List AV))(c:Array Value)(aa sz:Nat)(l:U Value),(∀ r∈rows,r.length=sz/\r.all oU=true)->bj P β w I rows.flatten l->(∀ j u,l[j]? =some u->c[aa+j]? =some u)->bp P β w I rows c aa sz
 |[],_,_,_,_,_,_,_=>by simp[bp]
 |r::rs,c,aa,sz,l,hr,hl,hc=>by
  obtain⟨h1,h2⟩:=hr r (by simp);simp only[flatten_cons]at hl;have ht:=bj.take sz _ _ hl;have hd:=bj.drop sz _ _ hl;rw[List.take_append_of_le_length (by omega),take_of_length_le (by omega)]at ht;rw[List.drop_append_of_le_length (by omega),List.drop_of_length_le (by omega),bT]at hd;simp only[bp];refine⟨h1,dc.oy r _ c aa ht (λ u hu=>?_) (λ j u hj=>?_),KT rs c (aa+sz) sz _ (λ r' hr'=>hr r' (by simp[hr'])) hd (λ j u hj=>?_)⟩
  .obtain⟨j,hj⟩:=List.getElem?_of_mem hu;have hlen:=bj.length _ _ ht;have hjl:j<r.length:=(by have:=(dH.1 hj).1;omega);obtain⟨u',hu',hv⟩:=bj.get _ _ j _ ht (dQ hjl);rw[hj]at hu';injection hu' with hu';subst hu';exact VR.one (all_eq_true.1 h2 _ (List.getElem_mem hjl)) hv
  .rw[List.getElem?_take]at hj;split at hj
   .exact hc j u hj
   .cases hj
  .rw[List.getElem?_drop]at hj;rw[show aa+sz+j=aa+(sz+j)by omega];exact hc _ u hj
theorem afZ{x:AV}{cs:U AV}(h:cellsOf x=some cs):cs.all oU=true:=by
 cases x<;>simp only[cellsOf,aA,reduceCtorEq]at h
 case agg=>split at h<;>first |(cases h;assumption) |cases h
 all_goals subst h;simp[oU]
theorem U3(size:Nat):∀(parts:U (Nat×AV))(rows ab:U (List AV)),Ms size rows parts=some ab->(∀ r∈rows,r.length=size/\r.all oU=true)->
 FD (λ j=>some (j*size,size)) rows.flatten parts=some ab.flatten/\(∀ r∈ab,r.length=size/\r.all oU=true)/\ab.length=rows.length
 |[],rows,ab,h,hr=>by simp only[Ms,aA]at h;subst h;exact⟨rfl,hr,rfl⟩
 |(j,x)::ag,rows,ab,h,hr=>by
  simp only[Ms]at h;cases hcs:cellsOf x with
  |none=>simp[hcs]at h
  |some cs=>
   simp only[hcs,af]at h;split at h
   .rename_i hl;obtain⟨h1,h2,h3⟩:=U3 size ag (rows.set j cs) ab h (λ r hr'=>by
     rcases List.mem_or_eq_of_mem_set hr' with h4 |h4
     .exact hr r h4
     .rw[h4];exact⟨hl.1,afZ hcs⟩)
    refine⟨?_,h2,by simpa using h3⟩;have HT:∀(n:Nat) (rows:U (List AV)),(∀ r∈rows,r.length=size)->n<rows.length->(rows.set n cs).flatten=put' rows.flatten (n*size) cs/\n*size+cs.length<=rows.flatten.length:=by
     intro n
     induction n with
     |zero=>
      intro rows hr hn;cases rows with
      |nil=>simp at hn
      |cons r rs=>
       have:=hr r (by simp);simp only[List.set_cons_zero,flatten_cons,put',Nat.zero_mul,List.take_zero,bT,Nat.zero_add,dM];refine⟨?_,by omega⟩;rw[hl.1,List.drop_append_of_le_length (by omega),List.drop_of_length_le (by omega),bT]
     |succ n ih=>
      intro rows hr hn;cases rows with
      |nil=>simp at hn
      |cons r rs=>
       have hrl:=hr r (by simp);obtain⟨g1,g2⟩:=ih rs (λ r' h'=>hr r' (by simp[h'])) (by simpa using hn);have e1:(n+1)*size=r.length+n*size:=(by rw[Nat.add_mul];omega);simp only[List.set_cons_succ,flatten_cons,g1,put',e1,dM];refine⟨?_,by omega⟩;rw[List.take_length_add_append,show r.length+n*size+cs.length=r.length+(n*size+cs.length)by omega,List.drop_length_add_append];simp[aM]
    obtain⟨g1,g2⟩:=HT j rows (λ r h'=>(hr r h').1) hl.2;simp only[FD,af,hcs];rw[aX ⟨hl.1,g2⟩,<- g1];exact h1
   .cases h
theorem Mx(hT:fe P T)(h:Mem P w0 O0 β I obj w)(hn:β (cR i)=none){t:TypeId}{len:Nat}{parts:U (Nat×AV)}{vs:Array (Nat×Value)}{ab:Out}{kp:Bool}(ha:vU T i t len parts kp=some ab)
 (hk:parts.map (·.1)=vs.toList.map (·.1)) (hv:bj P β w I (parts.map (·.2)) (vs.toList.map (·.2))):
 ∃u w' β',(Instr.buildSlice t len vs).run P w= .ok u w'/\Step β I w (cR i) β' I w'/\Mem P w0 O0 β' I (dm obj ab.upd) w'/\VR P β' w' I ab.v u:=by
 unfold vU at ha;cases hti:T t with
 |none=>simp[hti]at ha
 |some ti=>
  have ht:=hT t ti hti;simp only[hti,af]at ha;split at ha
  .rename_i e hkd;cases fS:T e with
   |none=>simp[fS]at ha
   |some ei=>
    have he:=hT e ei fS;simp only[fS,af]at ha;split at ha
    .cases ha
    .rename_i hno;simp only[not_or]at hno;cases hf:Ms ei.size (List.replicate len (ei.zero.map cv)) parts with
     |none=>simp[hf]at ha
     |some rows=>
      simp only[hf,af,aA]at ha;subst ha;have⟨z,hz,hz2⟩:=he.zeroV (w:=w);have hzl:ei.zero.length=ei.size:=he.len;have hok:∀r∈List.replicate len (ei.zero.map cv),r.length=ei.size/\r.all oU=true:=by
       intro r hr;obtain⟨_,rfl⟩:=List.mem_replicate.1 hr;refine⟨by simpa using hzl,?_⟩;rw[List.all_map,all_eq_true];intro v hvz;have h1:=all_eq_true.1 he.one v hvz;simp only[Function.comp,cv];split
       .rfl
       .rw[aX h1];rfl
      obtain⟨h1,h2,h3⟩:=U3 ei.size parts _ rows hf hok;have hzs:z.cells.size=ei.size:=(by rw[<- Array.length_toList,hz2];exact hzl);have hinit:((Array.range (len*ei.size)).map (λ j=>z.cells[j%z.cells.size]!)).toList=(List.replicate len ei.zero).flatten:=by
       apply List.ext_getElem?;intro j;have hlen:∀n,((List.replicate n ei.zero).flatten).length=n*ei.size:=λn=>(by simp[hzl]);have hget:∀n j,j<n*ei.size->((List.replicate n ei.zero).flatten)[j]? =ei.zero[j%ei.size]? :=by
        intro n
        induction n with
        |zero=>intro j hj;simp at hj
        |succ n ih=>
         intro j hj;rw[List.replicate_succ,flatten_cons];by_cases hjs:j<ei.size
         .rw[List.getElem?_append_left (by omega),Nat.mod_eq_of_lt hjs]
         .rw[jw (by omega),hzl,ih _ (by rw[Nat.add_mul]at hj;omega)];rw[<- Nat.mod_eq_sub_mod (by omega)]
       by_cases hj:j<len*ei.size
       .rw[hget len j hj,Array.getElem?_toList,Array.getElem?_map];have hm:j%ei.size<ei.size:=Nat.mod_lt _ (by omega);rw[show (Array.range (len*ei.size))[j]? =some j by simp[hj]];simp only[Option.map_some];rw[hzs,<- hz2,Array.getElem?_toList];simp[show j%ei.size<z.cells.size by omega]
       .rw[List.getElem?_eq_none (by simp;omega),List.getElem?_eq_none (by rw[hlen];omega)]
      generalize hin:(Array.range (len*ei.size)).map (λ j=>z.cells[j%z.cells.size]!)=ta at hinit;obtain⟨zs,hz3,Fc⟩:=zV (pb:=λj=>some (j*ei.size,ei.size)) (λ j p h=>h) parts vs.toList _ ta rows.flatten h1 (by
       rw[hinit];have:(List.replicate len (ei.zero.map cv)).flatten=((List.replicate len ei.zero).flatten).map cv:=by
        induction len with
        |zero=>rfl
        |succ n ih=>simp[List.replicate_succ]
       rw[this];exact bj.cv _) hk hv
      have hrl:rows.length=len:=(by rw[h3];simp);obtain⟨hS,hM⟩:=Mem.alloc (o:=⟨ei.size,rows⟩) (c:=zs) (e:=e) h hn (KT rows zs 0 ei.size zs.toList h2 Fc (λ j u hj=>by simpa using hj));refine⟨.slice (some ⟨w.heap.size,0,none⟩) len len,_,_,?_,hS,by cases kp<;>first |exact hM.ws |exact hM,?_⟩
      .simp only[Instr.buildSlice,Sem.run_bind,run_underlying (gW ht hkd),Result.andThen_ok,he.size (w:=w)];rw[aS (by omega)];by_cases hl0:len*ei.size=0
       .have hc0:ta=#[]:=(by rw[<- hin,hl0];simp);have e0:(Array.range (len*ei.size)).map (λ j=>(#[]:Array Value)[j%(#[]:Array Value).size]!)=ta:=(by rw[hc0,hl0];simp);simp only[hl0,if_true,Sem.run_pure,Result.andThen_ok,Sem.run_bind];rw[hl0]at e0;rw[e0,hz3];simp only[Sem.run_bind,newRow,run_newObj,Result.andThen_ok,Sem.run_pure];rfl
       .simp only[hl0,if_false,Sem.run_bind,hz,Result.andThen_ok,Sem.run_pure];rw[hin,hz3];simp only[Sem.run_bind,newRow,run_newObj,Result.andThen_ok,Sem.run_pure];rfl
      .simp only[VR];refine .inr ⟨w.heap.size,ei.size,xv zs.size,len,0,by simp[ins],rfl,aD _,?_,by simp⟩;have:=bj.length _ _ Fc;simp only[Array.length_toList]at this;rw[Of,N6,this,Nat.zero_add,Nat.zero_add,<- hrl];have hfl:∀(l:U (List AV)),(∀ r∈l,r.length=ei.size)->l.flatten.length=l.length*ei.size:=by
        intro l
        induction l with
        |nil=>simp
        |cons r rs ih=>intro h;simp only[flatten_cons,dM,bC,ih (λ r' h'=>h r' (by simp[h'])),h r (by simp)];rw[Nat.add_mul];omega
       rw[hfl rows (λ r hr=>(h2 r hr).1)];exact aD _
  .cases ha
end
section
variable {P:Program} {T:eo} {w0:World} {O0:ky} {β:Nat->Option cT} {I:Nat->Prop} {obj:Nat->Option aT} {w:World} {i:Nat}
theorem JE{d n:Int}{x:J AV}{v:J Value}(h:bnd d x=some n)(hx:∀y,x=some y->∃u,v=some u/\VR P β w I y u)(h0:x=none->v=none):(v=none/\n=d)\/∃k,v=some (.int k n):=by
 cases x with
 |none=>simp only[bnd,aA]at h;exact .inl ⟨h0 rfl,h.symm⟩
 |some y=>
  obtain⟨u,rfl,hu⟩:=hx y rfl;unfold bnd at h;split at h
  .cases ‹some _=none›
  .rename_i k m heq;cases heq;cases h;simp only[VR,TR]at hu;exact .inr ⟨k,by rw[hu.1]⟩
  .cases h
theorem FH{tt hiv:J Value}{l hh:Int}{len cap:Nat}(h1:(tt=none/\l=0)\/∃k,tt=some (.int k l))(h2:(hiv=none/\hh=(len:Int))\/∃k,hiv=some (.int k hh))(g0:0<=l)(g1:l<=hh)(g2:hh<=(cap:Int)):
 (Instr.sliceBounds true len cap tt hiv none).run P w= .ok (l.toNat,hh.toNat,cap) w:=by
 have hb:∀(k:IntKind) (n:Int) (y:Nat) am,0<=n->n<=(y:Int)->(Instr.sliceBound (.int k n) y am).run P w= .ok n.toNat w:=λk n y am a b=>by simp[Instr.sliceBound,asIntOf,a,b]
 rcases h1 with ⟨rfl,rfl⟩ |⟨k,rfl⟩<;>rcases h2 with ⟨rfl,rfl⟩ |⟨k',rfl⟩
 .simp[Instr.sliceBounds]
 .simp[Instr.sliceBounds,hb k' hh cap _ (by omega) g2]
 .simp[Instr.sliceBounds,hb k l len _ g0 g1]
 .have h3:=λam=>hb k l hh.toNat am g0 (by omega);simp[Instr.sliceBounds,hb k' hh cap _ (by omega) g2,h3]
theorem aa4(hT:fe P T)(h:Mem P w0 O0 β I obj w){t:TypeId}{x:AV}{lo hi:J AV}{cL:ka}{get:Nat->J aT}{ab:Out}{v:Value}{tt hiv:J Value}(hg:∀k o,get k=some o->obj k=some o)
 (ha:UZ T t x lo hi cL get=some ab) (cV:ab.ob) (hx:VR P β w I x v) (hlo:∀x,lo=some x->∃v,tt=some v/\VR P β w I x v) (hlo0:lo=none->tt=none) (hhi:∀x,hi=some x->∃v,hiv=some v/\VR P β w I x v) (hhi0:hi=none->hiv=none):
 ∃u,(Instr.sliceAt t v tt hiv none).run P w= .ok u w/\VR P β w I ab.v u/\ab.upd=[]:=by
 unfold UZ at ha;cases hti:T t with
 |none=>simp[hti]at ha
 |some ti=>
  have ht:=hT t ti hti;simp only[hti,af]at ha;split at ha
  .rename_i e hkd;cases fS:T e with
   |none=>simp[fS]at ha
   |some ei=>
    have he:=hT e ei fS;simp only[fS,af]at ha;have fj:=gW ht hkd
    have hrun:∀(a:J Addr) (len cap:Nat) (l hh:Int),bnd 0 lo=some l->bnd len hi=some hh->0<=l->l<=hh->hh<=(cap:Int)->
     (Instr.sliceAt t (.slice a len cap) tt hiv none).run P w= .ok (.slice (if cap=l.toNat then a else a.map (·.add (l.toNat*ei.size))) (hh.toNat -l.toNat) (cap -l.toNat)) w:=by
     intro a len cap l hh b1 b2 b3 b4 b5;have:=FH (P:=P) (w:=w) (len:=len) (cap:=cap) (JE b1 hlo hlo0) (JE b2 hhi hhi0) b3 b4 b5;simp only[Instr.sliceAt,Instr.slice,Sem.run_bind,run_underlying fj,Result.andThen_ok,this,he.size (w:=w),Sem.run_pure]
    cases x<;>try simp only[reduceCtorEq]at ha
    case own k aa len=>
     cases hk:get k with
     |none=>simp[hk]at ha
     |some o=>
      simp only[hk,af]at ha;split at ha
      .rename_i hsz;cases hl:bnd 0 lo with
       |none=>simp[hl]at ha
       |some l=>
        cases hh:bnd len hi with
        |none=>simp[hl,hh]at ha
        |some r=>
         simp only[hl,hh,af,mN,aA]at ha;subst ha;obtain⟨b1,b2,b3⟩:=cV;simp only[VR]at hx ⊢;rcases hx with ⟨h1,rfl,h2,h3⟩ |⟨b,sz,m,cap,a,h1,rfl,h2,h3,h4⟩
         .subst h3;subst h2;have hr:r=0:=(by omega);have hl0:l=0:=(by omega);subst hr;subst hl0;refine⟨_,hrun _ _ _ _ _ hl hh b1 b2 (by omega),.inl ⟨h1,by simp,by simp,by simp⟩,trivial⟩
         .refine⟨_,hrun _ _ _ _ _ hl hh b1 b2 (by omega),.inr ⟨b,sz,m,cap -l.toNat,if cap=l.toNat then a else a+l.toNat*ei.size,h1,?_,by omega,?_,?_⟩,trivial⟩
          .split
           .rfl
           .simp[addr_add]
          .have:aa+l.toNat+(cap -l.toNat)=aa+cap:=(by omega);rw[this];exact h3
          .intro hc;have hcl:¬cap=l.toNat:=(by omega);rw[aS hcl,h4 (by omega)];have⟨B,hB,hO⟩:=h.cP k o (hg k o hk);rw[h1]at hB;cases hB;have hs:sz=o.sz:=hO.1;rw[hs,hsz,Nat.add_mul,Nat.add_assoc]
      .cases ha
    case t x=>
     cases x<;>simp only[reduceCtorEq]at ha
     case sl rows=>
      cases cL<;>simp only[reduceCtorEq]at ha
      case AM rs=>
       cases hl:bnd 0 lo with
       |none=>simp[hl]at ha
       |some l=>
        cases hh:bnd rows.length hi with
        |none=>simp[hl,hh]at ha
        |some r=>
         simp only[hl,hh,af,mN,aA]at ha;subst ha;obtain⟨b1,b2,b3,hrs,hall⟩:=cV;simp only[VR,TR]at hx ⊢;have hlen:rs.length=r.toNat -l.toNat:=(by rw[hrs];simp only[length_take,length_drop];omega);rcases hx with ⟨rfl,a,cap,rfl,hac⟩ |⟨b,aa,cap,sz,rfl,h1,h2,h3⟩
         .simp only[List.length_nil]at b3;have hr:r=0:=(by omega);have hl0:l=0:=(by omega);subst hr;subst hl0;refine⟨_,hrun _ _ _ _ _ hl hh b1 b2 (by omega),.inl ⟨by rw[hrs];simp,a.map (·.add 0),cap,?_,λh0=>hac (by simpa using h0)⟩,trivial⟩;by_cases hc:cap=0
          .subst hc;cases a<;>simp[Addr.add]
          .simp[hc]
         .refine⟨_,hrun _ _ _ _ _ hl hh b1 b2 (by omega),.inr ⟨b,if cap=l.toNat then aa else aa+l.toNat*ei.size,cap -l.toNat,sz,?_,by omega,h2,?_⟩,trivial⟩
          .rw[hlen];split
           .rfl
           .simp[addr_add]
          .by_cases hc:cap=l.toNat
           .have:rs=[]:=eq_nil_of_length_eq_zero (by omega);rw[this];simp[cJ]
           .rw[aS hc,hrs];have hd:∀(n:Nat) (rows:U (List Tree)) (aa:Nat),cJ w I rows b aa sz->cJ w I (rows.drop n) b (aa+n*sz) sz:=by
             intro n
             induction n with
             |zero=>intro rows aa h;simpa using h
             |succ n ih=>
              intro rows aa h;cases rows with
              |nil=>simp[cJ]
              |cons r rs=>
               simp only[cJ]at h;rw[List.drop_succ_cons,show aa+(n+1)*sz=aa+sz+n*sz by rw[Nat.add_mul];omega];exact ih rs _ h.2.2
            have htk:∀(n:Nat) (rows:U (List Tree)) (aa:Nat),cJ w I rows b aa sz->cJ w I (rows.take n) b aa sz:=by
             intro n
             induction n with
             |zero=>intro rows aa h;simp[cJ]
             |succ n ih=>
              intro rows aa h;cases rows with
              |nil=>simp[cJ]
              |cons r rs=>
               simp only[cJ]at h;simp only[List.take_succ_cons,cJ];exact⟨h.1,h.2.1,ih rs _ h.2.2⟩
            by_cases hne:rows=[]
            .subst hne;simp[cJ]
            .obtain⟨r0,ag,rfl⟩:=List.exists_cons_of_ne_nil hne;have hsz:ei.size=sz:=by
              have e1:=hall r0 (by simp);simp only[cJ]at h3;omega
             rw[hsz];exact htk _ _ _ (hd _ _ _ h3)
  .cases ha
end
section
variable {P:Program} {T:eo} {w0:World} {O0:ky} {β:Nat->Option cT} {I:Nat->Prop} {obj:Nat->Option aT} {w:World} {i:Nat}
theorem Mem.pC{i:Nat}{o:aT}(h:Mem P w0 O0 β I obj w)(hn:β i=none)(ho:o.rows=[]):
 Step β I w i (ins β i .none) I w/\Mem P w0 O0 (ins β i .none) I (dm obj [(i,some o)]) w:=by
 have hS:Step β I w i (ins β i .none) I w:=⟨λ j hj=>by simp[ins,jj.ne hj],nu hn,λ_ _=>rfl,λ_ h=>h⟩;refine⟨hS,?_⟩;constructor
 .intro k o' hk;simp only[dm]at hk;split at hk
  .cases hk;rename_i hki;exact⟨.none,by simp[ins,hki],ho⟩
  .have⟨B,hB,hO⟩:=h.cP k o' hk;exact⟨B,nu hn _ _ hB,OR.mono hS.ext hS.same hS.inc (λ _ _=>rfl) hO⟩
 .intro k k' o1 o2 B1 B2 b h1 h2 h3 h4 h5 h6;simp only[dm]at h1 h2;simp only[ins]at h3 h4;split at h3
  .cases h3;cases h5
  .split at h4
   .cases h4;cases h6
   .rename_i a b;rw[aS a]at h1;rw[aS b]at h2;exact h.gS k k' o1 o2 B1 B2 _ h1 h2 h3 h4 h5 h6
 .intro k o' B b h1 h2 h3;simp only[dm]at h1;simp only[ins]at h2;split at h2
  .cases h2;cases h3
  .rename_i a;rw[aS a]at h1;exact h.ownB k o' B b h1 h2 h3
 .exact h.lt
 .exact h.up
 .exact h.keep
 .exact h.le
 .exact h.os
 .exact h.tape
 .exact h.output
 .intro j C hj;exact nu hn _ _ (h.anch j C hj)
 .exact h.vars
theorem yC:∀(rows:U (List AV))(c:Array Value)(aa sz:Nat)(l:U Value),(∀ r∈rows,r.length=sz)->bj P β w I rows.flatten l->(∀ u∈l,oneCell u)->(∀ j u,l[j]? =some u->c[aa+j]? =some u)->bp P β w I rows c aa sz
 |[],_,_,_,_,_,_,_,_=>by simp[bp]
 |r::rs,c,aa,sz,l,hr,hl,h1,hc=>by
  have hrl:=hr r (by simp);simp only[flatten_cons]at hl;have ht:=bj.take sz _ _ hl;have hd:=bj.drop sz _ _ hl;rw[List.take_append_of_le_length (by omega),take_of_length_le (by omega)]at ht;rw[List.drop_append_of_le_length (by omega),List.drop_of_length_le (by omega),bT]at hd;simp only[bp];refine⟨hrl,dc.oy r _ c aa ht (λ u hu=>h1 u (List.mem_of_mem_take hu)) (λ j u hj=>?_),yC rs c (aa+sz) sz _ (λ r' hr'=>hr r' (by simp[hr'])) hd (λ u hu=>h1 u (List.mem_of_mem_drop hu)) (λ j u hj=>?_)⟩
  .rw[List.getElem?_take]at hj;split at hj
   .exact hc j u hj
   .cases hj
  .rw[List.getElem?_drop]at hj;rw[show aa+sz+j=aa+(sz+j)by omega];exact hc _ u hj
theorem bp.list:∀(rows:U (List AV))(c:Array Value)(aa sz:Nat),bp P β w I rows c aa sz->∃l:U Value,bj P β w I rows.flatten l/\(∀ u∈l,oneCell u)/\l.length=rows.length*sz/\(∀ r∈rows,r.length=sz)/\∀j u,l[j]? =some u->c[aa+j]? =some u
 |[],_,_,_,_=>⟨[],by simp[bj],by simp,by simp,by simp,by simp⟩
 |r::rs,c,aa,sz,⟨h1,h2,h3⟩=>by
  have⟨l1,a1,a2,a3⟩:=dc.list r c aa h2;have⟨l2,b1,b2,b3,b4,b5⟩:=bp.list rs c (aa+sz) sz h3;have hl1:l1.length=sz:=by rw[bj.length _ _ a1,h1]
  refine⟨l1++l2,by simp only[flatten_cons];exact bj.append _ _ _ _ a1 b1,λu hu=>?_,?_,λr' hr'=>?_,λj u hj=>?_⟩
  .rcases aZ.1 hu with hu |hu
   .exact a2 u hu
   .exact b2 u hu
  .simp only[dM,bC,hl1,b3,Nat.add_mul];omega
  .rcases aO.1 hr' with rfl |hr'
   .exact h1
   .exact b4 r' hr'
  .by_cases hjs:j<sz
   .rw[List.getElem?_append_left (by omega)]at hj;exact a3 j u hj
   .rw[jw (by omega)]at hj;have:=b5 _ u hj;rw[hl1]at this;rw[show aa+j=aa+sz+(j -sz)by omega];exact this
theorem cJ.list{b sz:Nat}:∀(rows:U (List Tree))(aa:Nat),cJ w I rows b aa sz->∃l:U Value,bj P β w I (aI rows).flatten l/\(∀ u∈l,oneCell u)/\l.length=rows.length*sz/\(∀ r∈aI rows,r.length=sz)/\∀j u,l[j]? =some u->w.cell? ⟨b,aa+j,none⟩=some u
 |[],_,_=>⟨[],by simp[aI,bj],by simp,by simp,by simp[aI],by simp⟩
 |r::rs,aa,h=>by
  simp only[cJ]at h;obtain⟨h1,h2,h3⟩:=h;have⟨l1,a1,a3⟩:=d8.list (P:=P) (β:=β) r b aa h2;have⟨l2,b1,b2,b3,b4,b5⟩:=cJ.list rs (aa+sz) h3;have hl1:l1.length=sz:=by rw[bj.length _ _ a1];simpa using h1
  have a2:∀u∈l1,oneCell u:=by
   intro u hu;obtain⟨j,hj⟩:=List.getElem?_of_mem hu;have hjl:j<(r.map AV.t).length:=(by have:=(dH.1 hj).1;rw[bj.length _ _ a1]at this;exact this);obtain⟨u',hu',hv⟩:=bj.get _ _ j _ a1 (dQ hjl);rw[hj]at hu';injection hu' with hu';subst hu';refine VR.one ?_ hv;simp[oU]
  refine⟨l1++l2,by simp only[aI,aF,flatten_cons];exact bj.append _ _ _ _ a1 b1,λu hu=>?_,?_,λr' hr'=>?_,λj u hj=>?_⟩
  .rcases aZ.1 hu with hu |hu
   .exact a2 u hu
   .exact b2 u hu
  .simp only[dM,bC,hl1,b3,Nat.add_mul];omega
  .simp only[aI,aF,aO]at hr';rcases hr' with rfl |hr'
   .simpa using h1
   .exact b4 r' hr'
  .by_cases hjs:j<sz
   .rw[List.getElem?_append_left (by omega)]at hj;exact a3 j u hj
   .rw[jw (by omega)]at hj;have:=b5 _ u hj;rw[hl1]at this;rw[show aa+j=aa+sz+(j -sz)by omega];exact this
def WD(P:Program)(β:Nat->J cT)(w:World)(I:Nat->Prop)(size n:Nat)(an:U (List AV))(v:Value):Prop:=
 (n=0/\∃b c,v= .slice b 0 c)\/∃(a:Addr)(c:Nat)(l:U Value),v= .slice (some a) n c/\0<n/\bj P β w I an.flatten l/\(∀ u∈l,oneCell u)/\l.length=n*size/\(∀ r∈an,r.length=size)/\∀j u,l[j]? =some u->w.cell? (a.add j)=some u
theorem ZI(h:Mem P w0 O0 β I obj w){size n:Nat}{ob:Prop}{an:U (List AV)}{y:AV}{get:Nat->J aT}{v:Value}(hg:∀k o,get k=some o->obj k=some o)
 (hs:U0 size y get=some (n,ob,an)) (cV:ob) (hl:an.length=n) (hy:VR P β w I y v):WD P β w I size n an v:=by
 unfold U0 at hs;split at hs
 .rename_i k aa len;cases hk:get k with
  |none=>simp[hk]at hs
  |some o=>
   simp only[hk,af]at hs;split at hs
   .rename_i hsz;simp only[aA,Prod.mk.injEq]at hs;obtain⟨rfl,_,rfl⟩:=hs;simp only[VR]at hy;rcases hy with ⟨_,rfl,_,rfl⟩ |⟨b,sz,m,cap,a,h1,rfl,h2,h3,h4⟩
    .exact .inl ⟨rfl,_,_,rfl⟩
    .by_cases h0:len=0
     .subst h0;exact .inl ⟨rfl,_,_,rfl⟩
     .have⟨B,hB,hO⟩:=h.cP k o (hg k o hk);rw[h1]at hB;cases hB;obtain⟨hs,c,e,hc,_,hO⟩:=hO;have h5:=bp.take len _ _ _ _ (bp.drop aa _ _ _ _ hO);obtain⟨l,g1,g2,g3,g4,g5⟩:=bp.list _ _ _ _ h5;refine .inr ⟨_,cap,l,rfl,by omega,g1,g2,?_,λr hr=>?_,λj u hj=>?_⟩
      .rw[g3,hl,hs,hsz]
      .rw[g4 r hr,hs,hsz]
      .rw[addr_add,h4 (by omega)];simp[World.cell?,hc,g5 j u hj]
   .cases hs
 .rename_i rows;simp only[aA,Prod.mk.injEq]at hs;obtain⟨rfl,rfl,rfl⟩:=hs;simp only[VR,TR]at hy;rcases hy with ⟨rfl,_,_,rfl,_⟩ |⟨b,aa,cap,sz,rfl,h1,h2,h3⟩
  .exact .inl ⟨rfl,_,_,rfl⟩
  .cases rows with
   |nil=>exact .inl ⟨rfl,_,_,rfl⟩
   |cons r rs=>
    obtain⟨l,g1,g2,g3,g4,g5⟩:=cJ.list (P:=P) (β:=β) _ _ h3;have hsz:sz=size:=by
     have e1:=cV r (by simp);simp only[cJ]at h3;omega
    subst hsz;exact .inr ⟨_,cap,l,rfl,by simp,g1,g2,g3,g4,λj u hj=>by rw[addr_add];exact g5 j u hj⟩
 .cases hs
theorem oneCell'{u:Value}(h:oneCell u):u.oneCell'=true:=by cases u<;>first |rfl |exact h.elim
theorem Mem.grow(h:Mem P w0 O0 β I obj w)(hn:β i=none){size:Nat}{rows:U (List AV)}{l:U Value}{e:TypeId}{ag:Array Value}(hr:∀r∈rows,r.length=size)(hl:bj P β w I rows.flatten l)(h1:∀u∈l,oneCell u):
 Step β I w i (ins β i (.at w.heap.size size (xv (l.toArray++ag).size))) I (w.drew.alloc (.cells (l.toArray++ag) e))/\
 Mem P w0 O0 (ins β i (.at w.heap.size size (xv (l.toArray++ag).size))) I (dm obj [(i,some ⟨size,rows⟩)]) (w.drew.alloc (.cells (l.toArray++ag) e)):=by
 have hd:=h.drew;obtain⟨hS,hM⟩:=Mem.alloc (i:=i) (o:=⟨size,rows⟩) (c:=l.toArray++ag) (e:=e) hd hn (yC rows _ 0 size l hr (bj.mono (w:=w) (w':=w.drew) (λ _ _ h=>h) (λ _ _=>rfl) (λ _ h=>h) _ _ hl) h1 (λ j u hj=>by
  have hlt:=(dH.1 hj).1;rw[Nat.zero_add,Array.getElem?_append_left (by simpa using hlt)];simpa using hj))
 exact⟨⟨hS.other,hS.ext,λb hb=>hS.same b hb,hS.inc⟩,hM⟩
theorem FI(hT:fe P T)(h:Mem P w0 O0 β I obj w)(hn:β i=none){t e ty:TypeId}{ei:np}(fj:P.underlying t=some (.slice e))(fS:T e=some ei){n:Nat}{an:U (List AV)}{v:Value}
 (hsrc:WD P β w I ei.size n an v) (hl:an.length=n) (h48:n*ei.bytes<=140737488355328) (h63:n<=maxLen):
 ∃u w' β',(Builtin.append_ #[t,t] ty #[.slice none 0 0,v]).run P w= .ok u w'/\Step β I w i β' I w'/\Mem P w0 O0 β' I (dm obj [(i,some ⟨ei.size,an⟩)]) w'/\VR P β' w' I (.own i 0 n) u:=by
 have he:=hT e ei fS;obtain⟨info,d,z,g1,g2,g3,g4,g5,g6,g7,g8⟩:=he.ex;rcases hsrc with ⟨rfl,b,c,rfl⟩ |⟨a,c,l,rfl,hpos,q1,q2,q3,q4,q5⟩
 .have hnew:an=[]:=eq_nil_of_length_eq_zero hl;subst hnew;have⟨hS,hM⟩:=Mem.pC (i:=i) (o:=⟨ei.size,[]⟩) h hn rfl;refine⟨.slice none 0 0,w,_,?_,hS,hM,by simp only[VR];exact .inl ⟨by simp[ins],trivial,trivial,trivial⟩⟩;cases b<;>simp[Builtin.append_,run_underlying fj,sizeOf,typeInfo,g1,Builtin.lenOf,Builtin.firstCells,loadCells,loadCellsFrom]
 .have hm:n<=9223372036854775807:=by simp only[maxLen]at h63;omega
  have hrun:=run_append_nil (P:=P) w t ty e info z fj g1 g5 a n c l (by rw[q3,g3]) q5 hpos (by omega) (by rw[g4];omega);have⟨hS,hM⟩:=Mem.grow (i:=i) (e:=e) (ag:=Builtin.zeroCells z.cells (grownCap w n 0 e -n)) h hn q4 q1 q2;refine⟨_,_,_,hrun,hS,hM,?_⟩;simp only[VR];refine .inr ⟨w.heap.size,ei.size,_,_,0,by simp[ins];rfl,rfl,grownCap_ge w n 0 e,?_,by simp⟩;have hz:z.cells.size=ei.size:=by rw[<- Array.length_toList,g6];exact he.len
  have hge:=grownCap_ge w n 0 e;simp only[size_zeroCells,Of,N6,q3,hz,Nat.zero_add,<- Nat.add_mul];exact Nat.mul_le_mul_right _ (by omega)
theorem Sy(hT:fe P T)(h:Mem P w0 O0 β I obj w)(hn:β i=none){t e ty:TypeId}{ei:np}(fj:P.underlying t=some (.slice e))(fS:T e=some ei){n k aa len:Nat}{o:aT}{an:U (List AV)}{u v:Value}
 (hk:obj k=some o) (hsz:o.sz=ei.size) (hlen:(o.rows.drop aa).length=len) (hx:VR P β w I (.own k aa len) u)
 (hsrc:WD P β w I ei.size n an v) (hl:an.length=n) (h48:(len+n)*ei.bytes<=140737488355328) (h63:len+n<=maxLen):
 ∃z w' β',(Builtin.append_ #[t,t] ty #[u,v]).run P w= .ok z w'/\Step β I w i β' I w'/\Mem P w0 O0 β' I (dm obj [(i,some ⟨ei.size,o.rows.drop aa++an⟩),(k,none)]) w'/\VR P β' w' I (.own i 0 (len+n)) z:=by
 have he:=hT e ei fS;obtain⟨info,d,z,g1,g2,g3,g4,g5,g6,g7,g8⟩:=he.ex;have hki:k≠i:=λe=>by
  have⟨B,hB,_⟩:=h.cP k o hk;rw[e,hn]at hB;cases hB
 have zv:∀{β':Nat->J cT} {I':Nat->Prop} {w':World} {o':aT},Mem P w0 O0 β' I' (dm obj [(i,some o')]) w'->Mem P w0 O0 β' I' (dm obj [(i,some o'),(k,none)]) w':=by
  intro β' I' w' o' hM;refine hM.drop _ λj oj hj=>?_;simp only[dm]at hj ⊢;split
  .rw[aX ‹_›]at hj;exact hj
  .rw[aS ‹_›]at hj;split at hj
   .cases hj
   .exact hj
 simp only[VR]at hx;rcases hx with ⟨hβ,rfl,_,rfl⟩ |⟨b,sz,m,cap,a,hβ,rfl,h2,h3,h4⟩
 .have hr:o.rows.drop aa=[]:=eq_nil_of_length_eq_zero hlen;rw[hr,bT,Nat.zero_add];obtain⟨z',w',β',e1,e2,e3,e4⟩:=FI (ty:=ty) hT h hn fj fS hsrc hl (by simpa using h48) (by simpa using h63);exact⟨z',w',β',e1,e2,zv e3,e4⟩
 .have⟨B,hB,hO⟩:=h.cP k o hk;rw[hβ]at hB;cases hB;obtain⟨hs,c,ce,hc,hcn,hO⟩:=hO;have hle:m.s+aa*sz<=m.m:=Nat.le_trans (Nat.add_le_add_left (Nat.mul_le_mul_right _ (Nat.le_add_right _ _)) _) h3;rw[Nat.add_mul]at h3;have hO:=bp.drop aa _ _ _ _ hO;obtain⟨hS0,hM0⟩:=Mem.wA (C:= .at b sz ⟨m.m,m.s+aa*sz,hle⟩) (o1:=⟨ei.size,o.rows.drop aa⟩) h hn hk hβ rfl ⟨by rw[hs,hsz],c,ce,hc,hcn,hO⟩;generalize hp:m.s+aa*sz=p at hO hle hS0 hM0 h4;rcases hsrc with ⟨rfl,b',c',rfl⟩ |⟨a',c',l,rfl,hpos,q1,q2,q3,q4,q5⟩
  .have hnew:an=[]:=eq_nil_of_length_eq_zero hl;subst hnew;rw[List.append_nil,Nat.add_zero];refine⟨.slice (some ⟨b,a,none⟩) len cap,w,_,?_,hS0,hM0,?_⟩
   .cases b'<;>simp[Builtin.append_,run_underlying fj,sizeOf,typeInfo,g1,Builtin.lenOf,Builtin.firstCells,loadCells,loadCellsFrom,h2,storeCells]
   .simp only[VR];exact .inr ⟨b,sz,⟨m.m,p,hle⟩,cap,a,by simp[ins],rfl,h2,by simp only[Nat.zero_add];omega,λh=>by simp[h4 h]⟩
  .obtain⟨ol,o1,o2,o3,o4,o5⟩:=bp.list _ _ _ _ hO;have hrl:∀r∈o.rows.drop aa++an,r.length=ei.size:=λr hr=>by
    rcases aZ.1 hr with hr |hr
    .rw[o4 r hr,hs,hsz]
    .exact q4 r hr
   have hol:ol.length=len*info.size:=(by rw[o3,hlen,hs,hsz,g3]);by_cases hroom:len+n<=cap
   .
    have ha:a=p:=h4 (by omega);subst ha;have hcsz:a+cap*info.size<=c.size:=(by rw[g3,<- hsz,<- hs,hcn];omega);have hfit:a+len*info.size+l.length<=c.size:=by
     have:(len+n)*info.size<=cap*info.size:=Nat.mul_le_mul_right _ hroom;rw[Nat.add_mul]at this;rw[q3,<- g3];omega
    have hf:=run_firstCells_some (P:=P) w info.size n a' n c' l (by rw[q3,g3]) q5;have hst:=run_storeCells_at P b (a+len*info.size) ce l 0 c w hc (by omega) (λ u hu=>oneCell' (q2 u hu));simp only[Nat.add_zero]at hst;generalize hc':(List.take (a+len*info.size) c.toList++l++List.drop (a+len*info.size+l.length) c.toList).toArray=cc at hst;have S4:cc.size=c.size:=(by rw[<- hc'];simp[length_take,length_drop];omega);have hrun:(Builtin.append_ #[t,t] ty #[.slice (some ⟨b,a,none⟩) len cap,.slice (some a') n c']).run P w= .ok (.slice (some ⟨b,a,none⟩) (len+n) cap) (w.setRow b cc):=by
     have hf':(Builtin.firstCells info.size n (.slice (some a') n c')).run P w= .ok l.toArray w:=hf;simp[Builtin.append_,run_underlying fj,sizeOf,typeInfo,g1,Builtin.lenOf,hroom,hf',addr_add,hst]
    have hcells:∀j u,(ol++l)[j]? =some u->cc[a+j]? =some u:=by
     intro j u hj;rw[<- hc',List.getElem?_toArray];have h1:(c.toList.take (a+len*info.size)).length=a+len*info.size:=(by simp[length_take];omega);by_cases hjl:j<ol.length
     .rw[List.getElem?_append_left hjl]at hj;have:=o5 j u hj;rw[aM,List.getElem?_append_left (by omega),List.getElem?_take,aX (by omega),Array.getElem?_toList];exact this
     .rw[jw (by omega)]at hj;have hjl2:=(dH.1 hj).1;rw[aM,jw (by omega),h1,List.getElem?_append_left (by omega),show a+j -(a+len*info.size)=j -ol.length by omega];exact hj
    obtain⟨vx,hM⟩:=Mem.write (o':=⟨ei.size,o.rows.drop aa++an⟩) hM0 (k:=i) (o:=⟨ei.size,o.rows.drop aa⟩) (b:=b) (s:=sz) (n:=⟨m.m,a,hle⟩) (by simp only[dm,if_true]) (by simp only[ins,if_true]) (c':=cc) (e:=ce) (setRow_heap w b c cc ce (0,0) hc) (λ b' hb=>setRow_other w b b' cc hb) (by simp) rfl rfl rfl (by rw[hs,hsz]) (by simp;omega)
     (yC _ _ _ ei.size (ol++l) hrl (bj.mono hS0.ext (λ _ _=>rfl) (λ _ h=>h) _ _ (by simp only[List.flatten_append];exact bj.append _ _ _ _ o1 q1)) (λ u hu=>by
      rcases aZ.1 hu with hu |hu
      .exact o2 u hu
      .exact q2 u hu) hcells)
    refine⟨_,_,_,hrun,⟨hS0.other,hS0.ext,vx,λ_ h=>h⟩,hM.drop _ (λ j oj hj=>?_),?_⟩
    .simp only[dm]at hj ⊢;split at hj
     .rw[aX ‹_›];exact hj
     .rw[aS ‹_›,aS ‹_›];exact hj
    .simp only[VR];exact .inr ⟨b,sz,⟨m.m,a,hle⟩,cap,a,by simp[ins],rfl,hroom,by simp only[Nat.zero_add];omega,by simp⟩
   .have holds:∀j v,ol[j]? =some v->w.cell? ((⟨b,a,none⟩:Addr).add j)=some v:=by
     intro j v hj;have hjl:=(dH.1 hj).1;have tx:len≠0:=λh0=>(by rw[hol,h0]at hjl;simp at hjl);rw[addr_add,h4 (by omega)];have:=o5 j v hj;simp[World.cell?,hc]at this ⊢;exact this
    have hm:len+n<=9223372036854775807:=(by simp only[maxLen]at h63;omega);have hrun:=run_append_grow (P:=P) w t ty e info z fj g1 g5 ⟨b,a,none⟩ len cap ol hol holds a' n c' l (by rw[q3,g3]) q5 (by omega) (by omega) (growslice_fits (by omega) (by rw[g4];exact h48));have happ:bj P β w I (o.rows.drop aa++an).flatten (ol++l):=(by simp only[List.flatten_append];exact bj.append _ _ _ _ o1 q1);obtain⟨hS,hM⟩:=Mem.grow (i:=i) (e:=e) (ag:=Builtin.zeroCells z.cells (grownCap w (len+n) cap e -(len+n))) h hn hrl happ (λ u hu=>by
     rcases aZ.1 hu with hu |hu
     .exact o2 u hu
     .exact q2 u hu)
    have UT:ol.toArray++l.toArray++Builtin.zeroCells z.cells (grownCap w (len+n) cap e -(len+n))=(ol++l).toArray++Builtin.zeroCells z.cells (grownCap w (len+n) cap e -(len+n)):=(by simp);rw[UT]at hrun;refine⟨_,_,_,hrun,hS,zv hM,?_⟩;simp only[VR];refine .inr ⟨w.heap.size,ei.size,_,_,0,by simp[ins];rfl,rfl,grownCap_ge w (len+n) cap e,?_,by simp⟩;have hz:z.cells.size=ei.size:=(by rw[<- Array.length_toList,g6];exact he.len);have hge:=grownCap_ge w (len+n) cap e;simp only[size_zeroCells,Of,N6,q3,hol,hz,g3,Nat.zero_add,<- Nat.add_mul];exact Nat.mul_le_mul_right _ (by omega)
end
section
variable {P:Program} {T:eo} {w0:World} {O0:ky} {β:Nat->Option cT} {I:Nat->Prop} {obj:Nat->Option aT} {w:World} {i:Nat}
theorem YB(hT:fe P T)(h:Mem P w0 O0 β I obj w)(hn:β (cR i)=none){t ty:TypeId}{x y:AV}{cL:ka}{get:Nat->J aT}{ab:Out}{u v:Value}(hg:∀k o,get k=some o->obj k=some o)
 (ha:zU T i t x y cL get=some ab) (cV:ab.ob) (hx:VR P β w I x u) (hy:VR P β w I y v):
 ∃z w' β',(Builtin.append_ #[t,t] ty #[u,v]).run P w= .ok z w'/\Step β I w (cR i) β' I w'/\Mem P w0 O0 β' I (dm obj ab.upd) w'/\VR P β' w' I ab.v z:=by
 unfold zU at ha;cases hti:T t with
 |none=>simp[hti]at ha
 |some ti=>
  have ht:=hT t ti hti;simp only[hti,af]at ha;split at ha
  .rename_i e hkd;cases fS:T e with
   |none=>simp[fS]at ha
   |some ei=>
    simp only[fS,af]at ha;have fj:=gW ht hkd;split at ha
    .rename_i rs;cases hs:U0 ei.size y get with
     |none=>simp[hs]at ha
     |some p=>
      obtain⟨n,ob,an⟩:=p;simp only[hs,af]at ha;split at ha
      .rename_i k aa len;cases hk:get k with
       |none=>simp[hk]at ha
       |some o=>
        simp only[hk,af]at ha;split at ha
        .rename_i hsz;cases ha;obtain⟨b1,b2,b3,rfl,b5,b6⟩:=cV;have e:(o.rows.drop aa++an).length=len+n:=(by rw[dM,b2,b3]);simp only[e];exact Sy hT h hn fj fS (hg k o hk) hsz b2 hx (ZI h hg hs b1 b3 hy) b3 b5 b6
        .cases ha
      .cases ha;obtain⟨b1,b2,rfl,b5,b6⟩:=cV;simp only[VR]at hx;subst hx;simp only[b2];exact FI hT h hn fj fS (ZI h hg hs b1 b2 hy) b2 b5 b6
      .cases ha
    .cases ha
  .cases ha
theorem bj.map{ρ:Operand->AV}{r:Operand->Value}(hρ:∀x,VR P β w I (ρ x) (r x)):∀(l:U Operand),bj P β w I (l.map ρ) (l.map r)
 |[]=>by simp[bj]
 |x::xs=>by simp only[aF,bj];exact⟨hρ x,bj.map hρ xs⟩
theorem U4(hT:fe P T)(h:Mem P w0 O0 β I obj w)(hn:β (cR i)=none){b:Builtin}{args:U AV}{cX:Array TypeId}{cL:ka}{get:Nat->J aT}{ab:Out}(hg:∀k o,get k=some o->obj k=some o)
 {vs:Array Value} {ty:TypeId} {al:Array Operand} (ha:Cr T i b args cX.toList cL get=some ab) (cV:ab.ob) (hv:bj P β w I args vs.toList) {r:Operand->Value} (hops:vs=al.map r) {dst:J Tmp} {ao:String} {after:Array Edge} {guard:J (Nat×Bool)}:
 so P w0 O0 β I obj w i ab ((execOp r ⟨dst,.call { callee:= .builtin b,args:=al,argTypes:=cX },ty,ao,after,guard⟩).run P w):=by
 unfold Cr at ha;split at ha
 .rename_i x t qT;obtain⟨v,hvs⟩:∃v,vs=#[v]:=by
   obtain⟨l⟩:=vs
   match l,hv with
   |[v],_=>exact⟨v,rfl⟩
   |[],h=>simp[bj]at h
   |_::_::_,h=>simp[bj]at h
  have ht:cX=#[t]:=by cases cX;simpa using qT
  subst hvs ht;simp only[bj]at hv;have⟨u,h1,h2,h3⟩:=afY (ty:=ty) hT ha cV hv.1;refine⟨u,w,β,I,.inl ?_,Step.refl ..,by rw[h3];exact h,h2⟩;simp[execOp,resolve,invoke,builtin,<- hops,h1]
 .have⟨u,h1,h2,h3⟩:=ZG (cX:=cX) (ty:=ty) ha hv;simp only[if_true]at h1;refine⟨u,w,β,I,.inl ?_,Step.refl ..,by rw[h3];exact h,h2⟩;simp[execOp,resolve,invoke,builtin,<- hops,h1]
 .have⟨u,h1,h2,h3⟩:=ZG (cX:=cX) (ty:=ty) ha hv;simp only[Bool.false_eq_true,if_false]at h1;refine⟨u,w,β,I,.inl ?_,Step.refl ..,by rw[h3];exact h,h2⟩;simp[execOp,resolve,invoke,builtin,<- hops,h1]
 .rename_i x y t u qT;split at ha
  .rename_i htu;subst htu;obtain⟨v,v',hvs⟩:∃v v',vs=#[v,v']:=by
    obtain⟨l⟩:=vs
    match l,hv with
    |[v,v'],_=>exact⟨v,v',rfl⟩
    |[],h=>simp[bj]at h
    |[_],h=>simp[bj]at h
    |_::_::_::_,h=>simp[bj]at h
   have ht:cX=#[t,t]:=(by cases cX;simpa using qT);subst hvs ht;simp only[bj]at hv;have⟨z,w',β',h1,h2,h3,h4⟩:=YB (ty:=ty) hT h hn hg ha cV hv.1 hv.2.1;refine⟨z,w',β',I,.inl ?_,h2,h3,h4⟩;simp[execOp,resolve,invoke,builtin,<- hops,h1]
  .cases ha
 .cases ha
theorem Rm(hT:fe P T)(h:Mem P w0 O0 β I obj w)(hn:β (cR i)=none){o:Oper}{cL:ka}{ρ:Operand->AV}{get:Nat->J aT}{ab:Out}(hg:∀k o,get k=some o->obj k=some o)
 {r:Operand->Value} (hρ:∀x,VR P β w I (ρ x) (r x)) (ha:qg T i o cL ρ get=some ab) (cV:ab.ob):so P w0 O0 β I obj w i ab ((execOp r o).run P w):=by
 obtain⟨dst,op,ty,ao,after,guard⟩:=o;have val:∀{s:Sem Value}{z:Value},s.run P w= .ok z w->ab.upd=[]->VR P β w I ab.v z->so P w0 O0 β I obj w i ab ((do pure (.value (<- s)):Sem Next).run P w):=by
  intro s z h1 h2 h3;refine⟨z,w,β,I,.inl (by simp[h1]),Step.refl ..,by rw[h2];exact h,h3⟩
 have val':∀{s:Sem Value} {z:Value} {w':World} {β':Nat->J cT},s.run P w= .ok z w'->Step β I w (cR i) β' I w'->Mem P w0 O0 β' I (dm obj ab.upd) w'->VR P β' w' I ab.v z->so P w0 O0 β I obj w i ab ((do pure (.value (<- s)):Sem Next).run P w):=by
  intro s z w' β' h1 h2 h3 h4;exact⟨z,w',β',I,.inl (by simp[h1]),h2,h3,h4⟩
 unfold qg at ha;split at ha
 .rename_i x heq;simp only at heq;subst heq;simp only[pv,aA]at ha;subst ha;exact so.pure h (hρ x)
 .rename_i x heq;simp only at heq;subst heq;simp only[pv,aA]at ha;subst ha;exact so.pure h (hρ x)
 .rename_i c a b heq;simp only at heq;subst heq;split at ha
  .rename_i t hc;simp only[pv,aA]at ha;subst ha;have h1:=hρ c;rw[hc]at h1;simp only[VR,TR]at h1;refine⟨if t then r a else r b,w,β,I,.inl ?_,Step.refl ..,h,?_⟩
   .simp only[execOp,h1.1,asBool];simp
   .rw[U1];cases t
    .exact hρ b
    .exact hρ a
  .cases ha
 .rename_i e heq;simp only at heq;subst heq;have⟨u,w',β',h1,h2,h3,h4⟩:=aaZ hT h hn ha;exact val' h1 h2 h3 h4
 .rename_i e x heq;simp only at heq;subst heq;have⟨u,w',β',h1,h2,h3,h4⟩:=afW (e:=e) h hn ha (hρ x);exact val' h1 h2 h3 h4
 .rename_i t parts heq;simp only at heq;subst heq;obtain⟨z,h1,h2,h3⟩:=aa3 (w:=w) (P:=P) (β:=β) (I:=I) (vs:=parts.map λ(i,x)=>(i,r x)) hT ha (by simp) (by
   simp only[Array.toList_map,map_map];have hm:=bj.map (λ x=>hρ x) (parts.toList.map (·.2));simp only[map_map]at hm;exact hm)
  exact val h1 h3 h2
 .rename_i t len parts heq;simp only at heq;subst heq;obtain⟨z,w',β',h1,h2,h3,h4⟩:=Mx (vs:=parts.map λ(i,x)=>(i,r x)) hT h hn ha (by simp) (by
   simp only[Array.toList_map,map_map];have hm:=bj.map (λ x=>hρ x) (parts.toList.map (·.2));simp only[map_map]at hm;exact hm)
  exact val' h1 h2 h3 h4
 .rename_i t a heq;simp only at heq;subst heq;have⟨u,h1,h2,h3⟩:=Rl hT h hg ha cV (hρ a);exact val h1 h3 h2
 .rename_i t a x heq;simp only at heq;subst heq;have⟨w',h1,h2,h3,h4⟩:=aaY hT h hg ha cV (hρ a) (hρ x);exact⟨undef,w',β,I,.inr ⟨by simp[execOp,h1],rfl⟩,⟨λ _ _=>rfl,λ_ _ h=>h,h2,λ_ h=>h⟩,h3,by rw[h4];simp[VR]⟩
 .rename_i op t x y yt heq;simp only at heq;subst heq;have⟨z,h1,h2,h3⟩:=afX (xo:=x) (yo:=y) hT ha cV (hρ x) (hρ y);exact val h1 h3 h2
 .rename_i op t x heq;simp only at heq;subst heq;have⟨z,h1,h2,h3⟩:=aje ha (hρ x);exact val h1 h3 h2
 .rename_i f first caps heq
  simp only at heq;subst heq;simp only[pv,aA]at ha;subst ha;refine⟨.func (.func f) (first.map r) (caps.map r),w,β,I,.inl ?_,Step.refl ..,h,?_⟩
  .simp[execOp,Instr.makeFunc]
  .simp only[VR];exact⟨_,_,rfl,by rw[Array.toList_map];exact bj.map hρ _,by rw[Array.toList_map];exact bj.map hρ _⟩
 .rename_i t x lo hi heq;simp only at heq;subst heq
  obtain⟨u,h1,h2,h3⟩:=aa4 (tt:=lo.map r) (hiv:=hi.map r) hT h hg ha cV (hρ x)
   (λ y hy=>by
    cases lo with
    |none=>simp at hy
    |some z=>simp at hy;subst hy;exact⟨r z,rfl,hρ z⟩) (λ hy=>by cases lo<;>simp at hy ⊢)
   (λ y hy=>by
    cases hi with
    |none=>simp at hy
    |some z=>simp at hy;subst hy;exact⟨r z,rfl,hρ z⟩) (λ hy=>by cases hi<;>simp at hy ⊢)
  exact val h1 h3 h2
 .rename_i t x f heq;simp only at heq;subst heq;have⟨u,h1,h2,h3⟩:=Pk hT ha (hρ x);exact val h1 h3 h2
 .rename_i t x f heq;simp only at heq;subst heq;have⟨u,h1,h2,h3⟩:=aa0 hT ha (hρ x);exact val h1 h3 h2
 .rename_i t x j heq;simp only at heq;subst heq;have⟨u,h1,h2,h3⟩:=Pm hT h hg ha cV (hρ x) (hρ j);exact val h1 h3 h2
 .rename_i x j heq;simp only at heq;subst heq;have⟨u,h1,h2,h3⟩:=U2 ha (hρ x);exact val h1 h3 h2
 .rename_i b args cX heq;simp only at heq;subst heq;exact U4 (ty:=ty) hT h hn hg (vs:=args.map r) ha cV (by rw[Array.toList_map];exact bj.map hρ _) rfl
 .cases ha
end
def Tree.flat:Tree->Prop
 | .sc _=>True
 | .sl _=>False
def TV.flat:TV->Prop
 | .s x=>x.flat
 | .a cs=>∀x∈cs,x.flat
def RC.flat:RC->Prop
 | .d x=>x.flat
 | .fresh _ rows=>∀r∈rows,∀x∈r,x.flat
 | .whole _ _=>True
def RV.flat:RV->Prop
 | .one c=>c.flat
 | .eV cs=>∀c∈cs,c.flat
def Kh(i:Nat)(ae:U Nat):RC->AV×List (Nat×Option aT)
 | .whole j len=>(match ae[j]? with |some k=> .own k 0 len |none=> .undef,[])
 | .d x=>(x.av,[])
 | .fresh sz rows=>(.own (cR i) 0 (aI rows).length,[(cR i,some ⟨sz,aI rows⟩)])
def MB(i:Nat)(ae:U Nat):U RC->J (List AV×List (Nat×Option aT))
 |[]=>some ([],[])
 |c::cs=>(MB i ae cs).bind λp=>if (Kh i ae c).2.isEmpty || p.2.isEmpty then some ((Kh i ae c).1::p.1,(Kh i ae c).2++p.2)else none
def imp(i:Nat)(ae:U Nat):RV->J (AV×List (Nat×Option aT))
 | .one c=>some (Kh i ae c)
 | .eV cs=>(MB i ae cs).bind λp=>some (.eV p.1,p.2)
mutual
def nT(P:Program)(get:Nat->Option aT):AV->List LH->Option (AV×List LH×List Prop)
 | .t x,hs=>some (.t x,hs,[])
 | .agg cs,hs=>(mG P get cs hs).bind λp=>some (.agg p.1,p.2.1,p.2.2)
 | .eV _,_=>none
 | .own k aa len,hs=>match hs with
  | .rows tr::hs=>(get k).bind λo=>some (.t (.sl tr),hs,[(o.rows.drop aa).take len=aI tr/\tr.length=len])
  |_=>none
 | .ptr k row aa,hs=>match hs with
  | .row tr::hs=>(get k).bind λo=>some (.eM tr aa,hs,[o.rows[row]? =some (tr.map AV.t)])
  |_=>none
 | .eM r o,hs=>some (.eM r o,hs,[])
 | .fn f first caps,hs=>match hs with
  | .fn::hs=>(mG P get first hs).bind λp=>(mG P get caps p.2.1).bind λq=>some (.fn f p.1 q.1,q.2.1,p.2.2++q.2.2)
  | .ek φ::hs=>(mG P get first hs).bind λp=>(mG P get caps p.2.1).bind λq=>
   some (.ek φ,q.2.1,p.2.2++(q.2.2++[p.1=[]/\eU P f/\∀args r,φ args r->rh P f (p.1++args.map TV.av++q.1) (.one (.d r))]))
  |_=>none
 | .ek φ,hs=>some (.ek φ,hs,[])
 | .mp _,_=>none
 | .oz k len,hs=>match hs with
  | .rows tr::hs=>(get k).bind λo=>some (.t (.sl tr),hs,[(o.rows.drop 0).take len=aI tr/\tr.length=len])
  |_=>none
 | .da,hs=>match hs with
  | .nil::hs=>some (.da,hs,[])
  | .emp::hs=>some (.t (.sl []),hs,[])
  |_=>none
 | .ub,_=>none
 | .undef,_=>none
def mG(P:Program)(get:Nat->Option aT):List AV->List LH->Option (List AV×List LH×List Prop)
 |[],hs=>some ([],hs,[])
 |x::xs,hs=>(nT P get x hs).bind λp=>(mG P get xs p.2.1).bind λq=>some (p.1::q.1,q.2.1,p.2.2++q.2.2)
end
def xC(P:Program)(i:Nat)(f:AV)(args:U AV)(cL:ka)(get:Nat->J aT):J Out:=
 match f,cL with
 | .fn F first caps,.call hs rv keep=>(imp i [] rv).bind λp=>(mG P get (first++args++caps) hs).bind λq=>
  if keep then some ⟨p.1,p.2,q.2.2++[rh P F q.1 rv,rv.flat]⟩
  else some ⟨p.1,p.2++(eX (first++args++caps)).map (λ k=>(k,none)),q.2.2++[rh P F q.1 rv]⟩
 | .ek φ,.DE hs targs r keep=>(mG P get args hs).bind λq=>
  if keep then some ⟨r.av,[],q.2.2++[q.1=targs.map TV.av,φ targs r,r.flat]⟩
  else some ⟨r.av,(eX args).map (λ k=>(k,none)),q.2.2++[q.1=targs.map TV.av,φ targs r]⟩
 |_,_=>none
def zW(P:Program)(w0:World)(O0:ky)(β:Nat->J cT)(I:Nat->Prop)(obj:Nat->J aT)(w:World)(i:Nat)(ab:Out)(r:Result Next):Prop:=
 ∃F args,r= .ok (.enter F args) w/\Calls P F args w λe w'=>∃v' β' I',e= .returned v'/\Step β I w (cR i) β' I' w'/\Mem P w0 O0 β' I' (dm obj ab.upd) w'/\VR P β' w' I' ab.v v'
section
variable {P:Program} {T:eo} {w0:World} {O0:ky} {β:Nat->Option cT} {I:Nat->Prop} {obj:Nat->Option aT} {w:World} {i:Nat}
mutual
theorem fh.weaken{get get':Nat->Option aT}(h:∀k o,get k=some o->get' k=some o):∀(xs ys:List AV),fh P get xs ys->fh P get' xs ys
 |[],[],_=>by simp[fh]
 |x::xs,y::ys,hb=>by simp only[fh]at hb ⊢;exact⟨fY.weaken h x y hb.1,fh.weaken h xs ys hb.2⟩
 |[],_::_,hb=>by simp[fh]at hb
 |_::_,[],hb=>by simp[fh]at hb
theorem fY.weaken{get get':Nat->Option aT}(h:∀k o,get k=some o->get' k=some o):∀(x y:AV),fY P get x y->fY P get' x y
 | .t _,_,hb=>by simpa[fY]using hb
 | .agg cs,y,hb=>by
  simp only[fY]at hb ⊢;obtain⟨cs',h1,h2⟩:=hb;exact⟨cs',h1,fh.weaken h cs cs' h2⟩
 | .eV _,_,hb=>by simp[fY]at hb
 | .own k aa len,y,hb=>by
  simp only[fY]at hb ⊢;obtain⟨o,tr,h1,h2⟩:=hb;exact⟨o,tr,h k o h1,h2⟩
 | .ptr k row aa,y,hb=>by
  simp only[fY]at hb ⊢;obtain⟨o,tr,h1,h2⟩:=hb;exact⟨o,tr,h k o h1,h2⟩
 | .eM _ _,_,hb=>by simpa[fY]using hb
 | .fn f first caps,y,hb=>by
  simp only[fY]at hb ⊢;obtain⟨a,b,h1,h2,h3⟩:=hb;exact⟨a,b,fh.weaken h first a h1,fh.weaken h caps b h2,h3⟩
 | .ek _,_,hb=>by simpa[fY]using hb
 | .oz k len,y,hb=>by
  simp only[fY]at hb ⊢;obtain⟨o,tr,h1,h2⟩:=hb;exact⟨o,tr,h k o h1,h2⟩
 | .da,_,hb=>by simpa[fY]using hb
 | .ub,_,hb=>by simp[fY]at hb
 | .undef,_,hb=>by simp[fY]at hb
end
mutual
theorem D6{get:Nat->Option aT}:∀(x:AV)(hs:List LH)(p:AV×List LH×List Prop),nT P get x hs=some p->(∀ q∈p.2.2,q)->fY P get x p.1
 | .t x,hs,p,h,_=>by simp only[nT,aA]at h;subst h;simp[fY]
 | .agg cs,hs,p,h,ho=>by
  simp only[nT,ai,aA]at h;obtain⟨q,h1,rfl⟩:=h;simp only[fY];exact⟨_,rfl,jR cs hs q h1 ho⟩
 | .eV _,_,_,h,_=>by simp[nT]at h
 | .own k aa len,hs,p,h,ho=>by
  simp only[nT]at h;split at h
  .simp only[ai,aA]at h;obtain⟨o,h1,rfl⟩:=h;have h2:=ho _ (aP.2 rfl);simp only[fY];exact⟨o,_,h1,rfl,h2.1,h2.2⟩
  .cases h
 | .ptr k row aa,hs,p,h,ho=>by
  simp only[nT]at h;split at h
  .simp only[ai,aA]at h;obtain⟨o,h1,rfl⟩:=h;have h2:=ho _ (aP.2 rfl);simp only[fY];exact⟨o,_,h1,rfl,h2⟩
  .cases h
 | .eM r o,hs,p,h,_=>by simp only[nT,aA]at h;subst h;simp[fY]
 | .fn f first caps,hs,p,h,ho=>by
  simp only[nT]at h;split at h
  .simp only[ai,aA]at h;obtain⟨q,h1,q',h2,rfl⟩:=h;simp only[fY];exact⟨q.1,q'.1,jR first _ q h1 (λ x hx=>ho x (by simp[hx])),jR caps _ q' h2 (λ x hx=>ho x (by simp[hx])),.inl rfl⟩
  .simp only[ai,aA]at h;obtain⟨q,h1,q',h2,rfl⟩:=h;have h3:=ho _ (by simp only[aZ,aP];exact .inr (.inr rfl));simp only[fY];exact⟨q.1,q'.1,jR first _ q h1 (λ x hx=>ho x (by simp[hx])),jR caps _ q' h2 (λ x hx=>ho x (by simp[hx])),.inr ⟨_,rfl,h3.1,h3.2⟩⟩
  .cases h
 | .ek φ,hs,p,h,_=>by simp only[nT,aA]at h;subst h;simp[fY]
 | .mp _,_,_,h,_=>by simp[nT]at h
 | .oz k len,hs,p,h,ho=>by
  simp only[nT]at h;split at h
  .simp only[ai,aA]at h;obtain⟨o,h1,rfl⟩:=h;have h2:=ho _ (aP.2 rfl);simp only[fY];exact⟨o,_,h1,rfl,h2.1,h2.2⟩
  .cases h
 | .da,hs,p,h,_=>by
  simp only[nT]at h;split at h
  .cases h;simp[fY]
  .cases h;simp[fY]
  .cases h
 | .ub,_,_,h,_=>by simp[nT]at h
 | .undef,_,_,h,_=>by simp[nT]at h
theorem jR{get:Nat->Option aT}:∀(xs:List AV)(hs:List LH)(p:List AV×List LH×List Prop),mG P get xs hs=some p->(∀ q∈p.2.2,q)->fh P get xs p.1
 |[],hs,p,h,_=>by simp only[mG,aA]at h;subst h;simp[fh]
 |x::xs,hs,p,h,ho=>by
  simp only[mG,ai,aA]at h;obtain⟨q,h1,q',h2,rfl⟩:=h;simp only[fh];exact⟨D6 x hs q h1 (λ y hy=>ho y (by simp[hy])),jR xs _ q' h2 (λ y hy=>ho y (by simp[hy]))⟩
end
theorem qE:∀(l:U Prop),jk l->∀p∈l,p
 |[],_,_,hp=>by simp at hp
 |[q],h,p,hp=>by rw[aP]at hp;rw[hp];exact h
 |q::r::l,h,p,hp=>by
  rcases aO.1 hp with e |hp
  .rw[e];exact h.1
  .exact qE (r::l) h.2 p hp
theorem Tree.mn{w':World}{I':Nat->Prop}:∀{x:Tree}{v:Value},x.flat->TR w I x v->TR w' I' x v
 | .sc _,_,_,h=>by simpa[TR]using h
 | .sl _,_,hf,_=>hf.elim
theorem TV.vA{w':World}{I':Nat->Prop}:∀{x:TV}{v:Value},x.flat->ro w I x v->ro w' I' x v
 | .s _,_,hf,h=>Tree.mn hf h
 | .a cs,v,hf,⟨vs,h1,h2⟩=>by
  refine⟨vs,h1,?_⟩;have:∀(cs:U Tree)(vs:U Value),(∀ x∈cs,x.flat)->ff w I cs vs->ff w' I' cs vs:=by
   intro cs
   induction cs with
   |nil=>intro vs _ h;cases vs with
    |nil=>trivial
    |cons=>exact h.elim
   |cons x xs ih=>intro vs hf h;cases vs with
    |nil=>exact h.elim
    |cons v vs=>exact⟨Tree.mn (hf x (by simp)) h.1,ih vs (λ y hy=>hf y (by simp[hy])) h.2⟩
  exact this cs vs.toList hf h2
theorem bp.flat{β':Nat->J cT}{w':World}{I':Nat->Prop}(rows:U (List Tree))(c:Array Value)(aa sz:Nat)(hf:∀r∈rows,∀x∈r,Tree.flat x)(h:bp P β w I (aI rows) c aa sz):bp P β' w' I' (aI rows) c aa sz:=by
 rw[ow]at h ⊢;intro i r hr;have⟨h1,h2⟩:=h i r hr;refine⟨h1,?_⟩;rw[jo]at h2 ⊢;intro j x hx;have⟨v,g1,g2,g3⟩:=h2 j x hx;refine⟨v,g1,?_,g3⟩;simp only[aI,List.getElem?_map,dN]at hr;obtain⟨r',hr',rfl⟩:=hr;simp only[List.getElem?_map,dN]at hx;obtain⟨x',hx',rfl⟩:=hx;simp only[VR]at g2 ⊢;exact Tree.mn (hf r' (dw hr') x' (dw hx')) g2
theorem TV.I0{x:TV}{v:Value}(h:ro w I x v):VR P β w I x.av v:=by
 cases x with
 |s x=>simp only[TV.av,VR];exact h
 |a cs=>
  obtain⟨vs,rfl,h⟩:=h;simp only[TV.av,VR];refine⟨vs,rfl,?_⟩;have:∀(cs:U Tree)(us:U Value),ff w I cs us->bj P β w I (cs.map AV.t) us:=by
   intro cs
   induction cs with
   |nil=>intro us h;cases us with
    |nil=>simp[bj]
    |cons=>simp[ff]at h
   |cons x xs ih=>intro us h;cases us with
    |nil=>simp[ff]at h
    |cons y ys=>simp only[ff]at h;simp only[aF,bj,VR];exact⟨h.1,ih _ h.2⟩
  exact this cs vs.toList h
theorem Mem.fresh{i:Nat}{obj:Nat->J aT}{F:Nat->Prop}{sz:Nat}{rows:U (List Tree)}{v:Value}(h:Mem P w0 O0 β I obj w)(hn:β i=none)(hlt:∀k o b,obj k=some o->fL β k b->¬F b)(hle:∀b,F b->O0.own b\/w0.heap.size<=b)(hf:P1 P F sz rows w I v):
 ∃ β',Step β I w i β' I w/\Mem P w0 O0 β' I (dm obj [(i,some ⟨sz,aI rows⟩)]) w/\VR P β' w I (.own i 0 rows.length) v:=by
 rcases hf with ⟨rfl,rfl⟩ |⟨b,c,e,cap,o,s,rfl,h1,h2,h3,h4,h5,h6,h7⟩
 .have⟨hS,hM⟩:=Mem.pC (i:=i) (o:=⟨sz,aI []⟩) h hn rfl;exact⟨_,hS,hM,by simp only[VR];exact .inl ⟨by simp[ins],trivial,trivial,rfl⟩⟩
 .have hsl:s<=c.size:=by omega
  have hS:Step β I w i (ins β i (.at b sz ⟨c.size,s,hsl⟩)) I w:=⟨λ j hj=>by simp[ins,jj.ne hj],nu hn,λ_ _=>rfl,λ_ h=>h⟩;refine⟨_,hS,?_,by simp only[VR];exact .inr ⟨b,sz,⟨c.size,s,hsl⟩,cap,o,by simp[ins],rfl,h4,by simpa using h5,λhc=>by simpa using h7 hc⟩⟩;have hbl:b<w.heap.size:=(Array.getElem?_eq_some_iff.1 h3).1;constructor
  .intro k o' hk;simp only[dm]at hk;split at hk
   .cases hk;rename_i hki;exact⟨.at b sz ⟨c.size,s,hsl⟩,by simp[ins,hki],rfl,c,e,h3,rfl,bp.mono (λ k B h=>by simp[mm]at h) (λ _ _=>rfl) (λ _ h=>h) _ _ _ _ h6⟩
   .have⟨B,hB,hO⟩:=h.cP k o' hk;exact⟨B,nu hn _ _ hB,OR.mono hS.ext hS.same hS.inc (λ _ _=>rfl) hO⟩
  .intro k k' o1 o2 B1 B2 b1 e1 e2 e3 e4 e5 e6;simp only[dm]at e1 e2;simp only[ins]at e3 e4;split at e3<;>split at e4
   .rename_i p q;rw[p,q]
   .rename_i p q;cases e3;cases e5;rw[aS q]at e2;exact(hlt k' o2 _ e2 ⟨_,e4,e6⟩ h1).elim
   .rename_i p q;cases e4;cases e6;rw[aS p]at e1;exact(hlt k o1 _ e1 ⟨_,e3,e5⟩ h1).elim
   .rename_i p q;rw[aS p]at e1;rw[aS q]at e2;exact h.gS k k' o1 o2 B1 B2 b1 e1 e2 e3 e4 e5 e6
  .intro k o' B1 b1 e1 e2 e3;simp only[dm]at e1;simp only[ins]at e2;split at e2
   .cases e2;cases e3;exact⟨h2,hbl,hle _ h1⟩
   .rename_i p;rw[aS p]at e1;exact h.ownB k o' B1 b1 e1 e2 e3
  .exact h.lt
  .exact h.up
  .exact h.keep
  .exact h.le
  .exact h.os
  .exact h.tape
  .exact h.output
  .intro j C hj;exact nu hn _ _ (h.anch j C hj)
  .exact h.vars
theorem U5{i:Nat}{ae:U Nat}{F:Nat->Prop}{βc:Nat->J cT}{c:RC}{v:Value}(h:Mem P w0 O0 β I obj w)(hn:β (cR i)=none)(hlt:∀k o b,obj k=some o->fL β k b->¬F b)(hle:∀b,F b->O0.own b\/w0.heap.size<=b)(hbc:∀j B,βc j=some B->∃k,ae[j]? =some k/\β k=some B)(hc:yn P F βc c w I v):
 ∃ β',Step β I w (cR i) β' I w/\Mem P w0 O0 β' I (dm obj (Kh i ae c).2) w/\VR P β' w I (Kh i ae c).1 v/\((Kh i ae c).2=[]->β'=β):=by
 cases c with
 |d x=>exact⟨β,Step.refl ..,h,TV.I0 hc,λ_=>rfl⟩
 |fresh sz rows=>
  have⟨β',h1,h2,h3⟩:=Mem.fresh (i:=cR i) h hn hlt hle hc;exact⟨β',h1,h2,by simpa[Kh,aI]using h3,λh=>by simp[Kh]at h⟩
 |whole j len=>
  refine⟨β,Step.refl ..,h,?_,λ_=>rfl⟩;have hc:VR P βc w I (.own j 0 len) v:=hc;simp only[VR]at hc;have key:∀B,βc j=some B->∃k,ae[j]? =some k/\β k=some B:=hbc j;simp only[Kh];rcases hc with ⟨g1,g2⟩ |⟨b,sz,n,cap,o,g1,g2⟩
  .obtain⟨k,e1,e2⟩:=key _ g1;simp only[e1,VR];exact .inl ⟨e2,g2⟩
  .obtain⟨k,e1,e2⟩:=key _ g1;simp only[e1,VR];exact .inr ⟨b,sz,n,cap,o,e2,g2⟩
theorem U6{i:Nat}{ae:U Nat}{F:Nat->Prop}{βc:Nat->J cT}:∀(cs:U RC)(vs:U Value)(p:U AV×List (Nat×Option aT)),Mem P w0 O0 β I obj w->β (cR i)=none->(∀ k o b,obj k=some o->fL β k b->¬F b)->(∀ b,F b->O0.own b\/w0.heap.size<=b)->(∀ j B,βc j=some B->∃k,ae[j]? =some k/\β k=some B)->
 MB i ae cs=some p->Sw P F βc cs w I vs->∃ β',Step β I w (cR i) β' I w/\Mem P w0 O0 β' I (dm obj p.2) w/\bj P β' w I p.1 vs/\(p.2=[]->β'=β)
 |[],[],p,h,_,_,_,_,hp,_=>by simp only[MB,aA]at hp;subst hp;exact⟨β,Step.refl ..,h,by simp[bj],λ_=>rfl⟩
 |c::cs,v::vs,p,h,hn,hlt,hle,hbc,hp,hr=>by
  simp only[Sw]at hr;simp only[MB]at hp;cases hq:MB i ae cs with
  |none=>simp[hq]at hp
  |some q=>
   simp only[hq,af]at hp;split at hp
   .rename_i hem;simp only[aA]at hp;subst hp;have⟨β1,g1,g2,g3,g4⟩:=U5 (i:=i) h hn hlt hle hbc hr.1;have⟨β2,k1,k2,k3,k4⟩:=U6 cs vs q h hn hlt hle hbc hq hr.2;have B4:(Kh i ae c).2=[]\/q.2=[]:=(by simpa using hem);rcases B4 with hem |hem
    .have:=g4 hem;subst this;refine⟨β2,k1,by simpa[hem]using k2,?_,λh0=>k4 (by simpa[hem]using h0)⟩;simp only[bj];exact⟨VR.mono k1.ext k1.same k1.inc _ _ g3,k3⟩
    .have:=k4 hem;subst this;refine⟨β1,g1,by simpa[hem]using g2,?_,λh0=>g4 (by simpa[hem]using h0)⟩;simp only[bj];exact⟨g3,bj.mono g1.ext g1.same g1.inc _ _ k3⟩
   .cases hp
 |[],_::_,_,_,_,_,_,_,_,hr=>by simp[Sw]at hr
 |_::_,[],_,_,_,_,_,_,_,hr=>by simp[Sw]at hr
theorem Pn{i:Nat}{ae:U Nat}{F:Nat->Prop}{βc:Nat->J cT}{rv:RV}{v:Value}{p:AV×List (Nat×Option aT)}(h:Mem P w0 O0 β I obj w)(hn:β (cR i)=none)(hlt:∀k o b,obj k=some o->fL β k b->¬F b)(hle:∀b,F b->O0.own b\/w0.heap.size<=b)(hbc:∀j B,βc j=some B->∃k,ae[j]? =some k/\β k=some B)
 (hp:imp i ae rv=some p) (hr:rx P F βc rv w I v):∃ β',Step β I w (cR i) β' I w/\Mem P w0 O0 β' I (dm obj p.2) w/\VR P β' w I p.1 v:=by
 cases rv with
 |one c=>
  simp only[imp,aA]at hp;subst hp;have⟨β',h1,h2,h3,_⟩:=U5 (i:=i) h hn hlt hle hbc hr;exact⟨β',h1,h2,h3⟩
 |eV cs=>
  simp only[imp]at hp;cases hq:MB i ae cs with
  |none=>simp[hq]at hp
  |some q=>
   simp only[hq,af,aA]at hp;subst hp;obtain⟨vs,rfl,hvs⟩:=hr;have⟨β',h1,h2,h3,_⟩:=U6 (i:=i) cs vs.toList q h hn hlt hle hbc hq hvs;exact⟨β',h1,h2,by simp only[VR];exact⟨vs,rfl,h3⟩⟩
theorem rU(obj:Nat->J aT):∀(a b:U (Nat×Option aT))(k:Nat),dm obj (a++b) k=dm (dm obj b) a k
 |[],_,_=>rfl
 |(j,o)::a,b,k=>by simp only[cons_append,dm,rU obj a b k]
theorem yh(obj:Nat->J aT):∀(ae:U Nat)(k:Nat),dm obj (ae.map λk=>(k,none)) k=if k∈ae then none else obj k
 |[],k=>by simp[dm]
 |j::ae,k=>by
  simp only[aF,dm,yh obj ae k,aO];by_cases h:k=j<;>simp[h]
end
section
variable {P:Program} {T:eo} {w0:World} {O0:ky} {β:Nat->Option cT} {I:Nat->Prop} {obj:Nat->Option aT} {w:World} {i:Nat}
theorem rx.flat{F:Nat->Prop}{βc:Nat->J cT}{w':World}{I' E0:Nat->Prop}{rv:RV}{v:Value}(hf:rv.flat)(hI:∀b,E0 b->I' b)(h:rx P F βc rv w' I' v):rx P F βc rv w' E0 v:=by
 have hc:∀(c:RC)(v:Value),c.flat->yn P F βc c w' I' v->yn P F βc c w' E0 v:=by
  intro c v hf h;cases c with
  |d x=>exact TV.vA hf h
  |fresh sz rows=>
   rcases h with h |⟨b,c,e,cap,o,s,h1,h2,h3,h4,h5,h6,h7,h8⟩
   .exact .inl h
   .exact .inr ⟨b,c,e,cap,o,s,h1,h2,λhb=>h3 (hI b hb),h4,h5,h6,bp.flat rows c s sz hf h7,h8⟩
  |whole j len=>have h:VR P βc w' I' (.own j 0 len) v:=h;show VR P βc w' E0 (.own j 0 len) v;simp only[VR]at h ⊢;exact h
 cases rv with
 |one c=>exact hc c v hf h
 |eV cs=>
  obtain⟨vs,rfl,h⟩:=h;refine⟨vs,rfl,?_⟩;have:∀(cs:U RC)(vs:U Value),(∀ c∈cs,c.flat)->Sw P F βc cs w' I' vs->Sw P F βc cs w' E0 vs:=by
   intro cs
   induction cs with
   |nil=>intro vs _ h;cases vs with
    |nil=>trivial
    |cons=>exact h.elim
   |cons c cs ih=>intro vs hf h;cases vs with
    |nil=>exact h.elim
    |cons v vs=>exact⟨hc c v (hf c (by simp)) h.1,ih vs (λ y hy=>hf y (by simp[hy])) h.2⟩
  exact this cs vs.toList hf h
theorem U7(h:Mem P w0 O0 β I obj w)(hn:β (cR i)=none){ae:U Nat}{rv:RV}{p:AV×List (Nat×Option aT)}{keep:Bool}(hp:imp i [] rv=some p)(hk:keep=true->rv.flat)
 {w':World} {I1:Nat->Prop} {v:Value} (hb:Below w.heap.size w w') (h1:∀b,gb β obj ae I b->I1 b) (h2:∀b,I1 b->b<w'.heap.size) (h3:∀b,I1 b->gb β obj ae I b\/w.heap.size<=b) (hr:rx P (MM w) mm rv w' I1 v):
 ∃ β' I',Step β I w (cR i) β' I' w'/\Mem P w0 O0 β' I' (dm obj (p.2++if keep then []else ae.map (λ k=>(k,none)))) w'/\VR P β' w' I' p.1 v:=by
 have hlt:∀(oe:Nat->J aT),(∀ k o,oe k=some o->obj k=some o)->∀k o b,oe k=some o->fL β k b->¬MM w b:=λoe hs k o b e1 e2 hb=>Nat.lt_irrefl _ (Nat.lt_of_lt_of_le (h.jt k o b (hs k o e1) e2).2.1 hb);have hnew:∀b,MM w b->O0.own b\/w0.heap.size<=b:=λb hb=> .inr (Nat.le_trans h.le hb);have hup:∀b,I1 b->O0.HH b\/O0.own b\/w0.heap.size<=b:=λb hb'=>by
  rcases h3 b hb' with (h5 |⟨k',o',s',n',g1,g2,g3⟩) |h5
  .exact h.up b h5
  .exact .inr (h.own k' o' b s' n' g2 g3).2.2
  .exact .inr (.inr (Nat.le_trans h.le h5))
 cases keep with
 |true=>
  obtain⟨hS,hM⟩:=h.below (I':=λb=>I1 b/\(I b\/w.heap.size<=b)) hb (λ b hb'=>⟨h1 b (.inl hb'),.inl hb'⟩) (λ b hb'=>h2 b hb'.1) (λ b k o B hb' e1 e2 e3=>by
   have⟨a1,a2,_⟩:=h.ownB k o B b e1 e2 e3;rcases hb'.2 with h5 |h5
   .exact a1 h5
   .omega) (λ b hb'=>hup b hb'.1)
  obtain⟨β',k1,k2,k3⟩:=Pn hM hn (hlt obj (λ _ _ h=>h)) hnew (λ _ _ h=>by cases h) hp (rx.flat (hk rfl) (λ b hb=>hb.1) hr);refine⟨β',_,⟨k1.other,k1.ext,hS,λb hb'=>⟨h1 b (.inl hb'),.inl hb'⟩⟩,?_,k3⟩;simpa using k2
 |false=>
  have hsub:∀k o,dm obj (ae.map λk=>(k,none)) k=some o->obj k=some o/\k∉ae:=by
   intro k o hk;rw[yh]at hk;split at hk
   .cases hk
   .exact⟨hk,‹_›⟩
  have hd:=h.drop (dm obj (ae.map λk=>(k,none))) (λ k o hk=>(hsub k o hk).1);obtain⟨hS,hM⟩:=hd.below (I':=I1) hb (λ b hb'=>h1 b (.inl hb')) h2 (λ b k o B hb' e1 e2 e3=>by
   have⟨f1,f2⟩:=hsub k o e1;have⟨a1,a2,_⟩:=h.ownB k o B b f1 e2 e3;rcases h3 b hb' with (h5 |⟨k',o',s',n',g1,g2,g3⟩) |h5
   .exact a1 h5
   .have:=h.lP k k' o o' b f1 g2 ⟨B,e2,e3⟩ (.at g3);subst this;exact f2 g1
   .omega) hup
  obtain⟨β',k1,k2,k3⟩:=Pn hM hn (hlt _ (λ k o hk=>(hsub k o hk).1)) hnew (λ _ _ h=>by cases h) hp hr;refine⟨β',I1,⟨k1.other,k1.ext,hS,λb hb'=>h1 b (.inl hb')⟩,?_,k3⟩;simp only[Bool.false_eq_true,if_false];have e:dm obj (p.2++ae.map λk=>(k,none))=dm (dm obj (ae.map λk=>(k,none))) p.2:=funext λk=>rU obj _ _ k;rw[e];exact k2
theorem MC(h:Mem P w0 O0 β I obj w)(ae:U Nat):∀b,gb β obj ae I b->b<w.heap.size:=by
 intro b hb;rcases hb with hb |⟨k,o,s,n,_,h2,h3⟩
 .exact h.lt b hb
 .exact(h.own k o b s n h2 h3).2.1
theorem YC(h:Mem P w0 O0 β I obj w)(hn:β (cR i)=none){f:AV}{args:U AV}{cL:ka}{get:Nat->J aT}{ab:Out}(hg:∀k o,get k=some o->obj k=some o)
 {fv:Value} {vs:Array Value} {al:Array Operand} {fo:Operand} {r:Operand->Value} (ha:xC P i f args cL get=some ab) (cV:ab.ob) (hf:VR P β w I f fv) (hv:bj P β w I args vs.toList) (hfo:r fo=fv) (hops:vs=al.map r)
 {dst:J Tmp} {ao:String} {after:Array Edge} {guard:J (Nat×Bool)} {ty:TypeId} {cX:Array TypeId}:
 zW P w0 O0 β I obj w i ab ((execOp r ⟨dst,.call { callee:= .value fo,args:=al,argTypes:=cX },ty,ao,after,guard⟩).run P w):=by
 have enter : ∀ (F : FuncId) (first caps : Array Value) (args' : Array Value), (∃ fn, P.funcs[F]? = some fn /\ fn.body.isSome = true /\ (fn.name == "runtime.NumGoroutine") = false) -> fv = .func (.func F) first caps -> args' = first ++ vs ++ caps ->
  (execOp r ⟨dst,.call { callee:= .value fo,args:=al,argTypes:=cX },ty,ao,after,guard⟩).run P w= .ok (.enter F args') w:=by
  rintro F first caps args' ⟨fn,e1,e2,e3⟩ e4 rfl
  have hb:¬fn.body=none:=by cases hh:fn.body<;>simp[hh]at e2 ⊢
  have e3' : ¬ fn.name = "runtime.NumGoroutine" := by simpa using e3
  simp[execOp,resolve,hfo,e4,<- hops,Deferred.ofValue,invoke,callFunc,e1,e3',hb]
 unfold xC at ha;split at ha
 .rename_i F first caps hs rv keep
  cases hp:imp i [] rv with
  |none=>simp[hp]at ha
  |some p=>
   cases hq:mG P get (first++args++caps) hs with
   |none=>simp only[hp,hq,af,Option.bind_none,reduceCtorEq]at ha
   |some q=>
   simp only[hp,hq,af]at ha;simp only[VR]at hf;obtain⟨fs,cs,rfl,hf1,hf2⟩:=hf
   have fin:∀(keep:Bool),fh P get (first++args++caps) q.1->rh P F q.1 rv->(keep=true->rv.flat)->
    ab=⟨p.1,p.2++(if keep then []else(eX (first++args++caps)).map (λ k=>(k,none))),ab.obs⟩->zW P w0 O0 β I obj w i ab ((execOp r ⟨dst,.call { callee:= .value fo,args:=al,argTypes:=cX },ty,ao,after,guard⟩).run P w):=by
    intro keep hb hF hk hout;obtain⟨B6,hcon⟩:=hF;have hall:bj P β w I (first++args++caps) (fs++vs++cs).toList:=by
     simp only[Array.toList_append];exact bj.append _ _ _ _ (bj.append _ _ _ _ hf1 hv) hf2
    have pm:=fh.sound h (eX (first++args++caps)) _ _ _ (λ k hk=>hk) (fh.weaken hg _ _ hb) hall;refine⟨F,fs++vs++cs,enter F fs cs _ B6 rfl rfl,(hcon w _ _ (MC h _) (h.vars.mono (λ _ _=>rfl) (λ b hb=> .inl hb)) pm).mono ?_⟩;rintro e w' ⟨v',I1,rfl,hbel,g1,g2,g3,g4⟩;have⟨β',I',k1,k2,k3⟩:=U7 (keep:=keep) h hn hp hk hbel g1 g2 g3 g4;rw[hout];exact⟨v',β',I',rfl,k1,k2,k3⟩
   cases keep with
   |true=>
    simp only[if_true,aA]at ha;subst ha;have cV:=qE _ cV;exact fin true (jR _ _ _ hq λx hx=>cV x (by simp[hx])) (cV (rh P F q.1 rv) (by simp)) (λ _=>cV rv.flat (by simp)) (by simp)
   |false=>
    simp only[Bool.false_eq_true,if_false,aA]at ha;subst ha;have cV:=qE _ cV;exact fin false (jR _ _ _ hq λx hx=>cV x (by simp[hx])) (cV (rh P F q.1 rv) (by simp)) (λ h=>by cases h) (by simp)
 .rename_i φ hs targs rr keep;cases hq:mG P get args hs with
  |none=>simp[hq]at ha
  |some q=>
  simp only[hq,af]at ha;simp only[VR]at hf;obtain⟨F,fs,cs,rfl,_,hF1,hF2,hF3⟩:=hf;obtain⟨fn,hfn⟩:=Option.isSome_iff_exists.1 hF2
  have fin:∀(keep:Bool),fh P get args (targs.map TV.av)->φ targs rr->(keep=true->rr.flat)->
   ab=⟨rr.av,[]++(if keep then []else(eX args).map (λ k=>(k,none))),ab.obs⟩->zW P w0 O0 β I obj w i ab ((execOp r ⟨dst,.call { callee:= .value fo,args:=al,argTypes:=cX },ty,ao,after,guard⟩).run P w):=by
   intro keep hb hφ hk hout;have pm:=fh.sound h (eX args) _ _ _ (λ k hk=>hk) (fh.weaken hg _ _ hb) hv;have htv:∀(xs:U TV) (us:U Value),bj P mm w (gb β obj (eX args) I) (xs.map TV.av) us->m4 w (gb β obj (eX args) I) xs us:=by
    intro xs
    induction xs with
    |nil=>intro us h;cases us with
     |nil=>trivial
     |cons=>simp[bj]at h
    |cons x xs ih=>intro us h;cases us with
     |nil=>simp[bj]at h
     |cons u us=>
      simp only[aF,bj]at h;refine⟨?_,ih us h.2⟩;cases x with
      |s x=>simpa[TV.av,VR,ro]using h.1
      |a cs=>
       simp only[TV.av,VR]at h;obtain⟨⟨vs',rfl,h1⟩,_⟩:=h;refine⟨vs',rfl,?_⟩;have:∀(cs:U Tree) (us:U Value),bj P mm w (gb β obj (eX args) I) (cs.map AV.t) us->ff w (gb β obj (eX args) I) cs us:=by
        intro cs
        induction cs with
        |nil=>intro us h;cases us with
         |nil=>trivial
         |cons=>simp[bj]at h
        |cons c cs ih=>intro us h;cases us with
         |nil=>simp[bj]at h
         |cons u us=>simp only[aF,bj,VR]at h;exact⟨h.1,ih us h.2⟩
       exact this cs _ h1
   refine⟨F,fs++vs++cs,enter F fs cs _ ⟨fn,hfn,(hF1 fn hfn).1,(hF1 fn hfn).2⟩ rfl rfl,(hF3 w _ targs vs rr (λ b hb=>Or.inl hb) (λ _ _=>rfl) (MC h _) hφ (htv _ _ pm)).mono ?_⟩;rintro e w' ⟨v',I1,rfl,hbel,g1,g2,g3,g4⟩;have⟨β',I',k1,k2,k3⟩:=U7 (i:=i) (rv:= .one (.d rr)) (p:=(rr.av,[])) (keep:=keep) h hn rfl hk hbel g1 g2 g3 g4;rw[hout];exact⟨v',β',I',rfl,k1,k2,k3⟩
  cases keep with
  |true=>
   simp only[if_true,aA]at ha;subst ha;have cV:=qE _ cV;have e:q.1=targs.map TV.av:=cV _ (by simp);exact fin true (e ▸ jR _ _ _ hq λx hx=>cV x (by simp[hx])) (cV (φ targs rr) (by simp)) (λ _=>cV rr.flat (by simp)) (by simp)
  |false=>
   simp only[Bool.false_eq_true,if_false,aA]at ha;subst ha;have cV:=qE _ cV;have e:q.1=targs.map TV.av:=cV _ (by simp);exact fin false (e ▸ jR _ _ _ hq λx hx=>cV x (by simp[hx])) (cV (φ targs rr) (by simp)) (λ h=>by cases h) (by simp)
 .cases ha
end
abbrev fu:=Nat×List (List Tree)
def ii(p:fu):aT:=⟨p.1,aI p.2⟩
def rS(os:U fu)(k:Nat):J aT:=(os[k]?).map ii
def Cs(os:U (Option fu))(k:Nat):J aT:=((os[k]?).join).map ii
def U8(β:Nat->J cT)(b:Nat):Prop:=∃j,fL β j b
def ny(β:Nat->J cT)(I:Nat->Prop):ky:=⟨U8 β,I,λj=>if j<1000 then β j else none,λj B h=>by
 split at h
 .assumption
 .cases h⟩
def AE(w:World)(β:Nat->J cT)(os':U (Option fu))(b:Nat):Prop:=(U8 β b\/w.heap.size<=b)/\∀k o,Cs os' k=some o->¬fL β k b
def MD(P:Program)(w:World)(β:Nat->J cT)(I:Nat->Prop)(os':U (Option fu))(rv:RV)(e:Ending)(w':World):Prop:=
 ∃v I',e= .returned v/\Mem P w (ny β I) β I' (Cs os') w'/\(∀ b,I b->I' b)/\rx P (AE w β os') β rv w' I' v
def qq(P:Program)(f:FuncId)(args:U AV)(os:U fu)(os':U (Option fu))(rv:RV):Prop:=
 eU P f/\∀(w:World) (β:Nat->J cT) (I:Nat->Prop) (vs:Array Value),(∀ k,os.length<=k->β k=none)->Mem P w (ny β I) β I (rS os) w->bj P β w I args vs.toList->Calls P f vs w (MD P w β I os' rv)
def βc(ae:U Nat)(β:Nat->J cT)(j:Nat):J cT:=(ae[j]?).bind β
section
variable (P:Program) (get:Nat->Option aT) (ae:List Nat)
mutual
def oV:AV->List LH->Option (AV×List LH×List Prop)
 | .own k aa len,.mut j::hs=>if ae[j]? =some k then some (.own j aa len,hs,[])else none
 | .ptr k row aa,.mut j::hs=>if ae[j]? =some k then some (.ptr j row aa,hs,[])else none
 | .mp k,.mut j::hs=>if ae[j]? =some k then some (.mp j,hs,[])else none
 | .agg cs,.agw::hs=>(l6 cs hs).bind λp=>some (.agg p.1,p.2.1,p.2.2)
 | .agg cs,.agd::hs=>if (eX cs).all (λ k=>!ae.contains k)then nT P get (.agg cs) hs else none
 | .fn F first caps,.fnw::hs=>(l6 first hs).bind λp=>(l6 caps p.2.1).bind λq=>some (.fn F p.1 q.1,q.2.1,p.2.2++q.2.2)
 |x,hs=>if (refs x).all (λ k=>!ae.contains k)then nT P get x hs else none
def l6:List AV->List LH->Option (List AV×List LH×List Prop)
 |[],hs=>some ([],hs,[])
 |x::xs,hs=>(oV x hs).bind λp=>(l6 xs p.2.1).bind λq=>some (p.1::q.1,q.2.1,p.2.2++q.2.2)
end
def yD:U (List AV)->U (List LH)->J (List (List AV)×List Prop)
 |[],[]=>some ([],[])
 |r::rs,h::hs=>(l6 P get ae r h).bind λp=>(yD rs hs).bind λq=>some (p.1::q.1,p.2.2++q.2)
 |_,_=>none
def mz(x y:AV):Prop:=
 (∃ j k aa len,ae[j]? =some k/\x= .own k aa len/\y= .own j aa len)\/(∃ j k row aa,ae[j]? =some k/\x= .ptr k row aa/\y= .ptr j row aa)\/(∃ j k,ae[j]? =some k/\x= .mp k/\y= .mp j)\/((∀ k∈refs x,k∉ae)/\fY P get x y)
mutual
def il:AV->AV->Prop
 | .fn F f1 c1,.fn G f2 c2=>(F=G/\fX f1 f2/\fX c1 c2)\/mz P get ae (.fn F f1 c1) (.fn G f2 c2)
 | .agg c1,.agg c2=>fX c1 c2\/mz P get ae (.agg c1) (.agg c2)
 |x,y=>mz P get ae x y
def fX:List AV->List AV->Prop
 |[],[]=>True
 |x::xs,y::ys=>il x y/\fX xs ys
 |_,_=>False
end
theorem il.base{x y:AV}(h:mz P get ae x y):il P get ae x y:=by cases x<;>cases y<;>simp only[il]<;>first |exact h |exact .inr h
end
def AY(get:Nat->J aT):U Nat->U fu->J (List Prop)
 |[],[]=>some []
 |k::ae,p::os=>(get k).bind λo=>(AY get ae os).bind λl=>some ((o.sz=p.1/\dX (o.rows.take p.2.length)=aI p.2)::l)
 |_,_=>none
def AZ:U Nat->U (Option fu)->U (Nat×Option aT)
 |k::ae,p::os=>(k,p.map ii)::AZ ae os
 |_,_=>[]
def Hl(xs:U AV)(ae:U Nat):U Nat:=(eX xs).filter λk=>!ae.contains k
def U9(os':U (Option fu)):Prop:=∀p,some p∈os'->∀r∈p.2,∀x∈r,Tree.flat x
def Ho(P:Program)(i:Nat)(f:AV)(args:U AV)(cL:ka)(get:Nat->J aT):J Out:=
 match f,cL with
 | .fn F first caps,.tB ae os os' hs rv keep=>if ae.Nodup/\os'.length=ae.length then(imp i ae rv).bind λp=>(AY get ae os).bind λmo=>(l6 P get ae (first++args++caps) hs).bind λq=>
  if keep then some ⟨p.1,p.2++AZ ae os',q.2.2++mo++[qq P F q.1 os os' rv,rv.flat,U9 os']⟩
  else some ⟨p.1,p.2++(AZ ae os'++(Hl (first++args++caps) ae).map λk=>(k,none)),q.2.2++mo++[qq P F q.1 os os' rv]⟩
  else none
 |_,_=>none
def oW(P:Program)(i:Nat)(f:AV)(args:U AV)(cL:ka)(get:Nat->J aT):J Out:=
 match cL with
 | .tB .. =>Ho P i f args cL get
 |_=>xC P i f args cL get
section
variable {P:Program} {T:eo} {w0:World} {O0:ky} {β:Nat->Option cT} {I:Nat->Prop} {obj:Nat->Option aT} {w:World} {i:Nat}
theorem ME{ae:U Nat}{j:Nat}{B:cT}(h:βc ae β j=some B):∃k,ae[j]? =some k/\β k=some B:=by simpa[βc,ai]using h
theorem bp.dat{β':Nat->J cT}{I':Nat->Prop}(hI:∀b,I b->I' b)(rows:U (List Tree))(c:Array Value)(aa sz:Nat)(h:bp P β w I (aI rows) c aa sz):bp P β' w I' (aI rows) c aa sz:=by
 rw[ow]at h ⊢;intro i r hr;have⟨h1,h2⟩:=h i r hr;refine⟨h1,?_⟩;rw[jo]at h2 ⊢;intro j x hx;have⟨v,g1,g2,g3⟩:=h2 j x hx;refine⟨v,g1,?_,g3⟩;simp only[aI,List.getElem?_map,dN]at hr;obtain⟨r',hr',rfl⟩:=hr;simp only[List.getElem?_map,dN]at hx;obtain⟨x',hx',rfl⟩:=hx;simp only[VR]at g2 ⊢;exact TR.mono (λ _ _=>rfl) hI _ _ g2
theorem bj.IP{β':Nat->J cT}{I':Nat->Prop}(hI:∀b,I b->I' b):∀(r:U Tree)(vs:U Value),bj P β w I (r.map AV.t) vs->bj P β' w I' (r.map AV.t) vs
 |[],[],_=>by simp[bj]
 |x::xs,v::vs,h=>by
  simp only[aF,bj,VR]at h ⊢;exact⟨TR.mono (λ _ _=>rfl) hI _ _ h.1,bj.IP hI xs vs h.2⟩
 |[],_::_,h=>by simp[bj]at h
 |_::_,[],h=>by simp[bj]at h
theorem cH.dat{β':Nat->J cT}{I':Nat->Prop}(hI:∀b,I b->I' b):∀(rs:U (List Tree))(es:U MapEntry),cH P β w I (aI rs) es->cH P β' w I' (aI rs) es
 |[],[],_=>trivial
 |r::rs,_::es,⟨h1,h4⟩=>⟨bj.IP hI r _ h1,cH.dat hI rs es h4⟩
 |[],_::_,h=>h.elim
 |_::_,[],h=>h.elim
theorem bj.zj{β':Nat->J cT}{I':Nat->Prop}:∀(r:U Tree)(vs:U Value),(∀ x∈r,Tree.flat x)->bj P β w I (r.map AV.t) vs->bj P β' w I' (r.map AV.t) vs
 |[],[],_,_=>by simp[bj]
 |x::xs,v::vs,hf,h=>by
  simp only[aF,bj,VR]at h ⊢;exact⟨Tree.mn (hf x (by simp)) h.1,bj.zj xs vs (λ y hy=>hf y (by simp[hy])) h.2⟩
 |[],_::_,_,h=>by simp[bj]at h
 |_::_,[],_,h=>by simp[bj]at h
theorem cH.flat{β':Nat->J cT}{I':Nat->Prop}:∀{rs:U (List Tree)}(_:∀r∈rs,∀x∈r,Tree.flat x)(es:U MapEntry),cH P β w I (aI rs) es->cH P β' w I' (aI rs) es
 |[],_,[],_=>trivial
 |r::rs,hf,_::es,⟨h1,h4⟩=>⟨bj.zj r _ (hf r (by simp)) h1,cH.flat (λ r' hr=>hf r' (by simp[hr])) es h4⟩
 |[],_,_::_,h=>h.elim
 |_::_,_,[],h=>h.elim
theorem OR.part{o:aT}{p:fu}{b:Nat}(g4:o.sz=p.1)(g5:dX (o.rows.take p.2.length)=aI p.2)(h:OR P β w I o (.mp b)):OR P β w I (ii p) (.mp b):=by
 obtain⟨es,cl,h1,hle,h2,h3⟩:=h;have hl:=congrArg List.length g5;simp only[dX,aI,List.length_map,length_take]at hl;refine⟨es,cl,h1,by simp only[ii,aI,List.length_map];omega,λe=>?_,h3⟩;have e':p.1=p.2.length:=by simpa[ii,aI]using e
 have:=cH.wk _ _ (h2 (by omega));rw[take_of_length_le (by omega)]at g5;show cH P β w I (aI p.2) es.toList;rw[<- g5];exact this
theorem OR.dat{β':Nat->J cT}{I':Nat->Prop}(hI:∀b,I b->I' b){p:fu}{B:cT}(h:OR P β w I (ii p) B):OR P β' w I' (ii p) B:=by
 cases B with
 |none=>exact h
 | «at» b s n=>
  obtain⟨h1,c,e,h2,h3,h4⟩:=h;exact⟨h1,c,e,h2,h3,bp.dat hI _ _ _ _ h4⟩
 |mp b=>
  obtain⟨es,cl,h1,hle,h2,h3⟩:=h;exact⟨es,cl,h1,hle,λe=>cH.dat hI _ _ (h2 e),h3⟩
theorem OR.flat{β':Nat->J cT}{I':Nat->Prop}{p:fu}{B:cT}(hf:∀r∈p.2,∀x∈r,Tree.flat x)(h:OR P β w I (ii p) B):OR P β' w I' (ii p) B:=by
 cases B with
 |none=>exact h
 | «at» b s n=>
  obtain⟨h1,c,e,h2,h3,h4⟩:=h;exact⟨h1,c,e,h2,h3,bp.flat _ _ _ _ hf h4⟩
 |mp b=>
  obtain⟨es,cl,h1,hle,h2,h3⟩:=h;exact⟨es,cl,h1,hle,λe=>cH.flat hf _ (h2 e),h3⟩
theorem Rn{get:Nat->J aT}:∀{ae:U Nat}{os:U fu}{l:U Prop},AY get ae os=some l->(∀ q∈l,q)->ae.length=os.length/\∀(j:Nat) k p,ae[j]? =some k->os[j]? =some p->∃o,get k=some o/\o.sz=p.1/\dX (o.rows.take p.2.length)=aI p.2
 |[],[],_,_,_=>⟨rfl,λj k p h=>by simp at h⟩
 |k::ae,p::os,l,h,hq=>by
  simp only[AY,ai,aA]at h;obtain⟨o,h1,l',h2,rfl⟩:=h;obtain⟨h3,h4⟩:=Rn h2 (λ q hq'=>hq q (by simp[hq']));refine⟨by simp[h3],λj k' p' hj hj'=>?_⟩;cases j with
  |zero=>
   simp only[List.getElem?_cons_zero,aA]at hj hj';subst hj;subst hj';exact⟨o,h1,hq _ (by simp)⟩
  |succ j=>exact h4 j k' p' (by simpa using hj) (by simpa using hj')
 |[],_::_,_,h,_=>by simp[AY]at h
 |_::_,[],_,h,_=>by simp[AY]at h
theorem ajf{ae:U Nat}:∀{os':U (Option fu)}{g:U (Nat×Option aT)}{k:Nat},k∉ae->dm obj (AZ ae os'++g) k=dm obj g k:=by
 induction ae with
 |nil=>intro os' g k _;rfl
 |cons j ae ih=>
  intro os' g k hk;cases os' with
  |nil=>rfl
  |cons p os'=>
   simp only[aO,not_or]at hk;simp only[AZ,cons_append,dm,aS hk.1,ih hk.2]
theorem ZJ:∀{ae:U Nat}{os':U (Option fu)}{g:U (Nat×Option aT)}{j k:Nat},ae.Nodup->os'.length=ae.length->ae[j]? =some k->dm obj (AZ ae os'++g) k=Cs os' j
 |[],_,_,_,_,_,_,h=>by simp at h
 |i::ae,[],_,_,_,_,hl,_=>by simp at hl
 |i::ae,p::os',g,j,k,hn,hl,h=>by
  simp only[List.nodup_cons]at hn;cases j with
  |zero=>
   simp only[List.getElem?_cons_zero,aA]at h;subst h;simp[AZ,dm,Cs]
  |succ j=>
   simp only[List.getElem?_cons_succ]at h;have hne:k≠i:=λe=>hn.1 (e ▸ dw h);simp only[AZ,cons_append,dm,aS hne,ZJ hn.2 (by simpa using hl) h];simp[Cs]
theorem Po:∀{ae:U Nat},ae.Nodup->∀{j j' k:Nat},ae[j]? =some k->ae[j']? =some k->j=j'
 |[],_,_,_,_,h,_=>by simp at h
 |i::ae,hn,j,j',k,h,h'=>by
  simp only[List.nodup_cons]at hn;cases j with
  |zero=>
   cases j' with
   |zero=>rfl
   |succ j'=>
    simp only[List.getElem?_cons_zero,aA,List.getElem?_cons_succ]at h h';exact(hn.1 (h ▸ dw h')).elim
  |succ j=>
   cases j' with
   |zero=>
    simp only[List.getElem?_cons_zero,aA,List.getElem?_cons_succ]at h h';exact(hn.1 (h' ▸ dw h)).elim
   |succ j'=>exact congrArg (· +1) (Po hn.2 (k:=k) (by simpa using h) (by simpa using h'))
theorem Mem.handed(h:Mem P w0 O0 β I obj w){ae c8:U Nat}{os:U fu}(hnd:ae.Nodup)(hlen:ae.length=os.length)
 (hm:∀(j:Nat) k p,ae[j]? =some k->os[j]? =some p->∃o,obj k=some o/\o.sz=p.1/\dX (o.rows.take p.2.length)=aI p.2) (B5:∀k∈c8,k∉ae):
 Mem P w (ny (βc ae β) (gb β obj c8 I)) (βc ae β) (gb β obj c8 I) (rS os) w:=by
 have look:∀j o',rS os j=some o'->∃k p o,ae[j]? =some k/\os[j]? =some p/\o'=ii p/\obj k=some o/\o.sz=p.1/\dX (o.rows.take p.2.length)=aI p.2:=by
  intro j o' hj;simp only[rS,dN]at hj;obtain⟨p,hp,rfl⟩:=hj;have hjl:j<ae.length:=by rw[hlen];exact(dH.1 hp).1
  obtain⟨o,g⟩:=hm j _ p (dQ hjl) hp;exact⟨_,p,o,dQ hjl,hp,rfl,g⟩
 have hb0:∀j k,ae[j]? =some k->βc ae β j=β k:=λj k hk=>by simp[βc,hk]
 constructor
 .intro j o' hj;obtain⟨k,p,o,g1,g2,rfl,g3,g4,g5⟩:=look j o' hj;have⟨B,hB,hO⟩:=h.cP k o g3;refine⟨B,by rw[hb0 j k g1];exact hB,?_⟩;have:OR P β w I (ii p) B:=by
   cases B with
   |none=>
    simp only[OR]at hO ⊢;rw[hO]at g5;simpa[dX,ii]using g5.symm
   | «at» b s n=>
    obtain⟨h1,c,e,h2,h3,h4⟩:=hO;refine⟨by rw[h1,g4];rfl,c,e,h2,h3,?_⟩;have:=bp.wk _ _ _ _ (bp.take p.2.length _ _ _ _ h4);rw[g5]at this;exact this
   |mp b=>exact OR.part g4 g5 hO
  exact this.dat λb hb=> .inl hb
 .intro j j' o o' B B' b h1 h2 h3 h4 h5 h6;have⟨k,p,q,g1,_,_,g3,_⟩:=look j o h1;have⟨k',p',q',g1',_,_,g3',_⟩:=look j' o' h2;rw[hb0 j k g1]at h3;rw[hb0 j' k' g1']at h4;have:=h.gS k k' q q' B B' b g3 g3' h3 h4 h5 h6;subst this;exact Po hnd g1 g1'
 .intro j o B b h1 h2 h5;have⟨k,p,q,g1,_,_,g3,_⟩:=look j o h1;have h2':=h2;rw[hb0 j k g1]at h2;have⟨a1,a2,_⟩:=h.ownB k q B b g3 h2 h5;refine⟨?_,a2,.inl ⟨j,B,h2',h5⟩⟩;rintro (hI |⟨k',o',s',n',e1,e2,e3⟩)
  .exact a1 hI
  .have:=h.lP k k' q o' b g3 e2 ⟨B,h2,h5⟩ (.at e3);subst this;exact B5 _ e1 (dw g1)
 .exact MC h _
 .exact λb hb=> .inl hb
 .exact λ_ _ _=>rfl
 .exact aD _
 .rfl
 .rfl
 .rfl
 .intro j B hj;simp only[ny]at hj;split at hj
  .exact hj
  .cases hj
 .exact h.vars.mono (λ _ _=>rfl) (λ b hb=> .inl hb)
theorem Mem.D3(h:Mem P w0 O0 β I obj w){ae c8:U Nat}{os':U (Option fu)}{w':World}{I1 I2:Nat->Prop}{xc:Nat->J aT}
 (hM:Mem P w (ny (βc ae β) (gb β obj c8 I)) (βc ae β) I1 (Cs os') w') (hI:∀b,I b->I2 b) (hI1:∀b,I2 b->I1 b) (k5:∀k∈ae,∃o,obj k=some o)
 (ho:∀k o,xc k=some o->(∃ j,ae[j]? =some k/\Cs os' j=some o/\∀B,OR P (βc ae β) w' I1 o B->OR P β w' I2 o B)\/(k∉ae/\obj k=some o/\∀b,fL β k b->¬I2 b)):
 Same I w w'/\Mem P w0 O0 β I2 xc w'/\(∀ b,U8 (βc ae β) b->¬I b/\(O0.own b\/w0.heap.size<=b))/\∀k o b,k∉ae->obj k=some o->fL β k b->¬U8 (βc ae β) b:=by
 have hb0:∀j k,ae[j]? =some k->βc ae β j=β k:=λj k hk=>by simp[βc,hk]
 have hown:∀b,U8 (βc ae β) b->∃k o,k∈ae/\obj k=some o/\fL β k b:=by
  rintro b ⟨j,B,hj,hB⟩;have⟨k,h1,h2⟩:=ME hj;have⟨o,h3⟩:=k5 k (dw h1);exact⟨k,o,dw h1,h3,B,h2,hB⟩
 have hold:∀k o,xc k=some o->∃q,obj k=some q:=by
  intro k o hk;rcases ho k o hk with ⟨j,h1,_⟩ |⟨_,h2,_⟩
  .exact k5 k (dw h1)
  .exact⟨o,h2⟩
 have hapart:∀k o b,k∉ae->obj k=some o->fL β k b->¬U8 (βc ae β) b:=by
  intro k o b hk h1 h2 hb;have⟨k',o',g1,g2,g3⟩:=hown b hb;have:=h.lP k k' o o' b h1 g2 h2 g3;subst this;exact hk g1
 have hS:Same I w w':=λb hb=>hM.keep b (h.lt b hb) (λ hb'=>by
  have⟨k',o',g1,g2,g3⟩:=hown b hb';exact(h.jt k' o' b g2 g3).1 hb)
 refine⟨hS,?_,λb hb=>?_,hapart⟩
 .constructor
  .intro k o hk;rcases ho k o hk with ⟨j,h1,h2,h3⟩ |⟨h1,h2,h3⟩
   .have⟨B,hB,hO⟩:=hM.cP j o h2;exact⟨B,by rw[<- hb0 j k h1];exact hB,h3 B hO⟩
   .have⟨B,hB,hO⟩:=h.cP k o h2;refine⟨B,hB,OR.mono (λ _ _ h=>h) hS hI (λ b e=>hM.keep b (h.ownB k o B b h2 hB e).2.1 (hapart k o b h1 h2 ⟨B,hB,e⟩)) hO⟩
  .intro k k' o o' B B' b h1 h2;have⟨q,e1⟩:=hold k o h1;have⟨q',e2⟩:=hold k' o' h2;exact h.gS k k' q q' B B' b e1 e2
  .intro k o B b h1 h2 h5;have⟨q,e1⟩:=hold k o h1;have⟨a1,a2,a3⟩:=h.ownB k q B b e1 h2 h5;refine⟨?_,Nat.lt_of_lt_of_le a2 hM.le,a3⟩;rcases ho k o h1 with ⟨j,g1,g2,_⟩ |⟨_,_,g3⟩
   .exact λhb=>(hM.ownB j o B b g2 (by rw[hb0 j k g1];exact h2) h5).1 (hI1 b hb)
   .exact g3 b ⟨B,h2,h5⟩
  .exact λb hb=>hM.lt b (hI1 b hb)
  .intro b hb;rcases hM.up b (hI1 b hb)with (g |⟨k',o',s',n',_,g2,g3⟩) |g |g
   .exact h.up b g
   .exact .inr (h.own k' o' b s' n' g2 g3).2.2
   .have⟨k',o',_,g2,g3⟩:=hown b g;exact .inr (h.jt k' o' b g2 g3).2.2
   .exact .inr (.inr (Nat.le_trans h.le g))
  .intro b hb hno;refine(hM.keep b (Nat.lt_of_lt_of_le hb h.le) (λ hb'=>?_)).trans (h.keep b hb hno);have⟨k',o',_,g2,g3⟩:=hown b hb';rcases (h.jt k' o' b g2 g3).2.2 with g |g
   .exact hno g
   .omega
  .exact Nat.le_trans h.le hM.le
  .exact hM.os.trans h.os
  .exact hM.tape.trans h.tape
  .exact hM.output.trans h.output
  .exact h.anch
  .exact h.vars.mono hS hI
 .have⟨k',o',_,g2,g3⟩:=hown b hb;exact⟨(h.jt k' o' b g2 g3).1,(h.jt k' o' b g2 g3).2.2⟩
mutual
theorem aa5{get:Nat->Option aT}{ae:List Nat}:∀{x:AV}{hs:List LH}{p:AV×List LH×List Prop},oV P get ae x hs=some p->(∀ q∈p.2.2,q)->il P get ae x p.1:=by
 intro x hs p h ho;unfold oV at h;split at h
 .split at h
  .cases h;exact il.base _ _ _ (.inl ⟨_,_,_,_,‹_›,rfl,rfl⟩)
  .cases h
 .split at h
  .cases h;exact il.base _ _ _ (.inr (.inl ⟨_,_,_,_,‹_›,rfl,rfl⟩))
  .cases h
 .split at h
  .cases h;exact il.base _ _ _ (.inr (.inr (.inl ⟨_,_,‹_›,rfl,rfl⟩)))
  .cases h
 .rename_i cs hs;simp only[ai,aA]at h;obtain⟨q,h1,rfl⟩:=h;simp only[il];exact .inl (nC h1 (λ y hy=>ho y (by simp[hy])))
 .split at h
  .rename_i hd;refine il.base _ _ _ (.inr (.inr (.inr ⟨λ k hk=>by simpa using all_eq_true.1 hd k (by simpa[refs]using hk),D6 _ _ _ h ho⟩)))
  .cases h
 .rename_i F first caps hs
  simp only[ai,aA]at h;obtain⟨q,h1,q',h2,rfl⟩:=h;simp only[il];exact .inl ⟨trivial,nC h1 (λ y hy=>ho y (by simp[hy])),nC h2 (λ y hy=>ho y (by simp[hy]))⟩
 .split at h
  .rename_i hd;refine il.base _ _ _ (.inr (.inr (.inr ⟨λ k hk=>by simpa using all_eq_true.1 hd k hk,D6 _ _ _ h ho⟩)))
  .cases h
theorem nC{get:Nat->Option aT}{ae:List Nat}:∀{xs:List AV}{hs:List LH}{p:List AV×List LH×List Prop},l6 P get ae xs hs=some p->(∀ q∈p.2.2,q)->fX P get ae xs p.1
 |[],hs,p,h,_=>by simp only[l6,aA]at h;subst h;trivial
 |x::xs,hs,p,h,ho=>by
  simp only[l6,ai,aA]at h;obtain⟨q,h1,q',h2,rfl⟩:=h;exact⟨aa5 h1 (λ y hy=>ho y (by simp[hy])),nC h2 (λ y hy=>ho y (by simp[hy]))⟩
end
theorem mz.sound(h:Mem P w0 O0 β I obj w){get:Nat->J aT}(hg:∀k o,get k=some o->obj k=some o){ae:U Nat}(c8:U Nat){x y:AV}{v:Value}(hk:∀k,k∈refs x->k∉ae->k∈c8)(hb:mz P get ae x y)(hv1:VR P β w I x v):VR P (βc ae β) w (gb β obj c8 I) y v:=by
 rcases hb with ⟨j,k,aa,len,e1,rfl,rfl⟩ |⟨j,k,row,aa,e1,rfl,rfl⟩ |⟨j,k,e1,rfl,rfl⟩ |⟨e1,e2⟩
 .simp only[VR]at hv1 ⊢;have:βc ae β j=β k:=by simp[βc,e1]
  rw[this];exact hv1
 .simp only[VR]at hv1 ⊢;have:βc ae β j=β k:=by simp[βc,e1]
  rw[this];exact hv1
 .simp only[VR]at hv1 ⊢;have:βc ae β j=β k:=by simp[βc,e1]
  rw[this];exact hv1
 .have:=fY.sound h c8 x y v (λ k hk'=>hk k hk' (e1 k hk')) (fY.weaken hg x y e2) hv1;exact VR.mono (λ k B h=>by simp[mm]at h) (λ _ _=>rfl) (λ _ h=>h) _ _ this
mutual
theorem il.sound(h:Mem P w0 O0 β I obj w){get:Nat->Option aT}(hg:∀k o,get k=some o->obj k=some o){ae:List Nat}(c8:List Nat):∀(x y:AV)(v:Value),(∀ k,k∈refs x->k∉ae->k∈c8)->il P get ae x y->VR P β w I x v->VR P (βc ae β) w (gb β obj c8 I) y v:=by
 intro x y v hk hb hv;unfold il at hb;split at hb
 .rcases hb with ⟨rfl,h1,h2⟩ |hb
  .simp only[VR]at hv ⊢;obtain⟨fs,cs,e,g1,g2⟩:=hv;exact⟨fs,cs,e,fX.sound h hg c8 _ _ _ (λ k hk'=>hk k (by simp[refs,hk'])) h1 g1,fX.sound h hg c8 _ _ _ (λ k hk'=>hk k (by simp[refs,hk'])) h2 g2⟩
  .exact mz.sound h hg c8 hk hb hv
 .rcases hb with h1 |hb
  .simp only[VR]at hv ⊢;obtain⟨vs,e,g1⟩:=hv;exact⟨vs,e,fX.sound h hg c8 _ _ _ (λ k hk'=>hk k (by simpa[refs]using hk')) h1 g1⟩
  .exact mz.sound h hg c8 hk hb hv
 .exact mz.sound h hg c8 hk hb hv
theorem fX.sound(h:Mem P w0 O0 β I obj w){get:Nat->Option aT}(hg:∀k o,get k=some o->obj k=some o){ae:List Nat}(c8:List Nat):∀(xs ys:List AV)(vs:List Value),(∀ k,k∈eX xs->k∉ae->k∈c8)->fX P get ae xs ys->bj P β w I xs vs->bj P (βc ae β) w (gb β obj c8 I) ys vs
 |[],[],[],_,_,_=>by simp[bj]
 |x::xs,y::ys,v::vs,hk,hb,hv=>by
  simp only[bj]at hv ⊢;exact⟨il.sound h hg c8 x y v (λ k hk'=>hk k (by simp[eX,hk'])) hb.1 hv.1,fX.sound h hg c8 xs ys vs (λ k hk'=>hk k (by simp[eX,hk'])) hb.2 hv.2⟩
 |[],_::_,_,_,hb,_=>hb.elim
 |_::_,[],_,_,hb,_=>hb.elim
 |[],[],_::_,_,_,hv=>by simp[bj]at hv
 |_::_,_::_,[],_,_,hv=>by simp[bj]at hv
end
theorem ac9{os':U (Option fu)}{j:Nat}{o:aT}(h:Cs os' j=some o):∃p,some p∈os'/\o=ii p:=by
 simp only[Cs,dN,Option.join_eq_some_iff]at h;obtain⟨p,hp,rfl⟩:=h;exact⟨p,dw hp,rfl⟩
theorem ada(h:Mem P w0 O0 β I obj w)(hn:β (cR i)=none){ae c8:U Nat}{os':U (Option fu)}{rv:RV}{p:AV×List (Nat×Option aT)}{keep:Bool}(hp:imp i ae rv=some p)(hk:keep=true->rv.flat/\U9 os')
 (hnd:ae.Nodup) (hlen:os'.length=ae.length) (k5:∀k∈ae,∃o,obj k=some o)
 {w':World} {I1:Nat->Prop} {v:Value} (hM:Mem P w (ny (βc ae β) (gb β obj c8 I)) (βc ae β) I1 (Cs os') w') (h1:∀b,gb β obj c8 I b->I1 b) (hr:rx P (AE w (βc ae β) os') (βc ae β) rv w' I1 v):
 ∃ β' I',Step β I w (cR i) β' I' w'/\Mem P w0 O0 β' I' (dm obj (p.2++(AZ ae os'++if keep then []else c8.map (λ k=>(k,none))))) w'/\VR P β' w' I' p.1 v:=by
 have look:∀g k o,dm obj (AZ ae os'++g) k=some o->(∃ j,ae[j]? =some k/\Cs os' j=some o)\/(k∉ae/\dm obj g k=some o):=by
  intro g k o hk;by_cases hki:k∈ae
  .obtain⟨j,hj⟩:=List.getElem?_of_mem hki;rw[ZJ hnd hlen hj]at hk;exact .inl ⟨j,hj,hk⟩
  .rw[ajf hki]at hk;exact .inr ⟨hki,hk⟩
 have main:∀(g:U (Nat×Option aT))(I2:Nat->Prop),(∀ k o,dm obj g k=some o->obj k=some o)->(∀ b,I b->I2 b)->(∀ b,I2 b->I1 b)->(∀ j o B,Cs os' j=some o->OR P (βc ae β) w' I1 o B->OR P β w' I2 o B)->
  (∀ k o b,k∉ae->dm obj g k=some o->fL β k b->¬I2 b)->rx P (AE w (βc ae β) os') (βc ae β) rv w' I2 v->
  ∃ β' I',Step β I w (cR i) β' I' w'/\Mem P w0 O0 β' I' (dm obj (p.2++(AZ ae os'++g))) w'/\VR P β' w' I' p.1 v:=by
  intro g I2 hg hI hI1 hor HQ hr2;obtain⟨hS,hM2,hown,hapart⟩:=h.D3 (xc:=dm obj (AZ ae os'++g)) hM hI hI1 k5 (λ k o hk=>by
   rcases look g k o hk with ⟨j,e1,e2⟩ |⟨e1,e2⟩
   .exact .inl ⟨j,e1,e2,λB=>hor j o B e2⟩
   .exact .inr ⟨e1,hg k o e2,λb e3=>HQ k o b e1 e2 e3⟩)
  obtain⟨β',k1,k2,k3⟩:=Pn (ae:=ae) (F:=AE w (βc ae β) os') (βc:=βc ae β) hM2 hn (λ k o b e1 e2 hb=>by
   rcases look g k o e1 with ⟨j,e3,e4⟩ |⟨e3,e4⟩
   .exact hb.2 j o e4 (by obtain⟨B,e5,e6⟩:=e2;exact⟨B,by simp[βc,e3,e5],e6⟩)
   .rcases hb.1 with hb |hb
    .exact hapart k o b e3 (hg k o e4) e2 hb
    .have:=(h.jt k o b (hg k o e4) e2).2.1;omega) (λ b hb=>by
   rcases hb.1 with hb |hb
   .exact(hown b hb).2
   .exact .inr (Nat.le_trans h.le hb)) (λ j B hj=>ME hj) hp hr2
  refine⟨β',I2,⟨k1.other,k1.ext,hS,hI⟩,?_,k3⟩;have e:dm obj (p.2++(AZ ae os'++g))=dm (dm obj (AZ ae os'++g)) p.2:=funext λk=>rU obj _ _ k;rw[e];exact k2
 cases keep with
 |true=>
  have⟨hf1,hf2⟩:=hk rfl;exact main [] I (λ _ _ h=>h) (λ _ h=>h) (λ b hb=>h1 b (.inl hb)) (λ j o B hj hO=>by
   obtain⟨q,hq,rfl⟩:=ac9 hj;exact OR.flat (hf2 q hq) hO) (λ k o b _ e1 e2=>(h.jt k o b e1 e2).1) (rx.flat hf1 (λ b hb=>h1 b (.inl hb)) hr)
 |false=>
  have hsub:∀k o,dm obj (c8.map λk=>(k,none)) k=some o->obj k=some o/\k∉c8:=by
   intro k o hk;rw[yh]at hk;split at hk
   .cases hk
   .exact⟨hk,‹_›⟩
  refine main _ I1 (λ k o hk=>(hsub k o hk).1) (λ b hb=>h1 b (.inl hb)) (λ _ h=>h) (λ j o B hj hO=>by
   obtain⟨q,hq,rfl⟩:=ac9 hj;exact OR.dat (λ _ h=>h) hO) (λ k o b hki e1 e2 hb=>?_) hr
  have⟨f1,f2⟩:=hsub k o e1;have⟨a1,a2,_⟩:=h.jt k o b f1 e2;rcases hM.up b hb with (g |⟨k',o',s',n',g1,g2,g3⟩) |⟨j,B',g,g'⟩ |g
  .exact a1 g
  .have:=h.lP k k' o o' b f1 g2 e2 (.at g3);subst this;exact f2 g1
  .have⟨k',g1,g2⟩:=ME g;have⟨o',g3⟩:=k5 k' (dw g1);have:=h.lP k k' o o' b f1 g3 e2 ⟨B',g2,g'⟩;subst this;exact hki (dw g1)
  .omega
theorem Va(h:Mem P w0 O0 β I obj w)(hn:β (cR i)=none){f:AV}{args:U AV}{cL:ka}{get:Nat->J aT}{ab:Out}(hg:∀k o,get k=some o->obj k=some o)
 {fv:Value} {vs:Array Value} {al:Array Operand} {fo:Operand} {r:Operand->Value} (ha:Ho P i f args cL get=some ab) (cV:ab.ob) (hf:VR P β w I f fv) (hv:bj P β w I args vs.toList) (hfo:r fo=fv) (hops:vs=al.map r)
 {dst:J Tmp} {ao:String} {after:Array Edge} {guard:J (Nat×Bool)} {ty:TypeId} {cX:Array TypeId}:
 zW P w0 O0 β I obj w i ab ((execOp r ⟨dst,.call { callee:= .value fo,args:=al,argTypes:=cX },ty,ao,after,guard⟩).run P w):=by
 unfold Ho at ha;split at ha
 .rename_i F first caps ae os os' hs rv keep
  split at ha
  .rename_i hc;obtain⟨hnd,hlen⟩:=hc;cases hp:imp i ae rv with
   |none=>simp[hp]at ha
   |some p=>
   cases hmo:AY get ae os with
   |none=>simp[hp,hmo]at ha
   |some mo=>
   cases hq:l6 P get ae (first++args++caps) hs with
   |none=>simp only[hp,hmo,hq,af,Option.bind_none,reduceCtorEq]at ha
   |some q=>
   simp only[hp,hmo,hq,af]at ha;simp only[VR]at hf;obtain⟨fs,cs,rfl,hf1,hf2⟩:=hf;have hout:(∀ x∈q.2.2++mo,x)/\qq P F q.1 os os' rv/\(keep=true->rv.flat/\U9 os')/\ab.v=p.1/\ab.upd=p.2++(AZ ae os'++if keep then []else(Hl (first++args++caps) ae).map (λ k=>(k,none))):=by
    cases keep with
    |true=>
     simp only[if_true,aA]at ha;subst ha;have cV:=qE _ cV;exact⟨λ x hx=>cV x (by simp only[aZ]at hx ⊢;exact .inl hx),cV (qq P F q.1 os os' rv) (by simp),λ_=>⟨cV rv.flat (by simp),cV (U9 os') (by simp)⟩,rfl,by simp⟩
    |false=>
     simp only[Bool.false_eq_true,if_false,aA]at ha;subst ha;have cV:=qE _ cV;exact⟨λ x hx=>cV x (by simp only[aZ]at hx ⊢;exact .inl hx),cV (qq P F q.1 os os' rv) (by simp),λh=>(by cases h),rfl,by simp⟩
   obtain⟨o1,o2,o3,o4,o5⟩:=hout;obtain⟨⟨fn,e1,e2,e3⟩,hcon⟩:=o2;obtain⟨hl2,hmm⟩:=Rn hmo (λ x hx=>o1 x (by simp[hx]));have hmm':∀(j:Nat) k p,ae[j]? =some k->os[j]? =some p->∃o,obj k=some o/\o.sz=p.1/\dX (o.rows.take p.2.length)=aI p.2:=λj k p h1 h2=>by
    have⟨o,g1,g2⟩:=hmm j k p h1 h2;exact⟨o,hg k o g1,g2⟩
   have k5:∀k∈ae,∃o,obj k=some o:=by
    intro k hk;obtain⟨j,hj⟩:=List.getElem?_of_mem hk;have hjl:j<os.length:=(by rw[<- hl2];exact(dH.1 hj).1);obtain⟨o,g,_⟩:=hmm' j k _ hj (dQ hjl);exact⟨o,g⟩
   have SP:∀k∈Hl (first++args++caps) ae,k∉ae:=λk hk=>by
    simp only[Hl,mem_filter]at hk;simpa using hk.2
   have hM:=h.handed (c8:=Hl (first++args++caps) ae) hnd hl2 hmm' SP;have hall:bj P β w I (first++args++caps) (fs++vs++cs).toList:=by
    simp only[Array.toList_append];exact bj.append _ _ _ _ (bj.append _ _ _ _ hf1 hv) hf2
   have pm:=fX.sound h hg (Hl (first++args++caps) ae) _ _ _ (λ k hk hn=>by simp only[Hl,mem_filter];exact⟨hk,by simpa using hn⟩) (nC hq (λ x hx=>o1 x (by simp[hx]))) hall;refine⟨F,fs++vs++cs,?_,(hcon w _ _ _ (λ k hk=>?_) hM pm).mono ?_⟩
   .have hb:¬fn.body=none:=(by cases hh:fn.body<;>simp[hh]at e2 ⊢);have e3' : ¬ fn.name = "runtime.NumGoroutine" := (by simpa using e3);simp[execOp,resolve,hfo,<- hops,Deferred.ofValue,invoke,callFunc,e1,e3',hb]
   .simp[βc,List.getElem?_eq_none (show ae.length<=k by omega)]
   .rintro e w' ⟨v',I1,rfl,g1,g2,g3⟩;have⟨β',I',k1,k2,k3⟩:=ada (keep:=keep) h hn hp o3 hnd hlen k5 g1 g2 g3;exact⟨v',β',I',rfl,k1,by rw[o5];exact k2,by rw[o4];exact k3⟩
  .cases ha
 .cases ha
theorem Vb(h:Mem P w0 O0 β I obj w)(hn:β (cR i)=none){f:AV}{args:U AV}{cL:ka}{get:Nat->J aT}{ab:Out}(hg:∀k o,get k=some o->obj k=some o)
 {fv:Value} {vs:Array Value} {al:Array Operand} {fo:Operand} {r:Operand->Value} (ha:oW P i f args cL get=some ab) (cV:ab.ob) (hf:VR P β w I f fv) (hv:bj P β w I args vs.toList) (hfo:r fo=fv) (hops:vs=al.map r)
 {dst:J Tmp} {ao:String} {after:Array Edge} {guard:J (Nat×Bool)} {ty:TypeId} {cX:Array TypeId}:
 zW P w0 O0 β I obj w i ab ((execOp r ⟨dst,.call { callee:= .value fo,args:=al,argTypes:=cX },ty,ao,after,guard⟩).run P w):=by
 unfold oW at ha;split at ha
 .exact Va h hn hg ha cV hf hv hfo hops
 .exact YC h hn hg ha cV hf hv hfo hops
end
def EE(op:BinOp)(b:AV)(yes:Bool):J Out:=
 match op with
 | .eql=>pv (if yes then b else .t (.sc (.bool false)))
 | .neq=>pv (if yes then b else .t (.sc (.bool true)))
 |_=>none
def Ax(T:eo)(op:BinOp)(t:TypeId)(x y:AV):J Out:=
 (T t).bind λti=>match ti.k,x,y with
 | .slice _,.t (.sl rows),.da=>EE op .ub rows.isEmpty
 | .slice _,.own _ _ len,.da=>EE op .ub (len==0)
 | .slice _,.oz _ len,.da=>EE op (.t (.sc (.bool (op== .eql)))) (len==0)
 | .slice _,.da,.da=>EE op (.t (.sc (.bool (op== .eql)))) true
 |_,_,_=>none
def N5(T:eo)(s d:TypeId)(x:AV):J Out:=
 (T s).bind λ_=>(T d).bind λdi=>match di.k,x with
 | .int k,.t (.sc (.int _ n))=>pv (.t (.sc (.int k (k.wrap n))))
 |_,_=>none
def Vd(T:eo)(t:TypeId)(x j:AV)(n:Int):J Out:=
 (T t).bind λti=>match ti.k,x,j with
 | .str,.t (.sc (.string s)),.t (.sc (.int _ m))=>mN (.t (.sc (.int .u8 n))) (0<=m/\∃b,s[m.toNat]? =some b/\n=b.toNat)
 | .arr m e,.agg cs,.t (.sc (.int _ q))=>(T e).bind λei=>(part' ei.agg ei.size ((cs.drop (q.toNat*ei.size)).take ei.size)).bind λv=>mN v (0<=q/\q<(m:Int))
 |_,_,_=>none
def JF(T:eo)(t:TypeId)(x:AV)(lo hi:J AV):J Out:=
 (T t).bind λti=>match ti.k,x with
 | .slice e,.da=>(T e).bind λ_=>(bnd 0 lo).bind λl=>(bnd 0 hi).bind λh=>mN .da (l=0/\h=0)
 |_,_=>none
def uR(T:eo)(i:Nat)(b:Builtin)(args:U AV)(cX:U TypeId)(get:Nat->J aT):J Out:=
 match b,args,cX with
 | .cap,[.da],[t]=>(T t).bind λti=>match ti.k with
  | .slice _=>pv (.t (.sc (.int .i64 0)))
  |_=>none
 | .clear,[.own k aa _],[t]=>(T t).bind λti=>match ti.k with
  | .slice e=>(T e).bind λei=>(get k).bind λo=>if o.sz=ei.size then some ⟨.eV [],[(k,some ⟨o.sz,o.rows.take aa⟩)],[]⟩else none
  |_=>none
 | .append,[.da,.t (.sc (.int _ m))],[t,u]=>(T t).bind λti=>(T u).bind λui=>match ti.k,ui.k with
  | .slice e,.int _=>(T e).bind λei=>some ⟨.own (cR i) 0 m.toNat,[(cR i,some ⟨ei.size,dX (List.replicate m.toNat (ei.zero.map cv))⟩)],[0<=m/\m.toNat*ei.bytes<=140737488355328/\m.toNat<=maxLen/\0<ei.size]⟩
  |_,_=>none
 |_,_,_=>none
def sQ(T:eo)(i:Nat)(o:Oper)(n:Int)(ρ:Operand->AV)(get:Nat->J aT):J Out:=
 match o.op with
 | .binOp op t x y _=>Ax T op t (ρ x) (ρ y)
 | .convert s d x=>N5 T s d (ρ x)
 | .index t x j=>Vd T t (ρ x) (ρ j) n
 | .slice t x lo hi none=>JF T t (ρ x) (lo.map ρ) (hi.map ρ)
 | .call { callee:= .builtin b,args:=args,argTypes:=cX }=>uR T i b (args.toList.map ρ) cX.toList get
 |_=>none
section
variable {T:eo}
theorem Ro{i:Nat}{o:Oper}{cL:ka}{ρ ρ':Operand->AV}{get:Nat->J aT}(h:∀x∈o.op.operands,ρ x=ρ' x):qg T i o cL ρ get=qg T i o cL ρ' get:=by
 obtain⟨dst,op,ty,ao,after,guard⟩:=o;have pairs:∀ps:Array (Nat×Operand),(∀ x∈(ps.toList.map (·.2)).toArray,ρ x=ρ' x)->(ps.toList.map λ(j,x)=>(j,ρ x))=(ps.toList.map λ(j,x)=>(j,ρ' x)):=λps hp=>
  map_congr_left λp hm=>by
   obtain⟨i,x⟩:=p;simp only[hp x (by simp only[List.mem_toArray];exact mem_map.2 ⟨(i,x),hm,rfl⟩)]
 cases op<;>simp only[Op.operands]at h<;>simp only[qg]
 case build t ps=>rw[pairs ps h]
 case buildSlice t n ps=>rw[pairs ps h]
 case makeFunc fn first captured=>
  have h1:first.toList.map ρ=first.toList.map ρ':=map_congr_left λx hx=>h x (by simp;exact .inl (by simpa using hx))
  have h2:captured.toList.map ρ=captured.toList.map ρ':=map_congr_left λx hx=>h x (by simp;exact .inr (by simpa using hx));cases fn<;>simp only[h1,h2]
 case call c=>
  obtain⟨callee,args,cX⟩:=c;cases callee<;>simp only
  case builtin b=>
   have h1:args.toList.map ρ=args.toList.map ρ':=map_congr_left λx hx=>h x (by simp[Call.operands];simpa using hx);rw[h1]
 case slice t x lo hi mx=>
  have hx:=h x (by simp);cases mx with
  |some m=>rfl
  |none=>
   simp only[hx];cases lo<;>cases hi<;>simp_all
 case pick c a b=>rw[h c (by simp),h a (by simp),h b (by simp)]
 all_goals (first |rfl |(simp_all;done))
theorem qW:∀(l:U Prop),(∀ p∈l,p)->jk l
 |[],_=>trivial
 |[q],h=>h q (by simp)
 |q::r::l,h=>⟨h q (by simp),qW (r::l) λp hp=>h p (eH _ hp)⟩
theorem aa6{i:Nat}{o:Oper}{n:Int}{ρ ρ':Operand->AV}{get:Nat->J aT}(h:∀x∈o.op.operands,ρ x=ρ' x):sQ T i o n ρ get=sQ T i o n ρ' get:=by
 obtain⟨dst,op,ty,ao,after,guard⟩:=o;cases op<;>simp only[Op.operands]at h<;>simp only[sQ]
 case binOp a b c d e=>rw[h c (by simp),h d (by simp)]
 case convert s d x=>rw[h x (by simp)]
 case index t x j=>rw[h x (by simp),h j (by simp)]
 case call c=>
  obtain⟨callee,args,cX⟩:=c;cases callee<;>simp only
  case builtin b=>
   have h1:args.toList.map ρ=args.toList.map ρ':=map_congr_left λx hx=>h x (by simp[Call.operands];simpa using hx);rw[h1]
 case slice t x lo hi mx=>
  have hx:=h x (by simp);cases mx with
  |some m=>rfl
  |none=>
   simp only[hx];cases lo<;>cases hi<;>simp_all
end
def af2:Op->Bool
 | .pick .. =>true
 |_=>false
def Hq(P:Program)(T:eo)(i:Nat)(o:Oper)(ae:U Nat)(fr:Operand->AV)(cL:ka)(ρ:Operand->AV)(get:Nat->J aT):J Out:=
 if af2 o.op then none else(qg T i o cL fr (λ k=>if k∈ae then none else get k)).bind λab=>
  some ⟨ab.v,ab.upd++ae.map (λ k=>(k,none)),ab.obs++[∀ x∈o.op.operands,(fY P get (ρ x) (fr x)/\∀k∈refs (ρ x),k∈ae)\/fr x=ρ x]⟩
theorem aa7{P:Program}{T:eo}{i:Nat}{o:Oper}{ae:U Nat}{fr:Operand->AV}{cL:ka}{ρ ρ':Operand->AV}{get:Nat->J aT}(h:∀x∈o.op.operands,ρ x=ρ' x):Hq P T i o ae fr cL ρ get=Hq P T i o ae fr cL ρ' get:=by
 unfold Hq;have:(∀ x∈o.op.operands,(fY P get (ρ x) (fr x)/\∀k∈refs (ρ x),k∈ae)\/fr x=ρ x)=(∀ x∈o.op.operands,(fY P get (ρ' x) (fr x)/\∀k∈refs (ρ' x),k∈ae)\/fr x=ρ' x):=by
  apply propext;constructor<;>intro hh x hx
  .rw[<- h x hx];exact hh x hx
  .rw[h x hx];exact hh x hx
 rw[this]
section
variable {P:Program} {T:eo} {w0:World} {O0:ky} {β:Nat->Option cT} {I:Nat->Prop} {obj:Nat->Option aT} {w:World} {i:Nat}
theorem af3(hT:fe P T){op:BinOp}{t:TypeId}{x y:AV}{xo yo:Operand}{u v:Value}{ab:Out}(ha:Ax T op t x y=some ab)(hx:VR P β w I x u)(hy:VR P β w I y v):
 ∃z,(do eqGuard op t xo yo u v;binOp op t u v:Sem Value).run P w= .ok z w/\VR P β w I ab.v z/\ab.upd=[]:=by
 unfold Ax at ha;cases hti:T t with
 |none=>simp[hti]at ha
 |some ti=>
  have ht:=hT t ti hti;simp only[hti,af]at ha;have eq:∀e a n c,P.underlying t=some (.slice e)->(Op.equal t (.slice a n c) (.slice none 0 0)).run P w= .ok a.isNone w:=by
   intro e a n c hu;have:∀d,(Op.equalIn (d+1) t (.slice a n c) (.slice none 0 0)).run P w= .ok a.isNone w:=by
    intro d;cases a<;>simp[Op.equalIn,run_underlying hu]
   exact this 9999
  have main:∀e,P.underlying t=some (.slice e)->∀a n c,u= .slice a n c->v= .slice none 0 0->(op= .eql\/op= .neq)->
   (do eqGuard op t xo yo u v;binOp op t u v:Sem Value).run P w= .ok (.bool (if op= .eql then a.isNone else !a.isNone)) w:=by
   rintro e hu a n c rfl rfl (rfl |rfl)
   .simp[eqGuard,binOp,eq e a n c hu]
   .simp[eqGuard,binOp,eq e a n c hu]
  have fin:∀e,P.underlying t=some (.slice e)->∀a n c,u= .slice a n c->v= .slice none 0 0->∀(bv:AV)(yes:Bool),EE op bv yes=some ab->
   (yes=false->a.isNone=false)->(yes=true->∀q,(q=if op= .eql then a.isNone else !a.isNone)->VR P β w I bv (.bool q))->
   ∃z,(do eqGuard op t xo yo u v;binOp op t u v:Sem Value).run P w= .ok z w/\VR P β w I ab.v z/\ab.upd=[]:=by
   intro e hu a n c h1 h2 bv yes hn hno HJ;unfold EE at hn;split at hn
   .simp only[pv,aA]at hn;subst hn;refine⟨_,main e hu a n c h1 h2 (.inl rfl),?_,rfl⟩;cases yes with
    |true=>exact HJ rfl _ rfl
    |false=>simp only[hno rfl];exact⟨by simp,trivial⟩
   .simp only[pv,aA]at hn;subst hn;refine⟨_,main e hu a n c h1 h2 (.inr rfl),?_,rfl⟩;cases yes with
    |true=>exact HJ rfl _ rfl
    |false=>simp only[hno rfl];exact⟨by simp,trivial⟩
   .cases hn
  split at ha
  .rename_i e rows hk;have hu:=gW ht hk;simp only[VR]at hy;simp only[VR,TR]at hx;rcases hx with ⟨rfl,a,c,rfl,_⟩ |⟨b,aa,c,sz,rfl,_⟩
   .exact fin _ hu _ _ _ rfl hy _ _ ha (λ h=>by simp at h) (λ _ q _=>by simp only[VR];exact⟨q,rfl⟩)
   .exact fin _ hu _ _ _ rfl hy _ _ ha (λ _=>rfl) (λ _ q _=>by simp only[VR];exact⟨q,rfl⟩)
  .rename_i e k aa len hk;have hu:=gW ht hk;simp only[VR]at hx hy;rcases hx with ⟨_,rfl,_,rfl⟩ |⟨b,sz,n,cap,o,_,rfl,_⟩
   .exact fin _ hu _ _ _ rfl hy _ _ ha (λ h=>by simp at h) (λ _ q _=>by simp only[VR];exact⟨q,rfl⟩)
   .exact fin _ hu _ _ _ rfl hy _ _ ha (λ _=>rfl) (λ _ q _=>by simp only[VR];exact⟨q,rfl⟩)
  .rename_i e k len hk;have hu:=gW ht hk;simp only[VR]at hx hy;rcases hx with ⟨h0,rfl⟩ |⟨h0,b,sz,n,cap,o,_,rfl,_⟩
   .refine fin _ hu _ _ _ rfl hy _ _ ha (λ h=>by simp[h0]at h) (λ _ q hq=>?_);simp only[VR,TR,hq];cases op<;>exact⟨by simp,trivial⟩
   .exact fin _ hu _ _ _ rfl hy _ _ ha (λ _=>rfl) (λ h=>by simp[h0]at h)
  .rename_i e hk;have hu:=gW ht hk;simp only[VR]at hx hy;subst hx;refine fin _ hu _ _ _ rfl hy _ _ ha (λ h=>by cases h) (λ _ q hq=>?_);simp only[VR,TR,hq];cases op<;>exact⟨by simp,trivial⟩
  .cases ha
theorem ade(hT:fe P T){s d:TypeId}{x:AV}{u:Value}{ab:Out}(ha:N5 T s d x=some ab)(hx:VR P β w I x u):
 ∃z,(convert s d u).run P w= .ok z w/\VR P β w I ab.v z/\ab.upd=[]:=by
 unfold N5 at ha;cases hsi:T s with
 |none=>simp[hsi]at ha
 |some si=>
  cases hdi:T d with
  |none=>simp[hsi,hdi]at ha
  |some di=>
   simp only[hsi,hdi,af]at ha;split at ha
   .rename_i k kk n hk;simp only[pv,aA]at ha;subst ha;have⟨info,dd,z,_,h2,_⟩:=(hT s si hsi).ex;have⟨info',dd',z',_,h2',_,_,_,_,_,h8⟩:=(hT d di hdi).ex;rw[hk]at h8;have h8:dd'= .int k:=h8;subst h8;simp only[VR,TR]at hx;obtain⟨rfl,_⟩:=hx;refine⟨.int k (k.wrap n),?_,by simp only[VR,TR];exact⟨trivial,trivial⟩,rfl⟩;simp[convert,run_underlying h2,run_underlying h2',Conv.intToInt]
   .cases ha
theorem aa8(hT:fe P T){t:TypeId}{x j:AV}{n:Int}{u v:Value}{ab:Out}(ha:Vd T t x j n=some ab)(cV:ab.ob)(hx:VR P β w I x u)(hj:VR P β w I j v):
 ∃z,(Instr.index t u v).run P w= .ok z w/\VR P β w I ab.v z/\ab.upd=[]:=by
 unfold Vd at ha;cases hti:T t with
 |none=>simp[hti]at ha
 |some ti=>
  simp only[hti,af]at ha;split at ha
  .rename_i s k m hk;simp only[mN,aA]at ha;subst ha;obtain⟨h0,b,hb,rfl⟩:=cV;have⟨info',dd',z',_,h2',_,_,_,_,_,h8⟩:=(hT t ti hti).ex;rw[hk]at h8;have h8:dd'= .string:=h8;subst h8;simp only[VR,TR]at hx hj;obtain⟨rfl,_⟩:=hx;obtain⟨rfl,_⟩:=hj;refine⟨.int .u8 b.toNat,?_,by simp only[VR,TR];exact⟨trivial,trivial⟩,rfl⟩;simp[Instr.index,asIntOf,run_underlying h2',h0,hb]
  .rename_i m e cs kd q hk;have fj:=Mv (hT t ti hti) hk;cases fS:T e with
   |none=>simp[fS]at ha
   |some ei=>
    simp only[fS,af]at ha;cases hp:part' ei.agg ei.size ((cs.drop (q.toNat*ei.size)).take ei.size)with
    |none=>simp[hp]at ha
    |some y=>
     simp only[hp,af,mN,aA]at ha;subst ha;have cV:0<=q/\q<(m:Int):=cV;simp only[VR,TR]at hx hj;obtain⟨vs,rfl,hvs⟩:=hx;obtain⟨rfl,_⟩:=hj;have he:=hT e ei fS;have⟨u,hu,hv⟩:=ac7 he hp hvs;refine⟨u,?_,hv,rfl⟩;simp[Instr.index,asIntOf,run_underlying fj,cV.1,cV.2,he.size (w:=w)];simpa using hu
  .cases ha
theorem Sz(hT:fe P T){t:TypeId}{x:AV}{lo hi:J AV}{ab:Out}{v:Value}{tt hiv:J Value}
 (ha:JF T t x lo hi=some ab) (cV:ab.ob) (hx:VR P β w I x v) (hlo:∀x,lo=some x->∃v,tt=some v/\VR P β w I x v) (hlo0:lo=none->tt=none) (hhi:∀x,hi=some x->∃v,hiv=some v/\VR P β w I x v) (hhi0:hi=none->hiv=none):
 ∃u,(Instr.sliceAt t v tt hiv none).run P w= .ok u w/\VR P β w I ab.v u/\ab.upd=[]:=by
 unfold JF at ha;cases hti:T t with
 |none=>simp[hti]at ha
 |some ti=>
  have ht:=hT t ti hti;simp only[hti,af]at ha;split at ha
  .rename_i e hkd;cases fS:T e with
   |none=>simp[fS]at ha
   |some ei=>
    have he:=hT e ei fS;simp only[fS,af]at ha;cases hl:bnd 0 lo with
    |none=>simp[hl]at ha
    |some l=>
     cases hh:bnd 0 hi with
     |none=>simp[hl,hh]at ha
     |some r=>
      simp only[hl,hh,af,mN,aA]at ha;subst ha;obtain⟨rfl,rfl⟩:=cV;simp only[VR]at hx;subst hx;have:=FH (P:=P) (w:=w) (len:=0) (cap:=0) (JE hl hlo hlo0) (JE hh hhi hhi0) (by omega) (by omega) (by omega);refine⟨.slice none 0 0,?_,by simp only[VR],rfl⟩;simp[Instr.sliceAt,Instr.slice,run_underlying (gW ht hkd),this,he.size (w:=w)]
  .cases ha
theorem bp.congr:∀(rows:U (List AV))(c c':Array Value)(aa sz:Nat),(∀ j,j<aa+rows.length*sz->c'[j]? =c[j]?)->bp P β w I rows c aa sz->bp P β w I rows c' aa sz
 |[],_,_,_,_,_,_=>trivial
 |r::rs,c,c',aa,sz,hc,⟨h1,h2,h3⟩=>by
  have hl:(r::rs).length*sz=sz+rs.length*sz:=by rw[bC,Nat.add_mul];omega
  rw[hl]at hc;refine⟨h1,?_,bp.congr rs c c' (aa+sz) sz (λ j hj=>hc j (by omega)) h3⟩;rw[jo]at h2 ⊢;intro j x hx;have hj:=(dH.1 hx).1;rw[hc (aa+j) (by omega)];exact h2 j x hx
theorem bp.zeros(z:U Value)(sz:Nat)(hz:z.length=sz)(h1:∀v∈z,oneCell v):∀(n:Nat)(c:Array Value)(aa:Nat),(∀ i j,i<n->j<sz->c[aa+i*sz+j]? =z[j]?)->bp P β w I (List.replicate n (z.map cv)) c aa sz
 | 0,_,_,_=>trivial
 |n+1,c,aa,hc=>by
  rw[List.replicate_succ];refine⟨by simpa using hz,?_,bp.zeros z sz hz h1 n c (aa+sz) λi j hi hj=>?_⟩
  .rw[jo];intro j x hx;simp only[List.getElem?_map,dN]at hx;obtain⟨v,hv,rfl⟩:=hx;have hj:=(dH.1 hv).1;refine⟨v,?_,VR.cv,h1 v (dw hv)⟩;have:=hc 0 j (by omega) (by omega);rw[Nat.zero_mul,Nat.add_zero]at this;rw[this];exact hv
  .have:=hc (i+1) j (by omega) hj;rw[show aa+sz+i*sz+j=aa+(i+1)*sz+j by rw[Nat.add_mul];omega];exact this
theorem KU(z:Array Value)(n j:Nat)(h:j<n*z.size):(Builtin.zeroCells z n)[j]? =z[j%z.size]? :=by
 have hz:0<z.size:=Nat.pos_of_ne_zero λe=>by rw[e]at h;omega
 have hm:j%z.size<z.size:=Nat.mod_lt _ hz;simp[Builtin.zeroCells,h,hm]
theorem SA(hT:fe P T)(h:Mem P w0 O0 β I obj w)(hn:β (cR i)=none){b:Builtin}{args:U AV}{cX:Array TypeId}{get:Nat->J aT}{ab:Out}(hg:∀k o,get k=some o->obj k=some o)
 {vs:Array Value} {ty:TypeId} {al:Array Operand} (ha:uR T i b args cX.toList get=some ab) (cV:ab.ob) (hv:bj P β w I args vs.toList) {r:Operand->Value} (hops:vs=al.map r) {dst:J Tmp} {ao:String} {after:Array Edge} {guard:J (Nat×Bool)}:
 so P w0 O0 β I obj w i ab ((execOp r ⟨dst,.call { callee:= .builtin b,args:=al,argTypes:=cX },ty,ao,after,guard⟩).run P w):=by
 unfold uR at ha;split at ha
 .rename_i t qT;obtain⟨v,hvs⟩:∃v,vs=#[v]:=by
   obtain⟨l⟩:=vs
   match l,hv with
   |[v],_=>exact⟨v,rfl⟩
   |[],h=>simp[bj]at h
   |_::_::_,h=>simp[bj]at h
  have ht:cX=#[t]:=by cases cX;simpa using qT
  subst hvs ht;simp only[bj,VR]at hv;cases hti:T t with
  |none=>simp[hti]at ha
  |some ti=>
   simp only[hti,af]at ha;split at ha
   .rename_i e hk;simp only[pv,aA]at ha;subst ha;refine⟨.int .i64 0,w,β,I,.inl ?_,Step.refl ..,h,by simp only[VR,TR];exact⟨trivial,trivial⟩⟩;rw[hv.1]at hops;simp[execOp,resolve,invoke,builtin,<- hops,Builtin.cap_,run_underlying (gW (hT t ti hti) hk),goInt]
   .cases ha
 .rename_i k aa len t qT;obtain⟨v,hvs⟩:∃v,vs=#[v]:=by
   obtain⟨l⟩:=vs
   match l,hv with
   |[v],_=>exact⟨v,rfl⟩
   |[],h=>simp[bj]at h
   |_::_::_,h=>simp[bj]at h
  have ht:cX=#[t]:=by cases cX;simpa using qT
  subst hvs ht;simp only[bj]at hv;have hv:=hv.1;cases hti:T t with
  |none=>simp[hti]at ha
  |some ti=>
   simp only[hti,af]at ha;split at ha
   .rename_i e hkd;cases fS:T e with
    |none=>simp[fS]at ha
    |some ei=>
     cases hk:get k with
     |none=>simp[fS,hk]at ha
     |some o=>
      simp only[fS,hk,af]at ha;split at ha
      .rename_i hsz;cases ha;have he:=hT e ei fS;have fj:=gW (hT t ti hti) hkd;obtain⟨info,d,z,g1,g2,g3,g4,g5,g6,g7,g8⟩:=he.ex;have hko:=hg k o hk;have weak:∀{w':World},Mem P w0 O0 β I obj w'->Mem P w0 O0 β I (dm obj [(k,some ⟨o.sz,o.rows.take aa⟩)]) w':=by
        intro w' hm;refine hm.weak λj o' hj=>?_;simp only[dm]at hj;split at hj
        .rename_i e;subst e;cases hj;refine⟨o,hko,λB hB hO=>?_⟩;cases B with
         |none=>simp only[OR]at hO ⊢;simp[hO]
         | «at» b s n=>
          obtain⟨h1,c,e,h2,h3,h4⟩:=hO;exact⟨h1,c,e,h2,h3,bp.take _ _ _ _ _ h4⟩
         |mp b=>
          obtain⟨es,cl,h1,hle,h2,h3⟩:=hO;refine⟨es,cl,h1,by simp only[length_take];omega,λe=>?_,h3⟩;simp only[length_take]at e;simp only;rw[take_of_length_le (by omega)];exact h2 (by omega)
        .exact⟨o',hj,λ_ _ h=>h⟩
       have hdone:∀w',(Builtin.clear_ #[t] ty #[v]).run P w= .ok (.tuple #[]) w'->(execOp r ⟨dst,.call { callee:= .builtin .clear,args:=al,argTypes:=#[t] },ty,ao,after,guard⟩).run P w= .ok (.value (.tuple #[])) w':=by
        intro w' hw;simp[execOp,resolve,invoke,builtin,<- hops,hw]
       have A4:∀{w':World},VR P β w' I (.eV []) (.tuple #[]):=by
        intro w';simp only[VR];exact⟨#[],rfl,trivial⟩
       simp only[VR]at hv;rcases hv with ⟨h1,rfl,_,rfl⟩ |⟨b,sz,m,cap,a,h1,rfl,h2,h3,h4⟩
       .exact⟨_,w,β,I,.inl (hdone w (by simp[Builtin.clear_,run_underlying fj])),Step.refl ..,weak h,A4⟩
       .by_cases h0:len=0
        .subst h0;exact⟨_,w,β,I,.inl (hdone w (by simp[Builtin.clear_,run_underlying fj])),Step.refl ..,weak h,A4⟩
        .have⟨B,hB,hO⟩:=h.cP k o hko;rw[h1]at hB;cases hB;obtain⟨hs,c,ce,hc,hcn,hO⟩:=hO;have ha':a=m.s+aa*sz:=h4 (by omega);subst ha';have hzs:z.cells.size=ei.size:=(by rw[<- Array.length_toList,g6];exact he.len);have hzl:(Builtin.zeroCells z.cells len).toList.length=len*ei.size:=(by simp[size_zeroCells,hzs]);have hfit:m.s+aa*sz+len*ei.size<=c.size:=by
          rw[hcn,<- hsz,<- hs,Nat.add_assoc,<- Nat.add_mul];have:(aa+len)*sz<=(aa+cap)*sz:=Nat.mul_le_mul_right _ (by omega);omega
         have hone:∀u∈(Builtin.zeroCells z.cells len).toList,u.oneCell'=true:=by
          intro u hu;obtain⟨j,hj⟩:=List.getElem?_of_mem hu;have hjl:=(dH.1 hj).1;rw[hzl,<- hzs]at hjl;rw[Array.getElem?_toList,KU _ _ _ hjl]at hj;have:u∈ei.zero:=(by rw[<- g6];exact Array.mem_toList_iff.2 (Array.mem_of_getElem? hj));exact oneCell' (sO (all_eq_true.1 he.one u this))
         have hst:=run_storeCells_at P b (m.s+aa*sz) ce (Builtin.zeroCells z.cells len).toList 0 c w hc (by rw[hzl];omega) hone;simp only[Nat.add_zero]at hst;generalize hcc:(List.take (m.s+aa*sz) c.toList++(Builtin.zeroCells z.cells len).toList++List.drop (m.s+aa*sz+(Builtin.zeroCells z.cells len).toList.length) c.toList).toArray=cc at hst;have S4:cc.size=c.size:=(by rw[<- hcc];simp[length_take,length_drop,size_zeroCells,hzs];omega);have hzv:(zeroValue e).run P w= .ok z w:=(by simp[zeroValue,typeInfo,g1,g5]);have hrun:(Builtin.clear_ #[t] ty #[.slice (some ⟨b,m.s+aa*sz,none⟩) len cap]).run P w= .ok (.tuple #[]) (w.setRow b cc):=by
          obtain⟨len',rfl⟩:∃len',len=len'+1:=⟨len -1,by omega⟩;simp[Builtin.clear_,run_underlying fj,hzv,hst]
         obtain⟨vx,hM⟩:=Mem.write (o':=⟨o.sz,o.rows.take aa⟩) h hko h1 (c':=cc) (e:=ce) (setRow_heap w b c cc ce (0,0) hc) (λ b' hb=>setRow_other w b b' cc hb) (by simp) rfl rfl rfl hs (by omega) (by
          refine bp.congr _ c cc m.s o.sz (λ j hj=>?_) (by rw[<- hs];exact bp.take _ _ _ _ _ hO);have hj2:j<m.s+aa*sz:=by
           rw[hs];refine Nat.lt_of_lt_of_le hj (Nat.add_le_add_left ?_ _);exact Nat.mul_le_mul_right _ (by simp[length_take];omega)
          rw[<- hcc,List.getElem?_toArray,aM,List.getElem?_append_left (by simp[length_take];omega),List.getElem?_take,aX hj2,Array.getElem?_toList])
         exact⟨_,_,β,I,.inl (hdone _ hrun),⟨λ _ _=>rfl,λ_ _ h=>h,vx,λ_ h=>h⟩,hM,A4⟩
      .cases ha
   .cases ha
 .rename_i kk m t u qT;obtain⟨v,v',hvs⟩:∃v v',vs=#[v,v']:=by
   obtain⟨l⟩:=vs
   match l,hv with
   |[v,v'],_=>exact⟨v,v',rfl⟩
   |[],h=>simp[bj]at h
   |[_],h=>simp[bj]at h
   |_::_::_::_,h=>simp[bj]at h
  have ht:cX=#[t,u]:=by cases cX;simpa using qT
  subst hvs ht;simp only[bj,VR,TR]at hv;obtain⟨rfl,⟨rfl,_⟩,_⟩:=hv;cases hti:T t with
  |none=>simp[hti]at ha
  |some ti=>
   cases wj:T u with
   |none=>simp[hti,wj]at ha
   |some ui=>
    simp only[hti,wj,af]at ha;split at ha
    .rename_i e kn hkd BT;cases fS:T e with
     |none=>simp[fS]at ha
     |some ei=>
      simp only[fS,af,aA]at ha;subst ha;obtain⟨m0,m48,HD,mpos⟩:=cV;have he:=hT e ei fS;have fj:=gW (hT t ti hti) hkd;obtain⟨info,d,z,g1,g2,g3,g4,g5,g6,g7,g8⟩:=he.ex;have⟨_,dd',_,_,h2',_,_,_,_,_,h8⟩:=(hT u ui wj).ex;rw[BT]at h8;have h8:dd'= .int kn:=h8;subst h8;obtain⟨n,rfl⟩:∃n:Nat,m=(n:Int):=⟨m.toNat,by omega⟩;simp only[Int.toNat_natCast]at m48 HD ⊢;by_cases h0:n=0
      .subst h0;have⟨hS,hM⟩:=Mem.pC (i:=cR i) (o:=⟨ei.size,[]⟩) h hn rfl;have hrun:(Builtin.append_ #[t,u] ty #[.slice none 0 0,.int kk ((0:Nat):Int)]).run P w= .ok (.slice none 0 0) w:=by
        have hw0:i64.wrap (0:Int)=0:=(by decide);simp[Builtin.append_,run_underlying fj,run_underlying h2',sizeOf,typeInfo,g1,asInt,asIntOf,hw0]
       replace hrun:(Builtin.append_ #[t,u] ty #[.slice none 0 0,.int kk 0]).run P w= .ok (.slice none 0 0) w:=hrun
       refine⟨.slice none 0 0,w,_,I,.inl (by simp[execOp,resolve,invoke,builtin,<- hops,hrun]),hS,by simpa[dX]using hM,by simp only[VR];exact .inl ⟨by simp[ins],trivial,trivial,trivial⟩⟩
      .have hrun:=Lib.run_append_nil_zeros (P:=P) w t u ty e info z kk kn fj h2' g1 g5 n (by omega) (by omega) (by simp only[maxLen]at HD;omega) (by rw[g4];omega);have hd:=h.drew;have hzs:z.cells.size=ei.size:=(by rw[<- Array.length_toList,g6];exact he.len);have hge:=grownCap_ge w n 0 e;generalize hC:Builtin.zeroCells z.cells n++Builtin.zeroCells z.cells (grownCap w n 0 e -n)=cs at hrun;have hcs:cs.size=grownCap w n 0 e*ei.size:=by
        rw[<- hC];simp only[Array.size_append,size_zeroCells,hzs,<- Nat.add_mul];rw[show n+(grownCap w n 0 e -n)=grownCap w n 0 e by omega]
       obtain⟨hS,hM⟩:=Mem.alloc (i:=cR i) (o:=⟨ei.size,List.replicate n (ei.zero.map cv)⟩) (c:=cs) (e:=e) hd hn (by
        refine bp.zeros ei.zero ei.size he.len (λ v hv=>sO (all_eq_true.1 he.one v hv)) n cs 0 (λ i j hi hj=>?_);have hlt:0+i*ei.size+j<n*ei.size:=by
         have:(i+1)*ei.size<=n*ei.size:=Nat.mul_le_mul_right _ (by omega);rw[Nat.add_mul]at this;omega
        rw[<- hC,Array.getElem?_append_left (by simpa[size_zeroCells,hzs]using hlt),KU _ _ _ (by rw[hzs];exact hlt),hzs,<- g6,Array.getElem?_toList];congr 1;rw[Nat.zero_add,Nat.mul_comm,Nat.mul_add_mod,Nat.mod_eq_of_lt hj])
       refine⟨_,_,_,I,.inl (by simp[execOp,resolve,invoke,builtin,<- hops,hrun];rfl),⟨hS.other,hS.ext,λb hb=>hS.same b hb,hS.inc⟩,hM.ws,?_⟩;simp only[VR];refine .inr ⟨w.heap.size,ei.size,_,_,0,by simp[ins];rfl,rfl,hge,?_,by simp⟩;rw[hcs,Nat.zero_add];simp
    .cases ha
 .cases ha
theorem aa9(hT:fe P T)(h:Mem P w0 O0 β I obj w)(hn:β (cR i)=none){o:Oper}{n:Int}{ρ:Operand->AV}{get:Nat->J aT}{ab:Out}(hg:∀k o,get k=some o->obj k=some o)
 {r:Operand->Value} (hρ:∀x,VR P β w I (ρ x) (r x)) (ha:sQ T i o n ρ get=some ab) (cV:ab.ob):so P w0 O0 β I obj w i ab ((execOp r o).run P w):=by
 obtain⟨dst,op,ty,ao,after,guard⟩:=o;have val:∀{s:Sem Value}{z:Value},s.run P w= .ok z w->ab.upd=[]->VR P β w I ab.v z->so P w0 O0 β I obj w i ab ((do pure (.value (<- s)):Sem Next).run P w):=by
  intro s z h1 h2 h3;refine⟨z,w,β,I,.inl (by simp[h1]),Step.refl ..,by rw[h2];exact h,h3⟩
 unfold sQ at ha;split at ha
 .rename_i bop t x y q heq;simp only at heq;subst heq;have⟨z,h1,h2,h3⟩:=af3 (xo:=x) (yo:=y) hT ha (hρ x) (hρ y);exact val h1 h3 h2
 .rename_i s d x heq;simp only at heq;subst heq;have⟨z,h1,h2,h3⟩:=ade hT ha (hρ x);exact val h1 h3 h2
 .rename_i t x j heq;simp only at heq;subst heq;have⟨z,h1,h2,h3⟩:=aa8 hT ha cV (hρ x) (hρ j);exact val h1 h3 h2
 .rename_i t x lo hi heq;simp only at heq;subst heq;obtain⟨z,h1,h2,h3⟩:=Sz (tt:=lo.map r) (hiv:=hi.map r) hT ha cV (hρ x) (λ y hy=>by
   cases lo with
   |none=>cases hy
   |some q=>cases hy;exact⟨r q,rfl,hρ q⟩) (λ h=>by cases lo<;>first |rfl |cases h) (λ y hy=>by
   cases hi with
   |none=>cases hy
   |some q=>cases hy;exact⟨r q,rfl,hρ q⟩) (λ h=>by cases hi<;>first |rfl |cases h)
  exact val h1 h3 h2
 .rename_i b args cX heq;simp only at heq;subst heq;exact SA hT h hn hg ha cV (by rw[Array.toList_map];exact bj.map hρ _) rfl
 .cases ha
theorem abb(hT:fe P T)(h:Mem P w0 O0 β I obj w)(hn:β (cR i)=none){o:Oper}{ae:U Nat}{fr:Operand->AV}{cL:ka}{ρ:Operand->AV}{get:Nat->J aT}{ab:Out}(hg:∀k o,get k=some o->obj k=some o)
 {r:Operand->Value} (hρ:∀x,VR P β w I (ρ x) (r x)) (ha:Hq P T i o ae fr cL ρ get=some ab) (cV:ab.ob):so P w0 O0 β I obj w i ab ((execOp r o).run P w):=by
 unfold Hq at ha;split at ha
 .cases ha
 rw[ai]at ha;obtain⟨out',h1,h2⟩:=ha;cases h2;have cV:=qE _ cV;have hb:=cV (∀ x∈o.op.operands,(fY P get (ρ x) (fr x)/\∀k∈refs (ρ x),k∈ae)\/fr x=ρ x) (by simp);have hsub:∀k o',dm obj (ae.map λk=>(k,none)) k=some o'->obj k=some o'/\k∉ae:=by
  intro k o' hk;rw[yh]at hk;split at hk
  .cases hk
  .exact⟨hk,‹_›⟩
 have hd:=h.drop (dm obj (ae.map λk=>(k,none))) (λ k o hk=>(hsub k o hk).1);obtain⟨_,hM⟩:=hd.below (I':=gb β obj ae I) (w':=w) ⟨rfl,rfl,rfl,aD _,λ_ _=>rfl⟩ (λ b hb=> .inl hb) (MC h ae) (λ b k o B hb' e1 e2 e3=>by
  have⟨f1,f2⟩:=hsub k o e1;have⟨a1,_,_⟩:=h.ownB k o B b f1 e2 e3;rcases hb' with h5 |⟨k',o',s',n',g1,g2,g3⟩
  .exact a1 h5
  .have:=h.lP k k' o o' b f1 g2 ⟨B,e2,e3⟩ (.at g3);subst this;exact f2 g1) (λ b hb'=>by
  rcases hb' with h5 |⟨k',o',s',n',g1,g2,g3⟩
  .exact h.up b h5
  .exact .inr (h.own k' o' b s' n' g2 g3).2.2)
 have hfr:∀x,VR P β w (gb β obj ae I) ((λ x=>open Classical in if x∈o.op.operands then fr x else .undef) x) (r x):=by
  intro x;by_cases hx:x∈o.op.operands
  .simp only[hx,if_true];rcases hb x hx with ⟨b1,b2⟩ |b1
   .exact VR.mono (λ k B h=>by simp[mm]at h) (λ _ _=>rfl) (λ _ h=>h) _ _ (fY.sound h ae _ _ _ b2 (fY.weaken hg _ _ b1) (hρ x))
   .rw[b1];exact VR.mono (λ _ _ h=>h) (λ _ _=>rfl) (λ _ h=> .inl h) _ _ (hρ x)
  .simp only[hx,if_false,VR]
 rw[Ro (ρ':=λx=>open Classical in if x∈o.op.operands then fr x else .undef) (λ x hx=>by simp only[hx,if_true])]at h1;obtain⟨v',w',β',I',k1,k2,k3,k4⟩:=Rm hT hM hn (λ k o' hk=>by
  rw[yh];split at hk
  .cases hk
  .rw[aS ‹_›];exact hg k o' hk) hfr h1 (qW _ λp hp=>cV p (by simp[hp]))
 refine⟨v',w',β',I',k1,⟨k2.other,k2.ext,λb hb=>k2.same b (.inl hb),λb hb=>k2.inc b (.inl hb)⟩,?_,k4⟩;have e:dm obj (out'.upd++ae.map λk=>(k,none))=dm (dm obj (ae.map λk=>(k,none))) out'.upd:=funext λk=>rU obj _ _ k;rw[e];exact k3
end
open Go.RowKit Go.MapKept
def MF:AG->Value->Bool
 | .int a,.int b _=>decide (a=b)
 | .str,.string _=>true
 | .bool,.bool _=>true
 |_,_=>false
def Rp:Value->Value->J Bool
 | .int k a,.int k' b=>if k=k' then some (a==b)else none
 | .string a,.string b=>some (a.toList==b.toList)
 | .bool a,.bool b=>some (a==b)
 |_,_=>none
def Rq(key:Value):U (List AV)->J (Option (Nat×AV))
 |[]=>some none
 |[.t (.sc kv),y]::rs=>(Rp key kv).bind λb=>if b then some (some (0,y))else(Rq key rs).map λr=>r.map λp=>(p.1+1,p.2)
 |_=>none
def yi(key:Value)(y':AV):U (List AV)->J (List (List AV))
 |[]=>some [[.t (.sc key),y']]
 |[.t (.sc kv),y]::rs=>(Rp key kv).bind λb=>if b then some ([.t (.sc key),y']::rs)else(yi key y' rs).map λr=>[.t (.sc kv),y]::r
 |_=>none
def yq:AV->AV
 | .agg cs=> .agg (cs.map wk)
 |x=>wk x
def Hr(T:eo)(i:Nat)(t:TypeId):J Out:=
 (T t).bind λti=>match ti.k with
 | .map _ _=>some ⟨.mp (cR i),[(cR i,some ⟨0,[]⟩)],[]⟩
 |_=>none
def wg(r:J (Nat×AV))(z:J AV):J AV:=match r with
 |some p=>some p.2
 |none=>z
def Us(T:eo)(t:TypeId)(x key:AV)(ok:Bool)(get:Nat->J aT):J Out:=
 (T t).bind λti=>match ti.k,x,key with
 | .map kt et,.mp k,.t (.sc kv)=>(T kt).bind λki=>(T et).bind λei=>(get k).bind λo=>if MF ki.k kv=true/\o.sz=o.rows.length then(Rq kv o.rows).bind λr=>
  (wg r (part' ei.agg ei.size ((ei.zero.map cv).map wk))).bind λv=>pv (if ok then .eV [v,.t (.sc (.bool r.isSome))]else v)else none
 |_,_,_=>none
def Ut(T:eo)(t:TypeId)(x key y:AV)(get:Nat->J aT):J Out:=
 (T t).bind λti=>match ti.k,x,key with
 | .map kt _,.mp k,.t (.sc kv)=>(T kt).bind λki=>(get k).bind λo=>if MF ki.k kv=true/\o.sz=o.rows.length then(yi kv (yq y) o.rows).bind λrs=>
  some ⟨.undef,[(k,some ⟨rs.length,rs⟩)],[]⟩else none
 |_,_,_=>none
section
variable {P:Program} {T:eo} {w0:World} {O0:ky} {β:Nat->Option cT} {I:Nat->Prop} {obj:Nat->Option aT} {w:World} {i:Nat}
theorem ajg{k:AG}{v:Value}{d:TypeDesc}(h:MF k v=true)(hd:RM k d):IsKey d v:=by
 unfold MF at h;split at h
 .rename_i a b n;have hd:d= .int a:=hd;subst hd;simp only[aV]at h;subst h;simp[IsKey]
 .have hd:d= .string:=hd;subst hd;simp[IsKey]
 .have hd:d= .bool:=hd;subst hd;simp[IsKey]
 .cases h
theorem ZK{d:TypeDesc}{a b:Value}(ha:IsKey d a){r:Bool}(h:Rp a b=some r):Instr.sameNow d a b=some r/\(r=true->a=b)/\IsKey d b:=by
 unfold Rp at h;split at h
 .rename_i k x k' y;split at h
  .rename_i hk;subst hk;cases h;cases d<;>simp only[IsKey]at ha ⊢
   all_goals first |exact ha.elim |skip
   subst ha;refine⟨by simp[Instr.sameNow],λhh=>?_,rfl⟩;rw[eq_of_beq hh]
  .cases h
 .rename_i x y;cases h;cases d<;>simp only[IsKey]at ha ⊢
  all_goals first |exact ha.elim |skip
  have e:(x==y)=(x.toList==y.toList):=by
   rw[jZ,bytes_beq];constructor
   .rintro rfl;simp
   .intro hh;have:=eq_of_beq hh;cases x;cases y;simp only[ByteArray.toList_eq]at this;congr 1;exact Array.ext' this
  refine⟨by simp[Instr.sameNow,e],λhh=>?_,trivial⟩;rw[(bytes_beq x y).1 (e ▸ hh)]
 .rename_i x y;cases h;cases d<;>simp only[IsKey]at ha ⊢
  all_goals first |exact ha.elim |skip
  exact⟨by simp[Instr.sameNow],λhh=>by rw[eq_of_beq hh],trivial⟩
 .cases h
theorem Rs{d:TypeDesc}{key:Value}(hk:IsKey d key):∀(rows:U (List AV))(es:U MapEntry)(i:Nat)(r:J (Nat×AV)),cH P β w I rows es->Rq key rows=some r->
 (r=none/\Instr.findNow d key es i=some none)\/∃j y e,r=some (j,y)/\Instr.findNow d key es i=some (some (i+j,e.val))/\es[j]? =some e/\e.key=key/\VR P β w I y e.val
 |[],[],i,r,_,h=>by simp only[Rq,aA]at h;exact .inl ⟨h.symm,rfl⟩
 |row::rows,e::es,i,r,hm,h=>by
  obtain⟨h1,h2⟩:=hm;unfold Rq at h;split at h
  .rename_i heq;cases heq
  .rename_i kv y rs heq;injection heq with e1 e2;subst e1;subst e2;simp only[bj,VR,TR]at h1;obtain⟨⟨g1,_⟩,g2,_⟩:=h1;rw[ai]at h;obtain⟨b,h3,h⟩:=h;rw[<- g1]at h3;have⟨q1,q2,_⟩:=ZK hk h3;cases b with
   |true=>
    simp only[if_true,aA]at h;subst h;exact .inr ⟨0,y,e,rfl,by simp[Instr.findNow,q1],rfl,(q2 rfl).symm,g2⟩
   |false=>
    simp only[Bool.false_eq_true,if_false,dN]at h;obtain⟨r',h4,rfl⟩:=h;rcases Rs hk rows es (i+1) r' h2 h4 with ⟨rfl,a2⟩ |⟨j,y',e',rfl,a2,a3,a4,a5⟩
    .exact .inl ⟨rfl,by simp[Instr.findNow,q1,a2]⟩
    .exact .inr ⟨j+1,y',e',rfl,by simp only[Instr.findNow,q1,a2];congr 3;omega,by simpa using a3,a4,a5⟩
  .cases h
 |[],_::_,_,_,hm,_=>hm.elim
 |_::_,[],_,_,hm,_=>hm.elim
theorem Ve{d:TypeDesc}{key v:Value}{y':AV}(hk:IsKey d key)(hv:VR P β w I y' v)(hkv:oneCell key):∀(rows:U (List AV))(es:U MapEntry)(i:Nat)(rs':U (List AV)),cH P β w I rows es->yi key y' rows=some rs'->
 (Instr.findNow d key es i=some none/\∀n,cH P β w I rs' (es++[⟨key,v,n⟩]))\/∃j e,Instr.findNow d key es i=some (some (i+j,e.val))/\es[j]? =some e/\e.key=key/\cH P β w I rs' (es.modify j λe=>{ e with key:=key,val:=v })
 |[],[],i,r,_,h=>by
  simp only[yi,aA]at h;subst h;refine .inl ⟨rfl,λn=>?_⟩;simp only[bT,cH,bj,VR,TR];exact⟨⟨⟨trivial,hkv⟩,hv,trivial⟩,trivial⟩
 |row::rows,e::es,i,r,hm,h=>by
  obtain⟨h1,h2⟩:=hm;unfold yi at h;split at h
  .rename_i heq;cases heq
  .rename_i kv y rs heq;injection heq with e1 e2;subst e1;subst e2;have h1':=h1;simp only[bj,VR,TR]at h1;obtain⟨⟨g1,g1'⟩,g2,_⟩:=h1;rw[ai]at h;obtain⟨b,h3,h⟩:=h;rw[<- g1]at h3;have⟨q1,q2,_⟩:=ZK hk h3;cases b with
   |true=>
    simp only[if_true,aA]at h;subst h;refine .inr ⟨0,e,by simp[Instr.findNow,q1],rfl,(q2 rfl).symm,?_⟩;simp only[List.modify_zero_cons,cH,bj,VR,TR];exact⟨⟨⟨trivial,hkv⟩,hv,trivial⟩,h2⟩
   |false=>
    simp only[Bool.false_eq_true,if_false,dN]at h;obtain⟨r',h4,rfl⟩:=h;rcases Ve hk hv hkv rows es (i+1) r' h2 h4 with ⟨a1,a2⟩ |⟨j,e',a1,a2,a3,a4⟩
    .exact .inl ⟨by simp[Instr.findNow,q1,a1],λn=>⟨h1',a2 n⟩⟩
    .refine .inr ⟨j+1,e',by simp only[Instr.findNow,q1,a1];congr 3;omega,by simpa using a2,a3,?_⟩;simp only[List.modify_succ_cons,cH];exact⟨h1',a4⟩
  .cases h
 |[],_::_,_,_,hm,_=>hm.elim
 |_::_,[],_,_,hm,_=>hm.elim
theorem Mem.uv{k:Nat}{o o':aT}{b:Nat}{es:Array MapEntry}{cl:Nat}{w':World}(h:Mem P w0 O0 β I obj w)(hk:obj k=some o)(hβ:β k=some (.mp b))
 (hnew:w'.heap[b]? =some (.map es cl)) (hother:∀b',b'≠b->w'.heap[b']? =w.heap[b']?) (hsize:w'.heap.size=w.heap.size) (hos:w'.os=w.os) (vh:w'.tape=w.tape) (hout:w'.output=w.output)
 (hle:o'.rows.length<=o'.sz) (hr:cH P β w I o'.rows es.toList) (hnd:(es.toList.map (·.born)).Nodup) (hlt':∀e∈es.toList,e.born<cl):
 Same I w w'/\Mem P w0 O0 β I (dm obj [(k,some o')]) w':=by
 obtain⟨SO,hlt,hO⟩:=h.jt k o b hk ⟨_,hβ,rfl⟩;have hs:Same I w w':=λb' hb=>hother b' (λ e=>SO (e ▸ hb));have hx:∀(j:Nat)(o1:aT),dm obj [(k,some o')] j=some o1->∃o2,obj j=some o2:=λj o1 h=>by
  simp only[dm]at h;split at h
  .rename_i e;exact⟨o,by rw[e];exact hk⟩
  .exact⟨_,h⟩
 refine⟨hs,?_⟩;constructor
 .intro j oj hj;simp only[dm]at hj;split at hj
  .rename_i hjk;cases hj;exact⟨.mp b,by rw[hjk];exact hβ,es,cl,hnew,hle,λ_=>cH.mono (λ _ _ h=>h) hs (λ _ h=>h) _ _ hr,hnd,hlt'⟩
  .rename_i hjk;have⟨B,hB,sA⟩:=h.cP j oj hj;refine⟨B,hB,OR.mono (λ _ _ h=>h) hs (λ _ h=>h) (λ b1 e1=>hother b1 (λ e2=>hjk ?_)) sA⟩;subst e2;exact h.gS j k oj o B _ b1 hj hk hB hβ e1 rfl
 .intro j j' o1 o2 B1 B2 b1 h1 h2 h3 h4 h5 h6;have⟨p1,q1⟩:=hx j o1 h1;have⟨p2,q2⟩:=hx j' o2 h2;exact h.gS j j' p1 p2 B1 B2 b1 q1 q2 h3 h4 h5 h6
 .intro j o1 B1 b1 h1 h2 h3;have⟨p1,q1⟩:=hx j o1 h1;have:=h.ownB j p1 B1 b1 q1 h2 h3;rw[hsize];exact this
 .intro b1 hb1;rw[hsize];exact h.lt b1 hb1
 .exact h.up
 .intro b1 hb1 hno;rw[hother b1 (λ e1=>?_)]
  .exact h.keep b1 hb1 hno
  .subst e1;rcases hO with hO |hO
   .exact hno hO
   .omega
 .rw[hsize];exact h.le
 .rw[hos];exact h.os
 .rw[vh];exact h.tape
 .rw[hout];exact h.output
 .exact h.anch
 .exact h.vars.mono hs (λ _ h=>h)
theorem Mem.DG(h:Mem P w0 O0 β I obj w)(hn:β i=none):
 Step β I w i (ins β i (.mp w.heap.size)) I (w.alloc (.map #[] 0))/\Mem P w0 O0 (ins β i (.mp w.heap.size)) I (dm obj [(i,some ⟨0,[]⟩)]) (w.alloc (.map #[] 0)):=by
 have hS:Step β I w i (ins β i (.mp w.heap.size)) I (w.alloc (.map #[] 0)):=
  ⟨λ k hk=>by simp[ins,jj.ne hk],nu hn,Same.alloc h.lt _,λ_ h=>h⟩
 refine⟨hS,?_⟩;constructor
 .intro k o' hk;simp only[dm]at hk;split at hk
  .cases hk;rename_i hki;exact⟨.mp w.heap.size,by simp[ins,hki],#[],0,heap_alloc_new w _,aD _,λ_=>trivial,by simp,by simp⟩
  .have⟨B,hB,hO⟩:=h.cP k o' hk;exact⟨B,nu hn _ _ hB,OR.mono hS.ext hS.same hS.inc (λ b hb=>qD (h.ownB k o' B b hk hB hb).2.1) hO⟩
 .intro k k' o1 o2 B B' b h1 h2 h3 h4 h5 h6;simp only[dm]at h1 h2;simp only[ins]at h3 h4;split at h1<;>split at h2
  .rename_i a b;rw[a,b]
  .rename_i hki pn;simp only[hki,if_true,aA]at h3;simp only[pn,if_false]at h4;subst h3;injection h5 with h5;have:=(h.ownB k' o2 B' b h2 h4 h6).2.1;omega
  .rename_i hki pn;simp only[pn,if_true,aA]at h4;simp only[hki,if_false]at h3;subst h4;injection h6 with h6;have:=(h.ownB k o1 B b h1 h3 h5).2.1;omega
  .rename_i hki pn;simp only[hki,pn,if_false]at h3 h4;exact h.gS k k' o1 o2 B B' b h1 h2 h3 h4 h5 h6
 .intro k o' B b h1 h2 h3;simp only[dm]at h1;simp only[ins]at h2;split at h1
  .rename_i hki;simp only[hki,if_true,aA]at h2;subst h2;injection h3 with h3;refine⟨λ hI=>?_,?_,.inr ?_⟩
   .have:=h.lt b hI;omega
   .simp;omega
   .have:=h.le;omega
  .rename_i hki;simp only[hki,if_false]at h2;have⟨a,b',c'⟩:=h.ownB k o' B b h1 h2 h3;exact⟨a,by simp;omega,c'⟩
 .intro b hb;have:=h.lt b hb;simp;omega
 .exact h.up
 .intro b hb hO;rw[qD (by have:=h.le;omega)];exact h.keep b hb hO
 .have:=h.le;simp;omega
 .exact h.os
 .exact h.tape
 .exact h.output
 .intro j B hj;exact nu hn _ _ (h.anch j B hj)
 .exact h.vars.mono (Same.alloc h.lt _) (λ _ h=>h)
theorem MH{t:TypeId}{ti:np}(ht:ma P t ti){k e:TypeId}(h:ti.k= .map k e):P.underlying t=some (.map k e):=by
 obtain⟨info,d,z,_,h2,_,_,_,_,_,h8⟩:=ht.ex;rw[h]at h8;have h8:d= .map k e:=h8;rw[h2,h8]
theorem adf{t:TypeId}{ti:np}(ht:ma P t ti){v:Value}(h:MF ti.k v=true):∃d,P.underlying t=some d/\IsKey d v:=by
 obtain⟨info,d,z,_,h2,_,_,_,_,_,h8⟩:=ht.ex;exact⟨d,h2,ajg h h8⟩
theorem anv{k:AG}{v:Value}(h:MF k v=true):oneCell v:=by
 unfold MF at h;split at h
 .exact trivial
 .exact trivial
 .exact trivial
 .cases h
theorem anw{t:TypeId}{ti:np}(ht:ma P t ti){v:AV}(hp:part' ti.agg ti.size ((ti.zero.map cv).map wk)=some v):∃z,(zeroValue t).run P w= .ok z w/\VR P β w I v z:=by
 obtain⟨info,d,z,h1,h2,h3,h4,h5,h6,h7,h8⟩:=ht.ex;refine⟨z,by simp[zeroValue,typeInfo,h1,h5],?_⟩;obtain⟨_,_,g1,g2⟩:=Lj (P:=P) (β:=β) (w:=w) (I:=I) hp (bj.wk _ _ (bj.cv ti.zero));have hf:=ht.form info z h1 h5;cases ha:ti.agg with
 |true=>
  rw[ha]at hf;cases z<;>simp only[tg,Bool.not_true,reduceCtorEq]at hf;rename_i cs;have:=g1 ha;simp only[Value.cells]at h6;rw[<- h6]at this;simpa using this
 |false=>
  rw[ha]at hf;have h1c:oneCell z:=by cases z<;>simp only[tg,Bool.not_false,Bool.false_eq_true]at hf<;>trivial
  have⟨u,e1,e2⟩:=g2 ha;rw[cells_one h1c]at h6;simp only at h6;rw[<- h6]at e1;cases e1;exact e2
theorem Vf(h:Mem P w0 O0 β I obj w)(hn:β (cR i)=none){t:TypeId}{ab:Out}(ha:Hr T i t=some ab){r:Operand->Value}
 {dst:J Tmp} {ty:TypeId} {ao:String} {after:Array Edge} {guard:J (Nat×Bool)}:so P w0 O0 β I obj w i ab ((execOp r ⟨dst,.makeMap t none,ty,ao,after,guard⟩).run P w):=by
 unfold Hr at ha;cases hti:T t with
 |none=>simp[hti]at ha
 |some ti=>
  simp only[hti,af]at ha;split at ha
  .cases ha;have⟨hS,hM⟩:=Mem.DG h hn;refine⟨.map (some w.heap.size),_,_,I,.inl ?_,hS,hM,?_⟩
   .simp[execOp,Instr.makeMap]
   .simp only[VR];exact⟨_,by simp[ins],rfl⟩
  .cases ha
theorem Pp(hT:fe P T){t kt et:TypeId}{ei:np}(fS:T et=some ei){b:Nat}{es:Array MapEntry}{cl:Nat}{kv:Value}{ok:Bool}{r:J (Nat×AV)}{v:AV}
 (hu:P.underlying t=some (.map kt et)) (g1:w.heap[b]? =some (.map es cl)) (hck:(Instr.checkKey es.isEmpty 10000 kt kv).run P w= .ok () w)
 (hf:(r=none/\(Instr.findKey kt kv es.toList).run P w= .ok none w)\/∃(j:Nat)(y:AV)(e:MapEntry),r=some (j,y)/\(Instr.findKey kt kv es.toList).run P w= .ok (some (j,e.val)) w/\VR P β w I y e.val)
 (hv:wg r (part' ei.agg ei.size ((ei.zero.map cv).map wk))=some v):
 ∃z,(Instr.lookup t (.map (some b)) kv ok).run P w= .ok z w/\VR P β w I (if ok then .eV [v,.t (.sc (.bool r.isSome))]else v) z:=by
 rcases hf with ⟨rfl,a2⟩ |⟨j,y,e,rfl,a2,a5⟩
 .have⟨z,hz,hzv⟩:=anw (β:=β) (I:=I) (w:=w) (hT et ei fS) hv;cases ok with
  |true=>
   refine⟨.tuple #[z,.bool false],?_,?_⟩
   .simp[Instr.lookup,run_underlying hu,MapKept.run_getObj_map g1,hck,a2,hz,Result.andThen]
   .simp only[if_true,VR];exact⟨_,rfl,by simp only[bj,VR,TR];exact⟨hzv,⟨rfl,trivial⟩,trivial⟩⟩
  |false=>
   refine⟨z,?_,by simpa using hzv⟩;simp[Instr.lookup,run_underlying hu,MapKept.run_getObj_map g1,hck,a2,hz,Result.andThen]
 .simp only[wg,aA]at hv;subst hv;cases ok with
  |true=>
   refine⟨.tuple #[e.val,.bool true],?_,?_⟩
   .simp[Instr.lookup,run_underlying hu,MapKept.run_getObj_map g1,hck,a2,Result.andThen]
   .simp only[if_true,VR];exact⟨_,rfl,by simp only[bj,VR,TR];exact⟨a5,⟨rfl,trivial⟩,trivial⟩⟩
  |false=>
   refine⟨e.val,?_,by simpa using a5⟩;simp[Instr.lookup,run_underlying hu,MapKept.run_getObj_map g1,hck,a2,Result.andThen]
theorem YD(hT:fe P T)(h:Mem P w0 O0 β I obj w){t:TypeId}{x key:AV}{ok:Bool}{get:Nat->J aT}{ab:Out}(hg:∀k o,get k=some o->obj k=some o){u kv:Value}
 (ha:Us T t x key ok get=some ab) (hx:VR P β w I x u) (hk:VR P β w I key kv):∃z,(Instr.lookup t u kv ok).run P w= .ok z w/\VR P β w I ab.v z/\ab.upd=[]:=by
 unfold Us at ha;cases hti:T t with
 |none=>simp[hti]at ha
 |some ti=>
  simp only[hti,af]at ha;split at ha
  .rename_i kt et k kv' hk1;rw[ai]at ha;obtain⟨ki,hki,ha⟩:=ha;rw[ai]at ha;obtain⟨ei,fS,ha⟩:=ha;rw[ai]at ha;obtain⟨o,ho,ha⟩:=ha;split at ha
   .rename_i hc;rw[ai]at ha;obtain⟨r,hr,ha⟩:=ha;rw[ai]at ha;obtain⟨v,hv,ha⟩:=ha;simp only[pv,aA]at ha;subst ha;simp only[VR,TR]at hx hk;obtain⟨b,hβ,rfl⟩:=hx;obtain⟨rfl,_⟩:=hk;have⟨B,hB,hO⟩:=h.cP k o (hg k o ho);rw[hβ]at hB;cases hB;obtain⟨es,cl,g1,g2,g3,g4⟩:=hO;have hu:=MH (hT t ti hti) hk1;have⟨d,hd,hkey⟩:=adf (hT kt ki hki) hc.1;obtain⟨z,q1,q2⟩:=Pp (β:=β) (I:=I) hT fS (ok:=ok) hu g1 (run_checkKey hd hkey _ 9999) (by
     rcases Rs hkey o.rows es.toList 0 r (g3 hc.2) hr with ⟨rfl,a2⟩ |⟨j,y,e,rfl,a2,a3,a4,a5⟩
     .exact .inl ⟨rfl,run_findKey hd a2⟩
     .rw[Nat.zero_add]at a2;exact .inr ⟨j,y,e,rfl,run_findKey hd a2,a5⟩) hv
    exact⟨z,q1,q2,rfl⟩
   .cases ha
  .cases ha
theorem ak2{x:AV}{v:Value}(h:VR P β w I x v):VR P β w I (yq x) v:=by
 cases x<;>simp only[yq]<;>try exact h.wk
 simp only[VR]at h ⊢;obtain⟨vs,h1,h2⟩:=h;exact⟨vs,h1,bj.wk _ _ h2⟩
theorem abe{d:TypeDesc}{v:Value}(h:IsKey d v):Instr.sameBits 10000 v v=true:=by cases d<;>cases v<;>simp only[IsKey]at h<;>simp_all [Instr.sameBits,bytes_beq]
theorem adg(h:Mem P w0 O0 β I obj w){t kt et:TypeId}{k b:Nat}{o:aT}{es:Array MapEntry}{cl:Nat}{kv v:Value}{rs:U (List AV)}
 (hu:P.underlying t=some (.map kt et)) (hZ:obj k=some o) (hβ:β k=some (.mp b)) (g1:w.heap[b]? =some (.map es cl)) (g4:(es.toList.map (·.born)).Nodup) (g5:∀e∈es.toList,e.born<cl)
 (hck:(Instr.checkKey false 10000 kt kv).run P w= .ok () w) (hks:(Instr.keyThatStays kv kv).run P w= .ok kv w)
 (hf:((Instr.findKey kt kv es.toList).run P w= .ok none w/\∀n,cH P β w I rs (es.toList++[⟨kv,v,n⟩]))\/
  ∃(j:Nat)(e:MapEntry),(Instr.findKey kt kv es.toList).run P w= .ok (some (j,e.val)) w/\es.toList[j]? =some e/\e.key=kv/\cH P β w I rs (es.toList.modify j λe=>{ e with key:=kv,val:=v })):
 ∃w',(Instr.mapUpdate t (.map (some b)) kv v).run P w= .ok () w'/\Same I w w'/\Mem P w0 O0 β I (dm obj [(k,some ⟨rs.length,rs⟩)]) w':=by
 rcases hf with ⟨a1,a2⟩ |⟨j,e,a1,a2,a3,a4⟩
 .obtain⟨k1,k2⟩:=heap_set (o':= .map (es.push ⟨kv,v,cl⟩) (cl+1)) g1
  obtain⟨m1,m2⟩:=h.uv (o':=⟨rs.length,rs⟩) (w':={ w with heap:=w.heap.setIfInBounds b (.map (es.push ⟨kv,v,cl⟩) (cl+1)) }) hZ hβ k1 k2 (by simp) rfl rfl rfl (aD _) (by simpa using a2 cl)
   (by
    rw[Array.toList_push,List.map_append,List.nodup_append];refine⟨g4,by simp,λa ha b hb=>?_⟩;simp only[aF,List.map_nil,aP]at hb;obtain⟨e,he,rfl⟩:=mem_map.1 ha;have:=g5 e he;omega)
   (λ e he=>by
    rw[Array.toList_push,aZ]at he;rcases he with he |he
    .have:=g5 e he;omega
    .simp only[aP]at he;subst he;exact Nat.lt_succ_self _)
  refine⟨_,?_,m1,m2⟩;simp[Instr.mapUpdate,run_underlying hu,MapKept.run_getObj_map g1,hck,a1,run_setObj_map _ g1,Result.andThen]
 .obtain⟨k1,k2⟩:=heap_set (o':= .map (es.modify j λe=>{ e with key:=kv,val:=v }) cl) g1;have ht:(es.modify j λe=>{ e with key:=kv,val:=v }).toList=es.toList.modify j λe=>{ e with key:=kv,val:=v }:=Array.toList_modify;have hb:(es.toList.modify j λe=>{ e with key:=kv,val:=v }).map (·.born)=es.toList.map (·.born):=by
   apply List.ext_getElem?;intro q;simp only[List.getElem?_map,List.getElem?_modify];split<;>cases es.toList[q]?<;>rfl
  obtain⟨m1,m2⟩:=h.uv (o':=⟨rs.length,rs⟩) (w':={ w with heap:=w.heap.setIfInBounds b (.map (es.modify j λe=>{ e with key:=kv,val:=v }) cl) }) hZ hβ k1 k2 (by simp) rfl rfl rfl (aD _) (by rw[ht];exact a4)
   (by rw[ht,hb];exact g4)
   (λ e he=>by
    rw[ht]at he;have:e.born∈(es.toList.modify j λe=>{ e with key:=kv,val:=v }).map (·.born):=mem_map.2 ⟨e,he,rfl⟩;rw[hb]at this;obtain⟨e',he',hh⟩:=mem_map.1 this;rw[<- hh];exact g5 e' he')
  refine⟨_,?_,m1,m2⟩;have hold:((es[j]?).map (·.key)).getD kv=kv:=by rw[<- Array.getElem?_toList,a2];exact a3
  simp only[Instr.mapUpdate,Sem.run_bind,run_underlying hu,MapKept.run_getObj_map g1,hck,a1,Result.andThen,hold,hks,run_setObj_map _ g1]
theorem YE(hT:fe P T)(h:Mem P w0 O0 β I obj w){t:TypeId}{x key y:AV}{get:Nat->J aT}{ab:Out}(hg:∀k o,get k=some o->obj k=some o){u kv v:Value}
 (ha:Ut T t x key y get=some ab) (hx:VR P β w I x u) (hk:VR P β w I key kv) (hy:VR P β w I y v):∃w',(Instr.mapUpdate t u kv v).run P w= .ok () w'/\Same I w w'/\Mem P w0 O0 β I (dm obj ab.upd) w'/\ab.v= .undef:=by
 unfold Ut at ha;cases hti:T t with
 |none=>simp[hti]at ha
 |some ti=>
  simp only[hti,af]at ha;split at ha
  .rename_i kt et k kv' hk1;rw[ai]at ha;obtain⟨ki,hki,ha⟩:=ha;rw[ai]at ha;obtain⟨o,ho,ha⟩:=ha;split at ha
   .rename_i hc;rw[ai]at ha;obtain⟨rs,hr,ha⟩:=ha;cases ha;simp only[VR,TR]at hx hk;obtain⟨b,hβ,rfl⟩:=hx;obtain⟨hkk,_⟩:=hk;subst hkk;have hZ:=hg k o ho;have⟨B,hB,hO⟩:=h.cP k o hZ;rw[hβ]at hB;cases hB;obtain⟨es,cl,g1,g2,g3,g4,g5⟩:=hO;have hu:=MH (hT t ti hti) hk1;have⟨d,hd,hkey⟩:=adf (hT kt ki hki) hc.1;have hlt:b<w.heap.size:=(Array.getElem?_eq_some_iff.1 g1).1;obtain⟨w',q1,q2,q3⟩:=adg (rs:=rs) (v:=v) h hu hZ hβ g1 g4 g5 (run_checkKey hd hkey _ 9999) (by simp[Instr.keyThatStays,abe hkey]) (by
     rcases Ve hkey (ak2 hy) (anv hc.1) o.rows es.toList 0 rs (g3 hc.2) hr with ⟨a1,a2⟩ |⟨j,e,a1,a2,a3,a4⟩
     .exact .inl ⟨run_findKey hd a1,a2⟩
     .rw[Nat.zero_add]at a1;exact .inr ⟨j,e,run_findKey hd a1,a2,a3,a4⟩)
    exact⟨w',q1,q2,q3,rfl⟩
   .cases ha
  .cases ha
end
def qh(k:IntKind):U AV->J (List Int)
 |[]=>some []
 | .t (.sc (.int k' n))::r=>if k'=k then(qh k r).map (n:: ·)else none
 |_=>none
def mH(k:IntKind)(c:U Int):Value:= .agg (c.map (Value.int k)).toArray
def Ht(k:IntKind)(c:U Int):AV:= .agg (c.map λn=> .t (.sc (.int k n)))
def A7(k:IntKind)(key:U Int):U (List AV)->J (Option (Nat×AV))
 |[]=>some none
 |[.agg cs,y]::rs=>(qh k cs).bind λc=>if c.length=key.length then if key=c then some (some (0,y))else(A7 k key rs).map λr=>r.map λp=>(p.1+1,p.2)else none
 |_=>none
def MI(k:IntKind)(key:U Int)(y':AV):U (List AV)->J (List (List AV))
 |[]=>some [[Ht k key,y']]
 |[.agg cs,y]::rs=>(qh k cs).bind λc=>if c.length=key.length then if key=c then some ([Ht k key,y']::rs)else(MI k key y' rs).map λr=>[.agg cs,y]::r else none
 |_=>none
def Ge(T:eo)(kt:TypeId):J (Nat×IntKind):=
 (T kt).bind λki=>match ki.k with
 | .arr m e=>(T e).bind λei=>match ei.k with
  | .int k=>if ei.size=1 then some (m,k)else none
  |_=>none
 |_=>none
def MJ(T:eo)(t:TypeId)(x key:AV)(ok:Bool)(get:Nat->J aT):J Out:=
 (T t).bind λti=>match ti.k,x,key with
 | .map kt et,.mp k,.agg cs=>(Ge T kt).bind λmk=>(T et).bind λei=>(get k).bind λo=>(qh mk.2 cs).bind λc=>if c.length=mk.1/\o.sz=o.rows.length then(A7 mk.2 c o.rows).bind λr=>
  (wg r (part' ei.agg ei.size ((ei.zero.map cv).map wk))).bind λv=>pv (if ok then .eV [v,.t (.sc (.bool r.isSome))]else v)else none
 |_,_,_=>none
def MK(T:eo)(t:TypeId)(x key y:AV)(get:Nat->J aT):J Out:=
 (T t).bind λti=>match ti.k,x,key with
 | .map kt _,.mp k,.agg cs=>(Ge T kt).bind λmk=>(get k).bind λo=>(qh mk.2 cs).bind λc=>if c.length=mk.1/\o.sz=o.rows.length then(MI mk.2 c (yq y) o.rows).bind λrs=>
  some ⟨.undef,[(k,some ⟨rs.length,rs⟩)],[]⟩else none
 |_,_,_=>none
section
variable {P:Program} {T:eo} {w0:World} {O0:ky} {β:Nat->Option cT} {I:Nat->Prop} {obj:Nat->Option aT} {w:World} {i:Nat}
theorem JG{k:IntKind}:∀{cs:U AV}{c:U Int}{vs:U Value},qh k cs=some c->bj P β w I cs vs->vs=c.map (Value.int k)
 |[],c,vs,h,hv=>by
  simp only[qh,aA]at h;subst h;cases vs with
  |nil=>rfl
  |cons=>simp[bj]at hv
 |x::cs,c,vs,h,hv=>by
  unfold qh at h;split at h
  .rename_i heq;cases heq
  .rename_i k' n r heq;injection heq with e1 e2;subst e1;subst e2;split at h
   .rename_i hk;subst hk;rw[dN]at h;obtain⟨c',h1,rfl⟩:=h;cases vs with
    |nil=>simp[bj]at hv
    |cons v vs=>
     simp only[bj,VR,TR]at hv;rw[JG h1 hv.2,hv.1.1];rfl
   .cases h
  .cases h
theorem Ct{e:TypeId}{k:IntKind}(he:P.underlying e=some (.int k))(d:Nat)(xs ys:U Int)(hl:xs.length=ys.length):∀is:U Nat,(∀ i∈is,i<xs.length)->
 (Op.eqItems (d+1) e 1 (xs.map (Value.int k)).toArray (ys.map (Value.int k)).toArray is).run P w= .ok (decide (∀ i∈is,xs[i]? =ys[i]?)) w
 |[],_=>by simp[Op.eqItems]
 |i::is,h=>by
  have hi:=h i (by simp);have hpl:P.plainKey e=true:=by simp[Program.plainKey,he]
  have p1:=run_part_plain (w:=w) hpl (show (xs.map (Value.int k)).toArray[i*1]? =some (.int k xs[i])by simp[hi]);have p2:=run_part_plain (w:=w) hpl (show (ys.map (Value.int k)).toArray[i*1]? =some (.int k ys[i])by simp[hl ▸ hi]);have ih:=Ct he d xs ys hl is λj hj=>h j (by simp[hj]);simp only[Op.eqItems,Sem.run_bind,p1,p2,Result.andThen_ok,run_equalIn_int w d e k k _ _ he];have hi2:i<ys.length:=hl ▸ hi;by_cases hc:xs[i]=ys[i]
  .have e1:(!(xs[i]==ys[i]))=false:=(by simp[hc]);rw[e1,aS (by decide),ih];congr 1;rw[decide_eq_decide];simp[hi,hi2,hc]
  .have e1:(!(xs[i]==ys[i]))=true:=(by simp[hc]);rw[e1,aX rfl,Sem.run_pure];congr 1;symm;rw[dP];intro hh;have:=hh i (by simp);rw[dQ hi,dQ hi2]at this;injection this with this;exact hc this
theorem Hu{t e:TypeId}{n:Nat}{k:IntKind}{info:TypeInfo}(hu:P.underlying t=some (.array n e))(he:P.underlying e=some (.int k))(hi:P.info? e=some info)(hs:info.size=1){xs ys:U Int}(hx:xs.length=n)(hy:ys.length=n):
 (Op.equal t (mH k xs) (mH k ys)).run P w= .ok (decide (xs=ys)) w:=by
 have hce:P.cellsOf e=1:=by simp[Program.cellsOf,hi,hs]
 show(Op.equalIn (9999+1) t _ _).run P w=_;unfold mH;rw[run_equalIn_array w 9999 _ _ hu hi,hce,Ct he 9998 xs ys (by omega) _ (λ i hi=>by rw[hx];exact List.mem_range.1 hi)];congr 1;rw[decide_eq_decide];constructor
 .intro h;refine List.ext_getElem? λi=>?_;by_cases hi:i<n
  .exact h i (List.mem_range.2 hi)
  .rw[List.getElem?_eq_none (by omega),List.getElem?_eq_none (by omega)]
 .rintro rfl _ _;rfl
def Ek(P:Program)(t:TypeId)(n:Nat)(k:IntKind):Prop:=∃e info,P.underlying t=some (.array n e)/\P.underlying e=some (.int k)/\P.info? e=some info/\info.size=1
theorem abf(hT:fe P T){kt:TypeId}{mk:Nat×IntKind}(h:Ge T kt=some mk):Ek P kt mk.1 mk.2:=by
 unfold Ge at h;rw[ai]at h;obtain⟨ki,h1,h⟩:=h;split at h
 .rename_i m e hk;rw[ai]at h;obtain⟨ei,h2,h⟩:=h;split at h
  .rename_i k hk2;split at h
   .rename_i hs;cases h;have⟨info,d,z,g1,g2,g3,_,_,_,_,g8⟩:=(hT e ei h2).ex;rw[hk2]at g8;have g8:d= .int k:=g8;subst g8;exact⟨e,info,Mv (hT kt ki h1) hk,g2,g1,by rw[g3,hs]⟩
   .cases h
  .cases h
 .cases h
theorem yE{t:TypeId}{n:Nat}{k:IntKind}(h:Ek P t n k){c:U Int}(hc:c.length=n)(em:Bool):(Instr.checkKey em 10000 t (mH k c)).run P w= .ok () w:=by
 obtain⟨e,info,hu,he,hi,hs⟩:=h;have hpl:P.plainKey e=true:=by simp[Program.plainKey,he]
 have hce:P.cellsOf e=1:=by simp[Program.cellsOf,hi,hs]
 show(Instr.checkKey em (9999+1) t (mH k c)).run P w=_;unfold mH;rw[Instr.checkKey];simp only[Sem.run_bind,run_underlying hu,Result.andThen_ok];simp only[Std.Legacy.Range.forIn_eq_forIn_range',Std.Legacy.Range.size,Nat.sub_zero,Nat.add_one_sub_one,Nat.div_one];have each:∀j∈List.range' 0 n,j<c.length:=λj hj=>by rw[List.mem_range']at hj;obtain⟨q,hq,rfl⟩:=hj;omega
 generalize List.range' 0 n=is at each
 induction is with
 |nil=>simp
 |cons j is ih=>
  have hj:=each j (by simp);have p1:=run_part_plain (w:=w) hpl (show (c.map (Value.int k)).toArray[j*1]? =some (.int k c[j])by simp[hj]);have p2:(Instr.checkKey em 9999 e (.int k c[j])).run P w= .ok () w:=MapKept.run_checkKey (k:= .int k c[j]) he (by simp[IsKey]) em 9998;simp only[List.forIn_cons,Sem.run_bind,run_sizeOf w hi,hce,Result.andThen_ok,p1,p2,Sem.run_pure];exact ih (λ y hy=>each y (by simp[hy]))
theorem Cu{t:TypeId}{n:Nat}{k:IntKind}(h:Ek P t n k):(match P.underlying t with |some (.array _ _) |some (.struct _)=>true |_=>false)=true:=by
 obtain⟨e,info,hu,_⟩:=h;rw[hu]
theorem D7{t:TypeId}{n:Nat}{k:IntKind}(ht:Ek P t n k){key:U Int}(hk:key.length=n):∀(rows:U (List AV))(es:U MapEntry)(i:Nat)(r:J (Nat×AV)),cH P β w I rows es->A7 k key rows=some r->
 (r=none/\(Instr.findAsking t (mH k key) es i).run P w= .ok none w)\/∃j y e,r=some (j,y)/\(Instr.findAsking t (mH k key) es i).run P w= .ok (some (i+j,e.val)) w/\es[j]? =some e/\e.key=mH k key/\VR P β w I y e.val
 |[],[],i,r,_,h=>by simp only[A7,aA]at h;exact .inl ⟨h.symm,by simp[Instr.findAsking]⟩
 |row::rows,e::es,i,r,hm,h=>by
  obtain⟨h1,h2⟩:=hm;unfold A7 at h;split at h
  .rename_i heq;cases heq
  .rename_i cs y rs heq;injection heq with e1 e2;subst e1;subst e2;rw[ai]at h;obtain⟨c,h3,h⟩:=h;simp only[bj,VR]at h1;obtain⟨⟨vs,g1,g2⟩,g3,_⟩:=h1;have g4:=JG h3 g2;have hkey:e.key=mH k c:=(by rw[g1];unfold mH;rw[<- g4]);split at h
   .rename_i hlen;obtain⟨e0,info,hu,he,hi,hs⟩:=ht;have hq:=Hu (w:=w) hu he hi hs (k:=k) (xs:=key) (ys:=c) hk (by omega);split at h
    .rename_i hkc;cases h;refine .inr ⟨0,y,e,rfl,?_,rfl,by rw[hkey,hkc],g3⟩;rw[show decide (key=c)=true by simp[hkc]]at hq;simp[Instr.findAsking,hkey,hq,Result.andThen]
    .rename_i hkc;rw[dN]at h;obtain⟨r',h4,rfl⟩:=h;have hd:decide (key=c)=false:=(by simp[hkc]);rw[hd]at hq;rcases D7 ⟨e0,info,hu,he,hi,hs⟩ hk rows es (i+1) r' h2 h4 with ⟨rfl,a2⟩ |⟨j,y',e',rfl,a2,a3,a4,a5⟩
     .exact .inl ⟨rfl,by simp[Instr.findAsking,hkey,hq,a2,Result.andThen]⟩
     .exact .inr ⟨j+1,y',e',rfl,by simp[Instr.findAsking,hkey,hq,a2,Result.andThen];omega,by simpa using a3,a4,a5⟩
   .cases h
  .cases h
 |[],_::_,_,_,hm,_=>hm.elim
 |_::_,[],_,_,hm,_=>hm.elim
theorem Vg(k:IntKind)(c:U Int):VR P β w I (Ht k c) (mH k c):=by
 simp only[Ht,VR];refine⟨_,rfl,?_⟩;simp only[]
 induction c with
 |nil=>simp[bj]
 |cons x c ih=>simp only[aF,bj,VR,TR];exact⟨⟨trivial,trivial⟩,ih⟩
theorem Rt{t:TypeId}{n:Nat}{k:IntKind}(ht:Ek P t n k){key:U Int}(hk:key.length=n){v:Value}{y':AV}(hv:VR P β w I y' v):∀(rows:U (List AV))(es:U MapEntry)(i:Nat)(rs':U (List AV)),cH P β w I rows es->MI k key y' rows=some rs'->
 ((Instr.findAsking t (mH k key) es i).run P w= .ok none w/\∀n,cH P β w I rs' (es++[⟨mH k key,v,n⟩]))\/
 ∃j e,(Instr.findAsking t (mH k key) es i).run P w= .ok (some (i+j,e.val)) w/\es[j]? =some e/\e.key=mH k key/\cH P β w I rs' (es.modify j λe=>{ e with key:=mH k key,val:=v })
 |[],[],i,r,_,h=>by
  simp only[MI,aA]at h;subst h;refine .inl ⟨by simp[Instr.findAsking],λn=>?_⟩;simp only[bT,cH,bj];exact⟨⟨Vg k key,hv,trivial⟩,trivial⟩
 |row::rows,e::es,i,r,hm,h=>by
  obtain⟨h1,h2⟩:=hm;unfold MI at h;split at h
  .rename_i heq;cases heq
  .rename_i cs y rs heq;injection heq with e1 e2;subst e1;subst e2;rw[ai]at h;obtain⟨c,h3,h⟩:=h;have h1':=h1;simp only[bj,VR]at h1;obtain⟨⟨vs,g1,g2⟩,g3,_⟩:=h1;have g4:=JG h3 g2;have hkey:e.key=mH k c:=(by rw[g1];unfold mH;rw[<- g4]);split at h
   .rename_i hlen;obtain⟨e0,info,hu,he,hi,hs⟩:=ht;have hq:=Hu (w:=w) hu he hi hs (k:=k) (xs:=key) (ys:=c) hk (by omega);split at h
    .rename_i hkc;cases h;rw[show decide (key=c)=true by simp[hkc]]at hq;refine .inr ⟨0,e,by simp[Instr.findAsking,hkey,hq,Result.andThen],rfl,by rw[hkey,hkc],?_⟩;simp only[List.modify_zero_cons,cH,bj];exact⟨⟨Vg k key,hv,trivial⟩,h2⟩
    .rename_i hkc;rw[dN]at h;obtain⟨r',h4,rfl⟩:=h;rw[show decide (key=c)=false by simp[hkc]]at hq;rcases Rt ⟨e0,info,hu,he,hi,hs⟩ hk hv rows es (i+1) r' h2 h4 with ⟨a1,a2⟩ |⟨j,e',a1,a2,a3,a4⟩
     .exact .inl ⟨by simp[Instr.findAsking,hkey,hq,a1,Result.andThen],λn=>⟨h1',a2 n⟩⟩
     .refine .inr ⟨j+1,e',by simp[Instr.findAsking,hkey,hq,a1,Result.andThen];omega,by simpa using a2,a3,?_⟩;simp only[List.modify_succ_cons,cH];exact⟨h1',a4⟩
   .cases h
  .cases h
 |[],_::_,_,_,hm,_=>hm.elim
 |_::_,[],_,_,hm,_=>hm.elim
theorem Vh(hT:fe P T)(h:Mem P w0 O0 β I obj w){t:TypeId}{x key:AV}{ok:Bool}{get:Nat->J aT}{ab:Out}(hg:∀k o,get k=some o->obj k=some o){u kv:Value}
 (ha:MJ T t x key ok get=some ab) (hx:VR P β w I x u) (hk:VR P β w I key kv):∃z,(Instr.lookup t u kv ok).run P w= .ok z w/\VR P β w I ab.v z/\ab.upd=[]:=by
 unfold MJ at ha;rw[ai]at ha;obtain⟨ti,hti,ha⟩:=ha;split at ha
 .rename_i kt et k cs hk1;rw[ai]at ha;obtain⟨mk,hmk,ha⟩:=ha;rw[ai]at ha;obtain⟨ei,fS,ha⟩:=ha;rw[ai]at ha;obtain⟨o,ho,ha⟩:=ha;rw[ai]at ha;obtain⟨c,hc,ha⟩:=ha;split at ha
  .rename_i hh;rw[ai]at ha;obtain⟨r,hr,ha⟩:=ha;rw[ai]at ha;obtain⟨v,hv,ha⟩:=ha;simp only[pv,aA]at ha;subst ha;simp only[VR]at hx hk;obtain⟨b,hβ,rfl⟩:=hx;obtain⟨vs,rfl,hvs⟩:=hk;have e1:Value.agg vs=mH mk.2 c:=(by unfold mH;rw[<- JG hc hvs]);rw[e1];have⟨B,hB,hO⟩:=h.cP k o (hg k o ho);rw[hβ]at hB;cases hB;obtain⟨es,cl,g1,g2,g3,g4⟩:=hO;have hAr:=abf hT hmk;obtain⟨z,q1,q2⟩:=Pp (β:=β) (I:=I) hT fS (ok:=ok) (MH (hT t ti hti) hk1) g1 (yE hAr hh.1 _) (by
    rcases D7 hAr hh.1 o.rows es.toList 0 r (g3 hh.2) hr with ⟨rfl,a2⟩ |⟨j,y,e,rfl,a2,a3,a4,a5⟩
    .exact .inl ⟨rfl,(run_findKey_eq w (Cu hAr) _ _).trans a2⟩
    .rw[Nat.zero_add]at a2;exact .inr ⟨j,y,e,rfl,(run_findKey_eq w (Cu hAr) _ _).trans a2,a5⟩) hv
   exact⟨z,q1,q2,rfl⟩
  .cases ha
 .cases ha
theorem YF(k:IntKind)(c:U Int):Instr.sameBits 10000 (mH k c) (mH k c)=true:=by
 unfold mH;show(_&&_)=true;rw[aL];refine⟨by simp,?_⟩;rw[all_eq_true];rintro⟨a,b⟩ h;simp only[List.zip_map',mem_map]at h;obtain⟨x,_,hx⟩:=h;injection hx with h1 h2;subst h1;subst h2;simp[Instr.sameBits]
theorem Vi(hT:fe P T)(h:Mem P w0 O0 β I obj w){t:TypeId}{x key y:AV}{get:Nat->J aT}{ab:Out}(hg:∀k o,get k=some o->obj k=some o){u kv v:Value}
 (ha:MK T t x key y get=some ab) (hx:VR P β w I x u) (hk:VR P β w I key kv) (hy:VR P β w I y v):∃w',(Instr.mapUpdate t u kv v).run P w= .ok () w'/\Same I w w'/\Mem P w0 O0 β I (dm obj ab.upd) w'/\ab.v= .undef:=by
 unfold MK at ha;rw[ai]at ha;obtain⟨ti,hti,ha⟩:=ha;split at ha
 .rename_i kt et k cs hk1;rw[ai]at ha;obtain⟨mk,hmk,ha⟩:=ha;rw[ai]at ha;obtain⟨o,ho,ha⟩:=ha;rw[ai]at ha;obtain⟨c,hc,ha⟩:=ha;split at ha
  .rename_i hh;rw[ai]at ha;obtain⟨rs,hr,ha⟩:=ha;cases ha;simp only[VR]at hx hk;obtain⟨b,hβ,rfl⟩:=hx;obtain⟨vs,rfl,hvs⟩:=hk;have e1:Value.agg vs=mH mk.2 c:=(by unfold mH;rw[<- JG hc hvs]);rw[e1];have hZ:=hg k o ho;have⟨B,hB,hO⟩:=h.cP k o hZ;rw[hβ]at hB;cases hB;obtain⟨es,cl,g1,g2,g3,g4,g5⟩:=hO;have hAr:=abf hT hmk;obtain⟨w',q1,q2,q3⟩:=adg (rs:=rs) (v:=v) h (MH (hT t ti hti) hk1) hZ hβ g1 g4 g5 (yE hAr hh.1 _) (by simp[Instr.keyThatStays,YF]) (by
    rcases Rt hAr hh.1 (ak2 hy) o.rows es.toList 0 rs (g3 hh.2) hr with ⟨a1,a2⟩ |⟨j,e,a1,a2,a3,a4⟩
    .exact .inl ⟨(run_findKey_eq w (Cu hAr) _ _).trans a1,a2⟩
    .rw[Nat.zero_add]at a1;exact .inr ⟨j,e,(run_findKey_eq w (Cu hAr) _ _).trans a1,a2,a3,a4⟩)
   exact⟨w',q1,q2,q3,rfl⟩
  .cases ha
 .cases ha
def qF(T:eo)(t:TypeId)(x key:AV)(ok:Bool)(get:Nat->J aT):J Out:=match key with
 | .agg cs=>MJ T t x (.agg cs) ok get
 |key=>Us T t x key ok get
def vV(T:eo)(t:TypeId)(x key y:AV)(get:Nat->J aT):J Out:=match key with
 | .agg cs=>MK T t x (.agg cs) y get
 |key=>Ut T t x key y get
theorem Vj(hT:fe P T)(h:Mem P w0 O0 β I obj w){t:TypeId}{x key:AV}{ok:Bool}{get:Nat->J aT}{ab:Out}(hg:∀k o,get k=some o->obj k=some o){u kv:Value}
 (ha:qF T t x key ok get=some ab) (hx:VR P β w I x u) (hk:VR P β w I key kv):∃z,(Instr.lookup t u kv ok).run P w= .ok z w/\VR P β w I ab.v z/\ab.upd=[]:=by
 unfold qF at ha;split at ha
 .exact Vh hT h hg ha hx hk
 .exact YD hT h hg ha hx hk
theorem Vk(hT:fe P T)(h:Mem P w0 O0 β I obj w){t:TypeId}{x key y:AV}{get:Nat->J aT}{ab:Out}(hg:∀k o,get k=some o->obj k=some o){u kv v:Value}
 (ha:vV T t x key y get=some ab) (hx:VR P β w I x u) (hk:VR P β w I key kv) (hy:VR P β w I y v):∃w',(Instr.mapUpdate t u kv v).run P w= .ok () w'/\Same I w w'/\Mem P w0 O0 β I (dm obj ab.upd) w'/\ab.v= .undef:=by
 unfold vV at ha;split at ha
 .exact Vi hT h hg ha hx hk hy
 .exact YE hT h hg ha hx hk hy
end
def LO(T:eo)(i:Nat)(t:TypeId)(l c:AV):J Out:=
 (T t).bind λti=>match ti.k,l,c with
 | .slice e,.t (.sc (.int _ n)),.t (.sc (.int _ m))=>(T e).bind λei=>
  some ⟨.own (cR i) 0 n.toNat,[(cR i,some ⟨ei.size,dX (List.replicate n.toNat (ei.zero.map cv))⟩)],[0<=n/\n<=m/\m.toNat*ei.bytes<=140737488355328/\m.toNat<=maxLen/\0<ei.size]⟩
 |_,_,_=>none
def Pq(x:AV):J Out:=
 match x with
 | .ptr k r f=>pv (.ptr k r f)
 | .eM r f=>pv (.eM r f)
 |_=>none
def K0:Op->Bool
 | .nilCheck _=>true
 | .makeSlice _ _ _=>true
 | .makeMap _ none=>true
 | .lookup _ _ _ _=>true
 | .mapUpdate _ _ _ _=>true
 |_=>false
def D8(T:eo)(i:Nat)(o:Oper)(_n:Int)(ρ:Operand->AV)(get:Nat->J aT):J Out:=
 match o.op with
 | .nilCheck x=>Pq (ρ x)
 | .makeSlice t l c=>LO T i t (ρ l) (ρ c)
 | .makeMap t none=>Hr T i t
 | .lookup t m x ok=>qF T t (ρ m) (ρ x) ok get
 | .mapUpdate t m x v=>vV T t (ρ m) (ρ x) (ρ v) get
 |_=>none
def sS(T:eo)(i:Nat)(o:Oper)(n:Int)(ρ:Operand->AV)(get:Nat->J aT):J Out:=
 bif K0 o.op then D8 T i o n ρ get else sQ T i o n ρ get
section
variable {T:eo}
theorem YG{i:Nat}{o:Oper}{n:Int}{ρ ρ':Operand->AV}{get:Nat->J aT}(h:∀x∈o.op.operands,ρ x=ρ' x):D8 T i o n ρ get=D8 T i o n ρ' get:=by
 obtain⟨dst,op,ty,ao,after,guard⟩:=o;cases op<;>simp only[Op.operands]at h<;>simp only[D8]
 case nilCheck x=>rw[h x (by simp)]
 case makeSlice t l c=>rw[h l (by simp),h c (by simp)]
 case makeMap t r=>cases r<;>rfl
 case lookup t m x ok=>rw[h m (by simp),h x (by simp)]
 case mapUpdate t m x v=>rw[h m (by simp),h x (by simp),h v (by simp)]
theorem YH{i:Nat}{o:Oper}{n:Int}{ρ ρ':Operand->AV}{get:Nat->J aT}(h:∀x∈o.op.operands,ρ x=ρ' x):sS T i o n ρ get=sS T i o n ρ' get:=by
 unfold sS;rw[aa6 h,YG h]
end
section
variable {P:Program} {T:eo} {w0:World} {O0:ky} {β:Nat->Option cT} {I:Nat->Prop} {obj:Nat->Option aT} {w:World} {i:Nat}
theorem YI(z:Array Value)(n j:Nat)(h:j<n):(madeCells z n)[j]? =some (z[j%z.size]!):=by simp[madeCells,h]
theorem adi(hT:fe P T)(h:Mem P w0 O0 β I obj w)(hn:β (cR i)=none){t:TypeId}{l c:AV}{u v:Value}{ab:Out}(ha:LO T i t l c=some ab)(cV:ab.ob)(hl:VR P β w I l u)(hc:VR P β w I c v)
 {r:Operand->Value} {x y:Operand} (hu:r x=u) (hv:r y=v) {dst:J Tmp} {ty:TypeId} {ao:String} {after:Array Edge} {guard:J (Nat×Bool)}:
 so P w0 O0 β I obj w i ab ((execOp r ⟨dst,.makeSlice t x y,ty,ao,after,guard⟩).run P w):=by
 unfold LO at ha;cases hti:T t with
 |none=>simp[hti]at ha
 |some ti=>
  simp only[hti,af]at ha;split at ha
  .rename_i e kl n kc m hkd;cases fS:T e with
   |none=>simp[fS]at ha
   |some ei=>
    simp only[fS,af,aA]at ha;subst ha;obtain⟨n0,nm,m47,HD,mpos⟩:=cV;simp only[VR,TR]at hl hc;obtain⟨rfl,_⟩:=hl;obtain⟨rfl,_⟩:=hc;have he:=hT e ei fS;have fj:=gW (hT t ti hti) hkd;obtain⟨info,d,z,g1,g2,g3,g4,g5,g6,g7,g8⟩:=he.ex;obtain⟨n,rfl⟩:∃n':Nat,n=(n':Int):=⟨n.toNat,by omega⟩;obtain⟨m,rfl⟩:∃m':Nat,m=(m':Int):=⟨m.toNat,by omega⟩;simp only[Int.toNat_natCast]at m47 HD ⊢;have hb:(info.bytes:Int)*(m:Int)<=281474976710656:=by
     have:((info.bytes*m:Nat):Int)<=281474976710656:=by rw[g4,Nat.mul_comm];omega
     rwa [Int.natCast_mul]at this
    have hrun:=run_make (P:=P) w t e info z fj g1 g5 kl kc n m n0 nm hb (by simp only[maxLen]at HD;omega);simp only[Int.toNat_natCast,g3]at hrun;have hzs:z.cells.size=ei.size:=(by rw[<- Array.length_toList,g6];exact he.len);have hcs:(madeCells z.cells (m*ei.size)).size=m*ei.size:=size_madeCells _ _;obtain⟨hS,hM⟩:=Mem.alloc (i:=cR i) (o:=⟨ei.size,List.replicate n (ei.zero.map cv)⟩) (c:=madeCells z.cells (m*ei.size)) (e:=e) h hn (by
     refine bp.zeros ei.zero ei.size he.len (λ v hv=>sO (all_eq_true.1 he.one v hv)) n _ 0 (λ i j hi hj=>?_);have hlt:0+i*ei.size+j<m*ei.size:=by
      have:(i+1)*ei.size<=m*ei.size:=Nat.mul_le_mul_right _ (by omega);rw[Nat.add_mul]at this;omega
     rw[YI _ _ _ hlt,hzs];have e1:(0+i*ei.size+j)%ei.size=j:=(by rw[Nat.zero_add,Nat.mul_comm,Nat.mul_add_mod,Nat.mod_eq_of_lt hj]);rw[e1,<- g6,Array.getElem?_toList,getElem!_pos z.cells j (by rw[hzs];exact hj),Array.getElem?_eq_getElem])
    refine⟨_,_,_,I,.inl (by simp[execOp,hu,hv,hrun];rfl),hS,hM.ws,?_⟩;simp only[VR];refine .inr ⟨w.heap.size,ei.size,_,_,0,by simp[ins];rfl,rfl,by omega,?_,by simp⟩;rw[Of,N6,hcs,Nat.zero_add,Nat.zero_add];exact aD _
  .cases ha
theorem YJ(hT:fe P T)(h:Mem P w0 O0 β I obj w)(hn:β (cR i)=none){o:Oper}{n:Int}{ρ:Operand->AV}{get:Nat->J aT}{ab:Out}(hg:∀k o,get k=some o->obj k=some o)
 {r:Operand->Value} (hρ:∀x,VR P β w I (ρ x) (r x)) (ha:D8 T i o n ρ get=some ab) (cV:ab.ob):so P w0 O0 β I obj w i ab ((execOp r o).run P w):=by
 obtain⟨dst,op,ty,ao,after,guard⟩:=o;unfold D8 at ha;split at ha
 .rename_i x heq;simp only at heq;subst heq;have hx:=hρ x;unfold Pq at ha;split at ha
  .rename_i k q f hk;simp only[pv,aA]at ha;subst ha;rw[hk]at hx;have hx2:=hx;simp only[VR]at hx2;obtain⟨b,sz,m,_,e1⟩:=hx2;exact⟨r x,w,β,I,.inl (by simp[execOp,e1]),Step.refl ..,h,hx⟩
  .rename_i q f hk;simp only[pv,aA]at ha;subst ha;rw[hk]at hx;have hx2:=hx;simp only[VR]at hx2;obtain⟨b,o',e1,_⟩:=hx2;exact⟨r x,w,β,I,.inl (by simp[execOp,e1]),Step.refl ..,h,hx⟩
  .cases ha
 .rename_i t l c heq;simp only at heq;subst heq;exact adi hT h hn ha cV (hρ l) (hρ c) rfl rfl
 .rename_i t heq;simp only at heq;subst heq;exact Vf h hn ha
 .rename_i t m x ok heq;simp only at heq;subst heq;have⟨z,h1,h2,h3⟩:=Vj hT h hg ha (hρ m) (hρ x);exact⟨z,w,β,I,.inl (by simp[execOp,h1]),Step.refl ..,by rw[h3];exact h,h2⟩
 .rename_i t m x v heq;simp only at heq;subst heq;have⟨w',h1,h2,h3,h4⟩:=Vk hT h hg ha (hρ m) (hρ x) (hρ v);exact⟨undef,w',β,I,.inr ⟨by simp[execOp,h1],rfl⟩,⟨λ _ _=>rfl,λ_ _ h=>h,h2,λ_ h=>h⟩,h3,by rw[h4];simp[VR]⟩
 .cases ha
theorem YK(hT:fe P T)(h:Mem P w0 O0 β I obj w)(hn:β (cR i)=none){o:Oper}{n:Int}{ρ:Operand->AV}{get:Nat->J aT}{ab:Out}(hg:∀k o,get k=some o->obj k=some o)
 {r:Operand->Value} (hρ:∀x,VR P β w I (ρ x) (r x)) (ha:sS T i o n ρ get=some ab) (cV:ab.ob):so P w0 O0 β I obj w i ab ((execOp r o).run P w):=by
 unfold sS at ha;cases hx:K0 o.op with
 |true=>rw[hx]at ha;exact YJ (n:=n) hT h hn hg hρ ha cV
 |false=>rw[hx]at ha;exact aa9 hT h hn hg hρ ha cV
end
mutual
def gh(f:Nat->Nat):AV->AV
 | .own k aa len=> .own (f k) aa len
 | .ptr k row aa=> .ptr (f k) row aa
 | .agg cs=> .agg (zH f cs)
 | .eV cs=> .eV (zH f cs)
 | .fn F first caps=> .fn F (zH f first) (zH f caps)
 | .t x=> .t x
 | .eM r o=> .eM r o
 | .ek φ=> .ek φ
 | .mp k=> .mp (f k)
 | .oz k len=> .oz (f k) len
 | .da=> .da
 | .ub=> .ub
 | .undef=> .undef
def zH(f:Nat->Nat):List AV->List AV
 |[]=>[]
 |x::xs=>gh f x::zH f xs
end
def Ki(f:Nat->Nat)(o:aT):aT:=⟨o.sz,o.rows.map (zH f)⟩
def oc(os:U (Nat×aT))(k:Nat):J aT:=match os with
 |[]=>none
 |(j,o)::r=>if j=k then some o else oc r k
def Wg(P:Program)(w:World)(β:Nat->J cT)(I:Nat->Prop)(os':U (Nat×aT))(rv:AV)(e:Ending)(w':World):Prop:=
 ∃v β' I',e= .returned v/\Mem P w (ny β I) β' I' (oc os') w'/\(∀ b,I b->I' b)/\VR P β' w' I' rv v
def rN(os:U aT)(k:Nat):J aT:=os[k]?
def yp(P:Program)(f:FuncId)(args:U AV)(os:U aT)(os':U (Nat×aT))(rv:AV):Prop:=
 eU P f/\∀(w:World) (β:Nat->J cT) (I:Nat->Prop) (vs:Array Value),(∀ k,os.length<=k->β k=none)->Mem P w (ny β I) β I (rN os) w->bj P β w I args vs.toList->Calls P f vs w (Wg P w β I os' rv)
def Hw(i k:Nat):Bool:=Nat.ble 1000000 k&&(k -1000000)/64==i
theorem Vl{i k:Nat}:Hw i k=true↔jj (cR i) k:=by
 simp only[Hw,aL,Nat.ble_eq,beq_iff_eq,jj,cR];omega
def cn(i:Nat)(ae:U Nat)(j:Nat):Nat:=if j<1000 then(ae[j]?).getD 0 else cR i+(j -1000)
def Vm(P:Program)(get:Nat->J aT)(ae:U Nat)(k:Nat):OB->J (aT×List Prop)
 | .dat p=>(get k).bind λo=>some (ii p,[o.sz=p.1/\dX (o.rows.take p.2.length)=aI p.2])
 | .DD hs=>(get k).bind λo=>(yD P get ae o.rows hs).bind λq=>some (⟨o.sz,q.1⟩,q.2)
def FJ(P:Program)(get:Nat->J aT)(ae:U Nat):U Nat->U OB->J (List aT×List Prop)
 |[],[]=>some ([],[])
 |k::ks,b::bs=>(Vm P get ae k b).bind λp=>(FJ P get ae ks bs).bind λq=>some (p.1::q.1,p.2++q.2)
 |_,_=>none
def Ps(o:aT):U Nat:=o.rows.flatMap eX
def Vn(get:Nat->J aT)(xs:U AV)(ae c8:U Nat)(bs:U OB):Prop:=
 (∀ k∈c8,k∉ae)/\(∀ k∈eX xs,k∉ae->k∈c8)/\∀(j:Nat) hs q o,bs[j]? =some (.DD hs)->ae[j]? =some q->get q=some o->∀k∈Ps o,k∉ae->k∈c8
def yf(i:Nat)(ae:U Nat)(os':U (Nat×aT)):U (Nat×Option aT):=
 (ae.zipIdx.map λp=>(p.1,(oc os' p.2).map (Ki (cn i ae))))++(os'.filter λq=>decide (1000<=q.1)).map λq=>(cn i ae q.1,some (Ki (cn i ae) q.2))
mutual
def uS:AV->Prop
 | .t x=>x.flat
 | .eM _ _ | .ek _=>False
 | .agg cs | .eV cs=>pQ cs
 | .fn _ first caps=>pQ first/\pQ caps
 |_=>True
def pQ:List AV->Prop
 |[]=>True
 |x::xs=>uS x/\pQ xs
end
def At(n k:Nat):Prop:=k<n\/(1000<=k/\k<1064)
def ZL(n:Nat)(os':U (Nat×aT))(rv:AV):Prop:=
 (∀ q∈os',At n q.1)/\(os'.map (·.1)).Nodup/\(∀ q∈os',∀r∈q.2.rows,∀k∈eX r,At n k)/\∀k∈refs rv,At n k
def nh(os':U (Nat×aT))(rv:AV):Prop:=uS rv/\∀q∈os',∀r∈q.2.rows,pQ r
def ML(P:Program)(i:Nat)(f:AV)(args:U AV)(cL:ka)(get:Nat->J aT):J Out:=
 match f,cL with
 | .fn F first caps,.tD ae c8 bs hs os' rv keep=>if ae.Nodup/\ae.length<=1000 then(FJ P get ae ae bs).bind λho=>(l6 P get ae (first++args++caps) hs).bind λq=>
  some ⟨gh (cn i ae) rv,yf i ae os'++(if keep then []else c8.map λk=>(k,none)),
   q.2.2++ho.2++[yp P F q.1 ho.1 os' rv,ZL ae.length os' rv,Vn get (first++args++caps) ae c8 bs]++(if keep then [nh os' rv]else [])⟩
  else none
 |_,_=>none
section
variable {P:Program} {w0:World} {O0:ky} {β β1 β2:Nat->Option cT} {I:Nat->Prop} {obj:Nat->Option aT} {w:World} {i:Nat}
mutual
theorem VR.uC{f:Nat->Nat}:∀(x:AV)(v:Value),(∀ k∈refs x,∀B,β1 k=some B->β2 (f k)=some B)->VR P β1 w I x v->VR P β2 w I (gh f x) v
 | .own k aa len,v,hd,h=>by
  simp only[gh,VR]at h ⊢;have hd':=hd k (by simp[refs]);rcases h with ⟨h1,h2⟩ |⟨b,s,n,c,o,h1,h2⟩
  .exact .inl ⟨hd' _ h1,h2⟩
  .exact .inr ⟨b,s,n,c,o,hd' _ h1,h2⟩
 | .ptr k row aa,v,hd,h=>by
  simp only[gh,VR]at h ⊢;obtain⟨b,s,n,h1,h2⟩:=h;exact⟨b,s,n,hd k (by simp[refs]) _ h1,h2⟩
 | .agg cs,v,hd,h=>by
  simp only[gh,VR]at h ⊢;obtain⟨vs,h1,h2⟩:=h;exact⟨vs,h1,bj.uC cs _ (by simpa[refs]using hd) h2⟩
 | .eV cs,v,hd,h=>by
  simp only[gh,VR]at h ⊢;obtain⟨vs,h1,h2⟩:=h;exact⟨vs,h1,bj.uC cs _ (by simpa[refs]using hd) h2⟩
 | .fn F first caps,v,hd,h=>by
  simp only[gh,VR]at h ⊢;obtain⟨fs,cs,h1,h2,h3⟩:=h;exact⟨fs,cs,h1,bj.uC first _ (λ k hk=>hd k (by simp[refs,hk])) h2,bj.uC caps _ (λ k hk=>hd k (by simp[refs,hk])) h3⟩
 | .t x,v,_,h=>by simpa[gh,VR]using h
 | .eM r o,v,_,h=>by simpa[gh,VR]using h
 | .ek φ,v,_,h=>by simpa[gh,VR]using h
 | .mp k,v,hd,h=>by
  simp only[gh,VR]at h ⊢;obtain⟨b,h1,h2⟩:=h;exact⟨b,hd k (by simp[refs]) _ h1,h2⟩
 | .oz k len,v,hd,h=>by
  simp only[gh,VR]at h ⊢;rcases h with h |⟨h0,b,sz,n,cap,o,h1,h2⟩
  .exact .inl h
  .exact .inr ⟨h0,b,sz,n,cap,o,hd k (by simp[refs]) _ h1,h2⟩
 | .da,v,_,h=>by simpa[gh,VR]using h
 | .ub,v,_,h=>by simpa[gh,VR]using h
 | .undef,v,_,h=>by simp[gh,VR]
theorem bj.uC{f:Nat->Nat}:∀(xs:List AV)(vs:List Value),(∀ k∈eX xs,∀B,β1 k=some B->β2 (f k)=some B)->bj P β1 w I xs vs->bj P β2 w I (zH f xs) vs
 |[],[],_,_=>by simp[zH,bj]
 |x::xs,v::vs,hd,h=>by
  simp only[bj]at h;simp only[zH,bj];exact⟨VR.uC x v (λ k hk=>hd k (by simp[eX,hk])) h.1,bj.uC xs vs (λ k hk=>hd k (by simp[eX,hk])) h.2⟩
 |[],_::_,_,h=>by simp[bj]at h
 |_::_,[],_,h=>by simp[bj]at h
end
mutual
theorem VR.flat{I2:Nat->Prop}:∀(x:AV)(v:Value),uS x->VR P β w I x v->VR P β w I2 x v
 | .own k aa len,v,_,h=>by simpa only[VR]using h
 | .ptr k row aa,v,_,h=>by simpa only[VR]using h
 | .agg cs,v,hf,h=>by
  simp only[VR]at h ⊢;obtain⟨vs,h1,h2⟩:=h;exact⟨vs,h1,bj.flat cs _ (by simpa[uS]using hf) h2⟩
 | .eV cs,v,hf,h=>by
  simp only[VR]at h ⊢;obtain⟨vs,h1,h2⟩:=h;exact⟨vs,h1,bj.flat cs _ (by simpa[uS]using hf) h2⟩
 | .fn F first caps,v,hf,h=>by
  simp only[VR]at h ⊢;obtain⟨fs,cs,h1,h2,h3⟩:=h;simp only[uS]at hf;exact⟨fs,cs,h1,bj.flat first _ hf.1 h2,bj.flat caps _ hf.2 h3⟩
 | .t x,v,hf,h=>by
  simp only[VR]at h ⊢;exact Tree.mn (by simpa[uS]using hf) h
 | .eM r o,v,hf,h=>by simp[uS]at hf
 | .ek φ,v,hf,h=>by simp[uS]at hf
 | .mp k,v,_,h=>by simpa only[VR]using h
 | .oz k len,v,_,h=>by simpa only[VR]using h
 | .da,v,_,h=>by simpa only[VR]using h
 | .ub,v,_,h=>by simpa only[VR]using h
 | .undef,v,_,h=>by simp[VR]
theorem bj.flat{I2:Nat->Prop}:∀(xs:List AV)(vs:List Value),pQ xs->bj P β w I xs vs->bj P β w I2 xs vs
 |[],[],_,_=>by simp[bj]
 |x::xs,v::vs,hf,h=>by
  simp only[bj]at h ⊢;simp only[pQ]at hf;exact⟨VR.flat x v hf.1 h.1,bj.flat xs vs hf.2 h.2⟩
 |[],_::_,_,h=>by simp[bj]at h
 |_::_,[],_,h=>by simp[bj]at h
end
theorem Ru(f:Nat->Nat):∀l:U AV,(zH f l).length=l.length
 |[]=>rfl
 |_::l=>by simp only[zH,bC,Ru f l]
theorem dc.tell{β':Nat->J cT}{w':World}{I':Nat->Prop}{r q:U AV}{c:Array Value}{aa:Nat}(hv:∀vs:U Value,bj P β w I r vs->bj P β' w' I' q vs)(h:dc P β w I r c aa):dc P β' w' I' q c aa:=by
 have⟨vs,h1,h2,h3⟩:=dc.list r c aa h;exact dc.oy q vs c aa (hv vs h1) h2 h3
theorem bp.tell{β':Nat->J cT}{w':World}{I':Nat->Prop}:∀{rs qs:U (List AV)}{c:Array Value}{aa sz:Nat},rs.length=qs.length->(∀ (j:Nat) r q,rs[j]? =some r->qs[j]? =some q->q.length=r.length/\∀vs:U Value,bj P β w I r vs->bj P β' w' I' q vs)->
 bp P β w I rs c aa sz->bp P β' w' I' qs c aa sz
 |[],[],_,_,_,_,_,h=>h
 |r::rs,q::qs,c,aa,sz,hl,hr,h=>by
  simp only[bp]at h ⊢;obtain⟨h1,h2,h3⟩:=h;have⟨e1,e2⟩:=hr 0 r q rfl rfl;exact⟨e1.trans h1,h2.tell e2,bp.tell (by simpa using hl) (λ j a b ha hb=>hr (j+1) a b (by simpa using ha) (by simpa using hb)) h3⟩
 |[],_::_,_,_,_,hl,_,_=>by simp at hl
 |_::_,[],_,_,_,hl,_,_=>by simp at hl
theorem cH.tell{β':Nat->J cT}{I':Nat->Prop}:∀{rs qs:U (List AV)}{es:U MapEntry},rs.length=qs.length->(∀ (j:Nat) r q',rs[j]? =some r->qs[j]? =some q'->∀vs:U Value,bj P β w I r vs->bj P β' w I' q' vs)->cH P β w I rs es->cH P β' w I' qs es
 |[],[],[],_,_,_=>trivial
 |r::rs,q::qs,_::es,hl,hr,⟨h1,h2⟩=>⟨hr 0 r q rfl rfl _ h1,cH.tell (by simpa using hl) (λ j r' q' a b=>hr (j+1) r' q' (by simpa using a) (by simpa using b)) h2⟩
 |[],_::_,_,hl,_,_=>by simp at hl
 |_::_,[],_,hl,_,_=>by simp at hl
 |[],_,_::_,_,_,h=>h.elim
 |_::_,_,[],_,_,h=>h.elim
theorem OR.tell{β':Nat->J cT}{I':Nat->Prop}{o q:aT}{B:cT}(hsz:q.sz=o.sz)(hl:o.rows.length=q.rows.length)(hr:∀(j:Nat) r q',o.rows[j]? =some r->q.rows[j]? =some q'->q'.length=r.length/\∀vs:U Value,bj P β w I r vs->bj P β' w I' q' vs)
 (h:OR P β w I o B):OR P β' w I' q B:=by
 cases B with
 |none=>
  simp only[OR]at h ⊢;rw[h]at hl;exact eq_nil_of_length_eq_zero hl.symm
 | «at» b s n=>
  obtain⟨h1,c,e,h2,h3,h4⟩:=h;exact⟨by rw[hsz];exact h1,c,e,h2,h3,h4.tell hl hr⟩
 |mp b=>
  obtain⟨es,cl,h1,hle,h2,h3⟩:=h;exact⟨es,cl,h1,by omega,λe=>cH.tell hl (λ j r q' a b=>(hr j r q' a b).2) (h2 (by omega)),h3⟩
theorem OR.uC{f:Nat->Nat}{o:aT}{B:cT}(hf:∀r∈o.rows,∀k∈eX r,∀B,β1 k=some B->β2 (f k)=some B)(h:OR P β1 w I o B):OR P β2 w I (Ki f o) B:=by
 refine OR.tell (o:=o) (q:=Ki f o) rfl (by simp[Ki]) (λ j r q h1 h2=>?_) h;simp only[Ki,List.getElem?_map,dN]at h2;obtain⟨r',h3,rfl⟩:=h2;rw[h1]at h3;cases h3;exact⟨Ru f r,λvs hv=>bj.uC r vs (hf r (dw h1)) hv⟩
theorem OR.nh{I2:Nat->Prop}{o:aT}{B:cT}(hf:∀r∈o.rows,pQ r)(h:OR P β w I o B):OR P β w I2 o B:=by
 refine OR.tell rfl rfl (λ j r q h1 h2=>?_) h;rw[h1]at h2;cases h2;exact⟨rfl,λvs hv=>bj.flat r vs (hf r (dw h1)) hv⟩
def pH(P:Program)(get:Nat->J aT)(ae:U Nat):U (List AV)->U (List AV)->Prop
 |[],[]=>True
 |r::rs,q::qs=>fX P get ae r q/\pH P get ae rs qs
 |_,_=>False
theorem MN{get:Nat->J aT}{ae:U Nat}:∀{rs:U (List AV)}{hs:U (List LH)}{p:U (List AV)×List Prop},yD P get ae rs hs=some p->(∀ q∈p.2,q)->pH P get ae rs p.1
 |[],[],p,h,_=>by simp only[yD,aA]at h;subst h;trivial
 |r::rs,hl::hs,p,h,ho=>by
  simp only[yD,ai,aA]at h;obtain⟨q,h1,q',h2,rfl⟩:=h;exact⟨nC h1 (λ y hy=>ho y (by simp[hy])),MN h2 (λ y hy=>ho y (by simp[hy]))⟩
 |[],_::_,p,h,_=>by simp[yD]at h
 |_::_,[],p,h,_=>by simp[yD]at h
theorem fX.length{get:Nat->J aT}{ae:U Nat}:∀{xs ys:U AV},fX P get ae xs ys->ys.length=xs.length
 |[],[],_=>rfl
 |x::xs,y::ys,h=>by simp only[bC,fX.length h.2]
 |[],_::_,h=>h.elim
 |_::_,[],h=>h.elim
theorem pH.get{get:Nat->J aT}{ae:U Nat}:∀{rs qs:U (List AV)},pH P get ae rs qs->rs.length=qs.length/\∀(j:Nat) r q,rs[j]? =some r->qs[j]? =some q->fX P get ae r q
 |[],[],_=>⟨rfl,λj r q h=>by simp at h⟩
 |r::rs,q::qs,h=>by
  have⟨h1,h2⟩:=pH.get h.2;refine⟨by simp[h1],λj a b ha hb=>?_⟩;cases j with
  |zero=>simp only[List.getElem?_cons_zero,aA]at ha hb;subst ha;subst hb;exact h.1
  |succ j=>exact h2 j a b (by simpa using ha) (by simpa using hb)
 |[],_::_,h=>h.elim
 |_::_,[],h=>h.elim
theorem Vo{get:Nat->J aT}{ae:U Nat}:∀{ks:U Nat}{bs:U OB}{p:U aT×List Prop},FJ P get ae ks bs=some p->(∀ q∈p.2,q)->ks.length=p.1.length/\∀(j:Nat) k q,ks[j]? =some k->p.1[j]? =some q->∃o,get k=some o/\
 ((∃ d:fu,bs[j]? =some (.dat d)/\q=ii d/\o.sz=d.1/\dX (o.rows.take d.2.length)=aI d.2)\/(∃ hs,bs[j]? =some (.DD hs)/\q.sz=o.sz/\pH P get ae o.rows q.rows))
 |[],[],p,h,_=>by simp only[FJ,aA]at h;subst h;exact⟨rfl,λj k q h=>by simp at h⟩
 |k::ks,b::bs,p,h,ho=>by
  simp only[FJ,ai,aA]at h;obtain⟨q,h1,q',h2,rfl⟩:=h;obtain⟨g1,g2⟩:=Vo h2 (λ y hy=>ho y (by simp[hy]));refine⟨by simp[g1],λj k' z hj hz=>?_⟩;cases j with
  |succ j=>
   obtain⟨o,e1,e2⟩:=g2 j k' z (by simpa using hj) (by simpa using hz);exact⟨o,e1,by simpa using e2⟩
  |zero=>
   simp only[List.getElem?_cons_zero,aA]at hj hz;subst hj;subst hz;cases b with
   |dat d=>
    simp only[Vm,ai,aA]at h1;obtain⟨o,e1,rfl⟩:=h1;have:=ho _ (List.mem_append_left _ (aP.2 rfl));exact⟨o,e1,.inl ⟨d,rfl,rfl,this.1,this.2⟩⟩
   |DD hs=>
    simp only[Vm,ai,aA]at h1;obtain⟨o,e1,z,e2,rfl⟩:=h1;exact⟨o,e1,.inr ⟨hs,rfl,rfl,MN e2 (λ y hy=>ho y (List.mem_append_left _ hy))⟩⟩
 |[],_::_,p,h,_=>by simp[FJ]at h
 |_::_,[],p,h,_=>by simp[FJ]at h
theorem Mem.xn(h:Mem P w0 O0 β I obj w){get:Nat->J aT}(hg:∀k o,get k=some o->obj k=some o){ae c8:U Nat}{os:U aT}(hnd:ae.Nodup)(hlen:ae.length=os.length)
 (hm:∀(j:Nat) k q,ae[j]? =some k->os[j]? =some q->∃o,get k=some o/\((∃ d:fu,q=ii d/\o.sz=d.1/\dX (o.rows.take d.2.length)=aI d.2)\/(q.sz=o.sz/\pH P get ae o.rows q.rows/\∀k∈Ps o,k∉ae->k∈c8))) (B5:∀k∈c8,k∉ae):
 Mem P w (ny (βc ae β) (gb β obj c8 I)) (βc ae β) (gb β obj c8 I) (rN os) w:=by
 have hb0:∀j k,ae[j]? =some k->βc ae β j=β k:=λj k hk=>by simp[βc,hk]
 have look:∀j q,rN os j=some q->∃k o,ae[j]? =some k/\obj k=some o/\∀B,OR P β w I o B->OR P (βc ae β) w (gb β obj c8 I) q B:=by
  intro j q hj;simp only[rN]at hj;have hjl:j<ae.length:=by rw[hlen];exact(dH.1 hj).1
  obtain⟨o,g,hh⟩:=hm j _ q (dQ hjl) hj;refine⟨_,o,dQ hjl,hg _ _ g,λB hO=>?_⟩;rcases hh with ⟨d,rfl,g4,g5⟩ |⟨g4,g5,g6⟩
  .have:OR P β w I (ii d) B:=by
    cases B with
    |none=>
     simp only[OR]at hO ⊢;rw[hO]at g5;simpa[dX,ii]using g5.symm
    | «at» b s n=>
     obtain⟨h1,c,e,h2,h3,h4⟩:=hO;refine⟨by rw[h1,g4];rfl,c,e,h2,h3,?_⟩;have:=bp.wk _ _ _ _ (bp.take d.2.length _ _ _ _ h4);rw[g5]at this;exact this
    |mp b=>exact OR.part g4 g5 hO
   exact this.dat λb hb=> .inl hb
  .obtain⟨e1,e2⟩:=g5.get;refine hO.tell g4 e1 (λ m r q' hr hq=>?_);have hb:=e2 m r q' hr hq;refine⟨hb.length,λvs hv=>?_⟩;refine fX.sound h hg c8 r q' vs (λ k hk hn=>g6 k ?_ hn) hb hv;exact List.mem_flatMap.2 ⟨r,dw hr,hk⟩
 constructor
 .intro j q hj;have⟨k,o,g1,g2,g3⟩:=look j q hj;have⟨B,hB,hO⟩:=h.cP k o g2;exact⟨B,by rw[hb0 j k g1];exact hB,g3 B hO⟩
 .intro j j' o o' B B' b h1 h2 h3 h4 h5 h6;have⟨k,q,g1,g3,_⟩:=look j o h1;have⟨k',q',g1',g3',_⟩:=look j' o' h2;rw[hb0 j k g1]at h3;rw[hb0 j' k' g1']at h4;have:=h.gS k k' q q' B B' b g3 g3' h3 h4 h5 h6;subst this;exact Po hnd g1 g1'
 .intro j o B b h1 h2 h5;have⟨k,q,g1,g3,_⟩:=look j o h1;have h2':=h2;rw[hb0 j k g1]at h2;have⟨a1,a2,_⟩:=h.ownB k q B b g3 h2 h5;refine⟨?_,a2,.inl ⟨j,B,h2',h5⟩⟩;rintro (hI |⟨k',o',s',n',e1,e2,e3⟩)
  .exact a1 hI
  .have:=h.lP k k' q o' b g3 e2 ⟨B,h2,h5⟩ (.at e3);subst this;exact B5 _ e1 (dw g1)
 .exact MC h _
 .exact λb hb=> .inl hb
 .exact λ_ _ _=>rfl
 .exact aD _
 .rfl
 .rfl
 .rfl
 .intro j B hj;simp only[ny]at hj;split at hj
  .exact hj
  .cases hj
 .exact h.vars.mono (λ _ _=>rfl) (λ b hb=> .inl hb)
theorem abh:∀{os':U (Nat×aT)}{k:Nat}{o:aT},oc os' k=some o->(k,o)∈os'
 |[],_,_,h=>by simp[oc]at h
 |(j,q)::r,k,o,h=>by
  simp only[oc]at h;split at h
  .rename_i e;cases h;subst e;exact List.mem_cons_self
  .exact eH _ (abh h)
theorem Vp:∀{os':U (Nat×aT)}{k:Nat}{o:aT},(os'.map (·.1)).Nodup->(k,o)∈os'->oc os' k=some o
 |(j,q)::r,k,o,hn,h=>by
  simp only[aF,List.nodup_cons]at hn;simp only[oc];rcases aO.1 h with e |h
  .injection e with e1 e2;subst e1;subst e2;rw[aX rfl]
  .rw[aS (λ e=>hn.1 (mem_map.2 ⟨(k,o),h,e.symm⟩)),Vp hn.2 h]
theorem adk{F:Nat->J aT}{k:Nat}:∀(ae:U Nat)(n:Nat),(∃ j,ae[j]? =some k/\dm obj ((ae.zipIdx n).map λp=>(p.1,F p.2)) k=F (n+j))\/(k∉ae/\dm obj ((ae.zipIdx n).map λp=>(p.1,F p.2)) k=obj k)
 |[],n=> .inr ⟨by simp,rfl⟩
 |q::ae,n=>by
  simp only[List.zipIdx_cons,aF,dm];by_cases e:k=q
  .subst e;exact .inl ⟨0,rfl,by simp⟩
  .rw[aS e];rcases adk (k:=k) ae (n+1)with ⟨j,h1,h2⟩ |⟨h1,h2⟩
   .exact .inl ⟨j+1,by simpa using h1,by rw[h2];congr 1;omega⟩
   .exact .inr ⟨by simp[e,h1],h2⟩
theorem ZM{c:Nat->Nat}{G:aT->aT}{k:Nat}:∀(l:U (Nat×aT)),(∃ q∈l,k=c q.1/\dm obj (l.map λq=>(c q.1,some (G q.2))) k=some (G q.2))\/dm obj (l.map λq=>(c q.1,some (G q.2))) k=obj k
 |[]=> .inr rfl
 |q::l=>by
  simp only[aF,dm];by_cases e:k=c q.1
  .exact .inl ⟨q,by simp,e,by rw[aX e]⟩
  .rw[aS e];rcases ZM (c:=c) (G:=G) (k:=k) l with ⟨z,h1,h2,h3⟩ |h
   .exact .inl ⟨z,eH _ h1,h2,h3⟩
   .exact .inr h
theorem adl(h:Mem P w0 O0 β I obj w)(hn:∀k,jj (cR i) k->β k=none){ae c8:U Nat}{os':U (Nat×aT)}{rv:AV}{keep:Bool}(hgood:ZL ae.length os' rv)(hk:keep=true->nh os' rv)
 (hnd:ae.Nodup) (hl:ae.length<=1000) (k5:∀k∈ae,∃o,obj k=some o)
 {w':World} {I1:Nat->Prop} {v:Value} (hM:Mem P w (ny (βc ae β) (gb β obj c8 I)) β1 I1 (oc os') w') (h1:∀b,gb β obj c8 I b->I1 b) (hr:VR P β1 w' I1 rv v):
 ∃ β' I',Step β I w (cR i) β' I' w'/\Mem P w0 O0 β' I' (dm obj (yf i ae os'++if keep then []else c8.map (λ k=>(k,none)))) w'/\VR P β' w' I' (gh (cn i ae) rv) v:=by
 obtain⟨gk,gn,gr,gv⟩:=hgood;have hb0:∀j k,ae[j]? =some k->βc ae β j=β k:=λj k hk=>by simp[βc,hk]
 have hown0:∀k B,β k=some B->¬jj (cR i) k:=λk B hk e=>by rw[hn k e]at hk;cases hk
 have HX:∀j k,ae[j]? =some k->∃B,β k=some B/\β1 j=some B:=by
  intro j k hj;have⟨o,ho⟩:=k5 k (dw hj);have⟨B,hB,_⟩:=h.cP k o ho;have hjl:=(dH.1 hj).1;exact⟨B,hB,hM.anch j B (by simp only[ny];rw[aX (by omega),hb0 j k hj];exact hB)⟩
 generalize E6:(λ k=>if Hw i k then β1 (1000+(k -cR i))else β k:Nat->J cT)=β2;have A2:∀k,¬jj (cR i) k->β2 k=β k:=λk hk=>by
  rw[<- E6];have:Hw i k=false:=by
   cases e:Hw i k with
   |false=>rfl
   |true=>exact absurd (Vl.1 e) hk
  simp[this]
 have hβn:∀j,1000<=j->j<1064->β2 (cR i+(j -1000))=β1 j:=λj e1 e2=>by
  rw[<- E6];have e:Hw i (cR i+(j -1000))=true:=Vl.2 (by simp only[jj,cR];omega);have e':1000+(cR i+(j -1000) -cR i)=j:=by omega
  simp only[e,if_true,e']
 have hmap:∀k,At ae.length k->∀B,β1 k=some B->β2 (cn i ae k)=some B:=by
  rintro k (hk |⟨hk1,hk2⟩) B hB
  .obtain⟨B',e1,e2⟩:=HX k _ (dQ hk);rw[e2]at hB;cases hB;simp only[cn,show k<1000 by omega,if_true,dQ hk,Option.getD_some];rw[A2 _ (hown0 _ _ e1)];exact e1
  .simp only[cn,show ¬k<1000 by omega,if_false];rw[hβn k hk1 hk2];exact hB
 have look:∀g k o,dm obj (yf i ae os'++g) k=some o->(∃ j o0,ae[j]? =some k/\oc os' j=some o0/\o=Ki (cn i ae) o0)\/
  (∃ j o0,1000<=j/\j<1064/\oc os' j=some o0/\k=cR i+(j -1000)/\o=Ki (cn i ae) o0)\/(k∉ae/\dm obj g k=some o):=by
  intro g k o hko;rw[rU,yf,rU]at hko;rcases adk (obj:=dm (dm obj g) ((os'.filter λ(q:Nat×aT)=>decide (1000<=q.1)).map λ(q:Nat×aT)=>(cn i ae q.1,some (Ki (cn i ae) q.2)))) (F:=λj=>(oc os' j).map (Ki (cn i ae))) (k:=k) ae 0 with ⟨j,e1,e2⟩ |⟨e1,e2⟩
  .rw[e2]at hko;simp only[Nat.zero_add,dN]at hko;obtain⟨o0,e3,e4⟩:=hko;exact .inl ⟨j,o0,e1,e3,e4.symm⟩
  .rw[e2]at hko;rcases ZM (obj:=dm obj g) (c:=cn i ae) (G:=Ki (cn i ae)) (k:=k) (os'.filter λq=>decide (1000<=q.1))with ⟨q,e3,e4,e5⟩ |e3
   .rw[e5]at hko;injection hko with hko;simp only[mem_filter,aV]at e3;have hq:=gk q e3.1;simp only[At]at hq;refine .inr (.inl ⟨q.1,q.2,e3.2,by omega,Vp gn e3.1,?_,hko.symm⟩);rw[e4];simp only[cn,show ¬q.1<1000 by omega,if_false]
   .rw[e3]at hko;exact .inr (.inr ⟨e1,hko⟩)
 have main:∀(g:U (Nat×Option aT))(I2:Nat->Prop),(∀ k o,dm obj g k=some o->obj k=some o)->(∀ b,I b->I2 b)->(∀ b,I2 b->I1 b)->(∀ j o B,oc os' j=some o->OR P β1 w' I1 o B->OR P β1 w' I2 o B)->
  (∀ k o b,k∉ae->dm obj g k=some o->fL β k b->¬I2 b)->VR P β1 w' I2 rv v->
  ∃ β' I',Step β I w (cR i) β' I' w'/\Mem P w0 O0 β' I' (dm obj (yf i ae os'++g)) w'/\VR P β' w' I' (gh (cn i ae) rv) v:=by
  intro g I2 hg hI hI1 hor HQ hr2;have hown:∀b,U8 (βc ae β) b->∃k o,k∈ae/\obj k=some o/\fL β k b:=by
   rintro b ⟨j,B,hj,hB⟩;have⟨k,e1,e2⟩:=ME hj;have⟨o,e3⟩:=k5 k (dw e1);exact⟨k,o,dw e1,e3,B,e2,hB⟩
  have hapart:∀k o b,k∉ae->obj k=some o->fL β k b->¬U8 (βc ae β) b:=by
   intro k o b hk e1 e2 hb;have⟨k',o',g1,g2,g3⟩:=hown b hb;have:=h.lP k k' o o' b e1 g2 e2 g3;subst this;exact hk g1
  have hS:Same I w w':=λb hb=>hM.keep b (h.lt b hb) (λ hb'=>by
   have⟨k',o',g1,g2,g3⟩:=hown b hb';exact(h.jt k' o' b g2 g3).1 hb)
  have IS:∀k o,dm obj (yf i ae os'++g) k=some o->(∃ j o0,oc os' j=some o0/\At ae.length j/\k=cn i ae j/\β2 k=β1 j/\o=Ki (cn i ae) o0)\/(k∉ae/\obj k=some o/\dm obj g k=some o/\β2 k=β k):=by
   intro k o hko;rcases look g k o hko with ⟨j,o0,e1,e2,e3⟩ |⟨j,o0,e1,Mp,e2,e3,e4⟩ |⟨e1,e2⟩
   .have⟨B,e4,e5⟩:=HX j k e1;have hjl:=(dH.1 e1).1;refine .inl ⟨j,o0,e2,.inl hjl,?_,?_,e3⟩
    .simp only[cn,show j<1000 by omega,if_true,e1,Option.getD_some]
    .rw[A2 _ (hown0 _ _ e4),e4,e5]
   .refine .inl ⟨j,o0,e2,.inr ⟨e1,Mp⟩,?_,?_,e4⟩
    .simp only[cn,show ¬j<1000 by omega,if_false];exact e3
    .rw[e3];exact hβn j e1 Mp
   .have⟨B,e3,_⟩:=h.cP k o (hg k o e2);exact .inr ⟨e1,hg k o e2,e2,A2 _ (hown0 _ _ e3)⟩
  have sX:∀j o0 b,oc os' j=some o0->fL β1 j b->¬I2 b/\b<w'.heap.size/\(U8 (βc ae β) b\/w.heap.size<=b):=by
   intro j o0 b e1 e2;have⟨a1,a2,a3⟩:=hM.jt j o0 b e1 e2;exact⟨λ hb=>a1 (hI1 b hb),a2,a3⟩
  refine⟨β2,I2,⟨A2,λk B hk=>by rw[A2 k (hown0 k B hk)];exact hk,hS,hI⟩,?_,VR.uC rv v (λ k hk=>hmap k (gv k hk)) hr2⟩;constructor
  .intro k o hko;rcases IS k o hko with ⟨j,o0,e1,e2,e3,e4,rfl⟩ |⟨e1,e2,e3,e4⟩
   .have⟨B,hB,hO⟩:=hM.cP j o0 e1;refine⟨B,by rw[e4];exact hB,OR.uC (λ r hr' q hq=>hmap q (gr (j,o0) (abh e1) r hr' q hq)) (hor j o0 B e1 hO)⟩
   .have⟨B,hB,hO⟩:=h.cP k o e2;refine⟨B,by rw[e4];exact hB,OR.mono (λ q C hq=>by rw[A2 q (hown0 q C hq)];exact hq) hS hI (λ b e=>hM.keep b (h.ownB k o B b e2 hB e).2.1 (hapart k o b e1 e2 ⟨B,hB,e⟩)) hO⟩
  .intro k k' o o' B B' b ho ho' hb hb' h5 h6;rcases IS k o ho with ⟨j,o0,e1,e2,e3,e4,rfl⟩ |⟨e1,e2,e3,e4⟩
   .rw[e4]at hb;rcases IS k' o' ho' with ⟨j',Rd,f1,f2,f3,f4,rfl⟩ |⟨f1,f2,f3,f4⟩
    .rw[f4]at hb';have:=hM.gS j j' o0 Rd B B' b e1 f1 hb hb' h5 h6;subst this;rw[e3,f3]
    .rw[f4]at hb';rcases (sX j o0 b e1 ⟨B,hb,h5⟩).2.2 with g1 |g1
     .exact absurd g1 (hapart k' o' b f1 f2 ⟨B',hb',h6⟩)
     .have:=(h.ownB k' o' B' b f2 hb' h6).2.1;omega
   .rw[e4]at hb;rcases IS k' o' ho' with ⟨j',Rd,f1,f2,f3,f4,rfl⟩ |⟨f1,f2,f3,f4⟩
    .rw[f4]at hb';rcases (sX j' Rd b f1 ⟨B',hb',h6⟩).2.2 with g1 |g1
     .exact absurd g1 (hapart k o b e1 e2 ⟨B,hb,h5⟩)
     .have:=(h.ownB k o B b e2 hb h5).2.1;omega
    .rw[f4]at hb';exact h.gS k k' o o' B B' b e2 f2 hb hb' h5 h6
  .intro k o B b ho hb h5;rcases IS k o ho with ⟨j,o0,e1,e2,e3,e4,rfl⟩ |⟨e1,e2,e3,e4⟩
   .rw[e4]at hb;have⟨a1,a2,a3⟩:=sX j o0 b e1 ⟨B,hb,h5⟩;refine⟨a1,a2,?_⟩;rcases a3 with a3 |a3
    .have⟨k',o',g1,g2,g3⟩:=hown b a3;exact(h.jt k' o' b g2 g3).2.2
    .exact .inr (Nat.le_trans h.le a3)
   .rw[e4]at hb;have⟨a1,a2,a3⟩:=h.ownB k o B b e2 hb h5;exact⟨HQ k o b e1 e3 ⟨B,hb,h5⟩,Nat.lt_of_lt_of_le a2 hM.le,a3⟩
  .exact λb hb=>hM.lt b (hI1 b hb)
  .intro b hb;rcases hM.up b (hI1 b hb)with (g1 |⟨k',o',s',n',_,g2,g3⟩) |g1 |g1
   .exact h.up b g1
   .exact .inr (h.own k' o' b s' n' g2 g3).2.2
   .have⟨k',o',_,g2,g3⟩:=hown b g1;exact .inr (h.jt k' o' b g2 g3).2.2
   .exact .inr (.inr (Nat.le_trans h.le g1))
  .intro b hb hno;refine(hM.keep b (Nat.lt_of_lt_of_le hb h.le) (λ hb'=>?_)).trans (h.keep b hb hno);have⟨k',o',_,g2,g3⟩:=hown b hb';rcases (h.jt k' o' b g2 g3).2.2 with g1 |g1
   .exact hno g1
   .omega
  .exact Nat.le_trans h.le hM.le
  .exact hM.os.trans h.os
  .exact hM.tape.trans h.tape
  .exact hM.output.trans h.output
  .intro j B hj;have e:=h.anch j B hj;rw[A2 j (hown0 j B e)];exact e
  .exact h.vars.mono hS hI
 cases keep with
 |true=>
  have⟨hf1,hf2⟩:=hk rfl;exact main [] I (λ _ _ h=>h) (λ _ h=>h) (λ b hb=>h1 b (.inl hb)) (λ j o B hj hO=>OR.nh (hf2 (j,o) (abh hj)) hO) (λ k o b _ e1 e2=>(h.jt k o b e1 e2).1) (VR.flat rv v hf1 hr)
 |false=>
  have hsub:∀k o,dm obj (c8.map λk=>(k,none)) k=some o->obj k=some o/\k∉c8:=by
   intro k o hk;rw[yh]at hk;split at hk
   .cases hk
   .exact⟨hk,‹_›⟩
  refine main _ I1 (λ k o hk=>(hsub k o hk).1) (λ b hb=>h1 b (.inl hb)) (λ _ h=>h) (λ j o B hj hO=>hO) (λ k o b hki e1 e2 hb=>?_) hr;have⟨f1,f2⟩:=hsub k o e1;have⟨a1,a2,_⟩:=h.jt k o b f1 e2;rcases hM.up b hb with (g |⟨k',o',s',n',g1,g2,g3⟩) |⟨j,B',g,g'⟩ |g
  .exact a1 g
  .have:=h.lP k k' o o' b f1 g2 e2 (.at g3);subst this;exact f2 g1
  .have⟨k',g1,g2⟩:=ME g;have⟨o',g3⟩:=k5 k' (dw g1);have:=h.lP k k' o o' b f1 g3 e2 ⟨B',g2,g'⟩;subst this;exact hki (dw g1)
  .omega
theorem Vq(h:Mem P w0 O0 β I obj w)(hn:∀k,jj (cR i) k->β k=none){f:AV}{args:U AV}{cL:ka}{get:Nat->J aT}{ab:Out}(hg:∀k o,get k=some o->obj k=some o)
 {fv:Value} {vs:Array Value} {al:Array Operand} {fo:Operand} {r:Operand->Value} (ha:ML P i f args cL get=some ab) (cV:ab.ob) (hf:VR P β w I f fv) (hv:bj P β w I args vs.toList) (hfo:r fo=fv) (hops:vs=al.map r)
 {dst:J Tmp} {ao:String} {after:Array Edge} {guard:J (Nat×Bool)} {ty:TypeId} {cX:Array TypeId}:
 zW P w0 O0 β I obj w i ab ((execOp r ⟨dst,.call { callee:= .value fo,args:=al,argTypes:=cX },ty,ao,after,guard⟩).run P w):=by
 unfold ML at ha;split at ha
 .rename_i F first caps ae c8 bs hs os' rv keep
  split at ha
  .rename_i hc;obtain⟨hnd,hl⟩:=hc;rw[ai]at ha;obtain⟨ho,hho,ha⟩:=ha;rw[ai]at ha;obtain⟨q,hq,ha⟩:=ha;cases ha;have cV:=qE _ cV;simp only[VR]at hf;obtain⟨fs,cs,rfl,hf1,hf2⟩:=hf;have o1:∀x∈q.2.2,x:=λx hx=>cV x (by simp[hx]);have o2:∀x∈ho.2,x:=λx hx=>cV x (by simp[hx]);have o3:yp P F q.1 ho.1 os' rv:=cV (yp P F q.1 ho.1 os' rv) (by simp);have o4:ZL ae.length os' rv:=cV (ZL ae.length os' rv) (by simp);have o5:keep=true->nh os' rv:=λe=>cV (nh os' rv) (by simp[e]);obtain⟨l1,l2,l3⟩:Vn get (first++args++caps) ae c8 bs:=cV (Vn get (first++args++caps) ae c8 bs) (by simp);obtain⟨⟨fn,e1,e2,e3⟩,hcon⟩:=o3;have⟨hl2,hmm⟩:=Vo hho o2;have k5:∀k∈ae,∃o,obj k=some o:=by
    intro k hk;obtain⟨j,hj⟩:=List.getElem?_of_mem hk;have hjl:j<ho.1.length:=(by rw[<- hl2];exact(dH.1 hj).1);obtain⟨o,g,_⟩:=hmm j k _ hj (dQ hjl);exact⟨o,hg _ _ g⟩
   have hM:=h.xn hg (c8:=c8) hnd hl2 (λ j k z hj hz=>by
    have⟨o,g1,g2⟩:=hmm j k z hj hz;refine⟨o,g1,?_⟩;rcases g2 with ⟨d,_,g3⟩ |⟨hs',g3,g4,g5⟩
    .exact .inl ⟨d,g3⟩
    .exact .inr ⟨g4,g5,λk' hk' hn'=>l3 j hs' k o g3 hj g1 k' hk' hn'⟩) l1
   have hall:bj P β w I (first++args++caps) (fs++vs++cs).toList:=by
    simp only[Array.toList_append];exact bj.append _ _ _ _ (bj.append _ _ _ _ hf1 hv) hf2
   have pm:=fX.sound h hg c8 _ _ _ (λ k hk hn=>l2 k hk hn) (nC hq o1) hall;refine⟨F,fs++vs++cs,?_,(hcon w _ _ _ (λ k hk=>?_) hM pm).mono ?_⟩
   .have hb:¬fn.body=none:=(by cases hh:fn.body<;>simp[hh]at e2 ⊢);have e3' : ¬ fn.name = "runtime.NumGoroutine" := (by simpa using e3);simp[execOp,resolve,hfo,<- hops,Deferred.ofValue,invoke,callFunc,e1,e3',hb]
   .simp[βc,List.getElem?_eq_none (show ae.length<=k by omega)]
   .rintro e w' ⟨v',β1,I1,rfl,g1,g2,g3⟩;have⟨β',I',k1,k2,k3⟩:=adl (keep:=keep) h hn o4 o5 hnd hl k5 g1 g2 g3;exact⟨v',β',I',rfl,k1,k2,k3⟩
  .cases ha
 .cases ha
end
def j3(P:Program)(i:Nat)(f:AV)(args:U AV)(cL:ka)(get:Nat->J aT):J Out:=
 match cL with
 | .tD ae c8 bs hs os' rv keep=>ML P i f args (.tD ae c8 bs hs os' rv keep) get
 |cL=>oW P i f args cL get
section
variable {P:Program} {w0:World} {O0:ky} {β:Nat->Option cT} {I:Nat->Prop} {obj:Nat->Option aT} {w:World} {i:Nat}
theorem Vr(h:Mem P w0 O0 β I obj w)(hn:∀k,jj (cR i) k->β k=none){f:AV}{args:U AV}{cL:ka}{get:Nat->J aT}{ab:Out}(hg:∀k o,get k=some o->obj k=some o)
 {fv:Value} {vs:Array Value} {al:Array Operand} {fo:Operand} {r:Operand->Value} (ha:j3 P i f args cL get=some ab) (cV:ab.ob) (hf:VR P β w I f fv) (hv:bj P β w I args vs.toList) (hfo:r fo=fv) (hops:vs=al.map r)
 {dst:J Tmp} {ao:String} {after:Array Edge} {guard:J (Nat×Bool)} {ty:TypeId} {cX:Array TypeId}:
 zW P w0 O0 β I obj w i ab ((execOp r ⟨dst,.call { callee:= .value fo,args:=al,argTypes:=cX },ty,ao,after,guard⟩).run P w):=by
 unfold j3 at ha;split at ha
 .exact Vq h hn hg ha cV hf hv hfo hops
 .exact Vb h (hn _ (.inl rfl)) hg ha cV hf hv hfo hops
end
end Go.Gb
