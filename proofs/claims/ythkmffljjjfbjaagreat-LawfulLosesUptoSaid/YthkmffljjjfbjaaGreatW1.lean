import GoSem.Claims
import Derived.Calls
import Derived.Below
import Derived.Orders
import Derived.Laws.Cells
import Derived.Laws.AppendOwn
import Derived.Laws.StructEq
import Derived.Laws.Build
import Derived.WalkKit
import Derived.Lib.AppendZeros
import Derived.MapKept
import Derived.Laws.MakeOwn
open Go.IntKind (i64)
open List (length_take mem_map all_eq_true cons_append length_drop map_map take_of_length_le mem_filter map_congr_left flatten_cons eq_nil_of_length_eq_zero)
namespace Go
universe u v
theorem aj{α:Sort u}(a b:α):cond true a b=a:=rfl
theorem ak{α:Sort u}(a b:α):cond false a b=b:=rfl
theorem af{α:Type u}{β:Type v}(a:α)(f:α->Option β):(some a).bind f=f a:=rfl
theorem aR{p:Prop}[Decidable p]:(decide p=true)=p:=_root_.decide_eq_true_eq
theorem dL{p:Prop}{_:Decidable p}:decide p=false↔¬p:=_root_.decide_eq_false_iff_not
theorem ay{α:Type u}(a b:α):(some a=some b)=(a=b):=Option.some.injEq a b
theorem aJ(a b:Bool):((a&&b)=true)=(a=true/\b=true):=Bool.and_eq_true a b
theorem kC{a b:Bool}:a=b↔(a=true↔b=true):=Bool.eq_iff_iff
theorem dG{α:Type u}{a b:List α}:(a++b).length=a.length+b.length:=List.length_append
theorem aM{α:Type u}(a b c:List α):a++b++c=a++(b++c):=List.append_assoc a b c
theorem fO{α:Type u}{a:α}:¬a∈([]:List α):=List.not_mem_nil
theorem bf{c:Prop}{h:Decidable c}(hnc:¬c){α:Sort u}{t e:α}:(if c then t else e)=e:=_root_.if_neg hnc
theorem bn{c:Prop}{h:Decidable c}(hc:c){α:Sort u}{t e:α}:(if c then t else e)=t:=_root_.if_pos hc
theorem aT{α:Type u}{a b:α}:a∈[b]↔a=b:=List.mem_singleton
theorem cZ{α:Type u}{l:List α}{i:Nat}(h:i<l.length):l[i]? =some l[i]:=List.getElem?_eq_getElem h
theorem nY{α:Type u}{a b:List α}{i:Nat}(h:a.length<=i):(a++b)[i]? =b[i -a.length]? :=List.getElem?_append_right h
theorem bX{α:Type u}{i:Nat}{a:α}{l:List α}:l[i]? =some a↔∃h:i<l.length,l[i]=a:=List.getElem?_eq_some_iff
theorem bW{α:Type u}{l:List α}{i:Nat}{a:α}(h:l[i]? =some a):a∈l:=List.mem_of_getElem? h
theorem dR{α:Type u}{b:α}{PR:Type v}{x:Option PR}{f:PR->α}:Option.map f x=some b↔∃a,x=some a/\f a=b:=Option.map_eq_some_iff
theorem jD{α:Type u}{i:Nat}{l:List α}(h:i<l.length):List.take (i+1) l=List.take i l++[l[i]]:=List.take_succ_eq_append_getElem h
theorem dV{α:Type u}(y:α){a:α}{l:List α}(h:a∈l):a∈y::l:=List.mem_cons_of_mem y h
theorem aB(n:Nat):n<=n:=Nat.le_refl n
theorem bI{α:Type u}{a:α}{l:List α}:(a::l).length=l.length+1:=rfl
theorem aF{α:Type u}{β:Type v}{f:α->β}{a:α}{l:List α}:List.map f (a::l)=f a::List.map f l:=rfl
theorem aN{α:Type u}{b:α}{l:List α}{a:α}:a∈b::l↔a=b\/a∈l:=List.mem_cons
theorem bK{α:Type u}(l:List α):[]++l=l:=rfl
theorem aY{α:Type u}{a:α}{s t:List α}:a∈s++t↔a∈s\/a∈t:=List.mem_append
theorem sw{p:Prop}(h:¬p->False):p:=Classical.byContradiction h
end Go
namespace Go
theorem ah{α:Type _}{β:Type _}{b:β}{x:Option α}{f:α->Option β}:x.bind f=some b↔∃ a,x=some a/\f a=some b:=Option.bind_eq_some_iff
end Go
namespace Go.Gb
def uc:Nat->Option (List Value):=λ_=>none
def Nx:Nat->Bool:=λg=>g==0
open Go.RowKit
inductive Tree where
 |sc (v:Value)
 |sl (rows:List (List Tree))
inductive TV where
 |s (x:Tree)
 |a (cs:List Tree)
inductive AV where
 |t (x:Tree)
 |agg (cs:List AV)
 |eE (vs:List AV)
 |own (k:Nat) (aa len:Nat)
 |ptr (k:Nat) (row aa:Nat)
 |ef (row:List Tree) (aa:Nat)
 |fn (f:FuncId) (first caps:List AV)
 |du (φ:List TV->TV->Prop)
 |mp (k:Nat)
 |oz (k len:Nat)
 |cL
 |ub
 |undef
structure aS where
 sz:Nat
 rows:List (List AV)
structure Ex where
 m:Nat
 s:Nat
 h:s<=m
def uk(m:Nat):Ex:=⟨m,0,Nat.zero_le m⟩
@[simp] theorem HN (m:Nat):(uk m).m=m:=rfl
@[simp] theorem HM (m:Nat):(uk m).s=0:=rfl
inductive cA where
 |none
 |at (b sz:Nat) (n:Ex)
 |mp (b:Nat)
@[simp] def cA.num:cA->Option Nat
 | .none=>Option.none
 | .at b _ _=>some b
 | .mp b=>some b
def oneCell:Value->Prop
 | .agg _ | .tuple _=>False
 |_=>True
section
variable (w:World) (I:Nat->Prop)
mutual
def TR:Tree->Value->Prop
 | .sc v,u=>u=v/\oneCell v
 | .sl rows,u=>(rows=[]/\∃a cap,u= .slice a 0 cap/\(a=none->cap=0))\/∃b aa cap sz,u= .slice (some ⟨b,aa,none⟩) rows.length cap/\rows.length<=cap/\I b/\cp rows b aa sz
def cp:List (List Tree)->Nat->Nat->Nat->Prop
 |[],_,_,_=>True
 |r::rs,b,aa,sz=>r.length=sz/\dc r b aa/\cp rs b (aa+sz) sz
def dc:List Tree->Nat->Nat->Prop
 |[],_,_=>True
 |x::xs,b,aa=>(∃ c,w.cell? ⟨b,aa,none⟩=some c/\TR x c)/\dc xs b (aa+1)
end
def ek:List Tree->List Value->Prop
 |[],[]=>True
 |x::xs,v::vs=>TR w I x v/\ek xs vs
 |_,_=>False
def rj:TV->Value->Prop
 | .s x,v=>TR w I x v
 | .a cs,v=>∃vs:Array Value,v= .agg vs/\ek w I cs vs.toList
def lL:List TV->List Value->Prop
 |[],[]=>True
 |x::xs,v::vs=>rj w I x v/\lL xs vs
 |_,_=>False
end
def Same(I:Nat->Prop)(w w':World):Prop:=∀b,I b->w'.heap[b]? =w.heap[b]?
theorem Same.cell{I:Nat->Prop}{w w':World}(h:Same I w w'){b aa:Nat}(hb:I b):w'.cell? ⟨b,aa,none⟩=w.cell? ⟨b,aa,none⟩:=by simp only[World.cell?,h b hb]
mutual
theorem TR.mono{w w':World}{I I':Nat->Prop}(hs:Same I w w')(hi:∀b,I b->I' b):∀(x:Tree)(v:Value),TR w I x v->TR w' I' x v
 | .sc _,_,h=>by simpa[TR]using h
 | .sl rows,v,h=>by
  simp only[TR]at h ⊢;rcases h with h |⟨b,aa,cap,sz,h1,h2,h3,h4⟩
  ·exact .inl h
  ·exact .inr ⟨b,aa,cap,sz,h1,h2,hi _ h3,cp.mono hs hi rows b aa sz h3 h4⟩
theorem cp.mono{w w':World}{I I':Nat->Prop}(hs:Same I w w')(hi:∀b,I b->I' b):∀(rows:List (List Tree))(b aa sz:Nat),I b->cp w I rows b aa sz->cp w' I' rows b aa sz
 |[],_,_,_,_,_=>by simp[cp]
 |r::rs,b,aa,sz,hb,h=>by
  simp only[cp]at h ⊢;exact⟨h.1,dc.mono hs hi r b aa hb h.2.1,cp.mono hs hi rs b (aa+sz) sz hb h.2.2⟩
theorem dc.mono{w w':World}{I I':Nat->Prop}(hs:Same I w w')(hi:∀b,I b->I' b):∀(r:List Tree)(b aa:Nat),I b->dc w I r b aa->dc w' I' r b aa
 |[],_,_,_,_=>by simp[dc]
 |x::xs,b,aa,hb,h=>by
  simp only[dc]at h ⊢;obtain⟨⟨c,hc,hx⟩,h2⟩:=h;exact⟨⟨c,by rw[hs.cell hb];exact hc,TR.mono hs hi x c hx⟩,dc.mono hs hi xs b (aa+1) hb h2⟩
end
theorem ek.mono{w w':World}{I I':Nat->Prop}(hs:Same I w w')(hi:∀b,I b->I' b):∀(xs:List Tree)(vs:List Value),ek w I xs vs->ek w' I' xs vs
 |[],[],_=>trivial
 |x::xs,v::vs,h=>⟨TR.mono hs hi x v h.1,ek.mono hs hi xs vs h.2⟩
 |[],_::_,h=>h.elim
 |_::_,[],h=>h.elim
theorem rj.mono{w w':World}{I I':Nat->Prop}(hs:Same I w w')(hi:∀b,I b->I' b):∀(x:TV)(v:Value),rj w I x v->rj w' I' x v
 | .s x,v,h=>TR.mono hs hi x v h
 | .a cs,_,⟨vs,h1,h2⟩=>⟨vs,h1,ek.mono hs hi cs vs.toList h2⟩
theorem lL.mono{w w':World}{I I':Nat->Prop}(hs:Same I w w')(hi:∀b,I b->I' b):∀(xs:List TV)(vs:List Value),lL w I xs vs->lL w' I' xs vs
 |[],[],_=>trivial
 |x::xs,v::vs,h=>⟨rj.mono hs hi x v h.1,lL.mono hs hi xs vs h.2⟩
 |[],_::_,h=>h.elim
 |_::_,[],h=>h.elim
def jt(w:World)(I:Nat->Prop):Prop:=(∀ g row,uc g=some row->I g/\dc w I (row.map Tree.sc) g 0)/\∀g,Nx g=true->I g/\∃m,w.cell? ⟨g,0,none⟩=some (.int .i64 m)
theorem jt.mono{w w':World}{I I':Nat->Prop}(hs:Same I w w')(hi:∀b,I b->I' b)(h:jt w I):jt w' I':=⟨λ g row hg=>
 ⟨hi g (h.1 g row hg).1,dc.mono hs hi _ g 0 (h.1 g row hg).1 (h.1 g row hg).2⟩,λg hg=>⟨hi g (h.2 g hg).1,by rw[hs.cell (h.2 g hg).1];exact(h.2 g hg).2⟩⟩
def ZZ(w:World)(I:Nat->Prop)(R:World->(Nat->Prop)->Value->Prop)(e:Ending)(w':World):Prop:=
 ∃v I',e= .returned v/\Below w.heap.size w w'/\(∀ b,I b->I' b)/\(∀ b,I' b->b<w'.heap.size)/\(∀ b,I' b->I b\/w.heap.size<=b)/\R w' I' v
def pC(P:Program)(w:World)(I:Nat->Prop)(φ:List TV->TV->Prop)(v:Value):Prop:=
 ∃(f:FuncId)(first caps:Array Value),v= .func (.func f) first caps/\first=#[]/\
  (∀ fn, P.funcs[f]? = some fn -> fn.body.isSome = true /\ (fn.name == "runtime.NumGoroutine") = false) /\ (P.funcs[f]?).isSome = true /\
  ∀(w':World)(I':Nat->Prop)(args:List TV)(vs:Array Value)(r:TV),(∀ b,I b->I' b)->Same I w w'->(∀ b,I' b->b<w'.heap.size)->
   φ args r->lL w' I' args vs.toList->Calls P f (first++vs++caps) w' (ZZ w' I' λw'' AI u=>rj w'' AI r u)
section
variable (P:Program) (β:Nat->Option cA) (w:World) (I:Nat->Prop)
mutual
def VR:AV->Value->Prop
 | .t x,v=>TR w I x v
 | .agg cs,v=>∃vs:Array Value,v= .agg vs/\be cs vs.toList
 | .eE cs,v=>∃vs:Array Value,v= .tuple vs/\be cs vs.toList
 | .own k aa len,v=>(β k=some .none/\v= .slice none 0 0/\aa=0/\len=0)\/
  ∃b sz n cap o,β k=some (.at b sz n)/\v= .slice (some ⟨b,o,none⟩) len cap/\len<=cap/\n.s+(aa+cap)*sz<=n.m/\(cap≠0->o=n.s+aa*sz)
 | .ptr k row aa,v=>∃b sz n,β k=some (.at b sz n)/\v= .pointer (some ⟨b,n.s+row*sz+aa,none⟩)
 | .ef row aa,v=>∃b o,v= .pointer (some ⟨b,o+aa,none⟩)/\I b/\dc w I row b o
 | .fn f first caps,v=>∃fs cs:Array Value,v= .func (.func f) fs cs/\be first fs.toList/\be caps cs.toList
 | .du φ,v=>pC P w I φ v
 | .mp k,v=>∃b,β k=some (.mp b)/\v= .map (some b)
 | .oz k len,v=>(len=0/\v= .slice none 0 0)\/(len≠0/\∃b sz n cap o,β k=some (.at b sz n)/\v= .slice (some ⟨b,o,none⟩) len cap/\len<=cap/\n.s+(0+cap)*sz<=n.m/\(cap≠0->o=n.s+0*sz))
 | .cL,v=>v= .slice none 0 0
 | .ub,v=>∃b,v= .bool b
 | .undef,_=>True
def be:List AV->List Value->Prop
 |[],[]=>True
 |x::xs,v::vs=>VR x v/\be xs vs
 |_,_=>False
end
def cM:List AV->Array Value->Nat->Prop
 |[],_,_=>True
 |x::xs,c,aa=>(∃ v,c[aa]? =some v/\VR P β w I x v/\oneCell v)/\cM xs c (aa+1)
def br:List (List AV)->Array Value->Nat->Nat->Prop
 |[],_,_,_=>True
 |r::rs,c,aa,sz=>r.length=sz/\cM P β w I r c aa/\br rs c (aa+sz) sz
def ct:List (List AV)->List MapEntry->Prop
 |[],[]=>True
 |r::rs,e::es=>be P β w I r [e.key,e.val]/\ct rs es
 |_,_=>False
def OR(o:aS):cA->Prop
 | .none=>o.rows=[]
 | .mp b=>∃es clock,w.heap[b]? =some (.map es clock)/\o.rows.length<=o.sz/\(o.sz=o.rows.length->ct P β w I o.rows es.toList)/\(es.toList.map (·.born)).Nodup/\∀e∈es.toList,e.born<clock
 | .at b sz n=>sz=o.sz/\∃c e,w.heap[b]? =some (.cells c e (0,0))/\c.size=n.m/\br P β w I o.rows c n.s sz
end
theorem pC.mono{P:Program}{w w':World}{I I':Nat->Prop}(hs:Same I w w')(hi:∀b,I b->I' b){φ:List TV->TV->Prop}{v:Value}(h:pC P w I φ v):pC P w' I' φ v:=by
 obtain⟨f,first,caps,h1,h0,h2,h3,h4⟩:=h;exact⟨f,first,caps,h1,h0,h2,h3,λw2 I2 args vs r hi2 hs2 hlt hφ ha=>h4 w2 I2 args vs r (λ b h=>hi2 b (hi b h)) (λ b h=>(hs2 b (hi b h)).trans (hs b h)) hlt hφ ha⟩
mutual
theorem VR.mono{P:Program}{β β':Nat->Option cA}{w w':World}{I I':Nat->Prop}(hb:∀k B,β k=some B->β' k=some B)(hs:Same I w w')(hi:∀b,I b->I' b):∀(x:AV)(v:Value),VR P β w I x v->VR P β' w' I' x v
 | .t x,v,h=>by simp only[VR]at h ⊢;exact TR.mono hs hi x v h
 | .agg cs,v,h=>by
  simp only[VR]at h ⊢;obtain⟨vs,h1,h2⟩:=h;exact⟨vs,h1,be.mono hb hs hi cs vs.toList h2⟩
 | .eE cs,v,h=>by
  simp only[VR]at h ⊢;obtain⟨vs,h1,h2⟩:=h;exact⟨vs,h1,be.mono hb hs hi cs vs.toList h2⟩
 | .own k aa len,v,h=>by
  simp only[VR]at h ⊢;rcases h with ⟨h1,h2⟩ |⟨b,sz,n,cap,o,h1,h2⟩
  ·exact .inl ⟨hb _ _ h1,h2⟩
  ·exact .inr ⟨b,sz,n,cap,o,hb _ _ h1,h2⟩
 | .ptr k row aa,v,h=>by
  simp only[VR]at h ⊢;obtain⟨b,sz,n,h1,h2⟩:=h;exact⟨b,sz,n,hb _ _ h1,h2⟩
 | .ef row aa,v,h=>by
  simp only[VR]at h ⊢;obtain⟨b,o,h1,h2,h3⟩:=h;exact⟨b,o,h1,hi _ h2,dc.mono hs hi row b o h2 h3⟩
 | .fn f first caps,v,h=>by
  simp only[VR]at h ⊢;obtain⟨fs,cs,h1,h2,h3⟩:=h;exact⟨fs,cs,h1,be.mono hb hs hi first fs.toList h2,be.mono hb hs hi caps cs.toList h3⟩
 | .du φ,v,h=>by simp only[VR]at h ⊢;exact pC.mono hs hi h
 | .mp k,v,h=>by
  simp only[VR]at h ⊢;obtain⟨b,h1,h2⟩:=h;exact⟨b,hb _ _ h1,h2⟩
 | .oz k len,v,h=>by
  simp only[VR]at h ⊢;rcases h with h |⟨h0,b,sz,n,cap,o,h1,h2⟩
  ·exact .inl h
  ·exact .inr ⟨h0,b,sz,n,cap,o,hb _ _ h1,h2⟩
 | .cL,v,h=>by simpa[VR]using h
 | .ub,v,h=>by simpa[VR]using h
 | .undef,_,_=>by simp[VR]
theorem be.mono{P:Program}{β β':Nat->Option cA}{w w':World}{I I':Nat->Prop}(hb:∀k B,β k=some B->β' k=some B)(hs:Same I w w')(hi:∀b,I b->I' b):∀(xs:List AV)(vs:List Value),be P β w I xs vs->be P β' w' I' xs vs
 |[],[],_=>by simp[be]
 |x::xs,v::vs,h=>by simp only[be]at h ⊢;exact⟨VR.mono hb hs hi x v h.1,be.mono hb hs hi xs vs h.2⟩
 |[],_::_,h=>by simp[be]at h
 |_::_,[],h=>by simp[be]at h
end
theorem VR.te{P:Program}{β:Nat->Option cA}{w:World}{I:Nat->Prop}{k len:Nat}{v:Value}(h:VR P β w I (.oz k len) v):(len=0/\v= .slice none 0 0)\/(len≠0/\VR P β w I (.own k 0 len) v):=by
 simp only[VR]at h ⊢;exact h.imp id λh=>⟨h.1,.inr h.2⟩
def wk:AV->AV
 | .cL=> .t (.sl [])
 |x=>x
def dM(rows:List (List AV)):List (List AV):=rows.map λr=>r.map wk
theorem VR.wk{P:Program}{β:Nat->Option cA}{w:World}{I:Nat->Prop}{x:AV}{v:Value}(h:VR P β w I x v):VR P β w I (wk x) v:=by
 cases x<;>simp only[Gb.wk]<;>try exact h
 simp only[VR]at h ⊢;simp only[TR];exact .inl ⟨trivial,none,0,h,λ_=>rfl⟩
theorem cM.wk{P:Program}{β:Nat->Option cA}{w:World}{I:Nat->Prop}:∀(r:List AV)(c:Array Value)(aa:Nat),cM P β w I r c aa->cM P β w I (r.map Gb.wk) c aa
 |[],_,_,_=>trivial
 |_::xs,c,aa,⟨⟨v,h1,h2,h3⟩,h4⟩=>⟨⟨v,h1,h2.wk,h3⟩,cM.wk xs c (aa+1) h4⟩
theorem br.wk{P:Program}{β:Nat->Option cA}{w:World}{I:Nat->Prop}:∀(rs:List (List AV))(c:Array Value)(aa sz:Nat),br P β w I rs c aa sz->br P β w I (dM rs) c aa sz
 |[],_,_,_,_=>trivial
 |r::rs,c,aa,sz,⟨h1,h2,h3⟩=>⟨by simpa using h1,cM.wk r c aa h2,br.wk rs c (aa+sz) sz h3⟩
theorem cM.mono{P:Program}{β β':Nat->Option cA}{w w':World}{I I':Nat->Prop}(hb:∀k B,β k=some B->β' k=some B)(hs:Same I w w')(hi:∀b,I b->I' b):∀(r:List AV)(c:Array Value)(aa:Nat),cM P β w I r c aa->cM P β' w' I' r c aa
 |[],_,_,_=>trivial
 |x::xs,c,aa,⟨⟨v,h1,h2,h3⟩,h4⟩=>⟨⟨v,h1,VR.mono hb hs hi x v h2,h3⟩,cM.mono hb hs hi xs c (aa+1) h4⟩
theorem br.mono{P:Program}{β β':Nat->Option cA}{w w':World}{I I':Nat->Prop}(hb:∀k B,β k=some B->β' k=some B)(hs:Same I w w')(hi:∀b,I b->I' b):∀(rs:List (List AV))(c:Array Value)(aa sz:Nat),br P β w I rs c aa sz->br P β' w' I' rs c aa sz
 |[],_,_,_,_=>trivial
 |r::rs,c,aa,sz,⟨h1,h2,h3⟩=>⟨h1,cM.mono hb hs hi r c aa h2,br.mono hb hs hi rs c (aa+sz) sz h3⟩
theorem be.wk{P:Program}{β:Nat->Option cA}{w:World}{I:Nat->Prop}:∀(r:List AV)(vs:List Value),be P β w I r vs->be P β w I (r.map Gb.wk) vs
 |[],[],_=>by simp[be]
 |x::xs,v::vs,h=>by simp only[be]at h;simp only[aF,be];exact⟨h.1.wk,be.wk xs vs h.2⟩
 |[],_::_,h=>by simp[be]at h
 |_::_,[],h=>by simp[be]at h
theorem ct.mono{P:Program}{β β':Nat->Option cA}{w w':World}{I I':Nat->Prop}(hb:∀k B,β k=some B->β' k=some B)(hs:Same I w w')(hi:∀b,I b->I' b):∀(rs:List (List AV))(es:List MapEntry),ct P β w I rs es->ct P β' w' I' rs es
 |[],[],_=>trivial
 |r::rs,_::es,⟨h1,h4⟩=>⟨be.mono hb hs hi r _ h1,ct.mono hb hs hi rs es h4⟩
 |[],_::_,h=>h.elim
 |_::_,[],h=>h.elim
theorem ct.wk{P:Program}{β:Nat->Option cA}{w:World}{I:Nat->Prop}:∀(rs:List (List AV))(es:List MapEntry),ct P β w I rs es->ct P β w I (dM rs) es
 |[],[],_=>trivial
 |r::rs,_::es,⟨h1,h4⟩=>⟨be.wk r _ h1,ct.wk rs es h4⟩
 |[],_::_,h=>h.elim
 |_::_,[],h=>h.elim
structure js where
 own:Nat->Prop
 C2:Nat->Prop
 anc:Nat->Option cA:=λ_=>none
 lt:∀j B,anc j=some B->j<1000:=by intro j B h;cases h
structure Mem(P:Program)(w0:World)(O0:js)(β:Nat->Option cA)(I:Nat->Prop)(obj:Nat->Option aS)(w:World):Prop where
 cE:∀k o,obj k=some o->∃B,β k=some B/\OR P β w I o B
 fY:∀k k' o o' B B' b,obj k=some o->obj k'=some o'->β k=some B->β k'=some B'->B.num=some b->B'.num=some b->k=k'
 ownB:∀k o B b,obj k=some o->β k=some B->B.num=some b->¬I b/\b<w.heap.size/\(O0.own b\/w0.heap.size<=b)
 lt:∀b,I b->b<w.heap.size
 up:∀b,I b->O0.C2 b\/O0.own b\/w0.heap.size<=b
 keep:∀b,b<w0.heap.size->¬O0.own b->w.heap[b]? =w0.heap[b]?
 le:w0.heap.size<=w.heap.size
 os:w.os=w0.os
 tape:w.tape=w0.tape
 output:w.output=w0.output
 anch:∀j B,O0.anc j=some B->β j=some B
 vars:jt w I
section
variable {P:Program} {w0:World} {O0:js} {β:Nat->Option cA} {I:Nat->Prop} {obj:Nat->Option aS} {w:World}
theorem Mem.inj(h:Mem P w0 O0 β I obj w):∀k k' o o' b s n s' n',obj k=some o->obj k'=some o'->β k=some (.at b s n)->β k'=some (.at b s' n')->k=k':=
 λk k' o o' b _ _ _ _ h1 h2 h3 h4=>h.fY k k' o o' _ _ b h1 h2 h3 h4 rfl rfl
theorem Mem.own(h:Mem P w0 O0 β I obj w):∀k o b s n,obj k=some o->β k=some (.at b s n)->¬I b/\b<w.heap.size/\(O0.own b\/w0.heap.size<=b):=
 λk o b _ _ h1 h2=>h.ownB k o _ b h1 h2 rfl
end
def fX(β:Nat->Option cA)(k b:Nat):Prop:=∃B,β k=some B/\B.num=some b
theorem fX.at{β:Nat->Option cA}{k b s:Nat}{n:Ex}(h:β k=some (.at b s n)):fX β k b:=⟨_,h,rfl⟩
section
variable {P:Program} {w0:World} {O0:js} {β:Nat->Option cA} {I:Nat->Prop} {obj:Nat->Option aS} {w:World}
theorem Mem.lE(h:Mem P w0 O0 β I obj w):∀k k' o o' b,obj k=some o->obj k'=some o'->fX β k b->fX β k' b->k=k':=
 λk k' o o' b h1 h2 ⟨B,h3,h5⟩ ⟨B',h4,h6⟩=>h.fY k k' o o' B B' b h1 h2 h3 h4 h5 h6
theorem Mem.ip(h:Mem P w0 O0 β I obj w):∀k o b,obj k=some o->fX β k b->¬I b/\b<w.heap.size/\(O0.own b\/w0.heap.size<=b):=
 λk o b h1 ⟨B,h2,h3⟩=>h.ownB k o B b h1 h2 h3
end
def bR(obj:Nat->Option aS):List (Nat×Option aS)->Nat->Option aS
 |[],k=>obj k
 |(j,o)::r,k=>if k=j then o else bR obj r k
def gC(i k:Nat):Prop:=k=i\/(1000000<=i/\1000000<=k/\(k -1000000)/64=(i -1000000)/64)
theorem gC.ne{i k:Nat}(h:¬gC i k):k≠i:=λe=>h (.inl e)
structure Step(β:Nat->Option cA)(I:Nat->Prop)(w:World)(i:Nat)(β':Nat->Option cA)(I':Nat->Prop)(w':World):Prop where
 other:∀k,¬gC i k->β' k=β k
 ext:∀k B,β k=some B->β' k=some B
 same:Same I w w'
 inc:∀b,I b->I' b
theorem Step.refl(β:Nat->Option cA)(I:Nat->Prop)(w:World)(i:Nat):Step β I w i β I w:=⟨λ _ _=>rfl,λ_ _ h=>h,λ_ _=>rfl,λ_ h=>h⟩
theorem o9{w:World}{o:Obj}{b:Nat}(h:b<w.heap.size):(w.alloc o).heap[b]? =w.heap[b]? :=by grind [World.alloc]
theorem Same.alloc{I:Nat->Prop}{w:World}(h:∀b,I b->b<w.heap.size)(o:Obj):Same I w (w.alloc o):=λb hb=>o9 (h b hb)
def ins(β:Nat->Option cA)(i:Nat)(B:cA):Nat->Option cA:=λk=>if k=i then some B else β k
theorem lZ{β:Nat->Option cA}{i:Nat}{B:cA}(h:β i=none):∀k C,β k=some C->ins β i B k=some C:=by grind [ins]
theorem iW{P:Program}{β:Nat->Option cA}{w:World}{I:Nat->Prop}:∀(r:List AV)(c:Array Value)(aa:Nat),cM P β w I r c aa↔∀j x,r[j]? =some x->∃v,c[aa+j]? =some v/\VR P β w I x v/\oneCell v
 |[],c,aa=>by simp[cM]
 |x::xs,c,aa=>by
  simp only[cM,iW xs c (aa+1)];constructor
  ·grind
  ·intro h;refine⟨by simpa using h 0 x rfl,λj y hj=>?_⟩;obtain⟨v,hv⟩:=h (j+1) y (by simpa using hj);exact⟨v,by rw[show aa+1+j=aa+(j+1)by omega];exact hv.1,hv.2⟩
theorem mX{P:Program}{β:Nat->Option cA}{w:World}{I:Nat->Prop}:∀(rs:List (List AV))(c:Array Value)(aa sz:Nat),br P β w I rs c aa sz↔∀i r,rs[i]? =some r->r.length=sz/\cM P β w I r c (aa+i*sz)
 |[],c,aa,sz=>by simp[br]
 |r::rs,c,aa,sz=>by
  simp only[br,mX rs c (aa+sz) sz];constructor
  ·rintro⟨h1,h2,h3⟩ i r' hi;cases i with
   |zero=>simp at hi;subst hi;exact⟨h1,by simpa using h2⟩
   |succ i=>have:=h3 i r' (by simpa using hi);rw[show aa+(i+1)*sz=aa+sz+i*sz by rw[Nat.add_mul];omega];exact this
  ·intro h;have h0:=h 0 r rfl;refine⟨h0.1,by simpa using h0.2,λi r' hi=>?_⟩;have:=h (i+1) r' (by simpa using hi);rw[show aa+sz+i*sz=aa+(i+1)*sz by rw[Nat.add_mul];omega];exact this
section
variable {P:Program} {w0:World} {O0:js} {β:Nat->Option cA} {I:Nat->Prop} {obj:Nat->Option aS} {w:World}
theorem OR.mono{β':Nat->Option cA}{I':Nat->Prop}{w':World}{o:aS}{B:cA}(hb:∀k B,β k=some B->β' k=some B)(hs:Same I w w')(hi:∀b,I b->I' b)
 (hB:∀b,B.num=some b->w'.heap[b]? =w.heap[b]?) (h:OR P β w I o B):OR P β' w' I' o B:=by
 cases B with
 |none=>exact h
 | «at» b s n=>
  obtain⟨h1,c,e,h2,h3,h4⟩:=h;exact⟨h1,c,e,(hB b rfl).trans h2,h3,br.mono hb hs hi _ _ _ _ h4⟩
 |mp b=>
  obtain⟨es,cl,h1,hle,h2,h3⟩:=h;exact⟨es,cl,(hB b rfl).trans h1,hle,λe=>ct.mono hb hs hi _ _ (h2 e),h3⟩
theorem Mem.alloc{i:Nat}{o:aS}{c:Array Value}{e:TypeId}(h:Mem P w0 O0 β I obj w)(hn:β i=none)
 (hr:br P β w I o.rows c 0 o.sz):
 Step β I w i (ins β i (.at w.heap.size o.sz (uk c.size))) I (w.alloc (.cells c e))/\
 Mem P w0 O0 (ins β i (.at w.heap.size o.sz (uk c.size))) I (bR obj [(i,some o)]) (w.alloc (.cells c e)):=by
 have hS:Step β I w i (ins β i (.at w.heap.size o.sz (uk c.size))) I (w.alloc (.cells c e)):=
  ⟨λ k hk=>by simp[ins,gC.ne hk],lZ hn,Same.alloc h.lt _,λ_ h=>h⟩
 refine⟨hS,?_⟩;have hne:∀k o',obj k=some o'->k≠i:=λk o' hk e=>by
  have⟨B,hB,_⟩:=h.cE k o' hk;rw[e,hn]at hB;cases hB
 constructor
 ·intro k o' hk;simp only[bR]at hk;split at hk
  ·cases hk;rename_i hki;refine⟨.at w.heap.size o.sz (uk c.size),by simp[ins,hki],rfl,c,e,?_,rfl,br.mono hS.ext hS.same hS.inc _ _ _ _ hr⟩;exact heap_alloc_new w _
  ·have⟨B,hB,hO⟩:=h.cE k o' hk;exact⟨B,lZ hn _ _ hB,OR.mono hS.ext hS.same hS.inc (λ b hb=>o9 (h.ownB k o' B b hk hB hb).2.1) hO⟩
 ·intro k k' o1 o2 B B' b h1 h2 h3 h4 h5 h6;simp only[bR]at h1 h2;simp only[ins]at h3 h4;split at h1<;>split at h2
  ·rename_i a b;rw[a,b]
  ·rename_i hki nq;simp only[hki,if_true,ay]at h3;simp only[nq,if_false]at h4;subst h3;injection h5 with h5;have:=(h.ownB k' o2 B' b h2 h4 h6).2.1;omega
  ·rename_i hki nq;simp only[nq,if_true,ay]at h4;simp only[hki,if_false]at h3;subst h4;injection h6 with h6;have:=(h.ownB k o1 B b h1 h3 h5).2.1;omega
  ·rename_i hki nq;simp only[hki,nq,if_false]at h3 h4;exact h.fY k k' o1 o2 B B' b h1 h2 h3 h4 h5 h6
 ·intro k o' B b h1 h2 h3;simp only[bR]at h1;simp only[ins]at h2;split at h1
  ·rename_i hki;simp only[hki,if_true,ay]at h2;subst h2;injection h3 with h3;refine⟨λ hI=>?_,?_,.inr ?_⟩
   ·have:=h.lt b hI;omega
   ·simp;omega
   ·have:=h.le;omega
  ·rename_i hki;simp only[hki,if_false]at h2;have⟨a,b',c'⟩:=h.ownB k o' B b h1 h2 h3;exact⟨a,by simp;omega,c'⟩
 ·intro b hb;have:=h.lt b hb;simp;omega
 ·exact h.up
 ·intro b hb hO;rw[o9 (by have:=h.le;omega)];exact h.keep b hb hO
 ·have:=h.le;simp;omega
 ·exact h.os
 ·exact h.tape
 ·exact h.output
 ·intro j B hj;exact lZ hn _ _ (h.anch j B hj)
 ·exact h.vars.mono (Same.alloc h.lt _) (λ _ h=>h)
theorem Mem.write{k:Nat}{o o':aS}{b s:Nat}{n:Ex}{c':Array Value}{e:TypeId}{w':World}(h:Mem P w0 O0 β I obj w)(hk:obj k=some o)(hβ:β k=some (.at b s n))
 (hnew:w'.heap[b]? =some (.cells c' e (0,0))) (hother:∀b',b'≠b->w'.heap[b']? =w.heap[b']?) (hsize:w'.heap.size=w.heap.size) (hos:w'.os=w.os) (th:w'.tape=w.tape) (hout:w'.output=w.output)
 (hsz:s=o'.sz) (hn:c'.size=n.m) (hr:br P β w I o'.rows c' n.s o'.sz):
 Same I w w'/\Mem P w0 O0 β I (bR obj [(k,some o')]) w':=by
 have⟨J1,hlt,hO⟩:=h.own k o b s n hk hβ;have hs:Same I w w':=λb' hb=>hother b' (λ e=>J1 (e ▸ hb));refine⟨hs,?_⟩;constructor
 ·intro j oj hj;simp only[bR]at hj;split at hj
  ·rename_i hjk;cases hj;refine⟨.at b s n,by rw[hjk];exact hβ,hsz,c',e,?_,hn,hsz ▸ br.mono (λ _ _ h=>h) hs (λ _ h=>h) _ _ _ _ hr⟩;exact hnew
  ·rename_i hjk;have⟨B,hB,qr⟩:=h.cE j oj hj;refine⟨B,hB,OR.mono (λ _ _ h=>h) hs (λ _ h=>h) (λ b1 e1=>hother b1 (λ e2=>hjk ?_)) qr⟩;subst e2;exact h.fY j k oj o B _ b1 hj hk hB hβ e1 rfl
 ·intro j j' o1 o2 B1 B2 b1 h1 h2 h3 h4 h5 h6;have hx:∀(j:Nat)(o1:aS),bR obj [(k,some o')] j=some o1->∃o2,obj j=some o2:=λj o1 h=>by
   simp only[bR]at h;split at h
   ·rename_i e;exact⟨o,by rw[e];exact hk⟩
   ·exact⟨_,h⟩
  have⟨p1,q1⟩:=hx j o1 h1;have⟨p2,q2⟩:=hx j' o2 h2;exact h.fY j j' p1 p2 B1 B2 b1 q1 q2 h3 h4 h5 h6
 ·intro j o1 B1 b1 h1 h2 h3;have hx:∃o2,obj j=some o2:=by
   simp only[bR]at h1;split at h1
   ·rename_i e;exact⟨o,by rw[e];exact hk⟩
   ·exact⟨_,h1⟩
  obtain⟨p1,q1⟩:=hx;have:=h.ownB j p1 B1 b1 q1 h2 h3;rw[hsize];exact this
 ·intro b1 hb1;rw[hsize];exact h.lt b1 hb1
 ·exact h.up
 ·intro b1 hb1 hno;rw[hother b1 (λ e1=>?_)]
  ·exact h.keep b1 hb1 hno
  ·subst e1;rcases hO with hO |hO
   ·exact hno hO
   ·omega
 ·rw[hsize];exact h.le
 ·rw[hos];exact h.os
 ·rw[th];exact h.tape
 ·rw[hout];exact h.output
 ·exact h.anch
 ·exact h.vars.mono hs (λ _ h=>h)
theorem Mem.drop(h:Mem P w0 O0 β I obj w)(mz:Nat->Option aS)(hsub:∀k o,mz k=some o->obj k=some o):Mem P w0 O0 β I mz w:=
 ⟨λ k o hk=>h.cE k o (hsub k o hk),λk k' o o' B B' b h1 h2=>h.fY k k' o o' B B' b (hsub _ _ h1) (hsub _ _ h2),λk o B b h1=>h.ownB k o B b (hsub _ _ h1),h.lt,h.up,h.keep,h.le,h.os,h.tape,h.output,h.anch,h.vars⟩
theorem Mem.below{w':World}{I':Nat->Prop}(h:Mem P w0 O0 β I obj w)(hb:Below w.heap.size w w')(hi:∀b,I b->I' b)(hlt:∀b,I' b->b<w'.heap.size)(hI:∀b k o B,I' b->obj k=some o->β k=some B->B.num=some b->False)(hup:∀b,I' b->O0.C2 b\/O0.own b\/w0.heap.size<=b):
 Same I w w'/\Mem P w0 O0 β I' obj w':=by
 have hs:Same I w w':=λb hb'=>hb.block b (h.lt b hb');refine⟨hs,?_⟩;constructor
 ·intro k o hk;have⟨B,hB,hO⟩:=h.cE k o hk;exact⟨B,hB,OR.mono (λ _ _ h=>h) hs hi (λ b e=>hb.block b (h.ownB k o B b hk hB e).2.1) hO⟩
 ·exact h.fY
 ·intro k o B b h1 h2 h3;have⟨a,b',c⟩:=h.ownB k o B b h1 h2 h3;exact⟨λ hb2=>hI b k o B hb2 h1 h2 h3,Nat.lt_of_lt_of_le b' hb.size,c⟩
 ·exact hlt
 ·exact hup
 ·intro b hb1 hno;rw[hb.block b (by have:=h.le;omega)];exact h.keep b hb1 hno
 ·have:=h.le;have:=hb.size;omega
 ·rw[hb.os];exact h.os
 ·rw[hb.tape];exact h.tape
 ·rw[hb.output];exact h.output
 ·exact h.anch
 ·exact h.vars.mono hs hi
theorem Mem.weak{mz:Nat->Option aS}(h:Mem P w0 O0 β I obj w)(ho:∀k o',mz k=some o'->∃o,obj k=some o/\∀B,β k=some B->OR P β w I o B->OR P β w I o' B):Mem P w0 O0 β I mz w:=by
 constructor
 ·intro k o' hk;have⟨o,h1,h2⟩:=ho k o' hk;have⟨B,hB,hO⟩:=h.cE k o h1;exact⟨B,hB,h2 B hB hO⟩
 ·intro k k' o o' B B' b h1 h2;have⟨q,g1,_⟩:=ho k o h1;have⟨q',g2,_⟩:=ho k' o' h2;exact h.fY k k' q q' B B' b g1 g2
 ·intro k o B b h1;have⟨q,g1,_⟩:=ho k o h1;exact h.ownB k q B b g1
 ·exact h.lt
 ·exact h.up
 ·exact h.keep
 ·exact h.le
 ·exact h.os
 ·exact h.tape
 ·exact h.output
 ·exact h.anch
 ·exact h.vars
theorem OR.wk{o:aS}{B:cA}(h:OR P β w I o B):OR P β w I ⟨o.sz,dM o.rows⟩ B:=by
 cases B with
 |none=>simp only[OR]at h ⊢;simp[dM,h]
 | «at» b s n=>
  obtain⟨h1,c,e,h2,h3,h4⟩:=h;exact⟨h1,c,e,h2,h3,br.wk _ _ _ _ h4⟩
 |mp b=>
  obtain⟨es,cl,h1,hle,h2,h3⟩:=h;exact⟨es,cl,h1,by simpa[dM]using hle,λe=>ct.wk _ _ (h2 (by simpa[dM]using e)),h3⟩
theorem Mem.tG{k:Nat}{sz:Nat}{rows:List (List AV)}(h:Mem P w0 O0 β I (bR obj [(k,some ⟨sz,rows⟩)]) w):Mem P w0 O0 β I (bR obj [(k,some ⟨sz,dM rows⟩)]) w:=by
 refine h.weak λj o' hj=>?_;simp only[bR]at hj ⊢;by_cases e:j=k
 ·rw[bn e]at hj ⊢;cases hj;exact⟨_,rfl,λB _ hB=>OR.wk hB⟩
 ·rw[bf e]at hj ⊢;exact⟨o',hj,λ_ _ h=>h⟩
theorem Mem.drew(h:Mem P w0 O0 β I obj w):Mem P w0 O0 β I obj w.drew:=by
 have hb:Below w.heap.size w w.drew:=⟨rfl,rfl,rfl,aB _,λ_ _=>rfl⟩;exact(h.below hb (λ _ h=>h) h.lt (λ b k o B h1 h2 h3 h4=>(h.ownB k o B b h2 h3 h4).1 h1) h.up).2
end
def ly:Nat->Option cA:=λ_=>none
def TV.av:TV->AV
 | .s x=> .t x
 | .a cs=> .agg (cs.map .t)
inductive RC where
 |d (x:TV)
 |fresh (sz:Nat) (rows:List (List Tree))
 |whole (j len:Nat)
inductive RV where
 |one (c:RC)
 |eE (cs:List RC)
def aG(rows:List (List Tree)):List (List AV):=rows.map λr=>r.map AV.t
def Xg(P:Program)(F:Nat->Prop)(sz:Nat)(rows:List (List Tree))(w:World)(I:Nat->Prop)(v:Value):Prop:=
 (rows=[]/\v= .slice none 0 0)\/∃b c e cap o s,v= .slice (some ⟨b,o,none⟩) rows.length cap/\F b/\¬I b/\w.heap[b]? =some (.cells c e (0,0))/\rows.length<=cap/\s+cap*sz<=c.size/\
  br P ly w I (aG rows) c s sz/\(cap≠0->o=s)
def ut(P:Program)(F:Nat->Prop)(β:Nat->Option cA):RC->World->(Nat->Prop)->Value->Prop
 | .d x,w,I,v=>rj w I x v
 | .fresh sz rows,w,I,v=>Xg P F sz rows w I v
 | .whole j len,w,I,v=>VR P β w I (.own j 0 len) v
def OJ(P:Program)(F:Nat->Prop)(β:Nat->Option cA):List RC->World->(Nat->Prop)->List Value->Prop
 |[],_,_,[]=>True
 |c::cs,w,I,v::vs=>ut P F β c w I v/\OJ P F β cs w I vs
 |_,_,_,_=>False
def pH(P:Program)(F:Nat->Prop)(β:Nat->Option cA):RV->World->(Nat->Prop)->Value->Prop
 | .one c,w,I,v=>ut P F β c w I v
 | .eE cs,w,I,v=>∃vs:Array Value,v= .tuple vs/\OJ P F β cs w I vs.toList
def Hi(w:World)(b:Nat):Prop:=w.heap.size<=b
def eT(P : Program)(f : FuncId): Prop := ∃ fn, P.funcs[f]? = some fn /\ fn.body.isSome = true /\ (fn.name == "runtime.NumGoroutine") = false
def rm(P:Program)(f:FuncId)(args:List AV)(r:RV):Prop:=
 eT P f/\∀(w:World)(I:Nat->Prop)(vs:Array Value),(∀ b,I b->b<w.heap.size)->jt w I->be P ly w I args vs.toList->Calls P f vs w (ZZ w I (pH P (Hi w) ly r))
mutual
def eV(P:Program)(get:Nat->Option aS):AV->AV->Prop
 | .t x,y=>y= .t x
 | .agg cs,y=>∃cs',y= .agg cs'/\en P get cs cs'
 | .eE _,_=>False
 | .own k aa len,y=>∃o c8,get k=some o/\y= .t (.sl c8)/\(o.rows.drop aa).take len=aG c8/\c8.length=len
 | .ptr k row aa,y=>∃o qv,get k=some o/\y= .ef qv aa/\o.rows[row]? =some (qv.map AV.t)
 | .ef r o,y=>y= .ef r o
 | .fn f first caps,y=>∃first' mm,en P get first first'/\en P get caps mm/\(y= .fn f first' mm\/
  ∃ φ,y= .du φ/\first'=[]/\eT P f/\∀args r,φ args r->rm P f (first'++args.map TV.av++mm) (.one (.d r)))
 | .du φ,y=>y= .du φ
 | .mp _,_=>False
 | .oz k len,y=>∃o c8,get k=some o/\y= .t (.sl c8)/\(o.rows.drop 0).take len=aG c8/\c8.length=len
 | .cL,y=>y= .t (.sl [])\/y= .cL
 | .ub,_=>False
 | .undef,_=>False
def en(P:Program)(get:Nat->Option aS):List AV->List AV->Prop
 |[],[]=>True
 |x::xs,y::ys=>eV P get x y/\en P get xs ys
 |_,_=>False
end
mutual
def refs:AV->List Nat
 | .own k _ _=>[k]
 | .ptr k _ _=>[k]
 | .mp k=>[k]
 | .oz k _=>[k]
 | .agg cs=>dU cs
 | .eE cs=>dU cs
 | .fn _ first caps=>dU first++dU caps
 |_=>[]
def dU:List AV->List Nat
 |[]=>[]
 |x::xs=>refs x++dU xs
end
def eI(β:Nat->Option cA)(obj:Nat->Option aS)(ae:List Nat)(I:Nat->Prop)(b:Nat):Prop:=
 I b\/∃k o s n,k∈ae/\obj k=some o/\β k=some (.at b s n)
theorem eI.sub{β:Nat->Option cA}{obj:Nat->Option aS}{ae C3:List Nat}{I:Nat->Prop}(h:∀k,k∈ae->k∈C3):∀b,eI β obj ae I b->eI β obj C3 I b:=by
 intro b hb;rcases hb with hb |⟨k,o,s,n,h1,h2⟩
 ·exact .inl hb
 ·exact .inr ⟨k,o,s,n,h k h1,h2⟩
section
variable {P:Program} {β:Nat->Option cA} {w:World} {I:Nat->Prop}
theorem cM.drop:∀(n:Nat)(r:List AV)(c:Array Value)(aa:Nat),cM P β w I r c aa->cM P β w I (r.drop n) c (aa+n)
 | 0,_,_,_,h=>by simpa using h
 |n+1,[],_,_,_=>by simp[cM]
 |n+1,x::xs,c,aa,⟨_,h⟩=>by
  have:=cM.drop n xs c (aa+1) h;rw[List.drop_succ_cons,show aa+(n+1)=aa+1+n by omega];exact this
theorem cM.take:∀(n:Nat)(r:List AV)(c:Array Value)(aa:Nat),cM P β w I r c aa->cM P β w I (r.take n) c aa
 | 0,_,_,_,_=>by simp[cM]
 |n+1,[],_,_,_=>by simp[cM]
 |n+1,x::xs,c,aa,⟨h1,h⟩=>⟨h1,cM.take n xs c (aa+1) h⟩
theorem br.drop:∀(n:Nat)(rs:List (List AV))(c:Array Value)(aa sz:Nat),br P β w I rs c aa sz->br P β w I (rs.drop n) c (aa+n*sz) sz
 | 0,_,_,_,_,h=>by simpa using h
 |n+1,[],_,_,_,_=>by simp[br]
 |n+1,r::rs,c,aa,sz,⟨_,_,h⟩=>by
  have:=br.drop n rs c (aa+sz) sz h;rw[List.drop_succ_cons,show aa+(n+1)*sz=aa+sz+n*sz by rw[Nat.add_mul];omega];exact this
theorem br.take:∀(n:Nat)(rs:List (List AV))(c:Array Value)(aa sz:Nat),br P β w I rs c aa sz->br P β w I (rs.take n) c aa sz
 | 0,_,_,_,_,_=>by simp[br]
 |n+1,[],_,_,_,_=>by simp[br]
 |n+1,r::rs,c,aa,sz,⟨h1,h2,h⟩=>⟨h1,h2,br.take n rs c (aa+sz) sz h⟩
theorem br.get:∀(i:Nat)(rs:List (List AV))(c:Array Value)(aa sz:Nat)(r:List AV),br P β w I rs c aa sz->rs[i]? =some r->r.length=sz/\cM P β w I r c (aa+i*sz)
 | 0,r::rs,c,aa,sz,r',⟨h1,h2,_⟩,h=>by simp at h;subst h;exact⟨h1,by simpa using h2⟩
 |i+1,r::rs,c,aa,sz,r',⟨_,_,h3⟩,h=>by
  have:=br.get i rs c (aa+sz) sz r' h3 (by simpa using h);rw[show aa+(i+1)*sz=aa+sz+i*sz by rw[Nat.add_mul];omega];exact this
 |_,[],_,_,_,_,_,h=>by simp at h
theorem dc.kA{I':Nat->Prop}{b:Nat}{c:Array Value}{e:TypeId}{f:Nat×Nat}(hI:∀b,I b->I' b)(hc:w.heap[b]? =some (.cells c e f)):∀(r:List Tree)(aa:Nat),cM P β w I (r.map AV.t) c aa->dc w I' r b aa
 |[],_,_=>by simp[dc]
 |x::xs,aa,⟨⟨v,h1,h2,_⟩,h3⟩=>by
  simp only[dc];refine⟨⟨v,?_,?_⟩,dc.kA hI hc xs (aa+1) h3⟩
  ·simp[World.cell?,hc,h1]
  ·simp only[VR]at h2;exact TR.mono (λ _ _=>rfl) hI x v h2
theorem cp.kA{I':Nat->Prop}{b:Nat}{c:Array Value}{e:TypeId}{f:Nat×Nat}(hI:∀b,I b->I' b)(hc:w.heap[b]? =some (.cells c e f)):∀(rs:List (List Tree))(aa sz:Nat),br P β w I (aG rs) c aa sz->cp w I' rs b aa sz
 |[],_,_,_=>by simp[cp]
 |r::rs,aa,sz,h=>by
  simp only[aG,aF,br]at h;simp only[cp];exact⟨by simpa using h.1,dc.kA hI hc r aa h.2.1,cp.kA hI hc rs (aa+sz) sz h.2.2⟩
theorem pC.CH{f:FuncId}{first caps:Array Value}{first' mm:List AV}{φ:List TV->TV->Prop}(h0:first'=[])(hcall:eT P f)(hgv:jt w I)(hf:be P ly w I first' first.toList)(hc:be P ly w I mm caps.toList)
 (h:∀args r,φ args r->rm P f (first'++args.map TV.av++mm) (.one (.d r))):pC P w I φ (.func (.func f) first caps):=by
 obtain⟨fn,h1,h2,h3⟩:=hcall;have h00:first=#[]:=by
  obtain⟨fs⟩:=first
  cases fs with
  |nil=>rfl
  |cons a b=>rw[h0]at hf;simp[be]at hf
 refine⟨f,first,caps,rfl,h00,λfn' hfn=>?_,by simp[h1],?_⟩
 ·rw[h1]at hfn;cases hfn;exact⟨h2,h3⟩
 ·intro w' I' args vs r hI hS hlt hφ ha;have happ:∀(a b:List AV)(u v:List Value),be P ly w' I' a u->be P ly w' I' b v->be P ly w' I' (a++b) (u++v):=by
   intro a
   induction a with
   |nil=>intro b u v h1 h2;cases u with
    |nil=>simpa using h2
    |cons=>simp[be]at h1
   |cons x xs ih=>intro b u v h1 h2;cases u with
    |nil=>simp[be]at h1
    |cons y ys=>simp only[be]at h1;simp only[cons_append,be];exact⟨h1.1,ih _ _ _ h1.2 h2⟩
  have hargs:∀(args:List TV)(vs:List Value),lL w' I' args vs->be P ly w' I' (args.map TV.av) vs:=by
   intro args
   induction args with
   |nil=>intro vs h;cases vs with
    |nil=>simp[be]
    |cons=>simp[lL]at h
   |cons x xs ih=>intro vs h;cases vs with
    |nil=>simp[lL]at h
    |cons y ys=>
     simp only[lL]at h;simp only[aF,be];refine⟨?_,ih ys h.2⟩;cases x with
     |s x=>simpa[TV.av,VR,rj]using h.1
     |a cs=>
      obtain⟨us,rfl,h5⟩:=h.1;simp only[TV.av,VR];refine⟨us,rfl,?_⟩;have:∀(cs:List Tree) (us:List Value),ek w' I' cs us->be P ly w' I' (cs.map AV.t) us:=by
       intro cs
       induction cs with
       |nil=>intro us h;cases us with
        |nil=>simp[be]
        |cons=>simp[ek]at h
       |cons x xs ih=>intro us h;cases us with
        |nil=>simp[ek]at h
        |cons y ys=>simp only[ek]at h;simp only[aF,be,VR];exact⟨h.1,ih _ h.2⟩
      exact this cs us.toList h5
  have hm:∀k B,ly k=some B->ly k=some B:=λ_ _ h=>h;have:=(h args r hφ).2 w' I' (first++vs++caps) hlt (hgv.mono hS hI) (by
   simp only[Array.toList_append];exact happ _ _ _ _ (happ _ _ _ _ (be.mono hm hS hI _ _ hf) (hargs _ _ ha)) (be.mono hm hS hI _ _ hc))
  exact this
variable {w0:World} {O0:js} {obj:Nat->Option aS}
theorem eV.lw(h:Mem P w0 O0 β I obj w)(ae:List Nat){k aa len:Nat}{y:AV}{v:Value}(hk:k∈ae)(hb:∃o c8,obj k=some o/\y= .t (.sl c8)/\(o.rows.drop aa).take len=aG c8/\c8.length=len)(hv:VR P β w I (.own k aa len) v):VR P ly w (eI β obj ae I) y v:=by
 obtain⟨o,c8,hget,rfl,hrows,hlen⟩:=hb;simp only[VR]at hv ⊢;simp only[TR];rcases hv with ⟨h1,rfl,h2,h3⟩ |⟨b,sz,n,cap,a,h1,rfl,h2,h3,h4⟩
 ·exact .inl ⟨eq_nil_of_length_eq_zero (by omega),none,0,rfl,λ_=>rfl⟩
 ·refine .inr ⟨b,a,cap,sz,by rw[hlen],by omega,.inr ⟨k,o,sz,n,hk,hget,h1⟩,?_⟩;by_cases h0:cap=0
  ·have:c8=[]:=eq_nil_of_length_eq_zero (by omega);subst this;simp[cp]
  ·rw[h4 h0];have⟨B,hB,hO⟩:=h.cE k o hget;rw[h1]at hB;cases hB;obtain⟨hs,c,e,hc,_,hO⟩:=hO;have h4:=br.take len _ _ _ _ (br.drop aa _ _ _ _ hO);rw[hrows]at h4;exact cp.kA (λ _ h=> .inl h) hc c8 _ _ h4
mutual
theorem eV.sound(h:Mem P w0 O0 β I obj w)(ae:List Nat):∀(x y:AV)(v:Value),(∀ k,k∈refs x->k∈ae)->eV P obj x y->VR P β w I x v->VR P ly w (eI β obj ae I) y v
 | .t x,y,v,_,hb,hv=>by
  simp only[eV]at hb;subst hb;simp only[VR]at hv ⊢;exact TR.mono (λ _ _=>rfl) (λ _ h=> .inl h) x v hv
 | .agg cs,y,v,hk,hb,hv=>by
  simp only[eV]at hb;obtain⟨cs',rfl,hb⟩:=hb;simp only[VR]at hv ⊢;obtain⟨vs,rfl,hv⟩:=hv;exact⟨vs,rfl,en.sound h ae cs cs' vs.toList (by simpa[refs]using hk) hb hv⟩
 | .eE _,_,_,_,hb,_=>by simp[eV]at hb
 | .oz k len,y,v,hk,hb,hv=>by
  rcases hv.te with ⟨rfl,rfl⟩ |⟨_,hv⟩
  ·simp only[eV]at hb;obtain⟨o,c8,hget,rfl,hrows,hlen⟩:=hb;simp only[VR,TR];exact .inl ⟨eq_nil_of_length_eq_zero hlen,none,0,rfl,λ_=>rfl⟩
  ·exact eV.lw h ae (hk k (by simp[refs])) (by simpa only[eV]using hb) hv
 | .own k aa len,y,v,hk,hb,hv=>eV.lw h ae (hk k (by simp[refs])) (by simpa only[eV]using hb) hv
 | .ptr k row aa,y,v,hk,hb,hv=>by
  simp only[eV]at hb;obtain⟨o,qv,hget,rfl,hrow⟩:=hb;simp only[VR]at hv ⊢;obtain⟨b,sz,n,h1,rfl⟩:=hv;have⟨B,hB,hO⟩:=h.cE k o hget;rw[h1]at hB;cases hB;obtain⟨hs,c,e,hc,_,hO⟩:=hO;have h4:=(br.get row _ _ _ _ _ hO hrow).2;exact⟨b,n.s+row*sz,rfl,.inr ⟨k,o,sz,n,hk k (by simp[refs]),hget,h1⟩,dc.kA (λ _ h=> .inl h) hc qv _ h4⟩
 | .ef r o,y,v,_,hb,hv=>by
  simp only[eV]at hb;subst hb;simp only[VR]at hv ⊢;obtain⟨b,o',h1,h2,h3⟩:=hv;exact⟨b,o',h1,.inl h2,dc.mono (λ _ _=>rfl) (λ _ h=> .inl h) r b o' h2 h3⟩
 | .fn f first caps,y,v,hk,hb,hv=>by
  simp only[eV]at hb;obtain⟨first',mm,hb1,hb2,hy⟩:=hb;simp only[VR]at hv;obtain⟨fs,cs,rfl,hv1,hv2⟩:=hv;have h1:=en.sound h ae first first' fs.toList (λ k hk'=>hk k (by simp[refs,hk'])) hb1 hv1
  have h2:=en.sound h ae caps mm cs.toList (λ k hk'=>hk k (by simp[refs,hk'])) hb2 hv2;rcases hy with rfl |⟨φ,rfl,h0,hc,hφ⟩
  ·simp only[VR];exact⟨fs,cs,rfl,h1,h2⟩
  ·simp only[VR];exact pC.CH h0 hc (h.vars.mono (λ _ _=>rfl) (λ _ h=> .inl h)) h1 h2 hφ
 | .du φ,y,v,_,hb,hv=>by
  simp only[eV]at hb;subst hb;simp only[VR]at hv ⊢;exact pC.mono (λ _ _=>rfl) (λ _ h=> .inl h) hv
 | .cL,y,v,_,hb,hv=>by
  simp only[eV]at hb;rcases hb with rfl |rfl
  ·simp only[VR]at hv ⊢;simp only[TR];exact .inl ⟨trivial,none,0,hv,λ_=>rfl⟩
  ·simpa only[VR]using hv
 | .ub,_,_,_,hb,_=>by simp[eV]at hb
 | .undef,_,_,_,hb,_=>by simp[eV]at hb
theorem en.sound(h:Mem P w0 O0 β I obj w)(ae:List Nat):∀(xs ys:List AV)(vs:List Value),(∀ k,k∈dU xs->k∈ae)->en P obj xs ys->be P β w I xs vs->be P ly w (eI β obj ae I) ys vs
 |[],[],[],_,_,_=>by simp[be]
 |x::xs,y::ys,v::vs,hk,hb,hv=>by
  simp only[en]at hb;simp only[be]at hv ⊢;exact⟨eV.sound h ae x y v (λ k hk'=>hk k (by simp[dU,hk'])) hb.1 hv.1,en.sound h ae xs ys vs (λ k hk'=>hk k (by simp[dU,hk'])) hb.2 hv.2⟩
 |[],_::_,_,_,hb,_=>by simp[en]at hb
 |_::_,[],_,_,hb,_=>by simp[en]at hb
 |[],[],_::_,_,_,hv=>by simp[be]at hv
 |_::_,_::_,[],_,_,hv=>by simp[be]at hv
end
end
inductive wd where
 |slice (e:TypeId)
 |arr (n:Nat) (e:TypeId)
 |struct (fs:List (Nat×TypeId))
 |bool
 |str
 |int (k:IntKind)
 |map (k e:TypeId)
 |other
structure oc where
 size:Nat
 bytes:Nat
 agg:Bool
 zero:List Value
 k:wd
 cmp:List Nat
abbrev ea:=Nat->Option oc
def Ix:wd->TypeDesc->Prop
 | .slice e,d=>d= .slice e
 | .arr n e,d=>d= .array n e
 | .struct fs,d=>∃fa:Array Field,d= .struct fa/\fa.toList.map (λ f=>(f.offset,f.type))=fs
 | .bool,d=>d= .bool
 | .str,d=>d= .string
 | .int k,d=>d= .int k
 | .map k e,d=>d= .map k e
 | .other,_=>True
def ra:TypeDesc->Bool
 | .struct _ | .array _ _=>true
 |_=>false
def i9:Value->Bool
 | .agg _ | .tuple _=>false
 |_=>true
theorem qK{v:Value}(h:i9 v=true):oneCell v:=by cases v<;>first |exact trivial |(simp [i9]at h)
def Qw(P:Program)(f:Field)(kd:Nat):Bool:=
 (f.name != "_") && match P.underlying f.type with
  |some (.int _)=>kd==0
  |some .bool=>kd==1
  |some .string=>kd==2
  |_=>false
def fp(P:Program):Nat->List Field->List Nat->Bool
 |_,[],[]=>true
 |n,f::fs,k::ks=>f.offset==n&&Qw P f k&&fp P (n+1) fs ks
 |_,_,_=>false
def ro(agg:Bool):Value->Bool
 | .agg _=>agg
 | .tuple _=>false
 |_=>!agg
structure k5(P:Program)(t:TypeId)(ti:oc):Prop where
 ex:∃info d z,P.info? t=some info/\P.underlying t=some d/\info.size=ti.size/\info.bytes=ti.bytes/\info.zero=some z/\z.cells.toList=ti.zero/\ra d=ti.agg/\Ix ti.k d
 one:ti.zero.all i9=true
 len:ti.zero.length=ti.size
 form:∀info z,P.info? t=some info->info.zero=some z->ro ti.agg z=true
 cmp:ti.cmp≠[]->(∃ fa:Array Field,P.underlying t=some (.struct fa)/\P.stoodInHeld t=false/\P.eqGuardType P.depth t=false/\fp P 0 fa.toList ti.cmp=true)\/(ti.cmp=[9]/\P.eqGuardType P.depth t=false)
def eY(P:Program)(T:ea):Prop:=∀t ti,T t=some ti->k5 P t ti
def jJ:List Prop->Prop
 |[]=>True
 |[p]=>p
 |p::q::r=>p/\jJ (q::r)
structure Out where
 v:AV
 upd:List (Nat×Option aS)
 obs:List Prop
@[reducible] def Out.ob (o:Out):Prop:=jJ o.obs
def cy(i:Nat):Nat:=1000000+64*i
inductive LH where
 |rows (tr:List (List Tree))
 |row (tr:List Tree)
 |fn
 |du (φ:List TV->TV->Prop)
 |mut (j:Nat)
 |nil
 |emp
 |Sp
 |VC
 |V0
inductive OB where
 |dat (p:Nat×List (List Tree))
 |zt (hs:List (List LH))
inductive ij where
 |none
 |row (r:List AV)
 |set (r:List AV) (rs:List (List AV))
 |qv (r:List Tree)
 |num (n:Int)
 |rows (rs:List (List AV))
 |wj (rows:List (List Tree))
 |call (hs:List LH) (r:RV) (keep:Bool)
 |zv (hs:List LH) (args:List TV) (r:TV) (keep:Bool)
 |ext (n:Int)
 |ue (ae:List Nat) (fr:Operand->AV) (co:ij)
 |sk (ae:List Nat) (os:List (Nat×List (List Tree))) (os':List (Option (Nat×List (List Tree)))) (hs:List LH) (r:RV) (keep:Bool)
 |sm (ae cJ:List Nat) (bs:List OB) (hs:List LH) (os':List (Nat×aS)) (rv:AV) (keep:Bool)
def pv(v:AV):Option Out:=some ⟨v,[],[]⟩
def lv(v:AV)(ob:Prop):Option Out:=some ⟨v,[],[ob]⟩
def cv:Value->AV
 | .slice none 0 0=> .cL
 |v=>if i9 v then .t (.sc v)else .undef
def ky(env:Nat->AV):Operand->AV
 | .tmp t=>env t
 | .const v=>cv v
 | .global g=>match uc g with
  |some row=> .ef (row.map Tree.sc) 0
  |none=> .undef
 | .func f=> .fn f [] []
def nJ:AV->Bool
 | .agg _ | .eE _ | .undef=>false
 |_=>true
def cellsOf:AV->Option (List AV)
 | .agg cs=>if cs.all nJ then some cs else none
 | .eE _ | .undef=>none
 |x=>some [x]
def part'(agg:Bool)(size:Nat)(cs:List AV):Option AV:=
 if cs.length=size then(if agg then some (.agg cs)else match cs with |[x]=>if nJ x then some x else none |_=>none)else none
def put'(r:List AV)(aa:Nat)(cs:List AV):List AV:=r.take aa++cs++r.drop (aa+cs.length)
def Qx(op:BinOp)(k:IntKind)(a b:Int):Option (Value×List Prop):=
 match op with
 | .add=>some (.int k (k.wrap (a+b)),[])
 | .sub=>some (.int k (k.wrap (a -b)),[])
 | .mul=>some (.int k (k.wrap (a*b)),[])
 | .quo=>some (.int k (k.wrap (a.tdiv b)),[b≠0])
 | .rem=>some (.int k (a.tmod b),[b≠0])
 | .and=>some (.int k (bits .and k a b),[])
 | .or=>some (.int k (bits .or k a b),[])
 | .xor=>some (.int k (bits .xor k a b),[])
 | .andNot=>some (.int k (bits .andNot k a b),[])
 | .shl=>some (.int k (k.wrap (a*2 ^ b.toNat)),[0<=b/\b<=k.bits])
 | .shr=>some (.int k (a/2 ^ b.toNat),[0<=b/\b<=k.bits])
 | .eql=>some (.bool (a==b),[])
 | .neq=>some (.bool (a !=b),[])
 | .lss=>some (.bool (decide (a<b)),[])
 | .leq=>some (.bool (decide (a<=b)),[])
 | .gtr=>some (.bool (decide (a>b)),[])
 | .geq=>some (.bool (decide (a>=b)),[])
def Iw:Nat->AV->AV->Option Bool
 | 0,.t (.sc (.int j a)),.t (.sc (.int k b))=>if j=k then some (a==b)else none
 | 1,.t (.sc (.bool a)),.t (.sc (.bool b))=>some (a==b)
 | 2,.t (.sc (.string a)),.t (.sc (.string b))=>some (a.toList==b.toList)
 |_,_,_=>none
def qL:List Nat->List AV->List AV->Option Bool
 |[],[],[]=>some true
 |k::ks,x::xs,y::ys=>(Iw k x y).bind λa=>(qL ks xs ys).bind λb=>some (a&&b)
 |_,_,_=>none
theorem afY:∀xs ys:List AV,qL [9] xs ys=none:=by intro xs ys;cases xs<;>cases ys<;>simp[qL,Iw]
def UI(T:ea)(op:BinOp)(t:TypeId)(x y:AV):Option Out:=
 match x,y with
 | .t (.sc (.int k a)),.t (.sc (.int yk b))=>if k=yk\/op= .shl\/op= .shr then(Qx op k a b).bind λ(v,obs)=>some ⟨.t (.sc v),[],obs⟩else none
 | .t (.sc (.string a)),.t (.sc (.string b))=>match op with
  | .eql=>pv (.t (.sc (.bool (a.toList==b.toList))))
  | .neq=>pv (.t (.sc (.bool (!(a.toList==b.toList)))))
  | .lss=>pv (.t (.sc (.bool (Op.bytesLess a.toList b.toList))))
  | .gtr=>pv (.t (.sc (.bool (!(Op.bytesLess a.toList b.toList || a.toList==b.toList)))))
  | .add=>lv (.t (.sc (.string (a++b)))) (a.size+b.size<=maxLen)
  |_=>none
 | .t (.sc (.bool a)),.t (.sc (.bool b))=>(T t).bind λti=>match ti.k,op with
  | .bool,.eql=>pv (.t (.sc (.bool (a==b))))
  | .bool,.neq=>pv (.t (.sc (.bool (!(a==b)))))
  |_,_=>none
 | .agg xs,.agg ys=>(T t).bind λti=>if ti.cmp=[]then none else(qL ti.cmp xs ys).bind λb=>match op with
  | .eql=>pv (.t (.sc (.bool b)))
  | .neq=>pv (.t (.sc (.bool (!b))))
  |_=>none
 |_,_=>none
def HP(op:UnOp)(x:AV):Option Out:=
 match op,x with
 | .not,.t (.sc (.bool b))=>pv (.t (.sc (.bool (!b))))
 | .neg,.t (.sc (.int k n))=>pv (.t (.sc (.int k (k.wrap (0 -n)))))
 |_,_=>none
def Bu(mx:Bool)(k:IntKind):Int->List AV->Option Int
 |a,[]=>some a
 |a,.t (.sc (.int k' b))::r=>if k'=k then Bu mx k (if mx then max a b else min a b) r else none
 |_,_=>none
def B4(mx:Bool)(args:List AV):Option Out:=
 match args with
 | .t (.sc (.int k a))::r=>(Bu mx k a r).bind λn=>pv (.t (.sc (.int k n)))
 |_=>none
def HV(T:ea)(t:TypeId)(x:AV)(co:ij)(get:Nat->Option aS):Option Out:=
 (T t).bind λti=>match x with
 | .ptr k row aa=>(get k).bind λo=>match co with
  | .row r=>(part' ti.agg ti.size ((r.drop aa).take ti.size)).bind λv=>lv v (o.rows[row]? =some r)
  |_=>(o.rows[row]?).bind λr=>(part' ti.agg ti.size ((r.drop aa).take ti.size)).bind pv
 | .ef r aa=>(part' ti.agg ti.size (((r.drop aa).take ti.size).map AV.t)).bind pv
 |_=>none
def LF(T:ea)(t:TypeId)(x y:AV)(co:ij)(get:Nat->Option aS):Option Out:=
 (T t).bind λti=>(cellsOf y).bind λcs=>if cs.length=ti.size then match x with
 | .ptr k row aa=>(get k).bind λo=>match co with
  | .set r rs=>if aa+cs.length<=r.length then some ⟨.undef,[(k,some ⟨o.sz,rs⟩)],[o.rows[row]? =some r/\rs=dM (o.rows.set row (put' r aa cs))]⟩else none
  |_=>(o.rows[row]?).bind λr=>if aa+cs.length<=r.length then some ⟨.undef,[(k,some ⟨o.sz,o.rows.set row (put' r aa cs)⟩)],[]⟩else none
 |_=>none else none
def xR(T:ea)(t:TypeId)(f:Nat):Option (Nat×oc):=
 (T t).bind λti=>match ti.k with
 | .struct fs=>(fs[f]?).bind λ(aa,u)=>(T u).bind λui=>if ui.size=0 then none else some (aa,ui)
 |_=>none
def vY(T:ea)(t:TypeId)(x:AV)(f:Nat):Option Out:=
 (xR T t f).bind λ(d,_)=>match x with
 | .ptr k row aa=>pv (.ptr k row (aa+d))
 | .ef r aa=>pv (.ef r (aa+d))
 |_=>none
def Qy(T:ea)(t:TypeId)(x:AV)(f:Nat):Option Out:=
 (xR T t f).bind λ(d,ui)=>match x with
 | .agg cs=>(part' ui.agg ui.size ((cs.drop d).take ui.size)).bind pv
 |_=>none
def kT(T:ea)(t:TypeId)(x i:AV)(co:ij)(get:Nat->Option aS):Option Out:=
 (T t).bind λti=>match ti.k,i with
 | .slice e,.t (.sc (.int _ n))=>(T e).bind λei=>match x,co with
  | .t (.sl rows),.qv r=>if r.length=ei.size then lv (.ef r 0) (0<=n/\rows[n.toNat]? =some r)else none
  | .own k aa len,_=>(get k).bind λo=>if o.sz=ei.size then lv (.ptr k (aa+n.toNat) 0) (0<=n/\n.toNat<len)else none
  |_,_=>none
 | .arr m e,.t (.sc (.int _ n))=>(T e).bind λei=>match x with
  | .ptr k row aa=>lv (.ptr k row (aa+n.toNat*ei.size)) (0<=n/\n.toNat<m)
  | .ef r aa=>lv (.ef r (aa+n.toNat*ei.size)) (0<=n/\n.toNat<m)
  |_=>none
 |_,_=>none
def Ey(x:AV)(j:Nat):Option Out:=
 match x with
 | .eE vs=>(vs[j]?).bind pv
 |_=>none
def Y1(T:ea)(t:TypeId)(x:AV)(co:ij):Option Out:=
 (T t).bind λti=>match ti.k,x,co with
 | .slice _,.t (.sl rows),.num n=>lv (.t (.sc (.int .i64 n))) (n=(rows.length:Int))
 | .slice _,.own _ _ len,.num n=>lv (.t (.sc (.int .i64 n))) (n=(len:Int))
 | .slice _,.own _ _ len,_=>pv (.t (.sc (.int .i64 (len:Int))))
 | .slice _,.oz _ len,_=>pv (.t (.sc (.int .i64 (len:Int))))
 | .slice _,.cL,_=>pv (.t (.sc (.int .i64 0)))
 | .str,.t (.sc (.string s)),_=>pv (.t (.sc (.int .i64 (s.size:Int))))
 |_,_,_=>none
def CW(place:Nat->Option (Nat×Nat)):List AV->List (Nat×AV)->Option (List AV)
 |cells,[]=>some cells
 |cells,(j,x)::ag=>(place j).bind λ(aa,size)=>(cellsOf x).bind λcs=>
  if cs.length=size/\aa+cs.length<=cells.length then CW place (put' cells aa cs) ag else none
def Qz(T:ea)(t:TypeId)(parts:List (Nat×AV)):Option Out:=
 (T t).bind λti=>match ti.k with
 | .struct fs=>if fs.all (λ p=>(T p.2).isSome)then
  (CW (λ j=>(fs[j]?).bind λp=>(T p.2).bind λui=>some (p.1,ui.size)) (ti.zero.map cv) parts).bind λcells=>pv (.agg cells)else none
 | .arr _ e=>(T e).bind λei=>(CW (λ j=>some (j*ei.size,ei.size)) (ti.zero.map cv) parts).bind λcells=>pv (.agg cells)
 |_=>none
def Js(size:Nat):List (List AV)->List (Nat×AV)->Option (List (List AV))
 |rows,[]=>some rows
 |rows,(j,x)::ag=>(cellsOf x).bind λcs=>if cs.length=size/\j<rows.length then Js size (rows.set j cs) ag else none
def tQ(T:ea)(i:Nat)(t:TypeId)(len:Nat)(parts:List (Nat×AV))(kp:Bool:=false):Option Out:=
 (T t).bind λti=>match ti.k with
 | .slice e=>(T e).bind λei=>if ei.size=0\/len*ei.size>2 ^ 24 then none else
  (Js ei.size (List.replicate len (ei.zero.map cv)) parts).bind λrows=>some ⟨.own (cy i) 0 len,[(cy i,some ⟨ei.size,if kp then rows else dM rows⟩)],[]⟩
 |_=>none
def QA(T:ea)(i:Nat)(e:TypeId):Option Out:=
 (T e).bind λti=>some ⟨.ptr (cy i) 0 0,[(cy i,some ⟨ti.size,[ti.zero.map cv]⟩)],[]⟩
def Ge(i:Nat)(x:AV):Option Out:=
 (cellsOf x).bind λcs=>some ⟨.ptr (cy i) 0 0,[(cy i,some ⟨cs.length,[cs]⟩)],[]⟩
def bnd(d:Int):Option AV->Option Int
 |none=>some d
 |some (.t (.sc (.int _ n)))=>some n
 |_=>none
def QB(T:ea)(t:TypeId)(x:AV)(lo hi:Option AV)(co:ij)(get:Nat->Option aS):Option Out:=
 (T t).bind λti=>match ti.k with
 | .slice e=>(T e).bind λei=>match x with
  | .own k aa len=>(get k).bind λo=>if o.sz=ei.size then(bnd 0 lo).bind λl=>(bnd len hi).bind λh=>
   lv (.own k (aa+l.toNat) (h.toNat -l.toNat)) (0<=l/\l<=h/\h<=(len:Int))else none
  | .t (.sl rows)=>match co with
   | .wj rs=>(bnd 0 lo).bind λl=>(bnd rows.length hi).bind λh=>
    lv (.t (.sl rs)) (0<=l/\l<=h/\h<=(rows.length:Int)/\rs=(rows.drop l.toNat).take (h.toNat -l.toNat)/\(∀ r∈rows,r.length=ei.size))
   |_=>none
  |_=>none
 |_=>none
def QC(size:Nat)(y:AV)(get:Nat->Option aS):Option (Nat×Prop×List (List AV)):=
 match y with
 | .own k aa len=>(get k).bind λo=>if o.sz=size then some (len,True,(o.rows.drop aa).take len)else none
 | .t (.sl rows)=>some (rows.length,∀r∈rows,r.length=size,aG rows)
 |_=>none
def xS(T:ea)(i:Nat)(t:TypeId)(x y:AV)(co:ij)(get:Nat->Option aS):Option Out:=
 (T t).bind λti=>match ti.k with
 | .slice e=>(T e).bind λei=>match co with
  | .rows rs=>(QC ei.size y get).bind λ(n,ob,an)=>match x with
   | .own k aa len=>(get k).bind λo=>if o.sz=ei.size then
    some ⟨.own (cy i) 0 rs.length,[(cy i,some ⟨ei.size,rs⟩),(k,none)],[ob/\(o.rows.drop aa).length=len/\an.length=n/\rs=o.rows.drop aa++an/\(len+n)*ei.bytes<=140737488355328/\len+n<=maxLen]⟩else none
   | .cL=>some ⟨.own (cy i) 0 rs.length,[(cy i,some ⟨ei.size,rs⟩)],[ob/\an.length=n/\rs=an/\n*ei.bytes<=140737488355328/\n<=maxLen]⟩
   |_=>none
  |_=>none
 |_=>none
def Ad(T:ea)(i:Nat)(b:Builtin)(args:List AV)(cW:List TypeId)(co:ij)(get:Nat->Option aS):Option Out:=
 match b,args,cW with
 | .len,[x],[t]=>Y1 T t x co
 | .max,args,_=>B4 true args
 | .min,args,_=>B4 false args
 | .append,[x,y],[t,u]=>if t=u then xS T i t x y co get else none
 |_,_,_=>none
def Y2(t:Bool)(x y:AV):AV:=
 match x,y with
 | .t (.sc (.bool p)),.t (.sc (.bool q))=> .t (.sc (.bool (bif t then p else q)))
 | .t (.sc (.int k p)),.t (.sc (.int k' q))=>if k=k' then .t (.sc (.int k (bif t then p else q)))else bif t then x else y
 |_,_=>bif t then x else y
theorem QD(t:Bool)(x y:AV):Y2 t x y=if t=true then x else y:=by
 unfold Y2;split
 ·cases t<;>rfl
 ·split
  ·rename_i h;subst h;cases t<;>rfl
  ·cases t<;>rfl
 ·cases t<;>rfl
def nK(T:ea)(i:Nat)(o:Oper)(co:ij)(ρ:Operand->AV)(get:Nat->Option aS):Option Out:=
 match o.op with
 | .move x=>pv (ρ x)
 | .assign x=>pv (ρ x)
 | .pick c a b=>match ρ c with | .t (.sc (.bool t))=>pv (Y2 t (ρ a) (ρ b)) |_=>none
 | .alloc e=>QA T i e
 | .box _ x=>Ge i (ρ x)
 | .build t parts=>Qz T t (parts.toList.map λ(j,x)=>(j,ρ x))
 | .buildSlice t len parts=>tQ T i t len (parts.toList.map λ(j,x)=>(j,ρ x)) (match co with | .row _=>true |_=>false)
 | .load t a=>HV T t (ρ a) co get
 | .store t a x=>LF T t (ρ a) (ρ x) co get
 | .binOp op t x y _=>UI T op t (ρ x) (ρ y)
 | .unOp op _ x=>HP op (ρ x)
 | .makeFunc (.func f) first caps=>pv (.fn f (first.toList.map ρ) (caps.toList.map ρ))
 | .slice t x lo hi none=>QB T t (ρ x) (lo.map ρ) (hi.map ρ) co get
 | .fieldAddr t x f=>vY T t (ρ x) f
 | .field t x f=>Qy T t (ρ x) f
 | .indexAddr t x j=>kT T t (ρ x) (ρ j) co get
 | .extract x j=>Ey (ρ x) j
 | .call { callee:= .builtin b,args:=args,argTypes:=cW }=>Ad T i b (args.toList.map ρ) cW.toList co get
 |_=>none
def qe(P:Program)(w0:World)(O0:js)(β:Nat->Option cA)(I:Nat->Prop)(obj:Nat->Option aS)(w:World)(i:Nat)(ab:Out)(r:Result Next):Prop:=
 ∃v' w' β' I',(r= .ok (.value v') w'\/(r= .ok .skip w'/\v'=undef))/\Step β I w (cy i) β' I' w'/\Mem P w0 O0 β' I' (bR obj ab.upd) w'/\VR P β' w' I' ab.v v'
section
variable {P:Program} {T:ea} {w0:World} {O0:js} {β:Nat->Option cA} {I:Nat->Prop} {obj:Nat->Option aS} {w:World} {i:Nat}
theorem qe.pure(h:Mem P w0 O0 β I obj w){x:AV}{ob:List Prop}{v:Value}(hv:VR P β w I x v):qe P w0 O0 β I obj w i ⟨x,[],ob⟩ (.ok (.value v) w):=
 ⟨v,w,β,I,.inl rfl,Step.refl ..,h,hv⟩
theorem be.length:∀(xs:List AV)(vs:List Value),be P β w I xs vs->vs.length=xs.length
 |[],[],_=>rfl
 |x::xs,v::vs,h=>by simp only[be]at h;simp[be.length xs vs h.2]
 |[],_::_,h=>by simp[be]at h
 |_::_,[],h=>by simp[be]at h
theorem be.get:∀(xs:List AV)(vs:List Value)(j:Nat)(x:AV),be P β w I xs vs->xs[j]? =some x->∃v,vs[j]? =some v/\VR P β w I x v
 |x::xs,v::vs,0,x',h,hj=>by grind [be]
 |x::xs,v::vs,j+1,x',h,hj=>by simp only[be]at h;simpa using be.get xs vs j x' h.2 (by simpa using hj)
 |[],_,_,_,_,hj=>by simp at hj
 |_::_,[],_,_,h,_=>by simp[be]at h
theorem be.take:∀(n:Nat)(xs:List AV)(vs:List Value),be P β w I xs vs->be P β w I (xs.take n) (vs.take n)
 | 0,_,_,_=>by simp[be]
 |n+1,[],[],_=>by simp[be]
 |n+1,x::xs,v::vs,h=>by simp only[be]at h;simp only[List.take_succ_cons,be];exact⟨h.1,be.take n xs vs h.2⟩
 |_+1,[],_::_,h=>by simp[be]at h
 |_+1,_::_,[],h=>by simp[be]at h
theorem be.drop:∀(n:Nat)(xs:List AV)(vs:List Value),be P β w I xs vs->be P β w I (xs.drop n) (vs.drop n)
 | 0,_,_,h=>by simpa using h
 |n+1,[],[],_=>by simp[be]
 |n+1,x::xs,v::vs,h=>by simp only[be]at h;simpa using be.drop n xs vs h.2
 |_+1,[],_::_,h=>by simp[be]at h
 |_+1,_::_,[],h=>by simp[be]at h
theorem be.append:∀(xs ys:List AV)(us vs:List Value),be P β w I xs us->be P β w I ys vs->be P β w I (xs++ys) (us++vs)
 |[],ys,[],vs,_,h=>by simpa using h
 |x::xs,ys,u::us,vs,h1,h2=>by simp only[be]at h1;simp only[cons_append,be];exact⟨h1.1,be.append xs ys us vs h1.2 h2⟩
 |[],_,_::_,_,h,_=>by simp[be]at h
 |_::_,_,[],_,h,_=>by simp[be]at h
theorem VR.one{x:AV}{v:Value}(hx:nJ x=true)(h:VR P β w I x v):oneCell v:=by
 cases x<;>simp only[VR]at h
 case t x=>
  cases x with
  |sc u=>simp only[TR]at h;rw[h.1];exact h.2
  |sl rows=>simp only[TR]at h;rcases h with ⟨_,_,_,rfl,_⟩ |⟨b,aa,cap,sz,rfl,_⟩<;>exact trivial
 case agg=>simp[nJ]at hx
 case eE=>simp[nJ]at hx
 case own k aa len=>rcases h with ⟨_,rfl,_⟩ |⟨b,sz,n,cap,a,_,rfl,_⟩<;>exact trivial
 case ptr=>obtain⟨b,sz,n,_,rfl⟩:=h;exact trivial
 case ef=>obtain⟨b,o,rfl,_⟩:=h;exact trivial
 case fn=>obtain⟨fs,cs,rfl,_⟩:=h;exact trivial
 case du=>obtain⟨f,a,b,rfl,_⟩:=h;exact trivial
 case mp=>obtain⟨b,_,rfl⟩:=h;exact trivial
 case oz=>rcases h with ⟨_,rfl⟩ |⟨_,b,sz,n,cap,a,_,rfl,_⟩<;>exact trivial
 case cL=>subst h;exact trivial
 case ub=>obtain⟨b,rfl⟩:=h;exact trivial
 case undef=>simp[nJ]at hx
theorem cells_one{v:Value}(h:oneCell v):v.cells=#[v]:=by cases v<;>first |rfl |exact h.elim
theorem yV{x:AV}{cs:List AV}{v:Value}(hc:cellsOf x=some cs)(h:VR P β w I x v):be P β w I cs v.cells.toList/\(∀ u∈v.cells.toList,oneCell u):=by
 have single:nJ x=true->cs=[x]->be P β w I cs v.cells.toList/\(∀ u∈v.cells.toList,oneCell u):=λhk e=>by
  have h1:=VR.one hk h;rw[cells_one h1,e];simp only[be];exact⟨⟨h,trivial⟩,λu hu=>by simp at hu;rw[hu];exact h1⟩
 cases x<;>simp only[cellsOf,ay,reduceCtorEq]at hc
 case agg cs'=>
  split at hc
  ·injection hc with hc;subst hc;rename_i hall;simp only[VR]at h;obtain⟨vs,rfl,hvs⟩:=h;refine⟨hvs,λu hu=>?_⟩;obtain⟨j,hj⟩:=List.getElem?_of_mem hu;have hlen:=be.length _ _ hvs;have hjl:j<cs'.length:=by
    have:=(bX.1 hj).1;simp only[Value.cells]at this;omega
   obtain⟨u',hu',hv'⟩:=be.get _ _ j _ hvs (cZ hjl);simp only[Value.cells]at hj;rw[hj]at hu';injection hu' with hu';subst hu';exact VR.one (all_eq_true.1 hall _ (List.getElem_mem hjl)) hv'
  ·cases hc
 all_goals exact single rfl hc.symm
theorem VR.cv{v:Value}:VR P β w I (cv v) v:=by
 unfold Gb.cv;split
 ·simp[VR]
 ·split
  ·rename_i h;simp only[VR,TR];exact⟨trivial,qK h⟩
  ·simp[VR]
theorem be.cv:∀(vs:List Value),be P β w I (vs.map cv) vs
 |[]=>by simp[be]
 |v::vs=>by simp only[aF,be];exact⟨VR.cv,be.cv vs⟩
theorem cM.mS(cs:List AV)(vs:List Value)(c:Array Value)(aa:Nat)(h:be P β w I cs vs)(h1:∀u∈vs,oneCell u)(hc:∀j u,vs[j]? =some u->c[aa+j]? =some u):cM P β w I cs c aa:=by
 rw[iW];intro j x hx;obtain⟨v,hv,hr⟩:=be.get _ _ j x h hx;exact⟨v,hc j v hv,hr,h1 v (bW hv)⟩
theorem cM.list:∀(cs:List AV)(c:Array Value)(aa:Nat),cM P β w I cs c aa->∃vs:List Value,be P β w I cs vs/\(∀ u∈vs,oneCell u)/\∀j u,vs[j]? =some u->c[aa+j]? =some u
 |[],_,_,_=>⟨[],by simp[be],by simp,by simp⟩
 |x::xs,c,aa,⟨⟨v,h1,h2,h3⟩,h4⟩=>by
  have⟨vs,g1,g2,g3⟩:=cM.list xs c (aa+1) h4;refine⟨v::vs,by simp only[be];exact⟨h2,g1⟩,λu hu=>?_,λj u hj=>?_⟩
  all_goals grind
theorem dc.list:∀(cs:List Tree)(b aa:Nat),dc w I cs b aa->∃vs:List Value,be P β w I (cs.map AV.t) vs/\∀j u,vs[j]? =some u->w.cell? ⟨b,aa+j,none⟩=some u
 |[],_,_,_=>⟨[],by simp[be],by simp⟩
 |x::xs,b,aa,h=>by
  simp only[dc]at h;obtain⟨⟨v,h1,h2⟩,h4⟩:=h;have⟨vs,g1,g3⟩:=dc.list xs b (aa+1) h4;refine⟨v::vs,by simp only[aF,be,VR];exact⟨h2,g1⟩,λj u hj=>?_⟩
  grind
theorem Iy{agg:Bool}{size:Nat}{cs:List AV}{v:AV}{vs:List Value}(hp:part' agg size cs=some v)(h:be P β w I cs vs):cs.length=size/\vs.length=size/\
 (agg=true->VR P β w I v (.agg vs.toArray))/\(agg=false->∃u,vs=[u]/\VR P β w I v u):=by
 unfold part' at hp;split at hp
 ·rename_i hl;have hl2:=be.length _ _ h;refine⟨hl,by omega,?_,?_⟩
  ·rintro rfl;simp only[if_true,ay]at hp;subst hp;simp only[VR];exact⟨vs.toArray,rfl,h⟩
  ·rintro rfl;simp only[Bool.false_eq_true,if_false]at hp;split at hp
   ·split at hp
    ·cases hp
     match vs,h with
     |[u],h=>simp only[be]at h;exact⟨u,rfl,h.1⟩
     |[],h=>simp[be]at h
     |_::_::_,h=>simp[be]at h
    ·cases hp
   ·cases hp
 ·cases hp
section types
variable {t:TypeId} {ti:oc} (ht:k5 P t ti)
include ht
theorem k5.size:(sizeOf t).run P w= .ok ti.size w:=by
 obtain⟨info,d,z,h1,h2,h3,h4,h5,h6,h7,h8⟩:=ht.ex;simp[sizeOf,typeInfo,h1,h3]
theorem k5.agg:(isAgg t).run P w= .ok ti.agg w:=by
 obtain⟨info,d,z,h1,h2,h3,h4,h5,h6,h7,h8⟩:=ht.ex;rw[<- h7];cases d<;>simp[isAgg,run_underlying h2,ra]
theorem k5.zeroV:∃z,(zeroValue t).run P w= .ok z w/\z.cells.toList=ti.zero:=by
 obtain⟨info,d,z,h1,h2,h3,h4,h5,h6,h7,h8⟩:=ht.ex;exact⟨z,by simp[zeroValue,typeInfo,h1,h5],h6⟩
end types
theorem addr_add(b o n:Nat):(⟨b,o,none⟩:Addr).add n=⟨b,o+n,none⟩:=by unfold Addr.add;split<;>simp_all
theorem Ez{t:TypeId}{ti:oc}(ht:k5 P t ti){b o:Nat}{cs:List AV}{v:AV}{vs:List Value}(hp:part' ti.agg ti.size cs=some v)(hr:be P β w I cs vs)
 (hc:∀j u,vs[j]? =some u->w.cell? ⟨b,o+j,none⟩=some u):∃u,(loadVar t ⟨b,o,none⟩).run P w= .ok u w/\VR P β w I v u:=by
 have⟨h1,h2,h3,h4⟩:=Iy hp hr;unfold loadVar;simp only[Sem.run_bind,ht.agg (w:=w),Result.andThen_ok];cases hag:ti.agg with
 |true=>
  refine⟨.agg vs.toArray,?_,h3 hag⟩;simp only[if_true,Sem.run_bind,ht.size (w:=w),Result.andThen_ok];rw[<- h2,run_loadCells_list w ⟨b,o,none⟩ vs (λ j u hj=>by rw[addr_add];exact hc j u hj)];simp
 |false=>
  obtain⟨u,rfl,hu⟩:=h4 hag;refine⟨u,?_,hu⟩;have:=hc 0 u rfl;simp only[Nat.add_zero]at this;simp[this]
theorem NF(hT:eY P T)(h:Mem P w0 O0 β I obj w){t:TypeId}{x:AV}{co:ij}{get:Nat->Option aS}{ab:Out}{v:Value}(hg:∀k o,get k=some o->obj k=some o)
 (ha:HV T t x co get=some ab) (cD:ab.ob) (hx:VR P β w I x v):∃u,(Instr.loadAt t v).run P w= .ok u w/\VR P β w I ab.v u/\ab.upd=[]:=by
 unfold HV at ha;cases hti:T t with
 |none=>simp[hti]at ha
 |some ti=>
  have ht:=hT t ti hti;simp only[hti,af]at ha;cases x<;>simp only[reduceCtorEq]at ha
  case ptr k row aa=>
   cases hk:get k with
   |none=>simp[hk]at ha
   |some o=>
    simp only[hk,af]at ha;have key:∀r,o.rows[row]? =some r->∀u,part' ti.agg ti.size ((r.drop aa).take ti.size)=some u->∃z,(Instr.loadAt t v).run P w= .ok z w/\VR P β w I u z:=by
     intro r hr u hp;simp only[VR]at hx;obtain⟨b,sz,n,h1,rfl⟩:=hx;have⟨B,hB,hO⟩:=h.cE k o (hg k o hk);rw[h1]at hB;cases hB;obtain⟨hs,c,e,hc,_,hO⟩:=hO;have h4:=(br.get row _ _ _ _ _ hO hr).2;obtain⟨vs,g1,g2,g3⟩:=cM.list _ _ _ (cM.take ti.size _ _ _ (cM.drop aa _ _ _ h4));obtain⟨z,hz,hz2⟩:=Ez ht (b:=b) (o:=n.s+row*sz+aa) hp g1 (λ j u hj=>by simp[World.cell?,hc,g3 j u hj]);exact⟨z,by simp[Instr.loadAt,Instr.sureAddr,hz],hz2⟩
    have fin:∀r ob,o.rows[row]? =some r->((part' ti.agg ti.size ((r.drop aa).take ti.size)).bind λv=>some (⟨v,[],ob⟩:Out))=some ab->∃u,(Instr.loadAt t v).run P w= .ok u w/\VR P β w I ab.v u/\ab.upd=[]:=by
     intro r ob hr hh;cases hp:part' ti.agg ti.size ((r.drop aa).take ti.size)with
     |none=>simp[hp]at hh
     |some u=>
      simp only[hp,af,ay]at hh;subst hh;have⟨z,hz⟩:=key r hr u hp;exact⟨z,hz.1,hz.2,rfl⟩
    cases co
    case row r=>
     have hr:o.rows[row]? =some r:=by
      cases hp:part' ti.agg ti.size ((r.drop aa).take ti.size)with
      |none=>simp[hp]at ha
      |some u=>simp only[hp,af,lv,ay]at ha;subst ha;exact cD
     exact fin r _ hr ha
    all_goals
     cases hr:o.rows[row]? with
     |none=>simp[hr]at ha
     |some r=>
      simp only[hr,af]at ha;exact fin r _ hr ha
  case ef r aa=>
   cases hp:part' ti.agg ti.size (((r.drop aa).take ti.size).map AV.t)with
   |none=>rw[hp]at ha;simp at ha
   |some u=>
    simp only[hp,af,pv,ay]at ha;subst ha;simp only[VR]at hx;obtain⟨b,o,rfl,hI,hr⟩:=hx;have hdrop:∀(n:Nat) (r:List Tree) (o:Nat),dc w I r b o->dc w I (r.drop n) b (o+n):=by
     intro n
     induction n with
     |zero=>intro r o h;simpa using h
     |succ n ih=>intro r o h;cases r with
      |nil=>simp[dc]
      |cons x xs=>simp only[dc]at h;rw[List.drop_succ_cons,show o+(n+1)=o+1+n by omega];exact ih xs (o+1) h.2
    have htake:∀(n:Nat) (r:List Tree) (o:Nat),dc w I r b o->dc w I (r.take n) b o:=by
     intro n
     induction n with
     |zero=>intro r o h;simp[dc]
     |succ n ih=>intro r o h;cases r with
      |nil=>simp[dc]
      |cons x xs=>simp only[dc]at h;simp only[List.take_succ_cons,dc];exact⟨h.1,ih xs (o+1) h.2⟩
    obtain⟨vs,g1,g3⟩:=dc.list (P:=P) (β:=β) _ _ _ (htake ti.size _ _ (hdrop aa r o hr));have⟨z,hz,hz2⟩:=Ez ht (b:=b) (o:=o+aa) hp g1 g3;exact⟨z,by simp[Instr.loadAt,Instr.sureAddr,hz],hz2,rfl⟩
theorem Y3(r:List AV)(aa:Nat)(cs:List AV)(h:aa+cs.length<=r.length):(put' r aa cs).length=r.length:=by simp[put',length_take,length_drop];omega
theorem af0(r:List AV)(aa:Nat)(cs:List AV)(h:aa+cs.length<=r.length)(j:Nat):(put' r aa cs)[j]? =if j<aa then r[j]? else if j<aa+cs.length then cs[j -aa]? else r[j]? :=by
 unfold put'
 all_goals grind
theorem LG(h:Mem P w0 O0 β I obj w){t:TypeId}{ti:oc}(ht:k5 P t ti){k:Nat}{o:aS}{b sz:Nat}{n:Ex}(hk:obj k=some o)(hβ:β k=some (.at b sz n))
 {row aa:Nat} {r:List AV} {cs:List AV} {v:Value} (hr:o.rows[row]? =some r) (hl:aa+cs.length<=r.length) (hlen:cs.length=ti.size) (hcs:be P β w I cs v.cells.toList) (h1:∀u∈v.cells.toList,oneCell u):
 ∃w',(storeVar t ⟨b,n.s+row*sz+aa,none⟩ v).run P w= .ok () w'/\Same I w w'/\Mem P w0 O0 β I (bR obj [(k,some ⟨o.sz,o.rows.set row (put' r aa cs)⟩)]) w':=by
 have⟨B,hB,hO⟩:=h.cE k o hk;rw[hβ]at hB;cases hB;obtain⟨hs,c,e,hc,hn,hO⟩:=hO;have hO':=hO;rw[mX]at hO;have hrow:=hO row r hr;have hvl:=be.length _ _ hcs;have hfit:n.s+row*sz+aa+cs.length<=c.size:=by
  by_cases h0:r.length=0
  ·have:aa+cs.length=0:=(by omega);have hz:sz=0:=(by omega);have:row*sz=0:=(by rw[hz];simp);have:=n.h;omega
  ·have hlast:=(iW _ _ _).1 hrow.2 (r.length -1) _ (cZ (by omega));obtain⟨u,hu,_⟩:=hlast;have:=(Array.getElem?_eq_some_iff.1 hu).1;omega
 have hst:=run_storeCells_at P b (n.s+row*sz+aa) e v.cells.toList 0 c w hc (by omega) (λ u hu=>by
  have:=h1 u hu;cases u<;>first |rfl |exact this.elim)
 simp only[Nat.add_zero]at hst;generalize hc':(List.take (n.s+row*sz+aa) c.toList++v.cells.toList++List.drop (n.s+row*sz+aa+v.cells.toList.length) c.toList).toArray=c' at hst;have hsize:c'.size=c.size:=by rw[<- hc'];simp[length_take,length_drop];simp at hvl;omega
 refine⟨w.setRow b c',?_,?_⟩
 ·unfold storeVar;simp only[Sem.run_bind,ht.size (w:=w),Result.andThen_ok];rw[bf (by rw[<- Array.length_toList];omega)];simp only[hst]
 ·have hget:∀j,c'[j]? =if j<n.s+row*sz+aa then c[j]? else if j<n.s+row*sz+aa+cs.length then v.cells.toList[j -(n.s+row*sz+aa)]? else c[j]? :=by
   intro j;rw[<- hc'];have h1:(c.toList.take (n.s+row*sz+aa)).length=n.s+row*sz+aa:=(by simp[length_take];omega);simp only[List.getElem?_toArray];split
   ·rw[aM,List.getElem?_append_left (by omega),List.getElem?_take,bn (by omega)];simp
   ·split
    ·rw[aM,nY (by omega),h1,List.getElem?_append_left (by omega)]
    ·rw[nY (by simp only[dG,h1];omega)];simp only[dG,h1,List.getElem?_drop,Array.getElem?_toList];congr 1;omega
  refine Mem.write h hk hβ (c':=c') (e:=e) (setRow_heap w b c c' e (0,0) hc) (λ b' hb=>setRow_other w b b' c' hb) (by simp) rfl rfl rfl hs (by omega) ?_;rw[<- hs,mX];simp only;intro i' r' hi';rw[List.getElem?_set]at hi';have other:∀(i':Nat)(r':List AV),i'≠row->o.rows[i']? =some r'->r'.length=sz/\cM P β w I r' c' (n.s+i'*sz):=by
   intro i' r' hne hi';have hh:=hO i' r' hi';refine⟨hh.1,?_⟩;rw[iW];intro j x hx;obtain⟨u,hu⟩:=(iW _ _ _).1 hh.2 j x hx;have hj:j<sz:=(by have:=(bX.1 hx).1;omega);refine⟨u,?_,hu.2⟩;rw[hget];rcases Nat.lt_or_gt_of_ne hne with hlt |hgt
   ·have:(i'+1)*sz<=row*sz:=Nat.mul_le_mul_right _ hlt;rw[Nat.add_mul]at this;rw[bn (by omega)];exact hu.1
   ·have:(row+1)*sz<=i'*sz:=Nat.mul_le_mul_right _ hgt;rw[Nat.add_mul]at this;rw[bf (by omega),bf (by omega)];exact hu.1
  split at hi'
  ·rename_i hrow';subst hrow';split at hi'
   ·injection hi' with hi';subst hi';refine⟨by rw[Y3 r aa cs hl];exact hrow.1,?_⟩;rw[iW];intro j x hx;rw[af0 r aa cs hl]at hx;rw[hget];split at hx
    ·rw[bn (by omega)];exact(iW _ _ _).1 hrow.2 j x hx
    ·split at hx
     ·obtain⟨u,hu,hr2⟩:=be.get _ _ _ _ hcs hx;rw[bf (by omega),bn (by omega)];refine⟨u,?_,hr2,h1 u (bW hu)⟩;rw[<- hu];congr 1;omega
     ·rw[bf (by omega),bf (by omega)];exact(iW _ _ _).1 hrow.2 j x hx
   ·cases hi'
  ·exact other i' r' (by omega) hi'
theorem Xh(hT:eY P T)(h:Mem P w0 O0 β I obj w){t:TypeId}{x y:AV}{co:ij}{get:Nat->Option aS}{ab:Out}{v u:Value}(hg:∀k o,get k=some o->obj k=some o)
 (ha:LF T t x y co get=some ab) (cD:ab.ob) (hx:VR P β w I x v) (hy:VR P β w I y u):
 ∃w',(Instr.storeAt t v u).run P w= .ok () w'/\Same I w w'/\Mem P w0 O0 β I (bR obj ab.upd) w'/\ab.v= .undef:=by
 unfold LF at ha;cases hti:T t with
 |none=>simp[hti]at ha
 |some ti=>
  have ht:=hT t ti hti;simp only[hti,af]at ha;cases hcs:cellsOf y with
  |none=>simp[hcs]at ha
  |some cs=>
   simp only[hcs,af]at ha;have⟨hv1,hv2⟩:=yV hcs hy;split at ha
   ·rename_i hlen;cases x<;>simp only[reduceCtorEq]at ha
    case ptr k row aa=>
     cases hk:get k with
     |none=>simp[hk]at ha
     |some o=>
      simp only[hk,af]at ha;simp only[VR]at hx;obtain⟨b,sz,n,hβ,rfl⟩:=hx;have fin:∀r,o.rows[row]? =some r->aa+cs.length<=r.length->∃w',(Instr.storeAt t (.pointer (some ⟨b,n.s+row*sz+aa,none⟩)) u).run P w= .ok () w'/\Same I w w'/\Mem P w0 O0 β I (bR obj [(k,some ⟨o.sz,o.rows.set row (put' r aa cs)⟩)]) w':=by
       intro r hr hl;have⟨w',h1,h2,h3⟩:=LG h ht (hg k o hk) hβ hr hl hlen hv1 hv2;exact⟨w',by simp[Instr.storeAt,Instr.sureAddr,h1],h2,h3⟩
      cases co
      case set r rs=>
       simp only at ha;split at ha
       ·rename_i hl;cases ha;obtain⟨hr,hrs⟩:=cD;have⟨w',h1,h2,h3⟩:=fin r hr hl;subst hrs;exact⟨w',h1,h2,h3.tG,rfl⟩
       ·cases ha
      all_goals
       cases hr:o.rows[row]? with
       |none=>simp[hr]at ha
       |some r=>
        simp only[hr,af]at ha;split at ha
        ·rename_i hl;cases ha;have⟨w',h1,h2,h3⟩:=fin r hr hl;exact⟨w',h1,h2,h3,rfl⟩
        ·cases ha
   ·cases ha
end
section
variable {P:Program} {T:ea} {w0:World} {O0:js} {β:Nat->Option cA} {I:Nat->Prop} {obj:Nat->Option aS} {w:World} {i:Nat}
theorem Jt(h:Mem P w0 O0 β I obj w)(hn:β (cy i)=none){e:TypeId}{v:Value}{cs:List AV}(hcs:be P β w I cs v.cells.toList)(h1:∀u∈v.cells.toList,oneCell u):
 ∃w' β',(newVar e v).run P w= .ok ⟨w.heap.size,0,none⟩ w'/\Step β I w (cy i) β' I w'/\Mem P w0 O0 β' I (bR obj [(cy i,some ⟨cs.length,[cs]⟩)]) w'/\VR P β' w' I (.ptr (cy i) 0 0) (.pointer (some ⟨w.heap.size,0,none⟩)):=by
 obtain⟨hS,hM⟩:=Mem.alloc (o:=⟨cs.length,[cs]⟩) (c:=v.cells) (e:=e) h hn (by
  simp only[br,and_true,true_and];exact cM.mS cs _ _ 0 hcs h1 (λ j u hj=>by simpa using hj))
 refine⟨_,_,?_,hS,hM,?_⟩
 ·simp only[newVar,newRow,Sem.run_bind,run_newObj,Result.andThen_ok,Sem.run_pure];rfl
 ·simp only[VR];exact⟨w.heap.size,cs.length,_,by simp[ins];rfl,by simp⟩
theorem Xi(hT:eY P T)(h:Mem P w0 O0 β I obj w)(hn:β (cy i)=none){e:TypeId}{ab:Out}(ha:QA T i e=some ab):
 ∃u w' β',(Instr.alloc e true (.tuple #[])).run P w= .ok u w'/\Step β I w (cy i) β' I w'/\Mem P w0 O0 β' I (bR obj ab.upd) w'/\VR P β' w' I ab.v u:=by
 unfold QA at ha;cases hti:T e with
 |none=>simp[hti]at ha
 |some ti=>
  have ht:=hT e ti hti;simp only[hti,af,ay]at ha;subst ha;have⟨z,hz,hz2⟩:=ht.zeroV (w:=w);obtain⟨w',β',h1,h2,h3,h4⟩:=Jt (i:=i) (e:=e) (v:=z) (cs:=ti.zero.map cv) h hn (by rw[hz2];exact be.cv _) (λ u hu=>qK (all_eq_true.1 ht.one u (hz2 ▸ hu)));have hl:(ti.zero.map cv).length=ti.size:=by simp[ht.len]
  rw[hl]at h3;exact⟨_,w',β',by simp[Instr.alloc,hz,h1],h2,h3,h4⟩
theorem abN(h:Mem P w0 O0 β I obj w)(hn:β (cy i)=none){e:TypeId}{x:AV}{v:Value}{ab:Out}(ha:Ge i x=some ab)(hx:VR P β w I x v):
 ∃u w' β',(Instr.box e v).run P w= .ok u w'/\Step β I w (cy i) β' I w'/\Mem P w0 O0 β' I (bR obj ab.upd) w'/\VR P β' w' I ab.v u:=by
 unfold Ge at ha;cases hcs:cellsOf x with
 |none=>simp[hcs]at ha
 |some cs=>
  simp only[hcs,af,ay]at ha;subst ha;have⟨hv1,hv2⟩:=yV hcs hx;have⟨w',β',h1,h2,h3,h4⟩:=Jt (i:=i) (e:=e) h hn hv1 hv2;exact⟨_,w',β',by simp[Instr.box,h1],h2,h3,h4⟩
theorem Y4(hT:eY P T){t:TypeId}{f aa:Nat}{ui:oc}(hf:xR T t f=some (aa,ui)):
 ∃(fa:Array Field)(fd:Field),P.underlying t=some (.struct fa)/\fa[f]? =some fd/\fd.offset=aa/\k5 P fd.type ui/\ui.size≠0:=by
 unfold xR at hf;cases hti:T t with
 |none=>simp[hti]at hf
 |some ti=>
  have ht:=hT t ti hti;simp only[hti,af]at hf;cases hk:ti.k<;>simp only[hk,reduceCtorEq]at hf
  case struct fs=>
   cases hj:fs[f]? with
   |none=>simp[hj]at hf
   |some p=>
    obtain⟨o,u⟩:=p;simp only[hj,af]at hf;cases hu:T u with
    |none=>simp[hu]at hf
    |some ui'=>
     simp only[hu,af]at hf;split at hf
     ·cases hf
     ·rename_i hne;simp only[ay,Prod.mk.injEq]at hf;obtain⟨rfl,rfl⟩:=hf;obtain⟨info,d,z,h1,h2,h3,h4,h5,h6,h7,h8⟩:=ht.ex;rw[hk]at h8;obtain⟨fa,rfl,hfs⟩:=h8;rw[<- hfs]at hj;simp only[List.getElem?_map,Array.getElem?_toList,dR,Prod.mk.injEq]at hj;obtain⟨fd,g1,g2,g3⟩:=hj;exact⟨fa,fd,h2,g1,g2,g3 ▸ hT u _ hu,hne⟩
theorem LJ(hT:eY P T){t:TypeId}{x:AV}{f:Nat}{v:Value}{ab:Out}(ha:vY T t x f=some ab)(hx:VR P β w I x v):
 ∃u,(Instr.fieldAt t v f).run P w= .ok u w/\VR P β w I ab.v u/\ab.upd=[]:=by
 unfold vY at ha;cases hf:xR T t f with
 |none=>simp[hf]at ha
 |some p=>
  obtain⟨d,ui⟩:=p;simp only[hf,af]at ha;have⟨fa,fd,h1,h2,h3,h4,h5⟩:=Y4 hT hf;have hrun:∀b o,(Instr.fieldAt t (.pointer (some ⟨b,o,none⟩)) f).run P w= .ok (.pointer (some ⟨b,o+d,none⟩)) w:=λb o=>by simp[Instr.fieldAt,run_underlying h1,h2,Instr.sureAddr,fieldPlace,h4.size (w:=w),h5,h3,addr_add]
  cases x<;>simp only[reduceCtorEq]at ha
  case ptr k row aa=>
   simp only[pv,ay]at ha;subst ha;simp only[VR]at hx ⊢;obtain⟨b,sz,n,g1,rfl⟩:=hx;exact⟨_,hrun _ _,⟨b,sz,n,g1,by rw[Nat.add_assoc]⟩,trivial⟩
  grind [pv,VR,Nat.add_assoc]
theorem Y5{t:TypeId}{ti:oc}(ht:k5 P t ti){cs:List AV}{vs:List Value}{d:Nat}{v:AV}(hp:part' ti.agg ti.size ((cs.drop d).take ti.size)=some v)(hr:be P β w I cs vs):
 ∃u,(part t vs.toArray d).run P w= .ok u w/\VR P β w I v u:=by
 obtain⟨h1,h2,h3,h4⟩:=Iy hp (be.take ti.size _ _ (be.drop d _ _ hr));unfold Go.part;simp only[Sem.run_bind,ht.agg (w:=w),Result.andThen_ok];cases hag:ti.agg with
 |true=>
  refine⟨.agg ((vs.drop d).take ti.size).toArray,?_,h3 hag⟩;simp only[if_true,Sem.run_bind,ht.size (w:=w),Result.andThen_ok,Sem.run_pure];congr 2;apply Array.ext';simp[List.extract_eq_take_drop]
 |false=>
  have⟨u,hu,hv⟩:=h4 hag;refine⟨u,?_,hv⟩;have:vs[d]? =some u:=by
   have h5:((vs.drop d).take ti.size)[0]? =some u:=(by rw[hu];rfl);rw[List.getElem?_take]at h5;split at h5
   ·simpa using h5
   ·cases h5
  simp[this]
theorem Xj(hT:eY P T){t:TypeId}{x:AV}{f:Nat}{v:Value}{ab:Out}(ha:Qy T t x f=some ab)(hx:VR P β w I x v):
 ∃u,(Instr.field t v f).run P w= .ok u w/\VR P β w I ab.v u/\ab.upd=[]:=by
 unfold Qy at ha;cases hf:xR T t f with
 |none=>simp[hf]at ha
 |some p=>
  obtain⟨d,ui⟩:=p;simp only[hf,af]at ha;have⟨fa,fd,h1,h2,h3,h4,h5⟩:=Y4 hT hf;cases x<;>simp only[reduceCtorEq]at ha
  case agg cs=>
   cases hp:part' ui.agg ui.size ((cs.drop d).take ui.size)with
   |none=>simp[hp]at ha
   |some y=>
    simp only[hp,af,pv,ay]at ha;subst ha;simp only[VR]at hx;obtain⟨vs,rfl,hvs⟩:=hx;have⟨u,hu,hv⟩:=Y5 h4 hp hvs;refine⟨u,?_,hv,rfl⟩;simp[Instr.field,run_underlying h1,h2,h3,asAgg];simpa using hu
theorem cp.get{b sz:Nat}:∀(n:Nat)(rows:List (List Tree))(aa:Nat)(r:List Tree),cp w I rows b aa sz->rows[n]? =some r->r.length=sz/\dc w I r b (aa+n*sz)
 | 0,r::rs,aa,r',h,hn=>by simp only[cp]at h;simp at hn;subst hn;exact⟨h.1,by simpa using h.2.1⟩
 |n+1,r::rs,aa,r',h,hn=>by
  simp only[cp]at h;have:=cp.get n rs (aa+sz) r' h.2.2 (by simpa using hn);rw[show aa+(n+1)*sz=aa+sz+n*sz by rw[Nat.add_mul];omega];exact this
 |_,[],_,_,_,hn=>by simp at hn
theorem gH{t e:TypeId}{ti:oc}(ht:k5 P t ti)(hk:ti.k= .slice e):P.underlying t=some (.slice e):=by
 obtain⟨info,d,z,h1,h2,h3,h4,h5,h6,h7,h8⟩:=ht.ex;rw[hk]at h8;rw[h2,h8]
theorem QE{t e:TypeId}{n:Nat}{ti:oc}(ht:k5 P t ti)(hk:ti.k= .arr n e):P.underlying t=some (.array n e):=by
 obtain⟨info,d,z,h1,h2,h3,h4,h5,h6,h7,h8⟩:=ht.ex;rw[hk]at h8;rw[h2,h8]
theorem LK(hT:eY P T)(h:Mem P w0 O0 β I obj w){t:TypeId}{x j:AV}{co:ij}{get:Nat->Option aS}{v u:Value}{ab:Out}(hg:∀k o,get k=some o->obj k=some o)
 (ha:kT T t x j co get=some ab) (cD:ab.ob) (hx:VR P β w I x v) (hj:VR P β w I j u):
 ∃z,(Instr.indexAt t v u).run P w= .ok z w/\VR P β w I ab.v z/\ab.upd=[]:=by
 unfold kT at ha;cases hti:T t with
 |none=>simp[hti]at ha
 |some ti=>
  have ht:=hT t ti hti;simp only[hti,af]at ha;split at ha
  ·rename_i e kd n hk;simp only[VR,TR]at hj;obtain⟨rfl,_⟩:=hj;have ep:=gH ht hk;cases fy:T e with
   |none=>simp[fy]at ha
   |some ei=>
    have he:=hT e ei fy;simp only[fy,af]at ha;have hrun:∀(b o len cap:Nat),0<=n->n.toNat<len->(Instr.indexAt t (.slice (some ⟨b,o,none⟩) len cap) (.int kd n)).run P w= .ok (.pointer (some ⟨b,o+n.toNat*ei.size,none⟩)) w:=by
     intro b o len cap h0 h1;have h2:n<(len:Int):=(by omega);simp[Instr.indexAt,asIntOf,run_underlying ep,h0,h2,he.size (w:=w),addr_add]
    split at ha
    ·rename_i rows r;split at ha
     ·rename_i hlen;simp only[lv,ay]at ha;subst ha;obtain⟨h0,hr⟩:=cD;simp only[VR,TR]at hx;rcases hx with ⟨rfl,_⟩ |⟨b,aa,cap,sz,rfl,h1,h2,h3⟩
      ·simp at hr
      ·have hlt:=(bX.1 hr).1;obtain⟨g1,g2⟩:=cp.get _ _ _ _ h3 hr;refine⟨_,hrun _ _ _ _ h0 hlt,?_,rfl⟩;simp only[VR];exact⟨b,aa+n.toNat*sz,by rw[<- g1,hlen];rfl,h2,g2⟩
     ·cases ha
    ·rename_i k aa len;cases hk2:get k with
     |none=>simp[hk2]at ha
     |some o=>
      simp only[hk2,af]at ha;split at ha
      ·rename_i hsz;simp only[lv,ay]at ha;subst ha;obtain⟨h0,hlt⟩:=cD;simp only[VR]at hx ⊢;rcases hx with ⟨_,_,_,rfl⟩ |⟨b,sz,m,cap,a,h1,rfl,h2,h3,h4⟩
       ·omega
       ·have⟨B,hB,hO⟩:=h.cE k o (hg k o hk2);rw[h1]at hB;cases hB;have hs:sz=o.sz:=hO.1;refine⟨_,hrun _ _ _ _ h0 hlt,⟨b,sz,m,h1,?_⟩,trivial⟩;rw[h4 (by omega),hs,hsz,Nat.add_mul,Nat.add_assoc];rfl
      ·cases ha
    ·cases ha
  ·rename_i m e kd n hk;simp only[VR,TR]at hj;obtain⟨rfl,_⟩:=hj;have ep:=QE ht hk;cases fy:T e with
   |none=>simp[fy]at ha
   |some ei=>
    have he:=hT e ei fy;simp only[fy,af]at ha;have hrun:∀(b o:Nat),0<=n->n.toNat<m->(Instr.indexAt t (.pointer (some ⟨b,o,none⟩)) (.int kd n)).run P w= .ok (.pointer (some ⟨b,o+n.toNat*ei.size,none⟩)) w:=by
     intro b o h0 h1;have h2:n<(m:Int):=(by omega);simp[Instr.indexAt,asIntOf,run_underlying ep,Instr.sureAddr,h0,h2,he.size (w:=w),addr_add]
    cases x<;>simp only[reduceCtorEq]at ha
    case ptr k row aa=>
     simp only[lv,ay]at ha;subst ha;simp only[VR]at hx ⊢;obtain⟨b,sz,q,g1,rfl⟩:=hx;exact⟨_,hrun _ _ cD.1 cD.2,⟨b,sz,q,g1,by rw[Nat.add_assoc]⟩,trivial⟩
    case ef r aa=>
     simp only[lv,ay]at ha;subst ha;simp only[VR]at hx ⊢;obtain⟨b,o,rfl,g1,g2⟩:=hx;exact⟨_,hrun _ _ cD.1 cD.2,⟨b,o,by rw[Nat.add_assoc],g1,g2⟩,trivial⟩
  ·cases ha
theorem QF{x:AV}{j:Nat}{v:Value}{ab:Out}(ha:Ey x j=some ab)(hx:VR P β w I x v):∃u,(Instr.extract v j).run P w= .ok u w/\VR P β w I ab.v u/\ab.upd=[]:=by
 unfold Ey at ha;split at ha
 ·rename_i vs;simp only[VR]at hx;obtain⟨us,rfl,uC⟩:=hx;cases hj:vs[j]? with
  |none=>simp[hj]at ha
  |some y=>
   simp only[hj,af,pv,ay]at ha;subst ha;obtain⟨u,hu,hv⟩:=be.get _ _ j y uC hj;refine⟨u,?_,hv,rfl⟩;have:us[j]? =some u:=(by simpa using hu);simp[Instr.extract,this]
 ·cases ha
end
section
variable {P:Program} {T:ea} {w0:World} {O0:js} {β:Nat->Option cA} {I:Nat->Prop} {obj:Nat->Option aS} {w:World} {i:Nat}
theorem Xk{op:BinOp}{t:TypeId}{k yk:IntKind}{a b:Int}{v:Value}{ob:List Prop}(hk:k=yk\/op= .shl\/op= .shr)(h:Qx op k a b=some (v,ob))(cD:jJ ob):
 (binOp op t (.int k a) (.int yk b)).run P w= .ok v w/\oneCell v:=by
 cases op<;>simp only[Qx,ay,Prod.mk.injEq]at h<;>obtain⟨rfl,rfl⟩:=h
 case shl=>exact⟨by rw[binOp_shl,shift_shl k yk a b cD.1 cD.2];simp,trivial⟩
 case shr=>exact⟨by rw[binOp_shr,shift_shr k yk a b cD.1 cD.2];simp,trivial⟩
 all_goals
  have hk':k=yk:=by rcases hk with h |h |h<;>first |exact h |cases h
  subst hk'
 case add=>exact⟨by simp[binOp_add,Op.intArith],trivial⟩
 case sub=>exact⟨by simp[binOp_sub,Op.intArith],trivial⟩
 case mul=>exact⟨by simp[binOp_mul,Op.intArith],trivial⟩
 case quo=>exact⟨by have h0:b≠0:=cD;rw[binOp_quo];simp[Op.intDiv,h0],trivial⟩
 case rem=>exact⟨by have h0:b≠0:=cD;rw[binOp_rem];simp[Op.intDiv,h0],trivial⟩
 case and=>exact⟨by rw[binOp_and,intBits_and];simp,trivial⟩
 case or=>exact⟨by rw[binOp_or,intBits_or];simp,trivial⟩
 case xor=>exact⟨by rw[binOp_xor,intBits_xor];simp,trivial⟩
 case andNot=>exact⟨by rw[binOp_andNot,intBits_andNot];simp,trivial⟩
 case eql=>exact⟨by rw[binOp_eql];simp,trivial⟩
 case neq=>exact⟨by rw[binOp_neq];simp,trivial⟩
 case lss=>exact⟨by rw[binOp_lss];simp,trivial⟩
 case leq=>exact⟨by rw[binOp_leq];simp,trivial⟩
 case gtr=>exact⟨by rw[binOp_gtr];simp,trivial⟩
 case geq=>exact⟨by rw[binOp_geq];simp,trivial⟩
theorem Xl{f:Field}{kd:Nat}{x y:AV}{b:Bool}{u v:Value}(hf:Qw P f kd=true)(h:Iw kd x y=some b)(hx:VR P β w I x u)(hy:VR P β w I y v)(d:Nat):
 (Op.equalIn (d + 1) f.type u v).run P w = .ok b w /\ f.name ≠ "_" /\ (isAgg f.type).run P w = .ok false w := by
 unfold Qw at hf;simp only[aJ,bne_iff_ne,ne_eq]at hf;obtain⟨hname,hf⟩:=hf;unfold Iw at h;split at h
 ·split at h
  ·rename_i hk;subst hk;cases h;simp only[VR,TR]at hx hy;obtain⟨rfl,_⟩:=hx;obtain⟨rfl,_⟩:=hy;split at hf<;>first |(rename_i hu;exact⟨run_equalIn_int w d _ _ _ _ _ hu,hname,by simp[isAgg,run_underlying hu]⟩) |(simp at hf)
  ·cases h
 ·cases h;simp only[VR,TR]at hx hy;obtain⟨rfl,_⟩:=hx;obtain⟨rfl,_⟩:=hy;split at hf<;>first |(rename_i hu;exact⟨run_equalIn_bool w d _ _ _ hu,hname,by simp[isAgg,run_underlying hu]⟩) |(simp at hf)
 ·cases h;simp only[VR,TR]at hx hy;obtain⟨rfl,_⟩:=hx;obtain⟨rfl,_⟩:=hy;split at hf<;>first |(rename_i hu;exact⟨run_equalIn_string w d _ _ _ hu,hname,by simp[isAgg,run_underlying hu]⟩) |(simp at hf)
 ·cases h
theorem HY(d:Nat)(us vs:List Value):∀(fs:List Field)(ks:List Nat)(n:Nat)(xs ys:List AV)(b:Bool),fp P n fs ks=true->qL ks xs ys=some b->
 be P β w I xs (us.drop n)->be P β w I ys (vs.drop n)->(Op.eqFields (d+1) us.toArray vs.toArray fs).run P w= .ok b w
 |[],[],n,xs,ys,b,_,h,_,_=>by
  cases xs<;>cases ys<;>simp[qL]at h;subst h;simp[Op.eqFields]
 |f::fs,k::ks,n,xs,ys,b,hc,h,hx,hy=>by
  cases xs<;>cases ys<;>simp only[qL,reduceCtorEq]at h;rename_i x xs y ys;simp only[fp,aJ,beq_iff_eq]at hc;obtain⟨⟨hoff,hcf⟩,hrest⟩:=hc;cases h1:Iw k x y with
  |none=>simp[h1]at h
  |some a=>
   cases h2:qL ks xs ys with
   |none=>simp[h1,h2]at h
   |some c=>
    simp only[h1,h2,af,ay]at h;subst h;have ux:∀(us:List Value) (xs:List AV) (x:AV),be P β w I (x::xs) (us.drop n)->∃u,us[n]? =some u/\VR P β w I x u/\be P β w I xs (us.drop (n+1)):=by
     intro us xs x hx;have hlt:n<us.length:=by
      have:=be.length _ _ hx;simp at this;omega
     rw[List.drop_eq_getElem_cons hlt]at hx;simp only[be]at hx;exact⟨us[n],cZ hlt,hx.1,hx.2⟩
    obtain⟨u,hu,hxu,hxs⟩:=ux us xs x hx;obtain⟨v,hv,hyv,hys⟩:=ux vs ys y hy;have⟨e1,e2,e3⟩:=Xl hcf h1 hxu hyv d;have ih:=HY d us vs fs ks (n+1) xs ys c hrest h2 hxs hys;have hp:∀(zs:List Value) (z:Value),zs[n]? =some z->(Go.part f.type zs.toArray f.offset).run P w= .ok z w:=by
     intro zs z hz;simp[Go.part,e3,hoff,hz]
    simp only[Op.eqFields,e2,ne_eq,not_false_eq_true,if_true,Sem.run_bind,hp us u hu,hp vs v hv,Result.andThen_ok,e1,Sem.run_ite,Sem.run_pure,ih];cases a<;>simp
 |[],_::_,_,_,_,_,hc,_,_,_=>by simp[fp]at hc
 |_::_,[],_,_,_,_,hc,_,_,_=>by simp[fp]at hc
theorem abO(hT:eY P T){op:BinOp}{t:TypeId}{x y:AV}{xo yo:Operand}{u v:Value}{ab:Out}(ha:UI T op t x y=some ab)(cD:ab.ob)(hx:VR P β w I x u)(hy:VR P β w I y v):
 ∃z,(do eqGuard op t xo yo u v;binOp op t u v:Sem Value).run P w= .ok z w/\VR P β w I ab.v z/\ab.upd=[]:=by
 unfold UI at ha;split at ha
 ·rename_i k a yk b;simp only[VR,TR]at hx hy;obtain⟨rfl,_⟩:=hx;obtain⟨rfl,_⟩:=hy;split at ha
  ·rename_i hk;cases har:Qx op k a b with
   |none=>simp[har]at ha
   |some p=>
    obtain⟨z,ob⟩:=p;simp only[har,af,ay]at ha;subst ha;have⟨h1,h2⟩:=Xk (P:=P) (w:=w) (t:=t) hk har cD;exact⟨z,by simp[eqGuard_at_int,h1],by simp only[VR,TR];exact⟨trivial,h2⟩,rfl⟩
  ·cases ha
 ·rename_i a b;simp only[VR,TR]at hx hy;obtain⟨rfl,_⟩:=hx;obtain⟨rfl,_⟩:=hy;cases op<;>simp only[pv,lv,ay,reduceCtorEq]at ha<;>subst ha
  ·have hs:¬((a.size+b.size:Nat):Int)>i64.max:=by
    have:a.size+b.size<=maxLen:=cD;have h2:i64.max=9223372036854775807:=(by decide);unfold maxLen at this;omega
   exact⟨.string (a++b),by simp only[eqGuard_at_string,binOp,Op.stringOp,bf hs];simp,by simp only[VR,TR];exact⟨trivial,trivial⟩,rfl⟩
  ·exact⟨.bool (a.toList==b.toList),by simp[eqGuard_at_string,binOp,Op.stringOp],by simp only[VR,TR];exact⟨trivial,trivial⟩,rfl⟩
  ·exact⟨.bool (!(a.toList==b.toList)),by simp[eqGuard_at_string,binOp,Op.stringOp],by simp only[VR,TR];exact⟨trivial,trivial⟩,rfl⟩
  ·exact⟨.bool (Op.bytesLess a.toList b.toList),by simp[eqGuard_at_string,binOp,Op.stringOp],by simp only[VR,TR];exact⟨trivial,trivial⟩,rfl⟩
  ·exact⟨.bool (!(Op.bytesLess a.toList b.toList || a.toList==b.toList)),by simp[eqGuard_at_string,binOp,Op.stringOp],by simp only[VR,TR];exact⟨trivial,trivial⟩,rfl⟩
 ·rename_i a b;simp only[VR,TR]at hx hy;obtain⟨rfl,_⟩:=hx;obtain⟨rfl,_⟩:=hy;cases hti:T t with
  |none=>simp[hti]at ha
  |some ti=>
   have ht:=hT t ti hti;simp only[hti,af]at ha;have ep:ti.k= .bool->P.underlying t=some .bool:=λhk=>by
    obtain⟨info,d,z,h1,h2,h3,h4,h5,h6,h7,h8⟩:=ht.ex;rw[hk]at h8;rw[h2,h8]
   split at ha
   ·rename_i hk;simp only[pv,ay]at ha;subst ha;exact⟨.bool (a==b),by simp[eqGuard_at_bool,binOp,run_equal_bool w t a b (ep hk)],by simp only[VR,TR];exact⟨trivial,trivial⟩,rfl⟩
   ·rename_i hk;simp only[pv,ay]at ha;subst ha;exact⟨.bool (!(a==b)),by simp[eqGuard_at_bool,binOp,run_equal_bool w t a b (ep hk)],by simp only[VR,TR];exact⟨trivial,trivial⟩,rfl⟩
   ·cases ha
 ·rename_i xs ys;simp only[VR]at hx hy;obtain⟨us,rfl,uC⟩:=hx;obtain⟨vs,rfl,hvs⟩:=hy;cases hti:T t with
  |none=>simp[hti]at ha
  |some ti=>
   have ht:=hT t ti hti;simp only[hti,af]at ha;split at ha
   ·cases ha
   ·rename_i hne;rcases ht.cmp hne with ⟨fa,h1,h2,h3,h4⟩ |⟨h9,_⟩
    rotate_left
    ·rw[h9,afY]at ha;simp at ha
    cases hc:qL ti.cmp xs ys with
    |none=>simp[hc]at ha
    |some b=>
     simp only[hc,af]at ha;have hfo:P.fieldsOf t=fa:=(by simp[Program.fieldsOf,h1]);have heq:(Op.equalIn 10000 t (.agg us) (.agg vs)).run P w= .ok b w:=by
      rw[run_equalIn_struct w 9999 t us vs (by rw[hfo];exact h1) h2,hfo];have:=HY (P:=P) (w:=w) 9998 us.toList vs.toList fa.toList ti.cmp 0 xs ys b h4 hc (by simpa using uC) (by simpa using hvs);simpa using this
     have hgd:∀op,(eqGuard op t xo yo (.agg us) (.agg vs)).run P w= .ok () w:=λop=>run_eqGuard_agg w op t xo yo us vs h3;cases op<;>simp only[pv,ay,reduceCtorEq]at ha<;>subst ha
     ·exact⟨.bool b,by simp[hgd,run_eql_struct,heq],by simp only[VR,TR];exact⟨trivial,trivial⟩,rfl⟩
     ·exact⟨.bool (!b),by simp[hgd,run_neq_struct,heq],by simp only[VR,TR];exact⟨trivial,trivial⟩,rfl⟩
 ·cases ha
theorem aeA{op:UnOp}{x:AV}{v:Value}{ab:Out}(ha:HP op x=some ab)(hx:VR P β w I x v):∃z,(Op.unary op v).run P w= .ok z w/\VR P β w I ab.v z/\ab.upd=[]:=by
 unfold HP at ha;split at ha
 ·simp only[pv,ay]at ha;subst ha;simp only[VR,TR]at hx;obtain⟨rfl,_⟩:=hx;exact⟨_,by simp[Op.unary];rfl,by simp only[VR,TR];exact⟨trivial,trivial⟩,rfl⟩
 ·simp only[pv,ay]at ha;subst ha;simp only[VR,TR]at hx;obtain⟨rfl,_⟩:=hx;exact⟨_,by simp only[Op.unary,Op.intArith];rfl,by simp only[VR,TR];exact⟨trivial,trivial⟩,rfl⟩
 ·cases ha
theorem Ju(mx:Bool)(k:IntKind):∀(r:List AV)(vs:List Value)(a n:Int),Bu mx k a r=some n->be P β w I r vs->
 (vs.foldlM (if mx then Builtin.max2 else Builtin.min2) (.int k a)).run P w= .ok (.int k n) w
 |[],[],a,n,h,_=>by simp only[Bu,ay]at h;subst h;simp
 |x::r,v::vs,a,n,h,hv=>by
  simp only[be]at hv;have hx:∃k' b,x= .t (.sc (.int k' b)):=by
   unfold Bu at h;split at h
   ·cases ‹_::_=_›
   ·rename_i heq;injection heq with h1 h2;exact⟨_,_,h1⟩
   ·cases h
  obtain⟨k',b,rfl⟩:=hx;simp only[Bu]at h;split at h
  ·rename_i hk;subst hk;simp only[VR,TR]at hv;obtain⟨⟨rfl,_⟩,hv⟩:=hv;have ih:=Ju mx k' r vs _ n h hv;cases mx
   ·simp only[Bool.false_eq_true,if_false]at ih ⊢;simp only[List.foldlM_cons,Builtin.min2,Sem.run_bind,Sem.run_pure,Result.andThen_ok];rw[show (if b<a then b else a)=min a b by rw[Int.min_def];split<;>split<;>omega];exact ih
   ·simp only[if_true]at ih ⊢;simp only[List.foldlM_cons,Builtin.max2,Sem.run_bind,Sem.run_pure,Result.andThen_ok];rw[show (if b>a then b else a)=max a b by rw[Int.max_def];split<;>split<;>omega];exact ih
  ·cases h
 |[],_::_,_,_,_,hv=>by simp[be]at hv
 |_::_,[],_,_,_,hv=>by simp[be]at hv
theorem VL{mx:Bool}{args:List AV}{vs:Array Value}{cW:Array TypeId}{ty:TypeId}{ab:Out}(ha:B4 mx args=some ab)(hx:be P β w I args vs.toList):
 ∃z,((if mx then Builtin.max_ else Builtin.min_) cW ty vs).run P w= .ok z w/\VR P β w I ab.v z/\ab.upd=[]:=by
 unfold B4 at ha;split at ha
 ·rename_i k a r;cases hf:Bu mx k a r with
  |none=>simp[hf]at ha
  |some n=>
   simp only[hf,af,pv,ay]at ha;subst ha;cases hvs:vs.toList with
   |nil=>rw[hvs]at hx;simp[be]at hx
   |cons v vs'=>
    rw[hvs]at hx;simp only[be,VR,TR]at hx;obtain⟨⟨rfl,_⟩,hr⟩:=hx;have:=Ju (P:=P) mx k r vs' a n hf hr;refine⟨.int k n,?_,by simp only[VR,TR];exact⟨trivial,trivial⟩,rfl⟩;cases mx
    ·simpa[Builtin.min_,hvs]using this
    ·simpa[Builtin.max_,hvs]using this
 ·cases ha
end
section
variable {P:Program} {T:ea} {w0:World} {O0:js} {β:Nat->Option cA} {I:Nat->Prop} {obj:Nat->Option aS} {w:World} {i:Nat}
theorem abP(hT:eY P T){t ty:TypeId}{x:AV}{co:ij}{v:Value}{ab:Out}(ha:Y1 T t x co=some ab)(cD:ab.ob)(hx:VR P β w I x v):
 ∃z,(Builtin.len_ #[t] ty #[v]).run P w= .ok z w/\VR P β w I ab.v z/\ab.upd=[]:=by
 unfold Y1 at ha;cases hti:T t with
 |none=>simp[hti]at ha
 |some ti=>
  have ht:=hT t ti hti;simp only[hti,af]at ha;have hsl:∀e b n c,ti.k= .slice e->(Builtin.len_ #[t] ty #[.slice b n c]).run P w= .ok (goInt n) w:=λe b n c hk=>by simp[Builtin.len_,run_underlying (gH ht hk)]
  split at ha
  ·rename_i e rows n hk;simp only[lv,ay]at ha;subst ha;have cD:n=_:=cD;subst cD;simp only[VR,TR]at hx;rcases hx with ⟨rfl,_,_,rfl,_⟩ |⟨b,aa,cap,sz,rfl,_⟩
   ·exact⟨_,hsl _ _ _ _ hk,by simp only[VR,TR,goInt];exact⟨by simp,trivial⟩,rfl⟩
   ·exact⟨_,hsl _ _ _ _ hk,by simp only[VR,TR,goInt];exact⟨trivial,trivial⟩,rfl⟩
  ·rename_i e k aa len n hk;simp only[lv,ay]at ha;subst ha;have cD:n=_:=cD;subst cD;simp only[VR]at hx;rcases hx with ⟨_,rfl,_,rfl⟩ |⟨b,sz,m,cap,a,_,rfl,_⟩
   ·exact⟨_,hsl _ _ _ _ hk,by simp only[VR,TR,goInt];exact⟨trivial,trivial⟩,rfl⟩
   ·exact⟨_,hsl _ _ _ _ hk,by simp only[VR,TR,goInt];exact⟨trivial,trivial⟩,rfl⟩
  ·rename_i e k aa len hk _;simp only[pv,ay]at ha;subst ha;simp only[VR]at hx;rcases hx with ⟨_,rfl,_,rfl⟩ |⟨b,sz,m,cap,a,_,rfl,_⟩
   ·exact⟨_,hsl _ _ _ _ hk,by simp only[VR,TR,goInt];exact⟨trivial,trivial⟩,rfl⟩
   ·exact⟨_,hsl _ _ _ _ hk,by simp only[VR,TR,goInt];exact⟨trivial,trivial⟩,rfl⟩
  ·rename_i e k len hk;simp only[pv,ay]at ha;subst ha;simp only[VR]at hx;rcases hx with ⟨rfl,rfl⟩ |⟨_,b,sz,m,cap,a,_,rfl,_⟩
   ·exact⟨_,hsl _ _ _ _ hk,by simp only[VR,TR,goInt];exact⟨trivial,trivial⟩,rfl⟩
   ·exact⟨_,hsl _ _ _ _ hk,by simp only[VR,TR,goInt];exact⟨trivial,trivial⟩,rfl⟩
  ·rename_i e hk;simp only[pv,ay]at ha;subst ha;simp only[VR]at hx;subst hx;exact⟨_,hsl _ _ _ _ hk,by simp only[VR,TR,goInt];exact⟨by simp,trivial⟩,rfl⟩
  ·rename_i s hk;simp only[pv,ay]at ha;subst ha;simp only[VR,TR]at hx;obtain⟨rfl,_⟩:=hx;have ep:P.underlying t=some .string:=by
    obtain⟨info,d,z,h1,h2,h3,h4,h5,h6,h7,h8⟩:=ht.ex;rw[hk]at h8;rw[h2,h8]
   exact⟨_,by simp[Builtin.len_,run_underlying ep];rfl,by simp only[VR,TR,goInt];exact⟨trivial,trivial⟩,rfl⟩
  ·cases ha
theorem VN(vs:List Value)(aa:Nat):∀(ps:List Value)(n:Nat)(cs:Array Value),aa+n+ps.length<=cs.size->
 (ps.zipIdx n).foldl (λ cs (c,j)=>cs.setIfInBounds (aa+j) c) cs=((cs.toList.take (aa+n))++ps++cs.toList.drop (aa+n+ps.length)).toArray
 |[],n,cs,_=>by simp
 |p::ps,n,cs,h=>by
  simp only[bI]at h;rw[List.zipIdx_cons,List.foldl_cons,VN vs aa ps (n+1) _ (by simp;omega)];congr 1;rw[Array.toList_setIfInBounds];have h1:aa+n<cs.toList.length:=by simp;omega
  rw[show aa+(n+1)=aa+n+1 by omega,jD (by simpa using h1)];rw[List.take_set,List.set_eq_of_length_le (by simp;omega)];simp only[List.getElem_set_self,aM,bI,cons_append,bK];congr 3;rw[List.drop_set_of_lt (by omega)];congr 1;omega
theorem ahV{cells cs:List AV}{us vs:List Value}{aa:Nat}(h1:be P β w I cells us)(h2:be P β w I cs vs):be P β w I (put' cells aa cs) (us.take aa++vs++us.drop (aa+vs.length)):=by
 unfold put';rw[be.length _ _ h2];exact be.append _ _ _ _ (be.append _ _ _ _ (be.take _ _ _ h1) h2) (be.drop _ _ _ h1)
theorem xU{place m9:Nat->Option (Nat×Nat)}(hpl:∀j p,place j=some p->m9 j=some p):∀(parts:List (Nat×AV))(vs:List (Nat×Value))(cells:List AV)(us:Array Value)(ab:List AV),
 CW place cells parts=some ab->be P β w I cells us.toList->parts.map (·.1)=vs.map (·.1)->be P β w I (parts.map (·.2)) (vs.map (·.2))->
 ∃zs,Instr.fill m9 us vs=some zs/\be P β w I ab zs.toList
 |[],[],cells,us,ab,h,hc,_,_=>by simp only[CW,ay]at h;subst h;exact⟨us,rfl,hc⟩
 |(j,x)::ag,(j',v)::vs,cells,us,ab,h,hc,hk,hv=>by
  simp only[aF,List.cons.injEq]at hk;obtain⟨rfl,hk⟩:=hk;simp only[aF,be]at hv;simp only[CW]at h;cases hp:place j with
  |none=>simp[hp]at h
  |some p=>
   obtain⟨aa,size⟩:=p;simp only[hp,af]at h;cases hcs:cellsOf x with
   |none=>simp[hcs]at h
   |some cs=>
    simp only[hcs,af]at h;split at h
    ·rename_i hl;have⟨g1,g2⟩:=yV hcs hv.1;have hlen:=be.length _ _ g1;have hlc:=be.length _ _ hc;simp only[Array.length_toList]at hlen hlc;have hnew:=ahV (aa:=aa) hc g1;have:=xU hpl ag vs _ (us.toList.take aa++v.cells.toList++us.toList.drop (aa+v.cells.toList.length)).toArray ab h (by simpa using hnew) hk hv.2;obtain⟨zs,hz,hz2⟩:=this;refine⟨zs,?_,hz2⟩;simp only[Instr.fill,hpl j _ hp];have hsz:v.cells.size=size:=(by omega);have hno:¬(v.cells.size≠size\/aa+v.cells.size>us.size):=(by omega);rw[bf (by simp only[Bool.or_eq_true,aR];exact hno)];have vf:=VN [] aa v.cells.toList 0 us (by simp;omega);simp only[Nat.add_zero]at vf;rw[<- hz,<- vf];congr 1;rw[<- Array.foldl_toList,Array.toList_zipIdx]
    ·cases h
 |[],_::_,_,_,_,_,_,hk,_=>by simp at hk
 |_::_,[],_,_,_,_,_,hk,_=>by simp at hk
theorem CX(hT:eY P T):∀(fs:List Field),(∀ f∈fs,(T f.type).isSome=true)->
 ∃ps:List (Nat×Nat),(fs.mapM (λ f=>do pure (f.offset,<- sizeOf f.type):Field->Sem (Nat×Nat))).run P w= .ok ps w/\ps.map some=fs.map λf=>(T f.type).bind λui=>some (f.offset,ui.size)
 |[],_=>⟨[],by simp,rfl⟩
 |f::fs,h=>by
  obtain⟨ui,tD⟩:=Option.isSome_iff_exists.1 (h f (by simp));obtain⟨ps,h1,h2⟩:=CX hT fs (λ g hg=>h g (by simp[hg]));refine⟨(f.offset,ui.size)::ps,?_,by simp[tD,h2]⟩;simp only[List.mapM_cons,Sem.run_bind,(hT _ _ tD).size (w:=w),Result.andThen_ok,Sem.run_pure,h1]
theorem Xm(hT:eY P T){t:TypeId}{parts:List (Nat×AV)}{vs:Array (Nat×Value)}{ab:Out}(ha:Qz T t parts=some ab)
 (hk:parts.map (·.1)=vs.toList.map (·.1)) (hv:be P β w I (parts.map (·.2)) (vs.toList.map (·.2))):∃z,(Instr.build t vs).run P w= .ok z w/\VR P β w I ab.v z/\ab.upd=[]:=by
 unfold Qz at ha;cases hti:T t with
 |none=>simp[hti]at ha
 |some ti=>
  have ht:=hT t ti hti;simp only[hti,af]at ha;have⟨z,hz,hz2⟩:=ht.zeroV (w:=w);split at ha
  ·rename_i fs hkd;split at ha
   ·rename_i hall;generalize hpl:(λ (j:Nat)=>(fs[j]?).bind λ(p:Nat×TypeId)=>(T p.2).bind λui=>some (p.1,ui.size))=place at ha;cases hf:CW place (ti.zero.map cv) parts with
    |none=>simp[hf]at ha
    |some cells=>
     simp only[hf,af,pv,ay]at ha;subst ha;obtain⟨info,d,z',h1,h2,h3,h4,h5,h6,h7,h8⟩:=ht.ex;rw[hkd]at h8;obtain⟨fa,rfl,hfa⟩:=h8;have DG:∀f∈fa.toList,(T f.type).isSome=true:=λf hf=>by
      have:=all_eq_true.1 hall (f.offset,f.type) (by rw[<- hfa];exact mem_map.2 ⟨f,hf,rfl⟩);simpa using this
     have⟨ps,hp1,hp2⟩:=CX (w:=w) hT fa.toList DG;have hpl':∀j p,place j=some p->ps[j]? =some p:=by
      intro j p hj;rw[<- hpl]at hj;simp only at hj;have e1:(ps.map some)[j]? =some (some p):=by
       rw[hp2,List.getElem?_map];rw[<- hfa]at hj
       grind
      simpa using e1
     obtain⟨zs,hz3,A4⟩:=xU (m9:=λj=>ps.toArray[j]?) (λ j p h=>by simpa using hpl' j p h) parts vs.toList _ z.cells cells hf (by rw[hz2];exact be.cv _) hk hv;refine⟨.agg zs,?_,by simp only[VR];exact⟨zs,rfl,A4⟩,rfl⟩;have hm:(fa.mapM (λ f=>do pure (f.offset,<- sizeOf f.type):Field->Sem (Nat×Nat))).run P w= .ok ps.toArray w:=(by rw[Array.mapM_eq_mapM_toList,Sem.run_map,hp1];rfl);simp only[Instr.build,Sem.run_bind,hz,Result.andThen_ok,run_underlying h2,hm,hz3,Sem.run_pure]
   ·cases ha
  ·rename_i n e hkd;cases fy:T e with
   |none=>simp[fy]at ha
   |some ei=>
    have he:=hT e ei fy;simp only[fy,af]at ha;cases hf:CW (λ j=>some (j*ei.size,ei.size)) (ti.zero.map cv) parts with
    |none=>simp[hf]at ha
    |some cells=>
     simp only[hf,af,pv,ay]at ha;subst ha;obtain⟨zs,hz3,A4⟩:=xU (m9:=λj=>some (j*ei.size,ei.size)) (λ j p h=>h) parts vs.toList _ z.cells cells hf (by rw[hz2];exact be.cv _) hk hv;refine⟨.agg zs,?_,by simp only[VR];exact⟨zs,rfl,A4⟩,rfl⟩;simp only[Instr.build,Sem.run_bind,hz,Result.andThen_ok,run_underlying (QE ht hkd),he.size (w:=w),hz3,Sem.run_pure]
  ·cases ha
end
section
variable {P:Program} {T:ea} {w0:World} {O0:js} {β:Nat->Option cA} {I:Nat->Prop} {obj:Nat->Option aS} {w:World} {i:Nat}
theorem Mem.tR{i k:Nat}{o o1:aS}{B C:cA}(h:Mem P w0 O0 β I obj w)(hn:β i=none)(hk:obj k=some o)(hβ:β k=some B)(hC:C.num=B.num)(hO:OR P β w I o1 C):
 Step β I w i (ins β i C) I w/\Mem P w0 O0 (ins β i C) I (bR obj [(i,some o1),(k,none)]) w:=by
 have hS:Step β I w i (ins β i C) I w:=⟨λ j hj=>by simp[ins,gC.ne hj],lZ hn,λ_ _=>rfl,λ_ h=>h⟩;have look:∀j o',bR obj [(i,some o1),(k,none)] j=some o'->(j=i/\o'=o1)\/(j≠i/\j≠k/\obj j=some o'):=by
  intro j o' hj;simp only[bR]at hj;split at hj
  ·injection hj with hj;exact .inl ⟨‹_›,hj.symm⟩
  ·split at hj
   ·cases hj
   ·exact .inr ⟨‹_›,‹_›,hj⟩
 refine⟨hS,?_⟩;constructor
 ·intro j o' hj;rcases look j o' hj with ⟨rfl,rfl⟩ |⟨h1,h2,h3⟩
  ·exact⟨C,by simp[ins],OR.mono hS.ext hS.same hS.inc (λ _ _=>rfl) hO⟩
  ·have⟨B',hB',hO⟩:=h.cE j o' h3;exact⟨B',lZ hn _ _ hB',OR.mono hS.ext hS.same hS.inc (λ _ _=>rfl) hO⟩
 ·intro j j' o1 o2 B1 B2 b h1 h2 h3 h4 h5 h6;rcases look j o1 h1 with ⟨rfl,rfl⟩ |⟨a1,a2,a3⟩<;>rcases look j' o2 h2 with ⟨rfl,rfl⟩ |⟨c1,c2,c3⟩
  ·rfl
  ·simp only[ins,if_true,ay]at h3;simp only[ins,c1,if_false]at h4;subst h3;exact absurd (h.fY k j' _ _ B B2 b hk c3 hβ h4 (hC ▸ h5) h6) (λ e=>c2 e.symm)
  ·simp only[ins,if_true,ay]at h4;simp only[ins,a1,if_false]at h3;subst h4;exact absurd (h.fY j k _ _ B1 B b a3 hk h3 hβ h5 (hC ▸ h6)) (λ e=>a2 e)
  ·simp only[ins,a1,c1,if_false]at h3 h4;exact h.fY j j' o1 o2 B1 B2 b a3 c3 h3 h4 h5 h6
 ·intro j o' B1 b h1 h2 h3;rcases look j o' h1 with ⟨rfl,rfl⟩ |⟨a1,a2,a3⟩
  ·simp only[ins,if_true,ay]at h2;subst h2;exact h.ownB k _ B b hk hβ (hC ▸ h3)
  ·simp only[ins,a1,if_false]at h2;exact h.ownB j o' B1 b a3 h2 h3
 ·exact h.lt
 ·exact h.up
 ·exact h.keep
 ·exact h.le
 ·exact h.os
 ·exact h.tape
 ·exact h.output
 ·intro j C hj;exact lZ hn _ _ (h.anch j C hj)
 ·exact h.vars
theorem HZ:∀(rows:List (List AV))(c:Array Value)(aa sz:Nat)(l:List Value),(∀ r∈rows,r.length=sz/\r.all nJ=true)->be P β w I rows.flatten l->(∀ j u,l[j]? =some u->c[aa+j]? =some u)->br P β w I rows c aa sz
 |[],_,_,_,_,_,_,_=>by simp[br]
 |r::rs,c,aa,sz,l,hr,hl,hc=>by
  obtain⟨h1,h2⟩:=hr r (by simp);simp only[flatten_cons]at hl;have ht:=be.take sz _ _ hl;have hd:=be.drop sz _ _ hl;rw[List.take_append_of_le_length (by omega),take_of_length_le (by omega)]at ht;rw[List.drop_append_of_le_length (by omega),List.drop_of_length_le (by omega),bK]at hd;simp only[br];refine⟨h1,cM.mS r _ c aa ht (λ u hu=>?_) (λ j u hj=>?_),HZ rs c (aa+sz) sz _ (λ r' hr'=>hr r' (by simp[hr'])) hd (λ j u hj=>?_)⟩
  ·obtain⟨j,hj⟩:=List.getElem?_of_mem hu;have hlen:=be.length _ _ ht;have hjl:j<r.length:=(by have:=(bX.1 hj).1;omega);obtain⟨u',hu',hv⟩:=be.get _ _ j _ ht (cZ hjl);rw[hj]at hu';injection hu' with hu';subst hu';exact VR.one (all_eq_true.1 h2 _ (List.getElem_mem hjl)) hv
  all_goals grind
theorem abQ{x:AV}{cs:List AV}(h:cellsOf x=some cs):cs.all nJ=true:=by
 cases x<;>simp only[cellsOf,ay,reduceCtorEq]at h
 case agg=>split at h<;>first |(cases h;assumption) |cases h
 all_goals subst h;simp[nJ]
theorem QG(size:Nat):∀(parts:List (Nat×AV))(rows ab:List (List AV)),Js size rows parts=some ab->(∀ r∈rows,r.length=size/\r.all nJ=true)->
 CW (λ j=>some (j*size,size)) rows.flatten parts=some ab.flatten/\(∀ r∈ab,r.length=size/\r.all nJ=true)/\ab.length=rows.length
 |[],rows,ab,h,hr=>by simp only[Js,ay]at h;subst h;exact⟨rfl,hr,rfl⟩
 |(j,x)::ag,rows,ab,h,hr=>by
  simp only[Js]at h;cases hcs:cellsOf x with
  |none=>simp[hcs]at h
  |some cs=>
   simp only[hcs,af]at h;split at h
   ·rename_i hl;obtain⟨h1,h2,h3⟩:=QG size ag (rows.set j cs) ab h (λ r hr'=>by
     rcases List.mem_or_eq_of_mem_set hr' with h4 |h4
     ·exact hr r h4
     ·rw[h4];exact⟨hl.1,abQ hcs⟩)
    refine⟨?_,h2,by simpa using h3⟩;have DA:∀(n:Nat) (rows:List (List AV)),(∀ r∈rows,r.length=size)->n<rows.length->(rows.set n cs).flatten=put' rows.flatten (n*size) cs/\n*size+cs.length<=rows.flatten.length:=by
     intro n
     induction n with
     |zero=>
      intro rows hr hn;cases rows with
      |nil=>simp at hn
      |cons r rs=>
       have:=hr r (by simp);simp only[List.set_cons_zero,flatten_cons,put',Nat.zero_mul,List.take_zero,bK,Nat.zero_add,dG];refine⟨?_,by omega⟩;rw[hl.1,List.drop_append_of_le_length (by omega),List.drop_of_length_le (by omega),bK]
     |succ n ih=>
      intro rows hr hn;cases rows with
      |nil=>simp at hn
      |cons r rs=>
       have hrl:=hr r (by simp);obtain⟨g1,g2⟩:=ih rs (λ r' h'=>hr r' (by simp[h'])) (by simpa using hn);have e1:(n+1)*size=r.length+n*size:=(by rw[Nat.add_mul];omega);simp only[List.set_cons_succ,flatten_cons,g1,put',e1,dG];refine⟨?_,by omega⟩;rw[List.take_length_add_append,show r.length+n*size+cs.length=r.length+(n*size+cs.length)by omega,List.drop_length_add_append];simp[aM]
    obtain⟨g1,g2⟩:=DA j rows (λ r h'=>(hr r h').1) hl.2;simp only[CW,af,hcs];rw[bn ⟨hl.1,g2⟩,<- g1];exact h1
   ·cases h
theorem Jv(hT:eY P T)(h:Mem P w0 O0 β I obj w)(hn:β (cy i)=none){t:TypeId}{len:Nat}{parts:List (Nat×AV)}{vs:Array (Nat×Value)}{ab:Out}{kp:Bool}(ha:tQ T i t len parts kp=some ab)
 (hk:parts.map (·.1)=vs.toList.map (·.1)) (hv:be P β w I (parts.map (·.2)) (vs.toList.map (·.2))):
 ∃u w' β',(Instr.buildSlice t len vs).run P w= .ok u w'/\Step β I w (cy i) β' I w'/\Mem P w0 O0 β' I (bR obj ab.upd) w'/\VR P β' w' I ab.v u:=by
 unfold tQ at ha;cases hti:T t with
 |none=>simp[hti]at ha
 |some ti=>
  have ht:=hT t ti hti;simp only[hti,af]at ha;split at ha
  ·rename_i e hkd;cases fy:T e with
   |none=>simp[fy]at ha
   |some ei=>
    have he:=hT e ei fy;simp only[fy,af]at ha;split at ha
    ·cases ha
    ·rename_i hno;simp only[not_or]at hno;cases hf:Js ei.size (List.replicate len (ei.zero.map cv)) parts with
     |none=>simp[hf]at ha
     |some rows=>
      simp only[hf,af,ay]at ha;subst ha;have⟨z,hz,hz2⟩:=he.zeroV (w:=w);have hzl:ei.zero.length=ei.size:=he.len;have hok:∀r∈List.replicate len (ei.zero.map cv),r.length=ei.size/\r.all nJ=true:=by
       intro r hr;obtain⟨_,rfl⟩:=List.mem_replicate.1 hr;refine⟨by simpa using hzl,?_⟩;rw[List.all_map,all_eq_true];intro v hvz;have h1:=all_eq_true.1 he.one v hvz;simp only[Function.comp,cv];split
       ·rfl
       ·rw[bn h1];rfl
      obtain⟨h1,h2,h3⟩:=QG ei.size parts _ rows hf hok;have hzs:z.cells.size=ei.size:=(by rw[<- Array.length_toList,hz2];exact hzl);have hinit:((Array.range (len*ei.size)).map (λ j=>z.cells[j%z.cells.size]!)).toList=(List.replicate len ei.zero).flatten:=by
       apply List.ext_getElem?;intro j;have hlen:∀n,((List.replicate n ei.zero).flatten).length=n*ei.size:=λn=>(by simp[hzl]);have hget:∀n j,j<n*ei.size->((List.replicate n ei.zero).flatten)[j]? =ei.zero[j%ei.size]? :=by
        intro n
        induction n with
        |zero=>intro j hj;simp at hj
        |succ n ih=>
         intro j hj;rw[List.replicate_succ,flatten_cons];by_cases hjs:j<ei.size
         ·rw[List.getElem?_append_left (by omega),Nat.mod_eq_of_lt hjs]
         ·rw[nY (by omega),hzl,ih _ (by rw[Nat.add_mul]at hj;omega)];rw[<- Nat.mod_eq_sub_mod (by omega)]
       by_cases hj:j<len*ei.size
       ·rw[hget len j hj,Array.getElem?_toList,Array.getElem?_map];have hm:j%ei.size<ei.size:=Nat.mod_lt _ (by omega);rw[show (Array.range (len*ei.size))[j]? =some j by simp[hj]];simp only[Option.map_some];rw[hzs,<- hz2,Array.getElem?_toList];simp[show j%ei.size<z.cells.size by omega]
       ·rw[List.getElem?_eq_none (by simp;omega),List.getElem?_eq_none (by rw[hlen];omega)]
      generalize hin:(Array.range (len*ei.size)).map (λ j=>z.cells[j%z.cells.size]!)=rh at hinit;obtain⟨zs,hz3,A4⟩:=xU (m9:=λj=>some (j*ei.size,ei.size)) (λ j p h=>h) parts vs.toList _ rh rows.flatten h1 (by
       rw[hinit];have:(List.replicate len (ei.zero.map cv)).flatten=((List.replicate len ei.zero).flatten).map cv:=by
        induction len with
        |zero=>rfl
        |succ n ih=>simp[List.replicate_succ]
       rw[this];exact be.cv _) hk hv
      have hrl:rows.length=len:=(by rw[h3];simp);obtain⟨hS,hM⟩:=Mem.alloc (o:=⟨ei.size,rows⟩) (c:=zs) (e:=e) h hn (HZ rows zs 0 ei.size zs.toList h2 A4 (λ j u hj=>by simpa using hj));refine⟨.slice (some ⟨w.heap.size,0,none⟩) len len,_,_,?_,hS,by cases kp<;>first |exact hM.tG |exact hM,?_⟩
      ·simp only[Instr.buildSlice,Sem.run_bind,run_underlying (gH ht hkd),Result.andThen_ok,he.size (w:=w)];rw[bf (by omega)];by_cases hl0:len*ei.size=0
       ·have hc0:rh=#[]:=(by rw[<- hin,hl0];simp);have e0:(Array.range (len*ei.size)).map (λ j=>(#[]:Array Value)[j%(#[]:Array Value).size]!)=rh:=(by rw[hc0,hl0];simp);simp only[hl0,if_true,Sem.run_pure,Result.andThen_ok,Sem.run_bind];rw[hl0]at e0;rw[e0,hz3];simp only[Sem.run_bind,newRow,run_newObj,Result.andThen_ok,Sem.run_pure];rfl
       ·simp only[hl0,if_false,Sem.run_bind,hz,Result.andThen_ok,Sem.run_pure];rw[hin,hz3];simp only[Sem.run_bind,newRow,run_newObj,Result.andThen_ok,Sem.run_pure];rfl
      ·simp only[VR];refine .inr ⟨w.heap.size,ei.size,uk zs.size,len,0,by simp[ins],rfl,aB _,?_,by simp⟩;have:=be.length _ _ A4;simp only[Array.length_toList]at this;rw[HN,HM,this,Nat.zero_add,Nat.zero_add,<- hrl];have hfl:∀(l:List (List AV)),(∀ r∈l,r.length=ei.size)->l.flatten.length=l.length*ei.size:=by
        intro l
        induction l with
        |nil=>simp
        |cons r rs ih=>intro h;simp only[flatten_cons,dG,bI,ih (λ r' h'=>h r' (by simp[h'])),h r (by simp)];rw[Nat.add_mul];omega
       rw[hfl rows (λ r hr=>(h2 r hr).1)];exact aB _
  ·cases ha
end
section
variable {P:Program} {T:ea} {w0:World} {O0:js} {β:Nat->Option cA} {I:Nat->Prop} {obj:Nat->Option aS} {w:World} {i:Nat}
theorem F9{d n:Int}{x:Option AV}{v:Option Value}(h:bnd d x=some n)(hx:∀y,x=some y->∃u,v=some u/\VR P β w I y u)(h0:x=none->v=none):(v=none/\n=d)\/∃k,v=some (.int k n):=by
 cases x with
 |none=>simp only[bnd,ay]at h;exact .inl ⟨h0 rfl,h.symm⟩
 |some y=>
  obtain⟨u,rfl,hu⟩:=hx y rfl;unfold bnd at h;split at h
  ·cases ‹some _=none›
  ·rename_i k m heq;cases heq;cases h;simp only[VR,TR]at hu;exact .inr ⟨k,by rw[hu.1]⟩
  ·cases h
theorem CY{rN hiv:Option Value}{l hh:Int}{len cap:Nat}(h1:(rN=none/\l=0)\/∃k,rN=some (.int k l))(h2:(hiv=none/\hh=(len:Int))\/∃k,hiv=some (.int k hh))(g0:0<=l)(g1:l<=hh)(g2:hh<=(cap:Int)):
 (Instr.sliceBounds true len cap rN hiv none).run P w= .ok (l.toNat,hh.toNat,cap) w:=by
 have hb:∀(k:IntKind) (n:Int) (y:Nat) am,0<=n->n<=(y:Int)->(Instr.sliceBound (.int k n) y am).run P w= .ok n.toNat w:=λk n y am a b=>by simp[Instr.sliceBound,asIntOf,a,b]
 rcases h1 with ⟨rfl,rfl⟩ |⟨k,rfl⟩<;>rcases h2 with ⟨rfl,rfl⟩ |⟨k',rfl⟩
 ·simp[Instr.sliceBounds]
 ·simp[Instr.sliceBounds,hb k' hh cap _ (by omega) g2]
 ·simp[Instr.sliceBounds,hb k l len _ g0 g1]
 ·have h3:=λam=>hb k l hh.toNat am g0 (by omega);simp[Instr.sliceBounds,hb k' hh cap _ (by omega) g2,h3]
theorem Xn(hT:eY P T)(h:Mem P w0 O0 β I obj w){t:TypeId}{x:AV}{lo hi:Option AV}{co:ij}{get:Nat->Option aS}{ab:Out}{v:Value}{rN hiv:Option Value}(hg:∀k o,get k=some o->obj k=some o)
 (ha:QB T t x lo hi co get=some ab) (cD:ab.ob) (hx:VR P β w I x v) (hlo:∀x,lo=some x->∃v,rN=some v/\VR P β w I x v) (hlo0:lo=none->rN=none) (hhi:∀x,hi=some x->∃v,hiv=some v/\VR P β w I x v) (hhi0:hi=none->hiv=none):
 ∃u,(Instr.sliceAt t v rN hiv none).run P w= .ok u w/\VR P β w I ab.v u/\ab.upd=[]:=by
 unfold QB at ha;cases hti:T t with
 |none=>simp[hti]at ha
 |some ti=>
  have ht:=hT t ti hti;simp only[hti,af]at ha;split at ha
  ·rename_i e hkd;cases fy:T e with
   |none=>simp[fy]at ha
   |some ei=>
    have he:=hT e ei fy;simp only[fy,af]at ha;have ep:=gH ht hkd
    have hrun:∀(a:Option Addr) (len cap:Nat) (l hh:Int),bnd 0 lo=some l->bnd len hi=some hh->0<=l->l<=hh->hh<=(cap:Int)->
     (Instr.sliceAt t (.slice a len cap) rN hiv none).run P w= .ok (.slice (if cap=l.toNat then a else a.map (·.add (l.toNat*ei.size))) (hh.toNat -l.toNat) (cap -l.toNat)) w:=by
     intro a len cap l hh b1 b2 b3 b4 b5;have:=CY (P:=P) (w:=w) (len:=len) (cap:=cap) (F9 b1 hlo hlo0) (F9 b2 hhi hhi0) b3 b4 b5;simp only[Instr.sliceAt,Instr.slice,Sem.run_bind,run_underlying ep,Result.andThen_ok,this,he.size (w:=w),Sem.run_pure]
    cases x<;>try simp only[reduceCtorEq]at ha
    case own k aa len=>
     cases hk:get k with
     |none=>simp[hk]at ha
     |some o=>
      simp only[hk,af]at ha;split at ha
      ·rename_i hsz;cases hl:bnd 0 lo with
       |none=>simp[hl]at ha
       |some l=>
        cases hh:bnd len hi with
        |none=>simp[hl,hh]at ha
        |some r=>
         simp only[hl,hh,af,lv,ay]at ha;subst ha;obtain⟨b1,b2,b3⟩:=cD;simp only[VR]at hx ⊢;rcases hx with ⟨h1,rfl,h2,h3⟩ |⟨b,sz,m,cap,a,h1,rfl,h2,h3,h4⟩
         ·subst h3;subst h2;have hr:r=0:=(by omega);have hl0:l=0:=(by omega);subst hr;subst hl0;refine⟨_,hrun _ _ _ _ _ hl hh b1 b2 (by omega),.inl ⟨h1,by simp,by simp,by simp⟩,trivial⟩
         ·refine⟨_,hrun _ _ _ _ _ hl hh b1 b2 (by omega),.inr ⟨b,sz,m,cap -l.toNat,if cap=l.toNat then a else a+l.toNat*ei.size,h1,?_,by omega,?_,?_⟩,trivial⟩
          ·split
           ·rfl
           ·simp[addr_add]
          ·have:aa+l.toNat+(cap -l.toNat)=aa+cap:=(by omega);rw[this];exact h3
          ·intro hc;have hcl:¬cap=l.toNat:=(by omega);rw[bf hcl,h4 (by omega)];have⟨B,hB,hO⟩:=h.cE k o (hg k o hk);rw[h1]at hB;cases hB;have hs:sz=o.sz:=hO.1;rw[hs,hsz,Nat.add_mul,Nat.add_assoc]
      ·cases ha
    case t x=>
     cases x<;>simp only[reduceCtorEq]at ha
     case sl rows=>
      cases co<;>simp only[reduceCtorEq]at ha
      case wj rs=>
       cases hl:bnd 0 lo with
       |none=>simp[hl]at ha
       |some l=>
        cases hh:bnd rows.length hi with
        |none=>simp[hl,hh]at ha
        |some r=>
         simp only[hl,hh,af,lv,ay]at ha;subst ha;obtain⟨b1,b2,b3,hrs,hall⟩:=cD;simp only[VR,TR]at hx ⊢;have hlen:rs.length=r.toNat -l.toNat:=(by rw[hrs];simp only[length_take,length_drop];omega);rcases hx with ⟨rfl,a,cap,rfl,hac⟩ |⟨b,aa,cap,sz,rfl,h1,h2,h3⟩
         ·simp only[List.length_nil]at b3;have hr:r=0:=(by omega);have hl0:l=0:=(by omega);subst hr;subst hl0;refine⟨_,hrun _ _ _ _ _ hl hh b1 b2 (by omega),.inl ⟨by rw[hrs];simp,a.map (·.add 0),cap,?_,λh0=>hac (by simpa using h0)⟩,trivial⟩;by_cases hc:cap=0
          ·subst hc;cases a<;>simp[Addr.add]
          ·simp[hc]
         ·refine⟨_,hrun _ _ _ _ _ hl hh b1 b2 (by omega),.inr ⟨b,if cap=l.toNat then aa else aa+l.toNat*ei.size,cap -l.toNat,sz,?_,by omega,h2,?_⟩,trivial⟩
          ·rw[hlen];split
           ·rfl
           ·simp[addr_add]
          ·by_cases hc:cap=l.toNat
           ·have:rs=[]:=eq_nil_of_length_eq_zero (by omega);rw[this];simp[cp]
           ·rw[bf hc,hrs];have hd:∀(n:Nat) (rows:List (List Tree)) (aa:Nat),cp w I rows b aa sz->cp w I (rows.drop n) b (aa+n*sz) sz:=by
             intro n
             induction n with
             |zero=>intro rows aa h;simpa using h
             |succ n ih=>
              intro rows aa h;cases rows with
              |nil=>simp[cp]
              |cons r rs=>
               simp only[cp]at h;rw[List.drop_succ_cons,show aa+(n+1)*sz=aa+sz+n*sz by rw[Nat.add_mul];omega];exact ih rs _ h.2.2
            have htk:∀(n:Nat) (rows:List (List Tree)) (aa:Nat),cp w I rows b aa sz->cp w I (rows.take n) b aa sz:=by
             intro n
             induction n with
             |zero=>intro rows aa h;simp[cp]
             |succ n ih=>
              intro rows aa h;cases rows with
              |nil=>simp[cp]
              |cons r rs=>
               simp only[cp]at h;simp only[List.take_succ_cons,cp];exact⟨h.1,h.2.1,ih rs _ h.2.2⟩
            by_cases hne:rows=[]
            ·subst hne;simp[cp]
            ·obtain⟨r0,ag,rfl⟩:=List.exists_cons_of_ne_nil hne;have hsz:ei.size=sz:=by
              have e1:=hall r0 (by simp);simp only[cp]at h3;omega
             rw[hsz];exact htk _ _ _ (hd _ _ _ h3)
  ·cases ha
end
section
variable {P:Program} {T:ea} {w0:World} {O0:js} {β:Nat->Option cA} {I:Nat->Prop} {obj:Nat->Option aS} {w:World} {i:Nat}
theorem Mem.oa{i:Nat}{o:aS}(h:Mem P w0 O0 β I obj w)(hn:β i=none)(ho:o.rows=[]):
 Step β I w i (ins β i .none) I w/\Mem P w0 O0 (ins β i .none) I (bR obj [(i,some o)]) w:=by
 have hS:Step β I w i (ins β i .none) I w:=⟨λ j hj=>by simp[ins,gC.ne hj],lZ hn,λ_ _=>rfl,λ_ h=>h⟩;refine⟨hS,?_⟩;constructor
 ·intro k o' hk;simp only[bR]at hk;split at hk
  ·cases hk;rename_i hki;exact⟨.none,by simp[ins,hki],ho⟩
  ·have⟨B,hB,hO⟩:=h.cE k o' hk;exact⟨B,lZ hn _ _ hB,OR.mono hS.ext hS.same hS.inc (λ _ _=>rfl) hO⟩
 ·intro k k' o1 o2 B1 B2 b h1 h2 h3 h4 h5 h6;simp only[bR]at h1 h2;simp only[ins]at h3 h4;split at h3
  ·cases h3;cases h5
  ·split at h4
   ·cases h4;cases h6
   ·rename_i a b;rw[bf a]at h1;rw[bf b]at h2;exact h.fY k k' o1 o2 B1 B2 _ h1 h2 h3 h4 h5 h6
 ·intro k o' B b h1 h2 h3;simp only[bR]at h1;simp only[ins]at h2;split at h2
  ·cases h2;cases h3
  ·rename_i a;rw[bf a]at h1;exact h.ownB k o' B b h1 h2 h3
 ·exact h.lt
 ·exact h.up
 ·exact h.keep
 ·exact h.le
 ·exact h.os
 ·exact h.tape
 ·exact h.output
 ·intro j C hj;exact lZ hn _ _ (h.anch j C hj)
 ·exact h.vars
theorem vZ:∀(rows:List (List AV))(c:Array Value)(aa sz:Nat)(l:List Value),(∀ r∈rows,r.length=sz)->be P β w I rows.flatten l->(∀ u∈l,oneCell u)->(∀ j u,l[j]? =some u->c[aa+j]? =some u)->br P β w I rows c aa sz
 |[],_,_,_,_,_,_,_,_=>by simp[br]
 |r::rs,c,aa,sz,l,hr,hl,h1,hc=>by
  have hrl:=hr r (by simp);simp only[flatten_cons]at hl;have ht:=be.take sz _ _ hl;have hd:=be.drop sz _ _ hl;rw[List.take_append_of_le_length (by omega),take_of_length_le (by omega)]at ht;rw[List.drop_append_of_le_length (by omega),List.drop_of_length_le (by omega),bK]at hd;simp only[br];refine⟨hrl,cM.mS r _ c aa ht (λ u hu=>h1 u (List.mem_of_mem_take hu)) (λ j u hj=>?_),vZ rs c (aa+sz) sz _ (λ r' hr'=>hr r' (by simp[hr'])) hd (λ u hu=>h1 u (List.mem_of_mem_drop hu)) (λ j u hj=>?_)⟩
  all_goals grind
theorem br.list:∀(rows:List (List AV))(c:Array Value)(aa sz:Nat),br P β w I rows c aa sz->∃l:List Value,be P β w I rows.flatten l/\(∀ u∈l,oneCell u)/\l.length=rows.length*sz/\(∀ r∈rows,r.length=sz)/\∀j u,l[j]? =some u->c[aa+j]? =some u
 |[],_,_,_,_=>⟨[],by simp[be],by simp,by simp,by simp,by simp⟩
 |r::rs,c,aa,sz,⟨h1,h2,h3⟩=>by
  have⟨l1,a1,a2,a3⟩:=cM.list r c aa h2;have⟨l2,b1,b2,b3,b4,b5⟩:=br.list rs c (aa+sz) sz h3;have hl1:l1.length=sz:=by rw[be.length _ _ a1,h1]
  refine⟨l1++l2,by simp only[flatten_cons];exact be.append _ _ _ _ a1 b1,λu hu=>?_,?_,λr' hr'=>?_,λj u hj=>?_⟩
  all_goals grind
theorem cp.list{b sz:Nat}:∀(rows:List (List Tree))(aa:Nat),cp w I rows b aa sz->∃l:List Value,be P β w I (aG rows).flatten l/\(∀ u∈l,oneCell u)/\l.length=rows.length*sz/\(∀ r∈aG rows,r.length=sz)/\∀j u,l[j]? =some u->w.cell? ⟨b,aa+j,none⟩=some u
 |[],_,_=>⟨[],by simp[aG,be],by simp,by simp,by simp[aG],by simp⟩
 |r::rs,aa,h=>by
  simp only[cp]at h;obtain⟨h1,h2,h3⟩:=h;have⟨l1,a1,a3⟩:=dc.list (P:=P) (β:=β) r b aa h2;have⟨l2,b1,b2,b3,b4,b5⟩:=cp.list rs (aa+sz) h3;have hl1:l1.length=sz:=by rw[be.length _ _ a1];simpa using h1
  have a2:∀u∈l1,oneCell u:=by
   intro u hu;obtain⟨j,hj⟩:=List.getElem?_of_mem hu;have hjl:j<(r.map AV.t).length:=(by have:=(bX.1 hj).1;rw[be.length _ _ a1]at this;exact this);obtain⟨u',hu',hv⟩:=be.get _ _ j _ a1 (cZ hjl);rw[hj]at hu';injection hu' with hu';subst hu';refine VR.one ?_ hv;simp[nJ]
  refine⟨l1++l2,by simp only[aG,aF,flatten_cons];exact be.append _ _ _ _ a1 b1,λu hu=>?_,?_,λr' hr'=>?_,λj u hj=>?_⟩
  ·rcases aY.1 hu with hu |hu
   ·exact a2 u hu
   ·exact b2 u hu
  ·simp only[dG,bI,hl1,b3,Nat.add_mul];omega
  ·simp only[aG,aF,aN]at hr';rcases hr' with rfl |hr'
   ·simpa using h1
   ·exact b4 r' hr'
  ·by_cases hjs:j<sz
   all_goals grind
def No(P:Program)(β:Nat->Option cA)(w:World)(I:Nat->Prop)(size n:Nat)(an:List (List AV))(v:Value):Prop:=
 (n=0/\∃b c,v= .slice b 0 c)\/∃(a:Addr)(c:Nat)(l:List Value),v= .slice (some a) n c/\0<n/\be P β w I an.flatten l/\(∀ u∈l,oneCell u)/\l.length=n*size/\(∀ r∈an,r.length=size)/\∀j u,l[j]? =some u->w.cell? (a.add j)=some u
theorem VO(h:Mem P w0 O0 β I obj w){size n:Nat}{ob:Prop}{an:List (List AV)}{y:AV}{get:Nat->Option aS}{v:Value}(hg:∀k o,get k=some o->obj k=some o)
 (hs:QC size y get=some (n,ob,an)) (cD:ob) (hl:an.length=n) (hy:VR P β w I y v):No P β w I size n an v:=by
 unfold QC at hs;split at hs
 ·rename_i k aa len;cases hk:get k with
  |none=>simp[hk]at hs
  |some o=>
   simp only[hk,af]at hs;split at hs
   ·rename_i hsz;simp only[ay,Prod.mk.injEq]at hs;obtain⟨rfl,_,rfl⟩:=hs;simp only[VR]at hy;rcases hy with ⟨_,rfl,_,rfl⟩ |⟨b,sz,m,cap,a,h1,rfl,h2,h3,h4⟩
    ·exact .inl ⟨rfl,_,_,rfl⟩
    ·by_cases h0:len=0
     ·subst h0;exact .inl ⟨rfl,_,_,rfl⟩
     ·have⟨B,hB,hO⟩:=h.cE k o (hg k o hk);rw[h1]at hB;cases hB;obtain⟨hs,c,e,hc,_,hO⟩:=hO;have h5:=br.take len _ _ _ _ (br.drop aa _ _ _ _ hO);obtain⟨l,g1,g2,g3,g4,g5⟩:=br.list _ _ _ _ h5;refine .inr ⟨_,cap,l,rfl,by omega,g1,g2,?_,λr hr=>?_,λj u hj=>?_⟩
      ·rw[g3,hl,hs,hsz]
      ·rw[g4 r hr,hs,hsz]
      ·rw[addr_add,h4 (by omega)];simp[World.cell?,hc,g5 j u hj]
   ·cases hs
 ·rename_i rows;simp only[ay,Prod.mk.injEq]at hs;obtain⟨rfl,rfl,rfl⟩:=hs;simp only[VR,TR]at hy;rcases hy with ⟨rfl,_,_,rfl,_⟩ |⟨b,aa,cap,sz,rfl,h1,h2,h3⟩
  ·exact .inl ⟨rfl,_,_,rfl⟩
  ·cases rows with
   |nil=>exact .inl ⟨rfl,_,_,rfl⟩
   |cons r rs=>
    obtain⟨l,g1,g2,g3,g4,g5⟩:=cp.list (P:=P) (β:=β) _ _ h3;have hsz:sz=size:=by
     have e1:=cD r (by simp);simp only[cp]at h3;omega
    subst hsz;exact .inr ⟨_,cap,l,rfl,by simp,g1,g2,g3,g4,λj u hj=>by rw[addr_add];exact g5 j u hj⟩
 ·cases hs
theorem oneCell'{u:Value}(h:oneCell u):u.oneCell'=true:=by cases u<;>first |rfl |exact h.elim
theorem Mem.grow(h:Mem P w0 O0 β I obj w)(hn:β i=none){size:Nat}{rows:List (List AV)}{l:List Value}{e:TypeId}{ag:Array Value}(hr:∀r∈rows,r.length=size)(hl:be P β w I rows.flatten l)(h1:∀u∈l,oneCell u):
 Step β I w i (ins β i (.at w.heap.size size (uk (l.toArray++ag).size))) I (w.drew.alloc (.cells (l.toArray++ag) e))/\
 Mem P w0 O0 (ins β i (.at w.heap.size size (uk (l.toArray++ag).size))) I (bR obj [(i,some ⟨size,rows⟩)]) (w.drew.alloc (.cells (l.toArray++ag) e)):=by
 have hd:=h.drew;obtain⟨hS,hM⟩:=Mem.alloc (i:=i) (o:=⟨size,rows⟩) (c:=l.toArray++ag) (e:=e) hd hn (vZ rows _ 0 size l hr (be.mono (w:=w) (w':=w.drew) (λ _ _ h=>h) (λ _ _=>rfl) (λ _ h=>h) _ _ hl) h1 (λ j u hj=>by
  have hlt:=(bX.1 hj).1;rw[Nat.zero_add,Array.getElem?_append_left (by simpa using hlt)];simpa using hj))
 exact⟨⟨hS.other,hS.ext,λb hb=>hS.same b hb,hS.inc⟩,hM⟩
theorem CZ(hT:eY P T)(h:Mem P w0 O0 β I obj w)(hn:β i=none){t e ty:TypeId}{ei:oc}(ep:P.underlying t=some (.slice e))(fy:T e=some ei){n:Nat}{an:List (List AV)}{v:Value}
 (hsrc:No P β w I ei.size n an v) (hl:an.length=n) (h48:n*ei.bytes<=140737488355328) (h63:n<=maxLen):
 ∃u w' β',(Builtin.append_ #[t,t] ty #[.slice none 0 0,v]).run P w= .ok u w'/\Step β I w i β' I w'/\Mem P w0 O0 β' I (bR obj [(i,some ⟨ei.size,an⟩)]) w'/\VR P β' w' I (.own i 0 n) u:=by
 have he:=hT e ei fy;obtain⟨info,d,z,g1,g2,g3,g4,g5,g6,g7,g8⟩:=he.ex;rcases hsrc with ⟨rfl,b,c,rfl⟩ |⟨a,c,l,rfl,hpos,q1,q2,q3,q4,q5⟩
 ·have hnew:an=[]:=eq_nil_of_length_eq_zero hl;subst hnew;have⟨hS,hM⟩:=Mem.oa (i:=i) (o:=⟨ei.size,[]⟩) h hn rfl;refine⟨.slice none 0 0,w,_,?_,hS,hM,by simp only[VR];exact .inl ⟨by simp[ins],trivial,trivial,trivial⟩⟩;cases b<;>simp[Builtin.append_,run_underlying ep,sizeOf,typeInfo,g1,Builtin.lenOf,Builtin.firstCells,loadCells,loadCellsFrom]
 ·have hm:n<=9223372036854775807:=by simp only[maxLen]at h63;omega
  have hrun:=run_append_nil (P:=P) w t ty e info z ep g1 g5 a n c l (by rw[q3,g3]) q5 hpos (by omega) (by rw[g4];omega);have⟨hS,hM⟩:=Mem.grow (i:=i) (e:=e) (ag:=Builtin.zeroCells z.cells (grownCap w n 0 e -n)) h hn q4 q1 q2;refine⟨_,_,_,hrun,hS,hM,?_⟩;simp only[VR];refine .inr ⟨w.heap.size,ei.size,_,_,0,by simp[ins];rfl,rfl,grownCap_ge w n 0 e,?_,by simp⟩;have hz:z.cells.size=ei.size:=by rw[<- Array.length_toList,g6];exact he.len
  have hge:=grownCap_ge w n 0 e;simp only[size_zeroCells,HN,HM,q3,hz,Nat.zero_add,<- Nat.add_mul];exact Nat.mul_le_mul_right _ (by omega)
theorem OL(hT:eY P T)(h:Mem P w0 O0 β I obj w)(hn:β i=none){t e ty:TypeId}{ei:oc}(ep:P.underlying t=some (.slice e))(fy:T e=some ei){n k aa len:Nat}{o:aS}{an:List (List AV)}{u v:Value}
 (hk:obj k=some o) (hsz:o.sz=ei.size) (hlen:(o.rows.drop aa).length=len) (hx:VR P β w I (.own k aa len) u)
 (hsrc:No P β w I ei.size n an v) (hl:an.length=n) (h48:(len+n)*ei.bytes<=140737488355328) (h63:len+n<=maxLen):
 ∃z w' β',(Builtin.append_ #[t,t] ty #[u,v]).run P w= .ok z w'/\Step β I w i β' I w'/\Mem P w0 O0 β' I (bR obj [(i,some ⟨ei.size,o.rows.drop aa++an⟩),(k,none)]) w'/\VR P β' w' I (.own i 0 (len+n)) z:=by
 have he:=hT e ei fy;obtain⟨info,d,z,g1,g2,g3,g4,g5,g6,g7,g8⟩:=he.ex;have hki:k≠i:=λe=>by
  have⟨B,hB,_⟩:=h.cE k o hk;rw[e,hn]at hB;cases hB
 have vq:∀{β':Nat->Option cA} {I':Nat->Prop} {w':World} {o':aS},Mem P w0 O0 β' I' (bR obj [(i,some o')]) w'->Mem P w0 O0 β' I' (bR obj [(i,some o'),(k,none)]) w':=by
  intro β' I' w' o' hM;refine hM.drop _ λj oj hj=>?_;simp only[bR]at hj ⊢;split
  ·rw[bn ‹_›]at hj;exact hj
  ·rw[bf ‹_›]at hj;split at hj
   ·cases hj
   ·exact hj
 simp only[VR]at hx;rcases hx with ⟨hβ,rfl,_,rfl⟩ |⟨b,sz,m,cap,a,hβ,rfl,h2,h3,h4⟩
 ·have hr:o.rows.drop aa=[]:=eq_nil_of_length_eq_zero hlen;rw[hr,bK,Nat.zero_add];obtain⟨z',w',β',e1,e2,e3,e4⟩:=CZ (ty:=ty) hT h hn ep fy hsrc hl (by simpa using h48) (by simpa using h63);exact⟨z',w',β',e1,e2,vq e3,e4⟩
 ·have⟨B,hB,hO⟩:=h.cE k o hk;rw[hβ]at hB;cases hB;obtain⟨hs,c,ce,hc,hcn,hO⟩:=hO;have hle:m.s+aa*sz<=m.m:=Nat.le_trans (Nat.add_le_add_left (Nat.mul_le_mul_right _ (Nat.le_add_right _ _)) _) h3;rw[Nat.add_mul]at h3;have hO:=br.drop aa _ _ _ _ hO;obtain⟨hS0,hM0⟩:=Mem.tR (C:= .at b sz ⟨m.m,m.s+aa*sz,hle⟩) (o1:=⟨ei.size,o.rows.drop aa⟩) h hn hk hβ rfl ⟨by rw[hs,hsz],c,ce,hc,hcn,hO⟩;generalize hp:m.s+aa*sz=p at hO hle hS0 hM0 h4;rcases hsrc with ⟨rfl,b',c',rfl⟩ |⟨a',c',l,rfl,hpos,q1,q2,q3,q4,q5⟩
  ·have hnew:an=[]:=eq_nil_of_length_eq_zero hl;subst hnew;rw[List.append_nil,Nat.add_zero];refine⟨.slice (some ⟨b,a,none⟩) len cap,w,_,?_,hS0,hM0,?_⟩
   ·cases b'<;>simp[Builtin.append_,run_underlying ep,sizeOf,typeInfo,g1,Builtin.lenOf,Builtin.firstCells,loadCells,loadCellsFrom,h2,storeCells]
   ·simp only[VR];exact .inr ⟨b,sz,⟨m.m,p,hle⟩,cap,a,by simp[ins],rfl,h2,by simp only[Nat.zero_add];omega,λh=>by simp[h4 h]⟩
  ·obtain⟨ol,o1,o2,o3,o4,o5⟩:=br.list _ _ _ _ hO;have hrl:∀r∈o.rows.drop aa++an,r.length=ei.size:=λr hr=>by
    rcases aY.1 hr with hr |hr
    ·rw[o4 r hr,hs,hsz]
    ·exact q4 r hr
   have hol:ol.length=len*info.size:=(by rw[o3,hlen,hs,hsz,g3]);by_cases hroom:len+n<=cap
   ·
    have ha:a=p:=h4 (by omega);subst ha;have hcsz:a+cap*info.size<=c.size:=(by rw[g3,<- hsz,<- hs,hcn];omega);have hfit:a+len*info.size+l.length<=c.size:=by
     have:(len+n)*info.size<=cap*info.size:=Nat.mul_le_mul_right _ hroom;rw[Nat.add_mul]at this;rw[q3,<- g3];omega
    have hf:=run_firstCells_some (P:=P) w info.size n a' n c' l (by rw[q3,g3]) q5;have hst:=run_storeCells_at P b (a+len*info.size) ce l 0 c w hc (by omega) (λ u hu=>oneCell' (q2 u hu));simp only[Nat.add_zero]at hst;generalize hc':(List.take (a+len*info.size) c.toList++l++List.drop (a+len*info.size+l.length) c.toList).toArray=cc at hst;have K0:cc.size=c.size:=(by rw[<- hc'];simp[length_take,length_drop];omega);have hrun:(Builtin.append_ #[t,t] ty #[.slice (some ⟨b,a,none⟩) len cap,.slice (some a') n c']).run P w= .ok (.slice (some ⟨b,a,none⟩) (len+n) cap) (w.setRow b cc):=by
     have hf':(Builtin.firstCells info.size n (.slice (some a') n c')).run P w= .ok l.toArray w:=hf;simp[Builtin.append_,run_underlying ep,sizeOf,typeInfo,g1,Builtin.lenOf,hroom,hf',addr_add,hst]
    have hcells:∀j u,(ol++l)[j]? =some u->cc[a+j]? =some u:=by
     intro j u hj;rw[<- hc',List.getElem?_toArray];have h1:(c.toList.take (a+len*info.size)).length=a+len*info.size:=(by simp[length_take];omega);by_cases hjl:j<ol.length
     ·rw[List.getElem?_append_left hjl]at hj;have:=o5 j u hj;rw[aM,List.getElem?_append_left (by omega),List.getElem?_take,bn (by omega),Array.getElem?_toList];exact this
     ·rw[nY (by omega)]at hj;have hjl2:=(bX.1 hj).1;rw[aM,nY (by omega),h1,List.getElem?_append_left (by omega),show a+j -(a+len*info.size)=j -ol.length by omega];exact hj
    obtain⟨tw,hM⟩:=Mem.write (o':=⟨ei.size,o.rows.drop aa++an⟩) hM0 (k:=i) (o:=⟨ei.size,o.rows.drop aa⟩) (b:=b) (s:=sz) (n:=⟨m.m,a,hle⟩) (by simp only[bR,if_true]) (by simp only[ins,if_true]) (c':=cc) (e:=ce) (setRow_heap w b c cc ce (0,0) hc) (λ b' hb=>setRow_other w b b' cc hb) (by simp) rfl rfl rfl (by rw[hs,hsz]) (by simp;omega)
     (vZ _ _ _ ei.size (ol++l) hrl (be.mono hS0.ext (λ _ _=>rfl) (λ _ h=>h) _ _ (by simp only[List.flatten_append];exact be.append _ _ _ _ o1 q1)) (λ u hu=>by
      rcases aY.1 hu with hu |hu
      ·exact o2 u hu
      ·exact q2 u hu) hcells)
    refine⟨_,_,_,hrun,⟨hS0.other,hS0.ext,tw,λ_ h=>h⟩,hM.drop _ (λ j oj hj=>?_),?_⟩
    ·simp only[bR]at hj ⊢;split at hj
     ·rw[bn ‹_›];exact hj
     ·rw[bf ‹_›,bf ‹_›];exact hj
    ·simp only[VR];exact .inr ⟨b,sz,⟨m.m,a,hle⟩,cap,a,by simp[ins],rfl,hroom,by simp only[Nat.zero_add];omega,by simp⟩
   ·have holds:∀j v,ol[j]? =some v->w.cell? ((⟨b,a,none⟩:Addr).add j)=some v:=by
     intro j v hj;have hjl:=(bX.1 hj).1;have vd:len≠0:=λh0=>(by rw[hol,h0]at hjl;simp at hjl);rw[addr_add,h4 (by omega)];have:=o5 j v hj;simp[World.cell?,hc]at this ⊢;exact this
    have hm:len+n<=9223372036854775807:=(by simp only[maxLen]at h63;omega);have hrun:=run_append_grow (P:=P) w t ty e info z ep g1 g5 ⟨b,a,none⟩ len cap ol hol holds a' n c' l (by rw[q3,g3]) q5 (by omega) (by omega) (growslice_fits (by omega) (by rw[g4];exact h48));have happ:be P β w I (o.rows.drop aa++an).flatten (ol++l):=(by simp only[List.flatten_append];exact be.append _ _ _ _ o1 q1);obtain⟨hS,hM⟩:=Mem.grow (i:=i) (e:=e) (ag:=Builtin.zeroCells z.cells (grownCap w (len+n) cap e -(len+n))) h hn hrl happ (λ u hu=>by
     rcases aY.1 hu with hu |hu
     ·exact o2 u hu
     ·exact q2 u hu)
    have Mp:ol.toArray++l.toArray++Builtin.zeroCells z.cells (grownCap w (len+n) cap e -(len+n))=(ol++l).toArray++Builtin.zeroCells z.cells (grownCap w (len+n) cap e -(len+n)):=(by simp);rw[Mp]at hrun;refine⟨_,_,_,hrun,hS,vq hM,?_⟩;simp only[VR];refine .inr ⟨w.heap.size,ei.size,_,_,0,by simp[ins];rfl,rfl,grownCap_ge w (len+n) cap e,?_,by simp⟩;have hz:z.cells.size=ei.size:=(by rw[<- Array.length_toList,g6];exact he.len);have hge:=grownCap_ge w (len+n) cap e;simp only[size_zeroCells,HN,HM,q3,hol,hz,g3,Nat.zero_add,<- Nat.add_mul];exact Nat.mul_le_mul_right _ (by omega)
end
section
variable {P:Program} {T:ea} {w0:World} {O0:js} {β:Nat->Option cA} {I:Nat->Prop} {obj:Nat->Option aS} {w:World} {i:Nat}
theorem UJ(hT:eY P T)(h:Mem P w0 O0 β I obj w)(hn:β (cy i)=none){t ty:TypeId}{x y:AV}{co:ij}{get:Nat->Option aS}{ab:Out}{u v:Value}(hg:∀k o,get k=some o->obj k=some o)
 (ha:xS T i t x y co get=some ab) (cD:ab.ob) (hx:VR P β w I x u) (hy:VR P β w I y v):
 ∃z w' β',(Builtin.append_ #[t,t] ty #[u,v]).run P w= .ok z w'/\Step β I w (cy i) β' I w'/\Mem P w0 O0 β' I (bR obj ab.upd) w'/\VR P β' w' I ab.v z:=by
 unfold xS at ha;cases hti:T t with
 |none=>simp[hti]at ha
 |some ti=>
  have ht:=hT t ti hti;simp only[hti,af]at ha;split at ha
  ·rename_i e hkd;cases fy:T e with
   |none=>simp[fy]at ha
   |some ei=>
    simp only[fy,af]at ha;have ep:=gH ht hkd;split at ha
    ·rename_i rs;cases hs:QC ei.size y get with
     |none=>simp[hs]at ha
     |some p=>
      obtain⟨n,ob,an⟩:=p;simp only[hs,af]at ha;split at ha
      ·rename_i k aa len;cases hk:get k with
       |none=>simp[hk]at ha
       |some o=>
        simp only[hk,af]at ha;split at ha
        ·rename_i hsz;cases ha;obtain⟨b1,b2,b3,rfl,b5,b6⟩:=cD;have e:(o.rows.drop aa++an).length=len+n:=(by rw[dG,b2,b3]);simp only[e];exact OL hT h hn ep fy (hg k o hk) hsz b2 hx (VO h hg hs b1 b3 hy) b3 b5 b6
        ·cases ha
      ·cases ha;obtain⟨b1,b2,rfl,b5,b6⟩:=cD;simp only[VR]at hx;subst hx;simp only[b2];exact CZ hT h hn ep fy (VO h hg hs b1 b2 hy) b2 b5 b6
      ·cases ha
    ·cases ha
  ·cases ha
theorem be.map{ρ:Operand->AV}{r:Operand->Value}(hρ:∀x,VR P β w I (ρ x) (r x)):∀(l:List Operand),be P β w I (l.map ρ) (l.map r)
 |[]=>by simp[be]
 |x::xs=>by simp only[aF,be];exact⟨hρ x,be.map hρ xs⟩
theorem QH(hT:eY P T)(h:Mem P w0 O0 β I obj w)(hn:β (cy i)=none){b:Builtin}{args:List AV}{cW:Array TypeId}{co:ij}{get:Nat->Option aS}{ab:Out}(hg:∀k o,get k=some o->obj k=some o)
 {vs:Array Value} {ty:TypeId} {al:Array Operand} (ha:Ad T i b args cW.toList co get=some ab) (cD:ab.ob) (hv:be P β w I args vs.toList) {r:Operand->Value} (hops:vs=al.map r) {dst:Option Tmp} {ao:String} {after:Array Edge} {guard:Option (Nat×Bool)}:
 qe P w0 O0 β I obj w i ab ((execOp r ⟨dst,.call { callee:= .builtin b,args:=al,argTypes:=cW },ty,ao,after,guard⟩).run P w):=by
 unfold Ad at ha;split at ha
 ·rename_i x t pr;obtain⟨v,hvs⟩:∃v,vs=#[v]:=by
   obtain⟨l⟩:=vs
   match l,hv with
   |[v],_=>exact⟨v,rfl⟩
   |[],h=>simp[be]at h
   |_::_::_,h=>simp[be]at h
  have ht:cW=#[t]:=by cases cW;simpa using pr
  subst hvs ht;simp only[be]at hv;have⟨u,h1,h2,h3⟩:=abP (ty:=ty) hT ha cD hv.1;refine⟨u,w,β,I,.inl ?_,Step.refl ..,by rw[h3];exact h,h2⟩;simp[execOp,resolve,invoke,builtin,<- hops,h1]
 ·have⟨u,h1,h2,h3⟩:=VL (cW:=cW) (ty:=ty) ha hv;simp only[if_true]at h1;refine⟨u,w,β,I,.inl ?_,Step.refl ..,by rw[h3];exact h,h2⟩;simp[execOp,resolve,invoke,builtin,<- hops,h1]
 ·have⟨u,h1,h2,h3⟩:=VL (cW:=cW) (ty:=ty) ha hv;simp only[Bool.false_eq_true,if_false]at h1;refine⟨u,w,β,I,.inl ?_,Step.refl ..,by rw[h3];exact h,h2⟩;simp[execOp,resolve,invoke,builtin,<- hops,h1]
 ·rename_i x y t u pr;split at ha
  ·rename_i htu;subst htu;obtain⟨v,v',hvs⟩:∃v v',vs=#[v,v']:=by
    obtain⟨l⟩:=vs
    match l,hv with
    |[v,v'],_=>exact⟨v,v',rfl⟩
    |[],h=>simp[be]at h
    |[_],h=>simp[be]at h
    |_::_::_::_,h=>simp[be]at h
   have ht:cW=#[t,t]:=(by cases cW;simpa using pr);subst hvs ht;simp only[be]at hv;have⟨z,w',β',h1,h2,h3,h4⟩:=UJ (ty:=ty) hT h hn hg ha cD hv.1 hv.2.1;refine⟨z,w',β',I,.inl ?_,h2,h3,h4⟩;simp[execOp,resolve,invoke,builtin,<- hops,h1]
  ·cases ha
 ·cases ha
theorem NG(hT:eY P T)(h:Mem P w0 O0 β I obj w)(hn:β (cy i)=none){o:Oper}{co:ij}{ρ:Operand->AV}{get:Nat->Option aS}{ab:Out}(hg:∀k o,get k=some o->obj k=some o)
 {r:Operand->Value} (hρ:∀x,VR P β w I (ρ x) (r x)) (ha:nK T i o co ρ get=some ab) (cD:ab.ob):qe P w0 O0 β I obj w i ab ((execOp r o).run P w):=by
 obtain⟨dst,op,ty,ao,after,guard⟩:=o;have val:∀{s:Sem Value}{z:Value},s.run P w= .ok z w->ab.upd=[]->VR P β w I ab.v z->qe P w0 O0 β I obj w i ab ((do pure (.value (<- s)):Sem Next).run P w):=by
  intro s z h1 h2 h3;refine⟨z,w,β,I,.inl (by simp[h1]),Step.refl ..,by rw[h2];exact h,h3⟩
 have val':∀{s:Sem Value} {z:Value} {w':World} {β':Nat->Option cA},s.run P w= .ok z w'->Step β I w (cy i) β' I w'->Mem P w0 O0 β' I (bR obj ab.upd) w'->VR P β' w' I ab.v z->qe P w0 O0 β I obj w i ab ((do pure (.value (<- s)):Sem Next).run P w):=by
  intro s z w' β' h1 h2 h3 h4;exact⟨z,w',β',I,.inl (by simp[h1]),h2,h3,h4⟩
 unfold nK at ha;split at ha
 ·rename_i x heq;simp only at heq;subst heq;simp only[pv,ay]at ha;subst ha;exact qe.pure h (hρ x)
 ·rename_i x heq;simp only at heq;subst heq;simp only[pv,ay]at ha;subst ha;exact qe.pure h (hρ x)
 ·rename_i c a b heq;simp only at heq;subst heq;split at ha
  ·rename_i t hc;simp only[pv,ay]at ha;subst ha;have h1:=hρ c;rw[hc]at h1;simp only[VR,TR]at h1;refine⟨if t then r a else r b,w,β,I,.inl ?_,Step.refl ..,h,?_⟩
   ·simp only[execOp,h1.1,asBool];simp
   ·rw[QD];cases t
    ·exact hρ b
    ·exact hρ a
  ·cases ha
 ·rename_i e heq;simp only at heq;subst heq;have⟨u,w',β',h1,h2,h3,h4⟩:=Xi hT h hn ha;exact val' h1 h2 h3 h4
 ·rename_i e x heq;simp only at heq;subst heq;have⟨u,w',β',h1,h2,h3,h4⟩:=abN (e:=e) h hn ha (hρ x);exact val' h1 h2 h3 h4
 ·rename_i t parts heq;simp only at heq;subst heq;obtain⟨z,h1,h2,h3⟩:=Xm (w:=w) (P:=P) (β:=β) (I:=I) (vs:=parts.map λ(i,x)=>(i,r x)) hT ha (by simp) (by
   simp only[Array.toList_map,map_map];have hm:=be.map (λ x=>hρ x) (parts.toList.map (·.2));simp only[map_map]at hm;exact hm)
  exact val h1 h3 h2
 ·rename_i t len parts heq;simp only at heq;subst heq;obtain⟨z,w',β',h1,h2,h3,h4⟩:=Jv (vs:=parts.map λ(i,x)=>(i,r x)) hT h hn ha (by simp) (by
   simp only[Array.toList_map,map_map];have hm:=be.map (λ x=>hρ x) (parts.toList.map (·.2));simp only[map_map]at hm;exact hm)
  exact val' h1 h2 h3 h4
 ·rename_i t a heq;simp only at heq;subst heq;have⟨u,h1,h2,h3⟩:=NF hT h hg ha cD (hρ a);exact val h1 h3 h2
 ·rename_i t a x heq;simp only at heq;subst heq;have⟨w',h1,h2,h3,h4⟩:=Xh hT h hg ha cD (hρ a) (hρ x);exact⟨undef,w',β,I,.inr ⟨by simp[execOp,h1],rfl⟩,⟨λ _ _=>rfl,λ_ _ h=>h,h2,λ_ h=>h⟩,h3,by rw[h4];simp[VR]⟩
 ·rename_i op t x y yt heq;simp only at heq;subst heq;have⟨z,h1,h2,h3⟩:=abO (xo:=x) (yo:=y) hT ha cD (hρ x) (hρ y);exact val h1 h3 h2
 ·rename_i op t x heq;simp only at heq;subst heq;have⟨z,h1,h2,h3⟩:=aeA ha (hρ x);exact val h1 h3 h2
 ·rename_i f first caps heq
  simp only at heq;subst heq;simp only[pv,ay]at ha;subst ha;refine⟨.func (.func f) (first.map r) (caps.map r),w,β,I,.inl ?_,Step.refl ..,h,?_⟩
  ·simp[execOp,Instr.makeFunc]
  ·simp only[VR];exact⟨_,_,rfl,by rw[Array.toList_map];exact be.map hρ _,by rw[Array.toList_map];exact be.map hρ _⟩
 ·rename_i t x lo hi heq;simp only at heq;subst heq
  obtain⟨u,h1,h2,h3⟩:=Xn (rN:=lo.map r) (hiv:=hi.map r) hT h hg ha cD (hρ x)
   (λ y hy=>by
    cases lo with
    |none=>simp at hy
    |some z=>simp at hy;subst hy;exact⟨r z,rfl,hρ z⟩) (λ hy=>by cases lo<;>simp at hy ⊢)
   (λ y hy=>by
    cases hi with
    |none=>simp at hy
    |some z=>simp at hy;subst hy;exact⟨r z,rfl,hρ z⟩) (λ hy=>by cases hi<;>simp at hy ⊢)
  exact val h1 h3 h2
 ·rename_i t x f heq;simp only at heq;subst heq;have⟨u,h1,h2,h3⟩:=LJ hT ha (hρ x);exact val h1 h3 h2
 ·rename_i t x f heq;simp only at heq;subst heq;have⟨u,h1,h2,h3⟩:=Xj hT ha (hρ x);exact val h1 h3 h2
 ·rename_i t x j heq;simp only at heq;subst heq;have⟨u,h1,h2,h3⟩:=LK hT h hg ha cD (hρ x) (hρ j);exact val h1 h3 h2
 ·rename_i x j heq;simp only at heq;subst heq;have⟨u,h1,h2,h3⟩:=QF ha (hρ x);exact val h1 h3 h2
 ·rename_i b args cW heq;simp only at heq;subst heq;exact QH (ty:=ty) hT h hn hg (vs:=args.map r) ha cD (by rw[Array.toList_map];exact be.map hρ _) rfl
 ·cases ha
end
def Tree.flat:Tree->Prop
 | .sc _=>True
 | .sl _=>False
def TV.flat:TV->Prop
 | .s x=>x.flat
 | .a cs=>∀x∈cs,x.flat
def RC.flat:RC->Prop
 | .d x=>x.flat
 | .fresh _ rows=>∀r∈rows,∀x∈r,x.flat
 | .whole _ _=>True
def RV.flat:RV->Prop
 | .one c=>c.flat
 | .eE cs=>∀c∈cs,c.flat
def GL(i:Nat)(ae:List Nat):RC->AV×List (Nat×Option aS)
 | .whole j len=>(match ae[j]? with |some k=> .own k 0 len |none=> .undef,[])
 | .d x=>(x.av,[])
 | .fresh sz rows=>(.own (cy i) 0 (aG rows).length,[(cy i,some ⟨sz,aG rows⟩)])
def Jw(i:Nat)(ae:List Nat):List RC->Option (List AV×List (Nat×Option aS))
 |[]=>some ([],[])
 |c::cs=>(Jw i ae cs).bind λp=>if (GL i ae c).2.isEmpty || p.2.isEmpty then some ((GL i ae c).1::p.1,(GL i ae c).2++p.2)else none
def imp(i:Nat)(ae:List Nat):RV->Option (AV×List (Nat×Option aS))
 | .one c=>some (GL i ae c)
 | .eE cs=>(Jw i ae cs).bind λp=>some (.eE p.1,p.2)
mutual
def mI(P:Program)(get:Nat->Option aS):AV->List LH->Option (AV×List LH×List Prop)
 | .t x,hs=>some (.t x,hs,[])
 | .agg cs,hs=>(lF P get cs hs).bind λp=>some (.agg p.1,p.2.1,p.2.2)
 | .eE _,_=>none
 | .own k aa len,hs=>match hs with
  | .rows tr::hs=>(get k).bind λo=>some (.t (.sl tr),hs,[(o.rows.drop aa).take len=aG tr/\tr.length=len])
  |_=>none
 | .ptr k row aa,hs=>match hs with
  | .row tr::hs=>(get k).bind λo=>some (.ef tr aa,hs,[o.rows[row]? =some (tr.map AV.t)])
  |_=>none
 | .ef r o,hs=>some (.ef r o,hs,[])
 | .fn f first caps,hs=>match hs with
  | .fn::hs=>(lF P get first hs).bind λp=>(lF P get caps p.2.1).bind λq=>some (.fn f p.1 q.1,q.2.1,p.2.2++q.2.2)
  | .du φ::hs=>(lF P get first hs).bind λp=>(lF P get caps p.2.1).bind λq=>
   some (.du φ,q.2.1,p.2.2++(q.2.2++[p.1=[]/\eT P f/\∀args r,φ args r->rm P f (p.1++args.map TV.av++q.1) (.one (.d r))]))
  |_=>none
 | .du φ,hs=>some (.du φ,hs,[])
 | .mp _,_=>none
 | .oz k len,hs=>match hs with
  | .rows tr::hs=>(get k).bind λo=>some (.t (.sl tr),hs,[(o.rows.drop 0).take len=aG tr/\tr.length=len])
  |_=>none
 | .cL,hs=>match hs with
  | .nil::hs=>some (.cL,hs,[])
  | .emp::hs=>some (.t (.sl []),hs,[])
  |_=>none
 | .ub,_=>none
 | .undef,_=>none
def lF(P:Program)(get:Nat->Option aS):List AV->List LH->Option (List AV×List LH×List Prop)
 |[],hs=>some ([],hs,[])
 |x::xs,hs=>(mI P get x hs).bind λp=>(lF P get xs p.2.1).bind λq=>some (p.1::q.1,q.2.1,p.2.2++q.2.2)
end
def uZ(P:Program)(i:Nat)(f:AV)(args:List AV)(co:ij)(get:Nat->Option aS):Option Out:=
 match f,co with
 | .fn F first caps,.call hs rv keep=>(imp i [] rv).bind λp=>(lF P get (first++args++caps) hs).bind λq=>
  if keep then some ⟨p.1,p.2,q.2.2++[rm P F q.1 rv,rv.flat]⟩
  else some ⟨p.1,p.2++(dU (first++args++caps)).map (λ k=>(k,none)),q.2.2++[rm P F q.1 rv]⟩
 | .du φ,.zv hs targs r keep=>(lF P get args hs).bind λq=>
  if keep then some ⟨r.av,[],q.2.2++[q.1=targs.map TV.av,φ targs r,r.flat]⟩
  else some ⟨r.av,(dU args).map (λ k=>(k,none)),q.2.2++[q.1=targs.map TV.av,φ targs r]⟩
 |_,_=>none
def xV(P:Program)(w0:World)(O0:js)(β:Nat->Option cA)(I:Nat->Prop)(obj:Nat->Option aS)(w:World)(i:Nat)(ab:Out)(r:Result Next):Prop:=
 ∃F args,r= .ok (.enter F args) w/\Calls P F args w λe w'=>∃v' β' I',e= .returned v'/\Step β I w (cy i) β' I' w'/\Mem P w0 O0 β' I' (bR obj ab.upd) w'/\VR P β' w' I' ab.v v'
section
variable {P:Program} {T:ea} {w0:World} {O0:js} {β:Nat->Option cA} {I:Nat->Prop} {obj:Nat->Option aS} {w:World} {i:Nat}
mutual
theorem en.weaken{get get':Nat->Option aS}(h:∀k o,get k=some o->get' k=some o):∀(xs ys:List AV),en P get xs ys->en P get' xs ys
 |[],[],_=>by simp[en]
 |x::xs,y::ys,hb=>by simp only[en]at hb ⊢;exact⟨eV.weaken h x y hb.1,en.weaken h xs ys hb.2⟩
 |[],_::_,hb=>by simp[en]at hb
 |_::_,[],hb=>by simp[en]at hb
theorem eV.weaken{get get':Nat->Option aS}(h:∀k o,get k=some o->get' k=some o):∀(x y:AV),eV P get x y->eV P get' x y
 | .t _,_,hb=>by simpa[eV]using hb
 | .agg cs,y,hb=>by
  simp only[eV]at hb ⊢;obtain⟨cs',h1,h2⟩:=hb;exact⟨cs',h1,en.weaken h cs cs' h2⟩
 | .eE _,_,hb=>by simp[eV]at hb
 | .own k aa len,y,hb=>by
  simp only[eV]at hb ⊢;obtain⟨o,tr,h1,h2⟩:=hb;exact⟨o,tr,h k o h1,h2⟩
 | .ptr k row aa,y,hb=>by
  simp only[eV]at hb ⊢;obtain⟨o,tr,h1,h2⟩:=hb;exact⟨o,tr,h k o h1,h2⟩
 | .ef _ _,_,hb=>by simpa[eV]using hb
 | .fn f first caps,y,hb=>by
  simp only[eV]at hb ⊢;obtain⟨a,b,h1,h2,h3⟩:=hb;exact⟨a,b,en.weaken h first a h1,en.weaken h caps b h2,h3⟩
 | .du _,_,hb=>by simpa[eV]using hb
 | .oz k len,y,hb=>by
  simp only[eV]at hb ⊢;obtain⟨o,tr,h1,h2⟩:=hb;exact⟨o,tr,h k o h1,h2⟩
 | .cL,_,hb=>by simpa[eV]using hb
 | .ub,_,hb=>by simp[eV]at hb
 | .undef,_,hb=>by simp[eV]at hb
end
mutual
theorem Bv{get:Nat->Option aS}:∀(x:AV)(hs:List LH)(p:AV×List LH×List Prop),mI P get x hs=some p->(∀ q∈p.2.2,q)->eV P get x p.1
 | .t x,hs,p,h,_=>by simp only[mI,ay]at h;subst h;simp[eV]
 | .agg cs,hs,p,h,ho=>by
  simp only[mI,ah,ay]at h;obtain⟨q,h1,rfl⟩:=h;simp only[eV];exact⟨_,rfl,jB cs hs q h1 ho⟩
 | .eE _,_,_,h,_=>by simp[mI]at h
 | .own k aa len,hs,p,h,ho=>by
  simp only[mI]at h;split at h
  ·simp only[ah,ay]at h;obtain⟨o,h1,rfl⟩:=h;have h2:=ho _ (aT.2 rfl);simp only[eV];exact⟨o,_,h1,rfl,h2.1,h2.2⟩
  ·cases h
 | .ptr k row aa,hs,p,h,ho=>by
  simp only[mI]at h;split at h
  ·simp only[ah,ay]at h;obtain⟨o,h1,rfl⟩:=h;have h2:=ho _ (aT.2 rfl);simp only[eV];exact⟨o,_,h1,rfl,h2⟩
  ·cases h
 | .ef r o,hs,p,h,_=>by simp only[mI,ay]at h;subst h;simp[eV]
 | .fn f first caps,hs,p,h,ho=>by
  simp only[mI]at h;split at h
  ·simp only[ah,ay]at h;obtain⟨q,h1,q',h2,rfl⟩:=h;simp only[eV];exact⟨q.1,q'.1,jB first _ q h1 (λ x hx=>ho x (by simp[hx])),jB caps _ q' h2 (λ x hx=>ho x (by simp[hx])),.inl rfl⟩
  ·simp only[ah,ay]at h;obtain⟨q,h1,q',h2,rfl⟩:=h;have h3:=ho _ (by simp only[aY,aT];exact .inr (.inr rfl));simp only[eV];exact⟨q.1,q'.1,jB first _ q h1 (λ x hx=>ho x (by simp[hx])),jB caps _ q' h2 (λ x hx=>ho x (by simp[hx])),.inr ⟨_,rfl,h3.1,h3.2⟩⟩
  ·cases h
 | .du φ,hs,p,h,_=>by simp only[mI,ay]at h;subst h;simp[eV]
 | .mp _,_,_,h,_=>by simp[mI]at h
 | .oz k len,hs,p,h,ho=>by
  simp only[mI]at h;split at h
  ·simp only[ah,ay]at h;obtain⟨o,h1,rfl⟩:=h;have h2:=ho _ (aT.2 rfl);simp only[eV];exact⟨o,_,h1,rfl,h2.1,h2.2⟩
  ·cases h
 | .cL,hs,p,h,_=>by
  simp only[mI]at h;split at h
  ·cases h;simp[eV]
  ·cases h;simp[eV]
  ·cases h
 | .ub,_,_,h,_=>by simp[mI]at h
 | .undef,_,_,h,_=>by simp[mI]at h
theorem jB{get:Nat->Option aS}:∀(xs:List AV)(hs:List LH)(p:List AV×List LH×List Prop),lF P get xs hs=some p->(∀ q∈p.2.2,q)->en P get xs p.1
 |[],hs,p,h,_=>by simp only[lF,ay]at h;subst h;simp[en]
 |x::xs,hs,p,h,ho=>by
  simp only[lF,ah,ay]at h;obtain⟨q,h1,q',h2,rfl⟩:=h;simp only[en];exact⟨Bv x hs q h1 (λ y hy=>ho y (by simp[hy])),jB xs _ q' h2 (λ y hy=>ho y (by simp[hy]))⟩
end
theorem pq:∀(l:List Prop),jJ l->∀p∈l,p
 |[],_,_,hp=>by simp at hp
 |[q],h,p,hp=>by rw[aT]at hp;rw[hp];exact h
 |q::r::l,h,p,hp=>by
  rcases aN.1 hp with e |hp
  ·rw[e];exact h.1
  ·exact pq (r::l) h.2 p hp
theorem Tree.lh{w':World}{I':Nat->Prop}:∀{x:Tree}{v:Value},x.flat->TR w I x v->TR w' I' x v
 | .sc _,_,_,h=>by simpa[TR]using h
 | .sl _,_,hf,_=>hf.elim
theorem TV.tx{w':World}{I':Nat->Prop}:∀{x:TV}{v:Value},x.flat->rj w I x v->rj w' I' x v
 | .s _,_,hf,h=>Tree.lh hf h
 | .a cs,v,hf,⟨vs,h1,h2⟩=>by
  refine⟨vs,h1,?_⟩;have:∀(cs:List Tree)(vs:List Value),(∀ x∈cs,x.flat)->ek w I cs vs->ek w' I' cs vs:=by
   intro cs
   induction cs with
   |nil=>intro vs _ h;cases vs with
    |nil=>trivial
    |cons=>exact h.elim
   |cons x xs ih=>intro vs hf h;cases vs with
    |nil=>exact h.elim
    |cons v vs=>exact⟨Tree.lh (hf x (by simp)) h.1,ih vs (λ y hy=>hf y (by simp[hy])) h.2⟩
  exact this cs vs.toList hf h2
theorem br.flat{β':Nat->Option cA}{w':World}{I':Nat->Prop}(rows:List (List Tree))(c:Array Value)(aa sz:Nat)(hf:∀r∈rows,∀x∈r,Tree.flat x)(h:br P β w I (aG rows) c aa sz):br P β' w' I' (aG rows) c aa sz:=by
 rw[mX]at h ⊢;intro i r hr;have⟨h1,h2⟩:=h i r hr;refine⟨h1,?_⟩;rw[iW]at h2 ⊢;intro j x hx;have⟨v,g1,g2,g3⟩:=h2 j x hx;refine⟨v,g1,?_,g3⟩;simp only[aG,List.getElem?_map,dR]at hr;obtain⟨r',hr',rfl⟩:=hr;simp only[List.getElem?_map,dR]at hx;obtain⟨x',hx',rfl⟩:=hx;simp only[VR]at g2 ⊢;exact Tree.lh (hf r' (bW hr') x' (bW hx')) g2
theorem TV.E7{x:TV}{v:Value}(h:rj w I x v):VR P β w I x.av v:=by
 cases x with
 |s x=>simp only[TV.av,VR];exact h
 |a cs=>
  obtain⟨vs,rfl,h⟩:=h;simp only[TV.av,VR];refine⟨vs,rfl,?_⟩;have:∀(cs:List Tree)(us:List Value),ek w I cs us->be P β w I (cs.map AV.t) us:=by
   intro cs
   induction cs with
   |nil=>intro us h;cases us with
    |nil=>simp[be]
    |cons=>simp[ek]at h
   |cons x xs ih=>intro us h;cases us with
    |nil=>simp[ek]at h
    |cons y ys=>simp only[ek]at h;simp only[aF,be,VR];exact⟨h.1,ih _ h.2⟩
  exact this cs vs.toList h
theorem Mem.fresh{i:Nat}{obj:Nat->Option aS}{F:Nat->Prop}{sz:Nat}{rows:List (List Tree)}{v:Value}(h:Mem P w0 O0 β I obj w)(hn:β i=none)(hlt:∀k o b,obj k=some o->fX β k b->¬F b)(hle:∀b,F b->O0.own b\/w0.heap.size<=b)(hf:Xg P F sz rows w I v):
 ∃ β',Step β I w i β' I w/\Mem P w0 O0 β' I (bR obj [(i,some ⟨sz,aG rows⟩)]) w/\VR P β' w I (.own i 0 rows.length) v:=by
 rcases hf with ⟨rfl,rfl⟩ |⟨b,c,e,cap,o,s,rfl,h1,h2,h3,h4,h5,h6,h7⟩
 ·have⟨hS,hM⟩:=Mem.oa (i:=i) (o:=⟨sz,aG []⟩) h hn rfl;exact⟨_,hS,hM,by simp only[VR];exact .inl ⟨by simp[ins],trivial,trivial,rfl⟩⟩
 ·have hsl:s<=c.size:=by omega
  have hS:Step β I w i (ins β i (.at b sz ⟨c.size,s,hsl⟩)) I w:=⟨λ j hj=>by simp[ins,gC.ne hj],lZ hn,λ_ _=>rfl,λ_ h=>h⟩;refine⟨_,hS,?_,by simp only[VR];exact .inr ⟨b,sz,⟨c.size,s,hsl⟩,cap,o,by simp[ins],rfl,h4,by simpa using h5,λhc=>by simpa using h7 hc⟩⟩;have hbl:b<w.heap.size:=(Array.getElem?_eq_some_iff.1 h3).1;constructor
  ·intro k o' hk;simp only[bR]at hk;split at hk
   ·cases hk;rename_i hki;exact⟨.at b sz ⟨c.size,s,hsl⟩,by simp[ins,hki],rfl,c,e,h3,rfl,br.mono (λ k B h=>by simp[ly]at h) (λ _ _=>rfl) (λ _ h=>h) _ _ _ _ h6⟩
   ·have⟨B,hB,hO⟩:=h.cE k o' hk;exact⟨B,lZ hn _ _ hB,OR.mono hS.ext hS.same hS.inc (λ _ _=>rfl) hO⟩
  ·intro k k' o1 o2 B1 B2 b1 e1 e2 e3 e4 e5 e6;simp only[bR]at e1 e2;simp only[ins]at e3 e4;split at e3<;>split at e4
   ·rename_i p q;rw[p,q]
   ·rename_i p q;cases e3;cases e5;rw[bf q]at e2;exact(hlt k' o2 _ e2 ⟨_,e4,e6⟩ h1).elim
   ·rename_i p q;cases e4;cases e6;rw[bf p]at e1;exact(hlt k o1 _ e1 ⟨_,e3,e5⟩ h1).elim
   ·rename_i p q;rw[bf p]at e1;rw[bf q]at e2;exact h.fY k k' o1 o2 B1 B2 b1 e1 e2 e3 e4 e5 e6
  ·intro k o' B1 b1 e1 e2 e3;simp only[bR]at e1;simp only[ins]at e2;split at e2
   ·cases e2;cases e3;exact⟨h2,hbl,hle _ h1⟩
   ·rename_i p;rw[bf p]at e1;exact h.ownB k o' B1 b1 e1 e2 e3
  ·exact h.lt
  ·exact h.up
  ·exact h.keep
  ·exact h.le
  ·exact h.os
  ·exact h.tape
  ·exact h.output
  ·intro j C hj;exact lZ hn _ _ (h.anch j C hj)
  ·exact h.vars
theorem QI{i:Nat}{ae:List Nat}{F:Nat->Prop}{βc:Nat->Option cA}{c:RC}{v:Value}(h:Mem P w0 O0 β I obj w)(hn:β (cy i)=none)(hlt:∀k o b,obj k=some o->fX β k b->¬F b)(hle:∀b,F b->O0.own b\/w0.heap.size<=b)(hbc:∀j B,βc j=some B->∃k,ae[j]? =some k/\β k=some B)(hc:ut P F βc c w I v):
 ∃ β',Step β I w (cy i) β' I w/\Mem P w0 O0 β' I (bR obj (GL i ae c).2) w/\VR P β' w I (GL i ae c).1 v/\((GL i ae c).2=[]->β'=β):=by
 cases c with
 |d x=>exact⟨β,Step.refl ..,h,TV.E7 hc,λ_=>rfl⟩
 |fresh sz rows=>
  have⟨β',h1,h2,h3⟩:=Mem.fresh (i:=cy i) h hn hlt hle hc;exact⟨β',h1,h2,by simpa[GL,aG]using h3,λh=>by simp[GL]at h⟩
 |whole j len=>
  refine⟨β,Step.refl ..,h,?_,λ_=>rfl⟩;have hc:VR P βc w I (.own j 0 len) v:=hc;simp only[VR]at hc;have key:∀B,βc j=some B->∃k,ae[j]? =some k/\β k=some B:=hbc j;simp only[GL]
  all_goals grind [VR]
theorem QJ{i:Nat}{ae:List Nat}{F:Nat->Prop}{βc:Nat->Option cA}:∀(cs:List RC)(vs:List Value)(p:List AV×List (Nat×Option aS)),Mem P w0 O0 β I obj w->β (cy i)=none->(∀ k o b,obj k=some o->fX β k b->¬F b)->(∀ b,F b->O0.own b\/w0.heap.size<=b)->(∀ j B,βc j=some B->∃k,ae[j]? =some k/\β k=some B)->
 Jw i ae cs=some p->OJ P F βc cs w I vs->∃ β',Step β I w (cy i) β' I w/\Mem P w0 O0 β' I (bR obj p.2) w/\be P β' w I p.1 vs/\(p.2=[]->β'=β)
 |[],[],p,h,_,_,_,_,hp,_=>by simp only[Jw,ay]at hp;subst hp;exact⟨β,Step.refl ..,h,by simp[be],λ_=>rfl⟩
 |c::cs,v::vs,p,h,hn,hlt,hle,hbc,hp,hr=>by
  simp only[OJ]at hr;simp only[Jw]at hp;cases hq:Jw i ae cs with
  |none=>simp[hq]at hp
  |some q=>
   simp only[hq,af]at hp;split at hp
   ·rename_i hem;simp only[ay]at hp;subst hp;have⟨β1,g1,g2,g3,g4⟩:=QI (i:=i) h hn hlt hle hbc hr.1;have⟨β2,k1,k2,k3,k4⟩:=QJ cs vs q h hn hlt hle hbc hq hr.2;have xv:(GL i ae c).2=[]\/q.2=[]:=(by simpa using hem);rcases xv with hem |hem
    ·have:=g4 hem;subst this;refine⟨β2,k1,by simpa[hem]using k2,?_,λh0=>k4 (by simpa[hem]using h0)⟩;simp only[be];exact⟨VR.mono k1.ext k1.same k1.inc _ _ g3,k3⟩
    ·have:=k4 hem;subst this;refine⟨β1,g1,by simpa[hem]using g2,?_,λh0=>g4 (by simpa[hem]using h0)⟩;simp only[be];exact⟨g3,be.mono g1.ext g1.same g1.inc _ _ k3⟩
   ·cases hp
 |[],_::_,_,_,_,_,_,_,_,hr=>by simp[OJ]at hr
 |_::_,[],_,_,_,_,_,_,_,hr=>by simp[OJ]at hr
theorem LM{i:Nat}{ae:List Nat}{F:Nat->Prop}{βc:Nat->Option cA}{rv:RV}{v:Value}{p:AV×List (Nat×Option aS)}(h:Mem P w0 O0 β I obj w)(hn:β (cy i)=none)(hlt:∀k o b,obj k=some o->fX β k b->¬F b)(hle:∀b,F b->O0.own b\/w0.heap.size<=b)(hbc:∀j B,βc j=some B->∃k,ae[j]? =some k/\β k=some B)
 (hp:imp i ae rv=some p) (hr:pH P F βc rv w I v):∃ β',Step β I w (cy i) β' I w/\Mem P w0 O0 β' I (bR obj p.2) w/\VR P β' w I p.1 v:=by
 cases rv with
 |one c=>
  simp only[imp,ay]at hp;subst hp;have⟨β',h1,h2,h3,_⟩:=QI (i:=i) h hn hlt hle hbc hr;exact⟨β',h1,h2,h3⟩
 |eE cs=>
  simp only[imp]at hp;cases hq:Jw i ae cs with
  |none=>simp[hq]at hp
  |some q=>
   simp only[hq,af,ay]at hp;subst hp;obtain⟨vs,rfl,hvs⟩:=hr;have⟨β',h1,h2,h3,_⟩:=QJ (i:=i) cs vs.toList q h hn hlt hle hbc hq hvs;exact⟨β',h1,h2,by simp only[VR];exact⟨vs,rfl,h3⟩⟩
theorem ql(obj:Nat->Option aS):∀(a b:List (Nat×Option aS))(k:Nat),bR obj (a++b) k=bR (bR obj b) a k
 |[],_,_=>rfl
 |(j,o)::a,b,k=>by simp only[cons_append,bR,ql obj a b k]
theorem vQ(obj:Nat->Option aS):∀(ae:List Nat)(k:Nat),bR obj (ae.map λk=>(k,none)) k=if k∈ae then none else obj k
 |[],k=>by simp[bR]
 |j::ae,k=>by
  simp only[aF,bR,vQ obj ae k,aN];by_cases h:k=j<;>simp[h]
end
section
variable {P:Program} {T:ea} {w0:World} {O0:js} {β:Nat->Option cA} {I:Nat->Prop} {obj:Nat->Option aS} {w:World} {i:Nat}
theorem pH.flat{F:Nat->Prop}{βc:Nat->Option cA}{w':World}{I' AI:Nat->Prop}{rv:RV}{v:Value}(hf:rv.flat)(hI:∀b,AI b->I' b)(h:pH P F βc rv w' I' v):pH P F βc rv w' AI v:=by
 have hc:∀(c:RC)(v:Value),c.flat->ut P F βc c w' I' v->ut P F βc c w' AI v:=by
  intro c v hf h;cases c with
  |d x=>exact TV.tx hf h
  |fresh sz rows=>
   rcases h with h |⟨b,c,e,cap,o,s,h1,h2,h3,h4,h5,h6,h7,h8⟩
   ·exact .inl h
   ·exact .inr ⟨b,c,e,cap,o,s,h1,h2,λhb=>h3 (hI b hb),h4,h5,h6,br.flat rows c s sz hf h7,h8⟩
  |whole j len=>have h:VR P βc w' I' (.own j 0 len) v:=h;show VR P βc w' AI (.own j 0 len) v;simp only[VR]at h ⊢;exact h
 cases rv with
 |one c=>exact hc c v hf h
 |eE cs=>
  obtain⟨vs,rfl,h⟩:=h;refine⟨vs,rfl,?_⟩;have:∀(cs:List RC)(vs:List Value),(∀ c∈cs,c.flat)->OJ P F βc cs w' I' vs->OJ P F βc cs w' AI vs:=by
   intro cs
   induction cs with
   |nil=>intro vs _ h;cases vs with
    |nil=>trivial
    |cons=>exact h.elim
   |cons c cs ih=>intro vs hf h;cases vs with
    |nil=>exact h.elim
    |cons v vs=>exact⟨hc c v (hf c (by simp)) h.1,ih vs (λ y hy=>hf y (by simp[hy])) h.2⟩
  exact this cs vs.toList hf h
theorem QK(h:Mem P w0 O0 β I obj w)(hn:β (cy i)=none){ae:List Nat}{rv:RV}{p:AV×List (Nat×Option aS)}{keep:Bool}(hp:imp i [] rv=some p)(hk:keep=true->rv.flat)
 {w':World} {I1:Nat->Prop} {v:Value} (hb:Below w.heap.size w w') (h1:∀b,eI β obj ae I b->I1 b) (h2:∀b,I1 b->b<w'.heap.size) (h3:∀b,I1 b->eI β obj ae I b\/w.heap.size<=b) (hr:pH P (Hi w) ly rv w' I1 v):
 ∃ β' I',Step β I w (cy i) β' I' w'/\Mem P w0 O0 β' I' (bR obj (p.2++if keep then []else ae.map (λ k=>(k,none)))) w'/\VR P β' w' I' p.1 v:=by
 have hlt:∀(mz:Nat->Option aS),(∀ k o,mz k=some o->obj k=some o)->∀k o b,mz k=some o->fX β k b->¬Hi w b:=λmz hs k o b e1 e2 hb=>Nat.lt_irrefl _ (Nat.lt_of_lt_of_le (h.ip k o b (hs k o e1) e2).2.1 hb);have hnew:∀b,Hi w b->O0.own b\/w0.heap.size<=b:=λb hb=> .inr (Nat.le_trans h.le hb);have hup:∀b,I1 b->O0.C2 b\/O0.own b\/w0.heap.size<=b:=λb hb'=>by
  rcases h3 b hb' with (h5 |⟨k',o',s',n',g1,g2,g3⟩) |h5
  ·exact h.up b h5
  ·exact .inr (h.own k' o' b s' n' g2 g3).2.2
  ·exact .inr (.inr (Nat.le_trans h.le h5))
 cases keep with
 |true=>
  obtain⟨hS,hM⟩:=h.below (I':=λb=>I1 b/\(I b\/w.heap.size<=b)) hb (λ b hb'=>⟨h1 b (.inl hb'),.inl hb'⟩) (λ b hb'=>h2 b hb'.1) (λ b k o B hb' e1 e2 e3=>by
   have⟨a1,a2,_⟩:=h.ownB k o B b e1 e2 e3;rcases hb'.2 with h5 |h5
   ·exact a1 h5
   ·omega) (λ b hb'=>hup b hb'.1)
  obtain⟨β',k1,k2,k3⟩:=LM hM hn (hlt obj (λ _ _ h=>h)) hnew (λ _ _ h=>by cases h) hp (pH.flat (hk rfl) (λ b hb=>hb.1) hr);refine⟨β',_,⟨k1.other,k1.ext,hS,λb hb'=>⟨h1 b (.inl hb'),.inl hb'⟩⟩,?_,k3⟩;simpa using k2
 |false=>
  have hsub:∀k o,bR obj (ae.map λk=>(k,none)) k=some o->obj k=some o/\k∉ae:=by
   intro k o hk;rw[vQ]at hk;split at hk
   ·cases hk
   ·exact⟨hk,‹_›⟩
  have hd:=h.drop (bR obj (ae.map λk=>(k,none))) (λ k o hk=>(hsub k o hk).1);obtain⟨hS,hM⟩:=hd.below (I':=I1) hb (λ b hb'=>h1 b (.inl hb')) h2 (λ b k o B hb' e1 e2 e3=>by
   have⟨f1,f2⟩:=hsub k o e1;have⟨a1,a2,_⟩:=h.ownB k o B b f1 e2 e3;rcases h3 b hb' with (h5 |⟨k',o',s',n',g1,g2,g3⟩) |h5
   ·exact a1 h5
   ·have:=h.lE k k' o o' b f1 g2 ⟨B,e2,e3⟩ (.at g3);subst this;exact f2 g1
   ·omega) hup
  obtain⟨β',k1,k2,k3⟩:=LM hM hn (hlt _ (λ k o hk=>(hsub k o hk).1)) hnew (λ _ _ h=>by cases h) hp hr;refine⟨β',I1,⟨k1.other,k1.ext,hS,λb hb'=>h1 b (.inl hb')⟩,?_,k3⟩;simp only[Bool.false_eq_true,if_false];have e:bR obj (p.2++ae.map λk=>(k,none))=bR (bR obj (ae.map λk=>(k,none))) p.2:=funext λk=>ql obj _ _ k;rw[e];exact k2
theorem Ga(h:Mem P w0 O0 β I obj w)(ae:List Nat):∀b,eI β obj ae I b->b<w.heap.size:=by
 intro b hb;rcases hb with hb |⟨k,o,s,n,_,h2,h3⟩
 ·exact h.lt b hb
 ·exact(h.own k o b s n h2 h3).2.1
theorem UK(h:Mem P w0 O0 β I obj w)(hn:β (cy i)=none){f:AV}{args:List AV}{co:ij}{get:Nat->Option aS}{ab:Out}(hg:∀k o,get k=some o->obj k=some o)
 {fv:Value} {vs:Array Value} {al:Array Operand} {fo:Operand} {r:Operand->Value} (ha:uZ P i f args co get=some ab) (cD:ab.ob) (hf:VR P β w I f fv) (hv:be P β w I args vs.toList) (hfo:r fo=fv) (hops:vs=al.map r)
 {dst:Option Tmp} {ao:String} {after:Array Edge} {guard:Option (Nat×Bool)} {ty:TypeId} {cW:Array TypeId}:
 xV P w0 O0 β I obj w i ab ((execOp r ⟨dst,.call { callee:= .value fo,args:=al,argTypes:=cW },ty,ao,after,guard⟩).run P w):=by
 have enter : ∀ (F : FuncId) (first caps : Array Value) (args' : Array Value), (∃ fn, P.funcs[F]? = some fn /\ fn.body.isSome = true /\ (fn.name == "runtime.NumGoroutine") = false) -> fv = .func (.func F) first caps -> args' = first ++ vs ++ caps ->
  (execOp r ⟨dst,.call { callee:= .value fo,args:=al,argTypes:=cW },ty,ao,after,guard⟩).run P w= .ok (.enter F args') w:=by
  rintro F first caps args' ⟨fn,e1,e2,e3⟩ e4 rfl
  have hb:¬fn.body=none:=by cases hh:fn.body<;>simp[hh]at e2 ⊢
  have e3' : ¬ fn.name = "runtime.NumGoroutine" := by simpa using e3
  simp[execOp,resolve,hfo,e4,<- hops,Deferred.ofValue,invoke,callFunc,e1,e3',hb]
 unfold uZ at ha;split at ha
 ·rename_i F first caps hs rv keep
  cases hp:imp i [] rv with
  |none=>simp[hp]at ha
  |some p=>
   cases hq:lF P get (first++args++caps) hs with
   |none=>simp only[hp,hq,af,Option.bind_none,reduceCtorEq]at ha
   |some q=>
   simp only[hp,hq,af]at ha;simp only[VR]at hf;obtain⟨fs,cs,rfl,hf1,hf2⟩:=hf
   have fin:∀(keep:Bool),en P get (first++args++caps) q.1->rm P F q.1 rv->(keep=true->rv.flat)->
    ab=⟨p.1,p.2++(if keep then []else(dU (first++args++caps)).map (λ k=>(k,none))),ab.obs⟩->xV P w0 O0 β I obj w i ab ((execOp r ⟨dst,.call { callee:= .value fo,args:=al,argTypes:=cW },ty,ao,after,guard⟩).run P w):=by
    intro keep hb hF hk hout;obtain⟨xz,hcon⟩:=hF;have hall:be P β w I (first++args++caps) (fs++vs++cs).toList:=by
     simp only[Array.toList_append];exact be.append _ _ _ _ (be.append _ _ _ _ hf1 hv) hf2
    have np:=en.sound h (dU (first++args++caps)) _ _ _ (λ k hk=>hk) (en.weaken hg _ _ hb) hall;refine⟨F,fs++vs++cs,enter F fs cs _ xz rfl rfl,(hcon w _ _ (Ga h _) (h.vars.mono (λ _ _=>rfl) (λ b hb=> .inl hb)) np).mono ?_⟩;rintro e w' ⟨v',I1,rfl,hbel,g1,g2,g3,g4⟩;have⟨β',I',k1,k2,k3⟩:=QK (keep:=keep) h hn hp hk hbel g1 g2 g3 g4;rw[hout];exact⟨v',β',I',rfl,k1,k2,k3⟩
   cases keep with
   |true=>
    simp only[if_true,ay]at ha;subst ha;have cD:=pq _ cD;exact fin true (jB _ _ _ hq λx hx=>cD x (by simp[hx])) (cD (rm P F q.1 rv) (by simp)) (λ _=>cD rv.flat (by simp)) (by simp)
   |false=>
    simp only[Bool.false_eq_true,if_false,ay]at ha;subst ha;have cD:=pq _ cD;exact fin false (jB _ _ _ hq λx hx=>cD x (by simp[hx])) (cD (rm P F q.1 rv) (by simp)) (λ h=>by cases h) (by simp)
 ·rename_i φ hs targs rr keep;cases hq:lF P get args hs with
  |none=>simp[hq]at ha
  |some q=>
  simp only[hq,af]at ha;simp only[VR]at hf;obtain⟨F,fs,cs,rfl,_,hF1,hF2,hF3⟩:=hf;obtain⟨fn,hfn⟩:=Option.isSome_iff_exists.1 hF2
  have fin:∀(keep:Bool),en P get args (targs.map TV.av)->φ targs rr->(keep=true->rr.flat)->
   ab=⟨rr.av,[]++(if keep then []else(dU args).map (λ k=>(k,none))),ab.obs⟩->xV P w0 O0 β I obj w i ab ((execOp r ⟨dst,.call { callee:= .value fo,args:=al,argTypes:=cW },ty,ao,after,guard⟩).run P w):=by
   intro keep hb hφ hk hout;have np:=en.sound h (dU args) _ _ _ (λ k hk=>hk) (en.weaken hg _ _ hb) hv;have htv:∀(xs:List TV) (us:List Value),be P ly w (eI β obj (dU args) I) (xs.map TV.av) us->lL w (eI β obj (dU args) I) xs us:=by
    intro xs
    induction xs with
    |nil=>intro us h;cases us with
     |nil=>trivial
     |cons=>simp[be]at h
    |cons x xs ih=>intro us h;cases us with
     |nil=>simp[be]at h
     |cons u us=>
      simp only[aF,be]at h;refine⟨?_,ih us h.2⟩;cases x with
      |s x=>simpa[TV.av,VR,rj]using h.1
      |a cs=>
       simp only[TV.av,VR]at h;obtain⟨⟨vs',rfl,h1⟩,_⟩:=h;refine⟨vs',rfl,?_⟩;have:∀(cs:List Tree) (us:List Value),be P ly w (eI β obj (dU args) I) (cs.map AV.t) us->ek w (eI β obj (dU args) I) cs us:=by
        intro cs
        induction cs with
        |nil=>intro us h;cases us with
         |nil=>trivial
         |cons=>simp[be]at h
        |cons c cs ih=>intro us h;cases us with
         |nil=>simp[be]at h
         |cons u us=>simp only[aF,be,VR]at h;exact⟨h.1,ih us h.2⟩
       exact this cs _ h1
   refine⟨F,fs++vs++cs,enter F fs cs _ ⟨fn,hfn,(hF1 fn hfn).1,(hF1 fn hfn).2⟩ rfl rfl,(hF3 w _ targs vs rr (λ b hb=>Or.inl hb) (λ _ _=>rfl) (Ga h _) hφ (htv _ _ np)).mono ?_⟩;rintro e w' ⟨v',I1,rfl,hbel,g1,g2,g3,g4⟩;have⟨β',I',k1,k2,k3⟩:=QK (i:=i) (rv:= .one (.d rr)) (p:=(rr.av,[])) (keep:=keep) h hn rfl hk hbel g1 g2 g3 g4;rw[hout];exact⟨v',β',I',rfl,k1,k2,k3⟩
  cases keep with
  |true=>
   simp only[if_true,ay]at ha;subst ha;have cD:=pq _ cD;have e:q.1=targs.map TV.av:=cD _ (by simp);exact fin true (e ▸ jB _ _ _ hq λx hx=>cD x (by simp[hx])) (cD (φ targs rr) (by simp)) (λ _=>cD rr.flat (by simp)) (by simp)
  |false=>
   simp only[Bool.false_eq_true,if_false,ay]at ha;subst ha;have cD:=pq _ cD;have e:q.1=targs.map TV.av:=cD _ (by simp);exact fin false (e ▸ jB _ _ _ hq λx hx=>cD x (by simp[hx])) (cD (φ targs rr) (by simp)) (λ h=>by cases h) (by simp)
 ·cases ha
end
abbrev dY:=Nat×List (List Tree)
def gc(p:dY):aS:=⟨p.1,aG p.2⟩
def pT(os:List dY)(k:Nat):Option aS:=(os[k]?).map gc
def Ae(os:List (Option dY))(k:Nat):Option aS:=((os[k]?).join).map gc
def QL(β:Nat->Option cA)(b:Nat):Prop:=∃j,fX β j b
def nZ(β:Nat->Option cA)(I:Nat->Prop):js:=⟨QL β,I,λj=>if j<1000 then β j else none,λj B h=>by
 split at h
 ·assumption
 ·cases h⟩
def Y6(w:World)(β:Nat->Option cA)(os':List (Option dY))(b:Nat):Prop:=(QL β b\/w.heap.size<=b)/\∀k o,Ae os' k=some o->¬fX β k b
def Hh(P:Program)(w:World)(β:Nat->Option cA)(I:Nat->Prop)(os':List (Option dY))(rv:RV)(e:Ending)(w':World):Prop:=
 ∃v I',e= .returned v/\Mem P w (nZ β I) β I' (Ae os') w'/\(∀ b,I b->I' b)/\pH P (Y6 w β os') β rv w' I' v
def py(P:Program)(f:FuncId)(args:List AV)(os:List dY)(os':List (Option dY))(rv:RV):Prop:=
 eT P f/\∀(w:World) (β:Nat->Option cA) (I:Nat->Prop) (vs:Array Value),(∀ k,os.length<=k->β k=none)->Mem P w (nZ β I) β I (pT os) w->be P β w I args vs.toList->Calls P f vs w (Hh P w β I os' rv)
def βc(ae:List Nat)(β:Nat->Option cA)(j:Nat):Option cA:=(ae[j]?).bind β
section
variable (P:Program) (get:Nat->Option aS) (ae:List Nat)
mutual
def nL:AV->List LH->Option (AV×List LH×List Prop)
 | .own k aa len,.mut j::hs=>if ae[j]? =some k then some (.own j aa len,hs,[])else none
 | .ptr k row aa,.mut j::hs=>if ae[j]? =some k then some (.ptr j row aa,hs,[])else none
 | .mp k,.mut j::hs=>if ae[j]? =some k then some (.mp j,hs,[])else none
 | .agg cs,.VC::hs=>(kU cs hs).bind λp=>some (.agg p.1,p.2.1,p.2.2)
 | .agg cs,.V0::hs=>if (dU cs).all (λ k=>!ae.contains k)then mI P get (.agg cs) hs else none
 | .fn F first caps,.Sp::hs=>(kU first hs).bind λp=>(kU caps p.2.1).bind λq=>some (.fn F p.1 q.1,q.2.1,p.2.2++q.2.2)
 |x,hs=>if (refs x).all (λ k=>!ae.contains k)then mI P get x hs else none
def kU:List AV->List LH->Option (List AV×List LH×List Prop)
 |[],hs=>some ([],hs,[])
 |x::xs,hs=>(nL x hs).bind λp=>(kU xs p.2.1).bind λq=>some (p.1::q.1,q.2.1,p.2.2++q.2.2)
end
def wh:List (List AV)->List (List LH)->Option (List (List AV)×List Prop)
 |[],[]=>some ([],[])
 |r::rs,h::hs=>(kU P get ae r h).bind λp=>(wh rs hs).bind λq=>some (p.1::q.1,p.2.2++q.2)
 |_,_=>none
def ll(x y:AV):Prop:=
 (∃ j k aa len,ae[j]? =some k/\x= .own k aa len/\y= .own j aa len)\/(∃ j k row aa,ae[j]? =some k/\x= .ptr k row aa/\y= .ptr j row aa)\/(∃ j k,ae[j]? =some k/\x= .mp k/\y= .mp j)\/((∀ k∈refs x,k∉ae)/\eV P get x y)
mutual
def gd:AV->AV->Prop
 | .fn F f1 c1,.fn G f2 c2=>(F=G/\eS f1 f2/\eS c1 c2)\/ll P get ae (.fn F f1 c1) (.fn G f2 c2)
 | .agg c1,.agg c2=>eS c1 c2\/ll P get ae (.agg c1) (.agg c2)
 |x,y=>ll P get ae x y
def eS:List AV->List AV->Prop
 |[],[]=>True
 |x::xs,y::ys=>gd x y/\eS xs ys
 |_,_=>False
end
theorem gd.base{x y:AV}(h:ll P get ae x y):gd P get ae x y:=by cases x<;>cases y<;>simp only[gd]<;>first |exact h |exact .inr h
end
def yX(get:Nat->Option aS):List Nat->List dY->Option (List Prop)
 |[],[]=>some []
 |k::ae,p::os=>(get k).bind λo=>(yX get ae os).bind λl=>some ((o.sz=p.1/\dM (o.rows.take p.2.length)=aG p.2)::l)
 |_,_=>none
def yY:List Nat->List (Option dY)->List (Nat×Option aS)
 |k::ae,p::os=>(k,p.map gc)::yY ae os
 |_,_=>[]
def EA(xs:List AV)(ae:List Nat):List Nat:=(dU xs).filter λk=>!ae.contains k
def QM(os':List (Option dY)):Prop:=∀p,some p∈os'->∀r∈p.2,∀x∈r,Tree.flat x
def EB(P:Program)(i:Nat)(f:AV)(args:List AV)(co:ij)(get:Nat->Option aS):Option Out:=
 match f,co with
 | .fn F first caps,.sk ae os os' hs rv keep=>if ae.Nodup/\os'.length=ae.length then(imp i ae rv).bind λp=>(yX get ae os).bind λmo=>(kU P get ae (first++args++caps) hs).bind λq=>
  if keep then some ⟨p.1,p.2++yY ae os',q.2.2++mo++[py P F q.1 os os' rv,rv.flat,QM os']⟩
  else some ⟨p.1,p.2++(yY ae os'++(EA (first++args++caps) ae).map λk=>(k,none)),q.2.2++mo++[py P F q.1 os os' rv]⟩
  else none
 |_,_=>none
def nM(P:Program)(i:Nat)(f:AV)(args:List AV)(co:ij)(get:Nat->Option aS):Option Out:=
 match co with
 | .sk .. =>EB P i f args co get
 |_=>uZ P i f args co get
section
variable {P:Program} {T:ea} {w0:World} {O0:js} {β:Nat->Option cA} {I:Nat->Prop} {obj:Nat->Option aS} {w:World} {i:Nat}
theorem Jy{ae:List Nat}{j:Nat}{B:cA}(h:βc ae β j=some B):∃k,ae[j]? =some k/\β k=some B:=by simpa[βc,ah]using h
theorem br.dat{β':Nat->Option cA}{I':Nat->Prop}(hI:∀b,I b->I' b)(rows:List (List Tree))(c:Array Value)(aa sz:Nat)(h:br P β w I (aG rows) c aa sz):br P β' w I' (aG rows) c aa sz:=by
 rw[mX]at h ⊢;intro i r hr;have⟨h1,h2⟩:=h i r hr;refine⟨h1,?_⟩;rw[iW]at h2 ⊢;intro j x hx;have⟨v,g1,g2,g3⟩:=h2 j x hx;refine⟨v,g1,?_,g3⟩;simp only[aG,List.getElem?_map,dR]at hr;obtain⟨r',hr',rfl⟩:=hr;simp only[List.getElem?_map,dR]at hx;obtain⟨x',hx',rfl⟩:=hx;simp only[VR]at g2 ⊢;exact TR.mono (λ _ _=>rfl) hI _ _ g2
theorem be.E2{β':Nat->Option cA}{I':Nat->Prop}(hI:∀b,I b->I' b):∀(r:List Tree)(vs:List Value),be P β w I (r.map AV.t) vs->be P β' w I' (r.map AV.t) vs
 |[],[],_=>by simp[be]
 |x::xs,v::vs,h=>by
  simp only[aF,be,VR]at h ⊢;exact⟨TR.mono (λ _ _=>rfl) hI _ _ h.1,be.E2 hI xs vs h.2⟩
 |[],_::_,h=>by simp[be]at h
 |_::_,[],h=>by simp[be]at h
theorem ct.dat{β':Nat->Option cA}{I':Nat->Prop}(hI:∀b,I b->I' b):∀(rs:List (List Tree))(es:List MapEntry),ct P β w I (aG rs) es->ct P β' w I' (aG rs) es
 |[],[],_=>trivial
 |r::rs,_::es,⟨h1,h4⟩=>⟨be.E2 hI r _ h1,ct.dat hI rs es h4⟩
 |[],_::_,h=>h.elim
 |_::_,[],h=>h.elim
theorem be.vl{β':Nat->Option cA}{I':Nat->Prop}:∀(r:List Tree)(vs:List Value),(∀ x∈r,Tree.flat x)->be P β w I (r.map AV.t) vs->be P β' w I' (r.map AV.t) vs
 |[],[],_,_=>by simp[be]
 |x::xs,v::vs,hf,h=>by
  simp only[aF,be,VR]at h ⊢;exact⟨Tree.lh (hf x (by simp)) h.1,be.vl xs vs (λ y hy=>hf y (by simp[hy])) h.2⟩
 |[],_::_,_,h=>by simp[be]at h
 |_::_,[],_,h=>by simp[be]at h
theorem ct.flat{β':Nat->Option cA}{I':Nat->Prop}:∀{rs:List (List Tree)}(_:∀r∈rs,∀x∈r,Tree.flat x)(es:List MapEntry),ct P β w I (aG rs) es->ct P β' w I' (aG rs) es
 |[],_,[],_=>trivial
 |r::rs,hf,_::es,⟨h1,h4⟩=>⟨be.vl r _ (hf r (by simp)) h1,ct.flat (λ r' hr=>hf r' (by simp[hr])) es h4⟩
 |[],_,_::_,h=>h.elim
 |_::_,_,[],h=>h.elim
theorem OR.part{o:aS}{p:dY}{b:Nat}(g4:o.sz=p.1)(g5:dM (o.rows.take p.2.length)=aG p.2)(h:OR P β w I o (.mp b)):OR P β w I (gc p) (.mp b):=by
 obtain⟨es,cl,h1,hle,h2,h3⟩:=h;have hl:=congrArg List.length g5;simp only[dM,aG,List.length_map,length_take]at hl;refine⟨es,cl,h1,by simp only[gc,aG,List.length_map];omega,λe=>?_,h3⟩;have e':p.1=p.2.length:=by simpa[gc,aG]using e
 have:=ct.wk _ _ (h2 (by omega));rw[take_of_length_le (by omega)]at g5;show ct P β w I (aG p.2) es.toList;rw[<- g5];exact this
theorem OR.dat{β':Nat->Option cA}{I':Nat->Prop}(hI:∀b,I b->I' b){p:dY}{B:cA}(h:OR P β w I (gc p) B):OR P β' w I' (gc p) B:=by
 cases B with
 |none=>exact h
 | «at» b s n=>
  obtain⟨h1,c,e,h2,h3,h4⟩:=h;exact⟨h1,c,e,h2,h3,br.dat hI _ _ _ _ h4⟩
 |mp b=>
  obtain⟨es,cl,h1,hle,h2,h3⟩:=h;exact⟨es,cl,h1,hle,λe=>ct.dat hI _ _ (h2 e),h3⟩
theorem OR.flat{β':Nat->Option cA}{I':Nat->Prop}{p:dY}{B:cA}(hf:∀r∈p.2,∀x∈r,Tree.flat x)(h:OR P β w I (gc p) B):OR P β' w I' (gc p) B:=by
 cases B with
 |none=>exact h
 | «at» b s n=>
  obtain⟨h1,c,e,h2,h3,h4⟩:=h;exact⟨h1,c,e,h2,h3,br.flat _ _ _ _ hf h4⟩
 |mp b=>
  obtain⟨es,cl,h1,hle,h2,h3⟩:=h;exact⟨es,cl,h1,hle,λe=>ct.flat hf _ (h2 e),h3⟩
theorem NH{get:Nat->Option aS}:∀{ae:List Nat}{os:List dY}{l:List Prop},yX get ae os=some l->(∀ q∈l,q)->ae.length=os.length/\∀(j:Nat) k p,ae[j]? =some k->os[j]? =some p->∃o,get k=some o/\o.sz=p.1/\dM (o.rows.take p.2.length)=aG p.2
 |[],[],_,_,_=>⟨rfl,λj k p h=>by simp at h⟩
 |k::ae,p::os,l,h,hq=>by
  simp only[yX,ah,ay]at h;obtain⟨o,h1,l',h2,rfl⟩:=h;obtain⟨h3,h4⟩:=NH h2 (λ q hq'=>hq q (by simp[hq']));refine⟨by simp[h3],λj k' p' hj hj'=>?_⟩;cases j with
  |zero=>
   simp only[List.getElem?_cons_zero,ay]at hj hj';subst hj;subst hj';exact⟨o,h1,hq _ (by simp)⟩
  |succ j=>exact h4 j k' p' (by simpa using hj) (by simpa using hj')
 |[],_::_,_,h,_=>by simp[yX]at h
 |_::_,[],_,h,_=>by simp[yX]at h
theorem aeB{ae:List Nat}:∀{os':List (Option dY)}{g:List (Nat×Option aS)}{k:Nat},k∉ae->bR obj (yY ae os'++g) k=bR obj g k:=by
 induction ae with
 |nil=>intro os' g k _;rfl
 |cons j ae ih=>
  intro os' g k hk;cases os' with
  |nil=>rfl
  |cons p os'=>
   simp only[aN,not_or]at hk;simp only[yY,cons_append,bR,bf hk.1,ih hk.2]
theorem VP:∀{ae:List Nat}{os':List (Option dY)}{g:List (Nat×Option aS)}{j k:Nat},ae.Nodup->os'.length=ae.length->ae[j]? =some k->bR obj (yY ae os'++g) k=Ae os' j
 |[],_,_,_,_,_,_,h=>by simp at h
 |i::ae,[],_,_,_,_,hl,_=>by simp at hl
 |i::ae,p::os',g,j,k,hn,hl,h=>by
  simp only[List.nodup_cons]at hn;cases j with
  |zero=>
   simp only[List.getElem?_cons_zero,ay]at h;subst h;simp[yY,bR,Ae]
  |succ j=>
   simp only[List.getElem?_cons_succ]at h;have hne:k≠i:=λe=>hn.1 (e ▸ bW h);simp only[yY,cons_append,bR,bf hne,VP hn.2 (by simpa using hl) h];simp[Ae]
theorem LP:∀{ae:List Nat},ae.Nodup->∀{j j' k:Nat},ae[j]? =some k->ae[j']? =some k->j=j'
 |[],_,_,_,_,h,_=>by simp at h
 |i::ae,hn,j,j',k,h,h'=>by
  simp only[List.nodup_cons]at hn;cases j with
  |zero=>grind
  |succ j=>
   cases j' with
   |zero=>grind
   |succ j'=>exact congrArg (· +1) (LP hn.2 (k:=k) (by simpa using h) (by simpa using h'))
theorem Mem.handed(h:Mem P w0 O0 β I obj w){ae cJ:List Nat}{os:List dY}(hnd:ae.Nodup)(hlen:ae.length=os.length)
 (hm:∀(j:Nat) k p,ae[j]? =some k->os[j]? =some p->∃o,obj k=some o/\o.sz=p.1/\dM (o.rows.take p.2.length)=aG p.2) (xy:∀k∈cJ,k∉ae):
 Mem P w (nZ (βc ae β) (eI β obj cJ I)) (βc ae β) (eI β obj cJ I) (pT os) w:=by
 have look:∀j o',pT os j=some o'->∃k p o,ae[j]? =some k/\os[j]? =some p/\o'=gc p/\obj k=some o/\o.sz=p.1/\dM (o.rows.take p.2.length)=aG p.2:=by
  intro j o' hj;simp only[pT,dR]at hj;obtain⟨p,hp,rfl⟩:=hj;have hjl:j<ae.length:=by rw[hlen];exact(bX.1 hp).1
  obtain⟨o,g⟩:=hm j _ p (cZ hjl) hp;exact⟨_,p,o,cZ hjl,hp,rfl,g⟩
 have hb0:∀j k,ae[j]? =some k->βc ae β j=β k:=λj k hk=>by simp[βc,hk]
 constructor
 ·intro j o' hj;obtain⟨k,p,o,g1,g2,rfl,g3,g4,g5⟩:=look j o' hj;have⟨B,hB,hO⟩:=h.cE k o g3;refine⟨B,by rw[hb0 j k g1];exact hB,?_⟩;have:OR P β w I (gc p) B:=by
   cases B with
   |none=>
    simp only[OR]at hO ⊢;rw[hO]at g5;simpa[dM,gc]using g5.symm
   | «at» b s n=>
    obtain⟨h1,c,e,h2,h3,h4⟩:=hO;refine⟨by rw[h1,g4];rfl,c,e,h2,h3,?_⟩;have:=br.wk _ _ _ _ (br.take p.2.length _ _ _ _ h4);rw[g5]at this;exact this
   |mp b=>exact OR.part g4 g5 hO
  exact this.dat λb hb=> .inl hb
 ·intro j j' o o' B B' b h1 h2 h3 h4 h5 h6;have⟨k,p,q,g1,_,_,g3,_⟩:=look j o h1;have⟨k',p',q',g1',_,_,g3',_⟩:=look j' o' h2;rw[hb0 j k g1]at h3;rw[hb0 j' k' g1']at h4;have:=h.fY k k' q q' B B' b g3 g3' h3 h4 h5 h6;subst this;exact LP hnd g1 g1'
 ·intro j o B b h1 h2 h5;have⟨k,p,q,g1,_,_,g3,_⟩:=look j o h1;have h2':=h2;rw[hb0 j k g1]at h2;have⟨a1,a2,_⟩:=h.ownB k q B b g3 h2 h5;refine⟨?_,a2,.inl ⟨j,B,h2',h5⟩⟩;rintro (hI |⟨k',o',s',n',e1,e2,e3⟩)
  ·exact a1 hI
  ·have:=h.lE k k' q o' b g3 e2 ⟨B,h2,h5⟩ (.at e3);subst this;exact xy _ e1 (bW g1)
 ·exact Ga h _
 ·exact λb hb=> .inl hb
 ·exact λ_ _ _=>rfl
 ·exact aB _
 ·rfl
 ·rfl
 ·rfl
 ·intro j B hj;simp only[nZ]at hj;split at hj
  ·exact hj
  ·cases hj
 ·exact h.vars.mono (λ _ _=>rfl) (λ b hb=> .inl hb)
theorem Mem.zE(h:Mem P w0 O0 β I obj w){ae cJ:List Nat}{os':List (Option dY)}{w':World}{I1 I2:Nat->Prop}{tS:Nat->Option aS}
 (hM:Mem P w (nZ (βc ae β) (eI β obj cJ I)) (βc ae β) I1 (Ae os') w') (hI:∀b,I b->I2 b) (hI1:∀b,I2 b->I1 b) (jn:∀k∈ae,∃o,obj k=some o)
 (ho:∀k o,tS k=some o->(∃ j,ae[j]? =some k/\Ae os' j=some o/\∀B,OR P (βc ae β) w' I1 o B->OR P β w' I2 o B)\/(k∉ae/\obj k=some o/\∀b,fX β k b->¬I2 b)):
 Same I w w'/\Mem P w0 O0 β I2 tS w'/\(∀ b,QL (βc ae β) b->¬I b/\(O0.own b\/w0.heap.size<=b))/\∀k o b,k∉ae->obj k=some o->fX β k b->¬QL (βc ae β) b:=by
 have hb0:∀j k,ae[j]? =some k->βc ae β j=β k:=λj k hk=>by simp[βc,hk]
 have hown:∀b,QL (βc ae β) b->∃k o,k∈ae/\obj k=some o/\fX β k b:=by
  rintro b ⟨j,B,hj,hB⟩;have⟨k,h1,h2⟩:=Jy hj;have⟨o,h3⟩:=jn k (bW h1);exact⟨k,o,bW h1,h3,B,h2,hB⟩
 have hold:∀k o,tS k=some o->∃q,obj k=some q:=by
  intro k o hk;rcases ho k o hk with ⟨j,h1,_⟩ |⟨_,h2,_⟩
  ·exact jn k (bW h1)
  ·exact⟨o,h2⟩
 have hapart:∀k o b,k∉ae->obj k=some o->fX β k b->¬QL (βc ae β) b:=by
  intro k o b hk h1 h2 hb;have⟨k',o',g1,g2,g3⟩:=hown b hb;have:=h.lE k k' o o' b h1 g2 h2 g3;subst this;exact hk g1
 have hS:Same I w w':=λb hb=>hM.keep b (h.lt b hb) (λ hb'=>by
  have⟨k',o',g1,g2,g3⟩:=hown b hb';exact(h.ip k' o' b g2 g3).1 hb)
 refine⟨hS,?_,λb hb=>?_,hapart⟩
 ·constructor
  ·intro k o hk;rcases ho k o hk with ⟨j,h1,h2,h3⟩ |⟨h1,h2,h3⟩
   ·have⟨B,hB,hO⟩:=hM.cE j o h2;exact⟨B,by rw[<- hb0 j k h1];exact hB,h3 B hO⟩
   ·have⟨B,hB,hO⟩:=h.cE k o h2;refine⟨B,hB,OR.mono (λ _ _ h=>h) hS hI (λ b e=>hM.keep b (h.ownB k o B b h2 hB e).2.1 (hapart k o b h1 h2 ⟨B,hB,e⟩)) hO⟩
  ·intro k k' o o' B B' b h1 h2;have⟨q,e1⟩:=hold k o h1;have⟨q',e2⟩:=hold k' o' h2;exact h.fY k k' q q' B B' b e1 e2
  ·intro k o B b h1 h2 h5;have⟨q,e1⟩:=hold k o h1;have⟨a1,a2,a3⟩:=h.ownB k q B b e1 h2 h5;refine⟨?_,Nat.lt_of_lt_of_le a2 hM.le,a3⟩;rcases ho k o h1 with ⟨j,g1,g2,_⟩ |⟨_,_,g3⟩
   ·exact λhb=>(hM.ownB j o B b g2 (by rw[hb0 j k g1];exact h2) h5).1 (hI1 b hb)
   ·exact g3 b ⟨B,h2,h5⟩
  ·exact λb hb=>hM.lt b (hI1 b hb)
  ·intro b hb;rcases hM.up b (hI1 b hb)with (g |⟨k',o',s',n',_,g2,g3⟩) |g |g
   ·exact h.up b g
   ·exact .inr (h.own k' o' b s' n' g2 g3).2.2
   ·have⟨k',o',_,g2,g3⟩:=hown b g;exact .inr (h.ip k' o' b g2 g3).2.2
   ·exact .inr (.inr (Nat.le_trans h.le g))
  ·intro b hb hno;refine(hM.keep b (Nat.lt_of_lt_of_le hb h.le) (λ hb'=>?_)).trans (h.keep b hb hno);have⟨k',o',_,g2,g3⟩:=hown b hb';rcases (h.ip k' o' b g2 g3).2.2 with g |g
   ·exact hno g
   ·omega
  ·exact Nat.le_trans h.le hM.le
  ·exact hM.os.trans h.os
  ·exact hM.tape.trans h.tape
  ·exact hM.output.trans h.output
  ·exact h.anch
  ·exact h.vars.mono hS hI
 ·have⟨k',o',_,g2,g3⟩:=hown b hb;exact⟨(h.ip k' o' b g2 g3).1,(h.ip k' o' b g2 g3).2.2⟩
mutual
theorem Xo{get:Nat->Option aS}{ae:List Nat}:∀{x:AV}{hs:List LH}{p:AV×List LH×List Prop},nL P get ae x hs=some p->(∀ q∈p.2.2,q)->gd P get ae x p.1:=by
 intro x hs p h ho;unfold nL at h;split at h
 ·split at h
  ·cases h;exact gd.base _ _ _ (.inl ⟨_,_,_,_,‹_›,rfl,rfl⟩)
  ·cases h
 ·split at h
  ·cases h;exact gd.base _ _ _ (.inr (.inl ⟨_,_,_,_,‹_›,rfl,rfl⟩))
  ·cases h
 ·split at h
  ·cases h;exact gd.base _ _ _ (.inr (.inr (.inl ⟨_,_,‹_›,rfl,rfl⟩)))
  ·cases h
 ·rename_i cs hs;simp only[ah,ay]at h;obtain⟨q,h1,rfl⟩:=h;simp only[gd];exact .inl (l5 h1 (λ y hy=>ho y (by simp[hy])))
 ·split at h
  ·rename_i hd;refine gd.base _ _ _ (.inr (.inr (.inr ⟨λ k hk=>by simpa using all_eq_true.1 hd k (by simpa[refs]using hk),Bv _ _ _ h ho⟩)))
  ·cases h
 ·rename_i F first caps hs
  simp only[ah,ay]at h;obtain⟨q,h1,q',h2,rfl⟩:=h;simp only[gd];exact .inl ⟨trivial,l5 h1 (λ y hy=>ho y (by simp[hy])),l5 h2 (λ y hy=>ho y (by simp[hy]))⟩
 ·split at h
  ·rename_i hd;refine gd.base _ _ _ (.inr (.inr (.inr ⟨λ k hk=>by simpa using all_eq_true.1 hd k hk,Bv _ _ _ h ho⟩)))
  ·cases h
theorem l5{get:Nat->Option aS}{ae:List Nat}:∀{xs:List AV}{hs:List LH}{p:List AV×List LH×List Prop},kU P get ae xs hs=some p->(∀ q∈p.2.2,q)->eS P get ae xs p.1
 |[],hs,p,h,_=>by simp only[kU,ay]at h;subst h;trivial
 |x::xs,hs,p,h,ho=>by
  simp only[kU,ah,ay]at h;obtain⟨q,h1,q',h2,rfl⟩:=h;exact⟨Xo h1 (λ y hy=>ho y (by simp[hy])),l5 h2 (λ y hy=>ho y (by simp[hy]))⟩
end
theorem ll.sound(h:Mem P w0 O0 β I obj w){get:Nat->Option aS}(hg:∀k o,get k=some o->obj k=some o){ae:List Nat}(cJ:List Nat){x y:AV}{v:Value}(hk:∀k,k∈refs x->k∉ae->k∈cJ)(hb:ll P get ae x y)(hv1:VR P β w I x v):VR P (βc ae β) w (eI β obj cJ I) y v:=by
 rcases hb with ⟨j,k,aa,len,e1,rfl,rfl⟩ |⟨j,k,row,aa,e1,rfl,rfl⟩ |⟨j,k,e1,rfl,rfl⟩ |⟨e1,e2⟩
 ·simp only[VR]at hv1 ⊢;have:βc ae β j=β k:=by simp[βc,e1]
  rw[this];exact hv1
 ·simp only[VR]at hv1 ⊢;have:βc ae β j=β k:=by simp[βc,e1]
  rw[this];exact hv1
 ·simp only[VR]at hv1 ⊢;have:βc ae β j=β k:=by simp[βc,e1]
  rw[this];exact hv1
 ·have:=eV.sound h cJ x y v (λ k hk'=>hk k hk' (e1 k hk')) (eV.weaken hg x y e2) hv1;exact VR.mono (λ k B h=>by simp[ly]at h) (λ _ _=>rfl) (λ _ h=>h) _ _ this
mutual
theorem gd.sound(h:Mem P w0 O0 β I obj w){get:Nat->Option aS}(hg:∀k o,get k=some o->obj k=some o){ae:List Nat}(cJ:List Nat):∀(x y:AV)(v:Value),(∀ k,k∈refs x->k∉ae->k∈cJ)->gd P get ae x y->VR P β w I x v->VR P (βc ae β) w (eI β obj cJ I) y v:=by
 intro x y v hk hb hv;unfold gd at hb;split at hb
 ·rcases hb with ⟨rfl,h1,h2⟩ |hb
  ·simp only[VR]at hv ⊢;obtain⟨fs,cs,e,g1,g2⟩:=hv;exact⟨fs,cs,e,eS.sound h hg cJ _ _ _ (λ k hk'=>hk k (by simp[refs,hk'])) h1 g1,eS.sound h hg cJ _ _ _ (λ k hk'=>hk k (by simp[refs,hk'])) h2 g2⟩
  ·exact ll.sound h hg cJ hk hb hv
 ·rcases hb with h1 |hb
  ·simp only[VR]at hv ⊢;obtain⟨vs,e,g1⟩:=hv;exact⟨vs,e,eS.sound h hg cJ _ _ _ (λ k hk'=>hk k (by simpa[refs]using hk')) h1 g1⟩
  ·exact ll.sound h hg cJ hk hb hv
 ·exact ll.sound h hg cJ hk hb hv
theorem eS.sound(h:Mem P w0 O0 β I obj w){get:Nat->Option aS}(hg:∀k o,get k=some o->obj k=some o){ae:List Nat}(cJ:List Nat):∀(xs ys:List AV)(vs:List Value),(∀ k,k∈dU xs->k∉ae->k∈cJ)->eS P get ae xs ys->be P β w I xs vs->be P (βc ae β) w (eI β obj cJ I) ys vs
 |[],[],[],_,_,_=>by simp[be]
 |x::xs,y::ys,v::vs,hk,hb,hv=>by
  simp only[be]at hv ⊢;exact⟨gd.sound h hg cJ x y v (λ k hk'=>hk k (by simp[dU,hk'])) hb.1 hv.1,eS.sound h hg cJ xs ys vs (λ k hk'=>hk k (by simp[dU,hk'])) hb.2 hv.2⟩
 |[],_::_,_,_,hb,_=>hb.elim
 |_::_,[],_,_,hb,_=>hb.elim
 |[],[],_::_,_,_,hv=>by simp[be]at hv
 |_::_,_::_,[],_,_,hv=>by simp[be]at hv
end
theorem Y7{os':List (Option dY)}{j:Nat}{o:aS}(h:Ae os' j=some o):∃p,some p∈os'/\o=gc p:=by grind [Ae,dR,Option.join_eq_some_iff]
theorem Y8(h:Mem P w0 O0 β I obj w)(hn:β (cy i)=none){ae cJ:List Nat}{os':List (Option dY)}{rv:RV}{p:AV×List (Nat×Option aS)}{keep:Bool}(hp:imp i ae rv=some p)(hk:keep=true->rv.flat/\QM os')
 (hnd:ae.Nodup) (hlen:os'.length=ae.length) (jn:∀k∈ae,∃o,obj k=some o)
 {w':World} {I1:Nat->Prop} {v:Value} (hM:Mem P w (nZ (βc ae β) (eI β obj cJ I)) (βc ae β) I1 (Ae os') w') (h1:∀b,eI β obj cJ I b->I1 b) (hr:pH P (Y6 w (βc ae β) os') (βc ae β) rv w' I1 v):
 ∃ β' I',Step β I w (cy i) β' I' w'/\Mem P w0 O0 β' I' (bR obj (p.2++(yY ae os'++if keep then []else cJ.map (λ k=>(k,none))))) w'/\VR P β' w' I' p.1 v:=by
 have look:∀g k o,bR obj (yY ae os'++g) k=some o->(∃ j,ae[j]? =some k/\Ae os' j=some o)\/(k∉ae/\bR obj g k=some o):=by
  intro g k o hk;by_cases hki:k∈ae
  ·obtain⟨j,hj⟩:=List.getElem?_of_mem hki;rw[VP hnd hlen hj]at hk;exact .inl ⟨j,hj,hk⟩
  ·rw[aeB hki]at hk;exact .inr ⟨hki,hk⟩
 have main:∀(g:List (Nat×Option aS))(I2:Nat->Prop),(∀ k o,bR obj g k=some o->obj k=some o)->(∀ b,I b->I2 b)->(∀ b,I2 b->I1 b)->(∀ j o B,Ae os' j=some o->OR P (βc ae β) w' I1 o B->OR P β w' I2 o B)->
  (∀ k o b,k∉ae->bR obj g k=some o->fX β k b->¬I2 b)->pH P (Y6 w (βc ae β) os') (βc ae β) rv w' I2 v->
  ∃ β' I',Step β I w (cy i) β' I' w'/\Mem P w0 O0 β' I' (bR obj (p.2++(yY ae os'++g))) w'/\VR P β' w' I' p.1 v:=by
  intro g I2 hg hI hI1 hor De hr2;obtain⟨hS,hM2,hown,hapart⟩:=h.zE (tS:=bR obj (yY ae os'++g)) hM hI hI1 jn (λ k o hk=>by
   rcases look g k o hk with ⟨j,e1,e2⟩ |⟨e1,e2⟩
   ·exact .inl ⟨j,e1,e2,λB=>hor j o B e2⟩
   ·exact .inr ⟨e1,hg k o e2,λb e3=>De k o b e1 e2 e3⟩)
  obtain⟨β',k1,k2,k3⟩:=LM (ae:=ae) (F:=Y6 w (βc ae β) os') (βc:=βc ae β) hM2 hn (λ k o b e1 e2 hb=>by
   rcases look g k o e1 with ⟨j,e3,e4⟩ |⟨e3,e4⟩
   ·exact hb.2 j o e4 (by obtain⟨B,e5,e6⟩:=e2;exact⟨B,by simp[βc,e3,e5],e6⟩)
   ·rcases hb.1 with hb |hb
    ·exact hapart k o b e3 (hg k o e4) e2 hb
    ·have:=(h.ip k o b (hg k o e4) e2).2.1;omega) (λ b hb=>by
   rcases hb.1 with hb |hb
   ·exact(hown b hb).2
   ·exact .inr (Nat.le_trans h.le hb)) (λ j B hj=>Jy hj) hp hr2
  refine⟨β',I2,⟨k1.other,k1.ext,hS,hI⟩,?_,k3⟩;have e:bR obj (p.2++(yY ae os'++g))=bR (bR obj (yY ae os'++g)) p.2:=funext λk=>ql obj _ _ k;rw[e];exact k2
 cases keep with
 |true=>
  have⟨hf1,hf2⟩:=hk rfl;exact main [] I (λ _ _ h=>h) (λ _ h=>h) (λ b hb=>h1 b (.inl hb)) (λ j o B hj hO=>by
   obtain⟨q,hq,rfl⟩:=Y7 hj;exact OR.flat (hf2 q hq) hO) (λ k o b _ e1 e2=>(h.ip k o b e1 e2).1) (pH.flat hf1 (λ b hb=>h1 b (.inl hb)) hr)
 |false=>
  have hsub:∀k o,bR obj (cJ.map λk=>(k,none)) k=some o->obj k=some o/\k∉cJ:=by
   intro k o hk;rw[vQ]at hk;split at hk
   ·cases hk
   ·exact⟨hk,‹_›⟩
  refine main _ I1 (λ k o hk=>(hsub k o hk).1) (λ b hb=>h1 b (.inl hb)) (λ _ h=>h) (λ j o B hj hO=>by
   obtain⟨q,hq,rfl⟩:=Y7 hj;exact OR.dat (λ _ h=>h) hO) (λ k o b hki e1 e2 hb=>?_) hr
  have⟨f1,f2⟩:=hsub k o e1;have⟨a1,a2,_⟩:=h.ip k o b f1 e2;rcases hM.up b hb with (g |⟨k',o',s',n',g1,g2,g3⟩) |⟨j,B',g,g'⟩ |g
  ·exact a1 g
  ·have:=h.lE k k' o o' b f1 g2 e2 (.at g3);subst this;exact f2 g1
  ·have⟨k',g1,g2⟩:=Jy g;have⟨o',g3⟩:=jn k' (bW g1);have:=h.lE k k' o o' b f1 g3 e2 ⟨B',g2,g'⟩;subst this;exact hki (bW g1)
  ·omega
theorem QN(h:Mem P w0 O0 β I obj w)(hn:β (cy i)=none){f:AV}{args:List AV}{co:ij}{get:Nat->Option aS}{ab:Out}(hg:∀k o,get k=some o->obj k=some o)
 {fv:Value} {vs:Array Value} {al:Array Operand} {fo:Operand} {r:Operand->Value} (ha:EB P i f args co get=some ab) (cD:ab.ob) (hf:VR P β w I f fv) (hv:be P β w I args vs.toList) (hfo:r fo=fv) (hops:vs=al.map r)
 {dst:Option Tmp} {ao:String} {after:Array Edge} {guard:Option (Nat×Bool)} {ty:TypeId} {cW:Array TypeId}:
 xV P w0 O0 β I obj w i ab ((execOp r ⟨dst,.call { callee:= .value fo,args:=al,argTypes:=cW },ty,ao,after,guard⟩).run P w):=by
 unfold EB at ha;split at ha
 ·rename_i F first caps ae os os' hs rv keep
  split at ha
  ·rename_i hc;obtain⟨hnd,hlen⟩:=hc;cases hp:imp i ae rv with
   |none=>simp[hp]at ha
   |some p=>
   cases hmo:yX get ae os with
   |none=>simp[hp,hmo]at ha
   |some mo=>
   cases hq:kU P get ae (first++args++caps) hs with
   |none=>simp only[hp,hmo,hq,af,Option.bind_none,reduceCtorEq]at ha
   |some q=>
   simp only[hp,hmo,hq,af]at ha;simp only[VR]at hf;obtain⟨fs,cs,rfl,hf1,hf2⟩:=hf;have hout:(∀ x∈q.2.2++mo,x)/\py P F q.1 os os' rv/\(keep=true->rv.flat/\QM os')/\ab.v=p.1/\ab.upd=p.2++(yY ae os'++if keep then []else(EA (first++args++caps) ae).map (λ k=>(k,none))):=by
    cases keep with
    |true=>
     simp only[if_true,ay]at ha;subst ha;have cD:=pq _ cD;exact⟨λ x hx=>cD x (by simp only[aY]at hx ⊢;exact .inl hx),cD (py P F q.1 os os' rv) (by simp),λ_=>⟨cD rv.flat (by simp),cD (QM os') (by simp)⟩,rfl,by simp⟩
    |false=>
     simp only[Bool.false_eq_true,if_false,ay]at ha;subst ha;have cD:=pq _ cD;exact⟨λ x hx=>cD x (by simp only[aY]at hx ⊢;exact .inl hx),cD (py P F q.1 os os' rv) (by simp),λh=>(by cases h),rfl,by simp⟩
   obtain⟨o1,o2,o3,o4,o5⟩:=hout;obtain⟨⟨fn,e1,e2,e3⟩,hcon⟩:=o2;obtain⟨hl2,hmm⟩:=NH hmo (λ x hx=>o1 x (by simp[hx]));have hmm':∀(j:Nat) k p,ae[j]? =some k->os[j]? =some p->∃o,obj k=some o/\o.sz=p.1/\dM (o.rows.take p.2.length)=aG p.2:=λj k p h1 h2=>by
    have⟨o,g1,g2⟩:=hmm j k p h1 h2;exact⟨o,hg k o g1,g2⟩
   have jn:∀k∈ae,∃o,obj k=some o:=by
    intro k hk;obtain⟨j,hj⟩:=List.getElem?_of_mem hk;have hjl:j<os.length:=(by rw[<- hl2];exact(bX.1 hj).1);obtain⟨o,g,_⟩:=hmm' j k _ hj (cZ hjl);exact⟨o,g⟩
   have Kd:∀k∈EA (first++args++caps) ae,k∉ae:=λk hk=>by
    simp only[EA,mem_filter]at hk;simpa using hk.2
   have hM:=h.handed (cJ:=EA (first++args++caps) ae) hnd hl2 hmm' Kd;have hall:be P β w I (first++args++caps) (fs++vs++cs).toList:=by
    simp only[Array.toList_append];exact be.append _ _ _ _ (be.append _ _ _ _ hf1 hv) hf2
   have np:=eS.sound h hg (EA (first++args++caps) ae) _ _ _ (λ k hk hn=>by simp only[EA,mem_filter];exact⟨hk,by simpa using hn⟩) (l5 hq (λ x hx=>o1 x (by simp[hx]))) hall;refine⟨F,fs++vs++cs,?_,(hcon w _ _ _ (λ k hk=>?_) hM np).mono ?_⟩
   ·have hb:¬fn.body=none:=(by cases hh:fn.body<;>simp[hh]at e2 ⊢);have e3' : ¬ fn.name = "runtime.NumGoroutine" := (by simpa using e3);simp[execOp,resolve,hfo,<- hops,Deferred.ofValue,invoke,callFunc,e1,e3',hb]
   ·simp[βc,List.getElem?_eq_none (show ae.length<=k by omega)]
   ·rintro e w' ⟨v',I1,rfl,g1,g2,g3⟩;have⟨β',I',k1,k2,k3⟩:=Y8 (keep:=keep) h hn hp o3 hnd hlen jn g1 g2 g3;exact⟨v',β',I',rfl,k1,by rw[o5];exact k2,by rw[o4];exact k3⟩
  ·cases ha
 ·cases ha
theorem QO(h:Mem P w0 O0 β I obj w)(hn:β (cy i)=none){f:AV}{args:List AV}{co:ij}{get:Nat->Option aS}{ab:Out}(hg:∀k o,get k=some o->obj k=some o)
 {fv:Value} {vs:Array Value} {al:Array Operand} {fo:Operand} {r:Operand->Value} (ha:nM P i f args co get=some ab) (cD:ab.ob) (hf:VR P β w I f fv) (hv:be P β w I args vs.toList) (hfo:r fo=fv) (hops:vs=al.map r)
 {dst:Option Tmp} {ao:String} {after:Array Edge} {guard:Option (Nat×Bool)} {ty:TypeId} {cW:Array TypeId}:
 xV P w0 O0 β I obj w i ab ((execOp r ⟨dst,.call { callee:= .value fo,args:=al,argTypes:=cW },ty,ao,after,guard⟩).run P w):=by
 unfold nM at ha;split at ha
 ·exact QN h hn hg ha cD hf hv hfo hops
 ·exact UK h hn hg ha cD hf hv hfo hops
end
def AF(op:BinOp)(b:AV)(yes:Bool):Option Out:=
 match op with
 | .eql=>pv (if yes then b else .t (.sc (.bool false)))
 | .neq=>pv (if yes then b else .t (.sc (.bool true)))
 |_=>none
def Y9(T:ea)(op:BinOp)(t:TypeId)(x y:AV):Option Out:=
 (T t).bind λti=>match ti.k,x,y with
 | .slice _,.t (.sl rows),.cL=>AF op .ub rows.isEmpty
 | .slice _,.own _ _ len,.cL=>AF op .ub (len==0)
 | .slice _,.oz _ len,.cL=>AF op (.t (.sc (.bool (op== .eql)))) (len==0)
 | .slice _,.cL,.cL=>AF op (.t (.sc (.bool (op== .eql)))) true
 |_,_,_=>none
def HK(T:ea)(s d:TypeId)(x:AV):Option Out:=
 (T s).bind λ_=>(T d).bind λdi=>match di.k,x with
 | .int k,.t (.sc (.int _ n))=>pv (.t (.sc (.int k (k.wrap n))))
 |_,_=>none
def QR(T:ea)(t:TypeId)(x j:AV)(n:Int):Option Out:=
 (T t).bind λti=>match ti.k,x,j with
 | .str,.t (.sc (.string s)),.t (.sc (.int _ m))=>lv (.t (.sc (.int .u8 n))) (0<=m/\∃b,s[m.toNat]? =some b/\n=b.toNat)
 | .arr m e,.agg cs,.t (.sc (.int _ q))=>(T e).bind λei=>(part' ei.agg ei.size ((cs.drop (q.toNat*ei.size)).take ei.size)).bind λv=>lv v (0<=q/\q<(m:Int))
 |_,_,_=>none
def Gc(T:ea)(t:TypeId)(x:AV)(lo hi:Option AV):Option Out:=
 (T t).bind λti=>match ti.k,x with
 | .slice e,.cL=>(T e).bind λ_=>(bnd 0 lo).bind λl=>(bnd 0 hi).bind λh=>lv .cL (l=0/\h=0)
 |_,_=>none
def sD(T:ea)(i:Nat)(b:Builtin)(args:List AV)(cW:List TypeId)(get:Nat->Option aS):Option Out:=
 match b,args,cW with
 | .cap,[.cL],[t]=>(T t).bind λti=>match ti.k with
  | .slice _=>pv (.t (.sc (.int .i64 0)))
  |_=>none
 | .clear,[.own k aa _],[t]=>(T t).bind λti=>match ti.k with
  | .slice e=>(T e).bind λei=>(get k).bind λo=>if o.sz=ei.size then some ⟨.eE [],[(k,some ⟨o.sz,o.rows.take aa⟩)],[]⟩else none
  |_=>none
 | .append,[.cL,.t (.sc (.int _ m))],[t,u]=>(T t).bind λti=>(T u).bind λui=>match ti.k,ui.k with
  | .slice e,.int _=>(T e).bind λei=>some ⟨.own (cy i) 0 m.toNat,[(cy i,some ⟨ei.size,dM (List.replicate m.toNat (ei.zero.map cv))⟩)],[0<=m/\m.toNat*ei.bytes<=140737488355328/\m.toNat<=maxLen/\0<ei.size]⟩
  |_,_=>none
 |_,_,_=>none
def qM(T:ea)(i:Nat)(o:Oper)(n:Int)(ρ:Operand->AV)(get:Nat->Option aS):Option Out:=
 match o.op with
 | .binOp op t x y _=>Y9 T op t (ρ x) (ρ y)
 | .convert s d x=>HK T s d (ρ x)
 | .index t x j=>QR T t (ρ x) (ρ j) n
 | .slice t x lo hi none=>Gc T t (ρ x) (lo.map ρ) (hi.map ρ)
 | .call { callee:= .builtin b,args:=args,argTypes:=cW }=>sD T i b (args.toList.map ρ) cW.toList get
 |_=>none
section
variable {T:ea}
theorem NI{i:Nat}{o:Oper}{co:ij}{ρ ρ':Operand->AV}{get:Nat->Option aS}(h:∀x∈o.op.operands,ρ x=ρ' x):nK T i o co ρ get=nK T i o co ρ' get:=by
 obtain⟨dst,op,ty,ao,after,guard⟩:=o;have pairs:∀ps:Array (Nat×Operand),(∀ x∈(ps.toList.map (·.2)).toArray,ρ x=ρ' x)->(ps.toList.map λ(j,x)=>(j,ρ x))=(ps.toList.map λ(j,x)=>(j,ρ' x)):=λps hp=>
  map_congr_left λp hm=>by
   obtain⟨i,x⟩:=p;simp only[hp x (by simp only[List.mem_toArray];exact mem_map.2 ⟨(i,x),hm,rfl⟩)]
 cases op<;>simp only[Op.operands]at h<;>simp only[nK]
 case build t ps=>rw[pairs ps h]
 case buildSlice t n ps=>rw[pairs ps h]
 case makeFunc fn first captured=>
  have h1:first.toList.map ρ=first.toList.map ρ':=map_congr_left λx hx=>h x (by simp;exact .inl (by simpa using hx))
  have h2:captured.toList.map ρ=captured.toList.map ρ':=map_congr_left λx hx=>h x (by simp;exact .inr (by simpa using hx));cases fn<;>simp only[h1,h2]
 case call c=>
  obtain⟨callee,args,cW⟩:=c;cases callee<;>simp only
  case builtin b=>
   have h1:args.toList.map ρ=args.toList.map ρ':=map_congr_left λx hx=>h x (by simp[Call.operands];simpa using hx);rw[h1]
 case slice t x lo hi mx=>
  have hx:=h x (by simp);cases mx with
  |some m=>rfl
  |none=>
   simp only[hx];cases lo<;>cases hi<;>simp_all
 case pick c a b=>rw[h c (by simp),h a (by simp),h b (by simp)]
 all_goals (first |rfl |(simp_all;done))
theorem pM:∀(l:List Prop),(∀ p∈l,p)->jJ l
 |[],_=>trivial
 |[q],h=>h q (by simp)
 |q::r::l,h=>⟨h q (by simp),pM (r::l) λp hp=>h p (dV _ hp)⟩
theorem Xp{i:Nat}{o:Oper}{n:Int}{ρ ρ':Operand->AV}{get:Nat->Option aS}(h:∀x∈o.op.operands,ρ x=ρ' x):qM T i o n ρ get=qM T i o n ρ' get:=by
 obtain⟨dst,op,ty,ao,after,guard⟩:=o;cases op<;>simp only[Op.operands]at h<;>simp only[qM]
 case binOp a b c d e=>rw[h c (by simp),h d (by simp)]
 case convert s d x=>rw[h x (by simp)]
 case index t x j=>rw[h x (by simp),h j (by simp)]
 case call c=>
  obtain⟨callee,args,cW⟩:=c;cases callee<;>simp only
  case builtin b=>
   have h1:args.toList.map ρ=args.toList.map ρ':=map_congr_left λx hx=>h x (by simp[Call.operands];simpa using hx);rw[h1]
 case slice t x lo hi mx=>
  have hx:=h x (by simp);cases mx with
  |some m=>rfl
  |none=>
   simp only[hx];cases lo<;>cases hi<;>simp_all
end
def PF:Op->Bool
 | .pick .. =>true
 |_=>false
def EC(P:Program)(T:ea)(i:Nat)(o:Oper)(ae:List Nat)(fr:Operand->AV)(co:ij)(ρ:Operand->AV)(get:Nat->Option aS):Option Out:=
 if PF o.op then none else(nK T i o co fr (λ k=>if k∈ae then none else get k)).bind λab=>
  some ⟨ab.v,ab.upd++ae.map (λ k=>(k,none)),ab.obs++[∀ x∈o.op.operands,(eV P get (ρ x) (fr x)/\∀k∈refs (ρ x),k∈ae)\/fr x=ρ x]⟩
theorem Xq{P:Program}{T:ea}{i:Nat}{o:Oper}{ae:List Nat}{fr:Operand->AV}{co:ij}{ρ ρ':Operand->AV}{get:Nat->Option aS}(h:∀x∈o.op.operands,ρ x=ρ' x):EC P T i o ae fr co ρ get=EC P T i o ae fr co ρ' get:=by
 unfold EC;have:(∀ x∈o.op.operands,(eV P get (ρ x) (fr x)/\∀k∈refs (ρ x),k∈ae)\/fr x=ρ x)=(∀ x∈o.op.operands,(eV P get (ρ' x) (fr x)/\∀k∈refs (ρ' x),k∈ae)\/fr x=ρ' x):=by grind
 rw[this]
section
variable {P:Program} {T:ea} {w0:World} {O0:js} {β:Nat->Option cA} {I:Nat->Prop} {obj:Nat->Option aS} {w:World} {i:Nat}
theorem abT(hT:eY P T){op:BinOp}{t:TypeId}{x y:AV}{xo yo:Operand}{u v:Value}{ab:Out}(ha:Y9 T op t x y=some ab)(hx:VR P β w I x u)(hy:VR P β w I y v):
 ∃z,(do eqGuard op t xo yo u v;binOp op t u v:Sem Value).run P w= .ok z w/\VR P β w I ab.v z/\ab.upd=[]:=by
 unfold Y9 at ha;cases hti:T t with
 |none=>simp[hti]at ha
 |some ti=>
  have ht:=hT t ti hti;simp only[hti,af]at ha;have eq:∀e a n c,P.underlying t=some (.slice e)->(Op.equal t (.slice a n c) (.slice none 0 0)).run P w= .ok a.isNone w:=by
   intro e a n c hu;have:∀d,(Op.equalIn (d+1) t (.slice a n c) (.slice none 0 0)).run P w= .ok a.isNone w:=by
    intro d;cases a<;>simp[Op.equalIn,run_underlying hu]
   exact this 9999
  have main:∀e,P.underlying t=some (.slice e)->∀a n c,u= .slice a n c->v= .slice none 0 0->(op= .eql\/op= .neq)->
   (do eqGuard op t xo yo u v;binOp op t u v:Sem Value).run P w= .ok (.bool (if op= .eql then a.isNone else !a.isNone)) w:=by
   rintro e hu a n c rfl rfl (rfl |rfl)
   ·simp[eqGuard,binOp,eq e a n c hu]
   ·simp[eqGuard,binOp,eq e a n c hu]
  have fin:∀e,P.underlying t=some (.slice e)->∀a n c,u= .slice a n c->v= .slice none 0 0->∀(bv:AV)(yes:Bool),AF op bv yes=some ab->
   (yes=false->a.isNone=false)->(yes=true->∀q,(q=if op= .eql then a.isNone else !a.isNone)->VR P β w I bv (.bool q))->
   ∃z,(do eqGuard op t xo yo u v;binOp op t u v:Sem Value).run P w= .ok z w/\VR P β w I ab.v z/\ab.upd=[]:=by
   intro e hu a n c h1 h2 bv yes hn hno C4;unfold AF at hn;split at hn
   ·simp only[pv,ay]at hn;subst hn;refine⟨_,main e hu a n c h1 h2 (.inl rfl),?_,rfl⟩;cases yes with
    |true=>exact C4 rfl _ rfl
    |false=>simp only[hno rfl];exact⟨by simp,trivial⟩
   ·simp only[pv,ay]at hn;subst hn;refine⟨_,main e hu a n c h1 h2 (.inr rfl),?_,rfl⟩;cases yes with
    |true=>exact C4 rfl _ rfl
    |false=>simp only[hno rfl];exact⟨by simp,trivial⟩
   ·cases hn
  split at ha
  ·rename_i e rows hk;have hu:=gH ht hk;simp only[VR]at hy;simp only[VR,TR]at hx;rcases hx with ⟨rfl,a,c,rfl,_⟩ |⟨b,aa,c,sz,rfl,_⟩
   ·exact fin _ hu _ _ _ rfl hy _ _ ha (λ h=>by simp at h) (λ _ q _=>by simp only[VR];exact⟨q,rfl⟩)
   ·exact fin _ hu _ _ _ rfl hy _ _ ha (λ _=>rfl) (λ _ q _=>by simp only[VR];exact⟨q,rfl⟩)
  ·rename_i e k aa len hk;have hu:=gH ht hk;simp only[VR]at hx hy;rcases hx with ⟨_,rfl,_,rfl⟩ |⟨b,sz,n,cap,o,_,rfl,_⟩
   ·exact fin _ hu _ _ _ rfl hy _ _ ha (λ h=>by simp at h) (λ _ q _=>by simp only[VR];exact⟨q,rfl⟩)
   ·exact fin _ hu _ _ _ rfl hy _ _ ha (λ _=>rfl) (λ _ q _=>by simp only[VR];exact⟨q,rfl⟩)
  ·rename_i e k len hk;have hu:=gH ht hk;simp only[VR]at hx hy;rcases hx with ⟨h0,rfl⟩ |⟨h0,b,sz,n,cap,o,_,rfl,_⟩
   ·refine fin _ hu _ _ _ rfl hy _ _ ha (λ h=>by simp[h0]at h) (λ _ q hq=>?_);simp only[VR,TR,hq];cases op<;>exact⟨by simp,trivial⟩
   ·exact fin _ hu _ _ _ rfl hy _ _ ha (λ _=>rfl) (λ h=>by simp[h0]at h)
  ·rename_i e hk;have hu:=gH ht hk;simp only[VR]at hx hy;subst hx;refine fin _ hu _ _ _ rfl hy _ _ ha (λ h=>by cases h) (λ _ q hq=>?_);simp only[VR,TR,hq];cases op<;>exact⟨by simp,trivial⟩
  ·cases ha
theorem Za(hT:eY P T){s d:TypeId}{x:AV}{u:Value}{ab:Out}(ha:HK T s d x=some ab)(hx:VR P β w I x u):
 ∃z,(convert s d u).run P w= .ok z w/\VR P β w I ab.v z/\ab.upd=[]:=by
 unfold HK at ha;cases hsi:T s with
 |none=>simp[hsi]at ha
 |some si=>
  cases hdi:T d with
  |none=>simp[hsi,hdi]at ha
  |some di=>
   simp only[hsi,hdi,af]at ha;split at ha
   ·rename_i k kk n hk;simp only[pv,ay]at ha;subst ha;have⟨info,dd,z,_,h2,_⟩:=(hT s si hsi).ex;have⟨info',dd',z',_,h2',_,_,_,_,_,h8⟩:=(hT d di hdi).ex;rw[hk]at h8;have h8:dd'= .int k:=h8;subst h8;simp only[VR,TR]at hx;obtain⟨rfl,_⟩:=hx;refine⟨.int k (k.wrap n),?_,by simp only[VR,TR];exact⟨trivial,trivial⟩,rfl⟩;simp[convert,run_underlying h2,run_underlying h2',Conv.intToInt]
   ·cases ha
theorem Xr(hT:eY P T){t:TypeId}{x j:AV}{n:Int}{u v:Value}{ab:Out}(ha:QR T t x j n=some ab)(cD:ab.ob)(hx:VR P β w I x u)(hj:VR P β w I j v):
 ∃z,(Instr.index t u v).run P w= .ok z w/\VR P β w I ab.v z/\ab.upd=[]:=by
 unfold QR at ha;cases hti:T t with
 |none=>simp[hti]at ha
 |some ti=>
  simp only[hti,af]at ha;split at ha
  ·rename_i s k m hk;simp only[lv,ay]at ha;subst ha;obtain⟨h0,b,hb,rfl⟩:=cD;have⟨info',dd',z',_,h2',_,_,_,_,_,h8⟩:=(hT t ti hti).ex;rw[hk]at h8;have h8:dd'= .string:=h8;subst h8;simp only[VR,TR]at hx hj;obtain⟨rfl,_⟩:=hx;obtain⟨rfl,_⟩:=hj;refine⟨.int .u8 b.toNat,?_,by simp only[VR,TR];exact⟨trivial,trivial⟩,rfl⟩;simp[Instr.index,asIntOf,run_underlying h2',h0,hb]
  ·rename_i m e cs kd q hk;have ep:=QE (hT t ti hti) hk;cases fy:T e with
   |none=>simp[fy]at ha
   |some ei=>
    simp only[fy,af]at ha;cases hp:part' ei.agg ei.size ((cs.drop (q.toNat*ei.size)).take ei.size)with
    |none=>simp[hp]at ha
    |some y=>
     simp only[hp,af,lv,ay]at ha;subst ha;have cD:0<=q/\q<(m:Int):=cD;simp only[VR,TR]at hx hj;obtain⟨vs,rfl,hvs⟩:=hx;obtain⟨rfl,_⟩:=hj;have he:=hT e ei fy;have⟨u,hu,hv⟩:=Y5 he hp hvs;refine⟨u,?_,hv,rfl⟩;simp[Instr.index,asIntOf,run_underlying ep,cD.1,cD.2,he.size (w:=w)];simpa using hu
  ·cases ha
theorem OM(hT:eY P T){t:TypeId}{x:AV}{lo hi:Option AV}{ab:Out}{v:Value}{rN hiv:Option Value}
 (ha:Gc T t x lo hi=some ab) (cD:ab.ob) (hx:VR P β w I x v) (hlo:∀x,lo=some x->∃v,rN=some v/\VR P β w I x v) (hlo0:lo=none->rN=none) (hhi:∀x,hi=some x->∃v,hiv=some v/\VR P β w I x v) (hhi0:hi=none->hiv=none):
 ∃u,(Instr.sliceAt t v rN hiv none).run P w= .ok u w/\VR P β w I ab.v u/\ab.upd=[]:=by
 unfold Gc at ha;cases hti:T t with
 |none=>simp[hti]at ha
 |some ti=>
  have ht:=hT t ti hti;simp only[hti,af]at ha;split at ha
  ·rename_i e hkd;cases fy:T e with
   |none=>simp[fy]at ha
   |some ei=>
    have he:=hT e ei fy;simp only[fy,af]at ha;cases hl:bnd 0 lo with
    |none=>simp[hl]at ha
    |some l=>
     cases hh:bnd 0 hi with
     |none=>simp[hl,hh]at ha
     |some r=>
      simp only[hl,hh,af,lv,ay]at ha;subst ha;obtain⟨rfl,rfl⟩:=cD;simp only[VR]at hx;subst hx;have:=CY (P:=P) (w:=w) (len:=0) (cap:=0) (F9 hl hlo hlo0) (F9 hh hhi hhi0) (by omega) (by omega) (by omega);refine⟨.slice none 0 0,?_,by simp only[VR],rfl⟩;simp[Instr.sliceAt,Instr.slice,run_underlying (gH ht hkd),this,he.size (w:=w)]
  ·cases ha
theorem br.congr:∀(rows:List (List AV))(c c':Array Value)(aa sz:Nat),(∀ j,j<aa+rows.length*sz->c'[j]? =c[j]?)->br P β w I rows c aa sz->br P β w I rows c' aa sz
 |[],_,_,_,_,_,_=>trivial
 |r::rs,c,c',aa,sz,hc,⟨h1,h2,h3⟩=>by
  have hl:(r::rs).length*sz=sz+rs.length*sz:=by rw[bI,Nat.add_mul];omega
  rw[hl]at hc;refine⟨h1,?_,br.congr rs c c' (aa+sz) sz (λ j hj=>hc j (by omega)) h3⟩;rw[iW]at h2 ⊢;intro j x hx;have hj:=(bX.1 hx).1;rw[hc (aa+j) (by omega)];exact h2 j x hx
theorem br.zeros(z:List Value)(sz:Nat)(hz:z.length=sz)(h1:∀v∈z,oneCell v):∀(n:Nat)(c:Array Value)(aa:Nat),(∀ i j,i<n->j<sz->c[aa+i*sz+j]? =z[j]?)->br P β w I (List.replicate n (z.map cv)) c aa sz
 | 0,_,_,_=>trivial
 |n+1,c,aa,hc=>by
  rw[List.replicate_succ];refine⟨by simpa using hz,?_,br.zeros z sz hz h1 n c (aa+sz) λi j hi hj=>?_⟩
  ·rw[iW];intro j x hx;simp only[List.getElem?_map,dR]at hx;obtain⟨v,hv,rfl⟩:=hx;have hj:=(bX.1 hv).1;refine⟨v,?_,VR.cv,h1 v (bW hv)⟩;have:=hc 0 j (by omega) (by omega);rw[Nat.zero_mul,Nat.add_zero]at this;rw[this];exact hv
  ·have:=hc (i+1) j (by omega) hj;rw[show aa+sz+i*sz+j=aa+(i+1)*sz+j by rw[Nat.add_mul];omega];exact this
theorem H6(z:Array Value)(n j:Nat)(h:j<n*z.size):(Builtin.zeroCells z n)[j]? =z[j%z.size]? :=by
 have hz:0<z.size:=Nat.pos_of_ne_zero λe=>by rw[e]at h;omega
 have hm:j%z.size<z.size:=Nat.mod_lt _ hz;simp[Builtin.zeroCells,h,hm]
theorem OO(hT:eY P T)(h:Mem P w0 O0 β I obj w)(hn:β (cy i)=none){b:Builtin}{args:List AV}{cW:Array TypeId}{get:Nat->Option aS}{ab:Out}(hg:∀k o,get k=some o->obj k=some o)
 {vs:Array Value} {ty:TypeId} {al:Array Operand} (ha:sD T i b args cW.toList get=some ab) (cD:ab.ob) (hv:be P β w I args vs.toList) {r:Operand->Value} (hops:vs=al.map r) {dst:Option Tmp} {ao:String} {after:Array Edge} {guard:Option (Nat×Bool)}:
 qe P w0 O0 β I obj w i ab ((execOp r ⟨dst,.call { callee:= .builtin b,args:=al,argTypes:=cW },ty,ao,after,guard⟩).run P w):=by
 unfold sD at ha;split at ha
 ·rename_i t pr;obtain⟨v,hvs⟩:∃v,vs=#[v]:=by
   obtain⟨l⟩:=vs
   match l,hv with
   |[v],_=>exact⟨v,rfl⟩
   |[],h=>simp[be]at h
   |_::_::_,h=>simp[be]at h
  have ht:cW=#[t]:=by cases cW;simpa using pr
  subst hvs ht;simp only[be,VR]at hv;cases hti:T t with
  |none=>simp[hti]at ha
  |some ti=>
   simp only[hti,af]at ha;split at ha
   ·rename_i e hk;simp only[pv,ay]at ha;subst ha;refine⟨.int .i64 0,w,β,I,.inl ?_,Step.refl ..,h,by simp only[VR,TR];exact⟨trivial,trivial⟩⟩;rw[hv.1]at hops;simp[execOp,resolve,invoke,builtin,<- hops,Builtin.cap_,run_underlying (gH (hT t ti hti) hk),goInt]
   ·cases ha
 ·rename_i k aa len t pr;obtain⟨v,hvs⟩:∃v,vs=#[v]:=by
   obtain⟨l⟩:=vs
   match l,hv with
   |[v],_=>exact⟨v,rfl⟩
   |[],h=>simp[be]at h
   |_::_::_,h=>simp[be]at h
  have ht:cW=#[t]:=by cases cW;simpa using pr
  subst hvs ht;simp only[be]at hv;have hv:=hv.1;cases hti:T t with
  |none=>simp[hti]at ha
  |some ti=>
   simp only[hti,af]at ha;split at ha
   ·rename_i e hkd;cases fy:T e with
    |none=>simp[fy]at ha
    |some ei=>
     cases hk:get k with
     |none=>simp[fy,hk]at ha
     |some o=>
      simp only[fy,hk,af]at ha;split at ha
      ·rename_i hsz;cases ha;have he:=hT e ei fy;have ep:=gH (hT t ti hti) hkd;obtain⟨info,d,z,g1,g2,g3,g4,g5,g6,g7,g8⟩:=he.ex;have hko:=hg k o hk;have weak:∀{w':World},Mem P w0 O0 β I obj w'->Mem P w0 O0 β I (bR obj [(k,some ⟨o.sz,o.rows.take aa⟩)]) w':=by
        intro w' hm;refine hm.weak λj o' hj=>?_;simp only[bR]at hj;split at hj
        ·rename_i e;subst e;cases hj;refine⟨o,hko,λB hB hO=>?_⟩;cases B with
         |none=>simp only[OR]at hO ⊢;simp[hO]
         | «at» b s n=>
          obtain⟨h1,c,e,h2,h3,h4⟩:=hO;exact⟨h1,c,e,h2,h3,br.take _ _ _ _ _ h4⟩
         |mp b=>
          obtain⟨es,cl,h1,hle,h2,h3⟩:=hO;refine⟨es,cl,h1,by simp only[length_take];omega,λe=>?_,h3⟩;simp only[length_take]at e;simp only;rw[take_of_length_le (by omega)];exact h2 (by omega)
        ·exact⟨o',hj,λ_ _ h=>h⟩
       have hdone:∀w',(Builtin.clear_ #[t] ty #[v]).run P w= .ok (.tuple #[]) w'->(execOp r ⟨dst,.call { callee:= .builtin .clear,args:=al,argTypes:=#[t] },ty,ao,after,guard⟩).run P w= .ok (.value (.tuple #[])) w':=by
        intro w' hw;simp[execOp,resolve,invoke,builtin,<- hops,hw]
       have xc:∀{w':World},VR P β w' I (.eE []) (.tuple #[]):=by
        intro w';simp only[VR];exact⟨#[],rfl,trivial⟩
       simp only[VR]at hv;rcases hv with ⟨h1,rfl,_,rfl⟩ |⟨b,sz,m,cap,a,h1,rfl,h2,h3,h4⟩
       ·exact⟨_,w,β,I,.inl (hdone w (by simp[Builtin.clear_,run_underlying ep])),Step.refl ..,weak h,xc⟩
       ·by_cases h0:len=0
        ·subst h0;exact⟨_,w,β,I,.inl (hdone w (by simp[Builtin.clear_,run_underlying ep])),Step.refl ..,weak h,xc⟩
        ·have⟨B,hB,hO⟩:=h.cE k o hko;rw[h1]at hB;cases hB;obtain⟨hs,c,ce,hc,hcn,hO⟩:=hO;have ha':a=m.s+aa*sz:=h4 (by omega);subst ha';have hzs:z.cells.size=ei.size:=(by rw[<- Array.length_toList,g6];exact he.len);have hzl:(Builtin.zeroCells z.cells len).toList.length=len*ei.size:=(by simp[size_zeroCells,hzs]);have hfit:m.s+aa*sz+len*ei.size<=c.size:=by
          rw[hcn,<- hsz,<- hs,Nat.add_assoc,<- Nat.add_mul];have:(aa+len)*sz<=(aa+cap)*sz:=Nat.mul_le_mul_right _ (by omega);omega
         have hone:∀u∈(Builtin.zeroCells z.cells len).toList,u.oneCell'=true:=by
          intro u hu;obtain⟨j,hj⟩:=List.getElem?_of_mem hu;have hjl:=(bX.1 hj).1;rw[hzl,<- hzs]at hjl;rw[Array.getElem?_toList,H6 _ _ _ hjl]at hj;have:u∈ei.zero:=(by rw[<- g6];exact Array.mem_toList_iff.2 (Array.mem_of_getElem? hj));exact oneCell' (qK (all_eq_true.1 he.one u this))
         have hst:=run_storeCells_at P b (m.s+aa*sz) ce (Builtin.zeroCells z.cells len).toList 0 c w hc (by rw[hzl];omega) hone;simp only[Nat.add_zero]at hst;generalize hcc:(List.take (m.s+aa*sz) c.toList++(Builtin.zeroCells z.cells len).toList++List.drop (m.s+aa*sz+(Builtin.zeroCells z.cells len).toList.length) c.toList).toArray=cc at hst;have K0:cc.size=c.size:=(by rw[<- hcc];simp[length_take,length_drop,size_zeroCells,hzs];omega);have hzv:(zeroValue e).run P w= .ok z w:=(by simp[zeroValue,typeInfo,g1,g5]);have hrun:(Builtin.clear_ #[t] ty #[.slice (some ⟨b,m.s+aa*sz,none⟩) len cap]).run P w= .ok (.tuple #[]) (w.setRow b cc):=by
          obtain⟨len',rfl⟩:∃len',len=len'+1:=⟨len -1,by omega⟩;simp[Builtin.clear_,run_underlying ep,hzv,hst]
         obtain⟨tw,hM⟩:=Mem.write (o':=⟨o.sz,o.rows.take aa⟩) h hko h1 (c':=cc) (e:=ce) (setRow_heap w b c cc ce (0,0) hc) (λ b' hb=>setRow_other w b b' cc hb) (by simp) rfl rfl rfl hs (by omega) (by
          refine br.congr _ c cc m.s o.sz (λ j hj=>?_) (by rw[<- hs];exact br.take _ _ _ _ _ hO);have hj2:j<m.s+aa*sz:=by
           rw[hs];refine Nat.lt_of_lt_of_le hj (Nat.add_le_add_left ?_ _);exact Nat.mul_le_mul_right _ (by simp[length_take];omega)
          rw[<- hcc,List.getElem?_toArray,aM,List.getElem?_append_left (by simp[length_take];omega),List.getElem?_take,bn hj2,Array.getElem?_toList])
         exact⟨_,_,β,I,.inl (hdone _ hrun),⟨λ _ _=>rfl,λ_ _ h=>h,tw,λ_ h=>h⟩,hM,xc⟩
      ·cases ha
   ·cases ha
 ·rename_i kk m t u pr;obtain⟨v,v',hvs⟩:∃v v',vs=#[v,v']:=by
   obtain⟨l⟩:=vs
   match l,hv with
   |[v,v'],_=>exact⟨v,v',rfl⟩
   |[],h=>simp[be]at h
   |[_],h=>simp[be]at h
   |_::_::_::_,h=>simp[be]at h
  have ht:cW=#[t,u]:=by cases cW;simpa using pr
  subst hvs ht;simp only[be,VR,TR]at hv;obtain⟨rfl,⟨rfl,_⟩,_⟩:=hv;cases hti:T t with
  |none=>simp[hti]at ha
  |some ti=>
   cases tD:T u with
   |none=>simp[hti,tD]at ha
   |some ui=>
    simp only[hti,tD,af]at ha;split at ha
    ·rename_i e kn hkd xn;cases fy:T e with
     |none=>simp[fy]at ha
     |some ei=>
      simp only[fy,af,ay]at ha;subst ha;obtain⟨m0,m48,C0,mpos⟩:=cD;have he:=hT e ei fy;have ep:=gH (hT t ti hti) hkd;obtain⟨info,d,z,g1,g2,g3,g4,g5,g6,g7,g8⟩:=he.ex;have⟨_,dd',_,_,h2',_,_,_,_,_,h8⟩:=(hT u ui tD).ex;rw[xn]at h8;have h8:dd'= .int kn:=h8;subst h8;obtain⟨n,rfl⟩:∃n:Nat,m=(n:Int):=⟨m.toNat,by omega⟩;simp only[Int.toNat_natCast]at m48 C0 ⊢;by_cases h0:n=0
      ·subst h0;have⟨hS,hM⟩:=Mem.oa (i:=cy i) (o:=⟨ei.size,[]⟩) h hn rfl;have hrun:(Builtin.append_ #[t,u] ty #[.slice none 0 0,.int kk ((0:Nat):Int)]).run P w= .ok (.slice none 0 0) w:=by
        have hw0:i64.wrap (0:Int)=0:=(by decide);simp[Builtin.append_,run_underlying ep,run_underlying h2',sizeOf,typeInfo,g1,asInt,asIntOf,hw0]
       replace hrun:(Builtin.append_ #[t,u] ty #[.slice none 0 0,.int kk 0]).run P w= .ok (.slice none 0 0) w:=hrun
       refine⟨.slice none 0 0,w,_,I,.inl (by simp[execOp,resolve,invoke,builtin,<- hops,hrun]),hS,by simpa[dM]using hM,by simp only[VR];exact .inl ⟨by simp[ins],trivial,trivial,trivial⟩⟩
      ·have hrun:=Lib.run_append_nil_zeros (P:=P) w t u ty e info z kk kn ep h2' g1 g5 n (by omega) (by omega) (by simp only[maxLen]at C0;omega) (by rw[g4];omega);have hd:=h.drew;have hzs:z.cells.size=ei.size:=(by rw[<- Array.length_toList,g6];exact he.len);have hge:=grownCap_ge w n 0 e;generalize hC:Builtin.zeroCells z.cells n++Builtin.zeroCells z.cells (grownCap w n 0 e -n)=cs at hrun;have hcs:cs.size=grownCap w n 0 e*ei.size:=by
        rw[<- hC];simp only[Array.size_append,size_zeroCells,hzs,<- Nat.add_mul];rw[show n+(grownCap w n 0 e -n)=grownCap w n 0 e by omega]
       obtain⟨hS,hM⟩:=Mem.alloc (i:=cy i) (o:=⟨ei.size,List.replicate n (ei.zero.map cv)⟩) (c:=cs) (e:=e) hd hn (by
        refine br.zeros ei.zero ei.size he.len (λ v hv=>qK (all_eq_true.1 he.one v hv)) n cs 0 (λ i j hi hj=>?_);have hlt:0+i*ei.size+j<n*ei.size:=by
         have:(i+1)*ei.size<=n*ei.size:=Nat.mul_le_mul_right _ (by omega);rw[Nat.add_mul]at this;omega
        rw[<- hC,Array.getElem?_append_left (by simpa[size_zeroCells,hzs]using hlt),H6 _ _ _ (by rw[hzs];exact hlt),hzs,<- g6,Array.getElem?_toList];congr 1;rw[Nat.zero_add,Nat.mul_comm,Nat.mul_add_mod,Nat.mod_eq_of_lt hj])
       refine⟨_,_,_,I,.inl (by simp[execOp,resolve,invoke,builtin,<- hops,hrun];rfl),⟨hS.other,hS.ext,λb hb=>hS.same b hb,hS.inc⟩,hM.tG,?_⟩;simp only[VR];refine .inr ⟨w.heap.size,ei.size,_,_,0,by simp[ins];rfl,rfl,hge,?_,by simp⟩;rw[hcs,Nat.zero_add];simp
    ·cases ha
 ·cases ha
theorem Xt(hT:eY P T)(h:Mem P w0 O0 β I obj w)(hn:β (cy i)=none){o:Oper}{n:Int}{ρ:Operand->AV}{get:Nat->Option aS}{ab:Out}(hg:∀k o,get k=some o->obj k=some o)
 {r:Operand->Value} (hρ:∀x,VR P β w I (ρ x) (r x)) (ha:qM T i o n ρ get=some ab) (cD:ab.ob):qe P w0 O0 β I obj w i ab ((execOp r o).run P w):=by
 obtain⟨dst,op,ty,ao,after,guard⟩:=o;have val:∀{s:Sem Value}{z:Value},s.run P w= .ok z w->ab.upd=[]->VR P β w I ab.v z->qe P w0 O0 β I obj w i ab ((do pure (.value (<- s)):Sem Next).run P w):=by
  intro s z h1 h2 h3;refine⟨z,w,β,I,.inl (by simp[h1]),Step.refl ..,by rw[h2];exact h,h3⟩
 unfold qM at ha;split at ha
 ·rename_i bop t x y q heq;simp only at heq;subst heq;have⟨z,h1,h2,h3⟩:=abT (xo:=x) (yo:=y) hT ha (hρ x) (hρ y);exact val h1 h3 h2
 ·rename_i s d x heq;simp only at heq;subst heq;have⟨z,h1,h2,h3⟩:=Za hT ha (hρ x);exact val h1 h3 h2
 ·rename_i t x j heq;simp only at heq;subst heq;have⟨z,h1,h2,h3⟩:=Xr hT ha cD (hρ x) (hρ j);exact val h1 h3 h2
 ·rename_i t x lo hi heq;simp only at heq;subst heq;obtain⟨z,h1,h2,h3⟩:=OM (rN:=lo.map r) (hiv:=hi.map r) hT ha cD (hρ x) (λ y hy=>by
   cases lo with
   |none=>cases hy
   |some q=>cases hy;exact⟨r q,rfl,hρ q⟩) (λ h=>by cases lo<;>first |rfl |cases h) (λ y hy=>by
   cases hi with
   |none=>cases hy
   |some q=>cases hy;exact⟨r q,rfl,hρ q⟩) (λ h=>by cases hi<;>first |rfl |cases h)
  exact val h1 h3 h2
 ·rename_i b args cW heq;simp only at heq;subst heq;exact OO hT h hn hg ha cD (by rw[Array.toList_map];exact be.map hρ _) rfl
 ·cases ha
theorem Xu(hT:eY P T)(h:Mem P w0 O0 β I obj w)(hn:β (cy i)=none){o:Oper}{ae:List Nat}{fr:Operand->AV}{co:ij}{ρ:Operand->AV}{get:Nat->Option aS}{ab:Out}(hg:∀k o,get k=some o->obj k=some o)
 {r:Operand->Value} (hρ:∀x,VR P β w I (ρ x) (r x)) (ha:EC P T i o ae fr co ρ get=some ab) (cD:ab.ob):qe P w0 O0 β I obj w i ab ((execOp r o).run P w):=by
 unfold EC at ha;split at ha
 ·cases ha
 rw[ah]at ha;obtain⟨out',h1,h2⟩:=ha;cases h2;have cD:=pq _ cD;have hb:=cD (∀ x∈o.op.operands,(eV P get (ρ x) (fr x)/\∀k∈refs (ρ x),k∈ae)\/fr x=ρ x) (by simp);have hsub:∀k o',bR obj (ae.map λk=>(k,none)) k=some o'->obj k=some o'/\k∉ae:=by
  intro k o' hk;rw[vQ]at hk;split at hk
  ·cases hk
  ·exact⟨hk,‹_›⟩
 have hd:=h.drop (bR obj (ae.map λk=>(k,none))) (λ k o hk=>(hsub k o hk).1);obtain⟨_,hM⟩:=hd.below (I':=eI β obj ae I) (w':=w) ⟨rfl,rfl,rfl,aB _,λ_ _=>rfl⟩ (λ b hb=> .inl hb) (Ga h ae) (λ b k o B hb' e1 e2 e3=>by
  have⟨f1,f2⟩:=hsub k o e1;have⟨a1,_,_⟩:=h.ownB k o B b f1 e2 e3;rcases hb' with h5 |⟨k',o',s',n',g1,g2,g3⟩
  ·exact a1 h5
  ·have:=h.lE k k' o o' b f1 g2 ⟨B,e2,e3⟩ (.at g3);subst this;exact f2 g1) (λ b hb'=>by
  rcases hb' with h5 |⟨k',o',s',n',g1,g2,g3⟩
  ·exact h.up b h5
  ·exact .inr (h.own k' o' b s' n' g2 g3).2.2)
 have hfr:∀x,VR P β w (eI β obj ae I) ((λ x=>open Classical in if x∈o.op.operands then fr x else .undef) x) (r x):=by
  intro x;by_cases hx:x∈o.op.operands
  ·simp only[hx,if_true];rcases hb x hx with ⟨b1,b2⟩ |b1
   ·exact VR.mono (λ k B h=>by simp[ly]at h) (λ _ _=>rfl) (λ _ h=>h) _ _ (eV.sound h ae _ _ _ b2 (eV.weaken hg _ _ b1) (hρ x))
   ·rw[b1];exact VR.mono (λ _ _ h=>h) (λ _ _=>rfl) (λ _ h=> .inl h) _ _ (hρ x)
  ·simp only[hx,if_false,VR]
 rw[NI (ρ':=λx=>open Classical in if x∈o.op.operands then fr x else .undef) (λ x hx=>by simp only[hx,if_true])]at h1;obtain⟨v',w',β',I',k1,k2,k3,k4⟩:=NG hT hM hn (λ k o' hk=>by
  rw[vQ];split at hk
  ·cases hk
  ·rw[bf ‹_›];exact hg k o' hk) hfr h1 (pM _ λp hp=>cD p (by simp[hp]))
 refine⟨v',w',β',I',k1,⟨k2.other,k2.ext,λb hb=>k2.same b (.inl hb),λb hb=>k2.inc b (.inl hb)⟩,?_,k4⟩;have e:bR obj (out'.upd++ae.map λk=>(k,none))=bR (bR obj (ae.map λk=>(k,none))) out'.upd:=funext λk=>ql obj _ _ k;rw[e];exact k3
end
open Go.RowKit Go.MapKept
def Jz:wd->Value->Bool
 | .int a,.int b _=>decide (a=b)
 | .str,.string _=>true
 | .bool,.bool _=>true
 |_,_=>false
def NJ:Value->Value->Option Bool
 | .int k a,.int k' b=>if k=k' then some (a==b)else none
 | .string a,.string b=>some (a.toList==b.toList)
 | .bool a,.bool b=>some (a==b)
 |_,_=>none
def NK(key:Value):List (List AV)->Option (Option (Nat×AV))
 |[]=>some none
 |[.t (.sc kv),y]::rs=>(NJ key kv).bind λb=>if b then some (some (0,y))else(NK key rs).map λr=>r.map λp=>(p.1+1,p.2)
 |_=>none
def Xv(key:Value)(y':AV):List (List AV)->Option (List (List AV))
 |[]=>some [[.t (.sc key),y']]
 |[.t (.sc kv),y]::rs=>(NJ key kv).bind λb=>if b then some ([.t (.sc key),y']::rs)else(Xv key y' rs).map λr=>[.t (.sc kv),y]::r
 |_=>none
def AW:AV->AV
 | .agg cs=> .agg (cs.map wk)
 |x=>wk x
def ED(T:ea)(i:Nat)(t:TypeId):Option Out:=
 (T t).bind λti=>match ti.k with
 | .map _ _=>some ⟨.mp (cy i),[(cy i,some ⟨0,[]⟩)],[]⟩
 |_=>none
def CC(r:Option (Nat×AV))(z:Option AV):Option AV:=match r with
 |some p=>some p.2
 |none=>z
def Gd(T:ea)(t:TypeId)(x key:AV)(ok:Bool)(get:Nat->Option aS):Option Out:=
 (T t).bind λti=>match ti.k,x,key with
 | .map kt et,.mp k,.t (.sc kv)=>(T kt).bind λki=>(T et).bind λei=>(get k).bind λo=>if Jz ki.k kv=true/\o.sz=o.rows.length then(NK kv o.rows).bind λr=>
  (CC r (part' ei.agg ei.size ((ei.zero.map cv).map wk))).bind λv=>pv (if ok then .eE [v,.t (.sc (.bool r.isSome))]else v)else none
 |_,_,_=>none
def JA(T:ea)(t:TypeId)(x key y:AV)(get:Nat->Option aS):Option Out:=
 (T t).bind λti=>match ti.k,x,key with
 | .map kt _,.mp k,.t (.sc kv)=>(T kt).bind λki=>(get k).bind λo=>if Jz ki.k kv=true/\o.sz=o.rows.length then(Xv kv (AW y) o.rows).bind λrs=>
  some ⟨.undef,[(k,some ⟨rs.length,rs⟩)],[]⟩else none
 |_,_,_=>none
section
variable {P:Program} {T:ea} {w0:World} {O0:js} {β:Nat->Option cA} {I:Nat->Prop} {obj:Nat->Option aS} {w:World} {i:Nat}
theorem aeC{k:wd}{v:Value}{d:TypeDesc}(h:Jz k v=true)(hd:Ix k d):IsKey d v:=by
 unfold Jz at h;split at h
 ·rename_i a b n;have hd:d= .int a:=hd;subst hd;simp only[aR]at h;subst h;simp[IsKey]
 ·have hd:d= .string:=hd;subst hd;simp[IsKey]
 ·have hd:d= .bool:=hd;subst hd;simp[IsKey]
 ·cases h
theorem VQ{d:TypeDesc}{a b:Value}(ha:IsKey d a){r:Bool}(h:NJ a b=some r):Instr.sameNow d a b=some r/\(r=true->a=b)/\IsKey d b:=by
 unfold NJ at h;split at h
 ·rename_i k x k' y;split at h
  ·rename_i hk;subst hk;cases h;cases d<;>simp only[IsKey]at ha ⊢
   all_goals first |exact ha.elim |skip
   subst ha;refine⟨by simp[Instr.sameNow],λhh=>?_,rfl⟩;rw[eq_of_beq hh]
  ·cases h
 ·rename_i x y;cases h;cases d<;>simp only[IsKey]at ha ⊢
  all_goals first |exact ha.elim |skip
  have e:(x==y)=(x.toList==y.toList):=by
   rw[kC,bytes_beq];constructor
   ·rintro rfl;simp
   ·intro hh;have:=eq_of_beq hh;cases x;cases y;simp only[ByteArray.toList_eq]at this;congr 1;exact Array.ext' this
  refine⟨by simp[Instr.sameNow,e],λhh=>?_,trivial⟩;rw[(bytes_beq x y).1 (e ▸ hh)]
 ·rename_i x y;cases h;cases d<;>simp only[IsKey]at ha ⊢
  all_goals first |exact ha.elim |skip
  exact⟨by simp[Instr.sameNow],λhh=>by rw[eq_of_beq hh],trivial⟩
 ·cases h
theorem NN{d:TypeDesc}{key:Value}(hk:IsKey d key):∀(rows:List (List AV))(es:List MapEntry)(i:Nat)(r:Option (Nat×AV)),ct P β w I rows es->NK key rows=some r->
 (r=none/\Instr.findNow d key es i=some none)\/∃j y e,r=some (j,y)/\Instr.findNow d key es i=some (some (i+j,e.val))/\es[j]? =some e/\e.key=key/\VR P β w I y e.val
 |[],[],i,r,_,h=>by simp only[NK,ay]at h;exact .inl ⟨h.symm,rfl⟩
 |row::rows,e::es,i,r,hm,h=>by
  obtain⟨h1,h2⟩:=hm;unfold NK at h;split at h
  ·rename_i heq;cases heq
  ·rename_i kv y rs heq;injection heq with e1 e2;subst e1;subst e2;simp only[be,VR,TR]at h1;obtain⟨⟨g1,_⟩,g2,_⟩:=h1;rw[ah]at h;obtain⟨b,h3,h⟩:=h;rw[<- g1]at h3;have⟨q1,q2,_⟩:=VQ hk h3;cases b with
   |true=>
    simp only[if_true,ay]at h;subst h;exact .inr ⟨0,y,e,rfl,by simp[Instr.findNow,q1],rfl,(q2 rfl).symm,g2⟩
   |false=>
    simp only[Bool.false_eq_true,if_false,dR]at h;obtain⟨r',h4,rfl⟩:=h;rcases NN hk rows es (i+1) r' h2 h4 with ⟨rfl,a2⟩ |⟨j,y',e',rfl,a2,a3,a4,a5⟩
    ·exact .inl ⟨rfl,by simp[Instr.findNow,q1,a2]⟩
    ·exact .inr ⟨j+1,y',e',rfl,by simp only[Instr.findNow,q1,a2];congr 3;omega,by simpa using a3,a4,a5⟩
  ·cases h
 |[],_::_,_,_,hm,_=>hm.elim
 |_::_,[],_,_,hm,_=>hm.elim
theorem QS{d:TypeDesc}{key v:Value}{y':AV}(hk:IsKey d key)(hv:VR P β w I y' v)(hkv:oneCell key):∀(rows:List (List AV))(es:List MapEntry)(i:Nat)(rs':List (List AV)),ct P β w I rows es->Xv key y' rows=some rs'->
 (Instr.findNow d key es i=some none/\∀n,ct P β w I rs' (es++[⟨key,v,n⟩]))\/∃j e,Instr.findNow d key es i=some (some (i+j,e.val))/\es[j]? =some e/\e.key=key/\ct P β w I rs' (es.modify j λe=>{ e with key:=key,val:=v })
 |[],[],i,r,_,h=>by
  simp only[Xv,ay]at h;subst h;refine .inl ⟨rfl,λn=>?_⟩;simp only[bK,ct,be,VR,TR];exact⟨⟨⟨trivial,hkv⟩,hv,trivial⟩,trivial⟩
 |row::rows,e::es,i,r,hm,h=>by
  obtain⟨h1,h2⟩:=hm;unfold Xv at h;split at h
  ·rename_i heq;cases heq
  ·rename_i kv y rs heq;injection heq with e1 e2;subst e1;subst e2;have h1':=h1;simp only[be,VR,TR]at h1;obtain⟨⟨g1,g1'⟩,g2,_⟩:=h1;rw[ah]at h;obtain⟨b,h3,h⟩:=h;rw[<- g1]at h3;have⟨q1,q2,_⟩:=VQ hk h3;cases b with
   |true=>
    simp only[if_true,ay]at h;subst h;refine .inr ⟨0,e,by simp[Instr.findNow,q1],rfl,(q2 rfl).symm,?_⟩;simp only[List.modify_zero_cons,ct,be,VR,TR];exact⟨⟨⟨trivial,hkv⟩,hv,trivial⟩,h2⟩
   |false=>
    simp only[Bool.false_eq_true,if_false,dR]at h;obtain⟨r',h4,rfl⟩:=h;rcases QS hk hv hkv rows es (i+1) r' h2 h4 with ⟨a1,a2⟩ |⟨j,e',a1,a2,a3,a4⟩
    ·exact .inl ⟨by simp[Instr.findNow,q1,a1],λn=>⟨h1',a2 n⟩⟩
    ·refine .inr ⟨j+1,e',by simp only[Instr.findNow,q1,a1];congr 3;omega,by simpa using a2,a3,?_⟩;simp only[List.modify_succ_cons,ct];exact⟨h1',a4⟩
  ·cases h
 |[],_::_,_,_,hm,_=>hm.elim
 |_::_,[],_,_,hm,_=>hm.elim
theorem Mem.s8{k:Nat}{o o':aS}{b:Nat}{es:Array MapEntry}{cl:Nat}{w':World}(h:Mem P w0 O0 β I obj w)(hk:obj k=some o)(hβ:β k=some (.mp b))
 (hnew:w'.heap[b]? =some (.map es cl)) (hother:∀b',b'≠b->w'.heap[b']? =w.heap[b']?) (hsize:w'.heap.size=w.heap.size) (hos:w'.os=w.os) (th:w'.tape=w.tape) (hout:w'.output=w.output)
 (hle:o'.rows.length<=o'.sz) (hr:ct P β w I o'.rows es.toList) (hnd:(es.toList.map (·.born)).Nodup) (hlt':∀e∈es.toList,e.born<cl):
 Same I w w'/\Mem P w0 O0 β I (bR obj [(k,some o')]) w':=by
 obtain⟨J1,hlt,hO⟩:=h.ip k o b hk ⟨_,hβ,rfl⟩;have hs:Same I w w':=λb' hb=>hother b' (λ e=>J1 (e ▸ hb));have hx:∀(j:Nat)(o1:aS),bR obj [(k,some o')] j=some o1->∃o2,obj j=some o2:=λj o1 h=>by
  simp only[bR]at h;split at h
  ·rename_i e;exact⟨o,by rw[e];exact hk⟩
  ·exact⟨_,h⟩
 refine⟨hs,?_⟩;constructor
 ·intro j oj hj;simp only[bR]at hj;split at hj
  ·rename_i hjk;cases hj;exact⟨.mp b,by rw[hjk];exact hβ,es,cl,hnew,hle,λ_=>ct.mono (λ _ _ h=>h) hs (λ _ h=>h) _ _ hr,hnd,hlt'⟩
  ·rename_i hjk;have⟨B,hB,qr⟩:=h.cE j oj hj;refine⟨B,hB,OR.mono (λ _ _ h=>h) hs (λ _ h=>h) (λ b1 e1=>hother b1 (λ e2=>hjk ?_)) qr⟩;subst e2;exact h.fY j k oj o B _ b1 hj hk hB hβ e1 rfl
 ·intro j j' o1 o2 B1 B2 b1 h1 h2 h3 h4 h5 h6;have⟨p1,q1⟩:=hx j o1 h1;have⟨p2,q2⟩:=hx j' o2 h2;exact h.fY j j' p1 p2 B1 B2 b1 q1 q2 h3 h4 h5 h6
 ·intro j o1 B1 b1 h1 h2 h3;have⟨p1,q1⟩:=hx j o1 h1;have:=h.ownB j p1 B1 b1 q1 h2 h3;rw[hsize];exact this
 ·intro b1 hb1;rw[hsize];exact h.lt b1 hb1
 ·exact h.up
 ·intro b1 hb1 hno;rw[hother b1 (λ e1=>?_)]
  ·exact h.keep b1 hb1 hno
  ·subst e1;rcases hO with hO |hO
   ·exact hno hO
   ·omega
 ·rw[hsize];exact h.le
 ·rw[hos];exact h.os
 ·rw[th];exact h.tape
 ·rw[hout];exact h.output
 ·exact h.anch
 ·exact h.vars.mono hs (λ _ h=>h)
theorem Mem.zz(h:Mem P w0 O0 β I obj w)(hn:β i=none):
 Step β I w i (ins β i (.mp w.heap.size)) I (w.alloc (.map #[] 0))/\Mem P w0 O0 (ins β i (.mp w.heap.size)) I (bR obj [(i,some ⟨0,[]⟩)]) (w.alloc (.map #[] 0)):=by
 have hS:Step β I w i (ins β i (.mp w.heap.size)) I (w.alloc (.map #[] 0)):=
  ⟨λ k hk=>by simp[ins,gC.ne hk],lZ hn,Same.alloc h.lt _,λ_ h=>h⟩
 refine⟨hS,?_⟩;constructor
 ·intro k o' hk;simp only[bR]at hk;split at hk
  ·cases hk;rename_i hki;exact⟨.mp w.heap.size,by simp[ins,hki],#[],0,heap_alloc_new w _,aB _,λ_=>trivial,by simp,by simp⟩
  ·have⟨B,hB,hO⟩:=h.cE k o' hk;exact⟨B,lZ hn _ _ hB,OR.mono hS.ext hS.same hS.inc (λ b hb=>o9 (h.ownB k o' B b hk hB hb).2.1) hO⟩
 ·intro k k' o1 o2 B B' b h1 h2 h3 h4 h5 h6;simp only[bR]at h1 h2;simp only[ins]at h3 h4;split at h1<;>split at h2
  ·rename_i a b;rw[a,b]
  ·rename_i hki nq;simp only[hki,if_true,ay]at h3;simp only[nq,if_false]at h4;subst h3;injection h5 with h5;have:=(h.ownB k' o2 B' b h2 h4 h6).2.1;omega
  ·rename_i hki nq;simp only[nq,if_true,ay]at h4;simp only[hki,if_false]at h3;subst h4;injection h6 with h6;have:=(h.ownB k o1 B b h1 h3 h5).2.1;omega
  ·rename_i hki nq;simp only[hki,nq,if_false]at h3 h4;exact h.fY k k' o1 o2 B B' b h1 h2 h3 h4 h5 h6
 ·intro k o' B b h1 h2 h3;simp only[bR]at h1;simp only[ins]at h2;split at h1
  ·rename_i hki;simp only[hki,if_true,ay]at h2;subst h2;injection h3 with h3;refine⟨λ hI=>?_,?_,.inr ?_⟩
   ·have:=h.lt b hI;omega
   ·simp;omega
   ·have:=h.le;omega
  ·rename_i hki;simp only[hki,if_false]at h2;have⟨a,b',c'⟩:=h.ownB k o' B b h1 h2 h3;exact⟨a,by simp;omega,c'⟩
 ·intro b hb;have:=h.lt b hb;simp;omega
 ·exact h.up
 ·intro b hb hO;rw[o9 (by have:=h.le;omega)];exact h.keep b hb hO
 ·have:=h.le;simp;omega
 ·exact h.os
 ·exact h.tape
 ·exact h.output
 ·intro j B hj;exact lZ hn _ _ (h.anch j B hj)
 ·exact h.vars.mono (Same.alloc h.lt _) (λ _ h=>h)
theorem Zb{t:TypeId}{ti:oc}(ht:k5 P t ti){k e:TypeId}(h:ti.k= .map k e):P.underlying t=some (.map k e):=by
 obtain⟨info,d,z,_,h2,_,_,_,_,_,h8⟩:=ht.ex;rw[h]at h8;have h8:d= .map k e:=h8;rw[h2,h8]
theorem Zc{t:TypeId}{ti:oc}(ht:k5 P t ti){v:Value}(h:Jz ti.k v=true):∃d,P.underlying t=some d/\IsKey d v:=by
 obtain⟨info,d,z,_,h2,_,_,_,_,_,h8⟩:=ht.ex;exact⟨d,h2,aeC h h8⟩
theorem ahX{k:wd}{v:Value}(h:Jz k v=true):oneCell v:=by
 unfold Jz at h;split at h
 ·exact trivial
 ·exact trivial
 ·exact trivial
 ·cases h
theorem ahY{t:TypeId}{ti:oc}(ht:k5 P t ti){v:AV}(hp:part' ti.agg ti.size ((ti.zero.map cv).map wk)=some v):∃z,(zeroValue t).run P w= .ok z w/\VR P β w I v z:=by
 obtain⟨info,d,z,h1,h2,h3,h4,h5,h6,h7,h8⟩:=ht.ex;refine⟨z,by simp[zeroValue,typeInfo,h1,h5],?_⟩;obtain⟨_,_,g1,g2⟩:=Iy (P:=P) (β:=β) (w:=w) (I:=I) hp (be.wk _ _ (be.cv ti.zero));have hf:=ht.form info z h1 h5;cases ha:ti.agg with
 |true=>
  rw[ha]at hf;cases z<;>simp only[ro,Bool.not_true,reduceCtorEq]at hf;rename_i cs;have:=g1 ha;simp only[Value.cells]at h6;rw[<- h6]at this;simpa using this
 |false=>
  rw[ha]at hf;have h1c:oneCell z:=by cases z<;>simp only[ro,Bool.not_false,Bool.false_eq_true]at hf<;>trivial
  have⟨u,e1,e2⟩:=g2 ha;rw[cells_one h1c]at h6;simp only at h6;rw[<- h6]at e1;cases e1;exact e2
theorem QT(h:Mem P w0 O0 β I obj w)(hn:β (cy i)=none){t:TypeId}{ab:Out}(ha:ED T i t=some ab){r:Operand->Value}
 {dst:Option Tmp} {ty:TypeId} {ao:String} {after:Array Edge} {guard:Option (Nat×Bool)}:qe P w0 O0 β I obj w i ab ((execOp r ⟨dst,.makeMap t none,ty,ao,after,guard⟩).run P w):=by
 unfold ED at ha;cases hti:T t with
 |none=>simp[hti]at ha
 |some ti=>
  simp only[hti,af]at ha;split at ha
  ·cases ha;have⟨hS,hM⟩:=Mem.zz h hn;refine⟨.map (some w.heap.size),_,_,I,.inl ?_,hS,hM,?_⟩
   ·simp[execOp,Instr.makeMap]
   ·simp only[VR];exact⟨_,by simp[ins],rfl⟩
  ·cases ha
theorem aeD(hT:eY P T){t kt et:TypeId}{ei:oc}(fy:T et=some ei){b:Nat}{es:Array MapEntry}{cl:Nat}{kv:Value}{ok:Bool}{r:Option (Nat×AV)}{v:AV}
 (hu:P.underlying t=some (.map kt et)) (g1:w.heap[b]? =some (.map es cl)) (hck:(Instr.checkKey es.isEmpty 10000 kt kv).run P w= .ok () w)
 (hf:(r=none/\(Instr.findKey kt kv es.toList).run P w= .ok none w)\/∃(j:Nat)(y:AV)(e:MapEntry),r=some (j,y)/\(Instr.findKey kt kv es.toList).run P w= .ok (some (j,e.val)) w/\VR P β w I y e.val)
 (hv:CC r (part' ei.agg ei.size ((ei.zero.map cv).map wk))=some v):
 ∃z,(Instr.lookup t (.map (some b)) kv ok).run P w= .ok z w/\VR P β w I (if ok then .eE [v,.t (.sc (.bool r.isSome))]else v) z:=by
 rcases hf with ⟨rfl,a2⟩ |⟨j,y,e,rfl,a2,a5⟩
 ·have⟨z,hz,hzv⟩:=ahY (β:=β) (I:=I) (w:=w) (hT et ei fy) hv;cases ok with
  |true=>
   refine⟨.tuple #[z,.bool false],?_,?_⟩
   ·simp[Instr.lookup,run_underlying hu,MapKept.run_getObj_map g1,hck,a2,hz,Result.andThen]
   ·simp only[if_true,VR];exact⟨_,rfl,by simp only[be,VR,TR];exact⟨hzv,⟨rfl,trivial⟩,trivial⟩⟩
  |false=>
   refine⟨z,?_,by simpa using hzv⟩;simp[Instr.lookup,run_underlying hu,MapKept.run_getObj_map g1,hck,a2,hz,Result.andThen]
 ·simp only[CC,ay]at hv;subst hv;cases ok with
  |true=>
   refine⟨.tuple #[e.val,.bool true],?_,?_⟩
   ·simp[Instr.lookup,run_underlying hu,MapKept.run_getObj_map g1,hck,a2,Result.andThen]
   ·simp only[if_true,VR];exact⟨_,rfl,by simp only[be,VR,TR];exact⟨a5,⟨rfl,trivial⟩,trivial⟩⟩
  |false=>
   refine⟨e.val,?_,by simpa using a5⟩;simp[Instr.lookup,run_underlying hu,MapKept.run_getObj_map g1,hck,a2,Result.andThen]
theorem UL(hT:eY P T)(h:Mem P w0 O0 β I obj w){t:TypeId}{x key:AV}{ok:Bool}{get:Nat->Option aS}{ab:Out}(hg:∀k o,get k=some o->obj k=some o){u kv:Value}
 (ha:Gd T t x key ok get=some ab) (hx:VR P β w I x u) (hk:VR P β w I key kv):∃z,(Instr.lookup t u kv ok).run P w= .ok z w/\VR P β w I ab.v z/\ab.upd=[]:=by
 unfold Gd at ha;cases hti:T t with
 |none=>simp[hti]at ha
 |some ti=>
  simp only[hti,af]at ha;split at ha
  ·rename_i kt et k kv' hk1;rw[ah]at ha;obtain⟨ki,hki,ha⟩:=ha;rw[ah]at ha;obtain⟨ei,fy,ha⟩:=ha;rw[ah]at ha;obtain⟨o,ho,ha⟩:=ha;split at ha
   ·rename_i hc;rw[ah]at ha;obtain⟨r,hr,ha⟩:=ha;rw[ah]at ha;obtain⟨v,hv,ha⟩:=ha;simp only[pv,ay]at ha;subst ha;simp only[VR,TR]at hx hk;obtain⟨b,hβ,rfl⟩:=hx;obtain⟨rfl,_⟩:=hk;have⟨B,hB,hO⟩:=h.cE k o (hg k o ho);rw[hβ]at hB;cases hB;obtain⟨es,cl,g1,g2,g3,g4⟩:=hO;have hu:=Zb (hT t ti hti) hk1;have⟨d,hd,hkey⟩:=Zc (hT kt ki hki) hc.1;obtain⟨z,q1,q2⟩:=aeD (β:=β) (I:=I) hT fy (ok:=ok) hu g1 (run_checkKey hd hkey _ 9999) (by
     rcases NN hkey o.rows es.toList 0 r (g3 hc.2) hr with ⟨rfl,a2⟩ |⟨j,y,e,rfl,a2,a3,a4,a5⟩
     ·exact .inl ⟨rfl,run_findKey hd a2⟩
     ·rw[Nat.zero_add]at a2;exact .inr ⟨j,y,e,rfl,run_findKey hd a2,a5⟩) hv
    exact⟨z,q1,q2,rfl⟩
   ·cases ha
  ·cases ha
theorem aji{x:AV}{v:Value}(h:VR P β w I x v):VR P β w I (AW x) v:=by
 cases x<;>simp only[AW]<;>try exact h.wk
 simp only[VR]at h ⊢;obtain⟨vs,h1,h2⟩:=h;exact⟨vs,h1,be.wk _ _ h2⟩
theorem Xw{d:TypeDesc}{v:Value}(h:IsKey d v):Instr.sameBits 10000 v v=true:=by cases d<;>cases v<;>simp only[IsKey]at h<;>simp_all [Instr.sameBits,bytes_beq]
theorem af2(h:Mem P w0 O0 β I obj w){t kt et:TypeId}{k b:Nat}{o:aS}{es:Array MapEntry}{cl:Nat}{kv v:Value}{rs:List (List AV)}
 (hu:P.underlying t=some (.map kt et)) (gE:obj k=some o) (hβ:β k=some (.mp b)) (g1:w.heap[b]? =some (.map es cl)) (g4:(es.toList.map (·.born)).Nodup) (g5:∀e∈es.toList,e.born<cl)
 (hck:(Instr.checkKey false 10000 kt kv).run P w= .ok () w) (hks:(Instr.keyThatStays kv kv).run P w= .ok kv w)
 (hf:((Instr.findKey kt kv es.toList).run P w= .ok none w/\∀n,ct P β w I rs (es.toList++[⟨kv,v,n⟩]))\/
  ∃(j:Nat)(e:MapEntry),(Instr.findKey kt kv es.toList).run P w= .ok (some (j,e.val)) w/\es.toList[j]? =some e/\e.key=kv/\ct P β w I rs (es.toList.modify j λe=>{ e with key:=kv,val:=v })):
 ∃w',(Instr.mapUpdate t (.map (some b)) kv v).run P w= .ok () w'/\Same I w w'/\Mem P w0 O0 β I (bR obj [(k,some ⟨rs.length,rs⟩)]) w':=by
 rcases hf with ⟨a1,a2⟩ |⟨j,e,a1,a2,a3,a4⟩
 ·obtain⟨k1,k2⟩:=heap_set (o':= .map (es.push ⟨kv,v,cl⟩) (cl+1)) g1
  obtain⟨m1,m2⟩:=h.s8 (o':=⟨rs.length,rs⟩) (w':={ w with heap:=w.heap.setIfInBounds b (.map (es.push ⟨kv,v,cl⟩) (cl+1)) }) gE hβ k1 k2 (by simp) rfl rfl rfl (aB _) (by simpa using a2 cl)
   (by
    rw[Array.toList_push,List.map_append,List.nodup_append];refine⟨g4,by simp,λa ha b hb=>?_⟩;simp only[aF,List.map_nil,aT]at hb;obtain⟨e,he,rfl⟩:=mem_map.1 ha;have:=g5 e he;omega)
   (λ e he=>by
    rw[Array.toList_push,aY]at he;rcases he with he |he
    ·have:=g5 e he;omega
    ·simp only[aT]at he;subst he;exact Nat.lt_succ_self _)
  refine⟨_,?_,m1,m2⟩;simp[Instr.mapUpdate,run_underlying hu,MapKept.run_getObj_map g1,hck,a1,run_setObj_map _ g1,Result.andThen]
 ·obtain⟨k1,k2⟩:=heap_set (o':= .map (es.modify j λe=>{ e with key:=kv,val:=v }) cl) g1;have ht:(es.modify j λe=>{ e with key:=kv,val:=v }).toList=es.toList.modify j λe=>{ e with key:=kv,val:=v }:=Array.toList_modify;have hb:(es.toList.modify j λe=>{ e with key:=kv,val:=v }).map (·.born)=es.toList.map (·.born):=by
   apply List.ext_getElem?;intro q;simp only[List.getElem?_map,List.getElem?_modify];split<;>cases es.toList[q]?<;>rfl
  obtain⟨m1,m2⟩:=h.s8 (o':=⟨rs.length,rs⟩) (w':={ w with heap:=w.heap.setIfInBounds b (.map (es.modify j λe=>{ e with key:=kv,val:=v }) cl) }) gE hβ k1 k2 (by simp) rfl rfl rfl (aB _) (by rw[ht];exact a4)
   (by rw[ht,hb];exact g4)
   (λ e he=>by
    rw[ht]at he;have:e.born∈(es.toList.modify j λe=>{ e with key:=kv,val:=v }).map (·.born):=mem_map.2 ⟨e,he,rfl⟩;rw[hb]at this;obtain⟨e',he',hh⟩:=mem_map.1 this;rw[<- hh];exact g5 e' he')
  refine⟨_,?_,m1,m2⟩;have hold:((es[j]?).map (·.key)).getD kv=kv:=by rw[<- Array.getElem?_toList,a2];exact a3
  simp only[Instr.mapUpdate,Sem.run_bind,run_underlying hu,MapKept.run_getObj_map g1,hck,a1,Result.andThen,hold,hks,run_setObj_map _ g1]
theorem UM(hT:eY P T)(h:Mem P w0 O0 β I obj w){t:TypeId}{x key y:AV}{get:Nat->Option aS}{ab:Out}(hg:∀k o,get k=some o->obj k=some o){u kv v:Value}
 (ha:JA T t x key y get=some ab) (hx:VR P β w I x u) (hk:VR P β w I key kv) (hy:VR P β w I y v):∃w',(Instr.mapUpdate t u kv v).run P w= .ok () w'/\Same I w w'/\Mem P w0 O0 β I (bR obj ab.upd) w'/\ab.v= .undef:=by
 unfold JA at ha;cases hti:T t with
 |none=>simp[hti]at ha
 |some ti=>
  simp only[hti,af]at ha;split at ha
  ·rename_i kt et k kv' hk1;rw[ah]at ha;obtain⟨ki,hki,ha⟩:=ha;rw[ah]at ha;obtain⟨o,ho,ha⟩:=ha;split at ha
   ·rename_i hc;rw[ah]at ha;obtain⟨rs,hr,ha⟩:=ha;cases ha;simp only[VR,TR]at hx hk;obtain⟨b,hβ,rfl⟩:=hx;obtain⟨hkk,_⟩:=hk;subst hkk;have gE:=hg k o ho;have⟨B,hB,hO⟩:=h.cE k o gE;rw[hβ]at hB;cases hB;obtain⟨es,cl,g1,g2,g3,g4,g5⟩:=hO;have hu:=Zb (hT t ti hti) hk1;have⟨d,hd,hkey⟩:=Zc (hT kt ki hki) hc.1;have hlt:b<w.heap.size:=(Array.getElem?_eq_some_iff.1 g1).1;obtain⟨w',q1,q2,q3⟩:=af2 (rs:=rs) (v:=v) h hu gE hβ g1 g4 g5 (run_checkKey hd hkey _ 9999) (by simp[Instr.keyThatStays,Xw hkey]) (by
     rcases QS hkey (aji hy) (ahX hc.1) o.rows es.toList 0 rs (g3 hc.2) hr with ⟨a1,a2⟩ |⟨j,e,a1,a2,a3,a4⟩
     ·exact .inl ⟨run_findKey hd a1,a2⟩
     ·rw[Nat.zero_add]at a1;exact .inr ⟨j,e,run_findKey hd a1,a2,a3,a4⟩)
    exact⟨w',q1,q2,q3,rfl⟩
   ·cases ha
  ·cases ha
end
def Zd(T:ea)(i:Nat)(t:TypeId)(l c:AV):Option Out:=
 (T t).bind λti=>match ti.k,l,c with
 | .slice e,.t (.sc (.int _ n)),.t (.sc (.int _ m))=>(T e).bind λei=>
  some ⟨.own (cy i) 0 n.toNat,[(cy i,some ⟨ei.size,dM (List.replicate n.toNat (ei.zero.map cv))⟩)],[0<=n/\n<=m/\m.toNat*ei.bytes<=140737488355328/\m.toNat<=maxLen/\0<ei.size]⟩
 |_,_,_=>none
def LQ(x:AV):Option Out:=
 match x with
 | .ptr k r f=>pv (.ptr k r f)
 | .ef r f=>pv (.ef r f)
 |_=>none
def GB:Op->Bool
 | .nilCheck _=>true
 | .makeSlice _ _ _=>true
 | .makeMap _ none=>true
 | .lookup _ _ _ _=>true
 | .mapUpdate _ _ _ _=>true
 |_=>false
def Bw(T:ea)(i:Nat)(o:Oper)(_n:Int)(ρ:Operand->AV)(get:Nat->Option aS):Option Out:=
 match o.op with
 | .nilCheck x=>LQ (ρ x)
 | .makeSlice t l c=>Zd T i t (ρ l) (ρ c)
 | .makeMap t none=>ED T i t
 | .lookup t m x ok=>Gd T t (ρ m) (ρ x) ok get
 | .mapUpdate t m x v=>JA T t (ρ m) (ρ x) (ρ v) get
 |_=>none
def qN(T:ea)(i:Nat)(o:Oper)(n:Int)(ρ:Operand->AV)(get:Nat->Option aS):Option Out:=
 bif GB o.op then Bw T i o n ρ get else qM T i o n ρ get
section
variable {T:ea}
theorem UN{i:Nat}{o:Oper}{n:Int}{ρ ρ':Operand->AV}{get:Nat->Option aS}(h:∀x∈o.op.operands,ρ x=ρ' x):Bw T i o n ρ get=Bw T i o n ρ' get:=by
 obtain⟨dst,op,ty,ao,after,guard⟩:=o;cases op<;>simp only[Op.operands]at h<;>simp only[Bw]
 case nilCheck x=>rw[h x (by simp)]
 case makeSlice t l c=>rw[h l (by simp),h c (by simp)]
 case makeMap t r=>cases r<;>rfl
 case lookup t m x ok=>rw[h m (by simp),h x (by simp)]
 case mapUpdate t m x v=>rw[h m (by simp),h x (by simp),h v (by simp)]
theorem UO{i:Nat}{o:Oper}{n:Int}{ρ ρ':Operand->AV}{get:Nat->Option aS}(h:∀x∈o.op.operands,ρ x=ρ' x):qN T i o n ρ get=qN T i o n ρ' get:=by
 unfold qN;rw[Xp h,UN h]
end
section
variable {P:Program} {T:ea} {w0:World} {O0:js} {β:Nat->Option cA} {I:Nat->Prop} {obj:Nat->Option aS} {w:World} {i:Nat}
theorem UQ(z:Array Value)(n j:Nat)(h:j<n):(madeCells z n)[j]? =some (z[j%z.size]!):=by simp[madeCells,h]
theorem Ze(hT:eY P T)(h:Mem P w0 O0 β I obj w)(hn:β (cy i)=none){t:TypeId}{l c:AV}{u v:Value}{ab:Out}(ha:Zd T i t l c=some ab)(cD:ab.ob)(hl:VR P β w I l u)(hc:VR P β w I c v)
 {r:Operand->Value} {x y:Operand} (hu:r x=u) (hv:r y=v) {dst:Option Tmp} {ty:TypeId} {ao:String} {after:Array Edge} {guard:Option (Nat×Bool)}:
 qe P w0 O0 β I obj w i ab ((execOp r ⟨dst,.makeSlice t x y,ty,ao,after,guard⟩).run P w):=by
 unfold Zd at ha;cases hti:T t with
 |none=>simp[hti]at ha
 |some ti=>
  simp only[hti,af]at ha;split at ha
  ·rename_i e kl n kc m hkd;cases fy:T e with
   |none=>simp[fy]at ha
   |some ei=>
    simp only[fy,af,ay]at ha;subst ha;obtain⟨n0,nm,m47,C0,mpos⟩:=cD;simp only[VR,TR]at hl hc;obtain⟨rfl,_⟩:=hl;obtain⟨rfl,_⟩:=hc;have he:=hT e ei fy;have ep:=gH (hT t ti hti) hkd;obtain⟨info,d,z,g1,g2,g3,g4,g5,g6,g7,g8⟩:=he.ex;obtain⟨n,rfl⟩:∃n':Nat,n=(n':Int):=⟨n.toNat,by omega⟩;obtain⟨m,rfl⟩:∃m':Nat,m=(m':Int):=⟨m.toNat,by omega⟩;simp only[Int.toNat_natCast]at m47 C0 ⊢;have hb:(info.bytes:Int)*(m:Int)<=281474976710656:=by
     have:((info.bytes*m:Nat):Int)<=281474976710656:=by rw[g4,Nat.mul_comm];omega
     rwa [Int.natCast_mul]at this
    have hrun:=run_make (P:=P) w t e info z ep g1 g5 kl kc n m n0 nm hb (by simp only[maxLen]at C0;omega);simp only[Int.toNat_natCast,g3]at hrun;have hzs:z.cells.size=ei.size:=(by rw[<- Array.length_toList,g6];exact he.len);have hcs:(madeCells z.cells (m*ei.size)).size=m*ei.size:=size_madeCells _ _;obtain⟨hS,hM⟩:=Mem.alloc (i:=cy i) (o:=⟨ei.size,List.replicate n (ei.zero.map cv)⟩) (c:=madeCells z.cells (m*ei.size)) (e:=e) h hn (by
     refine br.zeros ei.zero ei.size he.len (λ v hv=>qK (all_eq_true.1 he.one v hv)) n _ 0 (λ i j hi hj=>?_);have hlt:0+i*ei.size+j<m*ei.size:=by
      have:(i+1)*ei.size<=m*ei.size:=Nat.mul_le_mul_right _ (by omega);rw[Nat.add_mul]at this;omega
     rw[UQ _ _ _ hlt,hzs];have e1:(0+i*ei.size+j)%ei.size=j:=(by rw[Nat.zero_add,Nat.mul_comm,Nat.mul_add_mod,Nat.mod_eq_of_lt hj]);rw[e1,<- g6,Array.getElem?_toList,getElem!_pos z.cells j (by rw[hzs];exact hj),Array.getElem?_eq_getElem])
    refine⟨_,_,_,I,.inl (by simp[execOp,hu,hv,hrun];rfl),hS,hM.tG,?_⟩;simp only[VR];refine .inr ⟨w.heap.size,ei.size,_,_,0,by simp[ins];rfl,rfl,by omega,?_,by simp⟩;rw[HN,HM,hcs,Nat.zero_add,Nat.zero_add];exact aB _
  ·cases ha
theorem UR(hT:eY P T)(h:Mem P w0 O0 β I obj w)(hn:β (cy i)=none){o:Oper}{n:Int}{ρ:Operand->AV}{get:Nat->Option aS}{ab:Out}(hg:∀k o,get k=some o->obj k=some o)
 {r:Operand->Value} (hρ:∀x,VR P β w I (ρ x) (r x)) (ha:Bw T i o n ρ get=some ab) (cD:ab.ob):qe P w0 O0 β I obj w i ab ((execOp r o).run P w):=by
 obtain⟨dst,op,ty,ao,after,guard⟩:=o;unfold Bw at ha;split at ha
 ·rename_i x heq;simp only at heq;subst heq;have hx:=hρ x;unfold LQ at ha;split at ha
  ·rename_i k q f hk;simp only[pv,ay]at ha;subst ha;rw[hk]at hx;have hx2:=hx;simp only[VR]at hx2;obtain⟨b,sz,m,_,e1⟩:=hx2;exact⟨r x,w,β,I,.inl (by simp[execOp,e1]),Step.refl ..,h,hx⟩
  ·rename_i q f hk;simp only[pv,ay]at ha;subst ha;rw[hk]at hx;have hx2:=hx;simp only[VR]at hx2;obtain⟨b,o',e1,_⟩:=hx2;exact⟨r x,w,β,I,.inl (by simp[execOp,e1]),Step.refl ..,h,hx⟩
  ·cases ha
 ·rename_i t l c heq;simp only at heq;subst heq;exact Ze hT h hn ha cD (hρ l) (hρ c) rfl rfl
 ·rename_i t heq;simp only at heq;subst heq;exact QT h hn ha
 ·rename_i t m x ok heq;simp only at heq;subst heq;have⟨z,h1,h2,h3⟩:=UL hT h hg ha (hρ m) (hρ x);exact⟨z,w,β,I,.inl (by simp[execOp,h1]),Step.refl ..,by rw[h3];exact h,h2⟩
 ·rename_i t m x v heq;simp only at heq;subst heq;have⟨w',h1,h2,h3,h4⟩:=UM hT h hg ha (hρ m) (hρ x) (hρ v);exact⟨undef,w',β,I,.inr ⟨by simp[execOp,h1],rfl⟩,⟨λ _ _=>rfl,λ_ _ h=>h,h2,λ_ h=>h⟩,h3,by rw[h4];simp[VR]⟩
 ·cases ha
theorem UU(hT:eY P T)(h:Mem P w0 O0 β I obj w)(hn:β (cy i)=none){o:Oper}{n:Int}{ρ:Operand->AV}{get:Nat->Option aS}{ab:Out}(hg:∀k o,get k=some o->obj k=some o)
 {r:Operand->Value} (hρ:∀x,VR P β w I (ρ x) (r x)) (ha:qN T i o n ρ get=some ab) (cD:ab.ob):qe P w0 O0 β I obj w i ab ((execOp r o).run P w):=by
 unfold qN at ha;cases hx:GB o.op with
 |true=>rw[hx]at ha;exact UR (n:=n) hT h hn hg hρ ha cD
 |false=>rw[hx]at ha;exact Xt hT h hn hg hρ ha cD
end
mutual
def eW(f:Nat->Nat):AV->AV
 | .own k aa len=> .own (f k) aa len
 | .ptr k row aa=> .ptr (f k) row aa
 | .agg cs=> .agg (uK f cs)
 | .eE cs=> .eE (uK f cs)
 | .fn F first caps=> .fn F (uK f first) (uK f caps)
 | .t x=> .t x
 | .ef r o=> .ef r o
 | .du φ=> .du φ
 | .mp k=> .mp (f k)
 | .oz k len=> .oz (f k) len
 | .cL=> .cL
 | .ub=> .ub
 | .undef=> .undef
def uK(f:Nat->Nat):List AV->List AV
 |[]=>[]
 |x::xs=>eW f x::uK f xs
end
def EF(f:Nat->Nat)(o:aS):aS:=⟨o.sz,o.rows.map (uK f)⟩
def ov(os:List (Nat×aS))(k:Nat):Option aS:=match os with
 |[]=>none
 |(j,o)::r=>if j=k then some o else ov r k
def TC(P:Program)(w:World)(β:Nat->Option cA)(I:Nat->Prop)(os':List (Nat×aS))(rv:AV)(e:Ending)(w':World):Prop:=
 ∃v β' I',e= .returned v/\Mem P w (nZ β I) β' I' (ov os') w'/\(∀ b,I b->I' b)/\VR P β' w' I' rv v
def sx(os:List aS)(k:Nat):Option aS:=os[k]?
def AM(P:Program)(f:FuncId)(args:List AV)(os:List aS)(os':List (Nat×aS))(rv:AV):Prop:=
 eT P f/\∀(w:World) (β:Nat->Option cA) (I:Nat->Prop) (vs:Array Value),(∀ k,os.length<=k->β k=none)->Mem P w (nZ β I) β I (sx os) w->be P β w I args vs.toList->Calls P f vs w (TC P w β I os' rv)
def EG(i k:Nat):Bool:=Nat.ble 1000000 k&&(k -1000000)/64==i
theorem QU{i k:Nat}:EG i k=true↔gC (cy i) k:=by
 simp only[EG,aJ,Nat.ble_eq,beq_iff_eq,gC,cy];omega
def cn(i:Nat)(ae:List Nat)(j:Nat):Nat:=if j<1000 then(ae[j]?).getD 0 else cy i+(j -1000)
def QV(P:Program)(get:Nat->Option aS)(ae:List Nat)(k:Nat):OB->Option (aS×List Prop)
 | .dat p=>(get k).bind λo=>some (gc p,[o.sz=p.1/\dM (o.rows.take p.2.length)=aG p.2])
 | .zt hs=>(get k).bind λo=>(wh P get ae o.rows hs).bind λq=>some (⟨o.sz,q.1⟩,q.2)
def C8(P:Program)(get:Nat->Option aS)(ae:List Nat):List Nat->List OB->Option (List aS×List Prop)
 |[],[]=>some ([],[])
 |k::ks,b::bs=>(QV P get ae k b).bind λp=>(C8 P get ae ks bs).bind λq=>some (p.1::q.1,p.2++q.2)
 |_,_=>none
def LU(o:aS):List Nat:=o.rows.flatMap dU
def QW(get:Nat->Option aS)(xs:List AV)(ae cJ:List Nat)(bs:List OB):Prop:=
 (∀ k∈cJ,k∉ae)/\(∀ k∈dU xs,k∉ae->k∈cJ)/\∀(j:Nat) hs q o,bs[j]? =some (.zt hs)->ae[j]? =some q->get q=some o->∀k∈LU o,k∉ae->k∈cJ
def Xx(i:Nat)(ae:List Nat)(os':List (Nat×aS)):List (Nat×Option aS):=
 (ae.zipIdx.map λp=>(p.1,(ov os' p.2).map (EF (cn i ae))))++(os'.filter λq=>decide (1000<=q.1)).map λq=>(cn i ae q.1,some (EF (cn i ae) q.2))
mutual
def sF:AV->Prop
 | .t x=>x.flat
 | .ef _ _ | .du _=>False
 | .agg cs | .eE cs=>og cs
 | .fn _ first caps=>og first/\og caps
 |_=>True
def og:List AV->Prop
 |[]=>True
 |x::xs=>sF x/\og xs
end
def Zf(n k:Nat):Prop:=k<n\/(1000<=k/\k<1064)
def VU(n:Nat)(os':List (Nat×aS))(rv:AV):Prop:=
 (∀ q∈os',Zf n q.1)/\(os'.map (·.1)).Nodup/\(∀ q∈os',∀r∈q.2.rows,∀k∈dU r,Zf n k)/\∀k∈refs rv,Zf n k
def ml(os':List (Nat×aS))(rv:AV):Prop:=sF rv/\∀q∈os',∀r∈q.2.rows,og r
def JB(P:Program)(i:Nat)(f:AV)(args:List AV)(co:ij)(get:Nat->Option aS):Option Out:=
 match f,co with
 | .fn F first caps,.sm ae cJ bs hs os' rv keep=>if ae.Nodup/\ae.length<=1000 then(C8 P get ae ae bs).bind λho=>(kU P get ae (first++args++caps) hs).bind λq=>
  some ⟨eW (cn i ae) rv,Xx i ae os'++(if keep then []else cJ.map λk=>(k,none)),
   q.2.2++ho.2++[AM P F q.1 ho.1 os' rv,VU ae.length os' rv,QW get (first++args++caps) ae cJ bs]++(if keep then [ml os' rv]else [])⟩
  else none
 |_,_=>none
section
variable {P:Program} {w0:World} {O0:js} {β β1 β2:Nat->Option cA} {I:Nat->Prop} {obj:Nat->Option aS} {w:World} {i:Nat}
mutual
theorem VR.tc{f:Nat->Nat}:∀(x:AV)(v:Value),(∀ k∈refs x,∀B,β1 k=some B->β2 (f k)=some B)->VR P β1 w I x v->VR P β2 w I (eW f x) v
 | .own k aa len,v,hd,h=>by
  simp only[eW,VR]at h ⊢;have hd':=hd k (by simp[refs]);rcases h with ⟨h1,h2⟩ |⟨b,s,n,c,o,h1,h2⟩
  ·exact .inl ⟨hd' _ h1,h2⟩
  ·exact .inr ⟨b,s,n,c,o,hd' _ h1,h2⟩
 | .ptr k row aa,v,hd,h=>by
  simp only[eW,VR]at h ⊢;obtain⟨b,s,n,h1,h2⟩:=h;exact⟨b,s,n,hd k (by simp[refs]) _ h1,h2⟩
 | .agg cs,v,hd,h=>by
  simp only[eW,VR]at h ⊢;obtain⟨vs,h1,h2⟩:=h;exact⟨vs,h1,be.tc cs _ (by simpa[refs]using hd) h2⟩
 | .eE cs,v,hd,h=>by
  simp only[eW,VR]at h ⊢;obtain⟨vs,h1,h2⟩:=h;exact⟨vs,h1,be.tc cs _ (by simpa[refs]using hd) h2⟩
 | .fn F first caps,v,hd,h=>by
  simp only[eW,VR]at h ⊢;obtain⟨fs,cs,h1,h2,h3⟩:=h;exact⟨fs,cs,h1,be.tc first _ (λ k hk=>hd k (by simp[refs,hk])) h2,be.tc caps _ (λ k hk=>hd k (by simp[refs,hk])) h3⟩
 | .t x,v,_,h=>by simpa[eW,VR]using h
 | .ef r o,v,_,h=>by simpa[eW,VR]using h
 | .du φ,v,_,h=>by simpa[eW,VR]using h
 | .mp k,v,hd,h=>by
  simp only[eW,VR]at h ⊢;obtain⟨b,h1,h2⟩:=h;exact⟨b,hd k (by simp[refs]) _ h1,h2⟩
 | .oz k len,v,hd,h=>by
  simp only[eW,VR]at h ⊢;rcases h with h |⟨h0,b,sz,n,cap,o,h1,h2⟩
  ·exact .inl h
  ·exact .inr ⟨h0,b,sz,n,cap,o,hd k (by simp[refs]) _ h1,h2⟩
 | .cL,v,_,h=>by simpa[eW,VR]using h
 | .ub,v,_,h=>by simpa[eW,VR]using h
 | .undef,v,_,h=>by simp[eW,VR]
theorem be.tc{f:Nat->Nat}:∀(xs:List AV)(vs:List Value),(∀ k∈dU xs,∀B,β1 k=some B->β2 (f k)=some B)->be P β1 w I xs vs->be P β2 w I (uK f xs) vs
 |[],[],_,_=>by simp[uK,be]
 |x::xs,v::vs,hd,h=>by
  simp only[be]at h;simp only[uK,be];exact⟨VR.tc x v (λ k hk=>hd k (by simp[dU,hk])) h.1,be.tc xs vs (λ k hk=>hd k (by simp[dU,hk])) h.2⟩
 |[],_::_,_,h=>by simp[be]at h
 |_::_,[],_,h=>by simp[be]at h
end
mutual
theorem VR.flat{I2:Nat->Prop}:∀(x:AV)(v:Value),sF x->VR P β w I x v->VR P β w I2 x v
 | .own k aa len,v,_,h=>by simpa only[VR]using h
 | .ptr k row aa,v,_,h=>by simpa only[VR]using h
 | .agg cs,v,hf,h=>by
  simp only[VR]at h ⊢;obtain⟨vs,h1,h2⟩:=h;exact⟨vs,h1,be.flat cs _ (by simpa[sF]using hf) h2⟩
 | .eE cs,v,hf,h=>by
  simp only[VR]at h ⊢;obtain⟨vs,h1,h2⟩:=h;exact⟨vs,h1,be.flat cs _ (by simpa[sF]using hf) h2⟩
 | .fn F first caps,v,hf,h=>by
  simp only[VR]at h ⊢;obtain⟨fs,cs,h1,h2,h3⟩:=h;simp only[sF]at hf;exact⟨fs,cs,h1,be.flat first _ hf.1 h2,be.flat caps _ hf.2 h3⟩
 | .t x,v,hf,h=>by
  simp only[VR]at h ⊢;exact Tree.lh (by simpa[sF]using hf) h
 | .ef r o,v,hf,h=>by simp[sF]at hf
 | .du φ,v,hf,h=>by simp[sF]at hf
 | .mp k,v,_,h=>by simpa only[VR]using h
 | .oz k len,v,_,h=>by simpa only[VR]using h
 | .cL,v,_,h=>by simpa only[VR]using h
 | .ub,v,_,h=>by simpa only[VR]using h
 | .undef,v,_,h=>by simp[VR]
theorem be.flat{I2:Nat->Prop}:∀(xs:List AV)(vs:List Value),og xs->be P β w I xs vs->be P β w I2 xs vs
 |[],[],_,_=>by simp[be]
 |x::xs,v::vs,hf,h=>by
  simp only[be]at h ⊢;simp only[og]at hf;exact⟨VR.flat x v hf.1 h.1,be.flat xs vs hf.2 h.2⟩
 |[],_::_,_,h=>by simp[be]at h
 |_::_,[],_,h=>by simp[be]at h
end
theorem NP(f:Nat->Nat):∀l:List AV,(uK f l).length=l.length
 |[]=>rfl
 |_::l=>by simp only[uK,bI,NP f l]
theorem cM.tell{β':Nat->Option cA}{w':World}{I':Nat->Prop}{r q:List AV}{c:Array Value}{aa:Nat}(hv:∀vs:List Value,be P β w I r vs->be P β' w' I' q vs)(h:cM P β w I r c aa):cM P β' w' I' q c aa:=by
 have⟨vs,h1,h2,h3⟩:=cM.list r c aa h;exact cM.mS q vs c aa (hv vs h1) h2 h3
theorem br.tell{β':Nat->Option cA}{w':World}{I':Nat->Prop}:∀{rs qs:List (List AV)}{c:Array Value}{aa sz:Nat},rs.length=qs.length->(∀ (j:Nat) r q,rs[j]? =some r->qs[j]? =some q->q.length=r.length/\∀vs:List Value,be P β w I r vs->be P β' w' I' q vs)->
 br P β w I rs c aa sz->br P β' w' I' qs c aa sz
 |[],[],_,_,_,_,_,h=>h
 |r::rs,q::qs,c,aa,sz,hl,hr,h=>by
  simp only[br]at h ⊢;obtain⟨h1,h2,h3⟩:=h;have⟨e1,e2⟩:=hr 0 r q rfl rfl;exact⟨e1.trans h1,h2.tell e2,br.tell (by simpa using hl) (λ j a b ha hb=>hr (j+1) a b (by simpa using ha) (by simpa using hb)) h3⟩
 |[],_::_,_,_,_,hl,_,_=>by simp at hl
 |_::_,[],_,_,_,hl,_,_=>by simp at hl
theorem ct.tell{β':Nat->Option cA}{I':Nat->Prop}:∀{rs qs:List (List AV)}{es:List MapEntry},rs.length=qs.length->(∀ (j:Nat) r q',rs[j]? =some r->qs[j]? =some q'->∀vs:List Value,be P β w I r vs->be P β' w I' q' vs)->ct P β w I rs es->ct P β' w I' qs es
 |[],[],[],_,_,_=>trivial
 |r::rs,q::qs,_::es,hl,hr,⟨h1,h2⟩=>⟨hr 0 r q rfl rfl _ h1,ct.tell (by simpa using hl) (λ j r' q' a b=>hr (j+1) r' q' (by simpa using a) (by simpa using b)) h2⟩
 |[],_::_,_,hl,_,_=>by simp at hl
 |_::_,[],_,hl,_,_=>by simp at hl
 |[],_,_::_,_,_,h=>h.elim
 |_::_,_,[],_,_,h=>h.elim
theorem OR.tell{β':Nat->Option cA}{I':Nat->Prop}{o q:aS}{B:cA}(hsz:q.sz=o.sz)(hl:o.rows.length=q.rows.length)(hr:∀(j:Nat) r q',o.rows[j]? =some r->q.rows[j]? =some q'->q'.length=r.length/\∀vs:List Value,be P β w I r vs->be P β' w I' q' vs)
 (h:OR P β w I o B):OR P β' w I' q B:=by
 cases B with
 |none=>
  simp only[OR]at h ⊢;rw[h]at hl;exact eq_nil_of_length_eq_zero hl.symm
 | «at» b s n=>
  obtain⟨h1,c,e,h2,h3,h4⟩:=h;exact⟨by rw[hsz];exact h1,c,e,h2,h3,h4.tell hl hr⟩
 |mp b=>
  obtain⟨es,cl,h1,hle,h2,h3⟩:=h;exact⟨es,cl,h1,by omega,λe=>ct.tell hl (λ j r q' a b=>(hr j r q' a b).2) (h2 (by omega)),h3⟩
theorem OR.tc{f:Nat->Nat}{o:aS}{B:cA}(hf:∀r∈o.rows,∀k∈dU r,∀B,β1 k=some B->β2 (f k)=some B)(h:OR P β1 w I o B):OR P β2 w I (EF f o) B:=by
 refine OR.tell (o:=o) (q:=EF f o) rfl (by simp[EF]) (λ j r q h1 h2=>?_) h;simp only[EF,List.getElem?_map,dR]at h2;obtain⟨r',h3,rfl⟩:=h2;rw[h1]at h3;cases h3;exact⟨NP f r,λvs hv=>be.tc r vs (hf r (bW h1)) hv⟩
theorem OR.ml{I2:Nat->Prop}{o:aS}{B:cA}(hf:∀r∈o.rows,og r)(h:OR P β w I o B):OR P β w I2 o B:=by
 refine OR.tell rfl rfl (λ j r q h1 h2=>?_) h;rw[h1]at h2;cases h2;exact⟨rfl,λvs hv=>be.flat r vs (hf r (bW h1)) hv⟩
def ot(P:Program)(get:Nat->Option aS)(ae:List Nat):List (List AV)->List (List AV)->Prop
 |[],[]=>True
 |r::rs,q::qs=>eS P get ae r q/\ot P get ae rs qs
 |_,_=>False
theorem JC{get:Nat->Option aS}{ae:List Nat}:∀{rs:List (List AV)}{hs:List (List LH)}{p:List (List AV)×List Prop},wh P get ae rs hs=some p->(∀ q∈p.2,q)->ot P get ae rs p.1
 |[],[],p,h,_=>by simp only[wh,ay]at h;subst h;trivial
 |r::rs,hl::hs,p,h,ho=>by
  simp only[wh,ah,ay]at h;obtain⟨q,h1,q',h2,rfl⟩:=h;exact⟨l5 h1 (λ y hy=>ho y (by simp[hy])),JC h2 (λ y hy=>ho y (by simp[hy]))⟩
 |[],_::_,p,h,_=>by simp[wh]at h
 |_::_,[],p,h,_=>by simp[wh]at h
theorem eS.length{get:Nat->Option aS}{ae:List Nat}:∀{xs ys:List AV},eS P get ae xs ys->ys.length=xs.length
 |[],[],_=>rfl
 |x::xs,y::ys,h=>by simp only[bI,eS.length h.2]
 |[],_::_,h=>h.elim
 |_::_,[],h=>h.elim
theorem ot.get{get:Nat->Option aS}{ae:List Nat}:∀{rs qs:List (List AV)},ot P get ae rs qs->rs.length=qs.length/\∀(j:Nat) r q,rs[j]? =some r->qs[j]? =some q->eS P get ae r q
 |[],[],_=>⟨rfl,λj r q h=>by simp at h⟩
 |r::rs,q::qs,h=>by
  obtain⟨h1,h2⟩:=ot.get h.2
  grind [h.1]
 |[],_::_,h=>h.elim
 |_::_,[],h=>h.elim
theorem QX{get:Nat->Option aS}{ae:List Nat}:∀{ks:List Nat}{bs:List OB}{p:List aS×List Prop},C8 P get ae ks bs=some p->(∀ q∈p.2,q)->ks.length=p.1.length/\∀(j:Nat) k q,ks[j]? =some k->p.1[j]? =some q->∃o,get k=some o/\
 ((∃ d:dY,bs[j]? =some (.dat d)/\q=gc d/\o.sz=d.1/\dM (o.rows.take d.2.length)=aG d.2)\/(∃ hs,bs[j]? =some (.zt hs)/\q.sz=o.sz/\ot P get ae o.rows q.rows))
 |[],[],p,h,_=>by simp only[C8,ay]at h;subst h;exact⟨rfl,λj k q h=>by simp at h⟩
 |k::ks,b::bs,p,h,ho=>by
  simp only[C8,ah,ay]at h;obtain⟨q,h1,q',h2,rfl⟩:=h;obtain⟨g1,g2⟩:=QX h2 (λ y hy=>ho y (by simp[hy]));refine⟨by simp[g1],λj k' z hj hz=>?_⟩;cases j with
  |succ j=>
   obtain⟨o,e1,e2⟩:=g2 j k' z (by simpa using hj) (by simpa using hz);exact⟨o,e1,by simpa using e2⟩
  |zero=>
   simp only[List.getElem?_cons_zero,ay]at hj hz;subst hj;subst hz;cases b with
   |dat d=>
    simp only[QV,ah,ay]at h1;obtain⟨o,e1,rfl⟩:=h1;have:=ho _ (List.mem_append_left _ (aT.2 rfl));exact⟨o,e1,.inl ⟨d,rfl,rfl,this.1,this.2⟩⟩
   |zt hs=>
    simp only[QV,ah,ay]at h1;obtain⟨o,e1,z,e2,rfl⟩:=h1;exact⟨o,e1,.inr ⟨hs,rfl,rfl,JC e2 (λ y hy=>ho y (List.mem_append_left _ hy))⟩⟩
 |[],_::_,p,h,_=>by simp[C8]at h
 |_::_,[],p,h,_=>by simp[C8]at h
theorem Mem.ua(h:Mem P w0 O0 β I obj w){get:Nat->Option aS}(hg:∀k o,get k=some o->obj k=some o){ae cJ:List Nat}{os:List aS}(hnd:ae.Nodup)(hlen:ae.length=os.length)
 (hm:∀(j:Nat) k q,ae[j]? =some k->os[j]? =some q->∃o,get k=some o/\((∃ d:dY,q=gc d/\o.sz=d.1/\dM (o.rows.take d.2.length)=aG d.2)\/(q.sz=o.sz/\ot P get ae o.rows q.rows/\∀k∈LU o,k∉ae->k∈cJ))) (xy:∀k∈cJ,k∉ae):
 Mem P w (nZ (βc ae β) (eI β obj cJ I)) (βc ae β) (eI β obj cJ I) (sx os) w:=by
 have hb0:∀j k,ae[j]? =some k->βc ae β j=β k:=λj k hk=>by simp[βc,hk]
 have look:∀j q,sx os j=some q->∃k o,ae[j]? =some k/\obj k=some o/\∀B,OR P β w I o B->OR P (βc ae β) w (eI β obj cJ I) q B:=by
  intro j q hj;simp only[sx]at hj;have hjl:j<ae.length:=by rw[hlen];exact(bX.1 hj).1
  obtain⟨o,g,hh⟩:=hm j _ q (cZ hjl) hj;refine⟨_,o,cZ hjl,hg _ _ g,λB hO=>?_⟩;rcases hh with ⟨d,rfl,g4,g5⟩ |⟨g4,g5,g6⟩
  ·have:OR P β w I (gc d) B:=by
    cases B with
    |none=>
     simp only[OR]at hO ⊢;rw[hO]at g5;simpa[dM,gc]using g5.symm
    | «at» b s n=>
     obtain⟨h1,c,e,h2,h3,h4⟩:=hO;refine⟨by rw[h1,g4];rfl,c,e,h2,h3,?_⟩;have:=br.wk _ _ _ _ (br.take d.2.length _ _ _ _ h4);rw[g5]at this;exact this
    |mp b=>exact OR.part g4 g5 hO
   exact this.dat λb hb=> .inl hb
  ·obtain⟨e1,e2⟩:=g5.get;refine hO.tell g4 e1 (λ m r q' hr hq=>?_);have hb:=e2 m r q' hr hq;refine⟨hb.length,λvs hv=>?_⟩;refine eS.sound h hg cJ r q' vs (λ k hk hn=>g6 k ?_ hn) hb hv;exact List.mem_flatMap.2 ⟨r,bW hr,hk⟩
 constructor
 ·intro j q hj;have⟨k,o,g1,g2,g3⟩:=look j q hj;have⟨B,hB,hO⟩:=h.cE k o g2;exact⟨B,by rw[hb0 j k g1];exact hB,g3 B hO⟩
 ·intro j j' o o' B B' b h1 h2 h3 h4 h5 h6;have⟨k,q,g1,g3,_⟩:=look j o h1;have⟨k',q',g1',g3',_⟩:=look j' o' h2;rw[hb0 j k g1]at h3;rw[hb0 j' k' g1']at h4;have:=h.fY k k' q q' B B' b g3 g3' h3 h4 h5 h6;subst this;exact LP hnd g1 g1'
 ·intro j o B b h1 h2 h5;have⟨k,q,g1,g3,_⟩:=look j o h1;have h2':=h2;rw[hb0 j k g1]at h2;have⟨a1,a2,_⟩:=h.ownB k q B b g3 h2 h5;refine⟨?_,a2,.inl ⟨j,B,h2',h5⟩⟩;rintro (hI |⟨k',o',s',n',e1,e2,e3⟩)
  ·exact a1 hI
  ·have:=h.lE k k' q o' b g3 e2 ⟨B,h2,h5⟩ (.at e3);subst this;exact xy _ e1 (bW g1)
 ·exact Ga h _
 ·exact λb hb=> .inl hb
 ·exact λ_ _ _=>rfl
 ·exact aB _
 ·rfl
 ·rfl
 ·rfl
 ·intro j B hj;simp only[nZ]at hj;split at hj
  ·exact hj
  ·cases hj
 ·exact h.vars.mono (λ _ _=>rfl) (λ b hb=> .inl hb)
theorem Xy:∀{os':List (Nat×aS)}{k:Nat}{o:aS},ov os' k=some o->(k,o)∈os'
 |[],_,_,h=>by simp[ov]at h
 |(j,q)::r,k,o,h=>by
  simp only[ov]at h;split at h
  ·rename_i e;cases h;subst e;exact List.mem_cons_self
  ·exact dV _ (Xy h)
theorem QY:∀{os':List (Nat×aS)}{k:Nat}{o:aS},(os'.map (·.1)).Nodup->(k,o)∈os'->ov os' k=some o
 |(j,q)::r,k,o,hn,h=>by
  simp only[aF,List.nodup_cons]at hn;simp only[ov];rcases aN.1 h with e |h
  ·injection e with e1 e2;subst e1;subst e2;rw[bn rfl]
  ·rw[bf (λ e=>hn.1 (mem_map.2 ⟨(k,o),h,e.symm⟩)),QY hn.2 h]
theorem Zg{F:Nat->Option aS}{k:Nat}:∀(ae:List Nat)(n:Nat),(∃ j,ae[j]? =some k/\bR obj ((ae.zipIdx n).map λp=>(p.1,F p.2)) k=F (n+j))\/(k∉ae/\bR obj ((ae.zipIdx n).map λp=>(p.1,F p.2)) k=obj k)
 |[],n=> .inr ⟨by simp,rfl⟩
 |q::ae,n=>by
  simp only[List.zipIdx_cons,aF,bR];by_cases e:k=q
  ·subst e;exact .inl ⟨0,rfl,by simp⟩
  ·rw[bf e];rcases Zg (k:=k) ae (n+1)with ⟨j,h1,h2⟩ |⟨h1,h2⟩
   ·exact .inl ⟨j+1,by simpa using h1,by rw[h2];congr 1;omega⟩
   ·exact .inr ⟨by simp[e,h1],h2⟩
theorem VW{c:Nat->Nat}{G:aS->aS}{k:Nat}:∀(l:List (Nat×aS)),(∃ q∈l,k=c q.1/\bR obj (l.map λq=>(c q.1,some (G q.2))) k=some (G q.2))\/bR obj (l.map λq=>(c q.1,some (G q.2))) k=obj k
 |[]=> .inr rfl
 |q::l=>by
  simp only[aF,bR];by_cases e:k=c q.1
  ·exact .inl ⟨q,by simp,e,by rw[bn e]⟩
  ·rw[bf e];rcases VW (c:=c) (G:=G) (k:=k) l with ⟨z,h1,h2,h3⟩ |h
   ·exact .inl ⟨z,dV _ h1,h2,h3⟩
   ·exact .inr h
theorem Zh(h:Mem P w0 O0 β I obj w)(hn:∀k,gC (cy i) k->β k=none){ae cJ:List Nat}{os':List (Nat×aS)}{rv:AV}{keep:Bool}(hgood:VU ae.length os' rv)(hk:keep=true->ml os' rv)
 (hnd:ae.Nodup) (hl:ae.length<=1000) (jn:∀k∈ae,∃o,obj k=some o)
 {w':World} {I1:Nat->Prop} {v:Value} (hM:Mem P w (nZ (βc ae β) (eI β obj cJ I)) β1 I1 (ov os') w') (h1:∀b,eI β obj cJ I b->I1 b) (hr:VR P β1 w' I1 rv v):
 ∃ β' I',Step β I w (cy i) β' I' w'/\Mem P w0 O0 β' I' (bR obj (Xx i ae os'++if keep then []else cJ.map (λ k=>(k,none)))) w'/\VR P β' w' I' (eW (cn i ae) rv) v:=by
 obtain⟨gk,gn,gr,gv⟩:=hgood;have hb0:∀j k,ae[j]? =some k->βc ae β j=β k:=λj k hk=>by simp[βc,hk]
 have hown0:∀k B,β k=some B->¬gC (cy i) k:=λk B hk e=>by rw[hn k e]at hk;cases hk
 have DE:∀j k,ae[j]? =some k->∃B,β k=some B/\β1 j=some B:=by
  intro j k hj;have⟨o,ho⟩:=jn k (bW hj);have⟨B,hB,_⟩:=h.cE k o ho;have hjl:=(bX.1 hj).1;exact⟨B,hB,hM.anch j B (by simp only[nZ];rw[bn (by omega),hb0 j k hj];exact hB)⟩
 generalize A2:(λ k=>if EG i k then β1 (1000+(k -cy i))else β k:Nat->Option cA)=β2;have wA:∀k,¬gC (cy i) k->β2 k=β k:=λk hk=>by
  rw[<- A2];have:EG i k=false:=by
   cases e:EG i k with
   |false=>rfl
   |true=>exact absurd (QU.1 e) hk
  simp[this]
 have Q2:∀j,1000<=j->j<1064->β2 (cy i+(j -1000))=β1 j:=λj e1 e2=>by
  rw[<- A2];have e:EG i (cy i+(j -1000))=true:=QU.2 (by simp only[gC,cy];omega);have e':1000+(cy i+(j -1000) -cy i)=j:=by omega
  simp only[e,if_true,e']
 have hmap:∀k,Zf ae.length k->∀B,β1 k=some B->β2 (cn i ae k)=some B:=by
  rintro k (hk |⟨hk1,hk2⟩) B hB
  ·obtain⟨B',e1,e2⟩:=DE k _ (cZ hk);rw[e2]at hB;cases hB;simp only[cn,show k<1000 by omega,if_true,cZ hk,Option.getD_some];rw[wA _ (hown0 _ _ e1)];exact e1
  ·simp only[cn,show ¬k<1000 by omega,if_false];rw[Q2 k hk1 hk2];exact hB
 have look:∀g k o,bR obj (Xx i ae os'++g) k=some o->(∃ j o0,ae[j]? =some k/\ov os' j=some o0/\o=EF (cn i ae) o0)\/
  (∃ j o0,1000<=j/\j<1064/\ov os' j=some o0/\k=cy i+(j -1000)/\o=EF (cn i ae) o0)\/(k∉ae/\bR obj g k=some o):=by
  intro g k o hko;rw[ql,Xx,ql]at hko;rcases Zg (obj:=bR (bR obj g) ((os'.filter λ(q:Nat×aS)=>decide (1000<=q.1)).map λ(q:Nat×aS)=>(cn i ae q.1,some (EF (cn i ae) q.2)))) (F:=λj=>(ov os' j).map (EF (cn i ae))) (k:=k) ae 0 with ⟨j,e1,e2⟩ |⟨e1,e2⟩
  ·rw[e2]at hko;simp only[Nat.zero_add,dR]at hko;obtain⟨o0,e3,e4⟩:=hko;exact .inl ⟨j,o0,e1,e3,e4.symm⟩
  ·rw[e2]at hko;rcases VW (obj:=bR obj g) (c:=cn i ae) (G:=EF (cn i ae)) (k:=k) (os'.filter λq=>decide (1000<=q.1))with ⟨q,e3,e4,e5⟩ |e3
   ·rw[e5]at hko;injection hko with hko;simp only[mem_filter,aR]at e3;have hq:=gk q e3.1;simp only[Zf]at hq;refine .inr (.inl ⟨q.1,q.2,e3.2,by omega,QY gn e3.1,?_,hko.symm⟩);rw[e4];simp only[cn,show ¬q.1<1000 by omega,if_false]
   ·rw[e3]at hko;exact .inr (.inr ⟨e1,hko⟩)
 have main:∀(g:List (Nat×Option aS))(I2:Nat->Prop),(∀ k o,bR obj g k=some o->obj k=some o)->(∀ b,I b->I2 b)->(∀ b,I2 b->I1 b)->(∀ j o B,ov os' j=some o->OR P β1 w' I1 o B->OR P β1 w' I2 o B)->
  (∀ k o b,k∉ae->bR obj g k=some o->fX β k b->¬I2 b)->VR P β1 w' I2 rv v->
  ∃ β' I',Step β I w (cy i) β' I' w'/\Mem P w0 O0 β' I' (bR obj (Xx i ae os'++g)) w'/\VR P β' w' I' (eW (cn i ae) rv) v:=by
  intro g I2 hg hI hI1 hor De hr2;have hown:∀b,QL (βc ae β) b->∃k o,k∈ae/\obj k=some o/\fX β k b:=by
   rintro b ⟨j,B,hj,hB⟩;have⟨k,e1,e2⟩:=Jy hj;have⟨o,e3⟩:=jn k (bW e1);exact⟨k,o,bW e1,e3,B,e2,hB⟩
  have hapart:∀k o b,k∉ae->obj k=some o->fX β k b->¬QL (βc ae β) b:=by
   intro k o b hk e1 e2 hb;have⟨k',o',g1,g2,g3⟩:=hown b hb;have:=h.lE k k' o o' b e1 g2 e2 g3;subst this;exact hk g1
  have hS:Same I w w':=λb hb=>hM.keep b (h.lt b hb) (λ hb'=>by
   have⟨k',o',g1,g2,g3⟩:=hown b hb';exact(h.ip k' o' b g2 g3).1 hb)
  have E4:∀k o,bR obj (Xx i ae os'++g) k=some o->(∃ j o0,ov os' j=some o0/\Zf ae.length j/\k=cn i ae j/\β2 k=β1 j/\o=EF (cn i ae) o0)\/(k∉ae/\obj k=some o/\bR obj g k=some o/\β2 k=β k):=by
   intro k o hko;rcases look g k o hko with ⟨j,o0,e1,e2,e3⟩ |⟨j,o0,e1,G4,e2,e3,e4⟩ |⟨e1,e2⟩
   ·have⟨B,e4,e5⟩:=DE j k e1;have hjl:=(bX.1 e1).1;refine .inl ⟨j,o0,e2,.inl hjl,?_,?_,e3⟩
    ·simp only[cn,show j<1000 by omega,if_true,e1,Option.getD_some]
    ·rw[wA _ (hown0 _ _ e4),e4,e5]
   ·refine .inl ⟨j,o0,e2,.inr ⟨e1,G4⟩,?_,?_,e4⟩
    ·simp only[cn,show ¬j<1000 by omega,if_false];exact e3
    ·rw[e3];exact Q2 j e1 G4
   ·have⟨B,e3,_⟩:=h.cE k o (hg k o e2);exact .inr ⟨e1,hg k o e2,e2,wA _ (hown0 _ _ e3)⟩
  have qS:∀j o0 b,ov os' j=some o0->fX β1 j b->¬I2 b/\b<w'.heap.size/\(QL (βc ae β) b\/w.heap.size<=b):=by
   intro j o0 b e1 e2;have⟨a1,a2,a3⟩:=hM.ip j o0 b e1 e2;exact⟨λ hb=>a1 (hI1 b hb),a2,a3⟩
  refine⟨β2,I2,⟨wA,λk B hk=>by rw[wA k (hown0 k B hk)];exact hk,hS,hI⟩,?_,VR.tc rv v (λ k hk=>hmap k (gv k hk)) hr2⟩;constructor
  ·intro k o hko;rcases E4 k o hko with ⟨j,o0,e1,e2,e3,e4,rfl⟩ |⟨e1,e2,e3,e4⟩
   ·have⟨B,hB,hO⟩:=hM.cE j o0 e1;refine⟨B,by rw[e4];exact hB,OR.tc (λ r hr' q hq=>hmap q (gr (j,o0) (Xy e1) r hr' q hq)) (hor j o0 B e1 hO)⟩
   ·have⟨B,hB,hO⟩:=h.cE k o e2;refine⟨B,by rw[e4];exact hB,OR.mono (λ q C hq=>by rw[wA q (hown0 q C hq)];exact hq) hS hI (λ b e=>hM.keep b (h.ownB k o B b e2 hB e).2.1 (hapart k o b e1 e2 ⟨B,hB,e⟩)) hO⟩
  ·intro k k' o o' B B' b ho ho' hb hb' h5 h6;rcases E4 k o ho with ⟨j,o0,e1,e2,e3,e4,rfl⟩ |⟨e1,e2,e3,e4⟩
   ·rw[e4]at hb;rcases E4 k' o' ho' with ⟨j',H5,f1,f2,f3,f4,rfl⟩ |⟨f1,f2,f3,f4⟩
    ·rw[f4]at hb';have:=hM.fY j j' o0 H5 B B' b e1 f1 hb hb' h5 h6;subst this;rw[e3,f3]
    ·rw[f4]at hb';rcases (qS j o0 b e1 ⟨B,hb,h5⟩).2.2 with g1 |g1
     ·exact absurd g1 (hapart k' o' b f1 f2 ⟨B',hb',h6⟩)
     ·have:=(h.ownB k' o' B' b f2 hb' h6).2.1;omega
   ·rw[e4]at hb;rcases E4 k' o' ho' with ⟨j',H5,f1,f2,f3,f4,rfl⟩ |⟨f1,f2,f3,f4⟩
    ·rw[f4]at hb';rcases (qS j' H5 b f1 ⟨B',hb',h6⟩).2.2 with g1 |g1
     ·exact absurd g1 (hapart k o b e1 e2 ⟨B,hb,h5⟩)
     ·have:=(h.ownB k o B b e2 hb h5).2.1;omega
    ·rw[f4]at hb';exact h.fY k k' o o' B B' b e2 f2 hb hb' h5 h6
  ·intro k o B b ho hb h5;rcases E4 k o ho with ⟨j,o0,e1,e2,e3,e4,rfl⟩ |⟨e1,e2,e3,e4⟩
   ·rw[e4]at hb;have⟨a1,a2,a3⟩:=qS j o0 b e1 ⟨B,hb,h5⟩;refine⟨a1,a2,?_⟩;rcases a3 with a3 |a3
    ·have⟨k',o',g1,g2,g3⟩:=hown b a3;exact(h.ip k' o' b g2 g3).2.2
    ·exact .inr (Nat.le_trans h.le a3)
   ·rw[e4]at hb;have⟨a1,a2,a3⟩:=h.ownB k o B b e2 hb h5;exact⟨De k o b e1 e3 ⟨B,hb,h5⟩,Nat.lt_of_lt_of_le a2 hM.le,a3⟩
  ·exact λb hb=>hM.lt b (hI1 b hb)
  ·intro b hb;rcases hM.up b (hI1 b hb)with (g1 |⟨k',o',s',n',_,g2,g3⟩) |g1 |g1
   ·exact h.up b g1
   ·exact .inr (h.own k' o' b s' n' g2 g3).2.2
   ·have⟨k',o',_,g2,g3⟩:=hown b g1;exact .inr (h.ip k' o' b g2 g3).2.2
   ·exact .inr (.inr (Nat.le_trans h.le g1))
  ·intro b hb hno;refine(hM.keep b (Nat.lt_of_lt_of_le hb h.le) (λ hb'=>?_)).trans (h.keep b hb hno);have⟨k',o',_,g2,g3⟩:=hown b hb';rcases (h.ip k' o' b g2 g3).2.2 with g1 |g1
   ·exact hno g1
   ·omega
  ·exact Nat.le_trans h.le hM.le
  ·exact hM.os.trans h.os
  ·exact hM.tape.trans h.tape
  ·exact hM.output.trans h.output
  ·intro j B hj;have e:=h.anch j B hj;rw[wA j (hown0 j B e)];exact e
  ·exact h.vars.mono hS hI
 cases keep with
 |true=>
  have⟨hf1,hf2⟩:=hk rfl;exact main [] I (λ _ _ h=>h) (λ _ h=>h) (λ b hb=>h1 b (.inl hb)) (λ j o B hj hO=>OR.ml (hf2 (j,o) (Xy hj)) hO) (λ k o b _ e1 e2=>(h.ip k o b e1 e2).1) (VR.flat rv v hf1 hr)
 |false=>
  have hsub:∀k o,bR obj (cJ.map λk=>(k,none)) k=some o->obj k=some o/\k∉cJ:=by
   intro k o hk;rw[vQ]at hk;split at hk
   ·cases hk
   ·exact⟨hk,‹_›⟩
  refine main _ I1 (λ k o hk=>(hsub k o hk).1) (λ b hb=>h1 b (.inl hb)) (λ _ h=>h) (λ j o B hj hO=>hO) (λ k o b hki e1 e2 hb=>?_) hr;have⟨f1,f2⟩:=hsub k o e1;have⟨a1,a2,_⟩:=h.ip k o b f1 e2;rcases hM.up b hb with (g |⟨k',o',s',n',g1,g2,g3⟩) |⟨j,B',g,g'⟩ |g
  ·exact a1 g
  ·have:=h.lE k k' o o' b f1 g2 e2 (.at g3);subst this;exact f2 g1
  ·have⟨k',g1,g2⟩:=Jy g;have⟨o',g3⟩:=jn k' (bW g1);have:=h.lE k k' o o' b f1 g3 e2 ⟨B',g2,g'⟩;subst this;exact hki (bW g1)
  ·omega
theorem QZ(h:Mem P w0 O0 β I obj w)(hn:∀k,gC (cy i) k->β k=none){f:AV}{args:List AV}{co:ij}{get:Nat->Option aS}{ab:Out}(hg:∀k o,get k=some o->obj k=some o)
 {fv:Value} {vs:Array Value} {al:Array Operand} {fo:Operand} {r:Operand->Value} (ha:JB P i f args co get=some ab) (cD:ab.ob) (hf:VR P β w I f fv) (hv:be P β w I args vs.toList) (hfo:r fo=fv) (hops:vs=al.map r)
 {dst:Option Tmp} {ao:String} {after:Array Edge} {guard:Option (Nat×Bool)} {ty:TypeId} {cW:Array TypeId}:
 xV P w0 O0 β I obj w i ab ((execOp r ⟨dst,.call { callee:= .value fo,args:=al,argTypes:=cW },ty,ao,after,guard⟩).run P w):=by
 unfold JB at ha;split at ha
 ·rename_i F first caps ae cJ bs hs os' rv keep
  split at ha
  ·rename_i hc;obtain⟨hnd,hl⟩:=hc;rw[ah]at ha;obtain⟨ho,hho,ha⟩:=ha;rw[ah]at ha;obtain⟨q,hq,ha⟩:=ha;cases ha;have cD:=pq _ cD;simp only[VR]at hf;obtain⟨fs,cs,rfl,hf1,hf2⟩:=hf;have o1:∀x∈q.2.2,x:=λx hx=>cD x (by simp[hx]);have o2:∀x∈ho.2,x:=λx hx=>cD x (by simp[hx]);have o3:AM P F q.1 ho.1 os' rv:=cD (AM P F q.1 ho.1 os' rv) (by simp);have o4:VU ae.length os' rv:=cD (VU ae.length os' rv) (by simp);have o5:keep=true->ml os' rv:=λe=>cD (ml os' rv) (by simp[e]);obtain⟨l1,l2,l3⟩:QW get (first++args++caps) ae cJ bs:=cD (QW get (first++args++caps) ae cJ bs) (by simp);obtain⟨⟨fn,e1,e2,e3⟩,hcon⟩:=o3;have⟨hl2,hmm⟩:=QX hho o2;have jn:∀k∈ae,∃o,obj k=some o:=by
    intro k hk;obtain⟨j,hj⟩:=List.getElem?_of_mem hk;have hjl:j<ho.1.length:=(by rw[<- hl2];exact(bX.1 hj).1);obtain⟨o,g,_⟩:=hmm j k _ hj (cZ hjl);exact⟨o,hg _ _ g⟩
   have hM:=h.ua hg (cJ:=cJ) hnd hl2 (λ j k z hj hz=>by
    have⟨o,g1,g2⟩:=hmm j k z hj hz;refine⟨o,g1,?_⟩;rcases g2 with ⟨d,_,g3⟩ |⟨hs',g3,g4,g5⟩
    ·exact .inl ⟨d,g3⟩
    ·exact .inr ⟨g4,g5,λk' hk' hn'=>l3 j hs' k o g3 hj g1 k' hk' hn'⟩) l1
   have hall:be P β w I (first++args++caps) (fs++vs++cs).toList:=by
    simp only[Array.toList_append];exact be.append _ _ _ _ (be.append _ _ _ _ hf1 hv) hf2
   have np:=eS.sound h hg cJ _ _ _ (λ k hk hn=>l2 k hk hn) (l5 hq o1) hall;refine⟨F,fs++vs++cs,?_,(hcon w _ _ _ (λ k hk=>?_) hM np).mono ?_⟩
   ·have hb:¬fn.body=none:=(by cases hh:fn.body<;>simp[hh]at e2 ⊢);have e3' : ¬ fn.name = "runtime.NumGoroutine" := (by simpa using e3);simp[execOp,resolve,hfo,<- hops,Deferred.ofValue,invoke,callFunc,e1,e3',hb]
   ·simp[βc,List.getElem?_eq_none (show ae.length<=k by omega)]
   ·rintro e w' ⟨v',β1,I1,rfl,g1,g2,g3⟩;have⟨β',I',k1,k2,k3⟩:=Zh (keep:=keep) h hn o4 o5 hnd hl jn g1 g2 g3;exact⟨v',β',I',rfl,k1,k2,k3⟩
  ·cases ha
 ·cases ha
end
def jK(P:Program)(i:Nat)(f:AV)(args:List AV)(co:ij)(get:Nat->Option aS):Option Out:=
 match co with
 | .sm ae cJ bs hs os' rv keep=>JB P i f args (.sm ae cJ bs hs os' rv keep) get
 |co=>nM P i f args co get
section
variable {P:Program} {w0:World} {O0:js} {β:Nat->Option cA} {I:Nat->Prop} {obj:Nat->Option aS} {w:World} {i:Nat}
theorem Q0(h:Mem P w0 O0 β I obj w)(hn:∀k,gC (cy i) k->β k=none){f:AV}{args:List AV}{co:ij}{get:Nat->Option aS}{ab:Out}(hg:∀k o,get k=some o->obj k=some o)
 {fv:Value} {vs:Array Value} {al:Array Operand} {fo:Operand} {r:Operand->Value} (ha:jK P i f args co get=some ab) (cD:ab.ob) (hf:VR P β w I f fv) (hv:be P β w I args vs.toList) (hfo:r fo=fv) (hops:vs=al.map r)
 {dst:Option Tmp} {ao:String} {after:Array Edge} {guard:Option (Nat×Bool)} {ty:TypeId} {cW:Array TypeId}:
 xV P w0 O0 β I obj w i ab ((execOp r ⟨dst,.call { callee:= .value fo,args:=al,argTypes:=cW },ty,ao,after,guard⟩).run P w):=by
 unfold jK at ha;split at ha
 ·exact QZ h hn hg ha cD hf hv hfo hops
 ·exact QO h (hn _ (.inl rfl)) hg ha cD hf hv hfo hops
end
structure St where
 env:Nat->AV
 obj:Nat->Option aS
 ok:Nat->Option Bool
structure lO where
 co:ij
 rd:List Nat
 wr:List Nat
 sym:Bool
def jb(P:Program)(T:ea)(i:Nat)(o:Oper)(co:ij)(ρ:Operand->AV)(get:Nat->Option aS):Option Out:=
 match co with
 | .ext n=>qN T i o n ρ get
 | .ue ae fr tf=>EC P T i o ae fr tf ρ get
 |co=>match o.op with
  | .call { callee:= .value f,args:=args,argTypes:=_ }=>jK P i (ρ f) (args.toList.map ρ) co get
  |_=>nK T i o co ρ get
def yZ{α:Type}(env:Nat->α)(dst:Option Tmp)(v:α):Nat->α:=λt=>if dst=some t then v else env t
def St.app(σ:St)(dst:Option Tmp)(p:Out×Option Bool):St:=⟨yZ σ.env dst p.1.v,bR σ.obj p.1.upd,yZ σ.ok dst p.2⟩
def want(al:Array Oper)(o:Oper)(env:Nat->AV)(ok:Nat->Option Bool):Option Bool:=
 match o.guard with
 |none=>some true
 |some (j,b)=>match (al[j]?).bind (·.dst)with
  |some t=>match env t,ok t with
   | .t (.sc (.bool v)),none=>some (v==b)
   | .t (.sc (.bool v)),some g=>some (g&&(v==b))
   | .undef,some false=>some false
   |_,_=>none
  |none=>none
def uV(ok:Nat->Option Bool):Operand->List Prop
 | .tmp t=>match ok t with
  |none=>[]
  |some b=>[b=true]
 |_=>[]
def needs(env:Nat->AV)(ok:Nat->Option Bool)(o:Op):List Prop:=
 match o with
 | .pick c a b=>match ky env c with
  | .t (.sc (.bool e))=>uV ok c++((uV ok a).map (λ p=>e=true->p)++(uV ok b).map (λ p=>e=false->p))
  |_=>[False]
 |o=>o.operands.toList.flatMap (uV ok)
def dw(rd:List Nat)(obj:Nat->Option aS):Nat->Option aS:=λk=>if k∈rd then obj k else none
section
variable (P:Program) (T:ea) (al:Array Oper) (cQ:Nat->lO)
def opAt(i:Nat)(σ:St):Option (Out×Option Bool):=
 (al[i]?).bind λo=>(want al o σ.env σ.ok).bind λg=>match (cQ i).sym with
  |true=>(jb P T i o (cQ i).co (ky σ.env) (dw (cQ i).rd σ.obj)).bind λab=>
   if ab.upd.isEmpty then some (⟨ab.v,[],(needs σ.env σ.ok o.op++ab.obs).map λp=>g=true->p⟩,some g)else none
  |false=>match g with
   |true=>(jb P T i o (cQ i).co (ky σ.env) (dw (cQ i).rd σ.obj)).bind λab=>
    if ab.upd.all (λ p=>EG i p.1 || (cQ i).wr.contains p.1)then some (⟨ab.v,ab.upd,needs σ.env σ.ok o.op++ab.obs⟩,none)else none
   |false=>some (⟨.undef,[],[]⟩,some false)
def ur(i:Nat)(K:St->Prop)(σ:St):Prop:=∃o ab,al[i]? =some o/\opAt P T al cQ i σ=some ab/\ab.1.ob/\K (σ.app o.dst ab)
def OQ(Q:St->Prop):List Nat->St->Prop
 |[],σ=>Q σ
 |i::r,σ=>ur P T al cQ i (OQ Q r) σ
def AE(md:Region.Mode)(Q:St->Prop):Nat->Array Bool->St->Prop
 | 0,listed,σ=>Region.ready md al listed=[]/\Q σ
 |fuel+1,listed,σ=>(Region.ready md al listed=[]->Q σ)/\∀i∈Region.ready md al listed,ur P T al cQ i (AE md Q fuel (listed.setIfInBounds i true)) σ
end
def u6(cQ:Nat->lO)(i j:Nat):Bool:=
 (cQ j).rd.all (λ k=>!EG i k&&!(cQ i).wr.contains k)&&(!Nat.beq i j&&(cQ j).wr.all (λ k=>!EG i k&&!(cQ i).wr.contains k)&&(cQ i).wr.all (λ k=>!EG j k))&&(cQ i).rd.all (λ k=>!EG j k&&!(cQ j).wr.contains k)
def LV(md:Region.Mode)(al:Array Oper)(i:Nat):List Nat:=
 (List.range al.size).foldl (λ D j=>match al[j]? with
  |some oj=>bif oj.after.any (λ e=>Region.binds md e&&(e.on==i || D.contains e.on))then j::D else D
  |none=>D) []
def HJ(md:Region.Mode)(al:Array Oper)(listed:Array Bool)(i j:Nat):Bool:=
 (LV md al i).contains j&&(LV md al i).all λd=>!listed.getD d true
def LW(md:Region.Mode)(al:Array Oper)(cQ:Nat->lO)(listed:Array Bool)(i:Nat):Bool:=
 match al[i]? with
 |some oi=>(List.range al.size).all λj=>j==i || listed.getD j true || match al[j]? with
  |some oj=>oj.after.any (λ e=>Region.binds md e&&e.on==i) || (oi.apart al oj&&u6 cQ i j) || HJ md al listed i j
  |none=>true
 |none=>false
def lexFrom'(md:Region.Mode)(al:Array Oper)(cQ:Nat->lO):Nat->Nat->Array Bool->Bool
 | 0,_,listed=>(Region.ready md al listed).isEmpty
 |fuel+1,k,listed=>(Region.ready md al listed).contains k&&LW md al cQ listed k&&lexFrom' md al cQ fuel (k+1) (listed.setIfInBounds k true)
def HI(al:Array Oper)(cQ:Nat->lO):Bool:=lexFrom' .any al cQ al.size 0 (Array.replicate al.size false)
section
variable {P:Program} {T:ea} {al:Array Oper} {cQ:Nat->lO} {md:Region.Mode} {Q:St->Prop}
theorem af4{i:Nat}{K K':St->Prop}{σ:St}(h:∀ σ,K σ->K' σ)(hh:ur P T al cQ i K σ):ur P T al cQ i K' σ:=
 let ⟨o,ab,h1,h2,h3,h4⟩:=hh
 ⟨o,ab,h1,h2,h3,h _ h4⟩
theorem JD{i:Nat}{o:Oper}{co:ij}{ρ ρ':Operand->AV}{get:Nat->Option aS}(h:∀x∈o.op.operands,ρ x=ρ' x):jb P T i o co ρ get=jb P T i o co ρ' get:=by
 have hop:=NI (T:=T) (i:=i) (co:=co) (get:=get) h;unfold jb;split
 ·exact UO h
 ·exact Xq h
 ·obtain⟨dst,op,ty,ao,after,guard⟩:=o;simp only at h ⊢;split
  ·rename_i f args cW;simp only[Op.operands,Call.operands]at h;have h1:args.toList.map ρ=args.toList.map ρ':=map_congr_left λx hx=>h x (by simp;exact .inr (by simpa using hx));rw[h1,h f (by simp)]
  ·exact hop
theorem VX{i:Nat}{σ:St}{ab:Out×Option Bool}(h:opAt P T al cQ i σ=some ab):∀p∈ab.1.upd,EG i p.1=true\/p.1∈(cQ i).wr:=by
 unfold opAt at h;cases ho:al[i]? with
 |none=>simp[ho]at h
 |some o=>
  simp only[ho,af]at h;cases hw:want al o σ.env σ.ok with
  |none=>simp[hw]at h
  |some g=>
   simp only[hw,af]at h;split at h
   ·cases ha:jb P T i o (cQ i).co (ky σ.env) (dw (cQ i).rd σ.obj)with
    |none=>simp[ha]at h
    |some out'=>
     simp only[ha,af]at h;split at h
     ·cases h;simp
     ·cases h
   ·split at h
    ·cases ha:jb P T i o (cQ i).co (ky σ.env) (dw (cQ i).rd σ.obj)with
     |none=>simp[ha]at h
     |some out'=>
      all_goals grind
    ·cases h;simp
theorem sG{obj:Nat->Option aS}:∀(upd:List (Nat×Option aS))(k:Nat),(∀ p∈upd,p.1≠k)->bR obj upd k=obj k
 |[],_,_=>rfl
 |(j,o)::r,k,h=>by
  simp only[bR];rw[bf (λ e=>h (j,o) (by simp) e.symm),sG r k (λ p hp=>h p (by simp[hp]))]
theorem Bz{obj mz:Nat->Option aS}:∀(upd:List (Nat×Option aS))(k:Nat),obj k=mz k->bR obj upd k=bR mz upd k
 |[],_,h=>h
 |(j,o)::r,k,h=>by simp only[bR,Bz r k h]
theorem Zi{env env':Nat->AV}{ok ok':Nat->Option Bool}{o:Op}(h:∀t,.tmp t∈o.operands->env t=env' t/\ok t=ok' t):needs env ok o=needs env' ok' o:=by
 have h1:∀x∈o.operands,uV ok x=uV ok' x:=λx hx=>by
  cases x with
  |tmp t=>simp only[uV,(h t hx).2]
  |_=>rfl
 unfold needs;split
 ·rename_i c a b;have hc:ky env c=ky env' c:=by
   cases c with
   |tmp t=>exact(h t (by simp[Op.operands])).1
   |_=>rfl
  rw[hc,h1 c (by simp[Op.operands]),h1 a (by simp[Op.operands]),h1 b (by simp[Op.operands])]
 ·have:∀l:List Operand,(∀ x∈l,uV ok x=uV ok' x)->l.flatMap (uV ok)=l.flatMap (uV ok'):=by
   intro l
   induction l with
   |nil=>intro _;rfl
   |cons x xs ih=>intro hx;simp only[List.flatMap_cons,hx x (by simp),ih (λ y hy=>hx y (by simp[hy]))]
  exact this _ λx hx=>h1 x (by simpa using hx)
theorem Zj{j:Nat}{oi oj:Oper}{ab:Out×Option Bool}{σ:St}(hj:al[j]? =some oj)(hd:∀d,oi.dst=some d->d∉oj.looksAt al)(hk:∀p∈ab.1.upd,p.1∉(cQ j).rd):
 opAt P T al cQ j (σ.app oi.dst ab)=opAt P T al cQ j σ:=by
 unfold opAt;simp only[hj,af];have p5:∀t,t∈oj.looksAt al->(σ.app oi.dst ab).env t=σ.env t:=λt ht=>by
  simp only[St.app,yZ];rw[bf (λ e=>hd t e ht)]
 have I3:∀t,t∈oj.looksAt al->(σ.app oi.dst ab).ok t=σ.ok t:=λt ht=>by
  simp only[St.app,yZ];rw[bf (λ e=>hd t e ht)]
 have hw:want al oj (σ.app oi.dst ab).env (σ.app oi.dst ab).ok=want al oj σ.env σ.ok:=by
  unfold want;cases hg:oj.guard with
  |none=>rfl
  |some gw=>grind [Oper.looksAt]
 have hget:dw (cQ j).rd (σ.app oi.dst ab).obj=dw (cQ j).rd σ.obj:=by
  funext k;simp only[dw];split
  ·rename_i hkr;exact sG _ _ (λ p hp e=>hk p hp (e ▸ hkr))
  ·rfl
 have hin:∀t,.tmp t∈oj.op.operands->t∈oj.looksAt al:=λt ht=>by simp only[Oper.looksAt];exact List.mem_append_left _ (List.mem_filterMap.2 ⟨.tmp t,by simpa using ht,rfl⟩)
 have hρ:jb P T j oj (cQ j).co (ky (σ.app oi.dst ab).env) (dw (cQ j).rd σ.obj)=jb P T j oj (cQ j).co (ky σ.env) (dw (cQ j).rd σ.obj):=by
  refine JD λx hx=>?_;cases x with
  |tmp t=>exact p5 t (hin t hx)
  |_=>rfl
 have hnd:needs (σ.app oi.dst ab).env (σ.app oi.dst ab).ok oj.op=needs σ.env σ.ok oj.op:=Zi λt ht=>⟨p5 t (hin t ht),I3 t (hin t ht)⟩;rw[hw,hget,hρ,hnd]
theorem af5{σ:St}{di dj:Option Tmp}{a b:Out×Option Bool}(hd:∀d,di=some d->dj≠some d)(hk:∀p∈a.1.upd,∀q∈b.1.upd,p.1≠q.1):(σ.app di a).app dj b=(σ.app dj b).app di a:=by
 have slot:∀{α:Type} (e:Nat->α) (x y:α),yZ (yZ e di x) dj y=yZ (yZ e dj y) di x:=λe x y=>by
  funext t;simp only[yZ];by_cases h1:dj=some t
  ·rw[bn h1,bf (λ e=>hd t e h1),bn h1]
  ·rw[bf h1,bf h1]
 simp only[St.app,St.mk.injEq];refine⟨slot _ _ _,?_,slot _ _ _⟩;funext k;by_cases h1:∃p∈a.1.upd,p.1=k
 ·obtain⟨p,hp,e⟩:=h1;rw[sG b.1.upd k (λ q hq e2=>hk p hp q hq (e.trans e2.symm))];exact Bz _ _ (sG b.1.upd k (λ q hq e2=>hk p hp q hq (e.trans e2.symm))).symm
 ·have h2:∀p∈a.1.upd,p.1≠k:=λp hp e=>h1 ⟨p,hp,e⟩;rw[sG a.1.upd k h2];exact Bz _ _ (sG a.1.upd k h2)
theorem ahZ{i j:Nat}{oi oj:Oper}{ab:Out×Option Bool}{σ:St}{K:St->Prop}(hi:al[i]? =some oi)(hj:al[j]? =some oj)(hap:oi.apart al oj=true)(hfp:u6 cQ i j=true)
 (hy:opAt P T al cQ i σ=some ab) (h:ur P T al cQ j K (σ.app oi.dst ab)):
 ur P T al cQ j (λ σ'=>opAt P T al cQ i σ'=some ab/\K (σ'.app oi.dst ab)) σ:=by
 obtain⟨a1,a2,a3⟩:=Oper.apart_spec hap;simp only[u6,aJ]at hfp;obtain⟨⟨f1,⟨f0,f2⟩,f2'⟩,f3⟩:=hfp;have hij:i≠j:=by intro e;subst e;rw[show Nat.beq i i=true from Nat.beq_refl i]at f0;cases f0
 have ki:=VX hy;have no:∀(a:Nat)(l wr:List Nat)(k:Nat),(l.all λk=>!EG a k&&!wr.contains k)=true->(EG a k=true\/k∈wr)->k∈l->False:=by grind
 obtain⟨o,H3,g1,g2,g3,g4⟩:=h;rw[hj]at g1;cases g1;rw[Zj hj a1 (λ p hp hr=>no _ _ _ _ f1 (ki p hp) hr)]at g2;have kj:=VX g2;have both:∀k,(EG i k=true\/k∈(cQ i).wr)->(EG j k=true\/k∈(cQ j).wr)->False:=by
  intro k h1 h2;rcases h2 with h2 |h2
  ·rcases h1 with h1 |h1
   ·simp only[EG,aJ,beq_iff_eq]at h1 h2;exact hij (h1.2.symm.trans h2.2)
   ·have:=all_eq_true.1 f2' k h1;rw[h2]at this;exact absurd this (by simp)
  ·exact no _ _ _ _ f2 h1 h2
 refine⟨oj,H3,hj,g2,g3,?_,?_⟩
 ·rw[Zj hi a3 (λ p hp hr=>no _ _ _ _ f3 (kj p hp) hr)];exact hy
 ·rw[<- af5 a2 (λ p hp q hq e=>both p.1 (ki p hp) (e ▸ kj q hq))];exact g4
theorem Zk{i:Nat}:∀d∈LV md al i,∃od,al[d]? =some od/\∃e∈od.after,Region.binds md e=true/\(e.on=i\/e.on∈LV md al i):=by
 have main:∀(l:List Nat)(D0:List Nat),(∀ d∈D0,∃od,al[d]? =some od/\∃e∈od.after,Region.binds md e=true/\(e.on=i\/e.on∈D0))->
  ∀d∈l.foldl (λ D j=>match al[j]? with
   |some oj=>bif oj.after.any (λ e=>Region.binds md e&&(e.on==i || D.contains e.on))then j::D else D
   |none=>D) D0,∃od,al[d]? =some od/\∃e∈od.after,Region.binds md e=true/\(e.on=i\/e.on∈l.foldl (λ D j=>match al[j]? with
   |some oj=>bif oj.after.any (λ e=>Region.binds md e&&(e.on==i || D.contains e.on))then j::D else D
   |none=>D) D0):=by
  intro l
  induction l with
  |nil=>intro D0 h;exact h
  |cons j l ih=>
   intro D0 h;simp only[List.foldl_cons];refine ih _ ?_
   grind
 exact main _ [] (λ d hd=>by simp at hd)
theorem NQ{i:Nat}{oi:Oper}{listed:Array Bool}(hi:al[i]? =some oi)(h:LW md al cQ listed i=true)(j:Nat)(oj:Oper)(hj:al[j]? =some oj)(hne:j≠i)(hun:listed.getD j true=false)
 (hno:∀e∈oj.after,Region.binds md e=true->e.on≠i):(oi.apart al oj=true/\u6 cQ i j=true)\/HJ md al listed i j=true:=by
 simp only[LW,hi,all_eq_true,List.mem_range]at h
 grind
theorem Q5{i:Nat}{oi:Oper}{ab:Out×Option Bool}(D:List Nat)(hi:al[i]? =some oi)(hD:∀d∈D,∃od,al[d]? =some od/\∃e∈od.after,Region.binds md e=true/\(e.on=i\/e.on∈D)):
 ∀(fuel:Nat) (listed:Array Bool) (σ:St),(∀ d∈D,listed.getD d true=false)->
  (∀ j oj,al[j]? =some oj->j≠i->listed.getD j true=false->j∉D->(∀ e∈oj.after,Region.binds md e=true->e.on≠i)->oi.apart al oj=true/\u6 cQ i j=true)->
  i∈Region.ready md al listed->opAt P T al cQ i σ=some ab->ab.1.ob->
  AE P T al cQ md Q fuel (listed.setIfInBounds i true) (σ.app oi.dst ab)->AE P T al cQ md Q (fuel+1) listed σ:=by
 intro fuel
 induction fuel with
 |zero=>
  intro listed σ _ _ hr hy cD H;refine⟨λ h=>(by rw[h]at hr;cases hr),λj hj=>?_⟩;by_cases hji:j=i
  ·subst hji;exact⟨oi,ab,hi,hy,cD,H⟩
  ·have:=ready_mono hj hji;rw[H.1]at this;cases this
 |succ fuel ih=>
  intro listed σ Sf hfree hr hy cD H;refine⟨λ h=>(by rw[h]at hr;cases hr),λj hj=>?_⟩;by_cases hji:j=i
  ·subst hji;exact⟨oi,ab,hi,hy,cD,H⟩
  ·have h1:=H.2 j (ready_mono hj hji);obtain⟨hjun,oj,hoj,hall⟩:=mem_ready.1 hj;have hnl:∀k,listed.getD k true=false->∀e∈oj.after,Region.binds md e=true->e.on≠k:=λk h0 e he hb heq=>by
    have h1:=hall e he hb;rw[heq]at h1;rcases Nat.lt_or_ge k listed.size with h' |h'
    ·simp[h']at h0 h1;rw[h0]at h1;cases h1
    ·simp[Array.getElem?_eq_none h']at h1
   have hnot:∀e∈oj.after,Region.binds md e=true->e.on≠i:=hnl i (mem_ready.1 hr).1;have G1:j∉D:=λhm=>by
    have⟨od,g1,e,g2,g3,g4⟩:=hD j hm;rw[hoj]at g1;cases g1;rcases g4 with g4 |g4
    ·exact hnot e g2 g3 g4
    ·exact hnl _ (Sf _ g4) e g2 g3 rfl
   have⟨hap,hfp⟩:=hfree j oj hoj hji hjun G1 hnot;have h2:=ahZ hi hoj hap hfp hy h1
   have hfree':∀k ok,al[k]? =some ok->k≠i->(listed.setIfInBounds j true).getD k true=false->k∉D->
    (∀ e∈ok.after,Region.binds md e=true->e.on≠i)->oi.apart al ok=true/\u6 cQ i k=true:=λk ok hk hki hun hkD hno=>by
    refine hfree k ok hk hki ?_ hkD hno;by_cases hjk:j=k
    ·subst hjk;exact hjun
    ·rw[getD_set_ne true hjk]at hun;exact hun
   have LR:∀d∈D,(listed.setIfInBounds j true).getD d true=false:=λd hd=>by
    have hne:j≠d:=λe=>G1 (by rw[e];exact hd);rw[getD_set_ne true hne];exact Sf d hd
   refine af4 (λ σ' h3=>ih (listed.setIfInBounds j true) σ' LR hfree' (ready_mono hr (Ne.symm hji)) h3.1 cD ?_) h2;rw[Array.setIfInBounds_comm _ _ hji];exact h3.2
theorem Zl:∀(n k:Nat) (listed:Array Bool) (σ:St),lexFrom' md al cQ n k listed=true->OQ P T al cQ Q ((List.range n).map (k+ ·)) σ->AE P T al cQ md Q n listed σ
 | 0,k,listed,σ,hB,h=>⟨by simpa[lexFrom']using hB,by simpa[OQ]using h⟩
 |n+1,k,listed,σ,hB,h=>by
  simp only[lexFrom',aJ]at hB;obtain⟨⟨hr,hfp⟩,hB'⟩:=hB;rw[List.range_succ_eq_map,aF,map_map]at h;simp only[OQ,Nat.add_zero]at h;obtain⟨o,ab,h1,h2,h3,h4⟩:=h;have fin:AE P T al cQ md Q n (listed.setIfInBounds k true) (σ.app o.dst ab)->AE P T al cQ md Q (n+1) listed σ:=by
   intro H;cases hd:(LV md al k).all λd=>!listed.getD d true with
   |true=>
    refine Q5 (LV md al k) h1 Zk n listed σ (λ d hd'=>by simpa using all_eq_true.1 hd d hd') (λ j oj hj hne hun G1 hno=>?_) (by simpa using hr) h2 h3 H;rcases NQ h1 hfp j oj hj hne hun hno with h |h
    ·exact h
    ·simp only[HJ,aJ,List.contains_iff_mem]at h;exact absurd h.1 G1
   |false=>
    refine Q5 [] h1 (λ d hd'=>by simp at hd') n listed σ (λ d hd'=>by simp at hd') (λ j oj hj hne hun _ hno=>?_) (by simpa using hr) h2 h3 H;rcases NQ h1 hfp j oj hj hne hun hno with h |h
    ·exact h
    ·simp only[HJ,aJ]at h;rw[h.2]at hd;cases hd
  refine fin ?_;refine Zl n (k+1) _ _ hB' ?_;have e:(λ x=>k+x)∘Nat.succ=λx=>k+1+x:=by funext x;simp only[Function.comp];omega
  rw[e]at h4;exact h4
end
end Go.Gb
