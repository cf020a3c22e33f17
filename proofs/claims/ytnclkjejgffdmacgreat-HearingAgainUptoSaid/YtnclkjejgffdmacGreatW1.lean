import GoSem.Claims
import Derived.Calls
import Derived.Below
import Derived.Orders
import Derived.Laws.Cells
import Derived.Laws.AppendOwn
import Derived.Laws.StructEq
import Derived.Laws.Build
import Derived.WalkKit
import Derived.Lib.AppendZeros
import Derived.MapKept
import Derived.Laws.MakeOwn
abbrev Y:=@List
abbrev J:=@Option
open Go
abbrev M:=World
abbrev E:=TypeId
abbrev Q:=Program
abbrev Ψ:=Nat->Prop
abbrev Ω:=Value
open Go.IntKind (i64)
open List (length_take mem_map all_eq_true length_drop take_of_length_le map_congr_left eq_nil_of_length_eq_zero)
namespace Go
universe u v
theorem aj{α:Sort u}(a b:α):cond true a b=a:=rfl
theorem au{α:Sort u}(a b:α):cond false a b=b:=rfl
theorem ai{α:Type u}{G:Type v}(a:α)(f:α->J G):(some a).bind f=f a:=rfl
theorem bf{p:Prop}[Decidable p]:(decide p=true)=p:=_root_.decide_eq_true_eq
theorem fw{p:Prop}{_:Decidable p}:decide p=false↔¬p:=_root_.decide_eq_false_iff_not
theorem bK{α:Type u}(a b:α):(some a=some b)=(a=b):=Option.some.injEq a b
theorem aT(a b:Bool):((a&&b)=true)=(a=true/\b=true):=Bool.and_eq_true a b
theorem eZ{a b:Bool}:a=b↔(a=true↔b=true):=Bool.eq_iff_iff
theorem eU{α:Type u}{a b:Y α}:(a++b).length=a.length+b.length:=List.length_append
theorem aU{α:Type u}(a b c:Y α):a++b++c=a++(b++c):=List.append_assoc a b c
theorem bB{α:Type u}{a:α}:¬a∈([]:Y α):=List.not_mem_nil
theorem aM{c:Prop}{h:Decidable c}(hnc:¬c){α:Sort u}{t e:α}:(if c then t else e)=e:=_root_.if_neg hnc
theorem aP{c:Prop}{h:Decidable c}(hc:c){α:Sort u}{t e:α}:(if c then t else e)=t:=_root_.if_pos hc
theorem bC{α:Type u}{a b:α}:a∈[b]↔a=b:=List.mem_singleton
theorem dI{α:Type u}{l:Y α}{i:Nat}(h:i<l.length):l[i]? =some l[i]:=List.getElem?_eq_getElem h
theorem qj{α:Type u}{a b:Y α}{i:Nat}(h:a.length<=i):(a++b)[i]? =b[i-a.length]? :=List.getElem?_append_right h
theorem bU{α:Type u}{i:Nat}{a:α}{l:Y α}:l[i]? =some a↔∃h:i<l.length,l[i]=a:=List.getElem?_eq_some_iff
theorem bT{α:Type u}{l:Y α}{i:Nat}{a:α}(h:l[i]? =some a):a∈l:=List.mem_of_getElem? h
theorem uy{α:Type u}{b:α}{α_1:Type v}{x:J α_1}{f:α_1->α}:Option.map f x=some b↔∃a,x=some a/\f a=b:=Option.map_eq_some_iff
theorem iY{α:Type u}{i:Nat}{l:Y α}(h:i<l.length):List.take (i+1) l=List.take i l++[l[i]]:=List.take_succ_eq_append_getElem h
theorem eG{α:Type u}(y:α){a:α}{l:Y α}(h:a∈l):a∈y::l:=List.mem_cons_of_mem y h
theorem aB(n:Nat):n<=n:=Nat.le_refl n
theorem d9{α:Type u}{a:α}{l:Y α}:(a::l).length=l.length+1:=rfl
theorem bq{α:Type u}{G:Type v}{f:α->G}{a:α}{l:Y α}:List.map f (a::l)=f a::List.map f l:=rfl
theorem aI{α:Type u}{b:α}{l:Y α}{a:α}:a∈b::l↔a=b\/a∈l:=List.mem_cons
theorem fI{α:Type u}(l:Y α):[]++l=l:=rfl
theorem bI{α:Type u}{a:α}{s t:Y α}:a∈s++t↔a∈s\/a∈t:=List.mem_append
theorem wu{p:Prop}(h:¬p->False):p:=Classical.byContradiction h
end Go
namespace Go
theorem ah{α G:Type _}{b:G}{x:J α}{f:α->J G}:x.bind f=some b↔∃ a,x=some a/\f a=some b:=Option.bind_eq_some_iff
end Go
namespace Go.Gb
def AK:Nat->J (List Value):=λ_=>none
def aqt:Nat->Bool:=λg=>g==0
open Go.RowKit
inductive Tree where
 |sc (v:Value)
 |sl (rows:List (List Tree))
inductive TV where
 |s (x:Tree)
 |a (cs:List Tree)
inductive AV where
 |t (x:Tree)
 |agg (cs:List AV)
 |eE (vs:List AV)
 |own (k:Nat) (aa len:Nat)
 |ptr (k:Nat) (row aa:Nat)
 |eW (row:List Tree) (aa:Nat)
 |fn (f:FuncId) (first caps:List AV)
 |eC (Z:List TV->TV->Prop)
 |mp (k:Nat)
 |oz (k len:Nat)
 |d5
 |ub
 |undef
structure aN where
 sz:Nat
 rows:List (List AV)
abbrev S:=Nat->J aN
structure Ex where
 m:Nat
 s:Nat
 h:s<=m
def AS(m:Nat):Ex:=⟨m,0,Nat.zero_le m⟩
@[simp] theorem amC (m:Nat):(AS m).m=m:=rfl
@[simp] theorem T7 (m:Nat):(AS m).s=0:=rfl
inductive dc where
 |none
 |at (b sz:Nat) (n:Ex)
 |mp (b:Nat)
abbrev ζ:=Nat->J dc
@[simp] def dc.num:dc->J Nat
 |.none=>Option.none
 |.at b _ _=>some b
 |.mp b=>some b
def oneCell:Value->Prop
 |.agg _|.tuple _=>False
 |_=>True
section
variable (w:World) (I:Nat->Prop)
mutual
def TR:Tree->Value->Prop
 |.sc v,u=>u=v/\oneCell v
 |.sl rows,u=>(rows=[]/\∃a cap,u=.slice a 0 cap/\(a=none->cap=0))\/∃b aa cap sz,u=.slice (some ⟨b,aa,none⟩) rows.length cap/\rows.length<=cap/\I b/\cR rows b aa sz
def cR:List (List Tree)->Nat->Nat->Nat->Prop
 |[],_,_,_=>True
 |r::rs,b,aa,sz=>r.length=sz/\eL r b aa/\cR rs b (aa+sz) sz
def eL:List Tree->Nat->Nat->Prop
 |[],_,_=>True
 |x::xs,b,aa=>(∃ c,w.cell? ⟨b,aa,none⟩=some c/\TR x c)/\eL xs b (aa+1)
end
def fy:Y Tree->Y Value->Prop
 |[],[]=>True
 |x::xs,v::vs=>TR w I x v/\fy xs vs
 |_,_=>False
def vA:TV->Value->Prop
 |.s x,v=>TR w I x v
 |.a cs,v=>∃vs:Array Value,v=.agg vs/\fy w I cs vs.toList
def oR:Y TV->Y Value->Prop
 |[],[]=>True
 |x::xs,v::vs=>vA w I x v/\oR xs vs
 |_,_=>False
end
def Same(I:Ψ)(w w':M):Prop:=∀b,I b->w'.heap[b]? =w.heap[b]?
theorem Same.cell{I:Ψ}{w w':M}(h:Same I w w'){b aa:Nat}(hb:I b):w'.cell? ⟨b,aa,none⟩=w.cell? ⟨b,aa,none⟩:=by simp[World.cell?,h b hb]
mutual
theorem TR.mono{w w':World}{I I':Nat->Prop}(hs:Same I w w')(hi:∀b,I b->I' b):∀(x:Tree)(v:Value),TR w I x v->TR w' I' x v
 |.sc _,_,h=>by simpa[TR]using h
 |.sl rows,v,h=>by simp only[TR]at h |-;rcases h with h|⟨b,aa,cap,sz,h1,h2,h3,h4⟩;exact .inl h;exact .inr ⟨b,aa,cap,sz,h1,h2,hi _ h3,cR.mono hs hi rows b aa sz h3 h4⟩
theorem cR.mono{w w':World}{I I':Nat->Prop}(hs:Same I w w')(hi:∀b,I b->I' b):∀(rows:List (List Tree))(b aa sz:Nat),I b->cR w I rows b aa sz->cR w' I' rows b aa sz
 |[],_,_,_,_,_=>by simp[cR]
 |r::rs,b,aa,sz,hb,h=>by simp[cR]at h |-;exact⟨h.1,eL.mono hs hi r b aa hb h.2.1,cR.mono hs hi rs b (aa+sz) sz hb h.2.2⟩
theorem eL.mono{w w':World}{I I':Nat->Prop}(hs:Same I w w')(hi:∀b,I b->I' b):∀(r:List Tree)(b aa:Nat),I b->eL w I r b aa->eL w' I' r b aa
 |[],_,_,_,_=>by simp[eL]
 |x::xs,b,aa,hb,h=>by simp[eL]at h |-;obtain⟨⟨c,hc,hx⟩,h2⟩:=h;exact⟨⟨c,by rw[hs.cell hb];exact hc,TR.mono hs hi x c hx⟩,eL.mono hs hi xs b (aa+1) hb h2⟩
end
theorem fy.mono{w w':M}{I I':Ψ}(hs:Same I w w')(hi:∀b,I b->I' b):∀(xs:Y Tree)(vs:Y Value),fy w I xs vs->fy w' I' xs vs
 |[],[],_=>trivial
 |x::xs,v::vs,h=>⟨TR.mono hs hi x v h.1,fy.mono hs hi xs vs h.2⟩
 |[],_::_,h|_::_,[],h=>h.elim
theorem vA.mono{w w':M}{I I':Ψ}(hs:Same I w w')(hi:∀b,I b->I' b):∀(x:TV)(v:Value),vA w I x v->vA w' I' x v
 |.s x,v,h=>TR.mono hs hi x v h
 |.a cs,_,⟨vs,h1,h2⟩=>⟨vs,h1,fy.mono hs hi cs vs.toList h2⟩
theorem oR.mono{w w':M}{I I':Ψ}(hs:Same I w w')(hi:∀b,I b->I' b):∀(xs:Y TV)(vs:Y Value),oR w I xs vs->oR w' I' xs vs
 |[],[],_=>trivial
 |x::xs,v::vs,h=>⟨vA.mono hs hi x v h.1,oR.mono hs hi xs vs h.2⟩
 |[],_::_,h|_::_,[],h=>h.elim
def lP(w:M)(I:Ψ):Prop:=(∀ g row,AK g=some row->I g/\eL w I (row.map Tree.sc) g 0)/\∀g,aqt g=true->I g/\∃m,w.cell? ⟨g,0,none⟩=some (.int .i64 m)
theorem lP.mono{w w':M}{I I':Ψ}(hs:Same I w w')(hi:∀b,I b->I' b)(h:lP w I):lP w' I':=⟨λ g row hg=>
 ⟨hi g (h.1 g row hg).1,eL.mono hs hi _ g 0 (h.1 g row hg).1 (h.1 g row hg).2⟩,λg hg=>⟨hi g (h.2 g hg).1,by rw[hs.cell (h.2 g hg).1];exact(h.2 g hg).2⟩⟩
def ajK(w:M)(I:Ψ)(R:World->(Nat->Prop)->Value->Prop)(e:Ending)(w':M):Prop:=
 ∃v I',e=.returned v/\Below w.heap.size w w'/\(∀ b,I b->I' b)/\(∀ b,I' b->b<w'.heap.size)/\(∀ b,I' b->I b\/w.heap.size<=b)/\R w' I' v
def tc(P:Q)(w:M)(I:Ψ)(Z:Y TV->TV->Prop)(v:Ω):Prop:=
 ∃(f:FuncId)(first caps:Array Value),v=.func (.func f) first caps/\first=#[]/\
  (∀ fn, P.funcs[f]? = some fn -> fn.body.isSome = true /\ (fn.name == "runtime.NumGoroutine") = false) /\ (P.funcs[f]?).isSome = true /\
  ∀(w':World)(I':Nat->Prop)(args:Y TV)(vs:Array Value)(r:TV),(∀ b,I b->I' b)->Same I w w'->(∀ b,I' b->b<w'.heap.size)->
   Z args r->oR w' I' args vs.toList->Calls P f (first++vs++caps) w' (ajK w' I' λw'' HF u=>vA w'' HF r u)
section
variable (P:Program) (G:Nat->Option dc) (w:World) (I:Nat->Prop)
mutual
def VR:AV->Value->Prop
 |.t x,v=>TR w I x v
 |.agg cs,v=>∃vs:Array Value,v=.agg vs/\br cs vs.toList
 |.eE cs,v=>∃vs:Array Value,v=.tuple vs/\br cs vs.toList
 |.own k aa len,v=>(G k=some .none/\v=.slice none 0 0/\aa=0/\len=0)\/
  ∃b sz n cap o,G k=some (.at b sz n)/\v=.slice (some ⟨b,o,none⟩) len cap/\len<=cap/\n.s+(aa+cap)*sz<=n.m/\(cap≠0->o=n.s+aa*sz)
 |.ptr k row aa,v=>∃b sz n,G k=some (.at b sz n)/\v=.pointer (some ⟨b,n.s+row*sz+aa,none⟩)
 |.eW row aa,v=>∃b o,v=.pointer (some ⟨b,o+aa,none⟩)/\I b/\eL w I row b o
 |.fn f first caps,v=>∃fs cs:Array Value,v=.func (.func f) fs cs/\br first fs.toList/\br caps cs.toList
 |.eC Z,v=>tc P w I Z v
 |.mp k,v=>∃b,G k=some (.mp b)/\v=.map (some b)
 |.oz k len,v=>(len=0/\v=.slice none 0 0)\/(len≠0/\∃b sz n cap o,G k=some (.at b sz n)/\v=.slice (some ⟨b,o,none⟩) len cap/\len<=cap/\n.s+(0+cap)*sz<=n.m/\(cap≠0->o=n.s+0*sz))
 |.d5,v=>v=.slice none 0 0
 |.ub,v=>∃b,v=.bool b
 |.undef,_=>True
def br:List AV->List Value->Prop
 |[],[]=>True
 |x::xs,v::vs=>VR x v/\br xs vs
 |_,_=>False
end
def d8:Y AV->Array Value->Nat->Prop
 |[],_,_=>True
 |x::xs,c,aa=>(∃ v,c[aa]? =some v/\VR P G w I x v/\oneCell v)/\d8 xs c (aa+1)
def cj:Y (List AV)->Array Value->Nat->Nat->Prop
 |[],_,_,_=>True
 |r::rs,c,aa,sz=>r.length=sz/\d8 P G w I r c aa/\cj rs c (aa+sz) sz
def c9:Y (List AV)->Y MapEntry->Prop
 |[],[]=>True
 |r::rs,e::es=>br P G w I r [e.key,e.val]/\c9 rs es
 |_,_=>False
def OR(o:aN):dc->Prop
 |.none=>o.rows=[]
 |.mp b=>∃es clock,w.heap[b]? =some (.map es clock)/\o.rows.length<=o.sz/\(o.sz=o.rows.length->c9 P G w I o.rows es.toList)/\(es.toList.map (·.born)).Nodup/\∀e∈es.toList,e.born<clock
 |.at b sz n=>sz=o.sz/\∃c e,w.heap[b]? =some (.cells c e (0,0))/\c.size=n.m/\cj P G w I o.rows c n.s sz
end
theorem tc.mono{P:Q}{w w':M}{I I':Ψ}(hs:Same I w w')(hi:∀b,I b->I' b){Z:Y TV->TV->Prop}{v:Ω}(h:tc P w I Z v):tc P w' I' Z v:=by obtain⟨f,first,caps,h1,h0,h2,h3,h4⟩:=h;exact⟨f,first,caps,h1,h0,h2,h3,λw2 I2 args vs r hi2 hs2 hlt hφ ha=>h4 w2 I2 args vs r (λ b h=>hi2 b (hi b h)) (λ b h=>(hs2 b (hi b h)).trans (hs b h)) hlt hφ ha⟩
mutual
theorem VR.mono{P:Program}{G β':Nat->Option dc}{w w':World}{I I':Nat->Prop}(hb:∀k B,G k=some B->β' k=some B)(hs:Same I w w')(hi:∀b,I b->I' b):∀(x:AV)(v:Value),VR P G w I x v->VR P β' w' I' x v
 |.t x,v,h=>by simp[VR]at h |-;exact TR.mono hs hi x v h
 |.agg cs,v,h=>by simp[VR]at h |-;obtain⟨vs,h1,h2⟩:=h;exact⟨vs,h1,br.mono hb hs hi cs vs.toList h2⟩
 |.eE cs,v,h=>by simp[VR]at h |-;obtain⟨vs,h1,h2⟩:=h;exact⟨vs,h1,br.mono hb hs hi cs vs.toList h2⟩
 |.own k aa len,v,h=>by simp only[VR]at h |-;rcases h with ⟨h1,h2⟩|⟨b,sz,n,cap,o,h1,h2⟩;exact .inl ⟨hb _ _ h1,h2⟩;exact .inr ⟨b,sz,n,cap,o,hb _ _ h1,h2⟩
 |.ptr k row aa,v,h=>by simp[VR]at h |-;obtain⟨b,sz,n,h1,h2⟩:=h;exact⟨b,sz,n,hb _ _ h1,h2⟩
 |.eW row aa,v,h=>by simp[VR]at h |-;obtain⟨b,o,h1,h2,h3⟩:=h;exact⟨b,o,h1,hi _ h2,eL.mono hs hi row b o h2 h3⟩
 |.fn f first caps,v,h=>by simp[VR]at h |-;obtain⟨fs,cs,h1,h2,h3⟩:=h;exact⟨fs,cs,h1,br.mono hb hs hi first fs.toList h2,br.mono hb hs hi caps cs.toList h3⟩
 |.eC Z,v,h=>by simp[VR]at h |-;exact tc.mono hs hi h
 |.mp k,v,h=>by simp[VR]at h |-;obtain⟨b,h1,h2⟩:=h;exact⟨b,hb _ _ h1,h2⟩
 |.oz k len,v,h=>by simp only[VR]at h |-;rcases h with h|⟨h0,b,sz,n,cap,o,h1,h2⟩;exact .inl h;exact .inr ⟨h0,b,sz,n,cap,o,hb _ _ h1,h2⟩
 |.d5,v,h|.ub,v,h=>by simpa[VR]using h
 |.undef,_,_=>by simp[VR]
theorem br.mono{P:Program}{G β':Nat->Option dc}{w w':World}{I I':Nat->Prop}(hb:∀k B,G k=some B->β' k=some B)(hs:Same I w w')(hi:∀b,I b->I' b):∀(xs:List AV)(vs:List Value),br P G w I xs vs->br P β' w' I' xs vs
 |[],[],_=>by simp[br]
 |x::xs,v::vs,h=>by simp[br]at h |-;exact⟨VR.mono hb hs hi x v h.1,br.mono hb hs hi xs vs h.2⟩
 |[],_::_,h|_::_,[],h=>by simp[br]at h
end
theorem VR.xt{P:Q}{G:ζ}{w:M}{I:Ψ}{k len:Nat}{v:Ω}(h:VR P G w I (.oz k len) v):(len=0/\v=.slice none 0 0)\/(len≠0/\VR P G w I (.own k 0 len) v):=by exact h.imp id λh=>⟨h.1,.inr h.2⟩
def wk:AV->AV
 |.d5=>.t (.sl [])
 |x=>x
def dW(rows:Y (List AV)):Y (List AV):=rows.map λr=>r.map wk
theorem VR.wk{P:Q}{G:ζ}{w:M}{I:Ψ}{x:AV}{v:Ω}(h:VR P G w I x v):VR P G w I (wk x) v:=by
 cases x<;>simp[Gb.wk]<;>try exact h
 simp[VR]at h |-;simp only[TR];exact .inl ⟨trivial,none,0,h,λ_=>rfl⟩
theorem d8.wk{P:Q}{G:ζ}{w:M}{I:Ψ}:∀(r:Y AV)(c:Array Value)(aa:Nat),d8 P G w I r c aa->d8 P G w I (r.map Gb.wk) c aa
 |[],_,_,_=>trivial
 |_::xs,c,aa,⟨⟨v,h1,h2,h3⟩,h4⟩=>⟨⟨v,h1,h2.wk,h3⟩,d8.wk xs c (aa+1) h4⟩
theorem cj.wk{P:Q}{G:ζ}{w:M}{I:Ψ}:∀(rs:Y (List AV))(c:Array Value)(aa sz:Nat),cj P G w I rs c aa sz->cj P G w I (dW rs) c aa sz
 |[],_,_,_,_=>trivial
 |r::rs,c,aa,sz,⟨h1,h2,h3⟩=>⟨by simpa using h1,d8.wk r c aa h2,cj.wk rs c (aa+sz) sz h3⟩
theorem d8.mono{P:Q}{G β':ζ}{w w':M}{I I':Ψ}(hb:∀k B,G k=some B->β' k=some B)(hs:Same I w w')(hi:∀b,I b->I' b):∀(r:Y AV)(c:Array Value)(aa:Nat),d8 P G w I r c aa->d8 P β' w' I' r c aa
 |[],_,_,_=>trivial
 |x::xs,c,aa,⟨⟨v,h1,h2,h3⟩,h4⟩=>⟨⟨v,h1,VR.mono hb hs hi x v h2,h3⟩,d8.mono hb hs hi xs c (aa+1) h4⟩
theorem cj.mono{P:Q}{G β':ζ}{w w':M}{I I':Ψ}(hb:∀k B,G k=some B->β' k=some B)(hs:Same I w w')(hi:∀b,I b->I' b):∀(rs:Y (List AV))(c:Array Value)(aa sz:Nat),cj P G w I rs c aa sz->cj P β' w' I' rs c aa sz
 |[],_,_,_,_=>trivial
 |r::rs,c,aa,sz,⟨h1,h2,h3⟩=>⟨h1,d8.mono hb hs hi r c aa h2,cj.mono hb hs hi rs c (aa+sz) sz h3⟩
theorem br.wk{P:Q}{G:ζ}{w:M}{I:Ψ}:∀(r:Y AV)(vs:Y Value),br P G w I r vs->br P G w I (r.map Gb.wk) vs
 |[],[],_=>by simp[br]
 |x::xs,v::vs,h=>by simp[br]at h;simp;exact⟨h.1.wk,br.wk xs vs h.2⟩
 |[],_::_,h|_::_,[],h=>by simp[br]at h
theorem c9.mono{P:Q}{G β':ζ}{w w':M}{I I':Ψ}(hb:∀k B,G k=some B->β' k=some B)(hs:Same I w w')(hi:∀b,I b->I' b):∀(rs:Y (List AV))(es:Y MapEntry),c9 P G w I rs es->c9 P β' w' I' rs es
 |[],[],_=>trivial
 |r::rs,_::es,⟨h1,h4⟩=>⟨br.mono hb hs hi r _ h1,c9.mono hb hs hi rs es h4⟩
 |[],_::_,h|_::_,[],h=>h.elim
theorem c9.wk{P:Q}{G:ζ}{w:M}{I:Ψ}:∀(rs:Y (List AV))(es:Y MapEntry),c9 P G w I rs es->c9 P G w I (dW rs) es
 |[],[],_=>trivial
 |r::rs,_::es,⟨h1,h4⟩=>⟨br.wk r _ h1,c9.wk rs es h4⟩
 |[],_::_,h|_::_,[],h=>h.elim
structure lp where
 own:Nat->Prop
 Ly:Nat->Prop
 anc:Nat->Option dc:=λ_=>none
 lt:∀j B,anc j=some B->j<1000:=by intro j B h;cases h
structure Mem(P:Program)(w0:World)(O0:lp)(G:Nat->Option dc)(I:Nat->Prop)(obj:Nat->Option aN)(w:World):Prop where
 du:∀k o,obj k=some o->∃B,G k=some B/\OR P G w I o B
 iv:∀k k' o o' B B' b,obj k=some o->obj k'=some o'->G k=some B->G k'=some B'->B.num=some b->B'.num=some b->k=k'
 ownB:∀k o B b,obj k=some o->G k=some B->B.num=some b->¬I b/\b<w.heap.size/\(O0.own b\/w0.heap.size<=b)
 lt:∀b,I b->b<w.heap.size
 up:∀b,I b->O0.Ly b\/O0.own b\/w0.heap.size<=b
 keep:∀b,b<w0.heap.size->¬O0.own b->w.heap[b]? =w0.heap[b]?
 le:w0.heap.size<=w.heap.size
 os:w.os=w0.os
 tape:w.tape=w0.tape
 output:w.output=w0.output
 anch:∀j B,O0.anc j=some B->G j=some B
 vars:lP w I
section
variable {P:Program} {w0:World} {O0:lp} {G:Nat->Option dc} {I:Nat->Prop} {obj:Nat->Option aN} {w:World}
theorem Mem.inj(h:Mem P w0 O0 G I obj w):∀k k' o o' b s n s' n',obj k=some o->obj k'=some o'->G k=some (.at b s n)->G k'=some (.at b s' n')->k=k':=
 λk k' o o' b _ _ _ _ h1 h2 h3 h4=>h.iv k k' o o' _ _ b h1 h2 h3 h4 rfl rfl
theorem Mem.own(h:Mem P w0 O0 G I obj w):∀k o b s n,obj k=some o->G k=some (.at b s n)->¬I b/\b<w.heap.size/\(O0.own b\/w0.heap.size<=b):=
 λk o b _ _ h1 h2=>h.ownB k o _ b h1 h2 rfl
end
def ir(G:ζ)(k b:Nat):Prop:=∃B,G k=some B/\B.num=some b
theorem ir.at{G:ζ}{k b s:Nat}{n:Ex}(h:G k=some (.at b s n)):ir G k b:=⟨_,h,rfl⟩
section
variable {P:Program} {w0:World} {O0:lp} {G:Nat->Option dc} {I:Nat->Prop} {obj:Nat->Option aN} {w:World}
theorem Mem.py(h:Mem P w0 O0 G I obj w):∀k k' o o' b,obj k=some o->obj k'=some o'->ir G k b->ir G k' b->k=k':=
 λk k' o o' b h1 h2 ⟨B,h3,h5⟩ ⟨B',h4,h6⟩=>h.iv k k' o o' B B' b h1 h2 h3 h4 h5 h6
theorem Mem.k8(h:Mem P w0 O0 G I obj w):∀k o b,obj k=some o->ir G k b->¬I b/\b<w.heap.size/\(O0.own b\/w0.heap.size<=b):=
 λk o b h1 ⟨B,h2,h3⟩=>h.ownB k o B b h1 h2 h3
end
def bX(obj:S):Y (Nat×Option aN)->Nat->J aN
 |[],k=>obj k
 |(j,o)::r,k=>if k=j then o else bX obj r k
def j7(i k:Nat):Prop:=k=i\/(1000000<=i/\1000000<=k/\(k-1000000)/64=(i-1000000)/64)
theorem j7.ne{i k:Nat}(h:¬j7 i k):k≠i:=λe=>h (.inl e)
structure Step(G:Nat->Option dc)(I:Nat->Prop)(w:World)(i:Nat)(β':Nat->Option dc)(I':Nat->Prop)(w':World):Prop where
 other:∀k,¬j7 i k->β' k=G k
 ext:∀k B,G k=some B->β' k=some B
 same:Same I w w'
 inc:∀b,I b->I' b
theorem Step.refl(G:ζ)(I:Ψ)(w:M)(i:Nat):Step G I w i G I w:=⟨λ _ _=>rfl,λ_ _ h=>h,λ_ _=>rfl,λ_ h=>h⟩
theorem sj{w:M}{o:Obj}{b:Nat}(h:b<w.heap.size):(w.alloc o).heap[b]? =w.heap[b]? :=by grind [World.alloc]
theorem Same.alloc{I:Ψ}{w:M}(h:∀b,I b->b<w.heap.size)(o:Obj):Same I w (w.alloc o):=λb hb=>sj (h b hb)
def ins(G:ζ)(i:Nat)(B:dc):Nat->J dc:=λk=>if k=i then some B else G k
theorem oF{G:ζ}{i:Nat}{B:dc}(h:G i=none):∀k C,G k=some C->ins G i B k=some C:=by grind [ins]
theorem jO{P:Q}{G:ζ}{w:M}{I:Ψ}:∀(r:Y AV)(c:Array Value)(aa:Nat),d8 P G w I r c aa↔∀j x,r[j]? =some x->∃v,c[aa+j]? =some v/\VR P G w I x v/\oneCell v
 |[],c,aa=>by simp[d8]
 |x::xs,c,aa=>by
  simp[d8,jO xs c (aa+1)];constructor
  grind
  intro h;refine⟨by simpa using h 0 x rfl,λj y hj=>?_⟩;obtain⟨v,hv⟩:=h (j+1) y (by simpa using hj);exact⟨v,by rw[show aa+1+j=aa+(j+1)by omega];exact hv.1,hv.2⟩
theorem pW{P:Q}{G:ζ}{w:M}{I:Ψ}:∀(rs:Y (List AV))(c:Array Value)(aa sz:Nat),cj P G w I rs c aa sz↔∀i r,rs[i]? =some r->r.length=sz/\d8 P G w I r c (aa+i*sz)
 |[],c,aa,sz=>by simp[cj]
 |r::rs,c,aa,sz=>by
  simp[cj,pW rs c (aa+sz) sz];constructor;rintro⟨h1,h2,h3⟩ i r' hi;cases i with
  |zero=>simp at hi;subst hi;exact⟨h1,by simpa using h2⟩
  |succ i=>have:=h3 i r' (by simpa using hi);rw[show aa+(i+1)*sz=aa+sz+i*sz by rw[Nat.add_mul];omega];exact this
  intro h;have h0:=h 0 r rfl;refine⟨h0.1,by simpa using h0.2,λi r' hi=>?_⟩;have:=h (i+1) r' (by simpa using hi);rw[show aa+sz+i*sz=aa+(i+1)*sz by rw[Nat.add_mul];omega];exact this
section
variable {P:Program} {w0:World} {O0:lp} {G:Nat->Option dc} {I:Nat->Prop} {obj:Nat->Option aN} {w:World}
theorem OR.mono{β':ζ}{I':Ψ}{w':M}{o:aN}{B:dc}(hb:∀k B,G k=some B->β' k=some B)(hs:Same I w w')(hi:∀b,I b->I' b)
 (hB:∀b,B.num=some b->w'.heap[b]? =w.heap[b]?) (h:OR P G w I o B):OR P β' w' I' o B:=by
 cases B with
 |none=>exact h
 | «at» b s n=>
  obtain⟨h1,c,e,h2,h3,h4⟩:=h;exact⟨h1,c,e,(hB b rfl).trans h2,h3,cj.mono hb hs hi _ _ _ _ h4⟩
 |mp b=>
  obtain⟨es,cl,h1,hle,h2,h3⟩:=h;exact⟨es,cl,(hB b rfl).trans h1,hle,λe=>c9.mono hb hs hi _ _ (h2 e),h3⟩
theorem Mem.alloc{i:Nat}{o:aN}{c:Array Value}{e:E}(h:Mem P w0 O0 G I obj w)(hn:G i=none)
 (hr:cj P G w I o.rows c 0 o.sz):
 Step G I w i (ins G i (.at w.heap.size o.sz (AS c.size))) I (w.alloc (.cells c e))/\
 Mem P w0 O0 (ins G i (.at w.heap.size o.sz (AS c.size))) I (bX obj [(i,some o)]) (w.alloc (.cells c e)):=by
 have hS:Step G I w i (ins G i (.at w.heap.size o.sz (AS c.size))) I (w.alloc (.cells c e)):=
  ⟨λ k hk=>by simp[ins,j7.ne hk],oF hn,Same.alloc h.lt _,λ_ h=>h⟩
 refine⟨hS,?_⟩;constructor;intro k o' hk;simp[bX]at hk;split at hk;cases hk;rename_i hki;refine⟨.at w.heap.size o.sz (AS c.size),by simp[ins,hki],rfl,c,e,?_,rfl,cj.mono hS.ext hS.same hS.inc _ _ _ _ hr⟩;exact heap_alloc_new w _;have⟨B,hB,hO⟩:=h.du k o' hk;exact⟨B,oF hn _ _ hB,OR.mono hS.ext hS.same hS.inc (λ b hb=>sj (h.ownB k o' B b hk hB hb).2.1) hO⟩;intro k k' o1 o2 B B' b h1 h2 h3 h4 h5 h6;simp[bX]at h1 h2;simp[ins]at h3 h4;split at h1<;>split at h2;rename_i a b;rw[a,b];rename_i hki qu;simp[hki]at h3;simp[qu]at h4;subst h3;injection h5 with h5;have:=(h.ownB k' o2 B' b h2 h4 h6).2.1;omega;rename_i hki qu;simp[qu]at h4;simp[hki]at h3;subst h4;injection h6 with h6;have:=(h.ownB k o1 B b h1 h3 h5).2.1;omega;rename_i hki qu;simp[hki,qu]at h3 h4;exact h.iv k k' o1 o2 B B' b h1 h2 h3 h4 h5 h6;intro k o' B b h1 h2 h3;simp[bX]at h1;simp[ins]at h2;split at h1;rename_i hki;simp[hki]at h2;subst h2;injection h3 with h3;refine⟨λ hI=>?_,?_,.inr ?_⟩;have:=h.lt b hI;omega;simp;omega;have:=h.le;omega;rename_i hki;simp[hki]at h2;have⟨a,b',c'⟩:=h.ownB k o' B b h1 h2 h3;exact⟨a,by simp;omega,c'⟩;intro b hb;have:=h.lt b hb;simp;omega;exact h.up;intro b hb hO;rw[sj (by have:=h.le;omega)];exact h.keep b hb hO;have:=h.le;simp;omega;exact h.os;exact h.tape;exact h.output;intro j B hj;exact oF hn _ _ (h.anch j B hj);exact h.vars.mono (Same.alloc h.lt _) (λ _ h=>h)
theorem Mem.write{k:Nat}{o o':aN}{b s:Nat}{n:Ex}{c':Array Value}{e:E}{w':M}(h:Mem P w0 O0 G I obj w)(hk:obj k=some o)(hβ:G k=some (.at b s n))
 (hnew:w'.heap[b]? =some (.cells c' e (0,0))) (hother:∀b',b'≠b->w'.heap[b']? =w.heap[b']?) (hsize:w'.heap.size=w.heap.size) (hos:w'.os=w.os) (xz:w'.tape=w.tape) (hout:w'.output=w.output)
 (hsz:s=o'.sz) (hn:c'.size=n.m) (hr:cj P G w I o'.rows c' n.s o'.sz):
 Same I w w'/\Mem P w0 O0 G I (bX obj [(k,some o')]) w':=by
 have⟨hnI,hlt,hO⟩:=h.own k o b s n hk hβ;have hs:Same I w w':=λb' hb=>hother b' (λ e=>hnI (e ▸ hb));refine⟨hs,?_⟩;constructor;intro j oj hj;simp[bX]at hj;split at hj;rename_i hjk;cases hj;refine⟨.at b s n,by rw[hjk];exact hβ,hsz,c',e,?_,hn,hsz ▸ cj.mono (λ _ _ h=>h) hs (λ _ h=>h) _ _ _ _ hr⟩;exact hnew;rename_i hjk;have⟨B,hB,tS⟩:=h.du j oj hj;refine⟨B,hB,OR.mono (λ _ _ h=>h) hs (λ _ h=>h) (λ b1 e1=>hother b1 (λ e2=>hjk ?_)) tS⟩;subst e2;exact h.iv j k oj o B _ b1 hj hk hB hβ e1 rfl;intro j j' o1 o2 B1 B2 b1 h1 h2 h3 h4 h5 h6;have hx:∀(j:Nat)(o1:aN),bX obj [(k,some o')] j=some o1->∃o2,obj j=some o2:=λj o1 h=>by simp[bX]at h;split at h;rename_i e;exact⟨o,by rw[e];exact hk⟩;exact⟨_,h⟩
 have⟨p1,q1⟩:=hx j o1 h1;have⟨p2,q2⟩:=hx j' o2 h2;exact h.iv j j' p1 p2 B1 B2 b1 q1 q2 h3 h4 h5 h6;intro j o1 B1 b1 h1 h2 h3;have hx:∃o2,obj j=some o2:=by simp[bX]at h1;split at h1;rename_i e;exact⟨o,by rw[e];exact hk⟩;exact⟨_,h1⟩
 obtain⟨p1,q1⟩:=hx;have:=h.ownB j p1 B1 b1 q1 h2 h3;rw[hsize];exact this;intro b1 hb1;rw[hsize];exact h.lt b1 hb1;exact h.up;intro b1 hb1 hno;rw[hother b1 (λ e1=>?_)];exact h.keep b1 hb1 hno;subst e1;rcases hO with hO|hO;exact hno hO;omega;rw[hsize];exact h.le;rw[hos];exact h.os;rw[xz];exact h.tape;rw[hout];exact h.output;exact h.anch;exact h.vars.mono hs (λ _ h=>h)
theorem Mem.drop(h:Mem P w0 O0 G I obj w)(pw:S)(hsub:∀k o,pw k=some o->obj k=some o):Mem P w0 O0 G I pw w:=
 ⟨λ k o hk=>h.du k o (hsub k o hk),λk k' o o' B B' b h1 h2=>h.iv k k' o o' B B' b (hsub _ _ h1) (hsub _ _ h2),λk o B b h1=>h.ownB k o B b (hsub _ _ h1),h.lt,h.up,h.keep,h.le,h.os,h.tape,h.output,h.anch,h.vars⟩
theorem Mem.below{w':M}{I':Ψ}(h:Mem P w0 O0 G I obj w)(hb:Below w.heap.size w w')(hi:∀b,I b->I' b)(hlt:∀b,I' b->b<w'.heap.size)(hI:∀b k o B,I' b->obj k=some o->G k=some B->B.num=some b->False)(hup:∀b,I' b->O0.Ly b\/O0.own b\/w0.heap.size<=b):
 Same I w w'/\Mem P w0 O0 G I' obj w':=by have hs:Same I w w':=λb hb'=>hb.block b (h.lt b hb');refine⟨hs,?_⟩;constructor;intro k o hk;have⟨B,hB,hO⟩:=h.du k o hk;exact⟨B,hB,OR.mono (λ _ _ h=>h) hs hi (λ b e=>hb.block b (h.ownB k o B b hk hB e).2.1) hO⟩;exact h.iv;intro k o B b h1 h2 h3;have⟨a,b',c⟩:=h.ownB k o B b h1 h2 h3;exact⟨λ hb2=>hI b k o B hb2 h1 h2 h3,Nat.lt_of_lt_of_le b' hb.size,c⟩;exact hlt;exact hup;intro b hb1 hno;rw[hb.block b (by have:=h.le;omega)];exact h.keep b hb1 hno;have:=h.le;have:=hb.size;omega;rw[hb.os];exact h.os;rw[hb.tape];exact h.tape;rw[hb.output];exact h.output;exact h.anch;exact h.vars.mono hs hi
theorem Mem.weak{pw:S}(h:Mem P w0 O0 G I obj w)(ho:∀k o',pw k=some o'->∃o,obj k=some o/\∀B,G k=some B->OR P G w I o B->OR P G w I o' B):Mem P w0 O0 G I pw w:=by constructor;intro k o' hk;have⟨o,h1,h2⟩:=ho k o' hk;have⟨B,hB,hO⟩:=h.du k o h1;exact⟨B,hB,h2 B hB hO⟩;intro k k' o o' B B' b h1 h2;have⟨q,g1,_⟩:=ho k o h1;have⟨q',g2,_⟩:=ho k' o' h2;exact h.iv k k' q q' B B' b g1 g2;intro k o B b h1;have⟨q,g1,_⟩:=ho k o h1;exact h.ownB k q B b g1;exact h.lt;exact h.up;exact h.keep;exact h.le;exact h.os;exact h.tape;exact h.output;exact h.anch;exact h.vars
theorem OR.wk{o:aN}{B:dc}(h:OR P G w I o B):OR P G w I ⟨o.sz,dW o.rows⟩ B:=by
 cases B with
 |none=>simp[OR]at h |-;simp[dW,h]
 | «at» b s n=>
  obtain⟨h1,c,e,h2,h3,h4⟩:=h;exact⟨h1,c,e,h2,h3,cj.wk _ _ _ _ h4⟩
 |mp b=>
  obtain⟨es,cl,h1,hle,h2,h3⟩:=h;exact⟨es,cl,h1,by simpa[dW]using hle,λe=>c9.wk _ _ (h2 (by simpa[dW]using e)),h3⟩
theorem Mem.zE{k sz:Nat}{rows:Y (List AV)}(h:Mem P w0 O0 G I (bX obj [(k,some ⟨sz,rows⟩)]) w):Mem P w0 O0 G I (bX obj [(k,some ⟨sz,dW rows⟩)]) w:=by refine h.weak λj o' hj=>?_;simp[bX]at hj |-;by_cases e:j=k;rw[aP e]at hj |-;cases hj;exact⟨_,rfl,λB _ hB=>OR.wk hB⟩;rw[aM e]at hj |-;exact⟨o',hj,λ_ _ h=>h⟩
theorem Mem.drew(h:Mem P w0 O0 G I obj w):Mem P w0 O0 G I obj w.drew:=by have hb:Below w.heap.size w w.drew:=⟨rfl,rfl,rfl,aB _,λ_ _=>rfl⟩;exact(h.below hb (λ _ h=>h) h.lt (λ b k o B h1 h2 h3 h4=>(h.ownB k o B b h2 h3 h4).1 h1) h.up).2
end
def pb:Nat->J dc:=λ_=>none
def TV.av:TV->AV
 |.s x=>.t x
 |.a cs=>.agg (cs.map .t)
inductive RC where
 |d (x:TV)
 |fresh (sz:Nat) (rows:List (List Tree))
 |whole (j len:Nat)
inductive RV where
 |one (c:RC)
 |eE (cs:List RC)
def aJ(rows:Y (List Tree)):Y (List AV):=rows.map λr=>r.map AV.t
def Wf(P:Q)(F:Ψ)(sz:Nat)(rows:Y (List Tree))(w:M)(I:Ψ)(v:Ω):Prop:=
 (rows=[]/\v=.slice none 0 0)\/∃b c e cap o s,v=.slice (some ⟨b,o,none⟩) rows.length cap/\F b/\¬I b/\w.heap[b]? =some (.cells c e (0,0))/\rows.length<=cap/\s+cap*sz<=c.size/\
  cj P pb w I (aJ rows) c s sz/\(cap≠0->o=s)
def Dd(P:Q)(F:Ψ)(G:ζ):RC->World->(Nat->Prop)->Value->Prop
 |.d x,w,I,v=>vA w I x v
 |.fresh sz rows,w,I,v=>Wf P F sz rows w I v
 |.whole j len,w,I,v=>VR P G w I (.own j 0 len) v
def Wo(P:Q)(F:Ψ)(G:ζ):Y RC->World->(Nat->Prop)->Y Value->Prop
 |[],_,_,[]=>True
 |c::cs,w,I,v::vs=>Dd P F G c w I v/\Wo P F G cs w I vs
 |_,_,_,_=>False
def th(P:Q)(F:Ψ)(G:ζ):RV->World->(Nat->Prop)->Value->Prop
 |.one c,w,I,v=>Dd P F G c w I v
 |.eE cs,w,I,v=>∃vs:Array Value,v=.tuple vs/\Wo P F G cs w I vs.toList
def S0(w:M)(b:Nat):Prop:=w.heap.size<=b
def eH(P : Q)(f : FuncId): Prop := ∃ fn, P.funcs[f]? = some fn /\ fn.body.isSome = true /\ (fn.name == "runtime.NumGoroutine") = false
def sq(P:Q)(f:FuncId)(args:Y AV)(r:RV):Prop:=
 eH P f/\∀(w:World)(I:Nat->Prop)(vs:Array Value),(∀ b,I b->b<w.heap.size)->lP w I->br P pb w I args vs.toList->Calls P f vs w (ajK w I (th P (S0 w) pb r))
mutual
def gE(P:Program)(get:Nat->Option aN):AV->AV->Prop
 |.t x,y=>y=.t x
 |.agg cs,y=>∃cs',y=.agg cs'/\gh P get cs cs'
 |.eE _,_=>False
 |.own k aa len,y=>∃o el,get k=some o/\y=.t (.sl el)/\(o.rows.drop aa).take len=aJ el/\el.length=len
 |.ptr k row aa,y=>∃o ua,get k=some o/\y=.eW ua aa/\o.rows[row]? =some (ua.map AV.t)
 |.eW r o,y=>y=.eW r o
 |.fn f first caps,y=>∃first' pj,gh P get first first'/\gh P get caps pj/\(y=.fn f first' pj\/
  ∃ Z,y=.eC Z/\first'=[]/\eH P f/\∀args r,Z args r->sq P f (first'++args.map TV.av++pj) (.one (.d r)))
 |.eC Z,y=>y=.eC Z
 |.mp _,_=>False
 |.oz k len,y=>∃o el,get k=some o/\y=.t (.sl el)/\(o.rows.drop 0).take len=aJ el/\el.length=len
 |.d5,y=>y=.t (.sl [])\/y=.d5
 |.ub,_=>False
 |.undef,_=>False
def gh(P:Program)(get:Nat->Option aN):List AV->List AV->Prop
 |[],[]=>True
 |x::xs,y::ys=>gE P get x y/\gh P get xs ys
 |_,_=>False
end
mutual
def refs:AV->List Nat
 |.own k _ _=>[k]
 |.ptr k _ _=>[k]
 |.mp k=>[k]
 |.oz k _=>[k]
 |.agg cs=>dJ cs
 |.eE cs=>dJ cs
 |.fn _ first caps=>dJ first++dJ caps
 |_=>[]
def dJ:List AV->List Nat
 |[]=>[]
 |x::xs=>refs x++dJ xs
end
def gx(G:ζ)(obj:S)(ab:Y Nat)(I:Ψ)(b:Nat):Prop:=
 I b\/∃k o s n,k∈ab/\obj k=some o/\G k=some (.at b s n)
theorem gx.sub{G:ζ}{obj:S}{ab Lz:Y Nat}{I:Ψ}(h:∀k,k∈ab->k∈Lz):∀b,gx G obj ab I b->gx G obj Lz I b:=by intro b hb;rcases hb with hb|⟨k,o,s,n,h1,h2⟩;exact .inl hb;exact .inr ⟨k,o,s,n,h k h1,h2⟩
section
variable {P:Program} {G:Nat->Option dc} {w:World} {I:Nat->Prop}
theorem d8.drop:∀(n:Nat)(r:Y AV)(c:Array Value)(aa:Nat),d8 P G w I r c aa->d8 P G w I (r.drop n) c (aa+n)
 | 0,_,_,_,h=>by simpa using h
 |n+1,[],_,_,_=>by simp[d8]
 |n+1,x::xs,c,aa,⟨_,h⟩=>by have:=d8.drop n xs c (aa+1) h;rw[show aa+(n+1)=aa+1+n by omega];exact this
theorem d8.take:∀(n:Nat)(r:Y AV)(c:Array Value)(aa:Nat),d8 P G w I r c aa->d8 P G w I (r.take n) c aa
 | 0,_,_,_,_|n+1,[],_,_,_=>by simp[d8]
 |n+1,x::xs,c,aa,⟨h1,h⟩=>⟨h1,d8.take n xs c (aa+1) h⟩
theorem cj.drop:∀(n:Nat)(rs:Y (List AV))(c:Array Value)(aa sz:Nat),cj P G w I rs c aa sz->cj P G w I (rs.drop n) c (aa+n*sz) sz
 | 0,_,_,_,_,h=>by simpa using h
 |n+1,[],_,_,_,_=>by simp[cj]
 |n+1,r::rs,c,aa,sz,⟨_,_,h⟩=>by have:=cj.drop n rs c (aa+sz) sz h;rw[show aa+(n+1)*sz=aa+sz+n*sz by rw[Nat.add_mul];omega];exact this
theorem cj.take:∀(n:Nat)(rs:Y (List AV))(c:Array Value)(aa sz:Nat),cj P G w I rs c aa sz->cj P G w I (rs.take n) c aa sz
 | 0,_,_,_,_,_|n+1,[],_,_,_,_=>by simp[cj]
 |n+1,r::rs,c,aa,sz,⟨h1,h2,h⟩=>⟨h1,h2,cj.take n rs c (aa+sz) sz h⟩
theorem cj.get:∀(i:Nat)(rs:Y (List AV))(c:Array Value)(aa sz:Nat)(r:Y AV),cj P G w I rs c aa sz->rs[i]? =some r->r.length=sz/\d8 P G w I r c (aa+i*sz)
 | 0,r::rs,c,aa,sz,r',⟨h1,h2,_⟩,h=>by simp at h;subst h;exact⟨h1,by simpa using h2⟩
 |i+1,r::rs,c,aa,sz,r',⟨_,_,h3⟩,h=>by have:=cj.get i rs c (aa+sz) sz r' h3 (by simpa using h);rw[show aa+(i+1)*sz=aa+sz+i*sz by rw[Nat.add_mul];omega];exact this
 |_,[],_,_,_,_,_,h=>by simp at h
theorem eL.mL{I':Ψ}{b:Nat}{c:Array Value}{e:E}{f:Nat×Nat}(hI:∀b,I b->I' b)(hc:w.heap[b]? =some (.cells c e f)):∀(r:Y Tree)(aa:Nat),d8 P G w I (r.map AV.t) c aa->eL w I' r b aa
 |[],_,_=>by simp[eL]
 |x::xs,aa,⟨⟨v,h1,h2,_⟩,h3⟩=>by refine⟨⟨v,?_,?_⟩,eL.mL hI hc xs (aa+1) h3⟩;simp[World.cell?,hc,h1];exact TR.mono (λ _ _=>rfl) hI x v h2
theorem cR.mL{I':Ψ}{b:Nat}{c:Array Value}{e:E}{f:Nat×Nat}(hI:∀b,I b->I' b)(hc:w.heap[b]? =some (.cells c e f)):∀(rs:Y (List Tree))(aa sz:Nat),cj P G w I (aJ rs) c aa sz->cR w I' rs b aa sz
 |[],_,_,_=>by simp[cR]
 |r::rs,aa,sz,h=>by exact⟨by simpa using h.1,eL.mL hI hc r aa h.2.1,cR.mL hI hc rs (aa+sz) sz h.2.2⟩
theorem tc.KB{f:FuncId}{first caps:Array Value}{first' pj:Y AV}{Z:Y TV->TV->Prop}(h0:first'=[])(hcall:eH P f)(hgv:lP w I)(hf:br P pb w I first' first.toList)(hc:br P pb w I pj caps.toList)
 (h:∀args r,Z args r->sq P f (first'++args.map TV.av++pj) (.one (.d r))):tc P w I Z (.func (.func f) first caps):=by
 obtain⟨fn,h1,h2,h3⟩:=hcall;have h00:first=#[]:=by
  obtain⟨fs⟩:=first
  cases fs with
  |nil=>rfl
  |cons a b=>rw[h0]at hf;simp[br]at hf
 refine⟨f,first,caps,rfl,h00,λfn' hfn=>?_,by simp[h1],?_⟩;rw[h1]at hfn;cases hfn;exact⟨h2,h3⟩;intro w' I' args vs r hI hS hlt hφ ha;have happ:∀(a b:Y AV)(u v:Y Value),br P pb w' I' a u->br P pb w' I' b v->br P pb w' I' (a++b) (u++v):=by
  intro a
  induction a with
  |nil=>intro b u v h1 h2;cases u with
   |nil=>simpa using h2
   |cons=>simp[br]at h1
  |cons x xs ih=>intro b u v h1 h2;cases u with
   |nil=>simp[br]at h1
   |cons y ys=>simp[br]at h1;simp;exact⟨h1.1,ih _ _ _ h1.2 h2⟩
 have hargs:∀(args:Y TV)(vs:Y Value),oR w' I' args vs->br P pb w' I' (args.map TV.av) vs:=by
  intro args
  induction args with
  |nil=>intro vs h;cases vs with
   |nil=>simp[br]
   |cons=>simp[oR]at h
  |cons x xs ih=>intro vs h;cases vs with
   |nil=>simp[oR]at h
   |cons y ys=>
    simp[oR]at h;refine⟨?_,ih ys h.2⟩;cases x with
    |s x=>simpa[TV.av,VR,vA]using h.1
    |a cs=>
     obtain⟨us,rfl,h5⟩:=h.1;simp only[TV.av,VR];refine⟨us,rfl,?_⟩;have:∀(cs:Y Tree) (us:Y Value),fy w' I' cs us->br P pb w' I' (cs.map AV.t) us:=by
      intro cs
      induction cs with
      |nil=>intro us h;cases us with
       |nil=>simp[br]
       |cons=>simp[fy]at h
      |cons x xs ih=>intro us h;cases us with
       |nil=>simp[fy]at h
       |cons y ys=>simp[fy]at h;simp;exact⟨h.1,ih _ h.2⟩
     exact this cs us.toList h5
 have hm:∀k B,pb k=some B->pb k=some B:=λ_ _ h=>h;have:=(h args r hφ).2 w' I' (first++vs++caps) hlt (hgv.mono hS hI) (by simp only[Array.toList_append];exact happ _ _ _ _ (happ _ _ _ _ (br.mono hm hS hI _ _ hf) (hargs _ _ ha)) (br.mono hm hS hI _ _ hc));exact this
variable {w0:World} {O0:lp} {obj:Nat->Option aN}
theorem gE.rS(h:Mem P w0 O0 G I obj w)(ab:Y Nat){k aa len:Nat}{y:AV}{v:Ω}(hk:k∈ab)(hb:∃o el,obj k=some o/\y=.t (.sl el)/\(o.rows.drop aa).take len=aJ el/\el.length=len)(hv:VR P G w I (.own k aa len) v):VR P pb w (gx G obj ab I) y v:=by obtain⟨o,el,hget,rfl,hrows,hlen⟩:=hb;simp only[VR]at hv |-;rcases hv with ⟨h1,rfl,h2,h3⟩|⟨b,sz,n,cap,a,h1,rfl,h2,h3,h4⟩;exact .inl ⟨eq_nil_of_length_eq_zero (by omega),none,0,rfl,λ_=>rfl⟩;refine .inr ⟨b,a,cap,sz,by rw[hlen],by omega,.inr ⟨k,o,sz,n,hk,hget,h1⟩,?_⟩;by_cases h0:cap=0;have:el=[]:=eq_nil_of_length_eq_zero (by omega);subst this;simp[cR];rw[h4 h0];have⟨B,hB,hO⟩:=h.du k o hget;rw[h1]at hB;cases hB;obtain⟨hs,c,e,hc,_,hO⟩:=hO;have h4:=cj.take len _ _ _ _ (cj.drop aa _ _ _ _ hO);rw[hrows]at h4;exact cR.mL (λ _ h=>.inl h) hc el _ _ h4
mutual
theorem gE.sound(h:Mem P w0 O0 G I obj w)(ab:List Nat):∀(x y:AV)(v:Value),(∀ k,k∈refs x->k∈ab)->gE P obj x y->VR P G w I x v->VR P pb w (gx G obj ab I) y v
 |.t x,y,v,_,hb,hv=>by simp[gE]at hb;subst hb;simp[VR]at hv |-;exact TR.mono (λ _ _=>rfl) (λ _ h=>.inl h) x v hv
 |.agg cs,y,v,hk,hb,hv=>by simp[gE]at hb;obtain⟨cs',rfl,hb⟩:=hb;simp[VR]at hv |-;obtain⟨vs,rfl,hv⟩:=hv;exact⟨vs,rfl,gh.sound h ab cs cs' vs.toList (by simpa[refs]using hk) hb hv⟩
 |.eE _,_,_,_,hb,_=>by simp[gE]at hb
 |.oz k len,y,v,hk,hb,hv=>by rcases hv.xt with ⟨rfl,rfl⟩|⟨_,hv⟩;simp only[gE]at hb;obtain⟨o,el,hget,rfl,hrows,hlen⟩:=hb;simp only[VR,TR];exact .inl ⟨eq_nil_of_length_eq_zero hlen,none,0,rfl,λ_=>rfl⟩;exact gE.rS h ab (hk k (by simp[refs])) (by simpa[gE]using hb) hv
 |.own k aa len,y,v,hk,hb,hv=>gE.rS h ab (hk k (by simp[refs])) (by simpa[gE]using hb) hv
 |.ptr k row aa,y,v,hk,hb,hv=>by simp only[gE]at hb;obtain⟨o,ua,hget,rfl,hrow⟩:=hb;simp[VR]at hv |-;obtain⟨b,sz,n,h1,rfl⟩:=hv;have⟨B,hB,hO⟩:=h.du k o hget;rw[h1]at hB;cases hB;obtain⟨hs,c,e,hc,_,hO⟩:=hO;have h4:=(cj.get row _ _ _ _ _ hO hrow).2;exact⟨b,n.s+row*sz,rfl,.inr ⟨k,o,sz,n,hk k (by simp[refs]),hget,h1⟩,eL.mL (λ _ h=>.inl h) hc ua _ h4⟩
 |.eW r o,y,v,_,hb,hv=>by simp[gE]at hb;subst hb;simp[VR]at hv |-;obtain⟨b,o',h1,h2,h3⟩:=hv;exact⟨b,o',h1,.inl h2,eL.mono (λ _ _=>rfl) (λ _ h=>.inl h) r b o' h2 h3⟩
 |.fn f first caps,y,v,hk,hb,hv=>by
  simp only[gE]at hb;obtain⟨first',pj,hb1,hb2,hy⟩:=hb;simp[VR]at hv;obtain⟨fs,cs,rfl,hv1,hv2⟩:=hv;have h1:=gh.sound h ab first first' fs.toList (λ k hk'=>hk k (by simp[refs,hk'])) hb1 hv1
  have h2:=gh.sound h ab caps pj cs.toList (λ k hk'=>hk k (by simp[refs,hk'])) hb2 hv2;rcases hy with rfl|⟨Z,rfl,h0,hc,hφ⟩;simp only[VR];exact⟨fs,cs,rfl,h1,h2⟩;simp[VR];exact tc.KB h0 hc (h.vars.mono (λ _ _=>rfl) (λ _ h=>.inl h)) h1 h2 hφ
 |.eC Z,y,v,_,hb,hv=>by simp[gE]at hb;subst hb;simp[VR]at hv |-;exact tc.mono (λ _ _=>rfl) (λ _ h=>.inl h) hv
 |.d5,y,v,_,hb,hv=>by simp[gE]at hb;rcases hb with rfl|rfl;simp[VR]at hv |-;simp only[TR];exact .inl ⟨trivial,none,0,hv,λ_=>rfl⟩;simpa[VR]using hv
 |.ub,_,_,_,hb,_|.undef,_,_,_,hb,_=>by simp[gE]at hb
theorem gh.sound(h:Mem P w0 O0 G I obj w)(ab:List Nat):∀(xs ys:List AV)(vs:List Value),(∀ k,k∈dJ xs->k∈ab)->gh P obj xs ys->br P G w I xs vs->br P pb w (gx G obj ab I) ys vs
 |[],[],[],_,_,_=>by simp[br]
 |x::xs,y::ys,v::vs,hk,hb,hv=>by simp[gh]at hb;simp[br]at hv |-;exact⟨gE.sound h ab x y v (λ k hk'=>hk k (by simp[dJ,hk'])) hb.1 hv.1,gh.sound h ab xs ys vs (λ k hk'=>hk k (by simp[dJ,hk'])) hb.2 hv.2⟩
 |[],_::_,_,_,hb,_|_::_,[],_,_,hb,_=>by simp[gh]at hb
 |[],[],_::_,_,_,hv|_::_,_::_,[],_,_,hv=>by simp[br]at hv
end
end
inductive C7 where
 |slice (e:TypeId)
 |arr (n:Nat) (e:TypeId)
 |struct (fs:List (Nat×TypeId))
 |bool
 |str
 |int (k:IntKind)
 |map (k e:TypeId)
 |other
structure p6 where
 size:Nat
 bytes:Nat
 agg:Bool
 zero:List Value
 k:C7
 cmp:List Nat
abbrev eM:=Nat->J p6
def Ys:C7->TypeDesc->Prop
 |.slice e,d=>d=.slice e
 |.arr n e,d=>d=.array n e
 |.struct fs,d=>∃fa:Array Field,d=.struct fa/\fa.toList.map (λ f=>(f.offset,f.type))=fs
 |.bool,d=>d=.bool
 |.str,d=>d=.string
 |.int k,d=>d=.int k
 |.map k e,d=>d=.map k e
 |.other,_=>True
def uk:TypeDesc->Bool
 |.struct _|.array _ _=>true
 |_=>false
def lw:Value->Bool
 |.agg _|.tuple _=>false
 |_=>true
theorem uz{v:Ω}(h:lw v=true):oneCell v:=by cases v<;>first|exact trivial|(simp [lw]at h)
def Wp(P:Q)(f:Field)(kd:Nat):Bool:=
 (f.name != "_") && match P.underlying f.type with
  |some (.int _)=>kd==0
  |some .bool=>kd==1
  |some .string=>kd==2
  |_=>false
def ga(P:Q):Nat->Nat->Y Field->Y Nat->Bool
 |_,_,[],[]=>true
 |m+1,n,f::fs,k::ks=>f.offset==n&&(Wp P f k&&ga P m (n+1) fs ks || match P.underlying f.type,P.info? f.type with
  | some (.struct fa), some info => f.name != "_" && !P.stoodInHeld f.type && ga P m 0 fa.toList ((k :: ks).take info.size) && ga P m (n + info.size) fs ((k :: ks).drop info.size)
  |_,_=>false)
 |_,_,_,_=>false
def uC(agg:Bool):Value->Bool
 |.agg _=>agg
 |.tuple _=>false
 |_=>!agg
structure m4(P:Program)(t:TypeId)(ti:p6):Prop where
 ex:∃info d z,P.info? t=some info/\P.underlying t=some d/\info.size=ti.size/\info.bytes=ti.bytes/\info.zero=some z/\z.cells.toList=ti.zero/\uk d=ti.agg/\Ys ti.k d
 one:ti.zero.all lw=true
 len:ti.zero.length=ti.size
 form:∀info z,P.info? t=some info->info.zero=some z->uC ti.agg z=true
 cmp:ti.cmp≠[]->(∃ fa:Array Field,P.underlying t=some (.struct fa)/\P.stoodInHeld t=false/\P.eqGuardType P.depth t=false/\ga P 99 0 fa.toList ti.cmp=true)\/(ti.cmp=[9]/\P.eqGuardType P.depth t=false)
def fF(P:Q)(T:eM):Prop:=∀t ti,T t=some ti->m4 P t ti
def iZ:Y Prop->Prop
 |[]=>True
 |[p]=>p
 |p::q::r=>p/\iZ (q::r)
structure Out where
 v:AV
 upd:List (Nat×Option aN)
 obs:List Prop
@[reducible] def Out.ob (o:Out):Prop:=iZ o.obs
def cD(i:Nat):Nat:=1000000+64*i
inductive LH where
 |rows (tr:List (List Tree))
 |row (tr:List Tree)
 |fn
 |eC (Z:List TV->TV->Prop)
 |mut (j:Nat)
 |nil
 |emp
 |fnw
 |agw
 |agd
inductive OB where
 |dat (p:Nat×List (List Tree))
 |G2 (hs:List (List LH))
inductive kx where
 |none
 |row (r:List AV)
 |set (r:List AV) (rs:List (List AV))
 |ua (r:List Tree)
 |num (n:Int)
 |rows (rs:List (List AV))
 |Do (rows:List (List Tree))
 |call (hs:List LH) (r:RV) (keep:Bool)
 |G3 (hs:List LH) (args:List TV) (r:TV) (keep:Bool)
 |ext (n:Int)
 |AN (ab:List Nat) (fr:Operand->AV) (cP:kx)
 |vy (ab:List Nat) (os:List (Nat×List (List Tree))) (os':List (Option (Nat×List (List Tree)))) (hs:List LH) (r:RV) (keep:Bool)
 |so (ab dC:List Nat) (bs:List OB) (hs:List LH) (os':List (Nat×aN)) (rv:AV) (keep:Bool)
def pv(v:AV):J Out:=some ⟨v,[],[]⟩
def oy(v:AV)(ob:Prop):J Out:=some ⟨v,[],[ob]⟩
def cv:Value->AV
 |.slice none 0 0=>.d5
 |v=>if lw v then .t (.sc v)else .undef
def m6(env:Nat->AV):Operand->AV
 |.tmp t=>env t
 |.const v=>cv v
 |.global g=>match AK g with
  |some row=>.eW (row.map Tree.sc) 0
  |none=>.undef
 |.func f=>.fn f [] []
def qC:AV->Bool
 |.agg _|.eE _|.undef=>false
 |_=>true
def cellsOf:AV->J (List AV)
 |.agg cs=>if cs.all qC then some cs else none
 |.eE _|.undef=>none
 |x=>some [x]
def part'(agg:Bool)(size:Nat)(cs:Y AV):J AV:=
 if cs.length=size then(if agg then some (.agg cs)else match cs with|[x]=>if qC x then some x else none|_=>none)else none
def put'(r:Y AV)(aa:Nat)(cs:Y AV):Y AV:=r.take aa++cs++r.drop (aa+cs.length)
def Wq(op:BinOp)(k:IntKind)(a b:Int):J (Value×List Prop):=
 match op with
 |.add=>some (.int k (k.wrap (a+b)),[])
 |.sub=>some (.int k (k.wrap (a-b)),[])
 |.mul=>some (.int k (k.wrap (a*b)),[])
 |.quo=>some (.int k (k.wrap (a.tdiv b)),[b≠0])
 |.rem=>some (.int k (a.tmod b),[b≠0])
 |.and=>some (.int k (bits .and k a b),[])
 |.or=>some (.int k (bits .or k a b),[])
 |.xor=>some (.int k (bits .xor k a b),[])
 |.andNot=>some (.int k (bits .andNot k a b),[])
 |.shl=>some (.int k (k.wrap (a*2 ^ b.toNat)),[0<=b/\b<=k.bits])
 |.shr=>some (.int k (a/2 ^ b.toNat),[0<=b/\b<=k.bits])
 |.eql=>some (.bool (a==b),[])
 |.neq=>some (.bool (a !=b),[])
 |.lss=>some (.bool (decide (a<b)),[])
 |.leq=>some (.bool (decide (a<=b)),[])
 |.gtr=>some (.bool (decide (a>b)),[])
 |.geq=>some (.bool (decide (a>=b)),[])
def Iw:Nat->AV->AV->J Bool
 | 0,.t (.sc (.int j a)),.t (.sc (.int k b))=>if j=k then some (a==b)else none
 | 1,.t (.sc (.bool a)),.t (.sc (.bool b))=>some (a==b)
 | 2,.t (.sc (.string a)),.t (.sc (.string b))=>some (a.toList==b.toList)
 |_,_,_=>none
def jh:Y Nat->Y AV->Y AV->J Bool
 |[],[],[]=>some true
 |k::ks,x::xs,y::ys=>(Iw k x y).bind λa=>(jh ks xs ys).bind λb=>some (a&&b)
 |_,_,_=>none
theorem amD:∀xs ys:Y AV,jh [9] xs ys=none:=by intro xs ys;cases xs<;>cases ys<;>simp[jh,Iw]
def zc(T:eM)(op:BinOp)(t:E)(x y:AV):J Out:=
 match x,y with
 |.t (.sc (.int k a)),.t (.sc (.int yk b))=>if k=yk\/op=.shl\/op=.shr then(Wq op k a b).bind λ(v,obs)=>some ⟨.t (.sc v),[],obs⟩else none
 |.t (.sc (.string a)),.t (.sc (.string b))=>match op with
  |.eql=>pv (.t (.sc (.bool (a.toList==b.toList))))
  |.neq=>pv (.t (.sc (.bool (!(a.toList==b.toList)))))
  |.lss=>pv (.t (.sc (.bool (Op.bytesLess a.toList b.toList))))
  |.gtr=>pv (.t (.sc (.bool (!(Op.bytesLess a.toList b.toList || a.toList==b.toList)))))
  |.add=>oy (.t (.sc (.string (a++b)))) (a.size+b.size<=maxLen)
  |_=>none
 |.t (.sc (.bool a)),.t (.sc (.bool b))=>(T t).bind λti=>match ti.k,op with
  |.bool,.eql=>pv (.t (.sc (.bool (a==b))))
  |.bool,.neq=>pv (.t (.sc (.bool (!(a==b)))))
  |_,_=>none
 |.agg xs,.agg ys=>(T t).bind λti=>if ti.cmp=[]then none else(jh ti.cmp xs ys).bind λb=>match op with
  |.eql=>pv (.t (.sc (.bool b)))
  |.neq=>pv (.t (.sc (.bool (!b))))
  |_=>none
 |_,_=>none
def Wk(op:UnOp)(x:AV):J Out:=
 match op,x with
 |.not,.t (.sc (.bool b))=>pv (.t (.sc (.bool (!b))))
 |.neg,.t (.sc (.int k n))=>pv (.t (.sc (.int k (k.wrap (0-n)))))
 |_,_=>none
def EL(mx:Bool)(k:IntKind):Int->Y AV->J Int
 |a,[]=>some a
 |a,.t (.sc (.int k' b))::r=>if k'=k then EL mx k (if mx then max a b else min a b) r else none
 |_,_=>none
def I3(mx:Bool)(args:Y AV):J Out:=
 match args with
 |.t (.sc (.int k a))::r=>(EL mx k a r).bind λn=>pv (.t (.sc (.int k n)))
 |_=>none
def LK(T:eM)(t:E)(x:AV)(cP:kx)(get:S):J Out:=
 (T t).bind λti=>match x with
 |.ptr k row aa=>(get k).bind λo=>match cP with
  |.row r=>(part' ti.agg ti.size ((r.drop aa).take ti.size)).bind λv=>oy v (o.rows[row]? =some r)
  |_=>(o.rows[row]?).bind λr=>(part' ti.agg ti.size ((r.drop aa).take ti.size)).bind pv
 |.eW r aa=>(part' ti.agg ti.size (((r.drop aa).take ti.size).map AV.t)).bind pv
 |_=>none
def Ws(T:eM)(t:E)(x y:AV)(cP:kx)(get:S):J Out:=
 (T t).bind λti=>(cellsOf y).bind λcs=>if cs.length=ti.size then match x with
 |.ptr k row aa=>(get k).bind λo=>match cP with
  |.set r rs=>if aa+cs.length<=r.length then some ⟨.undef,[(k,some ⟨o.sz,rs⟩)],[o.rows[row]? =some r/\rs=dW (o.rows.set row (put' r aa cs))]⟩else none
  |_=>(o.rows[row]?).bind λr=>if aa+cs.length<=r.length then some ⟨.undef,[(k,some ⟨o.sz,o.rows.set row (put' r aa cs)⟩)],[]⟩else none
 |_=>none else none
def AZ(T:eM)(t:E)(f:Nat):J (Nat×p6):=
 (T t).bind λti=>match ti.k with
 |.struct fs=>(fs[f]?).bind λ(aa,u)=>(T u).bind λui=>if ui.size=0 then none else some (aa,ui)
 |_=>none
def zw(T:eM)(t:E)(x:AV)(f:Nat):J Out:=
 (AZ T t f).bind λ(d,_)=>match x with
 |.ptr k row aa=>pv (.ptr k row (aa+d))
 |.eW r aa=>pv (.eW r (aa+d))
 |_=>none
def Wt(T:eM)(t:E)(x:AV)(f:Nat):J Out:=
 (AZ T t f).bind λ(d,ui)=>match x with
 |.agg cs=>(part' ui.agg ui.size ((cs.drop d).take ui.size)).bind pv
 |_=>none
def ny(T:eM)(t:E)(x i:AV)(cP:kx)(get:S):J Out:=
 (T t).bind λti=>match ti.k,i with
 |.slice e,.t (.sc (.int _ n))=>(T e).bind λei=>match x,cP with
  |.t (.sl rows),.ua r=>if r.length=ei.size then oy (.eW r 0) (0<=n/\rows[n.toNat]? =some r)else none
  |.own k aa len,_=>(get k).bind λo=>if o.sz=ei.size then oy (.ptr k (aa+n.toNat) 0) (0<=n/\n.toNat<len)else none
  |_,_=>none
 |.arr m e,.t (.sc (.int _ n))=>(T e).bind λei=>match x with
  |.ptr k row aa=>oy (.ptr k row (aa+n.toNat*ei.size)) (0<=n/\n.toNat<m)
  |.eW r aa=>oy (.eW r (aa+n.toNat*ei.size)) (0<=n/\n.toNat<m)
  |_=>none
 |_,_=>none
def Iy(x:AV)(j:Nat):J Out:=
 match x with
 |.eE vs=>(vs[j]?).bind pv
 |_=>none
def C5(T:eM)(t:E)(x:AV)(cP:kx):J Out:=
 (T t).bind λti=>match ti.k,x,cP with
 |.slice _,.t (.sl rows),.num n=>oy (.t (.sc (.int .i64 n))) (n=(rows.length:Int))
 |.slice _,.own _ _ len,.num n=>oy (.t (.sc (.int .i64 n))) (n=(len:Int))
 |.slice _,.own _ _ len,_=>pv (.t (.sc (.int .i64 (len:Int))))
 |.slice _,.oz _ len,_=>pv (.t (.sc (.int .i64 (len:Int))))
 |.slice _,.d5,_=>pv (.t (.sc (.int .i64 0)))
 |.str,.t (.sc (.string s)),_=>pv (.t (.sc (.int .i64 (s.size:Int))))
 |_,_,_=>none
def Gt(place:Nat->J (Nat×Nat)):Y AV->Y (Nat×AV)->J (List AV)
 |cells,[]=>some cells
 |cells,(j,x)::ae=>(place j).bind λ(aa,size)=>(cellsOf x).bind λcs=>
  if cs.length=size/\aa+cs.length<=cells.length then Gt place (put' cells aa cs) ae else none
def Wu(T:eM)(t:E)(parts:Y (Nat×AV)):J Out:=
 (T t).bind λti=>match ti.k with
 |.struct fs=>if fs.all (λ p=>(T p.2).isSome)then
  (Gt (λ j=>(fs[j]?).bind λp=>(T p.2).bind λui=>some (p.1,ui.size)) (ti.zero.map cv) parts).bind λcells=>pv (.agg cells)else none
 |.arr _ e=>(T e).bind λei=>(Gt (λ j=>some (j*ei.size,ei.size)) (ti.zero.map cv) parts).bind λcells=>pv (.agg cells)
 |_=>none
def NH(size:Nat):Y (List AV)->Y (Nat×AV)->J (List (List AV))
 |rows,[]=>some rows
 |rows,(j,x)::ae=>(cellsOf x).bind λcs=>if cs.length=size/\j<rows.length then NH size (rows.set j cs) ae else none
def xH(T:eM)(i:Nat)(t:E)(len:Nat)(parts:Y (Nat×AV))(kp:Bool:=false):J Out:=
 (T t).bind λti=>match ti.k with
 |.slice e=>(T e).bind λei=>if ei.size=0\/len*ei.size>2 ^ 24 then none else
  (NH ei.size (List.replicate len (ei.zero.map cv)) parts).bind λrows=>some ⟨.own (cD i) 0 len,[(cD i,some ⟨ei.size,if kp then rows else dW rows⟩)],[]⟩
 |_=>none
def Wv(T:eM)(i:Nat)(e:E):J Out:=
 (T e).bind λti=>some ⟨.ptr (cD i) 0 0,[(cD i,some ⟨ti.size,[ti.zero.map cv]⟩)],[]⟩
def Pl(i:Nat)(x:AV):J Out:=
 (cellsOf x).bind λcs=>some ⟨.ptr (cD i) 0 0,[(cD i,some ⟨cs.length,[cs]⟩)],[]⟩
def bnd(d:Int):J AV->J Int
 |none=>some d
 |some (.t (.sc (.int _ n)))=>some n
 |_=>none
def Ww(T:eM)(t:E)(x:AV)(lo hi:J AV)(cP:kx)(get:S):J Out:=
 (T t).bind λti=>match ti.k with
 |.slice e=>(T e).bind λei=>match x with
  |.own k aa len=>(get k).bind λo=>if o.sz=ei.size then(bnd 0 lo).bind λl=>(bnd len hi).bind λh=>
   oy (.own k (aa+l.toNat) (h.toNat-l.toNat)) (0<=l/\l<=h/\h<=(len:Int))else none
  |.t (.sl rows)=>match cP with
   |.Do rs=>(bnd 0 lo).bind λl=>(bnd rows.length hi).bind λh=>
    oy (.t (.sl rs)) (0<=l/\l<=h/\h<=(rows.length:Int)/\rs=(rows.drop l.toNat).take (h.toNat-l.toNat)/\(∀ r∈rows,r.length=ei.size))
   |_=>none
  |_=>none
 |_=>none
def Wx(size:Nat)(y:AV)(get:S):J (Nat×Prop×List (List AV)):=
 match y with
 |.own k aa len=>(get k).bind λo=>if o.sz=size then some (len,True,(o.rows.drop aa).take len)else none
 |.t (.sl rows)=>some (rows.length,∀r∈rows,r.length=size,aJ rows)
 |_=>none
def A7(T:eM)(i:Nat)(t:E)(x y:AV)(cP:kx)(get:S):J Out:=
 (T t).bind λti=>match ti.k with
 |.slice e=>(T e).bind λei=>match cP with
  |.rows rs=>(Wx ei.size y get).bind λ(n,ob,al)=>match x with
   |.own k aa len=>(get k).bind λo=>if o.sz=ei.size then
    some ⟨.own (cD i) 0 rs.length,[(cD i,some ⟨ei.size,rs⟩),(k,none)],[ob/\(o.rows.drop aa).length=len/\al.length=n/\rs=o.rows.drop aa++al/\(len+n)*ei.bytes<=140737488355328/\len+n<=maxLen]⟩else none
   |.d5=>some ⟨.own (cD i) 0 rs.length,[(cD i,some ⟨ei.size,rs⟩)],[ob/\al.length=n/\rs=al/\n*ei.bytes<=140737488355328/\n<=maxLen]⟩
   |_=>none
  |_=>none
 |_=>none
def Dq(T:eM)(i:Nat)(b:Builtin)(args:Y AV)(ej:Y TypeId)(cP:kx)(get:S):J Out:=
 match b,args,ej with
 |.len,[x],[t]=>C5 T t x cP
 |.max,args,_=>I3 true args
 |.min,args,_=>I3 false args
 |.append,[x,y],[t,u]=>if t=u then A7 T i t x y cP get else none
 |_,_,_=>none
def P3(t:Bool)(x y:AV):AV:=
 match x,y with
 |.t (.sc (.bool p)),.t (.sc (.bool q))=>.t (.sc (.bool (bif t then p else q)))
 |.t (.sc (.int k p)),.t (.sc (.int k' q))=>if k=k' then .t (.sc (.int k (bif t then p else q)))else bif t then x else y
 |_,_=>bif t then x else y
theorem Wy(t:Bool)(x y:AV):P3 t x y=if t=true then x else y:=by unfold P3;split;cases t<;>rfl;split;rename_i h;subst h;cases t<;>rfl;cases t<;>rfl;cases t<;>rfl
def rO(T:eM)(i:Nat)(o:Oper)(cP:kx)(ρ:Operand->AV)(get:S):J Out:=
 match o.op with
 |.move x=>pv (ρ x)
 |.assign x=>pv (ρ x)
 |.pick c a b=>match ρ c with|.t (.sc (.bool t))=>pv (P3 t (ρ a) (ρ b))|_=>none
 |.alloc e=>Wv T i e
 |.box _ x=>Pl i (ρ x)
 |.build t parts=>Wu T t (parts.toList.map λ(j,x)=>(j,ρ x))
 |.buildSlice t len parts=>xH T i t len (parts.toList.map λ(j,x)=>(j,ρ x)) (match cP with|.row _=>true|_=>false)
 |.load t a=>LK T t (ρ a) cP get
 |.store t a x=>Ws T t (ρ a) (ρ x) cP get
 |.binOp op t x y _=>zc T op t (ρ x) (ρ y)
 |.unOp op _ x=>Wk op (ρ x)
 |.makeFunc (.func f) first caps=>pv (.fn f (first.toList.map ρ) (caps.toList.map ρ))
 |.slice t x lo hi none=>Ww T t (ρ x) (lo.map ρ) (hi.map ρ) cP get
 |.fieldAddr t x f=>zw T t (ρ x) f
 |.field t x f=>Wt T t (ρ x) f
 |.indexAddr t x j=>ny T t (ρ x) (ρ j) cP get
 |.extract x j=>Iy (ρ x) j
 |.call { callee:=.builtin b,args:=args,argTypes:=ej }=>Dq T i b (args.toList.map ρ) ej.toList cP get
 |_=>none
def tM(P:Q)(w0:M)(O0:lp)(G:ζ)(I:Ψ)(obj:S)(w:M)(i:Nat)(out:Out)(r:Result Next):Prop:=
 ∃v' w' β' I',(r=.ok (.value v') w'\/(r=.ok .skip w'/\v'=undef))/\Step G I w (cD i) β' I' w'/\Mem P w0 O0 β' I' (bX obj out.upd) w'/\VR P β' w' I' out.v v'
section
variable {P:Program} {T:eM} {w0:World} {O0:lp} {G:Nat->Option dc} {I:Nat->Prop} {obj:Nat->Option aN} {w:World} {i:Nat}
theorem tM.pure(h:Mem P w0 O0 G I obj w){x:AV}{ob:Y Prop}{v:Ω}(hv:VR P G w I x v):tM P w0 O0 G I obj w i ⟨x,[],ob⟩ (.ok (.value v) w):=
 ⟨v,w,G,I,.inl rfl,Step.refl ..,h,hv⟩
theorem br.length:∀(xs:Y AV)(vs:Y Value),br P G w I xs vs->vs.length=xs.length
 |[],[],_=>rfl
 |x::xs,v::vs,h=>by simp[br]at h;simp[br.length xs vs h.2]
 |[],_::_,h|_::_,[],h=>by simp[br]at h
theorem br.get:∀(xs:Y AV)(vs:Y Value)(j:Nat)(x:AV),br P G w I xs vs->xs[j]? =some x->∃v,vs[j]? =some v/\VR P G w I x v
 |x::xs,v::vs,0,x',h,hj=>by grind [br]
 |x::xs,v::vs,j+1,x',h,hj=>by simp[br]at h;simpa using br.get xs vs j x' h.2 (by simpa using hj)
 |[],_,_,_,_,hj=>by simp at hj
 |_::_,[],_,_,h,_=>by simp[br]at h
theorem br.take:∀(n:Nat)(xs:Y AV)(vs:Y Value),br P G w I xs vs->br P G w I (xs.take n) (vs.take n)
 | 0,_,_,_|n+1,[],[],_=>by simp[br]
 |n+1,x::xs,v::vs,h=>by simp[br]at h;simp;exact⟨h.1,br.take n xs vs h.2⟩
 |_+1,[],_::_,h|_+1,_::_,[],h=>by simp[br]at h
theorem br.drop:∀(n:Nat)(xs:Y AV)(vs:Y Value),br P G w I xs vs->br P G w I (xs.drop n) (vs.drop n)
 | 0,_,_,h=>by simpa using h
 |n+1,[],[],_=>by simp[br]
 |n+1,x::xs,v::vs,h=>by simp[br]at h;simpa using br.drop n xs vs h.2
 |_+1,[],_::_,h|_+1,_::_,[],h=>by simp[br]at h
theorem br.append:∀(xs ys:Y AV)(us vs:Y Value),br P G w I xs us->br P G w I ys vs->br P G w I (xs++ys) (us++vs)
 |[],ys,[],vs,_,h=>by simpa using h
 |x::xs,ys,u::us,vs,h1,h2=>by simp[br]at h1;simp;exact⟨h1.1,br.append xs ys us vs h1.2 h2⟩
 |[],_,_::_,_,h,_|_::_,_,[],_,h,_=>by simp[br]at h
theorem VR.one{x:AV}{v:Ω}(hx:qC x=true)(h:VR P G w I x v):oneCell v:=by
 cases x<;>simp only[VR]at h
 case t x=>
  cases x with
  |sc u=>simp[TR]at h;rw[h.1];exact h.2
  |sl rows=>simp only[TR]at h;rcases h with ⟨_,_,_,rfl,_⟩|⟨b,aa,cap,sz,rfl,_⟩<;>exact trivial
 case agg=>simp[qC]at hx
 case eE=>simp[qC]at hx
 case own k aa len=>rcases h with ⟨_,rfl,_⟩|⟨b,sz,n,cap,a,_,rfl,_⟩<;>exact trivial
 case ptr=>obtain⟨b,sz,n,_,rfl⟩:=h;exact trivial
 case eW=>obtain⟨b,o,rfl,_⟩:=h;exact trivial
 case fn=>obtain⟨fs,cs,rfl,_⟩:=h;exact trivial
 case eC=>obtain⟨f,a,b,rfl,_⟩:=h;exact trivial
 case mp=>obtain⟨b,_,rfl⟩:=h;exact trivial
 case oz=>rcases h with ⟨_,rfl⟩|⟨_,b,sz,n,cap,a,_,rfl,_⟩<;>exact trivial
 case d5=>subst h;exact trivial
 case ub=>obtain⟨b,rfl⟩:=h;exact trivial
 case undef=>simp[qC]at hx
theorem cells_one{v:Ω}(h:oneCell v):v.cells=#[v]:=by cases v<;>first|rfl|exact h.elim
theorem BR{x:AV}{cs:Y AV}{v:Ω}(hc:cellsOf x=some cs)(h:VR P G w I x v):br P G w I cs v.cells.toList/\(∀ u∈v.cells.toList,oneCell u):=by
 have single:qC x=true->cs=[x]->br P G w I cs v.cells.toList/\(∀ u∈v.cells.toList,oneCell u):=λhk e=>by have h1:=VR.one hk h;rw[cells_one h1,e];simp only[br];exact⟨⟨h,trivial⟩,λu hu=>by simp at hu;rw[hu];exact h1⟩
 cases x<;>simp only[cellsOf,bK,reduceCtorEq]at hc
 case agg cs'=>
  split at hc;injection hc with hc;subst hc;rename_i hall;simp[VR]at h;obtain⟨vs,rfl,hvs⟩:=h;refine⟨hvs,λu hu=>?_⟩;obtain⟨j,hj⟩:=List.getElem?_of_mem hu;have hlen:=br.length _ _ hvs;have hjl:j<cs'.length:=by have:=(bU.1 hj).1;simp only[Value.cells]at this;omega
  obtain⟨u',hu',hv'⟩:=br.get _ _ j _ hvs (dI hjl);simp only[Value.cells]at hj;rw[hj]at hu';injection hu' with hu';subst hu';exact VR.one (all_eq_true.1 hall _ (List.getElem_mem hjl)) hv';cases hc
 all_goals exact single rfl hc.symm
theorem VR.cv{v:Ω}:VR P G w I (cv v) v:=by unfold Gb.cv;split;simp[VR];split;rename_i h;simp only[VR,TR];exact⟨trivial,uz h⟩;simp[VR]
theorem br.cv:∀(vs:Y Value),br P G w I (vs.map cv) vs
 |[]=>by simp[br]
 |v::vs=>by simp;exact⟨VR.cv,br.cv vs⟩
theorem d8.pP(cs:Y AV)(vs:Y Value)(c:Array Value)(aa:Nat)(h:br P G w I cs vs)(h1:∀u∈vs,oneCell u)(hc:∀j u,vs[j]? =some u->c[aa+j]? =some u):d8 P G w I cs c aa:=by rw[jO];intro j x hx;obtain⟨v,hv,hr⟩:=br.get _ _ j x h hx;exact⟨v,hc j v hv,hr,h1 v (bT hv)⟩
theorem d8.list:∀(cs:Y AV)(c:Array Value)(aa:Nat),d8 P G w I cs c aa->∃vs:Y Value,br P G w I cs vs/\(∀ u∈vs,oneCell u)/\∀j u,vs[j]? =some u->c[aa+j]? =some u
 |[],_,_,_=>⟨[],by simp[br],by simp,by simp⟩
 |x::xs,c,aa,⟨⟨v,h1,h2,h3⟩,h4⟩=>by
  have⟨vs,g1,g2,g3⟩:=d8.list xs c (aa+1) h4;refine⟨v::vs,by simp[br];exact⟨h2,g1⟩,λu hu=>?_,λj u hj=>?_⟩
  all_goals grind
theorem eL.list:∀(cs:Y Tree)(b aa:Nat),eL w I cs b aa->∃vs:Y Value,br P G w I (cs.map AV.t) vs/\∀j u,vs[j]? =some u->w.cell? ⟨b,aa+j,none⟩=some u
 |[],_,_,_=>⟨[],by simp[br],by simp⟩
 |x::xs,b,aa,h=>by
  obtain⟨⟨v,h1,h2⟩,h4⟩:=h;have⟨vs,g1,g3⟩:=eL.list xs b (aa+1) h4;refine⟨v::vs,by simp;exact⟨h2,g1⟩,λj u hj=>?_⟩
  grind
theorem Ms{agg:Bool}{size:Nat}{cs:Y AV}{v:AV}{vs:Y Value}(hp:part' agg size cs=some v)(h:br P G w I cs vs):cs.length=size/\vs.length=size/\
 (agg=true->VR P G w I v (.agg vs.toArray))/\(agg=false->∃u,vs=[u]/\VR P G w I v u):=by
 unfold part' at hp;split at hp;rename_i hl;have hl2:=br.length _ _ h;refine⟨hl,by omega,?_,?_⟩;rintro rfl;simp at hp;subst hp;exact⟨vs.toArray,rfl,h⟩;rintro rfl;simp at hp;split at hp;split at hp;cases hp
 match vs,h with
 |[u],h=>simp only[br]at h;exact⟨u,rfl,h.1⟩
 |[],h|_::_::_,h=>simp[br]at h
 cases hp;cases hp;cases hp
section types
variable {t:TypeId} {ti:p6} (ht:m4 P t ti)
include ht
theorem m4.size:(sizeOf t).run P w=.ok ti.size w:=by obtain⟨info,d,z,h1,h2,h3,h4,h5,h6,h7,h8⟩:=ht.ex;simp[sizeOf,typeInfo,h1,h3]
theorem m4.agg:(isAgg t).run P w=.ok ti.agg w:=by obtain⟨info,d,z,h1,h2,h3,h4,h5,h6,h7,h8⟩:=ht.ex;rw[<- h7];cases d<;>simp[isAgg,run_underlying h2,uk]
theorem m4.zeroV:∃z,(zeroValue t).run P w=.ok z w/\z.cells.toList=ti.zero:=by obtain⟨info,d,z,h1,h2,h3,h4,h5,h6,h7,h8⟩:=ht.ex;exact⟨z,by simp[zeroValue,typeInfo,h1,h5],h6⟩
end types
theorem addr_add(b o n:Nat):(⟨b,o,none⟩:Addr).add n=⟨b,o+n,none⟩:=by unfold Addr.add;split<;>simp_all
theorem Iz{t:E}{ti:p6}(ht:m4 P t ti){b o:Nat}{cs:Y AV}{v:AV}{vs:Y Value}(hp:part' ti.agg ti.size cs=some v)(hr:br P G w I cs vs)
 (hc:∀j u,vs[j]? =some u->w.cell? ⟨b,o+j,none⟩=some u):∃u,(loadVar t ⟨b,o,none⟩).run P w=.ok u w/\VR P G w I v u:=by
 have⟨h1,h2,h3,h4⟩:=Ms hp hr;simp[loadVar,ht.agg (w:=w)];cases hag:ti.agg with
 |true=>
  refine⟨.agg vs.toArray,?_,h3 hag⟩;simp[ht.size (w:=w)];rw[<- h2,run_loadCells_list w ⟨b,o,none⟩ vs (λ j u hj=>by rw[addr_add];exact hc j u hj)];simp
 |false=>
  obtain⟨u,rfl,hu⟩:=h4 hag;refine⟨u,?_,hu⟩;have:=hc 0 u rfl;simp at this;simp[this]
theorem Td(hT:fF P T)(h:Mem P w0 O0 G I obj w){t:E}{x:AV}{cP:kx}{get:S}{out:Out}{v:Ω}(hg:∀k o,get k=some o->obj k=some o)
 (ha:LK T t x cP get=some out) (df:out.ob) (hx:VR P G w I x v):∃u,(Instr.loadAt t v).run P w=.ok u w/\VR P G w I out.v u/\out.upd=[]:=by
 unfold LK at ha;cases hti:T t with
 |none=>simp[hti]at ha
 |some ti=>
  have ht:=hT t ti hti;simp only[hti,ai]at ha;cases x<;>simp only[reduceCtorEq]at ha
  case ptr k row aa=>
   cases hk:get k with
   |none=>simp[hk]at ha
   |some o=>
    simp[hk]at ha;have key:∀r,o.rows[row]? =some r->∀u,part' ti.agg ti.size ((r.drop aa).take ti.size)=some u->∃z,(Instr.loadAt t v).run P w=.ok z w/\VR P G w I u z:=(by intro r hr u hp;simp[VR]at hx;obtain⟨b,sz,n,h1,rfl⟩:=hx;have⟨B,hB,hO⟩:=h.du k o (hg k o hk);rw[h1]at hB;cases hB;obtain⟨hs,c,e,hc,_,hO⟩:=hO;have h4:=(cj.get row _ _ _ _ _ hO hr).2;obtain⟨vs,g1,g2,g3⟩:=d8.list _ _ _ (d8.take ti.size _ _ _ (d8.drop aa _ _ _ h4));obtain⟨z,hz,hz2⟩:=Iz ht (b:=b) (o:=n.s+row*sz+aa) hp g1 (λ j u hj=>by simp[World.cell?,hc,g3 j u hj]);exact⟨z,by simp[Instr.loadAt,Instr.sureAddr,hz],hz2⟩);have fin:∀r ob,o.rows[row]? =some r->((part' ti.agg ti.size ((r.drop aa).take ti.size)).bind λv=>some (⟨v,[],ob⟩:Out))=some out->∃u,(Instr.loadAt t v).run P w=.ok u w/\VR P G w I out.v u/\out.upd=[]:=by
     intro r ob hr hh;cases hp:part' ti.agg ti.size ((r.drop aa).take ti.size)with
     |none=>simp[hp]at hh
     |some u=>
      simp[hp]at hh;subst hh;have⟨z,hz⟩:=key r hr u hp;exact⟨z,hz.1,hz.2,rfl⟩
    cases cP
    case row r=>
     have hr:o.rows[row]? =some r:=by
      cases hp:part' ti.agg ti.size ((r.drop aa).take ti.size)with
      |none=>simp[hp]at ha
      |some u=>simp[hp,oy]at ha;subst ha;exact df
     exact fin r _ hr ha
    all_goals
     cases hr:o.rows[row]? with
     |none=>simp[hr]at ha
     |some r=>
      simp[hr]at ha;exact fin r _ hr ha
  case eW r aa=>
   cases hp:part' ti.agg ti.size (((r.drop aa).take ti.size).map AV.t)with
   |none=>rw[hp]at ha;simp at ha
   |some u=>
    simp only[hp,ai,pv,bK]at ha;subst ha;simp[VR]at hx;obtain⟨b,o,rfl,hI,hr⟩:=hx;have hdrop:∀(n:Nat) (r:Y Tree) (o:Nat),eL w I r b o->eL w I (r.drop n) b (o+n):=by
     intro n
     induction n with
     |zero=>intro r o h;simpa using h
     |succ n ih=>intro r o h;cases r with
      |nil=>simp[eL]
      |cons x xs=>simp[eL]at h;rw[List.drop_succ_cons,show o+(n+1)=o+1+n by omega];exact ih xs (o+1) h.2
    have htake:∀(n:Nat) (r:Y Tree) (o:Nat),eL w I r b o->eL w I (r.take n) b o:=by
     intro n
     induction n with
     |zero=>intro r o h;simp[eL]
     |succ n ih=>intro r o h;cases r with
      |nil=>simp[eL]
      |cons x xs=>simp[eL]at h;simp;exact⟨h.1,ih xs (o+1) h.2⟩
    obtain⟨vs,g1,g3⟩:=eL.list (P:=P) (G:=G) _ _ _ (htake ti.size _ _ (hdrop aa r o hr));have⟨z,hz,hz2⟩:=Iz ht (b:=b) (o:=o+aa) hp g1 g3;exact⟨z,by simp[Instr.loadAt,Instr.sureAddr,hz],hz2,rfl⟩
theorem aeG(r:Y AV)(aa:Nat)(cs:Y AV)(h:aa+cs.length<=r.length):(put' r aa cs).length=r.length:=by simp[put'];omega
theorem amF(r:Y AV)(aa:Nat)(cs:Y AV)(h:aa+cs.length<=r.length)(j:Nat):(put' r aa cs)[j]? =if j<aa then r[j]? else if j<aa+cs.length then cs[j-aa]? else r[j]? :=by
 unfold put'
 all_goals grind
theorem Qz(h:Mem P w0 O0 G I obj w){t:E}{ti:p6}(ht:m4 P t ti){k:Nat}{o:aN}{b sz:Nat}{n:Ex}(hk:obj k=some o)(hβ:G k=some (.at b sz n))
 {row aa:Nat} {r:Y AV} {cs:Y AV} {v:Ω} (hr:o.rows[row]? =some r) (hl:aa+cs.length<=r.length) (hlen:cs.length=ti.size) (hcs:br P G w I cs v.cells.toList) (h1:∀u∈v.cells.toList,oneCell u):
 ∃w',(storeVar t ⟨b,n.s+row*sz+aa,none⟩ v).run P w=.ok () w'/\Same I w w'/\Mem P w0 O0 G I (bX obj [(k,some ⟨o.sz,o.rows.set row (put' r aa cs)⟩)]) w':=by
 have⟨B,hB,hO⟩:=h.du k o hk;rw[hβ]at hB;cases hB;obtain⟨hs,c,e,hc,hn,hO⟩:=hO;have hO':=hO;rw[pW]at hO;have hrow:=hO row r hr;have hvl:=br.length _ _ hcs;have hfit:n.s+row*sz+aa+cs.length<=c.size:=by
  by_cases h0:r.length=0;have:aa+cs.length=0:=by omega
  have hz:sz=0:=by omega
  have:row*sz=0:=by rw[hz];simp
  have:=n.h;omega;have hlast:=(jO _ _ _).1 hrow.2 (r.length-1) _ (dI (by omega));obtain⟨u,hu,_⟩:=hlast;have:=(Array.getElem?_eq_some_iff.1 hu).1;omega
 have hst:=run_storeCells_at P b (n.s+row*sz+aa) e v.cells.toList 0 c w hc (by omega) (λ u hu=>by have:=h1 u hu;cases u<;>first|rfl|exact this.elim);simp only[Nat.add_zero]at hst;generalize hc':(List.take (n.s+row*sz+aa) c.toList++v.cells.toList++List.drop (n.s+row*sz+aa+v.cells.toList.length) c.toList).toArray=c' at hst;have hsize:c'.size=c.size:=by rw[<- hc'];simp;simp at hvl;omega
 refine⟨w.setRow b c',?_,?_⟩;unfold storeVar;simp only[Sem.run_bind,ht.size (w:=w),Result.andThen_ok];rw[aM (by rw[<- Array.length_toList];omega)];simp[hst];have hget:∀j,c'[j]? =if j<n.s+row*sz+aa then c[j]? else if j<n.s+row*sz+aa+cs.length then v.cells.toList[j-(n.s+row*sz+aa)]? else c[j]? :=by
  intro j;rw[<- hc'];have h1:(c.toList.take (n.s+row*sz+aa)).length=n.s+row*sz+aa:=by simp;omega
  simp only[List.getElem?_toArray];split;rw[aU,List.getElem?_append_left (by omega),List.getElem?_take,aP (by omega)];simp;split;rw[aU,qj (by omega),h1,List.getElem?_append_left (by omega)];rw[qj (by simp only[eU,h1];omega)];simp only[eU,h1,List.getElem?_drop,Array.getElem?_toList];congr 1;omega
 refine Mem.write h hk hβ (c':=c') (e:=e) (setRow_heap w b c c' e (0,0) hc) (λ b' hb=>setRow_other w b b' c' hb) (by simp) rfl rfl rfl hs (by omega) ?_;rw[<- hs,pW];simp;intro i' r' hi';rw[List.getElem?_set]at hi';have other:∀(i':Nat)(r':Y AV),i'≠row->o.rows[i']? =some r'->r'.length=sz/\d8 P G w I r' c' (n.s+i'*sz):=by
  intro i' r' hne hi';have hh:=hO i' r' hi';refine⟨hh.1,?_⟩;rw[jO];intro j x hx;obtain⟨u,hu⟩:=(jO _ _ _).1 hh.2 j x hx;have hj:j<sz:=by have:=(bU.1 hx).1;omega
  refine⟨u,?_,hu.2⟩;rw[hget];rcases Nat.lt_or_gt_of_ne hne with hlt|hgt;have:(i'+1)*sz<=row*sz:=Nat.mul_le_mul_right _ hlt;rw[Nat.add_mul]at this;rw[aP (by omega)];exact hu.1;have:(row+1)*sz<=i'*sz:=Nat.mul_le_mul_right _ hgt;rw[Nat.add_mul]at this;rw[aM (by omega),aM (by omega)];exact hu.1
 split at hi';rename_i hrow';subst hrow';split at hi';injection hi' with hi';subst hi';refine⟨by rw[aeG r aa cs hl];exact hrow.1,?_⟩;rw[jO];intro j x hx;rw[amF r aa cs hl]at hx;rw[hget];split at hx;rw[aP (by omega)];exact(jO _ _ _).1 hrow.2 j x hx;split at hx;obtain⟨u,hu,hr2⟩:=br.get _ _ _ _ hcs hx;rw[aM (by omega),aP (by omega)];refine⟨u,?_,hr2,h1 u (bT hu)⟩;rw[<- hu];congr 1;omega;rw[aM (by omega),aM (by omega)];exact(jO _ _ _).1 hrow.2 j x hx;cases hi';exact other i' r' (by omega) hi'
theorem acQ(hT:fF P T)(h:Mem P w0 O0 G I obj w){t:E}{x y:AV}{cP:kx}{get:S}{out:Out}{v u:Ω}(hg:∀k o,get k=some o->obj k=some o)
 (ha:Ws T t x y cP get=some out) (df:out.ob) (hx:VR P G w I x v) (hy:VR P G w I y u):
 ∃w',(Instr.storeAt t v u).run P w=.ok () w'/\Same I w w'/\Mem P w0 O0 G I (bX obj out.upd) w'/\out.v=.undef:=by
 unfold Ws at ha;cases hti:T t with
 |none=>simp[hti]at ha
 |some ti=>
  have ht:=hT t ti hti;simp[hti]at ha;cases hcs:cellsOf y with
  |none=>simp[hcs]at ha
  |some cs=>
   simp only[hcs,ai]at ha;have⟨hv1,hv2⟩:=BR hcs hy;split at ha;rename_i hlen;cases x<;>simp at ha
   case ptr k row aa=>
    cases hk:get k with
    |none=>simp[hk]at ha
    |some o=>
     simp[hk]at ha;simp[VR]at hx;obtain⟨b,sz,n,hβ,rfl⟩:=hx;have fin:∀r,o.rows[row]? =some r->aa+cs.length<=r.length->∃w',(Instr.storeAt t (.pointer (some ⟨b,n.s+row*sz+aa,none⟩)) u).run P w=.ok () w'/\Same I w w'/\Mem P w0 O0 G I (bX obj [(k,some ⟨o.sz,o.rows.set row (put' r aa cs)⟩)]) w':=(by intro r hr hl;have⟨w',h1,h2,h3⟩:=Qz h ht (hg k o hk) hβ hr hl hlen hv1 hv2;exact⟨w',by simp[Instr.storeAt,Instr.sureAddr,h1],h2,h3⟩);cases cP
     case set r rs=>
      simp only at ha;split at ha;rename_i hl;cases ha;obtain⟨hr,hrs⟩:=df;have⟨w',h1,h2,h3⟩:=fin r hr hl;subst hrs;exact⟨w',h1,h2,h3.zE,rfl⟩;cases ha
     all_goals
      cases hr:o.rows[row]? with
      |none=>simp[hr]at ha
      |some r=>
       simp only[hr,ai]at ha;split at ha;rename_i hl;cases ha;have⟨w',h1,h2,h3⟩:=fin r hr hl;exact⟨w',h1,h2,h3,rfl⟩;cases ha
   cases ha
end
section
variable {P:Program} {T:eM} {w0:World} {O0:lp} {G:Nat->Option dc} {I:Nat->Prop} {obj:Nat->Option aN} {w:World} {i:Nat}
theorem NI(h:Mem P w0 O0 G I obj w)(hn:G (cD i)=none){e:E}{v:Ω}{cs:Y AV}(hcs:br P G w I cs v.cells.toList)(h1:∀u∈v.cells.toList,oneCell u):
 ∃w' β',(newVar e v).run P w=.ok ⟨w.heap.size,0,none⟩ w'/\Step G I w (cD i) β' I w'/\Mem P w0 O0 β' I (bX obj [(cD i,some ⟨cs.length,[cs]⟩)]) w'/\VR P β' w' I (.ptr (cD i) 0 0) (.pointer (some ⟨w.heap.size,0,none⟩)):=by obtain⟨hS,hM⟩:=Mem.alloc (o:=⟨cs.length,[cs]⟩) (c:=v.cells) (e:=e) h hn (by simp[cj];exact d8.pP cs _ _ 0 hcs h1 (λ j u hj=>by simpa using hj));refine⟨_,_,?_,hS,hM,?_⟩;simp only[newVar,newRow,Sem.run_bind,run_newObj,Result.andThen_ok,Sem.run_pure];rfl;simp;exact⟨w.heap.size,cs.length,_,by simp[ins];rfl,by simp⟩
theorem acR(hT:fF P T)(h:Mem P w0 O0 G I obj w)(hn:G (cD i)=none){e:E}{out:Out}(ha:Wv T i e=some out):
 ∃u w' β',(Instr.alloc e true (.tuple #[])).run P w=.ok u w'/\Step G I w (cD i) β' I w'/\Mem P w0 O0 β' I (bX obj out.upd) w'/\VR P β' w' I out.v u:=by
 unfold Wv at ha;cases hti:T e with
 |none=>simp[hti]at ha
 |some ti=>
  have ht:=hT e ti hti;simp[hti]at ha;subst ha;have⟨z,hz,hz2⟩:=ht.zeroV (w:=w);obtain⟨w',β',h1,h2,h3,h4⟩:=NI (i:=i) (e:=e) (v:=z) (cs:=ti.zero.map cv) h hn (by rw[hz2];exact br.cv _) (λ u hu=>uz (all_eq_true.1 ht.one u (hz2 ▸ hu)));have hl:(ti.zero.map cv).length=ti.size:=by simp[ht.len]
  rw[hl]at h3;exact⟨_,w',β',by simp[Instr.alloc,hz,h1],h2,h3,h4⟩
theorem ahF(h:Mem P w0 O0 G I obj w)(hn:G (cD i)=none){e:E}{x:AV}{v:Ω}{out:Out}(ha:Pl i x=some out)(hx:VR P G w I x v):
 ∃u w' β',(Instr.box e v).run P w=.ok u w'/\Step G I w (cD i) β' I w'/\Mem P w0 O0 β' I (bX obj out.upd) w'/\VR P β' w' I out.v u:=by
 unfold Pl at ha;cases hcs:cellsOf x with
 |none=>simp[hcs]at ha
 |some cs=>
  simp[hcs]at ha;subst ha;have⟨hv1,hv2⟩:=BR hcs hx;have⟨w',β',h1,h2,h3,h4⟩:=NI (i:=i) (e:=e) h hn hv1 hv2;exact⟨_,w',β',by simp[Instr.box,h1],h2,h3,h4⟩
theorem aeH(hT:fF P T){t:E}{f aa:Nat}{ui:p6}(hf:AZ T t f=some (aa,ui)):
 ∃(fa:Array Field)(fd:Field),P.underlying t=some (.struct fa)/\fa[f]? =some fd/\fd.offset=aa/\m4 P fd.type ui/\ui.size≠0:=by
 unfold AZ at hf;cases hti:T t with
 |none=>simp[hti]at hf
 |some ti=>
  have ht:=hT t ti hti;simp[hti]at hf;cases hk:ti.k<;>simp[hk]at hf
  case struct fs=>
   cases hj:fs[f]? with
   |none=>simp[hj]at hf
   |some p=>
    obtain⟨o,u⟩:=p;simp[hj]at hf;cases hu:T u with
    |none=>simp[hu]at hf
    |some ui'=>
     simp only[hu,ai]at hf;split at hf;cases hf;rename_i hne;obtain⟨rfl,rfl⟩:=hf;obtain⟨info,d,z,h1,h2,h3,h4,h5,h6,h7,h8⟩:=ht.ex;rw[hk]at h8;obtain⟨fa,rfl,hfs⟩:=h8;rw[<- hfs]at hj;simp at hj;obtain⟨fd,g1,g2,g3⟩:=hj;exact⟨fa,fd,h2,g1,g2,g3 ▸ hT u _ hu,hne⟩
theorem QA(hT:fF P T){t:E}{x:AV}{f:Nat}{v:Ω}{out:Out}(ha:zw T t x f=some out)(hx:VR P G w I x v):
 ∃u,(Instr.fieldAt t v f).run P w=.ok u w/\VR P G w I out.v u/\out.upd=[]:=by
 unfold zw at ha;cases hf:AZ T t f with
 |none=>simp[hf]at ha
 |some p=>
  obtain⟨d,ui⟩:=p;simp[hf]at ha;have⟨fa,fd,h1,h2,h3,h4,h5⟩:=aeH hT hf;have hrun:∀b o,(Instr.fieldAt t (.pointer (some ⟨b,o,none⟩)) f).run P w=.ok (.pointer (some ⟨b,o+d,none⟩)) w:=λb o=>by simp[Instr.fieldAt,run_underlying h1,h2,Instr.sureAddr,fieldPlace,h4.size (w:=w),h5,addr_add]
  cases x<;>simp at ha
  case ptr k row aa=>
   simp[pv]at ha;subst ha;simp only[VR]at hx |-;obtain⟨b,sz,n,g1,rfl⟩:=hx;exact⟨_,hrun _ _,⟨b,sz,n,g1,by rw[Nat.add_assoc]⟩,trivial⟩
  grind [pv,VR]
theorem aeI{t:E}{ti:p6}(ht:m4 P t ti){cs:Y AV}{vs:Y Value}{d:Nat}{v:AV}(hp:part' ti.agg ti.size ((cs.drop d).take ti.size)=some v)(hr:br P G w I cs vs):
 ∃u,(part t vs.toArray d).run P w=.ok u w/\VR P G w I v u:=by
 obtain⟨h1,h2,h3,h4⟩:=Ms hp (br.take ti.size _ _ (br.drop d _ _ hr));simp only[Go.part,Sem.run_bind,ht.agg (w:=w),Result.andThen_ok];cases hag:ti.agg with
 |true=>
  refine⟨.agg ((vs.drop d).take ti.size).toArray,?_,h3 hag⟩;simp only[if_true,Sem.run_bind,ht.size (w:=w),Result.andThen_ok,Sem.run_pure];congr 2;apply Array.ext';simp
 |false=>
  have⟨u,hu,hv⟩:=h4 hag;refine⟨u,?_,hv⟩;have:vs[d]? =some u:=by have h5:((vs.drop d).take ti.size)[0]? =some u:=(by rw[hu];rfl);rw[List.getElem?_take]at h5;split at h5;simpa using h5;cases h5
  simp[this]
theorem acS(hT:fF P T){t:E}{x:AV}{f:Nat}{v:Ω}{out:Out}(ha:Wt T t x f=some out)(hx:VR P G w I x v):
 ∃u,(Instr.field t v f).run P w=.ok u w/\VR P G w I out.v u/\out.upd=[]:=by
 unfold Wt at ha;cases hf:AZ T t f with
 |none=>simp[hf]at ha
 |some p=>
  obtain⟨d,ui⟩:=p;simp[hf]at ha;have⟨fa,fd,h1,h2,h3,h4,h5⟩:=aeH hT hf;cases x<;>simp at ha
  case agg cs=>
   cases hp:part' ui.agg ui.size ((cs.drop d).take ui.size)with
   |none=>simp[hp]at ha
   |some y=>
    simp[hp,pv]at ha;subst ha;obtain⟨vs,rfl,hvs⟩:=hx;have⟨u,hu,hv⟩:=aeI h4 hp hvs;refine⟨u,?_,hv,rfl⟩;simp[Instr.field,run_underlying h1,h2,h3,asAgg];simpa using hu
theorem cR.get{b sz:Nat}:∀(n:Nat)(rows:Y (List Tree))(aa:Nat)(r:Y Tree),cR w I rows b aa sz->rows[n]? =some r->r.length=sz/\eL w I r b (aa+n*sz)
 | 0,r::rs,aa,r',h,hn=>by simp[cR]at h;simp at hn;subst hn;exact⟨h.1,by simpa using h.2.1⟩
 |n+1,r::rs,aa,r',h,hn=>by have:=cR.get n rs (aa+sz) r' h.2.2 (by simpa using hn);rw[show aa+(n+1)*sz=aa+sz+n*sz by rw[Nat.add_mul];omega];exact this
 |_,[],_,_,_,hn=>by simp at hn
theorem iE{t e:E}{ti:p6}(ht:m4 P t ti)(hk:ti.k=.slice e):P.underlying t=some (.slice e):=by obtain⟨info,d,z,h1,h2,h3,h4,h5,h6,h7,h8⟩:=ht.ex;rw[hk]at h8;rw[h2,h8]
theorem Wz{t e:E}{n:Nat}{ti:p6}(ht:m4 P t ti)(hk:ti.k=.arr n e):P.underlying t=some (.array n e):=by obtain⟨info,d,z,h1,h2,h3,h4,h5,h6,h7,h8⟩:=ht.ex;rw[hk]at h8;rw[h2,h8]
theorem QB(hT:fF P T)(h:Mem P w0 O0 G I obj w){t:E}{x j:AV}{cP:kx}{get:S}{v u:Ω}{out:Out}(hg:∀k o,get k=some o->obj k=some o)
 (ha:ny T t x j cP get=some out) (df:out.ob) (hx:VR P G w I x v) (hj:VR P G w I j u):
 ∃z,(Instr.indexAt t v u).run P w=.ok z w/\VR P G w I out.v z/\out.upd=[]:=by
 unfold ny at ha;cases hti:T t with
 |none=>simp[hti]at ha
 |some ti=>
  have ht:=hT t ti hti;simp[hti]at ha;split at ha;rename_i e kd n hk;simp[VR]at hj;obtain⟨rfl,_⟩:=hj;have fS:=iE ht hk;cases ie:T e with
  |none=>simp[ie]at ha
  |some ei=>
   have he:=hT e ei ie;simp[ie]at ha;have hrun:∀(b o len cap:Nat),0<=n->n.toNat<len->(Instr.indexAt t (.slice (some ⟨b,o,none⟩) len cap) (.int kd n)).run P w=.ok (.pointer (some ⟨b,o+n.toNat*ei.size,none⟩)) w:=(by intro b o len cap h0 h1;have h2:n<(len:Int):=(by omega);simp[Instr.indexAt,asIntOf,run_underlying fS,h0,h2,he.size (w:=w),addr_add]);split at ha;rename_i rows r;split at ha;rename_i hlen;simp[oy,bK]at ha;subst ha;obtain⟨h0,hr⟩:=df;simp only[VR,TR]at hx;rcases hx with ⟨rfl,_⟩|⟨b,aa,cap,sz,rfl,h1,h2,h3⟩;simp at hr;have hlt:=(bU.1 hr).1;obtain⟨g1,g2⟩:=cR.get _ _ _ _ h3 hr;refine⟨_,hrun _ _ _ _ h0 hlt,?_,rfl⟩;simp only[VR];exact⟨b,aa+n.toNat*sz,by rw[<- g1,hlen];rfl,h2,g2⟩;cases ha;rename_i k aa len;cases hk2:get k with
   |none=>simp[hk2]at ha
   |some o=>
    simp only[hk2,ai]at ha;split at ha;rename_i hsz;simp[oy,bK]at ha;subst ha;obtain⟨h0,hlt⟩:=df;simp only[VR]at hx |-;rcases hx with ⟨_,_,_,rfl⟩|⟨b,sz,m,cap,a,h1,rfl,h2,h3,h4⟩;omega;have⟨B,hB,hO⟩:=h.du k o (hg k o hk2);rw[h1]at hB;cases hB;have hs:sz=o.sz:=hO.1;refine⟨_,hrun _ _ _ _ h0 hlt,⟨b,sz,m,h1,?_⟩,trivial⟩;rw[h4 (by omega),hs,hsz,Nat.add_mul,Nat.add_assoc];rfl;cases ha
   cases ha
  rename_i m e kd n hk;simp[VR,TR]at hj;obtain⟨rfl,_⟩:=hj;have fS:=Wz ht hk;cases ie:T e with
  |none=>simp[ie]at ha
  |some ei=>
   have he:=hT e ei ie;simp[ie,ai]at ha;have hrun:∀(b o:Nat),0<=n->n.toNat<m->(Instr.indexAt t (.pointer (some ⟨b,o,none⟩)) (.int kd n)).run P w=.ok (.pointer (some ⟨b,o+n.toNat*ei.size,none⟩)) w:=(by intro b o h0 h1;have h2:n<(m:Int):=(by omega);simp[Instr.indexAt,asIntOf,run_underlying fS,Instr.sureAddr,h0,h2,he.size (w:=w),addr_add]);cases x<;>simp[reduceCtorEq]at ha
   case ptr k row aa=>
    simp[oy,bK]at ha;subst ha;simp only[VR]at hx |-;obtain⟨b,sz,q,g1,rfl⟩:=hx;exact⟨_,hrun _ _ df.1 df.2,⟨b,sz,q,g1,by rw[Nat.add_assoc]⟩,trivial⟩
   case eW r aa=>
    simp[oy,bK]at ha;subst ha;simp only[VR]at hx |-;obtain⟨b,o,rfl,g1,g2⟩:=hx;exact⟨_,hrun _ _ df.1 df.2,⟨b,o,by rw[Nat.add_assoc],g1,g2⟩,trivial⟩
  cases ha
theorem WA{x:AV}{j:Nat}{v:Ω}{out:Out}(ha:Iy x j=some out)(hx:VR P G w I x v):∃u,(Instr.extract v j).run P w=.ok u w/\VR P G w I out.v u/\out.upd=[]:=by
 unfold Iy at ha;split at ha;rename_i vs;obtain⟨us,rfl,BY⟩:=hx;cases hj:vs[j]? with
 |none=>simp[hj]at ha
 |some y=>
  simp[hj,pv]at ha;subst ha;obtain⟨u,hu,hv⟩:=br.get _ _ j y BY hj;refine⟨u,?_,hv,rfl⟩;have:us[j]? =some u:=by simpa using hu
  simp[Instr.extract,this]
 cases ha
end
section
variable {P:Program} {T:eM} {w0:World} {O0:lp} {G:Nat->Option dc} {I:Nat->Prop} {obj:Nat->Option aN} {w:World} {i:Nat}
theorem acT{op:BinOp}{t:E}{k yk:IntKind}{a b:Int}{v:Ω}{ob:Y Prop}(hk:k=yk\/op=.shl\/op=.shr)(h:Wq op k a b=some (v,ob))(df:iZ ob):
 (binOp op t (.int k a) (.int yk b)).run P w=.ok v w/\oneCell v:=by
 cases op<;>simp[Wq]at h<;>obtain⟨rfl,rfl⟩:=h
 case shl=>exact⟨by rw[binOp_shl,shift_shl k yk a b df.1 df.2];simp,trivial⟩
 case shr=>exact⟨by rw[binOp_shr,shift_shr k yk a b df.1 df.2];simp,trivial⟩
 all_goals
  have hk':k=yk:=by rcases hk with h|h|h<;>first|exact h|cases h
  subst hk'
 case add=>exact⟨by simp[binOp_add,Op.intArith],trivial⟩
 case sub=>exact⟨by simp[binOp_sub,Op.intArith],trivial⟩
 case mul=>exact⟨by simp[binOp_mul,Op.intArith],trivial⟩
 case quo=>exact⟨by have h0:b≠0:=df;rw[binOp_quo];simp[Op.intDiv,h0],trivial⟩
 case rem=>exact⟨by have h0:b≠0:=df;rw[binOp_rem];simp[Op.intDiv,h0],trivial⟩
 case and=>exact⟨by rw[binOp_and,intBits_and];simp,trivial⟩
 case or=>exact⟨by rw[binOp_or,intBits_or];simp,trivial⟩
 case xor=>exact⟨by rw[binOp_xor,intBits_xor];simp,trivial⟩
 case andNot=>exact⟨by rw[binOp_andNot,intBits_andNot];simp,trivial⟩
 case eql=>exact⟨by rw[binOp_eql];simp,trivial⟩
 case neq=>exact⟨by rw[binOp_neq];simp,trivial⟩
 case lss=>exact⟨by rw[binOp_lss];simp,trivial⟩
 case leq=>exact⟨by rw[binOp_leq];simp,trivial⟩
 case gtr=>exact⟨by rw[binOp_gtr];simp,trivial⟩
 case geq=>exact⟨by rw[binOp_geq];simp,trivial⟩
theorem acU{f:Field}{kd:Nat}{x y:AV}{b:Bool}{u v:Ω}(hf:Wp P f kd=true)(h:Iw kd x y=some b)(hx:VR P G w I x u)(hy:VR P G w I y v)(d:Nat):
 (Op.equalIn (d + 1) f.type u v).run P w = .ok b w /\ f.name ≠ "_" /\ (isAgg f.type).run P w = .ok false w := by
 unfold Wp at hf;simp at hf;obtain⟨hname,hf⟩:=hf;unfold Iw at h;split at h;split at h;rename_i hk;subst hk;cases h;obtain⟨rfl,_⟩:=hx;obtain⟨rfl,_⟩:=hy;split at hf<;>first|(rename_i hu;exact⟨run_equalIn_int w d _ _ _ _ _ hu,hname,by simp[isAgg,run_underlying hu]⟩)|(simp at hf)
 cases h;cases h;simp[VR]at hx hy;obtain⟨rfl,_⟩:=hx;obtain⟨rfl,_⟩:=hy;split at hf<;>first|(rename_i hu;exact⟨run_equalIn_bool w d _ _ _ hu,hname,by simp[isAgg,run_underlying hu]⟩)|(simp at hf)
 cases h;simp[VR]at hx hy;obtain⟨rfl,_⟩:=hx;obtain⟨rfl,_⟩:=hy;split at hf<;>first|(rename_i hu;exact⟨run_equalIn_string w d _ _ _ hu,hname,by simp[isAgg,run_underlying hu]⟩)|(simp at hf)
 cases h
theorem LM:∀(s:Nat){ks:Y Nat}{xs ys:Y AV}{b:Bool},jh ks xs ys=some b->∃b1 b2,jh (ks.take s) (xs.take s) (ys.take s)=some b1/\jh (ks.drop s) (xs.drop s) (ys.drop s)=some b2/\b=(b1&&b2)
 | 0,ks,xs,ys,b,h=>⟨true,b,by simp[jh],by simpa using h,by simp⟩
 |s+1,[],xs,ys,b,h=>by cases xs<;>cases ys<;>simp[jh]at h;subst h;exact⟨true,true,by simp[jh],by simp[jh],rfl⟩
 |s+1,k::ks,xs,ys,b,h=>by
  cases xs<;>cases ys<;>simp[jh]at h;rename_i x xs y ys;cases h1:Iw k x y with
  |none=>simp[h1]at h
  |some a=>
   cases h2:jh ks xs ys with
   |none=>simp[h2]at h
   |some c=>
    simp[h1,h2]at h;have⟨b1,b2,e1,e2,e3⟩:=LM s h2;exact⟨a&&b1,b2,by simp[jh,h1,e1],by simpa using e2,by rw[<- h,e3,Bool.and_assoc]⟩
theorem wY:∀(m d:Nat)(fs:Y Field)(ks:Y Nat)(n:Nat)(us vs:Y Value)(xs ys:Y AV)(b:Bool),m<=d->ga P m n fs ks=true->jh ks xs ys=some b->
 br P G w I xs (us.drop n)->br P G w I ys (vs.drop n)->(Op.eqFields (d+1) us.toArray vs.toArray fs).run P w=.ok b w
 |_,_,[],[],n,us,vs,xs,ys,b,_,_,h,_,_=>by cases xs<;>cases ys<;>simp[jh]at h;subst h;simp[Op.eqFields]
 |m+1,d,f::fs,k::ks,n,us,vs,xs,ys,b,hd,hc,h,hx,hy=>by
  unfold ga at hc;rw[aT,Bool.or_eq_true]at hc;obtain⟨hoff,hc⟩:=hc;have hoff:f.offset=n:=by simpa using hoff
  rcases hc with hc|hc;cases xs<;>cases ys<;>simp[jh]at h;rename_i x xs y ys;rw[aT]at hc;obtain⟨hcf,hrest⟩:=hc;cases h1:Iw k x y with
  |none=>simp[h1]at h
  |some a=>
   cases h2:jh ks xs ys with
   |none=>simp[h2]at h
   |some c=>
    simp[h1,h2]at h;subst h;have BT:∀(us:Y Value)(xs:Y AV)(x:AV),br P G w I (x::xs) (us.drop n)->∃u,us[n]? =some u/\VR P G w I x u/\br P G w I xs (us.drop (n+1)):=(by intro us xs x hx;have hlt:n<us.length:=(by have:=br.length _ _ hx;simp at this;omega);rw[List.drop_eq_getElem_cons hlt]at hx;simp[br]at hx;exact⟨us[n],dI hlt,hx.1,hx.2⟩);obtain⟨u,hu,hxu,hxs⟩:=BT us xs x hx;obtain⟨v,hv,hyv,hys⟩:=BT vs ys y hy;have⟨e1,e2,e3⟩:=acU hcf h1 hxu hyv d;have ih:=wY m d fs ks (n+1) us vs xs ys c (by omega) hrest h2 hxs hys;have hp:∀(zs:Y Value)(z:Value),zs[n]? =some z->(Go.part f.type zs.toArray f.offset).run P w=.ok z w:=(by intro zs z hz;simp[Go.part,e3,hoff,hz]);simp[Op.eqFields,e2,hp us u hu,hp vs v hv,e1,ih];cases a<;>simp
  split at hc;rename_i fa info hu hi;simp only[aT]at hc;obtain⟨⟨⟨hnm,hst⟩,hin⟩,hrest⟩:=hc;obtain⟨b1,b2,e1,e2,rfl⟩:=LM info.size h;obtain⟨d,rfl⟩:∃d',d=d'+1:=⟨d-1,by omega⟩;have hsz:(Go.sizeOf f.type).run P w=.ok info.size w:=by simp[Go.sizeOf,typeInfo,hi]
  have hp:∀zs:Y Value,(Go.part f.type zs.toArray f.offset).run P w=.ok (.agg ((zs.drop n).take info.size).toArray) w:=by intro zs;simp only[Go.part,Sem.run_bind,isAgg,run_underlying hu,Result.andThen_ok,Sem.run_pure,if_true,hsz,hoff];congr 2;apply Array.ext';simp
  have hfo:P.fieldsOf f.type=fa:=by simp[Program.fieldsOf,hu]
  have i1:=wY m d fa.toList _ 0 ((us.drop n).take info.size) ((vs.drop n).take info.size) _ _ b1 (by omega) hin e1 (br.take info.size _ _ hx) (br.take info.size _ _ hy);have hq:(Op.equalIn (d+1+1) f.type (.agg ((us.drop n).take info.size).toArray) (.agg ((vs.drop n).take info.size).toArray)).run P w=.ok b1 w:=by rw[run_equalIn_struct w (d+1) f.type _ _ (by rw[hfo];exact hu) (by simpa using hst),hfo];exact i1
  have dr:∀{xs:Y AV}{us:Y Value},br P G w I xs (us.drop n)->br P G w I (xs.drop info.size) (us.drop (n+info.size)):=by
   intro xs us hx;have:=br.drop info.size _ _ hx
   rwa [List.drop_drop]at this
  have i2:=wY m (d+1) fs _ (n+info.size) us vs _ _ b2 (by omega) hrest e2 (dr hx) (dr hy);have hnm : f.name ≠ "_" := by simpa using hnm
  simp[Op.eqFields,hnm,hp,hq,i2];cases b1<;>simp;cases hc
 | 0,_,_::_,_::_,_,_,_,_,_,_,_,hc,_,_,_|_,_,[],_::_,_,_,_,_,_,_,_,hc,_,_,_|_,_,_::_,[],_,_,_,_,_,_,_,hc,_,_,_=>by simp[ga]at hc
theorem ahG(hT:fF P T){op:BinOp}{t:E}{x y:AV}{xo yo:Operand}{u v:Ω}{out:Out}(ha:zc T op t x y=some out)(df:out.ob)(hx:VR P G w I x u)(hy:VR P G w I y v):
 ∃z,(do eqGuard op t xo yo u v;binOp op t u v:Sem Value).run P w=.ok z w/\VR P G w I out.v z/\out.upd=[]:=by
 unfold zc at ha;split at ha;rename_i k a yk b;simp[VR]at hx hy;obtain⟨rfl,_⟩:=hx;obtain⟨rfl,_⟩:=hy;split at ha;rename_i hk;cases har:Wq op k a b with
 |none=>simp[har]at ha
 |some p=>
  obtain⟨z,ob⟩:=p;simp[har]at ha;subst ha;have⟨h1,h2⟩:=acT (P:=P) (w:=w) (t:=t) hk har df;exact⟨z,by simp[eqGuard_at_int,h1],by simp only[VR,TR];exact⟨trivial,h2⟩,rfl⟩
 cases ha;rename_i a b;simp[VR]at hx hy;obtain⟨rfl,_⟩:=hx;obtain⟨rfl,_⟩:=hy;cases op<;>simp only[pv,oy,bK,reduceCtorEq]at ha<;>subst ha;have hs:¬((a.size+b.size:Nat):Int)>i64.max:=by
  have:a.size+b.size<=maxLen:=df;have h2:i64.max=9223372036854775807:=by decide
  unfold maxLen at this;omega
 exact⟨.string (a++b),by simp only[eqGuard_at_string,binOp,Op.stringOp,aM hs];simp,by simp only[VR,TR];exact⟨trivial,trivial⟩,rfl⟩;exact⟨.bool (a.toList==b.toList),by simp[eqGuard_at_string,binOp,Op.stringOp],by simp only[VR,TR];exact⟨trivial,trivial⟩,rfl⟩;exact⟨.bool (!(a.toList==b.toList)),by simp[eqGuard_at_string,binOp,Op.stringOp],by simp only[VR,TR];exact⟨trivial,trivial⟩,rfl⟩;exact⟨.bool (Op.bytesLess a.toList b.toList),by simp[eqGuard_at_string,binOp,Op.stringOp],by simp only[VR,TR];exact⟨trivial,trivial⟩,rfl⟩;exact⟨.bool (!(Op.bytesLess a.toList b.toList || a.toList==b.toList)),by simp[eqGuard_at_string,binOp,Op.stringOp],by simp only[VR,TR];exact⟨trivial,trivial⟩,rfl⟩;rename_i a b;simp[VR]at hx hy;obtain⟨rfl,_⟩:=hx;obtain⟨rfl,_⟩:=hy;cases hti:T t with
 |none=>simp[hti]at ha
 |some ti=>
  have ht:=hT t ti hti;simp[hti]at ha;have fS:ti.k=.bool->P.underlying t=some .bool:=λhk=>by obtain⟨info,d,z,h1,h2,h3,h4,h5,h6,h7,h8⟩:=ht.ex;rw[hk]at h8;rw[h2,h8]
  split at ha;rename_i hk;simp[pv]at ha;subst ha;exact⟨.bool (a==b),by simp[eqGuard_at_bool,binOp,run_equal_bool w t a b (fS hk)],by simp only[VR,TR];exact⟨trivial,trivial⟩,rfl⟩;rename_i hk;simp[pv]at ha;subst ha;exact⟨.bool (!(a==b)),by simp[eqGuard_at_bool,binOp,run_equal_bool w t a b (fS hk)],by simp only[VR,TR];exact⟨trivial,trivial⟩,rfl⟩;cases ha
 rename_i xs ys;simp[VR]at hx hy;obtain⟨us,rfl,BY⟩:=hx;obtain⟨vs,rfl,hvs⟩:=hy;cases hti:T t with
 |none=>simp[hti]at ha
 |some ti=>
  have ht:=hT t ti hti;simp only[hti,ai]at ha;split at ha;cases ha;rename_i hne;rcases ht.cmp hne with ⟨fa,h1,h2,h3,h4⟩|⟨h9,_⟩
  rotate_left
  rw[h9,amD]at ha;simp at ha;cases hc:jh ti.cmp xs ys with
  |none=>simp[hc]at ha
  |some b=>
   simp[hc]at ha;have hfo:P.fieldsOf t=fa:=(by simp[Program.fieldsOf,h1]);have heq:(Op.equalIn 10000 t (.agg us) (.agg vs)).run P w=.ok b w:=(by rw[run_equalIn_struct w 9999 t us vs (by rw[hfo];exact h1) h2,hfo];have:=wY (P:=P) (w:=w) 99 9998 fa.toList ti.cmp 0 us.toList vs.toList xs ys b (by omega) h4 hc (by simpa using BY) (by simpa using hvs);simpa using this);have hgd:∀op,(eqGuard op t xo yo (.agg us) (.agg vs)).run P w=.ok () w:=λop=>run_eqGuard_agg w op t xo yo us vs h3;cases op<;>simp[pv]at ha<;>subst ha;exact⟨.bool b,by simp[hgd,run_eql_struct,heq],by simp only[VR,TR];exact⟨trivial,trivial⟩,rfl⟩;exact⟨.bool (!b),by simp[hgd,run_neq_struct,heq],by simp only[VR,TR];exact⟨trivial,trivial⟩,rfl⟩
 cases ha
theorem akO{op:UnOp}{x:AV}{v:Ω}{out:Out}(ha:Wk op x=some out)(hx:VR P G w I x v):∃z,(Op.unary op v).run P w=.ok z w/\VR P G w I out.v z/\out.upd=[]:=by unfold Wk at ha;split at ha;simp[pv]at ha;subst ha;obtain⟨rfl,_⟩:=hx;exact⟨_,by simp[Op.unary];rfl,by simp only[VR,TR];exact⟨trivial,trivial⟩,rfl⟩;simp only[pv,bK]at ha;subst ha;obtain⟨rfl,_⟩:=hx;exact⟨_,by simp only[Op.unary,Op.intArith];rfl,by simp only[VR,TR];exact⟨trivial,trivial⟩,rfl⟩;cases ha
theorem NJ(mx:Bool)(k:IntKind):∀(r:Y AV)(vs:Y Value)(a n:Int),EL mx k a r=some n->br P G w I r vs->
 (vs.foldlM (if mx then Builtin.max2 else Builtin.min2) (.int k a)).run P w=.ok (.int k n) w
 |[],[],a,n,h,_=>by simp[EL]at h;subst h;simp
 |x::r,v::vs,a,n,h,hv=>by
  simp[br]at hv;have hx:∃k' b,x=.t (.sc (.int k' b)):=by unfold EL at h;split at h;cases ‹_::_=_›;rename_i heq;injection heq with h1 h2;exact⟨_,_,h1⟩;cases h
  obtain⟨k',b,rfl⟩:=hx;simp only[EL]at h;split at h;rename_i hk;subst hk;obtain⟨⟨rfl,_⟩,hv⟩:=hv;have ih:=NJ mx k' r vs _ n h hv;cases mx;simp at ih |-;simp[Builtin.min2];rw[show (if b<a then b else a)=min a b by rw[Int.min_def];split<;>split<;>omega];exact ih;simp at ih |-;simp[Builtin.max2];rw[show (if b>a then b else a)=max a b by rw[Int.max_def];split<;>split<;>omega];exact ih;cases h
 |[],_::_,_,_,_,hv|_::_,[],_,_,_,hv=>by simp[br]at hv
theorem abr{mx:Bool}{args:Y AV}{vs:Array Value}{ej:Array TypeId}{ty:E}{out:Out}(ha:I3 mx args=some out)(hx:br P G w I args vs.toList):
 ∃z,((if mx then Builtin.max_ else Builtin.min_) ej ty vs).run P w=.ok z w/\VR P G w I out.v z/\out.upd=[]:=by
 unfold I3 at ha;split at ha;rename_i k a r;cases hf:EL mx k a r with
 |none=>simp[hf]at ha
 |some n=>
  simp[hf,pv]at ha;subst ha;cases hvs:vs.toList with
  |nil=>rw[hvs]at hx;simp[br]at hx
  |cons v vs'=>
   rw[hvs]at hx;obtain⟨⟨rfl,_⟩,hr⟩:=hx;have:=NJ (P:=P) mx k r vs' a n hf hr;refine⟨.int k n,?_,by simp only[VR,TR];exact⟨trivial,trivial⟩,rfl⟩;cases mx;simpa[Builtin.min_,hvs]using this;simpa[Builtin.max_,hvs]using this
 cases ha
end
section
variable {P:Program} {T:eM} {w0:World} {O0:lp} {G:Nat->Option dc} {I:Nat->Prop} {obj:Nat->Option aN} {w:World} {i:Nat}
theorem ahH(hT:fF P T){t ty:E}{x:AV}{cP:kx}{v:Ω}{out:Out}(ha:C5 T t x cP=some out)(df:out.ob)(hx:VR P G w I x v):
 ∃z,(Builtin.len_ #[t] ty #[v]).run P w=.ok z w/\VR P G w I out.v z/\out.upd=[]:=by
 unfold C5 at ha;cases hti:T t with
 |none=>simp[hti]at ha
 |some ti=>
  have ht:=hT t ti hti;simp[hti]at ha;have hsl:∀e b n c,ti.k=.slice e->(Builtin.len_ #[t] ty #[.slice b n c]).run P w=.ok (goInt n) w:=λe b n c hk=>by simp[Builtin.len_,run_underlying (iE ht hk)]
  split at ha;rename_i e rows n hk;simp[oy]at ha;subst ha;have df:n=_:=df;subst df;simp only[VR,TR]at hx;rcases hx with ⟨rfl,_,_,rfl,_⟩|⟨b,aa,cap,sz,rfl,_⟩;exact⟨_,hsl _ _ _ _ hk,by simp only[VR,TR,goInt];exact⟨by simp,trivial⟩,rfl⟩;exact⟨_,hsl _ _ _ _ hk,by simp only[VR,TR,goInt];exact⟨trivial,trivial⟩,rfl⟩;rename_i e k aa len n hk;simp[oy]at ha;subst ha;have df:n=_:=df;subst df;simp[VR]at hx;rcases hx with ⟨_,rfl,_,rfl⟩|⟨b,sz,m,cap,a,_,rfl,_⟩;exact⟨_,hsl _ _ _ _ hk,by simp only[VR,TR,goInt];exact⟨trivial,trivial⟩,rfl⟩;exact⟨_,hsl _ _ _ _ hk,by simp only[VR,TR,goInt];exact⟨trivial,trivial⟩,rfl⟩;rename_i e k aa len hk _;simp[pv]at ha;subst ha;simp[VR]at hx;rcases hx with ⟨_,rfl,_,rfl⟩|⟨b,sz,m,cap,a,_,rfl,_⟩;exact⟨_,hsl _ _ _ _ hk,by simp only[VR,TR,goInt];exact⟨trivial,trivial⟩,rfl⟩;exact⟨_,hsl _ _ _ _ hk,by simp only[VR,TR,goInt];exact⟨trivial,trivial⟩,rfl⟩;rename_i e k len hk;simp[pv]at ha;subst ha;simp[VR]at hx;rcases hx with ⟨rfl,rfl⟩|⟨_,b,sz,m,cap,a,_,rfl,_⟩;exact⟨_,hsl _ _ _ _ hk,by simp only[VR,TR,goInt];exact⟨trivial,trivial⟩,rfl⟩;exact⟨_,hsl _ _ _ _ hk,by simp only[VR,TR,goInt];exact⟨trivial,trivial⟩,rfl⟩;rename_i e hk;simp[pv]at ha;subst ha;simp[VR]at hx;subst hx;exact⟨_,hsl _ _ _ _ hk,by simp only[VR,TR,goInt];exact⟨by simp,trivial⟩,rfl⟩;rename_i s hk;simp[pv]at ha;subst ha;simp[VR]at hx;obtain⟨rfl,_⟩:=hx;have fS:P.underlying t=some .string:=by obtain⟨info,d,z,h1,h2,h3,h4,h5,h6,h7,h8⟩:=ht.ex;rw[hk]at h8;rw[h2,h8]
  exact⟨_,by simp[Builtin.len_,run_underlying fS];rfl,by simp only[VR,TR,goInt];exact⟨trivial,trivial⟩,rfl⟩;cases ha
theorem abt(vs:Y Value)(aa:Nat):∀(ps:Y Value)(n:Nat)(cs:Array Value),aa+n+ps.length<=cs.size->
 (ps.zipIdx n).foldl (λ cs (c,j)=>cs.setIfInBounds (aa+j) c) cs=((cs.toList.take (aa+n))++ps++cs.toList.drop (aa+n+ps.length)).toArray
 |[],n,cs,_=>by simp
 |p::ps,n,cs,h=>by
  simp at h;rw[List.zipIdx_cons,List.foldl_cons,abt vs aa ps (n+1) _ (by simp;omega)];congr 1;rw[Array.toList_setIfInBounds];have h1:aa+n<cs.toList.length:=by simp;omega
  rw[show aa+(n+1)=aa+n+1 by omega,iY (by simpa using h1),List.take_set,List.set_eq_of_length_le (by simp;omega)];simp only[List.getElem_set_self,aU,d9,List.cons_append,fI];congr 3;rw[List.drop_set_of_lt (by omega)];congr 1;omega
theorem aoS{cells cs:Y AV}{us vs:Y Value}{aa:Nat}(h1:br P G w I cells us)(h2:br P G w I cs vs):br P G w I (put' cells aa cs) (us.take aa++vs++us.drop (aa+vs.length)):=by rw[br.length _ _ h2];exact br.append _ _ _ _ (br.append _ _ _ _ (br.take _ _ _ h1) h2) (br.drop _ _ _ h1)
theorem A8{place qe:Nat->J (Nat×Nat)}(hpl:∀j p,place j=some p->qe j=some p):∀(parts:Y (Nat×AV))(vs:Y (Nat×Value))(cells:Y AV)(us:Array Value)(out:Y AV),
 Gt place cells parts=some out->br P G w I cells us.toList->parts.map (·.1)=vs.map (·.1)->br P G w I (parts.map (·.2)) (vs.map (·.2))->
 ∃zs,Instr.fill qe us vs=some zs/\br P G w I out zs.toList
 |[],[],cells,us,out,h,hc,_,_=>by simp[Gt]at h;subst h;exact⟨us,rfl,hc⟩
 |(j,x)::ae,(j',v)::vs,cells,us,out,h,hc,hk,hv=>by
  simp at hk;obtain⟨rfl,hk⟩:=hk;simp at hv;simp[Gt]at h;cases hp:place j with
  |none=>simp[hp]at h
  |some p=>
   obtain⟨aa,size⟩:=p;simp[hp]at h;cases hcs:cellsOf x with
   |none=>simp[hcs]at h
   |some cs=>
    simp only[hcs,ai]at h;split at h;have⟨g1,g2⟩:=BR hcs hv.1;have hlen:=br.length _ _ g1;have hlc:=br.length _ _ hc;simp at hlen hlc;have hnew:=aoS (aa:=aa) hc g1;have:=A8 hpl ae vs _ (us.toList.take aa++v.cells.toList++us.toList.drop (aa+v.cells.toList.length)).toArray out h (by simpa using hnew) hk hv.2;obtain⟨zs,hz,hz2⟩:=this;refine⟨zs,?_,hz2⟩;simp only[Instr.fill,hpl j _ hp];have hno:¬(v.cells.size≠size\/aa+v.cells.size>us.size):=(by omega);rw[aM (by simp only[Bool.or_eq_true,bf];exact hno)];have B6:=abt [] aa v.cells.toList 0 us (by simp;omega);simp only[Nat.add_zero]at B6;rw[<- hz,<- B6];congr 1;rw[<- Array.foldl_toList,Array.toList_zipIdx];cases h
 |[],_::_,_,_,_,_,_,hk,_|_::_,[],_,_,_,_,_,hk,_=>by simp at hk
theorem Gu(hT:fF P T):∀(fs:Y Field),(∀ f∈fs,(T f.type).isSome=true)->
 ∃ps:Y (Nat×Nat),(fs.mapM (λ f=>do pure (f.offset,<- sizeOf f.type):Field->Sem (Nat×Nat))).run P w=.ok ps w/\ps.map some=fs.map λf=>(T f.type).bind λui=>some (f.offset,ui.size)
 |[],_=>⟨[],by simp,rfl⟩
 |f::fs,h=>by obtain⟨ui,yp⟩:=Option.isSome_iff_exists.1 (h f (by simp));obtain⟨ps,h1,h2⟩:=Gu hT fs (λ g hg=>h g (by simp[hg]));refine⟨(f.offset,ui.size)::ps,?_,by simp[yp,h2]⟩;simp only[List.mapM_cons,Sem.run_bind,(hT _ _ yp).size (w:=w),Result.andThen_ok,Sem.run_pure,h1]
theorem acV(hT:fF P T){t:E}{parts:Y (Nat×AV)}{vs:Array (Nat×Value)}{out:Out}(ha:Wu T t parts=some out)
 (hk:parts.map (·.1)=vs.toList.map (·.1)) (hv:br P G w I (parts.map (·.2)) (vs.toList.map (·.2))):∃z,(Instr.build t vs).run P w=.ok z w/\VR P G w I out.v z/\out.upd=[]:=by
 unfold Wu at ha;cases hti:T t with
 |none=>simp[hti]at ha
 |some ti=>
  have ht:=hT t ti hti;simp[hti]at ha;have⟨z,hz,hz2⟩:=ht.zeroV (w:=w);split at ha;rename_i fs hkd;split at ha;rename_i hall;generalize hpl:(λ (j:Nat)=>(fs[j]?).bind λ(p:Nat×TypeId)=>(T p.2).bind λui=>some (p.1,ui.size))=place at ha;cases hf:Gt place (ti.zero.map cv) parts with
  |none=>simp[hf]at ha
  |some cells=>
   simp[hf,pv]at ha;subst ha;obtain⟨info,d,z',h1,h2,h3,h4,h5,h6,h7,h8⟩:=ht.ex;rw[hkd]at h8;obtain⟨fa,rfl,hfa⟩:=h8;have Mo:∀f∈fa.toList,(T f.type).isSome=true:=λf hf=>(by have:=all_eq_true.1 hall (f.offset,f.type) (by rw[<- hfa];exact mem_map.2 ⟨f,hf,rfl⟩);simpa using this);have⟨ps,hp1,hp2⟩:=Gu (w:=w) hT fa.toList Mo;have hpl':∀j p,place j=some p->ps[j]? =some p:=by
    intro j p hj;rw[<- hpl]at hj;simp at hj;have e1:(ps.map some)[j]? =some (some p):=by
     rw[hp2,List.getElem?_map];rw[<- hfa]at hj
     grind
    simpa using e1
   obtain⟨zs,hz3,HQ⟩:=A8 (qe:=λj=>ps.toArray[j]?) (λ j p h=>by simpa using hpl' j p h) parts vs.toList _ z.cells cells hf (by rw[hz2];exact br.cv _) hk hv;refine⟨.agg zs,?_,by simp only[VR];exact⟨zs,rfl,HQ⟩,rfl⟩;have hm:(fa.mapM (λ f=>do pure (f.offset,<- sizeOf f.type):Field->Sem (Nat×Nat))).run P w=.ok ps.toArray w:=(by rw[Array.mapM_eq_mapM_toList,Sem.run_map,hp1];rfl);simp only[Instr.build,Sem.run_bind,hz,Result.andThen_ok,run_underlying h2,hm,hz3,Sem.run_pure]
  cases ha;rename_i n e hkd;cases ie:T e with
  |none=>simp[ie]at ha
  |some ei=>
   have he:=hT e ei ie;simp[ie]at ha;cases hf:Gt (λ j=>some (j*ei.size,ei.size)) (ti.zero.map cv) parts with
   |none=>simp[hf]at ha
   |some cells=>
    simp[hf,pv]at ha;subst ha;obtain⟨zs,hz3,HQ⟩:=A8 (qe:=λj=>some (j*ei.size,ei.size)) (λ j p h=>h) parts vs.toList _ z.cells cells hf (by rw[hz2];exact br.cv _) hk hv;refine⟨.agg zs,?_,by simp only[VR];exact⟨zs,rfl,HQ⟩,rfl⟩;simp[Instr.build,hz,run_underlying (Wz ht hkd),he.size (w:=w),hz3]
  cases ha
end
section
variable {P:Program} {T:eM} {w0:World} {O0:lp} {G:Nat->Option dc} {I:Nat->Prop} {obj:Nat->Option aN} {w:World} {i:Nat}
theorem Mem.Ax{i k:Nat}{o o1:aN}{B C:dc}(h:Mem P w0 O0 G I obj w)(hn:G i=none)(hk:obj k=some o)(hβ:G k=some B)(hC:C.num=B.num)(hO:OR P G w I o1 C):
 Step G I w i (ins G i C) I w/\Mem P w0 O0 (ins G i C) I (bX obj [(i,some o1),(k,none)]) w:=by
 have hS:Step G I w i (ins G i C) I w:=⟨λ j hj=>by simp[ins,j7.ne hj],oF hn,λ_ _=>rfl,λ_ h=>h⟩;have look:∀j o',bX obj [(i,some o1),(k,none)] j=some o'->(j=i/\o'=o1)\/(j≠i/\j≠k/\obj j=some o'):=by intro j o' hj;simp[bX]at hj;split at hj;injection hj with hj;exact .inl ⟨‹_›,hj.symm⟩;split at hj;cases hj;exact .inr ⟨‹_›,‹_›,hj⟩
 refine⟨hS,?_⟩;constructor;intro j o' hj;rcases look j o' hj with ⟨rfl,rfl⟩|⟨h1,h2,h3⟩;exact⟨C,by simp[ins],OR.mono hS.ext hS.same hS.inc (λ _ _=>rfl) hO⟩;have⟨B',hB',hO⟩:=h.du j o' h3;exact⟨B',oF hn _ _ hB',OR.mono hS.ext hS.same hS.inc (λ _ _=>rfl) hO⟩;intro j j' o1 o2 B1 B2 b h1 h2 h3 h4 h5 h6;rcases look j o1 h1 with ⟨rfl,rfl⟩|⟨a1,a2,a3⟩<;>rcases look j' o2 h2 with ⟨rfl,rfl⟩|⟨c1,c2,c3⟩;rfl;simp[ins]at h3;simp[ins,c1]at h4;subst h3;exact absurd (h.iv k j' _ _ B B2 b hk c3 hβ h4 (hC ▸ h5) h6) (λ e=>c2 e.symm);simp[ins]at h4;simp[ins,a1]at h3;subst h4;exact absurd (h.iv j k _ _ B1 B b a3 hk h3 hβ h5 (hC ▸ h6)) (λ e=>a2 e);simp[ins,a1,c1]at h3 h4;exact h.iv j j' o1 o2 B1 B2 b a3 c3 h3 h4 h5 h6;intro j o' B1 b h1 h2 h3;rcases look j o' h1 with ⟨rfl,rfl⟩|⟨a1,a2,a3⟩;simp[ins]at h2;subst h2;exact h.ownB k _ B b hk hβ (hC ▸ h3);simp[ins,a1]at h2;exact h.ownB j o' B1 b a3 h2 h3;exact h.lt;exact h.up;exact h.keep;exact h.le;exact h.os;exact h.tape;exact h.output;intro j C hj;exact oF hn _ _ (h.anch j C hj);exact h.vars
theorem LP:∀(rows:Y (List AV))(c:Array Value)(aa sz:Nat)(l:Y Value),(∀ r∈rows,r.length=sz/\r.all qC=true)->br P G w I rows.flatten l->(∀ j u,l[j]? =some u->c[aa+j]? =some u)->cj P G w I rows c aa sz
 |[],_,_,_,_,_,_,_=>by simp[cj]
 |r::rs,c,aa,sz,l,hr,hl,hc=>by
  obtain⟨h1,h2⟩:=hr r (by simp);simp at hl;have ht:=br.take sz _ _ hl;have hd:=br.drop sz _ _ hl;rw[List.take_append_of_le_length (by omega),take_of_length_le (by omega)]at ht;rw[List.drop_append_of_le_length (by omega),List.drop_of_length_le (by omega),fI]at hd;simp[cj];refine⟨h1,d8.pP r _ c aa ht (λ u hu=>?_) (λ j u hj=>?_),LP rs c (aa+sz) sz _ (λ r' hr'=>hr r' (by simp[hr'])) hd (λ j u hj=>?_)⟩;obtain⟨j,hj⟩:=List.getElem?_of_mem hu;have hlen:=br.length _ _ ht;have hjl:j<r.length:=by have:=(bU.1 hj).1;omega
  obtain⟨u',hu',hv⟩:=br.get _ _ j _ ht (dI hjl);rw[hj]at hu';injection hu' with hu';subst hu';exact VR.one (all_eq_true.1 h2 _ (List.getElem_mem hjl)) hv
  all_goals grind
theorem ahI{x:AV}{cs:Y AV}(h:cellsOf x=some cs):cs.all qC=true:=by
 cases x<;>simp only[cellsOf,bK,reduceCtorEq]at h
 case agg=>split at h<;>first|(cases h;assumption)|cases h
 all_goals subst h;simp[qC]
theorem WB(size:Nat):∀(parts:Y (Nat×AV))(rows out:Y (List AV)),NH size rows parts=some out->(∀ r∈rows,r.length=size/\r.all qC=true)->
 Gt (λ j=>some (j*size,size)) rows.flatten parts=some out.flatten/\(∀ r∈out,r.length=size/\r.all qC=true)/\out.length=rows.length
 |[],rows,out,h,hr=>by simp[NH]at h;subst h;exact⟨rfl,hr,rfl⟩
 |(j,x)::ae,rows,out,h,hr=>by
  simp[NH]at h;cases hcs:cellsOf x with
  |none=>simp[hcs]at h
  |some cs=>
   simp only[hcs,ai]at h;split at h;rename_i hl;obtain⟨h1,h2,h3⟩:=WB size ae (rows.set j cs) out h (λ r hr'=>by rcases List.mem_or_eq_of_mem_set hr' with h4|h4;exact hr r h4;rw[h4];exact⟨hl.1,ahI hcs⟩);refine⟨?_,h2,by simpa using h3⟩;have L5:∀(n:Nat) (rows:Y (List AV)),(∀ r∈rows,r.length=size)->n<rows.length->(rows.set n cs).flatten=put' rows.flatten (n*size) cs/\n*size+cs.length<=rows.flatten.length:=by
    intro n
    induction n with
    |zero=>
     intro rows hr hn;cases rows with
     |nil=>simp at hn
     |cons r rs=>
      have:=hr r (by simp);simp[put'];refine⟨?_,by omega⟩;rw[hl.1,List.drop_append_of_le_length (by omega),List.drop_of_length_le (by omega),fI]
    |succ n ih=>
     intro rows hr hn;cases rows with
     |nil=>simp at hn
     |cons r rs=>
      have hrl:=hr r (by simp);obtain⟨g1,g2⟩:=ih rs (λ r' h'=>hr r' (by simp[h'])) (by simpa using hn);have e1:(n+1)*size=r.length+n*size:=(by rw[Nat.add_mul];omega);simp only[List.set_cons_succ,List.flatten_cons,g1,put',e1,eU];refine⟨?_,by omega⟩;rw[List.take_length_add_append,show r.length+n*size+cs.length=r.length+(n*size+cs.length)by omega,List.drop_length_add_append];simp
   obtain⟨g1,g2⟩:=L5 j rows (λ r h'=>(hr r h').1) hl.2;simp only[Gt,ai,hcs];rw[aP ⟨hl.1,g2⟩,<- g1];exact h1;cases h
theorem NK(hT:fF P T)(h:Mem P w0 O0 G I obj w)(hn:G (cD i)=none){t:E}{len:Nat}{parts:Y (Nat×AV)}{vs:Array (Nat×Value)}{out:Out}{kp:Bool}(ha:xH T i t len parts kp=some out)
 (hk:parts.map (·.1)=vs.toList.map (·.1)) (hv:br P G w I (parts.map (·.2)) (vs.toList.map (·.2))):
 ∃u w' β',(Instr.buildSlice t len vs).run P w=.ok u w'/\Step G I w (cD i) β' I w'/\Mem P w0 O0 β' I (bX obj out.upd) w'/\VR P β' w' I out.v u:=by
 unfold xH at ha;cases hti:T t with
 |none=>simp[hti]at ha
 |some ti=>
  have ht:=hT t ti hti;simp[hti]at ha;split at ha;rename_i e hkd;cases ie:T e with
  |none=>simp[ie]at ha
  |some ei=>
   have he:=hT e ei ie;simp only[ie,ai]at ha;split at ha;cases ha;rename_i hno;simp at hno;cases hf:NH ei.size (List.replicate len (ei.zero.map cv)) parts with
   |none=>simp[hf]at ha
   |some rows=>
    simp[hf]at ha;subst ha;have⟨z,hz,hz2⟩:=he.zeroV (w:=w);have hzl:ei.zero.length=ei.size:=he.len;have hok:∀r∈List.replicate len (ei.zero.map cv),r.length=ei.size/\r.all qC=true:=(by intro r hr;obtain⟨_,rfl⟩:=List.mem_replicate.1 hr;refine⟨by simpa using hzl,?_⟩;rw[List.all_map,all_eq_true];intro v hvz;have h1:=all_eq_true.1 he.one v hvz;simp[cv];split;rfl;rw[aP h1];rfl);obtain⟨h1,h2,h3⟩:=WB ei.size parts _ rows hf hok;have hzs:z.cells.size=ei.size:=(by rw[<- Array.length_toList,hz2];exact hzl);have hinit:((Array.range (len*ei.size)).map (λ j=>z.cells[j%z.cells.size]!)).toList=(List.replicate len ei.zero).flatten:=by
     apply List.ext_getElem?;intro j;have hlen:∀n,((List.replicate n ei.zero).flatten).length=n*ei.size:=λn=>(by simp[hzl]);have hget:∀n j,j<n*ei.size->((List.replicate n ei.zero).flatten)[j]? =ei.zero[j%ei.size]? :=by
      intro n
      induction n with
      |zero=>intro j hj;simp at hj
      |succ n ih=>
       intro j hj;rw[List.replicate_succ,List.flatten_cons];by_cases hjs:j<ei.size;rw[List.getElem?_append_left (by omega),Nat.mod_eq_of_lt hjs];rw[qj (by omega),hzl,ih _ (by rw[Nat.add_mul]at hj;omega)];rw[<- Nat.mod_eq_sub_mod (by omega)]
     by_cases hj:j<len*ei.size;rw[hget len j hj,Array.getElem?_toList,Array.getElem?_map];have hm:j%ei.size<ei.size:=Nat.mod_lt _ (by omega);rw[show (Array.range (len*ei.size))[j]? =some j by simp[hj]];simp;rw[hzs,<- hz2,Array.getElem?_toList];simp[show j%ei.size<z.cells.size by omega];rw[List.getElem?_eq_none (by simp;omega),List.getElem?_eq_none (by rw[hlen];omega)]
    generalize hin:(Array.range (len*ei.size)).map (λ j=>z.cells[j%z.cells.size]!)=uv at hinit;obtain⟨zs,hz3,HQ⟩:=A8 (qe:=λj=>some (j*ei.size,ei.size)) (λ j p h=>h) parts vs.toList _ uv rows.flatten h1 (by
     rw[hinit];have:(List.replicate len (ei.zero.map cv)).flatten=((List.replicate len ei.zero).flatten).map cv:=by
      induction len with
      |zero=>rfl
      |succ n ih=>simp
     rw[this];exact br.cv _) hk hv
    have hrl:rows.length=len:=(by rw[h3];simp);obtain⟨hS,hM⟩:=Mem.alloc (o:=⟨ei.size,rows⟩) (c:=zs) (e:=e) h hn (LP rows zs 0 ei.size zs.toList h2 HQ (λ j u hj=>by simpa using hj));refine⟨.slice (some ⟨w.heap.size,0,none⟩) len len,_,_,?_,hS,by cases kp<;>first|exact hM.zE|exact hM,?_⟩;simp only[Instr.buildSlice,Sem.run_bind,run_underlying (iE ht hkd),Result.andThen_ok,he.size (w:=w)];rw[aM (by omega)];by_cases hl0:len*ei.size=0;have hc0:uv=#[]:=(by rw[<- hin,hl0];simp);have e0:(Array.range (len*ei.size)).map (λ j=>(#[]:Array Value)[j%(#[]:Array Value).size]!)=uv:=(by rw[hc0,hl0];simp);simp only[hl0,if_true,Sem.run_pure,Result.andThen_ok,Sem.run_bind];rw[hl0]at e0;rw[e0,hz3];simp only[Sem.run_bind,newRow,run_newObj,Result.andThen_ok,Sem.run_pure];rfl;simp[hl0,hz];rw[hin,hz3];simp only[Sem.run_bind,newRow,run_newObj,Result.andThen_ok,Sem.run_pure];rfl;simp only[VR];refine .inr ⟨w.heap.size,ei.size,AS zs.size,len,0,by simp[ins],rfl,aB _,?_,by simp⟩;have:=br.length _ _ HQ;simp only[Array.length_toList]at this;rw[amC,T7,this,Nat.zero_add,Nat.zero_add,<- hrl];have hfl:∀(l:Y (List AV)),(∀ r∈l,r.length=ei.size)->l.flatten.length=l.length*ei.size:=by
     intro l
     induction l with
     |nil=>simp
     |cons r rs ih=>intro h;simp[ih (λ r' h'=>h r' (by simp[h'])),h r (by simp)];rw[Nat.add_mul];omega
    rw[hfl rows (λ r hr=>(h2 r hr).1)];exact aB _
  cases ha
end
section
variable {P:Program} {T:eM} {w0:World} {O0:lp} {G:Nat->Option dc} {I:Nat->Prop} {obj:Nat->Option aN} {w:World} {i:Nat}
theorem Kh{d n:Int}{x:J AV}{v:J Value}(h:bnd d x=some n)(hx:∀y,x=some y->∃u,v=some u/\VR P G w I y u)(h0:x=none->v=none):(v=none/\n=d)\/∃k,v=some (.int k n):=by
 cases x with
 |none=>simp[bnd]at h;exact .inl ⟨h0 rfl,h.symm⟩
 |some y=>
  obtain⟨u,rfl,hu⟩:=hx y rfl;unfold bnd at h;split at h;cases ‹some _=none›;rename_i k m heq;cases heq;cases h;exact .inr ⟨k,by rw[hu.1]⟩;cases h
theorem Gv{vn hiv:J Value}{l hh:Int}{len cap:Nat}(h1:(vn=none/\l=0)\/∃k,vn=some (.int k l))(h2:(hiv=none/\hh=(len:Int))\/∃k,hiv=some (.int k hh))(g0:0<=l)(g1:l<=hh)(g2:hh<=(cap:Int)):
 (Instr.sliceBounds true len cap vn hiv none).run P w=.ok (l.toNat,hh.toNat,cap) w:=by
 have hb:∀(k:IntKind) (n:Int) (y:Nat) code,0<=n->n<=(y:Int)->(Instr.sliceBound (.int k n) y code).run P w=.ok n.toNat w:=λk n y code a b=>by simp[Instr.sliceBound,asIntOf,a,b]
 rcases h1 with ⟨rfl,rfl⟩|⟨k,rfl⟩<;>rcases h2 with ⟨rfl,rfl⟩|⟨k',rfl⟩;simp[Instr.sliceBounds];simp[Instr.sliceBounds,hb k' hh cap _ (by omega) g2];simp[Instr.sliceBounds,hb k l len _ g0 g1];have h3:=λcode=>hb k l hh.toNat code g0 (by omega);simp[Instr.sliceBounds,hb k' hh cap _ (by omega) g2,h3]
theorem acW(hT:fF P T)(h:Mem P w0 O0 G I obj w){t:E}{x:AV}{lo hi:J AV}{cP:kx}{get:S}{out:Out}{v:Ω}{vn hiv:J Value}(hg:∀k o,get k=some o->obj k=some o)
 (ha:Ww T t x lo hi cP get=some out) (df:out.ob) (hx:VR P G w I x v) (hlo:∀x,lo=some x->∃v,vn=some v/\VR P G w I x v) (hlo0:lo=none->vn=none) (hhi:∀x,hi=some x->∃v,hiv=some v/\VR P G w I x v) (hhi0:hi=none->hiv=none):
 ∃u,(Instr.sliceAt t v vn hiv none).run P w=.ok u w/\VR P G w I out.v u/\out.upd=[]:=by
 unfold Ww at ha;cases hti:T t with
 |none=>simp[hti]at ha
 |some ti=>
  have ht:=hT t ti hti;simp[hti]at ha;split at ha;rename_i e hkd;cases ie:T e with
  |none=>simp[ie]at ha
  |some ei=>
   have he:=hT e ei ie;simp[ie]at ha;have fS:=iE ht hkd
   have hrun:∀(a:J Addr) (len cap:Nat) (l hh:Int),bnd 0 lo=some l->bnd len hi=some hh->0<=l->l<=hh->hh<=(cap:Int)->
    (Instr.sliceAt t (.slice a len cap) vn hiv none).run P w=.ok (.slice (if cap=l.toNat then a else a.map (·.add (l.toNat*ei.size))) (hh.toNat-l.toNat) (cap-l.toNat)) w:=by intro a len cap l hh b1 b2 b3 b4 b5;have:=Gv (P:=P) (w:=w) (len:=len) (cap:=cap) (Kh b1 hlo hlo0) (Kh b2 hhi hhi0) b3 b4 b5;simp[Instr.sliceAt,Instr.slice,run_underlying fS,this,he.size (w:=w)]
   cases x<;>try simp at ha
   case own k aa len=>
    cases hk:get k with
    |none=>simp[hk]at ha
    |some o=>
     simp only[hk,ai]at ha;split at ha;rename_i hsz;cases hl:bnd 0 lo with
     |none=>simp[hl]at ha
     |some l=>
      cases hh:bnd len hi with
      |none=>simp[hl,hh]at ha
      |some r=>
       simp[hl,hh,ai,oy,bK]at ha;subst ha;obtain⟨b1,b2,b3⟩:=df;simp only[VR]at hx |-;rcases hx with ⟨h1,rfl,h2,h3⟩|⟨b,sz,m,cap,a,h1,rfl,h2,h3,h4⟩;subst h3;subst h2;have hr:r=0:=(by omega);have hl0:l=0:=(by omega);subst hr;subst hl0;refine⟨_,hrun _ _ _ _ _ hl hh b1 b2 (by omega),.inl ⟨h1,by simp,by simp,by simp⟩,trivial⟩;refine⟨_,hrun _ _ _ _ _ hl hh b1 b2 (by omega),.inr ⟨b,sz,m,cap-l.toNat,if cap=l.toNat then a else a+l.toNat*ei.size,h1,?_,by omega,?_,?_⟩,trivial⟩;split;rfl;simp[addr_add];have:aa+l.toNat+(cap-l.toNat)=aa+cap:=(by omega);rw[this];exact h3;intro hc;have hcl:¬cap=l.toNat:=(by omega);rw[aM hcl,h4 (by omega)];have⟨B,hB,hO⟩:=h.du k o (hg k o hk);rw[h1]at hB;cases hB;have hs:sz=o.sz:=hO.1;rw[hs,hsz,Nat.add_mul,Nat.add_assoc]
     cases ha
   case t x=>
    cases x<;>simp[reduceCtorEq]at ha
    case sl rows=>
     cases cP<;>simp[reduceCtorEq]at ha
     case Do rs=>
      cases hl:bnd 0 lo with
      |none=>simp[hl]at ha
      |some l=>
       cases hh:bnd rows.length hi with
       |none=>simp[hl,hh]at ha
       |some r=>
        simp[hl,hh,ai,oy,bK]at ha;subst ha;obtain⟨b1,b2,b3,hrs,hall⟩:=df;simp only[VR,TR]at hx |-;have hlen:rs.length=r.toNat-l.toNat:=(by rw[hrs];simp[length_take,length_drop];omega);rcases hx with ⟨rfl,a,cap,rfl,hac⟩|⟨b,aa,cap,sz,rfl,h1,h2,h3⟩;simp[List.length_nil]at b3;have hr:r=0:=(by omega);have hl0:l=0:=(by omega);subst hr;subst hl0;refine⟨_,hrun _ _ _ _ _ hl hh b1 b2 (by omega),.inl ⟨by rw[hrs];simp,a.map (·.add 0),cap,?_,λh0=>hac (by simpa using h0)⟩,trivial⟩;by_cases hc:cap=0;subst hc;cases a<;>simp[Addr.add];simp[hc];refine⟨_,hrun _ _ _ _ _ hl hh b1 b2 (by omega),.inr ⟨b,if cap=l.toNat then aa else aa+l.toNat*ei.size,cap-l.toNat,sz,?_,by omega,h2,?_⟩,trivial⟩;rw[hlen];split;rfl;simp[addr_add];by_cases hc:cap=l.toNat;have:rs=[]:=eq_nil_of_length_eq_zero (by omega);rw[this];simp[cR];rw[aM hc,hrs];have hd:∀(n:Nat) (rows:Y (List Tree)) (aa:Nat),cR w I rows b aa sz->cR w I (rows.drop n) b (aa+n*sz) sz:=by
         intro n
         induction n with
         |zero=>intro rows aa h;simpa using h
         |succ n ih=>
          intro rows aa h;cases rows with
          |nil=>simp[cR]
          |cons r rs=>
           simp[cR]at h;rw[List.drop_succ_cons,show aa+(n+1)*sz=aa+sz+n*sz by rw[Nat.add_mul];omega];exact ih rs _ h.2.2
        have htk:∀(n:Nat) (rows:Y (List Tree)) (aa:Nat),cR w I rows b aa sz->cR w I (rows.take n) b aa sz:=by
         intro n
         induction n with
         |zero=>intro rows aa h;simp[cR]
         |succ n ih=>
          intro rows aa h;cases rows with
          |nil=>simp[cR]
          |cons r rs=>
           simp[cR]at h;simp[List.take_succ_cons,cR];exact⟨h.1,h.2.1,ih rs _ h.2.2⟩
        by_cases hne:rows=[];subst hne;simp[cR];obtain⟨r0,ae,rfl⟩:=List.exists_cons_of_ne_nil hne;have hsz:ei.size=sz:=(by have e1:=hall r0 (by simp);simp[cR]at h3;omega);rw[hsz];exact htk _ _ _ (hd _ _ _ h3)
  cases ha
end
section
variable {P:Program} {T:eM} {w0:World} {O0:lp} {G:Nat->Option dc} {I:Nat->Prop} {obj:Nat->Option aN} {w:World} {i:Nat}
theorem Mem.q7{i:Nat}{o:aN}(h:Mem P w0 O0 G I obj w)(hn:G i=none)(ho:o.rows=[]):
 Step G I w i (ins G i .none) I w/\Mem P w0 O0 (ins G i .none) I (bX obj [(i,some o)]) w:=by have hS:Step G I w i (ins G i .none) I w:=⟨λ j hj=>by simp[ins,j7.ne hj],oF hn,λ_ _=>rfl,λ_ h=>h⟩;refine⟨hS,?_⟩;constructor;intro k o' hk;simp[bX]at hk;split at hk;cases hk;rename_i hki;exact⟨.none,by simp[ins,hki],ho⟩;have⟨B,hB,hO⟩:=h.du k o' hk;exact⟨B,oF hn _ _ hB,OR.mono hS.ext hS.same hS.inc (λ _ _=>rfl) hO⟩;intro k k' o1 o2 B1 B2 b h1 h2 h3 h4 h5 h6;simp[bX]at h1 h2;simp[ins]at h3 h4;split at h3;cases h3;cases h5;split at h4;cases h4;cases h6;rename_i a b;rw[aM a]at h1;rw[aM b]at h2;exact h.iv k k' o1 o2 B1 B2 _ h1 h2 h3 h4 h5 h6;intro k o' B b h1 h2 h3;simp[bX]at h1;simp[ins]at h2;split at h2;cases h2;cases h3;rename_i a;rw[aM a]at h1;exact h.ownB k o' B b h1 h2 h3;exact h.lt;exact h.up;exact h.keep;exact h.le;exact h.os;exact h.tape;exact h.output;intro j C hj;exact oF hn _ _ (h.anch j C hj);exact h.vars
theorem zx:∀(rows:Y (List AV))(c:Array Value)(aa sz:Nat)(l:Y Value),(∀ r∈rows,r.length=sz)->br P G w I rows.flatten l->(∀ u∈l,oneCell u)->(∀ j u,l[j]? =some u->c[aa+j]? =some u)->cj P G w I rows c aa sz
 |[],_,_,_,_,_,_,_,_=>by simp[cj]
 |r::rs,c,aa,sz,l,hr,hl,h1,hc=>by
  have hrl:=hr r (by simp);simp at hl;have ht:=br.take sz _ _ hl;have hd:=br.drop sz _ _ hl;rw[List.take_append_of_le_length (by omega),take_of_length_le (by omega)]at ht;rw[List.drop_append_of_le_length (by omega),List.drop_of_length_le (by omega),fI]at hd;refine⟨hrl,d8.pP r _ c aa ht (λ u hu=>h1 u (List.mem_of_mem_take hu)) (λ j u hj=>?_),zx rs c (aa+sz) sz _ (λ r' hr'=>hr r' (by simp[hr'])) hd (λ u hu=>h1 u (List.mem_of_mem_drop hu)) (λ j u hj=>?_)⟩
  all_goals grind
theorem cj.list:∀(rows:Y (List AV))(c:Array Value)(aa sz:Nat),cj P G w I rows c aa sz->∃l:Y Value,br P G w I rows.flatten l/\(∀ u∈l,oneCell u)/\l.length=rows.length*sz/\(∀ r∈rows,r.length=sz)/\∀j u,l[j]? =some u->c[aa+j]? =some u
 |[],_,_,_,_=>⟨[],by simp[br],by simp,by simp,by simp,by simp⟩
 |r::rs,c,aa,sz,⟨h1,h2,h3⟩=>by
  have⟨l1,a1,a2,a3⟩:=d8.list r c aa h2;have⟨l2,b1,b2,b3,b4,b5⟩:=cj.list rs c (aa+sz) sz h3;have hl1:l1.length=sz:=by rw[br.length _ _ a1,h1]
  refine⟨l1++l2,by simp;exact br.append _ _ _ _ a1 b1,λu hu=>?_,?_,λr' hr'=>?_,λj u hj=>?_⟩
  all_goals grind
theorem cR.list{b sz:Nat}:∀(rows:Y (List Tree))(aa:Nat),cR w I rows b aa sz->∃l:Y Value,br P G w I (aJ rows).flatten l/\(∀ u∈l,oneCell u)/\l.length=rows.length*sz/\(∀ r∈aJ rows,r.length=sz)/\∀j u,l[j]? =some u->w.cell? ⟨b,aa+j,none⟩=some u
 |[],_,_=>⟨[],by simp[aJ,br],by simp,by simp,by simp[aJ],by simp⟩
 |r::rs,aa,h=>by
  obtain⟨h1,h2,h3⟩:=h;have⟨l1,a1,a3⟩:=eL.list (P:=P) (G:=G) r b aa h2;have⟨l2,b1,b2,b3,b4,b5⟩:=cR.list rs (aa+sz) h3;have hl1:l1.length=sz:=by rw[br.length _ _ a1];simpa using h1
  have a2:∀u∈l1,oneCell u:=by intro u hu;obtain⟨j,hj⟩:=List.getElem?_of_mem hu;have hjl:j<(r.map AV.t).length:=(by have:=(bU.1 hj).1;rw[br.length _ _ a1]at this;exact this);obtain⟨u',hu',hv⟩:=br.get _ _ j _ a1 (dI hjl);rw[hj]at hu';injection hu' with hu';subst hu';refine VR.one ?_ hv;simp[qC]
  refine⟨l1++l2,by simp[aJ];exact br.append _ _ _ _ a1 b1,λu hu=>?_,?_,λr' hr'=>?_,λj u hj=>?_⟩;rcases bI.1 hu with hu|hu;exact a2 u hu;exact b2 u hu;simp[Nat.add_mul];omega;simp only[aJ,bq,aI]at hr';rcases hr' with rfl|hr';simpa using h1;exact b4 r' hr'
  all_goals grind
def aqu(P:Q)(G:ζ)(w:M)(I:Ψ)(size n:Nat)(al:Y (List AV))(v:Ω):Prop:=
 (n=0/\∃b c,v=.slice b 0 c)\/∃(a:Addr)(c:Nat)(l:Y Value),v=.slice (some a) n c/\0<n/\br P G w I al.flatten l/\(∀ u∈l,oneCell u)/\l.length=n*size/\(∀ r∈al,r.length=size)/\∀j u,l[j]? =some u->w.cell? (a.add j)=some u
theorem abu(h:Mem P w0 O0 G I obj w){size n:Nat}{ob:Prop}{al:Y (List AV)}{y:AV}{get:S}{v:Ω}(hg:∀k o,get k=some o->obj k=some o)
 (hs:Wx size y get=some (n,ob,al)) (df:ob) (hl:al.length=n) (hy:VR P G w I y v):aqu P G w I size n al v:=by
 unfold Wx at hs;split at hs;rename_i k aa len;cases hk:get k with
 |none=>simp[hk]at hs
 |some o=>
  simp only[hk,ai]at hs;split at hs;rename_i hsz;simp at hs;obtain⟨rfl,_,rfl⟩:=hs;simp only[VR]at hy;rcases hy with ⟨_,rfl,_,rfl⟩|⟨b,sz,m,cap,a,h1,rfl,h2,h3,h4⟩;exact .inl ⟨rfl,_,_,rfl⟩;by_cases h0:len=0;subst h0;exact .inl ⟨rfl,_,_,rfl⟩;have⟨B,hB,hO⟩:=h.du k o (hg k o hk);rw[h1]at hB;cases hB;obtain⟨hs,c,e,hc,_,hO⟩:=hO;have h5:=cj.take len _ _ _ _ (cj.drop aa _ _ _ _ hO);obtain⟨l,g1,g2,g3,g4,g5⟩:=cj.list _ _ _ _ h5;refine .inr ⟨_,cap,l,rfl,by omega,g1,g2,?_,λr hr=>?_,λj u hj=>?_⟩;rw[g3,hl,hs,hsz];rw[g4 r hr,hs,hsz];rw[addr_add,h4 (by omega)];simp[World.cell?,hc,g5 j u hj];cases hs
 rename_i rows;obtain⟨rfl,rfl,rfl⟩:=hs;simp only[VR,TR]at hy;rcases hy with ⟨rfl,_,_,rfl,_⟩|⟨b,aa,cap,sz,rfl,h1,h2,h3⟩;exact .inl ⟨rfl,_,_,rfl⟩;cases rows with
 |nil=>exact .inl ⟨rfl,_,_,rfl⟩
 |cons r rs=>
  obtain⟨l,g1,g2,g3,g4,g5⟩:=cR.list (P:=P) (G:=G) _ _ h3;have hsz:sz=size:=by have e1:=df r (by simp);simp[cR]at h3;omega
  subst hsz;exact .inr ⟨_,cap,l,rfl,by simp,g1,g2,g3,g4,λj u hj=>by rw[addr_add];exact g5 j u hj⟩
 cases hs
theorem oneCell'{u:Ω}(h:oneCell u):u.oneCell'=true:=by cases u<;>first|rfl|exact h.elim
theorem Mem.grow(h:Mem P w0 O0 G I obj w)(hn:G i=none){size:Nat}{rows:Y (List AV)}{l:Y Value}{e:E}{ae:Array Value}(hr:∀r∈rows,r.length=size)(hl:br P G w I rows.flatten l)(h1:∀u∈l,oneCell u):
 Step G I w i (ins G i (.at w.heap.size size (AS (l.toArray++ae).size))) I (w.drew.alloc (.cells (l.toArray++ae) e))/\
 Mem P w0 O0 (ins G i (.at w.heap.size size (AS (l.toArray++ae).size))) I (bX obj [(i,some ⟨size,rows⟩)]) (w.drew.alloc (.cells (l.toArray++ae) e)):=by have hd:=h.drew;obtain⟨hS,hM⟩:=Mem.alloc (i:=i) (o:=⟨size,rows⟩) (c:=l.toArray++ae) (e:=e) hd hn (zx rows _ 0 size l hr (br.mono (w:=w) (w':=w.drew) (λ _ _ h=>h) (λ _ _=>rfl) (λ _ h=>h) _ _ hl) h1 (λ j u hj=>by have hlt:=(bU.1 hj).1;rw[Array.getElem?_append_left (by simpa using hlt)];simpa using hj));exact⟨⟨hS.other,hS.ext,λb hb=>hS.same b hb,hS.inc⟩,hM⟩
theorem Gw(hT:fF P T)(h:Mem P w0 O0 G I obj w)(hn:G i=none){t e ty:E}{ei:p6}(fS:P.underlying t=some (.slice e))(ie:T e=some ei){n:Nat}{al:Y (List AV)}{v:Ω}
 (hsrc:aqu P G w I ei.size n al v) (hl:al.length=n) (h48:n*ei.bytes<=140737488355328) (h63:n<=maxLen):
 ∃u w' β',(Builtin.append_ #[t,t] ty #[.slice none 0 0,v]).run P w=.ok u w'/\Step G I w i β' I w'/\Mem P w0 O0 β' I (bX obj [(i,some ⟨ei.size,al⟩)]) w'/\VR P β' w' I (.own i 0 n) u:=by
 have he:=hT e ei ie;obtain⟨info,d,z,g1,g2,g3,g4,g5,g6,g7,g8⟩:=he.ex;rcases hsrc with ⟨rfl,b,c,rfl⟩|⟨a,c,l,rfl,hpos,q1,q2,q3,q4,q5⟩;have hnew:al=[]:=eq_nil_of_length_eq_zero hl;subst hnew;have⟨hS,hM⟩:=Mem.q7 (i:=i) (o:=⟨ei.size,[]⟩) h hn rfl;refine⟨.slice none 0 0,w,_,?_,hS,hM,by simp only[VR];exact .inl ⟨by simp[ins],trivial,trivial,trivial⟩⟩;cases b<;>simp[Builtin.append_,run_underlying fS,sizeOf,typeInfo,g1,Builtin.lenOf,Builtin.firstCells,loadCells,loadCellsFrom];have hm:n<=9223372036854775807:=by simp[maxLen]at h63;omega
 have hrun:=run_append_nil (P:=P) w t ty e info z fS g1 g5 a n c l (by rw[q3,g3]) q5 hpos (by omega) (by rw[g4];omega);have⟨hS,hM⟩:=Mem.grow (i:=i) (e:=e) (ae:=Builtin.zeroCells z.cells (grownCap w n 0 e-n)) h hn q4 q1 q2;refine⟨_,_,_,hrun,hS,hM,?_⟩;simp only[VR];refine .inr ⟨w.heap.size,ei.size,_,_,0,by simp[ins];rfl,rfl,grownCap_ge w n 0 e,?_,by simp⟩;have hz:z.cells.size=ei.size:=by rw[<- Array.length_toList,g6];exact he.len
 have hge:=grownCap_ge w n 0 e;simp[size_zeroCells,T7,q3,hz,Nat.zero_add,<- Nat.add_mul];exact Nat.mul_le_mul_right _ (by omega)
theorem Ul(hT:fF P T)(h:Mem P w0 O0 G I obj w)(hn:G i=none){t e ty:E}{ei:p6}(fS:P.underlying t=some (.slice e))(ie:T e=some ei){n k aa len:Nat}{o:aN}{al:Y (List AV)}{u v:Ω}
 (hk:obj k=some o) (hsz:o.sz=ei.size) (hlen:(o.rows.drop aa).length=len) (hx:VR P G w I (.own k aa len) u)
 (hsrc:aqu P G w I ei.size n al v) (hl:al.length=n) (h48:(len+n)*ei.bytes<=140737488355328) (h63:len+n<=maxLen):
 ∃z w' β',(Builtin.append_ #[t,t] ty #[u,v]).run P w=.ok z w'/\Step G I w i β' I w'/\Mem P w0 O0 β' I (bX obj [(i,some ⟨ei.size,o.rows.drop aa++al⟩),(k,none)]) w'/\VR P β' w' I (.own i 0 (len+n)) z:=by
 have he:=hT e ei ie;obtain⟨info,d,z,g1,g2,g3,g4,g5,g6,g7,g8⟩:=he.ex;have hki:k≠i:=λe=>by have⟨B,hB,_⟩:=h.du k o hk;rw[e,hn]at hB;cases hB
 have CD:∀{β':Nat->J dc} {I':Nat->Prop} {w':World} {o':aN},Mem P w0 O0 β' I' (bX obj [(i,some o')]) w'->Mem P w0 O0 β' I' (bX obj [(i,some o'),(k,none)]) w':=by intro β' I' w' o' hM;refine hM.drop _ λj oj hj=>?_;simp only[bX]at hj |-;split;rw[aP ‹_›]at hj;exact hj;rw[aM ‹_›]at hj;split at hj;cases hj;exact hj
 simp only[VR]at hx;rcases hx with ⟨hβ,rfl,_,rfl⟩|⟨b,sz,m,cap,a,hβ,rfl,h2,h3,h4⟩;have hr:o.rows.drop aa=[]:=eq_nil_of_length_eq_zero hlen;rw[hr,fI,Nat.zero_add];obtain⟨z',w',β',e1,e2,e3,e4⟩:=Gw (ty:=ty) hT h hn fS ie hsrc hl (by simpa using h48) (by simpa using h63);exact⟨z',w',β',e1,e2,CD e3,e4⟩;have⟨B,hB,hO⟩:=h.du k o hk;rw[hβ]at hB;cases hB;obtain⟨hs,c,ce,hc,hcn,hO⟩:=hO;have hle:m.s+aa*sz<=m.m:=Nat.le_trans (Nat.add_le_add_left (Nat.mul_le_mul_right _ (Nat.le_add_right _ _)) _) h3;rw[Nat.add_mul]at h3;have hO:=cj.drop aa _ _ _ _ hO;obtain⟨hS0,hM0⟩:=Mem.Ax (C:=.at b sz ⟨m.m,m.s+aa*sz,hle⟩) (o1:=⟨ei.size,o.rows.drop aa⟩) h hn hk hβ rfl ⟨by rw[hs,hsz],c,ce,hc,hcn,hO⟩;generalize hp:m.s+aa*sz=p at hO hle hS0 hM0 h4;rcases hsrc with ⟨rfl,b',c',rfl⟩|⟨a',c',l,rfl,hpos,q1,q2,q3,q4,q5⟩;have hnew:al=[]:=eq_nil_of_length_eq_zero hl;subst hnew;rw[List.append_nil,Nat.add_zero];refine⟨.slice (some ⟨b,a,none⟩) len cap,w,_,?_,hS0,hM0,?_⟩;cases b'<;>simp[Builtin.append_,run_underlying fS,sizeOf,typeInfo,g1,Builtin.lenOf,Builtin.firstCells,loadCells,loadCellsFrom,h2,storeCells];simp only[VR];exact .inr ⟨b,sz,⟨m.m,p,hle⟩,cap,a,by simp[ins],rfl,h2,by simp only[Nat.zero_add];omega,λh=>by simp[h4 h]⟩;obtain⟨ol,o1,o2,o3,o4,o5⟩:=cj.list _ _ _ _ hO;have hrl:∀r∈o.rows.drop aa++al,r.length=ei.size:=λr hr=>by rcases bI.1 hr with hr|hr;rw[o4 r hr,hs,hsz];exact q4 r hr
 have hol:ol.length=len*info.size:=by rw[o3,hlen,hs,hsz,g3]
 by_cases hroom:len+n<=cap;have ha:a=p:=h4 (by omega);subst ha;have hcsz:a+cap*info.size<=c.size:=by rw[g3,<- hsz,<- hs,hcn];omega
 have hfit:a+len*info.size+l.length<=c.size:=by have:(len+n)*info.size<=cap*info.size:=Nat.mul_le_mul_right _ hroom;rw[Nat.add_mul]at this;rw[q3,<- g3];omega
 have hf:=run_firstCells_some (P:=P) w info.size n a' n c' l (by rw[q3,g3]) q5;have hst:=run_storeCells_at P b (a+len*info.size) ce l 0 c w hc (by omega) (λ u hu=>oneCell' (q2 u hu));simp only[Nat.add_zero]at hst;generalize hc':(List.take (a+len*info.size) c.toList++l++List.drop (a+len*info.size+l.length) c.toList).toArray=cc at hst;have asO:cc.size=c.size:=by rw[<- hc'];simp[length_take,length_drop];omega
 have hrun:(Builtin.append_ #[t,t] ty #[.slice (some ⟨b,a,none⟩) len cap,.slice (some a') n c']).run P w=.ok (.slice (some ⟨b,a,none⟩) (len+n) cap) (w.setRow b cc):=by have hf':(Builtin.firstCells info.size n (.slice (some a') n c')).run P w=.ok l.toArray w:=hf;simp[Builtin.append_,run_underlying fS,sizeOf,typeInfo,g1,Builtin.lenOf,hroom,hf',addr_add,hst]
 have hcells:∀j u,(ol++l)[j]? =some u->cc[a+j]? =some u:=by
  intro j u hj;rw[<- hc',List.getElem?_toArray];have h1:(c.toList.take (a+len*info.size)).length=a+len*info.size:=by simp[length_take];omega
  by_cases hjl:j<ol.length;rw[List.getElem?_append_left hjl]at hj;have:=o5 j u hj;rw[aU,List.getElem?_append_left (by omega),List.getElem?_take,aP (by omega),Array.getElem?_toList];exact this;rw[qj (by omega)]at hj;have hjl2:=(bU.1 hj).1;rw[aU,qj (by omega),h1,List.getElem?_append_left (by omega),show a+j-(a+len*info.size)=j-ol.length by omega];exact hj
 obtain⟨ye,hM⟩:=Mem.write (o':=⟨ei.size,o.rows.drop aa++al⟩) hM0 (k:=i) (o:=⟨ei.size,o.rows.drop aa⟩) (b:=b) (s:=sz) (n:=⟨m.m,a,hle⟩) (by simp only[bX,if_true]) (by simp only[ins,if_true]) (c':=cc) (e:=ce) (setRow_heap w b c cc ce (0,0) hc) (λ b' hb=>setRow_other w b b' cc hb) (by simp) rfl rfl rfl (by rw[hs,hsz]) (by simp;omega)
  (zx _ _ _ ei.size (ol++l) hrl (br.mono hS0.ext (λ _ _=>rfl) (λ _ h=>h) _ _ (by simp only[List.flatten_append];exact br.append _ _ _ _ o1 q1)) (λ u hu=>by rcases bI.1 hu with hu|hu;exact o2 u hu;exact q2 u hu) hcells)
 refine⟨_,_,_,hrun,⟨hS0.other,hS0.ext,ye,λ_ h=>h⟩,hM.drop _ (λ j oj hj=>?_),?_⟩;simp only[bX]at hj |-;split at hj;rw[aP ‹_›];exact hj;rw[aM ‹_›,aM ‹_›];exact hj;simp only[VR];exact .inr ⟨b,sz,⟨m.m,a,hle⟩,cap,a,by simp[ins],rfl,hroom,by simp only[Nat.zero_add];omega,by simp⟩;have holds:∀j v,ol[j]? =some v->w.cell? ((⟨b,a,none⟩:Addr).add j)=some v:=by
  intro j v hj;have hjl:=(bU.1 hj).1;have B5:len≠0:=λh0=>by rw[hol,h0]at hjl;simp at hjl
  rw[addr_add,h4 (by omega)];have:=o5 j v hj;simp[World.cell?,hc]at this |-;exact this
 have hm:len+n<=9223372036854775807:=by simp[maxLen]at h63;omega
 have hrun:=run_append_grow (P:=P) w t ty e info z fS g1 g5 ⟨b,a,none⟩ len cap ol hol holds a' n c' l (by rw[q3,g3]) q5 (by omega) (by omega) (growslice_fits (by omega) (by rw[g4];exact h48));have happ:br P G w I (o.rows.drop aa++al).flatten (ol++l):=by simp[List.flatten_append];exact br.append _ _ _ _ o1 q1
 obtain⟨hS,hM⟩:=Mem.grow (i:=i) (e:=e) (ae:=Builtin.zeroCells z.cells (grownCap w (len+n) cap e-(len+n))) h hn hrl happ (λ u hu=>by rcases bI.1 hu with hu|hu;exact o2 u hu;exact q2 u hu);have asW:ol.toArray++l.toArray++Builtin.zeroCells z.cells (grownCap w (len+n) cap e-(len+n))=(ol++l).toArray++Builtin.zeroCells z.cells (grownCap w (len+n) cap e-(len+n)):=by simp
 rw[asW]at hrun;refine⟨_,_,_,hrun,hS,CD hM,?_⟩;simp only[VR];refine .inr ⟨w.heap.size,ei.size,_,_,0,by simp[ins];rfl,rfl,grownCap_ge w (len+n) cap e,?_,by simp⟩;have hz:z.cells.size=ei.size:=by rw[<- Array.length_toList,g6];exact he.len
 have hge:=grownCap_ge w (len+n) cap e;simp[size_zeroCells,amC,T7,q3,hol,hz,g3,Nat.zero_add,<- Nat.add_mul];exact Nat.mul_le_mul_right _ (by omega)
end
section
variable {P:Program} {T:eM} {w0:World} {O0:lp} {G:Nat->Option dc} {I:Nat->Prop} {obj:Nat->Option aN} {w:World} {i:Nat}
theorem aaf(hT:fF P T)(h:Mem P w0 O0 G I obj w)(hn:G (cD i)=none){t ty:E}{x y:AV}{cP:kx}{get:S}{out:Out}{u v:Ω}(hg:∀k o,get k=some o->obj k=some o)
 (ha:A7 T i t x y cP get=some out) (df:out.ob) (hx:VR P G w I x u) (hy:VR P G w I y v):
 ∃z w' β',(Builtin.append_ #[t,t] ty #[u,v]).run P w=.ok z w'/\Step G I w (cD i) β' I w'/\Mem P w0 O0 β' I (bX obj out.upd) w'/\VR P β' w' I out.v z:=by
 unfold A7 at ha;cases hti:T t with
 |none=>simp[hti]at ha
 |some ti=>
  have ht:=hT t ti hti;simp only[hti,ai]at ha;split at ha;rename_i e hkd;cases ie:T e with
  |none=>simp[ie]at ha
  |some ei=>
   simp only[ie,ai]at ha;have fS:=iE ht hkd;split at ha;cases hs:Wx ei.size y get with
   |none=>simp[hs]at ha
   |some p=>
    obtain⟨n,ob,al⟩:=p;simp only[hs,ai]at ha;split at ha;rename_i k aa len;cases hk:get k with
    |none=>simp[hk]at ha
    |some o=>
     simp only[hk,ai]at ha;split at ha;rename_i hsz;cases ha;obtain⟨b1,b2,b3,rfl,b5,b6⟩:=df;have e:(o.rows.drop aa++al).length=len+n:=(by rw[eU,b2,b3]);simp only[e];exact Ul hT h hn fS ie (hg k o hk) hsz b2 hx (abu h hg hs b1 b3 hy) b3 b5 b6;cases ha
    cases ha;obtain⟨b1,b2,rfl,b5,b6⟩:=df;simp[VR]at hx;subst hx;simp only[b2];exact Gw hT h hn fS ie (abu h hg hs b1 b2 hy) b2 b5 b6;cases ha
   cases ha
  cases ha
theorem br.map{ρ:Operand->AV}{r:Operand->Value}(hρ:∀x,VR P G w I (ρ x) (r x)):∀(l:Y Operand),br P G w I (l.map ρ) (l.map r)
 |[]=>by simp[br]
 |x::xs=>by simp;exact⟨hρ x,br.map hρ xs⟩
theorem WC(hT:fF P T)(h:Mem P w0 O0 G I obj w)(hn:G (cD i)=none){b:Builtin}{args:Y AV}{ej:Array TypeId}{cP:kx}{get:S}{out:Out}(hg:∀k o,get k=some o->obj k=some o)
 {vs:Array Value} {ty:E} {ag:Array Operand} (ha:Dq T i b args ej.toList cP get=some out) (df:out.ob) (hv:br P G w I args vs.toList) {r:Operand->Value} (hops:vs=ag.map r) {dst:J Tmp} {am:String} {after:Array Edge} {guard:J (Nat×Bool)}:
 tM P w0 O0 G I obj w i out ((execOp r ⟨dst,.call { callee:=.builtin b,args:=ag,argTypes:=ej },ty,am,after,guard⟩).run P w):=by
 unfold Dq at ha;split at ha;rename_i x t s6;obtain⟨v,hvs⟩:∃v,vs=#[v]:=by
  obtain⟨l⟩:=vs
  match l,hv with
  |[v],_=>exact⟨v,rfl⟩
  |[],h|_::_::_,h=>simp[br]at h
 have ht:ej=#[t]:=by cases ej;simpa using s6
 subst hvs ht;simp only[br]at hv;have⟨u,h1,h2,h3⟩:=ahH (ty:=ty) hT ha df hv.1;refine⟨u,w,G,I,.inl ?_,Step.refl ..,by rw[h3];exact h,h2⟩;simp[execOp,resolve,invoke,builtin,<- hops,h1];have⟨u,h1,h2,h3⟩:=abr (ej:=ej) (ty:=ty) ha hv;simp at h1;refine⟨u,w,G,I,.inl ?_,Step.refl ..,by rw[h3];exact h,h2⟩;simp[execOp,resolve,invoke,builtin,<- hops,h1];have⟨u,h1,h2,h3⟩:=abr (ej:=ej) (ty:=ty) ha hv;simp at h1;refine⟨u,w,G,I,.inl ?_,Step.refl ..,by rw[h3];exact h,h2⟩;simp[execOp,resolve,invoke,builtin,<- hops,h1];rename_i x y t u s6;split at ha;rename_i htu;subst htu;obtain⟨v,v',hvs⟩:∃v v',vs=#[v,v']:=by
  obtain⟨l⟩:=vs
  match l,hv with
  |[v,v'],_=>exact⟨v,v',rfl⟩
  |[],h|[_],h|_::_::_::_,h=>simp[br]at h
 have ht:ej=#[t,t]:=by cases ej;simpa using s6
 subst hvs ht;simp only[br]at hv;have⟨z,w',β',h1,h2,h3,h4⟩:=aaf (ty:=ty) hT h hn hg ha df hv.1 hv.2.1;refine⟨z,w',β',I,.inl ?_,h2,h3,h4⟩;simp[execOp,resolve,invoke,builtin,<- hops,h1];cases ha;cases ha
theorem Te(hT:fF P T)(h:Mem P w0 O0 G I obj w)(hn:G (cD i)=none){o:Oper}{cP:kx}{ρ:Operand->AV}{get:S}{out:Out}(hg:∀k o,get k=some o->obj k=some o)
 {r:Operand->Value} (hρ:∀x,VR P G w I (ρ x) (r x)) (ha:rO T i o cP ρ get=some out) (df:out.ob):tM P w0 O0 G I obj w i out ((execOp r o).run P w):=by
 obtain⟨dst,op,ty,am,after,guard⟩:=o;have val:∀{s:Sem Value}{z:Value},s.run P w=.ok z w->out.upd=[]->VR P G w I out.v z->tM P w0 O0 G I obj w i out ((do pure (.value (<- s)):Sem Next).run P w):=by intro s z h1 h2 h3;refine⟨z,w,G,I,.inl (by simp[h1]),Step.refl ..,by rw[h2];exact h,h3⟩
 have val':∀{s:Sem Value} {z:Value} {w':World} {β':Nat->J dc},s.run P w=.ok z w'->Step G I w (cD i) β' I w'->Mem P w0 O0 β' I (bX obj out.upd) w'->VR P β' w' I out.v z->tM P w0 O0 G I obj w i out ((do pure (.value (<- s)):Sem Next).run P w):=by intro s z w' β' h1 h2 h3 h4;exact⟨z,w',β',I,.inl (by simp[h1]),h2,h3,h4⟩
 unfold rO at ha;split at ha;rename_i x heq;simp at heq;subst heq;simp[pv]at ha;subst ha;exact tM.pure h (hρ x);rename_i x heq;simp at heq;subst heq;simp[pv]at ha;subst ha;exact tM.pure h (hρ x);rename_i c a b heq;simp at heq;subst heq;split at ha;rename_i t hc;simp[pv]at ha;subst ha;have h1:=hρ c;rw[hc]at h1;simp[VR]at h1;refine⟨if t then r a else r b,w,G,I,.inl ?_,Step.refl ..,h,?_⟩;simp[execOp,h1.1,asBool];simp;rw[Wy];cases t;exact hρ b;exact hρ a;cases ha;rename_i e heq;simp at heq;subst heq;have⟨u,w',β',h1,h2,h3,h4⟩:=acR hT h hn ha;exact val' h1 h2 h3 h4;rename_i e x heq;simp at heq;subst heq;have⟨u,w',β',h1,h2,h3,h4⟩:=ahF (e:=e) h hn ha (hρ x);exact val' h1 h2 h3 h4;rename_i t parts heq;simp at heq;subst heq;obtain⟨z,h1,h2,h3⟩:=acV (w:=w) (P:=P) (G:=G) (I:=I) (vs:=parts.map λ(i,x)=>(i,r x)) hT ha (by simp) (by simp;have hm:=br.map (λ x=>hρ x) (parts.toList.map (·.2));simp at hm;exact hm);exact val h1 h3 h2;rename_i t len parts heq;simp at heq;subst heq;obtain⟨z,w',β',h1,h2,h3,h4⟩:=NK (vs:=parts.map λ(i,x)=>(i,r x)) hT h hn ha (by simp) (by simp;have hm:=br.map (λ x=>hρ x) (parts.toList.map (·.2));simp at hm;exact hm);exact val' h1 h2 h3 h4;rename_i t a heq;simp at heq;subst heq;have⟨u,h1,h2,h3⟩:=Td hT h hg ha df (hρ a);exact val h1 h3 h2;rename_i t a x heq;simp at heq;subst heq;have⟨w',h1,h2,h3,h4⟩:=acQ hT h hg ha df (hρ a) (hρ x);exact⟨undef,w',G,I,.inr ⟨by simp[execOp,h1],rfl⟩,⟨λ _ _=>rfl,λ_ _ h=>h,h2,λ_ h=>h⟩,h3,by rw[h4];simp[VR]⟩;rename_i op t x y yt heq;simp at heq;subst heq;have⟨z,h1,h2,h3⟩:=ahG (xo:=x) (yo:=y) hT ha df (hρ x) (hρ y);exact val h1 h3 h2;rename_i op t x heq;simp at heq;subst heq;have⟨z,h1,h2,h3⟩:=akO ha (hρ x);exact val h1 h3 h2;rename_i f first caps heq
 simp at heq;subst heq;simp[pv]at ha;subst ha;refine⟨.func (.func f) (first.map r) (caps.map r),w,G,I,.inl ?_,Step.refl ..,h,?_⟩;simp[execOp,Instr.makeFunc];simp only[VR];exact⟨_,_,rfl,by rw[Array.toList_map];exact br.map hρ _,by rw[Array.toList_map];exact br.map hρ _⟩;rename_i t x lo hi heq;simp at heq;subst heq
 obtain⟨u,h1,h2,h3⟩:=acW (vn:=lo.map r) (hiv:=hi.map r) hT h hg ha df (hρ x)
  (λ y hy=>by
   cases lo with
   |none=>simp at hy
   |some z=>simp at hy;subst hy;exact⟨r z,rfl,hρ z⟩) (λ hy=>by cases lo<;>simp at hy |-)
  (λ y hy=>by
   cases hi with
   |none=>simp at hy
   |some z=>simp at hy;subst hy;exact⟨r z,rfl,hρ z⟩) (λ hy=>by cases hi<;>simp at hy |-)
 exact val h1 h3 h2;rename_i t x f heq;simp at heq;subst heq;have⟨u,h1,h2,h3⟩:=QA hT ha (hρ x);exact val h1 h3 h2;rename_i t x f heq;simp at heq;subst heq;have⟨u,h1,h2,h3⟩:=acS hT ha (hρ x);exact val h1 h3 h2;rename_i t x j heq;simp at heq;subst heq;have⟨u,h1,h2,h3⟩:=QB hT h hg ha df (hρ x) (hρ j);exact val h1 h3 h2;rename_i x j heq;simp at heq;subst heq;have⟨u,h1,h2,h3⟩:=WA ha (hρ x);exact val h1 h3 h2;rename_i b args ej heq;simp at heq;subst heq;exact WC (ty:=ty) hT h hn hg (vs:=args.map r) ha df (by rw[Array.toList_map];exact br.map hρ _) rfl;cases ha
end
def Tree.flat:Tree->Prop
 |.sc _=>True
 |.sl _=>False
def TV.flat:TV->Prop
 |.s x=>x.flat
 |.a cs=>∀x∈cs,x.flat
def RC.flat:RC->Prop
 |.d x=>x.flat
 |.fresh _ rows=>∀r∈rows,∀x∈r,x.flat
 |.whole _ _=>True
def RV.flat:RV->Prop
 |.one c=>c.flat
 |.eE cs=>∀c∈cs,c.flat
def KW(i:Nat)(ab:Y Nat):RC->AV×List (Nat×Option aN)
 |.whole j len=>(match ab[j]? with|some k=>.own k 0 len|none=>.undef,[])
 |.d x=>(x.av,[])
 |.fresh sz rows=>(.own (cD i) 0 (aJ rows).length,[(cD i,some ⟨sz,aJ rows⟩)])
def NN(i:Nat)(ab:Y Nat):Y RC->J (List AV×List (Nat×Option aN))
 |[]=>some ([],[])
 |c::cs=>(NN i ab cs).bind λp=>if (KW i ab c).2.isEmpty || p.2.isEmpty then some ((KW i ab c).1::p.1,(KW i ab c).2++p.2)else none
def imp(i:Nat)(ab:Y Nat):RV->J (AV×List (Nat×Option aN))
 |.one c=>some (KW i ab c)
 |.eE cs=>(NN i ab cs).bind λp=>some (.eE p.1,p.2)
mutual
def qd(P:Program)(get:Nat->Option aN):AV->List LH->Option (AV×List LH×List Prop)
 |.t x,hs=>some (.t x,hs,[])
 |.agg cs,hs=>(nL P get cs hs).bind λp=>some (.agg p.1,p.2.1,p.2.2)
 |.eE _,_=>none
 |.own k aa len,hs=>match hs with
  |.rows tr::hs=>(get k).bind λo=>some (.t (.sl tr),hs,[(o.rows.drop aa).take len=aJ tr/\tr.length=len])
  |_=>none
 |.ptr k row aa,hs=>match hs with
  |.row tr::hs=>(get k).bind λo=>some (.eW tr aa,hs,[o.rows[row]? =some (tr.map AV.t)])
  |_=>none
 |.eW r o,hs=>some (.eW r o,hs,[])
 |.fn f first caps,hs=>match hs with
  |.fn::hs=>(nL P get first hs).bind λp=>(nL P get caps p.2.1).bind λq=>some (.fn f p.1 q.1,q.2.1,p.2.2++q.2.2)
  |.eC Z::hs=>(nL P get first hs).bind λp=>(nL P get caps p.2.1).bind λq=>
   some (.eC Z,q.2.1,p.2.2++(q.2.2++[p.1=[]/\eH P f/\∀args r,Z args r->sq P f (p.1++args.map TV.av++q.1) (.one (.d r))]))
  |_=>none
 |.eC Z,hs=>some (.eC Z,hs,[])
 |.mp _,_=>none
 |.oz k len,hs=>match hs with
  |.rows tr::hs=>(get k).bind λo=>some (.t (.sl tr),hs,[(o.rows.drop 0).take len=aJ tr/\tr.length=len])
  |_=>none
 |.d5,hs=>match hs with
  |.nil::hs=>some (.d5,hs,[])
  |.emp::hs=>some (.t (.sl []),hs,[])
  |_=>none
 |.ub,_=>none
 |.undef,_=>none
def nL(P:Program)(get:Nat->Option aN):List AV->List LH->Option (List AV×List LH×List Prop)
 |[],hs=>some ([],hs,[])
 |x::xs,hs=>(qd P get x hs).bind λp=>(nL P get xs p.2.1).bind λq=>some (p.1::q.1,q.2.1,p.2.2++q.2.2)
end
def A9(P:Q)(i:Nat)(f:AV)(args:Y AV)(cP:kx)(get:S):J Out:=
 match f,cP with
 |.fn F first caps,.call hs rv keep=>(imp i [] rv).bind λp=>(nL P get (first++args++caps) hs).bind λq=>
  if keep then some ⟨p.1,p.2,q.2.2++[sq P F q.1 rv,rv.flat]⟩
  else some ⟨p.1,p.2++(dJ (first++args++caps)).map (λ k=>(k,none)),q.2.2++[sq P F q.1 rv]⟩
 |.eC Z,.G3 hs targs r keep=>(nL P get args hs).bind λq=>
  if keep then some ⟨r.av,[],q.2.2++[q.1=targs.map TV.av,Z targs r,r.flat]⟩
  else some ⟨r.av,(dJ args).map (λ k=>(k,none)),q.2.2++[q.1=targs.map TV.av,Z targs r]⟩
 |_,_=>none
def Ba(P:Q)(w0:M)(O0:lp)(G:ζ)(I:Ψ)(obj:S)(w:M)(i:Nat)(out:Out)(r:Result Next):Prop:=
 ∃F args,r=.ok (.enter F args) w/\Calls P F args w λe w'=>∃v' β' I',e=.returned v'/\Step G I w (cD i) β' I' w'/\Mem P w0 O0 β' I' (bX obj out.upd) w'/\VR P β' w' I' out.v v'
section
variable {P:Program} {T:eM} {w0:World} {O0:lp} {G:Nat->Option dc} {I:Nat->Prop} {obj:Nat->Option aN} {w:World} {i:Nat}
mutual
theorem gh.weaken{get get':Nat->Option aN}(h:∀k o,get k=some o->get' k=some o):∀(xs ys:List AV),gh P get xs ys->gh P get' xs ys
 |[],[],_=>by simp[gh]
 |x::xs,y::ys,hb=>by simp[gh]at hb |-;exact⟨gE.weaken h x y hb.1,gh.weaken h xs ys hb.2⟩
 |[],_::_,hb|_::_,[],hb=>by simp[gh]at hb
theorem gE.weaken{get get':Nat->Option aN}(h:∀k o,get k=some o->get' k=some o):∀(x y:AV),gE P get x y->gE P get' x y
 |.t _,_,hb=>by simpa[gE]using hb
 |.agg cs,y,hb=>by simp[gE]at hb |-;obtain⟨cs',h1,h2⟩:=hb;exact⟨cs',h1,gh.weaken h cs cs' h2⟩
 |.eE _,_,hb=>by simp[gE]at hb
 |.own k aa len,y,hb=>by simp only[gE]at hb |-;obtain⟨o,tr,h1,h2⟩:=hb;exact⟨o,tr,h k o h1,h2⟩
 |.ptr k row aa,y,hb=>by simp only[gE]at hb |-;obtain⟨o,tr,h1,h2⟩:=hb;exact⟨o,tr,h k o h1,h2⟩
 |.eW _ _,_,hb=>by simpa[gE]using hb
 |.fn f first caps,y,hb=>by simp only[gE]at hb |-;obtain⟨a,b,h1,h2,h3⟩:=hb;exact⟨a,b,gh.weaken h first a h1,gh.weaken h caps b h2,h3⟩
 |.eC _,_,hb=>by simpa[gE]using hb
 |.oz k len,y,hb=>by simp only[gE]at hb |-;obtain⟨o,tr,h1,h2⟩:=hb;exact⟨o,tr,h k o h1,h2⟩
 |.d5,_,hb=>by simpa[gE]using hb
 |.ub,_,hb|.undef,_,hb=>by simp[gE]at hb
end
mutual
theorem EM{get:Nat->Option aN}:∀(x:AV)(hs:List LH)(p:AV×List LH×List Prop),qd P get x hs=some p->(∀ q∈p.2.2,q)->gE P get x p.1
 |.t x,hs,p,h,_=>by simp[qd]at h;subst h;simp[gE]
 |.agg cs,hs,p,h,ho=>by simp only[qd,ah,bK]at h;obtain⟨q,h1,rfl⟩:=h;simp only[gE];exact⟨_,rfl,kF cs hs q h1 ho⟩
 |.eE _,_,_,h,_=>by simp[qd]at h
 |.own k aa len,hs,p,h,ho=>by simp[qd]at h;split at h;simp[ah]at h;obtain⟨o,h1,rfl⟩:=h;have h2:=ho _ (bC.2 rfl);simp only[gE];exact⟨o,_,h1,rfl,h2.1,h2.2⟩;cases h
 |.ptr k row aa,hs,p,h,ho=>by simp[qd]at h;split at h;simp[ah]at h;obtain⟨o,h1,rfl⟩:=h;have h2:=ho _ (bC.2 rfl);simp only[gE];exact⟨o,_,h1,rfl,h2⟩;cases h
 |.eW r o,hs,p,h,_=>by simp[qd]at h;subst h;simp[gE]
 |.fn f first caps,hs,p,h,ho=>by simp only[qd]at h;split at h;simp only[ah,bK]at h;obtain⟨q,h1,q',h2,rfl⟩:=h;simp only[gE];exact⟨q.1,q'.1,kF first _ q h1 (λ x hx=>ho x (by simp[hx])),kF caps _ q' h2 (λ x hx=>ho x (by simp[hx])),.inl rfl⟩;simp only[ah,bK]at h;obtain⟨q,h1,q',h2,rfl⟩:=h;have h3:=ho _ (by simp only[bI,bC];exact .inr (.inr rfl));simp only[gE];exact⟨q.1,q'.1,kF first _ q h1 (λ x hx=>ho x (by simp[hx])),kF caps _ q' h2 (λ x hx=>ho x (by simp[hx])),.inr ⟨_,rfl,h3.1,h3.2⟩⟩;cases h
 |.eC Z,hs,p,h,_=>by simp[qd]at h;subst h;simp[gE]
 |.mp _,_,_,h,_=>by simp[qd]at h
 |.oz k len,hs,p,h,ho=>by simp[qd]at h;split at h;simp[ah]at h;obtain⟨o,h1,rfl⟩:=h;have h2:=ho _ (bC.2 rfl);simp only[gE];exact⟨o,_,h1,rfl,h2.1,h2.2⟩;cases h
 |.d5,hs,p,h,_=>by simp[qd]at h;split at h;cases h;simp[gE];cases h;simp[gE];cases h
 |.ub,_,_,h,_|.undef,_,_,h,_=>by simp[qd]at h
theorem kF{get:Nat->Option aN}:∀(xs:List AV)(hs:List LH)(p:List AV×List LH×List Prop),nL P get xs hs=some p->(∀ q∈p.2.2,q)->gh P get xs p.1
 |[],hs,p,h,_=>by simp[nL]at h;subst h;simp[gh]
 |x::xs,hs,p,h,ho=>by simp only[nL,ah,bK]at h;obtain⟨q,h1,q',h2,rfl⟩:=h;simp;exact⟨EM x hs q h1 (λ y hy=>ho y (by simp[hy])),kF xs _ q' h2 (λ y hy=>ho y (by simp[hy]))⟩
end
theorem sw:∀(l:Y Prop),iZ l->∀p∈l,p
 |[],_,_,hp=>by simp at hp
 |[q],h,p,hp=>by rw[bC]at hp;rw[hp];exact h
 |q::r::l,h,p,hp=>by rcases aI.1 hp with e|hp;rw[e];exact h.1;exact sw (r::l) h.2 p hp
theorem Tree.nj{w':M}{I':Ψ}:∀{x:Tree}{v:Value},x.flat->TR w I x v->TR w' I' x v
 |.sc _,_,_,h=>by simpa[TR]using h
 |.sl _,_,hf,_=>hf.elim
theorem TV.yf{w':M}{I':Ψ}:∀{x:TV}{v:Value},x.flat->vA w I x v->vA w' I' x v
 |.s _,_,hf,h=>Tree.nj hf h
 |.a cs,v,hf,⟨vs,h1,h2⟩=>by
  refine⟨vs,h1,?_⟩;have:∀(cs:Y Tree)(vs:Y Value),(∀ x∈cs,x.flat)->fy w I cs vs->fy w' I' cs vs:=by
   intro cs
   induction cs with
   |nil=>intro vs _ h;cases vs with
    |nil=>trivial
    |cons=>exact h.elim
   |cons x xs ih=>intro vs hf h;cases vs with
    |nil=>exact h.elim
    |cons v vs=>exact⟨Tree.nj (hf x (by simp)) h.1,ih vs (λ y hy=>hf y (by simp[hy])) h.2⟩
  exact this cs vs.toList hf h2
theorem cj.flat{β':ζ}{w':M}{I':Ψ}(rows:Y (List Tree))(c:Array Value)(aa sz:Nat)(hf:∀r∈rows,∀x∈r,Tree.flat x)(h:cj P G w I (aJ rows) c aa sz):cj P β' w' I' (aJ rows) c aa sz:=by rw[pW]at h |-;intro i r hr;have⟨h1,h2⟩:=h i r hr;refine⟨h1,?_⟩;rw[jO]at h2 |-;intro j x hx;have⟨v,g1,g2,g3⟩:=h2 j x hx;refine⟨v,g1,?_,g3⟩;simp[aJ]at hr;obtain⟨r',hr',rfl⟩:=hr;simp at hx;obtain⟨x',hx',rfl⟩:=hx;exact Tree.nj (hf r' (bT hr') x' (bT hx')) g2
theorem TV.N1{x:TV}{v:Ω}(h:vA w I x v):VR P G w I x.av v:=by
 cases x with
 |s x=>simp[TV.av];exact h
 |a cs=>
  obtain⟨vs,rfl,h⟩:=h;refine⟨vs,rfl,?_⟩;have:∀(cs:Y Tree)(us:Y Value),fy w I cs us->br P G w I (cs.map AV.t) us:=by
   intro cs
   induction cs with
   |nil=>intro us h;cases us with
    |nil=>simp[br]
    |cons=>simp[fy]at h
   |cons x xs ih=>intro us h;cases us with
    |nil=>simp[fy]at h
    |cons y ys=>simp[fy]at h;simp;exact⟨h.1,ih _ h.2⟩
  exact this cs vs.toList h
theorem Mem.fresh{i:Nat}{obj:S}{F:Ψ}{sz:Nat}{rows:Y (List Tree)}{v:Ω}(h:Mem P w0 O0 G I obj w)(hn:G i=none)(hlt:∀k o b,obj k=some o->ir G k b->¬F b)(hle:∀b,F b->O0.own b\/w0.heap.size<=b)(hf:Wf P F sz rows w I v):
 ∃ β',Step G I w i β' I w/\Mem P w0 O0 β' I (bX obj [(i,some ⟨sz,aJ rows⟩)]) w/\VR P β' w I (.own i 0 rows.length) v:=by
 rcases hf with ⟨rfl,rfl⟩|⟨b,c,e,cap,o,s,rfl,h1,h2,h3,h4,h5,h6,h7⟩;have⟨hS,hM⟩:=Mem.q7 (i:=i) (o:=⟨sz,aJ []⟩) h hn rfl;exact⟨_,hS,hM,by simp only[VR];exact .inl ⟨by simp[ins],trivial,trivial,rfl⟩⟩;have hsl:s<=c.size:=by omega
 have hS:Step G I w i (ins G i (.at b sz ⟨c.size,s,hsl⟩)) I w:=⟨λ j hj=>by simp[ins,j7.ne hj],oF hn,λ_ _=>rfl,λ_ h=>h⟩;refine⟨_,hS,?_,by simp only[VR];exact .inr ⟨b,sz,⟨c.size,s,hsl⟩,cap,o,by simp[ins],rfl,h4,by simpa using h5,λhc=>by simpa using h7 hc⟩⟩;have hbl:b<w.heap.size:=(Array.getElem?_eq_some_iff.1 h3).1;constructor;intro k o' hk;simp[bX]at hk;split at hk;cases hk;rename_i hki;exact⟨.at b sz ⟨c.size,s,hsl⟩,by simp[ins,hki],rfl,c,e,h3,rfl,cj.mono (λ k B h=>by simp[pb]at h) (λ _ _=>rfl) (λ _ h=>h) _ _ _ _ h6⟩;have⟨B,hB,hO⟩:=h.du k o' hk;exact⟨B,oF hn _ _ hB,OR.mono hS.ext hS.same hS.inc (λ _ _=>rfl) hO⟩;intro k k' o1 o2 B1 B2 b1 e1 e2 e3 e4 e5 e6;simp[bX]at e1 e2;simp[ins]at e3 e4;split at e3<;>split at e4;rename_i p q;rw[p,q];rename_i p q;cases e3;cases e5;rw[aM q]at e2;exact(hlt k' o2 _ e2 ⟨_,e4,e6⟩ h1).elim;rename_i p q;cases e4;cases e6;rw[aM p]at e1;exact(hlt k o1 _ e1 ⟨_,e3,e5⟩ h1).elim;rename_i p q;rw[aM p]at e1;rw[aM q]at e2;exact h.iv k k' o1 o2 B1 B2 b1 e1 e2 e3 e4 e5 e6;intro k o' B1 b1 e1 e2 e3;simp[bX]at e1;simp[ins]at e2;split at e2;cases e2;cases e3;exact⟨h2,hbl,hle _ h1⟩;rename_i p;rw[aM p]at e1;exact h.ownB k o' B1 b1 e1 e2 e3;exact h.lt;exact h.up;exact h.keep;exact h.le;exact h.os;exact h.tape;exact h.output;intro j C hj;exact oF hn _ _ (h.anch j C hj);exact h.vars
theorem WE{i:Nat}{ab:Y Nat}{F:Ψ}{βc:ζ}{c:RC}{v:Ω}(h:Mem P w0 O0 G I obj w)(hn:G (cD i)=none)(hlt:∀k o b,obj k=some o->ir G k b->¬F b)(hle:∀b,F b->O0.own b\/w0.heap.size<=b)(hbc:∀j B,βc j=some B->∃k,ab[j]? =some k/\G k=some B)(hc:Dd P F βc c w I v):
 ∃ β',Step G I w (cD i) β' I w/\Mem P w0 O0 β' I (bX obj (KW i ab c).2) w/\VR P β' w I (KW i ab c).1 v/\((KW i ab c).2=[]->β'=G):=by
 cases c with
 |d x=>exact⟨G,Step.refl ..,h,TV.N1 hc,λ_=>rfl⟩
 |fresh sz rows=>
  have⟨β',h1,h2,h3⟩:=Mem.fresh (i:=cD i) h hn hlt hle hc;exact⟨β',h1,h2,by simpa[KW,aJ]using h3,λh=>by simp[KW]at h⟩
 |whole j len=>
  refine⟨G,Step.refl ..,h,?_,λ_=>rfl⟩;have hc:VR P βc w I (.own j 0 len) v:=hc;simp[KW]
  all_goals grind [VR]
theorem WG{i:Nat}{ab:Y Nat}{F:Ψ}{βc:ζ}:∀(cs:Y RC)(vs:Y Value)(p:Y AV×List (Nat×Option aN)),Mem P w0 O0 G I obj w->G (cD i)=none->(∀ k o b,obj k=some o->ir G k b->¬F b)->(∀ b,F b->O0.own b\/w0.heap.size<=b)->(∀ j B,βc j=some B->∃k,ab[j]? =some k/\G k=some B)->
 NN i ab cs=some p->Wo P F βc cs w I vs->∃ β',Step G I w (cD i) β' I w/\Mem P w0 O0 β' I (bX obj p.2) w/\br P β' w I p.1 vs/\(p.2=[]->β'=G)
 |[],[],p,h,_,_,_,_,hp,_=>by simp[NN]at hp;subst hp;exact⟨G,Step.refl ..,h,by simp[br],λ_=>rfl⟩
 |c::cs,v::vs,p,h,hn,hlt,hle,hbc,hp,hr=>by
  simp[Wo]at hr;simp[NN]at hp;cases hq:NN i ab cs with
  |none=>simp[hq]at hp
  |some q=>
   simp only[hq,ai]at hp;split at hp;rename_i hem;simp at hp;subst hp;have⟨β1,g1,g2,g3,g4⟩:=WE (i:=i) h hn hlt hle hbc hr.1;have⟨β2,k1,k2,k3,k4⟩:=WG cs vs q h hn hlt hle hbc hq hr.2;have Fc:(KW i ab c).2=[]\/q.2=[]:=(by simpa using hem);rcases Fc with hem|hem;have:=g4 hem;subst this;refine⟨β2,k1,by simpa[hem]using k2,?_,λh0=>k4 (by simpa[hem]using h0)⟩;simp;exact⟨VR.mono k1.ext k1.same k1.inc _ _ g3,k3⟩;have:=k4 hem;subst this;refine⟨β1,g1,by simpa[hem]using g2,?_,λh0=>g4 (by simpa[hem]using h0)⟩;simp;exact⟨g3,br.mono g1.ext g1.same g1.inc _ _ k3⟩;cases hp
 |[],_::_,_,_,_,_,_,_,_,hr|_::_,[],_,_,_,_,_,_,_,hr=>by simp[Wo]at hr
theorem QC{i:Nat}{ab:Y Nat}{F:Ψ}{βc:ζ}{rv:RV}{v:Ω}{p:AV×List (Nat×Option aN)}(h:Mem P w0 O0 G I obj w)(hn:G (cD i)=none)(hlt:∀k o b,obj k=some o->ir G k b->¬F b)(hle:∀b,F b->O0.own b\/w0.heap.size<=b)(hbc:∀j B,βc j=some B->∃k,ab[j]? =some k/\G k=some B)
 (hp:imp i ab rv=some p) (hr:th P F βc rv w I v):∃ β',Step G I w (cD i) β' I w/\Mem P w0 O0 β' I (bX obj p.2) w/\VR P β' w I p.1 v:=by
 cases rv with
 |one c=>
  simp[imp]at hp;subst hp;have⟨β',h1,h2,h3,_⟩:=WE (i:=i) h hn hlt hle hbc hr;exact⟨β',h1,h2,h3⟩
 |eE cs=>
  simp[imp]at hp;cases hq:NN i ab cs with
  |none=>simp[hq]at hp
  |some q=>
   simp[hq]at hp;subst hp;obtain⟨vs,rfl,hvs⟩:=hr;have⟨β',h1,h2,h3,_⟩:=WG (i:=i) cs vs.toList q h hn hlt hle hbc hq hvs;exact⟨β',h1,h2,by simp only[VR];exact⟨vs,rfl,h3⟩⟩
theorem tV(obj:S):∀(a b:Y (Nat×Option aN))(k:Nat),bX obj (a++b) k=bX (bX obj b) a k
 |[],_,_=>rfl
 |(j,o)::a,b,k=>by simp[bX,tV obj a b k]
theorem zi(obj:S):∀(ab:Y Nat)(k:Nat),bX obj (ab.map λk=>(k,none)) k=if k∈ab then none else obj k
 |[],k=>by simp[bX]
 |j::ab,k=>by simp[bX,zi obj ab k];by_cases h:k=j<;>simp[h]
end
section
variable {P:Program} {T:eM} {w0:World} {O0:lp} {G:Nat->Option dc} {I:Nat->Prop} {obj:Nat->Option aN} {w:World} {i:Nat}
theorem th.flat{F:Ψ}{βc:ζ}{w':M}{I' HF:Ψ}{rv:RV}{v:Ω}(hf:rv.flat)(hI:∀b,HF b->I' b)(h:th P F βc rv w' I' v):th P F βc rv w' HF v:=by
 have hc:∀(c:RC)(v:Value),c.flat->Dd P F βc c w' I' v->Dd P F βc c w' HF v:=by
  intro c v hf h;cases c with
  |d x=>exact TV.yf hf h
  |fresh sz rows=>
   rcases h with h|⟨b,c,e,cap,o,s,h1,h2,h3,h4,h5,h6,h7,h8⟩;exact .inl h;exact .inr ⟨b,c,e,cap,o,s,h1,h2,λhb=>h3 (hI b hb),h4,h5,h6,cj.flat rows c s sz hf h7,h8⟩
  |whole j len=>have h:VR P βc w' I' (.own j 0 len) v:=h;show VR P βc w' HF (.own j 0 len) v;simp[VR]at h |-;exact h
 cases rv with
 |one c=>exact hc c v hf h
 |eE cs=>
  obtain⟨vs,rfl,h⟩:=h;refine⟨vs,rfl,?_⟩;have:∀(cs:Y RC)(vs:Y Value),(∀ c∈cs,c.flat)->Wo P F βc cs w' I' vs->Wo P F βc cs w' HF vs:=by
   intro cs
   induction cs with
   |nil=>intro vs _ h;cases vs with
    |nil=>trivial
    |cons=>exact h.elim
   |cons c cs ih=>intro vs hf h;cases vs with
    |nil=>exact h.elim
    |cons v vs=>exact⟨hc c v (hf c (by simp)) h.1,ih vs (λ y hy=>hf y (by simp[hy])) h.2⟩
  exact this cs vs.toList hf h
theorem WH(h:Mem P w0 O0 G I obj w)(hn:G (cD i)=none){ab:Y Nat}{rv:RV}{p:AV×List (Nat×Option aN)}{keep:Bool}(hp:imp i [] rv=some p)(hk:keep=true->rv.flat)
 {w':M} {I1:Ψ} {v:Ω} (hb:Below w.heap.size w w') (h1:∀b,gx G obj ab I b->I1 b) (h2:∀b,I1 b->b<w'.heap.size) (h3:∀b,I1 b->gx G obj ab I b\/w.heap.size<=b) (hr:th P (S0 w) pb rv w' I1 v):
 ∃ β' I',Step G I w (cD i) β' I' w'/\Mem P w0 O0 β' I' (bX obj (p.2++if keep then []else ab.map (λ k=>(k,none)))) w'/\VR P β' w' I' p.1 v:=by
 have hlt:∀(pw:Nat->J aN),(∀ k o,pw k=some o->obj k=some o)->∀k o b,pw k=some o->ir G k b->¬S0 w b:=λpw hs k o b e1 e2 hb=>Nat.lt_irrefl _ (Nat.lt_of_lt_of_le (h.k8 k o b (hs k o e1) e2).2.1 hb);have hnew:∀b,S0 w b->O0.own b\/w0.heap.size<=b:=λb hb=>.inr (Nat.le_trans h.le hb);have hup:∀b,I1 b->O0.Ly b\/O0.own b\/w0.heap.size<=b:=λb hb'=>by rcases h3 b hb' with (h5|⟨k',o',s',n',g1,g2,g3⟩)|h5;exact h.up b h5;exact .inr (h.own k' o' b s' n' g2 g3).2.2;exact .inr (.inr (Nat.le_trans h.le h5))
 cases keep with
 |true=>
  obtain⟨hS,hM⟩:=h.below (I':=λb=>I1 b/\(I b\/w.heap.size<=b)) hb (λ b hb'=>⟨h1 b (.inl hb'),.inl hb'⟩) (λ b hb'=>h2 b hb'.1) (λ b k o B hb' e1 e2 e3=>by obtain⟨a1,a2,_⟩:=h.ownB k o B b e1 e2 e3;rcases hb'.2 with h5|h5;exact a1 h5;omega) (λ b hb'=>hup b hb'.1);obtain⟨β',k1,k2,k3⟩:=QC hM hn (hlt obj (λ _ _ h=>h)) hnew (λ _ _ h=>by cases h) hp (th.flat (hk rfl) (λ b hb=>hb.1) hr);refine⟨β',_,⟨k1.other,k1.ext,hS,λb hb'=>⟨h1 b (.inl hb'),.inl hb'⟩⟩,?_,k3⟩;simpa using k2
 |false=>
  have hsub:∀k o,bX obj (ab.map λk=>(k,none)) k=some o->obj k=some o/\k∉ab:=by intro k o hk;rw[zi]at hk;split at hk;cases hk;exact⟨hk,‹_›⟩
  have hd:=h.drop (bX obj (ab.map λk=>(k,none))) (λ k o hk=>(hsub k o hk).1);obtain⟨hS,hM⟩:=hd.below (I':=I1) hb (λ b hb'=>h1 b (.inl hb')) h2 (λ b k o B hb' e1 e2 e3=>by obtain⟨f1,f2⟩:=hsub k o e1;have⟨a1,a2,_⟩:=h.ownB k o B b f1 e2 e3;rcases h3 b hb' with (h5|⟨k',o',s',n',g1,g2,g3⟩)|h5;exact a1 h5;have:=h.py k k' o o' b f1 g2 ⟨B,e2,e3⟩ (.at g3);subst this;exact f2 g1;omega) hup;obtain⟨β',k1,k2,k3⟩:=QC hM hn (hlt _ (λ k o hk=>(hsub k o hk).1)) hnew (λ _ _ h=>by cases h) hp hr;refine⟨β',I1,⟨k1.other,k1.ext,hS,λb hb'=>h1 b (.inl hb')⟩,?_,k3⟩;simp;have e:bX obj (p.2++ab.map λk=>(k,none))=bX (bX obj (ab.map λk=>(k,none))) p.2:=funext λk=>tV obj _ _ k;rw[e];exact k2
theorem NP(h:Mem P w0 O0 G I obj w)(ab:Y Nat):∀b,gx G obj ab I b->b<w.heap.size:=by intro b hb;rcases hb with hb|⟨k,o,s,n,_,h2,h3⟩;exact h.lt b hb;exact(h.own k o b s n h2 h3).2.1
theorem aag(h:Mem P w0 O0 G I obj w)(hn:G (cD i)=none){f:AV}{args:Y AV}{cP:kx}{get:S}{out:Out}(hg:∀k o,get k=some o->obj k=some o)
 {fv:Ω} {vs:Array Value} {ag:Array Operand} {fo:Operand} {r:Operand->Value} (ha:A9 P i f args cP get=some out) (df:out.ob) (hf:VR P G w I f fv) (hv:br P G w I args vs.toList) (hfo:r fo=fv) (hops:vs=ag.map r)
 {dst:J Tmp} {am:String} {after:Array Edge} {guard:J (Nat×Bool)} {ty:E} {ej:Array TypeId}:
 Ba P w0 O0 G I obj w i out ((execOp r ⟨dst,.call { callee:=.value fo,args:=ag,argTypes:=ej },ty,am,after,guard⟩).run P w):=by
 have enter : ∀ (F : FuncId) (first caps : Array Value) (args' : Array Value), (∃ fn, P.funcs[F]? = some fn /\ fn.body.isSome = true /\ (fn.name == "runtime.NumGoroutine") = false) -> fv = .func (.func F) first caps -> args' = first ++ vs ++ caps ->
  (execOp r ⟨dst,.call { callee:=.value fo,args:=ag,argTypes:=ej },ty,am,after,guard⟩).run P w=.ok (.enter F args') w:=by
  rintro F first caps args' ⟨fn,e1,e2,e3⟩ e4 rfl
  have hb:¬fn.body=none:=by cases hh:fn.body<;>simp[hh]at e2 |-
  have e3' : ¬ fn.name = "runtime.NumGoroutine" := by simpa using e3
  simp[execOp,resolve,hfo,e4,<- hops,Deferred.ofValue,invoke,callFunc,e1,e3',hb]
 unfold A9 at ha;split at ha;rename_i F first caps hs rv keep
 cases hp:imp i [] rv with
 |none=>simp[hp]at ha
 |some p=>
  cases hq:nL P get (first++args++caps) hs with
  |none=>simp only[hp,hq,ai,Option.bind_none,reduceCtorEq]at ha
  |some q=>
  simp only[hp,hq,ai]at ha;simp[VR]at hf;obtain⟨fs,cs,rfl,hf1,hf2⟩:=hf
  have fin:∀(keep:Bool),gh P get (first++args++caps) q.1->sq P F q.1 rv->(keep=true->rv.flat)->
   out=⟨p.1,p.2++(if keep then []else(dJ (first++args++caps)).map (λ k=>(k,none))),out.obs⟩->Ba P w0 O0 G I obj w i out ((execOp r ⟨dst,.call { callee:=.value fo,args:=ag,argTypes:=ej },ty,am,after,guard⟩).run P w):=by intro keep hb hF hk hout;obtain⟨Fk,hcon⟩:=hF;have hall:br P G w I (first++args++caps) (fs++vs++cs).toList:=(by simp only[Array.toList_append];exact br.append _ _ _ _ (br.append _ _ _ _ hf1 hv) hf2);have qt:=gh.sound h (dJ (first++args++caps)) _ _ _ (λ k hk=>hk) (gh.weaken hg _ _ hb) hall;refine⟨F,fs++vs++cs,enter F fs cs _ Fk rfl rfl,(hcon w _ _ (NP h _) (h.vars.mono (λ _ _=>rfl) (λ b hb=>.inl hb)) qt).mono ?_⟩;rintro e w' ⟨v',I1,rfl,hbel,g1,g2,g3,g4⟩;have⟨β',I',k1,k2,k3⟩:=WH (keep:=keep) h hn hp hk hbel g1 g2 g3 g4;rw[hout];exact⟨v',β',I',rfl,k1,k2,k3⟩
  cases keep with
  |true=>
   simp at ha;subst ha;have df:=sw _ df;exact fin true (kF _ _ _ hq λx hx=>df x (by simp[hx])) (df (sq P F q.1 rv) (by simp)) (λ _=>df rv.flat (by simp)) (by simp)
  |false=>
   simp at ha;subst ha;have df:=sw _ df;exact fin false (kF _ _ _ hq λx hx=>df x (by simp[hx])) (df (sq P F q.1 rv) (by simp)) (λ h=>by cases h) (by simp)
 .rename_i Z hs targs rr keep;cases hq:nL P get args hs with
  |none=>simp[hq]at ha
  |some q=>
  simp[hq]at ha;simp[VR]at hf;obtain⟨F,fs,cs,rfl,_,hF1,hF2,hF3⟩:=hf;obtain⟨fn,hfn⟩:=Option.isSome_iff_exists.1 hF2
  have fin:∀(keep:Bool),gh P get args (targs.map TV.av)->Z targs rr->(keep=true->rr.flat)->
   out=⟨rr.av,[]++(if keep then []else(dJ args).map (λ k=>(k,none))),out.obs⟩->Ba P w0 O0 G I obj w i out ((execOp r ⟨dst,.call { callee:=.value fo,args:=ag,argTypes:=ej },ty,am,after,guard⟩).run P w):=by
   intro keep hb hφ hk hout;have qt:=gh.sound h (dJ args) _ _ _ (λ k hk=>hk) (gh.weaken hg _ _ hb) hv;have htv:∀(xs:Y TV) (us:Y Value),br P pb w (gx G obj (dJ args) I) (xs.map TV.av) us->oR w (gx G obj (dJ args) I) xs us:=by
    intro xs
    induction xs with
    |nil=>intro us h;cases us with
     |nil=>trivial
     |cons=>simp[br]at h
    |cons x xs ih=>intro us h;cases us with
     |nil=>simp[br]at h
     |cons u us=>
      simp at h;refine⟨?_,ih us h.2⟩;cases x with
      |s x=>simpa[TV.av,VR,vA]using h.1
      |a cs=>
       simp[TV.av]at h;obtain⟨⟨vs',rfl,h1⟩,_⟩:=h;refine⟨vs',rfl,?_⟩;have:∀(cs:Y Tree) (us:Y Value),br P pb w (gx G obj (dJ args) I) (cs.map AV.t) us->fy w (gx G obj (dJ args) I) cs us:=by
        intro cs
        induction cs with
        |nil=>intro us h;cases us with
         |nil=>trivial
         |cons=>simp[br]at h
        |cons c cs ih=>intro us h;cases us with
         |nil=>simp[br]at h
         |cons u us=>simp at h;exact⟨h.1,ih us h.2⟩
       exact this cs _ h1
   refine⟨F,fs++vs++cs,enter F fs cs _ ⟨fn,hfn,(hF1 fn hfn).1,(hF1 fn hfn).2⟩ rfl rfl,(hF3 w _ targs vs rr (λ b hb=>Or.inl hb) (λ _ _=>rfl) (NP h _) hφ (htv _ _ qt)).mono ?_⟩;rintro e w' ⟨v',I1,rfl,hbel,g1,g2,g3,g4⟩;have⟨β',I',k1,k2,k3⟩:=WH (i:=i) (rv:=.one (.d rr)) (p:=(rr.av,[])) (keep:=keep) h hn rfl hk hbel g1 g2 g3 g4;rw[hout];exact⟨v',β',I',rfl,k1,k2,k3⟩
  cases keep with
  |true=>
   simp at ha;subst ha;have df:=sw _ df;have e:q.1=targs.map TV.av:=df _ (by simp);exact fin true (e ▸ kF _ _ _ hq λx hx=>df x (by simp[hx])) (df (Z targs rr) (by simp)) (λ _=>df rr.flat (by simp)) (by simp)
  |false=>
   simp at ha;subst ha;have df:=sw _ df;have e:q.1=targs.map TV.av:=df _ (by simp);exact fin false (e ▸ kF _ _ _ hq λx hx=>df x (by simp[hx])) (df (Z targs rr) (by simp)) (λ h=>by cases h) (by simp)
 cases ha
end
abbrev fe:=Nat×List (List Tree)
def i6(p:fe):aN:=⟨p.1,aJ p.2⟩
def te(os:Y fe)(k:Nat):J aN:=(os[k]?).map i6
def Dr(os:Y (Option fe))(k:Nat):J aN:=((os[k]?).join).map i6
def WI(G:ζ)(b:Nat):Prop:=∃j,ir G j b
def qR(G:ζ)(I:Ψ):lp:=⟨WI G,I,λj=>if j<1000 then G j else none,λj B h=>by
 split at h
 .assumption
 .cases h⟩
def C4(w:M)(G:ζ)(os':Y (Option fe))(b:Nat):Prop:=(WI G b\/w.heap.size<=b)/\∀k o,Dr os' k=some o->¬ir G k b
def SZ(P:Q)(w:M)(G:ζ)(I:Ψ)(os':Y (Option fe))(rv:RV)(e:Ending)(w':M):Prop:=
 ∃v I',e=.returned v/\Mem P w (qR G I) G I' (Dr os') w'/\(∀ b,I b->I' b)/\th P (C4 w G os') G rv w' I' v
def ro(P:Q)(f:FuncId)(args:Y AV)(os:Y fe)(os':Y (Option fe))(rv:RV):Prop:=
 eH P f/\∀(w:World) (G:Nat->J dc) (I:Nat->Prop) (vs:Array Value),(∀ k,os.length<=k->G k=none)->Mem P w (qR G I) G I (te os) w->br P G w I args vs.toList->Calls P f vs w (SZ P w G I os' rv)
def βc(ab:Y Nat)(G:ζ)(j:Nat):J dc:=(ab[j]?).bind G
section
variable (P:Program) (get:Nat->Option aN) (ab:List Nat)
mutual
def rR:AV->List LH->Option (AV×List LH×List Prop)
 |.own k aa len,.mut j::hs=>if ab[j]? =some k then some (.own j aa len,hs,[])else none
 |.ptr k row aa,.mut j::hs=>if ab[j]? =some k then some (.ptr j row aa,hs,[])else none
 |.mp k,.mut j::hs=>if ab[j]? =some k then some (.mp j,hs,[])else none
 |.agg cs,.agw::hs=>(nC cs hs).bind λp=>some (.agg p.1,p.2.1,p.2.2)
 |.agg cs,.agd::hs=>if (dJ cs).all (λ k=>!ab.contains k)then qd P get (.agg cs) hs else none
 |.fn F first caps,.fnw::hs=>(nC first hs).bind λp=>(nC caps p.2.1).bind λq=>some (.fn F p.1 q.1,q.2.1,p.2.2++q.2.2)
 |x,hs=>if (refs x).all (λ k=>!ab.contains k)then qd P get x hs else none
def nC:List AV->List LH->Option (List AV×List LH×List Prop)
 |[],hs=>some ([],hs,[])
 |x::xs,hs=>(rR x hs).bind λp=>(nC xs p.2.1).bind λq=>some (p.1::q.1,q.2.1,p.2.2++q.2.2)
end
def BU:Y (List AV)->Y (List LH)->J (List (List AV)×List Prop)
 |[],[]=>some ([],[])
 |r::rs,h::hs=>(nC P get ab r h).bind λp=>(BU rs hs).bind λq=>some (p.1::q.1,p.2.2++q.2)
 |_,_=>none
def oc(x y:AV):Prop:=
 (∃ j k aa len,ab[j]? =some k/\x=.own k aa len/\y=.own j aa len)\/(∃ j k row aa,ab[j]? =some k/\x=.ptr k row aa/\y=.ptr j row aa)\/(∃ j k,ab[j]? =some k/\x=.mp k/\y=.mp j)\/((∀ k∈refs x,k∉ab)/\gE P get x y)
mutual
def jz:AV->AV->Prop
 |.fn F f1 c1,.fn β f2 c2=>(F=β/\gi f1 f2/\gi c1 c2)\/oc P get ab (.fn F f1 c1) (.fn β f2 c2)
 |.agg c1,.agg c2=>gi c1 c2\/oc P get ab (.agg c1) (.agg c2)
 |x,y=>oc P get ab x y
def gi:List AV->List AV->Prop
 |[],[]=>True
 |x::xs,y::ys=>jz x y/\gi xs ys
 |_,_=>False
end
theorem jz.base{x y:AV}(h:oc P get ab x y):jz P get ab x y:=by cases x<;>cases y<;>simp[jz]<;>first|exact h|exact .inr h
end
def EN(get:S):Y Nat->Y fe->J (List Prop)
 |[],[]=>some []
 |k::ab,p::os=>(get k).bind λo=>(EN get ab os).bind λl=>some ((o.sz=p.1/\dW (o.rows.take p.2.length)=aJ p.2)::l)
 |_,_=>none
def BV:Y Nat->Y (Option fe)->Y (Nat×Option aN)
 |k::ab,p::os=>(k,p.map i6)::BV ab os
 |_,_=>[]
def IA(xs:Y AV)(ab:Y Nat):Y Nat:=(dJ xs).filter λk=>!ab.contains k
def WJ(os':Y (Option fe)):Prop:=∀p,some p∈os'->∀r∈p.2,∀x∈r,Tree.flat x
def IB(P:Q)(i:Nat)(f:AV)(args:Y AV)(cP:kx)(get:S):J Out:=
 match f,cP with
 |.fn F first caps,.vy ab os os' hs rv keep=>if ab.Nodup/\os'.length=ab.length then(imp i ab rv).bind λp=>(EN get ab os).bind λmo=>(nC P get ab (first++args++caps) hs).bind λq=>
  if keep then some ⟨p.1,p.2++BV ab os',q.2.2++mo++[ro P F q.1 os os' rv,rv.flat,WJ os']⟩
  else some ⟨p.1,p.2++(BV ab os'++(IA (first++args++caps) ab).map λk=>(k,none)),q.2.2++mo++[ro P F q.1 os os' rv]⟩
  else none
 |_,_=>none
def sD(P:Q)(i:Nat)(f:AV)(args:Y AV)(cP:kx)(get:S):J Out:=
 match cP with
 |.vy .. =>IB P i f args cP get
 |_=>A9 P i f args cP get
section
variable {P:Program} {T:eM} {w0:World} {O0:lp} {G:Nat->Option dc} {I:Nat->Prop} {obj:Nat->Option aN} {w:World} {i:Nat}
theorem NQ{ab:Y Nat}{j:Nat}{B:dc}(h:βc ab G j=some B):∃k,ab[j]? =some k/\G k=some B:=by simpa[βc,ah]using h
theorem cj.dat{β':ζ}{I':Ψ}(hI:∀b,I b->I' b)(rows:Y (List Tree))(c:Array Value)(aa sz:Nat)(h:cj P G w I (aJ rows) c aa sz):cj P β' w I' (aJ rows) c aa sz:=by rw[pW]at h |-;intro i r hr;have⟨h1,h2⟩:=h i r hr;refine⟨h1,?_⟩;rw[jO]at h2 |-;intro j x hx;have⟨v,g1,g2,g3⟩:=h2 j x hx;refine⟨v,g1,?_,g3⟩;simp[aJ]at hr;obtain⟨r',hr',rfl⟩:=hr;simp at hx;obtain⟨x',hx',rfl⟩:=hx;exact TR.mono (λ _ _=>rfl) hI _ _ g2
theorem br.NL{β':ζ}{I':Ψ}(hI:∀b,I b->I' b):∀(r:Y Tree)(vs:Y Value),br P G w I (r.map AV.t) vs->br P β' w I' (r.map AV.t) vs
 |[],[],_=>by simp[br]
 |x::xs,v::vs,h=>by exact⟨TR.mono (λ _ _=>rfl) hI _ _ h.1,br.NL hI xs vs h.2⟩
 |[],_::_,h|_::_,[],h=>by simp[br]at h
theorem c9.dat{β':ζ}{I':Ψ}(hI:∀b,I b->I' b):∀(rs:Y (List Tree))(es:Y MapEntry),c9 P G w I (aJ rs) es->c9 P β' w I' (aJ rs) es
 |[],[],_=>trivial
 |r::rs,_::es,⟨h1,h4⟩=>⟨br.NL hI r _ h1,c9.dat hI rs es h4⟩
 |[],_::_,h|_::_,[],h=>h.elim
theorem br.Cl{β':ζ}{I':Ψ}:∀(r:Y Tree)(vs:Y Value),(∀ x∈r,Tree.flat x)->br P G w I (r.map AV.t) vs->br P β' w I' (r.map AV.t) vs
 |[],[],_,_=>by simp[br]
 |x::xs,v::vs,hf,h=>by exact⟨Tree.nj (hf x (by simp)) h.1,br.Cl xs vs (λ y hy=>hf y (by simp[hy])) h.2⟩
 |[],_::_,_,h|_::_,[],_,h=>by simp[br]at h
theorem c9.flat{β':ζ}{I':Ψ}:∀{rs:Y (List Tree)}(_:∀r∈rs,∀x∈r,Tree.flat x)(es:Y MapEntry),c9 P G w I (aJ rs) es->c9 P β' w I' (aJ rs) es
 |[],_,[],_=>trivial
 |r::rs,hf,_::es,⟨h1,h4⟩=>⟨br.Cl r _ (hf r (by simp)) h1,c9.flat (λ r' hr=>hf r' (by simp[hr])) es h4⟩
 |[],_,_::_,h|_::_,_,[],h=>h.elim
theorem OR.part{o:aN}{p:fe}{b:Nat}(g4:o.sz=p.1)(g5:dW (o.rows.take p.2.length)=aJ p.2)(h:OR P G w I o (.mp b)):OR P G w I (i6 p) (.mp b):=by
 obtain⟨es,cl,h1,hle,h2,h3⟩:=h;have hl:=congrArg List.length g5;simp[dW,aJ]at hl;refine⟨es,cl,h1,by simp[i6,aJ];omega,λe=>?_,h3⟩;have e':p.1=p.2.length:=by simpa[i6,aJ]using e
 have:=c9.wk _ _ (h2 (by omega));rw[take_of_length_le (by omega)]at g5;show c9 P G w I (aJ p.2) es.toList;rw[<- g5];exact this
theorem OR.dat{β':ζ}{I':Ψ}(hI:∀b,I b->I' b){p:fe}{B:dc}(h:OR P G w I (i6 p) B):OR P β' w I' (i6 p) B:=by
 cases B with
 |none=>exact h
 | «at» b s n=>
  obtain⟨h1,c,e,h2,h3,h4⟩:=h;exact⟨h1,c,e,h2,h3,cj.dat hI _ _ _ _ h4⟩
 |mp b=>
  obtain⟨es,cl,h1,hle,h2,h3⟩:=h;exact⟨es,cl,h1,hle,λe=>c9.dat hI _ _ (h2 e),h3⟩
theorem OR.flat{β':ζ}{I':Ψ}{p:fe}{B:dc}(hf:∀r∈p.2,∀x∈r,Tree.flat x)(h:OR P G w I (i6 p) B):OR P β' w I' (i6 p) B:=by
 cases B with
 |none=>exact h
 | «at» b s n=>
  obtain⟨h1,c,e,h2,h3,h4⟩:=h;exact⟨h1,c,e,h2,h3,cj.flat _ _ _ _ hf h4⟩
 |mp b=>
  obtain⟨es,cl,h1,hle,h2,h3⟩:=h;exact⟨es,cl,h1,hle,λe=>c9.flat hf _ (h2 e),h3⟩
theorem Tf{get:S}:∀{ab:Y Nat}{os:Y fe}{l:Y Prop},EN get ab os=some l->(∀ q∈l,q)->ab.length=os.length/\∀(j:Nat) k p,ab[j]? =some k->os[j]? =some p->∃o,get k=some o/\o.sz=p.1/\dW (o.rows.take p.2.length)=aJ p.2
 |[],[],_,_,_=>⟨rfl,λj k p h=>by simp at h⟩
 |k::ab,p::os,l,h,hq=>by
  simp[EN,ah]at h;obtain⟨o,h1,l',h2,rfl⟩:=h;obtain⟨h3,h4⟩:=Tf h2 (λ q hq'=>hq q (by simp[hq']));refine⟨by simp[h3],λj k' p' hj hj'=>?_⟩;cases j with
  |zero=>
   simp at hj hj';subst hj;subst hj';exact⟨o,h1,hq _ (by simp)⟩
  |succ j=>exact h4 j k' p' (by simpa using hj) (by simpa using hj')
 |[],_::_,_,h,_|_::_,[],_,h,_=>by simp[EN]at h
theorem akP{ab:Y Nat}:∀{os':Y (Option fe)}{g:Y (Nat×Option aN)}{k:Nat},k∉ab->bX obj (BV ab os'++g) k=bX obj g k:=by
 induction ab with
 |nil=>intro os' g k _;rfl
 |cons j ab ih=>
  intro os' g k hk;cases os' with
  |nil=>rfl
  |cons p os'=>
   simp at hk;simp[BV,bX,aM hk.1,ih hk.2]
theorem abv:∀{ab:Y Nat}{os':Y (Option fe)}{g:Y (Nat×Option aN)}{j k:Nat},ab.Nodup->os'.length=ab.length->ab[j]? =some k->bX obj (BV ab os'++g) k=Dr os' j
 |[],_,_,_,_,_,_,h=>by simp at h
 |i::ab,[],_,_,_,_,hl,_=>by simp at hl
 |i::ab,p::os',g,j,k,hn,hl,h=>by
  simp at hn;cases j with
  |zero=>
   simp at h;subst h;simp[BV,bX,Dr]
  |succ j=>
   have hne:k≠i:=λe=>hn.1 (e ▸ bT h);simp[BV,bX,aM hne,abv hn.2 (by simpa using hl) h];simp[Dr]
theorem QD:∀{ab:Y Nat},ab.Nodup->∀{j j' k:Nat},ab[j]? =some k->ab[j']? =some k->j=j'
 |[],_,_,_,_,h,_=>by simp at h
 |i::ab,hn,j,j',k,h,h'=>by
  simp at hn;cases j with
  |zero=>grind
  |succ j=>
   cases j' with
   |zero=>grind
   |succ j'=>exact congrArg (· +1) (QD hn.2 (k:=k) (by simpa using h) (by simpa using h'))
theorem Mem.handed(h:Mem P w0 O0 G I obj w){ab dC:Y Nat}{os:Y fe}(hnd:ab.Nodup)(hlen:ab.length=os.length)
 (hm:∀(j:Nat) k p,ab[j]? =some k->os[j]? =some p->∃o,obj k=some o/\o.sz=p.1/\dW (o.rows.take p.2.length)=aJ p.2) (Fi:∀k∈dC,k∉ab):
 Mem P w (qR (βc ab G) (gx G obj dC I)) (βc ab G) (gx G obj dC I) (te os) w:=by
 have look:∀j o',te os j=some o'->∃k p o,ab[j]? =some k/\os[j]? =some p/\o'=i6 p/\obj k=some o/\o.sz=p.1/\dW (o.rows.take p.2.length)=aJ p.2:=by
  intro j o' hj;simp only[te,uy]at hj;obtain⟨p,hp,rfl⟩:=hj;have hjl:j<ab.length:=by rw[hlen];exact(bU.1 hp).1
  obtain⟨o,g⟩:=hm j _ p (dI hjl) hp;exact⟨_,p,o,dI hjl,hp,rfl,g⟩
 have hb0:∀j k,ab[j]? =some k->βc ab G j=G k:=λj k hk=>by simp[βc,hk]
 constructor;intro j o' hj;obtain⟨k,p,o,g1,g2,rfl,g3,g4,g5⟩:=look j o' hj;have⟨B,hB,hO⟩:=h.du k o g3;refine⟨B,by rw[hb0 j k g1];exact hB,?_⟩;have:OR P G w I (i6 p) B:=by
  cases B with
  |none=>
   simp[OR]at hO |-;rw[hO]at g5;simpa[dW,i6]using g5.symm
  | «at» b s n=>
   obtain⟨h1,c,e,h2,h3,h4⟩:=hO;refine⟨by rw[h1,g4];rfl,c,e,h2,h3,?_⟩;have:=cj.wk _ _ _ _ (cj.take p.2.length _ _ _ _ h4);rw[g5]at this;exact this
  |mp b=>exact OR.part g4 g5 hO
 exact this.dat λb hb=>.inl hb;intro j j' o o' B B' b h1 h2 h3 h4 h5 h6;have⟨k,p,q,g1,_,_,g3,_⟩:=look j o h1;have⟨k',p',q',g1',_,_,g3',_⟩:=look j' o' h2;rw[hb0 j k g1]at h3;rw[hb0 j' k' g1']at h4;have:=h.iv k k' q q' B B' b g3 g3' h3 h4 h5 h6;subst this;exact QD hnd g1 g1';intro j o B b h1 h2 h5;have⟨k,p,q,g1,_,_,g3,_⟩:=look j o h1;have h2':=h2;rw[hb0 j k g1]at h2;have⟨a1,a2,_⟩:=h.ownB k q B b g3 h2 h5;refine⟨?_,a2,.inl ⟨j,B,h2',h5⟩⟩;rintro (hI|⟨k',o',s',n',e1,e2,e3⟩);exact a1 hI;have:=h.py k k' q o' b g3 e2 ⟨B,h2,h5⟩ (.at e3);subst this;exact Fi _ e1 (bT g1);exact NP h _;exact λb hb=>.inl hb;exact λ_ _ _=>rfl;exact aB _;rfl;rfl;rfl;intro j B hj;simp only[qR]at hj;split at hj;exact hj;cases hj;exact h.vars.mono (λ _ _=>rfl) (λ b hb=>.inl hb)
theorem Mem.HD(h:Mem P w0 O0 G I obj w){ab dC:Y Nat}{os':Y (Option fe)}{w':M}{I1 I2:Ψ}{AD:S}
 (hM:Mem P w (qR (βc ab G) (gx G obj dC I)) (βc ab G) I1 (Dr os') w') (hI:∀b,I b->I2 b) (hI1:∀b,I2 b->I1 b) (lz:∀k∈ab,∃o,obj k=some o)
 (ho:∀k o,AD k=some o->(∃ j,ab[j]? =some k/\Dr os' j=some o/\∀B,OR P (βc ab G) w' I1 o B->OR P G w' I2 o B)\/(k∉ab/\obj k=some o/\∀b,ir G k b->¬I2 b)):
 Same I w w'/\Mem P w0 O0 G I2 AD w'/\(∀ b,WI (βc ab G) b->¬I b/\(O0.own b\/w0.heap.size<=b))/\∀k o b,k∉ab->obj k=some o->ir G k b->¬WI (βc ab G) b:=by
 have hb0:∀j k,ab[j]? =some k->βc ab G j=G k:=λj k hk=>by simp[βc,hk]
 have hown:∀b,WI (βc ab G) b->∃k o,k∈ab/\obj k=some o/\ir G k b:=by rintro b ⟨j,B,hj,hB⟩;have⟨k,h1,h2⟩:=NQ hj;have⟨o,h3⟩:=lz k (bT h1);exact⟨k,o,bT h1,h3,B,h2,hB⟩
 have hold:∀k o,AD k=some o->∃q,obj k=some q:=by intro k o hk;rcases ho k o hk with ⟨j,h1,_⟩|⟨_,h2,_⟩;exact lz k (bT h1);exact⟨o,h2⟩
 have hapart:∀k o b,k∉ab->obj k=some o->ir G k b->¬WI (βc ab G) b:=by intro k o b hk h1 h2 hb;have⟨k',o',g1,g2,g3⟩:=hown b hb;have:=h.py k k' o o' b h1 g2 h2 g3;subst this;exact hk g1
 have hS:Same I w w':=λb hb=>hM.keep b (h.lt b hb) (λ hb'=>by have⟨k',o',g1,g2,g3⟩:=hown b hb';exact(h.k8 k' o' b g2 g3).1 hb);refine⟨hS,?_,λb hb=>?_,hapart⟩;constructor;intro k o hk;rcases ho k o hk with ⟨j,h1,h2,h3⟩|⟨h1,h2,h3⟩;have⟨B,hB,hO⟩:=hM.du j o h2;exact⟨B,by rw[<- hb0 j k h1];exact hB,h3 B hO⟩;have⟨B,hB,hO⟩:=h.du k o h2;refine⟨B,hB,OR.mono (λ _ _ h=>h) hS hI (λ b e=>hM.keep b (h.ownB k o B b h2 hB e).2.1 (hapart k o b h1 h2 ⟨B,hB,e⟩)) hO⟩;intro k k' o o' B B' b h1 h2;have⟨q,e1⟩:=hold k o h1;have⟨q',e2⟩:=hold k' o' h2;exact h.iv k k' q q' B B' b e1 e2;intro k o B b h1 h2 h5;have⟨q,e1⟩:=hold k o h1;have⟨a1,a2,a3⟩:=h.ownB k q B b e1 h2 h5;refine⟨?_,Nat.lt_of_lt_of_le a2 hM.le,a3⟩;rcases ho k o h1 with ⟨j,g1,g2,_⟩|⟨_,_,g3⟩;exact λhb=>(hM.ownB j o B b g2 (by rw[hb0 j k g1];exact h2) h5).1 (hI1 b hb);exact g3 b ⟨B,h2,h5⟩;exact λb hb=>hM.lt b (hI1 b hb);intro b hb;rcases hM.up b (hI1 b hb)with (g|⟨k',o',s',n',_,g2,g3⟩)|g|g;exact h.up b g;exact .inr (h.own k' o' b s' n' g2 g3).2.2;have⟨k',o',_,g2,g3⟩:=hown b g;exact .inr (h.k8 k' o' b g2 g3).2.2;exact .inr (.inr (Nat.le_trans h.le g));intro b hb hno;refine(hM.keep b (Nat.lt_of_lt_of_le hb h.le) (λ hb'=>?_)).trans (h.keep b hb hno);have⟨k',o',_,g2,g3⟩:=hown b hb';rcases (h.k8 k' o' b g2 g3).2.2 with g|g;exact hno g;omega;exact Nat.le_trans h.le hM.le;exact hM.os.trans h.os;exact hM.tape.trans h.tape;exact hM.output.trans h.output;exact h.anch;exact h.vars.mono hS hI;have⟨k',o',_,g2,g3⟩:=hown b hb;exact⟨(h.k8 k' o' b g2 g3).1,(h.k8 k' o' b g2 g3).2.2⟩
mutual
theorem acX{get:Nat->Option aN}{ab:List Nat}:∀{x:AV}{hs:List LH}{p:AV×List LH×List Prop},rR P get ab x hs=some p->(∀ q∈p.2.2,q)->jz P get ab x p.1:=by
 intro x hs p h ho;unfold rR at h;split at h;split at h;cases h;exact jz.base _ _ _ (.inl ⟨_,_,_,_,‹_›,rfl,rfl⟩);cases h;split at h;cases h;exact jz.base _ _ _ (.inr (.inl ⟨_,_,_,_,‹_›,rfl,rfl⟩));cases h;split at h;cases h;exact jz.base _ _ _ (.inr (.inr (.inl ⟨_,_,‹_›,rfl,rfl⟩)));cases h;rename_i cs hs;simp only[ah,bK]at h;obtain⟨q,h1,rfl⟩:=h;simp;exact .inl (oG h1 (λ y hy=>ho y (by simp[hy])));split at h;rename_i hd;refine jz.base _ _ _ (.inr (.inr (.inr ⟨λ k hk=>by simpa using all_eq_true.1 hd k (by simpa[refs]using hk),EM _ _ _ h ho⟩)));cases h;rename_i F first caps hs
 simp only[ah,bK]at h;obtain⟨q,h1,q',h2,rfl⟩:=h;simp only[jz];exact .inl ⟨trivial,oG h1 (λ y hy=>ho y (by simp[hy])),oG h2 (λ y hy=>ho y (by simp[hy]))⟩;split at h;rename_i hd;refine jz.base _ _ _ (.inr (.inr (.inr ⟨λ k hk=>by simpa using all_eq_true.1 hd k hk,EM _ _ _ h ho⟩)));cases h
theorem oG{get:Nat->Option aN}{ab:List Nat}:∀{xs:List AV}{hs:List LH}{p:List AV×List LH×List Prop},nC P get ab xs hs=some p->(∀ q∈p.2.2,q)->gi P get ab xs p.1
 |[],hs,p,h,_=>by simp[nC]at h;subst h;trivial
 |x::xs,hs,p,h,ho=>by simp only[nC,ah,bK]at h;obtain⟨q,h1,q',h2,rfl⟩:=h;exact⟨acX h1 (λ y hy=>ho y (by simp[hy])),oG h2 (λ y hy=>ho y (by simp[hy]))⟩
end
theorem oc.sound(h:Mem P w0 O0 G I obj w){get:S}(hg:∀k o,get k=some o->obj k=some o){ab:Y Nat}(dC:Y Nat){x y:AV}{v:Ω}(hk:∀k,k∈refs x->k∉ab->k∈dC)(hb:oc P get ab x y)(hv1:VR P G w I x v):VR P (βc ab G) w (gx G obj dC I) y v:=by
 rcases hb with ⟨j,k,aa,len,e1,rfl,rfl⟩|⟨j,k,row,aa,e1,rfl,rfl⟩|⟨j,k,e1,rfl,rfl⟩|⟨e1,e2⟩;simp[VR]at hv1 |-;have:βc ab G j=G k:=by simp[βc,e1]
 rw[this];exact hv1;simp[VR]at hv1 |-;have:βc ab G j=G k:=by simp[βc,e1]
 rw[this];exact hv1;simp[VR]at hv1 |-;have:βc ab G j=G k:=by simp[βc,e1]
 rw[this];exact hv1;have:=gE.sound h dC x y v (λ k hk'=>hk k hk' (e1 k hk')) (gE.weaken hg x y e2) hv1;exact VR.mono (λ k B h=>by simp[pb]at h) (λ _ _=>rfl) (λ _ h=>h) _ _ this
mutual
theorem jz.sound(h:Mem P w0 O0 G I obj w){get:Nat->Option aN}(hg:∀k o,get k=some o->obj k=some o){ab:List Nat}(dC:List Nat):∀(x y:AV)(v:Value),(∀ k,k∈refs x->k∉ab->k∈dC)->jz P get ab x y->VR P G w I x v->VR P (βc ab G) w (gx G obj dC I) y v:=by intro x y v hk hb hv;unfold jz at hb;split at hb;rcases hb with ⟨rfl,h1,h2⟩|hb;simp[VR]at hv |-;obtain⟨fs,cs,e,g1,g2⟩:=hv;exact⟨fs,cs,e,gi.sound h hg dC _ _ _ (λ k hk'=>hk k (by simp[refs,hk'])) h1 g1,gi.sound h hg dC _ _ _ (λ k hk'=>hk k (by simp[refs,hk'])) h2 g2⟩;exact oc.sound h hg dC hk hb hv;rcases hb with h1|hb;simp[VR]at hv |-;obtain⟨vs,e,g1⟩:=hv;exact⟨vs,e,gi.sound h hg dC _ _ _ (λ k hk'=>hk k (by simpa[refs]using hk')) h1 g1⟩;exact oc.sound h hg dC hk hb hv;exact oc.sound h hg dC hk hb hv
theorem gi.sound(h:Mem P w0 O0 G I obj w){get:Nat->Option aN}(hg:∀k o,get k=some o->obj k=some o){ab:List Nat}(dC:List Nat):∀(xs ys:List AV)(vs:List Value),(∀ k,k∈dJ xs->k∉ab->k∈dC)->gi P get ab xs ys->br P G w I xs vs->br P (βc ab G) w (gx G obj dC I) ys vs
 |[],[],[],_,_,_=>by simp[br]
 |x::xs,y::ys,v::vs,hk,hb,hv=>by simp[br]at hv |-;exact⟨jz.sound h hg dC x y v (λ k hk'=>hk k (by simp[dJ,hk'])) hb.1 hv.1,gi.sound h hg dC xs ys vs (λ k hk'=>hk k (by simp[dJ,hk'])) hb.2 hv.2⟩
 |[],_::_,_,_,hb,_=>hb.elim
 |_::_,[],_,_,hb,_=>hb.elim
 |[],[],_::_,_,_,hv=>by simp[br]at hv
 |_::_,_::_,[],_,_,hv=>by simp[br]at hv
end
theorem aeK{os':Y (Option fe)}{j:Nat}{o:aN}(h:Dr os' j=some o):∃p,some p∈os'/\o=i6 p:=by simp only[Dr,uy,Option.join_eq_some_iff]at h;obtain⟨p,hp,rfl⟩:=h;exact⟨p,bT hp,rfl⟩
theorem aeL(h:Mem P w0 O0 G I obj w)(hn:G (cD i)=none){ab dC:Y Nat}{os':Y (Option fe)}{rv:RV}{p:AV×List (Nat×Option aN)}{keep:Bool}(hp:imp i ab rv=some p)(hk:keep=true->rv.flat/\WJ os')
 (hnd:ab.Nodup) (hlen:os'.length=ab.length) (lz:∀k∈ab,∃o,obj k=some o)
 {w':M} {I1:Ψ} {v:Ω} (hM:Mem P w (qR (βc ab G) (gx G obj dC I)) (βc ab G) I1 (Dr os') w') (h1:∀b,gx G obj dC I b->I1 b) (hr:th P (C4 w (βc ab G) os') (βc ab G) rv w' I1 v):
 ∃ β' I',Step G I w (cD i) β' I' w'/\Mem P w0 O0 β' I' (bX obj (p.2++(BV ab os'++if keep then []else dC.map (λ k=>(k,none))))) w'/\VR P β' w' I' p.1 v:=by
 have look:∀g k o,bX obj (BV ab os'++g) k=some o->(∃ j,ab[j]? =some k/\Dr os' j=some o)\/(k∉ab/\bX obj g k=some o):=by intro g k o hk;by_cases hki:k∈ab;obtain⟨j,hj⟩:=List.getElem?_of_mem hki;rw[abv hnd hlen hj]at hk;exact .inl ⟨j,hj,hk⟩;rw[akP hki]at hk;exact .inr ⟨hki,hk⟩
 have main:∀(g:Y (Nat×Option aN))(I2:Nat->Prop),(∀ k o,bX obj g k=some o->obj k=some o)->(∀ b,I b->I2 b)->(∀ b,I2 b->I1 b)->(∀ j o B,Dr os' j=some o->OR P (βc ab G) w' I1 o B->OR P G w' I2 o B)->
  (∀ k o b,k∉ab->bX obj g k=some o->ir G k b->¬I2 b)->th P (C4 w (βc ab G) os') (βc ab G) rv w' I2 v->
  ∃ β' I',Step G I w (cD i) β' I' w'/\Mem P w0 O0 β' I' (bX obj (p.2++(BV ab os'++g))) w'/\VR P β' w' I' p.1 v:=by
  intro g I2 hg hI hI1 hor L3 hr2;obtain⟨hS,hM2,hown,hapart⟩:=h.HD (AD:=bX obj (BV ab os'++g)) hM hI hI1 lz (λ k o hk=>by rcases look g k o hk with ⟨j,e1,e2⟩|⟨e1,e2⟩;exact .inl ⟨j,e1,e2,λB=>hor j o B e2⟩;exact .inr ⟨e1,hg k o e2,λb e3=>L3 k o b e1 e2 e3⟩);obtain⟨β',k1,k2,k3⟩:=QC (ab:=ab) (F:=C4 w (βc ab G) os') (βc:=βc ab G) hM2 hn (λ k o b e1 e2 hb=>by rcases look g k o e1 with ⟨j,e3,e4⟩|⟨e3,e4⟩;exact hb.2 j o e4 (by obtain⟨B,e5,e6⟩:=e2;exact⟨B,by simp[βc,e3,e5],e6⟩);rcases hb.1 with hb|hb;exact hapart k o b e3 (hg k o e4) e2 hb;have:=(h.k8 k o b (hg k o e4) e2).2.1;omega) (λ b hb=>by rcases hb.1 with hb|hb;exact(hown b hb).2;exact .inr (Nat.le_trans h.le hb)) (λ j B hj=>NQ hj) hp hr2;refine⟨β',I2,⟨k1.other,k1.ext,hS,hI⟩,?_,k3⟩;have e:bX obj (p.2++(BV ab os'++g))=bX (bX obj (BV ab os'++g)) p.2:=funext λk=>tV obj _ _ k;rw[e];exact k2
 cases keep with
 |true=>
  have⟨hf1,hf2⟩:=hk rfl;exact main [] I (λ _ _ h=>h) (λ _ h=>h) (λ b hb=>h1 b (.inl hb)) (λ j o B hj hO=>by obtain⟨q,hq,rfl⟩:=aeK hj;exact OR.flat (hf2 q hq) hO) (λ k o b _ e1 e2=>(h.k8 k o b e1 e2).1) (th.flat hf1 (λ b hb=>h1 b (.inl hb)) hr)
 |false=>
  have hsub:∀k o,bX obj (dC.map λk=>(k,none)) k=some o->obj k=some o/\k∉dC:=by intro k o hk;rw[zi]at hk;split at hk;cases hk;exact⟨hk,‹_›⟩
  refine main _ I1 (λ k o hk=>(hsub k o hk).1) (λ b hb=>h1 b (.inl hb)) (λ _ h=>h) (λ j o B hj hO=>by obtain⟨q,hq,rfl⟩:=aeK hj;exact OR.dat (λ _ h=>h) hO) (λ k o b hki e1 e2 hb=>?_) hr;have⟨f1,f2⟩:=hsub k o e1;have⟨a1,a2,_⟩:=h.k8 k o b f1 e2;rcases hM.up b hb with (g|⟨k',o',s',n',g1,g2,g3⟩)|⟨j,B',g,g'⟩|g;exact a1 g;have:=h.py k k' o o' b f1 g2 e2 (.at g3);subst this;exact f2 g1;have⟨k',g1,g2⟩:=NQ g;have⟨o',g3⟩:=lz k' (bT g1);have:=h.py k k' o o' b f1 g3 e2 ⟨B',g2,g'⟩;subst this;exact hki (bT g1);omega
theorem WK(h:Mem P w0 O0 G I obj w)(hn:G (cD i)=none){f:AV}{args:Y AV}{cP:kx}{get:S}{out:Out}(hg:∀k o,get k=some o->obj k=some o)
 {fv:Ω} {vs:Array Value} {ag:Array Operand} {fo:Operand} {r:Operand->Value} (ha:IB P i f args cP get=some out) (df:out.ob) (hf:VR P G w I f fv) (hv:br P G w I args vs.toList) (hfo:r fo=fv) (hops:vs=ag.map r)
 {dst:J Tmp} {am:String} {after:Array Edge} {guard:J (Nat×Bool)} {ty:E} {ej:Array TypeId}:
 Ba P w0 O0 G I obj w i out ((execOp r ⟨dst,.call { callee:=.value fo,args:=ag,argTypes:=ej },ty,am,after,guard⟩).run P w):=by
 unfold IB at ha;split at ha;rename_i F first caps ab os os' hs rv keep
 split at ha
 .rename_i hc;obtain⟨hnd,hlen⟩:=hc;cases hp:imp i ab rv with
  |none=>simp[hp]at ha
  |some p=>
  cases hmo:EN get ab os with
  |none=>simp[hmo]at ha
  |some mo=>
  cases hq:nC P get ab (first++args++caps) hs with
  |none=>simp only[hp,hmo,hq,ai,Option.bind_none,reduceCtorEq]at ha
  |some q=>
  simp only[hp,hmo,hq,ai]at ha;simp[VR]at hf;obtain⟨fs,cs,rfl,hf1,hf2⟩:=hf;have hout:(∀ x∈q.2.2++mo,x)/\ro P F q.1 os os' rv/\(keep=true->rv.flat/\WJ os')/\out.v=p.1/\out.upd=p.2++(BV ab os'++if keep then []else(IA (first++args++caps) ab).map (λ k=>(k,none))):=by
   cases keep with
   |true=>
    simp only[if_true,bK]at ha;subst ha;have df:=sw _ df;exact⟨λ x hx=>df x (by simp only[bI]at hx |-;exact .inl hx),df (ro P F q.1 os os' rv) (by simp),λ_=>⟨df rv.flat (by simp),df (WJ os') (by simp)⟩,rfl,by simp⟩
   |false=>
    simp only[Bool.false_eq_true,if_false,bK]at ha;subst ha;have df:=sw _ df;exact⟨λ x hx=>df x (by simp only[bI]at hx |-;exact .inl hx),df (ro P F q.1 os os' rv) (by simp),λh=>(by cases h),rfl,by simp⟩
  obtain⟨o1,o2,o3,o4,o5⟩:=hout;obtain⟨⟨fn,e1,e2,e3⟩,hcon⟩:=o2;obtain⟨hl2,hmm⟩:=Tf hmo (λ x hx=>o1 x (by simp[hx]));have hmm':∀(j:Nat) k p,ab[j]? =some k->os[j]? =some p->∃o,obj k=some o/\o.sz=p.1/\dW (o.rows.take p.2.length)=aJ p.2:=λj k p h1 h2=>by have⟨o,g1,g2⟩:=hmm j k p h1 h2;exact⟨o,hg k o g1,g2⟩
  have lz:∀k∈ab,∃o,obj k=some o:=by intro k hk;obtain⟨j,hj⟩:=List.getElem?_of_mem hk;have hjl:j<os.length:=(by rw[<- hl2];exact(bU.1 hj).1);obtain⟨o,g,_⟩:=hmm' j k _ hj (dI hjl);exact⟨o,g⟩
  have asK:∀k∈IA (first++args++caps) ab,k∉ab:=λk hk=>by simp[IA]at hk;simpa using hk.2
  have hM:=h.handed (dC:=IA (first++args++caps) ab) hnd hl2 hmm' asK;have hall:br P G w I (first++args++caps) (fs++vs++cs).toList:=by simp only[Array.toList_append];exact br.append _ _ _ _ (br.append _ _ _ _ hf1 hv) hf2
  have qt:=gi.sound h hg (IA (first++args++caps) ab) _ _ _ (λ k hk hn=>by simp only[IA,List.mem_filter];exact⟨hk,by simpa using hn⟩) (oG hq (λ x hx=>o1 x (by simp[hx]))) hall;refine⟨F,fs++vs++cs,?_,(hcon w _ _ _ (λ k hk=>?_) hM qt).mono ?_⟩;have hb:¬fn.body=none:=by cases hh:fn.body<;>simp[hh]at e2 |-
  have e3' : ¬ fn.name = "runtime.NumGoroutine" := by simpa using e3
  simp[execOp,resolve,hfo,<- hops,Deferred.ofValue,invoke,callFunc,e1,e3',hb];simp[βc,List.getElem?_eq_none (show ab.length<=k by omega)];rintro e w' ⟨v',I1,rfl,g1,g2,g3⟩;have⟨β',I',k1,k2,k3⟩:=aeL (keep:=keep) h hn hp o3 hnd hlen lz g1 g2 g3;exact⟨v',β',I',rfl,k1,by rw[o5];exact k2,by rw[o4];exact k3⟩
 cases ha;cases ha
theorem WL(h:Mem P w0 O0 G I obj w)(hn:G (cD i)=none){f:AV}{args:Y AV}{cP:kx}{get:S}{out:Out}(hg:∀k o,get k=some o->obj k=some o)
 {fv:Ω} {vs:Array Value} {ag:Array Operand} {fo:Operand} {r:Operand->Value} (ha:sD P i f args cP get=some out) (df:out.ob) (hf:VR P G w I f fv) (hv:br P G w I args vs.toList) (hfo:r fo=fv) (hops:vs=ag.map r)
 {dst:J Tmp} {am:String} {after:Array Edge} {guard:J (Nat×Bool)} {ty:E} {ej:Array TypeId}:
 Ba P w0 O0 G I obj w i out ((execOp r ⟨dst,.call { callee:=.value fo,args:=ag,argTypes:=ej },ty,am,after,guard⟩).run P w):=by unfold sD at ha;split at ha;exact WK h hn hg ha df hf hv hfo hops;exact aag h hn hg ha df hf hv hfo hops
end
def Hx(op:BinOp)(b:AV)(yes:Bool):J Out:=
 match op with
 |.eql=>pv (if yes then b else .t (.sc (.bool false)))
 |.neq=>pv (if yes then b else .t (.sc (.bool true)))
 |_=>none
def C3(T:eM)(op:BinOp)(t:E)(x y:AV):J Out:=
 (T t).bind λti=>match ti.k,x,y with
 |.slice _,.t (.sl rows),.d5=>Hx op .ub rows.isEmpty
 |.slice _,.own _ _ len,.d5=>Hx op .ub (len==0)
 |.slice _,.oz _ len,.d5=>Hx op (.t (.sc (.bool (op==.eql)))) (len==0)
 |.slice _,.d5,.d5=>Hx op (.t (.sc (.bool (op==.eql)))) true
 |_,_,_=>none
def T6(T:eM)(s d:E)(x:AV):J Out:=
 (T s).bind λ_=>(T d).bind λdi=>match di.k,x with
 |.int k,.t (.sc (.int _ n))=>pv (.t (.sc (.int k (k.wrap n))))
 |_,_=>none
def WM(T:eM)(t:E)(x j:AV)(n:Int):J Out:=
 (T t).bind λti=>match ti.k,x,j with
 |.str,.t (.sc (.string s)),.t (.sc (.int _ m))=>oy (.t (.sc (.int .u8 n))) (0<=m/\∃b,s[m.toNat]? =some b/\n=b.toNat)
 |.arr m e,.agg cs,.t (.sc (.int _ q))=>(T e).bind λei=>(part' ei.agg ei.size ((cs.drop (q.toNat*ei.size)).take ei.size)).bind λv=>oy v (0<=q/\q<(m:Int))
 |_,_,_=>none
def Ki(T:eM)(t:E)(x:AV)(lo hi:J AV):J Out:=
 (T t).bind λti=>match ti.k,x with
 |.slice e,.d5=>(T e).bind λ_=>(bnd 0 lo).bind λl=>(bnd 0 hi).bind λh=>oy .d5 (l=0/\h=0)
 |_,_=>none
def wz(T:eM)(i:Nat)(b:Builtin)(args:Y AV)(ej:Y TypeId)(get:S):J Out:=
 match b,args,ej with
 |.cap,[.d5],[t]=>(T t).bind λti=>match ti.k with
  |.slice _=>pv (.t (.sc (.int .i64 0)))
  |_=>none
 |.clear,[.own k aa _],[t]=>(T t).bind λti=>match ti.k with
  |.slice e=>(T e).bind λei=>(get k).bind λo=>if o.sz=ei.size then some ⟨.eE [],[(k,some ⟨o.sz,o.rows.take aa⟩)],[]⟩else none
  |_=>none
 |.append,[.d5,.t (.sc (.int _ m))],[t,u]=>(T t).bind λti=>(T u).bind λui=>match ti.k,ui.k with
  |.slice e,.int _=>(T e).bind λei=>some ⟨.own (cD i) 0 m.toNat,[(cD i,some ⟨ei.size,dW (List.replicate m.toNat (ei.zero.map cv))⟩)],[0<=m/\m.toNat*ei.bytes<=140737488355328/\m.toNat<=maxLen/\0<ei.size]⟩
  |_,_=>none
 |_,_,_=>none
def uD(T:eM)(i:Nat)(o:Oper)(n:Int)(ρ:Operand->AV)(get:S):J Out:=
 match o.op with
 |.binOp op t x y _=>C3 T op t (ρ x) (ρ y)
 |.convert s d x=>T6 T s d (ρ x)
 |.index t x j=>WM T t (ρ x) (ρ j) n
 |.slice t x lo hi none=>Ki T t (ρ x) (lo.map ρ) (hi.map ρ)
 |.call { callee:=.builtin b,args:=args,argTypes:=ej }=>wz T i b (args.toList.map ρ) ej.toList get
 |_=>none
section
variable {T:eM}
theorem Tg{i:Nat}{o:Oper}{cP:kx}{ρ ρ':Operand->AV}{get:S}(h:∀x∈o.op.operands,ρ x=ρ' x):rO T i o cP ρ get=rO T i o cP ρ' get:=by
 obtain⟨dst,op,ty,am,after,guard⟩:=o;have pairs:∀ps:Array (Nat×Operand),(∀ x∈(ps.toList.map (·.2)).toArray,ρ x=ρ' x)->(ps.toList.map λ(j,x)=>(j,ρ x))=(ps.toList.map λ(j,x)=>(j,ρ' x)):=λps hp=>
  map_congr_left λp hm=>by obtain⟨i,x⟩:=p;simp[hp x (by simp only[List.mem_toArray];exact mem_map.2 ⟨(i,x),hm,rfl⟩)]
 cases op<;>simp only[Op.operands]at h<;>simp[rO]
 case build t ps=>rw[pairs ps h]
 case buildSlice t n ps=>rw[pairs ps h]
 case makeFunc fn first captured=>
  have h1:first.toList.map ρ=first.toList.map ρ':=map_congr_left λx hx=>h x (by simp;exact .inl (by simpa using hx))
  have h2:captured.toList.map ρ=captured.toList.map ρ':=map_congr_left λx hx=>h x (by simp;exact .inr (by simpa using hx));cases fn<;>simp[h1,h2]
 case call c=>
  obtain⟨callee,args,ej⟩:=c;cases callee<;>simp
  case builtin b=>
   have h1:args.toList.map ρ=args.toList.map ρ':=map_congr_left λx hx=>h x (by simp[Call.operands];simpa using hx);rw[h1]
 case slice t x lo hi mx=>
  have hx:=h x (by simp);cases mx with
  |some m=>rfl
  |none=>
   simp;cases lo<;>cases hi<;>simp_all
 all_goals (first|rfl|(simp_all;done))
theorem sQ:∀(l:Y Prop),(∀ p∈l,p)->iZ l
 |[],_=>trivial
 |[q],h=>h q (by simp)
 |q::r::l,h=>⟨h q (by simp),sQ (r::l) λp hp=>h p (eG _ hp)⟩
theorem acY{i:Nat}{o:Oper}{n:Int}{ρ ρ':Operand->AV}{get:S}(h:∀x∈o.op.operands,ρ x=ρ' x):uD T i o n ρ get=uD T i o n ρ' get:=by
 obtain⟨dst,op,ty,am,after,guard⟩:=o;cases op<;>simp only[Op.operands]at h<;>simp[uD]
 case binOp a b c d e=>rw[h c (by simp),h d (by simp)]
 case convert s d x=>rw[h x (by simp)]
 case index t x j=>rw[h x (by simp),h j (by simp)]
 case call c=>
  obtain⟨callee,args,ej⟩:=c;cases callee<;>simp
  case builtin b=>
   have h1:args.toList.map ρ=args.toList.map ρ':=map_congr_left λx hx=>h x (by simp[Call.operands];simpa using hx);rw[h1]
 case slice t x lo hi mx=>
  have hx:=h x (by simp);cases mx with
  |some m=>rfl
  |none=>
   cases lo<;>cases hi<;>simp_all
end
def ahK:Op->Bool
 |.pick .. =>true
 |_=>false
def IC(P:Q)(T:eM)(i:Nat)(o:Oper)(ab:Y Nat)(fr:Operand->AV)(cP:kx)(ρ:Operand->AV)(get:S):J Out:=
 if ahK o.op then none else(rO T i o cP fr (λ k=>if k∈ab then none else get k)).bind λout=>
  some ⟨out.v,out.upd++ab.map (λ k=>(k,none)),out.obs++[∀ x∈o.op.operands,(gE P get (ρ x) (fr x)/\∀k∈refs (ρ x),k∈ab)\/fr x=ρ x]⟩
theorem acZ{P:Q}{T:eM}{i:Nat}{o:Oper}{ab:Y Nat}{fr:Operand->AV}{cP:kx}{ρ ρ':Operand->AV}{get:S}(h:∀x∈o.op.operands,ρ x=ρ' x):IC P T i o ab fr cP ρ get=IC P T i o ab fr cP ρ' get:=by
 unfold IC;have:(∀ x∈o.op.operands,(gE P get (ρ x) (fr x)/\∀k∈refs (ρ x),k∈ab)\/fr x=ρ x)=(∀ x∈o.op.operands,(gE P get (ρ' x) (fr x)/\∀k∈refs (ρ' x),k∈ab)\/fr x=ρ' x):=by grind
 rw[this]
section
variable {P:Program} {T:eM} {w0:World} {O0:lp} {G:Nat->Option dc} {I:Nat->Prop} {obj:Nat->Option aN} {w:World} {i:Nat}
theorem ahL(hT:fF P T){op:BinOp}{t:E}{x y:AV}{xo yo:Operand}{u v:Ω}{out:Out}(ha:C3 T op t x y=some out)(hx:VR P G w I x u)(hy:VR P G w I y v):
 ∃z,(do eqGuard op t xo yo u v;binOp op t u v:Sem Value).run P w=.ok z w/\VR P G w I out.v z/\out.upd=[]:=by
 unfold C3 at ha;cases hti:T t with
 |none=>simp[hti]at ha
 |some ti=>
  have ht:=hT t ti hti;simp only[hti,ai]at ha;have eq:∀e a n c,P.underlying t=some (.slice e)->(Op.equal t (.slice a n c) (.slice none 0 0)).run P w=.ok a.isNone w:=by intro e a n c hu;have:∀d,(Op.equalIn (d+1) t (.slice a n c) (.slice none 0 0)).run P w=.ok a.isNone w:=(by intro d;cases a<;>simp[Op.equalIn,run_underlying hu]);exact this 9999
  have main:∀e,P.underlying t=some (.slice e)->∀a n c,u=.slice a n c->v=.slice none 0 0->(op=.eql\/op=.neq)->
   (do eqGuard op t xo yo u v;binOp op t u v:Sem Value).run P w=.ok (.bool (if op=.eql then a.isNone else !a.isNone)) w:=by rintro e hu a n c rfl rfl (rfl|rfl);simp[eqGuard,binOp,eq e a n c hu];simp[eqGuard,binOp,eq e a n c hu]
  have fin:∀e,P.underlying t=some (.slice e)->∀a n c,u=.slice a n c->v=.slice none 0 0->∀(bv:AV)(yes:Bool),Hx op bv yes=some out->
   (yes=false->a.isNone=false)->(yes=true->∀q,(q=if op=.eql then a.isNone else !a.isNone)->VR P G w I bv (.bool q))->
   ∃z,(do eqGuard op t xo yo u v;binOp op t u v:Sem Value).run P w=.ok z w/\VR P G w I out.v z/\out.upd=[]:=by
   intro e hu a n c h1 h2 bv yes hn hno LI;unfold Hx at hn;split at hn;simp only[pv,bK]at hn;subst hn;refine⟨_,main e hu a n c h1 h2 (.inl rfl),?_,rfl⟩;cases yes with
   |true=>exact LI rfl _ rfl
   |false=>simp only[hno rfl];exact⟨by simp,trivial⟩
   simp only[pv,bK]at hn;subst hn;refine⟨_,main e hu a n c h1 h2 (.inr rfl),?_,rfl⟩;cases yes with
   |true=>exact LI rfl _ rfl
   |false=>simp only[hno rfl];exact⟨by simp,trivial⟩
   cases hn
  split at ha;rename_i e rows hk;have hu:=iE ht hk;simp only[VR]at hy;simp only[VR,TR]at hx;rcases hx with ⟨rfl,a,c,rfl,_⟩|⟨b,aa,c,sz,rfl,_⟩;exact fin _ hu _ _ _ rfl hy _ _ ha (λ h=>by simp at h) (λ _ q _=>by simp only[VR];exact⟨q,rfl⟩);exact fin _ hu _ _ _ rfl hy _ _ ha (λ _=>rfl) (λ _ q _=>by simp only[VR];exact⟨q,rfl⟩);rename_i e k aa len hk;have hu:=iE ht hk;simp[VR]at hx hy;rcases hx with ⟨_,rfl,_,rfl⟩|⟨b,sz,n,cap,o,_,rfl,_⟩;exact fin _ hu _ _ _ rfl hy _ _ ha (λ h=>by simp at h) (λ _ q _=>by simp only[VR];exact⟨q,rfl⟩);exact fin _ hu _ _ _ rfl hy _ _ ha (λ _=>rfl) (λ _ q _=>by simp only[VR];exact⟨q,rfl⟩);rename_i e k len hk;have hu:=iE ht hk;simp[VR]at hx hy;rcases hx with ⟨h0,rfl⟩|⟨h0,b,sz,n,cap,o,_,rfl,_⟩;refine fin _ hu _ _ _ rfl hy _ _ ha (λ h=>by simp[h0]at h) (λ _ q hq=>?_);simp[VR,TR,hq];cases op<;>exact⟨by simp,trivial⟩;exact fin _ hu _ _ _ rfl hy _ _ ha (λ _=>rfl) (λ h=>by simp[h0]at h);rename_i e hk;have hu:=iE ht hk;simp[VR]at hx hy;subst hx;refine fin _ hu _ _ _ rfl hy _ _ ha (λ h=>by cases h) (λ _ q hq=>?_);simp[VR,TR,hq];cases op<;>exact⟨by simp,trivial⟩;cases ha
theorem aeN(hT:fF P T){s d:E}{x:AV}{u:Ω}{out:Out}(ha:T6 T s d x=some out)(hx:VR P G w I x u):
 ∃z,(convert s d u).run P w=.ok z w/\VR P G w I out.v z/\out.upd=[]:=by
 unfold T6 at ha;cases hsi:T s with
 |none=>simp[hsi]at ha
 |some si=>
  cases hdi:T d with
  |none=>simp[hdi]at ha
  |some di=>
   simp[hsi,hdi]at ha;split at ha;rename_i k kk n hk;simp[pv]at ha;subst ha;have⟨info,dd,z,_,h2,_⟩:=(hT s si hsi).ex;have⟨info',dd',z',_,h2',_,_,_,_,_,h8⟩:=(hT d di hdi).ex;rw[hk]at h8;subst h8;simp[VR]at hx;obtain⟨rfl,_⟩:=hx;refine⟨.int k (k.wrap n),?_,by simp only[VR,TR];exact⟨trivial,trivial⟩,rfl⟩;simp[convert,run_underlying h2,run_underlying h2',Conv.intToInt];cases ha
theorem ac0(hT:fF P T){t:E}{x j:AV}{n:Int}{u v:Ω}{out:Out}(ha:WM T t x j n=some out)(df:out.ob)(hx:VR P G w I x u)(hj:VR P G w I j v):
 ∃z,(Instr.index t u v).run P w=.ok z w/\VR P G w I out.v z/\out.upd=[]:=by
 unfold WM at ha;cases hti:T t with
 |none=>simp[hti]at ha
 |some ti=>
  simp[hti]at ha;split at ha;rename_i s k m hk;simp[oy]at ha;subst ha;obtain⟨h0,b,hb,rfl⟩:=df;have⟨info',dd',z',_,h2',_,_,_,_,_,h8⟩:=(hT t ti hti).ex;rw[hk]at h8;have h8:dd'=.string:=h8;subst h8;simp[VR]at hx hj;obtain⟨rfl,_⟩:=hx;obtain⟨rfl,_⟩:=hj;refine⟨.int .u8 b.toNat,?_,by simp only[VR,TR];exact⟨trivial,trivial⟩,rfl⟩;simp[Instr.index,asIntOf,run_underlying h2',h0,hb];rename_i m e cs kd q hk;have fS:=Wz (hT t ti hti) hk;cases ie:T e with
  |none=>simp[ie]at ha
  |some ei=>
   simp[ie]at ha;cases hp:part' ei.agg ei.size ((cs.drop (q.toNat*ei.size)).take ei.size)with
   |none=>simp[hp]at ha
   |some y=>
    simp[hp,oy]at ha;subst ha;simp[VR]at hx hj;obtain⟨vs,rfl,hvs⟩:=hx;obtain⟨rfl,_⟩:=hj;have he:=hT e ei ie;have⟨u,hu,hv⟩:=aeI he hp hvs;refine⟨u,?_,hv,rfl⟩;simp[Instr.index,asIntOf,run_underlying fS,df.1,df.2,he.size (w:=w)];simpa using hu
  cases ha
theorem Um(hT:fF P T){t:E}{x:AV}{lo hi:J AV}{out:Out}{v:Ω}{vn hiv:J Value}
 (ha:Ki T t x lo hi=some out) (df:out.ob) (hx:VR P G w I x v) (hlo:∀x,lo=some x->∃v,vn=some v/\VR P G w I x v) (hlo0:lo=none->vn=none) (hhi:∀x,hi=some x->∃v,hiv=some v/\VR P G w I x v) (hhi0:hi=none->hiv=none):
 ∃u,(Instr.sliceAt t v vn hiv none).run P w=.ok u w/\VR P G w I out.v u/\out.upd=[]:=by
 unfold Ki at ha;cases hti:T t with
 |none=>simp[hti]at ha
 |some ti=>
  have ht:=hT t ti hti;simp[hti]at ha;split at ha;rename_i e hkd;cases ie:T e with
  |none=>simp[ie]at ha
  |some ei=>
   have he:=hT e ei ie;simp[ie]at ha;cases hl:bnd 0 lo with
   |none=>simp[hl]at ha
   |some l=>
    cases hh:bnd 0 hi with
    |none=>simp[hh]at ha
    |some r=>
     simp[hl,hh,oy]at ha;subst ha;obtain⟨rfl,rfl⟩:=df;subst hx;have:=Gv (P:=P) (w:=w) (len:=0) (cap:=0) (Kh hl hlo hlo0) (Kh hh hhi hhi0) (by omega) (by omega) (by omega);refine⟨.slice none 0 0,?_,by simp[VR],rfl⟩;simp[Instr.sliceAt,Instr.slice,run_underlying (iE ht hkd),this,he.size (w:=w)]
  cases ha
theorem cj.congr:∀(rows:Y (List AV))(c c':Array Value)(aa sz:Nat),(∀ j,j<aa+rows.length*sz->c'[j]? =c[j]?)->cj P G w I rows c aa sz->cj P G w I rows c' aa sz
 |[],_,_,_,_,_,_=>trivial
 |r::rs,c,c',aa,sz,hc,⟨h1,h2,h3⟩=>by
  have hl:(r::rs).length*sz=sz+rs.length*sz:=by rw[d9,Nat.add_mul];omega
  refine⟨h1,?_,cj.congr rs c c' (aa+sz) sz (λ j hj=>hc j (by omega)) h3⟩;rw[jO]at h2 |-;intro j x hx;have hj:=(bU.1 hx).1;rw[hc (aa+j) (by omega)];exact h2 j x hx
theorem cj.zeros(z:Y Value)(sz:Nat)(hz:z.length=sz)(h1:∀v∈z,oneCell v):∀(n:Nat)(c:Array Value)(aa:Nat),(∀ i j,i<n->j<sz->c[aa+i*sz+j]? =z[j]?)->cj P G w I (List.replicate n (z.map cv)) c aa sz
 | 0,_,_,_=>trivial
 |n+1,c,aa,hc=>by refine⟨by simpa using hz,?_,cj.zeros z sz hz h1 n c (aa+sz) λi j hi hj=>?_⟩;rw[jO];intro j x hx;simp at hx;obtain⟨v,hv,rfl⟩:=hx;have hj:=(bU.1 hv).1;refine⟨v,?_,VR.cv,h1 v (bT hv)⟩;have:=hc 0 j (by omega) (by omega);rw[Nat.zero_mul,Nat.add_zero]at this;rw[this];exact hv;have:=hc (i+1) j (by omega) hj;rw[show aa+sz+i*sz+j=aa+(i+1)*sz+j by rw[Nat.add_mul];omega];exact this
theorem LQ(z:Array Value)(n j:Nat)(h:j<n*z.size):(Builtin.zeroCells z n)[j]? =z[j%z.size]? :=by
 have hz:0<z.size:=Nat.pos_of_ne_zero λe=>by rw[e]at h;omega
 have hm:j%z.size<z.size:=Nat.mod_lt _ hz;simp[Builtin.zeroCells,h,hm]
theorem Un(hT:fF P T)(h:Mem P w0 O0 G I obj w)(hn:G (cD i)=none){b:Builtin}{args:Y AV}{ej:Array TypeId}{get:S}{out:Out}(hg:∀k o,get k=some o->obj k=some o)
 {vs:Array Value} {ty:E} {ag:Array Operand} (ha:wz T i b args ej.toList get=some out) (df:out.ob) (hv:br P G w I args vs.toList) {r:Operand->Value} (hops:vs=ag.map r) {dst:J Tmp} {am:String} {after:Array Edge} {guard:J (Nat×Bool)}:
 tM P w0 O0 G I obj w i out ((execOp r ⟨dst,.call { callee:=.builtin b,args:=ag,argTypes:=ej },ty,am,after,guard⟩).run P w):=by
 unfold wz at ha;split at ha;rename_i t s6;obtain⟨v,hvs⟩:∃v,vs=#[v]:=by
  obtain⟨l⟩:=vs
  match l,hv with
  |[v],_=>exact⟨v,rfl⟩
  |[],h=>simp[br]at h
  |_::_::_,h=>simp[br]at h
 have ht:ej=#[t]:=by cases ej;simpa using s6
 subst hvs ht;simp only[br,VR]at hv;cases hti:T t with
 |none=>simp[hti]at ha
 |some ti=>
  simp only[hti,ai]at ha;split at ha;rename_i e hk;simp only[pv,bK]at ha;subst ha;refine⟨.int .i64 0,w,G,I,.inl ?_,Step.refl ..,h,by simp only[VR,TR];exact⟨trivial,trivial⟩⟩;rw[hv.1]at hops;simp[execOp,resolve,invoke,builtin,<- hops,Builtin.cap_,run_underlying (iE (hT t ti hti) hk),goInt];cases ha
 rename_i k aa len t s6;obtain⟨v,hvs⟩:∃v,vs=#[v]:=by
  obtain⟨l⟩:=vs
  match l,hv with
  |[v],_=>exact⟨v,rfl⟩
  |[],h=>simp[br]at h
  |_::_::_,h=>simp[br]at h
 have ht:ej=#[t]:=by cases ej;simpa using s6
 subst hvs ht;simp only[br]at hv;have hv:=hv.1;cases hti:T t with
 |none=>simp[hti]at ha
 |some ti=>
  simp only[hti,ai]at ha;split at ha;rename_i e hkd;cases ie:T e with
  |none=>simp[ie]at ha
  |some ei=>
   cases hk:get k with
   |none=>simp[ie,hk]at ha
   |some o=>
    simp only[ie,hk,ai]at ha;split at ha;rename_i hsz;cases ha;have he:=hT e ei ie;have fS:=iE (hT t ti hti) hkd;obtain⟨info,d,z,g1,g2,g3,g4,g5,g6,g7,g8⟩:=he.ex;have hko:=hg k o hk;have weak:∀{w':World},Mem P w0 O0 G I obj w'->Mem P w0 O0 G I (bX obj [(k,some ⟨o.sz,o.rows.take aa⟩)]) w':=by
     intro w' hm;refine hm.weak λj o' hj=>?_;simp only[bX]at hj;split at hj;rename_i e;subst e;cases hj;refine⟨o,hko,λB hB hO=>?_⟩;cases B with
     |none=>simp only[OR]at hO |-;simp[hO]
     | «at» b s n=>
      obtain⟨h1,c,e,h2,h3,h4⟩:=hO;exact⟨h1,c,e,h2,h3,cj.take _ _ _ _ _ h4⟩
     |mp b=>
      obtain⟨es,cl,h1,hle,h2,h3⟩:=hO;refine⟨es,cl,h1,by simp only[length_take];omega,λe=>?_,h3⟩;simp only[length_take]at e;simp only;rw[take_of_length_le (by omega)];exact h2 (by omega)
     exact⟨o',hj,λ_ _ h=>h⟩
    have hdone:∀w',(Builtin.clear_ #[t] ty #[v]).run P w=.ok (.tuple #[]) w'->(execOp r ⟨dst,.call { callee:=.builtin .clear,args:=ag,argTypes:=#[t] },ty,am,after,guard⟩).run P w=.ok (.value (.tuple #[])) w':=(by intro w' hw;simp[execOp,resolve,invoke,builtin,<- hops,hw]);have D2:∀{w':World},VR P G w' I (.eE []) (.tuple #[]):=(by intro w';simp only[VR];exact⟨#[],rfl,trivial⟩);simp only[VR]at hv;rcases hv with ⟨h1,rfl,_,rfl⟩|⟨b,sz,m,cap,a,h1,rfl,h2,h3,h4⟩;exact⟨_,w,G,I,.inl (hdone w (by simp[Builtin.clear_,run_underlying fS])),Step.refl ..,weak h,D2⟩;by_cases h0:len=0;subst h0;exact⟨_,w,G,I,.inl (hdone w (by simp[Builtin.clear_,run_underlying fS])),Step.refl ..,weak h,D2⟩;have⟨B,hB,hO⟩:=h.du k o hko;rw[h1]at hB;cases hB;obtain⟨hs,c,ce,hc,hcn,hO⟩:=hO;have ha':a=m.s+aa*sz:=h4 (by omega);subst ha';have hzs:z.cells.size=ei.size:=(by rw[<- Array.length_toList,g6];exact he.len);have hzl:(Builtin.zeroCells z.cells len).toList.length=len*ei.size:=(by simp[size_zeroCells,hzs]);have hfit:m.s+aa*sz+len*ei.size<=c.size:=(by rw[hcn,<- hsz,<- hs,Nat.add_assoc,<- Nat.add_mul];have:(aa+len)*sz<=(aa+cap)*sz:=Nat.mul_le_mul_right _ (by omega);omega);have hone:∀u∈(Builtin.zeroCells z.cells len).toList,u.oneCell'=true:=(by intro u hu;obtain⟨j,hj⟩:=List.getElem?_of_mem hu;have hjl:=(bU.1 hj).1;rw[hzl,<- hzs]at hjl;rw[Array.getElem?_toList,LQ _ _ _ hjl]at hj;have:u∈ei.zero:=(by rw[<- g6];exact Array.mem_toList_iff.2 (Array.mem_of_getElem? hj));exact oneCell' (uz (all_eq_true.1 he.one u this)));have hst:=run_storeCells_at P b (m.s+aa*sz) ce (Builtin.zeroCells z.cells len).toList 0 c w hc (by rw[hzl];omega) hone;simp only[Nat.add_zero]at hst;generalize hcc:(List.take (m.s+aa*sz) c.toList++(Builtin.zeroCells z.cells len).toList++List.drop (m.s+aa*sz+(Builtin.zeroCells z.cells len).toList.length) c.toList).toArray=cc at hst;have asO:cc.size=c.size:=(by rw[<- hcc];simp[length_take,length_drop,size_zeroCells,hzs];omega);have hzv:(zeroValue e).run P w=.ok z w:=(by simp[zeroValue,typeInfo,g1,g5]);have hrun:(Builtin.clear_ #[t] ty #[.slice (some ⟨b,m.s+aa*sz,none⟩) len cap]).run P w=.ok (.tuple #[]) (w.setRow b cc):=(by obtain⟨len',rfl⟩:∃len',len=len'+1:=⟨len-1,by omega⟩;simp[Builtin.clear_,run_underlying fS,hzv,hst]);obtain⟨ye,hM⟩:=Mem.write (o':=⟨o.sz,o.rows.take aa⟩) h hko h1 (c':=cc) (e:=ce) (setRow_heap w b c cc ce (0,0) hc) (λ b' hb=>setRow_other w b b' cc hb) (by simp) rfl rfl rfl hs (by omega) (by refine cj.congr _ c cc m.s o.sz (λ j hj=>?_) (by rw[<- hs];exact cj.take _ _ _ _ _ hO);have hj2:j<m.s+aa*sz:=(by rw[hs];refine Nat.lt_of_lt_of_le hj (Nat.add_le_add_left ?_ _);exact Nat.mul_le_mul_right _ (by simp[length_take];omega));rw[<- hcc,List.getElem?_toArray,aU,List.getElem?_append_left (by simp[length_take];omega),List.getElem?_take,aP hj2,Array.getElem?_toList]);exact⟨_,_,G,I,.inl (hdone _ hrun),⟨λ _ _=>rfl,λ_ _ h=>h,ye,λ_ h=>h⟩,hM,D2⟩;cases ha
  cases ha
 rename_i kk m t u s6;obtain⟨v,v',hvs⟩:∃v v',vs=#[v,v']:=by
  obtain⟨l⟩:=vs
  match l,hv with
  |[v,v'],_=>exact⟨v,v',rfl⟩
  |[],h=>simp[br]at h
  |[_],h=>simp[br]at h
  |_::_::_::_,h=>simp[br]at h
 have ht:ej=#[t,u]:=by cases ej;simpa using s6
 subst hvs ht;simp only[br,VR,TR]at hv;obtain⟨rfl,⟨rfl,_⟩,_⟩:=hv;cases hti:T t with
 |none=>simp[hti]at ha
 |some ti=>
  cases yp:T u with
  |none=>simp[hti,yp]at ha
  |some ui=>
   simp only[hti,yp,ai]at ha;split at ha;rename_i e kn hkd E2;cases ie:T e with
   |none=>simp[ie]at ha
   |some ei=>
    simp only[ie,ai,bK]at ha;subst ha;obtain⟨m0,m48,Lq,mpos⟩:=df;have he:=hT e ei ie;have fS:=iE (hT t ti hti) hkd;obtain⟨info,d,z,g1,g2,g3,g4,g5,g6,g7,g8⟩:=he.ex;have⟨_,dd',_,_,h2',_,_,_,_,_,h8⟩:=(hT u ui yp).ex;rw[E2]at h8;have h8:dd'=.int kn:=h8;subst h8;obtain⟨n,rfl⟩:∃n:Nat,m=(n:Int):=⟨m.toNat,by omega⟩;simp only[Int.toNat_natCast]at m48 Lq |-;by_cases h0:n=0;subst h0;have⟨hS,hM⟩:=Mem.q7 (i:=cD i) (o:=⟨ei.size,[]⟩) h hn rfl;have hrun:(Builtin.append_ #[t,u] ty #[.slice none 0 0,.int kk ((0:Nat):Int)]).run P w=.ok (.slice none 0 0) w:=by have hw0:i64.wrap (0:Int)=0:=(by decide);simp[Builtin.append_,run_underlying fS,run_underlying h2',sizeOf,typeInfo,g1,asInt,asIntOf,hw0]
    replace hrun:(Builtin.append_ #[t,u] ty #[.slice none 0 0,.int kk 0]).run P w=.ok (.slice none 0 0) w:=hrun
    refine⟨.slice none 0 0,w,_,I,.inl (by simp[execOp,resolve,invoke,builtin,<- hops,hrun]),hS,by simpa[dW]using hM,by simp only[VR];exact .inl ⟨by simp[ins],trivial,trivial,trivial⟩⟩;have hrun:=Lib.run_append_nil_zeros (P:=P) w t u ty e info z kk kn fS h2' g1 g5 n (by omega) (by omega) (by simp[maxLen]at Lq;omega) (by rw[g4];omega);have hd:=h.drew;have hzs:z.cells.size=ei.size:=(by rw[<- Array.length_toList,g6];exact he.len);have hge:=grownCap_ge w n 0 e;generalize hC:Builtin.zeroCells z.cells n++Builtin.zeroCells z.cells (grownCap w n 0 e-n)=cs at hrun;have hcs:cs.size=grownCap w n 0 e*ei.size:=(by rw[<- hC];simp[Array.size_append,size_zeroCells,hzs,<- Nat.add_mul];rw[show n+(grownCap w n 0 e-n)=grownCap w n 0 e by omega]);obtain⟨hS,hM⟩:=Mem.alloc (i:=cD i) (o:=⟨ei.size,List.replicate n (ei.zero.map cv)⟩) (c:=cs) (e:=e) hd hn (by refine cj.zeros ei.zero ei.size he.len (λ v hv=>uz (all_eq_true.1 he.one v hv)) n cs 0 (λ i j hi hj=>?_);have hlt:0+i*ei.size+j<n*ei.size:=(by have:(i+1)*ei.size<=n*ei.size:=Nat.mul_le_mul_right _ (by omega);rw[Nat.add_mul]at this;omega);rw[<- hC,Array.getElem?_append_left (by simpa[size_zeroCells,hzs]using hlt),LQ _ _ _ (by rw[hzs];exact hlt),hzs,<- g6,Array.getElem?_toList];congr 1;rw[Nat.zero_add,Nat.mul_comm,Nat.mul_add_mod,Nat.mod_eq_of_lt hj]);refine⟨_,_,_,I,.inl (by simp[execOp,resolve,invoke,builtin,<- hops,hrun];rfl),⟨hS.other,hS.ext,λb hb=>hS.same b hb,hS.inc⟩,hM.zE,?_⟩;simp only[VR];refine .inr ⟨w.heap.size,ei.size,_,_,0,by simp[ins];rfl,rfl,hge,?_,by simp⟩;rw[hcs,Nat.zero_add];simp
   cases ha
 cases ha
theorem ac1(hT:fF P T)(h:Mem P w0 O0 G I obj w)(hn:G (cD i)=none){o:Oper}{n:Int}{ρ:Operand->AV}{get:S}{out:Out}(hg:∀k o,get k=some o->obj k=some o)
 {r:Operand->Value} (hρ:∀x,VR P G w I (ρ x) (r x)) (ha:uD T i o n ρ get=some out) (df:out.ob):tM P w0 O0 G I obj w i out ((execOp r o).run P w):=by
 obtain⟨dst,op,ty,am,after,guard⟩:=o;have val:∀{s:Sem Value}{z:Value},s.run P w=.ok z w->out.upd=[]->VR P G w I out.v z->tM P w0 O0 G I obj w i out ((do pure (.value (<- s)):Sem Next).run P w):=by intro s z h1 h2 h3;refine⟨z,w,G,I,.inl (by simp[h1]),Step.refl ..,by rw[h2];exact h,h3⟩
 unfold uD at ha;split at ha;rename_i bop t x y q heq;simp at heq;subst heq;have⟨z,h1,h2,h3⟩:=ahL (xo:=x) (yo:=y) hT ha (hρ x) (hρ y);exact val h1 h3 h2;rename_i s d x heq;simp at heq;subst heq;have⟨z,h1,h2,h3⟩:=aeN hT ha (hρ x);exact val h1 h3 h2;rename_i t x j heq;simp at heq;subst heq;have⟨z,h1,h2,h3⟩:=ac0 hT ha df (hρ x) (hρ j);exact val h1 h3 h2;rename_i t x lo hi heq;simp at heq;subst heq;obtain⟨z,h1,h2,h3⟩:=Um (vn:=lo.map r) (hiv:=hi.map r) hT ha df (hρ x) (λ y hy=>by
  cases lo with
  |none=>cases hy
  |some q=>cases hy;exact⟨r q,rfl,hρ q⟩) (λ h=>by cases lo<;>first|rfl|cases h) (λ y hy=>by
  cases hi with
  |none=>cases hy
  |some q=>cases hy;exact⟨r q,rfl,hρ q⟩) (λ h=>by cases hi<;>first|rfl|cases h)
 exact val h1 h3 h2;rename_i b args ej heq;simp at heq;subst heq;exact Un hT h hn hg ha df (by rw[Array.toList_map];exact br.map hρ _) rfl;cases ha
theorem ac2(hT:fF P T)(h:Mem P w0 O0 G I obj w)(hn:G (cD i)=none){o:Oper}{ab:Y Nat}{fr:Operand->AV}{cP:kx}{ρ:Operand->AV}{get:S}{out:Out}(hg:∀k o,get k=some o->obj k=some o)
 {r:Operand->Value} (hρ:∀x,VR P G w I (ρ x) (r x)) (ha:IC P T i o ab fr cP ρ get=some out) (df:out.ob):tM P w0 O0 G I obj w i out ((execOp r o).run P w):=by
 unfold IC at ha;split at ha;cases ha;rw[ah]at ha;obtain⟨out',h1,h2⟩:=ha;cases h2;have df:=sw _ df;have hb:=df (∀ x∈o.op.operands,(gE P get (ρ x) (fr x)/\∀k∈refs (ρ x),k∈ab)\/fr x=ρ x) (by simp);have hsub:∀k o',bX obj (ab.map λk=>(k,none)) k=some o'->obj k=some o'/\k∉ab:=by intro k o' hk;rw[zi]at hk;split at hk;cases hk;exact⟨hk,‹_›⟩
 have hd:=h.drop (bX obj (ab.map λk=>(k,none))) (λ k o hk=>(hsub k o hk).1);obtain⟨_,hM⟩:=hd.below (I':=gx G obj ab I) (w':=w) ⟨rfl,rfl,rfl,aB _,λ_ _=>rfl⟩ (λ b hb=>.inl hb) (NP h ab) (λ b k o B hb' e1 e2 e3=>by obtain⟨f1,f2⟩:=hsub k o e1;have⟨a1,_,_⟩:=h.ownB k o B b f1 e2 e3;rcases hb' with h5|⟨k',o',s',n',g1,g2,g3⟩;exact a1 h5;have:=h.py k k' o o' b f1 g2 ⟨B,e2,e3⟩ (.at g3);subst this;exact f2 g1) (λ b hb'=>by rcases hb' with h5|⟨k',o',s',n',g1,g2,g3⟩;exact h.up b h5;exact .inr (h.own k' o' b s' n' g2 g3).2.2);have hfr:∀x,VR P G w (gx G obj ab I) ((λ x=>open Classical in if x∈o.op.operands then fr x else .undef) x) (r x):=by intro x;by_cases hx:x∈o.op.operands;simp[hx];rcases hb x hx with ⟨b1,b2⟩|b1;exact VR.mono (λ k B h=>by simp[pb]at h) (λ _ _=>rfl) (λ _ h=>h) _ _ (gE.sound h ab _ _ _ b2 (gE.weaken hg _ _ b1) (hρ x));rw[b1];exact VR.mono (λ _ _ h=>h) (λ _ _=>rfl) (λ _ h=>.inl h) _ _ (hρ x);simp[hx,VR]
 rw[Tg (ρ':=λx=>open Classical in if x∈o.op.operands then fr x else .undef) (λ x hx=>by simp[hx])]at h1;obtain⟨v',w',β',I',k1,k2,k3,k4⟩:=Te hT hM hn (λ k o' hk=>by rw[zi];split at hk;cases hk;rw[aM ‹_›];exact hg k o' hk) hfr h1 (sQ _ λp hp=>df p (by simp[hp]));refine⟨v',w',β',I',k1,⟨k2.other,k2.ext,λb hb=>k2.same b (.inl hb),λb hb=>k2.inc b (.inl hb)⟩,?_,k4⟩;have e:bX obj (out'.upd++ab.map λk=>(k,none))=bX (bX obj (ab.map λk=>(k,none))) out'.upd:=funext λk=>tV obj _ _ k;rw[e];exact k3
end
open Go.RowKit Go.MapKept
def NR:C7->Value->Bool
 |.int a,.int b _=>decide (a=b)
 |.str,.string _=>true
 |.bool,.bool _=>true
 |_,_=>false
def NS:Value->Value->J Bool
 |.int k a,.int k' b=>if k=k' then some (a==b)else none
 |.string a,.string b=>some (a.toList==b.toList)
 |.bool a,.bool b=>some (a==b)
 |_,_=>none
def yH(key:Ω):Y (List AV)->J (Option (Nat×AV))
 |[]=>some none
 |[.t (.sc kv),y]::rs=>(NS key kv).bind λb=>if b then some (some (0,y))else(yH key rs).map λr=>r.map λp=>(p.1+1,p.2)
 |_=>none
def Bm(key:Ω)(y':AV):Y (List AV)->J (List (List AV))
 |[]=>some [[.t (.sc key),y']]
 |[.t (.sc kv),y]::rs=>(NS key kv).bind λb=>if b then some ([.t (.sc key),y']::rs)else(Bm key y' rs).map λr=>[.t (.sc kv),y]::r
 |_=>none
def HJ:AV->AV
 |.agg cs=>.agg (cs.map wk)
 |x=>wk x
def IE(T:eM)(i:Nat)(t:E):J Out:=
 (T t).bind λti=>match ti.k with
 |.map _ _=>some ⟨.mp (cD i),[(cD i,some ⟨0,[]⟩)],[]⟩
 |_=>none
def xy(r:J (Nat×AV))(z:J AV):J AV:=match r with
 |some p=>some p.2
 |none=>z
def Kj(T:eM)(t:E)(x key:AV)(ok:Bool)(get:S):J Out:=
 (T t).bind λti=>match ti.k,x,key with
 |.map kt et,.mp k,.t (.sc kv)=>(T kt).bind λki=>(T et).bind λei=>(get k).bind λo=>if NR ki.k kv=true/\o.sz=o.rows.length then(yH kv o.rows).bind λr=>
  (xy r (part' ei.agg ei.size ((ei.zero.map cv).map wk))).bind λv=>pv (if ok then .eE [v,.t (.sc (.bool r.isSome))]else v)else none
 |_,_,_=>none
def Kk(T:eM)(t:E)(x key y:AV)(get:S):J Out:=
 (T t).bind λti=>match ti.k,x,key with
 |.map kt _,.mp k,.t (.sc kv)=>(T kt).bind λki=>(get k).bind λo=>if NR ki.k kv=true/\o.sz=o.rows.length then(Bm kv (HJ y) o.rows).bind λrs=>
  some ⟨.undef,[(k,some ⟨rs.length,rs⟩)],[]⟩else none
 |_,_,_=>none
section
variable {P:Program} {T:eM} {w0:World} {O0:lp} {G:Nat->Option dc} {I:Nat->Prop} {obj:Nat->Option aN} {w:World} {i:Nat}
theorem akQ{k:C7}{v:Ω}{d:TypeDesc}(h:NR k v=true)(hd:Ys k d):IsKey d v:=by unfold NR at h;split at h;subst hd;simp at h;subst h;simp[IsKey];subst hd;simp[IsKey];subst hd;simp[IsKey];cases h
theorem abw{d:TypeDesc}{a b:Ω}(ha:IsKey d a){r:Bool}(h:NS a b=some r):Instr.sameNow d a b=some r/\(r=true->a=b)/\IsKey d b:=by
 unfold NS at h;split at h;split at h;rename_i hk;subst hk;cases h;cases d<;>simp only[IsKey]at ha |-;subst ha;refine⟨by simp[Instr.sameNow],λhh=>?_,rfl⟩;rw[eq_of_beq hh];cases h;rename_i x y;cases h;cases d<;>simp only[IsKey]at ha |-
 all_goals first|exact ha.elim|skip
 have e:(x==y)=(x.toList==y.toList):=by rw[eZ,bytes_beq];constructor;rintro rfl;simp;intro hh;have:=eq_of_beq hh;cases x;cases y;simp only[ByteArray.toList_eq]at this;congr 1;exact Array.ext' this
 refine⟨by simp[Instr.sameNow,e],λhh=>?_,trivial⟩;rw[(bytes_beq x y).1 (e ▸ hh)];cases h;cases d<;>simp only[IsKey]at ha |-
 all_goals first|exact ha.elim|skip
 exact⟨by simp[Instr.sameNow],λhh=>by rw[eq_of_beq hh],trivial⟩;cases h
theorem Ti{d:TypeDesc}{key:Ω}(hk:IsKey d key):∀(rows:Y (List AV))(es:Y MapEntry)(i:Nat)(r:J (Nat×AV)),c9 P G w I rows es->yH key rows=some r->
 (r=none/\Instr.findNow d key es i=some none)\/∃j y e,r=some (j,y)/\Instr.findNow d key es i=some (some (i+j,e.val))/\es[j]? =some e/\e.key=key/\VR P G w I y e.val
 |[],[],i,r,_,h=>by simp[yH]at h;exact .inl ⟨h.symm,rfl⟩
 |row::rows,e::es,i,r,hm,h=>by
  obtain⟨h1,h2⟩:=hm;unfold yH at h;split at h;rename_i heq;cases heq;rename_i kv y rs heq;injection heq with e1 e2;subst e1;subst e2;obtain⟨⟨g1,_⟩,g2,_⟩:=h1;rw[ah]at h;obtain⟨b,h3,h⟩:=h;rw[<- g1]at h3;have⟨q1,q2,_⟩:=abw hk h3;cases b with
  |true=>
   simp at h;subst h;exact .inr ⟨0,y,e,rfl,by simp[Instr.findNow,q1],rfl,(q2 rfl).symm,g2⟩
  |false=>
   simp at h;obtain⟨r',h4,rfl⟩:=h;rcases Ti hk rows es (i+1) r' h2 h4 with ⟨rfl,a2⟩|⟨j,y',e',rfl,a2,a3,a4,a5⟩;exact .inl ⟨rfl,by simp[Instr.findNow,q1,a2]⟩;exact .inr ⟨j+1,y',e',rfl,by simp only[Instr.findNow,q1,a2];congr 3;omega,by simpa using a3,a4,a5⟩
  cases h
 |[],_::_,_,_,hm,_|_::_,[],_,_,hm,_=>hm.elim
theorem WN{d:TypeDesc}{key v:Ω}{y':AV}(hk:IsKey d key)(hv:VR P G w I y' v)(hkv:oneCell key):∀(rows:Y (List AV))(es:Y MapEntry)(i:Nat)(rs':Y (List AV)),c9 P G w I rows es->Bm key y' rows=some rs'->
 (Instr.findNow d key es i=some none/\∀n,c9 P G w I rs' (es++[⟨key,v,n⟩]))\/∃j e,Instr.findNow d key es i=some (some (i+j,e.val))/\es[j]? =some e/\e.key=key/\c9 P G w I rs' (es.modify j λe=>{ e with key:=key,val:=v })
 |[],[],i,r,_,h=>by simp[Bm]at h;subst h;refine .inl ⟨rfl,λn=>?_⟩;simp only[fI,c9,br,VR,TR];exact⟨⟨⟨trivial,hkv⟩,hv,trivial⟩,trivial⟩
 |row::rows,e::es,i,r,hm,h=>by
  obtain⟨h1,h2⟩:=hm;unfold Bm at h;split at h;rename_i heq;cases heq;rename_i kv y rs heq;injection heq with e1 e2;subst e1;subst e2;have h1':=h1;simp only[br,VR,TR]at h1;obtain⟨⟨g1,g1'⟩,g2,_⟩:=h1;rw[ah]at h;obtain⟨b,h3,h⟩:=h;rw[<- g1]at h3;have⟨q1,q2,_⟩:=abw hk h3;cases b with
  |true=>
   simp at h;subst h;refine .inr ⟨0,e,by simp[Instr.findNow,q1],rfl,(q2 rfl).symm,?_⟩;simp only[List.modify_zero_cons,c9,br,VR,TR];exact⟨⟨⟨trivial,hkv⟩,hv,trivial⟩,h2⟩
  |false=>
   simp at h;obtain⟨r',h4,rfl⟩:=h;rcases WN hk hv hkv rows es (i+1) r' h2 h4 with ⟨a1,a2⟩|⟨j,e',a1,a2,a3,a4⟩;exact .inl ⟨by simp[Instr.findNow,q1,a1],λn=>⟨h1',a2 n⟩⟩;refine .inr ⟨j+1,e',by simp only[Instr.findNow,q1,a1];congr 3;omega,by simpa using a2,a3,?_⟩;exact⟨h1',a4⟩
  cases h
 |[],_::_,_,_,hm,_|_::_,[],_,_,hm,_=>hm.elim
theorem Mem.xm{k:Nat}{o o':aN}{b:Nat}{es:Array MapEntry}{cl:Nat}{w':M}(h:Mem P w0 O0 G I obj w)(hk:obj k=some o)(hβ:G k=some (.mp b))
 (hnew:w'.heap[b]? =some (.map es cl)) (hother:∀b',b'≠b->w'.heap[b']? =w.heap[b']?) (hsize:w'.heap.size=w.heap.size) (hos:w'.os=w.os) (xz:w'.tape=w.tape) (hout:w'.output=w.output)
 (hle:o'.rows.length<=o'.sz) (hr:c9 P G w I o'.rows es.toList) (hnd:(es.toList.map (·.born)).Nodup) (hlt':∀e∈es.toList,e.born<cl):
 Same I w w'/\Mem P w0 O0 G I (bX obj [(k,some o')]) w':=by
 obtain⟨hnI,hlt,hO⟩:=h.k8 k o b hk ⟨_,hβ,rfl⟩;have hs:Same I w w':=λb' hb=>hother b' (λ e=>hnI (e ▸ hb));have hx:∀(j:Nat)(o1:aN),bX obj [(k,some o')] j=some o1->∃o2,obj j=some o2:=λj o1 h=>by simp[bX]at h;split at h;rename_i e;exact⟨o,by rw[e];exact hk⟩;exact⟨_,h⟩
 refine⟨hs,?_⟩;constructor;intro j oj hj;simp[bX]at hj;split at hj;rename_i hjk;cases hj;exact⟨.mp b,by rw[hjk];exact hβ,es,cl,hnew,hle,λ_=>c9.mono (λ _ _ h=>h) hs (λ _ h=>h) _ _ hr,hnd,hlt'⟩;rename_i hjk;have⟨B,hB,tS⟩:=h.du j oj hj;refine⟨B,hB,OR.mono (λ _ _ h=>h) hs (λ _ h=>h) (λ b1 e1=>hother b1 (λ e2=>hjk ?_)) tS⟩;subst e2;exact h.iv j k oj o B _ b1 hj hk hB hβ e1 rfl;intro j j' o1 o2 B1 B2 b1 h1 h2 h3 h4 h5 h6;have⟨p1,q1⟩:=hx j o1 h1;have⟨p2,q2⟩:=hx j' o2 h2;exact h.iv j j' p1 p2 B1 B2 b1 q1 q2 h3 h4 h5 h6;intro j o1 B1 b1 h1 h2 h3;have⟨p1,q1⟩:=hx j o1 h1;have:=h.ownB j p1 B1 b1 q1 h2 h3;rw[hsize];exact this;intro b1 hb1;rw[hsize];exact h.lt b1 hb1;exact h.up;intro b1 hb1 hno;rw[hother b1 (λ e1=>?_)];exact h.keep b1 hb1 hno;subst e1;rcases hO with hO|hO;exact hno hO;omega;rw[hsize];exact h.le;rw[hos];exact h.os;rw[xz];exact h.tape;rw[hout];exact h.output;exact h.anch;exact h.vars.mono hs (λ _ h=>h)
theorem Mem.Ha(h:Mem P w0 O0 G I obj w)(hn:G i=none):
 Step G I w i (ins G i (.mp w.heap.size)) I (w.alloc (.map #[] 0))/\Mem P w0 O0 (ins G i (.mp w.heap.size)) I (bX obj [(i,some ⟨0,[]⟩)]) (w.alloc (.map #[] 0)):=by
 have hS:Step G I w i (ins G i (.mp w.heap.size)) I (w.alloc (.map #[] 0)):=
  ⟨λ k hk=>by simp[ins,j7.ne hk],oF hn,Same.alloc h.lt _,λ_ h=>h⟩
 refine⟨hS,?_⟩;constructor;intro k o' hk;simp[bX]at hk;split at hk;cases hk;rename_i hki;exact⟨.mp w.heap.size,by simp[ins,hki],#[],0,heap_alloc_new w _,aB _,λ_=>trivial,by simp,by simp⟩;have⟨B,hB,hO⟩:=h.du k o' hk;exact⟨B,oF hn _ _ hB,OR.mono hS.ext hS.same hS.inc (λ b hb=>sj (h.ownB k o' B b hk hB hb).2.1) hO⟩;intro k k' o1 o2 B B' b h1 h2 h3 h4 h5 h6;simp[bX]at h1 h2;simp[ins]at h3 h4;split at h1<;>split at h2;rename_i a b;rw[a,b];rename_i hki qu;simp[hki]at h3;simp[qu]at h4;subst h3;injection h5 with h5;have:=(h.ownB k' o2 B' b h2 h4 h6).2.1;omega;rename_i hki qu;simp[qu]at h4;simp[hki]at h3;subst h4;injection h6 with h6;have:=(h.ownB k o1 B b h1 h3 h5).2.1;omega;rename_i hki qu;simp[hki,qu]at h3 h4;exact h.iv k k' o1 o2 B B' b h1 h2 h3 h4 h5 h6;intro k o' B b h1 h2 h3;simp[bX]at h1;simp[ins]at h2;split at h1;rename_i hki;simp[hki]at h2;subst h2;injection h3 with h3;refine⟨λ hI=>?_,?_,.inr ?_⟩;have:=h.lt b hI;omega;simp;omega;have:=h.le;omega;rename_i hki;simp[hki]at h2;have⟨a,b',c'⟩:=h.ownB k o' B b h1 h2 h3;exact⟨a,by simp;omega,c'⟩;intro b hb;have:=h.lt b hb;simp;omega;exact h.up;intro b hb hO;rw[sj (by have:=h.le;omega)];exact h.keep b hb hO;have:=h.le;simp;omega;exact h.os;exact h.tape;exact h.output;intro j B hj;exact oF hn _ _ (h.anch j B hj);exact h.vars.mono (Same.alloc h.lt _) (λ _ h=>h)
theorem aeO{t:E}{ti:p6}(ht:m4 P t ti){k e:E}(h:ti.k=.map k e):P.underlying t=some (.map k e):=by obtain⟨info,d,z,_,h2,_,_,_,_,_,h8⟩:=ht.ex;rw[h]at h8;rw[h2,h8]
theorem aeP{t:E}{ti:p6}(ht:m4 P t ti){v:Ω}(h:NR ti.k v=true):∃d,P.underlying t=some d/\IsKey d v:=by obtain⟨info,d,z,_,h2,_,_,_,_,_,h8⟩:=ht.ex;exact⟨d,h2,akQ h h8⟩
theorem aoU{k:C7}{v:Ω}(h:NR k v=true):oneCell v:=by unfold NR at h;split at h;exact trivial;exact trivial;exact trivial;cases h
theorem aoV{t:E}{ti:p6}(ht:m4 P t ti){v:AV}(hp:part' ti.agg ti.size ((ti.zero.map cv).map wk)=some v):∃z,(zeroValue t).run P w=.ok z w/\VR P G w I v z:=by
 obtain⟨info,d,z,h1,h2,h3,h4,h5,h6,h7,h8⟩:=ht.ex;refine⟨z,by simp[zeroValue,typeInfo,h1,h5],?_⟩;obtain⟨_,_,g1,g2⟩:=Ms (P:=P) (G:=G) (w:=w) (I:=I) hp (br.wk _ _ (br.cv ti.zero));have hf:=ht.form info z h1 h5;cases ha:ti.agg with
 |true=>
  rw[ha]at hf;cases z<;>simp[uC]at hf;rename_i cs;have:=g1 ha;simp[Value.cells]at h6;rw[<- h6]at this;simpa using this
 |false=>
  rw[ha]at hf;have h1c:oneCell z:=by cases z<;>simp[uC]at hf<;>trivial
  have⟨u,e1,e2⟩:=g2 ha;rw[cells_one h1c]at h6;simp at h6;rw[<- h6]at e1;cases e1;exact e2
theorem WO(h:Mem P w0 O0 G I obj w)(hn:G (cD i)=none){t:E}{out:Out}(ha:IE T i t=some out){r:Operand->Value}
 {dst:J Tmp} {ty:E} {am:String} {after:Array Edge} {guard:J (Nat×Bool)}:tM P w0 O0 G I obj w i out ((execOp r ⟨dst,.makeMap t none,ty,am,after,guard⟩).run P w):=by
 unfold IE at ha;cases hti:T t with
 |none=>simp[hti]at ha
 |some ti=>
  simp[hti]at ha;split at ha;cases ha;have⟨hS,hM⟩:=Mem.Ha h hn;refine⟨.map (some w.heap.size),_,_,I,.inl ?_,hS,hM,?_⟩;simp[execOp,Instr.makeMap];simp only[VR];exact⟨_,by simp[ins],rfl⟩;cases ha
theorem akR(hT:fF P T){t kt et:E}{ei:p6}(ie:T et=some ei){b:Nat}{es:Array MapEntry}{cl:Nat}{kv:Ω}{ok:Bool}{r:J (Nat×AV)}{v:AV}
 (hu:P.underlying t=some (.map kt et)) (g1:w.heap[b]? =some (.map es cl)) (hck:(Instr.checkKey es.isEmpty 10000 kt kv).run P w=.ok () w)
 (hf:(r=none/\(Instr.findKey kt kv es.toList).run P w=.ok none w)\/∃(j:Nat)(y:AV)(e:MapEntry),r=some (j,y)/\(Instr.findKey kt kv es.toList).run P w=.ok (some (j,e.val)) w/\VR P G w I y e.val)
 (hv:xy r (part' ei.agg ei.size ((ei.zero.map cv).map wk))=some v):
 ∃z,(Instr.lookup t (.map (some b)) kv ok).run P w=.ok z w/\VR P G w I (if ok then .eE [v,.t (.sc (.bool r.isSome))]else v) z:=by
 rcases hf with ⟨rfl,a2⟩|⟨j,y,e,rfl,a2,a5⟩;have⟨z,hz,hzv⟩:=aoV (G:=G) (I:=I) (w:=w) (hT et ei ie) hv;cases ok with
 |true=>
  refine⟨.tuple #[z,.bool false],?_,?_⟩;simp[Instr.lookup,run_underlying hu,MapKept.run_getObj_map g1,hck,a2,hz];simp only[if_true,VR];exact⟨_,rfl,by simp only[br,VR,TR];exact⟨hzv,⟨rfl,trivial⟩,trivial⟩⟩
 |false=>
  refine⟨z,?_,by simpa using hzv⟩;simp[Instr.lookup,run_underlying hu,MapKept.run_getObj_map g1,hck,a2,hz]
 simp[xy]at hv;subst hv;cases ok with
 |true=>
  refine⟨.tuple #[e.val,.bool true],?_,?_⟩;simp[Instr.lookup,run_underlying hu,MapKept.run_getObj_map g1,hck,a2];simp only[if_true,VR];exact⟨_,rfl,by simp only[br,VR,TR];exact⟨a5,⟨rfl,trivial⟩,trivial⟩⟩
 |false=>
  refine⟨e.val,?_,by simpa using a5⟩;simp[Instr.lookup,run_underlying hu,MapKept.run_getObj_map g1,hck,a2]
theorem aah(hT:fF P T)(h:Mem P w0 O0 G I obj w){t:E}{x key:AV}{ok:Bool}{get:S}{out:Out}(hg:∀k o,get k=some o->obj k=some o){u kv:Ω}
 (ha:Kj T t x key ok get=some out) (hx:VR P G w I x u) (hk:VR P G w I key kv):∃z,(Instr.lookup t u kv ok).run P w=.ok z w/\VR P G w I out.v z/\out.upd=[]:=by
 unfold Kj at ha;cases hti:T t with
 |none=>simp[hti]at ha
 |some ti=>
  simp only[hti,ai]at ha;split at ha;rename_i kt et k kv' hk1;rw[ah]at ha;obtain⟨ki,hki,ha⟩:=ha;rw[ah]at ha;obtain⟨ei,ie,ha⟩:=ha;rw[ah]at ha;obtain⟨o,ho,ha⟩:=ha;split at ha;rename_i hc;rw[ah]at ha;obtain⟨r,hr,ha⟩:=ha;rw[ah]at ha;obtain⟨v,hv,ha⟩:=ha;simp[pv]at ha;subst ha;simp[VR]at hx hk;obtain⟨b,hβ,rfl⟩:=hx;obtain⟨rfl,_⟩:=hk;have⟨B,hB,hO⟩:=h.du k o (hg k o ho);rw[hβ]at hB;cases hB;obtain⟨es,cl,g1,g2,g3,g4⟩:=hO;have hu:=aeO (hT t ti hti) hk1;have⟨d,hd,hkey⟩:=aeP (hT kt ki hki) hc.1;obtain⟨z,q1,q2⟩:=akR (G:=G) (I:=I) hT ie (ok:=ok) hu g1 (run_checkKey hd hkey _ 9999) (by rcases Ti hkey o.rows es.toList 0 r (g3 hc.2) hr with ⟨rfl,a2⟩|⟨j,y,e,rfl,a2,a3,a4,a5⟩;exact .inl ⟨rfl,run_findKey hd a2⟩;rw[Nat.zero_add]at a2;exact .inr ⟨j,y,e,rfl,run_findKey hd a2,a5⟩) hv;exact⟨z,q1,q2,rfl⟩;cases ha;cases ha
theorem aqv{x:AV}{v:Ω}(h:VR P G w I x v):VR P G w I (HJ x) v:=by
 cases x<;>simp[HJ]<;>try exact h.wk
 obtain⟨vs,h1,h2⟩:=h;exact⟨vs,h1,br.wk _ _ h2⟩
theorem ac4{d:TypeDesc}{v:Ω}(h:IsKey d v):Instr.sameBits 10000 v v=true:=by cases d<;>cases v<;>simp[IsKey]at h<;>simp_all [Instr.sameBits,bytes_beq]
theorem amG(h:Mem P w0 O0 G I obj w){t kt et:E}{k b:Nat}{o:aN}{es:Array MapEntry}{cl:Nat}{kv v:Ω}{rs:Y (List AV)}
 (hu:P.underlying t=some (.map kt et)) (kh:obj k=some o) (hβ:G k=some (.mp b)) (g1:w.heap[b]? =some (.map es cl)) (g4:(es.toList.map (·.born)).Nodup) (g5:∀e∈es.toList,e.born<cl)
 (hck:(Instr.checkKey false 10000 kt kv).run P w=.ok () w) (hks:(Instr.keyThatStays kv kv).run P w=.ok kv w)
 (hf:((Instr.findKey kt kv es.toList).run P w=.ok none w/\∀n,c9 P G w I rs (es.toList++[⟨kv,v,n⟩]))\/
  ∃(j:Nat)(e:MapEntry),(Instr.findKey kt kv es.toList).run P w=.ok (some (j,e.val)) w/\es.toList[j]? =some e/\e.key=kv/\c9 P G w I rs (es.toList.modify j λe=>{ e with key:=kv,val:=v })):
 ∃w',(Instr.mapUpdate t (.map (some b)) kv v).run P w=.ok () w'/\Same I w w'/\Mem P w0 O0 G I (bX obj [(k,some ⟨rs.length,rs⟩)]) w':=by
 rcases hf with ⟨a1,a2⟩|⟨j,e,a1,a2,a3,a4⟩;obtain⟨k1,k2⟩:=heap_set (o':=.map (es.push ⟨kv,v,cl⟩) (cl+1)) g1
 obtain⟨m1,m2⟩:=h.xm (o':=⟨rs.length,rs⟩) (w':={ w with heap:=w.heap.setIfInBounds b (.map (es.push ⟨kv,v,cl⟩) (cl+1)) }) kh hβ k1 k2 (by simp) rfl rfl rfl (aB _) (by simpa using a2 cl)
  (by rw[Array.toList_push,List.map_append,List.nodup_append];refine⟨g4,by simp,λa ha b hb=>?_⟩;simp at hb;obtain⟨e,he,rfl⟩:=mem_map.1 ha;have:=g5 e he;omega)
  (λ e he=>by rw[Array.toList_push,bI]at he;rcases he with he|he;have:=g5 e he;omega;simp at he;subst he;exact Nat.lt_succ_self _)
 refine⟨_,?_,m1,m2⟩;simp[Instr.mapUpdate,run_underlying hu,MapKept.run_getObj_map g1,hck,a1,run_setObj_map _ g1];obtain⟨k1,k2⟩:=heap_set (o':=.map (es.modify j λe=>{ e with key:=kv,val:=v }) cl) g1;have ht:(es.modify j λe=>{ e with key:=kv,val:=v }).toList=es.toList.modify j λe=>{ e with key:=kv,val:=v }:=Array.toList_modify;have hb:(es.toList.modify j λe=>{ e with key:=kv,val:=v }).map (·.born)=es.toList.map (·.born):=by apply List.ext_getElem?;intro q;simp[List.getElem?_modify];split<;>cases es.toList[q]?<;>rfl
 obtain⟨m1,m2⟩:=h.xm (o':=⟨rs.length,rs⟩) (w':={ w with heap:=w.heap.setIfInBounds b (.map (es.modify j λe=>{ e with key:=kv,val:=v }) cl) }) kh hβ k1 k2 (by simp) rfl rfl rfl (aB _) (by rw[ht];exact a4)
  (by rw[ht,hb];exact g4)
  (λ e he=>by rw[ht]at he;have:e.born∈(es.toList.modify j λe=>{ e with key:=kv,val:=v }).map (·.born):=mem_map.2 ⟨e,he,rfl⟩;rw[hb]at this;obtain⟨e',he',hh⟩:=mem_map.1 this;rw[<- hh];exact g5 e' he')
 refine⟨_,?_,m1,m2⟩;have hold:((es[j]?).map (·.key)).getD kv=kv:=by rw[<- Array.getElem?_toList,a2];exact a3
 simp[Instr.mapUpdate,run_underlying hu,MapKept.run_getObj_map g1,hck,a1,hold,hks,run_setObj_map _ g1]
theorem LU(hT:fF P T)(h:Mem P w0 O0 G I obj w){t:E}{x key y:AV}{get:S}{out:Out}(hg:∀k o,get k=some o->obj k=some o){u kv v:Ω}
 (ha:Kk T t x key y get=some out) (hx:VR P G w I x u) (hk:VR P G w I key kv) (hy:VR P G w I y v):∃w',(Instr.mapUpdate t u kv v).run P w=.ok () w'/\Same I w w'/\Mem P w0 O0 G I (bX obj out.upd) w'/\out.v=.undef:=by
 unfold Kk at ha;cases hti:T t with
 |none=>simp[hti]at ha
 |some ti=>
  simp[hti]at ha;split at ha;rename_i kt et k kv' hk1;rw[ah]at ha;obtain⟨ki,hki,ha⟩:=ha;rw[ah]at ha;obtain⟨o,ho,ha⟩:=ha;split at ha;rename_i hc;rw[ah]at ha;obtain⟨rs,hr,ha⟩:=ha;cases ha;simp[VR]at hx hk;obtain⟨b,hβ,rfl⟩:=hx;obtain⟨hkk,_⟩:=hk;subst hkk;have kh:=hg k o ho;have⟨B,hB,hO⟩:=h.du k o kh;rw[hβ]at hB;cases hB;obtain⟨es,cl,g1,g2,g3,g4,g5⟩:=hO;have hu:=aeO (hT t ti hti) hk1;have⟨d,hd,hkey⟩:=aeP (hT kt ki hki) hc.1;have hlt:b<w.heap.size:=(Array.getElem?_eq_some_iff.1 g1).1;obtain⟨w',q1,q2,q3⟩:=amG (rs:=rs) (v:=v) h hu kh hβ g1 g4 g5 (run_checkKey hd hkey _ 9999) (by simp[Instr.keyThatStays,ac4 hkey]) (by rcases WN hkey (aqv hy) (aoU hc.1) o.rows es.toList 0 rs (g3 hc.2) hr with ⟨a1,a2⟩|⟨j,e,a1,a2,a3,a4⟩;exact .inl ⟨run_findKey hd a1,a2⟩;rw[Nat.zero_add]at a1;exact .inr ⟨j,e,run_findKey hd a1,a2,a3,a4⟩);exact⟨w',q1,q2,q3,rfl⟩;cases ha;cases ha
end
def P2(T:eM)(i:Nat)(t:E)(l c:AV):J Out:=
 (T t).bind λti=>match ti.k,l,c with
 |.slice e,.t (.sc (.int _ n)),.t (.sc (.int _ m))=>(T e).bind λei=>
  some ⟨.own (cD i) 0 n.toNat,[(cD i,some ⟨ei.size,dW (List.replicate n.toNat (ei.zero.map cv))⟩)],[0<=n/\n<=m/\m.toNat*ei.bytes<=140737488355328/\m.toNat<=maxLen/\0<ei.size]⟩
 |_,_,_=>none
def QE(x:AV):J Out:=
 match x with
 |.ptr k r f=>pv (.ptr k r f)
 |.eW r f=>pv (.eW r f)
 |_=>none
def Pi:Op->Bool
 |.nilCheck _=>true
 |.makeSlice _ _ _=>true
 |.makeMap _ none=>true
 |.lookup _ _ _ _=>true
 |.mapUpdate _ _ _ _=>true
 |.insert _ _ _ _=>true
 |_=>false
def EO(T:eM)(i:Nat)(o:Oper)(_n:Int)(ρ:Operand->AV)(get:S):J Out:=
 match o.op with
 |.nilCheck x=>QE (ρ x)
 |.makeSlice t l c=>P2 T i t (ρ l) (ρ c)
 |.makeMap t none=>IE T i t
 |.lookup t m x ok=>Kj T t (ρ m) (ρ x) ok get
 |.mapUpdate t m x v=>Kk T t (ρ m) (ρ x) (ρ v) get
 |.insert t m x v=>Kk T t (ρ m) (ρ x) (ρ v) get
 |_=>none
def uE(T:eM)(i:Nat)(o:Oper)(n:Int)(ρ:Operand->AV)(get:S):J Out:=
 bif Pi o.op then EO T i o n ρ get else uD T i o n ρ get
section
variable {T:eM}
theorem aai{i:Nat}{o:Oper}{n:Int}{ρ ρ':Operand->AV}{get:S}(h:∀x∈o.op.operands,ρ x=ρ' x):EO T i o n ρ get=EO T i o n ρ' get:=by
 obtain⟨dst,op,ty,am,after,guard⟩:=o;cases op<;>simp only[Op.operands]at h<;>simp[EO]
 case nilCheck x=>rw[h x (by simp)]
 case makeSlice t l c=>rw[h l (by simp),h c (by simp)]
 case makeMap t r=>cases r<;>rfl
 case lookup t m x ok=>rw[h m (by simp),h x (by simp)]
 case mapUpdate t m x v=>rw[h m (by simp),h x (by simp),h v (by simp)]
 case insert t m x v=>rw[h m (by simp),h x (by simp),h v (by simp)]
theorem aaj{i:Nat}{o:Oper}{n:Int}{ρ ρ':Operand->AV}{get:S}(h:∀x∈o.op.operands,ρ x=ρ' x):uE T i o n ρ get=uE T i o n ρ' get:=by unfold uE;rw[acY h,aai h]
end
section
variable {P:Program} {T:eM} {w0:World} {O0:lp} {G:Nat->Option dc} {I:Nat->Prop} {obj:Nat->Option aN} {w:World} {i:Nat}
theorem aak(z:Array Value)(n j:Nat)(h:j<n):(madeCells z n)[j]? =some (z[j%z.size]!):=by simp[madeCells,h]
theorem aeR(hT:fF P T)(h:Mem P w0 O0 G I obj w)(hn:G (cD i)=none){t:E}{l c:AV}{u v:Ω}{out:Out}(ha:P2 T i t l c=some out)(df:out.ob)(hl:VR P G w I l u)(hc:VR P G w I c v)
 {r:Operand->Value} {x y:Operand} (hu:r x=u) (hv:r y=v) {dst:J Tmp} {ty:E} {am:String} {after:Array Edge} {guard:J (Nat×Bool)}:
 tM P w0 O0 G I obj w i out ((execOp r ⟨dst,.makeSlice t x y,ty,am,after,guard⟩).run P w):=by
 unfold P2 at ha;cases hti:T t with
 |none=>simp[hti]at ha
 |some ti=>
  simp[hti]at ha;split at ha;rename_i e kl n kc m hkd;cases ie:T e with
  |none=>simp[ie]at ha
  |some ei=>
   simp[ie]at ha;subst ha;obtain⟨n0,nm,m47,Lq,mpos⟩:=df;simp[VR]at hl hc;obtain⟨rfl,_⟩:=hl;obtain⟨rfl,_⟩:=hc;have he:=hT e ei ie;have fS:=iE (hT t ti hti) hkd;obtain⟨info,d,z,g1,g2,g3,g4,g5,g6,g7,g8⟩:=he.ex;obtain⟨n,rfl⟩:∃n':Nat,n=(n':Int):=⟨n.toNat,by omega⟩;obtain⟨m,rfl⟩:∃m':Nat,m=(m':Int):=⟨m.toNat,by omega⟩;simp at m47 Lq |-;have hb:(info.bytes:Int)*(m:Int)<=281474976710656:=by
    have:((info.bytes*m:Nat):Int)<=281474976710656:=by rw[g4,Nat.mul_comm];omega
    rwa [Int.natCast_mul]at this
   have hrun:=run_make (P:=P) w t e info z fS g1 g5 kl kc n m n0 nm hb (by simp[maxLen]at Lq;omega);simp[g3]at hrun;have hzs:z.cells.size=ei.size:=(by rw[<- Array.length_toList,g6];exact he.len);have hcs:(madeCells z.cells (m*ei.size)).size=m*ei.size:=size_madeCells _ _;obtain⟨hS,hM⟩:=Mem.alloc (i:=cD i) (o:=⟨ei.size,List.replicate n (ei.zero.map cv)⟩) (c:=madeCells z.cells (m*ei.size)) (e:=e) h hn (by refine cj.zeros ei.zero ei.size he.len (λ v hv=>uz (all_eq_true.1 he.one v hv)) n _ 0 (λ i j hi hj=>?_);have hlt:0+i*ei.size+j<m*ei.size:=(by have:(i+1)*ei.size<=m*ei.size:=Nat.mul_le_mul_right _ (by omega);rw[Nat.add_mul]at this;omega);rw[aak _ _ _ hlt,hzs];have e1:(0+i*ei.size+j)%ei.size=j:=(by rw[Nat.zero_add,Nat.mul_comm,Nat.mul_add_mod,Nat.mod_eq_of_lt hj]);rw[e1,<- g6,Array.getElem?_toList,getElem!_pos z.cells j (by rw[hzs];exact hj),Array.getElem?_eq_getElem]);refine⟨_,_,_,I,.inl (by simp[execOp,hu,hv,hrun];rfl),hS,hM.zE,?_⟩;simp only[VR];refine .inr ⟨w.heap.size,ei.size,_,_,0,by simp[ins];rfl,rfl,by omega,?_,by simp⟩;rw[amC,T7,hcs,Nat.zero_add,Nat.zero_add];exact aB _
  cases ha
theorem aal(hT:fF P T)(h:Mem P w0 O0 G I obj w)(hn:G (cD i)=none){o:Oper}{n:Int}{ρ:Operand->AV}{get:S}{out:Out}(hg:∀k o,get k=some o->obj k=some o)
 {r:Operand->Value} (hρ:∀x,VR P G w I (ρ x) (r x)) (ha:EO T i o n ρ get=some out) (df:out.ob):tM P w0 O0 G I obj w i out ((execOp r o).run P w):=by
 obtain⟨dst,op,ty,am,after,guard⟩:=o;unfold EO at ha;split at ha
 .rename_i x heq;simp only at heq;subst heq;have hx:=hρ x;unfold QE at ha;split at ha
  .rename_i k q f hk;simp only[pv,bK]at ha;subst ha;rw[hk]at hx;have hx2:=hx;simp only[VR]at hx2;obtain⟨b,sz,m,_,e1⟩:=hx2;exact⟨r x,w,G,I,.inl (by simp[execOp,e1]),Step.refl ..,h,hx⟩
  .rename_i q f hk;simp only[pv,bK]at ha;subst ha;rw[hk]at hx;have hx2:=hx;simp only[VR]at hx2;obtain⟨b,o',e1,_⟩:=hx2;exact⟨r x,w,G,I,.inl (by simp[execOp,e1]),Step.refl ..,h,hx⟩
  .cases ha
 .rename_i t l c heq;simp only at heq;subst heq;exact aeR hT h hn ha df (hρ l) (hρ c) rfl rfl
 .rename_i t heq;simp only at heq;subst heq;exact WO h hn ha
 .rename_i t m x ok heq;simp only at heq;subst heq;have⟨z,h1,h2,h3⟩:=aah hT h hg ha (hρ m) (hρ x);exact⟨z,w,G,I,.inl (by simp[execOp,h1]),Step.refl ..,by rw[h3];exact h,h2⟩
 .rename_i t m x v heq;simp only at heq;subst heq;have⟨w',h1,h2,h3,h4⟩:=LU hT h hg ha (hρ m) (hρ x) (hρ v);exact⟨undef,w',G,I,.inr ⟨by simp[execOp,h1],rfl⟩,⟨λ _ _=>rfl,λ_ _ h=>h,h2,λ_ h=>h⟩,h3,by rw[h4];simp[VR]⟩
 .rename_i t m x v heq;simp only at heq;subst heq;have⟨w',h1,h2,h3,h4⟩:=LU hT h hg ha (hρ m) (hρ x) (hρ v);exact⟨undef,w',G,I,.inr ⟨by simp[execOp,h1],rfl⟩,⟨λ _ _=>rfl,λ_ _ h=>h,h2,λ_ h=>h⟩,h3,by rw[h4];simp[VR]⟩
 .cases ha
theorem aam(hT:fF P T)(h:Mem P w0 O0 G I obj w)(hn:G (cD i)=none){o:Oper}{n:Int}{ρ:Operand->AV}{get:S}{out:Out}(hg:∀k o,get k=some o->obj k=some o)
 {r:Operand->Value} (hρ:∀x,VR P G w I (ρ x) (r x)) (ha:uE T i o n ρ get=some out) (df:out.ob):tM P w0 O0 G I obj w i out ((execOp r o).run P w):=by
 unfold uE at ha;cases hx:Pi o.op with
 |true=>rw[hx]at ha;exact aal (n:=n) hT h hn hg hρ ha df
 |false=>rw[hx]at ha;exact ac1 hT h hn hg hρ ha df
end
mutual
def ik(f:Nat->Nat):AV->AV
 |.own k aa len=>.own (f k) aa len
 |.ptr k row aa=>.ptr (f k) row aa
 |.agg cs=>.agg (wB f cs)
 |.eE cs=>.eE (wB f cs)
 |.fn F first caps=>.fn F (wB f first) (wB f caps)
 |.t x=>.t x
 |.eW r o=>.eW r o
 |.eC Z=>.eC Z
 |.mp k=>.mp (f k)
 |.oz k len=>.oz (f k) len
 |.d5=>.d5
 |.ub=>.ub
 |.undef=>.undef
def wB(f:Nat->Nat):List AV->List AV
 |[]=>[]
 |x::xs=>ik f x::wB f xs
end
def Dt(f:Nat->Nat)(o:aN):aN:=⟨o.sz,o.rows.map (wB f)⟩
def pN(os:Y (Nat×aN))(k:Nat):J aN:=match os with
 |[]=>none
 |(j,o)::r=>if j=k then some o else pN r k
def ars(P:Q)(w:M)(G:ζ)(I:Ψ)(os':Y (Nat×aN))(rv:AV)(e:Ending)(w':M):Prop:=
 ∃v β' I',e=.returned v/\Mem P w (qR G I) β' I' (pN os') w'/\(∀ b,I b->I' b)/\VR P β' w' I' rv v
def wi(os:Y aN)(k:Nat):J aN:=os[k]?
def zz(P:Q)(f:FuncId)(args:Y AV)(os:Y aN)(os':Y (Nat×aN))(rv:AV):Prop:=
 eH P f/\∀(w:World) (G:Nat->J dc) (I:Nat->Prop) (vs:Array Value),(∀ k,os.length<=k->G k=none)->Mem P w (qR G I) G I (wi os) w->br P G w I args vs.toList->Calls P f vs w (ars P w G I os' rv)
def EP(i k:Nat):Bool:=Nat.ble 1000000 k&&(k-1000000)/64==i
theorem WQ{i k:Nat}:EP i k=true↔j7 (cD i) k:=by simp[EP,j7,cD];omega
def cn(i:Nat)(ab:Y Nat)(j:Nat):Nat:=if j<1000 then(ab[j]?).getD 0 else cD i+(j-1000)
def WR(P:Q)(get:S)(ab:Y Nat)(k:Nat):OB->J (aN×List Prop)
 |.dat p=>(get k).bind λo=>some (i6 p,[o.sz=p.1/\dW (o.rows.take p.2.length)=aJ p.2])
 |.G2 hs=>(get k).bind λo=>(BU P get ab o.rows hs).bind λq=>some (⟨o.sz,q.1⟩,q.2)
def IG(P:Q)(get:S)(ab:Y Nat):Y Nat->Y OB->J (List aN×List Prop)
 |[],[]=>some ([],[])
 |k::ks,b::bs=>(WR P get ab k b).bind λp=>(IG P get ab ks bs).bind λq=>some (p.1::q.1,p.2++q.2)
 |_,_=>none
def QF(o:aN):Y Nat:=o.rows.flatMap dJ
def II(get:S)(xs:Y AV)(ab dC:Y Nat)(bs:Y OB):Prop:=
 (∀ k∈dC,k∉ab)/\(∀ k∈dJ xs,k∉ab->k∈dC)/\∀(j:Nat) hs q o,bs[j]? =some (.G2 hs)->ab[j]? =some q->get q=some o->∀k∈QF o,k∉ab->k∈dC
def C2(i:Nat)(ab:Y Nat)(os':Y (Nat×aN)):Y (Nat×Option aN):=
 (ab.zipIdx.map λp=>(p.1,(pN os' p.2).map (Dt (cn i ab))))++(os'.filter λq=>decide (1000<=q.1)).map λq=>(cn i ab q.1,some (Dt (cn i ab) q.2))
mutual
def zy:AV->Prop
 |.t x=>x.flat
 |.eW _ _|.eC _=>False
 |.agg cs|.eE cs=>qU cs
 |.fn _ first caps=>qU first/\qU caps
 |_=>True
def qU:List AV->Prop
 |[]=>True
 |x::xs=>zy x/\qU xs
end
def Hv(n k:Nat):Prop:=k<n\/(1000<=k/\k<1064)
def NT(n:Nat)(os':Y (Nat×aN))(rv:AV):Prop:=
 (∀ q∈os',Hv n q.1)/\(os'.map (·.1)).Nodup/\(∀ q∈os',∀r∈q.2.rows,∀k∈dJ r,Hv n k)/\∀k∈refs rv,Hv n k
def pg(os':Y (Nat×aN))(rv:AV):Prop:=zy rv/\∀q∈os',∀r∈q.2.rows,qU r
def NU(P:Q)(i:Nat)(f:AV)(args:Y AV)(cP:kx)(get:S):J Out:=
 match f,cP with
 |.fn F first caps,.so ab dC bs hs os' rv keep=>if ab.Nodup/\ab.length<=1000 then(IG P get ab ab bs).bind λho=>(nC P get ab (first++args++caps) hs).bind λq=>
  some ⟨ik (cn i ab) rv,C2 i ab os'++(if keep then []else dC.map λk=>(k,none)),
   q.2.2++ho.2++[zz P F q.1 ho.1 os' rv,NT ab.length os' rv,II get (first++args++caps) ab dC bs]++(if keep then [pg os' rv]else [])⟩
  else none
 |_,_=>none
section
variable {P:Program} {w0:World} {O0:lp} {G β1 β2:Nat->Option dc} {I:Nat->Prop} {obj:Nat->Option aN} {w:World} {i:Nat}
mutual
theorem VR.xr{f:Nat->Nat}:∀(x:AV)(v:Value),(∀ k∈refs x,∀B,β1 k=some B->β2 (f k)=some B)->VR P β1 w I x v->VR P β2 w I (ik f x) v
 |.own k aa len,v,hd,h=>by simp only[ik,VR]at h |-;have hd':=hd k (by simp[refs]);rcases h with ⟨h1,h2⟩|⟨b,s,n,c,o,h1,h2⟩;exact .inl ⟨hd' _ h1,h2⟩;exact .inr ⟨b,s,n,c,o,hd' _ h1,h2⟩
 |.ptr k row aa,v,hd,h=>by simp[VR]at h |-;obtain⟨b,s,n,h1,h2⟩:=h;exact⟨b,s,n,hd k (by simp[refs]) _ h1,h2⟩
 |.agg cs,v,hd,h=>by simp[VR]at h |-;obtain⟨vs,h1,h2⟩:=h;exact⟨vs,h1,br.xr cs _ (by simpa[refs]using hd) h2⟩
 |.eE cs,v,hd,h=>by simp[VR]at h |-;obtain⟨vs,h1,h2⟩:=h;exact⟨vs,h1,br.xr cs _ (by simpa[refs]using hd) h2⟩
 |.fn F first caps,v,hd,h=>by simp[VR]at h |-;obtain⟨fs,cs,h1,h2,h3⟩:=h;exact⟨fs,cs,h1,br.xr first _ (λ k hk=>hd k (by simp[refs,hk])) h2,br.xr caps _ (λ k hk=>hd k (by simp[refs,hk])) h3⟩
 |.t x,v,_,h|.eW r o,v,_,h|.eC Z,v,_,h=>by simpa[ik,VR]using h
 |.mp k,v,hd,h=>by simp[VR]at h |-;obtain⟨b,h1,h2⟩:=h;exact⟨b,hd k (by simp[refs]) _ h1,h2⟩
 |.oz k len,v,hd,h=>by simp only[ik,VR]at h |-;rcases h with h|⟨h0,b,sz,n,cap,o,h1,h2⟩;exact .inl h;exact .inr ⟨h0,b,sz,n,cap,o,hd k (by simp[refs]) _ h1,h2⟩
 |.d5,v,_,h|.ub,v,_,h=>by simpa[ik,VR]using h
 |.undef,v,_,h=>by simp[ik,VR]
theorem br.xr{f:Nat->Nat}:∀(xs:List AV)(vs:List Value),(∀ k∈dJ xs,∀B,β1 k=some B->β2 (f k)=some B)->br P β1 w I xs vs->br P β2 w I (wB f xs) vs
 |[],[],_,_=>by simp[wB,br]
 |x::xs,v::vs,hd,h=>by simp[br]at h;simp[wB];exact⟨VR.xr x v (λ k hk=>hd k (by simp[dJ,hk])) h.1,br.xr xs vs (λ k hk=>hd k (by simp[dJ,hk])) h.2⟩
 |[],_::_,_,h|_::_,[],_,h=>by simp[br]at h
end
mutual
theorem VR.flat{I2:Nat->Prop}:∀(x:AV)(v:Value),zy x->VR P G w I x v->VR P G w I2 x v
 |.own k aa len,v,_,h|.ptr k row aa,v,_,h=>by simpa[VR]using h
 |.agg cs,v,hf,h=>by simp[VR]at h |-;obtain⟨vs,h1,h2⟩:=h;exact⟨vs,h1,br.flat cs _ (by simpa[zy]using hf) h2⟩
 |.eE cs,v,hf,h=>by simp[VR]at h |-;obtain⟨vs,h1,h2⟩:=h;exact⟨vs,h1,br.flat cs _ (by simpa[zy]using hf) h2⟩
 |.fn F first caps,v,hf,h=>by simp[VR]at h |-;obtain⟨fs,cs,h1,h2,h3⟩:=h;simp[zy]at hf;exact⟨fs,cs,h1,br.flat first _ hf.1 h2,br.flat caps _ hf.2 h3⟩
 |.t x,v,hf,h=>by simp[VR]at h |-;exact Tree.nj (by simpa[zy]using hf) h
 |.eW r o,v,hf,h|.eC Z,v,hf,h=>by simp[zy]at hf
 |.mp k,v,_,h|.oz k len,v,_,h|.d5,v,_,h|.ub,v,_,h=>by simpa[VR]using h
 |.undef,v,_,h=>by simp[VR]
theorem br.flat{I2:Nat->Prop}:∀(xs:List AV)(vs:List Value),qU xs->br P G w I xs vs->br P G w I2 xs vs
 |[],[],_,_=>by simp[br]
 |x::xs,v::vs,hf,h=>by simp[br]at h |-;simp[qU]at hf;exact⟨VR.flat x v hf.1 h.1,br.flat xs vs hf.2 h.2⟩
 |[],_::_,_,h|_::_,[],_,h=>by simp[br]at h
end
theorem Tj(f:Nat->Nat):∀l:Y AV,(wB f l).length=l.length
 |[]=>rfl
 |_::l=>by simp[wB,Tj f l]
theorem d8.tell{β':ζ}{w':M}{I':Ψ}{r q:Y AV}{c:Array Value}{aa:Nat}(hv:∀vs:Y Value,br P G w I r vs->br P β' w' I' q vs)(h:d8 P G w I r c aa):d8 P β' w' I' q c aa:=by have⟨vs,h1,h2,h3⟩:=d8.list r c aa h;exact d8.pP q vs c aa (hv vs h1) h2 h3
theorem cj.tell{β':ζ}{w':M}{I':Ψ}:∀{rs qs:Y (List AV)}{c:Array Value}{aa sz:Nat},rs.length=qs.length->(∀ (j:Nat) r q,rs[j]? =some r->qs[j]? =some q->q.length=r.length/\∀vs:Y Value,br P G w I r vs->br P β' w' I' q vs)->
 cj P G w I rs c aa sz->cj P β' w' I' qs c aa sz
 |[],[],_,_,_,_,_,h=>h
 |r::rs,q::qs,c,aa,sz,hl,hr,h=>by obtain⟨h1,h2,h3⟩:=h;have⟨e1,e2⟩:=hr 0 r q rfl rfl;exact⟨e1.trans h1,h2.tell e2,cj.tell (by simpa using hl) (λ j a b ha hb=>hr (j+1) a b (by simpa using ha) (by simpa using hb)) h3⟩
 |[],_::_,_,_,_,hl,_,_|_::_,[],_,_,_,hl,_,_=>by simp at hl
theorem c9.tell{β':ζ}{I':Ψ}:∀{rs qs:Y (List AV)}{es:Y MapEntry},rs.length=qs.length->(∀ (j:Nat) r q',rs[j]? =some r->qs[j]? =some q'->∀vs:Y Value,br P G w I r vs->br P β' w I' q' vs)->c9 P G w I rs es->c9 P β' w I' qs es
 |[],[],[],_,_,_=>trivial
 |r::rs,q::qs,_::es,hl,hr,⟨h1,h2⟩=>⟨hr 0 r q rfl rfl _ h1,c9.tell (by simpa using hl) (λ j r' q' a b=>hr (j+1) r' q' (by simpa using a) (by simpa using b)) h2⟩
 |[],_::_,_,hl,_,_|_::_,[],_,hl,_,_=>by simp at hl
 |[],_,_::_,_,_,h|_::_,_,[],_,_,h=>h.elim
theorem OR.tell{β':ζ}{I':Ψ}{o q:aN}{B:dc}(hsz:q.sz=o.sz)(hl:o.rows.length=q.rows.length)(hr:∀(j:Nat) r q',o.rows[j]? =some r->q.rows[j]? =some q'->q'.length=r.length/\∀vs:Y Value,br P G w I r vs->br P β' w I' q' vs)
 (h:OR P G w I o B):OR P β' w I' q B:=by
 cases B with
 |none=>
  simp[OR]at h |-;rw[h]at hl;exact eq_nil_of_length_eq_zero hl.symm
 | «at» b s n=>
  obtain⟨h1,c,e,h2,h3,h4⟩:=h;exact⟨by rw[hsz];exact h1,c,e,h2,h3,h4.tell hl hr⟩
 |mp b=>
  obtain⟨es,cl,h1,hle,h2,h3⟩:=h;exact⟨es,cl,h1,by omega,λe=>c9.tell hl (λ j r q' a b=>(hr j r q' a b).2) (h2 (by omega)),h3⟩
theorem OR.xr{f:Nat->Nat}{o:aN}{B:dc}(hf:∀r∈o.rows,∀k∈dJ r,∀B,β1 k=some B->β2 (f k)=some B)(h:OR P β1 w I o B):OR P β2 w I (Dt f o) B:=by refine OR.tell (o:=o) (q:=Dt f o) rfl (by simp[Dt]) (λ j r q h1 h2=>?_) h;simp[Dt]at h2;obtain⟨r',h3,rfl⟩:=h2;rw[h1]at h3;cases h3;exact⟨Tj f r,λvs hv=>br.xr r vs (hf r (bT h1)) hv⟩
theorem OR.pg{I2:Ψ}{o:aN}{B:dc}(hf:∀r∈o.rows,qU r)(h:OR P G w I o B):OR P G w I2 o B:=by refine OR.tell rfl rfl (λ j r q h1 h2=>?_) h;rw[h1]at h2;cases h2;exact⟨rfl,λvs hv=>br.flat r vs (hf r (bT h1)) hv⟩
def rb(P:Q)(get:S)(ab:Y Nat):Y (List AV)->Y (List AV)->Prop
 |[],[]=>True
 |r::rs,q::qs=>gi P get ab r q/\rb P get ab rs qs
 |_,_=>False
theorem NV{get:S}{ab:Y Nat}:∀{rs:Y (List AV)}{hs:Y (List LH)}{p:Y (List AV)×List Prop},BU P get ab rs hs=some p->(∀ q∈p.2,q)->rb P get ab rs p.1
 |[],[],p,h,_=>by simp[BU]at h;subst h;trivial
 |r::rs,hl::hs,p,h,ho=>by simp only[BU,ah,bK]at h;obtain⟨q,h1,q',h2,rfl⟩:=h;exact⟨oG h1 (λ y hy=>ho y (by simp[hy])),NV h2 (λ y hy=>ho y (by simp[hy]))⟩
 |[],_::_,p,h,_|_::_,[],p,h,_=>by simp[BU]at h
theorem gi.length{get:S}{ab:Y Nat}:∀{xs ys:Y AV},gi P get ab xs ys->ys.length=xs.length
 |[],[],_=>rfl
 |x::xs,y::ys,h=>by simp[gi.length h.2]
 |[],_::_,h|_::_,[],h=>h.elim
theorem rb.get{get:S}{ab:Y Nat}:∀{rs qs:Y (List AV)},rb P get ab rs qs->rs.length=qs.length/\∀(j:Nat) r q,rs[j]? =some r->qs[j]? =some q->gi P get ab r q
 |[],[],_=>⟨rfl,λj r q h=>by simp at h⟩
 |r::rs,q::qs,h=>by
  obtain⟨h1,h2⟩:=rb.get h.2
  grind [h.1]
 |[],_::_,h|_::_,[],h=>h.elim
theorem WS{get:S}{ab:Y Nat}:∀{ks:Y Nat}{bs:Y OB}{p:Y aN×List Prop},IG P get ab ks bs=some p->(∀ q∈p.2,q)->ks.length=p.1.length/\∀(j:Nat) k q,ks[j]? =some k->p.1[j]? =some q->∃o,get k=some o/\
 ((∃ d:fe,bs[j]? =some (.dat d)/\q=i6 d/\o.sz=d.1/\dW (o.rows.take d.2.length)=aJ d.2)\/(∃ hs,bs[j]? =some (.G2 hs)/\q.sz=o.sz/\rb P get ab o.rows q.rows))
 |[],[],p,h,_=>by simp[IG]at h;subst h;exact⟨rfl,λj k q h=>by simp at h⟩
 |k::ks,b::bs,p,h,ho=>by
  simp only[IG,ah,bK]at h;obtain⟨q,h1,q',h2,rfl⟩:=h;obtain⟨g1,g2⟩:=WS h2 (λ y hy=>ho y (by simp[hy]));refine⟨by simp[g1],λj k' z hj hz=>?_⟩;cases j with
  |succ j=>
   obtain⟨o,e1,e2⟩:=g2 j k' z (by simpa using hj) (by simpa using hz);exact⟨o,e1,by simpa using e2⟩
  |zero=>
   simp at hj hz;subst hj;subst hz;cases b with
   |dat d=>
    simp[WR,ah]at h1;obtain⟨o,e1,rfl⟩:=h1;have:=ho _ (List.mem_append_left _ (bC.2 rfl));exact⟨o,e1,.inl ⟨d,rfl,rfl,this.1,this.2⟩⟩
   |G2 hs=>
    simp only[WR,ah,bK]at h1;obtain⟨o,e1,z,e2,rfl⟩:=h1;exact⟨o,e1,.inr ⟨hs,rfl,rfl,NV e2 (λ y hy=>ho y (List.mem_append_left _ hy))⟩⟩
 |[],_::_,p,h,_|_::_,[],p,h,_=>by simp[IG]at h
theorem Mem.AI(h:Mem P w0 O0 G I obj w){get:S}(hg:∀k o,get k=some o->obj k=some o){ab dC:Y Nat}{os:Y aN}(hnd:ab.Nodup)(hlen:ab.length=os.length)
 (hm:∀(j:Nat) k q,ab[j]? =some k->os[j]? =some q->∃o,get k=some o/\((∃ d:fe,q=i6 d/\o.sz=d.1/\dW (o.rows.take d.2.length)=aJ d.2)\/(q.sz=o.sz/\rb P get ab o.rows q.rows/\∀k∈QF o,k∉ab->k∈dC))) (Fi:∀k∈dC,k∉ab):
 Mem P w (qR (βc ab G) (gx G obj dC I)) (βc ab G) (gx G obj dC I) (wi os) w:=by
 have hb0:∀j k,ab[j]? =some k->βc ab G j=G k:=λj k hk=>by simp[βc,hk]
 have look:∀j q,wi os j=some q->∃k o,ab[j]? =some k/\obj k=some o/\∀B,OR P G w I o B->OR P (βc ab G) w (gx G obj dC I) q B:=by
  intro j q hj;simp[wi]at hj;have hjl:j<ab.length:=by rw[hlen];exact(bU.1 hj).1
  obtain⟨o,g,hh⟩:=hm j _ q (dI hjl) hj;refine⟨_,o,dI hjl,hg _ _ g,λB hO=>?_⟩;rcases hh with ⟨d,rfl,g4,g5⟩|⟨g4,g5,g6⟩;have:OR P G w I (i6 d) B:=by
   cases B with
   |none=>
    simp[OR]at hO |-;rw[hO]at g5;simpa[dW,i6]using g5.symm
   | «at» b s n=>
    obtain⟨h1,c,e,h2,h3,h4⟩:=hO;refine⟨by rw[h1,g4];rfl,c,e,h2,h3,?_⟩;have:=cj.wk _ _ _ _ (cj.take d.2.length _ _ _ _ h4);rw[g5]at this;exact this
   |mp b=>exact OR.part g4 g5 hO
  exact this.dat λb hb=>.inl hb;obtain⟨e1,e2⟩:=g5.get;refine hO.tell g4 e1 (λ m r q' hr hq=>?_);have hb:=e2 m r q' hr hq;refine⟨hb.length,λvs hv=>?_⟩;refine gi.sound h hg dC r q' vs (λ k hk hn=>g6 k ?_ hn) hb hv;exact List.mem_flatMap.2 ⟨r,bT hr,hk⟩
 constructor;intro j q hj;have⟨k,o,g1,g2,g3⟩:=look j q hj;have⟨B,hB,hO⟩:=h.du k o g2;exact⟨B,by rw[hb0 j k g1];exact hB,g3 B hO⟩;intro j j' o o' B B' b h1 h2 h3 h4 h5 h6;have⟨k,q,g1,g3,_⟩:=look j o h1;have⟨k',q',g1',g3',_⟩:=look j' o' h2;rw[hb0 j k g1]at h3;rw[hb0 j' k' g1']at h4;have:=h.iv k k' q q' B B' b g3 g3' h3 h4 h5 h6;subst this;exact QD hnd g1 g1';intro j o B b h1 h2 h5;have⟨k,q,g1,g3,_⟩:=look j o h1;have h2':=h2;rw[hb0 j k g1]at h2;have⟨a1,a2,_⟩:=h.ownB k q B b g3 h2 h5;refine⟨?_,a2,.inl ⟨j,B,h2',h5⟩⟩;rintro (hI|⟨k',o',s',n',e1,e2,e3⟩);exact a1 hI;have:=h.py k k' q o' b g3 e2 ⟨B,h2,h5⟩ (.at e3);subst this;exact Fi _ e1 (bT g1);exact NP h _;exact λb hb=>.inl hb;exact λ_ _ _=>rfl;exact aB _;rfl;rfl;rfl;intro j B hj;simp only[qR]at hj;split at hj;exact hj;cases hj;exact h.vars.mono (λ _ _=>rfl) (λ b hb=>.inl hb)
theorem ac5:∀{os':Y (Nat×aN)}{k:Nat}{o:aN},pN os' k=some o->(k,o)∈os'
 |[],_,_,h=>by simp[pN]at h
 |(j,q)::r,k,o,h=>by simp[pN]at h;split at h;rename_i e;cases h;subst e;exact List.mem_cons_self;exact eG _ (ac5 h)
theorem WT:∀{os':Y (Nat×aN)}{k:Nat}{o:aN},(os'.map (·.1)).Nodup->(k,o)∈os'->pN os' k=some o
 |(j,q)::r,k,o,hn,h=>by simp only[bq,List.nodup_cons]at hn;simp[pN];rcases aI.1 h with e|h;injection e with e1 e2;subst e1;subst e2;rw[aP rfl];rw[aM (λ e=>hn.1 (mem_map.2 ⟨(k,o),h,e.symm⟩)),WT hn.2 h]
theorem aeT{F:S}{k:Nat}:∀(ab:Y Nat)(n:Nat),(∃ j,ab[j]? =some k/\bX obj ((ab.zipIdx n).map λp=>(p.1,F p.2)) k=F (n+j))\/(k∉ab/\bX obj ((ab.zipIdx n).map λp=>(p.1,F p.2)) k=obj k)
 |[],n=>.inr ⟨by simp,rfl⟩
 |q::ab,n=>by simp[bX];by_cases e:k=q;subst e;exact .inl ⟨0,rfl,by simp⟩;rw[aM e];rcases aeT (k:=k) ab (n+1)with ⟨j,h1,h2⟩|⟨h1,h2⟩;exact .inl ⟨j+1,by simpa using h1,by rw[h2];congr 1;omega⟩;exact .inr ⟨by simp[e,h1],h2⟩
theorem abx{c:Nat->Nat}{β:aN->aN}{k:Nat}:∀(l:Y (Nat×aN)),(∃ q∈l,k=c q.1/\bX obj (l.map λq=>(c q.1,some (β q.2))) k=some (β q.2))\/bX obj (l.map λq=>(c q.1,some (β q.2))) k=obj k
 |[]=>.inr rfl
 |q::l=>by simp only[bq,bX];by_cases e:k=c q.1;exact .inl ⟨q,by simp,e,by rw[aP e]⟩;rw[aM e];rcases abx (c:=c) (β:=β) (k:=k) l with ⟨z,h1,h2,h3⟩|h;exact .inl ⟨z,eG _ h1,h2,h3⟩;exact .inr h
theorem aeU(h:Mem P w0 O0 G I obj w)(hn:∀k,j7 (cD i) k->G k=none){ab dC:Y Nat}{os':Y (Nat×aN)}{rv:AV}{keep:Bool}(hgood:NT ab.length os' rv)(hk:keep=true->pg os' rv)
 (hnd:ab.Nodup) (hl:ab.length<=1000) (lz:∀k∈ab,∃o,obj k=some o)
 {w':M} {I1:Ψ} {v:Ω} (hM:Mem P w (qR (βc ab G) (gx G obj dC I)) β1 I1 (pN os') w') (h1:∀b,gx G obj dC I b->I1 b) (hr:VR P β1 w' I1 rv v):
 ∃ β' I',Step G I w (cD i) β' I' w'/\Mem P w0 O0 β' I' (bX obj (C2 i ab os'++if keep then []else dC.map (λ k=>(k,none)))) w'/\VR P β' w' I' (ik (cn i ab) rv) v:=by
 obtain⟨gk,gn,gr,gv⟩:=hgood;have hb0:∀j k,ab[j]? =some k->βc ab G j=G k:=λj k hk=>by simp[βc,hk]
 have hown0:∀k B,G k=some B->¬j7 (cD i) k:=λk B hk e=>by rw[hn k e]at hk;cases hk
 have Mn:∀j k,ab[j]? =some k->∃B,G k=some B/\β1 j=some B:=by intro j k hj;have⟨o,ho⟩:=lz k (bT hj);have⟨B,hB,_⟩:=h.du k o ho;have hjl:=(bU.1 hj).1;exact⟨B,hB,hM.anch j B (by simp only[qR];rw[aP (by omega),hb0 j k hj];exact hB)⟩
 generalize HO:(λ k=>if EP i k then β1 (1000+(k-cD i))else G k:Nat->J dc)=β2;have DO:∀k,¬j7 (cD i) k->β2 k=G k:=λk hk=>by
  rw[<- HO];have:EP i k=false:=by
   cases e:EP i k with
   |false=>rfl
   |true=>exact absurd (WQ.1 e) hk
  simp[this]
 have hβn:∀j,1000<=j->j<1064->β2 (cD i+(j-1000))=β1 j:=λj e1 e2=>by
  rw[<- HO];have e:EP i (cD i+(j-1000))=true:=WQ.2 (by simp[j7,cD];omega);have e':1000+(cD i+(j-1000)-cD i)=j:=by omega
  simp only[e,if_true,e']
 have hmap:∀k,Hv ab.length k->∀B,β1 k=some B->β2 (cn i ab k)=some B:=by rintro k (hk|⟨hk1,hk2⟩) B hB;obtain⟨B',e1,e2⟩:=Mn k _ (dI hk);rw[e2]at hB;cases hB;simp[cn,show k<1000 by omega,dI hk];rw[DO _ (hown0 _ _ e1)];exact e1;simp[cn,show ¬k<1000 by omega];rw[hβn k hk1 hk2];exact hB
 have look:∀g k o,bX obj (C2 i ab os'++g) k=some o->(∃ j o0,ab[j]? =some k/\pN os' j=some o0/\o=Dt (cn i ab) o0)\/
  (∃ j o0,1000<=j/\j<1064/\pN os' j=some o0/\k=cD i+(j-1000)/\o=Dt (cn i ab) o0)\/(k∉ab/\bX obj g k=some o):=by intro g k o hko;rw[tV,C2,tV]at hko;rcases aeT (obj:=bX (bX obj g) ((os'.filter λ(q:Nat×aN)=>decide (1000<=q.1)).map λ(q:Nat×aN)=>(cn i ab q.1,some (Dt (cn i ab) q.2)))) (F:=λj=>(pN os' j).map (Dt (cn i ab))) (k:=k) ab 0 with ⟨j,e1,e2⟩|⟨e1,e2⟩;rw[e2]at hko;simp at hko;obtain⟨o0,e3,e4⟩:=hko;exact .inl ⟨j,o0,e1,e3,e4.symm⟩;rw[e2]at hko;rcases abx (obj:=bX obj g) (c:=cn i ab) (β:=Dt (cn i ab)) (k:=k) (os'.filter λq=>decide (1000<=q.1))with ⟨q,e3,e4,e5⟩|e3;rw[e5]at hko;injection hko with hko;simp at e3;have hq:=gk q e3.1;simp[Hv]at hq;refine .inr (.inl ⟨q.1,q.2,e3.2,by omega,WT gn e3.1,?_,hko.symm⟩);rw[e4];simp[cn,show ¬q.1<1000 by omega];rw[e3]at hko;exact .inr (.inr ⟨e1,hko⟩)
 have main:∀(g:Y (Nat×Option aN))(I2:Nat->Prop),(∀ k o,bX obj g k=some o->obj k=some o)->(∀ b,I b->I2 b)->(∀ b,I2 b->I1 b)->(∀ j o B,pN os' j=some o->OR P β1 w' I1 o B->OR P β1 w' I2 o B)->
  (∀ k o b,k∉ab->bX obj g k=some o->ir G k b->¬I2 b)->VR P β1 w' I2 rv v->
  ∃ β' I',Step G I w (cD i) β' I' w'/\Mem P w0 O0 β' I' (bX obj (C2 i ab os'++g)) w'/\VR P β' w' I' (ik (cn i ab) rv) v:=by
  intro g I2 hg hI hI1 hor L3 hr2;have hown:∀b,WI (βc ab G) b->∃k o,k∈ab/\obj k=some o/\ir G k b:=by rintro b ⟨j,B,hj,hB⟩;have⟨k,e1,e2⟩:=NQ hj;have⟨o,e3⟩:=lz k (bT e1);exact⟨k,o,bT e1,e3,B,e2,hB⟩
  have hapart:∀k o b,k∉ab->obj k=some o->ir G k b->¬WI (βc ab G) b:=by intro k o b hk e1 e2 hb;have⟨k',o',g1,g2,g3⟩:=hown b hb;have:=h.py k k' o o' b e1 g2 e2 g3;subst this;exact hk g1
  have hS:Same I w w':=λb hb=>hM.keep b (h.lt b hb) (λ hb'=>by have⟨k',o',g1,g2,g3⟩:=hown b hb';exact(h.k8 k' o' b g2 g3).1 hb);have NX:∀k o,bX obj (C2 i ab os'++g) k=some o->(∃ j o0,pN os' j=some o0/\Hv ab.length j/\k=cn i ab j/\β2 k=β1 j/\o=Dt (cn i ab) o0)\/(k∉ab/\obj k=some o/\bX obj g k=some o/\β2 k=G k):=by intro k o hko;rcases look g k o hko with ⟨j,o0,e1,e2,e3⟩|⟨j,o0,e1,Sa,e2,e3,e4⟩|⟨e1,e2⟩;have⟨B,e4,e5⟩:=Mn j k e1;have hjl:=(bU.1 e1).1;refine .inl ⟨j,o0,e2,.inl hjl,?_,?_,e3⟩;simp[cn,show j<1000 by omega,e1];rw[DO _ (hown0 _ _ e4),e4,e5];refine .inl ⟨j,o0,e2,.inr ⟨e1,Sa⟩,?_,?_,e4⟩;simp[cn,show ¬j<1000 by omega];exact e3;rw[e3];exact hβn j e1 Sa;have⟨B,e3,_⟩:=h.du k o (hg k o e2);exact .inr ⟨e1,hg k o e2,e2,DO _ (hown0 _ _ e3)⟩
  have ud:∀j o0 b,pN os' j=some o0->ir β1 j b->¬I2 b/\b<w'.heap.size/\(WI (βc ab G) b\/w.heap.size<=b):=by intro j o0 b e1 e2;have⟨a1,a2,a3⟩:=hM.k8 j o0 b e1 e2;exact⟨λ hb=>a1 (hI1 b hb),a2,a3⟩
  refine⟨β2,I2,⟨DO,λk B hk=>by rw[DO k (hown0 k B hk)];exact hk,hS,hI⟩,?_,VR.xr rv v (λ k hk=>hmap k (gv k hk)) hr2⟩;constructor;intro k o hko;rcases NX k o hko with ⟨j,o0,e1,e2,e3,e4,rfl⟩|⟨e1,e2,e3,e4⟩;have⟨B,hB,hO⟩:=hM.du j o0 e1;refine⟨B,by rw[e4];exact hB,OR.xr (λ r hr' q hq=>hmap q (gr (j,o0) (ac5 e1) r hr' q hq)) (hor j o0 B e1 hO)⟩;have⟨B,hB,hO⟩:=h.du k o e2;refine⟨B,by rw[e4];exact hB,OR.mono (λ q C hq=>by rw[DO q (hown0 q C hq)];exact hq) hS hI (λ b e=>hM.keep b (h.ownB k o B b e2 hB e).2.1 (hapart k o b e1 e2 ⟨B,hB,e⟩)) hO⟩;intro k k' o o' B B' b ho ho' hb hb' h5 h6;rcases NX k o ho with ⟨j,o0,e1,e2,e3,e4,rfl⟩|⟨e1,e2,e3,e4⟩;rw[e4]at hb;rcases NX k' o' ho' with ⟨j',XX,f1,f2,f3,f4,rfl⟩|⟨f1,f2,f3,f4⟩;rw[f4]at hb';have:=hM.iv j j' o0 XX B B' b e1 f1 hb hb' h5 h6;subst this;rw[e3,f3];rw[f4]at hb';rcases (ud j o0 b e1 ⟨B,hb,h5⟩).2.2 with g1|g1;exact absurd g1 (hapart k' o' b f1 f2 ⟨B',hb',h6⟩);have:=(h.ownB k' o' B' b f2 hb' h6).2.1;omega;rw[e4]at hb;rcases NX k' o' ho' with ⟨j',XX,f1,f2,f3,f4,rfl⟩|⟨f1,f2,f3,f4⟩;rw[f4]at hb';rcases (ud j' XX b f1 ⟨B',hb',h6⟩).2.2 with g1|g1;exact absurd g1 (hapart k o b e1 e2 ⟨B,hb,h5⟩);have:=(h.ownB k o B b e2 hb h5).2.1;omega;rw[f4]at hb';exact h.iv k k' o o' B B' b e2 f2 hb hb' h5 h6;intro k o B b ho hb h5;rcases NX k o ho with ⟨j,o0,e1,e2,e3,e4,rfl⟩|⟨e1,e2,e3,e4⟩;rw[e4]at hb;have⟨a1,a2,a3⟩:=ud j o0 b e1 ⟨B,hb,h5⟩;refine⟨a1,a2,?_⟩;rcases a3 with a3|a3;have⟨k',o',g1,g2,g3⟩:=hown b a3;exact(h.k8 k' o' b g2 g3).2.2;exact .inr (Nat.le_trans h.le a3);rw[e4]at hb;have⟨a1,a2,a3⟩:=h.ownB k o B b e2 hb h5;exact⟨L3 k o b e1 e3 ⟨B,hb,h5⟩,Nat.lt_of_lt_of_le a2 hM.le,a3⟩;exact λb hb=>hM.lt b (hI1 b hb);intro b hb;rcases hM.up b (hI1 b hb)with (g1|⟨k',o',s',n',_,g2,g3⟩)|g1|g1;exact h.up b g1;exact .inr (h.own k' o' b s' n' g2 g3).2.2;have⟨k',o',_,g2,g3⟩:=hown b g1;exact .inr (h.k8 k' o' b g2 g3).2.2;exact .inr (.inr (Nat.le_trans h.le g1));intro b hb hno;refine(hM.keep b (Nat.lt_of_lt_of_le hb h.le) (λ hb'=>?_)).trans (h.keep b hb hno);have⟨k',o',_,g2,g3⟩:=hown b hb';rcases (h.k8 k' o' b g2 g3).2.2 with g1|g1;exact hno g1;omega;exact Nat.le_trans h.le hM.le;exact hM.os.trans h.os;exact hM.tape.trans h.tape;exact hM.output.trans h.output;intro j B hj;have e:=h.anch j B hj;rw[DO j (hown0 j B e)];exact e;exact h.vars.mono hS hI
 cases keep with
 |true=>
  have⟨hf1,hf2⟩:=hk rfl;exact main [] I (λ _ _ h=>h) (λ _ h=>h) (λ b hb=>h1 b (.inl hb)) (λ j o B hj hO=>OR.pg (hf2 (j,o) (ac5 hj)) hO) (λ k o b _ e1 e2=>(h.k8 k o b e1 e2).1) (VR.flat rv v hf1 hr)
 |false=>
  have hsub:∀k o,bX obj (dC.map λk=>(k,none)) k=some o->obj k=some o/\k∉dC:=by intro k o hk;rw[zi]at hk;split at hk;cases hk;exact⟨hk,‹_›⟩
  refine main _ I1 (λ k o hk=>(hsub k o hk).1) (λ b hb=>h1 b (.inl hb)) (λ _ h=>h) (λ j o B hj hO=>hO) (λ k o b hki e1 e2 hb=>?_) hr;have⟨f1,f2⟩:=hsub k o e1;have⟨a1,a2,_⟩:=h.k8 k o b f1 e2;rcases hM.up b hb with (g|⟨k',o',s',n',g1,g2,g3⟩)|⟨j,B',g,g'⟩|g;exact a1 g;have:=h.py k k' o o' b f1 g2 e2 (.at g3);subst this;exact f2 g1;have⟨k',g1,g2⟩:=NQ g;have⟨o',g3⟩:=lz k' (bT g1);have:=h.py k k' o o' b f1 g3 e2 ⟨B',g2,g'⟩;subst this;exact hki (bT g1);omega
theorem WU(h:Mem P w0 O0 G I obj w)(hn:∀k,j7 (cD i) k->G k=none){f:AV}{args:Y AV}{cP:kx}{get:S}{out:Out}(hg:∀k o,get k=some o->obj k=some o)
 {fv:Ω} {vs:Array Value} {ag:Array Operand} {fo:Operand} {r:Operand->Value} (ha:NU P i f args cP get=some out) (df:out.ob) (hf:VR P G w I f fv) (hv:br P G w I args vs.toList) (hfo:r fo=fv) (hops:vs=ag.map r)
 {dst:J Tmp} {am:String} {after:Array Edge} {guard:J (Nat×Bool)} {ty:E} {ej:Array TypeId}:
 Ba P w0 O0 G I obj w i out ((execOp r ⟨dst,.call { callee:=.value fo,args:=ag,argTypes:=ej },ty,am,after,guard⟩).run P w):=by
 unfold NU at ha;split at ha;rename_i F first caps ab dC bs hs os' rv keep
 split at ha;rename_i hc;obtain⟨hnd,hl⟩:=hc;rw[ah]at ha;obtain⟨ho,hho,ha⟩:=ha;rw[ah]at ha;obtain⟨q,hq,ha⟩:=ha;cases ha;have df:=sw _ df;simp[VR]at hf;obtain⟨fs,cs,rfl,hf1,hf2⟩:=hf;have o1:∀x∈q.2.2,x:=λx hx=>df x (by simp[hx]);have o2:∀x∈ho.2,x:=λx hx=>df x (by simp[hx]);have o3:zz P F q.1 ho.1 os' rv:=df (zz P F q.1 ho.1 os' rv) (by simp);have o4:NT ab.length os' rv:=df (NT ab.length os' rv) (by simp);have o5:keep=true->pg os' rv:=λe=>df (pg os' rv) (by simp[e]);obtain⟨l1,l2,l3⟩:II get (first++args++caps) ab dC bs:=df (II get (first++args++caps) ab dC bs) (by simp);obtain⟨⟨fn,e1,e2,e3⟩,hcon⟩:=o3;have⟨hl2,hmm⟩:=WS hho o2;have lz:∀k∈ab,∃o,obj k=some o:=by
  intro k hk;obtain⟨j,hj⟩:=List.getElem?_of_mem hk;have hjl:j<ho.1.length:=by rw[<- hl2];exact(bU.1 hj).1
  obtain⟨o,g,_⟩:=hmm j k _ hj (dI hjl);exact⟨o,hg _ _ g⟩
 have hM:=h.AI hg (dC:=dC) hnd hl2 (λ j k z hj hz=>by have⟨o,g1,g2⟩:=hmm j k z hj hz;refine⟨o,g1,?_⟩;rcases g2 with ⟨d,_,g3⟩|⟨hs',g3,g4,g5⟩;exact .inl ⟨d,g3⟩;exact .inr ⟨g4,g5,λk' hk' hn'=>l3 j hs' k o g3 hj g1 k' hk' hn'⟩) l1;have hall:br P G w I (first++args++caps) (fs++vs++cs).toList:=by simp only[Array.toList_append];exact br.append _ _ _ _ (br.append _ _ _ _ hf1 hv) hf2
 have qt:=gi.sound h hg dC _ _ _ (λ k hk hn=>l2 k hk hn) (oG hq o1) hall;refine⟨F,fs++vs++cs,?_,(hcon w _ _ _ (λ k hk=>?_) hM qt).mono ?_⟩;have hb:¬fn.body=none:=by cases hh:fn.body<;>simp[hh]at e2 |-
 have e3' : ¬ fn.name = "runtime.NumGoroutine" := by simpa using e3
 simp[execOp,resolve,hfo,<- hops,Deferred.ofValue,invoke,callFunc,e1,e3',hb];simp[βc,List.getElem?_eq_none (show ab.length<=k by omega)];rintro e w' ⟨v',β1,I1,rfl,g1,g2,g3⟩;have⟨β',I',k1,k2,k3⟩:=aeU (keep:=keep) h hn o4 o5 hnd hl lz g1 g2 g3;exact⟨v',β',I',rfl,k1,k2,k3⟩;cases ha;cases ha
end
def lY(P:Q)(i:Nat)(f:AV)(args:Y AV)(cP:kx)(get:S):J Out:=
 match cP with
 |.so ab dC bs hs os' rv keep=>NU P i f args (.so ab dC bs hs os' rv keep) get
 |cP=>sD P i f args cP get
section
variable {P:Program} {w0:World} {O0:lp} {G:Nat->Option dc} {I:Nat->Prop} {obj:Nat->Option aN} {w:World} {i:Nat}
theorem WV(h:Mem P w0 O0 G I obj w)(hn:∀k,j7 (cD i) k->G k=none){f:AV}{args:Y AV}{cP:kx}{get:S}{out:Out}(hg:∀k o,get k=some o->obj k=some o)
 {fv:Ω} {vs:Array Value} {ag:Array Operand} {fo:Operand} {r:Operand->Value} (ha:lY P i f args cP get=some out) (df:out.ob) (hf:VR P G w I f fv) (hv:br P G w I args vs.toList) (hfo:r fo=fv) (hops:vs=ag.map r)
 {dst:J Tmp} {am:String} {after:Array Edge} {guard:J (Nat×Bool)} {ty:E} {ej:Array TypeId}:
 Ba P w0 O0 G I obj w i out ((execOp r ⟨dst,.call { callee:=.value fo,args:=ag,argTypes:=ej },ty,am,after,guard⟩).run P w):=by unfold lY at ha;split at ha;exact WU h hn hg ha df hf hv hfo hops;exact WL h (hn _ (.inl rfl)) hg ha df hf hv hfo hops
end
structure St where
 env:Nat->AV
 obj:Nat->Option aN
 ok:Nat->Option Bool
structure ky where
 cP:kx
 rd:List Nat
 wr:List Nat
 sym:Bool
def jV(P:Q)(T:eM)(i:Nat)(o:Oper)(cP:kx)(ρ:Operand->AV)(get:S):J Out:=
 match cP with
 |.ext n=>uE T i o n ρ get
 |.AN ab fr xv=>IC P T i o ab fr xv ρ get
 |cP=>match o.op with
  |.call { callee:=.value f,args:=args,argTypes:=_ }=>lY P i (ρ f) (args.toList.map ρ) cP get
  |_=>rO T i o cP ρ get
def zA{α:Type}(env:Nat->α)(dst:J Tmp)(v:α):Nat->α:=λt=>if dst=some t then v else env t
def St.app(U:St)(dst:J Tmp)(p:Out×Option Bool):St:=⟨zA U.env dst p.1.v,bX U.obj p.1.upd,zA U.ok dst p.2⟩
def want(ag:Array Oper)(o:Oper)(env:Nat->AV)(ok:Nat->J Bool):J Bool:=
 match o.guard with
 |none=>some true
 |some (j,b)=>match (ag[j]?).bind (·.dst)with
  |some t=>match env t,ok t with
   |.t (.sc (.bool v)),none=>some (v==b)
   |.t (.sc (.bool v)),some g=>some (g&&(v==b))
   |.undef,some false=>some false
   |_,_=>none
  |none=>none
def yI(ok:Nat->J Bool):Operand->Y Prop
 |.tmp t=>match ok t with
  |none=>[]
  |some b=>[b=true]
 |_=>[]
def needs(env:Nat->AV)(ok:Nat->J Bool)(o:Op):Y Prop:=
 match o with
 |.pick c a b=>match m6 env c with
  |.t (.sc (.bool e))=>yI ok c++((yI ok a).map (λ p=>e=true->p)++(yI ok b).map (λ p=>e=false->p))
  |_=>[False]
 |o=>o.operands.toList.flatMap (yI ok)
def dN(rd:Y Nat)(obj:S):Nat->J aN:=λk=>if k∈rd then obj k else none
section
variable (P:Program) (T:eM) (ag:Array Oper) (dp:Nat->ky)
def opAt(i:Nat)(U:St):J (Out×Option Bool):=
 (ag[i]?).bind λo=>(want ag o U.env U.ok).bind λg=>match (dp i).sym with
  |true=>(jV P T i o (dp i).cP (m6 U.env) (dN (dp i).rd U.obj)).bind λout=>
   if out.upd.isEmpty then some (⟨out.v,[],(needs U.env U.ok o.op++out.obs).map λp=>g=true->p⟩,some g)else none
  |false=>match g with
   |true=>(jV P T i o (dp i).cP (m6 U.env) (dN (dp i).rd U.obj)).bind λout=>
    if out.upd.all (λ p=>EP i p.1 || (dp i).wr.contains p.1)then some (⟨out.v,out.upd,needs U.env U.ok o.op++out.obs⟩,none)else none
   |false=>some (⟨.undef,[],[]⟩,some false)
def AW(i:Nat)(K:St->Prop)(U:St):Prop:=∃o out,ag[i]? =some o/\opAt P T ag dp i U=some out/\out.1.ob/\K (U.app o.dst out)
def Uo(Ξ:St->Prop):Y Nat->St->Prop
 |[],U=>Ξ U
 |i::r,U=>AW P T ag dp i (Uo Ξ r) U
def Hs(md:Region.Mode)(Ξ:St->Prop):Nat->Array Bool->St->Prop
 | 0,listed,U=>Region.ready md ag listed=[]/\Ξ U
 |fuel+1,listed,U=>(Region.ready md ag listed=[]->Ξ U)/\∀i∈Region.ready md ag listed,AW P T ag dp i (Hs md Ξ fuel (listed.setIfInBounds i true)) U
end
def yN(dp:Nat->ky)(i j:Nat):Bool:=
 (dp j).rd.all (λ k=>!EP i k&&!(dp i).wr.contains k)&&(!Nat.beq i j&&(dp j).wr.all (λ k=>!EP i k&&!(dp i).wr.contains k)&&(dp i).wr.all (λ k=>!EP j k))&&(dp i).rd.all (λ k=>!EP j k&&!(dp j).wr.contains k)
def QG(md:Region.Mode)(ag:Array Oper)(i:Nat):Y Nat:=
 (List.range ag.size).foldl (λ D j=>match ag[j]? with
  |some oj=>bif oj.after.any (λ e=>Region.binds md e&&(e.on==i || D.contains e.on))then j::D else D
  |none=>D) []
def T5(md:Region.Mode)(ag:Array Oper)(listed:Array Bool)(i j:Nat):Bool:=
 (QG md ag i).contains j&&(QG md ag i).all λd=>!listed.getD d true
def QH(md:Region.Mode)(ag:Array Oper)(dp:Nat->ky)(listed:Array Bool)(i:Nat):Bool:=
 match ag[i]? with
 |some oi=>(List.range ag.size).all λj=>j==i || listed.getD j true || match ag[j]? with
  |some oj=>oj.after.any (λ e=>Region.binds md e&&e.on==i) || (oi.apart ag oj&&yN dp i j) || T5 md ag listed i j
  |none=>true
 |none=>false
def lexFrom'(md:Region.Mode)(ag:Array Oper)(dp:Nat->ky):Nat->Nat->Array Bool->Bool
 | 0,_,listed=>(Region.ready md ag listed).isEmpty
 |fuel+1,k,listed=>(Region.ready md ag listed).contains k&&QH md ag dp listed k&&lexFrom' md ag dp fuel (k+1) (listed.setIfInBounds k true)
def WW(ag:Array Oper)(dp:Nat->ky):Bool:=lexFrom' .any ag dp ag.size 0 (Array.replicate ag.size false)
section
variable {P:Program} {T:eM} {ag:Array Oper} {dp:Nat->ky} {md:Region.Mode} {Ξ:St->Prop}
theorem amI{i:Nat}{K K':St->Prop}{U:St}(h:∀ U,K U->K' U)(hh:AW P T ag dp i K U):AW P T ag dp i K' U:=
 let ⟨o,out,h1,h2,h3,h4⟩:=hh
 ⟨o,out,h1,h2,h3,h _ h4⟩
theorem NW{i:Nat}{o:Oper}{cP:kx}{ρ ρ':Operand->AV}{get:S}(h:∀x∈o.op.operands,ρ x=ρ' x):jV P T i o cP ρ get=jV P T i o cP ρ' get:=by have hop:=Tg (T:=T) (i:=i) (cP:=cP) (get:=get) h;unfold jV;split;exact aaj h;exact acZ h;obtain⟨dst,op,ty,am,after,guard⟩:=o;simp at h |-;split;rename_i f args ej;simp only[Op.operands,Call.operands]at h;have h1:args.toList.map ρ=args.toList.map ρ':=map_congr_left λx hx=>h x (by simp;exact .inr (by simpa using hx));rw[h1,h f (by simp)];exact hop
theorem aby{i:Nat}{U:St}{out:Out×Option Bool}(h:opAt P T ag dp i U=some out):∀p∈out.1.upd,EP i p.1=true\/p.1∈(dp i).wr:=by
 unfold opAt at h;cases ho:ag[i]? with
 |none=>simp[ho]at h
 |some o=>
  simp[ho]at h;cases hw:want ag o U.env U.ok with
  |none=>simp[hw]at h
  |some g=>
   simp[hw]at h;split at h;cases ha:jV P T i o (dp i).cP (m6 U.env) (dN (dp i).rd U.obj)with
   |none=>simp[ha]at h
   |some out'=>
    simp only[ha,ai]at h;split at h;cases h;simp;cases h
   split at h;cases ha:jV P T i o (dp i).cP (m6 U.env) (dN (dp i).rd U.obj)with
   |none=>simp[ha]at h
   |some out'=>
    all_goals grind
   cases h;simp
theorem wC{obj:S}:∀(upd:Y (Nat×Option aN))(k:Nat),(∀ p∈upd,p.1≠k)->bX obj upd k=obj k
 |[],_,_=>rfl
 |(j,o)::r,k,h=>by simp[bX];rw[aM (λ e=>h (j,o) (by simp) e.symm),wC r k (λ p hp=>h p (by simp[hp]))]
theorem EQ{obj pw:S}:∀(upd:Y (Nat×Option aN))(k:Nat),obj k=pw k->bX obj upd k=bX pw upd k
 |[],_,h=>h
 |(j,o)::r,k,h=>by simp[bX,EQ r k h]
theorem aeV{env env':Nat->AV}{ok ok':Nat->J Bool}{o:Op}(h:∀t,.tmp t∈o.operands->env t=env' t/\ok t=ok' t):needs env ok o=needs env' ok' o:=by
 have h1:∀x∈o.operands,yI ok x=yI ok' x:=λx hx=>by
  cases x with
  |tmp t=>simp[yI,(h t hx).2]
  |_=>rfl
 unfold needs;split;rename_i c a b;have hc:m6 env c=m6 env' c:=by
  cases c with
  |tmp t=>exact(h t (by simp[Op.operands])).1
  |_=>rfl
 rw[hc,h1 c (by simp[Op.operands]),h1 a (by simp[Op.operands]),h1 b (by simp[Op.operands])];have:∀l:Y Operand,(∀ x∈l,yI ok x=yI ok' x)->l.flatMap (yI ok)=l.flatMap (yI ok'):=by
  intro l
  induction l with
  |nil=>intro _;rfl
  |cons x xs ih=>intro hx;simp[hx x (by simp),ih (λ y hy=>hx y (by simp[hy]))]
 exact this _ λx hx=>h1 x (by simpa using hx)
theorem aeW{j:Nat}{oi oj:Oper}{out:Out×Option Bool}{U:St}(hj:ag[j]? =some oj)(hd:∀d,oi.dst=some d->d∉oj.looksAt ag)(hk:∀p∈out.1.upd,p.1∉(dp j).rd):
 opAt P T ag dp j (U.app oi.dst out)=opAt P T ag dp j U:=by
 simp[opAt,hj];have tG:∀t,t∈oj.looksAt ag->(U.app oi.dst out).env t=U.env t:=λt ht=>by simp only[St.app,zA];rw[aM (λ e=>hd t e ht)]
 have asF:∀t,t∈oj.looksAt ag->(U.app oi.dst out).ok t=U.ok t:=λt ht=>by simp only[St.app,zA];rw[aM (λ e=>hd t e ht)]
 have hw:want ag oj (U.app oi.dst out).env (U.app oi.dst out).ok=want ag oj U.env U.ok:=by
  unfold want;cases hg:oj.guard with
  |none=>rfl
  |some gw=>grind [Oper.looksAt]
 have hget:dN (dp j).rd (U.app oi.dst out).obj=dN (dp j).rd U.obj:=by funext k;simp[dN];split;rename_i hkr;exact wC _ _ (λ p hp e=>hk p hp (e ▸ hkr));rfl
 have hin:∀t,.tmp t∈oj.op.operands->t∈oj.looksAt ag:=λt ht=>by simp only[Oper.looksAt];exact List.mem_append_left _ (List.mem_filterMap.2 ⟨.tmp t,by simpa using ht,rfl⟩)
 have hρ:jV P T j oj (dp j).cP (m6 (U.app oi.dst out).env) (dN (dp j).rd U.obj)=jV P T j oj (dp j).cP (m6 U.env) (dN (dp j).rd U.obj):=by
  refine NW λx hx=>?_;cases x with
  |tmp t=>exact tG t (hin t hx)
  |_=>rfl
 have hnd:needs (U.app oi.dst out).env (U.app oi.dst out).ok oj.op=needs U.env U.ok oj.op:=aeV λt ht=>⟨tG t (hin t ht),asF t (hin t ht)⟩;rw[hw,hget,hρ,hnd]
theorem amJ{U:St}{di dj:J Tmp}{a b:Out×Option Bool}(hd:∀d,di=some d->dj≠some d)(hk:∀p∈a.1.upd,∀q∈b.1.upd,p.1≠q.1):(U.app di a).app dj b=(U.app dj b).app di a:=by
 have slot:∀{α:Type} (e:Nat->α) (x y:α),zA (zA e di x) dj y=zA (zA e dj y) di x:=λe x y=>by funext t;simp[zA];by_cases h1:dj=some t;rw[aP h1,aM (λ e=>hd t e h1),aP h1];rw[aM h1,aM h1]
 simp[St.app];refine⟨slot _ _ _,?_,slot _ _ _⟩;funext k;by_cases h1:∃p∈a.1.upd,p.1=k;obtain⟨p,hp,e⟩:=h1;rw[wC b.1.upd k (λ q hq e2=>hk p hp q hq (e.trans e2.symm))];exact EQ _ _ (wC b.1.upd k (λ q hq e2=>hk p hp q hq (e.trans e2.symm))).symm;have h2:∀p∈a.1.upd,p.1≠k:=λp hp e=>h1 ⟨p,hp,e⟩;rw[wC a.1.upd k h2];exact EQ _ _ (wC a.1.upd k h2)
theorem aoW{i j:Nat}{oi oj:Oper}{out:Out×Option Bool}{U:St}{K:St->Prop}(hi:ag[i]? =some oi)(hj:ag[j]? =some oj)(hap:oi.apart ag oj=true)(hfp:yN dp i j=true)
 (hy:opAt P T ag dp i U=some out) (h:AW P T ag dp j K (U.app oi.dst out)):
 AW P T ag dp j (λ σ'=>opAt P T ag dp i σ'=some out/\K (σ'.app oi.dst out)) U:=by
 obtain⟨a1,a2,a3⟩:=Oper.apart_spec hap;simp only[yN,aT]at hfp;obtain⟨⟨f1,⟨f0,f2⟩,f2'⟩,f3⟩:=hfp;have hij:i≠j:=by intro e;subst e;rw[show Nat.beq i i=true from Nat.beq_refl i]at f0;cases f0
 have ki:=aby hy;have no:∀(a:Nat)(l wr:Y Nat)(k:Nat),(l.all λk=>!EP a k&&!wr.contains k)=true->(EP a k=true\/k∈wr)->k∈l->False:=by grind
 obtain⟨o,XN,g1,g2,g3,g4⟩:=h;rw[hj]at g1;cases g1;rw[aeW hj a1 (λ p hp hr=>no _ _ _ _ f1 (ki p hp) hr)]at g2;have kj:=aby g2;have both:∀k,(EP i k=true\/k∈(dp i).wr)->(EP j k=true\/k∈(dp j).wr)->False:=by intro k h1 h2;rcases h2 with h2|h2;rcases h1 with h1|h1;simp[EP]at h1 h2;exact hij (h1.2.symm.trans h2.2);have:=all_eq_true.1 f2' k h1;rw[h2]at this;exact absurd this (by simp);exact no _ _ _ _ f2 h1 h2
 refine⟨oj,XN,hj,g2,g3,?_,?_⟩;rw[aeW hi a3 (λ p hp hr=>no _ _ _ _ f3 (kj p hp) hr)];exact hy;rw[<- amJ a2 (λ p hp q hq e=>both p.1 (ki p hp) (e ▸ kj q hq))];exact g4
theorem aeX{i:Nat}:∀d∈QG md ag i,∃od,ag[d]? =some od/\∃e∈od.after,Region.binds md e=true/\(e.on=i\/e.on∈QG md ag i):=by
 have main:∀(l:Y Nat)(D0:Y Nat),(∀ d∈D0,∃od,ag[d]? =some od/\∃e∈od.after,Region.binds md e=true/\(e.on=i\/e.on∈D0))->
  ∀d∈l.foldl (λ D j=>match ag[j]? with
   |some oj=>bif oj.after.any (λ e=>Region.binds md e&&(e.on==i || D.contains e.on))then j::D else D
   |none=>D) D0,∃od,ag[d]? =some od/\∃e∈od.after,Region.binds md e=true/\(e.on=i\/e.on∈l.foldl (λ D j=>match ag[j]? with
   |some oj=>bif oj.after.any (λ e=>Region.binds md e&&(e.on==i || D.contains e.on))then j::D else D
   |none=>D) D0):=by
  intro l
  induction l with
  |nil=>intro D0 h;exact h
  |cons j l ih=>
   grind
 exact main _ [] (λ d hd=>by simp at hd)
theorem Tk{i:Nat}{oi:Oper}{listed:Array Bool}(hi:ag[i]? =some oi)(h:QH md ag dp listed i=true)(j:Nat)(oj:Oper)(hj:ag[j]? =some oj)(hne:j≠i)(hun:listed.getD j true=false)
 (hno:∀e∈oj.after,Region.binds md e=true->e.on≠i):(oi.apart ag oj=true/\yN dp i j=true)\/T5 md ag listed i j=true:=by
 simp only[QH,hi,all_eq_true,List.mem_range]at h
 grind
theorem WX{i:Nat}{oi:Oper}{out:Out×Option Bool}(D:Y Nat)(hi:ag[i]? =some oi)(hD:∀d∈D,∃od,ag[d]? =some od/\∃e∈od.after,Region.binds md e=true/\(e.on=i\/e.on∈D)):
 ∀(fuel:Nat) (listed:Array Bool) (U:St),(∀ d∈D,listed.getD d true=false)->
  (∀ j oj,ag[j]? =some oj->j≠i->listed.getD j true=false->j∉D->(∀ e∈oj.after,Region.binds md e=true->e.on≠i)->oi.apart ag oj=true/\yN dp i j=true)->
  i∈Region.ready md ag listed->opAt P T ag dp i U=some out->out.1.ob->
  Hs P T ag dp md Ξ fuel (listed.setIfInBounds i true) (U.app oi.dst out)->Hs P T ag dp md Ξ (fuel+1) listed U:=by
 intro fuel
 induction fuel with
 |zero=>
  intro listed U _ _ hr hy df H;refine⟨λ h=>(by rw[h]at hr;cases hr),λj hj=>?_⟩;by_cases hji:j=i;subst hji;exact⟨oi,out,hi,hy,df,H⟩;have:=ready_mono hj hji;rw[H.1]at this;cases this
 |succ fuel ih=>
  intro listed U hDu hfree hr hy df H;refine⟨λ h=>(by rw[h]at hr;cases hr),λj hj=>?_⟩;by_cases hji:j=i;subst hji;exact⟨oi,out,hi,hy,df,H⟩;have h1:=H.2 j (ready_mono hj hji);obtain⟨hjun,oj,hoj,hall⟩:=mem_ready.1 hj;have hnl:∀k,listed.getD k true=false->∀e∈oj.after,Region.binds md e=true->e.on≠k:=λk h0 e he hb heq=>by have h1:=hall e he hb;rw[heq]at h1;rcases Nat.lt_or_ge k listed.size with h'|h';simp[h']at h0 h1;rw[h0]at h1;cases h1;simp[Array.getElem?_eq_none h']at h1
  have hnot:∀e∈oj.after,Region.binds md e=true->e.on≠i:=hnl i (mem_ready.1 hr).1;have RM:j∉D:=λhm=>by have⟨od,g1,e,g2,g3,g4⟩:=hD j hm;rw[hoj]at g1;cases g1;rcases g4 with g4|g4;exact hnot e g2 g3 g4;exact hnl _ (hDu _ g4) e g2 g3 rfl
  have⟨hap,hfp⟩:=hfree j oj hoj hji hjun RM hnot;have h2:=aoW hi hoj hap hfp hy h1
  have hfree':∀k ok,ag[k]? =some ok->k≠i->(listed.setIfInBounds j true).getD k true=false->k∉D->
   (∀ e∈ok.after,Region.binds md e=true->e.on≠i)->oi.apart ag ok=true/\yN dp i k=true:=λk ok hk hki hun hkD hno=>by refine hfree k ok hk hki ?_ hkD hno;by_cases hjk:j=k;subst hjk;exact hjun;rw[getD_set_ne true hjk]at hun;exact hun
  have asT:∀d∈D,(listed.setIfInBounds j true).getD d true=false:=λd hd=>by have hne:j≠d:=λe=>RM (by rw[e];exact hd);rw[getD_set_ne true hne];exact hDu d hd
  refine amI (λ σ' h3=>ih (listed.setIfInBounds j true) σ' asT hfree' (ready_mono hr (Ne.symm hji)) h3.1 df ?_) h2;rw[Array.setIfInBounds_comm _ _ hji];exact h3.2
theorem aeY:∀(n k:Nat) (listed:Array Bool) (U:St),lexFrom' md ag dp n k listed=true->Uo P T ag dp Ξ ((List.range n).map (k+ ·)) U->Hs P T ag dp md Ξ n listed U
 | 0,k,listed,U,hB,h=>⟨by simpa[lexFrom']using hB,by simpa[Uo]using h⟩
 |n+1,k,listed,U,hB,h=>by
  simp[lexFrom']at hB;obtain⟨⟨hr,hfp⟩,hB'⟩:=hB;rw[List.range_succ_eq_map,bq,List.map_map]at h;simp at h;obtain⟨o,out,h1,h2,h3,h4⟩:=h;have fin:Hs P T ag dp md Ξ n (listed.setIfInBounds k true) (U.app o.dst out)->Hs P T ag dp md Ξ (n+1) listed U:=by
   intro H;cases hd:(QG md ag k).all λd=>!listed.getD d true with
   |true=>
    refine WX (QG md ag k) h1 aeX n listed U (λ d hd'=>by simpa using all_eq_true.1 hd d hd') (λ j oj hj hne hun RM hno=>?_) (by simpa using hr) h2 h3 H;rcases Tk h1 hfp j oj hj hne hun hno with h|h;exact h;simp[T5]at h;exact absurd h.1 RM
   |false=>
    refine WX [] h1 (λ d hd'=>by simp at hd') n listed U (λ d hd'=>by simp at hd') (λ j oj hj hne hun _ hno=>?_) (by simpa using hr) h2 h3 H;rcases Tk h1 hfp j oj hj hne hun hno with h|h;exact h;simp only[T5,aT]at h;rw[h.2]at hd;cases hd
  refine fin ?_;refine aeY n (k+1) _ _ hB' ?_;have e:(λ x=>k+x)∘Nat.succ=λx=>k+1+x:=by funext x;simp;omega
  rw[e]at h4;exact h4
end
def gc(P:Q)(G:ζ)(w:M)(I:Ψ)(x:AV)(ok:J Bool)(v:Ω):Prop:=
 match ok with
 |none=>VR P G w I x v
 |some b=>(b=true->VR P G w I x v)/\(b=false->v=undef)
theorem gc.mono{P:Q}{G β':ζ}{w w':M}{I I':Ψ}(hb:∀k B,G k=some B->β' k=some B)(hs:Same I w w')(hi:∀b,I b->I' b){x:AV}{ok:J Bool}{v:Ω}(h:gc P G w I x ok v):gc P β' w' I' x ok v:=by
 cases ok with
 |none=>exact VR.mono hb hs hi _ _ h
 |some b=>exact⟨λ hh=>VR.mono hb hs hi _ _ (h.1 hh),h.2⟩
structure Rel(P:Program)(w0:World)(O0:lp)(N:Nat)(G:Nat->Option dc)(I:Nat->Prop)(U:St)(a:Act)(w:World):Prop where
 defers:a.defers=[]
 size:a.tmps.size=N
 env:∀t,gc P G w I (U.env t) (U.ok t) (a.tmps.getD t undef)
 mem:Mem P w0 O0 G I U.obj w
section
variable {P:Program} {T:eM} {w0:World} {O0:lp} {N:Nat} {G:Nat->Option dc} {I:Nat->Prop} {U:St} {a:Act} {w:World} {ag:Array Oper} {dp:Nat->ky}
def Fr(un:Ψ)(G:ζ):Prop:=∀i k,un i->j7 (cD i) k->G k=none
theorem ac6(hgv:lP w I){x:Operand}(h:∀t,x=.tmp t->VR P G w I (U.env t) (a.tmps.getD t undef)):VR P G w I (m6 U.env x) (a.eval x):=by
 cases x with
 |tmp t=>exact h t rfl
 |const v=>exact VR.cv
 |global g=>
  simp[m6];split;rename_i row hg;exact⟨g,0,rfl,(hgv.1 g row hg).1,(hgv.1 g row hg).2⟩;simp[VR]
 |func f=>simp only[m6,VR,Act.eval];exact⟨#[],#[],rfl,by simp[br],by simp[br]⟩
theorem Bb(hr:Rel P w0 O0 N G I U a w){x:Operand}(h:∀p∈yI U.ok x,p):VR P G w I (m6 U.env x) (a.eval x):=by
 refine ac6 hr.mem.vars λt hx=>?_;subst hx;have h1:=hr.env t;simp[yI]at h;cases hk:U.ok t with
 |none=>rw[hk]at h1;exact h1
 |some b=>rw[hk]at h1 h;exact h1.1 (h _ (by simp))
theorem ahO(hT:fF P T){i:Nat}{o:Oper}{cP:kx}{rd:Y Nat}{out:Out}(hr:Rel P w0 O0 N G I U a w)(hn:∀k,j7 (cD i) k->G k=none)(ha:jV P T i o cP (m6 U.env) (dN rd U.obj)=some out)
 (df:out.ob) (hnd:∀p∈needs U.env U.ok o.op,p):tM P w0 O0 G I U.obj w i out ((execOp a.eval o).run P w)\/Ba P w0 O0 G I U.obj w i out ((execOp a.eval o).run P w):=by
 have hg:∀k ob,dN rd U.obj k=some ob->U.obj k=some ob:=λk ob hk=>by simp only[dN]at hk;split at hk;exact hk;cases hk
 by_cases hp:∃c x y,o.op=.pick c x y;obtain⟨c,x,y,he⟩:=hp;obtain⟨dst,op,ty,am,after,guard⟩:=o;simp at he;subst he;have ha:rO T i ⟨dst,.pick c x y,ty,am,after,guard⟩ cP (m6 U.env) (dN rd U.obj)=some out:=by unfold jV at ha;split at ha;cases ha;cases ha;exact ha
 simp[rO]at ha;simp[needs]at hnd;split at ha;rename_i t hc;rw[hc]at hnd;simp[pv]at ha;subst ha;have h1:=Bb hr (x:=c) (λ p hp=>hnd p (by simp[hp]));rw[hc]at h1;simp[VR]at h1;refine .inl ⟨if t then a.eval x else a.eval y,w,G,I,.inl ?_,Step.refl ..,hr.mem,?_⟩;simp[execOp,h1.1,asBool];simp;rw[Wy];cases t;exact Bb hr λp hp=>hnd (false=false->p) (by simp only[bI,mem_map];exact .inr (.inr ⟨p,hp,rfl⟩)) rfl;exact Bb hr λp hp=>hnd (true=true->p) (by simp only[bI,mem_map];exact .inr (.inl ⟨p,hp,rfl⟩)) rfl;cases ha;have hnd':∀x∈o.op.operands,∀p∈yI U.ok x,p:=λx hx p hp'=>hnd p (by unfold needs;split;rename_i c x y he;exact absurd ⟨c,x,y,he⟩ hp;exact List.mem_flatMap.2 ⟨x,by simpa using hx,hp'⟩);have hρ:∀x,VR P G w I ((λ x=>open Classical in if x∈o.op.operands then m6 U.env x else .undef) x) (a.eval x):=λx=>by by_cases hx:x∈o.op.operands;simp[hx];exact Bb hr (hnd' x hx);simp[hx,VR]
 rw[NW (ρ':=λx=>open Classical in if x∈o.op.operands then m6 U.env x else .undef) (λ x hx=>by simp[hx])]at ha;unfold jV at ha;split at ha;exact .inl (aam hT hr.mem (hn _ (.inl rfl)) hg hρ ha df);exact .inl (ac2 hT hr.mem (hn _ (.inl rfl)) hg hρ ha df);split at ha;rename_i f args ej heq;obtain⟨dst,op,ty,am,after,guard⟩:=o;simp at heq;subst heq;exact .inr (WV hr.mem hn hg ha df (hρ f) (by rw[Array.toList_map];exact br.map hρ _) rfl rfl);exact .inl (Te hT hr.mem (hn _ (.inl rfl)) hg hρ ha df)
theorem akS(hr:Rel P w0 O0 N G I U a w){o:Oper}{b:Bool}(hb:want ag o U.env U.ok=some b):Region.wanted o (yielded ag a.tmps)=b:=by
 unfold want at hb;unfold Region.wanted;cases hg:o.guard with
 |none=>simp[hg]at hb |-;exact hb
 |some gw=>
  obtain⟨g,bw⟩:=gw;simp[hg]at hb |-;unfold yielded;cases ht:(ag[g]?).bind (·.dst)with
  |none=>simp[ht]at hb
  |some t=>
   simp[ht]at hb;have he:=hr.env t;have val:∀v:Bool,a.tmps.getD t undef=.bool v->a.tmps[t]? =some (.bool v):=λv hv=>by
    cases hh:a.tmps[t]? with
    |none=>simp[hh,undef]at hv
    |some u=>simp[hh]at hv;rw[hv]
   split at hb;rename_i v e1 e2;rw[e1,e2]at he;cases hb;simp only[ai,val v he.1];cases v<;>cases bw<;>rfl;rename_i v q e1 e2;rw[e1,e2]at he;cases hb;cases q with
   |true=>
    simp only[ai,val v (he.1 rfl).1];cases v<;>cases bw<;>rfl
   |false=>
    have h0:=he.2 rfl;simp;cases hh:a.tmps[t]? with
    |none=>simp
    |some u=>simp[hh,undef]at h0;subst h0;simp
   rename_i e1 e2;rw[e1,e2]at he;cases hb;have h0:=he.2 rfl;simp;cases hh:a.tmps[t]? with
   |none=>simp
   |some u=>simp[hh,undef]at h0;subst h0;simp
   cases hb
theorem NY:∀(l:Y Prop),iZ l->∀p∈l,p
 |[],_,_,hp=>by simp at hp
 |[q],h,p,hp=>by rw[bC]at hp;rw[hp];exact h
 |q::r::l,h,p,hp=>by rcases aI.1 hp with e|hp;rw[e];exact h.1;exact NY (r::l) h.2 p hp
theorem Tm(hT:fF P T){i:Nat}{K:St->Prop}{Ξ:Exit->Act->World->Prop}{K':Act->World->Prop}{un:Ψ}(hd:∀(j:Nat)(o:Oper)(d:Tmp),ag[j]? =some o->o.dst=some d->d<N)
 (hr:Rel P w0 O0 N G I U a w) (hf:Fr un G) (hi:un i)
 (hK:∀ σ' a' w' β' I',Rel P w0 O0 N β' I' σ' a' w'->Fr (λ j=>un j/\j≠i) β'->K σ'->K' a' w') (h:AW P T ag dp i K U):wpOp P ag Ξ i K' a w:=by
 obtain⟨o,⟨out,XS⟩,h1,h2,h3,h4⟩:=h;have put:∀(v':Value) (w':World) (β':Nat->J dc) (I':Nat->Prop),Step G I w (cD i) β' I' w'->Mem P w0 O0 β' I' (bX U.obj out.upd) w'->gc P β' w' I' out.v XS v'->K' (a.put o.dst v') w':=by
  intro v' w' β' I' k1 k2 k3;refine hK (U.app o.dst (out,XS)) _ w' β' I' ⟨?_,?_,?_,k2⟩ ?_ h4;cases hdst:o.dst<;>simp[Act.put,hr.defers];cases hdst:o.dst<;>simp[Act.put,hr.size];intro t;have hold:=gc.mono k1.ext k1.same k1.inc (hr.env t);simp only[St.app,zA];cases hdst:o.dst with
  |none=>simpa[Act.put]using hold
  |some d=>
   simp only[Act.put,bK];by_cases hdt:d=t;subst hdt;rw[aP rfl,aP rfl];have hlt:d<a.tmps.size:=Nat.lt_of_lt_of_eq (hd i o d h1 hdst) hr.size.symm;have e:(a.tmps.setIfInBounds d v').getD d undef=v':=(by simp[hlt]);rw[e];exact k3;rw[aM hdt,aM hdt];simpa[Array.getElem?_setIfInBounds_ne hdt]using hold
  intro j k hj hk;rw[k1.other k (by have:=hj.2;simp[j7,cD]at hk |-;omega)];exact hf j k hj.1 hk
 unfold opAt at h2;simp only[h1,ai]at h2;unfold wpOp;simp[h1];have hn:=λk=>hf i k hi;cases hw:want ag o U.env U.ok with
 |none=>simp[hw]at h2
 |some g=>
  simp only[hw,ai]at h2;rw[akS hr hw]
  have run:∀(out':Out),jV P T i o (dp i).cP (m6 U.env) (dN (dp i).rd U.obj)=some out'->(∀ p∈needs U.env U.ok o.op++out'.obs,p)->out'.v=out.v->(out'.upd=out.upd)->(∀ β' w' I' v',VR P β' w' I' out.v v'->gc P β' w' I' out.v XS v')->
   o.wp P a w K' Ξ:=by intro out' ha df e1 e2 tD;have asU:=ahO hT hr hn ha (sQ _ λp hp=>df p (by simp[hp])) (λ p hp=>df p (by simp[hp]));unfold Oper.wp;rcases asU with ⟨v',w',β',I',hrun,k1,k2,k3⟩|⟨F,args,hrun,Fk⟩;rw[e1]at k3;rw[e2]at k2;rcases hrun with hrun|⟨hrun,rfl⟩;rw[hrun];exact put v' w' β' I' k1 k2 (tD _ _ _ _ k3);rw[hrun];exact put _ w' β' I' k1 k2 (tD _ _ _ _ k3);rw[hrun];refine Fk.mono ?_;rintro e w' ⟨v',β',I',rfl,k1,k2,k3⟩;rw[e1]at k3;rw[e2]at k2;exact put v' w' β' I' k1 k2 (tD _ _ _ _ k3)
  split at h2;cases ha:jV P T i o (dp i).cP (m6 U.env) (dN (dp i).rd U.obj)with
  |none=>simp[ha]at h2
  |some out'=>
   simp only[ha,ai]at h2;split at h2;rename_i hem;simp only[bK,Prod.mk.injEq]at h2;obtain⟨rfl,rfl⟩:=h2;have Fc:out'.upd=[]:=(by simpa using hem);have h3:=NY _ h3;cases g with
   |true=>
    simp;refine .inl (run out' ha (λ p hp=>h3 (true=true->p) (mem_map.2 ⟨p,hp,rfl⟩) rfl) rfl Fc λ_ _ _ _ hv=>⟨λ _=>hv,λh=>by cases h⟩)
   |false=>
    simp;exact put _ w G I (Step.refl ..) hr.mem ⟨λ h=>(by cases h),λ_=>rfl⟩
   cases h2
  split at h2;cases ha:jV P T i o (dp i).cP (m6 U.env) (dN (dp i).rd U.obj)with
  |none=>simp[ha]at h2
  |some out'=>
   simp only[ha,ai]at h2;split at h2;obtain⟨rfl,rfl⟩:=h2;simp;exact .inl (run out' ha (NY _ h3) rfl rfl λ_ _ _ _ hv=>hv);cases h2
  obtain⟨rfl,rfl⟩:=h2;simp;exact put _ w G I (Step.refl ..) hr.mem ⟨λ h=>(by cases h),λ_=>rfl⟩
theorem LV(hT:fF P T){md:Region.Mode}{Ξ:St->Prop}{Q':Exit->Act->World->Prop}(hd:∀(j:Nat)(o:Oper)(d:Tmp),ag[j]? =some o->o.dst=some d->d<N)
 (hQ:∀ U a w G I,Rel P w0 O0 N G I U a w->Ξ U->Q' .normal a w):∀(fuel:Nat) (listed:Array Bool) (U:St) (a:Act) (w:World) (G:Nat->J dc) (I:Nat->Prop),Rel P w0 O0 N G I U a w->
  Fr (λ j=>listed.getD j true=false) G->Hs P T ag dp md Ξ fuel listed U->wpAny P md ag Q' fuel listed a w
 | 0,_,_,_,_,_,_,hr,_,h=>⟨h.1,hQ _ _ _ _ _ hr h.2⟩
 |fuel+1,listed,U,a,w,G,I,hr,hf,h=>by refine⟨λ h0=>hQ _ _ _ _ _ hr (h.1 h0),λi hi=>?_⟩;have hun:listed.getD i true=false:=(mem_ready.1 hi).1;refine Tm hT hd hr hf hun (λ σ' a' w' β' I' hr' hf' hK=>?_) (h.2 i hi);refine LV hT hd hQ fuel _ σ' a' w' β' I' hr' (λ j k hj hk=>hf' j k ?_ hk) hK;have hj:(listed.setIfInBounds i true).getD j true=false:=hj;by_cases hji:i=j;subst hji;rcases Nat.lt_or_ge i listed.size with h1|h1;simp at hj;simp[Array.getElem?_eq_none h1]at hun;rw[getD_set_ne true hji]at hj;exact⟨hj,λe=>hji e.symm⟩
theorem LW(hT:fF P T){Ξ:St->Prop}{Q':Exit->Act->World->Prop}(hd:∀(j:Nat)(o:Oper)(d:Tmp),ag[j]? =some o->o.dst=some d->d<N)
 (hQ:∀ U a w G I,Rel P w0 O0 N G I U a w->Ξ U->Q' .normal a w):∀(l:Y Nat) (U:St) (a:Act) (w:World) (G:Nat->J dc) (I:Nat->Prop),l.Nodup->Rel P w0 O0 N G I U a w->
  Fr (λ j=>j∈l) G->Uo P T ag dp Ξ l U->wpOps P ag Q' l a w
 |[],_,_,_,_,_,_,hr,_,h=>hQ _ _ _ _ _ hr h
 |i::l,U,a,w,G,I,hn,hr,hf,h=>by
  rw[wpOps_cons];refine Tm hT hd hr hf (by simp) (λ σ' a' w' β' I' hr' hf' hK=>?_) h;refine LW hT hd hQ l σ' a' w' β' I' (List.nodup_cons.1 hn).2 hr' (λ j k hj hk=>hf' j k ⟨by simp[hj],λe=>?_⟩ hk) hK
  grind
def QI(N:Nat)(ag:Array Oper):Bool:=ag.all λo=>match o.dst with|some d=>decide (d<N)|none=>true
theorem Tn(h:QI N ag=true)(j:Nat)(o:Oper)(d:Tmp)(hj:ag[j]? =some o)(hd:o.dst=some d):d<N:=by have:=Array.all_eq_true_iff_forall_mem.1 h o (Array.mem_of_getElem? hj);simpa[hd]using this
structure t6(U:St):Prop where
 env:∀t k,k∈refs (U.env t)->k<1000000
 obj:∀k o,U.obj k=some o->k<1000000/\∀r∈o.rows,∀x∈r,∀j∈refs x,j<1000000
mutual
theorem VR.restrict{β':Nat->Option dc}(h:∀k,k<1000000->β' k=G k):∀(x:AV)(v:Value),(∀ k∈refs x,k<1000000)->VR P G w I x v->VR P β' w I x v
 |.t _,_,_,hv=>by simpa[VR]using hv
 |.agg cs,_,hk,hv=>by simp[VR]at hv |-;obtain⟨vs,h1,h2⟩:=hv;exact⟨vs,h1,br.restrict h cs _ (by simpa[refs]using hk) h2⟩
 |.eE cs,_,hk,hv=>by simp[VR]at hv |-;obtain⟨vs,h1,h2⟩:=hv;exact⟨vs,h1,br.restrict h cs _ (by simpa[refs]using hk) h2⟩
 |.own k _ _,_,hk,hv|.ptr k _ _,_,hk,hv=>by simp[VR,h k (hk k (by simp[refs]))]at hv |-;exact hv
 |.eW _ _,_,_,hv=>by simpa[VR]using hv
 |.fn f first caps,_,hk,hv=>by simp[VR]at hv |-;obtain⟨fs,cs,h1,h2,h3⟩:=hv;exact⟨fs,cs,h1,br.restrict h first _ (λ k hk'=>hk k (by simp[refs,hk'])) h2,br.restrict h caps _ (λ k hk'=>hk k (by simp[refs,hk'])) h3⟩
 |.eC _,_,_,hv=>by simpa[VR]using hv
 |.mp k,_,hk,hv|.oz k _,_,hk,hv=>by simp[VR,h k (hk k (by simp[refs]))]at hv |-;exact hv
 |.d5,_,_,hv|.ub,_,_,hv=>by simpa[VR]using hv
 |.undef,_,_,_=>by simp[VR]
theorem br.restrict{β':Nat->Option dc}(h:∀k,k<1000000->β' k=G k):∀(xs:List AV)(vs:List Value),(∀ k∈dJ xs,k<1000000)->br P G w I xs vs->br P β' w I xs vs
 |[],[],_,_=>by simp[br]
 |x::xs,v::vs,hk,hv=>by simp[br]at hv |-;exact⟨VR.restrict h x v (λ k hk'=>hk k (by simp[dJ,hk'])) hv.1,br.restrict h xs vs (λ k hk'=>hk k (by simp[dJ,hk'])) hv.2⟩
 |[],_::_,_,hv|_::_,[],_,hv=>by simp[br]at hv
end
theorem abz:∀{xs:Y AV}{k:Nat},k∈dJ xs->∃x∈xs,k∈refs x
 |[],_,h=>by simp[dJ]at h
 |x::xs,k,h=>by simp[dJ]at h;rcases h with h|h;exact⟨x,by simp,h⟩;have⟨y,h1,h2⟩:=abz h;exact⟨y,by simp[h1],h2⟩
theorem Rel.restrict(ho:t6 U)(hr:Rel P w0 O0 N G I U a w):Rel P w0 O0 N (λ k=>if k<1000000 then G k else none) I U a w:=by
 have hb:∀k,k<1000000->(λ k=>if k<1000000 then G k else none) k=G k:=λk hk=>by simp[hk]
 have tD:∀t,gc P (λ k=>if k<1000000 then G k else none) w I (U.env t) (U.ok t) (a.tmps.getD t undef):=λt=>by
  have h1:=hr.env t;cases hk:U.ok t with
  |none=>rw[hk]at h1;exact VR.restrict hb _ _ (ho.env t) h1
  |some b=>rw[hk]at h1;exact⟨λ h=>VR.restrict hb _ _ (ho.env t) (h1.1 h),h1.2⟩
 refine⟨hr.defers,hr.size,tD,?_⟩;have hm:=hr.mem;constructor;intro k o hk;have⟨B,hB,hO⟩:=hm.du k o hk;have⟨h1,h2⟩:=ho.obj k o hk;refine⟨B,by simp[h1];exact hB,?_⟩;cases B with
 |none=>exact hO
 | «at» b s n=>
  obtain⟨g1,c,e,g2,g3,g4⟩:=hO;refine⟨g1,c,e,g2,g3,?_⟩;rw[pW]at g4 |-;intro i r hir;have⟨q1,q2⟩:=g4 i r hir;refine⟨q1,?_⟩;rw[jO]at q2 |-;intro j x hx;have⟨v,p1,p2,p3⟩:=q2 j x hx;exact⟨v,p1,VR.restrict hb _ _ (h2 r (bT hir) x (bT hx)) p2,p3⟩
 |mp b=>
  obtain⟨es,cl,g1,gl,g2,g3⟩:=hO;refine⟨es,cl,g1,gl,λe=>c9.tell rfl (λ j r q' a b vs hv=>?_) (g2 e),g3⟩;rw[a]at b;cases b;exact br.restrict hb _ _ (λ k hk=>by have⟨x,hx,hk⟩:=abz hk;exact h2 r (bT a) x hx k hk) hv
 intro k k' o o' B B' b h1 h2 h3 h4;simp[(ho.obj k o h1).1,(ho.obj k' o' h2).1]at h3 h4;exact hm.iv k k' o o' B B' b h1 h2 h3 h4;intro k o B b h1 h2;simp[(ho.obj k o h1).1]at h2;exact hm.ownB k o B b h1 h2;exact hm.lt;exact hm.up;exact hm.keep;exact hm.le;exact hm.os;exact hm.tape;exact hm.output;intro j B hj;have:=O0.lt j B hj;rw[aP (by omega)];exact hm.anch j B hj;exact hm.vars
theorem Rel.drew(hr:Rel P w0 O0 N G I U a w):Rel P w0 O0 N G I U a w.drew:=
 ⟨hr.defers,hr.size,λt=>gc.mono (w:=w) (w':=w.drew) (λ _ _ h=>h) (λ _ _=>rfl) (λ _ h=>h) (hr.env t),hr.mem.drew⟩
theorem abA(hT:fF P T){id:Nat}{Ξ:St->Prop}(hd:QI N ag=true)(ho:t6 U)(h:Uo P T ag dp Ξ (List.range ag.size) U)(hr:Rel P w0 O0 N G I U a w):
 (Code.region id ag false).wp P (λ e a' w'=>∃ β' I' σ',Rel P w0 O0 N β' I' σ' a' w'/\e=.normal/\Ξ σ') a w:=by refine wp_region (LW hT (Tn hd) (Ξ:=Ξ) (λ U a w G I hr hq=>⟨G,I,U,hr,rfl,hq⟩) _ U a w _ I List.nodup_range (hr.restrict ho) (λ j k _ hk=>?_) h);exact aM (by simp[j7,cD]at hk;omega)
theorem IJ(hT:fF P T)(hm:P.follows .mixedOrders=true){id:Nat}{Ξ:St->Prop}(hd:QI N ag=true)(hB:WW ag dp=true)(ho:t6 U)(h:Uo P T ag dp Ξ (List.range ag.size) U)(hr:Rel P w0 O0 N G I U a w):
 (Code.region id ag true).wp P (λ e a' w'=>∃ β' I' σ',Rel P w0 O0 N β' I' σ' a' w'/\e=.normal/\Ξ σ') a w:=by
 refine wp_region_any hm (LV hT (md:=.any) (dp:=dp) (Tn hd) (Ξ:=Ξ) (λ U a w G I hr hq=>⟨G,I,U,hr,rfl,hq⟩) _ _ U a _ _ I (hr.restrict ho).drew (λ j k _ hk=>?_) ?_);exact aM (by simp[j7,cD]at hk;omega);refine aeY ag.size 0 _ U hB ?_;have e:(List.range ag.size).map (λ x=>0+x)=List.range ag.size:=by simp
 rw[e];exact h
end
def Ev(P:Q)(N:Nat)(c:Code)(Ξ:Exit->St->Prop)(U:St):Prop:=
 ∀(w0:World) (O0:lp) (G:Nat->J dc) (I:Nat->Prop) (a:Act) (w:World),Rel P w0 O0 N G I U a w->t6 U->
  c.wp P (λ e a' w'=>∃ β' I' σ',Rel P w0 O0 N β' I' σ' a' w'/\t6 σ'/\Ξ e σ') a w
def aqd(K:St->Prop)(Ξ:Exit->St->Prop):Exit->St->Prop
 |.normal,U=>K U
 |e,U=>Ξ e U
def ahP(id:Nat)(Ξ:Exit->St->Prop):Exit->St->Prop
 |.exit j,U=>if j=id then Ξ .normal U else Ξ (.exit j) U
 |e,U=>Ξ e U
theorem abB{P:Q}{c:Code}{Ξ:Exit->Act->World->Prop}(J:Nat->Act->World->Prop)(h0:∀a w,¬J 0 a w)(round:∀n a w,J (n+1) a w->c.wp P (Exit.then (J n) Ξ) a w)(n:Nat)(a:Act)(w:M)(h:J n a w):
 (Code.loop c).wp P Ξ a w:=by
 intro b k cs;have key:∀n a w,J n a w->∃e a' w',Ξ e a' w'/\Arrives P (lone (b.at a (.code c::.inLoop c::k)) cs w) b k cs e a' w':=by
  intro n
  induction n with
  |zero=>intro a w h;exact(h0 a w h).elim
  |succ n ih=>
   intro a w hI;have⟨e,a₁,w₁,hq,harr⟩:=round n a w hI b (.inLoop c::k) cs;cases e with
   |normal=>
    have⟨e₂,a₂,w₂,hq₂,harr₂⟩:=ih a₁ w₁ hq;exact⟨e₂,a₂,w₂,hq₂,.of_steps (Steps.trans harr (.one step_inLoop)) harr₂⟩
   |exit id|goto l|ret|panic ch|outgrown=>exact⟨_,a₁,w₁,hq,.pass (x:=.inLoop c) rfl (λ _ _=>.inl (by simp)) harr⟩
 have⟨e,a',w',hq,harr⟩:=key n a w h;exact⟨e,a',w',hq,.of_steps (.one step_loop) harr⟩
section
variable {P:Program} {N:Nat} {Ξ:Exit->St->Prop} {U:St}
theorem Ev.mono{c:Code}{Q':Exit->St->Prop}(h:Ev P N c Ξ U)(hq:∀e U,Ξ e U->Q' e U):Ev P N c Q' U:=
 λw0 O0 G I a w hr ho=>wp_mono (h w0 O0 G I a w hr ho) λ_ _ _ ⟨β',I',σ',h1,h2,h3⟩=>⟨β',I',σ',h1,h2,hq _ _ h3⟩
theorem aoX(h:Ξ .normal U):Ev P N .skip Ξ U:=λ_ _ G I _ _ hr ho=>wp_skip ⟨G,I,U,hr,ho,h⟩
theorem aoY{id:Nat}(h:Ξ (.exit id) U):Ev P N (.exit id) Ξ U:=λ_ _ G I _ _ hr ho=>wp_exit ⟨G,I,U,hr,ho,h⟩
theorem Wg(h:Ξ .ret U):Ev P N .ret Ξ U:=λ_ _ G I _ _ hr ho=>wp_ret ⟨G,I,U,hr,ho,h⟩
theorem amK{l:Nat}(h:Ξ .normal U):Ev P N (.label l) Ξ U:=λ_ _ G I _ _ hr ho=>wp_label ⟨G,I,U,hr,ho,h⟩
theorem BX{x y:Code}(h:Ev P N x (aqd (Ev P N y Ξ) Ξ) U):Ev P N (.seq x y) Ξ U:=by intro w0 O0 G I a w hr ho;refine wp_seq (wp_mono (h w0 O0 G I a w hr ho) ?_);rintro e a' w' ⟨β',I',σ',h1,h2,h3⟩;cases e<;>first|exact h3 w0 O0 β' I' a' w' h1 h2|exact⟨β',I',σ',h1,h2,h3⟩
theorem aoZ{c:Operand}{x y:Code}(b:Bool)(hk:∀t,c=.tmp t->U.ok t=none)(hc:m6 U.env c=.t (.sc (.bool b)))(h:Ev P N (bif b then x else y) Ξ U):Ev P N (.cond c x y) Ξ U:=by intro w0 O0 G I a w hr ho;have h1:=ac6 (P:=P) (G:=G) (w:=w) (I:=I) (U:=U) (a:=a) (x:=c) hr.mem.vars (λ t ht=>by have h1:=hr.env t;rw[hk t ht]at h1;exact h1);rw[hc]at h1;refine wp_cond (t:=b) h1.1 ?_;cases b<;>exact h w0 O0 G I a w hr ho
theorem ahQ{c:Operand}{x y:Code}(hk:∀t,c=.tmp t->U.ok t=none)(hc:m6 U.env c=.ub)(h1:Ev P N x Ξ U)(h2:Ev P N y Ξ U):Ev P N (.cond c x y) Ξ U:=by intro w0 O0 G I a w hr ho;have h3:=ac6 (P:=P) (G:=G) (w:=w) (I:=I) (U:=U) (a:=a) (x:=c) hr.mem.vars (λ t ht=>by have h1:=hr.env t;rw[hk t ht]at h1;exact h1);rw[hc]at h3;obtain⟨b,hb⟩:=h3;refine wp_cond (t:=b) hb ?_;cases b;exact h2 w0 O0 G I a w hr ho;exact h1 w0 O0 G I a w hr ho
theorem amL{id:Nat}{c:Code}(h:Ev P N c (ahP id Ξ) U):Ev P N (.block id c) Ξ U:=by
 intro w0 O0 G I a w hr ho;refine wp_block (wp_mono (h w0 O0 G I a w hr ho) ?_);rintro e a' w' ⟨β',I',σ',h1,h2,h3⟩;cases e with
 |exit j=>
  simp[ahP]at h3;simp[Exit.inBlock];split;rw[aP ‹_›]at h3;exact⟨β',I',σ',h1,h2,h3⟩;rw[aM ‹_›]at h3;exact⟨β',I',σ',h1,h2,h3⟩
 |_=>exact⟨β',I',σ',h1,h2,h3⟩
theorem ao0{c:Code}(J:Nat->St->Prop)(h0:∀ U,¬J 0 U)(round:∀n U,J (n+1) U->Ev P N c (aqd (J n) Ξ) U)(n:Nat)(h:J n U):Ev P N (.loop c) Ξ U:=by intro w0 O0 G I a w hr ho;refine abB (λ n a w=>∃ G I U,Rel P w0 O0 N G I U a w/\t6 U/\J n U) (λ a w ⟨_,_,U,_,_,h⟩=>h0 U h) ?_ n a w ⟨G,I,U,hr,ho,h⟩;rintro n a w ⟨G,I,U,hr,ho,hJ⟩;refine wp_mono (round n U hJ w0 O0 G I a w hr ho) ?_;rintro e a' w' ⟨β',I',σ',h1,h2,h3⟩;cases e<;>exact⟨β',I',σ',h1,h2,h3⟩
end
def lk{α:Type}:Y (Nat×α)->Nat->J α
 |[],_=>none
 |(j,x)::r,k=>if j=k then some x else lk r k
structure tj where
 env:List (Nat×AV)
 du:List (Nat×aN)
def tj.st(L:tj):St:=⟨λ t=>(lk L.env t).getD .undef,λk=>lk L.du k,λ_=>none⟩
theorem qf{α:Type}:∀{l:Y (Nat×α)}{k:Nat}{x:α},lk l k=some x->(k,x)∈l
 |(j,y)::r,k,x,h=>by simp[lk]at h;split at h;cases h;rename_i e;subst e;simp;exact eG _ (qf h)
theorem wD{α:Type}:∀{l:Y (Nat×α)}{k:Nat}{x:α},(l.map (·.1)).Nodup->(k,x)∈l->lk l k=some x
 |(j,y)::r,k,x,hn,h=>by simp only[bq,List.nodup_cons]at hn;simp[lk];rcases aI.1 h with h|h;injection h with h1 h2;subst h1;subst h2;simp;have hne:k≠j:=λe=>hn.1 (mem_map.2 ⟨(k,x),h,e⟩);rw[aM (Ne.symm hne)];exact wD hn.2 h
end Go.Gb
