import GoSem.Claims
import Derived.Calls
import Derived.Below
import Derived.Orders
import Derived.Laws.Cells
import Derived.Laws.AppendOwn
import Derived.Laws.StructEq
import Derived.Laws.Build
import Derived.WalkKit
import Derived.Lib.AppendZeros
import Derived.MapKept
import Derived.Laws.MakeOwn
import Derived.OrdersIn
import Derived.LoopNIn
abbrev U:=@List
abbrev J:=@Option
open Go
abbrev Δ:=World
abbrev Θ:=TypeId
abbrev Ξ:=Program
abbrev Φ:=Nat->Prop
abbrev Ψ:=Value
abbrev η:=Array Value
open Go.IntKind (i64)
open List (length_take mem_map all_eq_true length_drop take_of_length_le map_congr_left eq_nil_of_length_eq_zero)
namespace Go
universe u v
theorem aj{α:Sort u}(a b:α):cond true a b=a:=rfl
theorem au{α:Sort u}(a b:α):cond false a b=b:=rfl
theorem ai{α:Type u}{β:Type v}(a:α)(f:α->J β):(some a).bind f=f a:=rfl
theorem bq{p:Prop}[Decidable p]:(decide p=true)=p:=_root_.decide_eq_true_eq
theorem cB{p:Prop}{_:Decidable p}:decide p=false↔¬p:=_root_.decide_eq_false_iff_not
theorem bV{α:Type u}(a b:α):(some a=some b)=(a=b):=Option.some.injEq a b
theorem aX(a b:Bool):((a&&b)=true)=(a=true/\b=true):=Bool.and_eq_true a b
theorem gu{a b:Bool}:a=b↔(a=true↔b=true):=Bool.eq_iff_iff
theorem dZ{α:Type u}{a b:U α}:(a++b).length=a.length+b.length:=List.length_append
theorem aV{α:Type u}(a b c:U α):a++b++c=a++(b++c):=List.append_assoc a b c
theorem oh{α:Type u}{a:α}:¬a∈([]:U α):=List.not_mem_nil
theorem aT{c:Prop}{h:Decidable c}(hnc:¬c){α:Sort u}{t e:α}:(if c then t else e)=e:=_root_.if_neg hnc
theorem aY{c:Prop}{h:Decidable c}(hc:c){α:Sort u}{t e:α}:(if c then t else e)=t:=_root_.if_pos hc
theorem bg{α:Type u}{a b:α}:a∈[b]↔a=b:=List.mem_singleton
theorem dP{α:Type u}{l:U α}{i:Nat}(h:i<l.length):l[i]? =some l[i]:=List.getElem?_eq_getElem h
theorem pX{α:Type u}{a b:U α}{i:Nat}(h:a.length<=i):(a++b)[i]? =b[i-a.length]? :=List.getElem?_append_right h
theorem dx{α:Type u}{i:Nat}{a:α}{l:U α}:l[i]? =some a↔∃h:i<l.length,l[i]=a:=List.getElem?_eq_some_iff
theorem cZ{α:Type u}{l:U α}{i:Nat}{a:α}(h:l[i]? =some a):a∈l:=List.mem_of_getElem? h
theorem iE{α:Type u}{b:α}{α_1:Type v}{x:J α_1}{f:α_1->α}:Option.map f x=some b↔∃a,x=some a/\f a=b:=Option.map_eq_some_iff
theorem iF{α:Type u}{i:Nat}{l:U α}(h:i<l.length):List.take (i+1) l=List.take i l++[l[i]]:=List.take_succ_eq_append_getElem h
theorem bQ{α:Type u}(y:α){a:α}{l:U α}(h:a∈l):a∈y::l:=List.mem_cons_of_mem y h
theorem aB(n:Nat):n<=n:=Nat.le_refl n
theorem gB{α:Type u}{a:α}{l:U α}:(a::l).length=l.length+1:=rfl
theorem bK{α:Type u}{β:Type v}{f:α->β}{a:α}{l:U α}:List.map f (a::l)=f a::List.map f l:=rfl
theorem aL{α:Type u}{b:α}{l:U α}{a:α}:a∈b::l↔a=b\/a∈l:=List.mem_cons
theorem fw{α:Type u}(l:U α):[]++l=l:=rfl
theorem bF{α:Type u}{a:α}{s t:U α}:a∈s++t↔a∈s\/a∈t:=List.mem_append
theorem vM{p:Prop}(h:¬p->False):p:=Classical.byContradiction h
end Go
namespace Go
theorem ah{α:Type _}{β:Type _}{b:β}{x:J α}{f:α->J β}:x.bind f=some b↔∃ a,x=some a/\f a=some b:=Option.bind_eq_some_iff
end Go
namespace Go.Gb
def z6:Nat->J (List Value):=λ_=>none
def apH:Nat->Bool:=λg=>g==0
open Go.RowKit
inductive Tree where
 |sc (v:Value)
 |sl (rows:List (List Tree))
inductive TV where
 |s (x:Tree)
 |a (cs:List Tree)
inductive AV where
 |t (x:Tree)
 |agg (cs:List AV)
 |fm (vs:List AV)
 |own (k:Nat) (aa len:Nat)
 |ptr (k:Nat) (row aa:Nat)
 |eE (row:List Tree) (aa:Nat)
 |fn (f:FuncId) (first caps:List AV)
 |d7 (φ:List TV->TV->Prop)
 |mp (k:Nat)
 |oz (k len:Nat)
 |cT
 |ub
 |undef
structure aR where
 sz:Nat
 rows:List (List AV)
abbrev Ω:=Nat->J aR
structure Ex where
 m:Nat
 s:Nat
 h:s<=m
def An(m:Nat):Ex:=⟨m,0,Nat.zero_le m⟩
@[simp] theorem al0 (m:Nat):(An m).m=m:=rfl
@[simp] theorem Up (m:Nat):(An m).s=0:=rfl
inductive cH where
 |none
 |at (b sz:Nat) (n:Ex)
 |mp (b:Nat)
abbrev ζ:=Nat->J cH
@[simp] def cH.num:cH->J Nat
 |.none=>Option.none
 |.at b _ _=>some b
 |.mp b=>some b
def oneCell:Value->Prop
 |.agg _|.tuple _=>False
 |_=>True
section
variable (w:World) (I:Nat->Prop)
mutual
def TR:Tree->Value->Prop
 |.sc v,u=>u=v/\oneCell v
 |.sl rows,u=>(rows=[]/\∃a cap,u=.slice a 0 cap/\(a=none->cap=0))\/∃b aa cap sz,u=.slice (some ⟨b,aa,none⟩) rows.length cap/\rows.length<=cap/\I b/\cC rows b aa sz
def cC:List (List Tree)->Nat->Nat->Nat->Prop
 |[],_,_,_=>True
 |r::rs,b,aa,sz=>r.length=sz/\eh r b aa/\cC rs b (aa+sz) sz
def eh:List Tree->Nat->Nat->Prop
 |[],_,_=>True
 |x::xs,b,aa=>(∃ c,w.cell? ⟨b,aa,none⟩=some c/\TR x c)/\eh xs b (aa+1)
end
def eV:U Tree->U Value->Prop
 |[],[]=>True
 |x::xs,v::vs=>TR w I x v/\eV xs vs
 |_,_=>False
def vd:TV->Value->Prop
 |.s x,v=>TR w I x v
 |.a cs,v=>∃vs:Array Value,v=.agg vs/\eV w I cs vs.toList
def oc:U TV->U Value->Prop
 |[],[]=>True
 |x::xs,v::vs=>vd w I x v/\oc xs vs
 |_,_=>False
end
def Same(I:Φ)(w w':Δ):Prop:=∀b,I b->w'.heap[b]? =w.heap[b]?
theorem Same.cell{I:Φ}{w w':Δ}(h:Same I w w'){b aa:Nat}(hb:I b):w'.cell? ⟨b,aa,none⟩=w.cell? ⟨b,aa,none⟩:=by simp[World.cell?,h b hb]
mutual
theorem TR.mono{w w':World}{I I':Nat->Prop}(hs:Same I w w')(hi:∀b,I b->I' b):∀(x:Tree)(v:Value),TR w I x v->TR w' I' x v
 |.sc _,_,h=>by simpa[TR]using h
 |.sl rows,v,h=>by simp only[TR]at h ⊢;rcases h with h|⟨b,aa,cap,sz,h1,h2,h3,h4⟩;exact .inl h;exact .inr ⟨b,aa,cap,sz,h1,h2,hi _ h3,cC.mono hs hi rows b aa sz h3 h4⟩
theorem cC.mono{w w':World}{I I':Nat->Prop}(hs:Same I w w')(hi:∀b,I b->I' b):∀(rows:List (List Tree))(b aa sz:Nat),I b->cC w I rows b aa sz->cC w' I' rows b aa sz
 |[],_,_,_,_,_=>by simp[cC]
 |r::rs,b,aa,sz,hb,h=>by simp[cC]at h ⊢;exact⟨h.1,eh.mono hs hi r b aa hb h.2.1,cC.mono hs hi rs b (aa+sz) sz hb h.2.2⟩
theorem eh.mono{w w':World}{I I':Nat->Prop}(hs:Same I w w')(hi:∀b,I b->I' b):∀(r:List Tree)(b aa:Nat),I b->eh w I r b aa->eh w' I' r b aa
 |[],_,_,_,_=>by simp[eh]
 |x::xs,b,aa,hb,h=>by simp[eh]at h ⊢;obtain⟨⟨c,hc,hx⟩,h2⟩:=h;exact⟨⟨c,by rw[hs.cell hb];exact hc,TR.mono hs hi x c hx⟩,eh.mono hs hi xs b (aa+1) hb h2⟩
end
theorem eV.mono{w w':Δ}{I I':Φ}(hs:Same I w w')(hi:∀b,I b->I' b):∀(xs:U Tree)(vs:U Value),eV w I xs vs->eV w' I' xs vs
 |[],[],_=>trivial
 |x::xs,v::vs,h=>⟨TR.mono hs hi x v h.1,eV.mono hs hi xs vs h.2⟩
 |[],_::_,h|_::_,[],h=>h.elim
theorem vd.mono{w w':Δ}{I I':Φ}(hs:Same I w w')(hi:∀b,I b->I' b):∀(x:TV)(v:Value),vd w I x v->vd w' I' x v
 |.s x,v,h=>TR.mono hs hi x v h
 |.a cs,_,⟨vs,h1,h2⟩=>⟨vs,h1,eV.mono hs hi cs vs.toList h2⟩
theorem oc.mono{w w':Δ}{I I':Φ}(hs:Same I w w')(hi:∀b,I b->I' b):∀(xs:U TV)(vs:U Value),oc w I xs vs->oc w' I' xs vs
 |[],[],_=>trivial
 |x::xs,v::vs,h=>⟨vd.mono hs hi x v h.1,oc.mono hs hi xs vs h.2⟩
 |[],_::_,h|_::_,[],h=>h.elim
def k5(w:Δ)(I:Φ):Prop:=(∀ g row,z6 g=some row->I g/\eh w I (row.map Tree.sc) g 0)/\∀g,apH g=true->I g/\∃m,w.cell? ⟨g,0,none⟩=some (.int .i64 m)
theorem k5.mono{w w':Δ}{I I':Φ}(hs:Same I w w')(hi:∀b,I b->I' b)(h:k5 w I):k5 w' I':=⟨λ g row hg=>
 ⟨hi g (h.1 g row hg).1,eh.mono hs hi _ g 0 (h.1 g row hg).1 (h.1 g row hg).2⟩,λg hg=>⟨hi g (h.2 g hg).1,by rw[hs.cell (h.2 g hg).1];exact(h.2 g hg).2⟩⟩
def ajp(w:Δ)(I:Φ)(R:World->(Nat->Prop)->Value->Prop)(e:Ending)(w':Δ):Prop:=
 ∃v I',e=.returned v/\Below w.heap.size w w'/\(∀ b,I b->I' b)/\(∀ b,I' b->b<w'.heap.size)/\(∀ b,I' b->I b\/w.heap.size<=b)/\R w' I' v
def sk(P:Ξ)(w:Δ)(I:Φ)(φ:U TV->TV->Prop)(v:Ψ):Prop:=
 ∃(f:FuncId)(first caps:Array Value),v=.func (.func f) first caps/\first=#[]/\
  (∀ fn, P.funcs[f]? = some fn -> fn.body.isSome = true /\ (fn.name == "runtime.NumGoroutine") = false) /\ (P.funcs[f]?).isSome = true /\
  ∀(w':World)(I':Nat->Prop)(args:U TV)(vs:Array Value)(r:TV),(∀ b,I b->I' b)->Same I w w'->(∀ b,I' b->b<w'.heap.size)->
   φ args r->oc w' I' args vs.toList->Calls P f (first++vs++caps) w' (ajp w' I' λw'' Hm u=>vd w'' Hm r u)
section
variable (P:Program) (β:Nat->Option cH) (w:World) (I:Nat->Prop)
mutual
def VR:AV->Value->Prop
 |.t x,v=>TR w I x v
 |.agg cs,v=>∃vs:Array Value,v=.agg vs/\bp cs vs.toList
 |.fm cs,v=>∃vs:Array Value,v=.tuple vs/\bp cs vs.toList
 |.own k aa len,v=>(β k=some .none/\v=.slice none 0 0/\aa=0/\len=0)\/
  ∃b sz n cap o,β k=some (.at b sz n)/\v=.slice (some ⟨b,o,none⟩) len cap/\len<=cap/\n.s+(aa+cap)*sz<=n.m/\(cap≠0->o=n.s+aa*sz)
 |.ptr k row aa,v=>∃b sz n,β k=some (.at b sz n)/\v=.pointer (some ⟨b,n.s+row*sz+aa,none⟩)
 |.eE row aa,v=>∃b o,v=.pointer (some ⟨b,o+aa,none⟩)/\I b/\eh w I row b o
 |.fn f first caps,v=>∃fs cs:Array Value,v=.func (.func f) fs cs/\bp first fs.toList/\bp caps cs.toList
 |.d7 φ,v=>sk P w I φ v
 |.mp k,v=>∃b,β k=some (.mp b)/\v=.map (some b)
 |.oz k len,v=>(len=0/\v=.slice none 0 0)\/(len≠0/\∃b sz n cap o,β k=some (.at b sz n)/\v=.slice (some ⟨b,o,none⟩) len cap/\len<=cap/\n.s+(0+cap)*sz<=n.m/\(cap≠0->o=n.s+0*sz))
 |.cT,v=>v=.slice none 0 0
 |.ub,v=>∃b,v=.bool b
 |.undef,_=>True
def bp:List AV->List Value->Prop
 |[],[]=>True
 |x::xs,v::vs=>VR x v/\bp xs vs
 |_,_=>False
end
def cW:U AV->Array Value->Nat->Prop
 |[],_,_=>True
 |x::xs,c,aa=>(∃ v,c[aa]? =some v/\VR P β w I x v/\oneCell v)/\cW xs c (aa+1)
def cd:U (List AV)->Array Value->Nat->Nat->Prop
 |[],_,_,_=>True
 |r::rs,c,aa,sz=>r.length=sz/\cW P β w I r c aa/\cd rs c (aa+sz) sz
def cI:U (List AV)->U MapEntry->Prop
 |[],[]=>True
 |r::rs,e::es=>bp P β w I r [e.key,e.val]/\cI rs es
 |_,_=>False
def OR(o:aR):cH->Prop
 |.none=>o.rows=[]
 |.mp b=>∃es clock,w.heap[b]? =some (.map es clock)/\o.rows.length<=o.sz/\(o.sz=o.rows.length->cI P β w I o.rows es.toList)/\(es.toList.map (·.born)).Nodup/\∀e∈es.toList,e.born<clock
 |.at b sz n=>sz=o.sz/\∃c e,w.heap[b]? =some (.cells c e (0,0))/\c.size=n.m/\cd P β w I o.rows c n.s sz
end
theorem sk.mono{P:Ξ}{w w':Δ}{I I':Φ}(hs:Same I w w')(hi:∀b,I b->I' b){φ:U TV->TV->Prop}{v:Ψ}(h:sk P w I φ v):sk P w' I' φ v:=by obtain⟨f,first,caps,h1,h0,h2,h3,h4⟩:=h;exact⟨f,first,caps,h1,h0,h2,h3,λw2 I2 args vs r hi2 hs2 hlt hφ ha=>h4 w2 I2 args vs r (λ b h=>hi2 b (hi b h)) (λ b h=>(hs2 b (hi b h)).trans (hs b h)) hlt hφ ha⟩
mutual
theorem VR.mono{P:Program}{β β':Nat->Option cH}{w w':World}{I I':Nat->Prop}(hb:∀k B,β k=some B->β' k=some B)(hs:Same I w w')(hi:∀b,I b->I' b):∀(x:AV)(v:Value),VR P β w I x v->VR P β' w' I' x v
 |.t x,v,h=>by simp[VR]at h ⊢;exact TR.mono hs hi x v h
 |.agg cs,v,h=>by simp[VR]at h ⊢;obtain⟨vs,h1,h2⟩:=h;exact⟨vs,h1,bp.mono hb hs hi cs vs.toList h2⟩
 |.fm cs,v,h=>by simp[VR]at h ⊢;obtain⟨vs,h1,h2⟩:=h;exact⟨vs,h1,bp.mono hb hs hi cs vs.toList h2⟩
 |.own k aa len,v,h=>by simp only[VR]at h ⊢;rcases h with ⟨h1,h2⟩|⟨b,sz,n,cap,o,h1,h2⟩;exact .inl ⟨hb _ _ h1,h2⟩;exact .inr ⟨b,sz,n,cap,o,hb _ _ h1,h2⟩
 |.ptr k row aa,v,h=>by simp[VR]at h ⊢;obtain⟨b,sz,n,h1,h2⟩:=h;exact⟨b,sz,n,hb _ _ h1,h2⟩
 |.eE row aa,v,h=>by simp[VR]at h ⊢;obtain⟨b,o,h1,h2,h3⟩:=h;exact⟨b,o,h1,hi _ h2,eh.mono hs hi row b o h2 h3⟩
 |.fn f first caps,v,h=>by simp[VR]at h ⊢;obtain⟨fs,cs,h1,h2,h3⟩:=h;exact⟨fs,cs,h1,bp.mono hb hs hi first fs.toList h2,bp.mono hb hs hi caps cs.toList h3⟩
 |.d7 φ,v,h=>by simp[VR]at h ⊢;exact sk.mono hs hi h
 |.mp k,v,h=>by simp[VR]at h ⊢;obtain⟨b,h1,h2⟩:=h;exact⟨b,hb _ _ h1,h2⟩
 |.oz k len,v,h=>by simp only[VR]at h ⊢;rcases h with h|⟨h0,b,sz,n,cap,o,h1,h2⟩;exact .inl h;exact .inr ⟨h0,b,sz,n,cap,o,hb _ _ h1,h2⟩
 |.cT,v,h|.ub,v,h=>by simpa[VR]using h
 |.undef,_,_=>by simp[VR]
theorem bp.mono{P:Program}{β β':Nat->Option cH}{w w':World}{I I':Nat->Prop}(hb:∀k B,β k=some B->β' k=some B)(hs:Same I w w')(hi:∀b,I b->I' b):∀(xs:List AV)(vs:List Value),bp P β w I xs vs->bp P β' w' I' xs vs
 |[],[],_=>by simp[bp]
 |x::xs,v::vs,h=>by simp[bp]at h ⊢;exact⟨VR.mono hb hs hi x v h.1,bp.mono hb hs hi xs vs h.2⟩
 |[],_::_,h|_::_,[],h=>by simp[bp]at h
end
theorem VR.xd{P:Ξ}{β:ζ}{w:Δ}{I:Φ}{k len:Nat}{v:Ψ}(h:VR P β w I (.oz k len) v):(len=0/\v=.slice none 0 0)\/(len≠0/\VR P β w I (.own k 0 len) v):=by exact h.imp id λh=>⟨h.1,.inr h.2⟩
def wk:AV->AV
 |.cT=>.t (.sl [])
 |x=>x
def eF(rows:U (List AV)):U (List AV):=rows.map λr=>r.map wk
theorem VR.wk{P:Ξ}{β:ζ}{w:Δ}{I:Φ}{x:AV}{v:Ψ}(h:VR P β w I x v):VR P β w I (wk x) v:=by
 cases x<;>simp[Gb.wk]<;>try exact h
 simp[VR]at h ⊢;simp only[TR];exact .inl ⟨trivial,none,0,h,λ_=>rfl⟩
theorem cW.wk{P:Ξ}{β:ζ}{w:Δ}{I:Φ}:∀(r:U AV)(c:Array Value)(aa:Nat),cW P β w I r c aa->cW P β w I (r.map Gb.wk) c aa
 |[],_,_,_=>trivial
 |_::xs,c,aa,⟨⟨v,h1,h2,h3⟩,h4⟩=>⟨⟨v,h1,h2.wk,h3⟩,cW.wk xs c (aa+1) h4⟩
theorem cd.wk{P:Ξ}{β:ζ}{w:Δ}{I:Φ}:∀(rs:U (List AV))(c:Array Value)(aa sz:Nat),cd P β w I rs c aa sz->cd P β w I (eF rs) c aa sz
 |[],_,_,_,_=>trivial
 |r::rs,c,aa,sz,⟨h1,h2,h3⟩=>⟨by simpa using h1,cW.wk r c aa h2,cd.wk rs c (aa+sz) sz h3⟩
theorem cW.mono{P:Ξ}{β β':ζ}{w w':Δ}{I I':Φ}(hb:∀k B,β k=some B->β' k=some B)(hs:Same I w w')(hi:∀b,I b->I' b):∀(r:U AV)(c:Array Value)(aa:Nat),cW P β w I r c aa->cW P β' w' I' r c aa
 |[],_,_,_=>trivial
 |x::xs,c,aa,⟨⟨v,h1,h2,h3⟩,h4⟩=>⟨⟨v,h1,VR.mono hb hs hi x v h2,h3⟩,cW.mono hb hs hi xs c (aa+1) h4⟩
theorem cd.mono{P:Ξ}{β β':ζ}{w w':Δ}{I I':Φ}(hb:∀k B,β k=some B->β' k=some B)(hs:Same I w w')(hi:∀b,I b->I' b):∀(rs:U (List AV))(c:Array Value)(aa sz:Nat),cd P β w I rs c aa sz->cd P β' w' I' rs c aa sz
 |[],_,_,_,_=>trivial
 |r::rs,c,aa,sz,⟨h1,h2,h3⟩=>⟨h1,cW.mono hb hs hi r c aa h2,cd.mono hb hs hi rs c (aa+sz) sz h3⟩
theorem bp.wk{P:Ξ}{β:ζ}{w:Δ}{I:Φ}:∀(r:U AV)(vs:U Value),bp P β w I r vs->bp P β w I (r.map Gb.wk) vs
 |[],[],_=>by simp[bp]
 |x::xs,v::vs,h=>by simp[bp]at h;simp;exact⟨h.1.wk,bp.wk xs vs h.2⟩
 |[],_::_,h|_::_,[],h=>by simp[bp]at h
theorem cI.mono{P:Ξ}{β β':ζ}{w w':Δ}{I I':Φ}(hb:∀k B,β k=some B->β' k=some B)(hs:Same I w w')(hi:∀b,I b->I' b):∀(rs:U (List AV))(es:U MapEntry),cI P β w I rs es->cI P β' w' I' rs es
 |[],[],_=>trivial
 |r::rs,_::es,⟨h1,h4⟩=>⟨bp.mono hb hs hi r _ h1,cI.mono hb hs hi rs es h4⟩
 |[],_::_,h|_::_,[],h=>h.elim
theorem cI.wk{P:Ξ}{β:ζ}{w:Δ}{I:Φ}:∀(rs:U (List AV))(es:U MapEntry),cI P β w I rs es->cI P β w I (eF rs) es
 |[],[],_=>trivial
 |r::rs,_::es,⟨h1,h4⟩=>⟨bp.wk r _ h1,cI.wk rs es h4⟩
 |[],_::_,h|_::_,[],h=>h.elim
structure iu where
 own:Nat->Prop
 qv:Nat->Prop
 anc:Nat->Option cH:=λ_=>none
 lt:∀j B,anc j=some B->j<1000:=by intro j B h;cases h
 GO:List Deferred:=[]
structure Mem(P:Program)(w0:World)(O0:iu)(β:Nat->Option cH)(I:Nat->Prop)(obj:Nat->Option aR)(w:World):Prop where
 cD:∀k o,obj k=some o->∃B,β k=some B/\OR P β w I o B
 eI:∀k k' o o' B B' b,obj k=some o->obj k'=some o'->β k=some B->β k'=some B'->B.num=some b->B'.num=some b->k=k'
 ownB:∀k o B b,obj k=some o->β k=some B->B.num=some b->¬I b/\b<w.heap.size/\(O0.own b\/w0.heap.size<=b)
 lt:∀b,I b->b<w.heap.size
 up:∀b,I b->O0.qv b\/O0.own b\/w0.heap.size<=b
 keep:∀b,b<w0.heap.size->¬O0.own b->w.heap[b]? =w0.heap[b]?
 le:w0.heap.size<=w.heap.size
 os:w.os=w0.os
 tape:w.tape=w0.tape
 output:w.output=w0.output
 anch:∀j B,O0.anc j=some B->β j=some B
 vars:k5 w I
section
variable {P:Program} {w0:World} {O0:iu} {β:Nat->Option cH} {I:Nat->Prop} {obj:Nat->Option aR} {w:World}
theorem Mem.inj(h:Mem P w0 O0 β I obj w):∀k k' o o' b s n s' n',obj k=some o->obj k'=some o'->β k=some (.at b s n)->β k'=some (.at b s' n')->k=k':=
 λk k' o o' b _ _ _ _ h1 h2 h3 h4=>h.eI k k' o o' _ _ b h1 h2 h3 h4 rfl rfl
theorem Mem.own(h:Mem P w0 O0 β I obj w):∀k o b s n,obj k=some o->β k=some (.at b s n)->¬I b/\b<w.heap.size/\(O0.own b\/w0.heap.size<=b):=
 λk o b _ _ h1 h2=>h.ownB k o _ b h1 h2 rfl
end
def gi(β:ζ)(k b:Nat):Prop:=∃B,β k=some B/\B.num=some b
theorem gi.at{β:ζ}{k b s:Nat}{n:Ex}(h:β k=some (.at b s n)):gi β k b:=⟨_,h,rfl⟩
section
variable {P:Program} {w0:World} {O0:iu} {β:Nat->Option cH} {I:Nat->Prop} {obj:Nat->Option aR} {w:World}
theorem Mem.pc(h:Mem P w0 O0 β I obj w):∀k k' o o' b,obj k=some o->obj k'=some o'->gi β k b->gi β k' b->k=k':=
 λk k' o o' b h1 h2 ⟨B,h3,h5⟩ ⟨B',h4,h6⟩=>h.eI k k' o o' B B' b h1 h2 h3 h4 h5 h6
theorem Mem.j0(h:Mem P w0 O0 β I obj w):∀k o b,obj k=some o->gi β k b->¬I b/\b<w.heap.size/\(O0.own b\/w0.heap.size<=b):=
 λk o b h1 ⟨B,h2,h3⟩=>h.ownB k o B b h1 h2 h3
end
def cu(obj:Ω):U (Nat×Option aR)->Nat->J aR
 |[],k=>obj k
 |(j,o)::r,k=>if k=j then o else cu obj r k
def jt(i k:Nat):Prop:=k=i\/(1000000<=i/\1000000<=k/\(k-1000000)/64=(i-1000000)/64)
theorem jt.ne{i k:Nat}(h:¬jt i k):k≠i:=λe=>h (.inl e)
structure Step(β:Nat->Option cH)(I:Nat->Prop)(w:World)(i:Nat)(β':Nat->Option cH)(I':Nat->Prop)(w':World):Prop where
 other:∀k,¬jt i k->β' k=β k
 ext:∀k B,β k=some B->β' k=some B
 same:Same I w w'
 inc:∀b,I b->I' b
theorem Step.refl(β:ζ)(I:Φ)(w:Δ)(i:Nat):Step β I w i β I w:=⟨λ _ _=>rfl,λ_ _ h=>h,λ_ _=>rfl,λ_ h=>h⟩
theorem pE{w:Δ}{o:Obj}{b:Nat}(h:b<w.heap.size):(w.alloc o).heap[b]? =w.heap[b]? :=by grind [World.alloc]
theorem Same.alloc{I:Φ}{w:Δ}(h:∀b,I b->b<w.heap.size)(o:Obj):Same I w (w.alloc o):=λb hb=>pE (h b hb)
def ins(β:ζ)(i:Nat)(B:cH):Nat->J cH:=λk=>if k=i then some B else β k
theorem om{β:ζ}{i:Nat}{B:cH}(h:β i=none):∀k C,β k=some C->ins β i B k=some C:=by grind [ins]
theorem jZ{P:Ξ}{β:ζ}{w:Δ}{I:Φ}:∀(r:U AV)(c:Array Value)(aa:Nat),cW P β w I r c aa↔∀j x,r[j]? =some x->∃v,c[aa+j]? =some v/\VR P β w I x v/\oneCell v
 |[],c,aa=>by simp[cW]
 |x::xs,c,aa=>by
  simp[cW,jZ xs c (aa+1)];constructor
  grind
  intro h;refine⟨by simpa using h 0 x rfl,λj y hj=>?_⟩;obtain⟨v,hv⟩:=h (j+1) y (by simpa using hj);exact⟨v,by rw[show aa+1+j=aa+(j+1)by omega];exact hv.1,hv.2⟩
theorem pF{P:Ξ}{β:ζ}{w:Δ}{I:Φ}:∀(rs:U (List AV))(c:Array Value)(aa sz:Nat),cd P β w I rs c aa sz↔∀i r,rs[i]? =some r->r.length=sz/\cW P β w I r c (aa+i*sz)
 |[],c,aa,sz=>by simp[cd]
 |r::rs,c,aa,sz=>by
  simp[cd,pF rs c (aa+sz) sz];constructor;rintro⟨h1,h2,h3⟩ i r' hi;cases i with
  |zero=>simp at hi;subst hi;exact⟨h1,by simpa using h2⟩
  |succ i=>have:=h3 i r' (by simpa using hi);rw[show aa+(i+1)*sz=aa+sz+i*sz by rw[Nat.add_mul];omega];exact this
  intro h;have h0:=h 0 r rfl;refine⟨h0.1,by simpa using h0.2,λi r' hi=>?_⟩;have:=h (i+1) r' (by simpa using hi);rw[show aa+sz+i*sz=aa+(i+1)*sz by rw[Nat.add_mul];omega];exact this
section
variable {P:Program} {w0:World} {O0:iu} {β:Nat->Option cH} {I:Nat->Prop} {obj:Nat->Option aR} {w:World}
theorem OR.mono{β':ζ}{I':Φ}{w':Δ}{o:aR}{B:cH}(hb:∀k B,β k=some B->β' k=some B)(hs:Same I w w')(hi:∀b,I b->I' b)
 (hB:∀b,B.num=some b->w'.heap[b]? =w.heap[b]?) (h:OR P β w I o B):OR P β' w' I' o B:=by
 cases B with
 |none=>exact h
 | «at» b s n=>
  obtain⟨h1,c,e,h2,h3,h4⟩:=h;exact⟨h1,c,e,(hB b rfl).trans h2,h3,cd.mono hb hs hi _ _ _ _ h4⟩
 |mp b=>
  obtain⟨es,cl,h1,hle,h2,h3⟩:=h;exact⟨es,cl,(hB b rfl).trans h1,hle,λe=>cI.mono hb hs hi _ _ (h2 e),h3⟩
theorem Mem.alloc{i:Nat}{o:aR}{c:η}{e:Θ}(h:Mem P w0 O0 β I obj w)(hn:β i=none)
 (hr:cd P β w I o.rows c 0 o.sz):
 Step β I w i (ins β i (.at w.heap.size o.sz (An c.size))) I (w.alloc (.cells c e))/\
 Mem P w0 O0 (ins β i (.at w.heap.size o.sz (An c.size))) I (cu obj [(i,some o)]) (w.alloc (.cells c e)):=by
 have hS:Step β I w i (ins β i (.at w.heap.size o.sz (An c.size))) I (w.alloc (.cells c e)):=
  ⟨λ k hk=>by simp[ins,jt.ne hk],om hn,Same.alloc h.lt _,λ_ h=>h⟩
 refine⟨hS,?_⟩;constructor;intro k o' hk;simp[cu]at hk;split at hk;cases hk;rename_i hki;refine⟨.at w.heap.size o.sz (An c.size),by simp[ins,hki],rfl,c,e,?_,rfl,cd.mono hS.ext hS.same hS.inc _ _ _ _ hr⟩;exact heap_alloc_new w _;have⟨B,hB,hO⟩:=h.cD k o' hk;exact⟨B,om hn _ _ hB,OR.mono hS.ext hS.same hS.inc (λ b hb=>pE (h.ownB k o' B b hk hB hb).2.1) hO⟩;intro k k' o1 o2 B B' b h1 h2 h3 h4 h5 h6;simp[cu]at h1 h2;simp[ins]at h3 h4;split at h1<;>split at h2;rename_i a b;rw[a,b];rename_i hki pL;simp[hki]at h3;simp[pL]at h4;subst h3;injection h5 with h5;have:=(h.ownB k' o2 B' b h2 h4 h6).2.1;omega;rename_i hki pL;simp[pL]at h4;simp[hki]at h3;subst h4;injection h6 with h6;have:=(h.ownB k o1 B b h1 h3 h5).2.1;omega;rename_i hki pL;simp[hki,pL]at h3 h4;exact h.eI k k' o1 o2 B B' b h1 h2 h3 h4 h5 h6;intro k o' B b h1 h2 h3;simp[cu]at h1;simp[ins]at h2;split at h1;rename_i hki;simp[hki]at h2;subst h2;injection h3 with h3;refine⟨λ hI=>?_,?_,.inr ?_⟩;have:=h.lt b hI;omega;simp;omega;have:=h.le;omega;rename_i hki;simp[hki]at h2;have⟨a,b',c'⟩:=h.ownB k o' B b h1 h2 h3;exact⟨a,by simp;omega,c'⟩;intro b hb;have:=h.lt b hb;simp;omega;exact h.up;intro b hb hO;rw[pE (by have:=h.le;omega)];exact h.keep b hb hO;have:=h.le;simp;omega;exact h.os;exact h.tape;exact h.output;intro j B hj;exact om hn _ _ (h.anch j B hj);exact h.vars.mono (Same.alloc h.lt _) (λ _ h=>h)
theorem Mem.write{k:Nat}{o o':aR}{b s:Nat}{n:Ex}{c':η}{e:Θ}{w':Δ}(h:Mem P w0 O0 β I obj w)(hk:obj k=some o)(hβ:β k=some (.at b s n))
 (hnew:w'.heap[b]? =some (.cells c' e (0,0))) (hother:∀b',b'≠b->w'.heap[b']? =w.heap[b']?) (hsize:w'.heap.size=w.heap.size) (hos:w'.os=w.os) (sC:w'.tape=w.tape) (hout:w'.output=w.output)
 (hsz:s=o'.sz) (hn:c'.size=n.m) (hr:cd P β w I o'.rows c' n.s o'.sz):
 Same I w w'/\Mem P w0 O0 β I (cu obj [(k,some o')]) w':=by
 have⟨hnI,hlt,hO⟩:=h.own k o b s n hk hβ;have hs:Same I w w':=λb' hb=>hother b' (λ e=>hnI (e ▸ hb));refine⟨hs,?_⟩;constructor;intro j oj hj;simp[cu]at hj;split at hj;rename_i hjk;cases hj;refine⟨.at b s n,by rw[hjk];exact hβ,hsz,c',e,?_,hn,hsz ▸ cd.mono (λ _ _ h=>h) hs (λ _ h=>h) _ _ _ _ hr⟩;exact hnew;rename_i hjk;have⟨B,hB,tc⟩:=h.cD j oj hj;refine⟨B,hB,OR.mono (λ _ _ h=>h) hs (λ _ h=>h) (λ b1 e1=>hother b1 (λ e2=>hjk ?_)) tc⟩;subst e2;exact h.eI j k oj o B _ b1 hj hk hB hβ e1 rfl;intro j j' o1 o2 B1 B2 b1 h1 h2 h3 h4 h5 h6;have hx:∀(j:Nat)(o1:aR),cu obj [(k,some o')] j=some o1->∃o2,obj j=some o2:=λj o1 h=>by simp[cu]at h;split at h;rename_i e;exact⟨o,by rw[e];exact hk⟩;exact⟨_,h⟩
 have⟨p1,q1⟩:=hx j o1 h1;have⟨p2,q2⟩:=hx j' o2 h2;exact h.eI j j' p1 p2 B1 B2 b1 q1 q2 h3 h4 h5 h6;intro j o1 B1 b1 h1 h2 h3;have hx:∃o2,obj j=some o2:=by simp[cu]at h1;split at h1;rename_i e;exact⟨o,by rw[e];exact hk⟩;exact⟨_,h1⟩
 obtain⟨p1,q1⟩:=hx;have:=h.ownB j p1 B1 b1 q1 h2 h3;rw[hsize];exact this;intro b1 hb1;rw[hsize];exact h.lt b1 hb1;exact h.up;intro b1 hb1 hno;rw[hother b1 (λ e1=>?_)];exact h.keep b1 hb1 hno;subst e1;rcases hO with hO|hO;exact hno hO;omega;rw[hsize];exact h.le;rw[hos];exact h.os;rw[sC];exact h.tape;rw[hout];exact h.output;exact h.anch;exact h.vars.mono hs (λ _ h=>h)
theorem Mem.drop(h:Mem P w0 O0 β I obj w)(kq:Ω)(hsub:∀k o,kq k=some o->obj k=some o):Mem P w0 O0 β I kq w:=
 ⟨λ k o hk=>h.cD k o (hsub k o hk),λk k' o o' B B' b h1 h2=>h.eI k k' o o' B B' b (hsub _ _ h1) (hsub _ _ h2),λk o B b h1=>h.ownB k o B b (hsub _ _ h1),h.lt,h.up,h.keep,h.le,h.os,h.tape,h.output,h.anch,h.vars⟩
theorem Mem.below{w':Δ}{I':Φ}(h:Mem P w0 O0 β I obj w)(hb:Below w.heap.size w w')(hi:∀b,I b->I' b)(hlt:∀b,I' b->b<w'.heap.size)(hI:∀b k o B,I' b->obj k=some o->β k=some B->B.num=some b->False)(hup:∀b,I' b->O0.qv b\/O0.own b\/w0.heap.size<=b):
 Same I w w'/\Mem P w0 O0 β I' obj w':=by have hs:Same I w w':=λb hb'=>hb.block b (h.lt b hb');refine⟨hs,?_⟩;constructor;intro k o hk;have⟨B,hB,hO⟩:=h.cD k o hk;exact⟨B,hB,OR.mono (λ _ _ h=>h) hs hi (λ b e=>hb.block b (h.ownB k o B b hk hB e).2.1) hO⟩;exact h.eI;intro k o B b h1 h2 h3;have⟨a,b',c⟩:=h.ownB k o B b h1 h2 h3;exact⟨λ hb2=>hI b k o B hb2 h1 h2 h3,Nat.lt_of_lt_of_le b' hb.size,c⟩;exact hlt;exact hup;intro b hb1 hno;rw[hb.block b (by have:=h.le;omega)];exact h.keep b hb1 hno;have:=h.le;have:=hb.size;omega;rw[hb.os];exact h.os;rw[hb.tape];exact h.tape;rw[hb.output];exact h.output;exact h.anch;exact h.vars.mono hs hi
theorem Mem.weak{kq:Ω}(h:Mem P w0 O0 β I obj w)(ho:∀k o',kq k=some o'->∃o,obj k=some o/\∀B,β k=some B->OR P β w I o B->OR P β w I o' B):Mem P w0 O0 β I kq w:=by constructor;intro k o' hk;have⟨o,h1,h2⟩:=ho k o' hk;have⟨B,hB,hO⟩:=h.cD k o h1;exact⟨B,hB,h2 B hB hO⟩;intro k k' o o' B B' b h1 h2;have⟨q,g1,_⟩:=ho k o h1;have⟨q',g2,_⟩:=ho k' o' h2;exact h.eI k k' q q' B B' b g1 g2;intro k o B b h1;have⟨q,g1,_⟩:=ho k o h1;exact h.ownB k q B b g1;exact h.lt;exact h.up;exact h.keep;exact h.le;exact h.os;exact h.tape;exact h.output;exact h.anch;exact h.vars
theorem OR.wk{o:aR}{B:cH}(h:OR P β w I o B):OR P β w I ⟨o.sz,eF o.rows⟩ B:=by
 cases B with
 |none=>simp[OR]at h ⊢;simp[eF,h]
 | «at» b s n=>
  obtain⟨h1,c,e,h2,h3,h4⟩:=h;exact⟨h1,c,e,h2,h3,cd.wk _ _ _ _ h4⟩
 |mp b=>
  obtain⟨es,cl,h1,hle,h2,h3⟩:=h;exact⟨es,cl,h1,by simpa[eF]using hle,λe=>cI.wk _ _ (h2 (by simpa[eF]using e)),h3⟩
theorem Mem.yz{k:Nat}{sz:Nat}{rows:U (List AV)}(h:Mem P w0 O0 β I (cu obj [(k,some ⟨sz,rows⟩)]) w):Mem P w0 O0 β I (cu obj [(k,some ⟨sz,eF rows⟩)]) w:=by refine h.weak λj o' hj=>?_;simp[cu]at hj ⊢;by_cases e:j=k;rw[aY e]at hj ⊢;cases hj;exact⟨_,rfl,λB _ hB=>OR.wk hB⟩;rw[aT e]at hj ⊢;exact⟨o',hj,λ_ _ h=>h⟩
theorem Mem.drew(h:Mem P w0 O0 β I obj w):Mem P w0 O0 β I obj w.drew:=by have hb:Below w.heap.size w w.drew:=⟨rfl,rfl,rfl,aB _,λ_ _=>rfl⟩;exact(h.below hb (λ _ h=>h) h.lt (λ b k o B h1 h2 h3 h4=>(h.ownB k o B b h2 h3 h4).1 h1) h.up).2
end
def ly:Nat->J cH:=λ_=>none
def TV.av:TV->AV
 |.s x=>.t x
 |.a cs=>.agg (cs.map .t)
inductive RC where
 |d (x:TV)
 |fresh (sz:Nat) (rows:List (List Tree))
 |whole (j len:Nat)
inductive RV where
 |one (c:RC)
 |fm (cs:List RC)
def aI(rows:U (List Tree)):U (List AV):=rows.map λr=>r.map AV.t
def mz(P:Ξ)(F:Φ)(sz:Nat)(rows:U (List Tree))(w:Δ)(I:Φ)(v:Ψ):Prop:=
 (rows=[]/\v=.slice none 0 0)\/∃b c e cap o s,v=.slice (some ⟨b,o,none⟩) rows.length cap/\F b/\¬I b/\w.heap[b]? =some (.cells c e (0,0))/\rows.length<=cap/\s+cap*sz<=c.size/\
  cd P ly w I (aI rows) c s sz/\(cap≠0->o=s)
def A3(P:Ξ)(F:Φ)(β:ζ):RC->World->(Nat->Prop)->Value->Prop
 |.d x,w,I,v=>vd w I x v
 |.fresh sz rows,w,I,v=>mz P F sz rows w I v
 |.whole j len,w,I,v=>VR P β w I (.own j 0 len) v
def V5(P:Ξ)(F:Φ)(β:ζ):U RC->World->(Nat->Prop)->U Value->Prop
 |[],_,_,[]=>True
 |c::cs,w,I,v::vs=>A3 P F β c w I v/\V5 P F β cs w I vs
 |_,_,_,_=>False
def sg(P:Ξ)(F:Φ)(β:ζ):RV->World->(Nat->Prop)->Value->Prop
 |.one c,w,I,v=>A3 P F β c w I v
 |.fm cs,w,I,v=>∃vs:Array Value,v=.tuple vs/\V5 P F β cs w I vs.toList
def TX(w:Δ)(b:Nat):Prop:=w.heap.size<=b
def eZ(P : Ξ)(f : FuncId): Prop := ∃ fn, P.funcs[f]? = some fn /\ fn.body.isSome = true /\ (fn.name == "runtime.NumGoroutine") = false
def tR(P:Ξ)(f:FuncId)(args:U AV)(r:RV):Prop:=
 eZ P f/\∀(w:World)(I:Nat->Prop)(vs:Array Value),(∀ b,I b->b<w.heap.size)->k5 w I->bp P ly w I args vs.toList->Calls P f vs w (ajp w I (sg P (TX w) ly r))
mutual
def gj(P:Program)(get:Nat->Option aR):AV->AV->Prop
 |.t x,y=>y=.t x
 |.agg cs,y=>∃cs',y=.agg cs'/\fL P get cs cs'
 |.fm _,_=>False
 |.own k aa len,y=>∃o dt,get k=some o/\y=.t (.sl dt)/\(o.rows.drop aa).take len=aI dt/\dt.length=len
 |.ptr k row aa,y=>∃o tg,get k=some o/\y=.eE tg aa/\o.rows[row]? =some (tg.map AV.t)
 |.eE r o,y=>y=.eE r o
 |.fn f first caps,y=>∃first' oE,fL P get first first'/\fL P get caps oE/\(y=.fn f first' oE\/
  ∃ φ,y=.d7 φ/\first'=[]/\eZ P f/\∀args r,φ args r->tR P f (first'++args.map TV.av++oE) (.one (.d r)))
 |.d7 φ,y=>y=.d7 φ
 |.mp _,_=>False
 |.oz k len,y=>∃o dt,get k=some o/\y=.t (.sl dt)/\(o.rows.drop 0).take len=aI dt/\dt.length=len
 |.cT,y=>y=.t (.sl [])\/y=.cT
 |.ub,_=>False
 |.undef,_=>False
def fL(P:Program)(get:Nat->Option aR):List AV->List AV->Prop
 |[],[]=>True
 |x::xs,y::ys=>gj P get x y/\fL P get xs ys
 |_,_=>False
end
mutual
def refs:AV->List Nat
 |.own k _ _=>[k]
 |.ptr k _ _=>[k]
 |.mp k=>[k]
 |.oz k _=>[k]
 |.agg cs=>fA cs
 |.fm cs=>fA cs
 |.fn _ first caps=>fA first++fA caps
 |_=>[]
def fA:List AV->List Nat
 |[]=>[]
 |x::xs=>refs x++fA xs
end
def ft(β:ζ)(obj:Ω)(ab:U Nat)(I:Φ)(b:Nat):Prop:=
 I b\/∃k o s n,k∈ab/\obj k=some o/\β k=some (.at b s n)
theorem ft.sub{β:ζ}{obj:Ω}{ab Lz:U Nat}{I:Φ}(h:∀k,k∈ab->k∈Lz):∀b,ft β obj ab I b->ft β obj Lz I b:=by intro b hb;rcases hb with hb|⟨k,o,s,n,h1,h2⟩;exact .inl hb;exact .inr ⟨k,o,s,n,h k h1,h2⟩
section
variable {P:Program} {β:Nat->Option cH} {w:World} {I:Nat->Prop}
theorem cW.drop:∀(n:Nat)(r:U AV)(c:Array Value)(aa:Nat),cW P β w I r c aa->cW P β w I (r.drop n) c (aa+n)
 | 0,_,_,_,h=>by simpa using h
 |n+1,[],_,_,_=>by simp[cW]
 |n+1,x::xs,c,aa,⟨_,h⟩=>by have:=cW.drop n xs c (aa+1) h;rw[show aa+(n+1)=aa+1+n by omega];exact this
theorem cW.take:∀(n:Nat)(r:U AV)(c:Array Value)(aa:Nat),cW P β w I r c aa->cW P β w I (r.take n) c aa
 | 0,_,_,_,_|n+1,[],_,_,_=>by simp[cW]
 |n+1,x::xs,c,aa,⟨h1,h⟩=>⟨h1,cW.take n xs c (aa+1) h⟩
theorem cd.drop:∀(n:Nat)(rs:U (List AV))(c:Array Value)(aa sz:Nat),cd P β w I rs c aa sz->cd P β w I (rs.drop n) c (aa+n*sz) sz
 | 0,_,_,_,_,h=>by simpa using h
 |n+1,[],_,_,_,_=>by simp[cd]
 |n+1,r::rs,c,aa,sz,⟨_,_,h⟩=>by have:=cd.drop n rs c (aa+sz) sz h;rw[show aa+(n+1)*sz=aa+sz+n*sz by rw[Nat.add_mul];omega];exact this
theorem cd.take:∀(n:Nat)(rs:U (List AV))(c:Array Value)(aa sz:Nat),cd P β w I rs c aa sz->cd P β w I (rs.take n) c aa sz
 | 0,_,_,_,_,_|n+1,[],_,_,_,_=>by simp[cd]
 |n+1,r::rs,c,aa,sz,⟨h1,h2,h⟩=>⟨h1,h2,cd.take n rs c (aa+sz) sz h⟩
theorem cd.get:∀(i:Nat)(rs:U (List AV))(c:Array Value)(aa sz:Nat)(r:U AV),cd P β w I rs c aa sz->rs[i]? =some r->r.length=sz/\cW P β w I r c (aa+i*sz)
 | 0,r::rs,c,aa,sz,r',⟨h1,h2,_⟩,h=>by simp at h;subst h;exact⟨h1,by simpa using h2⟩
 |i+1,r::rs,c,aa,sz,r',⟨_,_,h3⟩,h=>by have:=cd.get i rs c (aa+sz) sz r' h3 (by simpa using h);rw[show aa+(i+1)*sz=aa+sz+i*sz by rw[Nat.add_mul];omega];exact this
 |_,[],_,_,_,_,_,h=>by simp at h
theorem eh.mm{I':Φ}{b:Nat}{c:η}{e:Θ}{f:Nat×Nat}(hI:∀b,I b->I' b)(hc:w.heap[b]? =some (.cells c e f)):∀(r:U Tree)(aa:Nat),cW P β w I (r.map AV.t) c aa->eh w I' r b aa
 |[],_,_=>by simp[eh]
 |x::xs,aa,⟨⟨v,h1,h2,_⟩,h3⟩=>by refine⟨⟨v,?_,?_⟩,eh.mm hI hc xs (aa+1) h3⟩;simp[World.cell?,hc,h1];exact TR.mono (λ _ _=>rfl) hI x v h2
theorem cC.mm{I':Φ}{b:Nat}{c:η}{e:Θ}{f:Nat×Nat}(hI:∀b,I b->I' b)(hc:w.heap[b]? =some (.cells c e f)):∀(rs:U (List Tree))(aa sz:Nat),cd P β w I (aI rs) c aa sz->cC w I' rs b aa sz
 |[],_,_,_=>by simp[cC]
 |r::rs,aa,sz,h=>by exact⟨by simpa using h.1,eh.mm hI hc r aa h.2.1,cC.mm hI hc rs (aa+sz) sz h.2.2⟩
theorem sk.Kx{f:FuncId}{first caps:η}{first' oE:U AV}{φ:U TV->TV->Prop}(h0:first'=[])(hcall:eZ P f)(hgv:k5 w I)(hf:bp P ly w I first' first.toList)(hc:bp P ly w I oE caps.toList)
 (h:∀args r,φ args r->tR P f (first'++args.map TV.av++oE) (.one (.d r))):sk P w I φ (.func (.func f) first caps):=by
 obtain⟨fn,h1,h2,h3⟩:=hcall;have h00:first=#[]:=by
  obtain⟨fs⟩:=first
  cases fs with
  |nil=>rfl
  |cons a b=>rw[h0]at hf;simp[bp]at hf
 refine⟨f,first,caps,rfl,h00,λfn' hfn=>?_,by simp[h1],?_⟩;rw[h1]at hfn;cases hfn;exact⟨h2,h3⟩;intro w' I' args vs r hI hS hlt hφ ha;have happ:∀(a b:U AV)(u v:U Value),bp P ly w' I' a u->bp P ly w' I' b v->bp P ly w' I' (a++b) (u++v):=by
  intro a
  induction a with
  |nil=>intro b u v h1 h2;cases u with
   |nil=>simpa using h2
   |cons=>simp[bp]at h1
  |cons x xs ih=>intro b u v h1 h2;cases u with
   |nil=>simp[bp]at h1
   |cons y ys=>simp[bp]at h1;simp;exact⟨h1.1,ih _ _ _ h1.2 h2⟩
 have hargs:∀(args:U TV)(vs:U Value),oc w' I' args vs->bp P ly w' I' (args.map TV.av) vs:=by
  intro args
  induction args with
  |nil=>intro vs h;cases vs with
   |nil=>simp[bp]
   |cons=>simp[oc]at h
  |cons x xs ih=>intro vs h;cases vs with
   |nil=>simp[oc]at h
   |cons y ys=>
    simp[oc]at h;refine⟨?_,ih ys h.2⟩;cases x with
    |s x=>simpa[TV.av,VR,vd]using h.1
    |a cs=>
     obtain⟨us,rfl,h5⟩:=h.1;simp only[TV.av,VR];refine⟨us,rfl,?_⟩;have:∀(cs:U Tree) (us:U Value),eV w' I' cs us->bp P ly w' I' (cs.map AV.t) us:=by
      intro cs
      induction cs with
      |nil=>intro us h;cases us with
       |nil=>simp[bp]
       |cons=>simp[eV]at h
      |cons x xs ih=>intro us h;cases us with
       |nil=>simp[eV]at h
       |cons y ys=>simp[eV]at h;simp;exact⟨h.1,ih _ h.2⟩
     exact this cs us.toList h5
 have hm:∀k B,ly k=some B->ly k=some B:=λ_ _ h=>h;have:=(h args r hφ).2 w' I' (first++vs++caps) hlt (hgv.mono hS hI) (by simp only[Array.toList_append];exact happ _ _ _ _ (happ _ _ _ _ (bp.mono hm hS hI _ _ hf) (hargs _ _ ha)) (bp.mono hm hS hI _ _ hc));exact this
variable {w0:World} {O0:iu} {obj:Nat->Option aR}
theorem gj.nt(h:Mem P w0 O0 β I obj w)(ab:U Nat){k aa len:Nat}{y:AV}{v:Ψ}(hk:k∈ab)(hb:∃o dt,obj k=some o/\y=.t (.sl dt)/\(o.rows.drop aa).take len=aI dt/\dt.length=len)(hv:VR P β w I (.own k aa len) v):VR P ly w (ft β obj ab I) y v:=by obtain⟨o,dt,hget,rfl,hrows,hlen⟩:=hb;simp only[VR]at hv ⊢;rcases hv with ⟨h1,rfl,h2,h3⟩|⟨b,sz,n,cap,a,h1,rfl,h2,h3,h4⟩;exact .inl ⟨eq_nil_of_length_eq_zero (by omega),none,0,rfl,λ_=>rfl⟩;refine .inr ⟨b,a,cap,sz,by rw[hlen],by omega,.inr ⟨k,o,sz,n,hk,hget,h1⟩,?_⟩;by_cases h0:cap=0;have:dt=[]:=eq_nil_of_length_eq_zero (by omega);subst this;simp[cC];rw[h4 h0];have⟨B,hB,hO⟩:=h.cD k o hget;rw[h1]at hB;cases hB;obtain⟨hs,c,e,hc,_,hO⟩:=hO;have h4:=cd.take len _ _ _ _ (cd.drop aa _ _ _ _ hO);rw[hrows]at h4;exact cC.mm (λ _ h=>.inl h) hc dt _ _ h4
mutual
theorem gj.sound(h:Mem P w0 O0 β I obj w)(ab:List Nat):∀(x y:AV)(v:Value),(∀ k,k∈refs x->k∈ab)->gj P obj x y->VR P β w I x v->VR P ly w (ft β obj ab I) y v
 |.t x,y,v,_,hb,hv=>by simp[gj]at hb;subst hb;simp[VR]at hv ⊢;exact TR.mono (λ _ _=>rfl) (λ _ h=>.inl h) x v hv
 |.agg cs,y,v,hk,hb,hv=>by simp[gj]at hb;obtain⟨cs',rfl,hb⟩:=hb;simp[VR]at hv ⊢;obtain⟨vs,rfl,hv⟩:=hv;exact⟨vs,rfl,fL.sound h ab cs cs' vs.toList (by simpa[refs]using hk) hb hv⟩
 |.fm _,_,_,_,hb,_=>by simp[gj]at hb
 |.oz k len,y,v,hk,hb,hv=>by rcases hv.xd with ⟨rfl,rfl⟩|⟨_,hv⟩;simp only[gj]at hb;obtain⟨o,dt,hget,rfl,hrows,hlen⟩:=hb;simp only[VR,TR];exact .inl ⟨eq_nil_of_length_eq_zero hlen,none,0,rfl,λ_=>rfl⟩;exact gj.nt h ab (hk k (by simp[refs])) (by simpa[gj]using hb) hv
 |.own k aa len,y,v,hk,hb,hv=>gj.nt h ab (hk k (by simp[refs])) (by simpa[gj]using hb) hv
 |.ptr k row aa,y,v,hk,hb,hv=>by simp only[gj]at hb;obtain⟨o,tg,hget,rfl,hrow⟩:=hb;simp[VR]at hv ⊢;obtain⟨b,sz,n,h1,rfl⟩:=hv;have⟨B,hB,hO⟩:=h.cD k o hget;rw[h1]at hB;cases hB;obtain⟨hs,c,e,hc,_,hO⟩:=hO;have h4:=(cd.get row _ _ _ _ _ hO hrow).2;exact⟨b,n.s+row*sz,rfl,.inr ⟨k,o,sz,n,hk k (by simp[refs]),hget,h1⟩,eh.mm (λ _ h=>.inl h) hc tg _ h4⟩
 |.eE r o,y,v,_,hb,hv=>by simp[gj]at hb;subst hb;simp[VR]at hv ⊢;obtain⟨b,o',h1,h2,h3⟩:=hv;exact⟨b,o',h1,.inl h2,eh.mono (λ _ _=>rfl) (λ _ h=>.inl h) r b o' h2 h3⟩
 |.fn f first caps,y,v,hk,hb,hv=>by
  simp only[gj]at hb;obtain⟨first',oE,hb1,hb2,hy⟩:=hb;simp[VR]at hv;obtain⟨fs,cs,rfl,hv1,hv2⟩:=hv;have h1:=fL.sound h ab first first' fs.toList (λ k hk'=>hk k (by simp[refs,hk'])) hb1 hv1
  have h2:=fL.sound h ab caps oE cs.toList (λ k hk'=>hk k (by simp[refs,hk'])) hb2 hv2;rcases hy with rfl|⟨φ,rfl,h0,hc,hφ⟩;simp only[VR];exact⟨fs,cs,rfl,h1,h2⟩;simp[VR];exact sk.Kx h0 hc (h.vars.mono (λ _ _=>rfl) (λ _ h=>.inl h)) h1 h2 hφ
 |.d7 φ,y,v,_,hb,hv=>by simp[gj]at hb;subst hb;simp[VR]at hv ⊢;exact sk.mono (λ _ _=>rfl) (λ _ h=>.inl h) hv
 |.cT,y,v,_,hb,hv=>by simp[gj]at hb;rcases hb with rfl|rfl;simp[VR]at hv ⊢;simp only[TR];exact .inl ⟨trivial,none,0,hv,λ_=>rfl⟩;simpa[VR]using hv
 |.ub,_,_,_,hb,_|.undef,_,_,_,hb,_=>by simp[gj]at hb
theorem fL.sound(h:Mem P w0 O0 β I obj w)(ab:List Nat):∀(xs ys:List AV)(vs:List Value),(∀ k,k∈fA xs->k∈ab)->fL P obj xs ys->bp P β w I xs vs->bp P ly w (ft β obj ab I) ys vs
 |[],[],[],_,_,_=>by simp[bp]
 |x::xs,y::ys,v::vs,hk,hb,hv=>by simp[fL]at hb;simp[bp]at hv ⊢;exact⟨gj.sound h ab x y v (λ k hk'=>hk k (by simp[fA,hk'])) hb.1 hv.1,fL.sound h ab xs ys vs (λ k hk'=>hk k (by simp[fA,hk'])) hb.2 hv.2⟩
 |[],_::_,_,_,hb,_|_::_,[],_,_,hb,_=>by simp[fL]at hb
 |[],[],_::_,_,_,hv|_::_,_::_,[],_,_,hv=>by simp[bp]at hv
end
end
inductive C2 where
 |slice (e:TypeId)
 |arr (n:Nat) (e:TypeId)
 |struct (fs:List (Nat×TypeId))
 |bool
 |str
 |int (k:IntKind)
 |map (k e:TypeId)
 |other
structure p5 where
 size:Nat
 bytes:Nat
 agg:Bool
 zero:List Value
 k:C2
 cmp:List Nat
abbrev en:=Nat->J p5
def kOk:C2->TypeDesc->Prop
 |.slice e,d=>d=.slice e
 |.arr n e,d=>d=.array n e
 |.struct fs,d=>∃fa:Array Field,d=.struct fa/\fa.toList.map (λ f=>(f.offset,f.type))=fs
 |.bool,d=>d=.bool
 |.str,d=>d=.string
 |.int k,d=>d=.int k
 |.map k e,d=>d=.map k e
 |.other,_=>True
def tz:TypeDesc->Bool
 |.struct _|.array _ _=>true
 |_=>false
def km:Value->Bool
 |.agg _|.tuple _=>false
 |_=>true
theorem uj{v:Ψ}(h:km v=true):oneCell v:=by cases v<;>first|exact trivial|(simp [km]at h)
def V6(P:Ξ)(f:Field)(kd:Nat):Bool:=
 (f.name != "_") && match P.underlying f.type with
  |some (.int _)=>kd==0
  |some .bool=>kd==1
  |some .string=>kd==2
  |_=>false
def fx(P:Ξ):Nat->Nat->U Field->U Nat->Bool
 |_,_,[],[]=>true
 |m+1,n,f::fs,k::ks=>f.offset==n&&(V6 P f k&&fx P m (n+1) fs ks || match P.underlying f.type,P.info? f.type with
  | some (.struct fa), some info => f.name != "_" && !P.stoodInHeld f.type && fx P m 0 fa.toList ((k :: ks).take info.size) && fx P m (n + info.size) fs ((k :: ks).drop info.size)
  |_,_=>false)
 |_,_,_,_=>false
def tS(agg:Bool):Value->Bool
 |.agg _=>agg
 |.tuple _=>false
 |_=>!agg
structure my(P:Program)(t:TypeId)(ti:p5):Prop where
 ex:∃info d z,P.info? t=some info/\P.underlying t=some d/\info.size=ti.size/\info.bytes=ti.bytes/\info.zero=some z/\z.cells.toList=ti.zero/\tz d=ti.agg/\kOk ti.k d
 one:ti.zero.all km=true
 len:ti.zero.length=ti.size
 form:∀info z,P.info? t=some info->info.zero=some z->tS ti.agg z=true
 cmp:ti.cmp≠[]->(∃ fa:Array Field,P.underlying t=some (.struct fa)/\P.stoodInHeld t=false/\P.eqGuardType P.depth t=false/\fx P 99 0 fa.toList ti.cmp=true)\/(ti.cmp=[9]/\P.eqGuardType P.depth t=false)
def fB(P:Ξ)(T:en):Prop:=∀t ti,T t=some ti->my P t ti
def lg:U Prop->Prop
 |[]=>True
 |[p]=>p
 |p::q::r=>p/\lg (q::r)
structure Out where
 v:AV
 upd:List (Nat×Option aR)
 obs:List Prop
@[reducible] def Out.ob (o:Out):Prop:=lg o.obs
def cJ(i:Nat):Nat:=1000000+64*i
inductive LH where
 |rows (tr:List (List Tree))
 |row (tr:List Tree)
 |fn
 |d7 (φ:List TV->TV->Prop)
 |mut (j:Nat)
 |nil
 |emp
 |fnw
 |agw
 |agd
inductive OB where
 |dat (p:Nat×List (List Tree))
 |HH (hs:List (List LH))
inductive ka where
 |none
 |row (r:List AV)
 |set (r:List AV) (rs:List (List AV))
 |tg (r:List Tree)
 |num (n:Int)
 |rows (rs:List (List AV))
 |C5 (rows:List (List Tree))
 |call (hs:List LH) (r:RV) (keep:Bool)
 |GS (hs:List LH) (args:List TV) (r:TV) (keep:Bool)
 |ext (n:Int)
 |xv (ab:List Nat) (fr:Operand->AV) (cy:ka)
 |uC (ab:List Nat) (os:List (Nat×List (List Tree))) (os':List (Option (Nat×List (List Tree)))) (hs:List LH) (r:RV) (keep:Bool)
 |u9 (ab cR:List Nat) (bs:List OB) (hs:List LH) (os':List (Nat×aR)) (rv:AV) (keep:Bool)
def pv(v:AV):J Out:=some ⟨v,[],[]⟩
def nr(v:AV)(ob:Prop):J Out:=some ⟨v,[],[ob]⟩
def cv:Value->AV
 |.slice none 0 0=>.cT
 |v=>if km v then .t (.sc v)else .undef
def mL(env:Nat->AV):Operand->AV
 |.tmp t=>env t
 |.const v=>cv v
 |.global g=>match z6 g with
  |some row=>.eE (row.map Tree.sc) 0
  |none=>.undef
 |.func f=>.fn f [] []
def qg:AV->Bool
 |.agg _|.fm _|.undef=>false
 |_=>true
def cellsOf:AV->J (List AV)
 |.agg cs=>if cs.all qg then some cs else none
 |.fm _|.undef=>none
 |x=>some [x]
def part'(agg:Bool)(size:Nat)(cs:U AV):J AV:=
 if cs.length=size then(if agg then some (.agg cs)else match cs with|[x]=>if qg x then some x else none|_=>none)else none
def put'(r:U AV)(aa:Nat)(cs:U AV):U AV:=r.take aa++cs++r.drop (aa+cs.length)
def V7(op:BinOp)(k:IntKind)(a b:Int):J (Value×List Prop):=
 match op with
 |.add=>some (.int k (k.wrap (a+b)),[])
 |.sub=>some (.int k (k.wrap (a-b)),[])
 |.mul=>some (.int k (k.wrap (a*b)),[])
 |.quo=>some (.int k (k.wrap (a.tdiv b)),[b≠0])
 |.rem=>some (.int k (a.tmod b),[b≠0])
 |.and=>some (.int k (bits .and k a b),[])
 |.or=>some (.int k (bits .or k a b),[])
 |.xor=>some (.int k (bits .xor k a b),[])
 |.andNot=>some (.int k (bits .andNot k a b),[])
 |.shl=>some (.int k (k.wrap (a*2 ^ b.toNat)),[0<=b/\b<=k.bits])
 |.shr=>some (.int k (a/2 ^ b.toNat),[0<=b/\b<=k.bits])
 |.eql=>some (.bool (a==b),[])
 |.neq=>some (.bool (a !=b),[])
 |.lss=>some (.bool (decide (a<b)),[])
 |.leq=>some (.bool (decide (a<=b)),[])
 |.gtr=>some (.bool (decide (a>b)),[])
 |.geq=>some (.bool (decide (a>=b)),[])
def Ie:Nat->AV->AV->J Bool
 | 0,.t (.sc (.int j a)),.t (.sc (.int k b))=>if j=k then some (a==b)else none
 | 1,.t (.sc (.bool a)),.t (.sc (.bool b))=>some (a==b)
 | 2,.t (.sc (.string a)),.t (.sc (.string b))=>some (a.toList==b.toList)
 |_,_,_=>none
def jC:U Nat->U AV->U AV->J Bool
 |[],[],[]=>some true
 |k::ks,x::xs,y::ys=>(Ie k x y).bind λa=>(jC ks xs ys).bind λb=>some (a&&b)
 |_,_,_=>none
theorem al1:∀xs ys:U AV,jC [9] xs ys=none:=by intro xs ys;cases xs<;>cases ys<;>simp[jC,Ie]
def ZN(T:en)(op:BinOp)(t:Θ)(x y:AV):J Out:=
 match x,y with
 |.t (.sc (.int k a)),.t (.sc (.int yk b))=>if k=yk\/op=.shl\/op=.shr then(V7 op k a b).bind λ(v,obs)=>some ⟨.t (.sc v),[],obs⟩else none
 |.t (.sc (.string a)),.t (.sc (.string b))=>match op with
  |.eql=>pv (.t (.sc (.bool (a.toList==b.toList))))
  |.neq=>pv (.t (.sc (.bool (!(a.toList==b.toList)))))
  |.lss=>pv (.t (.sc (.bool (Op.bytesLess a.toList b.toList))))
  |.gtr=>pv (.t (.sc (.bool (!(Op.bytesLess a.toList b.toList || a.toList==b.toList)))))
  |.add=>nr (.t (.sc (.string (a++b)))) (a.size+b.size<=maxLen)
  |_=>none
 |.t (.sc (.bool a)),.t (.sc (.bool b))=>(T t).bind λti=>match ti.k,op with
  |.bool,.eql=>pv (.t (.sc (.bool (a==b))))
  |.bool,.neq=>pv (.t (.sc (.bool (!(a==b)))))
  |_,_=>none
 |.agg xs,.agg ys=>(T t).bind λti=>if ti.cmp=[]then none else(jC ti.cmp xs ys).bind λb=>match op with
  |.eql=>pv (.t (.sc (.bool b)))
  |.neq=>pv (.t (.sc (.bool (!b))))
  |_=>none
 |_,_=>none
def W7(op:UnOp)(x:AV):J Out:=
 match op,x with
 |.not,.t (.sc (.bool b))=>pv (.t (.sc (.bool (!b))))
 |.neg,.t (.sc (.int k n))=>pv (.t (.sc (.int k (k.wrap (0-n)))))
 |_,_=>none
def Eu(mx:Bool)(k:IntKind):Int->U AV->J Int
 |a,[]=>some a
 |a,.t (.sc (.int k' b))::r=>if k'=k then Eu mx k (if mx then max a b else min a b) r else none
 |_,_=>none
def IM(mx:Bool)(args:U AV):J Out:=
 match args with
 |.t (.sc (.int k a))::r=>(Eu mx k a r).bind λn=>pv (.t (.sc (.int k n)))
 |_=>none
def K8(T:en)(t:Θ)(x:AV)(cy:ka)(get:Ω):J Out:=
 (T t).bind λti=>match x with
 |.ptr k row aa=>(get k).bind λo=>match cy with
  |.row r=>(part' ti.agg ti.size ((r.drop aa).take ti.size)).bind λv=>nr v (o.rows[row]? =some r)
  |_=>(o.rows[row]?).bind λr=>(part' ti.agg ti.size ((r.drop aa).take ti.size)).bind pv
 |.eE r aa=>(part' ti.agg ti.size (((r.drop aa).take ti.size).map AV.t)).bind pv
 |_=>none
def V8(T:en)(t:Θ)(x y:AV)(cy:ka)(get:Ω):J Out:=
 (T t).bind λti=>(cellsOf y).bind λcs=>if cs.length=ti.size then match x with
 |.ptr k row aa=>(get k).bind λo=>match cy with
  |.set r rs=>if aa+cs.length<=r.length then some ⟨.undef,[(k,some ⟨o.sz,rs⟩)],[o.rows[row]? =some r/\rs=eF (o.rows.set row (put' r aa cs))]⟩else none
  |_=>(o.rows[row]?).bind λr=>if aa+cs.length<=r.length then some ⟨.undef,[(k,some ⟨o.sz,o.rows.set row (put' r aa cs)⟩)],[]⟩else none
 |_=>none else none
def AO(T:en)(t:Θ)(f:Nat):J (Nat×p5):=
 (T t).bind λti=>match ti.k with
 |.struct fs=>(fs[f]?).bind λ(aa,u)=>(T u).bind λui=>if ui.size=0 then none else some (aa,ui)
 |_=>none
def zm(T:en)(t:Θ)(x:AV)(f:Nat):J Out:=
 (AO T t f).bind λ(d,_)=>match x with
 |.ptr k row aa=>pv (.ptr k row (aa+d))
 |.eE r aa=>pv (.eE r (aa+d))
 |_=>none
def V9(T:en)(t:Θ)(x:AV)(f:Nat):J Out:=
 (AO T t f).bind λ(d,ui)=>match x with
 |.agg cs=>(part' ui.agg ui.size ((cs.drop d).take ui.size)).bind pv
 |_=>none
def mV(T:en)(t:Θ)(x i:AV)(cy:ka)(get:Ω):J Out:=
 (T t).bind λti=>match ti.k,i with
 |.slice e,.t (.sc (.int _ n))=>(T e).bind λei=>match x,cy with
  |.t (.sl rows),.tg r=>if r.length=ei.size then nr (.eE r 0) (0<=n/\rows[n.toNat]? =some r)else none
  |.own k aa len,_=>(get k).bind λo=>if o.sz=ei.size then nr (.ptr k (aa+n.toNat) 0) (0<=n/\n.toNat<len)else none
  |_,_=>none
 |.arr m e,.t (.sc (.int _ n))=>(T e).bind λei=>match x with
  |.ptr k row aa=>nr (.ptr k row (aa+n.toNat*ei.size)) (0<=n/\n.toNat<m)
  |.eE r aa=>nr (.eE r (aa+n.toNat*ei.size)) (0<=n/\n.toNat<m)
  |_=>none
 |_,_=>none
def Ig(x:AV)(j:Nat):J Out:=
 match x with
 |.fm vs=>(vs[j]?).bind pv
 |_=>none
def CL(T:en)(t:Θ)(x:AV)(cy:ka):J Out:=
 (T t).bind λti=>match ti.k,x,cy with
 |.slice _,.t (.sl rows),.num n=>nr (.t (.sc (.int .i64 n))) (n=(rows.length:Int))
 |.slice _,.own _ _ len,.num n=>nr (.t (.sc (.int .i64 n))) (n=(len:Int))
 |.slice _,.own _ _ len,_=>pv (.t (.sc (.int .i64 (len:Int))))
 |.slice _,.oz _ len,_=>pv (.t (.sc (.int .i64 (len:Int))))
 |.slice _,.cT,_=>pv (.t (.sc (.int .i64 0)))
 |.str,.t (.sc (.string s)),_=>pv (.t (.sc (.int .i64 (s.size:Int))))
 |_,_,_=>none
def F9(place:Nat->J (Nat×Nat)):U AV->U (Nat×AV)->J (List AV)
 |cells,[]=>some cells
 |cells,(j,x)::ae=>(place j).bind λ(aa,size)=>(cellsOf x).bind λcs=>
  if cs.length=size/\aa+cs.length<=cells.length then F9 place (put' cells aa cs) ae else none
def Wi(T:en)(t:Θ)(parts:U (Nat×AV)):J Out:=
 (T t).bind λti=>match ti.k with
 |.struct fs=>if fs.all (λ p=>(T p.2).isSome)then
  (F9 (λ j=>(fs[j]?).bind λp=>(T p.2).bind λui=>some (p.1,ui.size)) (ti.zero.map cv) parts).bind λcells=>pv (.agg cells)else none
 |.arr _ e=>(T e).bind λei=>(F9 (λ j=>some (j*ei.size,ei.size)) (ti.zero.map cv) parts).bind λcells=>pv (.agg cells)
 |_=>none
def M9(size:Nat):U (List AV)->U (Nat×AV)->J (List (List AV))
 |rows,[]=>some rows
 |rows,(j,x)::ae=>(cellsOf x).bind λcs=>if cs.length=size/\j<rows.length then M9 size (rows.set j cs) ae else none
def wR(T:en)(i:Nat)(t:Θ)(len:Nat)(parts:U (Nat×AV))(kp:Bool:=false):J Out:=
 (T t).bind λti=>match ti.k with
 |.slice e=>(T e).bind λei=>if ei.size=0\/len*ei.size>2 ^ 24 then none else
  (M9 ei.size (List.replicate len (ei.zero.map cv)) parts).bind λrows=>some ⟨.own (cJ i) 0 len,[(cJ i,some ⟨ei.size,if kp then rows else eF rows⟩)],[]⟩
 |_=>none
def Wj(T:en)(i:Nat)(e:Θ):J Out:=
 (T e).bind λti=>some ⟨.ptr (cJ i) 0 0,[(cJ i,some ⟨ti.size,[ti.zero.map cv]⟩)],[]⟩
def P1(i:Nat)(x:AV):J Out:=
 (cellsOf x).bind λcs=>some ⟨.ptr (cJ i) 0 0,[(cJ i,some ⟨cs.length,[cs]⟩)],[]⟩
def bnd(d:Int):J AV->J Int
 |none=>some d
 |some (.t (.sc (.int _ n)))=>some n
 |_=>none
def Wl(T:en)(t:Θ)(x:AV)(lo hi:J AV)(cy:ka)(get:Ω):J Out:=
 (T t).bind λti=>match ti.k with
 |.slice e=>(T e).bind λei=>match x with
  |.own k aa len=>(get k).bind λo=>if o.sz=ei.size then(bnd 0 lo).bind λl=>(bnd len hi).bind λh=>
   nr (.own k (aa+l.toNat) (h.toNat-l.toNat)) (0<=l/\l<=h/\h<=(len:Int))else none
  |.t (.sl rows)=>match cy with
   |.C5 rs=>(bnd 0 lo).bind λl=>(bnd rows.length hi).bind λh=>
    nr (.t (.sl rs)) (0<=l/\l<=h/\h<=(rows.length:Int)/\rs=(rows.drop l.toNat).take (h.toNat-l.toNat)/\(∀ r∈rows,r.length=ei.size))
   |_=>none
  |_=>none
 |_=>none
def Wm(size:Nat)(y:AV)(get:Ω):J (Nat×Prop×List (List AV)):=
 match y with
 |.own k aa len=>(get k).bind λo=>if o.sz=size then some (len,True,(o.rows.drop aa).take len)else none
 |.t (.sl rows)=>some (rows.length,∀r∈rows,r.length=size,aI rows)
 |_=>none
def AP(T:en)(i:Nat)(t:Θ)(x y:AV)(cy:ka)(get:Ω):J Out:=
 (T t).bind λti=>match ti.k with
 |.slice e=>(T e).bind λei=>match cy with
  |.rows rs=>(Wm ei.size y get).bind λ(n,ob,al)=>match x with
   |.own k aa len=>(get k).bind λo=>if o.sz=ei.size then
    some ⟨.own (cJ i) 0 rs.length,[(cJ i,some ⟨ei.size,rs⟩),(k,none)],[ob/\(o.rows.drop aa).length=len/\al.length=n/\rs=o.rows.drop aa++al/\(len+n)*ei.bytes<=140737488355328/\len+n<=maxLen]⟩else none
   |.cT=>some ⟨.own (cJ i) 0 rs.length,[(cJ i,some ⟨ei.size,rs⟩)],[ob/\al.length=n/\rs=al/\n*ei.bytes<=140737488355328/\n<=maxLen]⟩
   |_=>none
  |_=>none
 |_=>none
def Da(T:en)(i:Nat)(b:Builtin)(args:U AV)(de:U TypeId)(cy:ka)(get:Ω):J Out:=
 match b,args,de with
 |.len,[x],[t]=>CL T t x cy
 |.max,args,_=>IM true args
 |.min,args,_=>IM false args
 |.append,[x,y],[t,u]=>if t=u then AP T i t x y cy get else none
 |_,_,_=>none
def Rr(t:Bool)(x y:AV):AV:=
 match x,y with
 |.t (.sc (.bool p)),.t (.sc (.bool q))=>.t (.sc (.bool (bif t then p else q)))
 |.t (.sc (.int k p)),.t (.sc (.int k' q))=>if k=k' then .t (.sc (.int k (bif t then p else q)))else bif t then x else y
 |_,_=>bif t then x else y
theorem Wn(t:Bool)(x y:AV):Rr t x y=if t=true then x else y:=by unfold Rr;split;cases t<;>rfl;split;rename_i h;subst h;cases t<;>rfl;cases t<;>rfl;cases t<;>rfl
def ru(T:en)(i:Nat)(o:Oper)(cy:ka)(ρ:Operand->AV)(get:Ω):J Out:=
 match o.op with
 |.move x=>pv (ρ x)
 |.assign x=>pv (ρ x)
 |.pick c a b=>match ρ c with|.t (.sc (.bool t))=>pv (Rr t (ρ a) (ρ b))|_=>none
 |.alloc e=>Wj T i e
 |.box _ x=>P1 i (ρ x)
 |.build t parts=>Wi T t (parts.toList.map λ(j,x)=>(j,ρ x))
 |.buildSlice t len parts=>wR T i t len (parts.toList.map λ(j,x)=>(j,ρ x)) (match cy with|.row _=>true|_=>false)
 |.load t a=>K8 T t (ρ a) cy get
 |.store t a x=>V8 T t (ρ a) (ρ x) cy get
 |.binOp op t x y _=>ZN T op t (ρ x) (ρ y)
 |.unOp op _ x=>W7 op (ρ x)
 |.makeFunc (.func f) first caps=>pv (.fn f (first.toList.map ρ) (caps.toList.map ρ))
 |.slice t x lo hi none=>Wl T t (ρ x) (lo.map ρ) (hi.map ρ) cy get
 |.fieldAddr t x f=>zm T t (ρ x) f
 |.field t x f=>V9 T t (ρ x) f
 |.indexAddr t x j=>mV T t (ρ x) (ρ j) cy get
 |.extract x j=>Ig (ρ x) j
 |.call { callee:=.builtin b,args:=args,argTypes:=de }=>Da T i b (args.toList.map ρ) de.toList cy get
 |_=>none
def s9(P:Ξ)(w0:Δ)(O0:iu)(β:ζ)(I:Φ)(obj:Ω)(w:Δ)(i:Nat)(out:Out)(r:Result Next):Prop:=
 ∃v' w' β' I',(r=.ok (.value v') w'\/(r=.ok .skip w'/\v'=undef))/\Step β I w (cJ i) β' I' w'/\Mem P w0 O0 β' I' (cu obj out.upd) w'/\VR P β' w' I' out.v v'
section
variable {P:Program} {T:en} {w0:World} {O0:iu} {β:Nat->Option cH} {I:Nat->Prop} {obj:Nat->Option aR} {w:World} {i:Nat}
theorem s9.pure(h:Mem P w0 O0 β I obj w){x:AV}{ob:U Prop}{v:Ψ}(hv:VR P β w I x v):s9 P w0 O0 β I obj w i ⟨x,[],ob⟩ (.ok (.value v) w):=
 ⟨v,w,β,I,.inl rfl,Step.refl ..,h,hv⟩
theorem bp.length:∀(xs:U AV)(vs:U Value),bp P β w I xs vs->vs.length=xs.length
 |[],[],_=>rfl
 |x::xs,v::vs,h=>by simp[bp]at h;simp[bp.length xs vs h.2]
 |[],_::_,h|_::_,[],h=>by simp[bp]at h
theorem bp.get:∀(xs:U AV)(vs:U Value)(j:Nat)(x:AV),bp P β w I xs vs->xs[j]? =some x->∃v,vs[j]? =some v/\VR P β w I x v
 |x::xs,v::vs,0,x',h,hj=>by grind [bp]
 |x::xs,v::vs,j+1,x',h,hj=>by simp[bp]at h;simpa using bp.get xs vs j x' h.2 (by simpa using hj)
 |[],_,_,_,_,hj=>by simp at hj
 |_::_,[],_,_,h,_=>by simp[bp]at h
theorem bp.take:∀(n:Nat)(xs:U AV)(vs:U Value),bp P β w I xs vs->bp P β w I (xs.take n) (vs.take n)
 | 0,_,_,_|n+1,[],[],_=>by simp[bp]
 |n+1,x::xs,v::vs,h=>by simp[bp]at h;simp;exact⟨h.1,bp.take n xs vs h.2⟩
 |_+1,[],_::_,h|_+1,_::_,[],h=>by simp[bp]at h
theorem bp.drop:∀(n:Nat)(xs:U AV)(vs:U Value),bp P β w I xs vs->bp P β w I (xs.drop n) (vs.drop n)
 | 0,_,_,h=>by simpa using h
 |n+1,[],[],_=>by simp[bp]
 |n+1,x::xs,v::vs,h=>by simp[bp]at h;simpa using bp.drop n xs vs h.2
 |_+1,[],_::_,h|_+1,_::_,[],h=>by simp[bp]at h
theorem bp.append:∀(xs ys:U AV)(us vs:U Value),bp P β w I xs us->bp P β w I ys vs->bp P β w I (xs++ys) (us++vs)
 |[],ys,[],vs,_,h=>by simpa using h
 |x::xs,ys,u::us,vs,h1,h2=>by simp[bp]at h1;simp;exact⟨h1.1,bp.append xs ys us vs h1.2 h2⟩
 |[],_,_::_,_,h,_|_::_,_,[],_,h,_=>by simp[bp]at h
theorem VR.one{x:AV}{v:Ψ}(hx:qg x=true)(h:VR P β w I x v):oneCell v:=by
 cases x<;>simp only[VR]at h
 case t x=>
  cases x with
  |sc u=>simp[TR]at h;rw[h.1];exact h.2
  |sl rows=>simp only[TR]at h;rcases h with ⟨_,_,_,rfl,_⟩|⟨b,aa,cap,sz,rfl,_⟩<;>exact trivial
 case agg=>simp[qg]at hx
 case fm=>simp[qg]at hx
 case own k aa len=>rcases h with ⟨_,rfl,_⟩|⟨b,sz,n,cap,a,_,rfl,_⟩<;>exact trivial
 case ptr=>obtain⟨b,sz,n,_,rfl⟩:=h;exact trivial
 case eE=>obtain⟨b,o,rfl,_⟩:=h;exact trivial
 case fn=>obtain⟨fs,cs,rfl,_⟩:=h;exact trivial
 case d7=>obtain⟨f,a,b,rfl,_⟩:=h;exact trivial
 case mp=>obtain⟨b,_,rfl⟩:=h;exact trivial
 case oz=>rcases h with ⟨_,rfl⟩|⟨_,b,sz,n,cap,a,_,rfl,_⟩<;>exact trivial
 case cT=>subst h;exact trivial
 case ub=>obtain⟨b,rfl⟩:=h;exact trivial
 case undef=>simp[qg]at hx
theorem cells_one{v:Ψ}(h:oneCell v):v.cells=#[v]:=by cases v<;>first|rfl|exact h.elim
theorem BJ{x:AV}{cs:U AV}{v:Ψ}(hc:cellsOf x=some cs)(h:VR P β w I x v):bp P β w I cs v.cells.toList/\(∀ u∈v.cells.toList,oneCell u):=by
 have single:qg x=true->cs=[x]->bp P β w I cs v.cells.toList/\(∀ u∈v.cells.toList,oneCell u):=λhk e=>by have h1:=VR.one hk h;rw[cells_one h1,e];simp only[bp];exact⟨⟨h,trivial⟩,λu hu=>by simp at hu;rw[hu];exact h1⟩
 cases x<;>simp only[cellsOf,bV,reduceCtorEq]at hc
 case agg cs'=>
  split at hc;injection hc with hc;subst hc;rename_i hall;simp[VR]at h;obtain⟨vs,rfl,hvs⟩:=h;refine⟨hvs,λu hu=>?_⟩;obtain⟨j,hj⟩:=List.getElem?_of_mem hu;have hlen:=bp.length _ _ hvs;have hjl:j<cs'.length:=by have:=(dx.1 hj).1;simp only[Value.cells]at this;omega
  obtain⟨u',hu',hv'⟩:=bp.get _ _ j _ hvs (dP hjl);simp only[Value.cells]at hj;rw[hj]at hu';injection hu' with hu';subst hu';exact VR.one (all_eq_true.1 hall _ (List.getElem_mem hjl)) hv';cases hc
 all_goals exact single rfl hc.symm
theorem VR.cv{v:Ψ}:VR P β w I (cv v) v:=by unfold Gb.cv;split;simp[VR];split;rename_i h;simp only[VR,TR];exact⟨trivial,uj h⟩;simp[VR]
theorem bp.cv:∀(vs:U Value),bp P β w I (vs.map cv) vs
 |[]=>by simp[bp]
 |v::vs=>by simp;exact⟨VR.cv,bp.cv vs⟩
theorem cW.pm(cs:U AV)(vs:U Value)(c:η)(aa:Nat)(h:bp P β w I cs vs)(h1:∀u∈vs,oneCell u)(hc:∀j u,vs[j]? =some u->c[aa+j]? =some u):cW P β w I cs c aa:=by rw[jZ];intro j x hx;obtain⟨v,hv,hr⟩:=bp.get _ _ j x h hx;exact⟨v,hc j v hv,hr,h1 v (cZ hv)⟩
theorem cW.list:∀(cs:U AV)(c:Array Value)(aa:Nat),cW P β w I cs c aa->∃vs:U Value,bp P β w I cs vs/\(∀ u∈vs,oneCell u)/\∀j u,vs[j]? =some u->c[aa+j]? =some u
 |[],_,_,_=>⟨[],by simp[bp],by simp,by simp⟩
 |x::xs,c,aa,⟨⟨v,h1,h2,h3⟩,h4⟩=>by
  have⟨vs,g1,g2,g3⟩:=cW.list xs c (aa+1) h4;refine⟨v::vs,by simp[bp];exact⟨h2,g1⟩,λu hu=>?_,λj u hj=>?_⟩
  all_goals grind
theorem eh.list:∀(cs:U Tree)(b aa:Nat),eh w I cs b aa->∃vs:U Value,bp P β w I (cs.map AV.t) vs/\∀j u,vs[j]? =some u->w.cell? ⟨b,aa+j,none⟩=some u
 |[],_,_,_=>⟨[],by simp[bp],by simp⟩
 |x::xs,b,aa,h=>by
  obtain⟨⟨v,h1,h2⟩,h4⟩:=h;have⟨vs,g1,g3⟩:=eh.list xs b (aa+1) h4;refine⟨v::vs,by simp;exact⟨h2,g1⟩,λj u hj=>?_⟩
  grind
theorem LM{agg:Bool}{size:Nat}{cs:U AV}{v:AV}{vs:U Value}(hp:part' agg size cs=some v)(h:bp P β w I cs vs):cs.length=size/\vs.length=size/\
 (agg=true->VR P β w I v (.agg vs.toArray))/\(agg=false->∃u,vs=[u]/\VR P β w I v u):=by
 unfold part' at hp;split at hp;rename_i hl;have hl2:=bp.length _ _ h;refine⟨hl,by omega,?_,?_⟩;rintro rfl;simp at hp;subst hp;exact⟨vs.toArray,rfl,h⟩;rintro rfl;simp at hp;split at hp;split at hp;cases hp
 match vs,h with
 |[u],h=>simp only[bp]at h;exact⟨u,rfl,h.1⟩
 |[],h|_::_::_,h=>simp[bp]at h
 cases hp;cases hp;cases hp
section types
variable {t:TypeId} {ti:p5} (ht:my P t ti)
include ht
theorem my.size:(sizeOf t).run P w=.ok ti.size w:=by obtain⟨info,d,z,h1,h2,h3,h4,h5,h6,h7,h8⟩:=ht.ex;simp[sizeOf,typeInfo,h1,h3]
theorem my.agg:(isAgg t).run P w=.ok ti.agg w:=by obtain⟨info,d,z,h1,h2,h3,h4,h5,h6,h7,h8⟩:=ht.ex;rw[<- h7];cases d<;>simp[isAgg,run_underlying h2,tz]
theorem my.zeroV:∃z,(zeroValue t).run P w=.ok z w/\z.cells.toList=ti.zero:=by obtain⟨info,d,z,h1,h2,h3,h4,h5,h6,h7,h8⟩:=ht.ex;exact⟨z,by simp[zeroValue,typeInfo,h1,h5],h6⟩
end types
theorem addr_add(b o n:Nat):(⟨b,o,none⟩:Addr).add n=⟨b,o+n,none⟩:=by unfold Addr.add;split<;>simp_all
theorem Ih{t:Θ}{ti:p5}(ht:my P t ti){b o:Nat}{cs:U AV}{v:AV}{vs:U Value}(hp:part' ti.agg ti.size cs=some v)(hr:bp P β w I cs vs)
 (hc:∀j u,vs[j]? =some u->w.cell? ⟨b,o+j,none⟩=some u):∃u,(loadVar t ⟨b,o,none⟩).run P w=.ok u w/\VR P β w I v u:=by
 have⟨h1,h2,h3,h4⟩:=LM hp hr;simp[loadVar,ht.agg (w:=w)];cases hag:ti.agg with
 |true=>
  refine⟨.agg vs.toArray,?_,h3 hag⟩;simp[ht.size (w:=w)];rw[<- h2,run_loadCells_list w ⟨b,o,none⟩ vs (λ j u hj=>by rw[addr_add];exact hc j u hj)];simp
 |false=>
  obtain⟨u,rfl,hu⟩:=h4 hag;refine⟨u,?_,hu⟩;have:=hc 0 u rfl;simp at this;simp[this]
theorem Sz(hT:fB P T)(h:Mem P w0 O0 β I obj w){t:Θ}{x:AV}{cy:ka}{get:Ω}{out:Out}{v:Ψ}(hg:∀k o,get k=some o->obj k=some o)
 (ha:K8 T t x cy get=some out) (cN:out.ob) (hx:VR P β w I x v):∃u,(Instr.loadAt t v).run P w=.ok u w/\VR P β w I out.v u/\out.upd=[]:=by
 unfold K8 at ha;cases hti:T t with
 |none=>simp[hti]at ha
 |some ti=>
  have ht:=hT t ti hti;simp only[hti,ai]at ha;cases x<;>simp only[reduceCtorEq]at ha
  case ptr k row aa=>
   cases hk:get k with
   |none=>simp[hk]at ha
   |some o=>
    simp[hk]at ha;have key:∀r,o.rows[row]? =some r->∀u,part' ti.agg ti.size ((r.drop aa).take ti.size)=some u->∃z,(Instr.loadAt t v).run P w=.ok z w/\VR P β w I u z:=(by intro r hr u hp;simp[VR]at hx;obtain⟨b,sz,n,h1,rfl⟩:=hx;have⟨B,hB,hO⟩:=h.cD k o (hg k o hk);rw[h1]at hB;cases hB;obtain⟨hs,c,e,hc,_,hO⟩:=hO;have h4:=(cd.get row _ _ _ _ _ hO hr).2;obtain⟨vs,g1,g2,g3⟩:=cW.list _ _ _ (cW.take ti.size _ _ _ (cW.drop aa _ _ _ h4));obtain⟨z,hz,hz2⟩:=Ih ht (b:=b) (o:=n.s+row*sz+aa) hp g1 (λ j u hj=>by simp[World.cell?,hc,g3 j u hj]);exact⟨z,by simp[Instr.loadAt,Instr.sureAddr,hz],hz2⟩);have fin:∀r ob,o.rows[row]? =some r->((part' ti.agg ti.size ((r.drop aa).take ti.size)).bind λv=>some (⟨v,[],ob⟩:Out))=some out->∃u,(Instr.loadAt t v).run P w=.ok u w/\VR P β w I out.v u/\out.upd=[]:=by
     intro r ob hr hh;cases hp:part' ti.agg ti.size ((r.drop aa).take ti.size)with
     |none=>simp[hp]at hh
     |some u=>
      simp[hp]at hh;subst hh;have⟨z,hz⟩:=key r hr u hp;exact⟨z,hz.1,hz.2,rfl⟩
    cases cy
    case row r=>
     have hr:o.rows[row]? =some r:=by
      cases hp:part' ti.agg ti.size ((r.drop aa).take ti.size)with
      |none=>simp[hp]at ha
      |some u=>simp[hp,nr]at ha;subst ha;exact cN
     exact fin r _ hr ha
    all_goals
     cases hr:o.rows[row]? with
     |none=>simp[hr]at ha
     |some r=>
      simp[hr]at ha;exact fin r _ hr ha
  case eE r aa=>
   cases hp:part' ti.agg ti.size (((r.drop aa).take ti.size).map AV.t)with
   |none=>rw[hp]at ha;simp at ha
   |some u=>
    simp only[hp,ai,pv,bV]at ha;subst ha;simp[VR]at hx;obtain⟨b,o,rfl,hI,hr⟩:=hx;have hdrop:∀(n:Nat) (r:U Tree) (o:Nat),eh w I r b o->eh w I (r.drop n) b (o+n):=by
     intro n
     induction n with
     |zero=>intro r o h;simpa using h
     |succ n ih=>intro r o h;cases r with
      |nil=>simp[eh]
      |cons x xs=>simp[eh]at h;rw[List.drop_succ_cons,show o+(n+1)=o+1+n by omega];exact ih xs (o+1) h.2
    have htake:∀(n:Nat) (r:U Tree) (o:Nat),eh w I r b o->eh w I (r.take n) b o:=by
     intro n
     induction n with
     |zero=>intro r o h;simp[eh]
     |succ n ih=>intro r o h;cases r with
      |nil=>simp[eh]
      |cons x xs=>simp[eh]at h;simp;exact⟨h.1,ih xs (o+1) h.2⟩
    obtain⟨vs,g1,g3⟩:=eh.list (P:=P) (β:=β) _ _ _ (htake ti.size _ _ (hdrop aa r o hr));have⟨z,hz,hz2⟩:=Ih ht (b:=b) (o:=o+aa) hp g1 g3;exact⟨z,by simp[Instr.loadAt,Instr.sureAddr,hz],hz2,rfl⟩
theorem aei(r:U AV)(aa:Nat)(cs:U AV)(h:aa+cs.length<=r.length):(put' r aa cs).length=r.length:=by simp[put'];omega
theorem al3(r:U AV)(aa:Nat)(cs:U AV)(h:aa+cs.length<=r.length)(j:Nat):(put' r aa cs)[j]? =if j<aa then r[j]? else if j<aa+cs.length then cs[j-aa]? else r[j]? :=by
 unfold put'
 all_goals grind
theorem Qp(h:Mem P w0 O0 β I obj w){t:Θ}{ti:p5}(ht:my P t ti){k:Nat}{o:aR}{b sz:Nat}{n:Ex}(hk:obj k=some o)(hβ:β k=some (.at b sz n))
 {row aa:Nat} {r:U AV} {cs:U AV} {v:Ψ} (hr:o.rows[row]? =some r) (hl:aa+cs.length<=r.length) (hlen:cs.length=ti.size) (hcs:bp P β w I cs v.cells.toList) (h1:∀u∈v.cells.toList,oneCell u):
 ∃w',(storeVar t ⟨b,n.s+row*sz+aa,none⟩ v).run P w=.ok () w'/\Same I w w'/\Mem P w0 O0 β I (cu obj [(k,some ⟨o.sz,o.rows.set row (put' r aa cs)⟩)]) w':=by
 have⟨B,hB,hO⟩:=h.cD k o hk;rw[hβ]at hB;cases hB;obtain⟨hs,c,e,hc,hn,hO⟩:=hO;have hO':=hO;rw[pF]at hO;have hrow:=hO row r hr;have hvl:=bp.length _ _ hcs;have hfit:n.s+row*sz+aa+cs.length<=c.size:=by
  by_cases h0:r.length=0;have:aa+cs.length=0:=by omega
  have hz:sz=0:=by omega
  have:row*sz=0:=by rw[hz];simp
  have:=n.h;omega;have hlast:=(jZ _ _ _).1 hrow.2 (r.length-1) _ (dP (by omega));obtain⟨u,hu,_⟩:=hlast;have:=(Array.getElem?_eq_some_iff.1 hu).1;omega
 have hst:=run_storeCells_at P b (n.s+row*sz+aa) e v.cells.toList 0 c w hc (by omega) (λ u hu=>by have:=h1 u hu;cases u<;>first|rfl|exact this.elim);simp only[Nat.add_zero]at hst;generalize hc':(List.take (n.s+row*sz+aa) c.toList++v.cells.toList++List.drop (n.s+row*sz+aa+v.cells.toList.length) c.toList).toArray=c' at hst;have hsize:c'.size=c.size:=by rw[<- hc'];simp;simp at hvl;omega
 refine⟨w.setRow b c',?_,?_⟩;unfold storeVar;simp only[Sem.run_bind,ht.size (w:=w),Result.andThen_ok];rw[aT (by rw[<- Array.length_toList];omega)];simp[hst];have hget:∀j,c'[j]? =if j<n.s+row*sz+aa then c[j]? else if j<n.s+row*sz+aa+cs.length then v.cells.toList[j-(n.s+row*sz+aa)]? else c[j]? :=by
  intro j;rw[<- hc'];have h1:(c.toList.take (n.s+row*sz+aa)).length=n.s+row*sz+aa:=by simp;omega
  simp only[List.getElem?_toArray];split;rw[aV,List.getElem?_append_left (by omega),List.getElem?_take,aY (by omega)];simp;split;rw[aV,pX (by omega),h1,List.getElem?_append_left (by omega)];rw[pX (by simp only[dZ,h1];omega)];simp only[dZ,h1,List.getElem?_drop,Array.getElem?_toList];congr 1;omega
 refine Mem.write h hk hβ (c':=c') (e:=e) (setRow_heap w b c c' e (0,0) hc) (λ b' hb=>setRow_other w b b' c' hb) (by simp) rfl rfl rfl hs (by omega) ?_;rw[<- hs,pF];simp;intro i' r' hi';rw[List.getElem?_set]at hi';have other:∀(i':Nat)(r':U AV),i'≠row->o.rows[i']? =some r'->r'.length=sz/\cW P β w I r' c' (n.s+i'*sz):=by
  intro i' r' hne hi';have hh:=hO i' r' hi';refine⟨hh.1,?_⟩;rw[jZ];intro j x hx;obtain⟨u,hu⟩:=(jZ _ _ _).1 hh.2 j x hx;have hj:j<sz:=by have:=(dx.1 hx).1;omega
  refine⟨u,?_,hu.2⟩;rw[hget];rcases Nat.lt_or_gt_of_ne hne with hlt|hgt;have:(i'+1)*sz<=row*sz:=Nat.mul_le_mul_right _ hlt;rw[Nat.add_mul]at this;rw[aY (by omega)];exact hu.1;have:(row+1)*sz<=i'*sz:=Nat.mul_le_mul_right _ hgt;rw[Nat.add_mul]at this;rw[aT (by omega),aT (by omega)];exact hu.1
 split at hi';rename_i hrow';subst hrow';split at hi';injection hi' with hi';subst hi';refine⟨by rw[aei r aa cs hl];exact hrow.1,?_⟩;rw[jZ];intro j x hx;rw[al3 r aa cs hl]at hx;rw[hget];split at hx;rw[aY (by omega)];exact(jZ _ _ _).1 hrow.2 j x hx;split at hx;obtain⟨u,hu,hr2⟩:=bp.get _ _ _ _ hcs hx;rw[aT (by omega),aY (by omega)];refine⟨u,?_,hr2,h1 u (cZ hu)⟩;rw[<- hu];congr 1;omega;rw[aT (by omega),aT (by omega)];exact(jZ _ _ _).1 hrow.2 j x hx;cases hi';exact other i' r' (by omega) hi'
theorem ach(hT:fB P T)(h:Mem P w0 O0 β I obj w){t:Θ}{x y:AV}{cy:ka}{get:Ω}{out:Out}{v u:Ψ}(hg:∀k o,get k=some o->obj k=some o)
 (ha:V8 T t x y cy get=some out) (cN:out.ob) (hx:VR P β w I x v) (hy:VR P β w I y u):
 ∃w',(Instr.storeAt t v u).run P w=.ok () w'/\Same I w w'/\Mem P w0 O0 β I (cu obj out.upd) w'/\out.v=.undef:=by
 unfold V8 at ha;cases hti:T t with
 |none=>simp[hti]at ha
 |some ti=>
  have ht:=hT t ti hti;simp[hti]at ha;cases hcs:cellsOf y with
  |none=>simp[hcs]at ha
  |some cs=>
   simp only[hcs,ai]at ha;have⟨hv1,hv2⟩:=BJ hcs hy;split at ha;rename_i hlen;cases x<;>simp at ha
   case ptr k row aa=>
    cases hk:get k with
    |none=>simp[hk]at ha
    |some o=>
     simp[hk]at ha;simp[VR]at hx;obtain⟨b,sz,n,hβ,rfl⟩:=hx;have fin:∀r,o.rows[row]? =some r->aa+cs.length<=r.length->∃w',(Instr.storeAt t (.pointer (some ⟨b,n.s+row*sz+aa,none⟩)) u).run P w=.ok () w'/\Same I w w'/\Mem P w0 O0 β I (cu obj [(k,some ⟨o.sz,o.rows.set row (put' r aa cs)⟩)]) w':=(by intro r hr hl;have⟨w',h1,h2,h3⟩:=Qp h ht (hg k o hk) hβ hr hl hlen hv1 hv2;exact⟨w',by simp[Instr.storeAt,Instr.sureAddr,h1],h2,h3⟩);cases cy
     case set r rs=>
      simp only at ha;split at ha;rename_i hl;cases ha;obtain⟨hr,hrs⟩:=cN;have⟨w',h1,h2,h3⟩:=fin r hr hl;subst hrs;exact⟨w',h1,h2,h3.yz,rfl⟩;cases ha
     all_goals
      cases hr:o.rows[row]? with
      |none=>simp[hr]at ha
      |some r=>
       simp only[hr,ai]at ha;split at ha;rename_i hl;cases ha;have⟨w',h1,h2,h3⟩:=fin r hr hl;exact⟨w',h1,h2,h3,rfl⟩;cases ha
   cases ha
end
section
variable {P:Program} {T:en} {w0:World} {O0:iu} {β:Nat->Option cH} {I:Nat->Prop} {obj:Nat->Option aR} {w:World} {i:Nat}
theorem Na(h:Mem P w0 O0 β I obj w)(hn:β (cJ i)=none){e:Θ}{v:Ψ}{cs:U AV}(hcs:bp P β w I cs v.cells.toList)(h1:∀u∈v.cells.toList,oneCell u):
 ∃w' β',(newVar e v).run P w=.ok ⟨w.heap.size,0,none⟩ w'/\Step β I w (cJ i) β' I w'/\Mem P w0 O0 β' I (cu obj [(cJ i,some ⟨cs.length,[cs]⟩)]) w'/\VR P β' w' I (.ptr (cJ i) 0 0) (.pointer (some ⟨w.heap.size,0,none⟩)):=by obtain⟨hS,hM⟩:=Mem.alloc (o:=⟨cs.length,[cs]⟩) (c:=v.cells) (e:=e) h hn (by simp[cd];exact cW.pm cs _ _ 0 hcs h1 (λ j u hj=>by simpa using hj));refine⟨_,_,?_,hS,hM,?_⟩;simp only[newVar,newRow,Sem.run_bind,run_newObj,Result.andThen_ok,Sem.run_pure];rfl;simp;exact⟨w.heap.size,cs.length,_,by simp[ins];rfl,by simp⟩
theorem aci(hT:fB P T)(h:Mem P w0 O0 β I obj w)(hn:β (cJ i)=none){e:Θ}{out:Out}(ha:Wj T i e=some out):
 ∃u w' β',(Instr.alloc e true (.tuple #[])).run P w=.ok u w'/\Step β I w (cJ i) β' I w'/\Mem P w0 O0 β' I (cu obj out.upd) w'/\VR P β' w' I out.v u:=by
 unfold Wj at ha;cases hti:T e with
 |none=>simp[hti]at ha
 |some ti=>
  have ht:=hT e ti hti;simp[hti]at ha;subst ha;have⟨z,hz,hz2⟩:=ht.zeroV (w:=w);obtain⟨w',β',h1,h2,h3,h4⟩:=Na (i:=i) (e:=e) (v:=z) (cs:=ti.zero.map cv) h hn (by rw[hz2];exact bp.cv _) (λ u hu=>uj (all_eq_true.1 ht.one u (hz2 ▸ hu)));have hl:(ti.zero.map cv).length=ti.size:=by simp[ht.len]
  rw[hl]at h3;exact⟨_,w',β',by simp[Instr.alloc,hz,h1],h2,h3,h4⟩
theorem ahd(h:Mem P w0 O0 β I obj w)(hn:β (cJ i)=none){e:Θ}{x:AV}{v:Ψ}{out:Out}(ha:P1 i x=some out)(hx:VR P β w I x v):
 ∃u w' β',(Instr.box e v).run P w=.ok u w'/\Step β I w (cJ i) β' I w'/\Mem P w0 O0 β' I (cu obj out.upd) w'/\VR P β' w' I out.v u:=by
 unfold P1 at ha;cases hcs:cellsOf x with
 |none=>simp[hcs]at ha
 |some cs=>
  simp[hcs]at ha;subst ha;have⟨hv1,hv2⟩:=BJ hcs hx;have⟨w',β',h1,h2,h3,h4⟩:=Na (i:=i) (e:=e) h hn hv1 hv2;exact⟨_,w',β',by simp[Instr.box,h1],h2,h3,h4⟩
theorem aej(hT:fB P T){t:Θ}{f aa:Nat}{ui:p5}(hf:AO T t f=some (aa,ui)):
 ∃(fa:Array Field)(fd:Field),P.underlying t=some (.struct fa)/\fa[f]? =some fd/\fd.offset=aa/\my P fd.type ui/\ui.size≠0:=by
 unfold AO at hf;cases hti:T t with
 |none=>simp[hti]at hf
 |some ti=>
  have ht:=hT t ti hti;simp[hti]at hf;cases hk:ti.k<;>simp[hk]at hf
  case struct fs=>
   cases hj:fs[f]? with
   |none=>simp[hj]at hf
   |some p=>
    obtain⟨o,u⟩:=p;simp[hj]at hf;cases hu:T u with
    |none=>simp[hu]at hf
    |some ui'=>
     simp only[hu,ai]at hf;split at hf;cases hf;rename_i hne;obtain⟨rfl,rfl⟩:=hf;obtain⟨info,d,z,h1,h2,h3,h4,h5,h6,h7,h8⟩:=ht.ex;rw[hk]at h8;obtain⟨fa,rfl,hfs⟩:=h8;rw[<- hfs]at hj;simp at hj;obtain⟨fd,g1,g2,g3⟩:=hj;exact⟨fa,fd,h2,g1,g2,g3 ▸ hT u _ hu,hne⟩
theorem Qq(hT:fB P T){t:Θ}{x:AV}{f:Nat}{v:Ψ}{out:Out}(ha:zm T t x f=some out)(hx:VR P β w I x v):
 ∃u,(Instr.fieldAt t v f).run P w=.ok u w/\VR P β w I out.v u/\out.upd=[]:=by
 unfold zm at ha;cases hf:AO T t f with
 |none=>simp[hf]at ha
 |some p=>
  obtain⟨d,ui⟩:=p;simp[hf]at ha;have⟨fa,fd,h1,h2,h3,h4,h5⟩:=aej hT hf;have hrun:∀b o,(Instr.fieldAt t (.pointer (some ⟨b,o,none⟩)) f).run P w=.ok (.pointer (some ⟨b,o+d,none⟩)) w:=λb o=>by simp[Instr.fieldAt,run_underlying h1,h2,Instr.sureAddr,fieldPlace,h4.size (w:=w),h5,addr_add]
  cases x<;>simp at ha
  case ptr k row aa=>
   simp[pv]at ha;subst ha;simp only[VR]at hx ⊢;obtain⟨b,sz,n,g1,rfl⟩:=hx;exact⟨_,hrun _ _,⟨b,sz,n,g1,by rw[Nat.add_assoc]⟩,trivial⟩
  grind [pv,VR]
theorem aek{t:Θ}{ti:p5}(ht:my P t ti){cs:U AV}{vs:U Value}{d:Nat}{v:AV}(hp:part' ti.agg ti.size ((cs.drop d).take ti.size)=some v)(hr:bp P β w I cs vs):
 ∃u,(part t vs.toArray d).run P w=.ok u w/\VR P β w I v u:=by
 obtain⟨h1,h2,h3,h4⟩:=LM hp (bp.take ti.size _ _ (bp.drop d _ _ hr));simp only[Go.part,Sem.run_bind,ht.agg (w:=w),Result.andThen_ok];cases hag:ti.agg with
 |true=>
  refine⟨.agg ((vs.drop d).take ti.size).toArray,?_,h3 hag⟩;simp only[if_true,Sem.run_bind,ht.size (w:=w),Result.andThen_ok,Sem.run_pure];congr 2;apply Array.ext';simp
 |false=>
  have⟨u,hu,hv⟩:=h4 hag;refine⟨u,?_,hv⟩;have:vs[d]? =some u:=by have h5:((vs.drop d).take ti.size)[0]? =some u:=(by rw[hu];rfl);rw[List.getElem?_take]at h5;split at h5;simpa using h5;cases h5
  simp[this]
theorem acj(hT:fB P T){t:Θ}{x:AV}{f:Nat}{v:Ψ}{out:Out}(ha:V9 T t x f=some out)(hx:VR P β w I x v):
 ∃u,(Instr.field t v f).run P w=.ok u w/\VR P β w I out.v u/\out.upd=[]:=by
 unfold V9 at ha;cases hf:AO T t f with
 |none=>simp[hf]at ha
 |some p=>
  obtain⟨d,ui⟩:=p;simp[hf]at ha;have⟨fa,fd,h1,h2,h3,h4,h5⟩:=aej hT hf;cases x<;>simp at ha
  case agg cs=>
   cases hp:part' ui.agg ui.size ((cs.drop d).take ui.size)with
   |none=>simp[hp]at ha
   |some y=>
    simp[hp,pv]at ha;subst ha;obtain⟨vs,rfl,hvs⟩:=hx;have⟨u,hu,hv⟩:=aek h4 hp hvs;refine⟨u,?_,hv,rfl⟩;simp[Instr.field,run_underlying h1,h2,h3,asAgg];simpa using hu
theorem cC.get{b sz:Nat}:∀(n:Nat)(rows:U (List Tree))(aa:Nat)(r:U Tree),cC w I rows b aa sz->rows[n]? =some r->r.length=sz/\eh w I r b (aa+n*sz)
 | 0,r::rs,aa,r',h,hn=>by simp[cC]at h;simp at hn;subst hn;exact⟨h.1,by simpa using h.2.1⟩
 |n+1,r::rs,aa,r',h,hn=>by have:=cC.get n rs (aa+sz) r' h.2.2 (by simpa using hn);rw[show aa+(n+1)*sz=aa+sz+n*sz by rw[Nat.add_mul];omega];exact this
 |_,[],_,_,_,hn=>by simp at hn
theorem iU{t e:Θ}{ti:p5}(ht:my P t ti)(hk:ti.k=.slice e):P.underlying t=some (.slice e):=by obtain⟨info,d,z,h1,h2,h3,h4,h5,h6,h7,h8⟩:=ht.ex;rw[hk]at h8;rw[h2,h8]
theorem Wo{t e:Θ}{n:Nat}{ti:p5}(ht:my P t ti)(hk:ti.k=.arr n e):P.underlying t=some (.array n e):=by obtain⟨info,d,z,h1,h2,h3,h4,h5,h6,h7,h8⟩:=ht.ex;rw[hk]at h8;rw[h2,h8]
theorem Qr(hT:fB P T)(h:Mem P w0 O0 β I obj w){t:Θ}{x j:AV}{cy:ka}{get:Ω}{v u:Ψ}{out:Out}(hg:∀k o,get k=some o->obj k=some o)
 (ha:mV T t x j cy get=some out) (cN:out.ob) (hx:VR P β w I x v) (hj:VR P β w I j u):
 ∃z,(Instr.indexAt t v u).run P w=.ok z w/\VR P β w I out.v z/\out.upd=[]:=by
 unfold mV at ha;cases hti:T t with
 |none=>simp[hti]at ha
 |some ti=>
  have ht:=hT t ti hti;simp[hti]at ha;split at ha;rename_i e kd n hk;simp[VR]at hj;obtain⟨rfl,_⟩:=hj;have eS:=iU ht hk;cases ii:T e with
  |none=>simp[ii]at ha
  |some ei=>
   have he:=hT e ei ii;simp[ii]at ha;have hrun:∀(b o len cap:Nat),0<=n->n.toNat<len->(Instr.indexAt t (.slice (some ⟨b,o,none⟩) len cap) (.int kd n)).run P w=.ok (.pointer (some ⟨b,o+n.toNat*ei.size,none⟩)) w:=(by intro b o len cap h0 h1;have h2:n<(len:Int):=(by omega);simp[Instr.indexAt,asIntOf,run_underlying eS,h0,h2,he.size (w:=w),addr_add]);split at ha;rename_i rows r;split at ha;rename_i hlen;simp[nr,bV]at ha;subst ha;obtain⟨h0,hr⟩:=cN;simp only[VR,TR]at hx;rcases hx with ⟨rfl,_⟩|⟨b,aa,cap,sz,rfl,h1,h2,h3⟩;simp at hr;have hlt:=(dx.1 hr).1;obtain⟨g1,g2⟩:=cC.get _ _ _ _ h3 hr;refine⟨_,hrun _ _ _ _ h0 hlt,?_,rfl⟩;simp only[VR];exact⟨b,aa+n.toNat*sz,by rw[<- g1,hlen];rfl,h2,g2⟩;cases ha;rename_i k aa len;cases hk2:get k with
   |none=>simp[hk2]at ha
   |some o=>
    simp only[hk2,ai]at ha;split at ha;rename_i hsz;simp[nr,bV]at ha;subst ha;obtain⟨h0,hlt⟩:=cN;simp only[VR]at hx ⊢;rcases hx with ⟨_,_,_,rfl⟩|⟨b,sz,m,cap,a,h1,rfl,h2,h3,h4⟩;omega;have⟨B,hB,hO⟩:=h.cD k o (hg k o hk2);rw[h1]at hB;cases hB;have hs:sz=o.sz:=hO.1;refine⟨_,hrun _ _ _ _ h0 hlt,⟨b,sz,m,h1,?_⟩,trivial⟩;rw[h4 (by omega),hs,hsz,Nat.add_mul,Nat.add_assoc];rfl;cases ha
   cases ha
  rename_i m e kd n hk;simp[VR,TR]at hj;obtain⟨rfl,_⟩:=hj;have eS:=Wo ht hk;cases ii:T e with
  |none=>simp[ii]at ha
  |some ei=>
   have he:=hT e ei ii;simp[ii,ai]at ha;have hrun:∀(b o:Nat),0<=n->n.toNat<m->(Instr.indexAt t (.pointer (some ⟨b,o,none⟩)) (.int kd n)).run P w=.ok (.pointer (some ⟨b,o+n.toNat*ei.size,none⟩)) w:=(by intro b o h0 h1;have h2:n<(m:Int):=(by omega);simp[Instr.indexAt,asIntOf,run_underlying eS,Instr.sureAddr,h0,h2,he.size (w:=w),addr_add]);cases x<;>simp[reduceCtorEq]at ha
   case ptr k row aa=>
    simp[nr,bV]at ha;subst ha;simp only[VR]at hx ⊢;obtain⟨b,sz,q,g1,rfl⟩:=hx;exact⟨_,hrun _ _ cN.1 cN.2,⟨b,sz,q,g1,by rw[Nat.add_assoc]⟩,trivial⟩
   case eE r aa=>
    simp[nr,bV]at ha;subst ha;simp only[VR]at hx ⊢;obtain⟨b,o,rfl,g1,g2⟩:=hx;exact⟨_,hrun _ _ cN.1 cN.2,⟨b,o,by rw[Nat.add_assoc],g1,g2⟩,trivial⟩
  cases ha
theorem Wp{x:AV}{j:Nat}{v:Ψ}{out:Out}(ha:Ig x j=some out)(hx:VR P β w I x v):∃u,(Instr.extract v j).run P w=.ok u w/\VR P β w I out.v u/\out.upd=[]:=by
 unfold Ig at ha;split at ha;rename_i vs;obtain⟨us,rfl,Bs⟩:=hx;cases hj:vs[j]? with
 |none=>simp[hj]at ha
 |some y=>
  simp[hj,pv]at ha;subst ha;obtain⟨u,hu,hv⟩:=bp.get _ _ j y Bs hj;refine⟨u,?_,hv,rfl⟩;have:us[j]? =some u:=by simpa using hu
  simp[Instr.extract,this]
 cases ha
end
section
variable {P:Program} {T:en} {w0:World} {O0:iu} {β:Nat->Option cH} {I:Nat->Prop} {obj:Nat->Option aR} {w:World} {i:Nat}
theorem ack{op:BinOp}{t:Θ}{k yk:IntKind}{a b:Int}{v:Ψ}{ob:U Prop}(hk:k=yk\/op=.shl\/op=.shr)(h:V7 op k a b=some (v,ob))(cN:lg ob):
 (binOp op t (.int k a) (.int yk b)).run P w=.ok v w/\oneCell v:=by
 cases op<;>simp[V7]at h<;>obtain⟨rfl,rfl⟩:=h
 case shl=>exact⟨by rw[binOp_shl,shift_shl k yk a b cN.1 cN.2];simp,trivial⟩
 case shr=>exact⟨by rw[binOp_shr,shift_shr k yk a b cN.1 cN.2];simp,trivial⟩
 all_goals
  have hk':k=yk:=by rcases hk with h|h|h<;>first|exact h|cases h
  subst hk'
 case add=>exact⟨by simp[binOp_add,Op.intArith],trivial⟩
 case sub=>exact⟨by simp[binOp_sub,Op.intArith],trivial⟩
 case mul=>exact⟨by simp[binOp_mul,Op.intArith],trivial⟩
 case quo=>exact⟨by have h0:b≠0:=cN;rw[binOp_quo];simp[Op.intDiv,h0],trivial⟩
 case rem=>exact⟨by have h0:b≠0:=cN;rw[binOp_rem];simp[Op.intDiv,h0],trivial⟩
 case and=>exact⟨by rw[binOp_and,intBits_and];simp,trivial⟩
 case or=>exact⟨by rw[binOp_or,intBits_or];simp,trivial⟩
 case xor=>exact⟨by rw[binOp_xor,intBits_xor];simp,trivial⟩
 case andNot=>exact⟨by rw[binOp_andNot,intBits_andNot];simp,trivial⟩
 case eql=>exact⟨by rw[binOp_eql];simp,trivial⟩
 case neq=>exact⟨by rw[binOp_neq];simp,trivial⟩
 case lss=>exact⟨by rw[binOp_lss];simp,trivial⟩
 case leq=>exact⟨by rw[binOp_leq];simp,trivial⟩
 case gtr=>exact⟨by rw[binOp_gtr];simp,trivial⟩
 case geq=>exact⟨by rw[binOp_geq];simp,trivial⟩
theorem acn{f:Field}{kd:Nat}{x y:AV}{b:Bool}{u v:Ψ}(hf:V6 P f kd=true)(h:Ie kd x y=some b)(hx:VR P β w I x u)(hy:VR P β w I y v)(d:Nat):
 (Op.equalIn (d + 1) f.type u v).run P w = .ok b w /\ f.name ≠ "_" /\ (isAgg f.type).run P w = .ok false w := by
 unfold V6 at hf;simp at hf;obtain⟨hname,hf⟩:=hf;unfold Ie at h;split at h;split at h;rename_i hk;subst hk;cases h;obtain⟨rfl,_⟩:=hx;obtain⟨rfl,_⟩:=hy;split at hf<;>first|(rename_i hu;exact⟨run_equalIn_int w d _ _ _ _ _ hu,hname,by simp[isAgg,run_underlying hu]⟩)|(simp at hf)
 cases h;cases h;simp[VR]at hx hy;obtain⟨rfl,_⟩:=hx;obtain⟨rfl,_⟩:=hy;split at hf<;>first|(rename_i hu;exact⟨run_equalIn_bool w d _ _ _ hu,hname,by simp[isAgg,run_underlying hu]⟩)|(simp at hf)
 cases h;simp[VR]at hx hy;obtain⟨rfl,_⟩:=hx;obtain⟨rfl,_⟩:=hy;split at hf<;>first|(rename_i hu;exact⟨run_equalIn_string w d _ _ _ hu,hname,by simp[isAgg,run_underlying hu]⟩)|(simp at hf)
 cases h
theorem K9:∀(s:Nat){ks:U Nat}{xs ys:U AV}{b:Bool},jC ks xs ys=some b->∃b1 b2,jC (ks.take s) (xs.take s) (ys.take s)=some b1/\jC (ks.drop s) (xs.drop s) (ys.drop s)=some b2/\b=(b1&&b2)
 | 0,ks,xs,ys,b,h=>⟨true,b,by simp[jC],by simpa using h,by simp⟩
 |s+1,[],xs,ys,b,h=>by cases xs<;>cases ys<;>simp[jC]at h;subst h;exact⟨true,true,by simp[jC],by simp[jC],rfl⟩
 |s+1,k::ks,xs,ys,b,h=>by
  cases xs<;>cases ys<;>simp[jC]at h;rename_i x xs y ys;cases h1:Ie k x y with
  |none=>simp[h1]at h
  |some a=>
   cases h2:jC ks xs ys with
   |none=>simp[h2]at h
   |some c=>
    simp[h1,h2]at h;have⟨b1,b2,e1,e2,e3⟩:=K9 s h2;exact⟨a&&b1,b2,by simp[jC,h1,e1],by simpa using e2,by rw[<- h,e3,Bool.and_assoc]⟩
theorem wF:∀(m d:Nat)(fs:U Field)(ks:U Nat)(n:Nat)(us vs:U Value)(xs ys:U AV)(b:Bool),m<=d->fx P m n fs ks=true->jC ks xs ys=some b->
 bp P β w I xs (us.drop n)->bp P β w I ys (vs.drop n)->(Op.eqFields (d+1) us.toArray vs.toArray fs).run P w=.ok b w
 |_,_,[],[],n,us,vs,xs,ys,b,_,_,h,_,_=>by cases xs<;>cases ys<;>simp[jC]at h;subst h;simp[Op.eqFields]
 |m+1,d,f::fs,k::ks,n,us,vs,xs,ys,b,hd,hc,h,hx,hy=>by
  unfold fx at hc;rw[aX,Bool.or_eq_true]at hc;obtain⟨hoff,hc⟩:=hc;have hoff:f.offset=n:=by simpa using hoff
  rcases hc with hc|hc;cases xs<;>cases ys<;>simp[jC]at h;rename_i x xs y ys;rw[aX]at hc;obtain⟨hcf,hrest⟩:=hc;cases h1:Ie k x y with
  |none=>simp[h1]at h
  |some a=>
   cases h2:jC ks xs ys with
   |none=>simp[h2]at h
   |some c=>
    simp[h1,h2]at h;subst h;have A6:∀(us:U Value)(xs:U AV)(x:AV),bp P β w I (x::xs) (us.drop n)->∃u,us[n]? =some u/\VR P β w I x u/\bp P β w I xs (us.drop (n+1)):=(by intro us xs x hx;have hlt:n<us.length:=(by have:=bp.length _ _ hx;simp at this;omega);rw[List.drop_eq_getElem_cons hlt]at hx;simp[bp]at hx;exact⟨us[n],dP hlt,hx.1,hx.2⟩);obtain⟨u,hu,hxu,hxs⟩:=A6 us xs x hx;obtain⟨v,hv,hyv,hys⟩:=A6 vs ys y hy;have⟨e1,e2,e3⟩:=acn hcf h1 hxu hyv d;have ih:=wF m d fs ks (n+1) us vs xs ys c (by omega) hrest h2 hxs hys;have hp:∀(zs:U Value)(z:Value),zs[n]? =some z->(Go.part f.type zs.toArray f.offset).run P w=.ok z w:=(by intro zs z hz;simp[Go.part,e3,hoff,hz]);simp[Op.eqFields,e2,hp us u hu,hp vs v hv,e1,ih];cases a<;>simp
  split at hc;rename_i fa info hu hi;simp only[aX]at hc;obtain⟨⟨⟨hnm,hst⟩,hin⟩,hrest⟩:=hc;obtain⟨b1,b2,e1,e2,rfl⟩:=K9 info.size h;obtain⟨d,rfl⟩:∃d',d=d'+1:=⟨d-1,by omega⟩;have hsz:(Go.sizeOf f.type).run P w=.ok info.size w:=by simp[Go.sizeOf,typeInfo,hi]
  have hp:∀zs:U Value,(Go.part f.type zs.toArray f.offset).run P w=.ok (.agg ((zs.drop n).take info.size).toArray) w:=by intro zs;simp only[Go.part,Sem.run_bind,isAgg,run_underlying hu,Result.andThen_ok,Sem.run_pure,if_true,hsz,hoff];congr 2;apply Array.ext';simp
  have hfo:P.fieldsOf f.type=fa:=by simp[Program.fieldsOf,hu]
  have i1:=wF m d fa.toList _ 0 ((us.drop n).take info.size) ((vs.drop n).take info.size) _ _ b1 (by omega) hin e1 (bp.take info.size _ _ hx) (bp.take info.size _ _ hy);have hq:(Op.equalIn (d+1+1) f.type (.agg ((us.drop n).take info.size).toArray) (.agg ((vs.drop n).take info.size).toArray)).run P w=.ok b1 w:=by rw[run_equalIn_struct w (d+1) f.type _ _ (by rw[hfo];exact hu) (by simpa using hst),hfo];exact i1
  have dr:∀{xs:U AV}{us:U Value},bp P β w I xs (us.drop n)->bp P β w I (xs.drop info.size) (us.drop (n+info.size)):=by
   intro xs us hx;have:=bp.drop info.size _ _ hx
   rwa [List.drop_drop]at this
  have i2:=wF m (d+1) fs _ (n+info.size) us vs _ _ b2 (by omega) hrest e2 (dr hx) (dr hy);have hnm : f.name ≠ "_" := by simpa using hnm
  simp[Op.eqFields,hnm,hp,hq,i2];cases b1<;>simp;cases hc
 | 0,_,_::_,_::_,_,_,_,_,_,_,_,hc,_,_,_|_,_,[],_::_,_,_,_,_,_,_,_,hc,_,_,_|_,_,_::_,[],_,_,_,_,_,_,_,hc,_,_,_=>by simp[fx]at hc
theorem ahe(hT:fB P T){op:BinOp}{t:Θ}{x y:AV}{xo yo:Operand}{u v:Ψ}{out:Out}(ha:ZN T op t x y=some out)(cN:out.ob)(hx:VR P β w I x u)(hy:VR P β w I y v):
 ∃z,(do eqGuard op t xo yo u v;binOp op t u v:Sem Value).run P w=.ok z w/\VR P β w I out.v z/\out.upd=[]:=by
 unfold ZN at ha;split at ha;rename_i k a yk b;simp[VR]at hx hy;obtain⟨rfl,_⟩:=hx;obtain⟨rfl,_⟩:=hy;split at ha;rename_i hk;cases har:V7 op k a b with
 |none=>simp[har]at ha
 |some p=>
  obtain⟨z,ob⟩:=p;simp[har]at ha;subst ha;have⟨h1,h2⟩:=ack (P:=P) (w:=w) (t:=t) hk har cN;exact⟨z,by simp[eqGuard_at_int,h1],by simp only[VR,TR];exact⟨trivial,h2⟩,rfl⟩
 cases ha;rename_i a b;simp[VR]at hx hy;obtain⟨rfl,_⟩:=hx;obtain⟨rfl,_⟩:=hy;cases op<;>simp only[pv,nr,bV,reduceCtorEq]at ha<;>subst ha;have hs:¬((a.size+b.size:Nat):Int)>i64.max:=by
  have:a.size+b.size<=maxLen:=cN;have h2:i64.max=9223372036854775807:=by decide
  unfold maxLen at this;omega
 exact⟨.string (a++b),by simp only[eqGuard_at_string,binOp,Op.stringOp,aT hs];simp,by simp only[VR,TR];exact⟨trivial,trivial⟩,rfl⟩;exact⟨.bool (a.toList==b.toList),by simp[eqGuard_at_string,binOp,Op.stringOp],by simp only[VR,TR];exact⟨trivial,trivial⟩,rfl⟩;exact⟨.bool (!(a.toList==b.toList)),by simp[eqGuard_at_string,binOp,Op.stringOp],by simp only[VR,TR];exact⟨trivial,trivial⟩,rfl⟩;exact⟨.bool (Op.bytesLess a.toList b.toList),by simp[eqGuard_at_string,binOp,Op.stringOp],by simp only[VR,TR];exact⟨trivial,trivial⟩,rfl⟩;exact⟨.bool (!(Op.bytesLess a.toList b.toList || a.toList==b.toList)),by simp[eqGuard_at_string,binOp,Op.stringOp],by simp only[VR,TR];exact⟨trivial,trivial⟩,rfl⟩;rename_i a b;simp[VR]at hx hy;obtain⟨rfl,_⟩:=hx;obtain⟨rfl,_⟩:=hy;cases hti:T t with
 |none=>simp[hti]at ha
 |some ti=>
  have ht:=hT t ti hti;simp[hti]at ha;have eS:ti.k=.bool->P.underlying t=some .bool:=λhk=>by obtain⟨info,d,z,h1,h2,h3,h4,h5,h6,h7,h8⟩:=ht.ex;rw[hk]at h8;rw[h2,h8]
  split at ha;rename_i hk;simp[pv]at ha;subst ha;exact⟨.bool (a==b),by simp[eqGuard_at_bool,binOp,run_equal_bool w t a b (eS hk)],by simp only[VR,TR];exact⟨trivial,trivial⟩,rfl⟩;rename_i hk;simp[pv]at ha;subst ha;exact⟨.bool (!(a==b)),by simp[eqGuard_at_bool,binOp,run_equal_bool w t a b (eS hk)],by simp only[VR,TR];exact⟨trivial,trivial⟩,rfl⟩;cases ha
 rename_i xs ys;simp[VR]at hx hy;obtain⟨us,rfl,Bs⟩:=hx;obtain⟨vs,rfl,hvs⟩:=hy;cases hti:T t with
 |none=>simp[hti]at ha
 |some ti=>
  have ht:=hT t ti hti;simp only[hti,ai]at ha;split at ha;cases ha;rename_i hne;rcases ht.cmp hne with ⟨fa,h1,h2,h3,h4⟩|⟨h9,_⟩
  rotate_left
  rw[h9,al1]at ha;simp at ha;cases hc:jC ti.cmp xs ys with
  |none=>simp[hc]at ha
  |some b=>
   simp[hc]at ha;have hfo:P.fieldsOf t=fa:=(by simp[Program.fieldsOf,h1]);have heq:(Op.equalIn 10000 t (.agg us) (.agg vs)).run P w=.ok b w:=(by rw[run_equalIn_struct w 9999 t us vs (by rw[hfo];exact h1) h2,hfo];have:=wF (P:=P) (w:=w) 99 9998 fa.toList ti.cmp 0 us.toList vs.toList xs ys b (by omega) h4 hc (by simpa using Bs) (by simpa using hvs);simpa using this);have hgd:∀op,(eqGuard op t xo yo (.agg us) (.agg vs)).run P w=.ok () w:=λop=>run_eqGuard_agg w op t xo yo us vs h3;cases op<;>simp[pv]at ha<;>subst ha;exact⟨.bool b,by simp[hgd,run_eql_struct,heq],by simp only[VR,TR];exact⟨trivial,trivial⟩,rfl⟩;exact⟨.bool (!b),by simp[hgd,run_neq_struct,heq],by simp only[VR,TR];exact⟨trivial,trivial⟩,rfl⟩
 cases ha
theorem ako{op:UnOp}{x:AV}{v:Ψ}{out:Out}(ha:W7 op x=some out)(hx:VR P β w I x v):∃z,(Op.unary op v).run P w=.ok z w/\VR P β w I out.v z/\out.upd=[]:=by unfold W7 at ha;split at ha;simp[pv]at ha;subst ha;obtain⟨rfl,_⟩:=hx;exact⟨_,by simp[Op.unary];rfl,by simp only[VR,TR];exact⟨trivial,trivial⟩,rfl⟩;simp only[pv,bV]at ha;subst ha;obtain⟨rfl,_⟩:=hx;exact⟨_,by simp only[Op.unary,Op.intArith];rfl,by simp only[VR,TR];exact⟨trivial,trivial⟩,rfl⟩;cases ha
theorem Nb(mx:Bool)(k:IntKind):∀(r:U AV)(vs:U Value)(a n:Int),Eu mx k a r=some n->bp P β w I r vs->
 (vs.foldlM (if mx then Builtin.max2 else Builtin.min2) (.int k a)).run P w=.ok (.int k n) w
 |[],[],a,n,h,_=>by simp[Eu]at h;subst h;simp
 |x::r,v::vs,a,n,h,hv=>by
  simp[bp]at hv;have hx:∃k' b,x=.t (.sc (.int k' b)):=by unfold Eu at h;split at h;cases ‹_::_=_›;rename_i heq;injection heq with h1 h2;exact⟨_,_,h1⟩;cases h
  obtain⟨k',b,rfl⟩:=hx;simp only[Eu]at h;split at h;rename_i hk;subst hk;obtain⟨⟨rfl,_⟩,hv⟩:=hv;have ih:=Nb mx k' r vs _ n h hv;cases mx;simp at ih ⊢;simp[Builtin.min2];rw[show (if b<a then b else a)=min a b by rw[Int.min_def];split<;>split<;>omega];exact ih;simp at ih ⊢;simp[Builtin.max2];rw[show (if b>a then b else a)=max a b by rw[Int.max_def];split<;>split<;>omega];exact ih;cases h
 |[],_::_,_,_,_,hv|_::_,[],_,_,_,hv=>by simp[bp]at hv
theorem aaS{mx:Bool}{args:U AV}{vs:η}{de:Array TypeId}{ty:Θ}{out:Out}(ha:IM mx args=some out)(hx:bp P β w I args vs.toList):
 ∃z,((if mx then Builtin.max_ else Builtin.min_) de ty vs).run P w=.ok z w/\VR P β w I out.v z/\out.upd=[]:=by
 unfold IM at ha;split at ha;rename_i k a r;cases hf:Eu mx k a r with
 |none=>simp[hf]at ha
 |some n=>
  simp[hf,pv]at ha;subst ha;cases hvs:vs.toList with
  |nil=>rw[hvs]at hx;simp[bp]at hx
  |cons v vs'=>
   rw[hvs]at hx;obtain⟨⟨rfl,_⟩,hr⟩:=hx;have:=Nb (P:=P) mx k r vs' a n hf hr;refine⟨.int k n,?_,by simp only[VR,TR];exact⟨trivial,trivial⟩,rfl⟩;cases mx;simpa[Builtin.min_,hvs]using this;simpa[Builtin.max_,hvs]using this
 cases ha
end
section
variable {P:Program} {T:en} {w0:World} {O0:iu} {β:Nat->Option cH} {I:Nat->Prop} {obj:Nat->Option aR} {w:World} {i:Nat}
theorem ahf(hT:fB P T){t ty:Θ}{x:AV}{cy:ka}{v:Ψ}{out:Out}(ha:CL T t x cy=some out)(cN:out.ob)(hx:VR P β w I x v):
 ∃z,(Builtin.len_ #[t] ty #[v]).run P w=.ok z w/\VR P β w I out.v z/\out.upd=[]:=by
 unfold CL at ha;cases hti:T t with
 |none=>simp[hti]at ha
 |some ti=>
  have ht:=hT t ti hti;simp[hti]at ha;have hsl:∀e b n c,ti.k=.slice e->(Builtin.len_ #[t] ty #[.slice b n c]).run P w=.ok (goInt n) w:=λe b n c hk=>by simp[Builtin.len_,run_underlying (iU ht hk)]
  split at ha;rename_i e rows n hk;simp[nr]at ha;subst ha;have cN:n=_:=cN;subst cN;simp only[VR,TR]at hx;rcases hx with ⟨rfl,_,_,rfl,_⟩|⟨b,aa,cap,sz,rfl,_⟩;exact⟨_,hsl _ _ _ _ hk,by simp only[VR,TR,goInt];exact⟨by simp,trivial⟩,rfl⟩;exact⟨_,hsl _ _ _ _ hk,by simp only[VR,TR,goInt];exact⟨trivial,trivial⟩,rfl⟩;rename_i e k aa len n hk;simp[nr]at ha;subst ha;have cN:n=_:=cN;subst cN;simp[VR]at hx;rcases hx with ⟨_,rfl,_,rfl⟩|⟨b,sz,m,cap,a,_,rfl,_⟩;exact⟨_,hsl _ _ _ _ hk,by simp only[VR,TR,goInt];exact⟨trivial,trivial⟩,rfl⟩;exact⟨_,hsl _ _ _ _ hk,by simp only[VR,TR,goInt];exact⟨trivial,trivial⟩,rfl⟩;rename_i e k aa len hk _;simp[pv]at ha;subst ha;simp[VR]at hx;rcases hx with ⟨_,rfl,_,rfl⟩|⟨b,sz,m,cap,a,_,rfl,_⟩;exact⟨_,hsl _ _ _ _ hk,by simp only[VR,TR,goInt];exact⟨trivial,trivial⟩,rfl⟩;exact⟨_,hsl _ _ _ _ hk,by simp only[VR,TR,goInt];exact⟨trivial,trivial⟩,rfl⟩;rename_i e k len hk;simp[pv]at ha;subst ha;simp[VR]at hx;rcases hx with ⟨rfl,rfl⟩|⟨_,b,sz,m,cap,a,_,rfl,_⟩;exact⟨_,hsl _ _ _ _ hk,by simp only[VR,TR,goInt];exact⟨trivial,trivial⟩,rfl⟩;exact⟨_,hsl _ _ _ _ hk,by simp only[VR,TR,goInt];exact⟨trivial,trivial⟩,rfl⟩;rename_i e hk;simp[pv]at ha;subst ha;simp[VR]at hx;subst hx;exact⟨_,hsl _ _ _ _ hk,by simp only[VR,TR,goInt];exact⟨by simp,trivial⟩,rfl⟩;rename_i s hk;simp[pv]at ha;subst ha;simp[VR]at hx;obtain⟨rfl,_⟩:=hx;have eS:P.underlying t=some .string:=by obtain⟨info,d,z,h1,h2,h3,h4,h5,h6,h7,h8⟩:=ht.ex;rw[hk]at h8;rw[h2,h8]
  exact⟨_,by simp[Builtin.len_,run_underlying eS];rfl,by simp only[VR,TR,goInt];exact⟨trivial,trivial⟩,rfl⟩;cases ha
theorem aaT(vs:U Value)(aa:Nat):∀(ps:U Value)(n:Nat)(cs:Array Value),aa+n+ps.length<=cs.size->
 (ps.zipIdx n).foldl (λ cs (c,j)=>cs.setIfInBounds (aa+j) c) cs=((cs.toList.take (aa+n))++ps++cs.toList.drop (aa+n+ps.length)).toArray
 |[],n,cs,_=>by simp
 |p::ps,n,cs,h=>by
  simp at h;rw[List.zipIdx_cons,List.foldl_cons,aaT vs aa ps (n+1) _ (by simp;omega)];congr 1;rw[Array.toList_setIfInBounds];have h1:aa+n<cs.toList.length:=by simp;omega
  rw[show aa+(n+1)=aa+n+1 by omega,iF (by simpa using h1),List.take_set,List.set_eq_of_length_le (by simp;omega)];simp only[List.getElem_set_self,aV,gB,List.cons_append,fw];congr 3;rw[List.drop_set_of_lt (by omega)];congr 1;omega
theorem an6{cells cs:U AV}{us vs:U Value}{aa:Nat}(h1:bp P β w I cells us)(h2:bp P β w I cs vs):bp P β w I (put' cells aa cs) (us.take aa++vs++us.drop (aa+vs.length)):=by rw[bp.length _ _ h2];exact bp.append _ _ _ _ (bp.append _ _ _ _ (bp.take _ _ _ h1) h2) (bp.drop _ _ _ h1)
theorem AQ{place px:Nat->J (Nat×Nat)}(hpl:∀j p,place j=some p->px j=some p):∀(parts:U (Nat×AV))(vs:U (Nat×Value))(cells:U AV)(us:Array Value)(out:U AV),
 F9 place cells parts=some out->bp P β w I cells us.toList->parts.map (·.1)=vs.map (·.1)->bp P β w I (parts.map (·.2)) (vs.map (·.2))->
 ∃zs,Instr.fill px us vs=some zs/\bp P β w I out zs.toList
 |[],[],cells,us,out,h,hc,_,_=>by simp[F9]at h;subst h;exact⟨us,rfl,hc⟩
 |(j,x)::ae,(j',v)::vs,cells,us,out,h,hc,hk,hv=>by
  simp at hk;obtain⟨rfl,hk⟩:=hk;simp at hv;simp[F9]at h;cases hp:place j with
  |none=>simp[hp]at h
  |some p=>
   obtain⟨aa,size⟩:=p;simp[hp]at h;cases hcs:cellsOf x with
   |none=>simp[hcs]at h
   |some cs=>
    simp only[hcs,ai]at h;split at h;have⟨g1,g2⟩:=BJ hcs hv.1;have hlen:=bp.length _ _ g1;have hlc:=bp.length _ _ hc;simp at hlen hlc;have hnew:=an6 (aa:=aa) hc g1;have:=AQ hpl ae vs _ (us.toList.take aa++v.cells.toList++us.toList.drop (aa+v.cells.toList.length)).toArray out h (by simpa using hnew) hk hv.2;obtain⟨zs,hz,hz2⟩:=this;refine⟨zs,?_,hz2⟩;simp only[Instr.fill,hpl j _ hp];have hno:¬(v.cells.size≠size\/aa+v.cells.size>us.size):=(by omega);rw[aT (by simp only[Bool.or_eq_true,bq];exact hno)];have BT:=aaT [] aa v.cells.toList 0 us (by simp;omega);simp only[Nat.add_zero]at BT;rw[<- hz,<- BT];congr 1;rw[<- Array.foldl_toList,Array.toList_zipIdx];cases h
 |[],_::_,_,_,_,_,_,hk,_|_::_,[],_,_,_,_,_,hk,_=>by simp at hk
theorem Ga(hT:fB P T):∀(fs:U Field),(∀ f∈fs,(T f.type).isSome=true)->
 ∃ps:U (Nat×Nat),(fs.mapM (λ f=>do pure (f.offset,<- sizeOf f.type):Field->Sem (Nat×Nat))).run P w=.ok ps w/\ps.map some=fs.map λf=>(T f.type).bind λui=>some (f.offset,ui.size)
 |[],_=>⟨[],by simp,rfl⟩
 |f::fs,h=>by obtain⟨ui,yi⟩:=Option.isSome_iff_exists.1 (h f (by simp));obtain⟨ps,h1,h2⟩:=Ga hT fs (λ g hg=>h g (by simp[hg]));refine⟨(f.offset,ui.size)::ps,?_,by simp[yi,h2]⟩;simp only[List.mapM_cons,Sem.run_bind,(hT _ _ yi).size (w:=w),Result.andThen_ok,Sem.run_pure,h1]
theorem aco(hT:fB P T){t:Θ}{parts:U (Nat×AV)}{vs:Array (Nat×Value)}{out:Out}(ha:Wi T t parts=some out)
 (hk:parts.map (·.1)=vs.toList.map (·.1)) (hv:bp P β w I (parts.map (·.2)) (vs.toList.map (·.2))):∃z,(Instr.build t vs).run P w=.ok z w/\VR P β w I out.v z/\out.upd=[]:=by
 unfold Wi at ha;cases hti:T t with
 |none=>simp[hti]at ha
 |some ti=>
  have ht:=hT t ti hti;simp[hti]at ha;have⟨z,hz,hz2⟩:=ht.zeroV (w:=w);split at ha;rename_i fs hkd;split at ha;rename_i hall;generalize hpl:(λ (j:Nat)=>(fs[j]?).bind λ(p:Nat×TypeId)=>(T p.2).bind λui=>some (p.1,ui.size))=place at ha;cases hf:F9 place (ti.zero.map cv) parts with
  |none=>simp[hf]at ha
  |some cells=>
   simp[hf,pv]at ha;subst ha;obtain⟨info,d,z',h1,h2,h3,h4,h5,h6,h7,h8⟩:=ht.ex;rw[hkd]at h8;obtain⟨fa,rfl,hfa⟩:=h8;have NB:∀f∈fa.toList,(T f.type).isSome=true:=λf hf=>(by have:=all_eq_true.1 hall (f.offset,f.type) (by rw[<- hfa];exact mem_map.2 ⟨f,hf,rfl⟩);simpa using this);have⟨ps,hp1,hp2⟩:=Ga (w:=w) hT fa.toList NB;have hpl':∀j p,place j=some p->ps[j]? =some p:=by
    intro j p hj;rw[<- hpl]at hj;simp at hj;have e1:(ps.map some)[j]? =some (some p):=by
     rw[hp2,List.getElem?_map];rw[<- hfa]at hj
     grind
    simpa using e1
   obtain⟨zs,hz3,HD⟩:=AQ (px:=λj=>ps.toArray[j]?) (λ j p h=>by simpa using hpl' j p h) parts vs.toList _ z.cells cells hf (by rw[hz2];exact bp.cv _) hk hv;refine⟨.agg zs,?_,by simp only[VR];exact⟨zs,rfl,HD⟩,rfl⟩;have hm:(fa.mapM (λ f=>do pure (f.offset,<- sizeOf f.type):Field->Sem (Nat×Nat))).run P w=.ok ps.toArray w:=(by rw[Array.mapM_eq_mapM_toList,Sem.run_map,hp1];rfl);simp only[Instr.build,Sem.run_bind,hz,Result.andThen_ok,run_underlying h2,hm,hz3,Sem.run_pure]
  cases ha;rename_i n e hkd;cases ii:T e with
  |none=>simp[ii]at ha
  |some ei=>
   have he:=hT e ei ii;simp[ii]at ha;cases hf:F9 (λ j=>some (j*ei.size,ei.size)) (ti.zero.map cv) parts with
   |none=>simp[hf]at ha
   |some cells=>
    simp[hf,pv]at ha;subst ha;obtain⟨zs,hz3,HD⟩:=AQ (px:=λj=>some (j*ei.size,ei.size)) (λ j p h=>h) parts vs.toList _ z.cells cells hf (by rw[hz2];exact bp.cv _) hk hv;refine⟨.agg zs,?_,by simp only[VR];exact⟨zs,rfl,HD⟩,rfl⟩;simp[Instr.build,hz,run_underlying (Wo ht hkd),he.size (w:=w),hz3]
  cases ha
end
section
variable {P:Program} {T:en} {w0:World} {O0:iu} {β:Nat->Option cH} {I:Nat->Prop} {obj:Nat->Option aR} {w:World} {i:Nat}
theorem Mem.zg{i k:Nat}{o o1:aR}{B C:cH}(h:Mem P w0 O0 β I obj w)(hn:β i=none)(hk:obj k=some o)(hβ:β k=some B)(hC:C.num=B.num)(hO:OR P β w I o1 C):
 Step β I w i (ins β i C) I w/\Mem P w0 O0 (ins β i C) I (cu obj [(i,some o1),(k,none)]) w:=by
 have hS:Step β I w i (ins β i C) I w:=⟨λ j hj=>by simp[ins,jt.ne hj],om hn,λ_ _=>rfl,λ_ h=>h⟩;have look:∀j o',cu obj [(i,some o1),(k,none)] j=some o'->(j=i/\o'=o1)\/(j≠i/\j≠k/\obj j=some o'):=by intro j o' hj;simp[cu]at hj;split at hj;injection hj with hj;exact .inl ⟨‹_›,hj.symm⟩;split at hj;cases hj;exact .inr ⟨‹_›,‹_›,hj⟩
 refine⟨hS,?_⟩;constructor;intro j o' hj;rcases look j o' hj with ⟨rfl,rfl⟩|⟨h1,h2,h3⟩;exact⟨C,by simp[ins],OR.mono hS.ext hS.same hS.inc (λ _ _=>rfl) hO⟩;have⟨B',hB',hO⟩:=h.cD j o' h3;exact⟨B',om hn _ _ hB',OR.mono hS.ext hS.same hS.inc (λ _ _=>rfl) hO⟩;intro j j' o1 o2 B1 B2 b h1 h2 h3 h4 h5 h6;rcases look j o1 h1 with ⟨rfl,rfl⟩|⟨a1,a2,a3⟩<;>rcases look j' o2 h2 with ⟨rfl,rfl⟩|⟨c1,c2,c3⟩;rfl;simp[ins]at h3;simp[ins,c1]at h4;subst h3;exact absurd (h.eI k j' _ _ B B2 b hk c3 hβ h4 (hC ▸ h5) h6) (λ e=>c2 e.symm);simp[ins]at h4;simp[ins,a1]at h3;subst h4;exact absurd (h.eI j k _ _ B1 B b a3 hk h3 hβ h5 (hC ▸ h6)) (λ e=>a2 e);simp[ins,a1,c1]at h3 h4;exact h.eI j j' o1 o2 B1 B2 b a3 c3 h3 h4 h5 h6;intro j o' B1 b h1 h2 h3;rcases look j o' h1 with ⟨rfl,rfl⟩|⟨a1,a2,a3⟩;simp[ins]at h2;subst h2;exact h.ownB k _ B b hk hβ (hC ▸ h3);simp[ins,a1]at h2;exact h.ownB j o' B1 b a3 h2 h3;exact h.lt;exact h.up;exact h.keep;exact h.le;exact h.os;exact h.tape;exact h.output;intro j C hj;exact om hn _ _ (h.anch j C hj);exact h.vars
theorem La:∀(rows:U (List AV))(c:Array Value)(aa sz:Nat)(l:U Value),(∀ r∈rows,r.length=sz/\r.all qg=true)->bp P β w I rows.flatten l->(∀ j u,l[j]? =some u->c[aa+j]? =some u)->cd P β w I rows c aa sz
 |[],_,_,_,_,_,_,_=>by simp[cd]
 |r::rs,c,aa,sz,l,hr,hl,hc=>by
  obtain⟨h1,h2⟩:=hr r (by simp);simp at hl;have ht:=bp.take sz _ _ hl;have hd:=bp.drop sz _ _ hl;rw[List.take_append_of_le_length (by omega),take_of_length_le (by omega)]at ht;rw[List.drop_append_of_le_length (by omega),List.drop_of_length_le (by omega),fw]at hd;simp[cd];refine⟨h1,cW.pm r _ c aa ht (λ u hu=>?_) (λ j u hj=>?_),La rs c (aa+sz) sz _ (λ r' hr'=>hr r' (by simp[hr'])) hd (λ j u hj=>?_)⟩;obtain⟨j,hj⟩:=List.getElem?_of_mem hu;have hlen:=bp.length _ _ ht;have hjl:j<r.length:=by have:=(dx.1 hj).1;omega
  obtain⟨u',hu',hv⟩:=bp.get _ _ j _ ht (dP hjl);rw[hj]at hu';injection hu' with hu';subst hu';exact VR.one (all_eq_true.1 h2 _ (List.getElem_mem hjl)) hv
  all_goals grind
theorem ahg{x:AV}{cs:U AV}(h:cellsOf x=some cs):cs.all qg=true:=by
 cases x<;>simp only[cellsOf,bV,reduceCtorEq]at h
 case agg=>split at h<;>first|(cases h;assumption)|cases h
 all_goals subst h;simp[qg]
theorem Wq(size:Nat):∀(parts:U (Nat×AV))(rows out:U (List AV)),M9 size rows parts=some out->(∀ r∈rows,r.length=size/\r.all qg=true)->
 F9 (λ j=>some (j*size,size)) rows.flatten parts=some out.flatten/\(∀ r∈out,r.length=size/\r.all qg=true)/\out.length=rows.length
 |[],rows,out,h,hr=>by simp[M9]at h;subst h;exact⟨rfl,hr,rfl⟩
 |(j,x)::ae,rows,out,h,hr=>by
  simp[M9]at h;cases hcs:cellsOf x with
  |none=>simp[hcs]at h
  |some cs=>
   simp only[hcs,ai]at h;split at h;rename_i hl;obtain⟨h1,h2,h3⟩:=Wq size ae (rows.set j cs) out h (λ r hr'=>by rcases List.mem_or_eq_of_mem_set hr' with h4|h4;exact hr r h4;rw[h4];exact⟨hl.1,ahg hcs⟩);refine⟨?_,h2,by simpa using h3⟩;have M3:∀(n:Nat) (rows:U (List AV)),(∀ r∈rows,r.length=size)->n<rows.length->(rows.set n cs).flatten=put' rows.flatten (n*size) cs/\n*size+cs.length<=rows.flatten.length:=by
    intro n
    induction n with
    |zero=>
     intro rows hr hn;cases rows with
     |nil=>simp at hn
     |cons r rs=>
      have:=hr r (by simp);simp[put'];refine⟨?_,by omega⟩;rw[hl.1,List.drop_append_of_le_length (by omega),List.drop_of_length_le (by omega),fw]
    |succ n ih=>
     intro rows hr hn;cases rows with
     |nil=>simp at hn
     |cons r rs=>
      have hrl:=hr r (by simp);obtain⟨g1,g2⟩:=ih rs (λ r' h'=>hr r' (by simp[h'])) (by simpa using hn);have e1:(n+1)*size=r.length+n*size:=(by rw[Nat.add_mul];omega);simp only[List.set_cons_succ,List.flatten_cons,g1,put',e1,dZ];refine⟨?_,by omega⟩;rw[List.take_length_add_append,show r.length+n*size+cs.length=r.length+(n*size+cs.length)by omega,List.drop_length_add_append];simp
   obtain⟨g1,g2⟩:=M3 j rows (λ r h'=>(hr r h').1) hl.2;simp only[F9,ai,hcs];rw[aY ⟨hl.1,g2⟩,<- g1];exact h1;cases h
theorem Nc(hT:fB P T)(h:Mem P w0 O0 β I obj w)(hn:β (cJ i)=none){t:Θ}{len:Nat}{parts:U (Nat×AV)}{vs:Array (Nat×Value)}{out:Out}{kp:Bool}(ha:wR T i t len parts kp=some out)
 (hk:parts.map (·.1)=vs.toList.map (·.1)) (hv:bp P β w I (parts.map (·.2)) (vs.toList.map (·.2))):
 ∃u w' β',(Instr.buildSlice t len vs).run P w=.ok u w'/\Step β I w (cJ i) β' I w'/\Mem P w0 O0 β' I (cu obj out.upd) w'/\VR P β' w' I out.v u:=by
 unfold wR at ha;cases hti:T t with
 |none=>simp[hti]at ha
 |some ti=>
  have ht:=hT t ti hti;simp[hti]at ha;split at ha;rename_i e hkd;cases ii:T e with
  |none=>simp[ii]at ha
  |some ei=>
   have he:=hT e ei ii;simp only[ii,ai]at ha;split at ha;cases ha;rename_i hno;simp at hno;cases hf:M9 ei.size (List.replicate len (ei.zero.map cv)) parts with
   |none=>simp[hf]at ha
   |some rows=>
    simp[hf]at ha;subst ha;have⟨z,hz,hz2⟩:=he.zeroV (w:=w);have hzl:ei.zero.length=ei.size:=he.len;have hok:∀r∈List.replicate len (ei.zero.map cv),r.length=ei.size/\r.all qg=true:=(by intro r hr;obtain⟨_,rfl⟩:=List.mem_replicate.1 hr;refine⟨by simpa using hzl,?_⟩;rw[List.all_map,all_eq_true];intro v hvz;have h1:=all_eq_true.1 he.one v hvz;simp[cv];split;rfl;rw[aY h1];rfl);obtain⟨h1,h2,h3⟩:=Wq ei.size parts _ rows hf hok;have hzs:z.cells.size=ei.size:=(by rw[<- Array.length_toList,hz2];exact hzl);have hinit:((Array.range (len*ei.size)).map (λ j=>z.cells[j%z.cells.size]!)).toList=(List.replicate len ei.zero).flatten:=by
     apply List.ext_getElem?;intro j;have hlen:∀n,((List.replicate n ei.zero).flatten).length=n*ei.size:=λn=>(by simp[hzl]);have hget:∀n j,j<n*ei.size->((List.replicate n ei.zero).flatten)[j]? =ei.zero[j%ei.size]? :=by
      intro n
      induction n with
      |zero=>intro j hj;simp at hj
      |succ n ih=>
       intro j hj;rw[List.replicate_succ,List.flatten_cons];by_cases hjs:j<ei.size;rw[List.getElem?_append_left (by omega),Nat.mod_eq_of_lt hjs];rw[pX (by omega),hzl,ih _ (by rw[Nat.add_mul]at hj;omega)];rw[<- Nat.mod_eq_sub_mod (by omega)]
     by_cases hj:j<len*ei.size;rw[hget len j hj,Array.getElem?_toList,Array.getElem?_map];have hm:j%ei.size<ei.size:=Nat.mod_lt _ (by omega);rw[show (Array.range (len*ei.size))[j]? =some j by simp[hj]];simp;rw[hzs,<- hz2,Array.getElem?_toList];simp[show j%ei.size<z.cells.size by omega];rw[List.getElem?_eq_none (by simp;omega),List.getElem?_eq_none (by rw[hlen];omega)]
    generalize hin:(Array.range (len*ei.size)).map (λ j=>z.cells[j%z.cells.size]!)=tM at hinit;obtain⟨zs,hz3,HD⟩:=AQ (px:=λj=>some (j*ei.size,ei.size)) (λ j p h=>h) parts vs.toList _ tM rows.flatten h1 (by
     rw[hinit];have:(List.replicate len (ei.zero.map cv)).flatten=((List.replicate len ei.zero).flatten).map cv:=by
      induction len with
      |zero=>rfl
      |succ n ih=>simp
     rw[this];exact bp.cv _) hk hv
    have hrl:rows.length=len:=(by rw[h3];simp);obtain⟨hS,hM⟩:=Mem.alloc (o:=⟨ei.size,rows⟩) (c:=zs) (e:=e) h hn (La rows zs 0 ei.size zs.toList h2 HD (λ j u hj=>by simpa using hj));refine⟨.slice (some ⟨w.heap.size,0,none⟩) len len,_,_,?_,hS,by cases kp<;>first|exact hM.yz|exact hM,?_⟩;simp only[Instr.buildSlice,Sem.run_bind,run_underlying (iU ht hkd),Result.andThen_ok,he.size (w:=w)];rw[aT (by omega)];by_cases hl0:len*ei.size=0;have hc0:tM=#[]:=(by rw[<- hin,hl0];simp);have e0:(Array.range (len*ei.size)).map (λ j=>(#[]:Array Value)[j%(#[]:Array Value).size]!)=tM:=(by rw[hc0,hl0];simp);simp only[hl0,if_true,Sem.run_pure,Result.andThen_ok,Sem.run_bind];rw[hl0]at e0;rw[e0,hz3];simp only[Sem.run_bind,newRow,run_newObj,Result.andThen_ok,Sem.run_pure];rfl;simp[hl0,hz];rw[hin,hz3];simp only[Sem.run_bind,newRow,run_newObj,Result.andThen_ok,Sem.run_pure];rfl;simp only[VR];refine .inr ⟨w.heap.size,ei.size,An zs.size,len,0,by simp[ins],rfl,aB _,?_,by simp⟩;have:=bp.length _ _ HD;simp only[Array.length_toList]at this;rw[al0,Up,this,Nat.zero_add,Nat.zero_add,<- hrl];have hfl:∀(l:U (List AV)),(∀ r∈l,r.length=ei.size)->l.flatten.length=l.length*ei.size:=by
     intro l
     induction l with
     |nil=>simp
     |cons r rs ih=>intro h;simp[ih (λ r' h'=>h r' (by simp[h'])),h r (by simp)];rw[Nat.add_mul];omega
    rw[hfl rows (λ r hr=>(h2 r hr).1)];exact aB _
  cases ha
end
section
variable {P:Program} {T:en} {w0:World} {O0:iu} {β:Nat->Option cH} {I:Nat->Prop} {obj:Nat->Option aR} {w:World} {i:Nat}
theorem J6{d n:Int}{x:J AV}{v:J Value}(h:bnd d x=some n)(hx:∀y,x=some y->∃u,v=some u/\VR P β w I y u)(h0:x=none->v=none):(v=none/\n=d)\/∃k,v=some (.int k n):=by
 cases x with
 |none=>simp[bnd]at h;exact .inl ⟨h0 rfl,h.symm⟩
 |some y=>
  obtain⟨u,rfl,hu⟩:=hx y rfl;unfold bnd at h;split at h;cases ‹some _=none›;rename_i k m heq;cases heq;cases h;exact .inr ⟨k,by rw[hu.1]⟩;cases h
theorem Gc{uu hiv:J Value}{l hh:Int}{len cap:Nat}(h1:(uu=none/\l=0)\/∃k,uu=some (.int k l))(h2:(hiv=none/\hh=(len:Int))\/∃k,hiv=some (.int k hh))(g0:0<=l)(g1:l<=hh)(g2:hh<=(cap:Int)):
 (Instr.sliceBounds true len cap uu hiv none).run P w=.ok (l.toNat,hh.toNat,cap) w:=by
 have hb:∀(k:IntKind) (n:Int) (y:Nat) code,0<=n->n<=(y:Int)->(Instr.sliceBound (.int k n) y code).run P w=.ok n.toNat w:=λk n y code a b=>by simp[Instr.sliceBound,asIntOf,a,b]
 rcases h1 with ⟨rfl,rfl⟩|⟨k,rfl⟩<;>rcases h2 with ⟨rfl,rfl⟩|⟨k',rfl⟩;simp[Instr.sliceBounds];simp[Instr.sliceBounds,hb k' hh cap _ (by omega) g2];simp[Instr.sliceBounds,hb k l len _ g0 g1];have h3:=λcode=>hb k l hh.toNat code g0 (by omega);simp[Instr.sliceBounds,hb k' hh cap _ (by omega) g2,h3]
theorem acp(hT:fB P T)(h:Mem P w0 O0 β I obj w){t:Θ}{x:AV}{lo hi:J AV}{cy:ka}{get:Ω}{out:Out}{v:Ψ}{uu hiv:J Value}(hg:∀k o,get k=some o->obj k=some o)
 (ha:Wl T t x lo hi cy get=some out) (cN:out.ob) (hx:VR P β w I x v) (hlo:∀x,lo=some x->∃v,uu=some v/\VR P β w I x v) (hlo0:lo=none->uu=none) (hhi:∀x,hi=some x->∃v,hiv=some v/\VR P β w I x v) (hhi0:hi=none->hiv=none):
 ∃u,(Instr.sliceAt t v uu hiv none).run P w=.ok u w/\VR P β w I out.v u/\out.upd=[]:=by
 unfold Wl at ha;cases hti:T t with
 |none=>simp[hti]at ha
 |some ti=>
  have ht:=hT t ti hti;simp[hti]at ha;split at ha;rename_i e hkd;cases ii:T e with
  |none=>simp[ii]at ha
  |some ei=>
   have he:=hT e ei ii;simp[ii]at ha;have eS:=iU ht hkd
   have hrun:∀(a:J Addr) (len cap:Nat) (l hh:Int),bnd 0 lo=some l->bnd len hi=some hh->0<=l->l<=hh->hh<=(cap:Int)->
    (Instr.sliceAt t (.slice a len cap) uu hiv none).run P w=.ok (.slice (if cap=l.toNat then a else a.map (·.add (l.toNat*ei.size))) (hh.toNat-l.toNat) (cap-l.toNat)) w:=by intro a len cap l hh b1 b2 b3 b4 b5;have:=Gc (P:=P) (w:=w) (len:=len) (cap:=cap) (J6 b1 hlo hlo0) (J6 b2 hhi hhi0) b3 b4 b5;simp[Instr.sliceAt,Instr.slice,run_underlying eS,this,he.size (w:=w)]
   cases x<;>try simp at ha
   case own k aa len=>
    cases hk:get k with
    |none=>simp[hk]at ha
    |some o=>
     simp only[hk,ai]at ha;split at ha;rename_i hsz;cases hl:bnd 0 lo with
     |none=>simp[hl]at ha
     |some l=>
      cases hh:bnd len hi with
      |none=>simp[hl,hh]at ha
      |some r=>
       simp[hl,hh,ai,nr,bV]at ha;subst ha;obtain⟨b1,b2,b3⟩:=cN;simp only[VR]at hx ⊢;rcases hx with ⟨h1,rfl,h2,h3⟩|⟨b,sz,m,cap,a,h1,rfl,h2,h3,h4⟩;subst h3;subst h2;have hr:r=0:=(by omega);have hl0:l=0:=(by omega);subst hr;subst hl0;refine⟨_,hrun _ _ _ _ _ hl hh b1 b2 (by omega),.inl ⟨h1,by simp,by simp,by simp⟩,trivial⟩;refine⟨_,hrun _ _ _ _ _ hl hh b1 b2 (by omega),.inr ⟨b,sz,m,cap-l.toNat,if cap=l.toNat then a else a+l.toNat*ei.size,h1,?_,by omega,?_,?_⟩,trivial⟩;split;rfl;simp[addr_add];have:aa+l.toNat+(cap-l.toNat)=aa+cap:=(by omega);rw[this];exact h3;intro hc;have hcl:¬cap=l.toNat:=(by omega);rw[aT hcl,h4 (by omega)];have⟨B,hB,hO⟩:=h.cD k o (hg k o hk);rw[h1]at hB;cases hB;have hs:sz=o.sz:=hO.1;rw[hs,hsz,Nat.add_mul,Nat.add_assoc]
     cases ha
   case t x=>
    cases x<;>simp[reduceCtorEq]at ha
    case sl rows=>
     cases cy<;>simp[reduceCtorEq]at ha
     case C5 rs=>
      cases hl:bnd 0 lo with
      |none=>simp[hl]at ha
      |some l=>
       cases hh:bnd rows.length hi with
       |none=>simp[hl,hh]at ha
       |some r=>
        simp[hl,hh,ai,nr,bV]at ha;subst ha;obtain⟨b1,b2,b3,hrs,hall⟩:=cN;simp only[VR,TR]at hx ⊢;have hlen:rs.length=r.toNat-l.toNat:=(by rw[hrs];simp[length_take,length_drop];omega);rcases hx with ⟨rfl,a,cap,rfl,hac⟩|⟨b,aa,cap,sz,rfl,h1,h2,h3⟩;simp[List.length_nil]at b3;have hr:r=0:=(by omega);have hl0:l=0:=(by omega);subst hr;subst hl0;refine⟨_,hrun _ _ _ _ _ hl hh b1 b2 (by omega),.inl ⟨by rw[hrs];simp,a.map (·.add 0),cap,?_,λh0=>hac (by simpa using h0)⟩,trivial⟩;by_cases hc:cap=0;subst hc;cases a<;>simp[Addr.add];simp[hc];refine⟨_,hrun _ _ _ _ _ hl hh b1 b2 (by omega),.inr ⟨b,if cap=l.toNat then aa else aa+l.toNat*ei.size,cap-l.toNat,sz,?_,by omega,h2,?_⟩,trivial⟩;rw[hlen];split;rfl;simp[addr_add];by_cases hc:cap=l.toNat;have:rs=[]:=eq_nil_of_length_eq_zero (by omega);rw[this];simp[cC];rw[aT hc,hrs];have hd:∀(n:Nat) (rows:U (List Tree)) (aa:Nat),cC w I rows b aa sz->cC w I (rows.drop n) b (aa+n*sz) sz:=by
         intro n
         induction n with
         |zero=>intro rows aa h;simpa using h
         |succ n ih=>
          intro rows aa h;cases rows with
          |nil=>simp[cC]
          |cons r rs=>
           simp[cC]at h;rw[List.drop_succ_cons,show aa+(n+1)*sz=aa+sz+n*sz by rw[Nat.add_mul];omega];exact ih rs _ h.2.2
        have htk:∀(n:Nat) (rows:U (List Tree)) (aa:Nat),cC w I rows b aa sz->cC w I (rows.take n) b aa sz:=by
         intro n
         induction n with
         |zero=>intro rows aa h;simp[cC]
         |succ n ih=>
          intro rows aa h;cases rows with
          |nil=>simp[cC]
          |cons r rs=>
           simp[cC]at h;simp[List.take_succ_cons,cC];exact⟨h.1,h.2.1,ih rs _ h.2.2⟩
        by_cases hne:rows=[];subst hne;simp[cC];obtain⟨r0,ae,rfl⟩:=List.exists_cons_of_ne_nil hne;have hsz:ei.size=sz:=(by have e1:=hall r0 (by simp);simp[cC]at h3;omega);rw[hsz];exact htk _ _ _ (hd _ _ _ h3)
  cases ha
end
section
variable {P:Program} {T:en} {w0:World} {O0:iu} {β:Nat->Option cH} {I:Nat->Prop} {obj:Nat->Option aR} {w:World} {i:Nat}
theorem Mem.p0{i:Nat}{o:aR}(h:Mem P w0 O0 β I obj w)(hn:β i=none)(ho:o.rows=[]):
 Step β I w i (ins β i .none) I w/\Mem P w0 O0 (ins β i .none) I (cu obj [(i,some o)]) w:=by have hS:Step β I w i (ins β i .none) I w:=⟨λ j hj=>by simp[ins,jt.ne hj],om hn,λ_ _=>rfl,λ_ h=>h⟩;refine⟨hS,?_⟩;constructor;intro k o' hk;simp[cu]at hk;split at hk;cases hk;rename_i hki;exact⟨.none,by simp[ins,hki],ho⟩;have⟨B,hB,hO⟩:=h.cD k o' hk;exact⟨B,om hn _ _ hB,OR.mono hS.ext hS.same hS.inc (λ _ _=>rfl) hO⟩;intro k k' o1 o2 B1 B2 b h1 h2 h3 h4 h5 h6;simp[cu]at h1 h2;simp[ins]at h3 h4;split at h3;cases h3;cases h5;split at h4;cases h4;cases h6;rename_i a b;rw[aT a]at h1;rw[aT b]at h2;exact h.eI k k' o1 o2 B1 B2 _ h1 h2 h3 h4 h5 h6;intro k o' B b h1 h2 h3;simp[cu]at h1;simp[ins]at h2;split at h2;cases h2;cases h3;rename_i a;rw[aT a]at h1;exact h.ownB k o' B b h1 h2 h3;exact h.lt;exact h.up;exact h.keep;exact h.le;exact h.os;exact h.tape;exact h.output;intro j C hj;exact om hn _ _ (h.anch j C hj);exact h.vars
theorem zn:∀(rows:U (List AV))(c:Array Value)(aa sz:Nat)(l:U Value),(∀ r∈rows,r.length=sz)->bp P β w I rows.flatten l->(∀ u∈l,oneCell u)->(∀ j u,l[j]? =some u->c[aa+j]? =some u)->cd P β w I rows c aa sz
 |[],_,_,_,_,_,_,_,_=>by simp[cd]
 |r::rs,c,aa,sz,l,hr,hl,h1,hc=>by
  have hrl:=hr r (by simp);simp at hl;have ht:=bp.take sz _ _ hl;have hd:=bp.drop sz _ _ hl;rw[List.take_append_of_le_length (by omega),take_of_length_le (by omega)]at ht;rw[List.drop_append_of_le_length (by omega),List.drop_of_length_le (by omega),fw]at hd;refine⟨hrl,cW.pm r _ c aa ht (λ u hu=>h1 u (List.mem_of_mem_take hu)) (λ j u hj=>?_),zn rs c (aa+sz) sz _ (λ r' hr'=>hr r' (by simp[hr'])) hd (λ u hu=>h1 u (List.mem_of_mem_drop hu)) (λ j u hj=>?_)⟩
  all_goals grind
theorem cd.list:∀(rows:U (List AV))(c:Array Value)(aa sz:Nat),cd P β w I rows c aa sz->∃l:U Value,bp P β w I rows.flatten l/\(∀ u∈l,oneCell u)/\l.length=rows.length*sz/\(∀ r∈rows,r.length=sz)/\∀j u,l[j]? =some u->c[aa+j]? =some u
 |[],_,_,_,_=>⟨[],by simp[bp],by simp,by simp,by simp,by simp⟩
 |r::rs,c,aa,sz,⟨h1,h2,h3⟩=>by
  have⟨l1,a1,a2,a3⟩:=cW.list r c aa h2;have⟨l2,b1,b2,b3,b4,b5⟩:=cd.list rs c (aa+sz) sz h3;have hl1:l1.length=sz:=by rw[bp.length _ _ a1,h1]
  refine⟨l1++l2,by simp;exact bp.append _ _ _ _ a1 b1,λu hu=>?_,?_,λr' hr'=>?_,λj u hj=>?_⟩
  all_goals grind
theorem cC.list{b sz:Nat}:∀(rows:U (List Tree))(aa:Nat),cC w I rows b aa sz->∃l:U Value,bp P β w I (aI rows).flatten l/\(∀ u∈l,oneCell u)/\l.length=rows.length*sz/\(∀ r∈aI rows,r.length=sz)/\∀j u,l[j]? =some u->w.cell? ⟨b,aa+j,none⟩=some u
 |[],_,_=>⟨[],by simp[aI,bp],by simp,by simp,by simp[aI],by simp⟩
 |r::rs,aa,h=>by
  obtain⟨h1,h2,h3⟩:=h;have⟨l1,a1,a3⟩:=eh.list (P:=P) (β:=β) r b aa h2;have⟨l2,b1,b2,b3,b4,b5⟩:=cC.list rs (aa+sz) h3;have hl1:l1.length=sz:=by rw[bp.length _ _ a1];simpa using h1
  have a2:∀u∈l1,oneCell u:=by intro u hu;obtain⟨j,hj⟩:=List.getElem?_of_mem hu;have hjl:j<(r.map AV.t).length:=(by have:=(dx.1 hj).1;rw[bp.length _ _ a1]at this;exact this);obtain⟨u',hu',hv⟩:=bp.get _ _ j _ a1 (dP hjl);rw[hj]at hu';injection hu' with hu';subst hu';refine VR.one ?_ hv;simp[qg]
  refine⟨l1++l2,by simp[aI];exact bp.append _ _ _ _ a1 b1,λu hu=>?_,?_,λr' hr'=>?_,λj u hj=>?_⟩;rcases bF.1 hu with hu|hu;exact a2 u hu;exact b2 u hu;simp[Nat.add_mul];omega;simp only[aI,bK,aL]at hr';rcases hr' with rfl|hr';simpa using h1;exact b4 r' hr'
  all_goals grind
def apI(P:Ξ)(β:ζ)(w:Δ)(I:Φ)(size n:Nat)(al:U (List AV))(v:Ψ):Prop:=
 (n=0/\∃b c,v=.slice b 0 c)\/∃(a:Addr)(c:Nat)(l:U Value),v=.slice (some a) n c/\0<n/\bp P β w I al.flatten l/\(∀ u∈l,oneCell u)/\l.length=n*size/\(∀ r∈al,r.length=size)/\∀j u,l[j]? =some u->w.cell? (a.add j)=some u
theorem aaU(h:Mem P w0 O0 β I obj w){size n:Nat}{ob:Prop}{al:U (List AV)}{y:AV}{get:Ω}{v:Ψ}(hg:∀k o,get k=some o->obj k=some o)
 (hs:Wm size y get=some (n,ob,al)) (cN:ob) (hl:al.length=n) (hy:VR P β w I y v):apI P β w I size n al v:=by
 unfold Wm at hs;split at hs;rename_i k aa len;cases hk:get k with
 |none=>simp[hk]at hs
 |some o=>
  simp only[hk,ai]at hs;split at hs;rename_i hsz;simp at hs;obtain⟨rfl,_,rfl⟩:=hs;simp only[VR]at hy;rcases hy with ⟨_,rfl,_,rfl⟩|⟨b,sz,m,cap,a,h1,rfl,h2,h3,h4⟩;exact .inl ⟨rfl,_,_,rfl⟩;by_cases h0:len=0;subst h0;exact .inl ⟨rfl,_,_,rfl⟩;have⟨B,hB,hO⟩:=h.cD k o (hg k o hk);rw[h1]at hB;cases hB;obtain⟨hs,c,e,hc,_,hO⟩:=hO;have h5:=cd.take len _ _ _ _ (cd.drop aa _ _ _ _ hO);obtain⟨l,g1,g2,g3,g4,g5⟩:=cd.list _ _ _ _ h5;refine .inr ⟨_,cap,l,rfl,by omega,g1,g2,?_,λr hr=>?_,λj u hj=>?_⟩;rw[g3,hl,hs,hsz];rw[g4 r hr,hs,hsz];rw[addr_add,h4 (by omega)];simp[World.cell?,hc,g5 j u hj];cases hs
 rename_i rows;obtain⟨rfl,rfl,rfl⟩:=hs;simp only[VR,TR]at hy;rcases hy with ⟨rfl,_,_,rfl,_⟩|⟨b,aa,cap,sz,rfl,h1,h2,h3⟩;exact .inl ⟨rfl,_,_,rfl⟩;cases rows with
 |nil=>exact .inl ⟨rfl,_,_,rfl⟩
 |cons r rs=>
  obtain⟨l,g1,g2,g3,g4,g5⟩:=cC.list (P:=P) (β:=β) _ _ h3;have hsz:sz=size:=by have e1:=cN r (by simp);simp[cC]at h3;omega
  subst hsz;exact .inr ⟨_,cap,l,rfl,by simp,g1,g2,g3,g4,λj u hj=>by rw[addr_add];exact g5 j u hj⟩
 cases hs
theorem oneCell'{u:Ψ}(h:oneCell u):u.oneCell'=true:=by cases u<;>first|rfl|exact h.elim
theorem Mem.grow(h:Mem P w0 O0 β I obj w)(hn:β i=none){size:Nat}{rows:U (List AV)}{l:U Value}{e:Θ}{ae:η}(hr:∀r∈rows,r.length=size)(hl:bp P β w I rows.flatten l)(h1:∀u∈l,oneCell u):
 Step β I w i (ins β i (.at w.heap.size size (An (l.toArray++ae).size))) I (w.drew.alloc (.cells (l.toArray++ae) e))/\
 Mem P w0 O0 (ins β i (.at w.heap.size size (An (l.toArray++ae).size))) I (cu obj [(i,some ⟨size,rows⟩)]) (w.drew.alloc (.cells (l.toArray++ae) e)):=by have hd:=h.drew;obtain⟨hS,hM⟩:=Mem.alloc (i:=i) (o:=⟨size,rows⟩) (c:=l.toArray++ae) (e:=e) hd hn (zn rows _ 0 size l hr (bp.mono (w:=w) (w':=w.drew) (λ _ _ h=>h) (λ _ _=>rfl) (λ _ h=>h) _ _ hl) h1 (λ j u hj=>by have hlt:=(dx.1 hj).1;rw[Array.getElem?_append_left (by simpa using hlt)];simpa using hj));exact⟨⟨hS.other,hS.ext,λb hb=>hS.same b hb,hS.inc⟩,hM⟩
theorem Gd(hT:fB P T)(h:Mem P w0 O0 β I obj w)(hn:β i=none){t e ty:Θ}{ei:p5}(eS:P.underlying t=some (.slice e))(ii:T e=some ei){n:Nat}{al:U (List AV)}{v:Ψ}
 (hsrc:apI P β w I ei.size n al v) (hl:al.length=n) (h48:n*ei.bytes<=140737488355328) (h63:n<=maxLen):
 ∃u w' β',(Builtin.append_ #[t,t] ty #[.slice none 0 0,v]).run P w=.ok u w'/\Step β I w i β' I w'/\Mem P w0 O0 β' I (cu obj [(i,some ⟨ei.size,al⟩)]) w'/\VR P β' w' I (.own i 0 n) u:=by
 have he:=hT e ei ii;obtain⟨info,d,z,g1,g2,g3,g4,g5,g6,g7,g8⟩:=he.ex;rcases hsrc with ⟨rfl,b,c,rfl⟩|⟨a,c,l,rfl,hpos,q1,q2,q3,q4,q5⟩;have hnew:al=[]:=eq_nil_of_length_eq_zero hl;subst hnew;have⟨hS,hM⟩:=Mem.p0 (i:=i) (o:=⟨ei.size,[]⟩) h hn rfl;refine⟨.slice none 0 0,w,_,?_,hS,hM,by simp only[VR];exact .inl ⟨by simp[ins],trivial,trivial,trivial⟩⟩;cases b<;>simp[Builtin.append_,run_underlying eS,sizeOf,typeInfo,g1,Builtin.lenOf,Builtin.firstCells,loadCells,loadCellsFrom];have hm:n<=9223372036854775807:=by simp[maxLen]at h63;omega
 have hrun:=run_append_nil (P:=P) w t ty e info z eS g1 g5 a n c l (by rw[q3,g3]) q5 hpos (by omega) (by rw[g4];omega);have⟨hS,hM⟩:=Mem.grow (i:=i) (e:=e) (ae:=Builtin.zeroCells z.cells (grownCap w n 0 e-n)) h hn q4 q1 q2;refine⟨_,_,_,hrun,hS,hM,?_⟩;simp only[VR];refine .inr ⟨w.heap.size,ei.size,_,_,0,by simp[ins];rfl,rfl,grownCap_ge w n 0 e,?_,by simp⟩;have hz:z.cells.size=ei.size:=by rw[<- Array.length_toList,g6];exact he.len
 have hge:=grownCap_ge w n 0 e;simp[size_zeroCells,Up,q3,hz,Nat.zero_add,<- Nat.add_mul];exact Nat.mul_le_mul_right _ (by omega)
theorem Ui(hT:fB P T)(h:Mem P w0 O0 β I obj w)(hn:β i=none){t e ty:Θ}{ei:p5}(eS:P.underlying t=some (.slice e))(ii:T e=some ei){n k aa len:Nat}{o:aR}{al:U (List AV)}{u v:Ψ}
 (hk:obj k=some o) (hsz:o.sz=ei.size) (hlen:(o.rows.drop aa).length=len) (hx:VR P β w I (.own k aa len) u)
 (hsrc:apI P β w I ei.size n al v) (hl:al.length=n) (h48:(len+n)*ei.bytes<=140737488355328) (h63:len+n<=maxLen):
 ∃z w' β',(Builtin.append_ #[t,t] ty #[u,v]).run P w=.ok z w'/\Step β I w i β' I w'/\Mem P w0 O0 β' I (cu obj [(i,some ⟨ei.size,o.rows.drop aa++al⟩),(k,none)]) w'/\VR P β' w' I (.own i 0 (len+n)) z:=by
 have he:=hT e ei ii;obtain⟨info,d,z,g1,g2,g3,g4,g5,g6,g7,g8⟩:=he.ex;have hki:k≠i:=λe=>by have⟨B,hB,_⟩:=h.cD k o hk;rw[e,hn]at hB;cases hB
 have B9:∀{β':Nat->J cH} {I':Nat->Prop} {w':World} {o':aR},Mem P w0 O0 β' I' (cu obj [(i,some o')]) w'->Mem P w0 O0 β' I' (cu obj [(i,some o'),(k,none)]) w':=by intro β' I' w' o' hM;refine hM.drop _ λj oj hj=>?_;simp only[cu]at hj ⊢;split;rw[aY ‹_›]at hj;exact hj;rw[aT ‹_›]at hj;split at hj;cases hj;exact hj
 simp only[VR]at hx;rcases hx with ⟨hβ,rfl,_,rfl⟩|⟨b,sz,m,cap,a,hβ,rfl,h2,h3,h4⟩;have hr:o.rows.drop aa=[]:=eq_nil_of_length_eq_zero hlen;rw[hr,fw,Nat.zero_add];obtain⟨z',w',β',e1,e2,e3,e4⟩:=Gd (ty:=ty) hT h hn eS ii hsrc hl (by simpa using h48) (by simpa using h63);exact⟨z',w',β',e1,e2,B9 e3,e4⟩;have⟨B,hB,hO⟩:=h.cD k o hk;rw[hβ]at hB;cases hB;obtain⟨hs,c,ce,hc,hcn,hO⟩:=hO;have hle:m.s+aa*sz<=m.m:=Nat.le_trans (Nat.add_le_add_left (Nat.mul_le_mul_right _ (Nat.le_add_right _ _)) _) h3;rw[Nat.add_mul]at h3;have hO:=cd.drop aa _ _ _ _ hO;obtain⟨hS0,hM0⟩:=Mem.zg (C:=.at b sz ⟨m.m,m.s+aa*sz,hle⟩) (o1:=⟨ei.size,o.rows.drop aa⟩) h hn hk hβ rfl ⟨by rw[hs,hsz],c,ce,hc,hcn,hO⟩;generalize hp:m.s+aa*sz=p at hO hle hS0 hM0 h4;rcases hsrc with ⟨rfl,b',c',rfl⟩|⟨a',c',l,rfl,hpos,q1,q2,q3,q4,q5⟩;have hnew:al=[]:=eq_nil_of_length_eq_zero hl;subst hnew;rw[List.append_nil,Nat.add_zero];refine⟨.slice (some ⟨b,a,none⟩) len cap,w,_,?_,hS0,hM0,?_⟩;cases b'<;>simp[Builtin.append_,run_underlying eS,sizeOf,typeInfo,g1,Builtin.lenOf,Builtin.firstCells,loadCells,loadCellsFrom,h2,storeCells];simp only[VR];exact .inr ⟨b,sz,⟨m.m,p,hle⟩,cap,a,by simp[ins],rfl,h2,by simp only[Nat.zero_add];omega,λh=>by simp[h4 h]⟩;obtain⟨ol,o1,o2,o3,o4,o5⟩:=cd.list _ _ _ _ hO;have hrl:∀r∈o.rows.drop aa++al,r.length=ei.size:=λr hr=>by rcases bF.1 hr with hr|hr;rw[o4 r hr,hs,hsz];exact q4 r hr
 have hol:ol.length=len*info.size:=by rw[o3,hlen,hs,hsz,g3]
 by_cases hroom:len+n<=cap;have ha:a=p:=h4 (by omega);subst ha;have hcsz:a+cap*info.size<=c.size:=by rw[g3,<- hsz,<- hs,hcn];omega
 have hfit:a+len*info.size+l.length<=c.size:=by have:(len+n)*info.size<=cap*info.size:=Nat.mul_le_mul_right _ hroom;rw[Nat.add_mul]at this;rw[q3,<- g3];omega
 have hf:=run_firstCells_some (P:=P) w info.size n a' n c' l (by rw[q3,g3]) q5;have hst:=run_storeCells_at P b (a+len*info.size) ce l 0 c w hc (by omega) (λ u hu=>oneCell' (q2 u hu));simp only[Nat.add_zero]at hst;generalize hc':(List.take (a+len*info.size) c.toList++l++List.drop (a+len*info.size+l.length) c.toList).toArray=cc at hst;have arQ:cc.size=c.size:=by rw[<- hc'];simp[length_take,length_drop];omega
 have hrun:(Builtin.append_ #[t,t] ty #[.slice (some ⟨b,a,none⟩) len cap,.slice (some a') n c']).run P w=.ok (.slice (some ⟨b,a,none⟩) (len+n) cap) (w.setRow b cc):=by have hf':(Builtin.firstCells info.size n (.slice (some a') n c')).run P w=.ok l.toArray w:=hf;simp[Builtin.append_,run_underlying eS,sizeOf,typeInfo,g1,Builtin.lenOf,hroom,hf',addr_add,hst]
 have hcells:∀j u,(ol++l)[j]? =some u->cc[a+j]? =some u:=by
  intro j u hj;rw[<- hc',List.getElem?_toArray];have h1:(c.toList.take (a+len*info.size)).length=a+len*info.size:=by simp[length_take];omega
  by_cases hjl:j<ol.length;rw[List.getElem?_append_left hjl]at hj;have:=o5 j u hj;rw[aV,List.getElem?_append_left (by omega),List.getElem?_take,aY (by omega),Array.getElem?_toList];exact this;rw[pX (by omega)]at hj;have hjl2:=(dx.1 hj).1;rw[aV,pX (by omega),h1,List.getElem?_append_left (by omega),show a+j-(a+len*info.size)=j-ol.length by omega];exact hj
 obtain⟨xt,hM⟩:=Mem.write (o':=⟨ei.size,o.rows.drop aa++al⟩) hM0 (k:=i) (o:=⟨ei.size,o.rows.drop aa⟩) (b:=b) (s:=sz) (n:=⟨m.m,a,hle⟩) (by simp only[cu,if_true]) (by simp only[ins,if_true]) (c':=cc) (e:=ce) (setRow_heap w b c cc ce (0,0) hc) (λ b' hb=>setRow_other w b b' cc hb) (by simp) rfl rfl rfl (by rw[hs,hsz]) (by simp;omega)
  (zn _ _ _ ei.size (ol++l) hrl (bp.mono hS0.ext (λ _ _=>rfl) (λ _ h=>h) _ _ (by simp only[List.flatten_append];exact bp.append _ _ _ _ o1 q1)) (λ u hu=>by rcases bF.1 hu with hu|hu;exact o2 u hu;exact q2 u hu) hcells)
 refine⟨_,_,_,hrun,⟨hS0.other,hS0.ext,xt,λ_ h=>h⟩,hM.drop _ (λ j oj hj=>?_),?_⟩;simp only[cu]at hj ⊢;split at hj;rw[aY ‹_›];exact hj;rw[aT ‹_›,aT ‹_›];exact hj;simp only[VR];exact .inr ⟨b,sz,⟨m.m,a,hle⟩,cap,a,by simp[ins],rfl,hroom,by simp only[Nat.zero_add];omega,by simp⟩;have holds:∀j v,ol[j]? =some v->w.cell? ((⟨b,a,none⟩:Addr).add j)=some v:=by
  intro j v hj;have hjl:=(dx.1 hj).1;have BE:len≠0:=λh0=>by rw[hol,h0]at hjl;simp at hjl
  rw[addr_add,h4 (by omega)];have:=o5 j v hj;simp[World.cell?,hc]at this ⊢;exact this
 have hm:len+n<=9223372036854775807:=by simp[maxLen]at h63;omega
 have hrun:=run_append_grow (P:=P) w t ty e info z eS g1 g5 ⟨b,a,none⟩ len cap ol hol holds a' n c' l (by rw[q3,g3]) q5 (by omega) (by omega) (growslice_fits (by omega) (by rw[g4];exact h48));have happ:bp P β w I (o.rows.drop aa++al).flatten (ol++l):=by simp[List.flatten_append];exact bp.append _ _ _ _ o1 q1
 obtain⟨hS,hM⟩:=Mem.grow (i:=i) (e:=e) (ae:=Builtin.zeroCells z.cells (grownCap w (len+n) cap e-(len+n))) h hn hrl happ (λ u hu=>by rcases bF.1 hu with hu|hu;exact o2 u hu;exact q2 u hu);have ar3:ol.toArray++l.toArray++Builtin.zeroCells z.cells (grownCap w (len+n) cap e-(len+n))=(ol++l).toArray++Builtin.zeroCells z.cells (grownCap w (len+n) cap e-(len+n)):=by simp
 rw[ar3]at hrun;refine⟨_,_,_,hrun,hS,B9 hM,?_⟩;simp only[VR];refine .inr ⟨w.heap.size,ei.size,_,_,0,by simp[ins];rfl,rfl,grownCap_ge w (len+n) cap e,?_,by simp⟩;have hz:z.cells.size=ei.size:=by rw[<- Array.length_toList,g6];exact he.len
 have hge:=grownCap_ge w (len+n) cap e;simp[size_zeroCells,al0,Up,q3,hol,hz,g3,Nat.zero_add,<- Nat.add_mul];exact Nat.mul_le_mul_right _ (by omega)
end
section
variable {P:Program} {T:en} {w0:World} {O0:iu} {β:Nat->Option cH} {I:Nat->Prop} {obj:Nat->Option aR} {w:World} {i:Nat}
theorem ZO(hT:fB P T)(h:Mem P w0 O0 β I obj w)(hn:β (cJ i)=none){t ty:Θ}{x y:AV}{cy:ka}{get:Ω}{out:Out}{u v:Ψ}(hg:∀k o,get k=some o->obj k=some o)
 (ha:AP T i t x y cy get=some out) (cN:out.ob) (hx:VR P β w I x u) (hy:VR P β w I y v):
 ∃z w' β',(Builtin.append_ #[t,t] ty #[u,v]).run P w=.ok z w'/\Step β I w (cJ i) β' I w'/\Mem P w0 O0 β' I (cu obj out.upd) w'/\VR P β' w' I out.v z:=by
 unfold AP at ha;cases hti:T t with
 |none=>simp[hti]at ha
 |some ti=>
  have ht:=hT t ti hti;simp only[hti,ai]at ha;split at ha;rename_i e hkd;cases ii:T e with
  |none=>simp[ii]at ha
  |some ei=>
   simp only[ii,ai]at ha;have eS:=iU ht hkd;split at ha;cases hs:Wm ei.size y get with
   |none=>simp[hs]at ha
   |some p=>
    obtain⟨n,ob,al⟩:=p;simp only[hs,ai]at ha;split at ha;rename_i k aa len;cases hk:get k with
    |none=>simp[hk]at ha
    |some o=>
     simp only[hk,ai]at ha;split at ha;rename_i hsz;cases ha;obtain⟨b1,b2,b3,rfl,b5,b6⟩:=cN;have e:(o.rows.drop aa++al).length=len+n:=(by rw[dZ,b2,b3]);simp only[e];exact Ui hT h hn eS ii (hg k o hk) hsz b2 hx (aaU h hg hs b1 b3 hy) b3 b5 b6;cases ha
    cases ha;obtain⟨b1,b2,rfl,b5,b6⟩:=cN;simp[VR]at hx;subst hx;simp only[b2];exact Gd hT h hn eS ii (aaU h hg hs b1 b2 hy) b2 b5 b6;cases ha
   cases ha
  cases ha
theorem bp.map{ρ:Operand->AV}{r:Operand->Value}(hρ:∀x,VR P β w I (ρ x) (r x)):∀(l:U Operand),bp P β w I (l.map ρ) (l.map r)
 |[]=>by simp[bp]
 |x::xs=>by simp;exact⟨hρ x,bp.map hρ xs⟩
theorem Ws(hT:fB P T)(h:Mem P w0 O0 β I obj w)(hn:β (cJ i)=none){b:Builtin}{args:U AV}{de:Array TypeId}{cy:ka}{get:Ω}{out:Out}(hg:∀k o,get k=some o->obj k=some o)
 {vs:η} {ty:Θ} {ag:Array Operand} (ha:Da T i b args de.toList cy get=some out) (cN:out.ob) (hv:bp P β w I args vs.toList) {r:Operand->Value} (hops:vs=ag.map r) {dst:J Tmp} {am:String} {after:Array Edge} {guard:J (Nat×Bool)}:
 s9 P w0 O0 β I obj w i out ((execOp r ⟨dst,.call { callee:=.builtin b,args:=ag,argTypes:=de },ty,am,after,guard⟩).run P w):=by
 unfold Da at ha;split at ha;rename_i x t sd;obtain⟨v,hvs⟩:∃v,vs=#[v]:=by
  obtain⟨l⟩:=vs
  match l,hv with
  |[v],_=>exact⟨v,rfl⟩
  |[],h|_::_::_,h=>simp[bp]at h
 have ht:de=#[t]:=by cases de;simpa using sd
 subst hvs ht;simp only[bp]at hv;have⟨u,h1,h2,h3⟩:=ahf (ty:=ty) hT ha cN hv.1;refine⟨u,w,β,I,.inl ?_,Step.refl ..,by rw[h3];exact h,h2⟩;simp[execOp,resolve,invoke,builtin,<- hops,h1];have⟨u,h1,h2,h3⟩:=aaS (de:=de) (ty:=ty) ha hv;simp at h1;refine⟨u,w,β,I,.inl ?_,Step.refl ..,by rw[h3];exact h,h2⟩;simp[execOp,resolve,invoke,builtin,<- hops,h1];have⟨u,h1,h2,h3⟩:=aaS (de:=de) (ty:=ty) ha hv;simp at h1;refine⟨u,w,β,I,.inl ?_,Step.refl ..,by rw[h3];exact h,h2⟩;simp[execOp,resolve,invoke,builtin,<- hops,h1];rename_i x y t u sd;split at ha;rename_i htu;subst htu;obtain⟨v,v',hvs⟩:∃v v',vs=#[v,v']:=by
  obtain⟨l⟩:=vs
  match l,hv with
  |[v,v'],_=>exact⟨v,v',rfl⟩
  |[],h|[_],h|_::_::_::_,h=>simp[bp]at h
 have ht:de=#[t,t]:=by cases de;simpa using sd
 subst hvs ht;simp only[bp]at hv;have⟨z,w',β',h1,h2,h3,h4⟩:=ZO (ty:=ty) hT h hn hg ha cN hv.1 hv.2.1;refine⟨z,w',β',I,.inl ?_,h2,h3,h4⟩;simp[execOp,resolve,invoke,builtin,<- hops,h1];cases ha;cases ha
theorem SA(hT:fB P T)(h:Mem P w0 O0 β I obj w)(hn:β (cJ i)=none){o:Oper}{cy:ka}{ρ:Operand->AV}{get:Ω}{out:Out}(hg:∀k o,get k=some o->obj k=some o)
 {r:Operand->Value} (hρ:∀x,VR P β w I (ρ x) (r x)) (ha:ru T i o cy ρ get=some out) (cN:out.ob):s9 P w0 O0 β I obj w i out ((execOp r o).run P w):=by
 obtain⟨dst,op,ty,am,after,guard⟩:=o;have val:∀{s:Sem Value}{z:Value},s.run P w=.ok z w->out.upd=[]->VR P β w I out.v z->s9 P w0 O0 β I obj w i out ((do pure (.value (<- s)):Sem Next).run P w):=by intro s z h1 h2 h3;refine⟨z,w,β,I,.inl (by simp[h1]),Step.refl ..,by rw[h2];exact h,h3⟩
 have val':∀{s:Sem Value} {z:Value} {w':World} {β':Nat->J cH},s.run P w=.ok z w'->Step β I w (cJ i) β' I w'->Mem P w0 O0 β' I (cu obj out.upd) w'->VR P β' w' I out.v z->s9 P w0 O0 β I obj w i out ((do pure (.value (<- s)):Sem Next).run P w):=by intro s z w' β' h1 h2 h3 h4;exact⟨z,w',β',I,.inl (by simp[h1]),h2,h3,h4⟩
 unfold ru at ha;split at ha;rename_i x heq;simp at heq;subst heq;simp[pv]at ha;subst ha;exact s9.pure h (hρ x);rename_i x heq;simp at heq;subst heq;simp[pv]at ha;subst ha;exact s9.pure h (hρ x);rename_i c a b heq;simp at heq;subst heq;split at ha;rename_i t hc;simp[pv]at ha;subst ha;have h1:=hρ c;rw[hc]at h1;simp[VR]at h1;refine⟨if t then r a else r b,w,β,I,.inl ?_,Step.refl ..,h,?_⟩;simp[execOp,h1.1,asBool];simp;rw[Wn];cases t;exact hρ b;exact hρ a;cases ha;rename_i e heq;simp at heq;subst heq;have⟨u,w',β',h1,h2,h3,h4⟩:=aci hT h hn ha;exact val' h1 h2 h3 h4;rename_i e x heq;simp at heq;subst heq;have⟨u,w',β',h1,h2,h3,h4⟩:=ahd (e:=e) h hn ha (hρ x);exact val' h1 h2 h3 h4;rename_i t parts heq;simp at heq;subst heq;obtain⟨z,h1,h2,h3⟩:=aco (w:=w) (P:=P) (β:=β) (I:=I) (vs:=parts.map λ(i,x)=>(i,r x)) hT ha (by simp) (by simp;have hm:=bp.map (λ x=>hρ x) (parts.toList.map (·.2));simp at hm;exact hm);exact val h1 h3 h2;rename_i t len parts heq;simp at heq;subst heq;obtain⟨z,w',β',h1,h2,h3,h4⟩:=Nc (vs:=parts.map λ(i,x)=>(i,r x)) hT h hn ha (by simp) (by simp;have hm:=bp.map (λ x=>hρ x) (parts.toList.map (·.2));simp at hm;exact hm);exact val' h1 h2 h3 h4;rename_i t a heq;simp at heq;subst heq;have⟨u,h1,h2,h3⟩:=Sz hT h hg ha cN (hρ a);exact val h1 h3 h2;rename_i t a x heq;simp at heq;subst heq;have⟨w',h1,h2,h3,h4⟩:=ach hT h hg ha cN (hρ a) (hρ x);exact⟨undef,w',β,I,.inr ⟨by simp[execOp,h1],rfl⟩,⟨λ _ _=>rfl,λ_ _ h=>h,h2,λ_ h=>h⟩,h3,by rw[h4];simp[VR]⟩;rename_i op t x y yt heq;simp at heq;subst heq;have⟨z,h1,h2,h3⟩:=ahe (xo:=x) (yo:=y) hT ha cN (hρ x) (hρ y);exact val h1 h3 h2;rename_i op t x heq;simp at heq;subst heq;have⟨z,h1,h2,h3⟩:=ako ha (hρ x);exact val h1 h3 h2;rename_i f first caps heq
 simp at heq;subst heq;simp[pv]at ha;subst ha;refine⟨.func (.func f) (first.map r) (caps.map r),w,β,I,.inl ?_,Step.refl ..,h,?_⟩;simp[execOp,Instr.makeFunc];simp only[VR];exact⟨_,_,rfl,by rw[Array.toList_map];exact bp.map hρ _,by rw[Array.toList_map];exact bp.map hρ _⟩;rename_i t x lo hi heq;simp at heq;subst heq
 obtain⟨u,h1,h2,h3⟩:=acp (uu:=lo.map r) (hiv:=hi.map r) hT h hg ha cN (hρ x)
  (λ y hy=>by
   cases lo with
   |none=>simp at hy
   |some z=>simp at hy;subst hy;exact⟨r z,rfl,hρ z⟩) (λ hy=>by cases lo<;>simp at hy ⊢)
  (λ y hy=>by
   cases hi with
   |none=>simp at hy
   |some z=>simp at hy;subst hy;exact⟨r z,rfl,hρ z⟩) (λ hy=>by cases hi<;>simp at hy ⊢)
 exact val h1 h3 h2;rename_i t x f heq;simp at heq;subst heq;have⟨u,h1,h2,h3⟩:=Qq hT ha (hρ x);exact val h1 h3 h2;rename_i t x f heq;simp at heq;subst heq;have⟨u,h1,h2,h3⟩:=acj hT ha (hρ x);exact val h1 h3 h2;rename_i t x j heq;simp at heq;subst heq;have⟨u,h1,h2,h3⟩:=Qr hT h hg ha cN (hρ x) (hρ j);exact val h1 h3 h2;rename_i x j heq;simp at heq;subst heq;have⟨u,h1,h2,h3⟩:=Wp ha (hρ x);exact val h1 h3 h2;rename_i b args de heq;simp at heq;subst heq;exact Ws (ty:=ty) hT h hn hg (vs:=args.map r) ha cN (by rw[Array.toList_map];exact bp.map hρ _) rfl;cases ha
end
def Tree.flat:Tree->Prop
 |.sc _=>True
 |.sl _=>False
def TV.flat:TV->Prop
 |.s x=>x.flat
 |.a cs=>∀x∈cs,x.flat
def RC.flat:RC->Prop
 |.d x=>x.flat
 |.fresh _ rows=>∀r∈rows,∀x∈r,x.flat
 |.whole _ _=>True
def RV.flat:RV->Prop
 |.one c=>c.flat
 |.fm cs=>∀c∈cs,c.flat
def KC(i:Nat)(ab:U Nat):RC->AV×List (Nat×Option aR)
 |.whole j len=>(match ab[j]? with|some k=>.own k 0 len|none=>.undef,[])
 |.d x=>(x.av,[])
 |.fresh sz rows=>(.own (cJ i) 0 (aI rows).length,[(cJ i,some ⟨sz,aI rows⟩)])
def Nf(i:Nat)(ab:U Nat):U RC->J (List AV×List (Nat×Option aR))
 |[]=>some ([],[])
 |c::cs=>(Nf i ab cs).bind λp=>if (KC i ab c).2.isEmpty || p.2.isEmpty then some ((KC i ab c).1::p.1,(KC i ab c).2++p.2)else none
def imp(i:Nat)(ab:U Nat):RV->J (AV×List (Nat×Option aR))
 |.one c=>some (KC i ab c)
 |.fm cs=>(Nf i ab cs).bind λp=>some (.fm p.1,p.2)
mutual
def qd(P:Program)(get:Nat->Option aR):AV->List LH->Option (AV×List LH×List Prop)
 |.t x,hs=>some (.t x,hs,[])
 |.agg cs,hs=>(nE P get cs hs).bind λp=>some (.agg p.1,p.2.1,p.2.2)
 |.fm _,_=>none
 |.own k aa len,hs=>match hs with
  |.rows tr::hs=>(get k).bind λo=>some (.t (.sl tr),hs,[(o.rows.drop aa).take len=aI tr/\tr.length=len])
  |_=>none
 |.ptr k row aa,hs=>match hs with
  |.row tr::hs=>(get k).bind λo=>some (.eE tr aa,hs,[o.rows[row]? =some (tr.map AV.t)])
  |_=>none
 |.eE r o,hs=>some (.eE r o,hs,[])
 |.fn f first caps,hs=>match hs with
  |.fn::hs=>(nE P get first hs).bind λp=>(nE P get caps p.2.1).bind λq=>some (.fn f p.1 q.1,q.2.1,p.2.2++q.2.2)
  |.d7 φ::hs=>(nE P get first hs).bind λp=>(nE P get caps p.2.1).bind λq=>
   some (.d7 φ,q.2.1,p.2.2++(q.2.2++[p.1=[]/\eZ P f/\∀args r,φ args r->tR P f (p.1++args.map TV.av++q.1) (.one (.d r))]))
  |_=>none
 |.d7 φ,hs=>some (.d7 φ,hs,[])
 |.mp _,_=>none
 |.oz k len,hs=>match hs with
  |.rows tr::hs=>(get k).bind λo=>some (.t (.sl tr),hs,[(o.rows.drop 0).take len=aI tr/\tr.length=len])
  |_=>none
 |.cT,hs=>match hs with
  |.nil::hs=>some (.cT,hs,[])
  |.emp::hs=>some (.t (.sl []),hs,[])
  |_=>none
 |.ub,_=>none
 |.undef,_=>none
def nE(P:Program)(get:Nat->Option aR):List AV->List LH->Option (List AV×List LH×List Prop)
 |[],hs=>some ([],hs,[])
 |x::xs,hs=>(qd P get x hs).bind λp=>(nE P get xs p.2.1).bind λq=>some (p.1::q.1,q.2.1,p.2.2++q.2.2)
end
def AR(P:Ξ)(i:Nat)(f:AV)(args:U AV)(cy:ka)(get:Ω):J Out:=
 match f,cy with
 |.fn F first caps,.call hs rv keep=>(imp i [] rv).bind λp=>(nE P get (first++args++caps) hs).bind λq=>
  if keep then some ⟨p.1,p.2,q.2.2++[tR P F q.1 rv,rv.flat]⟩
  else some ⟨p.1,p.2++(fA (first++args++caps)).map (λ k=>(k,none)),q.2.2++[tR P F q.1 rv]⟩
 |.d7 φ,.GS hs targs r keep=>(nE P get args hs).bind λq=>
  if keep then some ⟨r.av,[],q.2.2++[q.1=targs.map TV.av,φ targs r,r.flat]⟩
  else some ⟨r.av,(fA args).map (λ k=>(k,none)),q.2.2++[q.1=targs.map TV.av,φ targs r]⟩
 |_,_=>none
def AU(P:Ξ)(w0:Δ)(O0:iu)(β:ζ)(I:Φ)(obj:Ω)(w:Δ)(i:Nat)(out:Out)(r:Result Next):Prop:=
 ∃F args,r=.ok (.enter F args) w/\Calls P F args w λe w'=>∃v' β' I',e=.returned v'/\Step β I w (cJ i) β' I' w'/\Mem P w0 O0 β' I' (cu obj out.upd) w'/\VR P β' w' I' out.v v'
section
variable {P:Program} {T:en} {w0:World} {O0:iu} {β:Nat->Option cH} {I:Nat->Prop} {obj:Nat->Option aR} {w:World} {i:Nat}
mutual
theorem fL.weaken{get get':Nat->Option aR}(h:∀k o,get k=some o->get' k=some o):∀(xs ys:List AV),fL P get xs ys->fL P get' xs ys
 |[],[],_=>by simp[fL]
 |x::xs,y::ys,hb=>by simp[fL]at hb ⊢;exact⟨gj.weaken h x y hb.1,fL.weaken h xs ys hb.2⟩
 |[],_::_,hb|_::_,[],hb=>by simp[fL]at hb
theorem gj.weaken{get get':Nat->Option aR}(h:∀k o,get k=some o->get' k=some o):∀(x y:AV),gj P get x y->gj P get' x y
 |.t _,_,hb=>by simpa[gj]using hb
 |.agg cs,y,hb=>by simp[gj]at hb ⊢;obtain⟨cs',h1,h2⟩:=hb;exact⟨cs',h1,fL.weaken h cs cs' h2⟩
 |.fm _,_,hb=>by simp[gj]at hb
 |.own k aa len,y,hb=>by simp only[gj]at hb ⊢;obtain⟨o,tr,h1,h2⟩:=hb;exact⟨o,tr,h k o h1,h2⟩
 |.ptr k row aa,y,hb=>by simp only[gj]at hb ⊢;obtain⟨o,tr,h1,h2⟩:=hb;exact⟨o,tr,h k o h1,h2⟩
 |.eE _ _,_,hb=>by simpa[gj]using hb
 |.fn f first caps,y,hb=>by simp only[gj]at hb ⊢;obtain⟨a,b,h1,h2,h3⟩:=hb;exact⟨a,b,fL.weaken h first a h1,fL.weaken h caps b h2,h3⟩
 |.d7 _,_,hb=>by simpa[gj]using hb
 |.oz k len,y,hb=>by simp only[gj]at hb ⊢;obtain⟨o,tr,h1,h2⟩:=hb;exact⟨o,tr,h k o h1,h2⟩
 |.cT,_,hb=>by simpa[gj]using hb
 |.ub,_,hb|.undef,_,hb=>by simp[gj]at hb
end
mutual
theorem Ew{get:Nat->Option aR}:∀(x:AV)(hs:List LH)(p:AV×List LH×List Prop),qd P get x hs=some p->(∀ q∈p.2.2,q)->gj P get x p.1
 |.t x,hs,p,h,_=>by simp[qd]at h;subst h;simp[gj]
 |.agg cs,hs,p,h,ho=>by simp only[qd,ah,bV]at h;obtain⟨q,h1,rfl⟩:=h;simp only[gj];exact⟨_,rfl,kQ cs hs q h1 ho⟩
 |.fm _,_,_,h,_=>by simp[qd]at h
 |.own k aa len,hs,p,h,ho=>by simp[qd]at h;split at h;simp[ah]at h;obtain⟨o,h1,rfl⟩:=h;have h2:=ho _ (bg.2 rfl);simp only[gj];exact⟨o,_,h1,rfl,h2.1,h2.2⟩;cases h
 |.ptr k row aa,hs,p,h,ho=>by simp[qd]at h;split at h;simp[ah]at h;obtain⟨o,h1,rfl⟩:=h;have h2:=ho _ (bg.2 rfl);simp only[gj];exact⟨o,_,h1,rfl,h2⟩;cases h
 |.eE r o,hs,p,h,_=>by simp[qd]at h;subst h;simp[gj]
 |.fn f first caps,hs,p,h,ho=>by simp only[qd]at h;split at h;simp only[ah,bV]at h;obtain⟨q,h1,q',h2,rfl⟩:=h;simp only[gj];exact⟨q.1,q'.1,kQ first _ q h1 (λ x hx=>ho x (by simp[hx])),kQ caps _ q' h2 (λ x hx=>ho x (by simp[hx])),.inl rfl⟩;simp only[ah,bV]at h;obtain⟨q,h1,q',h2,rfl⟩:=h;have h3:=ho _ (by simp only[bF,bg];exact .inr (.inr rfl));simp only[gj];exact⟨q.1,q'.1,kQ first _ q h1 (λ x hx=>ho x (by simp[hx])),kQ caps _ q' h2 (λ x hx=>ho x (by simp[hx])),.inr ⟨_,rfl,h3.1,h3.2⟩⟩;cases h
 |.d7 φ,hs,p,h,_=>by simp[qd]at h;subst h;simp[gj]
 |.mp _,_,_,h,_=>by simp[qd]at h
 |.oz k len,hs,p,h,ho=>by simp[qd]at h;split at h;simp[ah]at h;obtain⟨o,h1,rfl⟩:=h;have h2:=ho _ (bg.2 rfl);simp only[gj];exact⟨o,_,h1,rfl,h2.1,h2.2⟩;cases h
 |.cT,hs,p,h,_=>by simp[qd]at h;split at h;cases h;simp[gj];cases h;simp[gj];cases h
 |.ub,_,_,h,_|.undef,_,_,h,_=>by simp[qd]at h
theorem kQ{get:Nat->Option aR}:∀(xs:List AV)(hs:List LH)(p:List AV×List LH×List Prop),nE P get xs hs=some p->(∀ q∈p.2.2,q)->fL P get xs p.1
 |[],hs,p,h,_=>by simp[nE]at h;subst h;simp[fL]
 |x::xs,hs,p,h,ho=>by simp only[nE,ah,bV]at h;obtain⟨q,h1,q',h2,rfl⟩:=h;simp;exact⟨Ew x hs q h1 (λ y hy=>ho y (by simp[hy])),kQ xs _ q' h2 (λ y hy=>ho y (by simp[hy]))⟩
end
theorem rP:∀(l:U Prop),lg l->∀p∈l,p
 |[],_,_,hp=>by simp at hp
 |[q],h,p,hp=>by rw[bg]at hp;rw[hp];exact h
 |q::r::l,h,p,hp=>by rcases aL.1 hp with e|hp;rw[e];exact h.1;exact rP (r::l) h.2 p hp
theorem Tree.m8{w':Δ}{I':Φ}:∀{x:Tree}{v:Value},x.flat->TR w I x v->TR w' I' x v
 |.sc _,_,_,h=>by simpa[TR]using h
 |.sl _,_,hf,_=>hf.elim
theorem TV.xy{w':Δ}{I':Φ}:∀{x:TV}{v:Value},x.flat->vd w I x v->vd w' I' x v
 |.s _,_,hf,h=>Tree.m8 hf h
 |.a cs,v,hf,⟨vs,h1,h2⟩=>by
  refine⟨vs,h1,?_⟩;have:∀(cs:U Tree)(vs:U Value),(∀ x∈cs,x.flat)->eV w I cs vs->eV w' I' cs vs:=by
   intro cs
   induction cs with
   |nil=>intro vs _ h;cases vs with
    |nil=>trivial
    |cons=>exact h.elim
   |cons x xs ih=>intro vs hf h;cases vs with
    |nil=>exact h.elim
    |cons v vs=>exact⟨Tree.m8 (hf x (by simp)) h.1,ih vs (λ y hy=>hf y (by simp[hy])) h.2⟩
  exact this cs vs.toList hf h2
theorem cd.flat{β':ζ}{w':Δ}{I':Φ}(rows:U (List Tree))(c:η)(aa sz:Nat)(hf:∀r∈rows,∀x∈r,Tree.flat x)(h:cd P β w I (aI rows) c aa sz):cd P β' w' I' (aI rows) c aa sz:=by rw[pF]at h ⊢;intro i r hr;have⟨h1,h2⟩:=h i r hr;refine⟨h1,?_⟩;rw[jZ]at h2 ⊢;intro j x hx;have⟨v,g1,g2,g3⟩:=h2 j x hx;refine⟨v,g1,?_,g3⟩;simp[aI]at hr;obtain⟨r',hr',rfl⟩:=hr;simp at hx;obtain⟨x',hx',rfl⟩:=hx;exact Tree.m8 (hf r' (cZ hr') x' (cZ hx')) g2
theorem TV.Pr{x:TV}{v:Ψ}(h:vd w I x v):VR P β w I x.av v:=by
 cases x with
 |s x=>simp[TV.av];exact h
 |a cs=>
  obtain⟨vs,rfl,h⟩:=h;refine⟨vs,rfl,?_⟩;have:∀(cs:U Tree)(us:U Value),eV w I cs us->bp P β w I (cs.map AV.t) us:=by
   intro cs
   induction cs with
   |nil=>intro us h;cases us with
    |nil=>simp[bp]
    |cons=>simp[eV]at h
   |cons x xs ih=>intro us h;cases us with
    |nil=>simp[eV]at h
    |cons y ys=>simp[eV]at h;simp;exact⟨h.1,ih _ h.2⟩
  exact this cs vs.toList h
theorem Mem.fresh{i:Nat}{obj:Ω}{F:Φ}{sz:Nat}{rows:U (List Tree)}{v:Ψ}(h:Mem P w0 O0 β I obj w)(hn:β i=none)(hlt:∀k o b,obj k=some o->gi β k b->¬F b)(hle:∀b,F b->O0.own b\/w0.heap.size<=b)(hf:mz P F sz rows w I v):
 ∃ β',Step β I w i β' I w/\Mem P w0 O0 β' I (cu obj [(i,some ⟨sz,aI rows⟩)]) w/\VR P β' w I (.own i 0 rows.length) v:=by
 rcases hf with ⟨rfl,rfl⟩|⟨b,c,e,cap,o,s,rfl,h1,h2,h3,h4,h5,h6,h7⟩;have⟨hS,hM⟩:=Mem.p0 (i:=i) (o:=⟨sz,aI []⟩) h hn rfl;exact⟨_,hS,hM,by simp only[VR];exact .inl ⟨by simp[ins],trivial,trivial,rfl⟩⟩;have hsl:s<=c.size:=by omega
 have hS:Step β I w i (ins β i (.at b sz ⟨c.size,s,hsl⟩)) I w:=⟨λ j hj=>by simp[ins,jt.ne hj],om hn,λ_ _=>rfl,λ_ h=>h⟩;refine⟨_,hS,?_,by simp only[VR];exact .inr ⟨b,sz,⟨c.size,s,hsl⟩,cap,o,by simp[ins],rfl,h4,by simpa using h5,λhc=>by simpa using h7 hc⟩⟩;have hbl:b<w.heap.size:=(Array.getElem?_eq_some_iff.1 h3).1;constructor;intro k o' hk;simp[cu]at hk;split at hk;cases hk;rename_i hki;exact⟨.at b sz ⟨c.size,s,hsl⟩,by simp[ins,hki],rfl,c,e,h3,rfl,cd.mono (λ k B h=>by simp[ly]at h) (λ _ _=>rfl) (λ _ h=>h) _ _ _ _ h6⟩;have⟨B,hB,hO⟩:=h.cD k o' hk;exact⟨B,om hn _ _ hB,OR.mono hS.ext hS.same hS.inc (λ _ _=>rfl) hO⟩;intro k k' o1 o2 B1 B2 b1 e1 e2 e3 e4 e5 e6;simp[cu]at e1 e2;simp[ins]at e3 e4;split at e3<;>split at e4;rename_i p q;rw[p,q];rename_i p q;cases e3;cases e5;rw[aT q]at e2;exact(hlt k' o2 _ e2 ⟨_,e4,e6⟩ h1).elim;rename_i p q;cases e4;cases e6;rw[aT p]at e1;exact(hlt k o1 _ e1 ⟨_,e3,e5⟩ h1).elim;rename_i p q;rw[aT p]at e1;rw[aT q]at e2;exact h.eI k k' o1 o2 B1 B2 b1 e1 e2 e3 e4 e5 e6;intro k o' B1 b1 e1 e2 e3;simp[cu]at e1;simp[ins]at e2;split at e2;cases e2;cases e3;exact⟨h2,hbl,hle _ h1⟩;rename_i p;rw[aT p]at e1;exact h.ownB k o' B1 b1 e1 e2 e3;exact h.lt;exact h.up;exact h.keep;exact h.le;exact h.os;exact h.tape;exact h.output;intro j C hj;exact om hn _ _ (h.anch j C hj);exact h.vars
theorem Wt{i:Nat}{ab:U Nat}{F:Φ}{βc:ζ}{c:RC}{v:Ψ}(h:Mem P w0 O0 β I obj w)(hn:β (cJ i)=none)(hlt:∀k o b,obj k=some o->gi β k b->¬F b)(hle:∀b,F b->O0.own b\/w0.heap.size<=b)(hbc:∀j B,βc j=some B->∃k,ab[j]? =some k/\β k=some B)(hc:A3 P F βc c w I v):
 ∃ β',Step β I w (cJ i) β' I w/\Mem P w0 O0 β' I (cu obj (KC i ab c).2) w/\VR P β' w I (KC i ab c).1 v/\((KC i ab c).2=[]->β'=β):=by
 cases c with
 |d x=>exact⟨β,Step.refl ..,h,TV.Pr hc,λ_=>rfl⟩
 |fresh sz rows=>
  have⟨β',h1,h2,h3⟩:=Mem.fresh (i:=cJ i) h hn hlt hle hc;exact⟨β',h1,h2,by simpa[KC,aI]using h3,λh=>by simp[KC]at h⟩
 |whole j len=>
  refine⟨β,Step.refl ..,h,?_,λ_=>rfl⟩;have hc:VR P βc w I (.own j 0 len) v:=hc;simp[KC]
  all_goals grind [VR]
theorem Wu{i:Nat}{ab:U Nat}{F:Φ}{βc:ζ}:∀(cs:U RC)(vs:U Value)(p:U AV×List (Nat×Option aR)),Mem P w0 O0 β I obj w->β (cJ i)=none->(∀ k o b,obj k=some o->gi β k b->¬F b)->(∀ b,F b->O0.own b\/w0.heap.size<=b)->(∀ j B,βc j=some B->∃k,ab[j]? =some k/\β k=some B)->
 Nf i ab cs=some p->V5 P F βc cs w I vs->∃ β',Step β I w (cJ i) β' I w/\Mem P w0 O0 β' I (cu obj p.2) w/\bp P β' w I p.1 vs/\(p.2=[]->β'=β)
 |[],[],p,h,_,_,_,_,hp,_=>by simp[Nf]at hp;subst hp;exact⟨β,Step.refl ..,h,by simp[bp],λ_=>rfl⟩
 |c::cs,v::vs,p,h,hn,hlt,hle,hbc,hp,hr=>by
  simp[V5]at hr;simp[Nf]at hp;cases hq:Nf i ab cs with
  |none=>simp[hq]at hp
  |some q=>
   simp only[hq,ai]at hp;split at hp;rename_i hem;simp at hp;subst hp;have⟨β1,g1,g2,g3,g4⟩:=Wt (i:=i) h hn hlt hle hbc hr.1;have⟨β2,k1,k2,k3,k4⟩:=Wu cs vs q h hn hlt hle hbc hq hr.2;have E0:(KC i ab c).2=[]\/q.2=[]:=(by simpa using hem);rcases E0 with hem|hem;have:=g4 hem;subst this;refine⟨β2,k1,by simpa[hem]using k2,?_,λh0=>k4 (by simpa[hem]using h0)⟩;simp;exact⟨VR.mono k1.ext k1.same k1.inc _ _ g3,k3⟩;have:=k4 hem;subst this;refine⟨β1,g1,by simpa[hem]using g2,?_,λh0=>g4 (by simpa[hem]using h0)⟩;simp;exact⟨g3,bp.mono g1.ext g1.same g1.inc _ _ k3⟩;cases hp
 |[],_::_,_,_,_,_,_,_,_,hr|_::_,[],_,_,_,_,_,_,_,hr=>by simp[V5]at hr
theorem Qs{i:Nat}{ab:U Nat}{F:Φ}{βc:ζ}{rv:RV}{v:Ψ}{p:AV×List (Nat×Option aR)}(h:Mem P w0 O0 β I obj w)(hn:β (cJ i)=none)(hlt:∀k o b,obj k=some o->gi β k b->¬F b)(hle:∀b,F b->O0.own b\/w0.heap.size<=b)(hbc:∀j B,βc j=some B->∃k,ab[j]? =some k/\β k=some B)
 (hp:imp i ab rv=some p) (hr:sg P F βc rv w I v):∃ β',Step β I w (cJ i) β' I w/\Mem P w0 O0 β' I (cu obj p.2) w/\VR P β' w I p.1 v:=by
 cases rv with
 |one c=>
  simp[imp]at hp;subst hp;have⟨β',h1,h2,h3,_⟩:=Wt (i:=i) h hn hlt hle hbc hr;exact⟨β',h1,h2,h3⟩
 |fm cs=>
  simp[imp]at hp;cases hq:Nf i ab cs with
  |none=>simp[hq]at hp
  |some q=>
   simp[hq]at hp;subst hp;obtain⟨vs,rfl,hvs⟩:=hr;have⟨β',h1,h2,h3,_⟩:=Wu (i:=i) cs vs.toList q h hn hlt hle hbc hq hvs;exact⟨β',h1,h2,by simp only[VR];exact⟨vs,rfl,h3⟩⟩
theorem tN(obj:Ω):∀(a b:U (Nat×Option aR))(k:Nat),cu obj (a++b) k=cu (cu obj b) a k
 |[],_,_=>rfl
 |(j,o)::a,b,k=>by simp[cu,tN obj a b k]
theorem y9(obj:Ω):∀(ab:U Nat)(k:Nat),cu obj (ab.map λk=>(k,none)) k=if k∈ab then none else obj k
 |[],k=>by simp[cu]
 |j::ab,k=>by simp[cu,y9 obj ab k];by_cases h:k=j<;>simp[h]
end
section
variable {P:Program} {T:en} {w0:World} {O0:iu} {β:Nat->Option cH} {I:Nat->Prop} {obj:Nat->Option aR} {w:World} {i:Nat}
theorem sg.flat{F:Φ}{βc:ζ}{w':Δ}{I' Hm:Φ}{rv:RV}{v:Ψ}(hf:rv.flat)(hI:∀b,Hm b->I' b)(h:sg P F βc rv w' I' v):sg P F βc rv w' Hm v:=by
 have hc:∀(c:RC)(v:Value),c.flat->A3 P F βc c w' I' v->A3 P F βc c w' Hm v:=by
  intro c v hf h;cases c with
  |d x=>exact TV.xy hf h
  |fresh sz rows=>
   rcases h with h|⟨b,c,e,cap,o,s,h1,h2,h3,h4,h5,h6,h7,h8⟩;exact .inl h;exact .inr ⟨b,c,e,cap,o,s,h1,h2,λhb=>h3 (hI b hb),h4,h5,h6,cd.flat rows c s sz hf h7,h8⟩
  |whole j len=>have h:VR P βc w' I' (.own j 0 len) v:=h;show VR P βc w' Hm (.own j 0 len) v;simp[VR]at h ⊢;exact h
 cases rv with
 |one c=>exact hc c v hf h
 |fm cs=>
  obtain⟨vs,rfl,h⟩:=h;refine⟨vs,rfl,?_⟩;have:∀(cs:U RC)(vs:U Value),(∀ c∈cs,c.flat)->V5 P F βc cs w' I' vs->V5 P F βc cs w' Hm vs:=by
   intro cs
   induction cs with
   |nil=>intro vs _ h;cases vs with
    |nil=>trivial
    |cons=>exact h.elim
   |cons c cs ih=>intro vs hf h;cases vs with
    |nil=>exact h.elim
    |cons v vs=>exact⟨hc c v (hf c (by simp)) h.1,ih vs (λ y hy=>hf y (by simp[hy])) h.2⟩
  exact this cs vs.toList hf h
theorem Wv(h:Mem P w0 O0 β I obj w)(hn:β (cJ i)=none){ab:U Nat}{rv:RV}{p:AV×List (Nat×Option aR)}{keep:Bool}(hp:imp i [] rv=some p)(hk:keep=true->rv.flat)
 {w':Δ} {I1:Φ} {v:Ψ} (hb:Below w.heap.size w w') (h1:∀b,ft β obj ab I b->I1 b) (h2:∀b,I1 b->b<w'.heap.size) (h3:∀b,I1 b->ft β obj ab I b\/w.heap.size<=b) (hr:sg P (TX w) ly rv w' I1 v):
 ∃ β' I',Step β I w (cJ i) β' I' w'/\Mem P w0 O0 β' I' (cu obj (p.2++if keep then []else ab.map (λ k=>(k,none)))) w'/\VR P β' w' I' p.1 v:=by
 have hlt:∀(kq:Nat->J aR),(∀ k o,kq k=some o->obj k=some o)->∀k o b,kq k=some o->gi β k b->¬TX w b:=λkq hs k o b e1 e2 hb=>Nat.lt_irrefl _ (Nat.lt_of_lt_of_le (h.j0 k o b (hs k o e1) e2).2.1 hb);have hnew:∀b,TX w b->O0.own b\/w0.heap.size<=b:=λb hb=>.inr (Nat.le_trans h.le hb);have hup:∀b,I1 b->O0.qv b\/O0.own b\/w0.heap.size<=b:=λb hb'=>by rcases h3 b hb' with (h5|⟨k',o',s',n',g1,g2,g3⟩)|h5;exact h.up b h5;exact .inr (h.own k' o' b s' n' g2 g3).2.2;exact .inr (.inr (Nat.le_trans h.le h5))
 cases keep with
 |true=>
  obtain⟨hS,hM⟩:=h.below (I':=λb=>I1 b/\(I b\/w.heap.size<=b)) hb (λ b hb'=>⟨h1 b (.inl hb'),.inl hb'⟩) (λ b hb'=>h2 b hb'.1) (λ b k o B hb' e1 e2 e3=>by obtain⟨a1,a2,_⟩:=h.ownB k o B b e1 e2 e3;rcases hb'.2 with h5|h5;exact a1 h5;omega) (λ b hb'=>hup b hb'.1);obtain⟨β',k1,k2,k3⟩:=Qs hM hn (hlt obj (λ _ _ h=>h)) hnew (λ _ _ h=>by cases h) hp (sg.flat (hk rfl) (λ b hb=>hb.1) hr);refine⟨β',_,⟨k1.other,k1.ext,hS,λb hb'=>⟨h1 b (.inl hb'),.inl hb'⟩⟩,?_,k3⟩;simpa using k2
 |false=>
  have hsub:∀k o,cu obj (ab.map λk=>(k,none)) k=some o->obj k=some o/\k∉ab:=by intro k o hk;rw[y9]at hk;split at hk;cases hk;exact⟨hk,‹_›⟩
  have hd:=h.drop (cu obj (ab.map λk=>(k,none))) (λ k o hk=>(hsub k o hk).1);obtain⟨hS,hM⟩:=hd.below (I':=I1) hb (λ b hb'=>h1 b (.inl hb')) h2 (λ b k o B hb' e1 e2 e3=>by obtain⟨f1,f2⟩:=hsub k o e1;have⟨a1,a2,_⟩:=h.ownB k o B b f1 e2 e3;rcases h3 b hb' with (h5|⟨k',o',s',n',g1,g2,g3⟩)|h5;exact a1 h5;have:=h.pc k k' o o' b f1 g2 ⟨B,e2,e3⟩ (.at g3);subst this;exact f2 g1;omega) hup;obtain⟨β',k1,k2,k3⟩:=Qs hM hn (hlt _ (λ k o hk=>(hsub k o hk).1)) hnew (λ _ _ h=>by cases h) hp hr;refine⟨β',I1,⟨k1.other,k1.ext,hS,λb hb'=>h1 b (.inl hb')⟩,?_,k3⟩;simp;have e:cu obj (p.2++ab.map λk=>(k,none))=cu (cu obj (ab.map λk=>(k,none))) p.2:=funext λk=>tN obj _ _ k;rw[e];exact k2
theorem Ng(h:Mem P w0 O0 β I obj w)(ab:U Nat):∀b,ft β obj ab I b->b<w.heap.size:=by intro b hb;rcases hb with hb|⟨k,o,s,n,_,h2,h3⟩;exact h.lt b hb;exact(h.own k o b s n h2 h3).2.1
theorem ZP(h:Mem P w0 O0 β I obj w)(hn:β (cJ i)=none){f:AV}{args:U AV}{cy:ka}{get:Ω}{out:Out}(hg:∀k o,get k=some o->obj k=some o)
 {fv:Ψ} {vs:η} {ag:Array Operand} {fo:Operand} {r:Operand->Value} (ha:AR P i f args cy get=some out) (cN:out.ob) (hf:VR P β w I f fv) (hv:bp P β w I args vs.toList) (hfo:r fo=fv) (hops:vs=ag.map r)
 {dst:J Tmp} {am:String} {after:Array Edge} {guard:J (Nat×Bool)} {ty:Θ} {de:Array TypeId}:
 AU P w0 O0 β I obj w i out ((execOp r ⟨dst,.call { callee:=.value fo,args:=ag,argTypes:=de },ty,am,after,guard⟩).run P w):=by
 have enter : ∀ (F : FuncId) (first caps : Array Value) (args' : Array Value), (∃ fn, P.funcs[F]? = some fn /\ fn.body.isSome = true /\ (fn.name == "runtime.NumGoroutine") = false) -> fv = .func (.func F) first caps -> args' = first ++ vs ++ caps ->
  (execOp r ⟨dst,.call { callee:=.value fo,args:=ag,argTypes:=de },ty,am,after,guard⟩).run P w=.ok (.enter F args') w:=by
  rintro F first caps args' ⟨fn,e1,e2,e3⟩ e4 rfl
  have hb:¬fn.body=none:=by cases hh:fn.body<;>simp[hh]at e2 ⊢
  have e3' : ¬ fn.name = "runtime.NumGoroutine" := by simpa using e3
  simp[execOp,resolve,hfo,e4,<- hops,Deferred.ofValue,invoke,callFunc,e1,e3',hb]
 unfold AR at ha;split at ha;rename_i F first caps hs rv keep
 cases hp:imp i [] rv with
 |none=>simp[hp]at ha
 |some p=>
  cases hq:nE P get (first++args++caps) hs with
  |none=>simp only[hp,hq,ai,Option.bind_none,reduceCtorEq]at ha
  |some q=>
  simp only[hp,hq,ai]at ha;simp[VR]at hf;obtain⟨fs,cs,rfl,hf1,hf2⟩:=hf
  have fin:∀(keep:Bool),fL P get (first++args++caps) q.1->tR P F q.1 rv->(keep=true->rv.flat)->
   out=⟨p.1,p.2++(if keep then []else(fA (first++args++caps)).map (λ k=>(k,none))),out.obs⟩->AU P w0 O0 β I obj w i out ((execOp r ⟨dst,.call { callee:=.value fo,args:=ag,argTypes:=de },ty,am,after,guard⟩).run P w):=by intro keep hb hF hk hout;obtain⟨E2,hcon⟩:=hF;have hall:bp P β w I (first++args++caps) (fs++vs++cs).toList:=(by simp only[Array.toList_append];exact bp.append _ _ _ _ (bp.append _ _ _ _ hf1 hv) hf2);have m7:=fL.sound h (fA (first++args++caps)) _ _ _ (λ k hk=>hk) (fL.weaken hg _ _ hb) hall;refine⟨F,fs++vs++cs,enter F fs cs _ E2 rfl rfl,(hcon w _ _ (Ng h _) (h.vars.mono (λ _ _=>rfl) (λ b hb=>.inl hb)) m7).mono ?_⟩;rintro e w' ⟨v',I1,rfl,hbel,g1,g2,g3,g4⟩;have⟨β',I',k1,k2,k3⟩:=Wv (keep:=keep) h hn hp hk hbel g1 g2 g3 g4;rw[hout];exact⟨v',β',I',rfl,k1,k2,k3⟩
  cases keep with
  |true=>
   simp at ha;subst ha;have cN:=rP _ cN;exact fin true (kQ _ _ _ hq λx hx=>cN x (by simp[hx])) (cN (tR P F q.1 rv) (by simp)) (λ _=>cN rv.flat (by simp)) (by simp)
  |false=>
   simp at ha;subst ha;have cN:=rP _ cN;exact fin false (kQ _ _ _ hq λx hx=>cN x (by simp[hx])) (cN (tR P F q.1 rv) (by simp)) (λ h=>by cases h) (by simp)
 .rename_i φ hs targs rr keep;cases hq:nE P get args hs with
  |none=>simp[hq]at ha
  |some q=>
  simp[hq]at ha;simp[VR]at hf;obtain⟨F,fs,cs,rfl,_,hF1,hF2,hF3⟩:=hf;obtain⟨fn,hfn⟩:=Option.isSome_iff_exists.1 hF2
  have fin:∀(keep:Bool),fL P get args (targs.map TV.av)->φ targs rr->(keep=true->rr.flat)->
   out=⟨rr.av,[]++(if keep then []else(fA args).map (λ k=>(k,none))),out.obs⟩->AU P w0 O0 β I obj w i out ((execOp r ⟨dst,.call { callee:=.value fo,args:=ag,argTypes:=de },ty,am,after,guard⟩).run P w):=by
   intro keep hb hφ hk hout;have m7:=fL.sound h (fA args) _ _ _ (λ k hk=>hk) (fL.weaken hg _ _ hb) hv;have htv:∀(xs:U TV) (us:U Value),bp P ly w (ft β obj (fA args) I) (xs.map TV.av) us->oc w (ft β obj (fA args) I) xs us:=by
    intro xs
    induction xs with
    |nil=>intro us h;cases us with
     |nil=>trivial
     |cons=>simp[bp]at h
    |cons x xs ih=>intro us h;cases us with
     |nil=>simp[bp]at h
     |cons u us=>
      simp at h;refine⟨?_,ih us h.2⟩;cases x with
      |s x=>simpa[TV.av,VR,vd]using h.1
      |a cs=>
       simp[TV.av]at h;obtain⟨⟨vs',rfl,h1⟩,_⟩:=h;refine⟨vs',rfl,?_⟩;have:∀(cs:U Tree) (us:U Value),bp P ly w (ft β obj (fA args) I) (cs.map AV.t) us->eV w (ft β obj (fA args) I) cs us:=by
        intro cs
        induction cs with
        |nil=>intro us h;cases us with
         |nil=>trivial
         |cons=>simp[bp]at h
        |cons c cs ih=>intro us h;cases us with
         |nil=>simp[bp]at h
         |cons u us=>simp at h;exact⟨h.1,ih us h.2⟩
       exact this cs _ h1
   refine⟨F,fs++vs++cs,enter F fs cs _ ⟨fn,hfn,(hF1 fn hfn).1,(hF1 fn hfn).2⟩ rfl rfl,(hF3 w _ targs vs rr (λ b hb=>Or.inl hb) (λ _ _=>rfl) (Ng h _) hφ (htv _ _ m7)).mono ?_⟩;rintro e w' ⟨v',I1,rfl,hbel,g1,g2,g3,g4⟩;have⟨β',I',k1,k2,k3⟩:=Wv (i:=i) (rv:=.one (.d rr)) (p:=(rr.av,[])) (keep:=keep) h hn rfl hk hbel g1 g2 g3 g4;rw[hout];exact⟨v',β',I',rfl,k1,k2,k3⟩
  cases keep with
  |true=>
   simp at ha;subst ha;have cN:=rP _ cN;have e:q.1=targs.map TV.av:=cN _ (by simp);exact fin true (e ▸ kQ _ _ _ hq λx hx=>cN x (by simp[hx])) (cN (φ targs rr) (by simp)) (λ _=>cN rr.flat (by simp)) (by simp)
  |false=>
   simp at ha;subst ha;have cN:=rP _ cN;have e:q.1=targs.map TV.av:=cN _ (by simp);exact fin false (e ▸ kQ _ _ _ hq λx hx=>cN x (by simp[hx])) (cN (φ targs rr) (by simp)) (λ h=>by cases h) (by simp)
 cases ha
end
abbrev fC:=Nat×List (List Tree)
def ir(p:fC):aR:=⟨p.1,aI p.2⟩
def sm(os:U fC)(k:Nat):J aR:=(os[k]?).map ir
def Ey(os:U (Option fC))(k:Nat):J aR:=((os[k]?).join).map ir
def Uj(β:ζ)(b:Nat):Prop:=∃j,gi β j b
def nI(β:ζ)(I:Φ):iu:=⟨Uj β,I,λj=>if j<1000 then β j else none,λj B h=>(by
 split at h
 .assumption
 .cases h),[]⟩
def CI(w:Δ)(β:ζ)(os':U (Option fC))(b:Nat):Prop:=(Uj β b\/w.heap.size<=b)/\∀k o,Ey os' k=some o->¬gi β k b
def TO(P:Ξ)(w:Δ)(β:ζ)(I:Φ)(os':U (Option fC))(rv:RV)(e:Ending)(w':Δ):Prop:=
 ∃v I',e=.returned v/\Mem P w (nI β I) β I' (Ey os') w'/\(∀ b,I b->I' b)/\sg P (CI w β os') β rv w' I' v
def rh(P:Ξ)(f:FuncId)(args:U AV)(os:U fC)(os':U (Option fC))(rv:RV):Prop:=
 eZ P f/\∀(w:World) (β:Nat->J cH) (I:Nat->Prop) (vs:Array Value),(∀ k,os.length<=k->β k=none)->Mem P w (nI β I) β I (sm os) w->bp P β w I args vs.toList->Calls P f vs w (TO P w β I os' rv)
def βc(ab:U Nat)(β:ζ)(j:Nat):J cH:=(ab[j]?).bind β
section
variable (P:Program) (get:Nat->Option aR) (ab:List Nat)
mutual
def rC:AV->List LH->Option (AV×List LH×List Prop)
 |.own k aa len,.mut j::hs=>if ab[j]? =some k then some (.own j aa len,hs,[])else none
 |.ptr k row aa,.mut j::hs=>if ab[j]? =some k then some (.ptr j row aa,hs,[])else none
 |.mp k,.mut j::hs=>if ab[j]? =some k then some (.mp j,hs,[])else none
 |.agg cs,.agw::hs=>(mW cs hs).bind λp=>some (.agg p.1,p.2.1,p.2.2)
 |.agg cs,.agd::hs=>if (fA cs).all (λ k=>!ab.contains k)then qd P get (.agg cs) hs else none
 |.fn F first caps,.fnw::hs=>(mW first hs).bind λp=>(mW caps p.2.1).bind λq=>some (.fn F p.1 q.1,q.2.1,p.2.2++q.2.2)
 |x,hs=>if (refs x).all (λ k=>!ab.contains k)then qd P get x hs else none
def mW:List AV->List LH->Option (List AV×List LH×List Prop)
 |[],hs=>some ([],hs,[])
 |x::xs,hs=>(rC x hs).bind λp=>(mW xs p.2.1).bind λq=>some (p.1::q.1,q.2.1,p.2.2++q.2.2)
end
def Ez:U (List AV)->U (List LH)->J (List (List AV)×List Prop)
 |[],[]=>some ([],[])
 |r::rs,h::hs=>(mW P get ab r h).bind λp=>(Ez rs hs).bind λq=>some (p.1::q.1,p.2.2++q.2)
 |_,_=>none
def nj(x y:AV):Prop:=
 (∃ j k aa len,ab[j]? =some k/\x=.own k aa len/\y=.own j aa len)\/(∃ j k row aa,ab[j]? =some k/\x=.ptr k row aa/\y=.ptr j row aa)\/(∃ j k,ab[j]? =some k/\x=.mp k/\y=.mp j)\/((∀ k∈refs x,k∉ab)/\gj P get x y)
mutual
def jp:AV->AV->Prop
 |.fn F f1 c1,.fn G f2 c2=>(F=G/\gc f1 f2/\gc c1 c2)\/nj P get ab (.fn F f1 c1) (.fn G f2 c2)
 |.agg c1,.agg c2=>gc c1 c2\/nj P get ab (.agg c1) (.agg c2)
 |x,y=>nj P get ab x y
def gc:List AV->List AV->Prop
 |[],[]=>True
 |x::xs,y::ys=>jp x y/\gc xs ys
 |_,_=>False
end
theorem jp.base{x y:AV}(h:nj P get ab x y):jp P get ab x y:=by cases x<;>cases y<;>simp[jp]<;>first|exact h|grind
end
def Ii(get:Ω):U Nat->U fC->J (List Prop)
 |[],[]=>some []
 |k::ab,p::os=>(get k).bind λo=>(Ii get ab os).bind λl=>some ((o.sz=p.1/\eF (o.rows.take p.2.length)=aI p.2)::l)
 |_,_=>none
def Db:U Nat->U (Option fC)->U (Nat×Option aR)
 |k::ab,p::os=>(k,p.map ir)::Db ab os
 |_,_=>[]
def Ij(xs:U AV)(ab:U Nat):U Nat:=(fA xs).filter λk=>!ab.contains k
def Ww(os':U (Option fC)):Prop:=∀p,some p∈os'->∀r∈p.2,∀x∈r,Tree.flat x
def Ik(P:Ξ)(i:Nat)(f:AV)(args:U AV)(cy:ka)(get:Ω):J Out:=
 match f,cy with
 |.fn F first caps,.uC ab os os' hs rv keep=>if ab.Nodup/\os'.length=ab.length then(imp i ab rv).bind λp=>(Ii get ab os).bind λmo=>(mW P get ab (first++args++caps) hs).bind λq=>
  if keep then some ⟨p.1,p.2++Db ab os',q.2.2++mo++[rh P F q.1 os os' rv,rv.flat,Ww os']⟩
  else some ⟨p.1,p.2++(Db ab os'++(Ij (first++args++caps) ab).map λk=>(k,none)),q.2.2++mo++[rh P F q.1 os os' rv]⟩
  else none
 |_,_=>none
def rQ(P:Ξ)(i:Nat)(f:AV)(args:U AV)(cy:ka)(get:Ω):J Out:=
 match cy with
 |.uC .. =>Ik P i f args cy get
 |_=>AR P i f args cy get
section
variable {P:Program} {T:en} {w0:World} {O0:iu} {β:Nat->Option cH} {I:Nat->Prop} {obj:Nat->Option aR} {w:World} {i:Nat}
theorem Nh{ab:U Nat}{j:Nat}{B:cH}(h:βc ab β j=some B):∃k,ab[j]? =some k/\β k=some B:=by simpa[βc,ah]using h
theorem cd.dat{β':ζ}{I':Φ}(hI:∀b,I b->I' b)(rows:U (List Tree))(c:η)(aa sz:Nat)(h:cd P β w I (aI rows) c aa sz):cd P β' w I' (aI rows) c aa sz:=by rw[pF]at h ⊢;intro i r hr;have⟨h1,h2⟩:=h i r hr;refine⟨h1,?_⟩;rw[jZ]at h2 ⊢;intro j x hx;have⟨v,g1,g2,g3⟩:=h2 j x hx;refine⟨v,g1,?_,g3⟩;simp[aI]at hr;obtain⟨r',hr',rfl⟩:=hr;simp at hx;obtain⟨x',hx',rfl⟩:=hx;exact TR.mono (λ _ _=>rfl) hI _ _ g2
theorem bp.Pa{β':ζ}{I':Φ}(hI:∀b,I b->I' b):∀(r:U Tree)(vs:U Value),bp P β w I (r.map AV.t) vs->bp P β' w I' (r.map AV.t) vs
 |[],[],_=>by trivial
 |x::xs,v::vs,h=>by exact⟨TR.mono (λ _ _=>rfl) hI _ _ h.1,bp.Pa hI xs vs h.2⟩
 |[],_::_,h|_::_,[],h=>by trivial
theorem cI.dat{β':ζ}{I':Φ}(hI:∀b,I b->I' b):∀(rs:U (List Tree))(es:U MapEntry),cI P β w I (aI rs) es->cI P β' w I' (aI rs) es
 |[],[],_=>trivial
 |r::rs,_::es,⟨h1,h4⟩=>⟨bp.Pa hI r _ h1,cI.dat hI rs es h4⟩
 |[],_::_,h|_::_,[],h=>h.elim
theorem bp.B5{β':ζ}{I':Φ}:∀(r:U Tree)(vs:U Value),(∀ x∈r,Tree.flat x)->bp P β w I (r.map AV.t) vs->bp P β' w I' (r.map AV.t) vs
 |[],[],_,_=>by trivial
 |x::xs,v::vs,hf,h=>by exact⟨Tree.m8 (hf x (by simp)) h.1,bp.B5 xs vs (λ y hy=>hf y (by grind)) h.2⟩
 |[],_::_,_,h|_::_,[],_,h=>by trivial
theorem cI.flat{β':ζ}{I':Φ}:∀{rs:U (List Tree)}(_:∀r∈rs,∀x∈r,Tree.flat x)(es:U MapEntry),cI P β w I (aI rs) es->cI P β' w I' (aI rs) es
 |[],_,[],_=>trivial
 |r::rs,hf,_::es,⟨h1,h4⟩=>⟨bp.B5 r _ (hf r (by simp)) h1,cI.flat (λ r' hr=>hf r' (by grind)) es h4⟩
 |[],_,_::_,h|_::_,_,[],h=>h.elim
theorem OR.part{o:aR}{p:fC}{b:Nat}(g4:o.sz=p.1)(g5:eF (o.rows.take p.2.length)=aI p.2)(h:OR P β w I o (.mp b)):OR P β w I (ir p) (.mp b):=by
 obtain⟨es,cl,h1,hle,h2,h3⟩:=h;have hl:=congrArg List.length g5;simp[eF,aI]at hl;refine⟨es,cl,h1,by grind [ir,aI],λe=>?_,h3⟩;have e':p.1=p.2.length:=by grind [ir,aI]
 have:=cI.wk _ _ (h2 (by omega));rw[take_of_length_le (by omega)]at g5;show cI P β w I (aI p.2) es.toList
 grind
theorem OR.dat{β':ζ}{I':Φ}(hI:∀b,I b->I' b){p:fC}{B:cH}(h:OR P β w I (ir p) B):OR P β' w I' (ir p) B:=by
 cases B with
 |none=>exact h
 | «at» b s n=>
  obtain⟨h1,c,e,h2,h3,h4⟩:=h;exact⟨h1,c,e,h2,h3,cd.dat hI _ _ _ _ h4⟩
 |mp b=>
  obtain⟨es,cl,h1,hle,h2,h3⟩:=h;exact⟨es,cl,h1,hle,λe=>cI.dat hI _ _ (h2 e),h3⟩
theorem OR.flat{β':ζ}{I':Φ}{p:fC}{B:cH}(hf:∀r∈p.2,∀x∈r,Tree.flat x)(h:OR P β w I (ir p) B):OR P β' w I' (ir p) B:=by
 cases B with
 |none=>exact h
 | «at» b s n=>
  obtain⟨h1,c,e,h2,h3,h4⟩:=h;exact⟨h1,c,e,h2,h3,cd.flat _ _ _ _ hf h4⟩
 |mp b=>
  obtain⟨es,cl,h1,hle,h2,h3⟩:=h;exact⟨es,cl,h1,hle,λe=>cI.flat hf _ (h2 e),h3⟩
theorem SB{get:Ω}:∀{ab:U Nat}{os:U fC}{l:U Prop},Ii get ab os=some l->(∀ q∈l,q)->ab.length=os.length/\∀(j:Nat) k p,ab[j]? =some k->os[j]? =some p->∃o,get k=some o/\o.sz=p.1/\eF (o.rows.take p.2.length)=aI p.2
 |[],[],_,_,_=>⟨rfl,λj k p h=>by simp at h⟩
 |k::ab,p::os,l,h,hq=>by
  simp[Ii,ah]at h;obtain⟨o,h1,l',h2,rfl⟩:=h;obtain⟨h3,h4⟩:=SB h2 (λ q hq'=>hq q (by grind));refine⟨by grind,λj k' p' hj hj'=>?_⟩;cases j with
  |zero=>
   simp at hj hj';subst hj;subst hj';simp[*]
  |succ j=>grind
 |[],_::_,_,h,_|_::_,[],_,h,_=>by trivial
theorem akp{ab:U Nat}:∀{os':U (Option fC)}{g:U (Nat×Option aR)}{k:Nat},k∉ab->cu obj (Db ab os'++g) k=cu obj g k:=by
 induction ab with
 |nil=>intro os' g k _;rfl
 |cons j ab ih=>
  intro os' g k hk;cases os' with
  |nil=>rfl
  |cons p os'=>
   grind [Db,cu]
theorem aaV:∀{ab:U Nat}{os':U (Option fC)}{g:U (Nat×Option aR)}{j k:Nat},ab.Nodup->os'.length=ab.length->ab[j]? =some k->cu obj (Db ab os'++g) k=Ey os' j
 |[],_,_,_,_,_,_,h=>by simp at h
 |i::ab,[],_,_,_,_,hl,_=>by grind
 |i::ab,p::os',g,j,k,hn,hl,h=>by
  simp at hn;cases j with
  |zero=>
   grind [Db,cu,Ey]
  |succ j=>
   have hne:k≠i:=λe=>hn.1 (e ▸ cZ h);simp[Db,cu,aT hne,aaV hn.2 (by simpa using hl) h];rfl
theorem Qt:∀{ab:U Nat},ab.Nodup->∀{j j' k:Nat},ab[j]? =some k->ab[j']? =some k->j=j'
 |[],_,_,_,_,h,_=>by simp at h
 |i::ab,hn,j,j',k,h,h'=>by
  simp at hn;cases j with
  |zero=>grind
  |succ j=>
   cases j' with
   |zero=>grind
   |succ j'=>exact congrArg (· +1) (Qt hn.2 (k:=k) (by grind) (by grind))
theorem Mem.handed(h:Mem P w0 O0 β I obj w){ab cR:U Nat}{os:U fC}(hnd:ab.Nodup)(hlen:ab.length=os.length)
 (hm:∀(j:Nat) k p,ab[j]? =some k->os[j]? =some p->∃o,obj k=some o/\o.sz=p.1/\eF (o.rows.take p.2.length)=aI p.2) (E1:∀k∈cR,k∉ab):
 Mem P w (nI (βc ab β) (ft β obj cR I)) (βc ab β) (ft β obj cR I) (sm os) w:=by
 have look:∀j o',sm os j=some o'->∃k p o,ab[j]? =some k/\os[j]? =some p/\o'=ir p/\obj k=some o/\o.sz=p.1/\eF (o.rows.take p.2.length)=aI p.2:=by
  intro j o' hj;simp only[sm,iE]at hj;obtain⟨p,hp,rfl⟩:=hj;have hjl:j<ab.length:=by grind
  obtain⟨o,g⟩:=hm j _ p (dP hjl) hp
  grind
 have hb0:∀j k,ab[j]? =some k->βc ab β j=β k:=λj k hk=>by simp[βc,hk]
 constructor;intro j o' hj;obtain⟨k,p,o,g1,g2,rfl,g3,g4,g5⟩:=look j o' hj;have⟨B,hB,hO⟩:=h.cD k o g3;refine⟨B,by rw[hb0 j k g1];exact hB,?_⟩;have:OR P β w I (ir p) B:=by
  cases B with
  |none=>
   simp[OR]at hO ⊢;rw[hO]at g5;simpa[eF,ir]using g5.symm
  | «at» b s n=>
   obtain⟨h1,c,e,h2,h3,h4⟩:=hO;refine⟨by rw[h1,g4];rfl,c,e,h2,h3,?_⟩;have:=cd.wk _ _ _ _ (cd.take p.2.length _ _ _ _ h4);rw[g5]at this;exact this
  |mp b=>exact OR.part g4 g5 hO
 exact this.dat λb hb=>.inl hb;intro j j' o o' B B' b h1 h2 h3 h4 h5 h6;have⟨k,p,q,g1,_,_,g3,_⟩:=look j o h1;have⟨k',p',q',g1',_,_,g3',_⟩:=look j' o' h2;rw[hb0 j k g1]at h3;rw[hb0 j' k' g1']at h4;have:=h.eI k k' q q' B B' b g3 g3' h3 h4 h5 h6;subst this;exact Qt hnd g1 g1';intro j o B b h1 h2 h5;have⟨k,p,q,g1,_,_,g3,_⟩:=look j o h1;have h2':=h2;rw[hb0 j k g1]at h2;have⟨a1,a2,_⟩:=h.ownB k q B b g3 h2 h5;refine⟨?_,a2,.inl ⟨j,B,h2',h5⟩⟩;rintro (hI|⟨k',o',s',n',e1,e2,e3⟩);exact a1 hI;have:=h.pc k k' q o' b g3 e2 ⟨B,h2,h5⟩ (.at e3);subst this;exact E1 _ e1 (cZ g1);exact Ng h _;exact λb hb=>.inl hb;exact λ_ _ _=>rfl;exact aB _;rfl;rfl;rfl;intro j B hj;simp only[nI]at hj;split at hj;exact hj;cases hj;exact h.vars.mono (λ _ _=>rfl) (λ b hb=>.inl hb)
theorem Mem.Hk(h:Mem P w0 O0 β I obj w){ab cR:U Nat}{os':U (Option fC)}{w':Δ}{I1 I2:Φ}{zp:Ω}
 (hM:Mem P w (nI (βc ab β) (ft β obj cR I)) (βc ab β) I1 (Ey os') w') (hI:∀b,I b->I2 b) (hI1:∀b,I2 b->I1 b) (li:∀k∈ab,∃o,obj k=some o)
 (ho:∀k o,zp k=some o->(∃ j,ab[j]? =some k/\Ey os' j=some o/\∀B,OR P (βc ab β) w' I1 o B->OR P β w' I2 o B)\/(k∉ab/\obj k=some o/\∀b,gi β k b->¬I2 b)):
 Same I w w'/\Mem P w0 O0 β I2 zp w'/\(∀ b,Uj (βc ab β) b->¬I b/\(O0.own b\/w0.heap.size<=b))/\∀k o b,k∉ab->obj k=some o->gi β k b->¬Uj (βc ab β) b:=by
 have hb0:∀j k,ab[j]? =some k->βc ab β j=β k:=λj k hk=>by simp[βc,hk]
 have hown:∀b,Uj (βc ab β) b->∃k o,k∈ab/\obj k=some o/\gi β k b:=by rintro b ⟨j,B,hj,hB⟩;have⟨k,h1,h2⟩:=Nh hj;have⟨o,h3⟩:=li k (cZ h1);exact⟨k,o,cZ h1,h3,B,h2,hB⟩
 have hold:∀k o,zp k=some o->∃q,obj k=some q:=by
  intro k o hk;rcases ho k o hk with ⟨j,h1,_⟩|⟨_,h2,_⟩;exact li k (cZ h1)
  grind
 have hapart:∀k o b,k∉ab->obj k=some o->gi β k b->¬Uj (βc ab β) b:=by
  intro k o b hk h1 h2 hb;have⟨k',o',g1,g2,g3⟩:=hown b hb;have:=h.pc k k' o o' b h1 g2 h2 g3
  grind
 have hS:Same I w w':=λb hb=>hM.keep b (h.lt b hb) (λ hb'=>by have⟨k',o',g1,g2,g3⟩:=hown b hb';exact(h.j0 k' o' b g2 g3).1 hb);refine⟨hS,?_,λb hb=>?_,hapart⟩;constructor;intro k o hk;rcases ho k o hk with ⟨j,h1,h2,h3⟩|⟨h1,h2,h3⟩;have⟨B,hB,hO⟩:=hM.cD j o h2;exact⟨B,by grind,h3 B hO⟩;have⟨B,hB,hO⟩:=h.cD k o h2;refine⟨B,hB,OR.mono (λ _ _ h=>h) hS hI (λ b e=>hM.keep b (h.ownB k o B b h2 hB e).2.1 (hapart k o b h1 h2 ⟨B,hB,e⟩)) hO⟩;intro k k' o o' B B' b h1 h2;have⟨q,e1⟩:=hold k o h1;have⟨q',e2⟩:=hold k' o' h2;exact h.eI k k' q q' B B' b e1 e2;intro k o B b h1 h2 h5;have⟨q,e1⟩:=hold k o h1;have⟨a1,a2,a3⟩:=h.ownB k q B b e1 h2 h5;refine⟨?_,Nat.lt_of_lt_of_le a2 hM.le,a3⟩;rcases ho k o h1 with ⟨j,g1,g2,_⟩|⟨_,_,g3⟩;exact λhb=>(hM.ownB j o B b g2 (by rw[hb0 j k g1];exact h2) h5).1 (hI1 b hb);exact g3 b ⟨B,h2,h5⟩;exact λb hb=>hM.lt b (hI1 b hb);intro b hb;rcases hM.up b (hI1 b hb)with (g|⟨k',o',s',n',_,g2,g3⟩)|g|g;exact h.up b g;exact .inr (h.own k' o' b s' n' g2 g3).2.2;have⟨k',o',_,g2,g3⟩:=hown b g;exact .inr (h.j0 k' o' b g2 g3).2.2;exact .inr (.inr (Nat.le_trans h.le g));intro b hb hno;refine(hM.keep b (Nat.lt_of_lt_of_le hb h.le) (λ hb'=>?_)).trans (h.keep b hb hno);have⟨k',o',_,g2,g3⟩:=hown b hb';rcases (h.j0 k' o' b g2 g3).2.2 with g|g;exact hno g;omega;exact Nat.le_trans h.le hM.le;exact hM.os.trans h.os;exact hM.tape.trans h.tape;exact hM.output.trans h.output;exact h.anch;exact h.vars.mono hS hI;have⟨k',o',_,g2,g3⟩:=hown b hb;exact⟨(h.j0 k' o' b g2 g3).1,(h.j0 k' o' b g2 g3).2.2⟩
mutual
theorem acr{get:Nat->Option aR}{ab:List Nat}:∀{x:AV}{hs:List LH}{p:AV×List LH×List Prop},rC P get ab x hs=some p->(∀ q∈p.2.2,q)->jp P get ab x p.1:=by
 intro x hs p h ho;unfold rC at h;split at h;split at h;cases h;exact jp.base _ _ _ (.inl ⟨_,_,_,_,‹_›,rfl,rfl⟩);cases h;split at h;cases h;exact jp.base _ _ _ (.inr (.inl ⟨_,_,_,_,‹_›,rfl,rfl⟩));cases h;split at h;cases h;exact jp.base _ _ _ (.inr (.inr (.inl ⟨_,_,‹_›,rfl,rfl⟩)));cases h;rename_i cs hs;simp only[ah,bV]at h;obtain⟨q,h1,rfl⟩:=h;simp;exact .inl (oo h1 (λ y hy=>ho y (by grind)));split at h;rename_i hd;refine jp.base _ _ _ (.inr (.inr (.inr ⟨λ k hk=>by grind [refs],Ew _ _ _ h ho⟩)));cases h;rename_i F first caps hs
 simp only[ah,bV]at h;obtain⟨q,h1,q',h2,rfl⟩:=h;simp only[jp];exact .inl ⟨trivial,oo h1 (λ y hy=>ho y (by simp[hy])),oo h2 (λ y hy=>ho y (by simp[hy]))⟩;split at h;rename_i hd;refine jp.base _ _ _ (.inr (.inr (.inr ⟨λ k hk=>by simpa using all_eq_true.1 hd k hk,Ew _ _ _ h ho⟩)));cases h
theorem oo{get:Nat->Option aR}{ab:List Nat}:∀{xs:List AV}{hs:List LH}{p:List AV×List LH×List Prop},mW P get ab xs hs=some p->(∀ q∈p.2.2,q)->gc P get ab xs p.1
 |[],hs,p,h,_=>by simp[mW]at h;subst h;trivial
 |x::xs,hs,p,h,ho=>by simp only[mW,ah,bV]at h;obtain⟨q,h1,q',h2,rfl⟩:=h;exact⟨acr h1 (λ y hy=>ho y (by simp[hy])),oo h2 (λ y hy=>ho y (by simp[hy]))⟩
end
theorem nj.sound(h:Mem P w0 O0 β I obj w){get:Ω}(hg:∀k o,get k=some o->obj k=some o){ab:U Nat}(cR:U Nat){x y:AV}{v:Ψ}(hk:∀k,k∈refs x->k∉ab->k∈cR)(hb:nj P get ab x y)(hv1:VR P β w I x v):VR P (βc ab β) w (ft β obj cR I) y v:=by
 rcases hb with ⟨j,k,aa,len,e1,rfl,rfl⟩|⟨j,k,row,aa,e1,rfl,rfl⟩|⟨j,k,e1,rfl,rfl⟩|⟨e1,e2⟩;simp[VR]at hv1 ⊢;have:βc ab β j=β k:=by simp[βc,e1]
 rw[this];exact hv1;simp[VR]at hv1 ⊢;have:βc ab β j=β k:=by simp[βc,e1]
 rw[this];exact hv1;simp[VR]at hv1 ⊢;have:βc ab β j=β k:=by simp[βc,e1]
 rw[this];exact hv1;have:=gj.sound h cR x y v (λ k hk'=>hk k hk' (e1 k hk')) (gj.weaken hg x y e2) hv1;exact VR.mono (λ k B h=>by trivial) (λ _ _=>rfl) (λ _ h=>h) _ _ this
mutual
theorem jp.sound(h:Mem P w0 O0 β I obj w){get:Nat->Option aR}(hg:∀k o,get k=some o->obj k=some o){ab:List Nat}(cR:List Nat):∀(x y:AV)(v:Value),(∀ k,k∈refs x->k∉ab->k∈cR)->jp P get ab x y->VR P β w I x v->VR P (βc ab β) w (ft β obj cR I) y v:=by intro x y v hk hb hv;unfold jp at hb;split at hb;rcases hb with ⟨rfl,h1,h2⟩|hb;simp[VR]at hv ⊢;obtain⟨fs,cs,e,g1,g2⟩:=hv;exact⟨fs,cs,e,gc.sound h hg cR _ _ _ (λ k hk'=>hk k (by simp[refs,hk'])) h1 g1,gc.sound h hg cR _ _ _ (λ k hk'=>hk k (by simp[refs,hk'])) h2 g2⟩;exact nj.sound h hg cR hk hb hv;rcases hb with h1|hb;simp[VR]at hv ⊢;obtain⟨vs,e,g1⟩:=hv;exact⟨vs,e,gc.sound h hg cR _ _ _ (λ k hk'=>hk k (by simpa[refs]using hk')) h1 g1⟩;exact nj.sound h hg cR hk hb hv;exact nj.sound h hg cR hk hb hv
theorem gc.sound(h:Mem P w0 O0 β I obj w){get:Nat->Option aR}(hg:∀k o,get k=some o->obj k=some o){ab:List Nat}(cR:List Nat):∀(xs ys:List AV)(vs:List Value),(∀ k,k∈fA xs->k∉ab->k∈cR)->gc P get ab xs ys->bp P β w I xs vs->bp P (βc ab β) w (ft β obj cR I) ys vs
 |[],[],[],_,_,_=>by simp[bp]
 |x::xs,y::ys,v::vs,hk,hb,hv=>by simp[bp]at hv ⊢;exact⟨jp.sound h hg cR x y v (λ k hk'=>hk k (by simp[fA,hk'])) hb.1 hv.1,gc.sound h hg cR xs ys vs (λ k hk'=>hk k (by simp[fA,hk'])) hb.2 hv.2⟩
 |[],_::_,_,_,hb,_=>hb.elim
 |_::_,[],_,_,hb,_=>hb.elim
 |[],[],_::_,_,_,hv=>by simp[bp]at hv
 |_::_,_::_,[],_,_,hv=>by simp[bp]at hv
end
theorem aem{os':U (Option fC)}{j:Nat}{o:aR}(h:Ey os' j=some o):∃p,some p∈os'/\o=ir p:=by
 grind [Ey,iE,Option.join_eq_some_iff]
theorem aen(h:Mem P w0 O0 β I obj w)(hn:β (cJ i)=none){ab cR:U Nat}{os':U (Option fC)}{rv:RV}{p:AV×List (Nat×Option aR)}{keep:Bool}(hp:imp i ab rv=some p)(hk:keep=true->rv.flat/\Ww os')
 (hnd:ab.Nodup) (hlen:os'.length=ab.length) (li:∀k∈ab,∃o,obj k=some o)
 {w':Δ} {I1:Φ} {v:Ψ} (hM:Mem P w (nI (βc ab β) (ft β obj cR I)) (βc ab β) I1 (Ey os') w') (h1:∀b,ft β obj cR I b->I1 b) (hr:sg P (CI w (βc ab β) os') (βc ab β) rv w' I1 v):
 ∃ β' I',Step β I w (cJ i) β' I' w'/\Mem P w0 O0 β' I' (cu obj (p.2++(Db ab os'++if keep then []else cR.map (λ k=>(k,none))))) w'/\VR P β' w' I' p.1 v:=by
 have look:∀g k o,cu obj (Db ab os'++g) k=some o->(∃ j,ab[j]? =some k/\Ey os' j=some o)\/(k∉ab/\cu obj g k=some o):=by
  intro g k o hk;by_cases hki:k∈ab;obtain⟨j,hj⟩:=List.getElem?_of_mem hki;rw[aaV hnd hlen hj]at hk;exact .inl ⟨j,hj,hk⟩;rw[akp hki]at hk
  grind
 have main:∀(g:U (Nat×Option aR))(I2:Nat->Prop),(∀ k o,cu obj g k=some o->obj k=some o)->(∀ b,I b->I2 b)->(∀ b,I2 b->I1 b)->(∀ j o B,Ey os' j=some o->OR P (βc ab β) w' I1 o B->OR P β w' I2 o B)->
  (∀ k o b,k∉ab->cu obj g k=some o->gi β k b->¬I2 b)->sg P (CI w (βc ab β) os') (βc ab β) rv w' I2 v->
  ∃ β' I',Step β I w (cJ i) β' I' w'/\Mem P w0 O0 β' I' (cu obj (p.2++(Db ab os'++g))) w'/\VR P β' w' I' p.1 v:=by
  intro g I2 hg hI hI1 hor SD hr2;obtain⟨hS,hM2,hown,hapart⟩:=h.Hk (zp:=cu obj (Db ab os'++g)) hM hI hI1 li (λ k o hk=>by
   rcases look g k o hk with ⟨j,e1,e2⟩|⟨e1,e2⟩;exact .inl ⟨j,e1,e2,λB=>hor j o B e2⟩
   grind)
  obtain⟨β',k1,k2,k3⟩:=Qs (ab:=ab) (F:=CI w (βc ab β) os') (βc:=βc ab β) hM2 hn (λ k o b e1 e2 hb=>by rcases look g k o e1 with ⟨j,e3,e4⟩|⟨e3,e4⟩;exact hb.2 j o e4 (by obtain⟨B,e5,e6⟩:=e2;exact⟨B,by simp[βc,e3,e5],e6⟩);rcases hb.1 with hb|hb;exact hapart k o b e3 (hg k o e4) e2 hb;have:=(h.j0 k o b (hg k o e4) e2).2.1;omega) (λ b hb=>by rcases hb.1 with hb|hb;exact(hown b hb).2;exact .inr (Nat.le_trans h.le hb)) (λ j B hj=>Nh hj) hp hr2;refine⟨β',I2,⟨k1.other,k1.ext,hS,hI⟩,?_,k3⟩;have e:cu obj (p.2++(Db ab os'++g))=cu (cu obj (Db ab os'++g)) p.2:=funext λk=>tN obj _ _ k
  grind
 cases keep with
 |true=>
  have⟨hf1,hf2⟩:=hk rfl;exact main [] I (λ _ _ h=>h) (λ _ h=>h) (λ b hb=>h1 b (.inl hb)) (λ j o B hj hO=>by obtain⟨q,hq,rfl⟩:=aem hj;exact OR.flat (hf2 q hq) hO) (λ k o b _ e1 e2=>(h.j0 k o b e1 e2).1) (sg.flat hf1 (λ b hb=>h1 b (.inl hb)) hr)
 |false=>
  have hsub:∀k o,cu obj (cR.map λk=>(k,none)) k=some o->obj k=some o/\k∉cR:=by intro k o hk;rw[y9]at hk;split at hk;cases hk;exact⟨hk,‹_›⟩
  refine main _ I1 (λ k o hk=>(hsub k o hk).1) (λ b hb=>h1 b (.inl hb)) (λ _ h=>h) (λ j o B hj hO=>by obtain⟨q,hq,rfl⟩:=aem hj;exact OR.dat (λ _ h=>h) hO) (λ k o b hki e1 e2 hb=>?_) hr;have⟨f1,f2⟩:=hsub k o e1;have⟨a1,a2,_⟩:=h.j0 k o b f1 e2;rcases hM.up b hb with (g|⟨k',o',s',n',g1,g2,g3⟩)|⟨j,B',g,g'⟩|g;exact a1 g;have:=h.pc k k' o o' b f1 g2 e2 (.at g3);subst this;exact f2 g1;have⟨k',g1,g2⟩:=Nh g;have⟨o',g3⟩:=li k' (cZ g1);have:=h.pc k k' o o' b f1 g3 e2 ⟨B',g2,g'⟩;subst this;exact hki (cZ g1);omega
theorem Wx(h:Mem P w0 O0 β I obj w)(hn:β (cJ i)=none){f:AV}{args:U AV}{cy:ka}{get:Ω}{out:Out}(hg:∀k o,get k=some o->obj k=some o)
 {fv:Ψ} {vs:η} {ag:Array Operand} {fo:Operand} {r:Operand->Value} (ha:Ik P i f args cy get=some out) (cN:out.ob) (hf:VR P β w I f fv) (hv:bp P β w I args vs.toList) (hfo:r fo=fv) (hops:vs=ag.map r)
 {dst:J Tmp} {am:String} {after:Array Edge} {guard:J (Nat×Bool)} {ty:Θ} {de:Array TypeId}:
 AU P w0 O0 β I obj w i out ((execOp r ⟨dst,.call { callee:=.value fo,args:=ag,argTypes:=de },ty,am,after,guard⟩).run P w):=by
 unfold Ik at ha;split at ha;rename_i F first caps ab os os' hs rv keep
 split at ha
 .rename_i hc;obtain⟨hnd,hlen⟩:=hc;cases hp:imp i ab rv with
  |none=>grind
  |some p=>
  cases hmo:Ii get ab os with
  |none=>grind
  |some mo=>
  cases hq:mW P get ab (first++args++caps) hs with
  |none=>grind
  |some q=>
  simp only[hp,hmo,hq,ai]at ha;simp[VR]at hf;obtain⟨fs,cs,rfl,hf1,hf2⟩:=hf;have hout:(∀ x∈q.2.2++mo,x)/\rh P F q.1 os os' rv/\(keep=true->rv.flat/\Ww os')/\out.v=p.1/\out.upd=p.2++(Db ab os'++if keep then []else(Ij (first++args++caps) ab).map (λ k=>(k,none))):=by
   cases keep with
   |true=>
    simp only[if_true,bV]at ha;subst ha;have cN:=rP _ cN;exact⟨λ x hx=>cN x (by simp only[bF]at hx ⊢;exact .inl hx),cN (rh P F q.1 os os' rv) (by simp),λ_=>⟨cN rv.flat (by simp),cN (Ww os') (by simp)⟩,rfl,by simp⟩
   |false=>
    simp only[Bool.false_eq_true,if_false,bV]at ha;subst ha;have cN:=rP _ cN;exact⟨λ x hx=>cN x (by simp only[bF]at hx ⊢;exact .inl hx),cN (rh P F q.1 os os' rv) (by simp),λh=>(by cases h),rfl,by simp⟩
  obtain⟨o1,o2,o3,o4,o5⟩:=hout;obtain⟨⟨fn,e1,e2,e3⟩,hcon⟩:=o2;obtain⟨hl2,hmm⟩:=SB hmo (λ x hx=>o1 x (by simp[hx]));have hmm':∀(j:Nat) k p,ab[j]? =some k->os[j]? =some p->∃o,obj k=some o/\o.sz=p.1/\eF (o.rows.take p.2.length)=aI p.2:=λj k p h1 h2=>by have⟨o,g1,g2⟩:=hmm j k p h1 h2;exact⟨o,hg k o g1,g2⟩
  have li:∀k∈ab,∃o,obj k=some o:=by intro k hk;obtain⟨j,hj⟩:=List.getElem?_of_mem hk;have hjl:j<os.length:=(by rw[<- hl2];exact(dx.1 hj).1);obtain⟨o,g,_⟩:=hmm' j k _ hj (dP hjl);exact⟨o,g⟩
  have arL:∀k∈Ij (first++args++caps) ab,k∉ab:=λk hk=>by simp[Ij]at hk;simpa using hk.2
  have hM:=h.handed (cR:=Ij (first++args++caps) ab) hnd hl2 hmm' arL;have hall:bp P β w I (first++args++caps) (fs++vs++cs).toList:=by simp only[Array.toList_append];exact bp.append _ _ _ _ (bp.append _ _ _ _ hf1 hv) hf2
  have m7:=gc.sound h hg (Ij (first++args++caps) ab) _ _ _ (λ k hk hn=>by simp only[Ij,List.mem_filter];exact⟨hk,by simpa using hn⟩) (oo hq (λ x hx=>o1 x (by simp[hx]))) hall;refine⟨F,fs++vs++cs,?_,(hcon w _ _ _ (λ k hk=>?_) hM m7).mono ?_⟩;have hb:¬fn.body=none:=by cases hh:fn.body<;>simp[hh]at e2 ⊢
  have e3' : ¬ fn.name = "runtime.NumGoroutine" := by simpa using e3
  simp[execOp,resolve,hfo,<- hops,Deferred.ofValue,invoke,callFunc,e1,e3',hb];simp[βc,List.getElem?_eq_none (show ab.length<=k by omega)];rintro e w' ⟨v',I1,rfl,g1,g2,g3⟩;have⟨β',I',k1,k2,k3⟩:=aen (keep:=keep) h hn hp o3 hnd hlen li g1 g2 g3;exact⟨v',β',I',rfl,k1,by rw[o5];exact k2,by rw[o4];exact k3⟩
 cases ha;cases ha
theorem Wy(h:Mem P w0 O0 β I obj w)(hn:β (cJ i)=none){f:AV}{args:U AV}{cy:ka}{get:Ω}{out:Out}(hg:∀k o,get k=some o->obj k=some o)
 {fv:Ψ} {vs:η} {ag:Array Operand} {fo:Operand} {r:Operand->Value} (ha:rQ P i f args cy get=some out) (cN:out.ob) (hf:VR P β w I f fv) (hv:bp P β w I args vs.toList) (hfo:r fo=fv) (hops:vs=ag.map r)
 {dst:J Tmp} {am:String} {after:Array Edge} {guard:J (Nat×Bool)} {ty:Θ} {de:Array TypeId}:
 AU P w0 O0 β I obj w i out ((execOp r ⟨dst,.call { callee:=.value fo,args:=ag,argTypes:=de },ty,am,after,guard⟩).run P w):=by unfold rQ at ha;split at ha;exact Wx h hn hg ha cN hf hv hfo hops;exact ZP h hn hg ha cN hf hv hfo hops
end
def Ha(op:BinOp)(b:AV)(yes:Bool):J Out:=
 match op with
 |.eql=>pv (if yes then b else .t (.sc (.bool false)))
 |.neq=>pv (if yes then b else .t (.sc (.bool true)))
 |_=>none
def CH(T:en)(op:BinOp)(t:Θ)(x y:AV):J Out:=
 (T t).bind λti=>match ti.k,x,y with
 |.slice _,.t (.sl rows),.cT=>Ha op .ub rows.isEmpty
 |.slice _,.own _ _ len,.cT=>Ha op .ub (len==0)
 |.slice _,.oz _ len,.cT=>Ha op (.t (.sc (.bool (op==.eql)))) (len==0)
 |.slice _,.cT,.cT=>Ha op (.t (.sc (.bool (op==.eql)))) true
 |_,_,_=>none
def T8(T:en)(s d:Θ)(x:AV):J Out:=
 (T s).bind λ_=>(T d).bind λdi=>match di.k,x with
 |.int k,.t (.sc (.int _ n))=>pv (.t (.sc (.int k (k.wrap n))))
 |_,_=>none
def Wz(T:en)(t:Θ)(x j:AV)(n:Int):J Out:=
 (T t).bind λti=>match ti.k,x,j with
 |.str,.t (.sc (.string s)),.t (.sc (.int _ m))=>nr (.t (.sc (.int .u8 n))) (0<=m/\∃b,s[m.toNat]? =some b/\n=b.toNat)
 |.arr m e,.agg cs,.t (.sc (.int _ q))=>(T e).bind λei=>(part' ei.agg ei.size ((cs.drop (q.toNat*ei.size)).take ei.size)).bind λv=>nr v (0<=q/\q<(m:Int))
 |_,_,_=>none
def J7(T:en)(t:Θ)(x:AV)(lo hi:J AV):J Out:=
 (T t).bind λti=>match ti.k,x with
 |.slice e,.cT=>(T e).bind λ_=>(bnd 0 lo).bind λl=>(bnd 0 hi).bind λh=>nr .cT (l=0/\h=0)
 |_,_=>none
def vN(T:en)(i:Nat)(b:Builtin)(args:U AV)(de:U TypeId)(get:Ω):J Out:=
 match b,args,de with
 |.cap,[.cT],[t]=>(T t).bind λti=>match ti.k with
  |.slice _=>pv (.t (.sc (.int .i64 0)))
  |_=>none
 |.clear,[.own k aa _],[t]=>(T t).bind λti=>match ti.k with
  |.slice e=>(T e).bind λei=>(get k).bind λo=>if o.sz=ei.size then some ⟨.fm [],[(k,some ⟨o.sz,o.rows.take aa⟩)],[]⟩else none
  |_=>none
 |.append,[.cT,.t (.sc (.int _ m))],[t,u]=>(T t).bind λti=>(T u).bind λui=>match ti.k,ui.k with
  |.slice e,.int _=>(T e).bind λei=>some ⟨.own (cJ i) 0 m.toNat,[(cJ i,some ⟨ei.size,eF (List.replicate m.toNat (ei.zero.map cv))⟩)],[0<=m/\m.toNat*ei.bytes<=140737488355328/\m.toNat<=maxLen/\0<ei.size]⟩
  |_,_=>none
 |_,_,_=>none
def ul(T:en)(i:Nat)(o:Oper)(n:Int)(ρ:Operand->AV)(get:Ω):J Out:=
 match o.op with
 |.binOp op t x y _=>CH T op t (ρ x) (ρ y)
 |.convert s d x=>T8 T s d (ρ x)
 |.index t x j=>Wz T t (ρ x) (ρ j) n
 |.slice t x lo hi none=>J7 T t (ρ x) (lo.map ρ) (hi.map ρ)
 |.call { callee:=.builtin b,args:=args,argTypes:=de }=>vN T i b (args.toList.map ρ) de.toList get
 |_=>none
section
variable {T:en}
theorem SC{i:Nat}{o:Oper}{cy:ka}{ρ ρ':Operand->AV}{get:Ω}(h:∀x∈o.op.operands,ρ x=ρ' x):ru T i o cy ρ get=ru T i o cy ρ' get:=by
 obtain⟨dst,op,ty,am,after,guard⟩:=o;have pairs:∀ps:Array (Nat×Operand),(∀ x∈(ps.toList.map (·.2)).toArray,ρ x=ρ' x)->(ps.toList.map λ(j,x)=>(j,ρ x))=(ps.toList.map λ(j,x)=>(j,ρ' x)):=λps hp=>
  map_congr_left λp hm=>by obtain⟨i,x⟩:=p;simp[hp x (by grind)]
 cases op<;>simp only[Op.operands]at h<;>simp[ru]
 case build t ps=>rw[pairs ps h]
 case buildSlice t n ps=>rw[pairs ps h]
 case makeFunc fn first captured=>
  have h1:first.toList.map ρ=first.toList.map ρ':=map_congr_left λx hx=>h x (by simp;exact .inl (by simpa using hx))
  have h2:captured.toList.map ρ=captured.toList.map ρ':=map_congr_left λx hx=>h x (by simp;exact .inr (by simpa using hx));cases fn<;>simp[h1,h2]
 case call c=>
  obtain⟨callee,args,de⟩:=c;cases callee<;>simp
  case builtin b=>
   have h1:args.toList.map ρ=args.toList.map ρ':=map_congr_left λx hx=>h x (by simp[Call.operands];simpa using hx);rw[h1]
 case slice t x lo hi mx=>
  have hx:=h x (by simp);cases mx with
  |some m=>rfl
  |none=>
   simp;cases lo<;>cases hi<;>simp_all
 all_goals (first|rfl|(simp_all;done))
theorem sJ:∀(l:U Prop),(∀ p∈l,p)->lg l
 |[],_=>trivial
 |[q],h=>h q (by simp)
 |q::r::l,h=>⟨h q (by simp),sJ (r::l) λp hp=>h p (bQ _ hp)⟩
theorem acs{i:Nat}{o:Oper}{n:Int}{ρ ρ':Operand->AV}{get:Ω}(h:∀x∈o.op.operands,ρ x=ρ' x):ul T i o n ρ get=ul T i o n ρ' get:=by
 obtain⟨dst,op,ty,am,after,guard⟩:=o;cases op<;>simp only[Op.operands]at h<;>simp[ul]
 case binOp a b c d e=>grind
 case convert s d x=>grind
 case index t x j=>grind
 case call c=>
  obtain⟨callee,args,de⟩:=c;cases callee<;>simp
  case builtin b=>
   have h1:args.toList.map ρ=args.toList.map ρ':=map_congr_left λx hx=>h x (by grind [Call.operands]);rw[h1]
 case slice t x lo hi mx=>
  have hx:=h x (by simp);cases mx with
  |some m=>rfl
  |none=>
   cases lo<;>cases hi<;>simp_all
end
def ahi:Op->Bool
 |.pick .. =>true
 |_=>false
def Il(P:Ξ)(T:en)(i:Nat)(o:Oper)(ab:U Nat)(fr:Operand->AV)(cy:ka)(ρ:Operand->AV)(get:Ω):J Out:=
 if ahi o.op then none else(ru T i o cy fr (λ k=>if k∈ab then none else get k)).bind λout=>
  some ⟨out.v,out.upd++ab.map (λ k=>(k,none)),out.obs++[∀ x∈o.op.operands,(gj P get (ρ x) (fr x)/\∀k∈refs (ρ x),k∈ab)\/fr x=ρ x]⟩
theorem acu{P:Ξ}{T:en}{i:Nat}{o:Oper}{ab:U Nat}{fr:Operand->AV}{cy:ka}{ρ ρ':Operand->AV}{get:Ω}(h:∀x∈o.op.operands,ρ x=ρ' x):Il P T i o ab fr cy ρ get=Il P T i o ab fr cy ρ' get:=by
 unfold Il;have:(∀ x∈o.op.operands,(gj P get (ρ x) (fr x)/\∀k∈refs (ρ x),k∈ab)\/fr x=ρ x)=(∀ x∈o.op.operands,(gj P get (ρ' x) (fr x)/\∀k∈refs (ρ' x),k∈ab)\/fr x=ρ' x):=by grind
 grind
section
variable {P:Program} {T:en} {w0:World} {O0:iu} {β:Nat->Option cH} {I:Nat->Prop} {obj:Nat->Option aR} {w:World} {i:Nat}
theorem ahj(hT:fB P T){op:BinOp}{t:Θ}{x y:AV}{xo yo:Operand}{u v:Ψ}{out:Out}(ha:CH T op t x y=some out)(hx:VR P β w I x u)(hy:VR P β w I y v):
 ∃z,(do eqGuard op t xo yo u v;binOp op t u v:Sem Value).run P w=.ok z w/\VR P β w I out.v z/\out.upd=[]:=by
 unfold CH at ha;cases hti:T t with
 |none=>grind
 |some ti=>
  have ht:=hT t ti hti;simp only[hti,ai]at ha;have eq:∀e a n c,P.underlying t=some (.slice e)->(Op.equal t (.slice a n c) (.slice none 0 0)).run P w=.ok a.isNone w:=by intro e a n c hu;have:∀d,(Op.equalIn (d+1) t (.slice a n c) (.slice none 0 0)).run P w=.ok a.isNone w:=(by intro d;cases a<;>simp[Op.equalIn,run_underlying hu]);exact this 9999
  have main:∀e,P.underlying t=some (.slice e)->∀a n c,u=.slice a n c->v=.slice none 0 0->(op=.eql\/op=.neq)->
   (do eqGuard op t xo yo u v;binOp op t u v:Sem Value).run P w=.ok (.bool (if op=.eql then a.isNone else !a.isNone)) w:=by rintro e hu a n c rfl rfl (rfl|rfl);simp[eqGuard,binOp,eq e a n c hu];simp[eqGuard,binOp,eq e a n c hu]
  have fin:∀e,P.underlying t=some (.slice e)->∀a n c,u=.slice a n c->v=.slice none 0 0->∀(bv:AV)(yes:Bool),Ha op bv yes=some out->
   (yes=false->a.isNone=false)->(yes=true->∀q,(q=if op=.eql then a.isNone else !a.isNone)->VR P β w I bv (.bool q))->
   ∃z,(do eqGuard op t xo yo u v;binOp op t u v:Sem Value).run P w=.ok z w/\VR P β w I out.v z/\out.upd=[]:=by
   intro e hu a n c h1 h2 bv yes hn hno LL;unfold Ha at hn;split at hn;simp only[pv,bV]at hn;subst hn;refine⟨_,main e hu a n c h1 h2 (.inl rfl),?_,rfl⟩;cases yes with
   |true=>exact LL rfl _ rfl
   |false=>simp only[hno rfl];exact⟨by simp,trivial⟩
   simp only[pv,bV]at hn;subst hn;refine⟨_,main e hu a n c h1 h2 (.inr rfl),?_,rfl⟩;cases yes with
   |true=>exact LL rfl _ rfl
   |false=>simp only[hno rfl];exact⟨by simp,trivial⟩
   cases hn
  split at ha;rename_i e rows hk;have hu:=iU ht hk;simp only[VR]at hy;simp only[VR,TR]at hx;rcases hx with ⟨rfl,a,c,rfl,_⟩|⟨b,aa,c,sz,rfl,_⟩;exact fin _ hu _ _ _ rfl hy _ _ ha (λ h=>by simp at h) (λ _ q _=>by simp only[VR];exact⟨q,rfl⟩);exact fin _ hu _ _ _ rfl hy _ _ ha (λ _=>rfl) (λ _ q _=>by simp only[VR];exact⟨q,rfl⟩);rename_i e k aa len hk;have hu:=iU ht hk;simp[VR]at hx hy;rcases hx with ⟨_,rfl,_,rfl⟩|⟨b,sz,n,cap,o,_,rfl,_⟩;exact fin _ hu _ _ _ rfl hy _ _ ha (λ h=>by simp at h) (λ _ q _=>by simp only[VR];exact⟨q,rfl⟩);exact fin _ hu _ _ _ rfl hy _ _ ha (λ _=>rfl) (λ _ q _=>by simp only[VR];exact⟨q,rfl⟩);rename_i e k len hk;have hu:=iU ht hk;simp[VR]at hx hy;rcases hx with ⟨h0,rfl⟩|⟨h0,b,sz,n,cap,o,_,rfl,_⟩;refine fin _ hu _ _ _ rfl hy _ _ ha (λ h=>by simp[h0]at h) (λ _ q hq=>?_);simp[VR,TR,hq];cases op<;>exact⟨by simp,trivial⟩;exact fin _ hu _ _ _ rfl hy _ _ ha (λ _=>rfl) (λ h=>by simp[h0]at h);rename_i e hk;have hu:=iU ht hk;simp[VR]at hx hy;subst hx;refine fin _ hu _ _ _ rfl hy _ _ ha (λ h=>by cases h) (λ _ q hq=>?_);simp[VR,TR,hq];cases op<;>exact⟨by simp,trivial⟩;cases ha
theorem aep(hT:fB P T){s d:Θ}{x:AV}{u:Ψ}{out:Out}(ha:T8 T s d x=some out)(hx:VR P β w I x u):
 ∃z,(convert s d u).run P w=.ok z w/\VR P β w I out.v z/\out.upd=[]:=by
 unfold T8 at ha;cases hsi:T s with
 |none=>grind
 |some si=>
  cases hdi:T d with
  |none=>grind
  |some di=>
   simp[hsi,hdi]at ha;split at ha;rename_i k kk n hk;simp[pv]at ha;subst ha;have⟨info,dd,z,_,h2,_⟩:=(hT s si hsi).ex;have⟨info',dd',z',_,h2',_,_,_,_,_,h8⟩:=(hT d di hdi).ex;rw[hk]at h8;subst h8;simp[VR]at hx;obtain⟨rfl,_⟩:=hx;refine⟨.int k (k.wrap n),?_,by trivial,rfl⟩;simp[convert,run_underlying h2,run_underlying h2',Conv.intToInt];cases ha
theorem acv(hT:fB P T){t:Θ}{x j:AV}{n:Int}{u v:Ψ}{out:Out}(ha:Wz T t x j n=some out)(cN:out.ob)(hx:VR P β w I x u)(hj:VR P β w I j v):
 ∃z,(Instr.index t u v).run P w=.ok z w/\VR P β w I out.v z/\out.upd=[]:=by
 unfold Wz at ha;cases hti:T t with
 |none=>grind
 |some ti=>
  simp[hti]at ha;split at ha;rename_i s k m hk;simp[nr]at ha;subst ha;obtain⟨h0,b,hb,rfl⟩:=cN;have⟨info',dd',z',_,h2',_,_,_,_,_,h8⟩:=(hT t ti hti).ex;rw[hk]at h8;have h8:dd'=.string:=h8;subst h8;simp[VR]at hx hj;obtain⟨rfl,_⟩:=hx;obtain⟨rfl,_⟩:=hj;refine⟨.int .u8 b.toNat,?_,by trivial,rfl⟩;simp[Instr.index,asIntOf,run_underlying h2',h0,hb];rename_i m e cs kd q hk;have eS:=Wo (hT t ti hti) hk;cases ii:T e with
  |none=>grind
  |some ei=>
   simp[ii]at ha;cases hp:part' ei.agg ei.size ((cs.drop (q.toNat*ei.size)).take ei.size)with
   |none=>grind
   |some y=>
    simp[hp,nr]at ha;subst ha;simp[VR]at hx hj;obtain⟨vs,rfl,hvs⟩:=hx;obtain⟨rfl,_⟩:=hj;have he:=hT e ei ii;have⟨u,hu,hv⟩:=aek he hp hvs;refine⟨u,?_,hv,rfl⟩;simp[Instr.index,asIntOf,run_underlying eS,cN.1,cN.2,he.size (w:=w)]
    simp_all
  cases ha
theorem Uk(hT:fB P T){t:Θ}{x:AV}{lo hi:J AV}{out:Out}{v:Ψ}{uu hiv:J Value}
 (ha:J7 T t x lo hi=some out) (cN:out.ob) (hx:VR P β w I x v) (hlo:∀x,lo=some x->∃v,uu=some v/\VR P β w I x v) (hlo0:lo=none->uu=none) (hhi:∀x,hi=some x->∃v,hiv=some v/\VR P β w I x v) (hhi0:hi=none->hiv=none):
 ∃u,(Instr.sliceAt t v uu hiv none).run P w=.ok u w/\VR P β w I out.v u/\out.upd=[]:=by
 unfold J7 at ha;cases hti:T t with
 |none=>grind
 |some ti=>
  have ht:=hT t ti hti;simp[hti]at ha;split at ha;rename_i e hkd;cases ii:T e with
  |none=>grind
  |some ei=>
   have he:=hT e ei ii;simp[ii]at ha;cases hl:bnd 0 lo with
   |none=>grind
   |some l=>
    cases hh:bnd 0 hi with
    |none=>grind
    |some r=>
     simp[hl,hh,nr]at ha;subst ha;obtain⟨rfl,rfl⟩:=cN;subst hx;have:=Gc (P:=P) (w:=w) (len:=0) (cap:=0) (J6 hl hlo hlo0) (J6 hh hhi hhi0) (by omega) (by omega) (by omega);refine⟨.slice none 0 0,?_,by rfl,rfl⟩;simp[Instr.sliceAt,Instr.slice,run_underlying (iU ht hkd),this,he.size (w:=w)]
  cases ha
theorem cd.congr:∀(rows:U (List AV))(c c':Array Value)(aa sz:Nat),(∀ j,j<aa+rows.length*sz->c'[j]? =c[j]?)->cd P β w I rows c aa sz->cd P β w I rows c' aa sz
 |[],_,_,_,_,_,_=>trivial
 |r::rs,c,c',aa,sz,hc,⟨h1,h2,h3⟩=>by
  have hl:(r::rs).length*sz=sz+rs.length*sz:=by grind
  refine⟨h1,?_,cd.congr rs c c' (aa+sz) sz (λ j hj=>hc j (by omega)) h3⟩
  grind [jZ]
theorem cd.zeros(z:U Value)(sz:Nat)(hz:z.length=sz)(h1:∀v∈z,oneCell v):∀(n:Nat)(c:Array Value)(aa:Nat),(∀ i j,i<n->j<sz->c[aa+i*sz+j]? =z[j]?)->cd P β w I (List.replicate n (z.map cv)) c aa sz
 | 0,_,_,_=>trivial
 |n+1,c,aa,hc=>by
  refine⟨by grind,?_,cd.zeros z sz hz h1 n c (aa+sz) λi j hi hj=>?_⟩;rw[jZ];intro j x hx;simp at hx;obtain⟨v,hv,rfl⟩:=hx;have hj:=(dx.1 hv).1;refine⟨v,?_,VR.cv,h1 v (cZ hv)⟩;have:=hc 0 j (by omega) (by omega);rw[Nat.zero_mul,Nat.add_zero]at this;rw[this];exact hv
  grind
theorem Lb(z:η)(n j:Nat)(h:j<n*z.size):(Builtin.zeroCells z n)[j]? =z[j%z.size]? :=by
 have hz:0<z.size:=Nat.pos_of_ne_zero λe=>by grind
 have hm:j%z.size<z.size:=Nat.mod_lt _ hz;simp[Builtin.zeroCells,h,hm]
theorem Ul(hT:fB P T)(h:Mem P w0 O0 β I obj w)(hn:β (cJ i)=none){b:Builtin}{args:U AV}{de:Array TypeId}{get:Ω}{out:Out}(hg:∀k o,get k=some o->obj k=some o)
 {vs:η} {ty:Θ} {ag:Array Operand} (ha:vN T i b args de.toList get=some out) (cN:out.ob) (hv:bp P β w I args vs.toList) {r:Operand->Value} (hops:vs=ag.map r) {dst:J Tmp} {am:String} {after:Array Edge} {guard:J (Nat×Bool)}:
 s9 P w0 O0 β I obj w i out ((execOp r ⟨dst,.call { callee:=.builtin b,args:=ag,argTypes:=de },ty,am,after,guard⟩).run P w):=by
 unfold vN at ha;split at ha;rename_i t sd;obtain⟨v,hvs⟩:∃v,vs=#[v]:=by
  obtain⟨l⟩:=vs
  match l,hv with
  |[v],_=>grind
  |[],h=>trivial
  |_::_::_,h=>simp[bp]at h
 have ht:de=#[t]:=by cases de;simpa using sd
 subst hvs ht;simp only[bp,VR]at hv;cases hti:T t with
 |none=>simp[hti]at ha
 |some ti=>
  simp only[hti,ai]at ha;split at ha;rename_i e hk;simp only[pv,bV]at ha;subst ha;refine⟨.int .i64 0,w,β,I,.inl ?_,Step.refl ..,h,by simp only[VR,TR];exact⟨trivial,trivial⟩⟩;rw[hv.1]at hops;simp[execOp,resolve,invoke,builtin,<- hops,Builtin.cap_,run_underlying (iU (hT t ti hti) hk),goInt];cases ha
 rename_i k aa len t sd;obtain⟨v,hvs⟩:∃v,vs=#[v]:=by
  obtain⟨l⟩:=vs
  match l,hv with
  |[v],_=>exact⟨v,rfl⟩
  |[],h=>simp[bp]at h
  |_::_::_,h=>simp[bp]at h
 have ht:de=#[t]:=by cases de;simpa using sd
 subst hvs ht;simp only[bp]at hv;have hv:=hv.1;cases hti:T t with
 |none=>simp[hti]at ha
 |some ti=>
  simp only[hti,ai]at ha;split at ha;rename_i e hkd;cases ii:T e with
  |none=>simp[ii]at ha
  |some ei=>
   cases hk:get k with
   |none=>simp[ii,hk]at ha
   |some o=>
    simp only[ii,hk,ai]at ha;split at ha;rename_i hsz;cases ha;have he:=hT e ei ii;have eS:=iU (hT t ti hti) hkd;obtain⟨info,d,z,g1,g2,g3,g4,g5,g6,g7,g8⟩:=he.ex;have hko:=hg k o hk;have weak:∀{w':World},Mem P w0 O0 β I obj w'->Mem P w0 O0 β I (cu obj [(k,some ⟨o.sz,o.rows.take aa⟩)]) w':=by
     intro w' hm;refine hm.weak λj o' hj=>?_;simp only[cu]at hj;split at hj;rename_i e;subst e;cases hj;refine⟨o,hko,λB hB hO=>?_⟩;cases B with
     |none=>simp only[OR]at hO ⊢;simp[hO]
     | «at» b s n=>
      obtain⟨h1,c,e,h2,h3,h4⟩:=hO;exact⟨h1,c,e,h2,h3,cd.take _ _ _ _ _ h4⟩
     |mp b=>
      obtain⟨es,cl,h1,hle,h2,h3⟩:=hO;refine⟨es,cl,h1,by simp only[length_take];omega,λe=>?_,h3⟩;simp only[length_take]at e;simp only;rw[take_of_length_le (by omega)];exact h2 (by omega)
     exact⟨o',hj,λ_ _ h=>h⟩
    have hdone:∀w',(Builtin.clear_ #[t] ty #[v]).run P w=.ok (.tuple #[]) w'->(execOp r ⟨dst,.call { callee:=.builtin .clear,args:=ag,argTypes:=#[t] },ty,am,after,guard⟩).run P w=.ok (.value (.tuple #[])) w':=(by intro w' hw;simp[execOp,resolve,invoke,builtin,<- hops,hw]);have DM:∀{w':World},VR P β w' I (.fm []) (.tuple #[]):=(by intro w';simp only[VR];exact⟨#[],rfl,trivial⟩);simp only[VR]at hv;rcases hv with ⟨h1,rfl,_,rfl⟩|⟨b,sz,m,cap,a,h1,rfl,h2,h3,h4⟩;exact⟨_,w,β,I,.inl (hdone w (by simp[Builtin.clear_,run_underlying eS])),Step.refl ..,weak h,DM⟩;by_cases h0:len=0;subst h0;exact⟨_,w,β,I,.inl (hdone w (by simp[Builtin.clear_,run_underlying eS])),Step.refl ..,weak h,DM⟩;have⟨B,hB,hO⟩:=h.cD k o hko;rw[h1]at hB;cases hB;obtain⟨hs,c,ce,hc,hcn,hO⟩:=hO;have ha':a=m.s+aa*sz:=h4 (by omega);subst ha';have hzs:z.cells.size=ei.size:=(by rw[<- Array.length_toList,g6];exact he.len);have hzl:(Builtin.zeroCells z.cells len).toList.length=len*ei.size:=(by simp[size_zeroCells,hzs]);have hfit:m.s+aa*sz+len*ei.size<=c.size:=(by rw[hcn,<- hsz,<- hs,Nat.add_assoc,<- Nat.add_mul];have:(aa+len)*sz<=(aa+cap)*sz:=Nat.mul_le_mul_right _ (by omega);omega);have hone:∀u∈(Builtin.zeroCells z.cells len).toList,u.oneCell'=true:=(by intro u hu;obtain⟨j,hj⟩:=List.getElem?_of_mem hu;have hjl:=(dx.1 hj).1;rw[hzl,<- hzs]at hjl;rw[Array.getElem?_toList,Lb _ _ _ hjl]at hj;have:u∈ei.zero:=(by rw[<- g6];exact Array.mem_toList_iff.2 (Array.mem_of_getElem? hj));exact oneCell' (uj (all_eq_true.1 he.one u this)));have hst:=run_storeCells_at P b (m.s+aa*sz) ce (Builtin.zeroCells z.cells len).toList 0 c w hc (by rw[hzl];omega) hone;simp only[Nat.add_zero]at hst;generalize hcc:(List.take (m.s+aa*sz) c.toList++(Builtin.zeroCells z.cells len).toList++List.drop (m.s+aa*sz+(Builtin.zeroCells z.cells len).toList.length) c.toList).toArray=cc at hst;have arQ:cc.size=c.size:=(by rw[<- hcc];simp[length_take,length_drop,size_zeroCells,hzs];omega);have hzv:(zeroValue e).run P w=.ok z w:=(by simp[zeroValue,typeInfo,g1,g5]);have hrun:(Builtin.clear_ #[t] ty #[.slice (some ⟨b,m.s+aa*sz,none⟩) len cap]).run P w=.ok (.tuple #[]) (w.setRow b cc):=(by obtain⟨len',rfl⟩:∃len',len=len'+1:=⟨len-1,by omega⟩;simp[Builtin.clear_,run_underlying eS,hzv,hst]);obtain⟨xt,hM⟩:=Mem.write (o':=⟨o.sz,o.rows.take aa⟩) h hko h1 (c':=cc) (e:=ce) (setRow_heap w b c cc ce (0,0) hc) (λ b' hb=>setRow_other w b b' cc hb) (by simp) rfl rfl rfl hs (by omega) (by refine cd.congr _ c cc m.s o.sz (λ j hj=>?_) (by rw[<- hs];exact cd.take _ _ _ _ _ hO);have hj2:j<m.s+aa*sz:=(by rw[hs];refine Nat.lt_of_lt_of_le hj (Nat.add_le_add_left ?_ _);exact Nat.mul_le_mul_right _ (by simp[length_take];omega));rw[<- hcc,List.getElem?_toArray,aV,List.getElem?_append_left (by simp[length_take];omega),List.getElem?_take,aY hj2,Array.getElem?_toList]);exact⟨_,_,β,I,.inl (hdone _ hrun),⟨λ _ _=>rfl,λ_ _ h=>h,xt,λ_ h=>h⟩,hM,DM⟩;cases ha
  cases ha
 rename_i kk m t u sd;obtain⟨v,v',hvs⟩:∃v v',vs=#[v,v']:=by
  obtain⟨l⟩:=vs
  match l,hv with
  |[v,v'],_=>exact⟨v,v',rfl⟩
  |[],h=>simp[bp]at h
  |[_],h=>simp[bp]at h
  |_::_::_::_,h=>simp[bp]at h
 have ht:de=#[t,u]:=by cases de;simpa using sd
 subst hvs ht;simp only[bp,VR,TR]at hv;obtain⟨rfl,⟨rfl,_⟩,_⟩:=hv;cases hti:T t with
 |none=>simp[hti]at ha
 |some ti=>
  cases yi:T u with
  |none=>simp[hti,yi]at ha
  |some ui=>
   simp only[hti,yi,ai]at ha;split at ha;rename_i e kn hkd D4;cases ii:T e with
   |none=>simp[ii]at ha
   |some ei=>
    simp only[ii,ai,bV]at ha;subst ha;obtain⟨m0,m48,Lo,mpos⟩:=cN;have he:=hT e ei ii;have eS:=iU (hT t ti hti) hkd;obtain⟨info,d,z,g1,g2,g3,g4,g5,g6,g7,g8⟩:=he.ex;have⟨_,dd',_,_,h2',_,_,_,_,_,h8⟩:=(hT u ui yi).ex;rw[D4]at h8;have h8:dd'=.int kn:=h8;subst h8;obtain⟨n,rfl⟩:∃n:Nat,m=(n:Int):=⟨m.toNat,by omega⟩;simp only[Int.toNat_natCast]at m48 Lo ⊢;by_cases h0:n=0;subst h0;have⟨hS,hM⟩:=Mem.p0 (i:=cJ i) (o:=⟨ei.size,[]⟩) h hn rfl;have hrun:(Builtin.append_ #[t,u] ty #[.slice none 0 0,.int kk ((0:Nat):Int)]).run P w=.ok (.slice none 0 0) w:=by have hw0:i64.wrap (0:Int)=0:=(by decide);simp[Builtin.append_,run_underlying eS,run_underlying h2',sizeOf,typeInfo,g1,asInt,asIntOf,hw0]
    replace hrun:(Builtin.append_ #[t,u] ty #[.slice none 0 0,.int kk 0]).run P w=.ok (.slice none 0 0) w:=hrun
    refine⟨.slice none 0 0,w,_,I,.inl (by simp[execOp,resolve,invoke,builtin,<- hops,hrun]),hS,by simpa[eF]using hM,by simp only[VR];exact .inl ⟨by simp[ins],trivial,trivial,trivial⟩⟩;have hrun:=Lib.run_append_nil_zeros (P:=P) w t u ty e info z kk kn eS h2' g1 g5 n (by omega) (by omega) (by simp[maxLen]at Lo;omega) (by rw[g4];omega);have hd:=h.drew;have hzs:z.cells.size=ei.size:=(by rw[<- Array.length_toList,g6];exact he.len);have hge:=grownCap_ge w n 0 e;generalize hC:Builtin.zeroCells z.cells n++Builtin.zeroCells z.cells (grownCap w n 0 e-n)=cs at hrun;have hcs:cs.size=grownCap w n 0 e*ei.size:=(by rw[<- hC];simp[Array.size_append,size_zeroCells,hzs,<- Nat.add_mul];rw[show n+(grownCap w n 0 e-n)=grownCap w n 0 e by omega]);obtain⟨hS,hM⟩:=Mem.alloc (i:=cJ i) (o:=⟨ei.size,List.replicate n (ei.zero.map cv)⟩) (c:=cs) (e:=e) hd hn (by refine cd.zeros ei.zero ei.size he.len (λ v hv=>uj (all_eq_true.1 he.one v hv)) n cs 0 (λ i j hi hj=>?_);have hlt:0+i*ei.size+j<n*ei.size:=(by have:(i+1)*ei.size<=n*ei.size:=Nat.mul_le_mul_right _ (by omega);rw[Nat.add_mul]at this;omega);rw[<- hC,Array.getElem?_append_left (by simpa[size_zeroCells,hzs]using hlt),Lb _ _ _ (by rw[hzs];exact hlt),hzs,<- g6,Array.getElem?_toList];congr 1;rw[Nat.zero_add,Nat.mul_comm,Nat.mul_add_mod,Nat.mod_eq_of_lt hj]);refine⟨_,_,_,I,.inl (by simp[execOp,resolve,invoke,builtin,<- hops,hrun];rfl),⟨hS.other,hS.ext,λb hb=>hS.same b hb,hS.inc⟩,hM.yz,?_⟩;simp only[VR];refine .inr ⟨w.heap.size,ei.size,_,_,0,by simp[ins];rfl,rfl,hge,?_,by simp⟩;rw[hcs,Nat.zero_add];simp
   cases ha
 cases ha
theorem acw(hT:fB P T)(h:Mem P w0 O0 β I obj w)(hn:β (cJ i)=none){o:Oper}{n:Int}{ρ:Operand->AV}{get:Ω}{out:Out}(hg:∀k o,get k=some o->obj k=some o)
 {r:Operand->Value} (hρ:∀x,VR P β w I (ρ x) (r x)) (ha:ul T i o n ρ get=some out) (cN:out.ob):s9 P w0 O0 β I obj w i out ((execOp r o).run P w):=by
 obtain⟨dst,op,ty,am,after,guard⟩:=o;have val:∀{s:Sem Value}{z:Value},s.run P w=.ok z w->out.upd=[]->VR P β w I out.v z->s9 P w0 O0 β I obj w i out ((do pure (.value (<- s)):Sem Next).run P w):=by intro s z h1 h2 h3;refine⟨z,w,β,I,.inl (by simp[*]),Step.refl ..,by rw[h2];exact h,h3⟩
 unfold ul at ha;split at ha;rename_i bop t x y q heq;simp at heq;subst heq;have⟨z,h1,h2,h3⟩:=ahj (xo:=x) (yo:=y) hT ha (hρ x) (hρ y);exact val h1 h3 h2;rename_i s d x heq;simp at heq;subst heq;have⟨z,h1,h2,h3⟩:=aep hT ha (hρ x);exact val h1 h3 h2;rename_i t x j heq;simp at heq;subst heq;have⟨z,h1,h2,h3⟩:=acv hT ha cN (hρ x) (hρ j);exact val h1 h3 h2;rename_i t x lo hi heq;simp at heq;subst heq;obtain⟨z,h1,h2,h3⟩:=Uk (uu:=lo.map r) (hiv:=hi.map r) hT ha cN (hρ x) (λ y hy=>by
  cases lo with
  |none=>cases hy
  |some q=>grind) (λ h=>by simp_all) (λ y hy=>by
  cases hi with
  |none=>cases hy
  |some q=>grind) (λ h=>by cases hi<;>first|rfl|cases h)
 exact val h1 h3 h2;rename_i b args de heq;simp at heq;subst heq;exact Ul hT h hn hg ha cN (by rw[Array.toList_map];exact bp.map hρ _) rfl;cases ha
theorem acy(hT:fB P T)(h:Mem P w0 O0 β I obj w)(hn:β (cJ i)=none){o:Oper}{ab:U Nat}{fr:Operand->AV}{cy:ka}{ρ:Operand->AV}{get:Ω}{out:Out}(hg:∀k o,get k=some o->obj k=some o)
 {r:Operand->Value} (hρ:∀x,VR P β w I (ρ x) (r x)) (ha:Il P T i o ab fr cy ρ get=some out) (cN:out.ob):s9 P w0 O0 β I obj w i out ((execOp r o).run P w):=by
 unfold Il at ha;split at ha;cases ha;rw[ah]at ha;obtain⟨out',h1,h2⟩:=ha;cases h2;have cN:=rP _ cN;have hb:=cN (∀ x∈o.op.operands,(gj P get (ρ x) (fr x)/\∀k∈refs (ρ x),k∈ab)\/fr x=ρ x) (by simp);have hsub:∀k o',cu obj (ab.map λk=>(k,none)) k=some o'->obj k=some o'/\k∉ab:=by
  grind [y9]
 have hd:=h.drop (cu obj (ab.map λk=>(k,none))) (λ k o hk=>(hsub k o hk).1);obtain⟨_,hM⟩:=hd.below (I':=ft β obj ab I) (w':=w) ⟨rfl,rfl,rfl,aB _,λ_ _=>rfl⟩ (λ b hb=>.inl hb) (Ng h ab) (λ b k o B hb' e1 e2 e3=>by
  have⟨f1,f2⟩:=hsub k o e1;have⟨a1,_,_⟩:=h.ownB k o B b f1 e2 e3;rcases hb' with h5|⟨k',o',s',n',g1,g2,g3⟩;exact a1 h5;have:=h.pc k k' o o' b f1 g2 ⟨B,e2,e3⟩ (.at g3)
  grind) (λ b hb'=>by rcases hb' with h5|⟨k',o',s',n',g1,g2,g3⟩;exact h.up b h5;exact .inr (h.own k' o' b s' n' g2 g3).2.2)
 have hfr:∀x,VR P β w (ft β obj ab I) ((λ x=>open Classical in if x∈o.op.operands then fr x else .undef) x) (r x):=by intro x;by_cases hx:x∈o.op.operands;simp[hx];rcases hb x hx with ⟨b1,b2⟩|b1;exact VR.mono (λ k B h=>by simp[ly]at h) (λ _ _=>rfl) (λ _ h=>h) _ _ (gj.sound h ab _ _ _ b2 (gj.weaken hg _ _ b1) (hρ x));rw[b1];exact VR.mono (λ _ _ h=>h) (λ _ _=>rfl) (λ _ h=>.inl h) _ _ (hρ x);simp[hx,VR]
 rw[SC (ρ':=λx=>open Classical in if x∈o.op.operands then fr x else .undef) (λ x hx=>by simp[hx])]at h1;obtain⟨v',w',β',I',k1,k2,k3,k4⟩:=SA hT hM hn (λ k o' hk=>by rw[y9];split at hk;cases hk;rw[aT ‹_›];exact hg k o' hk) hfr h1 (sJ _ λp hp=>cN p (by simp[hp]));refine⟨v',w',β',I',k1,⟨k2.other,k2.ext,λb hb=>k2.same b (.inl hb),λb hb=>k2.inc b (.inl hb)⟩,?_,k4⟩;have e:cu obj (out'.upd++ab.map λk=>(k,none))=cu (cu obj (ab.map λk=>(k,none))) out'.upd:=funext λk=>tN obj _ _ k
 grind
end
open Go.RowKit Go.MapKept
def Ni:C2->Value->Bool
 |.int a,.int b _=>decide (a=b)
 |.str,.string _=>true
 |.bool,.bool _=>true
 |_,_=>false
def SF:Value->Value->J Bool
 |.int k a,.int k' b=>if k=k' then some (a==b)else none
 |.string a,.string b=>some (a.toList==b.toList)
 |.bool a,.bool b=>some (a==b)
 |_,_=>none
def SG(key:Ψ):U (List AV)->J (Option (Nat×AV))
 |[]=>some none
 |[.t (.sc kv),y]::rs=>(SF key kv).bind λb=>if b then some (some (0,y))else(SG key rs).map λr=>r.map λp=>(p.1+1,p.2)
 |_=>none
def AK(key:Ψ)(y':AV):U (List AV)->J (List (List AV))
 |[]=>some [[.t (.sc key),y']]
 |[.t (.sc kv),y]::rs=>(SF key kv).bind λb=>if b then some ([.t (.sc key),y']::rs)else(AK key y' rs).map λr=>[.t (.sc kv),y]::r
 |_=>none
def Hv:AV->AV
 |.agg cs=>.agg (cs.map wk)
 |x=>wk x
def Im(T:en)(i:Nat)(t:Θ):J Out:=
 (T t).bind λti=>match ti.k with
 |.map _ _=>some ⟨.mp (cJ i),[(cJ i,some ⟨0,[]⟩)],[]⟩
 |_=>none
def Kf(r:J (Nat×AV))(z:J AV):J AV:=match r with
 |some p=>some p.2
 |none=>z
def J8(T:en)(t:Θ)(x key:AV)(ok:Bool)(get:Ω):J Out:=
 (T t).bind λti=>match ti.k,x,key with
 |.map kt et,.mp k,.t (.sc kv)=>(T kt).bind λki=>(T et).bind λei=>(get k).bind λo=>if Ni ki.k kv=true/\o.sz=o.rows.length then(SG kv o.rows).bind λr=>
  (Kf r (part' ei.agg ei.size ((ei.zero.map cv).map wk))).bind λv=>pv (if ok then .fm [v,.t (.sc (.bool r.isSome))]else v)else none
 |_,_,_=>none
def J9(T:en)(t:Θ)(x key y:AV)(get:Ω):J Out:=
 (T t).bind λti=>match ti.k,x,key with
 |.map kt _,.mp k,.t (.sc kv)=>(T kt).bind λki=>(get k).bind λo=>if Ni ki.k kv=true/\o.sz=o.rows.length then(AK kv (Hv y) o.rows).bind λrs=>
  some ⟨.undef,[(k,some ⟨rs.length,rs⟩)],[]⟩else none
 |_,_,_=>none
section
variable {P:Program} {T:en} {w0:World} {O0:iu} {β:Nat->Option cH} {I:Nat->Prop} {obj:Nat->Option aR} {w:World} {i:Nat}
theorem akq{k:C2}{v:Ψ}{d:TypeDesc}(h:Ni k v=true)(hd:kOk k d):IsKey d v:=by unfold Ni at h;split at h;subst hd;simp at h;subst h;simp[IsKey];subst hd;simp[IsKey];subst hd;simp[IsKey];cases h
theorem aaW{d:TypeDesc}{a b:Ψ}(ha:IsKey d a){r:Bool}(h:SF a b=some r):Instr.sameNow d a b=some r/\(r=true->a=b)/\IsKey d b:=by
 unfold SF at h;split at h;split at h;rename_i hk;subst hk;cases h;cases d<;>simp only[IsKey]at ha ⊢;subst ha;refine⟨by simp[Instr.sameNow],λhh=>?_,rfl⟩;rw[eq_of_beq hh];cases h;rename_i x y;cases h;cases d<;>simp only[IsKey]at ha ⊢
 all_goals first|omega|skip
 have e:(x==y)=(x.toList==y.toList):=by rw[gu,bytes_beq];constructor;rintro rfl;simp;intro hh;have:=eq_of_beq hh;cases x;simp_all [ByteArray.toList_eq]
 refine⟨by simp[Instr.sameNow,e],λhh=>?_,trivial⟩;rw[(bytes_beq x y).1 (e ▸ hh)];cases h;cases d<;>simp only[IsKey]at ha ⊢
 all_goals first|omega|skip
 exact⟨by simp[Instr.sameNow],λhh=>by rw[eq_of_beq hh],trivial⟩;cases h
theorem SH{d:TypeDesc}{key:Ψ}(hk:IsKey d key):∀(rows:U (List AV))(es:U MapEntry)(i:Nat)(r:J (Nat×AV)),cI P β w I rows es->SG key rows=some r->
 (r=none/\Instr.findNow d key es i=some none)\/∃j y e,r=some (j,y)/\Instr.findNow d key es i=some (some (i+j,e.val))/\es[j]? =some e/\e.key=key/\VR P β w I y e.val
 |[],[],i,r,_,h=>by simp[SG]at h;exact .inl ⟨h.symm,rfl⟩
 |row::rows,e::es,i,r,hm,h=>by
  obtain⟨h1,h2⟩:=hm;unfold SG at h;split at h;rename_i heq;cases heq;rename_i kv y rs heq;injection heq with e1 e2;subst e1;subst e2;obtain⟨⟨g1,_⟩,g2,_⟩:=h1;rw[ah]at h;obtain⟨b,h3,h⟩:=h;rw[<- g1]at h3;have⟨q1,q2,_⟩:=aaW hk h3;cases b with
  |true=>
   simp at h;subst h;exact .inr ⟨0,y,e,rfl,by simp[Instr.findNow,q1],rfl,(q2 rfl).symm,g2⟩
  |false=>
   simp at h;obtain⟨r',h4,rfl⟩:=h;rcases SH hk rows es (i+1) r' h2 h4 with ⟨rfl,a2⟩|⟨j,y',e',rfl,a2,a3,a4,a5⟩;exact .inl ⟨rfl,by simp[Instr.findNow,q1,a2]⟩;exact .inr ⟨j+1,y',e',rfl,by simp only[Instr.findNow,q1,a2];grind,by simpa using a3,a4,a5⟩
  cases h
 |[],_::_,_,_,hm,_|_::_,[],_,_,hm,_=>hm.elim
theorem WA{d:TypeDesc}{key v:Ψ}{y':AV}(hk:IsKey d key)(hv:VR P β w I y' v)(hkv:oneCell key):∀(rows:U (List AV))(es:U MapEntry)(i:Nat)(rs':U (List AV)),cI P β w I rows es->AK key y' rows=some rs'->
 (Instr.findNow d key es i=some none/\∀n,cI P β w I rs' (es++[⟨key,v,n⟩]))\/∃j e,Instr.findNow d key es i=some (some (i+j,e.val))/\es[j]? =some e/\e.key=key/\cI P β w I rs' (es.modify j λe=>{ e with key:=key,val:=v })
 |[],[],i,r,_,h=>by simp[AK]at h;subst h;refine .inl ⟨rfl,λn=>?_⟩;trivial
 |row::rows,e::es,i,r,hm,h=>by
  obtain⟨h1,h2⟩:=hm;unfold AK at h;split at h;rename_i heq;cases heq;rename_i kv y rs heq;injection heq with e1 e2;subst e1;subst e2;have h1':=h1;simp only[bp,VR,TR]at h1;obtain⟨⟨g1,g1'⟩,g2,_⟩:=h1;rw[ah]at h;obtain⟨b,h3,h⟩:=h;rw[<- g1]at h3;have⟨q1,q2,_⟩:=aaW hk h3;cases b with
  |true=>
   simp at h;subst h;refine .inr ⟨0,e,by simp[Instr.findNow,q1],rfl,(q2 rfl).symm,?_⟩;trivial
  |false=>
   simp at h;obtain⟨r',h4,rfl⟩:=h;rcases WA hk hv hkv rows es (i+1) r' h2 h4 with ⟨a1,a2⟩|⟨j,e',a1,a2,a3,a4⟩;exact .inl ⟨by simp[Instr.findNow,q1,a1],λn=>⟨h1',a2 n⟩⟩;refine .inr ⟨j+1,e',by simp only[Instr.findNow,q1,a1];congr 3;omega,by simpa using a2,a3,?_⟩;exact⟨h1',a4⟩
  cases h
 |[],_::_,_,_,hm,_|_::_,[],_,_,hm,_=>hm.elim
theorem Mem.wj{k:Nat}{o o':aR}{b:Nat}{es:Array MapEntry}{cl:Nat}{w':Δ}(h:Mem P w0 O0 β I obj w)(hk:obj k=some o)(hβ:β k=some (.mp b))
 (hnew:w'.heap[b]? =some (.map es cl)) (hother:∀b',b'≠b->w'.heap[b']? =w.heap[b']?) (hsize:w'.heap.size=w.heap.size) (hos:w'.os=w.os) (sC:w'.tape=w.tape) (hout:w'.output=w.output)
 (hle:o'.rows.length<=o'.sz) (hr:cI P β w I o'.rows es.toList) (hnd:(es.toList.map (·.born)).Nodup) (hlt':∀e∈es.toList,e.born<cl):
 Same I w w'/\Mem P w0 O0 β I (cu obj [(k,some o')]) w':=by
 obtain⟨hnI,hlt,hO⟩:=h.j0 k o b hk ⟨_,hβ,rfl⟩;have hs:Same I w w':=λb' hb=>hother b' (λ e=>hnI (e ▸ hb));have hx:∀(j:Nat)(o1:aR),cu obj [(k,some o')] j=some o1->∃o2,obj j=some o2:=λj o1 h=>by
  grind [cu]
 refine⟨hs,?_⟩;constructor;intro j oj hj;simp[cu]at hj;split at hj;rename_i hjk;cases hj;exact⟨.mp b,by grind,es,cl,hnew,hle,λ_=>cI.mono (λ _ _ h=>h) hs (λ _ h=>h) _ _ hr,hnd,hlt'⟩;rename_i hjk;have⟨B,hB,tc⟩:=h.cD j oj hj;refine⟨B,hB,OR.mono (λ _ _ h=>h) hs (λ _ h=>h) (λ b1 e1=>hother b1 (λ e2=>hjk ?_)) tc⟩;subst e2;exact h.eI j k oj o B _ b1 hj hk hB hβ e1 rfl;intro j j' o1 o2 B1 B2 b1 h1 h2 h3 h4 h5 h6;have⟨p1,q1⟩:=hx j o1 h1;have⟨p2,q2⟩:=hx j' o2 h2;exact h.eI j j' p1 p2 B1 B2 b1 q1 q2 h3 h4 h5 h6;intro j o1 B1 b1 h1 h2 h3;have⟨p1,q1⟩:=hx j o1 h1;have:=h.ownB j p1 B1 b1 q1 h2 h3;rw[hsize];exact this;intro b1 hb1;rw[hsize];exact h.lt b1 hb1;exact h.up;intro b1 hb1 hno;rw[hother b1 (λ e1=>?_)];exact h.keep b1 hb1 hno;subst e1;rcases hO with hO|hO;exact hno hO;omega;rw[hsize];exact h.le;rw[hos];exact h.os;rw[sC];exact h.tape;rw[hout];exact h.output;exact h.anch;exact h.vars.mono hs (λ _ h=>h)
theorem Mem.GT(h:Mem P w0 O0 β I obj w)(hn:β i=none):
 Step β I w i (ins β i (.mp w.heap.size)) I (w.alloc (.map #[] 0))/\Mem P w0 O0 (ins β i (.mp w.heap.size)) I (cu obj [(i,some ⟨0,[]⟩)]) (w.alloc (.map #[] 0)):=by
 have hS:Step β I w i (ins β i (.mp w.heap.size)) I (w.alloc (.map #[] 0)):=
  ⟨λ k hk=>by simp[ins,jt.ne hk],om hn,Same.alloc h.lt _,λ_ h=>h⟩
 refine⟨hS,?_⟩;constructor;intro k o' hk;simp[cu]at hk;split at hk;cases hk;rename_i hki;exact⟨.mp w.heap.size,by simp[ins,hki],#[],0,heap_alloc_new w _,aB _,λ_=>trivial,by simp,by simp⟩;have⟨B,hB,hO⟩:=h.cD k o' hk;exact⟨B,om hn _ _ hB,OR.mono hS.ext hS.same hS.inc (λ b hb=>pE (h.ownB k o' B b hk hB hb).2.1) hO⟩;intro k k' o1 o2 B B' b h1 h2 h3 h4 h5 h6;simp[cu]at h1 h2;simp[ins]at h3 h4;split at h1<;>split at h2;rename_i a b;rw[a,b];rename_i hki pL;simp[hki]at h3;simp[pL]at h4;subst h3;injection h5 with h5;have:=(h.ownB k' o2 B' b h2 h4 h6).2.1;omega;rename_i hki pL;simp[pL]at h4;simp[hki]at h3;subst h4;injection h6 with h6;have:=(h.ownB k o1 B b h1 h3 h5).2.1;omega;rename_i hki pL;simp[hki,pL]at h3 h4;exact h.eI k k' o1 o2 B B' b h1 h2 h3 h4 h5 h6;intro k o' B b h1 h2 h3;simp[cu]at h1;simp[ins]at h2;split at h1;rename_i hki;simp[hki]at h2;subst h2;injection h3 with h3;refine⟨λ hI=>?_,?_,.inr ?_⟩;have:=h.lt b hI;omega;simp;omega;have:=h.le;omega;rename_i hki;simp[hki]at h2;have⟨a,b',c'⟩:=h.ownB k o' B b h1 h2 h3;exact⟨a,by simp;omega,c'⟩;intro b hb;have:=h.lt b hb;simp;omega;exact h.up;intro b hb hO;rw[pE (by have:=h.le;omega)];exact h.keep b hb hO;have:=h.le;simp;omega;exact h.os;exact h.tape;exact h.output;intro j B hj;exact om hn _ _ (h.anch j B hj);exact h.vars.mono (Same.alloc h.lt _) (λ _ h=>h)
theorem aer{t:Θ}{ti:p5}(ht:my P t ti){k e:Θ}(h:ti.k=.map k e):P.underlying t=some (.map k e):=by obtain⟨info,d,z,_,h2,_,_,_,_,_,h8⟩:=ht.ex;rw[h]at h8;rw[h2,h8]
theorem aes{t:Θ}{ti:p5}(ht:my P t ti){v:Ψ}(h:Ni ti.k v=true):∃d,P.underlying t=some d/\IsKey d v:=by obtain⟨info,d,z,_,h2,_,_,_,_,_,h8⟩:=ht.ex;exact⟨d,h2,akq h h8⟩
theorem an8{k:C2}{v:Ψ}(h:Ni k v=true):oneCell v:=by unfold Ni at h;split at h;exact trivial;exact trivial;exact trivial;cases h
theorem an9{t:Θ}{ti:p5}(ht:my P t ti){v:AV}(hp:part' ti.agg ti.size ((ti.zero.map cv).map wk)=some v):∃z,(zeroValue t).run P w=.ok z w/\VR P β w I v z:=by
 obtain⟨info,d,z,h1,h2,h3,h4,h5,h6,h7,h8⟩:=ht.ex;refine⟨z,by simp[zeroValue,typeInfo,h1,h5],?_⟩;obtain⟨_,_,g1,g2⟩:=LM (P:=P) (β:=β) (w:=w) (I:=I) hp (bp.wk _ _ (bp.cv ti.zero));have hf:=ht.form info z h1 h5;cases ha:ti.agg with
 |true=>
  rw[ha]at hf;cases z<;>simp[tS]at hf;rename_i cs;have:=g1 ha;simp[Value.cells]at h6;rw[<- h6]at this;omega
 |false=>
  rw[ha]at hf;have h1c:oneCell z:=by cases z<;>simp[tS]at hf<;>trivial
  have⟨u,e1,e2⟩:=g2 ha;rw[cells_one h1c]at h6
  grind
theorem WB(h:Mem P w0 O0 β I obj w)(hn:β (cJ i)=none){t:Θ}{out:Out}(ha:Im T i t=some out){r:Operand->Value}
 {dst:J Tmp} {ty:Θ} {am:String} {after:Array Edge} {guard:J (Nat×Bool)}:s9 P w0 O0 β I obj w i out ((execOp r ⟨dst,.makeMap t none,ty,am,after,guard⟩).run P w):=by
 unfold Im at ha;cases hti:T t with
 |none=>grind
 |some ti=>
  simp[hti]at ha;split at ha;cases ha;have⟨hS,hM⟩:=Mem.GT h hn;refine⟨.map (some w.heap.size),_,_,I,.inl ?_,hS,hM,?_⟩;simp[execOp,Instr.makeMap];simp only[VR];exact⟨_,by simp[ins],rfl⟩;cases ha
theorem akr(hT:fB P T){t kt et:Θ}{ei:p5}(ii:T et=some ei){b:Nat}{es:Array MapEntry}{cl:Nat}{kv:Ψ}{ok:Bool}{r:J (Nat×AV)}{v:AV}
 (hu:P.underlying t=some (.map kt et)) (g1:w.heap[b]? =some (.map es cl)) (hck:(Instr.checkKey es.isEmpty 10000 kt kv).run P w=.ok () w)
 (hf:(r=none/\(Instr.findKey kt kv es.toList).run P w=.ok none w)\/∃(j:Nat)(y:AV)(e:MapEntry),r=some (j,y)/\(Instr.findKey kt kv es.toList).run P w=.ok (some (j,e.val)) w/\VR P β w I y e.val)
 (hv:Kf r (part' ei.agg ei.size ((ei.zero.map cv).map wk))=some v):
 ∃z,(Instr.lookup t (.map (some b)) kv ok).run P w=.ok z w/\VR P β w I (if ok then .fm [v,.t (.sc (.bool r.isSome))]else v) z:=by
 rcases hf with ⟨rfl,a2⟩|⟨j,y,e,rfl,a2,a5⟩;have⟨z,hz,hzv⟩:=an9 (β:=β) (I:=I) (w:=w) (hT et ei ii) hv;cases ok with
 |true=>
  refine⟨.tuple #[z,.bool false],?_,?_⟩;simp[Instr.lookup,run_underlying hu,MapKept.run_getObj_map g1,hck,a2,hz];simp only[if_true,VR];exact⟨_,rfl,by trivial⟩
 |false=>
  refine⟨z,?_,by simpa using hzv⟩;simp[Instr.lookup,run_underlying hu,MapKept.run_getObj_map g1,hck,a2,hz]
 simp[Kf]at hv;subst hv;cases ok with
 |true=>
  refine⟨.tuple #[e.val,.bool true],?_,?_⟩;simp[Instr.lookup,run_underlying hu,MapKept.run_getObj_map g1,hck,a2];simp only[if_true,VR];exact⟨_,rfl,by simp only[bp,VR,TR];exact⟨a5,⟨rfl,trivial⟩,trivial⟩⟩
 |false=>
  refine⟨e.val,?_,by simpa using a5⟩;simp[Instr.lookup,run_underlying hu,MapKept.run_getObj_map g1,hck,a2]
theorem ZQ(hT:fB P T)(h:Mem P w0 O0 β I obj w){t:Θ}{x key:AV}{ok:Bool}{get:Ω}{out:Out}(hg:∀k o,get k=some o->obj k=some o){u kv:Ψ}
 (ha:J8 T t x key ok get=some out) (hx:VR P β w I x u) (hk:VR P β w I key kv):∃z,(Instr.lookup t u kv ok).run P w=.ok z w/\VR P β w I out.v z/\out.upd=[]:=by
 unfold J8 at ha;cases hti:T t with
 |none=>grind
 |some ti=>
  simp only[hti,ai]at ha;split at ha;rename_i kt et k kv' hk1;rw[ah]at ha;obtain⟨ki,hki,ha⟩:=ha;rw[ah]at ha;obtain⟨ei,ii,ha⟩:=ha;rw[ah]at ha;obtain⟨o,ho,ha⟩:=ha;split at ha;rename_i hc;rw[ah]at ha;obtain⟨r,hr,ha⟩:=ha;rw[ah]at ha;obtain⟨v,hv,ha⟩:=ha;simp[pv]at ha;subst ha;simp[VR]at hx hk;obtain⟨b,hβ,rfl⟩:=hx;obtain⟨rfl,_⟩:=hk;have⟨B,hB,hO⟩:=h.cD k o (hg k o ho);rw[hβ]at hB;cases hB;obtain⟨es,cl,g1,g2,g3,g4⟩:=hO;have hu:=aer (hT t ti hti) hk1;have⟨d,hd,hkey⟩:=aes (hT kt ki hki) hc.1;obtain⟨z,q1,q2⟩:=akr (β:=β) (I:=I) hT ii (ok:=ok) hu g1 (run_checkKey hd hkey _ 9999) (by rcases SH hkey o.rows es.toList 0 r (g3 hc.2) hr with ⟨rfl,a2⟩|⟨j,y,e,rfl,a2,a3,a4,a5⟩;exact .inl ⟨rfl,run_findKey hd a2⟩;rw[Nat.zero_add]at a2;exact .inr ⟨j,y,e,rfl,run_findKey hd a2,a5⟩) hv;exact⟨z,q1,q2,rfl⟩;cases ha;cases ha
theorem apJ{x:AV}{v:Ψ}(h:VR P β w I x v):VR P β w I (Hv x) v:=by
 cases x<;>simp[Hv]<;>try exact h.wk
 obtain⟨vs,h1,h2⟩:=h;exact⟨vs,h1,bp.wk _ _ h2⟩
theorem acA{d:TypeDesc}{v:Ψ}(h:IsKey d v):Instr.sameBits 10000 v v=true:=by cases d<;>cases v<;>simp[IsKey]at h<;>simp_all [Instr.sameBits,bytes_beq]
theorem al4(h:Mem P w0 O0 β I obj w){t kt et:Θ}{k b:Nat}{o:aR}{es:Array MapEntry}{cl:Nat}{kv v:Ψ}{rs:U (List AV)}
 (hu:P.underlying t=some (.map kt et)) (i9:obj k=some o) (hβ:β k=some (.mp b)) (g1:w.heap[b]? =some (.map es cl)) (g4:(es.toList.map (·.born)).Nodup) (g5:∀e∈es.toList,e.born<cl)
 (hck:(Instr.checkKey false 10000 kt kv).run P w=.ok () w) (hks:(Instr.keyThatStays kv kv).run P w=.ok kv w)
 (hf:((Instr.findKey kt kv es.toList).run P w=.ok none w/\∀n,cI P β w I rs (es.toList++[⟨kv,v,n⟩]))\/
  ∃(j:Nat)(e:MapEntry),(Instr.findKey kt kv es.toList).run P w=.ok (some (j,e.val)) w/\es.toList[j]? =some e/\e.key=kv/\cI P β w I rs (es.toList.modify j λe=>{ e with key:=kv,val:=v })):
 ∃w',(Instr.mapUpdate t (.map (some b)) kv v).run P w=.ok () w'/\Same I w w'/\Mem P w0 O0 β I (cu obj [(k,some ⟨rs.length,rs⟩)]) w':=by
 rcases hf with ⟨a1,a2⟩|⟨j,e,a1,a2,a3,a4⟩;obtain⟨k1,k2⟩:=heap_set (o':=.map (es.push ⟨kv,v,cl⟩) (cl+1)) g1
 obtain⟨m1,m2⟩:=h.wj (o':=⟨rs.length,rs⟩) (w':={ w with heap:=w.heap.setIfInBounds b (.map (es.push ⟨kv,v,cl⟩) (cl+1)) }) i9 hβ k1 k2 (by simp) rfl rfl rfl (aB _) (by grind)
  (by
   rw[Array.toList_push,List.map_append,List.nodup_append]
   grind)
  (λ e he=>by rw[Array.toList_push,bF]at he;rcases he with he|he;have:=g5 e he;omega;simp at he;subst he;exact Nat.lt_succ_self _)
 refine⟨_,?_,m1,m2⟩;simp[Instr.mapUpdate,run_underlying hu,MapKept.run_getObj_map g1,hck,a1,run_setObj_map _ g1];obtain⟨k1,k2⟩:=heap_set (o':=.map (es.modify j λe=>{ e with key:=kv,val:=v }) cl) g1;have ht:(es.modify j λe=>{ e with key:=kv,val:=v }).toList=es.toList.modify j λe=>{ e with key:=kv,val:=v }:=Array.toList_modify;have hb:(es.toList.modify j λe=>{ e with key:=kv,val:=v }).map (·.born)=es.toList.map (·.born):=by apply List.ext_getElem?;intro q;simp[List.getElem?_modify];split<;>cases es.toList[q]?<;>rfl
 obtain⟨m1,m2⟩:=h.wj (o':=⟨rs.length,rs⟩) (w':={ w with heap:=w.heap.setIfInBounds b (.map (es.modify j λe=>{ e with key:=kv,val:=v }) cl) }) i9 hβ k1 k2 (by simp) rfl rfl rfl (aB _) (by rw[ht];exact a4)
  (by rw[ht,hb];exact g4)
  (λ e he=>by rw[ht]at he;have:e.born∈(es.toList.modify j λe=>{ e with key:=kv,val:=v }).map (·.born):=mem_map.2 ⟨e,he,rfl⟩;rw[hb]at this;obtain⟨e',he',hh⟩:=mem_map.1 this;rw[<- hh];exact g5 e' he')
 refine⟨_,?_,m1,m2⟩;have hold:((es[j]?).map (·.key)).getD kv=kv:=by rw[<- Array.getElem?_toList,a2];exact a3
 simp[Instr.mapUpdate,run_underlying hu,MapKept.run_getObj_map g1,hck,a1,hold,hks,run_setObj_map _ g1]
theorem Lc(hT:fB P T)(h:Mem P w0 O0 β I obj w){t:Θ}{x key y:AV}{get:Ω}{out:Out}(hg:∀k o,get k=some o->obj k=some o){u kv v:Ψ}
 (ha:J9 T t x key y get=some out) (hx:VR P β w I x u) (hk:VR P β w I key kv) (hy:VR P β w I y v):∃w',(Instr.mapUpdate t u kv v).run P w=.ok () w'/\Same I w w'/\Mem P w0 O0 β I (cu obj out.upd) w'/\out.v=.undef:=by
 unfold J9 at ha;cases hti:T t with
 |none=>grind
 |some ti=>
  simp[hti]at ha;split at ha;rename_i kt et k kv' hk1;rw[ah]at ha;obtain⟨ki,hki,ha⟩:=ha;rw[ah]at ha;obtain⟨o,ho,ha⟩:=ha;split at ha;rename_i hc;rw[ah]at ha;obtain⟨rs,hr,ha⟩:=ha;cases ha;simp[VR]at hx hk;obtain⟨b,hβ,rfl⟩:=hx;obtain⟨hkk,_⟩:=hk;subst hkk;have i9:=hg k o ho;have⟨B,hB,hO⟩:=h.cD k o i9;rw[hβ]at hB;cases hB;obtain⟨es,cl,g1,g2,g3,g4,g5⟩:=hO;have hu:=aer (hT t ti hti) hk1;have⟨d,hd,hkey⟩:=aes (hT kt ki hki) hc.1;have hlt:b<w.heap.size:=(Array.getElem?_eq_some_iff.1 g1).1;obtain⟨w',q1,q2,q3⟩:=al4 (rs:=rs) (v:=v) h hu i9 hβ g1 g4 g5 (run_checkKey hd hkey _ 9999) (by simp[Instr.keyThatStays,acA hkey]) (by rcases WA hkey (apJ hy) (an8 hc.1) o.rows es.toList 0 rs (g3 hc.2) hr with ⟨a1,a2⟩|⟨j,e,a1,a2,a3,a4⟩;exact .inl ⟨run_findKey hd a1,a2⟩;rw[Nat.zero_add]at a1;exact .inr ⟨j,e,run_findKey hd a1,a2,a3,a4⟩);exact⟨w',q1,q2,q3,rfl⟩;cases ha;cases ha
end
def Rg(T:en)(i:Nat)(t:Θ)(l c:AV):J Out:=
 (T t).bind λti=>match ti.k,l,c with
 |.slice e,.t (.sc (.int _ n)),.t (.sc (.int _ m))=>(T e).bind λei=>
  some ⟨.own (cJ i) 0 n.toNat,[(cJ i,some ⟨ei.size,eF (List.replicate n.toNat (ei.zero.map cv))⟩)],[0<=n/\n<=m/\m.toNat*ei.bytes<=140737488355328/\m.toNat<=maxLen/\0<ei.size]⟩
 |_,_,_=>none
def Qu(x:AV):J Out:=
 match x with
 |.ptr k r f=>pv (.ptr k r f)
 |.eE r f=>pv (.eE r f)
 |_=>none
def P0:Op->Bool
 |.nilCheck _=>true
 |.makeSlice _ _ _=>true
 |.makeMap _ none=>true
 |.lookup _ _ _ _=>true
 |.mapUpdate _ _ _ _=>true
 |.insert _ _ _ _=>true
 |_=>false
def EA(T:en)(i:Nat)(o:Oper)(_n:Int)(ρ:Operand->AV)(get:Ω):J Out:=
 match o.op with
 |.nilCheck x=>Qu (ρ x)
 |.makeSlice t l c=>Rg T i t (ρ l) (ρ c)
 |.makeMap t none=>Im T i t
 |.lookup t m x ok=>J8 T t (ρ m) (ρ x) ok get
 |.mapUpdate t m x v=>J9 T t (ρ m) (ρ x) (ρ v) get
 |.insert t m x v=>J9 T t (ρ m) (ρ x) (ρ v) get
 |_=>none
def um(T:en)(i:Nat)(o:Oper)(n:Int)(ρ:Operand->AV)(get:Ω):J Out:=
 bif P0 o.op then EA T i o n ρ get else ul T i o n ρ get
section
variable {T:en}
theorem ZR{i:Nat}{o:Oper}{n:Int}{ρ ρ':Operand->AV}{get:Ω}(h:∀x∈o.op.operands,ρ x=ρ' x):EA T i o n ρ get=EA T i o n ρ' get:=by
 obtain⟨dst,op,ty,am,after,guard⟩:=o;cases op<;>simp only[Op.operands]at h<;>simp[EA]
 case nilCheck x=>rw[h x (by simp)]
 case makeSlice t l c=>rw[h l (by simp),h c (by simp)]
 case makeMap t r=>cases r<;>rfl
 case lookup t m x ok=>rw[h m (by simp),h x (by simp)]
 case mapUpdate t m x v=>rw[h m (by simp),h x (by simp),h v (by simp)]
 case insert t m x v=>rw[h m (by simp),h x (by simp),h v (by simp)]
theorem ZT{i:Nat}{o:Oper}{n:Int}{ρ ρ':Operand->AV}{get:Ω}(h:∀x∈o.op.operands,ρ x=ρ' x):um T i o n ρ get=um T i o n ρ' get:=by unfold um;rw[acs h,ZR h]
end
section
variable {P:Program} {T:en} {w0:World} {O0:iu} {β:Nat->Option cH} {I:Nat->Prop} {obj:Nat->Option aR} {w:World} {i:Nat}
theorem ZU(z:η)(n j:Nat)(h:j<n):(madeCells z n)[j]? =some (z[j%z.size]!):=by simp[madeCells,h]
theorem aev(hT:fB P T)(h:Mem P w0 O0 β I obj w)(hn:β (cJ i)=none){t:Θ}{l c:AV}{u v:Ψ}{out:Out}(ha:Rg T i t l c=some out)(cN:out.ob)(hl:VR P β w I l u)(hc:VR P β w I c v)
 {r:Operand->Value} {x y:Operand} (hu:r x=u) (hv:r y=v) {dst:J Tmp} {ty:Θ} {am:String} {after:Array Edge} {guard:J (Nat×Bool)}:
 s9 P w0 O0 β I obj w i out ((execOp r ⟨dst,.makeSlice t x y,ty,am,after,guard⟩).run P w):=by
 unfold Rg at ha;cases hti:T t with
 |none=>simp[hti]at ha
 |some ti=>
  simp[hti]at ha;split at ha;rename_i e kl n kc m hkd;cases ii:T e with
  |none=>simp[ii]at ha
  |some ei=>
   simp[ii]at ha;subst ha;obtain⟨n0,nm,m47,Lo,mpos⟩:=cN;simp[VR]at hl hc;obtain⟨rfl,_⟩:=hl;obtain⟨rfl,_⟩:=hc;have he:=hT e ei ii;have eS:=iU (hT t ti hti) hkd;obtain⟨info,d,z,g1,g2,g3,g4,g5,g6,g7,g8⟩:=he.ex;obtain⟨n,rfl⟩:∃n':Nat,n=(n':Int):=⟨n.toNat,by omega⟩;obtain⟨m,rfl⟩:∃m':Nat,m=(m':Int):=⟨m.toNat,by omega⟩;simp at m47 Lo ⊢;have hb:(info.bytes:Int)*(m:Int)<=281474976710656:=by
    have:((info.bytes*m:Nat):Int)<=281474976710656:=by rw[g4,Nat.mul_comm];omega
    rwa [Int.natCast_mul]at this
   have hrun:=run_make (P:=P) w t e info z eS g1 g5 kl kc n m n0 nm hb (by simp[maxLen]at Lo;omega);simp[g3]at hrun;have hzs:z.cells.size=ei.size:=(by rw[<- Array.length_toList,g6];exact he.len);have hcs:(madeCells z.cells (m*ei.size)).size=m*ei.size:=size_madeCells _ _;obtain⟨hS,hM⟩:=Mem.alloc (i:=cJ i) (o:=⟨ei.size,List.replicate n (ei.zero.map cv)⟩) (c:=madeCells z.cells (m*ei.size)) (e:=e) h hn (by refine cd.zeros ei.zero ei.size he.len (λ v hv=>uj (all_eq_true.1 he.one v hv)) n _ 0 (λ i j hi hj=>?_);have hlt:0+i*ei.size+j<m*ei.size:=(by have:(i+1)*ei.size<=m*ei.size:=Nat.mul_le_mul_right _ (by omega);rw[Nat.add_mul]at this;omega);rw[ZU _ _ _ hlt,hzs];have e1:(0+i*ei.size+j)%ei.size=j:=(by rw[Nat.zero_add,Nat.mul_comm,Nat.mul_add_mod,Nat.mod_eq_of_lt hj]);rw[e1,<- g6,Array.getElem?_toList,getElem!_pos z.cells j (by rw[hzs];exact hj),Array.getElem?_eq_getElem]);refine⟨_,_,_,I,.inl (by simp[execOp,hu,hv,hrun];rfl),hS,hM.yz,?_⟩;simp only[VR];refine .inr ⟨w.heap.size,ei.size,_,_,0,by simp[ins];rfl,rfl,by omega,?_,by simp⟩;rw[al0,Up,hcs,Nat.zero_add,Nat.zero_add];exact aB _
  cases ha
theorem ZV(hT:fB P T)(h:Mem P w0 O0 β I obj w)(hn:β (cJ i)=none){o:Oper}{n:Int}{ρ:Operand->AV}{get:Ω}{out:Out}(hg:∀k o,get k=some o->obj k=some o)
 {r:Operand->Value} (hρ:∀x,VR P β w I (ρ x) (r x)) (ha:EA T i o n ρ get=some out) (cN:out.ob):s9 P w0 O0 β I obj w i out ((execOp r o).run P w):=by
 obtain⟨dst,op,ty,am,after,guard⟩:=o;unfold EA at ha;split at ha
 .rename_i x heq;simp only at heq;subst heq;have hx:=hρ x;unfold Qu at ha;split at ha
  .rename_i k q f hk;simp only[pv,bV]at ha;subst ha;rw[hk]at hx;have hx2:=hx;simp only[VR]at hx2;obtain⟨b,sz,m,_,e1⟩:=hx2;exact⟨r x,w,β,I,.inl (by simp[execOp,e1]),Step.refl ..,h,hx⟩
  .rename_i q f hk;simp only[pv,bV]at ha;subst ha;rw[hk]at hx;have hx2:=hx;simp only[VR]at hx2;obtain⟨b,o',e1,_⟩:=hx2;exact⟨r x,w,β,I,.inl (by simp[execOp,e1]),Step.refl ..,h,hx⟩
  .cases ha
 .rename_i t l c heq;simp only at heq;subst heq;exact aev hT h hn ha cN (hρ l) (hρ c) rfl rfl
 .rename_i t heq;simp only at heq;subst heq;exact WB h hn ha
 .rename_i t m x ok heq;simp only at heq;subst heq;have⟨z,h1,h2,h3⟩:=ZQ hT h hg ha (hρ m) (hρ x);exact⟨z,w,β,I,.inl (by simp[execOp,h1]),Step.refl ..,by rw[h3];exact h,h2⟩
 .rename_i t m x v heq;simp only at heq;subst heq;have⟨w',h1,h2,h3,h4⟩:=Lc hT h hg ha (hρ m) (hρ x) (hρ v);exact⟨undef,w',β,I,.inr ⟨by simp[execOp,h1],rfl⟩,⟨λ _ _=>rfl,λ_ _ h=>h,h2,λ_ h=>h⟩,h3,by rw[h4];simp[VR]⟩
 .rename_i t m x v heq;simp only at heq;subst heq;have⟨w',h1,h2,h3,h4⟩:=Lc hT h hg ha (hρ m) (hρ x) (hρ v);exact⟨undef,w',β,I,.inr ⟨by simp[execOp,h1],rfl⟩,⟨λ _ _=>rfl,λ_ _ h=>h,h2,λ_ h=>h⟩,h3,by rw[h4];simp[VR]⟩
 .cases ha
theorem ZW(hT:fB P T)(h:Mem P w0 O0 β I obj w)(hn:β (cJ i)=none){o:Oper}{n:Int}{ρ:Operand->AV}{get:Ω}{out:Out}(hg:∀k o,get k=some o->obj k=some o)
 {r:Operand->Value} (hρ:∀x,VR P β w I (ρ x) (r x)) (ha:um T i o n ρ get=some out) (cN:out.ob):s9 P w0 O0 β I obj w i out ((execOp r o).run P w):=by
 unfold um at ha;cases hx:P0 o.op with
 |true=>rw[hx]at ha;exact ZV (n:=n) hT h hn hg hρ ha cN
 |false=>rw[hx]at ha;exact acw hT h hn hg hρ ha cN
end
mutual
def kx(f:Nat->Nat):AV->AV
 |.own k aa len=>.own (f k) aa len
 |.ptr k row aa=>.ptr (f k) row aa
 |.agg cs=>.agg (Dc f cs)
 |.fm cs=>.fm (Dc f cs)
 |.fn F first caps=>.fn F (Dc f first) (Dc f caps)
 |.t x=>.t x
 |.eE r o=>.eE r o
 |.d7 φ=>.d7 φ
 |.mp k=>.mp (f k)
 |.oz k len=>.oz (f k) len
 |.cT=>.cT
 |.ub=>.ub
 |.undef=>.undef
def Dc(f:Nat->Nat):List AV->List AV
 |[]=>[]
 |x::xs=>kx f x::Dc f xs
end
def KD(f:Nat->Nat)(o:aR):aR:=⟨o.sz,o.rows.map (Dc f)⟩
def qk(os:U (Nat×aR))(k:Nat):J aR:=match os with
 |[]=>none
 |(j,o)::r=>if j=k then some o else qk r k
def Tb(P:Ξ)(w:Δ)(β:ζ)(I:Φ)(os':U (Nat×aR))(rv:AV)(e:Ending)(w':Δ):Prop:=
 ∃v β' I',e=.returned v/\Mem P w (nI β I) β' I' (qk os') w'/\(∀ b,I b->I' b)/\VR P β' w' I' rv v
def ue(os:U aR)(k:Nat):J aR:=os[k]?
def Hs(P:Ξ)(f:FuncId)(args:U AV)(os:U aR)(os':U (Nat×aR))(rv:AV):Prop:=
 eZ P f/\∀(w:World) (β:Nat->J cH) (I:Nat->Prop) (vs:Array Value),(∀ k,os.length<=k->β k=none)->Mem P w (nI β I) β I (ue os) w->bp P β w I args vs.toList->Calls P f vs w (Tb P w β I os' rv)
def Io(i k:Nat):Bool:=Nat.ble 1000000 k&&(k-1000000)/64==i
theorem WC{i k:Nat}:Io i k=true↔jt (cJ i) k:=by
 simp_all [Io,jt,cJ]
def cn(i:Nat)(ab:U Nat)(j:Nat):Nat:=if j<1000 then(ab[j]?).getD 0 else cJ i+(j-1000)
def WE(P:Ξ)(get:Ω)(ab:U Nat)(k:Nat):OB->J (aR×List Prop)
 |.dat p=>(get k).bind λo=>some (ir p,[o.sz=p.1/\eF (o.rows.take p.2.length)=aI p.2])
 |.HH hs=>(get k).bind λo=>(Ez P get ab o.rows hs).bind λq=>some (⟨o.sz,q.1⟩,q.2)
def Ld(P:Ξ)(get:Ω)(ab:U Nat):U Nat->U OB->J (List aR×List Prop)
 |[],[]=>some ([],[])
 |k::ks,b::bs=>(WE P get ab k b).bind λp=>(Ld P get ab ks bs).bind λq=>some (p.1::q.1,p.2++q.2)
 |_,_=>none
def Qv(o:aR):U Nat:=o.rows.flatMap fA
def WG(get:Ω)(xs:U AV)(ab cR:U Nat)(bs:U OB):Prop:=
 (∀ k∈cR,k∉ab)/\(∀ k∈fA xs,k∉ab->k∈cR)/\∀(j:Nat) hs q o,bs[j]? =some (.HH hs)->ab[j]? =some q->get q=some o->∀k∈Qv o,k∉ab->k∈cR
def CE(i:Nat)(ab:U Nat)(os':U (Nat×aR)):U (Nat×Option aR):=
 (ab.zipIdx.map λp=>(p.1,(qk os' p.2).map (KD (cn i ab))))++(os'.filter λq=>decide (1000<=q.1)).map λq=>(cn i ab q.1,some (KD (cn i ab) q.2))
mutual
def EB:AV->Prop
 |.t x=>x.flat
 |.eE _ _|.d7 _=>False
 |.agg cs|.fm cs=>qM cs
 |.fn _ first caps=>qM first/\qM caps
 |_=>True
def qM:List AV->Prop
 |[]=>True
 |x::xs=>EB x/\qM xs
end
def G4(n k:Nat):Prop:=k<n\/(1000<=k/\k<1064)
def Ix(n:Nat)(os':U (Nat×aR))(rv:AV):Prop:=
 (∀ q∈os',G4 n q.1)/\(os'.map (·.1)).Nodup/\(∀ q∈os',∀r∈q.2.rows,∀k∈fA r,G4 n k)/\∀k∈refs rv,G4 n k
def oA(os':U (Nat×aR))(rv:AV):Prop:=EB rv/\∀q∈os',∀r∈q.2.rows,qM r
def Nj(P:Ξ)(i:Nat)(f:AV)(args:U AV)(cy:ka)(get:Ω):J Out:=
 match f,cy with
 |.fn F first caps,.u9 ab cR bs hs os' rv keep=>if ab.Nodup/\ab.length<=1000 then(Ld P get ab ab bs).bind λho=>(mW P get ab (first++args++caps) hs).bind λq=>
  some ⟨kx (cn i ab) rv,CE i ab os'++(if keep then []else cR.map λk=>(k,none)),
   q.2.2++ho.2++[Hs P F q.1 ho.1 os' rv,Ix ab.length os' rv,WG get (first++args++caps) ab cR bs]++(if keep then [oA os' rv]else [])⟩
  else none
 |_,_=>none
section
variable {P:Program} {w0:World} {O0:iu} {β β1 β2:Nat->Option cH} {I:Nat->Prop} {obj:Nat->Option aR} {w:World} {i:Nat}
mutual
theorem VR.xc{f:Nat->Nat}:∀(x:AV)(v:Value),(∀ k∈refs x,∀B,β1 k=some B->β2 (f k)=some B)->VR P β1 w I x v->VR P β2 w I (kx f x) v
 |.own k aa len,v,hd,h=>by have hd':=hd k (by simp[refs]);rcases h with ⟨h1,h2⟩|⟨b,s,n,c,o,h1,h2⟩;exact .inl ⟨hd' _ h1,h2⟩;exact .inr ⟨b,s,n,c,o,hd' _ h1,h2⟩
 |.ptr k row aa,v,hd,h=>by obtain⟨b,s,n,h1,h2⟩:=h;exact⟨b,s,n,hd k (by simp[refs]) _ h1,h2⟩
 |.agg cs,v,hd,h=>by obtain⟨vs,h1,h2⟩:=h;exact⟨vs,h1,bp.xc cs _ (by trivial) h2⟩
 |.fm cs,v,hd,h=>by obtain⟨vs,h1,h2⟩:=h;exact⟨vs,h1,bp.xc cs _ (by simpa[refs]using hd) h2⟩
 |.fn F first caps,v,hd,h=>by obtain⟨fs,cs,h1,h2,h3⟩:=h;exact⟨fs,cs,h1,bp.xc first _ (λ k hk=>hd k (by simp[refs,hk])) h2,bp.xc caps _ (λ k hk=>hd k (by simp[refs,hk])) h3⟩
 |.t x,v,_,h|.eE r o,v,_,h|.d7 φ,v,_,h=>by simpa[kx,VR]using h
 |.mp k,v,hd,h=>by obtain⟨b,h1,h2⟩:=h;exact⟨b,hd k (by simp[refs]) _ h1,h2⟩
 |.oz k len,v,hd,h=>by rcases h with h|⟨h0,b,sz,n,cap,o,h1,h2⟩;exact .inl h;exact .inr ⟨h0,b,sz,n,cap,o,hd k (by simp[refs]) _ h1,h2⟩
 |.cT,v,_,h|.ub,v,_,h=>by simpa[kx,VR]using h
 |.undef,v,_,h=>by simp[kx,VR]
theorem bp.xc{f:Nat->Nat}:∀(xs:List AV)(vs:List Value),(∀ k∈fA xs,∀B,β1 k=some B->β2 (f k)=some B)->bp P β1 w I xs vs->bp P β2 w I (Dc f xs) vs
 |[],[],_,_=>by simp[Dc,bp]
 |x::xs,v::vs,hd,h=>by exact⟨VR.xc x v (λ k hk=>hd k (by simp[fA,hk])) h.1,bp.xc xs vs (λ k hk=>hd k (by simp[fA,hk])) h.2⟩
 |[],_::_,_,h|_::_,[],_,h=>by simp[bp]at h
end
mutual
theorem VR.flat{I2:Nat->Prop}:∀(x:AV)(v:Value),EB x->VR P β w I x v->VR P β w I2 x v
 |.own k aa len,v,_,h|.ptr k row aa,v,_,h=>by trivial
 |.agg cs,v,hf,h=>by obtain⟨vs,h1,h2⟩:=h;exact⟨vs,h1,bp.flat cs _ (by trivial) h2⟩
 |.fm cs,v,hf,h=>by obtain⟨vs,h1,h2⟩:=h;exact⟨vs,h1,bp.flat cs _ (by trivial) h2⟩
 |.fn F first caps,v,hf,h=>by obtain⟨fs,cs,h1,h2,h3⟩:=h;simpa[EB]using ⟨fs,cs,h1,bp.flat first _ hf.1 h2,bp.flat caps _ hf.2 h3⟩
 |.t x,v,hf,h=>by simpa[VR]using Tree.m8 (by simpa[EB]using hf) h
 |.eE r o,v,hf,h|.d7 φ,v,hf,h=>by simp[EB]at hf
 |.mp k,v,_,h|.oz k len,v,_,h|.cT,v,_,h|.ub,v,_,h=>by simpa[VR]using h
 |.undef,v,_,h=>by simp[VR]
theorem bp.flat{I2:Nat->Prop}:∀(xs:List AV)(vs:List Value),qM xs->bp P β w I xs vs->bp P β w I2 xs vs
 |[],[],_,_=>by simp[bp]
 |x::xs,v::vs,hf,h=>by simpa[qM]using ⟨VR.flat x v hf.1 h.1,bp.flat xs vs hf.2 h.2⟩
 |[],_::_,_,h|_::_,[],_,h=>by simp[bp]at h
end
theorem SK(f:Nat->Nat):∀l:U AV,(Dc f l).length=l.length
 |[]=>rfl
 |_::l=>by simp[Dc,SK f l]
theorem cW.tell{β':ζ}{w':Δ}{I':Φ}{r q:U AV}{c:η}{aa:Nat}(hv:∀vs:U Value,bp P β w I r vs->bp P β' w' I' q vs)(h:cW P β w I r c aa):cW P β' w' I' q c aa:=by have⟨vs,h1,h2,h3⟩:=cW.list r c aa h;exact cW.pm q vs c aa (hv vs h1) h2 h3
theorem cd.tell{β':ζ}{w':Δ}{I':Φ}:∀{rs qs:U (List AV)}{c:Array Value}{aa sz:Nat},rs.length=qs.length->(∀ (j:Nat) r q,rs[j]? =some r->qs[j]? =some q->q.length=r.length/\∀vs:U Value,bp P β w I r vs->bp P β' w' I' q vs)->
 cd P β w I rs c aa sz->cd P β' w' I' qs c aa sz
 |[],[],_,_,_,_,_,h=>h
 |r::rs,q::qs,c,aa,sz,hl,hr,h=>by obtain⟨h1,h2,h3⟩:=h;have⟨e1,e2⟩:=hr 0 r q rfl rfl;exact⟨e1.trans h1,h2.tell e2,cd.tell (by grind) (λ j a b ha hb=>hr (j+1) a b (by grind) (by grind)) h3⟩
 |[],_::_,_,_,_,hl,_,_|_::_,[],_,_,_,hl,_,_=>by grind
theorem cI.tell{β':ζ}{I':Φ}:∀{rs qs:U (List AV)}{es:U MapEntry},rs.length=qs.length->(∀ (j:Nat) r q',rs[j]? =some r->qs[j]? =some q'->∀vs:U Value,bp P β w I r vs->bp P β' w I' q' vs)->cI P β w I rs es->cI P β' w I' qs es
 |[],[],[],_,_,_=>trivial
 |r::rs,q::qs,_::es,hl,hr,⟨h1,h2⟩=>⟨hr 0 r q rfl rfl _ h1,cI.tell (by grind) (λ j r' q' a b=>hr (j+1) r' q' (by grind) (by grind)) h2⟩
 |[],_::_,_,hl,_,_|_::_,[],_,hl,_,_=>by grind
 |[],_,_::_,_,_,h|_::_,_,[],_,_,h=>h.elim
theorem OR.tell{β':ζ}{I':Φ}{o q:aR}{B:cH}(hsz:q.sz=o.sz)(hl:o.rows.length=q.rows.length)(hr:∀(j:Nat) r q',o.rows[j]? =some r->q.rows[j]? =some q'->q'.length=r.length/\∀vs:U Value,bp P β w I r vs->bp P β' w I' q' vs)
 (h:OR P β w I o B):OR P β' w I' q B:=by
 cases B with
 |none=>
  rw[h]at hl;exact eq_nil_of_length_eq_zero hl.symm
 | «at» b s n=>
  obtain⟨h1,c,e,h2,h3,h4⟩:=h;exact⟨hsz ▸ h1,c,e,h2,h3,h4.tell hl hr⟩
 |mp b=>
  obtain⟨es,cl,h1,hle,h2,h3⟩:=h;exact⟨es,cl,h1,by omega,λe=>cI.tell hl (λ j r q' a b=>(hr j r q' a b).2) (h2 (by omega)),h3⟩
theorem OR.xc{f:Nat->Nat}{o:aR}{B:cH}(hf:∀r∈o.rows,∀k∈fA r,∀B,β1 k=some B->β2 (f k)=some B)(h:OR P β1 w I o B):OR P β2 w I (KD f o) B:=by refine OR.tell (o:=o) (q:=KD f o) rfl (by simp[KD]) (λ j r q h1 h2=>?_) h;simp[KD]at h2;obtain⟨r',h3,rfl⟩:=h2;rw[h1]at h3;cases h3;exact⟨SK f r,λvs hv=>bp.xc r vs (hf r (cZ h1)) hv⟩
theorem OR.oA{I2:Φ}{o:aR}{B:cH}(hf:∀r∈o.rows,qM r)(h:OR P β w I o B):OR P β w I2 o B:=by refine OR.tell rfl rfl (λ j r q h1 h2=>?_) h;rw[h1]at h2;cases h2;exact⟨rfl,λvs hv=>bp.flat r vs (hf r (cZ h1)) hv⟩
def p7(P:Ξ)(get:Ω)(ab:U Nat):U (List AV)->U (List AV)->Prop
 |[],[]=>True
 |r::rs,q::qs=>gc P get ab r q/\p7 P get ab rs qs
 |_,_=>False
theorem Nk{get:Ω}{ab:U Nat}:∀{rs:U (List AV)}{hs:U (List LH)}{p:U (List AV)×List Prop},Ez P get ab rs hs=some p->(∀ q∈p.2,q)->p7 P get ab rs p.1
 |[],[],p,h,_=>by simp[Ez]at h;subst h;trivial
 |r::rs,hl::hs,p,h,ho=>by simp only[Ez,ah,bV]at h;obtain⟨q,h1,q',h2,rfl⟩:=h;exact⟨oo h1 (λ y hy=>ho y (by grind)),Nk h2 (λ y hy=>ho y (by grind))⟩
 |[],_::_,p,h,_|_::_,[],p,h,_=>by trivial
theorem gc.length{get:Ω}{ab:U Nat}:∀{xs ys:U AV},gc P get ab xs ys->ys.length=xs.length
 |[],[],_=>rfl
 |x::xs,y::ys,h=>by simp[gc.length h.2]
 |[],_::_,h|_::_,[],h=>h.elim
theorem p7.get{get:Ω}{ab:U Nat}:∀{rs qs:U (List AV)},p7 P get ab rs qs->rs.length=qs.length/\∀(j:Nat) r q,rs[j]? =some r->qs[j]? =some q->gc P get ab r q
 |[],[],_=>⟨rfl,λj r q h=>by simp at h⟩
 |r::rs,q::qs,h=>by
  obtain⟨h1,h2⟩:=p7.get h.2
  grind [h.1]
 |[],_::_,h|_::_,[],h=>h.elim
theorem WH{get:Ω}{ab:U Nat}:∀{ks:U Nat}{bs:U OB}{p:U aR×List Prop},Ld P get ab ks bs=some p->(∀ q∈p.2,q)->ks.length=p.1.length/\∀(j:Nat) k q,ks[j]? =some k->p.1[j]? =some q->∃o,get k=some o/\
 ((∃ d:fC,bs[j]? =some (.dat d)/\q=ir d/\o.sz=d.1/\eF (o.rows.take d.2.length)=aI d.2)\/(∃ hs,bs[j]? =some (.HH hs)/\q.sz=o.sz/\p7 P get ab o.rows q.rows))
 |[],[],p,h,_=>by grind [Ld]
 |k::ks,b::bs,p,h,ho=>by
  simp only[Ld,ah,bV]at h;obtain⟨q,h1,q',h2,rfl⟩:=h;obtain⟨g1,g2⟩:=WH h2 (λ y hy=>ho y (by grind));refine⟨by grind,λj k' z hj hz=>?_⟩;cases j with
  |succ j=>
   grind
  |zero=>
   simp at hj hz;subst hj;subst hz;rcases b with d|hs;simp[WE,ah]at h1;obtain⟨o,e1,rfl⟩:=h1;have:=ho _ (List.mem_append_left _ (bg.2 rfl));exact⟨o,e1,.inl ⟨d,rfl,rfl,this.1,this.2⟩⟩;simp only[WE,ah,bV]at h1;obtain⟨o,e1,z,e2,rfl⟩:=h1;exact⟨o,e1,.inr ⟨hs,rfl,rfl,Nk e2 (λ y hy=>ho y (List.mem_append_left _ hy))⟩⟩
 |[],_::_,p,h,_|_::_,[],p,h,_=>by trivial
theorem Mem.zE(h:Mem P w0 O0 β I obj w){get:Ω}(hg:∀k o,get k=some o->obj k=some o){ab cR:U Nat}{os:U aR}(hnd:ab.Nodup)(hlen:ab.length=os.length)
 (hm:∀(j:Nat) k q,ab[j]? =some k->os[j]? =some q->∃o,get k=some o/\((∃ d:fC,q=ir d/\o.sz=d.1/\eF (o.rows.take d.2.length)=aI d.2)\/(q.sz=o.sz/\p7 P get ab o.rows q.rows/\∀k∈Qv o,k∉ab->k∈cR))) (E1:∀k∈cR,k∉ab):
 Mem P w (nI (βc ab β) (ft β obj cR I)) (βc ab β) (ft β obj cR I) (ue os) w:=by
 have hb0:∀j k,ab[j]? =some k->βc ab β j=β k:=λj k hk=>by simp[βc,hk]
 have look:∀j q,ue os j=some q->∃k o,ab[j]? =some k/\obj k=some o/\∀B,OR P β w I o B->OR P (βc ab β) w (ft β obj cR I) q B:=by
  intro j q hj;have hjl:j<ab.length:=hlen ▸ (dx.1 hj).1;obtain⟨o,g,hh⟩:=hm j _ q (dP hjl) hj;refine⟨_,o,dP hjl,hg _ _ g,λB hO=>?_⟩;rcases hh with ⟨d,rfl,g4,g5⟩|⟨g4,g5,g6⟩;have:OR P β w I (ir d) B:=by
   cases B with
   |none=>
    simp_all [OR,hO,eF,ir]
   | «at» b s n=>
    obtain⟨h1,c,e,h2,h3,h4⟩:=hO;refine⟨by rw[h1,g4];rfl,c,e,h2,h3,?_⟩;have:=cd.wk _ _ _ _ (cd.take d.2.length _ _ _ _ h4);rw[g5]at this;exact this
   |mp b=>exact OR.part g4 g5 hO
  exact this.dat λb hb=>.inl hb;obtain⟨e1,e2⟩:=g5.get;refine hO.tell g4 e1 (λ m r q' hr hq=>?_);have hb:=e2 m r q' hr hq;refine⟨hb.length,λvs hv=>?_⟩;exact gc.sound h hg cR r q' vs (λ k hk hn=>g6 k (List.mem_flatMap.2 ⟨r,cZ hr,hk⟩) hn) hb hv
 constructor;intro j q hj;have⟨k,o,g1,g2,g3⟩:=look j q hj;have⟨B,hB,hO⟩:=h.cD k o g2;exact⟨B,hb0 j k g1 ▸ hB,g3 B hO⟩;intro j j' o o' B B' b h1 h2 h3 h4 h5 h6;have⟨k,q,g1,g3,_⟩:=look j o h1;have⟨k',q',g1',g3',_⟩:=look j' o' h2;rw[hb0 j k g1]at h3;rw[hb0 j' k' g1']at h4;have:=h.eI k k' q q' B B' b g3 g3' h3 h4 h5 h6;subst this;exact Qt hnd g1 g1';intro j o B b h1 h2 h5;have⟨k,q,g1,g3,_⟩:=look j o h1;have h2':=h2;rw[hb0 j k g1]at h2;have⟨a1,a2,_⟩:=h.ownB k q B b g3 h2 h5;refine⟨?_,a2,.inl ⟨j,B,h2',h5⟩⟩;rintro (hI|⟨k',o',s',n',e1,e2,e3⟩);exact a1 hI;have:=h.pc k k' q o' b g3 e2 ⟨B,h2,h5⟩ (.at e3);subst this;exact E1 _ e1 (cZ g1);exact Ng h _;exact λb hb=>.inl hb;exact λ_ _ _=>rfl;exact aB _;rfl;rfl;rfl;intro j B hj;simp only[nI]at hj;split at hj;exact hj;cases hj;exact h.vars.mono (λ _ _=>rfl) (λ b hb=>.inl hb)
theorem acB:∀{os':U (Nat×aR)}{k:Nat}{o:aR},qk os' k=some o->(k,o)∈os'
 |[],_,_,h=>by trivial
 |(j,q)::r,k,o,h=>by simp[qk]at h;split at h;rename_i e;cases h;subst e;exact List.mem_cons_self;exact bQ _ (acB h)
theorem WI:∀{os':U (Nat×aR)}{k:Nat}{o:aR},(os'.map (·.1)).Nodup->(k,o)∈os'->qk os' k=some o
 |(j,q)::r,k,o,hn,h=>by simp only[bK,List.nodup_cons]at hn;simp[qk];rcases aL.1 h with e|h;injection e with e1 e2;subst e1;subst e2;rw[aY rfl];rw[aT (λ e=>hn.1 (mem_map.2 ⟨(k,o),h,e.symm⟩)),WI hn.2 h]
theorem aex{F:Ω}{k:Nat}:∀(ab:U Nat)(n:Nat),(∃ j,ab[j]? =some k/\cu obj ((ab.zipIdx n).map λp=>(p.1,F p.2)) k=F (n+j))\/(k∉ab/\cu obj ((ab.zipIdx n).map λp=>(p.1,F p.2)) k=obj k)
 |[],n=>.inr ⟨by simp,rfl⟩
 |q::ab,n=>by
  simp[cu];by_cases e:k=q;subst e;exact .inl ⟨0,rfl,by simp⟩;rw[aT e];rcases aex (k:=k) ab (n+1)with ⟨j,h1,h2⟩|⟨h1,h2⟩;exact .inl ⟨j+1,by grind,by rw[h2];grind⟩
  grind
theorem aaY{c:Nat->Nat}{G:aR->aR}{k:Nat}:∀(l:U (Nat×aR)),(∃ q∈l,k=c q.1/\cu obj (l.map λq=>(c q.1,some (G q.2))) k=some (G q.2))\/cu obj (l.map λq=>(c q.1,some (G q.2))) k=obj k
 |[]=>.inr rfl
 |q::l=>by
  simp only[bK,cu];by_cases e:k=c q.1;exact .inl ⟨q,by simp,e,by rw[aY e]⟩;rw[aT e];rcases aaY (c:=c) (G:=G) (k:=k) l with ⟨z,h1,h2,h3⟩|h;exact .inl ⟨z,bQ _ h1,h2,h3⟩
  grind
theorem aey(h:Mem P w0 O0 β I obj w)(hn:∀k,jt (cJ i) k->β k=none){ab cR:U Nat}{os':U (Nat×aR)}{rv:AV}{keep:Bool}(hgood:Ix ab.length os' rv)(hk:keep=true->oA os' rv)
 (hnd:ab.Nodup) (hl:ab.length<=1000) (li:∀k∈ab,∃o,obj k=some o)
 {w':Δ} {I1:Φ} {v:Ψ} (hM:Mem P w (nI (βc ab β) (ft β obj cR I)) β1 I1 (qk os') w') (h1:∀b,ft β obj cR I b->I1 b) (hr:VR P β1 w' I1 rv v):
 ∃ β' I',Step β I w (cJ i) β' I' w'/\Mem P w0 O0 β' I' (cu obj (CE i ab os'++if keep then []else cR.map (λ k=>(k,none)))) w'/\VR P β' w' I' (kx (cn i ab) rv) v:=by
 obtain⟨gk,gn,gr,gv⟩:=hgood;have hb0:∀j k,ab[j]? =some k->βc ab β j=β k:=λj k hk=>by simp[βc,hk]
 have hown0:∀k B,β k=some B->¬jt (cJ i) k:=λk B hk e=>by grind
 have lz:∀j k,ab[j]? =some k->∃B,β k=some B/\β1 j=some B:=by intro j k hj;have⟨o,ho⟩:=li k (cZ hj);have⟨B,hB,_⟩:=h.cD k o ho;have hjl:=(dx.1 hj).1;exact⟨B,hB,hM.anch j B (by grind [nI])⟩
 generalize HB:(λ k=>if Io i k then β1 (1000+(k-cJ i))else β k:Nat->J cH)=β2;have DG:∀k,¬jt (cJ i) k->β2 k=β k:=λk hk=>by
  rw[<- HB];have:Io i k=false:=by
   cases e:Io i k with
   |false=>rfl
   |true=>exact absurd (WC.1 e) hk
  simp[this]
 have hβn:∀j,1000<=j->j<1064->β2 (cJ i+(j-1000))=β1 j:=λj e1 e2=>by
  rw[<- HB];have e:Io i (cJ i+(j-1000))=true:=WC.2 (by simp[jt,cJ];omega);have e':1000+(cJ i+(j-1000)-cJ i)=j:=by omega
  simp only[e,if_true,e']
 have hmap:∀k,G4 ab.length k->∀B,β1 k=some B->β2 (cn i ab k)=some B:=by rintro k (hk|⟨hk1,hk2⟩) B hB;obtain⟨B',e1,e2⟩:=lz k _ (dP hk);rw[e2]at hB;cases hB;simp[cn,show k<1000 by omega,dP hk];rw[DG _ (hown0 _ _ e1)];exact e1;simp[cn,show ¬k<1000 by omega];rw[hβn k hk1 hk2];exact hB
 have look:∀g k o,cu obj (CE i ab os'++g) k=some o->(∃ j o0,ab[j]? =some k/\qk os' j=some o0/\o=KD (cn i ab) o0)\/
  (∃ j o0,1000<=j/\j<1064/\qk os' j=some o0/\k=cJ i+(j-1000)/\o=KD (cn i ab) o0)\/(k∉ab/\cu obj g k=some o):=by intro g k o hko;rw[tN,CE,tN]at hko;rcases aex (obj:=cu (cu obj g) ((os'.filter λ(q:Nat×aR)=>decide (1000<=q.1)).map λ(q:Nat×aR)=>(cn i ab q.1,some (KD (cn i ab) q.2)))) (F:=λj=>(qk os' j).map (KD (cn i ab))) (k:=k) ab 0 with ⟨j,e1,e2⟩|⟨e1,e2⟩;rw[e2]at hko;simp at hko;obtain⟨o0,e3,e4⟩:=hko;exact .inl ⟨j,o0,e1,e3,e4.symm⟩;rw[e2]at hko;rcases aaY (obj:=cu obj g) (c:=cn i ab) (G:=KD (cn i ab)) (k:=k) (os'.filter λq=>decide (1000<=q.1))with ⟨q,e3,e4,e5⟩|e3;rw[e5]at hko;injection hko with hko;simp at e3;have hq:=gk q e3.1;simp[G4]at hq;refine .inr (.inl ⟨q.1,q.2,e3.2,by omega,WI gn e3.1,?_,hko.symm⟩);rw[e4];simp[cn,show ¬q.1<1000 by omega];rw[e3]at hko;exact .inr (.inr ⟨e1,hko⟩)
 have main:∀(g:U (Nat×Option aR))(I2:Nat->Prop),(∀ k o,cu obj g k=some o->obj k=some o)->(∀ b,I b->I2 b)->(∀ b,I2 b->I1 b)->(∀ j o B,qk os' j=some o->OR P β1 w' I1 o B->OR P β1 w' I2 o B)->
  (∀ k o b,k∉ab->cu obj g k=some o->gi β k b->¬I2 b)->VR P β1 w' I2 rv v->
  ∃ β' I',Step β I w (cJ i) β' I' w'/\Mem P w0 O0 β' I' (cu obj (CE i ab os'++g)) w'/\VR P β' w' I' (kx (cn i ab) rv) v:=by
  intro g I2 hg hI hI1 hor SD hr2;have hown:∀b,Uj (βc ab β) b->∃k o,k∈ab/\obj k=some o/\gi β k b:=by rintro b ⟨j,B,hj,hB⟩;have⟨k,e1,e2⟩:=Nh hj;have⟨o,e3⟩:=li k (cZ e1);exact⟨k,o,cZ e1,e3,B,e2,hB⟩
  have hapart:∀k o b,k∉ab->obj k=some o->gi β k b->¬Uj (βc ab β) b:=by intro k o b hk e1 e2 hb;have⟨k',o',g1,g2,g3⟩:=hown b hb;have:=h.pc k k' o o' b e1 g2 e2 g3;subst this;exact hk g1
  have hS:Same I w w':=λb hb=>hM.keep b (h.lt b hb) (λ hb'=>by have⟨k',o',g1,g2,g3⟩:=hown b hb';exact(h.j0 k' o' b g2 g3).1 hb);have Pi:∀k o,cu obj (CE i ab os'++g) k=some o->(∃ j o0,qk os' j=some o0/\G4 ab.length j/\k=cn i ab j/\β2 k=β1 j/\o=KD (cn i ab) o0)\/(k∉ab/\obj k=some o/\cu obj g k=some o/\β2 k=β k):=by intro k o hko;rcases look g k o hko with ⟨j,o0,e1,e2,e3⟩|⟨j,o0,e1,SR,e2,e3,e4⟩|⟨e1,e2⟩;have⟨B,e4,e5⟩:=lz j k e1;have hjl:=(dx.1 e1).1;refine .inl ⟨j,o0,e2,.inl hjl,?_,?_,e3⟩;simp[cn,show j<1000 by omega,e1];rw[DG _ (hown0 _ _ e4),e4,e5];refine .inl ⟨j,o0,e2,.inr ⟨e1,SR⟩,?_,?_,e4⟩;simp[cn,show ¬j<1000 by omega];exact e3;rw[e3];exact hβn j e1 SR;have⟨B,e3,_⟩:=h.cD k o (hg k o e2);exact .inr ⟨e1,hg k o e2,e2,DG _ (hown0 _ _ e3)⟩
  have tt:∀j o0 b,qk os' j=some o0->gi β1 j b->¬I2 b/\b<w'.heap.size/\(Uj (βc ab β) b\/w.heap.size<=b):=by intro j o0 b e1 e2;have⟨a1,a2,a3⟩:=hM.j0 j o0 b e1 e2;exact⟨λ hb=>a1 (hI1 b hb),a2,a3⟩
  refine⟨β2,I2,⟨DG,λk B hk=>by rw[DG k (hown0 k B hk)];exact hk,hS,hI⟩,?_,VR.xc rv v (λ k hk=>hmap k (gv k hk)) hr2⟩;constructor;intro k o hko;rcases Pi k o hko with ⟨j,o0,e1,e2,e3,e4,rfl⟩|⟨e1,e2,e3,e4⟩;have⟨B,hB,hO⟩:=hM.cD j o0 e1;refine⟨B,by rw[e4];exact hB,OR.xc (λ r hr' q hq=>hmap q (gr (j,o0) (acB e1) r hr' q hq)) (hor j o0 B e1 hO)⟩;have⟨B,hB,hO⟩:=h.cD k o e2;refine⟨B,by rw[e4];exact hB,OR.mono (λ q C hq=>by rw[DG q (hown0 q C hq)];exact hq) hS hI (λ b e=>hM.keep b (h.ownB k o B b e2 hB e).2.1 (hapart k o b e1 e2 ⟨B,hB,e⟩)) hO⟩;intro k k' o o' B B' b ho ho' hb hb' h5 h6;rcases Pi k o ho with ⟨j,o0,e1,e2,e3,e4,rfl⟩|⟨e1,e2,e3,e4⟩;rw[e4]at hb;rcases Pi k' o' ho' with ⟨j',o0',f1,f2,f3,f4,rfl⟩|⟨f1,f2,f3,f4⟩;rw[f4]at hb';have:=hM.eI j j' o0 o0' B B' b e1 f1 hb hb' h5 h6;subst this;rw[e3,f3];rw[f4]at hb';rcases (tt j o0 b e1 ⟨B,hb,h5⟩).2.2 with g1|g1;exact absurd g1 (hapart k' o' b f1 f2 ⟨B',hb',h6⟩);have:=(h.ownB k' o' B' b f2 hb' h6).2.1;omega;rw[e4]at hb;rcases Pi k' o' ho' with ⟨j',o0',f1,f2,f3,f4,rfl⟩|⟨f1,f2,f3,f4⟩;rw[f4]at hb';rcases (tt j' o0' b f1 ⟨B',hb',h6⟩).2.2 with g1|g1;exact absurd g1 (hapart k o b e1 e2 ⟨B,hb,h5⟩);have:=(h.ownB k o B b e2 hb h5).2.1;omega;rw[f4]at hb';exact h.eI k k' o o' B B' b e2 f2 hb hb' h5 h6;intro k o B b ho hb h5;rcases Pi k o ho with ⟨j,o0,e1,e2,e3,e4,rfl⟩|⟨e1,e2,e3,e4⟩;rw[e4]at hb;have⟨a1,a2,a3⟩:=tt j o0 b e1 ⟨B,hb,h5⟩;refine⟨a1,a2,?_⟩;rcases a3 with a3|a3;have⟨k',o',g1,g2,g3⟩:=hown b a3;exact(h.j0 k' o' b g2 g3).2.2;exact .inr (Nat.le_trans h.le a3);rw[e4]at hb;have⟨a1,a2,a3⟩:=h.ownB k o B b e2 hb h5;exact⟨SD k o b e1 e3 ⟨B,hb,h5⟩,Nat.lt_of_lt_of_le a2 hM.le,a3⟩;exact λb hb=>hM.lt b (hI1 b hb);intro b hb;rcases hM.up b (hI1 b hb)with (g1|⟨k',o',s',n',_,g2,g3⟩)|g1|g1;exact h.up b g1;exact .inr (h.own k' o' b s' n' g2 g3).2.2;have⟨k',o',_,g2,g3⟩:=hown b g1;exact .inr (h.j0 k' o' b g2 g3).2.2;exact .inr (.inr (Nat.le_trans h.le g1));intro b hb hno;refine(hM.keep b (Nat.lt_of_lt_of_le hb h.le) (λ hb'=>?_)).trans (h.keep b hb hno);have⟨k',o',_,g2,g3⟩:=hown b hb';rcases (h.j0 k' o' b g2 g3).2.2 with g1|g1;exact hno g1;omega;exact Nat.le_trans h.le hM.le;exact hM.os.trans h.os;exact hM.tape.trans h.tape;exact hM.output.trans h.output;intro j B hj;have e:=h.anch j B hj;rw[DG j (hown0 j B e)];exact e;exact h.vars.mono hS hI
 cases keep with
 |true=>
  have⟨hf1,hf2⟩:=hk rfl;exact main [] I (λ _ _ h=>h) (λ _ h=>h) (λ b hb=>h1 b (.inl hb)) (λ j o B hj hO=>OR.oA (hf2 (j,o) (acB hj)) hO) (λ k o b _ e1 e2=>(h.j0 k o b e1 e2).1) (VR.flat rv v hf1 hr)
 |false=>
  have hsub:∀k o,cu obj (cR.map λk=>(k,none)) k=some o->obj k=some o/\k∉cR:=by intro k o hk;rw[y9]at hk;split at hk;cases hk;exact⟨hk,‹_›⟩
  refine main _ I1 (λ k o hk=>(hsub k o hk).1) (λ b hb=>h1 b (.inl hb)) (λ _ h=>h) (λ j o B hj hO=>hO) (λ k o b hki e1 e2 hb=>?_) hr;have⟨f1,f2⟩:=hsub k o e1;have⟨a1,a2,_⟩:=h.j0 k o b f1 e2;rcases hM.up b hb with (g|⟨k',o',s',n',g1,g2,g3⟩)|⟨j,B',g,g'⟩|g;exact a1 g;have:=h.pc k k' o o' b f1 g2 e2 (.at g3);subst this;exact f2 g1;have⟨k',g1,g2⟩:=Nh g;have⟨o',g3⟩:=li k' (cZ g1);have:=h.pc k k' o o' b f1 g3 e2 ⟨B',g2,g'⟩;subst this;exact hki (cZ g1);omega
theorem WJ(h:Mem P w0 O0 β I obj w)(hn:∀k,jt (cJ i) k->β k=none){f:AV}{args:U AV}{cy:ka}{get:Ω}{out:Out}(hg:∀k o,get k=some o->obj k=some o)
 {fv:Ψ} {vs:η} {ag:Array Operand} {fo:Operand} {r:Operand->Value} (ha:Nj P i f args cy get=some out) (cN:out.ob) (hf:VR P β w I f fv) (hv:bp P β w I args vs.toList) (hfo:r fo=fv) (hops:vs=ag.map r)
 {dst:J Tmp} {am:String} {after:Array Edge} {guard:J (Nat×Bool)} {ty:Θ} {de:Array TypeId}:
 AU P w0 O0 β I obj w i out ((execOp r ⟨dst,.call { callee:=.value fo,args:=ag,argTypes:=de },ty,am,after,guard⟩).run P w):=by
 unfold Nj at ha;split at ha;rename_i F first caps ab cR bs hs os' rv keep
 split at ha;rename_i hc;obtain⟨hnd,hl⟩:=hc;rw[ah]at ha;obtain⟨ho,hho,ha⟩:=ha;rw[ah]at ha;obtain⟨q,hq,ha⟩:=ha;cases ha;have cN:=rP _ cN;simp[VR]at hf;obtain⟨fs,cs,rfl,hf1,hf2⟩:=hf;have o1:∀x∈q.2.2,x:=λx hx=>cN x (by grind);have o2:∀x∈ho.2,x:=λx hx=>cN x (by simp[hx]);have o3:Hs P F q.1 ho.1 os' rv:=cN (Hs P F q.1 ho.1 os' rv) (by simp);have o4:Ix ab.length os' rv:=cN (Ix ab.length os' rv) (by simp);have o5:keep=true->oA os' rv:=λe=>cN (oA os' rv) (by simp[e]);obtain⟨l1,l2,l3⟩:WG get (first++args++caps) ab cR bs:=cN (WG get (first++args++caps) ab cR bs) (by simp);obtain⟨⟨fn,e1,e2,e3⟩,hcon⟩:=o3;have⟨hl2,hmm⟩:=WH hho o2;have li:∀k∈ab,∃o,obj k=some o:=by
  intro k hk;obtain⟨j,hj⟩:=List.getElem?_of_mem hk;have hjl:j<ho.1.length:=by rw[<- hl2];exact(dx.1 hj).1
  obtain⟨o,g,_⟩:=hmm j k _ hj (dP hjl);exact⟨o,hg _ _ g⟩
 have hM:=h.zE hg (cR:=cR) hnd hl2 (λ j k z hj hz=>by have⟨o,g1,g2⟩:=hmm j k z hj hz;refine⟨o,g1,?_⟩;rcases g2 with ⟨d,_,g3⟩|⟨hs',g3,g4,g5⟩;exact .inl ⟨d,g3⟩;exact .inr ⟨g4,g5,λk' hk' hn'=>l3 j hs' k o g3 hj g1 k' hk' hn'⟩) l1;have hall:bp P β w I (first++args++caps) (fs++vs++cs).toList:=by simp only[Array.toList_append];exact bp.append _ _ _ _ (bp.append _ _ _ _ hf1 hv) hf2
 have m7:=gc.sound h hg cR _ _ _ (λ k hk hn=>l2 k hk hn) (oo hq o1) hall;refine⟨F,fs++vs++cs,?_,(hcon w _ _ _ (λ k hk=>?_) hM m7).mono ?_⟩;have hb:¬fn.body=none:=by cases hh:fn.body<;>simp[hh]at e2 ⊢
 have e3' : ¬ fn.name = "runtime.NumGoroutine" := by simpa using e3
 simp[execOp,resolve,hfo,<- hops,Deferred.ofValue,invoke,callFunc,e1,e3',hb];simp[βc,List.getElem?_eq_none (show ab.length<=k by omega)];rintro e w' ⟨v',β1,I1,rfl,g1,g2,g3⟩;have⟨β',I',k1,k2,k3⟩:=aey (keep:=keep) h hn o4 o5 hnd hl li g1 g2 g3;exact⟨v',β',I',rfl,k1,k2,k3⟩;cases ha;cases ha
end
def l7(P:Ξ)(i:Nat)(f:AV)(args:U AV)(cy:ka)(get:Ω):J Out:=
 match cy with
 |.u9 ab cR bs hs os' rv keep=>Nj P i f args (.u9 ab cR bs hs os' rv keep) get
 |cy=>rQ P i f args cy get
section
variable {P:Program} {w0:World} {O0:iu} {β:Nat->Option cH} {I:Nat->Prop} {obj:Nat->Option aR} {w:World} {i:Nat}
theorem WK(h:Mem P w0 O0 β I obj w)(hn:∀k,jt (cJ i) k->β k=none){f:AV}{args:U AV}{cy:ka}{get:Ω}{out:Out}(hg:∀k o,get k=some o->obj k=some o)
 {fv:Ψ} {vs:η} {ag:Array Operand} {fo:Operand} {r:Operand->Value} (ha:l7 P i f args cy get=some out) (cN:out.ob) (hf:VR P β w I f fv) (hv:bp P β w I args vs.toList) (hfo:r fo=fv) (hops:vs=ag.map r)
 {dst:J Tmp} {am:String} {after:Array Edge} {guard:J (Nat×Bool)} {ty:Θ} {de:Array TypeId}:
 AU P w0 O0 β I obj w i out ((execOp r ⟨dst,.call { callee:=.value fo,args:=ag,argTypes:=de },ty,am,after,guard⟩).run P w):=by unfold l7 at ha;split at ha;exact WJ h hn hg ha cN hf hv hfo hops;exact Wy h (hn _ (.inl rfl)) hg ha cN hf hv hfo hops
end
structure St where
 env:Nat->AV
 obj:Nat->Option aR
 ok:Nat->Option Bool
structure ot where
 cy:ka
 rd:List Nat
 wr:List Nat
 sym:Bool
def kr(P:Ξ)(T:en)(i:Nat)(o:Oper)(cy:ka)(ρ:Operand->AV)(get:Ω):J Out:=
 match cy with
 |.ext n=>um T i o n ρ get
 |.xv ab fr xe=>Il P T i o ab fr xe ρ get
 |cy=>match o.op with
  |.call { callee:=.value f,args:=args,argTypes:=_ }=>l7 P i (ρ f) (args.toList.map ρ) cy get
  |_=>ru T i o cy ρ get
def BK{α:Type}(env:Nat->α)(dst:J Tmp)(v:α):Nat->α:=λt=>if dst=some t then v else env t
def St.app(σ:St)(dst:J Tmp)(p:Out×Option Bool):St:=⟨BK σ.env dst p.1.v,cu σ.obj p.1.upd,BK σ.ok dst p.2⟩
def want(ag:Array Oper)(o:Oper)(env:Nat->AV)(ok:Nat->J Bool):J Bool:=
 match o.guard with
 |none=>some true
 |some (j,b)=>match (ag[j]?).bind (·.dst)with
  |some t=>match env t,ok t with
   |.t (.sc (.bool v)),none=>some (v==b)
   |.t (.sc (.bool v)),some g=>some (g&&(v==b))
   |.undef,some false=>some false
   |_,_=>none
  |none=>none
def yw(ok:Nat->J Bool):Operand->U Prop
 |.tmp t=>match ok t with
  |none=>[]
  |some b=>[b=true]
 |_=>[]
def needs(env:Nat->AV)(ok:Nat->J Bool)(o:Op):U Prop:=
 match o with
 |.pick c a b=>match mL env c with
  |.t (.sc (.bool e))=>yw ok c++((yw ok a).map (λ p=>e=true->p)++(yw ok b).map (λ p=>e=false->p))
  |_=>[False]
 |o=>o.operands.toList.flatMap (yw ok)
def dU(rd:U Nat)(obj:Ω):Nat->J aR:=λk=>if k∈rd then obj k else none
section
variable (P:Program) (T:en) (ag:Array Oper) (cV:Nat->ot)
def opAt(i:Nat)(σ:St):J (Out×Option Bool):=
 (ag[i]?).bind λo=>(want ag o σ.env σ.ok).bind λg=>match (cV i).sym with
  |true=>(kr P T i o (cV i).cy (mL σ.env) (dU (cV i).rd σ.obj)).bind λout=>
   if out.upd.isEmpty then some (⟨out.v,[],(needs σ.env σ.ok o.op++out.obs).map λp=>g=true->p⟩,some g)else none
  |false=>match g with
   |true=>(kr P T i o (cV i).cy (mL σ.env) (dU (cV i).rd σ.obj)).bind λout=>
    if out.upd.all (λ p=>Io i p.1 || (cV i).wr.contains p.1)then some (⟨out.v,out.upd,needs σ.env σ.ok o.op++out.obs⟩,none)else none
   |false=>some (⟨.undef,[],[]⟩,some false)
def As(i:Nat)(K:St->Prop)(σ:St):Prop:=∃o out,ag[i]? =some o/\opAt P T ag cV i σ=some out/\out.1.ob/\K (σ.app o.dst out)
def WL(Q:St->Prop):U Nat->St->Prop
 |[],σ=>Q σ
 |i::r,σ=>As P T ag cV i (WL Q r) σ
def G3(md:Region.Mode)(Q:St->Prop):Nat->Array Bool->St->Prop
 | 0,listed,σ=>Region.ready md ag listed=[]/\Q σ
 |fuel+1,listed,σ=>(Region.ready md ag listed=[]->Q σ)/\∀i∈Region.ready md ag listed,As P T ag cV i (G3 md Q fuel (listed.setIfInBounds i true)) σ
end
def yC(cV:Nat->ot)(i j:Nat):Bool:=
 (cV j).rd.all (λ k=>!Io i k&&!(cV i).wr.contains k)&&(!Nat.beq i j&&(cV j).wr.all (λ k=>!Io i k&&!(cV i).wr.contains k)&&(cV i).wr.all (λ k=>!Io j k))&&(cV i).rd.all (λ k=>!Io j k&&!(cV j).wr.contains k)
def Qw(md:Region.Mode)(ag:Array Oper)(i:Nat):U Nat:=
 (List.range ag.size).foldl (λ D j=>match ag[j]? with
  |some oj=>bif oj.after.any (λ e=>Region.binds md e&&(e.on==i || D.contains e.on))then j::D else D
  |none=>D) []
def T7(md:Region.Mode)(ag:Array Oper)(listed:Array Bool)(i j:Nat):Bool:=
 (Qw md ag i).contains j&&(Qw md ag i).all λd=>!listed.getD d true
def Qx(md:Region.Mode)(ag:Array Oper)(cV:Nat->ot)(listed:Array Bool)(i:Nat):Bool:=
 match ag[i]? with
 |some oi=>(List.range ag.size).all λj=>j==i || listed.getD j true || match ag[j]? with
  |some oj=>oj.after.any (λ e=>Region.binds md e&&e.on==i) || (oi.apart ag oj&&yC cV i j) || T7 md ag listed i j
  |none=>true
 |none=>false
def lexFrom'(md:Region.Mode)(ag:Array Oper)(cV:Nat->ot):Nat->Nat->Array Bool->Bool
 | 0,_,listed=>(Region.ready md ag listed).isEmpty
 |fuel+1,k,listed=>(Region.ready md ag listed).contains k&&Qx md ag cV listed k&&lexFrom' md ag cV fuel (k+1) (listed.setIfInBounds k true)
def T6(ag:Array Oper)(cV:Nat->ot):Bool:=lexFrom' .any ag cV ag.size 0 (Array.replicate ag.size false)
section
variable {P:Program} {T:en} {ag:Array Oper} {cV:Nat->ot} {md:Region.Mode} {Q:St->Prop}
theorem al6{i:Nat}{K K':St->Prop}{σ:St}(h:∀ σ,K σ->K' σ)(hh:As P T ag cV i K σ):As P T ag cV i K' σ:=
 let ⟨o,out,h1,h2,h3,h4⟩:=hh
 ⟨o,out,h1,h2,h3,h _ h4⟩
theorem Nl{i:Nat}{o:Oper}{cy:ka}{ρ ρ':Operand->AV}{get:Ω}(h:∀x∈o.op.operands,ρ x=ρ' x):kr P T i o cy ρ get=kr P T i o cy ρ' get:=by have hop:=SC (T:=T) (i:=i) (cy:=cy) (get:=get) h;unfold kr;split;exact ZT h;exact acu h;obtain⟨dst,op,ty,am,after,guard⟩:=o;simp at h ⊢;split;rename_i f args de;simp only[Op.operands,Call.operands]at h;have h1:args.toList.map ρ=args.toList.map ρ':=map_congr_left λx hx=>h x (by simp;exact .inr (by simpa using hx));rw[h1,h f (by simp)];exact hop
theorem aaZ{i:Nat}{σ:St}{out:Out×Option Bool}(h:opAt P T ag cV i σ=some out):∀p∈out.1.upd,Io i p.1=true\/p.1∈(cV i).wr:=by
 unfold opAt at h;cases ho:ag[i]? with
 |none=>simp[ho]at h
 |some o=>
  simp[ho]at h;cases hw:want ag o σ.env σ.ok with
  |none=>simp[hw]at h
  |some g=>
   simp[hw]at h;split at h;cases ha:kr P T i o (cV i).cy (mL σ.env) (dU (cV i).rd σ.obj)with
   |none=>simp[ha]at h
   |some out'=>
    simp only[ha,ai]at h;split at h;cases h;simp;cases h
   split at h;cases ha:kr P T i o (cV i).cy (mL σ.env) (dU (cV i).rd σ.obj)with
   |none=>simp[ha]at h
   |some out'=>
    all_goals grind
   cases h;simp
theorem vO{obj:Ω}:∀(upd:U (Nat×Option aR))(k:Nat),(∀ p∈upd,p.1≠k)->cu obj upd k=obj k
 |[],_,_=>rfl
 |(j,o)::r,k,h=>by simp[cu];rw[aT (λ e=>h (j,o) (by simp) e.symm),vO r k (λ p hp=>h p (by simp[hp]))]
theorem EC{obj kq:Ω}:∀(upd:U (Nat×Option aR))(k:Nat),obj k=kq k->cu obj upd k=cu kq upd k
 |[],_,h=>h
 |(j,o)::r,k,h=>by simp[cu,EC r k h]
theorem aez{env env':Nat->AV}{ok ok':Nat->J Bool}{o:Op}(h:∀t,.tmp t∈o.operands->env t=env' t/\ok t=ok' t):needs env ok o=needs env' ok' o:=by
 have h1:∀x∈o.operands,yw ok x=yw ok' x:=λx hx=>by
  cases x with
  |tmp t=>simp[yw,(h t hx).2]
  |_=>rfl
 unfold needs;split;rename_i c a b;have hc:mL env c=mL env' c:=by
  cases c with
  |tmp t=>exact(h t (by simp[Op.operands])).1
  |_=>rfl
 rw[hc,h1 c (by simp[Op.operands]),h1 a (by simp[Op.operands]),h1 b (by simp[Op.operands])];have:∀l:U Operand,(∀ x∈l,yw ok x=yw ok' x)->l.flatMap (yw ok)=l.flatMap (yw ok'):=by
  intro l
  induction l with
  |nil=>intro _;rfl
  |cons x xs ih=>intro hx;simp[hx x (by simp),ih (λ y hy=>hx y (by simp[hy]))]
 exact this _ λx hx=>h1 x (by simpa using hx)
theorem aeA{j:Nat}{oi oj:Oper}{out:Out×Option Bool}{σ:St}(hj:ag[j]? =some oj)(hd:∀d,oi.dst=some d->d∉oj.looksAt ag)(hk:∀p∈out.1.upd,p.1∉(cV j).rd):
 opAt P T ag cV j (σ.app oi.dst out)=opAt P T ag cV j σ:=by
 simp[opAt,hj];have sR:∀t,t∈oj.looksAt ag->(σ.app oi.dst out).env t=σ.env t:=λt ht=>by simp only[St.app,BK];rw[aT (λ e=>hd t e ht)]
 have arF:∀t,t∈oj.looksAt ag->(σ.app oi.dst out).ok t=σ.ok t:=λt ht=>by simp only[St.app,BK];rw[aT (λ e=>hd t e ht)]
 have hw:want ag oj (σ.app oi.dst out).env (σ.app oi.dst out).ok=want ag oj σ.env σ.ok:=by
  unfold want;cases hg:oj.guard with
  |none=>rfl
  |some gw=>grind [Oper.looksAt]
 have hget:dU (cV j).rd (σ.app oi.dst out).obj=dU (cV j).rd σ.obj:=by funext k;simp[dU];split;rename_i hkr;exact vO _ _ (λ p hp e=>hk p hp (e ▸ hkr));rfl
 have hin:∀t,.tmp t∈oj.op.operands->t∈oj.looksAt ag:=λt ht=>by simp only[Oper.looksAt];exact List.mem_append_left _ (List.mem_filterMap.2 ⟨.tmp t,by simpa using ht,rfl⟩)
 have hρ:kr P T j oj (cV j).cy (mL (σ.app oi.dst out).env) (dU (cV j).rd σ.obj)=kr P T j oj (cV j).cy (mL σ.env) (dU (cV j).rd σ.obj):=by
  refine Nl λx hx=>?_;cases x with
  |tmp t=>exact sR t (hin t hx)
  |_=>rfl
 have hnd:needs (σ.app oi.dst out).env (σ.app oi.dst out).ok oj.op=needs σ.env σ.ok oj.op:=aez λt ht=>⟨sR t (hin t ht),arF t (hin t ht)⟩;rw[hw,hget,hρ,hnd]
theorem al7{σ:St}{di dj:J Tmp}{a b:Out×Option Bool}(hd:∀d,di=some d->dj≠some d)(hk:∀p∈a.1.upd,∀q∈b.1.upd,p.1≠q.1):(σ.app di a).app dj b=(σ.app dj b).app di a:=by
 have slot:∀{α:Type} (e:Nat->α) (x y:α),BK (BK e di x) dj y=BK (BK e dj y) di x:=λe x y=>by funext t;simp[BK];by_cases h1:dj=some t;rw[aY h1,aT (λ e=>hd t e h1),aY h1];rw[aT h1,aT h1]
 simp[St.app];refine⟨slot _ _ _,?_,slot _ _ _⟩;funext k;by_cases h1:∃p∈a.1.upd,p.1=k;obtain⟨p,hp,e⟩:=h1;rw[vO b.1.upd k (λ q hq e2=>hk p hp q hq (e.trans e2.symm))];exact EC _ _ (vO b.1.upd k (λ q hq e2=>hk p hp q hq (e.trans e2.symm))).symm;have h2:∀p∈a.1.upd,p.1≠k:=λp hp e=>h1 ⟨p,hp,e⟩;rw[vO a.1.upd k h2];exact EC _ _ (vO a.1.upd k h2)
theorem aoc{i j:Nat}{oi oj:Oper}{out:Out×Option Bool}{σ:St}{K:St->Prop}(hi:ag[i]? =some oi)(hj:ag[j]? =some oj)(hap:oi.apart ag oj=true)(hfp:yC cV i j=true)
 (hy:opAt P T ag cV i σ=some out) (h:As P T ag cV j K (σ.app oi.dst out)):
 As P T ag cV j (λ σ'=>opAt P T ag cV i σ'=some out/\K (σ'.app oi.dst out)) σ:=by
 obtain⟨a1,a2,a3⟩:=Oper.apart_spec hap;simp only[yC,aX]at hfp;obtain⟨⟨f1,⟨f0,f2⟩,f2'⟩,f3⟩:=hfp;have hij:i≠j:=by intro e;subst e;rw[show Nat.beq i i=true from Nat.beq_refl i]at f0;cases f0
 have ki:=aaZ hy;have no:∀(a:Nat)(l wr:U Nat)(k:Nat),(l.all λk=>!Io a k&&!wr.contains k)=true->(Io a k=true\/k∈wr)->k∈l->False:=by grind
 obtain⟨o,Z2,g1,g2,g3,g4⟩:=h;rw[hj]at g1;cases g1;rw[aeA hj a1 (λ p hp hr=>no _ _ _ _ f1 (ki p hp) hr)]at g2;have kj:=aaZ g2;have both:∀k,(Io i k=true\/k∈(cV i).wr)->(Io j k=true\/k∈(cV j).wr)->False:=by intro k h1 h2;rcases h2 with h2|h2;rcases h1 with h1|h1;simp[Io]at h1 h2;exact hij (h1.2.symm.trans h2.2);have:=all_eq_true.1 f2' k h1;rw[h2]at this;exact absurd this (by simp);exact no _ _ _ _ f2 h1 h2
 refine⟨oj,Z2,hj,g2,g3,?_,?_⟩;rw[aeA hi a3 (λ p hp hr=>no _ _ _ _ f3 (kj p hp) hr)];exact hy;rw[<- al7 a2 (λ p hp q hq e=>both p.1 (ki p hp) (e ▸ kj q hq))];exact g4
theorem aeB{i:Nat}:∀d∈Qw md ag i,∃od,ag[d]? =some od/\∃e∈od.after,Region.binds md e=true/\(e.on=i\/e.on∈Qw md ag i):=by
 have main:∀(l:U Nat)(D0:U Nat),(∀ d∈D0,∃od,ag[d]? =some od/\∃e∈od.after,Region.binds md e=true/\(e.on=i\/e.on∈D0))->
  ∀d∈l.foldl (λ D j=>match ag[j]? with
   |some oj=>bif oj.after.any (λ e=>Region.binds md e&&(e.on==i || D.contains e.on))then j::D else D
   |none=>D) D0,∃od,ag[d]? =some od/\∃e∈od.after,Region.binds md e=true/\(e.on=i\/e.on∈l.foldl (λ D j=>match ag[j]? with
   |some oj=>bif oj.after.any (λ e=>Region.binds md e&&(e.on==i || D.contains e.on))then j::D else D
   |none=>D) D0):=by
  intro l
  induction l with
  |nil=>intro D0 h;exact h
  |cons j l ih=>
   grind
 exact main _ [] (λ d hd=>by simp at hd)
theorem SL{i:Nat}{oi:Oper}{listed:Array Bool}(hi:ag[i]? =some oi)(h:Qx md ag cV listed i=true)(j:Nat)(oj:Oper)(hj:ag[j]? =some oj)(hne:j≠i)(hun:listed.getD j true=false)
 (hno:∀e∈oj.after,Region.binds md e=true->e.on≠i):(oi.apart ag oj=true/\yC cV i j=true)\/T7 md ag listed i j=true:=by
 simp only[Qx,hi,all_eq_true,List.mem_range]at h
 grind
theorem WM{i:Nat}{oi:Oper}{out:Out×Option Bool}(D:U Nat)(hi:ag[i]? =some oi)(hD:∀d∈D,∃od,ag[d]? =some od/\∃e∈od.after,Region.binds md e=true/\(e.on=i\/e.on∈D)):
 ∀(fuel:Nat) (listed:Array Bool) (σ:St),(∀ d∈D,listed.getD d true=false)->
  (∀ j oj,ag[j]? =some oj->j≠i->listed.getD j true=false->j∉D->(∀ e∈oj.after,Region.binds md e=true->e.on≠i)->oi.apart ag oj=true/\yC cV i j=true)->
  i∈Region.ready md ag listed->opAt P T ag cV i σ=some out->out.1.ob->
  G3 P T ag cV md Q fuel (listed.setIfInBounds i true) (σ.app oi.dst out)->G3 P T ag cV md Q (fuel+1) listed σ:=by
 intro fuel
 induction fuel with
 |zero=>
  intro listed σ _ _ hr hy cN H;refine⟨λ h=>(by rw[h]at hr;cases hr),λj hj=>?_⟩;by_cases hji:j=i;subst hji;exact⟨oi,out,hi,hy,cN,H⟩;have:=ready_mono hj hji;rw[H.1]at this;cases this
 |succ fuel ih=>
  intro listed σ hDu hfree hr hy cN H;refine⟨λ h=>(by rw[h]at hr;cases hr),λj hj=>?_⟩;by_cases hji:j=i;subst hji;exact⟨oi,out,hi,hy,cN,H⟩;have h1:=H.2 j (ready_mono hj hji);obtain⟨hjun,oj,hoj,hall⟩:=mem_ready.1 hj;have hnl:∀k,listed.getD k true=false->∀e∈oj.after,Region.binds md e=true->e.on≠k:=λk h0 e he hb heq=>by have h1:=hall e he hb;rw[heq]at h1;rcases Nat.lt_or_ge k listed.size with h'|h';simp[h']at h0 h1;rw[h0]at h1;cases h1;simp[Array.getElem?_eq_none h']at h1
  have hnot:∀e∈oj.after,Region.binds md e=true->e.on≠i:=hnl i (mem_ready.1 hr).1;have SO:j∉D:=λhm=>by have⟨od,g1,e,g2,g3,g4⟩:=hD j hm;rw[hoj]at g1;cases g1;rcases g4 with g4|g4;exact hnot e g2 g3 g4;exact hnl _ (hDu _ g4) e g2 g3 rfl
  have⟨hap,hfp⟩:=hfree j oj hoj hji hjun SO hnot;have h2:=aoc hi hoj hap hfp hy h1
  have hfree':∀k ok,ag[k]? =some ok->k≠i->(listed.setIfInBounds j true).getD k true=false->k∉D->
   (∀ e∈ok.after,Region.binds md e=true->e.on≠i)->oi.apart ag ok=true/\yC cV i k=true:=λk ok hk hki hun hkD hno=>by refine hfree k ok hk hki ?_ hkD hno;by_cases hjk:j=k;subst hjk;exact hjun;rw[getD_set_ne true hjk]at hun;exact hun
  have ar0:∀d∈D,(listed.setIfInBounds j true).getD d true=false:=λd hd=>by have hne:j≠d:=λe=>SO (by rw[e];exact hd);rw[getD_set_ne true hne];exact hDu d hd
  refine al6 (λ σ' h3=>ih (listed.setIfInBounds j true) σ' ar0 hfree' (ready_mono hr (Ne.symm hji)) h3.1 cN ?_) h2;rw[Array.setIfInBounds_comm _ _ hji];exact h3.2
theorem aeC:∀(n k:Nat) (listed:Array Bool) (σ:St),lexFrom' md ag cV n k listed=true->WL P T ag cV Q ((List.range n).map (k+ ·)) σ->G3 P T ag cV md Q n listed σ
 | 0,k,listed,σ,hB,h=>⟨by simpa[lexFrom']using hB,by simpa[WL]using h⟩
 |n+1,k,listed,σ,hB,h=>by
  simp[lexFrom']at hB;obtain⟨⟨hr,hfp⟩,hB'⟩:=hB;rw[List.range_succ_eq_map,bK,List.map_map]at h;simp at h;obtain⟨o,out,h1,h2,h3,h4⟩:=h;have fin:G3 P T ag cV md Q n (listed.setIfInBounds k true) (σ.app o.dst out)->G3 P T ag cV md Q (n+1) listed σ:=by
   intro H;cases hd:(Qw md ag k).all λd=>!listed.getD d true with
   |true=>
    refine WM (Qw md ag k) h1 aeB n listed σ (λ d hd'=>by simpa using all_eq_true.1 hd d hd') (λ j oj hj hne hun SO hno=>?_) (by simpa using hr) h2 h3 H;rcases SL h1 hfp j oj hj hne hun hno with h|h;exact h;simp[T7]at h;exact absurd h.1 SO
   |false=>
    refine WM [] h1 (λ d hd'=>by simp at hd') n listed σ (λ d hd'=>by simp at hd') (λ j oj hj hne hun _ hno=>?_) (by simpa using hr) h2 h3 H;rcases SL h1 hfp j oj hj hne hun hno with h|h;exact h;simp only[T7,aX]at h;rw[h.2]at hd;cases hd
  refine fin ?_;refine aeC n (k+1) _ _ hB' ?_;have e:(λ x=>k+x)∘Nat.succ=λx=>k+1+x:=by funext x;simp;omega
  rw[e]at h4;exact h4
end
def dg(P:Ξ)(β:ζ)(w:Δ)(I:Φ)(x:AV)(ok:J Bool)(v:Ψ):Prop:=
 match ok with
 |none=>VR P β w I x v
 |some b=>(b=true->VR P β w I x v)/\(b=false->v=undef)
theorem dg.mono{P:Ξ}{β β':ζ}{w w':Δ}{I I':Φ}(hb:∀k B,β k=some B->β' k=some B)(hs:Same I w w')(hi:∀b,I b->I' b){x:AV}{ok:J Bool}{v:Ψ}(h:dg P β w I x ok v):dg P β' w' I' x ok v:=by
 cases ok with
 |none=>exact VR.mono hb hs hi _ _ h
 |some b=>exact⟨λ hh=>VR.mono hb hs hi _ _ (h.1 hh),h.2⟩
structure Rel(P:Program)(w0:World)(O0:iu)(N:Nat)(β:Nat->Option cH)(I:Nat->Prop)(σ:St)(a:Act)(w:World):Prop where
 defers:a.defers=O0.GO
 size:a.tmps.size=N
 env:∀t,dg P β w I (σ.env t) (σ.ok t) (a.tmps.getD t undef)
 mem:Mem P w0 O0 β I σ.obj w
section
variable {P:Program} {T:en} {w0:World} {O0:iu} {N:Nat} {β:Nat->Option cH} {I:Nat->Prop} {σ:St} {a:Act} {w:World} {ag:Array Oper} {cV:Nat->ot}
def Fr(un:Φ)(β:ζ):Prop:=∀i k,un i->jt (cJ i) k->β k=none
theorem acC(hgv:k5 w I){x:Operand}(h:∀t,x=.tmp t->VR P β w I (σ.env t) (a.tmps.getD t undef)):VR P β w I (mL σ.env x) (a.eval x):=by
 cases x with
 |tmp t=>exact h t rfl
 |const v=>exact VR.cv
 |global g=>
  simp[mL];split;rename_i row hg;exact⟨g,0,rfl,(hgv.1 g row hg).1,(hgv.1 g row hg).2⟩;simp[VR]
 |func f=>simp only[mL,VR,Act.eval];exact⟨#[],#[],rfl,by simp[bp],by simp[bp]⟩
theorem AX(hr:Rel P w0 O0 N β I σ a w){x:Operand}(h:∀p∈yw σ.ok x,p):VR P β w I (mL σ.env x) (a.eval x):=by
 refine acC hr.mem.vars λt hx=>?_;subst hx;have h1:=hr.env t;simp[yw]at h;cases hk:σ.ok t with
 |none=>rw[hk]at h1;exact h1
 |some b=>rw[hk]at h1 h;exact h1.1 (h _ (by simp))
theorem ahm(hT:fB P T){i:Nat}{o:Oper}{cy:ka}{rd:U Nat}{out:Out}(hr:Rel P w0 O0 N β I σ a w)(hn:∀k,jt (cJ i) k->β k=none)(ha:kr P T i o cy (mL σ.env) (dU rd σ.obj)=some out)
 (cN:out.ob) (hnd:∀p∈needs σ.env σ.ok o.op,p):s9 P w0 O0 β I σ.obj w i out ((execOp a.eval o).run P w)\/AU P w0 O0 β I σ.obj w i out ((execOp a.eval o).run P w):=by
 have hg:∀k ob,dU rd σ.obj k=some ob->σ.obj k=some ob:=λk ob hk=>by simp only[dU]at hk;split at hk;exact hk;cases hk
 by_cases hp:∃c x y,o.op=.pick c x y;obtain⟨c,x,y,he⟩:=hp;obtain⟨dst,op,ty,am,after,guard⟩:=o;simp at he;subst he;have ha:ru T i ⟨dst,.pick c x y,ty,am,after,guard⟩ cy (mL σ.env) (dU rd σ.obj)=some out:=by unfold kr at ha;split at ha;cases ha;cases ha;exact ha
 simp[ru]at ha;simp[needs]at hnd;split at ha;rename_i t hc;rw[hc]at hnd;simp[pv]at ha;subst ha;have h1:=AX hr (x:=c) (λ p hp=>hnd p (by simp[hp]));rw[hc]at h1;simp[VR]at h1;refine .inl ⟨if t then a.eval x else a.eval y,w,β,I,.inl ?_,Step.refl ..,hr.mem,?_⟩;simp[execOp,h1.1,asBool];simp;rw[Wn];cases t;exact AX hr λp hp=>hnd (false=false->p) (by simp only[bF,mem_map];exact .inr (.inr ⟨p,hp,rfl⟩)) rfl;exact AX hr λp hp=>hnd (true=true->p) (by simp only[bF,mem_map];exact .inr (.inl ⟨p,hp,rfl⟩)) rfl;cases ha;have hnd':∀x∈o.op.operands,∀p∈yw σ.ok x,p:=λx hx p hp'=>hnd p (by unfold needs;split;rename_i c x y he;exact absurd ⟨c,x,y,he⟩ hp;exact List.mem_flatMap.2 ⟨x,by simpa using hx,hp'⟩);have hρ:∀x,VR P β w I ((λ x=>open Classical in if x∈o.op.operands then mL σ.env x else .undef) x) (a.eval x):=λx=>by by_cases hx:x∈o.op.operands;simp[hx];exact AX hr (hnd' x hx);simp[hx,VR]
 rw[Nl (ρ':=λx=>open Classical in if x∈o.op.operands then mL σ.env x else .undef) (λ x hx=>by simp[hx])]at ha;unfold kr at ha;split at ha;exact .inl (ZW hT hr.mem (hn _ (.inl rfl)) hg hρ ha cN);exact .inl (acy hT hr.mem (hn _ (.inl rfl)) hg hρ ha cN);split at ha;rename_i f args de heq;obtain⟨dst,op,ty,am,after,guard⟩:=o;simp at heq;subst heq;exact .inr (WK hr.mem hn hg ha cN (hρ f) (by rw[Array.toList_map];exact bp.map hρ _) rfl rfl);exact .inl (SA hT hr.mem (hn _ (.inl rfl)) hg hρ ha cN)
theorem aks(hr:Rel P w0 O0 N β I σ a w){o:Oper}{b:Bool}(hb:want ag o σ.env σ.ok=some b):Region.wanted o (yielded ag a.tmps)=b:=by
 unfold want at hb;unfold Region.wanted;cases hg:o.guard with
 |none=>simp[hg]at hb ⊢;exact hb
 |some gw=>
  obtain⟨g,bw⟩:=gw;simp[hg]at hb ⊢;unfold yielded;cases ht:(ag[g]?).bind (·.dst)with
  |none=>simp[ht]at hb
  |some t=>
   simp[ht]at hb;have he:=hr.env t;have val:∀v:Bool,a.tmps.getD t undef=.bool v->a.tmps[t]? =some (.bool v):=λv hv=>by
    cases hh:a.tmps[t]? with
    |none=>simp[hh,undef]at hv
    |some u=>simp[hh]at hv;rw[hv]
   split at hb;rename_i v e1 e2;rw[e1,e2]at he;cases hb;simp only[ai,val v he.1];cases v<;>cases bw<;>rfl;rename_i v q e1 e2;rw[e1,e2]at he;cases hb;cases q with
   |true=>
    simp only[ai,val v (he.1 rfl).1];cases v<;>cases bw<;>rfl
   |false=>
    have h0:=he.2 rfl;simp;cases hh:a.tmps[t]? with
    |none=>simp
    |some u=>simp[hh,undef]at h0;subst h0;simp
   rename_i e1 e2;rw[e1,e2]at he;cases hb;have h0:=he.2 rfl;simp;cases hh:a.tmps[t]? with
   |none=>simp
   |some u=>simp[hh,undef]at h0;subst h0;simp
   cases hb
theorem Nn:∀(l:U Prop),lg l->∀p∈l,p
 |[],_,_,hp=>by simp at hp
 |[q],h,p,hp=>by rw[bg]at hp;rw[hp];exact h
 |q::r::l,h,p,hp=>by rcases aL.1 hp with e|hp;rw[e];exact h.1;exact Nn (r::l) h.2 p hp
def Fw:J Nat->Fence
 |none=>Fence.wide
 |some l=>Fence.wide.inRound l
theorem Fw.calls{L:J Nat}{f:FuncId}{args:η}{R:Ending->World->Prop}(h:Calls P f args w R):CallsIn (Fw L) (0-1) P f args w R:=by cases L<;>exact callsIn_wide.2 h
theorem Fw.fn(L:J Nat)(f:FuncId):(Fw L).fn f:=by cases L<;>trivial
theorem Fw.depth(L:J Nat):(Fw L).depth=none:=by cases L<;>rfl
theorem za{ro:J Nat}{ρ:Operand->Value}{o:Oper}{x:Next}{w':Δ}(h:(execOp ρ o).run P w=.ok x w')(hx:∀d,x≠.defer d):(o.semAt ro ρ).run P w=.ok x w':=by
 by_cases hd:∃c,o.op=.defer c;obtain⟨c,hd⟩:=hd;exfalso;simp only[execOp,hd]at h;rw[Sem.run_bind]at h;cases hr:(resolve ρ c o.type).run P w with
 |ok d w2=>rw[hr]at h;simp at h;exact hx d h.1.symm
 |halt _ _=>rw[hr]at h;cases h
 rw[Oper.semAt_eq _ _ _ λc hc=>hd ⟨c,hc⟩];exact h
theorem SQ{L:J Nat}(hT:fB P T){i:Nat}{K:St->Prop}{Q:Exit->Act->World->Prop}{K':Act->World->Prop}{un:Φ}(hd:∀(j:Nat)(o:Oper)(d:Tmp),ag[j]? =some o->o.dst=some d->d<N)
 (hr:Rel P w0 O0 N β I σ a w) (hf:Fr un β) (hi:un i)
 (hK:∀ σ' a' w' β' I',Rel P w0 O0 N β' I' σ' a' w'->Fr (λ j=>un j/\j≠i) β'->K σ'->K' a' w') (h:As P T ag cV i K σ):wpOpIn (Fw L) 0 P ag Q i K' a w:=by
 obtain⟨o,⟨out,Z3⟩,h1,h2,h3,h4⟩:=h;have put:∀(v':Value) (w':World) (β':Nat->J cH) (I':Nat->Prop),Step β I w (cJ i) β' I' w'->Mem P w0 O0 β' I' (cu σ.obj out.upd) w'->dg P β' w' I' out.v Z3 v'->K' (a.put o.dst v') w':=by
  intro v' w' β' I' k1 k2 k3;refine hK (σ.app o.dst (out,Z3)) _ w' β' I' ⟨?_,?_,?_,k2⟩ ?_ h4;cases hdst:o.dst<;>simp[Act.put,hr.defers];cases hdst:o.dst<;>simp[Act.put,hr.size];intro t;have hold:=dg.mono k1.ext k1.same k1.inc (hr.env t);simp only[St.app,BK];cases hdst:o.dst with
  |none=>simpa[Act.put]using hold
  |some d=>
   simp only[Act.put,bV];by_cases hdt:d=t;subst hdt;rw[aY rfl,aY rfl];have hlt:d<a.tmps.size:=Nat.lt_of_lt_of_eq (hd i o d h1 hdst) hr.size.symm;have e:(a.tmps.setIfInBounds d v').getD d undef=v':=(by simp[hlt]);rw[e];exact k3;rw[aT hdt,aT hdt];simpa[Array.getElem?_setIfInBounds_ne hdt]using hold
  intro j k hj hk;rw[k1.other k (by have:=hj.2;simp[jt,cJ]at hk ⊢;omega)];exact hf j k hj.1 hk
 unfold opAt at h2;simp only[h1,ai]at h2;unfold wpOpIn;simp[h1];have hn:=λk=>hf i k hi;cases hw:want ag o σ.env σ.ok with
 |none=>simp[hw]at h2
 |some g=>
  simp only[hw,ai]at h2;rw[aks hr hw]
  have run:∀(out':Out),kr P T i o (cV i).cy (mL σ.env) (dU (cV i).rd σ.obj)=some out'->(∀ p∈needs σ.env σ.ok o.op++out'.obs,p)->out'.v=out.v->(out'.upd=out.upd)->(∀ β' w' I' v',VR P β' w' I' out.v v'->dg P β' w' I' out.v Z3 v')->
   o.wpIn (Fw L) 0 P a w K' Q:=by intro out' ha cN e1 e2 sE;have ar1:=ahm hT hr hn ha (sJ _ λp hp=>cN p (by simp[hp])) (λ p hp=>cN p (by simp[hp]));unfold Oper.wpIn;refine⟨λ f _=>Fw.fn L f,?_⟩;rcases ar1 with ⟨v',w',β',I',hrun,k1,k2,k3⟩|⟨F,args,hrun,E2⟩;rw[e1]at k3;rw[e2]at k2;rcases hrun with hrun|⟨hrun,rfl⟩;rw[za hrun (by simp)];exact put v' w' β' I' k1 k2 (sE _ _ _ _ k3);rw[za hrun (by simp)];exact put _ w' β' I' k1 k2 (sE _ _ _ _ k3);rw[za hrun (by simp)];refine⟨λ h=>(by rw[Fw.depth]at h;cases h),Fw.calls (E2.mono ?_)⟩;rintro e w' ⟨v',β',I',rfl,k1,k2,k3⟩;rw[e1]at k3;rw[e2]at k2;exact put v' w' β' I' k1 k2 (sE _ _ _ _ k3)
  split at h2;cases ha:kr P T i o (cV i).cy (mL σ.env) (dU (cV i).rd σ.obj)with
  |none=>simp[ha]at h2
  |some out'=>
   simp only[ha,ai]at h2;split at h2;rename_i hem;simp only[bV,Prod.mk.injEq]at h2;obtain⟨rfl,rfl⟩:=h2;have E0:out'.upd=[]:=(by simpa using hem);have h3:=Nn _ h3;cases g with
   |true=>
    simp;refine(run out' ha (λ p hp=>h3 (true=true->p) (mem_map.2 ⟨p,hp,rfl⟩) rfl) rfl E0 λ_ _ _ _ hv=>⟨λ _=>hv,λh=>by cases h⟩)
   |false=>
    simp;exact⟨λ f _=>Fw.fn L f,put _ w β I (Step.refl ..) hr.mem ⟨λ h=>(by cases h),λ_=>rfl⟩⟩
   cases h2
  split at h2;cases ha:kr P T i o (cV i).cy (mL σ.env) (dU (cV i).rd σ.obj)with
  |none=>simp[ha]at h2
  |some out'=>
   simp only[ha,ai]at h2;split at h2;obtain⟨rfl,rfl⟩:=h2;simp;exact run out' ha (Nn _ h3) rfl rfl λ_ _ _ _ hv=>hv;cases h2
  obtain⟨rfl,rfl⟩:=h2;simp;exact⟨λ f _=>Fw.fn L f,put _ w β I (Step.refl ..) hr.mem ⟨λ h=>(by cases h),λ_=>rfl⟩⟩
theorem Le{L:J Nat}(hT:fB P T){md:Region.Mode}{Q:St->Prop}{Q':Exit->Act->World->Prop}(hd:∀(j:Nat)(o:Oper)(d:Tmp),ag[j]? =some o->o.dst=some d->d<N)
 (hQ:∀ σ a w β I,Rel P w0 O0 N β I σ a w->Q σ->Q' .normal a w):∀(fuel:Nat) (listed:Array Bool) (σ:St) (a:Act) (w:World) (β:Nat->J cH) (I:Nat->Prop),Rel P w0 O0 N β I σ a w->
  Fr (λ j=>listed.getD j true=false) β->G3 P T ag cV md Q fuel listed σ->wpAnyIn (Fw L) 0 P md ag Q' fuel listed a w
 | 0,_,_,_,_,_,_,hr,_,h=>⟨h.1,hQ _ _ _ _ _ hr h.2⟩
 |fuel+1,listed,σ,a,w,β,I,hr,hf,h=>by refine⟨λ h0=>hQ _ _ _ _ _ hr (h.1 h0),λi hi=>?_⟩;have hun:listed.getD i true=false:=(mem_ready.1 hi).1;refine SQ hT hd hr hf hun (λ σ' a' w' β' I' hr' hf' hK=>?_) (h.2 i hi);refine Le hT hd hQ fuel _ σ' a' w' β' I' hr' (λ j k hj hk=>hf' j k ?_ hk) hK;have hj:(listed.setIfInBounds i true).getD j true=false:=hj;by_cases hji:i=j;subst hji;rcases Nat.lt_or_ge i listed.size with h1|h1;simp at hj;simp[Array.getElem?_eq_none h1]at hun;rw[getD_set_ne true hji]at hj;exact⟨hj,λe=>hji e.symm⟩
theorem Lf{L:J Nat}(hT:fB P T){Q:St->Prop}{Q':Exit->Act->World->Prop}(hd:∀(j:Nat)(o:Oper)(d:Tmp),ag[j]? =some o->o.dst=some d->d<N)
 (hQ:∀ σ a w β I,Rel P w0 O0 N β I σ a w->Q σ->Q' .normal a w):∀(l:U Nat) (σ:St) (a:Act) (w:World) (β:Nat->J cH) (I:Nat->Prop),l.Nodup->Rel P w0 O0 N β I σ a w->
  Fr (λ j=>j∈l) β->WL P T ag cV Q l σ->wpOpsIn (Fw L) 0 P ag Q' l a w
 |[],_,_,_,_,_,_,hr,_,h=>hQ _ _ _ _ _ hr h
 |i::l,σ,a,w,β,I,hn,hr,hf,h=>by
  rw[wpOpsIn_cons];refine SQ hT hd hr hf (by simp) (λ σ' a' w' β' I' hr' hf' hK=>?_) h;refine Lf hT hd hQ l σ' a' w' β' I' (List.nodup_cons.1 hn).2 hr' (λ j k hj hk=>hf' j k ⟨by simp[hj],λe=>?_⟩ hk) hK
  grind
def Wr(N:Nat)(ag:Array Oper):Bool:=ag.all λo=>match o.dst with|some d=>decide (d<N)|none=>true
theorem SS(h:Wr N ag=true)(j:Nat)(o:Oper)(d:Tmp)(hj:ag[j]? =some o)(hd:o.dst=some d):d<N:=by have:=Array.all_eq_true_iff_forall_mem.1 h o (Array.mem_of_getElem? hj);simpa[hd]using this
structure vf(σ:St):Prop where
 env:∀t k,k∈refs (σ.env t)->k<1000000
 obj:∀k o,σ.obj k=some o->k<1000000/\∀r∈o.rows,∀x∈r,∀j∈refs x,j<1000000
mutual
theorem VR.restrict{D:Nat->Prop}{β':Nat->Option cH}(h:∀k,D k->β' k=β k):∀(x:AV)(v:Value),(∀ k∈refs x,D k)->VR P β w I x v->VR P β' w I x v
 |.t _,_,_,hv=>by simpa[VR]using hv
 |.agg cs,_,hk,hv=>by simp[VR]at hv ⊢;obtain⟨vs,h1,h2⟩:=hv;exact⟨vs,h1,bp.restrict h cs _ (by simpa[refs]using hk) h2⟩
 |.fm cs,_,hk,hv=>by simp[VR]at hv ⊢;obtain⟨vs,h1,h2⟩:=hv;exact⟨vs,h1,bp.restrict h cs _ (by simpa[refs]using hk) h2⟩
 |.own k _ _,_,hk,hv|.ptr k _ _,_,hk,hv=>by simp[VR,h k (hk k (by simp[refs]))]at hv ⊢;exact hv
 |.eE _ _,_,_,hv=>by simpa[VR]using hv
 |.fn f first caps,_,hk,hv=>by simp[VR]at hv ⊢;obtain⟨fs,cs,h1,h2,h3⟩:=hv;exact⟨fs,cs,h1,bp.restrict h first _ (λ k hk'=>hk k (by simp[refs,hk'])) h2,bp.restrict h caps _ (λ k hk'=>hk k (by simp[refs,hk'])) h3⟩
 |.d7 _,_,_,hv=>by simpa[VR]using hv
 |.mp k,_,hk,hv|.oz k _,_,hk,hv=>by simp[VR,h k (hk k (by simp[refs]))]at hv ⊢;exact hv
 |.cT,_,_,hv|.ub,_,_,hv=>by simpa[VR]using hv
 |.undef,_,_,_=>by simp[VR]
theorem bp.restrict{D:Nat->Prop}{β':Nat->Option cH}(h:∀k,D k->β' k=β k):∀(xs:List AV)(vs:List Value),(∀ k∈fA xs,D k)->bp P β w I xs vs->bp P β' w I xs vs
 |[],[],_,_=>by simp[bp]
 |x::xs,v::vs,hk,hv=>by simp[bp]at hv ⊢;exact⟨VR.restrict h x v (λ k hk'=>hk k (by simp[fA,hk'])) hv.1,bp.restrict h xs vs (λ k hk'=>hk k (by simp[fA,hk'])) hv.2⟩
 |[],_::_,_,hv|_::_,[],_,hv=>by simp[bp]at hv
end
theorem aa0:∀{xs:U AV}{k:Nat},k∈fA xs->∃x∈xs,k∈refs x
 |[],_,h=>by simp[fA]at h
 |x::xs,k,h=>by simp[fA]at h;rcases h with h|h;exact⟨x,by simp,h⟩;have⟨y,h1,h2⟩:=aa0 h;exact⟨y,by simp[h1],h2⟩
theorem Rel.restrict(ho:vf σ)(hr:Rel P w0 O0 N β I σ a w):Rel P w0 O0 N (λ k=>if k<1000000 then β k else none) I σ a w:=by
 have hb:∀k,k<1000000->(λ k=>if k<1000000 then β k else none) k=β k:=λk hk=>by simp[hk]
 have sE:∀t,dg P (λ k=>if k<1000000 then β k else none) w I (σ.env t) (σ.ok t) (a.tmps.getD t undef):=λt=>by
  have h1:=hr.env t;cases hk:σ.ok t with
  |none=>rw[hk]at h1;exact VR.restrict hb _ _ (ho.env t) h1
  |some b=>rw[hk]at h1;exact⟨λ h=>VR.restrict hb _ _ (ho.env t) (h1.1 h),h1.2⟩
 refine⟨hr.defers,hr.size,sE,?_⟩;have hm:=hr.mem;constructor;intro k o hk;have⟨B,hB,hO⟩:=hm.cD k o hk;have⟨h1,h2⟩:=ho.obj k o hk;refine⟨B,by simp[h1];exact hB,?_⟩;cases B with
 |none=>exact hO
 | «at» b s n=>
  obtain⟨g1,c,e,g2,g3,g4⟩:=hO;refine⟨g1,c,e,g2,g3,?_⟩;rw[pF]at g4 ⊢;intro i r hir;have⟨q1,q2⟩:=g4 i r hir;refine⟨q1,?_⟩;rw[jZ]at q2 ⊢;intro j x hx;have⟨v,p1,p2,p3⟩:=q2 j x hx;exact⟨v,p1,VR.restrict hb _ _ (h2 r (cZ hir) x (cZ hx)) p2,p3⟩
 |mp b=>
  obtain⟨es,cl,g1,gl,g2,g3⟩:=hO;refine⟨es,cl,g1,gl,λe=>cI.tell rfl (λ j r q' a b vs hv=>?_) (g2 e),g3⟩;rw[a]at b;cases b;exact bp.restrict hb _ _ (λ k hk=>by have⟨x,hx,hk⟩:=aa0 hk;exact h2 r (cZ a) x hx k hk) hv
 intro k k' o o' B B' b h1 h2 h3 h4;simp[(ho.obj k o h1).1,(ho.obj k' o' h2).1]at h3 h4;exact hm.eI k k' o o' B B' b h1 h2 h3 h4;intro k o B b h1 h2;simp[(ho.obj k o h1).1]at h2;exact hm.ownB k o B b h1 h2;exact hm.lt;exact hm.up;exact hm.keep;exact hm.le;exact hm.os;exact hm.tape;exact hm.output;intro j B hj;have:=O0.lt j B hj;rw[aY (by omega)];exact hm.anch j B hj;exact hm.vars
theorem Rel.drew(hr:Rel P w0 O0 N β I σ a w):Rel P w0 O0 N β I σ a w.drew:=
 ⟨hr.defers,hr.size,λt=>dg.mono (w:=w) (w':=w.drew) (λ _ _ h=>h) (λ _ _=>rfl) (λ _ h=>h) (hr.env t),hr.mem.drew⟩
theorem akt{L:J Nat}(hT:fB P T){id:Nat}{Q:St->Prop}(hd:Wr N ag=true)(ho:vf σ)(h:WL P T ag cV Q (List.range ag.size) σ)(hr:Rel P w0 O0 N β I σ a w):
 (Code.region id ag false).wpIn (Fw L) 0 P (λ e a' w'=>∃ β' I' σ',Rel P w0 O0 N β' I' σ' a' w'/\e=.normal/\Q σ') a w:=by refine wpIn_region (Lf hT (SS hd) (Q:=Q) (λ σ a w β I hr hq=>⟨β,I,σ,hr,rfl,hq⟩) _ σ a w _ I List.nodup_range (hr.restrict ho) (λ j k _ hk=>?_) h);exact aT (by simp[jt,cJ]at hk;omega)
theorem WN{L:J Nat}(hT:fB P T)(hm:P.follows .mixedOrders=true){id:Nat}{Q:St->Prop}(hd:Wr N ag=true)(hB:T6 ag cV=true)(ho:vf σ)(h:WL P T ag cV Q (List.range ag.size) σ)(hr:Rel P w0 O0 N β I σ a w):
 (Code.region id ag true).wpIn (Fw L) 0 P (λ e a' w'=>∃ β' I' σ',Rel P w0 O0 N β' I' σ' a' w'/\e=.normal/\Q σ') a w:=by
 refine wpIn_region_any hm (Le hT (md:=.any) (cV:=cV) (SS hd) (Q:=Q) (λ σ a w β I hr hq=>⟨β,I,σ,hr,rfl,hq⟩) _ _ σ a _ _ I (hr.restrict ho).drew (λ j k _ hk=>?_) ?_);exact aT (by simp[jt,cJ]at hk;omega);refine aeC ag.size 0 _ σ hB ?_;have e:(List.range ag.size).map (λ x=>0+x)=List.range ag.size:=by simp
 rw[e];exact h
end
def Ev(P:Ξ)(N:Nat)(c:Code)(Q:Exit->St->Prop)(σ:St):Prop:=
 ∀(L:J Nat) (w0:World) (O0:iu) (β:Nat->J cH) (I:Nat->Prop) (a:Act) (w:World),Rel P w0 O0 N β I σ a w->vf σ->
  c.wpIn (Fw L) 0 P (λ e a' w'=>∃ β' I' σ',Rel P w0 O0 N β' I' σ' a' w'/\vf σ'/\Q e σ') a w
def apv(K:St->Prop)(Q:Exit->St->Prop):Exit->St->Prop
 |.normal,σ=>K σ
 |e,σ=>Q e σ
def ahn(id:Nat)(Q:Exit->St->Prop):Exit->St->Prop
 |.exit j,σ=>if j=id then Q .normal σ else Q (.exit j) σ
 |e,σ=>Q e σ
theorem Qy{L:Option Nat}{P:Ξ}{c:Code}{Q:Exit->Act->World->Prop}(J:Nat->Act->World->Prop)(h0:∀a w,¬J 0 a w)(round:∀n a w,J (n+1) a w->c.wpIn (Fw L) 0 P (Exit.then (J n) Q) a w)(n:Nat)(a:Act)(w:Δ)(h:J n a w):
 (Code.loop c).wpIn (Fw L) 0 P Q a w:=by
 refine wpIn_loop_rounds n ?_
 induction n generalizing a w with
 |zero=>exact h0 a w h
 |succ n ih=>
  refine wpIn_mono (round n a w h) λe a' w' hq=>?_;cases e<;>first|exact ih _ _ hq|exact hq
section
variable {P:Program} {N:Nat} {Q:Exit->St->Prop} {σ:St}
theorem Ev.mono{c:Code}{Q':Exit->St->Prop}(h:Ev P N c Q σ)(hq:∀e σ,Q e σ->Q' e σ):Ev P N c Q' σ:=
 λL w0 O0 β I a w hr ho=>wpIn_mono (h L w0 O0 β I a w hr ho) λ_ _ _ ⟨β',I',σ',h1,h2,h3⟩=>⟨β',I',σ',h1,h2,hq _ _ h3⟩
theorem aod(h:Q .normal σ):Ev P N .skip Q σ:=λ_ _ _ β I _ _ hr ho=>wpIn_skip ⟨β,I,σ,hr,ho,h⟩
theorem aoe{id:Nat}(h:Q (.exit id) σ):Ev P N (.exit id) Q σ:=λ_ _ _ β I _ _ hr ho=>wpIn_exit ⟨β,I,σ,hr,ho,h⟩
theorem apK(h:Q .ret σ):Ev P N .ret Q σ:=λ_ _ _ β I _ _ hr ho=>wpIn_ret ⟨β,I,σ,hr,ho,h⟩
theorem al8{l:Nat}(h:Q .normal σ):Ev P N (.label l) Q σ:=λ_ _ _ β I _ _ hr ho=>wpIn_label ⟨β,I,σ,hr,ho,h⟩
theorem apL{x y:Code}(h:Ev P N x (apv (Ev P N y Q) Q) σ):Ev P N (.seq x y) Q σ:=by intro L w0 O0 β I a w hr ho;refine wpIn_seq (wpIn_mono (h L w0 O0 β I a w hr ho) ?_);rintro e a' w' ⟨β',I',σ',h1,h2,h3⟩;cases e<;>first|exact h3 L w0 O0 β' I' a' w' h1 h2|exact⟨β',I',σ',h1,h2,h3⟩
theorem aof{c:Operand}{x y:Code}(b:Bool)(hk:∀t,c=.tmp t->σ.ok t=none)(hc:mL σ.env c=.t (.sc (.bool b)))(h:Ev P N (bif b then x else y) Q σ):Ev P N (.cond c x y) Q σ:=by intro L w0 O0 β I a w hr ho;have h1:=acC (P:=P) (β:=β) (w:=w) (I:=I) (σ:=σ) (a:=a) (x:=c) hr.mem.vars (λ t ht=>by have h1:=hr.env t;rw[hk t ht]at h1;exact h1);rw[hc]at h1;refine wpIn_cond (t:=b) h1.1 ?_;cases b<;>exact h L w0 O0 β I a w hr ho
theorem aho{c:Operand}{x y:Code}(hk:∀t,c=.tmp t->σ.ok t=none)(hc:mL σ.env c=.ub)(h1:Ev P N x Q σ)(h2:Ev P N y Q σ):Ev P N (.cond c x y) Q σ:=by intro L w0 O0 β I a w hr ho;have h3:=acC (P:=P) (β:=β) (w:=w) (I:=I) (σ:=σ) (a:=a) (x:=c) hr.mem.vars (λ t ht=>by have h1:=hr.env t;rw[hk t ht]at h1;exact h1);rw[hc]at h3;obtain⟨b,hb⟩:=h3;refine wpIn_cond (t:=b) hb ?_;cases b;exact h2 L w0 O0 β I a w hr ho;exact h1 L w0 O0 β I a w hr ho
theorem al9{id:Nat}{c:Code}(h:Ev P N c (ahn id Q) σ):Ev P N (.block id c) Q σ:=by
 intro L w0 O0 β I a w hr ho;refine wpIn_block (wpIn_mono (h L w0 O0 β I a w hr ho) ?_);rintro e a' w' ⟨β',I',σ',h1,h2,h3⟩;cases e with
 |exit j=>
  simp[ahn]at h3;simp[Exit.inBlock];split;rw[aY ‹_›]at h3;exact⟨β',I',σ',h1,h2,h3⟩;rw[aT ‹_›]at h3;exact⟨β',I',σ',h1,h2,h3⟩
 |_=>exact⟨β',I',σ',h1,h2,h3⟩
theorem aog{c:Code}(J:Nat->St->Prop)(h0:∀ σ,¬J 0 σ)(round:∀n σ,J (n+1) σ->Ev P N c (apv (J n) Q) σ)(n:Nat)(h:J n σ):Ev P N (.loop c) Q σ:=by intro L w0 O0 β I a w hr ho;refine Qy (λ n a w=>∃ β I σ,Rel P w0 O0 N β I σ a w/\vf σ/\J n σ) (λ a w ⟨_,_,σ,_,_,h⟩=>h0 σ h) ?_ n a w ⟨β,I,σ,hr,ho,h⟩;rintro n a w ⟨β,I,σ,hr,ho,hJ⟩;refine wpIn_mono (round n σ hJ L w0 O0 β I a w hr ho) ?_;rintro e a' w' ⟨β',I',σ',h1,h2,h3⟩;cases e<;>exact⟨β',I',σ',h1,h2,h3⟩
end
def lk{α:Type}:U (Nat×α)->Nat->J α
 |[],_=>none
 |(j,x)::r,k=>if j=k then some x else lk r k
structure so where
 env:List (Nat×AV)
 cD:List (Nat×aR)
def so.st(L:so):St:=⟨λ t=>(lk L.env t).getD .undef,λk=>lk L.cD k,λ_=>none⟩
theorem rD{α:Type}:∀{l:U (Nat×α)}{k:Nat}{x:α},lk l k=some x->(k,x)∈l
 |(j,y)::r,k,x,h=>by simp[lk]at h;split at h;cases h;rename_i e;subst e;simp;exact bQ _ (rD h)
theorem vP{α:Type}:∀{l:U (Nat×α)}{k:Nat}{x:α},(l.map (·.1)).Nodup->(k,x)∈l->lk l k=some x
 |(j,y)::r,k,x,hn,h=>by simp only[bK,List.nodup_cons]at hn;simp[lk];rcases aL.1 h with h|h;injection h with h1 h2;subst h1;subst h2;simp;have hne:k≠j:=λe=>hn.1 (mem_map.2 ⟨(k,x),h,e⟩);rw[aT (Ne.symm hne)];exact vP hn.2 h
end Go.Gb
