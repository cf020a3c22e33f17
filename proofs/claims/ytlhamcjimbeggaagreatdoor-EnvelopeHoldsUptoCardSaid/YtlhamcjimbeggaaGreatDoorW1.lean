import GoSem.Claims
import Derived.Calls
import Derived.Below
import Derived.Orders
import Derived.Laws.Cells
import Derived.Laws.AppendOwn
import Derived.Laws.StructEq
import Derived.Laws.Build
import Derived.WalkKit
import Derived.Lib.AppendZeros
import Derived.MapKept
import Derived.Laws.MakeOwn
abbrev U:=@List
abbrev J:=@Option
open Go
abbrev Y:=World
abbrev V:=TypeId
abbrev Ξ:=Program
abbrev Ψ:=Nat->Prop
open Go.IntKind (i64)
open List (length_take mem_map all_eq_true length_drop take_of_length_le map_congr_left eq_nil_of_length_eq_zero)
namespace Go
universe u v
theorem ak{α:Sort u}(a b:α):cond true a b=a:=rfl
theorem ay{α:Sort u}(a b:α):cond false a b=b:=rfl
theorem ai{α:Type u}{G:Type v}(a:α)(f:α->J G):(some a).bind f=f a:=rfl
theorem bF{p:Prop}[Decidable p]:(decide p=true)=p:=_root_.decide_eq_true_eq
theorem dQ{p:Prop}{_:Decidable p}:decide p=false↔¬p:=_root_.decide_eq_false_iff_not
theorem bX{α:Type u}(a b:α):(some a=some b)=(a=b):=Option.some.injEq a b
theorem aY(a b:Bool):((a&&b)=true)=(a=true/\b=true):=Bool.and_eq_true a b
theorem dH{a b:Bool}:a=b↔(a=true↔b=true):=Bool.eq_iff_iff
theorem bW{α:Type u}{a b:U α}:(a++b).length=a.length+b.length:=List.length_append
theorem aP{α:Type u}(a b c:U α):a++b++c=a++(b++c):=List.append_assoc a b c
theorem aQ{α:Type u}{a:α}:¬a∈([]:U α):=List.not_mem_nil
theorem aC{c:Prop}{h:Decidable c}(hnc:¬c){α:Sort u}{t e:α}:(if c then t else e)=e:=_root_.if_neg hnc
theorem aM{c:Prop}{h:Decidable c}(hc:c){α:Sort u}{t e:α}:(if c then t else e)=t:=_root_.if_pos hc
theorem aI{α:Type u}{a b:α}:a∈[b]↔a=b:=List.mem_singleton
theorem dY{α:Type u}{l:U α}{i:Nat}(h:i<l.length):l[i]? =some l[i]:=List.getElem?_eq_getElem h
theorem jf{α:Type u}{a b:U α}{i:Nat}(h:a.length<=i):(a++b)[i]? =b[i-a.length]? :=List.getElem?_append_right h
theorem dO{α:Type u}{i:Nat}{a:α}{l:U α}:l[i]? =some a↔∃h:i<l.length,l[i]=a:=List.getElem?_eq_some_iff
theorem dM{α:Type u}{l:U α}{i:Nat}{a:α}(h:l[i]? =some a):a∈l:=List.mem_of_getElem? h
theorem sK{α:Type u}{b:α}{α_1:Type v}{x:J α_1}{f:α_1->α}:Option.map f x=some b↔∃a,x=some a/\f a=b:=Option.map_eq_some_iff
theorem fU{α:Type u}{i:Nat}{l:U α}(h:i<l.length):List.take (i+1) l=List.take i l++[l[i]]:=List.take_succ_eq_append_getElem h
theorem bq{α:Type u}(y:α){a:α}{l:U α}(h:a∈l):a∈y::l:=List.mem_cons_of_mem y h
theorem aB(n:Nat):n<=n:=Nat.le_refl n
theorem eu{α:Type u}{a:α}{l:U α}:(a::l).length=l.length+1:=rfl
theorem bK{α:Type u}{G:Type v}{f:α->G}{a:α}{l:U α}:List.map f (a::l)=f a::List.map f l:=rfl
theorem aG{α:Type u}{b:α}{l:U α}{a:α}:a∈b::l↔a=b\/a∈l:=List.mem_cons
theorem fO{α:Type u}(l:U α):[]++l=l:=rfl
theorem bD{α:Type u}{a:α}{s t:U α}:a∈s++t↔a∈s\/a∈t:=List.mem_append
theorem wF{p:Prop}(h:¬p->False):p:=Classical.byContradiction h
end Go
namespace Go
theorem ah{α G:Type _}{b:G}{x:J α}{f:α->J G}:x.bind f=some b↔∃ a,x=some a/\f a=some b:=Option.bind_eq_some_iff
end Go
namespace Go.Gb
def vj:Nat->J (List Value)
 | 0=>some [.int .i64 0,.int .i64 0,.int .i64 1048576,.int .i64 1048576]
 |_=>none
def PJ:Nat->Bool:=λg=>g==1
open Go.RowKit
inductive Tree where
 |sc (v:Value)
 |sl (rows:List (List Tree))
inductive TV where
 |s (x:Tree)
 |a (cs:List Tree)
inductive AV where
 |t (x:Tree)
 |agg (cs:List AV)
 |fR (vs:List AV)
 |own (k:Nat) (ab len:Nat)
 |ptr (k:Nat) (row ab:Nat)
 |eV (row:List Tree) (ab:Nat)
 |fn (f:FuncId) (first caps:List AV)
 |en (Z:List TV->TV->Prop)
 |mp (k:Nat)
 |oz (k len:Nat)
 |cD
 |ub
 |undef
structure aR where
 sz:Nat
 rows:List (List AV)
abbrev E:=Nat->J aR
structure Ex where
 m:Nat
 s:Nat
 h:s<=m
def zg(m:Nat):Ex:=⟨m,0,Nat.zero_le m⟩
@[simp] theorem am4 (m:Nat):(zg m).m=m:=rfl
@[simp] theorem QQ (m:Nat):(zg m).s=0:=rfl
inductive cW where
 |none
 |at (b sz:Nat) (n:Ex)
 |mp (b:Nat)
abbrev Ω:=Nat->J cW
@[simp] def cW.num:cW->J Nat
 |.none=>Option.none
 |.at b _ _=>some b
 |.mp b=>some b
def oneCell:Value->Prop
 |.agg _|.tuple _=>False
 |_=>True
section
variable (w:World) (I:Nat->Prop)
mutual
def TR:Tree->Value->Prop
 |.sc v,u=>u=v/\oneCell v
 |.sl rows,u=>(rows=[]/\∃a cap,u=.slice a 0 cap/\(a=none->cap=0))\/∃b ab cap sz,u=.slice (some ⟨b,ab,none⟩) rows.length cap/\rows.length<=cap/\I b/\cN rows b ab sz
def cN:List (List Tree)->Nat->Nat->Nat->Prop
 |[],_,_,_=>True
 |r::rs,b,ab,sz=>r.length=sz/\eC r b ab/\cN rs b (ab+sz) sz
def eC:List Tree->Nat->Nat->Prop
 |[],_,_=>True
 |x::xs,b,ab=>(∃ c,w.cell? ⟨b,ab,none⟩=some c/\TR x c)/\eC xs b (ab+1)
end
def fm:U Tree->U Value->Prop
 |[],[]=>True
 |x::xs,v::vs=>TR w I x v/\fm xs vs
 |_,_=>False
def uu:TV->Value->Prop
 |.s x,v=>TR w I x v
 |.a cs,v=>∃vs:Array Value,v=.agg vs/\fm w I cs vs.toList
def m9:U TV->U Value->Prop
 |[],[]=>True
 |x::xs,v::vs=>uu w I x v/\m9 xs vs
 |_,_=>False
end
def Same(I:Ψ)(w w':Y):Prop:=∀b,I b->w'.heap[b]? =w.heap[b]?
theorem Same.cell{I:Ψ}{w w':Y}(h:Same I w w'){b ab:Nat}(hb:I b):w'.cell? ⟨b,ab,none⟩=w.cell? ⟨b,ab,none⟩:=by simp[World.cell?,h b hb]
mutual
theorem TR.mono{w w':World}{I I':Nat->Prop}(hs:Same I w w')(hi:∀b,I b->I' b):∀(x:Tree)(v:Value),TR w I x v->TR w' I' x v
 |.sc _,_,h=>by simpa[TR]using h
 |.sl rows,v,h=>by simp only[TR]at h |-;rcases h with h|⟨b,ab,cap,sz,h1,h2,h3,h4⟩;exact .inl h;exact .inr ⟨b,ab,cap,sz,h1,h2,hi _ h3,cN.mono hs hi rows b ab sz h3 h4⟩
theorem cN.mono{w w':World}{I I':Nat->Prop}(hs:Same I w w')(hi:∀b,I b->I' b):∀(rows:List (List Tree))(b ab sz:Nat),I b->cN w I rows b ab sz->cN w' I' rows b ab sz
 |[],_,_,_,_,_=>by simp[cN]
 |r::rs,b,ab,sz,hb,h=>by simp[cN]at h |-;exact⟨h.1,eC.mono hs hi r b ab hb h.2.1,cN.mono hs hi rs b (ab+sz) sz hb h.2.2⟩
theorem eC.mono{w w':World}{I I':Nat->Prop}(hs:Same I w w')(hi:∀b,I b->I' b):∀(r:List Tree)(b ab:Nat),I b->eC w I r b ab->eC w' I' r b ab
 |[],_,_,_,_=>by simp[eC]
 |x::xs,b,ab,hb,h=>by simp[eC]at h |-;obtain⟨⟨c,hc,hx⟩,h2⟩:=h;exact⟨⟨c,by rw[hs.cell hb];exact hc,TR.mono hs hi x c hx⟩,eC.mono hs hi xs b (ab+1) hb h2⟩
end
theorem fm.mono{w w':Y}{I I':Ψ}(hs:Same I w w')(hi:∀b,I b->I' b):∀(xs:U Tree)(vs:U Value),fm w I xs vs->fm w' I' xs vs
 |[],[],_=>trivial
 |x::xs,v::vs,h=>⟨TR.mono hs hi x v h.1,fm.mono hs hi xs vs h.2⟩
 |[],_::_,h|_::_,[],h=>h.elim
theorem uu.mono{w w':Y}{I I':Ψ}(hs:Same I w w')(hi:∀b,I b->I' b):∀(x:TV)(v:Value),uu w I x v->uu w' I' x v
 |.s x,v,h=>TR.mono hs hi x v h
 |.a cs,_,⟨vs,h1,h2⟩=>⟨vs,h1,fm.mono hs hi cs vs.toList h2⟩
theorem m9.mono{w w':Y}{I I':Ψ}(hs:Same I w w')(hi:∀b,I b->I' b):∀(xs:U TV)(vs:U Value),m9 w I xs vs->m9 w' I' xs vs
 |[],[],_=>trivial
 |x::xs,v::vs,h=>⟨uu.mono hs hi x v h.1,m9.mono hs hi xs vs h.2⟩
 |[],_::_,h|_::_,[],h=>h.elim
def kf(w:Y)(I:Ψ):Prop:=(∀ g row,vj g=some row->I g/\eC w I (row.map Tree.sc) g 0)/\∀g,PJ g=true->I g/\∃m,w.cell? ⟨g,0,none⟩=some (.int .i64 m)
theorem kf.mono{w w':Y}{I I':Ψ}(hs:Same I w w')(hi:∀b,I b->I' b)(h:kf w I):kf w' I':=⟨λ g row hg=>
 ⟨hi g (h.1 g row hg).1,eC.mono hs hi _ g 0 (h.1 g row hg).1 (h.1 g row hg).2⟩,λg hg=>⟨hi g (h.2 g hg).1,by rw[hs.cell (h.2 g hg).1];exact(h.2 g hg).2⟩⟩
def akv(w:Y)(I:Ψ)(R:World->(Nat->Prop)->Value->Prop)(e:Ending)(w':Y):Prop:=
 ∃v I',e=.returned v/\Below w.heap.size w w'/\(∀ b,I b->I' b)/\(∀ b,I' b->b<w'.heap.size)/\(∀ b,I' b->I b\/w.heap.size<=b)/\R w' I' v
def rS(P:Ξ)(w:Y)(I:Ψ)(Z:U TV->TV->Prop)(v:Value):Prop:=
 ∃(f:FuncId)(first caps:Array Value),v=.func (.func f) first caps/\first=#[]/\
  (∀ fn, P.funcs[f]? = some fn -> fn.body.isSome = true /\ (fn.name == "runtime.NumGoroutine") = false) /\ (P.funcs[f]?).isSome = true /\
  ∀(w':World)(I':Nat->Prop)(args:U TV)(vs:Array Value)(r:TV),(∀ b,I b->I' b)->Same I w w'->(∀ b,I' b->b<w'.heap.size)->
   Z args r->m9 w' I' args vs.toList->Calls P f (first++vs++caps) w' (akv w' I' λw'' GO u=>uu w'' GO r u)
section
variable (P:Program) (G:Nat->Option cW) (w:World) (I:Nat->Prop)
mutual
def VR:AV->Value->Prop
 |.t x,v=>TR w I x v
 |.agg cs,v=>∃vs:Array Value,v=.agg vs/\bp cs vs.toList
 |.fR cs,v=>∃vs:Array Value,v=.tuple vs/\bp cs vs.toList
 |.own k ab len,v=>(G k=some .none/\v=.slice none 0 0/\ab=0/\len=0)\/
  ∃b sz n cap o,G k=some (.at b sz n)/\v=.slice (some ⟨b,o,none⟩) len cap/\len<=cap/\n.s+(ab+cap)*sz<=n.m/\(cap≠0->o=n.s+ab*sz)
 |.ptr k row ab,v=>∃b sz n,G k=some (.at b sz n)/\v=.pointer (some ⟨b,n.s+row*sz+ab,none⟩)
 |.eV row ab,v=>∃b o,v=.pointer (some ⟨b,o+ab,none⟩)/\I b/\eC w I row b o
 |.fn f first caps,v=>∃fs cs:Array Value,v=.func (.func f) fs cs/\bp first fs.toList/\bp caps cs.toList
 |.en Z,v=>rS P w I Z v
 |.mp k,v=>∃b,G k=some (.mp b)/\v=.map (some b)
 |.oz k len,v=>(len=0/\v=.slice none 0 0)\/(len≠0/\∃b sz n cap o,G k=some (.at b sz n)/\v=.slice (some ⟨b,o,none⟩) len cap/\len<=cap/\n.s+(0+cap)*sz<=n.m/\(cap≠0->o=n.s+0*sz))
 |.cD,v=>v=.slice none 0 0
 |.ub,v=>∃b,v=.bool b
 |.undef,_=>True
def bp:List AV->List Value->Prop
 |[],[]=>True
 |x::xs,v::vs=>VR x v/\bp xs vs
 |_,_=>False
end
def df:U AV->Array Value->Nat->Prop
 |[],_,_=>True
 |x::xs,c,ab=>(∃ v,c[ab]? =some v/\VR P G w I x v/\oneCell v)/\df xs c (ab+1)
def cj:U (List AV)->Array Value->Nat->Nat->Prop
 |[],_,_,_=>True
 |r::rs,c,ab,sz=>r.length=sz/\df P G w I r c ab/\cj rs c (ab+sz) sz
def cQ:U (List AV)->U MapEntry->Prop
 |[],[]=>True
 |r::rs,e::es=>bp P G w I r [e.key,e.val]/\cQ rs es
 |_,_=>False
def OR(o:aR):cW->Prop
 |.none=>o.rows=[]
 |.mp b=>∃es clock,w.heap[b]? =some (.map es clock)/\o.rows.length<=o.sz/\(o.sz=o.rows.length->cQ P G w I o.rows es.toList)/\(es.toList.map (·.born)).Nodup/\∀e∈es.toList,e.born<clock
 |.at b sz n=>sz=o.sz/\∃c e,w.heap[b]? =some (.cells c e (0,0))/\c.size=n.m/\cj P G w I o.rows c n.s sz
end
theorem rS.mono{P:Ξ}{w w':Y}{I I':Ψ}(hs:Same I w w')(hi:∀b,I b->I' b){Z:U TV->TV->Prop}{v:Value}(h:rS P w I Z v):rS P w' I' Z v:=by obtain⟨f,first,caps,h1,h0,h2,h3,h4⟩:=h;exact⟨f,first,caps,h1,h0,h2,h3,λw2 I2 args vs r hi2 hs2 hlt hφ ha=>h4 w2 I2 args vs r (λ b h=>hi2 b (hi b h)) (λ b h=>(hs2 b (hi b h)).trans (hs b h)) hlt hφ ha⟩
mutual
theorem VR.mono{P:Program}{G β':Nat->Option cW}{w w':World}{I I':Nat->Prop}(hb:∀k B,G k=some B->β' k=some B)(hs:Same I w w')(hi:∀b,I b->I' b):∀(x:AV)(v:Value),VR P G w I x v->VR P β' w' I' x v
 |.t x,v,h=>by simp[VR]at h |-;exact TR.mono hs hi x v h
 |.agg cs,v,h=>by simp[VR]at h |-;obtain⟨vs,h1,h2⟩:=h;exact⟨vs,h1,bp.mono hb hs hi cs vs.toList h2⟩
 |.fR cs,v,h=>by simp[VR]at h |-;obtain⟨vs,h1,h2⟩:=h;exact⟨vs,h1,bp.mono hb hs hi cs vs.toList h2⟩
 |.own k ab len,v,h=>by simp only[VR]at h |-;rcases h with ⟨h1,h2⟩|⟨b,sz,n,cap,o,h1,h2⟩;exact .inl ⟨hb _ _ h1,h2⟩;exact .inr ⟨b,sz,n,cap,o,hb _ _ h1,h2⟩
 |.ptr k row ab,v,h=>by simp[VR]at h |-;obtain⟨b,sz,n,h1,h2⟩:=h;exact⟨b,sz,n,hb _ _ h1,h2⟩
 |.eV row ab,v,h=>by simp[VR]at h |-;obtain⟨b,o,h1,h2,h3⟩:=h;exact⟨b,o,h1,hi _ h2,eC.mono hs hi row b o h2 h3⟩
 |.fn f first caps,v,h=>by simp[VR]at h |-;obtain⟨fs,cs,h1,h2,h3⟩:=h;exact⟨fs,cs,h1,bp.mono hb hs hi first fs.toList h2,bp.mono hb hs hi caps cs.toList h3⟩
 |.en Z,v,h=>by simp[VR]at h |-;exact rS.mono hs hi h
 |.mp k,v,h=>by simp[VR]at h |-;obtain⟨b,h1,h2⟩:=h;exact⟨b,hb _ _ h1,h2⟩
 |.oz k len,v,h=>by simp only[VR]at h |-;rcases h with h|⟨h0,b,sz,n,cap,o,h1,h2⟩;exact .inl h;exact .inr ⟨h0,b,sz,n,cap,o,hb _ _ h1,h2⟩
 |.cD,v,h|.ub,v,h=>by simpa[VR]using h
 |.undef,_,_=>by simp[VR]
theorem bp.mono{P:Program}{G β':Nat->Option cW}{w w':World}{I I':Nat->Prop}(hb:∀k B,G k=some B->β' k=some B)(hs:Same I w w')(hi:∀b,I b->I' b):∀(xs:List AV)(vs:List Value),bp P G w I xs vs->bp P β' w' I' xs vs
 |[],[],_=>by simp[bp]
 |x::xs,v::vs,h=>by simp[bp]at h |-;exact⟨VR.mono hb hs hi x v h.1,bp.mono hb hs hi xs vs h.2⟩
 |[],_::_,h|_::_,[],h=>by simp[bp]at h
end
theorem VR.we{P:Ξ}{G:Ω}{w:Y}{I:Ψ}{k len:Nat}{v:Value}(h:VR P G w I (.oz k len) v):(len=0/\v=.slice none 0 0)\/(len≠0/\VR P G w I (.own k 0 len) v):=by exact h.imp id λh=>⟨h.1,.inr h.2⟩
def wk:AV->AV
 |.cD=>.t (.sl [])
 |x=>x
def dZ(rows:U (List AV)):U (List AV):=rows.map λr=>r.map wk
theorem VR.wk{P:Ξ}{G:Ω}{w:Y}{I:Ψ}{x:AV}{v:Value}(h:VR P G w I x v):VR P G w I (wk x) v:=by
 cases x<;>simp[Gb.wk]<;>try exact h
 simp[VR]at h |-;simp only[TR];exact .inl ⟨trivial,none,0,h,λ_=>rfl⟩
theorem df.wk{P:Ξ}{G:Ω}{w:Y}{I:Ψ}:∀(r:U AV)(c:Array Value)(ab:Nat),df P G w I r c ab->df P G w I (r.map Gb.wk) c ab
 |[],_,_,_=>trivial
 |_::xs,c,ab,⟨⟨v,h1,h2,h3⟩,h4⟩=>⟨⟨v,h1,h2.wk,h3⟩,df.wk xs c (ab+1) h4⟩
theorem cj.wk{P:Ξ}{G:Ω}{w:Y}{I:Ψ}:∀(rs:U (List AV))(c:Array Value)(ab sz:Nat),cj P G w I rs c ab sz->cj P G w I (dZ rs) c ab sz
 |[],_,_,_,_=>trivial
 |r::rs,c,ab,sz,⟨h1,h2,h3⟩=>⟨by simpa using h1,df.wk r c ab h2,cj.wk rs c (ab+sz) sz h3⟩
theorem df.mono{P:Ξ}{G β':Ω}{w w':Y}{I I':Ψ}(hb:∀k B,G k=some B->β' k=some B)(hs:Same I w w')(hi:∀b,I b->I' b):∀(r:U AV)(c:Array Value)(ab:Nat),df P G w I r c ab->df P β' w' I' r c ab
 |[],_,_,_=>trivial
 |x::xs,c,ab,⟨⟨v,h1,h2,h3⟩,h4⟩=>⟨⟨v,h1,VR.mono hb hs hi x v h2,h3⟩,df.mono hb hs hi xs c (ab+1) h4⟩
theorem cj.mono{P:Ξ}{G β':Ω}{w w':Y}{I I':Ψ}(hb:∀k B,G k=some B->β' k=some B)(hs:Same I w w')(hi:∀b,I b->I' b):∀(rs:U (List AV))(c:Array Value)(ab sz:Nat),cj P G w I rs c ab sz->cj P β' w' I' rs c ab sz
 |[],_,_,_,_=>trivial
 |r::rs,c,ab,sz,⟨h1,h2,h3⟩=>⟨h1,df.mono hb hs hi r c ab h2,cj.mono hb hs hi rs c (ab+sz) sz h3⟩
theorem bp.wk{P:Ξ}{G:Ω}{w:Y}{I:Ψ}:∀(r:U AV)(vs:U Value),bp P G w I r vs->bp P G w I (r.map Gb.wk) vs
 |[],[],_=>by simp[bp]
 |x::xs,v::vs,h=>by simp[bp]at h;simp;exact⟨h.1.wk,bp.wk xs vs h.2⟩
 |[],_::_,h|_::_,[],h=>by simp[bp]at h
theorem cQ.mono{P:Ξ}{G β':Ω}{w w':Y}{I I':Ψ}(hb:∀k B,G k=some B->β' k=some B)(hs:Same I w w')(hi:∀b,I b->I' b):∀(rs:U (List AV))(es:U MapEntry),cQ P G w I rs es->cQ P β' w' I' rs es
 |[],[],_=>trivial
 |r::rs,_::es,⟨h1,h4⟩=>⟨bp.mono hb hs hi r _ h1,cQ.mono hb hs hi rs es h4⟩
 |[],_::_,h|_::_,[],h=>h.elim
theorem cQ.wk{P:Ξ}{G:Ω}{w:Y}{I:Ψ}:∀(rs:U (List AV))(es:U MapEntry),cQ P G w I rs es->cQ P G w I (dZ rs) es
 |[],[],_=>trivial
 |r::rs,_::es,⟨h1,h4⟩=>⟨bp.wk r _ h1,cQ.wk rs es h4⟩
 |[],_::_,h|_::_,[],h=>h.elim
structure k5 where
 own:Nat->Prop
 IH:Nat->Prop
 anc:Nat->Option cW:=λ_=>none
 lt:∀j B,anc j=some B->j<1000:=by intro j B h;cases h
structure Mem(P:Program)(w0:World)(O0:k5)(G:Nat->Option cW)(I:Nat->Prop)(obj:Nat->Option aR)(w:World):Prop where
 c8:∀k o,obj k=some o->∃B,G k=some B/\OR P G w I o B
 ir:∀k k' o o' B B' b,obj k=some o->obj k'=some o'->G k=some B->G k'=some B'->B.num=some b->B'.num=some b->k=k'
 ownB:∀k o B b,obj k=some o->G k=some B->B.num=some b->¬I b/\b<w.heap.size/\(O0.own b\/w0.heap.size<=b)
 lt:∀b,I b->b<w.heap.size
 up:∀b,I b->O0.IH b\/O0.own b\/w0.heap.size<=b
 keep:∀b,b<w0.heap.size->¬O0.own b->w.heap[b]? =w0.heap[b]?
 le:w0.heap.size<=w.heap.size
 os:w.os=w0.os
 tape:w.tape=w0.tape
 output:w.output=w0.output
 anch:∀j B,O0.anc j=some B->G j=some B
 vars:kf w I
section
variable {P:Program} {w0:World} {O0:k5} {G:Nat->Option cW} {I:Nat->Prop} {obj:Nat->Option aR} {w:World}
theorem Mem.inj(h:Mem P w0 O0 G I obj w):∀k k' o o' b s n s' n',obj k=some o->obj k'=some o'->G k=some (.at b s n)->G k'=some (.at b s' n')->k=k':=
 λk k' o o' b _ _ _ _ h1 h2 h3 h4=>h.ir k k' o o' _ _ b h1 h2 h3 h4 rfl rfl
theorem Mem.own(h:Mem P w0 O0 G I obj w):∀k o b s n,obj k=some o->G k=some (.at b s n)->¬I b/\b<w.heap.size/\(O0.own b\/w0.heap.size<=b):=
 λk o b _ _ h1 h2=>h.ownB k o _ b h1 h2 rfl
end
def il(G:Ω)(k b:Nat):Prop:=∃B,G k=some B/\B.num=some b
theorem il.at{G:Ω}{k b s:Nat}{n:Ex}(h:G k=some (.at b s n)):il G k b:=⟨_,h,rfl⟩
section
variable {P:Program} {w0:World} {O0:k5} {G:Nat->Option cW} {I:Nat->Prop} {obj:Nat->Option aR} {w:World}
theorem Mem.ox(h:Mem P w0 O0 G I obj w):∀k k' o o' b,obj k=some o->obj k'=some o'->il G k b->il G k' b->k=k':=
 λk k' o o' b h1 h2 ⟨B,h3,h5⟩ ⟨B',h4,h6⟩=>h.ir k k' o o' B B' b h1 h2 h3 h4 h5 h6
theorem Mem.kq(h:Mem P w0 O0 G I obj w):∀k o b,obj k=some o->il G k b->¬I b/\b<w.heap.size/\(O0.own b\/w0.heap.size<=b):=
 λk o b h1 ⟨B,h2,h3⟩=>h.ownB k o B b h1 h2 h3
end
def dw(obj:E):U (Nat×Option aR)->Nat->J aR
 |[],k=>obj k
 |(j,o)::r,k=>if k=j then o else dw obj r k
def jt(i k:Nat):Prop:=k=i\/(1000000<=i/\1000000<=k/\(k-1000000)/64=(i-1000000)/64)
theorem jt.ne{i k:Nat}(h:¬jt i k):k≠i:=λe=>h (.inl e)
structure Step(G:Nat->Option cW)(I:Nat->Prop)(w:World)(i:Nat)(β':Nat->Option cW)(I':Nat->Prop)(w':World):Prop where
 other:∀k,¬jt i k->β' k=G k
 ext:∀k B,G k=some B->β' k=some B
 same:Same I w w'
 inc:∀b,I b->I' b
theorem Step.refl(G:Ω)(I:Ψ)(w:Y)(i:Nat):Step G I w i G I w:=⟨λ _ _=>rfl,λ_ _ h=>h,λ_ _=>rfl,λ_ h=>h⟩
theorem sM{w:Y}{o:Obj}{b:Nat}(h:b<w.heap.size):(w.alloc o).heap[b]? =w.heap[b]? :=by grind [World.alloc]
theorem Same.alloc{I:Ψ}{w:Y}(h:∀b,I b->b<w.heap.size)(o:Obj):Same I w (w.alloc o):=λb hb=>sM (h b hb)
def ins(G:Ω)(i:Nat)(B:cW):Nat->J cW:=λk=>if k=i then some B else G k
theorem oZ{G:Ω}{i:Nat}{B:cW}(h:G i=none):∀k C,G k=some C->ins G i B k=some C:=by grind [ins]
theorem j4{P:Ξ}{G:Ω}{w:Y}{I:Ψ}:∀(r:U AV)(c:Array Value)(ab:Nat),df P G w I r c ab↔∀j x,r[j]? =some x->∃v,c[ab+j]? =some v/\VR P G w I x v/\oneCell v
 |[],c,ab=>by simp[df]
 |x::xs,c,ab=>by
  simp[df,j4 xs c (ab+1)];constructor
  grind
  intro h;refine⟨by simpa using h 0 x rfl,λj y hj=>?_⟩;obtain⟨v,hv⟩:=h (j+1) y (by simpa using hj);exact⟨v,by rw[show ab+1+j=ab+(j+1)by omega];exact hv.1,hv.2⟩
theorem qg{P:Ξ}{G:Ω}{w:Y}{I:Ψ}:∀(rs:U (List AV))(c:Array Value)(ab sz:Nat),cj P G w I rs c ab sz↔∀i r,rs[i]? =some r->r.length=sz/\df P G w I r c (ab+i*sz)
 |[],c,ab,sz=>by simp[cj]
 |r::rs,c,ab,sz=>by
  simp[cj,qg rs c (ab+sz) sz];constructor;rintro⟨h1,h2,h3⟩ i r' hi;cases i with
  |zero=>simp at hi;subst hi;exact⟨h1,by simpa using h2⟩
  |succ i=>have:=h3 i r' (by simpa using hi);rw[show ab+(i+1)*sz=ab+sz+i*sz by rw[Nat.add_mul];omega];exact this
  intro h;have h0:=h 0 r rfl;refine⟨h0.1,by simpa using h0.2,λi r' hi=>?_⟩;have:=h (i+1) r' (by simpa using hi);rw[show ab+sz+i*sz=ab+(i+1)*sz by rw[Nat.add_mul];omega];exact this
section
variable {P:Program} {w0:World} {O0:k5} {G:Nat->Option cW} {I:Nat->Prop} {obj:Nat->Option aR} {w:World}
theorem OR.mono{β':Ω}{I':Ψ}{w':Y}{o:aR}{B:cW}(hb:∀k B,G k=some B->β' k=some B)(hs:Same I w w')(hi:∀b,I b->I' b)
 (hB:∀b,B.num=some b->w'.heap[b]? =w.heap[b]?) (h:OR P G w I o B):OR P β' w' I' o B:=by
 cases B with
 |none=>exact h
 | «at» b s n=>
  obtain⟨h1,c,e,h2,h3,h4⟩:=h;exact⟨h1,c,e,(hB b rfl).trans h2,h3,cj.mono hb hs hi _ _ _ _ h4⟩
 |mp b=>
  obtain⟨es,cl,h1,hle,h2,h3⟩:=h;exact⟨es,cl,(hB b rfl).trans h1,hle,λe=>cQ.mono hb hs hi _ _ (h2 e),h3⟩
theorem Mem.alloc{i:Nat}{o:aR}{c:Array Value}{e:V}(h:Mem P w0 O0 G I obj w)(hn:G i=none)
 (hr:cj P G w I o.rows c 0 o.sz):
 Step G I w i (ins G i (.at w.heap.size o.sz (zg c.size))) I (w.alloc (.cells c e))/\
 Mem P w0 O0 (ins G i (.at w.heap.size o.sz (zg c.size))) I (dw obj [(i,some o)]) (w.alloc (.cells c e)):=by
 have hS:Step G I w i (ins G i (.at w.heap.size o.sz (zg c.size))) I (w.alloc (.cells c e)):=
  ⟨λ k hk=>by simp[ins,jt.ne hk],oZ hn,Same.alloc h.lt _,λ_ h=>h⟩
 refine⟨hS,?_⟩;constructor;intro k o' hk;simp[dw]at hk;split at hk;cases hk;rename_i hki;refine⟨.at w.heap.size o.sz (zg c.size),by simp[ins,hki],rfl,c,e,?_,rfl,cj.mono hS.ext hS.same hS.inc _ _ _ _ hr⟩;exact heap_alloc_new w _;have⟨B,hB,hO⟩:=h.c8 k o' hk;exact⟨B,oZ hn _ _ hB,OR.mono hS.ext hS.same hS.inc (λ b hb=>sM (h.ownB k o' B b hk hB hb).2.1) hO⟩;intro k k' o1 o2 B B' b h1 h2 h3 h4 h5 h6;simp[dw]at h1 h2;simp[ins]at h3 h4;split at h1<;>split at h2;rename_i a b;rw[a,b];rename_i hki pn;simp[hki]at h3;simp[pn]at h4;subst h3;injection h5 with h5;have:=(h.ownB k' o2 B' b h2 h4 h6).2.1;omega;rename_i hki pn;simp[pn]at h4;simp[hki]at h3;subst h4;injection h6 with h6;have:=(h.ownB k o1 B b h1 h3 h5).2.1;omega;rename_i hki pn;simp[hki,pn]at h3 h4;exact h.ir k k' o1 o2 B B' b h1 h2 h3 h4 h5 h6;intro k o' B b h1 h2 h3;simp[dw]at h1;simp[ins]at h2;split at h1;rename_i hki;simp[hki]at h2;subst h2;injection h3 with h3;refine⟨λ hI=>?_,?_,.inr ?_⟩;have:=h.lt b hI;omega;simp;omega;have:=h.le;omega;rename_i hki;simp[hki]at h2;have⟨a,b',c'⟩:=h.ownB k o' B b h1 h2 h3;exact⟨a,by simp;omega,c'⟩;intro b hb;have:=h.lt b hb;simp;omega;exact h.up;intro b hb hO;rw[sM (by have:=h.le;omega)];exact h.keep b hb hO;have:=h.le;simp;omega;exact h.os;exact h.tape;exact h.output;intro j B hj;exact oZ hn _ _ (h.anch j B hj);exact h.vars.mono (Same.alloc h.lt _) (λ _ h=>h)
theorem Mem.write{k:Nat}{o o':aR}{b s:Nat}{n:Ex}{c':Array Value}{e:V}{w':Y}(h:Mem P w0 O0 G I obj w)(hk:obj k=some o)(hβ:G k=some (.at b s n))
 (hnew:w'.heap[b]? =some (.cells c' e (0,0))) (hother:∀b',b'≠b->w'.heap[b']? =w.heap[b']?) (hsize:w'.heap.size=w.heap.size) (hos:w'.os=w.os) (wx:w'.tape=w.tape) (hout:w'.output=w.output)
 (hsz:s=o'.sz) (hn:c'.size=n.m) (hr:cj P G w I o'.rows c' n.s o'.sz):
 Same I w w'/\Mem P w0 O0 G I (dw obj [(k,some o')]) w':=by
 have⟨T6,hlt,hO⟩:=h.own k o b s n hk hβ;have hs:Same I w w':=λb' hb=>hother b' (λ e=>T6 (e ▸ hb));refine⟨hs,?_⟩;constructor;intro j oj hj;simp[dw]at hj;split at hj;rename_i hjk;cases hj;refine⟨.at b s n,by rw[hjk];exact hβ,hsz,c',e,?_,hn,hsz ▸ cj.mono (λ _ _ h=>h) hs (λ _ h=>h) _ _ _ _ hr⟩;exact hnew;rename_i hjk;have⟨B,hB,s9⟩:=h.c8 j oj hj;refine⟨B,hB,OR.mono (λ _ _ h=>h) hs (λ _ h=>h) (λ b1 e1=>hother b1 (λ e2=>hjk ?_)) s9⟩;subst e2;exact h.ir j k oj o B _ b1 hj hk hB hβ e1 rfl;intro j j' o1 o2 B1 B2 b1 h1 h2 h3 h4 h5 h6;have hx:∀(j:Nat)(o1:aR),dw obj [(k,some o')] j=some o1->∃o2,obj j=some o2:=λj o1 h=>by simp[dw]at h;split at h;rename_i e;exact⟨o,by rw[e];exact hk⟩;exact⟨_,h⟩
 have⟨p1,q1⟩:=hx j o1 h1;have⟨p2,q2⟩:=hx j' o2 h2;exact h.ir j j' p1 p2 B1 B2 b1 q1 q2 h3 h4 h5 h6;intro j o1 B1 b1 h1 h2 h3;have hx:∃o2,obj j=some o2:=by simp[dw]at h1;split at h1;rename_i e;exact⟨o,by rw[e];exact hk⟩;exact⟨_,h1⟩
 obtain⟨p1,q1⟩:=hx;have:=h.ownB j p1 B1 b1 q1 h2 h3;rw[hsize];exact this;intro b1 hb1;rw[hsize];exact h.lt b1 hb1;exact h.up;intro b1 hb1 hno;rw[hother b1 (λ e1=>?_)];exact h.keep b1 hb1 hno;subst e1;rcases hO with hO|hO;exact hno hO;omega;rw[hsize];exact h.le;rw[hos];exact h.os;rw[wx];exact h.tape;rw[hout];exact h.output;exact h.anch;exact h.vars.mono hs (λ _ h=>h)
theorem Mem.drop(h:Mem P w0 O0 G I obj w)(ov:E)(hsub:∀k o,ov k=some o->obj k=some o):Mem P w0 O0 G I ov w:=
 ⟨λ k o hk=>h.c8 k o (hsub k o hk),λk k' o o' B B' b h1 h2=>h.ir k k' o o' B B' b (hsub _ _ h1) (hsub _ _ h2),λk o B b h1=>h.ownB k o B b (hsub _ _ h1),h.lt,h.up,h.keep,h.le,h.os,h.tape,h.output,h.anch,h.vars⟩
theorem Mem.below{w':Y}{I':Ψ}(h:Mem P w0 O0 G I obj w)(hb:Below w.heap.size w w')(hi:∀b,I b->I' b)(hlt:∀b,I' b->b<w'.heap.size)(hI:∀b k o B,I' b->obj k=some o->G k=some B->B.num=some b->False)(hup:∀b,I' b->O0.IH b\/O0.own b\/w0.heap.size<=b):
 Same I w w'/\Mem P w0 O0 G I' obj w':=by have hs:Same I w w':=λb hb'=>hb.block b (h.lt b hb');refine⟨hs,?_⟩;constructor;intro k o hk;have⟨B,hB,hO⟩:=h.c8 k o hk;exact⟨B,hB,OR.mono (λ _ _ h=>h) hs hi (λ b e=>hb.block b (h.ownB k o B b hk hB e).2.1) hO⟩;exact h.ir;intro k o B b h1 h2 h3;have⟨a,b',c⟩:=h.ownB k o B b h1 h2 h3;exact⟨λ hb2=>hI b k o B hb2 h1 h2 h3,Nat.lt_of_lt_of_le b' hb.size,c⟩;exact hlt;exact hup;intro b hb1 hno;rw[hb.block b (by have:=h.le;omega)];exact h.keep b hb1 hno;have:=h.le;have:=hb.size;omega;rw[hb.os];exact h.os;rw[hb.tape];exact h.tape;rw[hb.output];exact h.output;exact h.anch;exact h.vars.mono hs hi
theorem Mem.weak{ov:E}(h:Mem P w0 O0 G I obj w)(ho:∀k o',ov k=some o'->∃o,obj k=some o/\∀B,G k=some B->OR P G w I o B->OR P G w I o' B):Mem P w0 O0 G I ov w:=by constructor;intro k o' hk;have⟨o,h1,h2⟩:=ho k o' hk;have⟨B,hB,hO⟩:=h.c8 k o h1;exact⟨B,hB,h2 B hB hO⟩;intro k k' o o' B B' b h1 h2;have⟨q,g1,_⟩:=ho k o h1;have⟨q',g2,_⟩:=ho k' o' h2;exact h.ir k k' q q' B B' b g1 g2;intro k o B b h1;have⟨q,g1,_⟩:=ho k o h1;exact h.ownB k q B b g1;exact h.lt;exact h.up;exact h.keep;exact h.le;exact h.os;exact h.tape;exact h.output;exact h.anch;exact h.vars
theorem OR.wk{o:aR}{B:cW}(h:OR P G w I o B):OR P G w I ⟨o.sz,dZ o.rows⟩ B:=by
 cases B with
 |none=>simp[OR]at h |-;simp[dZ,h]
 | «at» b s n=>
  obtain⟨h1,c,e,h2,h3,h4⟩:=h;exact⟨h1,c,e,h2,h3,cj.wk _ _ _ _ h4⟩
 |mp b=>
  obtain⟨es,cl,h1,hle,h2,h3⟩:=h;exact⟨es,cl,h1,by simpa[dZ]using hle,λe=>cQ.wk _ _ (h2 (by simpa[dZ]using e)),h3⟩
theorem Mem.yn{k sz:Nat}{rows:U (List AV)}(h:Mem P w0 O0 G I (dw obj [(k,some ⟨sz,rows⟩)]) w):Mem P w0 O0 G I (dw obj [(k,some ⟨sz,dZ rows⟩)]) w:=by refine h.weak λj o' hj=>?_;simp[dw]at hj |-;by_cases e:j=k;rw[aM e]at hj |-;cases hj;exact⟨_,rfl,λB _ hB=>OR.wk hB⟩;rw[aC e]at hj |-;exact⟨o',hj,λ_ _ h=>h⟩
theorem Mem.drew(h:Mem P w0 O0 G I obj w):Mem P w0 O0 G I obj w.drew:=by have hb:Below w.heap.size w w.drew:=⟨rfl,rfl,rfl,aB _,λ_ _=>rfl⟩;exact(h.below hb (λ _ h=>h) h.lt (λ b k o B h1 h2 h3 h4=>(h.ownB k o B b h2 h3 h4).1 h1) h.up).2
end
def nj:Nat->J cW:=λ_=>none
def TV.av:TV->AV
 |.s x=>.t x
 |.a cs=>.agg (cs.map .t)
inductive RC where
 |d (x:TV)
 |fresh (sz:Nat) (rows:List (List Tree))
 |whole (j len:Nat)
inductive RV where
 |one (c:RC)
 |fR (cs:List RC)
def aK(rows:U (List Tree)):U (List AV):=rows.map λr=>r.map AV.t
def Su(P:Ξ)(F:Ψ)(sz:Nat)(rows:U (List Tree))(w:Y)(I:Ψ)(v:Value):Prop:=
 (rows=[]/\v=.slice none 0 0)\/∃b c e cap o s,v=.slice (some ⟨b,o,none⟩) rows.length cap/\F b/\¬I b/\w.heap[b]? =some (.cells c e (0,0))/\rows.length<=cap/\s+cap*sz<=c.size/\
  cj P nj w I (aK rows) c s sz/\(cap≠0->o=s)
def B7(P:Ξ)(F:Ψ)(G:Ω):RC->World->(Nat->Prop)->Value->Prop
 |.d x,w,I,v=>uu w I x v
 |.fresh sz rows,w,I,v=>Su P F sz rows w I v
 |.whole j len,w,I,v=>VR P G w I (.own j 0 len) v
def Xp(P:Ξ)(F:Ψ)(G:Ω):U RC->World->(Nat->Prop)->U Value->Prop
 |[],_,_,[]=>True
 |c::cs,w,I,v::vs=>B7 P F G c w I v/\Xp P F G cs w I vs
 |_,_,_,_=>False
def sf(P:Ξ)(F:Ψ)(G:Ω):RV->World->(Nat->Prop)->Value->Prop
 |.one c,w,I,v=>B7 P F G c w I v
 |.fR cs,w,I,v=>∃vs:Array Value,v=.tuple vs/\Xp P F G cs w I vs.toList
def PH(w:Y)(b:Nat):Prop:=w.heap.size<=b
def fP(P : Ξ)(f : FuncId): Prop := ∃ fn, P.funcs[f]? = some fn /\ fn.body.isSome = true /\ (fn.name == "runtime.NumGoroutine") = false
def tE(P:Ξ)(f:FuncId)(args:U AV)(r:RV):Prop:=
 fP P f/\∀(w:World)(I:Nat->Prop)(vs:Array Value),(∀ b,I b->b<w.heap.size)->kf w I->bp P nj w I args vs.toList->Calls P f vs w (akv w I (sf P (PH w) nj r))
mutual
def gO(P:Program)(get:Nat->Option aR):AV->AV->Prop
 |.t x,y=>y=.t x
 |.agg cs,y=>∃cs',y=.agg cs'/\gj P get cs cs'
 |.fR _,_=>False
 |.own k ab len,y=>∃o eb,get k=some o/\y=.t (.sl eb)/\(o.rows.drop ab).take len=aK eb/\eb.length=len
 |.ptr k row ab,y=>∃o sq,get k=some o/\y=.eV sq ab/\o.rows[row]? =some (sq.map AV.t)
 |.eV r o,y=>y=.eV r o
 |.fn f first caps,y=>∃first' nt,gj P get first first'/\gj P get caps nt/\(y=.fn f first' nt\/
  ∃ Z,y=.en Z/\first'=[]/\fP P f/\∀args r,Z args r->tE P f (first'++args.map TV.av++nt) (.one (.d r)))
 |.en Z,y=>y=.en Z
 |.mp _,_=>False
 |.oz k len,y=>∃o eb,get k=some o/\y=.t (.sl eb)/\(o.rows.drop 0).take len=aK eb/\eb.length=len
 |.cD,y=>y=.t (.sl [])\/y=.cD
 |.ub,_=>False
 |.undef,_=>False
def gj(P:Program)(get:Nat->Option aR):List AV->List AV->Prop
 |[],[]=>True
 |x::xs,y::ys=>gO P get x y/\gj P get xs ys
 |_,_=>False
end
mutual
def refs:AV->List Nat
 |.own k _ _=>[k]
 |.ptr k _ _=>[k]
 |.mp k=>[k]
 |.oz k _=>[k]
 |.agg cs=>cu cs
 |.fR cs=>cu cs
 |.fn _ first caps=>cu first++cu caps
 |_=>[]
def cu:List AV->List Nat
 |[]=>[]
 |x::xs=>refs x++cu xs
end
def gC(G:Ω)(obj:E)(ae:U Nat)(I:Ψ)(b:Nat):Prop:=
 I b\/∃k o s n,k∈ae/\obj k=some o/\G k=some (.at b s n)
theorem gC.sub{G:Ω}{obj:E}{ae IM:U Nat}{I:Ψ}(h:∀k,k∈ae->k∈IM):∀b,gC G obj ae I b->gC G obj IM I b:=by intro b hb;rcases hb with hb|⟨k,o,s,n,h1,h2⟩;exact .inl hb;exact .inr ⟨k,o,s,n,h k h1,h2⟩
section
variable {P:Program} {G:Nat->Option cW} {w:World} {I:Nat->Prop}
theorem df.drop:∀(n:Nat)(r:U AV)(c:Array Value)(ab:Nat),df P G w I r c ab->df P G w I (r.drop n) c (ab+n)
 | 0,_,_,_,h=>by simpa using h
 |n+1,[],_,_,_=>by simp[df]
 |n+1,x::xs,c,ab,⟨_,h⟩=>by have:=df.drop n xs c (ab+1) h;rw[show ab+(n+1)=ab+1+n by omega];exact this
theorem df.take:∀(n:Nat)(r:U AV)(c:Array Value)(ab:Nat),df P G w I r c ab->df P G w I (r.take n) c ab
 | 0,_,_,_,_|n+1,[],_,_,_=>by simp[df]
 |n+1,x::xs,c,ab,⟨h1,h⟩=>⟨h1,df.take n xs c (ab+1) h⟩
theorem cj.drop:∀(n:Nat)(rs:U (List AV))(c:Array Value)(ab sz:Nat),cj P G w I rs c ab sz->cj P G w I (rs.drop n) c (ab+n*sz) sz
 | 0,_,_,_,_,h=>by simpa using h
 |n+1,[],_,_,_,_=>by simp[cj]
 |n+1,r::rs,c,ab,sz,⟨_,_,h⟩=>by have:=cj.drop n rs c (ab+sz) sz h;rw[show ab+(n+1)*sz=ab+sz+n*sz by rw[Nat.add_mul];omega];exact this
theorem cj.take:∀(n:Nat)(rs:U (List AV))(c:Array Value)(ab sz:Nat),cj P G w I rs c ab sz->cj P G w I (rs.take n) c ab sz
 | 0,_,_,_,_,_|n+1,[],_,_,_,_=>by simp[cj]
 |n+1,r::rs,c,ab,sz,⟨h1,h2,h⟩=>⟨h1,h2,cj.take n rs c (ab+sz) sz h⟩
theorem cj.get:∀(i:Nat)(rs:U (List AV))(c:Array Value)(ab sz:Nat)(r:U AV),cj P G w I rs c ab sz->rs[i]? =some r->r.length=sz/\df P G w I r c (ab+i*sz)
 | 0,r::rs,c,ab,sz,r',⟨h1,h2,_⟩,h=>by simp at h;subst h;exact⟨h1,by simpa using h2⟩
 |i+1,r::rs,c,ab,sz,r',⟨_,_,h3⟩,h=>by have:=cj.get i rs c (ab+sz) sz r' h3 (by simpa using h);rw[show ab+(i+1)*sz=ab+sz+i*sz by rw[Nat.add_mul];omega];exact this
 |_,[],_,_,_,_,_,h=>by simp at h
theorem eC.ma{I':Ψ}{b:Nat}{c:Array Value}{e:V}{f:Nat×Nat}(hI:∀b,I b->I' b)(hc:w.heap[b]? =some (.cells c e f)):∀(r:U Tree)(ab:Nat),df P G w I (r.map AV.t) c ab->eC w I' r b ab
 |[],_,_=>by simp[eC]
 |x::xs,ab,⟨⟨v,h1,h2,_⟩,h3⟩=>by refine⟨⟨v,?_,?_⟩,eC.ma hI hc xs (ab+1) h3⟩;simp[World.cell?,hc,h1];exact TR.mono (λ _ _=>rfl) hI x v h2
theorem cN.ma{I':Ψ}{b:Nat}{c:Array Value}{e:V}{f:Nat×Nat}(hI:∀b,I b->I' b)(hc:w.heap[b]? =some (.cells c e f)):∀(rs:U (List Tree))(ab sz:Nat),cj P G w I (aK rs) c ab sz->cN w I' rs b ab sz
 |[],_,_,_=>by simp[cN]
 |r::rs,ab,sz,h=>by exact⟨by simpa using h.1,eC.ma hI hc r ab h.2.1,cN.ma hI hc rs (ab+sz) sz h.2.2⟩
theorem rS.If{f:FuncId}{first caps:Array Value}{first' nt:U AV}{Z:U TV->TV->Prop}(h0:first'=[])(hcall:fP P f)(hgv:kf w I)(hf:bp P nj w I first' first.toList)(hc:bp P nj w I nt caps.toList)
 (h:∀args r,Z args r->tE P f (first'++args.map TV.av++nt) (.one (.d r))):rS P w I Z (.func (.func f) first caps):=by
 obtain⟨fn,h1,h2,h3⟩:=hcall;have h00:first=#[]:=by
  obtain⟨fs⟩:=first
  cases fs with
  |nil=>rfl
  |cons a b=>rw[h0]at hf;simp[bp]at hf
 refine⟨f,first,caps,rfl,h00,λfn' hfn=>?_,by simp[h1],?_⟩;rw[h1]at hfn;cases hfn;exact⟨h2,h3⟩;intro w' I' args vs r hI hS hlt hφ ha;have happ:∀(a b:U AV)(u v:U Value),bp P nj w' I' a u->bp P nj w' I' b v->bp P nj w' I' (a++b) (u++v):=by
  intro a
  induction a with
  |nil=>intro b u v h1 h2;cases u with
   |nil=>simpa using h2
   |cons=>simp[bp]at h1
  |cons x xs ih=>intro b u v h1 h2;cases u with
   |nil=>simp[bp]at h1
   |cons y ys=>simp[bp]at h1;simp;exact⟨h1.1,ih _ _ _ h1.2 h2⟩
 have hargs:∀(args:U TV)(vs:U Value),m9 w' I' args vs->bp P nj w' I' (args.map TV.av) vs:=by
  intro args
  induction args with
  |nil=>intro vs h;cases vs with
   |nil=>simp[bp]
   |cons=>simp[m9]at h
  |cons x xs ih=>intro vs h;cases vs with
   |nil=>simp[m9]at h
   |cons y ys=>
    simp[m9]at h;refine⟨?_,ih ys h.2⟩;cases x with
    |s x=>simpa[TV.av,VR,uu]using h.1
    |a cs=>
     obtain⟨us,rfl,h5⟩:=h.1;simp only[TV.av,VR];refine⟨us,rfl,?_⟩;have:∀(cs:U Tree) (us:U Value),fm w' I' cs us->bp P nj w' I' (cs.map AV.t) us:=by
      intro cs
      induction cs with
      |nil=>intro us h;cases us with
       |nil=>simp[bp]
       |cons=>simp[fm]at h
      |cons x xs ih=>intro us h;cases us with
       |nil=>simp[fm]at h
       |cons y ys=>simp[fm]at h;simp;exact⟨h.1,ih _ h.2⟩
     exact this cs us.toList h5
 have hm:∀k B,nj k=some B->nj k=some B:=λ_ _ h=>h;have:=(h args r hφ).2 w' I' (first++vs++caps) hlt (hgv.mono hS hI) (by simp only[Array.toList_append];exact happ _ _ _ _ (happ _ _ _ _ (bp.mono hm hS hI _ _ hf) (hargs _ _ ha)) (bp.mono hm hS hI _ _ hc));exact this
variable {w0:World} {O0:k5} {obj:Nat->Option aR}
theorem gO.qt(h:Mem P w0 O0 G I obj w)(ae:U Nat){k ab len:Nat}{y:AV}{v:Value}(hk:k∈ae)(hb:∃o eb,obj k=some o/\y=.t (.sl eb)/\(o.rows.drop ab).take len=aK eb/\eb.length=len)(hv:VR P G w I (.own k ab len) v):VR P nj w (gC G obj ae I) y v:=by obtain⟨o,eb,hget,rfl,hrows,hlen⟩:=hb;simp only[VR]at hv |-;rcases hv with ⟨h1,rfl,h2,h3⟩|⟨b,sz,n,cap,a,h1,rfl,h2,h3,h4⟩;exact .inl ⟨eq_nil_of_length_eq_zero (by omega),none,0,rfl,λ_=>rfl⟩;refine .inr ⟨b,a,cap,sz,by rw[hlen],by omega,.inr ⟨k,o,sz,n,hk,hget,h1⟩,?_⟩;by_cases h0:cap=0;have:eb=[]:=eq_nil_of_length_eq_zero (by omega);subst this;simp[cN];rw[h4 h0];have⟨B,hB,hO⟩:=h.c8 k o hget;rw[h1]at hB;cases hB;obtain⟨hs,c,e,hc,_,hO⟩:=hO;have h4:=cj.take len _ _ _ _ (cj.drop ab _ _ _ _ hO);rw[hrows]at h4;exact cN.ma (λ _ h=>.inl h) hc eb _ _ h4
mutual
theorem gO.sound(h:Mem P w0 O0 G I obj w)(ae:List Nat):∀(x y:AV)(v:Value),(∀ k,k∈refs x->k∈ae)->gO P obj x y->VR P G w I x v->VR P nj w (gC G obj ae I) y v
 |.t x,y,v,_,hb,hv=>by simp[gO]at hb;subst hb;simp[VR]at hv |-;exact TR.mono (λ _ _=>rfl) (λ _ h=>.inl h) x v hv
 |.agg cs,y,v,hk,hb,hv=>by simp[gO]at hb;obtain⟨cs',rfl,hb⟩:=hb;simp[VR]at hv |-;obtain⟨vs,rfl,hv⟩:=hv;exact⟨vs,rfl,gj.sound h ae cs cs' vs.toList (by simpa[refs]using hk) hb hv⟩
 |.fR _,_,_,_,hb,_=>by simp[gO]at hb
 |.oz k len,y,v,hk,hb,hv=>by rcases hv.we with ⟨rfl,rfl⟩|⟨_,hv⟩;simp only[gO]at hb;obtain⟨o,eb,hget,rfl,hrows,hlen⟩:=hb;simp only[VR,TR];exact .inl ⟨eq_nil_of_length_eq_zero hlen,none,0,rfl,λ_=>rfl⟩;exact gO.qt h ae (hk k (by simp[refs])) (by simpa[gO]using hb) hv
 |.own k ab len,y,v,hk,hb,hv=>gO.qt h ae (hk k (by simp[refs])) (by simpa[gO]using hb) hv
 |.ptr k row ab,y,v,hk,hb,hv=>by simp only[gO]at hb;obtain⟨o,sq,hget,rfl,hrow⟩:=hb;simp[VR]at hv |-;obtain⟨b,sz,n,h1,rfl⟩:=hv;have⟨B,hB,hO⟩:=h.c8 k o hget;rw[h1]at hB;cases hB;obtain⟨hs,c,e,hc,_,hO⟩:=hO;have h4:=(cj.get row _ _ _ _ _ hO hrow).2;exact⟨b,n.s+row*sz,rfl,.inr ⟨k,o,sz,n,hk k (by simp[refs]),hget,h1⟩,eC.ma (λ _ h=>.inl h) hc sq _ h4⟩
 |.eV r o,y,v,_,hb,hv=>by simp[gO]at hb;subst hb;simp[VR]at hv |-;obtain⟨b,o',h1,h2,h3⟩:=hv;exact⟨b,o',h1,.inl h2,eC.mono (λ _ _=>rfl) (λ _ h=>.inl h) r b o' h2 h3⟩
 |.fn f first caps,y,v,hk,hb,hv=>by
  simp only[gO]at hb;obtain⟨first',nt,hb1,hb2,hy⟩:=hb;simp[VR]at hv;obtain⟨fs,cs,rfl,hv1,hv2⟩:=hv;have h1:=gj.sound h ae first first' fs.toList (λ k hk'=>hk k (by simp[refs,hk'])) hb1 hv1
  have h2:=gj.sound h ae caps nt cs.toList (λ k hk'=>hk k (by simp[refs,hk'])) hb2 hv2;rcases hy with rfl|⟨Z,rfl,h0,hc,hφ⟩;simp only[VR];exact⟨fs,cs,rfl,h1,h2⟩;simp[VR];exact rS.If h0 hc (h.vars.mono (λ _ _=>rfl) (λ _ h=>.inl h)) h1 h2 hφ
 |.en Z,y,v,_,hb,hv=>by simp[gO]at hb;subst hb;simp[VR]at hv |-;exact rS.mono (λ _ _=>rfl) (λ _ h=>.inl h) hv
 |.cD,y,v,_,hb,hv=>by simp[gO]at hb;rcases hb with rfl|rfl;simp[VR]at hv |-;simp only[TR];exact .inl ⟨trivial,none,0,hv,λ_=>rfl⟩;simpa[VR]using hv
 |.ub,_,_,_,hb,_|.undef,_,_,_,hb,_=>by simp[gO]at hb
theorem gj.sound(h:Mem P w0 O0 G I obj w)(ae:List Nat):∀(xs ys:List AV)(vs:List Value),(∀ k,k∈cu xs->k∈ae)->gj P obj xs ys->bp P G w I xs vs->bp P nj w (gC G obj ae I) ys vs
 |[],[],[],_,_,_=>by simp[bp]
 |x::xs,y::ys,v::vs,hk,hb,hv=>by simp[gj]at hb;simp[bp]at hv |-;exact⟨gO.sound h ae x y v (λ k hk'=>hk k (by simp[cu,hk'])) hb.1 hv.1,gj.sound h ae xs ys vs (λ k hk'=>hk k (by simp[cu,hk'])) hb.2 hv.2⟩
 |[],_::_,_,_,hb,_|_::_,[],_,_,hb,_=>by simp[gj]at hb
 |[],[],_::_,_,_,hv|_::_,_::_,[],_,_,hv=>by simp[bp]at hv
end
end
inductive B6 where
 |slice (e:TypeId)
 |arr (n:Nat) (e:TypeId)
 |struct (fs:List (Nat×TypeId))
 |bool
 |str
 |int (k:IntKind)
 |map (k e:TypeId)
 |other
structure pD where
 size:Nat
 bytes:Nat
 agg:Bool
 zero:List Value
 k:B6
 cmp:List Nat
abbrev eS:=Nat->J pD
def Tl:B6->TypeDesc->Prop
 |.slice e,d=>d=.slice e
 |.arr n e,d=>d=.array n e
 |.struct fs,d=>∃fa:Array Field,d=.struct fa/\fa.toList.map (λ f=>(f.offset,f.type))=fs
 |.bool,d=>d=.bool
 |.str,d=>d=.string
 |.int k,d=>d=.int k
 |.map k e,d=>d=.map k e
 |.other,_=>True
def tm:TypeDesc->Bool
 |.struct _|.array _ _=>true
 |_=>false
def ld:Value->Bool
 |.agg _|.tuple _=>false
 |_=>true
theorem uO{v:Value}(h:ld v=true):oneCell v:=by cases v<;>first|exact trivial|(simp [ld]at h)
def Xq(P:Ξ)(f:Field)(kd:Nat):Bool:=
 (f.name != "_") && match P.underlying f.type with
  |some (.int _)=>kd==0
  |some .bool=>kd==1
  |some .string=>kd==2
  |_=>false
def i8(P:Ξ):Nat->U Field->U Nat->Bool
 |_,[],[]=>true
 |n,f::fs,k::ks=>f.offset==n&&Xq P f k&&i8 P (n+1) fs ks
 |_,_,_=>false
def tG(agg:Bool):Value->Bool
 |.agg _=>agg
 |.tuple _=>false
 |_=>!agg
structure mi(P:Program)(t:TypeId)(ti:pD):Prop where
 ex:∃info d z,P.info? t=some info/\P.underlying t=some d/\info.size=ti.size/\info.bytes=ti.bytes/\info.zero=some z/\z.cells.toList=ti.zero/\tm d=ti.agg/\Tl ti.k d
 one:ti.zero.all ld=true
 len:ti.zero.length=ti.size
 form:∀info z,P.info? t=some info->info.zero=some z->tG ti.agg z=true
 cmp:ti.cmp≠[]->(∃ fa:Array Field,P.underlying t=some (.struct fa)/\P.stoodInHeld t=false/\P.eqGuardType P.depth t=false/\i8 P 0 fa.toList ti.cmp=true)\/(ti.cmp=[9]/\P.eqGuardType P.depth t=false)
def fQ(P:Ξ)(T:eS):Prop:=∀t ti,T t=some ti->mi P t ti
def jD:U Prop->Prop
 |[]=>True
 |[p]=>p
 |p::q::r=>p/\jD (q::r)
structure Out where
 v:AV
 upd:List (Nat×Option aR)
 obs:List Prop
@[reducible] def Out.ob (o:Out):Prop:=jD o.obs
def cE(i:Nat):Nat:=1000000+64*i
inductive LH where
 |rows (tr:List (List Tree))
 |row (tr:List Tree)
 |fn
 |en (Z:List TV->TV->Prop)
 |mut (j:Nat)
 |nil
 |emp
 |fnw
 |agw
 |agd
inductive OB where
 |dat (p:Nat×List (List Tree))
 |Fi (hs:List (List LH))
inductive kh where
 |none
 |row (r:List AV)
 |set (r:List AV) (rs:List (List AV))
 |sq (r:List Tree)
 |num (n:Int)
 |rows (rs:List (List AV))
 |Cd (rows:List (List Tree))
 |call (hs:List LH) (r:RV) (keep:Bool)
 |Fk (hs:List LH) (args:List TV) (r:TV) (keep:Bool)
 |ext (n:Int)
 |zd (ae:List Nat) (fr:Operand->AV) (cL:kh)
 |ur (ae:List Nat) (os:List (Nat×List (List Tree))) (os':List (Option (Nat×List (List Tree)))) (hs:List LH) (r:RV) (keep:Bool)
 |ut (ae c9:List Nat) (bs:List OB) (hs:List LH) (os':List (Nat×aR)) (rv:AV) (keep:Bool)
def pv(v:AV):J Out:=some ⟨v,[],[]⟩
def m4(v:AV)(ob:Prop):J Out:=some ⟨v,[],[ob]⟩
def cv:Value->AV
 |.slice none 0 0=>.cD
 |v=>if ld v then .t (.sc v)else .undef
def ml(env:Nat->AV):Operand->AV
 |.tmp t=>env t
 |.const v=>cv v
 |.global g=>match vj g with
  |some row=>.eV (row.map Tree.sc) 0
  |none=>.undef
 |.func f=>.fn f [] []
def qK:AV->Bool
 |.agg _|.fR _|.undef=>false
 |_=>true
def cellsOf:AV->J (List AV)
 |.agg cs=>if cs.all qK then some cs else none
 |.fR _|.undef=>none
 |x=>some [x]
def part'(agg:Bool)(size:Nat)(cs:U AV):J AV:=
 if cs.length=size then(if agg then some (.agg cs)else match cs with|[x]=>if qK x then some x else none|_=>none)else none
def put'(r:U AV)(ab:Nat)(cs:U AV):U AV:=r.take ab++cs++r.drop (ab+cs.length)
def Xr(op:BinOp)(k:IntKind)(a b:Int):J (Value×List Prop):=
 match op with
 |.add=>some (.int k (k.wrap (a+b)),[])
 |.sub=>some (.int k (k.wrap (a-b)),[])
 |.mul=>some (.int k (k.wrap (a*b)),[])
 |.quo=>some (.int k (k.wrap (a.tdiv b)),[b≠0])
 |.rem=>some (.int k (a.tmod b),[b≠0])
 |.and=>some (.int k (bits .and k a b),[])
 |.or=>some (.int k (bits .or k a b),[])
 |.xor=>some (.int k (bits .xor k a b),[])
 |.andNot=>some (.int k (bits .andNot k a b),[])
 |.shl=>some (.int k (k.wrap (a*2 ^ b.toNat)),[0<=b/\b<=k.bits])
 |.shr=>some (.int k (a/2 ^ b.toNat),[0<=b/\b<=k.bits])
 |.eql=>some (.bool (a==b),[])
 |.neq=>some (.bool (a !=b),[])
 |.lss=>some (.bool (decide (a<b)),[])
 |.leq=>some (.bool (decide (a<=b)),[])
 |.gtr=>some (.bool (decide (a>b)),[])
 |.geq=>some (.bool (decide (a>=b)),[])
def M9:Nat->AV->AV->J Bool
 | 0,.t (.sc (.int j a)),.t (.sc (.int k b))=>if j=k then some (a==b)else none
 | 1,.t (.sc (.bool a)),.t (.sc (.bool b))=>some (a==b)
 | 2,.t (.sc (.string a)),.t (.sc (.string b))=>some (a.toList==b.toList)
 |_,_,_=>none
def uP:U Nat->U AV->U AV->J Bool
 |[],[],[]=>some true
 |k::ks,x::xs,y::ys=>(M9 k x y).bind λa=>(uP ks xs ys).bind λb=>some (a&&b)
 |_,_,_=>none
theorem am5:∀xs ys:U AV,uP [9] xs ys=none:=by intro xs ys;cases xs<;>cases ys<;>simp[uP,M9]
def ye(T:eS)(op:BinOp)(t:V)(x y:AV):J Out:=
 match x,y with
 |.t (.sc (.int k a)),.t (.sc (.int yk b))=>if k=yk\/op=.shl\/op=.shr then(Xr op k a b).bind λ(v,obs)=>some ⟨.t (.sc v),[],obs⟩else none
 |.t (.sc (.string a)),.t (.sc (.string b))=>match op with
  |.eql=>pv (.t (.sc (.bool (a.toList==b.toList))))
  |.neq=>pv (.t (.sc (.bool (!(a.toList==b.toList)))))
  |.lss=>pv (.t (.sc (.bool (Op.bytesLess a.toList b.toList))))
  |.gtr=>pv (.t (.sc (.bool (!(Op.bytesLess a.toList b.toList || a.toList==b.toList)))))
  |.add=>m4 (.t (.sc (.string (a++b)))) (a.size+b.size<=maxLen)
  |_=>none
 |.t (.sc (.bool a)),.t (.sc (.bool b))=>(T t).bind λti=>match ti.k,op with
  |.bool,.eql=>pv (.t (.sc (.bool (a==b))))
  |.bool,.neq=>pv (.t (.sc (.bool (!(a==b)))))
  |_,_=>none
 |.agg xs,.agg ys=>(T t).bind λti=>if ti.cmp=[]then none else(uP ti.cmp xs ys).bind λb=>match op with
  |.eql=>pv (.t (.sc (.bool b)))
  |.neq=>pv (.t (.sc (.bool (!b))))
  |_=>none
 |_,_=>none
def Sx(op:UnOp)(x:AV):J Out:=
 match op,x with
 |.not,.t (.sc (.bool b))=>pv (.t (.sc (.bool (!b))))
 |.neg,.t (.sc (.int k n))=>pv (.t (.sc (.int k (k.wrap (0-n)))))
 |_,_=>none
def FJ(mx:Bool)(k:IntKind):Int->U AV->J Int
 |a,[]=>some a
 |a,.t (.sc (.int k' b))::r=>if k'=k then FJ mx k (if mx then max a b else min a b) r else none
 |_,_=>none
def HR(mx:Bool)(args:U AV):J Out:=
 match args with
 |.t (.sc (.int k a))::r=>(FJ mx k a r).bind λn=>pv (.t (.sc (.int k n)))
 |_=>none
def MC(T:eS)(t:V)(x:AV)(cL:kh)(get:E):J Out:=
 (T t).bind λti=>match x with
 |.ptr k row ab=>(get k).bind λo=>match cL with
  |.row r=>(part' ti.agg ti.size ((r.drop ab).take ti.size)).bind λv=>m4 v (o.rows[row]? =some r)
  |_=>(o.rows[row]?).bind λr=>(part' ti.agg ti.size ((r.drop ab).take ti.size)).bind pv
 |.eV r ab=>(part' ti.agg ti.size (((r.drop ab).take ti.size).map AV.t)).bind pv
 |_=>none
def Xt(T:eS)(t:V)(x y:AV)(cL:kh)(get:E):J Out:=
 (T t).bind λti=>(cellsOf y).bind λcs=>if cs.length=ti.size then match x with
 |.ptr k row ab=>(get k).bind λo=>match cL with
  |.set r rs=>if ab+cs.length<=r.length then some ⟨.undef,[(k,some ⟨o.sz,rs⟩)],[o.rows[row]? =some r/\rs=dZ (o.rows.set row (put' r ab cs))]⟩else none
  |_=>(o.rows[row]?).bind λr=>if ab+cs.length<=r.length then some ⟨.undef,[(k,some ⟨o.sz,o.rows.set row (put' r ab cs)⟩)],[]⟩else none
 |_=>none else none
def BF(T:eS)(t:V)(f:Nat):J (Nat×pD):=
 (T t).bind λti=>match ti.k with
 |.struct fs=>(fs[f]?).bind λ(ab,u)=>(T u).bind λui=>if ui.size=0 then none else some (ab,ui)
 |_=>none
def zU(T:eS)(t:V)(x:AV)(f:Nat):J Out:=
 (BF T t f).bind λ(d,_)=>match x with
 |.ptr k row ab=>pv (.ptr k row (ab+d))
 |.eV r ab=>pv (.eV r (ab+d))
 |_=>none
def Xu(T:eS)(t:V)(x:AV)(f:Nat):J Out:=
 (BF T t f).bind λ(d,ui)=>match x with
 |.agg cs=>(part' ui.agg ui.size ((cs.drop d).take ui.size)).bind pv
 |_=>none
def nK(T:eS)(t:V)(x i:AV)(cL:kh)(get:E):J Out:=
 (T t).bind λti=>match ti.k,i with
 |.slice e,.t (.sc (.int _ n))=>(T e).bind λei=>match x,cL with
  |.t (.sl rows),.sq r=>if r.length=ei.size then m4 (.eV r 0) (0<=n/\rows[n.toNat]? =some r)else none
  |.own k ab len,_=>(get k).bind λo=>if o.sz=ei.size then m4 (.ptr k (ab+n.toNat) 0) (0<=n/\n.toNat<len)else none
  |_,_=>none
 |.arr m e,.t (.sc (.int _ n))=>(T e).bind λei=>match x with
  |.ptr k row ab=>m4 (.ptr k row (ab+n.toNat*ei.size)) (0<=n/\n.toNat<m)
  |.eV r ab=>m4 (.eV r (ab+n.toNat*ei.size)) (0<=n/\n.toNat<m)
  |_=>none
 |_,_=>none
def Jf(x:AV)(j:Nat):J Out:=
 match x with
 |.fR vs=>(vs[j]?).bind pv
 |_=>none
def BY(T:eS)(t:V)(x:AV)(cL:kh):J Out:=
 (T t).bind λti=>match ti.k,x,cL with
 |.slice _,.t (.sl rows),.num n=>m4 (.t (.sc (.int .i64 n))) (n=(rows.length:Int))
 |.slice _,.own _ _ len,.num n=>m4 (.t (.sc (.int .i64 n))) (n=(len:Int))
 |.slice _,.own _ _ len,_=>pv (.t (.sc (.int .i64 (len:Int))))
 |.slice _,.oz _ len,_=>pv (.t (.sc (.int .i64 (len:Int))))
 |.slice _,.cD,_=>pv (.t (.sc (.int .i64 0)))
 |.str,.t (.sc (.string s)),_=>pv (.t (.sc (.int .i64 (s.size:Int))))
 |_,_,_=>none
def G6(place:Nat->J (Nat×Nat)):U AV->U (Nat×AV)->J (List AV)
 |cells,[]=>some cells
 |cells,(j,x)::ag=>(place j).bind λ(ab,size)=>(cellsOf x).bind λcs=>
  if cs.length=size/\ab+cs.length<=cells.length then G6 place (put' cells ab cs) ag else none
def Xv(T:eS)(t:V)(parts:U (Nat×AV)):J Out:=
 (T t).bind λti=>match ti.k with
 |.struct fs=>if fs.all (λ p=>(T p.2).isSome)then
  (G6 (λ j=>(fs[j]?).bind λp=>(T p.2).bind λui=>some (p.1,ui.size)) (ti.zero.map cv) parts).bind λcells=>pv (.agg cells)else none
 |.arr _ e=>(T e).bind λei=>(G6 (λ j=>some (j*ei.size,ei.size)) (ti.zero.map cv) parts).bind λcells=>pv (.agg cells)
 |_=>none
def OH(size:Nat):U (List AV)->U (Nat×AV)->J (List (List AV))
 |rows,[]=>some rows
 |rows,(j,x)::ag=>(cellsOf x).bind λcs=>if cs.length=size/\j<rows.length then OH size (rows.set j cs) ag else none
def xH(T:eS)(i:Nat)(t:V)(len:Nat)(parts:U (Nat×AV))(kp:Bool:=false):J Out:=
 (T t).bind λti=>match ti.k with
 |.slice e=>(T e).bind λei=>if ei.size=0\/len*ei.size>2 ^ 24 then none else
  (OH ei.size (List.replicate len (ei.zero.map cv)) parts).bind λrows=>some ⟨.own (cE i) 0 len,[(cE i,some ⟨ei.size,if kp then rows else dZ rows⟩)],[]⟩
 |_=>none
def Xw(T:eS)(i:Nat)(e:V):J Out:=
 (T e).bind λti=>some ⟨.ptr (cE i) 0 0,[(cE i,some ⟨ti.size,[ti.zero.map cv]⟩)],[]⟩
def M1(i:Nat)(x:AV):J Out:=
 (cellsOf x).bind λcs=>some ⟨.ptr (cE i) 0 0,[(cE i,some ⟨cs.length,[cs]⟩)],[]⟩
def bnd(d:Int):J AV->J Int
 |none=>some d
 |some (.t (.sc (.int _ n)))=>some n
 |_=>none
def Xx(T:eS)(t:V)(x:AV)(lo hi:J AV)(cL:kh)(get:E):J Out:=
 (T t).bind λti=>match ti.k with
 |.slice e=>(T e).bind λei=>match x with
  |.own k ab len=>(get k).bind λo=>if o.sz=ei.size then(bnd 0 lo).bind λl=>(bnd len hi).bind λh=>
   m4 (.own k (ab+l.toNat) (h.toNat-l.toNat)) (0<=l/\l<=h/\h<=(len:Int))else none
  |.t (.sl rows)=>match cL with
   |.Cd rs=>(bnd 0 lo).bind λl=>(bnd rows.length hi).bind λh=>
    m4 (.t (.sl rs)) (0<=l/\l<=h/\h<=(rows.length:Int)/\rs=(rows.drop l.toNat).take (h.toNat-l.toNat)/\(∀ r∈rows,r.length=ei.size))
   |_=>none
  |_=>none
 |_=>none
def Xy(size:Nat)(y:AV)(get:E):J (Nat×Prop×List (List AV)):=
 match y with
 |.own k ab len=>(get k).bind λo=>if o.sz=size then some (len,True,(o.rows.drop ab).take len)else none
 |.t (.sl rows)=>some (rows.length,∀r∈rows,r.length=size,aK rows)
 |_=>none
def BG(T:eS)(i:Nat)(t:V)(x y:AV)(cL:kh)(get:E):J Out:=
 (T t).bind λti=>match ti.k with
 |.slice e=>(T e).bind λei=>match cL with
  |.rows rs=>(Xy ei.size y get).bind λ(n,ob,ao)=>match x with
   |.own k ab len=>(get k).bind λo=>if o.sz=ei.size then
    some ⟨.own (cE i) 0 rs.length,[(cE i,some ⟨ei.size,rs⟩),(k,none)],[ob/\(o.rows.drop ab).length=len/\ao.length=n/\rs=o.rows.drop ab++ao/\(len+n)*ei.bytes<=140737488355328/\len+n<=maxLen]⟩else none
   |.cD=>some ⟨.own (cE i) 0 rs.length,[(cE i,some ⟨ei.size,rs⟩)],[ob/\ao.length=n/\rs=ao/\n*ei.bytes<=140737488355328/\n<=maxLen]⟩
   |_=>none
  |_=>none
 |_=>none
def Eh(T:eS)(i:Nat)(b:Builtin)(args:U AV)(d6:U TypeId)(cL:kh)(get:E):J Out:=
 match b,args,d6 with
 |.len,[x],[t]=>BY T t x cL
 |.max,args,_=>HR true args
 |.min,args,_=>HR false args
 |.append,[x,y],[t,u]=>if t=u then BG T i t x y cL get else none
 |_,_,_=>none
def NO(t:Bool)(x y:AV):AV:=
 match x,y with
 |.t (.sc (.bool p)),.t (.sc (.bool q))=>.t (.sc (.bool (bif t then p else q)))
 |.t (.sc (.int k p)),.t (.sc (.int k' q))=>if k=k' then .t (.sc (.int k (bif t then p else q)))else bif t then x else y
 |_,_=>bif t then x else y
theorem Xz(t:Bool)(x y:AV):NO t x y=if t=true then x else y:=by unfold NO;split;cases t<;>rfl;split;rename_i h;subst h;cases t<;>rfl;cases t<;>rfl;cases t<;>rfl
def rW(T:eS)(i:Nat)(o:Oper)(cL:kh)(ρ:Operand->AV)(get:E):J Out:=
 match o.op with
 |.move x=>pv (ρ x)
 |.assign x=>pv (ρ x)
 |.pick c a b=>match ρ c with|.t (.sc (.bool t))=>pv (NO t (ρ a) (ρ b))|_=>none
 |.alloc e=>Xw T i e
 |.box _ x=>M1 i (ρ x)
 |.build t parts=>Xv T t (parts.toList.map λ(j,x)=>(j,ρ x))
 |.buildSlice t len parts=>xH T i t len (parts.toList.map λ(j,x)=>(j,ρ x)) (match cL with|.row _=>true|_=>false)
 |.load t a=>MC T t (ρ a) cL get
 |.store t a x=>Xt T t (ρ a) (ρ x) cL get
 |.binOp op t x y _=>ye T op t (ρ x) (ρ y)
 |.unOp op _ x=>Sx op (ρ x)
 |.makeFunc (.func f) first caps=>pv (.fn f (first.toList.map ρ) (caps.toList.map ρ))
 |.slice t x lo hi none=>Xx T t (ρ x) (lo.map ρ) (hi.map ρ) cL get
 |.fieldAddr t x f=>zU T t (ρ x) f
 |.field t x f=>Xu T t (ρ x) f
 |.indexAddr t x j=>nK T t (ρ x) (ρ j) cL get
 |.extract x j=>Jf (ρ x) j
 |.call { callee:=.builtin b,args:=args,argTypes:=d6 }=>Eh T i b (args.toList.map ρ) d6.toList cL get
 |_=>none
def s7(P:Ξ)(w0:Y)(O0:k5)(G:Ω)(I:Ψ)(obj:E)(w:Y)(i:Nat)(aa:Out)(r:Result Next):Prop:=
 ∃v' w' β' I',(r=.ok (.value v') w'\/(r=.ok .skip w'/\v'=undef))/\Step G I w (cE i) β' I' w'/\Mem P w0 O0 β' I' (dw obj aa.upd) w'/\VR P β' w' I' aa.v v'
section
variable {P:Program} {T:eS} {w0:World} {O0:k5} {G:Nat->Option cW} {I:Nat->Prop} {obj:Nat->Option aR} {w:World} {i:Nat}
theorem s7.pure(h:Mem P w0 O0 G I obj w){x:AV}{ob:U Prop}{v:Value}(hv:VR P G w I x v):s7 P w0 O0 G I obj w i ⟨x,[],ob⟩ (.ok (.value v) w):=
 ⟨v,w,G,I,.inl rfl,Step.refl ..,h,hv⟩
theorem bp.length:∀(xs:U AV)(vs:U Value),bp P G w I xs vs->vs.length=xs.length
 |[],[],_=>rfl
 |x::xs,v::vs,h=>by simp[bp]at h;simp[bp.length xs vs h.2]
 |[],_::_,h|_::_,[],h=>by simp[bp]at h
theorem bp.get:∀(xs:U AV)(vs:U Value)(j:Nat)(x:AV),bp P G w I xs vs->xs[j]? =some x->∃v,vs[j]? =some v/\VR P G w I x v
 |x::xs,v::vs,0,x',h,hj=>by grind [bp]
 |x::xs,v::vs,j+1,x',h,hj=>by simp[bp]at h;simpa using bp.get xs vs j x' h.2 (by simpa using hj)
 |[],_,_,_,_,hj=>by simp at hj
 |_::_,[],_,_,h,_=>by simp[bp]at h
theorem bp.take:∀(n:Nat)(xs:U AV)(vs:U Value),bp P G w I xs vs->bp P G w I (xs.take n) (vs.take n)
 | 0,_,_,_|n+1,[],[],_=>by simp[bp]
 |n+1,x::xs,v::vs,h=>by simp[bp]at h;simp;exact⟨h.1,bp.take n xs vs h.2⟩
 |_+1,[],_::_,h|_+1,_::_,[],h=>by simp[bp]at h
theorem bp.drop:∀(n:Nat)(xs:U AV)(vs:U Value),bp P G w I xs vs->bp P G w I (xs.drop n) (vs.drop n)
 | 0,_,_,h=>by simpa using h
 |n+1,[],[],_=>by simp[bp]
 |n+1,x::xs,v::vs,h=>by simp[bp]at h;simpa using bp.drop n xs vs h.2
 |_+1,[],_::_,h|_+1,_::_,[],h=>by simp[bp]at h
theorem bp.append:∀(xs ys:U AV)(us vs:U Value),bp P G w I xs us->bp P G w I ys vs->bp P G w I (xs++ys) (us++vs)
 |[],ys,[],vs,_,h=>by simpa using h
 |x::xs,ys,u::us,vs,h1,h2=>by simp[bp]at h1;simp;exact⟨h1.1,bp.append xs ys us vs h1.2 h2⟩
 |[],_,_::_,_,h,_|_::_,_,[],_,h,_=>by simp[bp]at h
theorem VR.one{x:AV}{v:Value}(hx:qK x=true)(h:VR P G w I x v):oneCell v:=by
 cases x<;>simp only[VR]at h
 case t x=>
  cases x with
  |sc u=>simp[TR]at h;rw[h.1];exact h.2
  |sl rows=>simp only[TR]at h;rcases h with ⟨_,_,_,rfl,_⟩|⟨b,ab,cap,sz,rfl,_⟩<;>exact trivial
 case agg=>simp[qK]at hx
 case fR=>simp[qK]at hx
 case own k ab len=>rcases h with ⟨_,rfl,_⟩|⟨b,sz,n,cap,a,_,rfl,_⟩<;>exact trivial
 case ptr=>obtain⟨b,sz,n,_,rfl⟩:=h;exact trivial
 case eV=>obtain⟨b,o,rfl,_⟩:=h;exact trivial
 case fn=>obtain⟨fs,cs,rfl,_⟩:=h;exact trivial
 case en=>obtain⟨f,a,b,rfl,_⟩:=h;exact trivial
 case mp=>obtain⟨b,_,rfl⟩:=h;exact trivial
 case oz=>rcases h with ⟨_,rfl⟩|⟨_,b,sz,n,cap,a,_,rfl,_⟩<;>exact trivial
 case cD=>subst h;exact trivial
 case ub=>obtain⟨b,rfl⟩:=h;exact trivial
 case undef=>simp[qK]at hx
theorem cells_one{v:Value}(h:oneCell v):v.cells=#[v]:=by cases v<;>first|rfl|exact h.elim
theorem Cz{x:AV}{cs:U AV}{v:Value}(hc:cellsOf x=some cs)(h:VR P G w I x v):bp P G w I cs v.cells.toList/\(∀ u∈v.cells.toList,oneCell u):=by
 have single:qK x=true->cs=[x]->bp P G w I cs v.cells.toList/\(∀ u∈v.cells.toList,oneCell u):=λhk e=>by have h1:=VR.one hk h;rw[cells_one h1,e];simp only[bp];exact⟨⟨h,trivial⟩,λu hu=>by simp at hu;rw[hu];exact h1⟩
 cases x<;>simp only[cellsOf,bX,reduceCtorEq]at hc
 case agg cs'=>
  split at hc;injection hc with hc;subst hc;rename_i hall;simp[VR]at h;obtain⟨vs,rfl,hvs⟩:=h;refine⟨hvs,λu hu=>?_⟩;obtain⟨j,hj⟩:=List.getElem?_of_mem hu;have hlen:=bp.length _ _ hvs;have hjl:j<cs'.length:=by have:=(dO.1 hj).1;simp only[Value.cells]at this;omega
  obtain⟨u',hu',hv'⟩:=bp.get _ _ j _ hvs (dY hjl);simp only[Value.cells]at hj;rw[hj]at hu';injection hu' with hu';subst hu';exact VR.one (all_eq_true.1 hall _ (List.getElem_mem hjl)) hv';cases hc
 all_goals exact single rfl hc.symm
theorem VR.cv{v:Value}:VR P G w I (cv v) v:=by unfold Gb.cv;split;simp[VR];split;rename_i h;simp only[VR,TR];exact⟨trivial,uO h⟩;simp[VR]
theorem bp.cv:∀(vs:U Value),bp P G w I (vs.map cv) vs
 |[]=>by simp[bp]
 |v::vs=>by simp;exact⟨VR.cv,bp.cv vs⟩
theorem df.oB(cs:U AV)(vs:U Value)(c:Array Value)(ab:Nat)(h:bp P G w I cs vs)(h1:∀u∈vs,oneCell u)(hc:∀j u,vs[j]? =some u->c[ab+j]? =some u):df P G w I cs c ab:=by rw[j4];intro j x hx;obtain⟨v,hv,hr⟩:=bp.get _ _ j x h hx;exact⟨v,hc j v hv,hr,h1 v (dM hv)⟩
theorem df.list:∀(cs:U AV)(c:Array Value)(ab:Nat),df P G w I cs c ab->∃vs:U Value,bp P G w I cs vs/\(∀ u∈vs,oneCell u)/\∀j u,vs[j]? =some u->c[ab+j]? =some u
 |[],_,_,_=>⟨[],by simp[bp],by simp,by simp⟩
 |x::xs,c,ab,⟨⟨v,h1,h2,h3⟩,h4⟩=>by
  have⟨vs,g1,g2,g3⟩:=df.list xs c (ab+1) h4;refine⟨v::vs,by simp[bp];exact⟨h2,g1⟩,λu hu=>?_,λj u hj=>?_⟩
  all_goals grind
theorem eC.list:∀(cs:U Tree)(b ab:Nat),eC w I cs b ab->∃vs:U Value,bp P G w I (cs.map AV.t) vs/\∀j u,vs[j]? =some u->w.cell? ⟨b,ab+j,none⟩=some u
 |[],_,_,_=>⟨[],by simp[bp],by simp⟩
 |x::xs,b,ab,h=>by
  obtain⟨⟨v,h1,h2⟩,h4⟩:=h;have⟨vs,g1,g3⟩:=eC.list xs b (ab+1) h4;refine⟨v::vs,by simp;exact⟨h2,g1⟩,λj u hj=>?_⟩
  grind
theorem Na{agg:Bool}{size:Nat}{cs:U AV}{v:AV}{vs:U Value}(hp:part' agg size cs=some v)(h:bp P G w I cs vs):cs.length=size/\vs.length=size/\
 (agg=true->VR P G w I v (.agg vs.toArray))/\(agg=false->∃u,vs=[u]/\VR P G w I v u):=by
 unfold part' at hp;split at hp;rename_i hl;have hl2:=bp.length _ _ h;refine⟨hl,by omega,?_,?_⟩;rintro rfl;simp at hp;subst hp;exact⟨vs.toArray,rfl,h⟩;rintro rfl;simp at hp;split at hp;split at hp;cases hp
 match vs,h with
 |[u],h=>simp only[bp]at h;exact⟨u,rfl,h.1⟩
 |[],h|_::_::_,h=>simp[bp]at h
 cases hp;cases hp;cases hp
section types
variable {t:TypeId} {ti:pD} (ht:mi P t ti)
include ht
theorem mi.size:(sizeOf t).run P w=.ok ti.size w:=by obtain⟨info,d,z,h1,h2,h3,h4,h5,h6,h7,h8⟩:=ht.ex;simp[sizeOf,typeInfo,h1,h3]
theorem mi.agg:(isAgg t).run P w=.ok ti.agg w:=by obtain⟨info,d,z,h1,h2,h3,h4,h5,h6,h7,h8⟩:=ht.ex;rw[<- h7];cases d<;>simp[isAgg,run_underlying h2,tm]
theorem mi.zeroV:∃z,(zeroValue t).run P w=.ok z w/\z.cells.toList=ti.zero:=by obtain⟨info,d,z,h1,h2,h3,h4,h5,h6,h7,h8⟩:=ht.ex;exact⟨z,by simp[zeroValue,typeInfo,h1,h5],h6⟩
end types
theorem addr_add(b o n:Nat):(⟨b,o,none⟩:Addr).add n=⟨b,o+n,none⟩:=by unfold Addr.add;split<;>simp_all
theorem Jg{t:V}{ti:pD}(ht:mi P t ti){b o:Nat}{cs:U AV}{v:AV}{vs:U Value}(hp:part' ti.agg ti.size cs=some v)(hr:bp P G w I cs vs)
 (hc:∀j u,vs[j]? =some u->w.cell? ⟨b,o+j,none⟩=some u):∃u,(loadVar t ⟨b,o,none⟩).run P w=.ok u w/\VR P G w I v u:=by
 have⟨h1,h2,h3,h4⟩:=Na hp hr;simp[loadVar,ht.agg (w:=w)];cases hag:ti.agg with
 |true=>
  refine⟨.agg vs.toArray,?_,h3 hag⟩;simp[ht.size (w:=w)];rw[<- h2,run_loadCells_list w ⟨b,o,none⟩ vs (λ j u hj=>by rw[addr_add];exact hc j u hj)];simp
 |false=>
  obtain⟨u,rfl,hu⟩:=h4 hag;refine⟨u,?_,hu⟩;have:=hc 0 u rfl;simp at this;simp[this]
theorem Uw(hT:fQ P T)(h:Mem P w0 O0 G I obj w){t:V}{x:AV}{cL:kh}{get:E}{aa:Out}{v:Value}(hg:∀k o,get k=some o->obj k=some o)
 (ha:MC T t x cL get=some aa) (cX:aa.ob) (hx:VR P G w I x v):∃u,(Instr.loadAt t v).run P w=.ok u w/\VR P G w I aa.v u/\aa.upd=[]:=by
 unfold MC at ha;cases hti:T t with
 |none=>simp[hti]at ha
 |some ti=>
  have ht:=hT t ti hti;simp only[hti,ai]at ha;cases x<;>simp only[reduceCtorEq]at ha
  case ptr k row ab=>
   cases hk:get k with
   |none=>simp[hk]at ha
   |some o=>
    simp[hk]at ha;have key:∀r,o.rows[row]? =some r->∀u,part' ti.agg ti.size ((r.drop ab).take ti.size)=some u->∃z,(Instr.loadAt t v).run P w=.ok z w/\VR P G w I u z:=(by intro r hr u hp;simp[VR]at hx;obtain⟨b,sz,n,h1,rfl⟩:=hx;have⟨B,hB,hO⟩:=h.c8 k o (hg k o hk);rw[h1]at hB;cases hB;obtain⟨hs,c,e,hc,_,hO⟩:=hO;have h4:=(cj.get row _ _ _ _ _ hO hr).2;obtain⟨vs,g1,g2,g3⟩:=df.list _ _ _ (df.take ti.size _ _ _ (df.drop ab _ _ _ h4));obtain⟨z,hz,hz2⟩:=Jg ht (b:=b) (o:=n.s+row*sz+ab) hp g1 (λ j u hj=>by simp[World.cell?,hc,g3 j u hj]);exact⟨z,by simp[Instr.loadAt,Instr.sureAddr,hz],hz2⟩);have fin:∀r ob,o.rows[row]? =some r->((part' ti.agg ti.size ((r.drop ab).take ti.size)).bind λv=>some (⟨v,[],ob⟩:Out))=some aa->∃u,(Instr.loadAt t v).run P w=.ok u w/\VR P G w I aa.v u/\aa.upd=[]:=by
     intro r ob hr hh;cases hp:part' ti.agg ti.size ((r.drop ab).take ti.size)with
     |none=>simp[hp]at hh
     |some u=>
      simp[hp]at hh;subst hh;have⟨z,hz⟩:=key r hr u hp;exact⟨z,hz.1,hz.2,rfl⟩
    cases cL
    case row r=>
     have hr:o.rows[row]? =some r:=by
      cases hp:part' ti.agg ti.size ((r.drop ab).take ti.size)with
      |none=>simp[hp]at ha
      |some u=>simp[hp,m4]at ha;subst ha;exact cX
     exact fin r _ hr ha
    all_goals
     cases hr:o.rows[row]? with
     |none=>simp[hr]at ha
     |some r=>
      simp[hr]at ha;exact fin r _ hr ha
  case eV r ab=>
   cases hp:part' ti.agg ti.size (((r.drop ab).take ti.size).map AV.t)with
   |none=>rw[hp]at ha;simp at ha
   |some u=>
    simp only[hp,ai,pv,bX]at ha;subst ha;simp[VR]at hx;obtain⟨b,o,rfl,hI,hr⟩:=hx;have hdrop:∀(n:Nat) (r:U Tree) (o:Nat),eC w I r b o->eC w I (r.drop n) b (o+n):=by
     intro n
     induction n with
     |zero=>intro r o h;simpa using h
     |succ n ih=>intro r o h;cases r with
      |nil=>simp[eC]
      |cons x xs=>simp[eC]at h;rw[List.drop_succ_cons,show o+(n+1)=o+1+n by omega];exact ih xs (o+1) h.2
    have htake:∀(n:Nat) (r:U Tree) (o:Nat),eC w I r b o->eC w I (r.take n) b o:=by
     intro n
     induction n with
     |zero=>intro r o h;simp[eC]
     |succ n ih=>intro r o h;cases r with
      |nil=>simp[eC]
      |cons x xs=>simp[eC]at h;simp;exact⟨h.1,ih xs (o+1) h.2⟩
    obtain⟨vs,g1,g3⟩:=eC.list (P:=P) (G:=G) _ _ _ (htake ti.size _ _ (hdrop ab r o hr));have⟨z,hz,hz2⟩:=Jg ht (b:=b) (o:=o+ab) hp g1 g3;exact⟨z,by simp[Instr.loadAt,Instr.sureAddr,hz],hz2,rfl⟩
theorem afn(r:U AV)(ab:Nat)(cs:U AV)(h:ab+cs.length<=r.length):(put' r ab cs).length=r.length:=by simp[put'];omega
theorem am7(r:U AV)(ab:Nat)(cs:U AV)(h:ab+cs.length<=r.length)(j:Nat):(put' r ab cs)[j]? =if j<ab then r[j]? else if j<ab+cs.length then cs[j-ab]? else r[j]? :=by
 unfold put'
 all_goals grind
theorem RD(h:Mem P w0 O0 G I obj w){t:V}{ti:pD}(ht:mi P t ti){k:Nat}{o:aR}{b sz:Nat}{n:Ex}(hk:obj k=some o)(hβ:G k=some (.at b sz n))
 {row ab:Nat} {r:U AV} {cs:U AV} {v:Value} (hr:o.rows[row]? =some r) (hl:ab+cs.length<=r.length) (hlen:cs.length=ti.size) (hcs:bp P G w I cs v.cells.toList) (h1:∀u∈v.cells.toList,oneCell u):
 ∃w',(storeVar t ⟨b,n.s+row*sz+ab,none⟩ v).run P w=.ok () w'/\Same I w w'/\Mem P w0 O0 G I (dw obj [(k,some ⟨o.sz,o.rows.set row (put' r ab cs)⟩)]) w':=by
 have⟨B,hB,hO⟩:=h.c8 k o hk;rw[hβ]at hB;cases hB;obtain⟨hs,c,e,hc,hn,hO⟩:=hO;have hO':=hO;rw[qg]at hO;have hrow:=hO row r hr;have hvl:=bp.length _ _ hcs;have hfit:n.s+row*sz+ab+cs.length<=c.size:=by
  by_cases h0:r.length=0;have:ab+cs.length=0:=by omega
  have hz:sz=0:=by omega
  have:row*sz=0:=by rw[hz];simp
  have:=n.h;omega;have hlast:=(j4 _ _ _).1 hrow.2 (r.length-1) _ (dY (by omega));obtain⟨u,hu,_⟩:=hlast;have:=(Array.getElem?_eq_some_iff.1 hu).1;omega
 have hst:=run_storeCells_at P b (n.s+row*sz+ab) e v.cells.toList 0 c w hc (by omega) (λ u hu=>by have:=h1 u hu;cases u<;>first|rfl|exact this.elim);simp only[Nat.add_zero]at hst;generalize hc':(List.take (n.s+row*sz+ab) c.toList++v.cells.toList++List.drop (n.s+row*sz+ab+v.cells.toList.length) c.toList).toArray=c' at hst;have hsize:c'.size=c.size:=by rw[<- hc'];simp;simp at hvl;omega
 refine⟨w.setRow b c',?_,?_⟩;unfold storeVar;simp only[Sem.run_bind,ht.size (w:=w),Result.andThen_ok];rw[aC (by rw[<- Array.length_toList];omega)];simp[hst];have hget:∀j,c'[j]? =if j<n.s+row*sz+ab then c[j]? else if j<n.s+row*sz+ab+cs.length then v.cells.toList[j-(n.s+row*sz+ab)]? else c[j]? :=by
  intro j;rw[<- hc'];have h1:(c.toList.take (n.s+row*sz+ab)).length=n.s+row*sz+ab:=by simp;omega
  simp only[List.getElem?_toArray];split;rw[aP,List.getElem?_append_left (by omega),List.getElem?_take,aM (by omega)];simp;split;rw[aP,jf (by omega),h1,List.getElem?_append_left (by omega)];rw[jf (by simp only[bW,h1];omega)];simp only[bW,h1,List.getElem?_drop,Array.getElem?_toList];congr 1;omega
 refine Mem.write h hk hβ (c':=c') (e:=e) (setRow_heap w b c c' e (0,0) hc) (λ b' hb=>setRow_other w b b' c' hb) (by simp) rfl rfl rfl hs (by omega) ?_;rw[<- hs,qg];simp;intro i' r' hi';rw[List.getElem?_set]at hi';have other:∀(i':Nat)(r':U AV),i'≠row->o.rows[i']? =some r'->r'.length=sz/\df P G w I r' c' (n.s+i'*sz):=by
  intro i' r' hne hi';have hh:=hO i' r' hi';refine⟨hh.1,?_⟩;rw[j4];intro j x hx;obtain⟨u,hu⟩:=(j4 _ _ _).1 hh.2 j x hx;have hj:j<sz:=by have:=(dO.1 hx).1;omega
  refine⟨u,?_,hu.2⟩;rw[hget];rcases Nat.lt_or_gt_of_ne hne with hlt|hgt;have:(i'+1)*sz<=row*sz:=Nat.mul_le_mul_right _ hlt;rw[Nat.add_mul]at this;rw[aM (by omega)];exact hu.1;have:(row+1)*sz<=i'*sz:=Nat.mul_le_mul_right _ hgt;rw[Nat.add_mul]at this;rw[aC (by omega),aC (by omega)];exact hu.1
 split at hi';rename_i hrow';subst hrow';split at hi';injection hi' with hi';subst hi';refine⟨by rw[afn r ab cs hl];exact hrow.1,?_⟩;rw[j4];intro j x hx;rw[am7 r ab cs hl]at hx;rw[hget];split at hx;rw[aM (by omega)];exact(j4 _ _ _).1 hrow.2 j x hx;split at hx;obtain⟨u,hu,hr2⟩:=bp.get _ _ _ _ hcs hx;rw[aC (by omega),aM (by omega)];refine⟨u,?_,hr2,h1 u (dM hu)⟩;rw[<- hu];congr 1;omega;rw[aC (by omega),aC (by omega)];exact(j4 _ _ _).1 hrow.2 j x hx;cases hi';exact other i' r' (by omega) hi'
theorem adB(hT:fQ P T)(h:Mem P w0 O0 G I obj w){t:V}{x y:AV}{cL:kh}{get:E}{aa:Out}{v u:Value}(hg:∀k o,get k=some o->obj k=some o)
 (ha:Xt T t x y cL get=some aa) (cX:aa.ob) (hx:VR P G w I x v) (hy:VR P G w I y u):
 ∃w',(Instr.storeAt t v u).run P w=.ok () w'/\Same I w w'/\Mem P w0 O0 G I (dw obj aa.upd) w'/\aa.v=.undef:=by
 unfold Xt at ha;cases hti:T t with
 |none=>simp[hti]at ha
 |some ti=>
  have ht:=hT t ti hti;simp[hti]at ha;cases hcs:cellsOf y with
  |none=>simp[hcs]at ha
  |some cs=>
   simp only[hcs,ai]at ha;have⟨hv1,hv2⟩:=Cz hcs hy;split at ha;rename_i hlen;cases x<;>simp at ha
   case ptr k row ab=>
    cases hk:get k with
    |none=>simp[hk]at ha
    |some o=>
     simp[hk]at ha;simp[VR]at hx;obtain⟨b,sz,n,hβ,rfl⟩:=hx;have fin:∀r,o.rows[row]? =some r->ab+cs.length<=r.length->∃w',(Instr.storeAt t (.pointer (some ⟨b,n.s+row*sz+ab,none⟩)) u).run P w=.ok () w'/\Same I w w'/\Mem P w0 O0 G I (dw obj [(k,some ⟨o.sz,o.rows.set row (put' r ab cs)⟩)]) w':=(by intro r hr hl;have⟨w',h1,h2,h3⟩:=RD h ht (hg k o hk) hβ hr hl hlen hv1 hv2;exact⟨w',by simp[Instr.storeAt,Instr.sureAddr,h1],h2,h3⟩);cases cL
     case set r rs=>
      simp only at ha;split at ha;rename_i hl;cases ha;obtain⟨hr,hrs⟩:=cX;have⟨w',h1,h2,h3⟩:=fin r hr hl;subst hrs;exact⟨w',h1,h2,h3.yn,rfl⟩;cases ha
     all_goals
      cases hr:o.rows[row]? with
      |none=>simp[hr]at ha
      |some r=>
       simp only[hr,ai]at ha;split at ha;rename_i hl;cases ha;have⟨w',h1,h2,h3⟩:=fin r hr hl;exact⟨w',h1,h2,h3,rfl⟩;cases ha
   cases ha
end
section
variable {P:Program} {T:eS} {w0:World} {O0:k5} {G:Nat->Option cW} {I:Nat->Prop} {obj:Nat->Option aR} {w:World} {i:Nat}
theorem OI(h:Mem P w0 O0 G I obj w)(hn:G (cE i)=none){e:V}{v:Value}{cs:U AV}(hcs:bp P G w I cs v.cells.toList)(h1:∀u∈v.cells.toList,oneCell u):
 ∃w' β',(newVar e v).run P w=.ok ⟨w.heap.size,0,none⟩ w'/\Step G I w (cE i) β' I w'/\Mem P w0 O0 β' I (dw obj [(cE i,some ⟨cs.length,[cs]⟩)]) w'/\VR P β' w' I (.ptr (cE i) 0 0) (.pointer (some ⟨w.heap.size,0,none⟩)):=by obtain⟨hS,hM⟩:=Mem.alloc (o:=⟨cs.length,[cs]⟩) (c:=v.cells) (e:=e) h hn (by simp[cj];exact df.oB cs _ _ 0 hcs h1 (λ j u hj=>by simpa using hj));refine⟨_,_,?_,hS,hM,?_⟩;simp only[newVar,newRow,Sem.run_bind,run_newObj,Result.andThen_ok,Sem.run_pure];rfl;simp;exact⟨w.heap.size,cs.length,_,by simp[ins];rfl,by simp⟩
theorem adC(hT:fQ P T)(h:Mem P w0 O0 G I obj w)(hn:G (cE i)=none){e:V}{aa:Out}(ha:Xw T i e=some aa):
 ∃u w' β',(Instr.alloc e true (.tuple #[])).run P w=.ok u w'/\Step G I w (cE i) β' I w'/\Mem P w0 O0 β' I (dw obj aa.upd) w'/\VR P β' w' I aa.v u:=by
 unfold Xw at ha;cases hti:T e with
 |none=>simp[hti]at ha
 |some ti=>
  have ht:=hT e ti hti;simp[hti]at ha;subst ha;have⟨z,hz,hz2⟩:=ht.zeroV (w:=w);obtain⟨w',β',h1,h2,h3,h4⟩:=OI (i:=i) (e:=e) (v:=z) (cs:=ti.zero.map cv) h hn (by rw[hz2];exact bp.cv _) (λ u hu=>uO (all_eq_true.1 ht.one u (hz2 ▸ hu)));have hl:(ti.zero.map cv).length=ti.size:=by simp[ht.len]
  rw[hl]at h3;exact⟨_,w',β',by simp[Instr.alloc,hz,h1],h2,h3,h4⟩
theorem ail(h:Mem P w0 O0 G I obj w)(hn:G (cE i)=none){e:V}{x:AV}{v:Value}{aa:Out}(ha:M1 i x=some aa)(hx:VR P G w I x v):
 ∃u w' β',(Instr.box e v).run P w=.ok u w'/\Step G I w (cE i) β' I w'/\Mem P w0 O0 β' I (dw obj aa.upd) w'/\VR P β' w' I aa.v u:=by
 unfold M1 at ha;cases hcs:cellsOf x with
 |none=>simp[hcs]at ha
 |some cs=>
  simp[hcs]at ha;subst ha;have⟨hv1,hv2⟩:=Cz hcs hx;have⟨w',β',h1,h2,h3,h4⟩:=OI (i:=i) (e:=e) h hn hv1 hv2;exact⟨_,w',β',by simp[Instr.box,h1],h2,h3,h4⟩
theorem afo(hT:fQ P T){t:V}{f ab:Nat}{ui:pD}(hf:BF T t f=some (ab,ui)):
 ∃(fa:Array Field)(fd:Field),P.underlying t=some (.struct fa)/\fa[f]? =some fd/\fd.offset=ab/\mi P fd.type ui/\ui.size≠0:=by
 unfold BF at hf;cases hti:T t with
 |none=>simp[hti]at hf
 |some ti=>
  have ht:=hT t ti hti;simp[hti]at hf;cases hk:ti.k<;>simp[hk]at hf
  case struct fs=>
   cases hj:fs[f]? with
   |none=>simp[hj]at hf
   |some p=>
    obtain⟨o,u⟩:=p;simp[hj]at hf;cases hu:T u with
    |none=>simp[hu]at hf
    |some ui'=>
     simp only[hu,ai]at hf;split at hf;cases hf;rename_i hne;obtain⟨rfl,rfl⟩:=hf;obtain⟨info,d,z,h1,h2,h3,h4,h5,h6,h7,h8⟩:=ht.ex;rw[hk]at h8;obtain⟨fa,rfl,hfs⟩:=h8;rw[<- hfs]at hj;simp at hj;obtain⟨fd,g1,g2,g3⟩:=hj;exact⟨fa,fd,h2,g1,g2,g3 ▸ hT u _ hu,hne⟩
theorem RF(hT:fQ P T){t:V}{x:AV}{f:Nat}{v:Value}{aa:Out}(ha:zU T t x f=some aa)(hx:VR P G w I x v):
 ∃u,(Instr.fieldAt t v f).run P w=.ok u w/\VR P G w I aa.v u/\aa.upd=[]:=by
 unfold zU at ha;cases hf:BF T t f with
 |none=>simp[hf]at ha
 |some p=>
  obtain⟨d,ui⟩:=p;simp[hf]at ha;have⟨fa,fd,h1,h2,h3,h4,h5⟩:=afo hT hf;have hrun:∀b o,(Instr.fieldAt t (.pointer (some ⟨b,o,none⟩)) f).run P w=.ok (.pointer (some ⟨b,o+d,none⟩)) w:=λb o=>by simp[Instr.fieldAt,run_underlying h1,h2,Instr.sureAddr,fieldPlace,h4.size (w:=w),h5,addr_add]
  cases x<;>simp at ha
  case ptr k row ab=>
   simp[pv]at ha;subst ha;simp only[VR]at hx |-;obtain⟨b,sz,n,g1,rfl⟩:=hx;exact⟨_,hrun _ _,⟨b,sz,n,g1,by rw[Nat.add_assoc]⟩,trivial⟩
  grind [pv,VR]
theorem afp{t:V}{ti:pD}(ht:mi P t ti){cs:U AV}{vs:U Value}{d:Nat}{v:AV}(hp:part' ti.agg ti.size ((cs.drop d).take ti.size)=some v)(hr:bp P G w I cs vs):
 ∃u,(part t vs.toArray d).run P w=.ok u w/\VR P G w I v u:=by
 obtain⟨h1,h2,h3,h4⟩:=Na hp (bp.take ti.size _ _ (bp.drop d _ _ hr));simp only[Go.part,Sem.run_bind,ht.agg (w:=w),Result.andThen_ok];cases hag:ti.agg with
 |true=>
  refine⟨.agg ((vs.drop d).take ti.size).toArray,?_,h3 hag⟩;simp only[if_true,Sem.run_bind,ht.size (w:=w),Result.andThen_ok,Sem.run_pure];congr 2;apply Array.ext';simp
 |false=>
  have⟨u,hu,hv⟩:=h4 hag;refine⟨u,?_,hv⟩;have:vs[d]? =some u:=by have h5:((vs.drop d).take ti.size)[0]? =some u:=(by rw[hu];rfl);rw[List.getElem?_take]at h5;split at h5;simpa using h5;cases h5
  simp[this]
theorem adD(hT:fQ P T){t:V}{x:AV}{f:Nat}{v:Value}{aa:Out}(ha:Xu T t x f=some aa)(hx:VR P G w I x v):
 ∃u,(Instr.field t v f).run P w=.ok u w/\VR P G w I aa.v u/\aa.upd=[]:=by
 unfold Xu at ha;cases hf:BF T t f with
 |none=>simp[hf]at ha
 |some p=>
  obtain⟨d,ui⟩:=p;simp[hf]at ha;have⟨fa,fd,h1,h2,h3,h4,h5⟩:=afo hT hf;cases x<;>simp at ha
  case agg cs=>
   cases hp:part' ui.agg ui.size ((cs.drop d).take ui.size)with
   |none=>simp[hp]at ha
   |some y=>
    simp[hp,pv]at ha;subst ha;obtain⟨vs,rfl,hvs⟩:=hx;have⟨u,hu,hv⟩:=afp h4 hp hvs;refine⟨u,?_,hv,rfl⟩;simp[Instr.field,run_underlying h1,h2,h3,asAgg];simpa using hu
theorem cN.get{b sz:Nat}:∀(n:Nat)(rows:U (List Tree))(ab:Nat)(r:U Tree),cN w I rows b ab sz->rows[n]? =some r->r.length=sz/\eC w I r b (ab+n*sz)
 | 0,r::rs,ab,r',h,hn=>by simp[cN]at h;simp at hn;subst hn;exact⟨h.1,by simpa using h.2.1⟩
 |n+1,r::rs,ab,r',h,hn=>by have:=cN.get n rs (ab+sz) r' h.2.2 (by simpa using hn);rw[show ab+(n+1)*sz=ab+sz+n*sz by rw[Nat.add_mul];omega];exact this
 |_,[],_,_,_,hn=>by simp at hn
theorem iT{t e:V}{ti:pD}(ht:mi P t ti)(hk:ti.k=.slice e):P.underlying t=some (.slice e):=by obtain⟨info,d,z,h1,h2,h3,h4,h5,h6,h7,h8⟩:=ht.ex;rw[hk]at h8;rw[h2,h8]
theorem XA{t e:V}{n:Nat}{ti:pD}(ht:mi P t ti)(hk:ti.k=.arr n e):P.underlying t=some (.array n e):=by obtain⟨info,d,z,h1,h2,h3,h4,h5,h6,h7,h8⟩:=ht.ex;rw[hk]at h8;rw[h2,h8]
theorem RG(hT:fQ P T)(h:Mem P w0 O0 G I obj w){t:V}{x j:AV}{cL:kh}{get:E}{v u:Value}{aa:Out}(hg:∀k o,get k=some o->obj k=some o)
 (ha:nK T t x j cL get=some aa) (cX:aa.ob) (hx:VR P G w I x v) (hj:VR P G w I j u):
 ∃z,(Instr.indexAt t v u).run P w=.ok z w/\VR P G w I aa.v z/\aa.upd=[]:=by
 unfold nK at ha;cases hti:T t with
 |none=>simp[hti]at ha
 |some ti=>
  have ht:=hT t ti hti;simp[hti]at ha;split at ha;rename_i e kd n hk;simp[VR]at hj;obtain⟨rfl,_⟩:=hj;have fy:=iT ht hk;cases ie:T e with
  |none=>simp[ie]at ha
  |some ei=>
   have he:=hT e ei ie;simp[ie]at ha;have hrun:∀(b o len cap:Nat),0<=n->n.toNat<len->(Instr.indexAt t (.slice (some ⟨b,o,none⟩) len cap) (.int kd n)).run P w=.ok (.pointer (some ⟨b,o+n.toNat*ei.size,none⟩)) w:=(by intro b o len cap h0 h1;have h2:n<(len:Int):=(by omega);simp[Instr.indexAt,asIntOf,run_underlying fy,h0,h2,he.size (w:=w),addr_add]);split at ha;rename_i rows r;split at ha;rename_i hlen;simp[m4]at ha;subst ha;obtain⟨h0,hr⟩:=cX;simp only[VR,TR]at hx;rcases hx with ⟨rfl,_⟩|⟨b,ab,cap,sz,rfl,h1,h2,h3⟩;simp at hr;have hlt:=(dO.1 hr).1;obtain⟨g1,g2⟩:=cN.get _ _ _ _ h3 hr;refine⟨_,hrun _ _ _ _ h0 hlt,?_,rfl⟩;simp only[VR];exact⟨b,ab+n.toNat*sz,by rw[<- g1,hlen];rfl,h2,g2⟩;cases ha;rename_i k ab len;cases hk2:get k with
   |none=>simp[hk2]at ha
   |some o=>
    simp only[hk2,ai]at ha;split at ha;rename_i hsz;simp[m4]at ha;subst ha;obtain⟨h0,hlt⟩:=cX;simp only[VR]at hx |-;rcases hx with ⟨_,_,_,rfl⟩|⟨b,sz,m,cap,a,h1,rfl,h2,h3,h4⟩;omega;have⟨B,hB,hO⟩:=h.c8 k o (hg k o hk2);rw[h1]at hB;cases hB;have hs:sz=o.sz:=hO.1;refine⟨_,hrun _ _ _ _ h0 hlt,⟨b,sz,m,h1,?_⟩,trivial⟩;rw[h4 (by omega),hs,hsz,Nat.add_mul,Nat.add_assoc];rfl;cases ha
   cases ha
  rename_i m e kd n hk;simp[VR,TR]at hj;obtain⟨rfl,_⟩:=hj;have fy:=XA ht hk;cases ie:T e with
  |none=>simp[ie]at ha
  |some ei=>
   have he:=hT e ei ie;simp[ie]at ha;have hrun:∀(b o:Nat),0<=n->n.toNat<m->(Instr.indexAt t (.pointer (some ⟨b,o,none⟩)) (.int kd n)).run P w=.ok (.pointer (some ⟨b,o+n.toNat*ei.size,none⟩)) w:=(by intro b o h0 h1;have h2:n<(m:Int):=(by omega);simp[Instr.indexAt,asIntOf,run_underlying fy,Instr.sureAddr,h0,h2,he.size (w:=w),addr_add]);cases x<;>simp[reduceCtorEq]at ha
   case ptr k row ab=>
    simp[m4]at ha;subst ha;simp only[VR]at hx |-;obtain⟨b,sz,q,g1,rfl⟩:=hx;exact⟨_,hrun _ _ cX.1 cX.2,⟨b,sz,q,g1,by rw[Nat.add_assoc]⟩,trivial⟩
   case eV r ab=>
    simp[m4]at ha;subst ha;simp only[VR]at hx |-;obtain⟨b,o,rfl,g1,g2⟩:=hx;exact⟨_,hrun _ _ cX.1 cX.2,⟨b,o,by rw[Nat.add_assoc],g1,g2⟩,trivial⟩
  cases ha
theorem XB{x:AV}{j:Nat}{v:Value}{aa:Out}(ha:Jf x j=some aa)(hx:VR P G w I x v):∃u,(Instr.extract v j).run P w=.ok u w/\VR P G w I aa.v u/\aa.upd=[]:=by
 unfold Jf at ha;split at ha;rename_i vs;obtain⟨us,rfl,AF⟩:=hx;cases hj:vs[j]? with
 |none=>simp[hj]at ha
 |some y=>
  simp[hj,pv]at ha;subst ha;obtain⟨u,hu,hv⟩:=bp.get _ _ j y AF hj;refine⟨u,?_,hv,rfl⟩;have:us[j]? =some u:=by simpa using hu
  simp[Instr.extract,this]
 cases ha
end
section
variable {P:Program} {T:eS} {w0:World} {O0:k5} {G:Nat->Option cW} {I:Nat->Prop} {obj:Nat->Option aR} {w:World} {i:Nat}
theorem adE{op:BinOp}{t:V}{k yk:IntKind}{a b:Int}{v:Value}{ob:U Prop}(hk:k=yk\/op=.shl\/op=.shr)(h:Xr op k a b=some (v,ob))(cX:jD ob):
 (binOp op t (.int k a) (.int yk b)).run P w=.ok v w/\oneCell v:=by
 cases op<;>simp[Xr]at h<;>obtain⟨rfl,rfl⟩:=h
 case shl=>exact⟨by rw[binOp_shl,shift_shl k yk a b cX.1 cX.2];simp,trivial⟩
 case shr=>exact⟨by rw[binOp_shr,shift_shr k yk a b cX.1 cX.2];simp,trivial⟩
 all_goals
  have hk':k=yk:=by rcases hk with h|h|h<;>first|exact h|cases h
  subst hk'
 case add=>exact⟨by simp[binOp_add,Op.intArith],trivial⟩
 case sub=>exact⟨by simp[binOp_sub,Op.intArith],trivial⟩
 case mul=>exact⟨by simp[binOp_mul,Op.intArith],trivial⟩
 case quo=>exact⟨by have h0:b≠0:=cX;rw[binOp_quo];simp[Op.intDiv,h0],trivial⟩
 case rem=>exact⟨by have h0:b≠0:=cX;rw[binOp_rem];simp[Op.intDiv,h0],trivial⟩
 case and=>exact⟨by rw[binOp_and,intBits_and];simp,trivial⟩
 case or=>exact⟨by rw[binOp_or,intBits_or];simp,trivial⟩
 case xor=>exact⟨by rw[binOp_xor,intBits_xor];simp,trivial⟩
 case andNot=>exact⟨by rw[binOp_andNot,intBits_andNot];simp,trivial⟩
 case eql=>exact⟨by rw[binOp_eql];simp,trivial⟩
 case neq=>exact⟨by rw[binOp_neq];simp,trivial⟩
 case lss=>exact⟨by rw[binOp_lss];simp,trivial⟩
 case leq=>exact⟨by rw[binOp_leq];simp,trivial⟩
 case gtr=>exact⟨by rw[binOp_gtr];simp,trivial⟩
 case geq=>exact⟨by rw[binOp_geq];simp,trivial⟩
theorem adF{f:Field}{kd:Nat}{x y:AV}{b:Bool}{u v:Value}(hf:Xq P f kd=true)(h:M9 kd x y=some b)(hx:VR P G w I x u)(hy:VR P G w I y v)(d:Nat):
 (Op.equalIn (d + 1) f.type u v).run P w = .ok b w /\ f.name ≠ "_" /\ (isAgg f.type).run P w = .ok false w := by
 unfold Xq at hf;simp at hf;obtain⟨hname,hf⟩:=hf;unfold M9 at h;split at h;split at h;rename_i hk;subst hk;cases h;obtain⟨rfl,_⟩:=hx;obtain⟨rfl,_⟩:=hy;split at hf<;>first|(rename_i hu;exact⟨run_equalIn_int w d _ _ _ _ _ hu,hname,by simp[isAgg,run_underlying hu]⟩)|(simp at hf)
 cases h;cases h;simp[VR]at hx hy;obtain⟨rfl,_⟩:=hx;obtain⟨rfl,_⟩:=hy;split at hf<;>first|(rename_i hu;exact⟨run_equalIn_bool w d _ _ _ hu,hname,by simp[isAgg,run_underlying hu]⟩)|(simp at hf)
 cases h;simp[VR]at hx hy;obtain⟨rfl,_⟩:=hx;obtain⟨rfl,_⟩:=hy;split at hf<;>first|(rename_i hu;exact⟨run_equalIn_string w d _ _ _ hu,hname,by simp[isAgg,run_underlying hu]⟩)|(simp at hf)
 cases h
theorem ME(d:Nat)(us vs:U Value):∀(fs:U Field)(ks:U Nat)(n:Nat)(xs ys:U AV)(b:Bool),i8 P n fs ks=true->uP ks xs ys=some b->
 bp P G w I xs (us.drop n)->bp P G w I ys (vs.drop n)->(Op.eqFields (d+1) us.toArray vs.toArray fs).run P w=.ok b w
 |[],[],n,xs,ys,b,_,h,_,_=>by cases xs<;>cases ys<;>simp[uP]at h;subst h;simp[Op.eqFields]
 |f::fs,k::ks,n,xs,ys,b,hc,h,hx,hy=>by
  cases xs<;>cases ys<;>simp[uP]at h;rename_i x xs y ys;simp[i8]at hc;obtain⟨⟨hoff,hcf⟩,hrest⟩:=hc;cases h1:M9 k x y with
  |none=>simp[h1]at h
  |some a=>
   cases h2:uP ks xs ys with
   |none=>simp[h2]at h
   |some c=>
    simp[h1,h2]at h;subst h;have AD:∀(us:U Value)(xs:U AV)(x:AV),bp P G w I (x::xs) (us.drop n)->∃u,us[n]? =some u/\VR P G w I x u/\bp P G w I xs (us.drop (n+1)):=(by intro us xs x hx;have hlt:n<us.length:=(by have:=bp.length _ _ hx;simp at this;omega);rw[List.drop_eq_getElem_cons hlt]at hx;simp[bp]at hx;exact⟨us[n],dY hlt,hx.1,hx.2⟩);obtain⟨u,hu,hxu,hxs⟩:=AD us xs x hx;obtain⟨v,hv,hyv,hys⟩:=AD vs ys y hy;have⟨e1,e2,e3⟩:=adF hcf h1 hxu hyv d;have ih:=ME d us vs fs ks (n+1) xs ys c hrest h2 hxs hys;have hp:∀(zs:U Value)(z:Value),zs[n]? =some z->(Go.part f.type zs.toArray f.offset).run P w=.ok z w:=(by intro zs z hz;simp[Go.part,e3,hoff,hz]);simp[Op.eqFields,e2,hp us u hu,hp vs v hv,e1,ih];cases a<;>simp
 |[],_::_,_,_,_,_,hc,_,_,_|_::_,[],_,_,_,_,hc,_,_,_=>by simp[i8]at hc
theorem aim(hT:fQ P T){op:BinOp}{t:V}{x y:AV}{xo yo:Operand}{u v:Value}{aa:Out}(ha:ye T op t x y=some aa)(cX:aa.ob)(hx:VR P G w I x u)(hy:VR P G w I y v):
 ∃z,(do eqGuard op t xo yo u v;binOp op t u v:Sem Value).run P w=.ok z w/\VR P G w I aa.v z/\aa.upd=[]:=by
 unfold ye at ha;split at ha;rename_i k a yk b;simp[VR]at hx hy;obtain⟨rfl,_⟩:=hx;obtain⟨rfl,_⟩:=hy;split at ha;rename_i hk;cases har:Xr op k a b with
 |none=>simp[har]at ha
 |some p=>
  obtain⟨z,ob⟩:=p;simp[har]at ha;subst ha;have⟨h1,h2⟩:=adE (P:=P) (w:=w) (t:=t) hk har cX;exact⟨z,by simp[eqGuard_at_int,h1],by simp only[VR,TR];exact⟨trivial,h2⟩,rfl⟩
 cases ha;rename_i a b;simp[VR]at hx hy;obtain⟨rfl,_⟩:=hx;obtain⟨rfl,_⟩:=hy;cases op<;>simp only[pv,m4,bX,reduceCtorEq]at ha<;>subst ha;have hs:¬((a.size+b.size:Nat):Int)>i64.max:=by
  have:a.size+b.size<=maxLen:=cX;have h2:i64.max=9223372036854775807:=by decide
  unfold maxLen at this;omega
 exact⟨.string (a++b),by simp only[eqGuard_at_string,binOp,Op.stringOp,aC hs];simp,by simp only[VR,TR];exact⟨trivial,trivial⟩,rfl⟩;exact⟨.bool (a.toList==b.toList),by simp[eqGuard_at_string,binOp,Op.stringOp],by simp only[VR,TR];exact⟨trivial,trivial⟩,rfl⟩;exact⟨.bool (!(a.toList==b.toList)),by simp[eqGuard_at_string,binOp,Op.stringOp],by simp only[VR,TR];exact⟨trivial,trivial⟩,rfl⟩;exact⟨.bool (Op.bytesLess a.toList b.toList),by simp[eqGuard_at_string,binOp,Op.stringOp],by simp only[VR,TR];exact⟨trivial,trivial⟩,rfl⟩;exact⟨.bool (!(Op.bytesLess a.toList b.toList || a.toList==b.toList)),by simp[eqGuard_at_string,binOp,Op.stringOp],by simp only[VR,TR];exact⟨trivial,trivial⟩,rfl⟩;rename_i a b;simp[VR]at hx hy;obtain⟨rfl,_⟩:=hx;obtain⟨rfl,_⟩:=hy;cases hti:T t with
 |none=>simp[hti]at ha
 |some ti=>
  have ht:=hT t ti hti;simp[hti]at ha;have fy:ti.k=.bool->P.underlying t=some .bool:=λhk=>by obtain⟨info,d,z,h1,h2,h3,h4,h5,h6,h7,h8⟩:=ht.ex;rw[hk]at h8;rw[h2,h8]
  split at ha;rename_i hk;simp[pv]at ha;subst ha;exact⟨.bool (a==b),by simp[eqGuard_at_bool,binOp,run_equal_bool w t a b (fy hk)],by simp only[VR,TR];exact⟨trivial,trivial⟩,rfl⟩;rename_i hk;simp[pv]at ha;subst ha;exact⟨.bool (!(a==b)),by simp[eqGuard_at_bool,binOp,run_equal_bool w t a b (fy hk)],by simp only[VR,TR];exact⟨trivial,trivial⟩,rfl⟩;cases ha
 rename_i xs ys;simp[VR]at hx hy;obtain⟨us,rfl,AF⟩:=hx;obtain⟨vs,rfl,hvs⟩:=hy;cases hti:T t with
 |none=>simp[hti]at ha
 |some ti=>
  have ht:=hT t ti hti;simp only[hti,ai]at ha;split at ha;cases ha;rename_i hne;rcases ht.cmp hne with ⟨fa,h1,h2,h3,h4⟩|⟨h9,_⟩
  rotate_left
  rw[h9,am5]at ha;simp at ha;cases hc:uP ti.cmp xs ys with
  |none=>simp[hc]at ha
  |some b=>
   simp[hc]at ha;have hfo:P.fieldsOf t=fa:=(by simp[Program.fieldsOf,h1]);have heq:(Op.equalIn 10000 t (.agg us) (.agg vs)).run P w=.ok b w:=(by rw[run_equalIn_struct w 9999 t us vs (by rw[hfo];exact h1) h2,hfo];have:=ME (P:=P) (w:=w) 9998 us.toList vs.toList fa.toList ti.cmp 0 xs ys b h4 hc (by simpa using AF) (by simpa using hvs);simpa using this);have hgd:∀op,(eqGuard op t xo yo (.agg us) (.agg vs)).run P w=.ok () w:=λop=>run_eqGuard_agg w op t xo yo us vs h3;cases op<;>simp[pv]at ha<;>subst ha;exact⟨.bool b,by simp[hgd,run_eql_struct,heq],by simp only[VR,TR];exact⟨trivial,trivial⟩,rfl⟩;exact⟨.bool (!b),by simp[hgd,run_neq_struct,heq],by simp only[VR,TR];exact⟨trivial,trivial⟩,rfl⟩
 cases ha
theorem alm{op:UnOp}{x:AV}{v:Value}{aa:Out}(ha:Sx op x=some aa)(hx:VR P G w I x v):∃z,(Op.unary op v).run P w=.ok z w/\VR P G w I aa.v z/\aa.upd=[]:=by unfold Sx at ha;split at ha;simp[pv]at ha;subst ha;obtain⟨rfl,_⟩:=hx;exact⟨_,by simp[Op.unary];rfl,by simp only[VR,TR];exact⟨trivial,trivial⟩,rfl⟩;simp only[pv,bX]at ha;subst ha;obtain⟨rfl,_⟩:=hx;exact⟨_,by simp only[Op.unary,Op.intArith];rfl,by simp only[VR,TR];exact⟨trivial,trivial⟩,rfl⟩;cases ha
theorem OJ(mx:Bool)(k:IntKind):∀(r:U AV)(vs:U Value)(a n:Int),FJ mx k a r=some n->bp P G w I r vs->
 (vs.foldlM (if mx then Builtin.max2 else Builtin.min2) (.int k a)).run P w=.ok (.int k n) w
 |[],[],a,n,h,_=>by simp[FJ]at h;subst h;simp
 |x::r,v::vs,a,n,h,hv=>by
  simp[bp]at hv;have hx:∃k' b,x=.t (.sc (.int k' b)):=by unfold FJ at h;split at h;cases ‹_::_=_›;rename_i heq;injection heq with h1 h2;exact⟨_,_,h1⟩;cases h
  obtain⟨k',b,rfl⟩:=hx;simp only[FJ]at h;split at h;rename_i hk;subst hk;obtain⟨⟨rfl,_⟩,hv⟩:=hv;have ih:=OJ mx k' r vs _ n h hv;cases mx;simp at ih |-;simp[Builtin.min2];rw[show (if b<a then b else a)=min a b by rw[Int.min_def];split<;>split<;>omega];exact ih;simp at ih |-;simp[Builtin.max2];rw[show (if b>a then b else a)=max a b by rw[Int.max_def];split<;>split<;>omega];exact ih;cases h
 |[],_::_,_,_,_,hv|_::_,[],_,_,_,hv=>by simp[bp]at hv
theorem ab4{mx:Bool}{args:U AV}{vs:Array Value}{d6:Array TypeId}{ty:V}{aa:Out}(ha:HR mx args=some aa)(hx:bp P G w I args vs.toList):
 ∃z,((if mx then Builtin.max_ else Builtin.min_) d6 ty vs).run P w=.ok z w/\VR P G w I aa.v z/\aa.upd=[]:=by
 unfold HR at ha;split at ha;rename_i k a r;cases hf:FJ mx k a r with
 |none=>simp[hf]at ha
 |some n=>
  simp[hf,pv]at ha;subst ha;cases hvs:vs.toList with
  |nil=>rw[hvs]at hx;simp[bp]at hx
  |cons v vs'=>
   rw[hvs]at hx;obtain⟨⟨rfl,_⟩,hr⟩:=hx;have:=OJ (P:=P) mx k r vs' a n hf hr;refine⟨.int k n,?_,by simp only[VR,TR];exact⟨trivial,trivial⟩,rfl⟩;cases mx;simpa[Builtin.min_,hvs]using this;simpa[Builtin.max_,hvs]using this
 cases ha
end
section
variable {P:Program} {T:eS} {w0:World} {O0:k5} {G:Nat->Option cW} {I:Nat->Prop} {obj:Nat->Option aR} {w:World} {i:Nat}
theorem ain(hT:fQ P T){t ty:V}{x:AV}{cL:kh}{v:Value}{aa:Out}(ha:BY T t x cL=some aa)(cX:aa.ob)(hx:VR P G w I x v):
 ∃z,(Builtin.len_ #[t] ty #[v]).run P w=.ok z w/\VR P G w I aa.v z/\aa.upd=[]:=by
 unfold BY at ha;cases hti:T t with
 |none=>simp[hti]at ha
 |some ti=>
  have ht:=hT t ti hti;simp[hti]at ha;have hsl:∀e b n c,ti.k=.slice e->(Builtin.len_ #[t] ty #[.slice b n c]).run P w=.ok (goInt n) w:=λe b n c hk=>by simp[Builtin.len_,run_underlying (iT ht hk)]
  split at ha;rename_i e rows n hk;simp[m4]at ha;subst ha;have cX:n=_:=cX;subst cX;simp only[VR,TR]at hx;rcases hx with ⟨rfl,_,_,rfl,_⟩|⟨b,ab,cap,sz,rfl,_⟩;exact⟨_,hsl _ _ _ _ hk,by simp only[VR,TR,goInt];exact⟨by simp,trivial⟩,rfl⟩;exact⟨_,hsl _ _ _ _ hk,by simp only[VR,TR,goInt];exact⟨trivial,trivial⟩,rfl⟩;rename_i e k ab len n hk;simp[m4]at ha;subst ha;have cX:n=_:=cX;subst cX;simp[VR]at hx;rcases hx with ⟨_,rfl,_,rfl⟩|⟨b,sz,m,cap,a,_,rfl,_⟩;exact⟨_,hsl _ _ _ _ hk,by simp only[VR,TR,goInt];exact⟨trivial,trivial⟩,rfl⟩;exact⟨_,hsl _ _ _ _ hk,by simp only[VR,TR,goInt];exact⟨trivial,trivial⟩,rfl⟩;rename_i e k ab len hk _;simp[pv]at ha;subst ha;simp[VR]at hx;rcases hx with ⟨_,rfl,_,rfl⟩|⟨b,sz,m,cap,a,_,rfl,_⟩;exact⟨_,hsl _ _ _ _ hk,by simp only[VR,TR,goInt];exact⟨trivial,trivial⟩,rfl⟩;exact⟨_,hsl _ _ _ _ hk,by simp only[VR,TR,goInt];exact⟨trivial,trivial⟩,rfl⟩;rename_i e k len hk;simp[pv]at ha;subst ha;simp[VR]at hx;rcases hx with ⟨rfl,rfl⟩|⟨_,b,sz,m,cap,a,_,rfl,_⟩;exact⟨_,hsl _ _ _ _ hk,by simp only[VR,TR,goInt];exact⟨trivial,trivial⟩,rfl⟩;exact⟨_,hsl _ _ _ _ hk,by simp only[VR,TR,goInt];exact⟨trivial,trivial⟩,rfl⟩;rename_i e hk;simp[pv]at ha;subst ha;simp[VR]at hx;subst hx;exact⟨_,hsl _ _ _ _ hk,by simp only[VR,TR,goInt];exact⟨by simp,trivial⟩,rfl⟩;rename_i s hk;simp[pv]at ha;subst ha;simp[VR]at hx;obtain⟨rfl,_⟩:=hx;have fy:P.underlying t=some .string:=by obtain⟨info,d,z,h1,h2,h3,h4,h5,h6,h7,h8⟩:=ht.ex;rw[hk]at h8;rw[h2,h8]
  exact⟨_,by simp[Builtin.len_,run_underlying fy];rfl,by simp only[VR,TR,goInt];exact⟨trivial,trivial⟩,rfl⟩;cases ha
theorem ab5(vs:U Value)(ab:Nat):∀(ps:U Value)(n:Nat)(cs:Array Value),ab+n+ps.length<=cs.size->
 (ps.zipIdx n).foldl (λ cs (c,j)=>cs.setIfInBounds (ab+j) c) cs=((cs.toList.take (ab+n))++ps++cs.toList.drop (ab+n+ps.length)).toArray
 |[],n,cs,_=>by simp
 |p::ps,n,cs,h=>by
  simp at h;rw[List.zipIdx_cons,List.foldl_cons,ab5 vs ab ps (n+1) _ (by simp;omega)];congr 1;rw[Array.toList_setIfInBounds];have h1:ab+n<cs.toList.length:=by simp;omega
  rw[show ab+(n+1)=ab+n+1 by omega,fU (by simpa using h1),List.take_set,List.set_eq_of_length_le (by simp;omega)];simp only[List.getElem_set_self,aP,eu,List.cons_append,fO];congr 3;rw[List.drop_set_of_lt (by omega)];congr 1;omega
theorem apg{cells cs:U AV}{us vs:U Value}{ab:Nat}(h1:bp P G w I cells us)(h2:bp P G w I cs vs):bp P G w I (put' cells ab cs) (us.take ab++vs++us.drop (ab+vs.length)):=by rw[bp.length _ _ h2];exact bp.append _ _ _ _ (bp.append _ _ _ _ (bp.take _ _ _ h1) h2) (bp.drop _ _ _ h1)
theorem BH{place pc:Nat->J (Nat×Nat)}(hpl:∀j p,place j=some p->pc j=some p):∀(parts:U (Nat×AV))(vs:U (Nat×Value))(cells:U AV)(us:Array Value)(aa:U AV),
 G6 place cells parts=some aa->bp P G w I cells us.toList->parts.map (·.1)=vs.map (·.1)->bp P G w I (parts.map (·.2)) (vs.map (·.2))->
 ∃zs,Instr.fill pc us vs=some zs/\bp P G w I aa zs.toList
 |[],[],cells,us,aa,h,hc,_,_=>by simp[G6]at h;subst h;exact⟨us,rfl,hc⟩
 |(j,x)::ag,(j',v)::vs,cells,us,aa,h,hc,hk,hv=>by
  simp at hk;obtain⟨rfl,hk⟩:=hk;simp at hv;simp[G6]at h;cases hp:place j with
  |none=>simp[hp]at h
  |some p=>
   obtain⟨ab,size⟩:=p;simp[hp]at h;cases hcs:cellsOf x with
   |none=>simp[hcs]at h
   |some cs=>
    simp only[hcs,ai]at h;split at h;have⟨g1,g2⟩:=Cz hcs hv.1;have hlen:=bp.length _ _ g1;have hlc:=bp.length _ _ hc;simp at hlen hlc;have hnew:=apg (ab:=ab) hc g1;have:=BH hpl ag vs _ (us.toList.take ab++v.cells.toList++us.toList.drop (ab+v.cells.toList.length)).toArray aa h (by simpa using hnew) hk hv.2;obtain⟨zs,hz,hz2⟩:=this;refine⟨zs,?_,hz2⟩;simp only[Instr.fill,hpl j _ hp];have hno:¬(v.cells.size≠size\/ab+v.cells.size>us.size):=(by omega);rw[aC (by simp only[Bool.or_eq_true,bF];exact hno)];have AI:=ab5 [] ab v.cells.toList 0 us (by simp;omega);simp only[Nat.add_zero]at AI;rw[<- hz,<- AI];congr 1;rw[<- Array.foldl_toList,Array.toList_zipIdx];cases h
 |[],_::_,_,_,_,_,_,hk,_|_::_,[],_,_,_,_,_,hk,_=>by simp at hk
theorem G7(hT:fQ P T):∀(fs:U Field),(∀ f∈fs,(T f.type).isSome=true)->
 ∃ps:U (Nat×Nat),(fs.mapM (λ f=>do pure (f.offset,<- sizeOf f.type):Field->Sem (Nat×Nat))).run P w=.ok ps w/\ps.map some=fs.map λf=>(T f.type).bind λui=>some (f.offset,ui.size)
 |[],_=>⟨[],by simp,rfl⟩
 |f::fs,h=>by obtain⟨ui,xt⟩:=Option.isSome_iff_exists.1 (h f (by simp));obtain⟨ps,h1,h2⟩:=G7 hT fs (λ g hg=>h g (by simp[hg]));refine⟨(f.offset,ui.size)::ps,?_,by simp[xt,h2]⟩;simp only[List.mapM_cons,Sem.run_bind,(hT _ _ xt).size (w:=w),Result.andThen_ok,Sem.run_pure,h1]
theorem adG(hT:fQ P T){t:V}{parts:U (Nat×AV)}{vs:Array (Nat×Value)}{aa:Out}(ha:Xv T t parts=some aa)
 (hk:parts.map (·.1)=vs.toList.map (·.1)) (hv:bp P G w I (parts.map (·.2)) (vs.toList.map (·.2))):∃z,(Instr.build t vs).run P w=.ok z w/\VR P G w I aa.v z/\aa.upd=[]:=by
 unfold Xv at ha;cases hti:T t with
 |none=>simp[hti]at ha
 |some ti=>
  have ht:=hT t ti hti;simp[hti]at ha;have⟨z,hz,hz2⟩:=ht.zeroV (w:=w);split at ha;rename_i fs hkd;split at ha;rename_i hall;generalize hpl:(λ (j:Nat)=>(fs[j]?).bind λ(p:Nat×TypeId)=>(T p.2).bind λui=>some (p.1,ui.size))=place at ha;cases hf:G6 place (ti.zero.map cv) parts with
  |none=>simp[hf]at ha
  |some cells=>
   simp[hf,pv]at ha;subst ha;obtain⟨info,d,z',h1,h2,h3,h4,h5,h6,h7,h8⟩:=ht.ex;rw[hkd]at h8;obtain⟨fa,rfl,hfa⟩:=h8;have Ks:∀f∈fa.toList,(T f.type).isSome=true:=λf hf=>(by have:=all_eq_true.1 hall (f.offset,f.type) (by rw[<- hfa];exact mem_map.2 ⟨f,hf,rfl⟩);simpa using this);have⟨ps,hp1,hp2⟩:=G7 (w:=w) hT fa.toList Ks;have hpl':∀j p,place j=some p->ps[j]? =some p:=by
    intro j p hj;rw[<- hpl]at hj;simp at hj;have e1:(ps.map some)[j]? =some (some p):=by
     rw[hp2,List.getElem?_map];rw[<- hfa]at hj
     grind
    simpa using e1
   obtain⟨zs,hz3,G4⟩:=BH (pc:=λj=>ps.toArray[j]?) (λ j p h=>by simpa using hpl' j p h) parts vs.toList _ z.cells cells hf (by rw[hz2];exact bp.cv _) hk hv;refine⟨.agg zs,?_,by simp only[VR];exact⟨zs,rfl,G4⟩,rfl⟩;have hm:(fa.mapM (λ f=>do pure (f.offset,<- sizeOf f.type):Field->Sem (Nat×Nat))).run P w=.ok ps.toArray w:=(by rw[Array.mapM_eq_mapM_toList,Sem.run_map,hp1];rfl);simp only[Instr.build,Sem.run_bind,hz,Result.andThen_ok,run_underlying h2,hm,hz3,Sem.run_pure]
  cases ha;rename_i n e hkd;cases ie:T e with
  |none=>simp[ie]at ha
  |some ei=>
   have he:=hT e ei ie;simp[ie]at ha;cases hf:G6 (λ j=>some (j*ei.size,ei.size)) (ti.zero.map cv) parts with
   |none=>simp[hf]at ha
   |some cells=>
    simp[hf,pv]at ha;subst ha;obtain⟨zs,hz3,G4⟩:=BH (pc:=λj=>some (j*ei.size,ei.size)) (λ j p h=>h) parts vs.toList _ z.cells cells hf (by rw[hz2];exact bp.cv _) hk hv;refine⟨.agg zs,?_,by simp only[VR];exact⟨zs,rfl,G4⟩,rfl⟩;simp[Instr.build,hz,run_underlying (XA ht hkd),he.size (w:=w),hz3]
  cases ha
end
section
variable {P:Program} {T:eS} {w0:World} {O0:k5} {G:Nat->Option cW} {I:Nat->Prop} {obj:Nat->Option aR} {w:World} {i:Nat}
theorem Mem.yr{i k:Nat}{o o1:aR}{B C:cW}(h:Mem P w0 O0 G I obj w)(hn:G i=none)(hk:obj k=some o)(hβ:G k=some B)(hC:C.num=B.num)(hO:OR P G w I o1 C):
 Step G I w i (ins G i C) I w/\Mem P w0 O0 (ins G i C) I (dw obj [(i,some o1),(k,none)]) w:=by
 have hS:Step G I w i (ins G i C) I w:=⟨λ j hj=>by simp[ins,jt.ne hj],oZ hn,λ_ _=>rfl,λ_ h=>h⟩;have look:∀j o',dw obj [(i,some o1),(k,none)] j=some o'->(j=i/\o'=o1)\/(j≠i/\j≠k/\obj j=some o'):=by intro j o' hj;simp[dw]at hj;split at hj;injection hj with hj;exact .inl ⟨‹_›,hj.symm⟩;split at hj;cases hj;exact .inr ⟨‹_›,‹_›,hj⟩
 refine⟨hS,?_⟩;constructor;intro j o' hj;rcases look j o' hj with ⟨rfl,rfl⟩|⟨h1,h2,h3⟩;exact⟨C,by simp[ins],OR.mono hS.ext hS.same hS.inc (λ _ _=>rfl) hO⟩;have⟨B',hB',hO⟩:=h.c8 j o' h3;exact⟨B',oZ hn _ _ hB',OR.mono hS.ext hS.same hS.inc (λ _ _=>rfl) hO⟩;intro j j' o1 o2 B1 B2 b h1 h2 h3 h4 h5 h6;rcases look j o1 h1 with ⟨rfl,rfl⟩|⟨a1,a2,a3⟩<;>rcases look j' o2 h2 with ⟨rfl,rfl⟩|⟨c1,c2,c3⟩;rfl;simp[ins]at h3;simp[ins,c1]at h4;subst h3;exact absurd (h.ir k j' _ _ B B2 b hk c3 hβ h4 (hC ▸ h5) h6) (λ e=>c2 e.symm);simp[ins]at h4;simp[ins,a1]at h3;subst h4;exact absurd (h.ir j k _ _ B1 B b a3 hk h3 hβ h5 (hC ▸ h6)) (λ e=>a2 e);simp[ins,a1,c1]at h3 h4;exact h.ir j j' o1 o2 B1 B2 b a3 c3 h3 h4 h5 h6;intro j o' B1 b h1 h2 h3;rcases look j o' h1 with ⟨rfl,rfl⟩|⟨a1,a2,a3⟩;simp[ins]at h2;subst h2;exact h.ownB k _ B b hk hβ (hC ▸ h3);simp[ins,a1]at h2;exact h.ownB j o' B1 b a3 h2 h3;exact h.lt;exact h.up;exact h.keep;exact h.le;exact h.os;exact h.tape;exact h.output;intro j C hj;exact oZ hn _ _ (h.anch j C hj);exact h.vars
theorem MF:∀(rows:U (List AV))(c:Array Value)(ab sz:Nat)(l:U Value),(∀ r∈rows,r.length=sz/\r.all qK=true)->bp P G w I rows.flatten l->(∀ j u,l[j]? =some u->c[ab+j]? =some u)->cj P G w I rows c ab sz
 |[],_,_,_,_,_,_,_=>by simp[cj]
 |r::rs,c,ab,sz,l,hr,hl,hc=>by
  obtain⟨h1,h2⟩:=hr r (by simp);simp at hl;have ht:=bp.take sz _ _ hl;have hd:=bp.drop sz _ _ hl;rw[List.take_append_of_le_length (by omega),take_of_length_le (by omega)]at ht;rw[List.drop_append_of_le_length (by omega),List.drop_of_length_le (by omega),fO]at hd;simp[cj];refine⟨h1,df.oB r _ c ab ht (λ u hu=>?_) (λ j u hj=>?_),MF rs c (ab+sz) sz _ (λ r' hr'=>hr r' (by simp[hr'])) hd (λ j u hj=>?_)⟩;obtain⟨j,hj⟩:=List.getElem?_of_mem hu;have hlen:=bp.length _ _ ht;have hjl:j<r.length:=by have:=(dO.1 hj).1;omega
  obtain⟨u',hu',hv⟩:=bp.get _ _ j _ ht (dY hjl);rw[hj]at hu';injection hu' with hu';subst hu';exact VR.one (all_eq_true.1 h2 _ (List.getElem_mem hjl)) hv
  all_goals grind
theorem aio{x:AV}{cs:U AV}(h:cellsOf x=some cs):cs.all qK=true:=by
 cases x<;>simp only[cellsOf,bX,reduceCtorEq]at h
 case agg=>split at h<;>first|(cases h;assumption)|cases h
 all_goals subst h;simp[qK]
theorem XC(size:Nat):∀(parts:U (Nat×AV))(rows aa:U (List AV)),OH size rows parts=some aa->(∀ r∈rows,r.length=size/\r.all qK=true)->
 G6 (λ j=>some (j*size,size)) rows.flatten parts=some aa.flatten/\(∀ r∈aa,r.length=size/\r.all qK=true)/\aa.length=rows.length
 |[],rows,aa,h,hr=>by simp[OH]at h;subst h;exact⟨rfl,hr,rfl⟩
 |(j,x)::ag,rows,aa,h,hr=>by
  simp[OH]at h;cases hcs:cellsOf x with
  |none=>simp[hcs]at h
  |some cs=>
   simp only[hcs,ai]at h;split at h;rename_i hl;obtain⟨h1,h2,h3⟩:=XC size ag (rows.set j cs) aa h (λ r hr'=>by rcases List.mem_or_eq_of_mem_set hr' with h4|h4;exact hr r h4;rw[h4];exact⟨hl.1,aio hcs⟩);refine⟨?_,h2,by simpa using h3⟩;have JT:∀(n:Nat) (rows:U (List AV)),(∀ r∈rows,r.length=size)->n<rows.length->(rows.set n cs).flatten=put' rows.flatten (n*size) cs/\n*size+cs.length<=rows.flatten.length:=by
    intro n
    induction n with
    |zero=>
     intro rows hr hn;cases rows with
     |nil=>simp at hn
     |cons r rs=>
      have:=hr r (by simp);simp[put'];refine⟨?_,by omega⟩;rw[hl.1,List.drop_append_of_le_length (by omega),List.drop_of_length_le (by omega),fO]
    |succ n ih=>
     intro rows hr hn;cases rows with
     |nil=>simp at hn
     |cons r rs=>
      have hrl:=hr r (by simp);obtain⟨g1,g2⟩:=ih rs (λ r' h'=>hr r' (by simp[h'])) (by simpa using hn);have e1:(n+1)*size=r.length+n*size:=(by rw[Nat.add_mul];omega);simp only[List.set_cons_succ,List.flatten_cons,g1,put',e1,bW];refine⟨?_,by omega⟩;rw[List.take_length_add_append,show r.length+n*size+cs.length=r.length+(n*size+cs.length)by omega,List.drop_length_add_append];simp
   obtain⟨g1,g2⟩:=JT j rows (λ r h'=>(hr r h').1) hl.2;simp only[G6,ai,hcs];rw[aM ⟨hl.1,g2⟩,<- g1];exact h1;cases h
theorem OL(hT:fQ P T)(h:Mem P w0 O0 G I obj w)(hn:G (cE i)=none){t:V}{len:Nat}{parts:U (Nat×AV)}{vs:Array (Nat×Value)}{aa:Out}{kp:Bool}(ha:xH T i t len parts kp=some aa)
 (hk:parts.map (·.1)=vs.toList.map (·.1)) (hv:bp P G w I (parts.map (·.2)) (vs.toList.map (·.2))):
 ∃u w' β',(Instr.buildSlice t len vs).run P w=.ok u w'/\Step G I w (cE i) β' I w'/\Mem P w0 O0 β' I (dw obj aa.upd) w'/\VR P β' w' I aa.v u:=by
 unfold xH at ha;cases hti:T t with
 |none=>simp[hti]at ha
 |some ti=>
  have ht:=hT t ti hti;simp[hti]at ha;split at ha;rename_i e hkd;cases ie:T e with
  |none=>simp[ie]at ha
  |some ei=>
   have he:=hT e ei ie;simp only[ie,ai]at ha;split at ha;cases ha;rename_i hno;simp at hno;cases hf:OH ei.size (List.replicate len (ei.zero.map cv)) parts with
   |none=>simp[hf]at ha
   |some rows=>
    simp[hf]at ha;subst ha;have⟨z,hz,hz2⟩:=he.zeroV (w:=w);have hzl:ei.zero.length=ei.size:=he.len;have hok:∀r∈List.replicate len (ei.zero.map cv),r.length=ei.size/\r.all qK=true:=(by intro r hr;obtain⟨_,rfl⟩:=List.mem_replicate.1 hr;refine⟨by simpa using hzl,?_⟩;rw[List.all_map,all_eq_true];intro v hvz;have h1:=all_eq_true.1 he.one v hvz;simp[cv];split;rfl;rw[aM h1];rfl);obtain⟨h1,h2,h3⟩:=XC ei.size parts _ rows hf hok;have hzs:z.cells.size=ei.size:=(by rw[<- Array.length_toList,hz2];exact hzl);have hinit:((Array.range (len*ei.size)).map (λ j=>z.cells[j%z.cells.size]!)).toList=(List.replicate len ei.zero).flatten:=by
     apply List.ext_getElem?;intro j;have hlen:∀n,((List.replicate n ei.zero).flatten).length=n*ei.size:=λn=>(by simp[hzl]);have hget:∀n j,j<n*ei.size->((List.replicate n ei.zero).flatten)[j]? =ei.zero[j%ei.size]? :=by
      intro n
      induction n with
      |zero=>intro j hj;simp at hj
      |succ n ih=>
       intro j hj;rw[List.replicate_succ,List.flatten_cons];by_cases hjs:j<ei.size;rw[List.getElem?_append_left (by omega),Nat.mod_eq_of_lt hjs];rw[jf (by omega),hzl,ih _ (by rw[Nat.add_mul]at hj;omega)];rw[<- Nat.mod_eq_sub_mod (by omega)]
     by_cases hj:j<len*ei.size;rw[hget len j hj,Array.getElem?_toList,Array.getElem?_map];have hm:j%ei.size<ei.size:=Nat.mod_lt _ (by omega);rw[show (Array.range (len*ei.size))[j]? =some j by simp[hj]];simp;rw[hzs,<- hz2,Array.getElem?_toList];simp[show j%ei.size<z.cells.size by omega];rw[List.getElem?_eq_none (by simp;omega),List.getElem?_eq_none (by rw[hlen];omega)]
    generalize hin:(Array.range (len*ei.size)).map (λ j=>z.cells[j%z.cells.size]!)=tx at hinit;obtain⟨zs,hz3,G4⟩:=BH (pc:=λj=>some (j*ei.size,ei.size)) (λ j p h=>h) parts vs.toList _ tx rows.flatten h1 (by
     rw[hinit];have:(List.replicate len (ei.zero.map cv)).flatten=((List.replicate len ei.zero).flatten).map cv:=by
      induction len with
      |zero=>rfl
      |succ n ih=>simp
     rw[this];exact bp.cv _) hk hv
    have hrl:rows.length=len:=(by rw[h3];simp);obtain⟨hS,hM⟩:=Mem.alloc (o:=⟨ei.size,rows⟩) (c:=zs) (e:=e) h hn (MF rows zs 0 ei.size zs.toList h2 G4 (λ j u hj=>by simpa using hj));refine⟨.slice (some ⟨w.heap.size,0,none⟩) len len,_,_,?_,hS,by cases kp<;>first|exact hM.yn|exact hM,?_⟩;simp only[Instr.buildSlice,Sem.run_bind,run_underlying (iT ht hkd),Result.andThen_ok,he.size (w:=w)];rw[aC (by omega)];by_cases hl0:len*ei.size=0;have hc0:tx=#[]:=(by rw[<- hin,hl0];simp);have e0:(Array.range (len*ei.size)).map (λ j=>(#[]:Array Value)[j%(#[]:Array Value).size]!)=tx:=(by rw[hc0,hl0];simp);simp only[hl0,if_true,Sem.run_pure,Result.andThen_ok,Sem.run_bind];rw[hl0]at e0;rw[e0,hz3];simp only[Sem.run_bind,newRow,run_newObj,Result.andThen_ok,Sem.run_pure];rfl;simp[hl0,hz];rw[hin,hz3];simp only[newRow];rfl;simp only[VR];refine .inr ⟨w.heap.size,ei.size,zg zs.size,len,0,by simp[ins],rfl,aB _,?_,by simp⟩;have:=bp.length _ _ G4;simp only[Array.length_toList]at this;rw[am4,QQ,this,Nat.zero_add,Nat.zero_add,<- hrl];have hfl:∀(l:U (List AV)),(∀ r∈l,r.length=ei.size)->l.flatten.length=l.length*ei.size:=by
     intro l
     induction l with
     |nil=>simp
     |cons r rs ih=>intro h;simp[ih (λ r' h'=>h r' (by simp[h'])),h r (by simp)];rw[Nat.add_mul];omega
    rw[hfl rows (λ r hr=>(h2 r hr).1)];exact aB _
  cases ha
end
section
variable {P:Program} {T:eS} {w0:World} {O0:k5} {G:Nat->Option cW} {I:Nat->Prop} {obj:Nat->Option aR} {w:World} {i:Nat}
theorem K7{d n:Int}{x:J AV}{v:J Value}(h:bnd d x=some n)(hx:∀y,x=some y->∃u,v=some u/\VR P G w I y u)(h0:x=none->v=none):(v=none/\n=d)\/∃k,v=some (.int k n):=by
 cases x with
 |none=>simp[bnd]at h;exact .inl ⟨h0 rfl,h.symm⟩
 |some y=>
  obtain⟨u,rfl,hu⟩:=hx y rfl;unfold bnd at h;split at h;cases ‹some _=none›;rename_i k m heq;cases heq;cases h;exact .inr ⟨k,by rw[hu.1]⟩;cases h
theorem G8{ua hiv:J Value}{l hh:Int}{len cap:Nat}(h1:(ua=none/\l=0)\/∃k,ua=some (.int k l))(h2:(hiv=none/\hh=(len:Int))\/∃k,hiv=some (.int k hh))(g0:0<=l)(g1:l<=hh)(g2:hh<=(cap:Int)):
 (Instr.sliceBounds true len cap ua hiv none).run P w=.ok (l.toNat,hh.toNat,cap) w:=by
 have hb:∀(k:IntKind) (n:Int) (y:Nat) an,0<=n->n<=(y:Int)->(Instr.sliceBound (.int k n) y an).run P w=.ok n.toNat w:=λk n y an a b=>by simp[Instr.sliceBound,asIntOf,a,b]
 rcases h1 with ⟨rfl,rfl⟩|⟨k,rfl⟩<;>rcases h2 with ⟨rfl,rfl⟩|⟨k',rfl⟩;simp[Instr.sliceBounds];simp[Instr.sliceBounds,hb k' hh cap _ (by omega) g2];simp[Instr.sliceBounds,hb k l len _ g0 g1];have h3:=λan=>hb k l hh.toNat an g0 (by omega);simp[Instr.sliceBounds,hb k' hh cap _ (by omega) g2,h3]
theorem adH(hT:fQ P T)(h:Mem P w0 O0 G I obj w){t:V}{x:AV}{lo hi:J AV}{cL:kh}{get:E}{aa:Out}{v:Value}{ua hiv:J Value}(hg:∀k o,get k=some o->obj k=some o)
 (ha:Xx T t x lo hi cL get=some aa) (cX:aa.ob) (hx:VR P G w I x v) (hlo:∀x,lo=some x->∃v,ua=some v/\VR P G w I x v) (hlo0:lo=none->ua=none) (hhi:∀x,hi=some x->∃v,hiv=some v/\VR P G w I x v) (hhi0:hi=none->hiv=none):
 ∃u,(Instr.sliceAt t v ua hiv none).run P w=.ok u w/\VR P G w I aa.v u/\aa.upd=[]:=by
 unfold Xx at ha;cases hti:T t with
 |none=>simp[hti]at ha
 |some ti=>
  have ht:=hT t ti hti;simp[hti]at ha;split at ha;rename_i e hkd;cases ie:T e with
  |none=>simp[ie]at ha
  |some ei=>
   have he:=hT e ei ie;simp[ie]at ha;have fy:=iT ht hkd
   have hrun:∀(a:J Addr) (len cap:Nat) (l hh:Int),bnd 0 lo=some l->bnd len hi=some hh->0<=l->l<=hh->hh<=(cap:Int)->
    (Instr.sliceAt t (.slice a len cap) ua hiv none).run P w=.ok (.slice (if cap=l.toNat then a else a.map (·.add (l.toNat*ei.size))) (hh.toNat-l.toNat) (cap-l.toNat)) w:=by intro a len cap l hh b1 b2 b3 b4 b5;have:=G8 (P:=P) (w:=w) (len:=len) (cap:=cap) (K7 b1 hlo hlo0) (K7 b2 hhi hhi0) b3 b4 b5;simp[Instr.sliceAt,Instr.slice,run_underlying fy,this,he.size (w:=w)]
   cases x<;>try simp at ha
   case own k ab len=>
    cases hk:get k with
    |none=>simp[hk]at ha
    |some o=>
     simp only[hk,ai]at ha;split at ha;rename_i hsz;cases hl:bnd 0 lo with
     |none=>simp[hl]at ha
     |some l=>
      cases hh:bnd len hi with
      |none=>simp[hl,hh]at ha
      |some r=>
       simp[hl,hh,m4]at ha;subst ha;obtain⟨b1,b2,b3⟩:=cX;simp only[VR]at hx |-;rcases hx with ⟨h1,rfl,h2,h3⟩|⟨b,sz,m,cap,a,h1,rfl,h2,h3,h4⟩;subst h3;subst h2;have hr:r=0:=(by omega);have hl0:l=0:=(by omega);subst hr;subst hl0;refine⟨_,hrun _ _ _ _ _ hl hh b1 b2 (by omega),.inl ⟨h1,by simp,by simp,by simp⟩,trivial⟩;refine⟨_,hrun _ _ _ _ _ hl hh b1 b2 (by omega),.inr ⟨b,sz,m,cap-l.toNat,if cap=l.toNat then a else a+l.toNat*ei.size,h1,?_,by omega,?_,?_⟩,trivial⟩;split;rfl;simp[addr_add];have:ab+l.toNat+(cap-l.toNat)=ab+cap:=(by omega);rw[this];exact h3;intro hc;have hcl:¬cap=l.toNat:=(by omega);rw[aC hcl,h4 (by omega)];have⟨B,hB,hO⟩:=h.c8 k o (hg k o hk);rw[h1]at hB;cases hB;have hs:sz=o.sz:=hO.1;rw[hs,hsz,Nat.add_mul,Nat.add_assoc]
     cases ha
   case t x=>
    cases x<;>simp[reduceCtorEq]at ha
    case sl rows=>
     cases cL<;>simp[reduceCtorEq]at ha
     case Cd rs=>
      cases hl:bnd 0 lo with
      |none=>simp[hl]at ha
      |some l=>
       cases hh:bnd rows.length hi with
       |none=>simp[hl,hh]at ha
       |some r=>
        simp[hl,hh,m4]at ha;subst ha;obtain⟨b1,b2,b3,hrs,hall⟩:=cX;simp only[VR,TR]at hx |-;have hlen:rs.length=r.toNat-l.toNat:=(by rw[hrs];simp[length_take,length_drop];omega);rcases hx with ⟨rfl,a,cap,rfl,hac⟩|⟨b,ab,cap,sz,rfl,h1,h2,h3⟩;simp[List.length_nil]at b3;have hr:r=0:=(by omega);have hl0:l=0:=(by omega);subst hr;subst hl0;refine⟨_,hrun _ _ _ _ _ hl hh b1 b2 (by omega),.inl ⟨by rw[hrs];simp,a.map (·.add 0),cap,?_,λh0=>hac (by simpa using h0)⟩,trivial⟩;by_cases hc:cap=0;subst hc;cases a<;>simp[Addr.add];simp[hc];refine⟨_,hrun _ _ _ _ _ hl hh b1 b2 (by omega),.inr ⟨b,if cap=l.toNat then ab else ab+l.toNat*ei.size,cap-l.toNat,sz,?_,by omega,h2,?_⟩,trivial⟩;rw[hlen];split;rfl;simp[addr_add];by_cases hc:cap=l.toNat;have:rs=[]:=eq_nil_of_length_eq_zero (by omega);rw[this];simp[cN];rw[aC hc,hrs];have hd:∀(n:Nat) (rows:U (List Tree)) (ab:Nat),cN w I rows b ab sz->cN w I (rows.drop n) b (ab+n*sz) sz:=by
         intro n
         induction n with
         |zero=>intro rows ab h;simpa using h
         |succ n ih=>
          intro rows ab h;cases rows with
          |nil=>simp[cN]
          |cons r rs=>
           simp[cN]at h;rw[List.drop_succ_cons,show ab+(n+1)*sz=ab+sz+n*sz by rw[Nat.add_mul];omega];exact ih rs _ h.2.2
        have htk:∀(n:Nat) (rows:U (List Tree)) (ab:Nat),cN w I rows b ab sz->cN w I (rows.take n) b ab sz:=by
         intro n
         induction n with
         |zero=>intro rows ab h;simp[cN]
         |succ n ih=>
          intro rows ab h;cases rows with
          |nil=>simp[cN]
          |cons r rs=>
           simp[cN]at h;simp[List.take_succ_cons,cN];exact⟨h.1,h.2.1,ih rs _ h.2.2⟩
        by_cases hne:rows=[];subst hne;simp[cN];obtain⟨r0,ag,rfl⟩:=List.exists_cons_of_ne_nil hne;have hsz:ei.size=sz:=(by have e1:=hall r0 (by simp);simp[cN]at h3;omega);rw[hsz];exact htk _ _ _ (hd _ _ _ h3)
  cases ha
end
section
variable {P:Program} {T:eS} {w0:World} {O0:k5} {G:Nat->Option cW} {I:Nat->Prop} {obj:Nat->Option aR} {w:World} {i:Nat}
theorem Mem.m8{i:Nat}{o:aR}(h:Mem P w0 O0 G I obj w)(hn:G i=none)(ho:o.rows=[]):
 Step G I w i (ins G i .none) I w/\Mem P w0 O0 (ins G i .none) I (dw obj [(i,some o)]) w:=by have hS:Step G I w i (ins G i .none) I w:=⟨λ j hj=>by simp[ins,jt.ne hj],oZ hn,λ_ _=>rfl,λ_ h=>h⟩;refine⟨hS,?_⟩;constructor;intro k o' hk;simp[dw]at hk;split at hk;cases hk;rename_i hki;exact⟨.none,by simp[ins,hki],ho⟩;have⟨B,hB,hO⟩:=h.c8 k o' hk;exact⟨B,oZ hn _ _ hB,OR.mono hS.ext hS.same hS.inc (λ _ _=>rfl) hO⟩;intro k k' o1 o2 B1 B2 b h1 h2 h3 h4 h5 h6;simp[dw]at h1 h2;simp[ins]at h3 h4;split at h3;cases h3;cases h5;split at h4;cases h4;cases h6;rename_i a b;rw[aC a]at h1;rw[aC b]at h2;exact h.ir k k' o1 o2 B1 B2 _ h1 h2 h3 h4 h5 h6;intro k o' B b h1 h2 h3;simp[dw]at h1;simp[ins]at h2;split at h2;cases h2;cases h3;rename_i a;rw[aC a]at h1;exact h.ownB k o' B b h1 h2 h3;exact h.lt;exact h.up;exact h.keep;exact h.le;exact h.os;exact h.tape;exact h.output;intro j C hj;exact oZ hn _ _ (h.anch j C hj);exact h.vars
theorem zV:∀(rows:U (List AV))(c:Array Value)(ab sz:Nat)(l:U Value),(∀ r∈rows,r.length=sz)->bp P G w I rows.flatten l->(∀ u∈l,oneCell u)->(∀ j u,l[j]? =some u->c[ab+j]? =some u)->cj P G w I rows c ab sz
 |[],_,_,_,_,_,_,_,_=>by simp[cj]
 |r::rs,c,ab,sz,l,hr,hl,h1,hc=>by
  have hrl:=hr r (by simp);simp at hl;have ht:=bp.take sz _ _ hl;have hd:=bp.drop sz _ _ hl;rw[List.take_append_of_le_length (by omega),take_of_length_le (by omega)]at ht;rw[List.drop_append_of_le_length (by omega),List.drop_of_length_le (by omega),fO]at hd;refine⟨hrl,df.oB r _ c ab ht (λ u hu=>h1 u (List.mem_of_mem_take hu)) (λ j u hj=>?_),zV rs c (ab+sz) sz _ (λ r' hr'=>hr r' (by simp[hr'])) hd (λ u hu=>h1 u (List.mem_of_mem_drop hu)) (λ j u hj=>?_)⟩
  all_goals grind
theorem cj.list:∀(rows:U (List AV))(c:Array Value)(ab sz:Nat),cj P G w I rows c ab sz->∃l:U Value,bp P G w I rows.flatten l/\(∀ u∈l,oneCell u)/\l.length=rows.length*sz/\(∀ r∈rows,r.length=sz)/\∀j u,l[j]? =some u->c[ab+j]? =some u
 |[],_,_,_,_=>⟨[],by simp[bp],by simp,by simp,by simp,by simp⟩
 |r::rs,c,ab,sz,⟨h1,h2,h3⟩=>by
  have⟨l1,a1,a2,a3⟩:=df.list r c ab h2;have⟨l2,b1,b2,b3,b4,b5⟩:=cj.list rs c (ab+sz) sz h3;have hl1:l1.length=sz:=by rw[bp.length _ _ a1,h1]
  refine⟨l1++l2,by simp;exact bp.append _ _ _ _ a1 b1,λu hu=>?_,?_,λr' hr'=>?_,λj u hj=>?_⟩
  all_goals grind
theorem cN.list{b sz:Nat}:∀(rows:U (List Tree))(ab:Nat),cN w I rows b ab sz->∃l:U Value,bp P G w I (aK rows).flatten l/\(∀ u∈l,oneCell u)/\l.length=rows.length*sz/\(∀ r∈aK rows,r.length=sz)/\∀j u,l[j]? =some u->w.cell? ⟨b,ab+j,none⟩=some u
 |[],_,_=>⟨[],by simp[aK,bp],by simp,by simp,by simp[aK],by simp⟩
 |r::rs,ab,h=>by
  obtain⟨h1,h2,h3⟩:=h;have⟨l1,a1,a3⟩:=eC.list (P:=P) (G:=G) r b ab h2;have⟨l2,b1,b2,b3,b4,b5⟩:=cN.list rs (ab+sz) h3;have hl1:l1.length=sz:=by rw[bp.length _ _ a1];simpa using h1
  have a2:∀u∈l1,oneCell u:=by intro u hu;obtain⟨j,hj⟩:=List.getElem?_of_mem hu;have hjl:j<(r.map AV.t).length:=(by have:=(dO.1 hj).1;rw[bp.length _ _ a1]at this;exact this);obtain⟨u',hu',hv⟩:=bp.get _ _ j _ a1 (dY hjl);rw[hj]at hu';injection hu' with hu';subst hu';refine VR.one ?_ hv;simp[qK]
  refine⟨l1++l2,by simp[aK];exact bp.append _ _ _ _ a1 b1,λu hu=>?_,?_,λr' hr'=>?_,λj u hj=>?_⟩;rcases bD.1 hu with hu|hu;exact a2 u hu;exact b2 u hu;simp[Nat.add_mul];omega;simp only[aK,bK,aG]at hr';rcases hr' with rfl|hr';simpa using h1;exact b4 r' hr'
  all_goals grind
def aqN(P:Ξ)(G:Ω)(w:Y)(I:Ψ)(size n:Nat)(ao:U (List AV))(v:Value):Prop:=
 (n=0/\∃b c,v=.slice b 0 c)\/∃(a:Addr)(c:Nat)(l:U Value),v=.slice (some a) n c/\0<n/\bp P G w I ao.flatten l/\(∀ u∈l,oneCell u)/\l.length=n*size/\(∀ r∈ao,r.length=size)/\∀j u,l[j]? =some u->w.cell? (a.add j)=some u
theorem ab6(h:Mem P w0 O0 G I obj w){size n:Nat}{ob:Prop}{ao:U (List AV)}{y:AV}{get:E}{v:Value}(hg:∀k o,get k=some o->obj k=some o)
 (hs:Xy size y get=some (n,ob,ao)) (cX:ob) (hl:ao.length=n) (hy:VR P G w I y v):aqN P G w I size n ao v:=by
 unfold Xy at hs;split at hs;rename_i k ab len;cases hk:get k with
 |none=>simp[hk]at hs
 |some o=>
  simp only[hk,ai]at hs;split at hs;rename_i hsz;simp at hs;obtain⟨rfl,_,rfl⟩:=hs;simp only[VR]at hy;rcases hy with ⟨_,rfl,_,rfl⟩|⟨b,sz,m,cap,a,h1,rfl,h2,h3,h4⟩;exact .inl ⟨rfl,_,_,rfl⟩;by_cases h0:len=0;subst h0;exact .inl ⟨rfl,_,_,rfl⟩;have⟨B,hB,hO⟩:=h.c8 k o (hg k o hk);rw[h1]at hB;cases hB;obtain⟨hs,c,e,hc,_,hO⟩:=hO;have h5:=cj.take len _ _ _ _ (cj.drop ab _ _ _ _ hO);obtain⟨l,g1,g2,g3,g4,g5⟩:=cj.list _ _ _ _ h5;refine .inr ⟨_,cap,l,rfl,by omega,g1,g2,?_,λr hr=>?_,λj u hj=>?_⟩;rw[g3,hl,hs,hsz];rw[g4 r hr,hs,hsz];rw[addr_add,h4 (by omega)];simp[World.cell?,hc,g5 j u hj];cases hs
 rename_i rows;obtain⟨rfl,rfl,rfl⟩:=hs;simp only[VR,TR]at hy;rcases hy with ⟨rfl,_,_,rfl,_⟩|⟨b,ab,cap,sz,rfl,h1,h2,h3⟩;exact .inl ⟨rfl,_,_,rfl⟩;cases rows with
 |nil=>exact .inl ⟨rfl,_,_,rfl⟩
 |cons r rs=>
  obtain⟨l,g1,g2,g3,g4,g5⟩:=cN.list (P:=P) (G:=G) _ _ h3;have hsz:sz=size:=by have e1:=cX r (by simp);simp[cN]at h3;omega
  subst hsz;exact .inr ⟨_,cap,l,rfl,by simp,g1,g2,g3,g4,λj u hj=>by rw[addr_add];exact g5 j u hj⟩
 cases hs
theorem oneCell'{u:Value}(h:oneCell u):u.oneCell'=true:=by cases u<;>first|rfl|exact h.elim
theorem Mem.grow(h:Mem P w0 O0 G I obj w)(hn:G i=none){size:Nat}{rows:U (List AV)}{l:U Value}{e:V}{ag:Array Value}(hr:∀r∈rows,r.length=size)(hl:bp P G w I rows.flatten l)(h1:∀u∈l,oneCell u):
 Step G I w i (ins G i (.at w.heap.size size (zg (l.toArray++ag).size))) I (w.drew.alloc (.cells (l.toArray++ag) e))/\
 Mem P w0 O0 (ins G i (.at w.heap.size size (zg (l.toArray++ag).size))) I (dw obj [(i,some ⟨size,rows⟩)]) (w.drew.alloc (.cells (l.toArray++ag) e)):=by have hd:=h.drew;obtain⟨hS,hM⟩:=Mem.alloc (i:=i) (o:=⟨size,rows⟩) (c:=l.toArray++ag) (e:=e) hd hn (zV rows _ 0 size l hr (bp.mono (w:=w) (w':=w.drew) (λ _ _ h=>h) (λ _ _=>rfl) (λ _ h=>h) _ _ hl) h1 (λ j u hj=>by have hlt:=(dO.1 hj).1;rw[Array.getElem?_append_left (by simpa using hlt)];simpa using hj));exact⟨⟨hS.other,hS.ext,λb hb=>hS.same b hb,hS.inc⟩,hM⟩
theorem G9(hT:fQ P T)(h:Mem P w0 O0 G I obj w)(hn:G i=none){t e ty:V}{ei:pD}(fy:P.underlying t=some (.slice e))(ie:T e=some ei){n:Nat}{ao:U (List AV)}{v:Value}
 (hsrc:aqN P G w I ei.size n ao v) (hl:ao.length=n) (h48:n*ei.bytes<=140737488355328) (h63:n<=maxLen):
 ∃u w' β',(Builtin.append_ #[t,t] ty #[.slice none 0 0,v]).run P w=.ok u w'/\Step G I w i β' I w'/\Mem P w0 O0 β' I (dw obj [(i,some ⟨ei.size,ao⟩)]) w'/\VR P β' w' I (.own i 0 n) u:=by
 have he:=hT e ei ie;obtain⟨info,d,z,g1,g2,g3,g4,g5,g6,g7,g8⟩:=he.ex;rcases hsrc with ⟨rfl,b,c,rfl⟩|⟨a,c,l,rfl,hpos,q1,q2,q3,q4,q5⟩;have hnew:ao=[]:=eq_nil_of_length_eq_zero hl;subst hnew;have⟨hS,hM⟩:=Mem.m8 (i:=i) (o:=⟨ei.size,[]⟩) h hn rfl;refine⟨.slice none 0 0,w,_,?_,hS,hM,by simp only[VR];exact .inl ⟨by simp[ins],trivial,trivial,trivial⟩⟩;cases b<;>simp[Builtin.append_,run_underlying fy,sizeOf,typeInfo,g1,Builtin.lenOf,Builtin.firstCells,loadCells,loadCellsFrom];have hm:n<=9223372036854775807:=by simp[maxLen]at h63;omega
 have hrun:=run_append_nil (P:=P) w t ty e info z fy g1 g5 a n c l (by rw[q3,g3]) q5 hpos (by omega) (by rw[g4];omega);have⟨hS,hM⟩:=Mem.grow (i:=i) (e:=e) (ag:=Builtin.zeroCells z.cells (grownCap w n 0 e-n)) h hn q4 q1 q2;refine⟨_,_,_,hrun,hS,hM,?_⟩;simp only[VR];refine .inr ⟨w.heap.size,ei.size,_,_,0,by simp[ins];rfl,rfl,grownCap_ge w n 0 e,?_,by simp⟩;have hz:z.cells.size=ei.size:=by rw[<- Array.length_toList,g6];exact he.len
 have hge:=grownCap_ge w n 0 e;simp[size_zeroCells,QQ,q3,hz,Nat.zero_add,<- Nat.add_mul];exact Nat.mul_le_mul_right _ (by omega)
theorem Vx(hT:fQ P T)(h:Mem P w0 O0 G I obj w)(hn:G i=none){t e ty:V}{ei:pD}(fy:P.underlying t=some (.slice e))(ie:T e=some ei){n k ab len:Nat}{o:aR}{ao:U (List AV)}{u v:Value}
 (hk:obj k=some o) (hsz:o.sz=ei.size) (hlen:(o.rows.drop ab).length=len) (hx:VR P G w I (.own k ab len) u)
 (hsrc:aqN P G w I ei.size n ao v) (hl:ao.length=n) (h48:(len+n)*ei.bytes<=140737488355328) (h63:len+n<=maxLen):
 ∃z w' β',(Builtin.append_ #[t,t] ty #[u,v]).run P w=.ok z w'/\Step G I w i β' I w'/\Mem P w0 O0 β' I (dw obj [(i,some ⟨ei.size,o.rows.drop ab++ao⟩),(k,none)]) w'/\VR P β' w' I (.own i 0 (len+n)) z:=by
 have he:=hT e ei ie;obtain⟨info,d,z,g1,g2,g3,g4,g5,g6,g7,g8⟩:=he.ex;have hki:k≠i:=λe=>by have⟨B,hB,_⟩:=h.c8 k o hk;rw[e,hn]at hB;cases hB
 have A1:∀{β':Nat->J cW} {I':Nat->Prop} {w':World} {o':aR},Mem P w0 O0 β' I' (dw obj [(i,some o')]) w'->Mem P w0 O0 β' I' (dw obj [(i,some o'),(k,none)]) w':=by intro β' I' w' o' hM;refine hM.drop _ λj oj hj=>?_;simp only[dw]at hj |-;split;rw[aM ‹_›]at hj;exact hj;rw[aC ‹_›]at hj;split at hj;cases hj;exact hj
 simp only[VR]at hx;rcases hx with ⟨hβ,rfl,_,rfl⟩|⟨b,sz,m,cap,a,hβ,rfl,h2,h3,h4⟩;have hr:o.rows.drop ab=[]:=eq_nil_of_length_eq_zero hlen;rw[hr,fO,Nat.zero_add];obtain⟨z',w',β',e1,e2,e3,e4⟩:=G9 (ty:=ty) hT h hn fy ie hsrc hl (by simpa using h48) (by simpa using h63);exact⟨z',w',β',e1,e2,A1 e3,e4⟩;have⟨B,hB,hO⟩:=h.c8 k o hk;rw[hβ]at hB;cases hB;obtain⟨hs,c,ce,hc,hcn,hO⟩:=hO;have hle:m.s+ab*sz<=m.m:=Nat.le_trans (Nat.add_le_add_left (Nat.mul_le_mul_right _ (Nat.le_add_right _ _)) _) h3;rw[Nat.add_mul]at h3;have hO:=cj.drop ab _ _ _ _ hO;obtain⟨hS0,hM0⟩:=Mem.yr (C:=.at b sz ⟨m.m,m.s+ab*sz,hle⟩) (o1:=⟨ei.size,o.rows.drop ab⟩) h hn hk hβ rfl ⟨by rw[hs,hsz],c,ce,hc,hcn,hO⟩;generalize hp:m.s+ab*sz=p at hO hle hS0 hM0 h4;rcases hsrc with ⟨rfl,b',c',rfl⟩|⟨a',c',l,rfl,hpos,q1,q2,q3,q4,q5⟩;have hnew:ao=[]:=eq_nil_of_length_eq_zero hl;subst hnew;rw[List.append_nil,Nat.add_zero];refine⟨.slice (some ⟨b,a,none⟩) len cap,w,_,?_,hS0,hM0,?_⟩;cases b'<;>simp[Builtin.append_,run_underlying fy,sizeOf,typeInfo,g1,Builtin.lenOf,Builtin.firstCells,loadCells,loadCellsFrom,h2,storeCells];simp only[VR];exact .inr ⟨b,sz,⟨m.m,p,hle⟩,cap,a,by simp[ins],rfl,h2,by simp only[Nat.zero_add];omega,λh=>by simp[h4 h]⟩;obtain⟨ol,o1,o2,o3,o4,o5⟩:=cj.list _ _ _ _ hO;have hrl:∀r∈o.rows.drop ab++ao,r.length=ei.size:=λr hr=>by rcases bD.1 hr with hr|hr;rw[o4 r hr,hs,hsz];exact q4 r hr
 have hol:ol.length=len*info.size:=by rw[o3,hlen,hs,hsz,g3]
 by_cases hroom:len+n<=cap;have ha:a=p:=h4 (by omega);subst ha;have hcsz:a+cap*info.size<=c.size:=by rw[g3,<- hsz,<- hs,hcn];omega
 have hfit:a+len*info.size+l.length<=c.size:=by have:(len+n)*info.size<=cap*info.size:=Nat.mul_le_mul_right _ hroom;rw[Nat.add_mul]at this;rw[q3,<- g3];omega
 have hf:=run_firstCells_some (P:=P) w info.size n a' n c' l (by rw[q3,g3]) q5;have hst:=run_storeCells_at P b (a+len*info.size) ce l 0 c w hc (by omega) (λ u hu=>oneCell' (q2 u hu));simp only[Nat.add_zero]at hst;generalize hc':(List.take (a+len*info.size) c.toList++l++List.drop (a+len*info.size+l.length) c.toList).toArray=cc at hst;have UT:cc.size=c.size:=by rw[<- hc'];simp[length_take,length_drop];omega
 have hrun:(Builtin.append_ #[t,t] ty #[.slice (some ⟨b,a,none⟩) len cap,.slice (some a') n c']).run P w=.ok (.slice (some ⟨b,a,none⟩) (len+n) cap) (w.setRow b cc):=by have hf':(Builtin.firstCells info.size n (.slice (some a') n c')).run P w=.ok l.toArray w:=hf;simp[Builtin.append_,run_underlying fy,sizeOf,typeInfo,g1,Builtin.lenOf,hroom,hf',addr_add,hst]
 have hcells:∀j u,(ol++l)[j]? =some u->cc[a+j]? =some u:=by
  intro j u hj;rw[<- hc',List.getElem?_toArray];have h1:(c.toList.take (a+len*info.size)).length=a+len*info.size:=by simp[length_take];omega
  by_cases hjl:j<ol.length;rw[List.getElem?_append_left hjl]at hj;have:=o5 j u hj;rw[aP,List.getElem?_append_left (by omega),List.getElem?_take,aM (by omega),Array.getElem?_toList];exact this;rw[jf (by omega)]at hj;have hjl2:=(dO.1 hj).1;rw[aP,jf (by omega),h1,List.getElem?_append_left (by omega),show a+j-(a+len*info.size)=j-ol.length by omega];exact hj
 obtain⟨xc,hM⟩:=Mem.write (o':=⟨ei.size,o.rows.drop ab++ao⟩) hM0 (k:=i) (o:=⟨ei.size,o.rows.drop ab⟩) (b:=b) (s:=sz) (n:=⟨m.m,a,hle⟩) (by simp only[dw,if_true]) (by simp only[ins,if_true]) (c':=cc) (e:=ce) (setRow_heap w b c cc ce (0,0) hc) (λ b' hb=>setRow_other w b b' cc hb) (by simp) rfl rfl rfl (by rw[hs,hsz]) (by simp;omega)
  (zV _ _ _ ei.size (ol++l) hrl (bp.mono hS0.ext (λ _ _=>rfl) (λ _ h=>h) _ _ (by simp only[List.flatten_append];exact bp.append _ _ _ _ o1 q1)) (λ u hu=>by rcases bD.1 hu with hu|hu;exact o2 u hu;exact q2 u hu) hcells)
 refine⟨_,_,_,hrun,⟨hS0.other,hS0.ext,xc,λ_ h=>h⟩,hM.drop _ (λ j oj hj=>?_),?_⟩;simp only[dw]at hj |-;split at hj;rw[aM ‹_›];exact hj;rw[aC ‹_›,aC ‹_›];exact hj;simp only[VR];exact .inr ⟨b,sz,⟨m.m,a,hle⟩,cap,a,by simp[ins],rfl,hroom,by simp only[Nat.zero_add];omega,by simp⟩;have holds:∀j v,ol[j]? =some v->w.cell? ((⟨b,a,none⟩:Addr).add j)=some v:=by
  intro j v hj;have hjl:=(dO.1 hj).1;have AH:len≠0:=λh0=>by rw[hol,h0]at hjl;simp at hjl
  rw[addr_add,h4 (by omega)];have:=o5 j v hj;simp[World.cell?,hc]at this |-;exact this
 have hm:len+n<=9223372036854775807:=by simp[maxLen]at h63;omega
 have hrun:=run_append_grow (P:=P) w t ty e info z fy g1 g5 ⟨b,a,none⟩ len cap ol hol holds a' n c' l (by rw[q3,g3]) q5 (by omega) (by omega) (growslice_fits (by omega) (by rw[g4];exact h48));have happ:bp P G w I (o.rows.drop ab++ao).flatten (ol++l):=by simp[List.flatten_append];exact bp.append _ _ _ _ o1 q1
 obtain⟨hS,hM⟩:=Mem.grow (i:=i) (e:=e) (ag:=Builtin.zeroCells z.cells (grownCap w (len+n) cap e-(len+n))) h hn hrl happ (λ u hu=>by rcases bD.1 hu with hu|hu;exact o2 u hu;exact q2 u hu);have XN:ol.toArray++l.toArray++Builtin.zeroCells z.cells (grownCap w (len+n) cap e-(len+n))=(ol++l).toArray++Builtin.zeroCells z.cells (grownCap w (len+n) cap e-(len+n)):=by simp
 rw[XN]at hrun;refine⟨_,_,_,hrun,hS,A1 hM,?_⟩;simp only[VR];refine .inr ⟨w.heap.size,ei.size,_,_,0,by simp[ins];rfl,rfl,grownCap_ge w (len+n) cap e,?_,by simp⟩;have hz:z.cells.size=ei.size:=by rw[<- Array.length_toList,g6];exact he.len
 have hge:=grownCap_ge w (len+n) cap e;simp[size_zeroCells,am4,QQ,q3,hol,hz,g3,Nat.zero_add,<- Nat.add_mul];exact Nat.mul_le_mul_right _ (by omega)
end
section
variable {P:Program} {T:eS} {w0:World} {O0:k5} {G:Nat->Option cW} {I:Nat->Prop} {obj:Nat->Option aR} {w:World} {i:Nat}
theorem aaZ(hT:fQ P T)(h:Mem P w0 O0 G I obj w)(hn:G (cE i)=none){t ty:V}{x y:AV}{cL:kh}{get:E}{aa:Out}{u v:Value}(hg:∀k o,get k=some o->obj k=some o)
 (ha:BG T i t x y cL get=some aa) (cX:aa.ob) (hx:VR P G w I x u) (hy:VR P G w I y v):
 ∃z w' β',(Builtin.append_ #[t,t] ty #[u,v]).run P w=.ok z w'/\Step G I w (cE i) β' I w'/\Mem P w0 O0 β' I (dw obj aa.upd) w'/\VR P β' w' I aa.v z:=by
 unfold BG at ha;cases hti:T t with
 |none=>simp[hti]at ha
 |some ti=>
  have ht:=hT t ti hti;simp only[hti,ai]at ha;split at ha;rename_i e hkd;cases ie:T e with
  |none=>simp[ie]at ha
  |some ei=>
   simp only[ie,ai]at ha;have fy:=iT ht hkd;split at ha;cases hs:Xy ei.size y get with
   |none=>simp[hs]at ha
   |some p=>
    obtain⟨n,ob,ao⟩:=p;simp only[hs,ai]at ha;split at ha;rename_i k ab len;cases hk:get k with
    |none=>simp[hk]at ha
    |some o=>
     simp only[hk,ai]at ha;split at ha;rename_i hsz;cases ha;obtain⟨b1,b2,b3,rfl,b5,b6⟩:=cX;have e:(o.rows.drop ab++ao).length=len+n:=(by rw[bW,b2,b3]);simp only[e];exact Vx hT h hn fy ie (hg k o hk) hsz b2 hx (ab6 h hg hs b1 b3 hy) b3 b5 b6;cases ha
    cases ha;obtain⟨b1,b2,rfl,b5,b6⟩:=cX;simp[VR]at hx;subst hx;simp only[b2];exact G9 hT h hn fy ie (ab6 h hg hs b1 b2 hy) b2 b5 b6;cases ha
   cases ha
  cases ha
theorem bp.map{ρ:Operand->AV}{r:Operand->Value}(hρ:∀x,VR P G w I (ρ x) (r x)):∀(l:U Operand),bp P G w I (l.map ρ) (l.map r)
 |[]=>by simp[bp]
 |x::xs=>by simp;exact⟨hρ x,bp.map hρ xs⟩
theorem XD(hT:fQ P T)(h:Mem P w0 O0 G I obj w)(hn:G (cE i)=none){b:Builtin}{args:U AV}{d6:Array TypeId}{cL:kh}{get:E}{aa:Out}(hg:∀k o,get k=some o->obj k=some o)
 {vs:Array Value} {ty:V} {am:Array Operand} (ha:Eh T i b args d6.toList cL get=some aa) (cX:aa.ob) (hv:bp P G w I args vs.toList) {r:Operand->Value} (hops:vs=am.map r) {dst:J Tmp} {aq:String} {after:Array Edge} {guard:J (Nat×Bool)}:
 s7 P w0 O0 G I obj w i aa ((execOp r ⟨dst,.call { callee:=.builtin b,args:=am,argTypes:=d6 },ty,aq,after,guard⟩).run P w):=by
 unfold Eh at ha;split at ha;rename_i x t ry;obtain⟨v,hvs⟩:∃v,vs=#[v]:=by
  obtain⟨l⟩:=vs
  match l,hv with
  |[v],_=>exact⟨v,rfl⟩
  |[],h|_::_::_,h=>simp[bp]at h
 have ht:d6=#[t]:=by cases d6;simpa using ry
 subst hvs ht;simp only[bp]at hv;have⟨u,h1,h2,h3⟩:=ain (ty:=ty) hT ha cX hv.1;refine⟨u,w,G,I,.inl ?_,Step.refl ..,by rw[h3];exact h,h2⟩;simp[execOp,resolve,invoke,builtin,<- hops,h1];have⟨u,h1,h2,h3⟩:=ab4 (d6:=d6) (ty:=ty) ha hv;simp at h1;refine⟨u,w,G,I,.inl ?_,Step.refl ..,by rw[h3];exact h,h2⟩;simp[execOp,resolve,invoke,builtin,<- hops,h1];have⟨u,h1,h2,h3⟩:=ab4 (d6:=d6) (ty:=ty) ha hv;simp at h1;refine⟨u,w,G,I,.inl ?_,Step.refl ..,by rw[h3];exact h,h2⟩;simp[execOp,resolve,invoke,builtin,<- hops,h1];rename_i x y t u ry;split at ha;rename_i htu;subst htu;obtain⟨v,v',hvs⟩:∃v v',vs=#[v,v']:=by
  obtain⟨l⟩:=vs
  match l,hv with
  |[v,v'],_=>exact⟨v,v',rfl⟩
  |[],h|[_],h|_::_::_::_,h=>simp[bp]at h
 have ht:d6=#[t,t]:=by cases d6;simpa using ry
 subst hvs ht;simp only[bp]at hv;have⟨z,w',β',h1,h2,h3,h4⟩:=aaZ (ty:=ty) hT h hn hg ha cX hv.1 hv.2.1;refine⟨z,w',β',I,.inl ?_,h2,h3,h4⟩;simp[execOp,resolve,invoke,builtin,<- hops,h1];cases ha;cases ha
theorem Ux(hT:fQ P T)(h:Mem P w0 O0 G I obj w)(hn:G (cE i)=none){o:Oper}{cL:kh}{ρ:Operand->AV}{get:E}{aa:Out}(hg:∀k o,get k=some o->obj k=some o)
 {r:Operand->Value} (hρ:∀x,VR P G w I (ρ x) (r x)) (ha:rW T i o cL ρ get=some aa) (cX:aa.ob):s7 P w0 O0 G I obj w i aa ((execOp r o).run P w):=by
 obtain⟨dst,op,ty,aq,after,guard⟩:=o;have val:∀{s:Sem Value}{z:Value},s.run P w=.ok z w->aa.upd=[]->VR P G w I aa.v z->s7 P w0 O0 G I obj w i aa ((do pure (.value (<- s)):Sem Next).run P w):=by intro s z h1 h2 h3;refine⟨z,w,G,I,.inl (by simp[h1]),Step.refl ..,by rw[h2];exact h,h3⟩
 have val':∀{s:Sem Value} {z:Value} {w':World} {β':Nat->J cW},s.run P w=.ok z w'->Step G I w (cE i) β' I w'->Mem P w0 O0 β' I (dw obj aa.upd) w'->VR P β' w' I aa.v z->s7 P w0 O0 G I obj w i aa ((do pure (.value (<- s)):Sem Next).run P w):=by intro s z w' β' h1 h2 h3 h4;exact⟨z,w',β',I,.inl (by simp[h1]),h2,h3,h4⟩
 unfold rW at ha;split at ha;rename_i x heq;simp at heq;subst heq;simp[pv]at ha;subst ha;exact s7.pure h (hρ x);rename_i x heq;simp at heq;subst heq;simp[pv]at ha;subst ha;exact s7.pure h (hρ x);rename_i c a b heq;simp at heq;subst heq;split at ha;rename_i t hc;simp[pv]at ha;subst ha;have h1:=hρ c;rw[hc]at h1;simp[VR]at h1;refine⟨if t then r a else r b,w,G,I,.inl ?_,Step.refl ..,h,?_⟩;simp[execOp,h1.1,asBool];simp;rw[Xz];cases t;exact hρ b;exact hρ a;cases ha;rename_i e heq;simp at heq;subst heq;have⟨u,w',β',h1,h2,h3,h4⟩:=adC hT h hn ha;exact val' h1 h2 h3 h4;rename_i e x heq;simp at heq;subst heq;have⟨u,w',β',h1,h2,h3,h4⟩:=ail (e:=e) h hn ha (hρ x);exact val' h1 h2 h3 h4;rename_i t parts heq;simp at heq;subst heq;obtain⟨z,h1,h2,h3⟩:=adG (w:=w) (P:=P) (G:=G) (I:=I) (vs:=parts.map λ(i,x)=>(i,r x)) hT ha (by simp) (by simp;have hm:=bp.map (λ x=>hρ x) (parts.toList.map (·.2));simp at hm;exact hm);exact val h1 h3 h2;rename_i t len parts heq;simp at heq;subst heq;obtain⟨z,w',β',h1,h2,h3,h4⟩:=OL (vs:=parts.map λ(i,x)=>(i,r x)) hT h hn ha (by simp) (by simp;have hm:=bp.map (λ x=>hρ x) (parts.toList.map (·.2));simp at hm;exact hm);exact val' h1 h2 h3 h4;rename_i t a heq;simp at heq;subst heq;have⟨u,h1,h2,h3⟩:=Uw hT h hg ha cX (hρ a);exact val h1 h3 h2;rename_i t a x heq;simp at heq;subst heq;have⟨w',h1,h2,h3,h4⟩:=adB hT h hg ha cX (hρ a) (hρ x);exact⟨undef,w',G,I,.inr ⟨by simp[execOp,h1],rfl⟩,⟨λ _ _=>rfl,λ_ _ h=>h,h2,λ_ h=>h⟩,h3,by rw[h4];simp[VR]⟩;rename_i op t x y yt heq;simp at heq;subst heq;have⟨z,h1,h2,h3⟩:=aim (xo:=x) (yo:=y) hT ha cX (hρ x) (hρ y);exact val h1 h3 h2;rename_i op t x heq;simp at heq;subst heq;have⟨z,h1,h2,h3⟩:=alm ha (hρ x);exact val h1 h3 h2;rename_i f first caps heq
 simp at heq;subst heq;simp[pv]at ha;subst ha;refine⟨.func (.func f) (first.map r) (caps.map r),w,G,I,.inl ?_,Step.refl ..,h,?_⟩;simp[execOp,Instr.makeFunc];simp only[VR];exact⟨_,_,rfl,by rw[Array.toList_map];exact bp.map hρ _,by rw[Array.toList_map];exact bp.map hρ _⟩;rename_i t x lo hi heq;simp at heq;subst heq
 obtain⟨u,h1,h2,h3⟩:=adH (ua:=lo.map r) (hiv:=hi.map r) hT h hg ha cX (hρ x)
  (λ y hy=>by
   cases lo with
   |none=>simp at hy
   |some z=>simp at hy;subst hy;exact⟨r z,rfl,hρ z⟩) (λ hy=>by cases lo<;>simp at hy |-)
  (λ y hy=>by
   cases hi with
   |none=>simp at hy
   |some z=>simp at hy;subst hy;exact⟨r z,rfl,hρ z⟩) (λ hy=>by cases hi<;>simp at hy |-)
 exact val h1 h3 h2;rename_i t x f heq;simp at heq;subst heq;have⟨u,h1,h2,h3⟩:=RF hT ha (hρ x);exact val h1 h3 h2;rename_i t x f heq;simp at heq;subst heq;have⟨u,h1,h2,h3⟩:=adD hT ha (hρ x);exact val h1 h3 h2;rename_i t x j heq;simp at heq;subst heq;have⟨u,h1,h2,h3⟩:=RG hT h hg ha cX (hρ x) (hρ j);exact val h1 h3 h2;rename_i x j heq;simp at heq;subst heq;have⟨u,h1,h2,h3⟩:=XB ha (hρ x);exact val h1 h3 h2;rename_i b args d6 heq;simp at heq;subst heq;exact XD (ty:=ty) hT h hn hg (vs:=args.map r) ha cX (by rw[Array.toList_map];exact bp.map hρ _) rfl;cases ha
end
def Tree.flat:Tree->Prop
 |.sc _=>True
 |.sl _=>False
def TV.flat:TV->Prop
 |.s x=>x.flat
 |.a cs=>∀x∈cs,x.flat
def RC.flat:RC->Prop
 |.d x=>x.flat
 |.fresh _ rows=>∀r∈rows,∀x∈r,x.flat
 |.whole _ _=>True
def RV.flat:RV->Prop
 |.one c=>c.flat
 |.fR cs=>∀c∈cs,c.flat
def LJ(i:Nat)(ae:U Nat):RC->AV×List (Nat×Option aR)
 |.whole j len=>(match ae[j]? with|some k=>.own k 0 len|none=>.undef,[])
 |.d x=>(x.av,[])
 |.fresh sz rows=>(.own (cE i) 0 (aK rows).length,[(cE i,some ⟨sz,aK rows⟩)])
def OM(i:Nat)(ae:U Nat):U RC->J (List AV×List (Nat×Option aR))
 |[]=>some ([],[])
 |c::cs=>(OM i ae cs).bind λp=>if (LJ i ae c).2.isEmpty || p.2.isEmpty then some ((LJ i ae c).1::p.1,(LJ i ae c).2++p.2)else none
def imp(i:Nat)(ae:U Nat):RV->J (AV×List (Nat×Option aR))
 |.one c=>some (LJ i ae c)
 |.fR cs=>(OM i ae cs).bind λp=>some (.fR p.1,p.2)
mutual
def qw(P:Program)(get:Nat->Option aR):AV->List LH->Option (AV×List LH×List Prop)
 |.t x,hs=>some (.t x,hs,[])
 |.agg cs,hs=>(nW P get cs hs).bind λp=>some (.agg p.1,p.2.1,p.2.2)
 |.fR _,_=>none
 |.own k ab len,hs=>match hs with
  |.rows tr::hs=>(get k).bind λo=>some (.t (.sl tr),hs,[(o.rows.drop ab).take len=aK tr/\tr.length=len])
  |_=>none
 |.ptr k row ab,hs=>match hs with
  |.row tr::hs=>(get k).bind λo=>some (.eV tr ab,hs,[o.rows[row]? =some (tr.map AV.t)])
  |_=>none
 |.eV r o,hs=>some (.eV r o,hs,[])
 |.fn f first caps,hs=>match hs with
  |.fn::hs=>(nW P get first hs).bind λp=>(nW P get caps p.2.1).bind λq=>some (.fn f p.1 q.1,q.2.1,p.2.2++q.2.2)
  |.en Z::hs=>(nW P get first hs).bind λp=>(nW P get caps p.2.1).bind λq=>
   some (.en Z,q.2.1,p.2.2++(q.2.2++[p.1=[]/\fP P f/\∀args r,Z args r->tE P f (p.1++args.map TV.av++q.1) (.one (.d r))]))
  |_=>none
 |.en Z,hs=>some (.en Z,hs,[])
 |.mp _,_=>none
 |.oz k len,hs=>match hs with
  |.rows tr::hs=>(get k).bind λo=>some (.t (.sl tr),hs,[(o.rows.drop 0).take len=aK tr/\tr.length=len])
  |_=>none
 |.cD,hs=>match hs with
  |.nil::hs=>some (.cD,hs,[])
  |.emp::hs=>some (.t (.sl []),hs,[])
  |_=>none
 |.ub,_=>none
 |.undef,_=>none
def nW(P:Program)(get:Nat->Option aR):List AV->List LH->Option (List AV×List LH×List Prop)
 |[],hs=>some ([],hs,[])
 |x::xs,hs=>(qw P get x hs).bind λp=>(nW P get xs p.2.1).bind λq=>some (p.1::q.1,q.2.1,p.2.2++q.2.2)
end
def BJ(P:Ξ)(i:Nat)(f:AV)(args:U AV)(cL:kh)(get:E):J Out:=
 match f,cL with
 |.fn F first caps,.call hs rv keep=>(imp i [] rv).bind λp=>(nW P get (first++args++caps) hs).bind λq=>
  if keep then some ⟨p.1,p.2,q.2.2++[tE P F q.1 rv,rv.flat]⟩
  else some ⟨p.1,p.2++(cu (first++args++caps)).map (λ k=>(k,none)),q.2.2++[tE P F q.1 rv]⟩
 |.en Z,.Fk hs targs r keep=>(nW P get args hs).bind λq=>
  if keep then some ⟨r.av,[],q.2.2++[q.1=targs.map TV.av,Z targs r,r.flat]⟩
  else some ⟨r.av,(cu args).map (λ k=>(k,none)),q.2.2++[q.1=targs.map TV.av,Z targs r]⟩
 |_,_=>none
def BK(P:Ξ)(w0:Y)(O0:k5)(G:Ω)(I:Ψ)(obj:E)(w:Y)(i:Nat)(aa:Out)(r:Result Next):Prop:=
 ∃F args,r=.ok (.enter F args) w/\Calls P F args w λe w'=>∃v' β' I',e=.returned v'/\Step G I w (cE i) β' I' w'/\Mem P w0 O0 β' I' (dw obj aa.upd) w'/\VR P β' w' I' aa.v v'
section
variable {P:Program} {T:eS} {w0:World} {O0:k5} {G:Nat->Option cW} {I:Nat->Prop} {obj:Nat->Option aR} {w:World} {i:Nat}
mutual
theorem gj.weaken{get get':Nat->Option aR}(h:∀k o,get k=some o->get' k=some o):∀(xs ys:List AV),gj P get xs ys->gj P get' xs ys
 |[],[],_=>by simp[gj]
 |x::xs,y::ys,hb=>by simp[gj]at hb |-;exact⟨gO.weaken h x y hb.1,gj.weaken h xs ys hb.2⟩
 |[],_::_,hb|_::_,[],hb=>by simp[gj]at hb
theorem gO.weaken{get get':Nat->Option aR}(h:∀k o,get k=some o->get' k=some o):∀(x y:AV),gO P get x y->gO P get' x y
 |.t _,_,hb=>by simpa[gO]using hb
 |.agg cs,y,hb=>by simp[gO]at hb |-;obtain⟨cs',h1,h2⟩:=hb;exact⟨cs',h1,gj.weaken h cs cs' h2⟩
 |.fR _,_,hb=>by simp[gO]at hb
 |.own k ab len,y,hb=>by simp only[gO]at hb |-;obtain⟨o,tr,h1,h2⟩:=hb;exact⟨o,tr,h k o h1,h2⟩
 |.ptr k row ab,y,hb=>by simp only[gO]at hb |-;obtain⟨o,tr,h1,h2⟩:=hb;exact⟨o,tr,h k o h1,h2⟩
 |.eV _ _,_,hb=>by simpa[gO]using hb
 |.fn f first caps,y,hb=>by simp only[gO]at hb |-;obtain⟨a,b,h1,h2,h3⟩:=hb;exact⟨a,b,gj.weaken h first a h1,gj.weaken h caps b h2,h3⟩
 |.en _,_,hb=>by simpa[gO]using hb
 |.oz k len,y,hb=>by simp only[gO]at hb |-;obtain⟨o,tr,h1,h2⟩:=hb;exact⟨o,tr,h k o h1,h2⟩
 |.cD,_,hb=>by simpa[gO]using hb
 |.ub,_,hb|.undef,_,hb=>by simp[gO]at hb
end
mutual
theorem FK{get:Nat->Option aR}:∀(x:AV)(hs:List LH)(p:AV×List LH×List Prop),qw P get x hs=some p->(∀ q∈p.2.2,q)->gO P get x p.1
 |.t x,hs,p,h,_=>by simp[qw]at h;subst h;simp[gO]
 |.agg cs,hs,p,h,ho=>by simp only[qw,ah,bX]at h;obtain⟨q,h1,rfl⟩:=h;simp only[gO];exact⟨_,rfl,kW cs hs q h1 ho⟩
 |.fR _,_,_,h,_=>by simp[qw]at h
 |.own k ab len,hs,p,h,ho=>by simp[qw]at h;split at h;simp[ah]at h;obtain⟨o,h1,rfl⟩:=h;have h2:=ho _ (aI.2 rfl);simp only[gO];exact⟨o,_,h1,rfl,h2.1,h2.2⟩;cases h
 |.ptr k row ab,hs,p,h,ho=>by simp[qw]at h;split at h;simp[ah]at h;obtain⟨o,h1,rfl⟩:=h;have h2:=ho _ (aI.2 rfl);simp only[gO];exact⟨o,_,h1,rfl,h2⟩;cases h
 |.eV r o,hs,p,h,_=>by simp[qw]at h;subst h;simp[gO]
 |.fn f first caps,hs,p,h,ho=>by simp only[qw]at h;split at h;simp only[ah,bX]at h;obtain⟨q,h1,q',h2,rfl⟩:=h;simp only[gO];exact⟨q.1,q'.1,kW first _ q h1 (λ x hx=>ho x (by simp[hx])),kW caps _ q' h2 (λ x hx=>ho x (by simp[hx])),.inl rfl⟩;simp only[ah,bX]at h;obtain⟨q,h1,q',h2,rfl⟩:=h;have h3:=ho _ (by simp only[bD,aI];exact .inr (.inr rfl));simp only[gO];exact⟨q.1,q'.1,kW first _ q h1 (λ x hx=>ho x (by simp[hx])),kW caps _ q' h2 (λ x hx=>ho x (by simp[hx])),.inr ⟨_,rfl,h3.1,h3.2⟩⟩;cases h
 |.en Z,hs,p,h,_=>by simp[qw]at h;subst h;simp[gO]
 |.mp _,_,_,h,_=>by simp[qw]at h
 |.oz k len,hs,p,h,ho=>by simp[qw]at h;split at h;simp[ah]at h;obtain⟨o,h1,rfl⟩:=h;have h2:=ho _ (aI.2 rfl);simp only[gO];exact⟨o,_,h1,rfl,h2.1,h2.2⟩;cases h
 |.cD,hs,p,h,_=>by simp[qw]at h;split at h;cases h;simp[gO];cases h;simp[gO];cases h
 |.ub,_,_,h,_|.undef,_,_,h,_=>by simp[qw]at h
theorem kW{get:Nat->Option aR}:∀(xs:List AV)(hs:List LH)(p:List AV×List LH×List Prop),nW P get xs hs=some p->(∀ q∈p.2.2,q)->gj P get xs p.1
 |[],hs,p,h,_=>by simp[nW]at h;subst h;simp[gj]
 |x::xs,hs,p,h,ho=>by simp only[nW,ah,bX]at h;obtain⟨q,h1,q',h2,rfl⟩:=h;simp;exact⟨FK x hs q h1 (λ y hy=>ho y (by simp[hy])),kW xs _ q' h2 (λ y hy=>ho y (by simp[hy]))⟩
end
theorem sN:∀(l:U Prop),jD l->∀p∈l,p
 |[],_,_,hp=>by simp at hp
 |[q],h,p,hp=>by rw[aI]at hp;rw[hp];exact h
 |q::r::l,h,p,hp=>by rcases aG.1 hp with e|hp;rw[e];exact h.1;exact sN (r::l) h.2 p hp
theorem Tree.mz{w':Y}{I':Ψ}:∀{x:Tree}{v:Value},x.flat->TR w I x v->TR w' I' x v
 |.sc _,_,_,h=>by simpa[TR]using h
 |.sl _,_,hf,_=>hf.elim
theorem TV.xe{w':Y}{I':Ψ}:∀{x:TV}{v:Value},x.flat->uu w I x v->uu w' I' x v
 |.s _,_,hf,h=>Tree.mz hf h
 |.a cs,v,hf,⟨vs,h1,h2⟩=>by
  refine⟨vs,h1,?_⟩;have:∀(cs:U Tree)(vs:U Value),(∀ x∈cs,x.flat)->fm w I cs vs->fm w' I' cs vs:=by
   intro cs
   induction cs with
   |nil=>intro vs _ h;cases vs with
    |nil=>trivial
    |cons=>exact h.elim
   |cons x xs ih=>intro vs hf h;cases vs with
    |nil=>exact h.elim
    |cons v vs=>exact⟨Tree.mz (hf x (by simp)) h.1,ih vs (λ y hy=>hf y (by simp[hy])) h.2⟩
  exact this cs vs.toList hf h2
theorem cj.flat{β':Ω}{w':Y}{I':Ψ}(rows:U (List Tree))(c:Array Value)(ab sz:Nat)(hf:∀r∈rows,∀x∈r,Tree.flat x)(h:cj P G w I (aK rows) c ab sz):cj P β' w' I' (aK rows) c ab sz:=by rw[qg]at h |-;intro i r hr;have⟨h1,h2⟩:=h i r hr;refine⟨h1,?_⟩;rw[j4]at h2 |-;intro j x hx;have⟨v,g1,g2,g3⟩:=h2 j x hx;refine⟨v,g1,?_,g3⟩;simp[aK]at hr;obtain⟨r',hr',rfl⟩:=hr;simp at hx;obtain⟨x',hx',rfl⟩:=hx;exact Tree.mz (hf r' (dM hr') x' (dM hx')) g2
theorem TV.L4{x:TV}{v:Value}(h:uu w I x v):VR P G w I x.av v:=by
 cases x with
 |s x=>simp[TV.av];exact h
 |a cs=>
  obtain⟨vs,rfl,h⟩:=h;refine⟨vs,rfl,?_⟩;have:∀(cs:U Tree)(us:U Value),fm w I cs us->bp P G w I (cs.map AV.t) us:=by
   intro cs
   induction cs with
   |nil=>intro us h;cases us with
    |nil=>simp[bp]
    |cons=>simp[fm]at h
   |cons x xs ih=>intro us h;cases us with
    |nil=>simp[fm]at h
    |cons y ys=>simp[fm]at h;simp;exact⟨h.1,ih _ h.2⟩
  exact this cs vs.toList h
theorem Mem.fresh{i:Nat}{obj:E}{F:Ψ}{sz:Nat}{rows:U (List Tree)}{v:Value}(h:Mem P w0 O0 G I obj w)(hn:G i=none)(hlt:∀k o b,obj k=some o->il G k b->¬F b)(hle:∀b,F b->O0.own b\/w0.heap.size<=b)(hf:Su P F sz rows w I v):
 ∃ β',Step G I w i β' I w/\Mem P w0 O0 β' I (dw obj [(i,some ⟨sz,aK rows⟩)]) w/\VR P β' w I (.own i 0 rows.length) v:=by
 rcases hf with ⟨rfl,rfl⟩|⟨b,c,e,cap,o,s,rfl,h1,h2,h3,h4,h5,h6,h7⟩;have⟨hS,hM⟩:=Mem.m8 (i:=i) (o:=⟨sz,aK []⟩) h hn rfl;exact⟨_,hS,hM,by simp only[VR];exact .inl ⟨by simp[ins],trivial,trivial,rfl⟩⟩;have hsl:s<=c.size:=by omega
 have hS:Step G I w i (ins G i (.at b sz ⟨c.size,s,hsl⟩)) I w:=⟨λ j hj=>by simp[ins,jt.ne hj],oZ hn,λ_ _=>rfl,λ_ h=>h⟩;refine⟨_,hS,?_,by simp only[VR];exact .inr ⟨b,sz,⟨c.size,s,hsl⟩,cap,o,by simp[ins],rfl,h4,by simpa using h5,λhc=>by simpa using h7 hc⟩⟩;have hbl:b<w.heap.size:=(Array.getElem?_eq_some_iff.1 h3).1;constructor;intro k o' hk;simp[dw]at hk;split at hk;cases hk;rename_i hki;exact⟨.at b sz ⟨c.size,s,hsl⟩,by simp[ins,hki],rfl,c,e,h3,rfl,cj.mono (λ k B h=>by simp[nj]at h) (λ _ _=>rfl) (λ _ h=>h) _ _ _ _ h6⟩;have⟨B,hB,hO⟩:=h.c8 k o' hk;exact⟨B,oZ hn _ _ hB,OR.mono hS.ext hS.same hS.inc (λ _ _=>rfl) hO⟩;intro k k' o1 o2 B1 B2 b1 e1 e2 e3 e4 e5 e6;simp[dw]at e1 e2;simp[ins]at e3 e4;split at e3<;>split at e4;rename_i p q;rw[p,q];rename_i p q;cases e3;cases e5;rw[aC q]at e2;exact(hlt k' o2 _ e2 ⟨_,e4,e6⟩ h1).elim;rename_i p q;cases e4;cases e6;rw[aC p]at e1;exact(hlt k o1 _ e1 ⟨_,e3,e5⟩ h1).elim;rename_i p q;rw[aC p]at e1;rw[aC q]at e2;exact h.ir k k' o1 o2 B1 B2 b1 e1 e2 e3 e4 e5 e6;intro k o' B1 b1 e1 e2 e3;simp[dw]at e1;simp[ins]at e2;split at e2;cases e2;cases e3;exact⟨h2,hbl,hle _ h1⟩;rename_i p;rw[aC p]at e1;exact h.ownB k o' B1 b1 e1 e2 e3;exact h.lt;exact h.up;exact h.keep;exact h.le;exact h.os;exact h.tape;exact h.output;intro j C hj;exact oZ hn _ _ (h.anch j C hj);exact h.vars
theorem XE{i:Nat}{ae:U Nat}{F:Ψ}{βc:Ω}{c:RC}{v:Value}(h:Mem P w0 O0 G I obj w)(hn:G (cE i)=none)(hlt:∀k o b,obj k=some o->il G k b->¬F b)(hle:∀b,F b->O0.own b\/w0.heap.size<=b)(hbc:∀j B,βc j=some B->∃k,ae[j]? =some k/\G k=some B)(hc:B7 P F βc c w I v):
 ∃ β',Step G I w (cE i) β' I w/\Mem P w0 O0 β' I (dw obj (LJ i ae c).2) w/\VR P β' w I (LJ i ae c).1 v/\((LJ i ae c).2=[]->β'=G):=by
 cases c with
 |d x=>exact⟨G,Step.refl ..,h,TV.L4 hc,λ_=>rfl⟩
 |fresh sz rows=>
  have⟨β',h1,h2,h3⟩:=Mem.fresh (i:=cE i) h hn hlt hle hc;exact⟨β',h1,h2,by simpa[LJ,aK]using h3,λh=>by simp[LJ]at h⟩
 |whole j len=>
  refine⟨G,Step.refl ..,h,?_,λ_=>rfl⟩;have hc:VR P βc w I (.own j 0 len) v:=hc;simp[LJ]
  all_goals grind [VR]
theorem XF{i:Nat}{ae:U Nat}{F:Ψ}{βc:Ω}:∀(cs:U RC)(vs:U Value)(p:U AV×List (Nat×Option aR)),Mem P w0 O0 G I obj w->G (cE i)=none->(∀ k o b,obj k=some o->il G k b->¬F b)->(∀ b,F b->O0.own b\/w0.heap.size<=b)->(∀ j B,βc j=some B->∃k,ae[j]? =some k/\G k=some B)->
 OM i ae cs=some p->Xp P F βc cs w I vs->∃ β',Step G I w (cE i) β' I w/\Mem P w0 O0 β' I (dw obj p.2) w/\bp P β' w I p.1 vs/\(p.2=[]->β'=G)
 |[],[],p,h,_,_,_,_,hp,_=>by simp[OM]at hp;subst hp;exact⟨G,Step.refl ..,h,by simp[bp],λ_=>rfl⟩
 |c::cs,v::vs,p,h,hn,hlt,hle,hbc,hp,hr=>by
  simp[Xp]at hr;simp[OM]at hp;cases hq:OM i ae cs with
  |none=>simp[hq]at hp
  |some q=>
   simp only[hq,ai]at hp;split at hp;rename_i hem;simp at hp;subst hp;have⟨β1,g1,g2,g3,g4⟩:=XE (i:=i) h hn hlt hle hbc hr.1;have⟨β2,k1,k2,k3,k4⟩:=XF cs vs q h hn hlt hle hbc hq hr.2;have DA:(LJ i ae c).2=[]\/q.2=[]:=(by simpa using hem);rcases DA with hem|hem;have:=g4 hem;subst this;refine⟨β2,k1,by simpa[hem]using k2,?_,λh0=>k4 (by simpa[hem]using h0)⟩;simp;exact⟨VR.mono k1.ext k1.same k1.inc _ _ g3,k3⟩;have:=k4 hem;subst this;refine⟨β1,g1,by simpa[hem]using g2,?_,λh0=>g4 (by simpa[hem]using h0)⟩;simp;exact⟨g3,bp.mono g1.ext g1.same g1.inc _ _ k3⟩;cases hp
 |[],_::_,_,_,_,_,_,_,_,hr|_::_,[],_,_,_,_,_,_,_,hr=>by simp[Xp]at hr
theorem RH{i:Nat}{ae:U Nat}{F:Ψ}{βc:Ω}{rv:RV}{v:Value}{p:AV×List (Nat×Option aR)}(h:Mem P w0 O0 G I obj w)(hn:G (cE i)=none)(hlt:∀k o b,obj k=some o->il G k b->¬F b)(hle:∀b,F b->O0.own b\/w0.heap.size<=b)(hbc:∀j B,βc j=some B->∃k,ae[j]? =some k/\G k=some B)
 (hp:imp i ae rv=some p) (hr:sf P F βc rv w I v):∃ β',Step G I w (cE i) β' I w/\Mem P w0 O0 β' I (dw obj p.2) w/\VR P β' w I p.1 v:=by
 cases rv with
 |one c=>
  simp[imp]at hp;subst hp;have⟨β',h1,h2,h3,_⟩:=XE (i:=i) h hn hlt hle hbc hr;exact⟨β',h1,h2,h3⟩
 |fR cs=>
  simp[imp]at hp;cases hq:OM i ae cs with
  |none=>simp[hq]at hp
  |some q=>
   simp[hq]at hp;subst hp;obtain⟨vs,rfl,hvs⟩:=hr;have⟨β',h1,h2,h3,_⟩:=XF (i:=i) cs vs.toList q h hn hlt hle hbc hq hvs;exact⟨β',h1,h2,by simp only[VR];exact⟨vs,rfl,h3⟩⟩
theorem uo(obj:E):∀(a b:U (Nat×Option aR))(k:Nat),dw obj (a++b) k=dw (dw obj b) a k
 |[],_,_=>rfl
 |(j,o)::a,b,k=>by simp[dw,uo obj a b k]
theorem zJ(obj:E):∀(ae:U Nat)(k:Nat),dw obj (ae.map λk=>(k,none)) k=if k∈ae then none else obj k
 |[],k=>by simp[dw]
 |j::ae,k=>by simp[dw,zJ obj ae k];by_cases h:k=j<;>simp[h]
end
section
variable {P:Program} {T:eS} {w0:World} {O0:k5} {G:Nat->Option cW} {I:Nat->Prop} {obj:Nat->Option aR} {w:World} {i:Nat}
theorem sf.flat{F:Ψ}{βc:Ω}{w':Y}{I' GO:Ψ}{rv:RV}{v:Value}(hf:rv.flat)(hI:∀b,GO b->I' b)(h:sf P F βc rv w' I' v):sf P F βc rv w' GO v:=by
 have hc:∀(c:RC)(v:Value),c.flat->B7 P F βc c w' I' v->B7 P F βc c w' GO v:=by
  intro c v hf h;cases c with
  |d x=>exact TV.xe hf h
  |fresh sz rows=>
   rcases h with h|⟨b,c,e,cap,o,s,h1,h2,h3,h4,h5,h6,h7,h8⟩;exact .inl h;exact .inr ⟨b,c,e,cap,o,s,h1,h2,λhb=>h3 (hI b hb),h4,h5,h6,cj.flat rows c s sz hf h7,h8⟩
  |whole j len=>have h:VR P βc w' I' (.own j 0 len) v:=h;show VR P βc w' GO (.own j 0 len) v;simp[VR]at h |-;exact h
 cases rv with
 |one c=>exact hc c v hf h
 |fR cs=>
  obtain⟨vs,rfl,h⟩:=h;refine⟨vs,rfl,?_⟩;have:∀(cs:U RC)(vs:U Value),(∀ c∈cs,c.flat)->Xp P F βc cs w' I' vs->Xp P F βc cs w' GO vs:=by
   intro cs
   induction cs with
   |nil=>intro vs _ h;cases vs with
    |nil=>trivial
    |cons=>exact h.elim
   |cons c cs ih=>intro vs hf h;cases vs with
    |nil=>exact h.elim
    |cons v vs=>exact⟨hc c v (hf c (by simp)) h.1,ih vs (λ y hy=>hf y (by simp[hy])) h.2⟩
  exact this cs vs.toList hf h
theorem XG(h:Mem P w0 O0 G I obj w)(hn:G (cE i)=none){ae:U Nat}{rv:RV}{p:AV×List (Nat×Option aR)}{keep:Bool}(hp:imp i [] rv=some p)(hk:keep=true->rv.flat)
 {w':Y} {I1:Ψ} {v:Value} (hb:Below w.heap.size w w') (h1:∀b,gC G obj ae I b->I1 b) (h2:∀b,I1 b->b<w'.heap.size) (h3:∀b,I1 b->gC G obj ae I b\/w.heap.size<=b) (hr:sf P (PH w) nj rv w' I1 v):
 ∃ β' I',Step G I w (cE i) β' I' w'/\Mem P w0 O0 β' I' (dw obj (p.2++if keep then []else ae.map (λ k=>(k,none)))) w'/\VR P β' w' I' p.1 v:=by
 have hlt:∀(ov:Nat->J aR),(∀ k o,ov k=some o->obj k=some o)->∀k o b,ov k=some o->il G k b->¬PH w b:=λov hs k o b e1 e2 hb=>Nat.lt_irrefl _ (Nat.lt_of_lt_of_le (h.kq k o b (hs k o e1) e2).2.1 hb);have hnew:∀b,PH w b->O0.own b\/w0.heap.size<=b:=λb hb=>.inr (Nat.le_trans h.le hb);have hup:∀b,I1 b->O0.IH b\/O0.own b\/w0.heap.size<=b:=λb hb'=>by rcases h3 b hb' with (h5|⟨k',o',s',n',g1,g2,g3⟩)|h5;exact h.up b h5;exact .inr (h.own k' o' b s' n' g2 g3).2.2;exact .inr (.inr (Nat.le_trans h.le h5))
 cases keep with
 |true=>
  obtain⟨hS,hM⟩:=h.below (I':=λb=>I1 b/\(I b\/w.heap.size<=b)) hb (λ b hb'=>⟨h1 b (.inl hb'),.inl hb'⟩) (λ b hb'=>h2 b hb'.1) (λ b k o B hb' e1 e2 e3=>by obtain⟨a1,a2,_⟩:=h.ownB k o B b e1 e2 e3;rcases hb'.2 with h5|h5;exact a1 h5;omega) (λ b hb'=>hup b hb'.1);obtain⟨β',k1,k2,k3⟩:=RH hM hn (hlt obj (λ _ _ h=>h)) hnew (λ _ _ h=>by cases h) hp (sf.flat (hk rfl) (λ b hb=>hb.1) hr);refine⟨β',_,⟨k1.other,k1.ext,hS,λb hb'=>⟨h1 b (.inl hb'),.inl hb'⟩⟩,?_,k3⟩;simpa using k2
 |false=>
  have hsub:∀k o,dw obj (ae.map λk=>(k,none)) k=some o->obj k=some o/\k∉ae:=by intro k o hk;rw[zJ]at hk;split at hk;cases hk;exact⟨hk,‹_›⟩
  have hd:=h.drop (dw obj (ae.map λk=>(k,none))) (λ k o hk=>(hsub k o hk).1);obtain⟨hS,hM⟩:=hd.below (I':=I1) hb (λ b hb'=>h1 b (.inl hb')) h2 (λ b k o B hb' e1 e2 e3=>by obtain⟨f1,f2⟩:=hsub k o e1;have⟨a1,a2,_⟩:=h.ownB k o B b f1 e2 e3;rcases h3 b hb' with (h5|⟨k',o',s',n',g1,g2,g3⟩)|h5;exact a1 h5;have:=h.ox k k' o o' b f1 g2 ⟨B,e2,e3⟩ (.at g3);subst this;exact f2 g1;omega) hup;obtain⟨β',k1,k2,k3⟩:=RH hM hn (hlt _ (λ k o hk=>(hsub k o hk).1)) hnew (λ _ _ h=>by cases h) hp hr;refine⟨β',I1,⟨k1.other,k1.ext,hS,λb hb'=>h1 b (.inl hb')⟩,?_,k3⟩;simp;have e:dw obj (p.2++ae.map λk=>(k,none))=dw (dw obj (ae.map λk=>(k,none))) p.2:=funext λk=>uo obj _ _ k;rw[e];exact k2
theorem OO(h:Mem P w0 O0 G I obj w)(ae:U Nat):∀b,gC G obj ae I b->b<w.heap.size:=by intro b hb;rcases hb with hb|⟨k,o,s,n,_,h2,h3⟩;exact h.lt b hb;exact(h.own k o b s n h2 h3).2.1
theorem aa0(h:Mem P w0 O0 G I obj w)(hn:G (cE i)=none){f:AV}{args:U AV}{cL:kh}{get:E}{aa:Out}(hg:∀k o,get k=some o->obj k=some o)
 {fv:Value} {vs:Array Value} {am:Array Operand} {fo:Operand} {r:Operand->Value} (ha:BJ P i f args cL get=some aa) (cX:aa.ob) (hf:VR P G w I f fv) (hv:bp P G w I args vs.toList) (hfo:r fo=fv) (hops:vs=am.map r)
 {dst:J Tmp} {aq:String} {after:Array Edge} {guard:J (Nat×Bool)} {ty:V} {d6:Array TypeId}:
 BK P w0 O0 G I obj w i aa ((execOp r ⟨dst,.call { callee:=.value fo,args:=am,argTypes:=d6 },ty,aq,after,guard⟩).run P w):=by
 have enter : ∀ (F : FuncId) (first caps : Array Value) (args' : Array Value), (∃ fn, P.funcs[F]? = some fn /\ fn.body.isSome = true /\ (fn.name == "runtime.NumGoroutine") = false) -> fv = .func (.func F) first caps -> args' = first ++ vs ++ caps ->
  (execOp r ⟨dst,.call { callee:=.value fo,args:=am,argTypes:=d6 },ty,aq,after,guard⟩).run P w=.ok (.enter F args') w:=by
  rintro F first caps args' ⟨fn,e1,e2,e3⟩ e4 rfl
  have hb:¬fn.body=none:=by cases hh:fn.body<;>simp[hh]at e2 |-
  have e3' : ¬ fn.name = "runtime.NumGoroutine" := by simpa using e3
  simp[execOp,resolve,hfo,e4,<- hops,Deferred.ofValue,invoke,callFunc,e1,e3',hb]
 unfold BJ at ha;split at ha;rename_i F first caps hs rv keep
 cases hp:imp i [] rv with
 |none=>simp[hp]at ha
 |some p=>
  cases hq:nW P get (first++args++caps) hs with
  |none=>simp only[hp,hq,ai,Option.bind_none,reduceCtorEq]at ha
  |some q=>
  simp only[hp,hq,ai]at ha;simp[VR]at hf;obtain⟨fs,cs,rfl,hf1,hf2⟩:=hf
  have fin:∀(keep:Bool),gj P get (first++args++caps) q.1->tE P F q.1 rv->(keep=true->rv.flat)->
   aa=⟨p.1,p.2++(if keep then []else(cu (first++args++caps)).map (λ k=>(k,none))),aa.obs⟩->BK P w0 O0 G I obj w i aa ((execOp r ⟨dst,.call { callee:=.value fo,args:=am,argTypes:=d6 },ty,aq,after,guard⟩).run P w):=by intro keep hb hF hk hout;obtain⟨DD,hcon⟩:=hF;have hall:bp P G w I (first++args++caps) (fs++vs++cs).toList:=(by simp only[Array.toList_append];exact bp.append _ _ _ _ (bp.append _ _ _ _ hf1 hv) hf2);have pm:=gj.sound h (cu (first++args++caps)) _ _ _ (λ k hk=>hk) (gj.weaken hg _ _ hb) hall;refine⟨F,fs++vs++cs,enter F fs cs _ DD rfl rfl,(hcon w _ _ (OO h _) (h.vars.mono (λ _ _=>rfl) (λ b hb=>.inl hb)) pm).mono ?_⟩;rintro e w' ⟨v',I1,rfl,hbel,g1,g2,g3,g4⟩;have⟨β',I',k1,k2,k3⟩:=XG (keep:=keep) h hn hp hk hbel g1 g2 g3 g4;rw[hout];exact⟨v',β',I',rfl,k1,k2,k3⟩
  cases keep with
  |true=>
   simp at ha;subst ha;have cX:=sN _ cX;exact fin true (kW _ _ _ hq λx hx=>cX x (by simp[hx])) (cX (tE P F q.1 rv) (by simp)) (λ _=>cX rv.flat (by simp)) (by simp)
  |false=>
   simp at ha;subst ha;have cX:=sN _ cX;exact fin false (kW _ _ _ hq λx hx=>cX x (by simp[hx])) (cX (tE P F q.1 rv) (by simp)) (λ h=>by cases h) (by simp)
 .rename_i Z hs targs rr keep;cases hq:nW P get args hs with
  |none=>simp[hq]at ha
  |some q=>
  simp[hq]at ha;simp[VR]at hf;obtain⟨F,fs,cs,rfl,_,hF1,hF2,hF3⟩:=hf;obtain⟨fn,hfn⟩:=Option.isSome_iff_exists.1 hF2
  have fin:∀(keep:Bool),gj P get args (targs.map TV.av)->Z targs rr->(keep=true->rr.flat)->
   aa=⟨rr.av,[]++(if keep then []else(cu args).map (λ k=>(k,none))),aa.obs⟩->BK P w0 O0 G I obj w i aa ((execOp r ⟨dst,.call { callee:=.value fo,args:=am,argTypes:=d6 },ty,aq,after,guard⟩).run P w):=by
   intro keep hb hφ hk hout;have pm:=gj.sound h (cu args) _ _ _ (λ k hk=>hk) (gj.weaken hg _ _ hb) hv;have htv:∀(xs:U TV) (us:U Value),bp P nj w (gC G obj (cu args) I) (xs.map TV.av) us->m9 w (gC G obj (cu args) I) xs us:=by
    intro xs
    induction xs with
    |nil=>intro us h;cases us with
     |nil=>trivial
     |cons=>simp[bp]at h
    |cons x xs ih=>intro us h;cases us with
     |nil=>simp[bp]at h
     |cons u us=>
      simp at h;refine⟨?_,ih us h.2⟩;cases x with
      |s x=>simpa[TV.av,VR,uu]using h.1
      |a cs=>
       simp[TV.av]at h;obtain⟨⟨vs',rfl,h1⟩,_⟩:=h;refine⟨vs',rfl,?_⟩;have:∀(cs:U Tree) (us:U Value),bp P nj w (gC G obj (cu args) I) (cs.map AV.t) us->fm w (gC G obj (cu args) I) cs us:=by
        intro cs
        induction cs with
        |nil=>intro us h;cases us with
         |nil=>trivial
         |cons=>simp[bp]at h
        |cons c cs ih=>intro us h;cases us with
         |nil=>simp[bp]at h
         |cons u us=>simp at h;exact⟨h.1,ih us h.2⟩
       exact this cs _ h1
   refine⟨F,fs++vs++cs,enter F fs cs _ ⟨fn,hfn,(hF1 fn hfn).1,(hF1 fn hfn).2⟩ rfl rfl,(hF3 w _ targs vs rr (λ b hb=>Or.inl hb) (λ _ _=>rfl) (OO h _) hφ (htv _ _ pm)).mono ?_⟩;rintro e w' ⟨v',I1,rfl,hbel,g1,g2,g3,g4⟩;have⟨β',I',k1,k2,k3⟩:=XG (i:=i) (rv:=.one (.d rr)) (p:=(rr.av,[])) (keep:=keep) h hn rfl hk hbel g1 g2 g3 g4;rw[hout];exact⟨v',β',I',rfl,k1,k2,k3⟩
  cases keep with
  |true=>
   simp at ha;subst ha;have cX:=sN _ cX;have e:q.1=targs.map TV.av:=cX _ (by simp);exact fin true (e ▸ kW _ _ _ hq λx hx=>cX x (by simp[hx])) (cX (Z targs rr) (by simp)) (λ _=>cX rr.flat (by simp)) (by simp)
  |false=>
   simp at ha;subst ha;have cX:=sN _ cX;have e:q.1=targs.map TV.av:=cX _ (by simp);exact fin false (e ▸ kW _ _ _ hq λx hx=>cX x (by simp[hx])) (cX (Z targs rr) (by simp)) (λ h=>by cases h) (by simp)
 cases ha
end
abbrev fD:=Nat×List (List Tree)
def iS(p:fD):aR:=⟨p.1,aK p.2⟩
def sA(os:U fD)(k:Nat):J aR:=(os[k]?).map iS
def Ei(os:U (Option fD))(k:Nat):J aR:=((os[k]?).join).map iS
def XH(G:Ω)(b:Nat):Prop:=∃j,il G j b
def q9(G:Ω)(I:Ψ):k5:=⟨XH G,I,λj=>if j<1000 then G j else none,λj B h=>by
 split at h
 .assumption
 .cases h⟩
def BW(w:Y)(G:Ω)(os':U (Option fD))(b:Nat):Prop:=(XH G b\/w.heap.size<=b)/\∀k o,Ei os' k=some o->¬il G k b
def PF(P:Ξ)(w:Y)(G:Ω)(I:Ψ)(os':U (Option fD))(rv:RV)(e:Ending)(w':Y):Prop:=
 ∃v I',e=.returned v/\Mem P w (q9 G I) G I' (Ei os') w'/\(∀ b,I b->I' b)/\sf P (BW w G os') G rv w' I' v
def rN(P:Ξ)(f:FuncId)(args:U AV)(os:U fD)(os':U (Option fD))(rv:RV):Prop:=
 fP P f/\∀(w:World) (G:Nat->J cW) (I:Nat->Prop) (vs:Array Value),(∀ k,os.length<=k->G k=none)->Mem P w (q9 G I) G I (sA os) w->bp P G w I args vs.toList->Calls P f vs w (PF P w G I os' rv)
def βc(ae:U Nat)(G:Ω)(j:Nat):J cW:=(ae[j]?).bind G
section
variable (P:Program) (get:Nat->Option aR) (ae:List Nat)
mutual
def sj:AV->List LH->Option (AV×List LH×List Prop)
 |.own k ab len,.mut j::hs=>if ae[j]? =some k then some (.own j ab len,hs,[])else none
 |.ptr k row ab,.mut j::hs=>if ae[j]? =some k then some (.ptr j row ab,hs,[])else none
 |.mp k,.mut j::hs=>if ae[j]? =some k then some (.mp j,hs,[])else none
 |.agg cs,.agw::hs=>(nL cs hs).bind λp=>some (.agg p.1,p.2.1,p.2.2)
 |.agg cs,.agd::hs=>if (cu cs).all (λ k=>!ae.contains k)then qw P get (.agg cs) hs else none
 |.fn F first caps,.fnw::hs=>(nL first hs).bind λp=>(nL caps p.2.1).bind λq=>some (.fn F p.1 q.1,q.2.1,p.2.2++q.2.2)
 |x,hs=>if (refs x).all (λ k=>!ae.contains k)then qw P get x hs else none
def nL:List AV->List LH->Option (List AV×List LH×List Prop)
 |[],hs=>some ([],hs,[])
 |x::xs,hs=>(sj x hs).bind λp=>(nL xs p.2.1).bind λq=>some (p.1::q.1,q.2.1,p.2.2++q.2.2)
end
def CB:U (List AV)->U (List LH)->J (List (List AV)×List Prop)
 |[],[]=>some ([],[])
 |r::rs,h::hs=>(nL P get ae r h).bind λp=>(CB rs hs).bind λq=>some (p.1::q.1,p.2.2++q.2)
 |_,_=>none
def mN(x y:AV):Prop:=
 (∃ j k ab len,ae[j]? =some k/\x=.own k ab len/\y=.own j ab len)\/(∃ j k row ab,ae[j]? =some k/\x=.ptr k row ab/\y=.ptr j row ab)\/(∃ j k,ae[j]? =some k/\x=.mp k/\y=.mp j)\/((∀ k∈refs x,k∉ae)/\gO P get x y)
mutual
def js:AV->AV->Prop
 |.fn F f1 c1,.fn β f2 c2=>(F=β/\gz f1 f2/\gz c1 c2)\/mN P get ae (.fn F f1 c1) (.fn β f2 c2)
 |.agg c1,.agg c2=>gz c1 c2\/mN P get ae (.agg c1) (.agg c2)
 |x,y=>mN P get ae x y
def gz:List AV->List AV->Prop
 |[],[]=>True
 |x::xs,y::ys=>js x y/\gz xs ys
 |_,_=>False
end
theorem js.base{x y:AV}(h:mN P get ae x y):js P get ae x y:=by cases x<;>cases y<;>simp[js]<;>first|exact h|exact .inr h
end
def FL(get:E):U Nat->U fD->J (List Prop)
 |[],[]=>some []
 |k::ae,p::os=>(get k).bind λo=>(FL get ae os).bind λl=>some ((o.sz=p.1/\dZ (o.rows.take p.2.length)=aK p.2)::l)
 |_,_=>none
def CF:U Nat->U (Option fD)->U (Nat×Option aR)
 |k::ae,p::os=>(k,p.map iS)::CF ae os
 |_,_=>[]
def Jh(xs:U AV)(ae:U Nat):U Nat:=(cu xs).filter λk=>!ae.contains k
def XI(os':U (Option fD)):Prop:=∀p,some p∈os'->∀r∈p.2,∀x∈r,Tree.flat x
def Ji(P:Ξ)(i:Nat)(f:AV)(args:U AV)(cL:kh)(get:E):J Out:=
 match f,cL with
 |.fn F first caps,.ur ae os os' hs rv keep=>if ae.Nodup/\os'.length=ae.length then(imp i ae rv).bind λp=>(FL get ae os).bind λmo=>(nL P get ae (first++args++caps) hs).bind λq=>
  if keep then some ⟨p.1,p.2++CF ae os',q.2.2++mo++[rN P F q.1 os os' rv,rv.flat,XI os']⟩
  else some ⟨p.1,p.2++(CF ae os'++(Jh (first++args++caps) ae).map λk=>(k,none)),q.2.2++mo++[rN P F q.1 os os' rv]⟩
  else none
 |_,_=>none
def sO(P:Ξ)(i:Nat)(f:AV)(args:U AV)(cL:kh)(get:E):J Out:=
 match cL with
 |.ur .. =>Ji P i f args cL get
 |_=>BJ P i f args cL get
section
variable {P:Program} {T:eS} {w0:World} {O0:k5} {G:Nat->Option cW} {I:Nat->Prop} {obj:Nat->Option aR} {w:World} {i:Nat}
theorem OQ{ae:U Nat}{j:Nat}{B:cW}(h:βc ae G j=some B):∃k,ae[j]? =some k/\G k=some B:=by simpa[βc,ah]using h
theorem cj.dat{β':Ω}{I':Ψ}(hI:∀b,I b->I' b)(rows:U (List Tree))(c:Array Value)(ab sz:Nat)(h:cj P G w I (aK rows) c ab sz):cj P β' w I' (aK rows) c ab sz:=by rw[qg]at h |-;intro i r hr;have⟨h1,h2⟩:=h i r hr;refine⟨h1,?_⟩;rw[j4]at h2 |-;intro j x hx;have⟨v,g1,g2,g3⟩:=h2 j x hx;refine⟨v,g1,?_,g3⟩;simp[aK]at hr;obtain⟨r',hr',rfl⟩:=hr;simp at hx;obtain⟨x',hx',rfl⟩:=hx;exact TR.mono (λ _ _=>rfl) hI _ _ g2
theorem bp.LR{β':Ω}{I':Ψ}(hI:∀b,I b->I' b):∀(r:U Tree)(vs:U Value),bp P G w I (r.map AV.t) vs->bp P β' w I' (r.map AV.t) vs
 |[],[],_=>by simp[bp]
 |x::xs,v::vs,h=>by exact⟨TR.mono (λ _ _=>rfl) hI _ _ h.1,bp.LR hI xs vs h.2⟩
 |[],_::_,h|_::_,[],h=>by simp[bp]at h
theorem cQ.dat{β':Ω}{I':Ψ}(hI:∀b,I b->I' b):∀(rs:U (List Tree))(es:U MapEntry),cQ P G w I (aK rs) es->cQ P β' w I' (aK rs) es
 |[],[],_=>trivial
 |r::rs,_::es,⟨h1,h4⟩=>⟨bp.LR hI r _ h1,cQ.dat hI rs es h4⟩
 |[],_::_,h|_::_,[],h=>h.elim
theorem bp.AN{β':Ω}{I':Ψ}:∀(r:U Tree)(vs:U Value),(∀ x∈r,Tree.flat x)->bp P G w I (r.map AV.t) vs->bp P β' w I' (r.map AV.t) vs
 |[],[],_,_=>by simp[bp]
 |x::xs,v::vs,hf,h=>by exact⟨Tree.mz (hf x (by simp)) h.1,bp.AN xs vs (λ y hy=>hf y (by simp[hy])) h.2⟩
 |[],_::_,_,h|_::_,[],_,h=>by simp[bp]at h
theorem cQ.flat{β':Ω}{I':Ψ}:∀{rs:U (List Tree)}(_:∀r∈rs,∀x∈r,Tree.flat x)(es:U MapEntry),cQ P G w I (aK rs) es->cQ P β' w I' (aK rs) es
 |[],_,[],_=>trivial
 |r::rs,hf,_::es,⟨h1,h4⟩=>⟨bp.AN r _ (hf r (by simp)) h1,cQ.flat (λ r' hr=>hf r' (by simp[hr])) es h4⟩
 |[],_,_::_,h|_::_,_,[],h=>h.elim
theorem OR.part{o:aR}{p:fD}{b:Nat}(g4:o.sz=p.1)(g5:dZ (o.rows.take p.2.length)=aK p.2)(h:OR P G w I o (.mp b)):OR P G w I (iS p) (.mp b):=by
 obtain⟨es,cl,h1,hle,h2,h3⟩:=h;have hl:=congrArg List.length g5;simp[dZ,aK]at hl;refine⟨es,cl,h1,by simp[iS,aK];omega,λe=>?_,h3⟩;have e':p.1=p.2.length:=by simpa[iS,aK]using e
 have:=cQ.wk _ _ (h2 (by omega));rw[take_of_length_le (by omega)]at g5;show cQ P G w I (aK p.2) es.toList;rw[<- g5];exact this
theorem OR.dat{β':Ω}{I':Ψ}(hI:∀b,I b->I' b){p:fD}{B:cW}(h:OR P G w I (iS p) B):OR P β' w I' (iS p) B:=by
 cases B with
 |none=>exact h
 | «at» b s n=>
  obtain⟨h1,c,e,h2,h3,h4⟩:=h;exact⟨h1,c,e,h2,h3,cj.dat hI _ _ _ _ h4⟩
 |mp b=>
  obtain⟨es,cl,h1,hle,h2,h3⟩:=h;exact⟨es,cl,h1,hle,λe=>cQ.dat hI _ _ (h2 e),h3⟩
theorem OR.flat{β':Ω}{I':Ψ}{p:fD}{B:cW}(hf:∀r∈p.2,∀x∈r,Tree.flat x)(h:OR P G w I (iS p) B):OR P β' w I' (iS p) B:=by
 cases B with
 |none=>exact h
 | «at» b s n=>
  obtain⟨h1,c,e,h2,h3,h4⟩:=h;exact⟨h1,c,e,h2,h3,cj.flat _ _ _ _ hf h4⟩
 |mp b=>
  obtain⟨es,cl,h1,hle,h2,h3⟩:=h;exact⟨es,cl,h1,hle,λe=>cQ.flat hf _ (h2 e),h3⟩
theorem Uy{get:E}:∀{ae:U Nat}{os:U fD}{l:U Prop},FL get ae os=some l->(∀ q∈l,q)->ae.length=os.length/\∀(j:Nat) k p,ae[j]? =some k->os[j]? =some p->∃o,get k=some o/\o.sz=p.1/\dZ (o.rows.take p.2.length)=aK p.2
 |[],[],_,_,_=>⟨rfl,λj k p h=>by simp at h⟩
 |k::ae,p::os,l,h,hq=>by
  simp[FL,ah]at h;obtain⟨o,h1,l',h2,rfl⟩:=h;obtain⟨h3,h4⟩:=Uy h2 (λ q hq'=>hq q (by simp[hq']));refine⟨by simp[h3],λj k' p' hj hj'=>?_⟩;cases j with
  |zero=>
   simp at hj hj';subst hj;subst hj';exact⟨o,h1,hq _ (by simp)⟩
  |succ j=>exact h4 j k' p' (by simpa using hj) (by simpa using hj')
 |[],_::_,_,h,_|_::_,[],_,h,_=>by simp[FL]at h
theorem aln{ae:U Nat}:∀{os':U (Option fD)}{g:U (Nat×Option aR)}{k:Nat},k∉ae->dw obj (CF ae os'++g) k=dw obj g k:=by
 induction ae with
 |nil=>intro os' g k _;rfl
 |cons j ae ih=>
  intro os' g k hk;cases os' with
  |nil=>rfl
  |cons p os'=>
   simp at hk;simp[CF,dw,aC hk.1,ih hk.2]
theorem ab7:∀{ae:U Nat}{os':U (Option fD)}{g:U (Nat×Option aR)}{j k:Nat},ae.Nodup->os'.length=ae.length->ae[j]? =some k->dw obj (CF ae os'++g) k=Ei os' j
 |[],_,_,_,_,_,_,h=>by simp at h
 |i::ae,[],_,_,_,_,hl,_=>by simp at hl
 |i::ae,p::os',g,j,k,hn,hl,h=>by
  simp at hn;cases j with
  |zero=>
   simp at h;subst h;simp[CF,dw,Ei]
  |succ j=>
   have hne:k≠i:=λe=>hn.1 (e ▸ dM h);simp[CF,dw,aC hne,ab7 hn.2 (by simpa using hl) h];simp[Ei]
theorem RI:∀{ae:U Nat},ae.Nodup->∀{j j' k:Nat},ae[j]? =some k->ae[j']? =some k->j=j'
 |[],_,_,_,_,h,_=>by simp at h
 |i::ae,hn,j,j',k,h,h'=>by
  simp at hn;cases j with
  |zero=>grind
  |succ j=>
   cases j' with
   |zero=>grind
   |succ j'=>exact congrArg (· +1) (RI hn.2 (k:=k) (by simpa using h) (by simpa using h'))
theorem Mem.handed(h:Mem P w0 O0 G I obj w){ae c9:U Nat}{os:U fD}(hnd:ae.Nodup)(hlen:ae.length=os.length)
 (hm:∀(j:Nat) k p,ae[j]? =some k->os[j]? =some p->∃o,obj k=some o/\o.sz=p.1/\dZ (o.rows.take p.2.length)=aK p.2) (DB:∀k∈c9,k∉ae):
 Mem P w (q9 (βc ae G) (gC G obj c9 I)) (βc ae G) (gC G obj c9 I) (sA os) w:=by
 have look:∀j o',sA os j=some o'->∃k p o,ae[j]? =some k/\os[j]? =some p/\o'=iS p/\obj k=some o/\o.sz=p.1/\dZ (o.rows.take p.2.length)=aK p.2:=by
  intro j o' hj;simp only[sA,sK]at hj;obtain⟨p,hp,rfl⟩:=hj;have hjl:j<ae.length:=by rw[hlen];exact(dO.1 hp).1
  obtain⟨o,g⟩:=hm j _ p (dY hjl) hp;exact⟨_,p,o,dY hjl,hp,rfl,g⟩
 have hb0:∀j k,ae[j]? =some k->βc ae G j=G k:=λj k hk=>by simp[βc,hk]
 constructor;intro j o' hj;obtain⟨k,p,o,g1,g2,rfl,g3,g4,g5⟩:=look j o' hj;have⟨B,hB,hO⟩:=h.c8 k o g3;refine⟨B,by rw[hb0 j k g1];exact hB,?_⟩;have:OR P G w I (iS p) B:=by
  cases B with
  |none=>
   simp[OR]at hO |-;rw[hO]at g5;simpa[dZ,iS]using g5.symm
  | «at» b s n=>
   obtain⟨h1,c,e,h2,h3,h4⟩:=hO;refine⟨by rw[h1,g4];rfl,c,e,h2,h3,?_⟩;have:=cj.wk _ _ _ _ (cj.take p.2.length _ _ _ _ h4);rw[g5]at this;exact this
  |mp b=>exact OR.part g4 g5 hO
 exact this.dat λb hb=>.inl hb;intro j j' o o' B B' b h1 h2 h3 h4 h5 h6;have⟨k,p,q,g1,_,_,g3,_⟩:=look j o h1;have⟨k',p',q',g1',_,_,g3',_⟩:=look j' o' h2;rw[hb0 j k g1]at h3;rw[hb0 j' k' g1']at h4;have:=h.ir k k' q q' B B' b g3 g3' h3 h4 h5 h6;subst this;exact RI hnd g1 g1';intro j o B b h1 h2 h5;have⟨k,p,q,g1,_,_,g3,_⟩:=look j o h1;have h2':=h2;rw[hb0 j k g1]at h2;have⟨a1,a2,_⟩:=h.ownB k q B b g3 h2 h5;refine⟨?_,a2,.inl ⟨j,B,h2',h5⟩⟩;rintro (hI|⟨k',o',s',n',e1,e2,e3⟩);exact a1 hI;have:=h.ox k k' q o' b g3 e2 ⟨B,h2,h5⟩ (.at e3);subst this;exact DB _ e1 (dM g1);exact OO h _;exact λb hb=>.inl hb;exact λ_ _ _=>rfl;exact aB _;rfl;rfl;rfl;intro j B hj;simp only[q9]at hj;split at hj;exact hj;cases hj;exact h.vars.mono (λ _ _=>rfl) (λ b hb=>.inl hb)
theorem Mem.GG(h:Mem P w0 O0 G I obj w){ae c9:U Nat}{os':U (Option fD)}{w':Y}{I1 I2:Ψ}{yv:E}
 (hM:Mem P w (q9 (βc ae G) (gC G obj c9 I)) (βc ae G) I1 (Ei os') w') (hI:∀b,I b->I2 b) (hI1:∀b,I2 b->I1 b) (lh:∀k∈ae,∃o,obj k=some o)
 (ho:∀k o,yv k=some o->(∃ j,ae[j]? =some k/\Ei os' j=some o/\∀B,OR P (βc ae G) w' I1 o B->OR P G w' I2 o B)\/(k∉ae/\obj k=some o/\∀b,il G k b->¬I2 b)):
 Same I w w'/\Mem P w0 O0 G I2 yv w'/\(∀ b,XH (βc ae G) b->¬I b/\(O0.own b\/w0.heap.size<=b))/\∀k o b,k∉ae->obj k=some o->il G k b->¬XH (βc ae G) b:=by
 have hb0:∀j k,ae[j]? =some k->βc ae G j=G k:=λj k hk=>by simp[βc,hk]
 have hown:∀b,XH (βc ae G) b->∃k o,k∈ae/\obj k=some o/\il G k b:=by rintro b ⟨j,B,hj,hB⟩;have⟨k,h1,h2⟩:=OQ hj;have⟨o,h3⟩:=lh k (dM h1);exact⟨k,o,dM h1,h3,B,h2,hB⟩
 have hold:∀k o,yv k=some o->∃q,obj k=some q:=by intro k o hk;rcases ho k o hk with ⟨j,h1,_⟩|⟨_,h2,_⟩;exact lh k (dM h1);exact⟨o,h2⟩
 have hapart:∀k o b,k∉ae->obj k=some o->il G k b->¬XH (βc ae G) b:=by intro k o b hk h1 h2 hb;have⟨k',o',g1,g2,g3⟩:=hown b hb;have:=h.ox k k' o o' b h1 g2 h2 g3;subst this;exact hk g1
 have hS:Same I w w':=λb hb=>hM.keep b (h.lt b hb) (λ hb'=>by have⟨k',o',g1,g2,g3⟩:=hown b hb';exact(h.kq k' o' b g2 g3).1 hb);refine⟨hS,?_,λb hb=>?_,hapart⟩;constructor;intro k o hk;rcases ho k o hk with ⟨j,h1,h2,h3⟩|⟨h1,h2,h3⟩;have⟨B,hB,hO⟩:=hM.c8 j o h2;exact⟨B,by rw[<- hb0 j k h1];exact hB,h3 B hO⟩;have⟨B,hB,hO⟩:=h.c8 k o h2;refine⟨B,hB,OR.mono (λ _ _ h=>h) hS hI (λ b e=>hM.keep b (h.ownB k o B b h2 hB e).2.1 (hapart k o b h1 h2 ⟨B,hB,e⟩)) hO⟩;intro k k' o o' B B' b h1 h2;have⟨q,e1⟩:=hold k o h1;have⟨q',e2⟩:=hold k' o' h2;exact h.ir k k' q q' B B' b e1 e2;intro k o B b h1 h2 h5;have⟨q,e1⟩:=hold k o h1;have⟨a1,a2,a3⟩:=h.ownB k q B b e1 h2 h5;refine⟨?_,Nat.lt_of_lt_of_le a2 hM.le,a3⟩;rcases ho k o h1 with ⟨j,g1,g2,_⟩|⟨_,_,g3⟩;exact λhb=>(hM.ownB j o B b g2 (by rw[hb0 j k g1];exact h2) h5).1 (hI1 b hb);exact g3 b ⟨B,h2,h5⟩;exact λb hb=>hM.lt b (hI1 b hb);intro b hb;rcases hM.up b (hI1 b hb)with (g|⟨k',o',s',n',_,g2,g3⟩)|g|g;exact h.up b g;exact .inr (h.own k' o' b s' n' g2 g3).2.2;have⟨k',o',_,g2,g3⟩:=hown b g;exact .inr (h.kq k' o' b g2 g3).2.2;exact .inr (.inr (Nat.le_trans h.le g));intro b hb hno;refine(hM.keep b (Nat.lt_of_lt_of_le hb h.le) (λ hb'=>?_)).trans (h.keep b hb hno);have⟨k',o',_,g2,g3⟩:=hown b hb';rcases (h.kq k' o' b g2 g3).2.2 with g|g;exact hno g;omega;exact Nat.le_trans h.le hM.le;exact hM.os.trans h.os;exact hM.tape.trans h.tape;exact hM.output.trans h.output;exact h.anch;exact h.vars.mono hS hI;have⟨k',o',_,g2,g3⟩:=hown b hb;exact⟨(h.kq k' o' b g2 g3).1,(h.kq k' o' b g2 g3).2.2⟩
mutual
theorem adI{get:Nat->Option aR}{ae:List Nat}:∀{x:AV}{hs:List LH}{p:AV×List LH×List Prop},sj P get ae x hs=some p->(∀ q∈p.2.2,q)->js P get ae x p.1:=by
 intro x hs p h ho;unfold sj at h;split at h;split at h;cases h;exact js.base _ _ _ (.inl ⟨_,_,_,_,‹_›,rfl,rfl⟩);cases h;split at h;cases h;exact js.base _ _ _ (.inr (.inl ⟨_,_,_,_,‹_›,rfl,rfl⟩));cases h;split at h;cases h;exact js.base _ _ _ (.inr (.inr (.inl ⟨_,_,‹_›,rfl,rfl⟩)));cases h;rename_i cs hs;simp only[ah,bX]at h;obtain⟨q,h1,rfl⟩:=h;simp;exact .inl (o6 h1 (λ y hy=>ho y (by simp[hy])));split at h;rename_i hd;refine js.base _ _ _ (.inr (.inr (.inr ⟨λ k hk=>by simpa using all_eq_true.1 hd k (by simpa[refs]using hk),FK _ _ _ h ho⟩)));cases h;rename_i F first caps hs
 simp only[ah,bX]at h;obtain⟨q,h1,q',h2,rfl⟩:=h;simp only[js];exact .inl ⟨trivial,o6 h1 (λ y hy=>ho y (by simp[hy])),o6 h2 (λ y hy=>ho y (by simp[hy]))⟩;split at h;rename_i hd;refine js.base _ _ _ (.inr (.inr (.inr ⟨λ k hk=>by simpa using all_eq_true.1 hd k hk,FK _ _ _ h ho⟩)));cases h
theorem o6{get:Nat->Option aR}{ae:List Nat}:∀{xs:List AV}{hs:List LH}{p:List AV×List LH×List Prop},nL P get ae xs hs=some p->(∀ q∈p.2.2,q)->gz P get ae xs p.1
 |[],hs,p,h,_=>by simp[nL]at h;subst h;trivial
 |x::xs,hs,p,h,ho=>by simp only[nL,ah,bX]at h;obtain⟨q,h1,q',h2,rfl⟩:=h;exact⟨adI h1 (λ y hy=>ho y (by simp[hy])),o6 h2 (λ y hy=>ho y (by simp[hy]))⟩
end
theorem mN.sound(h:Mem P w0 O0 G I obj w){get:E}(hg:∀k o,get k=some o->obj k=some o){ae:U Nat}(c9:U Nat){x y:AV}{v:Value}(hk:∀k,k∈refs x->k∉ae->k∈c9)(hb:mN P get ae x y)(hv1:VR P G w I x v):VR P (βc ae G) w (gC G obj c9 I) y v:=by
 rcases hb with ⟨j,k,ab,len,e1,rfl,rfl⟩|⟨j,k,row,ab,e1,rfl,rfl⟩|⟨j,k,e1,rfl,rfl⟩|⟨e1,e2⟩;simp[VR]at hv1 |-;have:βc ae G j=G k:=by simp[βc,e1]
 rw[this];exact hv1;simp[VR]at hv1 |-;have:βc ae G j=G k:=by simp[βc,e1]
 rw[this];exact hv1;simp[VR]at hv1 |-;have:βc ae G j=G k:=by simp[βc,e1]
 rw[this];exact hv1;have:=gO.sound h c9 x y v (λ k hk'=>hk k hk' (e1 k hk')) (gO.weaken hg x y e2) hv1;exact VR.mono (λ k B h=>by simp[nj]at h) (λ _ _=>rfl) (λ _ h=>h) _ _ this
mutual
theorem js.sound(h:Mem P w0 O0 G I obj w){get:Nat->Option aR}(hg:∀k o,get k=some o->obj k=some o){ae:List Nat}(c9:List Nat):∀(x y:AV)(v:Value),(∀ k,k∈refs x->k∉ae->k∈c9)->js P get ae x y->VR P G w I x v->VR P (βc ae G) w (gC G obj c9 I) y v:=by intro x y v hk hb hv;unfold js at hb;split at hb;rcases hb with ⟨rfl,h1,h2⟩|hb;simp[VR]at hv |-;obtain⟨fs,cs,e,g1,g2⟩:=hv;exact⟨fs,cs,e,gz.sound h hg c9 _ _ _ (λ k hk'=>hk k (by simp[refs,hk'])) h1 g1,gz.sound h hg c9 _ _ _ (λ k hk'=>hk k (by simp[refs,hk'])) h2 g2⟩;exact mN.sound h hg c9 hk hb hv;rcases hb with h1|hb;simp[VR]at hv |-;obtain⟨vs,e,g1⟩:=hv;exact⟨vs,e,gz.sound h hg c9 _ _ _ (λ k hk'=>hk k (by simpa[refs]using hk')) h1 g1⟩;exact mN.sound h hg c9 hk hb hv;exact mN.sound h hg c9 hk hb hv
theorem gz.sound(h:Mem P w0 O0 G I obj w){get:Nat->Option aR}(hg:∀k o,get k=some o->obj k=some o){ae:List Nat}(c9:List Nat):∀(xs ys:List AV)(vs:List Value),(∀ k,k∈cu xs->k∉ae->k∈c9)->gz P get ae xs ys->bp P G w I xs vs->bp P (βc ae G) w (gC G obj c9 I) ys vs
 |[],[],[],_,_,_=>by simp[bp]
 |x::xs,y::ys,v::vs,hk,hb,hv=>by simp[bp]at hv |-;exact⟨js.sound h hg c9 x y v (λ k hk'=>hk k (by simp[cu,hk'])) hb.1 hv.1,gz.sound h hg c9 xs ys vs (λ k hk'=>hk k (by simp[cu,hk'])) hb.2 hv.2⟩
 |[],_::_,_,_,hb,_=>hb.elim
 |_::_,[],_,_,hb,_=>hb.elim
 |[],[],_::_,_,_,hv=>by simp[bp]at hv
 |_::_,_::_,[],_,_,hv=>by simp[bp]at hv
end
theorem afr{os':U (Option fD)}{j:Nat}{o:aR}(h:Ei os' j=some o):∃p,some p∈os'/\o=iS p:=by simp only[Ei,sK,Option.join_eq_some_iff]at h;obtain⟨p,hp,rfl⟩:=h;exact⟨p,dM hp,rfl⟩
theorem afs(h:Mem P w0 O0 G I obj w)(hn:G (cE i)=none){ae c9:U Nat}{os':U (Option fD)}{rv:RV}{p:AV×List (Nat×Option aR)}{keep:Bool}(hp:imp i ae rv=some p)(hk:keep=true->rv.flat/\XI os')
 (hnd:ae.Nodup) (hlen:os'.length=ae.length) (lh:∀k∈ae,∃o,obj k=some o)
 {w':Y} {I1:Ψ} {v:Value} (hM:Mem P w (q9 (βc ae G) (gC G obj c9 I)) (βc ae G) I1 (Ei os') w') (h1:∀b,gC G obj c9 I b->I1 b) (hr:sf P (BW w (βc ae G) os') (βc ae G) rv w' I1 v):
 ∃ β' I',Step G I w (cE i) β' I' w'/\Mem P w0 O0 β' I' (dw obj (p.2++(CF ae os'++if keep then []else c9.map (λ k=>(k,none))))) w'/\VR P β' w' I' p.1 v:=by
 have look:∀g k o,dw obj (CF ae os'++g) k=some o->(∃ j,ae[j]? =some k/\Ei os' j=some o)\/(k∉ae/\dw obj g k=some o):=by intro g k o hk;by_cases hki:k∈ae;obtain⟨j,hj⟩:=List.getElem?_of_mem hki;rw[ab7 hnd hlen hj]at hk;exact .inl ⟨j,hj,hk⟩;rw[aln hki]at hk;exact .inr ⟨hki,hk⟩
 have main:∀(g:U (Nat×Option aR))(I2:Nat->Prop),(∀ k o,dw obj g k=some o->obj k=some o)->(∀ b,I b->I2 b)->(∀ b,I2 b->I1 b)->(∀ j o B,Ei os' j=some o->OR P (βc ae G) w' I1 o B->OR P G w' I2 o B)->
  (∀ k o b,k∉ae->dw obj g k=some o->il G k b->¬I2 b)->sf P (BW w (βc ae G) os') (βc ae G) rv w' I2 v->
  ∃ β' I',Step G I w (cE i) β' I' w'/\Mem P w0 O0 β' I' (dw obj (p.2++(CF ae os'++g))) w'/\VR P β' w' I' p.1 v:=by
  intro g I2 hg hI hI1 hor I3 hr2;obtain⟨hS,hM2,hown,hapart⟩:=h.GG (yv:=dw obj (CF ae os'++g)) hM hI hI1 lh (λ k o hk=>by rcases look g k o hk with ⟨j,e1,e2⟩|⟨e1,e2⟩;exact .inl ⟨j,e1,e2,λB=>hor j o B e2⟩;exact .inr ⟨e1,hg k o e2,λb e3=>I3 k o b e1 e2 e3⟩);obtain⟨β',k1,k2,k3⟩:=RH (ae:=ae) (F:=BW w (βc ae G) os') (βc:=βc ae G) hM2 hn (λ k o b e1 e2 hb=>by rcases look g k o e1 with ⟨j,e3,e4⟩|⟨e3,e4⟩;exact hb.2 j o e4 (by obtain⟨B,e5,e6⟩:=e2;exact⟨B,by simp[βc,e3,e5],e6⟩);rcases hb.1 with hb|hb;exact hapart k o b e3 (hg k o e4) e2 hb;have:=(h.kq k o b (hg k o e4) e2).2.1;omega) (λ b hb=>by rcases hb.1 with hb|hb;exact(hown b hb).2;exact .inr (Nat.le_trans h.le hb)) (λ j B hj=>OQ hj) hp hr2;refine⟨β',I2,⟨k1.other,k1.ext,hS,hI⟩,?_,k3⟩;have e:dw obj (p.2++(CF ae os'++g))=dw (dw obj (CF ae os'++g)) p.2:=funext λk=>uo obj _ _ k;rw[e];exact k2
 cases keep with
 |true=>
  have⟨hf1,hf2⟩:=hk rfl;exact main [] I (λ _ _ h=>h) (λ _ h=>h) (λ b hb=>h1 b (.inl hb)) (λ j o B hj hO=>by obtain⟨q,hq,rfl⟩:=afr hj;exact OR.flat (hf2 q hq) hO) (λ k o b _ e1 e2=>(h.kq k o b e1 e2).1) (sf.flat hf1 (λ b hb=>h1 b (.inl hb)) hr)
 |false=>
  have hsub:∀k o,dw obj (c9.map λk=>(k,none)) k=some o->obj k=some o/\k∉c9:=by intro k o hk;rw[zJ]at hk;split at hk;cases hk;exact⟨hk,‹_›⟩
  refine main _ I1 (λ k o hk=>(hsub k o hk).1) (λ b hb=>h1 b (.inl hb)) (λ _ h=>h) (λ j o B hj hO=>by obtain⟨q,hq,rfl⟩:=afr hj;exact OR.dat (λ _ h=>h) hO) (λ k o b hki e1 e2 hb=>?_) hr;have⟨f1,f2⟩:=hsub k o e1;have⟨a1,a2,_⟩:=h.kq k o b f1 e2;rcases hM.up b hb with (g|⟨k',o',s',n',g1,g2,g3⟩)|⟨j,B',g,g'⟩|g;exact a1 g;have:=h.ox k k' o o' b f1 g2 e2 (.at g3);subst this;exact f2 g1;have⟨k',g1,g2⟩:=OQ g;have⟨o',g3⟩:=lh k' (dM g1);have:=h.ox k k' o o' b f1 g3 e2 ⟨B',g2,g'⟩;subst this;exact hki (dM g1);omega
theorem XJ(h:Mem P w0 O0 G I obj w)(hn:G (cE i)=none){f:AV}{args:U AV}{cL:kh}{get:E}{aa:Out}(hg:∀k o,get k=some o->obj k=some o)
 {fv:Value} {vs:Array Value} {am:Array Operand} {fo:Operand} {r:Operand->Value} (ha:Ji P i f args cL get=some aa) (cX:aa.ob) (hf:VR P G w I f fv) (hv:bp P G w I args vs.toList) (hfo:r fo=fv) (hops:vs=am.map r)
 {dst:J Tmp} {aq:String} {after:Array Edge} {guard:J (Nat×Bool)} {ty:V} {d6:Array TypeId}:
 BK P w0 O0 G I obj w i aa ((execOp r ⟨dst,.call { callee:=.value fo,args:=am,argTypes:=d6 },ty,aq,after,guard⟩).run P w):=by
 unfold Ji at ha;split at ha;rename_i F first caps ae os os' hs rv keep
 split at ha
 .rename_i hc;obtain⟨hnd,hlen⟩:=hc;cases hp:imp i ae rv with
  |none=>simp[hp]at ha
  |some p=>
  cases hmo:FL get ae os with
  |none=>simp[hmo]at ha
  |some mo=>
  cases hq:nL P get ae (first++args++caps) hs with
  |none=>simp only[hp,hmo,hq,ai,Option.bind_none,reduceCtorEq]at ha
  |some q=>
  simp only[hp,hmo,hq,ai]at ha;simp[VR]at hf;obtain⟨fs,cs,rfl,hf1,hf2⟩:=hf;have hout:(∀ x∈q.2.2++mo,x)/\rN P F q.1 os os' rv/\(keep=true->rv.flat/\XI os')/\aa.v=p.1/\aa.upd=p.2++(CF ae os'++if keep then []else(Jh (first++args++caps) ae).map (λ k=>(k,none))):=by
   cases keep with
   |true=>
    simp only[if_true,bX]at ha;subst ha;have cX:=sN _ cX;exact⟨λ x hx=>cX x (by simp only[bD]at hx |-;exact .inl hx),cX (rN P F q.1 os os' rv) (by simp),λ_=>⟨cX rv.flat (by simp),cX (XI os') (by simp)⟩,rfl,by simp⟩
   |false=>
    simp only[Bool.false_eq_true,if_false,bX]at ha;subst ha;have cX:=sN _ cX;exact⟨λ x hx=>cX x (by simp only[bD]at hx |-;exact .inl hx),cX (rN P F q.1 os os' rv) (by simp),λh=>(by cases h),rfl,by simp⟩
  obtain⟨o1,o2,o3,o4,o5⟩:=hout;obtain⟨⟨fn,e1,e2,e3⟩,hcon⟩:=o2;obtain⟨hl2,hmm⟩:=Uy hmo (λ x hx=>o1 x (by simp[hx]));have hmm':∀(j:Nat) k p,ae[j]? =some k->os[j]? =some p->∃o,obj k=some o/\o.sz=p.1/\dZ (o.rows.take p.2.length)=aK p.2:=λj k p h1 h2=>by have⟨o,g1,g2⟩:=hmm j k p h1 h2;exact⟨o,hg k o g1,g2⟩
  have lh:∀k∈ae,∃o,obj k=some o:=by intro k hk;obtain⟨j,hj⟩:=List.getElem?_of_mem hk;have hjl:j<os.length:=(by rw[<- hl2];exact(dO.1 hj).1);obtain⟨o,g,_⟩:=hmm' j k _ hj (dY hjl);exact⟨o,g⟩
  have T8:∀k∈Jh (first++args++caps) ae,k∉ae:=λk hk=>by simp[Jh]at hk;simpa using hk.2
  have hM:=h.handed (c9:=Jh (first++args++caps) ae) hnd hl2 hmm' T8;have hall:bp P G w I (first++args++caps) (fs++vs++cs).toList:=by simp only[Array.toList_append];exact bp.append _ _ _ _ (bp.append _ _ _ _ hf1 hv) hf2
  have pm:=gz.sound h hg (Jh (first++args++caps) ae) _ _ _ (λ k hk hn=>by simp only[Jh,List.mem_filter];exact⟨hk,by simpa using hn⟩) (o6 hq (λ x hx=>o1 x (by simp[hx]))) hall;refine⟨F,fs++vs++cs,?_,(hcon w _ _ _ (λ k hk=>?_) hM pm).mono ?_⟩;have hb:¬fn.body=none:=by cases hh:fn.body<;>simp[hh]at e2 |-
  have e3' : ¬ fn.name = "runtime.NumGoroutine" := by simpa using e3
  simp[execOp,resolve,hfo,<- hops,Deferred.ofValue,invoke,callFunc,e1,e3',hb];simp[βc,List.getElem?_eq_none (show ae.length<=k by omega)];rintro e w' ⟨v',I1,rfl,g1,g2,g3⟩;have⟨β',I',k1,k2,k3⟩:=afs (keep:=keep) h hn hp o3 hnd hlen lh g1 g2 g3;exact⟨v',β',I',rfl,k1,by rw[o5];exact k2,by rw[o4];exact k3⟩
 cases ha;cases ha
theorem XK(h:Mem P w0 O0 G I obj w)(hn:G (cE i)=none){f:AV}{args:U AV}{cL:kh}{get:E}{aa:Out}(hg:∀k o,get k=some o->obj k=some o)
 {fv:Value} {vs:Array Value} {am:Array Operand} {fo:Operand} {r:Operand->Value} (ha:sO P i f args cL get=some aa) (cX:aa.ob) (hf:VR P G w I f fv) (hv:bp P G w I args vs.toList) (hfo:r fo=fv) (hops:vs=am.map r)
 {dst:J Tmp} {aq:String} {after:Array Edge} {guard:J (Nat×Bool)} {ty:V} {d6:Array TypeId}:
 BK P w0 O0 G I obj w i aa ((execOp r ⟨dst,.call { callee:=.value fo,args:=am,argTypes:=d6 },ty,aq,after,guard⟩).run P w):=by unfold sO at ha;split at ha;exact XJ h hn hg ha cX hf hv hfo hops;exact aa0 h hn hg ha cX hf hv hfo hops
end
def F1(op:BinOp)(b:AV)(yes:Bool):J Out:=
 match op with
 |.eql=>pv (if yes then b else .t (.sc (.bool false)))
 |.neq=>pv (if yes then b else .t (.sc (.bool true)))
 |_=>none
def BT(T:eS)(op:BinOp)(t:V)(x y:AV):J Out:=
 (T t).bind λti=>match ti.k,x,y with
 |.slice _,.t (.sl rows),.cD=>F1 op .ub rows.isEmpty
 |.slice _,.own _ _ len,.cD=>F1 op .ub (len==0)
 |.slice _,.oz _ len,.cD=>F1 op (.t (.sc (.bool (op==.eql)))) (len==0)
 |.slice _,.cD,.cD=>F1 op (.t (.sc (.bool (op==.eql)))) true
 |_,_,_=>none
def QP(T:eS)(s d:V)(x:AV):J Out:=
 (T s).bind λ_=>(T d).bind λdi=>match di.k,x with
 |.int k,.t (.sc (.int _ n))=>pv (.t (.sc (.int k (k.wrap n))))
 |_,_=>none
def XL(T:eS)(t:V)(x j:AV)(n:Int):J Out:=
 (T t).bind λti=>match ti.k,x,j with
 |.str,.t (.sc (.string s)),.t (.sc (.int _ m))=>m4 (.t (.sc (.int .u8 n))) (0<=m/\∃b,s[m.toNat]? =some b/\n=b.toNat)
 |.arr m e,.agg cs,.t (.sc (.int _ q))=>(T e).bind λei=>(part' ei.agg ei.size ((cs.drop (q.toNat*ei.size)).take ei.size)).bind λv=>m4 v (0<=q/\q<(m:Int))
 |_,_,_=>none
def K8(T:eS)(t:V)(x:AV)(lo hi:J AV):J Out:=
 (T t).bind λti=>match ti.k,x with
 |.slice e,.cD=>(T e).bind λ_=>(bnd 0 lo).bind λl=>(bnd 0 hi).bind λh=>m4 .cD (l=0/\h=0)
 |_,_=>none
def wG(T:eS)(i:Nat)(b:Builtin)(args:U AV)(d6:U TypeId)(get:E):J Out:=
 match b,args,d6 with
 |.cap,[.cD],[t]=>(T t).bind λti=>match ti.k with
  |.slice _=>pv (.t (.sc (.int .i64 0)))
  |_=>none
 |.clear,[.own k ab _],[t]=>(T t).bind λti=>match ti.k with
  |.slice e=>(T e).bind λei=>(get k).bind λo=>if o.sz=ei.size then some ⟨.fR [],[(k,some ⟨o.sz,o.rows.take ab⟩)],[]⟩else none
  |_=>none
 |.append,[.cD,.t (.sc (.int _ m))],[t,u]=>(T t).bind λti=>(T u).bind λui=>match ti.k,ui.k with
  |.slice e,.int _=>(T e).bind λei=>some ⟨.own (cE i) 0 m.toNat,[(cE i,some ⟨ei.size,dZ (List.replicate m.toNat (ei.zero.map cv))⟩)],[0<=m/\m.toNat*ei.bytes<=140737488355328/\m.toNat<=maxLen/\0<ei.size]⟩
  |_,_=>none
 |_,_,_=>none
def uQ(T:eS)(i:Nat)(o:Oper)(n:Int)(ρ:Operand->AV)(get:E):J Out:=
 match o.op with
 |.binOp op t x y _=>BT T op t (ρ x) (ρ y)
 |.convert s d x=>QP T s d (ρ x)
 |.index t x j=>XL T t (ρ x) (ρ j) n
 |.slice t x lo hi none=>K8 T t (ρ x) (lo.map ρ) (hi.map ρ)
 |.call { callee:=.builtin b,args:=args,argTypes:=d6 }=>wG T i b (args.toList.map ρ) d6.toList get
 |_=>none
section
variable {T:eS}
theorem Uz{i:Nat}{o:Oper}{cL:kh}{ρ ρ':Operand->AV}{get:E}(h:∀x∈o.op.operands,ρ x=ρ' x):rW T i o cL ρ get=rW T i o cL ρ' get:=by
 obtain⟨dst,op,ty,aq,after,guard⟩:=o;have pairs:∀ps:Array (Nat×Operand),(∀ x∈(ps.toList.map (·.2)).toArray,ρ x=ρ' x)->(ps.toList.map λ(j,x)=>(j,ρ x))=(ps.toList.map λ(j,x)=>(j,ρ' x)):=λps hp=>
  map_congr_left λp hm=>by obtain⟨i,x⟩:=p;simp[hp x (by simp only[List.mem_toArray];exact mem_map.2 ⟨(i,x),hm,rfl⟩)]
 cases op<;>simp only[Op.operands]at h<;>simp[rW]
 case build t ps=>rw[pairs ps h]
 case buildSlice t n ps=>rw[pairs ps h]
 case makeFunc fn first captured=>
  have h1:first.toList.map ρ=first.toList.map ρ':=map_congr_left λx hx=>h x (by simp;exact .inl (by simpa using hx))
  have h2:captured.toList.map ρ=captured.toList.map ρ':=map_congr_left λx hx=>h x (by simp;exact .inr (by simpa using hx));cases fn<;>simp[h1,h2]
 case call c=>
  obtain⟨callee,args,d6⟩:=c;cases callee<;>simp
  case builtin b=>
   have h1:args.toList.map ρ=args.toList.map ρ':=map_congr_left λx hx=>h x (by simp[Call.operands];simpa using hx);rw[h1]
 case slice t x lo hi mx=>
  have hx:=h x (by simp);cases mx with
  |some m=>rfl
  |none=>
   simp;cases lo<;>cases hi<;>simp_all
 all_goals (first|rfl|(simp_all;done))
theorem tF:∀(l:U Prop),(∀ p∈l,p)->jD l
 |[],_=>trivial
 |[q],h=>h q (by simp)
 |q::r::l,h=>⟨h q (by simp),tF (r::l) λp hp=>h p (bq _ hp)⟩
theorem adJ{i:Nat}{o:Oper}{n:Int}{ρ ρ':Operand->AV}{get:E}(h:∀x∈o.op.operands,ρ x=ρ' x):uQ T i o n ρ get=uQ T i o n ρ' get:=by
 obtain⟨dst,op,ty,aq,after,guard⟩:=o;cases op<;>simp only[Op.operands]at h<;>simp[uQ]
 case binOp a b c d e=>rw[h c (by simp),h d (by simp)]
 case convert s d x=>rw[h x (by simp)]
 case index t x j=>rw[h x (by simp),h j (by simp)]
 case call c=>
  obtain⟨callee,args,d6⟩:=c;cases callee<;>simp
  case builtin b=>
   have h1:args.toList.map ρ=args.toList.map ρ':=map_congr_left λx hx=>h x (by simp[Call.operands];simpa using hx);rw[h1]
 case slice t x lo hi mx=>
  have hx:=h x (by simp);cases mx with
  |some m=>rfl
  |none=>
   cases lo<;>cases hi<;>simp_all
end
def aiq:Op->Bool
 |.pick .. =>true
 |_=>false
def Jj(P:Ξ)(T:eS)(i:Nat)(o:Oper)(ae:U Nat)(fr:Operand->AV)(cL:kh)(ρ:Operand->AV)(get:E):J Out:=
 if aiq o.op then none else(rW T i o cL fr (λ k=>if k∈ae then none else get k)).bind λaa=>
  some ⟨aa.v,aa.upd++ae.map (λ k=>(k,none)),aa.obs++[∀ x∈o.op.operands,(gO P get (ρ x) (fr x)/\∀k∈refs (ρ x),k∈ae)\/fr x=ρ x]⟩
theorem adK{P:Ξ}{T:eS}{i:Nat}{o:Oper}{ae:U Nat}{fr:Operand->AV}{cL:kh}{ρ ρ':Operand->AV}{get:E}(h:∀x∈o.op.operands,ρ x=ρ' x):Jj P T i o ae fr cL ρ get=Jj P T i o ae fr cL ρ' get:=by
 unfold Jj;have:(∀ x∈o.op.operands,(gO P get (ρ x) (fr x)/\∀k∈refs (ρ x),k∈ae)\/fr x=ρ x)=(∀ x∈o.op.operands,(gO P get (ρ' x) (fr x)/\∀k∈refs (ρ' x),k∈ae)\/fr x=ρ' x):=by grind
 rw[this]
section
variable {P:Program} {T:eS} {w0:World} {O0:k5} {G:Nat->Option cW} {I:Nat->Prop} {obj:Nat->Option aR} {w:World} {i:Nat}
theorem air(hT:fQ P T){op:BinOp}{t:V}{x y:AV}{xo yo:Operand}{u v:Value}{aa:Out}(ha:BT T op t x y=some aa)(hx:VR P G w I x u)(hy:VR P G w I y v):
 ∃z,(do eqGuard op t xo yo u v;binOp op t u v:Sem Value).run P w=.ok z w/\VR P G w I aa.v z/\aa.upd=[]:=by
 unfold BT at ha;cases hti:T t with
 |none=>simp[hti]at ha
 |some ti=>
  have ht:=hT t ti hti;simp only[hti,ai]at ha;have eq:∀e a n c,P.underlying t=some (.slice e)->(Op.equal t (.slice a n c) (.slice none 0 0)).run P w=.ok a.isNone w:=by intro e a n c hu;have:∀d,(Op.equalIn (d+1) t (.slice a n c) (.slice none 0 0)).run P w=.ok a.isNone w:=(by intro d;cases a<;>simp[Op.equalIn,run_underlying hu]);exact this 9999
  have main:∀e,P.underlying t=some (.slice e)->∀a n c,u=.slice a n c->v=.slice none 0 0->(op=.eql\/op=.neq)->
   (do eqGuard op t xo yo u v;binOp op t u v:Sem Value).run P w=.ok (.bool (if op=.eql then a.isNone else !a.isNone)) w:=by rintro e hu a n c rfl rfl (rfl|rfl);simp[eqGuard,binOp,eq e a n c hu];simp[eqGuard,binOp,eq e a n c hu]
  have fin:∀e,P.underlying t=some (.slice e)->∀a n c,u=.slice a n c->v=.slice none 0 0->∀(bv:AV)(yes:Bool),F1 op bv yes=some aa->
   (yes=false->a.isNone=false)->(yes=true->∀q,(q=if op=.eql then a.isNone else !a.isNone)->VR P G w I bv (.bool q))->
   ∃z,(do eqGuard op t xo yo u v;binOp op t u v:Sem Value).run P w=.ok z w/\VR P G w I aa.v z/\aa.upd=[]:=by
   intro e hu a n c h1 h2 bv yes hn hno IN;unfold F1 at hn;split at hn;simp only[pv,bX]at hn;subst hn;refine⟨_,main e hu a n c h1 h2 (.inl rfl),?_,rfl⟩;cases yes with
   |true=>exact IN rfl _ rfl
   |false=>simp only[hno rfl];exact⟨by simp,trivial⟩
   simp only[pv,bX]at hn;subst hn;refine⟨_,main e hu a n c h1 h2 (.inr rfl),?_,rfl⟩;cases yes with
   |true=>exact IN rfl _ rfl
   |false=>simp only[hno rfl];exact⟨by simp,trivial⟩
   cases hn
  split at ha;rename_i e rows hk;have hu:=iT ht hk;simp only[VR]at hy;simp only[VR,TR]at hx;rcases hx with ⟨rfl,a,c,rfl,_⟩|⟨b,ab,c,sz,rfl,_⟩;exact fin _ hu _ _ _ rfl hy _ _ ha (λ h=>by simp at h) (λ _ q _=>by simp only[VR];exact⟨q,rfl⟩);exact fin _ hu _ _ _ rfl hy _ _ ha (λ _=>rfl) (λ _ q _=>by simp only[VR];exact⟨q,rfl⟩);rename_i e k ab len hk;have hu:=iT ht hk;simp[VR]at hx hy;rcases hx with ⟨_,rfl,_,rfl⟩|⟨b,sz,n,cap,o,_,rfl,_⟩;exact fin _ hu _ _ _ rfl hy _ _ ha (λ h=>by simp at h) (λ _ q _=>by simp only[VR];exact⟨q,rfl⟩);exact fin _ hu _ _ _ rfl hy _ _ ha (λ _=>rfl) (λ _ q _=>by simp only[VR];exact⟨q,rfl⟩);rename_i e k len hk;have hu:=iT ht hk;simp[VR]at hx hy;rcases hx with ⟨h0,rfl⟩|⟨h0,b,sz,n,cap,o,_,rfl,_⟩;refine fin _ hu _ _ _ rfl hy _ _ ha (λ h=>by simp[h0]at h) (λ _ q hq=>?_);simp[VR,TR,hq];cases op<;>exact⟨by simp,trivial⟩;exact fin _ hu _ _ _ rfl hy _ _ ha (λ _=>rfl) (λ h=>by simp[h0]at h);rename_i e hk;have hu:=iT ht hk;simp[VR]at hx hy;subst hx;refine fin _ hu _ _ _ rfl hy _ _ ha (λ h=>by cases h) (λ _ q hq=>?_);simp[VR,TR,hq];cases op<;>exact⟨by simp,trivial⟩;cases ha
theorem afu(hT:fQ P T){s d:V}{x:AV}{u:Value}{aa:Out}(ha:QP T s d x=some aa)(hx:VR P G w I x u):
 ∃z,(convert s d u).run P w=.ok z w/\VR P G w I aa.v z/\aa.upd=[]:=by
 unfold QP at ha;cases hsi:T s with
 |none=>simp[hsi]at ha
 |some si=>
  cases hdi:T d with
  |none=>simp[hdi]at ha
  |some di=>
   simp[hsi,hdi]at ha;split at ha;rename_i k kk n hk;simp[pv]at ha;subst ha;have⟨info,dd,z,_,h2,_⟩:=(hT s si hsi).ex;have⟨info',dd',z',_,h2',_,_,_,_,_,h8⟩:=(hT d di hdi).ex;rw[hk]at h8;subst h8;simp[VR]at hx;obtain⟨rfl,_⟩:=hx;refine⟨.int k (k.wrap n),?_,by simp only[VR,TR];exact⟨trivial,trivial⟩,rfl⟩;simp[convert,run_underlying h2,run_underlying h2',Conv.intToInt];cases ha
theorem adL(hT:fQ P T){t:V}{x j:AV}{n:Int}{u v:Value}{aa:Out}(ha:XL T t x j n=some aa)(cX:aa.ob)(hx:VR P G w I x u)(hj:VR P G w I j v):
 ∃z,(Instr.index t u v).run P w=.ok z w/\VR P G w I aa.v z/\aa.upd=[]:=by
 unfold XL at ha;cases hti:T t with
 |none=>simp[hti]at ha
 |some ti=>
  simp[hti]at ha;split at ha;rename_i s k m hk;simp[m4]at ha;subst ha;obtain⟨h0,b,hb,rfl⟩:=cX;have⟨info',dd',z',_,h2',_,_,_,_,_,h8⟩:=(hT t ti hti).ex;rw[hk]at h8;have h8:dd'=.string:=h8;subst h8;simp[VR]at hx hj;obtain⟨rfl,_⟩:=hx;obtain⟨rfl,_⟩:=hj;refine⟨.int .u8 b.toNat,?_,by simp only[VR,TR];exact⟨trivial,trivial⟩,rfl⟩;simp[Instr.index,asIntOf,run_underlying h2',h0,hb];rename_i m e cs kd q hk;have fy:=XA (hT t ti hti) hk;cases ie:T e with
  |none=>simp[ie]at ha
  |some ei=>
   simp[ie]at ha;cases hp:part' ei.agg ei.size ((cs.drop (q.toNat*ei.size)).take ei.size)with
   |none=>simp[hp]at ha
   |some y=>
    simp[hp,m4]at ha;subst ha;simp[VR]at hx hj;obtain⟨vs,rfl,hvs⟩:=hx;obtain⟨rfl,_⟩:=hj;have he:=hT e ei ie;have⟨u,hu,hv⟩:=afp he hp hvs;refine⟨u,?_,hv,rfl⟩;simp[Instr.index,asIntOf,run_underlying fy,cX.1,cX.2,he.size (w:=w)];simpa using hu
  cases ha
theorem Vy(hT:fQ P T){t:V}{x:AV}{lo hi:J AV}{aa:Out}{v:Value}{ua hiv:J Value}
 (ha:K8 T t x lo hi=some aa) (cX:aa.ob) (hx:VR P G w I x v) (hlo:∀x,lo=some x->∃v,ua=some v/\VR P G w I x v) (hlo0:lo=none->ua=none) (hhi:∀x,hi=some x->∃v,hiv=some v/\VR P G w I x v) (hhi0:hi=none->hiv=none):
 ∃u,(Instr.sliceAt t v ua hiv none).run P w=.ok u w/\VR P G w I aa.v u/\aa.upd=[]:=by
 unfold K8 at ha;cases hti:T t with
 |none=>simp[hti]at ha
 |some ti=>
  have ht:=hT t ti hti;simp[hti]at ha;split at ha;rename_i e hkd;cases ie:T e with
  |none=>simp[ie]at ha
  |some ei=>
   have he:=hT e ei ie;simp[ie]at ha;cases hl:bnd 0 lo with
   |none=>simp[hl]at ha
   |some l=>
    cases hh:bnd 0 hi with
    |none=>simp[hh]at ha
    |some r=>
     simp[hl,hh,m4]at ha;subst ha;obtain⟨rfl,rfl⟩:=cX;subst hx;have:=G8 (P:=P) (w:=w) (len:=0) (cap:=0) (K7 hl hlo hlo0) (K7 hh hhi hhi0) (by omega) (by omega) (by omega);refine⟨.slice none 0 0,?_,by simp[VR],rfl⟩;simp[Instr.sliceAt,Instr.slice,run_underlying (iT ht hkd),this,he.size (w:=w)]
  cases ha
theorem cj.congr:∀(rows:U (List AV))(c c':Array Value)(ab sz:Nat),(∀ j,j<ab+rows.length*sz->c'[j]? =c[j]?)->cj P G w I rows c ab sz->cj P G w I rows c' ab sz
 |[],_,_,_,_,_,_=>trivial
 |r::rs,c,c',ab,sz,hc,⟨h1,h2,h3⟩=>by
  have hl:(r::rs).length*sz=sz+rs.length*sz:=by rw[eu,Nat.add_mul];omega
  refine⟨h1,?_,cj.congr rs c c' (ab+sz) sz (λ j hj=>hc j (by omega)) h3⟩;rw[j4]at h2 |-;intro j x hx;have hj:=(dO.1 hx).1;rw[hc (ab+j) (by omega)];exact h2 j x hx
theorem cj.zeros(z:U Value)(sz:Nat)(hz:z.length=sz)(h1:∀v∈z,oneCell v):∀(n:Nat)(c:Array Value)(ab:Nat),(∀ i j,i<n->j<sz->c[ab+i*sz+j]? =z[j]?)->cj P G w I (List.replicate n (z.map cv)) c ab sz
 | 0,_,_,_=>trivial
 |n+1,c,ab,hc=>by refine⟨by simpa using hz,?_,cj.zeros z sz hz h1 n c (ab+sz) λi j hi hj=>?_⟩;rw[j4];intro j x hx;simp at hx;obtain⟨v,hv,rfl⟩:=hx;have hj:=(dO.1 hv).1;refine⟨v,?_,VR.cv,h1 v (dM hv)⟩;have:=hc 0 j (by omega) (by omega);rw[Nat.zero_mul,Nat.add_zero]at this;rw[this];exact hv;have:=hc (i+1) j (by omega) hj;rw[show ab+sz+i*sz+j=ab+(i+1)*sz+j by rw[Nat.add_mul];omega];exact this
theorem MH(z:Array Value)(n j:Nat)(h:j<n*z.size):(Builtin.zeroCells z n)[j]? =z[j%z.size]? :=by
 have hz:0<z.size:=Nat.pos_of_ne_zero λe=>by rw[e]at h;omega
 have hm:j%z.size<z.size:=Nat.mod_lt _ hz;simp[Builtin.zeroCells,h,hm]
theorem Vz(hT:fQ P T)(h:Mem P w0 O0 G I obj w)(hn:G (cE i)=none){b:Builtin}{args:U AV}{d6:Array TypeId}{get:E}{aa:Out}(hg:∀k o,get k=some o->obj k=some o)
 {vs:Array Value} {ty:V} {am:Array Operand} (ha:wG T i b args d6.toList get=some aa) (cX:aa.ob) (hv:bp P G w I args vs.toList) {r:Operand->Value} (hops:vs=am.map r) {dst:J Tmp} {aq:String} {after:Array Edge} {guard:J (Nat×Bool)}:
 s7 P w0 O0 G I obj w i aa ((execOp r ⟨dst,.call { callee:=.builtin b,args:=am,argTypes:=d6 },ty,aq,after,guard⟩).run P w):=by
 unfold wG at ha;split at ha;rename_i t ry;obtain⟨v,hvs⟩:∃v,vs=#[v]:=by
  obtain⟨l⟩:=vs
  match l,hv with
  |[v],_=>exact⟨v,rfl⟩
  |[],h=>simp[bp]at h
  |_::_::_,h=>simp[bp]at h
 have ht:d6=#[t]:=by cases d6;simpa using ry
 subst hvs ht;simp only[bp,VR]at hv;cases hti:T t with
 |none=>simp[hti]at ha
 |some ti=>
  simp only[hti,ai]at ha;split at ha;rename_i e hk;simp only[pv,bX]at ha;subst ha;refine⟨.int .i64 0,w,G,I,.inl ?_,Step.refl ..,h,by simp only[VR,TR];exact⟨trivial,trivial⟩⟩;rw[hv.1]at hops;simp[execOp,resolve,invoke,builtin,<- hops,Builtin.cap_,run_underlying (iT (hT t ti hti) hk),goInt];cases ha
 rename_i k ab len t ry;obtain⟨v,hvs⟩:∃v,vs=#[v]:=by
  obtain⟨l⟩:=vs
  match l,hv with
  |[v],_=>exact⟨v,rfl⟩
  |[],h=>simp[bp]at h
  |_::_::_,h=>simp[bp]at h
 have ht:d6=#[t]:=by cases d6;simpa using ry
 subst hvs ht;simp only[bp]at hv;have hv:=hv.1;cases hti:T t with
 |none=>simp[hti]at ha
 |some ti=>
  simp only[hti,ai]at ha;split at ha;rename_i e hkd;cases ie:T e with
  |none=>simp[ie]at ha
  |some ei=>
   cases hk:get k with
   |none=>simp[ie,hk]at ha
   |some o=>
    simp only[ie,hk,ai]at ha;split at ha;rename_i hsz;cases ha;have he:=hT e ei ie;have fy:=iT (hT t ti hti) hkd;obtain⟨info,d,z,g1,g2,g3,g4,g5,g6,g7,g8⟩:=he.ex;have hko:=hg k o hk;have weak:∀{w':World},Mem P w0 O0 G I obj w'->Mem P w0 O0 G I (dw obj [(k,some ⟨o.sz,o.rows.take ab⟩)]) w':=by
     intro w' hm;refine hm.weak λj o' hj=>?_;simp only[dw]at hj;split at hj;rename_i e;subst e;cases hj;refine⟨o,hko,λB hB hO=>?_⟩;cases B with
     |none=>simp only[OR]at hO |-;simp[hO]
     | «at» b s n=>
      obtain⟨h1,c,e,h2,h3,h4⟩:=hO;exact⟨h1,c,e,h2,h3,cj.take _ _ _ _ _ h4⟩
     |mp b=>
      obtain⟨es,cl,h1,hle,h2,h3⟩:=hO;refine⟨es,cl,h1,by simp only[length_take];omega,λe=>?_,h3⟩;simp only[length_take]at e;simp only;rw[take_of_length_le (by omega)];exact h2 (by omega)
     exact⟨o',hj,λ_ _ h=>h⟩
    have hdone:∀w',(Builtin.clear_ #[t] ty #[v]).run P w=.ok (.tuple #[]) w'->(execOp r ⟨dst,.call { callee:=.builtin .clear,args:=am,argTypes:=#[t] },ty,aq,after,guard⟩).run P w=.ok (.value (.tuple #[])) w':=(by intro w' hw;simp[execOp,resolve,invoke,builtin,<- hops,hw]);have CN:∀{w':World},VR P G w' I (.fR []) (.tuple #[]):=(by intro w';simp only[VR];exact⟨#[],rfl,trivial⟩);simp only[VR]at hv;rcases hv with ⟨h1,rfl,_,rfl⟩|⟨b,sz,m,cap,a,h1,rfl,h2,h3,h4⟩;exact⟨_,w,G,I,.inl (hdone w (by simp[Builtin.clear_,run_underlying fy])),Step.refl ..,weak h,CN⟩;by_cases h0:len=0;subst h0;exact⟨_,w,G,I,.inl (hdone w (by simp[Builtin.clear_,run_underlying fy])),Step.refl ..,weak h,CN⟩;have⟨B,hB,hO⟩:=h.c8 k o hko;rw[h1]at hB;cases hB;obtain⟨hs,c,ce,hc,hcn,hO⟩:=hO;have ha':a=m.s+ab*sz:=h4 (by omega);subst ha';have hzs:z.cells.size=ei.size:=(by rw[<- Array.length_toList,g6];exact he.len);have hzl:(Builtin.zeroCells z.cells len).toList.length=len*ei.size:=(by simp[size_zeroCells,hzs]);have hfit:m.s+ab*sz+len*ei.size<=c.size:=(by rw[hcn,<- hsz,<- hs,Nat.add_assoc,<- Nat.add_mul];have:(ab+len)*sz<=(ab+cap)*sz:=Nat.mul_le_mul_right _ (by omega);omega);have hone:∀u∈(Builtin.zeroCells z.cells len).toList,u.oneCell'=true:=(by intro u hu;obtain⟨j,hj⟩:=List.getElem?_of_mem hu;have hjl:=(dO.1 hj).1;rw[hzl,<- hzs]at hjl;rw[Array.getElem?_toList,MH _ _ _ hjl]at hj;have:u∈ei.zero:=(by rw[<- g6];exact Array.mem_toList_iff.2 (Array.mem_of_getElem? hj));exact oneCell' (uO (all_eq_true.1 he.one u this)));have hst:=run_storeCells_at P b (m.s+ab*sz) ce (Builtin.zeroCells z.cells len).toList 0 c w hc (by rw[hzl];omega) hone;simp only[Nat.add_zero]at hst;generalize hcc:(List.take (m.s+ab*sz) c.toList++(Builtin.zeroCells z.cells len).toList++List.drop (m.s+ab*sz+(Builtin.zeroCells z.cells len).toList.length) c.toList).toArray=cc at hst;have UT:cc.size=c.size:=(by rw[<- hcc];simp[length_take,length_drop,size_zeroCells,hzs];omega);have hzv:(zeroValue e).run P w=.ok z w:=(by simp[zeroValue,typeInfo,g1,g5]);have hrun:(Builtin.clear_ #[t] ty #[.slice (some ⟨b,m.s+ab*sz,none⟩) len cap]).run P w=.ok (.tuple #[]) (w.setRow b cc):=(by obtain⟨len',rfl⟩:∃len',len=len'+1:=⟨len-1,by omega⟩;simp[Builtin.clear_,run_underlying fy,hzv,hst]);obtain⟨xc,hM⟩:=Mem.write (o':=⟨o.sz,o.rows.take ab⟩) h hko h1 (c':=cc) (e:=ce) (setRow_heap w b c cc ce (0,0) hc) (λ b' hb=>setRow_other w b b' cc hb) (by simp) rfl rfl rfl hs (by omega) (by refine cj.congr _ c cc m.s o.sz (λ j hj=>?_) (by rw[<- hs];exact cj.take _ _ _ _ _ hO);have hj2:j<m.s+ab*sz:=(by rw[hs];refine Nat.lt_of_lt_of_le hj (Nat.add_le_add_left ?_ _);exact Nat.mul_le_mul_right _ (by simp[length_take];omega));rw[<- hcc,List.getElem?_toArray,aP,List.getElem?_append_left (by simp[length_take];omega),List.getElem?_take,aM hj2,Array.getElem?_toList]);exact⟨_,_,G,I,.inl (hdone _ hrun),⟨λ _ _=>rfl,λ_ _ h=>h,xc,λ_ h=>h⟩,hM,CN⟩;cases ha
  cases ha
 rename_i kk m t u ry;obtain⟨v,v',hvs⟩:∃v v',vs=#[v,v']:=by
  obtain⟨l⟩:=vs
  match l,hv with
  |[v,v'],_=>exact⟨v,v',rfl⟩
  |[],h=>simp[bp]at h
  |[_],h=>simp[bp]at h
  |_::_::_::_,h=>simp[bp]at h
 have ht:d6=#[t,u]:=by cases d6;simpa using ry
 subst hvs ht;simp only[bp,VR,TR]at hv;obtain⟨rfl,⟨rfl,_⟩,_⟩:=hv;cases hti:T t with
 |none=>simp[hti]at ha
 |some ti=>
  cases xt:T u with
  |none=>simp[hti,xt]at ha
  |some ui=>
   simp only[hti,xt,ai]at ha;split at ha;rename_i e kn hkd C7;cases ie:T e with
   |none=>simp[ie]at ha
   |some ei=>
    simp only[ie,ai,bX]at ha;subst ha;obtain⟨m0,m48,Ix,mpos⟩:=cX;have he:=hT e ei ie;have fy:=iT (hT t ti hti) hkd;obtain⟨info,d,z,g1,g2,g3,g4,g5,g6,g7,g8⟩:=he.ex;have⟨_,dd',_,_,h2',_,_,_,_,_,h8⟩:=(hT u ui xt).ex;rw[C7]at h8;have h8:dd'=.int kn:=h8;subst h8;obtain⟨n,rfl⟩:∃n:Nat,m=(n:Int):=⟨m.toNat,by omega⟩;simp only[Int.toNat_natCast]at m48 Ix |-;by_cases h0:n=0;subst h0;have⟨hS,hM⟩:=Mem.m8 (i:=cE i) (o:=⟨ei.size,[]⟩) h hn rfl;have hrun:(Builtin.append_ #[t,u] ty #[.slice none 0 0,.int kk ((0:Nat):Int)]).run P w=.ok (.slice none 0 0) w:=by have hw0:i64.wrap (0:Int)=0:=(by decide);simp[Builtin.append_,run_underlying fy,run_underlying h2',sizeOf,typeInfo,g1,asInt,asIntOf,hw0]
    replace hrun:(Builtin.append_ #[t,u] ty #[.slice none 0 0,.int kk 0]).run P w=.ok (.slice none 0 0) w:=hrun
    refine⟨.slice none 0 0,w,_,I,.inl (by simp[execOp,resolve,invoke,builtin,<- hops,hrun]),hS,by simpa[dZ]using hM,by simp only[VR];exact .inl ⟨by simp[ins],trivial,trivial,trivial⟩⟩;have hrun:=Lib.run_append_nil_zeros (P:=P) w t u ty e info z kk kn fy h2' g1 g5 n (by omega) (by omega) (by simp[maxLen]at Ix;omega) (by rw[g4];omega);have hd:=h.drew;have hzs:z.cells.size=ei.size:=(by rw[<- Array.length_toList,g6];exact he.len);have hge:=grownCap_ge w n 0 e;generalize hC:Builtin.zeroCells z.cells n++Builtin.zeroCells z.cells (grownCap w n 0 e-n)=cs at hrun;have hcs:cs.size=grownCap w n 0 e*ei.size:=(by rw[<- hC];simp[Array.size_append,size_zeroCells,hzs,<- Nat.add_mul];rw[show n+(grownCap w n 0 e-n)=grownCap w n 0 e by omega]);obtain⟨hS,hM⟩:=Mem.alloc (i:=cE i) (o:=⟨ei.size,List.replicate n (ei.zero.map cv)⟩) (c:=cs) (e:=e) hd hn (by refine cj.zeros ei.zero ei.size he.len (λ v hv=>uO (all_eq_true.1 he.one v hv)) n cs 0 (λ i j hi hj=>?_);have hlt:0+i*ei.size+j<n*ei.size:=(by have:(i+1)*ei.size<=n*ei.size:=Nat.mul_le_mul_right _ (by omega);rw[Nat.add_mul]at this;omega);rw[<- hC,Array.getElem?_append_left (by simpa[size_zeroCells,hzs]using hlt),MH _ _ _ (by rw[hzs];exact hlt),hzs,<- g6,Array.getElem?_toList];congr 1;rw[Nat.zero_add,Nat.mul_comm,Nat.mul_add_mod,Nat.mod_eq_of_lt hj]);refine⟨_,_,_,I,.inl (by simp[execOp,resolve,invoke,builtin,<- hops,hrun];rfl),⟨hS.other,hS.ext,λb hb=>hS.same b hb,hS.inc⟩,hM.yn,?_⟩;simp only[VR];refine .inr ⟨w.heap.size,ei.size,_,_,0,by simp[ins];rfl,rfl,hge,?_,by simp⟩;rw[hcs,Nat.zero_add];simp
   cases ha
 cases ha
theorem adM(hT:fQ P T)(h:Mem P w0 O0 G I obj w)(hn:G (cE i)=none){o:Oper}{n:Int}{ρ:Operand->AV}{get:E}{aa:Out}(hg:∀k o,get k=some o->obj k=some o)
 {r:Operand->Value} (hρ:∀x,VR P G w I (ρ x) (r x)) (ha:uQ T i o n ρ get=some aa) (cX:aa.ob):s7 P w0 O0 G I obj w i aa ((execOp r o).run P w):=by
 obtain⟨dst,op,ty,aq,after,guard⟩:=o;have val:∀{s:Sem Value}{z:Value},s.run P w=.ok z w->aa.upd=[]->VR P G w I aa.v z->s7 P w0 O0 G I obj w i aa ((do pure (.value (<- s)):Sem Next).run P w):=by intro s z h1 h2 h3;refine⟨z,w,G,I,.inl (by simp[h1]),Step.refl ..,by rw[h2];exact h,h3⟩
 unfold uQ at ha;split at ha;rename_i bop t x y q heq;simp at heq;subst heq;have⟨z,h1,h2,h3⟩:=air (xo:=x) (yo:=y) hT ha (hρ x) (hρ y);exact val h1 h3 h2;rename_i s d x heq;simp at heq;subst heq;have⟨z,h1,h2,h3⟩:=afu hT ha (hρ x);exact val h1 h3 h2;rename_i t x j heq;simp at heq;subst heq;have⟨z,h1,h2,h3⟩:=adL hT ha cX (hρ x) (hρ j);exact val h1 h3 h2;rename_i t x lo hi heq;simp at heq;subst heq;obtain⟨z,h1,h2,h3⟩:=Vy (ua:=lo.map r) (hiv:=hi.map r) hT ha cX (hρ x) (λ y hy=>by
  cases lo with
  |none=>cases hy
  |some q=>cases hy;exact⟨r q,rfl,hρ q⟩) (λ h=>by cases lo<;>first|rfl|cases h) (λ y hy=>by
  cases hi with
  |none=>cases hy
  |some q=>cases hy;exact⟨r q,rfl,hρ q⟩) (λ h=>by cases hi<;>first|rfl|cases h)
 exact val h1 h3 h2;rename_i b args d6 heq;simp at heq;subst heq;exact Vz hT h hn hg ha cX (by rw[Array.toList_map];exact bp.map hρ _) rfl;cases ha
theorem adN(hT:fQ P T)(h:Mem P w0 O0 G I obj w)(hn:G (cE i)=none){o:Oper}{ae:U Nat}{fr:Operand->AV}{cL:kh}{ρ:Operand->AV}{get:E}{aa:Out}(hg:∀k o,get k=some o->obj k=some o)
 {r:Operand->Value} (hρ:∀x,VR P G w I (ρ x) (r x)) (ha:Jj P T i o ae fr cL ρ get=some aa) (cX:aa.ob):s7 P w0 O0 G I obj w i aa ((execOp r o).run P w):=by
 unfold Jj at ha;split at ha;cases ha;rw[ah]at ha;obtain⟨out',h1,h2⟩:=ha;cases h2;have cX:=sN _ cX;have hb:=cX (∀ x∈o.op.operands,(gO P get (ρ x) (fr x)/\∀k∈refs (ρ x),k∈ae)\/fr x=ρ x) (by simp);have hsub:∀k o',dw obj (ae.map λk=>(k,none)) k=some o'->obj k=some o'/\k∉ae:=by intro k o' hk;rw[zJ]at hk;split at hk;cases hk;exact⟨hk,‹_›⟩
 have hd:=h.drop (dw obj (ae.map λk=>(k,none))) (λ k o hk=>(hsub k o hk).1);obtain⟨_,hM⟩:=hd.below (I':=gC G obj ae I) (w':=w) ⟨rfl,rfl,rfl,aB _,λ_ _=>rfl⟩ (λ b hb=>.inl hb) (OO h ae) (λ b k o B hb' e1 e2 e3=>by obtain⟨f1,f2⟩:=hsub k o e1;have⟨a1,_,_⟩:=h.ownB k o B b f1 e2 e3;rcases hb' with h5|⟨k',o',s',n',g1,g2,g3⟩;exact a1 h5;have:=h.ox k k' o o' b f1 g2 ⟨B,e2,e3⟩ (.at g3);subst this;exact f2 g1) (λ b hb'=>by rcases hb' with h5|⟨k',o',s',n',g1,g2,g3⟩;exact h.up b h5;exact .inr (h.own k' o' b s' n' g2 g3).2.2);have hfr:∀x,VR P G w (gC G obj ae I) ((λ x=>open Classical in if x∈o.op.operands then fr x else .undef) x) (r x):=by intro x;by_cases hx:x∈o.op.operands;simp[hx];rcases hb x hx with ⟨b1,b2⟩|b1;exact VR.mono (λ k B h=>by simp[nj]at h) (λ _ _=>rfl) (λ _ h=>h) _ _ (gO.sound h ae _ _ _ b2 (gO.weaken hg _ _ b1) (hρ x));rw[b1];exact VR.mono (λ _ _ h=>h) (λ _ _=>rfl) (λ _ h=>.inl h) _ _ (hρ x);simp[hx,VR]
 rw[Uz (ρ':=λx=>open Classical in if x∈o.op.operands then fr x else .undef) (λ x hx=>by simp[hx])]at h1;obtain⟨v',w',β',I',k1,k2,k3,k4⟩:=Ux hT hM hn (λ k o' hk=>by rw[zJ];split at hk;cases hk;rw[aC ‹_›];exact hg k o' hk) hfr h1 (tF _ λp hp=>cX p (by simp[hp]));refine⟨v',w',β',I',k1,⟨k2.other,k2.ext,λb hb=>k2.same b (.inl hb),λb hb=>k2.inc b (.inl hb)⟩,?_,k4⟩;have e:dw obj (out'.upd++ae.map λk=>(k,none))=dw (dw obj (ae.map λk=>(k,none))) out'.upd:=funext λk=>uo obj _ _ k;rw[e];exact k3
end
open Go.RowKit Go.MapKept
def OT:B6->Value->Bool
 |.int a,.int b _=>decide (a=b)
 |.str,.string _=>true
 |.bool,.bool _=>true
 |_,_=>false
def UA:Value->Value->J Bool
 |.int k a,.int k' b=>if k=k' then some (a==b)else none
 |.string a,.string b=>some (a.toList==b.toList)
 |.bool a,.bool b=>some (a==b)
 |_,_=>none
def UB(key:Value):U (List AV)->J (Option (Nat×AV))
 |[]=>some none
 |[.t (.sc kv),y]::rs=>(UA key kv).bind λb=>if b then some (some (0,y))else(UB key rs).map λr=>r.map λp=>(p.1+1,p.2)
 |_=>none
def z6(key:Value)(y':AV):U (List AV)->J (List (List AV))
 |[]=>some [[.t (.sc key),y']]
 |[.t (.sc kv),y]::rs=>(UA key kv).bind λb=>if b then some ([.t (.sc key),y']::rs)else(z6 key y' rs).map λr=>[.t (.sc kv),y]::r
 |_=>none
def G0:AV->AV
 |.agg cs=>.agg (cs.map wk)
 |x=>wk x
def Jk(T:eS)(i:Nat)(t:V):J Out:=
 (T t).bind λti=>match ti.k with
 |.map _ _=>some ⟨.mp (cE i),[(cE i,some ⟨0,[]⟩)],[]⟩
 |_=>none
def H4(r:J (Nat×AV))(z:J AV):J AV:=match r with
 |some p=>some p.2
 |none=>z
def K9(T:eS)(t:V)(x key:AV)(ok:Bool)(get:E):J Out:=
 (T t).bind λti=>match ti.k,x,key with
 |.map kt et,.mp k,.t (.sc kv)=>(T kt).bind λki=>(T et).bind λei=>(get k).bind λo=>if OT ki.k kv=true/\o.sz=o.rows.length then(UB kv o.rows).bind λr=>
  (H4 r (part' ei.agg ei.size ((ei.zero.map cv).map wk))).bind λv=>pv (if ok then .fR [v,.t (.sc (.bool r.isSome))]else v)else none
 |_,_,_=>none
def OU(T:eS)(t:V)(x key y:AV)(get:E):J Out:=
 (T t).bind λti=>match ti.k,x,key with
 |.map kt _,.mp k,.t (.sc kv)=>(T kt).bind λki=>(get k).bind λo=>if OT ki.k kv=true/\o.sz=o.rows.length then(z6 kv (G0 y) o.rows).bind λrs=>
  some ⟨.undef,[(k,some ⟨rs.length,rs⟩)],[]⟩else none
 |_,_,_=>none
section
variable {P:Program} {T:eS} {w0:World} {O0:k5} {G:Nat->Option cW} {I:Nat->Prop} {obj:Nat->Option aR} {w:World} {i:Nat}
theorem alo{k:B6}{v:Value}{d:TypeDesc}(h:OT k v=true)(hd:Tl k d):IsKey d v:=by unfold OT at h;split at h;subst hd;simp at h;subst h;simp[IsKey];subst hd;simp[IsKey];subst hd;simp[IsKey];cases h
theorem ab8{d:TypeDesc}{a b:Value}(ha:IsKey d a){r:Bool}(h:UA a b=some r):Instr.sameNow d a b=some r/\(r=true->a=b)/\IsKey d b:=by
 unfold UA at h;split at h;split at h;rename_i hk;subst hk;cases h;cases d<;>simp only[IsKey]at ha |-;subst ha;refine⟨by simp[Instr.sameNow],λhh=>?_,rfl⟩;rw[eq_of_beq hh];cases h;rename_i x y;cases h;cases d<;>simp only[IsKey]at ha |-
 all_goals first|exact ha.elim|skip
 have e:(x==y)=(x.toList==y.toList):=by rw[dH,bytes_beq];constructor;rintro rfl;simp;intro hh;have:=eq_of_beq hh;cases x;cases y;simp only[ByteArray.toList_eq]at this;congr 1;exact Array.ext' this
 refine⟨by simp[Instr.sameNow,e],λhh=>?_,trivial⟩;rw[(bytes_beq x y).1 (e ▸ hh)];cases h;cases d<;>simp only[IsKey]at ha |-
 all_goals first|exact ha.elim|skip
 exact⟨by simp[Instr.sameNow],λhh=>by rw[eq_of_beq hh],trivial⟩;cases h
theorem UC{d:TypeDesc}{key:Value}(hk:IsKey d key):∀(rows:U (List AV))(es:U MapEntry)(i:Nat)(r:J (Nat×AV)),cQ P G w I rows es->UB key rows=some r->
 (r=none/\Instr.findNow d key es i=some none)\/∃j y e,r=some (j,y)/\Instr.findNow d key es i=some (some (i+j,e.val))/\es[j]? =some e/\e.key=key/\VR P G w I y e.val
 |[],[],i,r,_,h=>by simp[UB]at h;exact .inl ⟨h.symm,rfl⟩
 |row::rows,e::es,i,r,hm,h=>by
  obtain⟨h1,h2⟩:=hm;unfold UB at h;split at h;rename_i heq;cases heq;rename_i kv y rs heq;injection heq with e1 e2;subst e1;subst e2;obtain⟨⟨g1,_⟩,g2,_⟩:=h1;rw[ah]at h;obtain⟨b,h3,h⟩:=h;rw[<- g1]at h3;have⟨q1,q2,_⟩:=ab8 hk h3;cases b with
  |true=>
   simp at h;subst h;exact .inr ⟨0,y,e,rfl,by simp[Instr.findNow,q1],rfl,(q2 rfl).symm,g2⟩
  |false=>
   simp at h;obtain⟨r',h4,rfl⟩:=h;rcases UC hk rows es (i+1) r' h2 h4 with ⟨rfl,a2⟩|⟨j,y',e',rfl,a2,a3,a4,a5⟩;exact .inl ⟨rfl,by simp[Instr.findNow,q1,a2]⟩;exact .inr ⟨j+1,y',e',rfl,by simp only[Instr.findNow,q1,a2];congr 3;omega,by simpa using a3,a4,a5⟩
  cases h
 |[],_::_,_,_,hm,_|_::_,[],_,_,hm,_=>hm.elim
theorem XM{d:TypeDesc}{key v:Value}{y':AV}(hk:IsKey d key)(hv:VR P G w I y' v)(hkv:oneCell key):∀(rows:U (List AV))(es:U MapEntry)(i:Nat)(rs':U (List AV)),cQ P G w I rows es->z6 key y' rows=some rs'->
 (Instr.findNow d key es i=some none/\∀n,cQ P G w I rs' (es++[⟨key,v,n⟩]))\/∃j e,Instr.findNow d key es i=some (some (i+j,e.val))/\es[j]? =some e/\e.key=key/\cQ P G w I rs' (es.modify j λe=>{ e with key:=key,val:=v })
 |[],[],i,r,_,h=>by simp[z6]at h;subst h;refine .inl ⟨rfl,λn=>?_⟩;simp only[fO,cQ,bp,VR,TR];exact⟨⟨⟨trivial,hkv⟩,hv,trivial⟩,trivial⟩
 |row::rows,e::es,i,r,hm,h=>by
  obtain⟨h1,h2⟩:=hm;unfold z6 at h;split at h;rename_i heq;cases heq;rename_i kv y rs heq;injection heq with e1 e2;subst e1;subst e2;have h1':=h1;simp only[bp,VR,TR]at h1;obtain⟨⟨g1,g1'⟩,g2,_⟩:=h1;rw[ah]at h;obtain⟨b,h3,h⟩:=h;rw[<- g1]at h3;have⟨q1,q2,_⟩:=ab8 hk h3;cases b with
  |true=>
   simp at h;subst h;refine .inr ⟨0,e,by simp[Instr.findNow,q1],rfl,(q2 rfl).symm,?_⟩;simp only[List.modify_zero_cons,cQ,bp,VR,TR];exact⟨⟨⟨trivial,hkv⟩,hv,trivial⟩,h2⟩
  |false=>
   simp at h;obtain⟨r',h4,rfl⟩:=h;rcases XM hk hv hkv rows es (i+1) r' h2 h4 with ⟨a1,a2⟩|⟨j,e',a1,a2,a3,a4⟩;exact .inl ⟨by simp[Instr.findNow,q1,a1],λn=>⟨h1',a2 n⟩⟩;refine .inr ⟨j+1,e',by simp only[Instr.findNow,q1,a1];congr 3;omega,by simpa using a2,a3,?_⟩;exact⟨h1',a4⟩
  cases h
 |[],_::_,_,_,hm,_|_::_,[],_,_,hm,_=>hm.elim
theorem Mem.vA{k:Nat}{o o':aR}{b:Nat}{es:Array MapEntry}{cl:Nat}{w':Y}(h:Mem P w0 O0 G I obj w)(hk:obj k=some o)(hβ:G k=some (.mp b))
 (hnew:w'.heap[b]? =some (.map es cl)) (hother:∀b',b'≠b->w'.heap[b']? =w.heap[b']?) (hsize:w'.heap.size=w.heap.size) (hos:w'.os=w.os) (wx:w'.tape=w.tape) (hout:w'.output=w.output)
 (hle:o'.rows.length<=o'.sz) (hr:cQ P G w I o'.rows es.toList) (hnd:(es.toList.map (·.born)).Nodup) (hlt':∀e∈es.toList,e.born<cl):
 Same I w w'/\Mem P w0 O0 G I (dw obj [(k,some o')]) w':=by
 obtain⟨T6,hlt,hO⟩:=h.kq k o b hk ⟨_,hβ,rfl⟩;have hs:Same I w w':=λb' hb=>hother b' (λ e=>T6 (e ▸ hb));have hx:∀(j:Nat)(o1:aR),dw obj [(k,some o')] j=some o1->∃o2,obj j=some o2:=λj o1 h=>by simp[dw]at h;split at h;rename_i e;exact⟨o,by rw[e];exact hk⟩;exact⟨_,h⟩
 refine⟨hs,?_⟩;constructor;intro j oj hj;simp[dw]at hj;split at hj;rename_i hjk;cases hj;exact⟨.mp b,by rw[hjk];exact hβ,es,cl,hnew,hle,λ_=>cQ.mono (λ _ _ h=>h) hs (λ _ h=>h) _ _ hr,hnd,hlt'⟩;rename_i hjk;have⟨B,hB,s9⟩:=h.c8 j oj hj;refine⟨B,hB,OR.mono (λ _ _ h=>h) hs (λ _ h=>h) (λ b1 e1=>hother b1 (λ e2=>hjk ?_)) s9⟩;subst e2;exact h.ir j k oj o B _ b1 hj hk hB hβ e1 rfl;intro j j' o1 o2 B1 B2 b1 h1 h2 h3 h4 h5 h6;have⟨p1,q1⟩:=hx j o1 h1;have⟨p2,q2⟩:=hx j' o2 h2;exact h.ir j j' p1 p2 B1 B2 b1 q1 q2 h3 h4 h5 h6;intro j o1 B1 b1 h1 h2 h3;have⟨p1,q1⟩:=hx j o1 h1;have:=h.ownB j p1 B1 b1 q1 h2 h3;rw[hsize];exact this;intro b1 hb1;rw[hsize];exact h.lt b1 hb1;exact h.up;intro b1 hb1 hno;rw[hother b1 (λ e1=>?_)];exact h.keep b1 hb1 hno;subst e1;rcases hO with hO|hO;exact hno hO;omega;rw[hsize];exact h.le;rw[hos];exact h.os;rw[wx];exact h.tape;rw[hout];exact h.output;exact h.anch;exact h.vars.mono hs (λ _ h=>h)
theorem Mem.Fm(h:Mem P w0 O0 G I obj w)(hn:G i=none):
 Step G I w i (ins G i (.mp w.heap.size)) I (w.alloc (.map #[] 0))/\Mem P w0 O0 (ins G i (.mp w.heap.size)) I (dw obj [(i,some ⟨0,[]⟩)]) (w.alloc (.map #[] 0)):=by
 have hS:Step G I w i (ins G i (.mp w.heap.size)) I (w.alloc (.map #[] 0)):=
  ⟨λ k hk=>by simp[ins,jt.ne hk],oZ hn,Same.alloc h.lt _,λ_ h=>h⟩
 refine⟨hS,?_⟩;constructor;intro k o' hk;simp[dw]at hk;split at hk;cases hk;rename_i hki;exact⟨.mp w.heap.size,by simp[ins,hki],#[],0,heap_alloc_new w _,aB _,λ_=>trivial,by simp,by simp⟩;have⟨B,hB,hO⟩:=h.c8 k o' hk;exact⟨B,oZ hn _ _ hB,OR.mono hS.ext hS.same hS.inc (λ b hb=>sM (h.ownB k o' B b hk hB hb).2.1) hO⟩;intro k k' o1 o2 B B' b h1 h2 h3 h4 h5 h6;simp[dw]at h1 h2;simp[ins]at h3 h4;split at h1<;>split at h2;rename_i a b;rw[a,b];rename_i hki pn;simp[hki]at h3;simp[pn]at h4;subst h3;injection h5 with h5;have:=(h.ownB k' o2 B' b h2 h4 h6).2.1;omega;rename_i hki pn;simp[pn]at h4;simp[hki]at h3;subst h4;injection h6 with h6;have:=(h.ownB k o1 B b h1 h3 h5).2.1;omega;rename_i hki pn;simp[hki,pn]at h3 h4;exact h.ir k k' o1 o2 B B' b h1 h2 h3 h4 h5 h6;intro k o' B b h1 h2 h3;simp[dw]at h1;simp[ins]at h2;split at h1;rename_i hki;simp[hki]at h2;subst h2;injection h3 with h3;refine⟨λ hI=>?_,?_,.inr ?_⟩;have:=h.lt b hI;omega;simp;omega;have:=h.le;omega;rename_i hki;simp[hki]at h2;have⟨a,b',c'⟩:=h.ownB k o' B b h1 h2 h3;exact⟨a,by simp;omega,c'⟩;intro b hb;have:=h.lt b hb;simp;omega;exact h.up;intro b hb hO;rw[sM (by have:=h.le;omega)];exact h.keep b hb hO;have:=h.le;simp;omega;exact h.os;exact h.tape;exact h.output;intro j B hj;exact oZ hn _ _ (h.anch j B hj);exact h.vars.mono (Same.alloc h.lt _) (λ _ h=>h)
theorem afv{t:V}{ti:pD}(ht:mi P t ti){k e:V}(h:ti.k=.map k e):P.underlying t=some (.map k e):=by obtain⟨info,d,z,_,h2,_,_,_,_,_,h8⟩:=ht.ex;rw[h]at h8;rw[h2,h8]
theorem afw{t:V}{ti:pD}(ht:mi P t ti){v:Value}(h:OT ti.k v=true):∃d,P.underlying t=some d/\IsKey d v:=by obtain⟨info,d,z,_,h2,_,_,_,_,_,h8⟩:=ht.ex;exact⟨d,h2,alo h h8⟩
theorem apj{k:B6}{v:Value}(h:OT k v=true):oneCell v:=by unfold OT at h;split at h;exact trivial;exact trivial;exact trivial;cases h
theorem apk{t:V}{ti:pD}(ht:mi P t ti){v:AV}(hp:part' ti.agg ti.size ((ti.zero.map cv).map wk)=some v):∃z,(zeroValue t).run P w=.ok z w/\VR P G w I v z:=by
 obtain⟨info,d,z,h1,h2,h3,h4,h5,h6,h7,h8⟩:=ht.ex;refine⟨z,by simp[zeroValue,typeInfo,h1,h5],?_⟩;obtain⟨_,_,g1,g2⟩:=Na (P:=P) (G:=G) (w:=w) (I:=I) hp (bp.wk _ _ (bp.cv ti.zero));have hf:=ht.form info z h1 h5;cases ha:ti.agg with
 |true=>
  rw[ha]at hf;cases z<;>simp[tG]at hf;rename_i cs;have:=g1 ha;simp[Value.cells]at h6;rw[<- h6]at this;simpa using this
 |false=>
  rw[ha]at hf;have h1c:oneCell z:=by cases z<;>simp[tG]at hf<;>trivial
  have⟨u,e1,e2⟩:=g2 ha;rw[cells_one h1c]at h6;simp at h6;rw[<- h6]at e1;cases e1;exact e2
theorem XO(h:Mem P w0 O0 G I obj w)(hn:G (cE i)=none){t:V}{aa:Out}(ha:Jk T i t=some aa){r:Operand->Value}
 {dst:J Tmp} {ty:V} {aq:String} {after:Array Edge} {guard:J (Nat×Bool)}:s7 P w0 O0 G I obj w i aa ((execOp r ⟨dst,.makeMap t none,ty,aq,after,guard⟩).run P w):=by
 unfold Jk at ha;cases hti:T t with
 |none=>simp[hti]at ha
 |some ti=>
  simp[hti]at ha;split at ha;cases ha;have⟨hS,hM⟩:=Mem.Fm h hn;refine⟨.map (some w.heap.size),_,_,I,.inl ?_,hS,hM,?_⟩;simp[execOp,Instr.makeMap];simp only[VR];exact⟨_,by simp[ins],rfl⟩;cases ha
theorem alp(hT:fQ P T){t kt et:V}{ei:pD}(ie:T et=some ei){b:Nat}{es:Array MapEntry}{cl:Nat}{kv:Value}{ok:Bool}{r:J (Nat×AV)}{v:AV}
 (hu:P.underlying t=some (.map kt et)) (g1:w.heap[b]? =some (.map es cl)) (hck:(Instr.checkKey es.isEmpty 10000 kt kv).run P w=.ok () w)
 (hf:(r=none/\(Instr.findKey kt kv es.toList).run P w=.ok none w)\/∃(j:Nat)(y:AV)(e:MapEntry),r=some (j,y)/\(Instr.findKey kt kv es.toList).run P w=.ok (some (j,e.val)) w/\VR P G w I y e.val)
 (hv:H4 r (part' ei.agg ei.size ((ei.zero.map cv).map wk))=some v):
 ∃z,(Instr.lookup t (.map (some b)) kv ok).run P w=.ok z w/\VR P G w I (if ok then .fR [v,.t (.sc (.bool r.isSome))]else v) z:=by
 rcases hf with ⟨rfl,a2⟩|⟨j,y,e,rfl,a2,a5⟩;have⟨z,hz,hzv⟩:=apk (G:=G) (I:=I) (w:=w) (hT et ei ie) hv;cases ok with
 |true=>
  refine⟨.tuple #[z,.bool false],?_,?_⟩;simp[Instr.lookup,run_underlying hu,MapKept.run_getObj_map g1,hck,a2,hz];simp only[if_true,VR];exact⟨_,rfl,by simp only[bp,VR,TR];exact⟨hzv,⟨rfl,trivial⟩,trivial⟩⟩
 |false=>
  refine⟨z,?_,by simpa using hzv⟩;simp[Instr.lookup,run_underlying hu,MapKept.run_getObj_map g1,hck,a2,hz]
 simp[H4]at hv;subst hv;cases ok with
 |true=>
  refine⟨.tuple #[e.val,.bool true],?_,?_⟩;simp[Instr.lookup,run_underlying hu,MapKept.run_getObj_map g1,hck,a2];simp only[if_true,VR];exact⟨_,rfl,by simp only[bp,VR,TR];exact⟨a5,⟨rfl,trivial⟩,trivial⟩⟩
 |false=>
  refine⟨e.val,?_,by simpa using a5⟩;simp[Instr.lookup,run_underlying hu,MapKept.run_getObj_map g1,hck,a2]
theorem aa1(hT:fQ P T)(h:Mem P w0 O0 G I obj w){t:V}{x key:AV}{ok:Bool}{get:E}{aa:Out}(hg:∀k o,get k=some o->obj k=some o){u kv:Value}
 (ha:K9 T t x key ok get=some aa) (hx:VR P G w I x u) (hk:VR P G w I key kv):∃z,(Instr.lookup t u kv ok).run P w=.ok z w/\VR P G w I aa.v z/\aa.upd=[]:=by
 unfold K9 at ha;cases hti:T t with
 |none=>simp[hti]at ha
 |some ti=>
  simp only[hti,ai]at ha;split at ha;rename_i kt et k kv' hk1;rw[ah]at ha;obtain⟨ki,hki,ha⟩:=ha;rw[ah]at ha;obtain⟨ei,ie,ha⟩:=ha;rw[ah]at ha;obtain⟨o,ho,ha⟩:=ha;split at ha;rename_i hc;rw[ah]at ha;obtain⟨r,hr,ha⟩:=ha;rw[ah]at ha;obtain⟨v,hv,ha⟩:=ha;simp[pv]at ha;subst ha;simp[VR]at hx hk;obtain⟨b,hβ,rfl⟩:=hx;obtain⟨rfl,_⟩:=hk;have⟨B,hB,hO⟩:=h.c8 k o (hg k o ho);rw[hβ]at hB;cases hB;obtain⟨es,cl,g1,g2,g3,g4⟩:=hO;have hu:=afv (hT t ti hti) hk1;have⟨d,hd,hkey⟩:=afw (hT kt ki hki) hc.1;obtain⟨z,q1,q2⟩:=alp (G:=G) (I:=I) hT ie (ok:=ok) hu g1 (run_checkKey hd hkey _ 9999) (by rcases UC hkey o.rows es.toList 0 r (g3 hc.2) hr with ⟨rfl,a2⟩|⟨j,y,e,rfl,a2,a3,a4,a5⟩;exact .inl ⟨rfl,run_findKey hd a2⟩;rw[Nat.zero_add]at a2;exact .inr ⟨j,y,e,rfl,run_findKey hd a2,a5⟩) hv;exact⟨z,q1,q2,rfl⟩;cases ha;cases ha
theorem aqO{x:AV}{v:Value}(h:VR P G w I x v):VR P G w I (G0 x) v:=by
 cases x<;>simp[G0]<;>try exact h.wk
 obtain⟨vs,h1,h2⟩:=h;exact⟨vs,h1,bp.wk _ _ h2⟩
theorem adP{d:TypeDesc}{v:Value}(h:IsKey d v):Instr.sameBits 10000 v v=true:=by cases d<;>cases v<;>simp[IsKey]at h<;>simp_all [Instr.sameBits,bytes_beq]
theorem am8(h:Mem P w0 O0 G I obj w){t kt et:V}{k b:Nat}{o:aR}{es:Array MapEntry}{cl:Nat}{kv v:Value}{rs:U (List AV)}
 (hu:P.underlying t=some (.map kt et)) (j8:obj k=some o) (hβ:G k=some (.mp b)) (g1:w.heap[b]? =some (.map es cl)) (g4:(es.toList.map (·.born)).Nodup) (g5:∀e∈es.toList,e.born<cl)
 (hck:(Instr.checkKey false 10000 kt kv).run P w=.ok () w) (hks:(Instr.keyThatStays kv kv).run P w=.ok kv w)
 (hf:((Instr.findKey kt kv es.toList).run P w=.ok none w/\∀n,cQ P G w I rs (es.toList++[⟨kv,v,n⟩]))\/
  ∃(j:Nat)(e:MapEntry),(Instr.findKey kt kv es.toList).run P w=.ok (some (j,e.val)) w/\es.toList[j]? =some e/\e.key=kv/\cQ P G w I rs (es.toList.modify j λe=>{ e with key:=kv,val:=v })):
 ∃w',(Instr.mapUpdate t (.map (some b)) kv v).run P w=.ok () w'/\Same I w w'/\Mem P w0 O0 G I (dw obj [(k,some ⟨rs.length,rs⟩)]) w':=by
 rcases hf with ⟨a1,a2⟩|⟨j,e,a1,a2,a3,a4⟩;obtain⟨k1,k2⟩:=heap_set (o':=.map (es.push ⟨kv,v,cl⟩) (cl+1)) g1
 obtain⟨m1,m2⟩:=h.vA (o':=⟨rs.length,rs⟩) (w':={ w with heap:=w.heap.setIfInBounds b (.map (es.push ⟨kv,v,cl⟩) (cl+1)) }) j8 hβ k1 k2 (by simp) rfl rfl rfl (aB _) (by simpa using a2 cl)
  (by rw[Array.toList_push,List.map_append,List.nodup_append];refine⟨g4,by simp,λa ha b hb=>?_⟩;simp at hb;obtain⟨e,he,rfl⟩:=mem_map.1 ha;have:=g5 e he;omega)
  (λ e he=>by rw[Array.toList_push,bD]at he;rcases he with he|he;have:=g5 e he;omega;simp at he;subst he;exact Nat.lt_succ_self _)
 refine⟨_,?_,m1,m2⟩;simp[Instr.mapUpdate,run_underlying hu,MapKept.run_getObj_map g1,hck,a1,run_setObj_map _ g1];obtain⟨k1,k2⟩:=heap_set (o':=.map (es.modify j λe=>{ e with key:=kv,val:=v }) cl) g1;have ht:(es.modify j λe=>{ e with key:=kv,val:=v }).toList=es.toList.modify j λe=>{ e with key:=kv,val:=v }:=Array.toList_modify;have hb:(es.toList.modify j λe=>{ e with key:=kv,val:=v }).map (·.born)=es.toList.map (·.born):=by apply List.ext_getElem?;intro q;simp[List.getElem?_modify];split<;>cases es.toList[q]?<;>rfl
 obtain⟨m1,m2⟩:=h.vA (o':=⟨rs.length,rs⟩) (w':={ w with heap:=w.heap.setIfInBounds b (.map (es.modify j λe=>{ e with key:=kv,val:=v }) cl) }) j8 hβ k1 k2 (by simp) rfl rfl rfl (aB _) (by rw[ht];exact a4)
  (by rw[ht,hb];exact g4)
  (λ e he=>by rw[ht]at he;have:e.born∈(es.toList.modify j λe=>{ e with key:=kv,val:=v }).map (·.born):=mem_map.2 ⟨e,he,rfl⟩;rw[hb]at this;obtain⟨e',he',hh⟩:=mem_map.1 this;rw[<- hh];exact g5 e' he')
 refine⟨_,?_,m1,m2⟩;have hold:((es[j]?).map (·.key)).getD kv=kv:=by rw[<- Array.getElem?_toList,a2];exact a3
 simp[Instr.mapUpdate,run_underlying hu,MapKept.run_getObj_map g1,hck,a1,hold,hks,run_setObj_map _ g1]
theorem aa2(hT:fQ P T)(h:Mem P w0 O0 G I obj w){t:V}{x key y:AV}{get:E}{aa:Out}(hg:∀k o,get k=some o->obj k=some o){u kv v:Value}
 (ha:OU T t x key y get=some aa) (hx:VR P G w I x u) (hk:VR P G w I key kv) (hy:VR P G w I y v):∃w',(Instr.mapUpdate t u kv v).run P w=.ok () w'/\Same I w w'/\Mem P w0 O0 G I (dw obj aa.upd) w'/\aa.v=.undef:=by
 unfold OU at ha;cases hti:T t with
 |none=>simp[hti]at ha
 |some ti=>
  simp[hti]at ha;split at ha;rename_i kt et k kv' hk1;rw[ah]at ha;obtain⟨ki,hki,ha⟩:=ha;rw[ah]at ha;obtain⟨o,ho,ha⟩:=ha;split at ha;rename_i hc;rw[ah]at ha;obtain⟨rs,hr,ha⟩:=ha;cases ha;simp[VR]at hx hk;obtain⟨b,hβ,rfl⟩:=hx;obtain⟨hkk,_⟩:=hk;subst hkk;have j8:=hg k o ho;have⟨B,hB,hO⟩:=h.c8 k o j8;rw[hβ]at hB;cases hB;obtain⟨es,cl,g1,g2,g3,g4,g5⟩:=hO;have hu:=afv (hT t ti hti) hk1;have⟨d,hd,hkey⟩:=afw (hT kt ki hki) hc.1;have hlt:b<w.heap.size:=(Array.getElem?_eq_some_iff.1 g1).1;obtain⟨w',q1,q2,q3⟩:=am8 (rs:=rs) (v:=v) h hu j8 hβ g1 g4 g5 (run_checkKey hd hkey _ 9999) (by simp[Instr.keyThatStays,adP hkey]) (by rcases XM hkey (aqO hy) (apj hc.1) o.rows es.toList 0 rs (g3 hc.2) hr with ⟨a1,a2⟩|⟨j,e,a1,a2,a3,a4⟩;exact .inl ⟨run_findKey hd a1,a2⟩;rw[Nat.zero_add]at a1;exact .inr ⟨j,e,run_findKey hd a1,a2,a3,a4⟩);exact⟨w',q1,q2,q3,rfl⟩;cases ha;cases ha
end
def NL(T:eS)(i:Nat)(t:V)(l c:AV):J Out:=
 (T t).bind λti=>match ti.k,l,c with
 |.slice e,.t (.sc (.int _ n)),.t (.sc (.int _ m))=>(T e).bind λei=>
  some ⟨.own (cE i) 0 n.toNat,[(cE i,some ⟨ei.size,dZ (List.replicate n.toNat (ei.zero.map cv))⟩)],[0<=n/\n<=m/\m.toNat*ei.bytes<=140737488355328/\m.toNat<=maxLen/\0<ei.size]⟩
 |_,_,_=>none
def RJ(x:AV):J Out:=
 match x with
 |.ptr k r f=>pv (.ptr k r f)
 |.eV r f=>pv (.eV r f)
 |_=>none
def MY:Op->Bool
 |.nilCheck _=>true
 |.makeSlice _ _ _=>true
 |.makeMap _ none=>true
 |.lookup _ _ _ _=>true
 |.mapUpdate _ _ _ _=>true
 |_=>false
def FM(T:eS)(i:Nat)(o:Oper)(_n:Int)(ρ:Operand->AV)(get:E):J Out:=
 match o.op with
 |.nilCheck x=>RJ (ρ x)
 |.makeSlice t l c=>NL T i t (ρ l) (ρ c)
 |.makeMap t none=>Jk T i t
 |.lookup t m x ok=>K9 T t (ρ m) (ρ x) ok get
 |.mapUpdate t m x v=>OU T t (ρ m) (ρ x) (ρ v) get
 |_=>none
def uR(T:eS)(i:Nat)(o:Oper)(n:Int)(ρ:Operand->AV)(get:E):J Out:=
 bif MY o.op then FM T i o n ρ get else uQ T i o n ρ get
section
variable {T:eS}
theorem aa3{i:Nat}{o:Oper}{n:Int}{ρ ρ':Operand->AV}{get:E}(h:∀x∈o.op.operands,ρ x=ρ' x):FM T i o n ρ get=FM T i o n ρ' get:=by
 obtain⟨dst,op,ty,aq,after,guard⟩:=o;cases op<;>simp only[Op.operands]at h<;>simp[FM]
 case nilCheck x=>rw[h x (by simp)]
 case makeSlice t l c=>rw[h l (by simp),h c (by simp)]
 case makeMap t r=>cases r<;>rfl
 case lookup t m x ok=>rw[h m (by simp),h x (by simp)]
 case mapUpdate t m x v=>rw[h m (by simp),h x (by simp),h v (by simp)]
theorem aa4{i:Nat}{o:Oper}{n:Int}{ρ ρ':Operand->AV}{get:E}(h:∀x∈o.op.operands,ρ x=ρ' x):uR T i o n ρ get=uR T i o n ρ' get:=by unfold uR;rw[adJ h,aa3 h]
end
section
variable {P:Program} {T:eS} {w0:World} {O0:k5} {G:Nat->Option cW} {I:Nat->Prop} {obj:Nat->Option aR} {w:World} {i:Nat}
theorem aa5(z:Array Value)(n j:Nat)(h:j<n):(madeCells z n)[j]? =some (z[j%z.size]!):=by simp[madeCells,h]
theorem afy(hT:fQ P T)(h:Mem P w0 O0 G I obj w)(hn:G (cE i)=none){t:V}{l c:AV}{u v:Value}{aa:Out}(ha:NL T i t l c=some aa)(cX:aa.ob)(hl:VR P G w I l u)(hc:VR P G w I c v)
 {r:Operand->Value} {x y:Operand} (hu:r x=u) (hv:r y=v) {dst:J Tmp} {ty:V} {aq:String} {after:Array Edge} {guard:J (Nat×Bool)}:
 s7 P w0 O0 G I obj w i aa ((execOp r ⟨dst,.makeSlice t x y,ty,aq,after,guard⟩).run P w):=by
 unfold NL at ha;cases hti:T t with
 |none=>simp[hti]at ha
 |some ti=>
  simp[hti]at ha;split at ha;rename_i e kl n kc m hkd;cases ie:T e with
  |none=>simp[ie]at ha
  |some ei=>
   simp[ie]at ha;subst ha;obtain⟨n0,nm,m47,Ix,mpos⟩:=cX;simp[VR]at hl hc;obtain⟨rfl,_⟩:=hl;obtain⟨rfl,_⟩:=hc;have he:=hT e ei ie;have fy:=iT (hT t ti hti) hkd;obtain⟨info,d,z,g1,g2,g3,g4,g5,g6,g7,g8⟩:=he.ex;obtain⟨n,rfl⟩:∃n':Nat,n=(n':Int):=⟨n.toNat,by omega⟩;obtain⟨m,rfl⟩:∃m':Nat,m=(m':Int):=⟨m.toNat,by omega⟩;simp at m47 Ix |-;have hb:(info.bytes:Int)*(m:Int)<=281474976710656:=by
    have:((info.bytes*m:Nat):Int)<=281474976710656:=by rw[g4,Nat.mul_comm];omega
    rwa [Int.natCast_mul]at this
   have hrun:=run_make (P:=P) w t e info z fy g1 g5 kl kc n m n0 nm hb (by simp[maxLen]at Ix;omega);simp[g3]at hrun;have hzs:z.cells.size=ei.size:=(by rw[<- Array.length_toList,g6];exact he.len);have hcs:(madeCells z.cells (m*ei.size)).size=m*ei.size:=size_madeCells _ _;obtain⟨hS,hM⟩:=Mem.alloc (i:=cE i) (o:=⟨ei.size,List.replicate n (ei.zero.map cv)⟩) (c:=madeCells z.cells (m*ei.size)) (e:=e) h hn (by refine cj.zeros ei.zero ei.size he.len (λ v hv=>uO (all_eq_true.1 he.one v hv)) n _ 0 (λ i j hi hj=>?_);have hlt:0+i*ei.size+j<m*ei.size:=(by have:(i+1)*ei.size<=m*ei.size:=Nat.mul_le_mul_right _ (by omega);rw[Nat.add_mul]at this;omega);rw[aa5 _ _ _ hlt,hzs];have e1:(0+i*ei.size+j)%ei.size=j:=(by rw[Nat.zero_add,Nat.mul_comm,Nat.mul_add_mod,Nat.mod_eq_of_lt hj]);rw[e1,<- g6,Array.getElem?_toList,getElem!_pos z.cells j (by rw[hzs];exact hj),Array.getElem?_eq_getElem]);refine⟨_,_,_,I,.inl (by simp[execOp,hu,hv,hrun];rfl),hS,hM.yn,?_⟩;simp only[VR];refine .inr ⟨w.heap.size,ei.size,_,_,0,by simp[ins];rfl,rfl,by omega,?_,by simp⟩;rw[am4,QQ,hcs,Nat.zero_add,Nat.zero_add];exact aB _
  cases ha
theorem aa6(hT:fQ P T)(h:Mem P w0 O0 G I obj w)(hn:G (cE i)=none){o:Oper}{n:Int}{ρ:Operand->AV}{get:E}{aa:Out}(hg:∀k o,get k=some o->obj k=some o)
 {r:Operand->Value} (hρ:∀x,VR P G w I (ρ x) (r x)) (ha:FM T i o n ρ get=some aa) (cX:aa.ob):s7 P w0 O0 G I obj w i aa ((execOp r o).run P w):=by
 obtain⟨dst,op,ty,aq,after,guard⟩:=o;unfold FM at ha;split at ha
 .rename_i x heq;simp only at heq;subst heq;have hx:=hρ x;unfold RJ at ha;split at ha
  .rename_i k q f hk;simp only[pv,bX]at ha;subst ha;rw[hk]at hx;have hx2:=hx;simp only[VR]at hx2;obtain⟨b,sz,m,_,e1⟩:=hx2;exact⟨r x,w,G,I,.inl (by simp[execOp,e1]),Step.refl ..,h,hx⟩
  .rename_i q f hk;simp only[pv,bX]at ha;subst ha;rw[hk]at hx;have hx2:=hx;simp only[VR]at hx2;obtain⟨b,o',e1,_⟩:=hx2;exact⟨r x,w,G,I,.inl (by simp[execOp,e1]),Step.refl ..,h,hx⟩
  .cases ha
 .rename_i t l c heq;simp only at heq;subst heq;exact afy hT h hn ha cX (hρ l) (hρ c) rfl rfl
 .rename_i t heq;simp only at heq;subst heq;exact XO h hn ha
 .rename_i t m x ok heq;simp only at heq;subst heq;have⟨z,h1,h2,h3⟩:=aa1 hT h hg ha (hρ m) (hρ x);exact⟨z,w,G,I,.inl (by simp[execOp,h1]),Step.refl ..,by rw[h3];exact h,h2⟩
 .rename_i t m x v heq;simp only at heq;subst heq;have⟨w',h1,h2,h3,h4⟩:=aa2 hT h hg ha (hρ m) (hρ x) (hρ v);exact⟨undef,w',G,I,.inr ⟨by simp[execOp,h1],rfl⟩,⟨λ _ _=>rfl,λ_ _ h=>h,h2,λ_ h=>h⟩,h3,by rw[h4];simp[VR]⟩
 .cases ha
theorem aa7(hT:fQ P T)(h:Mem P w0 O0 G I obj w)(hn:G (cE i)=none){o:Oper}{n:Int}{ρ:Operand->AV}{get:E}{aa:Out}(hg:∀k o,get k=some o->obj k=some o)
 {r:Operand->Value} (hρ:∀x,VR P G w I (ρ x) (r x)) (ha:uR T i o n ρ get=some aa) (cX:aa.ob):s7 P w0 O0 G I obj w i aa ((execOp r o).run P w):=by
 unfold uR at ha;cases hx:MY o.op with
 |true=>rw[hx]at ha;exact aa6 (n:=n) hT h hn hg hρ ha cX
 |false=>rw[hx]at ha;exact adM hT h hn hg hρ ha cX
end
mutual
def ix(f:Nat->Nat):AV->AV
 |.own k ab len=>.own (f k) ab len
 |.ptr k row ab=>.ptr (f k) row ab
 |.agg cs=>.agg (vY f cs)
 |.fR cs=>.fR (vY f cs)
 |.fn F first caps=>.fn F (vY f first) (vY f caps)
 |.t x=>.t x
 |.eV r o=>.eV r o
 |.en Z=>.en Z
 |.mp k=>.mp (f k)
 |.oz k len=>.oz (f k) len
 |.cD=>.cD
 |.ub=>.ub
 |.undef=>.undef
def vY(f:Nat->Nat):List AV->List AV
 |[]=>[]
 |x::xs=>ix f x::vY f xs
end
def xI(f:Nat->Nat)(o:aR):aR:=⟨o.sz,o.rows.map (vY f)⟩
def pP(os:U (Nat×aR))(k:Nat):J aR:=match os with
 |[]=>none
 |(j,o)::r=>if j=k then some o else pP r k
def arH(P:Ξ)(w:Y)(G:Ω)(I:Ψ)(os':U (Nat×aR))(rv:AV)(e:Ending)(w':Y):Prop:=
 ∃v β' I',e=.returned v/\Mem P w (q9 G I) β' I' (pP os') w'/\(∀ b,I b->I' b)/\VR P β' w' I' rv v
def u9(os:U aR)(k:Nat):J aR:=os[k]?
def GS(P:Ξ)(f:FuncId)(args:U AV)(os:U aR)(os':U (Nat×aR))(rv:AV):Prop:=
 fP P f/\∀(w:World) (G:Nat->J cW) (I:Nat->Prop) (vs:Array Value),(∀ k,os.length<=k->G k=none)->Mem P w (q9 G I) G I (u9 os) w->bp P G w I args vs.toList->Calls P f vs w (arH P w G I os' rv)
def Jl(i k:Nat):Bool:=Nat.ble 1000000 k&&(k-1000000)/64==i
theorem XP{i k:Nat}:Jl i k=true↔jt (cE i) k:=by simp[Jl,jt,cE];omega
def cn(i:Nat)(ae:U Nat)(j:Nat):Nat:=if j<1000 then(ae[j]?).getD 0 else cE i+(j-1000)
def XQ(P:Ξ)(get:E)(ae:U Nat)(k:Nat):OB->J (aR×List Prop)
 |.dat p=>(get k).bind λo=>some (iS p,[o.sz=p.1/\dZ (o.rows.take p.2.length)=aK p.2])
 |.Fi hs=>(get k).bind λo=>(CB P get ae o.rows hs).bind λq=>some (⟨o.sz,q.1⟩,q.2)
def Jm(P:Ξ)(get:E)(ae:U Nat):U Nat->U OB->J (List aR×List Prop)
 |[],[]=>some ([],[])
 |k::ks,b::bs=>(XQ P get ae k b).bind λp=>(Jm P get ae ks bs).bind λq=>some (p.1::q.1,p.2++q.2)
 |_,_=>none
def RL(o:aR):U Nat:=o.rows.flatMap cu
def XR(get:E)(xs:U AV)(ae c9:U Nat)(bs:U OB):Prop:=
 (∀ k∈c9,k∉ae)/\(∀ k∈cu xs,k∉ae->k∈c9)/\∀(j:Nat) hs q o,bs[j]? =some (.Fi hs)->ae[j]? =some q->get q=some o->∀k∈RL o,k∉ae->k∈c9
def BE(i:Nat)(ae:U Nat)(os':U (Nat×aR)):U (Nat×Option aR):=
 (ae.zipIdx.map λp=>(p.1,(pP os' p.2).map (xI (cn i ae))))++(os'.filter λq=>decide (1000<=q.1)).map λq=>(cn i ae q.1,some (xI (cn i ae) q.2))
mutual
def zW:AV->Prop
 |.t x=>x.flat
 |.eV _ _|.en _=>False
 |.agg cs|.fR cs=>rf cs
 |.fn _ first caps=>rf first/\rf caps
 |_=>True
def rf:List AV->Prop
 |[]=>True
 |x::xs=>zW x/\rf xs
end
def F0(n k:Nat):Prop:=k<n\/(1000<=k/\k<1064)
def HQ(n:Nat)(os':U (Nat×aR))(rv:AV):Prop:=
 (∀ q∈os',F0 n q.1)/\(os'.map (·.1)).Nodup/\(∀ q∈os',∀r∈q.2.rows,∀k∈cu r,F0 n k)/\∀k∈refs rv,F0 n k
def nr(os':U (Nat×aR))(rv:AV):Prop:=zW rv/\∀q∈os',∀r∈q.2.rows,rf r
def OV(P:Ξ)(i:Nat)(f:AV)(args:U AV)(cL:kh)(get:E):J Out:=
 match f,cL with
 |.fn F first caps,.ut ae c9 bs hs os' rv keep=>if ae.Nodup/\ae.length<=1000 then(Jm P get ae ae bs).bind λho=>(nL P get ae (first++args++caps) hs).bind λq=>
  some ⟨ix (cn i ae) rv,BE i ae os'++(if keep then []else c9.map λk=>(k,none)),
   q.2.2++ho.2++[GS P F q.1 ho.1 os' rv,HQ ae.length os' rv,XR get (first++args++caps) ae c9 bs]++(if keep then [nr os' rv]else [])⟩
  else none
 |_,_=>none
section
variable {P:Program} {w0:World} {O0:k5} {G β1 β2:Nat->Option cW} {I:Nat->Prop} {obj:Nat->Option aR} {w:World} {i:Nat}
mutual
theorem VR.wc{f:Nat->Nat}:∀(x:AV)(v:Value),(∀ k∈refs x,∀B,β1 k=some B->β2 (f k)=some B)->VR P β1 w I x v->VR P β2 w I (ix f x) v
 |.own k ab len,v,hd,h=>by simp only[ix,VR]at h |-;have hd':=hd k (by simp[refs]);rcases h with ⟨h1,h2⟩|⟨b,s,n,c,o,h1,h2⟩;exact .inl ⟨hd' _ h1,h2⟩;exact .inr ⟨b,s,n,c,o,hd' _ h1,h2⟩
 |.ptr k row ab,v,hd,h=>by simp[VR]at h |-;obtain⟨b,s,n,h1,h2⟩:=h;exact⟨b,s,n,hd k (by simp[refs]) _ h1,h2⟩
 |.agg cs,v,hd,h=>by simp[VR]at h |-;obtain⟨vs,h1,h2⟩:=h;exact⟨vs,h1,bp.wc cs _ (by simpa[refs]using hd) h2⟩
 |.fR cs,v,hd,h=>by simp[VR]at h |-;obtain⟨vs,h1,h2⟩:=h;exact⟨vs,h1,bp.wc cs _ (by simpa[refs]using hd) h2⟩
 |.fn F first caps,v,hd,h=>by simp[VR]at h |-;obtain⟨fs,cs,h1,h2,h3⟩:=h;exact⟨fs,cs,h1,bp.wc first _ (λ k hk=>hd k (by simp[refs,hk])) h2,bp.wc caps _ (λ k hk=>hd k (by simp[refs,hk])) h3⟩
 |.t x,v,_,h|.eV r o,v,_,h|.en Z,v,_,h=>by simpa[ix,VR]using h
 |.mp k,v,hd,h=>by simp[VR]at h |-;obtain⟨b,h1,h2⟩:=h;exact⟨b,hd k (by simp[refs]) _ h1,h2⟩
 |.oz k len,v,hd,h=>by simp only[ix,VR]at h |-;rcases h with h|⟨h0,b,sz,n,cap,o,h1,h2⟩;exact .inl h;exact .inr ⟨h0,b,sz,n,cap,o,hd k (by simp[refs]) _ h1,h2⟩
 |.cD,v,_,h|.ub,v,_,h=>by simpa[ix,VR]using h
 |.undef,v,_,h=>by simp[ix,VR]
theorem bp.wc{f:Nat->Nat}:∀(xs:List AV)(vs:List Value),(∀ k∈cu xs,∀B,β1 k=some B->β2 (f k)=some B)->bp P β1 w I xs vs->bp P β2 w I (vY f xs) vs
 |[],[],_,_=>by simp[vY,bp]
 |x::xs,v::vs,hd,h=>by simp[bp]at h;simp[vY];exact⟨VR.wc x v (λ k hk=>hd k (by simp[cu,hk])) h.1,bp.wc xs vs (λ k hk=>hd k (by simp[cu,hk])) h.2⟩
 |[],_::_,_,h|_::_,[],_,h=>by simp[bp]at h
end
mutual
theorem VR.flat{I2:Nat->Prop}:∀(x:AV)(v:Value),zW x->VR P G w I x v->VR P G w I2 x v
 |.own k ab len,v,_,h|.ptr k row ab,v,_,h=>by simpa[VR]using h
 |.agg cs,v,hf,h=>by simp[VR]at h |-;obtain⟨vs,h1,h2⟩:=h;exact⟨vs,h1,bp.flat cs _ (by simpa[zW]using hf) h2⟩
 |.fR cs,v,hf,h=>by simp[VR]at h |-;obtain⟨vs,h1,h2⟩:=h;exact⟨vs,h1,bp.flat cs _ (by simpa[zW]using hf) h2⟩
 |.fn F first caps,v,hf,h=>by simp[VR]at h |-;obtain⟨fs,cs,h1,h2,h3⟩:=h;simp[zW]at hf;exact⟨fs,cs,h1,bp.flat first _ hf.1 h2,bp.flat caps _ hf.2 h3⟩
 |.t x,v,hf,h=>by simp[VR]at h |-;exact Tree.mz (by simpa[zW]using hf) h
 |.eV r o,v,hf,h|.en Z,v,hf,h=>by simp[zW]at hf
 |.mp k,v,_,h|.oz k len,v,_,h|.cD,v,_,h|.ub,v,_,h=>by simpa[VR]using h
 |.undef,v,_,h=>by simp[VR]
theorem bp.flat{I2:Nat->Prop}:∀(xs:List AV)(vs:List Value),rf xs->bp P G w I xs vs->bp P G w I2 xs vs
 |[],[],_,_=>by simp[bp]
 |x::xs,v::vs,hf,h=>by simp[bp]at h |-;simp[rf]at hf;exact⟨VR.flat x v hf.1 h.1,bp.flat xs vs hf.2 h.2⟩
 |[],_::_,_,h|_::_,[],_,h=>by simp[bp]at h
end
theorem UD(f:Nat->Nat):∀l:U AV,(vY f l).length=l.length
 |[]=>rfl
 |_::l=>by simp[vY,UD f l]
theorem df.tell{β':Ω}{w':Y}{I':Ψ}{r q:U AV}{c:Array Value}{ab:Nat}(hv:∀vs:U Value,bp P G w I r vs->bp P β' w' I' q vs)(h:df P G w I r c ab):df P β' w' I' q c ab:=by have⟨vs,h1,h2,h3⟩:=df.list r c ab h;exact df.oB q vs c ab (hv vs h1) h2 h3
theorem cj.tell{β':Ω}{w':Y}{I':Ψ}:∀{rs qs:U (List AV)}{c:Array Value}{ab sz:Nat},rs.length=qs.length->(∀ (j:Nat) r q,rs[j]? =some r->qs[j]? =some q->q.length=r.length/\∀vs:U Value,bp P G w I r vs->bp P β' w' I' q vs)->
 cj P G w I rs c ab sz->cj P β' w' I' qs c ab sz
 |[],[],_,_,_,_,_,h=>h
 |r::rs,q::qs,c,ab,sz,hl,hr,h=>by obtain⟨h1,h2,h3⟩:=h;have⟨e1,e2⟩:=hr 0 r q rfl rfl;exact⟨e1.trans h1,h2.tell e2,cj.tell (by simpa using hl) (λ j a b ha hb=>hr (j+1) a b (by simpa using ha) (by simpa using hb)) h3⟩
 |[],_::_,_,_,_,hl,_,_|_::_,[],_,_,_,hl,_,_=>by simp at hl
theorem cQ.tell{β':Ω}{I':Ψ}:∀{rs qs:U (List AV)}{es:U MapEntry},rs.length=qs.length->(∀ (j:Nat) r q',rs[j]? =some r->qs[j]? =some q'->∀vs:U Value,bp P G w I r vs->bp P β' w I' q' vs)->cQ P G w I rs es->cQ P β' w I' qs es
 |[],[],[],_,_,_=>trivial
 |r::rs,q::qs,_::es,hl,hr,⟨h1,h2⟩=>⟨hr 0 r q rfl rfl _ h1,cQ.tell (by simpa using hl) (λ j r' q' a b=>hr (j+1) r' q' (by simpa using a) (by simpa using b)) h2⟩
 |[],_::_,_,hl,_,_|_::_,[],_,hl,_,_=>by simp at hl
 |[],_,_::_,_,_,h|_::_,_,[],_,_,h=>h.elim
theorem OR.tell{β':Ω}{I':Ψ}{o q:aR}{B:cW}(hsz:q.sz=o.sz)(hl:o.rows.length=q.rows.length)(hr:∀(j:Nat) r q',o.rows[j]? =some r->q.rows[j]? =some q'->q'.length=r.length/\∀vs:U Value,bp P G w I r vs->bp P β' w I' q' vs)
 (h:OR P G w I o B):OR P β' w I' q B:=by
 cases B with
 |none=>
  simp[OR]at h |-;rw[h]at hl;exact eq_nil_of_length_eq_zero hl.symm
 | «at» b s n=>
  obtain⟨h1,c,e,h2,h3,h4⟩:=h;exact⟨by rw[hsz];exact h1,c,e,h2,h3,h4.tell hl hr⟩
 |mp b=>
  obtain⟨es,cl,h1,hle,h2,h3⟩:=h;exact⟨es,cl,h1,by omega,λe=>cQ.tell hl (λ j r q' a b=>(hr j r q' a b).2) (h2 (by omega)),h3⟩
theorem OR.wc{f:Nat->Nat}{o:aR}{B:cW}(hf:∀r∈o.rows,∀k∈cu r,∀B,β1 k=some B->β2 (f k)=some B)(h:OR P β1 w I o B):OR P β2 w I (xI f o) B:=by refine OR.tell (o:=o) (q:=xI f o) rfl (by simp[xI]) (λ j r q h1 h2=>?_) h;simp[xI]at h2;obtain⟨r',h3,rfl⟩:=h2;rw[h1]at h3;cases h3;exact⟨UD f r,λvs hv=>bp.wc r vs (hf r (dM h1)) hv⟩
theorem OR.nr{I2:Ψ}{o:aR}{B:cW}(hf:∀r∈o.rows,rf r)(h:OR P G w I o B):OR P G w I2 o B:=by refine OR.tell rfl rfl (λ j r q h1 h2=>?_) h;rw[h1]at h2;cases h2;exact⟨rfl,λvs hv=>bp.flat r vs (hf r (dM h1)) hv⟩
def pN(P:Ξ)(get:E)(ae:U Nat):U (List AV)->U (List AV)->Prop
 |[],[]=>True
 |r::rs,q::qs=>gz P get ae r q/\pN P get ae rs qs
 |_,_=>False
theorem OW{get:E}{ae:U Nat}:∀{rs:U (List AV)}{hs:U (List LH)}{p:U (List AV)×List Prop},CB P get ae rs hs=some p->(∀ q∈p.2,q)->pN P get ae rs p.1
 |[],[],p,h,_=>by simp[CB]at h;subst h;trivial
 |r::rs,hl::hs,p,h,ho=>by simp only[CB,ah,bX]at h;obtain⟨q,h1,q',h2,rfl⟩:=h;exact⟨o6 h1 (λ y hy=>ho y (by simp[hy])),OW h2 (λ y hy=>ho y (by simp[hy]))⟩
 |[],_::_,p,h,_|_::_,[],p,h,_=>by simp[CB]at h
theorem gz.length{get:E}{ae:U Nat}:∀{xs ys:U AV},gz P get ae xs ys->ys.length=xs.length
 |[],[],_=>rfl
 |x::xs,y::ys,h=>by simp[gz.length h.2]
 |[],_::_,h|_::_,[],h=>h.elim
theorem pN.get{get:E}{ae:U Nat}:∀{rs qs:U (List AV)},pN P get ae rs qs->rs.length=qs.length/\∀(j:Nat) r q,rs[j]? =some r->qs[j]? =some q->gz P get ae r q
 |[],[],_=>⟨rfl,λj r q h=>by simp at h⟩
 |r::rs,q::qs,h=>by
  obtain⟨h1,h2⟩:=pN.get h.2
  grind [h.1]
 |[],_::_,h|_::_,[],h=>h.elim
theorem XT{get:E}{ae:U Nat}:∀{ks:U Nat}{bs:U OB}{p:U aR×List Prop},Jm P get ae ks bs=some p->(∀ q∈p.2,q)->ks.length=p.1.length/\∀(j:Nat) k q,ks[j]? =some k->p.1[j]? =some q->∃o,get k=some o/\
 ((∃ d:fD,bs[j]? =some (.dat d)/\q=iS d/\o.sz=d.1/\dZ (o.rows.take d.2.length)=aK d.2)\/(∃ hs,bs[j]? =some (.Fi hs)/\q.sz=o.sz/\pN P get ae o.rows q.rows))
 |[],[],p,h,_=>by simp[Jm]at h;subst h;exact⟨rfl,λj k q h=>by simp at h⟩
 |k::ks,b::bs,p,h,ho=>by
  simp only[Jm,ah,bX]at h;obtain⟨q,h1,q',h2,rfl⟩:=h;obtain⟨g1,g2⟩:=XT h2 (λ y hy=>ho y (by simp[hy]));refine⟨by simp[g1],λj k' z hj hz=>?_⟩;cases j with
  |succ j=>
   obtain⟨o,e1,e2⟩:=g2 j k' z (by simpa using hj) (by simpa using hz);exact⟨o,e1,by simpa using e2⟩
  |zero=>
   simp at hj hz;subst hj;subst hz;cases b with
   |dat d=>
    simp[XQ,ah]at h1;obtain⟨o,e1,rfl⟩:=h1;have:=ho _ (List.mem_append_left _ (aI.2 rfl));exact⟨o,e1,.inl ⟨d,rfl,rfl,this.1,this.2⟩⟩
   |Fi hs=>
    simp only[XQ,ah,bX]at h1;obtain⟨o,e1,z,e2,rfl⟩:=h1;exact⟨o,e1,.inr ⟨hs,rfl,rfl,OW e2 (λ y hy=>ho y (List.mem_append_left _ hy))⟩⟩
 |[],_::_,p,h,_|_::_,[],p,h,_=>by simp[Jm]at h
theorem Mem.y4(h:Mem P w0 O0 G I obj w){get:E}(hg:∀k o,get k=some o->obj k=some o){ae c9:U Nat}{os:U aR}(hnd:ae.Nodup)(hlen:ae.length=os.length)
 (hm:∀(j:Nat) k q,ae[j]? =some k->os[j]? =some q->∃o,get k=some o/\((∃ d:fD,q=iS d/\o.sz=d.1/\dZ (o.rows.take d.2.length)=aK d.2)\/(q.sz=o.sz/\pN P get ae o.rows q.rows/\∀k∈RL o,k∉ae->k∈c9))) (DB:∀k∈c9,k∉ae):
 Mem P w (q9 (βc ae G) (gC G obj c9 I)) (βc ae G) (gC G obj c9 I) (u9 os) w:=by
 have hb0:∀j k,ae[j]? =some k->βc ae G j=G k:=λj k hk=>by simp[βc,hk]
 have look:∀j q,u9 os j=some q->∃k o,ae[j]? =some k/\obj k=some o/\∀B,OR P G w I o B->OR P (βc ae G) w (gC G obj c9 I) q B:=by
  intro j q hj;simp[u9]at hj;have hjl:j<ae.length:=by rw[hlen];exact(dO.1 hj).1
  obtain⟨o,g,hh⟩:=hm j _ q (dY hjl) hj;refine⟨_,o,dY hjl,hg _ _ g,λB hO=>?_⟩;rcases hh with ⟨d,rfl,g4,g5⟩|⟨g4,g5,g6⟩;have:OR P G w I (iS d) B:=by
   cases B with
   |none=>
    simp[OR]at hO |-;rw[hO]at g5;simpa[dZ,iS]using g5.symm
   | «at» b s n=>
    obtain⟨h1,c,e,h2,h3,h4⟩:=hO;refine⟨by rw[h1,g4];rfl,c,e,h2,h3,?_⟩;have:=cj.wk _ _ _ _ (cj.take d.2.length _ _ _ _ h4);rw[g5]at this;exact this
   |mp b=>exact OR.part g4 g5 hO
  exact this.dat λb hb=>.inl hb;obtain⟨e1,e2⟩:=g5.get;refine hO.tell g4 e1 (λ m r q' hr hq=>?_);have hb:=e2 m r q' hr hq;refine⟨hb.length,λvs hv=>?_⟩;refine gz.sound h hg c9 r q' vs (λ k hk hn=>g6 k ?_ hn) hb hv;exact List.mem_flatMap.2 ⟨r,dM hr,hk⟩
 constructor;intro j q hj;have⟨k,o,g1,g2,g3⟩:=look j q hj;have⟨B,hB,hO⟩:=h.c8 k o g2;exact⟨B,by rw[hb0 j k g1];exact hB,g3 B hO⟩;intro j j' o o' B B' b h1 h2 h3 h4 h5 h6;have⟨k,q,g1,g3,_⟩:=look j o h1;have⟨k',q',g1',g3',_⟩:=look j' o' h2;rw[hb0 j k g1]at h3;rw[hb0 j' k' g1']at h4;have:=h.ir k k' q q' B B' b g3 g3' h3 h4 h5 h6;subst this;exact RI hnd g1 g1';intro j o B b h1 h2 h5;have⟨k,q,g1,g3,_⟩:=look j o h1;have h2':=h2;rw[hb0 j k g1]at h2;have⟨a1,a2,_⟩:=h.ownB k q B b g3 h2 h5;refine⟨?_,a2,.inl ⟨j,B,h2',h5⟩⟩;rintro (hI|⟨k',o',s',n',e1,e2,e3⟩);exact a1 hI;have:=h.ox k k' q o' b g3 e2 ⟨B,h2,h5⟩ (.at e3);subst this;exact DB _ e1 (dM g1);exact OO h _;exact λb hb=>.inl hb;exact λ_ _ _=>rfl;exact aB _;rfl;rfl;rfl;intro j B hj;simp only[q9]at hj;split at hj;exact hj;cases hj;exact h.vars.mono (λ _ _=>rfl) (λ b hb=>.inl hb)
theorem adQ:∀{os':U (Nat×aR)}{k:Nat}{o:aR},pP os' k=some o->(k,o)∈os'
 |[],_,_,h=>by simp[pP]at h
 |(j,q)::r,k,o,h=>by simp[pP]at h;split at h;rename_i e;cases h;subst e;exact List.mem_cons_self;exact bq _ (adQ h)
theorem XU:∀{os':U (Nat×aR)}{k:Nat}{o:aR},(os'.map (·.1)).Nodup->(k,o)∈os'->pP os' k=some o
 |(j,q)::r,k,o,hn,h=>by simp only[bK,List.nodup_cons]at hn;simp[pP];rcases aG.1 h with e|h;injection e with e1 e2;subst e1;subst e2;rw[aM rfl];rw[aC (λ e=>hn.1 (mem_map.2 ⟨(k,o),h,e.symm⟩)),XU hn.2 h]
theorem afA{F:E}{k:Nat}:∀(ae:U Nat)(n:Nat),(∃ j,ae[j]? =some k/\dw obj ((ae.zipIdx n).map λp=>(p.1,F p.2)) k=F (n+j))\/(k∉ae/\dw obj ((ae.zipIdx n).map λp=>(p.1,F p.2)) k=obj k)
 |[],n=>.inr ⟨by simp,rfl⟩
 |q::ae,n=>by simp[dw];by_cases e:k=q;subst e;exact .inl ⟨0,rfl,by simp⟩;rw[aC e];rcases afA (k:=k) ae (n+1)with ⟨j,h1,h2⟩|⟨h1,h2⟩;exact .inl ⟨j+1,by simpa using h1,by rw[h2];congr 1;omega⟩;exact .inr ⟨by simp[e,h1],h2⟩
theorem acd{c:Nat->Nat}{β:aR->aR}{k:Nat}:∀(l:U (Nat×aR)),(∃ q∈l,k=c q.1/\dw obj (l.map λq=>(c q.1,some (β q.2))) k=some (β q.2))\/dw obj (l.map λq=>(c q.1,some (β q.2))) k=obj k
 |[]=>.inr rfl
 |q::l=>by simp only[bK,dw];by_cases e:k=c q.1;exact .inl ⟨q,by simp,e,by rw[aM e]⟩;rw[aC e];rcases acd (c:=c) (β:=β) (k:=k) l with ⟨z,h1,h2,h3⟩|h;exact .inl ⟨z,bq _ h1,h2,h3⟩;exact .inr h
theorem afB(h:Mem P w0 O0 G I obj w)(hn:∀k,jt (cE i) k->G k=none){ae c9:U Nat}{os':U (Nat×aR)}{rv:AV}{keep:Bool}(hgood:HQ ae.length os' rv)(hk:keep=true->nr os' rv)
 (_:ae.Nodup) (hl:ae.length<=1000) (lh:∀k∈ae,∃o,obj k=some o)
 {w':Y} {I1:Ψ} {v:Value} (hM:Mem P w (q9 (βc ae G) (gC G obj c9 I)) β1 I1 (pP os') w') (h1:∀b,gC G obj c9 I b->I1 b) (hr:VR P β1 w' I1 rv v):
 ∃ β' I',Step G I w (cE i) β' I' w'/\Mem P w0 O0 β' I' (dw obj (BE i ae os'++if keep then []else c9.map (λ k=>(k,none)))) w'/\VR P β' w' I' (ix (cn i ae) rv) v:=by
 obtain⟨gk,gn,gr,gv⟩:=hgood;have hb0:∀j k,ae[j]? =some k->βc ae G j=G k:=λj k hk=>by simp[βc,hk]
 have hown0:∀k B,G k=some B->¬jt (cE i) k:=λk B hk e=>by rw[hn k e]at hk;cases hk
 have Kf:∀j k,ae[j]? =some k->∃B,G k=some B/\β1 j=some B:=by intro j k hj;have⟨o,ho⟩:=lh k (dM hj);have⟨B,hB,_⟩:=h.c8 k o ho;have hjl:=(dO.1 hj).1;exact⟨B,hB,hM.anch j B (by simp only[q9];rw[aM (by omega),hb0 j k hj];exact hB)⟩
 generalize G2:(λ k=>if Jl i k then β1 (1000+(k-cE i))else G k:Nat->J cW)=β2;have CL:∀k,¬jt (cE i) k->β2 k=G k:=λk hk=>by
  rw[<- G2];have:Jl i k=false:=by
   cases e:Jl i k with
   |false=>rfl
   |true=>exact absurd (XP.1 e) hk
  simp[this]
 have hβn:∀j,1000<=j->j<1064->β2 (cE i+(j-1000))=β1 j:=λj e1 e2=>by
  rw[<- G2];have e:Jl i (cE i+(j-1000))=true:=XP.2 (by simp[jt,cE];omega);have e':1000+(cE i+(j-1000)-cE i)=j:=by omega
  simp only[e,if_true,e']
 have hmap:∀k,F0 ae.length k->∀B,β1 k=some B->β2 (cn i ae k)=some B:=by rintro k (hk|⟨hk1,hk2⟩) B hB;obtain⟨B',e1,e2⟩:=Kf k _ (dY hk);rw[e2]at hB;cases hB;simp[cn,show k<1000 by omega,dY hk];rw[CL _ (hown0 _ _ e1)];exact e1;simp[cn,show ¬k<1000 by omega];rw[hβn k hk1 hk2];exact hB
 have look:∀g k o,dw obj (BE i ae os'++g) k=some o->(∃ j o0,ae[j]? =some k/\pP os' j=some o0/\o=xI (cn i ae) o0)\/
  (∃ j o0,1000<=j/\j<1064/\pP os' j=some o0/\k=cE i+(j-1000)/\o=xI (cn i ae) o0)\/(k∉ae/\dw obj g k=some o):=by intro g k o hko;rw[uo,BE,uo]at hko;rcases afA (obj:=dw (dw obj g) ((os'.filter λ(q:Nat×aR)=>decide (1000<=q.1)).map λ(q:Nat×aR)=>(cn i ae q.1,some (xI (cn i ae) q.2)))) (F:=λj=>(pP os' j).map (xI (cn i ae))) (k:=k) ae 0 with ⟨j,e1,e2⟩|⟨e1,e2⟩;rw[e2]at hko;simp at hko;obtain⟨o0,e3,e4⟩:=hko;exact .inl ⟨j,o0,e1,e3,e4.symm⟩;rw[e2]at hko;rcases acd (obj:=dw obj g) (c:=cn i ae) (β:=xI (cn i ae)) (k:=k) (os'.filter λq=>decide (1000<=q.1))with ⟨q,e3,e4,e5⟩|e3;rw[e5]at hko;injection hko with hko;simp at e3;have hq:=gk q e3.1;simp[F0]at hq;refine .inr (.inl ⟨q.1,q.2,e3.2,by omega,XU gn e3.1,?_,hko.symm⟩);rw[e4];simp[cn,show ¬q.1<1000 by omega];rw[e3]at hko;exact .inr (.inr ⟨e1,hko⟩)
 have main:∀(g:U (Nat×Option aR))(I2:Nat->Prop),(∀ k o,dw obj g k=some o->obj k=some o)->(∀ b,I b->I2 b)->(∀ b,I2 b->I1 b)->(∀ j o B,pP os' j=some o->OR P β1 w' I1 o B->OR P β1 w' I2 o B)->
  (∀ k o b,k∉ae->dw obj g k=some o->il G k b->¬I2 b)->VR P β1 w' I2 rv v->
  ∃ β' I',Step G I w (cE i) β' I' w'/\Mem P w0 O0 β' I' (dw obj (BE i ae os'++g)) w'/\VR P β' w' I' (ix (cn i ae) rv) v:=by
  intro g I2 hg hI hI1 hor I3 hr2;have hown:∀b,XH (βc ae G) b->∃k o,k∈ae/\obj k=some o/\il G k b:=by rintro b ⟨j,B,hj,hB⟩;have⟨k,e1,e2⟩:=OQ hj;have⟨o,e3⟩:=lh k (dM e1);exact⟨k,o,dM e1,e3,B,e2,hB⟩
  have hapart:∀k o b,k∉ae->obj k=some o->il G k b->¬XH (βc ae G) b:=by intro k o b hk e1 e2 hb;have⟨k',o',g1,g2,g3⟩:=hown b hb;have:=h.ox k k' o o' b e1 g2 e2 g3;subst this;exact hk g1
  have hS:Same I w w':=λb hb=>hM.keep b (h.lt b hb) (λ hb'=>by have⟨k',o',g1,g2,g3⟩:=hown b hb';exact(h.kq k' o' b g2 g3).1 hb);have L0:∀k o,dw obj (BE i ae os'++g) k=some o->(∃ j o0,pP os' j=some o0/\F0 ae.length j/\k=cn i ae j/\β2 k=β1 j/\o=xI (cn i ae) o0)\/(k∉ae/\obj k=some o/\dw obj g k=some o/\β2 k=G k):=by intro k o hko;rcases look g k o hko with ⟨j,o0,e1,e2,e3⟩|⟨j,o0,e1,O2,e2,e3,e4⟩|⟨e1,e2⟩;have⟨B,e4,e5⟩:=Kf j k e1;have hjl:=(dO.1 e1).1;refine .inl ⟨j,o0,e2,.inl hjl,?_,?_,e3⟩;simp[cn,show j<1000 by omega,e1];rw[CL _ (hown0 _ _ e4),e4,e5];refine .inl ⟨j,o0,e2,.inr ⟨e1,O2⟩,?_,?_,e4⟩;simp[cn,show ¬j<1000 by omega];exact e3;rw[e3];exact hβn j e1 O2;have⟨B,e3,_⟩:=h.c8 k o (hg k o e2);exact .inr ⟨e1,hg k o e2,e2,CL _ (hown0 _ _ e3)⟩
  have th:∀j o0 b,pP os' j=some o0->il β1 j b->¬I2 b/\b<w'.heap.size/\(XH (βc ae G) b\/w.heap.size<=b):=by intro j o0 b e1 e2;have⟨a1,a2,a3⟩:=hM.kq j o0 b e1 e2;exact⟨λ hb=>a1 (hI1 b hb),a2,a3⟩
  refine⟨β2,I2,⟨CL,λk B hk=>by rw[CL k (hown0 k B hk)];exact hk,hS,hI⟩,?_,VR.wc rv v (λ k hk=>hmap k (gv k hk)) hr2⟩;constructor;intro k o hko;rcases L0 k o hko with ⟨j,o0,e1,e2,e3,e4,rfl⟩|⟨e1,e2,e3,e4⟩;have⟨B,hB,hO⟩:=hM.c8 j o0 e1;refine⟨B,by rw[e4];exact hB,OR.wc (λ r hr' q hq=>hmap q (gr (j,o0) (adQ e1) r hr' q hq)) (hor j o0 B e1 hO)⟩;have⟨B,hB,hO⟩:=h.c8 k o e2;refine⟨B,by rw[e4];exact hB,OR.mono (λ q C hq=>by rw[CL q (hown0 q C hq)];exact hq) hS hI (λ b e=>hM.keep b (h.ownB k o B b e2 hB e).2.1 (hapart k o b e1 e2 ⟨B,hB,e⟩)) hO⟩;intro k k' o o' B B' b ho ho' hb hb' h5 h6;rcases L0 k o ho with ⟨j,o0,e1,e2,e3,e4,rfl⟩|⟨e1,e2,e3,e4⟩;rw[e4]at hb;rcases L0 k' o' ho' with ⟨j',S8,f1,f2,f3,f4,rfl⟩|⟨f1,f2,f3,f4⟩;rw[f4]at hb';have:=hM.ir j j' o0 S8 B B' b e1 f1 hb hb' h5 h6;subst this;rw[e3,f3];rw[f4]at hb';rcases (th j o0 b e1 ⟨B,hb,h5⟩).2.2 with g1|g1;exact absurd g1 (hapart k' o' b f1 f2 ⟨B',hb',h6⟩);have:=(h.ownB k' o' B' b f2 hb' h6).2.1;omega;rw[e4]at hb;rcases L0 k' o' ho' with ⟨j',S8,f1,f2,f3,f4,rfl⟩|⟨f1,f2,f3,f4⟩;rw[f4]at hb';rcases (th j' S8 b f1 ⟨B',hb',h6⟩).2.2 with g1|g1;exact absurd g1 (hapart k o b e1 e2 ⟨B,hb,h5⟩);have:=(h.ownB k o B b e2 hb h5).2.1;omega;rw[f4]at hb';exact h.ir k k' o o' B B' b e2 f2 hb hb' h5 h6;intro k o B b ho hb h5;rcases L0 k o ho with ⟨j,o0,e1,e2,e3,e4,rfl⟩|⟨e1,e2,e3,e4⟩;rw[e4]at hb;have⟨a1,a2,a3⟩:=th j o0 b e1 ⟨B,hb,h5⟩;refine⟨a1,a2,?_⟩;rcases a3 with a3|a3;have⟨k',o',g1,g2,g3⟩:=hown b a3;exact(h.kq k' o' b g2 g3).2.2;exact .inr (Nat.le_trans h.le a3);rw[e4]at hb;have⟨a1,a2,a3⟩:=h.ownB k o B b e2 hb h5;exact⟨I3 k o b e1 e3 ⟨B,hb,h5⟩,Nat.lt_of_lt_of_le a2 hM.le,a3⟩;exact λb hb=>hM.lt b (hI1 b hb);intro b hb;rcases hM.up b (hI1 b hb)with (g1|⟨k',o',s',n',_,g2,g3⟩)|g1|g1;exact h.up b g1;exact .inr (h.own k' o' b s' n' g2 g3).2.2;have⟨k',o',_,g2,g3⟩:=hown b g1;exact .inr (h.kq k' o' b g2 g3).2.2;exact .inr (.inr (Nat.le_trans h.le g1));intro b hb hno;refine(hM.keep b (Nat.lt_of_lt_of_le hb h.le) (λ hb'=>?_)).trans (h.keep b hb hno);have⟨k',o',_,g2,g3⟩:=hown b hb';rcases (h.kq k' o' b g2 g3).2.2 with g1|g1;exact hno g1;omega;exact Nat.le_trans h.le hM.le;exact hM.os.trans h.os;exact hM.tape.trans h.tape;exact hM.output.trans h.output;intro j B hj;have e:=h.anch j B hj;rw[CL j (hown0 j B e)];exact e;exact h.vars.mono hS hI
 cases keep with
 |true=>
  have⟨hf1,hf2⟩:=hk rfl;exact main [] I (λ _ _ h=>h) (λ _ h=>h) (λ b hb=>h1 b (.inl hb)) (λ j o B hj hO=>OR.nr (hf2 (j,o) (adQ hj)) hO) (λ k o b _ e1 e2=>(h.kq k o b e1 e2).1) (VR.flat rv v hf1 hr)
 |false=>
  have hsub:∀k o,dw obj (c9.map λk=>(k,none)) k=some o->obj k=some o/\k∉c9:=by intro k o hk;rw[zJ]at hk;split at hk;cases hk;exact⟨hk,‹_›⟩
  refine main _ I1 (λ k o hk=>(hsub k o hk).1) (λ b hb=>h1 b (.inl hb)) (λ _ h=>h) (λ j o B hj hO=>hO) (λ k o b hki e1 e2 hb=>?_) hr;have⟨f1,f2⟩:=hsub k o e1;have⟨a1,a2,_⟩:=h.kq k o b f1 e2;rcases hM.up b hb with (g|⟨k',o',s',n',g1,g2,g3⟩)|⟨j,B',g,g'⟩|g;exact a1 g;have:=h.ox k k' o o' b f1 g2 e2 (.at g3);subst this;exact f2 g1;have⟨k',g1,g2⟩:=OQ g;have⟨o',g3⟩:=lh k' (dM g1);have:=h.ox k k' o o' b f1 g3 e2 ⟨B',g2,g'⟩;subst this;exact hki (dM g1);omega
theorem XV(h:Mem P w0 O0 G I obj w)(hn:∀k,jt (cE i) k->G k=none){f:AV}{args:U AV}{cL:kh}{get:E}{aa:Out}(hg:∀k o,get k=some o->obj k=some o)
 {fv:Value} {vs:Array Value} {am:Array Operand} {fo:Operand} {r:Operand->Value} (ha:OV P i f args cL get=some aa) (cX:aa.ob) (hf:VR P G w I f fv) (hv:bp P G w I args vs.toList) (hfo:r fo=fv) (hops:vs=am.map r)
 {dst:J Tmp} {aq:String} {after:Array Edge} {guard:J (Nat×Bool)} {ty:V} {d6:Array TypeId}:
 BK P w0 O0 G I obj w i aa ((execOp r ⟨dst,.call { callee:=.value fo,args:=am,argTypes:=d6 },ty,aq,after,guard⟩).run P w):=by
 unfold OV at ha;split at ha;rename_i F first caps ae c9 bs hs os' rv keep
 split at ha;rename_i hc;obtain⟨hnd,hl⟩:=hc;rw[ah]at ha;obtain⟨ho,hho,ha⟩:=ha;rw[ah]at ha;obtain⟨q,hq,ha⟩:=ha;cases ha;have cX:=sN _ cX;simp[VR]at hf;obtain⟨fs,cs,rfl,hf1,hf2⟩:=hf;have o1:∀x∈q.2.2,x:=λx hx=>cX x (by simp[hx]);have o2:∀x∈ho.2,x:=λx hx=>cX x (by simp[hx]);have o3:GS P F q.1 ho.1 os' rv:=cX (GS P F q.1 ho.1 os' rv) (by simp);have o4:HQ ae.length os' rv:=cX (HQ ae.length os' rv) (by simp);have o5:keep=true->nr os' rv:=λe=>cX (nr os' rv) (by simp[e]);obtain⟨l1,l2,l3⟩:XR get (first++args++caps) ae c9 bs:=cX (XR get (first++args++caps) ae c9 bs) (by simp);obtain⟨⟨fn,e1,e2,e3⟩,hcon⟩:=o3;have⟨hl2,hmm⟩:=XT hho o2;have lh:∀k∈ae,∃o,obj k=some o:=by
  intro k hk;obtain⟨j,hj⟩:=List.getElem?_of_mem hk;have hjl:j<ho.1.length:=by rw[<- hl2];exact(dO.1 hj).1
  obtain⟨o,g,_⟩:=hmm j k _ hj (dY hjl);exact⟨o,hg _ _ g⟩
 have hM:=h.y4 hg (c9:=c9) hnd hl2 (λ j k z hj hz=>by have⟨o,g1,g2⟩:=hmm j k z hj hz;refine⟨o,g1,?_⟩;rcases g2 with ⟨d,_,g3⟩|⟨hs',g3,g4,g5⟩;exact .inl ⟨d,g3⟩;exact .inr ⟨g4,g5,λk' hk' hn'=>l3 j hs' k o g3 hj g1 k' hk' hn'⟩) l1;have hall:bp P G w I (first++args++caps) (fs++vs++cs).toList:=by simp only[Array.toList_append];exact bp.append _ _ _ _ (bp.append _ _ _ _ hf1 hv) hf2
 have pm:=gz.sound h hg c9 _ _ _ (λ k hk hn=>l2 k hk hn) (o6 hq o1) hall;refine⟨F,fs++vs++cs,?_,(hcon w _ _ _ (λ k hk=>?_) hM pm).mono ?_⟩;have hb:¬fn.body=none:=by cases hh:fn.body<;>simp[hh]at e2 |-
 have e3' : ¬ fn.name = "runtime.NumGoroutine" := by simpa using e3
 simp[execOp,resolve,hfo,<- hops,Deferred.ofValue,invoke,callFunc,e1,e3',hb];simp[βc,List.getElem?_eq_none (show ae.length<=k by omega)];rintro e w' ⟨v',β1,I1,rfl,g1,g2,g3⟩;have⟨β',I',k1,k2,k3⟩:=afB (keep:=keep) h hn o4 o5 hnd hl lh g1 g2 g3;exact⟨v',β',I',rfl,k1,k2,k3⟩;cases ha;cases ha
end
def mH(P:Ξ)(i:Nat)(f:AV)(args:U AV)(cL:kh)(get:E):J Out:=
 match cL with
 |.ut ae c9 bs hs os' rv keep=>OV P i f args (.ut ae c9 bs hs os' rv keep) get
 |cL=>sO P i f args cL get
section
variable {P:Program} {w0:World} {O0:k5} {G:Nat->Option cW} {I:Nat->Prop} {obj:Nat->Option aR} {w:World} {i:Nat}
theorem XW(h:Mem P w0 O0 G I obj w)(hn:∀k,jt (cE i) k->G k=none){f:AV}{args:U AV}{cL:kh}{get:E}{aa:Out}(hg:∀k o,get k=some o->obj k=some o)
 {fv:Value} {vs:Array Value} {am:Array Operand} {fo:Operand} {r:Operand->Value} (ha:mH P i f args cL get=some aa) (cX:aa.ob) (hf:VR P G w I f fv) (hv:bp P G w I args vs.toList) (hfo:r fo=fv) (hops:vs=am.map r)
 {dst:J Tmp} {aq:String} {after:Array Edge} {guard:J (Nat×Bool)} {ty:V} {d6:Array TypeId}:
 BK P w0 O0 G I obj w i aa ((execOp r ⟨dst,.call { callee:=.value fo,args:=am,argTypes:=d6 },ty,aq,after,guard⟩).run P w):=by unfold mH at ha;split at ha;exact XV h hn hg ha cX hf hv hfo hops;exact XK h (hn _ (.inl rfl)) hg ha cX hf hv hfo hops
end
structure St where
 env:Nat->AV
 obj:Nat->Option aR
 ok:Nat->Option Bool
structure kB where
 cL:kh
 rd:List Nat
 wr:List Nat
 sym:Bool
def kz(P:Ξ)(T:eS)(i:Nat)(o:Oper)(cL:kh)(ρ:Operand->AV)(get:E):J Out:=
 match cL with
 |.ext n=>uR T i o n ρ get
 |.zd ae fr wg=>Jj P T i o ae fr wg ρ get
 |cL=>match o.op with
  |.call { callee:=.value f,args:=args,argTypes:=_ }=>mH P i (ρ f) (args.toList.map ρ) cL get
  |_=>rW T i o cL ρ get
def zX{α:Type}(env:Nat->α)(dst:J Tmp)(v:α):Nat->α:=λt=>if dst=some t then v else env t
def St.app(M:St)(dst:J Tmp)(p:Out×Option Bool):St:=⟨zX M.env dst p.1.v,dw M.obj p.1.upd,zX M.ok dst p.2⟩
def want(am:Array Oper)(o:Oper)(env:Nat->AV)(ok:Nat->J Bool):J Bool:=
 match o.guard with
 |none=>some true
 |some (j,b)=>match (am[j]?).bind (·.dst)with
  |some t=>match env t,ok t with
   |.t (.sc (.bool v)),none=>some (v==b)
   |.t (.sc (.bool v)),some g=>some (g&&(v==b))
   |.undef,some false=>some false
   |_,_=>none
  |none=>none
def yR(ok:Nat->J Bool):Operand->U Prop
 |.tmp t=>match ok t with
  |none=>[]
  |some b=>[b=true]
 |_=>[]
def needs(env:Nat->AV)(ok:Nat->J Bool)(o:Op):U Prop:=
 match o with
 |.pick c a b=>match ml env c with
  |.t (.sc (.bool e))=>yR ok c++((yR ok a).map (λ p=>e=true->p)++(yR ok b).map (λ p=>e=false->p))
  |_=>[False]
 |o=>o.operands.toList.flatMap (yR ok)
def eD(rd:U Nat)(obj:E):Nat->J aR:=λk=>if k∈rd then obj k else none
section
variable (P:Program) (T:eS) (am:Array Oper) (da:Nat->kB)
def opAt(i:Nat)(M:St):J (Out×Option Bool):=
 (am[i]?).bind λo=>(want am o M.env M.ok).bind λg=>match (da i).sym with
  |true=>(kz P T i o (da i).cL (ml M.env) (eD (da i).rd M.obj)).bind λaa=>
   if aa.upd.isEmpty then some (⟨aa.v,[],(needs M.env M.ok o.op++aa.obs).map λp=>g=true->p⟩,some g)else none
  |false=>match g with
   |true=>(kz P T i o (da i).cL (ml M.env) (eD (da i).rd M.obj)).bind λaa=>
    if aa.upd.all (λ p=>Jl i p.1 || (da i).wr.contains p.1)then some (⟨aa.v,aa.upd,needs M.env M.ok o.op++aa.obs⟩,none)else none
   |false=>some (⟨.undef,[],[]⟩,some false)
def zj(i:Nat)(K:St->Prop)(M:St):Prop:=∃o aa,am[i]? =some o/\opAt P T am da i M=some aa/\aa.1.ob/\K (M.app o.dst aa)
def VA(Q:St->Prop):U Nat->St->Prop
 |[],M=>Q M
 |i::r,M=>zj P T am da i (VA Q r) M
def FS(md:Region.Mode)(Q:St->Prop):Nat->Array Bool->St->Prop
 | 0,listed,M=>Region.ready md am listed=[]/\Q M
 |fuel+1,listed,M=>(Region.ready md am listed=[]->Q M)/\∀i∈Region.ready md am listed,zj P T am da i (FS md Q fuel (listed.setIfInBounds i true)) M
end
def yX(da:Nat->kB)(i j:Nat):Bool:=
 (da j).rd.all (λ k=>!Jl i k&&!(da i).wr.contains k)&&(!Nat.beq i j&&(da j).wr.all (λ k=>!Jl i k&&!(da i).wr.contains k)&&(da i).wr.all (λ k=>!Jl j k))&&(da i).rd.all (λ k=>!Jl j k&&!(da j).wr.contains k)
def RN(md:Region.Mode)(am:Array Oper)(i:Nat):U Nat:=
 (List.range am.size).foldl (λ D j=>match am[j]? with
  |some oj=>bif oj.after.any (λ e=>Region.binds md e&&(e.on==i || D.contains e.on))then j::D else D
  |none=>D) []
def P4(md:Region.Mode)(am:Array Oper)(listed:Array Bool)(i j:Nat):Bool:=
 (RN md am i).contains j&&(RN md am i).all λd=>!listed.getD d true
def RO(md:Region.Mode)(am:Array Oper)(da:Nat->kB)(listed:Array Bool)(i:Nat):Bool:=
 match am[i]? with
 |some oi=>(List.range am.size).all λj=>j==i || listed.getD j true || match am[j]? with
  |some oj=>oj.after.any (λ e=>Region.binds md e&&e.on==i) || (oi.apart am oj&&yX da i j) || P4 md am listed i j
  |none=>true
 |none=>false
def lexFrom'(md:Region.Mode)(am:Array Oper)(da:Nat->kB):Nat->Nat->Array Bool->Bool
 | 0,_,listed=>(Region.ready md am listed).isEmpty
 |fuel+1,k,listed=>(Region.ready md am listed).contains k&&RO md am da listed k&&lexFrom' md am da fuel (k+1) (listed.setIfInBounds k true)
def UE(am:Array Oper)(da:Nat->kB):Bool:=lexFrom' .any am da am.size 0 (Array.replicate am.size false)
section
variable {P:Program} {T:eS} {am:Array Oper} {da:Nat->kB} {md:Region.Mode} {Q:St->Prop}
theorem ana{i:Nat}{K K':St->Prop}{M:St}(h:∀ M,K M->K' M)(hh:zj P T am da i K M):zj P T am da i K' M:=
 let ⟨o,aa,h1,h2,h3,h4⟩:=hh
 ⟨o,aa,h1,h2,h3,h _ h4⟩
theorem OX{i:Nat}{o:Oper}{cL:kh}{ρ ρ':Operand->AV}{get:E}(h:∀x∈o.op.operands,ρ x=ρ' x):kz P T i o cL ρ get=kz P T i o cL ρ' get:=by have hop:=Uz (T:=T) (i:=i) (cL:=cL) (get:=get) h;unfold kz;split;exact aa4 h;exact adK h;obtain⟨dst,op,ty,aq,after,guard⟩:=o;simp at h |-;split;rename_i f args d6;simp only[Op.operands,Call.operands]at h;have h1:args.toList.map ρ=args.toList.map ρ':=map_congr_left λx hx=>h x (by simp;exact .inr (by simpa using hx));rw[h1,h f (by simp)];exact hop
theorem ace{i:Nat}{M:St}{aa:Out×Option Bool}(h:opAt P T am da i M=some aa):∀p∈aa.1.upd,Jl i p.1=true\/p.1∈(da i).wr:=by
 unfold opAt at h;cases ho:am[i]? with
 |none=>simp[ho]at h
 |some o=>
  simp[ho]at h;cases hw:want am o M.env M.ok with
  |none=>simp[hw]at h
  |some g=>
   simp[hw]at h;split at h;cases ha:kz P T i o (da i).cL (ml M.env) (eD (da i).rd M.obj)with
   |none=>simp[ha]at h
   |some out'=>
    simp only[ha,ai]at h;split at h;cases h;simp;cases h
   split at h;cases ha:kz P T i o (da i).cL (ml M.env) (eD (da i).rd M.obj)with
   |none=>simp[ha]at h
   |some out'=>
    all_goals grind
   cases h;simp
theorem wH{obj:E}:∀(upd:U (Nat×Option aR))(k:Nat),(∀ p∈upd,p.1≠k)->dw obj upd k=obj k
 |[],_,_=>rfl
 |(j,o)::r,k,h=>by simp[dw];rw[aC (λ e=>h (j,o) (by simp) e.symm),wH r k (λ p hp=>h p (by simp[hp]))]
theorem FN{obj ov:E}:∀(upd:U (Nat×Option aR))(k:Nat),obj k=ov k->dw obj upd k=dw ov upd k
 |[],_,h=>h
 |(j,o)::r,k,h=>by simp[dw,FN r k h]
theorem afC{env env':Nat->AV}{ok ok':Nat->J Bool}{o:Op}(h:∀t,.tmp t∈o.operands->env t=env' t/\ok t=ok' t):needs env ok o=needs env' ok' o:=by
 have h1:∀x∈o.operands,yR ok x=yR ok' x:=λx hx=>by
  cases x with
  |tmp t=>simp[yR,(h t hx).2]
  |_=>rfl
 unfold needs;split;rename_i c a b;have hc:ml env c=ml env' c:=by
  cases c with
  |tmp t=>exact(h t (by simp[Op.operands])).1
  |_=>rfl
 rw[hc,h1 c (by simp[Op.operands]),h1 a (by simp[Op.operands]),h1 b (by simp[Op.operands])];have:∀l:U Operand,(∀ x∈l,yR ok x=yR ok' x)->l.flatMap (yR ok)=l.flatMap (yR ok'):=by
  intro l
  induction l with
  |nil=>intro _;rfl
  |cons x xs ih=>intro hx;simp[hx x (by simp),ih (λ y hy=>hx y (by simp[hy]))]
 exact this _ λx hx=>h1 x (by simpa using hx)
theorem afD{j:Nat}{oi oj:Oper}{aa:Out×Option Bool}{M:St}(hj:am[j]? =some oj)(hd:∀d,oi.dst=some d->d∉oj.looksAt am)(hk:∀p∈aa.1.upd,p.1∉(da j).rd):
 opAt P T am da j (M.app oi.dst aa)=opAt P T am da j M:=by
 simp[opAt,hj];have sR:∀t,t∈oj.looksAt am->(M.app oi.dst aa).env t=M.env t:=λt ht=>by simp only[St.app,zX];rw[aC (λ e=>hd t e ht)]
 have T1:∀t,t∈oj.looksAt am->(M.app oi.dst aa).ok t=M.ok t:=λt ht=>by simp only[St.app,zX];rw[aC (λ e=>hd t e ht)]
 have hw:want am oj (M.app oi.dst aa).env (M.app oi.dst aa).ok=want am oj M.env M.ok:=by
  unfold want;cases hg:oj.guard with
  |none=>rfl
  |some gw=>grind [Oper.looksAt]
 have hget:eD (da j).rd (M.app oi.dst aa).obj=eD (da j).rd M.obj:=by funext k;simp[eD];split;rename_i hkr;exact wH _ _ (λ p hp e=>hk p hp (e ▸ hkr));rfl
 have hin:∀t,.tmp t∈oj.op.operands->t∈oj.looksAt am:=λt ht=>by simp only[Oper.looksAt];exact List.mem_append_left _ (List.mem_filterMap.2 ⟨.tmp t,by simpa using ht,rfl⟩)
 have hρ:kz P T j oj (da j).cL (ml (M.app oi.dst aa).env) (eD (da j).rd M.obj)=kz P T j oj (da j).cL (ml M.env) (eD (da j).rd M.obj):=by
  refine OX λx hx=>?_;cases x with
  |tmp t=>exact sR t (hin t hx)
  |_=>rfl
 have hnd:needs (M.app oi.dst aa).env (M.app oi.dst aa).ok oj.op=needs M.env M.ok oj.op:=afC λt ht=>⟨sR t (hin t ht),T1 t (hin t ht)⟩;rw[hw,hget,hρ,hnd]
theorem anb{M:St}{di dj:J Tmp}{a b:Out×Option Bool}(hd:∀d,di=some d->dj≠some d)(hk:∀p∈a.1.upd,∀q∈b.1.upd,p.1≠q.1):(M.app di a).app dj b=(M.app dj b).app di a:=by
 have slot:∀{α:Type} (e:Nat->α) (x y:α),zX (zX e di x) dj y=zX (zX e dj y) di x:=λe x y=>by funext t;simp[zX];by_cases h1:dj=some t;rw[aM h1,aC (λ e=>hd t e h1),aM h1];rw[aC h1,aC h1]
 simp[St.app];refine⟨slot _ _ _,?_,slot _ _ _⟩;funext k;by_cases h1:∃p∈a.1.upd,p.1=k;obtain⟨p,hp,e⟩:=h1;rw[wH b.1.upd k (λ q hq e2=>hk p hp q hq (e.trans e2.symm))];exact FN _ _ (wH b.1.upd k (λ q hq e2=>hk p hp q hq (e.trans e2.symm))).symm;have h2:∀p∈a.1.upd,p.1≠k:=λp hp e=>h1 ⟨p,hp,e⟩;rw[wH a.1.upd k h2];exact FN _ _ (wH a.1.upd k h2)
theorem apl{i j:Nat}{oi oj:Oper}{aa:Out×Option Bool}{M:St}{K:St->Prop}(hi:am[i]? =some oi)(hj:am[j]? =some oj)(hap:oi.apart am oj=true)(hfp:yX da i j=true)
 (hy:opAt P T am da i M=some aa) (h:zj P T am da j K (M.app oi.dst aa)):
 zj P T am da j (λ σ'=>opAt P T am da i σ'=some aa/\K (σ'.app oi.dst aa)) M:=by
 obtain⟨a1,a2,a3⟩:=Oper.apart_spec hap;simp only[yX,aY]at hfp;obtain⟨⟨f1,⟨f0,f2⟩,f2'⟩,f3⟩:=hfp;have hij:i≠j:=by intro e;subst e;rw[show Nat.beq i i=true from Nat.beq_refl i]at f0;cases f0
 have ki:=ace hy;have no:∀(a:Nat)(l wr:U Nat)(k:Nat),(l.all λk=>!Jl a k&&!wr.contains k)=true->(Jl a k=true\/k∈wr)->k∈l->False:=by grind
 obtain⟨o,S6,g1,g2,g3,g4⟩:=h;rw[hj]at g1;cases g1;rw[afD hj a1 (λ p hp hr=>no _ _ _ _ f1 (ki p hp) hr)]at g2;have kj:=ace g2;have both:∀k,(Jl i k=true\/k∈(da i).wr)->(Jl j k=true\/k∈(da j).wr)->False:=by intro k h1 h2;rcases h2 with h2|h2;rcases h1 with h1|h1;simp[Jl]at h1 h2;exact hij (h1.2.symm.trans h2.2);have:=all_eq_true.1 f2' k h1;rw[h2]at this;exact absurd this (by simp);exact no _ _ _ _ f2 h1 h2
 refine⟨oj,S6,hj,g2,g3,?_,?_⟩;rw[afD hi a3 (λ p hp hr=>no _ _ _ _ f3 (kj p hp) hr)];exact hy;rw[<- anb a2 (λ p hp q hq e=>both p.1 (ki p hp) (e ▸ kj q hq))];exact g4
theorem afE{i:Nat}:∀d∈RN md am i,∃od,am[d]? =some od/\∃e∈od.after,Region.binds md e=true/\(e.on=i\/e.on∈RN md am i):=by
 have main:∀(l:U Nat)(D0:U Nat),(∀ d∈D0,∃od,am[d]? =some od/\∃e∈od.after,Region.binds md e=true/\(e.on=i\/e.on∈D0))->
  ∀d∈l.foldl (λ D j=>match am[j]? with
   |some oj=>bif oj.after.any (λ e=>Region.binds md e&&(e.on==i || D.contains e.on))then j::D else D
   |none=>D) D0,∃od,am[d]? =some od/\∃e∈od.after,Region.binds md e=true/\(e.on=i\/e.on∈l.foldl (λ D j=>match am[j]? with
   |some oj=>bif oj.after.any (λ e=>Region.binds md e&&(e.on==i || D.contains e.on))then j::D else D
   |none=>D) D0):=by
  intro l
  induction l with
  |nil=>intro D0 h;exact h
  |cons j l ih=>
   grind
 exact main _ [] (λ d hd=>by simp at hd)
theorem UF{i:Nat}{oi:Oper}{listed:Array Bool}(hi:am[i]? =some oi)(h:RO md am da listed i=true)(j:Nat)(oj:Oper)(hj:am[j]? =some oj)(hne:j≠i)(hun:listed.getD j true=false)
 (hno:∀e∈oj.after,Region.binds md e=true->e.on≠i):(oi.apart am oj=true/\yX da i j=true)\/P4 md am listed i j=true:=by
 simp only[RO,hi,all_eq_true,List.mem_range]at h
 grind
theorem XY{i:Nat}{oi:Oper}{aa:Out×Option Bool}(D:U Nat)(hi:am[i]? =some oi)(hD:∀d∈D,∃od,am[d]? =some od/\∃e∈od.after,Region.binds md e=true/\(e.on=i\/e.on∈D)):
 ∀(fuel:Nat) (listed:Array Bool) (M:St),(∀ d∈D,listed.getD d true=false)->
  (∀ j oj,am[j]? =some oj->j≠i->listed.getD j true=false->j∉D->(∀ e∈oj.after,Region.binds md e=true->e.on≠i)->oi.apart am oj=true/\yX da i j=true)->
  i∈Region.ready md am listed->opAt P T am da i M=some aa->aa.1.ob->
  FS P T am da md Q fuel (listed.setIfInBounds i true) (M.app oi.dst aa)->FS P T am da md Q (fuel+1) listed M:=by
 intro fuel
 induction fuel with
 |zero=>
  intro listed M _ _ hr hy cX H;refine⟨λ h=>(by rw[h]at hr;cases hr),λj hj=>?_⟩;by_cases hji:j=i;subst hji;exact⟨oi,aa,hi,hy,cX,H⟩;have:=ready_mono hj hji;rw[H.1]at this;cases this
 |succ fuel ih=>
  intro listed M hDu hfree hr hy cX H;refine⟨λ h=>(by rw[h]at hr;cases hr),λj hj=>?_⟩;by_cases hji:j=i;subst hji;exact⟨oi,aa,hi,hy,cX,H⟩;have h1:=H.2 j (ready_mono hj hji);obtain⟨hjun,oj,hoj,hall⟩:=mem_ready.1 hj;have hnl:∀k,listed.getD k true=false->∀e∈oj.after,Region.binds md e=true->e.on≠k:=λk h0 e he hb heq=>by have h1:=hall e he hb;rw[heq]at h1;rcases Nat.lt_or_ge k listed.size with h'|h';simp[h']at h0 h1;rw[h0]at h1;cases h1;simp[Array.getElem?_eq_none h']at h1
  have hnot:∀e∈oj.after,Region.binds md e=true->e.on≠i:=hnl i (mem_ready.1 hr).1;have OF:j∉D:=λhm=>by have⟨od,g1,e,g2,g3,g4⟩:=hD j hm;rw[hoj]at g1;cases g1;rcases g4 with g4|g4;exact hnot e g2 g3 g4;exact hnl _ (hDu _ g4) e g2 g3 rfl
  have⟨hap,hfp⟩:=hfree j oj hoj hji hjun OF hnot;have h2:=apl hi hoj hap hfp hy h1
  have hfree':∀k ok,am[k]? =some ok->k≠i->(listed.setIfInBounds j true).getD k true=false->k∉D->
   (∀ e∈ok.after,Region.binds md e=true->e.on≠i)->oi.apart am ok=true/\yX da i k=true:=λk ok hk hki hun hkD hno=>by refine hfree k ok hk hki ?_ hkD hno;by_cases hjk:j=k;subst hjk;exact hjun;rw[getD_set_ne true hjk]at hun;exact hun
  have Wg:∀d∈D,(listed.setIfInBounds j true).getD d true=false:=λd hd=>by have hne:j≠d:=λe=>OF (by rw[e];exact hd);rw[getD_set_ne true hne];exact hDu d hd
  refine ana (λ σ' h3=>ih (listed.setIfInBounds j true) σ' Wg hfree' (ready_mono hr (Ne.symm hji)) h3.1 cX ?_) h2;rw[Array.setIfInBounds_comm _ _ hji];exact h3.2
theorem afF:∀(n k:Nat) (listed:Array Bool) (M:St),lexFrom' md am da n k listed=true->VA P T am da Q ((List.range n).map (k+ ·)) M->FS P T am da md Q n listed M
 | 0,k,listed,M,hB,h=>⟨by simpa[lexFrom']using hB,by simpa[VA]using h⟩
 |n+1,k,listed,M,hB,h=>by
  simp[lexFrom']at hB;obtain⟨⟨hr,hfp⟩,hB'⟩:=hB;rw[List.range_succ_eq_map,bK,List.map_map]at h;simp at h;obtain⟨o,aa,h1,h2,h3,h4⟩:=h;have fin:FS P T am da md Q n (listed.setIfInBounds k true) (M.app o.dst aa)->FS P T am da md Q (n+1) listed M:=by
   intro H;cases hd:(RN md am k).all λd=>!listed.getD d true with
   |true=>
    refine XY (RN md am k) h1 afE n listed M (λ d hd'=>by simpa using all_eq_true.1 hd d hd') (λ j oj hj hne hun OF hno=>?_) (by simpa using hr) h2 h3 H;rcases UF h1 hfp j oj hj hne hun hno with h|h;exact h;simp[P4]at h;exact absurd h.1 OF
   |false=>
    refine XY [] h1 (λ d hd'=>by simp at hd') n listed M (λ d hd'=>by simp at hd') (λ j oj hj hne hun _ hno=>?_) (by simpa using hr) h2 h3 H;rcases UF h1 hfp j oj hj hne hun hno with h|h;exact h;simp only[P4,aY]at h;rw[h.2]at hd;cases hd
  refine fin ?_;refine afF n (k+1) _ _ hB' ?_;have e:(λ x=>k+x)∘Nat.succ=λx=>k+1+x:=by funext x;simp;omega
  rw[e]at h4;exact h4
end
def fL(P:Ξ)(G:Ω)(w:Y)(I:Ψ)(x:AV)(ok:J Bool)(v:Value):Prop:=
 match ok with
 |none=>VR P G w I x v
 |some b=>(b=true->VR P G w I x v)/\(b=false->v=undef)
theorem fL.mono{P:Ξ}{G β':Ω}{w w':Y}{I I':Ψ}(hb:∀k B,G k=some B->β' k=some B)(hs:Same I w w')(hi:∀b,I b->I' b){x:AV}{ok:J Bool}{v:Value}(h:fL P G w I x ok v):fL P β' w' I' x ok v:=by
 cases ok with
 |none=>exact VR.mono hb hs hi _ _ h
 |some b=>exact⟨λ hh=>VR.mono hb hs hi _ _ (h.1 hh),h.2⟩
structure Rel(P:Program)(w0:World)(O0:k5)(N:Nat)(G:Nat->Option cW)(I:Nat->Prop)(M:St)(a:Act)(w:World):Prop where
 defers:a.defers=[]
 size:a.tmps.size=N
 env:∀t,fL P G w I (M.env t) (M.ok t) (a.tmps.getD t undef)
 mem:Mem P w0 O0 G I M.obj w
section
variable {P:Program} {T:eS} {w0:World} {O0:k5} {N:Nat} {G:Nat->Option cW} {I:Nat->Prop} {M:St} {a:Act} {w:World} {am:Array Oper} {da:Nat->kB}
def Fr(un:Ψ)(G:Ω):Prop:=∀i k,un i->jt (cE i) k->G k=none
theorem adR(hgv:kf w I){x:Operand}(h:∀t,x=.tmp t->VR P G w I (M.env t) (a.tmps.getD t undef)):VR P G w I (ml M.env x) (a.eval x):=by
 cases x with
 |tmp t=>exact h t rfl
 |const v=>exact VR.cv
 |global g=>
  simp[ml];split;rename_i row hg;exact⟨g,0,rfl,(hgv.1 g row hg).1,(hgv.1 g row hg).2⟩;simp[VR]
 |func f=>simp only[ml,VR,Act.eval];exact⟨#[],#[],rfl,by simp[bp],by simp[bp]⟩
theorem BL(hr:Rel P w0 O0 N G I M a w){x:Operand}(h:∀p∈yR M.ok x,p):VR P G w I (ml M.env x) (a.eval x):=by
 refine adR hr.mem.vars λt hx=>?_;subst hx;have h1:=hr.env t;simp[yR]at h;cases hk:M.ok t with
 |none=>rw[hk]at h1;exact h1
 |some b=>rw[hk]at h1 h;exact h1.1 (h _ (by simp))
theorem aiu(hT:fQ P T){i:Nat}{o:Oper}{cL:kh}{rd:U Nat}{aa:Out}(hr:Rel P w0 O0 N G I M a w)(hn:∀k,jt (cE i) k->G k=none)(ha:kz P T i o cL (ml M.env) (eD rd M.obj)=some aa)
 (cX:aa.ob) (hnd:∀p∈needs M.env M.ok o.op,p):s7 P w0 O0 G I M.obj w i aa ((execOp a.eval o).run P w)\/BK P w0 O0 G I M.obj w i aa ((execOp a.eval o).run P w):=by
 have hg:∀k ob,eD rd M.obj k=some ob->M.obj k=some ob:=λk ob hk=>by simp only[eD]at hk;split at hk;exact hk;cases hk
 by_cases hp:∃c x y,o.op=.pick c x y;obtain⟨c,x,y,he⟩:=hp;obtain⟨dst,op,ty,aq,after,guard⟩:=o;simp at he;subst he;have ha:rW T i ⟨dst,.pick c x y,ty,aq,after,guard⟩ cL (ml M.env) (eD rd M.obj)=some aa:=by unfold kz at ha;split at ha;cases ha;cases ha;exact ha
 simp[rW]at ha;simp[needs]at hnd;split at ha;rename_i t hc;rw[hc]at hnd;simp[pv]at ha;subst ha;have h1:=BL hr (x:=c) (λ p hp=>hnd p (by simp[hp]));rw[hc]at h1;simp[VR]at h1;refine .inl ⟨if t then a.eval x else a.eval y,w,G,I,.inl ?_,Step.refl ..,hr.mem,?_⟩;simp[execOp,h1.1,asBool];simp;rw[Xz];cases t;exact BL hr λp hp=>hnd (false=false->p) (by simp only[bD,mem_map];exact .inr (.inr ⟨p,hp,rfl⟩)) rfl;exact BL hr λp hp=>hnd (true=true->p) (by simp only[bD,mem_map];exact .inr (.inl ⟨p,hp,rfl⟩)) rfl;cases ha;have hnd':∀x∈o.op.operands,∀p∈yR M.ok x,p:=λx hx p hp'=>hnd p (by unfold needs;split;rename_i c x y he;exact absurd ⟨c,x,y,he⟩ hp;exact List.mem_flatMap.2 ⟨x,by simpa using hx,hp'⟩);have hρ:∀x,VR P G w I ((λ x=>open Classical in if x∈o.op.operands then ml M.env x else .undef) x) (a.eval x):=λx=>by by_cases hx:x∈o.op.operands;simp[hx];exact BL hr (hnd' x hx);simp[hx,VR]
 rw[OX (ρ':=λx=>open Classical in if x∈o.op.operands then ml M.env x else .undef) (λ x hx=>by simp[hx])]at ha;unfold kz at ha;split at ha;exact .inl (aa7 hT hr.mem (hn _ (.inl rfl)) hg hρ ha cX);exact .inl (adN hT hr.mem (hn _ (.inl rfl)) hg hρ ha cX);split at ha;rename_i f args d6 heq;obtain⟨dst,op,ty,aq,after,guard⟩:=o;simp at heq;subst heq;exact .inr (XW hr.mem hn hg ha cX (hρ f) (by rw[Array.toList_map];exact bp.map hρ _) rfl rfl);exact .inl (Ux hT hr.mem (hn _ (.inl rfl)) hg hρ ha cX)
theorem alq(hr:Rel P w0 O0 N G I M a w){o:Oper}{b:Bool}(hb:want am o M.env M.ok=some b):Region.wanted o (yielded am a.tmps)=b:=by
 unfold want at hb;unfold Region.wanted;cases hg:o.guard with
 |none=>simp[hg]at hb |-;exact hb
 |some gw=>
  obtain⟨g,bw⟩:=gw;simp[hg]at hb |-;unfold yielded;cases ht:(am[g]?).bind (·.dst)with
  |none=>simp[ht]at hb
  |some t=>
   simp[ht]at hb;have he:=hr.env t;have val:∀v:Bool,a.tmps.getD t undef=.bool v->a.tmps[t]? =some (.bool v):=λv hv=>by
    cases hh:a.tmps[t]? with
    |none=>simp[hh,undef]at hv
    |some u=>simp[hh]at hv;rw[hv]
   split at hb;rename_i v e1 e2;rw[e1,e2]at he;cases hb;simp only[ai,val v he.1];cases v<;>cases bw<;>rfl;rename_i v q e1 e2;rw[e1,e2]at he;cases hb;cases q with
   |true=>
    simp only[ai,val v (he.1 rfl).1];cases v<;>cases bw<;>rfl
   |false=>
    have h0:=he.2 rfl;simp;cases hh:a.tmps[t]? with
    |none=>simp
    |some u=>simp[hh,undef]at h0;subst h0;simp
   rename_i e1 e2;rw[e1,e2]at he;cases hb;have h0:=he.2 rfl;simp;cases hh:a.tmps[t]? with
   |none=>simp
   |some u=>simp[hh,undef]at h0;subst h0;simp
   cases hb
theorem OY:∀(l:U Prop),jD l->∀p∈l,p
 |[],_,_,hp=>by simp at hp
 |[q],h,p,hp=>by rw[aI]at hp;rw[hp];exact h
 |q::r::l,h,p,hp=>by rcases aG.1 hp with e|hp;rw[e];exact h.1;exact OY (r::l) h.2 p hp
theorem UG(hT:fQ P T){i:Nat}{K:St->Prop}{Q:Exit->Act->World->Prop}{K':Act->World->Prop}{un:Ψ}(hd:∀(j:Nat)(o:Oper)(d:Tmp),am[j]? =some o->o.dst=some d->d<N)
 (hr:Rel P w0 O0 N G I M a w) (hf:Fr un G) (hi:un i)
 (hK:∀ σ' a' w' β' I',Rel P w0 O0 N β' I' σ' a' w'->Fr (λ j=>un j/\j≠i) β'->K σ'->K' a' w') (h:zj P T am da i K M):wpOp P am Q i K' a w:=by
 obtain⟨o,⟨aa,S7⟩,h1,h2,h3,h4⟩:=h;have put:∀(v':Value) (w':World) (β':Nat->J cW) (I':Nat->Prop),Step G I w (cE i) β' I' w'->Mem P w0 O0 β' I' (dw M.obj aa.upd) w'->fL P β' w' I' aa.v S7 v'->K' (a.put o.dst v') w':=by
  intro v' w' β' I' k1 k2 k3;refine hK (M.app o.dst (aa,S7)) _ w' β' I' ⟨?_,?_,?_,k2⟩ ?_ h4;cases hdst:o.dst<;>simp[Act.put,hr.defers];cases hdst:o.dst<;>simp[Act.put,hr.size];intro t;have hold:=fL.mono k1.ext k1.same k1.inc (hr.env t);simp only[St.app,zX];cases hdst:o.dst with
  |none=>simpa[Act.put]using hold
  |some d=>
   simp only[Act.put,bX];by_cases hdt:d=t;subst hdt;rw[aM rfl,aM rfl];have hlt:d<a.tmps.size:=Nat.lt_of_lt_of_eq (hd i o d h1 hdst) hr.size.symm;have e:(a.tmps.setIfInBounds d v').getD d undef=v':=(by simp[hlt]);rw[e];exact k3;rw[aC hdt,aC hdt];simpa[Array.getElem?_setIfInBounds_ne hdt]using hold
  intro j k hj hk;rw[k1.other k (by have:=hj.2;simp[jt,cE]at hk |-;omega)];exact hf j k hj.1 hk
 unfold opAt at h2;simp only[h1,ai]at h2;unfold wpOp;simp[h1];have hn:=λk=>hf i k hi;cases hw:want am o M.env M.ok with
 |none=>simp[hw]at h2
 |some g=>
  simp only[hw,ai]at h2;rw[alq hr hw]
  have run:∀(out':Out),kz P T i o (da i).cL (ml M.env) (eD (da i).rd M.obj)=some out'->(∀ p∈needs M.env M.ok o.op++out'.obs,p)->out'.v=aa.v->(out'.upd=aa.upd)->(∀ β' w' I' v',VR P β' w' I' aa.v v'->fL P β' w' I' aa.v S7 v')->
   o.wp P a w K' Q:=by intro out' ha cX e1 e2 sC;have Wk:=aiu hT hr hn ha (tF _ λp hp=>cX p (by simp[hp])) (λ p hp=>cX p (by simp[hp]));unfold Oper.wp;rcases Wk with ⟨v',w',β',I',hrun,k1,k2,k3⟩|⟨F,args,hrun,DD⟩;rw[e1]at k3;rw[e2]at k2;rcases hrun with hrun|⟨hrun,rfl⟩;rw[hrun];exact put v' w' β' I' k1 k2 (sC _ _ _ _ k3);rw[hrun];exact put _ w' β' I' k1 k2 (sC _ _ _ _ k3);rw[hrun];refine DD.mono ?_;rintro e w' ⟨v',β',I',rfl,k1,k2,k3⟩;rw[e1]at k3;rw[e2]at k2;exact put v' w' β' I' k1 k2 (sC _ _ _ _ k3)
  split at h2;cases ha:kz P T i o (da i).cL (ml M.env) (eD (da i).rd M.obj)with
  |none=>simp[ha]at h2
  |some out'=>
   simp only[ha,ai]at h2;split at h2;rename_i hem;simp only[bX,Prod.mk.injEq]at h2;obtain⟨rfl,rfl⟩:=h2;have DA:out'.upd=[]:=(by simpa using hem);have h3:=OY _ h3;cases g with
   |true=>
    simp;refine .inl (run out' ha (λ p hp=>h3 (true=true->p) (mem_map.2 ⟨p,hp,rfl⟩) rfl) rfl DA λ_ _ _ _ hv=>⟨λ _=>hv,λh=>by cases h⟩)
   |false=>
    simp;exact put _ w G I (Step.refl ..) hr.mem ⟨λ h=>(by cases h),λ_=>rfl⟩
   cases h2
  split at h2;cases ha:kz P T i o (da i).cL (ml M.env) (eD (da i).rd M.obj)with
  |none=>simp[ha]at h2
  |some out'=>
   simp only[ha,ai]at h2;split at h2;obtain⟨rfl,rfl⟩:=h2;simp;exact .inl (run out' ha (OY _ h3) rfl rfl λ_ _ _ _ hv=>hv);cases h2
  obtain⟨rfl,rfl⟩:=h2;simp;exact put _ w G I (Step.refl ..) hr.mem ⟨λ h=>(by cases h),λ_=>rfl⟩
theorem MI(hT:fQ P T){md:Region.Mode}{Q:St->Prop}{Q':Exit->Act->World->Prop}(hd:∀(j:Nat)(o:Oper)(d:Tmp),am[j]? =some o->o.dst=some d->d<N)
 (hQ:∀ M a w G I,Rel P w0 O0 N G I M a w->Q M->Q' .normal a w):∀(fuel:Nat) (listed:Array Bool) (M:St) (a:Act) (w:World) (G:Nat->J cW) (I:Nat->Prop),Rel P w0 O0 N G I M a w->
  Fr (λ j=>listed.getD j true=false) G->FS P T am da md Q fuel listed M->wpAny P md am Q' fuel listed a w
 | 0,_,_,_,_,_,_,hr,_,h=>⟨h.1,hQ _ _ _ _ _ hr h.2⟩
 |fuel+1,listed,M,a,w,G,I,hr,hf,h=>by refine⟨λ h0=>hQ _ _ _ _ _ hr (h.1 h0),λi hi=>?_⟩;have hun:listed.getD i true=false:=(mem_ready.1 hi).1;refine UG hT hd hr hf hun (λ σ' a' w' β' I' hr' hf' hK=>?_) (h.2 i hi);refine MI hT hd hQ fuel _ σ' a' w' β' I' hr' (λ j k hj hk=>hf' j k ?_ hk) hK;have hj:(listed.setIfInBounds i true).getD j true=false:=hj;by_cases hji:i=j;subst hji;rcases Nat.lt_or_ge i listed.size with h1|h1;simp at hj;simp[Array.getElem?_eq_none h1]at hun;rw[getD_set_ne true hji]at hj;exact⟨hj,λe=>hji e.symm⟩
theorem MJ(hT:fQ P T){Q:St->Prop}{Q':Exit->Act->World->Prop}(hd:∀(j:Nat)(o:Oper)(d:Tmp),am[j]? =some o->o.dst=some d->d<N)
 (hQ:∀ M a w G I,Rel P w0 O0 N G I M a w->Q M->Q' .normal a w):∀(l:U Nat) (M:St) (a:Act) (w:World) (G:Nat->J cW) (I:Nat->Prop),l.Nodup->Rel P w0 O0 N G I M a w->
  Fr (λ j=>j∈l) G->VA P T am da Q l M->wpOps P am Q' l a w
 |[],_,_,_,_,_,_,hr,_,h=>hQ _ _ _ _ _ hr h
 |i::l,M,a,w,G,I,hn,hr,hf,h=>by
  rw[wpOps_cons];refine UG hT hd hr hf (by simp) (λ σ' a' w' β' I' hr' hf' hK=>?_) h;refine MJ hT hd hQ l σ' a' w' β' I' (List.nodup_cons.1 hn).2 hr' (λ j k hj hk=>hf' j k ⟨by simp[hj],λe=>?_⟩ hk) hK
  grind
def RP(N:Nat)(am:Array Oper):Bool:=am.all λo=>match o.dst with|some d=>decide (d<N)|none=>true
theorem UH(h:RP N am=true)(j:Nat)(o:Oper)(d:Tmp)(hj:am[j]? =some o)(hd:o.dst=some d):d<N:=by have:=Array.all_eq_true_iff_forall_mem.1 h o (Array.mem_of_getElem? hj);simpa[hd]using this
structure nb(M:St):Prop where
 env:∀t k,k∈refs (M.env t)->k<1000000
 obj:∀k o,M.obj k=some o->k<1000000/\∀r∈o.rows,∀x∈r,∀j∈refs x,j<1000000
mutual
theorem VR.restrict{β':Nat->Option cW}(h:∀k,k<1000000->β' k=G k):∀(x:AV)(v:Value),(∀ k∈refs x,k<1000000)->VR P G w I x v->VR P β' w I x v
 |.t _,_,_,hv=>by simpa[VR]using hv
 |.agg cs,_,hk,hv=>by simp[VR]at hv |-;obtain⟨vs,h1,h2⟩:=hv;exact⟨vs,h1,bp.restrict h cs _ (by simpa[refs]using hk) h2⟩
 |.fR cs,_,hk,hv=>by simp[VR]at hv |-;obtain⟨vs,h1,h2⟩:=hv;exact⟨vs,h1,bp.restrict h cs _ (by simpa[refs]using hk) h2⟩
 |.own k _ _,_,hk,hv|.ptr k _ _,_,hk,hv=>by simp[VR,h k (hk k (by simp[refs]))]at hv |-;exact hv
 |.eV _ _,_,_,hv=>by simpa[VR]using hv
 |.fn f first caps,_,hk,hv=>by simp[VR]at hv |-;obtain⟨fs,cs,h1,h2,h3⟩:=hv;exact⟨fs,cs,h1,bp.restrict h first _ (λ k hk'=>hk k (by simp[refs,hk'])) h2,bp.restrict h caps _ (λ k hk'=>hk k (by simp[refs,hk'])) h3⟩
 |.en _,_,_,hv=>by simpa[VR]using hv
 |.mp k,_,hk,hv|.oz k _,_,hk,hv=>by simp[VR,h k (hk k (by simp[refs]))]at hv |-;exact hv
 |.cD,_,_,hv|.ub,_,_,hv=>by simpa[VR]using hv
 |.undef,_,_,_=>by simp[VR]
theorem bp.restrict{β':Nat->Option cW}(h:∀k,k<1000000->β' k=G k):∀(xs:List AV)(vs:List Value),(∀ k∈cu xs,k<1000000)->bp P G w I xs vs->bp P β' w I xs vs
 |[],[],_,_=>by simp[bp]
 |x::xs,v::vs,hk,hv=>by simp[bp]at hv |-;exact⟨VR.restrict h x v (λ k hk'=>hk k (by simp[cu,hk'])) hv.1,bp.restrict h xs vs (λ k hk'=>hk k (by simp[cu,hk'])) hv.2⟩
 |[],_::_,_,hv|_::_,[],_,hv=>by simp[bp]at hv
end
theorem acf:∀{xs:U AV}{k:Nat},k∈cu xs->∃x∈xs,k∈refs x
 |[],_,h=>by simp[cu]at h
 |x::xs,k,h=>by simp[cu]at h;rcases h with h|h;exact⟨x,by simp,h⟩;have⟨y,h1,h2⟩:=acf h;exact⟨y,by simp[h1],h2⟩
theorem Rel.restrict(ho:nb M)(hr:Rel P w0 O0 N G I M a w):Rel P w0 O0 N (λ k=>if k<1000000 then G k else none) I M a w:=by
 have hb:∀k,k<1000000->(λ k=>if k<1000000 then G k else none) k=G k:=λk hk=>by simp[hk]
 have sC:∀t,fL P (λ k=>if k<1000000 then G k else none) w I (M.env t) (M.ok t) (a.tmps.getD t undef):=λt=>by
  have h1:=hr.env t;cases hk:M.ok t with
  |none=>rw[hk]at h1;exact VR.restrict hb _ _ (ho.env t) h1
  |some b=>rw[hk]at h1;exact⟨λ h=>VR.restrict hb _ _ (ho.env t) (h1.1 h),h1.2⟩
 refine⟨hr.defers,hr.size,sC,?_⟩;have hm:=hr.mem;constructor;intro k o hk;have⟨B,hB,hO⟩:=hm.c8 k o hk;have⟨h1,h2⟩:=ho.obj k o hk;refine⟨B,by simp[h1];exact hB,?_⟩;cases B with
 |none=>exact hO
 | «at» b s n=>
  obtain⟨g1,c,e,g2,g3,g4⟩:=hO;refine⟨g1,c,e,g2,g3,?_⟩;rw[qg]at g4 |-;intro i r hir;have⟨q1,q2⟩:=g4 i r hir;refine⟨q1,?_⟩;rw[j4]at q2 |-;intro j x hx;have⟨v,p1,p2,p3⟩:=q2 j x hx;exact⟨v,p1,VR.restrict hb _ _ (h2 r (dM hir) x (dM hx)) p2,p3⟩
 |mp b=>
  obtain⟨es,cl,g1,gl,g2,g3⟩:=hO;refine⟨es,cl,g1,gl,λe=>cQ.tell rfl (λ j r q' a b vs hv=>?_) (g2 e),g3⟩;rw[a]at b;cases b;exact bp.restrict hb _ _ (λ k hk=>by have⟨x,hx,hk⟩:=acf hk;exact h2 r (dM a) x hx k hk) hv
 intro k k' o o' B B' b h1 h2 h3 h4;simp[(ho.obj k o h1).1,(ho.obj k' o' h2).1]at h3 h4;exact hm.ir k k' o o' B B' b h1 h2 h3 h4;intro k o B b h1 h2;simp[(ho.obj k o h1).1]at h2;exact hm.ownB k o B b h1 h2;exact hm.lt;exact hm.up;exact hm.keep;exact hm.le;exact hm.os;exact hm.tape;exact hm.output;intro j B hj;have:=O0.lt j B hj;rw[aM (by omega)];exact hm.anch j B hj;exact hm.vars
theorem Rel.drew(hr:Rel P w0 O0 N G I M a w):Rel P w0 O0 N G I M a w.drew:=
 ⟨hr.defers,hr.size,λt=>fL.mono (w:=w) (w':=w.drew) (λ _ _ h=>h) (λ _ _=>rfl) (λ _ h=>h) (hr.env t),hr.mem.drew⟩
theorem acg(hT:fQ P T){id:Nat}{Q:St->Prop}(hd:RP N am=true)(ho:nb M)(h:VA P T am da Q (List.range am.size) M)(hr:Rel P w0 O0 N G I M a w):
 (Code.region id am false).wp P (λ e a' w'=>∃ β' I' σ',Rel P w0 O0 N β' I' σ' a' w'/\e=.normal/\Q σ') a w:=by refine wp_region (MJ hT (UH hd) (Q:=Q) (λ M a w G I hr hq=>⟨G,I,M,hr,rfl,hq⟩) _ M a w _ I List.nodup_range (hr.restrict ho) (λ j k _ hk=>?_) h);exact aC (by simp[jt,cE]at hk;omega)
theorem Jo(hT:fQ P T)(hm:P.follows .mixedOrders=true){id:Nat}{Q:St->Prop}(hd:RP N am=true)(hB:UE am da=true)(ho:nb M)(h:VA P T am da Q (List.range am.size) M)(hr:Rel P w0 O0 N G I M a w):
 (Code.region id am true).wp P (λ e a' w'=>∃ β' I' σ',Rel P w0 O0 N β' I' σ' a' w'/\e=.normal/\Q σ') a w:=by
 refine wp_region_any hm (MI hT (md:=.any) (da:=da) (UH hd) (Q:=Q) (λ M a w G I hr hq=>⟨G,I,M,hr,rfl,hq⟩) _ _ M a _ _ I (hr.restrict ho).drew (λ j k _ hk=>?_) ?_);exact aC (by simp[jt,cE]at hk;omega);refine afF am.size 0 _ M hB ?_;have e:(List.range am.size).map (λ x=>0+x)=List.range am.size:=by simp
 rw[e];exact h
end
def Ev(P:Ξ)(N:Nat)(c:Code)(Q:Exit->St->Prop)(M:St):Prop:=
 ∀(w0:World) (O0:k5) (G:Nat->J cW) (I:Nat->Prop) (a:Act) (w:World),Rel P w0 O0 N G I M a w->nb M->
  c.wp P (λ e a' w'=>∃ β' I' σ',Rel P w0 O0 N β' I' σ' a' w'/\nb σ'/\Q e σ') a w
def HM(K:St->Prop)(Q:Exit->St->Prop):Exit->St->Prop
 |.normal,M=>K M
 |e,M=>Q e M
def aiv(id:Nat)(Q:Exit->St->Prop):Exit->St->Prop
 |.exit j,M=>if j=id then Q .normal M else Q (.exit j) M
 |e,M=>Q e M
theorem aci{P:Ξ}{c:Code}{Q:Exit->Act->World->Prop}(J:Nat->Act->World->Prop)(h0:∀a w,¬J 0 a w)(round:∀n a w,J (n+1) a w->c.wp P (Exit.then (J n) Q) a w)(n:Nat)(a:Act)(w:Y)(h:J n a w):
 (Code.loop c).wp P Q a w:=by
 intro b k cs;have key:∀n a w,J n a w->∃e a' w',Q e a' w'/\Arrives P (lone (b.at a (.code c::.inLoop c::k)) cs w) b k cs e a' w':=by
  intro n
  induction n with
  |zero=>intro a w h;exact(h0 a w h).elim
  |succ n ih=>
   intro a w hI;have⟨e,a₁,w₁,hq,harr⟩:=round n a w hI b (.inLoop c::k) cs;cases e with
   |normal=>
    have⟨e₂,a₂,w₂,hq₂,harr₂⟩:=ih a₁ w₁ hq;exact⟨e₂,a₂,w₂,hq₂,.of_steps (Steps.trans harr (.one step_inLoop)) harr₂⟩
   |exit id|goto l|ret|panic ch|outgrown=>exact⟨_,a₁,w₁,hq,.pass (x:=.inLoop c) rfl (λ _ _=>.inl (by simp)) harr⟩
 have⟨e,a',w',hq,harr⟩:=key n a w h;exact⟨e,a',w',hq,.of_steps (.one step_loop) harr⟩
section
variable {P:Program} {N:Nat} {Q:Exit->St->Prop} {M:St}
theorem Ev.mono{c:Code}{Q':Exit->St->Prop}(h:Ev P N c Q M)(hq:∀e M,Q e M->Q' e M):Ev P N c Q' M:=
 λw0 O0 G I a w hr ho=>wp_mono (h w0 O0 G I a w hr ho) λ_ _ _ ⟨β',I',σ',h1,h2,h3⟩=>⟨β',I',σ',h1,h2,hq _ _ h3⟩
theorem OZ(h:Q .normal M):Ev P N .skip Q M:=λ_ _ G I _ _ hr ho=>wp_skip ⟨G,I,M,hr,ho,h⟩
theorem aky{id:Nat}(h:Q (.exit id) M):Ev P N (.exit id) Q M:=λ_ _ G I _ _ hr ho=>wp_exit ⟨G,I,M,hr,ho,h⟩
theorem aiw(h:Q .ret M):Ev P N .ret Q M:=λ_ _ G I _ _ hr ho=>wp_ret ⟨G,I,M,hr,ho,h⟩
theorem ane{l:Nat}(h:Q .normal M):Ev P N (.label l) Q M:=λ_ _ G I _ _ hr ho=>wp_label ⟨G,I,M,hr,ho,h⟩
theorem kC{x y:Code}(h:Ev P N x (HM (Ev P N y Q) Q) M):Ev P N (.seq x y) Q M:=by intro w0 O0 G I a w hr ho;refine wp_seq (wp_mono (h w0 O0 G I a w hr ho) ?_);rintro e a' w' ⟨β',I',σ',h1,h2,h3⟩;cases e<;>first|exact h3 w0 O0 β' I' a' w' h1 h2|exact⟨β',I',σ',h1,h2,h3⟩
theorem FO{c:Operand}{x y:Code}(b:Bool)(hk:∀t,c=.tmp t->M.ok t=none)(hc:ml M.env c=.t (.sc (.bool b)))(h:Ev P N (bif b then x else y) Q M):Ev P N (.cond c x y) Q M:=by intro w0 O0 G I a w hr ho;have h1:=adR (P:=P) (G:=G) (w:=w) (I:=I) (M:=M) (a:=a) (x:=c) hr.mem.vars (λ t ht=>by have h1:=hr.env t;rw[hk t ht]at h1;exact h1);rw[hc]at h1;refine wp_cond (t:=b) h1.1 ?_;cases b<;>exact h w0 O0 G I a w hr ho
theorem aix{c:Operand}{x y:Code}(hk:∀t,c=.tmp t->M.ok t=none)(hc:ml M.env c=.ub)(h1:Ev P N x Q M)(h2:Ev P N y Q M):Ev P N (.cond c x y) Q M:=by intro w0 O0 G I a w hr ho;have h3:=adR (P:=P) (G:=G) (w:=w) (I:=I) (M:=M) (a:=a) (x:=c) hr.mem.vars (λ t ht=>by have h1:=hr.env t;rw[hk t ht]at h1;exact h1);rw[hc]at h3;obtain⟨b,hb⟩:=h3;refine wp_cond (t:=b) hb ?_;cases b;exact h2 w0 O0 G I a w hr ho;exact h1 w0 O0 G I a w hr ho
theorem O1{id:Nat}{c:Code}(h:Ev P N c (aiv id Q) M):Ev P N (.block id c) Q M:=by
 intro w0 O0 G I a w hr ho;refine wp_block (wp_mono (h w0 O0 G I a w hr ho) ?_);rintro e a' w' ⟨β',I',σ',h1,h2,h3⟩;cases e with
 |exit j=>
  simp[aiv]at h3;simp[Exit.inBlock];split;rw[aM ‹_›]at h3;exact⟨β',I',σ',h1,h2,h3⟩;rw[aC ‹_›]at h3;exact⟨β',I',σ',h1,h2,h3⟩
 |_=>exact⟨β',I',σ',h1,h2,h3⟩
theorem akz{c:Code}(J:Nat->St->Prop)(h0:∀ M,¬J 0 M)(round:∀n M,J (n+1) M->Ev P N c (HM (J n) Q) M)(n:Nat)(h:J n M):Ev P N (.loop c) Q M:=by intro w0 O0 G I a w hr ho;refine aci (λ n a w=>∃ G I M,Rel P w0 O0 N G I M a w/\nb M/\J n M) (λ a w ⟨_,_,M,_,_,h⟩=>h0 M h) ?_ n a w ⟨G,I,M,hr,ho,h⟩;rintro n a w ⟨G,I,M,hr,ho,hJ⟩;refine wp_mono (round n M hJ w0 O0 G I a w hr ho) ?_;rintro e a' w' ⟨β',I',σ',h1,h2,h3⟩;cases e<;>exact⟨β',I',σ',h1,h2,h3⟩
end
def lk{α:Type}:U (Nat×α)->Nat->J α
 |[],_=>none
 |(j,x)::r,k=>if j=k then some x else lk r k
structure sg where
 env:List (Nat×AV)
 c8:List (Nat×aR)
def sg.st(L:sg):St:=⟨λ t=>(lk L.env t).getD .undef,λk=>lk L.c8 k,λ_=>none⟩
theorem o7{α:Type}:∀{l:U (Nat×α)}{k:Nat}{x:α},lk l k=some x->(k,x)∈l
 |(j,y)::r,k,x,h=>by simp[lk]at h;split at h;cases h;rename_i e;subst e;simp;exact bq _ (o7 h)
theorem wI{α:Type}:∀{l:U (Nat×α)}{k:Nat}{x:α},(l.map (·.1)).Nodup->(k,x)∈l->lk l k=some x
 |(j,y)::r,k,x,hn,h=>by simp only[bK,List.nodup_cons]at hn;simp[lk];rcases aG.1 h with h|h;injection h with h1 h2;subst h1;subst h2;simp;have hne:k≠j:=λe=>hn.1 (mem_map.2 ⟨(k,x),h,e⟩);rw[aC (Ne.symm hne)];exact wI hn.2 h
end Go.Gb
