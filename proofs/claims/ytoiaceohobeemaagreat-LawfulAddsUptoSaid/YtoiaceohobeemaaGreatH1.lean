import Derived.Test.YtoiaceohobeemaaGreatL1
import Derived.Maps.Own
import Derived.RangeFuncOwn
import Derived.Deep.WholeRow
import Derived.WalkKit
import Derived.Maps.Views
import Derived.Sort.KeysCollected
import Derived.Lib.IndexMore
import Derived.RangeFuncNested
import Derived.RangeFuncBound
import Derived.RangeFuncLeaves
import Derived.Shelf.Abstract
import Derived.OwnWalkIn
import Derived.TacticsInMore
import Derived.LoopNIn
import Derived.LoopIn
import Derived.Shelf.SlIter.Nil
import Derived.Shelf.SortM.Plain
import Derived.Shelf.SortM.SortNone
import Derived.Ground.GgzProg
import Derived.Ground.SlgmProg
import Derived.Test.YtoiaceohobeemaaGreatChecked
import Derived.Maps.AppendAt
import Derived.Maps.OwnIn
import Derived.Maps.RangeWalk
import Derived.Maps.OwnSet
import Derived.Deep.RegionHeld3
import Derived.Deep.AppendLies
import Derived.Deep.RegionLaw
import Derived.Deep.DrawnRows
import Derived.Shelf.Bits.Mul64
import Derived.Laws.CopyOwn
import Derived.Shelf.Strings.Search3
import Derived.Ground.NamesProg
open Go.IntKind (i64)
open List (mem_map cons_append length_nil map_nil)
namespace Go.Proofs
open Go.RowKit Go.Maps Go.Sort
attribute [local go_sem] Oper.semAt_some
inductive ET where
 |mk (op:Int) (s:ByteArray) (args:List ET)
mutual
def ET.names:ET->List ByteArray
 | .mk op s args=>(if op=1 then [s]else [])++ET.dt args
def ET.dt:List ET->List ByteArray
 |[]=>[]
 |t::ts=>t.names++ET.dt ts
end
section
variable (n0:Nat) (W:World)
mutual
def kA:ET->List Value->Prop
 | .mk op s args,vs=>∃n key sl,(vs=[.int .i64 op,.int .i64 n,.string s,.string key,sl]/\args.length<=4611686018427387904/\s.size<=maxLen)/\((args=[]/\∃a cap,sl= .slice a 0 cap)\/∃b aa cap,sl= .slice (some ⟨b,aa,none⟩) args.length cap/\b<n0/\fh args b aa)
def fh:List ET->Nat->Nat->Prop
 |[],_,_=>True
 |t::ts,b,aa=>(∃ vs:List Value,(∀ j v,vs[j]? =some v->W.cell? ⟨b,aa+j,none⟩=some v)/\kA t vs)/\fh ts b (aa+5)
end
end
mutual
theorem kA.below{n0:Nat}{A B:World}(h:Below n0 A B):∀(t:ET)(vs:List Value),kA n0 A t vs->kA n0 B t vs
 | .mk op s args,vs,ha=>by
  simp only[kA]at ha ⊢;obtain⟨n,key,sl,h1,h2⟩:=ha;refine⟨n,key,sl,h1,h2.imp id ?_⟩;rintro⟨b,aa,cap,e,hb,hs⟩;exact⟨b,aa,cap,e,hb,fh.below h args b aa hb hs⟩
theorem fh.below{n0:Nat}{A B:World}(h:Below n0 A B):∀(ts:List ET)(b aa:Nat),b<n0->fh n0 A ts b aa->fh n0 B ts b aa
 |[],_,_,_,_=>by simp[fh]
 |t::ts,b,aa,hb,hs=>by
  simp only[fh]at hs ⊢;obtain⟨⟨vs,h1,h2⟩,h3⟩:=hs;exact⟨⟨vs,λj v hj=>(h.cell (p:=⟨b,aa+j,none⟩) hb).trans (h1 j v hj),kA.below h t vs h2⟩,fh.below h ts b (aa+5) hb h3⟩
end
theorem kA.below'{n0:Nat}{A B:World}{t:ET}{vs:List Value}(ha:kA n0 A t vs)(h:Below n0 A B):kA n0 B t vs:=kA.below h t vs ha
theorem fh.get{n0:Nat}{W:World}:∀{ts:List ET}{b aa i:Nat}{t:ET},fh n0 W ts b aa->ts[i]? =some t->∃vs:List Value,(∀ j v,vs[j]? =some v->W.cell? ⟨b,aa+i*5+j,none⟩=some v)/\kA n0 W t vs
 |t::ts,b,aa,0,t',h,hi=>by
  simp only[fh]at h;simp at hi;subst hi;simpa using h.1
 |t::ts,b,aa,i+1,t',h,hi=>by
  simp only[fh]at h;obtain⟨vs,h1,h2⟩:=fh.get h.2 (by simpa using hi);exact⟨vs,λj v hj=>by rw[show aa+(i+1)*5+j=aa+5+i*5+j by omega];exact h1 j v hj,h2⟩
mutual
theorem kA.mono{n0 n1:Nat}{W:World}(hn:n0<=n1):∀(t:ET)(vs:List Value),kA n0 W t vs->kA n1 W t vs
 | .mk op s args,vs,ha=>by
  simp only[kA]at ha ⊢;obtain⟨n,key,sl,h1,h2⟩:=ha;refine⟨n,key,sl,h1,h2.imp id ?_⟩;rintro⟨b,aa,cap,e,hb,hs⟩;exact⟨b,aa,cap,e,by omega,fh.mono hn args b aa hs⟩
theorem fh.mono{n0 n1:Nat}{W:World}(hn:n0<=n1):∀(ts:List ET)(b aa:Nat),fh n0 W ts b aa->fh n1 W ts b aa
 |[],_,_,_=>by simp[fh]
 |t::ts,b,aa,hs=>by
  simp only[fh]at hs ⊢;obtain⟨⟨vs,h1,h2⟩,h3⟩:=hs;exact⟨⟨vs,h1,kA.mono hn t vs h2⟩,fh.mono hn ts b (aa+5) h3⟩
end
theorem ET.mS(ts:List ET)(i:Nat){t:ET}(h:ts[i]? =some t):ET.dt (ts.take (i+1))=ET.dt (ts.take i)++t.names:=by
 induction ts generalizing i with
 |nil=>simp at h
 |cons x xs ih=>
  cases i with
  |zero=>simp at h;subst h;simp[ET.dt]
  |succ i=>simp only[List.take_succ_cons,ET.dt,ih i (by simpa using h),aK]
theorem ET.tf(ts:List ET)(i:Nat):(ET.dt (ts.take i)).length<=(ET.dt ts).length:=by
 induction ts generalizing i with
 |nil=>simp
 |cons x xs ih=>cases i with
  |zero=>simp[ET.dt]
  |succ i=>simp only[List.take_succ_cons,ET.dt,dH];have:=ih i;omega
theorem ET.p7{op:Int}{s:ByteArray}{args:List ET}{i:Nat}{t:ET}{x:ByteArray}(h:args[i]? =some t)(hx:x∈t.names):x∈(ET.mk op s args).names:=by
 simp only[ET.names,aX];refine .inr ?_;clear op s
 induction args generalizing i with
 |nil=>simp at h
 |cons y ys ih=>
  simp only[ET.dt,aX];cases i with
  |zero=>simp at h;subst h;exact .inl hx
  |succ i=>exact .inr (ih (by simpa using h))
abbrev F0(l:List ByteArray):List Lit:=l.map λs=> .string s.data.toList
def yI(l:List ByteArray):DataW Unit:=setOf (.lit (.bool true)) (F0 l)
theorem aey(l:List ByteArray)(s:ByteArray):yI (l++[s])=(yI l).put (.string s.data.toList) (.lit (.bool true)):=by simp[yI,setOf]
theorem WD(l:List ByteArray):∀x∈F0 l,WideAt.IsKeyLit x:=by
 intro x hx;obtain⟨s,_,rfl⟩:=mem_map.1 hx;trivial
theorem abk:∀(xs L:List Lit),(xs.foldl addKey L).length<=L.length+xs.length
 |[],L=>by simp
 |x::xs,L=>by
  have h:=abk xs (addKey L x);have h2:(addKey L x).length<=L.length+1:=by unfold addKey;split<;>simp
  simp only[List.foldl_cons,bF];omega
theorem aez(l:List ByteArray):Maps.size (yI l)<=l.length:=by
 rw[yI,size_setOf _ _ (WD l)];simpa using abk (F0 l) []
def rK(l:List (List UInt8)):List (List UInt8):=l.foldr (λ x a=>if x∈a then a else x::a) []
theorem Vx(x:List UInt8):∀l,x∈rK l↔x∈l
 |[]=>by simp[rK]
 |y::l=>by
  have h:=Vx x l;show x∈(if y∈rK l then rK l else y::rK l)↔_;split
  ·rename_i hy;rw[aN,h];exact⟨.inr,λe=>e.elim (λ e=>by rw[e];exact(Vx y l).1 hy) id⟩
  ·rw[aN,aN,h]
theorem RD:∀l,(rK l).Nodup
 |[]=>List.nodup_nil
 |y::l=>by
  show(if y∈rK l then rK l else y::rK l).Nodup;split
  ·exact RD l
  ·rename_i hy;exact List.nodup_cons.2 ⟨hy,RD l⟩
def xJ(l:List ByteArray):List (List UInt8):=(rK (l.map (·.data.toList))).mergeSort leB
theorem akY:∀l,(rK l).length<=l.length
 |[]=>by simp[rK]
 |y::l=>by
  have:=akY l;show(if y∈rK l then rK l else y::rK l).length<=_;split<;>simp<;>omega
theorem aeA(l:List ByteArray):(xJ l).length<=l.length:=by
 rw[xJ,List.length_mergeSort];simpa using akY (l.map (·.data.toList))
theorem akZ{l:List ByteArray}{s:List UInt8}(h:s∈xJ l):∃x∈l,s=x.data.toList:=by
 rw[xJ,List.mem_mergeSort,Vx]at h;obtain⟨x,hx,rfl⟩:=mem_map.1 h;exact⟨x,hx,rfl⟩
theorem agR(l:List ByteArray){es:List (Lit×DataW Unit)}(e:yI l= .map es)(hk:∀p∈es,∃x,p.1= .string x):(rK (l.map (·.data.toList))).Perm (strKeys (yI l)):=by
 have ht:=tidy_setOf (H:=Unit) (.lit (.bool true)) (F0 l) (WD l);have hh:=λk=>has_setOf (H:=Unit) (.lit (.bool true)) k (F0 l) (WD l);obtain⟨es',e',hp⟩:=ht;obtain rfl:es=es':=by have:=e.symm.trans e';injection this
 rw[e];refine perm_strKeys hp hk (RD _) λx=>?_;rw[<- e,yI,hh,Vx];constructor
 ·intro h;obtain⟨z,hz,rfl⟩:=mem_map.1 h;exact List.any_eq_true.2 ⟨_,mem_map.2 ⟨z,hz,rfl⟩,WideAt.sameKey_self trivial⟩
 ·intro h;obtain⟨y,hy,hs⟩:=List.any_eq_true.1 h;obtain⟨z,hz,rfl⟩:=mem_map.1 hy;have:=WideAt.sameKey_eq hs;injection this with this;exact mem_map.2 ⟨z,hz,this⟩
mutual
theorem kA.fY{n0:Nat}{W:World}:∀(t:ET)(vs:List Value),kA n0 W t vs->∀x∈t.names,x.size<=maxLen
 | .mk op s args,vs,h,x,hx=>by
  simp only[kA]at h;obtain⟨n,key,sl,⟨_,_,hs⟩,h2⟩:=h;simp only[ET.names,aX]at hx;rcases hx with hx |hx
  ·split at hx
   ·rw[aY]at hx;rw[hx];exact hs
   ·cases hx
  ·rcases h2 with ⟨rfl,_⟩ |⟨b,aa,cap,_,_,h3⟩
   ·simp[ET.dt]at hx
   ·exact fh.fY args b aa h3 x hx
theorem fh.fY{n0:Nat}{W:World}:∀(ts:List ET)(b aa:Nat),fh n0 W ts b aa->∀x∈ET.dt ts,x.size<=maxLen
 |[],_,_,_,x,hx=>by simp[ET.dt]at hx
 |t::ts,b,aa,h,x,hx=>by
  simp only[fh]at h;obtain⟨⟨vs,_,h1⟩,h2⟩:=h;simp only[ET.dt,aX]at hx;exact hx.elim (kA.fY t vs h1 x) (fh.fY ts b (aa+5) h2 x)
end
mutual
def ET.wt:ET->Nat
 | .mk _ s args=>1+s.size+ET.sE args
def ET.sE:List ET->Nat
 |[]=>0
 |t::ts=>t.wt+ET.sE ts
end
mutual
theorem ET.oB:∀t:ET,t.names.length<=t.wt
 | .mk op s args=>by
  have:=ET.pP args;simp only[ET.names,ET.wt,dH];split<;>simp<;>omega
theorem ET.pP:∀ts:List ET,(ET.dt ts).length<=ET.sE ts
 |[]=>by simp[ET.dt]
 |t::ts=>by
  have h1:=ET.oB t;have h2:=ET.pP ts;simp only[ET.dt,ET.sE,dH];omega
end
theorem ET.qe:∀ts:List ET,ts.length<=ET.sE ts
 |[]=>aQ _
 |t::ts=>by
  have:=ET.qe ts;have h:1<=t.wt:=by cases t;simp only[ET.wt];omega
  simp only[ET.sE,bF];omega
theorem dM(P:Program)(W:World)(c:Array Value)(t:TypeId)(j:Nat)(u:Value)(hj:j<c.size)(h1:u.oneCell'=true):
 (store ⟨W.heap.size,j,none⟩ u).run P (W.alloc (.cells c t))= .ok () (W.alloc (.cells (c.set j u) t)):=by
 have hn:=World.alloc_heap_new W (.cells c t);rw[run_store _ _ _ _ _ h1];have hr:=World.setRow_alloc_new W c (c.set j u) t;simp only[stored,World.cell?,World.frozen?,hn,Array.getElem?_eq_getElem hj];have hz:(decide (0<=j)&&decide (j<0))=false:=by simp
 simp only[hz,Option.isSome_none,Bool.false_eq_true,if_false,<- hr];congr 1;simp only[World.setCell,World.setRow,World.alloc];congr 1;apply Array.ext_getElem?;intro i;rw[Array.getElem?_modify,Array.getElem?_modify];by_cases h:W.heap.size=i
 ·subst h;simp[Array.setIfInBounds,hj]
 ·simp[h]
end Go.Proofs
namespace Go.Gb
open Go.RowKit Go.Proofs
mutual
def pC:ET->List Tree->Prop
 | .mk op s args,r=>∃n key rows,r=[.sc (.int .i64 op),.sc (.int .i64 n),.sc (.string s),.sc (.string key),.sl rows]/\s.size<=maxLen/\args.length<=4611686018427387904/\kq args rows
def kq:List ET->List (List Tree)->Prop
 |[],rows=>rows=[]
 |t::ts,rows=>∃r rs,rows=r::rs/\pC t r/\kq ts rs
end
theorem kq.len:∀{ts:List ET}{rows:List (List Tree)},kq ts rows->rows.length=ts.length
 |[],rows,h=>by simp only[kq]at h;subst h;rfl
 |t::ts,rows,h=>by
  simp only[kq]at h;obtain⟨r,rs,rfl,_,h⟩:=h;simp[h.len]
theorem pC.len{t:ET}{r:List Tree}(h:pC t r):r.length=5:=by
 cases t;simp only[pC]at h;obtain⟨_,_,_,rfl,_⟩:=h;rfl
theorem NF{w:World}{I:Nat->Prop}:∀{r:List Tree}{b aa:Nat},dk w I r b aa->∃vs:List Value,eK w I r vs/\∀j v,vs[j]? =some v->w.cell? ⟨b,aa+j,none⟩=some v
 |[],b,aa,_=>⟨[],trivial,λj v h=>by simp at h⟩
 |x::xs,b,aa,h=>by
  simp only[dk]at h;obtain⟨⟨c,hc,hx⟩,h2⟩:=h;obtain⟨vs,h3,h4⟩:=NF h2;refine⟨c::vs,⟨hx,h3⟩,λj v hj=>?_⟩;cases j with
  |zero=>simp at hj;subst hj;exact hc
  |succ j=>have:=h4 j v (by simpa using hj);rw[<- this];congr 2;omega
mutual
theorem ak0{w:World}{I:Nat->Prop}{n0:Nat}(hI:∀b,I b->b<n0):∀(t:ET)(r:List Tree)(vs:List Value),pC t r->eK w I r vs->kA n0 w t vs
 | .mk op s args,r,vs,h,hv=>by
  simp only[pC]at h;obtain⟨n,key,rows,rfl,hs,hl,h⟩:=h
  match vs,hv with
  |[a,b,c,d,e],hv=>
   simp only[eK,TR]at hv;obtain⟨⟨rfl,_⟩,⟨rfl,_⟩,⟨rfl,_⟩,⟨rfl,_⟩,he,_⟩:=hv;simp only[kA];refine⟨n,key,e,⟨rfl,hl,hs⟩,?_⟩;have hlen:=h.len;rcases he with ⟨rfl,a,cap,rfl,_⟩ |⟨b,aa,cap,sz,rfl,_,hb,hr⟩
   ·exact .inl ⟨List.eq_nil_of_length_eq_zero hlen.symm,_,_,rfl⟩
   ·exact .inr ⟨b,aa,cap,by rw[hlen],hI b hb,aif hI args rows b aa sz h hr⟩
theorem aif{w:World}{I:Nat->Prop}{n0:Nat}(hI:∀b,I b->b<n0):∀(ts:List ET)(rows:List (List Tree))(b aa sz:Nat),kq ts rows->ct w I rows b aa sz->fh n0 w ts b aa
 |[],_,_,_,_,_,_=>by simp[fh]
 |t::ts,rows,b,aa,sz,h,hr=>by
  simp only[kq]at h;obtain⟨r,rs,rfl,h1,h2⟩:=h;simp only[ct]at hr;obtain⟨rfl,h3,h4⟩:=hr;obtain⟨vs,h5,h6⟩:=NF h3;simp only[fh];rw[h1.len]at h4;exact⟨⟨vs,h6,ak0 hI t r vs h1 h5⟩,aif hI ts rs b (aa+5) 5 h2 h4⟩
end
theorem ajo{P:Program}{α:Type}{enc:α->Value}(h1:∀x,oneCell (enc x)){E:TypeId}{w w':World}{β:Nat->Option cE}{I:Nat->Prop}{l:List α}{v:Value}(hlt:∀b,I b->b<w.heap.size)
 (hown:w'.ownsRow w.heap.size E 1 v l.length (l.map enc)):MD P (xt w β []) 1 (l.map λs=>[.sc (enc s)]) w' I v:=by
 rcases hown.2 with ⟨rfl,h0⟩ |⟨g,cap,cur,rfl,hg,hgb,hle,_,hcs,htk⟩
 ·exact .inl ⟨by rw[List.eq_nil_of_length_eq_zero h0];rfl,rfl⟩
 ·refine .inr ⟨g,cur,E,cap,0,0,by simp,⟨.inr hg,λk o hk=>by simp[Mg]at hk⟩,λhi=>absurd (hlt g hi) (by omega),hgb,by simpa using hle,by omega,?_,λ_=>rfl⟩;rw[tu];intro i x hx;simp only[aL,List.map_map,List.getElem?_map,eU]at hx;obtain⟨s,hs',rfl⟩:=hx;refine⟨rfl,?_⟩;have hi:i<l.length:=(dm.1 hs').1;have:=congrArg (λ q=>q[i]?) htk;simp only[List.getElem?_take,List.getElem?_map,hs',Option.map_some]at this;rw[aP (by omega)]at this;simp only[Function.comp,aC,map_nil,cP,VR,TR];exact⟨⟨_,by simpa using this,⟨rfl,h1 s⟩,h1 s⟩,trivial⟩
end Go.Gb
namespace Go.Proofs
open Go.RowKit Go.Maps
def Nd(n0:Nat)(W:World)(d:ByteArray×ET)(vs:List Value):Prop:=∃v0 v1 v2 v3 v4,vs=[.string d.1,v0,v1,v2,v3,v4]/\d.1.size<=maxLen/\kA n0 W d.2 [v0,v1,v2,v3,v4]
def Fk(n0:Nat)(W:World)(ds:List (ByteArray×ET))(sv:Value):Prop:=
 (ds=[]/\∃a cap,sv= .slice a 0 cap)\/∃b aa cap,sv= .slice (some ⟨b,aa,none⟩) ds.length cap/\b<n0/\∀j d,ds[j]? =some d->∃vs:List Value,(∀ k v,vs[k]? =some v->W.cell? ⟨b,aa+j*6+k,none⟩=some v)/\Nd n0 W d vs
theorem Fk.below{n0:Nat}{A B:World}{ds:List (ByteArray×ET)}{sv:Value}(hd:Fk n0 A ds sv)(h:Below n0 A B):Fk n0 B ds sv:=by
 refine hd.imp id ?_;rintro⟨b,aa,cap,rfl,hb,hr⟩;refine⟨b,aa,cap,rfl,hb,λj d hj=>?_⟩;obtain⟨vs,h1,v0,v1,v2,v3,v4,rfl,h2,h3⟩:=hr j d hj;exact⟨_,λk v hk=>(h.cell (p:=⟨b,aa+j*6+k,none⟩) hb).trans (h1 k v hk),v0,v1,v2,v3,v4,rfl,h2,h3.below' h⟩
def Pp(ds:List (ByteArray×ET))(s:List UInt8):Nat->Option Int
 | 0=>none
 |k+1=>if (ds.getD k (⟨#[]⟩,.mk 0 ⟨#[]⟩ [])).1.data.toList=s then some k else Pp ds s k
def iC(ds:List (ByteArray×ET))(l:List (List UInt8)):List Int:=l.filterMap λs=>Pp ds s ds.length
abbrev XW(l:List Int):List Value:=l.map (Value.int .i64)
def o6(ds:List (ByteArray×ET)):List (List Int):=ds.map λd=>iC ds (xJ d.2.names)
def q7(ds:List (ByteArray×ET)):Nat:=ds.foldr (λ d n=>1+d.1.size+d.2.wt+n) 0
theorem Vy:∀ds:List (ByteArray×ET),ds.length<=q7 ds
 |[]=>aQ _
 |d::ds=>by have:=Vy ds;simp only[q7,List.foldr_cons,bF]at this ⊢;omega
theorem Vz:∀{ds:List (ByteArray×ET)}{d:ByteArray×ET},d∈ds->d.1.size+d.2.wt<=q7 ds
 |x::ds,d,h=>by
  simp only[q7,List.foldr_cons];rcases aN.1 h with rfl |h
  ·omega
  ·have:=Vz h;simp only[q7]at this;omega
def anb(w:World)(uB:Nat)(sv:Value)(ds:List (ByteArray×ET))(TL TG TI:TypeId)(W:World):Prop:=
 ∃us:List Value,us.length=ds.length/\W.heap[uB]? =some (.cells us.toArray TL)/\W.heap[uB+1]? =some (.cells #[sv,.slice (some ⟨uB,0,none⟩) ds.length ds.length] TG)/\Below w.heap.size w W/\
  ∀(j:Nat)(v:Value),us[j]? =some v->∃d:ByteArray×ET,ds[j]? =some d/\W.ownsRow (uB+2) TI 1 v (iC ds (xJ d.2.names)).length (XW (iC ds (xJ d.2.names)))
end Go.Proofs
namespace Go.Gb
open Go.RowKit Go.Proofs
def aom(d:ByteArray×ET)(r:List Tree):Prop:=∃a b c e f,r=[.sc (.string d.1),a,b,c,e,f]/\d.1.size<=maxLen/\pC d.2 [a,b,c,e,f]
def kw:List (ByteArray×ET)->List (List Tree)->Prop
 |[],rows=>rows=[]
 |d::ds,rows=>∃r rs,rows=r::rs/\aom d r/\kw ds rs
theorem kw.len:∀{ts:List (ByteArray×ET)}{rows:List (List Tree)},kw ts rows->rows.length=ts.length
 |[],rows,h=>by simp only[kw]at h;subst h;rfl
 |t::ts,rows,h=>by
  simp only[kw]at h;obtain⟨r,rs,rfl,_,h⟩:=h;simp[h.len]
theorem anM{w:World}{I:Nat->Prop}{n0:Nat}(hI:∀b,I b->b<n0){d:ByteArray×ET}{r:List Tree}{vs:List Value}(h:aom d r)(hv:eK w I r vs):Nd n0 w d vs:=by
 obtain⟨a,b,c,e,f,rfl,hs,hr⟩:=h
 match vs,hv with
 |v::vs,hv=>
  simp only[eK,TR]at hv;obtain⟨⟨rfl,_⟩,h2⟩:=hv;have he:=ak0 hI d.2 _ vs hr h2;obtain⟨v0,v1,v2,v3,v4,rfl⟩:∃v0 v1 v2 v3 v4,vs=[v0,v1,v2,v3,v4]:=by
   cases hd:d.2 with
   |mk op s args=>
    rw[hd]at he;simp only[kA]at he;obtain⟨_,_,_,⟨e,_⟩,_⟩:=he;exact⟨_,_,_,_,_,e⟩
  exact⟨v0,v1,v2,v3,v4,rfl,hs,he⟩
theorem aeB{w:World}{I:Nat->Prop}{n0:Nat}(hI:∀b,I b->b<n0):∀(ds:List (ByteArray×ET))(rows:List (List Tree))(b aa sz:Nat),kw ds rows->ct w I rows b aa sz->
 ∀j d,ds[j]? =some d->∃vs:List Value,(∀ k v,vs[k]? =some v->w.cell? ⟨b,aa+j*6+k,none⟩=some v)/\Nd n0 w d vs
 |[],_,_,_,_,_,_,j,d,h=>by simp at h
 |t::ts,rows,b,aa,sz,h,hr,j,d,hj=>by
  simp only[kw]at h;obtain⟨r,rs,rfl,h1,h2⟩:=h;simp only[ct]at hr;obtain⟨rfl,h3,h4⟩:=hr;obtain⟨vs,h5,h6⟩:=NF h3;have h7:r.length=6:=by obtain⟨_,_,_,_,_,rfl,_⟩:=h1;rfl
  cases j with
  |zero=>
   simp only[List.getElem?_cons_zero,aA]at hj;subst hj;exact⟨vs,λk v hk=>by simpa using h6 k v hk,anM hI h1 h5⟩
  |succ j=>
   rw[h7]at h4;obtain⟨vs,g1,g2⟩:=aeB hI ts rs b (aa+6) 6 h2 h4 j d (by simpa using hj);exact⟨vs,λk v hk=>by rw[show aa+(j+1)*6+k=aa+6+j*6+k by omega];exact g1 k v hk,g2⟩
theorem XY{w:World}{I:Nat->Prop}{g:Nat}:∀(l:List Int)(aa:Nat),(∀ j v,(XW l)[j]? =some v->w.cell? ⟨g,aa+j,none⟩=some v)->ct w I (l.map λi=>[.sc (.int .i64 i)]) g aa 1
 |[],_,_=>by simp[ct]
 |i::l,aa,h=>by
  simp only[aC,ct,dk,TR,bF,length_nil];refine⟨trivial,⟨⟨_,by simpa using h 0 _ rfl,rfl,trivial⟩,trivial⟩,XY l (aa+1) λj v hj=>?_⟩;rw[show aa+1+j=aa+(j+1)by omega];exact h (j+1) v (by simpa using hj)
theorem XZ{w:World}{I:Nat->Prop}{b:Nat}:∀(us:List Value)(L:List (List Int))(aa:Nat),us.length=L.length->(∀ (j:Nat) (v:Value),us[j]? =some v->w.cell? ⟨b,aa+j,none⟩=some v)->
 (∀ (j:Nat) (v:Value) (l:List Int),us[j]? =some v->L[j]? =some l->TR w I (.sl (l.map λi=>[.sc (.int .i64 i)])) v)->ct w I (L.map λl=>[.sl (l.map λi=>[.sc (.int .i64 i)])]) b aa 1
 |us,[],_,_,_,_=>by simp[ct]
 |[],_::_,_,h,_,_=>by simp at h
 |u::us,l::L,aa,hl,h1,h2=>by
  simp only[aC,ct,dk,bF,length_nil];refine⟨trivial,⟨⟨u,by simpa using h1 0 u rfl,h2 0 u l rfl rfl⟩,trivial⟩,XZ us L (aa+1) (by simpa using hl) (λ j v hj=>?_) λj v l' hj hl'=>h2 (j+1) v l' (by simpa using hj) (by simpa using hl')⟩;rw[show aa+1+j=aa+(j+1)by omega];exact h1 (j+1) v (by simpa using hj)
theorem acG{P:Program}{f:FuncId}{TL TG TI:TypeId}(hcall:iO P f){ds:List (ByteArray×ET)}{rows:List (List Tree)}(hr:kw ds rows)
 (h:∀(sv:Value)(w:World),Fk w.heap.size w ds sv->Calls P f #[sv] w λe W'=>∃uB,e= .returned (.pointer (some ⟨uB+1,0,none⟩))/\w.heap.size<uB/\anb w uB sv ds TL TG TI W'):
 CE P f [.t (.sl rows)] [] [(1000,⟨2,[[.t (.sl rows),.t (.sl ((o6 ds).map λl=>[.sl (l.map λi=>[.sc (.int .i64 i)])]))]]⟩)] (.ptr 1000 0 0):=by
 refine⟨hcall,λw β I vs hβ hM hvs=>?_⟩;obtain⟨vs⟩:=vs
 match vs,hvs with
 |[sv],hvs=>
  have hv:TR w I (.sl rows) sv:=by have:=hvs.1;simpa only[VR]using this
  have hlen:=hr.len;have hS:Fk w.heap.size w ds sv:=by
   simp only[TR]at hv;rcases hv with ⟨rfl,a,cap,rfl,_⟩ |⟨b,aa,cap,sz,rfl,_,hb,hT⟩
   ·exact .inl ⟨List.eq_nil_of_length_eq_zero hlen.symm,_,_,rfl⟩
   ·exact .inr ⟨b,aa,cap,by rw[hlen],hM.lt b hb,aeB hM.lt ds rows b aa sz hr hT⟩
  refine(h sv w hS).mono ?_;rintro e w' ⟨uB,rfl,huB,us,sn,hU,hG,hbel,ut⟩;have C3:uB+1<w'.heap.size:=(Array.getElem?_eq_some_iff.1 hG).1;obtain⟨I',hI'⟩:∃I':Nat->Prop,I'=λb=>I b\/(w.heap.size<=b/\b<w'.heap.size/\b≠uB+1):=⟨_,rfl⟩;have Q4:∀b,I b->I' b:=λb hb=>by rw[hI'];exact .inl hb
  obtain⟨hs,hM'⟩:=hM.below hbel (I':=I') Q4 (λ b hb=>by
   rw[hI']at hb;rcases hb with hb |hb
   ·exact Nat.lt_of_lt_of_le (hM.lt b hb) hbel.size
   ·exact hb.2.1) (λ b k o B h1 h2 h3 h4=>by simp[te]at h2) (λ b hb=>by
   rw[hI']at hb;rcases hb with hb |hb
   ·exact hM.up b hb
   ·exact .inr (.inr hb.1))
  have Pu:TR w' I' (.sl rows) sv:=TR.mono hs Q4 _ _ hv;have hone:oneCell sv:=by
   simp only[TR]at hv;rcases hv with ⟨_,a,cap,rfl,_⟩ |⟨b,aa,cap,sz,rfl,_⟩<;>trivial
  have huv:TR w' I' (.sl ((o6 ds).map λl=>[.sl (l.map λi=>[.sc (.int .i64 i)])])) (.slice (some ⟨uB,0,none⟩) ds.length ds.length):=by
   simp only[TR];refine .inr ⟨uB,0,ds.length,1,by simp[o6],by simp[o6],by rw[hI'];exact .inr ⟨by omega,by omega,by omega⟩,?_⟩;refine XZ us (o6 ds) 0 (by simp[o6,sn]) (λ j v hj=>by simp[World.cell?,hU,hj]) λj v l hj hl=>?_;obtain⟨d,hd,ho⟩:=ut j v hj;have hle:l=iC ds (xJ d.2.names):=(by simp[o6,hd]at hl;exact hl.symm);subst hle;simp only[TR];rcases ho.2 with ⟨rfl,h0⟩ |⟨g,cap,cur,rfl,hg,hgb,hle,_,hcs,htk⟩
   ·exact .inl ⟨by rw[List.eq_nil_of_length_eq_zero h0];rfl,_,_,rfl,λ_=>rfl⟩
   ·refine .inr ⟨g,0,cap,1,by simp,by simpa using hle,by rw[hI'];exact .inr ⟨by omega,(Array.getElem?_eq_some_iff.1 hgb).1,by omega⟩,XY _ 0 λi x hx=>?_⟩;rw[<- htk,List.getElem?_take]at hx;split at hx
    ·simpa[World.cell?,hgb]using hx
    ·cases hx
  have hf:MD P (λ b=>w.heap.size<=b) 2 [[.sl rows,.sl ((o6 ds).map λl=>[.sl (l.map λi=>[.sc (.int .i64 i)])])]] w' I' (.slice (some ⟨uB+1,0,none⟩) 1 1):=by
   refine .inr ⟨uB+1,_,TG,1,0,0,rfl,by show w.heap.size<=uB+1;omega,λhb=>?_,hG,aQ _,by simp,?_,λ_=>rfl⟩
   ·rw[hI']at hb;rcases hb with hb |hb
    ·exact absurd (hM.lt _ hb) (by omega)
    ·exact hb.2.2 rfl
   ·rw[tu];intro i x hx;cases i with
    |succ i=>simp[aL]at hx
    |zero=>
     simp only[aL,aC,map_nil,List.getElem?_cons_zero,aA]at hx;subst hx;refine⟨rfl,?_⟩;simp only[cP,VR];exact⟨⟨_,rfl,Pu,hone⟩,⟨_,rfl,huv,trivial⟩,trivial⟩
  obtain⟨β',hS',hM2,hV⟩:=hM'.fresh (i:=1000) (hβ 1000 (by simp)) (F:=λb=>w.heap.size<=b) (λ k o b h1 h2 h3=>by simp[te]at h1) (λ b h=> .inr h) hf;refine⟨_,β',I',rfl,?_,Q4,?_⟩
  ·have e:pm [(1000,(⟨2,[[.t (.sl rows),.t (.sl ((o6 ds).map λl=>[.sl (l.map λi=>[.sc (.int .i64 i)])]))]]⟩:aU))]=bW (te []) [(1000,some ⟨2,aL [[.sl rows,.sl ((o6 ds).map λl=>[.sl (l.map λi=>[.sc (.int .i64 i)])])]]⟩)]:=by
    funext k;simp only[pm,bW,te];by_cases h1:k=1000
    ·subst h1;simp[aL]
    ·rw[aO h1,aO (λ e=>h1 e.symm)];rfl
   rw[e];exact hM2
  ·simp only[VR]at hV ⊢;rcases hV with ⟨_,h,_⟩ |⟨b,sz,n,cap,o,hb,h,_,_,hc⟩
   ·cases h
   ·injection h with h1 h2 h3;injection h1 with h1;injection h1 with h1 h4;subst h1 h3;exact⟨_,sz,n,hb,by rw[<- hc (by omega),<- h4]⟩
end Go.Gb
namespace Go.Gb
open Go.RowKit Go.Proofs
theorem agS{P:Program}{f:FuncId}{E:TypeId}(hcall:iO P f){x:Int}{c:Nat}
 (h:∀(a:Addr)(cap:Nat)(w:World),w.cell? a=some (.int .i64 x)->Calls P f #[.slice (some a) 1 cap,.int .i64 c] w λe W'=>∃v,e= .returned v/\W'.ownsRow w.heap.size E 1 v c (List.replicate c (.int .i64 x))/\Below w.heap.size w W'):
 rN P f [.t (.sl [[.sc (.int .i64 x)]]),.t (.sc (.int .i64 (c:Int)))] [] [] (.one (.fresh 1 ((List.replicate c x).map λi=>[.sc (.int .i64 i)]))):=by
 refine⟨hcall,λw β I vs hβ hM hvs=>?_⟩;obtain⟨vs⟩:=vs
 match vs,hvs with
 |[a,b],hvs=>
  simp only[bj,VR,TR,ct,dk]at hvs;obtain⟨h1,⟨rfl,_⟩,_⟩:=hvs;rcases h1 with ⟨h0,_⟩ |⟨b,aa,cap,sz,rfl,_,hb,_,⟨⟨u,hu,rfl,_⟩,_⟩,_⟩
  ·cases h0
  refine(h _ cap w hu).mono ?_;rintro e w' ⟨v,rfl,hown,hbel⟩;obtain⟨hs,hM'⟩:=hM.below hbel (I':=I) (λ _ h=>h) (λ b hb=>Nat.lt_of_lt_of_le (hM.lt b hb) hbel.size) (λ b k o B h1 h2 h3 h4=>(hM.ownB k o B b h2 h3 h4).1 h1) hM.up;refine⟨v,I,rfl,hM',λ_ h=>h,?_⟩;have hown':w'.ownsRow w.heap.size E 1 v (List.replicate c x).length ((List.replicate c x).map (Value.int .i64)):=by simpa using hown
  exact ajo (enc:=Value.int .i64) (λ _=>trivial) hM.lt hown'
end Go.Gb
namespace Go.Gb
open Go.RowKit Go.Proofs
theorem acH{P:Program}{f:FuncId}{g:Nat}(hg:S0 g=true)(hcall:iO P f){s b:ByteArray}
 (h:∀(m:Int)(w:World),w.cell? ⟨g,0,none⟩=some (.int .i64 m)->Calls P f #[.string s,.string b] w λe w'=>e= .returned (.bool (Lib.contains s.data.toList b.data.toList))/\w'=w):
 rN P f [.t (.sc (.string s)),.t (.sc (.string b))] [] [] (.one (.d (.s (.sc (.bool (Lib.contains s.data.toList b.data.toList)))))):=by
 refine⟨hcall,λw β I vs hβ hM hvs=>?_⟩;obtain⟨vs⟩:=vs
 match vs,hvs with
 |[a,c],hvs=>
  simp only[bj,VR,TR]at hvs;obtain⟨⟨rfl,_⟩,⟨rfl,_⟩,_⟩:=hvs;obtain⟨_,m,hm⟩:=hM.vars.2 g hg;refine(h m w hm).mono ?_;rintro e w' ⟨rfl,rfl⟩;obtain⟨hs,hM'⟩:=hM.below (Below.refl _ _) (I':=I) (λ _ h=>h) (λ b hb=>hM.lt b hb) (λ b k o B h1 h2 h3 h4=>(hM.ownB k o B b h2 h3 h4).1 h1) hM.up;refine⟨_,I,rfl,hM',λ_ h=>h,?_⟩;exact⟨rfl,trivial⟩
end Go.Gb
namespace Go.Gb
open Go.RowKit
def Kp(n0 B0:Nat)(W W':World):Prop:=Below n0 W W'/\∀b,B0<=b->b<W.heap.size->W'.heap[b]? =W.heap[b]?
theorem Kp.refl(n0 B0:Nat)(W:World):Kp n0 B0 W W:=⟨Below.refl _ _,λ_ _ _=>rfl⟩
theorem Kp.trans{n0 B0:Nat}{X Y Z:World}(h:Kp n0 B0 X Y)(k:Kp n0 B0 Y Z):Kp n0 B0 X Z:=
 ⟨h.1.trans k.1,λb hb hl=>(k.2 b hb (Nat.lt_of_lt_of_le hl h.1.size)).trans (h.2 b hb hl)⟩
theorem Kp.mono{n0 n1 B0 B1:Nat}{X Y:World}(h:Kp n0 B0 X Y)(hn:n1<=n0)(hb:B0<=B1):Kp n1 B1 X Y:=
 ⟨h.1.mono hn,λb h1 h2=>h.2 b (Nat.le_trans hb h1) h2⟩
theorem Kp.alloc{n0 B0:Nat}{X Y:World}(h:Kp n0 B0 X Y)(hn:n0<=Y.heap.size)(o:Obj):Kp n0 B0 X (Y.alloc o):=
 h.trans ⟨(Below.refl _ Y).alloc hn o,λb _ hl=>Below.heap_alloc Y o b hl⟩
theorem Kp.put{n0 B0:Nat}(W:World)(l:Nat)(o o':Obj)(h:W.heap[l]? =some o)(h1:n0<=l)(h2:l<B0):Kp n0 B0 W (W.putObj l o'):=
 ⟨(Below.refl n0 W).grown (grownBy_putObj' W l o') (by have:=(Array.getElem?_eq_some_iff.1 h).1;omega) (λ k e=>by cases e;omega),λb hb _=>World.putObj_heap_other (by omega)⟩
def uC{α:Type}(B0:Nat)(J:α->World->Prop):Prop:=∀s A B,J s A->Below B0 A B->J s B
theorem uC.and{α:Type}{B0:Nat}{I J:α->World->Prop}(h:uC B0 I)(k:uC B0 J):uC B0 λs W=>I s W/\J s W:=λs A B hs hb=>⟨h s A B hs.1 hb,k s A B hs.2 hb⟩
theorem uC.mono{α:Type}{B0 B1:Nat}{J:α->World->Prop}(h:uC B0 J)(hb:B0<=B1):uC B1 J:=λs A B hs hk=>h s A B hs (hk.mono hb)
theorem anN{α:Type}{n0 B0 B1:Nat}{w:World}(hw:w.heap.size<=B1)(hn:n0<=B1):uC B1 (λ (_:α) W=>Kp n0 B0 w W):=λ_ A B hs hb=>
 ⟨hs.1.trans (hb.mono hn),λb h1 h2=>(hb.block b (by omega)).trans (hs.2 b h1 h2)⟩
def aon{α:Type}(P:Program)(g:Nat)(lb:Array Value)(encs:α->Array Value)(n0:Nat)(ys:List α)(N:World->Prop)(w:World):Prop:=
 ∀(n l B0 L:Nat)(J:List α->World->Prop)(W:World),Below w.heap.size w W->n0<=B0->B0<=W.heap.size->uC B0 J->(∀ s W,J s W->N W)->
  (∀ m pre x W1,x∈ys->pre.length<L->J pre W1->B0<=W1.heap.size->YieldAt Fence.wide m P l (encs x) W1 λe W'=>e= .returned (.bool true)/\J (pre++[x]) W'/\Kp n0 B0 W1 W')->∀pre,pre.length+ys.length<=L->J pre W->
  CallsIn Fence.wide n P g (#[.func (.yield l) #[] #[]]++lb) W λe W'=>(∃ v,e= .returned v)/\J (pre++ys) W'/\Kp n0 B0 W W'
variable {n:Nat} {P:Program}
theorem Fx{α:Type}{g:Operand}{ps:Array Tmp}{assign body:Code}{Q:Exit->Act->World->Prop}{a:Act}{w:World}
 {gf:Nat} {lb:Array Value} (hg:a.eval g= .func (.func gf) #[] lb) (eg:∀args w,(callFunc gf args).run P w= .ok (.enter gf args) w)
 {encs:α->Array Value} {n0:Nat} {ys:List α} {N:World->Prop} {w0:World} (hseq:aon P gf lb encs n0 ys N w0) (hb0:Below w0.heap.size w0 w) (hn0:n0<=w.heap.size) (hps:∀x,(encs x).size=ps.size)
 (I:List α->World->Prop) (hI:uC w.heap.size I) (hN:∀s W,I s W->N W) (h0:I [] w) (a₁:α->Act)
 (hassign:∀(l:Nat)(x:α)(W:World)(K:Act->World->Prop),K (a₁ x) W->
  assign.wpIn (Fence.wide.inRound l) (n -1 -1) P (Exit.then K (λ _ _ _=>False)) { tmps:=(ps.zip (encs x)).foldl (λ t (p,v)=>t.setIfInBounds p v) a.tmps,defers:=[] } W)
 (hbody:∀(l:Nat)(pre:List α)(x:α)(W:World),x∈ys->pre.length<ys.length->I pre W->w.heap.size+2<=W.heap.size->body.wpIn (Fence.wide.inRound l) (n -1 -1) P (λ e _ W'=>e= .normal/\I (pre++[x]) W'/\Kp n0 w.heap.size W W') (a₁ x) W)
 (hdone:∀(D:Nat)(W:World),w.heap.size<=D->I ys W->Below n0 w W->W.heap[D]? =some (.deferred (some []))->Q .normal { a with defers:={ target:= .collected D,args:=#[] }::a.defers } W):
 (Code.rangeFunc g ps assign body).wpIn Fence.wide n P Q a w:=by
 refine wpIn_rangeFunc ?_;intro fn hfn;show _;obtain⟨rec,hrec⟩:∃rec:LoopState->Option Code->Loop,rec=λst pe=>{ state:=st,pending:=pe,fn,tmps:=a.tmps,params:=ps,assign,body,defers:=w.heap.size }:=⟨_,rfl⟩;obtain⟨W1,hW1⟩:∃W1,(w.alloc (.deferred (some []))).alloc (.loop (rec .ready none))=W1:=⟨_,rfl⟩;have hL1:W1.heap[w.heap.size+1]? =some (.loop (rec .ready none)):=by rw[<- hW1];have:=World.alloc_heap_new (w.alloc (.deferred (some []))) (.loop (rec .ready none));rwa [World.size_alloc]at this
 have hK1:W1.heap[w.heap.size]? =some (.deferred (some [])):=by rw[<- hW1];exact(Below.heap_alloc _ _ _ (by simp)).trans (World.alloc_heap_new w _)
 have hs1:W1.heap.size=w.heap.size+2:=by rw[<- hW1];simp
 have hb1:Below w.heap.size w W1:=by rw[<- hW1];exact((Below.refl _ w).alloc (aQ _) _).alloc (by simp) _
 have hI1:I [] W1:=hI _ _ _ h0 hb1
 refine⟨w.heap.size+1,[{ target:= .collected w.heap.size,args:=#[] }],W1,{ target:= .fn (.func gf) lb,args:=#[.func (.yield (w.heap.size+1)) #[] #[]] },W1,gf,
  #[.func (.yield (w.heap.size+1)) #[] #[]]++lb,W1,?_,?_,?_,?_,λh=>by simp[Fence.wide]at h,?_⟩
 ·rw[<- hW1,hrec];exact run_enterLoop_outer _ _ _ _ _
 ·simp only[resolve,hg];simp[go_sem]
 ·intro f' hf';trivial
 ·simp[invoke,go_sem,eg]
 ·refine(hseq (n -1) (w.heap.size+1) (w.heap.size+2) ys.length (λ pre W=>I pre W/\W.heap[w.heap.size+1]? =some (.loop (rec .ready none))/\W.heap[w.heap.size]? =some (.deferred (some []))) W1
   (hb0.trans (hb1.mono hb0.size)) (by omega) (by omega) (λ s A B hs hb=>⟨hI s A B hs.1 (hb.mono (by omega)),(hb.block _ (by omega)).trans hs.2.1,(hb.block _ (by omega)).trans hs.2.2⟩) (λ s W h=>hN s W h.1) ?_ [] (by simp) ⟨hI1,hL1,hK1⟩).mono ?_
  ·rintro m pre x W hxy hpl ⟨hi,hl,hk⟩ hsz;have hlt:w.heap.size+1<W.heap.size:=(Array.getElem?_eq_some_iff.1 hl).1;have hy:=run_yield (P:=P) (args:=encs x) hl (by rw[hrec];exact hps x);rw[hrec]at hy
   suffices h:YieldAt Fence.wide (n -1 -1) P (w.heap.size+1) (encs x) W λe W'=>e= .returned (.bool true)/\(I (pre++[x]) W'/\W'.heap[w.heap.size+1]? =some (.loop (rec .ready none))/\W'.heap[w.heap.size]? =some (.deferred (some [])))/\Kp n0 (w.heap.size+2) W W' by
    obtain⟨f1,t1,c1,c2,h1,h2⟩:=h;exact⟨f1,t1,c1,c2,h1,h2.1,λc cs _=>h2.2 c cs (λ d h=>by simp[Fence.wide]at h)⟩
   refine⟨fn,_,assign,body,hy,roundIn_of_wpIn hfn (hassign _ x W _ ⟨_,run_beginRound hl (by rw[hrec]),?_⟩)⟩;have hl2:(W.putObj (w.heap.size+1) (.loop { rec .ready none with state:= .busy })).heap[w.heap.size+1]? =some (.loop { rec .ready none with state:= .busy }):=World.putObj_heap_same hlt;have hk2:(W.putObj (w.heap.size+1) (.loop { rec .ready none with state:= .busy })).heap[w.heap.size]? =some (.deferred (some [])):=(World.putObj_heap_other (by omega)).trans hk;have hw2:Kp n0 (w.heap.size+2) W (W.putObj (w.heap.size+1) (.loop { rec .ready none with state:= .busy })):=Kp.put _ _ _ _ hl (by omega) (by omega);have y4:∀o,(W.putObj (w.heap.size+1) o).heap.size=W.heap.size:=λo=>(by simp[World.putObj]);have hbw:Below w.heap.size W (W.putObj (w.heap.size+1) (.loop { rec .ready none with state:= .busy })):=(Kp.put (n0:=w.heap.size) (B0:=w.heap.size+2) _ _ _ _ hl (by omega) (by omega)).1;refine wpIn_mono (hbody _ pre x _ hxy hpl (hI _ _ _ hi hbw) (by rw[y4];omega)) ?_;rintro e a3 W3 ⟨rfl,hi3,hk3⟩;have hl3:=(hk3.2 (w.heap.size+1) (by omega) (by rw[y4];omega)).trans hl2;have hd3:=(hk3.2 w.heap.size (aQ _) (by rw[y4];omega)).trans hk2;have hr:=run_endRound (P:=P) none hl3;rw[hrec]at hr;have zp:=hl3;rw[hrec]at zp;refine⟨_,_,hr,rfl,⟨hI _ _ _ hi3 (Kp.put (n0:=w.heap.size) (B0:=w.heap.size+2) _ _ _ _ zp (by omega) (by omega)).1,?_,(World.putObj_heap_other (by omega)).trans hd3⟩,?_⟩
   ·rw[hrec];exact World.putObj_heap_same (Array.getElem?_eq_some_iff.1 hl3).1
   ·exact hw2.trans ((hk3.mono (aQ _) (by omega)).trans (Kp.put _ _ _ _ zp (by omega) (by omega)))
  ·rintro e W2 ⟨⟨v,rfl⟩,⟨hi,hl,hk⟩,hkp⟩;rw[bO]at hi;have he:=run_endLoop (P:=P) hl (by rw[hrec];simp);rw[hrec]at he;refine⟨none,_,he,hdone _ _ (aQ _) (hI _ _ _ hi ?_) ?_ ((World.putObj_heap_other (by omega)).trans hk)⟩
   ·exact(Kp.put (n0:=w.heap.size) (B0:=w.heap.size+2) W2 _ _ _ hl (by omega) (by omega)).1
   ·exact((hb1.mono hn0).trans hkp.1).trans (Kp.put (n0:=n0) (B0:=w.heap.size+2) W2 _ _ _ hl (by omega) (by omega)).1
end Go.Gb
namespace Go.Proofs
open Go.RowKit Go.Maps Go.Sort Go.Shelf
def Tryz.keys204_ren:Go.Shelf.Ren:=⟨λ | 7=>204 | 10=>224 |n=>n,λ | 23=>164 | 26=>9 | 3=>4 | 28=>282 | 0=>0 | 27=>281 | 33=>134 | 4=>4 |n=>n,λ |n=>n⟩
theorem Tryz.keys204:Go.Proofs.SlLaysZ.n7 Tryz.prog Tryz.keys204_ren:={
 mixed:=by kernel_rfl
 f7:=⟨Tryz.f204.name,by decide,Tryz.func204.trans (congrArg some (by kernel_rfl))⟩
 f10:=⟨Tryz.f224.name,by decide,Tryz.func224.trans (congrArg some (by kernel_rfl))⟩
 t0:=Tryz.underlying0
 a0:=Tryz.isAgg0
 z0:=Tryz.sizeOf0
 v0:=Tryz.zeroValue0
 t4:=Tryz.underlying4
 a4:=Tryz.isAgg4
 z4:=Tryz.sizeOf4
 v4:=Tryz.zeroValue4
 t23:=Tryz.underlying164
 a23:=Tryz.isAgg164
 z23:=Tryz.sizeOf164
 v23:=Tryz.zeroValue164
 t26:=Tryz.underlying9
 a26:=Tryz.isAgg9
 z26:=Tryz.sizeOf9
 v26:=Tryz.zeroValue9
 t27:=Tryz.underlying281
 a27:=Tryz.isAgg281
 z27:=Tryz.sizeOf281
 v27:=Tryz.zeroValue281
 t28:=Tryz.underlying282
 a28:=Tryz.isAgg282
 z28:=Tryz.sizeOf282
 v28:=Tryz.zeroValue282
 t33:=Tryz.underlying134
 a33:=Tryz.isAgg134
 z33:=Tryz.sizeOf134
 v33:=Tryz.zeroValue134 }
def Tryz.sorted203_ren:Go.Shelf.Ren:=⟨λ | 6=>203 | 8=>222 | 9=>223 | 11=>240 | 13=>142 | 12=>241 | 23=>180 | 24=>181 | 14=>247 | 15=>248 | 16=>249 | 17=>250 | 18=>251 | 19=>252 | 20=>253 | 21=>254 | 22=>255 | 25=>259 | 26=>209 | 27=>210 | 28=>260 | 29=>261 | 30=>227 | 31=>262 |n=>n,λ | 26=>9 | 28=>282 | 24=>41 | 0=>0 | 3=>3 | 37=>218 | 48=>261 | 50=>263 | 4=>4 | 40=>255 | 39=>254 | 45=>206 | 5=>5 | 9=>9 | 51=>288 | 55=>292 | 57=>302 | 58=>191 | 33=>134 |n=>n,λ |n=>n⟩
theorem Tryz.sorted203:Go.Proofs.SlLaysZ.n6 Tryz.prog Tryz.sorted203_ren:={
 mixed:=by kernel_rfl
 f6:=⟨Tryz.f203.name,by decide,Tryz.func203.trans (congrArg some (by kernel_rfl))⟩
 f8:=⟨Tryz.f222.name,by decide,Tryz.func222.trans (congrArg some (by kernel_rfl))⟩
 f11:=⟨Tryz.f240.name,by decide,Tryz.func240.trans (congrArg some (by kernel_rfl))⟩
 t0:=Tryz.underlying0
 a0:=Tryz.isAgg0
 z0:=Tryz.sizeOf0
 v0:=Tryz.zeroValue0
 t24:=Tryz.underlying41
 a24:=Tryz.isAgg41
 z24:=Tryz.sizeOf41
 v24:=Tryz.zeroValue41
 t26:=Tryz.underlying9
 a26:=Tryz.isAgg9
 z26:=Tryz.sizeOf9
 v26:=Tryz.zeroValue9
 t28:=Tryz.underlying282
 a28:=Tryz.isAgg282
 z28:=Tryz.sizeOf282
 v28:=Tryz.zeroValue282
 i26:=by kernel_rfl }
def Tryz.sort223_ren:Go.Shelf.Ren:=⟨λ | 6=>223 | 8=>142 | 9=>241 | 19=>180 | 20=>181 | 21=>247 | 22=>248 | 23=>249 | 24=>250 | 25=>251 | 26=>252 | 27=>253 | 28=>254 | 29=>255 | 36=>259 | 31=>209 | 32=>210 | 37=>260 | 38=>261 | 39=>227 | 41=>262 |n=>n,λ | 27=>41 | 29=>9 | 3=>3 | 32=>218 | 26=>41 | 0=>0 | 44=>261 | 46=>263 | 4=>4 | 36=>255 | 35=>254 | 41=>206 | 5=>5 | 9=>9 | 53=>288 | 57=>292 | 63=>302 | 64=>191 |n=>n,λ |n=>n⟩
theorem Tryz.sort223:Go.Proofs.SlLaysM.n6 Tryz.prog Tryz.sort223_ren:={
 mixed:=by kernel_rfl
 f6:=⟨Tryz.f223.name,by decide,Tryz.func223.trans (congrArg some (by kernel_rfl))⟩
 f8:=Tryz.func142.trans (congrArg some (by kernel_rfl))
 f9:=⟨Tryz.f241.name,by decide,Tryz.func241.trans (congrArg some (by kernel_rfl))⟩
 f19:=Tryz.func180.trans (congrArg some (by kernel_rfl))
 f20:=Tryz.func181.trans (congrArg some (by kernel_rfl))
 f21:=⟨Tryz.f247.name,by decide,Tryz.func247.trans (congrArg some (by kernel_rfl))⟩
 f22:=⟨Tryz.f248.name,by decide,Tryz.func248.trans (congrArg some (by kernel_rfl))⟩
 f23:=⟨Tryz.f249.name,by decide,Tryz.func249.trans (congrArg some (by kernel_rfl))⟩
 f24:=⟨Tryz.f250.name,by decide,Tryz.func250.trans (congrArg some (by kernel_rfl))⟩
 f25:=⟨Tryz.f251.name,by decide,Tryz.func251.trans (congrArg some (by kernel_rfl))⟩
 f26:=⟨Tryz.f252.name,by decide,Tryz.func252.trans (congrArg some (by kernel_rfl))⟩
 f27:=⟨Tryz.f253.name,by decide,Tryz.func253.trans (congrArg some (by kernel_rfl))⟩
 f28:=⟨Tryz.f254.name,by decide,Tryz.func254.trans (congrArg some (by kernel_rfl))⟩
 f29:=⟨Tryz.f255.name,by decide,Tryz.func255.trans (congrArg some (by kernel_rfl))⟩
 f31:=Tryz.func209.trans (congrArg some (by kernel_rfl))
 f32:=Tryz.func210.trans (congrArg some (by kernel_rfl))
 f36:=⟨Tryz.f259.name,by decide,Tryz.func259.trans (congrArg some (by kernel_rfl))⟩
 f37:=⟨Tryz.f260.name,by decide,Tryz.func260.trans (congrArg some (by kernel_rfl))⟩
 f38:=⟨Tryz.f261.name,by decide,Tryz.func261.trans (congrArg some (by kernel_rfl))⟩
 f39:=⟨Tryz.f227.name,by decide,Tryz.func227.trans (congrArg some (by kernel_rfl))⟩
 f41:=⟨Tryz.f262.name,by decide,Tryz.func262.trans (congrArg some (by kernel_rfl))⟩
 t0:=Tryz.underlying0
 a0:=Tryz.isAgg0
 z0:=Tryz.sizeOf0
 v0:=Tryz.zeroValue0
 t3:=Tryz.underlying3
 a3:=Tryz.isAgg3
 z3:=Tryz.sizeOf3
 v3:=Tryz.zeroValue3
 t4:=Tryz.underlying4
 a4:=Tryz.isAgg4
 z4:=Tryz.sizeOf4
 v4:=Tryz.zeroValue4
 t5:=Tryz.underlying5
 a5:=Tryz.isAgg5
 z5:=Tryz.sizeOf5
 v5:=Tryz.zeroValue5
 t9:=Tryz.underlying9
 a9:=Tryz.isAgg9
 z9:=Tryz.sizeOf9
 v9:=Tryz.zeroValue9
 t26:=Tryz.underlying41
 a26:=Tryz.isAgg41
 z26:=Tryz.sizeOf41
 v26:=Tryz.zeroValue41
 t27:=Tryz.underlying41
 a27:=Tryz.isAgg41
 z27:=Tryz.sizeOf41
 v27:=Tryz.zeroValue41
 t29:=Tryz.underlying9
 a29:=Tryz.isAgg9
 z29:=Tryz.sizeOf9
 v29:=Tryz.zeroValue9
 t32:=Tryz.underlying218
 a32:=Tryz.isAgg218
 z32:=Tryz.sizeOf218
 v32:=Tryz.zeroValue218
 t35:=Tryz.underlying254
 a35:=Tryz.isAgg254
 z35:=Tryz.sizeOf254
 v35:=Tryz.zeroValue254
 t36:=Tryz.underlying255
 a36:=Tryz.isAgg255
 z36:=Tryz.sizeOf255
 v36:=Tryz.zeroValue255
 t41:=Tryz.underlying206
 a41:=Tryz.isAgg206
 z41:=Tryz.sizeOf206
 v41:=Tryz.zeroValue206
 t44:=Tryz.underlying261
 a44:=Tryz.isAgg261
 z44:=Tryz.sizeOf261
 v44:=Tryz.zeroValue261
 t46:=Tryz.underlying263
 a46:=Tryz.isAgg263
 z46:=Tryz.sizeOf263
 v46:=Tryz.zeroValue263
 t53:=Tryz.underlying288
 a53:=Tryz.isAgg288
 z53:=Tryz.sizeOf288
 v53:=Tryz.zeroValue288
 t57:=Tryz.underlying292
 a57:=Tryz.isAgg292
 z57:=Tryz.sizeOf292
 v57:=Tryz.zeroValue292
 t63:=Tryz.underlying302
 a63:=Tryz.isAgg302
 z63:=Tryz.sizeOf302
 v63:=Tryz.zeroValue302
 t64:=Tryz.underlying191
 a64:=Tryz.isAgg191
 z64:=Tryz.sizeOf191
 v64:=Tryz.zeroValue191 }
theorem Tryz.sorts203(m:Nat):AnyZ.SortsIn Tryz.prog Tryz.sorted203_ren Fence.wide m:=
 ⟨λ blk aa cap ss W hH hblk hsz=>callsIn_wide.2 (AnyM.slices_Sort_string Tryz.sort223 blk aa cap ss W hH hblk hsz),
  λp cap W=>callsIn_wide.2 (AnyM.slices_Sort_string_none Tryz.sort223 p cap W)⟩
theorem Tryz.maps_Keys_204(mb:Option Nat)(W:World):CallsIn Fence.wide 5 Tryz.prog 204 #[.map mb] W λe w'=>e= .returned (.func (.func 224) #[] #[.pointer (some ⟨W.heap.size,0,none⟩)])/\w'=W.alloc (.cells #[.map mb] 164):=
 AnyZ.keys_in Tryz.keys204 Fence.wide 5 trivial rfl mb W
set_option maxHeartbeats 1000000 in
theorem Tryz.slices_Sorted_keys_203_204{H:Type}(b nn:Nat)(D0:DataW H)(R:Value->Option (DataW H×List MemPlace))(w:World)(hown:w.ownsMap Tryz.prog 9 R b nn D0)(hmax:Maps.size D0<=maxLen)(hbytes:Maps.size D0*16<=140737488355328):
 CallsIn Fence.wide 5 Tryz.prog 203 #[.func (.func 224) #[] #[.pointer (some ⟨w.heap.size,0,none⟩)]] (w.alloc (.cells #[.map (some b)] 164)) λe w'=>∃(v:Value)(ss:List (List UInt8)),e= .returned v/\ss.Perm (strKeys D0)/\
  w'.ownsRow (w.alloc (.cells #[.map (some b)] 164)).heap.size 9 1 v ss.length ((ss.mergeSort (λ x y=>decide (x<=y))).map encStr)/\(v= .slice none 0 0↔ss=[])/\Below (w.alloc (.cells #[.map (some b)] 164)).heap.size (w.alloc (.cells #[.map (some b)] 164)) w':=by
 have hbl:=hown.lt;have hseq:SeqGives Fence.wide 2 Tryz.prog 224 #[.pointer (some ⟨w.heap.size,0,none⟩)] encStr (λ ss=>ss.Perm (strKeys D0)) (Maps.size D0) (w.alloc (.cells #[.map (some b)] 164)):=
  AnyZ.keys_gives (ρ:=Tryz.keys204_ren) { Tryz.keys204 with } Fence.wide _ trivial rfl (by omega) w.heap.size b nn D0 _ (by simp) (by simp) (by
   obtain⟨es,clock,hb,Ft,hs,hD⟩:=hown;exact⟨es,clock,(Below.heap_alloc _ _ b hbl).trans hb,Ft,hs,hD⟩)
 exact AnyZ.sorted_in Tryz.sorted203 Fence.wide 5 trivial trivial trivial trivial rfl (by omega) (Tryz.sorts203 _) (enters_of Tryz.func223 (by kernel_rfl) rfl) 224 #[.pointer (some ⟨w.heap.size,0,none⟩)] trivial (enters_of Tryz.func224 (by kernel_rfl) rfl) _ _ hmax hbytes _ hseq
end Go.Proofs
namespace Go.Proofs
open Go.RowKit Go.Shelf Go.Gb Go.Maps Go.Sort
attribute [local go_sem] Oper.semAt_some
set_option maxHeartbeats 1000000 in
theorem aeC(n:Nat)(v0 v1 v2 v3 v4:Value)(w:World):
 CallsIn Fence.wide n Tryz.prog 202 #[.agg #[v0,v1,v2,v3,v4]] w λe w'=>e= .returned (.func (.func 221) #[] #[.pointer (some ⟨w.heap.size,0,none⟩)])/\w'=w.alloc (.cells #[v0,v1,v2,v3,v4] 44):=by
 have hro:Fence.wide.round=none:=rfl;refine callsIn_of_wp Tryz.func202 rfl trivial ?_ hro;simp only[Tryz.ntmps202,List.size_toArray,bF,length_nil,Nat.reduceAdd,Nat.reduceSub,Array.replicate_succ,Array.replicate_zero,List.push_toArray,List.append_toArray,bO,cons_append]
 gi_wp2
 go_ret
 exact⟨rfl,rfl⟩
def ak1(D:Nat):Deferred:={ target:= .collected D,args:=#[] }
theorem Pq{P:Program}{fn:Func}{tmps:Array Value}{n:Nat}{R:Ending->World->Prop}:∀(Ds:List Nat)(W:World),Ds.Nodup->(∀ D∈Ds,W.heap[D]? =some (.deferred (some [])))->
 (∀ W',(∀ B,(∀ D∈Ds,B<=D)->Below B W W')->LeavesIn Fence.wide n P fn tmps R [] .returning W')->LeavesInM Fence.wide n P fn tmps R (Ds.map ak1) .returning W
 |[],W,_,_,h=>h W λ_ _=>Below.refl _ _
 |D::Ds,W,hn,hd,h=>by
  simp only[List.nodup_cons]at hn;have hD:=hd D (by simp);refine⟨by simp,.inl ⟨D,_,rfl,run_takeDeferred hD,Pq Ds _ hn.2 (λ D' hD'=>?_) λW' hW'=>h W' λB hB=>?_⟩⟩
  ·rw[World.putObj_heap_other (by rintro rfl;exact hn.1 hD')];exact hd D' (by simp[hD'])
  ·have h1:=hB D (by simp);exact(Kp.put (n0:=B) (B0:=D+1) W D _ _ hD h1 (by omega)).1.trans (hW' B λD' h'=>hB D' (by simp[h']))
noncomputable def cS:Code->Code
 | .seq _ b=>b
 |c=>c
structure anO(p:Prop):Prop where
 h:p
theorem NG{F:Fence}{n:Nat}{P:Program}{Q:Exit->Act->World->Prop}{a:Act}{w:World}{x y:Code}(h:∀K:Act->World->Prop,(∀ a w,anO (y.wpIn F n P Q a w)->K a w)->x.wpIn F n P (Exit.then K Q) a w):(Code.seq x y).wpIn F n P Q a w:=wpIn_seq_k λK hK=>h K λa w h=>hK a w h.h
noncomputable abbrev yp:Code:=cS (cS (Tryz.f221.body.getD .skip))
set_option maxRecDepth 100000 in
set_option maxHeartbeats 4000000 in
theorem ak2:∀(k:Nat)(t:ET),SizeOf.sizeOf t<=k->∀(n0 Bx:Nat)(v0 v1 v2 v3 v4:Value)(w:World),n0<=Bx->Bx<w.heap.size->kA n0 w t [v0,v1,v2,v3,v4]->
 aon Tryz.prog 221 #[.pointer (some ⟨Bx,0,none⟩)] (λ s:ByteArray=>#[.string s]) n0 t.names (λ W=>W.heap[Bx]? =some (.cells #[v0,v1,v2,v3,v4] 44)) w
 | 0,.mk op s args,hk=>by simp at hk
 |k+1,.mk op s args,hk=>by
  intro n0 Bx v0 v1 v2 v3 v4 w hnB hBw hE n l B0 L J W hW hn0 hB0 hJ hN hY pre hpL hJ0;have hro:Fence.wide.round=none:=rfl;simp only[kA,List.cons.injEq,and_true]at hE;obtain⟨nn,key,sl,⟨⟨rfl,rfl,rfl,rfl,rfl⟩,hlen,hssz⟩,G2⟩:=hE;have hbx:=hN _ _ hJ0;have hB1:Below B0 W (W.alloc (.cells #[.func (.yield l) #[] #[]] 134)):=(Below.refl _ W).alloc hB0 _;have RM:Bx<W.heap.size:=(Array.getElem?_eq_some_iff.1 hbx).1;have G1:(W.alloc (.cells #[.func (.yield l) #[] #[]] 134)).heap[Bx]? =_:=(Below.heap_alloc W _ Bx RM).trans hbx;have c0:(W.alloc (.cells #[.func (.yield l) #[] #[]] 134)).cell? ⟨Bx,0,none⟩=some (.int .i64 op):=by simp[World.cell?,G1]
  have c2:(W.alloc (.cells #[.func (.yield l) #[] #[]] 134)).cell? ⟨Bx,2,none⟩=some (.string s):=by simp[World.cell?,G1]
  have bY:=Boxed.new W 134 (.func (.yield l) #[] #[]);have cY:=bY.cell;have hk1:Kp n0 B0 W (W.alloc (.cells #[.func (.yield l) #[] #[]] 134)):=(Kp.refl _ _ _).alloc (by omega) _
  have ag:∀(hd:List ByteArray)(Wb:World)(g6 g7 g8 g9 g10 g11 g12 g13 g14:Value),(if op=1 then [s]else [])=hd->J (pre++hd) Wb->Kp n0 B0 W Wb->Boxed Wb W.heap.size 134 (.func (.yield l) #[] #[])->
   yp.wpIn Fence.wide n Tryz.prog (bodyPostM Fence.wide n Tryz.prog Tryz.f221 λe W'=>(∃ v,e=Ending.returned v)/\J (pre++(ET.mk op s args).names) W'/\Kp n0 B0 W W')
    { tmps:=#[.func (.yield l) #[] #[],.pointer (some ⟨Bx,0,none⟩),.pointer (some ⟨W.heap.size,0,none⟩),undef,undef,undef,g6,g7,g8,g9,g10,g11,g12,g13,g14,.bool false,undef,undef,undef,undef,undef,undef,undef,undef,undef,undef,undef,undef,undef,undef,undef],defers:=[] } Wb:=by
   intro hd Wb g6 g7 g8 g9 g10 g11 g12 g13 g14 hhd hJb hkb bYb;have P4:=hN _ _ hJb;have c4:Wb.cell? ⟨Bx,4,none⟩=some v4:=(by simp[World.cell?,P4]);obtain⟨sa,sc,rfl⟩:∃sa sc,v4= .slice sa args.length sc:=by
    rcases G2 with ⟨rfl,a,cap,rfl⟩ |⟨b,aa,cap,rfl,_⟩
    ·exact⟨_,_,rfl⟩
    ·exact⟨_,_,rfl⟩
   refine NG λK hK=>?_
   gi_wp2
   refine⟨wpIn_block (wpIn_loop (λ a' W'=>∃(i:Nat) (Ds:List Nat) (g4 g5 g16 g20 g21 g22 g23 g24 g25 Se Sa R2 R1 R0:Value),i<=args.length/\
    a'={ tmps:=#[.func (.yield l) #[] #[],.pointer (some ⟨Bx,0,none⟩),.pointer (some ⟨W.heap.size,0,none⟩),undef,g4,g5,g6,g7,g8,g9,g10,g11,g12,g13,g14,.bool false,g16,.slice sa args.length sc,.int .i64 args.length,.int .i64 i,g20,g21,g22,g23,g24,g25,Se,Sa,R2,R1,R0],defers:=Ds.map ak1 }/\
    Ds.Nodup/\(∀ D∈Ds,W.heap.size<=D/\W'.heap[D]? =some (.deferred (some [])))/\J (pre++hd++ET.dt (args.take i)) W'/\Kp n0 B0 W W'/\Boxed W' W.heap.size 134 (.func (.yield l) #[] #[]))
    (λ a' _=>args.length -(intOf (a'.tmps.getD 19 undef)).toNat)
    ⟨0,[],_,_,_,_,_,_,_,_,_,_,_,_,_,_,Nat.zero_le _,rfl,List.nodup_nil,by simp,by simpa[ET.dt]using hJb,hkb,bYb⟩ ?_)⟩
   rintro a' W' ⟨i,Ds,g4,g5,g16,g20,g21,g22,g23,g24,g25,Se,Sa,R2,R1,R0,hi,rfl,hnd,hDs,Q2,hki,bYi⟩;by_cases hlt:i<args.length
   ·rcases G2 with ⟨h0,_⟩ |⟨b,aa,cap,he,hb,hs⟩
    ·rw[h0]at hlt;exact absurd hlt (Nat.not_lt_zero _)
    simp only[Value.slice.injEq,true_and]at he;obtain⟨rfl,rfl⟩:=he;have hwi:Below n0 w W':=(hW.mono (by omega)).trans hki.1;obtain⟨ti,hti⟩:∃ti,args[i]? =some ti:=⟨_,dI hlt⟩;obtain⟨vs,q,Rg⟩:=(fh.below hwi args b aa hb hs).get hti;obtain⟨u0,u1,u2,u3,u4,rfl,hone⟩:∃u0 u1 u2 u3 u4,vs=[u0,u1,u2,u3,u4]/\(#[u0,u1,u2,u3,u4]:Array Value).all (·.oneCell')=true:=by
     cases ti;simp only[kA]at Rg;obtain⟨n',key',sl',⟨h,_⟩,h'⟩:=Rg;refine⟨_,_,_,_,_,h,?_⟩;rcases h' with ⟨_,_,_,rfl⟩ |⟨_,_,_,rfl,_⟩<;>simp[Value.oneCell']
    have o0:=λz1 z2 z3 z4=>dM Tryz.prog W' #[.int .i64 0,z1,z2,z3,z4] 44 0 u0 (by simp) (by simpa using (Array.all_eq_true.1 hone) 0 (by simp));have o1:=λz2 z3 z4=>dM Tryz.prog W' #[u0,.int .i64 0,z2,z3,z4] 44 1 u1 (by simp) (by simpa using (Array.all_eq_true.1 hone) 1 (by simp));have o2:=λz3 z4=>dM Tryz.prog W' #[u0,u1,.string { data:=#[] },z3,z4] 44 2 u2 (by simp) (by simpa using (Array.all_eq_true.1 hone) 2 (by simp));have o3:=λz4=>dM Tryz.prog W' #[u0,u1,u2,.string { data:=#[] },z4] 44 3 u3 (by simp) (by simpa using (Array.all_eq_true.1 hone) 3 (by simp));have o4:=dM Tryz.prog W' #[u0,u1,u2,u3,.slice none 0 0] 44 4 u4 (by simp) (by simpa using (Array.all_eq_true.1 hone) 4 (by simp));simp only[List.set_toArray,List.set]at o0 o1 o2 o3 o4;have hn:=World.alloc_heap_new W' (.cells #[u0,u1,u2,u3,u4] 44);have r0:(W'.alloc (.cells #[u0,u1,u2,u3,u4] 44)).cell? ⟨W'.heap.size,0,none⟩=some u0:=(by simp only[World.cell?,hn];rfl);have r1:(W'.alloc (.cells #[u0,u1,u2,u3,u4] 44)).cell? ⟨W'.heap.size,1,none⟩=some u1:=(by simp only[World.cell?,hn];rfl);have r2:(W'.alloc (.cells #[u0,u1,u2,u3,u4] 44)).cell? ⟨W'.heap.size,2,none⟩=some u2:=(by simp only[World.cell?,hn];rfl);have r3:(W'.alloc (.cells #[u0,u1,u2,u3,u4] 44)).cell? ⟨W'.heap.size,3,none⟩=some u3:=(by simp only[World.cell?,hn];rfl);have r4:(W'.alloc (.cells #[u0,u1,u2,u3,u4] 44)).cell? ⟨W'.heap.size,4,none⟩=some u4:=(by simp only[World.cell?,hn];rfl);have q0:W'.cell? ⟨b,aa+i*5,none⟩=some u0:=q 0 _ rfl;have q1:W'.cell? ⟨b,aa+i*5+1,none⟩=some u1:=q 1 _ rfl
    have q2:W'.cell? ⟨b,aa+i*5+2,none⟩=some u2:=q 2 _ rfl;have q3:W'.cell? ⟨b,aa+i*5+3,none⟩=some u3:=q 3 _ rfl;have q4:W'.cell? ⟨b,aa+i*5+4,none⟩=some u4:=q 4 _ rfl
    gi_wp2_with (refine ⟨trivial,λh=>by simp[Fence.wide]at h,?_⟩;refine(aeC (n -1) u0 u1 u2 u3 u4 _).mono ?_;rintro e w' ⟨rfl,rfl⟩)
    have Pr:SizeOf.sizeOf ti<=k:=by
     have h1:=List.sizeOf_lt_of_mem (cB hti);simp only[ET.mk.sizeOf_spec]at hk;omega
    obtain⟨Wd,hWd⟩:∃Wd,(W'.alloc (.cells #[u0,u1,u2,u3,u4] 44)).alloc (.cells #[u0,u1,u2,u3,u4] 44)=Wd:=⟨_,rfl⟩;have hsd:Wd.heap.size=W'.heap.size+2:=(by rw[<- hWd];simp);have hWsz:W.heap.size<=W'.heap.size:=hki.1.size;have hkd:Kp n0 B0 W' Wd:=(by rw[<- hWd];exact((Kp.refl _ _ _).alloc (by omega) _).alloc (by simp;omega) _);have hbd:Below W'.heap.size W' Wd:=(by rw[<- hWd];exact((Below.refl _ _).alloc (aQ _) _).alloc (by simp) _);have hxd:Wd.heap[W'.heap.size+1]? =some (.cells #[u0,u1,u2,u3,u4] 44):=by
     rw[<- hWd];have:=World.alloc_heap_new (W'.alloc (.cells #[u0,u1,u2,u3,u4] 44)) (.cells #[u0,u1,u2,u3,u4] 44)
     rwa [World.size_alloc]at this
    rw[hWd];have hDl:∀D∈Ds,D<W'.heap.size:=λD hD=>(Array.getElem?_eq_some_iff.1 (hDs D hD).2).1
    refine Fx (gf:=221) (lb:=#[.pointer (some ⟨W'.heap.size+1,0,none⟩)]) rfl (enters_of Tryz.func221 (by kernel_rfl) rfl)
     (ak2 k ti Pr n0 (W'.heap.size+1) u0 u1 u2 u3 u4 Wd (by omega) (by omega) (Rg.below' (hbd.mono (by omega)))) (Below.refl _ _) (by omega) (λ _=>rfl)
     (λ q X=>(J (pre++hd++ET.dt (args.take i)++q) X/\Kp n0 B0 W X)/\(Boxed X W.heap.size 134 (.func (.yield l) #[] #[])/\(∀ D∈Ds,X.heap[D]? =some (.deferred (some []))))/\X.heap[W'.heap.size+1]? =some (.cells #[u0,u1,u2,u3,u4] 44))
     (λ s A B hs hb=>⟨⟨hJ _ _ _ hs.1.1 (hb.mono (by omega)),anN (α:=Unit) (B1:=Wd.heap.size) (by omega) (by omega) () A B hs.1.2 hb⟩,
      ⟨(hb.block _ (by omega)).trans hs.2.1.1,λD hD=>(hb.block _ (by have:=hDl D hD;omega)).trans (hs.2.1.2 D hD)⟩,(hb.block _ (by omega)).trans hs.2.2⟩)
     (λ s X hs=>hs.2.2)
     ⟨⟨by simpa using hJ _ _ _ Q2 (hbd.mono (by omega)),hki.trans hkd⟩,⟨(hbd.block _ (by have:=bYi.lt;omega)).trans bYi,λD hD=>(hbd.block _ (hDl D hD)).trans (hDs D hD).2⟩,hxd⟩
     (λ x=>{ tmps:=#[.func (.yield l) #[] #[],.pointer (some ⟨Bx,0,none⟩),.pointer (some ⟨W.heap.size,0,none⟩),undef,.pointer (some ⟨W'.heap.size,0,none⟩),.string x,g6,g7,g8,g9,g10,g11,g12,g13,g14,.bool false,g16,.slice (some ⟨b,aa,none⟩) args.length sc,.int .i64 args.length,.int .i64 i,.bool true,.pointer (some ⟨b,aa+i*5,none⟩),.agg #[u0,u1,u2,u3,u4],.agg #[u0,u1,u2,u3,u4],.func (.func 221) #[] #[.pointer (some ⟨W'.heap.size+1,0,none⟩)],.string x,Se,Sa,R2,R1,R0],defers:=[] })
     ?assign ?body ?done
    case assign=>
     intro l2 x X K hK
     gi_wp2
     exact hK
    case body=>
     rintro l2 q x X hxm ws ⟨⟨hJx,hkx⟩,⟨HF,Rr⟩,hxx⟩ hsx;have cYx:=HF.cell;obtain⟨fn,tmps,assign,body,hy,hR⟩:=hY (n -1 -1 -1) (pre++hd++ET.dt (args.take i)++q) x X (ET.p7 hti hxm) (by have:=ET.tf args (i+1);rw[ET.mS args i hti]at this;simp only[ET.names,hhd,dH]at this hpL ⊢;omega) hJx (by omega)
     gi_wp2
     have hR':RoundIn (Fence.wide.inRound l2) (n -1 -1 -1) Tryz.prog l fn tmps assign body X _:=hR;refine⟨λ h=>by simp[Fence.wide]at h,hR'.mono ?_⟩;rintro e X3 ⟨rfl,hJ3,hk3⟩
     gi_wp2
     have hbig:∀c,B0<=c->c<X.heap.size->X3.heap[c]? =X.heap[c]? :=hk3.2;exact⟨⟨⟨by simpa[aK]using hJ3,hkx.trans hk3⟩,⟨(hbig _ hB0 (by have:=HF.lt;omega)).trans HF,λD hD=>(hbig _ (by have:=(hDs D hD).1;omega) (by have:=hDl D hD;omega)).trans (Rr D hD)⟩,(hbig _ (by omega) (by omega)).trans hxx⟩,hk3.mono (aQ _) (by omega)⟩
    case done=>
     rintro D X hD ⟨⟨hJx,hkx⟩,⟨HF,Rr⟩,hxx⟩ hbx' C4
     gi_wp2
     refine⟨⟨i+1,D::Ds,_,_,_,_,_,_,_,_,_,_,_,_,_,_,by omega,rfl,List.nodup_cons.2 ⟨λ hm=>by have:=hDl D hm;omega,hnd⟩,?_,?_,hkx,HF⟩,?_⟩
     ·intro D' hD';rcases aN.1 hD' with rfl |h
      ·exact⟨by omega,C4⟩
      ·exact⟨(hDs D' h).1,Rr D' h⟩
     ·rw[ET.mS args i hti,<- aK];exact hJx
     ·show args.length -(intOf (.int .i64 ((i:Int)+1))).toNat<args.length -(intOf (.int .i64 (i:Int))).toNat;simp only[intOf];omega
   ·gi_wp2
    have hsame:args.take i=args:=List.take_of_length_le (by omega);rw[hsame]at Q2;refine Pq Ds W' hnd (λ D hD=>(hDs D hD).2) λW'' QQ=>?_;have h1:=QQ W.heap.size λD hD=>(hDs D hD).1;refine⟨_,results_none rfl _ _ _,⟨_,rfl⟩,hJ _ _ _ (by simpa[ET.names,hhd,aK]using Q2) (h1.mono hB0),hki.1.trans (h1.mono (by omega)),λb hb hl=>(h1.block b hl).trans (hki.2 b hb hl)⟩
  refine callsIn_of_wp_marks Tryz.func221 rfl trivial ?_ hro;simp only[Tryz.ntmps221,List.size_toArray,bF,length_nil,Nat.reduceAdd,Nat.reduceSub,Array.replicate_succ,Array.replicate_zero,List.push_toArray,List.append_toArray,bO,cons_append];refine NG λK1 hK1=>?_
  gi_wp2
  refine⟨NG λK2 hK2=>?_⟩;by_cases hop:op=1
  ·subst hop;obtain⟨fn,tmps,assign,body,hy,hR⟩:=hY (n -1) pre s (W.alloc (.cells #[.func (.yield l) #[] #[]] 134)) (by simp[ET.names]) (by simp[ET.names]at hpL;omega) (hJ _ _ _ hJ0 hB1) (by simp;omega)
   gi_wp2
   refine⟨λ h=>by simp[Fence.wide]at h,hR.mono ?_⟩;rintro e W3 ⟨rfl,hJ3,hk3⟩
   gi_wp2
   exact⟨ag [s] W3 _ _ _ _ _ _ _ _ _ rfl hJ3 (hk1.trans hk3) ((hk3.2 _ hB0 (by simp)).trans bY)⟩
  ·gi_wp2
   refine⟨λ _ h=>(by cases h),?_⟩
   gi_wp2
   exact⟨ag [] _ _ _ _ _ _ _ _ _ _ (by simp[hop]) (by simpa using hJ _ _ _ hJ0 hB1) hk1 bY⟩
theorem anP(s:ByteArray)(h:s.size<=maxLen):keyOf Tryz.prog 9 (.string s)=some (.string s.data.toList):=by
 rw[keyOf_string Tryz.underlying9];simp[mapKey,Tryz.underlying9,h]
set_option maxRecDepth 100000 in
set_option maxHeartbeats 4000000 in
theorem ak3(n:Nat)(t:ET)(v0 v1 v2 v3 v4:Value)(w:World)(hE:kA w.heap.size w t [v0,v1,v2,v3,v4])(hlen:t.names.length<=1000000000000):
 CallsIn Fence.wide 6 Tryz.prog 167 #[.agg #[v0,v1,v2,v3,v4]] w λe W'=>∃v,e= .returned v/\W'.ownsRow w.heap.size 9 1 v (xJ t.names).length ((xJ t.names).map encStr)/\Below w.heap.size w W':=by
 have hro:Fence.wide.round=none:=rfl;have hmm:=@run_makeMap Tryz.prog;refine callsIn_of_wp_marks Tryz.func167 rfl trivial ?_ hro;simp only[Tryz.ntmps167,List.size_toArray,bF,length_nil,Nat.reduceAdd,Nat.reduceSub,Array.replicate_succ,Array.replicate_zero,List.push_toArray,List.append_toArray,bO,cons_append]
 gi_wp2_with (refine ⟨trivial,?_⟩;refine(aeC 5 v0 v1 v2 v3 v4 _).mono ?_;rintro e w' ⟨rfl,rfl⟩)
 obtain⟨Wd,hWd⟩:∃Wd,(((w.alloc (.cells #[v0,v1,v2,v3,v4] 44)).alloc (.map #[] 0)).alloc (.cells #[.map (some (w.heap.size+1))] 164)).alloc (.cells #[v0,v1,v2,v3,v4] 44)=Wd:=⟨_,rfl⟩;have hsd:Wd.heap.size=w.heap.size+4:=by rw[<- hWd];simp
 have hbd:Below w.heap.size w Wd:=by rw[<- hWd];exact((((Below.refl _ w).alloc (aQ _) _).alloc (by simp) _).alloc (by simp;omega) _).alloc (by simp;omega) _
 have QP:Wd.ownsMap Tryz.prog 9 (plainElem (H:=Unit) Tryz.prog 4) (w.heap.size+1) 0 (.map []):=by
  have:=World.ownsMap_made (w.alloc (.cells #[v0,v1,v2,v3,v4] 44)) Tryz.prog 9 (plainElem (H:=Unit) Tryz.prog 4);rw[World.size_alloc]at this;rw[<- hWd];exact(this.alloc _).alloc _
 have hbs:Wd.heap[w.heap.size+2]? =some (.cells #[.map (some (w.heap.size+1))] 164):=by
  have:=World.alloc_heap_new ((w.alloc (.cells #[v0,v1,v2,v3,v4] 44)).alloc (.map #[] 0)) (.cells #[.map (some (w.heap.size+1))] 164);simp only[World.size_alloc]at this;rw[<- hWd];exact(Below.heap_alloc _ _ _ (by simp)).trans this
 have hbe:Wd.heap[w.heap.size+3]? =some (.cells #[v0,v1,v2,v3,v4] 44):=by
  have:=World.alloc_heap_new (((w.alloc (.cells #[v0,v1,v2,v3,v4] 44)).alloc (.map #[] 0)).alloc (.cells #[.map (some (w.heap.size+1))] 164)) (.cells #[v0,v1,v2,v3,v4] 44);simp only[World.size_alloc]at this;rw[<- hWd];exact this
 rw[hWd]
 refine Fx (gf:=221) (lb:=#[.pointer (some ⟨w.heap.size+1+1+1,0,none⟩)]) rfl (enters_of Tryz.func221 (by kernel_rfl) rfl)
  (ak2 _ t (aQ _) w.heap.size (w.heap.size+3) v0 v1 v2 v3 v4 Wd (by omega) (by omega) (hE.below' hbd)) (Below.refl _ _) (by omega) (λ _=>rfl)
  (λ q X=>X.ownsMap Tryz.prog 9 (plainElem (H:=Unit) Tryz.prog 4) (w.heap.size+1) q.length (yI q)/\X.heap[w.heap.size+2]? =some (.cells #[.map (some (w.heap.size+1))] 164)/\X.heap[w.heap.size+3]? =some (.cells #[v0,v1,v2,v3,v4] 44))
  (λ s A B hs hb=>⟨by obtain⟨es,ck,h1,h2⟩:=hs.1;exact⟨es,ck,(hb.block _ (by omega)).trans h1,h2⟩,(hb.block _ (by omega)).trans hs.2.1,(hb.block _ (by omega)).trans hs.2.2⟩)
  (λ s X hs=>hs.2.2) ⟨QP,hbs,hbe⟩
  (λ x=>{ tmps:=#[.agg #[v0,v1,v2,v3,v4],.pointer (some ⟨w.heap.size,0,none⟩),.slice none 0 0,.pointer (some ⟨w.heap.size+1+1,0,none⟩),.string x,.map (some (w.heap.size+1)),.agg #[v0,v1,v2,v3,v4],.func (.func 221) #[] #[.pointer (some ⟨w.heap.size+1+1+1,0,none⟩)],.string x,undef,undef,undef,undef,undef],defers:=[] })
  ?assign ?body ?done
 case assign=>
  intro l2 x X K hK
  gi_wp2
  exact hK
 case body=>
  rintro l2 q x X hxm ws ⟨hown,hms,hes⟩ hsx;have hxs:=kA.fY t _ hE x hxm;have cS:X.cell? ⟨w.heap.size+1+1,0,none⟩=some (.map (some (w.heap.size+1))):=by simp only[World.cell?,hms];rfl
  gi_wp2_with (gi_at_mapUpdate;refine wpListIn_mapUpdate_own _ rfl _ _ _ 164 rfl 9 4 (Maps.string_keyed Tryz.underlying9) Tryz.underlying164 _ (w.heap.size+1) q.length _ rfl hown (by unfold maxLen;omega) _ _ _ rfl rfl (anP x hxs) _ [] (plainElem_bool Tryz.underlying4 true) ?_;intro w1 hown1 hgrow1)
  have e1:=hgrow1.block (w.heap.size+2) (by omega) (by simp);have e2:=hgrow1.block (w.heap.size+3) (by omega) (by simp);exact⟨⟨by rw[aey];exact hown1,e1.trans hms,e2.trans hes⟩,(Below.refl _ X).grown hgrow1 (by omega) (λ k e=>by cases e;omega),λb hb hl=>hgrow1.block b hl (by simp;omega)⟩
 case done=>
  rintro D X hD ⟨hown,hms,hes⟩ hbx C4;have cS:X.cell? ⟨w.heap.size+1+1,0,none⟩=some (.map (some (w.heap.size+1))):=by simp only[World.cell?,hms];rfl
  have hsz:Maps.size (yI t.names)<=t.names.length:=aez _
  gi_wp2_with (first
   |(refine ⟨trivial,?_⟩;refine(Tryz.maps_Keys_204 _ _).mono ?_;rintro e w' ⟨rfl,rfl⟩)
   |(refine ⟨trivial,?_⟩;refine(Tryz.slices_Sorted_keys_203_204 (w.heap.size+1) _ (yI t.names) _ X hown (by unfold maxLen;omega) (by omega)).mono ?_;rintro e w' ⟨v,ss,rfl,hS,hrow,hnil,hb⟩))
  have hkey:∀es,yI t.names= .map es->∀p∈es,∃x,p.1= .string x:=by
   intro es e p hp;obtain⟨es',e',hko⟩:=hown.keysOf;obtain rfl:es=es':=(by have:=e.symm.trans e';injection this);obtain⟨kv,hkv⟩:=hko p hp;obtain⟨x,_,h,_⟩:=Maps.keyOf_str Tryz.underlying9 hkv;exact⟨x,h⟩
  have hss:ss.mergeSort leB=xJ t.names:=by
   obtain⟨es,e,_⟩:=hown.keysOf;exact mergeSort_of_perm (hS.trans (agR t.names e (hkey es e)).symm)
  have hDX:D<X.heap.size:=(Array.getElem?_eq_some_iff.1 C4).1;have hd1:w'.heap[D]? =some (.deferred (some [])):=(hb.block D (by simp;omega)).trans ((Below.heap_alloc X _ D hDX).trans C4);have zj:ss.length=(xJ t.names).length:=by rw[<- hss,List.length_mergeSort]
  have hrow':=(hrow.kept (grownBy_putObj' w' D (.deferred none)) ?_);refine⟨by simp,.inl ⟨_,_,rfl,run_takeDeferred hd1,?_⟩⟩;refine⟨_,results_tmp rfl _ _ _,⟨v,rfl,?_,?_⟩⟩
  ·rw[<- zj,<- hss];refine⟨hrow'.1,hrow'.2.imp id ?_⟩;rintro⟨g,cap,cur,h1,h2,h3⟩;exact⟨g,cap,cur,h1,by have:=hbx.size;simp at h2;omega,h3⟩
  ·exact(((hbd.trans hbx).alloc (by have:=hbx.size;omega) _).trans (hb.mono (by have:=hbx.size;simp;omega))).trans (Kp.put (n0:=w.heap.size) (B0:=D+1) w' D _ _ hd1 (by omega) (by omega)).1
  ·cases hvb:v.ownBlock with
   |none=>exact .inl rfl
   |some g=>
    refine .inr λe=>?_;have:=(hrow.lt g hvb).1;simp at this e;omega
end Go.Proofs
namespace Go.Proofs
open Go.RowKit Go.Maps
theorem aii{n0:Nat}{W:World}{d:ByteArray×ET}{vs:List Value}(h:Nd n0 W d vs):∃u0 u1 u2 u3 u4 u5,vs=[u0,u1,u2,u3,u4,u5]/\(#[u0,u1,u2,u3,u4,u5]:Array Value).all (·.oneCell')=true:=by
 obtain⟨v0,v1,v2,v3,v4,rfl,_,he⟩:=h;refine⟨_,_,_,_,_,_,rfl,?_⟩;obtain⟨nm,t⟩:=d;cases t;simp only[kA]at he;obtain⟨n',key',sl',⟨h,_⟩,h'⟩:=he;simp only[List.cons.injEq,and_true]at h;obtain⟨rfl,rfl,rfl,rfl,rfl⟩:=h;rcases h' with ⟨_,_,_,rfl⟩ |⟨_,_,_,rfl,_⟩<;>simp[Value.oneCell']
def Uv(ds:List (ByteArray×ET)):Nat->DataW Unit
 | 0=> .map []
 |k+1=>(Uv ds k).put (.string (ds.getD k (⟨#[]⟩,.mk 0 ⟨#[]⟩ [])).1.data.toList) (.lit (.int .i64 k))
theorem X0(ds:List (ByteArray×ET)):∀k,IsMap (Uv ds k)
 | 0=>isMap_empty
 |k+1=>(X0 ds k).put _ _
theorem abl(ds:List (ByteArray×ET))(s:List UInt8):∀k,has (Uv ds k) (.string s)=(Pp ds s k).isSome/\(Uv ds k).atKey (.string s) (.lit (.int .i64 0))= .lit (.int .i64 ((Pp ds s k).getD 0))
 | 0=>⟨rfl,rfl⟩
 |k+1=>by
  have h:=abl ds s k;simp only[Uv,Pp];split
  ·rename_i e;subst e;have hk:WideAt.IsKeyLit (.string (ds.getD k (⟨#[]⟩,.mk 0 ⟨#[]⟩ [])).1.data.toList):=trivial;exact⟨has_put_same (X0 ds k) hk _,atKey_put_same (X0 ds k) hk _ _⟩
  ·rename_i e;have hne:(Lit.string s)≠ .string (ds.getD k (⟨#[]⟩,.mk 0 ⟨#[]⟩ [])).1.data.toList:=λh=>e (by injection h with h;exact h.symm);rw[has_put_other hne,atKey_put_other hne];exact h
def NgO(w:World)(mB uB:Nat)(sv:Value)(ds:List (ByteArray×ET))(i:Nat)(W:World):Prop:=
 ∃us:List Value,us.length=i/\W.heap[uB]? =some (.cells (us++List.replicate (ds.length -i) (Value.slice none 0 0)).toArray 71)/\
  W.heap[uB+1]? =some (.cells #[sv,.slice (some ⟨uB,0,none⟩) ds.length ds.length] 247)/\W.ownsMap Tryz.prog 9 (plainElem (H:=Unit) Tryz.prog 3) mB ds.length (Uv ds ds.length)/\Below w.heap.size w W/\
  ∀(j:Nat)(v:Value),us[j]? =some v->∃d:ByteArray×ET,ds[j]? =some d/\W.ownsRow (uB+2) 3 1 v (iC ds (xJ d.2.names)).length (XW (iC ds (xJ d.2.names)))
theorem ZT{w:World}{base:Nat}{e:TypeId}{size:Nat}{v:Value}{n:Nat}{xs:List Value}(h:w.ownsRow base e size v n xs):∃a cap,v= .slice a n cap:=by
 rcases h.2 with ⟨rfl,rfl⟩ |⟨g,cap,_,rfl,_⟩
 ·exact⟨_,_,rfl⟩
 ·exact⟨_,_,rfl⟩
theorem ZU{w:World}{base:Nat}{e:TypeId}{a:Option Addr}{cap n:Nat}{xs:List Value}(h:w.ownsRow base e 1 (.slice a n cap) n xs)(hn:0<n):∃g,a=some ⟨g,0,none⟩/\base<=g/\g<w.heap.size/\∀j u,xs[j]? =some u->w.cell? ⟨g,j,none⟩=some u:=by
 rcases h.2 with ⟨_,h0⟩ |⟨g,c,cur,e1,hg,hgb,_,_,_,ht⟩
 ·omega
 ·simp only[Value.slice.injEq]at e1;obtain⟨rfl,_,rfl⟩:=e1;refine⟨g,rfl,hg,(Array.getElem?_eq_some_iff.1 hgb).1,λj u hj=>?_⟩;rw[<- ht,List.getElem?_take]at hj;split at hj
  ·simpa[World.cell?,hgb]using hj
  ·cases hj
def NgI(X:World)(uB:Nat)(us:List Value)(ds:List (ByteArray×ET))(r:Nat)(l:List (List UInt8))(V:World):Prop:=
 ∃va vc v,v= .slice va (iC ds l).length vc/\X.grownBy V (some uB)/\V.heap[uB]? =some (.cells (us++v::List.replicate r (Value.slice none 0 0)).toArray 71)/\V.ownsRow X.heap.size 3 1 v (iC ds l).length (XW (iC ds l))
theorem ak4(w:World):(zeroValue 3).run Tryz.prog w= .ok (.int .i64 0) w:=by kernel_rfl
theorem ajp{w:World}{ds:List (ByteArray×ET)}{nm:List UInt8}{b n:Nat}(hown:w.ownsMap Tryz.prog 9 (plainElem (H:=Unit) Tryz.prog 3) b n (Uv ds ds.length))(hkey:keyOf Tryz.prog 9 (encStr nm)=some (.string nm)):
 (Instr.lookup 137 (.map (some b)) (encStr nm) true).run Tryz.prog w= .ok (.tuple #[.int .i64 ((Pp ds nm ds.length).getD 0),.bool (Pp ds nm ds.length).isSome]) w:=by
 have h:=abl ds nm ds.length;obtain⟨v,ps,hrun,hv⟩:=hown.look_ok (Maps.string_keyed Tryz.underlying9) Tryz.underlying137 (ak4 w) (plainElem_int Tryz.underlying3 (by decide)) hkey;obtain⟨c,rfl,hc,_⟩:=plainElem_int_inv Tryz.underlying3 hv;rw[h.2]at hc;have hc2:(Pp ds nm ds.length).getD 0=c:=by
  have:=congrArg Prod.fst hc;simpa using this
 refine hrun.trans ?_;rw[h.1,hc2]
theorem X4(ds:List (ByteArray×ET))(L:List (List UInt8))(q:Nat){nm:List UInt8}(h:L[q]? =some nm):iC ds (L.take (q+1))=iC ds (L.take q)++(Pp ds nm ds.length).toList:=by
 rw[List.take_add_one,h,iC,iC,List.filterMap_append];cases h2:Pp ds nm ds.length<;>simp[h2]
theorem grownBy_set(w:World)(b k:Nat)(v:Value):w.grownBy (w.setCell ⟨b,k,none⟩ v) (some b):=
 ⟨rfl,rfl,rfl,by simp[World.setCell],λi _ h=>by simp only[World.setCell];rw[Array.getElem?_modify,aO (λ e=>h (by rw[e]))]⟩
theorem agT{A B:World}{base:Nat}{e:TypeId}{size:Nat}{v:Value}{n:Nat}{xs:List Value}{uB:Nat}(h:A.ownsRow base e size v n xs)(hb:uB<base)(hk:∀c,c<A.heap.size->c≠uB->B.heap[c]? =A.heap[c]?):B.ownsRow base e size v n xs:=by
 refine⟨h.1,h.2.imp id ?_⟩;rintro⟨g,cap,cur,h1,h2,h3,h4⟩;exact⟨g,cap,cur,h1,h2,(hk g (Array.getElem?_eq_some_iff.1 h3).1 (by omega)).trans h3,h4⟩
theorem ak5:(Tryz.prog.info? 3).map (λ i=>(i.zero,i.size,i.bytes))=some (some (.int .i64 0),1,8):=by kernel_rfl
theorem ak6:(Tryz.prog.info? 71).map (λ i=>(i.zero,i.size,i.bytes))=some (some (.slice none 0 0),1,24):=by kernel_rfl
theorem ajq(ds:List (ByteArray×ET))(k:Nat){d:ByteArray×ET}(h:ds[k]? =some d):Uv ds (k+1)=(Uv ds k).put (.string d.1.data.toList) (.lit (.int .i64 k)):=by simp[Uv,List.getD,h]
theorem ak7(s:ByteArray)(h:s.size<=maxLen):keyOf Tryz.prog 9 (.string s)=some (.string s.data.toList):=by
 rw[keyOf_string Tryz.underlying9];simp[mapKey,Tryz.underlying9,h]
theorem ak8{X wr w1:World}{uB k r:Nat}{us:List Value}{ds:List (ByteArray×ET)}{l l':List (List UInt8)}{va:Option Addr}{vc gg cap:Nat}{m:Int}{o:Obj}
 (t6:X.grownBy wr (some uB)) (th:wr.heap[uB]? =some (.cells (us++(Value.slice va (iC ds l).length vc)::List.replicate r (Value.slice none 0 0)).toArray 71)) (hk:us.length=k)
 (hgrow:(wr.alloc o).drew.grownBy w1 (Value.slice va (iC ds l).length vc).ownBlock) (hne:(Value.slice va (iC ds l).length vc).ownBlock≠some uB) (hbl:∀b,(Value.slice va (iC ds l).length vc).ownBlock=some b->X.heap.size<=b)
 (hown:w1.ownsRow X.heap.size 3 1 (.slice (some ⟨gg,0,none⟩) ((iC ds l).length+1) cap) ((iC ds l).length+1) (XW (iC ds l)++[.int .i64 m])) (hs:iC ds l'=iC ds l++[m])
 (hat:(Value.slice va (iC ds l).length vc).ownBlock=some gg\/gg=wr.heap.size+1):
 NgI X uB us ds r l' (w1.setCell ⟨uB,k,none⟩ (.slice (some ⟨gg,0,none⟩) ((iC ds l).length+1) cap)):=by
 have huB:uB<wr.heap.size:=(Array.getElem?_eq_some_iff.1 th).1;have h1:w1.heap[uB]? =wr.heap[uB]? :=(hgrow.block uB (by show uB<(wr.alloc o).heap.size;simp;omega) (λ e=>hne e.symm)).trans (Below.heap_alloc wr o uB huB);have hset:w1.grownBy (w1.setCell ⟨uB,k,none⟩ (.slice (some ⟨gg,0,none⟩) ((iC ds l).length+1) cap)) (some uB):=grownBy_set _ _ _ _;have hall:X.grownBy w1 (some uB):=(t6.andThen ((World.grownBy_alloc wr o none).trans ⟨rfl,rfl,rfl,aQ _,λ_ _ _=>rfl⟩:wr.grownBy (wr.alloc o).drew none) (λ j e=>by cases e)).andThen hgrow (λ j e=> .inl (hbl j e));have hlen:(iC ds l').length=(iC ds l).length+1:=by rw[hs];simp
 have hgu:gg≠uB:=by
  rintro rfl;rcases hat with h |h
  ·exact hne h
  ·omega
 refine⟨some ⟨gg,0,none⟩,cap,_,rfl,hall.trans hset,?_,?_⟩
 ·rw[hlen];simp only[World.setCell];rw[Array.getElem?_modify,aP rfl,h1,th];simp only[Option.map_some,Option.isSome_none,Bool.false_eq_true,if_false,List.setIfInBounds_toArray];rw[<- hk,List.set_append_right _ _ (aQ _),Nat.sub_self,List.set_cons_zero]
 ·rw[hlen,hs];have:=hown.kept hset (.inr (λ e=>hgu (by simpa[Value.ownBlock]using e)));simpa using this
set_option maxRecDepth 100000 in
set_option maxHeartbeats 4000000 in
theorem amq(ds:List (ByteArray×ET))(hlen:ds.length<=4000000)
 (hnl:∀d∈ds,d.2.names.length<=1000000000000)
 (hN:∀d∈ds,∀(v0 v1 v2 v3 v4:Value)(w:World),kA w.heap.size w d.2 [v0,v1,v2,v3,v4]->Calls Tryz.prog 167 #[.agg #[v0,v1,v2,v3,v4]] w λe W'=>∃v,e= .returned v/\W'.ownsRow w.heap.size 9 1 v (xJ d.2.names).length ((xJ d.2.names).map encStr)/\Below w.heap.size w W')
 (sv:Value) (w:World) (hsv:Fk w.heap.size w ds sv):Calls Tryz.prog 133 #[sv] w λe W'=>∃uB,e= .returned (.pointer (some ⟨uB+1,0,none⟩))/\w.heap.size<uB/\anb w uB sv ds 71 247 3 W':=by
 have hmm:=@run_makeMap Tryz.prog;obtain⟨sa,sc,rfl⟩:∃sa sc,sv= .slice sa ds.length sc:=by
  rcases hsv with ⟨rfl,a,cap,rfl⟩ |⟨b,aa,cap,rfl,_⟩
  ·exact⟨_,_,rfl⟩
  ·exact⟨_,_,rfl⟩
 obtain⟨i0,hi,hz0,hz1,hz2⟩:=info_parts ak6;obtain⟨iI,hiI,Pa,O2,OS⟩:=info_parts ak5
 go_enter Tryz.func133,Tryz.ntmps133
 go_wp2
 go_loopw [16] (λ i wr=>∃k:Nat,k<=ds.length/\i= .int .i64 k/\wr.ownsMap Tryz.prog 9 (plainElem (H:=Unit) Tryz.prog 3) w.heap.size k (Uv ds k)/\Below w.heap.size w wr)
  (λ i _=>ds.length -(intOf i).toNat)
 case atStart=>exact⟨0,Nat.zero_le _,rfl,World.ownsMap_made _ _ _ _,(Below.refl _ _).alloc (aQ _) _⟩
 case round=>
  obtain⟨k,hk,rfl,hown,hnx⟩:=hrel;by_cases hkl:k<ds.length
  ·rcases hsv with ⟨h0,_⟩ |⟨b,aa,cap,he,hb,hr⟩
   ·rw[h0]at hkl;exact absurd hkl (Nat.not_lt_zero _)
   simp only[Value.slice.injEq,true_and]at he;obtain⟨rfl,rfl⟩:=he;obtain⟨d,hd⟩:∃d,ds[k]? =some d:=⟨_,dI hkl⟩;obtain⟨vs,q,Hb⟩:=hr k d hd;obtain⟨u0,u1,u2,u3,u4,u5,rfl,hone⟩:=aii Hb;have o0:=λz1 z2 z3 z4 z5=>dM Tryz.prog wr #[.string { data:=#[] },z1,z2,z3,z4,z5] 93 0 u0 (by simp) (by simpa using (Array.all_eq_true.1 hone) 0 (by simp));have o1:=λz2 z3 z4 z5=>dM Tryz.prog wr #[u0,.int .i64 0,z2,z3,z4,z5] 93 1 u1 (by simp) (by simpa using (Array.all_eq_true.1 hone) 1 (by simp));have o2:=λz3 z4 z5=>dM Tryz.prog wr #[u0,u1,.int .i64 0,z3,z4,z5] 93 2 u2 (by simp) (by simpa using (Array.all_eq_true.1 hone) 2 (by simp));have o3:=λz4 z5=>dM Tryz.prog wr #[u0,u1,u2,.string { data:=#[] },z4,z5] 93 3 u3 (by simp) (by simpa using (Array.all_eq_true.1 hone) 3 (by simp));have o4:=λz5=>dM Tryz.prog wr #[u0,u1,u2,u3,.string { data:=#[] },z5] 93 4 u4 (by simp) (by simpa using (Array.all_eq_true.1 hone) 4 (by simp));have o5:=dM Tryz.prog wr #[u0,u1,u2,u3,u4,.slice none 0 0] 93 5 u5 (by simp) (by simpa using (Array.all_eq_true.1 hone) 5 (by simp));simp only[List.set_toArray,List.set]at o0 o1 o2 o3 o4 o5;have hn:=World.alloc_heap_new wr (.cells #[u0,u1,u2,u3,u4,u5] 93);have r0:(wr.alloc (.cells #[u0,u1,u2,u3,u4,u5] 93)).cell? ⟨wr.heap.size,0,none⟩=some u0:=(by simp only[World.cell?,hn];rfl);have q0:wr.cell? ⟨b,aa+k*6,none⟩=some u0:=(hnx.cell (p:=⟨b,aa+k*6,none⟩) hb).trans (q 0 _ rfl);have q1:wr.cell? ⟨b,aa+k*6+1,none⟩=some u1:=(hnx.cell (p:=⟨b,aa+k*6+1,none⟩) hb).trans (q 1 _ rfl);have q2:wr.cell? ⟨b,aa+k*6+2,none⟩=some u2:=(hnx.cell (p:=⟨b,aa+k*6+2,none⟩) hb).trans (q 2 _ rfl)
   have q3:wr.cell? ⟨b,aa+k*6+3,none⟩=some u3:=(hnx.cell (p:=⟨b,aa+k*6+3,none⟩) hb).trans (q 3 _ rfl);have q4:wr.cell? ⟨b,aa+k*6+4,none⟩=some u4:=(hnx.cell (p:=⟨b,aa+k*6+4,none⟩) hb).trans (q 4 _ rfl);have q5:wr.cell? ⟨b,aa+k*6+5,none⟩=some u5:=(hnx.cell (p:=⟨b,aa+k*6+5,none⟩) hb).trans (q 5 _ rfl);have hkey:keyOf Tryz.prog 9 u0=some (.string d.1.data.toList):=by
    obtain⟨v0,v1,v2,v3,v4,e,hs,_⟩:=Hb;simp only[List.cons.injEq]at e;rw[e.1];exact ak7 d.1 hs
   go_wp2_with (at_mapUpdate;refine wpList_mapUpdate_own _ rfl _ _ _ 137 rfl 9 3 (Maps.string_keyed Tryz.underlying9) Tryz.underlying137 _ w.heap.size k _ rfl (hown.alloc _) (by unfold maxLen;omega) _ _ _ rfl rfl hkey _ [] (plainElem_int Tryz.underlying3 (WalkArith.wf_i64 (by omega))) ?_;intro w1 hown1 hgrow1)
   refine⟨⟨k+1,by omega,by go_num,?_,(((hnx.alloc (by have:=hnx.size;omega) _).grown hgrow1 (by have:=hnx.size;simp;omega) (λ j e=>by cases e;exact aQ _)))⟩,by simp[intOf];omega⟩;rw[ajq ds k hd];exact hown1
  ·obtain rfl:k=ds.length:=(by omega);have hms:=run_make (P:=Tryz.prog) wr 245 71 i0 (.slice none 0 0) Tryz.underlying245 hi hz0 .i64 .i64 ds.length ds.length (by omega) (Int.le_refl _) (by rw[hz2];omega) (by omega);rw[hz1]at hms;simp only[Int.toNat_natCast,Nat.mul_one,Value.cells]at hms;obtain⟨uk,tR⟩:∃uk,madeCells #[Value.slice none 0 0] ds.length=uk:=⟨_,rfl⟩;rw[tR]at hms
   go_wp2
   obtain⟨uB,huB⟩:∃uB,wr.heap.size=uB:=⟨_,rfl⟩;obtain⟨W1,hW1⟩:∃W1,(wr.alloc (.cells uk 71)).alloc (.cells #[.slice sa ds.length sc,.slice (some ⟨wr.heap.size,0,none⟩) ds.length ds.length] 247)=W1:=⟨_,rfl⟩;have hmu:w.heap.size<uB:=(by rw[<- huB];exact hown.lt);have hI0:NgO w w.heap.size uB (.slice sa ds.length sc) ds 0 W1:=by
    have hn1:=World.alloc_heap_new wr (.cells uk 71);have hn2:=World.alloc_heap_new (wr.alloc (.cells uk 71)) (.cells #[.slice sa ds.length sc,.slice (some ⟨wr.heap.size,0,none⟩) ds.length ds.length] 247);rw[World.size_alloc]at hn2;subst huB;refine⟨[],rfl,?_,?_,?_,?_,λj v h=>by simp at h⟩
    ·rw[<- hW1];refine(Below.heap_alloc _ _ _ (by simp)).trans ?_;rw[hn1,<- tR];congr 2;apply Array.ext';rw[toList_madeCells_one];rfl
    ·rw[<- hW1];exact hn2
    ·rw[<- hW1];exact(hown.alloc _).alloc _
    ·rw[<- hW1];exact(hnx.alloc (by have:=hnx.size;omega) _).alloc (by have:=hnx.size;simp;omega) _
   rw[hW1,huB]
   go_loopw [34] (λ i W=>∃k:Nat,k<=ds.length/\i= .int .i64 k/\NgO w w.heap.size uB (.slice sa ds.length sc) ds k W)
    (λ i _=>ds.length -(intOf i).toNat)
   case atStart=>exact⟨0,Nat.zero_le _,rfl,hI0⟩
   case round=>
    obtain⟨k,hk,rfl,us,sn,hU,hG,hM,hB,ut⟩:=hrel;obtain⟨Iv,Pl⟩:∃Iv,Iv=wr:=⟨_,rfl⟩;by_cases hkl:k<ds.length
    ·rcases hsv with ⟨h0,_⟩ |⟨b,aa,cap,he,hb,hr⟩
     ·rw[h0]at hkl;exact absurd hkl (Nat.not_lt_zero _)
     simp only[Value.slice.injEq,true_and]at he;obtain⟨rfl,rfl⟩:=he;obtain⟨d,hd⟩:∃d,ds[k]? =some d:=⟨_,dI hkl⟩;obtain⟨vs,q,Hb⟩:=hr k d hd;obtain⟨u0,u1,u2,u3,u4,u5,rfl,hone⟩:=aii Hb;have o0:=λz1 z2 z3 z4 z5=>dM Tryz.prog wr #[.string { data:=#[] },z1,z2,z3,z4,z5] 93 0 u0 (by simp) (by simpa using (Array.all_eq_true.1 hone) 0 (by simp));have o1:=λz2 z3 z4 z5=>dM Tryz.prog wr #[u0,.int .i64 0,z2,z3,z4,z5] 93 1 u1 (by simp) (by simpa using (Array.all_eq_true.1 hone) 1 (by simp));have o2:=λz3 z4 z5=>dM Tryz.prog wr #[u0,u1,.int .i64 0,z3,z4,z5] 93 2 u2 (by simp) (by simpa using (Array.all_eq_true.1 hone) 2 (by simp));have o3:=λz4 z5=>dM Tryz.prog wr #[u0,u1,u2,.string { data:=#[] },z4,z5] 93 3 u3 (by simp) (by simpa using (Array.all_eq_true.1 hone) 3 (by simp));have o4:=λz5=>dM Tryz.prog wr #[u0,u1,u2,u3,.string { data:=#[] },z5] 93 4 u4 (by simp) (by simpa using (Array.all_eq_true.1 hone) 4 (by simp));have o5:=dM Tryz.prog wr #[u0,u1,u2,u3,u4,.slice none 0 0] 93 5 u5 (by simp) (by simpa using (Array.all_eq_true.1 hone) 5 (by simp));simp only[List.set_toArray,List.set]at o0 o1 o2 o3 o4 o5;have hn:=World.alloc_heap_new wr (.cells #[u0,u1,u2,u3,u4,u5] 93);have r0:(wr.alloc (.cells #[u0,u1,u2,u3,u4,u5] 93)).cell? ⟨wr.heap.size,0,none⟩=some u0:=(by simp only[World.cell?,hn];rfl);have q0:wr.cell? ⟨b,aa+k*6,none⟩=some u0:=(hB.cell (p:=⟨b,aa+k*6,none⟩) hb).trans (q 0 _ rfl);have q1:wr.cell? ⟨b,aa+k*6+1,none⟩=some u1:=(hB.cell (p:=⟨b,aa+k*6+1,none⟩) hb).trans (q 1 _ rfl);have q2:wr.cell? ⟨b,aa+k*6+2,none⟩=some u2:=(hB.cell (p:=⟨b,aa+k*6+2,none⟩) hb).trans (q 2 _ rfl)
     have q3:wr.cell? ⟨b,aa+k*6+3,none⟩=some u3:=(hB.cell (p:=⟨b,aa+k*6+3,none⟩) hb).trans (q 3 _ rfl);have q4:wr.cell? ⟨b,aa+k*6+4,none⟩=some u4:=(hB.cell (p:=⟨b,aa+k*6+4,none⟩) hb).trans (q 4 _ rfl);have q5:wr.cell? ⟨b,aa+k*6+5,none⟩=some u5:=(hB.cell (p:=⟨b,aa+k*6+5,none⟩) hb).trans (q 5 _ rfl);have r1:(wr.alloc (.cells #[u0,u1,u2,u3,u4,u5] 93)).cell? ⟨wr.heap.size,1,none⟩=some u1:=(by simp only[World.cell?,hn];rfl);have r2:(wr.alloc (.cells #[u0,u1,u2,u3,u4,u5] 93)).cell? ⟨wr.heap.size,2,none⟩=some u2:=(by simp only[World.cell?,hn];rfl);have r3:(wr.alloc (.cells #[u0,u1,u2,u3,u4,u5] 93)).cell? ⟨wr.heap.size,3,none⟩=some u3:=(by simp only[World.cell?,hn];rfl);have r4:(wr.alloc (.cells #[u0,u1,u2,u3,u4,u5] 93)).cell? ⟨wr.heap.size,4,none⟩=some u4:=(by simp only[World.cell?,hn];rfl);have r5:(wr.alloc (.cells #[u0,u1,u2,u3,u4,u5] 93)).cell? ⟨wr.heap.size,5,none⟩=some u5:=(by simp only[World.cell?,hn];rfl);have hba:Below w.heap.size wr (wr.alloc (.cells #[u0,u1,u2,u3,u4,u5] 93)):=(Below.refl _ _).alloc hB.size _;have hEd:kA (wr.alloc (.cells #[u0,u1,u2,u3,u4,u5] 93)).heap.size (wr.alloc (.cells #[u0,u1,u2,u3,u4,u5] 93)) d.2 [u1,u2,u3,u4,u5]:=by
      obtain⟨v0,v1,v2,v3,v4,e,_,h⟩:=Hb;simp only[List.cons.injEq,and_true]at e;obtain⟨_,rfl,rfl,rfl,rfl,rfl⟩:=e;exact kA.mono (by have:=hB.size;simp;omega) _ _ (h.below' (hB.trans hba))
     have hcn:=hN d (cB hd) u1 u2 u3 u4 u5 _ hEd
     go_wp2_with (go_at_call 167;refine hcn.mono ?_;rintro e X ⟨nv,rfl,hrow,hbX⟩;obtain⟨na,nc,rfl⟩:=ZT hrow)
     have hcell:=ZU hrow;have hblt:=hrow.lt;have hsU:uB+1<wr.heap.size:=(Array.getElem?_eq_some_iff.1 hG).1;have hsX:wr.heap.size+1<=X.heap.size:=(by have:=hbX.size;simpa using this);have hkX:∀c,c<wr.heap.size->X.heap[c]? =wr.heap[c]? :=λc hc=>(hbX.block c (by simp;omega)).trans (Below.heap_alloc _ _ c hc);obtain⟨L,hL⟩:∃L,xJ d.2.names=L:=⟨_,rfl⟩;rw[hL]at hrow hcell;have hLl:L.length<=1000000000000:=(by rw[<- hL];exact Nat.le_trans (aeA _) (hnl d (cB hd)));have hLs:∀s∈L,s.length<=maxLen:=by
      intro s hs;rw[<- hL]at hs;obtain⟨x,hx,rfl⟩:=akZ hs;have:=kA.fY d.2 _ hEd x hx;simpa using this
     go_loopw [43] (λ i V=>∃q:Nat,q<=L.length/\i= .int .i64 q/\NgI X uB us ds (ds.length -k -1) (L.take q) V)
      (λ i _=>L.length -(intOf i).toNat)
     case atStart=>
      refine⟨0,Nat.zero_le _,rfl,none,0,_,rfl,World.grownBy.refl _ _,?_,World.ownsRow_nil _ _ _ _⟩;rw[hkX uB (by omega),hU,show ds.length -k=(ds.length -k -1)+1 by omega,List.replicate_succ];rfl
     case round=>
      obtain⟨q,hq,rfl,va,vc,v,rfl,t6,th,wn⟩:=hrel;by_cases ws:q<L.length
      ·obtain⟨nm,hnm⟩:∃nm,L[q]? =some nm:=⟨_,dI ws⟩;obtain⟨g,rfl,hg1,hg2,hgc⟩:=hcell (by omega);have c0:wr.cell? ⟨g,q,none⟩=some (encStr nm):=(t6.cell_far ⟨g,q,none⟩ hg2 (by simp at hg1 ⊢;omega)).trans (hgc q _ (by rw[List.getElem?_map,hnm];rfl));have hkey:keyOf Tryz.prog 9 (encStr nm)=some (.string nm):=by
        have:=ak7 ⟨nm.toArray⟩ (by have:=hLs nm (cB hnm);simpa[ByteArray.size]using this);simpa using this
       have hMV:wr.ownsMap Tryz.prog 9 (plainElem (H:=Unit) Tryz.prog 3) w.heap.size ds.length (Uv ds ds.length):=by
        obtain⟨es,ck,h1,h2⟩:=hM;exact⟨es,ck,(t6.block _ (by omega) (by simp;omega)).trans ((hkX _ (by omega)).trans h1),h2⟩
       have hlk:(iC ds (L.take q)).length<=1000000000000:=Nat.le_trans (List.length_filterMap_le _ _) (by rw[List.length_take];omega);have pT:=ajp hMV hkey;cases hix:Pp ds nm ds.length with
       |none=>
        rw[hix]at pT;simp only[Option.isSome,Option.getD]at pT
        go_wp2
        have hstep:iC ds (L.take (q+1))=iC ds (L.take q):=(by rw[X4 ds L q hnm,hix];exact List.append_nil _);exact⟨⟨q+1,by omega,by go_num,va,vc,_,rfl,t6,by rw[hstep];exact th,by rw[hstep];exact wn⟩,by simp[intOf];omega⟩
       |some m=>
        rw[hix]at pT;simp only[Option.isSome,Option.getD]at pT
        go_wp2
        have hstep:iC ds (L.take (q+1))=iC ds (L.take q)++[m]:=(by rw[X4 ds L q hnm,hix];rfl);have hVX:X.heap.size<=wr.heap.size:=t6.size;have cG:wr.cell? ⟨uB+1,1,none⟩=some (.slice (some ⟨uB,0,none⟩) ds.length ds.length):=by
         have h1:=(t6.block (uB+1) (by omega) (by simp)).trans ((hkX _ (by omega)).trans hG);simp[World.cell?,h1]
        have cU:wr.cell? ⟨uB,k,none⟩=some (.slice va (iC ds (L.take q)).length vc):=(by rw[<- sn];simp[World.cell?,th]);have cF:wr.frozen? ⟨uB,k,none⟩=false:=(by simp[World.frozen?,th]);have cF2:∀o,(wr.alloc o).drew.frozen? ⟨uB,k,none⟩=false:=λo=>by
         have h1:=(Below.heap_alloc wr o uB (Array.getElem?_eq_some_iff.1 th).1).trans th;show(wr.alloc o).frozen? _=_;simp[World.frozen?,h1]
        have hk0:(0:Int)<=(k:Int):=Int.natCast_nonneg _;have hk1:(k:Int)<(ds.length:Int):=(by omega);have zg:(Value.slice va (iC ds (L.take q)).length vc).ownBlock≠some uB:=λe=>(by have:=(wn.lt _ e).1;omega);have PC:(Value.slice va (iC ds (L.take q)).length vc).ownBlock≠some (uB+1):=λe=>(by have:=(wn.lt _ e).1;omega);have cU2:=World.new_ne wr ⟨uB,k,none⟩ cU;have cU3:∀o,(wr.alloc o).drew.cell? ⟨uB,k,none⟩=some (.slice va (iC ds (L.take q)).length vc):=λo=>by
         have h1:=(Below.heap_alloc wr o uB (Array.getElem?_eq_some_iff.1 th).1).trans th;show(wr.alloc o).cell? _=_;rw[<- sn];simp[World.cell?,h1]
        have cG3:∀o,(wr.alloc o).drew.cell? ⟨uB+1,1,none⟩=some (.slice (some ⟨uB,0,none⟩) ds.length ds.length):=λo=>by
         have h0:=(t6.block (uB+1) (by omega) (by simp)).trans ((hkX _ (by omega)).trans hG);have h1:=(Below.heap_alloc wr o (uB+1) (Array.getElem?_eq_some_iff.1 h0).1).trans h0;show(wr.alloc o).cell? _=_;simp[World.cell?,h1]
        have cG4:=cG3 (.cells #[.int .i64 m] 3);have cU4:=cU3 (.cells #[.int .i64 m] 3);have cF4:=cF2 (.cells #[.int .i64 m] 3)
        go_region_law ((refine step_append_lies _ (by rfl) _ _ _ (by rfl) X.heap.size 3 iI _ 1 8 Tryz.underlying71 hiI Pa O2 OS rfl (by omega) _ _ _ (by rfl) ((wn.alloc _).drew) ⟨wr.heap.size,0,none⟩ 1 1 [.int .i64 m] (by rfl) (by rfl) (World.news_of_block (cs:=#[.int .i64 m]) (t:=3) (fr:=(0,0)) (heap_alloc_new wr _)) (by simp[Value.oneCell']) (by omega) (by unfold maxLen;omega) (by omega) (by simp;omega) (wr.heap.size+1) (by simp) ?_;intro gg cap w1 hown1 hgrow hat hlt;have cU1:w1.cell? ⟨uB,k,none⟩=some (.slice va (iC ds (L.take q)).length vc):=(by rw[hgrow.cell_far _ (by simp;omega) (Ne.symm zg)];exact cU3 _);have cG1:w1.cell? ⟨uB+1,1,none⟩=some (.slice (some ⟨uB,0,none⟩) ds.length ds.length):=(by rw[hgrow.cell_far _ (by simp;omega) (Ne.symm PC)];exact cG3 _);have cF1:w1.frozen? ⟨uB,k,none⟩=false:=(by rw[hgrow.frozen_far _ (by simp;omega) (Ne.symm zg)];exact cF2 _)))
        all_goals go_wp2
        all_goals exact⟨⟨_,_,_,.int .i64 ((q:Int)+1),⟨q+1,by omega,by go_num,ak8 t6 th sn hgrow zg (λ b e=>(wn.lt b e).1) hown1 hstep hat⟩,rfl,rfl,rfl,rfl⟩,by simp[intOf];omega⟩
      ·obtain rfl:q=L.length:=by omega
       go_wp2
       rw[List.take_length]at th wn;subst Pl;have hgw:∀c,c<Iv.heap.size->c≠uB->wr.heap[c]? =Iv.heap[c]? :=λc hc hne=>(t6.block c (by omega) (by simp;omega)).trans (hkX c hc);refine⟨⟨k+1,by omega,by go_num,us++[.slice va (iC ds L).length vc],by simp[sn],?_,?_,?_,?_,?_⟩,by simp[intOf];omega⟩
       ·rw[th];congr 3;simp[Nat.sub_sub]
       ·exact(hgw (uB+1) (by omega) (by omega)).trans hG
       ·obtain⟨es,ck,h1,h2⟩:=hM;exact⟨es,ck,(hgw _ (by omega) (by omega)).trans h1,h2⟩
       ·exact(((hB.trans hba).trans (hbX.mono (by simp;have:=hB.size;omega))).grown t6 (by have:=hB.size;omega) (λ j e=>by cases e;omega))
       ·intro j v hj;rw[List.getElem?_append]at hj;split at hj
        ·obtain⟨d',hd',ho⟩:=ut j v hj;exact⟨d',hd',agT ho (by omega) hgw⟩
        ·rename_i hjl;have hj0:j -us.length=0:=by
          cases h:j -us.length with
          |zero=>rfl
          |succ z=>rw[h]at hj;simp at hj
         rw[hj0]at hj;simp only[List.getElem?_cons_zero,aA]at hj;subst hj;refine⟨d,by rw[show j=k by omega];exact hd,?_⟩;rw[hL];refine⟨wn.1,wn.2.imp id ?_⟩;rintro⟨g,cap,cur,h1,h2,h3⟩;exact⟨g,cap,cur,h1,by omega,h3⟩
    ·obtain rfl:k=ds.length:=by omega
     go_wp2
     go_ret
     exact⟨uB,rfl,hmu,us,sn,by simpa using hU,hG,hB,ut⟩
end Go.Proofs
namespace Go.Proofs
open Go.RowKit Go.Shelf
set_option maxHeartbeats 1000000 in
theorem ak9(x y:Nat)(hx:x<18446744073709551616)(hy:y<18446744073709551616)(w:World):
 Calls Tryz.prog 257 #[.int .u64 x,.int .u64 y] w λe w'=>e= .returned (.tuple #[.int .u64 ((x*y/18446744073709551616:Nat):Int),.int .u64 ((x*y%18446744073709551616:Nat):Int)])/\w'=w:=by
 obtain⟨bd,bt,bw,hhi⟩:=Lib.mul64_hi x y hx hy;have ba:=Lib.half_mul_le (a:=x/4294967296) (b:=y/4294967296) (by omega) (by omega);have bb:=Lib.half_mul_le (a:=x/4294967296) (b:=y%4294967296) (by omega) (by omega);have bc:=Lib.half_mul_le (a:=x%4294967296) (b:=y/4294967296) (by omega) (by omega);have ba':x/4294967296*(y/4294967296)<18446744073709551616:=by omega
 have bb':x/4294967296*(y%4294967296)<18446744073709551616:=by omega
 have bc':x%4294967296*(y/4294967296)<18446744073709551616:=by omega
 have bh1:x/4294967296*(y/4294967296)+(x/4294967296*(y%4294967296)+x%4294967296*(y%4294967296)/4294967296)/4294967296<18446744073709551616:=by omega
 have bh:x/4294967296*(y/4294967296)+(x/4294967296*(y%4294967296)+x%4294967296*(y%4294967296)/4294967296)/4294967296+((x/4294967296*(y%4294967296)+x%4294967296*(y%4294967296)/4294967296)%4294967296+x%4294967296*(y/4294967296))/4294967296<18446744073709551616:=by omega
 go_enter Tryz.func257,Tryz.ntmps257
 go_wp2
 simp only[Mul64.maskN x hx,Mul64.maskN y hy,Mul64.divN,Mul64.mulN,Mul64.addN,Mul64.wrapN _ bd,Mul64.wrapN _ bb',Mul64.wrapN _ bt,Mul64.maskN _ bt,Mul64.wrapN _ bc',Mul64.wrapN _ bw,Mul64.wrapN _ ba',Mul64.wrapN _ bh1,Mul64.wrapN _ bh,Mul64.wrapM (x*y)];rw[hhi]
 go_ret2
 exact⟨rfl,rfl⟩
set_option maxHeartbeats 1000000 in
theorem anQ(x y:Nat)(hx:x<18446744073709551616)(hy:y<18446744073709551616)(w:World):
 Calls Tryz.prog 242 #[.int .u64 x,.int .u64 y] w λe w'=>e= .returned (.tuple #[.int .u64 ((x*y/18446744073709551616:Nat):Int),.int .u64 ((x*y%18446744073709551616:Nat):Int)])/\w'=w:=by
 go_enter Tryz.func242,Tryz.ntmps242
 go_wp2_with (go_at_call 257;refine(ak9 x y hx hy _).mono ?_;rintro e w' ⟨rfl,hw⟩;rw[hw])
 go_ret2
 exact⟨rfl,rfl⟩
theorem amr(c:Nat)(hc:c<=1000000000000)(w:World):
 Calls Tryz.prog 242 #[.int .u64 1,.int .u64 c] w λe w'=>e= .returned (.tuple #[.int .u64 0,.int .u64 c])/\w'=w:=by
 have h:=anQ 1 c (by decide) (by omega) w;rw[show 1*c/18446744073709551616=0 by omega,show 1*c%18446744073709551616=c by omega]at h;exact h
theorem aij:(Tryz.prog.info? 3).map (λ i=>(i.zero,i.size,i.bytes))=some (some (.int .i64 0),1,8):=by kernel_rfl
def pr(x:Int)(m c:Nat):List Value:=List.replicate m (.int .i64 x)++List.replicate (c -m) (.int .i64 0)
theorem agU(x:Int)(m k c:Nat)(h:m+k<=c):splice (pr x m c) m (List.replicate k (.int .i64 x))=pr x (m+k) c:=by
 have h1:(pr x m c).take m=List.replicate m (.int .i64 x):=by simp[pr]
 have h2:(pr x m c).drop (m+k)=List.replicate (c -(m+k)) (.int .i64 0):=by
  rw[pr,List.drop_append];simp[Nat.sub_sub,show m+k -m=k by omega]
 rw[splice,h1,List.length_replicate,h2,<- aK,List.replicate_append_replicate,pr]
theorem ams{P:Program}{am:Array Oper}{o:Oper}{a:Act}{w w':World}{K:Act->World->Prop}{Q:Exit->Act->World->Prop}{E:Prop}(hgd:o.guard=none)(d s:Operand)(dT sT:TypeId)
 (ho:o.op= .call { callee:= .builtin .copy,args:=#[d,s],argTypes:=#[dT,sT] }) {D S v:Value} (hd:a.eval d=D) (hs:a.eval s=S) (hrun:(Builtin.copy_ #[dT,sT] o.type #[D,S]).run P w= .ok v w') (h:K (a.put o.dst v) w'):
 if Region.wanted o (yielded am a.tmps)=true then Oper.wp P o a w K Q else E:=by
 have hw:Region.wanted o (yielded am a.tmps)=true:=by simp[Region.wanted,hgd]
 rw[aP hw];unfold Oper.wp;simp[execOp,ho,resolve,invoke,builtin,hd,hs,hrun,Result.andThen];exact h
theorem aik{x:Int}{m k c g dCap sCap sLen dLen:Nat}{a:Addr}{W:World}(hg:W.heap[g]? =some (.cells (pr x m c).toArray 3))(h:m+k<=c)(hk:k=Nat.min sLen dLen)
 (hsrc:∀j v,(List.replicate k (Value.int .i64 x))[j]? =some v->W.cell? (a.add j)=some v):
 ∃W1,(Builtin.copy_ #[71,71] 3 #[.slice (some ⟨g,m,none⟩) dLen dCap,.slice (some a) sLen sCap]).run Tryz.prog W= .ok (.int .i64 k) W1/\W1.heap[g]? =some (.cells (pr x (m+k) c).toArray 3)/\∀B w0,Below B w0 W->B<=g->Below B w0 W1:=by
 obtain⟨i0,hi,hz0,hz1,hz2⟩:=info_parts aij;have hone:∀v∈List.replicate k (Value.int .i64 x),v.oneCell'=true:=λv hv=>by rw[(List.mem_replicate.1 hv).2];rfl
 have hrun:=run_copy_row (P:=Tryz.prog) W 71 71 3 3 g m dLen dCap a sLen sCap (pr x m c).toArray 3 (List.replicate k (.int .i64 x)) Tryz.underlying71 (by rw[hi];simp[hz1]) hg (by simpa using hk) hsrc (by simp[pr];omega) hone;rw[List.length_replicate]at hrun;refine⟨_,hrun,?_,λB w0 hb hB=>below_setRow hb hB _⟩;have:=setRow_heap W g _ (pr x (m+k) c).toArray 3 _ hg;rw[<- agU x m k c h]at this ⊢;simpa[splice]using this
set_option maxRecDepth 100000 in
set_option maxHeartbeats 4000000 in
theorem ajr(x:Int)(c:Nat)(hc:c<=1000000000000)(a:Addr)(cap:Nat)(w:World)(hx:w.cell? a=some (.int .i64 x)):
 Calls Tryz.prog 225 #[.slice (some a) 1 cap,.int .i64 c] w λe W'=>∃v,e= .returned v/\W'.ownsRow w.heap.size 3 1 v c (List.replicate c (.int .i64 x))/\Below w.heap.size w W':=by
 have h0:(0:Int)<=(c:Int):=Int.natCast_nonneg _;obtain⟨i0,hi,hz0,hz1,hz2⟩:=info_parts aij;have hms:=run_make (P:=Tryz.prog) w 71 3 i0 (.int .i64 0) Tryz.underlying71 hi hz0 .i64 .i64 c c (by omega) (Int.le_refl _) (by rw[hz2];omega) (by omega);rw[hz1]at hms;simp only[Int.toNat_natCast,Nat.mul_one,Value.cells]at hms;obtain⟨uk,tR⟩:∃uk,madeCells #[Value.int .i64 0] c=uk:=⟨_,rfl⟩;rw[tR]at hms;have hgm:=heap_alloc_new w (.cells uk 3);have C3:uk=(pr x 0 c).toArray:=by rw[<- tR];apply Array.ext';rw[toList_madeCells_one];simp[pr]
 rw[C3]at hgm hms;have QP:Below w.heap.size w (w.alloc (.cells (pr x 0 c).toArray 3)):=(Below.refl _ _).alloc (aQ _) _;have hsz1:(Tryz.prog.info? 3).map (·.size)=some 1:=by rw[hi];simp[hz1]
 go_enter Tryz.func225,Tryz.ntmps225
 have hone:∀k,∀v∈List.replicate k (Value.int .i64 x),v.oneCell'=true:=λk v hv=>by rw[(List.mem_replicate.1 hv).2];rfl
 have hab:a.block<w.heap.size:=World.block_lt_of_cell? w a hx;obtain⟨W1,hcp,hg1,hb1⟩:=aik (k:=min 1 c) (sLen:=1) (dLen:=c) (dCap:=c) (sCap:=cap) (a:=a) hgm (by omega) rfl λj v hj=>by
  have hj0:=(dm.1 hj).1;rw[List.length_replicate]at hj0;obtain rfl:j=0:=by omega
  rw[List.getElem?_replicate,aP hj0]at hj;cases hj;have:=(Below.refl w.heap.size w).alloc (aQ _) (.cells (pr x 0 c).toArray 3) |>.cell hab;rw[<- hx,<- this];rfl
 have hb1:=hb1 _ _ QP (aQ _);rw[Nat.zero_add]at hg1;obtain⟨m0,hm0⟩:∃m0,min 1 c=m0:=⟨_,rfl⟩;rw[hm0]at hcp hg1
 go_wp2_with (go_at_call 242;refine(amr c hc _).mono ?_;rintro e w' ⟨rfl,hw⟩;rw[hw])
 go_loopw [8] (λ i W=>∃m:Nat,m<=c/\(0<c->0<m)/\i= .int .i64 m/\W.heap[w.heap.size]? =some (.cells (pr x m c).toArray 3)/\Below w.heap.size w W)
  (λ i _=>c -(intOf i).toNat)
 case atStart=>exact⟨m0,by omega,by omega,rfl,hg1,hb1⟩
 case round=>
  obtain⟨m,hm,hmp,rfl,hgW,hbW⟩:=hrel;by_cases hlt:m<c
  ·have hm1:(0:Int)<=(m:Int):=Int.natCast_nonneg _;have hm2:(m:Int)<=(c:Int):=(by omega);have hcm:¬c=m:=(by omega);obtain⟨W2,hcp2,hg2,hb2⟩:=aik (W:=wr.drew) (k:=min m (c -m)) (sLen:=m) (dLen:=c -m) (dCap:=c -m) (sCap:=c) (a:=⟨w.heap.size,0,none⟩) (show wr.drew.heap[w.heap.size]? =_ from hgW) (by omega) rfl λj v hj=>by
    have hj0:=(dm.1 hj).1;rw[List.length_replicate]at hj0;rw[List.getElem?_replicate,aP hj0]at hj;have h1:(pr x m c)[j]? =some (.int .i64 x):=(by rw[pr,List.getElem?_append_left (by simp;omega),List.getElem?_replicate,aP (by omega)]);show wr.cell? _=_;rw[<- hj,<- h1];cases j with
    |zero=>simp[World.cell?,Addr.add,hgW]
    |succ j=>simp[World.cell?,Addr.add,hgW]
   have hb2:=hb2 w.heap.size w (show Below w.heap.size w wr.drew from⟨hbW.os,hbW.tape,hbW.output,hbW.size,hbW.block⟩) (aQ _);obtain⟨k,hk⟩:∃k,min m (c -m)=k:=⟨_,rfl⟩;rw[hk]at hcp2 hg2
   go_wp2
   go_region_held3 (λ _=>True) (trivial) ((refine ams (by rfl) _ _ _ _ (by rfl) (by simp[Act.eval,hcm]) (by rfl) hcp2 ?_))
   have hw:i64.wrap ((m:Int)+(k:Int))=((m+k:Nat):Int):=(by rw[IntKind.wrap_i64];omega);rw[hw]
   go_wp2
   exact⟨⟨m+k,by omega,by omega,rfl,hg2,hb2⟩,by simp[intOf];omega⟩
  ·obtain rfl:m=c:=by omega
   go_wp2
   go_ret
   exact⟨_,rfl,⟨by simp,.inr ⟨w.heap.size,m,_,rfl,aQ _,hgW,aQ _,by unfold maxLen;omega,by simp[pr],by simp[pr]⟩⟩,hbW⟩
end Go.Proofs
namespace Go.Proofs
open Go.Shelf
def Tryz.lays144_ren:Go.Shelf.Ren:=⟨λ | 144=>126 | 143=>159 | 219=>195 | 217=>217 | 225=>218 | 224=>219 | 267=>220 | 266=>238 | 314=>239 |n=>n,λ | 9=>9 | 4=>4 | 3=>3 | 5=>5 | 46=>218 | 146=>310 | 51=>261 |n=>n,λ | 1=>0 |n=>n⟩
theorem Tryz.lays144:Go.Proofs.Lays.n144 Tryz.prog Tryz.lays144_ren:={
 mixed:=by kernel_rfl
 f143:=Tryz.func159.trans (congrArg some (by kernel_rfl))
 f144:=Tryz.func126.trans (congrArg some (by kernel_rfl))
 f217:=Tryz.func217.trans (congrArg some (by kernel_rfl))
 f219:=Tryz.func195.trans (congrArg some (by kernel_rfl))
 f224:=Tryz.func219.trans (congrArg some (by kernel_rfl))
 f225:=Tryz.func218.trans (congrArg some (by kernel_rfl))
 f266:=Tryz.func238.trans (congrArg some (by kernel_rfl))
 f267:=Tryz.func220.trans (congrArg some (by kernel_rfl))
 f314:=Tryz.func239.trans (congrArg some (by kernel_rfl))
 t3:=Tryz.underlying3
 a3:=Tryz.isAgg3
 z3:=Tryz.sizeOf3
 v3:=Tryz.zeroValue3
 t4:=Tryz.underlying4
 a4:=Tryz.isAgg4
 z4:=Tryz.sizeOf4
 v4:=Tryz.zeroValue4
 t5:=Tryz.underlying5
 a5:=Tryz.isAgg5
 z5:=Tryz.sizeOf5
 v5:=Tryz.zeroValue5
 t9:=Tryz.underlying9
 a9:=Tryz.isAgg9
 z9:=Tryz.sizeOf9
 v9:=Tryz.zeroValue9
 t46:=Tryz.underlying218
 a46:=Tryz.isAgg218
 z46:=Tryz.sizeOf218
 v46:=Tryz.zeroValue218
 t51:=Tryz.underlying261
 a51:=Tryz.isAgg261
 z51:=Tryz.sizeOf261
 v51:=Tryz.zeroValue261
 t146:=Tryz.underlying310
 a146:=Tryz.isAgg310
 z146:=Tryz.sizeOf310
 v146:=Tryz.zeroValue310
 g1:=by kernel_rfl }
theorem aeD(s sub:ByteArray)(m:Int)(w:World)(hs:s.size<4294967281)(hm:w.cell? ⟨0,0,none⟩=some (.int .i64 m)):
 Calls Tryz.prog 126 #[.string s,.string sub] w λe w'=>e= .returned (.bool (Lib.contains s.data.toList sub.data.toList))/\w'=w:=Any.strings_Contains Tryz.lays144 s sub m w hs hm
end Go.Proofs
