import Derived.Test.YtnagaonenljjiaaGreatL1
import Derived.Maps.Own
import Derived.RangeFuncOwn
import Derived.Deep.WholeRow
import Derived.WalkKit
import Derived.Maps.Views
import Derived.Sort.KeysCollected
import Derived.Lib.IndexMore
import Derived.RangeFuncNested
import Derived.RangeFuncBound
import Derived.RangeFuncLeaves
import Derived.Shelf.Abstract
import Derived.OwnWalkIn
import Derived.TacticsInMore
import Derived.LoopNIn
import Derived.LoopIn
import Derived.Shelf.SlIter.Nil
import Derived.Shelf.SortM.Plain
import Derived.Shelf.SortM.SortNone
import Derived.Ground.GgzProg
import Derived.Ground.SlgmProg
import Derived.Test.YtnagaonenljjiaaGreatChecked
import Derived.Maps.AppendAt
import Derived.Maps.OwnIn
import Derived.Maps.RangeWalk
import Derived.Maps.OwnSet
import Derived.Deep.RegionHeld3
import Derived.Deep.AppendLies
import Derived.Deep.RegionLaw
import Derived.Deep.DrawnRows
import Derived.Shelf.Bits.Mul64
import Derived.Laws.CopyOwn
import Derived.Shelf.Strings.Search3
import Derived.Ground.NamesProg
open Go.IntKind (i64)
open List (mem_map cons_append length_nil map_nil)
namespace Go.Proofs
open Go.RowKit Go.Maps Go.Sort
attribute [local go_sem] Oper.semAt_some
inductive ET where
 |mk (op:Int) (s:ByteArray) (args:List ET)
mutual
def ET.names:ET->List ByteArray
 | .mk op s args=>(if op=1 then [s]else [])++ET.du args
def ET.du:List ET->List ByteArray
 |[]=>[]
 |t::ts=>t.names++ET.du ts
end
section
variable (n0:Nat) (W:World)
mutual
def kA:ET->List Value->Prop
 | .mk op s args,vs=>∃n key sl,(vs=[.int .i64 op,.int .i64 n,.string s,.string key,sl]/\args.length<=4611686018427387904/\s.size<=maxLen)/\((args=[]/\∃a cap,sl= .slice a 0 cap)\/∃b aa cap,sl= .slice (some ⟨b,aa,none⟩) args.length cap/\b<n0/\fg args b aa)
def fg:List ET->Nat->Nat->Prop
 |[],_,_=>True
 |t::ts,b,aa=>(∃ vs:List Value,(∀ j v,vs[j]? =some v->W.cell? ⟨b,aa+j,none⟩=some v)/\kA t vs)/\fg ts b (aa+5)
end
end
mutual
theorem kA.below{n0:Nat}{A B:World}(h:Below n0 A B):∀(t:ET)(vs:List Value),kA n0 A t vs->kA n0 B t vs
 | .mk op s args,vs,ha=>by
  simp only[kA]at ha ⊢;obtain⟨n,key,sl,h1,h2⟩:=ha;refine⟨n,key,sl,h1,h2.imp id ?_⟩;rintro⟨b,aa,cap,e,hb,hs⟩;exact⟨b,aa,cap,e,hb,fg.below h args b aa hb hs⟩
theorem fg.below{n0:Nat}{A B:World}(h:Below n0 A B):∀(ts:List ET)(b aa:Nat),b<n0->fg n0 A ts b aa->fg n0 B ts b aa
 |[],_,_,_,_=>by simp[fg]
 |t::ts,b,aa,hb,hs=>by
  simp only[fg]at hs ⊢;obtain⟨⟨vs,h1,h2⟩,h3⟩:=hs;exact⟨⟨vs,λj v hj=>(h.cell (p:=⟨b,aa+j,none⟩) hb).trans (h1 j v hj),kA.below h t vs h2⟩,fg.below h ts b (aa+5) hb h3⟩
end
theorem kA.below'{n0:Nat}{A B:World}{t:ET}{vs:List Value}(ha:kA n0 A t vs)(h:Below n0 A B):kA n0 B t vs:=kA.below h t vs ha
theorem fg.get{n0:Nat}{W:World}:∀{ts:List ET}{b aa i:Nat}{t:ET},fg n0 W ts b aa->ts[i]? =some t->∃vs:List Value,(∀ j v,vs[j]? =some v->W.cell? ⟨b,aa+i*5+j,none⟩=some v)/\kA n0 W t vs
 |t::ts,b,aa,0,t',h,hi=>by
  simp only[fg]at h;simp at hi;subst hi;simpa using h.1
 |t::ts,b,aa,i+1,t',h,hi=>by
  simp only[fg]at h;obtain⟨vs,h1,h2⟩:=fg.get h.2 (by simpa using hi);exact⟨vs,λj v hj=>by rw[show aa+(i+1)*5+j=aa+5+i*5+j by omega];exact h1 j v hj,h2⟩
mutual
theorem kA.mono{n0 n1:Nat}{W:World}(hn:n0<=n1):∀(t:ET)(vs:List Value),kA n0 W t vs->kA n1 W t vs
 | .mk op s args,vs,ha=>by
  simp only[kA]at ha ⊢;obtain⟨n,key,sl,h1,h2⟩:=ha;refine⟨n,key,sl,h1,h2.imp id ?_⟩;rintro⟨b,aa,cap,e,hb,hs⟩;exact⟨b,aa,cap,e,by omega,fg.mono hn args b aa hs⟩
theorem fg.mono{n0 n1:Nat}{W:World}(hn:n0<=n1):∀(ts:List ET)(b aa:Nat),fg n0 W ts b aa->fg n1 W ts b aa
 |[],_,_,_=>by simp[fg]
 |t::ts,b,aa,hs=>by
  simp only[fg]at hs ⊢;obtain⟨⟨vs,h1,h2⟩,h3⟩:=hs;exact⟨⟨vs,h1,kA.mono hn t vs h2⟩,fg.mono hn ts b (aa+5) h3⟩
end
theorem ET.mN(ts:List ET)(i:Nat){t:ET}(h:ts[i]? =some t):ET.du (ts.take (i+1))=ET.du (ts.take i)++t.names:=by
 induction ts generalizing i with
 |nil=>simp at h
 |cons x xs ih=>
  cases i with
  |zero=>simp at h;subst h;simp[ET.du]
  |succ i=>simp only[List.take_succ_cons,ET.du,ih i (by simpa using h),aK]
theorem ET.te(ts:List ET)(i:Nat):(ET.du (ts.take i)).length<=(ET.du ts).length:=by
 induction ts generalizing i with
 |nil=>simp
 |cons x xs ih=>cases i with
  |zero=>simp[ET.du]
  |succ i=>simp only[List.take_succ_cons,ET.du,dF];have:=ih i;omega
theorem ET.p4{op:Int}{s:ByteArray}{args:List ET}{i:Nat}{t:ET}{x:ByteArray}(h:args[i]? =some t)(hx:x∈t.names):x∈(ET.mk op s args).names:=by
 simp only[ET.names,aV];refine .inr ?_;clear op s
 induction args generalizing i with
 |nil=>simp at h
 |cons y ys ih=>
  simp only[ET.du,aV];cases i with
  |zero=>simp at h;subst h;exact .inl hx
  |succ i=>exact .inr (ih (by simpa using h))
abbrev FA(l:List ByteArray):List Lit:=l.map λs=> .string s.data.toList
def yw(l:List ByteArray):DataW Unit:=setOf (.lit (.bool true)) (FA l)
theorem ad7(l:List ByteArray)(s:ByteArray):yw (l++[s])=(yw l).put (.string s.data.toList) (.lit (.bool true)):=by simp[yw,setOf]
theorem W8(l:List ByteArray):∀x∈FA l,WideAt.IsKeyLit x:=by
 intro x hx;obtain⟨s,_,rfl⟩:=mem_map.1 hx;trivial
theorem aaT:∀(xs L:List Lit),(xs.foldl addKey L).length<=L.length+xs.length
 |[],L=>by simp
 |x::xs,L=>by
  have h:=aaT xs (addKey L x);have h2:(addKey L x).length<=L.length+1:=by unfold addKey;split<;>simp
  simp only[List.foldl_cons,bE];omega
theorem ad8(l:List ByteArray):Maps.size (yw l)<=l.length:=by
 rw[yw,size_setOf _ _ (W8 l)];simpa using aaT (FA l) []
def rx(l:List (List UInt8)):List (List UInt8):=l.foldr (λ x a=>if x∈a then a else x::a) []
theorem Va(x:List UInt8):∀l,x∈rx l↔x∈l
 |[]=>by simp[rx]
 |y::l=>by
  have h:=Va x l;show x∈(if y∈rx l then rx l else y::rx l)↔_;split
  ·rename_i hy;rw[aO,h];exact⟨.inr,λe=>e.elim (λ e=>by rw[e];exact(Va y l).1 hy) id⟩
  ·rw[aO,aO,h]
theorem Rf:∀l,(rx l).Nodup
 |[]=>List.nodup_nil
 |y::l=>by
  show(if y∈rx l then rx l else y::rx l).Nodup;split
  ·exact Rf l
  ·rename_i hy;exact List.nodup_cons.2 ⟨hy,Rf l⟩
def xw(l:List ByteArray):List (List UInt8):=(rx (l.map (·.data.toList))).mergeSort leB
theorem akv:∀l,(rx l).length<=l.length
 |[]=>by simp[rx]
 |y::l=>by
  have:=akv l;show(if y∈rx l then rx l else y::rx l).length<=_;split<;>simp<;>omega
theorem ad9(l:List ByteArray):(xw l).length<=l.length:=by
 rw[xw,List.length_mergeSort];simpa using akv (l.map (·.data.toList))
theorem akw{l:List ByteArray}{s:List UInt8}(h:s∈xw l):∃x∈l,s=x.data.toList:=by
 rw[xw,List.mem_mergeSort,Va]at h;obtain⟨x,hx,rfl⟩:=mem_map.1 h;exact⟨x,hx,rfl⟩
theorem agl(l:List ByteArray){es:List (Lit×DataW Unit)}(e:yw l= .map es)(hk:∀p∈es,∃x,p.1= .string x):(rx (l.map (·.data.toList))).Perm (strKeys (yw l)):=by
 have ht:=tidy_setOf (H:=Unit) (.lit (.bool true)) (FA l) (W8 l);have hh:=λk=>has_setOf (H:=Unit) (.lit (.bool true)) k (FA l) (W8 l);obtain⟨es',e',hp⟩:=ht;obtain rfl:es=es':=by have:=e.symm.trans e';injection this
 rw[e];refine perm_strKeys hp hk (Rf _) λx=>?_;rw[<- e,yw,hh,Va];constructor
 ·intro h;obtain⟨z,hz,rfl⟩:=mem_map.1 h;exact List.any_eq_true.2 ⟨_,mem_map.2 ⟨z,hz,rfl⟩,WideAt.sameKey_self trivial⟩
 ·intro h;obtain⟨y,hy,hs⟩:=List.any_eq_true.1 h;obtain⟨z,hz,rfl⟩:=mem_map.1 hy;have:=WideAt.sameKey_eq hs;injection this with this;exact mem_map.2 ⟨z,hz,this⟩
mutual
theorem kA.fX{n0:Nat}{W:World}:∀(t:ET)(vs:List Value),kA n0 W t vs->∀x∈t.names,x.size<=maxLen
 | .mk op s args,vs,h,x,hx=>by
  simp only[kA]at h;obtain⟨n,key,sl,⟨_,_,hs⟩,h2⟩:=h;simp only[ET.names,aV]at hx;rcases hx with hx |hx
  ·split at hx
   ·rw[aY]at hx;rw[hx];exact hs
   ·cases hx
  ·rcases h2 with ⟨rfl,_⟩ |⟨b,aa,cap,_,_,h3⟩
   ·simp[ET.du]at hx
   ·exact fg.fX args b aa h3 x hx
theorem fg.fX{n0:Nat}{W:World}:∀(ts:List ET)(b aa:Nat),fg n0 W ts b aa->∀x∈ET.du ts,x.size<=maxLen
 |[],_,_,_,x,hx=>by simp[ET.du]at hx
 |t::ts,b,aa,h,x,hx=>by
  simp only[fg]at h;obtain⟨⟨vs,_,h1⟩,h2⟩:=h;simp only[ET.du,aV]at hx;exact hx.elim (kA.fX t vs h1 x) (fg.fX ts b (aa+5) h2 x)
end
mutual
def ET.wt:ET->Nat
 | .mk _ s args=>1+s.size+ET.sB args
def ET.sB:List ET->Nat
 |[]=>0
 |t::ts=>t.wt+ET.sB ts
end
mutual
theorem ET.oA:∀t:ET,t.names.length<=t.wt
 | .mk op s args=>by
  have:=ET.pL args;simp only[ET.names,ET.wt,dF];split<;>simp<;>omega
theorem ET.pL:∀ts:List ET,(ET.du ts).length<=ET.sB ts
 |[]=>by simp[ET.du]
 |t::ts=>by
  have h1:=ET.oA t;have h2:=ET.pL ts;simp only[ET.du,ET.sB,dF];omega
end
theorem ET.p5:∀ts:List ET,ts.length<=ET.sB ts
 |[]=>aP _
 |t::ts=>by
  have:=ET.p5 ts;have h:1<=t.wt:=by cases t;simp only[ET.wt];omega
  simp only[ET.sB,bE];omega
theorem dK(P:Program)(W:World)(c:Array Value)(t:TypeId)(j:Nat)(u:Value)(hj:j<c.size)(h1:u.oneCell'=true):
 (store ⟨W.heap.size,j,none⟩ u).run P (W.alloc (.cells c t))= .ok () (W.alloc (.cells (c.set j u) t)):=by
 have hn:=World.alloc_heap_new W (.cells c t);rw[run_store _ _ _ _ _ h1];have hr:=World.setRow_alloc_new W c (c.set j u) t;simp only[stored,World.cell?,World.frozen?,hn,Array.getElem?_eq_getElem hj];have hz:(decide (0<=j)&&decide (j<0))=false:=by simp
 simp only[hz,Option.isSome_none,Bool.false_eq_true,if_false,<- hr];congr 1;simp only[World.setCell,World.setRow,World.alloc];congr 1;apply Array.ext_getElem?;intro i;rw[Array.getElem?_modify,Array.getElem?_modify];by_cases h:W.heap.size=i
 ·subst h;simp[Array.setIfInBounds,hj]
 ·simp[h]
end Go.Proofs
namespace Go.Gb
open Go.RowKit Go.Proofs
mutual
def py:ET->List Tree->Prop
 | .mk op s args,r=>∃n key rows,r=[.sc (.int .i64 op),.sc (.int .i64 n),.sc (.string s),.sc (.string key),.sl rows]/\s.size<=maxLen/\args.length<=4611686018427387904/\kq args rows
def kq:List ET->List (List Tree)->Prop
 |[],rows=>rows=[]
 |t::ts,rows=>∃r rs,rows=r::rs/\py t r/\kq ts rs
end
theorem kq.len:∀{ts:List ET}{rows:List (List Tree)},kq ts rows->rows.length=ts.length
 |[],rows,h=>by simp only[kq]at h;subst h;rfl
 |t::ts,rows,h=>by
  simp only[kq]at h;obtain⟨r,rs,rfl,_,h⟩:=h;simp[h.len]
theorem py.len{t:ET}{r:List Tree}(h:py t r):r.length=5:=by
 cases t;simp only[py]at h;obtain⟨_,_,_,rfl,_⟩:=h;rfl
theorem Nk{w:World}{I:Nat->Prop}:∀{r:List Tree}{b aa:Nat},dp w I r b aa->∃vs:List Value,eJ w I r vs/\∀j v,vs[j]? =some v->w.cell? ⟨b,aa+j,none⟩=some v
 |[],b,aa,_=>⟨[],trivial,λj v h=>by simp at h⟩
 |x::xs,b,aa,h=>by
  simp only[dp]at h;obtain⟨⟨c,hc,hx⟩,h2⟩:=h;obtain⟨vs,h3,h4⟩:=Nk h2;refine⟨c::vs,⟨hx,h3⟩,λj v hj=>?_⟩;cases j with
  |zero=>simp at hj;subst hj;exact hc
  |succ j=>have:=h4 j v (by simpa using hj);rw[<- this];congr 2;omega
mutual
theorem akx{w:World}{I:Nat->Prop}{n0:Nat}(hI:∀b,I b->b<n0):∀(t:ET)(r:List Tree)(vs:List Value),py t r->eJ w I r vs->kA n0 w t vs
 | .mk op s args,r,vs,h,hv=>by
  simp only[py]at h;obtain⟨n,key,rows,rfl,hs,hl,h⟩:=h
  match vs,hv with
  |[a,b,c,d,e],hv=>
   simp only[eJ,TR]at hv;obtain⟨⟨rfl,_⟩,⟨rfl,_⟩,⟨rfl,_⟩,⟨rfl,_⟩,he,_⟩:=hv;simp only[kA];refine⟨n,key,e,⟨rfl,hl,hs⟩,?_⟩;have hlen:=h.len;rcases he with ⟨rfl,a,cap,rfl,_⟩ |⟨b,aa,cap,sz,rfl,_,hb,hr⟩
   ·exact .inl ⟨List.eq_nil_of_length_eq_zero hlen.symm,_,_,rfl⟩
   ·exact .inr ⟨b,aa,cap,by rw[hlen],hI b hb,ahN hI args rows b aa sz h hr⟩
theorem ahN{w:World}{I:Nat->Prop}{n0:Nat}(hI:∀b,I b->b<n0):∀(ts:List ET)(rows:List (List Tree))(b aa sz:Nat),kq ts rows->cg w I rows b aa sz->fg n0 w ts b aa
 |[],_,_,_,_,_,_=>by simp[fg]
 |t::ts,rows,b,aa,sz,h,hr=>by
  simp only[kq]at h;obtain⟨r,rs,rfl,h1,h2⟩:=h;simp only[cg]at hr;obtain⟨rfl,h3,h4⟩:=hr;obtain⟨vs,h5,h6⟩:=Nk h3;simp only[fg];rw[h1.len]at h4;exact⟨⟨vs,h6,akx hI t r vs h1 h5⟩,ahN hI ts rs b (aa+5) 5 h2 h4⟩
end
theorem aiX{P:Program}{α:Type}{enc:α->Value}(h1:∀x,oneCell (enc x)){E:TypeId}{w w':World}{β:Nat->Option cE}{I:Nat->Prop}{l:List α}{v:Value}(hlt:∀b,I b->b<w.heap.size)
 (hown:w'.ownsRow w.heap.size E 1 v l.length (l.map enc)):Mn P (xp w β []) 1 (l.map λs=>[.sc (enc s)]) w' I v:=by
 rcases hown.2 with ⟨rfl,h0⟩ |⟨g,cap,cur,rfl,hg,hgb,hle,_,hcs,htk⟩
 ·exact .inl ⟨by rw[List.eq_nil_of_length_eq_zero h0];rfl,rfl⟩
 ·refine .inr ⟨g,cur,E,cap,0,0,by simp,⟨.inr hg,λk o hk=>by simp[LU]at hk⟩,λhi=>absurd (hlt g hi) (by omega),hgb,by simpa using hle,by omega,?_,λ_=>rfl⟩;rw[sQ];intro i x hx;simp only[aL,List.map_map,List.getElem?_map,eO]at hx;obtain⟨s,hs',rfl⟩:=hx;refine⟨rfl,?_⟩;have hi:i<l.length:=(cO.1 hs').1;have:=congrArg (λ q=>q[i]?) htk;simp only[List.getElem?_take,List.getElem?_map,hs',Option.map_some]at this;rw[aN (by omega)]at this;simp only[Function.comp,aC,map_nil,cP,VR,TR];exact⟨⟨_,by simpa using this,⟨rfl,h1 s⟩,h1 s⟩,trivial⟩
end Go.Gb
namespace Go.Proofs
open Go.RowKit Go.Maps
def MY(n0:Nat)(W:World)(d:ByteArray×ET)(vs:List Value):Prop:=∃v0 v1 v2 v3 v4,vs=[.string d.1,v0,v1,v2,v3,v4]/\d.1.size<=maxLen/\kA n0 W d.2 [v0,v1,v2,v3,v4]
def E7(n0:Nat)(W:World)(ds:List (ByteArray×ET))(sv:Value):Prop:=
 (ds=[]/\∃a cap,sv= .slice a 0 cap)\/∃b aa cap,sv= .slice (some ⟨b,aa,none⟩) ds.length cap/\b<n0/\∀j d,ds[j]? =some d->∃vs:List Value,(∀ k v,vs[k]? =some v->W.cell? ⟨b,aa+j*6+k,none⟩=some v)/\MY n0 W d vs
theorem E7.below{n0:Nat}{A B:World}{ds:List (ByteArray×ET)}{sv:Value}(hd:E7 n0 A ds sv)(h:Below n0 A B):E7 n0 B ds sv:=by
 refine hd.imp id ?_;rintro⟨b,aa,cap,rfl,hb,hr⟩;refine⟨b,aa,cap,rfl,hb,λj d hj=>?_⟩;obtain⟨vs,h1,v0,v1,v2,v3,v4,rfl,h2,h3⟩:=hr j d hj;exact⟨_,λk v hk=>(h.cell (p:=⟨b,aa+j*6+k,none⟩) hb).trans (h1 k v hk),v0,v1,v2,v3,v4,rfl,h2,h3.below' h⟩
def O3(ds:List (ByteArray×ET))(s:List UInt8):Nat->Option Int
 | 0=>none
 |k+1=>if (ds.getD k (⟨#[]⟩,.mk 0 ⟨#[]⟩ [])).1.data.toList=s then some k else O3 ds s k
def iy(ds:List (ByteArray×ET))(l:List (List UInt8)):List Int:=l.filterMap λs=>O3 ds s ds.length
abbrev Xx(l:List Int):List Value:=l.map (Value.int .i64)
def oP(ds:List (ByteArray×ET)):List (List Int):=ds.map λd=>iy ds (xw d.2.names)
def qT(ds:List (ByteArray×ET)):Nat:=ds.foldr (λ d n=>1+d.1.size+d.2.wt+n) 0
theorem Vb:∀ds:List (ByteArray×ET),ds.length<=qT ds
 |[]=>aP _
 |d::ds=>by have:=Vb ds;simp only[qT,List.foldr_cons,bE]at this ⊢;omega
theorem Vd:∀{ds:List (ByteArray×ET)}{d:ByteArray×ET},d∈ds->d.1.size+d.2.wt<=qT ds
 |x::ds,d,h=>by
  simp only[qT,List.foldr_cons];rcases aO.1 h with rfl |h
  ·omega
  ·have:=Vd h;simp only[qT]at this;omega
def amE(w:World)(uB:Nat)(sv:Value)(ds:List (ByteArray×ET))(TL TG TI:TypeId)(W:World):Prop:=
 ∃us:List Value,us.length=ds.length/\W.heap[uB]? =some (.cells us.toArray TL)/\W.heap[uB+1]? =some (.cells #[sv,.slice (some ⟨uB,0,none⟩) ds.length ds.length] TG)/\Below w.heap.size w W/\
  ∀(j:Nat)(v:Value),us[j]? =some v->∃d:ByteArray×ET,ds[j]? =some d/\W.ownsRow (uB+2) TI 1 v (iy ds (xw d.2.names)).length (Xx (iy ds (xw d.2.names)))
end Go.Proofs
namespace Go.Gb
open Go.RowKit Go.Proofs
def anO(d:ByteArray×ET)(r:List Tree):Prop:=∃a b c e f,r=[.sc (.string d.1),a,b,c,e,f]/\d.1.size<=maxLen/\py d.2 [a,b,c,e,f]
def kw:List (ByteArray×ET)->List (List Tree)->Prop
 |[],rows=>rows=[]
 |d::ds,rows=>∃r rs,rows=r::rs/\anO d r/\kw ds rs
theorem kw.len:∀{ts:List (ByteArray×ET)}{rows:List (List Tree)},kw ts rows->rows.length=ts.length
 |[],rows,h=>by simp only[kw]at h;subst h;rfl
 |t::ts,rows,h=>by
  simp only[kw]at h;obtain⟨r,rs,rfl,_,h⟩:=h;simp[h.len]
theorem ana{w:World}{I:Nat->Prop}{n0:Nat}(hI:∀b,I b->b<n0){d:ByteArray×ET}{r:List Tree}{vs:List Value}(h:anO d r)(hv:eJ w I r vs):MY n0 w d vs:=by
 obtain⟨a,b,c,e,f,rfl,hs,hr⟩:=h
 match vs,hv with
 |v::vs,hv=>
  simp only[eJ,TR]at hv;obtain⟨⟨rfl,_⟩,h2⟩:=hv;have he:=akx hI d.2 _ vs hr h2;obtain⟨v0,v1,v2,v3,v4,rfl⟩:∃v0 v1 v2 v3 v4,vs=[v0,v1,v2,v3,v4]:=by
   cases hd:d.2 with
   |mk op s args=>
    rw[hd]at he;simp only[kA]at he;obtain⟨_,_,_,⟨e,_⟩,_⟩:=he;exact⟨_,_,_,_,_,e⟩
  exact⟨v0,v1,v2,v3,v4,rfl,hs,he⟩
theorem aea{w:World}{I:Nat->Prop}{n0:Nat}(hI:∀b,I b->b<n0):∀(ds:List (ByteArray×ET))(rows:List (List Tree))(b aa sz:Nat),kw ds rows->cg w I rows b aa sz->
 ∀j d,ds[j]? =some d->∃vs:List Value,(∀ k v,vs[k]? =some v->w.cell? ⟨b,aa+j*6+k,none⟩=some v)/\MY n0 w d vs
 |[],_,_,_,_,_,_,j,d,h=>by simp at h
 |t::ts,rows,b,aa,sz,h,hr,j,d,hj=>by
  simp only[kw]at h;obtain⟨r,rs,rfl,h1,h2⟩:=h;simp only[cg]at hr;obtain⟨rfl,h3,h4⟩:=hr;obtain⟨vs,h5,h6⟩:=Nk h3;have h7:r.length=6:=by obtain⟨_,_,_,_,_,rfl,_⟩:=h1;rfl
  cases j with
  |zero=>
   simp only[List.getElem?_cons_zero,aA]at hj;subst hj;exact⟨vs,λk v hk=>by simpa using h6 k v hk,ana hI h1 h5⟩
  |succ j=>
   rw[h7]at h4;obtain⟨vs,g1,g2⟩:=aea hI ts rs b (aa+6) 6 h2 h4 j d (by simpa using hj);exact⟨vs,λk v hk=>by rw[show aa+(j+1)*6+k=aa+6+j*6+k by omega];exact g1 k v hk,g2⟩
theorem Xy{w:World}{I:Nat->Prop}{g:Nat}:∀(l:List Int)(aa:Nat),(∀ j v,(Xx l)[j]? =some v->w.cell? ⟨g,aa+j,none⟩=some v)->cg w I (l.map λi=>[.sc (.int .i64 i)]) g aa 1
 |[],_,_=>by simp[cg]
 |i::l,aa,h=>by
  simp only[aC,cg,dp,TR,bE,length_nil];refine⟨trivial,⟨⟨_,by simpa using h 0 _ rfl,rfl,trivial⟩,trivial⟩,Xy l (aa+1) λj v hj=>?_⟩;rw[show aa+1+j=aa+(j+1)by omega];exact h (j+1) v (by simpa using hj)
theorem Xz{w:World}{I:Nat->Prop}{b:Nat}:∀(us:List Value)(L:List (List Int))(aa:Nat),us.length=L.length->(∀ (j:Nat) (v:Value),us[j]? =some v->w.cell? ⟨b,aa+j,none⟩=some v)->
 (∀ (j:Nat) (v:Value) (l:List Int),us[j]? =some v->L[j]? =some l->TR w I (.sl (l.map λi=>[.sc (.int .i64 i)])) v)->cg w I (L.map λl=>[.sl (l.map λi=>[.sc (.int .i64 i)])]) b aa 1
 |us,[],_,_,_,_=>by simp[cg]
 |[],_::_,_,h,_,_=>by simp at h
 |u::us,l::L,aa,hl,h1,h2=>by
  simp only[aC,cg,dp,bE,length_nil];refine⟨trivial,⟨⟨u,by simpa using h1 0 u rfl,h2 0 u l rfl rfl⟩,trivial⟩,Xz us L (aa+1) (by simpa using hl) (λ j v hj=>?_) λj v l' hj hl'=>h2 (j+1) v l' (by simpa using hj) (by simpa using hl')⟩;rw[show aa+1+j=aa+(j+1)by omega];exact h1 (j+1) v (by simpa using hj)
theorem ab8{P:Program}{f:FuncId}{TL TG TI:TypeId}(hcall:iL P f){ds:List (ByteArray×ET)}{rows:List (List Tree)}(hr:kw ds rows)
 (h:∀(sv:Value)(w:World),E7 w.heap.size w ds sv->Calls P f #[sv] w λe W'=>∃uB,e= .returned (.pointer (some ⟨uB+1,0,none⟩))/\w.heap.size<uB/\amE w uB sv ds TL TG TI W'):
 CA P f [.t (.sl rows)] [] [(1000,⟨2,[[.t (.sl rows),.t (.sl ((oP ds).map λl=>[.sl (l.map λi=>[.sc (.int .i64 i)])]))]]⟩)] (.ptr 1000 0 0):=by
 refine⟨hcall,λw β I vs hβ hM hvs=>?_⟩;obtain⟨vs⟩:=vs
 match vs,hvs with
 |[sv],hvs=>
  have hv:TR w I (.sl rows) sv:=by have:=hvs.1;simpa only[VR]using this
  have hlen:=hr.len;have hS:E7 w.heap.size w ds sv:=by
   simp only[TR]at hv;rcases hv with ⟨rfl,a,cap,rfl,_⟩ |⟨b,aa,cap,sz,rfl,_,hb,hT⟩
   ·exact .inl ⟨List.eq_nil_of_length_eq_zero hlen.symm,_,_,rfl⟩
   ·exact .inr ⟨b,aa,cap,by rw[hlen],hM.lt b hb,aea hM.lt ds rows b aa sz hr hT⟩
  refine(h sv w hS).mono ?_;rintro e w' ⟨uB,rfl,huB,us,sk,hU,hG,hbel,uk⟩;have C0:uB+1<w'.heap.size:=(Array.getElem?_eq_some_iff.1 hG).1;obtain⟨I',hI'⟩:∃I':Nat->Prop,I'=λb=>I b\/(w.heap.size<=b/\b<w'.heap.size/\b≠uB+1):=⟨_,rfl⟩;have Q4:∀b,I b->I' b:=λb hb=>by rw[hI'];exact .inl hb
  obtain⟨hs,hM'⟩:=hM.below hbel (I':=I') Q4 (λ b hb=>by
   rw[hI']at hb;rcases hb with hb |hb
   ·exact Nat.lt_of_lt_of_le (hM.lt b hb) hbel.size
   ·exact hb.2.1) (λ b k o B h1 h2 h3 h4=>by simp[td]at h2) (λ b hb=>by
   rw[hI']at hb;rcases hb with hb |hb
   ·exact hM.up b hb
   ·exact .inr (.inr hb.1))
  have PB:TR w' I' (.sl rows) sv:=TR.mono hs Q4 _ _ hv;have hone:oneCell sv:=by
   simp only[TR]at hv;rcases hv with ⟨_,a,cap,rfl,_⟩ |⟨b,aa,cap,sz,rfl,_⟩<;>trivial
  have huv:TR w' I' (.sl ((oP ds).map λl=>[.sl (l.map λi=>[.sc (.int .i64 i)])])) (.slice (some ⟨uB,0,none⟩) ds.length ds.length):=by
   simp only[TR];refine .inr ⟨uB,0,ds.length,1,by simp[oP],by simp[oP],by rw[hI'];exact .inr ⟨by omega,by omega,by omega⟩,?_⟩;refine Xz us (oP ds) 0 (by simp[oP,sk]) (λ j v hj=>by simp[World.cell?,hU,hj]) λj v l hj hl=>?_;obtain⟨d,hd,ho⟩:=uk j v hj;have hle:l=iy ds (xw d.2.names):=(by simp[oP,hd]at hl;exact hl.symm);subst hle;simp only[TR];rcases ho.2 with ⟨rfl,h0⟩ |⟨g,cap,cur,rfl,hg,hgb,hle,_,hcs,htk⟩
   ·exact .inl ⟨by rw[List.eq_nil_of_length_eq_zero h0];rfl,_,_,rfl,λ_=>rfl⟩
   ·refine .inr ⟨g,0,cap,1,by simp,by simpa using hle,by rw[hI'];exact .inr ⟨by omega,(Array.getElem?_eq_some_iff.1 hgb).1,by omega⟩,Xy _ 0 λi x hx=>?_⟩;rw[<- htk,List.getElem?_take]at hx;split at hx
    ·simpa[World.cell?,hgb]using hx
    ·cases hx
  have hf:Mn P (λ b=>w.heap.size<=b) 2 [[.sl rows,.sl ((oP ds).map λl=>[.sl (l.map λi=>[.sc (.int .i64 i)])])]] w' I' (.slice (some ⟨uB+1,0,none⟩) 1 1):=by
   refine .inr ⟨uB+1,_,TG,1,0,0,rfl,by show w.heap.size<=uB+1;omega,λhb=>?_,hG,aP _,by simp,?_,λ_=>rfl⟩
   ·rw[hI']at hb;rcases hb with hb |hb
    ·exact absurd (hM.lt _ hb) (by omega)
    ·exact hb.2.2 rfl
   ·rw[sQ];intro i x hx;cases i with
    |succ i=>simp[aL]at hx
    |zero=>
     simp only[aL,aC,map_nil,List.getElem?_cons_zero,aA]at hx;subst hx;refine⟨rfl,?_⟩;simp only[cP,VR];exact⟨⟨_,rfl,PB,hone⟩,⟨_,rfl,huv,trivial⟩,trivial⟩
  obtain⟨β',hS',hM2,hV⟩:=hM'.fresh (i:=1000) (hβ 1000 (by simp)) (F:=λb=>w.heap.size<=b) (λ k o b h1 h2 h3=>by simp[td]at h1) (λ b h=> .inr h) hf;refine⟨_,β',I',rfl,?_,Q4,?_⟩
  ·have e:pj [(1000,(⟨2,[[.t (.sl rows),.t (.sl ((oP ds).map λl=>[.sl (l.map λi=>[.sc (.int .i64 i)])]))]]⟩:aU))]=bT (td []) [(1000,some ⟨2,aL [[.sl rows,.sl ((oP ds).map λl=>[.sl (l.map λi=>[.sc (.int .i64 i)])])]]⟩)]:=by
    funext k;simp only[pj,bT,td];by_cases h1:k=1000
    ·subst h1;simp[aL]
    ·rw[aM h1,aM (λ e=>h1 e.symm)];rfl
   rw[e];exact hM2
  ·simp only[VR]at hV ⊢;rcases hV with ⟨_,h,_⟩ |⟨b,sz,n,cap,o,hb,h,_,_,hc⟩
   ·cases h
   ·injection h with h1 h2 h3;injection h1 with h1;injection h1 with h1 h4;subst h1 h3;exact⟨_,sz,n,hb,by rw[<- hc (by omega),<- h4]⟩
end Go.Gb
namespace Go.Gb
open Go.RowKit Go.Proofs
theorem agm{P:Program}{f:FuncId}{E:TypeId}(hcall:iL P f){x:Int}{c:Nat}
 (h:∀(a:Addr)(cap:Nat)(w:World),w.cell? a=some (.int .i64 x)->Calls P f #[.slice (some a) 1 cap,.int .i64 c] w λe W'=>∃v,e= .returned v/\W'.ownsRow w.heap.size E 1 v c (List.replicate c (.int .i64 x))/\Below w.heap.size w W'):
 rI P f [.t (.sl [[.sc (.int .i64 x)]]),.t (.sc (.int .i64 (c:Int)))] [] [] (.one (.fresh 1 ((List.replicate c x).map λi=>[.sc (.int .i64 i)]))):=by
 refine⟨hcall,λw β I vs hβ hM hvs=>?_⟩;obtain⟨vs⟩:=vs
 match vs,hvs with
 |[a,b],hvs=>
  simp only[bj,VR,TR,cg,dp]at hvs;obtain⟨h1,⟨rfl,_⟩,_⟩:=hvs;rcases h1 with ⟨h0,_⟩ |⟨b,aa,cap,sz,rfl,_,hb,_,⟨⟨u,hu,rfl,_⟩,_⟩,_⟩
  ·cases h0
  refine(h _ cap w hu).mono ?_;rintro e w' ⟨v,rfl,hown,hbel⟩;obtain⟨hs,hM'⟩:=hM.below hbel (I':=I) (λ _ h=>h) (λ b hb=>Nat.lt_of_lt_of_le (hM.lt b hb) hbel.size) (λ b k o B h1 h2 h3 h4=>(hM.ownB k o B b h2 h3 h4).1 h1) hM.up;refine⟨v,I,rfl,hM',λ_ h=>h,?_⟩;have hown':w'.ownsRow w.heap.size E 1 v (List.replicate c x).length ((List.replicate c x).map (Value.int .i64)):=by simpa using hown
  exact aiX (enc:=Value.int .i64) (λ _=>trivial) hM.lt hown'
end Go.Gb
namespace Go.Gb
open Go.RowKit Go.Proofs
theorem ab9{P:Program}{f:FuncId}{g:Nat}(hg:S8 g=true)(hcall:iL P f){s b:ByteArray}
 (h:∀(m:Int)(w:World),w.cell? ⟨g,0,none⟩=some (.int .i64 m)->Calls P f #[.string s,.string b] w λe w'=>e= .returned (.bool (Lib.contains s.data.toList b.data.toList))/\w'=w):
 rI P f [.t (.sc (.string s)),.t (.sc (.string b))] [] [] (.one (.d (.s (.sc (.bool (Lib.contains s.data.toList b.data.toList)))))):=by
 refine⟨hcall,λw β I vs hβ hM hvs=>?_⟩;obtain⟨vs⟩:=vs
 match vs,hvs with
 |[a,c],hvs=>
  simp only[bj,VR,TR]at hvs;obtain⟨⟨rfl,_⟩,⟨rfl,_⟩,_⟩:=hvs;obtain⟨_,m,hm⟩:=hM.vars.2 g hg;refine(h m w hm).mono ?_;rintro e w' ⟨rfl,rfl⟩;obtain⟨hs,hM'⟩:=hM.below (Below.refl _ _) (I':=I) (λ _ h=>h) (λ b hb=>hM.lt b hb) (λ b k o B h1 h2 h3 h4=>(hM.ownB k o B b h2 h3 h4).1 h1) hM.up;refine⟨_,I,rfl,hM',λ_ h=>h,?_⟩;exact⟨rfl,trivial⟩
end Go.Gb
namespace Go.Gb
open Go.RowKit
def Kp(n0 B0:Nat)(W W':World):Prop:=Below n0 W W'/\∀b,B0<=b->b<W.heap.size->W'.heap[b]? =W.heap[b]?
theorem Kp.refl(n0 B0:Nat)(W:World):Kp n0 B0 W W:=⟨Below.refl _ _,λ_ _ _=>rfl⟩
theorem Kp.trans{n0 B0:Nat}{X Y Z:World}(h:Kp n0 B0 X Y)(k:Kp n0 B0 Y Z):Kp n0 B0 X Z:=
 ⟨h.1.trans k.1,λb hb hl=>(k.2 b hb (Nat.lt_of_lt_of_le hl h.1.size)).trans (h.2 b hb hl)⟩
theorem Kp.mono{n0 n1 B0 B1:Nat}{X Y:World}(h:Kp n0 B0 X Y)(hn:n1<=n0)(hb:B0<=B1):Kp n1 B1 X Y:=
 ⟨h.1.mono hn,λb h1 h2=>h.2 b (Nat.le_trans hb h1) h2⟩
theorem Kp.alloc{n0 B0:Nat}{X Y:World}(h:Kp n0 B0 X Y)(hn:n0<=Y.heap.size)(o:Obj):Kp n0 B0 X (Y.alloc o):=
 h.trans ⟨(Below.refl _ Y).alloc hn o,λb _ hl=>Below.heap_alloc Y o b hl⟩
theorem Kp.put{n0 B0:Nat}(W:World)(l:Nat)(o o':Obj)(h:W.heap[l]? =some o)(h1:n0<=l)(h2:l<B0):Kp n0 B0 W (W.putObj l o'):=
 ⟨(Below.refl n0 W).grown (grownBy_putObj' W l o') (by have:=(Array.getElem?_eq_some_iff.1 h).1;omega) (λ k e=>by cases e;omega),λb hb _=>World.putObj_heap_other (by omega)⟩
def uu{α:Type}(B0:Nat)(J:α->World->Prop):Prop:=∀s A B,J s A->Below B0 A B->J s B
theorem uu.and{α:Type}{B0:Nat}{I J:α->World->Prop}(h:uu B0 I)(k:uu B0 J):uu B0 λs W=>I s W/\J s W:=λs A B hs hb=>⟨h s A B hs.1 hb,k s A B hs.2 hb⟩
theorem uu.mono{α:Type}{B0 B1:Nat}{J:α->World->Prop}(h:uu B0 J)(hb:B0<=B1):uu B1 J:=λs A B hs hk=>h s A B hs (hk.mono hb)
theorem anb{α:Type}{n0 B0 B1:Nat}{w:World}(hw:w.heap.size<=B1)(hn:n0<=B1):uu B1 (λ (_:α) W=>Kp n0 B0 w W):=λ_ A B hs hb=>
 ⟨hs.1.trans (hb.mono hn),λb h1 h2=>(hb.block b (by omega)).trans (hs.2 b h1 h2)⟩
def anP{α:Type}(P:Program)(g:Nat)(lb:Array Value)(encs:α->Array Value)(n0:Nat)(ys:List α)(N:World->Prop)(w:World):Prop:=
 ∀(n l B0 L:Nat)(J:List α->World->Prop)(W:World),Below w.heap.size w W->n0<=B0->B0<=W.heap.size->uu B0 J->(∀ s W,J s W->N W)->
  (∀ m pre x W1,x∈ys->pre.length<L->J pre W1->B0<=W1.heap.size->YieldAt Fence.wide m P l (encs x) W1 λe W'=>e= .returned (.bool true)/\J (pre++[x]) W'/\Kp n0 B0 W1 W')->∀pre,pre.length+ys.length<=L->J pre W->
  CallsIn Fence.wide n P g (#[.func (.yield l) #[] #[]]++lb) W λe W'=>(∃ v,e= .returned v)/\J (pre++ys) W'/\Kp n0 B0 W W'
variable {n:Nat} {P:Program}
theorem Fg{α:Type}{g:Operand}{ps:Array Tmp}{assign body:Code}{Q:Exit->Act->World->Prop}{a:Act}{w:World}
 {gf:Nat} {lb:Array Value} (hg:a.eval g= .func (.func gf) #[] lb) (eg:∀args w,(callFunc gf args).run P w= .ok (.enter gf args) w)
 {encs:α->Array Value} {n0:Nat} {ys:List α} {N:World->Prop} {w0:World} (hseq:anP P gf lb encs n0 ys N w0) (hb0:Below w0.heap.size w0 w) (hn0:n0<=w.heap.size) (hps:∀x,(encs x).size=ps.size)
 (I:List α->World->Prop) (hI:uu w.heap.size I) (hN:∀s W,I s W->N W) (h0:I [] w) (a₁:α->Act)
 (hassign:∀(l:Nat)(x:α)(W:World)(K:Act->World->Prop),K (a₁ x) W->
  assign.wpIn (Fence.wide.inRound l) (n -1 -1) P (Exit.then K (λ _ _ _=>False)) { tmps:=(ps.zip (encs x)).foldl (λ t (p,v)=>t.setIfInBounds p v) a.tmps,defers:=[] } W)
 (hbody:∀(l:Nat)(pre:List α)(x:α)(W:World),x∈ys->pre.length<ys.length->I pre W->w.heap.size+2<=W.heap.size->body.wpIn (Fence.wide.inRound l) (n -1 -1) P (λ e _ W'=>e= .normal/\I (pre++[x]) W'/\Kp n0 w.heap.size W W') (a₁ x) W)
 (hdone:∀(D:Nat)(W:World),w.heap.size<=D->I ys W->Below n0 w W->W.heap[D]? =some (.deferred (some []))->Q .normal { a with defers:={ target:= .collected D,args:=#[] }::a.defers } W):
 (Code.rangeFunc g ps assign body).wpIn Fence.wide n P Q a w:=by
 refine wpIn_rangeFunc ?_;intro fn hfn;show _;obtain⟨rec,hrec⟩:∃rec:LoopState->Option Code->Loop,rec=λst pe=>{ state:=st,pending:=pe,fn,tmps:=a.tmps,params:=ps,assign,body,defers:=w.heap.size }:=⟨_,rfl⟩;obtain⟨W1,hW1⟩:∃W1,(w.alloc (.deferred (some []))).alloc (.loop (rec .ready none))=W1:=⟨_,rfl⟩;have hL1:W1.heap[w.heap.size+1]? =some (.loop (rec .ready none)):=by rw[<- hW1];have:=World.alloc_heap_new (w.alloc (.deferred (some []))) (.loop (rec .ready none));rwa [World.size_alloc]at this
 have hK1:W1.heap[w.heap.size]? =some (.deferred (some [])):=by rw[<- hW1];exact(Below.heap_alloc _ _ _ (by simp)).trans (World.alloc_heap_new w _)
 have hs1:W1.heap.size=w.heap.size+2:=by rw[<- hW1];simp
 have hb1:Below w.heap.size w W1:=by rw[<- hW1];exact((Below.refl _ w).alloc (aP _) _).alloc (by simp) _
 have hI1:I [] W1:=hI _ _ _ h0 hb1
 refine⟨w.heap.size+1,[{ target:= .collected w.heap.size,args:=#[] }],W1,{ target:= .fn (.func gf) lb,args:=#[.func (.yield (w.heap.size+1)) #[] #[]] },W1,gf,
  #[.func (.yield (w.heap.size+1)) #[] #[]]++lb,W1,?_,?_,?_,?_,λh=>by simp[Fence.wide]at h,?_⟩
 ·rw[<- hW1,hrec];exact run_enterLoop_outer _ _ _ _ _
 ·simp only[resolve,hg];simp[go_sem]
 ·intro f' hf';trivial
 ·simp[invoke,go_sem,eg]
 ·refine(hseq (n -1) (w.heap.size+1) (w.heap.size+2) ys.length (λ pre W=>I pre W/\W.heap[w.heap.size+1]? =some (.loop (rec .ready none))/\W.heap[w.heap.size]? =some (.deferred (some []))) W1
   (hb0.trans (hb1.mono hb0.size)) (by omega) (by omega) (λ s A B hs hb=>⟨hI s A B hs.1 (hb.mono (by omega)),(hb.block _ (by omega)).trans hs.2.1,(hb.block _ (by omega)).trans hs.2.2⟩) (λ s W h=>hN s W h.1) ?_ [] (by simp) ⟨hI1,hL1,hK1⟩).mono ?_
  ·rintro m pre x W hxy hpl ⟨hi,hl,hk⟩ hsz;have hlt:w.heap.size+1<W.heap.size:=(Array.getElem?_eq_some_iff.1 hl).1;have hy:=run_yield (P:=P) (args:=encs x) hl (by rw[hrec];exact hps x);rw[hrec]at hy
   suffices h:YieldAt Fence.wide (n -1 -1) P (w.heap.size+1) (encs x) W λe W'=>e= .returned (.bool true)/\(I (pre++[x]) W'/\W'.heap[w.heap.size+1]? =some (.loop (rec .ready none))/\W'.heap[w.heap.size]? =some (.deferred (some [])))/\Kp n0 (w.heap.size+2) W W' by
    obtain⟨f1,t1,c1,c2,h1,h2⟩:=h;exact⟨f1,t1,c1,c2,h1,h2.1,λc cs _=>h2.2 c cs (λ d h=>by simp[Fence.wide]at h)⟩
   refine⟨fn,_,assign,body,hy,roundIn_of_wpIn hfn (hassign _ x W _ ⟨_,run_beginRound hl (by rw[hrec]),?_⟩)⟩;have hl2:(W.putObj (w.heap.size+1) (.loop { rec .ready none with state:= .busy })).heap[w.heap.size+1]? =some (.loop { rec .ready none with state:= .busy }):=World.putObj_heap_same hlt;have hk2:(W.putObj (w.heap.size+1) (.loop { rec .ready none with state:= .busy })).heap[w.heap.size]? =some (.deferred (some [])):=(World.putObj_heap_other (by omega)).trans hk;have hw2:Kp n0 (w.heap.size+2) W (W.putObj (w.heap.size+1) (.loop { rec .ready none with state:= .busy })):=Kp.put _ _ _ _ hl (by omega) (by omega);have yr:∀o,(W.putObj (w.heap.size+1) o).heap.size=W.heap.size:=λo=>(by simp[World.putObj]);have hbw:Below w.heap.size W (W.putObj (w.heap.size+1) (.loop { rec .ready none with state:= .busy })):=(Kp.put (n0:=w.heap.size) (B0:=w.heap.size+2) _ _ _ _ hl (by omega) (by omega)).1;refine wpIn_mono (hbody _ pre x _ hxy hpl (hI _ _ _ hi hbw) (by rw[yr];omega)) ?_;rintro e a3 W3 ⟨rfl,hi3,hk3⟩;have hl3:=(hk3.2 (w.heap.size+1) (by omega) (by rw[yr];omega)).trans hl2;have hd3:=(hk3.2 w.heap.size (aP _) (by rw[yr];omega)).trans hk2;have hr:=run_endRound (P:=P) none hl3;rw[hrec]at hr;have y6:=hl3;rw[hrec]at y6;refine⟨_,_,hr,rfl,⟨hI _ _ _ hi3 (Kp.put (n0:=w.heap.size) (B0:=w.heap.size+2) _ _ _ _ y6 (by omega) (by omega)).1,?_,(World.putObj_heap_other (by omega)).trans hd3⟩,?_⟩
   ·rw[hrec];exact World.putObj_heap_same (Array.getElem?_eq_some_iff.1 hl3).1
   ·exact hw2.trans ((hk3.mono (aP _) (by omega)).trans (Kp.put _ _ _ _ y6 (by omega) (by omega)))
  ·rintro e W2 ⟨⟨v,rfl⟩,⟨hi,hl,hk⟩,hkp⟩;rw[bO]at hi;have he:=run_endLoop (P:=P) hl (by rw[hrec];simp);rw[hrec]at he;refine⟨none,_,he,hdone _ _ (aP _) (hI _ _ _ hi ?_) ?_ ((World.putObj_heap_other (by omega)).trans hk)⟩
   ·exact(Kp.put (n0:=w.heap.size) (B0:=w.heap.size+2) W2 _ _ _ hl (by omega) (by omega)).1
   ·exact((hb1.mono hn0).trans hkp.1).trans (Kp.put (n0:=n0) (B0:=w.heap.size+2) W2 _ _ _ hl (by omega) (by omega)).1
end Go.Gb
namespace Go.Proofs
open Go.RowKit Go.Maps Go.Sort Go.Shelf
def Tryz.keys212_ren:Go.Shelf.Ren:=⟨λ | 7=>212 | 10=>232 |n=>n,λ | 23=>176 | 26=>9 | 3=>4 | 28=>292 | 0=>0 | 27=>291 | 33=>147 | 4=>4 |n=>n,λ |n=>n⟩
theorem Tryz.keys212:Go.Proofs.SlLaysZ.n7 Tryz.prog Tryz.keys212_ren:={
 mixed:=by kernel_rfl
 f7:=⟨Tryz.f212.name,by decide,Tryz.func212.trans (congrArg some (by kernel_rfl))⟩
 f10:=⟨Tryz.f232.name,by decide,Tryz.func232.trans (congrArg some (by kernel_rfl))⟩
 t0:=Tryz.underlying0
 a0:=Tryz.isAgg0
 z0:=Tryz.sizeOf0
 v0:=Tryz.zeroValue0
 t4:=Tryz.underlying4
 a4:=Tryz.isAgg4
 z4:=Tryz.sizeOf4
 v4:=Tryz.zeroValue4
 t23:=Tryz.underlying176
 a23:=Tryz.isAgg176
 z23:=Tryz.sizeOf176
 v23:=Tryz.zeroValue176
 t26:=Tryz.underlying9
 a26:=Tryz.isAgg9
 z26:=Tryz.sizeOf9
 v26:=Tryz.zeroValue9
 t27:=Tryz.underlying291
 a27:=Tryz.isAgg291
 z27:=Tryz.sizeOf291
 v27:=Tryz.zeroValue291
 t28:=Tryz.underlying292
 a28:=Tryz.isAgg292
 z28:=Tryz.sizeOf292
 v28:=Tryz.zeroValue292
 t33:=Tryz.underlying147
 a33:=Tryz.isAgg147
 z33:=Tryz.sizeOf147
 v33:=Tryz.zeroValue147 }
def Tryz.sorted211_ren:Go.Shelf.Ren:=⟨λ | 6=>211 | 8=>230 | 9=>231 | 11=>248 | 13=>150 | 12=>249 | 23=>188 | 24=>189 | 14=>255 | 15=>256 | 16=>257 | 17=>258 | 18=>259 | 19=>260 | 20=>261 | 21=>262 | 22=>263 | 25=>267 | 26=>217 | 27=>218 | 28=>268 | 29=>269 | 30=>235 | 31=>270 |n=>n,λ | 26=>9 | 28=>292 | 24=>43 | 0=>0 | 3=>3 | 37=>228 | 48=>271 | 50=>273 | 4=>4 | 40=>265 | 39=>264 | 45=>216 | 5=>5 | 9=>9 | 51=>298 | 55=>302 | 57=>312 | 58=>201 | 33=>147 |n=>n,λ |n=>n⟩
theorem Tryz.sorted211:Go.Proofs.SlLaysZ.n6 Tryz.prog Tryz.sorted211_ren:={
 mixed:=by kernel_rfl
 f6:=⟨Tryz.f211.name,by decide,Tryz.func211.trans (congrArg some (by kernel_rfl))⟩
 f8:=⟨Tryz.f230.name,by decide,Tryz.func230.trans (congrArg some (by kernel_rfl))⟩
 f11:=⟨Tryz.f248.name,by decide,Tryz.func248.trans (congrArg some (by kernel_rfl))⟩
 t0:=Tryz.underlying0
 a0:=Tryz.isAgg0
 z0:=Tryz.sizeOf0
 v0:=Tryz.zeroValue0
 t24:=Tryz.underlying43
 a24:=Tryz.isAgg43
 z24:=Tryz.sizeOf43
 v24:=Tryz.zeroValue43
 t26:=Tryz.underlying9
 a26:=Tryz.isAgg9
 z26:=Tryz.sizeOf9
 v26:=Tryz.zeroValue9
 t28:=Tryz.underlying292
 a28:=Tryz.isAgg292
 z28:=Tryz.sizeOf292
 v28:=Tryz.zeroValue292
 i26:=by kernel_rfl }
def Tryz.sort231_ren:Go.Shelf.Ren:=⟨λ | 6=>231 | 8=>150 | 9=>249 | 19=>188 | 20=>189 | 21=>255 | 22=>256 | 23=>257 | 24=>258 | 25=>259 | 26=>260 | 27=>261 | 28=>262 | 29=>263 | 36=>267 | 31=>217 | 32=>218 | 37=>268 | 38=>269 | 39=>235 | 41=>270 |n=>n,λ | 27=>43 | 29=>9 | 3=>3 | 32=>228 | 26=>43 | 0=>0 | 44=>271 | 46=>273 | 4=>4 | 36=>265 | 35=>264 | 41=>216 | 5=>5 | 9=>9 | 53=>298 | 57=>302 | 63=>312 | 64=>201 |n=>n,λ |n=>n⟩
theorem Tryz.sort231:Go.Proofs.SlLaysM.n6 Tryz.prog Tryz.sort231_ren:={
 mixed:=by kernel_rfl
 f6:=⟨Tryz.f231.name,by decide,Tryz.func231.trans (congrArg some (by kernel_rfl))⟩
 f8:=Tryz.func150.trans (congrArg some (by kernel_rfl))
 f9:=⟨Tryz.f249.name,by decide,Tryz.func249.trans (congrArg some (by kernel_rfl))⟩
 f19:=Tryz.func188.trans (congrArg some (by kernel_rfl))
 f20:=Tryz.func189.trans (congrArg some (by kernel_rfl))
 f21:=⟨Tryz.f255.name,by decide,Tryz.func255.trans (congrArg some (by kernel_rfl))⟩
 f22:=⟨Tryz.f256.name,by decide,Tryz.func256.trans (congrArg some (by kernel_rfl))⟩
 f23:=⟨Tryz.f257.name,by decide,Tryz.func257.trans (congrArg some (by kernel_rfl))⟩
 f24:=⟨Tryz.f258.name,by decide,Tryz.func258.trans (congrArg some (by kernel_rfl))⟩
 f25:=⟨Tryz.f259.name,by decide,Tryz.func259.trans (congrArg some (by kernel_rfl))⟩
 f26:=⟨Tryz.f260.name,by decide,Tryz.func260.trans (congrArg some (by kernel_rfl))⟩
 f27:=⟨Tryz.f261.name,by decide,Tryz.func261.trans (congrArg some (by kernel_rfl))⟩
 f28:=⟨Tryz.f262.name,by decide,Tryz.func262.trans (congrArg some (by kernel_rfl))⟩
 f29:=⟨Tryz.f263.name,by decide,Tryz.func263.trans (congrArg some (by kernel_rfl))⟩
 f31:=Tryz.func217.trans (congrArg some (by kernel_rfl))
 f32:=Tryz.func218.trans (congrArg some (by kernel_rfl))
 f36:=⟨Tryz.f267.name,by decide,Tryz.func267.trans (congrArg some (by kernel_rfl))⟩
 f37:=⟨Tryz.f268.name,by decide,Tryz.func268.trans (congrArg some (by kernel_rfl))⟩
 f38:=⟨Tryz.f269.name,by decide,Tryz.func269.trans (congrArg some (by kernel_rfl))⟩
 f39:=⟨Tryz.f235.name,by decide,Tryz.func235.trans (congrArg some (by kernel_rfl))⟩
 f41:=⟨Tryz.f270.name,by decide,Tryz.func270.trans (congrArg some (by kernel_rfl))⟩
 t0:=Tryz.underlying0
 a0:=Tryz.isAgg0
 z0:=Tryz.sizeOf0
 v0:=Tryz.zeroValue0
 t3:=Tryz.underlying3
 a3:=Tryz.isAgg3
 z3:=Tryz.sizeOf3
 v3:=Tryz.zeroValue3
 t4:=Tryz.underlying4
 a4:=Tryz.isAgg4
 z4:=Tryz.sizeOf4
 v4:=Tryz.zeroValue4
 t5:=Tryz.underlying5
 a5:=Tryz.isAgg5
 z5:=Tryz.sizeOf5
 v5:=Tryz.zeroValue5
 t9:=Tryz.underlying9
 a9:=Tryz.isAgg9
 z9:=Tryz.sizeOf9
 v9:=Tryz.zeroValue9
 t26:=Tryz.underlying43
 a26:=Tryz.isAgg43
 z26:=Tryz.sizeOf43
 v26:=Tryz.zeroValue43
 t27:=Tryz.underlying43
 a27:=Tryz.isAgg43
 z27:=Tryz.sizeOf43
 v27:=Tryz.zeroValue43
 t29:=Tryz.underlying9
 a29:=Tryz.isAgg9
 z29:=Tryz.sizeOf9
 v29:=Tryz.zeroValue9
 t32:=Tryz.underlying228
 a32:=Tryz.isAgg228
 z32:=Tryz.sizeOf228
 v32:=Tryz.zeroValue228
 t35:=Tryz.underlying264
 a35:=Tryz.isAgg264
 z35:=Tryz.sizeOf264
 v35:=Tryz.zeroValue264
 t36:=Tryz.underlying265
 a36:=Tryz.isAgg265
 z36:=Tryz.sizeOf265
 v36:=Tryz.zeroValue265
 t41:=Tryz.underlying216
 a41:=Tryz.isAgg216
 z41:=Tryz.sizeOf216
 v41:=Tryz.zeroValue216
 t44:=Tryz.underlying271
 a44:=Tryz.isAgg271
 z44:=Tryz.sizeOf271
 v44:=Tryz.zeroValue271
 t46:=Tryz.underlying273
 a46:=Tryz.isAgg273
 z46:=Tryz.sizeOf273
 v46:=Tryz.zeroValue273
 t53:=Tryz.underlying298
 a53:=Tryz.isAgg298
 z53:=Tryz.sizeOf298
 v53:=Tryz.zeroValue298
 t57:=Tryz.underlying302
 a57:=Tryz.isAgg302
 z57:=Tryz.sizeOf302
 v57:=Tryz.zeroValue302
 t63:=Tryz.underlying312
 a63:=Tryz.isAgg312
 z63:=Tryz.sizeOf312
 v63:=Tryz.zeroValue312
 t64:=Tryz.underlying201
 a64:=Tryz.isAgg201
 z64:=Tryz.sizeOf201
 v64:=Tryz.zeroValue201 }
theorem Tryz.sorts211(m:Nat):AnyZ.SortsIn Tryz.prog Tryz.sorted211_ren Fence.wide m:=
 ⟨λ blk aa cap ss W hH hblk hsz=>callsIn_wide.2 (AnyM.slices_Sort_string Tryz.sort231 blk aa cap ss W hH hblk hsz),
  λp cap W=>callsIn_wide.2 (AnyM.slices_Sort_string_none Tryz.sort231 p cap W)⟩
theorem Tryz.maps_Keys_212(mb:Option Nat)(W:World):CallsIn Fence.wide 5 Tryz.prog 212 #[.map mb] W λe w'=>e= .returned (.func (.func 232) #[] #[.pointer (some ⟨W.heap.size,0,none⟩)])/\w'=W.alloc (.cells #[.map mb] 176):=
 AnyZ.keys_in Tryz.keys212 Fence.wide 5 trivial rfl mb W
set_option maxHeartbeats 1000000 in
theorem Tryz.slices_Sorted_keys_211_212{H:Type}(b nn:Nat)(D0:DataW H)(R:Value->Option (DataW H×List MemPlace))(w:World)(hown:w.ownsMap Tryz.prog 9 R b nn D0)(hmax:Maps.size D0<=maxLen)(hbytes:Maps.size D0*16<=140737488355328):
 CallsIn Fence.wide 5 Tryz.prog 211 #[.func (.func 232) #[] #[.pointer (some ⟨w.heap.size,0,none⟩)]] (w.alloc (.cells #[.map (some b)] 176)) λe w'=>∃(v:Value)(ss:List (List UInt8)),e= .returned v/\ss.Perm (strKeys D0)/\
  w'.ownsRow (w.alloc (.cells #[.map (some b)] 176)).heap.size 9 1 v ss.length ((ss.mergeSort (λ x y=>decide (x<=y))).map encStr)/\(v= .slice none 0 0↔ss=[])/\Below (w.alloc (.cells #[.map (some b)] 176)).heap.size (w.alloc (.cells #[.map (some b)] 176)) w':=by
 have hbl:=hown.lt;have hseq:SeqGives Fence.wide 2 Tryz.prog 232 #[.pointer (some ⟨w.heap.size,0,none⟩)] encStr (λ ss=>ss.Perm (strKeys D0)) (Maps.size D0) (w.alloc (.cells #[.map (some b)] 176)):=
  AnyZ.keys_gives (ρ:=Tryz.keys212_ren) { Tryz.keys212 with } Fence.wide _ trivial rfl (by omega) w.heap.size b nn D0 _ (by simp) (by simp) (by
   obtain⟨es,clock,hb,Ft,hs,hD⟩:=hown;exact⟨es,clock,(Below.heap_alloc _ _ b hbl).trans hb,Ft,hs,hD⟩)
 exact AnyZ.sorted_in Tryz.sorted211 Fence.wide 5 trivial trivial trivial trivial rfl (by omega) (Tryz.sorts211 _) (enters_of Tryz.func231 (by kernel_rfl) rfl) 232 #[.pointer (some ⟨w.heap.size,0,none⟩)] trivial (enters_of Tryz.func232 (by kernel_rfl) rfl) _ _ hmax hbytes _ hseq
end Go.Proofs
namespace Go.Proofs
open Go.RowKit Go.Shelf Go.Gb Go.Maps Go.Sort
attribute [local go_sem] Oper.semAt_some
set_option maxHeartbeats 1000000 in
theorem aeb(n:Nat)(v0 v1 v2 v3 v4:Value)(w:World):
 CallsIn Fence.wide n Tryz.prog 210 #[.agg #[v0,v1,v2,v3,v4]] w λe w'=>e= .returned (.func (.func 229) #[] #[.pointer (some ⟨w.heap.size,0,none⟩)])/\w'=w.alloc (.cells #[v0,v1,v2,v3,v4] 49):=by
 have hro:Fence.wide.round=none:=rfl;refine callsIn_of_wp Tryz.func210 rfl trivial ?_ hro;simp only[Tryz.ntmps210,List.size_toArray,bE,length_nil,Nat.reduceAdd,Nat.reduceSub,Array.replicate_succ,Array.replicate_zero,List.push_toArray,List.append_toArray,bO,cons_append]
 gi_wp2
 go_ret
 exact⟨rfl,rfl⟩
def aky(D:Nat):Deferred:={ target:= .collected D,args:=#[] }
theorem O4{P:Program}{fn:Func}{tmps:Array Value}{n:Nat}{R:Ending->World->Prop}:∀(Ds:List Nat)(W:World),Ds.Nodup->(∀ D∈Ds,W.heap[D]? =some (.deferred (some [])))->
 (∀ W',(∀ B,(∀ D∈Ds,B<=D)->Below B W W')->LeavesIn Fence.wide n P fn tmps R [] .returning W')->LeavesInM Fence.wide n P fn tmps R (Ds.map aky) .returning W
 |[],W,_,_,h=>h W λ_ _=>Below.refl _ _
 |D::Ds,W,hn,hd,h=>by
  simp only[List.nodup_cons]at hn;have hD:=hd D (by simp);refine⟨by simp,.inl ⟨D,_,rfl,run_takeDeferred hD,O4 Ds _ hn.2 (λ D' hD'=>?_) λW' hW'=>h W' λB hB=>?_⟩⟩
  ·rw[World.putObj_heap_other (by rintro rfl;exact hn.1 hD')];exact hd D' (by simp[hD'])
  ·have h1:=hB D (by simp);exact(Kp.put (n0:=B) (B0:=D+1) W D _ _ hD h1 (by omega)).1.trans (hW' B λD' h'=>hB D' (by simp[h']))
noncomputable def cS:Code->Code
 | .seq _ b=>b
 |c=>c
structure ane(p:Prop):Prop where
 h:p
theorem Nl{F:Fence}{n:Nat}{P:Program}{Q:Exit->Act->World->Prop}{a:Act}{w:World}{x y:Code}(h:∀K:Act->World->Prop,(∀ a w,ane (y.wpIn F n P Q a w)->K a w)->x.wpIn F n P (Exit.then K Q) a w):(Code.seq x y).wpIn F n P Q a w:=wpIn_seq_k λK hK=>h K λa w h=>hK a w h.h
noncomputable abbrev yf:Code:=cS (cS (Tryz.f229.body.getD .skip))
set_option maxRecDepth 100000 in
set_option maxHeartbeats 4000000 in
theorem akz:∀(k:Nat)(t:ET),SizeOf.sizeOf t<=k->∀(n0 Bx:Nat)(v0 v1 v2 v3 v4:Value)(w:World),n0<=Bx->Bx<w.heap.size->kA n0 w t [v0,v1,v2,v3,v4]->
 anP Tryz.prog 229 #[.pointer (some ⟨Bx,0,none⟩)] (λ s:ByteArray=>#[.string s]) n0 t.names (λ W=>W.heap[Bx]? =some (.cells #[v0,v1,v2,v3,v4] 49)) w
 | 0,.mk op s args,hk=>by simp at hk
 |k+1,.mk op s args,hk=>by
  intro n0 Bx v0 v1 v2 v3 v4 w hnB hBw hE n l B0 L J W hW hn0 hB0 hJ hN hY pre hpL hJ0;have hro:Fence.wide.round=none:=rfl;simp only[kA,List.cons.injEq,and_true]at hE;obtain⟨nn,key,sl,⟨⟨rfl,rfl,rfl,rfl,rfl⟩,hlen,hssz⟩,GT⟩:=hE;have hbx:=hN _ _ hJ0;have hB1:Below B0 W (W.alloc (.cells #[.func (.yield l) #[] #[]] 147)):=(Below.refl _ W).alloc hB0 _;have RM:Bx<W.heap.size:=(Array.getElem?_eq_some_iff.1 hbx).1;have GS:(W.alloc (.cells #[.func (.yield l) #[] #[]] 147)).heap[Bx]? =_:=(Below.heap_alloc W _ Bx RM).trans hbx;have c0:(W.alloc (.cells #[.func (.yield l) #[] #[]] 147)).cell? ⟨Bx,0,none⟩=some (.int .i64 op):=by simp[World.cell?,GS]
  have c2:(W.alloc (.cells #[.func (.yield l) #[] #[]] 147)).cell? ⟨Bx,2,none⟩=some (.string s):=by simp[World.cell?,GS]
  have bY:=Boxed.new W 147 (.func (.yield l) #[] #[]);have cY:=bY.cell;have hk1:Kp n0 B0 W (W.alloc (.cells #[.func (.yield l) #[] #[]] 147)):=(Kp.refl _ _ _).alloc (by omega) _
  have ag:∀(hd:List ByteArray)(Wb:World)(g6 g7 g8 g9 g10 g11 g12 g13 g14:Value),(if op=1 then [s]else [])=hd->J (pre++hd) Wb->Kp n0 B0 W Wb->Boxed Wb W.heap.size 147 (.func (.yield l) #[] #[])->
   yf.wpIn Fence.wide n Tryz.prog (bodyPostM Fence.wide n Tryz.prog Tryz.f229 λe W'=>(∃ v,e=Ending.returned v)/\J (pre++(ET.mk op s args).names) W'/\Kp n0 B0 W W')
    { tmps:=#[.func (.yield l) #[] #[],.pointer (some ⟨Bx,0,none⟩),.pointer (some ⟨W.heap.size,0,none⟩),undef,undef,undef,g6,g7,g8,g9,g10,g11,g12,g13,g14,.bool false,undef,undef,undef,undef,undef,undef,undef,undef,undef,undef,undef,undef,undef,undef,undef],defers:=[] } Wb:=by
   intro hd Wb g6 g7 g8 g9 g10 g11 g12 g13 g14 hhd hJb hkb bYb;have P4:=hN _ _ hJb;have c4:Wb.cell? ⟨Bx,4,none⟩=some v4:=(by simp[World.cell?,P4]);obtain⟨sa,sc,rfl⟩:∃sa sc,v4= .slice sa args.length sc:=by
    rcases GT with ⟨rfl,a,cap,rfl⟩ |⟨b,aa,cap,rfl,_⟩
    ·exact⟨_,_,rfl⟩
    ·exact⟨_,_,rfl⟩
   refine Nl λK hK=>?_
   gi_wp2
   refine⟨wpIn_block (wpIn_loop (λ a' W'=>∃(i:Nat) (Ds:List Nat) (g4 g5 g16 g20 g21 g22 g23 g24 g25 Se Sa R2 R1 R0:Value),i<=args.length/\
    a'={ tmps:=#[.func (.yield l) #[] #[],.pointer (some ⟨Bx,0,none⟩),.pointer (some ⟨W.heap.size,0,none⟩),undef,g4,g5,g6,g7,g8,g9,g10,g11,g12,g13,g14,.bool false,g16,.slice sa args.length sc,.int .i64 args.length,.int .i64 i,g20,g21,g22,g23,g24,g25,Se,Sa,R2,R1,R0],defers:=Ds.map aky }/\
    Ds.Nodup/\(∀ D∈Ds,W.heap.size<=D/\W'.heap[D]? =some (.deferred (some [])))/\J (pre++hd++ET.du (args.take i)) W'/\Kp n0 B0 W W'/\Boxed W' W.heap.size 147 (.func (.yield l) #[] #[]))
    (λ a' _=>args.length -(intOf (a'.tmps.getD 19 undef)).toNat)
    ⟨0,[],_,_,_,_,_,_,_,_,_,_,_,_,_,_,Nat.zero_le _,rfl,List.nodup_nil,by simp,by simpa[ET.du]using hJb,hkb,bYb⟩ ?_)⟩
   rintro a' W' ⟨i,Ds,g4,g5,g16,g20,g21,g22,g23,g24,g25,Se,Sa,R2,R1,R0,hi,rfl,hnd,hDs,Q2,hki,bYi⟩;by_cases hlt:i<args.length
   ·rcases GT with ⟨h0,_⟩ |⟨b,aa,cap,he,hb,hs⟩
    ·rw[h0]at hlt;exact absurd hlt (Nat.not_lt_zero _)
    simp only[Value.slice.injEq,true_and]at he;obtain⟨rfl,rfl⟩:=he;have hwi:Below n0 w W':=(hW.mono (by omega)).trans hki.1;obtain⟨ti,hti⟩:∃ti,args[i]? =some ti:=⟨_,dG hlt⟩;obtain⟨vs,q,Rg⟩:=(fg.below hwi args b aa hb hs).get hti;obtain⟨u0,u1,u2,u3,u4,rfl,hone⟩:∃u0 u1 u2 u3 u4,vs=[u0,u1,u2,u3,u4]/\(#[u0,u1,u2,u3,u4]:Array Value).all (·.oneCell')=true:=by
     cases ti;simp only[kA]at Rg;obtain⟨n',key',sl',⟨h,_⟩,h'⟩:=Rg;refine⟨_,_,_,_,_,h,?_⟩;rcases h' with ⟨_,_,_,rfl⟩ |⟨_,_,_,rfl,_⟩<;>simp[Value.oneCell']
    have o0:=λz1 z2 z3 z4=>dK Tryz.prog W' #[.int .i64 0,z1,z2,z3,z4] 49 0 u0 (by simp) (by simpa using (Array.all_eq_true.1 hone) 0 (by simp));have o1:=λz2 z3 z4=>dK Tryz.prog W' #[u0,.int .i64 0,z2,z3,z4] 49 1 u1 (by simp) (by simpa using (Array.all_eq_true.1 hone) 1 (by simp));have o2:=λz3 z4=>dK Tryz.prog W' #[u0,u1,.string { data:=#[] },z3,z4] 49 2 u2 (by simp) (by simpa using (Array.all_eq_true.1 hone) 2 (by simp));have o3:=λz4=>dK Tryz.prog W' #[u0,u1,u2,.string { data:=#[] },z4] 49 3 u3 (by simp) (by simpa using (Array.all_eq_true.1 hone) 3 (by simp));have o4:=dK Tryz.prog W' #[u0,u1,u2,u3,.slice none 0 0] 49 4 u4 (by simp) (by simpa using (Array.all_eq_true.1 hone) 4 (by simp));simp only[List.set_toArray,List.set]at o0 o1 o2 o3 o4;have hn:=World.alloc_heap_new W' (.cells #[u0,u1,u2,u3,u4] 49);have r0:(W'.alloc (.cells #[u0,u1,u2,u3,u4] 49)).cell? ⟨W'.heap.size,0,none⟩=some u0:=(by simp only[World.cell?,hn];rfl);have r1:(W'.alloc (.cells #[u0,u1,u2,u3,u4] 49)).cell? ⟨W'.heap.size,1,none⟩=some u1:=(by simp only[World.cell?,hn];rfl);have r2:(W'.alloc (.cells #[u0,u1,u2,u3,u4] 49)).cell? ⟨W'.heap.size,2,none⟩=some u2:=(by simp only[World.cell?,hn];rfl);have r3:(W'.alloc (.cells #[u0,u1,u2,u3,u4] 49)).cell? ⟨W'.heap.size,3,none⟩=some u3:=(by simp only[World.cell?,hn];rfl);have r4:(W'.alloc (.cells #[u0,u1,u2,u3,u4] 49)).cell? ⟨W'.heap.size,4,none⟩=some u4:=(by simp only[World.cell?,hn];rfl);have q0:W'.cell? ⟨b,aa+i*5,none⟩=some u0:=q 0 _ rfl;have q1:W'.cell? ⟨b,aa+i*5+1,none⟩=some u1:=q 1 _ rfl
    have q2:W'.cell? ⟨b,aa+i*5+2,none⟩=some u2:=q 2 _ rfl;have q3:W'.cell? ⟨b,aa+i*5+3,none⟩=some u3:=q 3 _ rfl;have q4:W'.cell? ⟨b,aa+i*5+4,none⟩=some u4:=q 4 _ rfl
    gi_wp2_with (refine ⟨trivial,λh=>by simp[Fence.wide]at h,?_⟩;refine(aeb (n -1) u0 u1 u2 u3 u4 _).mono ?_;rintro e w' ⟨rfl,rfl⟩)
    have PA:SizeOf.sizeOf ti<=k:=by
     have h1:=List.sizeOf_lt_of_mem (bZ hti);simp only[ET.mk.sizeOf_spec]at hk;omega
    obtain⟨Wd,hWd⟩:∃Wd,(W'.alloc (.cells #[u0,u1,u2,u3,u4] 49)).alloc (.cells #[u0,u1,u2,u3,u4] 49)=Wd:=⟨_,rfl⟩;have hsd:Wd.heap.size=W'.heap.size+2:=(by rw[<- hWd];simp);have hWsz:W.heap.size<=W'.heap.size:=hki.1.size;have hkd:Kp n0 B0 W' Wd:=(by rw[<- hWd];exact((Kp.refl _ _ _).alloc (by omega) _).alloc (by simp;omega) _);have hbd:Below W'.heap.size W' Wd:=(by rw[<- hWd];exact((Below.refl _ _).alloc (aP _) _).alloc (by simp) _);have hxd:Wd.heap[W'.heap.size+1]? =some (.cells #[u0,u1,u2,u3,u4] 49):=by
     rw[<- hWd];have:=World.alloc_heap_new (W'.alloc (.cells #[u0,u1,u2,u3,u4] 49)) (.cells #[u0,u1,u2,u3,u4] 49)
     rwa [World.size_alloc]at this
    rw[hWd];have hDl:∀D∈Ds,D<W'.heap.size:=λD hD=>(Array.getElem?_eq_some_iff.1 (hDs D hD).2).1
    refine Fg (gf:=229) (lb:=#[.pointer (some ⟨W'.heap.size+1,0,none⟩)]) rfl (enters_of Tryz.func229 (by kernel_rfl) rfl)
     (akz k ti PA n0 (W'.heap.size+1) u0 u1 u2 u3 u4 Wd (by omega) (by omega) (Rg.below' (hbd.mono (by omega)))) (Below.refl _ _) (by omega) (λ _=>rfl)
     (λ q X=>(J (pre++hd++ET.du (args.take i)++q) X/\Kp n0 B0 W X)/\(Boxed X W.heap.size 147 (.func (.yield l) #[] #[])/\(∀ D∈Ds,X.heap[D]? =some (.deferred (some []))))/\X.heap[W'.heap.size+1]? =some (.cells #[u0,u1,u2,u3,u4] 49))
     (λ s A B hs hb=>⟨⟨hJ _ _ _ hs.1.1 (hb.mono (by omega)),anb (α:=Unit) (B1:=Wd.heap.size) (by omega) (by omega) () A B hs.1.2 hb⟩,
      ⟨(hb.block _ (by omega)).trans hs.2.1.1,λD hD=>(hb.block _ (by have:=hDl D hD;omega)).trans (hs.2.1.2 D hD)⟩,(hb.block _ (by omega)).trans hs.2.2⟩)
     (λ s X hs=>hs.2.2)
     ⟨⟨by simpa using hJ _ _ _ Q2 (hbd.mono (by omega)),hki.trans hkd⟩,⟨(hbd.block _ (by have:=bYi.lt;omega)).trans bYi,λD hD=>(hbd.block _ (hDl D hD)).trans (hDs D hD).2⟩,hxd⟩
     (λ x=>{ tmps:=#[.func (.yield l) #[] #[],.pointer (some ⟨Bx,0,none⟩),.pointer (some ⟨W.heap.size,0,none⟩),undef,.pointer (some ⟨W'.heap.size,0,none⟩),.string x,g6,g7,g8,g9,g10,g11,g12,g13,g14,.bool false,g16,.slice (some ⟨b,aa,none⟩) args.length sc,.int .i64 args.length,.int .i64 i,.bool true,.pointer (some ⟨b,aa+i*5,none⟩),.agg #[u0,u1,u2,u3,u4],.agg #[u0,u1,u2,u3,u4],.func (.func 229) #[] #[.pointer (some ⟨W'.heap.size+1,0,none⟩)],.string x,Se,Sa,R2,R1,R0],defers:=[] })
     ?assign ?body ?done
    case assign=>
     intro l2 x X K hK
     gi_wp2
     exact hK
    case body=>
     rintro l2 q x X hxm wi ⟨⟨hJx,hkx⟩,⟨HB,Rr⟩,hxx⟩ hsx;have cYx:=HB.cell;obtain⟨fn,tmps,assign,body,hy,hR⟩:=hY (n -1 -1 -1) (pre++hd++ET.du (args.take i)++q) x X (ET.p4 hti hxm) (by have:=ET.te args (i+1);rw[ET.mN args i hti]at this;simp only[ET.names,hhd,dF]at this hpL ⊢;omega) hJx (by omega)
     gi_wp2
     have hR':RoundIn (Fence.wide.inRound l2) (n -1 -1 -1) Tryz.prog l fn tmps assign body X _:=hR;refine⟨λ h=>by simp[Fence.wide]at h,hR'.mono ?_⟩;rintro e X3 ⟨rfl,hJ3,hk3⟩
     gi_wp2
     have hbig:∀c,B0<=c->c<X.heap.size->X3.heap[c]? =X.heap[c]? :=hk3.2;exact⟨⟨⟨by simpa[aK]using hJ3,hkx.trans hk3⟩,⟨(hbig _ hB0 (by have:=HB.lt;omega)).trans HB,λD hD=>(hbig _ (by have:=(hDs D hD).1;omega) (by have:=hDl D hD;omega)).trans (Rr D hD)⟩,(hbig _ (by omega) (by omega)).trans hxx⟩,hk3.mono (aP _) (by omega)⟩
    case done=>
     rintro D X hD ⟨⟨hJx,hkx⟩,⟨HB,Rr⟩,hxx⟩ hbx' C1
     gi_wp2
     refine⟨⟨i+1,D::Ds,_,_,_,_,_,_,_,_,_,_,_,_,_,_,by omega,rfl,List.nodup_cons.2 ⟨λ hm=>by have:=hDl D hm;omega,hnd⟩,?_,?_,hkx,HB⟩,?_⟩
     ·intro D' hD';rcases aO.1 hD' with rfl |h
      ·exact⟨by omega,C1⟩
      ·exact⟨(hDs D' h).1,Rr D' h⟩
     ·rw[ET.mN args i hti,<- aK];exact hJx
     ·show args.length -(intOf (.int .i64 ((i:Int)+1))).toNat<args.length -(intOf (.int .i64 (i:Int))).toNat;simp only[intOf];omega
   ·gi_wp2
    have hsame:args.take i=args:=List.take_of_length_le (by omega);rw[hsame]at Q2;refine O4 Ds W' hnd (λ D hD=>(hDs D hD).2) λW'' QQ=>?_;have h1:=QQ W.heap.size λD hD=>(hDs D hD).1;refine⟨_,results_none rfl _ _ _,⟨_,rfl⟩,hJ _ _ _ (by simpa[ET.names,hhd,aK]using Q2) (h1.mono hB0),hki.1.trans (h1.mono (by omega)),λb hb hl=>(h1.block b hl).trans (hki.2 b hb hl)⟩
  refine callsIn_of_wp_marks Tryz.func229 rfl trivial ?_ hro;simp only[Tryz.ntmps229,List.size_toArray,bE,length_nil,Nat.reduceAdd,Nat.reduceSub,Array.replicate_succ,Array.replicate_zero,List.push_toArray,List.append_toArray,bO,cons_append];refine Nl λK1 hK1=>?_
  gi_wp2
  refine⟨Nl λK2 hK2=>?_⟩;by_cases hop:op=1
  ·subst hop;obtain⟨fn,tmps,assign,body,hy,hR⟩:=hY (n -1) pre s (W.alloc (.cells #[.func (.yield l) #[] #[]] 147)) (by simp[ET.names]) (by simp[ET.names]at hpL;omega) (hJ _ _ _ hJ0 hB1) (by simp;omega)
   gi_wp2
   refine⟨λ h=>by simp[Fence.wide]at h,hR.mono ?_⟩;rintro e W3 ⟨rfl,hJ3,hk3⟩
   gi_wp2
   exact⟨ag [s] W3 _ _ _ _ _ _ _ _ _ rfl hJ3 (hk1.trans hk3) ((hk3.2 _ hB0 (by simp)).trans bY)⟩
  ·gi_wp2
   refine⟨λ _ h=>(by cases h),?_⟩
   gi_wp2
   exact⟨ag [] _ _ _ _ _ _ _ _ _ _ (by simp[hop]) (by simpa using hJ _ _ _ hJ0 hB1) hk1 bY⟩
theorem anf(s:ByteArray)(h:s.size<=maxLen):keyOf Tryz.prog 9 (.string s)=some (.string s.data.toList):=by
 rw[keyOf_string Tryz.underlying9];simp[mapKey,Tryz.underlying9,h]
set_option maxRecDepth 100000 in
set_option maxHeartbeats 4000000 in
theorem akA(n:Nat)(t:ET)(v0 v1 v2 v3 v4:Value)(w:World)(hE:kA w.heap.size w t [v0,v1,v2,v3,v4])(hlen:t.names.length<=1000000000000):
 CallsIn Fence.wide 6 Tryz.prog 175 #[.agg #[v0,v1,v2,v3,v4]] w λe W'=>∃v,e= .returned v/\W'.ownsRow w.heap.size 9 1 v (xw t.names).length ((xw t.names).map encStr)/\Below w.heap.size w W':=by
 have hro:Fence.wide.round=none:=rfl;have hmm:=@run_makeMap Tryz.prog;refine callsIn_of_wp_marks Tryz.func175 rfl trivial ?_ hro;simp only[Tryz.ntmps175,List.size_toArray,bE,length_nil,Nat.reduceAdd,Nat.reduceSub,Array.replicate_succ,Array.replicate_zero,List.push_toArray,List.append_toArray,bO,cons_append]
 gi_wp2_with (refine ⟨trivial,?_⟩;refine(aeb 5 v0 v1 v2 v3 v4 _).mono ?_;rintro e w' ⟨rfl,rfl⟩)
 obtain⟨Wd,hWd⟩:∃Wd,(((w.alloc (.cells #[v0,v1,v2,v3,v4] 49)).alloc (.map #[] 0)).alloc (.cells #[.map (some (w.heap.size+1))] 176)).alloc (.cells #[v0,v1,v2,v3,v4] 49)=Wd:=⟨_,rfl⟩;have hsd:Wd.heap.size=w.heap.size+4:=by rw[<- hWd];simp
 have hbd:Below w.heap.size w Wd:=by rw[<- hWd];exact((((Below.refl _ w).alloc (aP _) _).alloc (by simp) _).alloc (by simp;omega) _).alloc (by simp;omega) _
 have QP:Wd.ownsMap Tryz.prog 9 (plainElem (H:=Unit) Tryz.prog 4) (w.heap.size+1) 0 (.map []):=by
  have:=World.ownsMap_made (w.alloc (.cells #[v0,v1,v2,v3,v4] 49)) Tryz.prog 9 (plainElem (H:=Unit) Tryz.prog 4);rw[World.size_alloc]at this;rw[<- hWd];exact(this.alloc _).alloc _
 have hbs:Wd.heap[w.heap.size+2]? =some (.cells #[.map (some (w.heap.size+1))] 176):=by
  have:=World.alloc_heap_new ((w.alloc (.cells #[v0,v1,v2,v3,v4] 49)).alloc (.map #[] 0)) (.cells #[.map (some (w.heap.size+1))] 176);simp only[World.size_alloc]at this;rw[<- hWd];exact(Below.heap_alloc _ _ _ (by simp)).trans this
 have hbe:Wd.heap[w.heap.size+3]? =some (.cells #[v0,v1,v2,v3,v4] 49):=by
  have:=World.alloc_heap_new (((w.alloc (.cells #[v0,v1,v2,v3,v4] 49)).alloc (.map #[] 0)).alloc (.cells #[.map (some (w.heap.size+1))] 176)) (.cells #[v0,v1,v2,v3,v4] 49);simp only[World.size_alloc]at this;rw[<- hWd];exact this
 rw[hWd]
 refine Fg (gf:=229) (lb:=#[.pointer (some ⟨w.heap.size+1+1+1,0,none⟩)]) rfl (enters_of Tryz.func229 (by kernel_rfl) rfl)
  (akz _ t (aP _) w.heap.size (w.heap.size+3) v0 v1 v2 v3 v4 Wd (by omega) (by omega) (hE.below' hbd)) (Below.refl _ _) (by omega) (λ _=>rfl)
  (λ q X=>X.ownsMap Tryz.prog 9 (plainElem (H:=Unit) Tryz.prog 4) (w.heap.size+1) q.length (yw q)/\X.heap[w.heap.size+2]? =some (.cells #[.map (some (w.heap.size+1))] 176)/\X.heap[w.heap.size+3]? =some (.cells #[v0,v1,v2,v3,v4] 49))
  (λ s A B hs hb=>⟨by obtain⟨es,ck,h1,h2⟩:=hs.1;exact⟨es,ck,(hb.block _ (by omega)).trans h1,h2⟩,(hb.block _ (by omega)).trans hs.2.1,(hb.block _ (by omega)).trans hs.2.2⟩)
  (λ s X hs=>hs.2.2) ⟨QP,hbs,hbe⟩
  (λ x=>{ tmps:=#[.agg #[v0,v1,v2,v3,v4],.pointer (some ⟨w.heap.size,0,none⟩),.slice none 0 0,.pointer (some ⟨w.heap.size+1+1,0,none⟩),.string x,.map (some (w.heap.size+1)),.agg #[v0,v1,v2,v3,v4],.func (.func 229) #[] #[.pointer (some ⟨w.heap.size+1+1+1,0,none⟩)],.string x,undef,undef,undef,undef,undef],defers:=[] })
  ?assign ?body ?done
 case assign=>
  intro l2 x X K hK
  gi_wp2
  exact hK
 case body=>
  rintro l2 q x X hxm wi ⟨hown,hms,hes⟩ hsx;have hxs:=kA.fX t _ hE x hxm;have cS:X.cell? ⟨w.heap.size+1+1,0,none⟩=some (.map (some (w.heap.size+1))):=by simp only[World.cell?,hms];rfl
  gi_wp2_with (gi_at_mapUpdate;refine wpListIn_mapUpdate_own _ rfl _ _ _ 176 rfl 9 4 (Maps.string_keyed Tryz.underlying9) Tryz.underlying176 _ (w.heap.size+1) q.length _ rfl hown (by unfold maxLen;omega) _ _ _ rfl rfl (anf x hxs) _ [] (plainElem_bool Tryz.underlying4 true) ?_;intro w1 hown1 hgrow1)
  have e1:=hgrow1.block (w.heap.size+2) (by omega) (by simp);have e2:=hgrow1.block (w.heap.size+3) (by omega) (by simp);exact⟨⟨by rw[ad7];exact hown1,e1.trans hms,e2.trans hes⟩,(Below.refl _ X).grown hgrow1 (by omega) (λ k e=>by cases e;omega),λb hb hl=>hgrow1.block b hl (by simp;omega)⟩
 case done=>
  rintro D X hD ⟨hown,hms,hes⟩ hbx C1;have cS:X.cell? ⟨w.heap.size+1+1,0,none⟩=some (.map (some (w.heap.size+1))):=by simp only[World.cell?,hms];rfl
  have hsz:Maps.size (yw t.names)<=t.names.length:=ad8 _
  gi_wp2_with (first
   |(refine ⟨trivial,?_⟩;refine(Tryz.maps_Keys_212 _ _).mono ?_;rintro e w' ⟨rfl,rfl⟩)
   |(refine ⟨trivial,?_⟩;refine(Tryz.slices_Sorted_keys_211_212 (w.heap.size+1) _ (yw t.names) _ X hown (by unfold maxLen;omega) (by omega)).mono ?_;rintro e w' ⟨v,ss,rfl,hS,hrow,hnil,hb⟩))
  have hkey:∀es,yw t.names= .map es->∀p∈es,∃x,p.1= .string x:=by
   intro es e p hp;obtain⟨es',e',hko⟩:=hown.keysOf;obtain rfl:es=es':=(by have:=e.symm.trans e';injection this);obtain⟨kv,hkv⟩:=hko p hp;obtain⟨x,_,h,_⟩:=Maps.keyOf_str Tryz.underlying9 hkv;exact⟨x,h⟩
  have hss:ss.mergeSort leB=xw t.names:=by
   obtain⟨es,e,_⟩:=hown.keysOf;exact mergeSort_of_perm (hS.trans (agl t.names e (hkey es e)).symm)
  have hDX:D<X.heap.size:=(Array.getElem?_eq_some_iff.1 C1).1;have hd1:w'.heap[D]? =some (.deferred (some [])):=(hb.block D (by simp;omega)).trans ((Below.heap_alloc X _ D hDX).trans C1);have y4:ss.length=(xw t.names).length:=by rw[<- hss,List.length_mergeSort]
  have hrow':=(hrow.kept (grownBy_putObj' w' D (.deferred none)) ?_);refine⟨by simp,.inl ⟨_,_,rfl,run_takeDeferred hd1,?_⟩⟩;refine⟨_,results_tmp rfl _ _ _,⟨v,rfl,?_,?_⟩⟩
  ·rw[<- y4,<- hss];refine⟨hrow'.1,hrow'.2.imp id ?_⟩;rintro⟨g,cap,cur,h1,h2,h3⟩;exact⟨g,cap,cur,h1,by have:=hbx.size;simp at h2;omega,h3⟩
  ·exact(((hbd.trans hbx).alloc (by have:=hbx.size;omega) _).trans (hb.mono (by have:=hbx.size;simp;omega))).trans (Kp.put (n0:=w.heap.size) (B0:=D+1) w' D _ _ hd1 (by omega) (by omega)).1
  ·cases hvb:v.ownBlock with
   |none=>exact .inl rfl
   |some g=>
    refine .inr λe=>?_;have:=(hrow.lt g hvb).1;simp at this e;omega
end Go.Proofs
namespace Go.Proofs
open Go.RowKit Go.Maps
theorem ahO{n0:Nat}{W:World}{d:ByteArray×ET}{vs:List Value}(h:MY n0 W d vs):∃u0 u1 u2 u3 u4 u5,vs=[u0,u1,u2,u3,u4,u5]/\(#[u0,u1,u2,u3,u4,u5]:Array Value).all (·.oneCell')=true:=by
 obtain⟨v0,v1,v2,v3,v4,rfl,_,he⟩:=h;refine⟨_,_,_,_,_,_,rfl,?_⟩;obtain⟨nm,t⟩:=d;cases t;simp only[kA]at he;obtain⟨n',key',sl',⟨h,_⟩,h'⟩:=he;simp only[List.cons.injEq,and_true]at h;obtain⟨rfl,rfl,rfl,rfl,rfl⟩:=h;rcases h' with ⟨_,_,_,rfl⟩ |⟨_,_,_,rfl,_⟩<;>simp[Value.oneCell']
def TW(ds:List (ByteArray×ET)):Nat->DataW Unit
 | 0=> .map []
 |k+1=>(TW ds k).put (.string (ds.getD k (⟨#[]⟩,.mk 0 ⟨#[]⟩ [])).1.data.toList) (.lit (.int .i64 k))
theorem XA(ds:List (ByteArray×ET)):∀k,IsMap (TW ds k)
 | 0=>isMap_empty
 |k+1=>(XA ds k).put _ _
theorem aaU(ds:List (ByteArray×ET))(s:List UInt8):∀k,has (TW ds k) (.string s)=(O3 ds s k).isSome/\(TW ds k).atKey (.string s) (.lit (.int .i64 0))= .lit (.int .i64 ((O3 ds s k).getD 0))
 | 0=>⟨rfl,rfl⟩
 |k+1=>by
  have h:=aaU ds s k;simp only[TW,O3];split
  ·rename_i e;subst e;have hk:WideAt.IsKeyLit (.string (ds.getD k (⟨#[]⟩,.mk 0 ⟨#[]⟩ [])).1.data.toList):=trivial;exact⟨has_put_same (XA ds k) hk _,atKey_put_same (XA ds k) hk _ _⟩
  ·rename_i e;have hne:(Lit.string s)≠ .string (ds.getD k (⟨#[]⟩,.mk 0 ⟨#[]⟩ [])).1.data.toList:=λh=>e (by injection h with h;exact h.symm);rw[has_put_other hne,atKey_put_other hne];exact h
def NgO(w:World)(mB uB:Nat)(sv:Value)(ds:List (ByteArray×ET))(i:Nat)(W:World):Prop:=
 ∃us:List Value,us.length=i/\W.heap[uB]? =some (.cells (us++List.replicate (ds.length -i) (Value.slice none 0 0)).toArray 78)/\
  W.heap[uB+1]? =some (.cells #[sv,.slice (some ⟨uB,0,none⟩) ds.length ds.length] 257)/\W.ownsMap Tryz.prog 9 (plainElem (H:=Unit) Tryz.prog 3) mB ds.length (TW ds ds.length)/\Below w.heap.size w W/\
  ∀(j:Nat)(v:Value),us[j]? =some v->∃d:ByteArray×ET,ds[j]? =some d/\W.ownsRow (uB+2) 3 1 v (iy ds (xw d.2.names)).length (Xx (iy ds (xw d.2.names)))
theorem Zt{w:World}{base:Nat}{e:TypeId}{size:Nat}{v:Value}{n:Nat}{xs:List Value}(h:w.ownsRow base e size v n xs):∃a cap,v= .slice a n cap:=by
 rcases h.2 with ⟨rfl,rfl⟩ |⟨g,cap,_,rfl,_⟩
 ·exact⟨_,_,rfl⟩
 ·exact⟨_,_,rfl⟩
theorem Zu{w:World}{base:Nat}{e:TypeId}{a:Option Addr}{cap n:Nat}{xs:List Value}(h:w.ownsRow base e 1 (.slice a n cap) n xs)(hn:0<n):∃g,a=some ⟨g,0,none⟩/\base<=g/\g<w.heap.size/\∀j u,xs[j]? =some u->w.cell? ⟨g,j,none⟩=some u:=by
 rcases h.2 with ⟨_,h0⟩ |⟨g,c,cur,e1,hg,hgb,_,_,_,ht⟩
 ·omega
 ·simp only[Value.slice.injEq]at e1;obtain⟨rfl,_,rfl⟩:=e1;refine⟨g,rfl,hg,(Array.getElem?_eq_some_iff.1 hgb).1,λj u hj=>?_⟩;rw[<- ht,List.getElem?_take]at hj;split at hj
  ·simpa[World.cell?,hgb]using hj
  ·cases hj
def NgI(X:World)(uB:Nat)(us:List Value)(ds:List (ByteArray×ET))(r:Nat)(l:List (List UInt8))(V:World):Prop:=
 ∃va vc v,v= .slice va (iy ds l).length vc/\X.grownBy V (some uB)/\V.heap[uB]? =some (.cells (us++v::List.replicate r (Value.slice none 0 0)).toArray 78)/\V.ownsRow X.heap.size 3 1 v (iy ds l).length (Xx (iy ds l))
theorem akB(w:World):(zeroValue 3).run Tryz.prog w= .ok (.int .i64 0) w:=by kernel_rfl
theorem aiY{w:World}{ds:List (ByteArray×ET)}{nm:List UInt8}{b n:Nat}(hown:w.ownsMap Tryz.prog 9 (plainElem (H:=Unit) Tryz.prog 3) b n (TW ds ds.length))(hkey:keyOf Tryz.prog 9 (encStr nm)=some (.string nm)):
 (Instr.lookup 150 (.map (some b)) (encStr nm) true).run Tryz.prog w= .ok (.tuple #[.int .i64 ((O3 ds nm ds.length).getD 0),.bool (O3 ds nm ds.length).isSome]) w:=by
 have h:=aaU ds nm ds.length;obtain⟨v,ps,hrun,hv⟩:=hown.look_ok (Maps.string_keyed Tryz.underlying9) Tryz.underlying150 (akB w) (plainElem_int Tryz.underlying3 (by decide)) hkey;obtain⟨c,rfl,hc,_⟩:=plainElem_int_inv Tryz.underlying3 hv;rw[h.2]at hc;have hc2:(O3 ds nm ds.length).getD 0=c:=by
  have:=congrArg Prod.fst hc;simpa using this
 refine hrun.trans ?_;rw[h.1,hc2]
theorem XB(ds:List (ByteArray×ET))(L:List (List UInt8))(q:Nat){nm:List UInt8}(h:L[q]? =some nm):iy ds (L.take (q+1))=iy ds (L.take q)++(O3 ds nm ds.length).toList:=by
 rw[List.take_add_one,h,iy,iy,List.filterMap_append];cases h2:O3 ds nm ds.length<;>simp[h2]
theorem grownBy_set(w:World)(b k:Nat)(v:Value):w.grownBy (w.setCell ⟨b,k,none⟩ v) (some b):=
 ⟨rfl,rfl,rfl,by simp[World.setCell],λi _ h=>by simp only[World.setCell];rw[Array.getElem?_modify,aM (λ e=>h (by rw[e]))]⟩
theorem agn{A B:World}{base:Nat}{e:TypeId}{size:Nat}{v:Value}{n:Nat}{xs:List Value}{uB:Nat}(h:A.ownsRow base e size v n xs)(hb:uB<base)(hk:∀c,c<A.heap.size->c≠uB->B.heap[c]? =A.heap[c]?):B.ownsRow base e size v n xs:=by
 refine⟨h.1,h.2.imp id ?_⟩;rintro⟨g,cap,cur,h1,h2,h3,h4⟩;exact⟨g,cap,cur,h1,h2,(hk g (Array.getElem?_eq_some_iff.1 h3).1 (by omega)).trans h3,h4⟩
theorem akC:(Tryz.prog.info? 3).map (λ i=>(i.zero,i.size,i.bytes))=some (some (.int .i64 0),1,8):=by kernel_rfl
theorem akD:(Tryz.prog.info? 78).map (λ i=>(i.zero,i.size,i.bytes))=some (some (.slice none 0 0),1,24):=by kernel_rfl
theorem aiZ(ds:List (ByteArray×ET))(k:Nat){d:ByteArray×ET}(h:ds[k]? =some d):TW ds (k+1)=(TW ds k).put (.string d.1.data.toList) (.lit (.int .i64 k)):=by simp[TW,List.getD,h]
theorem akE(s:ByteArray)(h:s.size<=maxLen):keyOf Tryz.prog 9 (.string s)=some (.string s.data.toList):=by
 rw[keyOf_string Tryz.underlying9];simp[mapKey,Tryz.underlying9,h]
theorem akF{X wr w1:World}{uB k r:Nat}{us:List Value}{ds:List (ByteArray×ET)}{l l':List (List UInt8)}{va:Option Addr}{vc gg cap:Nat}{m:Int}{o:Obj}
 (tU:X.grownBy wr (some uB)) (tg:wr.heap[uB]? =some (.cells (us++(Value.slice va (iy ds l).length vc)::List.replicate r (Value.slice none 0 0)).toArray 78)) (hk:us.length=k)
 (hgrow:(wr.alloc o).drew.grownBy w1 (Value.slice va (iy ds l).length vc).ownBlock) (hne:(Value.slice va (iy ds l).length vc).ownBlock≠some uB) (hbl:∀b,(Value.slice va (iy ds l).length vc).ownBlock=some b->X.heap.size<=b)
 (hown:w1.ownsRow X.heap.size 3 1 (.slice (some ⟨gg,0,none⟩) ((iy ds l).length+1) cap) ((iy ds l).length+1) (Xx (iy ds l)++[.int .i64 m])) (hs:iy ds l'=iy ds l++[m])
 (hat:(Value.slice va (iy ds l).length vc).ownBlock=some gg\/gg=wr.heap.size+1):
 NgI X uB us ds r l' (w1.setCell ⟨uB,k,none⟩ (.slice (some ⟨gg,0,none⟩) ((iy ds l).length+1) cap)):=by
 have huB:uB<wr.heap.size:=(Array.getElem?_eq_some_iff.1 tg).1;have h1:w1.heap[uB]? =wr.heap[uB]? :=(hgrow.block uB (by show uB<(wr.alloc o).heap.size;simp;omega) (λ e=>hne e.symm)).trans (Below.heap_alloc wr o uB huB);have hset:w1.grownBy (w1.setCell ⟨uB,k,none⟩ (.slice (some ⟨gg,0,none⟩) ((iy ds l).length+1) cap)) (some uB):=grownBy_set _ _ _ _;have hall:X.grownBy w1 (some uB):=(tU.andThen ((World.grownBy_alloc wr o none).trans ⟨rfl,rfl,rfl,aP _,λ_ _ _=>rfl⟩:wr.grownBy (wr.alloc o).drew none) (λ j e=>by cases e)).andThen hgrow (λ j e=> .inl (hbl j e));have hlen:(iy ds l').length=(iy ds l).length+1:=by rw[hs];simp
 have hgu:gg≠uB:=by
  rintro rfl;rcases hat with h |h
  ·exact hne h
  ·omega
 refine⟨some ⟨gg,0,none⟩,cap,_,rfl,hall.trans hset,?_,?_⟩
 ·rw[hlen];simp only[World.setCell];rw[Array.getElem?_modify,aN rfl,h1,tg];simp only[Option.map_some,Option.isSome_none,Bool.false_eq_true,if_false,List.setIfInBounds_toArray];rw[<- hk,List.set_append_right _ _ (aP _),Nat.sub_self,List.set_cons_zero]
 ·rw[hlen,hs];have:=hown.kept hset (.inr (λ e=>hgu (by simpa[Value.ownBlock]using e)));simpa using this
set_option maxRecDepth 100000 in
set_option maxHeartbeats 4000000 in
theorem alV(ds:List (ByteArray×ET))(hlen:ds.length<=4000000)
 (hnl:∀d∈ds,d.2.names.length<=1000000000000)
 (hN:∀d∈ds,∀(v0 v1 v2 v3 v4:Value)(w:World),kA w.heap.size w d.2 [v0,v1,v2,v3,v4]->Calls Tryz.prog 175 #[.agg #[v0,v1,v2,v3,v4]] w λe W'=>∃v,e= .returned v/\W'.ownsRow w.heap.size 9 1 v (xw d.2.names).length ((xw d.2.names).map encStr)/\Below w.heap.size w W')
 (sv:Value) (w:World) (hsv:E7 w.heap.size w ds sv):Calls Tryz.prog 141 #[sv] w λe W'=>∃uB,e= .returned (.pointer (some ⟨uB+1,0,none⟩))/\w.heap.size<uB/\amE w uB sv ds 78 257 3 W':=by
 have hmm:=@run_makeMap Tryz.prog;obtain⟨sa,sc,rfl⟩:∃sa sc,sv= .slice sa ds.length sc:=by
  rcases hsv with ⟨rfl,a,cap,rfl⟩ |⟨b,aa,cap,rfl,_⟩
  ·exact⟨_,_,rfl⟩
  ·exact⟨_,_,rfl⟩
 obtain⟨i0,hi,hz0,hz1,hz2⟩:=info_parts akD;obtain⟨iI,hiI,Pi,Pc,Pa⟩:=info_parts akC
 go_enter Tryz.func141,Tryz.ntmps141
 go_wp2
 go_loopw [16] (λ i wr=>∃k:Nat,k<=ds.length/\i= .int .i64 k/\wr.ownsMap Tryz.prog 9 (plainElem (H:=Unit) Tryz.prog 3) w.heap.size k (TW ds k)/\Below w.heap.size w wr)
  (λ i _=>ds.length -(intOf i).toNat)
 case atStart=>exact⟨0,Nat.zero_le _,rfl,World.ownsMap_made _ _ _ _,(Below.refl _ _).alloc (aP _) _⟩
 case round=>
  obtain⟨k,hk,rfl,hown,hnx⟩:=hrel;by_cases hkl:k<ds.length
  ·rcases hsv with ⟨h0,_⟩ |⟨b,aa,cap,he,hb,hr⟩
   ·rw[h0]at hkl;exact absurd hkl (Nat.not_lt_zero _)
   simp only[Value.slice.injEq,true_and]at he;obtain⟨rfl,rfl⟩:=he;obtain⟨d,hd⟩:∃d,ds[k]? =some d:=⟨_,dG hkl⟩;obtain⟨vs,q,G2⟩:=hr k d hd;obtain⟨u0,u1,u2,u3,u4,u5,rfl,hone⟩:=ahO G2;have o0:=λz1 z2 z3 z4 z5=>dK Tryz.prog wr #[.string { data:=#[] },z1,z2,z3,z4,z5] 109 0 u0 (by simp) (by simpa using (Array.all_eq_true.1 hone) 0 (by simp));have o1:=λz2 z3 z4 z5=>dK Tryz.prog wr #[u0,.int .i64 0,z2,z3,z4,z5] 109 1 u1 (by simp) (by simpa using (Array.all_eq_true.1 hone) 1 (by simp));have o2:=λz3 z4 z5=>dK Tryz.prog wr #[u0,u1,.int .i64 0,z3,z4,z5] 109 2 u2 (by simp) (by simpa using (Array.all_eq_true.1 hone) 2 (by simp));have o3:=λz4 z5=>dK Tryz.prog wr #[u0,u1,u2,.string { data:=#[] },z4,z5] 109 3 u3 (by simp) (by simpa using (Array.all_eq_true.1 hone) 3 (by simp));have o4:=λz5=>dK Tryz.prog wr #[u0,u1,u2,u3,.string { data:=#[] },z5] 109 4 u4 (by simp) (by simpa using (Array.all_eq_true.1 hone) 4 (by simp));have o5:=dK Tryz.prog wr #[u0,u1,u2,u3,u4,.slice none 0 0] 109 5 u5 (by simp) (by simpa using (Array.all_eq_true.1 hone) 5 (by simp));simp only[List.set_toArray,List.set]at o0 o1 o2 o3 o4 o5;have hn:=World.alloc_heap_new wr (.cells #[u0,u1,u2,u3,u4,u5] 109);have r0:(wr.alloc (.cells #[u0,u1,u2,u3,u4,u5] 109)).cell? ⟨wr.heap.size,0,none⟩=some u0:=(by simp only[World.cell?,hn];rfl);have q0:wr.cell? ⟨b,aa+k*6,none⟩=some u0:=(hnx.cell (p:=⟨b,aa+k*6,none⟩) hb).trans (q 0 _ rfl);have q1:wr.cell? ⟨b,aa+k*6+1,none⟩=some u1:=(hnx.cell (p:=⟨b,aa+k*6+1,none⟩) hb).trans (q 1 _ rfl);have q2:wr.cell? ⟨b,aa+k*6+2,none⟩=some u2:=(hnx.cell (p:=⟨b,aa+k*6+2,none⟩) hb).trans (q 2 _ rfl)
   have q3:wr.cell? ⟨b,aa+k*6+3,none⟩=some u3:=(hnx.cell (p:=⟨b,aa+k*6+3,none⟩) hb).trans (q 3 _ rfl);have q4:wr.cell? ⟨b,aa+k*6+4,none⟩=some u4:=(hnx.cell (p:=⟨b,aa+k*6+4,none⟩) hb).trans (q 4 _ rfl);have q5:wr.cell? ⟨b,aa+k*6+5,none⟩=some u5:=(hnx.cell (p:=⟨b,aa+k*6+5,none⟩) hb).trans (q 5 _ rfl);have hkey:keyOf Tryz.prog 9 u0=some (.string d.1.data.toList):=by
    obtain⟨v0,v1,v2,v3,v4,e,hs,_⟩:=G2;simp only[List.cons.injEq]at e;rw[e.1];exact akE d.1 hs
   go_wp2_with (at_mapUpdate;refine wpList_mapUpdate_own _ rfl _ _ _ 150 rfl 9 3 (Maps.string_keyed Tryz.underlying9) Tryz.underlying150 _ w.heap.size k _ rfl (hown.alloc _) (by unfold maxLen;omega) _ _ _ rfl rfl hkey _ [] (plainElem_int Tryz.underlying3 (WalkArith.wf_i64 (by omega))) ?_;intro w1 hown1 hgrow1)
   refine⟨⟨k+1,by omega,by go_num,?_,(((hnx.alloc (by have:=hnx.size;omega) _).grown hgrow1 (by have:=hnx.size;simp;omega) (λ j e=>by cases e;exact aP _)))⟩,by simp[intOf];omega⟩;rw[aiZ ds k hd];exact hown1
  ·obtain rfl:k=ds.length:=(by omega);have hms:=run_make (P:=Tryz.prog) wr 255 78 i0 (.slice none 0 0) Tryz.underlying255 hi hz0 .i64 .i64 ds.length ds.length (by omega) (Int.le_refl _) (by rw[hz2];omega) (by omega);rw[hz1]at hms;simp only[Int.toNat_natCast,Nat.mul_one,Value.cells]at hms;obtain⟨uc,tM⟩:∃uc,madeCells #[Value.slice none 0 0] ds.length=uc:=⟨_,rfl⟩;rw[tM]at hms
   go_wp2
   obtain⟨uB,huB⟩:∃uB,wr.heap.size=uB:=⟨_,rfl⟩;obtain⟨W1,hW1⟩:∃W1,(wr.alloc (.cells uc 78)).alloc (.cells #[.slice sa ds.length sc,.slice (some ⟨wr.heap.size,0,none⟩) ds.length ds.length] 257)=W1:=⟨_,rfl⟩;have hmu:w.heap.size<uB:=(by rw[<- huB];exact hown.lt);have hI0:NgO w w.heap.size uB (.slice sa ds.length sc) ds 0 W1:=by
    have hn1:=World.alloc_heap_new wr (.cells uc 78);have hn2:=World.alloc_heap_new (wr.alloc (.cells uc 78)) (.cells #[.slice sa ds.length sc,.slice (some ⟨wr.heap.size,0,none⟩) ds.length ds.length] 257);rw[World.size_alloc]at hn2;subst huB;refine⟨[],rfl,?_,?_,?_,?_,λj v h=>by simp at h⟩
    ·rw[<- hW1];refine(Below.heap_alloc _ _ _ (by simp)).trans ?_;rw[hn1,<- tM];congr 2;apply Array.ext';rw[toList_madeCells_one];rfl
    ·rw[<- hW1];exact hn2
    ·rw[<- hW1];exact(hown.alloc _).alloc _
    ·rw[<- hW1];exact(hnx.alloc (by have:=hnx.size;omega) _).alloc (by have:=hnx.size;simp;omega) _
   rw[hW1,huB]
   go_loopw [34] (λ i W=>∃k:Nat,k<=ds.length/\i= .int .i64 k/\NgO w w.heap.size uB (.slice sa ds.length sc) ds k W)
    (λ i _=>ds.length -(intOf i).toNat)
   case atStart=>exact⟨0,Nat.zero_le _,rfl,hI0⟩
   case round=>
    obtain⟨k,hk,rfl,us,sk,hU,hG,hM,hB,uk⟩:=hrel;obtain⟨In,Pu⟩:∃In,In=wr:=⟨_,rfl⟩;by_cases hkl:k<ds.length
    ·rcases hsv with ⟨h0,_⟩ |⟨b,aa,cap,he,hb,hr⟩
     ·rw[h0]at hkl;exact absurd hkl (Nat.not_lt_zero _)
     simp only[Value.slice.injEq,true_and]at he;obtain⟨rfl,rfl⟩:=he;obtain⟨d,hd⟩:∃d,ds[k]? =some d:=⟨_,dG hkl⟩;obtain⟨vs,q,G2⟩:=hr k d hd;obtain⟨u0,u1,u2,u3,u4,u5,rfl,hone⟩:=ahO G2;have o0:=λz1 z2 z3 z4 z5=>dK Tryz.prog wr #[.string { data:=#[] },z1,z2,z3,z4,z5] 109 0 u0 (by simp) (by simpa using (Array.all_eq_true.1 hone) 0 (by simp));have o1:=λz2 z3 z4 z5=>dK Tryz.prog wr #[u0,.int .i64 0,z2,z3,z4,z5] 109 1 u1 (by simp) (by simpa using (Array.all_eq_true.1 hone) 1 (by simp));have o2:=λz3 z4 z5=>dK Tryz.prog wr #[u0,u1,.int .i64 0,z3,z4,z5] 109 2 u2 (by simp) (by simpa using (Array.all_eq_true.1 hone) 2 (by simp));have o3:=λz4 z5=>dK Tryz.prog wr #[u0,u1,u2,.string { data:=#[] },z4,z5] 109 3 u3 (by simp) (by simpa using (Array.all_eq_true.1 hone) 3 (by simp));have o4:=λz5=>dK Tryz.prog wr #[u0,u1,u2,u3,.string { data:=#[] },z5] 109 4 u4 (by simp) (by simpa using (Array.all_eq_true.1 hone) 4 (by simp));have o5:=dK Tryz.prog wr #[u0,u1,u2,u3,u4,.slice none 0 0] 109 5 u5 (by simp) (by simpa using (Array.all_eq_true.1 hone) 5 (by simp));simp only[List.set_toArray,List.set]at o0 o1 o2 o3 o4 o5;have hn:=World.alloc_heap_new wr (.cells #[u0,u1,u2,u3,u4,u5] 109);have r0:(wr.alloc (.cells #[u0,u1,u2,u3,u4,u5] 109)).cell? ⟨wr.heap.size,0,none⟩=some u0:=(by simp only[World.cell?,hn];rfl);have q0:wr.cell? ⟨b,aa+k*6,none⟩=some u0:=(hB.cell (p:=⟨b,aa+k*6,none⟩) hb).trans (q 0 _ rfl);have q1:wr.cell? ⟨b,aa+k*6+1,none⟩=some u1:=(hB.cell (p:=⟨b,aa+k*6+1,none⟩) hb).trans (q 1 _ rfl);have q2:wr.cell? ⟨b,aa+k*6+2,none⟩=some u2:=(hB.cell (p:=⟨b,aa+k*6+2,none⟩) hb).trans (q 2 _ rfl)
     have q3:wr.cell? ⟨b,aa+k*6+3,none⟩=some u3:=(hB.cell (p:=⟨b,aa+k*6+3,none⟩) hb).trans (q 3 _ rfl);have q4:wr.cell? ⟨b,aa+k*6+4,none⟩=some u4:=(hB.cell (p:=⟨b,aa+k*6+4,none⟩) hb).trans (q 4 _ rfl);have q5:wr.cell? ⟨b,aa+k*6+5,none⟩=some u5:=(hB.cell (p:=⟨b,aa+k*6+5,none⟩) hb).trans (q 5 _ rfl);have r1:(wr.alloc (.cells #[u0,u1,u2,u3,u4,u5] 109)).cell? ⟨wr.heap.size,1,none⟩=some u1:=(by simp only[World.cell?,hn];rfl);have r2:(wr.alloc (.cells #[u0,u1,u2,u3,u4,u5] 109)).cell? ⟨wr.heap.size,2,none⟩=some u2:=(by simp only[World.cell?,hn];rfl);have r3:(wr.alloc (.cells #[u0,u1,u2,u3,u4,u5] 109)).cell? ⟨wr.heap.size,3,none⟩=some u3:=(by simp only[World.cell?,hn];rfl);have r4:(wr.alloc (.cells #[u0,u1,u2,u3,u4,u5] 109)).cell? ⟨wr.heap.size,4,none⟩=some u4:=(by simp only[World.cell?,hn];rfl);have r5:(wr.alloc (.cells #[u0,u1,u2,u3,u4,u5] 109)).cell? ⟨wr.heap.size,5,none⟩=some u5:=(by simp only[World.cell?,hn];rfl);have hba:Below w.heap.size wr (wr.alloc (.cells #[u0,u1,u2,u3,u4,u5] 109)):=(Below.refl _ _).alloc hB.size _;have hEd:kA (wr.alloc (.cells #[u0,u1,u2,u3,u4,u5] 109)).heap.size (wr.alloc (.cells #[u0,u1,u2,u3,u4,u5] 109)) d.2 [u1,u2,u3,u4,u5]:=by
      obtain⟨v0,v1,v2,v3,v4,e,_,h⟩:=G2;simp only[List.cons.injEq,and_true]at e;obtain⟨_,rfl,rfl,rfl,rfl,rfl⟩:=e;exact kA.mono (by have:=hB.size;simp;omega) _ _ (h.below' (hB.trans hba))
     have hcn:=hN d (bZ hd) u1 u2 u3 u4 u5 _ hEd
     go_wp2_with (go_at_call 175;refine hcn.mono ?_;rintro e X ⟨nv,rfl,hrow,hbX⟩;obtain⟨na,nc,rfl⟩:=Zt hrow)
     have hcell:=Zu hrow;have hblt:=hrow.lt;have hsU:uB+1<wr.heap.size:=(Array.getElem?_eq_some_iff.1 hG).1;have hsX:wr.heap.size+1<=X.heap.size:=(by have:=hbX.size;simpa using this);have hkX:∀c,c<wr.heap.size->X.heap[c]? =wr.heap[c]? :=λc hc=>(hbX.block c (by simp;omega)).trans (Below.heap_alloc _ _ c hc);obtain⟨L,hL⟩:∃L,xw d.2.names=L:=⟨_,rfl⟩;rw[hL]at hrow hcell;have hLl:L.length<=1000000000000:=(by rw[<- hL];exact Nat.le_trans (ad9 _) (hnl d (bZ hd)));have hLs:∀s∈L,s.length<=maxLen:=by
      intro s hs;rw[<- hL]at hs;obtain⟨x,hx,rfl⟩:=akw hs;have:=kA.fX d.2 _ hEd x hx;simpa using this
     go_loopw [43] (λ i V=>∃q:Nat,q<=L.length/\i= .int .i64 q/\NgI X uB us ds (ds.length -k -1) (L.take q) V)
      (λ i _=>L.length -(intOf i).toNat)
     case atStart=>
      refine⟨0,Nat.zero_le _,rfl,none,0,_,rfl,World.grownBy.refl _ _,?_,World.ownsRow_nil _ _ _ _⟩;rw[hkX uB (by omega),hU,show ds.length -k=(ds.length -k -1)+1 by omega,List.replicate_succ];rfl
     case round=>
      obtain⟨q,hq,rfl,va,vc,v,rfl,tU,tg,wg⟩:=hrel;by_cases wi:q<L.length
      ·obtain⟨nm,hnm⟩:∃nm,L[q]? =some nm:=⟨_,dG wi⟩;obtain⟨g,rfl,hg1,hg2,hgc⟩:=hcell (by omega);have c0:wr.cell? ⟨g,q,none⟩=some (encStr nm):=(tU.cell_far ⟨g,q,none⟩ hg2 (by simp at hg1 ⊢;omega)).trans (hgc q _ (by rw[List.getElem?_map,hnm];rfl));have hkey:keyOf Tryz.prog 9 (encStr nm)=some (.string nm):=by
        have:=akE ⟨nm.toArray⟩ (by have:=hLs nm (bZ hnm);simpa[ByteArray.size]using this);simpa using this
       have hMV:wr.ownsMap Tryz.prog 9 (plainElem (H:=Unit) Tryz.prog 3) w.heap.size ds.length (TW ds ds.length):=by
        obtain⟨es,ck,h1,h2⟩:=hM;exact⟨es,ck,(tU.block _ (by omega) (by simp;omega)).trans ((hkX _ (by omega)).trans h1),h2⟩
       have hlk:(iy ds (L.take q)).length<=1000000000000:=Nat.le_trans (List.length_filterMap_le _ _) (by rw[List.length_take];omega);have pP:=aiY hMV hkey;cases hix:O3 ds nm ds.length with
       |none=>
        rw[hix]at pP;simp only[Option.isSome,Option.getD]at pP
        go_wp2
        have hstep:iy ds (L.take (q+1))=iy ds (L.take q):=(by rw[XB ds L q hnm,hix];exact List.append_nil _);exact⟨⟨q+1,by omega,by go_num,va,vc,_,rfl,tU,by rw[hstep];exact tg,by rw[hstep];exact wg⟩,by simp[intOf];omega⟩
       |some m=>
        rw[hix]at pP;simp only[Option.isSome,Option.getD]at pP
        go_wp2
        have hstep:iy ds (L.take (q+1))=iy ds (L.take q)++[m]:=(by rw[XB ds L q hnm,hix];rfl);have hVX:X.heap.size<=wr.heap.size:=tU.size;have cG:wr.cell? ⟨uB+1,1,none⟩=some (.slice (some ⟨uB,0,none⟩) ds.length ds.length):=by
         have h1:=(tU.block (uB+1) (by omega) (by simp)).trans ((hkX _ (by omega)).trans hG);simp[World.cell?,h1]
        have cU:wr.cell? ⟨uB,k,none⟩=some (.slice va (iy ds (L.take q)).length vc):=(by rw[<- sk];simp[World.cell?,tg]);have cF:wr.frozen? ⟨uB,k,none⟩=false:=(by simp[World.frozen?,tg]);have cF2:∀o,(wr.alloc o).drew.frozen? ⟨uB,k,none⟩=false:=λo=>by
         have h1:=(Below.heap_alloc wr o uB (Array.getElem?_eq_some_iff.1 tg).1).trans tg;show(wr.alloc o).frozen? _=_;simp[World.frozen?,h1]
        have hk0:(0:Int)<=(k:Int):=Int.natCast_nonneg _;have hk1:(k:Int)<(ds.length:Int):=(by omega);have yW:(Value.slice va (iy ds (L.take q)).length vc).ownBlock≠some uB:=λe=>(by have:=(wg.lt _ e).1;omega);have PF:(Value.slice va (iy ds (L.take q)).length vc).ownBlock≠some (uB+1):=λe=>(by have:=(wg.lt _ e).1;omega);have cU2:=World.new_ne wr ⟨uB,k,none⟩ cU;have cU3:∀o,(wr.alloc o).drew.cell? ⟨uB,k,none⟩=some (.slice va (iy ds (L.take q)).length vc):=λo=>by
         have h1:=(Below.heap_alloc wr o uB (Array.getElem?_eq_some_iff.1 tg).1).trans tg;show(wr.alloc o).cell? _=_;rw[<- sk];simp[World.cell?,h1]
        have cG3:∀o,(wr.alloc o).drew.cell? ⟨uB+1,1,none⟩=some (.slice (some ⟨uB,0,none⟩) ds.length ds.length):=λo=>by
         have h0:=(tU.block (uB+1) (by omega) (by simp)).trans ((hkX _ (by omega)).trans hG);have h1:=(Below.heap_alloc wr o (uB+1) (Array.getElem?_eq_some_iff.1 h0).1).trans h0;show(wr.alloc o).cell? _=_;simp[World.cell?,h1]
        have cG4:=cG3 (.cells #[.int .i64 m] 3);have cU4:=cU3 (.cells #[.int .i64 m] 3);have cF4:=cF2 (.cells #[.int .i64 m] 3)
        go_region_law ((refine step_append_lies _ (by rfl) _ _ _ (by rfl) X.heap.size 3 iI _ 1 8 Tryz.underlying78 hiI Pi Pc Pa rfl (by omega) _ _ _ (by rfl) ((wg.alloc _).drew) ⟨wr.heap.size,0,none⟩ 1 1 [.int .i64 m] (by rfl) (by rfl) (World.news_of_block (cs:=#[.int .i64 m]) (t:=3) (fr:=(0,0)) (heap_alloc_new wr _)) (by simp[Value.oneCell']) (by omega) (by unfold maxLen;omega) (by omega) (by simp;omega) (wr.heap.size+1) (by simp) ?_;intro gg cap w1 hown1 hgrow hat hlt;have cU1:w1.cell? ⟨uB,k,none⟩=some (.slice va (iy ds (L.take q)).length vc):=(by rw[hgrow.cell_far _ (by simp;omega) (Ne.symm yW)];exact cU3 _);have cG1:w1.cell? ⟨uB+1,1,none⟩=some (.slice (some ⟨uB,0,none⟩) ds.length ds.length):=(by rw[hgrow.cell_far _ (by simp;omega) (Ne.symm PF)];exact cG3 _);have cF1:w1.frozen? ⟨uB,k,none⟩=false:=(by rw[hgrow.frozen_far _ (by simp;omega) (Ne.symm yW)];exact cF2 _)))
        all_goals go_wp2
        all_goals exact⟨⟨_,_,_,.int .i64 ((q:Int)+1),⟨q+1,by omega,by go_num,akF tU tg sk hgrow yW (λ b e=>(wg.lt b e).1) hown1 hstep hat⟩,rfl,rfl,rfl,rfl⟩,by simp[intOf];omega⟩
      ·obtain rfl:q=L.length:=by omega
       go_wp2
       rw[List.take_length]at tg wg;subst Pu;have hgw:∀c,c<In.heap.size->c≠uB->wr.heap[c]? =In.heap[c]? :=λc hc hne=>(tU.block c (by omega) (by simp;omega)).trans (hkX c hc);refine⟨⟨k+1,by omega,by go_num,us++[.slice va (iy ds L).length vc],by simp[sk],?_,?_,?_,?_,?_⟩,by simp[intOf];omega⟩
       ·rw[tg];congr 3;simp[Nat.sub_sub]
       ·exact(hgw (uB+1) (by omega) (by omega)).trans hG
       ·obtain⟨es,ck,h1,h2⟩:=hM;exact⟨es,ck,(hgw _ (by omega) (by omega)).trans h1,h2⟩
       ·exact(((hB.trans hba).trans (hbX.mono (by simp;have:=hB.size;omega))).grown tU (by have:=hB.size;omega) (λ j e=>by cases e;omega))
       ·intro j v hj;rw[List.getElem?_append]at hj;split at hj
        ·obtain⟨d',hd',ho⟩:=uk j v hj;exact⟨d',hd',agn ho (by omega) hgw⟩
        ·rename_i hjl;have hj0:j -us.length=0:=by
          cases h:j -us.length with
          |zero=>rfl
          |succ z=>rw[h]at hj;simp at hj
         rw[hj0]at hj;simp only[List.getElem?_cons_zero,aA]at hj;subst hj;refine⟨d,by rw[show j=k by omega];exact hd,?_⟩;rw[hL];refine⟨wg.1,wg.2.imp id ?_⟩;rintro⟨g,cap,cur,h1,h2,h3⟩;exact⟨g,cap,cur,h1,by omega,h3⟩
    ·obtain rfl:k=ds.length:=by omega
     go_wp2
     go_ret
     exact⟨uB,rfl,hmu,us,sk,by simpa using hU,hG,hB,uk⟩
end Go.Proofs
namespace Go.Proofs
open Go.RowKit Go.Shelf
set_option maxHeartbeats 1000000 in
theorem akG(x y:Nat)(hx:x<18446744073709551616)(hy:y<18446744073709551616)(w:World):
 Calls Tryz.prog 265 #[.int .u64 x,.int .u64 y] w λe w'=>e= .returned (.tuple #[.int .u64 ((x*y/18446744073709551616:Nat):Int),.int .u64 ((x*y%18446744073709551616:Nat):Int)])/\w'=w:=by
 obtain⟨bd,bt,bw,hhi⟩:=Lib.mul64_hi x y hx hy;have ba:=Lib.half_mul_le (a:=x/4294967296) (b:=y/4294967296) (by omega) (by omega);have bb:=Lib.half_mul_le (a:=x/4294967296) (b:=y%4294967296) (by omega) (by omega);have bc:=Lib.half_mul_le (a:=x%4294967296) (b:=y/4294967296) (by omega) (by omega);have ba':x/4294967296*(y/4294967296)<18446744073709551616:=by omega
 have bb':x/4294967296*(y%4294967296)<18446744073709551616:=by omega
 have bc':x%4294967296*(y/4294967296)<18446744073709551616:=by omega
 have bh1:x/4294967296*(y/4294967296)+(x/4294967296*(y%4294967296)+x%4294967296*(y%4294967296)/4294967296)/4294967296<18446744073709551616:=by omega
 have bh:x/4294967296*(y/4294967296)+(x/4294967296*(y%4294967296)+x%4294967296*(y%4294967296)/4294967296)/4294967296+((x/4294967296*(y%4294967296)+x%4294967296*(y%4294967296)/4294967296)%4294967296+x%4294967296*(y/4294967296))/4294967296<18446744073709551616:=by omega
 go_enter Tryz.func265,Tryz.ntmps265
 go_wp2
 simp only[Mul64.maskN x hx,Mul64.maskN y hy,Mul64.divN,Mul64.mulN,Mul64.addN,Mul64.wrapN _ bd,Mul64.wrapN _ bb',Mul64.wrapN _ bt,Mul64.maskN _ bt,Mul64.wrapN _ bc',Mul64.wrapN _ bw,Mul64.wrapN _ ba',Mul64.wrapN _ bh1,Mul64.wrapN _ bh,Mul64.wrapM (x*y)];rw[hhi]
 go_ret2
 exact⟨rfl,rfl⟩
set_option maxHeartbeats 1000000 in
theorem ang(x y:Nat)(hx:x<18446744073709551616)(hy:y<18446744073709551616)(w:World):
 Calls Tryz.prog 250 #[.int .u64 x,.int .u64 y] w λe w'=>e= .returned (.tuple #[.int .u64 ((x*y/18446744073709551616:Nat):Int),.int .u64 ((x*y%18446744073709551616:Nat):Int)])/\w'=w:=by
 go_enter Tryz.func250,Tryz.ntmps250
 go_wp2_with (go_at_call 265;refine(akG x y hx hy _).mono ?_;rintro e w' ⟨rfl,hw⟩;rw[hw])
 go_ret2
 exact⟨rfl,rfl⟩
theorem alW(c:Nat)(hc:c<=1000000000000)(w:World):
 Calls Tryz.prog 250 #[.int .u64 1,.int .u64 c] w λe w'=>e= .returned (.tuple #[.int .u64 0,.int .u64 c])/\w'=w:=by
 have h:=ang 1 c (by decide) (by omega) w;rw[show 1*c/18446744073709551616=0 by omega,show 1*c%18446744073709551616=c by omega]at h;exact h
theorem ahP:(Tryz.prog.info? 3).map (λ i=>(i.zero,i.size,i.bytes))=some (some (.int .i64 0),1,8):=by kernel_rfl
def pp(x:Int)(m c:Nat):List Value:=List.replicate m (.int .i64 x)++List.replicate (c -m) (.int .i64 0)
theorem agp(x:Int)(m k c:Nat)(h:m+k<=c):splice (pp x m c) m (List.replicate k (.int .i64 x))=pp x (m+k) c:=by
 have h1:(pp x m c).take m=List.replicate m (.int .i64 x):=by simp[pp]
 have h2:(pp x m c).drop (m+k)=List.replicate (c -(m+k)) (.int .i64 0):=by
  rw[pp,List.drop_append];simp[Nat.sub_sub,show m+k -m=k by omega]
 rw[splice,h1,List.length_replicate,h2,<- aK,List.replicate_append_replicate,pp]
theorem alX{P:Program}{am:Array Oper}{o:Oper}{a:Act}{w w':World}{K:Act->World->Prop}{Q:Exit->Act->World->Prop}{E:Prop}(hgd:o.guard=none)(d s:Operand)(dT sT:TypeId)
 (ho:o.op= .call { callee:= .builtin .copy,args:=#[d,s],argTypes:=#[dT,sT] }) {D S v:Value} (hd:a.eval d=D) (hs:a.eval s=S) (hrun:(Builtin.copy_ #[dT,sT] o.type #[D,S]).run P w= .ok v w') (h:K (a.put o.dst v) w'):
 if Region.wanted o (yielded am a.tmps)=true then Oper.wp P o a w K Q else E:=by
 have hw:Region.wanted o (yielded am a.tmps)=true:=by simp[Region.wanted,hgd]
 rw[aN hw];unfold Oper.wp;simp[execOp,ho,resolve,invoke,builtin,hd,hs,hrun,Result.andThen];exact h
theorem ahQ{x:Int}{m k c g dCap sCap sLen dLen:Nat}{a:Addr}{W:World}(hg:W.heap[g]? =some (.cells (pp x m c).toArray 3))(h:m+k<=c)(hk:k=Nat.min sLen dLen)
 (hsrc:∀j v,(List.replicate k (Value.int .i64 x))[j]? =some v->W.cell? (a.add j)=some v):
 ∃W1,(Builtin.copy_ #[78,78] 3 #[.slice (some ⟨g,m,none⟩) dLen dCap,.slice (some a) sLen sCap]).run Tryz.prog W= .ok (.int .i64 k) W1/\W1.heap[g]? =some (.cells (pp x (m+k) c).toArray 3)/\∀B w0,Below B w0 W->B<=g->Below B w0 W1:=by
 obtain⟨i0,hi,hz0,hz1,hz2⟩:=info_parts ahP;have hone:∀v∈List.replicate k (Value.int .i64 x),v.oneCell'=true:=λv hv=>by rw[(List.mem_replicate.1 hv).2];rfl
 have hrun:=run_copy_row (P:=Tryz.prog) W 78 78 3 3 g m dLen dCap a sLen sCap (pp x m c).toArray 3 (List.replicate k (.int .i64 x)) Tryz.underlying78 (by rw[hi];simp[hz1]) hg (by simpa using hk) hsrc (by simp[pp];omega) hone;rw[List.length_replicate]at hrun;refine⟨_,hrun,?_,λB w0 hb hB=>below_setRow hb hB _⟩;have:=setRow_heap W g _ (pp x (m+k) c).toArray 3 _ hg;rw[<- agp x m k c h]at this ⊢;simpa[splice]using this
set_option maxRecDepth 100000 in
set_option maxHeartbeats 4000000 in
theorem ai0(x:Int)(c:Nat)(hc:c<=1000000000000)(a:Addr)(cap:Nat)(w:World)(hx:w.cell? a=some (.int .i64 x)):
 Calls Tryz.prog 233 #[.slice (some a) 1 cap,.int .i64 c] w λe W'=>∃v,e= .returned v/\W'.ownsRow w.heap.size 3 1 v c (List.replicate c (.int .i64 x))/\Below w.heap.size w W':=by
 have h0:(0:Int)<=(c:Int):=Int.natCast_nonneg _;obtain⟨i0,hi,hz0,hz1,hz2⟩:=info_parts ahP;have hms:=run_make (P:=Tryz.prog) w 78 3 i0 (.int .i64 0) Tryz.underlying78 hi hz0 .i64 .i64 c c (by omega) (Int.le_refl _) (by rw[hz2];omega) (by omega);rw[hz1]at hms;simp only[Int.toNat_natCast,Nat.mul_one,Value.cells]at hms;obtain⟨uc,tM⟩:∃uc,madeCells #[Value.int .i64 0] c=uc:=⟨_,rfl⟩;rw[tM]at hms;have hgm:=heap_alloc_new w (.cells uc 3);have C0:uc=(pp x 0 c).toArray:=by rw[<- tM];apply Array.ext';rw[toList_madeCells_one];simp[pp]
 rw[C0]at hgm hms;have QP:Below w.heap.size w (w.alloc (.cells (pp x 0 c).toArray 3)):=(Below.refl _ _).alloc (aP _) _;have hsz1:(Tryz.prog.info? 3).map (·.size)=some 1:=by rw[hi];simp[hz1]
 go_enter Tryz.func233,Tryz.ntmps233
 have hone:∀k,∀v∈List.replicate k (Value.int .i64 x),v.oneCell'=true:=λk v hv=>by rw[(List.mem_replicate.1 hv).2];rfl
 have hab:a.block<w.heap.size:=World.block_lt_of_cell? w a hx;obtain⟨W1,hcp,hg1,hb1⟩:=ahQ (k:=min 1 c) (sLen:=1) (dLen:=c) (dCap:=c) (sCap:=cap) (a:=a) hgm (by omega) rfl λj v hj=>by
  have hj0:=(cO.1 hj).1;rw[List.length_replicate]at hj0;obtain rfl:j=0:=by omega
  rw[List.getElem?_replicate,aN hj0]at hj;cases hj;have:=(Below.refl w.heap.size w).alloc (aP _) (.cells (pp x 0 c).toArray 3) |>.cell hab;rw[<- hx,<- this];rfl
 have hb1:=hb1 _ _ QP (aP _);rw[Nat.zero_add]at hg1;obtain⟨m0,hm0⟩:∃m0,min 1 c=m0:=⟨_,rfl⟩;rw[hm0]at hcp hg1
 go_wp2_with (go_at_call 250;refine(alW c hc _).mono ?_;rintro e w' ⟨rfl,hw⟩;rw[hw])
 go_loopw [8] (λ i W=>∃m:Nat,m<=c/\(0<c->0<m)/\i= .int .i64 m/\W.heap[w.heap.size]? =some (.cells (pp x m c).toArray 3)/\Below w.heap.size w W)
  (λ i _=>c -(intOf i).toNat)
 case atStart=>exact⟨m0,by omega,by omega,rfl,hg1,hb1⟩
 case round=>
  obtain⟨m,hm,hmp,rfl,hgW,hbW⟩:=hrel;by_cases hlt:m<c
  ·have hm1:(0:Int)<=(m:Int):=Int.natCast_nonneg _;have hm2:(m:Int)<=(c:Int):=(by omega);have hcm:¬c=m:=(by omega);obtain⟨W2,hcp2,hg2,hb2⟩:=ahQ (W:=wr.drew) (k:=min m (c -m)) (sLen:=m) (dLen:=c -m) (dCap:=c -m) (sCap:=c) (a:=⟨w.heap.size,0,none⟩) (show wr.drew.heap[w.heap.size]? =_ from hgW) (by omega) rfl λj v hj=>by
    have hj0:=(cO.1 hj).1;rw[List.length_replicate]at hj0;rw[List.getElem?_replicate,aN hj0]at hj;have h1:(pp x m c)[j]? =some (.int .i64 x):=(by rw[pp,List.getElem?_append_left (by simp;omega),List.getElem?_replicate,aN (by omega)]);show wr.cell? _=_;rw[<- hj,<- h1];cases j with
    |zero=>simp[World.cell?,Addr.add,hgW]
    |succ j=>simp[World.cell?,Addr.add,hgW]
   have hb2:=hb2 w.heap.size w (show Below w.heap.size w wr.drew from⟨hbW.os,hbW.tape,hbW.output,hbW.size,hbW.block⟩) (aP _);obtain⟨k,hk⟩:∃k,min m (c -m)=k:=⟨_,rfl⟩;rw[hk]at hcp2 hg2
   go_wp2
   go_region_held3 (λ _=>True) (trivial) ((refine alX (by rfl) _ _ _ _ (by rfl) (by simp[Act.eval,hcm]) (by rfl) hcp2 ?_))
   have hw:i64.wrap ((m:Int)+(k:Int))=((m+k:Nat):Int):=(by rw[IntKind.wrap_i64];omega);rw[hw]
   go_wp2
   exact⟨⟨m+k,by omega,by omega,rfl,hg2,hb2⟩,by simp[intOf];omega⟩
  ·obtain rfl:m=c:=by omega
   go_wp2
   go_ret
   exact⟨_,rfl,⟨by simp,.inr ⟨w.heap.size,m,_,rfl,aP _,hgW,aP _,by unfold maxLen;omega,by simp[pp],by simp[pp]⟩⟩,hbW⟩
end Go.Proofs
namespace Go.Proofs
open Go.Shelf
def Tryz.lays144_ren:Go.Shelf.Ren:=⟨λ | 144=>134 | 143=>167 | 219=>203 | 217=>225 | 225=>226 | 224=>227 | 267=>228 | 266=>246 | 314=>247 |n=>n,λ | 9=>9 | 4=>4 | 3=>3 | 5=>5 | 46=>228 | 146=>320 | 51=>271 |n=>n,λ | 1=>0 |n=>n⟩
theorem Tryz.lays144:Go.Proofs.Lays.n144 Tryz.prog Tryz.lays144_ren:={
 mixed:=by kernel_rfl
 f143:=Tryz.func167.trans (congrArg some (by kernel_rfl))
 f144:=Tryz.func134.trans (congrArg some (by kernel_rfl))
 f217:=Tryz.func225.trans (congrArg some (by kernel_rfl))
 f219:=Tryz.func203.trans (congrArg some (by kernel_rfl))
 f224:=Tryz.func227.trans (congrArg some (by kernel_rfl))
 f225:=Tryz.func226.trans (congrArg some (by kernel_rfl))
 f266:=Tryz.func246.trans (congrArg some (by kernel_rfl))
 f267:=Tryz.func228.trans (congrArg some (by kernel_rfl))
 f314:=Tryz.func247.trans (congrArg some (by kernel_rfl))
 t3:=Tryz.underlying3
 a3:=Tryz.isAgg3
 z3:=Tryz.sizeOf3
 v3:=Tryz.zeroValue3
 t4:=Tryz.underlying4
 a4:=Tryz.isAgg4
 z4:=Tryz.sizeOf4
 v4:=Tryz.zeroValue4
 t5:=Tryz.underlying5
 a5:=Tryz.isAgg5
 z5:=Tryz.sizeOf5
 v5:=Tryz.zeroValue5
 t9:=Tryz.underlying9
 a9:=Tryz.isAgg9
 z9:=Tryz.sizeOf9
 v9:=Tryz.zeroValue9
 t46:=Tryz.underlying228
 a46:=Tryz.isAgg228
 z46:=Tryz.sizeOf228
 v46:=Tryz.zeroValue228
 t51:=Tryz.underlying271
 a51:=Tryz.isAgg271
 z51:=Tryz.sizeOf271
 v51:=Tryz.zeroValue271
 t146:=Tryz.underlying320
 a146:=Tryz.isAgg320
 z146:=Tryz.sizeOf320
 v146:=Tryz.zeroValue320
 g1:=by kernel_rfl }
theorem aec(s sub:ByteArray)(m:Int)(w:World)(hs:s.size<4294967281)(hm:w.cell? ⟨0,0,none⟩=some (.int .i64 m)):
 Calls Tryz.prog 134 #[.string s,.string sub] w λe w'=>e= .returned (.bool (Lib.contains s.data.toList sub.data.toList))/\w'=w:=Any.strings_Contains Tryz.lays144 s sub m w hs hm
end Go.Proofs
