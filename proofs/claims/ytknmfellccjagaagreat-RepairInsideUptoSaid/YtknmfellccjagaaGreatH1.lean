import Derived.Test.YtknmfellccjagaaGreatL1
import Derived.Maps.Own
import Derived.RangeFuncOwn
import Derived.Deep.WholeRow
import Derived.WalkKit
import Derived.Maps.Views
import Derived.Sort.KeysCollected
import Derived.Lib.IndexMore
import Derived.CallsIn
import Derived.Sort.Grow
import Derived.Shelf.SortM.Plain
import Derived.Shelf.SlSortCmp.SmallK
import Derived.Shelf.SortM.SortNone
import Derived.Shelf.SlSortCmp.WholeK
import Derived.Shelf.SlSortCmp.NoneTotal
import Derived.Sort.WalkA14
import Derived.RangeFuncNested
import Derived.RangeFuncBound
import Derived.RangeFuncLeaves
import Derived.Shelf.Abstract
import Derived.OwnWalkIn
import Derived.TacticsInMore
import Derived.LoopNIn
import Derived.LoopIn
import Derived.Shelf.SlIter.Nil
import Derived.Ground.GgzProg
import Derived.Ground.SlgmProg
import Derived.Test.YtknmfellccjagaaGreatChecked
import Derived.Maps.AppendAt
import Derived.Maps.OwnIn
import Derived.Maps.RangeWalk
import Derived.Maps.OwnSet
import Derived.Deep.RegionHeld3
import Derived.Deep.AppendLies
import Derived.Deep.RegionLaw
import Derived.Deep.DrawnRows
import Derived.Shelf.Bits.Mul64
import Derived.Laws.CopyOwn
import Derived.Shelf.Strings.Search3
import Derived.Ground.NamesProg
import Derived.Ground.SlsfProg
open Go.IntKind (i64)
open List (mem_map all_eq_true cons_append length_map length_nil map_map eq_nil_of_length_eq_zero)
namespace Go.Proofs
open Go.RowKit Go.Maps Go.Sort
attribute [local go_sem] Oper.semAt_some
inductive ET where
 |mk (op:Int) (s:ByteArray) (args:List ET)
mutual
def ET.names:ET->List ByteArray
 |.mk op s args=>(if op=1 then [s]else [])++ET.d6 args
def ET.d6:List ET->List ByteArray
 |[]=>[]
 |t::ts=>t.names++ET.d6 ts
end
section
variable (n0:Nat) (W:World)
mutual
def nh:ET->List Value->Prop
 |.mk op s args,vs=>∃n key sl,(vs=[.int .i64 op,.int .i64 n,.string s,.string key,sl]/\args.length<=4611686018427387904/\s.size<=maxLen)/\((args=[]/\∃a cap,sl=.slice a 0 cap)\/∃b aa cap,sl=.slice (some ⟨b,aa,none⟩) args.length cap/\b<n0/\iv args b aa)
def iv:List ET->Nat->Nat->Prop
 |[],_,_=>True
 |t::ts,b,aa=>(∃ vs:List Value,(∀ j v,vs[j]? =some v->W.cell? ⟨b,aa+j,none⟩=some v)/\nh t vs)/\iv ts b (aa+5)
end
end
mutual
theorem nh.below{n0:Nat}{A B:World}(h:Below n0 A B):∀(t:ET)(vs:List Value),nh n0 A t vs->nh n0 B t vs
 |.mk op s args,vs,ha=>by obtain⟨n,key,sl,h1,h2⟩:=ha;refine⟨n,key,sl,h1,h2.imp id ?_⟩;rintro⟨b,aa,cap,e,hb,hs⟩;exact⟨b,aa,cap,e,hb,iv.below h args b aa hb hs⟩
theorem iv.below{n0:Nat}{A B:World}(h:Below n0 A B):∀(ts:List ET)(b aa:Nat),b<n0->iv n0 A ts b aa->iv n0 B ts b aa
 |[],_,_,_,_=>by simp[iv]
 |t::ts,b,aa,hb,hs=>by obtain⟨⟨vs,h1,h2⟩,h3⟩:=hs;exact⟨⟨vs,λj v hj=>(h.cell (p:=⟨b,aa+j,none⟩) hb).trans (h1 j v hj),nh.below h t vs h2⟩,iv.below h ts b (aa+5) hb h3⟩
end
theorem nh.below'{n0:Nat}{A B:Δ}{t:ET}{vs:U Value}(ha:nh n0 A t vs)(h:Below n0 A B):nh n0 B t vs:=nh.below h t vs ha
theorem iv.get{n0:Nat}{W:Δ}:∀{ts:U ET}{b aa i:Nat}{t:ET},iv n0 W ts b aa->ts[i]? =some t->∃vs:U Value,(∀ j v,vs[j]? =some v->W.cell? ⟨b,aa+i*5+j,none⟩=some v)/\nh n0 W t vs
 |t::ts,b,aa,0,t',h,hi=>by simp at hi;subst hi;simpa using h.1
 |t::ts,b,aa,i+1,t',h,hi=>by obtain⟨vs,h1,h2⟩:=iv.get h.2 (by simpa using hi);exact⟨vs,λj v hj=>by rw[show aa+(i+1)*5+j=aa+5+i*5+j by omega];exact h1 j v hj,h2⟩
mutual
theorem nh.mono{n0 n1:Nat}{W:World}(hn:n0<=n1):∀(t:ET)(vs:List Value),nh n0 W t vs->nh n1 W t vs
 |.mk op s args,vs,ha=>by obtain⟨n,key,sl,h1,h2⟩:=ha;refine⟨n,key,sl,h1,h2.imp id ?_⟩;rintro⟨b,aa,cap,e,hb,hs⟩;exact⟨b,aa,cap,e,by omega,iv.mono hn args b aa hs⟩
theorem iv.mono{n0 n1:Nat}{W:World}(hn:n0<=n1):∀(ts:List ET)(b aa:Nat),iv n0 W ts b aa->iv n1 W ts b aa
 |[],_,_,_=>by simp[iv]
 |t::ts,b,aa,hs=>by obtain⟨⟨vs,h1,h2⟩,h3⟩:=hs;exact⟨⟨vs,h1,nh.mono hn t vs h2⟩,iv.mono hn ts b (aa+5) h3⟩
end
theorem ET.oy(ts:U ET)(i:Nat){t:ET}(h:ts[i]? =some t):ET.d6 (ts.take (i+1))=ET.d6 (ts.take i)++t.names:=by
 induction ts generalizing i with
 |nil=>simp at h
 |cons x xs ih=>
  cases i with
  |zero=>simp at h;subst h;simp[ET.d6]
  |succ i=>simp[ET.d6,ih i (by simpa using h)]
theorem ET.vj(ts:U ET)(i:Nat):(ET.d6 (ts.take i)).length<=(ET.d6 ts).length:=by
 induction ts generalizing i with
 |nil=>simp
 |cons x xs ih=>cases i with
  |zero=>simp[ET.d6]
  |succ i=>simp[ET.d6];have:=ih i;omega
theorem ET.rN{op:Int}{s:ByteArray}{args:U ET}{i:Nat}{t:ET}{x:ByteArray}(h:args[i]? =some t)(hx:x∈t.names):x∈(ET.mk op s args).names:=by
 simp[ET.names];refine .inr ?_
 induction args generalizing i with
 |nil=>simp at h
 |cons y ys ih=>
  simp[ET.d6];cases i with
  |zero=>simp at h;subst h;exact .inl hx
  |succ i=>exact .inr (ih (by simpa using h))
abbrev KB(l:U ByteArray):U Lit:=l.map λs=>.string s.data.toList
def xQ(l:U ByteArray):DataW Unit:=setOf (.lit (.bool true)) (KB l)
theorem afr(l:U ByteArray)(s:ByteArray):xQ (l++[s])=(xQ l).put (.string s.data.toList) (.lit (.bool true)):=by simp[xQ,setOf]
theorem ade(l:U ByteArray):∀x∈KB l,WideAt.IsKeyLit x:=by intro x hx;obtain⟨s,_,rfl⟩:=mem_map.1 hx;trivial
theorem abD:∀(xs L:U Lit),(xs.foldl addKey L).length<=L.length+xs.length
 |[],L=>by simp
 |x::xs,L=>by
  have h:=abD xs (addKey L x);have h2:(addKey L x).length<=L.length+1:=by unfold addKey;split<;>simp
  simp;omega
theorem afs(l:U ByteArray):Maps.size (xQ l)<=l.length:=by rw[xQ,size_setOf _ _ (ade l)];simpa using abD (KB l) []
def te(l:U (List UInt8)):U (List UInt8):=l.foldr (λ x a=>if x∈a then a else x::a) []
theorem VG(x:U UInt8):∀l,x∈te l↔x∈l
 |[]=>by simp[te]
 |y::l=>by have h:=VG x l;show x∈(if y∈te l then te l else y::te l)↔_;split;rename_i hy;rw[aL,h];exact⟨.inr,λe=>e.elim (λ e=>by rw[e];exact(VG y l).1 hy) id⟩;rw[aL,aL,h]
theorem QY:∀l,(te l).Nodup
 |[]=>List.nodup_nil
 |y::l=>by show(if y∈te l then te l else y::te l).Nodup;split;exact QY l;rename_i hy;exact List.nodup_cons.2 ⟨hy,QY l⟩
def xq(l:U ByteArray):U (List UInt8):=(te (l.map (·.data.toList))).mergeSort leB
theorem amL:∀l,(te l).length<=l.length
 |[]=>by simp[te]
 |y::l=>by have:=amL l;show(if y∈te l then te l else y::te l).length<=_;split<;>simp<;>omega
theorem aft(l:U ByteArray):(xq l).length<=l.length:=by rw[xq];simpa using amL (l.map (·.data.toList))
theorem amM{l:U ByteArray}{s:U UInt8}(h:s∈xq l):∃x∈l,s=x.data.toList:=by rw[xq,List.mem_mergeSort,VG]at h;obtain⟨x,hx,rfl⟩:=mem_map.1 h;exact⟨x,hx,rfl⟩
theorem ah5(l:U ByteArray){es:U (Lit×DataW Unit)}(e:xQ l=.map es)(hk:∀p∈es,∃x,p.1=.string x):(te (l.map (·.data.toList))).Perm (strKeys (xQ l)):=by
 have ht:=tidy_setOf (H:=Unit) (.lit (.bool true)) (KB l) (ade l);have hh:=λk=>has_setOf (H:=Unit) (.lit (.bool true)) k (KB l) (ade l);obtain⟨es',e',hp⟩:=ht;obtain rfl:es=es':=by have:=e.symm.trans e';injection this
 rw[e];refine perm_strKeys hp hk (QY _) λx=>?_;rw[<- e,xQ,hh,VG];constructor;intro h;obtain⟨z,hz,rfl⟩:=mem_map.1 h;exact List.any_eq_true.2 ⟨_,mem_map.2 ⟨z,hz,rfl⟩,WideAt.sameKey_self trivial⟩;intro h;obtain⟨y,hy,hs⟩:=List.any_eq_true.1 h;obtain⟨z,hz,rfl⟩:=mem_map.1 hy;have:=WideAt.sameKey_eq hs;injection this with this;exact mem_map.2 ⟨z,hz,this⟩
mutual
theorem nh.gC{n0:Nat}{W:World}:∀(t:ET)(vs:List Value),nh n0 W t vs->∀x∈t.names,x.size<=maxLen
 |.mk op s args,vs,h,x,hx=>by obtain⟨n,key,sl,⟨_,_,hs⟩,h2⟩:=h;simp only[ET.names,bF]at hx;rcases hx with hx|hx;split at hx;rw[bg]at hx;rw[hx];exact hs;cases hx;rcases h2 with ⟨rfl,_⟩|⟨b,aa,cap,_,_,h3⟩;simp[ET.d6]at hx;exact iv.gC args b aa h3 x hx
theorem iv.gC{n0:Nat}{W:World}:∀(ts:List ET)(b aa:Nat),iv n0 W ts b aa->∀x∈ET.d6 ts,x.size<=maxLen
 |[],_,_,_,x,hx=>by simp[ET.d6]at hx
 |t::ts,b,aa,h,x,hx=>by obtain⟨⟨vs,_,h1⟩,h2⟩:=h;simp[ET.d6]at hx;exact hx.elim (nh.gC t vs h1 x) (iv.gC ts b (aa+5) h2 x)
end
mutual
def ET.wt:ET->Nat
 |.mk _ s args=>1+s.size+ET.tU args
def ET.tU:List ET->Nat
 |[]=>0
 |t::ts=>t.wt+ET.tU ts
end
mutual
theorem ET.py:∀t:ET,t.names.length<=t.wt
 |.mk op s args=>by have:=ET.rk args;simp[ET.names,ET.wt];split<;>simp<;>omega
theorem ET.rk:∀ts:List ET,(ET.d6 ts).length<=ET.tU ts
 |[]=>by simp[ET.d6]
 |t::ts=>by have h1:=ET.py t;have h2:=ET.rk ts;simp[ET.d6,ET.tU];omega
end
theorem ET.rS:∀ts:U ET,ts.length<=ET.tU ts
 |[]=>aB _
 |t::ts=>by
  have:=ET.rS ts;have h:1<=t.wt:=by cases t;simp[ET.wt];omega
  simp[ET.tU];omega
theorem dW(P:Ξ)(W:Δ)(c:η)(t:Θ)(j:Nat)(u:Ψ)(hj:j<c.size)(h1:u.oneCell'=true):
 (store ⟨W.heap.size,j,none⟩ u).run P (W.alloc (.cells c t))=.ok () (W.alloc (.cells (c.set j u) t)):=by have hn:=World.alloc_heap_new W (.cells c t);rw[run_store _ _ _ _ _ h1];have hr:=World.setRow_alloc_new W c (c.set j u) t;simp only[World.cell?,World.frozen?,hn,Array.getElem?_eq_getElem hj];simp[<- hr];simp only[World.setCell,World.setRow,World.alloc];congr 1;apply Array.ext_getElem?;intro i;rw[Array.getElem?_modify,Array.getElem?_modify];by_cases h:W.heap.size=i;subst h;simp[Array.setIfInBounds,hj];simp[h]
end Go.Proofs
namespace Go.Gb
open Go.RowKit Go.Proofs
mutual
def s7:ET->List Tree->Prop
 |.mk op s args,r=>∃n key rows,r=[.sc (.int .i64 op),.sc (.int .i64 n),.sc (.string s),.sc (.string key),.sl rows]/\s.size<=maxLen/\args.length<=4611686018427387904/\oS args rows
def oS:List ET->List (List Tree)->Prop
 |[],rows=>rows=[]
 |t::ts,rows=>∃r rs,rows=r::rs/\s7 t r/\oS ts rs
end
theorem oS.len:∀{ts:U ET}{rows:U (List Tree)},oS ts rows->rows.length=ts.length
 |[],rows,h=>by subst h;rfl
 |t::ts,rows,h=>by obtain⟨r,rs,rfl,_,h⟩:=h;simp[h.len]
theorem s7.len{t:ET}{r:U Tree}(h:s7 t r):r.length=5:=by cases t;obtain⟨_,_,_,rfl,_⟩:=h;rfl
theorem L9{w:Δ}{I:Φ}:∀{r:U Tree}{b aa:Nat},eh w I r b aa->∃vs:U Value,eV w I r vs/\∀j v,vs[j]? =some v->w.cell? ⟨b,aa+j,none⟩=some v
 |[],b,aa,_=>⟨[],trivial,λj v h=>by simp at h⟩
 |x::xs,b,aa,h=>by
  obtain⟨⟨c,hc,hx⟩,h2⟩:=h;obtain⟨vs,h3,h4⟩:=L9 h2;refine⟨c::vs,⟨hx,h3⟩,λj v hj=>?_⟩;cases j with
  |zero=>simp at hj;subst hj;exact hc
  |succ j=>have:=h4 j v (by simpa using hj);rw[<- this];congr 2;omega
mutual
theorem amN{w:World}{I:Nat->Prop}{n0:Nat}(hI:∀b,I b->b<n0):∀(t:ET)(r:List Tree)(vs:List Value),s7 t r->eV w I r vs->nh n0 w t vs
 |.mk op s args,r,vs,h,hv=>by
  obtain⟨n,key,rows,rfl,hs,hl,h⟩:=h
  match vs,hv with
  |[a,b,c,d,e],hv=>
   obtain⟨⟨rfl,_⟩,⟨rfl,_⟩,⟨rfl,_⟩,⟨rfl,_⟩,he,_⟩:=hv;refine⟨n,key,e,⟨rfl,hl,hs⟩,?_⟩;have hlen:=h.len;rcases he with ⟨rfl,a,cap,rfl,_⟩|⟨b,aa,cap,sz,rfl,_,hb,hr⟩;exact .inl ⟨eq_nil_of_length_eq_zero hlen.symm,_,_,rfl⟩;exact .inr ⟨b,aa,cap,by rw[hlen],hI b hb,ajS hI args rows b aa sz h hr⟩
theorem ajS{w:World}{I:Nat->Prop}{n0:Nat}(hI:∀b,I b->b<n0):∀(ts:List ET)(rows:List (List Tree))(b aa sz:Nat),oS ts rows->cC w I rows b aa sz->iv n0 w ts b aa
 |[],_,_,_,_,_,_=>by simp[iv]
 |t::ts,rows,b,aa,sz,h,hr=>by obtain⟨r,rs,rfl,h1,h2⟩:=h;obtain⟨rfl,h3,h4⟩:=hr;obtain⟨vs,h5,h6⟩:=L9 h3;rw[h1.len]at h4;exact⟨⟨vs,h6,amN hI t r vs h1 h5⟩,ajS hI ts rs b (aa+5) 5 h2 h4⟩
end
theorem ak3{P:Ξ}{α:Type}{enc:α->Value}(h1:∀x,oneCell (enc x)){E:Θ}{w w':Δ}{β:ζ}{I:Φ}{l:U α}{v:Ψ}(hlt:∀b,I b->b<w.heap.size)
 (hown:w'.ownsRow w.heap.size E 1 v l.length (l.map enc)):mz P (CI w β []) 1 (l.map λs=>[.sc (enc s)]) w' I v:=by rcases hown.2 with ⟨rfl,h0⟩|⟨g,cap,cur,rfl,hg,hgb,hle,_,hcs,htk⟩;exact .inl ⟨by rw[eq_nil_of_length_eq_zero h0];rfl,rfl⟩;refine .inr ⟨g,cur,E,cap,0,0,by simp,⟨.inr hg,λk o hk=>by simp[Ey]at hk⟩,λhi=>absurd (hlt g hi) (by omega),hgb,by simpa using hle,by omega,?_,λ_=>rfl⟩;rw[pF];intro i x hx;simp[aI]at hx;obtain⟨s,hs',rfl⟩:=hx;refine⟨rfl,?_⟩;have hi:i<l.length:=(dx.1 hs').1;have:=congrArg (λ q=>q[i]?) htk;simp only[List.getElem?_take,List.getElem?_map,hs',Option.map_some]at this;rw[aY (by omega)]at this;exact⟨⟨_,by simpa using this,⟨rfl,h1 s⟩,h1 s⟩,trivial⟩
end Go.Gb
namespace Go.Proofs
open Go.RowKit Go.Maps
def Xs(n0:Nat)(W:Δ)(d:ByteArray×ET)(vs:U Value):Prop:=∃v0 v1 v2 v3 v4,vs=[.string d.1,v0,v1,v2,v3,v4]/\d.1.size<=maxLen/\nh n0 W d.2 [v0,v1,v2,v3,v4]
def IP(n0:Nat)(W:Δ)(ds:U (ByteArray×ET))(sv:Ψ):Prop:=
 (ds=[]/\∃a cap,sv=.slice a 0 cap)\/∃b aa cap,sv=.slice (some ⟨b,aa,none⟩) ds.length cap/\b<n0/\∀j d,ds[j]? =some d->∃vs:U Value,(∀ k v,vs[k]? =some v->W.cell? ⟨b,aa+j*6+k,none⟩=some v)/\Xs n0 W d vs
theorem IP.below{n0:Nat}{A B:Δ}{ds:U (ByteArray×ET)}{sv:Ψ}(hd:IP n0 A ds sv)(h:Below n0 A B):IP n0 B ds sv:=by refine hd.imp id ?_;rintro⟨b,aa,cap,rfl,hb,hr⟩;refine⟨b,aa,cap,rfl,hb,λj d hj=>?_⟩;obtain⟨vs,h1,v0,v1,v2,v3,v4,rfl,h2,h3⟩:=hr j d hj;exact⟨_,λk v hk=>(h.cell (p:=⟨b,aa+j*6+k,none⟩) hb).trans (h1 k v hk),v0,v1,v2,v3,v4,rfl,h2,h3.below' h⟩
def N9(ds:U (ByteArray×ET))(s:U UInt8):Nat->J Int
 | 0=>none
 |k+1=>if (ds.getD k (⟨#[]⟩,.mk 0 ⟨#[]⟩ [])).1.data.toList=s then some k else N9 ds s k
def iW(ds:U (ByteArray×ET))(l:U (List UInt8)):U Int:=l.filterMap λs=>N9 ds s ds.length
abbrev X0(l:U Int):U Value:=l.map (Value.int .i64)
def pU(ds:U (ByteArray×ET)):U (List Int):=ds.map λd=>iW ds (xq d.2.names)
def sq(ds:U (ByteArray×ET)):Nat:=ds.foldr (λ d n=>1+d.1.size+d.2.wt+n) 0
theorem VH:∀ds:U (ByteArray×ET),ds.length<=sq ds
 |[]=>aB _
 |d::ds=>by have:=VH ds;simp[sq]at this ⊢;omega
theorem VI:∀{ds:U (ByteArray×ET)}{d:ByteArray×ET},d∈ds->d.1.size+d.2.wt<=sq ds
 |x::ds,d,h=>by simp[sq];rcases aL.1 h with rfl|h;omega;have:=VI h;simp[sq]at this;omega
def apC(w:Δ)(uB:Nat)(sv:Ψ)(ds:U (ByteArray×ET))(TL TG TI:Θ)(W:Δ):Prop:=
 ∃us:U Value,us.length=ds.length/\W.heap[uB]? =some (.cells us.toArray TL)/\W.heap[uB+1]? =some (.cells #[sv,.slice (some ⟨uB,0,none⟩) ds.length ds.length] TG)/\Below w.heap.size w W/\
  ∀(j:Nat)(v:Value),us[j]? =some v->∃d:ByteArray×ET,ds[j]? =some d/\W.ownsRow (uB+2) TI 1 v (iW ds (xq d.2.names)).length (X0 (iW ds (xq d.2.names)))
end Go.Proofs
namespace Go.Gb
open Go.RowKit Go.Proofs
def aqM(d:ByteArray×ET)(r:U Tree):Prop:=∃a b c e f,r=[.sc (.string d.1),a,b,c,e,f]/\d.1.size<=maxLen/\s7 d.2 [a,b,c,e,f]
def oT:U (ByteArray×ET)->U (List Tree)->Prop
 |[],rows=>rows=[]
 |d::ds,rows=>∃r rs,rows=r::rs/\aqM d r/\oT ds rs
theorem oT.len:∀{ts:U (ByteArray×ET)}{rows:U (List Tree)},oT ts rows->rows.length=ts.length
 |[],rows,h=>by subst h;rfl
 |t::ts,rows,h=>by obtain⟨r,rs,rfl,_,h⟩:=h;simp[h.len]
theorem ap7{w:Δ}{I:Φ}{n0:Nat}(hI:∀b,I b->b<n0){d:ByteArray×ET}{r:U Tree}{vs:U Value}(h:aqM d r)(hv:eV w I r vs):Xs n0 w d vs:=by
 obtain⟨a,b,c,e,f,rfl,hs,hr⟩:=h
 match vs,hv with
 |v::vs,hv=>
  obtain⟨⟨rfl,_⟩,h2⟩:=hv;have he:=amN hI d.2 _ vs hr h2;obtain⟨v0,v1,v2,v3,v4,rfl⟩:∃v0 v1 v2 v3 v4,vs=[v0,v1,v2,v3,v4]:=by
   cases hd:d.2 with
   |mk op s args=>
    rw[hd]at he;obtain⟨_,_,_,⟨e,_⟩,_⟩:=he;exact⟨_,_,_,_,_,e⟩
  exact⟨v0,v1,v2,v3,v4,rfl,hs,he⟩
theorem afu{w:Δ}{I:Φ}{n0:Nat}(hI:∀b,I b->b<n0):∀(ds:U (ByteArray×ET))(rows:U (List Tree))(b aa sz:Nat),oT ds rows->cC w I rows b aa sz->
 ∀j d,ds[j]? =some d->∃vs:U Value,(∀ k v,vs[k]? =some v->w.cell? ⟨b,aa+j*6+k,none⟩=some v)/\Xs n0 w d vs
 |[],_,_,_,_,_,_,j,d,h=>by simp at h
 |t::ts,rows,b,aa,sz,h,hr,j,d,hj=>by
  obtain⟨r,rs,rfl,h1,h2⟩:=h;obtain⟨rfl,h3,h4⟩:=hr;obtain⟨vs,h5,h6⟩:=L9 h3;have h7:r.length=6:=by obtain⟨_,_,_,_,_,rfl,_⟩:=h1;rfl
  cases j with
  |zero=>
   simp at hj;subst hj;exact⟨vs,λk v hk=>by simpa using h6 k v hk,ap7 hI h1 h5⟩
  |succ j=>
   rw[h7]at h4;obtain⟨vs,g1,g2⟩:=afu hI ts rs b (aa+6) 6 h2 h4 j d (by simpa using hj);exact⟨vs,λk v hk=>by rw[show aa+(j+1)*6+k=aa+6+j*6+k by omega];exact g1 k v hk,g2⟩
theorem X4{w:Δ}{I:Φ}{g:Nat}:∀(l:U Int)(aa:Nat),(∀ j v,(X0 l)[j]? =some v->w.cell? ⟨g,aa+j,none⟩=some v)->cC w I (l.map λi=>[.sc (.int .i64 i)]) g aa 1
 |[],_,_=>by simp[cC]
 |i::l,aa,h=>by simp only[bK,cC,eh,TR,gB,length_nil];refine⟨trivial,⟨⟨_,by simpa using h 0 _ rfl,rfl,trivial⟩,trivial⟩,X4 l (aa+1) λj v hj=>?_⟩;rw[show aa+1+j=aa+(j+1)by omega];exact h (j+1) v (by simpa using hj)
theorem X5{w:Δ}{I:Φ}{b:Nat}:∀(us:U Value)(L:U (List Int))(aa:Nat),us.length=L.length->(∀ (j:Nat) (v:Value),us[j]? =some v->w.cell? ⟨b,aa+j,none⟩=some v)->
 (∀ (j:Nat) (v:Value) (l:U Int),us[j]? =some v->L[j]? =some l->TR w I (.sl (l.map λi=>[.sc (.int .i64 i)])) v)->cC w I (L.map λl=>[.sl (l.map λi=>[.sc (.int .i64 i)])]) b aa 1
 |us,[],_,_,_,_=>by simp[cC]
 |[],_::_,_,h,_,_=>by simp at h
 |u::us,l::L,aa,hl,h1,h2=>by simp only[bK,cC,eh,gB,length_nil];refine⟨trivial,⟨⟨u,by simpa using h1 0 u rfl,h2 0 u l rfl rfl⟩,trivial⟩,X5 us L (aa+1) (by simpa using hl) (λ j v hj=>?_) λj v l' hj hl'=>h2 (j+1) v l' (by simpa using hj) (by simpa using hl')⟩;rw[show aa+1+j=aa+(j+1)by omega];exact h1 (j+1) v (by simpa using hj)
theorem adf{P:Ξ}{f:FuncId}{TL TG TI:Θ}(hcall:eZ P f){ds:U (ByteArray×ET)}{rows:U (List Tree)}(hr:oT ds rows)
 (h:∀(sv:Value)(w:World),IP w.heap.size w ds sv->Calls P f #[sv] w λe W'=>∃uB,e=.returned (.pointer (some ⟨uB+1,0,none⟩))/\w.heap.size<uB/\apC w uB sv ds TL TG TI W'):
 Hs P f [.t (.sl rows)] [] [(1000,⟨2,[[.t (.sl rows),.t (.sl ((pU ds).map λl=>[.sl (l.map λi=>[.sc (.int .i64 i)])]))]]⟩)] (.ptr 1000 0 0):=by
 refine⟨hcall,λw β I vs hβ hM hvs=>?_⟩;obtain⟨vs⟩:=vs
 match vs,hvs with
 |[sv],hvs=>
  have hv:TR w I (.sl rows) sv:=by have:=hvs.1;simpa[VR]using this
  have hlen:=hr.len;have hS:IP w.heap.size w ds sv:=by rcases hv with ⟨rfl,a,cap,rfl,_⟩|⟨b,aa,cap,sz,rfl,_,hb,hT⟩;exact .inl ⟨eq_nil_of_length_eq_zero hlen.symm,_,_,rfl⟩;exact .inr ⟨b,aa,cap,by rw[hlen],hM.lt b hb,afu hM.lt ds rows b aa sz hr hT⟩
  refine(h sv w hS).mono ?_;rintro e w' ⟨uB,rfl,huB,us,tA,hU,hG,hbel,Bs⟩;have HF:uB+1<w'.heap.size:=(Array.getElem?_eq_some_iff.1 hG).1;obtain⟨I',hI'⟩:∃I':Nat->Prop,I'=λb=>I b\/(w.heap.size<=b/\b<w'.heap.size/\b≠uB+1):=⟨_,rfl⟩;have hII:∀b,I b->I' b:=λb hb=>by rw[hI'];exact .inl hb
  obtain⟨hs,hM'⟩:=hM.below hbel (I':=I') hII (λ b hb=>by rw[hI']at hb;rcases hb with hb|hb;exact Nat.lt_of_lt_of_le (hM.lt b hb) hbel.size;exact hb.2.1) (λ b k o B h1 h2 h3 h4=>by simp[ue]at h2) (λ b hb=>by rw[hI']at hb;rcases hb with hb|hb;exact hM.up b hb;exact .inr (.inr hb.1));have arB:TR w' I' (.sl rows) sv:=TR.mono hs hII _ _ hv;have hone:oneCell sv:=by simp only[TR]at hv;rcases hv with ⟨_,a,cap,rfl,_⟩|⟨b,aa,cap,sz,rfl,_⟩<;>trivial
  have huv:TR w' I' (.sl ((pU ds).map λl=>[.sl (l.map λi=>[.sc (.int .i64 i)])])) (.slice (some ⟨uB,0,none⟩) ds.length ds.length):=by simp only[TR];refine .inr ⟨uB,0,ds.length,1,by simp[pU],by simp[pU],by rw[hI'];exact .inr ⟨by omega,by omega,by omega⟩,?_⟩;refine X5 us (pU ds) 0 (by simp[pU,tA]) (λ j v hj=>by simp[World.cell?,hU,hj]) λj v l hj hl=>?_;obtain⟨d,hd,ho⟩:=Bs j v hj;have hle:l=iW ds (xq d.2.names):=(by simp[pU,hd]at hl;exact hl.symm);subst hle;simp only[TR];rcases ho.2 with ⟨rfl,h0⟩|⟨g,cap,cur,rfl,hg,hgb,hle,_,hcs,htk⟩;exact .inl ⟨by rw[eq_nil_of_length_eq_zero h0];rfl,_,_,rfl,λ_=>rfl⟩;refine .inr ⟨g,0,cap,1,by simp,by simpa using hle,by rw[hI'];exact .inr ⟨by omega,(Array.getElem?_eq_some_iff.1 hgb).1,by omega⟩,X4 _ 0 λi x hx=>?_⟩;rw[<- htk,List.getElem?_take]at hx;split at hx;simpa[World.cell?,hgb]using hx;cases hx
  have hf:mz P (λ b=>w.heap.size<=b) 2 [[.sl rows,.sl ((pU ds).map λl=>[.sl (l.map λi=>[.sc (.int .i64 i)])])]] w' I' (.slice (some ⟨uB+1,0,none⟩) 1 1):=by
   refine .inr ⟨uB+1,_,TG,1,0,0,rfl,by show w.heap.size<=uB+1;omega,λhb=>?_,hG,aB _,by simp,?_,λ_=>rfl⟩;rw[hI']at hb;rcases hb with hb|hb;exact absurd (hM.lt _ hb) (by omega);exact hb.2.2 rfl;rw[pF];intro i x hx;cases i with
   |succ i=>simp[aI]at hx
   |zero=>
    simp[aI]at hx;subst hx;refine⟨rfl,?_⟩;simp only[cW,VR];exact⟨⟨_,rfl,arB,hone⟩,⟨_,rfl,huv,trivial⟩,trivial⟩
  obtain⟨β',hS',hM2,hV⟩:=hM'.fresh (i:=1000) (hβ 1000 (by simp)) (F:=λb=>w.heap.size<=b) (λ k o b h1 h2 h3=>by simp[ue]at h1) (λ b h=>.inr h) hf;refine⟨_,β',I',rfl,?_,hII,?_⟩;have e:qk [(1000,(⟨2,[[.t (.sl rows),.t (.sl ((pU ds).map λl=>[.sl (l.map λi=>[.sc (.int .i64 i)])]))]]⟩:aR))]=cu (ue []) [(1000,some ⟨2,aI [[.sl rows,.sl ((pU ds).map λl=>[.sl (l.map λi=>[.sc (.int .i64 i)])])]]⟩)]:=by funext k;simp only[qk,cu,ue];by_cases h1:k=1000;subst h1;simp[aI];rw[aT h1,aT (λ e=>h1 e.symm)];rfl
  rw[e];exact hM2;rcases hV with ⟨_,h,_⟩|⟨b,sz,n,cap,o,hb,h,_,_,hc⟩;cases h;injection h with h1 h2 h3;injection h1 with h1;injection h1 with h1 h4;subst h1 h3;exact⟨_,sz,n,hb,by rw[<- hc (by omega),<- h4]⟩
end Go.Gb
namespace Go.Gb
open Go.RowKit Go.Proofs
theorem ah6{P:Ξ}{f:FuncId}{E:Θ}(hcall:eZ P f){x:Int}{c:Nat}
 (h:∀(a:Addr)(cap:Nat)(w:World),w.cell? a=some (.int .i64 x)->Calls P f #[.slice (some a) 1 cap,.int .i64 c] w λe W'=>∃v,e=.returned v/\W'.ownsRow w.heap.size E 1 v c (List.replicate c (.int .i64 x))/\Below w.heap.size w W'):
 rh P f [.t (.sl [[.sc (.int .i64 x)]]),.t (.sc (.int .i64 (c:Int)))] [] [] (.one (.fresh 1 ((List.replicate c x).map λi=>[.sc (.int .i64 i)]))):=by
 refine⟨hcall,λw β I vs hβ hM hvs=>?_⟩;obtain⟨vs⟩:=vs
 match vs,hvs with
 |[a,b],hvs=>
  obtain⟨h1,⟨rfl,_⟩,_⟩:=hvs;rcases h1 with ⟨h0,_⟩|⟨b,aa,cap,sz,rfl,_,hb,_,⟨⟨u,hu,rfl,_⟩,_⟩,_⟩;cases h0;refine(h _ cap w hu).mono ?_;rintro e w' ⟨v,rfl,hown,hbel⟩;obtain⟨hs,hM'⟩:=hM.below hbel (I':=I) (λ _ h=>h) (λ b hb=>Nat.lt_of_lt_of_le (hM.lt b hb) hbel.size) (λ b k o B h1 h2 h3 h4=>(hM.ownB k o B b h2 h3 h4).1 h1) hM.up;refine⟨v,I,rfl,hM',λ_ h=>h,?_⟩;have hown':w'.ownsRow w.heap.size E 1 v (List.replicate c x).length ((List.replicate c x).map (Value.int .i64)):=by simpa using hown
  exact ak3 (enc:=Value.int .i64) (λ _=>trivial) hM.lt hown'
end Go.Gb
namespace Go.Gb
open Go.RowKit Go.Proofs
theorem adg{P:Ξ}{f:FuncId}{g:Nat}(hg:apH g=true)(hcall:eZ P f){s b:ByteArray}
 (h:∀(m:Int)(w:World),w.cell? ⟨g,0,none⟩=some (.int .i64 m)->Calls P f #[.string s,.string b] w λe w'=>e=.returned (.bool (Lib.contains s.data.toList b.data.toList))/\w'=w):
 rh P f [.t (.sc (.string s)),.t (.sc (.string b))] [] [] (.one (.d (.s (.sc (.bool (Lib.contains s.data.toList b.data.toList)))))):=by
 refine⟨hcall,λw β I vs hβ hM hvs=>?_⟩;obtain⟨vs⟩:=vs
 match vs,hvs with
 |[a,c],hvs=>
  obtain⟨⟨rfl,_⟩,⟨rfl,_⟩,_⟩:=hvs;obtain⟨_,m,hm⟩:=hM.vars.2 g hg;refine(h m w hm).mono ?_;rintro e w' ⟨rfl,rfl⟩;obtain⟨hs,hM'⟩:=hM.below (Below.refl _ _) (I':=I) (λ _ h=>h) (λ b hb=>hM.lt b hb) (λ b k o B h1 h2 h3 h4=>(hM.ownB k o B b h2 h3 h4).1 h1) hM.up;refine⟨_,I,rfl,hM',λ_ h=>h,?_⟩;exact⟨rfl,trivial⟩
end Go.Gb
namespace Go.Gb
open Go
theorem QZ{α:Type}:∀(a:Ask α)(w:World),w.drawn<=(w.ask a).2.drawn
 |.done _,w=>aB _
 |.ask what range k,w=>by unfold World.ask;simp;split;exact QZ (k 0) w;exact Nat.le_trans (Nat.le_succ _) (QZ (k _) { w with drawn:=w.drawn+1 })
theorem Q0(w:Δ)(c:Sys):w.drawn<=(w.sys c).2.drawn:=by have h:=QZ (Kernel.perform c w.os) w;unfold World.sys;split;exact aB _;rename_i heq;rw[heq]at h;exact h
theorem abE{p:Ξ}{w w':Δ}{a:Addr}{v:Ψ}{b:Bool}{l:U Addr}(h:w.farStore p a v b=.ok (w',l)):w'.drawn=w.drawn:=by
 unfold World.farStore at h;split at h;split at h
 .rename_i r heq;cases h;unfold World.viewStore at heq;simp[bind,Except.bind]at heq
  repeat' split at heq
  all_goals first|(cases heq;done)|skip
  all_goals (injection heq with heq;injection heq with h1 h2;rw[<- h1])
 cases h;cases h
def wg{α:Type}:Result α->Nat
 |.ok _ w=>w.drawn
 |.halt _ w=>w.drawn
theorem jO{α:Type}(p:Ξ):∀(s:Sem α)(w:World),w.drawn<=wg (s.run p w):=by
 intro s
 induction s
 intro w;exact aB _;rename_i m a k ih;intro w;unfold Sem.run;split;exact ih _ w;split;exact ih _ w;exact aB _
 .rename_i m a v k ih;intro w;cases v<;>simp[Sem.run]<;>first|exact aB _|skip
  all_goals
   split;split;exact aB _;exact ih (w.setCell _ _);split;rename_i w1 _ heq;have:=abE heq;exact this ▸ ih w1;exact aB _
 rename_i o k ih;intro w;exact ih _ { w with heap:=w.heap.push o };rename_i r k ih;intro w;exact ih _ w;rename_i a n k ih;intro w;refine Nat.le_trans (Nat.le_of_eq ?_) (ih _);unfold World.freeze;split<;>rfl;rename_i a k ih;intro w;exact ih _ w;rename_i r k ih;intro w;unfold Sem.run;split;exact aB _;exact ih _ w;exact aB _;rename_i r o k ih;intro w;unfold Sem.run;split;exact aB _;exact ih { w with heap:=w.heap.setIfInBounds r o };exact aB _;rename_i q k ih;intro w;unfold Sem.run;split;exact ih _ w;exact Nat.le_trans (Nat.le_succ _) (ih _ { w with drawn:=w.drawn+1 });rename_i c k ih;intro w;exact Nat.le_trans (Q0 w c) (ih _ _);rename_i k ih;intro w;exact ih _ w;rename_i m k ih;intro w;exact ih w;intro w;exact aB _
theorem oD{α:Type}(p:Ξ):∀(s:Sem α)(w:World)(es:Array Event),w.drawn<=wg (s.runT p w es).1:=by
 intro s
 induction s
 intro w es;exact aB _;rename_i m a k ih;intro w es;unfold Sem.runT;split;exact ih _ w _;split;exact ih _ w _;exact aB _
 .rename_i m a v k ih;intro w es;cases v<;>simp only[Sem.runT]<;>first|exact aB _|skip
  all_goals
   split;split;exact aB _;exact ih (w.setCell _ _) _;split;rename_i w1 _ heq;have:=abE heq;exact this ▸ ih w1 _;exact aB _
 rename_i o k ih;intro w es;exact ih _ { w with heap:=w.heap.push o } _;rename_i r k ih;intro w es;exact ih _ w _;rename_i a n k ih;intro w es;refine Nat.le_trans (Nat.le_of_eq ?_) (ih _ _);unfold World.freeze;split<;>rfl;rename_i a k ih;intro w es;exact ih _ w _;rename_i r k ih;intro w es;unfold Sem.runT;split;exact aB _;exact ih _ w _;exact aB _;rename_i r o k ih;intro w es;unfold Sem.runT;split;exact aB _;exact ih { w with heap:=w.heap.setIfInBounds r o } _;exact aB _;rename_i q k ih;intro w es;unfold Sem.runT;split;exact ih _ w _;exact Nat.le_trans (Nat.le_succ _) (ih _ { w with drawn:=w.drawn+1 } _);rename_i c k ih;intro w es;exact Nat.le_trans (Q0 w c) (ih _ _ _);rename_i k ih;intro w es;exact ih _ w _;rename_i m k ih;intro w es;exact ih w _;intro w es;exact aB _
def pP:GStep->Nat
 |.go _ w _|.comm _ _ _ _ w _|.spawn _ _ w _|.count _ w _|.timer _ _ w _|.alone _ _ w _|.newcoro _ _ _ w _|.coroswitch _ _ _ w _|.collect _ w _|.watch _ w _|.ended _ w _=>w.drawn
theorem tT(es:Array Event)(g:GStep):pP (g.after es)=pP g:=by cases g<;>rfl
theorem Wa{c:Prop}[Decidable c]{a b:GStep}{n:Nat}(h1:n<=pP a)(h2:n<=pP b):n<=pP (if c then a else b):=by split<;>assumption
theorem adi{α:Type}{o:J α}{a:GStep}{f:α->GStep}{n:Nat}(h1:n<=pP a)(h2:∀x,n<=pP (f x)):n<=pP (o.elim a f):=by cases o;exact h1;exact h2 _
theorem ah7(w:Δ)(fd:Nat)(t:ByteArray)(o:Outcome):w.drawn<=pP (endWith w fd t o):=by have h:=Q0 w (.write fd t);unfold endWith;simp;split<;>(rename_i heq;rw[heq]at h)<;>(try split)<;>exact h
theorem TA(fr:Frame)(m:String)(w:Δ):w.drawn<=pP (endThrow fr m w):=aB _
theorem I8(p:Ξ)(fr:Frame)(v:Ψ)(w:Δ):w.drawn<=pP (endPrinting p fr v w):=by unfold endPrinting;simp;split<;>exact aB _
theorem TB(p:Ξ)(fr:Frame)(cs:U Frame)(d:J Dying)(m:String)(w:Δ):w.drawn<=pP (endFatal p fr cs d m w):=by
 unfold endFatal
 extract_lets _ _ shown
 have h:=jO p shown w;split<;>(rename_i heq;rw[heq]at h)<;>exact h
theorem ah8(p:Ξ)(fr:Frame)(d:Dying)(f:Fatal)(w:Δ):w.drawn<=pP (writeOn p fr d f w):=by
 unfold writeOn;split;exact aB _;have h:∀(s:Sem Unit)(r:Result Unit×Array Event),s.runT p w #[]=r->w.drawn<=wg r.1:=λs r e=>e ▸ oD p s w #[]
 conv=>rhs;arg 1;simp only
 split<;>exact h _ _ ‹_›
theorem ap8(p:Ξ)(fr:Frame)(d:Dying)(w:Δ):w.drawn<=pP (die p fr d w):=by
 unfold die;split;exact ah8 _ _ _ _ _;split;split;exact aB _;exact ah7 _ _ _ _;split;exact aB _;rename_i s _;have h:=jO p (withAddress s) w;split<;>(rename_i heq;rw[heq]at h)<;>exact h;rename_i t recv name _;have h:=oD p (invoke (.fn (.method name) #[]) #[.iface t recv]) w #[];rw[tT];split<;>(try (rename_i heq;rw[heq]at h))<;>first|exact h|exact Nat.le_trans h (I8 _ _ _ _)|exact aB _
 exact aB _
theorem I9(p:Ξ)(main:Bool)(fr:Frame)(cs:U Frame)(d:J Dying)(v:Ψ)(w:Δ):w.drawn<=pP (doReturn p main fr cs d v w):=by
 unfold doReturn
 repeat' split
 all_goals exact aB _
theorem Uq(p:Ξ)(fr:Frame)(cs:U Frame)(dy:J Dying)(d:Deferred)(w:Δ):w.drawn<=pP (callDeferred p fr cs dy d w):=by refine Wa (aB _) ?_;have h:=oD p (invoke d.target d.args) w #[];simp only[tT];split<;>(try (rename_i heq;rw[heq]at h))<;>(try split)<;>first|exact h|exact Nat.le_trans h (TB _ _ _ _ _ _)|exact Nat.le_trans h (TA _ _ _)
theorem ak4(p:Ξ)(main:Bool)(fr:Frame)(cs:U Frame)(dy:J Dying)(w:Δ):w.drawn<=pP (unwind p main fr cs dy w):=by unfold unwind;split;rename_i block _ _ _;have h:=oD p (Instr.takeDeferred block) w #[];simp only[tT];split<;>(rename_i heq;rw[heq]at h)<;>exact h;exact Uq _ _ _ _ _ _;split;exact aB _;split;exact aB _;split;exact aB _;split;split;exact aB _;split<;>(rename_i heq;exact Nat.le_trans (jO p _ w) (Nat.le_of_eq (congrArg wg heq)));split;exact I8 _ _ _ _;exact aB _;split;exact I9 _ _ _ _ _ _ _;rename_i fn _;have h:=oD p (results fn fr.tmps) w #[];simp only[tT];split<;>(rename_i heq;rw[heq]at h)<;>first|exact h|exact Nat.le_trans h (I9 _ _ _ _ _ _ _)
theorem amO(p:Ξ)(fr:Frame)(cs:U Frame)(dy:J Dying)(g:Nat)(w:Δ):w.drawn<=pP (early p fr cs dy g w):=by
 unfold early;simp
 repeat' split
 all_goals first|exact aB _|(have h:=jO p (choose (.early g)) w;rw[‹Sem.run p (choose (.early g)) w=_›]at h;exact h)
theorem Oa(p:Ξ)(l:Bool)(fr:Frame)(cs:U Frame)(dy:J Dying)(s:Sem Next)(w:Δ):w.drawn<=pP (stepG.apply p l fr cs dy s w):=by
 unfold stepG.apply;have h:w.drawn<=wg (if l=true then s.runT p w #[]else(s.run p w,#[])).1:=by split;exact oD p s w #[];exact jO p s w
 revert h;generalize (if l=true then s.runT p w #[]else(s.run p w,#[]))=X;intro h;simp[tT];split<;>(try (rename_i heq;rw[heq]at h))<;>(try split)<;>first|exact h|exact Nat.le_trans h (TB _ _ _ _ _ _)|exact Nat.le_trans h (TA _ _ _)|exact Nat.le_trans h (amO _ _ _ _ _ _)|exact Wa h h
theorem aoA(p:Ξ)(l:Bool)(fr:Frame)(cs:U Frame)(dy:J Dying)(w:Δ):w.drawn<=pP (stepG.oper p l fr cs dy w):=by unfold stepG.oper;split;exact aB _;split<;>exact Oa _ _ _ _ _ _ _
theorem aoB(p:Ξ)(main l:Bool)(fr:Frame)(cs:U Frame)(dy:J Dying)(w:Δ):w.drawn<=pP (stepG.exec p main l fr cs dy w):=by
 unfold stepG.exec
 extract_lets go to lost leave
 have hl:∀j,w.drawn<=pP (leave j):=by intro j;simp only[leave];split;split<;>exact aB _;rename_i l _;have h:=oD p (Instr.endRound l j) w #[];simp only[tT];split<;>(rename_i heq;rw[heq]at h)<;>first|exact h|exact Nat.le_trans h (I9 _ _ _ _ _ _ _)
 clear_value leave
 split
 all_goals first|exact hl _|exact aB _|exact Oa _ _ _ _ _ _ _|skip
 split<;>exact aB _;exact adi (hl _) λ_=>aB _;exact adi (hl _) λ_=>aB _;simp only[tT];split<;>(rename_i heq;have h:=Nat.le_trans (oD p _ w #[]) (Nat.le_of_eq (congrArg wg heq)))<;>first|exact h|exact Nat.le_trans h (Oa _ _ _ _ _ _ _)
 simp only[tT];split<;>(rename_i heq;exact Nat.le_trans (oD p _ w #[]) (Nat.le_of_eq (congrArg wg heq)));exact adi (aB _) λ_=>Oa _ _ _ _ _ _ _;refine Wa (aB _) ?_;split<;>(rename_i heq;exact Nat.le_trans (jO p _ w) (Nat.le_of_eq (congrArg wg heq)));exact Wa (aoA _ _ _ _ _ _) (aB _)
theorem amP(p:Ξ)(main:Bool)(g:Goroutine)(w:Δ)(l:Bool):w.drawn<=pP (stepG p main g w l):=by unfold stepG;simp;split;exact ap8 _ _ _ _;exact aoB _ _ _ _ _ _ _;exact ak4 _ _ _ _ _ _
def sup(d:Nat):Stepped->Prop
 |.next m=>d<=m.world.drawn
 |.ended _ _=>True
theorem vU{d e:Nat}(h:d<=e):∀{s:Stepped},sup e s->sup d s
 |.next _,h'=>Nat.le_trans h h'
 |.ended _ _,_=>trivial
theorem X6(p:Ξ)(ae:Rest)(gs:Array Goroutine)(i:Nat)(g:Goroutine)(cases:Array CommCase)(b:Bool)(sh:CommShape)(w:Δ):sup w.drawn (communicate p ae gs i g cases b sh w).1:=by
 unfold communicate
 extract_lets put illMade me other ready pick
 split;trivial;split;split;split;rename_i w1 heq;unfold waitingAt at heq;split at heq;split at heq;cases heq;exact aB w.drawn;cases heq;cases heq;exact aB _;trivial;exact aB w.drawn;have h:=jO p pick w;split;trivial;rename_i heq;rw[heq]at h
 extract_lets r
 split
 all_goals first|exact h|trivial|skip
 split;exact h;split<;>first|trivial|(rename_i heq;exact Nat.le_trans h (Nat.le_trans (jO p _ _) (Nat.le_of_eq (congrArg wg heq))))
theorem adj(p:Ξ)(gs:Array Goroutine)(ae:Rest)(w:Δ):sup w.drawn (look p gs ae w):=by
 unfold look;split;simp only;split;trivial;split;trivial;split<;>first|trivial|(rename_i heq;exact Nat.le_trans (jO p _ w) (Nat.le_of_eq (congrArg wg heq)))
 trivial
theorem amQ(p:Ξ)(m:Machine)(k:Nat):sup m.world.drawn (serve p m k):=by unfold serve;split;trivial;exact aB m.world.drawn;simp;split;trivial;exact aB m.world.drawn
theorem amR(w:Δ)(c:Nat):(drain w c).2.drawn=w.drawn:=by unfold drain;split<;>rfl
theorem abF(m:Machine)(k:Nat)(t:Timer)(a b:Nat):(retime m k t a b).2.world.drawn=m.world.drawn:=by unfold retime;simp;split;exact amR _ _;rfl
theorem afv{m m1 m':Machine}{var:Addr}{f:Nat->Timer->Value×Machine}{v:Ψ}(h:timerOp.named m var f=.ok (v,m'))(hf:∀k t,(f k t).2.world.drawn=m1.world.drawn):m'.world.drawn=m1.world.drawn:=by unfold timerOp.named at h;split at h;injection h with h;exact(congrArg (λ q:Value×Machine=>q.2.world.drawn) h).symm.trans (hf _ _);cases h
theorem ah9{m m':Machine}{op:TimerOp}{v:Ψ}(h:timerOp m op=.ok (v,m')):m'.world.drawn=m.world.drawn:=by
 unfold timerOp at h;split at h;split at h;injection h with h;injection h with _ h;subst h;rfl;split at h;split at h;cases h;injection h with h;injection h with _ h;subst h;rfl;cases h;exact afv h λk t=>abF _ _ _ _ _;split at h;rename_i var when period m1 heq;have e:m1.world.drawn=m.world.drawn:=by unfold timerOp.opened at heq;split at heq;split at heq;cases heq;rfl;cases heq;cases heq;rfl
 exact(afv h λk t=>abF _ _ _ _ _).trans e;cases h;injection h with h;injection h with _ h;subst h;rfl
theorem amS(p:Ξ)(m:Machine)(i:Nat)(l:Bool):sup m.world.drawn (runT p m i l).1:=by
 unfold runT;simp;generalize (m.gs.swapAt! i { (default:Goroutine)with status:=.finished }).1=g;have h:=amP p (i==0) g m.world l;split<;>(rename_i heq;rw[heq]at h)
 all_goals first|exact h|exact vU h (X6 _ _ _ _ _ _ _ _ _)|exact vU h (adj _ _ _ _)|trivial|skip
 split<;>first|exact h|trivial
 split<;>first|exact h|trivial
 split;rename_i heq;exact Nat.le_trans h (Nat.le_of_eq (ah9 heq).symm)
 all_goals first|exact h|trivial
def Lk(d:Nat):Move->Prop
 |.goroutine m _=>d<=m.world.drawn
 |.machine s _=>sup d s
theorem X7(p:Ξ)(m:Machine):Lk m.world.drawn (askOn p m):=by
 unfold askOn
 extract_lets mono rs ds pick
 have hp:∀m:Machine,Lk m.world.drawn (pick m):=by intro m;simp only[pick];have h:=jO p (choose (.sched rs.length)) m.world;split;trivial;rename_i heq;rw[heq]at h;split;exact h;split<;>first|trivial|(rename_i heq;exact Nat.le_trans h (Nat.le_trans (jO p _ _) (Nat.le_of_eq (congrArg wg heq))))
 have hq:∀(d:Nat)(m:Machine),d<=m.world.drawn->Lk d (pick m):=by
  intro d m hd;have:=hp m;generalize pick m=x at this;cases x with
  |goroutine m' i=>exact Nat.le_trans hd this
  |machine s ag=>exact vU hd this
 generalize (if ds.isEmpty = true then pure 0 else choose (.extern "timer.serve" (ds.length + (if rs.isEmpty && (ahead m false).isNone then 0 else 1))) : Sem Nat) = s;have h:=jO p s m.world;split;trivial;rename_i k world heq;rw[heq]at h
 extract_lets m1
 have h1:m.world.drawn<=m1.world.drawn:=h;split;exact vU h1 (amQ _ _ _);rcases rs with _|⟨r0,rs⟩;simp;split;exact h1;split;exact h1;split<;>trivial;simp only;split;exact hq _ _ h1;split;trivial
 all_goals (rename_i heq;have h2:=Nat.le_trans h (Nat.le_trans (jO p _ world) (Nat.le_of_eq (congrArg wg heq))))
 exact hq _ _ h2;exact h2;exact hq _ _ h2
theorem amT(p:Ξ)(m:Machine):Lk m.world.drawn (ask p m):=by
 unfold ask;split;have h := jO p (choose (.extern "collector.look" 2)) m.world;split;trivial;rename_i w heq;rw[heq]at h;split;rename_i m' heq2;have h2:sup w.drawn (.next m'):=heq2 ▸ adj p _ _ w;have h3:=X7 p m';generalize askOn p m'=x at h3;cases x with
 |goroutine m' i=>exact Nat.le_trans (Nat.le_trans h h2) h3
 |machine s ag=>exact vU (Nat.le_trans h h2) h3
 exact vU h (adj _ _ _ _);rename_i w _ heq;rw[heq]at h;have h3:=X7 p { m with world:=w };generalize askOn p { m with world:=w }=x at h3;cases x with
 |goroutine m' i=>exact Nat.le_trans h h3
 |machine s ag=>exact vU h h3
 exact X7 p m
theorem aoC(p:Ξ)(m:Machine):Lk m.world.drawn (move p m):=by unfold move;split;split;exact aB m.world.drawn;trivial;split;split;exact aB m.world.drawn;exact amT p _;exact amT p m
theorem aoD{p:Ξ}{m m':Machine}(h:step p m=.next m'):m.world.drawn<=m'.world.drawn:=by have h1:=aoC p m;unfold step stepT at h;split at h;rename_i m1 i heq;rw[heq]at h1;have h2:=amS p m1 i true;rw[h]at h2;exact Nat.le_trans h1 h2;rename_i heq;rw[heq]at h1;simp at h;rw[h]at h1;exact h1
theorem ajT{p:Ξ}:∀(n:Nat){m m':Machine},runN p n m=.next m'->m.world.drawn<=m'.world.drawn
 | 0,m,m',h=>by injection h with h;rw[h];exact aB _
 |n+1,m,m',h=>by simp[runN]at h;split at h;rename_i heq;exact Nat.le_trans (aoD heq) (ajT n h);rename_i hne;exact absurd h (hne m')
theorem afw{P:Ξ}{f:FuncId}{args:η}{w:Δ}{R:Ending->World->Prop}(h:Calls P f args w R)(hR:∀w',¬R .outgrown w'):Calls P f args w λe w'=>R e w'/\w.drawn<=w'.drawn:=by
 intro cs;obtain⟨e,w',fr,hr,hc,h1,h2⟩:=h cs;refine⟨e,w',fr,⟨hr,?_⟩,hc,h1,h2⟩;cases e with
 |outgrown=>exact absurd hr (hR _)
 |returned v|panicked c=>obtain⟨n,hn⟩:=hc;exact ajT n hn
end Go.Gb
namespace Go.Gb
open Go.RowKit Go.Proofs
open Go.Sort hiding Below
def xR(r:U Tree):U Value:=r.map λt=>match t with
 |.sc v=>v
 |.sl _=>.bool false
def nG(rows:U (List Tree)):Array Value:=(rows.flatMap xR).toArray
def AH(sz:Nat)(rows:U (List Tree)):Prop:=∀r∈rows,r.length=sz/\∀t∈r,∃v,t=.sc v/\oneCell v
theorem Dv(r:U Tree):(xR r).length=r.length:=by simp[xR]
theorem flat_get{sz:Nat}:∀{rows:U (List Tree)},AH sz rows->∀{i j:Nat}{r:U Tree},rows[i]? =some r->j<sz->(rows.flatMap xR)[i*sz+j]? =(xR r)[j]?
 |x::rows,h,0,j,r,hi,hj=>by simp at hi;subst hi;have hx:=(h x (by simp)).1;rw[List.flatMap_cons,List.getElem?_append_left (by rw[Dv];omega)];congr 1;omega
 |x::rows,h,i+1,j,r,hi,hj=>by have hx:=(h x (by simp)).1;have ih:=flat_get (rows:=rows) (λ q hq=>h q (by simp[hq])) (i:=i) (j:=j) (r:=r) (by simpa using hi) hj;rw[List.flatMap_cons,pX (by rw[Dv,Nat.add_mul];omega),Dv,<- ih];congr 1;rw[Nat.add_mul];omega
 |[],_,_,_,_,hi,_=>by simp at hi
theorem eM{sz:Nat}:∀{rows:U (List Tree)},AH sz rows->(rows.flatMap xR).length=rows.length*sz
 |[],_=>by simp
 |x::rows,h=>by have ih:=eM (rows:=rows) (λ q hq=>h q (by simp[hq]));rw[List.flatMap_cons,dZ,Dv,(h x (by simp)).1,gB,Nat.add_mul];omega
section
variable {P:Program} {β:Nat->Option cH} {I:Nat->Prop} {w:World}
theorem holds_of{rows:U (List Tree)}{sz:Nat}(hs:AH sz rows){b s:Nat}{c:η}{e:Θ}(hb:w.heap[b]? =some (.cells c e (0,0)))(hr:cd P β w I (aI rows) c s sz):Holds id w b s (nG rows):=by
 intro p hp;have hp':p<rows.length*sz:=by rw[<- eM hs];simpa[nG]using hp
 have hsz:0<sz:=Nat.pos_of_ne_zero λh=>by rw[h]at hp';simp at hp'
 have hi:p/sz<rows.length:=by rw[Nat.div_lt_iff_lt_mul hsz];exact hp'
 have hj:p%sz<sz:=Nat.mod_lt _ hsz;have hpe:p/sz*sz+p%sz=p:=by rw[Nat.mul_comm];exact Nat.div_add_mod p sz
 have hri:rows[p/sz]? =some rows[p/sz]:=dP hi;obtain⟨hl,ht⟩:=hs _ (List.getElem_mem hi);have h1:=(pF _ _ _ _).1 hr (p/sz) ((rows[p/sz]).map AV.t) (by simp[aI,hi]);have hjr:p%sz<(rows[p/sz]).length:=by omega
 obtain⟨v,hv,hv1⟩:=ht _ (List.getElem_mem hjr);obtain⟨u,hu,hvu,_⟩:=(jZ _ _ _).1 h1.2 (p%sz) (.t (rows[p/sz][p%sz])) (by simp);rw[hv]at hvu;have hfl:(rows.flatMap xR)[p]? =some v:=by have:=flat_get hs hri hj;rw[hpe]at this;rw[this];simp[xR,hjr,hv]
 have hg:(nG rows)[p]! =v:=by
  rw[getElem!_def];have:(nG rows)[p]? =some v:=by simpa[nG]using hfl
  rw[this]
 have hcell:c[s+p]? =some u:=by rw[<- hpe,<- Nat.add_assoc];exact hu
 rw[hg];simp[World.cell?,hb];simp[hcell,hvu.1];simp[World.frozen?,hb]
theorem amU{rows':U (List Tree)}{sz:Nat}(hs':AH sz rows'){s:Nat}{c:η}(hsz:s+rows'.length*sz<=c.size):
 cd P β w I (aI rows') (putCells id s (nG rows') c) s sz:=by
 rw[pF];intro i r hi;simp[aI]at hi;obtain⟨r0,hi,rfl⟩:=hi;obtain⟨hl,ht⟩:=hs' _ (cZ hi);have hilt:=(dx.1 hi).1;refine⟨by simpa using hl,?_⟩;rw[jZ];intro j x hj;simp at hj;obtain⟨t,hj,rfl⟩:=hj;obtain⟨v,rfl,hv1⟩:=ht t (cZ hj);have hjlt:=(dx.1 hj).1;have hm:(i+1)*sz<=rows'.length*sz:=Nat.mul_le_mul_right _ hilt;rw[Nat.add_mul]at hm;have hfl:(rows'.flatMap xR)[i*sz+j]? =some v:=by rw[flat_get hs' hi (by omega)];simp[xR,hj]
 have hlen:(nG rows').size=rows'.length*sz:=by simp[nG,eM hs']
 have hg:(nG rows')[i*sz+j]! =v:=by
  rw[getElem!_def];have:(nG rows')[i*sz+j]? =some v:=by simpa[nG]using hfl
  rw[this]
 refine⟨v,?_,by simp[VR,TR,hv1],hv1⟩;have hk:s+i*sz+j<c.size:=by omega
 simp only[putCells,Array.getElem?_mapIdx,Array.getElem?_eq_getElem hk,Option.map_some];rw[aY ⟨by omega,by omega⟩,show s+i*sz+j-s=i*sz+j by omega,hg];rfl
end
theorem afx{P:Ξ}{f:FuncId}(hcall:eZ P f){sz:Nat}{rows rows':U (List Tree)}{more:U AV}(hs:AH sz rows)(hs':AH sz rows')(hl:rows'.length=rows.length)
 (h0:rows=[]->∀(β:Nat->J cH) (I:Nat->Prop) (w:World) (vs:U Value),bp P β w I more vs->Calls P f ⟨.slice none 0 0::vs⟩ w λe w'=>e=.returned (.tuple #[])/\∃n os,w'=grow (Sort.ahead w n) os)
 (h:∀(b aa cap:Nat) (β:Nat->J cH) (I:Nat->Prop) (w:World) (vs:U Value),bp P β w I more vs->¬I b->(∀ b,I b->b<w.heap.size)->Holds id w b aa (nG rows)->b<w.heap.size->Calls P f ⟨.slice (some ⟨b,aa,none⟩) rows.length cap::vs⟩ w λe w'=>
  e=.returned (.tuple #[])/\∃n os,w'=grow (putRow id (Sort.ahead w n) b aa (nG rows')) os):
 rh P f (.own 0 0 rows.length::more) [(sz,rows)] [some (sz,rows')] (.fm []):=by
 refine⟨hcall,λw β I vs hβ hM hvs=>?_⟩;have hgr:∀(w:World)(n:Nat)(os:Array Obj),Below w.heap.size w (grow (Sort.ahead w n) os):=λw n os=>⟨rfl,rfl,rfl,by simp,λk hk=>by simp[grow];rw[Array.getElem?_append_left hk]⟩;obtain⟨vs⟩:=vs
 match vs,hvs with
 |v::ae,hvs=>
  have hv:=hvs.1;have hr:=hvs.2;have hk:sm [(sz,rows)] 0=some ⟨sz,aI rows⟩:=rfl;have fin:∀w':World,Mem P w (nI β I) β I (Ey [some (sz,rows')]) w'->TO P w β I [some (sz,rows')] (.fm []) (.returned (.tuple #[])) w':=λw' hm=>⟨_,I,rfl,hm,λ_ h=>h,#[],rfl,by simp[V5]⟩;have hbel:∀(obj:Nat->J aR)(w1 w':World),Mem P w (nI β I) β I obj w1->Below w1.heap.size w1 w'->Mem P w (nI β I) β I obj w':=λobj w1 w' hm hb=>(hm.below hb (I':=I) (λ _ h=>h) (λ b hb'=>Nat.lt_of_lt_of_le (hm.lt b hb') hb.size) (λ b k o B h1 h2 h3 h4=>(hm.ownB k o B b h2 h3 h4).1 h1) hm.up).2;have sL:∀k o,Ey [some (sz,rows')] k=some o->k=0/\o=⟨sz,aI rows'⟩:=by
   intro k o hk';cases k with
   |zero=>simp[Ey]at hk';exact⟨rfl,hk'.symm⟩
   |succ k=>simp[Ey]at hk'
  rcases hv with ⟨hn,rfl,_,hlen⟩|⟨b,sz',n,cap,o,Su,rfl,hcap,hfit,ho⟩;have e0:rows=[]:=eq_nil_of_length_eq_zero hlen;have e1:rows'=[]:=eq_nil_of_length_eq_zero (by rw[hl,hlen]);refine(h0 e0 β I w ae hr).mono ?_;rintro e w' ⟨rfl,m,os,rfl⟩;refine fin _ (hbel _ w _ (hM.weak λk o' hk'=>?_) (hgr w m os));obtain⟨rfl,rfl⟩:=sL k o' hk';refine⟨_,hk,λB hB hO=>?_⟩;rw[e0]at hO;rw[e1];exact hO;obtain⟨B,hB,hO⟩:=hM.cD 0 _ hk;rw[Su]at hB;cases hB;obtain⟨hz,c,e,hheap,hcs,hrows⟩:=hO;subst hz;have hblk:=(hM.own 0 _ b _ n hk Su).2.1;have BE:(nG rows).size=rows.length*sz':=by simp[nG,eM hs]
  have hH:Holds id w b o (nG rows):=by by_cases hc0:cap=0;intro p hp;have:rows.length=0:=(by omega);rw[BE,this]at hp;simp at hp;have e1:o=n.s:=(by have:=ho hc0;omega);rw[e1];exact holds_of hs hheap hrows
  refine(h b o cap β I w ae hr (hM.own 0 _ b _ n hk Su).1 hM.lt hH hblk).mono ?_;rintro e' w' ⟨rfl,m,os,rfl⟩;have hsw:putRow id (Sort.ahead w m) b o (nG rows')=Sort.ahead (putRow id w b o (nG rows')) m:=rfl;have hw1:Mem P w (nI β I) β I (cu (sm [(sz',rows)]) [(0,some ⟨sz',aI rows'⟩)]) (putRow id w b o (nG rows')):=by have hnew:(putRow id w b o (nG rows')).heap[b]? =some (.cells (putCells id o (nG rows') c) e (0,0)):=(by simp[putRow,mapBlock,Array.getElem?_modify,hheap,onCells]);have hoth:∀b',b'≠b->(putRow id w b o (nG rows')).heap[b']? =w.heap[b']? :=λb' hb'=>(by simp[putRow,mapBlock,Array.getElem?_modify,aT (Ne.symm hb')]);have hcsz:(putCells id o (nG rows') c).size=c.size:=(by simp[putCells]);refine(hM.write (o':=⟨sz',aI rows'⟩) hk Su hnew hoth (by simp) rfl rfl rfl rfl (by rw[hcsz];exact hcs) ?_).2;by_cases hc0:cap=0;have e1:rows'=[]:=eq_nil_of_length_eq_zero (by omega);rw[e1];simp[aI,cd];have e1:o=n.s:=(by have:=ho hc0;omega);rw[e1];refine amU hs' ?_;have:rows.length*sz'<=cap*sz':=Nat.mul_le_mul_right _ hcap;rw[hl,hcs];simp at hfit;omega
  refine fin _ (hbel _ _ _ (hw1.weak λk o' hk'=>?_) (hgr _ m os));obtain⟨rfl,rfl⟩:=sL k o' hk';exact⟨_,rfl,λ_ _ h=>h⟩
end Go.Gb
namespace Go.Gb
open Go.RowKit Go.Proofs Go.Shelf
open Go.Sort hiding Below
theorem amV{α:Type}[Inhabited α]{enc:α->U Value}{k:Nat}{row:α->U Tree}(he:∀x,enc x=xR (row x))(hs:∀x,(row x).length=k/\∀t∈row x,∃v,t=.sc v/\oneCell v)(l:U α):
 flatK enc k l.toArray=nG (l.map row):=by
 have hS:AH k (l.map row):=by intro r hr;obtain⟨x,_,rfl⟩:=mem_map.1 hr;exact hs x
 have hlen:(nG (l.map row)).size=l.length*k:=by simp[nG,eM hS]
 refine Array.ext (by rw[hlen];simp) λt h1 h2=>?_;rw[hlen]at h2;have hk:0<k:=Nat.pos_of_ne_zero λh=>by rw[h]at h2;simp at h2
 have hi:t/k<l.length:=by rw[Nat.div_lt_iff_lt_mul hk];exact h2
 have hj:t%k<k:=Nat.mod_lt _ hk;have hte:t/k*k+t%k=t:=by rw[Nat.mul_comm];exact Nat.div_add_mod t k
 have e1:=get_flatK enc k l.toArray t (by simpa using h2);rw[getElem!_pos _ t h1]at e1;rw[e1];have e2:=flat_get hS (i:=t/k) (j:=t%k) (r:=row l[t/k]) (by simp[hi]) hj;rw[hte]at e2;have e3:l.toArray[t/k]! =l[t/k]:=by rw[getElem!_pos _ _ (by simpa using hi)];simp
 rw[e3,he];have hjl:t%k<(xR (row l[t/k])).length:=by rw[Dv,(hs _).1];exact hj
 rw[getElem!_pos (xR (row l[t/k])) _ hjl];rw[dP hjl]at e2;have h3:t<((l.map row).flatMap xR).length:=by rw[eM hS];simpa using h2
 rw[dP h3]at e2;injection e2 with e2;exact e2.symm
theorem Ob{P:Ξ}{t:Θ}{fs:Array Field}(h:P.underlying t=some (.struct fs))(w:Δ):(isAgg t).run P w=.ok true w:=by simp[isAgg,run_underlying h]
theorem Lv{P:Ξ}{t:Θ}{k:Nat}(h:(P.info? t).map (·.size)=some k)(w:Δ):(Go.sizeOf t).run P w=.ok k w:=by
 cases hi:P.info? t with
 |none=>rw[hi]at h;cases h
 |some i=>
  rw[hi]at h;cases h;simp[Go.sizeOf,typeInfo,hi]
theorem grown_of{w w':Δ}(h:Below w.heap.size w w')(hd:w.drawn<=w'.drawn):∃q os,w'=grow (w.drewN q) os:=by
 obtain⟨h1,h2,h3,h4,h5⟩:=h;obtain⟨hp,tp,dr,o,ou⟩:=w';obtain⟨hp0,tp0,dr0,o0,ou0⟩:=w;simp at h1 h2 h3 h4 h5 hd;subst h1;subst h2;subst h3;refine⟨dr-dr0,hp.extract hp0.size,?_⟩;simp only[grow,World.drewN];have e1:dr0+(dr-dr0)=dr:=by omega
 have e2:hp0++hp.extract hp0.size=hp:=by refine Array.ext_getElem? λi=>?_;rw[Array.getElem?_append];split;rename_i hi;exact(h5 i hi).symm;rw[Array.getElem?_extract];split;congr 1;omega;symm;rw[Array.getElem?_eq_none_iff];omega
 rw[e1,e2]
def PR{α:Type}(lt:α->α->Bool)(L:U α):Bool:=
 L.all λx=>!lt x x&&L.all λy=>L.all λz=>(!(lt x y&&lt y z) || lt x z)&&(lt x y || (lt y z || !lt x z))
def It{α:Type}[Inhabited α](l:U α)(φ:α×α×Unit->J Int):J (List α):=
 bif Nat.ble l.length 1099511627775&&((default::l).all λx=>(default::l).all λy=>(φ (x,y,())).isSome)&&(PR (λ x y=>decide ((φ (x,y,())).getD 0<0)) (default::l) || Nat.ble l.length 12)then
  some (qw (λ x y=>decide ((φ (x,y,())).getD 0<0)) l)else none
theorem afy{α:Type}[Inhabited α]{l:U α}{φ:α×α×Unit->J Int}(f:α->α->Int)(hφ:∀x y,φ (x,y,())=some (f x y)){lt:α->α->Bool}(hf:∀x y,decide (f x y<0)=lt x y)(hS:SWO lt)(hl:l.length<1099511627776):It l φ=some (qw lt l):=by
 have e:(λ x y=>decide ((φ (x,y,())).getD 0<0))=lt:=by funext x y;rw[hφ];exact hf x y
 unfold It;have h1:Nat.ble l.length 1099511627775=true:=Nat.ble_eq_true_of_le (by omega);have h2:((default::l).all λx=>(default::l).all λy=>(φ (x,y,())).isSome)=true:=by simp[hφ]
 have h3:PR lt (default::l)=true:=by
  simp only[PR,all_eq_true,aX,Bool.or_eq_true,Bool.not_eq_true'];refine λx _=>⟨hS.irrefl x,λy _ z _=>⟨?_,?_⟩⟩;cases h1:lt x y<;>cases h2:lt y z<;>first|exact .inl rfl|exact .inr (hS.trans x y z h1 h2)
  cases h1:lt x y<;>cases h2:lt y z<;>first|exact .inl rfl|exact .inr (.inl rfl)|exact .inr (.inr (hS.ntrans x y z h1 h2))
 rw[e,h1,h2,h3];rfl
section
variable {α:Type} [Inhabited α] {lt:α->α->Bool}
theorem X8(a:Nat):∀(j:Nat)(d:Array α),(insInner lt a j d).size=d.size
 | 0,_=>rfl
 |j+1,d=>by simp only[insInner];split;rw[X8 a j];simp[swp];rfl
theorem X9(a b i:Nat)(d:Array α):(insOuter lt a b i d).size=d.size:=by rw[insOuter];split;rw[X9 a b (i+1),X8];rfl
termination_by b-i
theorem TD{l:U α}(h:l.length<=12):qw lt l=(insertionSort lt l.toArray 0 l.length).toList:=by have:=pdq_eq lt l.toArray 0 l.toArray.size (bitsLen l.toArray.size) true true;rw[aY (by simpa using h)]at this;unfold qw Go.Sort.sort;rw[this];simp
theorem Ma{l:U α}(h:l.length<=12):(qw lt l).length=l.length:=by rw[TD h,Array.length_toList,insertionSort,X9];simp
end
def P3(l:U Int):J (List Int):=bif Nat.ble l.length 1099511627775 then some (kR pb l)else none
theorem ak5{P:Ξ}{ρ:Ren}{f:FuncId}(L:SlLaysM.n5 P ρ)(hf:ρ.f 5=f)(hcall:eZ P f){l r:U Int}(h:P3 l=some r):
 rh P f [.own 0 0 l.length] [(1,l.map λx=>[.sc (.int .i64 x)])] [some (1,r.map λx=>[.sc (.int .i64 x)])] (.fm []):=by
 subst hf;unfold P3 at h;cases hb:Nat.ble l.length 1099511627775 with
 |false=>rw[hb]at h;cases h
 |true=>
  rw[hb]at h;injection h with h;have hw:=Nat.le_of_ble_eq_true hb;have hS:∀l:U Int,AH 1 (l.map λx=>[Tree.sc (.int .i64 x)]):=by intro l r hr;obtain⟨x,_,rfl⟩:=mem_map.1 hr;exact⟨rfl,λt ht=>⟨_,bg.1 ht,trivial⟩⟩
  have hF:∀l:U Int,nG (l.map λx=>[Tree.sc (.int .i64 x)])=(l.map (Value.int .i64)).toArray:=by
   intro l;simp[nG,List.flatMap_map]
   induction l with
   |nil=>rfl
   |cons a l ih=>rw[List.flatMap_cons,ih];rfl
  have hP:∀(w:World)(b aa:Nat)(l:U Int),putRow id w b aa (l.map (Value.int .i64)).toArray=putRow (Value.int .i64) w b aa l.toArray:=by intro w b aa l;unfold putRow putCells;congr 1;funext c;congr 1;funext k x;simp only[List.size_toArray,length_map,id];split;have hk2:k-aa<l.length:=(by omega);rw[getElem!_pos _ _ (by simpa using hk2),getElem!_pos _ _ (by simpa using hk2)];simp;rfl
  have hlen:r.length=l.length:=by rw[<- h];exact(Fb pb l).length_eq
  have:=afx hcall (more:=[]) (hS l) (hS r) (by simpa using hlen) (λ h0 β I w vs hv=>?_) (λ b aa cap β I w vs hv hb hlt hH hblk=>?_);simpa using this
  match vs,hv with
  |[],_=>
   refine(AnyM.slices_Sort_int_none L none 0 w).mono ?_;rintro e w' ⟨rfl,rfl⟩;exact⟨rfl,0,#[],by simp⟩
  match vs,hv with
  |[],_=>
   have hH':Holds (Value.int .i64) w b aa l.toArray:=(by intro j hj;have hj2:j<l.length:=(by simpa using hj);rw[hF]at hH;have:=hH j (by simpa using hj2);rw[getElem!_pos _ j (by simpa using hj2)]at this ⊢;simpa using this);have hm:=AnyM.slices_Sort_int L b aa cap l w hH' hblk (by omega);simp;refine hm.mono ?_;rintro e w' ⟨rfl,n,os,rfl⟩;refine⟨rfl,n,os,?_⟩;rw[hF,hP,<- h,aac]
theorem Ya{w:Δ}{I:Φ}:∀{cs:U Tree},(∀ t∈cs,∃v,t=.sc v/\oneCell v)->eV w I cs (xR cs)
 |[],_=>by simp[eV,xR]
 |t::cs,h=>by obtain⟨v,rfl,hv⟩:=h t (by simp);have ih:=Ya (w:=w) (I:=I) (cs:=cs) λt ht=>h t (by simp[ht]);simp only[xR,bK,eV,TR]at ih ⊢;exact⟨⟨trivial,hv⟩,ih⟩
theorem abH{P:Ξ}{ρ:Ren}{f:FuncId}(L:SlLaysF0.n6 P ρ)(hf:ρ.f 6=f)(hcall:eZ P f){X:SX}{i:X.ι}[hI:Inhabited (CT.T X.toSE (.st i))]{fs:Array Field}
 (ha:P.underlying (ρ.t 24)=some (.struct fs)) (hz:(P.info? (ρ.t 24)).map (·.size)=some (CT.sz X (.st i)))
 (hsc:∀x:CT.T X.toSE (.st i),∀t∈CT.row X.toSE (.st i) x,∃v,t=.sc v/\oneCell v)
 {l r:U (CT.T X.toSE (.st i))} {φ:(CT.T X.toSE (.st i)×CT.T X.toSE (.st i)×Unit)->J Int} (h:It l φ=some r):
 rh P f [.own 0 0 l.length,.d7 λts u=>∃(h:HL X.toSE [.st i,.st i])(x:Int),φ h=some x/\ts=HL.pr X.toSE [.st i,.st i] h/\u=CT.tv X.toSE (.int .i64) x]
  [(CT.sz X (.st i),l.map (CT.row X.toSE (.st i)))] [some (CT.sz X (.st i),r.map (CT.row X.toSE (.st i)))] (.fm []):=by
 subst hf;unfold It at h;generalize hg:(Nat.ble l.length 1099511627775&&((default::l).all λx=>(default::l).all λy=>(φ (x,y,())).isSome)&&(PR (λ x y=>decide ((φ (x,y,())).getD 0<0)) (default::l) || Nat.ble l.length 12))=b at h;cases b with
 |false=>cases h
 |true=>
  injection h with h;simp only[aX]at hg;obtain⟨⟨hl0,hsome⟩,tB⟩:=hg;have hl:=Nat.le_of_ble_eq_true hl0
  let β':={ x:CT.T X.toSE (.st i) // x∈default::l }
  letI:Inhabited β':=⟨⟨default,by simp⟩⟩
  let cf:β'->β'->Int:=λx y=>(φ (x.1,y.1,())).getD 0
  have hφ:∀x y:β',φ (x.1,y.1,())=some (cf x y):=by intro x y;rw[all_eq_true]at hsome;have h1:=hsome x.1 x.2;rw[all_eq_true]at h1;obtain⟨r,hr⟩:=Option.isSome_iff_exists.1 (h1 y.1 y.2);simp only[cf,hr];rfl
  have hO:SWO (ltOf cf)\/l.length<=12:=by rw[Bool.or_eq_true]at tB;refine tB.imp (λ tB=>?_) Nat.le_of_ble_eq_true;simp only[PR,all_eq_true,aX,Bool.or_eq_true,Bool.not_eq_true']at tB;refine⟨λ x=>(tB x.1 x.2).1,λx y z h1 h2=>?_,λx y z h1 h2=>?_⟩;rcases ((tB x.1 x.2).2 y.1 y.2 z.1 z.2).1 with h|h;rw[Bool.and_eq_false_iff]at h;rcases h with h|h;exact absurd (h1.symm.trans h) (by decide);exact absurd (h2.symm.trans h) (by decide);exact h;rcases ((tB x.1 x.2).2 y.1 y.2 z.1 z.2).2 with h|h|h;exact absurd (h1.symm.trans h) (by decide);exact absurd (h2.symm.trans h) (by decide);exact h
  let l':U β':=l.attach.map λx=>⟨x.1,by simp[x.2]⟩
  have hl':l'.map Subtype.val=l:=by simp only[l',map_map];exact List.attach_map_subtype_val l
  have hr':(qw (ltOf cf) l').map Subtype.val=r:=by have:=amJ (f:=λx:β'=>x.1) rfl (λ x y=>decide ((φ (x,y,())).getD 0<0)) l';rw[hl',h]at this;exact this.symm
  have hrow:=λx=>Iq (X:=X) (.st i) x;have hS:∀l:U (CT.T X.toSE (.st i)),AH (CT.sz X (.st i)) (l.map (CT.row X.toSE (.st i))):=by intro l r hr;obtain⟨x,_,rfl⟩:=mem_map.1 hr;exact⟨hrow x,hsc x⟩
  have hF:=amV (α:=β') (enc:=λx=>xR (CT.row X.toSE (.st i) x.1)) (row:=λx=>CT.row X.toSE (.st i) x.1) (λ _=>rfl) λx=>⟨hrow x.1,hsc x.1⟩;have hm1:l'.map (λ x=>CT.row X.toSE (.st i) x.1)=l.map (CT.row X.toSE (.st i)):=by
   conv=>rhs;rw[<- hl',map_map]
   rfl
  have hm2:(qw (ltOf cf) l').map (λ x=>CT.row X.toSE (.st i) x.1)=r.map (CT.row X.toSE (.st i)):=by rw[<- hr',map_map];rfl
  have hll:l'.length=l.length:=by simp[l']
  have hlen:r.length=l.length:=by rw[<- hr',length_map,hO.elim (λ hO=>E9 hO l') λh=>Ma (by omega),hll]
  have:=afx hcall (more:=[.d7 λts u=>∃(h:HL X.toSE [.st i,.st i])(x:Int),φ h=some x/\ts=HL.pr X.toSE [.st i,.st i] h/\u=CT.tv X.toSE (.int .i64) x]) (hS l) (hS r) (by simpa using hlen) (λ h0 β I w vs hv=>?_) (λ b aa cap β I w vs hv hb hlt hH hblk=>?_);simpa using this
  match vs,hv with
  |[v],_=>
   refine(AnyF.slices_SortFunc_none L none 0 v w).mono ?_;rintro e w' ⟨rfl,rfl⟩;exact⟨rfl,0,#[],by simp[Sort.ahead]⟩
  match vs,hv with
  |[v],hv=>
   simp only[bp,VR]at hv;obtain⟨⟨g,first,cb,rfl,rfl,hg1,hg2,vn⟩,_⟩:=hv;obtain⟨fn,hfn⟩:=Option.isSome_iff_exists.1 hg2;obtain⟨c,hbody⟩:=Option.isSome_iff_exists.1 (hg1 fn hfn).1;rw[<- hm1,<- hF l']at hH;have hone:∀x:β',∀v∈xR (CT.row X.toSE (.st i) x.1),v.oneCell'=true:=λx v hv=>(by obtain⟨t,ht,rfl⟩:=mem_map.1 hv;obtain⟨u,rfl,hu⟩:=hsc x.1 t ht;cases u<;>simp_all [oneCell,Value.oneCell']);have LN:∀x:β',(xR (CT.row X.toSE (.st i) x.1)).length=CT.sz X (.st i):=λx=>(by rw[Dv,hrow]);have hm:CmpLays P g cb (λ x:β'=>xR (CT.row X.toSE (.st i) x.1)) (CT.sz X (.st i)) cf b aa l'.toArray.size w->Calls P (ρ.f 6) #[.slice (some ⟨b,aa,none⟩) l'.toArray.size cap,.func (.func g) #[] cb] w λe w'=>e=.returned (.tuple #[])/\∃n os,w'=sortWorldK (λ x:β'=>xR (CT.row X.toSE (.st i) x.1)) (CT.sz X (.st i)) w b aa n (qw (ltOf cf) l').toArray os:=λhc=>(by rcases hO with hO|h12;refine(AnyQ.slices_SortFunc_eq L (CT.sz X (.st i)) (Ob ha) (Lv hz) _ LN hone cf hO g cb b aa cap l'.toArray w (enters_of hfn (hg1 fn hfn).2 hbody) hc hH hblk (by simp[hll];omega)).mono ?_;rintro e w' ⟨rfl,n,os,rfl⟩;refine⟨rfl,n,os,?_⟩;rw[bitLen_eq _ (by simp[hll];omega)];rfl;refine(AnyQ.slices_SortFunc_small L (CT.sz X (.st i)) (Ob ha) (Lv hz) _ LN hone cf g cb b aa cap l'.toArray w (enters_of hfn (hg1 fn hfn).2 hbody) hc hH hblk (by simp[hll];omega) λn W hn=>?_).mono ?_;have h:=Any.bits_Len (SlLaysF0.n15.bits (P:=P) (ρ:=ρ) { L with }) (n:Int) W (by omega) (by omega);exact h.mono λe w' h=>⟨⟨_,h.1⟩,h.2⟩;rintro e w' ⟨rfl,n,os,rfl⟩;refine⟨rfl,n,os,?_⟩;rw[TD (by omega)];simp);simp[length_map];simp only[List.size_toArray,hll]at hm;refine(hm ?_).mono ?_
   rotate_left
   rintro e w' ⟨rfl,n,os,rfl⟩;refine⟨rfl,n,os,?_⟩;rw[<- hm2,<- hF];rfl;intro m os dk hs x y;have hsame:Same I w (sortWorldK (λ x:β'=>xR (CT.row X.toSE (.st i) x.1)) (CT.sz X (.st i)) w b aa m dk os):=(by intro b' hb';have h1:=hlt b' hb';simp[sortWorldK,grow,putRowK,putRow,mapBlock,Sort.ahead];rw[Array.getElem?_append_left (by simpa using h1),Array.getElem?_modify,aT (by rintro rfl;exact hb hb')])
   have hc:=vn _ I _ ⟨[.agg (xR (CT.row X.toSE (.st i) x.1)).toArray,.agg (xR (CT.row X.toSE (.st i) y.1)).toArray]⟩ _ (λ _ h=>h) hsame
    (λ b' hb'=>Nat.lt_of_lt_of_le (hlt b' hb') (by simp[sortWorldK,grow,putRowK,putRow,mapBlock,Sort.ahead])) ⟨(x.1,y.1,()),cf x y,hφ x y,rfl,rfl⟩
    ⟨⟨_,rfl,Ya (hsc x.1)⟩,⟨_,rfl,Ya (hsc y.1)⟩,trivial⟩
   refine(afw hc (λ w' ⟨_,_,he,_⟩=>by cases he)).mono ?_;rintro e w' ⟨⟨u,I',rfl,hbel,_,_,_,hu⟩,hd⟩;refine⟨?_,grown_of hbel hd⟩;rw[hu.1]
end Go.Gb
namespace Go.Gb
open Go.RowKit
def Kp(n0 B0:Nat)(W W':Δ):Prop:=Below n0 W W'/\∀b,B0<=b->b<W.heap.size->W'.heap[b]? =W.heap[b]?
theorem Kp.refl(n0 B0:Nat)(W:Δ):Kp n0 B0 W W:=⟨Below.refl _ _,λ_ _ _=>rfl⟩
theorem Kp.trans{n0 B0:Nat}{X Y Z:Δ}(h:Kp n0 B0 X Y)(k:Kp n0 B0 Y Z):Kp n0 B0 X Z:=
 ⟨h.1.trans k.1,λb hb hl=>(k.2 b hb (Nat.lt_of_lt_of_le hl h.1.size)).trans (h.2 b hb hl)⟩
theorem Kp.mono{n0 n1 B0 B1:Nat}{X Y:Δ}(h:Kp n0 B0 X Y)(hn:n1<=n0)(hb:B0<=B1):Kp n1 B1 X Y:=
 ⟨h.1.mono hn,λb h1 h2=>h.2 b (Nat.le_trans hb h1) h2⟩
theorem Kp.alloc{n0 B0:Nat}{X Y:Δ}(h:Kp n0 B0 X Y)(hn:n0<=Y.heap.size)(o:Obj):Kp n0 B0 X (Y.alloc o):=
 h.trans ⟨(Below.refl _ Y).alloc hn o,λb _ hl=>Below.heap_alloc Y o b hl⟩
theorem Kp.put{n0 B0:Nat}(W:Δ)(l:Nat)(o o':Obj)(h:W.heap[l]? =some o)(h1:n0<=l)(h2:l<B0):Kp n0 B0 W (W.putObj l o'):=
 ⟨(Below.refl n0 W).grown (grownBy_putObj' W l o') (by have:=(Array.getElem?_eq_some_iff.1 h).1;omega) (λ k e=>by cases e;omega),λb hb _=>World.putObj_heap_other (by omega)⟩
def yr{α:Type}(B0:Nat)(J:α->World->Prop):Prop:=∀s A B,J s A->Below B0 A B->J s B
theorem yr.and{α:Type}{B0:Nat}{I J:α->World->Prop}(h:yr B0 I)(k:yr B0 J):yr B0 λs W=>I s W/\J s W:=λs A B hs hb=>⟨h s A B hs.1 hb,k s A B hs.2 hb⟩
theorem yr.mono{α:Type}{B0 B1:Nat}{J:α->World->Prop}(h:yr B0 J)(hb:B0<=B1):yr B1 J:=λs A B hs hk=>h s A B hs (hk.mono hb)
theorem ap9{α:Type}{n0 B0 B1:Nat}{w:Δ}(hw:w.heap.size<=B1)(hn:n0<=B1):yr B1 (λ (_:α) W=>Kp n0 B0 w W):=λ_ A B hs hb=>
 ⟨hs.1.trans (hb.mono hn),λb h1 h2=>(hb.block b (by omega)).trans (hs.2 b h1 h2)⟩
def aqN{α:Type}(P:Ξ)(g:Nat)(lb:η)(encs:α->Array Value)(n0:Nat)(ys:U α)(N:World->Prop)(w:Δ):Prop:=
 ∀(n l B0 L:Nat)(J:U α->World->Prop)(W:World),Below w.heap.size w W->n0<=B0->B0<=W.heap.size->yr B0 J->(∀ s W,J s W->N W)->
  (∀ m pre x W1,x∈ys->pre.length<L->J pre W1->B0<=W1.heap.size->YieldAt Fence.wide m P l (encs x) W1 λe W'=>e=.returned (.bool true)/\J (pre++[x]) W'/\Kp n0 B0 W1 W')->∀pre,pre.length+ys.length<=L->J pre W->
  CallsIn Fence.wide n P g (#[.func (.yield l) #[] #[]]++lb) W λe W'=>(∃ v,e=.returned v)/\J (pre++ys) W'/\Kp n0 B0 W W'
variable {n:Nat} {P:Program}
theorem Dw{α:Type}{g:Operand}{ps:Array Tmp}{assign body:Code}{Q:Exit->Act->World->Prop}{a:Act}{w:Δ}
 {gf:Nat} {lb:η} (hg:a.eval g=.func (.func gf) #[] lb) (eg:∀args w,(callFunc gf args).run P w=.ok (.enter gf args) w)
 {encs:α->Array Value} {n0:Nat} {ys:U α} {N:World->Prop} {w0:Δ} (hseq:aqN P gf lb encs n0 ys N w0) (hb0:Below w0.heap.size w0 w) (hn0:n0<=w.heap.size) (hps:∀x,(encs x).size=ps.size)
 (I:U α->World->Prop) (hI:yr w.heap.size I) (hN:∀s W,I s W->N W) (h0:I [] w) (a₁:α->Act)
 (hassign:∀(l:Nat)(x:α)(W:World)(K:Act->World->Prop),K (a₁ x) W->
  assign.wpIn (Fence.wide.inRound l) (n-1-1) P (Exit.then K (λ _ _ _=>False)) { tmps:=(ps.zip (encs x)).foldl (λ t (p,v)=>t.setIfInBounds p v) a.tmps,defers:=[] } W)
 (hbody:∀(l:Nat)(pre:U α)(x:α)(W:World),x∈ys->pre.length<ys.length->I pre W->w.heap.size+2<=W.heap.size->body.wpIn (Fence.wide.inRound l) (n-1-1) P (λ e _ W'=>e=.normal/\I (pre++[x]) W'/\Kp n0 w.heap.size W W') (a₁ x) W)
 (hdone:∀(D:Nat)(W:World),w.heap.size<=D->I ys W->Below n0 w W->W.heap[D]? =some (.deferred (some []))->Q .normal { a with defers:={ target:=.collected D,args:=#[] }::a.defers } W):
 (Code.rangeFunc g ps assign body).wpIn Fence.wide n P Q a w:=by
 refine wpIn_rangeFunc ?_;intro fn hfn;show _;obtain⟨rec,hrec⟩:∃rec:LoopState->J Code->Loop,rec=λst pe=>{ state:=st,pending:=pe,fn,tmps:=a.tmps,params:=ps,assign,body,defers:=w.heap.size }:=⟨_,rfl⟩;obtain⟨W1,hW1⟩:∃W1,(w.alloc (.deferred (some []))).alloc (.loop (rec .ready none))=W1:=⟨_,rfl⟩;have hL1:W1.heap[w.heap.size+1]? =some (.loop (rec .ready none)):=by rw[<- hW1];have:=World.alloc_heap_new (w.alloc (.deferred (some []))) (.loop (rec .ready none));rwa [World.size_alloc]at this
 have hK1:W1.heap[w.heap.size]? =some (.deferred (some [])):=by rw[<- hW1];exact(Below.heap_alloc _ _ _ (by simp)).trans (World.alloc_heap_new w _)
 have hs1:W1.heap.size=w.heap.size+2:=by rw[<- hW1];simp
 have hb1:Below w.heap.size w W1:=by rw[<- hW1];exact((Below.refl _ w).alloc (aB _) _).alloc (by simp) _
 have hI1:I [] W1:=hI _ _ _ h0 hb1
 refine⟨w.heap.size+1,[{ target:=.collected w.heap.size,args:=#[] }],W1,{ target:=.fn (.func gf) lb,args:=#[.func (.yield (w.heap.size+1)) #[] #[]] },W1,gf,
  #[.func (.yield (w.heap.size+1)) #[] #[]]++lb,W1,?_,?_,?_,?_,λh=>by simp[Fence.wide]at h,?_⟩
 .rw[<- hW1,hrec];exact run_enterLoop_outer _ _ _ _ _
 .simp only[resolve,hg];simp[go_sem]
 .intro f' hf';trivial
 .simp[invoke,go_sem,eg]
 .refine(hseq (n-1) (w.heap.size+1) (w.heap.size+2) ys.length (λ pre W=>I pre W/\W.heap[w.heap.size+1]? =some (.loop (rec .ready none))/\W.heap[w.heap.size]? =some (.deferred (some []))) W1
   (hb0.trans (hb1.mono hb0.size)) (by omega) (by omega) (λ s A B hs hb=>⟨hI s A B hs.1 (hb.mono (by omega)),(hb.block _ (by omega)).trans hs.2.1,(hb.block _ (by omega)).trans hs.2.2⟩) (λ s W h=>hN s W h.1) ?_ [] (by simp) ⟨hI1,hL1,hK1⟩).mono ?_
  .rintro m pre x W hxy hpl ⟨hi,hl,hk⟩ hsz;have hlt:w.heap.size+1<W.heap.size:=(Array.getElem?_eq_some_iff.1 hl).1;have hy:=run_yield (P:=P) (args:=encs x) hl (by rw[hrec];exact hps x);rw[hrec]at hy
   suffices h:YieldAt Fence.wide (n-1-1) P (w.heap.size+1) (encs x) W λe W'=>e=.returned (.bool true)/\(I (pre++[x]) W'/\W'.heap[w.heap.size+1]? =some (.loop (rec .ready none))/\W'.heap[w.heap.size]? =some (.deferred (some [])))/\Kp n0 (w.heap.size+2) W W' by obtain⟨f1,t1,c1,c2,h1,h2⟩:=h;exact⟨f1,t1,c1,c2,h1,h2.1,λc cs _=>h2.2 c cs (λ d h=>by simp[Fence.wide]at h)⟩
   refine⟨fn,_,assign,body,hy,roundIn_of_wpIn hfn (hassign _ x W _ ⟨_,run_beginRound hl (by rw[hrec]),?_⟩)⟩;have hl2:(W.putObj (w.heap.size+1) (.loop { rec .ready none with state:=.busy })).heap[w.heap.size+1]? =some (.loop { rec .ready none with state:=.busy }):=World.putObj_heap_same hlt;have hk2:(W.putObj (w.heap.size+1) (.loop { rec .ready none with state:=.busy })).heap[w.heap.size]? =some (.deferred (some [])):=(World.putObj_heap_other (by omega)).trans hk;have hw2:Kp n0 (w.heap.size+2) W (W.putObj (w.heap.size+1) (.loop { rec .ready none with state:=.busy })):=Kp.put _ _ _ _ hl (by omega) (by omega);have DO:∀o,(W.putObj (w.heap.size+1) o).heap.size=W.heap.size:=λo=>(by simp[World.putObj]);have hbw:Below w.heap.size W (W.putObj (w.heap.size+1) (.loop { rec .ready none with state:=.busy })):=(Kp.put (n0:=w.heap.size) (B0:=w.heap.size+2) _ _ _ _ hl (by omega) (by omega)).1;refine wpIn_mono (hbody _ pre x _ hxy hpl (hI _ _ _ hi hbw) (by rw[DO];omega)) ?_;rintro e a3 W3 ⟨rfl,hi3,hk3⟩;have hl3:=(hk3.2 (w.heap.size+1) (by omega) (by rw[DO];omega)).trans hl2;have hd3:=(hk3.2 w.heap.size (aB _) (by rw[DO];omega)).trans hk2;have hr:=run_endRound (P:=P) none hl3;rw[hrec]at hr;have D2:=hl3;rw[hrec]at D2;refine⟨_,_,hr,rfl,⟨hI _ _ _ hi3 (Kp.put (n0:=w.heap.size) (B0:=w.heap.size+2) _ _ _ _ D2 (by omega) (by omega)).1,?_,(World.putObj_heap_other (by omega)).trans hd3⟩,?_⟩
   .rw[hrec];exact World.putObj_heap_same (Array.getElem?_eq_some_iff.1 hl3).1
   .exact hw2.trans ((hk3.mono (aB _) (by omega)).trans (Kp.put _ _ _ _ D2 (by omega) (by omega)))
  .rintro e W2 ⟨⟨v,rfl⟩,⟨hi,hl,hk⟩,hkp⟩;rw[fw]at hi;have he:=run_endLoop (P:=P) hl (by rw[hrec];simp);rw[hrec]at he;refine⟨none,_,he,hdone _ _ (aB _) (hI _ _ _ hi ?_) ?_ ((World.putObj_heap_other (by omega)).trans hk)⟩
   .exact(Kp.put (n0:=w.heap.size) (B0:=w.heap.size+2) W2 _ _ _ hl (by omega) (by omega)).1
   .exact((hb1.mono hn0).trans hkp.1).trans (Kp.put (n0:=n0) (B0:=w.heap.size+2) W2 _ _ _ hl (by omega) (by omega)).1
end Go.Gb
namespace Go.Proofs
open Go.RowKit Go.Maps Go.Sort Go.Shelf
def Tryz.keys263_ren:Go.Shelf.Ren:=⟨λ| 7=>263| 10=>274|n=>n,λ| 23=>89| 26=>9| 3=>4| 28=>338| 0=>0| 27=>337| 33=>90| 4=>4|n=>n,λ|n=>n⟩
theorem Tryz.keys263:Go.Proofs.SlLaysZ.n7 Tryz.prog Tryz.keys263_ren:={
 mixed:=by kernel_rfl
 f7:=⟨Tryz.f263.name,by decide,Tryz.func263.trans (congrArg some (by kernel_rfl))⟩
 f10:=⟨Tryz.f274.name,by decide,Tryz.func274.trans (congrArg some (by kernel_rfl))⟩
 t0:=Tryz.underlying0
 a0:=Tryz.isAgg0
 z0:=Tryz.sizeOf0
 v0:=Tryz.zeroValue0
 t4:=Tryz.underlying4
 a4:=Tryz.isAgg4
 z4:=Tryz.sizeOf4
 v4:=Tryz.zeroValue4
 t23:=Tryz.underlying89
 a23:=Tryz.isAgg89
 z23:=Tryz.sizeOf89
 v23:=Tryz.zeroValue89
 t26:=Tryz.underlying9
 a26:=Tryz.isAgg9
 z26:=Tryz.sizeOf9
 v26:=Tryz.zeroValue9
 t27:=Tryz.underlying337
 a27:=Tryz.isAgg337
 z27:=Tryz.sizeOf337
 v27:=Tryz.zeroValue337
 t28:=Tryz.underlying338
 a28:=Tryz.isAgg338
 z28:=Tryz.sizeOf338
 v28:=Tryz.zeroValue338
 t33:=Tryz.underlying90
 a33:=Tryz.isAgg90
 z33:=Tryz.sizeOf90
 v33:=Tryz.zeroValue90 }
def Tryz.sorted262_ren:Go.Shelf.Ren:=⟨λ| 6=>262| 8=>272| 9=>273| 11=>279| 13=>109| 12=>280| 23=>160| 24=>161| 14=>283| 15=>284| 16=>285| 17=>286| 18=>287| 19=>288| 20=>289| 21=>290| 22=>291| 25=>294| 26=>203| 27=>204| 28=>295| 29=>296| 30=>277| 31=>297|n=>n,λ| 26=>9| 28=>338| 24=>100| 0=>0| 3=>3| 37=>194| 48=>244| 50=>246| 4=>4| 40=>237| 39=>236| 45=>203| 5=>5| 9=>9| 51=>280| 55=>284| 57=>306| 58=>277| 33=>90|n=>n,λ|n=>n⟩
theorem Tryz.sorted262:Go.Proofs.SlLaysZ.n6 Tryz.prog Tryz.sorted262_ren:={
 mixed:=by kernel_rfl
 f6:=⟨Tryz.f262.name,by decide,Tryz.func262.trans (congrArg some (by kernel_rfl))⟩
 f8:=⟨Tryz.f272.name,by decide,Tryz.func272.trans (congrArg some (by kernel_rfl))⟩
 f11:=⟨Tryz.f279.name,by decide,Tryz.func279.trans (congrArg some (by kernel_rfl))⟩
 t0:=Tryz.underlying0
 a0:=Tryz.isAgg0
 z0:=Tryz.sizeOf0
 v0:=Tryz.zeroValue0
 t24:=Tryz.underlying100
 a24:=Tryz.isAgg100
 z24:=Tryz.sizeOf100
 v24:=Tryz.zeroValue100
 t26:=Tryz.underlying9
 a26:=Tryz.isAgg9
 z26:=Tryz.sizeOf9
 v26:=Tryz.zeroValue9
 t28:=Tryz.underlying338
 a28:=Tryz.isAgg338
 z28:=Tryz.sizeOf338
 v28:=Tryz.zeroValue338
 i26:=by kernel_rfl }
def Tryz.sort273_ren:Go.Shelf.Ren:=⟨λ| 6=>273| 8=>109| 9=>280| 19=>160| 20=>161| 21=>283| 22=>284| 23=>285| 24=>286| 25=>287| 26=>288| 27=>289| 28=>290| 29=>291| 36=>294| 31=>203| 32=>204| 37=>295| 38=>296| 39=>277| 41=>297|n=>n,λ| 27=>100| 29=>9| 3=>3| 32=>194| 26=>100| 0=>0| 44=>244| 46=>246| 4=>4| 36=>237| 35=>236| 41=>203| 5=>5| 9=>9| 53=>280| 57=>284| 63=>306| 64=>277|n=>n,λ|n=>n⟩
theorem Tryz.sort273:Go.Proofs.SlLaysM.n6 Tryz.prog Tryz.sort273_ren:={
 mixed:=by kernel_rfl
 f6:=⟨Tryz.f273.name,by decide,Tryz.func273.trans (congrArg some (by kernel_rfl))⟩
 f8:=Tryz.func109.trans (congrArg some (by kernel_rfl))
 f9:=⟨Tryz.f280.name,by decide,Tryz.func280.trans (congrArg some (by kernel_rfl))⟩
 f19:=Tryz.func160.trans (congrArg some (by kernel_rfl))
 f20:=Tryz.func161.trans (congrArg some (by kernel_rfl))
 f21:=⟨Tryz.f283.name,by decide,Tryz.func283.trans (congrArg some (by kernel_rfl))⟩
 f22:=⟨Tryz.f284.name,by decide,Tryz.func284.trans (congrArg some (by kernel_rfl))⟩
 f23:=⟨Tryz.f285.name,by decide,Tryz.func285.trans (congrArg some (by kernel_rfl))⟩
 f24:=⟨Tryz.f286.name,by decide,Tryz.func286.trans (congrArg some (by kernel_rfl))⟩
 f25:=⟨Tryz.f287.name,by decide,Tryz.func287.trans (congrArg some (by kernel_rfl))⟩
 f26:=⟨Tryz.f288.name,by decide,Tryz.func288.trans (congrArg some (by kernel_rfl))⟩
 f27:=⟨Tryz.f289.name,by decide,Tryz.func289.trans (congrArg some (by kernel_rfl))⟩
 f28:=⟨Tryz.f290.name,by decide,Tryz.func290.trans (congrArg some (by kernel_rfl))⟩
 f29:=⟨Tryz.f291.name,by decide,Tryz.func291.trans (congrArg some (by kernel_rfl))⟩
 f31:=Tryz.func203.trans (congrArg some (by kernel_rfl))
 f32:=Tryz.func204.trans (congrArg some (by kernel_rfl))
 f36:=⟨Tryz.f294.name,by decide,Tryz.func294.trans (congrArg some (by kernel_rfl))⟩
 f37:=⟨Tryz.f295.name,by decide,Tryz.func295.trans (congrArg some (by kernel_rfl))⟩
 f38:=⟨Tryz.f296.name,by decide,Tryz.func296.trans (congrArg some (by kernel_rfl))⟩
 f39:=⟨Tryz.f277.name,by decide,Tryz.func277.trans (congrArg some (by kernel_rfl))⟩
 f41:=⟨Tryz.f297.name,by decide,Tryz.func297.trans (congrArg some (by kernel_rfl))⟩
 t0:=Tryz.underlying0
 a0:=Tryz.isAgg0
 z0:=Tryz.sizeOf0
 v0:=Tryz.zeroValue0
 t3:=Tryz.underlying3
 a3:=Tryz.isAgg3
 z3:=Tryz.sizeOf3
 v3:=Tryz.zeroValue3
 t4:=Tryz.underlying4
 a4:=Tryz.isAgg4
 z4:=Tryz.sizeOf4
 v4:=Tryz.zeroValue4
 t5:=Tryz.underlying5
 a5:=Tryz.isAgg5
 z5:=Tryz.sizeOf5
 v5:=Tryz.zeroValue5
 t9:=Tryz.underlying9
 a9:=Tryz.isAgg9
 z9:=Tryz.sizeOf9
 v9:=Tryz.zeroValue9
 t26:=Tryz.underlying100
 a26:=Tryz.isAgg100
 z26:=Tryz.sizeOf100
 v26:=Tryz.zeroValue100
 t27:=Tryz.underlying100
 a27:=Tryz.isAgg100
 z27:=Tryz.sizeOf100
 v27:=Tryz.zeroValue100
 t29:=Tryz.underlying9
 a29:=Tryz.isAgg9
 z29:=Tryz.sizeOf9
 v29:=Tryz.zeroValue9
 t32:=Tryz.underlying194
 a32:=Tryz.isAgg194
 z32:=Tryz.sizeOf194
 v32:=Tryz.zeroValue194
 t35:=Tryz.underlying236
 a35:=Tryz.isAgg236
 z35:=Tryz.sizeOf236
 v35:=Tryz.zeroValue236
 t36:=Tryz.underlying237
 a36:=Tryz.isAgg237
 z36:=Tryz.sizeOf237
 v36:=Tryz.zeroValue237
 t41:=Tryz.underlying203
 a41:=Tryz.isAgg203
 z41:=Tryz.sizeOf203
 v41:=Tryz.zeroValue203
 t44:=Tryz.underlying244
 a44:=Tryz.isAgg244
 z44:=Tryz.sizeOf244
 v44:=Tryz.zeroValue244
 t46:=Tryz.underlying246
 a46:=Tryz.isAgg246
 z46:=Tryz.sizeOf246
 v46:=Tryz.zeroValue246
 t53:=Tryz.underlying280
 a53:=Tryz.isAgg280
 z53:=Tryz.sizeOf280
 v53:=Tryz.zeroValue280
 t57:=Tryz.underlying284
 a57:=Tryz.isAgg284
 z57:=Tryz.sizeOf284
 v57:=Tryz.zeroValue284
 t63:=Tryz.underlying306
 a63:=Tryz.isAgg306
 z63:=Tryz.sizeOf306
 v63:=Tryz.zeroValue306
 t64:=Tryz.underlying277
 a64:=Tryz.isAgg277
 z64:=Tryz.sizeOf277
 v64:=Tryz.zeroValue277 }
theorem Tryz.sorts262(m:Nat):AnyZ.SortsIn Tryz.prog Tryz.sorted262_ren Fence.wide m:=
 ⟨λ blk aa cap ss W hH hblk hsz=>callsIn_wide.2 (AnyM.slices_Sort_string Tryz.sort273 blk aa cap ss W hH hblk hsz),
  λp cap W=>callsIn_wide.2 (AnyM.slices_Sort_string_none Tryz.sort273 p cap W)⟩
theorem Tryz.maps_Keys_263(mb:J Nat)(W:Δ):CallsIn Fence.wide 5 Tryz.prog 263 #[.map mb] W λe w'=>e=.returned (.func (.func 274) #[] #[.pointer (some ⟨W.heap.size,0,none⟩)])/\w'=W.alloc (.cells #[.map mb] 89):=
 AnyZ.keys_in Tryz.keys263 Fence.wide 5 trivial rfl mb W
set_option maxHeartbeats 1000000 in
theorem Tryz.slices_Sorted_keys_262_263{H:Type}(b nn:Nat)(D0:DataW H)(R:Value->J (DataW H×List MemPlace))(w:Δ)(hown:w.ownsMap Tryz.prog 9 R b nn D0)(hmax:Maps.size D0<=maxLen)(hbytes:Maps.size D0*16<=140737488355328):
 CallsIn Fence.wide 5 Tryz.prog 262 #[.func (.func 274) #[] #[.pointer (some ⟨w.heap.size,0,none⟩)]] (w.alloc (.cells #[.map (some b)] 89)) λe w'=>∃(v:Value)(ss:U (List UInt8)),e=.returned v/\ss.Perm (strKeys D0)/\
  w'.ownsRow (w.alloc (.cells #[.map (some b)] 89)).heap.size 9 1 v ss.length ((ss.mergeSort (λ x y=>decide (x<=y))).map encStr)/\(v=.slice none 0 0↔ss=[])/\Below (w.alloc (.cells #[.map (some b)] 89)).heap.size (w.alloc (.cells #[.map (some b)] 89)) w':=by
 have hbl:=hown.lt;have hseq:SeqGives Fence.wide 2 Tryz.prog 274 #[.pointer (some ⟨w.heap.size,0,none⟩)] encStr (λ ss=>ss.Perm (strKeys D0)) (Maps.size D0) (w.alloc (.cells #[.map (some b)] 89)):=
  AnyZ.keys_gives (ρ:=Tryz.keys263_ren) { Tryz.keys263 with } Fence.wide _ trivial rfl (by omega) w.heap.size b nn D0 _ (by simp) (by simp) (by obtain⟨es,clock,hb,Ft,hs,hD⟩:=hown;exact⟨es,clock,(Below.heap_alloc _ _ b hbl).trans hb,Ft,hs,hD⟩)
 exact AnyZ.sorted_in Tryz.sorted262 Fence.wide 5 trivial trivial trivial trivial rfl (by omega) (Tryz.sorts262 _) (enters_of Tryz.func273 (by kernel_rfl) rfl) 274 #[.pointer (some ⟨w.heap.size,0,none⟩)] trivial (enters_of Tryz.func274 (by kernel_rfl) rfl) _ _ hmax hbytes _ hseq
end Go.Proofs
namespace Go.Proofs
open Go.RowKit Go.Shelf Go.Gb Go.Maps Go.Sort
attribute [local go_sem] Oper.semAt_some
set_option maxHeartbeats 1000000 in
theorem afA(n:Nat)(v0 v1 v2 v3 v4:Ψ)(w:Δ):
 CallsIn Fence.wide n Tryz.prog 261 #[.agg #[v0,v1,v2,v3,v4]] w λe w'=>e=.returned (.func (.func 271) #[] #[.pointer (some ⟨w.heap.size,0,none⟩)])/\w'=w.alloc (.cells #[v0,v1,v2,v3,v4] 103):=by
 have hro:Fence.wide.round=none:=rfl;refine callsIn_of_wp Tryz.func261 rfl trivial ?_ hro;simp only[Tryz.ntmps261,List.size_toArray,gB,length_nil,Nat.reduceAdd,Nat.reduceSub,Array.replicate_succ,Array.replicate_zero,List.push_toArray,List.append_toArray,fw,cons_append]
 gi_wp2
 go_ret
 exact⟨rfl,rfl⟩
def amX(D:Nat):Deferred:={ target:=.collected D,args:=#[] }
theorem Oc{P:Ξ}{fn:Func}{tmps:η}{n:Nat}{R:Ending->World->Prop}:∀(Ds:U Nat)(W:World),Ds.Nodup->(∀ D∈Ds,W.heap[D]? =some (.deferred (some [])))->
 (∀ W',(∀ B,(∀ D∈Ds,B<=D)->Below B W W')->LeavesIn Fence.wide n P fn tmps R [] .returning W')->LeavesInM Fence.wide n P fn tmps R (Ds.map amX) .returning W
 |[],W,_,_,h=>h W λ_ _=>Below.refl _ _
 |D::Ds,W,hn,hd,h=>by
  simp only[List.nodup_cons]at hn;have hD:=hd D (by simp);refine⟨by simp,.inl ⟨D,_,rfl,run_takeDeferred hD,Oc Ds _ hn.2 (λ D' hD'=>?_) λW' hW'=>h W' λB hB=>?_⟩⟩
  .rw[World.putObj_heap_other (by rintro rfl;exact hn.1 hD')];exact hd D' (by simp[hD'])
  .have h1:=hB D (by simp);exact(Kp.put (n0:=B) (B0:=D+1) W D _ _ hD h1 (by omega)).1.trans (hW' B λD' h'=>hB D' (by simp[h']))
noncomputable def aqO:Code->Code
 |.seq _ b=>b
 |c=>c
structure aqa(p:Prop):Prop where
 h:p
theorem Mc{F:Fence}{n:Nat}{P:Ξ}{Q:Exit->Act->World->Prop}{a:Act}{w:Δ}{x y:Code}(h:∀K:Act->World->Prop,(∀ a w,aqa (y.wpIn F n P Q a w)->K a w)->x.wpIn F n P (Exit.then K Q) a w):(Code.seq x y).wpIn F n P Q a w:=wpIn_seq_k λK hK=>h K λa w h=>hK a w h.h
noncomputable abbrev De:Code:=aqO (aqO (Tryz.f271.body.getD .skip))
set_option maxRecDepth 100000 in
set_option maxHeartbeats 4000000 in
theorem amY:∀(k:Nat)(t:ET),SizeOf.sizeOf t<=k->∀(n0 Bx:Nat)(v0 v1 v2 v3 v4:Value)(w:World),n0<=Bx->Bx<w.heap.size->nh n0 w t [v0,v1,v2,v3,v4]->
 aqN Tryz.prog 271 #[.pointer (some ⟨Bx,0,none⟩)] (λ s:ByteArray=>#[.string s]) n0 t.names (λ W=>W.heap[Bx]? =some (.cells #[v0,v1,v2,v3,v4] 103)) w
 | 0,.mk op s args,hk=>by simp at hk
 |k+1,.mk op s args,hk=>by
  intro n0 Bx v0 v1 v2 v3 v4 w hnB hBw hE n l B0 L J W hW hn0 hB0 hJ hN hY pre hpL hJ0;have hro:Fence.wide.round=none:=rfl;simp only[nh,List.cons.injEq,and_true]at hE;obtain⟨nn,key,sl,⟨⟨rfl,rfl,rfl,rfl,rfl⟩,hlen,hssz⟩,Nx⟩:=hE;have hbx:=hN _ _ hJ0;have hB1:Below B0 W (W.alloc (.cells #[.func (.yield l) #[] #[]] 90)):=(Below.refl _ W).alloc hB0 _;have ar2:Bx<W.heap.size:=(Array.getElem?_eq_some_iff.1 hbx).1;have No:(W.alloc (.cells #[.func (.yield l) #[] #[]] 90)).heap[Bx]? =_:=(Below.heap_alloc W _ Bx ar2).trans hbx;have c0:(W.alloc (.cells #[.func (.yield l) #[] #[]] 90)).cell? ⟨Bx,0,none⟩=some (.int .i64 op):=by simp[World.cell?,No]
  have c2:(W.alloc (.cells #[.func (.yield l) #[] #[]] 90)).cell? ⟨Bx,2,none⟩=some (.string s):=by simp[World.cell?,No]
  have bY:=Boxed.new W 90 (.func (.yield l) #[] #[]);have cY:=bY.cell;have hk1:Kp n0 B0 W (W.alloc (.cells #[.func (.yield l) #[] #[]] 90)):=(Kp.refl _ _ _).alloc (by omega) _
  have ae:∀(hd:U ByteArray)(Wb:World)(g6 g7 g8 g9 g10 g11 g12 g13 g14:Value),(if op=1 then [s]else [])=hd->J (pre++hd) Wb->Kp n0 B0 W Wb->Boxed Wb W.heap.size 90 (.func (.yield l) #[] #[])->
   De.wpIn Fence.wide n Tryz.prog (bodyPostM Fence.wide n Tryz.prog Tryz.f271 λe W'=>(∃ v,e=Ending.returned v)/\J (pre++(ET.mk op s args).names) W'/\Kp n0 B0 W W')
    { tmps:=#[.func (.yield l) #[] #[],.pointer (some ⟨Bx,0,none⟩),.pointer (some ⟨W.heap.size,0,none⟩),undef,undef,undef,g6,g7,g8,g9,g10,g11,g12,g13,g14,.bool false,undef,undef,undef,undef,undef,undef,undef,undef,undef,undef,undef,undef,undef,undef,undef],defers:=[] } Wb:=by
   intro hd Wb g6 g7 g8 g9 g10 g11 g12 g13 g14 hhd hJb hkb bYb;have arS:=hN _ _ hJb;have c4:Wb.cell? ⟨Bx,4,none⟩=some v4:=(by simp[World.cell?,arS]);obtain⟨sa,sc,rfl⟩:∃sa sc,v4=.slice sa args.length sc:=by
    rcases Nx with ⟨rfl,a,cap,rfl⟩|⟨b,aa,cap,rfl,_⟩
    .exact⟨_,_,rfl⟩
    .exact⟨_,_,rfl⟩
   refine Mc λK hK=>?_
   gi_wp2
   refine⟨wpIn_block (wpIn_loop (λ a' W'=>∃(i:Nat) (Ds:U Nat) (g4 g5 g16 g20 g21 g22 g23 g24 g25 g26 g27 g28 g29 g30:Value),i<=args.length/\
    a'={ tmps:=#[.func (.yield l) #[] #[],.pointer (some ⟨Bx,0,none⟩),.pointer (some ⟨W.heap.size,0,none⟩),undef,g4,g5,g6,g7,g8,g9,g10,g11,g12,g13,g14,.bool false,g16,.slice sa args.length sc,.int .i64 args.length,.int .i64 i,g20,g21,g22,g23,g24,g25,g26,g27,g28,g29,g30],defers:=Ds.map amX }/\
    Ds.Nodup/\(∀ D∈Ds,W.heap.size<=D/\W'.heap[D]? =some (.deferred (some [])))/\J (pre++hd++ET.d6 (args.take i)) W'/\Kp n0 B0 W W'/\Boxed W' W.heap.size 90 (.func (.yield l) #[] #[]))
    (λ a' _=>args.length-(intOf (a'.tmps.getD 19 undef)).toNat)
    ⟨0,[],_,_,_,_,_,_,_,_,_,_,_,_,_,_,Nat.zero_le _,rfl,List.nodup_nil,by simp,by simpa[ET.d6]using hJb,hkb,bYb⟩ ?_)⟩
   rintro a' W' ⟨i,Ds,g4,g5,g16,g20,g21,g22,g23,g24,g25,g26,g27,g28,g29,g30,hi,rfl,hnd,hDs,hJi,hki,bYi⟩;by_cases hlt:i<args.length
   .rcases Nx with ⟨h0,_⟩|⟨b,aa,cap,he,hb,hs⟩
    .rw[h0]at hlt;exact absurd hlt (Nat.not_lt_zero _)
    simp only[Value.slice.injEq,true_and]at he;obtain⟨rfl,rfl⟩:=he;have hwi:Below n0 w W':=(hW.mono (by omega)).trans hki.1;obtain⟨ti,hti⟩:∃ti,args[i]? =some ti:=⟨_,dP hlt⟩;obtain⟨vs,q,hEi⟩:=(iv.below hwi args b aa hb hs).get hti;obtain⟨u0,u1,u2,u3,u4,rfl,hone⟩:∃u0 u1 u2 u3 u4,vs=[u0,u1,u2,u3,u4]/\(#[u0,u1,u2,u3,u4]:Array Value).all (·.oneCell')=true:=(by cases ti;simp only[nh]at hEi;obtain⟨n',key',sl',⟨h,_⟩,h'⟩:=hEi;refine⟨_,_,_,_,_,h,?_⟩;rcases h' with ⟨_,_,_,rfl⟩|⟨_,_,_,rfl,_⟩<;>simp[Value.oneCell']);have o0:=λz1 z2 z3 z4=>dW Tryz.prog W' #[.int .i64 0,z1,z2,z3,z4] 103 0 u0 (by simp) (by simpa using (Array.all_eq_true.1 hone) 0 (by simp));have o1:=λz2 z3 z4=>dW Tryz.prog W' #[u0,.int .i64 0,z2,z3,z4] 103 1 u1 (by simp) (by simpa using (Array.all_eq_true.1 hone) 1 (by simp));have o2:=λz3 z4=>dW Tryz.prog W' #[u0,u1,.string { data:=#[] },z3,z4] 103 2 u2 (by simp) (by simpa using (Array.all_eq_true.1 hone) 2 (by simp));have o3:=λz4=>dW Tryz.prog W' #[u0,u1,u2,.string { data:=#[] },z4] 103 3 u3 (by simp) (by simpa using (Array.all_eq_true.1 hone) 3 (by simp));have o4:=dW Tryz.prog W' #[u0,u1,u2,u3,.slice none 0 0] 103 4 u4 (by simp) (by simpa using (Array.all_eq_true.1 hone) 4 (by simp));simp only[List.set_toArray,List.set]at o0 o1 o2 o3 o4;have hn:=World.alloc_heap_new W' (.cells #[u0,u1,u2,u3,u4] 103);have r0:(W'.alloc (.cells #[u0,u1,u2,u3,u4] 103)).cell? ⟨W'.heap.size,0,none⟩=some u0:=(by simp only[World.cell?,hn];rfl);have r1:(W'.alloc (.cells #[u0,u1,u2,u3,u4] 103)).cell? ⟨W'.heap.size,1,none⟩=some u1:=(by simp only[World.cell?,hn];rfl);have r2:(W'.alloc (.cells #[u0,u1,u2,u3,u4] 103)).cell? ⟨W'.heap.size,2,none⟩=some u2:=(by simp only[World.cell?,hn];rfl);have r3:(W'.alloc (.cells #[u0,u1,u2,u3,u4] 103)).cell? ⟨W'.heap.size,3,none⟩=some u3:=(by simp only[World.cell?,hn];rfl);have r4:(W'.alloc (.cells #[u0,u1,u2,u3,u4] 103)).cell? ⟨W'.heap.size,4,none⟩=some u4:=(by simp only[World.cell?,hn];rfl);have q0:W'.cell? ⟨b,aa+i*5,none⟩=some u0:=q 0 _ rfl;have q1:W'.cell? ⟨b,aa+i*5+1,none⟩=some u1:=q 1 _ rfl;have q2:W'.cell? ⟨b,aa+i*5+2,none⟩=some u2:=q 2 _ rfl;have q3:W'.cell? ⟨b,aa+i*5+3,none⟩=some u3:=q 3 _ rfl;have q4:W'.cell? ⟨b,aa+i*5+4,none⟩=some u4:=q 4 _ rfl
    gi_wp2_with (refine ⟨trivial,λh=>by simp[Fence.wide]at h,?_⟩;refine(afA (n-1) u0 u1 u2 u3 u4 _).mono ?_;rintro e w' ⟨rfl,rfl⟩)
    have arz:SizeOf.sizeOf ti<=k:=(by have h1:=List.sizeOf_lt_of_mem (cZ hti);simp only[ET.mk.sizeOf_spec]at hk;omega);obtain⟨Wd,hWd⟩:∃Wd,(W'.alloc (.cells #[u0,u1,u2,u3,u4] 103)).alloc (.cells #[u0,u1,u2,u3,u4] 103)=Wd:=⟨_,rfl⟩;have hsd:Wd.heap.size=W'.heap.size+2:=(by rw[<- hWd];simp);have hWsz:W.heap.size<=W'.heap.size:=hki.1.size;have hkd:Kp n0 B0 W' Wd:=(by rw[<- hWd];exact((Kp.refl _ _ _).alloc (by omega) _).alloc (by simp;omega) _);have hbd:Below W'.heap.size W' Wd:=(by rw[<- hWd];exact((Below.refl _ _).alloc (aB _) _).alloc (by simp) _);have hxd:Wd.heap[W'.heap.size+1]? =some (.cells #[u0,u1,u2,u3,u4] 103):=by
     rw[<- hWd];have:=World.alloc_heap_new (W'.alloc (.cells #[u0,u1,u2,u3,u4] 103)) (.cells #[u0,u1,u2,u3,u4] 103)
     rwa [World.size_alloc]at this
    rw[hWd];have hDl:∀D∈Ds,D<W'.heap.size:=λD hD=>(Array.getElem?_eq_some_iff.1 (hDs D hD).2).1
    refine Dw (gf:=271) (lb:=#[.pointer (some ⟨W'.heap.size+1,0,none⟩)]) rfl (enters_of Tryz.func271 (by kernel_rfl) rfl)
     (amY k ti arz n0 (W'.heap.size+1) u0 u1 u2 u3 u4 Wd (by omega) (by omega) (hEi.below' (hbd.mono (by omega)))) (Below.refl _ _) (by omega) (λ _=>rfl)
     (λ q X=>(J (pre++hd++ET.d6 (args.take i)++q) X/\Kp n0 B0 W X)/\(Boxed X W.heap.size 90 (.func (.yield l) #[] #[])/\(∀ D∈Ds,X.heap[D]? =some (.deferred (some []))))/\X.heap[W'.heap.size+1]? =some (.cells #[u0,u1,u2,u3,u4] 103))
     (λ s A B hs hb=>⟨⟨hJ _ _ _ hs.1.1 (hb.mono (by omega)),ap9 (α:=Unit) (B1:=Wd.heap.size) (by omega) (by omega) () A B hs.1.2 hb⟩,
      ⟨(hb.block _ (by omega)).trans hs.2.1.1,λD hD=>(hb.block _ (by have:=hDl D hD;omega)).trans (hs.2.1.2 D hD)⟩,(hb.block _ (by omega)).trans hs.2.2⟩)
     (λ s X hs=>hs.2.2)
     ⟨⟨by simpa using hJ _ _ _ hJi (hbd.mono (by omega)),hki.trans hkd⟩,⟨(hbd.block _ (by have:=bYi.lt;omega)).trans bYi,λD hD=>(hbd.block _ (hDl D hD)).trans (hDs D hD).2⟩,hxd⟩
     (λ x=>{ tmps:=#[.func (.yield l) #[] #[],.pointer (some ⟨Bx,0,none⟩),.pointer (some ⟨W.heap.size,0,none⟩),undef,.pointer (some ⟨W'.heap.size,0,none⟩),.string x,g6,g7,g8,g9,g10,g11,g12,g13,g14,.bool false,g16,.slice (some ⟨b,aa,none⟩) args.length sc,.int .i64 args.length,.int .i64 i,.bool true,.pointer (some ⟨b,aa+i*5,none⟩),.agg #[u0,u1,u2,u3,u4],.agg #[u0,u1,u2,u3,u4],.func (.func 271) #[] #[.pointer (some ⟨W'.heap.size+1,0,none⟩)],.string x,g26,g27,g28,g29,g30],defers:=[] })
     ?assign ?body ?done
    case assign=>
     intro l2 x X K hK
     gi_wp2
     exact hK
    case body=>
     rintro l2 q x X hxm BC ⟨⟨hJx,hkx⟩,⟨Pl,hDx⟩,hxx⟩ hsx;have cYx:=Pl.cell;obtain⟨fn,tmps,assign,body,hy,hR⟩:=hY (n-1-1-1) (pre++hd++ET.d6 (args.take i)++q) x X (ET.rN hti hxm) (by have:=ET.vj args (i+1);rw[ET.oy args i hti]at this;simp only[ET.names,hhd,dZ]at this hpL ⊢;omega) hJx (by omega)
     gi_wp2
     have hR':RoundIn (Fence.wide.inRound l2) (n-1-1-1) Tryz.prog l fn tmps assign body X _:=hR;refine⟨λ h=>by simp[Fence.wide]at h,hR'.mono ?_⟩;rintro e X3 ⟨rfl,hJ3,hk3⟩
     gi_wp2
     have hbig:∀c,B0<=c->c<X.heap.size->X3.heap[c]? =X.heap[c]? :=hk3.2;exact⟨⟨⟨by simpa[aV]using hJ3,hkx.trans hk3⟩,⟨(hbig _ hB0 (by have:=Pl.lt;omega)).trans Pl,λD hD=>(hbig _ (by have:=(hDs D hD).1;omega) (by have:=hDl D hD;omega)).trans (hDx D hD)⟩,(hbig _ (by omega) (by omega)).trans hxx⟩,hk3.mono (aB _) (by omega)⟩
    case done=>
     rintro D X hD ⟨⟨hJx,hkx⟩,⟨Pl,hDx⟩,hxx⟩ hbx' HG
     gi_wp2
     refine⟨⟨i+1,D::Ds,_,_,_,_,_,_,_,_,_,_,_,_,_,_,by omega,rfl,List.nodup_cons.2 ⟨λ hm=>by have:=hDl D hm;omega,hnd⟩,?_,?_,hkx,Pl⟩,?_⟩
     .intro D' hD';rcases aL.1 hD' with rfl|h
      .exact⟨by omega,HG⟩
      .exact⟨(hDs D' h).1,hDx D' h⟩
     .rw[ET.oy args i hti,<- aV];exact hJx
     .show args.length-(intOf (.int .i64 ((i:Int)+1))).toNat<args.length-(intOf (.int .i64 (i:Int))).toNat;simp only[intOf];omega
   .gi_wp2
    have hsame:args.take i=args:=List.take_of_length_le (by omega);rw[hsame]at hJi;refine Oc Ds W' hnd (λ D hD=>(hDs D hD).2) λW'' arT=>?_;have h1:=arT W.heap.size λD hD=>(hDs D hD).1;refine⟨_,results_none rfl _ _ _,⟨_,rfl⟩,hJ _ _ _ (by simpa[ET.names,hhd,aV]using hJi) (h1.mono hB0),hki.1.trans (h1.mono (by omega)),λb hb hl=>(h1.block b hl).trans (hki.2 b hb hl)⟩
  refine callsIn_of_wp_marks Tryz.func271 rfl trivial ?_ hro;simp only[Tryz.ntmps271,List.size_toArray,gB,length_nil,Nat.reduceAdd,Nat.reduceSub,Array.replicate_succ,Array.replicate_zero,List.push_toArray,List.append_toArray,fw,cons_append];refine Mc λK1 hK1=>?_
  gi_wp2
  refine⟨Mc λK2 hK2=>?_⟩;by_cases hop:op=1
  .subst hop;obtain⟨fn,tmps,assign,body,hy,hR⟩:=hY (n-1) pre s (W.alloc (.cells #[.func (.yield l) #[] #[]] 90)) (by simp[ET.names]) (by simp[ET.names]at hpL;omega) (hJ _ _ _ hJ0 hB1) (by simp;omega)
   gi_wp2
   refine⟨λ h=>by simp[Fence.wide]at h,hR.mono ?_⟩;rintro e W3 ⟨rfl,hJ3,hk3⟩
   gi_wp2
   exact⟨ae [s] W3 _ _ _ _ _ _ _ _ _ rfl hJ3 (hk1.trans hk3) ((hk3.2 _ hB0 (by simp)).trans bY)⟩
  .gi_wp2
   refine⟨λ _ h=>(by cases h),?_⟩
   gi_wp2
   exact⟨ae [] _ _ _ _ _ _ _ _ _ _ (by simp[hop]) (by simpa using hJ _ _ _ hJ0 hB1) hk1 bY⟩
theorem aqb(s:ByteArray)(h:s.size<=maxLen):keyOf Tryz.prog 9 (.string s)=some (.string s.data.toList):=by rw[keyOf_string Tryz.underlying9];simp[mapKey,Tryz.underlying9,h]
set_option maxRecDepth 100000 in
set_option maxHeartbeats 4000000 in
theorem amZ(_:Nat)(t:ET)(v0 v1 v2 v3 v4:Ψ)(w:Δ)(hE:nh w.heap.size w t [v0,v1,v2,v3,v4])(hlen:t.names.length<=1000000000000):
 CallsIn Fence.wide 6 Tryz.prog 241 #[.agg #[v0,v1,v2,v3,v4]] w λe W'=>∃v,e=.returned v/\W'.ownsRow w.heap.size 9 1 v (xq t.names).length ((xq t.names).map encStr)/\Below w.heap.size w W':=by
 have hro:Fence.wide.round=none:=rfl;have hmm:=@run_makeMap Tryz.prog;refine callsIn_of_wp_marks Tryz.func241 rfl trivial ?_ hro;simp only[Tryz.ntmps241,List.size_toArray,gB,length_nil,Nat.reduceAdd,Nat.reduceSub,Array.replicate_succ,Array.replicate_zero,List.push_toArray,List.append_toArray,fw,cons_append]
 gi_wp2_with (refine ⟨trivial,?_⟩;refine(afA 5 v0 v1 v2 v3 v4 _).mono ?_;rintro e w' ⟨rfl,rfl⟩)
 obtain⟨Wd,hWd⟩:∃Wd,(((w.alloc (.cells #[v0,v1,v2,v3,v4] 103)).alloc (.map #[] 0)).alloc (.cells #[.map (some (w.heap.size+1))] 89)).alloc (.cells #[v0,v1,v2,v3,v4] 103)=Wd:=⟨_,rfl⟩;have hsd:Wd.heap.size=w.heap.size+4:=by rw[<- hWd];simp
 have hbd:Below w.heap.size w Wd:=by rw[<- hWd];exact((((Below.refl _ w).alloc (aB _) _).alloc (by simp) _).alloc (by simp;omega) _).alloc (by simp;omega) _
 have hbm:Wd.ownsMap Tryz.prog 9 (plainElem (H:=Unit) Tryz.prog 4) (w.heap.size+1) 0 (.map []):=by have:=World.ownsMap_made (w.alloc (.cells #[v0,v1,v2,v3,v4] 103)) Tryz.prog 9 (plainElem (H:=Unit) Tryz.prog 4);rw[World.size_alloc]at this;rw[<- hWd];exact(this.alloc _).alloc _
 have hbs:Wd.heap[w.heap.size+2]? =some (.cells #[.map (some (w.heap.size+1))] 89):=by have:=World.alloc_heap_new ((w.alloc (.cells #[v0,v1,v2,v3,v4] 103)).alloc (.map #[] 0)) (.cells #[.map (some (w.heap.size+1))] 89);simp only[World.size_alloc]at this;rw[<- hWd];exact(Below.heap_alloc _ _ _ (by simp)).trans this
 have hbe:Wd.heap[w.heap.size+3]? =some (.cells #[v0,v1,v2,v3,v4] 103):=by have:=World.alloc_heap_new (((w.alloc (.cells #[v0,v1,v2,v3,v4] 103)).alloc (.map #[] 0)).alloc (.cells #[.map (some (w.heap.size+1))] 89)) (.cells #[v0,v1,v2,v3,v4] 103);simp only[World.size_alloc]at this;rw[<- hWd];exact this
 rw[hWd]
 refine Dw (gf:=271) (lb:=#[.pointer (some ⟨w.heap.size+1+1+1,0,none⟩)]) rfl (enters_of Tryz.func271 (by kernel_rfl) rfl)
  (amY _ t (aB _) w.heap.size (w.heap.size+3) v0 v1 v2 v3 v4 Wd (by omega) (by omega) (hE.below' hbd)) (Below.refl _ _) (by omega) (λ _=>rfl)
  (λ q X=>X.ownsMap Tryz.prog 9 (plainElem (H:=Unit) Tryz.prog 4) (w.heap.size+1) q.length (xQ q)/\X.heap[w.heap.size+2]? =some (.cells #[.map (some (w.heap.size+1))] 89)/\X.heap[w.heap.size+3]? =some (.cells #[v0,v1,v2,v3,v4] 103))
  (λ s A B hs hb=>⟨by obtain⟨es,ck,h1,h2⟩:=hs.1;exact⟨es,ck,(hb.block _ (by omega)).trans h1,h2⟩,(hb.block _ (by omega)).trans hs.2.1,(hb.block _ (by omega)).trans hs.2.2⟩)
  (λ s X hs=>hs.2.2) ⟨hbm,hbs,hbe⟩
  (λ x=>{ tmps:=#[.agg #[v0,v1,v2,v3,v4],.pointer (some ⟨w.heap.size,0,none⟩),.slice none 0 0,.pointer (some ⟨w.heap.size+1+1,0,none⟩),.string x,.map (some (w.heap.size+1)),.agg #[v0,v1,v2,v3,v4],.func (.func 271) #[] #[.pointer (some ⟨w.heap.size+1+1+1,0,none⟩)],.string x,undef,undef,undef,undef,undef],defers:=[] })
  ?assign ?body ?done
 case assign=>
  intro l2 x X K hK
  gi_wp2
  exact hK
 case body=>
  rintro l2 q x X hxm BC ⟨hown,hms,hes⟩ hsx;have hxs:=nh.gC t _ hE x hxm;have cS:X.cell? ⟨w.heap.size+1+1,0,none⟩=some (.map (some (w.heap.size+1))):=by simp only[World.cell?,hms];rfl
  gi_wp2_with (gi_at_mapUpdate;refine wpListIn_mapUpdate_own _ rfl _ _ _ 89 rfl 9 4 (Maps.string_keyed Tryz.underlying9) Tryz.underlying89 _ (w.heap.size+1) q.length _ rfl hown (by unfold maxLen;omega) _ _ _ rfl rfl (aqb x hxs) _ [] (plainElem_bool Tryz.underlying4 true) ?_;intro w1 hown1 hgrow1)
  have e1:=hgrow1.block (w.heap.size+2) (by omega) (by simp);have e2:=hgrow1.block (w.heap.size+3) (by omega) (by simp);exact⟨⟨by rw[afr];exact hown1,e1.trans hms,e2.trans hes⟩,(Below.refl _ X).grown hgrow1 (by omega) (λ k e=>by cases e;omega),λb hb hl=>hgrow1.block b hl (by simp;omega)⟩
 case done=>
  rintro D X hD ⟨hown,hms,hes⟩ hbx HG;have cS:X.cell? ⟨w.heap.size+1+1,0,none⟩=some (.map (some (w.heap.size+1))):=by simp only[World.cell?,hms];rfl
  have hsz:Maps.size (xQ t.names)<=t.names.length:=afs _
  gi_wp2_with (first
   |(refine ⟨trivial,?_⟩;refine(Tryz.maps_Keys_263 _ _).mono ?_;rintro e w' ⟨rfl,rfl⟩)
   |(refine ⟨trivial,?_⟩;refine(Tryz.slices_Sorted_keys_262_263 (w.heap.size+1) _ (xQ t.names) _ X hown (by unfold maxLen;omega) (by omega)).mono ?_;rintro e w' ⟨v,ss,rfl,hS,hrow,hnil,hb⟩))
  have hkey:∀es,xQ t.names=.map es->∀p∈es,∃x,p.1=.string x:=by intro es e p hp;obtain⟨es',e',hko⟩:=hown.keysOf;obtain rfl:es=es':=(by have:=e.symm.trans e';injection this);obtain⟨kv,hkv⟩:=hko p hp;obtain⟨x,_,h,_⟩:=Maps.keyOf_str Tryz.underlying9 hkv;exact⟨x,h⟩
  have hss:ss.mergeSort leB=xq t.names:=by obtain⟨es,e,_⟩:=hown.keysOf;exact mergeSort_of_perm (hS.trans (ah5 t.names e (hkey es e)).symm)
  have hDX:D<X.heap.size:=(Array.getElem?_eq_some_iff.1 HG).1;have hd1:w'.heap[D]? =some (.deferred (some [])):=(hb.block D (by simp;omega)).trans ((Below.heap_alloc X _ D hDX).trans HG);have D1:ss.length=(xq t.names).length:=by rw[<- hss,List.length_mergeSort]
  have hrow':=(hrow.kept (grownBy_putObj' w' D (.deferred none)) ?_);refine⟨by simp,.inl ⟨_,_,rfl,run_takeDeferred hd1,?_⟩⟩;refine⟨_,results_tmp rfl _ _ _,⟨v,rfl,?_,?_⟩⟩
  .rw[<- D1,<- hss];refine⟨hrow'.1,hrow'.2.imp id ?_⟩;rintro⟨g,cap,cur,h1,h2,h3⟩;exact⟨g,cap,cur,h1,by have:=hbx.size;simp at h2;omega,h3⟩
  .exact(((hbd.trans hbx).alloc (by have:=hbx.size;omega) _).trans (hb.mono (by have:=hbx.size;simp;omega))).trans (Kp.put (n0:=w.heap.size) (B0:=D+1) w' D _ _ hd1 (by omega) (by omega)).1
  .cases hvb:v.ownBlock with
   |none=>exact .inl rfl
   |some g=>
    refine .inr λe=>?_;have:=(hrow.lt g hvb).1;simp at this e;omega
end Go.Proofs
namespace Go.Proofs
open Go.RowKit Go.Maps
theorem ajU{n0:Nat}{W:Δ}{d:ByteArray×ET}{vs:U Value}(h:Xs n0 W d vs):∃u0 u1 u2 u3 u4 u5,vs=[u0,u1,u2,u3,u4,u5]/\(#[u0,u1,u2,u3,u4,u5]:Array Value).all (·.oneCell')=true:=by obtain⟨v0,v1,v2,v3,v4,rfl,_,he⟩:=h;refine⟨_,_,_,_,_,_,rfl,?_⟩;obtain⟨nm,t⟩:=d;cases t;simp only[nh]at he;obtain⟨n',key',sl',⟨h,_⟩,h'⟩:=he;simp only[List.cons.injEq,and_true]at h;obtain⟨rfl,rfl,rfl,rfl,rfl⟩:=h;rcases h' with ⟨_,_,_,rfl⟩|⟨_,_,_,rfl,_⟩<;>simp[Value.oneCell']
def Ur(ds:U (ByteArray×ET)):Nat->DataW Unit
 | 0=>.map []
 |k+1=>(Ur ds k).put (.string (ds.getD k (⟨#[]⟩,.mk 0 ⟨#[]⟩ [])).1.data.toList) (.lit (.int .i64 k))
theorem Yb(ds:U (ByteArray×ET)):∀k,IsMap (Ur ds k)
 | 0=>isMap_empty
 |k+1=>(Yb ds k).put _ _
theorem abI(ds:U (ByteArray×ET))(s:U UInt8):∀k,has (Ur ds k) (.string s)=(N9 ds s k).isSome/\(Ur ds k).atKey (.string s) (.lit (.int .i64 0))=.lit (.int .i64 ((N9 ds s k).getD 0))
 | 0=>⟨rfl,rfl⟩
 |k+1=>by
  have h:=abI ds s k;simp only[Ur,N9];split
  .rename_i e;subst e;have hk:WideAt.IsKeyLit (.string (ds.getD k (⟨#[]⟩,.mk 0 ⟨#[]⟩ [])).1.data.toList):=trivial;exact⟨has_put_same (Yb ds k) hk _,atKey_put_same (Yb ds k) hk _ _⟩
  .rename_i e;have hne:(Lit.string s)≠.string (ds.getD k (⟨#[]⟩,.mk 0 ⟨#[]⟩ [])).1.data.toList:=λh=>e (by injection h with h;exact h.symm);rw[has_put_other hne,atKey_put_other hne];exact h
def NgO(w:Δ)(mB uB:Nat)(sv:Ψ)(ds:U (ByteArray×ET))(i:Nat)(W:Δ):Prop:=
 ∃us:U Value,us.length=i/\W.heap[uB]? =some (.cells (us++List.replicate (ds.length-i) (Value.slice none 0 0)).toArray 25)/\
  W.heap[uB+1]? =some (.cells #[sv,.slice (some ⟨uB,0,none⟩) ds.length ds.length] 320)/\W.ownsMap Tryz.prog 9 (plainElem (H:=Unit) Tryz.prog 3) mB ds.length (Ur ds ds.length)/\Below w.heap.size w W/\
  ∀(j:Nat)(v:Value),us[j]? =some v->∃d:ByteArray×ET,ds[j]? =some d/\W.ownsRow (uB+2) 3 1 v (iW ds (xq d.2.names)).length (X0 (iW ds (xq d.2.names)))
theorem aad{w:Δ}{base:Nat}{e:Θ}{size:Nat}{v:Ψ}{n:Nat}{xs:U Value}(h:w.ownsRow base e size v n xs):∃a cap,v=.slice a n cap:=by
 rcases h.2 with ⟨rfl,rfl⟩|⟨g,cap,_,rfl,_⟩
 .exact⟨_,_,rfl⟩
 .exact⟨_,_,rfl⟩
theorem aae{w:Δ}{base:Nat}{e:Θ}{a:J Addr}{cap n:Nat}{xs:U Value}(h:w.ownsRow base e 1 (.slice a n cap) n xs)(hn:0<n):∃g,a=some ⟨g,0,none⟩/\base<=g/\g<w.heap.size/\∀j u,xs[j]? =some u->w.cell? ⟨g,j,none⟩=some u:=by
 rcases h.2 with ⟨_,h0⟩|⟨g,c,cur,e1,hg,hgb,_,_,_,ht⟩
 .omega
 .simp only[Value.slice.injEq]at e1;obtain⟨rfl,_,rfl⟩:=e1;refine⟨g,rfl,hg,(Array.getElem?_eq_some_iff.1 hgb).1,λj u hj=>?_⟩;rw[<- ht,List.getElem?_take]at hj;split at hj
  .simpa[World.cell?,hgb]using hj
  .cases hj
def NgI(X:Δ)(uB:Nat)(us:U Value)(ds:U (ByteArray×ET))(r:Nat)(l:U (List UInt8))(V:Δ):Prop:=
 ∃va vc v,v=.slice va (iW ds l).length vc/\X.grownBy V (some uB)/\V.heap[uB]? =some (.cells (us++v::List.replicate r (Value.slice none 0 0)).toArray 25)/\V.ownsRow X.heap.size 3 1 v (iW ds l).length (X0 (iW ds l))
theorem am0(w:Δ):(zeroValue 3).run Tryz.prog w=.ok (.int .i64 0) w:=by kernel_rfl
theorem ak6{w:Δ}{ds:U (ByteArray×ET)}{nm:U UInt8}{b n:Nat}(hown:w.ownsMap Tryz.prog 9 (plainElem (H:=Unit) Tryz.prog 3) b n (Ur ds ds.length))(hkey:keyOf Tryz.prog 9 (encStr nm)=some (.string nm)):
 (Instr.lookup 213 (.map (some b)) (encStr nm) true).run Tryz.prog w=.ok (.tuple #[.int .i64 ((N9 ds nm ds.length).getD 0),.bool (N9 ds nm ds.length).isSome]) w:=by
 have h:=abI ds nm ds.length;obtain⟨v,ps,hrun,hv⟩:=hown.look_ok (Maps.string_keyed Tryz.underlying9) Tryz.underlying213 (am0 w) (plainElem_int Tryz.underlying3 (by decide)) hkey;obtain⟨c,rfl,hc,_⟩:=plainElem_int_inv Tryz.underlying3 hv;rw[h.2]at hc;have hc2:(N9 ds nm ds.length).getD 0=c:=by have:=congrArg Prod.fst hc;simpa using this
 refine hrun.trans ?_;rw[h.1,hc2]
theorem Yc(ds:U (ByteArray×ET))(L:U (List UInt8))(q:Nat){nm:U UInt8}(h:L[q]? =some nm):iW ds (L.take (q+1))=iW ds (L.take q)++(N9 ds nm ds.length).toList:=by rw[List.take_add_one,h,iW,iW,List.filterMap_append];cases h2:N9 ds nm ds.length<;>simp[h2]
theorem grownBy_set(w:Δ)(b k:Nat)(v:Ψ):w.grownBy (w.setCell ⟨b,k,none⟩ v) (some b):=
 ⟨rfl,rfl,rfl,by simp[World.setCell],λi _ h=>by simp only[World.setCell];rw[Array.getElem?_modify,aT (λ e=>h (by rw[e]))]⟩
theorem aia{A B:Δ}{base:Nat}{e:Θ}{size:Nat}{v:Ψ}{n:Nat}{xs:U Value}{uB:Nat}(h:A.ownsRow base e size v n xs)(hb:uB<base)(hk:∀c,c<A.heap.size->c≠uB->B.heap[c]? =A.heap[c]?):B.ownsRow base e size v n xs:=by refine⟨h.1,h.2.imp id ?_⟩;rintro⟨g,cap,cur,h1,h2,h3,h4⟩;exact⟨g,cap,cur,h1,h2,(hk g (Array.getElem?_eq_some_iff.1 h3).1 (by omega)).trans h3,h4⟩
theorem am1:(Tryz.prog.info? 3).map (λ i=>(i.zero,i.size,i.bytes))=some (some (.int .i64 0),1,8):=by kernel_rfl
theorem am2:(Tryz.prog.info? 25).map (λ i=>(i.zero,i.size,i.bytes))=some (some (.slice none 0 0),1,24):=by kernel_rfl
theorem ak7(ds:U (ByteArray×ET))(k:Nat){d:ByteArray×ET}(h:ds[k]? =some d):Ur ds (k+1)=(Ur ds k).put (.string d.1.data.toList) (.lit (.int .i64 k)):=by simp[Ur,List.getD,h]
theorem am3(s:ByteArray)(h:s.size<=maxLen):keyOf Tryz.prog 9 (.string s)=some (.string s.data.toList):=by rw[keyOf_string Tryz.underlying9];simp[mapKey,Tryz.underlying9,h]
theorem am4{X wr w1:Δ}{uB k r:Nat}{us:U Value}{ds:U (ByteArray×ET)}{l l':U (List UInt8)}{va:J Addr}{vc gg cap:Nat}{m:Int}{o:Obj}
 (xn:X.grownBy wr (some uB)) (vp:wr.heap[uB]? =some (.cells (us++(Value.slice va (iW ds l).length vc)::List.replicate r (Value.slice none 0 0)).toArray 25)) (hk:us.length=k)
 (hgrow:(wr.alloc o).drew.grownBy w1 (Value.slice va (iW ds l).length vc).ownBlock) (hne:(Value.slice va (iW ds l).length vc).ownBlock≠some uB) (hbl:∀b,(Value.slice va (iW ds l).length vc).ownBlock=some b->X.heap.size<=b)
 (hown:w1.ownsRow X.heap.size 3 1 (.slice (some ⟨gg,0,none⟩) ((iW ds l).length+1) cap) ((iW ds l).length+1) (X0 (iW ds l)++[.int .i64 m])) (hs:iW ds l'=iW ds l++[m])
 (hat:(Value.slice va (iW ds l).length vc).ownBlock=some gg\/gg=wr.heap.size+1):
 NgI X uB us ds r l' (w1.setCell ⟨uB,k,none⟩ (.slice (some ⟨gg,0,none⟩) ((iW ds l).length+1) cap)):=by
 have huB:uB<wr.heap.size:=(Array.getElem?_eq_some_iff.1 vp).1;have h1:w1.heap[uB]? =wr.heap[uB]? :=(hgrow.block uB (by show uB<(wr.alloc o).heap.size;simp;omega) (λ e=>hne e.symm)).trans (Below.heap_alloc wr o uB huB);have hset:w1.grownBy (w1.setCell ⟨uB,k,none⟩ (.slice (some ⟨gg,0,none⟩) ((iW ds l).length+1) cap)) (some uB):=grownBy_set _ _ _ _;have hall:X.grownBy w1 (some uB):=(xn.andThen ((World.grownBy_alloc wr o none).trans ⟨rfl,rfl,rfl,aB _,λ_ _ _=>rfl⟩:wr.grownBy (wr.alloc o).drew none) (λ j e=>by cases e)).andThen hgrow (λ j e=>.inl (hbl j e));have hlen:(iW ds l').length=(iW ds l).length+1:=by rw[hs];simp
 have hgu:gg≠uB:=by
  rintro rfl;rcases hat with h|h
  .exact hne h
  .omega
 refine⟨some ⟨gg,0,none⟩,cap,_,rfl,hall.trans hset,?_,?_⟩
 .rw[hlen];simp only[World.setCell];rw[Array.getElem?_modify,aY rfl,h1,vp];simp only[Option.map_some,Option.isSome_none,Bool.false_eq_true,if_false,List.setIfInBounds_toArray];rw[<- hk,List.set_append_right _ _ (aB _),Nat.sub_self,List.set_cons_zero]
 .rw[hlen,hs];have:=hown.kept hset (.inr (λ e=>hgu (by simpa[Value.ownBlock]using e)));simpa using this
set_option maxRecDepth 100000 in
set_option maxHeartbeats 4000000 in
theorem aoE(ds:U (ByteArray×ET))(hlen:ds.length<=4000000)
 (hnl:∀d∈ds,d.2.names.length<=1000000000000)
 (hN:∀d∈ds,∀(v0 v1 v2 v3 v4:Value)(w:World),nh w.heap.size w d.2 [v0,v1,v2,v3,v4]->Calls Tryz.prog 241 #[.agg #[v0,v1,v2,v3,v4]] w λe W'=>∃v,e=.returned v/\W'.ownsRow w.heap.size 9 1 v (xq d.2.names).length ((xq d.2.names).map encStr)/\Below w.heap.size w W')
 (sv:Ψ) (w:Δ) (hsv:IP w.heap.size w ds sv):Calls Tryz.prog 214 #[sv] w λe W'=>∃uB,e=.returned (.pointer (some ⟨uB+1,0,none⟩))/\w.heap.size<uB/\apC w uB sv ds 25 320 3 W':=by
 have hmm:=@run_makeMap Tryz.prog;obtain⟨sa,sc,rfl⟩:∃sa sc,sv=.slice sa ds.length sc:=by
  rcases hsv with ⟨rfl,a,cap,rfl⟩|⟨b,aa,cap,rfl,_⟩
  .exact⟨_,_,rfl⟩
  .exact⟨_,_,rfl⟩
 obtain⟨i0,hi,hz0,hz1,hz2⟩:=info_parts am2;obtain⟨iI,hiI,aru,ars,arq⟩:=info_parts am1
 go_enter Tryz.func214,Tryz.ntmps214
 go_wp2
 go_loopw [16] (λ i wr=>∃k:Nat,k<=ds.length/\i=.int .i64 k/\wr.ownsMap Tryz.prog 9 (plainElem (H:=Unit) Tryz.prog 3) w.heap.size k (Ur ds k)/\Below w.heap.size w wr)
  (λ i _=>ds.length-(intOf i).toNat)
 case atStart=>exact⟨0,Nat.zero_le _,rfl,World.ownsMap_made _ _ _ _,(Below.refl _ _).alloc (aB _) _⟩
 case round=>
  obtain⟨k,hk,rfl,hown,hnx⟩:=hrel;by_cases hkl:k<ds.length
  .rcases hsv with ⟨h0,_⟩|⟨b,aa,cap,he,hb,hr⟩
   .rw[h0]at hkl;exact absurd hkl (Nat.not_lt_zero _)
   simp only[Value.slice.injEq,true_and]at he;obtain⟨rfl,rfl⟩:=he;obtain⟨d,hd⟩:∃d,ds[k]? =some d:=⟨_,dP hkl⟩;obtain⟨vs,q,N1⟩:=hr k d hd;obtain⟨u0,u1,u2,u3,u4,u5,rfl,hone⟩:=ajU N1;have o0:=λz1 z2 z3 z4 z5=>dW Tryz.prog wr #[.string { data:=#[] },z1,z2,z3,z4,z5] 122 0 u0 (by simp) (by simpa using (Array.all_eq_true.1 hone) 0 (by simp));have o1:=λz2 z3 z4 z5=>dW Tryz.prog wr #[u0,.int .i64 0,z2,z3,z4,z5] 122 1 u1 (by simp) (by simpa using (Array.all_eq_true.1 hone) 1 (by simp));have o2:=λz3 z4 z5=>dW Tryz.prog wr #[u0,u1,.int .i64 0,z3,z4,z5] 122 2 u2 (by simp) (by simpa using (Array.all_eq_true.1 hone) 2 (by simp));have o3:=λz4 z5=>dW Tryz.prog wr #[u0,u1,u2,.string { data:=#[] },z4,z5] 122 3 u3 (by simp) (by simpa using (Array.all_eq_true.1 hone) 3 (by simp));have o4:=λz5=>dW Tryz.prog wr #[u0,u1,u2,u3,.string { data:=#[] },z5] 122 4 u4 (by simp) (by simpa using (Array.all_eq_true.1 hone) 4 (by simp));have o5:=dW Tryz.prog wr #[u0,u1,u2,u3,u4,.slice none 0 0] 122 5 u5 (by simp) (by simpa using (Array.all_eq_true.1 hone) 5 (by simp));simp only[List.set_toArray,List.set]at o0 o1 o2 o3 o4 o5;have hn:=World.alloc_heap_new wr (.cells #[u0,u1,u2,u3,u4,u5] 122);have r0:(wr.alloc (.cells #[u0,u1,u2,u3,u4,u5] 122)).cell? ⟨wr.heap.size,0,none⟩=some u0:=(by simp only[World.cell?,hn];rfl);have q0:wr.cell? ⟨b,aa+k*6,none⟩=some u0:=(hnx.cell (p:=⟨b,aa+k*6,none⟩) hb).trans (q 0 _ rfl);have q1:wr.cell? ⟨b,aa+k*6+1,none⟩=some u1:=(hnx.cell (p:=⟨b,aa+k*6+1,none⟩) hb).trans (q 1 _ rfl);have q2:wr.cell? ⟨b,aa+k*6+2,none⟩=some u2:=(hnx.cell (p:=⟨b,aa+k*6+2,none⟩) hb).trans (q 2 _ rfl);have q3:wr.cell? ⟨b,aa+k*6+3,none⟩=some u3:=(hnx.cell (p:=⟨b,aa+k*6+3,none⟩) hb).trans (q 3 _ rfl);have q4:wr.cell? ⟨b,aa+k*6+4,none⟩=some u4:=(hnx.cell (p:=⟨b,aa+k*6+4,none⟩) hb).trans (q 4 _ rfl);have q5:wr.cell? ⟨b,aa+k*6+5,none⟩=some u5:=(hnx.cell (p:=⟨b,aa+k*6+5,none⟩) hb).trans (q 5 _ rfl);have hkey:keyOf Tryz.prog 9 u0=some (.string d.1.data.toList):=by obtain⟨v0,v1,v2,v3,v4,e,hs,_⟩:=N1;simp only[List.cons.injEq]at e;rw[e.1];exact am3 d.1 hs
   go_wp2_with (at_mapUpdate;refine wpList_mapUpdate_own _ rfl _ _ _ 213 rfl 9 3 (Maps.string_keyed Tryz.underlying9) Tryz.underlying213 _ w.heap.size k _ rfl (hown.alloc _) (by unfold maxLen;omega) _ _ _ rfl rfl hkey _ [] (plainElem_int Tryz.underlying3 (WalkArith.wf_i64 (by omega))) ?_;intro w1 hown1 hgrow1)
   refine⟨⟨k+1,by omega,by go_num,?_,(((hnx.alloc (by have:=hnx.size;omega) _).grown hgrow1 (by have:=hnx.size;simp;omega) (λ j e=>by cases e;exact aB _)))⟩,by simp[intOf];omega⟩;rw[ak7 ds k hd];exact hown1
  .obtain rfl:k=ds.length:=(by omega);have hms:=run_make (P:=Tryz.prog) wr 318 25 i0 (.slice none 0 0) Tryz.underlying318 hi hz0 .i64 .i64 ds.length ds.length (by omega) (Int.le_refl _) (by rw[hz2];omega) (by omega);rw[hz1]at hms;simp only[Int.toNat_natCast,Nat.mul_one,Value.cells]at hms;obtain⟨xT,xi⟩:∃xT,madeCells #[Value.slice none 0 0] ds.length=xT:=⟨_,rfl⟩;rw[xi]at hms
   go_wp2
   obtain⟨uB,huB⟩:∃uB,wr.heap.size=uB:=⟨_,rfl⟩;obtain⟨W1,hW1⟩:∃W1,(wr.alloc (.cells xT 25)).alloc (.cells #[.slice sa ds.length sc,.slice (some ⟨wr.heap.size,0,none⟩) ds.length ds.length] 320)=W1:=⟨_,rfl⟩;have hmu:w.heap.size<uB:=(by rw[<- huB];exact hown.lt);have hI0:NgO w w.heap.size uB (.slice sa ds.length sc) ds 0 W1:=by
    have hn1:=World.alloc_heap_new wr (.cells xT 25);have hn2:=World.alloc_heap_new (wr.alloc (.cells xT 25)) (.cells #[.slice sa ds.length sc,.slice (some ⟨wr.heap.size,0,none⟩) ds.length ds.length] 320);rw[World.size_alloc]at hn2;subst huB;refine⟨[],rfl,?_,?_,?_,?_,λj v h=>by simp at h⟩
    .rw[<- hW1];refine(Below.heap_alloc _ _ _ (by simp)).trans ?_;rw[hn1,<- xi];congr 2;apply Array.ext';rw[toList_madeCells_one];rfl
    .rw[<- hW1];exact hn2
    .rw[<- hW1];exact(hown.alloc _).alloc _
    .rw[<- hW1];exact(hnx.alloc (by have:=hnx.size;omega) _).alloc (by have:=hnx.size;simp;omega) _
   rw[hW1,huB]
   go_loopw [34] (λ i W=>∃k:Nat,k<=ds.length/\i=.int .i64 k/\NgO w w.heap.size uB (.slice sa ds.length sc) ds k W)
    (λ i _=>ds.length-(intOf i).toNat)
   case atStart=>exact⟨0,Nat.zero_le _,rfl,hI0⟩
   case round=>
    obtain⟨k,hk,rfl,us,tA,hU,hG,hM,hB,Bs⟩:=hrel;obtain⟨RM,arv⟩:∃RM,RM=wr:=⟨_,rfl⟩;by_cases hkl:k<ds.length
    .rcases hsv with ⟨h0,_⟩|⟨b,aa,cap,he,hb,hr⟩
     .rw[h0]at hkl;exact absurd hkl (Nat.not_lt_zero _)
     simp only[Value.slice.injEq,true_and]at he;obtain⟨rfl,rfl⟩:=he;obtain⟨d,hd⟩:∃d,ds[k]? =some d:=⟨_,dP hkl⟩;obtain⟨vs,q,N1⟩:=hr k d hd;obtain⟨u0,u1,u2,u3,u4,u5,rfl,hone⟩:=ajU N1;have o0:=λz1 z2 z3 z4 z5=>dW Tryz.prog wr #[.string { data:=#[] },z1,z2,z3,z4,z5] 122 0 u0 (by simp) (by simpa using (Array.all_eq_true.1 hone) 0 (by simp));have o1:=λz2 z3 z4 z5=>dW Tryz.prog wr #[u0,.int .i64 0,z2,z3,z4,z5] 122 1 u1 (by simp) (by simpa using (Array.all_eq_true.1 hone) 1 (by simp));have o2:=λz3 z4 z5=>dW Tryz.prog wr #[u0,u1,.int .i64 0,z3,z4,z5] 122 2 u2 (by simp) (by simpa using (Array.all_eq_true.1 hone) 2 (by simp));have o3:=λz4 z5=>dW Tryz.prog wr #[u0,u1,u2,.string { data:=#[] },z4,z5] 122 3 u3 (by simp) (by simpa using (Array.all_eq_true.1 hone) 3 (by simp));have o4:=λz5=>dW Tryz.prog wr #[u0,u1,u2,u3,.string { data:=#[] },z5] 122 4 u4 (by simp) (by simpa using (Array.all_eq_true.1 hone) 4 (by simp));have o5:=dW Tryz.prog wr #[u0,u1,u2,u3,u4,.slice none 0 0] 122 5 u5 (by simp) (by simpa using (Array.all_eq_true.1 hone) 5 (by simp));simp only[List.set_toArray,List.set]at o0 o1 o2 o3 o4 o5;have hn:=World.alloc_heap_new wr (.cells #[u0,u1,u2,u3,u4,u5] 122);have r0:(wr.alloc (.cells #[u0,u1,u2,u3,u4,u5] 122)).cell? ⟨wr.heap.size,0,none⟩=some u0:=(by simp only[World.cell?,hn];rfl);have q0:wr.cell? ⟨b,aa+k*6,none⟩=some u0:=(hB.cell (p:=⟨b,aa+k*6,none⟩) hb).trans (q 0 _ rfl);have q1:wr.cell? ⟨b,aa+k*6+1,none⟩=some u1:=(hB.cell (p:=⟨b,aa+k*6+1,none⟩) hb).trans (q 1 _ rfl);have q2:wr.cell? ⟨b,aa+k*6+2,none⟩=some u2:=(hB.cell (p:=⟨b,aa+k*6+2,none⟩) hb).trans (q 2 _ rfl);have q3:wr.cell? ⟨b,aa+k*6+3,none⟩=some u3:=(hB.cell (p:=⟨b,aa+k*6+3,none⟩) hb).trans (q 3 _ rfl);have q4:wr.cell? ⟨b,aa+k*6+4,none⟩=some u4:=(hB.cell (p:=⟨b,aa+k*6+4,none⟩) hb).trans (q 4 _ rfl);have q5:wr.cell? ⟨b,aa+k*6+5,none⟩=some u5:=(hB.cell (p:=⟨b,aa+k*6+5,none⟩) hb).trans (q 5 _ rfl);have r1:(wr.alloc (.cells #[u0,u1,u2,u3,u4,u5] 122)).cell? ⟨wr.heap.size,1,none⟩=some u1:=(by simp only[World.cell?,hn];rfl);have r2:(wr.alloc (.cells #[u0,u1,u2,u3,u4,u5] 122)).cell? ⟨wr.heap.size,2,none⟩=some u2:=(by simp only[World.cell?,hn];rfl);have r3:(wr.alloc (.cells #[u0,u1,u2,u3,u4,u5] 122)).cell? ⟨wr.heap.size,3,none⟩=some u3:=(by simp only[World.cell?,hn];rfl);have r4:(wr.alloc (.cells #[u0,u1,u2,u3,u4,u5] 122)).cell? ⟨wr.heap.size,4,none⟩=some u4:=(by simp only[World.cell?,hn];rfl);have r5:(wr.alloc (.cells #[u0,u1,u2,u3,u4,u5] 122)).cell? ⟨wr.heap.size,5,none⟩=some u5:=(by simp only[World.cell?,hn];rfl);have hba:Below w.heap.size wr (wr.alloc (.cells #[u0,u1,u2,u3,u4,u5] 122)):=(Below.refl _ _).alloc hB.size _;have hEd:nh (wr.alloc (.cells #[u0,u1,u2,u3,u4,u5] 122)).heap.size (wr.alloc (.cells #[u0,u1,u2,u3,u4,u5] 122)) d.2 [u1,u2,u3,u4,u5]:=(by obtain⟨v0,v1,v2,v3,v4,e,_,h⟩:=N1;simp only[List.cons.injEq,and_true]at e;obtain⟨_,rfl,rfl,rfl,rfl,rfl⟩:=e;exact nh.mono (by have:=hB.size;simp;omega) _ _ (h.below' (hB.trans hba)));have hcn:=hN d (cZ hd) u1 u2 u3 u4 u5 _ hEd
     go_wp2_with (go_at_call 241;refine hcn.mono ?_;rintro e X ⟨nv,rfl,hrow,hbX⟩;obtain⟨na,nc,rfl⟩:=aad hrow)
     have hcell:=aae hrow;have hblt:=hrow.lt;have hsU:uB+1<wr.heap.size:=(Array.getElem?_eq_some_iff.1 hG).1;have hsX:wr.heap.size+1<=X.heap.size:=(by have:=hbX.size;simpa using this);have hkX:∀c,c<wr.heap.size->X.heap[c]? =wr.heap[c]? :=λc hc=>(hbX.block c (by simp;omega)).trans (Below.heap_alloc _ _ c hc);obtain⟨L,hL⟩:∃L,xq d.2.names=L:=⟨_,rfl⟩;rw[hL]at hrow hcell;have hLl:L.length<=1000000000000:=(by rw[<- hL];exact Nat.le_trans (aft _) (hnl d (cZ hd)));have hLs:∀s∈L,s.length<=maxLen:=by intro s hs;rw[<- hL]at hs;obtain⟨x,hx,rfl⟩:=amM hs;have:=nh.gC d.2 _ hEd x hx;simpa using this
     go_loopw [43] (λ i V=>∃q:Nat,q<=L.length/\i=.int .i64 q/\NgI X uB us ds (ds.length-k-1) (L.take q) V)
      (λ i _=>L.length-(intOf i).toNat)
     case atStart=>
      refine⟨0,Nat.zero_le _,rfl,none,0,_,rfl,World.grownBy.refl _ _,?_,World.ownsRow_nil _ _ _ _⟩;rw[hkX uB (by omega),hU,show ds.length-k=(ds.length-k-1)+1 by omega,List.replicate_succ];rfl
     case round=>
      obtain⟨q,hq,rfl,va,vc,v,rfl,xn,vp,Bi⟩:=hrel;by_cases BC:q<L.length
      .obtain⟨nm,hnm⟩:∃nm,L[q]? =some nm:=⟨_,dP BC⟩;obtain⟨g,rfl,hg1,hg2,hgc⟩:=hcell (by omega);have c0:wr.cell? ⟨g,q,none⟩=some (encStr nm):=(xn.cell_far ⟨g,q,none⟩ hg2 (by simp at hg1 ⊢;omega)).trans (hgc q _ (by rw[List.getElem?_map,hnm];rfl));have hkey:keyOf Tryz.prog 9 (encStr nm)=some (.string nm):=(by have:=am3 ⟨nm.toArray⟩ (by have:=hLs nm (cZ hnm);simpa[ByteArray.size]using this);simpa using this);have hMV:wr.ownsMap Tryz.prog 9 (plainElem (H:=Unit) Tryz.prog 3) w.heap.size ds.length (Ur ds ds.length):=(by obtain⟨es,ck,h1,h2⟩:=hM;exact⟨es,ck,(xn.block _ (by omega) (by simp;omega)).trans ((hkX _ (by omega)).trans h1),h2⟩);have hlk:(iW ds (L.take q)).length<=1000000000000:=Nat.le_trans (List.length_filterMap_le _ _) (by rw[List.length_take];omega);have rx:=ak6 hMV hkey;cases hix:N9 ds nm ds.length with
       |none=>
        rw[hix]at rx;simp only[Option.isSome,Option.getD]at rx
        go_wp2
        have hstep:iW ds (L.take (q+1))=iW ds (L.take q):=(by rw[Yc ds L q hnm,hix];exact List.append_nil _);exact⟨⟨q+1,by omega,by go_num,va,vc,_,rfl,xn,by rw[hstep];exact vp,by rw[hstep];exact Bi⟩,by simp[intOf];omega⟩
       |some m=>
        rw[hix]at rx;simp only[Option.isSome,Option.getD]at rx
        go_wp2
        have hstep:iW ds (L.take (q+1))=iW ds (L.take q)++[m]:=(by rw[Yc ds L q hnm,hix];rfl);have hVX:X.heap.size<=wr.heap.size:=xn.size;have cG:wr.cell? ⟨uB+1,1,none⟩=some (.slice (some ⟨uB,0,none⟩) ds.length ds.length):=(by have h1:=(xn.block (uB+1) (by omega) (by simp)).trans ((hkX _ (by omega)).trans hG);simp[World.cell?,h1]);have cU:wr.cell? ⟨uB,k,none⟩=some (.slice va (iW ds (L.take q)).length vc):=(by rw[<- tA];simp[World.cell?,vp]);have cF:wr.frozen? ⟨uB,k,none⟩=false:=(by simp[World.frozen?,vp]);have cF2:∀o,(wr.alloc o).drew.frozen? ⟨uB,k,none⟩=false:=λo=>(by have h1:=(Below.heap_alloc wr o uB (Array.getElem?_eq_some_iff.1 vp).1).trans vp;show(wr.alloc o).frozen? _=_;simp[World.frozen?,h1]);have hk0:(0:Int)<=(k:Int):=Int.natCast_nonneg _;have hk1:(k:Int)<(ds.length:Int):=(by omega);have DS:(Value.slice va (iW ds (L.take q)).length vc).ownBlock≠some uB:=λe=>(by have:=(Bi.lt _ e).1;omega);have arH:(Value.slice va (iW ds (L.take q)).length vc).ownBlock≠some (uB+1):=λe=>(by have:=(Bi.lt _ e).1;omega);have cU2:=World.new_ne wr ⟨uB,k,none⟩ cU;have cU3:∀o,(wr.alloc o).drew.cell? ⟨uB,k,none⟩=some (.slice va (iW ds (L.take q)).length vc):=λo=>(by have h1:=(Below.heap_alloc wr o uB (Array.getElem?_eq_some_iff.1 vp).1).trans vp;show(wr.alloc o).cell? _=_;rw[<- tA];simp[World.cell?,h1]);have cG3:∀o,(wr.alloc o).drew.cell? ⟨uB+1,1,none⟩=some (.slice (some ⟨uB,0,none⟩) ds.length ds.length):=λo=>(by have h0:=(xn.block (uB+1) (by omega) (by simp)).trans ((hkX _ (by omega)).trans hG);have h1:=(Below.heap_alloc wr o (uB+1) (Array.getElem?_eq_some_iff.1 h0).1).trans h0;show(wr.alloc o).cell? _=_;simp[World.cell?,h1]);have cG4:=cG3 (.cells #[.int .i64 m] 3);have cU4:=cU3 (.cells #[.int .i64 m] 3);have cF4:=cF2 (.cells #[.int .i64 m] 3)
        go_region_law ((refine step_append_lies _ (by rfl) _ _ _ (by rfl) X.heap.size 3 iI _ 1 8 Tryz.underlying25 hiI aru ars arq rfl (by omega) _ _ _ (by rfl) ((Bi.alloc _).drew) ⟨wr.heap.size,0,none⟩ 1 1 [.int .i64 m] (by rfl) (by rfl) (World.news_of_block (cs:=#[.int .i64 m]) (t:=3) (fr:=(0,0)) (heap_alloc_new wr _)) (by simp[Value.oneCell']) (by omega) (by unfold maxLen;omega) (by omega) (by simp;omega) (wr.heap.size+1) (by simp) ?_;intro gg cap w1 hown1 hgrow hat hlt;have cU1:w1.cell? ⟨uB,k,none⟩=some (.slice va (iW ds (L.take q)).length vc):=(by rw[hgrow.cell_far _ (by simp;omega) (Ne.symm DS)];exact cU3 _);have cG1:w1.cell? ⟨uB+1,1,none⟩=some (.slice (some ⟨uB,0,none⟩) ds.length ds.length):=(by rw[hgrow.cell_far _ (by simp;omega) (Ne.symm arH)];exact cG3 _);have cF1:w1.frozen? ⟨uB,k,none⟩=false:=(by rw[hgrow.frozen_far _ (by simp;omega) (Ne.symm DS)];exact cF2 _)))
        all_goals go_wp2
        all_goals exact⟨⟨_,_,_,.int .i64 ((q:Int)+1),⟨q+1,by omega,by go_num,am4 xn vp tA hgrow DS (λ b e=>(Bi.lt b e).1) hown1 hstep hat⟩,rfl,rfl,rfl,rfl⟩,by simp[intOf];omega⟩
      .obtain rfl:q=L.length:=by omega
       go_wp2
       rw[List.take_length]at vp Bi;subst arv;have hgw:∀c,c<RM.heap.size->c≠uB->wr.heap[c]? =RM.heap[c]? :=λc hc hne=>(xn.block c (by omega) (by simp;omega)).trans (hkX c hc);refine⟨⟨k+1,by omega,by go_num,us++[.slice va (iW ds L).length vc],by simp[tA],?_,?_,?_,?_,?_⟩,by simp[intOf];omega⟩
       .rw[vp];congr 3;simp[Nat.sub_sub]
       .exact(hgw (uB+1) (by omega) (by omega)).trans hG
       .obtain⟨es,ck,h1,h2⟩:=hM;exact⟨es,ck,(hgw _ (by omega) (by omega)).trans h1,h2⟩
       .exact(((hB.trans hba).trans (hbX.mono (by simp;have:=hB.size;omega))).grown xn (by have:=hB.size;omega) (λ j e=>by cases e;omega))
       .intro j v hj;rw[List.getElem?_append]at hj;split at hj
        .obtain⟨d',hd',ho⟩:=Bs j v hj;exact⟨d',hd',aia ho (by omega) hgw⟩
        .rename_i hjl;have hj0:j-us.length=0:=by
          cases h:j-us.length with
          |zero=>rfl
          |succ z=>rw[h]at hj;simp at hj
         rw[hj0]at hj;simp only[List.getElem?_cons_zero,bV]at hj;subst hj;refine⟨d,by rw[show j=k by omega];exact hd,?_⟩;rw[hL];refine⟨Bi.1,Bi.2.imp id ?_⟩;rintro⟨g,cap,cur,h1,h2,h3⟩;exact⟨g,cap,cur,h1,by omega,h3⟩
    .obtain rfl:k=ds.length:=by omega
     go_wp2
     go_ret
     exact⟨uB,rfl,hmu,us,tA,by simpa using hU,hG,hB,Bs⟩
end Go.Proofs
namespace Go.Proofs
open Go.RowKit Go.Shelf
set_option maxHeartbeats 1000000 in
theorem am5(x y:Nat)(hx:x<18446744073709551616)(hy:y<18446744073709551616)(w:Δ):
 Calls Tryz.prog 293 #[.int .u64 x,.int .u64 y] w λe w'=>e=.returned (.tuple #[.int .u64 ((x*y/18446744073709551616:Nat):Int),.int .u64 ((x*y%18446744073709551616:Nat):Int)])/\w'=w:=by
 obtain⟨bd,bt,bw,hhi⟩:=Lib.mul64_hi x y hx hy;have ba:=Lib.half_mul_le (a:=x/4294967296) (b:=y/4294967296) (by omega) (by omega);have bb:=Lib.half_mul_le (a:=x/4294967296) (b:=y%4294967296) (by omega) (by omega);have bc:=Lib.half_mul_le (a:=x%4294967296) (b:=y/4294967296) (by omega) (by omega);have ba':x/4294967296*(y/4294967296)<18446744073709551616:=by omega
 have bb':x/4294967296*(y%4294967296)<18446744073709551616:=by omega
 have bc':x%4294967296*(y/4294967296)<18446744073709551616:=by omega
 have bh1:x/4294967296*(y/4294967296)+(x/4294967296*(y%4294967296)+x%4294967296*(y%4294967296)/4294967296)/4294967296<18446744073709551616:=by omega
 have bh:x/4294967296*(y/4294967296)+(x/4294967296*(y%4294967296)+x%4294967296*(y%4294967296)/4294967296)/4294967296+((x/4294967296*(y%4294967296)+x%4294967296*(y%4294967296)/4294967296)%4294967296+x%4294967296*(y/4294967296))/4294967296<18446744073709551616:=by omega
 go_enter Tryz.func293,Tryz.ntmps293
 go_wp2
 simp only[Mul64.maskN x hx,Mul64.maskN y hy,Mul64.divN,Mul64.mulN,Mul64.addN,Mul64.wrapN _ bd,Mul64.wrapN _ bb',Mul64.wrapN _ bt,Mul64.maskN _ bt,Mul64.wrapN _ bc',Mul64.wrapN _ bw,Mul64.wrapN _ ba',Mul64.wrapN _ bh1,Mul64.wrapN _ bh,Mul64.wrapM (x*y)];rw[hhi]
 go_ret2
 exact⟨rfl,rfl⟩
set_option maxHeartbeats 1000000 in
theorem aqc(x y:Nat)(hx:x<18446744073709551616)(hy:y<18446744073709551616)(w:Δ):
 Calls Tryz.prog 281 #[.int .u64 x,.int .u64 y] w λe w'=>e=.returned (.tuple #[.int .u64 ((x*y/18446744073709551616:Nat):Int),.int .u64 ((x*y%18446744073709551616:Nat):Int)])/\w'=w:=by
 go_enter Tryz.func281,Tryz.ntmps281
 go_wp2_with (go_at_call 293;refine(am5 x y hx hy _).mono ?_;rintro e w' ⟨rfl,hw⟩;rw[hw])
 go_ret2
 exact⟨rfl,rfl⟩
theorem aoF(c:Nat)(hc:c<=1000000000000)(w:Δ):
 Calls Tryz.prog 281 #[.int .u64 1,.int .u64 c] w λe w'=>e=.returned (.tuple #[.int .u64 0,.int .u64 c])/\w'=w:=by have h:=aqc 1 c (by decide) (by omega) w;rw[show 1*c/18446744073709551616=0 by omega,show 1*c%18446744073709551616=c by omega]at h;exact h
theorem ajV:(Tryz.prog.info? 3).map (λ i=>(i.zero,i.size,i.bytes))=some (some (.int .i64 0),1,8):=by kernel_rfl
def qr(x:Int)(m c:Nat):U Value:=List.replicate m (.int .i64 x)++List.replicate (c-m) (.int .i64 0)
theorem aib(x:Int)(m k c:Nat)(_:m+k<=c):splice (qr x m c) m (List.replicate k (.int .i64 x))=qr x (m+k) c:=by
 have h1:(qr x m c).take m=List.replicate m (.int .i64 x):=by simp[qr]
 have h2:(qr x m c).drop (m+k)=List.replicate (c-(m+k)) (.int .i64 0):=by rw[qr,List.drop_append];simp[Nat.sub_sub,show m+k-m=k by omega]
 rw[splice,h1,List.length_replicate,h2,<- aV,List.replicate_append_replicate,qr]
theorem aoG{P:Ξ}{ag:Array Oper}{o:Oper}{a:Act}{w w':Δ}{K:Act->World->Prop}{Q:Exit->Act->World->Prop}{E:Prop}(hgd:o.guard=none)(d s:Operand)(dT sT:Θ)
 (ho:o.op=.call { callee:=.builtin .copy,args:=#[d,s],argTypes:=#[dT,sT] }) {D S v:Ψ} (hd:a.eval d=D) (hs:a.eval s=S) (hrun:(Builtin.copy_ #[dT,sT] o.type #[D,S]).run P w=.ok v w') (h:K (a.put o.dst v) w'):
 if Region.wanted o (yielded ag a.tmps)=true then Oper.wp P o a w K Q else E:=by
 have hw:Region.wanted o (yielded ag a.tmps)=true:=by simp[Region.wanted,hgd]
 rw[aY hw];unfold Oper.wp;simp[execOp,ho,resolve,invoke,builtin,hd,hs,hrun,Result.andThen];exact h
theorem ajW{x:Int}{m k c g dCap sCap sLen dLen:Nat}{a:Addr}{W:Δ}(hg:W.heap[g]? =some (.cells (qr x m c).toArray 3))(h:m+k<=c)(hk:k=Nat.min sLen dLen)
 (hsrc:∀j v,(List.replicate k (Value.int .i64 x))[j]? =some v->W.cell? (a.add j)=some v):
 ∃W1,(Builtin.copy_ #[25,25] 3 #[.slice (some ⟨g,m,none⟩) dLen dCap,.slice (some a) sLen sCap]).run Tryz.prog W=.ok (.int .i64 k) W1/\W1.heap[g]? =some (.cells (qr x (m+k) c).toArray 3)/\∀B w0,Below B w0 W->B<=g->Below B w0 W1:=by
 obtain⟨i0,hi,hz0,hz1,hz2⟩:=info_parts ajV;have hone:∀v∈List.replicate k (Value.int .i64 x),v.oneCell'=true:=λv hv=>by rw[(List.mem_replicate.1 hv).2];rfl
 have hrun:=run_copy_row (P:=Tryz.prog) W 25 25 3 3 g m dLen dCap a sLen sCap (qr x m c).toArray 3 (List.replicate k (.int .i64 x)) Tryz.underlying25 (by rw[hi];simp[hz1]) hg (by simpa using hk) hsrc (by simp[qr];omega) hone;rw[List.length_replicate]at hrun;refine⟨_,hrun,?_,λB w0 hb hB=>below_setRow hb hB _⟩;have:=setRow_heap W g _ (qr x (m+k) c).toArray 3 _ hg;rw[<- aib x m k c h]at this ⊢;simpa[splice]using this
set_option maxRecDepth 100000 in
set_option maxHeartbeats 4000000 in
theorem ak8(x:Int)(c:Nat)(hc:c<=1000000000000)(a:Addr)(cap:Nat)(w:Δ)(hx:w.cell? a=some (.int .i64 x)):
 Calls Tryz.prog 275 #[.slice (some a) 1 cap,.int .i64 c] w λe W'=>∃v,e=.returned v/\W'.ownsRow w.heap.size 3 1 v c (List.replicate c (.int .i64 x))/\Below w.heap.size w W':=by
 have h0:(0:Int)<=(c:Int):=Int.natCast_nonneg _;obtain⟨i0,hi,hz0,hz1,hz2⟩:=info_parts ajV;have hms:=run_make (P:=Tryz.prog) w 25 3 i0 (.int .i64 0) Tryz.underlying25 hi hz0 .i64 .i64 c c (by omega) (Int.le_refl _) (by rw[hz2];omega) (by omega);rw[hz1]at hms;simp only[Int.toNat_natCast,Nat.mul_one,Value.cells]at hms;obtain⟨xT,xi⟩:∃xT,madeCells #[Value.int .i64 0] c=xT:=⟨_,rfl⟩;rw[xi]at hms;have hgm:=heap_alloc_new w (.cells xT 3);have HF:xT=(qr x 0 c).toArray:=by rw[<- xi];apply Array.ext';rw[toList_madeCells_one];simp[qr]
 rw[HF]at hgm hms;have hbm:Below w.heap.size w (w.alloc (.cells (qr x 0 c).toArray 3)):=(Below.refl _ _).alloc (aB _) _;have hsz1:(Tryz.prog.info? 3).map (·.size)=some 1:=by rw[hi];simp[hz1]
 go_enter Tryz.func275,Tryz.ntmps275
 have hone:∀k,∀v∈List.replicate k (Value.int .i64 x),v.oneCell'=true:=λk v hv=>by rw[(List.mem_replicate.1 hv).2];rfl
 have hab:a.block<w.heap.size:=World.block_lt_of_cell? w a hx;obtain⟨W1,hcp,hg1,hb1⟩:=ajW (k:=min 1 c) (sLen:=1) (dLen:=c) (dCap:=c) (sCap:=cap) (a:=a) hgm (by omega) rfl λj v hj=>by
  have hj0:=(dx.1 hj).1;rw[List.length_replicate]at hj0;obtain rfl:j=0:=by omega
  rw[List.getElem?_replicate,aY hj0]at hj;cases hj;have:=(Below.refl w.heap.size w).alloc (aB _) (.cells (qr x 0 c).toArray 3) |>.cell hab;rw[<- hx,<- this];rfl
 have hb1:=hb1 _ _ hbm (aB _);rw[Nat.zero_add]at hg1;obtain⟨m0,hm0⟩:∃m0,min 1 c=m0:=⟨_,rfl⟩;rw[hm0]at hcp hg1
 go_wp2_with (go_at_call 281;refine(aoF c hc _).mono ?_;rintro e w' ⟨rfl,hw⟩;rw[hw])
 go_loopw [8] (λ i W=>∃m:Nat,m<=c/\(0<c->0<m)/\i=.int .i64 m/\W.heap[w.heap.size]? =some (.cells (qr x m c).toArray 3)/\Below w.heap.size w W)
  (λ i _=>c-(intOf i).toNat)
 case atStart=>exact⟨m0,by omega,by omega,rfl,hg1,hb1⟩
 case round=>
  obtain⟨m,hm,hmp,rfl,hgW,hbW⟩:=hrel;by_cases hlt:m<c
  .have hm1:(0:Int)<=(m:Int):=Int.natCast_nonneg _;have hm2:(m:Int)<=(c:Int):=(by omega);have hcm:¬c=m:=(by omega);obtain⟨W2,hcp2,hg2,hb2⟩:=ajW (W:=wr.drew) (k:=min m (c-m)) (sLen:=m) (dLen:=c-m) (dCap:=c-m) (sCap:=c) (a:=⟨w.heap.size,0,none⟩) (show wr.drew.heap[w.heap.size]? =_ from hgW) (by omega) rfl λj v hj=>by
    have hj0:=(dx.1 hj).1;rw[List.length_replicate]at hj0;rw[List.getElem?_replicate,aY hj0]at hj;have h1:(qr x m c)[j]? =some (.int .i64 x):=(by rw[qr,List.getElem?_append_left (by simp;omega),List.getElem?_replicate,aY (by omega)]);show wr.cell? _=_;rw[<- hj,<- h1];cases j with
    |zero=>simp[World.cell?,Addr.add,hgW]
    |succ j=>simp[World.cell?,Addr.add,hgW]
   have hb2:=hb2 w.heap.size w (show Below w.heap.size w wr.drew from⟨hbW.os,hbW.tape,hbW.output,hbW.size,hbW.block⟩) (aB _);obtain⟨k,hk⟩:∃k,min m (c-m)=k:=⟨_,rfl⟩;rw[hk]at hcp2 hg2
   go_wp2
   go_region_held3 (λ _=>True) (trivial) ((refine aoG (by rfl) _ _ _ _ (by rfl) (by simp[Act.eval]) (by rfl) hcp2 ?_))
   have hw:i64.wrap ((m:Int)+(k:Int))=((m+k:Nat):Int):=(by rw[IntKind.wrap_i64];omega);rw[hw]
   go_wp2
   exact⟨⟨m+k,by omega,by omega,rfl,hg2,hb2⟩,by simp[intOf];omega⟩
  .obtain rfl:m=c:=by omega
   go_wp2
   go_ret
   exact⟨_,rfl,⟨by simp,.inr ⟨w.heap.size,m,_,rfl,aB _,hgW,aB _,by unfold maxLen;omega,by simp[qr],by simp[qr]⟩⟩,hbW⟩
end Go.Proofs
namespace Go.Proofs
open Go.Shelf
def Tryz.lays144_ren:Go.Shelf.Ren:=⟨λ| 144=>54| 143=>83| 219=>114| 217=>165| 225=>166| 224=>167| 267=>168| 266=>208| 314=>209|n=>n,λ| 9=>9| 4=>4| 3=>3| 5=>5| 46=>194| 146=>287| 51=>244|n=>n,λ| 1=>0|n=>n⟩
theorem Tryz.lays144:Go.Proofs.Lays.n144 Tryz.prog Tryz.lays144_ren:={
 mixed:=by kernel_rfl
 f143:=Tryz.func83.trans (congrArg some (by kernel_rfl))
 f144:=Tryz.func54.trans (congrArg some (by kernel_rfl))
 f217:=Tryz.func165.trans (congrArg some (by kernel_rfl))
 f219:=Tryz.func114.trans (congrArg some (by kernel_rfl))
 f224:=Tryz.func167.trans (congrArg some (by kernel_rfl))
 f225:=Tryz.func166.trans (congrArg some (by kernel_rfl))
 f266:=Tryz.func208.trans (congrArg some (by kernel_rfl))
 f267:=Tryz.func168.trans (congrArg some (by kernel_rfl))
 f314:=Tryz.func209.trans (congrArg some (by kernel_rfl))
 t3:=Tryz.underlying3
 a3:=Tryz.isAgg3
 z3:=Tryz.sizeOf3
 v3:=Tryz.zeroValue3
 t4:=Tryz.underlying4
 a4:=Tryz.isAgg4
 z4:=Tryz.sizeOf4
 v4:=Tryz.zeroValue4
 t5:=Tryz.underlying5
 a5:=Tryz.isAgg5
 z5:=Tryz.sizeOf5
 v5:=Tryz.zeroValue5
 t9:=Tryz.underlying9
 a9:=Tryz.isAgg9
 z9:=Tryz.sizeOf9
 v9:=Tryz.zeroValue9
 t46:=Tryz.underlying194
 a46:=Tryz.isAgg194
 z46:=Tryz.sizeOf194
 v46:=Tryz.zeroValue194
 t51:=Tryz.underlying244
 a51:=Tryz.isAgg244
 z51:=Tryz.sizeOf244
 v51:=Tryz.zeroValue244
 t146:=Tryz.underlying287
 a146:=Tryz.isAgg287
 z146:=Tryz.sizeOf287
 v146:=Tryz.zeroValue287
 g1:=by kernel_rfl }
theorem afB(s sub:ByteArray)(m:Int)(w:Δ)(hs:s.size<4294967281)(hm:w.cell? ⟨0,0,none⟩=some (.int .i64 m)):
 Calls Tryz.prog 54 #[.string s,.string sub] w λe w'=>e=.returned (.bool (Lib.contains s.data.toList sub.data.toList))/\w'=w:=Any.strings_Contains Tryz.lays144 s sub m w hs hm
end Go.Proofs
namespace Go.Proofs
open Go.Shelf
def Tryz.so73_ren:Go.Shelf.Ren:=⟨λ| 5=>73| 8=>109| 7=>108| 19=>160| 20=>161| 10=>151| 11=>152| 12=>153| 13=>154| 14=>155| 15=>156| 16=>157| 17=>158| 18=>159| 30=>202| 31=>203| 32=>204| 33=>205| 34=>206| 35=>71| 40=>229|n=>n,λ| 23=>25| 25=>3| 3=>3| 32=>194| 22=>25| 0=>0| 44=>244| 46=>246| 4=>4| 36=>237| 35=>236| 41=>203| 5=>5| 9=>9| 53=>280| 57=>284| 63=>306| 64=>277|n=>n,λ|n=>n⟩
theorem Tryz.so73:Go.Proofs.SlLaysM.n5 Tryz.prog Tryz.so73_ren:={
 mixed:=by kernel_rfl
 f5:=⟨Tryz.f73.name,by decide,Tryz.func73.trans (congrArg some (by kernel_rfl))⟩
 f7:=⟨Tryz.f108.name,by decide,Tryz.func108.trans (congrArg some (by kernel_rfl))⟩
 f8:=Tryz.func109.trans (congrArg some (by kernel_rfl))
 f10:=⟨Tryz.f151.name,by decide,Tryz.func151.trans (congrArg some (by kernel_rfl))⟩
 f11:=⟨Tryz.f152.name,by decide,Tryz.func152.trans (congrArg some (by kernel_rfl))⟩
 f12:=⟨Tryz.f153.name,by decide,Tryz.func153.trans (congrArg some (by kernel_rfl))⟩
 f13:=⟨Tryz.f154.name,by decide,Tryz.func154.trans (congrArg some (by kernel_rfl))⟩
 f14:=⟨Tryz.f155.name,by decide,Tryz.func155.trans (congrArg some (by kernel_rfl))⟩
 f15:=⟨Tryz.f156.name,by decide,Tryz.func156.trans (congrArg some (by kernel_rfl))⟩
 f16:=⟨Tryz.f157.name,by decide,Tryz.func157.trans (congrArg some (by kernel_rfl))⟩
 f17:=⟨Tryz.f158.name,by decide,Tryz.func158.trans (congrArg some (by kernel_rfl))⟩
 f18:=⟨Tryz.f159.name,by decide,Tryz.func159.trans (congrArg some (by kernel_rfl))⟩
 f19:=Tryz.func160.trans (congrArg some (by kernel_rfl))
 f20:=Tryz.func161.trans (congrArg some (by kernel_rfl))
 f30:=⟨Tryz.f202.name,by decide,Tryz.func202.trans (congrArg some (by kernel_rfl))⟩
 f31:=Tryz.func203.trans (congrArg some (by kernel_rfl))
 f32:=Tryz.func204.trans (congrArg some (by kernel_rfl))
 f33:=⟨Tryz.f205.name,by decide,Tryz.func205.trans (congrArg some (by kernel_rfl))⟩
 f34:=⟨Tryz.f206.name,by decide,Tryz.func206.trans (congrArg some (by kernel_rfl))⟩
 f35:=⟨Tryz.f71.name,by decide,Tryz.func71.trans (congrArg some (by kernel_rfl))⟩
 f40:=⟨Tryz.f229.name,by decide,Tryz.func229.trans (congrArg some (by kernel_rfl))⟩
 t0:=Tryz.underlying0
 a0:=Tryz.isAgg0
 z0:=Tryz.sizeOf0
 v0:=Tryz.zeroValue0
 t3:=Tryz.underlying3
 a3:=Tryz.isAgg3
 z3:=Tryz.sizeOf3
 v3:=Tryz.zeroValue3
 t4:=Tryz.underlying4
 a4:=Tryz.isAgg4
 z4:=Tryz.sizeOf4
 v4:=Tryz.zeroValue4
 t5:=Tryz.underlying5
 a5:=Tryz.isAgg5
 z5:=Tryz.sizeOf5
 v5:=Tryz.zeroValue5
 t9:=Tryz.underlying9
 a9:=Tryz.isAgg9
 z9:=Tryz.sizeOf9
 v9:=Tryz.zeroValue9
 t22:=Tryz.underlying25
 a22:=Tryz.isAgg25
 z22:=Tryz.sizeOf25
 v22:=Tryz.zeroValue25
 t23:=Tryz.underlying25
 a23:=Tryz.isAgg25
 z23:=Tryz.sizeOf25
 v23:=Tryz.zeroValue25
 t25:=Tryz.underlying3
 a25:=Tryz.isAgg3
 z25:=Tryz.sizeOf3
 v25:=Tryz.zeroValue3
 t32:=Tryz.underlying194
 a32:=Tryz.isAgg194
 z32:=Tryz.sizeOf194
 v32:=Tryz.zeroValue194
 t35:=Tryz.underlying236
 a35:=Tryz.isAgg236
 z35:=Tryz.sizeOf236
 v35:=Tryz.zeroValue236
 t36:=Tryz.underlying237
 a36:=Tryz.isAgg237
 z36:=Tryz.sizeOf237
 v36:=Tryz.zeroValue237
 t41:=Tryz.underlying203
 a41:=Tryz.isAgg203
 z41:=Tryz.sizeOf203
 v41:=Tryz.zeroValue203
 t44:=Tryz.underlying244
 a44:=Tryz.isAgg244
 z44:=Tryz.sizeOf244
 v44:=Tryz.zeroValue244
 t46:=Tryz.underlying246
 a46:=Tryz.isAgg246
 z46:=Tryz.sizeOf246
 v46:=Tryz.zeroValue246
 t53:=Tryz.underlying280
 a53:=Tryz.isAgg280
 z53:=Tryz.sizeOf280
 v53:=Tryz.zeroValue280
 t57:=Tryz.underlying284
 a57:=Tryz.isAgg284
 z57:=Tryz.sizeOf284
 v57:=Tryz.zeroValue284
 t63:=Tryz.underlying306
 a63:=Tryz.isAgg306
 z63:=Tryz.sizeOf306
 v63:=Tryz.zeroValue306
 t64:=Tryz.underlying277
 a64:=Tryz.isAgg277
 z64:=Tryz.sizeOf277
 v64:=Tryz.zeroValue277 }
def Tryz.so163_ren:Go.Shelf.Ren:=⟨λ| 6=>163| 15=>109| 14=>207| 28=>160| 29=>161| 20=>230| 21=>231| 22=>232| 23=>233| 24=>234| 25=>235| 26=>236| 27=>237| 46=>255| 47=>203| 48=>204| 49=>256| 50=>257| 57=>270|n=>n,λ| 22=>169| 24=>197| 25=>249| 3=>3| 39=>194| 0=>0| 53=>244| 55=>246| 4=>4| 46=>237| 45=>236| 50=>203| 5=>5| 9=>9| 66=>280| 70=>284| 76=>306| 77=>277|n=>n,λ|n=>n⟩
theorem Tryz.so163:Go.Proofs.SlLaysF0.n6 Tryz.prog Tryz.so163_ren:={
 mixed:=by kernel_rfl
 f6:=⟨Tryz.f163.name,by decide,Tryz.func163.trans (congrArg some (by kernel_rfl))⟩
 f14:=⟨Tryz.f207.name,by decide,Tryz.func207.trans (congrArg some (by kernel_rfl))⟩
 f15:=Tryz.func109.trans (congrArg some (by kernel_rfl))
 f20:=⟨Tryz.f230.name,by decide,Tryz.func230.trans (congrArg some (by kernel_rfl))⟩
 f21:=⟨Tryz.f231.name,by decide,Tryz.func231.trans (congrArg some (by kernel_rfl))⟩
 f22:=⟨Tryz.f232.name,by decide,Tryz.func232.trans (congrArg some (by kernel_rfl))⟩
 f23:=⟨Tryz.f233.name,by decide,Tryz.func233.trans (congrArg some (by kernel_rfl))⟩
 f24:=⟨Tryz.f234.name,by decide,Tryz.func234.trans (congrArg some (by kernel_rfl))⟩
 f25:=⟨Tryz.f235.name,by decide,Tryz.func235.trans (congrArg some (by kernel_rfl))⟩
 f26:=⟨Tryz.f236.name,by decide,Tryz.func236.trans (congrArg some (by kernel_rfl))⟩
 f27:=⟨Tryz.f237.name,by decide,Tryz.func237.trans (congrArg some (by kernel_rfl))⟩
 f28:=Tryz.func160.trans (congrArg some (by kernel_rfl))
 f29:=Tryz.func161.trans (congrArg some (by kernel_rfl))
 f46:=⟨Tryz.f255.name,by decide,Tryz.func255.trans (congrArg some (by kernel_rfl))⟩
 f47:=Tryz.func203.trans (congrArg some (by kernel_rfl))
 f48:=Tryz.func204.trans (congrArg some (by kernel_rfl))
 f49:=⟨Tryz.f256.name,by decide,Tryz.func256.trans (congrArg some (by kernel_rfl))⟩
 f50:=⟨Tryz.f257.name,by decide,Tryz.func257.trans (congrArg some (by kernel_rfl))⟩
 f57:=⟨Tryz.f270.name,by decide,Tryz.func270.trans (congrArg some (by kernel_rfl))⟩
 t0:=Tryz.underlying0
 a0:=Tryz.isAgg0
 z0:=Tryz.sizeOf0
 v0:=Tryz.zeroValue0
 t3:=Tryz.underlying3
 a3:=Tryz.isAgg3
 z3:=Tryz.sizeOf3
 v3:=Tryz.zeroValue3
 t4:=Tryz.underlying4
 a4:=Tryz.isAgg4
 z4:=Tryz.sizeOf4
 v4:=Tryz.zeroValue4
 t5:=Tryz.underlying5
 a5:=Tryz.isAgg5
 z5:=Tryz.sizeOf5
 v5:=Tryz.zeroValue5
 t9:=Tryz.underlying9
 a9:=Tryz.isAgg9
 z9:=Tryz.sizeOf9
 v9:=Tryz.zeroValue9
 t22:=Tryz.underlying169
 a22:=Tryz.isAgg169
 z22:=Tryz.sizeOf169
 v22:=Tryz.zeroValue169
 t25:=Tryz.underlying249
 a25:=Tryz.isAgg249
 z25:=Tryz.sizeOf249
 v25:=Tryz.zeroValue249
 t39:=Tryz.underlying194
 a39:=Tryz.isAgg194
 z39:=Tryz.sizeOf194
 v39:=Tryz.zeroValue194
 t45:=Tryz.underlying236
 a45:=Tryz.isAgg236
 z45:=Tryz.sizeOf236
 v45:=Tryz.zeroValue236
 t46:=Tryz.underlying237
 a46:=Tryz.isAgg237
 z46:=Tryz.sizeOf237
 v46:=Tryz.zeroValue237
 t50:=Tryz.underlying203
 a50:=Tryz.isAgg203
 z50:=Tryz.sizeOf203
 v50:=Tryz.zeroValue203
 t53:=Tryz.underlying244
 a53:=Tryz.isAgg244
 z53:=Tryz.sizeOf244
 v53:=Tryz.zeroValue244
 t55:=Tryz.underlying246
 a55:=Tryz.isAgg246
 z55:=Tryz.sizeOf246
 v55:=Tryz.zeroValue246
 t66:=Tryz.underlying280
 a66:=Tryz.isAgg280
 z66:=Tryz.sizeOf280
 v66:=Tryz.zeroValue280
 t70:=Tryz.underlying284
 a70:=Tryz.isAgg284
 z70:=Tryz.sizeOf284
 v70:=Tryz.zeroValue284
 t76:=Tryz.underlying306
 a76:=Tryz.isAgg306
 z76:=Tryz.sizeOf306
 v76:=Tryz.zeroValue306
 t77:=Tryz.underlying277
 a77:=Tryz.isAgg277
 z77:=Tryz.sizeOf277
 v77:=Tryz.zeroValue277 }
def Tryz.so183_ren:Go.Shelf.Ren:=⟨λ| 6=>183| 15=>109| 14=>222| 28=>160| 29=>161| 20=>246| 21=>247| 22=>248| 23=>249| 24=>250| 25=>251| 26=>252| 27=>253| 46=>267| 47=>203| 48=>204| 49=>268| 50=>269| 57=>278|n=>n,λ| 22=>71| 24=>65| 25=>231| 3=>3| 39=>194| 0=>0| 53=>244| 55=>246| 4=>4| 46=>237| 45=>236| 50=>203| 5=>5| 9=>9| 66=>280| 70=>284| 76=>306| 77=>277|n=>n,λ|n=>n⟩
theorem Tryz.so183:Go.Proofs.SlLaysF0.n6 Tryz.prog Tryz.so183_ren:={
 mixed:=by kernel_rfl
 f6:=⟨Tryz.f183.name,by decide,Tryz.func183.trans (congrArg some (by kernel_rfl))⟩
 f14:=⟨Tryz.f222.name,by decide,Tryz.func222.trans (congrArg some (by kernel_rfl))⟩
 f15:=Tryz.func109.trans (congrArg some (by kernel_rfl))
 f20:=⟨Tryz.f246.name,by decide,Tryz.func246.trans (congrArg some (by kernel_rfl))⟩
 f21:=⟨Tryz.f247.name,by decide,Tryz.func247.trans (congrArg some (by kernel_rfl))⟩
 f22:=⟨Tryz.f248.name,by decide,Tryz.func248.trans (congrArg some (by kernel_rfl))⟩
 f23:=⟨Tryz.f249.name,by decide,Tryz.func249.trans (congrArg some (by kernel_rfl))⟩
 f24:=⟨Tryz.f250.name,by decide,Tryz.func250.trans (congrArg some (by kernel_rfl))⟩
 f25:=⟨Tryz.f251.name,by decide,Tryz.func251.trans (congrArg some (by kernel_rfl))⟩
 f26:=⟨Tryz.f252.name,by decide,Tryz.func252.trans (congrArg some (by kernel_rfl))⟩
 f27:=⟨Tryz.f253.name,by decide,Tryz.func253.trans (congrArg some (by kernel_rfl))⟩
 f28:=Tryz.func160.trans (congrArg some (by kernel_rfl))
 f29:=Tryz.func161.trans (congrArg some (by kernel_rfl))
 f46:=⟨Tryz.f267.name,by decide,Tryz.func267.trans (congrArg some (by kernel_rfl))⟩
 f47:=Tryz.func203.trans (congrArg some (by kernel_rfl))
 f48:=Tryz.func204.trans (congrArg some (by kernel_rfl))
 f49:=⟨Tryz.f268.name,by decide,Tryz.func268.trans (congrArg some (by kernel_rfl))⟩
 f50:=⟨Tryz.f269.name,by decide,Tryz.func269.trans (congrArg some (by kernel_rfl))⟩
 f57:=⟨Tryz.f278.name,by decide,Tryz.func278.trans (congrArg some (by kernel_rfl))⟩
 t0:=Tryz.underlying0
 a0:=Tryz.isAgg0
 z0:=Tryz.sizeOf0
 v0:=Tryz.zeroValue0
 t3:=Tryz.underlying3
 a3:=Tryz.isAgg3
 z3:=Tryz.sizeOf3
 v3:=Tryz.zeroValue3
 t4:=Tryz.underlying4
 a4:=Tryz.isAgg4
 z4:=Tryz.sizeOf4
 v4:=Tryz.zeroValue4
 t5:=Tryz.underlying5
 a5:=Tryz.isAgg5
 z5:=Tryz.sizeOf5
 v5:=Tryz.zeroValue5
 t9:=Tryz.underlying9
 a9:=Tryz.isAgg9
 z9:=Tryz.sizeOf9
 v9:=Tryz.zeroValue9
 t22:=Tryz.underlying71
 a22:=Tryz.isAgg71
 z22:=Tryz.sizeOf71
 v22:=Tryz.zeroValue71
 t25:=Tryz.underlying231
 a25:=Tryz.isAgg231
 z25:=Tryz.sizeOf231
 v25:=Tryz.zeroValue231
 t39:=Tryz.underlying194
 a39:=Tryz.isAgg194
 z39:=Tryz.sizeOf194
 v39:=Tryz.zeroValue194
 t45:=Tryz.underlying236
 a45:=Tryz.isAgg236
 z45:=Tryz.sizeOf236
 v45:=Tryz.zeroValue236
 t46:=Tryz.underlying237
 a46:=Tryz.isAgg237
 z46:=Tryz.sizeOf237
 v46:=Tryz.zeroValue237
 t50:=Tryz.underlying203
 a50:=Tryz.isAgg203
 z50:=Tryz.sizeOf203
 v50:=Tryz.zeroValue203
 t53:=Tryz.underlying244
 a53:=Tryz.isAgg244
 z53:=Tryz.sizeOf244
 v53:=Tryz.zeroValue244
 t55:=Tryz.underlying246
 a55:=Tryz.isAgg246
 z55:=Tryz.sizeOf246
 v55:=Tryz.zeroValue246
 t66:=Tryz.underlying280
 a66:=Tryz.isAgg280
 z66:=Tryz.sizeOf280
 v66:=Tryz.zeroValue280
 t70:=Tryz.underlying284
 a70:=Tryz.isAgg284
 z70:=Tryz.sizeOf284
 v70:=Tryz.zeroValue284
 t76:=Tryz.underlying306
 a76:=Tryz.isAgg306
 z76:=Tryz.sizeOf306
 v76:=Tryz.zeroValue306
 t77:=Tryz.underlying277
 a77:=Tryz.isAgg277
 z77:=Tryz.sizeOf277
 v77:=Tryz.zeroValue277 }
end Go.Proofs
