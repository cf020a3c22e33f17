import Derived.Test.YtnclkjejgffdmacGreatL1
import Derived.Maps.Own
import Derived.RangeFuncOwn
import Derived.Deep.WholeRow
import Derived.WalkKit
import Derived.Maps.Views
import Derived.Sort.KeysCollected
import Derived.Maps.AppendAt
import Derived.Maps.RangeWalk
import Derived.Maps.OwnSet
import Derived.Deep.RegionHeld3
import Derived.Deep.AppendLies
import Derived.Deep.RegionLaw
import Derived.Deep.DrawnRows
import Derived.Lib.IndexMore
import Derived.CallsIn
import Derived.Sort.Grow
import Derived.Shelf.SortM.Plain
import Derived.Shelf.SlSortCmp.SmallK
import Derived.Shelf.SortM.SortNone
import Derived.Shelf.SlSortCmp.WholeK
import Derived.Shelf.SlSortCmp.NoneTotal
import Derived.Sort.WalkA14
import Derived.RangeFuncNested
import Derived.RangeFuncBound
import Derived.RangeFuncLeaves
import Derived.Shelf.Abstract
import Derived.OwnWalkIn
import Derived.TacticsInMore
import Derived.LoopNIn
import Derived.LoopIn
import Derived.Shelf.SlIter.Nil
import Derived.Ground.GgzProg
import Derived.Ground.SlgmProg
import Derived.Test.YtnclkjejgffdmacGreatChecked
import Derived.Maps.OwnIn
import Derived.Shelf.Bits.Mul64
import Derived.Laws.CopyOwn
import Derived.Shelf.Strings.Search3
import Derived.Ground.NamesProg
import Derived.Ground.SlsfProg
open Go.IntKind (i64)
open List (mem_map all_eq_true getElem_mem cons_append length_map length_nil map_map eq_nil_of_length_eq_zero)
namespace Go.Proofs
open Go.RowKit Go.Maps Go.Sort
attribute [local go_sem] Oper.semAt_some
inductive ET where
 |mk (op:Int) (s:ByteArray) (args:List ET)
mutual
def ET.names:ET->List ByteArray
 |.mk op s args=>(if op=1 then [s]else [])++ET.ey args
def ET.ey:List ET->List ByteArray
 |[]=>[]
 |t::ts=>t.names++ET.ey ts
end
section
variable (n0:Nat) (W:World)
mutual
def oa:ET->List Value->Prop
 |.mk op s args,vs=>∃n key sl,(vs=[.int .i64 op,.int .i64 n,.string s,.string key,sl]/\args.length<=4611686018427387904/\s.size<=maxLen)/\((args=[]/\∃a cap,sl=.slice a 0 cap)\/∃b aa cap,sl=.slice (some ⟨b,aa,none⟩) args.length cap/\b<n0/\i7 args b aa)
def i7:List ET->Nat->Nat->Prop
 |[],_,_=>True
 |t::ts,b,aa=>(∃ vs:List Value,(∀ j v,vs[j]? =some v->W.cell? ⟨b,aa+j,none⟩=some v)/\oa t vs)/\i7 ts b (aa+5)
end
end
mutual
theorem oa.below{n0:Nat}{A B:World}(h:Below n0 A B):∀(t:ET)(vs:List Value),oa n0 A t vs->oa n0 B t vs
 |.mk op s args,vs,ha=>by obtain⟨n,key,sl,h1,h2⟩:=ha;refine⟨n,key,sl,h1,h2.imp id ?_⟩;rintro⟨b,aa,cap,e,hb,hs⟩;exact⟨b,aa,cap,e,hb,i7.below h args b aa hb hs⟩
theorem i7.below{n0:Nat}{A B:World}(h:Below n0 A B):∀(ts:List ET)(b aa:Nat),b<n0->i7 n0 A ts b aa->i7 n0 B ts b aa
 |[],_,_,_,_=>by simp[i7]
 |t::ts,b,aa,hb,hs=>by obtain⟨⟨vs,h1,h2⟩,h3⟩:=hs;exact⟨⟨vs,λj v hj=>(h.cell (p:=⟨b,aa+j,none⟩) hb).trans (h1 j v hj),oa.below h t vs h2⟩,i7.below h ts b (aa+5) hb h3⟩
end
theorem oa.below'{n0:Nat}{A B:M}{t:ET}{vs:Y Value}(ha:oa n0 A t vs)(h:Below n0 A B):oa n0 B t vs:=oa.below h t vs ha
theorem i7.get{n0:Nat}{W:M}:∀{ts:Y ET}{b aa i:Nat}{t:ET},i7 n0 W ts b aa->ts[i]? =some t->∃vs:Y Value,(∀ j v,vs[j]? =some v->W.cell? ⟨b,aa+i*5+j,none⟩=some v)/\oa n0 W t vs
 |t::ts,b,aa,0,t',h,hi=>by simp at hi;subst hi;simpa using h.1
 |t::ts,b,aa,i+1,t',h,hi=>by obtain⟨vs,h1,h2⟩:=i7.get h.2 (by simpa using hi);exact⟨vs,λj v hj=>by rw[show aa+(i+1)*5+j=aa+5+i*5+j by omega];exact h1 j v hj,h2⟩
mutual
theorem oa.mono{n0 n1:Nat}{W:World}(hn:n0<=n1):∀(t:ET)(vs:List Value),oa n0 W t vs->oa n1 W t vs
 |.mk op s args,vs,ha=>by obtain⟨n,key,sl,h1,h2⟩:=ha;refine⟨n,key,sl,h1,h2.imp id ?_⟩;rintro⟨b,aa,cap,e,hb,hs⟩;exact⟨b,aa,cap,e,by omega,i7.mono hn args b aa hs⟩
theorem i7.mono{n0 n1:Nat}{W:World}(hn:n0<=n1):∀(ts:List ET)(b aa:Nat),i7 n0 W ts b aa->i7 n1 W ts b aa
 |[],_,_,_=>by simp[i7]
 |t::ts,b,aa,hs=>by obtain⟨⟨vs,h1,h2⟩,h3⟩:=hs;exact⟨⟨vs,h1,oa.mono hn t vs h2⟩,i7.mono hn ts b (aa+5) h3⟩
end
theorem ET.pc(ts:Y ET)(i:Nat){t:ET}(h:ts[i]? =some t):ET.ey (ts.take (i+1))=ET.ey (ts.take i)++t.names:=by
 induction ts generalizing i with
 |nil=>simp at h
 |cons x xs ih=>
  cases i with
  |zero=>simp at h;subst h;simp[ET.ey]
  |succ i=>simp[ET.ey,ih i (by simpa using h)]
theorem ET.wj(ts:Y ET)(i:Nat):(ET.ey (ts.take i)).length<=(ET.ey ts).length:=by
 induction ts generalizing i with
 |nil=>simp
 |cons x xs ih=>cases i with
  |zero=>simp[ET.ey]
  |succ i=>simp[ET.ey];have:=ih i;omega
theorem ET.sE{op:Int}{s:ByteArray}{args:Y ET}{i:Nat}{t:ET}{x:ByteArray}(h:args[i]? =some t)(hx:x∈t.names):x∈(ET.mk op s args).names:=by
 simp[ET.names];refine .inr ?_
 induction args generalizing i with
 |nil=>simp at h
 |cons y ys ih=>
  simp[ET.ey];cases i with
  |zero=>simp at h;subst h;exact .inl hx
  |succ i=>exact .inr (ih (by simpa using h))
abbrev K0(l:Y ByteArray):Y Lit:=l.map λs=>.string s.data.toList
def yA(l:Y ByteArray):DataW Unit:=setOf (.lit (.bool true)) (K0 l)
theorem afP(l:Y ByteArray)(s:ByteArray):yA (l++[s])=(yA l).put (.string s.data.toList) (.lit (.bool true)):=by simp[yA,setOf]
theorem adF(l:Y ByteArray):∀x∈K0 l,WideAt.IsKeyLit x:=by intro x hx;obtain⟨s,_,rfl⟩:=mem_map.1 hx;trivial
theorem ace:∀(xs L:Y Lit),(xs.foldl addKey L).length<=L.length+xs.length
 |[],L=>by simp
 |x::xs,L=>by
  have h:=ace xs (addKey L x);have h2:(addKey L x).length<=L.length+1:=by unfold addKey;split<;>simp
  simp;omega
theorem afQ(l:Y ByteArray):Maps.size (yA l)<=l.length:=by rw[yA,size_setOf _ _ (adF l)];simpa using ace (K0 l) []
def tW(l:Y (List UInt8)):Y (List UInt8):=l.foldr (λ x a=>if x∈a then a else x::a) []
theorem VP(x:Y UInt8):∀l,x∈tW l↔x∈l
 |[]=>by simp[tW]
 |y::l=>by have h:=VP x l;show x∈(if y∈tW l then tW l else y::tW l)↔_;split;rename_i hy;rw[aI,h];exact⟨.inr,λe=>e.elim (λ e=>by rw[e];exact(VP y l).1 hy) id⟩;rw[aI,aI,h]
theorem Ra:∀l,(tW l).Nodup
 |[]=>List.nodup_nil
 |y::l=>by show(if y∈tW l then tW l else y::tW l).Nodup;split;exact Ra l;rename_i hy;exact List.nodup_cons.2 ⟨hy,Ra l⟩
def xQ(l:Y ByteArray):Y (List UInt8):=(tW (l.map (·.data.toList))).mergeSort leB
theorem anl:∀l,(tW l).length<=l.length
 |[]=>by simp[tW]
 |y::l=>by have:=anl l;show(if y∈tW l then tW l else y::tW l).length<=_;split<;>simp<;>omega
theorem afR(l:Y ByteArray):(xQ l).length<=l.length:=by rw[xQ];simpa using anl (l.map (·.data.toList))
theorem anm{l:Y ByteArray}{s:Y UInt8}(h:s∈xQ l):∃x∈l,s=x.data.toList:=by rw[xQ,List.mem_mergeSort,VP]at h;obtain⟨x,hx,rfl⟩:=mem_map.1 h;exact⟨x,hx,rfl⟩
theorem aiu(l:Y ByteArray){es:Y (Lit×DataW Unit)}(e:yA l=.map es)(hk:∀p∈es,∃x,p.1=.string x):(tW (l.map (·.data.toList))).Perm (strKeys (yA l)):=by
 have ht:=tidy_setOf (H:=Unit) (.lit (.bool true)) (K0 l) (adF l);have hh:=λk=>has_setOf (H:=Unit) (.lit (.bool true)) k (K0 l) (adF l);obtain⟨es',e',hp⟩:=ht;obtain rfl:es=es':=by have:=e.symm.trans e';injection this
 rw[e];refine perm_strKeys hp hk (Ra _) λx=>?_;rw[<- e,yA,hh,VP];constructor;intro h;obtain⟨z,hz,rfl⟩:=mem_map.1 h;exact List.any_eq_true.2 ⟨_,mem_map.2 ⟨z,hz,rfl⟩,WideAt.sameKey_self trivial⟩;intro h;obtain⟨y,hy,hs⟩:=List.any_eq_true.1 h;obtain⟨z,hz,rfl⟩:=mem_map.1 hy;have:=WideAt.sameKey_eq hs;injection this with this;exact mem_map.2 ⟨z,hz,this⟩
mutual
theorem oa.gS{n0:Nat}{W:World}:∀(t:ET)(vs:List Value),oa n0 W t vs->∀x∈t.names,x.size<=maxLen
 |.mk op s args,vs,h,x,hx=>by obtain⟨n,key,sl,⟨_,_,hs⟩,h2⟩:=h;simp only[ET.names,bI]at hx;rcases hx with hx|hx;split at hx;rw[bC]at hx;rw[hx];exact hs;cases hx;rcases h2 with ⟨rfl,_⟩|⟨b,aa,cap,_,_,h3⟩;simp[ET.ey]at hx;exact i7.gS args b aa h3 x hx
theorem i7.gS{n0:Nat}{W:World}:∀(ts:List ET)(b aa:Nat),i7 n0 W ts b aa->∀x∈ET.ey ts,x.size<=maxLen
 |[],_,_,_,x,hx=>by simp[ET.ey]at hx
 |t::ts,b,aa,h,x,hx=>by obtain⟨⟨vs,_,h1⟩,h2⟩:=h;simp[ET.ey]at hx;exact hx.elim (oa.gS t vs h1 x) (i7.gS ts b (aa+5) h2 x)
end
mutual
def ET.wt:ET->Nat
 |.mk _ s args=>1+s.size+ET.u9 args
def ET.u9:List ET->Nat
 |[]=>0
 |t::ts=>t.wt+ET.u9 ts
end
mutual
theorem ET.qk:∀t:ET,t.names.length<=t.wt
 |.mk op s args=>by have:=ET.sd args;simp[ET.names,ET.wt];split<;>simp<;>omega
theorem ET.sd:∀ts:List ET,(ET.ey ts).length<=ET.u9 ts
 |[]=>by simp[ET.ey]
 |t::ts=>by have h1:=ET.qk t;have h2:=ET.sd ts;simp[ET.ey,ET.u9];omega
end
theorem ET.sX:∀ts:Y ET,ts.length<=ET.u9 ts
 |[]=>aB _
 |t::ts=>by
  have:=ET.sX ts;have h:1<=t.wt:=by cases t;simp[ET.wt];omega
  simp[ET.u9];omega
theorem bW(P:Q)(W:M)(c:Array Value)(t:E)(j:Nat)(u:Ω)(hj:j<c.size)(h1:u.oneCell'=true):
 (store ⟨W.heap.size,j,none⟩ u).run P (W.alloc (.cells c t))=.ok () (W.alloc (.cells (c.set j u) t)):=by have hn:=World.alloc_heap_new W (.cells c t);rw[run_store _ _ _ _ _ h1];have hr:=World.setRow_alloc_new W c (c.set j u) t;simp only[World.cell?,World.frozen?,hn,Array.getElem?_eq_getElem hj];simp[<- hr];simp only[World.setCell,World.setRow,World.alloc];congr 1;apply Array.ext_getElem?;intro i;rw[Array.getElem?_modify,Array.getElem?_modify];by_cases h:W.heap.size=i;subst h;simp[Array.setIfInBounds,hj];simp[h]
end Go.Proofs
namespace Go.Gb
open Go.RowKit Go.Proofs
mutual
def tI:ET->List Tree->Prop
 |.mk op s args,r=>∃n key rows,r=[.sc (.int .i64 op),.sc (.int .i64 n),.sc (.string s),.sc (.string key),.sl rows]/\s.size<=maxLen/\args.length<=4611686018427387904/\pn args rows
def pn:List ET->List (List Tree)->Prop
 |[],rows=>rows=[]
 |t::ts,rows=>∃r rs,rows=r::rs/\tI t r/\pn ts rs
end
theorem pn.len:∀{ts:Y ET}{rows:Y (List Tree)},pn ts rows->rows.length=ts.length
 |[],rows,h=>by subst h;rfl
 |t::ts,rows,h=>by obtain⟨r,rs,rfl,_,h⟩:=h;simp[h.len]
theorem tI.len{t:ET}{r:Y Tree}(h:tI t r):r.length=5:=by cases t;obtain⟨_,_,_,rfl,_⟩:=h;rfl
theorem Fv{w:M}{I:Ψ}:∀{r:Y Tree}{b aa:Nat},eL w I r b aa->∃vs:Y Value,fy w I r vs/\∀j v,vs[j]? =some v->w.cell? ⟨b,aa+j,none⟩=some v
 |[],b,aa,_=>⟨[],trivial,λj v h=>by simp at h⟩
 |x::xs,b,aa,h=>by
  obtain⟨⟨c,hc,hx⟩,h2⟩:=h;obtain⟨vs,h3,h4⟩:=Fv h2;refine⟨c::vs,⟨hx,h3⟩,λj v hj=>?_⟩;cases j with
  |zero=>simp at hj;subst hj;exact hc
  |succ j=>have:=h4 j v (by simpa using hj);rw[<- this];congr 2;omega
mutual
theorem ano{w:World}{I:Nat->Prop}{n0:Nat}(hI:∀b,I b->b<n0):∀(t:ET)(r:List Tree)(vs:List Value),tI t r->fy w I r vs->oa n0 w t vs
 |.mk op s args,r,vs,h,hv=>by
  obtain⟨n,key,rows,rfl,hs,hl,h⟩:=h
  match vs,hv with
  |[a,b,c,d,e],hv=>
   obtain⟨⟨rfl,_⟩,⟨rfl,_⟩,⟨rfl,_⟩,⟨rfl,_⟩,he,_⟩:=hv;refine⟨n,key,e,⟨rfl,hl,hs⟩,?_⟩;have hlen:=h.len;rcases he with ⟨rfl,a,cap,rfl,_⟩|⟨b,aa,cap,sz,rfl,_,hb,hr⟩;exact .inl ⟨eq_nil_of_length_eq_zero hlen.symm,_,_,rfl⟩;exact .inr ⟨b,aa,cap,by rw[hlen],hI b hb,aj8 hI args rows b aa sz h hr⟩
theorem aj8{w:World}{I:Nat->Prop}{n0:Nat}(hI:∀b,I b->b<n0):∀(ts:List ET)(rows:List (List Tree))(b aa sz:Nat),pn ts rows->cR w I rows b aa sz->i7 n0 w ts b aa
 |[],_,_,_,_,_,_=>by simp[i7]
 |t::ts,rows,b,aa,sz,h,hr=>by obtain⟨r,rs,rfl,h1,h2⟩:=h;obtain⟨rfl,h3,h4⟩:=hr;obtain⟨vs,h5,h6⟩:=Fv h3;rw[h1.len]at h4;exact⟨⟨vs,h6,ano hI t r vs h1 h5⟩,aj8 hI ts rs b (aa+5) 5 h2 h4⟩
end
theorem alo{P:Q}{α:Type}{enc:α->Value}(h1:∀x,oneCell (enc x)){Θ:E}{w w':M}{G:ζ}{I:Ψ}{l:Y α}{v:Ω}(hlt:∀b,I b->b<w.heap.size)
 (hown:w'.ownsRow w.heap.size Θ 1 v l.length (l.map enc)):Wf P (C4 w G []) 1 (l.map λs=>[.sc (enc s)]) w' I v:=by rcases hown.2 with ⟨rfl,h0⟩|⟨g,cap,cur,rfl,hg,hgb,hle,_,hcs,htk⟩;exact .inl ⟨by rw[eq_nil_of_length_eq_zero h0];rfl,rfl⟩;refine .inr ⟨g,cur,Θ,cap,0,0,by simp,⟨.inr hg,λk o hk=>by simp[Dr]at hk⟩,λhi=>absurd (hlt g hi) (by omega),hgb,by simpa using hle,by omega,?_,λ_=>rfl⟩;rw[pW];intro i x hx;simp[aJ]at hx;obtain⟨s,hs',rfl⟩:=hx;refine⟨rfl,?_⟩;have hi:i<l.length:=(bU.1 hs').1;have:=congrArg (λ q=>q[i]?) htk;simp only[List.getElem?_take,List.getElem?_map,hs',Option.map_some]at this;rw[aP (by omega)]at this;exact⟨⟨_,by simpa using this,⟨rfl,h1 s⟩,h1 s⟩,trivial⟩
end Go.Gb
namespace Go.Proofs
open Go.RowKit Go.Maps
def WD(n0:Nat)(W:M)(d:ByteArray×ET)(vs:Y Value):Prop:=∃v0 v1 v2 v3 v4,vs=[.string d.1,v0,v1,v2,v3,v4]/\d.1.size<=maxLen/\oa n0 W d.2 [v0,v1,v2,v3,v4]
def Jx(n0:Nat)(W:M)(ds:Y (ByteArray×ET))(sv:Ω):Prop:=
 (ds=[]/\∃a cap,sv=.slice a 0 cap)\/∃b aa cap,sv=.slice (some ⟨b,aa,none⟩) ds.length cap/\b<n0/\∀j d,ds[j]? =some d->∃vs:Y Value,(∀ k v,vs[k]? =some v->W.cell? ⟨b,aa+j*6+k,none⟩=some v)/\WD n0 W d vs
theorem Jx.below{n0:Nat}{A B:M}{ds:Y (ByteArray×ET)}{sv:Ω}(hd:Jx n0 A ds sv)(h:Below n0 A B):Jx n0 B ds sv:=by refine hd.imp id ?_;rintro⟨b,aa,cap,rfl,hb,hr⟩;refine⟨b,aa,cap,rfl,hb,λj d hj=>?_⟩;obtain⟨vs,h1,v0,v1,v2,v3,v4,rfl,h2,h3⟩:=hr j d hj;exact⟨_,λk v hk=>(h.cell (p:=⟨b,aa+j*6+k,none⟩) hb).trans (h1 k v hk),v0,v1,v2,v3,v4,rfl,h2,h3.below' h⟩
def OJ(ds:Y (ByteArray×ET))(s:Y UInt8):Nat->J Int
 | 0=>none
 |k+1=>if (ds.getD k (⟨#[]⟩,.mk 0 ⟨#[]⟩ [])).1.data.toList=s then some k else OJ ds s k
def iF(ds:Y (ByteArray×ET))(l:Y (List UInt8)):Y Int:=l.filterMap λs=>OJ ds s ds.length
abbrev Ya(l:Y Int):Y Value:=l.map (Value.int .i64)
def qh(ds:Y (ByteArray×ET)):Y (List Int):=ds.map λd=>iF ds (xQ d.2.names)
def tm(ds:Y (ByteArray×ET)):Nat:=ds.foldr (λ d n=>1+d.1.size+d.2.wt+n) 0
theorem VQ:∀ds:Y (ByteArray×ET),ds.length<=tm ds
 |[]=>aB _
 |d::ds=>by have:=VQ ds;simp[tm]at this |-;omega
theorem VU:∀{ds:Y (ByteArray×ET)}{d:ByteArray×ET},d∈ds->d.1.size+d.2.wt<=tm ds
 |x::ds,d,h=>by simp[tm];rcases aI.1 h with rfl|h;omega;have:=VU h;simp[tm]at this;omega
def aqj(w:M)(uB:Nat)(sv:Ω)(ds:Y (ByteArray×ET))(TL TG TI:E)(W:M):Prop:=
 ∃us:Y Value,us.length=ds.length/\W.heap[uB]? =some (.cells us.toArray TL)/\W.heap[uB+1]? =some (.cells #[sv,.slice (some ⟨uB,0,none⟩) ds.length ds.length] TG)/\Below w.heap.size w W/\
  ∀(j:Nat)(v:Value),us[j]? =some v->∃d:ByteArray×ET,ds[j]? =some d/\W.ownsRow (uB+2) TI 1 v (iF ds (xQ d.2.names)).length (Ya (iF ds (xQ d.2.names)))
end Go.Proofs
namespace Go.Gb
open Go.RowKit Go.Proofs
def arL(d:ByteArray×ET)(r:Y Tree):Prop:=∃a b c e f,r=[.sc (.string d.1),a,b,c,e,f]/\d.1.size<=maxLen/\tI d.2 [a,b,c,e,f]
def pp:Y (ByteArray×ET)->Y (List Tree)->Prop
 |[],rows=>rows=[]
 |d::ds,rows=>∃r rs,rows=r::rs/\arL d r/\pp ds rs
theorem pp.len:∀{ts:Y (ByteArray×ET)}{rows:Y (List Tree)},pp ts rows->rows.length=ts.length
 |[],rows,h=>by subst h;rfl
 |t::ts,rows,h=>by obtain⟨r,rs,rfl,_,h⟩:=h;simp[h.len]
theorem aqM{w:M}{I:Ψ}{n0:Nat}(hI:∀b,I b->b<n0){d:ByteArray×ET}{r:Y Tree}{vs:Y Value}(h:arL d r)(hv:fy w I r vs):WD n0 w d vs:=by
 obtain⟨a,b,c,e,f,rfl,hs,hr⟩:=h
 match vs,hv with
 |v::vs,hv=>
  obtain⟨⟨rfl,_⟩,h2⟩:=hv;have he:=ano hI d.2 _ vs hr h2;obtain⟨v0,v1,v2,v3,v4,rfl⟩:∃v0 v1 v2 v3 v4,vs=[v0,v1,v2,v3,v4]:=by
   cases hd:d.2 with
   |mk op s args=>
    rw[hd]at he;obtain⟨_,_,_,⟨e,_⟩,_⟩:=he;exact⟨_,_,_,_,_,e⟩
  exact⟨v0,v1,v2,v3,v4,rfl,hs,he⟩
theorem afS{w:M}{I:Ψ}{n0:Nat}(hI:∀b,I b->b<n0):∀(ds:Y (ByteArray×ET))(rows:Y (List Tree))(b aa sz:Nat),pp ds rows->cR w I rows b aa sz->
 ∀j d,ds[j]? =some d->∃vs:Y Value,(∀ k v,vs[k]? =some v->w.cell? ⟨b,aa+j*6+k,none⟩=some v)/\WD n0 w d vs
 |[],_,_,_,_,_,_,j,d,h=>by simp at h
 |t::ts,rows,b,aa,sz,h,hr,j,d,hj=>by
  obtain⟨r,rs,rfl,h1,h2⟩:=h;obtain⟨rfl,h3,h4⟩:=hr;obtain⟨vs,h5,h6⟩:=Fv h3;have h7:r.length=6:=by obtain⟨_,_,_,_,_,rfl,_⟩:=h1;rfl
  cases j with
  |zero=>
   simp at hj;subst hj;exact⟨vs,λk v hk=>by simpa using h6 k v hk,aqM hI h1 h5⟩
  |succ j=>
   rw[h7]at h4;obtain⟨vs,g1,g2⟩:=afS hI ts rs b (aa+6) 6 h2 h4 j d (by simpa using hj);exact⟨vs,λk v hk=>by rw[show aa+(j+1)*6+k=aa+6+j*6+k by omega];exact g1 k v hk,g2⟩
theorem MP{w:M}{I:Ψ}{g:Nat}:∀(l:Y Int)(aa:Nat),(∀ j v,(Ya l)[j]? =some v->w.cell? ⟨g,aa+j,none⟩=some v)->cR w I (l.map λi=>[.sc (.int .i64 i)]) g aa 1
 |[],_,_=>by simp[cR]
 |i::l,aa,h=>by simp only[bq,cR,eL,TR,d9,length_nil];refine⟨trivial,⟨⟨_,by simpa using h 0 _ rfl,rfl,trivial⟩,trivial⟩,MP l (aa+1) λj v hj=>?_⟩;rw[show aa+1+j=aa+(j+1)by omega];exact h (j+1) v (by simpa using hj)
theorem MQ{w:M}{I:Ψ}{b:Nat}:∀(us:Y Value)(L:Y (List Int))(aa:Nat),us.length=L.length->(∀ (j:Nat) (v:Value),us[j]? =some v->w.cell? ⟨b,aa+j,none⟩=some v)->
 (∀ (j:Nat) (v:Value) (l:Y Int),us[j]? =some v->L[j]? =some l->TR w I (.sl (l.map λi=>[.sc (.int .i64 i)])) v)->cR w I (L.map λl=>[.sl (l.map λi=>[.sc (.int .i64 i)])]) b aa 1
 |us,[],_,_,_,_=>by simp[cR]
 |[],_::_,_,h,_,_=>by simp at h
 |u::us,l::L,aa,hl,h1,h2=>by simp only[bq,cR,eL,d9,length_nil];refine⟨trivial,⟨⟨u,by simpa using h1 0 u rfl,h2 0 u l rfl rfl⟩,trivial⟩,MQ us L (aa+1) (by simpa using hl) (λ j v hj=>?_) λj v l' hj hl'=>h2 (j+1) v l' (by simpa using hj) (by simpa using hl')⟩;rw[show aa+1+j=aa+(j+1)by omega];exact h1 (j+1) v (by simpa using hj)
theorem adG{P:Q}{f:FuncId}{TL TG TI:E}(hcall:eH P f){ds:Y (ByteArray×ET)}{rows:Y (List Tree)}(hr:pp ds rows)
 (h:∀(sv:Value)(w:World),Jx w.heap.size w ds sv->Calls P f #[sv] w λe W'=>∃uB,e=.returned (.pointer (some ⟨uB+1,0,none⟩))/\w.heap.size<uB/\aqj w uB sv ds TL TG TI W'):
 zz P f [.t (.sl rows)] [] [(1000,⟨2,[[.t (.sl rows),.t (.sl ((qh ds).map λl=>[.sl (l.map λi=>[.sc (.int .i64 i)])]))]]⟩)] (.ptr 1000 0 0):=by
 refine⟨hcall,λw G I vs hβ hM hvs=>?_⟩;obtain⟨vs⟩:=vs
 match vs,hvs with
 |[sv],hvs=>
  have hv:TR w I (.sl rows) sv:=by have:=hvs.1;simpa[VR]using this
  have hlen:=hr.len;have hS:Jx w.heap.size w ds sv:=by rcases hv with ⟨rfl,a,cap,rfl,_⟩|⟨b,aa,cap,sz,rfl,_,hb,hT⟩;exact .inl ⟨eq_nil_of_length_eq_zero hlen.symm,_,_,rfl⟩;exact .inr ⟨b,aa,cap,by rw[hlen],hM.lt b hb,afS hM.lt ds rows b aa sz hr hT⟩
  refine(h sv w hS).mono ?_;rintro e w' ⟨uB,rfl,huB,us,ur,hU,hG,hbel,BY⟩;have B3:uB+1<w'.heap.size:=(Array.getElem?_eq_some_iff.1 hG).1;obtain⟨I',hI'⟩:∃I':Nat->Prop,I'=λb=>I b\/(w.heap.size<=b/\b<w'.heap.size/\b≠uB+1):=⟨_,rfl⟩;have HS:∀b,I b->I' b:=λb hb=>by rw[hI'];exact .inl hb
  obtain⟨hs,hM'⟩:=hM.below hbel (I':=I') HS (λ b hb=>by rw[hI']at hb;rcases hb with hb|hb;exact Nat.lt_of_lt_of_le (hM.lt b hb) hbel.size;exact hb.2.1) (λ b k o B h1 h2 h3 h4=>by simp[wi]at h2) (λ b hb=>by rw[hI']at hb;rcases hb with hb|hb;exact hM.up b hb;exact .inr (.inr hb.1));have Z2:TR w' I' (.sl rows) sv:=TR.mono hs HS _ _ hv;have hone:oneCell sv:=by simp only[TR]at hv;rcases hv with ⟨_,a,cap,rfl,_⟩|⟨b,aa,cap,sz,rfl,_⟩<;>trivial
  have huv:TR w' I' (.sl ((qh ds).map λl=>[.sl (l.map λi=>[.sc (.int .i64 i)])])) (.slice (some ⟨uB,0,none⟩) ds.length ds.length):=by simp only[TR];refine .inr ⟨uB,0,ds.length,1,by simp[qh],by simp[qh],by rw[hI'];exact .inr ⟨by omega,by omega,by omega⟩,?_⟩;refine MQ us (qh ds) 0 (by simp[qh,ur]) (λ j v hj=>by simp[World.cell?,hU,hj]) λj v l hj hl=>?_;obtain⟨d,hd,ho⟩:=BY j v hj;have hle:l=iF ds (xQ d.2.names):=(by simp[qh,hd]at hl;exact hl.symm);subst hle;simp only[TR];rcases ho.2 with ⟨rfl,h0⟩|⟨g,cap,cur,rfl,hg,hgb,hle,_,hcs,htk⟩;exact .inl ⟨by rw[eq_nil_of_length_eq_zero h0];rfl,_,_,rfl,λ_=>rfl⟩;refine .inr ⟨g,0,cap,1,by simp,by simpa using hle,by rw[hI'];exact .inr ⟨by omega,(Array.getElem?_eq_some_iff.1 hgb).1,by omega⟩,MP _ 0 λi x hx=>?_⟩;rw[<- htk,List.getElem?_take]at hx;split at hx;simpa[World.cell?,hgb]using hx;cases hx
  have hf:Wf P (λ b=>w.heap.size<=b) 2 [[.sl rows,.sl ((qh ds).map λl=>[.sl (l.map λi=>[.sc (.int .i64 i)])])]] w' I' (.slice (some ⟨uB+1,0,none⟩) 1 1):=by
   refine .inr ⟨uB+1,_,TG,1,0,0,rfl,by show w.heap.size<=uB+1;omega,λhb=>?_,hG,aB _,by simp,?_,λ_=>rfl⟩;rw[hI']at hb;rcases hb with hb|hb;exact absurd (hM.lt _ hb) (by omega);exact hb.2.2 rfl;rw[pW];intro i x hx;cases i with
   |succ i=>simp[aJ]at hx
   |zero=>
    simp[aJ]at hx;subst hx;refine⟨rfl,?_⟩;simp only[d8,VR];exact⟨⟨_,rfl,Z2,hone⟩,⟨_,rfl,huv,trivial⟩,trivial⟩
  obtain⟨β',hS',hM2,hV⟩:=hM'.fresh (i:=1000) (hβ 1000 (by simp)) (F:=λb=>w.heap.size<=b) (λ k o b h1 h2 h3=>by simp[wi]at h1) (λ b h=>.inr h) hf;refine⟨_,β',I',rfl,?_,HS,?_⟩;have e:pN [(1000,(⟨2,[[.t (.sl rows),.t (.sl ((qh ds).map λl=>[.sl (l.map λi=>[.sc (.int .i64 i)])]))]]⟩:aN))]=bX (wi []) [(1000,some ⟨2,aJ [[.sl rows,.sl ((qh ds).map λl=>[.sl (l.map λi=>[.sc (.int .i64 i)])])]]⟩)]:=by funext k;simp only[pN,bX,wi];by_cases h1:k=1000;subst h1;simp[aJ];rw[aM h1,aM (λ e=>h1 e.symm)];rfl
  rw[e];exact hM2;rcases hV with ⟨_,h,_⟩|⟨b,sz,n,cap,o,hb,h,_,_,hc⟩;cases h;injection h with h1 h2 h3;injection h1 with h1;injection h1 with h1 h4;subst h1 h3;exact⟨_,sz,n,hb,by rw[<- hc (by omega),<- h4]⟩
end Go.Gb
namespace Go.Proofs
open Go.RowKit
abbrev s9(l:Y Int):Y Value:=l.map (Value.int .i64)
def CAt(n0:Nat)(W:M)(c:Y Int)(vs:Y Value):Prop:=
 ∃a b sl d s e,vs=[.int .i64 a,.int .i64 b,sl,.int .i64 d,.string s,.int .i64 e]/\
  ((c=[]/\∃x cap,sl=.slice x 0 cap)\/∃b aa cap,sl=.slice (some ⟨b,aa,none⟩) c.length cap/\b<n0/\∀j k,c[j]? =some k->W.cell? ⟨b,aa+j,none⟩=some (.int .i64 k))
def CSl(n0:Nat)(W:M)(l:Y (List Int))(sv:Ω):Prop:=
 (l=[]/\∃a cap,sv=.slice a 0 cap)\/∃b aa cap,sv=.slice (some ⟨b,aa,none⟩) l.length cap/\b<n0/\∀j c,l[j]? =some c->∃vs:Y Value,(∀ k v,vs[k]? =some v->W.cell? ⟨b,aa+j*6+k,none⟩=some v)/\CAt n0 W c vs
def OL(i:Nat)(g:Y (List Int))(k:Int):Y (List Int):=g.set k.toNat ((g[k.toNat]?.getD [])++[(i:Int)])
def nh(l:Y (List Int)):Nat->Y (List Int)
 | 0=>List.replicate l.length []
 |i+1=>(l.getD i []).foldl (OL i) (nh l i)
theorem afT(i:Nat)(g:Y (List Int))(k:Int):(OL i g k).length=g.length:=by simp[OL]
theorem Rb(i:Nat):∀(c:Y Int)(g:Y (List Int)),(c.foldl (OL i) g).length=g.length
 |[],_=>rfl
 |k::c,g=>by rw[List.foldl_cons,Rb i c,afT]
theorem OM(l:Y (List Int)):∀i,(nh l i).length=l.length
 | 0=>by simp[nh]
 |i+1=>by rw[nh,Rb,OM l i]
structure GG(TL TI:TypeId)(w:World)(us:List Value)(L:List (List Int))(V:World):Prop where
 len:us.length=L.length
 row:V.heap[w.heap.size]? =some (.cells us.toArray TL)
 owns:∀(j:Nat)(v:Value)(x:List Int),us[j]? =some v->L[j]? =some x->V.ownsRow (w.heap.size+1) TI 1 v x.length (s9 x)
 apart:∀(i j:Nat)(u v:Value)(b:Nat),us[i]? =some u->us[j]? =some v->u.ownBlock=some b->v.ownBlock=some b->i=j
 below:Below w.heap.size w V
theorem anp{w:M}{base:Nat}{e:E}{v:Ω}{n:Nat}{xs:Y Value}(h:w.ownsRow base e 1 v n xs):∃a cap,v=.slice a n cap:=by
 rcases h.2 with ⟨rfl,rfl⟩|⟨g,cap,_,rfl,_⟩
 .exact⟨_,_,rfl⟩
 .exact⟨_,_,rfl⟩
theorem Yb{w:M}{base:Nat}{e:E}{v:Ω}{n:Nat}{xs:Y Value}{b:Nat}(h:w.ownsRow base e 1 v n xs)(hb:v.ownBlock=some b):base<=b/\b<w.heap.size:=h.lt b hb
theorem GG.step{TL TI:E}{w wr w1:M}{us:Y Value}{L:Y (List Int)}{k:Nat}{va:J Addr}{vc gg cap:Nat}{x:Y Int}{m:Int}{o:Obj}(h:GG TL TI w us L wr)(hk:us[k]? =some (.slice va x.length vc))(hx:L[k]? =some x)
 (hgrow:(wr.alloc o).grownBy w1 (Value.slice va x.length vc).ownBlock) (hown:w1.ownsRow (w.heap.size+1) TI 1 (.slice (some ⟨gg,0,none⟩) (x.length+1) cap) (x.length+1) (s9 x++[.int .i64 m]))
 (hat:(Value.slice va x.length vc).ownBlock=some gg\/gg=wr.heap.size+1):
 GG TL TI w (us.set k (.slice (some ⟨gg,0,none⟩) (x.length+1) cap)) (L.set k (x++[m])) (w1.setCell ⟨w.heap.size,k,none⟩ (.slice (some ⟨gg,0,none⟩) (x.length+1) cap)):=by
 have hB:w.heap.size<wr.heap.size:=(Array.getElem?_eq_some_iff.1 h.row).1;have hk1:=(bU.1 hk).1;have LN:=h.owns k _ x hk hx;have hne:(Value.slice va x.length vc).ownBlock≠some w.heap.size:=λe=>by have:=(Yb LN e).1;omega
 have ha:∀c,c<wr.heap.size->(wr.alloc o).heap[c]? =wr.heap[c]? :=λc hc=>Below.heap_alloc wr o c hc;have hsz:(wr.alloc o).heap.size=wr.heap.size+1:=by simp
 have hgb:w.heap.size+1<=gg:=by have:=Yb hown (b:=gg) (by simp[Value.ownBlock]);exact this.1
 have hset:w1.grownBy (w1.setCell ⟨w.heap.size,k,none⟩ (.slice (some ⟨gg,0,none⟩) (x.length+1) cap)) (some w.heap.size):=
  ⟨rfl,rfl,rfl,by simp[World.setCell],λi _ h=>by simp only[World.setCell];rw[Array.getElem?_modify,aM (λ e=>h (by rw[e]))]⟩
 have h1:w1.heap[w.heap.size]? =wr.heap[w.heap.size]? :=(hgrow.block _ (by omega) (λ e=>hne e.symm)).trans (ha _ hB);refine⟨by simp[h.len],?_,λj v y hj hy=>?_,λi j u v b hi hj hu hv=>?_,?_⟩
 .simp only[World.setCell];rw[Array.getElem?_modify,aP rfl,h1,h.row];simp only[Option.map_some,Option.isSome_none,Bool.false_eq_true,if_false,List.setIfInBounds_toArray]
 .rw[List.getElem?_set]at hj hy;by_cases e:k=j
  .subst e;have hl:k<L.length:=(by rw[<- h.len];exact hk1);rw[aP rfl,aP hk1]at hj;rw[aP rfl,aP hl]at hy;injection hj with hj;injection hy with hy;subst hj hy;have:=hown.kept hset (.inr (λ e=>by simp[Value.ownBlock]at e;omega));simpa using this
  .rw[aM e]at hj hy;have ho:=h.owns j v y hj hy;refine⟨ho.1,ho.2.imp id ?_⟩;rintro⟨g,cp,cur,rfl,h2,h3,h4⟩;have hg:=(Array.getElem?_eq_some_iff.1 h3).1;have hgn:some g≠(Value.slice va x.length vc).ownBlock:=λe'=>e (h.apart k j _ _ g hk hj e'.symm (by simp[Value.ownBlock]));refine⟨g,cp,cur,rfl,h2,?_,h4⟩;exact(hset.block g (by have:=hgrow.size;omega) (by simp;omega)).trans ((hgrow.block g (by omega) hgn).trans ((ha g hg).trans h3))
 .have key:∀(j:Nat)(v:Value),us[j]? =some v->v.ownBlock=some gg->j=k:=λj v hj hv=>by
   rcases hat with hat|hat
   .exact h.apart j k v _ gg hj hk hv hat
   .have hl:=(bU.1 hj).1;have:=(Yb (h.owns j v _ hj (dI (by rw[<- h.len];exact hl))) hv).2;omega
  rw[List.getElem?_set]at hi hj;by_cases e1:k=i
  .rw[aP e1]at hi;rw[aP (by omega)]at hi;cases hi;simp[Value.ownBlock]at hu;subst hu;by_cases e2:k=j
   .omega
   .rw[aM e2]at hj;exact absurd (key j v hj hv).symm e2
  .rw[aM e1]at hi;by_cases e2:k=j
   .rw[aP e2]at hj;rw[aP (by omega)]at hj;cases hj;simp[Value.ownBlock]at hv;subst hv;exact absurd (key i u hi hu).symm e1
   .rw[aM e2]at hj;exact h.apart i j u v b hi hj hu hv
 .have hb:=h.below;have h2:Below w.heap.size w (wr.alloc o):=hb.grown (World.grownBy_alloc wr o none) (by omega) (λ j e=>by cases e);have h3:Below w.heap.size w w1:=h2.grown hgrow (by omega) (λ j e=>by have:=(Yb LN e).1;omega);exact h3.grown hset (by have:=hgrow.size;omega) (λ j e=>by cases e;exact aB _)
end Go.Proofs
namespace Go.Gb
open Go.RowKit Go.Proofs
abbrev T8(l:Y Int):Y (List Tree):=l.map λi=>[.sc (.int .i64 i)]
def aqN(c:Y Int)(r:Y Tree):Prop:=∃a b d s e,r=[.sc (.int .i64 a),.sc (.int .i64 b),.sl (T8 c),.sc (.int .i64 d),.sc (.string s),.sc (.int .i64 e)]
theorem akb{w:M}{I:Ψ}{b:Nat}:∀(c:Y Int)(aa:Nat),cR w I (T8 c) b aa 1->∀(j:Nat)(k:Int),c[j]? =some k->w.cell? ⟨b,aa+j,none⟩=some (.int .i64 k)
 |[],_,_,j,k,h=>by simp at h
 |i::c,aa,ht,j,k,h=>by
  obtain⟨_,h1,h2⟩:=ht;cases j with
  |zero=>
   simp at h;subst h;obtain⟨⟨v,hv,rfl,_⟩,_⟩:=h1;exact hv
  |succ j=>
   have:=akb c (aa+1) h2 j k (by simpa using h);rw[show aa+(j+1)=aa+1+j by omega];exact this
theorem aqO{w:M}{I:Ψ}{n0:Nat}(hI:∀b,I b->b<n0){c:Y Int}{r:Y Tree}{vs:Y Value}(h:aqN c r)(hv:fy w I r vs):CAt n0 w c vs:=by
 obtain⟨a,b,d,s,e,rfl⟩:=h
 match vs,hv with
 |[v0,v1,v2,v3,v4,v5],hv=>
  obtain⟨⟨rfl,_⟩,⟨rfl,_⟩,h2,⟨rfl,_⟩,⟨rfl,_⟩,⟨rfl,_⟩,_⟩:=hv;refine⟨_,_,_,_,_,_,rfl,?_⟩;rcases h2 with ⟨h0,x,cap,rfl,_⟩|⟨b',aa,cap,sz,rfl,_,hb,hT⟩
  .exact .inl ⟨by simpa using h0,_,_,rfl⟩
  .cases c with
   |nil=>exact .inl ⟨rfl,some ⟨b',aa,none⟩,cap,by simp⟩
   |cons i c=>
    have hs:sz=1:=hT.1.symm;subst hs;exact .inr ⟨b',aa,cap,by simp,hI b' hb,akb (i::c) aa hT⟩
theorem afU{w:M}{I:Ψ}{n0:Nat}(hI:∀b,I b->b<n0):∀(l:Y (List Int))(rows:Y (List Tree))(b aa sz:Nat),rows.length=l.length->(∀ (j:Nat) (c:Y Int) (r:Y Tree),l[j]? =some c->rows[j]? =some r->aqN c r)->cR w I rows b aa sz->
 ∀(j:Nat)(c:Y Int),l[j]? =some c->∃vs:Y Value,(∀ (k:Nat) (v:Value),vs[k]? =some v->w.cell? ⟨b,aa+j*6+k,none⟩=some v)/\CAt n0 w c vs
 |[],_,_,_,_,_,_,_,j,c,h=>by simp at h
 |c0::l,[],_,_,_,hl,_,_,_,_,_=>by simp at hl
 |c0::l,r::rows,b,aa,sz,hl,hr,ht,j,c,hj=>by
  obtain⟨h2,h3,h4⟩:=ht;obtain⟨vs,h5,h6⟩:=Fv h3;have h0:=hr 0 c0 r rfl rfl;have h7:r.length=6:=by obtain⟨_,_,_,_,_,rfl⟩:=h0;rfl
  cases j with
  |zero=>
   simp at hj;subst hj;exact⟨vs,λk v hk=>by simpa using h6 k v hk,aqO hI h0 h5⟩
  |succ j=>
   have hs:sz=6:=(by rw[<- h2];exact h7);rw[hs]at h4;obtain⟨vs,g1,g2⟩:=afU hI l rows b (aa+6) 6 (by simpa using hl) (λ j c r h h'=>hr (j+1) c r (by simpa using h) (by simpa using h')) h4 j c (by simpa using hj);exact⟨vs,λk v hk=>by rw[show aa+(j+1)*6+k=aa+6+j*6+k by omega];exact g1 k v hk,g2⟩
theorem afV{P:Q}{f:FuncId}{TL TI:E}(hcall:eH P f){l:Y (List Int)}{rows:Y (List Tree)}(hlen:rows.length=l.length)(hr:∀(j:Nat)(c:Y Int)(r:Y Tree),l[j]? =some c->rows[j]? =some r->aqN c r)
 (h:∀(sv:Value)(w:World),CSl w.heap.size w l sv->Calls P f #[sv] w λe W'=>e=.returned (.slice (some ⟨w.heap.size,0,none⟩) l.length l.length)/\∃us,GG TL TI w us (nh l l.length) W'):
 ro P f [.t (.sl rows)] [] [] (.one (.d (.s (.sl ((nh l l.length).map λx=>[.sl (T8 x)]))))):=by
 refine⟨hcall,λw G I vs hβ hM hvs=>?_⟩;obtain⟨vs⟩:=vs
 match vs,hvs with
 |[sv],hvs=>
  have hv:TR w I (.sl rows) sv:=by have:=hvs.1;simpa[VR]using this
  have hS:CSl w.heap.size w l sv:=by
   rcases hv with ⟨rfl,a,cap,rfl,_⟩|⟨b,aa,cap,sz,rfl,_,hb,hT⟩
   .exact .inl ⟨eq_nil_of_length_eq_zero hlen.symm,_,_,rfl⟩
   .exact .inr ⟨b,aa,cap,by rw[hlen],hM.lt b hb,afU hM.lt l rows b aa sz hlen hr hT⟩
  refine(h sv w hS).mono ?_;rintro e w' ⟨rfl,us,hG⟩;have B3:w.heap.size<w'.heap.size:=(Array.getElem?_eq_some_iff.1 hG.row).1;obtain⟨I',hI'⟩:∃I':Nat->Prop,I'=λb=>I b\/(w.heap.size<=b/\b<w'.heap.size):=⟨_,rfl⟩;have HS:∀b,I b->I' b:=λb hb=>by rw[hI'];exact .inl hb
  obtain⟨hs,hM'⟩:=hM.below hG.below (I':=I') HS (λ b hb=>by rw[hI']at hb;rcases hb with hb|hb;exact Nat.lt_of_lt_of_le (hM.lt b hb) hG.below.size;exact hb.2) (λ b k o B h1 h2 h3 h4=>by simp[te]at h2) (λ b hb=>by rw[hI']at hb;rcases hb with hb|hb;exact hM.up b hb;exact .inr (.inr hb.1));have huv:TR w' I' (.sl ((nh l l.length).map λx=>[.sl (T8 x)])) (.slice (some ⟨w.heap.size,0,none⟩) l.length l.length):=by
   have hgl:=OM l l.length;simp only[TR];refine .inr ⟨w.heap.size,0,l.length,1,by simp[hgl],by simp[hgl],by rw[hI'];exact .inr ⟨aB _,B3⟩,?_⟩;refine MQ us (nh l l.length) 0 hG.len (λ j v hj=>by simp[World.cell?,hG.row,hj]) λj v x hj hx=>?_;have ho:=hG.owns j v x hj hx;simp only[TR];rcases ho.2 with ⟨rfl,h0⟩|⟨g,cap,cur,rfl,hg,hgb,hle,_,hcs,htk⟩
   .exact .inl ⟨by rw[eq_nil_of_length_eq_zero h0];rfl,_,_,rfl,λ_=>rfl⟩
   .refine .inr ⟨g,0,cap,1,by simp,by simpa using hle,by rw[hI'];exact .inr ⟨by omega,(Array.getElem?_eq_some_iff.1 hgb).1⟩,MP _ 0 λi y hy=>?_⟩;have hy:(s9 x)[i]? =some y:=hy;rw[<- htk,List.getElem?_take]at hy;split at hy
    .simpa[World.cell?,hgb]using hy
    .cases hy
  exact⟨_,I',rfl,hM',HS,huv⟩
end Go.Gb
namespace Go.Gb
open Go.RowKit Go.Proofs
theorem aiv{P:Q}{f:FuncId}{Θ:E}(hcall:eH P f){x:Int}{c:Nat}
 (h:∀(a:Addr)(cap:Nat)(w:World),w.cell? a=some (.int .i64 x)->Calls P f #[.slice (some a) 1 cap,.int .i64 c] w λe W'=>∃v,e=.returned v/\W'.ownsRow w.heap.size Θ 1 v c (List.replicate c (.int .i64 x))/\Below w.heap.size w W'):
 ro P f [.t (.sl [[.sc (.int .i64 x)]]),.t (.sc (.int .i64 (c:Int)))] [] [] (.one (.fresh 1 ((List.replicate c x).map λi=>[.sc (.int .i64 i)]))):=by
 refine⟨hcall,λw G I vs hβ hM hvs=>?_⟩;obtain⟨vs⟩:=vs
 match vs,hvs with
 |[a,b],hvs=>
  obtain⟨h1,⟨rfl,_⟩,_⟩:=hvs;rcases h1 with ⟨h0,_⟩|⟨b,aa,cap,sz,rfl,_,hb,_,⟨⟨u,hu,rfl,_⟩,_⟩,_⟩;cases h0;refine(h _ cap w hu).mono ?_;rintro e w' ⟨v,rfl,hown,hbel⟩;obtain⟨hs,hM'⟩:=hM.below hbel (I':=I) (λ _ h=>h) (λ b hb=>Nat.lt_of_lt_of_le (hM.lt b hb) hbel.size) (λ b k o B h1 h2 h3 h4=>(hM.ownB k o B b h2 h3 h4).1 h1) hM.up;refine⟨v,I,rfl,hM',λ_ h=>h,?_⟩;have hown':w'.ownsRow w.heap.size Θ 1 v (List.replicate c x).length ((List.replicate c x).map (Value.int .i64)):=by simpa using hown
  exact alo (enc:=Value.int .i64) (λ _=>trivial) hM.lt hown'
end Go.Gb
namespace Go.Gb
open Go.RowKit Go.Proofs
theorem adH{P:Q}{f:FuncId}{g:Nat}(hg:aqt g=true)(hcall:eH P f){s b:ByteArray}
 (h:∀(m:Int)(w:World),w.cell? ⟨g,0,none⟩=some (.int .i64 m)->Calls P f #[.string s,.string b] w λe w'=>e=.returned (.bool (Lib.contains s.data.toList b.data.toList))/\w'=w):
 ro P f [.t (.sc (.string s)),.t (.sc (.string b))] [] [] (.one (.d (.s (.sc (.bool (Lib.contains s.data.toList b.data.toList)))))):=by
 refine⟨hcall,λw G I vs hβ hM hvs=>?_⟩;obtain⟨vs⟩:=vs
 match vs,hvs with
 |[a,c],hvs=>
  obtain⟨⟨rfl,_⟩,⟨rfl,_⟩,_⟩:=hvs;obtain⟨_,m,hm⟩:=hM.vars.2 g hg;refine(h m w hm).mono ?_;rintro e w' ⟨rfl,rfl⟩;obtain⟨hs,hM'⟩:=hM.below (Below.refl _ _) (I':=I) (λ _ h=>h) (λ b hb=>hM.lt b hb) (λ b k o B h1 h2 h3 h4=>(hM.ownB k o B b h2 h3 h4).1 h1) hM.up;refine⟨_,I,rfl,hM',λ_ h=>h,?_⟩;exact⟨rfl,trivial⟩
end Go.Gb
namespace Go.Gb
open Go
theorem Rc{α:Type}:∀(a:Ask α)(w:World),w.drawn<=(w.ask a).2.drawn
 |.done _,w=>aB _
 |.ask what range k,w=>by unfold World.ask;simp;split;exact Rc (k 0) w;exact Nat.le_trans (Nat.le_succ _) (Rc (k _) { w with drawn:=w.drawn+1 })
theorem Rf(w:M)(c:Sys):w.drawn<=(w.sys c).2.drawn:=by have h:=Rc (Kernel.perform c w.os) w;unfold World.sys;split;exact aB _;rename_i heq;rw[heq]at h;exact h
theorem acf{p:Q}{w w':M}{a:Addr}{v:Ω}{b:Bool}{l:Y Addr}(h:w.farStore p a v b=.ok (w',l)):w'.drawn=w.drawn:=by
 unfold World.farStore at h;split at h;split at h
 .rename_i r heq;cases h;unfold World.viewStore at heq;simp[bind,Except.bind]at heq
  repeat' split at heq
  all_goals first|(cases heq;done)|skip
  all_goals (injection heq with heq;injection heq with h1 h2;rw[<- h1])
 cases h;cases h
def xj{α:Type}:Result α->Nat
 |.ok _ w=>w.drawn
 |.halt _ w=>w.drawn
theorem jA{α:Type}(p:Q):∀(s:Sem α)(w:World),w.drawn<=xj (s.run p w):=by
 intro s
 induction s
 intro w;exact aB _;rename_i m a k ih;intro w;unfold Sem.run;split;exact ih _ w;split;exact ih _ w;exact aB _
 .rename_i m a v k ih;intro w;cases v<;>simp[Sem.run]<;>first|exact aB _|skip
  all_goals
   split;split;exact aB _;exact ih (w.setCell _ _);split;rename_i w1 _ heq;have:=acf heq;exact this ▸ ih w1;exact aB _
 rename_i o k ih;intro w;exact ih _ { w with heap:=w.heap.push o };rename_i r k ih;intro w;exact ih _ w;rename_i a n k ih;intro w;refine Nat.le_trans (Nat.le_of_eq ?_) (ih _);unfold World.freeze;split<;>rfl;rename_i a k ih;intro w;exact ih _ w;rename_i r k ih;intro w;unfold Sem.run;split;exact aB _;exact ih _ w;exact aB _;rename_i r o k ih;intro w;unfold Sem.run;split;exact aB _;exact ih { w with heap:=w.heap.setIfInBounds r o };exact aB _;rename_i q k ih;intro w;unfold Sem.run;split;exact ih _ w;exact Nat.le_trans (Nat.le_succ _) (ih _ { w with drawn:=w.drawn+1 });rename_i c k ih;intro w;exact Nat.le_trans (Rf w c) (ih _ _);rename_i k ih;intro w;exact ih _ w;rename_i m k ih;intro w;exact ih w;intro w;exact aB _
theorem oJ{α:Type}(p:Q):∀(s:Sem α)(w:World)(es:Array Event),w.drawn<=xj (s.runT p w es).1:=by
 intro s
 induction s
 intro w es;exact aB _;rename_i m a k ih;intro w es;unfold Sem.runT;split;exact ih _ w _;split;exact ih _ w _;exact aB _
 .rename_i m a v k ih;intro w es;cases v<;>simp only[Sem.runT]<;>first|exact aB _|skip
  all_goals
   split;split;exact aB _;exact ih (w.setCell _ _) _;split;rename_i w1 _ heq;have:=acf heq;exact this ▸ ih w1 _;exact aB _
 rename_i o k ih;intro w es;exact ih _ { w with heap:=w.heap.push o } _;rename_i r k ih;intro w es;exact ih _ w _;rename_i a n k ih;intro w es;refine Nat.le_trans (Nat.le_of_eq ?_) (ih _ _);unfold World.freeze;split<;>rfl;rename_i a k ih;intro w es;exact ih _ w _;rename_i r k ih;intro w es;unfold Sem.runT;split;exact aB _;exact ih _ w _;exact aB _;rename_i r o k ih;intro w es;unfold Sem.runT;split;exact aB _;exact ih { w with heap:=w.heap.setIfInBounds r o } _;exact aB _;rename_i q k ih;intro w es;unfold Sem.runT;split;exact ih _ w _;exact Nat.le_trans (Nat.le_succ _) (ih _ { w with drawn:=w.drawn+1 } _);rename_i c k ih;intro w es;exact Nat.le_trans (Rf w c) (ih _ _ _);rename_i k ih;intro w es;exact ih _ w _;rename_i m k ih;intro w es;exact ih w _;intro w es;exact aB _
def qv:GStep->Nat
 |.go _ w _|.comm _ _ _ _ w _|.spawn _ _ w _|.count _ w _|.timer _ _ w _|.alone _ _ w _|.newcoro _ _ _ w _|.coroswitch _ _ _ w _|.collect _ w _|.watch _ w _|.ended _ w _=>w.drawn
theorem uf(es:Array Event)(g:GStep):qv (g.after es)=qv g:=by cases g<;>rfl
theorem V0{c:Prop}[Decidable c]{a b:GStep}{n:Nat}(h1:n<=qv a)(h2:n<=qv b):n<=qv (if c then a else b):=by split<;>assumption
theorem adJ{α:Type}{o:J α}{a:GStep}{f:α->GStep}{n:Nat}(h1:n<=qv a)(h2:∀x,n<=qv (f x)):n<=qv (o.elim a f):=by cases o;exact h1;exact h2 _
theorem aiw(w:M)(fd:Nat)(t:ByteArray)(o:Outcome):w.drawn<=qv (endWith w fd t o):=by have h:=Rf w (.write fd t);unfold endWith;simp;split<;>(rename_i heq;rw[heq]at h)<;>(try split)<;>exact h
theorem TQ(fr:Frame)(m:String)(w:M):w.drawn<=qv (endThrow fr m w):=aB _
theorem Jk(p:Q)(fr:Frame)(v:Ω)(w:M):w.drawn<=qv (endPrinting p fr v w):=by unfold endPrinting;simp;split<;>exact aB _
theorem TS(p:Q)(fr:Frame)(cs:Y Frame)(d:J Dying)(m:String)(w:M):w.drawn<=qv (endFatal p fr cs d m w):=by
 unfold endFatal
 extract_lets _ _ shown
 have h:=jA p shown w;split<;>(rename_i heq;rw[heq]at h)<;>exact h
theorem aix(p:Q)(fr:Frame)(d:Dying)(f:Fatal)(w:M):w.drawn<=qv (writeOn p fr d f w):=by
 unfold writeOn;split;exact aB _;have h:∀(s:Sem Unit)(r:Result Unit×Array Event),s.runT p w #[]=r->w.drawn<=xj r.1:=λs r e=>e ▸ oJ p s w #[]
 conv=>rhs;arg 1;simp only
 split<;>exact h _ _ ‹_›
theorem aqP(p:Q)(fr:Frame)(d:Dying)(w:M):w.drawn<=qv (die p fr d w):=by
 unfold die;split;exact aix _ _ _ _ _;split;split;exact aB _;exact aiw _ _ _ _;split;exact aB _;rename_i s _;have h:=jA p (withAddress s) w;split<;>(rename_i heq;rw[heq]at h)<;>exact h;rename_i t recv name _;have h:=oJ p (invoke (.fn (.method name) #[]) #[.iface t recv]) w #[];rw[uf];split<;>(try (rename_i heq;rw[heq]at h))<;>first|exact h|exact Nat.le_trans h (Jk _ _ _ _)|exact aB _
 exact aB _
theorem Jl(p:Q)(main:Bool)(fr:Frame)(cs:Y Frame)(d:J Dying)(v:Ω)(w:M):w.drawn<=qv (doReturn p main fr cs d v w):=by
 unfold doReturn
 repeat' split
 all_goals exact aB _
theorem Ut(p:Q)(fr:Frame)(cs:Y Frame)(dy:J Dying)(d:Deferred)(w:M):w.drawn<=qv (callDeferred p fr cs dy d w):=by refine V0 (aB _) ?_;have h:=oJ p (invoke d.target d.args) w #[];simp only[uf];split<;>(try (rename_i heq;rw[heq]at h))<;>(try split)<;>first|exact h|exact Nat.le_trans h (TS _ _ _ _ _ _)|exact Nat.le_trans h (TQ _ _ _)
theorem alp(p:Q)(main:Bool)(fr:Frame)(cs:Y Frame)(dy:J Dying)(w:M):w.drawn<=qv (unwind p main fr cs dy w):=by unfold unwind;split;rename_i block _ _ _;have h:=oJ p (Instr.takeDeferred block) w #[];simp only[uf];split<;>(rename_i heq;rw[heq]at h)<;>exact h;exact Ut _ _ _ _ _ _;split;exact aB _;split;exact aB _;split;exact aB _;split;split;exact aB _;split<;>(rename_i heq;exact Nat.le_trans (jA p _ w) (Nat.le_of_eq (congrArg xj heq)));split;exact Jk _ _ _ _;exact aB _;split;exact Jl _ _ _ _ _ _ _;rename_i fn _;have h:=oJ p (results fn fr.tmps) w #[];simp only[uf];split<;>(rename_i heq;rw[heq]at h)<;>first|exact h|exact Nat.le_trans h (Jl _ _ _ _ _ _ _)
theorem anq(p:Q)(fr:Frame)(cs:Y Frame)(dy:J Dying)(g:Nat)(w:M):w.drawn<=qv (early p fr cs dy g w):=by
 unfold early;simp
 repeat' split
 all_goals first|exact aB _|(have h:=jA p (choose (.early g)) w;rw[‹Sem.run p (choose (.early g)) w=_›]at h;exact h)
theorem OO(p:Q)(l:Bool)(fr:Frame)(cs:Y Frame)(dy:J Dying)(s:Sem Next)(w:M):w.drawn<=qv (stepG.apply p l fr cs dy s w):=by
 unfold stepG.apply;have h:w.drawn<=xj (if l=true then s.runT p w #[]else(s.run p w,#[])).1:=by split;exact oJ p s w #[];exact jA p s w
 revert h;generalize (if l=true then s.runT p w #[]else(s.run p w,#[]))=X;intro h;simp[uf];split<;>(try (rename_i heq;rw[heq]at h))<;>(try split)<;>first|exact h|exact Nat.le_trans h (TS _ _ _ _ _ _)|exact Nat.le_trans h (TQ _ _ _)|exact Nat.le_trans h (anq _ _ _ _ _ _)|exact V0 h h
theorem apm(p:Q)(l:Bool)(fr:Frame)(cs:Y Frame)(dy:J Dying)(w:M):w.drawn<=qv (stepG.oper p l fr cs dy w):=by unfold stepG.oper;split;exact aB _;split<;>exact OO _ _ _ _ _ _ _
theorem apn(p:Q)(main l:Bool)(fr:Frame)(cs:Y Frame)(dy:J Dying)(w:M):w.drawn<=qv (stepG.exec p main l fr cs dy w):=by
 unfold stepG.exec
 extract_lets go to lost leave
 have hl:∀j,w.drawn<=qv (leave j):=by intro j;simp only[leave];split;split<;>exact aB _;rename_i l _;have h:=oJ p (Instr.endRound l j) w #[];simp only[uf];split<;>(rename_i heq;rw[heq]at h)<;>first|exact h|exact Nat.le_trans h (Jl _ _ _ _ _ _ _)
 clear_value leave
 split
 all_goals first|exact hl _|exact aB _|exact OO _ _ _ _ _ _ _|skip
 split<;>exact aB _;exact adJ (hl _) λ_=>aB _;exact adJ (hl _) λ_=>aB _;simp only[uf];split<;>(rename_i heq;have h:=Nat.le_trans (oJ p _ w #[]) (Nat.le_of_eq (congrArg xj heq)))<;>first|exact h|exact Nat.le_trans h (OO _ _ _ _ _ _ _)
 simp only[uf];split<;>(rename_i heq;exact Nat.le_trans (oJ p _ w #[]) (Nat.le_of_eq (congrArg xj heq)));exact adJ (aB _) λ_=>OO _ _ _ _ _ _ _;refine V0 (aB _) ?_;split<;>(rename_i heq;exact Nat.le_trans (jA p _ w) (Nat.le_of_eq (congrArg xj heq)));exact V0 (apm _ _ _ _ _ _) (aB _)
theorem anr(p:Q)(main:Bool)(g:Goroutine)(w:M)(l:Bool):w.drawn<=qv (stepG p main g w l):=by unfold stepG;simp;split;exact aqP _ _ _ _;exact apn _ _ _ _ _ _ _;exact alp _ _ _ _ _ _
def sup(d:Nat):Stepped->Prop
 |.next m=>d<=m.world.drawn
 |.ended _ _=>True
theorem wH{d e:Nat}(h:d<=e):∀{s:Stepped},sup e s->sup d s
 |.next _,h'=>Nat.le_trans h h'
 |.ended _ _,_=>trivial
theorem Yc(p:Q)(ae:Rest)(gs:Array Goroutine)(i:Nat)(g:Goroutine)(cases:Array CommCase)(b:Bool)(sh:CommShape)(w:M):sup w.drawn (communicate p ae gs i g cases b sh w).1:=by
 unfold communicate
 extract_lets put illMade me other ready pick
 split;trivial;split;split;split;rename_i w1 heq;unfold waitingAt at heq;split at heq;split at heq;cases heq;exact aB w.drawn;cases heq;cases heq;exact aB _;trivial;exact aB w.drawn;have h:=jA p pick w;split;trivial;rename_i heq;rw[heq]at h
 extract_lets r
 split
 all_goals first|exact h|trivial|skip
 split;exact h;split<;>first|trivial|(rename_i heq;exact Nat.le_trans h (Nat.le_trans (jA p _ _) (Nat.le_of_eq (congrArg xj heq))))
theorem adK(p:Q)(gs:Array Goroutine)(ae:Rest)(w:M):sup w.drawn (look p gs ae w):=by
 unfold look;split;simp only;split;trivial;split;trivial;split<;>first|trivial|(rename_i heq;exact Nat.le_trans (jA p _ w) (Nat.le_of_eq (congrArg xj heq)))
 trivial
theorem ant(p:Q)(m:Machine)(k:Nat):sup m.world.drawn (serve p m k):=by unfold serve;split;trivial;exact aB m.world.drawn;simp;split;trivial;exact aB m.world.drawn
theorem anu(w:M)(c:Nat):(drain w c).2.drawn=w.drawn:=by unfold drain;split<;>rfl
theorem acg(m:Machine)(k:Nat)(t:Timer)(a b:Nat):(retime m k t a b).2.world.drawn=m.world.drawn:=by unfold retime;simp;split;exact anu _ _;rfl
theorem afW{m m1 m':Machine}{var:Addr}{f:Nat->Timer->Value×Machine}{v:Ω}(h:timerOp.named m var f=.ok (v,m'))(hf:∀k t,(f k t).2.world.drawn=m1.world.drawn):m'.world.drawn=m1.world.drawn:=by unfold timerOp.named at h;split at h;injection h with h;exact(congrArg (λ q:Value×Machine=>q.2.world.drawn) h).symm.trans (hf _ _);cases h
theorem aiy{m m':Machine}{op:TimerOp}{v:Ω}(h:timerOp m op=.ok (v,m')):m'.world.drawn=m.world.drawn:=by
 unfold timerOp at h;split at h;split at h;injection h with h;injection h with _ h;subst h;rfl;split at h;split at h;cases h;injection h with h;injection h with _ h;subst h;rfl;cases h;exact afW h λk t=>acg _ _ _ _ _;split at h;rename_i var when period m1 heq;have e:m1.world.drawn=m.world.drawn:=by unfold timerOp.opened at heq;split at heq;split at heq;cases heq;rfl;cases heq;cases heq;rfl
 exact(afW h λk t=>acg _ _ _ _ _).trans e;cases h;injection h with h;injection h with _ h;subst h;rfl
theorem anv(p:Q)(m:Machine)(i:Nat)(l:Bool):sup m.world.drawn (runT p m i l).1:=by
 unfold runT;simp;generalize (m.gs.swapAt! i { (default:Goroutine)with status:=.finished }).1=g;have h:=anr p (i==0) g m.world l;split<;>(rename_i heq;rw[heq]at h)
 all_goals first|exact h|exact wH h (Yc _ _ _ _ _ _ _ _ _)|exact wH h (adK _ _ _ _)|trivial|skip
 split<;>first|exact h|trivial
 split<;>first|exact h|trivial
 split;rename_i heq;exact Nat.le_trans h (Nat.le_of_eq (aiy heq).symm)
 all_goals first|exact h|trivial
def Ln(d:Nat):Move->Prop
 |.goroutine m _=>d<=m.world.drawn
 |.machine s _=>sup d s
theorem Yd(p:Q)(m:Machine):Ln m.world.drawn (askOn p m):=by
 unfold askOn
 extract_lets mono rs ds pick
 have hp:∀m:Machine,Ln m.world.drawn (pick m):=by intro m;simp only[pick];have h:=jA p (choose (.sched rs.length)) m.world;split;trivial;rename_i heq;rw[heq]at h;split;exact h;split<;>first|trivial|(rename_i heq;exact Nat.le_trans h (Nat.le_trans (jA p _ _) (Nat.le_of_eq (congrArg xj heq))))
 have hq:∀(d:Nat)(m:Machine),d<=m.world.drawn->Ln d (pick m):=by
  intro d m hd;have:=hp m;generalize pick m=x at this;cases x with
  |goroutine m' i=>exact Nat.le_trans hd this
  |machine s ag=>exact wH hd this
 generalize (if ds.isEmpty = true then pure 0 else choose (.extern "timer.serve" (ds.length + (if rs.isEmpty && (ahead m false).isNone then 0 else 1))) : Sem Nat) = s;have h:=jA p s m.world;split;trivial;rename_i k world heq;rw[heq]at h
 extract_lets m1
 have h1:m.world.drawn<=m1.world.drawn:=h;split;exact wH h1 (ant _ _ _);rcases rs with _|⟨r0,rs⟩;simp;split;exact h1;split;exact h1;split<;>trivial;simp only;split;exact hq _ _ h1;split;trivial
 all_goals (rename_i heq;have h2:=Nat.le_trans h (Nat.le_trans (jA p _ world) (Nat.le_of_eq (congrArg xj heq))))
 exact hq _ _ h2;exact h2;exact hq _ _ h2
theorem anw(p:Q)(m:Machine):Ln m.world.drawn (ask p m):=by
 unfold ask;split;have h := jA p (choose (.extern "collector.look" 2)) m.world;split;trivial;rename_i w heq;rw[heq]at h;split;rename_i m' heq2;have h2:sup w.drawn (.next m'):=heq2 ▸ adK p _ _ w;have h3:=Yd p m';generalize askOn p m'=x at h3;cases x with
 |goroutine m' i=>exact Nat.le_trans (Nat.le_trans h h2) h3
 |machine s ag=>exact wH (Nat.le_trans h h2) h3
 exact wH h (adK _ _ _ _);rename_i w _ heq;rw[heq]at h;have h3:=Yd p { m with world:=w };generalize askOn p { m with world:=w }=x at h3;cases x with
 |goroutine m' i=>exact Nat.le_trans h h3
 |machine s ag=>exact wH h h3
 exact Yd p m
theorem apo(p:Q)(m:Machine):Ln m.world.drawn (move p m):=by unfold move;split;split;exact aB m.world.drawn;trivial;split;split;exact aB m.world.drawn;exact anw p _;exact anw p m
theorem apq{p:Q}{m m':Machine}(h:step p m=.next m'):m.world.drawn<=m'.world.drawn:=by have h1:=apo p m;unfold step stepT at h;split at h;rename_i m1 i heq;rw[heq]at h1;have h2:=anv p m1 i true;rw[h]at h2;exact Nat.le_trans h1 h2;rename_i heq;rw[heq]at h1;simp at h;rw[h]at h1;exact h1
theorem akc{p:Q}:∀(n:Nat){m m':Machine},runN p n m=.next m'->m.world.drawn<=m'.world.drawn
 | 0,m,m',h=>by injection h with h;rw[h];exact aB _
 |n+1,m,m',h=>by simp[runN]at h;split at h;rename_i heq;exact Nat.le_trans (apq heq) (akc n h);rename_i hne;exact absurd h (hne m')
theorem afX{P:Q}{f:FuncId}{args:Array Value}{w:M}{R:Ending->World->Prop}(h:Calls P f args w R)(hR:∀w',¬R .outgrown w'):Calls P f args w λe w'=>R e w'/\w.drawn<=w'.drawn:=by
 intro cs;obtain⟨e,w',fr,hr,hc,h1,h2⟩:=h cs;refine⟨e,w',fr,⟨hr,?_⟩,hc,h1,h2⟩;cases e with
 |outgrown=>exact absurd hr (hR _)
 |returned v|panicked c=>obtain⟨n,hn⟩:=hc;exact akc n hn
end Go.Gb
namespace Go.Gb
open Go.RowKit Go.Proofs
open Go.Sort hiding Below
def yB(r:Y Tree):Y Value:=r.map λt=>match t with
 |.sc v=>v
 |.sl _=>.bool false
def nN(rows:Y (List Tree)):Array Value:=(rows.flatMap yB).toArray
def A6(sz:Nat)(rows:Y (List Tree)):Prop:=∀r∈rows,r.length=sz/\∀t∈r,∃v,t=.sc v/\oneCell v
theorem DU(r:Y Tree):(yB r).length=r.length:=by simp[yB]
theorem flat_get{sz:Nat}:∀{rows:Y (List Tree)},A6 sz rows->∀{i j:Nat}{r:Y Tree},rows[i]? =some r->j<sz->(rows.flatMap yB)[i*sz+j]? =(yB r)[j]?
 |x::rows,h,0,j,r,hi,hj=>by simp at hi;subst hi;have hx:=(h x (by simp)).1;rw[List.flatMap_cons,List.getElem?_append_left (by rw[DU];omega)];congr 1;omega
 |x::rows,h,i+1,j,r,hi,hj=>by have hx:=(h x (by simp)).1;have ih:=flat_get (rows:=rows) (λ q hq=>h q (by simp[hq])) (i:=i) (j:=j) (r:=r) (by simpa using hi) hj;rw[List.flatMap_cons,qj (by rw[DU,Nat.add_mul];omega),DU,<- ih];congr 1;rw[Nat.add_mul];omega
 |[],_,_,_,_,hi,_=>by simp at hi
theorem fp{sz:Nat}:∀{rows:Y (List Tree)},A6 sz rows->(rows.flatMap yB).length=rows.length*sz
 |[],_=>by simp
 |x::rows,h=>by have ih:=fp (rows:=rows) (λ q hq=>h q (by simp[hq]));rw[List.flatMap_cons,eU,DU,(h x (by simp)).1,d9,Nat.add_mul];omega
section
variable {P:Program} {G:Nat->Option dc} {I:Nat->Prop} {w:World}
theorem holds_of{rows:Y (List Tree)}{sz:Nat}(hs:A6 sz rows){b s:Nat}{c:Array Value}{e:E}(hb:w.heap[b]? =some (.cells c e (0,0)))(hr:cj P G w I (aJ rows) c s sz):Holds id w b s (nN rows):=by
 intro p hp;have hp':p<rows.length*sz:=by rw[<- fp hs];simpa[nN]using hp
 have hsz:0<sz:=Nat.pos_of_ne_zero λh=>by rw[h]at hp';simp at hp'
 have hi:p/sz<rows.length:=by rw[Nat.div_lt_iff_lt_mul hsz];exact hp'
 have hj:p%sz<sz:=Nat.mod_lt _ hsz;have hpe:p/sz*sz+p%sz=p:=by rw[Nat.mul_comm];exact Nat.div_add_mod p sz
 have hri:rows[p/sz]? =some rows[p/sz]:=dI hi;obtain⟨hl,ht⟩:=hs _ (getElem_mem hi);have h1:=(pW _ _ _ _).1 hr (p/sz) ((rows[p/sz]).map AV.t) (by simp[aJ,hi]);have hjr:p%sz<(rows[p/sz]).length:=by omega
 obtain⟨v,hv,hv1⟩:=ht _ (getElem_mem hjr);obtain⟨u,hu,hvu,_⟩:=(jO _ _ _).1 h1.2 (p%sz) (.t (rows[p/sz][p%sz])) (by simp);rw[hv]at hvu;have hfl:(rows.flatMap yB)[p]? =some v:=by have:=flat_get hs hri hj;rw[hpe]at this;rw[this];simp[yB,hjr,hv]
 have hg:(nN rows)[p]! =v:=by
  rw[getElem!_def];have:(nN rows)[p]? =some v:=by simpa[nN]using hfl
  rw[this]
 have hcell:c[s+p]? =some u:=by rw[<- hpe,<- Nat.add_assoc];exact hu
 rw[hg];simp[World.cell?,hb];simp[hcell,hvu.1];simp[World.frozen?,hb]
theorem anx{rows':Y (List Tree)}{sz:Nat}(hs':A6 sz rows'){s:Nat}{c:Array Value}(hsz:s+rows'.length*sz<=c.size):
 cj P G w I (aJ rows') (putCells id s (nN rows') c) s sz:=by
 rw[pW];intro i r hi;simp[aJ]at hi;obtain⟨r0,hi,rfl⟩:=hi;obtain⟨hl,ht⟩:=hs' _ (bT hi);have hilt:=(bU.1 hi).1;refine⟨by simpa using hl,?_⟩;rw[jO];intro j x hj;simp at hj;obtain⟨t,hj,rfl⟩:=hj;obtain⟨v,rfl,hv1⟩:=ht t (bT hj);have hjlt:=(bU.1 hj).1;have hm:(i+1)*sz<=rows'.length*sz:=Nat.mul_le_mul_right _ hilt;rw[Nat.add_mul]at hm;have hfl:(rows'.flatMap yB)[i*sz+j]? =some v:=by rw[flat_get hs' hi (by omega)];simp[yB,hj]
 have hlen:(nN rows').size=rows'.length*sz:=by simp[nN,fp hs']
 have hg:(nN rows')[i*sz+j]! =v:=by
  rw[getElem!_def];have:(nN rows')[i*sz+j]? =some v:=by simpa[nN]using hfl
  rw[this]
 refine⟨v,?_,by simp[VR,TR,hv1],hv1⟩;have hk:s+i*sz+j<c.size:=by omega
 simp only[putCells,Array.getElem?_mapIdx,Array.getElem?_eq_getElem hk,Option.map_some];rw[aP ⟨by omega,by omega⟩,show s+i*sz+j-s=i*sz+j by omega,hg];rfl
end
theorem afY{P:Q}{f:FuncId}(hcall:eH P f){sz:Nat}{rows rows':Y (List Tree)}{more:Y AV}(hs:A6 sz rows)(hs':A6 sz rows')(hl:rows'.length=rows.length)
 (h0:rows=[]->∀(G:Nat->J dc) (I:Nat->Prop) (w:World) (vs:Y Value),br P G w I more vs->Calls P f ⟨.slice none 0 0::vs⟩ w λe w'=>e=.returned (.tuple #[])/\∃n os,w'=grow (Sort.ahead w n) os)
 (h:∀(b aa cap:Nat) (G:Nat->J dc) (I:Nat->Prop) (w:World) (vs:Y Value),br P G w I more vs->¬I b->(∀ b,I b->b<w.heap.size)->Holds id w b aa (nN rows)->b<w.heap.size->Calls P f ⟨.slice (some ⟨b,aa,none⟩) rows.length cap::vs⟩ w λe w'=>
  e=.returned (.tuple #[])/\∃n os,w'=grow (putRow id (Sort.ahead w n) b aa (nN rows')) os):
 ro P f (.own 0 0 rows.length::more) [(sz,rows)] [some (sz,rows')] (.eE []):=by
 refine⟨hcall,λw G I vs hβ hM hvs=>?_⟩;have hgr:∀(w:World)(n:Nat)(os:Array Obj),Below w.heap.size w (grow (Sort.ahead w n) os):=λw n os=>⟨rfl,rfl,rfl,by simp,λk hk=>by simp[grow];rw[Array.getElem?_append_left hk]⟩;obtain⟨vs⟩:=vs
 match vs,hvs with
 |v::ae,hvs=>
  have hv:=hvs.1;have hr:=hvs.2;have hk:te [(sz,rows)] 0=some ⟨sz,aJ rows⟩:=rfl;have fin:∀w':World,Mem P w (qR G I) G I (Dr [some (sz,rows')]) w'->SZ P w G I [some (sz,rows')] (.eE []) (.returned (.tuple #[])) w':=λw' hm=>⟨_,I,rfl,hm,λ_ h=>h,#[],rfl,by simp[Wo]⟩;have hbel:∀(obj:Nat->J aN)(w1 w':World),Mem P w (qR G I) G I obj w1->Below w1.heap.size w1 w'->Mem P w (qR G I) G I obj w':=λobj w1 w' hm hb=>(hm.below hb (I':=I) (λ _ h=>h) (λ b hb'=>Nat.lt_of_lt_of_le (hm.lt b hb') hb.size) (λ b k o B h1 h2 h3 h4=>(hm.ownB k o B b h2 h3 h4).1 h1) hm.up).2;have tE:∀k o,Dr [some (sz,rows')] k=some o->k=0/\o=⟨sz,aJ rows'⟩:=by
   intro k o hk';cases k with
   |zero=>simp[Dr]at hk';exact⟨rfl,hk'.symm⟩
   |succ k=>simp[Dr]at hk'
  rcases hv with ⟨hn,rfl,_,hlen⟩|⟨b,sz',n,cap,o,Rr,rfl,hcap,hfit,ho⟩;have e0:rows=[]:=eq_nil_of_length_eq_zero hlen;have e1:rows'=[]:=eq_nil_of_length_eq_zero (by rw[hl,hlen]);refine(h0 e0 G I w ae hr).mono ?_;rintro e w' ⟨rfl,m,os,rfl⟩;refine fin _ (hbel _ w _ (hM.weak λk o' hk'=>?_) (hgr w m os));obtain⟨rfl,rfl⟩:=tE k o' hk';refine⟨_,hk,λB hB hO=>?_⟩;rw[e0]at hO;rw[e1];exact hO;obtain⟨B,hB,hO⟩:=hM.du 0 _ hk;rw[Rr]at hB;cases hB;obtain⟨hz,c,e,hheap,hcs,hrows⟩:=hO;subst hz;have hblk:=(hM.own 0 _ b _ n hk Rr).2.1;have B5:(nN rows).size=rows.length*sz':=by simp[nN,fp hs]
  have hH:Holds id w b o (nN rows):=by by_cases hc0:cap=0;intro p hp;have:rows.length=0:=(by omega);rw[B5,this]at hp;simp at hp;have e1:o=n.s:=(by have:=ho hc0;omega);rw[e1];exact holds_of hs hheap hrows
  refine(h b o cap G I w ae hr (hM.own 0 _ b _ n hk Rr).1 hM.lt hH hblk).mono ?_;rintro e' w' ⟨rfl,m,os,rfl⟩;have hsw:putRow id (Sort.ahead w m) b o (nN rows')=Sort.ahead (putRow id w b o (nN rows')) m:=rfl;have hw1:Mem P w (qR G I) G I (bX (te [(sz',rows)]) [(0,some ⟨sz',aJ rows'⟩)]) (putRow id w b o (nN rows')):=by have hnew:(putRow id w b o (nN rows')).heap[b]? =some (.cells (putCells id o (nN rows') c) e (0,0)):=(by simp[putRow,mapBlock,Array.getElem?_modify,hheap,onCells]);have hoth:∀b',b'≠b->(putRow id w b o (nN rows')).heap[b']? =w.heap[b']? :=λb' hb'=>(by simp[putRow,mapBlock,Array.getElem?_modify,aM (Ne.symm hb')]);have hcsz:(putCells id o (nN rows') c).size=c.size:=(by simp[putCells]);refine(hM.write (o':=⟨sz',aJ rows'⟩) hk Rr hnew hoth (by simp) rfl rfl rfl rfl (by rw[hcsz];exact hcs) ?_).2;by_cases hc0:cap=0;have e1:rows'=[]:=eq_nil_of_length_eq_zero (by omega);rw[e1];simp[aJ,cj];have e1:o=n.s:=(by have:=ho hc0;omega);rw[e1];refine anx hs' ?_;have:rows.length*sz'<=cap*sz':=Nat.mul_le_mul_right _ hcap;rw[hl,hcs];simp at hfit;omega
  refine fin _ (hbel _ _ _ (hw1.weak λk o' hk'=>?_) (hgr _ m os));obtain⟨rfl,rfl⟩:=tE k o' hk';exact⟨_,rfl,λ_ _ h=>h⟩
end Go.Gb
namespace Go.Gb
open Go.RowKit Go.Proofs Go.Shelf
open Go.Sort hiding Below
theorem anz{α:Type}[Inhabited α]{enc:α->Y Value}{k:Nat}{row:α->Y Tree}(he:∀x,enc x=yB (row x))(hs:∀x,(row x).length=k/\∀t∈row x,∃v,t=.sc v/\oneCell v)(l:Y α):
 flatK enc k l.toArray=nN (l.map row):=by
 have hS:A6 k (l.map row):=by intro r hr;obtain⟨x,_,rfl⟩:=mem_map.1 hr;exact hs x
 have hlen:(nN (l.map row)).size=l.length*k:=by simp[nN,fp hS]
 refine Array.ext (by rw[hlen];simp) λt h1 h2=>?_;rw[hlen]at h2;have hk:0<k:=Nat.pos_of_ne_zero λh=>by rw[h]at h2;simp at h2
 have hi:t/k<l.length:=by rw[Nat.div_lt_iff_lt_mul hk];exact h2
 have hj:t%k<k:=Nat.mod_lt _ hk;have hte:t/k*k+t%k=t:=by rw[Nat.mul_comm];exact Nat.div_add_mod t k
 have e1:=get_flatK enc k l.toArray t (by simpa using h2);rw[getElem!_pos _ t h1]at e1;rw[e1];have e2:=flat_get hS (i:=t/k) (j:=t%k) (r:=row l[t/k]) (by simp[hi]) hj;rw[hte]at e2;have e3:l.toArray[t/k]! =l[t/k]:=by rw[getElem!_pos _ _ (by simpa using hi)];simp
 rw[e3,he];have hjl:t%k<(yB (row l[t/k])).length:=by rw[DU,(hs _).1];exact hj
 rw[getElem!_pos (yB (row l[t/k])) _ hjl];rw[dI hjl]at e2;have h3:t<((l.map row).flatMap yB).length:=by rw[fp hS];simpa using h2
 rw[dI h3]at e2;injection e2 with e2;exact e2.symm
theorem OQ{P:Q}{t:E}{fs:Array Field}(h:P.underlying t=some (.struct fs))(w:M):(isAgg t).run P w=.ok true w:=by simp[isAgg,run_underlying h]
theorem Mi{P:Q}{t:E}{k:Nat}(h:(P.info? t).map (·.size)=some k)(w:M):(Go.sizeOf t).run P w=.ok k w:=by
 cases hi:P.info? t with
 |none=>rw[hi]at h;cases h
 |some i=>
  rw[hi]at h;cases h;simp[Go.sizeOf,typeInfo,hi]
theorem grown_of{w w':M}(h:Below w.heap.size w w')(hd:w.drawn<=w'.drawn):∃q os,w'=grow (w.drewN q) os:=by
 obtain⟨h1,h2,h3,h4,h5⟩:=h;obtain⟨hp,tp,dr,o,ou⟩:=w';obtain⟨hp0,tp0,dr0,o0,ou0⟩:=w;simp at h1 h2 h3 h4 h5 hd;subst h1;subst h2;subst h3;refine⟨dr-dr0,hp.extract hp0.size,?_⟩;simp only[grow,World.drewN];have e1:dr0+(dr-dr0)=dr:=by omega
 have e2:hp0++hp.extract hp0.size=hp:=by refine Array.ext_getElem? λi=>?_;rw[Array.getElem?_append];split;rename_i hi;exact(h5 i hi).symm;rw[Array.getElem?_extract];split;congr 1;omega;symm;rw[Array.getElem?_eq_none_iff];omega
 rw[e1,e2]
def OF{α:Type}(lt:α->α->Bool)(L:Y α):Bool:=
 L.all λx=>!lt x x&&L.all λy=>L.all λz=>(!(lt x y&&lt y z) || lt x z)&&(lt x y || (lt y z || !lt x z))
def OT{α:Type}[Inhabited α](l:Y α)(Z:α×α×Unit->J Int):J (List α):=
 bif Nat.ble l.length 1099511627775&&((default::l).all λx=>(default::l).all λy=>(Z (x,y,())).isSome)&&(OF (λ x y=>decide ((Z (x,y,())).getD 0<0)) (default::l) || Nat.ble l.length 12)then
  some (iP (λ x y=>decide ((Z (x,y,())).getD 0<0)) l)else none
theorem afZ{α:Type}[Inhabited α]{l:Y α}{Z:α×α×Unit->J Int}(f:α->α->Int)(hφ:∀x y,Z (x,y,())=some (f x y)){lt:α->α->Bool}(hf:∀x y,decide (f x y<0)=lt x y)(hS:SWO lt)(hl:l.length<1099511627776):OT l Z=some (iP lt l):=by
 have e:(λ x y=>decide ((Z (x,y,())).getD 0<0))=lt:=by funext x y;rw[hφ];exact hf x y
 unfold OT;have h1:Nat.ble l.length 1099511627775=true:=Nat.ble_eq_true_of_le (by omega);have h2:((default::l).all λx=>(default::l).all λy=>(Z (x,y,())).isSome)=true:=by simp[hφ]
 have h3:OF lt (default::l)=true:=by
  simp only[OF,all_eq_true,aT,Bool.or_eq_true,Bool.not_eq_true'];refine λx _=>⟨hS.irrefl x,λy _ z _=>⟨?_,?_⟩⟩;cases h1:lt x y<;>cases h2:lt y z<;>first|exact .inl rfl|exact .inr (hS.trans x y z h1 h2)
  cases h1:lt x y<;>cases h2:lt y z<;>first|exact .inl rfl|exact .inr (.inl rfl)|exact .inr (.inr (hS.ntrans x y z h1 h2))
 rw[e,h1,h2,h3];rfl
section
variable {α:Type} [Inhabited α] {lt:α->α->Bool}
theorem Ye(a:Nat):∀(j:Nat)(d:Array α),(insInner lt a j d).size=d.size
 | 0,_=>rfl
 |j+1,d=>by simp only[insInner];split;rw[Ye a j];simp[swp];rfl
theorem Yf(a b i:Nat)(d:Array α):(insOuter lt a b i d).size=d.size:=by rw[insOuter];split;rw[Yf a b (i+1),Ye];rfl
termination_by b-i
theorem TU{l:Y α}(h:l.length<=12):iP lt l=(insertionSort lt l.toArray 0 l.length).toList:=by have:=pdq_eq lt l.toArray 0 l.toArray.size (bitsLen l.toArray.size) true true;rw[aP (by simpa using h)]at this;unfold iP Go.Sort.sort;rw[this];simp
theorem zM{l:Y α}(h:l.length<=12):(iP lt l).length=l.length:=by rw[TU h,Array.length_toList,insertionSort,Yf];simp
end
def P1(l:Y Int):J (List Int):=bif Nat.ble l.length 1099511627775 then some (kG px l)else none
theorem alq{P:Q}{ρ:Ren}{f:FuncId}(L:SlLaysM.n5 P ρ)(hf:ρ.f 5=f)(hcall:eH P f){l r:Y Int}(h:P1 l=some r):
 ro P f [.own 0 0 l.length] [(1,l.map λx=>[.sc (.int .i64 x)])] [some (1,r.map λx=>[.sc (.int .i64 x)])] (.eE []):=by
 subst hf;unfold P1 at h;cases hb:Nat.ble l.length 1099511627775 with
 |false=>rw[hb]at h;cases h
 |true=>
  rw[hb]at h;injection h with h;have hw:=Nat.le_of_ble_eq_true hb;have hS:∀l:Y Int,A6 1 (l.map λx=>[Tree.sc (.int .i64 x)]):=by intro l r hr;obtain⟨x,_,rfl⟩:=mem_map.1 hr;exact⟨rfl,λt ht=>⟨_,bC.1 ht,trivial⟩⟩
  have hF:∀l:Y Int,nN (l.map λx=>[Tree.sc (.int .i64 x)])=(l.map (Value.int .i64)).toArray:=by
   intro l;simp[nN,List.flatMap_map]
   induction l with
   |nil=>rfl
   |cons a l ih=>rw[List.flatMap_cons,ih];rfl
  have hP:∀(w:World)(b aa:Nat)(l:Y Int),putRow id w b aa (l.map (Value.int .i64)).toArray=putRow (Value.int .i64) w b aa l.toArray:=by intro w b aa l;unfold putRow putCells;congr 1;funext c;congr 1;funext k x;simp only[List.size_toArray,length_map,id];split;have hk2:k-aa<l.length:=(by omega);rw[getElem!_pos _ _ (by simpa using hk2),getElem!_pos _ _ (by simpa using hk2)];simp;rfl
  have hlen:r.length=l.length:=by rw[<- h];exact(Fu px l).length_eq
  have:=afY hcall (more:=[]) (hS l) (hS r) (by simpa using hlen) (λ h0 G I w vs hv=>?_) (λ b aa cap G I w vs hv hb hlt hH hblk=>?_);simpa using this
  match vs,hv with
  |[],_=>
   refine(AnyM.slices_Sort_int_none L none 0 w).mono ?_;rintro e w' ⟨rfl,rfl⟩;exact⟨rfl,0,#[],by simp⟩
  match vs,hv with
  |[],_=>
   have hH':Holds (Value.int .i64) w b aa l.toArray:=(by intro j hj;have hj2:j<l.length:=(by simpa using hj);rw[hF]at hH;have:=hH j (by simpa using hj2);rw[getElem!_pos _ j (by simpa using hj2)]at this |-;simpa using this);have hm:=AnyM.slices_Sort_int L b aa cap l w hH' hblk (by omega);simp;refine hm.mono ?_;rintro e w' ⟨rfl,n,os,rfl⟩;refine⟨rfl,n,os,?_⟩;rw[hF,hP,<- h,aax]
theorem Yg{w:M}{I:Ψ}:∀{cs:Y Tree},(∀ t∈cs,∃v,t=.sc v/\oneCell v)->fy w I cs (yB cs)
 |[],_=>by simp[fy,yB]
 |t::cs,h=>by obtain⟨v,rfl,hv⟩:=h t (by simp);have ih:=Yg (w:=w) (I:=I) (cs:=cs) λt ht=>h t (by simp[ht]);simp only[yB,bq,fy,TR]at ih |-;exact⟨⟨trivial,hv⟩,ih⟩
theorem Rh{P:Q}{ρ:Ren}{f:FuncId}(L:SlLaysF0.n6 P ρ)(hf:ρ.f 6=f)(hcall:eH P f){X:SX}{i:X.ι}[hI:Inhabited (CT.T X.toSE (.st i))]{fs:Array Field}
 (ha:P.underlying (ρ.t 24)=some (.struct fs)) (hz:(P.info? (ρ.t 24)).map (·.size)=some (CT.sz X (.st i)))
 (hsc:∀x:CT.T X.toSE (.st i),∀t∈CT.row X.toSE (.st i) x,∃v,t=.sc v/\oneCell v)
 {l r:Y (CT.T X.toSE (.st i))} {Z:(CT.T X.toSE (.st i)×CT.T X.toSE (.st i)×Unit)->J Int} (h:OT l Z=some r):
 ro P f [.own 0 0 l.length,.eC λts u=>∃(h:HL X.toSE [.st i,.st i])(x:Int),Z h=some x/\ts=HL.oY X.toSE [.st i,.st i] h/\u=CT.tv X.toSE (.int .i64) x]
  [(CT.sz X (.st i),l.map (CT.row X.toSE (.st i)))] [some (CT.sz X (.st i),r.map (CT.row X.toSE (.st i)))] (.eE []):=by
 subst hf;unfold OT at h;generalize hg:(Nat.ble l.length 1099511627775&&((default::l).all λx=>(default::l).all λy=>(Z (x,y,())).isSome)&&(OF (λ x y=>decide ((Z (x,y,())).getD 0<0)) (default::l) || Nat.ble l.length 12))=b at h;cases b with
 |false=>cases h
 |true=>
  injection h with h;simp only[aT]at hg;obtain⟨⟨hl0,hsome⟩,ut⟩:=hg;have hl:=Nat.le_of_ble_eq_true hl0
  let β':={ x:CT.T X.toSE (.st i) // x∈default::l }
  letI:Inhabited β':=⟨⟨default,by simp⟩⟩
  let cf:β'->β'->Int:=λx y=>(Z (x.1,y.1,())).getD 0
  have hφ:∀x y:β',Z (x.1,y.1,())=some (cf x y):=by intro x y;rw[all_eq_true]at hsome;have h1:=hsome x.1 x.2;rw[all_eq_true]at h1;obtain⟨r,hr⟩:=Option.isSome_iff_exists.1 (h1 y.1 y.2);simp only[cf,hr];rfl
  have hO:SWO (ltOf cf)\/l.length<=12:=by rw[Bool.or_eq_true]at ut;refine ut.imp (λ ut=>?_) Nat.le_of_ble_eq_true;simp only[OF,all_eq_true,aT,Bool.or_eq_true,Bool.not_eq_true']at ut;refine⟨λ x=>(ut x.1 x.2).1,λx y z h1 h2=>?_,λx y z h1 h2=>?_⟩;rcases ((ut x.1 x.2).2 y.1 y.2 z.1 z.2).1 with h|h;rw[Bool.and_eq_false_iff]at h;rcases h with h|h;exact absurd (h1.symm.trans h) (by decide);exact absurd (h2.symm.trans h) (by decide);exact h;rcases ((ut x.1 x.2).2 y.1 y.2 z.1 z.2).2 with h|h|h;exact absurd (h1.symm.trans h) (by decide);exact absurd (h2.symm.trans h) (by decide);exact h
  let l':Y β':=l.attach.map λx=>⟨x.1,by simp[x.2]⟩
  have hl':l'.map Subtype.val=l:=by simp only[l',map_map];exact List.attach_map_subtype_val l
  have hr':(iP (ltOf cf) l').map Subtype.val=r:=by have:=afO (f:=λx:β'=>x.1) rfl (λ x y=>decide ((Z (x,y,())).getD 0<0)) l';rw[hl',h]at this;exact this.symm
  have hrow:=λx=>IL (X:=X) (.st i) x;have hS:∀l:Y (CT.T X.toSE (.st i)),A6 (CT.sz X (.st i)) (l.map (CT.row X.toSE (.st i))):=by intro l r hr;obtain⟨x,_,rfl⟩:=mem_map.1 hr;exact⟨hrow x,hsc x⟩
  have hF:=anz (α:=β') (enc:=λx=>yB (CT.row X.toSE (.st i) x.1)) (row:=λx=>CT.row X.toSE (.st i) x.1) (λ _=>rfl) λx=>⟨hrow x.1,hsc x.1⟩;have hm1:l'.map (λ x=>CT.row X.toSE (.st i) x.1)=l.map (CT.row X.toSE (.st i)):=by
   conv=>rhs;rw[<- hl',map_map]
   rfl
  have hm2:(iP (ltOf cf) l').map (λ x=>CT.row X.toSE (.st i) x.1)=r.map (CT.row X.toSE (.st i)):=by rw[<- hr',map_map];rfl
  have hll:l'.length=l.length:=by simp[l']
  have hlen:r.length=l.length:=by rw[<- hr',length_map,hO.elim (λ hO=>Fq hO l') λh=>zM (by omega),hll]
  have:=afY hcall (more:=[.eC λts u=>∃(h:HL X.toSE [.st i,.st i])(x:Int),Z h=some x/\ts=HL.oY X.toSE [.st i,.st i] h/\u=CT.tv X.toSE (.int .i64) x]) (hS l) (hS r) (by simpa using hlen) (λ h0 G I w vs hv=>?_) (λ b aa cap G I w vs hv hb hlt hH hblk=>?_);simpa using this
  match vs,hv with
  |[v],_=>
   refine(AnyF.slices_SortFunc_none L none 0 v w).mono ?_;rintro e w' ⟨rfl,rfl⟩;exact⟨rfl,0,#[],by simp[Sort.ahead]⟩
  match vs,hv with
  |[v],hv=>
   simp only[br,VR]at hv;obtain⟨⟨g,first,cb,rfl,rfl,hg1,hg2,wx⟩,_⟩:=hv;obtain⟨fn,hfn⟩:=Option.isSome_iff_exists.1 hg2;obtain⟨c,hbody⟩:=Option.isSome_iff_exists.1 (hg1 fn hfn).1;rw[<- hm1,<- hF l']at hH;have hone:∀x:β',∀v∈yB (CT.row X.toSE (.st i) x.1),v.oneCell'=true:=λx v hv=>(by obtain⟨t,ht,rfl⟩:=mem_map.1 hv;obtain⟨u,rfl,hu⟩:=hsc x.1 t ht;cases u<;>simp_all [oneCell,Value.oneCell']);have LL:∀x:β',(yB (CT.row X.toSE (.st i) x.1)).length=CT.sz X (.st i):=λx=>(by rw[DU,hrow]);have hm:CmpLays P g cb (λ x:β'=>yB (CT.row X.toSE (.st i) x.1)) (CT.sz X (.st i)) cf b aa l'.toArray.size w->Calls P (ρ.f 6) #[.slice (some ⟨b,aa,none⟩) l'.toArray.size cap,.func (.func g) #[] cb] w λe w'=>e=.returned (.tuple #[])/\∃n os,w'=sortWorldK (λ x:β'=>yB (CT.row X.toSE (.st i) x.1)) (CT.sz X (.st i)) w b aa n (iP (ltOf cf) l').toArray os:=λhc=>(by rcases hO with hO|h12;refine(AnyQ.slices_SortFunc_eq L (CT.sz X (.st i)) (OQ ha) (Mi hz) _ LL hone cf hO g cb b aa cap l'.toArray w (enters_of hfn (hg1 fn hfn).2 hbody) hc hH hblk (by simp[hll];omega)).mono ?_;rintro e w' ⟨rfl,n,os,rfl⟩;refine⟨rfl,n,os,?_⟩;rw[bitLen_eq _ (by simp[hll];omega)];rfl;refine(AnyQ.slices_SortFunc_small L (CT.sz X (.st i)) (OQ ha) (Mi hz) _ LL hone cf g cb b aa cap l'.toArray w (enters_of hfn (hg1 fn hfn).2 hbody) hc hH hblk (by simp[hll];omega) λn W hn=>?_).mono ?_;have h:=Any.bits_Len (SlLaysF0.n15.bits (P:=P) (ρ:=ρ) { L with }) (n:Int) W (by omega) (by omega);exact h.mono λe w' h=>⟨⟨_,h.1⟩,h.2⟩;rintro e w' ⟨rfl,n,os,rfl⟩;refine⟨rfl,n,os,?_⟩;rw[TU (by omega)];simp);simp[length_map];simp only[List.size_toArray,hll]at hm;refine(hm ?_).mono ?_
   rotate_left
   rintro e w' ⟨rfl,n,os,rfl⟩;refine⟨rfl,n,os,?_⟩;rw[<- hm2,<- hF];rfl;intro m os dk hs x y;have hsame:Same I w (sortWorldK (λ x:β'=>yB (CT.row X.toSE (.st i) x.1)) (CT.sz X (.st i)) w b aa m dk os):=(by intro b' hb';have h1:=hlt b' hb';simp[sortWorldK,grow,putRowK,putRow,mapBlock,Sort.ahead];rw[Array.getElem?_append_left (by simpa using h1),Array.getElem?_modify,aM (by rintro rfl;exact hb hb')])
   have hc:=wx _ I _ ⟨[.agg (yB (CT.row X.toSE (.st i) x.1)).toArray,.agg (yB (CT.row X.toSE (.st i) y.1)).toArray]⟩ _ (λ _ h=>h) hsame
    (λ b' hb'=>Nat.lt_of_lt_of_le (hlt b' hb') (by simp[sortWorldK,grow,putRowK,putRow,mapBlock,Sort.ahead])) ⟨(x.1,y.1,()),cf x y,hφ x y,rfl,rfl⟩
    ⟨⟨_,rfl,Yg (hsc x.1)⟩,⟨_,rfl,Yg (hsc y.1)⟩,trivial⟩
   refine(afX hc (λ w' ⟨_,_,he,_⟩=>by cases he)).mono ?_;rintro e w' ⟨⟨u,I',rfl,hbel,_,_,_,hu⟩,hd⟩;refine⟨?_,grown_of hbel hd⟩;rw[hu.1]
end Go.Gb
namespace Go.Gb
open Go.RowKit
def Kp(n0 B0:Nat)(W W':M):Prop:=Below n0 W W'/\∀b,B0<=b->b<W.heap.size->W'.heap[b]? =W.heap[b]?
theorem Kp.refl(n0 B0:Nat)(W:M):Kp n0 B0 W W:=⟨Below.refl _ _,λ_ _ _=>rfl⟩
theorem Kp.trans{n0 B0:Nat}{X Y φ:M}(h:Kp n0 B0 X Y)(k:Kp n0 B0 Y φ):Kp n0 B0 X φ:=
 ⟨h.1.trans k.1,λb hb hl=>(k.2 b hb (Nat.lt_of_lt_of_le hl h.1.size)).trans (h.2 b hb hl)⟩
theorem Kp.mono{n0 n1 B0 B1:Nat}{X Y:M}(h:Kp n0 B0 X Y)(hn:n1<=n0)(hb:B0<=B1):Kp n1 B1 X Y:=
 ⟨h.1.mono hn,λb h1 h2=>h.2 b (Nat.le_trans hb h1) h2⟩
theorem Kp.alloc{n0 B0:Nat}{X Y:M}(h:Kp n0 B0 X Y)(hn:n0<=Y.heap.size)(o:Obj):Kp n0 B0 X (Y.alloc o):=
 h.trans ⟨(Below.refl _ Y).alloc hn o,λb _ hl=>Below.heap_alloc Y o b hl⟩
theorem Kp.put{n0 B0:Nat}(W:M)(l:Nat)(o o':Obj)(h:W.heap[l]? =some o)(h1:n0<=l)(h2:l<B0):Kp n0 B0 W (W.putObj l o'):=
 ⟨(Below.refl n0 W).grown (grownBy_putObj' W l o') (by have:=(Array.getElem?_eq_some_iff.1 h).1;omega) (λ k e=>by cases e;omega),λb hb _=>World.putObj_heap_other (by omega)⟩
def zv{α:Type}(B0:Nat)(J:α->World->Prop):Prop:=∀s A B,J s A->Below B0 A B->J s B
theorem zv.and{α:Type}{B0:Nat}{I J:α->World->Prop}(h:zv B0 I)(k:zv B0 J):zv B0 λs W=>I s W/\J s W:=λs A B hs hb=>⟨h s A B hs.1 hb,k s A B hs.2 hb⟩
theorem zv.mono{α:Type}{B0 B1:Nat}{J:α->World->Prop}(h:zv B0 J)(hb:B0<=B1):zv B1 J:=λs A B hs hk=>h s A B hs (hk.mono hb)
theorem aqQ{α:Type}{n0 B0 B1:Nat}{w:M}(hw:w.heap.size<=B1)(hn:n0<=B1):zv B1 (λ (_:α) W=>Kp n0 B0 w W):=λ_ A B hs hb=>
 ⟨hs.1.trans (hb.mono hn),λb h1 h2=>(hb.block b (by omega)).trans (hs.2 b h1 h2)⟩
def arM{α:Type}(P:Q)(g:Nat)(lb:Array Value)(encs:α->Array Value)(n0:Nat)(ys:Y α)(N:World->Prop)(w:M):Prop:=
 ∀(n l B0 L:Nat)(J:Y α->World->Prop)(W:World),Below w.heap.size w W->n0<=B0->B0<=W.heap.size->zv B0 J->(∀ s W,J s W->N W)->
  (∀ m pre x W1,x∈ys->pre.length<L->J pre W1->B0<=W1.heap.size->YieldAt Fence.wide m P l (encs x) W1 λe W'=>e=.returned (.bool true)/\J (pre++[x]) W'/\Kp n0 B0 W1 W')->∀pre,pre.length+ys.length<=L->J pre W->
  CallsIn Fence.wide n P g (#[.func (.yield l) #[] #[]]++lb) W λe W'=>(∃ v,e=.returned v)/\J (pre++ys) W'/\Kp n0 B0 W W'
variable {n:Nat} {P:Program}
theorem DW{α:Type}{g:Operand}{ps:Array Tmp}{assign body:Code}{Ξ:Exit->Act->World->Prop}{a:Act}{w:M}
 {gf:Nat} {lb:Array Value} (hg:a.eval g=.func (.func gf) #[] lb) (eg:∀args w,(callFunc gf args).run P w=.ok (.enter gf args) w)
 {encs:α->Array Value} {n0:Nat} {ys:Y α} {N:World->Prop} {w0:M} (hseq:arM P gf lb encs n0 ys N w0) (hb0:Below w0.heap.size w0 w) (hn0:n0<=w.heap.size) (hps:∀x,(encs x).size=ps.size)
 (I:Y α->World->Prop) (hI:zv w.heap.size I) (hN:∀s W,I s W->N W) (h0:I [] w) (a₁:α->Act)
 (hassign:∀(l:Nat)(x:α)(W:World)(K:Act->World->Prop),K (a₁ x) W->
  assign.wpIn (Fence.wide.inRound l) (n-1-1) P (Exit.then K (λ _ _ _=>False)) { tmps:=(ps.zip (encs x)).foldl (λ t (p,v)=>t.setIfInBounds p v) a.tmps,defers:=[] } W)
 (hbody:∀(l:Nat)(pre:Y α)(x:α)(W:World),x∈ys->pre.length<ys.length->I pre W->w.heap.size+2<=W.heap.size->body.wpIn (Fence.wide.inRound l) (n-1-1) P (λ e _ W'=>e=.normal/\I (pre++[x]) W'/\Kp n0 w.heap.size W W') (a₁ x) W)
 (hdone:∀(D:Nat)(W:World),w.heap.size<=D->I ys W->Below n0 w W->W.heap[D]? =some (.deferred (some []))->Ξ .normal { a with defers:={ target:=.collected D,args:=#[] }::a.defers } W):
 (Code.rangeFunc g ps assign body).wpIn Fence.wide n P Ξ a w:=by
 refine wpIn_rangeFunc ?_;intro fn hfn;show _;obtain⟨rec,hrec⟩:∃rec:LoopState->J Code->Loop,rec=λst pe=>{ state:=st,pending:=pe,fn,tmps:=a.tmps,params:=ps,assign,body,defers:=w.heap.size }:=⟨_,rfl⟩;obtain⟨W1,hW1⟩:∃W1,(w.alloc (.deferred (some []))).alloc (.loop (rec .ready none))=W1:=⟨_,rfl⟩;have hL1:W1.heap[w.heap.size+1]? =some (.loop (rec .ready none)):=by rw[<- hW1];have:=World.alloc_heap_new (w.alloc (.deferred (some []))) (.loop (rec .ready none));rwa [World.size_alloc]at this
 have hK1:W1.heap[w.heap.size]? =some (.deferred (some [])):=by rw[<- hW1];exact(Below.heap_alloc _ _ _ (by simp)).trans (World.alloc_heap_new w _)
 have hs1:W1.heap.size=w.heap.size+2:=by rw[<- hW1];simp
 have hb1:Below w.heap.size w W1:=by rw[<- hW1];exact((Below.refl _ w).alloc (aB _) _).alloc (by simp) _
 have hI1:I [] W1:=hI _ _ _ h0 hb1
 refine⟨w.heap.size+1,[{ target:=.collected w.heap.size,args:=#[] }],W1,{ target:=.fn (.func gf) lb,args:=#[.func (.yield (w.heap.size+1)) #[] #[]] },W1,gf,
  #[.func (.yield (w.heap.size+1)) #[] #[]]++lb,W1,?_,?_,?_,?_,λh=>by simp[Fence.wide]at h,?_⟩
 .rw[<- hW1,hrec];exact run_enterLoop_outer _ _ _ _ _
 .simp only[resolve,hg];simp[go_sem]
 .intro f' hf';trivial
 .simp[invoke,go_sem,eg]
 .refine(hseq (n-1) (w.heap.size+1) (w.heap.size+2) ys.length (λ pre W=>I pre W/\W.heap[w.heap.size+1]? =some (.loop (rec .ready none))/\W.heap[w.heap.size]? =some (.deferred (some []))) W1
   (hb0.trans (hb1.mono hb0.size)) (by omega) (by omega) (λ s A B hs hb=>⟨hI s A B hs.1 (hb.mono (by omega)),(hb.block _ (by omega)).trans hs.2.1,(hb.block _ (by omega)).trans hs.2.2⟩) (λ s W h=>hN s W h.1) ?_ [] (by simp) ⟨hI1,hL1,hK1⟩).mono ?_
  .rintro m pre x W hxy hpl ⟨hi,hl,hk⟩ hsz;have hlt:w.heap.size+1<W.heap.size:=(Array.getElem?_eq_some_iff.1 hl).1;have hy:=run_yield (P:=P) (args:=encs x) hl (by rw[hrec];exact hps x);rw[hrec]at hy
   suffices h:YieldAt Fence.wide (n-1-1) P (w.heap.size+1) (encs x) W λe W'=>e=.returned (.bool true)/\(I (pre++[x]) W'/\W'.heap[w.heap.size+1]? =some (.loop (rec .ready none))/\W'.heap[w.heap.size]? =some (.deferred (some [])))/\Kp n0 (w.heap.size+2) W W' by obtain⟨f1,t1,c1,c2,h1,h2⟩:=h;exact⟨f1,t1,c1,c2,h1,h2.1,λc cs _=>h2.2 c cs (λ d h=>by simp[Fence.wide]at h)⟩
   refine⟨fn,_,assign,body,hy,roundIn_of_wpIn hfn (hassign _ x W _ ⟨_,run_beginRound hl (by rw[hrec]),?_⟩)⟩;have hl2:(W.putObj (w.heap.size+1) (.loop { rec .ready none with state:=.busy })).heap[w.heap.size+1]? =some (.loop { rec .ready none with state:=.busy }):=World.putObj_heap_same hlt;have hk2:(W.putObj (w.heap.size+1) (.loop { rec .ready none with state:=.busy })).heap[w.heap.size]? =some (.deferred (some [])):=(World.putObj_heap_other (by omega)).trans hk;have hw2:Kp n0 (w.heap.size+2) W (W.putObj (w.heap.size+1) (.loop { rec .ready none with state:=.busy })):=Kp.put _ _ _ _ hl (by omega) (by omega);have D3:∀o,(W.putObj (w.heap.size+1) o).heap.size=W.heap.size:=λo=>(by simp[World.putObj]);have hbw:Below w.heap.size W (W.putObj (w.heap.size+1) (.loop { rec .ready none with state:=.busy })):=(Kp.put (n0:=w.heap.size) (B0:=w.heap.size+2) _ _ _ _ hl (by omega) (by omega)).1;refine wpIn_mono (hbody _ pre x _ hxy hpl (hI _ _ _ hi hbw) (by rw[D3];omega)) ?_;rintro e a3 W3 ⟨rfl,hi3,hk3⟩;have hl3:=(hk3.2 (w.heap.size+1) (by omega) (by rw[D3];omega)).trans hl2;have hd3:=(hk3.2 w.heap.size (aB _) (by rw[D3];omega)).trans hk2;have hr:=run_endRound (P:=P) none hl3;rw[hrec]at hr;have E0:=hl3;rw[hrec]at E0;refine⟨_,_,hr,rfl,⟨hI _ _ _ hi3 (Kp.put (n0:=w.heap.size) (B0:=w.heap.size+2) _ _ _ _ E0 (by omega) (by omega)).1,?_,(World.putObj_heap_other (by omega)).trans hd3⟩,?_⟩
   .rw[hrec];exact World.putObj_heap_same (Array.getElem?_eq_some_iff.1 hl3).1
   .exact hw2.trans ((hk3.mono (aB _) (by omega)).trans (Kp.put _ _ _ _ E0 (by omega) (by omega)))
  .rintro e W2 ⟨⟨v,rfl⟩,⟨hi,hl,hk⟩,hkp⟩;rw[fI]at hi;have he:=run_endLoop (P:=P) hl (by rw[hrec];simp);rw[hrec]at he;refine⟨none,_,he,hdone _ _ (aB _) (hI _ _ _ hi ?_) ?_ ((World.putObj_heap_other (by omega)).trans hk)⟩
   .exact(Kp.put (n0:=w.heap.size) (B0:=w.heap.size+2) W2 _ _ _ hl (by omega) (by omega)).1
   .exact((hb1.mono hn0).trans hkp.1).trans (Kp.put (n0:=n0) (B0:=w.heap.size+2) W2 _ _ _ hl (by omega) (by omega)).1
end Go.Gb
namespace Go.Proofs
open Go.RowKit Go.Maps Go.Sort Go.Shelf
def Tryz.keys290_ren:Go.Shelf.Ren:=⟨λ| 7=>290| 10=>304|n=>n,λ| 23=>295| 26=>9| 3=>4| 28=>371| 0=>0| 27=>370| 33=>255| 4=>4|n=>n,λ|n=>n⟩
theorem Tryz.keys290:Go.Proofs.SlLaysZ.n7 Tryz.prog Tryz.keys290_ren:={
 mixed:=by kernel_rfl
 f7:=⟨Tryz.f290.name,by decide,Tryz.func290.trans (congrArg some (by kernel_rfl))⟩
 f10:=⟨Tryz.f304.name,by decide,Tryz.func304.trans (congrArg some (by kernel_rfl))⟩
 t0:=Tryz.underlying0
 a0:=Tryz.isAgg0
 z0:=Tryz.sizeOf0
 v0:=Tryz.zeroValue0
 t4:=Tryz.underlying4
 a4:=Tryz.isAgg4
 z4:=Tryz.sizeOf4
 v4:=Tryz.zeroValue4
 t23:=Tryz.underlying295
 a23:=Tryz.isAgg295
 z23:=Tryz.sizeOf295
 v23:=Tryz.zeroValue295
 t26:=Tryz.underlying9
 a26:=Tryz.isAgg9
 z26:=Tryz.sizeOf9
 v26:=Tryz.zeroValue9
 t27:=Tryz.underlying370
 a27:=Tryz.isAgg370
 z27:=Tryz.sizeOf370
 v27:=Tryz.zeroValue370
 t28:=Tryz.underlying371
 a28:=Tryz.isAgg371
 z28:=Tryz.sizeOf371
 v28:=Tryz.zeroValue371
 t33:=Tryz.underlying255
 a33:=Tryz.isAgg255
 z33:=Tryz.sizeOf255
 v33:=Tryz.zeroValue255 }
def Tryz.sorted289_ren:Go.Shelf.Ren:=⟨λ| 6=>289| 8=>302| 9=>303| 11=>310| 13=>97| 12=>311| 23=>142| 24=>143| 14=>313| 15=>314| 16=>315| 17=>316| 18=>317| 19=>318| 20=>319| 21=>320| 22=>321| 25=>324| 26=>188| 27=>189| 28=>325| 29=>326| 30=>306| 31=>327|n=>n,λ| 26=>9| 28=>371| 24=>101| 0=>0| 3=>3| 37=>151| 48=>225| 50=>227| 4=>4| 40=>218| 39=>217| 45=>222| 5=>5| 9=>9| 51=>272| 55=>276| 57=>317| 58=>314| 33=>255|n=>n,λ|n=>n⟩
theorem Tryz.sorted289:Go.Proofs.SlLaysZ.n6 Tryz.prog Tryz.sorted289_ren:={
 mixed:=by kernel_rfl
 f6:=⟨Tryz.f289.name,by decide,Tryz.func289.trans (congrArg some (by kernel_rfl))⟩
 f8:=⟨Tryz.f302.name,by decide,Tryz.func302.trans (congrArg some (by kernel_rfl))⟩
 f11:=⟨Tryz.f310.name,by decide,Tryz.func310.trans (congrArg some (by kernel_rfl))⟩
 t0:=Tryz.underlying0
 a0:=Tryz.isAgg0
 z0:=Tryz.sizeOf0
 v0:=Tryz.zeroValue0
 t24:=Tryz.underlying101
 a24:=Tryz.isAgg101
 z24:=Tryz.sizeOf101
 v24:=Tryz.zeroValue101
 t26:=Tryz.underlying9
 a26:=Tryz.isAgg9
 z26:=Tryz.sizeOf9
 v26:=Tryz.zeroValue9
 t28:=Tryz.underlying371
 a28:=Tryz.isAgg371
 z28:=Tryz.sizeOf371
 v28:=Tryz.zeroValue371
 i26:=by kernel_rfl }
def Tryz.sort303_ren:Go.Shelf.Ren:=⟨λ| 6=>303| 8=>97| 9=>311| 19=>142| 20=>143| 21=>313| 22=>314| 23=>315| 24=>316| 25=>317| 26=>318| 27=>319| 28=>320| 29=>321| 36=>324| 31=>188| 32=>189| 37=>325| 38=>326| 39=>306| 41=>327|n=>n,λ| 27=>101| 29=>9| 3=>3| 32=>151| 26=>101| 0=>0| 44=>225| 46=>227| 4=>4| 36=>218| 35=>217| 41=>222| 5=>5| 9=>9| 53=>272| 57=>276| 63=>317| 64=>314|n=>n,λ|n=>n⟩
theorem Tryz.sort303:Go.Proofs.SlLaysM.n6 Tryz.prog Tryz.sort303_ren:={
 mixed:=by kernel_rfl
 f6:=⟨Tryz.f303.name,by decide,Tryz.func303.trans (congrArg some (by kernel_rfl))⟩
 f8:=Tryz.func97.trans (congrArg some (by kernel_rfl))
 f9:=⟨Tryz.f311.name,by decide,Tryz.func311.trans (congrArg some (by kernel_rfl))⟩
 f19:=Tryz.func142.trans (congrArg some (by kernel_rfl))
 f20:=Tryz.func143.trans (congrArg some (by kernel_rfl))
 f21:=⟨Tryz.f313.name,by decide,Tryz.func313.trans (congrArg some (by kernel_rfl))⟩
 f22:=⟨Tryz.f314.name,by decide,Tryz.func314.trans (congrArg some (by kernel_rfl))⟩
 f23:=⟨Tryz.f315.name,by decide,Tryz.func315.trans (congrArg some (by kernel_rfl))⟩
 f24:=⟨Tryz.f316.name,by decide,Tryz.func316.trans (congrArg some (by kernel_rfl))⟩
 f25:=⟨Tryz.f317.name,by decide,Tryz.func317.trans (congrArg some (by kernel_rfl))⟩
 f26:=⟨Tryz.f318.name,by decide,Tryz.func318.trans (congrArg some (by kernel_rfl))⟩
 f27:=⟨Tryz.f319.name,by decide,Tryz.func319.trans (congrArg some (by kernel_rfl))⟩
 f28:=⟨Tryz.f320.name,by decide,Tryz.func320.trans (congrArg some (by kernel_rfl))⟩
 f29:=⟨Tryz.f321.name,by decide,Tryz.func321.trans (congrArg some (by kernel_rfl))⟩
 f31:=Tryz.func188.trans (congrArg some (by kernel_rfl))
 f32:=Tryz.func189.trans (congrArg some (by kernel_rfl))
 f36:=⟨Tryz.f324.name,by decide,Tryz.func324.trans (congrArg some (by kernel_rfl))⟩
 f37:=⟨Tryz.f325.name,by decide,Tryz.func325.trans (congrArg some (by kernel_rfl))⟩
 f38:=⟨Tryz.f326.name,by decide,Tryz.func326.trans (congrArg some (by kernel_rfl))⟩
 f39:=⟨Tryz.f306.name,by decide,Tryz.func306.trans (congrArg some (by kernel_rfl))⟩
 f41:=⟨Tryz.f327.name,by decide,Tryz.func327.trans (congrArg some (by kernel_rfl))⟩
 t0:=Tryz.underlying0
 a0:=Tryz.isAgg0
 z0:=Tryz.sizeOf0
 v0:=Tryz.zeroValue0
 t3:=Tryz.underlying3
 a3:=Tryz.isAgg3
 z3:=Tryz.sizeOf3
 v3:=Tryz.zeroValue3
 t4:=Tryz.underlying4
 a4:=Tryz.isAgg4
 z4:=Tryz.sizeOf4
 v4:=Tryz.zeroValue4
 t5:=Tryz.underlying5
 a5:=Tryz.isAgg5
 z5:=Tryz.sizeOf5
 v5:=Tryz.zeroValue5
 t9:=Tryz.underlying9
 a9:=Tryz.isAgg9
 z9:=Tryz.sizeOf9
 v9:=Tryz.zeroValue9
 t26:=Tryz.underlying101
 a26:=Tryz.isAgg101
 z26:=Tryz.sizeOf101
 v26:=Tryz.zeroValue101
 t27:=Tryz.underlying101
 a27:=Tryz.isAgg101
 z27:=Tryz.sizeOf101
 v27:=Tryz.zeroValue101
 t29:=Tryz.underlying9
 a29:=Tryz.isAgg9
 z29:=Tryz.sizeOf9
 v29:=Tryz.zeroValue9
 t32:=Tryz.underlying151
 a32:=Tryz.isAgg151
 z32:=Tryz.sizeOf151
 v32:=Tryz.zeroValue151
 t35:=Tryz.underlying217
 a35:=Tryz.isAgg217
 z35:=Tryz.sizeOf217
 v35:=Tryz.zeroValue217
 t36:=Tryz.underlying218
 a36:=Tryz.isAgg218
 z36:=Tryz.sizeOf218
 v36:=Tryz.zeroValue218
 t41:=Tryz.underlying222
 a41:=Tryz.isAgg222
 z41:=Tryz.sizeOf222
 v41:=Tryz.zeroValue222
 t44:=Tryz.underlying225
 a44:=Tryz.isAgg225
 z44:=Tryz.sizeOf225
 v44:=Tryz.zeroValue225
 t46:=Tryz.underlying227
 a46:=Tryz.isAgg227
 z46:=Tryz.sizeOf227
 v46:=Tryz.zeroValue227
 t53:=Tryz.underlying272
 a53:=Tryz.isAgg272
 z53:=Tryz.sizeOf272
 v53:=Tryz.zeroValue272
 t57:=Tryz.underlying276
 a57:=Tryz.isAgg276
 z57:=Tryz.sizeOf276
 v57:=Tryz.zeroValue276
 t63:=Tryz.underlying317
 a63:=Tryz.isAgg317
 z63:=Tryz.sizeOf317
 v63:=Tryz.zeroValue317
 t64:=Tryz.underlying314
 a64:=Tryz.isAgg314
 z64:=Tryz.sizeOf314
 v64:=Tryz.zeroValue314 }
theorem Tryz.sorts289(m:Nat):AnyZ.SortsIn Tryz.prog Tryz.sorted289_ren Fence.wide m:=
 ⟨λ blk aa cap ss W hH hblk hsz=>callsIn_wide.2 (AnyM.slices_Sort_string Tryz.sort303 blk aa cap ss W hH hblk hsz),
  λp cap W=>callsIn_wide.2 (AnyM.slices_Sort_string_none Tryz.sort303 p cap W)⟩
theorem Tryz.maps_Keys_290(mb:J Nat)(W:M):CallsIn Fence.wide 5 Tryz.prog 290 #[.map mb] W λe w'=>e=.returned (.func (.func 304) #[] #[.pointer (some ⟨W.heap.size,0,none⟩)])/\w'=W.alloc (.cells #[.map mb] 295):=
 AnyZ.keys_in Tryz.keys290 Fence.wide 5 trivial rfl mb W
set_option maxHeartbeats 1000000 in
theorem Tryz.slices_Sorted_keys_289_290{H:Type}(b nn:Nat)(D0:DataW H)(R:Value->J (DataW H×List MemPlace))(w:M)(hown:w.ownsMap Tryz.prog 9 R b nn D0)(hmax:Maps.size D0<=maxLen)(hbytes:Maps.size D0*16<=140737488355328):
 CallsIn Fence.wide 5 Tryz.prog 289 #[.func (.func 304) #[] #[.pointer (some ⟨w.heap.size,0,none⟩)]] (w.alloc (.cells #[.map (some b)] 295)) λe w'=>∃(v:Value)(ss:Y (List UInt8)),e=.returned v/\ss.Perm (strKeys D0)/\
  w'.ownsRow (w.alloc (.cells #[.map (some b)] 295)).heap.size 9 1 v ss.length ((ss.mergeSort (λ x y=>decide (x<=y))).map encStr)/\(v=.slice none 0 0↔ss=[])/\Below (w.alloc (.cells #[.map (some b)] 295)).heap.size (w.alloc (.cells #[.map (some b)] 295)) w':=by
 have hbl:=hown.lt;have hseq:SeqGives Fence.wide 2 Tryz.prog 304 #[.pointer (some ⟨w.heap.size,0,none⟩)] encStr (λ ss=>ss.Perm (strKeys D0)) (Maps.size D0) (w.alloc (.cells #[.map (some b)] 295)):=
  AnyZ.keys_gives (ρ:=Tryz.keys290_ren) { Tryz.keys290 with } Fence.wide _ trivial rfl (by omega) w.heap.size b nn D0 _ (by simp) (by simp) (by obtain⟨es,clock,hb,Ft,hs,hD⟩:=hown;exact⟨es,clock,(Below.heap_alloc _ _ b hbl).trans hb,Ft,hs,hD⟩)
 exact AnyZ.sorted_in Tryz.sorted289 Fence.wide 5 trivial trivial trivial trivial rfl (by omega) (Tryz.sorts289 _) (enters_of Tryz.func303 (by kernel_rfl) rfl) 304 #[.pointer (some ⟨w.heap.size,0,none⟩)] trivial (enters_of Tryz.func304 (by kernel_rfl) rfl) _ _ hmax hbytes _ hseq
end Go.Proofs
namespace Go.Proofs
open Go.RowKit Go.Shelf Go.Gb Go.Maps Go.Sort
attribute [local go_sem] Oper.semAt_some
set_option maxHeartbeats 1000000 in
theorem af2(n:Nat)(v0 v1 v2 v3 v4:Ω)(w:M):
 CallsIn Fence.wide n Tryz.prog 288 #[.agg #[v0,v1,v2,v3,v4]] w λe w'=>e=.returned (.func (.func 301) #[] #[.pointer (some ⟨w.heap.size,0,none⟩)])/\w'=w.alloc (.cells #[v0,v1,v2,v3,v4] 104):=by
 have hro:Fence.wide.round=none:=rfl;refine callsIn_of_wp Tryz.func288 rfl trivial ?_ hro;simp only[Tryz.ntmps288,List.size_toArray,d9,length_nil,Nat.reduceAdd,Nat.reduceSub,Array.replicate_succ,Array.replicate_zero,List.push_toArray,List.append_toArray,fI,cons_append]
 gi_wp2
 go_ret
 exact⟨rfl,rfl⟩
def anB(D:Nat):Deferred:={ target:=.collected D,args:=#[] }
theorem OU{P:Q}{fn:Func}{tmps:Array Value}{n:Nat}{R:Ending->World->Prop}:∀(Ds:Y Nat)(W:World),Ds.Nodup->(∀ D∈Ds,W.heap[D]? =some (.deferred (some [])))->
 (∀ W',(∀ B,(∀ D∈Ds,B<=D)->Below B W W')->LeavesIn Fence.wide n P fn tmps R [] .returning W')->LeavesInM Fence.wide n P fn tmps R (Ds.map anB) .returning W
 |[],W,_,_,h=>h W λ_ _=>Below.refl _ _
 |D::Ds,W,hn,hd,h=>by
  simp only[List.nodup_cons]at hn;have hD:=hd D (by simp);refine⟨by simp,.inl ⟨D,_,rfl,run_takeDeferred hD,OU Ds _ hn.2 (λ D' hD'=>?_) λW' hW'=>h W' λB hB=>?_⟩⟩
  .rw[World.putObj_heap_other (by rintro rfl;exact hn.1 hD')];exact hd D' (by simp[hD'])
  .have h1:=hB D (by simp);exact(Kp.put (n0:=B) (B0:=D+1) W D _ _ hD h1 (by omega)).1.trans (hW' B λD' h'=>hB D' (by simp[h']))
noncomputable def arN:Code->Code
 |.seq _ b=>b
 |c=>c
structure aqR(p:Prop):Prop where
 h:p
theorem MR{F:Fence}{n:Nat}{P:Q}{Ξ:Exit->Act->World->Prop}{a:Act}{w:M}{x y:Code}(h:∀K:Act->World->Prop,(∀ a w,aqR (y.wpIn F n P Ξ a w)->K a w)->x.wpIn F n P (Exit.then K Ξ) a w):(Code.seq x y).wpIn F n P Ξ a w:=wpIn_seq_k λK hK=>h K λa w h=>hK a w h.h
noncomputable abbrev DB:Code:=arN (arN (Tryz.f301.body.getD .skip))
set_option maxRecDepth 100000 in
set_option maxHeartbeats 4000000 in
theorem anC:∀(k:Nat)(t:ET),SizeOf.sizeOf t<=k->∀(n0 Bx:Nat)(v0 v1 v2 v3 v4:Value)(w:World),n0<=Bx->Bx<w.heap.size->oa n0 w t [v0,v1,v2,v3,v4]->
 arM Tryz.prog 301 #[.pointer (some ⟨Bx,0,none⟩)] (λ s:ByteArray=>#[.string s]) n0 t.names (λ W=>W.heap[Bx]? =some (.cells #[v0,v1,v2,v3,v4] 104)) w
 | 0,.mk op s args,hk=>by simp at hk
 |k+1,.mk op s args,hk=>by
  intro n0 Bx v0 v1 v2 v3 v4 w hnB hBw hE n l B0 L J W hW hn0 hB0 hJ hN hY pre hpL hJ0;have hro:Fence.wide.round=none:=rfl;simp only[oa,List.cons.injEq,and_true]at hE;obtain⟨nn,key,sl,⟨⟨rfl,rfl,rfl,rfl,rfl⟩,hlen,hssz⟩,Mm⟩:=hE;have hbx:=hN _ _ hJ0;have hB1:Below B0 W (W.alloc (.cells #[.func (.yield l) #[] #[]] 255)):=(Below.refl _ W).alloc hB0 _;have asV:Bx<W.heap.size:=(Array.getElem?_eq_some_iff.1 hbx).1;have Mb:(W.alloc (.cells #[.func (.yield l) #[] #[]] 255)).heap[Bx]? =_:=(Below.heap_alloc W _ Bx asV).trans hbx;have c0:(W.alloc (.cells #[.func (.yield l) #[] #[]] 255)).cell? ⟨Bx,0,none⟩=some (.int .i64 op):=by simp[World.cell?,Mb]
  have c2:(W.alloc (.cells #[.func (.yield l) #[] #[]] 255)).cell? ⟨Bx,2,none⟩=some (.string s):=by simp[World.cell?,Mb]
  have bY:=Boxed.new W 255 (.func (.yield l) #[] #[]);have cY:=bY.cell;have hk1:Kp n0 B0 W (W.alloc (.cells #[.func (.yield l) #[] #[]] 255)):=(Kp.refl _ _ _).alloc (by omega) _
  have ae:∀(hd:Y ByteArray)(Wb:World)(g6 g7 g8 g9 g10 g11 g12 g13 g14:Value),(if op=1 then [s]else [])=hd->J (pre++hd) Wb->Kp n0 B0 W Wb->Boxed Wb W.heap.size 255 (.func (.yield l) #[] #[])->
   DB.wpIn Fence.wide n Tryz.prog (bodyPostM Fence.wide n Tryz.prog Tryz.f301 λe W'=>(∃ v,e=Ending.returned v)/\J (pre++(ET.mk op s args).names) W'/\Kp n0 B0 W W')
    { tmps:=#[.func (.yield l) #[] #[],.pointer (some ⟨Bx,0,none⟩),.pointer (some ⟨W.heap.size,0,none⟩),undef,undef,undef,g6,g7,g8,g9,g10,g11,g12,g13,g14,.bool false,undef,undef,undef,undef,undef,undef,undef,undef,undef,undef,undef,undef,undef,undef,undef],defers:=[] } Wb:=by
   intro hd Wb g6 g7 g8 g9 g10 g11 g12 g13 g14 hhd hJb hkb bYb;have asQ:=hN _ _ hJb;have c4:Wb.cell? ⟨Bx,4,none⟩=some v4:=(by simp[World.cell?,asQ]);obtain⟨sa,sc,rfl⟩:∃sa sc,v4=.slice sa args.length sc:=by
    rcases Mm with ⟨rfl,a,cap,rfl⟩|⟨b,aa,cap,rfl,_⟩
    .exact⟨_,_,rfl⟩
    .exact⟨_,_,rfl⟩
   refine MR λK hK=>?_
   gi_wp2
   refine⟨wpIn_block (wpIn_loop (λ a' W'=>∃(i:Nat) (Ds:Y Nat) (g4 g5 g16 g20 g21 g22 g23 g24 g25 g26 g27 g28 g29 g30:Value),i<=args.length/\
    a'={ tmps:=#[.func (.yield l) #[] #[],.pointer (some ⟨Bx,0,none⟩),.pointer (some ⟨W.heap.size,0,none⟩),undef,g4,g5,g6,g7,g8,g9,g10,g11,g12,g13,g14,.bool false,g16,.slice sa args.length sc,.int .i64 args.length,.int .i64 i,g20,g21,g22,g23,g24,g25,g26,g27,g28,g29,g30],defers:=Ds.map anB }/\
    Ds.Nodup/\(∀ D∈Ds,W.heap.size<=D/\W'.heap[D]? =some (.deferred (some [])))/\J (pre++hd++ET.ey (args.take i)) W'/\Kp n0 B0 W W'/\Boxed W' W.heap.size 255 (.func (.yield l) #[] #[]))
    (λ a' _=>args.length-(intOf (a'.tmps.getD 19 undef)).toNat)
    ⟨0,[],_,_,_,_,_,_,_,_,_,_,_,_,_,_,Nat.zero_le _,rfl,List.nodup_nil,by simp,by simpa[ET.ey]using hJb,hkb,bYb⟩ ?_)⟩
   rintro a' W' ⟨i,Ds,g4,g5,g16,g20,g21,g22,g23,g24,g25,g26,g27,g28,g29,g30,hi,rfl,hnd,hDs,hJi,hki,bYi⟩;by_cases hlt:i<args.length
   .rcases Mm with ⟨h0,_⟩|⟨b,aa,cap,he,hb,hs⟩
    .rw[h0]at hlt;exact absurd hlt (Nat.not_lt_zero _)
    simp only[Value.slice.injEq,true_and]at he;obtain⟨rfl,rfl⟩:=he;have hwi:Below n0 w W':=(hW.mono (by omega)).trans hki.1;obtain⟨ti,hti⟩:∃ti,args[i]? =some ti:=⟨_,dI hlt⟩;obtain⟨vs,q,hEi⟩:=(i7.below hwi args b aa hb hs).get hti;obtain⟨u0,u1,u2,u3,u4,rfl,hone⟩:∃u0 u1 u2 u3 u4,vs=[u0,u1,u2,u3,u4]/\(#[u0,u1,u2,u3,u4]:Array Value).all (·.oneCell')=true:=(by cases ti;simp only[oa]at hEi;obtain⟨n',key',sl',⟨h,_⟩,h'⟩:=hEi;refine⟨_,_,_,_,_,h,?_⟩;rcases h' with ⟨_,_,_,rfl⟩|⟨_,_,_,rfl,_⟩<;>simp[Value.oneCell']);have o0:=λz1 z2 z3 z4=>bW Tryz.prog W' #[.int .i64 0,z1,z2,z3,z4] 104 0 u0 (by simp) (by simpa using (Array.all_eq_true.1 hone) 0 (by simp));have o1:=λz2 z3 z4=>bW Tryz.prog W' #[u0,.int .i64 0,z2,z3,z4] 104 1 u1 (by simp) (by simpa using (Array.all_eq_true.1 hone) 1 (by simp));have o2:=λz3 z4=>bW Tryz.prog W' #[u0,u1,.string { data:=#[] },z3,z4] 104 2 u2 (by simp) (by simpa using (Array.all_eq_true.1 hone) 2 (by simp));have o3:=λz4=>bW Tryz.prog W' #[u0,u1,u2,.string { data:=#[] },z4] 104 3 u3 (by simp) (by simpa using (Array.all_eq_true.1 hone) 3 (by simp));have o4:=bW Tryz.prog W' #[u0,u1,u2,u3,.slice none 0 0] 104 4 u4 (by simp) (by simpa using (Array.all_eq_true.1 hone) 4 (by simp));simp only[List.set_toArray,List.set]at o0 o1 o2 o3 o4;have hn:=World.alloc_heap_new W' (.cells #[u0,u1,u2,u3,u4] 104);have r0:(W'.alloc (.cells #[u0,u1,u2,u3,u4] 104)).cell? ⟨W'.heap.size,0,none⟩=some u0:=(by simp only[World.cell?,hn];rfl);have r1:(W'.alloc (.cells #[u0,u1,u2,u3,u4] 104)).cell? ⟨W'.heap.size,1,none⟩=some u1:=(by simp only[World.cell?,hn];rfl);have r2:(W'.alloc (.cells #[u0,u1,u2,u3,u4] 104)).cell? ⟨W'.heap.size,2,none⟩=some u2:=(by simp only[World.cell?,hn];rfl);have r3:(W'.alloc (.cells #[u0,u1,u2,u3,u4] 104)).cell? ⟨W'.heap.size,3,none⟩=some u3:=(by simp only[World.cell?,hn];rfl);have r4:(W'.alloc (.cells #[u0,u1,u2,u3,u4] 104)).cell? ⟨W'.heap.size,4,none⟩=some u4:=(by simp only[World.cell?,hn];rfl);have q0:W'.cell? ⟨b,aa+i*5,none⟩=some u0:=q 0 _ rfl;have q1:W'.cell? ⟨b,aa+i*5+1,none⟩=some u1:=q 1 _ rfl;have q2:W'.cell? ⟨b,aa+i*5+2,none⟩=some u2:=q 2 _ rfl;have q3:W'.cell? ⟨b,aa+i*5+3,none⟩=some u3:=q 3 _ rfl;have q4:W'.cell? ⟨b,aa+i*5+4,none⟩=some u4:=q 4 _ rfl
    gi_wp2_with (refine ⟨trivial,λh=>by simp[Fence.wide]at h,?_⟩;refine(af2 (n-1) u0 u1 u2 u3 u4 _).mono ?_;rintro e w' ⟨rfl,rfl⟩)
    have Z1:SizeOf.sizeOf ti<=k:=(by have h1:=List.sizeOf_lt_of_mem (bT hti);simp only[ET.mk.sizeOf_spec]at hk;omega);obtain⟨Wd,hWd⟩:∃Wd,(W'.alloc (.cells #[u0,u1,u2,u3,u4] 104)).alloc (.cells #[u0,u1,u2,u3,u4] 104)=Wd:=⟨_,rfl⟩;have hsd:Wd.heap.size=W'.heap.size+2:=(by rw[<- hWd];simp);have hWsz:W.heap.size<=W'.heap.size:=hki.1.size;have hkd:Kp n0 B0 W' Wd:=(by rw[<- hWd];exact((Kp.refl _ _ _).alloc (by omega) _).alloc (by simp;omega) _);have hbd:Below W'.heap.size W' Wd:=(by rw[<- hWd];exact((Below.refl _ _).alloc (aB _) _).alloc (by simp) _);have hxd:Wd.heap[W'.heap.size+1]? =some (.cells #[u0,u1,u2,u3,u4] 104):=by
     rw[<- hWd];have:=World.alloc_heap_new (W'.alloc (.cells #[u0,u1,u2,u3,u4] 104)) (.cells #[u0,u1,u2,u3,u4] 104)
     rwa [World.size_alloc]at this
    rw[hWd];have hDl:∀D∈Ds,D<W'.heap.size:=λD hD=>(Array.getElem?_eq_some_iff.1 (hDs D hD).2).1
    refine DW (gf:=301) (lb:=#[.pointer (some ⟨W'.heap.size+1,0,none⟩)]) rfl (enters_of Tryz.func301 (by kernel_rfl) rfl)
     (anC k ti Z1 n0 (W'.heap.size+1) u0 u1 u2 u3 u4 Wd (by omega) (by omega) (hEi.below' (hbd.mono (by omega)))) (Below.refl _ _) (by omega) (λ _=>rfl)
     (λ q X=>(J (pre++hd++ET.ey (args.take i)++q) X/\Kp n0 B0 W X)/\(Boxed X W.heap.size 255 (.func (.yield l) #[] #[])/\(∀ D∈Ds,X.heap[D]? =some (.deferred (some []))))/\X.heap[W'.heap.size+1]? =some (.cells #[u0,u1,u2,u3,u4] 104))
     (λ s A B hs hb=>⟨⟨hJ _ _ _ hs.1.1 (hb.mono (by omega)),aqQ (α:=Unit) (B1:=Wd.heap.size) (by omega) (by omega) () A B hs.1.2 hb⟩,
      ⟨(hb.block _ (by omega)).trans hs.2.1.1,λD hD=>(hb.block _ (by have:=hDl D hD;omega)).trans (hs.2.1.2 D hD)⟩,(hb.block _ (by omega)).trans hs.2.2⟩)
     (λ s X hs=>hs.2.2)
     ⟨⟨by simpa using hJ _ _ _ hJi (hbd.mono (by omega)),hki.trans hkd⟩,⟨(hbd.block _ (by have:=bYi.lt;omega)).trans bYi,λD hD=>(hbd.block _ (hDl D hD)).trans (hDs D hD).2⟩,hxd⟩
     (λ x=>{ tmps:=#[.func (.yield l) #[] #[],.pointer (some ⟨Bx,0,none⟩),.pointer (some ⟨W.heap.size,0,none⟩),undef,.pointer (some ⟨W'.heap.size,0,none⟩),.string x,g6,g7,g8,g9,g10,g11,g12,g13,g14,.bool false,g16,.slice (some ⟨b,aa,none⟩) args.length sc,.int .i64 args.length,.int .i64 i,.bool true,.pointer (some ⟨b,aa+i*5,none⟩),.agg #[u0,u1,u2,u3,u4],.agg #[u0,u1,u2,u3,u4],.func (.func 301) #[] #[.pointer (some ⟨W'.heap.size+1,0,none⟩)],.string x,g26,g27,g28,g29,g30],defers:=[] })
     ?assign ?body ?done
    case assign=>
     intro l2 x X K hK
     gi_wp2
     exact hK
    case body=>
     rintro l2 q x X hxm B4 ⟨⟨hJx,hkx⟩,⟨N0,hDx⟩,hxx⟩ hsx;have cYx:=N0.cell;obtain⟨fn,tmps,assign,body,hy,hR⟩:=hY (n-1-1-1) (pre++hd++ET.ey (args.take i)++q) x X (ET.sE hti hxm) (by have:=ET.wj args (i+1);rw[ET.pc args i hti]at this;simp only[ET.names,hhd,eU]at this hpL |-;omega) hJx (by omega)
     gi_wp2
     have hR':RoundIn (Fence.wide.inRound l2) (n-1-1-1) Tryz.prog l fn tmps assign body X _:=hR;refine⟨λ h=>by simp[Fence.wide]at h,hR'.mono ?_⟩;rintro e X3 ⟨rfl,hJ3,hk3⟩
     gi_wp2
     have hbig:∀c,B0<=c->c<X.heap.size->X3.heap[c]? =X.heap[c]? :=hk3.2;exact⟨⟨⟨by simpa[aU]using hJ3,hkx.trans hk3⟩,⟨(hbig _ hB0 (by have:=N0.lt;omega)).trans N0,λD hD=>(hbig _ (by have:=(hDs D hD).1;omega) (by have:=hDl D hD;omega)).trans (hDx D hD)⟩,(hbig _ (by omega) (by omega)).trans hxx⟩,hk3.mono (aB _) (by omega)⟩
    case done=>
     rintro D X hD ⟨⟨hJx,hkx⟩,⟨N0,hDx⟩,hxx⟩ hbx' HR
     gi_wp2
     refine⟨⟨i+1,D::Ds,_,_,_,_,_,_,_,_,_,_,_,_,_,_,by omega,rfl,List.nodup_cons.2 ⟨λ hm=>by have:=hDl D hm;omega,hnd⟩,?_,?_,hkx,N0⟩,?_⟩
     .intro D' hD';rcases aI.1 hD' with rfl|h
      .exact⟨by omega,HR⟩
      .exact⟨(hDs D' h).1,hDx D' h⟩
     .rw[ET.pc args i hti,<- aU];exact hJx
     .show args.length-(intOf (.int .i64 ((i:Int)+1))).toNat<args.length-(intOf (.int .i64 (i:Int))).toNat;simp only[intOf];omega
   .gi_wp2
    have hsame:args.take i=args:=List.take_of_length_le (by omega);rw[hsame]at hJi;refine OU Ds W' hnd (λ D hD=>(hDs D hD).2) λW'' asR=>?_;have h1:=asR W.heap.size λD hD=>(hDs D hD).1;refine⟨_,results_none rfl _ _ _,⟨_,rfl⟩,hJ _ _ _ (by simpa[ET.names,hhd,aU]using hJi) (h1.mono hB0),hki.1.trans (h1.mono (by omega)),λb hb hl=>(h1.block b hl).trans (hki.2 b hb hl)⟩
  refine callsIn_of_wp_marks Tryz.func301 rfl trivial ?_ hro;simp only[Tryz.ntmps301,List.size_toArray,d9,length_nil,Nat.reduceAdd,Nat.reduceSub,Array.replicate_succ,Array.replicate_zero,List.push_toArray,List.append_toArray,fI,cons_append];refine MR λK1 hK1=>?_
  gi_wp2
  refine⟨MR λK2 hK2=>?_⟩;by_cases hop:op=1
  .subst hop;obtain⟨fn,tmps,assign,body,hy,hR⟩:=hY (n-1) pre s (W.alloc (.cells #[.func (.yield l) #[] #[]] 255)) (by simp[ET.names]) (by simp[ET.names]at hpL;omega) (hJ _ _ _ hJ0 hB1) (by simp;omega)
   gi_wp2
   refine⟨λ h=>by simp[Fence.wide]at h,hR.mono ?_⟩;rintro e W3 ⟨rfl,hJ3,hk3⟩
   gi_wp2
   exact⟨ae [s] W3 _ _ _ _ _ _ _ _ _ rfl hJ3 (hk1.trans hk3) ((hk3.2 _ hB0 (by simp)).trans bY)⟩
  .gi_wp2
   refine⟨λ _ h=>(by cases h),?_⟩
   gi_wp2
   exact⟨ae [] _ _ _ _ _ _ _ _ _ _ (by simp[hop]) (by simpa using hJ _ _ _ hJ0 hB1) hk1 bY⟩
theorem aqS(s:ByteArray)(h:s.size<=maxLen):keyOf Tryz.prog 9 (.string s)=some (.string s.data.toList):=by rw[keyOf_string Tryz.underlying9];simp[mapKey,Tryz.underlying9,h]
set_option maxRecDepth 100000 in
set_option maxHeartbeats 4000000 in
theorem anD(_:Nat)(t:ET)(v0 v1 v2 v3 v4:Ω)(w:M)(hE:oa w.heap.size w t [v0,v1,v2,v3,v4])(hlen:t.names.length<=1000000000000):
 CallsIn Fence.wide 6 Tryz.prog 268 #[.agg #[v0,v1,v2,v3,v4]] w λe W'=>∃v,e=.returned v/\W'.ownsRow w.heap.size 9 1 v (xQ t.names).length ((xQ t.names).map encStr)/\Below w.heap.size w W':=by
 have hro:Fence.wide.round=none:=rfl;have hmm:=@run_makeMap Tryz.prog;refine callsIn_of_wp_marks Tryz.func268 rfl trivial ?_ hro;simp only[Tryz.ntmps268,List.size_toArray,d9,length_nil,Nat.reduceAdd,Nat.reduceSub,Array.replicate_succ,Array.replicate_zero,List.push_toArray,List.append_toArray,fI,cons_append]
 gi_wp2_with (refine ⟨trivial,?_⟩;refine(af2 5 v0 v1 v2 v3 v4 _).mono ?_;rintro e w' ⟨rfl,rfl⟩)
 obtain⟨Wd,hWd⟩:∃Wd,(((w.alloc (.cells #[v0,v1,v2,v3,v4] 104)).alloc (.map #[] 0)).alloc (.cells #[.map (some (w.heap.size+1))] 295)).alloc (.cells #[v0,v1,v2,v3,v4] 104)=Wd:=⟨_,rfl⟩;have hsd:Wd.heap.size=w.heap.size+4:=by rw[<- hWd];simp
 have hbd:Below w.heap.size w Wd:=by rw[<- hWd];exact((((Below.refl _ w).alloc (aB _) _).alloc (by simp) _).alloc (by simp;omega) _).alloc (by simp;omega) _
 have hbm:Wd.ownsMap Tryz.prog 9 (plainElem (H:=Unit) Tryz.prog 4) (w.heap.size+1) 0 (.map []):=by have:=World.ownsMap_made (w.alloc (.cells #[v0,v1,v2,v3,v4] 104)) Tryz.prog 9 (plainElem (H:=Unit) Tryz.prog 4);rw[World.size_alloc]at this;rw[<- hWd];exact(this.alloc _).alloc _
 have hbs:Wd.heap[w.heap.size+2]? =some (.cells #[.map (some (w.heap.size+1))] 295):=by have:=World.alloc_heap_new ((w.alloc (.cells #[v0,v1,v2,v3,v4] 104)).alloc (.map #[] 0)) (.cells #[.map (some (w.heap.size+1))] 295);simp only[World.size_alloc]at this;rw[<- hWd];exact(Below.heap_alloc _ _ _ (by simp)).trans this
 have hbe:Wd.heap[w.heap.size+3]? =some (.cells #[v0,v1,v2,v3,v4] 104):=by have:=World.alloc_heap_new (((w.alloc (.cells #[v0,v1,v2,v3,v4] 104)).alloc (.map #[] 0)).alloc (.cells #[.map (some (w.heap.size+1))] 295)) (.cells #[v0,v1,v2,v3,v4] 104);simp only[World.size_alloc]at this;rw[<- hWd];exact this
 rw[hWd]
 refine DW (gf:=301) (lb:=#[.pointer (some ⟨w.heap.size+1+1+1,0,none⟩)]) rfl (enters_of Tryz.func301 (by kernel_rfl) rfl)
  (anC _ t (aB _) w.heap.size (w.heap.size+3) v0 v1 v2 v3 v4 Wd (by omega) (by omega) (hE.below' hbd)) (Below.refl _ _) (by omega) (λ _=>rfl)
  (λ q X=>X.ownsMap Tryz.prog 9 (plainElem (H:=Unit) Tryz.prog 4) (w.heap.size+1) q.length (yA q)/\X.heap[w.heap.size+2]? =some (.cells #[.map (some (w.heap.size+1))] 295)/\X.heap[w.heap.size+3]? =some (.cells #[v0,v1,v2,v3,v4] 104))
  (λ s A B hs hb=>⟨by obtain⟨es,ck,h1,h2⟩:=hs.1;exact⟨es,ck,(hb.block _ (by omega)).trans h1,h2⟩,(hb.block _ (by omega)).trans hs.2.1,(hb.block _ (by omega)).trans hs.2.2⟩)
  (λ s X hs=>hs.2.2) ⟨hbm,hbs,hbe⟩
  (λ x=>{ tmps:=#[.agg #[v0,v1,v2,v3,v4],.pointer (some ⟨w.heap.size,0,none⟩),.slice none 0 0,.pointer (some ⟨w.heap.size+1+1,0,none⟩),.string x,.map (some (w.heap.size+1)),.agg #[v0,v1,v2,v3,v4],.func (.func 301) #[] #[.pointer (some ⟨w.heap.size+1+1+1,0,none⟩)],.string x,undef,undef,undef,undef,undef],defers:=[] })
  ?assign ?body ?done
 case assign=>
  intro l2 x X K hK
  gi_wp2
  exact hK
 case body=>
  rintro l2 q x X hxm B4 ⟨hown,hms,hes⟩ hsx;have hxs:=oa.gS t _ hE x hxm;have cS:X.cell? ⟨w.heap.size+1+1,0,none⟩=some (.map (some (w.heap.size+1))):=by simp only[World.cell?,hms];rfl
  gi_wp2_with (gi_at_mapUpdate;refine wpListIn_mapUpdate_own _ rfl _ _ _ 295 rfl 9 4 (Maps.string_keyed Tryz.underlying9) Tryz.underlying295 _ (w.heap.size+1) q.length _ rfl hown (by unfold maxLen;omega) _ _ _ rfl rfl (aqS x hxs) _ [] (plainElem_bool Tryz.underlying4 true) ?_;intro w1 hown1 hgrow1)
  have e1:=hgrow1.block (w.heap.size+2) (by omega) (by simp);have e2:=hgrow1.block (w.heap.size+3) (by omega) (by simp);exact⟨⟨by rw[afP];exact hown1,e1.trans hms,e2.trans hes⟩,(Below.refl _ X).grown hgrow1 (by omega) (λ k e=>by cases e;omega),λb hb hl=>hgrow1.block b hl (by simp;omega)⟩
 case done=>
  rintro D X hD ⟨hown,hms,hes⟩ hbx HR;have cS:X.cell? ⟨w.heap.size+1+1,0,none⟩=some (.map (some (w.heap.size+1))):=by simp only[World.cell?,hms];rfl
  have hsz:Maps.size (yA t.names)<=t.names.length:=afQ _
  gi_wp2_with (first
   |(refine ⟨trivial,?_⟩;refine(Tryz.maps_Keys_290 _ _).mono ?_;rintro e w' ⟨rfl,rfl⟩)
   |(refine ⟨trivial,?_⟩;refine(Tryz.slices_Sorted_keys_289_290 (w.heap.size+1) _ (yA t.names) _ X hown (by unfold maxLen;omega) (by omega)).mono ?_;rintro e w' ⟨v,ss,rfl,hS,hrow,hnil,hb⟩))
  have hkey:∀es,yA t.names=.map es->∀p∈es,∃x,p.1=.string x:=by intro es e p hp;obtain⟨es',e',hko⟩:=hown.keysOf;obtain rfl:es=es':=(by have:=e.symm.trans e';injection this);obtain⟨kv,hkv⟩:=hko p hp;obtain⟨x,_,h,_⟩:=Maps.keyOf_str Tryz.underlying9 hkv;exact⟨x,h⟩
  have hss:ss.mergeSort leB=xQ t.names:=by obtain⟨es,e,_⟩:=hown.keysOf;exact mergeSort_of_perm (hS.trans (aiu t.names e (hkey es e)).symm)
  have hDX:D<X.heap.size:=(Array.getElem?_eq_some_iff.1 HR).1;have hd1:w'.heap[D]? =some (.deferred (some [])):=(hb.block D (by simp;omega)).trans ((Below.heap_alloc X _ D hDX).trans HR);have EV:ss.length=(xQ t.names).length:=by rw[<- hss,List.length_mergeSort]
  have hrow':=(hrow.kept (grownBy_putObj' w' D (.deferred none)) ?_);refine⟨by simp,.inl ⟨_,_,rfl,run_takeDeferred hd1,?_⟩⟩;refine⟨_,results_tmp rfl _ _ _,⟨v,rfl,?_,?_⟩⟩
  .rw[<- EV,<- hss];refine⟨hrow'.1,hrow'.2.imp id ?_⟩;rintro⟨g,cap,cur,h1,h2,h3⟩;exact⟨g,cap,cur,h1,by have:=hbx.size;simp at h2;omega,h3⟩
  .exact(((hbd.trans hbx).alloc (by have:=hbx.size;omega) _).trans (hb.mono (by have:=hbx.size;simp;omega))).trans (Kp.put (n0:=w.heap.size) (B0:=D+1) w' D _ _ hd1 (by omega) (by omega)).1
  .cases hvb:v.ownBlock with
   |none=>exact .inl rfl
   |some g=>
    refine .inr λe=>?_;have:=(hrow.lt g hvb).1;simp at this e;omega
end Go.Proofs
namespace Go.Proofs
open Go.RowKit Go.Maps
theorem akd{n0:Nat}{W:M}{d:ByteArray×ET}{vs:Y Value}(h:WD n0 W d vs):∃u0 u1 u2 u3 u4 u5,vs=[u0,u1,u2,u3,u4,u5]/\(#[u0,u1,u2,u3,u4,u5]:Array Value).all (·.oneCell')=true:=by obtain⟨v0,v1,v2,v3,v4,rfl,_,he⟩:=h;refine⟨_,_,_,_,_,_,rfl,?_⟩;obtain⟨nm,t⟩:=d;cases t;simp only[oa]at he;obtain⟨n',key',sl',⟨h,_⟩,h'⟩:=he;simp only[List.cons.injEq,and_true]at h;obtain⟨rfl,rfl,rfl,rfl,rfl⟩:=h;rcases h' with ⟨_,_,_,rfl⟩|⟨_,_,_,rfl,_⟩<;>simp[Value.oneCell']
def Uu(ds:Y (ByteArray×ET)):Nat->DataW Unit
 | 0=>.map []
 |k+1=>(Uu ds k).put (.string (ds.getD k (⟨#[]⟩,.mk 0 ⟨#[]⟩ [])).1.data.toList) (.lit (.int .i64 k))
theorem Yh(ds:Y (ByteArray×ET)):∀k,IsMap (Uu ds k)
 | 0=>isMap_empty
 |k+1=>(Yh ds k).put _ _
theorem ach(ds:Y (ByteArray×ET))(s:Y UInt8):∀k,has (Uu ds k) (.string s)=(OJ ds s k).isSome/\(Uu ds k).atKey (.string s) (.lit (.int .i64 0))=.lit (.int .i64 ((OJ ds s k).getD 0))
 | 0=>⟨rfl,rfl⟩
 |k+1=>by
  have h:=ach ds s k;simp only[Uu,OJ];split
  .rename_i e;subst e;have hk:WideAt.IsKeyLit (.string (ds.getD k (⟨#[]⟩,.mk 0 ⟨#[]⟩ [])).1.data.toList):=trivial;exact⟨has_put_same (Yh ds k) hk _,atKey_put_same (Yh ds k) hk _ _⟩
  .rename_i e;have hne:(Lit.string s)≠.string (ds.getD k (⟨#[]⟩,.mk 0 ⟨#[]⟩ [])).1.data.toList:=λh=>e (by injection h with h;exact h.symm);rw[has_put_other hne,atKey_put_other hne];exact h
def NgO(w:M)(mB uB:Nat)(sv:Ω)(ds:Y (ByteArray×ET))(i:Nat)(W:M):Prop:=
 ∃us:Y Value,us.length=i/\W.heap[uB]? =some (.cells (us++List.replicate (ds.length-i) (Value.slice none 0 0)).toArray 41)/\
  W.heap[uB+1]? =some (.cells #[sv,.slice (some ⟨uB,0,none⟩) ds.length ds.length] 353)/\W.ownsMap Tryz.prog 9 (plainElem (H:=Unit) Tryz.prog 3) mB ds.length (Uu ds ds.length)/\Below w.heap.size w W/\
  ∀(j:Nat)(v:Value),us[j]? =some v->∃d:ByteArray×ET,ds[j]? =some d/\W.ownsRow (uB+2) 3 1 v (iF ds (xQ d.2.names)).length (Ya (iF ds (xQ d.2.names)))
theorem aay{w:M}{base:Nat}{e:E}{size:Nat}{v:Ω}{n:Nat}{xs:Y Value}(h:w.ownsRow base e size v n xs):∃a cap,v=.slice a n cap:=by
 rcases h.2 with ⟨rfl,rfl⟩|⟨g,cap,_,rfl,_⟩
 .exact⟨_,_,rfl⟩
 .exact⟨_,_,rfl⟩
theorem aaz{w:M}{base:Nat}{e:E}{a:J Addr}{cap n:Nat}{xs:Y Value}(h:w.ownsRow base e 1 (.slice a n cap) n xs)(hn:0<n):∃g,a=some ⟨g,0,none⟩/\base<=g/\g<w.heap.size/\∀j u,xs[j]? =some u->w.cell? ⟨g,j,none⟩=some u:=by
 rcases h.2 with ⟨_,h0⟩|⟨g,c,cur,e1,hg,hgb,_,_,_,ht⟩
 .omega
 .simp only[Value.slice.injEq]at e1;obtain⟨rfl,_,rfl⟩:=e1;refine⟨g,rfl,hg,(Array.getElem?_eq_some_iff.1 hgb).1,λj u hj=>?_⟩;rw[<- ht,List.getElem?_take]at hj;split at hj
  .simpa[World.cell?,hgb]using hj
  .cases hj
def NgI(X:M)(uB:Nat)(us:Y Value)(ds:Y (ByteArray×ET))(r:Nat)(l:Y (List UInt8))(V:M):Prop:=
 ∃va vc v,v=.slice va (iF ds l).length vc/\X.grownBy V (some uB)/\V.heap[uB]? =some (.cells (us++v::List.replicate r (Value.slice none 0 0)).toArray 41)/\V.ownsRow X.heap.size 3 1 v (iF ds l).length (Ya (iF ds l))
theorem anE(w:M):(zeroValue 3).run Tryz.prog w=.ok (.int .i64 0) w:=by kernel_rfl
theorem alr{w:M}{ds:Y (ByteArray×ET)}{nm:Y UInt8}{b n:Nat}(hown:w.ownsMap Tryz.prog 9 (plainElem (H:=Unit) Tryz.prog 3) b n (Uu ds ds.length))(hkey:keyOf Tryz.prog 9 (encStr nm)=some (.string nm)):
 (Instr.lookup 258 (.map (some b)) (encStr nm) true).run Tryz.prog w=.ok (.tuple #[.int .i64 ((OJ ds nm ds.length).getD 0),.bool (OJ ds nm ds.length).isSome]) w:=by
 have h:=ach ds nm ds.length;obtain⟨v,ps,hrun,hv⟩:=hown.look_ok (Maps.string_keyed Tryz.underlying9) Tryz.underlying258 (anE w) (plainElem_int Tryz.underlying3 (by decide)) hkey;obtain⟨c,rfl,hc,_⟩:=plainElem_int_inv Tryz.underlying3 hv;rw[h.2]at hc;have hc2:(OJ ds nm ds.length).getD 0=c:=by have:=congrArg Prod.fst hc;simpa using this
 refine hrun.trans ?_;rw[h.1,hc2]
theorem Yi(ds:Y (ByteArray×ET))(L:Y (List UInt8))(q:Nat){nm:Y UInt8}(h:L[q]? =some nm):iF ds (L.take (q+1))=iF ds (L.take q)++(OJ ds nm ds.length).toList:=by rw[List.take_add_one,h,iF,iF,List.filterMap_append];cases h2:OJ ds nm ds.length<;>simp[h2]
theorem grownBy_set(w:M)(b k:Nat)(v:Ω):w.grownBy (w.setCell ⟨b,k,none⟩ v) (some b):=
 ⟨rfl,rfl,rfl,by simp[World.setCell],λi _ h=>by simp only[World.setCell];rw[Array.getElem?_modify,aM (λ e=>h (by rw[e]))]⟩
theorem aiz{A B:M}{base:Nat}{e:E}{size:Nat}{v:Ω}{n:Nat}{xs:Y Value}{uB:Nat}(h:A.ownsRow base e size v n xs)(hb:uB<base)(hk:∀c,c<A.heap.size->c≠uB->B.heap[c]? =A.heap[c]?):B.ownsRow base e size v n xs:=by refine⟨h.1,h.2.imp id ?_⟩;rintro⟨g,cap,cur,h1,h2,h3,h4⟩;exact⟨g,cap,cur,h1,h2,(hk g (Array.getElem?_eq_some_iff.1 h3).1 (by omega)).trans h3,h4⟩
theorem anF:(Tryz.prog.info? 3).map (λ i=>(i.zero,i.size,i.bytes))=some (some (.int .i64 0),1,8):=by kernel_rfl
theorem anG:(Tryz.prog.info? 41).map (λ i=>(i.zero,i.size,i.bytes))=some (some (.slice none 0 0),1,24):=by kernel_rfl
theorem als(ds:Y (ByteArray×ET))(k:Nat){d:ByteArray×ET}(h:ds[k]? =some d):Uu ds (k+1)=(Uu ds k).put (.string d.1.data.toList) (.lit (.int .i64 k)):=by simp[Uu,List.getD,h]
theorem anH(s:ByteArray)(h:s.size<=maxLen):keyOf Tryz.prog 9 (.string s)=some (.string s.data.toList):=by rw[keyOf_string Tryz.underlying9];simp[mapKey,Tryz.underlying9,h]
theorem anI{X wr w1:M}{uB k r:Nat}{us:Y Value}{ds:Y (ByteArray×ET)}{l l':Y (List UInt8)}{va:J Addr}{vc gg cap:Nat}{m:Int}{o:Obj}
 (xT:X.grownBy wr (some uB)) (wy:wr.heap[uB]? =some (.cells (us++(Value.slice va (iF ds l).length vc)::List.replicate r (Value.slice none 0 0)).toArray 41)) (hk:us.length=k)
 (hgrow:(wr.alloc o).drew.grownBy w1 (Value.slice va (iF ds l).length vc).ownBlock) (hne:(Value.slice va (iF ds l).length vc).ownBlock≠some uB) (hbl:∀b,(Value.slice va (iF ds l).length vc).ownBlock=some b->X.heap.size<=b)
 (hown:w1.ownsRow X.heap.size 3 1 (.slice (some ⟨gg,0,none⟩) ((iF ds l).length+1) cap) ((iF ds l).length+1) (Ya (iF ds l)++[.int .i64 m])) (hs:iF ds l'=iF ds l++[m])
 (hat:(Value.slice va (iF ds l).length vc).ownBlock=some gg\/gg=wr.heap.size+1):
 NgI X uB us ds r l' (w1.setCell ⟨uB,k,none⟩ (.slice (some ⟨gg,0,none⟩) ((iF ds l).length+1) cap)):=by
 have huB:uB<wr.heap.size:=(Array.getElem?_eq_some_iff.1 wy).1;have h1:w1.heap[uB]? =wr.heap[uB]? :=(hgrow.block uB (by show uB<(wr.alloc o).heap.size;simp;omega) (λ e=>hne e.symm)).trans (Below.heap_alloc wr o uB huB);have hset:w1.grownBy (w1.setCell ⟨uB,k,none⟩ (.slice (some ⟨gg,0,none⟩) ((iF ds l).length+1) cap)) (some uB):=grownBy_set _ _ _ _;have hall:X.grownBy w1 (some uB):=(xT.andThen ((World.grownBy_alloc wr o none).trans ⟨rfl,rfl,rfl,aB _,λ_ _ _=>rfl⟩:wr.grownBy (wr.alloc o).drew none) (λ j e=>by cases e)).andThen hgrow (λ j e=>.inl (hbl j e));have hlen:(iF ds l').length=(iF ds l).length+1:=by rw[hs];simp
 have hgu:gg≠uB:=by
  rintro rfl;rcases hat with h|h
  .exact hne h
  .omega
 refine⟨some ⟨gg,0,none⟩,cap,_,rfl,hall.trans hset,?_,?_⟩
 .rw[hlen];simp only[World.setCell];rw[Array.getElem?_modify,aP rfl,h1,wy];simp only[Option.map_some,Option.isSome_none,Bool.false_eq_true,if_false,List.setIfInBounds_toArray];rw[<- hk,List.set_append_right _ _ (aB _),Nat.sub_self,List.set_cons_zero]
 .rw[hlen,hs];have:=hown.kept hset (.inr (λ e=>hgu (by simpa[Value.ownBlock]using e)));simpa using this
set_option maxRecDepth 100000 in
set_option maxHeartbeats 4000000 in
theorem apr(ds:Y (ByteArray×ET))(hlen:ds.length<=4000000)
 (hnl:∀d∈ds,d.2.names.length<=1000000000000)
 (hN:∀d∈ds,∀(v0 v1 v2 v3 v4:Value)(w:World),oa w.heap.size w d.2 [v0,v1,v2,v3,v4]->Calls Tryz.prog 268 #[.agg #[v0,v1,v2,v3,v4]] w λe W'=>∃v,e=.returned v/\W'.ownsRow w.heap.size 9 1 v (xQ d.2.names).length ((xQ d.2.names).map encStr)/\Below w.heap.size w W')
 (sv:Ω) (w:M) (hsv:Jx w.heap.size w ds sv):Calls Tryz.prog 244 #[sv] w λe W'=>∃uB,e=.returned (.pointer (some ⟨uB+1,0,none⟩))/\w.heap.size<uB/\aqj w uB sv ds 41 353 3 W':=by
 have hmm:=@run_makeMap Tryz.prog;obtain⟨sa,sc,rfl⟩:∃sa sc,sv=.slice sa ds.length sc:=by
  rcases hsv with ⟨rfl,a,cap,rfl⟩|⟨b,aa,cap,rfl,_⟩
  .exact⟨_,_,rfl⟩
  .exact⟨_,_,rfl⟩
 obtain⟨i0,hi,hz0,hz1,hz2⟩:=info_parts anG;obtain⟨iI,hiI,DS,DQ,DP⟩:=info_parts anF
 go_enter Tryz.func244,Tryz.ntmps244
 go_wp2
 go_loopw [16] (λ i wr=>∃k:Nat,k<=ds.length/\i=.int .i64 k/\wr.ownsMap Tryz.prog 9 (plainElem (H:=Unit) Tryz.prog 3) w.heap.size k (Uu ds k)/\Below w.heap.size w wr)
  (λ i _=>ds.length-(intOf i).toNat)
 case atStart=>exact⟨0,Nat.zero_le _,rfl,World.ownsMap_made _ _ _ _,(Below.refl _ _).alloc (aB _) _⟩
 case round=>
  obtain⟨k,hk,rfl,hown,hnx⟩:=hrel;by_cases hkl:k<ds.length
  .rcases hsv with ⟨h0,_⟩|⟨b,aa,cap,he,hb,hr⟩
   .rw[h0]at hkl;exact absurd hkl (Nat.not_lt_zero _)
   simp only[Value.slice.injEq,true_and]at he;obtain⟨rfl,rfl⟩:=he;obtain⟨d,hd⟩:∃d,ds[k]? =some d:=⟨_,dI hkl⟩;obtain⟨vs,q,Mu⟩:=hr k d hd;obtain⟨u0,u1,u2,u3,u4,u5,rfl,hone⟩:=akd Mu;have o0:=λz1 z2 z3 z4 z5=>bW Tryz.prog wr #[.string { data:=#[] },z1,z2,z3,z4,z5] 117 0 u0 (by simp) (by simpa using (Array.all_eq_true.1 hone) 0 (by simp));have o1:=λz2 z3 z4 z5=>bW Tryz.prog wr #[u0,.int .i64 0,z2,z3,z4,z5] 117 1 u1 (by simp) (by simpa using (Array.all_eq_true.1 hone) 1 (by simp));have o2:=λz3 z4 z5=>bW Tryz.prog wr #[u0,u1,.int .i64 0,z3,z4,z5] 117 2 u2 (by simp) (by simpa using (Array.all_eq_true.1 hone) 2 (by simp));have o3:=λz4 z5=>bW Tryz.prog wr #[u0,u1,u2,.string { data:=#[] },z4,z5] 117 3 u3 (by simp) (by simpa using (Array.all_eq_true.1 hone) 3 (by simp));have o4:=λz5=>bW Tryz.prog wr #[u0,u1,u2,u3,.string { data:=#[] },z5] 117 4 u4 (by simp) (by simpa using (Array.all_eq_true.1 hone) 4 (by simp));have o5:=bW Tryz.prog wr #[u0,u1,u2,u3,u4,.slice none 0 0] 117 5 u5 (by simp) (by simpa using (Array.all_eq_true.1 hone) 5 (by simp));simp only[List.set_toArray,List.set]at o0 o1 o2 o3 o4 o5;have hn:=World.alloc_heap_new wr (.cells #[u0,u1,u2,u3,u4,u5] 117);have r0:(wr.alloc (.cells #[u0,u1,u2,u3,u4,u5] 117)).cell? ⟨wr.heap.size,0,none⟩=some u0:=(by simp only[World.cell?,hn];rfl);have q0:wr.cell? ⟨b,aa+k*6,none⟩=some u0:=(hnx.cell (p:=⟨b,aa+k*6,none⟩) hb).trans (q 0 _ rfl);have q1:wr.cell? ⟨b,aa+k*6+1,none⟩=some u1:=(hnx.cell (p:=⟨b,aa+k*6+1,none⟩) hb).trans (q 1 _ rfl);have q2:wr.cell? ⟨b,aa+k*6+2,none⟩=some u2:=(hnx.cell (p:=⟨b,aa+k*6+2,none⟩) hb).trans (q 2 _ rfl);have q3:wr.cell? ⟨b,aa+k*6+3,none⟩=some u3:=(hnx.cell (p:=⟨b,aa+k*6+3,none⟩) hb).trans (q 3 _ rfl);have q4:wr.cell? ⟨b,aa+k*6+4,none⟩=some u4:=(hnx.cell (p:=⟨b,aa+k*6+4,none⟩) hb).trans (q 4 _ rfl);have q5:wr.cell? ⟨b,aa+k*6+5,none⟩=some u5:=(hnx.cell (p:=⟨b,aa+k*6+5,none⟩) hb).trans (q 5 _ rfl);have hkey:keyOf Tryz.prog 9 u0=some (.string d.1.data.toList):=by obtain⟨v0,v1,v2,v3,v4,e,hs,_⟩:=Mu;simp only[List.cons.injEq]at e;rw[e.1];exact anH d.1 hs
   go_wp2_with (at_mapUpdate;refine wpList_mapUpdate_own _ rfl _ _ _ 258 rfl 9 3 (Maps.string_keyed Tryz.underlying9) Tryz.underlying258 _ w.heap.size k _ rfl (hown.alloc _) (by unfold maxLen;omega) _ _ _ rfl rfl hkey _ [] (plainElem_int Tryz.underlying3 (WalkArith.wf_i64 (by omega))) ?_;intro w1 hown1 hgrow1)
   refine⟨⟨k+1,by omega,by go_num,?_,((hnx.alloc (by have:=hnx.size;omega) _).grown hgrow1 (by have:=hnx.size;simp;omega) (λ j e=>by cases e;exact aB _))⟩,by simp[intOf];omega⟩;rw[als ds k hd];exact hown1
  .obtain rfl:k=ds.length:=(by omega);have hms:=run_make (P:=Tryz.prog) wr 126 41 i0 (.slice none 0 0) Tryz.underlying126 hi hz0 .i64 .i64 ds.length ds.length (by omega) (Int.le_refl _) (by rw[hz2];omega) (by omega);rw[hz1]at hms;simp only[Int.toNat_natCast,Nat.mul_one,Value.cells]at hms;obtain⟨t8,tB⟩:∃t8,madeCells #[Value.slice none 0 0] ds.length=t8:=⟨_,rfl⟩;rw[tB]at hms
   go_wp2
   obtain⟨uB,huB⟩:∃uB,wr.heap.size=uB:=⟨_,rfl⟩;obtain⟨W1,hW1⟩:∃W1,(wr.alloc (.cells t8 41)).alloc (.cells #[.slice sa ds.length sc,.slice (some ⟨wr.heap.size,0,none⟩) ds.length ds.length] 353)=W1:=⟨_,rfl⟩;have hmu:w.heap.size<uB:=(by rw[<- huB];exact hown.lt);have hI0:NgO w w.heap.size uB (.slice sa ds.length sc) ds 0 W1:=by
    have hn1:=World.alloc_heap_new wr (.cells t8 41);have hn2:=World.alloc_heap_new (wr.alloc (.cells t8 41)) (.cells #[.slice sa ds.length sc,.slice (some ⟨wr.heap.size,0,none⟩) ds.length ds.length] 353);rw[World.size_alloc]at hn2;subst huB;refine⟨[],rfl,?_,?_,?_,?_,λj v h=>by simp at h⟩
    .rw[<- hW1];refine(Below.heap_alloc _ _ _ (by simp)).trans ?_;rw[hn1,<- tB];congr 2;apply Array.ext';rw[toList_madeCells_one];rfl
    .rw[<- hW1];exact hn2
    .rw[<- hW1];exact(hown.alloc _).alloc _
    .rw[<- hW1];exact(hnx.alloc (by have:=hnx.size;omega) _).alloc (by have:=hnx.size;simp;omega) _
   rw[hW1,huB]
   go_loopw [34] (λ i W=>∃k:Nat,k<=ds.length/\i=.int .i64 k/\NgO w w.heap.size uB (.slice sa ds.length sc) ds k W)
    (λ i _=>ds.length-(intOf i).toNat)
   case atStart=>exact⟨0,Nat.zero_le _,rfl,hI0⟩
   case round=>
    obtain⟨k,hk,rfl,us,ur,hU,hG,hM,hB,BY⟩:=hrel;obtain⟨Q1,ZZ⟩:∃Q1,Q1=wr:=⟨_,rfl⟩;by_cases hkl:k<ds.length
    .rcases hsv with ⟨h0,_⟩|⟨b,aa,cap,he,hb,hr⟩
     .rw[h0]at hkl;exact absurd hkl (Nat.not_lt_zero _)
     simp only[Value.slice.injEq,true_and]at he;obtain⟨rfl,rfl⟩:=he;obtain⟨d,hd⟩:∃d,ds[k]? =some d:=⟨_,dI hkl⟩;obtain⟨vs,q,Mu⟩:=hr k d hd;obtain⟨u0,u1,u2,u3,u4,u5,rfl,hone⟩:=akd Mu;have o0:=λz1 z2 z3 z4 z5=>bW Tryz.prog wr #[.string { data:=#[] },z1,z2,z3,z4,z5] 117 0 u0 (by simp) (by simpa using (Array.all_eq_true.1 hone) 0 (by simp));have o1:=λz2 z3 z4 z5=>bW Tryz.prog wr #[u0,.int .i64 0,z2,z3,z4,z5] 117 1 u1 (by simp) (by simpa using (Array.all_eq_true.1 hone) 1 (by simp));have o2:=λz3 z4 z5=>bW Tryz.prog wr #[u0,u1,.int .i64 0,z3,z4,z5] 117 2 u2 (by simp) (by simpa using (Array.all_eq_true.1 hone) 2 (by simp));have o3:=λz4 z5=>bW Tryz.prog wr #[u0,u1,u2,.string { data:=#[] },z4,z5] 117 3 u3 (by simp) (by simpa using (Array.all_eq_true.1 hone) 3 (by simp));have o4:=λz5=>bW Tryz.prog wr #[u0,u1,u2,u3,.string { data:=#[] },z5] 117 4 u4 (by simp) (by simpa using (Array.all_eq_true.1 hone) 4 (by simp));have o5:=bW Tryz.prog wr #[u0,u1,u2,u3,u4,.slice none 0 0] 117 5 u5 (by simp) (by simpa using (Array.all_eq_true.1 hone) 5 (by simp));simp only[List.set_toArray,List.set]at o0 o1 o2 o3 o4 o5;have hn:=World.alloc_heap_new wr (.cells #[u0,u1,u2,u3,u4,u5] 117);have r0:(wr.alloc (.cells #[u0,u1,u2,u3,u4,u5] 117)).cell? ⟨wr.heap.size,0,none⟩=some u0:=(by simp only[World.cell?,hn];rfl);have q0:wr.cell? ⟨b,aa+k*6,none⟩=some u0:=(hB.cell (p:=⟨b,aa+k*6,none⟩) hb).trans (q 0 _ rfl);have q1:wr.cell? ⟨b,aa+k*6+1,none⟩=some u1:=(hB.cell (p:=⟨b,aa+k*6+1,none⟩) hb).trans (q 1 _ rfl);have q2:wr.cell? ⟨b,aa+k*6+2,none⟩=some u2:=(hB.cell (p:=⟨b,aa+k*6+2,none⟩) hb).trans (q 2 _ rfl);have q3:wr.cell? ⟨b,aa+k*6+3,none⟩=some u3:=(hB.cell (p:=⟨b,aa+k*6+3,none⟩) hb).trans (q 3 _ rfl);have q4:wr.cell? ⟨b,aa+k*6+4,none⟩=some u4:=(hB.cell (p:=⟨b,aa+k*6+4,none⟩) hb).trans (q 4 _ rfl);have q5:wr.cell? ⟨b,aa+k*6+5,none⟩=some u5:=(hB.cell (p:=⟨b,aa+k*6+5,none⟩) hb).trans (q 5 _ rfl);have r1:(wr.alloc (.cells #[u0,u1,u2,u3,u4,u5] 117)).cell? ⟨wr.heap.size,1,none⟩=some u1:=(by simp only[World.cell?,hn];rfl);have r2:(wr.alloc (.cells #[u0,u1,u2,u3,u4,u5] 117)).cell? ⟨wr.heap.size,2,none⟩=some u2:=(by simp only[World.cell?,hn];rfl);have r3:(wr.alloc (.cells #[u0,u1,u2,u3,u4,u5] 117)).cell? ⟨wr.heap.size,3,none⟩=some u3:=(by simp only[World.cell?,hn];rfl);have r4:(wr.alloc (.cells #[u0,u1,u2,u3,u4,u5] 117)).cell? ⟨wr.heap.size,4,none⟩=some u4:=(by simp only[World.cell?,hn];rfl);have r5:(wr.alloc (.cells #[u0,u1,u2,u3,u4,u5] 117)).cell? ⟨wr.heap.size,5,none⟩=some u5:=(by simp only[World.cell?,hn];rfl);have hba:Below w.heap.size wr (wr.alloc (.cells #[u0,u1,u2,u3,u4,u5] 117)):=(Below.refl _ _).alloc hB.size _;have hEd:oa (wr.alloc (.cells #[u0,u1,u2,u3,u4,u5] 117)).heap.size (wr.alloc (.cells #[u0,u1,u2,u3,u4,u5] 117)) d.2 [u1,u2,u3,u4,u5]:=(by obtain⟨v0,v1,v2,v3,v4,e,_,h⟩:=Mu;simp only[List.cons.injEq,and_true]at e;obtain⟨_,rfl,rfl,rfl,rfl,rfl⟩:=e;exact oa.mono (by have:=hB.size;simp;omega) _ _ (h.below' (hB.trans hba)));have hcn:=hN d (bT hd) u1 u2 u3 u4 u5 _ hEd
     go_wp2_with (go_at_call 268;refine hcn.mono ?_;rintro e X ⟨nv,rfl,hrow,hbX⟩;obtain⟨na,nc,rfl⟩:=aay hrow)
     have hcell:=aaz hrow;have hblt:=hrow.lt;have hsU:uB+1<wr.heap.size:=(Array.getElem?_eq_some_iff.1 hG).1;have hsX:wr.heap.size+1<=X.heap.size:=(by have:=hbX.size;simpa using this);have hkX:∀c,c<wr.heap.size->X.heap[c]? =wr.heap[c]? :=λc hc=>(hbX.block c (by simp;omega)).trans (Below.heap_alloc _ _ c hc);obtain⟨L,hL⟩:∃L,xQ d.2.names=L:=⟨_,rfl⟩;rw[hL]at hrow hcell;have hLl:L.length<=1000000000000:=(by rw[<- hL];exact Nat.le_trans (afR _) (hnl d (bT hd)));have hLs:∀s∈L,s.length<=maxLen:=by intro s hs;rw[<- hL]at hs;obtain⟨x,hx,rfl⟩:=anm hs;have:=oa.gS d.2 _ hEd x hx;simpa using this
     go_loopw [43] (λ i V=>∃q:Nat,q<=L.length/\i=.int .i64 q/\NgI X uB us ds (ds.length-k-1) (L.take q) V)
      (λ i _=>L.length-(intOf i).toNat)
     case atStart=>
      refine⟨0,Nat.zero_le _,rfl,none,0,_,rfl,World.grownBy.refl _ _,?_,World.ownsRow_nil _ _ _ _⟩;rw[hkX uB (by omega),hU,show ds.length-k=(ds.length-k-1)+1 by omega,List.replicate_succ];rfl
     case round=>
      obtain⟨q,hq,rfl,va,vc,v,rfl,xT,wy,BW⟩:=hrel;by_cases B4:q<L.length
      .obtain⟨nm,hnm⟩:∃nm,L[q]? =some nm:=⟨_,dI B4⟩;obtain⟨g,rfl,hg1,hg2,hgc⟩:=hcell (by omega);have c0:wr.cell? ⟨g,q,none⟩=some (encStr nm):=(xT.cell_far ⟨g,q,none⟩ hg2 (by simp at hg1 |-;omega)).trans (hgc q _ (by rw[List.getElem?_map,hnm];rfl));have hkey:keyOf Tryz.prog 9 (encStr nm)=some (.string nm):=(by have:=anH ⟨nm.toArray⟩ (by have:=hLs nm (bT hnm);simpa[ByteArray.size]using this);simpa using this);have hMV:wr.ownsMap Tryz.prog 9 (plainElem (H:=Unit) Tryz.prog 3) w.heap.size ds.length (Uu ds ds.length):=(by obtain⟨es,ck,h1,h2⟩:=hM;exact⟨es,ck,(xT.block _ (by omega) (by simp;omega)).trans ((hkX _ (by omega)).trans h1),h2⟩);have hlk:(iF ds (L.take q)).length<=1000000000000:=Nat.le_trans (List.length_filterMap_le _ _) (by rw[List.length_take];omega);have sg:=alr hMV hkey;cases hix:OJ ds nm ds.length with
       |none=>
        rw[hix]at sg;simp only[Option.isSome,Option.getD]at sg
        go_wp2
        have hstep:iF ds (L.take (q+1))=iF ds (L.take q):=(by rw[Yi ds L q hnm,hix];exact List.append_nil _);exact⟨⟨q+1,by omega,by go_num,va,vc,_,rfl,xT,by rw[hstep];exact wy,by rw[hstep];exact BW⟩,by simp[intOf];omega⟩
       |some m=>
        rw[hix]at sg;simp only[Option.isSome,Option.getD]at sg
        go_wp2
        have hstep:iF ds (L.take (q+1))=iF ds (L.take q)++[m]:=(by rw[Yi ds L q hnm,hix];rfl);have hVX:X.heap.size<=wr.heap.size:=xT.size;have cG:wr.cell? ⟨uB+1,1,none⟩=some (.slice (some ⟨uB,0,none⟩) ds.length ds.length):=(by have h1:=(xT.block (uB+1) (by omega) (by simp)).trans ((hkX _ (by omega)).trans hG);simp[World.cell?,h1]);have cU:wr.cell? ⟨uB,k,none⟩=some (.slice va (iF ds (L.take q)).length vc):=(by rw[<- ur];simp[World.cell?,wy]);have cF:wr.frozen? ⟨uB,k,none⟩=false:=(by simp[World.frozen?,wy]);have Sf:∀o,(wr.alloc o).drew.frozen? ⟨uB,k,none⟩=false:=λo=>(by have h1:=(Below.heap_alloc wr o uB (Array.getElem?_eq_some_iff.1 wy).1).trans wy;show(wr.alloc o).frozen? _=_;simp[World.frozen?,h1]);have hk0:(0:Int)<=(k:Int):=Int.natCast_nonneg _;have hk1:(k:Int)<(ds.length:Int):=(by omega);have EE:(Value.slice va (iF ds (L.take q)).length vc).ownBlock≠some uB:=λe=>(by have:=(BW.lt _ e).1;omega);have asH:(Value.slice va (iF ds (L.take q)).length vc).ownBlock≠some (uB+1):=λe=>(by have:=(BW.lt _ e).1;omega);have cU2:=World.new_ne wr ⟨uB,k,none⟩ cU;have Se:∀o,(wr.alloc o).drew.cell? ⟨uB,k,none⟩=some (.slice va (iF ds (L.take q)).length vc):=λo=>(by have h1:=(Below.heap_alloc wr o uB (Array.getElem?_eq_some_iff.1 wy).1).trans wy;show(wr.alloc o).cell? _=_;rw[<- ur];simp[World.cell?,h1]);have cG3:∀o,(wr.alloc o).drew.cell? ⟨uB+1,1,none⟩=some (.slice (some ⟨uB,0,none⟩) ds.length ds.length):=λo=>(by have h0:=(xT.block (uB+1) (by omega) (by simp)).trans ((hkX _ (by omega)).trans hG);have h1:=(Below.heap_alloc wr o (uB+1) (Array.getElem?_eq_some_iff.1 h0).1).trans h0;show(wr.alloc o).cell? _=_;simp[World.cell?,h1]);have cG4:=cG3 (.cells #[.int .i64 m] 3);have cU4:=Se (.cells #[.int .i64 m] 3);have cF4:=Sf (.cells #[.int .i64 m] 3)
        go_region_law ((refine step_append_lies _ (by rfl) _ _ _ (by rfl) X.heap.size 3 iI _ 1 8 Tryz.underlying41 hiI DS DQ DP rfl (by omega) _ _ _ (by rfl) ((BW.alloc _).drew) ⟨wr.heap.size,0,none⟩ 1 1 [.int .i64 m] (by rfl) (by rfl) (World.news_of_block (cs:=#[.int .i64 m]) (t:=3) (fr:=(0,0)) (heap_alloc_new wr _)) (by simp[Value.oneCell']) (by omega) (by unfold maxLen;omega) (by omega) (by simp;omega) (wr.heap.size+1) (by simp) ?_;intro gg cap w1 hown1 hgrow hat hlt;have cU1:w1.cell? ⟨uB,k,none⟩=some (.slice va (iF ds (L.take q)).length vc):=(by rw[hgrow.cell_far _ (by simp;omega) (Ne.symm EE)];exact Se _);have cG1:w1.cell? ⟨uB+1,1,none⟩=some (.slice (some ⟨uB,0,none⟩) ds.length ds.length):=(by rw[hgrow.cell_far _ (by simp;omega) (Ne.symm asH)];exact cG3 _);have cF1:w1.frozen? ⟨uB,k,none⟩=false:=(by rw[hgrow.frozen_far _ (by simp;omega) (Ne.symm EE)];exact Sf _)))
        all_goals go_wp2
        all_goals exact⟨⟨_,_,_,.int .i64 ((q:Int)+1),⟨q+1,by omega,by go_num,anI xT wy ur hgrow EE (λ b e=>(BW.lt b e).1) hown1 hstep hat⟩,rfl,rfl,rfl,rfl⟩,by simp[intOf];omega⟩
      .obtain rfl:q=L.length:=by omega
       go_wp2
       rw[List.take_length]at wy BW;subst ZZ;have hgw:∀c,c<Q1.heap.size->c≠uB->wr.heap[c]? =Q1.heap[c]? :=λc hc hne=>(xT.block c (by omega) (by simp;omega)).trans (hkX c hc);refine⟨⟨k+1,by omega,by go_num,us++[.slice va (iF ds L).length vc],by simp[ur],?_,?_,?_,?_,?_⟩,by simp[intOf];omega⟩
       .rw[wy];congr 3;simp[Nat.sub_sub]
       .exact(hgw (uB+1) (by omega) (by omega)).trans hG
       .obtain⟨es,ck,h1,h2⟩:=hM;exact⟨es,ck,(hgw _ (by omega) (by omega)).trans h1,h2⟩
       .exact(((hB.trans hba).trans (hbX.mono (by simp;have:=hB.size;omega))).grown xT (by have:=hB.size;omega) (λ j e=>by cases e;omega))
       .intro j v hj;rw[List.getElem?_append]at hj;split at hj
        .obtain⟨d',hd',ho⟩:=BY j v hj;exact⟨d',hd',aiz ho (by omega) hgw⟩
        .rename_i hjl;have hj0:j-us.length=0:=by
          cases h:j-us.length with
          |zero=>rfl
          |succ z=>rw[h]at hj;simp at hj
         rw[hj0]at hj;simp only[List.getElem?_cons_zero,bK]at hj;subst hj;refine⟨d,by rw[show j=k by omega];exact hd,?_⟩;rw[hL];refine⟨BW.1,BW.2.imp id ?_⟩;rintro⟨g,cap,cur,h1,h2,h3⟩;exact⟨g,cap,cur,h1,by omega,h3⟩
    .obtain rfl:k=ds.length:=by omega
     go_wp2
     go_ret
     exact⟨uB,rfl,hmu,us,ur,by simpa using hU,hG,hB,BY⟩
end Go.Proofs
namespace Go.Proofs
open Go.RowKit
theorem Ri{i B:Nat}:∀(c:Y Int)(g:Y (List Int)),(∀ x∈g,x.length<=B)->∀x∈c.foldl (OL i) g,x.length<=B+c.length
 |[],g,h,x,hx=>h x hx
 |k::c,g,h,x,hx=>by
  rw[List.foldl_cons]at hx;have:=Ri (i:=i) (B:=B+1) c (OL i g k) (λ y hy=>by
   unfold OL at hy;rcases List.mem_or_eq_of_mem_set hy with hy|rfl
   .have:=h y hy;omega
   .cases e:g[k.toNat]? with
    |none=>simp
    |some z=>
     have:=h z (bT e);simp;omega) x hx
  rw[d9];omega
theorem ake{l:Y (List Int)}(ha:∀c∈l,c.length<=1000000):∀i,i<=l.length->∀x∈nh l i,x.length<=i*1000000
 | 0,_,x,hx=>by simp[nh]at hx;rw[hx.2];simp
 |i+1,hi,x,hx=>by have h:=ake ha i (by omega);have h1:=Ri (l.getD i []) (nh l i) h x hx;have h2:=ha (l.getD i []) (by rw[List.getD_eq_getElem?_getD,dI (by omega)];exact getElem_mem _);omega
theorem GG.alloc{TL TI:E}{w V:M}{us:Y Value}{L:Y (List Int)}(h:GG TL TI w us L V)(o:Obj):GG TL TI w us L (V.alloc o):=
 ⟨h.len,(Below.heap_alloc V o _ (Array.getElem?_eq_some_iff.1 h.row).1).trans h.row,λj v x hj hx=>(h.owns j v x hj hx).alloc _,h.apart,h.below.alloc h.below.size _⟩
theorem anJ:(Tryz.prog.info? 3).map (λ i=>(i.zero,i.size,i.bytes))=some (some (.int .i64 0),1,8):=by kernel_rfl
theorem anK:(Tryz.prog.info? 41).map (λ i=>(i.zero,i.size,i.bytes))=some (some (.slice none 0 0),1,24):=by kernel_rfl
set_option maxRecDepth 100000 in
set_option maxHeartbeats 4000000 in
theorem aps(l:Y (List Int))(hlen:l.length<=1000000)(hal:∀c∈l,c.length<=1000000)(hkl:∀c∈l,∀k∈c,0<=k/\k<(l.length:Int))
 (sv:Ω) (w:M) (hsv:CSl w.heap.size w l sv):Calls Tryz.prog 35 #[sv] w λe W'=>e=.returned (.slice (some ⟨w.heap.size,0,none⟩) l.length l.length)/\∃us,GG 41 3 w us (nh l l.length) W':=by
 obtain⟨sa,sc,rfl⟩:∃sa sc,sv=.slice sa l.length sc:=by
  rcases hsv with ⟨rfl,a,cap,rfl⟩|⟨b,aa,cap,rfl,_⟩
  .exact⟨_,_,rfl⟩
  .exact⟨_,_,rfl⟩
 obtain⟨i0,hi,hz0,hz1,hz2⟩:=info_parts anK;obtain⟨iI,hiI,DS,DQ,DP⟩:=info_parts anJ;have hms:=run_make (P:=Tryz.prog) w 127 41 i0 (.slice none 0 0) Tryz.underlying127 hi hz0 .i64 .i64 l.length l.length (by omega) (Int.le_refl _) (by rw[hz2];omega) (by omega);rw[hz1]at hms;simp only[Int.toNat_natCast,Nat.mul_one,Value.cells]at hms;obtain⟨t8,tB⟩:∃t8,madeCells #[Value.slice none 0 0] l.length=t8:=⟨_,rfl⟩;rw[tB]at hms
 go_enter Tryz.func35,Tryz.ntmps35
 go_wp2
 obtain⟨W1,hW1⟩:∃W1,w.alloc (.cells t8 41)=W1:=⟨_,rfl⟩;have hI0:GG 41 3 w (List.replicate l.length (Value.slice none 0 0)) (nh l 0) W1:=by
  have hn1:=World.alloc_heap_new w (.cells t8 41);refine⟨by simp[nh],?_,λj v x hj hx=>?_,λi j u v b hi hj hu hv=>?_,?_⟩
  .rw[<- hW1,hn1,<- tB];congr 2;apply Array.ext';rw[toList_madeCells_one]
  .rw[List.getElem?_replicate]at hj;rw[nh,List.getElem?_replicate]at hx;split at hj
   .injection hj with hj;rename_i hl;rw[aP hl]at hx;injection hx with hx;subst hj hx;exact World.ownsRow_nil _ _ _ _
   .cases hj
  .rw[List.getElem?_replicate]at hi;split at hi
   .cases hi;simp[Value.ownBlock]at hu
   .cases hi
  .rw[<- hW1];exact(Below.refl _ _).alloc (aB _) _
 rw[hW1]
 go_loopw [13] (λ i W=>∃(k:Nat)(us:Y Value),k<=l.length/\i=.int .i64 k/\GG 41 3 w us (nh l k) W)
  (λ i _=>l.length-(intOf i).toNat)
 case atStart=>exact⟨0,_,Nat.zero_le _,rfl,hI0⟩
 case round=>
  obtain⟨k,us,hk,rfl,hG⟩:=hrel;by_cases E3:k<l.length
  .rcases hsv with ⟨h0,_⟩|⟨b,aa,cap,he,hb,hr⟩
   .rw[h0]at E3;exact absurd E3 (Nat.not_lt_zero _)
   simp only[Value.slice.injEq,true_and]at he;obtain⟨rfl,rfl⟩:=he;obtain⟨c,hc⟩:∃c,l[k]? =some c:=⟨_,dI E3⟩;obtain⟨vs,q,u0,u1,u2,u3,u4,u5,rfl,hsl⟩:=hr k c hc;obtain⟨ca,cc,rfl⟩:∃ca cc,u2=.slice ca c.length cc:=by
    rcases hsl with ⟨rfl,x,cap,rfl⟩|⟨b',off',cap',rfl,_⟩
    .exact⟨_,_,rfl⟩
    .exact⟨_,_,rfl⟩
   have hB:=hG.below;have hcl:=hal c (bT hc);have hck:=hkl c (bT hc);have o0:=λz1 z2 z3 z4 z5=>bW Tryz.prog wr #[.int .i64 0,z1,z2,z3,z4,z5] 62 0 (.int .i64 u0) (by simp) (by simp[Value.oneCell']);have o1:=λz2 z3 z4 z5=>bW Tryz.prog wr #[.int .i64 u0,.int .i64 0,z2,z3,z4,z5] 62 1 (.int .i64 u1) (by simp) (by simp[Value.oneCell']);have o2:=λz3 z4 z5=>bW Tryz.prog wr #[.int .i64 u0,.int .i64 u1,.slice none 0 0,z3,z4,z5] 62 2 (.slice ca c.length cc) (by simp) (by simp[Value.oneCell']);have o3:=λz4 z5=>bW Tryz.prog wr #[.int .i64 u0,.int .i64 u1,.slice ca c.length cc,.int .i64 0,z4,z5] 62 3 (.int .i64 u3) (by simp) (by simp[Value.oneCell']);have o4:=λz5=>bW Tryz.prog wr #[.int .i64 u0,.int .i64 u1,.slice ca c.length cc,.int .i64 u3,.string { data:=#[] },z5] 62 4 (.string u4) (by simp) (by simp[Value.oneCell']);have o5:=bW Tryz.prog wr #[.int .i64 u0,.int .i64 u1,.slice ca c.length cc,.int .i64 u3,.string u4,.int .i64 0] 62 5 (.int .i64 u5) (by simp) (by simp[Value.oneCell']);simp only[List.set_toArray,List.set]at o0 o1 o2 o3 o4 o5;have hn:=World.alloc_heap_new wr (.cells #[.int .i64 u0,.int .i64 u1,.slice ca c.length cc,.int .i64 u3,.string u4,.int .i64 u5] 62);have q0:wr.cell? ⟨b,aa+k*6,none⟩=some (.int .i64 u0):=(hB.cell (p:=⟨b,aa+k*6,none⟩) hb).trans (q 0 _ rfl);have q1:wr.cell? ⟨b,aa+k*6+1,none⟩=some (.int .i64 u1):=(hB.cell (p:=⟨b,aa+k*6+1,none⟩) hb).trans (q 1 _ rfl);have q2:wr.cell? ⟨b,aa+k*6+2,none⟩=some (.slice ca c.length cc):=(hB.cell (p:=⟨b,aa+k*6+2,none⟩) hb).trans (q 2 _ rfl);have q3:wr.cell? ⟨b,aa+k*6+3,none⟩=some (.int .i64 u3):=(hB.cell (p:=⟨b,aa+k*6+3,none⟩) hb).trans (q 3 _ rfl);have q4:wr.cell? ⟨b,aa+k*6+4,none⟩=some (.string u4):=(hB.cell (p:=⟨b,aa+k*6+4,none⟩) hb).trans (q 4 _ rfl);have q5:wr.cell? ⟨b,aa+k*6+5,none⟩=some (.int .i64 u5):=(hB.cell (p:=⟨b,aa+k*6+5,none⟩) hb).trans (q 5 _ rfl);have r2:(wr.alloc (.cells #[.int .i64 u0,.int .i64 u1,.slice ca c.length cc,.int .i64 u3,.string u4,.int .i64 u5] 62)).cell? ⟨wr.heap.size,2,none⟩=some (.slice ca c.length cc):=by simp only[World.cell?,hn];rfl
   go_wp2
   obtain⟨X,hX⟩:∃X,wr.alloc (.cells #[.int .i64 u0,.int .i64 u1,.slice ca c.length cc,.int .i64 u3,.string u4,.int .i64 u5] 62)=X:=⟨_,rfl⟩;have hGX:GG 41 3 w us (nh l k) X:=(by rw[<- hX];exact hG.alloc _);rw[hX]
   go_loopw [21] (λ i V=>∃(p:Nat) (vs:Y Value),p<=c.length/\i=.int .i64 p/\GG 41 3 w vs ((c.take p).foldl (OL k) (nh l k)) V)
    (λ i _=>c.length-(intOf i).toNat)
   case atStart=>exact⟨0,us,Nat.zero_le _,rfl,hGX⟩
   case round=>
    obtain⟨p,vs,hp,rfl,B7⟩:=hrel;by_cases hpl:p<c.length
    .obtain⟨kv,hkv⟩:∃kv,c[p]? =some kv:=⟨_,dI hpl⟩;obtain⟨hk0,hk1⟩:=hck kv (bT hkv);obtain⟨m,rfl⟩:∃m:Nat,kv=(m:Int):=⟨kv.toNat,by omega⟩;rcases hsl with ⟨h0,_⟩|⟨b',off',cap',he',hb',hcell⟩
     .rw[h0]at hpl;exact absurd hpl (Nat.not_lt_zero _)
     simp only[Value.slice.injEq,true_and]at he';obtain⟨rfl,rfl⟩:=he';have c0:wr.cell? ⟨b',off'+p,none⟩=some (.int .i64 m):=(B7.below.cell (p:=⟨b',off'+p,none⟩) hb').trans (hcell p _ hkv);obtain⟨L,hL⟩:∃L,(c.take p).foldl (OL k) (nh l k)=L:=⟨_,rfl⟩;have hLl:L.length=l.length:=(by rw[<- hL,Rb,OM]);have hLs:(c.take (p+1)).foldl (OL k) (nh l k)=L.set m (L[m]?.getD []++[(k:Int)]):=(by rw[List.take_add_one,hkv,List.foldl_append,hL];rfl);rw[hL]at B7;have hm1:m<L.length:=(by omega);obtain⟨x,hx⟩:∃x,L[m]? =some x:=⟨_,dI hm1⟩;obtain⟨v,hv⟩:∃v,vs[m]? =some v:=⟨_,dI (by rw[B7.len];exact hm1)⟩;have ho:=B7.owns m v x hv hx;obtain⟨va,vc,rfl⟩:=anp ho;have hxl:x.length<=1000001000000:=(by have:=Ri (i:=k) (c.take p) (nh l k) (ake hal k (by omega)) x (by rw[hL];exact bT hx);rw[List.length_take]at this;omega);have hrow:=B7.row;have hsz:=(Array.getElem?_eq_some_iff.1 hrow).1;have cU:wr.cell? ⟨w.heap.size,m,none⟩=some (.slice va x.length vc):=(by simp[World.cell?,hrow,hv]);have cF:wr.frozen? ⟨w.heap.size,m,none⟩=false:=(by simp[World.frozen?,hrow]);have hne:(Value.slice va x.length vc).ownBlock≠some w.heap.size:=λe=>(by have:=(Yb ho e).1;omega);have Se:∀o,(wr.alloc o).cell? ⟨w.heap.size,m,none⟩=some (.slice va x.length vc):=λo=>(by have h1:=(Below.heap_alloc wr o w.heap.size hsz).trans hrow;simp[World.cell?,h1,hv]);have Sf:∀o,(wr.alloc o).frozen? ⟨w.heap.size,m,none⟩=false:=λo=>by have h1:=(Below.heap_alloc wr o w.heap.size hsz).trans hrow;simp[World.frozen?,h1]
     go_wp2_with (first
      |(at_builtin;(refine wpList_append_lies _ rfl _ _ _ rfl (w.heap.size+1) 3 iI _ 1 8 Tryz.underlying41 hiI DS DQ DP rfl (by omega) (.slice va x.length vc) x.length (s9 x) rfl (ho.alloc _) ⟨wr.heap.size,0,none⟩ 1 1 [.int .i64 k] rfl rfl (World.news_of_block (cs:=#[.int .i64 k]) (t:=3) (fr:=(0,0)) (heap_alloc_new wr _)) (by simp[Value.oneCell']) (by omega) (by unfold maxLen;omega) (by omega) (by simp;omega) (wr.heap.size+1) (by simp) ?_);intro gg cap w1 hown1 hgrow hat hlt;(have cU1:w1.cell? ⟨w.heap.size,m,none⟩=some (.slice va x.length vc):=(by rw[hgrow.cell_far _ (by simp<;>omega) (Ne.symm hne)];exact Se _));(have cF1:w1.frozen? ⟨w.heap.size,m,none⟩=false:=(by rw[hgrow.frozen_far _ (by simp<;>omega) (Ne.symm hne)];exact Sf _)))
      |go_in)
     exact⟨⟨p+1,_,hpl,by go_num,by rw[hLs,hx];exact B7.step hv hx hgrow hown1 hat⟩,by simp[intOf];omega⟩
    .obtain rfl:p=c.length:=(by omega);rw[List.take_length]at B7
     go_wp2
     have hU:nh l (k+1)=c.foldl (OL k) (nh l k):=(by rw[nh,List.getD_eq_getElem?_getD,hc];rfl);exact⟨⟨k+1,vs,by omega,by go_num,by rw[hU];exact B7⟩,by simp[intOf];omega⟩
  .obtain rfl:k=l.length:=by omega
   go_wp2
   go_ret
   exact⟨rfl,us,hG⟩
end Go.Proofs
namespace Go.Proofs
open Go.RowKit Go.Shelf
set_option maxHeartbeats 1000000 in
theorem anL(x y:Nat)(hx:x<18446744073709551616)(hy:y<18446744073709551616)(w:M):
 Calls Tryz.prog 323 #[.int .u64 x,.int .u64 y] w λe w'=>e=.returned (.tuple #[.int .u64 ((x*y/18446744073709551616:Nat):Int),.int .u64 ((x*y%18446744073709551616:Nat):Int)])/\w'=w:=by
 obtain⟨bd,bt,bw,hhi⟩:=Lib.mul64_hi x y hx hy;have ba:=Lib.half_mul_le (a:=x/4294967296) (b:=y/4294967296) (by omega) (by omega);have bb:=Lib.half_mul_le (a:=x/4294967296) (b:=y%4294967296) (by omega) (by omega);have bc:=Lib.half_mul_le (a:=x%4294967296) (b:=y/4294967296) (by omega) (by omega);have ba':x/4294967296*(y/4294967296)<18446744073709551616:=by omega
 have bb':x/4294967296*(y%4294967296)<18446744073709551616:=by omega
 have bc':x%4294967296*(y/4294967296)<18446744073709551616:=by omega
 have bh1:x/4294967296*(y/4294967296)+(x/4294967296*(y%4294967296)+x%4294967296*(y%4294967296)/4294967296)/4294967296<18446744073709551616:=by omega
 have bh:x/4294967296*(y/4294967296)+(x/4294967296*(y%4294967296)+x%4294967296*(y%4294967296)/4294967296)/4294967296+((x/4294967296*(y%4294967296)+x%4294967296*(y%4294967296)/4294967296)%4294967296+x%4294967296*(y/4294967296))/4294967296<18446744073709551616:=by omega
 go_enter Tryz.func323,Tryz.ntmps323
 go_wp2
 simp only[Mul64.maskN x hx,Mul64.maskN y hy,Mul64.divN,Mul64.mulN,Mul64.addN,Mul64.wrapN _ bd,Mul64.wrapN _ bb',Mul64.wrapN _ bt,Mul64.maskN _ bt,Mul64.wrapN _ bc',Mul64.wrapN _ bw,Mul64.wrapN _ ba',Mul64.wrapN _ bh1,Mul64.wrapN _ bh,Mul64.wrapM (x*y)];rw[hhi]
 go_ret2
 exact⟨rfl,rfl⟩
set_option maxHeartbeats 1000000 in
theorem aqT(x y:Nat)(hx:x<18446744073709551616)(hy:y<18446744073709551616)(w:M):
 Calls Tryz.prog 312 #[.int .u64 x,.int .u64 y] w λe w'=>e=.returned (.tuple #[.int .u64 ((x*y/18446744073709551616:Nat):Int),.int .u64 ((x*y%18446744073709551616:Nat):Int)])/\w'=w:=by
 go_enter Tryz.func312,Tryz.ntmps312
 go_wp2_with (go_at_call 323;refine(anL x y hx hy _).mono ?_;rintro e w' ⟨rfl,hw⟩;rw[hw])
 go_ret2
 exact⟨rfl,rfl⟩
theorem apt(c:Nat)(hc:c<=1000000000000)(w:M):
 Calls Tryz.prog 312 #[.int .u64 1,.int .u64 c] w λe w'=>e=.returned (.tuple #[.int .u64 0,.int .u64 c])/\w'=w:=by have h:=aqT 1 c (by decide) (by omega) w;rw[show 1*c/18446744073709551616=0 by omega,show 1*c%18446744073709551616=c by omega]at h;exact h
theorem akf:(Tryz.prog.info? 3).map (λ i=>(i.zero,i.size,i.bytes))=some (some (.int .i64 0),1,8):=by kernel_rfl
def rx(x:Int)(m c:Nat):Y Value:=List.replicate m (.int .i64 x)++List.replicate (c-m) (.int .i64 0)
theorem aiA(x:Int)(m k c:Nat)(_:m+k<=c):splice (rx x m c) m (List.replicate k (.int .i64 x))=rx x (m+k) c:=by
 have h1:(rx x m c).take m=List.replicate m (.int .i64 x):=by simp[rx]
 have h2:(rx x m c).drop (m+k)=List.replicate (c-(m+k)) (.int .i64 0):=by rw[rx,List.drop_append];simp[Nat.sub_sub,show m+k-m=k by omega]
 rw[splice,h1,List.length_replicate,h2,<- aU,List.replicate_append_replicate,rx]
theorem apu{P:Q}{ag:Array Oper}{o:Oper}{a:Act}{w w':M}{K:Act->World->Prop}{Ξ:Exit->Act->World->Prop}{Θ:Prop}(hgd:o.guard=none)(d s:Operand)(dT sT:E)
 (ho:o.op=.call { callee:=.builtin .copy,args:=#[d,s],argTypes:=#[dT,sT] }) {D Φ v:Ω} (hd:a.eval d=D) (hs:a.eval s=Φ) (hrun:(Builtin.copy_ #[dT,sT] o.type #[D,Φ]).run P w=.ok v w') (h:K (a.put o.dst v) w'):
 if Region.wanted o (yielded ag a.tmps)=true then Oper.wp P o a w K Ξ else Θ:=by
 have hw:Region.wanted o (yielded ag a.tmps)=true:=by simp[Region.wanted,hgd]
 rw[aP hw];unfold Oper.wp;simp[execOp,ho,resolve,invoke,builtin,hd,hs,hrun,Result.andThen];exact h
theorem akg{x:Int}{m k c g dCap sCap sLen dLen:Nat}{a:Addr}{W:M}(hg:W.heap[g]? =some (.cells (rx x m c).toArray 3))(h:m+k<=c)(hk:k=Nat.min sLen dLen)
 (hsrc:∀j v,(List.replicate k (Value.int .i64 x))[j]? =some v->W.cell? (a.add j)=some v):
 ∃W1,(Builtin.copy_ #[41,41] 3 #[.slice (some ⟨g,m,none⟩) dLen dCap,.slice (some a) sLen sCap]).run Tryz.prog W=.ok (.int .i64 k) W1/\W1.heap[g]? =some (.cells (rx x (m+k) c).toArray 3)/\∀B w0,Below B w0 W->B<=g->Below B w0 W1:=by
 obtain⟨i0,hi,hz0,hz1,hz2⟩:=info_parts akf;have hone:∀v∈List.replicate k (Value.int .i64 x),v.oneCell'=true:=λv hv=>by rw[(List.mem_replicate.1 hv).2];rfl
 have hrun:=run_copy_row (P:=Tryz.prog) W 41 41 3 3 g m dLen dCap a sLen sCap (rx x m c).toArray 3 (List.replicate k (.int .i64 x)) Tryz.underlying41 (by rw[hi];simp[hz1]) hg (by simpa using hk) hsrc (by simp[rx];omega) hone;rw[List.length_replicate]at hrun;refine⟨_,hrun,?_,λB w0 hb hB=>below_setRow hb hB _⟩;have:=setRow_heap W g _ (rx x (m+k) c).toArray 3 _ hg;rw[<- aiA x m k c h]at this |-;simpa[splice]using this
set_option maxRecDepth 100000 in
set_option maxHeartbeats 4000000 in
theorem alu(x:Int)(c:Nat)(hc:c<=1000000000000)(a:Addr)(cap:Nat)(w:M)(hx:w.cell? a=some (.int .i64 x)):
 Calls Tryz.prog 305 #[.slice (some a) 1 cap,.int .i64 c] w λe W'=>∃v,e=.returned v/\W'.ownsRow w.heap.size 3 1 v c (List.replicate c (.int .i64 x))/\Below w.heap.size w W':=by
 have h0:(0:Int)<=(c:Int):=Int.natCast_nonneg _;obtain⟨i0,hi,hz0,hz1,hz2⟩:=info_parts akf;have hms:=run_make (P:=Tryz.prog) w 41 3 i0 (.int .i64 0) Tryz.underlying41 hi hz0 .i64 .i64 c c (by omega) (Int.le_refl _) (by rw[hz2];omega) (by omega);rw[hz1]at hms;simp only[Int.toNat_natCast,Nat.mul_one,Value.cells]at hms;obtain⟨t8,tB⟩:∃t8,madeCells #[Value.int .i64 0] c=t8:=⟨_,rfl⟩;rw[tB]at hms;have hgm:=heap_alloc_new w (.cells t8 3);have B3:t8=(rx x 0 c).toArray:=by rw[<- tB];apply Array.ext';rw[toList_madeCells_one];simp[rx]
 rw[B3]at hgm hms;have hbm:Below w.heap.size w (w.alloc (.cells (rx x 0 c).toArray 3)):=(Below.refl _ _).alloc (aB _) _;have hsz1:(Tryz.prog.info? 3).map (·.size)=some 1:=by rw[hi];simp[hz1]
 go_enter Tryz.func305,Tryz.ntmps305
 have hone:∀k,∀v∈List.replicate k (Value.int .i64 x),v.oneCell'=true:=λk v hv=>by rw[(List.mem_replicate.1 hv).2];rfl
 have hab:a.block<w.heap.size:=World.block_lt_of_cell? w a hx;obtain⟨W1,hcp,hg1,hb1⟩:=akg (k:=min 1 c) (sLen:=1) (dLen:=c) (dCap:=c) (sCap:=cap) (a:=a) hgm (by omega) rfl λj v hj=>by
  have hj0:=(bU.1 hj).1;rw[List.length_replicate]at hj0;obtain rfl:j=0:=by omega
  rw[List.getElem?_replicate,aP hj0]at hj;cases hj;have:=(Below.refl w.heap.size w).alloc (aB _) (.cells (rx x 0 c).toArray 3) |>.cell hab;rw[<- hx,<- this];rfl
 have hb1:=hb1 _ _ hbm (aB _);rw[Nat.zero_add]at hg1;obtain⟨m0,hm0⟩:∃m0,min 1 c=m0:=⟨_,rfl⟩;rw[hm0]at hcp hg1
 go_wp2_with (go_at_call 312;refine(apt c hc _).mono ?_;rintro e w' ⟨rfl,hw⟩;rw[hw])
 go_loopw [8] (λ i W=>∃m:Nat,m<=c/\(0<c->0<m)/\i=.int .i64 m/\W.heap[w.heap.size]? =some (.cells (rx x m c).toArray 3)/\Below w.heap.size w W)
  (λ i _=>c-(intOf i).toNat)
 case atStart=>exact⟨m0,by omega,by omega,rfl,hg1,hb1⟩
 case round=>
  obtain⟨m,hm,hmp,rfl,hgW,hbW⟩:=hrel;by_cases hlt:m<c
  .have hm1:(0:Int)<=(m:Int):=Int.natCast_nonneg _;have hm2:(m:Int)<=(c:Int):=(by omega);have hcm:¬c=m:=(by omega);obtain⟨W2,hcp2,hg2,hb2⟩:=akg (W:=wr.drew) (k:=min m (c-m)) (sLen:=m) (dLen:=c-m) (dCap:=c-m) (sCap:=c) (a:=⟨w.heap.size,0,none⟩) (show wr.drew.heap[w.heap.size]? =_ from hgW) (by omega) rfl λj v hj=>by
    have hj0:=(bU.1 hj).1;rw[List.length_replicate]at hj0;rw[List.getElem?_replicate,aP hj0]at hj;have h1:(rx x m c)[j]? =some (.int .i64 x):=(by rw[rx,List.getElem?_append_left (by simp;omega),List.getElem?_replicate,aP (by omega)]);show wr.cell? _=_;rw[<- hj,<- h1];cases j with
    |zero=>simp[World.cell?,Addr.add,hgW]
    |succ j=>simp[World.cell?,Addr.add,hgW]
   have hb2:=hb2 w.heap.size w (show Below w.heap.size w wr.drew from⟨hbW.os,hbW.tape,hbW.output,hbW.size,hbW.block⟩) (aB _);obtain⟨k,hk⟩:∃k,min m (c-m)=k:=⟨_,rfl⟩;rw[hk]at hcp2 hg2
   go_wp2
   go_region_held3 (λ _=>True) (trivial) ((refine apu (by rfl) _ _ _ _ (by rfl) (by simp[Act.eval]) (by rfl) hcp2 ?_))
   have hw:i64.wrap ((m:Int)+(k:Int))=((m+k:Nat):Int):=(by rw[IntKind.wrap_i64];omega);rw[hw]
   go_wp2
   exact⟨⟨m+k,by omega,by omega,rfl,hg2,hb2⟩,by simp[intOf];omega⟩
  .obtain rfl:m=c:=by omega
   go_wp2
   go_ret
   exact⟨_,rfl,⟨by simp,.inr ⟨w.heap.size,m,_,rfl,aB _,hgW,aB _,by unfold maxLen;omega,by simp[rx],by simp[rx]⟩⟩,hbW⟩
end Go.Proofs
namespace Go.Proofs
open Go.Shelf
def Tryz.lays144_ren:Go.Shelf.Ren:=⟨λ| 144=>238| 143=>260| 219=>281| 217=>297| 225=>298| 224=>299| 267=>300| 266=>308| 314=>309|n=>n,λ| 9=>9| 4=>4| 3=>3| 5=>5| 46=>151| 146=>384| 51=>225|n=>n,λ| 1=>0|n=>n⟩
theorem Tryz.lays144:Go.Proofs.Lays.n144 Tryz.prog Tryz.lays144_ren:={
 mixed:=by kernel_rfl
 f143:=Tryz.func260.trans (congrArg some (by kernel_rfl))
 f144:=Tryz.func238.trans (congrArg some (by kernel_rfl))
 f217:=Tryz.func297.trans (congrArg some (by kernel_rfl))
 f219:=Tryz.func281.trans (congrArg some (by kernel_rfl))
 f224:=Tryz.func299.trans (congrArg some (by kernel_rfl))
 f225:=Tryz.func298.trans (congrArg some (by kernel_rfl))
 f266:=Tryz.func308.trans (congrArg some (by kernel_rfl))
 f267:=Tryz.func300.trans (congrArg some (by kernel_rfl))
 f314:=Tryz.func309.trans (congrArg some (by kernel_rfl))
 t3:=Tryz.underlying3
 a3:=Tryz.isAgg3
 z3:=Tryz.sizeOf3
 v3:=Tryz.zeroValue3
 t4:=Tryz.underlying4
 a4:=Tryz.isAgg4
 z4:=Tryz.sizeOf4
 v4:=Tryz.zeroValue4
 t5:=Tryz.underlying5
 a5:=Tryz.isAgg5
 z5:=Tryz.sizeOf5
 v5:=Tryz.zeroValue5
 t9:=Tryz.underlying9
 a9:=Tryz.isAgg9
 z9:=Tryz.sizeOf9
 v9:=Tryz.zeroValue9
 t46:=Tryz.underlying151
 a46:=Tryz.isAgg151
 z46:=Tryz.sizeOf151
 v46:=Tryz.zeroValue151
 t51:=Tryz.underlying225
 a51:=Tryz.isAgg225
 z51:=Tryz.sizeOf225
 v51:=Tryz.zeroValue225
 t146:=Tryz.underlying384
 a146:=Tryz.isAgg384
 z146:=Tryz.sizeOf384
 v146:=Tryz.zeroValue384
 g1:=by kernel_rfl }
theorem af3(s sub:ByteArray)(m:Int)(w:M)(hs:s.size<4294967281)(hm:w.cell? ⟨0,0,none⟩=some (.int .i64 m)):
 Calls Tryz.prog 238 #[.string s,.string sub] w λe w'=>e=.returned (.bool (Lib.contains s.data.toList sub.data.toList))/\w'=w:=Any.strings_Contains Tryz.lays144 s sub m w hs hm
end Go.Proofs
namespace Go.Proofs
open Go.Shelf
def Tryz.so62_ren:Go.Shelf.Ren:=⟨λ| 6=>62| 15=>97| 14=>96| 28=>142| 29=>143| 20=>134| 21=>135| 22=>136| 23=>137| 24=>138| 25=>139| 26=>140| 27=>141| 46=>187| 47=>188| 48=>189| 49=>190| 50=>191| 57=>229|n=>n,λ| 22=>42| 24=>48| 25=>150| 3=>3| 39=>151| 0=>0| 53=>225| 55=>227| 4=>4| 46=>218| 45=>217| 50=>222| 5=>5| 9=>9| 66=>272| 70=>276| 76=>317| 77=>314|n=>n,λ|n=>n⟩
theorem Tryz.so62:Go.Proofs.SlLaysF0.n6 Tryz.prog Tryz.so62_ren:={
 mixed:=by kernel_rfl
 f6:=⟨Tryz.f62.name,by decide,Tryz.func62.trans (congrArg some (by kernel_rfl))⟩
 f14:=⟨Tryz.f96.name,by decide,Tryz.func96.trans (congrArg some (by kernel_rfl))⟩
 f15:=Tryz.func97.trans (congrArg some (by kernel_rfl))
 f20:=⟨Tryz.f134.name,by decide,Tryz.func134.trans (congrArg some (by kernel_rfl))⟩
 f21:=⟨Tryz.f135.name,by decide,Tryz.func135.trans (congrArg some (by kernel_rfl))⟩
 f22:=⟨Tryz.f136.name,by decide,Tryz.func136.trans (congrArg some (by kernel_rfl))⟩
 f23:=⟨Tryz.f137.name,by decide,Tryz.func137.trans (congrArg some (by kernel_rfl))⟩
 f24:=⟨Tryz.f138.name,by decide,Tryz.func138.trans (congrArg some (by kernel_rfl))⟩
 f25:=⟨Tryz.f139.name,by decide,Tryz.func139.trans (congrArg some (by kernel_rfl))⟩
 f26:=⟨Tryz.f140.name,by decide,Tryz.func140.trans (congrArg some (by kernel_rfl))⟩
 f27:=⟨Tryz.f141.name,by decide,Tryz.func141.trans (congrArg some (by kernel_rfl))⟩
 f28:=Tryz.func142.trans (congrArg some (by kernel_rfl))
 f29:=Tryz.func143.trans (congrArg some (by kernel_rfl))
 f46:=⟨Tryz.f187.name,by decide,Tryz.func187.trans (congrArg some (by kernel_rfl))⟩
 f47:=Tryz.func188.trans (congrArg some (by kernel_rfl))
 f48:=Tryz.func189.trans (congrArg some (by kernel_rfl))
 f49:=⟨Tryz.f190.name,by decide,Tryz.func190.trans (congrArg some (by kernel_rfl))⟩
 f50:=⟨Tryz.f191.name,by decide,Tryz.func191.trans (congrArg some (by kernel_rfl))⟩
 f57:=⟨Tryz.f229.name,by decide,Tryz.func229.trans (congrArg some (by kernel_rfl))⟩
 t0:=Tryz.underlying0
 a0:=Tryz.isAgg0
 z0:=Tryz.sizeOf0
 v0:=Tryz.zeroValue0
 t3:=Tryz.underlying3
 a3:=Tryz.isAgg3
 z3:=Tryz.sizeOf3
 v3:=Tryz.zeroValue3
 t4:=Tryz.underlying4
 a4:=Tryz.isAgg4
 z4:=Tryz.sizeOf4
 v4:=Tryz.zeroValue4
 t5:=Tryz.underlying5
 a5:=Tryz.isAgg5
 z5:=Tryz.sizeOf5
 v5:=Tryz.zeroValue5
 t9:=Tryz.underlying9
 a9:=Tryz.isAgg9
 z9:=Tryz.sizeOf9
 v9:=Tryz.zeroValue9
 t22:=Tryz.underlying42
 a22:=Tryz.isAgg42
 z22:=Tryz.sizeOf42
 v22:=Tryz.zeroValue42
 t25:=Tryz.underlying150
 a25:=Tryz.isAgg150
 z25:=Tryz.sizeOf150
 v25:=Tryz.zeroValue150
 t39:=Tryz.underlying151
 a39:=Tryz.isAgg151
 z39:=Tryz.sizeOf151
 v39:=Tryz.zeroValue151
 t45:=Tryz.underlying217
 a45:=Tryz.isAgg217
 z45:=Tryz.sizeOf217
 v45:=Tryz.zeroValue217
 t46:=Tryz.underlying218
 a46:=Tryz.isAgg218
 z46:=Tryz.sizeOf218
 v46:=Tryz.zeroValue218
 t50:=Tryz.underlying222
 a50:=Tryz.isAgg222
 z50:=Tryz.sizeOf222
 v50:=Tryz.zeroValue222
 t53:=Tryz.underlying225
 a53:=Tryz.isAgg225
 z53:=Tryz.sizeOf225
 v53:=Tryz.zeroValue225
 t55:=Tryz.underlying227
 a55:=Tryz.isAgg227
 z55:=Tryz.sizeOf227
 v55:=Tryz.zeroValue227
 t66:=Tryz.underlying272
 a66:=Tryz.isAgg272
 z66:=Tryz.sizeOf272
 v66:=Tryz.zeroValue272
 t70:=Tryz.underlying276
 a70:=Tryz.isAgg276
 z70:=Tryz.sizeOf276
 v70:=Tryz.zeroValue276
 t76:=Tryz.underlying317
 a76:=Tryz.isAgg317
 z76:=Tryz.sizeOf317
 v76:=Tryz.zeroValue317
 t77:=Tryz.underlying314
 a77:=Tryz.isAgg314
 z77:=Tryz.sizeOf314
 v77:=Tryz.zeroValue314 }
def Tryz.so72_ren:Go.Shelf.Ren:=⟨λ| 5=>72| 8=>97| 7=>101| 19=>142| 20=>143| 10=>145| 11=>146| 12=>147| 13=>148| 14=>149| 15=>150| 16=>151| 17=>152| 18=>153| 30=>192| 31=>188| 32=>189| 33=>193| 34=>194| 35=>159| 40=>230|n=>n,λ| 23=>41| 25=>3| 3=>3| 32=>151| 22=>41| 0=>0| 44=>225| 46=>227| 4=>4| 36=>218| 35=>217| 41=>222| 5=>5| 9=>9| 53=>272| 57=>276| 63=>317| 64=>314|n=>n,λ|n=>n⟩
theorem Tryz.so72:Go.Proofs.SlLaysM.n5 Tryz.prog Tryz.so72_ren:={
 mixed:=by kernel_rfl
 f5:=⟨Tryz.f72.name,by decide,Tryz.func72.trans (congrArg some (by kernel_rfl))⟩
 f7:=⟨Tryz.f101.name,by decide,Tryz.func101.trans (congrArg some (by kernel_rfl))⟩
 f8:=Tryz.func97.trans (congrArg some (by kernel_rfl))
 f10:=⟨Tryz.f145.name,by decide,Tryz.func145.trans (congrArg some (by kernel_rfl))⟩
 f11:=⟨Tryz.f146.name,by decide,Tryz.func146.trans (congrArg some (by kernel_rfl))⟩
 f12:=⟨Tryz.f147.name,by decide,Tryz.func147.trans (congrArg some (by kernel_rfl))⟩
 f13:=⟨Tryz.f148.name,by decide,Tryz.func148.trans (congrArg some (by kernel_rfl))⟩
 f14:=⟨Tryz.f149.name,by decide,Tryz.func149.trans (congrArg some (by kernel_rfl))⟩
 f15:=⟨Tryz.f150.name,by decide,Tryz.func150.trans (congrArg some (by kernel_rfl))⟩
 f16:=⟨Tryz.f151.name,by decide,Tryz.func151.trans (congrArg some (by kernel_rfl))⟩
 f17:=⟨Tryz.f152.name,by decide,Tryz.func152.trans (congrArg some (by kernel_rfl))⟩
 f18:=⟨Tryz.f153.name,by decide,Tryz.func153.trans (congrArg some (by kernel_rfl))⟩
 f19:=Tryz.func142.trans (congrArg some (by kernel_rfl))
 f20:=Tryz.func143.trans (congrArg some (by kernel_rfl))
 f30:=⟨Tryz.f192.name,by decide,Tryz.func192.trans (congrArg some (by kernel_rfl))⟩
 f31:=Tryz.func188.trans (congrArg some (by kernel_rfl))
 f32:=Tryz.func189.trans (congrArg some (by kernel_rfl))
 f33:=⟨Tryz.f193.name,by decide,Tryz.func193.trans (congrArg some (by kernel_rfl))⟩
 f34:=⟨Tryz.f194.name,by decide,Tryz.func194.trans (congrArg some (by kernel_rfl))⟩
 f35:=⟨Tryz.f159.name,by decide,Tryz.func159.trans (congrArg some (by kernel_rfl))⟩
 f40:=⟨Tryz.f230.name,by decide,Tryz.func230.trans (congrArg some (by kernel_rfl))⟩
 t0:=Tryz.underlying0
 a0:=Tryz.isAgg0
 z0:=Tryz.sizeOf0
 v0:=Tryz.zeroValue0
 t3:=Tryz.underlying3
 a3:=Tryz.isAgg3
 z3:=Tryz.sizeOf3
 v3:=Tryz.zeroValue3
 t4:=Tryz.underlying4
 a4:=Tryz.isAgg4
 z4:=Tryz.sizeOf4
 v4:=Tryz.zeroValue4
 t5:=Tryz.underlying5
 a5:=Tryz.isAgg5
 z5:=Tryz.sizeOf5
 v5:=Tryz.zeroValue5
 t9:=Tryz.underlying9
 a9:=Tryz.isAgg9
 z9:=Tryz.sizeOf9
 v9:=Tryz.zeroValue9
 t22:=Tryz.underlying41
 a22:=Tryz.isAgg41
 z22:=Tryz.sizeOf41
 v22:=Tryz.zeroValue41
 t23:=Tryz.underlying41
 a23:=Tryz.isAgg41
 z23:=Tryz.sizeOf41
 v23:=Tryz.zeroValue41
 t25:=Tryz.underlying3
 a25:=Tryz.isAgg3
 z25:=Tryz.sizeOf3
 v25:=Tryz.zeroValue3
 t32:=Tryz.underlying151
 a32:=Tryz.isAgg151
 z32:=Tryz.sizeOf151
 v32:=Tryz.zeroValue151
 t35:=Tryz.underlying217
 a35:=Tryz.isAgg217
 z35:=Tryz.sizeOf217
 v35:=Tryz.zeroValue217
 t36:=Tryz.underlying218
 a36:=Tryz.isAgg218
 z36:=Tryz.sizeOf218
 v36:=Tryz.zeroValue218
 t41:=Tryz.underlying222
 a41:=Tryz.isAgg222
 z41:=Tryz.sizeOf222
 v41:=Tryz.zeroValue222
 t44:=Tryz.underlying225
 a44:=Tryz.isAgg225
 z44:=Tryz.sizeOf225
 v44:=Tryz.zeroValue225
 t46:=Tryz.underlying227
 a46:=Tryz.isAgg227
 z46:=Tryz.sizeOf227
 v46:=Tryz.zeroValue227
 t53:=Tryz.underlying272
 a53:=Tryz.isAgg272
 z53:=Tryz.sizeOf272
 v53:=Tryz.zeroValue272
 t57:=Tryz.underlying276
 a57:=Tryz.isAgg276
 z57:=Tryz.sizeOf276
 v57:=Tryz.zeroValue276
 t63:=Tryz.underlying317
 a63:=Tryz.isAgg317
 z63:=Tryz.sizeOf317
 v63:=Tryz.zeroValue317
 t64:=Tryz.underlying314
 a64:=Tryz.isAgg314
 z64:=Tryz.sizeOf314
 v64:=Tryz.zeroValue314 }
def Tryz.so232_ren:Go.Shelf.Ren:=⟨λ| 6=>232| 15=>97| 14=>254| 28=>142| 29=>143| 20=>273| 21=>274| 22=>275| 23=>276| 24=>277| 25=>278| 26=>279| 27=>280| 46=>294| 47=>188| 48=>189| 49=>295| 50=>296| 57=>307|n=>n,λ| 22=>281| 24=>283| 25=>322| 3=>3| 39=>151| 0=>0| 53=>225| 55=>227| 4=>4| 46=>218| 45=>217| 50=>222| 5=>5| 9=>9| 66=>272| 70=>276| 76=>317| 77=>314|n=>n,λ|n=>n⟩
theorem Tryz.so232:Go.Proofs.SlLaysF0.n6 Tryz.prog Tryz.so232_ren:={
 mixed:=by kernel_rfl
 f6:=⟨Tryz.f232.name,by decide,Tryz.func232.trans (congrArg some (by kernel_rfl))⟩
 f14:=⟨Tryz.f254.name,by decide,Tryz.func254.trans (congrArg some (by kernel_rfl))⟩
 f15:=Tryz.func97.trans (congrArg some (by kernel_rfl))
 f20:=⟨Tryz.f273.name,by decide,Tryz.func273.trans (congrArg some (by kernel_rfl))⟩
 f21:=⟨Tryz.f274.name,by decide,Tryz.func274.trans (congrArg some (by kernel_rfl))⟩
 f22:=⟨Tryz.f275.name,by decide,Tryz.func275.trans (congrArg some (by kernel_rfl))⟩
 f23:=⟨Tryz.f276.name,by decide,Tryz.func276.trans (congrArg some (by kernel_rfl))⟩
 f24:=⟨Tryz.f277.name,by decide,Tryz.func277.trans (congrArg some (by kernel_rfl))⟩
 f25:=⟨Tryz.f278.name,by decide,Tryz.func278.trans (congrArg some (by kernel_rfl))⟩
 f26:=⟨Tryz.f279.name,by decide,Tryz.func279.trans (congrArg some (by kernel_rfl))⟩
 f27:=⟨Tryz.f280.name,by decide,Tryz.func280.trans (congrArg some (by kernel_rfl))⟩
 f28:=Tryz.func142.trans (congrArg some (by kernel_rfl))
 f29:=Tryz.func143.trans (congrArg some (by kernel_rfl))
 f46:=⟨Tryz.f294.name,by decide,Tryz.func294.trans (congrArg some (by kernel_rfl))⟩
 f47:=Tryz.func188.trans (congrArg some (by kernel_rfl))
 f48:=Tryz.func189.trans (congrArg some (by kernel_rfl))
 f49:=⟨Tryz.f295.name,by decide,Tryz.func295.trans (congrArg some (by kernel_rfl))⟩
 f50:=⟨Tryz.f296.name,by decide,Tryz.func296.trans (congrArg some (by kernel_rfl))⟩
 f57:=⟨Tryz.f307.name,by decide,Tryz.func307.trans (congrArg some (by kernel_rfl))⟩
 t0:=Tryz.underlying0
 a0:=Tryz.isAgg0
 z0:=Tryz.sizeOf0
 v0:=Tryz.zeroValue0
 t3:=Tryz.underlying3
 a3:=Tryz.isAgg3
 z3:=Tryz.sizeOf3
 v3:=Tryz.zeroValue3
 t4:=Tryz.underlying4
 a4:=Tryz.isAgg4
 z4:=Tryz.sizeOf4
 v4:=Tryz.zeroValue4
 t5:=Tryz.underlying5
 a5:=Tryz.isAgg5
 z5:=Tryz.sizeOf5
 v5:=Tryz.zeroValue5
 t9:=Tryz.underlying9
 a9:=Tryz.isAgg9
 z9:=Tryz.sizeOf9
 v9:=Tryz.zeroValue9
 t22:=Tryz.underlying281
 a22:=Tryz.isAgg281
 z22:=Tryz.sizeOf281
 v22:=Tryz.zeroValue281
 t25:=Tryz.underlying322
 a25:=Tryz.isAgg322
 z25:=Tryz.sizeOf322
 v25:=Tryz.zeroValue322
 t39:=Tryz.underlying151
 a39:=Tryz.isAgg151
 z39:=Tryz.sizeOf151
 v39:=Tryz.zeroValue151
 t45:=Tryz.underlying217
 a45:=Tryz.isAgg217
 z45:=Tryz.sizeOf217
 v45:=Tryz.zeroValue217
 t46:=Tryz.underlying218
 a46:=Tryz.isAgg218
 z46:=Tryz.sizeOf218
 v46:=Tryz.zeroValue218
 t50:=Tryz.underlying222
 a50:=Tryz.isAgg222
 z50:=Tryz.sizeOf222
 v50:=Tryz.zeroValue222
 t53:=Tryz.underlying225
 a53:=Tryz.isAgg225
 z53:=Tryz.sizeOf225
 v53:=Tryz.zeroValue225
 t55:=Tryz.underlying227
 a55:=Tryz.isAgg227
 z55:=Tryz.sizeOf227
 v55:=Tryz.zeroValue227
 t66:=Tryz.underlying272
 a66:=Tryz.isAgg272
 z66:=Tryz.sizeOf272
 v66:=Tryz.zeroValue272
 t70:=Tryz.underlying276
 a70:=Tryz.isAgg276
 z70:=Tryz.sizeOf276
 v70:=Tryz.zeroValue276
 t76:=Tryz.underlying317
 a76:=Tryz.isAgg317
 z76:=Tryz.sizeOf317
 v76:=Tryz.zeroValue317
 t77:=Tryz.underlying314
 a77:=Tryz.isAgg314
 z77:=Tryz.sizeOf314
 v77:=Tryz.zeroValue314 }
def Tryz.so106_ren:Go.Shelf.Ren:=⟨λ| 6=>106| 15=>97| 14=>158| 28=>142| 29=>143| 20=>199| 21=>200| 22=>201| 23=>202| 24=>203| 25=>204| 26=>205| 27=>206| 46=>234| 47=>188| 48=>189| 49=>235| 50=>236| 57=>255|n=>n,λ| 22=>91| 24=>90| 25=>195| 3=>3| 39=>151| 0=>0| 53=>225| 55=>227| 4=>4| 46=>218| 45=>217| 50=>222| 5=>5| 9=>9| 66=>272| 70=>276| 76=>317| 77=>314|n=>n,λ|n=>n⟩
theorem Tryz.so106:Go.Proofs.SlLaysF0.n6 Tryz.prog Tryz.so106_ren:={
 mixed:=by kernel_rfl
 f6:=⟨Tryz.f106.name,by decide,Tryz.func106.trans (congrArg some (by kernel_rfl))⟩
 f14:=⟨Tryz.f158.name,by decide,Tryz.func158.trans (congrArg some (by kernel_rfl))⟩
 f15:=Tryz.func97.trans (congrArg some (by kernel_rfl))
 f20:=⟨Tryz.f199.name,by decide,Tryz.func199.trans (congrArg some (by kernel_rfl))⟩
 f21:=⟨Tryz.f200.name,by decide,Tryz.func200.trans (congrArg some (by kernel_rfl))⟩
 f22:=⟨Tryz.f201.name,by decide,Tryz.func201.trans (congrArg some (by kernel_rfl))⟩
 f23:=⟨Tryz.f202.name,by decide,Tryz.func202.trans (congrArg some (by kernel_rfl))⟩
 f24:=⟨Tryz.f203.name,by decide,Tryz.func203.trans (congrArg some (by kernel_rfl))⟩
 f25:=⟨Tryz.f204.name,by decide,Tryz.func204.trans (congrArg some (by kernel_rfl))⟩
 f26:=⟨Tryz.f205.name,by decide,Tryz.func205.trans (congrArg some (by kernel_rfl))⟩
 f27:=⟨Tryz.f206.name,by decide,Tryz.func206.trans (congrArg some (by kernel_rfl))⟩
 f28:=Tryz.func142.trans (congrArg some (by kernel_rfl))
 f29:=Tryz.func143.trans (congrArg some (by kernel_rfl))
 f46:=⟨Tryz.f234.name,by decide,Tryz.func234.trans (congrArg some (by kernel_rfl))⟩
 f47:=Tryz.func188.trans (congrArg some (by kernel_rfl))
 f48:=Tryz.func189.trans (congrArg some (by kernel_rfl))
 f49:=⟨Tryz.f235.name,by decide,Tryz.func235.trans (congrArg some (by kernel_rfl))⟩
 f50:=⟨Tryz.f236.name,by decide,Tryz.func236.trans (congrArg some (by kernel_rfl))⟩
 f57:=⟨Tryz.f255.name,by decide,Tryz.func255.trans (congrArg some (by kernel_rfl))⟩
 t0:=Tryz.underlying0
 a0:=Tryz.isAgg0
 z0:=Tryz.sizeOf0
 v0:=Tryz.zeroValue0
 t3:=Tryz.underlying3
 a3:=Tryz.isAgg3
 z3:=Tryz.sizeOf3
 v3:=Tryz.zeroValue3
 t4:=Tryz.underlying4
 a4:=Tryz.isAgg4
 z4:=Tryz.sizeOf4
 v4:=Tryz.zeroValue4
 t5:=Tryz.underlying5
 a5:=Tryz.isAgg5
 z5:=Tryz.sizeOf5
 v5:=Tryz.zeroValue5
 t9:=Tryz.underlying9
 a9:=Tryz.isAgg9
 z9:=Tryz.sizeOf9
 v9:=Tryz.zeroValue9
 t22:=Tryz.underlying91
 a22:=Tryz.isAgg91
 z22:=Tryz.sizeOf91
 v22:=Tryz.zeroValue91
 t25:=Tryz.underlying195
 a25:=Tryz.isAgg195
 z25:=Tryz.sizeOf195
 v25:=Tryz.zeroValue195
 t39:=Tryz.underlying151
 a39:=Tryz.isAgg151
 z39:=Tryz.sizeOf151
 v39:=Tryz.zeroValue151
 t45:=Tryz.underlying217
 a45:=Tryz.isAgg217
 z45:=Tryz.sizeOf217
 v45:=Tryz.zeroValue217
 t46:=Tryz.underlying218
 a46:=Tryz.isAgg218
 z46:=Tryz.sizeOf218
 v46:=Tryz.zeroValue218
 t50:=Tryz.underlying222
 a50:=Tryz.isAgg222
 z50:=Tryz.sizeOf222
 v50:=Tryz.zeroValue222
 t53:=Tryz.underlying225
 a53:=Tryz.isAgg225
 z53:=Tryz.sizeOf225
 v53:=Tryz.zeroValue225
 t55:=Tryz.underlying227
 a55:=Tryz.isAgg227
 z55:=Tryz.sizeOf227
 v55:=Tryz.zeroValue227
 t66:=Tryz.underlying272
 a66:=Tryz.isAgg272
 z66:=Tryz.sizeOf272
 v66:=Tryz.zeroValue272
 t70:=Tryz.underlying276
 a70:=Tryz.isAgg276
 z70:=Tryz.sizeOf276
 v70:=Tryz.zeroValue276
 t76:=Tryz.underlying317
 a76:=Tryz.isAgg317
 z76:=Tryz.sizeOf317
 v76:=Tryz.zeroValue317
 t77:=Tryz.underlying314
 a77:=Tryz.isAgg314
 z77:=Tryz.sizeOf314
 v77:=Tryz.zeroValue314 }
end Go.Proofs
