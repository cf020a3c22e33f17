import Derived.Test.YthdllpdbgdfmiaaGreatL1
import Derived.Maps.Own
import Derived.RangeFuncOwn
import Derived.Deep.WholeRow
import Derived.WalkKit
import Derived.Maps.Views
import Derived.Sort.KeysCollected
import Derived.Lib.IndexMore
import Derived.CallsIn
import Derived.Sort.Grow
import Derived.Shelf.SortM.Plain
import Derived.Shelf.SortM.SortNone
import Derived.Shelf.SlSortCmp.WholeK
import Derived.Shelf.SlSortCmp.NoneTotal
import Derived.Sort.WalkA14
import Derived.RangeFuncNested
import Derived.RangeFuncBound
import Derived.RangeFuncLeaves
import Derived.Shelf.Abstract
import Derived.OwnWalkIn
import Derived.TacticsInMore
import Derived.LoopNIn
import Derived.LoopIn
import Derived.Shelf.SlIter.Nil
import Derived.Ground.GgzProg
import Derived.Ground.SlgmProg
import Derived.Test.YthdllpdbgdfmiaaGreatChecked
import Derived.Maps.AppendAt
import Derived.Maps.OwnIn
import Derived.Maps.RangeWalk
import Derived.Maps.OwnSet
import Derived.Deep.RegionHeld3
import Derived.Deep.AppendLies
import Derived.Deep.RegionLaw
import Derived.Deep.DrawnRows
import Derived.Shelf.Bits.Mul64
import Derived.Laws.CopyOwn
import Derived.Shelf.Strings.Search3
import Derived.Ground.NamesProg
import Derived.Ground.SlsfProg
import Derived.MapKept
import Derived.Deep.Draws
import Derived.RowKit
open Go.IntKind (i64)
open List (mem_map all_eq_true cons_append length_map length_nil map_map eq_nil_of_length_eq_zero)
namespace Go.Proofs
open Go.RowKit Go.Maps Go.Sort
attribute [local go_sem] Oper.semAt_some
inductive ET where
 |mk (op:Int) (s:ByteArray) (args:List ET)
mutual
def ET.names:ET->List ByteArray
 |.mk op s args=>(if op=1 then [s]else [])++ET.ej args
def ET.ej:List ET->List ByteArray
 |[]=>[]
 |t::ts=>t.names++ET.ej ts
end
section
variable (n0:Nat) (W:World)
mutual
def mz:ET->List Value->Prop
 |.mk op s args,vs=>∃n key sl,(vs=[.int .i64 op,.int .i64 n,.string s,.string key,sl]/\args.length<=4611686018427387904/\s.size<=maxLen)/\((args=[]/\∃a cap,sl=.slice a 0 cap)\/∃b aa cap,sl=.slice (some ⟨b,aa,none⟩) args.length cap/\b<n0/\i6 args b aa)
def i6:List ET->Nat->Nat->Prop
 |[],_,_=>True
 |t::ts,b,aa=>(∃ vs:List Value,(∀ j v,vs[j]? =some v->W.cell? ⟨b,aa+j,none⟩=some v)/\mz t vs)/\i6 ts b (aa+5)
end
end
mutual
theorem mz.below{n0:Nat}{A B:World}(h:Below n0 A B):∀(t:ET)(vs:List Value),mz n0 A t vs->mz n0 B t vs
 |.mk op s args,vs,ha=>by obtain⟨n,key,sl,h1,h2⟩:=ha;refine⟨n,key,sl,h1,h2.imp id ?_⟩;rintro⟨b,aa,cap,e,hb,hs⟩;exact⟨b,aa,cap,e,hb,i6.below h args b aa hb hs⟩
theorem i6.below{n0:Nat}{A B:World}(h:Below n0 A B):∀(ts:List ET)(b aa:Nat),b<n0->i6 n0 A ts b aa->i6 n0 B ts b aa
 |[],_,_,_,_=>by simp[i6]
 |t::ts,b,aa,hb,hs=>by obtain⟨⟨vs,h1,h2⟩,h3⟩:=hs;exact⟨⟨vs,λj v hj=>(h.cell (p:=⟨b,aa+j,none⟩) hb).trans (h1 j v hj),mz.below h t vs h2⟩,i6.below h ts b (aa+5) hb h3⟩
end
theorem mz.below'{n0:Nat}{A B:World}{t:ET}{vs:List Value}(ha:mz n0 A t vs)(h:Below n0 A B):mz n0 B t vs:=mz.below h t vs ha
theorem i6.get{n0:Nat}{W:World}:∀{ts:List ET}{b aa i:Nat}{t:ET},i6 n0 W ts b aa->ts[i]? =some t->∃vs:List Value,(∀ j v,vs[j]? =some v->W.cell? ⟨b,aa+i*5+j,none⟩=some v)/\mz n0 W t vs
 |t::ts,b,aa,0,t',h,hi=>by simp at hi;subst hi;simpa using h.1
 |t::ts,b,aa,i+1,t',h,hi=>by obtain⟨vs,h1,h2⟩:=i6.get h.2 (by simpa using hi);exact⟨vs,λj v hj=>by rw[show aa+(i+1)*5+j=aa+5+i*5+j by omega];exact h1 j v hj,h2⟩
mutual
theorem mz.mono{n0 n1:Nat}{W:World}(hn:n0<=n1):∀(t:ET)(vs:List Value),mz n0 W t vs->mz n1 W t vs
 |.mk op s args,vs,ha=>by obtain⟨n,key,sl,h1,h2⟩:=ha;refine⟨n,key,sl,h1,h2.imp id ?_⟩;rintro⟨b,aa,cap,e,hb,hs⟩;exact⟨b,aa,cap,e,by omega,i6.mono hn args b aa hs⟩
theorem i6.mono{n0 n1:Nat}{W:World}(hn:n0<=n1):∀(ts:List ET)(b aa:Nat),i6 n0 W ts b aa->i6 n1 W ts b aa
 |[],_,_,_=>by simp[i6]
 |t::ts,b,aa,hs=>by obtain⟨⟨vs,h1,h2⟩,h3⟩:=hs;exact⟨⟨vs,h1,mz.mono hn t vs h2⟩,i6.mono hn ts b (aa+5) h3⟩
end
theorem ET.oa(ts:List ET)(i:Nat){t:ET}(h:ts[i]? =some t):ET.ej (ts.take (i+1))=ET.ej (ts.take i)++t.names:=by
 induction ts generalizing i with
 |nil=>simp at h
 |cons x xs ih=>
  cases i with
  |zero=>simp at h;subst h;simp[ET.ej]
  |succ i=>simp[ET.ej,ih i (by simpa using h)]
theorem ET.uk(ts:List ET)(i:Nat):(ET.ej (ts.take i)).length<=(ET.ej ts).length:=by
 induction ts generalizing i with
 |nil=>simp
 |cons x xs ih=>cases i with
  |zero=>simp[ET.ej]
  |succ i=>simp[ET.ej];have:=ih i;omega
theorem ET.rm{op:Int}{s:ByteArray}{args:List ET}{i:Nat}{t:ET}{x:ByteArray}(h:args[i]? =some t)(hx:x∈t.names):x∈(ET.mk op s args).names:=by
 simp[ET.names];refine .inr ?_
 induction args generalizing i with
 |nil=>simp at h
 |cons y ys ih=>
  simp[ET.ej];cases i with
  |zero=>simp at h;subst h;exact .inl hx
  |succ i=>exact .inr (ih (by simpa using h))
abbrev Ix(l:List ByteArray):List Lit:=l.map λs=>.string s.data.toList
def xI(l:List ByteArray):DataW Unit:=setOf (.lit (.bool true)) (Ix l)
theorem aeO(l:List ByteArray)(s:ByteArray):xI (l++[s])=(xI l).put (.string s.data.toList) (.lit (.bool true)):=by simp[xI,setOf]
theorem acv(l:List ByteArray):∀x∈Ix l,WideAt.IsKeyLit x:=by intro x hx;obtain⟨s,_,rfl⟩:=mem_map.1 hx;trivial
theorem aa2:∀(xs L:List Lit),(xs.foldl addKey L).length<=L.length+xs.length
 |[],L=>by simp
 |x::xs,L=>by
  have h:=aa2 xs (addKey L x);have h2:(addKey L x).length<=L.length+1:=by unfold addKey;split<;>simp
  simp;omega
theorem aeP(l:List ByteArray):Maps.size (xI l)<=l.length:=by rw[xI,size_setOf _ _ (acv l)];simpa using aa2 (Ix l) []
def tc(l:List (List UInt8)):List (List UInt8):=l.foldr (λ x a=>if x∈a then a else x::a) []
theorem U2(x:List UInt8):∀l,x∈tc l↔x∈l
 |[]=>by simp[tc]
 |y::l=>by have h:=U2 x l;show x∈(if y∈tc l then tc l else y::tc l)↔_;split;rename_i hy;rw[aR,h];exact⟨.inr,λe=>e.elim (λ e=>by rw[e];exact(U2 y l).1 hy) id⟩;rw[aR,aR,h]
theorem Qx:∀l,(tc l).Nodup
 |[]=>List.nodup_nil
 |y::l=>by show(if y∈tc l then tc l else y::tc l).Nodup;split;exact Qx l;rename_i hy;exact List.nodup_cons.2 ⟨hy,Qx l⟩
def qI(l:List ByteArray):List (List UInt8):=(tc (l.map (·.data.toList))).mergeSort leB
theorem amL:∀l,(tc l).length<=l.length
 |[]=>by simp[tc]
 |y::l=>by have:=amL l;show(if y∈tc l then tc l else y::tc l).length<=_;split<;>simp<;>omega
theorem Xo(l:List ByteArray):(qI l).length<=l.length:=by rw[qI];simpa using amL (l.map (·.data.toList))
theorem amM{l:List ByteArray}{s:List UInt8}(h:s∈qI l):∃x∈l,s=x.data.toList:=by rw[qI,List.mem_mergeSort,U2]at h;obtain⟨x,hx,rfl⟩:=mem_map.1 h;exact⟨x,hx,rfl⟩
theorem ahr(l:List ByteArray){es:List (Lit×DataW Unit)}(e:xI l=.map es)(hk:∀p∈es,∃x,p.1=.string x):(tc (l.map (·.data.toList))).Perm (strKeys (xI l)):=by
 have ht:=tidy_setOf (H:=Unit) (.lit (.bool true)) (Ix l) (acv l);have hh:=λk=>has_setOf (H:=Unit) (.lit (.bool true)) k (Ix l) (acv l);obtain⟨es',e',hp⟩:=ht;obtain rfl:es=es':=by have:=e.symm.trans e';injection this
 rw[e];refine perm_strKeys hp hk (Qx _) λx=>?_;rw[<- e,xI,hh,U2];constructor;intro h;obtain⟨z,hz,rfl⟩:=mem_map.1 h;exact List.any_eq_true.2 ⟨_,mem_map.2 ⟨z,hz,rfl⟩,WideAt.sameKey_self trivial⟩;intro h;obtain⟨y,hy,hs⟩:=List.any_eq_true.1 h;obtain⟨z,hz,rfl⟩:=mem_map.1 hy;have:=WideAt.sameKey_eq hs;injection this with this;exact mem_map.2 ⟨z,hz,this⟩
mutual
theorem mz.gS{n0:Nat}{W:World}:∀(t:ET)(vs:List Value),mz n0 W t vs->∀x∈t.names,x.size<=maxLen
 |.mk op s args,vs,h,x,hx=>by obtain⟨n,key,sl,⟨_,_,hs⟩,h2⟩:=h;simp only[ET.names,bV]at hx;rcases hx with hx|hx;split at hx;rw[bD]at hx;rw[hx];exact hs;cases hx;rcases h2 with ⟨rfl,_⟩|⟨b,aa,cap,_,_,h3⟩;simp[ET.ej]at hx;exact i6.gS args b aa h3 x hx
theorem i6.gS{n0:Nat}{W:World}:∀(ts:List ET)(b aa:Nat),i6 n0 W ts b aa->∀x∈ET.ej ts,x.size<=maxLen
 |[],_,_,_,x,hx=>by simp[ET.ej]at hx
 |t::ts,b,aa,h,x,hx=>by obtain⟨⟨vs,_,h1⟩,h2⟩:=h;simp[ET.ej]at hx;exact hx.elim (mz.gS t vs h1 x) (i6.gS ts b (aa+5) h2 x)
end
def xr(l:List ByteArray):List ByteArray:=(qI l).map λx=>⟨x.toArray⟩
mutual
def ET.wt:ET->Nat
 |.mk _ s args=>1+s.size+ET.tE args
def ET.tE:List ET->Nat
 |[]=>0
 |t::ts=>t.wt+ET.tE ts
end
mutual
theorem ET.ll:∀t:ET,t.names.length<=t.wt
 |.mk op s args=>by have:=ET.qT args;simp[ET.names,ET.wt];split<;>simp<;>omega
theorem ET.qT:∀ts:List ET,(ET.ej ts).length<=ET.tE ts
 |[]=>by simp[ET.ej]
 |t::ts=>by have h1:=ET.ll t;have h2:=ET.qT ts;simp[ET.ej,ET.tE];omega
end
theorem ET.ro:∀ts:List ET,ts.length<=ET.tE ts
 |[]=>aB _
 |t::ts=>by
  have:=ET.ro ts;have h:1<=t.wt:=by cases t;simp[ET.wt];omega
  simp[ET.tE];omega
theorem dQ(P:Program)(W:World)(c:Array Value)(t:TypeId)(j:Nat)(u:Value)(hj:j<c.size)(h1:u.oneCell'=true):
 (store ⟨W.heap.size,j,none⟩ u).run P (W.alloc (.cells c t))=.ok () (W.alloc (.cells (c.set j u) t)):=by have hn:=World.alloc_heap_new W (.cells c t);rw[run_store _ _ _ _ _ h1];have hr:=World.setRow_alloc_new W c (c.set j u) t;simp only[World.cell?,World.frozen?,hn,Array.getElem?_eq_getElem hj];simp[<- hr];simp only[World.setCell,World.setRow,World.alloc];congr 1;apply Array.ext_getElem?;intro i;rw[Array.getElem?_modify,Array.getElem?_modify];by_cases h:W.heap.size=i;subst h;simp[Array.setIfInBounds,hj];simp[h]
end Go.Proofs
namespace Go.Gb
open Go.RowKit Go.Proofs
mutual
def rL:ET->List Tree->Prop
 |.mk op s args,r=>∃n key rows,r=[.sc (.int .i64 op),.sc (.int .i64 n),.sc (.string s),.sc (.string key),.sl rows]/\s.size<=maxLen/\args.length<=4611686018427387904/\oA args rows
def oA:List ET->List (List Tree)->Prop
 |[],rows=>rows=[]
 |t::ts,rows=>∃r rs,rows=r::rs/\rL t r/\oA ts rs
end
theorem oA.len:∀{ts:List ET}{rows:List (List Tree)},oA ts rows->rows.length=ts.length
 |[],rows,h=>by subst h;rfl
 |t::ts,rows,h=>by obtain⟨r,rs,rfl,_,h⟩:=h;simp[h.len]
theorem rL.len{t:ET}{r:List Tree}(h:rL t r):r.length=5:=by cases t;obtain⟨_,_,_,rfl,_⟩:=h;rfl
theorem Mk{w:World}{I:Nat->Prop}:∀{r:List Tree}{b aa:Nat},eK w I r b aa->∃vs:List Value,fx w I r vs/\∀j v,vs[j]? =some v->w.cell? ⟨b,aa+j,none⟩=some v
 |[],b,aa,_=>⟨[],trivial,λj v h=>by simp at h⟩
 |x::xs,b,aa,h=>by
  obtain⟨⟨c,hc,hx⟩,h2⟩:=h;obtain⟨vs,h3,h4⟩:=Mk h2;refine⟨c::vs,⟨hx,h3⟩,λj v hj=>?_⟩;cases j with
  |zero=>simp at hj;subst hj;exact hc
  |succ j=>have:=h4 j v (by simpa using hj);rw[<- this];congr 2;omega
mutual
theorem ahs{w:World}{I:Nat->Prop}{n0:Nat}(hI:∀b,I b->b<n0):∀(t:ET)(r:List Tree)(vs:List Value),rL t r->fx w I r vs->mz n0 w t vs
 |.mk op s args,r,vs,h,hv=>by
  obtain⟨n,key,rows,rfl,hs,hl,h⟩:=h
  match vs,hv with
  |[a,b,c,d,e],hv=>
   obtain⟨⟨rfl,_⟩,⟨rfl,_⟩,⟨rfl,_⟩,⟨rfl,_⟩,he,_⟩:=hv;refine⟨n,key,e,⟨rfl,hl,hs⟩,?_⟩;have hlen:=h.len;rcases he with ⟨rfl,a,cap,rfl,_⟩|⟨b,aa,cap,sz,rfl,_,hb,hr⟩;exact .inl ⟨eq_nil_of_length_eq_zero hlen.symm,_,_,rfl⟩;exact .inr ⟨b,aa,cap,by rw[hlen],hI b hb,ajw hI args rows b aa sz h hr⟩
theorem ajw{w:World}{I:Nat->Prop}{n0:Nat}(hI:∀b,I b->b<n0):∀(ts:List ET)(rows:List (List Tree))(b aa sz:Nat),oA ts rows->cN w I rows b aa sz->i6 n0 w ts b aa
 |[],_,_,_,_,_,_=>by simp[i6]
 |t::ts,rows,b,aa,sz,h,hr=>by obtain⟨r,rs,rfl,h1,h2⟩:=h;obtain⟨rfl,h3,h4⟩:=hr;obtain⟨vs,h5,h6⟩:=Mk h3;rw[h1.len]at h4;exact⟨⟨vs,h6,ahs hI t r vs h1 h5⟩,ajw hI ts rs b (aa+5) 5 h2 h4⟩
end
theorem amN{P:Program}{β:Nat->Option cV}{w:World}{I:Nat->Prop}:∀(r:List Tree)(vs:List Value),bk P β w I (r.map AV.t) vs->fx w I r vs
 |[],[],_=>trivial
 |x::xs,v::vs,h=>by exact⟨h.1,amN xs vs h.2⟩
theorem aa3{P:Program}{α:Type}{enc:α->Value}(h1:∀x,oneCell (enc x)){E:TypeId}{w w':World}{β:Nat->Option cV}{I:Nat->Prop}{l:List α}{v:Value}(hlt:∀b,I b->b<w.heap.size)
 (hown:w'.ownsRow w.heap.size E 1 v l.length (l.map enc)):S7 P (A2 w β []) 1 (l.map λs=>[.sc (enc s)]) w' I v:=by rcases hown.2 with ⟨rfl,h0⟩|⟨g,cap,cur,rfl,hg,hgb,hle,_,hcs,htk⟩;exact .inl ⟨by rw[eq_nil_of_length_eq_zero h0];rfl,rfl⟩;refine .inr ⟨g,cur,E,cap,0,0,by simp,⟨.inr hg,λk o hk=>by simp[CV]at hk⟩,λhi=>absurd (hlt g hi) (by omega),hgb,by simpa using hle,by omega,?_,λ_=>rfl⟩;rw[oZ];intro i x hx;simp[aI]at hx;obtain⟨s,hs',rfl⟩:=hx;refine⟨rfl,?_⟩;have hi:i<l.length:=(dH.1 hs').1;have:=congrArg (λ q=>q[i]?) htk;simp only[List.getElem?_take,List.getElem?_map,hs',Option.map_some]at this;rw[aX (by omega)]at this;exact⟨⟨_,by simpa using this,⟨rfl,h1 s⟩,h1 s⟩,trivial⟩
theorem akW{P:Program}{f:FuncId}{E:TypeId}(hcall:eG P f){t:ET}{r:List Tree}(hr:rL t r)(hlen:t.names.length<=1000000000000)
 (h:∀(v0 v1 v2 v3 v4:Value)(w:World),mz w.heap.size w t [v0,v1,v2,v3,v4]->Calls P f #[.agg #[v0,v1,v2,v3,v4]] w λe W'=>∃v,e=.returned v/\W'.ownsRow w.heap.size E 1 v (qI t.names).length ((qI t.names).map encStr)/\Below w.heap.size w W'):
 qu P f [(TV.a r).av] [] [] (.one (.fresh 1 ((xr t.names).map λs=>[.sc (.string s)]))):=by
 refine⟨hcall,λw β I vs hβ hM hvs=>?_⟩;obtain⟨vs⟩:=vs
 match vs,hvs with
 |[a],hvs=>
  have hv:=hvs.1;obtain⟨aS,rfl,hvl⟩:∃aS:Array Value,a=.agg aS/\fx w I r aS.toList:=by obtain⟨aS,e,hl⟩:=hv;exact⟨aS,e,amN _ _ hl⟩
  have hE:=ahs hM.lt t r aS.toList hr hvl;obtain⟨aS⟩:=aS;obtain⟨v0,v1,v2,v3,v4,rfl⟩:∃v0 v1 v2 v3 v4,aS=[v0,v1,v2,v3,v4]:=by cases t;obtain⟨_,_,_,⟨e,_⟩,_⟩:=hE;exact⟨_,_,_,_,_,e⟩
  refine(h v0 v1 v2 v3 v4 w hE).mono ?_;rintro e w' ⟨v,rfl,hown,hbel⟩;obtain⟨hs,hM'⟩:=hM.below hbel (I':=I) (λ _ h=>h) (λ b hb=>Nat.lt_of_lt_of_le (hM.lt b hb) hbel.size) (λ b k o B h1 h2 h3 h4=>(hM.ownB k o B b h2 h3 h4).1 h1) hM.up;refine⟨v,I,rfl,hM',λ_ h=>h,?_⟩;rw[show (xr t.names).map (λ s=>[Tree.sc (.string s)])=(qI t.names).map (λ s=>[Tree.sc (encStr s)])by simp[xr]];exact aa3 (enc:=encStr) (λ _=>trivial) hM.lt hown
end Go.Gb
namespace Go.Proofs
open Go.RowKit Go.Maps
def Tl(n0:Nat)(W:World)(d:ByteArray×ET)(vs:List Value):Prop:=∃v0 v1 v2 v3 v4,vs=[.string d.1,v0,v1,v2,v3,v4]/\d.1.size<=maxLen/\mz n0 W d.2 [v0,v1,v2,v3,v4]
def HT(n0:Nat)(W:World)(ds:List (ByteArray×ET))(sv:Value):Prop:=
 (ds=[]/\∃a cap,sv=.slice a 0 cap)\/∃b aa cap,sv=.slice (some ⟨b,aa,none⟩) ds.length cap/\b<n0/\∀j d,ds[j]? =some d->∃vs:List Value,(∀ k v,vs[k]? =some v->W.cell? ⟨b,aa+j*6+k,none⟩=some v)/\Tl n0 W d vs
theorem HT.below{n0:Nat}{A B:World}{ds:List (ByteArray×ET)}{sv:Value}(hd:HT n0 A ds sv)(h:Below n0 A B):HT n0 B ds sv:=by refine hd.imp id ?_;rintro⟨b,aa,cap,rfl,hb,hr⟩;refine⟨b,aa,cap,rfl,hb,λj d hj=>?_⟩;obtain⟨vs,h1,v0,v1,v2,v3,v4,rfl,h2,h3⟩:=hr j d hj;exact⟨_,λk v hk=>(h.cell (p:=⟨b,aa+j*6+k,none⟩) hb).trans (h1 k v hk),v0,v1,v2,v3,v4,rfl,h2,h3.below' h⟩
def IU(ds:List (ByteArray×ET))(s:List UInt8):Nat->Option Int
 | 0=>none
 |k+1=>if (ds.getD k (⟨#[]⟩,.mk 0 ⟨#[]⟩ [])).1.data.toList=s then some k else IU ds s k
def iA(ds:List (ByteArray×ET))(l:List (List UInt8)):List Int:=l.filterMap λs=>IU ds s ds.length
abbrev Xp(l:List Int):List Value:=l.map (Value.int .i64)
def jq(ds:List (ByteArray×ET)):List (List Int):=ds.map λd=>iA ds (qI d.2.names)
def rS(ds:List (ByteArray×ET)):Nat:=ds.foldr (λ d n=>1+d.1.size+d.2.wt+n) 0
theorem U3:∀ds:List (ByteArray×ET),ds.length<=rS ds
 |[]=>aB _
 |d::ds=>by have:=U3 ds;simp[rS]at this ⊢;omega
theorem U4:∀{ds:List (ByteArray×ET)}{d:ByteArray×ET},d∈ds->d.1.size+d.2.wt<=rS ds
 |x::ds,d,h=>by simp[rS];rcases aR.1 h with rfl|h;omega;have:=U4 h;simp[rS]at this;omega
def apY(w:World)(uB:Nat)(sv:Value)(ds:List (ByteArray×ET))(TL TG TI:TypeId)(W:World):Prop:=
 ∃us:List Value,us.length=ds.length/\W.heap[uB]? =some (.cells us.toArray TL)/\W.heap[uB+1]? =some (.cells #[sv,.slice (some ⟨uB,0,none⟩) ds.length ds.length] TG)/\Below w.heap.size w W/\
  ∀(j:Nat)(v:Value),us[j]? =some v->∃d:ByteArray×ET,ds[j]? =some d/\W.ownsRow (uB+2) TI 1 v (iA ds (qI d.2.names)).length (Xp (iA ds (qI d.2.names)))
end Go.Proofs
namespace Go.Gb
open Go.RowKit Go.Proofs
def aq4(d:ByteArray×ET)(r:List Tree):Prop:=∃a b c e f,r=[.sc (.string d.1),a,b,c,e,f]/\d.1.size<=maxLen/\rL d.2 [a,b,c,e,f]
def oB:List (ByteArray×ET)->List (List Tree)->Prop
 |[],rows=>rows=[]
 |d::ds,rows=>∃r rs,rows=r::rs/\aq4 d r/\oB ds rs
theorem oB.len:∀{ts:List (ByteArray×ET)}{rows:List (List Tree)},oB ts rows->rows.length=ts.length
 |[],rows,h=>by subst h;rfl
 |t::ts,rows,h=>by obtain⟨r,rs,rfl,_,h⟩:=h;simp[h.len]
theorem aqo{w:World}{I:Nat->Prop}{n0:Nat}(hI:∀b,I b->b<n0){d:ByteArray×ET}{r:List Tree}{vs:List Value}(h:aq4 d r)(hv:fx w I r vs):Tl n0 w d vs:=by
 obtain⟨a,b,c,e,f,rfl,hs,hr⟩:=h
 match vs,hv with
 |v::vs,hv=>
  obtain⟨⟨rfl,_⟩,h2⟩:=hv;have he:=ahs hI d.2 _ vs hr h2;obtain⟨v0,v1,v2,v3,v4,rfl⟩:∃v0 v1 v2 v3 v4,vs=[v0,v1,v2,v3,v4]:=by
   cases hd:d.2 with
   |mk op s args=>
    rw[hd]at he;obtain⟨_,_,_,⟨e,_⟩,_⟩:=he;exact⟨_,_,_,_,_,e⟩
  exact⟨v0,v1,v2,v3,v4,rfl,hs,he⟩
theorem aeQ{w:World}{I:Nat->Prop}{n0:Nat}(hI:∀b,I b->b<n0):∀(ds:List (ByteArray×ET))(rows:List (List Tree))(b aa sz:Nat),oB ds rows->cN w I rows b aa sz->
 ∀j d,ds[j]? =some d->∃vs:List Value,(∀ k v,vs[k]? =some v->w.cell? ⟨b,aa+j*6+k,none⟩=some v)/\Tl n0 w d vs
 |[],_,_,_,_,_,_,j,d,h=>by simp at h
 |t::ts,rows,b,aa,sz,h,hr,j,d,hj=>by
  obtain⟨r,rs,rfl,h1,h2⟩:=h;obtain⟨rfl,h3,h4⟩:=hr;obtain⟨vs,h5,h6⟩:=Mk h3;have h7:r.length=6:=by obtain⟨_,_,_,_,_,rfl,_⟩:=h1;rfl
  cases j with
  |zero=>
   simp at hj;subst hj;exact⟨vs,λk v hk=>by simpa using h6 k v hk,aqo hI h1 h5⟩
  |succ j=>
   rw[h7]at h4;obtain⟨vs,g1,g2⟩:=aeQ hI ts rs b (aa+6) 6 h2 h4 j d (by simpa using hj);exact⟨vs,λk v hk=>by rw[show aa+(j+1)*6+k=aa+6+j*6+k by omega];exact g1 k v hk,g2⟩
theorem Xq{w:World}{I:Nat->Prop}{g:Nat}:∀(l:List Int)(aa:Nat),(∀ j v,(Xp l)[j]? =some v->w.cell? ⟨g,aa+j,none⟩=some v)->cN w I (l.map λi=>[.sc (.int .i64 i)]) g aa 1
 |[],_,_=>by simp[cN]
 |i::l,aa,h=>by simp only[bE,cN,eK,TR,dX,length_nil];refine⟨trivial,⟨⟨_,by simpa using h 0 _ rfl,rfl,trivial⟩,trivial⟩,Xq l (aa+1) λj v hj=>?_⟩;rw[show aa+1+j=aa+(j+1)by omega];exact h (j+1) v (by simpa using hj)
theorem Xr{w:World}{I:Nat->Prop}{b:Nat}:∀(us:List Value)(L:List (List Int))(aa:Nat),us.length=L.length->(∀ (j:Nat) (v:Value),us[j]? =some v->w.cell? ⟨b,aa+j,none⟩=some v)->
 (∀ (j:Nat) (v:Value) (l:List Int),us[j]? =some v->L[j]? =some l->TR w I (.sl (l.map λi=>[.sc (.int .i64 i)])) v)->cN w I (L.map λl=>[.sl (l.map λi=>[.sc (.int .i64 i)])]) b aa 1
 |us,[],_,_,_,_=>by simp[cN]
 |[],_::_,_,h,_,_=>by simp at h
 |u::us,l::L,aa,hl,h1,h2=>by simp only[bE,cN,eK,dX,length_nil];refine⟨trivial,⟨⟨u,by simpa using h1 0 u rfl,h2 0 u l rfl rfl⟩,trivial⟩,Xr us L (aa+1) (by simpa using hl) (λ j v hj=>?_) λj v l' hj hl'=>h2 (j+1) v l' (by simpa using hj) (by simpa using hl')⟩;rw[show aa+1+j=aa+(j+1)by omega];exact h1 (j+1) v (by simpa using hj)
theorem acw{P:Program}{f:FuncId}{TL TG TI:TypeId}(hcall:eG P f){ds:List (ByteArray×ET)}{rows:List (List Tree)}(hr:oB ds rows)
 (h:∀(sv:Value)(w:World),HT w.heap.size w ds sv->Calls P f #[sv] w λe W'=>∃uB,e=.returned (.pointer (some ⟨uB+1,0,none⟩))/\w.heap.size<uB/\apY w uB sv ds TL TG TI W'):
 zd P f [.t (.sl rows)] [] [(1000,⟨2,[[.t (.sl rows),.t (.sl ((jq ds).map λl=>[.sl (l.map λi=>[.sc (.int .i64 i)])]))]]⟩)] (.ptr 1000 0 0):=by
 refine⟨hcall,λw β I vs hβ hM hvs=>?_⟩;obtain⟨vs⟩:=vs
 match vs,hvs with
 |[sv],hvs=>
  have hv:TR w I (.sl rows) sv:=by have:=hvs.1;simpa[VR]using this
  have hlen:=hr.len;have hS:HT w.heap.size w ds sv:=by rcases hv with ⟨rfl,a,cap,rfl,_⟩|⟨b,aa,cap,sz,rfl,_,hb,hT⟩;exact .inl ⟨eq_nil_of_length_eq_zero hlen.symm,_,_,rfl⟩;exact .inr ⟨b,aa,cap,by rw[hlen],hM.lt b hb,aeQ hM.lt ds rows b aa sz hr hT⟩
  refine(h sv w hS).mono ?_;rintro e w' ⟨uB,rfl,huB,us,tw,hU,hG,hbel,zz⟩;have B9:uB+1<w'.heap.size:=(Array.getElem?_eq_some_iff.1 hG).1;obtain⟨I',hI'⟩:∃I':Nat->Prop,I'=λb=>I b\/(w.heap.size<=b/\b<w'.heap.size/\b≠uB+1):=⟨_,rfl⟩;have XS:∀b,I b->I' b:=λb hb=>by rw[hI'];exact .inl hb
  obtain⟨hs,hM'⟩:=hM.below hbel (I':=I') XS (λ b hb=>by rw[hI']at hb;rcases hb with hb|hb;exact Nat.lt_of_lt_of_le (hM.lt b hb) hbel.size;exact hb.2.1) (λ b k o B h1 h2 h3 h4=>by simp[sy]at h2) (λ b hb=>by rw[hI']at hb;rcases hb with hb|hb;exact hM.up b hb;exact .inr (.inr hb.1));have UV:TR w' I' (.sl rows) sv:=TR.mono hs XS _ _ hv;have hone:oneCell sv:=by simp only[TR]at hv;rcases hv with ⟨_,a,cap,rfl,_⟩|⟨b,aa,cap,sz,rfl,_⟩<;>trivial
  have huv:TR w' I' (.sl ((jq ds).map λl=>[.sl (l.map λi=>[.sc (.int .i64 i)])])) (.slice (some ⟨uB,0,none⟩) ds.length ds.length):=by simp only[TR];refine .inr ⟨uB,0,ds.length,1,by simp[jq],by simp[jq],by rw[hI'];exact .inr ⟨by omega,by omega,by omega⟩,?_⟩;refine Xr us (jq ds) 0 (by simp[jq,tw]) (λ j v hj=>by simp[World.cell?,hU,hj]) λj v l hj hl=>?_;obtain⟨d,hd,ho⟩:=zz j v hj;have hle:l=iA ds (qI d.2.names):=(by simp[jq,hd]at hl;exact hl.symm);subst hle;simp only[TR];rcases ho.2 with ⟨rfl,h0⟩|⟨g,cap,cur,rfl,hg,hgb,hle,_,hcs,htk⟩;exact .inl ⟨by rw[eq_nil_of_length_eq_zero h0];rfl,_,_,rfl,λ_=>rfl⟩;refine .inr ⟨g,0,cap,1,by simp,by simpa using hle,by rw[hI'];exact .inr ⟨by omega,(Array.getElem?_eq_some_iff.1 hgb).1,by omega⟩,Xq _ 0 λi x hx=>?_⟩;rw[<- htk,List.getElem?_take]at hx;split at hx;simpa[World.cell?,hgb]using hx;cases hx
  have hf:S7 P (λ b=>w.heap.size<=b) 2 [[.sl rows,.sl ((jq ds).map λl=>[.sl (l.map λi=>[.sc (.int .i64 i)])])]] w' I' (.slice (some ⟨uB+1,0,none⟩) 1 1):=by
   refine .inr ⟨uB+1,_,TG,1,0,0,rfl,by show w.heap.size<=uB+1;omega,λhb=>?_,hG,aB _,by simp,?_,λ_=>rfl⟩;rw[hI']at hb;rcases hb with hb|hb;exact absurd (hM.lt _ hb) (by omega);exact hb.2.2 rfl;rw[oZ];intro i x hx;cases i with
   |succ i=>simp[aI]at hx
   |zero=>
    simp[aI]at hx;subst hx;refine⟨rfl,?_⟩;simp only[dt,VR];exact⟨⟨_,rfl,UV,hone⟩,⟨_,rfl,huv,trivial⟩,trivial⟩
  obtain⟨β',hS',hM2,hV⟩:=hM'.fresh (i:=1000) (hβ 1000 (by simp)) (F:=λb=>w.heap.size<=b) (λ k o b h1 h2 h3=>by simp[sy]at h1) (λ b h=>.inr h) hf;refine⟨_,β',I',rfl,?_,XS,?_⟩;have e:oS [(1000,(⟨2,[[.t (.sl rows),.t (.sl ((jq ds).map λl=>[.sl (l.map λi=>[.sc (.int .i64 i)])]))]]⟩:aP))]=cB (sy []) [(1000,some ⟨2,aI [[.sl rows,.sl ((jq ds).map λl=>[.sl (l.map λi=>[.sc (.int .i64 i)])])]]⟩)]:=by funext k;simp only[oS,cB,sy];by_cases h1:k=1000;subst h1;simp[aI];rw[aU h1,aU (λ e=>h1 e.symm)];rfl
  rw[e];exact hM2;rcases hV with ⟨_,h,_⟩|⟨b,sz,n,cap,o,hb,h,_,_,hc⟩;cases h;injection h with h1 h2 h3;injection h1 with h1;injection h1 with h1 h4;subst h1 h3;exact⟨_,sz,n,hb,by rw[<- hc (by omega),<- h4]⟩
end Go.Gb
namespace Go.Gb
open Go.RowKit Go.Proofs
theorem aht{P:Program}{f:FuncId}{E:TypeId}(hcall:eG P f){x:Int}{c:Nat}
 (h:∀(a:Addr)(cap:Nat)(w:World),w.cell? a=some (.int .i64 x)->Calls P f #[.slice (some a) 1 cap,.int .i64 c] w λe W'=>∃v,e=.returned v/\W'.ownsRow w.heap.size E 1 v c (List.replicate c (.int .i64 x))/\Below w.heap.size w W'):
 qu P f [.t (.sl [[.sc (.int .i64 x)]]),.t (.sc (.int .i64 (c:Int)))] [] [] (.one (.fresh 1 ((List.replicate c x).map λi=>[.sc (.int .i64 i)]))):=by
 refine⟨hcall,λw β I vs hβ hM hvs=>?_⟩;obtain⟨vs⟩:=vs
 match vs,hvs with
 |[a,b],hvs=>
  obtain⟨h1,⟨rfl,_⟩,_⟩:=hvs;rcases h1 with ⟨h0,_⟩|⟨b,aa,cap,sz,rfl,_,hb,_,⟨⟨u,hu,rfl,_⟩,_⟩,_⟩;cases h0;refine(h _ cap w hu).mono ?_;rintro e w' ⟨v,rfl,hown,hbel⟩;obtain⟨hs,hM'⟩:=hM.below hbel (I':=I) (λ _ h=>h) (λ b hb=>Nat.lt_of_lt_of_le (hM.lt b hb) hbel.size) (λ b k o B h1 h2 h3 h4=>(hM.ownB k o B b h2 h3 h4).1 h1) hM.up;refine⟨v,I,rfl,hM',λ_ h=>h,?_⟩;have hown':w'.ownsRow w.heap.size E 1 v (List.replicate c x).length ((List.replicate c x).map (Value.int .i64)):=by simpa using hown
  exact aa3 (enc:=Value.int .i64) (λ _=>trivial) hM.lt hown'
end Go.Gb
namespace Go.Gb
open Go.RowKit Go.Proofs
theorem acy{P:Program}{f:FuncId}{g:Nat}(hg:ap4 g=true)(hcall:eG P f){s b:ByteArray}
 (h:∀(m:Int)(w:World),w.cell? ⟨g,0,none⟩=some (.int .i64 m)->Calls P f #[.string s,.string b] w λe w'=>e=.returned (.bool (Lib.contains s.data.toList b.data.toList))/\w'=w):
 qu P f [.t (.sc (.string s)),.t (.sc (.string b))] [] [] (.one (.d (.s (.sc (.bool (Lib.contains s.data.toList b.data.toList)))))):=by
 refine⟨hcall,λw β I vs hβ hM hvs=>?_⟩;obtain⟨vs⟩:=vs
 match vs,hvs with
 |[a,c],hvs=>
  obtain⟨⟨rfl,_⟩,⟨rfl,_⟩,_⟩:=hvs;obtain⟨_,m,hm⟩:=hM.vars.2 g hg;refine(h m w hm).mono ?_;rintro e w' ⟨rfl,rfl⟩;obtain⟨hs,hM'⟩:=hM.below (Below.refl _ _) (I':=I) (λ _ h=>h) (λ b hb=>hM.lt b hb) (λ b k o B h1 h2 h3 h4=>(hM.ownB k o B b h2 h3 h4).1 h1) hM.up;refine⟨_,I,rfl,hM',λ_ h=>h,?_⟩;exact⟨rfl,trivial⟩
end Go.Gb
namespace Go.Gb
open Go
theorem Qy{α:Type}:∀(a:Ask α)(w:World),w.drawn<=(w.ask a).2.drawn
 |.done _,w=>aB _
 |.ask what range k,w=>by unfold World.ask;simp;split;exact Qy (k 0) w;exact Nat.le_trans (Nat.le_succ _) (Qy (k _) { w with drawn:=w.drawn+1 })
theorem Qz(w:World)(c:Sys):w.drawn<=(w.sys c).2.drawn:=by have h:=Qy (Kernel.perform c w.os) w;unfold World.sys;split;exact aB _;rename_i heq;rw[heq]at h;exact h
theorem aa4{p:Program}{w w':World}{a:Addr}{v:Value}{b:Bool}{l:List Addr}(h:w.farStore p a v b=.ok (w',l)):w'.drawn=w.drawn:=by
 unfold World.farStore at h;split at h;split at h
 ·rename_i r heq;cases h;unfold World.viewStore at heq;simp[bind,Except.bind]at heq
  repeat' split at heq
  all_goals first|(cases heq;done)|skip
  all_goals (injection heq with heq;injection heq with h1 h2;rw[<- h1])
 cases h;cases h
def vi{α:Type}:Result α->Nat
 |.ok _ w=>w.drawn
 |.halt _ w=>w.drawn
theorem jI{α:Type}(p:Program):∀(s:Sem α)(w:World),w.drawn<=vi (s.run p w):=by
 intro s
 induction s
 intro w;exact aB _;rename_i m a k ih;intro w;unfold Sem.run;split;exact ih _ w;split;exact ih _ w;exact aB _
 ·rename_i m a v k ih;intro w;cases v<;>simp[Sem.run]<;>first|exact aB _|skip
  all_goals
   split;split;exact aB _;exact ih (w.setCell _ _);split;rename_i w1 _ heq;have:=aa4 heq;exact this ▸ ih w1;exact aB _
 rename_i o k ih;intro w;exact ih _ { w with heap:=w.heap.push o };rename_i r k ih;intro w;exact ih _ w;rename_i a n k ih;intro w;refine Nat.le_trans (Nat.le_of_eq ?_) (ih _);unfold World.freeze;split<;>rfl;rename_i a k ih;intro w;exact ih _ w;rename_i r k ih;intro w;unfold Sem.run;split;exact aB _;exact ih _ w;exact aB _;rename_i r o k ih;intro w;unfold Sem.run;split;exact aB _;exact ih { w with heap:=w.heap.setIfInBounds r o };exact aB _;rename_i q k ih;intro w;unfold Sem.run;split;exact ih _ w;exact Nat.le_trans (Nat.le_succ _) (ih _ { w with drawn:=w.drawn+1 });rename_i c k ih;intro w;exact Nat.le_trans (Qz w c) (ih _ _);rename_i k ih;intro w;exact ih _ w;rename_i m k ih;intro w;exact ih w;intro w;exact aB _
theorem nV{α:Type}(p:Program):∀(s:Sem α)(w:World)(es:Array Event),w.drawn<=vi (s.runT p w es).1:=by
 intro s
 induction s
 intro w es;exact aB _;rename_i m a k ih;intro w es;unfold Sem.runT;split;exact ih _ w _;split;exact ih _ w _;exact aB _
 ·rename_i m a v k ih;intro w es;cases v<;>simp only[Sem.runT]<;>first|exact aB _|skip
  all_goals
   split;split;exact aB _;exact ih (w.setCell _ _) _;split;rename_i w1 _ heq;have:=aa4 heq;exact this ▸ ih w1 _;exact aB _
 rename_i o k ih;intro w es;exact ih _ { w with heap:=w.heap.push o } _;rename_i r k ih;intro w es;exact ih _ w _;rename_i a n k ih;intro w es;refine Nat.le_trans (Nat.le_of_eq ?_) (ih _ _);unfold World.freeze;split<;>rfl;rename_i a k ih;intro w es;exact ih _ w _;rename_i r k ih;intro w es;unfold Sem.runT;split;exact aB _;exact ih _ w _;exact aB _;rename_i r o k ih;intro w es;unfold Sem.runT;split;exact aB _;exact ih { w with heap:=w.heap.setIfInBounds r o } _;exact aB _;rename_i q k ih;intro w es;unfold Sem.runT;split;exact ih _ w _;exact Nat.le_trans (Nat.le_succ _) (ih _ { w with drawn:=w.drawn+1 } _);rename_i c k ih;intro w es;exact Nat.le_trans (Qz w c) (ih _ _ _);rename_i k ih;intro w es;exact ih _ w _;rename_i m k ih;intro w es;exact ih w _;intro w es;exact aB _
def pL:GStep->Nat
 |.go _ w _|.comm _ _ _ _ w _|.spawn _ _ w _|.count _ w _|.timer _ _ w _|.alone _ _ w _|.newcoro _ _ _ w _|.coroswitch _ _ _ w _|.collect _ w _|.watch _ w _|.ended _ w _=>w.drawn
theorem sQ(es:Array Event)(g:GStep):pL (g.after es)=pL g:=by cases g<;>rfl
theorem SD{c:Prop}[Decidable c]{a b:GStep}{n:Nat}(h1:n<=pL a)(h2:n<=pL b):n<=pL (if c then a else b):=by split<;>assumption
theorem acA{α:Type}{o:Option α}{a:GStep}{f:α->GStep}{n:Nat}(h1:n<=pL a)(h2:∀x,n<=pL (f x)):n<=pL (o.elim a f):=by cases o;exact h1;exact h2 _
theorem ahu(w:World)(fd:Nat)(t:ByteArray)(o:Outcome):w.drawn<=pL (endWith w fd t o):=by have h:=Qz w (.write fd t);unfold endWith;simp;split<;>(rename_i heq;rw[heq]at h)<;>(try split)<;>exact h
theorem SC(fr:Frame)(m:String)(w:World):w.drawn<=pL (endThrow fr m w):=aB _
theorem IV(p:Program)(fr:Frame)(v:Value)(w:World):w.drawn<=pL (endPrinting p fr v w):=by unfold endPrinting;simp;split<;>exact aB _
theorem SF(p:Program)(fr:Frame)(cs:List Frame)(d:Option Dying)(m:String)(w:World):w.drawn<=pL (endFatal p fr cs d m w):=by
 unfold endFatal
 extract_lets _ _ shown
 have h:=jI p shown w;split<;>(rename_i heq;rw[heq]at h)<;>exact h
theorem ahv(p:Program)(fr:Frame)(d:Dying)(f:Fatal)(w:World):w.drawn<=pL (writeOn p fr d f w):=by
 unfold writeOn;split;exact aB _;have h:∀(s:Sem Unit)(r:Result Unit×Array Event),s.runT p w #[]=r->w.drawn<=vi r.1:=λs r e=>e ▸ nV p s w #[]
 conv=>rhs;arg 1;simp only
 split<;>exact h _ _ ‹_›
theorem aqp(p:Program)(fr:Frame)(d:Dying)(w:World):w.drawn<=pL (die p fr d w):=by
 unfold die;split;exact ahv _ _ _ _ _;split;split;exact aB _;exact ahu _ _ _ _;split;exact aB _;rename_i s _;have h:=jI p (withAddress s) w;split<;>(rename_i heq;rw[heq]at h)<;>exact h;rename_i t recv name _;have h:=nV p (invoke (.fn (.method name) #[]) #[.iface t recv]) w #[];rw[sQ];split<;>(try (rename_i heq;rw[heq]at h))<;>first|exact h|exact Nat.le_trans h (IV _ _ _ _)|exact aB _
 exact aB _
theorem IW(p:Program)(main:Bool)(fr:Frame)(cs:List Frame)(d:Option Dying)(v:Value)(w:World):w.drawn<=pL (doReturn p main fr cs d v w):=by
 unfold doReturn
 repeat' split
 all_goals exact aB _
theorem Tz(p:Program)(fr:Frame)(cs:List Frame)(dy:Option Dying)(d:Deferred)(w:World):w.drawn<=pL (callDeferred p fr cs dy d w):=by refine SD (aB _) ?_;have h:=nV p (invoke d.target d.args) w #[];simp only[sQ];split<;>(try (rename_i heq;rw[heq]at h))<;>(try split)<;>first|exact h|exact Nat.le_trans h (SF _ _ _ _ _ _)|exact Nat.le_trans h (SC _ _ _)
theorem akX(p:Program)(main:Bool)(fr:Frame)(cs:List Frame)(dy:Option Dying)(w:World):w.drawn<=pL (unwind p main fr cs dy w):=by unfold unwind;split;rename_i block _ _ _;have h:=nV p (Instr.takeDeferred block) w #[];simp only[sQ];split<;>(rename_i heq;rw[heq]at h)<;>exact h;exact Tz _ _ _ _ _ _;split;exact aB _;split;exact aB _;split;exact aB _;split;split;exact aB _;split<;>(rename_i heq;exact Nat.le_trans (jI p _ w) (Nat.le_of_eq (congrArg vi heq)));split;exact IV _ _ _ _;exact aB _;split;exact IW _ _ _ _ _ _ _;rename_i fn _;have h:=nV p (results fn fr.tmps) w #[];simp only[sQ];split<;>(rename_i heq;rw[heq]at h)<;>first|exact h|exact Nat.le_trans h (IW _ _ _ _ _ _ _)
theorem amO(p:Program)(fr:Frame)(cs:List Frame)(dy:Option Dying)(g:Nat)(w:World):w.drawn<=pL (early p fr cs dy g w):=by
 unfold early;simp
 repeat' split
 all_goals first|exact aB _|(have h:=jI p (choose (.early g)) w;rw[‹Sem.run p (choose (.early g)) w=_›]at h;exact h)
theorem N7(p:Program)(l:Bool)(fr:Frame)(cs:List Frame)(dy:Option Dying)(s:Sem Next)(w:World):w.drawn<=pL (stepG.apply p l fr cs dy s w):=by
 unfold stepG.apply;have h:w.drawn<=vi (if l=true then s.runT p w #[]else(s.run p w,#[])).1:=by split;exact nV p s w #[];exact jI p s w
 revert h;generalize (if l=true then s.runT p w #[]else(s.run p w,#[]))=X;intro h;simp[sQ];split<;>(try (rename_i heq;rw[heq]at h))<;>(try split)<;>first|exact h|exact Nat.le_trans h (SF _ _ _ _ _ _)|exact Nat.le_trans h (SC _ _ _)|exact Nat.le_trans h (amO _ _ _ _ _ _)|exact SD h h
theorem aoT(p:Program)(l:Bool)(fr:Frame)(cs:List Frame)(dy:Option Dying)(w:World):w.drawn<=pL (stepG.oper p l fr cs dy w):=by unfold stepG.oper;split;exact aB _;split<;>exact N7 _ _ _ _ _ _ _
theorem aoU(p:Program)(main l:Bool)(fr:Frame)(cs:List Frame)(dy:Option Dying)(w:World):w.drawn<=pL (stepG.exec p main l fr cs dy w):=by
 unfold stepG.exec
 extract_lets go to lost leave
 have hl:∀j,w.drawn<=pL (leave j):=by intro j;simp only[leave];split;split<;>exact aB _;rename_i l _;have h:=nV p (Instr.endRound l j) w #[];simp only[sQ];split<;>(rename_i heq;rw[heq]at h)<;>first|exact h|exact Nat.le_trans h (IW _ _ _ _ _ _ _)
 clear_value leave
 split
 all_goals first|exact hl _|exact aB _|exact N7 _ _ _ _ _ _ _|skip
 split<;>exact aB _;exact acA (hl _) λ_=>aB _;exact acA (hl _) λ_=>aB _;simp only[sQ];split<;>(rename_i heq;have h:=Nat.le_trans (nV p _ w #[]) (Nat.le_of_eq (congrArg vi heq)))<;>first|exact h|exact Nat.le_trans h (N7 _ _ _ _ _ _ _)
 simp only[sQ];split<;>(rename_i heq;exact Nat.le_trans (nV p _ w #[]) (Nat.le_of_eq (congrArg vi heq)));exact acA (aB _) λ_=>N7 _ _ _ _ _ _ _;refine SD (aB _) ?_;split<;>(rename_i heq;exact Nat.le_trans (jI p _ w) (Nat.le_of_eq (congrArg vi heq)));exact SD (aoT _ _ _ _ _ _) (aB _)
theorem amP(p:Program)(main:Bool)(g:Goroutine)(w:World)(l:Bool):w.drawn<=pL (stepG p main g w l):=by unfold stepG;simp;split;exact aqp _ _ _ _;exact aoU _ _ _ _ _ _ _;exact akX _ _ _ _ _ _
def sup(d:Nat):Stepped->Prop
 |.next m=>d<=m.world.drawn
 |.ended _ _=>True
theorem vI{d e:Nat}(h:d<=e):∀{s:Stepped},sup e s->sup d s
 |.next _,h'=>Nat.le_trans h h'
 |.ended _ _,_=>trivial
theorem Xt(p:Program)(ae:Rest)(gs:Array Goroutine)(i:Nat)(g:Goroutine)(cases:Array CommCase)(b:Bool)(sh:CommShape)(w:World):sup w.drawn (communicate p ae gs i g cases b sh w).1:=by
 unfold communicate
 extract_lets put illMade me other ready pick
 split;trivial;split;split;split;rename_i w1 heq;unfold waitingAt at heq;split at heq;split at heq;cases heq;exact aB w.drawn;cases heq;cases heq;exact aB _;trivial;exact aB w.drawn;have h:=jI p pick w;split;trivial;rename_i heq;rw[heq]at h
 extract_lets r
 split
 all_goals first|exact h|trivial|skip
 split;exact h;split<;>first|trivial|(rename_i heq;exact Nat.le_trans h (Nat.le_trans (jI p _ _) (Nat.le_of_eq (congrArg vi heq))))
theorem acB(p:Program)(gs:Array Goroutine)(ae:Rest)(w:World):sup w.drawn (look p gs ae w):=by
 unfold look;split;simp only;split;trivial;split;trivial;split<;>first|trivial|(rename_i heq;exact Nat.le_trans (jI p _ w) (Nat.le_of_eq (congrArg vi heq)))
 trivial
theorem amQ(p:Program)(m:Machine)(k:Nat):sup m.world.drawn (serve p m k):=by unfold serve;split;trivial;exact aB m.world.drawn;simp;split;trivial;exact aB m.world.drawn
theorem amR(w:World)(c:Nat):(drain w c).2.drawn=w.drawn:=by unfold drain;split<;>rfl
theorem aa5(m:Machine)(k:Nat)(t:Timer)(a b:Nat):(retime m k t a b).2.world.drawn=m.world.drawn:=by unfold retime;simp;split;exact amR _ _;rfl
theorem aeR{m m1 m':Machine}{var:Addr}{f:Nat->Timer->Value×Machine}{v:Value}(h:timerOp.named m var f=.ok (v,m'))(hf:∀k t,(f k t).2.world.drawn=m1.world.drawn):m'.world.drawn=m1.world.drawn:=by unfold timerOp.named at h;split at h;injection h with h;exact(congrArg (λ q:Value×Machine=>q.2.world.drawn) h).symm.trans (hf _ _);cases h
theorem ahw{m m':Machine}{op:TimerOp}{v:Value}(h:timerOp m op=.ok (v,m')):m'.world.drawn=m.world.drawn:=by
 unfold timerOp at h;split at h;split at h;injection h with h;injection h with _ h;subst h;rfl;split at h;split at h;cases h;injection h with h;injection h with _ h;subst h;rfl;cases h;exact aeR h λk t=>aa5 _ _ _ _ _;split at h;rename_i var when period m1 heq;have e:m1.world.drawn=m.world.drawn:=by unfold timerOp.opened at heq;split at heq;split at heq;cases heq;rfl;cases heq;cases heq;rfl
 exact(aeR h λk t=>aa5 _ _ _ _ _).trans e;cases h;injection h with h;injection h with _ h;subst h;rfl
theorem amS(p:Program)(m:Machine)(i:Nat)(l:Bool):sup m.world.drawn (runT p m i l).1:=by
 unfold runT;simp;generalize (m.gs.swapAt! i { (default:Goroutine)with status:=.finished }).1=g;have h:=amP p (i==0) g m.world l;split<;>(rename_i heq;rw[heq]at h)
 all_goals first|exact h|exact vI h (Xt _ _ _ _ _ _ _ _ _)|exact vI h (acB _ _ _ _)|trivial|skip
 split<;>first|exact h|trivial
 split<;>first|exact h|trivial
 split;rename_i heq;exact Nat.le_trans h (Nat.le_of_eq (ahw heq).symm)
 all_goals first|exact h|trivial
def IF(d:Nat):Move->Prop
 |.goroutine m _=>d<=m.world.drawn
 |.machine s _=>sup d s
theorem Xu(p:Program)(m:Machine):IF m.world.drawn (askOn p m):=by
 unfold askOn
 extract_lets mono rs ds pick
 have hp:∀m:Machine,IF m.world.drawn (pick m):=by intro m;simp only[pick];have h:=jI p (choose (.sched rs.length)) m.world;split;trivial;rename_i heq;rw[heq]at h;split;exact h;split<;>first|trivial|(rename_i heq;exact Nat.le_trans h (Nat.le_trans (jI p _ _) (Nat.le_of_eq (congrArg vi heq))))
 have hq:∀(d:Nat)(m:Machine),d<=m.world.drawn->IF d (pick m):=by
  intro d m hd;have:=hp m;generalize pick m=x at this;cases x with
  |goroutine m' i=>exact Nat.le_trans hd this
  |machine s ag=>exact vI hd this
 generalize (if ds.isEmpty = true then pure 0 else choose (.extern "timer.serve" (ds.length + (if rs.isEmpty && (ahead m false).isNone then 0 else 1))) : Sem Nat) = s;have h:=jI p s m.world;split;trivial;rename_i k world heq;rw[heq]at h
 extract_lets m1
 have h1:m.world.drawn<=m1.world.drawn:=h;split;exact vI h1 (amQ _ _ _);rcases rs with _|⟨r0,rs⟩;simp;split;exact h1;split;exact h1;split<;>trivial;simp only;split;exact hq _ _ h1;split;trivial
 all_goals (rename_i heq;have h2:=Nat.le_trans h (Nat.le_trans (jI p _ world) (Nat.le_of_eq (congrArg vi heq))))
 exact hq _ _ h2;exact h2;exact hq _ _ h2
theorem amT(p:Program)(m:Machine):IF m.world.drawn (ask p m):=by
 unfold ask;split;have h := jI p (choose (.extern "collector.look" 2)) m.world;split;trivial;rename_i w heq;rw[heq]at h;split;rename_i m' heq2;have h2:sup w.drawn (.next m'):=heq2 ▸ acB p _ _ w;have h3:=Xu p m';generalize askOn p m'=x at h3;cases x with
 |goroutine m' i=>exact Nat.le_trans (Nat.le_trans h h2) h3
 |machine s ag=>exact vI (Nat.le_trans h h2) h3
 exact vI h (acB _ _ _ _);rename_i w _ heq;rw[heq]at h;have h3:=Xu p { m with world:=w };generalize askOn p { m with world:=w }=x at h3;cases x with
 |goroutine m' i=>exact Nat.le_trans h h3
 |machine s ag=>exact vI h h3
 exact Xu p m
theorem aoV(p:Program)(m:Machine):IF m.world.drawn (move p m):=by unfold move;split;split;exact aB m.world.drawn;trivial;split;split;exact aB m.world.drawn;exact amT p _;exact amT p m
theorem aoW{p:Program}{m m':Machine}(h:step p m=.next m'):m.world.drawn<=m'.world.drawn:=by have h1:=aoV p m;unfold step stepT at h;split at h;rename_i m1 i heq;rw[heq]at h1;have h2:=amS p m1 i true;rw[h]at h2;exact Nat.le_trans h1 h2;rename_i heq;rw[heq]at h1;simp at h;rw[h]at h1;exact h1
theorem ajx{p:Program}:∀(n:Nat){m m':Machine},runN p n m=.next m'->m.world.drawn<=m'.world.drawn
 | 0,m,m',h=>by injection h with h;rw[h];exact aB _
 |n+1,m,m',h=>by simp[runN]at h;split at h;rename_i heq;exact Nat.le_trans (aoW heq) (ajx n h);rename_i hne;exact absurd h (hne m')
theorem SG{P:Program}{f:FuncId}{args:Array Value}{w:World}{R:Ending->World->Prop}(h:Calls P f args w R)(hR:∀w',¬R .outgrown w'):Calls P f args w λe w'=>R e w'/\w.drawn<=w'.drawn:=by
 intro cs;obtain⟨e,w',fr,hr,hc,h1,h2⟩:=h cs;refine⟨e,w',fr,⟨hr,?_⟩,hc,h1,h2⟩;cases e with
 |outgrown=>exact absurd hr (hR _)
 |returned v|panicked c=>obtain⟨n,hn⟩:=hc;exact ajx n hn
end Go.Gb
namespace Go.Gb
open Go.RowKit Go.Proofs
open Go.Sort hiding Below
def yj(r:List Tree):List Value:=r.map λt=>match t with
 |.sc v=>v
 |.sl _=>.bool false
def gZ(rows:List (List Tree)):Array Value:=(rows.flatMap yj).toArray
def TA(sz:Nat)(rows:List (List Tree)):Prop:=∀r∈rows,r.length=sz/\∀t∈r,∃v,t=.sc v/\oneCell v
theorem zk(r:List Tree):(yj r).length=r.length:=by simp[yj]
theorem flat_get{sz:Nat}:∀{rows:List (List Tree)},TA sz rows->∀{i j:Nat}{r:List Tree},rows[i]? =some r->j<sz->(rows.flatMap yj)[i*sz+j]? =(yj r)[j]?
 |x::rows,h,0,j,r,hi,hj=>by simp at hi;subst hi;have hx:=(h x (by simp)).1;rw[List.flatMap_cons,List.getElem?_append_left (by rw[zk];omega)];congr 1;omega
 |x::rows,h,i+1,j,r,hi,hj=>by have hx:=(h x (by simp)).1;have ih:=flat_get (rows:=rows) (λ q hq=>h q (by simp[hq])) (i:=i) (j:=j) (r:=r) (by simpa using hi) hj;rw[List.flatMap_cons,pJ (by rw[zk,Nat.add_mul];omega),zk,<- ih];congr 1;rw[Nat.add_mul];omega
 |[],_,_,_,_,hi,_=>by simp at hi
theorem eJ{sz:Nat}:∀{rows:List (List Tree)},TA sz rows->(rows.flatMap yj).length=rows.length*sz
 |[],_=>by simp
 |x::rows,h=>by have ih:=eJ (rows:=rows) (λ q hq=>h q (by simp[hq]));rw[List.flatMap_cons,fP,zk,(h x (by simp)).1,dX,Nat.add_mul];omega
section
variable {P:Program} {β:Nat->Option cV} {I:Nat->Prop} {w:World}
theorem holds_of{rows:List (List Tree)}{sz:Nat}(hs:TA sz rows){b s:Nat}{c:Array Value}{e:TypeId}(hb:w.heap[b]? =some (.cells c e (0,0)))(hr:b7 P β w I (aI rows) c s sz):Holds id w b s (gZ rows):=by
 intro p hp;have hp':p<rows.length*sz:=by rw[<- eJ hs];simpa[gZ]using hp
 have hsz:0<sz:=Nat.pos_of_ne_zero λh=>by rw[h]at hp';simp at hp'
 have hi:p/sz<rows.length:=by rw[Nat.div_lt_iff_lt_mul hsz];exact hp'
 have hj:p%sz<sz:=Nat.mod_lt _ hsz;have hpe:p/sz*sz+p%sz=p:=by rw[Nat.mul_comm];exact Nat.div_add_mod p sz
 have hri:rows[p/sz]? =some rows[p/sz]:=dI hi;obtain⟨hl,ht⟩:=hs _ (List.getElem_mem hi);have h1:=(oZ _ _ _ _).1 hr (p/sz) ((rows[p/sz]).map AV.t) (by simp[aI,hi]);have hjr:p%sz<(rows[p/sz]).length:=by omega
 obtain⟨v,hv,hv1⟩:=ht _ (List.getElem_mem hjr);obtain⟨u,hu,hvu,_⟩:=(jU _ _ _).1 h1.2 (p%sz) (.t (rows[p/sz][p%sz])) (by simp);rw[hv]at hvu;have hfl:(rows.flatMap yj)[p]? =some v:=by have:=flat_get hs hri hj;rw[hpe]at this;rw[this];simp[yj,hjr,hv]
 have hg:(gZ rows)[p]! =v:=by
  rw[getElem!_def];have:(gZ rows)[p]? =some v:=by simpa[gZ]using hfl
  rw[this]
 have hcell:c[s+p]? =some u:=by rw[<- hpe,<- Nat.add_assoc];exact hu
 rw[hg];simp[World.cell?,hb];simp[hcell,hvu.1];simp[World.frozen?,hb]
theorem aeS{rows':List (List Tree)}{sz:Nat}(hs':TA sz rows'){s:Nat}{c:Array Value}(hsz:s+rows'.length*sz<=c.size):
 b7 P β w I (aI rows') (putCells id s (gZ rows') c) s sz:=by
 rw[oZ];intro i r hi;simp[aI]at hi;obtain⟨r0,hi,rfl⟩:=hi;obtain⟨hl,ht⟩:=hs' _ (dh hi);have hilt:=(dH.1 hi).1;refine⟨by simpa using hl,?_⟩;rw[jU];intro j x hj;simp at hj;obtain⟨t,hj,rfl⟩:=hj;obtain⟨v,rfl,hv1⟩:=ht t (dh hj);have hjlt:=(dH.1 hj).1;have hm:(i+1)*sz<=rows'.length*sz:=Nat.mul_le_mul_right _ hilt;rw[Nat.add_mul]at hm;have hfl:(rows'.flatMap yj)[i*sz+j]? =some v:=by rw[flat_get hs' hi (by omega)];simp[yj,hj]
 have hlen:(gZ rows').size=rows'.length*sz:=by simp[gZ,eJ hs']
 have hg:(gZ rows')[i*sz+j]! =v:=by
  rw[getElem!_def];have:(gZ rows')[i*sz+j]? =some v:=by simpa[gZ]using hfl
  rw[this]
 refine⟨v,?_,by simp[VR,TR,hv1],hv1⟩;have hk:s+i*sz+j<c.size:=by omega
 simp only[putCells,Array.getElem?_mapIdx,Array.getElem?_eq_getElem hk,Option.map_some];rw[aX ⟨by omega,by omega⟩,show s+i*sz+j-s=i*sz+j by omega,hg];rfl
end
theorem aeT{P:Program}{f:FuncId}(hcall:eG P f){sz:Nat}{rows rows':List (List Tree)}{more:List AV}(hs:TA sz rows)(hs':TA sz rows')(hl:rows'.length=rows.length)
 (h0:rows=[]->∀(β:Nat->Option cV) (I:Nat->Prop) (w:World) (vs:List Value),bk P β w I more vs->Calls P f ⟨.slice none 0 0::vs⟩ w λe w'=>e=.returned (.tuple #[])/\∃n os,w'=grow (Sort.ahead w n) os)
 (h:∀(b aa cap:Nat) (β:Nat->Option cV) (I:Nat->Prop) (w:World) (vs:List Value),bk P β w I more vs->¬I b->(∀ b,I b->b<w.heap.size)->Holds id w b aa (gZ rows)->b<w.heap.size->Calls P f ⟨.slice (some ⟨b,aa,none⟩) rows.length cap::vs⟩ w λe w'=>
  e=.returned (.tuple #[])/\∃n os,w'=grow (putRow id (Sort.ahead w n) b aa (gZ rows')) os):
 qu P f (.own 0 0 rows.length::more) [(sz,rows)] [some (sz,rows')] (.fj []):=by
 refine⟨hcall,λw β I vs hβ hM hvs=>?_⟩;have hgr:∀(w:World)(n:Nat)(os:Array Obj),Below w.heap.size w (grow (Sort.ahead w n) os):=λw n os=>⟨rfl,rfl,rfl,by simp,λk hk=>by simp[grow];rw[Array.getElem?_append_left hk]⟩;obtain⟨vs⟩:=vs
 match vs,hvs with
 |v::ae,hvs=>
  have hv:=hvs.1;have hr:=hvs.2;have hk:sA [(sz,rows)] 0=some ⟨sz,aI rows⟩:=rfl;have fin:∀w':World,Mem P w (nQ β I) β I (CV [some (sz,rows')]) w'->PR P w β I [some (sz,rows')] (.fj []) (.returned (.tuple #[])) w':=λw' hm=>⟨_,I,rfl,hm,λ_ h=>h,#[],rfl,by simp[Vi]⟩;have hbel:∀(obj:Nat->Option aP)(w1 w':World),Mem P w (nQ β I) β I obj w1->Below w1.heap.size w1 w'->Mem P w (nQ β I) β I obj w':=λobj w1 w' hm hb=>(hm.below hb (I':=I) (λ _ h=>h) (λ b hb'=>Nat.lt_of_lt_of_le (hm.lt b hb') hb.size) (λ b k o B h1 h2 h3 h4=>(hm.ownB k o B b h2 h3 h4).1 h1) hm.up).2;have pC:∀k o,CV [some (sz,rows')] k=some o->k=0/\o=⟨sz,aI rows'⟩:=by
   intro k o hk';cases k with
   |zero=>simp[CV]at hk';exact⟨rfl,hk'.symm⟩
   |succ k=>simp[CV]at hk'
  rcases hv with ⟨hn,rfl,_,hlen⟩|⟨b,sz',n,cap,o,xv,rfl,hcap,hfit,ho⟩;have e0:rows=[]:=eq_nil_of_length_eq_zero hlen;have e1:rows'=[]:=eq_nil_of_length_eq_zero (by rw[hl,hlen]);refine(h0 e0 β I w ae hr).mono ?_;rintro e w' ⟨rfl,m,os,rfl⟩;refine fin _ (hbel _ w _ (hM.weak λk o' hk'=>?_) (hgr w m os));obtain⟨rfl,rfl⟩:=pC k o' hk';refine⟨_,hk,λB hB hO=>?_⟩;rw[e0]at hO;rw[e1];exact hO;obtain⟨B,hB,hO⟩:=hM.cR 0 _ hk;rw[xv]at hB;cases hB;obtain⟨hz,c,e,hheap,hcs,hrows⟩:=hO;subst hz;have hblk:=(hM.own 0 _ b _ n hk xv).2.1;have ra:(gZ rows).size=rows.length*sz':=by simp[gZ,eJ hs]
  have hH:Holds id w b o (gZ rows):=by by_cases hc0:cap=0;intro p hp;have:rows.length=0:=(by omega);rw[ra,this]at hp;simp at hp;have e1:o=n.s:=(by have:=ho hc0;omega);rw[e1];exact holds_of hs hheap hrows
  refine(h b o cap β I w ae hr (hM.own 0 _ b _ n hk xv).1 hM.lt hH hblk).mono ?_;rintro e' w' ⟨rfl,m,os,rfl⟩;have hsw:putRow id (Sort.ahead w m) b o (gZ rows')=Sort.ahead (putRow id w b o (gZ rows')) m:=rfl;have hw1:Mem P w (nQ β I) β I (cB (sA [(sz',rows)]) [(0,some ⟨sz',aI rows'⟩)]) (putRow id w b o (gZ rows')):=by have hnew:(putRow id w b o (gZ rows')).heap[b]? =some (.cells (putCells id o (gZ rows') c) e (0,0)):=(by simp[putRow,mapBlock,Array.getElem?_modify,hheap,onCells]);have hoth:∀b',b'≠b->(putRow id w b o (gZ rows')).heap[b']? =w.heap[b']? :=λb' hb'=>(by simp[putRow,mapBlock,Array.getElem?_modify,aU (Ne.symm hb')]);have hcsz:(putCells id o (gZ rows') c).size=c.size:=(by simp[putCells]);refine(hM.write (o':=⟨sz',aI rows'⟩) hk xv hnew hoth (by simp) rfl rfl rfl rfl (by rw[hcsz];exact hcs) ?_).2;by_cases hc0:cap=0;have e1:rows'=[]:=eq_nil_of_length_eq_zero (by omega);rw[e1];simp[aI,b7];have e1:o=n.s:=(by have:=ho hc0;omega);rw[e1];refine aeS hs' ?_;have:rows.length*sz'<=cap*sz':=Nat.mul_le_mul_right _ hcap;rw[hl,hcs];simp at hfit;omega
  refine fin _ (hbel _ _ _ (hw1.weak λk o' hk'=>?_) (hgr _ m os));obtain⟨rfl,rfl⟩:=pC k o' hk';exact⟨_,rfl,λ_ _ h=>h⟩
end Go.Gb
namespace Go.Gb
open Go.RowKit Go.Proofs Go.Shelf
open Go.Sort hiding Below
theorem aeU{α:Type}[Inhabited α]{enc:α->List Value}{k:Nat}{row:α->List Tree}(he:∀x,enc x=yj (row x))(hs:∀x,(row x).length=k/\∀t∈row x,∃v,t=.sc v/\oneCell v)(l:List α):
 flatK enc k l.toArray=gZ (l.map row):=by
 have hS:TA k (l.map row):=by intro r hr;obtain⟨x,_,rfl⟩:=mem_map.1 hr;exact hs x
 have hlen:(gZ (l.map row)).size=l.length*k:=by simp[gZ,eJ hS]
 refine Array.ext (by rw[hlen];simp) λt h1 h2=>?_;rw[hlen]at h2;have hk:0<k:=Nat.pos_of_ne_zero λh=>by rw[h]at h2;simp at h2
 have hi:t/k<l.length:=by rw[Nat.div_lt_iff_lt_mul hk];exact h2
 have hj:t%k<k:=Nat.mod_lt _ hk;have hte:t/k*k+t%k=t:=by rw[Nat.mul_comm];exact Nat.div_add_mod t k
 have e1:=get_flatK enc k l.toArray t (by simpa using h2);rw[getElem!_pos _ t h1]at e1;rw[e1];have e2:=flat_get hS (i:=t/k) (j:=t%k) (r:=row l[t/k]) (by simp[hi]) hj;rw[hte]at e2;have e3:l.toArray[t/k]! =l[t/k]:=by rw[getElem!_pos _ _ (by simpa using hi)];simp
 rw[e3,he];have hjl:t%k<(yj (row l[t/k])).length:=by rw[zk,(hs _).1];exact hj
 rw[getElem!_pos (yj (row l[t/k])) _ hjl];rw[dI hjl]at e2;have h3:t<((l.map row).flatMap yj).length:=by rw[eJ hS];simpa using h2
 rw[dI h3]at e2;injection e2 with e2;exact e2.symm
theorem N8{P:Program}{t:TypeId}{fs:Array Field}(h:P.underlying t=some (.struct fs))(w:World):(isAgg t).run P w=.ok true w:=by simp[isAgg,run_underlying h]
theorem LJ{P:Program}{t:TypeId}{k:Nat}(h:(P.info? t).map (·.size)=some k)(w:World):(Go.sizeOf t).run P w=.ok k w:=by
 cases hi:P.info? t with
 |none=>rw[hi]at h;cases h
 |some i=>
  rw[hi]at h;cases h;simp[Go.sizeOf,typeInfo,hi]
theorem grown_of{w w':World}(h:Below w.heap.size w w')(hd:w.drawn<=w'.drawn):∃q os,w'=grow (w.drewN q) os:=by
 obtain⟨h1,h2,h3,h4,h5⟩:=h;obtain⟨hp,tp,dr,o,ou⟩:=w';obtain⟨hp0,tp0,dr0,o0,ou0⟩:=w;simp at h1 h2 h3 h4 h5 hd;subst h1;subst h2;subst h3;refine⟨dr-dr0,hp.extract hp0.size,?_⟩;simp only[grow,World.drewN];have e1:dr0+(dr-dr0)=dr:=by omega
 have e2:hp0++hp.extract hp0.size=hp:=by refine Array.ext_getElem? λi=>?_;rw[Array.getElem?_append];split;rename_i hi;exact(h5 i hi).symm;rw[Array.getElem?_extract];split;congr 1;omega;symm;rw[Array.getElem?_eq_none_iff];omega
 rw[e1,e2]
def M2{α:Type}(lt:α->α->Bool)(L:List α):Bool:=
 L.all λx=>!lt x x&&L.all λy=>L.all λz=>(!(lt x y&&lt y z) || lt x z)&&(lt x y || (lt y z || !lt x z))
def HO{α:Type}[Inhabited α](l:List α)(φ:α×α×Unit->Option Int):Option (List α):=
 bif Nat.ble l.length 1099511627775&&((default::l).all λx=>(default::l).all λy=>(φ (x,y,())).isSome)&&M2 (λ x y=>decide ((φ (x,y,())).getD 0<0)) (default::l)then
  some (lU (λ x y=>decide ((φ (x,y,())).getD 0<0)) l)else none
theorem aeV{α:Type}[Inhabited α]{l:List α}{φ:α×α×Unit->Option Int}(f:α->α->Int)(hφ:∀x y,φ (x,y,())=some (f x y)){lt:α->α->Bool}(hf:∀x y,decide (f x y<0)=lt x y)(hS:SWO lt)(hl:l.length<1099511627776):HO l φ=some (lU lt l):=by
 have e:(λ x y=>decide ((φ (x,y,())).getD 0<0))=lt:=by funext x y;rw[hφ];exact hf x y
 unfold HO;have h1:Nat.ble l.length 1099511627775=true:=Nat.ble_eq_true_of_le (by omega);have h2:((default::l).all λx=>(default::l).all λy=>(φ (x,y,())).isSome)=true:=by simp[hφ]
 have h3:M2 lt (default::l)=true:=by
  simp only[M2,all_eq_true,bK,Bool.or_eq_true,Bool.not_eq_true'];refine λx _=>⟨hS.irrefl x,λy _ z _=>⟨?_,?_⟩⟩;cases h1:lt x y<;>cases h2:lt y z<;>first|exact .inl rfl|exact .inr (hS.trans x y z h1 h2)
  cases h1:lt x y<;>cases h2:lt y z<;>first|exact .inl rfl|exact .inr (.inl rfl)|exact .inr (.inr (hS.ntrans x y z h1 h2))
 rw[e,h1,h2,h3];rfl
def N0(l:List Int):Option (List Int):=bif Nat.ble l.length 1099511627775 then some (kJ oc l)else none
theorem akY{P:Program}{ρ:Ren}{f:FuncId}(L:SlLaysM.n5 P ρ)(hf:ρ.f 5=f)(hcall:eG P f){l r:List Int}(h:N0 l=some r):
 qu P f [.own 0 0 l.length] [(1,l.map λx=>[.sc (.int .i64 x)])] [some (1,r.map λx=>[.sc (.int .i64 x)])] (.fj []):=by
 subst hf;unfold N0 at h;cases hb:Nat.ble l.length 1099511627775 with
 |false=>rw[hb]at h;cases h
 |true=>
  rw[hb]at h;injection h with h;have hw:=Nat.le_of_ble_eq_true hb;have hS:∀l:List Int,TA 1 (l.map λx=>[Tree.sc (.int .i64 x)]):=by intro l r hr;obtain⟨x,_,rfl⟩:=mem_map.1 hr;exact⟨rfl,λt ht=>⟨_,bD.1 ht,trivial⟩⟩
  have hF:∀l:List Int,gZ (l.map λx=>[Tree.sc (.int .i64 x)])=(l.map (Value.int .i64)).toArray:=by
   intro l;simp[gZ,List.flatMap_map]
   induction l with
   |nil=>rfl
   |cons a l ih=>rw[List.flatMap_cons,ih];rfl
  have hP:∀(w:World)(b aa:Nat)(l:List Int),putRow id w b aa (l.map (Value.int .i64)).toArray=putRow (Value.int .i64) w b aa l.toArray:=by intro w b aa l;unfold putRow putCells;congr 1;funext c;congr 1;funext k x;simp only[List.size_toArray,length_map,id];split;have hk2:k-aa<l.length:=(by omega);rw[getElem!_pos _ _ (by simpa using hk2),getElem!_pos _ _ (by simpa using hk2)];simp;rfl
  have hlen:r.length=l.length:=by rw[<- h];exact(EO oc l).length_eq
  have:=aeT hcall (more:=[]) (hS l) (hS r) (by simpa using hlen) (λ h0 β I w vs hv=>?_) (λ b aa cap β I w vs hv hb hlt hH hblk=>?_);simpa using this
  match vs,hv with
  |[],_=>
   refine(AnyM.slices_Sort_int_none L none 0 w).mono ?_;rintro e w' ⟨rfl,rfl⟩;exact⟨rfl,0,#[],by simp⟩
  match vs,hv with
  |[],_=>
   have hH':Holds (Value.int .i64) w b aa l.toArray:=(by intro j hj;have hj2:j<l.length:=(by simpa using hj);rw[hF]at hH;have:=hH j (by simpa using hj2);rw[getElem!_pos _ j (by simpa using hj2)]at this ⊢;simpa using this);have hm:=AnyM.slices_Sort_int L b aa cap l w hH' hblk (by omega);simp;refine hm.mono ?_;rintro e w' ⟨rfl,n,os,rfl⟩;refine⟨rfl,n,os,?_⟩;rw[hF,hP,<- h,Zt]
theorem Xv{w:World}{I:Nat->Prop}:∀{cs:List Tree},(∀ t∈cs,∃v,t=.sc v/\oneCell v)->fx w I cs (yj cs)
 |[],_=>by simp[fx,yj]
 |t::cs,h=>by obtain⟨v,rfl,hv⟩:=h t (by simp);have ih:=Xv (w:=w) (I:=I) (cs:=cs) λt ht=>h t (by simp[ht]);simp only[yj,bE,fx,TR]at ih ⊢;exact⟨⟨trivial,hv⟩,ih⟩
theorem aa7{P:Program}{ρ:Ren}{f:FuncId}(L:SlLaysF0.n6 P ρ)(hf:ρ.f 6=f)(hcall:eG P f){X:SX}{i:X.ι}[hI:Inhabited (CT.T X.toSE (.st i))]{fs:Array Field}
 (ha:P.underlying (ρ.t 24)=some (.struct fs)) (hz:(P.info? (ρ.t 24)).map (·.size)=some (CT.sz X (.st i)))
 (hsc:∀x:CT.T X.toSE (.st i),∀t∈CT.row X.toSE (.st i) x,∃v,t=.sc v/\oneCell v)
 {l r:List (CT.T X.toSE (.st i))} {φ:(CT.T X.toSE (.st i)×CT.T X.toSE (.st i)×Unit)->Option Int} (h:HO l φ=some r):
 qu P f [.own 0 0 l.length,.eC λts u=>∃(h:HL X.toSE [.st i,.st i])(x:Int),φ h=some x/\ts=HL.oR X.toSE [.st i,.st i] h/\u=CT.tv X.toSE (.int .i64) x]
  [(CT.sz X (.st i),l.map (CT.row X.toSE (.st i)))] [some (CT.sz X (.st i),r.map (CT.row X.toSE (.st i)))] (.fj []):=by
 subst hf;unfold HO at h;generalize hg:(Nat.ble l.length 1099511627775&&((default::l).all λx=>(default::l).all λy=>(φ (x,y,())).isSome)&&M2 (λ x y=>decide ((φ (x,y,())).getD 0<0)) (default::l))=b at h;cases b with
 |false=>cases h
 |true=>
  injection h with h;simp only[bK]at hg;obtain⟨⟨hl0,hsome⟩,xy⟩:=hg;have hl:=Nat.le_of_ble_eq_true hl0
  let β':={ x:CT.T X.toSE (.st i) // x∈default::l }
  letI:Inhabited β':=⟨⟨default,by simp⟩⟩
  let cf:β'->β'->Int:=λx y=>(φ (x.1,y.1,())).getD 0
  have hφ:∀x y:β',φ (x.1,y.1,())=some (cf x y):=by intro x y;rw[all_eq_true]at hsome;have h1:=hsome x.1 x.2;rw[all_eq_true]at h1;obtain⟨r,hr⟩:=Option.isSome_iff_exists.1 (h1 y.1 y.2);simp only[cf,hr];rfl
  have hO:SWO (ltOf cf):=by simp only[M2,all_eq_true,bK,Bool.or_eq_true,Bool.not_eq_true']at xy;refine⟨λ x=>(xy x.1 x.2).1,λx y z h1 h2=>?_,λx y z h1 h2=>?_⟩;rcases ((xy x.1 x.2).2 y.1 y.2 z.1 z.2).1 with h|h;rw[Bool.and_eq_false_iff]at h;rcases h with h|h;exact absurd (h1.symm.trans h) (by decide);exact absurd (h2.symm.trans h) (by decide);exact h;rcases ((xy x.1 x.2).2 y.1 y.2 z.1 z.2).2 with h|h|h;exact absurd (h1.symm.trans h) (by decide);exact absurd (h2.symm.trans h) (by decide);exact h
  let l':List β':=l.attach.map λx=>⟨x.1,by simp[x.2]⟩
  have hl':l'.map Subtype.val=l:=by simp only[l',map_map];exact List.attach_map_subtype_val l
  have hr':(lU (ltOf cf) l').map Subtype.val=r:=by have:=amJ (f:=λx:β'=>x.1) rfl (λ x y=>decide ((φ (x,y,())).getD 0<0)) l';rw[hl',h]at this;exact this.symm
  have hrow:=λx=>Et (X:=X) (.st i) x;have hS:∀l:List (CT.T X.toSE (.st i)),TA (CT.sz X (.st i)) (l.map (CT.row X.toSE (.st i))):=by intro l r hr;obtain⟨x,_,rfl⟩:=mem_map.1 hr;exact⟨hrow x,hsc x⟩
  have hF:=aeU (α:=β') (enc:=λx=>yj (CT.row X.toSE (.st i) x.1)) (row:=λx=>CT.row X.toSE (.st i) x.1) (λ _=>rfl) λx=>⟨hrow x.1,hsc x.1⟩;have hm1:l'.map (λ x=>CT.row X.toSE (.st i) x.1)=l.map (CT.row X.toSE (.st i)):=by
   conv=>rhs;rw[<- hl',map_map]
   rfl
  have hm2:(lU (ltOf cf) l').map (λ x=>CT.row X.toSE (.st i) x.1)=r.map (CT.row X.toSE (.st i)):=by rw[<- hr',map_map];rfl
  have hll:l'.length=l.length:=by simp[l']
  have hlen:r.length=l.length:=by rw[<- hr',length_map,yc hO,hll]
  have:=aeT hcall (more:=[.eC λts u=>∃(h:HL X.toSE [.st i,.st i])(x:Int),φ h=some x/\ts=HL.oR X.toSE [.st i,.st i] h/\u=CT.tv X.toSE (.int .i64) x]) (hS l) (hS r) (by simpa using hlen) (λ h0 β I w vs hv=>?_) (λ b aa cap β I w vs hv hb hlt hH hblk=>?_);simpa using this
  match vs,hv with
  |[v],_=>
   refine(AnyF.slices_SortFunc_none L none 0 v w).mono ?_;rintro e w' ⟨rfl,rfl⟩;exact⟨rfl,0,#[],by simp[Sort.ahead]⟩
  match vs,hv with
  |[v],hv=>
   simp only[bk,VR]at hv;obtain⟨⟨g,first,cb,rfl,rfl,hg1,hg2,ut⟩,_⟩:=hv;obtain⟨fn,hfn⟩:=Option.isSome_iff_exists.1 hg2;obtain⟨c,hbody⟩:=Option.isSome_iff_exists.1 (hg1 fn hfn).1;rw[<- hm1,<- hF l']at hH
   have hm:=AnyQ.slices_SortFunc_eq L (CT.sz X (.st i)) (N8 ha) (LJ hz) (λ x:β'=>yj (CT.row X.toSE (.st i) x.1)) (λ x=>by rw[zk,hrow])
    (λ x v hv=>by obtain⟨t,ht,rfl⟩:=mem_map.1 hv;obtain⟨u,rfl,hu⟩:=hsc x.1 t ht;cases u<;>simp_all [oneCell,Value.oneCell']) cf hO g cb b aa cap l'.toArray w (enters_of hfn (hg1 fn hfn).2 hbody) ?_ hH hblk (by simp[hll];omega)
   simp[length_map];simp[List.size_toArray,hll]at hm;refine hm.mono ?_;rintro e w' ⟨rfl,n,os,rfl⟩;refine⟨rfl,n,os,?_⟩;have e1:pdq (ltOf cf) l'.toArray 0 l.length (Lib.bitLen l.length) true true=(lU (ltOf cf) l').toArray:=(by rw[bitLen_eq _ (by omega),<- hll];rfl);rw[e1,<- hm2,<- hF];rfl;intro m os dk hs x y;have hsame:Same I w (sortWorldK (λ x:β'=>yj (CT.row X.toSE (.st i) x.1)) (CT.sz X (.st i)) w b aa m dk os):=(by intro b' hb';have h1:=hlt b' hb';simp[sortWorldK,grow,putRowK,putRow,mapBlock,Sort.ahead];rw[Array.getElem?_append_left (by simpa using h1),Array.getElem?_modify,aU (by rintro rfl;exact hb hb')])
   have hc:=ut _ I _ ⟨[.agg (yj (CT.row X.toSE (.st i) x.1)).toArray,.agg (yj (CT.row X.toSE (.st i) y.1)).toArray]⟩ _ (λ _ h=>h) hsame
    (λ b' hb'=>Nat.lt_of_lt_of_le (hlt b' hb') (by simp[sortWorldK,grow,putRowK,putRow,mapBlock,Sort.ahead])) ⟨(x.1,y.1,()),cf x y,hφ x y,rfl,rfl⟩
    ⟨⟨_,rfl,Xv (hsc x.1)⟩,⟨_,rfl,Xv (hsc y.1)⟩,trivial⟩
   refine(SG hc (λ w' ⟨_,_,he,_⟩=>by cases he)).mono ?_;rintro e w' ⟨⟨u,I',rfl,hbel,_,_,_,hu⟩,hd⟩;refine⟨?_,grown_of hbel hd⟩;rw[hu.1]
end Go.Gb
namespace Go.Gb
open Go.RowKit Go.Proofs Go.Shelf
open Go.Sort hiding Below
theorem aa8{P:Program}{f:FuncId}{args:List AV}{r:TV}(h:rK P f args (.one (.d r))){w:World}{I:Nat->Prop}{vs:Array Value}(hlt:∀b,I b->b<w.heap.size)(hgv:kq w I)(hv:bk P mN w I args vs.toList):
 Calls P f vs w λe w'=>(∃ v I',e=.returned v/\sX w' I' r v)/\∃q os,w'=grow (w.drewN q) os:=by refine(SG (h.2 w I vs hlt hgv hv) (λ w' ⟨_,_,he,_⟩=>by cases he)).mono ?_;rintro e w' ⟨⟨v,I',rfl,hb,_,_,_,hr⟩,hd⟩;exact⟨⟨v,I',rfl,hr⟩,grown_of hb hd⟩
end Go.Gb
namespace Go.Gb
open Go.RowKit Go.Proofs Go.Shelf
open Go.Sort hiding Below
def cI(x y:Int):Int:=bif decide (x<y)then -1 else bif decide (y<x)then 1 else 0
def cmpL:List Int->List Int->Int
 |x::xs,y::ys=>bif cI x y==0 then cmpL xs ys else cI x y
 |_,_=>0
theorem QA(x y:Int)(xs ys:List Int):cmpL (x::xs) (y::ys)<0↔x<y\/x=y/\cmpL xs ys<0:=by
 simp only[cmpL,cI];rcases Int.lt_trichotomy x y with h|h|h
 ·simp[h]
 ·subst h;simp
 ·have h1:¬x<y:=by omega
  have h2:¬x=y:=by omega
  simp[h,h1,h2]
theorem aeX{α:Type}(key:α->List Int)(n:Nat)(hn:∀x,(key x).length=n):SWO (ltOf λx y=>cmpL (key x) (key y)):=by
 have irr:∀l:List Int,¬cmpL l l<0:=by
  intro l
  induction l with
  |nil=>simp[cmpL]
  |cons x l ih=>
   rw[QA];rintro (h|h)
   ·omega
   ·exact ih h.2
 have tr:∀a b c:List Int,a.length=b.length->b.length=c.length->cmpL a b<0->cmpL b c<0->cmpL a c<0:=by
  intro a
  induction a with
  |nil=>intro b c h1 _ h;cases b<;>simp[cmpL]at h
  |cons x a ih=>
   intro b c h1 h2 h3 h4
   match b,c,h1,h2,h3,h4 with
   |y::b,z::c,h1,h2,h3,h4=>
    rw[QA]at h3 h4 ⊢;rcases h3 with h3|⟨h3,h5⟩<;>rcases h4 with h4|⟨h4,h6⟩
    ·left;omega
    ·left;omega
    ·left;omega
    ·exact .inr ⟨by omega,ih b c (by simpa using h1) (by simpa using h2) h5 h6⟩
 have nt:∀a b c:List Int,a.length=b.length->b.length=c.length->¬cmpL a b<0->¬cmpL b c<0->¬cmpL a c<0:=by
  intro a
  induction a with
  |nil=>intro b c _ _ _ _;simp[cmpL]
  |cons x a ih=>
   intro b c h1 h2 h3 h4
   match b,c,h1,h2,h3,h4 with
   |y::b,z::c,h1,h2,h3,h4=>
    rw[QA]at h3 h4 ⊢;rintro (h|⟨h,h5⟩)
    ·apply h3;left;by_cases h6:y<z
     ·exact absurd (.inl h6) h4
     ·omega
    ·have e1:x=y:=by
      by_cases h6:x<y
      ·exact absurd (.inl h6) h3
      ·by_cases h7:y<z
       ·exact absurd (.inl h7) h4
       ·omega
     have e2:y=z:=(by omega);exact ih b c (by simpa using h1) (by simpa using h2) (λ h=>h3 (.inr ⟨e1,h⟩)) (λ h=>h4 (.inr ⟨e2,h⟩)) h5
 have el:∀x y:α,(key x).length=(key y).length:=λx y=>by rw[hn,hn]
 exact⟨λ x=>by simp only[ltOf];exact decide_eq_false (irr _),
  λx y z h1 h2=>decide_eq_true (tr _ _ _ (el x y) (el y z) (of_decide_eq_true h1) (of_decide_eq_true h2)),
  λx y z h1 h2=>decide_eq_false (nt _ _ _ (el x y) (el y z) (of_decide_eq_false h1) (of_decide_eq_false h2))⟩
theorem amV{P:Program}{f:FuncId}(hcall:eG P f){sz:Nat}{rows rows':List (List Tree)}{more:List AV}{o1 o2 o3:aP}(hs:TA sz rows)(hs':TA sz rows')(hl:rows'.length=rows.length)
 (h0:rows=[]->∀(β:Nat->Option cV) (I:Nat->Prop) (w:World) (vs:List Value),bk P β w I more vs->Calls P f ⟨.slice none 0 0::vs⟩ w λe w'=>e=.returned (.tuple #[])/\∃n os,w'=grow (Sort.ahead w n) os)
 (h:∀(b aa cap:Nat) (β:Nat->Option cV) (I:Nat->Prop) (w:World) (vs:List Value),Mem P w (nQ β I) β I (sy [⟨sz,aI rows⟩,o1,o2,o3]) w->gc β 0 b->bk P β w I more vs->Holds id w b aa (gZ rows)->b<w.heap.size->Calls P f ⟨.slice (some ⟨b,aa,none⟩) rows.length cap::vs⟩ w λe w'=>
  e=.returned (.tuple #[])/\∃n os,w'=grow (putRow id (Sort.ahead w n) b aa (gZ rows')) os):
 zd P f (.own 0 0 rows.length::more) [⟨sz,aI rows⟩,o1,o2,o3] [(0,⟨sz,aI rows'⟩),(1,o1),(2,o2),(3,o3)] (.fj []):=by
 refine⟨hcall,λw β I vs hβ hM hvs=>?_⟩;have hgr:∀(w:World)(n:Nat)(os:Array Obj),Below w.heap.size w (grow (Sort.ahead w n) os):=λw n os=>⟨rfl,rfl,rfl,by simp[grow,Sort.ahead],λk hk=>by simp only[grow,Sort.ahead];rw[Array.getElem?_append_left hk]⟩;obtain⟨vs⟩:=vs
 match vs,hvs with
 |v::ae,hvs=>
  have hv:=hvs.1;have hr:=hvs.2;have hk:sy [⟨sz,aI rows⟩,o1,o2,o3] 0=some ⟨sz,aI rows⟩:=rfl;have fin:∀w':World,Mem P w (nQ β I) β I (oS [(0,⟨sz,aI rows'⟩),(1,o1),(2,o2),(3,o3)]) w'->ap6 P w β I [(0,⟨sz,aI rows'⟩),(1,o1),(2,o2),(3,o3)] (.fj []) (.returned (.tuple #[])) w':=λw' hm=>⟨_,β,I,rfl,hm,λ_ h=>h,by simp only[VR];exact⟨#[],rfl,by simp[bk]⟩⟩;have hbel:∀(obj:Nat->Option aP)(w1 w':World),Mem P w (nQ β I) β I obj w1->Below w1.heap.size w1 w'->Mem P w (nQ β I) β I obj w':=λobj w1 w' hm hb=>(hm.below hb (I':=I) (λ _ h=>h) (λ b hb'=>Nat.lt_of_lt_of_le (hm.lt b hb') hb.size) (λ b k o B h1 h2 h3 h4=>(hm.ownB k o B b h2 h3 h4).1 h1) hm.up).2;have pC:∀k o,oS [(0,(⟨sz,aI rows'⟩:aP)),(1,o1),(2,o2),(3,o3)] k=some o->(k=0/\o=⟨sz,aI rows'⟩)\/(k≠0/\sy [⟨sz,aI rows⟩,o1,o2,o3] k=some o):=by
   intro k o hk';simp only[oS]at hk';split at hk'
   ·rename_i e;exact .inl ⟨e.symm,by injection hk' with h;exact h.symm⟩
   ·rename_i e;refine .inr ⟨λ h=>e h.symm,?_⟩;split at hk'
    ·rename_i e;subst e;exact hk'
    ·split at hk'
     ·rename_i e;subst e;exact hk'
     ·split at hk'
      ·rename_i e;subst e;exact hk'
      ·cases hk'
  simp only[VR]at hv;rcases hv with ⟨hn,rfl,_,hlen⟩|⟨b,sz',n,cap,o,xv,rfl,hcap,hfit,ho⟩
  ·have e0:rows=[]:=eq_nil_of_length_eq_zero hlen;have e1:rows'=[]:=eq_nil_of_length_eq_zero (by rw[hl,hlen]);refine(h0 e0 β I w ae hr).mono ?_;rintro e w' ⟨rfl,m,os,rfl⟩;refine fin _ (hbel _ w _ (hM.weak λk o' hk'=>?_) (hgr w m os));rcases pC k o' hk' with ⟨rfl,rfl⟩|⟨_,h2⟩
   ·refine⟨_,hk,λB hB hO=>?_⟩;rw[e0]at hO;rw[e1];exact hO
   ·exact⟨_,h2,λ_ _ h=>h⟩
  ·obtain⟨B,hB,hO⟩:=hM.cR 0 _ hk;rw[xv]at hB;cases hB;obtain⟨hz,c,e,hheap,hcs,hrows⟩:=hO;simp only at hz hrows;subst hz;have hblk:=(hM.own 0 _ b _ n hk xv).2.1;have hlen':(gZ rows').size=rows'.length*sz':=(by simp[gZ,eJ hs']);have ra:(gZ rows).size=rows.length*sz':=(by simp[gZ,eJ hs]);have hH:Holds id w b o (gZ rows):=by
    by_cases hc0:cap=0
    ·intro p hp;have:rows.length=0:=(by omega);rw[ra,this]at hp;simp at hp
    ·have e1:o=n.s:=(by have:=ho hc0;omega);rw[e1];exact holds_of hs hheap hrows
   refine(h b o cap β I w ae hM (gc.at xv) hr hH hblk).mono ?_;rintro e' w' ⟨rfl,m,os,rfl⟩;have hsw:putRow id (Sort.ahead w m) b o (gZ rows')=Sort.ahead (putRow id w b o (gZ rows')) m:=rfl;have hw1:Mem P w (nQ β I) β I (cB (sy [⟨sz',aI rows⟩,o1,o2,o3]) [(0,some ⟨sz',aI rows'⟩)]) (putRow id w b o (gZ rows')):=by
    have hnew:(putRow id w b o (gZ rows')).heap[b]? =some (.cells (putCells id o (gZ rows') c) e (0,0)):=(by simp only[putRow,mapBlock,Array.getElem?_modify,if_true,hheap,Option.map_some,onCells]);have hoth:∀b',b'≠b->(putRow id w b o (gZ rows')).heap[b']? =w.heap[b']? :=λb' hb'=>(by simp only[putRow,mapBlock,Array.getElem?_modify,aU (Ne.symm hb')]);have hcsz:(putCells id o (gZ rows') c).size=c.size:=(by simp[putCells]);refine(hM.write (o':=⟨sz',aI rows'⟩) hk xv hnew hoth (by simp[putRow,mapBlock]) rfl rfl rfl rfl (by rw[hcsz];exact hcs) ?_).2;by_cases hc0:cap=0
    ·have e1:rows'=[]:=eq_nil_of_length_eq_zero (by omega);rw[e1];simp[aI,b7]
    ·have e1:o=n.s:=(by have:=ho hc0;omega);rw[e1];refine aeS hs' ?_;have:rows.length*sz'<=cap*sz':=Nat.mul_le_mul_right _ hcap;rw[hl,hcs];simp only[Nat.zero_add]at hfit;omega
   rw[hsw];refine fin _ (hbel _ _ _ (hw1.weak λk o' hk'=>?_) (hgr _ m os));rcases pC k o' hk' with ⟨rfl,rfl⟩|⟨h1,h2⟩
   ·exact⟨_,rfl,λ_ _ h=>h⟩
   ·exact⟨o',by simp only[cB,aU h1];exact h2,λ_ _ h=>h⟩
section
variable {X:SX} {ip ik:X.ι}
structure t8(X:SX)(ip ik:X.ι) where
 p1:CT.T X.toSE (.st ip)->Int
 p2:CT.T X.toSE (.st ip)->Int
 p3:CT.T X.toSE (.st ip)->Int
 p4:CT.T X.toSE (.st ip)->Int
 k1:CT.T X.toSE (.st ik)->Int
 k2:CT.T X.toSE (.st ik)->Int
 hp:∀x,CT.row X.toSE (.st ip) x=[.sc (.int .i64 (p1 x)),.sc (.int .i64 (p2 x)),.sc (.int .i64 (p3 x)),.sc (.int .i64 (p4 x))]
 hk:∀x,CT.row X.toSE (.st ik) x=[.sc (.int .i64 (k1 x)),.sc (.int .i64 (k2 x))]
def EP(F:t8 X ip ik)(a b:Int):List (CT.T X.toSE (.st ik)×Int)->Option Int
 |[]=>none
 |p::r=>bif decide ([a,b]=[F.k1 p.1,F.k2 p.1])then some p.2 else EP F a b r
def HN(F:t8 X ip ik)(m:List (CT.T X.toSE (.st ik)×Int))(x:CT.T X.toSE (.st ip)):List Int:=
 [i64.wrap (F.p3 x*(EP F (F.p1 x) (F.p4 x) m).getD 0),F.p3 x,F.p1 x,F.p2 x,F.p4 x]
def N9(F:t8 X ip ik)(m:List (CT.T X.toSE (.st ik)×Int)):CT.T X.toSE (.st ip)->CT.T X.toSE (.st ip)->Bool:=ltOf λx y=>cmpL (HN F m x) (HN F m y)
def nf[Inhabited (CT.T X.toSE (.st ip))](F:t8 X ip ik)(l:List (CT.T X.toSE (.st ip)))(m:List (CT.T X.toSE (.st ik)×Int)):Option (List (CT.T X.toSE (.st ip))×List (CT.T X.toSE (.st ik)×Int)):=
 bif Nat.ble l.length 1099511627775 then some (lU (N9 F m) l,m)else none
theorem sx[Inhabited (CT.T X.toSE (.st ip))](F:t8 X ip ik){l:List (CT.T X.toSE (.st ip))}(m:List (CT.T X.toSE (.st ik)×Int))(h:l.length<=1099511627775):nf F l m=some (lU (N9 F m) l,m):=by unfold nf;rw[Nat.ble_eq_true_of_le h];rfl
theorem Xw(F:t8 X ip ik)(m:List (CT.T X.toSE (.st ik)×Int)):SWO (N9 F m):=aeX (HN F m) 5 λ_=>rfl
def pbG[Inhabited (CT.T X.toSE (.st ip))](F:t8 X ip ik)(FC FS:FuncId):dp X:=
 ⟨[.o 0,.f FC [] [.p 1]],[(0,.l (.st ip)),(1,.c 1 [[.f FS [] [.p 2]]]),(2,.c 1 [[.mp 3]]),(3,.m (.st ik) (.int .i64))],[],[(0,.l (.st ip)),(1,.c 1 [[.f FS [] [.p 2]]]),(2,.c 1 [[.mp 3]]),(3,.m (.st ik) (.int .i64))],
  λv=>nf F v.1 v.2⟩
def BJ(F:t8 X ip ik)(m:List (CT.T X.toSE (.st ik)×Int)):List (List AV):=m.map λp=>[Li .i64 [F.k1 p.1,F.k2 p.1],.t (.sc (.int .i64 p.2))]
theorem ahx(m:List (CT.T X.toSE (.st ik)×Int)):(bI (.map (.st ik) (.int .i64) m:bo X)).sz=(bI (.map (.st ik) (.int .i64) m:bo X)).rows.length:=length_map _ |>.symm
theorem akZ(F:t8 X ip ik)(m:List (CT.T X.toSE (.st ik)×Int)):(bI (.map (.st ik) (.int .i64) m:bo X)).rows=BJ F m:=by simp only[bI,BJ];refine List.map_congr_left λp _=>?_;have e:(CT.tv X.toSE (.st ik) p.1).av=.agg ((CT.row X.toSE (.st ik) p.1).map AV.t):=rfl;rw[e,F.hk];rfl
theorem Xx{P:Program}{β β':Nat->Option cV}{w w':World}{I I':Nat->Prop}(F:t8 X ip ik):∀(m:List (CT.T X.toSE (.st ik)×Int))(es:List MapEntry),cL P β w I (BJ F m) es->cL P β' w' I' (BJ F m) es
 |[],[],_=>trivial
 |p::m,e::es,h=>by
  simp only[BJ,bE,cL]at h ⊢;refine⟨?_,Xx F m es h.2⟩;have h1:=h.1;simp only[bk]at h1 ⊢;obtain⟨g1,g2,_⟩:=h1;have e1:e.key=nM .i64 [F.k1 p.1,F.k2 p.1]:=by simp only[Li,VR]at g1;obtain⟨vs,q1,q2⟩:=g1;rw[q1];unfold nM;rw[<- J3 (k:=.i64) (by rfl) q2]
  refine⟨by rw[e1];exact VG _ _,?_,trivial⟩;simpa[VR,TR]using g2
 |[],_::_,h=>h.elim
 |_::_,[],h=>h.elim
theorem aeY(F:t8 X ip ik)(a b:Int):∀m:List (CT.T X.toSE (.st ik)×Int),∃r,Em .i64 [a,b] (BJ F m)=some r/\r.map (·.2)=(EP F a b m).map λv=>.t (.sc (.int .i64 v))
 |[]=>⟨none,rfl,rfl⟩
 |p::m=>by
  obtain⟨r,h1,h2⟩:=aeY F a b m;have e:BJ F (p::m)=[Li .i64 [F.k1 p.1,F.k2 p.1],.t (.sc (.int .i64 p.2))]::BJ F m:=rfl;rw[e];have e2:qH .i64 ([F.k1 p.1,F.k2 p.1].map λn=>AV.t (.sc (.int .i64 n)))=some [F.k1 p.1,F.k2 p.1]:=by rfl
  simp only[Li,Em,e2,ai,dX,length_nil,if_true,EP];by_cases hc:[a,b]=[F.k1 p.1,F.k2 p.1]
  ·rw[aX hc,decide_eq_true hc];exact⟨_,rfl,rfl⟩
  ·rw[aU hc,decide_eq_false hc,h1];refine⟨_,rfl,?_⟩;show(Option.map (λ p:Nat×AV=>(p.1+1,p.2)) r).map (·.2)=(EP F a b m).map _;rw[<- h2];cases r<;>rfl
theorem ak0{P:Program}{T:eI}(hT:fw P T){tm kt et:TypeId}{ei:ox}(hu:P.underlying tm=some (.map kt et))(gh:T et=some ei)(hAr:GB P kt 2 .i64)
 (hor:∀r:Option (Nat×AV),wA r (part' ei.agg ei.size ((ei.zero.map cv).map wk))=some ((r.map (·.2)).getD (.t (.sc (.int .i64 0))))) (F:t8 X ip ik) (m:List (CT.T X.toSE (.st ik)×Int))
 {β:Nat->Option cV} {w:World} {I:Nat->Prop} {es:Array MapEntry} {cl b:Nat} (hm:cL P β w I (BJ F m) es.toList) (W:World) (hb:W.heap[b]? =some (.map es cl)) (a c:Int):
 (Instr.lookup tm (.map (some b)) (.agg #[.int .i64 a,.int .i64 c]) false).run P W=.ok (.int .i64 ((EP F a c m).getD 0)) W:=by
 obtain⟨r,h1,h2⟩:=aeY F a c m;have hm':cL P mN W (λ _=>False) (BJ F m) es.toList:=Xx F m _ hm;obtain⟨z,q1,q2⟩:=P9 (β:=mN) (I:=λ_=>False) (ok:=false) (r:=r) (v:=(r.map (·.2)).getD (.t (.sc (.int .i64 0)))) hT gh hu hb (yZ hAr (c:=[a,c]) rfl _) (by
  rcases En hAr (key:=[a,c]) rfl _ es.toList 0 r hm' h1 with ⟨rfl,a2⟩|⟨j,y,e,rfl,a2,a3,a4,a5⟩
  ·exact .inl ⟨rfl,(run_findKey_eq W (CX hAr) _ _).trans a2⟩
  ·rw[Nat.zero_add]at a2;exact .inr ⟨j,y,e,rfl,(run_findKey_eq W (CX hAr) _ _).trans a2,a5⟩) (hor r)
 rw[h2]at q2;have:z=.int .i64 ((EP F a c m).getD 0):=by
  cases hq:EP F a c m with
  |none=>rw[hq]at q2;simpa[VR,TR,oneCell]using q2
  |some v=>rw[hq]at q2;simpa[VR,TR,oneCell]using q2
 rw[this]at q1;exact q1
def PbW(P:Program)(FC FS:FuncId)(tm:TypeId):Prop:=
 ∀(l1 u1 f1 n1 l2 u2 f2 n2:Int)(ar:Int->Int->Int)(cF cA:Addr)(bM:Nat)(I:Nat->Prop)(J:World->Prop)(W:World),
  (∀ X,J X->kq X I/\(∀ b,I b->b<X.heap.size)/\X.cell? cF=some (.func (.func FS) #[] #[.pointer (some cA)])/\X.cell? cA=some (.map (some bM))/\bM<X.heap.size/\
   ∀W' l n,W'.heap[bM]? =X.heap[bM]?->(Instr.lookup tm (.map (some bM)) (.agg #[.int .i64 l,.int .i64 n]) false).run P W'=.ok (.int .i64 (ar l n)) W')->
  (∀ X q os,J X->J (grow (X.drewN q) os))->J W->
  Calls P FC #[.agg #[.int .i64 l1,.int .i64 u1,.int .i64 f1,.int .i64 n1],.agg #[.int .i64 l2,.int .i64 u2,.int .i64 f2,.int .i64 n2],.pointer (some cF)] W λe w'=>
   e=.returned (.int .i64 (cmpL [i64.wrap (f1*ar l1 n1),f1,l1,u1,n1] [i64.wrap (f2*ar l2 n2),f2,l2,u2,n2]))/\∃q os',w'=grow (W.drewN q) os'
theorem aoX{P:Program}{T:eI}{ρ:Ren}{f FC FS:FuncId}(L:SlLaysF0.n6 P ρ)(hf:ρ.f 6=f)(hcall:eG P f)(hC:eG P FC)[hI:Inhabited (CT.T X.toSE (.st ip))]{fs:Array Field}
 (ha:P.underlying (ρ.t 24)=some (.struct fs)) (hz:(P.info? (ρ.t 24)).map (·.size)=some 4) (hT:fw P T) {tm kt et:TypeId} {ei:ox} (hu:P.underlying tm=some (.map kt et)) (gh:T et=some ei) (hAr:GB P kt 2 .i64)
 (hor:∀r:Option (Nat×AV),wA r (part' ei.agg ei.size ((ei.zero.map cv).map wk))=some ((r.map (·.2)).getD (.t (.sc (.int .i64 0))))) (F:t8 X ip ik) (hW:PbW P FC FS tm):Hi P f (pbG F FC FS):=by
 subst hf;intro v r hr;obtain⟨l,m⟩:=v;have hr':nf F l m=some r:=hr;unfold nf at hr';cases hb:Nat.ble l.length 1099511627775 with
 |false=>rw[hb]at hr';cases hr'
 |true=>
  rw[hb]at hr';injection hr' with hr';subst hr';have hl:=Nat.le_of_ble_eq_true hb;have hO:SWO (N9 F m):=aeX (HN F m) 5 λ_=>rfl;have hsz:CT.sz X (.st ip)=4:=by rw[<- Et (.st ip) (default:CT.T X.toSE (.st ip)),F.hp];rfl
  have hrow:∀x,(CT.row X.toSE (.st ip) x).length=4:=λx=>by rw[F.hp];rfl
  have hsc:∀x:CT.T X.toSE (.st ip),∀t∈CT.row X.toSE (.st ip) x,∃v,t=.sc v/\oneCell v:=by intro x t ht;rw[F.hp]at ht;simp only[aR,nO,or_false]at ht;rcases ht with rfl|rfl|rfl|rfl<;>exact⟨_,rfl,trivial⟩
  have hS:∀l:List (CT.T X.toSE (.st ip)),TA 4 (l.map (CT.row X.toSE (.st ip))):=by intro l r hr;obtain⟨x,_,rfl⟩:=mem_map.1 hr;exact⟨hrow x,hsc x⟩
  have hF:=aeU (enc:=λx=>yj (CT.row X.toSE (.st ip) x)) (row:=λx=>CT.row X.toSE (.st ip) x) (k:=4) (λ _=>rfl) λx=>⟨hrow x,hsc x⟩;have hlen:(lU (N9 F m) l).length=l.length:=yc hO l
  have main:zd P (ρ.f 6) (.own 0 0 (l.map (CT.row X.toSE (.st ip))).length::[.fn FC [] [.ptr 1 0 0]]) [⟨4,aI (l.map (CT.row X.toSE (.st ip)))⟩,⟨1,[[.fn FS [] [.ptr 2 0 0]]]⟩,⟨1,[[.mp 3]]⟩,bI (.map (.st ik) (.int .i64) m:bo X)]
   [(0,⟨4,aI ((lU (N9 F m) l).map (CT.row X.toSE (.st ip)))⟩),(1,⟨1,[[.fn FS [] [.ptr 2 0 0]]]⟩),(2,⟨1,[[.mp 3]]⟩),(3,bI (.map (.st ik) (.int .i64) m:bo X))] (.fj []):=by
   refine amV hcall (hS l) (hS _) (by simp[hlen]) (λ h0 β I w vs hv=>?_) (λ b aa cap β I w vs hM Pr hv hH hblk=>?_)
   ·match vs,hv with
    |[v],_=>
     refine(AnyF.slices_SortFunc_none L none 0 v w).mono ?_;rintro e w' ⟨rfl,rfl⟩;exact⟨rfl,0,#[],by simp[Sort.ahead]⟩
   ·match vs,hv with
    |[v],hv=>
     simp only[bk,VR]at hv;obtain⟨⟨⟨fsv⟩,⟨csv⟩,rfl,hfs,hcs⟩,_⟩:=hv
     match fsv,hfs,csv,hcs with
     |[],_,[p],hcs=>
      simp only[bk,VR]at hcs;obtain⟨⟨bF,szF,nF,hβF,rfl⟩,_⟩:=hcs;obtain⟨BF,hBF,hOF⟩:=hM.cR 1 _ rfl;rw[hβF]at hBF;cases hBF;simp only[OR,b7,dt]at hOF;obtain⟨rfl,cF,eF,wd,hszF,⟨_,⟨⟨svF,US,hTF,_⟩,_⟩,_⟩⟩:=hOF;simp only[VR]at hTF;obtain⟨⟨fs2⟩,⟨cs2⟩,rfl,Wk,hcs2⟩:=hTF
      match fs2,Wk,cs2,hcs2 with
      |[],_,[p2],hcs2=>
       simp only[bk,VR]at hcs2;obtain⟨⟨bA,szA,nA,hβA,rfl⟩,_⟩:=hcs2;obtain⟨BA,hBA,hOA⟩:=hM.cR 2 _ rfl;rw[hβA]at hBA;cases hBA;simp only[OR,b7,dt]at hOA;obtain⟨rfl,cA,eA,we,hszA,⟨_,⟨⟨svA,UT,hTA,_⟩,_⟩,_⟩⟩:=hOA;simp only[VR]at hTA;obtain⟨bM,hβM,rfl⟩:=hTA;obtain⟨BM,hBM,hOM⟩:=hM.cR 3 _ rfl;rw[hβM]at hBM;cases hBM;obtain⟨es,cl,wc,_,Pl,_,_⟩:=hOM;have Pl:=Pl (ahx m);rw[akZ F m]at Pl;have ne1:bF≠b:=λe=>absurd (hM.mi 1 0 _ _ b rfl rfl (e ▸ gc.at hβF) Pr) (by decide);have ne2:bA≠b:=λe=>absurd (hM.mi 2 0 _ _ b rfl rfl (e ▸ gc.at hβA) Pr) (by decide);have ne3:bM≠b:=λe=>absurd (hM.mi 3 0 _ _ b rfl rfl (e ▸ ⟨_,hβM,rfl⟩) Pr) (by decide);have lt1:bF<w.heap.size:=(Array.getElem?_eq_some_iff.1 wd).1;have lt2:bA<w.heap.size:=(Array.getElem?_eq_some_iff.1 we).1;have lt3:bM<w.heap.size:=(Array.getElem?_eq_some_iff.1 wc).1;have hIb:∀b',I b'->b'≠b:=λb' hb' e=>(hM.j9 0 _ b rfl Pr).1 (e ▸ hb');obtain⟨fn,hfn,hbody,hname⟩:=hC;obtain⟨cd,hbody⟩:=Option.isSome_iff_exists.1 hbody;rw[<- hF l]at hH
       have hm:=AnyQ.slices_SortFunc_eq L 4 (N8 ha) (LJ hz) (λ x=>yj (CT.row X.toSE (.st ip) x)) (λ x=>by rw[zk,hrow])
        (λ x v hv=>by obtain⟨t,ht,rfl⟩:=mem_map.1 hv;obtain⟨u,rfl,hu⟩:=hsc x t ht;cases u<;>simp_all [oneCell,Value.oneCell']) (λ x y=>cmpL (HN F m x) (HN F m y)) hO FC #[.pointer (some ⟨bF,nF.s+0*1+0,none⟩)] b aa cap l.toArray w (enters_of hfn hname hbody) ?_ hH hblk (by simp;omega)
       ·simp only[length_map];simp only[List.size_toArray]at hm;refine hm.mono ?_;rintro e w' ⟨rfl,n,os,rfl⟩;refine⟨rfl,n,os,?_⟩;have e1:pdq (N9 F m) l.toArray 0 l.length (Lib.bitLen l.length) true true=(lU (N9 F m) l).toArray:=(by rw[bitLen_eq _ (by omega)];rfl);show grow (putRowK _ _ _ _ _ (pdq (N9 F m) l.toArray 0 l.length (Lib.bitLen l.length) true true)) os=_;rw[e1,<- hF];rfl
       ·intro k os dk hs x y;simp only[F.hp];refine hW _ _ _ _ _ _ _ _ (λ a c=>(EP F a c m).getD 0) ⟨bF,nF.s+0*1+0,none⟩ ⟨bA,nA.s+0*1+0,none⟩ bM I (λ X=>w.heap.size<=X.heap.size/\∀b',b'<w.heap.size->b'≠b->X.heap[b']? =w.heap[b']?) _ ?_ ?_ ?_
        ·rintro X ⟨j1,j2⟩;have hsame:Same I w X:=λb' hb'=>j2 b' (hM.lt b' hb') (hIb b' hb');refine⟨hM.vars.mono hsame (λ _ h=>h),λb' hb'=>Nat.lt_of_lt_of_le (hM.lt b' hb') j1,?_,?_,by omega,λW' a c hW'=>?_⟩
         ·simp only[World.cell?,j2 bF lt1 ne1,wd];simpa using US
         ·simp only[World.cell?,j2 bA lt2 ne2,we];simpa using UT
         ·exact ak0 hT hu gh hAr hor F m Pl W' (by rw[hW',j2 bM lt3 ne3,wc]) a c
        ·rintro X q os2 ⟨j1,j2⟩;refine⟨by simp only[grow,World.drewN,Array.size_append];omega,λb' h1 h2=>?_⟩;simp only[grow,World.drewN];rw[Array.getElem?_append_left (by omega)];exact j2 b' h1 h2
        ·refine⟨by simp[sortWorldK,grow,putRowK,putRow,mapBlock,Sort.ahead],λb' h1 h2=>?_⟩;simp only[sortWorldK,grow,putRowK,putRow,mapBlock,Sort.ahead];rw[Array.getElem?_append_left (by simpa using h1),Array.getElem?_modify,aU (Ne.symm h2)]
  rw[length_map]at main;have e0:bI (.eE (.st ip) l:bo X)=⟨4,aI (l.map (CT.row X.toSE (.st ip)))⟩:=by show(⟨CT.sz X (.st ip),_⟩:aP)=_;rw[hsz]
  have e1:bI (.eE (.st ip) (lU (N9 F m) l):bo X)=⟨4,aI ((lU (N9 F m) l).map (CT.row X.toSE (.st ip)))⟩:=by show(⟨CT.sz X (.st ip),_⟩:aP)=_;rw[hsz]
  rw[<- e0,<- e1]at main;exact main
theorem ajy{P:Program}{f:FuncId}{cs:List (CT X.ι)}{r:CT X.ι}{fn:je X (cs.map AT.d)->Option (CT.T X.toSE r)}(hc:Bm P f ⟨cs.map AT.d,[.d r],fn,none⟩)(q:HL X.toSE cs){x:CT.T X.toSE r}(hl:fn (hlA cs q)=some x):
 rK P f ((HL.oR X.toSE cs q).map TV.av) (.one (.d (CT.tv X.toSE r x))):=by have h1:=hc.2.1 (hlA cs q) x hl;have h2:=h1;rw[C9 (UX cs)]at h2;have h3:qu P f (wR (cs.map AT.d) (hlA cs q)) [] [] (.one (.d (CT.tv X.toSE r x))):=h2;have h4:=Ns h3;rw[wR,J5]at h4;exact h4
end
def xa:List Int->Int
 |[]=>0
 |x::r=>bif x==0 then xa r else x
def uj(l:List Int)(v1:Int):Option (Int⊕(Unit⊕Int)):=
 bif decide (v1<((l.length:Int):Int))then(bj l v1).bind λx1=>(bif (x1 !=(0:Int))then(some x1).map λa=>.inr (.inr a)else some (.inl (i64.wrap (v1+1))))else some (.inr (.inl ()))
theorem aeZ(a b c d e:Int):dn (iter (uj [a,b,c,d,e]) 10 (0:Int)) (λ ()=>some (0:Int))=some (xa [a,b,c,d,e]):=by
 have s:∀(i j x:Int),bj [a,b,c,d,e] i=some x->decide (i<5)=true->i64.wrap (i+1)=j->uj [a,b,c,d,e] i=if x=0 then some (.inl j)else some (.inr (.inr x)):=by
  intro i j x h1 h2 h3;have h2':decide (i<((([a,b,c,d,e]:List Int).length:Int):Int))=true:=h2;unfold uj;rw[h2',h1,h3];by_cases hx:x=0
  ·subst hx;rfl
  ·have hx':(x !=0)=true:=(by simpa using hx);rw[aU hx];simp[hx']
 by_cases ha:a=0
 case neg=>rw[dU (show uj [a,b,c,d,e] 0=some (.inr (.inr a))by rw[s 0 1 a rfl rfl (by decide),aU ha])];simp[dn,xa,beq_eq_false_iff_ne.2 ha]
 rw[fU (show uj [a,b,c,d,e] 0=some (.inl 1)by rw[s 0 1 a rfl rfl (by decide),aX ha])];by_cases hb:b=0
 case neg=>rw[dU (show uj [a,b,c,d,e] 1=some (.inr (.inr b))by rw[s 1 2 b rfl rfl (by decide),aU hb])];simp[dn,xa,beq_eq_false_iff_ne.2 hb,ha]
 rw[fU (show uj [a,b,c,d,e] 1=some (.inl 2)by rw[s 1 2 b rfl rfl (by decide),aX hb])];by_cases hc:c=0
 case neg=>rw[dU (show uj [a,b,c,d,e] 2=some (.inr (.inr c))by rw[s 2 3 c rfl rfl (by decide),aU hc])];simp[dn,xa,beq_eq_false_iff_ne.2 hc,ha,hb]
 rw[fU (show uj [a,b,c,d,e] 2=some (.inl 3)by rw[s 2 3 c rfl rfl (by decide),aX hc])];by_cases hd:d=0
 case neg=>rw[dU (show uj [a,b,c,d,e] 3=some (.inr (.inr d))by rw[s 3 4 d rfl rfl (by decide),aU hd])];simp[dn,xa,beq_eq_false_iff_ne.2 hd,ha,hb,hc]
 rw[fU (show uj [a,b,c,d,e] 3=some (.inl 4)by rw[s 3 4 d rfl rfl (by decide),aX hd])];by_cases he:e=0
 case neg=>rw[dU (show uj [a,b,c,d,e] 4=some (.inr (.inr e))by rw[s 4 5 e rfl rfl (by decide),aU he])];simp[dn,xa,beq_eq_false_iff_ne.2 he,ha,hb,hc,hd]
 rw[fU (show uj [a,b,c,d,e] 4=some (.inl 5)by rw[s 4 5 e rfl rfl (by decide),aX he])];rw[dU (show uj [a,b,c,d,e] 5=some (.inr (.inl ()))from rfl)];simp[dn,xa,ha,hb,hc,hd,he]
theorem arD(x y:Int):(bif (x !=(x:Int))then(bif (y !=(y:Int))then some (0:Int)else some ((-1):Int))else(bif (y !=(y:Int))then some (1:Int)else(bif (decide (x<(y:Int)))then some ((-1):Int)else(bif (decide (x>(y:Int)))then some (1:Int)else some (0:Int)))))=some (cI x y):=by
 have e1:(x !=x)=false:=by simp
 have e2:(y !=y)=false:=by simp
 rw[e1,e2];show(bif decide (x<y)then some (-1:Int)else bif decide (y<x)then some 1 else some 0)=_;unfold cI;cases decide (x<y)<;>cases decide (y<x)<;>rfl
def ue(x:Int):Tree:=.sc (.int .i64 x)
theorem aqr{P:Program}{FC FS CM OR:FuncId}{tm ti:TypeId}
 (hSz:∀(l u f n v:Int)(cA:Addr)(b:Nat)(W:World),b<W.heap.size->W.cell? cA=some (.map (some b))->(∀ W',W'.heap[b]? =W.heap[b]?->(Instr.lookup tm (.map (some b)) (.agg #[.int .i64 l,.int .i64 n]) false).run P W'=.ok (.int .i64 v) W')->
  Calls P FS #[.agg #[.int .i64 l,.int .i64 u,.int .i64 f,.int .i64 n],.pointer (some cA)] W λe w'=>e=.returned (.int .i64 (i64.wrap (f*v)))/\∃q os',w'=grow (W.drewN q) os')
 (ZD:∀(l1 u1 f1 n1 l2 u2 f2 n2:Int)(sz:Int->Int->Int->Int)(cf:Int->Int->Int)(Is:Int->Int->Int->Int->Int->Int)(cF cA:Addr)(I:World->Prop)(W:World),W.cell? cF=some (.func (.func FS) #[] #[.pointer (some cA)])->
  I W->(∀ W' q os,I W'->I (grow (W'.drewN q) os))->
  (∀ l u f n W',I W'->Calls P FS #[.agg #[.int .i64 l,.int .i64 u,.int .i64 f,.int .i64 n],.pointer (some cA)] W' λe w'=>e=.returned (.int .i64 (sz l f n))/\∃q os',w'=grow (W'.drewN q) os')->
  (∀ x y W',I W'->Calls P CM #[.int .i64 x,.int .i64 y] W' λe w'=>e=.returned (.int .i64 (cf x y))/\∃q os',w'=grow (W'.drewN q) os')->
  (∀ (g:Nat) (a b c d e:Int) W',I W'->W'.heap[g]? =some (.cells #[.int .i64 a,.int .i64 b,.int .i64 c,.int .i64 d,.int .i64 e] ti)->Calls P OR #[.slice (some ⟨g,0,none⟩) 5 5] W' λr w'=>r=.returned (.int .i64 (Is a b c d e))/\∃q os',w'=grow (W'.drewN q) os')->
  Calls P FC #[.agg #[.int .i64 l1,.int .i64 u1,.int .i64 f1,.int .i64 n1],.agg #[.int .i64 l2,.int .i64 u2,.int .i64 f2,.int .i64 n2],.pointer (some cF)] W λe w'=>
   e=.returned (.int .i64 (Is (cf (sz l1 f1 n1) (sz l2 f2 n2)) (cf f1 f2) (cf l1 l2) (cf u1 u2) (cf n1 n2)))/\∃q os',w'=grow (W.drewN q) os')
 (hC:∀x y:Int,rK P CM [.t (ue x),.t (ue y)] (.one (.d (.s (ue (cI x y))))))
 (hO:∀a b c d e:Int,rK P OR [.t (.sl [[ue a],[ue b],[ue c],[ue d],[ue e]])] (.one (.d (.s (ue (xa [a,b,c,d,e])))))):PbW P FC FS tm:=by
 intro l1 u1 f1 n1 l2 u2 f2 n2 ar cF cA bM I J W hJ hg hw;obtain⟨_,_,hF,_,_,_⟩:=hJ W hw;refine(ZD l1 u1 f1 n1 l2 u2 f2 n2 (λ l f n=>i64.wrap (f*ar l n)) cI (λ a b c d e=>xa [a,b,c,d,e]) cF cA J W hF hw hg (λ l u f n W' h=>?_) (λ x y W' h=>?_) (λ g a b c d e W' h hh=>?_)).mono λ_ _ h=>h
 ·obtain⟨_,_,_,h2,h3,h4⟩:=hJ W' h;exact hSz l u f n (ar l n) cA bM W' h3 h2 λW2 h5=>h4 W2 l n h5
 ·obtain⟨h1,h2,_⟩:=hJ W' h;refine(aa8 (hC x y) (vs:=#[.int .i64 x,.int .i64 y]) h2 h1 (by simp[bk,VR,TR,ue,oneCell])).mono ?_;rintro e w' ⟨⟨v,I',rfl,hv⟩,hq⟩;simp only[sX,TR,ue]at hv;exact⟨by rw[hv.1],hq⟩
 ·obtain⟨h1,h2,_⟩:=hJ W' h;have hlt:g<W'.heap.size:=(Array.getElem?_eq_some_iff.1 hh).1;refine(aa8 (hO a b c d e) (I:=λb=>I b\/b=g) (vs:=#[.slice (some ⟨g,0,none⟩) 5 5]) (λ b hb=>hb.elim (h2 b) λe=>e ▸ hlt) (h1.mono (λ _ _=>rfl) λ_ h=>.inl h) ?_).mono ?_
  ·simp only[bk,VR,TR];refine⟨.inr ⟨g,0,5,1,rfl,by simp,.inr rfl,?_⟩,trivial⟩;simp[cN,eK,TR,ue,World.cell?,hh,oneCell]
  ·rintro e w' ⟨⟨v,I',rfl,hv⟩,hq⟩;simp only[sX,TR,ue]at hv;exact⟨by rw[hv.1],hq⟩
end Go.Gb
namespace Go.Gb
open Go.RowKit
def Kp(n0 B0:Nat)(W W':World):Prop:=Below n0 W W'/\∀b,B0<=b->b<W.heap.size->W'.heap[b]? =W.heap[b]?
theorem Kp.refl(n0 B0:Nat)(W:World):Kp n0 B0 W W:=⟨Below.refl _ _,λ_ _ _=>rfl⟩
theorem Kp.trans{n0 B0:Nat}{X Y Z:World}(h:Kp n0 B0 X Y)(k:Kp n0 B0 Y Z):Kp n0 B0 X Z:=
 ⟨h.1.trans k.1,λb hb hl=>(k.2 b hb (Nat.lt_of_lt_of_le hl h.1.size)).trans (h.2 b hb hl)⟩
theorem Kp.mono{n0 n1 B0 B1:Nat}{X Y:World}(h:Kp n0 B0 X Y)(hn:n1<=n0)(hb:B0<=B1):Kp n1 B1 X Y:=
 ⟨h.1.mono hn,λb h1 h2=>h.2 b (Nat.le_trans hb h1) h2⟩
theorem Kp.alloc{n0 B0:Nat}{X Y:World}(h:Kp n0 B0 X Y)(hn:n0<=Y.heap.size)(o:Obj):Kp n0 B0 X (Y.alloc o):=
 h.trans ⟨(Below.refl _ Y).alloc hn o,λb _ hl=>Below.heap_alloc Y o b hl⟩
theorem Kp.put{n0 B0:Nat}(W:World)(l:Nat)(o o':Obj)(h:W.heap[l]? =some o)(h1:n0<=l)(h2:l<B0):Kp n0 B0 W (W.putObj l o'):=
 ⟨(Below.refl n0 W).grown (grownBy_putObj' W l o') (by have:=(Array.getElem?_eq_some_iff.1 h).1;omega) (λ k e=>by cases e;omega),λb hb _=>World.putObj_heap_other (by omega)⟩
def xe{α:Type}(B0:Nat)(J:α->World->Prop):Prop:=∀s A B,J s A->Below B0 A B->J s B
theorem xe.and{α:Type}{B0:Nat}{I J:α->World->Prop}(h:xe B0 I)(k:xe B0 J):xe B0 λs W=>I s W/\J s W:=λs A B hs hb=>⟨h s A B hs.1 hb,k s A B hs.2 hb⟩
theorem xe.mono{α:Type}{B0 B1:Nat}{J:α->World->Prop}(h:xe B0 J)(hb:B0<=B1):xe B1 J:=λs A B hs hk=>h s A B hs (hk.mono hb)
theorem aqs{α:Type}{n0 B0 B1:Nat}{w:World}(hw:w.heap.size<=B1)(hn:n0<=B1):xe B1 (λ (_:α) W=>Kp n0 B0 w W):=λ_ A B hs hb=>
 ⟨hs.1.trans (hb.mono hn),λb h1 h2=>(hb.block b (by omega)).trans (hs.2 b h1 h2)⟩
def aq5{α:Type}(P:Program)(g:Nat)(lb:Array Value)(encs:α->Array Value)(n0:Nat)(ys:List α)(N:World->Prop)(w:World):Prop:=
 ∀(n l B0 L:Nat)(J:List α->World->Prop)(W:World),Below w.heap.size w W->n0<=B0->B0<=W.heap.size->xe B0 J->(∀ s W,J s W->N W)->
  (∀ m pre x W1,x∈ys->pre.length<L->J pre W1->B0<=W1.heap.size->YieldAt Fence.wide m P l (encs x) W1 λe W'=>e=.returned (.bool true)/\J (pre++[x]) W'/\Kp n0 B0 W1 W')->∀pre,pre.length+ys.length<=L->J pre W->
  CallsIn Fence.wide n P g (#[.func (.yield l) #[] #[]]++lb) W λe W'=>(∃ v,e=.returned v)/\J (pre++ys) W'/\Kp n0 B0 W W'
variable {n:Nat} {P:Program}
theorem Dm{α:Type}{g:Operand}{ps:Array Tmp}{assign body:Code}{Q:Exit->Act->World->Prop}{a:Act}{w:World}
 {gf:Nat} {lb:Array Value} (hg:a.eval g=.func (.func gf) #[] lb) (eg:∀args w,(callFunc gf args).run P w=.ok (.enter gf args) w)
 {encs:α->Array Value} {n0:Nat} {ys:List α} {N:World->Prop} {w0:World} (hseq:aq5 P gf lb encs n0 ys N w0) (hb0:Below w0.heap.size w0 w) (hn0:n0<=w.heap.size) (hps:∀x,(encs x).size=ps.size)
 (I:List α->World->Prop) (hI:xe w.heap.size I) (hN:∀s W,I s W->N W) (h0:I [] w) (a₁:α->Act)
 (hassign:∀(l:Nat)(x:α)(W:World)(K:Act->World->Prop),K (a₁ x) W->
  assign.wpIn (Fence.wide.inRound l) (n-1-1) P (Exit.then K (λ _ _ _=>False)) { tmps:=(ps.zip (encs x)).foldl (λ t (p,v)=>t.setIfInBounds p v) a.tmps,defers:=[] } W)
 (hbody:∀(l:Nat)(pre:List α)(x:α)(W:World),x∈ys->pre.length<ys.length->I pre W->w.heap.size+2<=W.heap.size->body.wpIn (Fence.wide.inRound l) (n-1-1) P (λ e _ W'=>e=.normal/\I (pre++[x]) W'/\Kp n0 w.heap.size W W') (a₁ x) W)
 (hdone:∀(D:Nat)(W:World),w.heap.size<=D->I ys W->Below n0 w W->W.heap[D]? =some (.deferred (some []))->Q .normal { a with defers:={ target:=.collected D,args:=#[] }::a.defers } W):
 (Code.rangeFunc g ps assign body).wpIn Fence.wide n P Q a w:=by
 refine wpIn_rangeFunc ?_;intro fn hfn;show _;obtain⟨rec,hrec⟩:∃rec:LoopState->Option Code->Loop,rec=λst pe=>{ state:=st,pending:=pe,fn,tmps:=a.tmps,params:=ps,assign,body,defers:=w.heap.size }:=⟨_,rfl⟩;obtain⟨W1,hW1⟩:∃W1,(w.alloc (.deferred (some []))).alloc (.loop (rec .ready none))=W1:=⟨_,rfl⟩;have hL1:W1.heap[w.heap.size+1]? =some (.loop (rec .ready none)):=by rw[<- hW1];have:=World.alloc_heap_new (w.alloc (.deferred (some []))) (.loop (rec .ready none));rwa [World.size_alloc]at this
 have hK1:W1.heap[w.heap.size]? =some (.deferred (some [])):=by rw[<- hW1];exact(Below.heap_alloc _ _ _ (by simp)).trans (World.alloc_heap_new w _)
 have hs1:W1.heap.size=w.heap.size+2:=by rw[<- hW1];simp
 have hb1:Below w.heap.size w W1:=by rw[<- hW1];exact((Below.refl _ w).alloc (aB _) _).alloc (by simp) _
 have hI1:I [] W1:=hI _ _ _ h0 hb1
 refine⟨w.heap.size+1,[{ target:=.collected w.heap.size,args:=#[] }],W1,{ target:=.fn (.func gf) lb,args:=#[.func (.yield (w.heap.size+1)) #[] #[]] },W1,gf,
  #[.func (.yield (w.heap.size+1)) #[] #[]]++lb,W1,?_,?_,?_,?_,λh=>by simp[Fence.wide]at h,?_⟩
 ·rw[<- hW1,hrec];exact run_enterLoop_outer _ _ _ _ _
 ·simp only[resolve,hg];simp[go_sem]
 ·intro f' hf';trivial
 ·simp[invoke,go_sem,eg]
 ·refine(hseq (n-1) (w.heap.size+1) (w.heap.size+2) ys.length (λ pre W=>I pre W/\W.heap[w.heap.size+1]? =some (.loop (rec .ready none))/\W.heap[w.heap.size]? =some (.deferred (some []))) W1
   (hb0.trans (hb1.mono hb0.size)) (by omega) (by omega) (λ s A B hs hb=>⟨hI s A B hs.1 (hb.mono (by omega)),(hb.block _ (by omega)).trans hs.2.1,(hb.block _ (by omega)).trans hs.2.2⟩) (λ s W h=>hN s W h.1) ?_ [] (by simp) ⟨hI1,hL1,hK1⟩).mono ?_
  ·rintro m pre x W hxy hpl ⟨hi,hl,hk⟩ hsz;have hlt:w.heap.size+1<W.heap.size:=(Array.getElem?_eq_some_iff.1 hl).1;have hy:=run_yield (P:=P) (args:=encs x) hl (by rw[hrec];exact hps x);rw[hrec]at hy
   suffices h:YieldAt Fence.wide (n-1-1) P (w.heap.size+1) (encs x) W λe W'=>e=.returned (.bool true)/\(I (pre++[x]) W'/\W'.heap[w.heap.size+1]? =some (.loop (rec .ready none))/\W'.heap[w.heap.size]? =some (.deferred (some [])))/\Kp n0 (w.heap.size+2) W W' by obtain⟨f1,t1,c1,c2,h1,h2⟩:=h;exact⟨f1,t1,c1,c2,h1,h2.1,λc cs _=>h2.2 c cs (λ d h=>by simp[Fence.wide]at h)⟩
   refine⟨fn,_,assign,body,hy,roundIn_of_wpIn hfn (hassign _ x W _ ⟨_,run_beginRound hl (by rw[hrec]),?_⟩)⟩;have hl2:(W.putObj (w.heap.size+1) (.loop { rec .ready none with state:=.busy })).heap[w.heap.size+1]? =some (.loop { rec .ready none with state:=.busy }):=World.putObj_heap_same hlt;have hk2:(W.putObj (w.heap.size+1) (.loop { rec .ready none with state:=.busy })).heap[w.heap.size]? =some (.deferred (some [])):=(World.putObj_heap_other (by omega)).trans hk;have hw2:Kp n0 (w.heap.size+2) W (W.putObj (w.heap.size+1) (.loop { rec .ready none with state:=.busy })):=Kp.put _ _ _ _ hl (by omega) (by omega);have Cp:∀o,(W.putObj (w.heap.size+1) o).heap.size=W.heap.size:=λo=>(by simp[World.putObj]);have hbw:Below w.heap.size W (W.putObj (w.heap.size+1) (.loop { rec .ready none with state:=.busy })):=(Kp.put (n0:=w.heap.size) (B0:=w.heap.size+2) _ _ _ _ hl (by omega) (by omega)).1;refine wpIn_mono (hbody _ pre x _ hxy hpl (hI _ _ _ hi hbw) (by rw[Cp];omega)) ?_;rintro e a3 W3 ⟨rfl,hi3,hk3⟩;have hl3:=(hk3.2 (w.heap.size+1) (by omega) (by rw[Cp];omega)).trans hl2;have hd3:=(hk3.2 w.heap.size (aB _) (by rw[Cp];omega)).trans hk2;have hr:=run_endRound (P:=P) none hl3;rw[hrec]at hr;have CL:=hl3;rw[hrec]at CL;refine⟨_,_,hr,rfl,⟨hI _ _ _ hi3 (Kp.put (n0:=w.heap.size) (B0:=w.heap.size+2) _ _ _ _ CL (by omega) (by omega)).1,?_,(World.putObj_heap_other (by omega)).trans hd3⟩,?_⟩
   ·rw[hrec];exact World.putObj_heap_same (Array.getElem?_eq_some_iff.1 hl3).1
   ·exact hw2.trans ((hk3.mono (aB _) (by omega)).trans (Kp.put _ _ _ _ CL (by omega) (by omega)))
  ·rintro e W2 ⟨⟨v,rfl⟩,⟨hi,hl,hk⟩,hkp⟩;rw[gu]at hi;have he:=run_endLoop (P:=P) hl (by rw[hrec];simp);rw[hrec]at he;refine⟨none,_,he,hdone _ _ (aB _) (hI _ _ _ hi ?_) ?_ ((World.putObj_heap_other (by omega)).trans hk)⟩
   ·exact(Kp.put (n0:=w.heap.size) (B0:=w.heap.size+2) W2 _ _ _ hl (by omega) (by omega)).1
   ·exact((hb1.mono hn0).trans hkp.1).trans (Kp.put (n0:=n0) (B0:=w.heap.size+2) W2 _ _ _ hl (by omega) (by omega)).1
end Go.Gb
namespace Go.Proofs
open Go.RowKit Go.Maps Go.Sort Go.Shelf
def Tryz.keys71_ren:Go.Shelf.Ren:=⟨λ| 7=>71| 10=>110|n=>n,λ| 23=>118| 26=>9| 3=>4| 28=>172| 0=>0| 27=>171| 33=>181| 4=>4|n=>n,λ|n=>n⟩
theorem Tryz.keys71:Go.Proofs.SlLaysZ.n7 Tryz.prog Tryz.keys71_ren:={
 mixed:=by kernel_rfl
 f7:=⟨Tryz.f71.name,by decide,Tryz.func71.trans (congrArg some (by kernel_rfl))⟩
 f10:=⟨Tryz.f110.name,by decide,Tryz.func110.trans (congrArg some (by kernel_rfl))⟩
 t0:=Tryz.underlying0
 a0:=Tryz.isAgg0
 z0:=Tryz.sizeOf0
 v0:=Tryz.zeroValue0
 t4:=Tryz.underlying4
 a4:=Tryz.isAgg4
 z4:=Tryz.sizeOf4
 v4:=Tryz.zeroValue4
 t23:=Tryz.underlying118
 a23:=Tryz.isAgg118
 z23:=Tryz.sizeOf118
 v23:=Tryz.zeroValue118
 t26:=Tryz.underlying9
 a26:=Tryz.isAgg9
 z26:=Tryz.sizeOf9
 v26:=Tryz.zeroValue9
 t27:=Tryz.underlying171
 a27:=Tryz.isAgg171
 z27:=Tryz.sizeOf171
 v27:=Tryz.zeroValue171
 t28:=Tryz.underlying172
 a28:=Tryz.isAgg172
 z28:=Tryz.sizeOf172
 v28:=Tryz.zeroValue172
 t33:=Tryz.underlying181
 a33:=Tryz.isAgg181
 z33:=Tryz.sizeOf181
 v33:=Tryz.zeroValue181 }
def Tryz.sorted70_ren:Go.Shelf.Ren:=⟨λ| 6=>70| 8=>108| 9=>109| 11=>169| 13=>84| 12=>170| 23=>132| 24=>133| 14=>219| 15=>220| 16=>221| 17=>222| 18=>223| 19=>224| 20=>225| 21=>226| 22=>227| 25=>263| 26=>181| 27=>182| 28=>264| 29=>265| 30=>168| 31=>287|n=>n,λ| 26=>9| 28=>172| 24=>48| 0=>0| 3=>3| 37=>189| 48=>232| 50=>234| 4=>4| 40=>226| 39=>225| 45=>46| 5=>5| 9=>9| 51=>283| 55=>287| 57=>333| 58=>304| 33=>181|n=>n,λ|n=>n⟩
theorem Tryz.sorted70:Go.Proofs.SlLaysZ.n6 Tryz.prog Tryz.sorted70_ren:={
 mixed:=by kernel_rfl
 f6:=⟨Tryz.f70.name,by decide,Tryz.func70.trans (congrArg some (by kernel_rfl))⟩
 f8:=⟨Tryz.f108.name,by decide,Tryz.func108.trans (congrArg some (by kernel_rfl))⟩
 f11:=⟨Tryz.f169.name,by decide,Tryz.func169.trans (congrArg some (by kernel_rfl))⟩
 t0:=Tryz.underlying0
 a0:=Tryz.isAgg0
 z0:=Tryz.sizeOf0
 v0:=Tryz.zeroValue0
 t24:=Tryz.underlying48
 a24:=Tryz.isAgg48
 z24:=Tryz.sizeOf48
 v24:=Tryz.zeroValue48
 t26:=Tryz.underlying9
 a26:=Tryz.isAgg9
 z26:=Tryz.sizeOf9
 v26:=Tryz.zeroValue9
 t28:=Tryz.underlying172
 a28:=Tryz.isAgg172
 z28:=Tryz.sizeOf172
 v28:=Tryz.zeroValue172
 i26:=by kernel_rfl }
def Tryz.sort109_ren:Go.Shelf.Ren:=⟨λ| 6=>109| 8=>84| 9=>170| 19=>132| 20=>133| 21=>219| 22=>220| 23=>221| 24=>222| 25=>223| 26=>224| 27=>225| 28=>226| 29=>227| 36=>263| 31=>181| 32=>182| 37=>264| 38=>265| 39=>168| 41=>287|n=>n,λ| 27=>48| 29=>9| 3=>3| 32=>189| 26=>48| 0=>0| 44=>232| 46=>234| 4=>4| 36=>226| 35=>225| 41=>46| 5=>5| 9=>9| 53=>283| 57=>287| 63=>333| 64=>304|n=>n,λ|n=>n⟩
theorem Tryz.sort109:Go.Proofs.SlLaysM.n6 Tryz.prog Tryz.sort109_ren:={
 mixed:=by kernel_rfl
 f6:=⟨Tryz.f109.name,by decide,Tryz.func109.trans (congrArg some (by kernel_rfl))⟩
 f8:=Tryz.func84.trans (congrArg some (by kernel_rfl))
 f9:=⟨Tryz.f170.name,by decide,Tryz.func170.trans (congrArg some (by kernel_rfl))⟩
 f19:=Tryz.func132.trans (congrArg some (by kernel_rfl))
 f20:=Tryz.func133.trans (congrArg some (by kernel_rfl))
 f21:=⟨Tryz.f219.name,by decide,Tryz.func219.trans (congrArg some (by kernel_rfl))⟩
 f22:=⟨Tryz.f220.name,by decide,Tryz.func220.trans (congrArg some (by kernel_rfl))⟩
 f23:=⟨Tryz.f221.name,by decide,Tryz.func221.trans (congrArg some (by kernel_rfl))⟩
 f24:=⟨Tryz.f222.name,by decide,Tryz.func222.trans (congrArg some (by kernel_rfl))⟩
 f25:=⟨Tryz.f223.name,by decide,Tryz.func223.trans (congrArg some (by kernel_rfl))⟩
 f26:=⟨Tryz.f224.name,by decide,Tryz.func224.trans (congrArg some (by kernel_rfl))⟩
 f27:=⟨Tryz.f225.name,by decide,Tryz.func225.trans (congrArg some (by kernel_rfl))⟩
 f28:=⟨Tryz.f226.name,by decide,Tryz.func226.trans (congrArg some (by kernel_rfl))⟩
 f29:=⟨Tryz.f227.name,by decide,Tryz.func227.trans (congrArg some (by kernel_rfl))⟩
 f31:=Tryz.func181.trans (congrArg some (by kernel_rfl))
 f32:=Tryz.func182.trans (congrArg some (by kernel_rfl))
 f36:=⟨Tryz.f263.name,by decide,Tryz.func263.trans (congrArg some (by kernel_rfl))⟩
 f37:=⟨Tryz.f264.name,by decide,Tryz.func264.trans (congrArg some (by kernel_rfl))⟩
 f38:=⟨Tryz.f265.name,by decide,Tryz.func265.trans (congrArg some (by kernel_rfl))⟩
 f39:=⟨Tryz.f168.name,by decide,Tryz.func168.trans (congrArg some (by kernel_rfl))⟩
 f41:=⟨Tryz.f287.name,by decide,Tryz.func287.trans (congrArg some (by kernel_rfl))⟩
 t0:=Tryz.underlying0
 a0:=Tryz.isAgg0
 z0:=Tryz.sizeOf0
 v0:=Tryz.zeroValue0
 t3:=Tryz.underlying3
 a3:=Tryz.isAgg3
 z3:=Tryz.sizeOf3
 v3:=Tryz.zeroValue3
 t4:=Tryz.underlying4
 a4:=Tryz.isAgg4
 z4:=Tryz.sizeOf4
 v4:=Tryz.zeroValue4
 t5:=Tryz.underlying5
 a5:=Tryz.isAgg5
 z5:=Tryz.sizeOf5
 v5:=Tryz.zeroValue5
 t9:=Tryz.underlying9
 a9:=Tryz.isAgg9
 z9:=Tryz.sizeOf9
 v9:=Tryz.zeroValue9
 t26:=Tryz.underlying48
 a26:=Tryz.isAgg48
 z26:=Tryz.sizeOf48
 v26:=Tryz.zeroValue48
 t27:=Tryz.underlying48
 a27:=Tryz.isAgg48
 z27:=Tryz.sizeOf48
 v27:=Tryz.zeroValue48
 t29:=Tryz.underlying9
 a29:=Tryz.isAgg9
 z29:=Tryz.sizeOf9
 v29:=Tryz.zeroValue9
 t32:=Tryz.underlying189
 a32:=Tryz.isAgg189
 z32:=Tryz.sizeOf189
 v32:=Tryz.zeroValue189
 t35:=Tryz.underlying225
 a35:=Tryz.isAgg225
 z35:=Tryz.sizeOf225
 v35:=Tryz.zeroValue225
 t36:=Tryz.underlying226
 a36:=Tryz.isAgg226
 z36:=Tryz.sizeOf226
 v36:=Tryz.zeroValue226
 t41:=Tryz.underlying46
 a41:=Tryz.isAgg46
 z41:=Tryz.sizeOf46
 v41:=Tryz.zeroValue46
 t44:=Tryz.underlying232
 a44:=Tryz.isAgg232
 z44:=Tryz.sizeOf232
 v44:=Tryz.zeroValue232
 t46:=Tryz.underlying234
 a46:=Tryz.isAgg234
 z46:=Tryz.sizeOf234
 v46:=Tryz.zeroValue234
 t53:=Tryz.underlying283
 a53:=Tryz.isAgg283
 z53:=Tryz.sizeOf283
 v53:=Tryz.zeroValue283
 t57:=Tryz.underlying287
 a57:=Tryz.isAgg287
 z57:=Tryz.sizeOf287
 v57:=Tryz.zeroValue287
 t63:=Tryz.underlying333
 a63:=Tryz.isAgg333
 z63:=Tryz.sizeOf333
 v63:=Tryz.zeroValue333
 t64:=Tryz.underlying304
 a64:=Tryz.isAgg304
 z64:=Tryz.sizeOf304
 v64:=Tryz.zeroValue304 }
theorem Tryz.sorts70(m:Nat):AnyZ.SortsIn Tryz.prog Tryz.sorted70_ren Fence.wide m:=
 ⟨λ blk aa cap ss W hH hblk hsz=>callsIn_wide.2 (AnyM.slices_Sort_string Tryz.sort109 blk aa cap ss W hH hblk hsz),
  λp cap W=>callsIn_wide.2 (AnyM.slices_Sort_string_none Tryz.sort109 p cap W)⟩
theorem Tryz.maps_Keys_71(mb:Option Nat)(W:World):CallsIn Fence.wide 5 Tryz.prog 71 #[.map mb] W λe w'=>e=.returned (.func (.func 110) #[] #[.pointer (some ⟨W.heap.size,0,none⟩)])/\w'=W.alloc (.cells #[.map mb] 118):=
 AnyZ.keys_in Tryz.keys71 Fence.wide 5 trivial rfl mb W
set_option maxHeartbeats 1000000 in
theorem Tryz.slices_Sorted_keys_70_71{H:Type}(b nn:Nat)(D0:DataW H)(R:Value->Option (DataW H×List MemPlace))(w:World)(hown:w.ownsMap Tryz.prog 9 R b nn D0)(hmax:Maps.size D0<=maxLen)(hbytes:Maps.size D0*16<=140737488355328):
 CallsIn Fence.wide 5 Tryz.prog 70 #[.func (.func 110) #[] #[.pointer (some ⟨w.heap.size,0,none⟩)]] (w.alloc (.cells #[.map (some b)] 118)) λe w'=>∃(v:Value)(ss:List (List UInt8)),e=.returned v/\ss.Perm (strKeys D0)/\
  w'.ownsRow (w.alloc (.cells #[.map (some b)] 118)).heap.size 9 1 v ss.length ((ss.mergeSort (λ x y=>decide (x<=y))).map encStr)/\(v=.slice none 0 0↔ss=[])/\Below (w.alloc (.cells #[.map (some b)] 118)).heap.size (w.alloc (.cells #[.map (some b)] 118)) w':=by
 have hbl:=hown.lt;have hseq:SeqGives Fence.wide 2 Tryz.prog 110 #[.pointer (some ⟨w.heap.size,0,none⟩)] encStr (λ ss=>ss.Perm (strKeys D0)) (Maps.size D0) (w.alloc (.cells #[.map (some b)] 118)):=
  AnyZ.keys_gives (ρ:=Tryz.keys71_ren) { Tryz.keys71 with } Fence.wide _ trivial rfl (by omega) w.heap.size b nn D0 _ (by simp) (by simp) (by obtain⟨es,clock,hb,Ft,hs,hD⟩:=hown;exact⟨es,clock,(Below.heap_alloc _ _ b hbl).trans hb,Ft,hs,hD⟩)
 exact AnyZ.sorted_in Tryz.sorted70 Fence.wide 5 trivial trivial trivial trivial rfl (by omega) (Tryz.sorts70 _) (enters_of Tryz.func109 (by kernel_rfl) rfl) 110 #[.pointer (some ⟨w.heap.size,0,none⟩)] trivial (enters_of Tryz.func110 (by kernel_rfl) rfl) _ _ hmax hbytes _ hseq
end Go.Proofs
namespace Go.Proofs
open Go.RowKit Go.Shelf Go.Gb Go.Maps Go.Sort
attribute [local go_sem] Oper.semAt_some
set_option maxHeartbeats 1000000 in
theorem ae0(n:Nat)(v0 v1 v2 v3 v4:Value)(w:World):
 CallsIn Fence.wide n Tryz.prog 69 #[.agg #[v0,v1,v2,v3,v4]] w λe w'=>e=.returned (.func (.func 107) #[] #[.pointer (some ⟨w.heap.size,0,none⟩)])/\w'=w.alloc (.cells #[v0,v1,v2,v3,v4] 60):=by
 have hro:Fence.wide.round=none:=rfl;refine callsIn_of_wp Tryz.func69 rfl trivial ?_ hro;simp only[Tryz.ntmps69,List.size_toArray,dX,length_nil,Nat.reduceAdd,Nat.reduceSub,Array.replicate_succ,Array.replicate_zero,List.push_toArray,List.append_toArray,gu,cons_append]
 gi_wp2
 go_ret
 exact⟨rfl,rfl⟩
def amW(D:Nat):Deferred:={ target:=.collected D,args:=#[] }
theorem Oa{P:Program}{fn:Func}{tmps:Array Value}{n:Nat}{R:Ending->World->Prop}:∀(Ds:List Nat)(W:World),Ds.Nodup->(∀ D∈Ds,W.heap[D]? =some (.deferred (some [])))->
 (∀ W',(∀ B,(∀ D∈Ds,B<=D)->Below B W W')->LeavesIn Fence.wide n P fn tmps R [] .returning W')->LeavesInM Fence.wide n P fn tmps R (Ds.map amW) .returning W
 |[],W,_,_,h=>h W λ_ _=>Below.refl _ _
 |D::Ds,W,hn,hd,h=>by
  simp only[List.nodup_cons]at hn;have hD:=hd D (by simp);refine⟨by simp,.inl ⟨D,_,rfl,run_takeDeferred hD,Oa Ds _ hn.2 (λ D' hD'=>?_) λW' hW'=>h W' λB hB=>?_⟩⟩
  ·rw[World.putObj_heap_other (by rintro rfl;exact hn.1 hD')];exact hd D' (by simp[hD'])
  ·have h1:=hB D (by simp);exact(Kp.put (n0:=B) (B0:=D+1) W D _ _ hD h1 (by omega)).1.trans (hW' B λD' h'=>hB D' (by simp[h']))
noncomputable def aq6:Code->Code
 |.seq _ b=>b
 |c=>c
structure aqt(p:Prop):Prop where
 h:p
theorem Ml{F:Fence}{n:Nat}{P:Program}{Q:Exit->Act->World->Prop}{a:Act}{w:World}{x y:Code}(h:∀K:Act->World->Prop,(∀ a w,aqt (y.wpIn F n P Q a w)->K a w)->x.wpIn F n P (Exit.then K Q) a w):(Code.seq x y).wpIn F n P Q a w:=wpIn_seq_k λK hK=>h K λa w h=>hK a w h.h
noncomputable abbrev BW:Code:=aq6 (aq6 (Tryz.f107.body.getD .skip))
set_option maxRecDepth 100000 in
set_option maxHeartbeats 4000000 in
theorem amX:∀(k:Nat)(t:ET),SizeOf.sizeOf t<=k->∀(n0 Bx:Nat)(v0 v1 v2 v3 v4:Value)(w:World),n0<=Bx->Bx<w.heap.size->mz n0 w t [v0,v1,v2,v3,v4]->
 aq5 Tryz.prog 107 #[.pointer (some ⟨Bx,0,none⟩)] (λ s:ByteArray=>#[.string s]) n0 t.names (λ W=>W.heap[Bx]? =some (.cells #[v0,v1,v2,v3,v4] 60)) w
 | 0,.mk op s args,hk=>by simp at hk
 |k+1,.mk op s args,hk=>by
  intro n0 Bx v0 v1 v2 v3 v4 w hnB hBw hE n l B0 L J W hW hn0 hB0 hJ hN hY pre hpL hJ0;have hro:Fence.wide.round=none:=rfl;simp only[mz,List.cons.injEq,and_true]at hE;obtain⟨nn,key,sl,⟨⟨rfl,rfl,rfl,rfl,rfl⟩,hlen,hssz⟩,KB⟩:=hE;have hbx:=hN _ _ hJ0;have hB1:Below B0 W (W.alloc (.cells #[.func (.yield l) #[] #[]] 181)):=(Below.refl _ W).alloc hB0 _;have ZS:Bx<W.heap.size:=(Array.getElem?_eq_some_iff.1 hbx).1;have Ks:(W.alloc (.cells #[.func (.yield l) #[] #[]] 181)).heap[Bx]? =_:=(Below.heap_alloc W _ Bx ZS).trans hbx;have c0:(W.alloc (.cells #[.func (.yield l) #[] #[]] 181)).cell? ⟨Bx,0,none⟩=some (.int .i64 op):=by simp[World.cell?,Ks]
  have c2:(W.alloc (.cells #[.func (.yield l) #[] #[]] 181)).cell? ⟨Bx,2,none⟩=some (.string s):=by simp[World.cell?,Ks]
  have bY:=Boxed.new W 181 (.func (.yield l) #[] #[]);have cY:=bY.cell;have hk1:Kp n0 B0 W (W.alloc (.cells #[.func (.yield l) #[] #[]] 181)):=(Kp.refl _ _ _).alloc (by omega) _
  have ae:∀(hd:List ByteArray)(Wb:World)(g6 g7 g8 g9 g10 g11 g12 g13 g14:Value),(if op=1 then [s]else [])=hd->J (pre++hd) Wb->Kp n0 B0 W Wb->Boxed Wb W.heap.size 181 (.func (.yield l) #[] #[])->
   BW.wpIn Fence.wide n Tryz.prog (bodyPostM Fence.wide n Tryz.prog Tryz.f107 λe W'=>(∃ v,e=Ending.returned v)/\J (pre++(ET.mk op s args).names) W'/\Kp n0 B0 W W')
    { tmps:=#[.func (.yield l) #[] #[],.pointer (some ⟨Bx,0,none⟩),.pointer (some ⟨W.heap.size,0,none⟩),undef,undef,undef,g6,g7,g8,g9,g10,g11,g12,g13,g14,.bool false,undef,undef,undef,undef,undef,undef,undef,undef,undef,undef,undef,undef,undef,undef,undef],defers:=[] } Wb:=by
   intro hd Wb g6 g7 g8 g9 g10 g11 g12 g13 g14 hhd hJb hkb bYb;have W0:=hN _ _ hJb;have c4:Wb.cell? ⟨Bx,4,none⟩=some v4:=(by simp[World.cell?,W0]);obtain⟨sa,sc,rfl⟩:∃sa sc,v4=.slice sa args.length sc:=by
    rcases KB with ⟨rfl,a,cap,rfl⟩|⟨b,aa,cap,rfl,_⟩
    ·exact⟨_,_,rfl⟩
    ·exact⟨_,_,rfl⟩
   refine Ml λK hK=>?_
   gi_wp2
   refine⟨wpIn_block (wpIn_loop (λ a' W'=>∃(i:Nat) (Ds:List Nat) (g4 g5 g16 g20 g21 g22 g23 g24 g25 g26 g27 g28 g29 Z3:Value),i<=args.length/\
    a'={ tmps:=#[.func (.yield l) #[] #[],.pointer (some ⟨Bx,0,none⟩),.pointer (some ⟨W.heap.size,0,none⟩),undef,g4,g5,g6,g7,g8,g9,g10,g11,g12,g13,g14,.bool false,g16,.slice sa args.length sc,.int .i64 args.length,.int .i64 i,g20,g21,g22,g23,g24,g25,g26,g27,g28,g29,Z3],defers:=Ds.map amW }/\
    Ds.Nodup/\(∀ D∈Ds,W.heap.size<=D/\W'.heap[D]? =some (.deferred (some [])))/\J (pre++hd++ET.ej (args.take i)) W'/\Kp n0 B0 W W'/\Boxed W' W.heap.size 181 (.func (.yield l) #[] #[]))
    (λ a' _=>args.length-(intOf (a'.tmps.getD 19 undef)).toNat)
    ⟨0,[],_,_,_,_,_,_,_,_,_,_,_,_,_,_,Nat.zero_le _,rfl,List.nodup_nil,by simp,by simpa[ET.ej]using hJb,hkb,bYb⟩ ?_)⟩
   rintro a' W' ⟨i,Ds,g4,g5,g16,g20,g21,g22,g23,g24,g25,g26,g27,g28,g29,Z3,hi,rfl,hnd,hDs,Xs,hki,bYi⟩;by_cases hlt:i<args.length
   ·rcases KB with ⟨h0,_⟩|⟨b,aa,cap,he,hb,hs⟩
    ·rw[h0]at hlt;exact absurd hlt (Nat.not_lt_zero _)
    simp only[Value.slice.injEq,true_and]at he;obtain⟨rfl,rfl⟩:=he;have hwi:Below n0 w W':=(hW.mono (by omega)).trans hki.1;obtain⟨ti,hti⟩:∃ti,args[i]? =some ti:=⟨_,dI hlt⟩;obtain⟨vs,q,X2⟩:=(i6.below hwi args b aa hb hs).get hti;obtain⟨u0,u1,u2,u3,u4,rfl,hone⟩:∃u0 u1 u2 u3 u4,vs=[u0,u1,u2,u3,u4]/\(#[u0,u1,u2,u3,u4]:Array Value).all (·.oneCell')=true:=(by cases ti;simp only[mz]at X2;obtain⟨n',key',sl',⟨h,_⟩,h'⟩:=X2;refine⟨_,_,_,_,_,h,?_⟩;rcases h' with ⟨_,_,_,rfl⟩|⟨_,_,_,rfl,_⟩<;>simp[Value.oneCell']);have o0:=λz1 z2 z3 z4=>dQ Tryz.prog W' #[.int .i64 0,z1,z2,z3,z4] 60 0 u0 (by simp) (by simpa using (Array.all_eq_true.1 hone) 0 (by simp));have o1:=λz2 z3 z4=>dQ Tryz.prog W' #[u0,.int .i64 0,z2,z3,z4] 60 1 u1 (by simp) (by simpa using (Array.all_eq_true.1 hone) 1 (by simp));have o2:=λz3 z4=>dQ Tryz.prog W' #[u0,u1,.string { data:=#[] },z3,z4] 60 2 u2 (by simp) (by simpa using (Array.all_eq_true.1 hone) 2 (by simp));have o3:=λz4=>dQ Tryz.prog W' #[u0,u1,u2,.string { data:=#[] },z4] 60 3 u3 (by simp) (by simpa using (Array.all_eq_true.1 hone) 3 (by simp));have o4:=dQ Tryz.prog W' #[u0,u1,u2,u3,.slice none 0 0] 60 4 u4 (by simp) (by simpa using (Array.all_eq_true.1 hone) 4 (by simp));simp only[List.set_toArray,List.set]at o0 o1 o2 o3 o4;have hn:=World.alloc_heap_new W' (.cells #[u0,u1,u2,u3,u4] 60);have r0:(W'.alloc (.cells #[u0,u1,u2,u3,u4] 60)).cell? ⟨W'.heap.size,0,none⟩=some u0:=(by simp only[World.cell?,hn];rfl);have r1:(W'.alloc (.cells #[u0,u1,u2,u3,u4] 60)).cell? ⟨W'.heap.size,1,none⟩=some u1:=(by simp only[World.cell?,hn];rfl);have r2:(W'.alloc (.cells #[u0,u1,u2,u3,u4] 60)).cell? ⟨W'.heap.size,2,none⟩=some u2:=(by simp only[World.cell?,hn];rfl);have r3:(W'.alloc (.cells #[u0,u1,u2,u3,u4] 60)).cell? ⟨W'.heap.size,3,none⟩=some u3:=(by simp only[World.cell?,hn];rfl);have r4:(W'.alloc (.cells #[u0,u1,u2,u3,u4] 60)).cell? ⟨W'.heap.size,4,none⟩=some u4:=(by simp only[World.cell?,hn];rfl);have q0:W'.cell? ⟨b,aa+i*5,none⟩=some u0:=q 0 _ rfl;have q1:W'.cell? ⟨b,aa+i*5+1,none⟩=some u1:=q 1 _ rfl;have q2:W'.cell? ⟨b,aa+i*5+2,none⟩=some u2:=q 2 _ rfl;have q3:W'.cell? ⟨b,aa+i*5+3,none⟩=some u3:=q 3 _ rfl;have q4:W'.cell? ⟨b,aa+i*5+4,none⟩=some u4:=q 4 _ rfl
    gi_wp2_with (refine ⟨trivial,λh=>by simp[Fence.wide]at h,?_⟩;refine(ae0 (n-1) u0 u1 u2 u3 u4 _).mono ?_;rintro e w' ⟨rfl,rfl⟩)
    have UP:SizeOf.sizeOf ti<=k:=(by have h1:=List.sizeOf_lt_of_mem (dh hti);simp only[ET.mk.sizeOf_spec]at hk;omega);obtain⟨Wd,hWd⟩:∃Wd,(W'.alloc (.cells #[u0,u1,u2,u3,u4] 60)).alloc (.cells #[u0,u1,u2,u3,u4] 60)=Wd:=⟨_,rfl⟩;have hsd:Wd.heap.size=W'.heap.size+2:=(by rw[<- hWd];simp);have hWsz:W.heap.size<=W'.heap.size:=hki.1.size;have hkd:Kp n0 B0 W' Wd:=(by rw[<- hWd];exact((Kp.refl _ _ _).alloc (by omega) _).alloc (by simp;omega) _);have hbd:Below W'.heap.size W' Wd:=(by rw[<- hWd];exact((Below.refl _ _).alloc (aB _) _).alloc (by simp) _);have hxd:Wd.heap[W'.heap.size+1]? =some (.cells #[u0,u1,u2,u3,u4] 60):=by
     rw[<- hWd];have:=World.alloc_heap_new (W'.alloc (.cells #[u0,u1,u2,u3,u4] 60)) (.cells #[u0,u1,u2,u3,u4] 60)
     rwa [World.size_alloc]at this
    rw[hWd];have hDl:∀D∈Ds,D<W'.heap.size:=λD hD=>(Array.getElem?_eq_some_iff.1 (hDs D hD).2).1
    refine Dm (gf:=107) (lb:=#[.pointer (some ⟨W'.heap.size+1,0,none⟩)]) rfl (enters_of Tryz.func107 (by kernel_rfl) rfl)
     (amX k ti UP n0 (W'.heap.size+1) u0 u1 u2 u3 u4 Wd (by omega) (by omega) (X2.below' (hbd.mono (by omega)))) (Below.refl _ _) (by omega) (λ _=>rfl)
     (λ q X=>(J (pre++hd++ET.ej (args.take i)++q) X/\Kp n0 B0 W X)/\(Boxed X W.heap.size 181 (.func (.yield l) #[] #[])/\(∀ D∈Ds,X.heap[D]? =some (.deferred (some []))))/\X.heap[W'.heap.size+1]? =some (.cells #[u0,u1,u2,u3,u4] 60))
     (λ s A B hs hb=>⟨⟨hJ _ _ _ hs.1.1 (hb.mono (by omega)),aqs (α:=Unit) (B1:=Wd.heap.size) (by omega) (by omega) () A B hs.1.2 hb⟩,
      ⟨(hb.block _ (by omega)).trans hs.2.1.1,λD hD=>(hb.block _ (by have:=hDl D hD;omega)).trans (hs.2.1.2 D hD)⟩,(hb.block _ (by omega)).trans hs.2.2⟩)
     (λ s X hs=>hs.2.2)
     ⟨⟨by simpa using hJ _ _ _ Xs (hbd.mono (by omega)),hki.trans hkd⟩,⟨(hbd.block _ (by have:=bYi.lt;omega)).trans bYi,λD hD=>(hbd.block _ (hDl D hD)).trans (hDs D hD).2⟩,hxd⟩
     (λ x=>{ tmps:=#[.func (.yield l) #[] #[],.pointer (some ⟨Bx,0,none⟩),.pointer (some ⟨W.heap.size,0,none⟩),undef,.pointer (some ⟨W'.heap.size,0,none⟩),.string x,g6,g7,g8,g9,g10,g11,g12,g13,g14,.bool false,g16,.slice (some ⟨b,aa,none⟩) args.length sc,.int .i64 args.length,.int .i64 i,.bool true,.pointer (some ⟨b,aa+i*5,none⟩),.agg #[u0,u1,u2,u3,u4],.agg #[u0,u1,u2,u3,u4],.func (.func 107) #[] #[.pointer (some ⟨W'.heap.size+1,0,none⟩)],.string x,g26,g27,g28,g29,Z3],defers:=[] })
     ?assign ?body ?done
    case assign=>
     intro l2 x X K hK
     gi_wp2
     exact hK
    case body=>
     rintro l2 q x X hxm z6 ⟨⟨hJx,hkx⟩,⟨Mm,Ys⟩,hxx⟩ hsx;have cYx:=Mm.cell;obtain⟨fn,tmps,assign,body,hy,hR⟩:=hY (n-1-1-1) (pre++hd++ET.ej (args.take i)++q) x X (ET.rm hti hxm) (by have:=ET.uk args (i+1);rw[ET.oa args i hti]at this;simp only[ET.names,hhd,fP]at this hpL ⊢;omega) hJx (by omega)
     gi_wp2
     have hR':RoundIn (Fence.wide.inRound l2) (n-1-1-1) Tryz.prog l fn tmps assign body X _:=hR;refine⟨λ h=>by simp[Fence.wide]at h,hR'.mono ?_⟩;rintro e X3 ⟨rfl,hJ3,hk3⟩
     gi_wp2
     have hbig:∀c,B0<=c->c<X.heap.size->X3.heap[c]? =X.heap[c]? :=hk3.2;exact⟨⟨⟨by simpa[aM]using hJ3,hkx.trans hk3⟩,⟨(hbig _ hB0 (by have:=Mm.lt;omega)).trans Mm,λD hD=>(hbig _ (by have:=(hDs D hD).1;omega) (by have:=hDl D hD;omega)).trans (Ys D hD)⟩,(hbig _ (by omega) (by omega)).trans hxx⟩,hk3.mono (aB _) (by omega)⟩
    case done=>
     rintro D X hD ⟨⟨hJx,hkx⟩,⟨Mm,Ys⟩,hxx⟩ hbx' G4
     gi_wp2
     refine⟨⟨i+1,D::Ds,_,_,_,_,_,_,_,_,_,_,_,_,_,_,by omega,rfl,List.nodup_cons.2 ⟨λ hm=>by have:=hDl D hm;omega,hnd⟩,?_,?_,hkx,Mm⟩,?_⟩
     ·intro D' hD';rcases aR.1 hD' with rfl|h
      ·exact⟨by omega,G4⟩
      ·exact⟨(hDs D' h).1,Ys D' h⟩
     ·rw[ET.oa args i hti,<- aM];exact hJx
     ·show args.length-(intOf (.int .i64 ((i:Int)+1))).toNat<args.length-(intOf (.int .i64 (i:Int))).toNat;simp only[intOf];omega
   ·gi_wp2
    have hsame:args.take i=args:=List.take_of_length_le (by omega);rw[hsame]at Xs;refine Oa Ds W' hnd (λ D hD=>(hDs D hD).2) λW'' W7=>?_;have h1:=W7 W.heap.size λD hD=>(hDs D hD).1;refine⟨_,results_none rfl _ _ _,⟨_,rfl⟩,hJ _ _ _ (by simpa[ET.names,hhd,aM]using Xs) (h1.mono hB0),hki.1.trans (h1.mono (by omega)),λb hb hl=>(h1.block b hl).trans (hki.2 b hb hl)⟩
  refine callsIn_of_wp_marks Tryz.func107 rfl trivial ?_ hro;simp only[Tryz.ntmps107,List.size_toArray,dX,length_nil,Nat.reduceAdd,Nat.reduceSub,Array.replicate_succ,Array.replicate_zero,List.push_toArray,List.append_toArray,gu,cons_append];refine Ml λK1 hK1=>?_
  gi_wp2
  refine⟨Ml λK2 hK2=>?_⟩;by_cases hop:op=1
  ·subst hop;obtain⟨fn,tmps,assign,body,hy,hR⟩:=hY (n-1) pre s (W.alloc (.cells #[.func (.yield l) #[] #[]] 181)) (by simp[ET.names]) (by simp[ET.names]at hpL;omega) (hJ _ _ _ hJ0 hB1) (by simp;omega)
   gi_wp2
   refine⟨λ h=>by simp[Fence.wide]at h,hR.mono ?_⟩;rintro e W3 ⟨rfl,hJ3,hk3⟩
   gi_wp2
   exact⟨ae [s] W3 _ _ _ _ _ _ _ _ _ rfl hJ3 (hk1.trans hk3) ((hk3.2 _ hB0 (by simp)).trans bY)⟩
  ·gi_wp2
   refine⟨λ _ h=>(by cases h),?_⟩
   gi_wp2
   exact⟨ae [] _ _ _ _ _ _ _ _ _ _ (by simp[hop]) (by simpa using hJ _ _ _ hJ0 hB1) hk1 bY⟩
theorem aqu(s:ByteArray)(h:s.size<=maxLen):keyOf Tryz.prog 9 (.string s)=some (.string s.data.toList):=by rw[keyOf_string Tryz.underlying9];simp[mapKey,Tryz.underlying9,h]
set_option maxRecDepth 100000 in
set_option maxHeartbeats 4000000 in
theorem ae1(_:Nat)(t:ET)(v0 v1 v2 v3 v4:Value)(w:World)(hE:mz w.heap.size w t [v0,v1,v2,v3,v4])(hlen:t.names.length<=1000000000000):
 CallsIn Fence.wide 6 Tryz.prog 40 #[.agg #[v0,v1,v2,v3,v4]] w λe W'=>∃v,e=.returned v/\W'.ownsRow w.heap.size 9 1 v (qI t.names).length ((qI t.names).map encStr)/\Below w.heap.size w W':=by
 have hro:Fence.wide.round=none:=rfl;have hmm:=@run_makeMap Tryz.prog;refine callsIn_of_wp_marks Tryz.func40 rfl trivial ?_ hro;simp only[Tryz.ntmps40,List.size_toArray,dX,length_nil,Nat.reduceAdd,Nat.reduceSub,Array.replicate_succ,Array.replicate_zero,List.push_toArray,List.append_toArray,gu,cons_append]
 gi_wp2_with (refine ⟨trivial,?_⟩;refine(ae0 5 v0 v1 v2 v3 v4 _).mono ?_;rintro e w' ⟨rfl,rfl⟩)
 obtain⟨Wd,hWd⟩:∃Wd,(((w.alloc (.cells #[v0,v1,v2,v3,v4] 60)).alloc (.map #[] 0)).alloc (.cells #[.map (some (w.heap.size+1))] 118)).alloc (.cells #[v0,v1,v2,v3,v4] 60)=Wd:=⟨_,rfl⟩;have hsd:Wd.heap.size=w.heap.size+4:=by rw[<- hWd];simp
 have hbd:Below w.heap.size w Wd:=by rw[<- hWd];exact((((Below.refl _ w).alloc (aB _) _).alloc (by simp) _).alloc (by simp;omega) _).alloc (by simp;omega) _
 have W4:Wd.ownsMap Tryz.prog 9 (plainElem (H:=Unit) Tryz.prog 4) (w.heap.size+1) 0 (.map []):=by have:=World.ownsMap_made (w.alloc (.cells #[v0,v1,v2,v3,v4] 60)) Tryz.prog 9 (plainElem (H:=Unit) Tryz.prog 4);rw[World.size_alloc]at this;rw[<- hWd];exact(this.alloc _).alloc _
 have hbs:Wd.heap[w.heap.size+2]? =some (.cells #[.map (some (w.heap.size+1))] 118):=by have:=World.alloc_heap_new ((w.alloc (.cells #[v0,v1,v2,v3,v4] 60)).alloc (.map #[] 0)) (.cells #[.map (some (w.heap.size+1))] 118);simp only[World.size_alloc]at this;rw[<- hWd];exact(Below.heap_alloc _ _ _ (by simp)).trans this
 have hbe:Wd.heap[w.heap.size+3]? =some (.cells #[v0,v1,v2,v3,v4] 60):=by have:=World.alloc_heap_new (((w.alloc (.cells #[v0,v1,v2,v3,v4] 60)).alloc (.map #[] 0)).alloc (.cells #[.map (some (w.heap.size+1))] 118)) (.cells #[v0,v1,v2,v3,v4] 60);simp only[World.size_alloc]at this;rw[<- hWd];exact this
 rw[hWd]
 refine Dm (gf:=107) (lb:=#[.pointer (some ⟨w.heap.size+1+1+1,0,none⟩)]) rfl (enters_of Tryz.func107 (by kernel_rfl) rfl)
  (amX _ t (aB _) w.heap.size (w.heap.size+3) v0 v1 v2 v3 v4 Wd (by omega) (by omega) (hE.below' hbd)) (Below.refl _ _) (by omega) (λ _=>rfl)
  (λ q X=>X.ownsMap Tryz.prog 9 (plainElem (H:=Unit) Tryz.prog 4) (w.heap.size+1) q.length (xI q)/\X.heap[w.heap.size+2]? =some (.cells #[.map (some (w.heap.size+1))] 118)/\X.heap[w.heap.size+3]? =some (.cells #[v0,v1,v2,v3,v4] 60))
  (λ s A B hs hb=>⟨by obtain⟨es,ck,h1,h2⟩:=hs.1;exact⟨es,ck,(hb.block _ (by omega)).trans h1,h2⟩,(hb.block _ (by omega)).trans hs.2.1,(hb.block _ (by omega)).trans hs.2.2⟩)
  (λ s X hs=>hs.2.2) ⟨W4,hbs,hbe⟩
  (λ x=>{ tmps:=#[.agg #[v0,v1,v2,v3,v4],.pointer (some ⟨w.heap.size,0,none⟩),.slice none 0 0,.pointer (some ⟨w.heap.size+1+1,0,none⟩),.string x,.map (some (w.heap.size+1)),.agg #[v0,v1,v2,v3,v4],.func (.func 107) #[] #[.pointer (some ⟨w.heap.size+1+1+1,0,none⟩)],.string x,undef,undef,undef,undef,undef],defers:=[] })
  ?assign ?body ?done
 case assign=>
  intro l2 x X K hK
  gi_wp2
  exact hK
 case body=>
  rintro l2 q x X hxm z6 ⟨hown,hms,hes⟩ hsx;have hxs:=mz.gS t _ hE x hxm;have cS:X.cell? ⟨w.heap.size+1+1,0,none⟩=some (.map (some (w.heap.size+1))):=by simp only[World.cell?,hms];rfl
  gi_wp2_with (gi_at_mapUpdate;refine wpListIn_mapUpdate_own _ rfl _ _ _ 118 rfl 9 4 (Maps.string_keyed Tryz.underlying9) Tryz.underlying118 _ (w.heap.size+1) q.length _ rfl hown (by unfold maxLen;omega) _ _ _ rfl rfl (aqu x hxs) _ [] (plainElem_bool Tryz.underlying4 true) ?_;intro w1 hown1 hgrow1)
  have e1:=hgrow1.block (w.heap.size+2) (by omega) (by simp);have e2:=hgrow1.block (w.heap.size+3) (by omega) (by simp);exact⟨⟨by rw[aeO];exact hown1,e1.trans hms,e2.trans hes⟩,(Below.refl _ X).grown hgrow1 (by omega) (λ k e=>by cases e;omega),λb hb hl=>hgrow1.block b hl (by simp;omega)⟩
 case done=>
  rintro D X hD ⟨hown,hms,hes⟩ hbx G4;have cS:X.cell? ⟨w.heap.size+1+1,0,none⟩=some (.map (some (w.heap.size+1))):=by simp only[World.cell?,hms];rfl
  have hsz:Maps.size (xI t.names)<=t.names.length:=aeP _
  gi_wp2_with (first
   |(refine ⟨trivial,?_⟩;refine(Tryz.maps_Keys_71 _ _).mono ?_;rintro e w' ⟨rfl,rfl⟩)
   |(refine ⟨trivial,?_⟩;refine(Tryz.slices_Sorted_keys_70_71 (w.heap.size+1) _ (xI t.names) _ X hown (by unfold maxLen;omega) (by omega)).mono ?_;rintro e w' ⟨v,ss,rfl,hS,hrow,hnil,hb⟩))
  have hkey:∀es,xI t.names=.map es->∀p∈es,∃x,p.1=.string x:=by intro es e p hp;obtain⟨es',e',hko⟩:=hown.keysOf;obtain rfl:es=es':=(by have:=e.symm.trans e';injection this);obtain⟨kv,hkv⟩:=hko p hp;obtain⟨x,_,h,_⟩:=Maps.keyOf_str Tryz.underlying9 hkv;exact⟨x,h⟩
  have hss:ss.mergeSort leB=qI t.names:=by obtain⟨es,e,_⟩:=hown.keysOf;exact mergeSort_of_perm (hS.trans (ahr t.names e (hkey es e)).symm)
  have hDX:D<X.heap.size:=(Array.getElem?_eq_some_iff.1 G4).1;have hd1:w'.heap[D]? =some (.deferred (some [])):=(hb.block D (by simp;omega)).trans ((Below.heap_alloc X _ D hDX).trans G4);have CI:ss.length=(qI t.names).length:=by rw[<- hss,List.length_mergeSort]
  have hrow':=(hrow.kept (grownBy_putObj' w' D (.deferred none)) ?_);refine⟨by simp,.inl ⟨_,_,rfl,run_takeDeferred hd1,?_⟩⟩;refine⟨_,results_tmp rfl _ _ _,⟨v,rfl,?_,?_⟩⟩
  ·rw[<- CI,<- hss];refine⟨hrow'.1,hrow'.2.imp id ?_⟩;rintro⟨g,cap,cur,h1,h2,h3⟩;exact⟨g,cap,cur,h1,by have:=hbx.size;simp at h2;omega,h3⟩
  ·exact(((hbd.trans hbx).alloc (by have:=hbx.size;omega) _).trans (hb.mono (by have:=hbx.size;simp;omega))).trans (Kp.put (n0:=w.heap.size) (B0:=D+1) w' D _ _ hd1 (by omega) (by omega)).1
  ·cases hvb:v.ownBlock with
   |none=>exact .inl rfl
   |some g=>
    refine .inr λe=>?_;have:=(hrow.lt g hvb).1;simp at this e;omega
end Go.Proofs
namespace Go.Proofs
open Go.RowKit Go.Maps
theorem ajz{n0:Nat}{W:World}{d:ByteArray×ET}{vs:List Value}(h:Tl n0 W d vs):∃u0 u1 u2 u3 u4 u5,vs=[u0,u1,u2,u3,u4,u5]/\(#[u0,u1,u2,u3,u4,u5]:Array Value).all (·.oneCell')=true:=by obtain⟨v0,v1,v2,v3,v4,rfl,_,he⟩:=h;refine⟨_,_,_,_,_,_,rfl,?_⟩;obtain⟨nm,t⟩:=d;cases t;simp only[mz]at he;obtain⟨n',key',sl',⟨h,_⟩,h'⟩:=he;simp only[List.cons.injEq,and_true]at h;obtain⟨rfl,rfl,rfl,rfl,rfl⟩:=h;rcases h' with ⟨_,_,_,rfl⟩|⟨_,_,_,rfl,_⟩<;>simp[Value.oneCell']
def TB(ds:List (ByteArray×ET)):Nat->DataW Unit
 | 0=>.map []
 |k+1=>(TB ds k).put (.string (ds.getD k (⟨#[]⟩,.mk 0 ⟨#[]⟩ [])).1.data.toList) (.lit (.int .i64 k))
theorem Xy(ds:List (ByteArray×ET)):∀k,IsMap (TB ds k)
 | 0=>isMap_empty
 |k+1=>(Xy ds k).put _ _
theorem abb(ds:List (ByteArray×ET))(s:List UInt8):∀k,has (TB ds k) (.string s)=(IU ds s k).isSome/\(TB ds k).atKey (.string s) (.lit (.int .i64 0))=.lit (.int .i64 ((IU ds s k).getD 0))
 | 0=>⟨rfl,rfl⟩
 |k+1=>by
  have h:=abb ds s k;simp only[TB,IU];split
  ·rename_i e;subst e;have hk:WideAt.IsKeyLit (.string (ds.getD k (⟨#[]⟩,.mk 0 ⟨#[]⟩ [])).1.data.toList):=trivial;exact⟨has_put_same (Xy ds k) hk _,atKey_put_same (Xy ds k) hk _ _⟩
  ·rename_i e;have hne:(Lit.string s)≠.string (ds.getD k (⟨#[]⟩,.mk 0 ⟨#[]⟩ [])).1.data.toList:=λh=>e (by injection h with h;exact h.symm);rw[has_put_other hne,atKey_put_other hne];exact h
def NgO(w:World)(mB uB:Nat)(sv:Value)(ds:List (ByteArray×ET))(i:Nat)(W:World):Prop:=
 ∃us:List Value,us.length=i/\W.heap[uB]? =some (.cells (us++List.replicate (ds.length-i) (Value.slice none 0 0)).toArray 41)/\
  W.heap[uB+1]? =some (.cells #[sv,.slice (some ⟨uB,0,none⟩) ds.length ds.length] 165)/\W.ownsMap Tryz.prog 9 (plainElem (H:=Unit) Tryz.prog 3) mB ds.length (TB ds ds.length)/\Below w.heap.size w W/\
  ∀(j:Nat)(v:Value),us[j]? =some v->∃d:ByteArray×ET,ds[j]? =some d/\W.ownsRow (uB+2) 3 1 v (iA ds (qI d.2.names)).length (Xp (iA ds (qI d.2.names)))
theorem Zu{w:World}{base:Nat}{e:TypeId}{size:Nat}{v:Value}{n:Nat}{xs:List Value}(h:w.ownsRow base e size v n xs):∃a cap,v=.slice a n cap:=by
 rcases h.2 with ⟨rfl,rfl⟩|⟨g,cap,_,rfl,_⟩
 ·exact⟨_,_,rfl⟩
 ·exact⟨_,_,rfl⟩
theorem Zv{w:World}{base:Nat}{e:TypeId}{a:Option Addr}{cap n:Nat}{xs:List Value}(h:w.ownsRow base e 1 (.slice a n cap) n xs)(hn:0<n):∃g,a=some ⟨g,0,none⟩/\base<=g/\g<w.heap.size/\∀j u,xs[j]? =some u->w.cell? ⟨g,j,none⟩=some u:=by
 rcases h.2 with ⟨_,h0⟩|⟨g,c,cur,e1,hg,hgb,_,_,_,ht⟩
 ·omega
 ·simp only[Value.slice.injEq]at e1;obtain⟨rfl,_,rfl⟩:=e1;refine⟨g,rfl,hg,(Array.getElem?_eq_some_iff.1 hgb).1,λj u hj=>?_⟩;rw[<- ht,List.getElem?_take]at hj;split at hj
  ·simpa[World.cell?,hgb]using hj
  ·cases hj
def NgI(X:World)(uB:Nat)(us:List Value)(ds:List (ByteArray×ET))(r:Nat)(l:List (List UInt8))(V:World):Prop:=
 ∃va vc v,v=.slice va (iA ds l).length vc/\X.grownBy V (some uB)/\V.heap[uB]? =some (.cells (us++v::List.replicate r (Value.slice none 0 0)).toArray 41)/\V.ownsRow X.heap.size 3 1 v (iA ds l).length (Xp (iA ds l))
theorem amY(w:World):(zeroValue 3).run Tryz.prog w=.ok (.int .i64 0) w:=by kernel_rfl
theorem ak1{w:World}{ds:List (ByteArray×ET)}{nm:List UInt8}{b n:Nat}(hown:w.ownsMap Tryz.prog 9 (plainElem (H:=Unit) Tryz.prog 3) b n (TB ds ds.length))(hkey:keyOf Tryz.prog 9 (encStr nm)=some (.string nm)):
 (Instr.lookup 162 (.map (some b)) (encStr nm) true).run Tryz.prog w=.ok (.tuple #[.int .i64 ((IU ds nm ds.length).getD 0),.bool (IU ds nm ds.length).isSome]) w:=by
 have h:=abb ds nm ds.length;obtain⟨v,ps,hrun,hv⟩:=hown.look_ok (Maps.string_keyed Tryz.underlying9) Tryz.underlying162 (amY w) (plainElem_int Tryz.underlying3 (by decide)) hkey;obtain⟨c,rfl,hc,_⟩:=plainElem_int_inv Tryz.underlying3 hv;rw[h.2]at hc;have hc2:(IU ds nm ds.length).getD 0=c:=by have:=congrArg Prod.fst hc;simpa using this
 refine hrun.trans ?_;rw[h.1,hc2]
theorem Xz(ds:List (ByteArray×ET))(L:List (List UInt8))(q:Nat){nm:List UInt8}(h:L[q]? =some nm):iA ds (L.take (q+1))=iA ds (L.take q)++(IU ds nm ds.length).toList:=by rw[List.take_add_one,h,iA,iA,List.filterMap_append];cases h2:IU ds nm ds.length<;>simp[h2]
theorem grownBy_set(w:World)(b k:Nat)(v:Value):w.grownBy (w.setCell ⟨b,k,none⟩ v) (some b):=
 ⟨rfl,rfl,rfl,by simp[World.setCell],λi _ h=>by simp only[World.setCell];rw[Array.getElem?_modify,aU (λ e=>h (by rw[e]))]⟩
theorem ahy{A B:World}{base:Nat}{e:TypeId}{size:Nat}{v:Value}{n:Nat}{xs:List Value}{uB:Nat}(h:A.ownsRow base e size v n xs)(hb:uB<base)(hk:∀c,c<A.heap.size->c≠uB->B.heap[c]? =A.heap[c]?):B.ownsRow base e size v n xs:=by refine⟨h.1,h.2.imp id ?_⟩;rintro⟨g,cap,cur,h1,h2,h3,h4⟩;exact⟨g,cap,cur,h1,h2,(hk g (Array.getElem?_eq_some_iff.1 h3).1 (by omega)).trans h3,h4⟩
theorem amZ:(Tryz.prog.info? 3).map (λ i=>(i.zero,i.size,i.bytes))=some (some (.int .i64 0),1,8):=by kernel_rfl
theorem am0:(Tryz.prog.info? 41).map (λ i=>(i.zero,i.size,i.bytes))=some (some (.slice none 0 0),1,24):=by kernel_rfl
theorem ak2(ds:List (ByteArray×ET))(k:Nat){d:ByteArray×ET}(h:ds[k]? =some d):TB ds (k+1)=(TB ds k).put (.string d.1.data.toList) (.lit (.int .i64 k)):=by simp[TB,List.getD,h]
theorem am1(s:ByteArray)(h:s.size<=maxLen):keyOf Tryz.prog 9 (.string s)=some (.string s.data.toList):=by rw[keyOf_string Tryz.underlying9];simp[mapKey,Tryz.underlying9,h]
theorem am2{X wr w1:World}{uB k r:Nat}{us:List Value}{ds:List (ByteArray×ET)}{l l':List (List UInt8)}{va:Option Addr}{vc gg cap:Nat}{m:Int}{o:Obj}
 (wg:X.grownBy wr (some uB)) (uu:wr.heap[uB]? =some (.cells (us++(Value.slice va (iA ds l).length vc)::List.replicate r (Value.slice none 0 0)).toArray 41)) (hk:us.length=k)
 (hgrow:(wr.alloc o).drew.grownBy w1 (Value.slice va (iA ds l).length vc).ownBlock) (hne:(Value.slice va (iA ds l).length vc).ownBlock≠some uB) (hbl:∀b,(Value.slice va (iA ds l).length vc).ownBlock=some b->X.heap.size<=b)
 (hown:w1.ownsRow X.heap.size 3 1 (.slice (some ⟨gg,0,none⟩) ((iA ds l).length+1) cap) ((iA ds l).length+1) (Xp (iA ds l)++[.int .i64 m])) (hs:iA ds l'=iA ds l++[m])
 (hat:(Value.slice va (iA ds l).length vc).ownBlock=some gg\/gg=wr.heap.size+1):
 NgI X uB us ds r l' (w1.setCell ⟨uB,k,none⟩ (.slice (some ⟨gg,0,none⟩) ((iA ds l).length+1) cap)):=by
 have huB:uB<wr.heap.size:=(Array.getElem?_eq_some_iff.1 uu).1;have h1:w1.heap[uB]? =wr.heap[uB]? :=(hgrow.block uB (by show uB<(wr.alloc o).heap.size;simp;omega) (λ e=>hne e.symm)).trans (Below.heap_alloc wr o uB huB);have hset:w1.grownBy (w1.setCell ⟨uB,k,none⟩ (.slice (some ⟨gg,0,none⟩) ((iA ds l).length+1) cap)) (some uB):=grownBy_set _ _ _ _;have hall:X.grownBy w1 (some uB):=(wg.andThen ((World.grownBy_alloc wr o none).trans ⟨rfl,rfl,rfl,aB _,λ_ _ _=>rfl⟩:wr.grownBy (wr.alloc o).drew none) (λ j e=>by cases e)).andThen hgrow (λ j e=>.inl (hbl j e));have hlen:(iA ds l').length=(iA ds l).length+1:=by rw[hs];simp
 have hgu:gg≠uB:=by
  rintro rfl;rcases hat with h|h
  ·exact hne h
  ·omega
 refine⟨some ⟨gg,0,none⟩,cap,_,rfl,hall.trans hset,?_,?_⟩
 ·rw[hlen];simp only[World.setCell];rw[Array.getElem?_modify,aX rfl,h1,uu];simp only[Option.map_some,Option.isSome_none,Bool.false_eq_true,if_false,List.setIfInBounds_toArray];rw[<- hk,List.set_append_right _ _ (aB _),Nat.sub_self,List.set_cons_zero]
 ·rw[hlen,hs];have:=hown.kept hset (.inr (λ e=>hgu (by simpa[Value.ownBlock]using e)));simpa using this
set_option maxRecDepth 100000 in
set_option maxHeartbeats 4000000 in
theorem aoY(ds:List (ByteArray×ET))(hlen:ds.length<=4000000)
 (hnl:∀d∈ds,d.2.names.length<=1000000000000)
 (hN:∀d∈ds,∀(v0 v1 v2 v3 v4:Value)(w:World),mz w.heap.size w d.2 [v0,v1,v2,v3,v4]->Calls Tryz.prog 40 #[.agg #[v0,v1,v2,v3,v4]] w λe W'=>∃v,e=.returned v/\W'.ownsRow w.heap.size 9 1 v (qI d.2.names).length ((qI d.2.names).map encStr)/\Below w.heap.size w W')
 (sv:Value) (w:World) (hsv:HT w.heap.size w ds sv):Calls Tryz.prog 37 #[sv] w λe W'=>∃uB,e=.returned (.pointer (some ⟨uB+1,0,none⟩))/\w.heap.size<uB/\apY w uB sv ds 41 165 3 W':=by
 have hmm:=@run_makeMap Tryz.prog;obtain⟨sa,sc,rfl⟩:∃sa sc,sv=.slice sa ds.length sc:=by
  rcases hsv with ⟨rfl,a,cap,rfl⟩|⟨b,aa,cap,rfl,_⟩
  ·exact⟨_,_,rfl⟩
  ·exact⟨_,_,rfl⟩
 obtain⟨i0,hi,hz0,hz1,hz2⟩:=info_parts am0;obtain⟨iI,hiI,T6,T5,T4⟩:=info_parts amZ
 go_enter Tryz.func37,Tryz.ntmps37
 go_wp2
 go_loopw [16] (λ i wr=>∃k:Nat,k<=ds.length/\i=.int .i64 k/\wr.ownsMap Tryz.prog 9 (plainElem (H:=Unit) Tryz.prog 3) w.heap.size k (TB ds k)/\Below w.heap.size w wr)
  (λ i _=>ds.length-(intOf i).toNat)
 case atStart=>exact⟨0,Nat.zero_le _,rfl,World.ownsMap_made _ _ _ _,(Below.refl _ _).alloc (aB _) _⟩
 case round=>
  obtain⟨k,hk,rfl,hown,hnx⟩:=hrel;by_cases hkl:k<ds.length
  ·rcases hsv with ⟨h0,_⟩|⟨b,aa,cap,he,hb,hr⟩
   ·rw[h0]at hkl;exact absurd hkl (Nat.not_lt_zero _)
   simp only[Value.slice.injEq,true_and]at he;obtain⟨rfl,rfl⟩:=he;obtain⟨d,hd⟩:∃d,ds[k]? =some d:=⟨_,dI hkl⟩;obtain⟨vs,q,Lw⟩:=hr k d hd;obtain⟨u0,u1,u2,u3,u4,u5,rfl,hone⟩:=ajz Lw;have o0:=λz1 z2 z3 z4 z5=>dQ Tryz.prog wr #[.string { data:=#[] },z1,z2,z3,z4,z5] 67 0 u0 (by simp) (by simpa using (Array.all_eq_true.1 hone) 0 (by simp));have o1:=λz2 z3 z4 z5=>dQ Tryz.prog wr #[u0,.int .i64 0,z2,z3,z4,z5] 67 1 u1 (by simp) (by simpa using (Array.all_eq_true.1 hone) 1 (by simp));have o2:=λz3 z4 z5=>dQ Tryz.prog wr #[u0,u1,.int .i64 0,z3,z4,z5] 67 2 u2 (by simp) (by simpa using (Array.all_eq_true.1 hone) 2 (by simp));have o3:=λz4 z5=>dQ Tryz.prog wr #[u0,u1,u2,.string { data:=#[] },z4,z5] 67 3 u3 (by simp) (by simpa using (Array.all_eq_true.1 hone) 3 (by simp));have o4:=λz5=>dQ Tryz.prog wr #[u0,u1,u2,u3,.string { data:=#[] },z5] 67 4 u4 (by simp) (by simpa using (Array.all_eq_true.1 hone) 4 (by simp));have o5:=dQ Tryz.prog wr #[u0,u1,u2,u3,u4,.slice none 0 0] 67 5 u5 (by simp) (by simpa using (Array.all_eq_true.1 hone) 5 (by simp));simp only[List.set_toArray,List.set]at o0 o1 o2 o3 o4 o5;have hn:=World.alloc_heap_new wr (.cells #[u0,u1,u2,u3,u4,u5] 67);have r0:(wr.alloc (.cells #[u0,u1,u2,u3,u4,u5] 67)).cell? ⟨wr.heap.size,0,none⟩=some u0:=(by simp only[World.cell?,hn];rfl);have q0:wr.cell? ⟨b,aa+k*6,none⟩=some u0:=(hnx.cell (p:=⟨b,aa+k*6,none⟩) hb).trans (q 0 _ rfl);have q1:wr.cell? ⟨b,aa+k*6+1,none⟩=some u1:=(hnx.cell (p:=⟨b,aa+k*6+1,none⟩) hb).trans (q 1 _ rfl);have q2:wr.cell? ⟨b,aa+k*6+2,none⟩=some u2:=(hnx.cell (p:=⟨b,aa+k*6+2,none⟩) hb).trans (q 2 _ rfl);have q3:wr.cell? ⟨b,aa+k*6+3,none⟩=some u3:=(hnx.cell (p:=⟨b,aa+k*6+3,none⟩) hb).trans (q 3 _ rfl);have q4:wr.cell? ⟨b,aa+k*6+4,none⟩=some u4:=(hnx.cell (p:=⟨b,aa+k*6+4,none⟩) hb).trans (q 4 _ rfl);have q5:wr.cell? ⟨b,aa+k*6+5,none⟩=some u5:=(hnx.cell (p:=⟨b,aa+k*6+5,none⟩) hb).trans (q 5 _ rfl);have hkey:keyOf Tryz.prog 9 u0=some (.string d.1.data.toList):=by obtain⟨v0,v1,v2,v3,v4,e,hs,_⟩:=Lw;simp only[List.cons.injEq]at e;rw[e.1];exact am1 d.1 hs
   go_wp2_with (at_mapUpdate;refine wpList_mapUpdate_own _ rfl _ _ _ 162 rfl 9 3 (Maps.string_keyed Tryz.underlying9) Tryz.underlying162 _ w.heap.size k _ rfl (hown.alloc _) (by unfold maxLen;omega) _ _ _ rfl rfl hkey _ [] (plainElem_int Tryz.underlying3 (WalkArith.wf_i64 (by omega))) ?_;intro w1 hown1 hgrow1)
   refine⟨⟨k+1,by omega,by go_num,?_,(((hnx.alloc (by have:=hnx.size;omega) _).grown hgrow1 (by have:=hnx.size;simp;omega) (λ j e=>by cases e;exact aB _)))⟩,by simp[intOf];omega⟩;rw[ak2 ds k hd];exact hown1
  ·obtain rfl:k=ds.length:=(by omega);have hms:=run_make (P:=Tryz.prog) wr 163 41 i0 (.slice none 0 0) Tryz.underlying163 hi hz0 .i64 .i64 ds.length ds.length (by omega) (Int.le_refl _) (by rw[hz2];omega) (by omega);rw[hz1]at hms;simp only[Int.toNat_natCast,Nat.mul_one,Value.cells]at hms;obtain⟨wv,vy⟩:∃wv,madeCells #[Value.slice none 0 0] ds.length=wv:=⟨_,rfl⟩;rw[vy]at hms
   go_wp2
   obtain⟨uB,huB⟩:∃uB,wr.heap.size=uB:=⟨_,rfl⟩;obtain⟨W1,hW1⟩:∃W1,(wr.alloc (.cells wv 41)).alloc (.cells #[.slice sa ds.length sc,.slice (some ⟨wr.heap.size,0,none⟩) ds.length ds.length] 165)=W1:=⟨_,rfl⟩;have hmu:w.heap.size<uB:=(by rw[<- huB];exact hown.lt);have hI0:NgO w w.heap.size uB (.slice sa ds.length sc) ds 0 W1:=by
    have hn1:=World.alloc_heap_new wr (.cells wv 41);have hn2:=World.alloc_heap_new (wr.alloc (.cells wv 41)) (.cells #[.slice sa ds.length sc,.slice (some ⟨wr.heap.size,0,none⟩) ds.length ds.length] 165);rw[World.size_alloc]at hn2;subst huB;refine⟨[],rfl,?_,?_,?_,?_,λj v h=>by simp at h⟩
    ·rw[<- hW1];refine(Below.heap_alloc _ _ _ (by simp)).trans ?_;rw[hn1,<- vy];congr 2;apply Array.ext';rw[toList_madeCells_one];rfl
    ·rw[<- hW1];exact hn2
    ·rw[<- hW1];exact(hown.alloc _).alloc _
    ·rw[<- hW1];exact(hnx.alloc (by have:=hnx.size;omega) _).alloc (by have:=hnx.size;simp;omega) _
   rw[hW1,huB]
   go_loopw [34] (λ i W=>∃k:Nat,k<=ds.length/\i=.int .i64 k/\NgO w w.heap.size uB (.slice sa ds.length sc) ds k W)
    (λ i _=>ds.length-(intOf i).toNat)
   case atStart=>exact⟨0,Nat.zero_le _,rfl,hI0⟩
   case round=>
    obtain⟨k,hk,rfl,us,tw,hU,hG,hM,hB,zz⟩:=hrel;obtain⟨On,Up⟩:∃On,On=wr:=⟨_,rfl⟩;by_cases hkl:k<ds.length
    ·rcases hsv with ⟨h0,_⟩|⟨b,aa,cap,he,hb,hr⟩
     ·rw[h0]at hkl;exact absurd hkl (Nat.not_lt_zero _)
     simp only[Value.slice.injEq,true_and]at he;obtain⟨rfl,rfl⟩:=he;obtain⟨d,hd⟩:∃d,ds[k]? =some d:=⟨_,dI hkl⟩;obtain⟨vs,q,Lw⟩:=hr k d hd;obtain⟨u0,u1,u2,u3,u4,u5,rfl,hone⟩:=ajz Lw;have o0:=λz1 z2 z3 z4 z5=>dQ Tryz.prog wr #[.string { data:=#[] },z1,z2,z3,z4,z5] 67 0 u0 (by simp) (by simpa using (Array.all_eq_true.1 hone) 0 (by simp));have o1:=λz2 z3 z4 z5=>dQ Tryz.prog wr #[u0,.int .i64 0,z2,z3,z4,z5] 67 1 u1 (by simp) (by simpa using (Array.all_eq_true.1 hone) 1 (by simp));have o2:=λz3 z4 z5=>dQ Tryz.prog wr #[u0,u1,.int .i64 0,z3,z4,z5] 67 2 u2 (by simp) (by simpa using (Array.all_eq_true.1 hone) 2 (by simp));have o3:=λz4 z5=>dQ Tryz.prog wr #[u0,u1,u2,.string { data:=#[] },z4,z5] 67 3 u3 (by simp) (by simpa using (Array.all_eq_true.1 hone) 3 (by simp));have o4:=λz5=>dQ Tryz.prog wr #[u0,u1,u2,u3,.string { data:=#[] },z5] 67 4 u4 (by simp) (by simpa using (Array.all_eq_true.1 hone) 4 (by simp));have o5:=dQ Tryz.prog wr #[u0,u1,u2,u3,u4,.slice none 0 0] 67 5 u5 (by simp) (by simpa using (Array.all_eq_true.1 hone) 5 (by simp));simp only[List.set_toArray,List.set]at o0 o1 o2 o3 o4 o5;have hn:=World.alloc_heap_new wr (.cells #[u0,u1,u2,u3,u4,u5] 67);have r0:(wr.alloc (.cells #[u0,u1,u2,u3,u4,u5] 67)).cell? ⟨wr.heap.size,0,none⟩=some u0:=(by simp only[World.cell?,hn];rfl);have q0:wr.cell? ⟨b,aa+k*6,none⟩=some u0:=(hB.cell (p:=⟨b,aa+k*6,none⟩) hb).trans (q 0 _ rfl);have q1:wr.cell? ⟨b,aa+k*6+1,none⟩=some u1:=(hB.cell (p:=⟨b,aa+k*6+1,none⟩) hb).trans (q 1 _ rfl);have q2:wr.cell? ⟨b,aa+k*6+2,none⟩=some u2:=(hB.cell (p:=⟨b,aa+k*6+2,none⟩) hb).trans (q 2 _ rfl);have q3:wr.cell? ⟨b,aa+k*6+3,none⟩=some u3:=(hB.cell (p:=⟨b,aa+k*6+3,none⟩) hb).trans (q 3 _ rfl);have q4:wr.cell? ⟨b,aa+k*6+4,none⟩=some u4:=(hB.cell (p:=⟨b,aa+k*6+4,none⟩) hb).trans (q 4 _ rfl);have q5:wr.cell? ⟨b,aa+k*6+5,none⟩=some u5:=(hB.cell (p:=⟨b,aa+k*6+5,none⟩) hb).trans (q 5 _ rfl);have r1:(wr.alloc (.cells #[u0,u1,u2,u3,u4,u5] 67)).cell? ⟨wr.heap.size,1,none⟩=some u1:=(by simp only[World.cell?,hn];rfl);have r2:(wr.alloc (.cells #[u0,u1,u2,u3,u4,u5] 67)).cell? ⟨wr.heap.size,2,none⟩=some u2:=(by simp only[World.cell?,hn];rfl);have r3:(wr.alloc (.cells #[u0,u1,u2,u3,u4,u5] 67)).cell? ⟨wr.heap.size,3,none⟩=some u3:=(by simp only[World.cell?,hn];rfl);have r4:(wr.alloc (.cells #[u0,u1,u2,u3,u4,u5] 67)).cell? ⟨wr.heap.size,4,none⟩=some u4:=(by simp only[World.cell?,hn];rfl);have r5:(wr.alloc (.cells #[u0,u1,u2,u3,u4,u5] 67)).cell? ⟨wr.heap.size,5,none⟩=some u5:=(by simp only[World.cell?,hn];rfl);have hba:Below w.heap.size wr (wr.alloc (.cells #[u0,u1,u2,u3,u4,u5] 67)):=(Below.refl _ _).alloc hB.size _;have hEd:mz (wr.alloc (.cells #[u0,u1,u2,u3,u4,u5] 67)).heap.size (wr.alloc (.cells #[u0,u1,u2,u3,u4,u5] 67)) d.2 [u1,u2,u3,u4,u5]:=(by obtain⟨v0,v1,v2,v3,v4,e,_,h⟩:=Lw;simp only[List.cons.injEq,and_true]at e;obtain⟨_,rfl,rfl,rfl,rfl,rfl⟩:=e;exact mz.mono (by have:=hB.size;simp;omega) _ _ (h.below' (hB.trans hba)));have hcn:=hN d (dh hd) u1 u2 u3 u4 u5 _ hEd
     go_wp2_with (go_at_call 40;refine hcn.mono ?_;rintro e X ⟨nv,rfl,hrow,hbX⟩;obtain⟨na,nc,rfl⟩:=Zu hrow)
     have hcell:=Zv hrow;have hblt:=hrow.lt;have hsU:uB+1<wr.heap.size:=(Array.getElem?_eq_some_iff.1 hG).1;have hsX:wr.heap.size+1<=X.heap.size:=(by have:=hbX.size;simpa using this);have hkX:∀c,c<wr.heap.size->X.heap[c]? =wr.heap[c]? :=λc hc=>(hbX.block c (by simp;omega)).trans (Below.heap_alloc _ _ c hc);obtain⟨L,hL⟩:∃L,qI d.2.names=L:=⟨_,rfl⟩;rw[hL]at hrow hcell;have hLl:L.length<=1000000000000:=(by rw[<- hL];exact Nat.le_trans (Xo _) (hnl d (dh hd)));have hLs:∀s∈L,s.length<=maxLen:=by intro s hs;rw[<- hL]at hs;obtain⟨x,hx,rfl⟩:=amM hs;have:=mz.gS d.2 _ hEd x hx;simpa using this
     go_loopw [43] (λ i V=>∃q:Nat,q<=L.length/\i=.int .i64 q/\NgI X uB us ds (ds.length-k-1) (L.take q) V)
      (λ i _=>L.length-(intOf i).toNat)
     case atStart=>
      refine⟨0,Nat.zero_le _,rfl,none,0,_,rfl,World.grownBy.refl _ _,?_,World.ownsRow_nil _ _ _ _⟩;rw[hkX uB (by omega),hU,show ds.length-k=(ds.length-k-1)+1 by omega,List.replicate_succ];rfl
     case round=>
      obtain⟨q,hq,rfl,va,vc,v,rfl,wg,uu,zv⟩:=hrel;by_cases z6:q<L.length
      ·obtain⟨nm,hnm⟩:∃nm,L[q]? =some nm:=⟨_,dI z6⟩;obtain⟨g,rfl,hg1,hg2,hgc⟩:=hcell (by omega);have c0:wr.cell? ⟨g,q,none⟩=some (encStr nm):=(wg.cell_far ⟨g,q,none⟩ hg2 (by simp at hg1 ⊢;omega)).trans (hgc q _ (by rw[List.getElem?_map,hnm];rfl));have hkey:keyOf Tryz.prog 9 (encStr nm)=some (.string nm):=(by have:=am1 ⟨nm.toArray⟩ (by have:=hLs nm (dh hnm);simpa[ByteArray.size]using this);simpa using this);have hMV:wr.ownsMap Tryz.prog 9 (plainElem (H:=Unit) Tryz.prog 3) w.heap.size ds.length (TB ds ds.length):=(by obtain⟨es,ck,h1,h2⟩:=hM;exact⟨es,ck,(wg.block _ (by omega) (by simp;omega)).trans ((hkX _ (by omega)).trans h1),h2⟩);have hlk:(iA ds (L.take q)).length<=1000000000000:=Nat.le_trans (List.length_filterMap_le _ _) (by rw[List.length_take];omega);have q7:=ak1 hMV hkey;cases hix:IU ds nm ds.length with
       |none=>
        rw[hix]at q7;simp only[Option.isSome,Option.getD]at q7
        go_wp2
        have hstep:iA ds (L.take (q+1))=iA ds (L.take q):=(by rw[Xz ds L q hnm,hix];exact List.append_nil _);exact⟨⟨q+1,by omega,by go_num,va,vc,_,rfl,wg,by rw[hstep];exact uu,by rw[hstep];exact zv⟩,by simp[intOf];omega⟩
       |some m=>
        rw[hix]at q7;simp only[Option.isSome,Option.getD]at q7
        go_wp2
        have hstep:iA ds (L.take (q+1))=iA ds (L.take q)++[m]:=(by rw[Xz ds L q hnm,hix];rfl);have hVX:X.heap.size<=wr.heap.size:=wg.size;have cG:wr.cell? ⟨uB+1,1,none⟩=some (.slice (some ⟨uB,0,none⟩) ds.length ds.length):=(by have h1:=(wg.block (uB+1) (by omega) (by simp)).trans ((hkX _ (by omega)).trans hG);simp[World.cell?,h1]);have cU:wr.cell? ⟨uB,k,none⟩=some (.slice va (iA ds (L.take q)).length vc):=(by rw[<- tw];simp[World.cell?,uu]);have cF:wr.frozen? ⟨uB,k,none⟩=false:=(by simp[World.frozen?,uu]);have cF2:∀o,(wr.alloc o).drew.frozen? ⟨uB,k,none⟩=false:=λo=>(by have h1:=(Below.heap_alloc wr o uB (Array.getElem?_eq_some_iff.1 uu).1).trans uu;show(wr.alloc o).frozen? _=_;simp[World.frozen?,h1]);have hk0:(0:Int)<=(k:Int):=Int.natCast_nonneg _;have hk1:(k:Int)<(ds.length:Int):=(by omega);have CE:(Value.slice va (iA ds (L.take q)).length vc).ownBlock≠some uB:=λe=>(by have:=(zv.lt _ e).1;omega);have VM:(Value.slice va (iA ds (L.take q)).length vc).ownBlock≠some (uB+1):=λe=>(by have:=(zv.lt _ e).1;omega);have cU2:=World.new_ne wr ⟨uB,k,none⟩ cU;have cU3:∀o,(wr.alloc o).drew.cell? ⟨uB,k,none⟩=some (.slice va (iA ds (L.take q)).length vc):=λo=>(by have h1:=(Below.heap_alloc wr o uB (Array.getElem?_eq_some_iff.1 uu).1).trans uu;show(wr.alloc o).cell? _=_;rw[<- tw];simp[World.cell?,h1]);have cG3:∀o,(wr.alloc o).drew.cell? ⟨uB+1,1,none⟩=some (.slice (some ⟨uB,0,none⟩) ds.length ds.length):=λo=>(by have h0:=(wg.block (uB+1) (by omega) (by simp)).trans ((hkX _ (by omega)).trans hG);have h1:=(Below.heap_alloc wr o (uB+1) (Array.getElem?_eq_some_iff.1 h0).1).trans h0;show(wr.alloc o).cell? _=_;simp[World.cell?,h1]);have cG4:=cG3 (.cells #[.int .i64 m] 3);have cU4:=cU3 (.cells #[.int .i64 m] 3);have cF4:=cF2 (.cells #[.int .i64 m] 3)
        go_region_law ((refine step_append_lies _ (by rfl) _ _ _ (by rfl) X.heap.size 3 iI _ 1 8 Tryz.underlying41 hiI T6 T5 T4 rfl (by omega) _ _ _ (by rfl) ((zv.alloc _).drew) ⟨wr.heap.size,0,none⟩ 1 1 [.int .i64 m] (by rfl) (by rfl) (World.news_of_block (cs:=#[.int .i64 m]) (t:=3) (fr:=(0,0)) (heap_alloc_new wr _)) (by simp[Value.oneCell']) (by omega) (by unfold maxLen;omega) (by omega) (by simp;omega) (wr.heap.size+1) (by simp) ?_;intro gg cap w1 hown1 hgrow hat hlt;have cU1:w1.cell? ⟨uB,k,none⟩=some (.slice va (iA ds (L.take q)).length vc):=(by rw[hgrow.cell_far _ (by simp;omega) (Ne.symm CE)];exact cU3 _);have cG1:w1.cell? ⟨uB+1,1,none⟩=some (.slice (some ⟨uB,0,none⟩) ds.length ds.length):=(by rw[hgrow.cell_far _ (by simp;omega) (Ne.symm VM)];exact cG3 _);have cF1:w1.frozen? ⟨uB,k,none⟩=false:=(by rw[hgrow.frozen_far _ (by simp;omega) (Ne.symm CE)];exact cF2 _)))
        all_goals go_wp2
        all_goals exact⟨⟨_,_,_,.int .i64 ((q:Int)+1),⟨q+1,by omega,by go_num,am2 wg uu tw hgrow CE (λ b e=>(zv.lt b e).1) hown1 hstep hat⟩,rfl,rfl,rfl,rfl⟩,by simp[intOf];omega⟩
      ·obtain rfl:q=L.length:=by omega
       go_wp2
       rw[List.take_length]at uu zv;subst Up;have hgw:∀c,c<On.heap.size->c≠uB->wr.heap[c]? =On.heap[c]? :=λc hc hne=>(wg.block c (by omega) (by simp;omega)).trans (hkX c hc);refine⟨⟨k+1,by omega,by go_num,us++[.slice va (iA ds L).length vc],by simp[tw],?_,?_,?_,?_,?_⟩,by simp[intOf];omega⟩
       ·rw[uu];congr 3;simp[Nat.sub_sub]
       ·exact(hgw (uB+1) (by omega) (by omega)).trans hG
       ·obtain⟨es,ck,h1,h2⟩:=hM;exact⟨es,ck,(hgw _ (by omega) (by omega)).trans h1,h2⟩
       ·exact(((hB.trans hba).trans (hbX.mono (by simp;have:=hB.size;omega))).grown wg (by have:=hB.size;omega) (λ j e=>by cases e;omega))
       ·intro j v hj;rw[List.getElem?_append]at hj;split at hj
        ·obtain⟨d',hd',ho⟩:=zz j v hj;exact⟨d',hd',ahy ho (by omega) hgw⟩
        ·rename_i hjl;have hj0:j-us.length=0:=by
          cases h:j-us.length with
          |zero=>rfl
          |succ z=>rw[h]at hj;simp at hj
         rw[hj0]at hj;simp only[List.getElem?_cons_zero,aZ]at hj;subst hj;refine⟨d,by rw[show j=k by omega];exact hd,?_⟩;rw[hL];refine⟨zv.1,zv.2.imp id ?_⟩;rintro⟨g,cap,cur,h1,h2,h3⟩;exact⟨g,cap,cur,h1,by omega,h3⟩
    ·obtain rfl:k=ds.length:=by omega
     go_wp2
     go_ret
     exact⟨uB,rfl,hmu,us,tw,by simpa using hU,hG,hB,zz⟩
end Go.Proofs
namespace Go.Proofs
open Go.RowKit Go.Shelf
set_option maxHeartbeats 1000000 in
theorem am3(x y:Nat)(hx:x<18446744073709551616)(hy:y<18446744073709551616)(w:World):
 Calls Tryz.prog 262 #[.int .u64 x,.int .u64 y] w λe w'=>e=.returned (.tuple #[.int .u64 ((x*y/18446744073709551616:Nat):Int),.int .u64 ((x*y%18446744073709551616:Nat):Int)])/\w'=w:=by
 obtain⟨bd,bt,bw,hhi⟩:=Lib.mul64_hi x y hx hy;have ba:=Lib.half_mul_le (a:=x/4294967296) (b:=y/4294967296) (by omega) (by omega);have bb:=Lib.half_mul_le (a:=x/4294967296) (b:=y%4294967296) (by omega) (by omega);have bc:=Lib.half_mul_le (a:=x%4294967296) (b:=y/4294967296) (by omega) (by omega);have ba':x/4294967296*(y/4294967296)<18446744073709551616:=by omega
 have bb':x/4294967296*(y%4294967296)<18446744073709551616:=by omega
 have bc':x%4294967296*(y/4294967296)<18446744073709551616:=by omega
 have bh1:x/4294967296*(y/4294967296)+(x/4294967296*(y%4294967296)+x%4294967296*(y%4294967296)/4294967296)/4294967296<18446744073709551616:=by omega
 have bh:x/4294967296*(y/4294967296)+(x/4294967296*(y%4294967296)+x%4294967296*(y%4294967296)/4294967296)/4294967296+((x/4294967296*(y%4294967296)+x%4294967296*(y%4294967296)/4294967296)%4294967296+x%4294967296*(y/4294967296))/4294967296<18446744073709551616:=by omega
 go_enter Tryz.func262,Tryz.ntmps262
 go_wp2
 simp only[Mul64.maskN x hx,Mul64.maskN y hy,Mul64.divN,Mul64.mulN,Mul64.addN,Mul64.wrapN _ bd,Mul64.wrapN _ bb',Mul64.wrapN _ bt,Mul64.maskN _ bt,Mul64.wrapN _ bc',Mul64.wrapN _ bw,Mul64.wrapN _ ba',Mul64.wrapN _ bh1,Mul64.wrapN _ bh,Mul64.wrapM (x*y)];rw[hhi]
 go_ret2
 exact⟨rfl,rfl⟩
set_option maxHeartbeats 1000000 in
theorem aqv(x y:Nat)(hx:x<18446744073709551616)(hy:y<18446744073709551616)(w:World):
 Calls Tryz.prog 217 #[.int .u64 x,.int .u64 y] w λe w'=>e=.returned (.tuple #[.int .u64 ((x*y/18446744073709551616:Nat):Int),.int .u64 ((x*y%18446744073709551616:Nat):Int)])/\w'=w:=by
 go_enter Tryz.func217,Tryz.ntmps217
 go_wp2_with (go_at_call 262;refine(am3 x y hx hy _).mono ?_;rintro e w' ⟨rfl,hw⟩;rw[hw])
 go_ret2
 exact⟨rfl,rfl⟩
theorem aoZ(c:Nat)(hc:c<=1000000000000)(w:World):
 Calls Tryz.prog 217 #[.int .u64 1,.int .u64 c] w λe w'=>e=.returned (.tuple #[.int .u64 0,.int .u64 c])/\w'=w:=by have h:=aqv 1 c (by decide) (by omega) w;rw[show 1*c/18446744073709551616=0 by omega,show 1*c%18446744073709551616=c by omega]at h;exact h
theorem ajA:(Tryz.prog.info? 3).map (λ i=>(i.zero,i.size,i.bytes))=some (some (.int .i64 0),1,8):=by kernel_rfl
def qk(x:Int)(m c:Nat):List Value:=List.replicate m (.int .i64 x)++List.replicate (c-m) (.int .i64 0)
theorem ahz(x:Int)(m k c:Nat)(_:m+k<=c):splice (qk x m c) m (List.replicate k (.int .i64 x))=qk x (m+k) c:=by
 have h1:(qk x m c).take m=List.replicate m (.int .i64 x):=by simp[qk]
 have h2:(qk x m c).drop (m+k)=List.replicate (c-(m+k)) (.int .i64 0):=by rw[qk,List.drop_append];simp[Nat.sub_sub,show m+k-m=k by omega]
 rw[splice,h1,List.length_replicate,h2,<- aM,List.replicate_append_replicate,qk]
theorem ao0{P:Program}{ag:Array Oper}{o:Oper}{a:Act}{w w':World}{K:Act->World->Prop}{Q:Exit->Act->World->Prop}{E:Prop}(hgd:o.guard=none)(d s:Operand)(dT sT:TypeId)
 (ho:o.op=.call { callee:=.builtin .copy,args:=#[d,s],argTypes:=#[dT,sT] }) {D S v:Value} (hd:a.eval d=D) (hs:a.eval s=S) (hrun:(Builtin.copy_ #[dT,sT] o.type #[D,S]).run P w=.ok v w') (h:K (a.put o.dst v) w'):
 if Region.wanted o (yielded ag a.tmps)=true then Oper.wp P o a w K Q else E:=by
 have hw:Region.wanted o (yielded ag a.tmps)=true:=by simp[Region.wanted,hgd]
 rw[aX hw];unfold Oper.wp;simp[execOp,ho,resolve,invoke,builtin,hd,hs,hrun,Result.andThen];exact h
theorem ajB{x:Int}{m k c g dCap sCap sLen dLen:Nat}{a:Addr}{W:World}(hg:W.heap[g]? =some (.cells (qk x m c).toArray 3))(h:m+k<=c)(hk:k=Nat.min sLen dLen)
 (hsrc:∀j v,(List.replicate k (Value.int .i64 x))[j]? =some v->W.cell? (a.add j)=some v):
 ∃W1,(Builtin.copy_ #[41,41] 3 #[.slice (some ⟨g,m,none⟩) dLen dCap,.slice (some a) sLen sCap]).run Tryz.prog W=.ok (.int .i64 k) W1/\W1.heap[g]? =some (.cells (qk x (m+k) c).toArray 3)/\∀B w0,Below B w0 W->B<=g->Below B w0 W1:=by
 obtain⟨i0,hi,hz0,hz1,hz2⟩:=info_parts ajA;have hone:∀v∈List.replicate k (Value.int .i64 x),v.oneCell'=true:=λv hv=>by rw[(List.mem_replicate.1 hv).2];rfl
 have hrun:=run_copy_row (P:=Tryz.prog) W 41 41 3 3 g m dLen dCap a sLen sCap (qk x m c).toArray 3 (List.replicate k (.int .i64 x)) Tryz.underlying41 (by rw[hi];simp[hz1]) hg (by simpa using hk) hsrc (by simp[qk];omega) hone;rw[List.length_replicate]at hrun;refine⟨_,hrun,?_,λB w0 hb hB=>below_setRow hb hB _⟩;have:=setRow_heap W g _ (qk x (m+k) c).toArray 3 _ hg;rw[<- ahz x m k c h]at this ⊢;simpa[splice]using this
set_option maxRecDepth 100000 in
set_option maxHeartbeats 4000000 in
theorem ak3(x:Int)(c:Nat)(hc:c<=1000000000000)(a:Addr)(cap:Nat)(w:World)(hx:w.cell? a=some (.int .i64 x)):
 Calls Tryz.prog 166 #[.slice (some a) 1 cap,.int .i64 c] w λe W'=>∃v,e=.returned v/\W'.ownsRow w.heap.size 3 1 v c (List.replicate c (.int .i64 x))/\Below w.heap.size w W':=by
 have h0:(0:Int)<=(c:Int):=Int.natCast_nonneg _;obtain⟨i0,hi,hz0,hz1,hz2⟩:=info_parts ajA;have hms:=run_make (P:=Tryz.prog) w 41 3 i0 (.int .i64 0) Tryz.underlying41 hi hz0 .i64 .i64 c c (by omega) (Int.le_refl _) (by rw[hz2];omega) (by omega);rw[hz1]at hms;simp only[Int.toNat_natCast,Nat.mul_one,Value.cells]at hms;obtain⟨wv,vy⟩:∃wv,madeCells #[Value.int .i64 0] c=wv:=⟨_,rfl⟩;rw[vy]at hms;have hgm:=heap_alloc_new w (.cells wv 3);have B9:wv=(qk x 0 c).toArray:=by rw[<- vy];apply Array.ext';rw[toList_madeCells_one];simp[qk]
 rw[B9]at hgm hms;have W4:Below w.heap.size w (w.alloc (.cells (qk x 0 c).toArray 3)):=(Below.refl _ _).alloc (aB _) _;have hsz1:(Tryz.prog.info? 3).map (·.size)=some 1:=by rw[hi];simp[hz1]
 go_enter Tryz.func166,Tryz.ntmps166
 have hone:∀k,∀v∈List.replicate k (Value.int .i64 x),v.oneCell'=true:=λk v hv=>by rw[(List.mem_replicate.1 hv).2];rfl
 have hab:a.block<w.heap.size:=World.block_lt_of_cell? w a hx;obtain⟨W1,hcp,hg1,hb1⟩:=ajB (k:=min 1 c) (sLen:=1) (dLen:=c) (dCap:=c) (sCap:=cap) (a:=a) hgm (by omega) rfl λj v hj=>by
  have hj0:=(dH.1 hj).1;rw[List.length_replicate]at hj0;obtain rfl:j=0:=by omega
  rw[List.getElem?_replicate,aX hj0]at hj;cases hj;have:=(Below.refl w.heap.size w).alloc (aB _) (.cells (qk x 0 c).toArray 3) |>.cell hab;rw[<- hx,<- this];rfl
 have hb1:=hb1 _ _ W4 (aB _);rw[Nat.zero_add]at hg1;obtain⟨m0,hm0⟩:∃m0,min 1 c=m0:=⟨_,rfl⟩;rw[hm0]at hcp hg1
 go_wp2_with (go_at_call 217;refine(aoZ c hc _).mono ?_;rintro e w' ⟨rfl,hw⟩;rw[hw])
 go_loopw [8] (λ i W=>∃m:Nat,m<=c/\(0<c->0<m)/\i=.int .i64 m/\W.heap[w.heap.size]? =some (.cells (qk x m c).toArray 3)/\Below w.heap.size w W)
  (λ i _=>c-(intOf i).toNat)
 case atStart=>exact⟨m0,by omega,by omega,rfl,hg1,hb1⟩
 case round=>
  obtain⟨m,hm,hmp,rfl,hgW,hbW⟩:=hrel;by_cases hlt:m<c
  ·have hm1:(0:Int)<=(m:Int):=Int.natCast_nonneg _;have hm2:(m:Int)<=(c:Int):=(by omega);have hcm:¬c=m:=(by omega);obtain⟨W2,hcp2,hg2,hb2⟩:=ajB (W:=wr.drew) (k:=min m (c-m)) (sLen:=m) (dLen:=c-m) (dCap:=c-m) (sCap:=c) (a:=⟨w.heap.size,0,none⟩) (show wr.drew.heap[w.heap.size]? =_ from hgW) (by omega) rfl λj v hj=>by
    have hj0:=(dH.1 hj).1;rw[List.length_replicate]at hj0;rw[List.getElem?_replicate,aX hj0]at hj;have h1:(qk x m c)[j]? =some (.int .i64 x):=(by rw[qk,List.getElem?_append_left (by simp;omega),List.getElem?_replicate,aX (by omega)]);show wr.cell? _=_;rw[<- hj,<- h1];cases j with
    |zero=>simp[World.cell?,Addr.add,hgW]
    |succ j=>simp[World.cell?,Addr.add,hgW]
   have hb2:=hb2 w.heap.size w (show Below w.heap.size w wr.drew from⟨hbW.os,hbW.tape,hbW.output,hbW.size,hbW.block⟩) (aB _);obtain⟨k,hk⟩:∃k,min m (c-m)=k:=⟨_,rfl⟩;rw[hk]at hcp2 hg2
   go_wp2
   go_region_held3 (λ _=>True) (trivial) ((refine ao0 (by rfl) _ _ _ _ (by rfl) (by simp[Act.eval]) (by rfl) hcp2 ?_))
   have hw:i64.wrap ((m:Int)+(k:Int))=((m+k:Nat):Int):=(by rw[IntKind.wrap_i64];omega);rw[hw]
   go_wp2
   exact⟨⟨m+k,by omega,by omega,rfl,hg2,hb2⟩,by simp[intOf];omega⟩
  ·obtain rfl:m=c:=by omega
   go_wp2
   go_ret
   exact⟨_,rfl,⟨by simp,.inr ⟨w.heap.size,m,_,rfl,aB _,hgW,aB _,by unfold maxLen;omega,by simp[qk],by simp[qk]⟩⟩,hbW⟩
end Go.Proofs
namespace Go.Proofs
open Go.Shelf
def Tryz.lays144_ren:Go.Shelf.Ren:=⟨λ| 144=>246| 143=>277| 219=>297| 217=>304| 225=>305| 224=>306| 267=>307| 266=>310| 314=>311|n=>n,λ| 9=>9| 4=>4| 3=>3| 5=>5| 46=>189| 146=>346| 51=>232|n=>n,λ| 1=>0|n=>n⟩
theorem Tryz.lays144:Go.Proofs.Lays.n144 Tryz.prog Tryz.lays144_ren:={
 mixed:=by kernel_rfl
 f143:=Tryz.func277.trans (congrArg some (by kernel_rfl))
 f144:=Tryz.func246.trans (congrArg some (by kernel_rfl))
 f217:=Tryz.func304.trans (congrArg some (by kernel_rfl))
 f219:=Tryz.func297.trans (congrArg some (by kernel_rfl))
 f224:=Tryz.func306.trans (congrArg some (by kernel_rfl))
 f225:=Tryz.func305.trans (congrArg some (by kernel_rfl))
 f266:=Tryz.func310.trans (congrArg some (by kernel_rfl))
 f267:=Tryz.func307.trans (congrArg some (by kernel_rfl))
 f314:=Tryz.func311.trans (congrArg some (by kernel_rfl))
 t3:=Tryz.underlying3
 a3:=Tryz.isAgg3
 z3:=Tryz.sizeOf3
 v3:=Tryz.zeroValue3
 t4:=Tryz.underlying4
 a4:=Tryz.isAgg4
 z4:=Tryz.sizeOf4
 v4:=Tryz.zeroValue4
 t5:=Tryz.underlying5
 a5:=Tryz.isAgg5
 z5:=Tryz.sizeOf5
 v5:=Tryz.zeroValue5
 t9:=Tryz.underlying9
 a9:=Tryz.isAgg9
 z9:=Tryz.sizeOf9
 v9:=Tryz.zeroValue9
 t46:=Tryz.underlying189
 a46:=Tryz.isAgg189
 z46:=Tryz.sizeOf189
 v46:=Tryz.zeroValue189
 t51:=Tryz.underlying232
 a51:=Tryz.isAgg232
 z51:=Tryz.sizeOf232
 v51:=Tryz.zeroValue232
 t146:=Tryz.underlying346
 a146:=Tryz.isAgg346
 z146:=Tryz.sizeOf346
 v146:=Tryz.zeroValue346
 g1:=by kernel_rfl }
theorem ae2(s sub:ByteArray)(m:Int)(w:World)(hs:s.size<4294967281)(hm:w.cell? ⟨0,0,none⟩=some (.int .i64 m)):
 Calls Tryz.prog 246 #[.string s,.string sub] w λe w'=>e=.returned (.bool (Lib.contains s.data.toList sub.data.toList))/\w'=w:=Any.strings_Contains Tryz.lays144 s sub m w hs hm
end Go.Proofs
namespace Go.Proofs
open Go.Shelf
def Tryz.so112_ren:Go.Shelf.Ren:=⟨λ| 5=>112| 8=>84| 7=>174| 19=>132| 20=>133| 10=>228| 11=>229| 12=>230| 13=>231| 14=>232| 15=>233| 16=>234| 17=>235| 18=>236| 30=>266| 31=>181| 32=>182| 33=>267| 34=>268| 35=>85| 40=>288|n=>n,λ| 23=>41| 25=>3| 3=>3| 32=>189| 22=>41| 0=>0| 44=>232| 46=>234| 4=>4| 36=>226| 35=>225| 41=>46| 5=>5| 9=>9| 53=>283| 57=>287| 63=>333| 64=>304|n=>n,λ|n=>n⟩
theorem Tryz.so112:Go.Proofs.SlLaysM.n5 Tryz.prog Tryz.so112_ren:={
 mixed:=by kernel_rfl
 f5:=⟨Tryz.f112.name,by decide,Tryz.func112.trans (congrArg some (by kernel_rfl))⟩
 f7:=⟨Tryz.f174.name,by decide,Tryz.func174.trans (congrArg some (by kernel_rfl))⟩
 f8:=Tryz.func84.trans (congrArg some (by kernel_rfl))
 f10:=⟨Tryz.f228.name,by decide,Tryz.func228.trans (congrArg some (by kernel_rfl))⟩
 f11:=⟨Tryz.f229.name,by decide,Tryz.func229.trans (congrArg some (by kernel_rfl))⟩
 f12:=⟨Tryz.f230.name,by decide,Tryz.func230.trans (congrArg some (by kernel_rfl))⟩
 f13:=⟨Tryz.f231.name,by decide,Tryz.func231.trans (congrArg some (by kernel_rfl))⟩
 f14:=⟨Tryz.f232.name,by decide,Tryz.func232.trans (congrArg some (by kernel_rfl))⟩
 f15:=⟨Tryz.f233.name,by decide,Tryz.func233.trans (congrArg some (by kernel_rfl))⟩
 f16:=⟨Tryz.f234.name,by decide,Tryz.func234.trans (congrArg some (by kernel_rfl))⟩
 f17:=⟨Tryz.f235.name,by decide,Tryz.func235.trans (congrArg some (by kernel_rfl))⟩
 f18:=⟨Tryz.f236.name,by decide,Tryz.func236.trans (congrArg some (by kernel_rfl))⟩
 f19:=Tryz.func132.trans (congrArg some (by kernel_rfl))
 f20:=Tryz.func133.trans (congrArg some (by kernel_rfl))
 f30:=⟨Tryz.f266.name,by decide,Tryz.func266.trans (congrArg some (by kernel_rfl))⟩
 f31:=Tryz.func181.trans (congrArg some (by kernel_rfl))
 f32:=Tryz.func182.trans (congrArg some (by kernel_rfl))
 f33:=⟨Tryz.f267.name,by decide,Tryz.func267.trans (congrArg some (by kernel_rfl))⟩
 f34:=⟨Tryz.f268.name,by decide,Tryz.func268.trans (congrArg some (by kernel_rfl))⟩
 f35:=⟨Tryz.f85.name,by decide,Tryz.func85.trans (congrArg some (by kernel_rfl))⟩
 f40:=⟨Tryz.f288.name,by decide,Tryz.func288.trans (congrArg some (by kernel_rfl))⟩
 t0:=Tryz.underlying0
 a0:=Tryz.isAgg0
 z0:=Tryz.sizeOf0
 v0:=Tryz.zeroValue0
 t3:=Tryz.underlying3
 a3:=Tryz.isAgg3
 z3:=Tryz.sizeOf3
 v3:=Tryz.zeroValue3
 t4:=Tryz.underlying4
 a4:=Tryz.isAgg4
 z4:=Tryz.sizeOf4
 v4:=Tryz.zeroValue4
 t5:=Tryz.underlying5
 a5:=Tryz.isAgg5
 z5:=Tryz.sizeOf5
 v5:=Tryz.zeroValue5
 t9:=Tryz.underlying9
 a9:=Tryz.isAgg9
 z9:=Tryz.sizeOf9
 v9:=Tryz.zeroValue9
 t22:=Tryz.underlying41
 a22:=Tryz.isAgg41
 z22:=Tryz.sizeOf41
 v22:=Tryz.zeroValue41
 t23:=Tryz.underlying41
 a23:=Tryz.isAgg41
 z23:=Tryz.sizeOf41
 v23:=Tryz.zeroValue41
 t25:=Tryz.underlying3
 a25:=Tryz.isAgg3
 z25:=Tryz.sizeOf3
 v25:=Tryz.zeroValue3
 t32:=Tryz.underlying189
 a32:=Tryz.isAgg189
 z32:=Tryz.sizeOf189
 v32:=Tryz.zeroValue189
 t35:=Tryz.underlying225
 a35:=Tryz.isAgg225
 z35:=Tryz.sizeOf225
 v35:=Tryz.zeroValue225
 t36:=Tryz.underlying226
 a36:=Tryz.isAgg226
 z36:=Tryz.sizeOf226
 v36:=Tryz.zeroValue226
 t41:=Tryz.underlying46
 a41:=Tryz.isAgg46
 z41:=Tryz.sizeOf46
 v41:=Tryz.zeroValue46
 t44:=Tryz.underlying232
 a44:=Tryz.isAgg232
 z44:=Tryz.sizeOf232
 v44:=Tryz.zeroValue232
 t46:=Tryz.underlying234
 a46:=Tryz.isAgg234
 z46:=Tryz.sizeOf234
 v46:=Tryz.zeroValue234
 t53:=Tryz.underlying283
 a53:=Tryz.isAgg283
 z53:=Tryz.sizeOf283
 v53:=Tryz.zeroValue283
 t57:=Tryz.underlying287
 a57:=Tryz.isAgg287
 z57:=Tryz.sizeOf287
 v57:=Tryz.zeroValue287
 t63:=Tryz.underlying333
 a63:=Tryz.isAgg333
 z63:=Tryz.sizeOf333
 v63:=Tryz.zeroValue333
 t64:=Tryz.underlying304
 a64:=Tryz.isAgg304
 z64:=Tryz.sizeOf304
 v64:=Tryz.zeroValue304 }
def Tryz.so238_ren:Go.Shelf.Ren:=⟨λ| 6=>238| 15=>84| 14=>269| 28=>132| 29=>133| 20=>289| 21=>290| 22=>291| 23=>292| 24=>293| 25=>294| 26=>295| 27=>296| 46=>301| 47=>181| 48=>182| 49=>302| 50=>303| 57=>309|n=>n,λ| 22=>274| 24=>276| 25=>328| 3=>3| 39=>189| 0=>0| 53=>232| 55=>234| 4=>4| 46=>226| 45=>225| 50=>46| 5=>5| 9=>9| 66=>283| 70=>287| 76=>333| 77=>304|n=>n,λ|n=>n⟩
theorem Tryz.so238:Go.Proofs.SlLaysF0.n6 Tryz.prog Tryz.so238_ren:={
 mixed:=by kernel_rfl
 f6:=⟨Tryz.f238.name,by decide,Tryz.func238.trans (congrArg some (by kernel_rfl))⟩
 f14:=⟨Tryz.f269.name,by decide,Tryz.func269.trans (congrArg some (by kernel_rfl))⟩
 f15:=Tryz.func84.trans (congrArg some (by kernel_rfl))
 f20:=⟨Tryz.f289.name,by decide,Tryz.func289.trans (congrArg some (by kernel_rfl))⟩
 f21:=⟨Tryz.f290.name,by decide,Tryz.func290.trans (congrArg some (by kernel_rfl))⟩
 f22:=⟨Tryz.f291.name,by decide,Tryz.func291.trans (congrArg some (by kernel_rfl))⟩
 f23:=⟨Tryz.f292.name,by decide,Tryz.func292.trans (congrArg some (by kernel_rfl))⟩
 f24:=⟨Tryz.f293.name,by decide,Tryz.func293.trans (congrArg some (by kernel_rfl))⟩
 f25:=⟨Tryz.f294.name,by decide,Tryz.func294.trans (congrArg some (by kernel_rfl))⟩
 f26:=⟨Tryz.f295.name,by decide,Tryz.func295.trans (congrArg some (by kernel_rfl))⟩
 f27:=⟨Tryz.f296.name,by decide,Tryz.func296.trans (congrArg some (by kernel_rfl))⟩
 f28:=Tryz.func132.trans (congrArg some (by kernel_rfl))
 f29:=Tryz.func133.trans (congrArg some (by kernel_rfl))
 f46:=⟨Tryz.f301.name,by decide,Tryz.func301.trans (congrArg some (by kernel_rfl))⟩
 f47:=Tryz.func181.trans (congrArg some (by kernel_rfl))
 f48:=Tryz.func182.trans (congrArg some (by kernel_rfl))
 f49:=⟨Tryz.f302.name,by decide,Tryz.func302.trans (congrArg some (by kernel_rfl))⟩
 f50:=⟨Tryz.f303.name,by decide,Tryz.func303.trans (congrArg some (by kernel_rfl))⟩
 f57:=⟨Tryz.f309.name,by decide,Tryz.func309.trans (congrArg some (by kernel_rfl))⟩
 t0:=Tryz.underlying0
 a0:=Tryz.isAgg0
 z0:=Tryz.sizeOf0
 v0:=Tryz.zeroValue0
 t3:=Tryz.underlying3
 a3:=Tryz.isAgg3
 z3:=Tryz.sizeOf3
 v3:=Tryz.zeroValue3
 t4:=Tryz.underlying4
 a4:=Tryz.isAgg4
 z4:=Tryz.sizeOf4
 v4:=Tryz.zeroValue4
 t5:=Tryz.underlying5
 a5:=Tryz.isAgg5
 z5:=Tryz.sizeOf5
 v5:=Tryz.zeroValue5
 t9:=Tryz.underlying9
 a9:=Tryz.isAgg9
 z9:=Tryz.sizeOf9
 v9:=Tryz.zeroValue9
 t22:=Tryz.underlying274
 a22:=Tryz.isAgg274
 z22:=Tryz.sizeOf274
 v22:=Tryz.zeroValue274
 t25:=Tryz.underlying328
 a25:=Tryz.isAgg328
 z25:=Tryz.sizeOf328
 v25:=Tryz.zeroValue328
 t39:=Tryz.underlying189
 a39:=Tryz.isAgg189
 z39:=Tryz.sizeOf189
 v39:=Tryz.zeroValue189
 t45:=Tryz.underlying225
 a45:=Tryz.isAgg225
 z45:=Tryz.sizeOf225
 v45:=Tryz.zeroValue225
 t46:=Tryz.underlying226
 a46:=Tryz.isAgg226
 z46:=Tryz.sizeOf226
 v46:=Tryz.zeroValue226
 t50:=Tryz.underlying46
 a50:=Tryz.isAgg46
 z50:=Tryz.sizeOf46
 v50:=Tryz.zeroValue46
 t53:=Tryz.underlying232
 a53:=Tryz.isAgg232
 z53:=Tryz.sizeOf232
 v53:=Tryz.zeroValue232
 t55:=Tryz.underlying234
 a55:=Tryz.isAgg234
 z55:=Tryz.sizeOf234
 v55:=Tryz.zeroValue234
 t66:=Tryz.underlying283
 a66:=Tryz.isAgg283
 z66:=Tryz.sizeOf283
 v66:=Tryz.zeroValue283
 t70:=Tryz.underlying287
 a70:=Tryz.isAgg287
 z70:=Tryz.sizeOf287
 v70:=Tryz.zeroValue287
 t76:=Tryz.underlying333
 a76:=Tryz.isAgg333
 z76:=Tryz.sizeOf333
 v76:=Tryz.zeroValue333
 t77:=Tryz.underlying304
 a77:=Tryz.isAgg304
 z77:=Tryz.sizeOf304
 v77:=Tryz.zeroValue304 }
def Tryz.so48_ren:Go.Shelf.Ren:=⟨λ| 6=>48| 15=>84| 14=>83| 28=>132| 29=>133| 20=>124| 21=>125| 22=>126| 23=>127| 24=>128| 25=>129| 26=>130| 27=>131| 46=>180| 47=>181| 48=>182| 49=>183| 50=>184| 57=>244|n=>n,λ| 22=>96| 24=>50| 25=>138| 3=>3| 39=>189| 0=>0| 53=>232| 55=>234| 4=>4| 46=>226| 45=>225| 50=>46| 5=>5| 9=>9| 66=>283| 70=>287| 76=>333| 77=>304|n=>n,λ|n=>n⟩
theorem Tryz.so48:Go.Proofs.SlLaysF0.n6 Tryz.prog Tryz.so48_ren:={
 mixed:=by kernel_rfl
 f6:=⟨Tryz.f48.name,by decide,Tryz.func48.trans (congrArg some (by kernel_rfl))⟩
 f14:=⟨Tryz.f83.name,by decide,Tryz.func83.trans (congrArg some (by kernel_rfl))⟩
 f15:=Tryz.func84.trans (congrArg some (by kernel_rfl))
 f20:=⟨Tryz.f124.name,by decide,Tryz.func124.trans (congrArg some (by kernel_rfl))⟩
 f21:=⟨Tryz.f125.name,by decide,Tryz.func125.trans (congrArg some (by kernel_rfl))⟩
 f22:=⟨Tryz.f126.name,by decide,Tryz.func126.trans (congrArg some (by kernel_rfl))⟩
 f23:=⟨Tryz.f127.name,by decide,Tryz.func127.trans (congrArg some (by kernel_rfl))⟩
 f24:=⟨Tryz.f128.name,by decide,Tryz.func128.trans (congrArg some (by kernel_rfl))⟩
 f25:=⟨Tryz.f129.name,by decide,Tryz.func129.trans (congrArg some (by kernel_rfl))⟩
 f26:=⟨Tryz.f130.name,by decide,Tryz.func130.trans (congrArg some (by kernel_rfl))⟩
 f27:=⟨Tryz.f131.name,by decide,Tryz.func131.trans (congrArg some (by kernel_rfl))⟩
 f28:=Tryz.func132.trans (congrArg some (by kernel_rfl))
 f29:=Tryz.func133.trans (congrArg some (by kernel_rfl))
 f46:=⟨Tryz.f180.name,by decide,Tryz.func180.trans (congrArg some (by kernel_rfl))⟩
 f47:=Tryz.func181.trans (congrArg some (by kernel_rfl))
 f48:=Tryz.func182.trans (congrArg some (by kernel_rfl))
 f49:=⟨Tryz.f183.name,by decide,Tryz.func183.trans (congrArg some (by kernel_rfl))⟩
 f50:=⟨Tryz.f184.name,by decide,Tryz.func184.trans (congrArg some (by kernel_rfl))⟩
 f57:=⟨Tryz.f244.name,by decide,Tryz.func244.trans (congrArg some (by kernel_rfl))⟩
 t0:=Tryz.underlying0
 a0:=Tryz.isAgg0
 z0:=Tryz.sizeOf0
 v0:=Tryz.zeroValue0
 t3:=Tryz.underlying3
 a3:=Tryz.isAgg3
 z3:=Tryz.sizeOf3
 v3:=Tryz.zeroValue3
 t4:=Tryz.underlying4
 a4:=Tryz.isAgg4
 z4:=Tryz.sizeOf4
 v4:=Tryz.zeroValue4
 t5:=Tryz.underlying5
 a5:=Tryz.isAgg5
 z5:=Tryz.sizeOf5
 v5:=Tryz.zeroValue5
 t9:=Tryz.underlying9
 a9:=Tryz.isAgg9
 z9:=Tryz.sizeOf9
 v9:=Tryz.zeroValue9
 t22:=Tryz.underlying96
 a22:=Tryz.isAgg96
 z22:=Tryz.sizeOf96
 v22:=Tryz.zeroValue96
 t25:=Tryz.underlying138
 a25:=Tryz.isAgg138
 z25:=Tryz.sizeOf138
 v25:=Tryz.zeroValue138
 t39:=Tryz.underlying189
 a39:=Tryz.isAgg189
 z39:=Tryz.sizeOf189
 v39:=Tryz.zeroValue189
 t45:=Tryz.underlying225
 a45:=Tryz.isAgg225
 z45:=Tryz.sizeOf225
 v45:=Tryz.zeroValue225
 t46:=Tryz.underlying226
 a46:=Tryz.isAgg226
 z46:=Tryz.sizeOf226
 v46:=Tryz.zeroValue226
 t50:=Tryz.underlying46
 a50:=Tryz.isAgg46
 z50:=Tryz.sizeOf46
 v50:=Tryz.zeroValue46
 t53:=Tryz.underlying232
 a53:=Tryz.isAgg232
 z53:=Tryz.sizeOf232
 v53:=Tryz.zeroValue232
 t55:=Tryz.underlying234
 a55:=Tryz.isAgg234
 z55:=Tryz.sizeOf234
 v55:=Tryz.zeroValue234
 t66:=Tryz.underlying283
 a66:=Tryz.isAgg283
 z66:=Tryz.sizeOf283
 v66:=Tryz.zeroValue283
 t70:=Tryz.underlying287
 a70:=Tryz.isAgg287
 z70:=Tryz.sizeOf287
 v70:=Tryz.zeroValue287
 t76:=Tryz.underlying333
 a76:=Tryz.isAgg333
 z76:=Tryz.sizeOf333
 v76:=Tryz.zeroValue333
 t77:=Tryz.underlying304
 a77:=Tryz.isAgg304
 z77:=Tryz.sizeOf304
 v77:=Tryz.zeroValue304 }
def Tryz.so195_ren:Go.Shelf.Ren:=⟨λ| 6=>195| 15=>84| 14=>253| 28=>132| 29=>133| 20=>278| 21=>279| 22=>280| 23=>281| 24=>282| 25=>283| 26=>284| 27=>285| 46=>298| 47=>181| 48=>182| 49=>299| 50=>300| 57=>308|n=>n,λ| 22=>40| 24=>90| 25=>259| 3=>3| 39=>189| 0=>0| 53=>232| 55=>234| 4=>4| 46=>226| 45=>225| 50=>46| 5=>5| 9=>9| 66=>283| 70=>287| 76=>333| 77=>304|n=>n,λ|n=>n⟩
theorem Tryz.so195:Go.Proofs.SlLaysF0.n6 Tryz.prog Tryz.so195_ren:={
 mixed:=by kernel_rfl
 f6:=⟨Tryz.f195.name,by decide,Tryz.func195.trans (congrArg some (by kernel_rfl))⟩
 f14:=⟨Tryz.f253.name,by decide,Tryz.func253.trans (congrArg some (by kernel_rfl))⟩
 f15:=Tryz.func84.trans (congrArg some (by kernel_rfl))
 f20:=⟨Tryz.f278.name,by decide,Tryz.func278.trans (congrArg some (by kernel_rfl))⟩
 f21:=⟨Tryz.f279.name,by decide,Tryz.func279.trans (congrArg some (by kernel_rfl))⟩
 f22:=⟨Tryz.f280.name,by decide,Tryz.func280.trans (congrArg some (by kernel_rfl))⟩
 f23:=⟨Tryz.f281.name,by decide,Tryz.func281.trans (congrArg some (by kernel_rfl))⟩
 f24:=⟨Tryz.f282.name,by decide,Tryz.func282.trans (congrArg some (by kernel_rfl))⟩
 f25:=⟨Tryz.f283.name,by decide,Tryz.func283.trans (congrArg some (by kernel_rfl))⟩
 f26:=⟨Tryz.f284.name,by decide,Tryz.func284.trans (congrArg some (by kernel_rfl))⟩
 f27:=⟨Tryz.f285.name,by decide,Tryz.func285.trans (congrArg some (by kernel_rfl))⟩
 f28:=Tryz.func132.trans (congrArg some (by kernel_rfl))
 f29:=Tryz.func133.trans (congrArg some (by kernel_rfl))
 f46:=⟨Tryz.f298.name,by decide,Tryz.func298.trans (congrArg some (by kernel_rfl))⟩
 f47:=Tryz.func181.trans (congrArg some (by kernel_rfl))
 f48:=Tryz.func182.trans (congrArg some (by kernel_rfl))
 f49:=⟨Tryz.f299.name,by decide,Tryz.func299.trans (congrArg some (by kernel_rfl))⟩
 f50:=⟨Tryz.f300.name,by decide,Tryz.func300.trans (congrArg some (by kernel_rfl))⟩
 f57:=⟨Tryz.f308.name,by decide,Tryz.func308.trans (congrArg some (by kernel_rfl))⟩
 t0:=Tryz.underlying0
 a0:=Tryz.isAgg0
 z0:=Tryz.sizeOf0
 v0:=Tryz.zeroValue0
 t3:=Tryz.underlying3
 a3:=Tryz.isAgg3
 z3:=Tryz.sizeOf3
 v3:=Tryz.zeroValue3
 t4:=Tryz.underlying4
 a4:=Tryz.isAgg4
 z4:=Tryz.sizeOf4
 v4:=Tryz.zeroValue4
 t5:=Tryz.underlying5
 a5:=Tryz.isAgg5
 z5:=Tryz.sizeOf5
 v5:=Tryz.zeroValue5
 t9:=Tryz.underlying9
 a9:=Tryz.isAgg9
 z9:=Tryz.sizeOf9
 v9:=Tryz.zeroValue9
 t22:=Tryz.underlying40
 a22:=Tryz.isAgg40
 z22:=Tryz.sizeOf40
 v22:=Tryz.zeroValue40
 t25:=Tryz.underlying259
 a25:=Tryz.isAgg259
 z25:=Tryz.sizeOf259
 v25:=Tryz.zeroValue259
 t39:=Tryz.underlying189
 a39:=Tryz.isAgg189
 z39:=Tryz.sizeOf189
 v39:=Tryz.zeroValue189
 t45:=Tryz.underlying225
 a45:=Tryz.isAgg225
 z45:=Tryz.sizeOf225
 v45:=Tryz.zeroValue225
 t46:=Tryz.underlying226
 a46:=Tryz.isAgg226
 z46:=Tryz.sizeOf226
 v46:=Tryz.zeroValue226
 t50:=Tryz.underlying46
 a50:=Tryz.isAgg46
 z50:=Tryz.sizeOf46
 v50:=Tryz.zeroValue46
 t53:=Tryz.underlying232
 a53:=Tryz.isAgg232
 z53:=Tryz.sizeOf232
 v53:=Tryz.zeroValue232
 t55:=Tryz.underlying234
 a55:=Tryz.isAgg234
 z55:=Tryz.sizeOf234
 v55:=Tryz.zeroValue234
 t66:=Tryz.underlying283
 a66:=Tryz.isAgg283
 z66:=Tryz.sizeOf283
 v66:=Tryz.zeroValue283
 t70:=Tryz.underlying287
 a70:=Tryz.isAgg287
 z70:=Tryz.sizeOf287
 v70:=Tryz.zeroValue287
 t76:=Tryz.underlying333
 a76:=Tryz.isAgg333
 z76:=Tryz.sizeOf333
 v76:=Tryz.zeroValue333
 t77:=Tryz.underlying304
 a77:=Tryz.isAgg304
 z77:=Tryz.sizeOf304
 v77:=Tryz.zeroValue304 }
end Go.Proofs
namespace Go.Proofs
open Go.RowKit Go.Sort
theorem sD{W:World}{a:Addr}{v:Value}(h:W.cell? a=some v)(o:Obj):(W.alloc o).cell? a=some v:=by
 have hlt:a.block<W.heap.size:=by
  unfold World.cell? at h;cases hh:W.heap[a.block]? with
  |none=>rw[hh]at h;cases h
  |some o=>exact(Array.getElem?_eq_some_iff.1 hh).1
 unfold World.cell? at h ⊢;rw[(MapKept.heap_alloc W o).2 _ hlt];exact h
theorem ao1{P:Program}{ag:Array Oper}{o:Oper}{a:Act}{w w':World}{K:Act->World->Prop}{Q:Exit->Act->World->Prop}{E:Prop}(hgd:o.guard=none)(t:TypeId)(x j:Operand)(ok:Bool)
 (ho:o.op=.lookup t x j ok) {X J v:Value} (hx:a.eval x=X) (hj:a.eval j=J) (hrun:(Instr.lookup t X J ok).run P w=.ok v w') (h:K (a.put o.dst v) w'):
 if Region.wanted o (yielded ag a.tmps)=true then Oper.wp P o a w K Q else E:=by
 have hw:Region.wanted o (yielded ag a.tmps)=true:=by simp[Region.wanted,hgd]
 rw[aX hw];unfold Oper.wp;simp[execOp,ho,hx,hj,hrun,Result.andThen];exact h
set_option maxHeartbeats 1000000 in
theorem ao2(l u f n v:Int)(cA:Addr)(b:Nat)(W:World)(hb:b<W.heap.size)(hA:W.cell? cA=some (.map (some b)))(hl:∀W',W'.heap[b]? =W.heap[b]?->(Instr.lookup 130 (.map (some b)) (.agg #[.int .i64 l,.int .i64 n]) false).run Tryz.prog W'=.ok (.int .i64 v) W'):
 Calls Tryz.prog 47 #[.agg #[.int .i64 l,.int .i64 u,.int .i64 f,.int .i64 n],.pointer (some cA)] W λe w'=>e=.returned (.int .i64 (i64.wrap (f*v)))/\∃q os',w'=grow (W.drewN q) os':=by
 go_enter Tryz.func47,Tryz.ntmps47
 go_wp2
 have hA2:(W.alloc (Obj.cells #[Value.int i64 l,Value.int i64 u,Value.int i64 f,Value.int i64 n] 50)).cell? cA=some (.map (some b)):=sD hA _;have hc:∀j x,(#[Value.int i64 l,Value.int i64 u,Value.int i64 f,Value.int i64 n]:Array Value)[j]? =some x->(W.alloc (Obj.cells #[Value.int i64 l,Value.int i64 u,Value.int i64 f,Value.int i64 n] 50)).drew.cell? ⟨W.heap.size,j,none⟩=some x:=by intro j x h;have:=(MapKept.heap_alloc W (Obj.cells #[Value.int i64 l,Value.int i64 u,Value.int i64 f,Value.int i64 n] 50)).1;show(match (W.alloc _).heap[W.heap.size]? with|some (Obj.cells c _ _)=>if (none:Option Nat).isSome=true then none else c[j]? |_=>none)=some x;rw[this];exact h
 go_region_held3 (λ W'=>W'.cell? ⟨W.heap.size,0,none⟩=some (.int .i64 l)/\W'.cell? ⟨W.heap.size,2,none⟩=some (.int .i64 f)/\W'.cell? ⟨W.heap.size,3,none⟩=some (.int .i64 n)/\W'.cell? cA=some (.map (some b))/\W'.heap[b]? =W.heap[b]?) (exact ⟨hc _ _ rfl,hc _ _ rfl,hc _ _ rfl,hA2,(MapKept.heap_alloc W _).2 _ hb⟩) ((refine ao1 (by rfl) _ _ _ _ (by rfl) (by rfl) (by rfl) (hl _ (by assumption)) ?_))
 go_wp2
 go_ret
 exact⟨rfl,1,_,by rw[alloc_eq_grow];rfl⟩
theorem qo{W:World}{a:Addr}{v:Value}(h:W.cell? a=some v)(q:Nat)(os:Array Obj):(grow (W.drewN q) os).cell? a=some v:=by
 have hlt:a.block<W.heap.size:=by
  unfold World.cell? at h;cases hh:W.heap[a.block]? with
  |none=>rw[hh]at h;cases h
  |some o=>exact(Array.getElem?_eq_some_iff.1 hh).1
 unfold World.cell? at h ⊢;simp only[grow,World.drewN];rw[Array.getElem?_append_left hlt];exact h
theorem Ob{W X:World}(h:∃q os,X=grow (W.drewN q) os)(k:Nat)(os2:Array Obj):∃q os,grow (X.drewN k) os2=grow (W.drewN q) os:=by obtain⟨q,os,rfl⟩:=h;refine⟨q+k,os++os2,?_⟩;rw[<- grow_grow];simp only[grow,World.drewN,Nat.add_assoc]
theorem Oc{W X:World}(h:∃q os,X=grow (W.drewN q) os)(o:Obj):∃q os,X.alloc o=grow (W.drewN q) os:=by rw[alloc_eq_grow];exact Ob h 0 _
theorem acC{W X:World}(h:∃q os,X=grow (W.drewN q) os)(k:Nat):∃q os,X.drewN k=grow (W.drewN q) os:=by
 have:=Ob h k #[]
 rwa [grow_empty]at this
theorem ao3{X:World}{o:Obj}{k:Nat}(h:X.heap.size=k):(X.alloc o).heap[k]? =some o:=h ▸ (MapKept.heap_alloc X o).1
theorem acD{W:World}:∃q os,W=grow (W.drewN q) os:=⟨0,#[],by rw[grow_empty];rfl⟩
set_option maxHeartbeats 2000000 in
theorem aqw(l1 u1 f1 n1 l2 u2 f2 n2:Int)(sz:Int->Int->Int->Int)(cf:Int->Int->Int)(Is:Int->Int->Int->Int->Int->Int)(cF cA:Addr)(I:World->Prop)(W:World)(hF:W.cell? cF=some (.func (.func 47) #[] #[.pointer (some cA)]))
 (hI:I W) (Ha:∀W' q os,I W'->I (grow (W'.drewN q) os))
 (hS:∀l u f n W',I W'->Calls Tryz.prog 47 #[.agg #[.int .i64 l,.int .i64 u,.int .i64 f,.int .i64 n],.pointer (some cA)] W' λe w'=>e=.returned (.int .i64 (sz l f n))/\∃q os',w'=grow (W'.drewN q) os')
 (hC:∀x y W',I W'->Calls Tryz.prog 51 #[.int .i64 x,.int .i64 y] W' λe w'=>e=.returned (.int .i64 (cf x y))/\∃q os',w'=grow (W'.drewN q) os')
 (hO:∀(g:Nat) (a b c d e:Int) W',I W'->W'.heap[g]? =some (.cells #[.int .i64 a,.int .i64 b,.int .i64 c,.int .i64 d,.int .i64 e] 3)->Calls Tryz.prog 50 #[.slice (some ⟨g,0,none⟩) 5 5] W' λr w'=>r=.returned (.int .i64 (Is a b c d e))/\∃q os',w'=grow (W'.drewN q) os'):
 Calls Tryz.prog 49 #[.agg #[.int .i64 l1,.int .i64 u1,.int .i64 f1,.int .i64 n1],.agg #[.int .i64 l2,.int .i64 u2,.int .i64 f2,.int .i64 n2],.pointer (some cF)] W λe w'=>
  e=.returned (.int .i64 (Is (cf (sz l1 f1 n1) (sz l2 f2 n2)) (cf f1 f2) (cf l1 l2) (cf u1 u2) (cf n1 n2)))/\∃q os',w'=grow (W.drewN q) os':=by
 have Lq:∀X o,I X->I (X.alloc o):=λX o h=>by rw[alloc_eq_grow];exact Ha X 0 _ h
 have XN:∀X k,I X->I (X.drewN k):=λX k h=>by have:=Ha X k #[] h;rwa [grow_empty]at this
 go_enter Tryz.func49,Tryz.ntmps49
 go_wp2
 have hcl:∀(o:Array Value)(t:TypeId)(W':World)(j:Nat)(x:Value),o[j]? =some x->(W'.alloc (Obj.cells o t)).cell? ⟨W'.heap.size,j,none⟩=some x:=by intro o t W' j x h;have:=(MapKept.heap_alloc W' (Obj.cells o t)).1;show(match (W'.alloc _).heap[W'.heap.size]? with|some (Obj.cells c _ _)=>if (none:Option Nat).isSome=true then none else c[j]? |_=>none)=some x;rw[this];exact h
 have hsz:∀(W':World)(o:Obj),(W'.alloc o).heap.size=W'.heap.size+1:=λW' o=>by rw[alloc_eq_grow];simp[grow]
 generalize hw2:((W.alloc (Obj.cells #[Value.int i64 l1,Value.int i64 u1,Value.int i64 f1,Value.int i64 n1] 50)).alloc (Obj.cells #[Value.int i64 l2,Value.int i64 u2,Value.int i64 f2,Value.int i64 n2] 50))=w2;have hG2:∃q os,w2=grow (W.drewN q) os:=hw2 ▸ Oc (Oc acD _) _;have hI2:I w2:=hw2 ▸ Lq _ _ (Lq _ _ hI);have hF2:w2.cell? cF=some (.func (.func 47) #[] #[.pointer (some cA)]):=hw2 ▸ sD (sD hF _) _;have hA2:w2.cell? ⟨W.heap.size,0,none⟩=some (.int .i64 l1)/\w2.cell? ⟨W.heap.size,1,none⟩=some (.int .i64 u1)/\w2.cell? ⟨W.heap.size,2,none⟩=some (.int .i64 f1)/\w2.cell? ⟨W.heap.size,3,none⟩=some (.int .i64 n1):=hw2 ▸ ⟨sD (hcl _ _ _ _ _ rfl) _,sD (hcl _ _ _ _ _ rfl) _,sD (hcl _ _ _ _ _ rfl) _,sD (hcl _ _ _ _ _ rfl) _⟩;have hB2:w2.cell? ⟨W.heap.size+1,0,none⟩=some (.int .i64 l2)/\w2.cell? ⟨W.heap.size+1,1,none⟩=some (.int .i64 u2)/\w2.cell? ⟨W.heap.size+1,2,none⟩=some (.int .i64 f2)/\w2.cell? ⟨W.heap.size+1,3,none⟩=some (.int .i64 n2):=by rw[<- hw2,<- hsz W (Obj.cells #[Value.int i64 l1,Value.int i64 u1,Value.int i64 f1,Value.int i64 n1] 50)];exact⟨hcl _ _ _ _ _ rfl,hcl _ _ _ _ _ rfl,hcl _ _ _ _ _ rfl,hcl _ _ _ _ _ rfl⟩
 have hS2:∀X,(∃ q os,X=grow (w2.drewN q) os)->(∃ q os',X=grow (W.drewN q) os')/\I X/\X.cell? cF=some (.func (.func 47) #[] #[.pointer (some cA)])/\X.cell? ⟨W.heap.size,0,none⟩=some (.int .i64 l1)/\X.cell? ⟨W.heap.size,1,none⟩=some (.int .i64 u1)/\X.cell? ⟨W.heap.size,2,none⟩=some (.int .i64 f1)/\X.cell? ⟨W.heap.size,3,none⟩=some (.int .i64 n1)/\X.cell? ⟨W.heap.size+1,0,none⟩=some (.int .i64 l2)/\X.cell? ⟨W.heap.size+1,1,none⟩=some (.int .i64 u2)/\X.cell? ⟨W.heap.size+1,2,none⟩=some (.int .i64 f2)/\X.cell? ⟨W.heap.size+1,3,none⟩=some (.int .i64 n2):=by rintro X ⟨q,os,rfl⟩;exact⟨Ob hG2 _ _,Ha _ _ _ hI2,qo hF2 _ _,qo hA2.1 _ _,qo hA2.2.1 _ _,qo hA2.2.2.1 _ _,qo hA2.2.2.2 _ _,qo hB2.1 _ _,qo hB2.2.1 _ _,qo hB2.2.2.1 _ _,qo hB2.2.2.2 _ _⟩
 go_region_held3 (λ W'=>(∃ q os',W'=grow (W.drewN q) os')/\I W'/\W'.cell? cF=some (.func (.func 47) #[] #[.pointer (some cA)])/\W'.cell? ⟨W.heap.size,0,none⟩=some (.int .i64 l1)/\W'.cell? ⟨W.heap.size,1,none⟩=some (.int .i64 u1)/\W'.cell? ⟨W.heap.size,2,none⟩=some (.int .i64 f1)/\W'.cell? ⟨W.heap.size,3,none⟩=some (.int .i64 n1)/\W'.cell? ⟨W.heap.size+1,0,none⟩=some (.int .i64 l2)/\W'.cell? ⟨W.heap.size+1,1,none⟩=some (.int .i64 u2)/\W'.cell? ⟨W.heap.size+1,2,none⟩=some (.int .i64 f2)/\W'.cell? ⟨W.heap.size+1,3,none⟩=some (.int .i64 n2))
  (exact hS2 _ (by repeat (first|exact acD|refine Ob ?_ _ _|refine Oc ?_ _|refine acC ?_ _|exact acC acD 1)))
  (first
   |(go_at_call 51;refine(hC _ _ _ (by repeat (first|exact hI2|refine Ha _ _ _ ?_|refine Lq _ _ ?_|refine XN _ _ ?_))).mono ?_;rintro e w' ⟨rfl,q,os,rfl⟩)
   |(go_at_call 47;refine(hS _ _ _ _ _ (by repeat (first|exact hI2|refine Ha _ _ _ ?_|refine Lq _ _ ?_|refine XN _ _ ?_))).mono ?_;rintro e w' ⟨rfl,q,os,rfl⟩)
   |(go_at_call 50;refine(hO _ (cf (sz l1 f1 n1) (sz l2 f2 n2)) (cf f1 f2) (cf l1 l2) (cf u1 u2) (cf n1 n2) _ (by repeat (first|exact hI2|refine Ha _ _ _ ?_|refine Lq _ _ ?_|refine XN _ _ ?_)) (ao3 (by simp[grow,World.drewN,Nat.add_assoc]))).mono ?_;rintro e w' ⟨rfl,q,os,rfl⟩))
 go_wp2
 go_ret
 refine⟨rfl,?_⟩
 repeat (first|exact hG2|refine Ob ?_ _ _|refine Oc ?_ _|refine acC ?_ _)
end Go.Proofs
