import Derived.Test.YtckpncemdfkmgabGreatL1
import Derived.Maps.Own
import Derived.RangeFuncOwn
import Derived.Deep.WholeRow
import Derived.WalkKit
import Derived.Maps.Views
import Derived.Sort.KeysCollected
import Derived.Lib.IndexMore
import Derived.CallsIn
import Derived.Sort.Grow
import Derived.Shelf.SortM.Plain
import Derived.Shelf.SortM.SortNone
import Derived.Shelf.SlSortCmp.WholeK
import Derived.Shelf.SlSortCmp.NoneTotal
import Derived.Sort.WalkA14
import Derived.RangeFuncNested
import Derived.RangeFuncBound
import Derived.RangeFuncLeaves
import Derived.Shelf.Abstract
import Derived.OwnWalkIn
import Derived.TacticsInMore
import Derived.LoopNIn
import Derived.LoopIn
import Derived.Shelf.SlIter.Nil
import Derived.Ground.GgzProg
import Derived.Ground.SlgmProg
import Derived.Test.YtckpncemdfkmgabGreatChecked
import Derived.Maps.AppendAt
import Derived.Maps.OwnIn
import Derived.Maps.RangeWalk
import Derived.Maps.OwnSet
import Derived.Deep.RegionHeld3
import Derived.Deep.AppendLies
import Derived.Deep.RegionLaw
import Derived.Deep.DrawnRows
import Derived.Shelf.Bits.Mul64
import Derived.Laws.CopyOwn
import Derived.Shelf.Strings.Search3
import Derived.Ground.NamesProg
import Derived.Ground.SlsfProg
open Go.IntKind (i64)
open List (mem_map all_eq_true cons_append length_map length_nil map_map eq_nil_of_length_eq_zero)
namespace Go.Proofs
open Go.RowKit Go.Maps Go.Sort
attribute [local go_sem] Oper.semAt_some
inductive ET where
 |mk (op:Int) (s:ByteArray) (args:List ET)
mutual
def ET.names:ET->List ByteArray
 |.mk op s args=>(if op=1 then [s]else [])++ET.dt args
def ET.dt:List ET->List ByteArray
 |[]=>[]
 |t::ts=>t.names++ET.dt ts
end
section
variable (n0:Nat) (W:World)
mutual
def mS:ET->List Value->Prop
 |.mk op s args,vs=>∃n key sl,(vs=[.int .i64 op,.int .i64 n,.string s,.string key,sl]/\args.length<=4611686018427387904/\s.size<=maxLen)/\((args=[]/\∃a cap,sl=.slice a 0 cap)\/∃b aa cap,sl=.slice (some ⟨b,aa,none⟩) args.length cap/\b<n0/\gC args b aa)
def gC:List ET->Nat->Nat->Prop
 |[],_,_=>True
 |t::ts,b,aa=>(∃ vs:List Value,(∀ j v,vs[j]? =some v->W.cell? ⟨b,aa+j,none⟩=some v)/\mS t vs)/\gC ts b (aa+5)
end
end
mutual
theorem mS.below{n0:Nat}{A B:World}(h:Below n0 A B):∀(t:ET)(vs:List Value),mS n0 A t vs->mS n0 B t vs
 |.mk op s args,vs,ha=>by obtain⟨n,key,sl,h1,h2⟩:=ha;refine⟨n,key,sl,h1,h2.imp id ?_⟩;rintro⟨b,aa,cap,e,hb,hs⟩;exact⟨b,aa,cap,e,hb,gC.below h args b aa hb hs⟩
theorem gC.below{n0:Nat}{A B:World}(h:Below n0 A B):∀(ts:List ET)(b aa:Nat),b<n0->gC n0 A ts b aa->gC n0 B ts b aa
 |[],_,_,_,_=>by simp[gC]
 |t::ts,b,aa,hb,hs=>by obtain⟨⟨vs,h1,h2⟩,h3⟩:=hs;exact⟨⟨vs,λj v hj=>(h.cell (p:=⟨b,aa+j,none⟩) hb).trans (h1 j v hj),mS.below h t vs h2⟩,gC.below h ts b (aa+5) hb h3⟩
end
theorem mS.below'{n0:Nat}{A B:World}{t:ET}{vs:List Value}(ha:mS n0 A t vs)(h:Below n0 A B):mS n0 B t vs:=mS.below h t vs ha
theorem gC.get{n0:Nat}{W:World}:∀{ts:List ET}{b aa i:Nat}{t:ET},gC n0 W ts b aa->ts[i]? =some t->∃vs:List Value,(∀ j v,vs[j]? =some v->W.cell? ⟨b,aa+i*5+j,none⟩=some v)/\mS n0 W t vs
 |t::ts,b,aa,0,t',h,hi=>by simp at hi;subst hi;simpa using h.1
 |t::ts,b,aa,i+1,t',h,hi=>by obtain⟨vs,h1,h2⟩:=gC.get h.2 (by simpa using hi);exact⟨vs,λj v hj=>by rw[show aa+(i+1)*5+j=aa+5+i*5+j by omega];exact h1 j v hj,h2⟩
mutual
theorem mS.mono{n0 n1:Nat}{W:World}(hn:n0<=n1):∀(t:ET)(vs:List Value),mS n0 W t vs->mS n1 W t vs
 |.mk op s args,vs,ha=>by obtain⟨n,key,sl,h1,h2⟩:=ha;refine⟨n,key,sl,h1,h2.imp id ?_⟩;rintro⟨b,aa,cap,e,hb,hs⟩;exact⟨b,aa,cap,e,by omega,gC.mono hn args b aa hs⟩
theorem gC.mono{n0 n1:Nat}{W:World}(hn:n0<=n1):∀(ts:List ET)(b aa:Nat),gC n0 W ts b aa->gC n1 W ts b aa
 |[],_,_,_=>by simp[gC]
 |t::ts,b,aa,hs=>by obtain⟨⟨vs,h1,h2⟩,h3⟩:=hs;exact⟨⟨vs,h1,mS.mono hn t vs h2⟩,gC.mono hn ts b (aa+5) h3⟩
end
theorem ET.nt(ts:List ET)(i:Nat){t:ET}(h:ts[i]? =some t):ET.dt (ts.take (i+1))=ET.dt (ts.take i)++t.names:=by
 induction ts generalizing i with
 |nil=>simp at h
 |cons x xs ih=>
  cases i with
  |zero=>simp at h;subst h;simp[ET.dt]
  |succ i=>simp[ET.dt,ih i (by simpa using h)]
theorem ET.t7(ts:List ET)(i:Nat):(ET.dt (ts.take i)).length<=(ET.dt ts).length:=by
 induction ts generalizing i with
 |nil=>simp
 |cons x xs ih=>cases i with
  |zero=>simp[ET.dt]
  |succ i=>simp[ET.dt];have:=ih i;omega
theorem ET.qv{op:Int}{s:ByteArray}{args:List ET}{i:Nat}{t:ET}{x:ByteArray}(h:args[i]? =some t)(hx:x∈t.names):x∈(ET.mk op s args).names:=by
 simp[ET.names];refine .inr ?_
 induction args generalizing i with
 |nil=>simp at h
 |cons y ys ih=>
  simp[ET.dt];cases i with
  |zero=>simp at h;subst h;exact .inl hx
  |succ i=>exact .inr (ih (by simpa using h))
abbrev HO(l:List ByteArray):List Lit:=l.map λs=>.string s.data.toList
def wF(l:List ByteArray):DataW Unit:=setOf (.lit (.bool true)) (HO l)
theorem adg(l:List ByteArray)(s:ByteArray):wF (l++[s])=(wF l).put (.string s.data.toList) (.lit (.bool true)):=by simp[wF,setOf]
theorem aaW(l:List ByteArray):∀x∈HO l,WideAt.IsKeyLit x:=by intro x hx;obtain⟨s,_,rfl⟩:=mem_map.1 hx;trivial
theorem Zr:∀(xs L:List Lit),(xs.foldl addKey L).length<=L.length+xs.length
 |[],L=>by simp
 |x::xs,L=>by
  have h:=Zr xs (addKey L x);have h2:(addKey L x).length<=L.length+1:=by unfold addKey;split<;>simp
  simp;omega
theorem adh(l:List ByteArray):Maps.size (wF l)<=l.length:=by rw[wF,size_setOf _ _ (aaW l)];simpa using Zr (HO l) []
def sq(l:List (List UInt8)):List (List UInt8):=l.foldr (λ x a=>if x∈a then a else x::a) []
theorem Tq(x:List UInt8):∀l,x∈sq l↔x∈l
 |[]=>by simp[sq]
 |y::l=>by have h:=Tq x l;show x∈(if y∈sq l then sq l else y::sq l)↔_;split;rename_i hy;rw[aR,h];exact⟨.inr,λe=>e.elim (λ e=>by rw[e];exact(Tq y l).1 hy) id⟩;rw[aR,aR,h]
theorem O9:∀l,(sq l).Nodup
 |[]=>List.nodup_nil
 |y::l=>by show(if y∈sq l then sq l else y::sq l).Nodup;split;exact O9 l;rename_i hy;exact List.nodup_cons.2 ⟨hy,O9 l⟩
def vS(l:List ByteArray):List (List UInt8):=(sq (l.map (·.data.toList))).mergeSort leB
theorem akf:∀l,(sq l).length<=l.length
 |[]=>by simp[sq]
 |y::l=>by have:=akf l;show(if y∈sq l then sq l else y::sq l).length<=_;split<;>simp<;>omega
theorem adi(l:List ByteArray):(vS l).length<=l.length:=by rw[vS];simpa using akf (l.map (·.data.toList))
theorem akg{l:List ByteArray}{s:List UInt8}(h:s∈vS l):∃x∈l,s=x.data.toList:=by rw[vS,List.mem_mergeSort,Tq]at h;obtain⟨x,hx,rfl⟩:=mem_map.1 h;exact⟨x,hx,rfl⟩
theorem afI(l:List ByteArray){es:List (Lit×DataW Unit)}(e:wF l=.map es)(hk:∀p∈es,∃x,p.1=.string x):(sq (l.map (·.data.toList))).Perm (strKeys (wF l)):=by
 have ht:=tidy_setOf (H:=Unit) (.lit (.bool true)) (HO l) (aaW l);have hh:=λk=>has_setOf (H:=Unit) (.lit (.bool true)) k (HO l) (aaW l);obtain⟨es',e',hp⟩:=ht;obtain rfl:es=es':=by have:=e.symm.trans e';injection this
 rw[e];refine perm_strKeys hp hk (O9 _) λx=>?_;rw[<- e,wF,hh,Tq];constructor;intro h;obtain⟨z,hz,rfl⟩:=mem_map.1 h;exact List.any_eq_true.2 ⟨_,mem_map.2 ⟨z,hz,rfl⟩,WideAt.sameKey_self trivial⟩;intro h;obtain⟨y,hy,hs⟩:=List.any_eq_true.1 h;obtain⟨z,hz,rfl⟩:=mem_map.1 hy;have:=WideAt.sameKey_eq hs;injection this with this;exact mem_map.2 ⟨z,hz,this⟩
mutual
theorem mS.fX{n0:Nat}{W:World}:∀(t:ET)(vs:List Value),mS n0 W t vs->∀x∈t.names,x.size<=maxLen
 |.mk op s args,vs,h,x,hx=>by obtain⟨n,key,sl,⟨_,_,hs⟩,h2⟩:=h;simp only[ET.names,bK]at hx;rcases hx with hx|hx;split at hx;rw[bq]at hx;rw[hx];exact hs;cases hx;rcases h2 with ⟨rfl,_⟩|⟨b,aa,cap,_,_,h3⟩;simp[ET.dt]at hx;exact gC.fX args b aa h3 x hx
theorem gC.fX{n0:Nat}{W:World}:∀(ts:List ET)(b aa:Nat),gC n0 W ts b aa->∀x∈ET.dt ts,x.size<=maxLen
 |[],_,_,_,x,hx=>by simp[ET.dt]at hx
 |t::ts,b,aa,h,x,hx=>by obtain⟨⟨vs,_,h1⟩,h2⟩:=h;simp[ET.dt]at hx;exact hx.elim (mS.fX t vs h1 x) (gC.fX ts b (aa+5) h2 x)
end
mutual
def ET.wt:ET->Nat
 |.mk _ s args=>1+s.size+ET.tf args
def ET.tf:List ET->Nat
 |[]=>0
 |t::ts=>t.wt+ET.tf ts
end
mutual
theorem ET.pb:∀t:ET,t.names.length<=t.wt
 |.mk op s args=>by have:=ET.qe args;simp[ET.names,ET.wt];split<;>simp<;>omega
theorem ET.qe:∀ts:List ET,(ET.dt ts).length<=ET.tf ts
 |[]=>by simp[ET.dt]
 |t::ts=>by have h1:=ET.pb t;have h2:=ET.qe ts;simp[ET.dt,ET.tf];omega
end
theorem ET.qS:∀ts:List ET,ts.length<=ET.tf ts
 |[]=>ay _
 |t::ts=>by
  have:=ET.qS ts;have h:1<=t.wt:=by cases t;simp[ET.wt];omega
  simp[ET.tf];omega
theorem dM(P:Program)(W:World)(c:Array Value)(t:TypeId)(j:Nat)(u:Value)(hj:j<c.size)(h1:u.oneCell'=true):
 (store ⟨W.heap.size,j,none⟩ u).run P (W.alloc (.cells c t))=.ok () (W.alloc (.cells (c.set j u) t)):=by have hn:=World.alloc_heap_new W (.cells c t);rw[run_store _ _ _ _ _ h1];have hr:=World.setRow_alloc_new W c (c.set j u) t;simp only[World.cell?,World.frozen?,hn,Array.getElem?_eq_getElem hj];simp[<- hr];simp only[World.setCell,World.setRow,World.alloc];congr 1;apply Array.ext_getElem?;intro i;rw[Array.getElem?_modify,Array.getElem?_modify];by_cases h:W.heap.size=i;subst h;simp[Array.setIfInBounds,hj];simp[h]
end Go.Proofs
namespace Go.Gb
open Go.RowKit Go.Proofs
mutual
def sg:ET->List Tree->Prop
 |.mk op s args,r=>∃n key rows,r=[.sc (.int .i64 op),.sc (.int .i64 n),.sc (.string s),.sc (.string key),.sl rows]/\s.size<=maxLen/\args.length<=4611686018427387904/\oc args rows
def oc:List ET->List (List Tree)->Prop
 |[],rows=>rows=[]
 |t::ts,rows=>∃r rs,rows=r::rs/\sg t r/\oc ts rs
end
theorem oc.len:∀{ts:List ET}{rows:List (List Tree)},oc ts rows->rows.length=ts.length
 |[],rows,h=>by subst h;rfl
 |t::ts,rows,h=>by obtain⟨r,rs,rfl,_,h⟩:=h;simp[h.len]
theorem sg.len{t:ET}{r:List Tree}(h:sg t r):r.length=5:=by cases t;obtain⟨_,_,_,rfl,_⟩:=h;rfl
theorem KL{w:World}{I:Nat->Prop}:∀{r:List Tree}{b aa:Nat},eb w I r b aa->∃vs:List Value,eI w I r vs/\∀j v,vs[j]? =some v->w.cell? ⟨b,aa+j,none⟩=some v
 |[],b,aa,_=>⟨[],trivial,λj v h=>by simp at h⟩
 |x::xs,b,aa,h=>by
  obtain⟨⟨c,hc,hx⟩,h2⟩:=h;obtain⟨vs,h3,h4⟩:=KL h2;refine⟨c::vs,⟨hx,h3⟩,λj v hj=>?_⟩;cases j with
  |zero=>simp at hj;subst hj;exact hc
  |succ j=>have:=h4 j v (by simpa using hj);rw[<- this];congr 2;omega
mutual
theorem akh{w:World}{I:Nat->Prop}{n0:Nat}(hI:∀b,I b->b<n0):∀(t:ET)(r:List Tree)(vs:List Value),sg t r->eI w I r vs->mS n0 w t vs
 |.mk op s args,r,vs,h,hv=>by
  obtain⟨n,key,rows,rfl,hs,hl,h⟩:=h
  match vs,hv with
  |[a,b,c,d,e],hv=>
   obtain⟨⟨rfl,_⟩,⟨rfl,_⟩,⟨rfl,_⟩,⟨rfl,_⟩,he,_⟩:=hv;refine⟨n,key,e,⟨rfl,hl,hs⟩,?_⟩;have hlen:=h.len;rcases he with ⟨rfl,a,cap,rfl,_⟩|⟨b,aa,cap,sz,rfl,_,hb,hr⟩;exact .inl ⟨eq_nil_of_length_eq_zero hlen.symm,_,_,rfl⟩;exact .inr ⟨b,aa,cap,by rw[hlen],hI b hb,ahr hI args rows b aa sz h hr⟩
theorem ahr{w:World}{I:Nat->Prop}{n0:Nat}(hI:∀b,I b->b<n0):∀(ts:List ET)(rows:List (List Tree))(b aa sz:Nat),oc ts rows->ct w I rows b aa sz->gC n0 w ts b aa
 |[],_,_,_,_,_,_=>by simp[gC]
 |t::ts,rows,b,aa,sz,h,hr=>by obtain⟨r,rs,rfl,h1,h2⟩:=h;obtain⟨rfl,h3,h4⟩:=hr;obtain⟨vs,h5,h6⟩:=KL h3;rw[h1.len]at h4;exact⟨⟨vs,h6,akh hI t r vs h1 h5⟩,ahr hI ts rs b (aa+5) 5 h2 h4⟩
end
theorem aiF{P:Program}{α:Type}{enc:α->Value}(h1:∀x,oneCell (enc x)){E:TypeId}{w w':World}{β:Nat->Option cA}{I:Nat->Prop}{l:List α}{v:Value}(hlt:∀b,I b->b<w.heap.size)
 (hown:w'.ownsRow w.heap.size E 1 v l.length (l.map enc)):lO P (A3 w β []) 1 (l.map λs=>[.sc (enc s)]) w' I v:=by rcases hown.2 with ⟨rfl,h0⟩|⟨g,cap,cur,rfl,hg,hgb,hle,_,hcs,htk⟩;exact .inl ⟨by rw[eq_nil_of_length_eq_zero h0];rfl,rfl⟩;refine .inr ⟨g,cur,E,cap,0,0,by simp,⟨.inr hg,λk o hk=>by simp[Dn]at hk⟩,λhi=>absurd (hlt g hi) (by omega),hgb,by simpa using hle,by omega,?_,λ_=>rfl⟩;rw[ow];intro i x hx;simp[aI]at hx;obtain⟨s,hs',rfl⟩:=hx;refine⟨rfl,?_⟩;have hi:i<l.length:=(dh.1 hs').1;have:=congrArg (λ q=>q[i]?) htk;simp only[List.getElem?_take,List.getElem?_map,hs',Option.map_some]at this;rw[aX (by omega)]at this;exact⟨⟨_,by simpa using this,⟨rfl,h1 s⟩,h1 s⟩,trivial⟩
end Go.Gb
namespace Go.Proofs
open Go.RowKit Go.Maps
def TC(n0:Nat)(W:World)(d:ByteArray×ET)(vs:List Value):Prop:=∃v0 v1 v2 v3 v4,vs=[.string d.1,v0,v1,v2,v3,v4]/\d.1.size<=maxLen/\mS n0 W d.2 [v0,v1,v2,v3,v4]
def Hx(n0:Nat)(W:World)(ds:List (ByteArray×ET))(sv:Value):Prop:=
 (ds=[]/\∃a cap,sv=.slice a 0 cap)\/∃b aa cap,sv=.slice (some ⟨b,aa,none⟩) ds.length cap/\b<n0/\∀j d,ds[j]? =some d->∃vs:List Value,(∀ k v,vs[k]? =some v->W.cell? ⟨b,aa+j*6+k,none⟩=some v)/\TC n0 W d vs
theorem Hx.below{n0:Nat}{A B:World}{ds:List (ByteArray×ET)}{sv:Value}(hd:Hx n0 A ds sv)(h:Below n0 A B):Hx n0 B ds sv:=by refine hd.imp id ?_;rintro⟨b,aa,cap,rfl,hb,hr⟩;refine⟨b,aa,cap,rfl,hb,λj d hj=>?_⟩;obtain⟨vs,h1,v0,v1,v2,v3,v4,rfl,h2,h3⟩:=hr j d hj;exact⟨_,λk v hk=>(h.cell (p:=⟨b,aa+j*6+k,none⟩) hb).trans (h1 k v hk),v0,v1,v2,v3,v4,rfl,h2,h3.below' h⟩
def Mv(ds:List (ByteArray×ET))(s:List UInt8):Nat->Option Int
 | 0=>none
 |k+1=>if (ds.getD k (⟨#[]⟩,.mk 0 ⟨#[]⟩ [])).1.data.toList=s then some k else Mv ds s k
def iK(ds:List (ByteArray×ET))(l:List (List UInt8)):List Int:=l.filterMap λs=>Mv ds s ds.length
abbrev Vz(l:List Int):List Value:=l.map (Value.int .i64)
def oH(ds:List (ByteArray×ET)):List (List Int):=ds.map λd=>iK ds (vS d.2.names)
def rk(ds:List (ByteArray×ET)):Nat:=ds.foldr (λ d n=>1+d.1.size+d.2.wt+n) 0
theorem Tt:∀ds:List (ByteArray×ET),ds.length<=rk ds
 |[]=>ay _
 |d::ds=>by have:=Tt ds;simp[rk]at this ⊢;omega
theorem Tv:∀{ds:List (ByteArray×ET)}{d:ByteArray×ET},d∈ds->d.1.size+d.2.wt<=rk ds
 |x::ds,d,h=>by simp[rk];rcases aR.1 h with rfl|h;omega;have:=Tv h;simp[rk]at this;omega
def amJ(w:World)(uB:Nat)(sv:Value)(ds:List (ByteArray×ET))(TL TG TI:TypeId)(W:World):Prop:=
 ∃us:List Value,us.length=ds.length/\W.heap[uB]? =some (.cells us.toArray TL)/\W.heap[uB+1]? =some (.cells #[sv,.slice (some ⟨uB,0,none⟩) ds.length ds.length] TG)/\Below w.heap.size w W/\
  ∀(j:Nat)(v:Value),us[j]? =some v->∃d:ByteArray×ET,ds[j]? =some d/\W.ownsRow (uB+2) TI 1 v (iK ds (vS d.2.names)).length (Vz (iK ds (vS d.2.names)))
end Go.Proofs
namespace Go.Gb
open Go.RowKit Go.Proofs
def anW(d:ByteArray×ET)(r:List Tree):Prop:=∃a b c e f,r=[.sc (.string d.1),a,b,c,e,f]/\d.1.size<=maxLen/\sg d.2 [a,b,c,e,f]
def oe:List (ByteArray×ET)->List (List Tree)->Prop
 |[],rows=>rows=[]
 |d::ds,rows=>∃r rs,rows=r::rs/\anW d r/\oe ds rs
theorem oe.len:∀{ts:List (ByteArray×ET)}{rows:List (List Tree)},oe ts rows->rows.length=ts.length
 |[],rows,h=>by subst h;rfl
 |t::ts,rows,h=>by obtain⟨r,rs,rfl,_,h⟩:=h;simp[h.len]
theorem ang{w:World}{I:Nat->Prop}{n0:Nat}(hI:∀b,I b->b<n0){d:ByteArray×ET}{r:List Tree}{vs:List Value}(h:anW d r)(hv:eI w I r vs):TC n0 w d vs:=by
 obtain⟨a,b,c,e,f,rfl,hs,hr⟩:=h
 match vs,hv with
 |v::vs,hv=>
  obtain⟨⟨rfl,_⟩,h2⟩:=hv;have he:=akh hI d.2 _ vs hr h2;obtain⟨v0,v1,v2,v3,v4,rfl⟩:∃v0 v1 v2 v3 v4,vs=[v0,v1,v2,v3,v4]:=by
   cases hd:d.2 with
   |mk op s args=>
    rw[hd]at he;obtain⟨_,_,_,⟨e,_⟩,_⟩:=he;exact⟨_,_,_,_,_,e⟩
  exact⟨v0,v1,v2,v3,v4,rfl,hs,he⟩
theorem adj{w:World}{I:Nat->Prop}{n0:Nat}(hI:∀b,I b->b<n0):∀(ds:List (ByteArray×ET))(rows:List (List Tree))(b aa sz:Nat),oe ds rows->ct w I rows b aa sz->
 ∀j d,ds[j]? =some d->∃vs:List Value,(∀ k v,vs[k]? =some v->w.cell? ⟨b,aa+j*6+k,none⟩=some v)/\TC n0 w d vs
 |[],_,_,_,_,_,_,j,d,h=>by simp at h
 |t::ts,rows,b,aa,sz,h,hr,j,d,hj=>by
  obtain⟨r,rs,rfl,h1,h2⟩:=h;obtain⟨rfl,h3,h4⟩:=hr;obtain⟨vs,h5,h6⟩:=KL h3;have h7:r.length=6:=by obtain⟨_,_,_,_,_,rfl,_⟩:=h1;rfl
  cases j with
  |zero=>
   simp at hj;subst hj;exact⟨vs,λk v hk=>by simpa using h6 k v hk,ang hI h1 h5⟩
  |succ j=>
   rw[h7]at h4;obtain⟨vs,g1,g2⟩:=adj hI ts rs b (aa+6) 6 h2 h4 j d (by simpa using hj);exact⟨vs,λk v hk=>by rw[show aa+(j+1)*6+k=aa+6+j*6+k by omega];exact g1 k v hk,g2⟩
theorem VA{w:World}{I:Nat->Prop}{g:Nat}:∀(l:List Int)(aa:Nat),(∀ j v,(Vz l)[j]? =some v->w.cell? ⟨g,aa+j,none⟩=some v)->ct w I (l.map λi=>[.sc (.int .i64 i)]) g aa 1
 |[],_,_=>by simp[ct]
 |i::l,aa,h=>by simp only[bJ,ct,eb,TR,fU,length_nil];refine⟨trivial,⟨⟨_,by simpa using h 0 _ rfl,rfl,trivial⟩,trivial⟩,VA l (aa+1) λj v hj=>?_⟩;rw[show aa+1+j=aa+(j+1)by omega];exact h (j+1) v (by simpa using hj)
theorem VB{w:World}{I:Nat->Prop}{b:Nat}:∀(us:List Value)(L:List (List Int))(aa:Nat),us.length=L.length->(∀ (j:Nat) (v:Value),us[j]? =some v->w.cell? ⟨b,aa+j,none⟩=some v)->
 (∀ (j:Nat) (v:Value) (l:List Int),us[j]? =some v->L[j]? =some l->TR w I (.sl (l.map λi=>[.sc (.int .i64 i)])) v)->ct w I (L.map λl=>[.sl (l.map λi=>[.sc (.int .i64 i)])]) b aa 1
 |us,[],_,_,_,_=>by simp[ct]
 |[],_::_,_,h,_,_=>by simp at h
 |u::us,l::L,aa,hl,h1,h2=>by simp only[bJ,ct,eb,fU,length_nil];refine⟨trivial,⟨⟨u,by simpa using h1 0 u rfl,h2 0 u l rfl rfl⟩,trivial⟩,VB us L (aa+1) (by simpa using hl) (λ j v hj=>?_) λj v l' hj hl'=>h2 (j+1) v l' (by simpa using hj) (by simpa using hl')⟩;rw[show aa+1+j=aa+(j+1)by omega];exact h1 (j+1) v (by simpa using hj)
theorem aaX{P:Program}{f:FuncId}{TL TG TI:TypeId}(hcall:eT P f){ds:List (ByteArray×ET)}{rows:List (List Tree)}(hr:oe ds rows)
 (h:∀(sv:Value)(w:World),Hx w.heap.size w ds sv->Calls P f #[sv] w λe W'=>∃uB,e=.returned (.pointer (some ⟨uB+1,0,none⟩))/\w.heap.size<uB/\amJ w uB sv ds TL TG TI W'):
 GB P f [.t (.sl rows)] [] [(1000,⟨2,[[.t (.sl rows),.t (.sl ((oH ds).map λl=>[.sl (l.map λi=>[.sc (.int .i64 i)])]))]]⟩)] (.ptr 1000 0 0):=by
 refine⟨hcall,λw β I vs hβ hM hvs=>?_⟩;obtain⟨vs⟩:=vs
 match vs,hvs with
 |[sv],hvs=>
  have hv:TR w I (.sl rows) sv:=by have:=hvs.1;simpa[VR]using this
  have hlen:=hr.len;have hS:Hx w.heap.size w ds sv:=by rcases hv with ⟨rfl,a,cap,rfl,_⟩|⟨b,aa,cap,sz,rfl,_,hb,hT⟩;exact .inl ⟨eq_nil_of_length_eq_zero hlen.symm,_,_,rfl⟩;exact .inr ⟨b,aa,cap,by rw[hlen],hM.lt b hb,adj hM.lt ds rows b aa sz hr hT⟩
  refine(h sv w hS).mono ?_;rintro e w' ⟨uB,rfl,huB,us,sY,hU,hG,hbel,zg⟩;have GS:uB+1<w'.heap.size:=(Array.getElem?_eq_some_iff.1 hG).1;obtain⟨I',hI'⟩:∃I':Nat->Prop,I'=λb=>I b\/(w.heap.size<=b/\b<w'.heap.size/\b≠uB+1):=⟨_,rfl⟩;have hII:∀b,I b->I' b:=λb hb=>by rw[hI'];exact .inl hb
  obtain⟨hs,hM'⟩:=hM.below hbel (I':=I') hII (λ b hb=>by rw[hI']at hb;rcases hb with hb|hb;exact Nat.lt_of_lt_of_le (hM.lt b hb) hbel.size;exact hb.2.1) (λ b k o B h1 h2 h3 h4=>by simp[tz]at h2) (λ b hb=>by rw[hI']at hb;rcases hb with hb|hb;exact hM.up b hb;exact .inr (.inr hb.1));have W7:TR w' I' (.sl rows) sv:=TR.mono hs hII _ _ hv;have hone:oneCell sv:=by simp only[TR]at hv;rcases hv with ⟨_,a,cap,rfl,_⟩|⟨b,aa,cap,sz,rfl,_⟩<;>trivial
  have huv:TR w' I' (.sl ((oH ds).map λl=>[.sl (l.map λi=>[.sc (.int .i64 i)])])) (.slice (some ⟨uB,0,none⟩) ds.length ds.length):=by simp only[TR];refine .inr ⟨uB,0,ds.length,1,by simp[oH],by simp[oH],by rw[hI'];exact .inr ⟨by omega,by omega,by omega⟩,?_⟩;refine VB us (oH ds) 0 (by simp[oH,sY]) (λ j v hj=>by simp[World.cell?,hU,hj]) λj v l hj hl=>?_;obtain⟨d,hd,ho⟩:=zg j v hj;have hle:l=iK ds (vS d.2.names):=(by simp[oH,hd]at hl;exact hl.symm);subst hle;simp only[TR];rcases ho.2 with ⟨rfl,h0⟩|⟨g,cap,cur,rfl,hg,hgb,hle,_,hcs,htk⟩;exact .inl ⟨by rw[eq_nil_of_length_eq_zero h0];rfl,_,_,rfl,λ_=>rfl⟩;refine .inr ⟨g,0,cap,1,by simp,by simpa using hle,by rw[hI'];exact .inr ⟨by omega,(Array.getElem?_eq_some_iff.1 hgb).1,by omega⟩,VA _ 0 λi x hx=>?_⟩;rw[<- htk,List.getElem?_take]at hx;split at hx;simpa[World.cell?,hgb]using hx;cases hx
  have hf:lO P (λ b=>w.heap.size<=b) 2 [[.sl rows,.sl ((oH ds).map λl=>[.sl (l.map λi=>[.sc (.int .i64 i)])])]] w' I' (.slice (some ⟨uB+1,0,none⟩) 1 1):=by
   refine .inr ⟨uB+1,_,TG,1,0,0,rfl,by show w.heap.size<=uB+1;omega,λhb=>?_,hG,ay _,by simp,?_,λ_=>rfl⟩;rw[hI']at hb;rcases hb with hb|hb;exact absurd (hM.lt _ hb) (by omega);exact hb.2.2 rfl;rw[ow];intro i x hx;cases i with
   |succ i=>simp[aI]at hx
   |zero=>
    simp[aI]at hx;subst hx;refine⟨rfl,?_⟩;simp only[cR,VR];exact⟨⟨_,rfl,W7,hone⟩,⟨_,rfl,huv,trivial⟩,trivial⟩
  obtain⟨β',hS',hM2,hV⟩:=hM'.fresh (i:=1000) (hβ 1000 (by simp)) (F:=λb=>w.heap.size<=b) (λ k o b h1 h2 h3=>by simp[tz]at h1) (λ b h=>.inr h) hf;refine⟨_,β',I',rfl,?_,hII,?_⟩;have e:pD [(1000,(⟨2,[[.t (.sl rows),.t (.sl ((oH ds).map λl=>[.sl (l.map λi=>[.sc (.int .i64 i)])]))]]⟩:aM))]=bV (tz []) [(1000,some ⟨2,aI [[.sl rows,.sl ((oH ds).map λl=>[.sl (l.map λi=>[.sc (.int .i64 i)])])]]⟩)]:=by funext k;simp only[pD,bV,tz];by_cases h1:k=1000;subst h1;simp[aI];rw[aV h1,aV (λ e=>h1 e.symm)];rfl
  rw[e];exact hM2;rcases hV with ⟨_,h,_⟩|⟨b,sz,n,cap,o,hb,h,_,_,hc⟩;cases h;injection h with h1 h2 h3;injection h1 with h1;injection h1 with h1 h4;subst h1 h3;exact⟨_,sz,n,hb,by rw[<- hc (by omega),<- h4]⟩
end Go.Gb
namespace Go.Gb
open Go.RowKit Go.Proofs
theorem afJ{P:Program}{f:FuncId}{E:TypeId}(hcall:eT P f){x:Int}{c:Nat}
 (h:∀(a:Addr)(cap:Nat)(w:World),w.cell? a=some (.int .i64 x)->Calls P f #[.slice (some a) 1 cap,.int .i64 c] w λe W'=>∃v,e=.returned v/\W'.ownsRow w.heap.size E 1 v c (List.replicate c (.int .i64 x))/\Below w.heap.size w W'):
 p5 P f [.t (.sl [[.sc (.int .i64 x)]]),.t (.sc (.int .i64 (c:Int)))] [] [] (.one (.fresh 1 ((List.replicate c x).map λi=>[.sc (.int .i64 i)]))):=by
 refine⟨hcall,λw β I vs hβ hM hvs=>?_⟩;obtain⟨vs⟩:=vs
 match vs,hvs with
 |[a,b],hvs=>
  obtain⟨h1,⟨rfl,_⟩,_⟩:=hvs;rcases h1 with ⟨h0,_⟩|⟨b,aa,cap,sz,rfl,_,hb,_,⟨⟨u,hu,rfl,_⟩,_⟩,_⟩;cases h0;refine(h _ cap w hu).mono ?_;rintro e w' ⟨v,rfl,hown,hbel⟩;obtain⟨hs,hM'⟩:=hM.below hbel (I':=I) (λ _ h=>h) (λ b hb=>Nat.lt_of_lt_of_le (hM.lt b hb) hbel.size) (λ b k o B h1 h2 h3 h4=>(hM.ownB k o B b h2 h3 h4).1 h1) hM.up;refine⟨v,I,rfl,hM',λ_ h=>h,?_⟩;have hown':w'.ownsRow w.heap.size E 1 v (List.replicate c x).length ((List.replicate c x).map (Value.int .i64)):=by simpa using hown
  exact aiF (enc:=Value.int .i64) (λ _=>trivial) hM.lt hown'
end Go.Gb
namespace Go.Gb
open Go.RowKit Go.Proofs
theorem aaY{P:Program}{f:FuncId}{g:Nat}(hg:amO g=true)(hcall:eT P f){s b:ByteArray}
 (h:∀(m:Int)(w:World),w.cell? ⟨g,0,none⟩=some (.int .i64 m)->Calls P f #[.string s,.string b] w λe w'=>e=.returned (.bool (Lib.contains s.data.toList b.data.toList))/\w'=w):
 p5 P f [.t (.sc (.string s)),.t (.sc (.string b))] [] [] (.one (.d (.s (.sc (.bool (Lib.contains s.data.toList b.data.toList)))))):=by
 refine⟨hcall,λw β I vs hβ hM hvs=>?_⟩;obtain⟨vs⟩:=vs
 match vs,hvs with
 |[a,c],hvs=>
  obtain⟨⟨rfl,_⟩,⟨rfl,_⟩,_⟩:=hvs;obtain⟨_,m,hm⟩:=hM.vars.2 g hg;refine(h m w hm).mono ?_;rintro e w' ⟨rfl,rfl⟩;obtain⟨hs,hM'⟩:=hM.below (Below.refl _ _) (I':=I) (λ _ h=>h) (λ b hb=>hM.lt b hb) (λ b k o B h1 h2 h3 h4=>(hM.ownB k o B b h2 h3 h4).1 h1) hM.up;refine⟨_,I,rfl,hM',λ_ h=>h,?_⟩;exact⟨rfl,trivial⟩
end Go.Gb
namespace Go.Gb
open Go
theorem Pb{α:Type}:∀(a:Ask α)(w:World),w.drawn<=(w.ask a).2.drawn
 |.done _,w=>ay _
 |.ask what range k,w=>by unfold World.ask;simp;split;exact Pb (k 0) w;exact Nat.le_trans (Nat.le_succ _) (Pb (k _) { w with drawn:=w.drawn+1 })
theorem Pd(w:World)(c:Sys):w.drawn<=(w.sys c).2.drawn:=by have h:=Pb (Kernel.perform c w.os) w;unfold World.sys;split;exact ay _;rename_i heq;rw[heq]at h;exact h
theorem Zt{p:Program}{w w':World}{a:Addr}{v:Value}{b:Bool}{l:List Addr}(h:w.farStore p a v b=.ok (w',l)):w'.drawn=w.drawn:=by
 unfold World.farStore at h;split at h;split at h
 ·rename_i r heq;cases h;unfold World.viewStore at heq;simp[bind,Except.bind]at heq
  repeat' split at heq
  all_goals first|(cases heq;done)|skip
  all_goals (injection heq with heq;injection heq with h1 h2;rw[<- h1])
 cases h;cases h
def uA{α:Type}:Result α->Nat
 |.ok _ w=>w.drawn
 |.halt _ w=>w.drawn
theorem jC{α:Type}(p:Program):∀(s:Sem α)(w:World),w.drawn<=uA (s.run p w):=by
 intro s
 induction s
 intro w;exact ay _;rename_i m a k ih;intro w;unfold Sem.run;split;exact ih _ w;split;exact ih _ w;exact ay _
 ·rename_i m a v k ih;intro w;cases v<;>simp[Sem.run]<;>first|exact ay _|skip
  all_goals
   split;split;exact ay _;exact ih (w.setCell _ _);split;rename_i w1 _ heq;have:=Zt heq;exact this ▸ ih w1;exact ay _
 rename_i o k ih;intro w;exact ih _ { w with heap:=w.heap.push o };rename_i r k ih;intro w;exact ih _ w;rename_i a n k ih;intro w;refine Nat.le_trans (Nat.le_of_eq ?_) (ih _);unfold World.freeze;split<;>rfl;rename_i a k ih;intro w;exact ih _ w;rename_i r k ih;intro w;unfold Sem.run;split;exact ay _;exact ih _ w;exact ay _;rename_i r o k ih;intro w;unfold Sem.run;split;exact ay _;exact ih { w with heap:=w.heap.setIfInBounds r o };exact ay _;rename_i q k ih;intro w;unfold Sem.run;split;exact ih _ w;exact Nat.le_trans (Nat.le_succ _) (ih _ { w with drawn:=w.drawn+1 });rename_i c k ih;intro w;exact Nat.le_trans (Pd w c) (ih _ _);rename_i k ih;intro w;exact ih _ w;rename_i m k ih;intro w;exact ih w;intro w;exact ay _
theorem nJ{α:Type}(p:Program):∀(s:Sem α)(w:World)(es:Array Event),w.drawn<=uA (s.runT p w es).1:=by
 intro s
 induction s
 intro w es;exact ay _;rename_i m a k ih;intro w es;unfold Sem.runT;split;exact ih _ w _;split;exact ih _ w _;exact ay _
 ·rename_i m a v k ih;intro w es;cases v<;>simp only[Sem.runT]<;>first|exact ay _|skip
  all_goals
   split;split;exact ay _;exact ih (w.setCell _ _) _;split;rename_i w1 _ heq;have:=Zt heq;exact this ▸ ih w1 _;exact ay _
 rename_i o k ih;intro w es;exact ih _ { w with heap:=w.heap.push o } _;rename_i r k ih;intro w es;exact ih _ w _;rename_i a n k ih;intro w es;refine Nat.le_trans (Nat.le_of_eq ?_) (ih _ _);unfold World.freeze;split<;>rfl;rename_i a k ih;intro w es;exact ih _ w _;rename_i r k ih;intro w es;unfold Sem.runT;split;exact ay _;exact ih _ w _;exact ay _;rename_i r o k ih;intro w es;unfold Sem.runT;split;exact ay _;exact ih { w with heap:=w.heap.setIfInBounds r o } _;exact ay _;rename_i q k ih;intro w es;unfold Sem.runT;split;exact ih _ w _;exact Nat.le_trans (Nat.le_succ _) (ih _ { w with drawn:=w.drawn+1 } _);rename_i c k ih;intro w es;exact Nat.le_trans (Pd w c) (ih _ _ _);rename_i k ih;intro w es;exact ih _ w _;rename_i m k ih;intro w es;exact ih w _;intro w es;exact ay _
def pm:GStep->Nat
 |.go _ w _|.comm _ _ _ _ w _|.spawn _ _ w _|.count _ w _|.timer _ _ w _|.alone _ _ w _|.newcoro _ _ _ w _|.coroswitch _ _ _ w _|.collect _ w _|.watch _ w _|.ended _ w _=>w.drawn
theorem rX(es:Array Event)(g:GStep):pm (g.after es)=pm g:=by cases g<;>rfl
theorem S7{c:Prop}[Decidable c]{a b:GStep}{n:Nat}(h1:n<=pm a)(h2:n<=pm b):n<=pm (if c then a else b):=by split<;>assumption
theorem aa0{α:Type}{o:Option α}{a:GStep}{f:α->GStep}{n:Nat}(h1:n<=pm a)(h2:∀x,n<=pm (f x)):n<=pm (o.elim a f):=by cases o;exact h1;exact h2 _
theorem afK(w:World)(fd:Nat)(t:ByteArray)(o:Outcome):w.drawn<=pm (endWith w fd t o):=by have h:=Pd w (.write fd t);unfold endWith;simp;split<;>(rename_i heq;rw[heq]at h)<;>(try split)<;>exact h
theorem Ra(fr:Frame)(m:String)(w:World):w.drawn<=pm (endThrow fr m w):=ay _
theorem Hg(p:Program)(fr:Frame)(v:Value)(w:World):w.drawn<=pm (endPrinting p fr v w):=by unfold endPrinting;simp;split<;>exact ay _
theorem Rb(p:Program)(fr:Frame)(cs:List Frame)(d:Option Dying)(m:String)(w:World):w.drawn<=pm (endFatal p fr cs d m w):=by
 unfold endFatal
 extract_lets _ _ shown
 have h:=jC p shown w;split<;>(rename_i heq;rw[heq]at h)<;>exact h
theorem afL(p:Program)(fr:Frame)(d:Dying)(f:Fatal)(w:World):w.drawn<=pm (writeOn p fr d f w):=by
 unfold writeOn;split;exact ay _;have h:∀(s:Sem Unit)(r:Result Unit×Array Event),s.runT p w #[]=r->w.drawn<=uA r.1:=λs r e=>e ▸ nJ p s w #[]
 conv=>rhs;arg 1;simp only
 split<;>exact h _ _ ‹_›
theorem anh(p:Program)(fr:Frame)(d:Dying)(w:World):w.drawn<=pm (die p fr d w):=by
 unfold die;split;exact afL _ _ _ _ _;split;split;exact ay _;exact afK _ _ _ _;split;exact ay _;rename_i s _;have h:=jC p (withAddress s) w;split<;>(rename_i heq;rw[heq]at h)<;>exact h;rename_i t recv name _;have h:=nJ p (invoke (.fn (.method name) #[]) #[.iface t recv]) w #[];rw[rX];split<;>(try (rename_i heq;rw[heq]at h))<;>first|exact h|exact Nat.le_trans h (Hg _ _ _ _)|exact ay _
 exact ay _
theorem Hl(p:Program)(main:Bool)(fr:Frame)(cs:List Frame)(d:Option Dying)(v:Value)(w:World):w.drawn<=pm (doReturn p main fr cs d v w):=by
 unfold doReturn
 repeat' split
 all_goals exact ay _
theorem RB(p:Program)(fr:Frame)(cs:List Frame)(dy:Option Dying)(d:Deferred)(w:World):w.drawn<=pm (callDeferred p fr cs dy d w):=by refine S7 (ay _) ?_;have h:=nJ p (invoke d.target d.args) w #[];simp only[rX];split<;>(try (rename_i heq;rw[heq]at h))<;>(try split)<;>first|exact h|exact Nat.le_trans h (Rb _ _ _ _ _ _)|exact Nat.le_trans h (Ra _ _ _)
theorem aiG(p:Program)(main:Bool)(fr:Frame)(cs:List Frame)(dy:Option Dying)(w:World):w.drawn<=pm (unwind p main fr cs dy w):=by unfold unwind;split;rename_i block _ _ _;have h:=nJ p (Instr.takeDeferred block) w #[];simp only[rX];split<;>(rename_i heq;rw[heq]at h)<;>exact h;exact RB _ _ _ _ _ _;split;exact ay _;split;exact ay _;split;exact ay _;split;split;exact ay _;split<;>(rename_i heq;exact Nat.le_trans (jC p _ w) (Nat.le_of_eq (congrArg uA heq)));split;exact Hg _ _ _ _;exact ay _;split;exact Hl _ _ _ _ _ _ _;rename_i fn _;have h:=nJ p (results fn fr.tmps) w #[];simp only[rX];split<;>(rename_i heq;rw[heq]at h)<;>first|exact h|exact Nat.le_trans h (Hl _ _ _ _ _ _ _)
theorem aki(p:Program)(fr:Frame)(cs:List Frame)(dy:Option Dying)(g:Nat)(w:World):w.drawn<=pm (early p fr cs dy g w):=by
 unfold early;simp
 repeat' split
 all_goals first|exact ay _|(have h:=jC p (choose (.early g)) w;rw[‹Sem.run p (choose (.early g)) w=_›]at h;exact h)
theorem Mw(p:Program)(l:Bool)(fr:Frame)(cs:List Frame)(dy:Option Dying)(s:Sem Next)(w:World):w.drawn<=pm (stepG.apply p l fr cs dy s w):=by
 unfold stepG.apply;have h:w.drawn<=uA (if l=true then s.runT p w #[]else(s.run p w,#[])).1:=by split;exact nJ p s w #[];exact jC p s w
 revert h;generalize (if l=true then s.runT p w #[]else(s.run p w,#[]))=X;intro h;simp[rX];split<;>(try (rename_i heq;rw[heq]at h))<;>(try split)<;>first|exact h|exact Nat.le_trans h (Rb _ _ _ _ _ _)|exact Nat.le_trans h (Ra _ _ _)|exact Nat.le_trans h (aki _ _ _ _ _ _)|exact S7 h h
theorem alS(p:Program)(l:Bool)(fr:Frame)(cs:List Frame)(dy:Option Dying)(w:World):w.drawn<=pm (stepG.oper p l fr cs dy w):=by unfold stepG.oper;split;exact ay _;split<;>exact Mw _ _ _ _ _ _ _
theorem alT(p:Program)(main l:Bool)(fr:Frame)(cs:List Frame)(dy:Option Dying)(w:World):w.drawn<=pm (stepG.exec p main l fr cs dy w):=by
 unfold stepG.exec
 extract_lets go to lost leave
 have hl:∀j,w.drawn<=pm (leave j):=by intro j;simp only[leave];split;split<;>exact ay _;rename_i l _;have h:=nJ p (Instr.endRound l j) w #[];simp only[rX];split<;>(rename_i heq;rw[heq]at h)<;>first|exact h|exact Nat.le_trans h (Hl _ _ _ _ _ _ _)
 clear_value leave
 split
 all_goals first|exact hl _|exact ay _|exact Mw _ _ _ _ _ _ _|skip
 split<;>exact ay _;exact aa0 (hl _) λ_=>ay _;exact aa0 (hl _) λ_=>ay _;simp only[rX];split<;>(rename_i heq;have h:=Nat.le_trans (nJ p _ w #[]) (Nat.le_of_eq (congrArg uA heq)))<;>first|exact h|exact Nat.le_trans h (Mw _ _ _ _ _ _ _)
 simp only[rX];split<;>(rename_i heq;exact Nat.le_trans (nJ p _ w #[]) (Nat.le_of_eq (congrArg uA heq)));exact aa0 (ay _) λ_=>Mw _ _ _ _ _ _ _;refine S7 (ay _) ?_;split<;>(rename_i heq;exact Nat.le_trans (jC p _ w) (Nat.le_of_eq (congrArg uA heq)));exact S7 (alS _ _ _ _ _ _) (ay _)
theorem akj(p:Program)(main:Bool)(g:Goroutine)(w:World)(l:Bool):w.drawn<=pm (stepG p main g w l):=by unfold stepG;simp;split;exact anh _ _ _ _;exact alT _ _ _ _ _ _ _;exact aiG _ _ _ _ _ _
def sup(d:Nat):Stepped->Prop
 |.next m=>d<=m.world.drawn
 |.ended _ _=>True
theorem uT{d e:Nat}(h:d<=e):∀{s:Stepped},sup e s->sup d s
 |.next _,h'=>Nat.le_trans h h'
 |.ended _ _,_=>trivial
theorem VD(p:Program)(ae:Rest)(gs:Array Goroutine)(i:Nat)(g:Goroutine)(cases:Array CommCase)(b:Bool)(sh:CommShape)(w:World):sup w.drawn (communicate p ae gs i g cases b sh w).1:=by
 unfold communicate
 extract_lets put illMade me other ready pick
 split;trivial;split;split;split;rename_i w1 heq;unfold waitingAt at heq;split at heq;split at heq;cases heq;exact ay w.drawn;cases heq;cases heq;exact ay _;trivial;exact ay w.drawn;have h:=jC p pick w;split;trivial;rename_i heq;rw[heq]at h
 extract_lets r
 split
 all_goals first|exact h|trivial|skip
 split;exact h;split<;>first|trivial|(rename_i heq;exact Nat.le_trans h (Nat.le_trans (jC p _ _) (Nat.le_of_eq (congrArg uA heq))))
theorem aa1(p:Program)(gs:Array Goroutine)(ae:Rest)(w:World):sup w.drawn (look p gs ae w):=by
 unfold look;split;simp only;split;trivial;split;trivial;split<;>first|trivial|(rename_i heq;exact Nat.le_trans (jC p _ w) (Nat.le_of_eq (congrArg uA heq)))
 trivial
theorem akk(p:Program)(m:Machine)(k:Nat):sup m.world.drawn (serve p m k):=by unfold serve;split;trivial;exact ay m.world.drawn;simp;split;trivial;exact ay m.world.drawn
theorem akl(w:World)(c:Nat):(drain w c).2.drawn=w.drawn:=by unfold drain;split<;>rfl
theorem Zu(m:Machine)(k:Nat)(t:Timer)(a b:Nat):(retime m k t a b).2.world.drawn=m.world.drawn:=by unfold retime;simp;split;exact akl _ _;rfl
theorem adk{m m1 m':Machine}{var:Addr}{f:Nat->Timer->Value×Machine}{v:Value}(h:timerOp.named m var f=.ok (v,m'))(hf:∀k t,(f k t).2.world.drawn=m1.world.drawn):m'.world.drawn=m1.world.drawn:=by unfold timerOp.named at h;split at h;injection h with h;exact(congrArg (λ q:Value×Machine=>q.2.world.drawn) h).symm.trans (hf _ _);cases h
theorem afM{m m':Machine}{op:TimerOp}{v:Value}(h:timerOp m op=.ok (v,m')):m'.world.drawn=m.world.drawn:=by
 unfold timerOp at h;split at h;split at h;injection h with h;injection h with _ h;subst h;rfl;split at h;split at h;cases h;injection h with h;injection h with _ h;subst h;rfl;cases h;exact adk h λk t=>Zu _ _ _ _ _;split at h;rename_i var when period m1 heq;have e:m1.world.drawn=m.world.drawn:=by unfold timerOp.opened at heq;split at heq;split at heq;cases heq;rfl;cases heq;cases heq;rfl
 exact(adk h λk t=>Zu _ _ _ _ _).trans e;cases h;injection h with h;injection h with _ h;subst h;rfl
theorem akm(p:Program)(m:Machine)(i:Nat)(l:Bool):sup m.world.drawn (runT p m i l).1:=by
 unfold runT;simp;generalize (m.gs.swapAt! i { (default:Goroutine)with status:=.finished }).1=g;have h:=akj p (i==0) g m.world l;split<;>(rename_i heq;rw[heq]at h)
 all_goals first|exact h|exact uT h (VD _ _ _ _ _ _ _ _ _)|exact uT h (aa1 _ _ _ _)|trivial|skip
 split<;>first|exact h|trivial
 split<;>first|exact h|trivial
 split;rename_i heq;exact Nat.le_trans h (Nat.le_of_eq (afM heq).symm)
 all_goals first|exact h|trivial
def HQ(d:Nat):Move->Prop
 |.goroutine m _=>d<=m.world.drawn
 |.machine s _=>sup d s
theorem VE(p:Program)(m:Machine):HQ m.world.drawn (askOn p m):=by
 unfold askOn
 extract_lets mono rs ds pick
 have hp:∀m:Machine,HQ m.world.drawn (pick m):=by intro m;simp only[pick];have h:=jC p (choose (.sched rs.length)) m.world;split;trivial;rename_i heq;rw[heq]at h;split;exact h;split<;>first|trivial|(rename_i heq;exact Nat.le_trans h (Nat.le_trans (jC p _ _) (Nat.le_of_eq (congrArg uA heq))))
 have hq:∀(d:Nat)(m:Machine),d<=m.world.drawn->HQ d (pick m):=by
  intro d m hd;have:=hp m;generalize pick m=x at this;cases x with
  |goroutine m' i=>exact Nat.le_trans hd this
  |machine s ag=>exact uT hd this
 generalize (if ds.isEmpty = true then pure 0 else choose (.extern "timer.serve" (ds.length + (if rs.isEmpty && (ahead m false).isNone then 0 else 1))) : Sem Nat) = s;have h:=jC p s m.world;split;trivial;rename_i k world heq;rw[heq]at h
 extract_lets m1
 have h1:m.world.drawn<=m1.world.drawn:=h;split;exact uT h1 (akk _ _ _);rcases rs with _|⟨r0,rs⟩;simp;split;exact h1;split;exact h1;split<;>trivial;simp only;split;exact hq _ _ h1;split;trivial
 all_goals (rename_i heq;have h2:=Nat.le_trans h (Nat.le_trans (jC p _ world) (Nat.le_of_eq (congrArg uA heq))))
 exact hq _ _ h2;exact h2;exact hq _ _ h2
theorem akn(p:Program)(m:Machine):HQ m.world.drawn (ask p m):=by
 unfold ask;split;have h := jC p (choose (.extern "collector.look" 2)) m.world;split;trivial;rename_i w heq;rw[heq]at h;split;rename_i m' heq2;have h2:sup w.drawn (.next m'):=heq2 ▸ aa1 p _ _ w;have h3:=VE p m';generalize askOn p m'=x at h3;cases x with
 |goroutine m' i=>exact Nat.le_trans (Nat.le_trans h h2) h3
 |machine s ag=>exact uT (Nat.le_trans h h2) h3
 exact uT h (aa1 _ _ _ _);rename_i w _ heq;rw[heq]at h;have h3:=VE p { m with world:=w };generalize askOn p { m with world:=w }=x at h3;cases x with
 |goroutine m' i=>exact Nat.le_trans h h3
 |machine s ag=>exact uT h h3
 exact VE p m
theorem alU(p:Program)(m:Machine):HQ m.world.drawn (move p m):=by unfold move;split;split;exact ay m.world.drawn;trivial;split;split;exact ay m.world.drawn;exact akn p _;exact akn p m
theorem alV{p:Program}{m m':Machine}(h:step p m=.next m'):m.world.drawn<=m'.world.drawn:=by have h1:=alU p m;unfold step stepT at h;split at h;rename_i m1 i heq;rw[heq]at h1;have h2:=akm p m1 i true;rw[h]at h2;exact Nat.le_trans h1 h2;rename_i heq;rw[heq]at h1;simp at h;rw[h]at h1;exact h1
theorem ahs{p:Program}:∀(n:Nat){m m':Machine},runN p n m=.next m'->m.world.drawn<=m'.world.drawn
 | 0,m,m',h=>by injection h with h;rw[h];exact ay _
 |n+1,m,m',h=>by simp[runN]at h;split at h;rename_i heq;exact Nat.le_trans (alV heq) (ahs n h);rename_i hne;exact absurd h (hne m')
theorem adl{P:Program}{f:FuncId}{args:Array Value}{w:World}{R:Ending->World->Prop}(h:Calls P f args w R)(hR:∀w',¬R .outgrown w'):Calls P f args w λe w'=>R e w'/\w.drawn<=w'.drawn:=by
 intro cs;obtain⟨e,w',fr,hr,hc,h1,h2⟩:=h cs;refine⟨e,w',fr,⟨hr,?_⟩,hc,h1,h2⟩;cases e with
 |outgrown=>exact absurd hr (hR _)
 |returned v|panicked c=>obtain⟨n,hn⟩:=hc;exact ahs n hn
end Go.Gb
namespace Go.Gb
open Go.RowKit Go.Proofs
open Go.Sort hiding Below
def zk(r:List Tree):List Value:=r.map λt=>match t with
 |.sc v=>v
 |.sl _=>.bool false
def mQ(rows:List (List Tree)):Array Value:=(rows.flatMap zk).toArray
def yq(sz:Nat)(rows:List (List Tree)):Prop:=∀r∈rows,r.length=sz/\∀t∈r,∃v,t=.sc v/\oneCell v
theorem Ck(r:List Tree):(zk r).length=r.length:=by simp[zk]
theorem flat_get{sz:Nat}:∀{rows:List (List Tree)},yq sz rows->∀{i j:Nat}{r:List Tree},rows[i]? =some r->j<sz->(rows.flatMap zk)[i*sz+j]? =(zk r)[j]?
 |x::rows,h,0,j,r,hi,hj=>by simp at hi;subst hi;have hx:=(h x (by simp)).1;rw[List.flatMap_cons,List.getElem?_append_left (by rw[Ck];omega)];congr 1;omega
 |x::rows,h,i+1,j,r,hi,hj=>by have hx:=(h x (by simp)).1;have ih:=flat_get (rows:=rows) (λ q hq=>h q (by simp[hq])) (i:=i) (j:=j) (r:=r) (by simpa using hi) hj;rw[List.flatMap_cons,oL (by rw[Ck,Nat.add_mul];omega),Ck,<- ih];congr 1;rw[Nat.add_mul];omega
 |[],_,_,_,_,hi,_=>by simp at hi
theorem ey{sz:Nat}:∀{rows:List (List Tree)},yq sz rows->(rows.flatMap zk).length=rows.length*sz
 |[],_=>by simp
 |x::rows,h=>by have ih:=ey (rows:=rows) (λ q hq=>h q (by simp[hq]));rw[List.flatMap_cons,fG,Ck,(h x (by simp)).1,fU,Nat.add_mul];omega
section
variable {P:Program} {β:Nat->Option cA} {I:Nat->Prop} {w:World}
theorem holds_of{rows:List (List Tree)}{sz:Nat}(hs:yq sz rows){b s:Nat}{c:Array Value}{e:TypeId}(hb:w.heap[b]? =some (.cells c e (0,0)))(hr:bu P β w I (aI rows) c s sz):Holds id w b s (mQ rows):=by
 intro p hp;have hp':p<rows.length*sz:=by rw[<- ey hs];simpa[mQ]using hp
 have hsz:0<sz:=Nat.pos_of_ne_zero λh=>by rw[h]at hp';simp at hp'
 have hi:p/sz<rows.length:=by rw[Nat.div_lt_iff_lt_mul hsz];exact hp'
 have hj:p%sz<sz:=Nat.mod_lt _ hsz;have hpe:p/sz*sz+p%sz=p:=by rw[Nat.mul_comm];exact Nat.div_add_mod p sz
 have hri:rows[p/sz]? =some rows[p/sz]:=dJ hi;obtain⟨hl,ht⟩:=hs _ (List.getElem_mem hi);have h1:=(ow _ _ _ _).1 hr (p/sz) ((rows[p/sz]).map AV.t) (by simp[aI,hi]);have hjr:p%sz<(rows[p/sz]).length:=by omega
 obtain⟨v,hv,hv1⟩:=ht _ (List.getElem_mem hjr);obtain⟨u,hu,hvu,_⟩:=(jM _ _ _).1 h1.2 (p%sz) (.t (rows[p/sz][p%sz])) (by simp);rw[hv]at hvu;have hfl:(rows.flatMap zk)[p]? =some v:=by have:=flat_get hs hri hj;rw[hpe]at this;rw[this];simp[zk,hjr,hv]
 have hg:(mQ rows)[p]! =v:=by
  rw[getElem!_def];have:(mQ rows)[p]? =some v:=by simpa[mQ]using hfl
  rw[this]
 have hcell:c[s+p]? =some u:=by rw[<- hpe,<- Nat.add_assoc];exact hu
 rw[hg];simp[World.cell?,hb];simp[hcell,hvu.1];simp[World.frozen?,hb]
theorem ako{rows':List (List Tree)}{sz:Nat}(hs':yq sz rows'){s:Nat}{c:Array Value}(hsz:s+rows'.length*sz<=c.size):
 bu P β w I (aI rows') (putCells id s (mQ rows') c) s sz:=by
 rw[ow];intro i r hi;simp[aI]at hi;obtain⟨r0,hi,rfl⟩:=hi;obtain⟨hl,ht⟩:=hs' _ (bZ hi);have hilt:=(dh.1 hi).1;refine⟨by simpa using hl,?_⟩;rw[jM];intro j x hj;simp at hj;obtain⟨t,hj,rfl⟩:=hj;obtain⟨v,rfl,hv1⟩:=ht t (bZ hj);have hjlt:=(dh.1 hj).1;have hm:(i+1)*sz<=rows'.length*sz:=Nat.mul_le_mul_right _ hilt;rw[Nat.add_mul]at hm;have hfl:(rows'.flatMap zk)[i*sz+j]? =some v:=by rw[flat_get hs' hi (by omega)];simp[zk,hj]
 have hlen:(mQ rows').size=rows'.length*sz:=by simp[mQ,ey hs']
 have hg:(mQ rows')[i*sz+j]! =v:=by
  rw[getElem!_def];have:(mQ rows')[i*sz+j]? =some v:=by simpa[mQ]using hfl
  rw[this]
 refine⟨v,?_,by simp[VR,TR,hv1],hv1⟩;have hk:s+i*sz+j<c.size:=by omega
 simp only[putCells,Array.getElem?_mapIdx,Array.getElem?_eq_getElem hk,Option.map_some];rw[aX ⟨by omega,by omega⟩,show s+i*sz+j-s=i*sz+j by omega,hg];rfl
end
theorem adm{P:Program}{f:FuncId}(hcall:eT P f){sz:Nat}{rows rows':List (List Tree)}{more:List AV}(hs:yq sz rows)(hs':yq sz rows')(hl:rows'.length=rows.length)
 (h0:rows=[]->∀(β:Nat->Option cA) (I:Nat->Prop) (w:World) (vs:List Value),bo P β w I more vs->Calls P f ⟨.slice none 0 0::vs⟩ w λe w'=>e=.returned (.tuple #[])/\∃n os,w'=grow (Sort.ahead w n) os)
 (h:∀(b aa cap:Nat) (β:Nat->Option cA) (I:Nat->Prop) (w:World) (vs:List Value),bo P β w I more vs->¬I b->(∀ b,I b->b<w.heap.size)->Holds id w b aa (mQ rows)->b<w.heap.size->Calls P f ⟨.slice (some ⟨b,aa,none⟩) rows.length cap::vs⟩ w λe w'=>
  e=.returned (.tuple #[])/\∃n os,w'=grow (putRow id (Sort.ahead w n) b aa (mQ rows')) os):
 p5 P f (.own 0 0 rows.length::more) [(sz,rows)] [some (sz,rows')] (.eV []):=by
 refine⟨hcall,λw β I vs hβ hM hvs=>?_⟩;have hgr:∀(w:World)(n:Nat)(os:Array Obj),Below w.heap.size w (grow (Sort.ahead w n) os):=λw n os=>⟨rfl,rfl,rfl,by simp,λk hk=>by simp[grow];rw[Array.getElem?_append_left hk]⟩;obtain⟨vs⟩:=vs
 match vs,hvs with
 |v::ae,hvs=>
  have hv:=hvs.1;have hr:=hvs.2;have hk:rh [(sz,rows)] 0=some ⟨sz,aI rows⟩:=rfl;have fin:∀w':World,Mem P w (mV β I) β I (Dn [some (sz,rows')]) w'->QQ P w β I [some (sz,rows')] (.eV []) (.returned (.tuple #[])) w':=λw' hm=>⟨_,I,rfl,hm,λ_ h=>h,#[],rfl,by simp[TK]⟩;have hbel:∀(obj:Nat->Option aM)(w1 w':World),Mem P w (mV β I) β I obj w1->Below w1.heap.size w1 w'->Mem P w (mV β I) β I obj w':=λobj w1 w' hm hb=>(hm.below hb (I':=I) (λ _ h=>h) (λ b hb'=>Nat.lt_of_lt_of_le (hm.lt b hb') hb.size) (λ b k o B h1 h2 h3 h4=>(hm.ownB k o B b h2 h3 h4).1 h1) hm.up).2;have rN:∀k o,Dn [some (sz,rows')] k=some o->k=0/\o=⟨sz,aI rows'⟩:=by
   intro k o hk';cases k with
   |zero=>simp[Dn]at hk';exact⟨rfl,hk'.symm⟩
   |succ k=>simp[Dn]at hk'
  rcases hv with ⟨hn,rfl,_,hlen⟩|⟨b,sz',n,cap,o,PB,rfl,hcap,hfit,ho⟩;have e0:rows=[]:=eq_nil_of_length_eq_zero hlen;have e1:rows'=[]:=eq_nil_of_length_eq_zero (by rw[hl,hlen]);refine(h0 e0 β I w ae hr).mono ?_;rintro e w' ⟨rfl,m,os,rfl⟩;refine fin _ (hbel _ w _ (hM.weak λk o' hk'=>?_) (hgr w m os));obtain⟨rfl,rfl⟩:=rN k o' hk';refine⟨_,hk,λB hB hO=>?_⟩;rw[e0]at hO;rw[e1];exact hO;obtain⟨B,hB,hO⟩:=hM.cy 0 _ hk;rw[PB]at hB;cases hB;obtain⟨hz,c,e,hheap,hcs,hrows⟩:=hO;subst hz;have hblk:=(hM.own 0 _ b _ n hk PB).2.1;have zr:(mQ rows).size=rows.length*sz':=by simp[mQ,ey hs]
  have hH:Holds id w b o (mQ rows):=by by_cases hc0:cap=0;intro p hp;have:rows.length=0:=(by omega);rw[zr,this]at hp;simp at hp;have e1:o=n.s:=(by have:=ho hc0;omega);rw[e1];exact holds_of hs hheap hrows
  refine(h b o cap β I w ae hr (hM.own 0 _ b _ n hk PB).1 hM.lt hH hblk).mono ?_;rintro e' w' ⟨rfl,m,os,rfl⟩;have hsw:putRow id (Sort.ahead w m) b o (mQ rows')=Sort.ahead (putRow id w b o (mQ rows')) m:=rfl;have hw1:Mem P w (mV β I) β I (bV (rh [(sz',rows)]) [(0,some ⟨sz',aI rows'⟩)]) (putRow id w b o (mQ rows')):=by have hnew:(putRow id w b o (mQ rows')).heap[b]? =some (.cells (putCells id o (mQ rows') c) e (0,0)):=(by simp[putRow,mapBlock,Array.getElem?_modify,hheap,onCells]);have hoth:∀b',b'≠b->(putRow id w b o (mQ rows')).heap[b']? =w.heap[b']? :=λb' hb'=>(by simp[putRow,mapBlock,Array.getElem?_modify,aV (Ne.symm hb')]);have hcsz:(putCells id o (mQ rows') c).size=c.size:=(by simp[putCells]);refine(hM.write (o':=⟨sz',aI rows'⟩) hk PB hnew hoth (by simp) rfl rfl rfl rfl (by rw[hcsz];exact hcs) ?_).2;by_cases hc0:cap=0;have e1:rows'=[]:=eq_nil_of_length_eq_zero (by omega);rw[e1];simp[aI,bu];have e1:o=n.s:=(by have:=ho hc0;omega);rw[e1];refine ako hs' ?_;have:rows.length*sz'<=cap*sz':=Nat.mul_le_mul_right _ hcap;rw[hl,hcs];simp at hfit;omega
  refine fin _ (hbel _ _ _ (hw1.weak λk o' hk'=>?_) (hgr _ m os));obtain⟨rfl,rfl⟩:=rN k o' hk';exact⟨_,rfl,λ_ _ h=>h⟩
end Go.Gb
namespace Go.Gb
open Go.RowKit Go.Proofs Go.Shelf
open Go.Sort hiding Below
theorem akp{α:Type}[Inhabited α]{enc:α->List Value}{k:Nat}{row:α->List Tree}(he:∀x,enc x=zk (row x))(hs:∀x,(row x).length=k/\∀t∈row x,∃v,t=.sc v/\oneCell v)(l:List α):
 flatK enc k l.toArray=mQ (l.map row):=by
 have hS:yq k (l.map row):=by intro r hr;obtain⟨x,_,rfl⟩:=mem_map.1 hr;exact hs x
 have hlen:(mQ (l.map row)).size=l.length*k:=by simp[mQ,ey hS]
 refine Array.ext (by rw[hlen];simp) λt h1 h2=>?_;rw[hlen]at h2;have hk:0<k:=Nat.pos_of_ne_zero λh=>by rw[h]at h2;simp at h2
 have hi:t/k<l.length:=by rw[Nat.div_lt_iff_lt_mul hk];exact h2
 have hj:t%k<k:=Nat.mod_lt _ hk;have hte:t/k*k+t%k=t:=by rw[Nat.mul_comm];exact Nat.div_add_mod t k
 have e1:=get_flatK enc k l.toArray t (by simpa using h2);rw[getElem!_pos _ t h1]at e1;rw[e1];have e2:=flat_get hS (i:=t/k) (j:=t%k) (r:=row l[t/k]) (by simp[hi]) hj;rw[hte]at e2;have e3:l.toArray[t/k]! =l[t/k]:=by rw[getElem!_pos _ _ (by simpa using hi)];simp
 rw[e3,he];have hjl:t%k<(zk (row l[t/k])).length:=by rw[Ck,(hs _).1];exact hj
 rw[getElem!_pos (zk (row l[t/k])) _ hjl];rw[dJ hjl]at e2;have h3:t<((l.map row).flatMap zk).length:=by rw[ey hS];simpa using h2
 rw[dJ h3]at e2;injection e2 with e2;exact e2.symm
theorem aa3{P:Program}{t:TypeId}{fs:Array Field}(h:P.underlying t=some (.struct fs))(w:World):(isAgg t).run P w=.ok true w:=by simp[isAgg,run_underlying h]
theorem X4{P:Program}{t:TypeId}{k:Nat}(h:(P.info? t).map (·.size)=some k)(w:World):(Go.sizeOf t).run P w=.ok k w:=by
 cases hi:P.info? t with
 |none=>rw[hi]at h;cases h
 |some i=>
  rw[hi]at h;cases h;simp[Go.sizeOf,typeInfo,hi]
theorem grown_of{w w':World}(h:Below w.heap.size w w')(hd:w.drawn<=w'.drawn):∃q os,w'=grow (w.drewN q) os:=by
 obtain⟨h1,h2,h3,h4,h5⟩:=h;obtain⟨hp,tp,dr,o,ou⟩:=w';obtain⟨hp0,tp0,dr0,o0,ou0⟩:=w;simp at h1 h2 h3 h4 h5 hd;subst h1;subst h2;subst h3;refine⟨dr-dr0,hp.extract hp0.size,?_⟩;simp only[grow,World.drewN];have e1:dr0+(dr-dr0)=dr:=by omega
 have e2:hp0++hp.extract hp0.size=hp:=by refine Array.ext_getElem? λi=>?_;rw[Array.getElem?_append];split;rename_i hi;exact(h5 i hi).symm;rw[Array.getElem?_extract];split;congr 1;omega;symm;rw[Array.getElem?_eq_none_iff];omega
 rw[e1,e2]
def Mz{α:Type}(lt:α->α->Bool)(L:List α):Bool:=
 L.all λx=>!lt x x&&L.all λy=>L.all λz=>(!(lt x y&&lt y z) || lt x z)&&(lt x y || (lt y z || !lt x z))
def Zv{α:Type}[Inhabited α](l:List α)(φ:α×α×Unit->Option Int):Option (List α):=
 bif Nat.ble l.length 1099511627775&&((default::l).all λx=>(default::l).all λy=>(φ (x,y,())).isSome)&&Mz (λ x y=>decide ((φ (x,y,())).getD 0<0)) (default::l)then
  some (rW (λ x y=>decide ((φ (x,y,())).getD 0<0)) l)else none
theorem adn{α:Type}[Inhabited α]{l:List α}{φ:α×α×Unit->Option Int}(f:α->α->Int)(hφ:∀x y,φ (x,y,())=some (f x y)){lt:α->α->Bool}(hf:∀x y,decide (f x y<0)=lt x y)(hS:SWO lt)(hl:l.length<1099511627776):Zv l φ=some (rW lt l):=by
 have e:(λ x y=>decide ((φ (x,y,())).getD 0<0))=lt:=by funext x y;rw[hφ];exact hf x y
 unfold Zv;have h1:Nat.ble l.length 1099511627775=true:=Nat.ble_eq_true_of_le (by omega);have h2:((default::l).all λx=>(default::l).all λy=>(φ (x,y,())).isSome)=true:=by simp[hφ]
 have h3:Mz lt (default::l)=true:=by
  simp only[Mz,all_eq_true,bg,Bool.or_eq_true,Bool.not_eq_true'];refine λx _=>⟨hS.irrefl x,λy _ z _=>⟨?_,?_⟩⟩;cases h1:lt x y<;>cases h2:lt y z<;>first|exact .inl rfl|exact .inr (hS.trans x y z h1 h2)
  cases h1:lt x y<;>cases h2:lt y z<;>first|exact .inl rfl|exact .inr (.inl rfl)|exact .inr (.inr (hS.ntrans x y z h1 h2))
 rw[e,h1,h2,h3];rfl
def NL(l:List Int):Option (List Int):=bif Nat.ble l.length 1099511627775 then some (kN ov l)else none
theorem aiH{P:Program}{ρ:Ren}{f:FuncId}(L:SlLaysM.n5 P ρ)(hf:ρ.f 5=f)(hcall:eT P f){l r:List Int}(h:NL l=some r):
 p5 P f [.own 0 0 l.length] [(1,l.map λx=>[.sc (.int .i64 x)])] [some (1,r.map λx=>[.sc (.int .i64 x)])] (.eV []):=by
 subst hf;unfold NL at h;cases hb:Nat.ble l.length 1099511627775 with
 |false=>rw[hb]at h;cases h
 |true=>
  rw[hb]at h;injection h with h;have hw:=Nat.le_of_ble_eq_true hb;have hS:∀l:List Int,yq 1 (l.map λx=>[Tree.sc (.int .i64 x)]):=by intro l r hr;obtain⟨x,_,rfl⟩:=mem_map.1 hr;exact⟨rfl,λt ht=>⟨_,bq.1 ht,trivial⟩⟩
  have hF:∀l:List Int,mQ (l.map λx=>[Tree.sc (.int .i64 x)])=(l.map (Value.int .i64)).toArray:=by
   intro l;simp[mQ,List.flatMap_map]
   induction l with
   |nil=>rfl
   |cons a l ih=>rw[List.flatMap_cons,ih];rfl
  have hP:∀(w:World)(b aa:Nat)(l:List Int),putRow id w b aa (l.map (Value.int .i64)).toArray=putRow (Value.int .i64) w b aa l.toArray:=by intro w b aa l;unfold putRow putCells;congr 1;funext c;congr 1;funext k x;simp only[List.size_toArray,length_map,id];split;have hk2:k-aa<l.length:=(by omega);rw[getElem!_pos _ _ (by simpa using hk2),getElem!_pos _ _ (by simpa using hk2)];simp;rfl
  have hlen:r.length=l.length:=by rw[<- h];exact(Ea ov l).length_eq
  have:=adm hcall (more:=[]) (hS l) (hS r) (by simpa using hlen) (λ h0 β I w vs hv=>?_) (λ b aa cap β I w vs hv hb hlt hH hblk=>?_);simpa using this
  match vs,hv with
  |[],_=>
   refine(AnyM.slices_Sort_int_none L none 0 w).mono ?_;rintro e w' ⟨rfl,rfl⟩;exact⟨rfl,0,#[],by simp⟩
  match vs,hv with
  |[],_=>
   have hH':Holds (Value.int .i64) w b aa l.toArray:=(by intro j hj;have hj2:j<l.length:=(by simpa using hj);rw[hF]at hH;have:=hH j (by simpa using hj2);rw[getElem!_pos _ j (by simpa using hj2)]at this ⊢;simpa using this);have hm:=AnyM.slices_Sort_int L b aa cap l w hH' hblk (by omega);simp;refine hm.mono ?_;rintro e w' ⟨rfl,n,os,rfl⟩;refine⟨rfl,n,os,?_⟩;rw[hF,hP,<- h,X0]
theorem VF{w:World}{I:Nat->Prop}:∀{cs:List Tree},(∀ t∈cs,∃v,t=.sc v/\oneCell v)->eI w I cs (zk cs)
 |[],_=>by simp[eI,zk]
 |t::cs,h=>by obtain⟨v,rfl,hv⟩:=h t (by simp);have ih:=VF (w:=w) (I:=I) (cs:=cs) λt ht=>h t (by simp[ht]);simp only[zk,bJ,eI,TR]at ih ⊢;exact⟨⟨trivial,hv⟩,ih⟩
theorem Zw{P:Program}{ρ:Ren}{f:FuncId}(L:SlLaysF0.n6 P ρ)(hf:ρ.f 6=f)(hcall:eT P f){X:SX}{i:X.ι}[hI:Inhabited (CT.T X.toSE (.st i))]{fs:Array Field}
 (ha:P.underlying (ρ.t 24)=some (.struct fs)) (hz:(P.info? (ρ.t 24)).map (·.size)=some (CT.sz X (.st i)))
 (hsc:∀x:CT.T X.toSE (.st i),∀t∈CT.row X.toSE (.st i) x,∃v,t=.sc v/\oneCell v)
 {l r:List (CT.T X.toSE (.st i))} {φ:(CT.T X.toSE (.st i)×CT.T X.toSE (.st i)×Unit)->Option Int} (h:Zv l φ=some r):
 p5 P f [.own 0 0 l.length,.du λts u=>∃(h:HL X.toSE [.st i,.st i])(x:Int),φ h=some x/\ts=HL.m5 X.toSE [.st i,.st i] h/\u=CT.tv X.toSE (.int .i64) x]
  [(CT.sz X (.st i),l.map (CT.row X.toSE (.st i)))] [some (CT.sz X (.st i),r.map (CT.row X.toSE (.st i)))] (.eV []):=by
 subst hf;unfold Zv at h;generalize hg:(Nat.ble l.length 1099511627775&&((default::l).all λx=>(default::l).all λy=>(φ (x,y,())).isSome)&&Mz (λ x y=>decide ((φ (x,y,())).getD 0<0)) (default::l))=b at h;cases b with
 |false=>cases h
 |true=>
  injection h with h;simp only[bg]at hg;obtain⟨⟨hl0,hsome⟩,xr⟩:=hg;have hl:=Nat.le_of_ble_eq_true hl0
  let β':={ x:CT.T X.toSE (.st i) // x∈default::l }
  letI:Inhabited β':=⟨⟨default,by simp⟩⟩
  let cf:β'->β'->Int:=λx y=>(φ (x.1,y.1,())).getD 0
  have hφ:∀x y:β',φ (x.1,y.1,())=some (cf x y):=by intro x y;rw[all_eq_true]at hsome;have h1:=hsome x.1 x.2;rw[all_eq_true]at h1;obtain⟨r,hr⟩:=Option.isSome_iff_exists.1 (h1 y.1 y.2);simp only[cf,hr];rfl
  have hO:SWO (ltOf cf):=by simp only[Mz,all_eq_true,bg,Bool.or_eq_true,Bool.not_eq_true']at xr;refine⟨λ x=>(xr x.1 x.2).1,λx y z h1 h2=>?_,λx y z h1 h2=>?_⟩;rcases ((xr x.1 x.2).2 y.1 y.2 z.1 z.2).1 with h|h;rw[Bool.and_eq_false_iff]at h;rcases h with h|h;exact absurd (h1.symm.trans h) (by decide);exact absurd (h2.symm.trans h) (by decide);exact h;rcases ((xr x.1 x.2).2 y.1 y.2 z.1 z.2).2 with h|h|h;exact absurd (h1.symm.trans h) (by decide);exact absurd (h2.symm.trans h) (by decide);exact h
  let l':List β':=l.attach.map λx=>⟨x.1,by simp[x.2]⟩
  have hl':l'.map Subtype.val=l:=by simp only[l',map_map];exact List.attach_map_subtype_val l
  have hr':(rW (ltOf cf) l').map Subtype.val=r:=by have:=akd (f:=λx:β'=>x.1) rfl (λ x y=>decide ((φ (x,y,())).getD 0<0)) l';rw[hl',h]at this;exact this.symm
  have hrow:=λx=>Gz (X:=X) (.st i) x;have hS:∀l:List (CT.T X.toSE (.st i)),yq (CT.sz X (.st i)) (l.map (CT.row X.toSE (.st i))):=by intro l r hr;obtain⟨x,_,rfl⟩:=mem_map.1 hr;exact⟨hrow x,hsc x⟩
  have hF:=akp (α:=β') (enc:=λx=>zk (CT.row X.toSE (.st i) x.1)) (row:=λx=>CT.row X.toSE (.st i) x.1) (λ _=>rfl) λx=>⟨hrow x.1,hsc x.1⟩;have hm1:l'.map (λ x=>CT.row X.toSE (.st i) x.1)=l.map (CT.row X.toSE (.st i)):=by
   conv=>rhs;rw[<- hl',map_map]
   rfl
  have hm2:(rW (ltOf cf) l').map (λ x=>CT.row X.toSE (.st i) x.1)=r.map (CT.row X.toSE (.st i)):=by rw[<- hr',map_map];rfl
  have hll:l'.length=l.length:=by simp[l']
  have hlen:r.length=l.length:=by rw[<- hr',length_map,D8 hO,hll]
  have:=adm hcall (more:=[.du λts u=>∃(h:HL X.toSE [.st i,.st i])(x:Int),φ h=some x/\ts=HL.m5 X.toSE [.st i,.st i] h/\u=CT.tv X.toSE (.int .i64) x]) (hS l) (hS r) (by simpa using hlen) (λ h0 β I w vs hv=>?_) (λ b aa cap β I w vs hv hb hlt hH hblk=>?_);simpa using this
  match vs,hv with
  |[v],_=>
   refine(AnyF.slices_SortFunc_none L none 0 v w).mono ?_;rintro e w' ⟨rfl,rfl⟩;exact⟨rfl,0,#[],by simp[Sort.ahead]⟩
  match vs,hv with
  |[v],hv=>
   simp only[bo,VR]at hv;obtain⟨⟨g,first,cb,rfl,rfl,hg1,hg2,ud⟩,_⟩:=hv;obtain⟨fn,hfn⟩:=Option.isSome_iff_exists.1 hg2;obtain⟨c,hbody⟩:=Option.isSome_iff_exists.1 (hg1 fn hfn).1;rw[<- hm1,<- hF l']at hH
   have hm:=AnyQ.slices_SortFunc_eq L (CT.sz X (.st i)) (aa3 ha) (X4 hz) (λ x:β'=>zk (CT.row X.toSE (.st i) x.1)) (λ x=>by rw[Ck,hrow])
    (λ x v hv=>by obtain⟨t,ht,rfl⟩:=mem_map.1 hv;obtain⟨u,rfl,hu⟩:=hsc x.1 t ht;cases u<;>simp_all [oneCell,Value.oneCell']) cf hO g cb b aa cap l'.toArray w (enters_of hfn (hg1 fn hfn).2 hbody) ?_ hH hblk (by simp[hll];omega)
   simp[length_map];simp[List.size_toArray,hll]at hm;refine hm.mono ?_;rintro e w' ⟨rfl,n,os,rfl⟩;refine⟨rfl,n,os,?_⟩;have e1:pdq (ltOf cf) l'.toArray 0 l.length (Lib.bitLen l.length) true true=(rW (ltOf cf) l').toArray:=(by rw[bitLen_eq _ (by omega),<- hll];rfl);rw[e1,<- hm2,<- hF];rfl;intro m os dk hs x y;have hsame:Same I w (sortWorldK (λ x:β'=>zk (CT.row X.toSE (.st i) x.1)) (CT.sz X (.st i)) w b aa m dk os):=(by intro b' hb';have h1:=hlt b' hb';simp[sortWorldK,grow,putRowK,putRow,mapBlock,Sort.ahead];rw[Array.getElem?_append_left (by simpa using h1),Array.getElem?_modify,aV (by rintro rfl;exact hb hb')])
   have hc:=ud _ I _ ⟨[.agg (zk (CT.row X.toSE (.st i) x.1)).toArray,.agg (zk (CT.row X.toSE (.st i) y.1)).toArray]⟩ _ (λ _ h=>h) hsame
    (λ b' hb'=>Nat.lt_of_lt_of_le (hlt b' hb') (by simp[sortWorldK,grow,putRowK,putRow,mapBlock,Sort.ahead])) ⟨(x.1,y.1,()),cf x y,hφ x y,rfl,rfl⟩
    ⟨⟨_,rfl,VF (hsc x.1)⟩,⟨_,rfl,VF (hsc y.1)⟩,trivial⟩
   refine(adl hc (λ w' ⟨_,_,he,_⟩=>by cases he)).mono ?_;rintro e w' ⟨⟨u,I',rfl,hbel,_,_,_,hu⟩,hd⟩;refine⟨?_,grown_of hbel hd⟩;rw[hu.1]
end Go.Gb
namespace Go.Gb
open Go.RowKit
def Kp(n0 B0:Nat)(W W':World):Prop:=Below n0 W W'/\∀b,B0<=b->b<W.heap.size->W'.heap[b]? =W.heap[b]?
theorem Kp.refl(n0 B0:Nat)(W:World):Kp n0 B0 W W:=⟨Below.refl _ _,λ_ _ _=>rfl⟩
theorem Kp.trans{n0 B0:Nat}{X Y Z:World}(h:Kp n0 B0 X Y)(k:Kp n0 B0 Y Z):Kp n0 B0 X Z:=
 ⟨h.1.trans k.1,λb hb hl=>(k.2 b hb (Nat.lt_of_lt_of_le hl h.1.size)).trans (h.2 b hb hl)⟩
theorem Kp.mono{n0 n1 B0 B1:Nat}{X Y:World}(h:Kp n0 B0 X Y)(hn:n1<=n0)(hb:B0<=B1):Kp n1 B1 X Y:=
 ⟨h.1.mono hn,λb h1 h2=>h.2 b (Nat.le_trans hb h1) h2⟩
theorem Kp.alloc{n0 B0:Nat}{X Y:World}(h:Kp n0 B0 X Y)(hn:n0<=Y.heap.size)(o:Obj):Kp n0 B0 X (Y.alloc o):=
 h.trans ⟨(Below.refl _ Y).alloc hn o,λb _ hl=>Below.heap_alloc Y o b hl⟩
theorem Kp.put{n0 B0:Nat}(W:World)(l:Nat)(o o':Obj)(h:W.heap[l]? =some o)(h1:n0<=l)(h2:l<B0):Kp n0 B0 W (W.putObj l o'):=
 ⟨(Below.refl n0 W).grown (grownBy_putObj' W l o') (by have:=(Array.getElem?_eq_some_iff.1 h).1;omega) (λ k e=>by cases e;omega),λb hb _=>World.putObj_heap_other (by omega)⟩
def wA{α:Type}(B0:Nat)(J:α->World->Prop):Prop:=∀s A B,J s A->Below B0 A B->J s B
theorem wA.and{α:Type}{B0:Nat}{I J:α->World->Prop}(h:wA B0 I)(k:wA B0 J):wA B0 λs W=>I s W/\J s W:=λs A B hs hb=>⟨h s A B hs.1 hb,k s A B hs.2 hb⟩
theorem wA.mono{α:Type}{B0 B1:Nat}{J:α->World->Prop}(h:wA B0 J)(hb:B0<=B1):wA B1 J:=λs A B hs hk=>h s A B hs (hk.mono hb)
theorem ani{α:Type}{n0 B0 B1:Nat}{w:World}(hw:w.heap.size<=B1)(hn:n0<=B1):wA B1 (λ (_:α) W=>Kp n0 B0 w W):=λ_ A B hs hb=>
 ⟨hs.1.trans (hb.mono hn),λb h1 h2=>(hb.block b (by omega)).trans (hs.2 b h1 h2)⟩
def anX{α:Type}(P:Program)(g:Nat)(lb:Array Value)(encs:α->Array Value)(n0:Nat)(ys:List α)(N:World->Prop)(w:World):Prop:=
 ∀(n l B0 L:Nat)(J:List α->World->Prop)(W:World),Below w.heap.size w W->n0<=B0->B0<=W.heap.size->wA B0 J->(∀ s W,J s W->N W)->
  (∀ m pre x W1,x∈ys->pre.length<L->J pre W1->B0<=W1.heap.size->YieldAt Fence.wide m P l (encs x) W1 λe W'=>e=.returned (.bool true)/\J (pre++[x]) W'/\Kp n0 B0 W1 W')->∀pre,pre.length+ys.length<=L->J pre W->
  CallsIn Fence.wide n P g (#[.func (.yield l) #[] #[]]++lb) W λe W'=>(∃ v,e=.returned v)/\J (pre++ys) W'/\Kp n0 B0 W W'
variable {n:Nat} {P:Program}
theorem Cm{α:Type}{g:Operand}{ps:Array Tmp}{assign body:Code}{Q:Exit->Act->World->Prop}{a:Act}{w:World}
 {gf:Nat} {lb:Array Value} (hg:a.eval g=.func (.func gf) #[] lb) (eg:∀args w,(callFunc gf args).run P w=.ok (.enter gf args) w)
 {encs:α->Array Value} {n0:Nat} {ys:List α} {N:World->Prop} {w0:World} (hseq:anX P gf lb encs n0 ys N w0) (hb0:Below w0.heap.size w0 w) (hn0:n0<=w.heap.size) (hps:∀x,(encs x).size=ps.size)
 (I:List α->World->Prop) (hI:wA w.heap.size I) (hN:∀s W,I s W->N W) (h0:I [] w) (a₁:α->Act)
 (hassign:∀(l:Nat)(x:α)(W:World)(K:Act->World->Prop),K (a₁ x) W->
  assign.wpIn (Fence.wide.inRound l) (n-1-1) P (Exit.then K (λ _ _ _=>False)) { tmps:=(ps.zip (encs x)).foldl (λ t (p,v)=>t.setIfInBounds p v) a.tmps,defers:=[] } W)
 (hbody:∀(l:Nat)(pre:List α)(x:α)(W:World),x∈ys->pre.length<ys.length->I pre W->w.heap.size+2<=W.heap.size->body.wpIn (Fence.wide.inRound l) (n-1-1) P (λ e _ W'=>e=.normal/\I (pre++[x]) W'/\Kp n0 w.heap.size W W') (a₁ x) W)
 (hdone:∀(D:Nat)(W:World),w.heap.size<=D->I ys W->Below n0 w W->W.heap[D]? =some (.deferred (some []))->Q .normal { a with defers:={ target:=.collected D,args:=#[] }::a.defers } W):
 (Code.rangeFunc g ps assign body).wpIn Fence.wide n P Q a w:=by
 refine wpIn_rangeFunc ?_;intro fn hfn;show _;obtain⟨rec,hrec⟩:∃rec:LoopState->Option Code->Loop,rec=λst pe=>{ state:=st,pending:=pe,fn,tmps:=a.tmps,params:=ps,assign,body,defers:=w.heap.size }:=⟨_,rfl⟩;obtain⟨W1,hW1⟩:∃W1,(w.alloc (.deferred (some []))).alloc (.loop (rec .ready none))=W1:=⟨_,rfl⟩;have hL1:W1.heap[w.heap.size+1]? =some (.loop (rec .ready none)):=by rw[<- hW1];have:=World.alloc_heap_new (w.alloc (.deferred (some []))) (.loop (rec .ready none));rwa [World.size_alloc]at this
 have hK1:W1.heap[w.heap.size]? =some (.deferred (some [])):=by rw[<- hW1];exact(Below.heap_alloc _ _ _ (by simp)).trans (World.alloc_heap_new w _)
 have hs1:W1.heap.size=w.heap.size+2:=by rw[<- hW1];simp
 have hb1:Below w.heap.size w W1:=by rw[<- hW1];exact((Below.refl _ w).alloc (ay _) _).alloc (by simp) _
 have hI1:I [] W1:=hI _ _ _ h0 hb1
 refine⟨w.heap.size+1,[{ target:=.collected w.heap.size,args:=#[] }],W1,{ target:=.fn (.func gf) lb,args:=#[.func (.yield (w.heap.size+1)) #[] #[]] },W1,gf,
  #[.func (.yield (w.heap.size+1)) #[] #[]]++lb,W1,?_,?_,?_,?_,λh=>by simp[Fence.wide]at h,?_⟩
 ·rw[<- hW1,hrec];exact run_enterLoop_outer _ _ _ _ _
 ·simp only[resolve,hg];simp[go_sem]
 ·intro f' hf';trivial
 ·simp[invoke,go_sem,eg]
 ·refine(hseq (n-1) (w.heap.size+1) (w.heap.size+2) ys.length (λ pre W=>I pre W/\W.heap[w.heap.size+1]? =some (.loop (rec .ready none))/\W.heap[w.heap.size]? =some (.deferred (some []))) W1
   (hb0.trans (hb1.mono hb0.size)) (by omega) (by omega) (λ s A B hs hb=>⟨hI s A B hs.1 (hb.mono (by omega)),(hb.block _ (by omega)).trans hs.2.1,(hb.block _ (by omega)).trans hs.2.2⟩) (λ s W h=>hN s W h.1) ?_ [] (by simp) ⟨hI1,hL1,hK1⟩).mono ?_
  ·rintro m pre x W hxy hpl ⟨hi,hl,hk⟩ hsz;have hlt:w.heap.size+1<W.heap.size:=(Array.getElem?_eq_some_iff.1 hl).1;have hy:=run_yield (P:=P) (args:=encs x) hl (by rw[hrec];exact hps x);rw[hrec]at hy
   suffices h:YieldAt Fence.wide (n-1-1) P (w.heap.size+1) (encs x) W λe W'=>e=.returned (.bool true)/\(I (pre++[x]) W'/\W'.heap[w.heap.size+1]? =some (.loop (rec .ready none))/\W'.heap[w.heap.size]? =some (.deferred (some [])))/\Kp n0 (w.heap.size+2) W W' by obtain⟨f1,t1,c1,c2,h1,h2⟩:=h;exact⟨f1,t1,c1,c2,h1,h2.1,λc cs _=>h2.2 c cs (λ d h=>by simp[Fence.wide]at h)⟩
   refine⟨fn,_,assign,body,hy,roundIn_of_wpIn hfn (hassign _ x W _ ⟨_,run_beginRound hl (by rw[hrec]),?_⟩)⟩;have hl2:(W.putObj (w.heap.size+1) (.loop { rec .ready none with state:=.busy })).heap[w.heap.size+1]? =some (.loop { rec .ready none with state:=.busy }):=World.putObj_heap_same hlt;have hk2:(W.putObj (w.heap.size+1) (.loop { rec .ready none with state:=.busy })).heap[w.heap.size]? =some (.deferred (some [])):=(World.putObj_heap_other (by omega)).trans hk;have hw2:Kp n0 (w.heap.size+2) W (W.putObj (w.heap.size+1) (.loop { rec .ready none with state:=.busy })):=Kp.put _ _ _ _ hl (by omega) (by omega);have Cl:∀o,(W.putObj (w.heap.size+1) o).heap.size=W.heap.size:=λo=>(by simp[World.putObj]);have hbw:Below w.heap.size W (W.putObj (w.heap.size+1) (.loop { rec .ready none with state:=.busy })):=(Kp.put (n0:=w.heap.size) (B0:=w.heap.size+2) _ _ _ _ hl (by omega) (by omega)).1;refine wpIn_mono (hbody _ pre x _ hxy hpl (hI _ _ _ hi hbw) (by rw[Cl];omega)) ?_;rintro e a3 W3 ⟨rfl,hi3,hk3⟩;have hl3:=(hk3.2 (w.heap.size+1) (by omega) (by rw[Cl];omega)).trans hl2;have hd3:=(hk3.2 w.heap.size (ay _) (by rw[Cl];omega)).trans hk2;have hr:=run_endRound (P:=P) none hl3;rw[hrec]at hr;have CE:=hl3;rw[hrec]at CE;refine⟨_,_,hr,rfl,⟨hI _ _ _ hi3 (Kp.put (n0:=w.heap.size) (B0:=w.heap.size+2) _ _ _ _ CE (by omega) (by omega)).1,?_,(World.putObj_heap_other (by omega)).trans hd3⟩,?_⟩
   ·rw[hrec];exact World.putObj_heap_same (Array.getElem?_eq_some_iff.1 hl3).1
   ·exact hw2.trans ((hk3.mono (ay _) (by omega)).trans (Kp.put _ _ _ _ CE (by omega) (by omega)))
  ·rintro e W2 ⟨⟨v,rfl⟩,⟨hi,hl,hk⟩,hkp⟩;rw[fP]at hi;have he:=run_endLoop (P:=P) hl (by rw[hrec];simp);rw[hrec]at he;refine⟨none,_,he,hdone _ _ (ay _) (hI _ _ _ hi ?_) ?_ ((World.putObj_heap_other (by omega)).trans hk)⟩
   ·exact(Kp.put (n0:=w.heap.size) (B0:=w.heap.size+2) W2 _ _ _ hl (by omega) (by omega)).1
   ·exact((hb1.mono hn0).trans hkp.1).trans (Kp.put (n0:=n0) (B0:=w.heap.size+2) W2 _ _ _ hl (by omega) (by omega)).1
end Go.Gb
namespace Go.Proofs
open Go.RowKit Go.Maps Go.Sort Go.Shelf
def Tryz.keys228_ren:Go.Shelf.Ren:=⟨λ| 7=>228| 10=>244|n=>n,λ| 23=>126| 26=>9| 3=>4| 28=>305| 0=>0| 27=>304| 33=>127| 4=>4|n=>n,λ|n=>n⟩
theorem Tryz.keys228:Go.Proofs.SlLaysZ.n7 Tryz.prog Tryz.keys228_ren:={
 mixed:=by kernel_rfl
 f7:=⟨Tryz.f228.name,by decide,Tryz.func228.trans (congrArg some (by kernel_rfl))⟩
 f10:=⟨Tryz.f244.name,by decide,Tryz.func244.trans (congrArg some (by kernel_rfl))⟩
 t0:=Tryz.underlying0
 a0:=Tryz.isAgg0
 z0:=Tryz.sizeOf0
 v0:=Tryz.zeroValue0
 t4:=Tryz.underlying4
 a4:=Tryz.isAgg4
 z4:=Tryz.sizeOf4
 v4:=Tryz.zeroValue4
 t23:=Tryz.underlying126
 a23:=Tryz.isAgg126
 z23:=Tryz.sizeOf126
 v23:=Tryz.zeroValue126
 t26:=Tryz.underlying9
 a26:=Tryz.isAgg9
 z26:=Tryz.sizeOf9
 v26:=Tryz.zeroValue9
 t27:=Tryz.underlying304
 a27:=Tryz.isAgg304
 z27:=Tryz.sizeOf304
 v27:=Tryz.zeroValue304
 t28:=Tryz.underlying305
 a28:=Tryz.isAgg305
 z28:=Tryz.sizeOf305
 v28:=Tryz.zeroValue305
 t33:=Tryz.underlying127
 a33:=Tryz.isAgg127
 z33:=Tryz.sizeOf127
 v33:=Tryz.zeroValue127 }
def Tryz.sorted227_ren:Go.Shelf.Ren:=⟨λ| 6=>227| 8=>242| 9=>243| 11=>258| 13=>167| 12=>259| 23=>203| 24=>204| 14=>265| 15=>266| 16=>267| 17=>268| 18=>269| 19=>270| 20=>271| 21=>272| 22=>273| 25=>277| 26=>233| 27=>234| 28=>278| 29=>279| 30=>247| 31=>280|n=>n,λ| 26=>9| 28=>305| 24=>72| 0=>0| 3=>3| 37=>190| 48=>282| 50=>284| 4=>4| 40=>276| 39=>275| 45=>231| 5=>5| 9=>9| 51=>311| 55=>315| 57=>323| 58=>218| 33=>127|n=>n,λ|n=>n⟩
theorem Tryz.sorted227:Go.Proofs.SlLaysZ.n6 Tryz.prog Tryz.sorted227_ren:={
 mixed:=by kernel_rfl
 f6:=⟨Tryz.f227.name,by decide,Tryz.func227.trans (congrArg some (by kernel_rfl))⟩
 f8:=⟨Tryz.f242.name,by decide,Tryz.func242.trans (congrArg some (by kernel_rfl))⟩
 f11:=⟨Tryz.f258.name,by decide,Tryz.func258.trans (congrArg some (by kernel_rfl))⟩
 t0:=Tryz.underlying0
 a0:=Tryz.isAgg0
 z0:=Tryz.sizeOf0
 v0:=Tryz.zeroValue0
 t24:=Tryz.underlying72
 a24:=Tryz.isAgg72
 z24:=Tryz.sizeOf72
 v24:=Tryz.zeroValue72
 t26:=Tryz.underlying9
 a26:=Tryz.isAgg9
 z26:=Tryz.sizeOf9
 v26:=Tryz.zeroValue9
 t28:=Tryz.underlying305
 a28:=Tryz.isAgg305
 z28:=Tryz.sizeOf305
 v28:=Tryz.zeroValue305
 i26:=by kernel_rfl }
def Tryz.sort243_ren:Go.Shelf.Ren:=⟨λ| 6=>243| 8=>167| 9=>259| 19=>203| 20=>204| 21=>265| 22=>266| 23=>267| 24=>268| 25=>269| 26=>270| 27=>271| 28=>272| 29=>273| 36=>277| 31=>233| 32=>234| 37=>278| 38=>279| 39=>247| 41=>280|n=>n,λ| 27=>72| 29=>9| 3=>3| 32=>190| 26=>72| 0=>0| 44=>282| 46=>284| 4=>4| 36=>276| 35=>275| 41=>231| 5=>5| 9=>9| 53=>311| 57=>315| 63=>323| 64=>218|n=>n,λ|n=>n⟩
theorem Tryz.sort243:Go.Proofs.SlLaysM.n6 Tryz.prog Tryz.sort243_ren:={
 mixed:=by kernel_rfl
 f6:=⟨Tryz.f243.name,by decide,Tryz.func243.trans (congrArg some (by kernel_rfl))⟩
 f8:=Tryz.func167.trans (congrArg some (by kernel_rfl))
 f9:=⟨Tryz.f259.name,by decide,Tryz.func259.trans (congrArg some (by kernel_rfl))⟩
 f19:=Tryz.func203.trans (congrArg some (by kernel_rfl))
 f20:=Tryz.func204.trans (congrArg some (by kernel_rfl))
 f21:=⟨Tryz.f265.name,by decide,Tryz.func265.trans (congrArg some (by kernel_rfl))⟩
 f22:=⟨Tryz.f266.name,by decide,Tryz.func266.trans (congrArg some (by kernel_rfl))⟩
 f23:=⟨Tryz.f267.name,by decide,Tryz.func267.trans (congrArg some (by kernel_rfl))⟩
 f24:=⟨Tryz.f268.name,by decide,Tryz.func268.trans (congrArg some (by kernel_rfl))⟩
 f25:=⟨Tryz.f269.name,by decide,Tryz.func269.trans (congrArg some (by kernel_rfl))⟩
 f26:=⟨Tryz.f270.name,by decide,Tryz.func270.trans (congrArg some (by kernel_rfl))⟩
 f27:=⟨Tryz.f271.name,by decide,Tryz.func271.trans (congrArg some (by kernel_rfl))⟩
 f28:=⟨Tryz.f272.name,by decide,Tryz.func272.trans (congrArg some (by kernel_rfl))⟩
 f29:=⟨Tryz.f273.name,by decide,Tryz.func273.trans (congrArg some (by kernel_rfl))⟩
 f31:=Tryz.func233.trans (congrArg some (by kernel_rfl))
 f32:=Tryz.func234.trans (congrArg some (by kernel_rfl))
 f36:=⟨Tryz.f277.name,by decide,Tryz.func277.trans (congrArg some (by kernel_rfl))⟩
 f37:=⟨Tryz.f278.name,by decide,Tryz.func278.trans (congrArg some (by kernel_rfl))⟩
 f38:=⟨Tryz.f279.name,by decide,Tryz.func279.trans (congrArg some (by kernel_rfl))⟩
 f39:=⟨Tryz.f247.name,by decide,Tryz.func247.trans (congrArg some (by kernel_rfl))⟩
 f41:=⟨Tryz.f280.name,by decide,Tryz.func280.trans (congrArg some (by kernel_rfl))⟩
 t0:=Tryz.underlying0
 a0:=Tryz.isAgg0
 z0:=Tryz.sizeOf0
 v0:=Tryz.zeroValue0
 t3:=Tryz.underlying3
 a3:=Tryz.isAgg3
 z3:=Tryz.sizeOf3
 v3:=Tryz.zeroValue3
 t4:=Tryz.underlying4
 a4:=Tryz.isAgg4
 z4:=Tryz.sizeOf4
 v4:=Tryz.zeroValue4
 t5:=Tryz.underlying5
 a5:=Tryz.isAgg5
 z5:=Tryz.sizeOf5
 v5:=Tryz.zeroValue5
 t9:=Tryz.underlying9
 a9:=Tryz.isAgg9
 z9:=Tryz.sizeOf9
 v9:=Tryz.zeroValue9
 t26:=Tryz.underlying72
 a26:=Tryz.isAgg72
 z26:=Tryz.sizeOf72
 v26:=Tryz.zeroValue72
 t27:=Tryz.underlying72
 a27:=Tryz.isAgg72
 z27:=Tryz.sizeOf72
 v27:=Tryz.zeroValue72
 t29:=Tryz.underlying9
 a29:=Tryz.isAgg9
 z29:=Tryz.sizeOf9
 v29:=Tryz.zeroValue9
 t32:=Tryz.underlying190
 a32:=Tryz.isAgg190
 z32:=Tryz.sizeOf190
 v32:=Tryz.zeroValue190
 t35:=Tryz.underlying275
 a35:=Tryz.isAgg275
 z35:=Tryz.sizeOf275
 v35:=Tryz.zeroValue275
 t36:=Tryz.underlying276
 a36:=Tryz.isAgg276
 z36:=Tryz.sizeOf276
 v36:=Tryz.zeroValue276
 t41:=Tryz.underlying231
 a41:=Tryz.isAgg231
 z41:=Tryz.sizeOf231
 v41:=Tryz.zeroValue231
 t44:=Tryz.underlying282
 a44:=Tryz.isAgg282
 z44:=Tryz.sizeOf282
 v44:=Tryz.zeroValue282
 t46:=Tryz.underlying284
 a46:=Tryz.isAgg284
 z46:=Tryz.sizeOf284
 v46:=Tryz.zeroValue284
 t53:=Tryz.underlying311
 a53:=Tryz.isAgg311
 z53:=Tryz.sizeOf311
 v53:=Tryz.zeroValue311
 t57:=Tryz.underlying315
 a57:=Tryz.isAgg315
 z57:=Tryz.sizeOf315
 v57:=Tryz.zeroValue315
 t63:=Tryz.underlying323
 a63:=Tryz.isAgg323
 z63:=Tryz.sizeOf323
 v63:=Tryz.zeroValue323
 t64:=Tryz.underlying218
 a64:=Tryz.isAgg218
 z64:=Tryz.sizeOf218
 v64:=Tryz.zeroValue218 }
theorem Tryz.sorts227(m:Nat):AnyZ.SortsIn Tryz.prog Tryz.sorted227_ren Fence.wide m:=
 ⟨λ blk aa cap ss W hH hblk hsz=>callsIn_wide.2 (AnyM.slices_Sort_string Tryz.sort243 blk aa cap ss W hH hblk hsz),
  λp cap W=>callsIn_wide.2 (AnyM.slices_Sort_string_none Tryz.sort243 p cap W)⟩
theorem Tryz.maps_Keys_228(mb:Option Nat)(W:World):CallsIn Fence.wide 5 Tryz.prog 228 #[.map mb] W λe w'=>e=.returned (.func (.func 244) #[] #[.pointer (some ⟨W.heap.size,0,none⟩)])/\w'=W.alloc (.cells #[.map mb] 126):=
 AnyZ.keys_in Tryz.keys228 Fence.wide 5 trivial rfl mb W
set_option maxHeartbeats 1000000 in
theorem Tryz.slices_Sorted_keys_227_228{H:Type}(b nn:Nat)(D0:DataW H)(R:Value->Option (DataW H×List MemPlace))(w:World)(hown:w.ownsMap Tryz.prog 9 R b nn D0)(hmax:Maps.size D0<=maxLen)(hbytes:Maps.size D0*16<=140737488355328):
 CallsIn Fence.wide 5 Tryz.prog 227 #[.func (.func 244) #[] #[.pointer (some ⟨w.heap.size,0,none⟩)]] (w.alloc (.cells #[.map (some b)] 126)) λe w'=>∃(v:Value)(ss:List (List UInt8)),e=.returned v/\ss.Perm (strKeys D0)/\
  w'.ownsRow (w.alloc (.cells #[.map (some b)] 126)).heap.size 9 1 v ss.length ((ss.mergeSort (λ x y=>decide (x<=y))).map encStr)/\(v=.slice none 0 0↔ss=[])/\Below (w.alloc (.cells #[.map (some b)] 126)).heap.size (w.alloc (.cells #[.map (some b)] 126)) w':=by
 have hbl:=hown.lt;have hseq:SeqGives Fence.wide 2 Tryz.prog 244 #[.pointer (some ⟨w.heap.size,0,none⟩)] encStr (λ ss=>ss.Perm (strKeys D0)) (Maps.size D0) (w.alloc (.cells #[.map (some b)] 126)):=
  AnyZ.keys_gives (ρ:=Tryz.keys228_ren) { Tryz.keys228 with } Fence.wide _ trivial rfl (by omega) w.heap.size b nn D0 _ (by simp) (by simp) (by obtain⟨es,clock,hb,Ft,hs,hD⟩:=hown;exact⟨es,clock,(Below.heap_alloc _ _ b hbl).trans hb,Ft,hs,hD⟩)
 exact AnyZ.sorted_in Tryz.sorted227 Fence.wide 5 trivial trivial trivial trivial rfl (by omega) (Tryz.sorts227 _) (enters_of Tryz.func243 (by kernel_rfl) rfl) 244 #[.pointer (some ⟨w.heap.size,0,none⟩)] trivial (enters_of Tryz.func244 (by kernel_rfl) rfl) _ _ hmax hbytes _ hseq
end Go.Proofs
namespace Go.Proofs
open Go.RowKit Go.Shelf Go.Gb Go.Maps Go.Sort
attribute [local go_sem] Oper.semAt_some
set_option maxHeartbeats 1000000 in
theorem adp(n:Nat)(v0 v1 v2 v3 v4:Value)(w:World):
 CallsIn Fence.wide n Tryz.prog 226 #[.agg #[v0,v1,v2,v3,v4]] w λe w'=>e=.returned (.func (.func 241) #[] #[.pointer (some ⟨w.heap.size,0,none⟩)])/\w'=w.alloc (.cells #[v0,v1,v2,v3,v4] 86):=by
 have hro:Fence.wide.round=none:=rfl;refine callsIn_of_wp Tryz.func226 rfl trivial ?_ hro;simp only[Tryz.ntmps226,List.size_toArray,fU,length_nil,Nat.reduceAdd,Nat.reduceSub,Array.replicate_succ,Array.replicate_zero,List.push_toArray,List.append_toArray,fP,cons_append]
 gi_wp2
 go_ret
 exact⟨rfl,rfl⟩
def akr(D:Nat):Deferred:={ target:=.collected D,args:=#[] }
theorem Mx{P:Program}{fn:Func}{tmps:Array Value}{n:Nat}{R:Ending->World->Prop}:∀(Ds:List Nat)(W:World),Ds.Nodup->(∀ D∈Ds,W.heap[D]? =some (.deferred (some [])))->
 (∀ W',(∀ B,(∀ D∈Ds,B<=D)->Below B W W')->LeavesIn Fence.wide n P fn tmps R [] .returning W')->LeavesInM Fence.wide n P fn tmps R (Ds.map akr) .returning W
 |[],W,_,_,h=>h W λ_ _=>Below.refl _ _
 |D::Ds,W,hn,hd,h=>by
  simp only[List.nodup_cons]at hn;have hD:=hd D (by simp);refine⟨by simp,.inl ⟨D,_,rfl,run_takeDeferred hD,Mx Ds _ hn.2 (λ D' hD'=>?_) λW' hW'=>h W' λB hB=>?_⟩⟩
  ·rw[World.putObj_heap_other (by rintro rfl;exact hn.1 hD')];exact hd D' (by simp[hD'])
  ·have h1:=hB D (by simp);exact(Kp.put (n0:=B) (B0:=D+1) W D _ _ hD h1 (by omega)).1.trans (hW' B λD' h'=>hB D' (by simp[h']))
noncomputable def anY:Code->Code
 |.seq _ b=>b
 |c=>c
structure anj(p:Prop):Prop where
 h:p
theorem KM{F:Fence}{n:Nat}{P:Program}{Q:Exit->Act->World->Prop}{a:Act}{w:World}{x y:Code}(h:∀K:Act->World->Prop,(∀ a w,anj (y.wpIn F n P Q a w)->K a w)->x.wpIn F n P (Exit.then K Q) a w):(Code.seq x y).wpIn F n P Q a w:=wpIn_seq_k λK hK=>h K λa w h=>hK a w h.h
noncomputable abbrev BT:Code:=anY (anY (Tryz.f241.body.getD .skip))
set_option maxRecDepth 100000 in
set_option maxHeartbeats 4000000 in
theorem aks:∀(k:Nat)(t:ET),SizeOf.sizeOf t<=k->∀(n0 Bx:Nat)(v0 v1 v2 v3 v4:Value)(w:World),n0<=Bx->Bx<w.heap.size->mS n0 w t [v0,v1,v2,v3,v4]->
 anX Tryz.prog 241 #[.pointer (some ⟨Bx,0,none⟩)] (λ s:ByteArray=>#[.string s]) n0 t.names (λ W=>W.heap[Bx]? =some (.cells #[v0,v1,v2,v3,v4] 86)) w
 | 0,.mk op s args,hk=>by simp at hk
 |k+1,.mk op s args,hk=>by
  intro n0 Bx v0 v1 v2 v3 v4 w hnB hBw hE n l B0 L J W hW hn0 hB0 hJ hN hY pre hpL hJ0;have hro:Fence.wide.round=none:=rfl;simp only[mS,List.cons.injEq,and_true]at hE;obtain⟨nn,key,sl,⟨⟨rfl,rfl,rfl,rfl,rfl⟩,hlen,hssz⟩,Kd⟩:=hE;have hbx:=hN _ _ hJ0;have hB1:Below B0 W (W.alloc (.cells #[.func (.yield l) #[] #[]] 127)):=(Below.refl _ W).alloc hB0 _;have aoE:Bx<W.heap.size:=(Array.getElem?_eq_some_iff.1 hbx).1;have J1:(W.alloc (.cells #[.func (.yield l) #[] #[]] 127)).heap[Bx]? =_:=(Below.heap_alloc W _ Bx aoE).trans hbx;have c0:(W.alloc (.cells #[.func (.yield l) #[] #[]] 127)).cell? ⟨Bx,0,none⟩=some (.int .i64 op):=by simp[World.cell?,J1]
  have c2:(W.alloc (.cells #[.func (.yield l) #[] #[]] 127)).cell? ⟨Bx,2,none⟩=some (.string s):=by simp[World.cell?,J1]
  have bY:=Boxed.new W 127 (.func (.yield l) #[] #[]);have cY:=bY.cell;have hk1:Kp n0 B0 W (W.alloc (.cells #[.func (.yield l) #[] #[]] 127)):=(Kp.refl _ _ _).alloc (by omega) _
  have ae:∀(hd:List ByteArray)(Wb:World)(g6 g7 g8 g9 g10 g11 g12 g13 g14:Value),(if op=1 then [s]else [])=hd->J (pre++hd) Wb->Kp n0 B0 W Wb->Boxed Wb W.heap.size 127 (.func (.yield l) #[] #[])->
   BT.wpIn Fence.wide n Tryz.prog (bodyPostM Fence.wide n Tryz.prog Tryz.f241 λe W'=>(∃ v,e=Ending.returned v)/\J (pre++(ET.mk op s args).names) W'/\Kp n0 B0 W W')
    { tmps:=#[.func (.yield l) #[] #[],.pointer (some ⟨Bx,0,none⟩),.pointer (some ⟨W.heap.size,0,none⟩),undef,undef,undef,g6,g7,g8,g9,g10,g11,g12,g13,g14,.bool false,undef,undef,undef,undef,undef,undef,undef,undef,undef,undef,undef,undef,undef,undef,undef],defers:=[] } Wb:=by
   intro hd Wb g6 g7 g8 g9 g10 g11 g12 g13 g14 hhd hJb hkb bYb;have aou:=hN _ _ hJb;have c4:Wb.cell? ⟨Bx,4,none⟩=some v4:=(by simp[World.cell?,aou]);obtain⟨sa,sc,rfl⟩:∃sa sc,v4=.slice sa args.length sc:=by
    rcases Kd with ⟨rfl,a,cap,rfl⟩|⟨b,aa,cap,rfl,_⟩
    ·exact⟨_,_,rfl⟩
    ·exact⟨_,_,rfl⟩
   refine KM λK hK=>?_
   gi_wp2
   refine⟨wpIn_block (wpIn_loop (λ a' W'=>∃(i:Nat) (Ds:List Nat) (g4 g5 g16 g20 g21 g22 g23 g24 g25 g26 g27 g28 g29 g30:Value),i<=args.length/\
    a'={ tmps:=#[.func (.yield l) #[] #[],.pointer (some ⟨Bx,0,none⟩),.pointer (some ⟨W.heap.size,0,none⟩),undef,g4,g5,g6,g7,g8,g9,g10,g11,g12,g13,g14,.bool false,g16,.slice sa args.length sc,.int .i64 args.length,.int .i64 i,g20,g21,g22,g23,g24,g25,g26,g27,g28,g29,g30],defers:=Ds.map akr }/\
    Ds.Nodup/\(∀ D∈Ds,W.heap.size<=D/\W'.heap[D]? =some (.deferred (some [])))/\J (pre++hd++ET.dt (args.take i)) W'/\Kp n0 B0 W W'/\Boxed W' W.heap.size 127 (.func (.yield l) #[] #[]))
    (λ a' _=>args.length-(intOf (a'.tmps.getD 19 undef)).toNat)
    ⟨0,[],_,_,_,_,_,_,_,_,_,_,_,_,_,_,Nat.zero_le _,rfl,List.nodup_nil,by simp,by simpa[ET.dt]using hJb,hkb,bYb⟩ ?_)⟩
   rintro a' W' ⟨i,Ds,g4,g5,g16,g20,g21,g22,g23,g24,g25,g26,g27,g28,g29,g30,hi,rfl,hnd,hDs,hJi,hki,bYi⟩;by_cases hlt:i<args.length
   ·rcases Kd with ⟨h0,_⟩|⟨b,aa,cap,he,hb,hs⟩
    ·rw[h0]at hlt;exact absurd hlt (Nat.not_lt_zero _)
    simp only[Value.slice.injEq,true_and]at he;obtain⟨rfl,rfl⟩:=he;have hwi:Below n0 w W':=(hW.mono (by omega)).trans hki.1;obtain⟨ti,hti⟩:∃ti,args[i]? =some ti:=⟨_,dJ hlt⟩;obtain⟨vs,q,hEi⟩:=(gC.below hwi args b aa hb hs).get hti;obtain⟨u0,u1,u2,u3,u4,rfl,hone⟩:∃u0 u1 u2 u3 u4,vs=[u0,u1,u2,u3,u4]/\(#[u0,u1,u2,u3,u4]:Array Value).all (·.oneCell')=true:=(by cases ti;simp only[mS]at hEi;obtain⟨n',key',sl',⟨h,_⟩,h'⟩:=hEi;refine⟨_,_,_,_,_,h,?_⟩;rcases h' with ⟨_,_,_,rfl⟩|⟨_,_,_,rfl,_⟩<;>simp[Value.oneCell']);have o0:=λz1 z2 z3 z4=>dM Tryz.prog W' #[.int .i64 0,z1,z2,z3,z4] 86 0 u0 (by simp) (by simpa using (Array.all_eq_true.1 hone) 0 (by simp));have o1:=λz2 z3 z4=>dM Tryz.prog W' #[u0,.int .i64 0,z2,z3,z4] 86 1 u1 (by simp) (by simpa using (Array.all_eq_true.1 hone) 1 (by simp));have o2:=λz3 z4=>dM Tryz.prog W' #[u0,u1,.string { data:=#[] },z3,z4] 86 2 u2 (by simp) (by simpa using (Array.all_eq_true.1 hone) 2 (by simp));have o3:=λz4=>dM Tryz.prog W' #[u0,u1,u2,.string { data:=#[] },z4] 86 3 u3 (by simp) (by simpa using (Array.all_eq_true.1 hone) 3 (by simp));have o4:=dM Tryz.prog W' #[u0,u1,u2,u3,.slice none 0 0] 86 4 u4 (by simp) (by simpa using (Array.all_eq_true.1 hone) 4 (by simp));simp only[List.set_toArray,List.set]at o0 o1 o2 o3 o4;have hn:=World.alloc_heap_new W' (.cells #[u0,u1,u2,u3,u4] 86);have r0:(W'.alloc (.cells #[u0,u1,u2,u3,u4] 86)).cell? ⟨W'.heap.size,0,none⟩=some u0:=(by simp only[World.cell?,hn];rfl);have r1:(W'.alloc (.cells #[u0,u1,u2,u3,u4] 86)).cell? ⟨W'.heap.size,1,none⟩=some u1:=(by simp only[World.cell?,hn];rfl);have r2:(W'.alloc (.cells #[u0,u1,u2,u3,u4] 86)).cell? ⟨W'.heap.size,2,none⟩=some u2:=(by simp only[World.cell?,hn];rfl);have r3:(W'.alloc (.cells #[u0,u1,u2,u3,u4] 86)).cell? ⟨W'.heap.size,3,none⟩=some u3:=(by simp only[World.cell?,hn];rfl);have r4:(W'.alloc (.cells #[u0,u1,u2,u3,u4] 86)).cell? ⟨W'.heap.size,4,none⟩=some u4:=(by simp only[World.cell?,hn];rfl);have q0:W'.cell? ⟨b,aa+i*5,none⟩=some u0:=q 0 _ rfl;have q1:W'.cell? ⟨b,aa+i*5+1,none⟩=some u1:=q 1 _ rfl;have q2:W'.cell? ⟨b,aa+i*5+2,none⟩=some u2:=q 2 _ rfl;have q3:W'.cell? ⟨b,aa+i*5+3,none⟩=some u3:=q 3 _ rfl;have q4:W'.cell? ⟨b,aa+i*5+4,none⟩=some u4:=q 4 _ rfl
    gi_wp2_with (refine ⟨trivial,λh=>by simp[Fence.wide]at h,?_⟩;refine(adp (n-1) u0 u1 u2 u3 u4 _).mono ?_;rintro e w' ⟨rfl,rfl⟩)
    have WP:SizeOf.sizeOf ti<=k:=(by have h1:=List.sizeOf_lt_of_mem (bZ hti);simp only[ET.mk.sizeOf_spec]at hk;omega);obtain⟨Wd,hWd⟩:∃Wd,(W'.alloc (.cells #[u0,u1,u2,u3,u4] 86)).alloc (.cells #[u0,u1,u2,u3,u4] 86)=Wd:=⟨_,rfl⟩;have hsd:Wd.heap.size=W'.heap.size+2:=(by rw[<- hWd];simp);have hWsz:W.heap.size<=W'.heap.size:=hki.1.size;have hkd:Kp n0 B0 W' Wd:=(by rw[<- hWd];exact((Kp.refl _ _ _).alloc (by omega) _).alloc (by simp;omega) _);have hbd:Below W'.heap.size W' Wd:=(by rw[<- hWd];exact((Below.refl _ _).alloc (ay _) _).alloc (by simp) _);have hxd:Wd.heap[W'.heap.size+1]? =some (.cells #[u0,u1,u2,u3,u4] 86):=by
     rw[<- hWd];have:=World.alloc_heap_new (W'.alloc (.cells #[u0,u1,u2,u3,u4] 86)) (.cells #[u0,u1,u2,u3,u4] 86)
     rwa [World.size_alloc]at this
    rw[hWd];have hDl:∀D∈Ds,D<W'.heap.size:=λD hD=>(Array.getElem?_eq_some_iff.1 (hDs D hD).2).1
    refine Cm (gf:=241) (lb:=#[.pointer (some ⟨W'.heap.size+1,0,none⟩)]) rfl (enters_of Tryz.func241 (by kernel_rfl) rfl)
     (aks k ti WP n0 (W'.heap.size+1) u0 u1 u2 u3 u4 Wd (by omega) (by omega) (hEi.below' (hbd.mono (by omega)))) (Below.refl _ _) (by omega) (λ _=>rfl)
     (λ q X=>(J (pre++hd++ET.dt (args.take i)++q) X/\Kp n0 B0 W X)/\(Boxed X W.heap.size 127 (.func (.yield l) #[] #[])/\(∀ D∈Ds,X.heap[D]? =some (.deferred (some []))))/\X.heap[W'.heap.size+1]? =some (.cells #[u0,u1,u2,u3,u4] 86))
     (λ s A B hs hb=>⟨⟨hJ _ _ _ hs.1.1 (hb.mono (by omega)),ani (α:=Unit) (B1:=Wd.heap.size) (by omega) (by omega) () A B hs.1.2 hb⟩,
      ⟨(hb.block _ (by omega)).trans hs.2.1.1,λD hD=>(hb.block _ (by have:=hDl D hD;omega)).trans (hs.2.1.2 D hD)⟩,(hb.block _ (by omega)).trans hs.2.2⟩)
     (λ s X hs=>hs.2.2)
     ⟨⟨by simpa using hJ _ _ _ hJi (hbd.mono (by omega)),hki.trans hkd⟩,⟨(hbd.block _ (by have:=bYi.lt;omega)).trans bYi,λD hD=>(hbd.block _ (hDl D hD)).trans (hDs D hD).2⟩,hxd⟩
     (λ x=>{ tmps:=#[.func (.yield l) #[] #[],.pointer (some ⟨Bx,0,none⟩),.pointer (some ⟨W.heap.size,0,none⟩),undef,.pointer (some ⟨W'.heap.size,0,none⟩),.string x,g6,g7,g8,g9,g10,g11,g12,g13,g14,.bool false,g16,.slice (some ⟨b,aa,none⟩) args.length sc,.int .i64 args.length,.int .i64 i,.bool true,.pointer (some ⟨b,aa+i*5,none⟩),.agg #[u0,u1,u2,u3,u4],.agg #[u0,u1,u2,u3,u4],.func (.func 241) #[] #[.pointer (some ⟨W'.heap.size+1,0,none⟩)],.string x,g26,g27,g28,g29,g30],defers:=[] })
     ?assign ?body ?done
    case assign=>
     intro l2 x X K hK
     gi_wp2
     exact hK
    case body=>
     rintro l2 q x X hxm zp ⟨⟨hJx,hkx⟩,⟨Mn,hDx⟩,hxx⟩ hsx;have cYx:=Mn.cell;obtain⟨fn,tmps,assign,body,hy,hR⟩:=hY (n-1-1-1) (pre++hd++ET.dt (args.take i)++q) x X (ET.qv hti hxm) (by have:=ET.t7 args (i+1);rw[ET.nt args i hti]at this;simp only[ET.names,hhd,fG]at this hpL ⊢;omega) hJx (by omega)
     gi_wp2
     have hR':RoundIn (Fence.wide.inRound l2) (n-1-1-1) Tryz.prog l fn tmps assign body X _:=hR;refine⟨λ h=>by simp[Fence.wide]at h,hR'.mono ?_⟩;rintro e X3 ⟨rfl,hJ3,hk3⟩
     gi_wp2
     have hbig:∀c,B0<=c->c<X.heap.size->X3.heap[c]? =X.heap[c]? :=hk3.2;exact⟨⟨⟨by simpa[aT]using hJ3,hkx.trans hk3⟩,⟨(hbig _ hB0 (by have:=Mn.lt;omega)).trans Mn,λD hD=>(hbig _ (by have:=(hDs D hD).1;omega) (by have:=hDl D hD;omega)).trans (hDx D hD)⟩,(hbig _ (by omega) (by omega)).trans hxx⟩,hk3.mono (ay _) (by omega)⟩
    case done=>
     rintro D X hD ⟨⟨hJx,hkx⟩,⟨Mn,hDx⟩,hxx⟩ hbx' GT
     gi_wp2
     refine⟨⟨i+1,D::Ds,_,_,_,_,_,_,_,_,_,_,_,_,_,_,by omega,rfl,List.nodup_cons.2 ⟨λ hm=>by have:=hDl D hm;omega,hnd⟩,?_,?_,hkx,Mn⟩,?_⟩
     ·intro D' hD';rcases aR.1 hD' with rfl|h
      ·exact⟨by omega,GT⟩
      ·exact⟨(hDs D' h).1,hDx D' h⟩
     ·rw[ET.nt args i hti,<- aT];exact hJx
     ·show args.length-(intOf (.int .i64 ((i:Int)+1))).toNat<args.length-(intOf (.int .i64 (i:Int))).toNat;simp only[intOf];omega
   ·gi_wp2
    have hsame:args.take i=args:=List.take_of_length_le (by omega);rw[hsame]at hJi;refine Mx Ds W' hnd (λ D hD=>(hDs D hD).2) λW'' aov=>?_;have h1:=aov W.heap.size λD hD=>(hDs D hD).1;refine⟨_,results_none rfl _ _ _,⟨_,rfl⟩,hJ _ _ _ (by simpa[ET.names,hhd,aT]using hJi) (h1.mono hB0),hki.1.trans (h1.mono (by omega)),λb hb hl=>(h1.block b hl).trans (hki.2 b hb hl)⟩
  refine callsIn_of_wp_marks Tryz.func241 rfl trivial ?_ hro;simp only[Tryz.ntmps241,List.size_toArray,fU,length_nil,Nat.reduceAdd,Nat.reduceSub,Array.replicate_succ,Array.replicate_zero,List.push_toArray,List.append_toArray,fP,cons_append];refine KM λK1 hK1=>?_
  gi_wp2
  refine⟨KM λK2 hK2=>?_⟩;by_cases hop:op=1
  ·subst hop;obtain⟨fn,tmps,assign,body,hy,hR⟩:=hY (n-1) pre s (W.alloc (.cells #[.func (.yield l) #[] #[]] 127)) (by simp[ET.names]) (by simp[ET.names]at hpL;omega) (hJ _ _ _ hJ0 hB1) (by simp;omega)
   gi_wp2
   refine⟨λ h=>by simp[Fence.wide]at h,hR.mono ?_⟩;rintro e W3 ⟨rfl,hJ3,hk3⟩
   gi_wp2
   exact⟨ae [s] W3 _ _ _ _ _ _ _ _ _ rfl hJ3 (hk1.trans hk3) ((hk3.2 _ hB0 (by simp)).trans bY)⟩
  ·gi_wp2
   refine⟨λ _ h=>(by cases h),?_⟩
   gi_wp2
   exact⟨ae [] _ _ _ _ _ _ _ _ _ _ (by simp[hop]) (by simpa using hJ _ _ _ hJ0 hB1) hk1 bY⟩
theorem ank(s:ByteArray)(h:s.size<=maxLen):keyOf Tryz.prog 9 (.string s)=some (.string s.data.toList):=by rw[keyOf_string Tryz.underlying9];simp[mapKey,Tryz.underlying9,h]
set_option maxRecDepth 100000 in
set_option maxHeartbeats 4000000 in
theorem akt(_:Nat)(t:ET)(v0 v1 v2 v3 v4:Value)(w:World)(hE:mS w.heap.size w t [v0,v1,v2,v3,v4])(hlen:t.names.length<=1000000000000):
 CallsIn Fence.wide 6 Tryz.prog 190 #[.agg #[v0,v1,v2,v3,v4]] w λe W'=>∃v,e=.returned v/\W'.ownsRow w.heap.size 9 1 v (vS t.names).length ((vS t.names).map encStr)/\Below w.heap.size w W':=by
 have hro:Fence.wide.round=none:=rfl;have hmm:=@run_makeMap Tryz.prog;refine callsIn_of_wp_marks Tryz.func190 rfl trivial ?_ hro;simp only[Tryz.ntmps190,List.size_toArray,fU,length_nil,Nat.reduceAdd,Nat.reduceSub,Array.replicate_succ,Array.replicate_zero,List.push_toArray,List.append_toArray,fP,cons_append]
 gi_wp2_with (refine ⟨trivial,?_⟩;refine(adp 5 v0 v1 v2 v3 v4 _).mono ?_;rintro e w' ⟨rfl,rfl⟩)
 obtain⟨Wd,hWd⟩:∃Wd,(((w.alloc (.cells #[v0,v1,v2,v3,v4] 86)).alloc (.map #[] 0)).alloc (.cells #[.map (some (w.heap.size+1))] 126)).alloc (.cells #[v0,v1,v2,v3,v4] 86)=Wd:=⟨_,rfl⟩;have hsd:Wd.heap.size=w.heap.size+4:=by rw[<- hWd];simp
 have hbd:Below w.heap.size w Wd:=by rw[<- hWd];exact((((Below.refl _ w).alloc (ay _) _).alloc (by simp) _).alloc (by simp;omega) _).alloc (by simp;omega) _
 have hbm:Wd.ownsMap Tryz.prog 9 (plainElem (H:=Unit) Tryz.prog 4) (w.heap.size+1) 0 (.map []):=by have:=World.ownsMap_made (w.alloc (.cells #[v0,v1,v2,v3,v4] 86)) Tryz.prog 9 (plainElem (H:=Unit) Tryz.prog 4);rw[World.size_alloc]at this;rw[<- hWd];exact(this.alloc _).alloc _
 have hbs:Wd.heap[w.heap.size+2]? =some (.cells #[.map (some (w.heap.size+1))] 126):=by have:=World.alloc_heap_new ((w.alloc (.cells #[v0,v1,v2,v3,v4] 86)).alloc (.map #[] 0)) (.cells #[.map (some (w.heap.size+1))] 126);simp only[World.size_alloc]at this;rw[<- hWd];exact(Below.heap_alloc _ _ _ (by simp)).trans this
 have hbe:Wd.heap[w.heap.size+3]? =some (.cells #[v0,v1,v2,v3,v4] 86):=by have:=World.alloc_heap_new (((w.alloc (.cells #[v0,v1,v2,v3,v4] 86)).alloc (.map #[] 0)).alloc (.cells #[.map (some (w.heap.size+1))] 126)) (.cells #[v0,v1,v2,v3,v4] 86);simp only[World.size_alloc]at this;rw[<- hWd];exact this
 rw[hWd]
 refine Cm (gf:=241) (lb:=#[.pointer (some ⟨w.heap.size+1+1+1,0,none⟩)]) rfl (enters_of Tryz.func241 (by kernel_rfl) rfl)
  (aks _ t (ay _) w.heap.size (w.heap.size+3) v0 v1 v2 v3 v4 Wd (by omega) (by omega) (hE.below' hbd)) (Below.refl _ _) (by omega) (λ _=>rfl)
  (λ q X=>X.ownsMap Tryz.prog 9 (plainElem (H:=Unit) Tryz.prog 4) (w.heap.size+1) q.length (wF q)/\X.heap[w.heap.size+2]? =some (.cells #[.map (some (w.heap.size+1))] 126)/\X.heap[w.heap.size+3]? =some (.cells #[v0,v1,v2,v3,v4] 86))
  (λ s A B hs hb=>⟨by obtain⟨es,ck,h1,h2⟩:=hs.1;exact⟨es,ck,(hb.block _ (by omega)).trans h1,h2⟩,(hb.block _ (by omega)).trans hs.2.1,(hb.block _ (by omega)).trans hs.2.2⟩)
  (λ s X hs=>hs.2.2) ⟨hbm,hbs,hbe⟩
  (λ x=>{ tmps:=#[.agg #[v0,v1,v2,v3,v4],.pointer (some ⟨w.heap.size,0,none⟩),.slice none 0 0,.pointer (some ⟨w.heap.size+1+1,0,none⟩),.string x,.map (some (w.heap.size+1)),.agg #[v0,v1,v2,v3,v4],.func (.func 241) #[] #[.pointer (some ⟨w.heap.size+1+1+1,0,none⟩)],.string x,undef,undef,undef,undef,undef],defers:=[] })
  ?assign ?body ?done
 case assign=>
  intro l2 x X K hK
  gi_wp2
  exact hK
 case body=>
  rintro l2 q x X hxm zp ⟨hown,hms,hes⟩ hsx;have hxs:=mS.fX t _ hE x hxm;have cS:X.cell? ⟨w.heap.size+1+1,0,none⟩=some (.map (some (w.heap.size+1))):=by simp only[World.cell?,hms];rfl
  gi_wp2_with (gi_at_mapUpdate;refine wpListIn_mapUpdate_own _ rfl _ _ _ 126 rfl 9 4 (Maps.string_keyed Tryz.underlying9) Tryz.underlying126 _ (w.heap.size+1) q.length _ rfl hown (by unfold maxLen;omega) _ _ _ rfl rfl (ank x hxs) _ [] (plainElem_bool Tryz.underlying4 true) ?_;intro w1 hown1 hgrow1)
  have e1:=hgrow1.block (w.heap.size+2) (by omega) (by simp);have e2:=hgrow1.block (w.heap.size+3) (by omega) (by simp);exact⟨⟨by rw[adg];exact hown1,e1.trans hms,e2.trans hes⟩,(Below.refl _ X).grown hgrow1 (by omega) (λ k e=>by cases e;omega),λb hb hl=>hgrow1.block b hl (by simp;omega)⟩
 case done=>
  rintro D X hD ⟨hown,hms,hes⟩ hbx GT;have cS:X.cell? ⟨w.heap.size+1+1,0,none⟩=some (.map (some (w.heap.size+1))):=by simp only[World.cell?,hms];rfl
  have hsz:Maps.size (wF t.names)<=t.names.length:=adh _
  gi_wp2_with (first
   |(refine ⟨trivial,?_⟩;refine(Tryz.maps_Keys_228 _ _).mono ?_;rintro e w' ⟨rfl,rfl⟩)
   |(refine ⟨trivial,?_⟩;refine(Tryz.slices_Sorted_keys_227_228 (w.heap.size+1) _ (wF t.names) _ X hown (by unfold maxLen;omega) (by omega)).mono ?_;rintro e w' ⟨v,ss,rfl,hS,hrow,hnil,hb⟩))
  have hkey:∀es,wF t.names=.map es->∀p∈es,∃x,p.1=.string x:=by intro es e p hp;obtain⟨es',e',hko⟩:=hown.keysOf;obtain rfl:es=es':=(by have:=e.symm.trans e';injection this);obtain⟨kv,hkv⟩:=hko p hp;obtain⟨x,_,h,_⟩:=Maps.keyOf_str Tryz.underlying9 hkv;exact⟨x,h⟩
  have hss:ss.mergeSort leB=vS t.names:=by obtain⟨es,e,_⟩:=hown.keysOf;exact mergeSort_of_perm (hS.trans (afI t.names e (hkey es e)).symm)
  have hDX:D<X.heap.size:=(Array.getElem?_eq_some_iff.1 GT).1;have hd1:w'.heap[D]? =some (.deferred (some [])):=(hb.block D (by simp;omega)).trans ((Below.heap_alloc X _ D hDX).trans GT);have CD:ss.length=(vS t.names).length:=by rw[<- hss,List.length_mergeSort]
  have hrow':=(hrow.kept (grownBy_putObj' w' D (.deferred none)) ?_);refine⟨by simp,.inl ⟨_,_,rfl,run_takeDeferred hd1,?_⟩⟩;refine⟨_,results_tmp rfl _ _ _,⟨v,rfl,?_,?_⟩⟩
  ·rw[<- CD,<- hss];refine⟨hrow'.1,hrow'.2.imp id ?_⟩;rintro⟨g,cap,cur,h1,h2,h3⟩;exact⟨g,cap,cur,h1,by have:=hbx.size;simp at h2;omega,h3⟩
  ·exact(((hbd.trans hbx).alloc (by have:=hbx.size;omega) _).trans (hb.mono (by have:=hbx.size;simp;omega))).trans (Kp.put (n0:=w.heap.size) (B0:=D+1) w' D _ _ hd1 (by omega) (by omega)).1
  ·cases hvb:v.ownBlock with
   |none=>exact .inl rfl
   |some g=>
    refine .inr λe=>?_;have:=(hrow.lt g hvb).1;simp at this e;omega
end Go.Proofs
namespace Go.Proofs
open Go.RowKit Go.Maps
theorem aht{n0:Nat}{W:World}{d:ByteArray×ET}{vs:List Value}(h:TC n0 W d vs):∃u0 u1 u2 u3 u4 u5,vs=[u0,u1,u2,u3,u4,u5]/\(#[u0,u1,u2,u3,u4,u5]:Array Value).all (·.oneCell')=true:=by obtain⟨v0,v1,v2,v3,v4,rfl,_,he⟩:=h;refine⟨_,_,_,_,_,_,rfl,?_⟩;obtain⟨nm,t⟩:=d;cases t;simp only[mS]at he;obtain⟨n',key',sl',⟨h,_⟩,h'⟩:=he;simp only[List.cons.injEq,and_true]at h;obtain⟨rfl,rfl,rfl,rfl,rfl⟩:=h;rcases h' with ⟨_,_,_,rfl⟩|⟨_,_,_,rfl,_⟩<;>simp[Value.oneCell']
def RD(ds:List (ByteArray×ET)):Nat->DataW Unit
 | 0=>.map []
 |k+1=>(RD ds k).put (.string (ds.getD k (⟨#[]⟩,.mk 0 ⟨#[]⟩ [])).1.data.toList) (.lit (.int .i64 k))
theorem VG(ds:List (ByteArray×ET)):∀k,IsMap (RD ds k)
 | 0=>isMap_empty
 |k+1=>(VG ds k).put _ _
theorem Zx(ds:List (ByteArray×ET))(s:List UInt8):∀k,has (RD ds k) (.string s)=(Mv ds s k).isSome/\(RD ds k).atKey (.string s) (.lit (.int .i64 0))=.lit (.int .i64 ((Mv ds s k).getD 0))
 | 0=>⟨rfl,rfl⟩
 |k+1=>by
  have h:=Zx ds s k;simp only[RD,Mv];split
  ·rename_i e;subst e;have hk:WideAt.IsKeyLit (.string (ds.getD k (⟨#[]⟩,.mk 0 ⟨#[]⟩ [])).1.data.toList):=trivial;exact⟨has_put_same (VG ds k) hk _,atKey_put_same (VG ds k) hk _ _⟩
  ·rename_i e;have hne:(Lit.string s)≠.string (ds.getD k (⟨#[]⟩,.mk 0 ⟨#[]⟩ [])).1.data.toList:=λh=>e (by injection h with h;exact h.symm);rw[has_put_other hne,atKey_put_other hne];exact h
def NgO(w:World)(mB uB:Nat)(sv:Value)(ds:List (ByteArray×ET))(i:Nat)(W:World):Prop:=
 ∃us:List Value,us.length=i/\W.heap[uB]? =some (.cells (us++List.replicate (ds.length-i) (Value.slice none 0 0)).toArray 43)/\
  W.heap[uB+1]? =some (.cells #[sv,.slice (some ⟨uB,0,none⟩) ds.length ds.length] 268)/\W.ownsMap Tryz.prog 9 (plainElem (H:=Unit) Tryz.prog 3) mB ds.length (RD ds ds.length)/\Below w.heap.size w W/\
  ∀(j:Nat)(v:Value),us[j]? =some v->∃d:ByteArray×ET,ds[j]? =some d/\W.ownsRow (uB+2) 3 1 v (iK ds (vS d.2.names)).length (Vz (iK ds (vS d.2.names)))
theorem X5{w:World}{base:Nat}{e:TypeId}{size:Nat}{v:Value}{n:Nat}{xs:List Value}(h:w.ownsRow base e size v n xs):∃a cap,v=.slice a n cap:=by
 rcases h.2 with ⟨rfl,rfl⟩|⟨g,cap,_,rfl,_⟩
 ·exact⟨_,_,rfl⟩
 ·exact⟨_,_,rfl⟩
theorem X6{w:World}{base:Nat}{e:TypeId}{a:Option Addr}{cap n:Nat}{xs:List Value}(h:w.ownsRow base e 1 (.slice a n cap) n xs)(hn:0<n):∃g,a=some ⟨g,0,none⟩/\base<=g/\g<w.heap.size/\∀j u,xs[j]? =some u->w.cell? ⟨g,j,none⟩=some u:=by
 rcases h.2 with ⟨_,h0⟩|⟨g,c,cur,e1,hg,hgb,_,_,_,ht⟩
 ·omega
 ·simp only[Value.slice.injEq]at e1;obtain⟨rfl,_,rfl⟩:=e1;refine⟨g,rfl,hg,(Array.getElem?_eq_some_iff.1 hgb).1,λj u hj=>?_⟩;rw[<- ht,List.getElem?_take]at hj;split at hj
  ·simpa[World.cell?,hgb]using hj
  ·cases hj
def NgI(X:World)(uB:Nat)(us:List Value)(ds:List (ByteArray×ET))(r:Nat)(l:List (List UInt8))(V:World):Prop:=
 ∃va vc v,v=.slice va (iK ds l).length vc/\X.grownBy V (some uB)/\V.heap[uB]? =some (.cells (us++v::List.replicate r (Value.slice none 0 0)).toArray 43)/\V.ownsRow X.heap.size 3 1 v (iK ds l).length (Vz (iK ds l))
theorem aku(w:World):(zeroValue 3).run Tryz.prog w=.ok (.int .i64 0) w:=by kernel_rfl
theorem aiI{w:World}{ds:List (ByteArray×ET)}{nm:List UInt8}{b n:Nat}(hown:w.ownsMap Tryz.prog 9 (plainElem (H:=Unit) Tryz.prog 3) b n (RD ds ds.length))(hkey:keyOf Tryz.prog 9 (encStr nm)=some (.string nm)):
 (Instr.lookup 167 (.map (some b)) (encStr nm) true).run Tryz.prog w=.ok (.tuple #[.int .i64 ((Mv ds nm ds.length).getD 0),.bool (Mv ds nm ds.length).isSome]) w:=by
 have h:=Zx ds nm ds.length;obtain⟨v,ps,hrun,hv⟩:=hown.look_ok (Maps.string_keyed Tryz.underlying9) Tryz.underlying167 (aku w) (plainElem_int Tryz.underlying3 (by decide)) hkey;obtain⟨c,rfl,hc,_⟩:=plainElem_int_inv Tryz.underlying3 hv;rw[h.2]at hc;have hc2:(Mv ds nm ds.length).getD 0=c:=by have:=congrArg Prod.fst hc;simpa using this
 refine hrun.trans ?_;rw[h.1,hc2]
theorem VH(ds:List (ByteArray×ET))(L:List (List UInt8))(q:Nat){nm:List UInt8}(h:L[q]? =some nm):iK ds (L.take (q+1))=iK ds (L.take q)++(Mv ds nm ds.length).toList:=by rw[List.take_add_one,h,iK,iK,List.filterMap_append];cases h2:Mv ds nm ds.length<;>simp[h2]
theorem grownBy_set(w:World)(b k:Nat)(v:Value):w.grownBy (w.setCell ⟨b,k,none⟩ v) (some b):=
 ⟨rfl,rfl,rfl,by simp[World.setCell],λi _ h=>by simp only[World.setCell];rw[Array.getElem?_modify,aV (λ e=>h (by rw[e]))]⟩
theorem afN{A B:World}{base:Nat}{e:TypeId}{size:Nat}{v:Value}{n:Nat}{xs:List Value}{uB:Nat}(h:A.ownsRow base e size v n xs)(hb:uB<base)(hk:∀c,c<A.heap.size->c≠uB->B.heap[c]? =A.heap[c]?):B.ownsRow base e size v n xs:=by refine⟨h.1,h.2.imp id ?_⟩;rintro⟨g,cap,cur,h1,h2,h3,h4⟩;exact⟨g,cap,cur,h1,h2,(hk g (Array.getElem?_eq_some_iff.1 h3).1 (by omega)).trans h3,h4⟩
theorem akv:(Tryz.prog.info? 3).map (λ i=>(i.zero,i.size,i.bytes))=some (some (.int .i64 0),1,8):=by kernel_rfl
theorem akw:(Tryz.prog.info? 43).map (λ i=>(i.zero,i.size,i.bytes))=some (some (.slice none 0 0),1,24):=by kernel_rfl
theorem aiJ(ds:List (ByteArray×ET))(k:Nat){d:ByteArray×ET}(h:ds[k]? =some d):RD ds (k+1)=(RD ds k).put (.string d.1.data.toList) (.lit (.int .i64 k)):=by simp[RD,List.getD,h]
theorem akx(s:ByteArray)(h:s.size<=maxLen):keyOf Tryz.prog 9 (.string s)=some (.string s.data.toList):=by rw[keyOf_string Tryz.underlying9];simp[mapKey,Tryz.underlying9,h]
theorem aky{X wr w1:World}{uB k r:Nat}{us:List Value}{ds:List (ByteArray×ET)}{l l':List (List UInt8)}{va:Option Addr}{vc gg cap:Nat}{m:Int}{o:Obj}
 (vy:X.grownBy wr (some uB)) (ue:wr.heap[uB]? =some (.cells (us++(Value.slice va (iK ds l).length vc)::List.replicate r (Value.slice none 0 0)).toArray 43)) (hk:us.length=k)
 (hgrow:(wr.alloc o).drew.grownBy w1 (Value.slice va (iK ds l).length vc).ownBlock) (hne:(Value.slice va (iK ds l).length vc).ownBlock≠some uB) (hbl:∀b,(Value.slice va (iK ds l).length vc).ownBlock=some b->X.heap.size<=b)
 (hown:w1.ownsRow X.heap.size 3 1 (.slice (some ⟨gg,0,none⟩) ((iK ds l).length+1) cap) ((iK ds l).length+1) (Vz (iK ds l)++[.int .i64 m])) (hs:iK ds l'=iK ds l++[m])
 (hat:(Value.slice va (iK ds l).length vc).ownBlock=some gg\/gg=wr.heap.size+1):
 NgI X uB us ds r l' (w1.setCell ⟨uB,k,none⟩ (.slice (some ⟨gg,0,none⟩) ((iK ds l).length+1) cap)):=by
 have huB:uB<wr.heap.size:=(Array.getElem?_eq_some_iff.1 ue).1;have h1:w1.heap[uB]? =wr.heap[uB]? :=(hgrow.block uB (by show uB<(wr.alloc o).heap.size;simp;omega) (λ e=>hne e.symm)).trans (Below.heap_alloc wr o uB huB);have hset:w1.grownBy (w1.setCell ⟨uB,k,none⟩ (.slice (some ⟨gg,0,none⟩) ((iK ds l).length+1) cap)) (some uB):=grownBy_set _ _ _ _;have hall:X.grownBy w1 (some uB):=(vy.andThen ((World.grownBy_alloc wr o none).trans ⟨rfl,rfl,rfl,ay _,λ_ _ _=>rfl⟩:wr.grownBy (wr.alloc o).drew none) (λ j e=>by cases e)).andThen hgrow (λ j e=>.inl (hbl j e));have hlen:(iK ds l').length=(iK ds l).length+1:=by rw[hs];simp
 have hgu:gg≠uB:=by
  rintro rfl;rcases hat with h|h
  ·exact hne h
  ·omega
 refine⟨some ⟨gg,0,none⟩,cap,_,rfl,hall.trans hset,?_,?_⟩
 ·rw[hlen];simp only[World.setCell];rw[Array.getElem?_modify,aX rfl,h1,ue];simp only[Option.map_some,Option.isSome_none,Bool.false_eq_true,if_false,List.setIfInBounds_toArray];rw[<- hk,List.set_append_right _ _ (ay _),Nat.sub_self,List.set_cons_zero]
 ·rw[hlen,hs];have:=hown.kept hset (.inr (λ e=>hgu (by simpa[Value.ownBlock]using e)));simpa using this
set_option maxRecDepth 100000 in
set_option maxHeartbeats 4000000 in
theorem alW(ds:List (ByteArray×ET))(hlen:ds.length<=4000000)
 (hnl:∀d∈ds,d.2.names.length<=1000000000000)
 (hN:∀d∈ds,∀(v0 v1 v2 v3 v4:Value)(w:World),mS w.heap.size w d.2 [v0,v1,v2,v3,v4]->Calls Tryz.prog 190 #[.agg #[v0,v1,v2,v3,v4]] w λe W'=>∃v,e=.returned v/\W'.ownsRow w.heap.size 9 1 v (vS d.2.names).length ((vS d.2.names).map encStr)/\Below w.heap.size w W')
 (sv:Value) (w:World) (hsv:Hx w.heap.size w ds sv):Calls Tryz.prog 158 #[sv] w λe W'=>∃uB,e=.returned (.pointer (some ⟨uB+1,0,none⟩))/\w.heap.size<uB/\amJ w uB sv ds 43 268 3 W':=by
 have hmm:=@run_makeMap Tryz.prog;obtain⟨sa,sc,rfl⟩:∃sa sc,sv=.slice sa ds.length sc:=by
  rcases hsv with ⟨rfl,a,cap,rfl⟩|⟨b,aa,cap,rfl,_⟩
  ·exact⟨_,_,rfl⟩
  ·exact⟨_,_,rfl⟩
 obtain⟨i0,hi,hz0,hz1,hz2⟩:=info_parts akw;obtain⟨iI,hiI,Wa,V2,V1⟩:=info_parts akv
 go_enter Tryz.func158,Tryz.ntmps158
 go_wp2
 go_loopw [16] (λ i wr=>∃k:Nat,k<=ds.length/\i=.int .i64 k/\wr.ownsMap Tryz.prog 9 (plainElem (H:=Unit) Tryz.prog 3) w.heap.size k (RD ds k)/\Below w.heap.size w wr)
  (λ i _=>ds.length-(intOf i).toNat)
 case atStart=>exact⟨0,Nat.zero_le _,rfl,World.ownsMap_made _ _ _ _,(Below.refl _ _).alloc (ay _) _⟩
 case round=>
  obtain⟨k,hk,rfl,hown,hnx⟩:=hrel;by_cases hkl:k<ds.length
  ·rcases hsv with ⟨h0,_⟩|⟨b,aa,cap,he,hb,hr⟩
   ·rw[h0]at hkl;exact absurd hkl (Nat.not_lt_zero _)
   simp only[Value.slice.injEq,true_and]at he;obtain⟨rfl,rfl⟩:=he;obtain⟨d,hd⟩:∃d,ds[k]? =some d:=⟨_,dJ hkl⟩;obtain⟨vs,q,Lk⟩:=hr k d hd;obtain⟨u0,u1,u2,u3,u4,u5,rfl,hone⟩:=aht Lk;have o0:=λz1 z2 z3 z4 z5=>dM Tryz.prog wr #[.string { data:=#[] },z1,z2,z3,z4,z5] 100 0 u0 (by simp) (by simpa using (Array.all_eq_true.1 hone) 0 (by simp));have o1:=λz2 z3 z4 z5=>dM Tryz.prog wr #[u0,.int .i64 0,z2,z3,z4,z5] 100 1 u1 (by simp) (by simpa using (Array.all_eq_true.1 hone) 1 (by simp));have o2:=λz3 z4 z5=>dM Tryz.prog wr #[u0,u1,.int .i64 0,z3,z4,z5] 100 2 u2 (by simp) (by simpa using (Array.all_eq_true.1 hone) 2 (by simp));have o3:=λz4 z5=>dM Tryz.prog wr #[u0,u1,u2,.string { data:=#[] },z4,z5] 100 3 u3 (by simp) (by simpa using (Array.all_eq_true.1 hone) 3 (by simp));have o4:=λz5=>dM Tryz.prog wr #[u0,u1,u2,u3,.string { data:=#[] },z5] 100 4 u4 (by simp) (by simpa using (Array.all_eq_true.1 hone) 4 (by simp));have o5:=dM Tryz.prog wr #[u0,u1,u2,u3,u4,.slice none 0 0] 100 5 u5 (by simp) (by simpa using (Array.all_eq_true.1 hone) 5 (by simp));simp only[List.set_toArray,List.set]at o0 o1 o2 o3 o4 o5;have hn:=World.alloc_heap_new wr (.cells #[u0,u1,u2,u3,u4,u5] 100);have r0:(wr.alloc (.cells #[u0,u1,u2,u3,u4,u5] 100)).cell? ⟨wr.heap.size,0,none⟩=some u0:=(by simp only[World.cell?,hn];rfl);have q0:wr.cell? ⟨b,aa+k*6,none⟩=some u0:=(hnx.cell (p:=⟨b,aa+k*6,none⟩) hb).trans (q 0 _ rfl);have q1:wr.cell? ⟨b,aa+k*6+1,none⟩=some u1:=(hnx.cell (p:=⟨b,aa+k*6+1,none⟩) hb).trans (q 1 _ rfl);have q2:wr.cell? ⟨b,aa+k*6+2,none⟩=some u2:=(hnx.cell (p:=⟨b,aa+k*6+2,none⟩) hb).trans (q 2 _ rfl);have q3:wr.cell? ⟨b,aa+k*6+3,none⟩=some u3:=(hnx.cell (p:=⟨b,aa+k*6+3,none⟩) hb).trans (q 3 _ rfl);have q4:wr.cell? ⟨b,aa+k*6+4,none⟩=some u4:=(hnx.cell (p:=⟨b,aa+k*6+4,none⟩) hb).trans (q 4 _ rfl);have q5:wr.cell? ⟨b,aa+k*6+5,none⟩=some u5:=(hnx.cell (p:=⟨b,aa+k*6+5,none⟩) hb).trans (q 5 _ rfl);have hkey:keyOf Tryz.prog 9 u0=some (.string d.1.data.toList):=by obtain⟨v0,v1,v2,v3,v4,e,hs,_⟩:=Lk;simp only[List.cons.injEq]at e;rw[e.1];exact akx d.1 hs
   go_wp2_with (at_mapUpdate;refine wpList_mapUpdate_own _ rfl _ _ _ 167 rfl 9 3 (Maps.string_keyed Tryz.underlying9) Tryz.underlying167 _ w.heap.size k _ rfl (hown.alloc _) (by unfold maxLen;omega) _ _ _ rfl rfl hkey _ [] (plainElem_int Tryz.underlying3 (WalkArith.wf_i64 (by omega))) ?_;intro w1 hown1 hgrow1)
   refine⟨⟨k+1,by omega,by go_num,?_,(((hnx.alloc (by have:=hnx.size;omega) _).grown hgrow1 (by have:=hnx.size;simp;omega) (λ j e=>by cases e;exact ay _)))⟩,by simp[intOf];omega⟩;rw[aiJ ds k hd];exact hown1
  ·obtain rfl:k=ds.length:=(by omega);have hms:=run_make (P:=Tryz.prog) wr 266 43 i0 (.slice none 0 0) Tryz.underlying266 hi hz0 .i64 .i64 ds.length ds.length (by omega) (Int.le_refl _) (by rw[hz2];omega) (by omega);rw[hz1]at hms;simp only[Int.toNat_natCast,Nat.mul_one,Value.cells]at hms;obtain⟨wj,vq⟩:∃wj,madeCells #[Value.slice none 0 0] ds.length=wj:=⟨_,rfl⟩;rw[vq]at hms
   go_wp2
   obtain⟨uB,huB⟩:∃uB,wr.heap.size=uB:=⟨_,rfl⟩;obtain⟨W1,hW1⟩:∃W1,(wr.alloc (.cells wj 43)).alloc (.cells #[.slice sa ds.length sc,.slice (some ⟨wr.heap.size,0,none⟩) ds.length ds.length] 268)=W1:=⟨_,rfl⟩;have hmu:w.heap.size<uB:=(by rw[<- huB];exact hown.lt);have hI0:NgO w w.heap.size uB (.slice sa ds.length sc) ds 0 W1:=by
    have hn1:=World.alloc_heap_new wr (.cells wj 43);have hn2:=World.alloc_heap_new (wr.alloc (.cells wj 43)) (.cells #[.slice sa ds.length sc,.slice (some ⟨wr.heap.size,0,none⟩) ds.length ds.length] 268);rw[World.size_alloc]at hn2;subst huB;refine⟨[],rfl,?_,?_,?_,?_,λj v h=>by simp at h⟩
    ·rw[<- hW1];refine(Below.heap_alloc _ _ _ (by simp)).trans ?_;rw[hn1,<- vq];congr 2;apply Array.ext';rw[toList_madeCells_one];rfl
    ·rw[<- hW1];exact hn2
    ·rw[<- hW1];exact(hown.alloc _).alloc _
    ·rw[<- hW1];exact(hnx.alloc (by have:=hnx.size;omega) _).alloc (by have:=hnx.size;simp;omega) _
   rw[hW1,huB]
   go_loopw [34] (λ i W=>∃k:Nat,k<=ds.length/\i=.int .i64 k/\NgO w w.heap.size uB (.slice sa ds.length sc) ds k W)
    (λ i _=>ds.length-(intOf i).toNat)
   case atStart=>exact⟨0,Nat.zero_le _,rfl,hI0⟩
   case round=>
    obtain⟨k,hk,rfl,us,sY,hU,hG,hM,hB,zg⟩:=hrel;obtain⟨ON,Wk⟩:∃ON,ON=wr:=⟨_,rfl⟩;by_cases hkl:k<ds.length
    ·rcases hsv with ⟨h0,_⟩|⟨b,aa,cap,he,hb,hr⟩
     ·rw[h0]at hkl;exact absurd hkl (Nat.not_lt_zero _)
     simp only[Value.slice.injEq,true_and]at he;obtain⟨rfl,rfl⟩:=he;obtain⟨d,hd⟩:∃d,ds[k]? =some d:=⟨_,dJ hkl⟩;obtain⟨vs,q,Lk⟩:=hr k d hd;obtain⟨u0,u1,u2,u3,u4,u5,rfl,hone⟩:=aht Lk;have o0:=λz1 z2 z3 z4 z5=>dM Tryz.prog wr #[.string { data:=#[] },z1,z2,z3,z4,z5] 100 0 u0 (by simp) (by simpa using (Array.all_eq_true.1 hone) 0 (by simp));have o1:=λz2 z3 z4 z5=>dM Tryz.prog wr #[u0,.int .i64 0,z2,z3,z4,z5] 100 1 u1 (by simp) (by simpa using (Array.all_eq_true.1 hone) 1 (by simp));have o2:=λz3 z4 z5=>dM Tryz.prog wr #[u0,u1,.int .i64 0,z3,z4,z5] 100 2 u2 (by simp) (by simpa using (Array.all_eq_true.1 hone) 2 (by simp));have o3:=λz4 z5=>dM Tryz.prog wr #[u0,u1,u2,.string { data:=#[] },z4,z5] 100 3 u3 (by simp) (by simpa using (Array.all_eq_true.1 hone) 3 (by simp));have o4:=λz5=>dM Tryz.prog wr #[u0,u1,u2,u3,.string { data:=#[] },z5] 100 4 u4 (by simp) (by simpa using (Array.all_eq_true.1 hone) 4 (by simp));have o5:=dM Tryz.prog wr #[u0,u1,u2,u3,u4,.slice none 0 0] 100 5 u5 (by simp) (by simpa using (Array.all_eq_true.1 hone) 5 (by simp));simp only[List.set_toArray,List.set]at o0 o1 o2 o3 o4 o5;have hn:=World.alloc_heap_new wr (.cells #[u0,u1,u2,u3,u4,u5] 100);have r0:(wr.alloc (.cells #[u0,u1,u2,u3,u4,u5] 100)).cell? ⟨wr.heap.size,0,none⟩=some u0:=(by simp only[World.cell?,hn];rfl);have q0:wr.cell? ⟨b,aa+k*6,none⟩=some u0:=(hB.cell (p:=⟨b,aa+k*6,none⟩) hb).trans (q 0 _ rfl);have q1:wr.cell? ⟨b,aa+k*6+1,none⟩=some u1:=(hB.cell (p:=⟨b,aa+k*6+1,none⟩) hb).trans (q 1 _ rfl);have q2:wr.cell? ⟨b,aa+k*6+2,none⟩=some u2:=(hB.cell (p:=⟨b,aa+k*6+2,none⟩) hb).trans (q 2 _ rfl);have q3:wr.cell? ⟨b,aa+k*6+3,none⟩=some u3:=(hB.cell (p:=⟨b,aa+k*6+3,none⟩) hb).trans (q 3 _ rfl);have q4:wr.cell? ⟨b,aa+k*6+4,none⟩=some u4:=(hB.cell (p:=⟨b,aa+k*6+4,none⟩) hb).trans (q 4 _ rfl);have q5:wr.cell? ⟨b,aa+k*6+5,none⟩=some u5:=(hB.cell (p:=⟨b,aa+k*6+5,none⟩) hb).trans (q 5 _ rfl);have r1:(wr.alloc (.cells #[u0,u1,u2,u3,u4,u5] 100)).cell? ⟨wr.heap.size,1,none⟩=some u1:=(by simp only[World.cell?,hn];rfl);have r2:(wr.alloc (.cells #[u0,u1,u2,u3,u4,u5] 100)).cell? ⟨wr.heap.size,2,none⟩=some u2:=(by simp only[World.cell?,hn];rfl);have r3:(wr.alloc (.cells #[u0,u1,u2,u3,u4,u5] 100)).cell? ⟨wr.heap.size,3,none⟩=some u3:=(by simp only[World.cell?,hn];rfl);have r4:(wr.alloc (.cells #[u0,u1,u2,u3,u4,u5] 100)).cell? ⟨wr.heap.size,4,none⟩=some u4:=(by simp only[World.cell?,hn];rfl);have r5:(wr.alloc (.cells #[u0,u1,u2,u3,u4,u5] 100)).cell? ⟨wr.heap.size,5,none⟩=some u5:=(by simp only[World.cell?,hn];rfl);have hba:Below w.heap.size wr (wr.alloc (.cells #[u0,u1,u2,u3,u4,u5] 100)):=(Below.refl _ _).alloc hB.size _;have hEd:mS (wr.alloc (.cells #[u0,u1,u2,u3,u4,u5] 100)).heap.size (wr.alloc (.cells #[u0,u1,u2,u3,u4,u5] 100)) d.2 [u1,u2,u3,u4,u5]:=(by obtain⟨v0,v1,v2,v3,v4,e,_,h⟩:=Lk;simp only[List.cons.injEq,and_true]at e;obtain⟨_,rfl,rfl,rfl,rfl,rfl⟩:=e;exact mS.mono (by have:=hB.size;simp;omega) _ _ (h.below' (hB.trans hba)));have hcn:=hN d (bZ hd) u1 u2 u3 u4 u5 _ hEd
     go_wp2_with (go_at_call 190;refine hcn.mono ?_;rintro e X ⟨nv,rfl,hrow,hbX⟩;obtain⟨na,nc,rfl⟩:=X5 hrow)
     have hcell:=X6 hrow;have hblt:=hrow.lt;have hsU:uB+1<wr.heap.size:=(Array.getElem?_eq_some_iff.1 hG).1;have hsX:wr.heap.size+1<=X.heap.size:=(by have:=hbX.size;simpa using this);have hkX:∀c,c<wr.heap.size->X.heap[c]? =wr.heap[c]? :=λc hc=>(hbX.block c (by simp;omega)).trans (Below.heap_alloc _ _ c hc);obtain⟨L,hL⟩:∃L,vS d.2.names=L:=⟨_,rfl⟩;rw[hL]at hrow hcell;have hLl:L.length<=1000000000000:=(by rw[<- hL];exact Nat.le_trans (adi _) (hnl d (bZ hd)));have hLs:∀s∈L,s.length<=maxLen:=by intro s hs;rw[<- hL]at hs;obtain⟨x,hx,rfl⟩:=akg hs;have:=mS.fX d.2 _ hEd x hx;simpa using this
     go_loopw [43] (λ i V=>∃q:Nat,q<=L.length/\i=.int .i64 q/\NgI X uB us ds (ds.length-k-1) (L.take q) V)
      (λ i _=>L.length-(intOf i).toNat)
     case atStart=>
      refine⟨0,Nat.zero_le _,rfl,none,0,_,rfl,World.grownBy.refl _ _,?_,World.ownsRow_nil _ _ _ _⟩;rw[hkX uB (by omega),hU,show ds.length-k=(ds.length-k-1)+1 by omega,List.replicate_succ];rfl
     case round=>
      obtain⟨q,hq,rfl,va,vc,v,rfl,vy,ue,zc⟩:=hrel;by_cases zp:q<L.length
      ·obtain⟨nm,hnm⟩:∃nm,L[q]? =some nm:=⟨_,dJ zp⟩;obtain⟨g,rfl,hg1,hg2,hgc⟩:=hcell (by omega);have c0:wr.cell? ⟨g,q,none⟩=some (encStr nm):=(vy.cell_far ⟨g,q,none⟩ hg2 (by simp at hg1 ⊢;omega)).trans (hgc q _ (by rw[List.getElem?_map,hnm];rfl));have hkey:keyOf Tryz.prog 9 (encStr nm)=some (.string nm):=(by have:=akx ⟨nm.toArray⟩ (by have:=hLs nm (bZ hnm);simpa[ByteArray.size]using this);simpa using this);have hMV:wr.ownsMap Tryz.prog 9 (plainElem (H:=Unit) Tryz.prog 3) w.heap.size ds.length (RD ds ds.length):=(by obtain⟨es,ck,h1,h2⟩:=hM;exact⟨es,ck,(vy.block _ (by omega) (by simp;omega)).trans ((hkX _ (by omega)).trans h1),h2⟩);have hlk:(iK ds (L.take q)).length<=1000000000000:=Nat.le_trans (List.length_filterMap_le _ _) (by rw[List.length_take];omega);have qn:=aiI hMV hkey;cases hix:Mv ds nm ds.length with
       |none=>
        rw[hix]at qn;simp only[Option.isSome,Option.getD]at qn
        go_wp2
        have hstep:iK ds (L.take (q+1))=iK ds (L.take q):=(by rw[VH ds L q hnm,hix];exact List.append_nil _);exact⟨⟨q+1,by omega,by go_num,va,vc,_,rfl,vy,by rw[hstep];exact ue,by rw[hstep];exact zc⟩,by simp[intOf];omega⟩
       |some m=>
        rw[hix]at qn;simp only[Option.isSome,Option.getD]at qn
        go_wp2
        have hstep:iK ds (L.take (q+1))=iK ds (L.take q)++[m]:=(by rw[VH ds L q hnm,hix];rfl);have hVX:X.heap.size<=wr.heap.size:=vy.size;have cG:wr.cell? ⟨uB+1,1,none⟩=some (.slice (some ⟨uB,0,none⟩) ds.length ds.length):=(by have h1:=(vy.block (uB+1) (by omega) (by simp)).trans ((hkX _ (by omega)).trans hG);simp[World.cell?,h1]);have cU:wr.cell? ⟨uB,k,none⟩=some (.slice va (iK ds (L.take q)).length vc):=(by rw[<- sY];simp[World.cell?,ue]);have cF:wr.frozen? ⟨uB,k,none⟩=false:=(by simp[World.frozen?,ue]);have cF2:∀o,(wr.alloc o).drew.frozen? ⟨uB,k,none⟩=false:=λo=>(by have h1:=(Below.heap_alloc wr o uB (Array.getElem?_eq_some_iff.1 ue).1).trans ue;show(wr.alloc o).frozen? _=_;simp[World.frozen?,h1]);have hk0:(0:Int)<=(k:Int):=Int.natCast_nonneg _;have hk1:(k:Int)<(ds.length:Int):=(by omega);have CC:(Value.slice va (iK ds (L.take q)).length vc).ownBlock≠some uB:=λe=>(by have:=(zc.lt _ e).1;omega);have X1:(Value.slice va (iK ds (L.take q)).length vc).ownBlock≠some (uB+1):=λe=>(by have:=(zc.lt _ e).1;omega);have cU2:=World.new_ne wr ⟨uB,k,none⟩ cU;have cU3:∀o,(wr.alloc o).drew.cell? ⟨uB,k,none⟩=some (.slice va (iK ds (L.take q)).length vc):=λo=>(by have h1:=(Below.heap_alloc wr o uB (Array.getElem?_eq_some_iff.1 ue).1).trans ue;show(wr.alloc o).cell? _=_;rw[<- sY];simp[World.cell?,h1]);have cG3:∀o,(wr.alloc o).drew.cell? ⟨uB+1,1,none⟩=some (.slice (some ⟨uB,0,none⟩) ds.length ds.length):=λo=>(by have h0:=(vy.block (uB+1) (by omega) (by simp)).trans ((hkX _ (by omega)).trans hG);have h1:=(Below.heap_alloc wr o (uB+1) (Array.getElem?_eq_some_iff.1 h0).1).trans h0;show(wr.alloc o).cell? _=_;simp[World.cell?,h1]);have cG4:=cG3 (.cells #[.int .i64 m] 3);have cU4:=cU3 (.cells #[.int .i64 m] 3);have cF4:=cF2 (.cells #[.int .i64 m] 3)
        go_region_law ((refine step_append_lies _ (by rfl) _ _ _ (by rfl) X.heap.size 3 iI _ 1 8 Tryz.underlying43 hiI Wa V2 V1 rfl (by omega) _ _ _ (by rfl) ((zc.alloc _).drew) ⟨wr.heap.size,0,none⟩ 1 1 [.int .i64 m] (by rfl) (by rfl) (World.news_of_block (cs:=#[.int .i64 m]) (t:=3) (fr:=(0,0)) (heap_alloc_new wr _)) (by simp[Value.oneCell']) (by omega) (by unfold maxLen;omega) (by omega) (by simp;omega) (wr.heap.size+1) (by simp) ?_;intro gg cap w1 hown1 hgrow hat hlt;have cU1:w1.cell? ⟨uB,k,none⟩=some (.slice va (iK ds (L.take q)).length vc):=(by rw[hgrow.cell_far _ (by simp;omega) (Ne.symm CC)];exact cU3 _);have cG1:w1.cell? ⟨uB+1,1,none⟩=some (.slice (some ⟨uB,0,none⟩) ds.length ds.length):=(by rw[hgrow.cell_far _ (by simp;omega) (Ne.symm X1)];exact cG3 _);have cF1:w1.frozen? ⟨uB,k,none⟩=false:=(by rw[hgrow.frozen_far _ (by simp;omega) (Ne.symm CC)];exact cF2 _)))
        all_goals go_wp2
        all_goals exact⟨⟨_,_,_,.int .i64 ((q:Int)+1),⟨q+1,by omega,by go_num,aky vy ue sY hgrow CC (λ b e=>(zc.lt b e).1) hown1 hstep hat⟩,rfl,rfl,rfl,rfl⟩,by simp[intOf];omega⟩
      ·obtain rfl:q=L.length:=by omega
       go_wp2
       rw[List.take_length]at ue zc;subst Wk;have hgw:∀c,c<ON.heap.size->c≠uB->wr.heap[c]? =ON.heap[c]? :=λc hc hne=>(vy.block c (by omega) (by simp;omega)).trans (hkX c hc);refine⟨⟨k+1,by omega,by go_num,us++[.slice va (iK ds L).length vc],by simp[sY],?_,?_,?_,?_,?_⟩,by simp[intOf];omega⟩
       ·rw[ue];congr 3;simp[Nat.sub_sub]
       ·exact(hgw (uB+1) (by omega) (by omega)).trans hG
       ·obtain⟨es,ck,h1,h2⟩:=hM;exact⟨es,ck,(hgw _ (by omega) (by omega)).trans h1,h2⟩
       ·exact(((hB.trans hba).trans (hbX.mono (by simp;have:=hB.size;omega))).grown vy (by have:=hB.size;omega) (λ j e=>by cases e;omega))
       ·intro j v hj;rw[List.getElem?_append]at hj;split at hj
        ·obtain⟨d',hd',ho⟩:=zg j v hj;exact⟨d',hd',afN ho (by omega) hgw⟩
        ·rename_i hjl;have hj0:j-us.length=0:=by
          cases h:j-us.length with
          |zero=>rfl
          |succ z=>rw[h]at hj;simp at hj
         rw[hj0]at hj;simp only[List.getElem?_cons_zero,bM]at hj;subst hj;refine⟨d,by rw[show j=k by omega];exact hd,?_⟩;rw[hL];refine⟨zc.1,zc.2.imp id ?_⟩;rintro⟨g,cap,cur,h1,h2,h3⟩;exact⟨g,cap,cur,h1,by omega,h3⟩
    ·obtain rfl:k=ds.length:=by omega
     go_wp2
     go_ret
     exact⟨uB,rfl,hmu,us,sY,by simpa using hU,hG,hB,zg⟩
end Go.Proofs
namespace Go.Proofs
open Go.RowKit Go.Shelf
set_option maxHeartbeats 1000000 in
theorem akz(x y:Nat)(hx:x<18446744073709551616)(hy:y<18446744073709551616)(w:World):
 Calls Tryz.prog 275 #[.int .u64 x,.int .u64 y] w λe w'=>e=.returned (.tuple #[.int .u64 ((x*y/18446744073709551616:Nat):Int),.int .u64 ((x*y%18446744073709551616:Nat):Int)])/\w'=w:=by
 obtain⟨bd,bt,bw,hhi⟩:=Lib.mul64_hi x y hx hy;have ba:=Lib.half_mul_le (a:=x/4294967296) (b:=y/4294967296) (by omega) (by omega);have bb:=Lib.half_mul_le (a:=x/4294967296) (b:=y%4294967296) (by omega) (by omega);have bc:=Lib.half_mul_le (a:=x%4294967296) (b:=y/4294967296) (by omega) (by omega);have ba':x/4294967296*(y/4294967296)<18446744073709551616:=by omega
 have bb':x/4294967296*(y%4294967296)<18446744073709551616:=by omega
 have bc':x%4294967296*(y/4294967296)<18446744073709551616:=by omega
 have bh1:x/4294967296*(y/4294967296)+(x/4294967296*(y%4294967296)+x%4294967296*(y%4294967296)/4294967296)/4294967296<18446744073709551616:=by omega
 have bh:x/4294967296*(y/4294967296)+(x/4294967296*(y%4294967296)+x%4294967296*(y%4294967296)/4294967296)/4294967296+((x/4294967296*(y%4294967296)+x%4294967296*(y%4294967296)/4294967296)%4294967296+x%4294967296*(y/4294967296))/4294967296<18446744073709551616:=by omega
 go_enter Tryz.func275,Tryz.ntmps275
 go_wp2
 simp only[Mul64.maskN x hx,Mul64.maskN y hy,Mul64.divN,Mul64.mulN,Mul64.addN,Mul64.wrapN _ bd,Mul64.wrapN _ bb',Mul64.wrapN _ bt,Mul64.maskN _ bt,Mul64.wrapN _ bc',Mul64.wrapN _ bw,Mul64.wrapN _ ba',Mul64.wrapN _ bh1,Mul64.wrapN _ bh,Mul64.wrapM (x*y)];rw[hhi]
 go_ret2
 exact⟨rfl,rfl⟩
set_option maxHeartbeats 1000000 in
theorem anl(x y:Nat)(hx:x<18446744073709551616)(hy:y<18446744073709551616)(w:World):
 Calls Tryz.prog 260 #[.int .u64 x,.int .u64 y] w λe w'=>e=.returned (.tuple #[.int .u64 ((x*y/18446744073709551616:Nat):Int),.int .u64 ((x*y%18446744073709551616:Nat):Int)])/\w'=w:=by
 go_enter Tryz.func260,Tryz.ntmps260
 go_wp2_with (go_at_call 275;refine(akz x y hx hy _).mono ?_;rintro e w' ⟨rfl,hw⟩;rw[hw])
 go_ret2
 exact⟨rfl,rfl⟩
theorem alX(c:Nat)(hc:c<=1000000000000)(w:World):
 Calls Tryz.prog 260 #[.int .u64 1,.int .u64 c] w λe w'=>e=.returned (.tuple #[.int .u64 0,.int .u64 c])/\w'=w:=by have h:=anl 1 c (by decide) (by omega) w;rw[show 1*c/18446744073709551616=0 by omega,show 1*c%18446744073709551616=c by omega]at h;exact h
theorem ahu:(Tryz.prog.info? 3).map (λ i=>(i.zero,i.size,i.bytes))=some (some (.int .i64 0),1,8):=by kernel_rfl
def pN(x:Int)(m c:Nat):List Value:=List.replicate m (.int .i64 x)++List.replicate (c-m) (.int .i64 0)
theorem afO(x:Int)(m k c:Nat)(_:m+k<=c):splice (pN x m c) m (List.replicate k (.int .i64 x))=pN x (m+k) c:=by
 have h1:(pN x m c).take m=List.replicate m (.int .i64 x):=by simp[pN]
 have h2:(pN x m c).drop (m+k)=List.replicate (c-(m+k)) (.int .i64 0):=by rw[pN,List.drop_append];simp[Nat.sub_sub,show m+k-m=k by omega]
 rw[splice,h1,List.length_replicate,h2,<- aT,List.replicate_append_replicate,pN]
theorem alY{P:Program}{ag:Array Oper}{o:Oper}{a:Act}{w w':World}{K:Act->World->Prop}{Q:Exit->Act->World->Prop}{E:Prop}(hgd:o.guard=none)(d s:Operand)(dT sT:TypeId)
 (ho:o.op=.call { callee:=.builtin .copy,args:=#[d,s],argTypes:=#[dT,sT] }) {D S v:Value} (hd:a.eval d=D) (hs:a.eval s=S) (hrun:(Builtin.copy_ #[dT,sT] o.type #[D,S]).run P w=.ok v w') (h:K (a.put o.dst v) w'):
 if Region.wanted o (yielded ag a.tmps)=true then Oper.wp P o a w K Q else E:=by
 have hw:Region.wanted o (yielded ag a.tmps)=true:=by simp[Region.wanted,hgd]
 rw[aX hw];unfold Oper.wp;simp[execOp,ho,resolve,invoke,builtin,hd,hs,hrun,Result.andThen];exact h
theorem ahv{x:Int}{m k c g dCap sCap sLen dLen:Nat}{a:Addr}{W:World}(hg:W.heap[g]? =some (.cells (pN x m c).toArray 3))(h:m+k<=c)(hk:k=Nat.min sLen dLen)
 (hsrc:∀j v,(List.replicate k (Value.int .i64 x))[j]? =some v->W.cell? (a.add j)=some v):
 ∃W1,(Builtin.copy_ #[43,43] 3 #[.slice (some ⟨g,m,none⟩) dLen dCap,.slice (some a) sLen sCap]).run Tryz.prog W=.ok (.int .i64 k) W1/\W1.heap[g]? =some (.cells (pN x (m+k) c).toArray 3)/\∀B w0,Below B w0 W->B<=g->Below B w0 W1:=by
 obtain⟨i0,hi,hz0,hz1,hz2⟩:=info_parts ahu;have hone:∀v∈List.replicate k (Value.int .i64 x),v.oneCell'=true:=λv hv=>by rw[(List.mem_replicate.1 hv).2];rfl
 have hrun:=run_copy_row (P:=Tryz.prog) W 43 43 3 3 g m dLen dCap a sLen sCap (pN x m c).toArray 3 (List.replicate k (.int .i64 x)) Tryz.underlying43 (by rw[hi];simp[hz1]) hg (by simpa using hk) hsrc (by simp[pN];omega) hone;rw[List.length_replicate]at hrun;refine⟨_,hrun,?_,λB w0 hb hB=>below_setRow hb hB _⟩;have:=setRow_heap W g _ (pN x (m+k) c).toArray 3 _ hg;rw[<- afO x m k c h]at this ⊢;simpa[splice]using this
set_option maxRecDepth 100000 in
set_option maxHeartbeats 4000000 in
theorem aiK(x:Int)(c:Nat)(hc:c<=1000000000000)(a:Addr)(cap:Nat)(w:World)(hx:w.cell? a=some (.int .i64 x)):
 Calls Tryz.prog 245 #[.slice (some a) 1 cap,.int .i64 c] w λe W'=>∃v,e=.returned v/\W'.ownsRow w.heap.size 3 1 v c (List.replicate c (.int .i64 x))/\Below w.heap.size w W':=by
 have h0:(0:Int)<=(c:Int):=Int.natCast_nonneg _;obtain⟨i0,hi,hz0,hz1,hz2⟩:=info_parts ahu;have hms:=run_make (P:=Tryz.prog) w 43 3 i0 (.int .i64 0) Tryz.underlying43 hi hz0 .i64 .i64 c c (by omega) (Int.le_refl _) (by rw[hz2];omega) (by omega);rw[hz1]at hms;simp only[Int.toNat_natCast,Nat.mul_one,Value.cells]at hms;obtain⟨wj,vq⟩:∃wj,madeCells #[Value.int .i64 0] c=wj:=⟨_,rfl⟩;rw[vq]at hms;have hgm:=heap_alloc_new w (.cells wj 3);have GS:wj=(pN x 0 c).toArray:=by rw[<- vq];apply Array.ext';rw[toList_madeCells_one];simp[pN]
 rw[GS]at hgm hms;have hbm:Below w.heap.size w (w.alloc (.cells (pN x 0 c).toArray 3)):=(Below.refl _ _).alloc (ay _) _;have hsz1:(Tryz.prog.info? 3).map (·.size)=some 1:=by rw[hi];simp[hz1]
 go_enter Tryz.func245,Tryz.ntmps245
 have hone:∀k,∀v∈List.replicate k (Value.int .i64 x),v.oneCell'=true:=λk v hv=>by rw[(List.mem_replicate.1 hv).2];rfl
 have hab:a.block<w.heap.size:=World.block_lt_of_cell? w a hx;obtain⟨W1,hcp,hg1,hb1⟩:=ahv (k:=min 1 c) (sLen:=1) (dLen:=c) (dCap:=c) (sCap:=cap) (a:=a) hgm (by omega) rfl λj v hj=>by
  have hj0:=(dh.1 hj).1;rw[List.length_replicate]at hj0;obtain rfl:j=0:=by omega
  rw[List.getElem?_replicate,aX hj0]at hj;cases hj;have:=(Below.refl w.heap.size w).alloc (ay _) (.cells (pN x 0 c).toArray 3) |>.cell hab;rw[<- hx,<- this];rfl
 have hb1:=hb1 _ _ hbm (ay _);rw[Nat.zero_add]at hg1;obtain⟨m0,hm0⟩:∃m0,min 1 c=m0:=⟨_,rfl⟩;rw[hm0]at hcp hg1
 go_wp2_with (go_at_call 260;refine(alX c hc _).mono ?_;rintro e w' ⟨rfl,hw⟩;rw[hw])
 go_loopw [8] (λ i W=>∃m:Nat,m<=c/\(0<c->0<m)/\i=.int .i64 m/\W.heap[w.heap.size]? =some (.cells (pN x m c).toArray 3)/\Below w.heap.size w W)
  (λ i _=>c-(intOf i).toNat)
 case atStart=>exact⟨m0,by omega,by omega,rfl,hg1,hb1⟩
 case round=>
  obtain⟨m,hm,hmp,rfl,hgW,hbW⟩:=hrel;by_cases hlt:m<c
  ·have hm1:(0:Int)<=(m:Int):=Int.natCast_nonneg _;have hm2:(m:Int)<=(c:Int):=(by omega);have hcm:¬c=m:=(by omega);obtain⟨W2,hcp2,hg2,hb2⟩:=ahv (W:=wr.drew) (k:=min m (c-m)) (sLen:=m) (dLen:=c-m) (dCap:=c-m) (sCap:=c) (a:=⟨w.heap.size,0,none⟩) (show wr.drew.heap[w.heap.size]? =_ from hgW) (by omega) rfl λj v hj=>by
    have hj0:=(dh.1 hj).1;rw[List.length_replicate]at hj0;rw[List.getElem?_replicate,aX hj0]at hj;have h1:(pN x m c)[j]? =some (.int .i64 x):=(by rw[pN,List.getElem?_append_left (by simp;omega),List.getElem?_replicate,aX (by omega)]);show wr.cell? _=_;rw[<- hj,<- h1];cases j with
    |zero=>simp[World.cell?,Addr.add,hgW]
    |succ j=>simp[World.cell?,Addr.add,hgW]
   have hb2:=hb2 w.heap.size w (show Below w.heap.size w wr.drew from⟨hbW.os,hbW.tape,hbW.output,hbW.size,hbW.block⟩) (ay _);obtain⟨k,hk⟩:∃k,min m (c-m)=k:=⟨_,rfl⟩;rw[hk]at hcp2 hg2
   go_wp2
   go_region_held3 (λ _=>True) (trivial) ((refine alY (by rfl) _ _ _ _ (by rfl) (by simp[Act.eval]) (by rfl) hcp2 ?_))
   have hw:i64.wrap ((m:Int)+(k:Int))=((m+k:Nat):Int):=(by rw[IntKind.wrap_i64];omega);rw[hw]
   go_wp2
   exact⟨⟨m+k,by omega,by omega,rfl,hg2,hb2⟩,by simp[intOf];omega⟩
  ·obtain rfl:m=c:=by omega
   go_wp2
   go_ret
   exact⟨_,rfl,⟨by simp,.inr ⟨w.heap.size,m,_,rfl,ay _,hgW,ay _,by unfold maxLen;omega,by simp[pN],by simp[pN]⟩⟩,hbW⟩
end Go.Proofs
namespace Go.Proofs
open Go.Shelf
def Tryz.lays144_ren:Go.Shelf.Ren:=⟨λ| 144=>73| 143=>114| 219=>151| 217=>179| 225=>180| 224=>181| 267=>182| 266=>218| 314=>219|n=>n,λ| 9=>9| 4=>4| 3=>3| 5=>5| 46=>190| 146=>295| 51=>282|n=>n,λ| 1=>0|n=>n⟩
theorem Tryz.lays144:Go.Proofs.Lays.n144 Tryz.prog Tryz.lays144_ren:={
 mixed:=by kernel_rfl
 f143:=Tryz.func114.trans (congrArg some (by kernel_rfl))
 f144:=Tryz.func73.trans (congrArg some (by kernel_rfl))
 f217:=Tryz.func179.trans (congrArg some (by kernel_rfl))
 f219:=Tryz.func151.trans (congrArg some (by kernel_rfl))
 f224:=Tryz.func181.trans (congrArg some (by kernel_rfl))
 f225:=Tryz.func180.trans (congrArg some (by kernel_rfl))
 f266:=Tryz.func218.trans (congrArg some (by kernel_rfl))
 f267:=Tryz.func182.trans (congrArg some (by kernel_rfl))
 f314:=Tryz.func219.trans (congrArg some (by kernel_rfl))
 t3:=Tryz.underlying3
 a3:=Tryz.isAgg3
 z3:=Tryz.sizeOf3
 v3:=Tryz.zeroValue3
 t4:=Tryz.underlying4
 a4:=Tryz.isAgg4
 z4:=Tryz.sizeOf4
 v4:=Tryz.zeroValue4
 t5:=Tryz.underlying5
 a5:=Tryz.isAgg5
 z5:=Tryz.sizeOf5
 v5:=Tryz.zeroValue5
 t9:=Tryz.underlying9
 a9:=Tryz.isAgg9
 z9:=Tryz.sizeOf9
 v9:=Tryz.zeroValue9
 t46:=Tryz.underlying190
 a46:=Tryz.isAgg190
 z46:=Tryz.sizeOf190
 v46:=Tryz.zeroValue190
 t51:=Tryz.underlying282
 a51:=Tryz.isAgg282
 z51:=Tryz.sizeOf282
 v51:=Tryz.zeroValue282
 t146:=Tryz.underlying295
 a146:=Tryz.isAgg295
 z146:=Tryz.sizeOf295
 v146:=Tryz.zeroValue295
 g1:=by kernel_rfl }
theorem adq(s sub:ByteArray)(m:Int)(w:World)(hs:s.size<4294967281)(hm:w.cell? ⟨0,0,none⟩=some (.int .i64 m)):
 Calls Tryz.prog 73 #[.string s,.string sub] w λe w'=>e=.returned (.bool (Lib.contains s.data.toList sub.data.toList))/\w'=w:=Any.strings_Contains Tryz.lays144 s sub m w hs hm
end Go.Proofs
namespace Go.Proofs
open Go.Shelf
def Tryz.so130_ren:Go.Shelf.Ren:=⟨λ| 5=>130| 8=>167| 7=>168| 19=>203| 20=>204| 10=>205| 11=>206| 12=>207| 13=>208| 14=>209| 15=>210| 16=>211| 17=>212| 18=>213| 30=>237| 31=>233| 32=>234| 33=>238| 34=>239| 35=>39| 40=>249|n=>n,λ| 23=>43| 25=>3| 3=>3| 32=>190| 22=>43| 0=>0| 44=>282| 46=>284| 4=>4| 36=>276| 35=>275| 41=>231| 5=>5| 9=>9| 53=>311| 57=>315| 63=>323| 64=>218|n=>n,λ|n=>n⟩
theorem Tryz.so130:Go.Proofs.SlLaysM.n5 Tryz.prog Tryz.so130_ren:={
 mixed:=by kernel_rfl
 f5:=⟨Tryz.f130.name,by decide,Tryz.func130.trans (congrArg some (by kernel_rfl))⟩
 f7:=⟨Tryz.f168.name,by decide,Tryz.func168.trans (congrArg some (by kernel_rfl))⟩
 f8:=Tryz.func167.trans (congrArg some (by kernel_rfl))
 f10:=⟨Tryz.f205.name,by decide,Tryz.func205.trans (congrArg some (by kernel_rfl))⟩
 f11:=⟨Tryz.f206.name,by decide,Tryz.func206.trans (congrArg some (by kernel_rfl))⟩
 f12:=⟨Tryz.f207.name,by decide,Tryz.func207.trans (congrArg some (by kernel_rfl))⟩
 f13:=⟨Tryz.f208.name,by decide,Tryz.func208.trans (congrArg some (by kernel_rfl))⟩
 f14:=⟨Tryz.f209.name,by decide,Tryz.func209.trans (congrArg some (by kernel_rfl))⟩
 f15:=⟨Tryz.f210.name,by decide,Tryz.func210.trans (congrArg some (by kernel_rfl))⟩
 f16:=⟨Tryz.f211.name,by decide,Tryz.func211.trans (congrArg some (by kernel_rfl))⟩
 f17:=⟨Tryz.f212.name,by decide,Tryz.func212.trans (congrArg some (by kernel_rfl))⟩
 f18:=⟨Tryz.f213.name,by decide,Tryz.func213.trans (congrArg some (by kernel_rfl))⟩
 f19:=Tryz.func203.trans (congrArg some (by kernel_rfl))
 f20:=Tryz.func204.trans (congrArg some (by kernel_rfl))
 f30:=⟨Tryz.f237.name,by decide,Tryz.func237.trans (congrArg some (by kernel_rfl))⟩
 f31:=Tryz.func233.trans (congrArg some (by kernel_rfl))
 f32:=Tryz.func234.trans (congrArg some (by kernel_rfl))
 f33:=⟨Tryz.f238.name,by decide,Tryz.func238.trans (congrArg some (by kernel_rfl))⟩
 f34:=⟨Tryz.f239.name,by decide,Tryz.func239.trans (congrArg some (by kernel_rfl))⟩
 f35:=⟨Tryz.f39.name,by decide,Tryz.func39.trans (congrArg some (by kernel_rfl))⟩
 f40:=⟨Tryz.f249.name,by decide,Tryz.func249.trans (congrArg some (by kernel_rfl))⟩
 t0:=Tryz.underlying0
 a0:=Tryz.isAgg0
 z0:=Tryz.sizeOf0
 v0:=Tryz.zeroValue0
 t3:=Tryz.underlying3
 a3:=Tryz.isAgg3
 z3:=Tryz.sizeOf3
 v3:=Tryz.zeroValue3
 t4:=Tryz.underlying4
 a4:=Tryz.isAgg4
 z4:=Tryz.sizeOf4
 v4:=Tryz.zeroValue4
 t5:=Tryz.underlying5
 a5:=Tryz.isAgg5
 z5:=Tryz.sizeOf5
 v5:=Tryz.zeroValue5
 t9:=Tryz.underlying9
 a9:=Tryz.isAgg9
 z9:=Tryz.sizeOf9
 v9:=Tryz.zeroValue9
 t22:=Tryz.underlying43
 a22:=Tryz.isAgg43
 z22:=Tryz.sizeOf43
 v22:=Tryz.zeroValue43
 t23:=Tryz.underlying43
 a23:=Tryz.isAgg43
 z23:=Tryz.sizeOf43
 v23:=Tryz.zeroValue43
 t25:=Tryz.underlying3
 a25:=Tryz.isAgg3
 z25:=Tryz.sizeOf3
 v25:=Tryz.zeroValue3
 t32:=Tryz.underlying190
 a32:=Tryz.isAgg190
 z32:=Tryz.sizeOf190
 v32:=Tryz.zeroValue190
 t35:=Tryz.underlying275
 a35:=Tryz.isAgg275
 z35:=Tryz.sizeOf275
 v35:=Tryz.zeroValue275
 t36:=Tryz.underlying276
 a36:=Tryz.isAgg276
 z36:=Tryz.sizeOf276
 v36:=Tryz.zeroValue276
 t41:=Tryz.underlying231
 a41:=Tryz.isAgg231
 z41:=Tryz.sizeOf231
 v41:=Tryz.zeroValue231
 t44:=Tryz.underlying282
 a44:=Tryz.isAgg282
 z44:=Tryz.sizeOf282
 v44:=Tryz.zeroValue282
 t46:=Tryz.underlying284
 a46:=Tryz.isAgg284
 z46:=Tryz.sizeOf284
 v46:=Tryz.zeroValue284
 t53:=Tryz.underlying311
 a53:=Tryz.isAgg311
 z53:=Tryz.sizeOf311
 v53:=Tryz.zeroValue311
 t57:=Tryz.underlying315
 a57:=Tryz.isAgg315
 z57:=Tryz.sizeOf315
 v57:=Tryz.zeroValue315
 t63:=Tryz.underlying323
 a63:=Tryz.isAgg323
 z63:=Tryz.sizeOf323
 v63:=Tryz.zeroValue323
 t64:=Tryz.underlying218
 a64:=Tryz.isAgg218
 z64:=Tryz.sizeOf218
 v64:=Tryz.zeroValue218 }
def Tryz.so216_ren:Go.Shelf.Ren:=⟨λ| 6=>216| 15=>167| 14=>240| 28=>203| 29=>204| 20=>250| 21=>251| 22=>252| 23=>253| 24=>254| 25=>255| 26=>256| 27=>257| 46=>262| 47=>233| 48=>234| 49=>263| 50=>264| 57=>276|n=>n,λ| 22=>224| 24=>251| 25=>294| 3=>3| 39=>190| 0=>0| 53=>282| 55=>284| 4=>4| 46=>276| 45=>275| 50=>231| 5=>5| 9=>9| 66=>311| 70=>315| 76=>323| 77=>218|n=>n,λ|n=>n⟩
theorem Tryz.so216:Go.Proofs.SlLaysF0.n6 Tryz.prog Tryz.so216_ren:={
 mixed:=by kernel_rfl
 f6:=⟨Tryz.f216.name,by decide,Tryz.func216.trans (congrArg some (by kernel_rfl))⟩
 f14:=⟨Tryz.f240.name,by decide,Tryz.func240.trans (congrArg some (by kernel_rfl))⟩
 f15:=Tryz.func167.trans (congrArg some (by kernel_rfl))
 f20:=⟨Tryz.f250.name,by decide,Tryz.func250.trans (congrArg some (by kernel_rfl))⟩
 f21:=⟨Tryz.f251.name,by decide,Tryz.func251.trans (congrArg some (by kernel_rfl))⟩
 f22:=⟨Tryz.f252.name,by decide,Tryz.func252.trans (congrArg some (by kernel_rfl))⟩
 f23:=⟨Tryz.f253.name,by decide,Tryz.func253.trans (congrArg some (by kernel_rfl))⟩
 f24:=⟨Tryz.f254.name,by decide,Tryz.func254.trans (congrArg some (by kernel_rfl))⟩
 f25:=⟨Tryz.f255.name,by decide,Tryz.func255.trans (congrArg some (by kernel_rfl))⟩
 f26:=⟨Tryz.f256.name,by decide,Tryz.func256.trans (congrArg some (by kernel_rfl))⟩
 f27:=⟨Tryz.f257.name,by decide,Tryz.func257.trans (congrArg some (by kernel_rfl))⟩
 f28:=Tryz.func203.trans (congrArg some (by kernel_rfl))
 f29:=Tryz.func204.trans (congrArg some (by kernel_rfl))
 f46:=⟨Tryz.f262.name,by decide,Tryz.func262.trans (congrArg some (by kernel_rfl))⟩
 f47:=Tryz.func233.trans (congrArg some (by kernel_rfl))
 f48:=Tryz.func234.trans (congrArg some (by kernel_rfl))
 f49:=⟨Tryz.f263.name,by decide,Tryz.func263.trans (congrArg some (by kernel_rfl))⟩
 f50:=⟨Tryz.f264.name,by decide,Tryz.func264.trans (congrArg some (by kernel_rfl))⟩
 f57:=⟨Tryz.f276.name,by decide,Tryz.func276.trans (congrArg some (by kernel_rfl))⟩
 t0:=Tryz.underlying0
 a0:=Tryz.isAgg0
 z0:=Tryz.sizeOf0
 v0:=Tryz.zeroValue0
 t3:=Tryz.underlying3
 a3:=Tryz.isAgg3
 z3:=Tryz.sizeOf3
 v3:=Tryz.zeroValue3
 t4:=Tryz.underlying4
 a4:=Tryz.isAgg4
 z4:=Tryz.sizeOf4
 v4:=Tryz.zeroValue4
 t5:=Tryz.underlying5
 a5:=Tryz.isAgg5
 z5:=Tryz.sizeOf5
 v5:=Tryz.zeroValue5
 t9:=Tryz.underlying9
 a9:=Tryz.isAgg9
 z9:=Tryz.sizeOf9
 v9:=Tryz.zeroValue9
 t22:=Tryz.underlying224
 a22:=Tryz.isAgg224
 z22:=Tryz.sizeOf224
 v22:=Tryz.zeroValue224
 t25:=Tryz.underlying294
 a25:=Tryz.isAgg294
 z25:=Tryz.sizeOf294
 v25:=Tryz.zeroValue294
 t39:=Tryz.underlying190
 a39:=Tryz.isAgg190
 z39:=Tryz.sizeOf190
 v39:=Tryz.zeroValue190
 t45:=Tryz.underlying275
 a45:=Tryz.isAgg275
 z45:=Tryz.sizeOf275
 v45:=Tryz.zeroValue275
 t46:=Tryz.underlying276
 a46:=Tryz.isAgg276
 z46:=Tryz.sizeOf276
 v46:=Tryz.zeroValue276
 t50:=Tryz.underlying231
 a50:=Tryz.isAgg231
 z50:=Tryz.sizeOf231
 v50:=Tryz.zeroValue231
 t53:=Tryz.underlying282
 a53:=Tryz.isAgg282
 z53:=Tryz.sizeOf282
 v53:=Tryz.zeroValue282
 t55:=Tryz.underlying284
 a55:=Tryz.isAgg284
 z55:=Tryz.sizeOf284
 v55:=Tryz.zeroValue284
 t66:=Tryz.underlying311
 a66:=Tryz.isAgg311
 z66:=Tryz.sizeOf311
 v66:=Tryz.zeroValue311
 t70:=Tryz.underlying315
 a70:=Tryz.isAgg315
 z70:=Tryz.sizeOf315
 v70:=Tryz.zeroValue315
 t76:=Tryz.underlying323
 a76:=Tryz.isAgg323
 z76:=Tryz.sizeOf323
 v76:=Tryz.zeroValue323
 t77:=Tryz.underlying218
 a77:=Tryz.isAgg218
 z77:=Tryz.sizeOf218
 v77:=Tryz.zeroValue218 }
def Tryz.so128_ren:Go.Shelf.Ren:=⟨λ| 6=>128| 15=>167| 14=>166| 28=>203| 29=>204| 20=>195| 21=>196| 22=>197| 23=>198| 24=>199| 25=>200| 26=>201| 27=>202| 46=>232| 47=>233| 48=>234| 49=>235| 50=>236| 57=>248|n=>n,λ| 22=>65| 24=>59| 25=>185| 3=>3| 39=>190| 0=>0| 53=>282| 55=>284| 4=>4| 46=>276| 45=>275| 50=>231| 5=>5| 9=>9| 66=>311| 70=>315| 76=>323| 77=>218|n=>n,λ|n=>n⟩
theorem Tryz.so128:Go.Proofs.SlLaysF0.n6 Tryz.prog Tryz.so128_ren:={
 mixed:=by kernel_rfl
 f6:=⟨Tryz.f128.name,by decide,Tryz.func128.trans (congrArg some (by kernel_rfl))⟩
 f14:=⟨Tryz.f166.name,by decide,Tryz.func166.trans (congrArg some (by kernel_rfl))⟩
 f15:=Tryz.func167.trans (congrArg some (by kernel_rfl))
 f20:=⟨Tryz.f195.name,by decide,Tryz.func195.trans (congrArg some (by kernel_rfl))⟩
 f21:=⟨Tryz.f196.name,by decide,Tryz.func196.trans (congrArg some (by kernel_rfl))⟩
 f22:=⟨Tryz.f197.name,by decide,Tryz.func197.trans (congrArg some (by kernel_rfl))⟩
 f23:=⟨Tryz.f198.name,by decide,Tryz.func198.trans (congrArg some (by kernel_rfl))⟩
 f24:=⟨Tryz.f199.name,by decide,Tryz.func199.trans (congrArg some (by kernel_rfl))⟩
 f25:=⟨Tryz.f200.name,by decide,Tryz.func200.trans (congrArg some (by kernel_rfl))⟩
 f26:=⟨Tryz.f201.name,by decide,Tryz.func201.trans (congrArg some (by kernel_rfl))⟩
 f27:=⟨Tryz.f202.name,by decide,Tryz.func202.trans (congrArg some (by kernel_rfl))⟩
 f28:=Tryz.func203.trans (congrArg some (by kernel_rfl))
 f29:=Tryz.func204.trans (congrArg some (by kernel_rfl))
 f46:=⟨Tryz.f232.name,by decide,Tryz.func232.trans (congrArg some (by kernel_rfl))⟩
 f47:=Tryz.func233.trans (congrArg some (by kernel_rfl))
 f48:=Tryz.func234.trans (congrArg some (by kernel_rfl))
 f49:=⟨Tryz.f235.name,by decide,Tryz.func235.trans (congrArg some (by kernel_rfl))⟩
 f50:=⟨Tryz.f236.name,by decide,Tryz.func236.trans (congrArg some (by kernel_rfl))⟩
 f57:=⟨Tryz.f248.name,by decide,Tryz.func248.trans (congrArg some (by kernel_rfl))⟩
 t0:=Tryz.underlying0
 a0:=Tryz.isAgg0
 z0:=Tryz.sizeOf0
 v0:=Tryz.zeroValue0
 t3:=Tryz.underlying3
 a3:=Tryz.isAgg3
 z3:=Tryz.sizeOf3
 v3:=Tryz.zeroValue3
 t4:=Tryz.underlying4
 a4:=Tryz.isAgg4
 z4:=Tryz.sizeOf4
 v4:=Tryz.zeroValue4
 t5:=Tryz.underlying5
 a5:=Tryz.isAgg5
 z5:=Tryz.sizeOf5
 v5:=Tryz.zeroValue5
 t9:=Tryz.underlying9
 a9:=Tryz.isAgg9
 z9:=Tryz.sizeOf9
 v9:=Tryz.zeroValue9
 t22:=Tryz.underlying65
 a22:=Tryz.isAgg65
 z22:=Tryz.sizeOf65
 v22:=Tryz.zeroValue65
 t25:=Tryz.underlying185
 a25:=Tryz.isAgg185
 z25:=Tryz.sizeOf185
 v25:=Tryz.zeroValue185
 t39:=Tryz.underlying190
 a39:=Tryz.isAgg190
 z39:=Tryz.sizeOf190
 v39:=Tryz.zeroValue190
 t45:=Tryz.underlying275
 a45:=Tryz.isAgg275
 z45:=Tryz.sizeOf275
 v45:=Tryz.zeroValue275
 t46:=Tryz.underlying276
 a46:=Tryz.isAgg276
 z46:=Tryz.sizeOf276
 v46:=Tryz.zeroValue276
 t50:=Tryz.underlying231
 a50:=Tryz.isAgg231
 z50:=Tryz.sizeOf231
 v50:=Tryz.zeroValue231
 t53:=Tryz.underlying282
 a53:=Tryz.isAgg282
 z53:=Tryz.sizeOf282
 v53:=Tryz.zeroValue282
 t55:=Tryz.underlying284
 a55:=Tryz.isAgg284
 z55:=Tryz.sizeOf284
 v55:=Tryz.zeroValue284
 t66:=Tryz.underlying311
 a66:=Tryz.isAgg311
 z66:=Tryz.sizeOf311
 v66:=Tryz.zeroValue311
 t70:=Tryz.underlying315
 a70:=Tryz.isAgg315
 z70:=Tryz.sizeOf315
 v70:=Tryz.zeroValue315
 t76:=Tryz.underlying323
 a76:=Tryz.isAgg323
 z76:=Tryz.sizeOf323
 v76:=Tryz.zeroValue323
 t77:=Tryz.underlying218
 a77:=Tryz.isAgg218
 z77:=Tryz.sizeOf218
 v77:=Tryz.zeroValue218 }
end Go.Proofs
