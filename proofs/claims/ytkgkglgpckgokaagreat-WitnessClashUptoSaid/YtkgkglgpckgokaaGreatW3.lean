import Derived.Test.YtkgkglgpckgokaaGreatW2
import Derived.ChangeSame
import Derived.Carry
import Derived.OpenShut
import Derived.SizedLaws
import Derived.WalkKit
import Derived.ProofKit
import Derived.Lib.LaidTab
open List (mem_map all_eq_true cons_append length_map append_nil map_map take_of_length_le map_nil all_cons map_take map_drop)
namespace Go.Gb
open Go.RowKit Go.WideShapes Go.ChangeShapes
inductive CS where
 |int (k:IntKind)
 |bool
 |str
 |sl (row:List CS)
 |any
  |mu (row:List CS)
 |back
def ao9:CS->Tree->Prop
 | .int k,x=>∃n,x= .sc (.int k n)/\(Lit.int k n).wf=true
 | .bool,x=>∃b,x= .sc (.bool b)
 | .str,x=>∃s,x= .sc (.string s)/\s.size<=maxLen
 |_,_=>False
def aoF:CS->Nat
 | .int .i64=>8
 | .int _=>1
 | .bool=>1
 | .str=>16
 |_=>24
def N0:CS->Nat
 | .int .i64=>8
 | .int _=>1
 | .bool=>1
 |_=>8
def V2:Nat->List CS->Nat
 |o,[]=>o
 |o,c::cs=>V2 ((o+(N0 c -1))/N0 c*N0 c+aoF c) cs
def L5(r:List CS):Nat:=bif r.any (λ c=>N0 c==8)then(V2 0 r+7)/8*8 else V2 0 r
mutual
inductive GE(row:List CS):Tree->Prop
 |mk (rows:List (List Tree)) (hl:rows.length<=maxLen) (h:pr row rows):GE row (.sl rows)
inductive pr(row:List CS):List (List Tree)->Prop
 |nil:pr row []
 |cons {r:List Tree} {rs:List (List Tree)} (h:js row row r) (t:pr row rs):pr row (r::rs)
inductive js(row:List CS):List CS->List Tree->Prop
 |nil:js row [] []
 |back {cs:List CS} {x:Tree} {xs:List Tree} (h:GE row x) (t:js row cs xs):js row (.back::cs) (x::xs)
 |one {c:CS} {cs:List CS} {x:Tree} {xs:List Tree} (h:ao9 c x) (t:js row cs xs):js row (c::cs) (x::xs)
end
mutual
def Fit:CS->Tree->Prop
 | .int k,x=>∃n,x= .sc (.int k n)/\(Lit.int k n).wf=true
 | .bool,x=>∃b,x= .sc (.bool b)
 | .str,x=>∃s,x= .sc (.string s)/\s.size<=maxLen
 | .sl row,x=>∃rows,x= .sl rows/\(rows.length<=maxLen/\rows.length*L5 row<=reachBytes)/\∀r∈rows,dc row r
 | .any,_=>True
 | .mu row,x=>GE row x
 | .back,_=>False
def dc:List CS->List Tree->Prop
 |[],[]=>True
 |c::cs,x::xs=>Fit c x/\dc cs xs
 |_,_=>False
end
mutual
def nq:Tree->Nat
 | .sc (.string s)=>s.size+1
 | .sc _=>1
 | .sl rows=>AB rows+1
def AB:List (List Tree)->Nat
 |[]=>0
 |r::rs=>jm r+AB rs
def jm:List Tree->Nat
 |[]=>0
 |x::xs=>nq x+jm xs
end
theorem zP:∀a b:List Tree,jm (a++b)=jm a+jm b
 |[],b=>by simp[jm]
 |x::a,b=>by simp only[cons_append,jm,zP a b];omega
structure Bk(H:Type) where
 b:DataW H->Nat
 a:List (DataW H)->Nat
 str:∀l,b (.lit (.string l))=l.length+1
 int:∀k n,b (.lit (.int k n))=1
 bool:∀v,b (.lit (.bool v))=1
 nil:b .nil=1
 sl:∀e s,b (.slice e s)=a e+a s+1
 agg:∀p,b (.agg p)=a p+1
 a0:a []=0
 a1:∀d r,a (d::r)=b d+a r
theorem Bk.app{H:Type}(K:Bk H)(l r:List (DataW H)):K.a (l++r)=K.a l+K.a r:=by
 induction l with
 |nil=>simp[K.a0]
 |cons x l ih=>simp only[cons_append,K.a1,ih];omega
theorem Bk.drop{H:Type}(K:Bk H){l:List (DataW H×List MemPlace)}{j:Nat}{y:DataW H×List MemPlace}(h:l[j]? =some y):K.a ((l.map (·.1)).drop j)=K.b y.1+K.a ((l.map (·.1)).drop (j+1)):=by
 obtain⟨hj,rfl⟩:=dF.1 h;rw[List.drop_eq_getElem_cons (by simpa using hj),K.a1];simp
def xv(P:Program)(go:TypeId->Option (List CS)):Nat->List Field->Option (List CS)
 |_,[]=>some []
 |o,f::fs=>(go f.type).bind λa=>if f.offset=o/\a.length=P.cellsOf f.type then(xv P go (o+a.length) fs).map (a++ ·)else none
def YY(P:Program)(t u:TypeId):Option (List CS):=if u=t then some [.back]else match P.underlying u with
 |some (.int k)=>some [.int k]
 |some .bool=>some [.bool]
 |some .string=>some [.str]
 |_=>none
def NX(P:Program)(t e:TypeId):Option (List CS):=match P.underlying e with
 |some (.struct fs)=>(xv P (YY P t) 0 fs.toList).bind λr=>if r.length=P.cellsOf e/\0<r.length then some r else none
 |_=>none
def yl(P:Program)(cut:List TypeId):Nat->TypeId->Option (List CS)
 | 0,_=>none
 |n+1,t=>match P.underlying t with
  |some (.int k)=>some [.int k]
  |some .bool=>some [.bool]
  |some .string=>some [.str]
  |some (.slice e)=>if cut.contains t then(match NX P t e with |some row=>some [.mu row] |none=>some [.any])else(yl P cut n e).bind λr=>if r.length=P.cellsOf e/\0<r.length/\L5 r<=P.bytesOf e then some [.sl r]else none
  |some (.struct fs)=>(xv P (yl P cut n) 0 fs.toList).bind λr=>if r.length=P.cellsOf t then some r else none
  |some (.array m e)=>(yl P cut n e).bind λr=>if r.length=P.cellsOf e/\m*r.length=P.cellsOf t then some (List.replicate m r).flatten else none
  |_=>none
theorem dc.length:∀(cs:List CS)(ts:List Tree),dc cs ts->ts.length=cs.length
 |[],[],_=>rfl
 |c::cs,x::xs,h=>by simp only[dc]at h;simp[dc.length cs xs h.2]
 |[],_::_,h=>by simp[dc]at h
 |_::_,[],h=>by simp[dc]at h
theorem dc.append:∀(cs:List CS)(ts:List Tree){cs':List CS}{ts':List Tree},dc cs ts->dc cs' ts'->dc (cs++cs') (ts++ts')
 |[],[],_,_,_,h=>h
 |c::cs,x::xs,_,_,h,h'=>by simp only[dc,cons_append]at h ⊢;exact⟨h.1,dc.append cs xs h.2 h'⟩
 |[],_::_,_,_,h,_=>by simp[dc]at h
 |_::_,[],_,_,h,_=>by simp[dc]at h
def Here(w:World)(b:Nat):Prop:=b<w.heap.size
section
variable {w:World} {I:Nat->Prop}
theorem eI.append:∀(ts:List Tree)(cs:List Value){ts':List Tree}{cs':List Value},eI w I ts cs->eI w I ts' cs'->eI w I (ts++ts') (cs++cs')
 |[],[],_,_,_,h=>h
 |_::xs,_::vs,_,_,h,h'=>⟨h.1,eI.append xs vs h.2 h'⟩
 |[],_::_,_,_,h,_=>h.elim
 |_::_,[],_,_,h,_=>h.elim
theorem eI.length:∀(ts:List Tree)(cs:List Value),eI w I ts cs->ts.length=cs.length
 |[],[],_=>rfl
 |_::xs,_::vs,h=>by simp[eI.length xs vs h.2]
 |[],_::_,h=>h.elim
 |_::_,[],h=>h.elim
theorem aaV:∀(ts:List Tree)(cs:List Value)(b aa:Nat),eI w I ts cs->(∀ i,i<cs.length->w.cell? ⟨b,aa+i,none⟩=cs[i]?)->dp w I ts b aa
 |[],[],_,_,_,_=>by simp[dp]
 |x::xs,v::vs,b,aa,h,hc=>by
  simp only[dp];refine⟨⟨v,by simpa using hc 0 (by simp),h.1⟩,aaV xs vs b (aa+1) h.2 λi hi=>?_⟩;have:=hc (i+1) (by simpa using hi);rw[show aa+(i+1)=aa+1+i by omega]at this;simpa using this
 |[],_::_,_,_,h,_=>h.elim
 |_::_,[],_,_,h,_=>h.elim
end
section
variable {H:Type} {enc:TypeId×Value->H} {P:Program} {w:World} {sp:Nat->Bool} {held:Bool}
theorem Ph{a:Addr}{v:Value}(h:w.cell? a=some v):a.spot=none/\a.block<w.heap.size:=by
 simp only[World.cell?]at h;split at h
 ·rename_i c e st hc;split at h
  ·cases h
  ·rename_i hs;exact⟨by simpa using hs,(Array.getElem?_eq_some_iff.1 hc).1⟩
 ·cases h
def PA(P:Program)(t:TypeId)(x:DataW H×List MemPlace):Prop:=∀k∈x.1.weights P t,k<=reachBytes
theorem yA{e:TypeId}:∀{l:List (DataW H)}{d:DataW H},d∈l->∀k∈d.weights P e,k∈DataW.weightsAll P e l
 |a::l,d,h,k,hk=>by
  simp only[DataW.weightsAll,bf];rcases aN.1 h with rfl |h
  ·exact .inl hk
  ·exact .inr (yA h k hk)
theorem bsize(v:ByteArray):v.data.toList.length=v.size:=by rw[Array.length_toList];rfl
theorem Ra(m:Nat)(cs:List Value)(go:TypeId->Option (List CS))(hgo:∀t sh,go t=some sh->∀cs x,DataW.trod enc P w 0 sp held m t cs=some x->PA P t x->∃ts,eI w (Here w) ts cs/\dc sh ts/\∀K:Bk H,jm ts<=K.b x.1):
 ∀(fs:List Field)(l:List (DataW H×List MemPlace))(o:Nat)(sh:List CS),xv P go o fs=some sh->l.length=fs.length->(∀ (i:Nat) (f:Field) (x:DataW H×List MemPlace),fs[i]? =some f->l[i]? =some x->DataW.trod enc P w 0 sp held m f.type ((cs.drop f.offset).take (P.cellsOf f.type))=some x/\PA P f.type x)->
  ∃ts,eI w (Here w) ts ((cs.drop o).take sh.length)/\dc sh ts/\∀K:Bk H,jm ts<=K.a (l.map (·.1))
 |[],l,o,sh,h,_,_=>by
  simp only[xv,aA]at h;subst h;exact⟨[],by simp[eI],by simp[dc],λK=>by simp[jm]⟩
 |f::fs,[],o,sh,h,hl,hf=>by simp at hl
 |f::fs,x::l,o,sh,h,hl,hf=>by
  simp only[xv,ai]at h;obtain⟨a,h1,h2⟩:=h;split at h2
  ·rename_i hc;obtain⟨hc1,hc2⟩:=hc;simp only[dK]at h2;obtain⟨r,h3,rfl⟩:=h2;have⟨hx,hz⟩:=hf 0 f x rfl rfl;obtain⟨ts,g1,g2,k1⟩:=hgo _ _ h1 _ _ hx hz;obtain⟨ts',g3,g4,k2⟩:=Ra m cs go hgo fs l _ _ h3 (by simpa using hl) λi f' x' hf' hx'=>hf (i+1) f' x' hf' hx';refine⟨ts++ts',?_,dc.append _ _ g2 g4,λK=>by have:=k1 K;have:=k2 K;rw[zP,aF,K.a1];omega⟩;rw[dJ,List.take_add,List.drop_drop];rw[hc1,<- hc2]at g1;exact eI.append _ _ g1 g3
  ·cases h2
theorem js.append{row:List CS}:∀{a b:List CS}{x y:List Tree},js row a x->js row b y->js row (a++b) (x++y)
 |_,_,_,_,.nil,h=>h
 |_,_,_,_,.back h t,h'=> .back h (t.append h')
 |_,_,_,_,.one h t,h'=> .one h (t.append h')
theorem Mv{row:List CS}(m:Nat)(cs:List Value)(go:TypeId->Option (List CS))(hgo:∀t sh,go t=some sh->∀cs x,DataW.trod enc P w 0 sp held m t cs=some x->∃ts,eI w (Here w) ts cs/\js row sh ts/\∀K:Bk H,jm ts<=K.b x.1):
 ∀(fs:List Field)(l:List (DataW H×List MemPlace))(o:Nat)(sh:List CS),xv P go o fs=some sh->l.length=fs.length->(∀ (i:Nat) (f:Field) (x:DataW H×List MemPlace),fs[i]? =some f->l[i]? =some x->DataW.trod enc P w 0 sp held m f.type ((cs.drop f.offset).take (P.cellsOf f.type))=some x)->
  ∃ts,eI w (Here w) ts ((cs.drop o).take sh.length)/\js row sh ts/\∀K:Bk H,jm ts<=K.a (l.map (·.1))
 |[],l,o,sh,h,_,_=>by
  simp only[xv,aA]at h;subst h;exact⟨[],by simp[eI],.nil,λK=>by simp[jm]⟩
 |f::fs,[],o,sh,h,hl,hf=>by simp at hl
 |f::fs,x::l,o,sh,h,hl,hf=>by
  simp only[xv,ai]at h;obtain⟨a,h1,h2⟩:=h;split at h2
  ·rename_i hc;obtain⟨hc1,hc2⟩:=hc;simp only[dK]at h2;obtain⟨r,h3,rfl⟩:=h2;have hx:=hf 0 f x rfl rfl;obtain⟨ts,g1,g2,k1⟩:=hgo _ _ h1 _ _ hx;obtain⟨ts',g3,g4,k2⟩:=Mv m cs go hgo fs l _ _ h3 (by simpa using hl) λi f' x' hf' hx'=>hf (i+1) f' x' hf' hx';refine⟨ts++ts',?_,g2.append g4,λK=>by have:=k1 K;have:=k2 K;rw[zP,aF,K.a1];omega⟩;rw[dJ,List.take_add,List.drop_drop];rw[hc1,<- hc2]at g1;exact eI.append _ _ g1 g3
  ·cases h2
theorem amt{t e:TypeId}{row:List CS}(hk:P.underlying t=some (.slice e))(hm:NX P t e=some row):∀(fuel:Nat)(cs:List Value)(x:DataW H×List MemPlace),DataW.trod enc P w 0 sp held fuel t cs=some x->∃tr,eI w (Here w) [tr] cs/\GE row tr/\∀K:Bk H,nq tr<=K.b x.1:=by
 intro fuel
 induction fuel using Nat.strongRecOn with
 |_ fuel ih=>
 intro cs x hx;have one:∀m,m<fuel->∀tx y,DataW.trod enc P w 0 sp held m e tx=some y->∃ts,eI w (Here w) ts tx/\js row row ts/\ts.length=row.length/\∀K:Bk H,jm ts<=K.b y.1:=by
  intro m hmf tx y hy;unfold NX at hm;split at hm
  ·rename_i fs hke;simp only[ai]at hm;obtain⟨r,h1,h2⟩:=hm;split at h2
   ·rename_i hr;injection h2 with h2;subst h2;obtain⟨xs,m',hm',rfl,hl,hxs,hf⟩:=DataW.trod_struct hke hy;obtain⟨ts,g1,g2,k1⟩:=Mv (row:=r) m' tx (YY P t) (λ u sh hsh cs x hx=>by
     unfold YY at hsh;split at hsh
     ·rename_i hu;cases hsh;rw[hu]at hx;obtain⟨tr,a1,a2,a3⟩:=ih m' (by omega) cs x hx;exact⟨[tr],a1,.back a2 .nil,λK=>by have:=a3 K;simp only[jm];omega⟩
     ·split at hsh
      ·rename_i k Bm;cases hsh;obtain⟨v,rfl,rfl,hw⟩:=DataW.trod_int Bm hx;exact⟨[.sc (.int k v)],by simp[eI,TR,oneCell],.one ⟨v,rfl,hw⟩ .nil,λK=>by simp[jm,nq,K.int]⟩
      ·rename_i Bm;cases hsh;obtain⟨v,rfl,rfl⟩:=DataW.trod_bool Bm hx;exact⟨[.sc (.bool v)],by simp[eI,TR,oneCell],.one ⟨v,rfl⟩ .nil,λK=>by simp[jm,nq,K.bool]⟩
      ·rename_i Bm;cases hsh;obtain⟨v,rfl,rfl,hw⟩:=DataW.trod_string Bm hx;exact⟨[.sc (.string v)],by simp[eI,TR,oneCell],.one ⟨v,rfl,hw⟩ .nil,λK=>by simp[jm,nq,K.str,bsize]⟩
      ·cases hsh) fs.toList xs 0 r h1 (by simpa using hxs) (λ i f x hi hxi=>by
     have hi':fs[i]? =some f:=(by simpa using hi);rw[hf i f hi',hxi])
    rw[List.drop_zero,take_of_length_le (by omega)]at g1;refine⟨ts,g1,g2,?_,λK=>by have:=k1 K;rw[K.agg];omega⟩;rw[eI.length _ _ g1];omega
   ·cases h2
  ·cases hm
 have rl:row.length=P.cellsOf e/\0<row.length:=by
  unfold NX at hm;split at hm
  ·simp only[ai]at hm;obtain⟨r,h1,h2⟩:=hm;split at h2
   ·rename_i hr;cases h2;exact hr
   ·cases h2
  ·cases hm
 rcases DataW.trod_slice hk hx with ⟨rfl,rfl⟩ |⟨a,len,cap,elems,ag,m,hfm,rfl,rfl,_,hl,hmx,hlen,hel,_,_⟩
 ·refine⟨.sl [],?_,.mk [] (by simp[maxLen]) .nil,λK=>by simp[nq,AB,K.nil]⟩;simp only[eI,TR];exact⟨.inl ⟨trivial,none,0,rfl,λ_=>rfl⟩,trivial⟩
 ·have each:∀i,i<len->∃tx y,w.cells? 0 (a.add (i*P.cellsOf e)) (P.cellsOf e)=some tx/\DataW.trod enc P w 0 sp held m e tx=some y/\elems[i]? =some y:=by
   intro i hi;have h3:=hel i hi;have h6:elems[i]? =some (elems[i]'(by omega)):=dI (by omega);rw[h6,ai]at h3;obtain⟨tx,h4,h5⟩:=h3;exact⟨tx,_,h4,h5,h6⟩
  by_cases h0:len=0
  ·subst h0;refine⟨.sl [],?_,.mk [] (by simp[maxLen]) .nil,λK=>by simp[nq,AB,K.sl]⟩;simp only[eI,TR];exact⟨.inl ⟨trivial,some a,cap,rfl,λh=>by cases h⟩,trivial⟩
  ·obtain⟨cs0,y0,c0,_,_⟩:=each 0 (by omega);obtain⟨_,c1,c2⟩:=World.cells?_some c0;have c3:=c2 0 (by omega);rw[dI (by omega)]at c3;have c4:=Ph c3;simp only[Nat.zero_mul,Addr.add,if_true]at c4;obtain⟨b,aa,s⟩:=a;simp only at c4;obtain⟨rfl,hb⟩:=c4;have rows:∀q j,j+q=len->∃rows:List (List Tree),rows.length=q/\cp w (Here w) rows b (aa+j*P.cellsOf e) (P.cellsOf e)/\pr row rows/\∀K:Bk H,AB rows<=K.a ((elems.map (·.1)).drop j):=by
    intro q
    induction q with
    |zero=>intro j _;exact⟨[],rfl,by simp[cp],.nil,λK=>by simp[AB]⟩
    |succ q ihq=>
     intro j hj;obtain⟨rows,g1,g2,g3,k3⟩:=ihq (j+1) (by omega);obtain⟨csj,y,g4,g5,gy⟩:=each j (by omega);obtain⟨ts,g6,g7,_,k6⟩:=one m (by omega) _ _ g5;obtain⟨_,g8,g9⟩:=World.cells?_some g4;refine⟨ts::rows,by simp[g1],?_,.cons g7 g3,λK=>by have:=k3 K;have:=k6 K;rw[K.drop gy,AB];omega⟩;simp only[cp];refine⟨(eI.length _ _ g6).trans g8,aaV _ _ _ _ g6 λi hi=>?_,?_⟩
     ·rw[<- g9 i (by omega),addr_add,addr_add]
     ·rw[show aa+j*P.cellsOf e+P.cellsOf e=aa+(j+1)*P.cellsOf e by rw[Nat.add_mul];omega];exact g2
   obtain⟨rows,g1,g2,g3,k3⟩:=rows len 0 (by omega);refine⟨.sl rows,?_,.mk rows (by omega) g3,λK=>by have:=k3 K;rw[List.drop_zero]at this;rw[K.sl,nq];omega⟩;simp only[eI,TR];exact⟨.inr ⟨b,aa,cap,P.cellsOf e,by rw[g1],by omega,hb,by simpa using g2⟩,trivial⟩
theorem Dx{cut:List TypeId}:∀(n:Nat)(t:TypeId)(sh:List CS),yl P cut n t=some sh->∀(fuel:Nat)(cs:List Value)(x:DataW H×List MemPlace),DataW.trod enc P w 0 sp held fuel t cs=some x->PA P t x->
 ∃ts,eI w (Here w) ts cs/\dc sh ts/\∀K:Bk H,jm ts<=K.b x.1
 | 0,_,_,h,_,_,_,_,_=>by simp[yl]at h
 |n+1,t,sh,h,fuel,cs,x,hx,hz=>by
  unfold yl at h;split at h
  ·rename_i k hk;cases h;obtain⟨v,rfl,rfl,hw⟩:=DataW.trod_int hk hx;exact⟨[.sc (.int k v)],by simp[eI,TR,oneCell],by simp only[dc,Fit];exact⟨⟨v,rfl,hw⟩,trivial⟩,λK=>by simp[jm,nq,K.int]⟩
  ·rename_i hk;cases h;obtain⟨v,rfl,rfl⟩:=DataW.trod_bool hk hx;exact⟨[.sc (.bool v)],by simp[eI,TR,oneCell],by simp only[dc,Fit];exact⟨⟨v,rfl⟩,trivial⟩,λK=>by simp[jm,nq,K.bool]⟩
  ·rename_i hk;cases h;obtain⟨v,rfl,rfl,hw⟩:=DataW.trod_string hk hx;exact⟨[.sc (.string v)],by simp[eI,TR,oneCell],by simp only[dc,Fit];exact⟨⟨v,rfl,hw⟩,trivial⟩,λK=>by simp[jm,nq,K.str,bsize]⟩
  ·rename_i e hk;split at h
   ·split at h
    ·rename_i row hmr;cases h;have⟨tr,g1,g2,k1⟩:=amt hk hmr fuel cs x hx;exact⟨[tr],g1,by simp only[dc,Fit];exact⟨g2,trivial⟩,λK=>by have:=k1 K;simp only[jm];omega⟩
    cases h;rcases DataW.trod_slice hk hx with ⟨rfl,rfl⟩ |⟨a,len,cap,elems,ag,m,_,rfl,rfl,_,hl,hm,hlen,hel,_,_⟩
    ·exact⟨[.sc (.slice none 0 0)],by simp[eI,TR,oneCell],by simp[dc,Fit],λK=>by simp[jm,nq,K.nil]⟩
    ·exact⟨[.sc (.slice (some a) len cap)],by simp[eI,TR,oneCell],by simp[dc,Fit],λK=>by simp[jm,nq,K.sl]⟩
   simp only[ai]at h;obtain⟨r,h1,h2⟩:=h;split at h2
   ·rename_i hr;cases h2;rcases DataW.trod_slice hk hx with ⟨rfl,rfl⟩ |⟨a,len,cap,elems,ag,m,_,rfl,rfl,_,hl,hm,hlen,hel,_,_⟩
    ·refine⟨[.sl []],?_,by simp only[dc,Fit];exact⟨⟨[],rfl,by simp[maxLen],by simp⟩,trivial⟩,λK=>by simp[jm,nq,AB,K.nil]⟩;simp only[eI,TR];exact⟨.inl ⟨trivial,none,0,rfl,λ_=>rfl⟩,trivial⟩
    ·have hzw:∀k,k=(elems.length+ag.length)*P.bytesOf e\/k∈DataW.weightsAll P e (elems.map (·.1))->k<=reachBytes:=by
      intro k hkk;refine hz k ?_;simp only[DataW.weights,hk,aN,bf,length_map];rcases hkk with h |h
      ·exact .inl h
      ·exact .inr (.inl h)
     have each:∀i,i<len->∃tx y,w.cells? 0 (a.add (i*P.cellsOf e)) (P.cellsOf e)=some tx/\DataW.trod enc P w 0 sp held m e tx=some y/\PA P e y/\elems[i]? =some y:=by
      intro i hi;have h3:=hel i hi;have h6:elems[i]? =some (elems[i]'(by omega)):=dI (by omega);rw[h6,ai]at h3;obtain⟨tx,h4,h5⟩:=h3;exact⟨tx,_,h4,h5,λk hk=>hzw k (.inr (yA (mem_map.2 ⟨_,List.getElem_mem (by omega),rfl⟩) k hk)),h6⟩
     have hbytes:len*L5 r<=reachBytes:=by
      have h1:=hzw _ (.inl rfl);have h2:len*L5 r<=(elems.length+ag.length)*P.bytesOf e:=Nat.mul_le_mul (by omega) hr.2.2;omega
     by_cases h0:len=0
     ·subst h0;refine⟨[.sl []],?_,by simp only[dc,Fit];exact⟨⟨[],rfl,by simp[maxLen],by simp⟩,trivial⟩,λK=>by simp[jm,nq,AB,K.sl]⟩;simp only[eI,TR];exact⟨.inl ⟨trivial,some a,cap,rfl,λh=>by cases h⟩,trivial⟩
     ·obtain⟨cs0,y0,c0,_,_,_⟩:=each 0 (by omega);obtain⟨_,c1,c2⟩:=World.cells?_some c0;have c3:=c2 0 (by omega);rw[dI (by omega)]at c3;have c4:=Ph c3;simp only[Nat.zero_mul,Addr.add,if_true]at c4;obtain⟨b,aa,s⟩:=a;simp only at c4;obtain⟨rfl,hb⟩:=c4;have rows:∀m j,j+m=len->∃rows:List (List Tree),rows.length=m/\cp w (Here w) rows b (aa+j*P.cellsOf e) (P.cellsOf e)/\(∀ x∈rows,dc r x)/\∀K:Bk H,AB rows<=K.a ((elems.map (·.1)).drop j):=by
       intro m
       induction m with
       |zero=>intro j _;exact⟨[],rfl,by simp[cp],by simp,λK=>by simp[AB]⟩
       |succ m ih=>
        intro j hj;obtain⟨rows,g1,g2,g3,k3⟩:=ih (j+1) (by omega);obtain⟨csj,y,g4,g5,g5z,gy⟩:=each j (by omega);obtain⟨ts,g6,g7,k6⟩:=Dx n e r h1 _ _ _ g5 g5z;obtain⟨_,g8,g9⟩:=World.cells?_some g4;refine⟨ts::rows,by simp[g1],?_,λx hx=>?_,λK=>by have:=k3 K;have:=k6 K;rw[K.drop gy,AB];omega⟩
        ·simp only[cp];refine⟨(eI.length _ _ g6).trans g8,aaV _ _ _ _ g6 λi hi=>?_,?_⟩
         ·rw[<- g9 i (by omega),addr_add,addr_add]
         ·rw[show aa+j*P.cellsOf e+P.cellsOf e=aa+(j+1)*P.cellsOf e by rw[Nat.add_mul];omega];exact g2
        ·rcases aN.1 hx with rfl |hx
         ·exact g7
         ·exact g3 x hx
      obtain⟨rows,g1,g2,g3,k3⟩:=rows len 0 (by omega);refine⟨[.sl rows],?_,by simp only[dc,Fit];exact⟨⟨rows,rfl,⟨by omega,by rw[g1];exact hbytes⟩,g3⟩,trivial⟩,λK=>by have:=k3 K;rw[List.drop_zero]at this;rw[K.sl];simp only[jm,nq];omega⟩;simp only[eI,TR];exact⟨.inr ⟨b,aa,cap,P.cellsOf e,by rw[g1],by omega,hb,by simpa using g2⟩,trivial⟩
   ·cases h2
  ·rename_i fs hk;simp only[ai]at h;obtain⟨r,h1,h2⟩:=h;split at h2
   ·rename_i hr;injection h2 with h2;subst h2;obtain⟨xs,m,_,rfl,hl,hxs,hf⟩:=DataW.trod_struct hk hx;obtain⟨ts,g1,g2,k1⟩:=Ra m cs (yl P cut n) (λ t sh hsh cs x hx hz=>Dx n t sh hsh m cs x hx hz) fs.toList xs 0 r h1 (by simpa using hxs) (λ i f x hi hxi=>by
     have hi':fs[i]? =some f:=(by simpa using hi);have:=hf i f hi';rw[hxi]at this;refine⟨this,λk hk'=>hz k ?_⟩;simp only[DataW.weights,hk];exact DataW.weights_mem_each (j:=i) (t:=f.type) (d:=x.1) (by simp[hi']) (by simp[hxi]) k hk')
    refine⟨ts,?_,g2,λK=>by have:=k1 K;rw[K.agg];omega⟩;rw[List.drop_zero,take_of_length_le (by omega)]at g1;exact g1
   ·cases h2
  ·rename_i m e hk;simp only[ai]at h;obtain⟨r,h1,h2⟩:=h;split at h2
   ·rename_i hr;cases h2;obtain⟨xs,q,_,rfl,hl,hxs,hf⟩:=DataW.trod_array hk hx;have part:∀i j,j+i=m->∃ts,eI w (Here w) ts (cs.drop (j*P.cellsOf e))/\dc (List.replicate i r).flatten ts/\∀K:Bk H,jm ts<=K.a ((xs.map (·.1)).drop j):=by
     intro i
     induction i with
     |zero=>
      intro j hj;refine⟨[],?_,by simp[dc],λK=>by simp[jm]⟩;have:j=m:=(by omega);subst this;rw[List.drop_of_length_le (by rw[hl,<- hr.2,<- hr.1];omega)];simp[eI]
     |succ i ih=>
      intro j hj;obtain⟨ts,g1,g2,k1⟩:=ih (j+1) (by omega);have:=hf j (by omega);have hxj:xs[j]? =some (xs[j]'(by omega)):=dI (by omega);rw[hxj]at this;obtain⟨ts0,g3,g4,k3⟩:=Dx n e r h1 _ _ _ this (λ k hk'=>hz k (by
       simp only[DataW.weights,hk];exact yA (mem_map.2 ⟨_,List.getElem_mem (by omega),rfl⟩) k hk'))
      refine⟨ts0++ts,?_,?_,λK=>by have:=k1 K;have:=k3 K;rw[K.drop hxj,zP];omega⟩
      ·have:=eI.append _ _ g3 g1;rw[show (j+1)*P.cellsOf e=j*P.cellsOf e+P.cellsOf e by rw[Nat.add_mul];omega,<- List.drop_drop,List.take_append_drop]at this;exact this
      ·rw[List.replicate_succ,List.flatten_cons];exact dc.append _ _ g4 g2
    obtain⟨ts,g1,g2,k1⟩:=part m 0 (by omega);exact⟨ts,by simpa using g1,g2,λK=>by have:=k1 K;rw[List.drop_zero]at this;rw[K.agg];omega⟩
   ·cases h2
  ·cases h
inductive VS where
 |one (c:CS)
 |agg (cs:List CS)
def IS(P:Program)(cut:List TypeId)(t:TypeId):Option VS:=
 (yl P cut 12 t).bind λsh=>match P.underlying t with
  |some (.struct _) |some (.array _ _)=>some (.agg sh)
  |_=>match sh with
   |[c]=>some (.one c)
   |_=>none
def E7:VS->TV->Prop
 | .one c,x=>∃y,x= .s y/\Fit c y
 | .agg cs,x=>∃ys,x= .a ys/\dc cs ys
def Vi:List VS->List TV->Prop
 |[],[]=>True
 |s::ss,x::xs=>E7 s x/\Vi ss xs
 |_,_=>False
def Lq:TV->Nat
 | .s y=>nq y
 | .a ys=>jm ys
def xt:List TV->Nat
 |[]=>0
 |x::xs=>Lq x+xt xs
theorem akj{cut:List TypeId}{t:TypeId}{s:VS}{v:Value}{d:DataW H}{ps:List MemPlace}{b0:Nat}(hs:IS P cut t=some s)(hval:Value.okWide P w .any b0 t v)(hd:DataW.Trod enc P w 0 sp held t v d ps)(hz:∀k∈d.weights P t,k<=reachBytes):
 ∃x,rk w (Here w) x v/\E7 s x/\∀K:Bk H,Lq x<=K.b d:=by
 obtain⟨fuel,hf⟩:=hd;simp only[IS,ai]at hs;obtain⟨sh,h1,h2⟩:=hs;obtain⟨ts,g1,g2,k1⟩:=Dx 12 t sh h1 _ _ _ hf hz;have hag:∀cs:Array Value,v= .agg cs->s= .agg sh->∃x,rk w (Here w) x v/\E7 s x/\∀K:Bk H,Lq x<=K.b d:=by
  rintro cs rfl rfl;exact⟨.a ts,⟨cs,rfl,by simpa[Value.cells]using g1⟩,⟨ts,rfl,g2⟩,k1⟩
 unfold Value.okWide at hval;split at h2
 ·rename_i hu;injection h2 with h2;rw[hu]at hval;obtain⟨cs,rfl,_⟩:=hval;exact hag cs rfl h2.symm
 ·rename_i hu;injection h2 with h2;rw[hu]at hval;obtain⟨cs,rfl,_⟩:=hval;exact hag cs rfl h2.symm
 ·rename_i hu1 hu2;split at h2
  ·rename_i c;cases h2;have hone:v.cells.toList=[v]:=by
    cases hu:P.underlying t with
    |none=>rw[hu]at hval;simp[Cell.okWide,Cell.ok,hu]at hval
    |some d=>
     rw[hu]at hval;cases v<;>first |rfl |(exfalso;revert hval;cases d<;>simp_all [Cell.okWide,Cell.ok])
   rw[hone]at g1
   match ts,g1,g2,k1 with
   |[y],g1,g2,k1=>
    simp only[dc]at g2;exact⟨.s y,g1.1,⟨y,rfl,g2.1⟩,λK=>by have:=k1 K;simpa[jm,Lq]using this⟩
   |[],g1,_,_=>exact g1.elim
   |_::_::_,g1,_,_=>exact g1.2.elim
  ·cases h2
theorem Zv{cut:List TypeId}:∀{ts:List TypeId}{ss:List VS}{vs:List Value}{ds:List (DataW H)}{ps:List MemPlace}{b0:Nat},ts.mapM (IS P cut)=some ss->
 (∀ (j:Nat) t v,ts[j]? =some t->vs[j]? =some v->Value.okWide P w .any b0 t v)->DataW.TrodAll enc P w 0 sp held ts vs ds ps->(∀ k∈DataW.weightsEach P ts ds,k<=reachBytes)->∃xs,mL w (Here w) xs vs/\Vi ss xs/\∀K:Bk H,xt xs<=K.a ds
 |[],ss,vs,ds,ps,b0,hs,_,hd,_=>by
  obtain⟨rfl,rfl,rfl⟩:=trodAll_nil hd;simp only[List.mapM_nil,Option.pure_def,aA]at hs;subst hs;exact⟨[],trivial,trivial,λK=>by simp[xt]⟩
 |t::ts,ss,vs,ds,ps,b0,hs,hval,hd,hz=>by
  obtain⟨v,vs',d,ds',p,q,rfl,rfl,rfl,h0,r0⟩:=trodAll_cons hd;simp only[List.mapM_cons,Option.bind_eq_bind,ai,Option.pure_def,aA]at hs;obtain⟨s,h1,ss',h2,rfl⟩:=hs;obtain⟨x,g1,g2,k1⟩:=akj h1 (hval 0 t v rfl rfl) h0 (λ k hk=>hz k (by simp only[DataW.weightsEach,bf];exact .inl hk));obtain⟨xs,g3,g4,k2⟩:=Zv h2 (λ j t v h h'=>hval (j+1) t v h h') r0 (λ k hk=>hz k (by simp only[DataW.weightsEach,bf];exact .inr hk));exact⟨x::xs,⟨g1,g3⟩,⟨g2,g4⟩,λK=>by have:=k1 K;have:=k2 K;rw[xt,K.a1];omega⟩
theorem Rb{β:Nat->Option cL}{I:Nat->Prop}:∀(xs:List TV)(vs:List Value),mL w I xs vs->aE P β w I (xs.map TV.av) vs
 |[],[],_=>by simp[aE]
 |x::xs,v::vs,h=>by
  simp only[aF,aE];refine⟨?_,Rb xs vs h.2⟩;have h1:=h.1;cases x with
  |s y=>simp only[TV.av,VR];exact h1
  |a cs=>
   obtain⟨us,rfl,h2⟩:=h1;simp only[TV.av,VR];refine⟨us,rfl,?_⟩;have:∀(cs:List Tree) (us:List Value),eI w I cs us->aE P β w I (cs.map AV.t) us:=by
    intro cs
    induction cs with
    |nil=>intro us h;cases us<;>first |(simp [aE];done) |exact h.elim
    |cons c cs ih=>intro us h;cases us with
     |nil=>exact h.elim
     |cons u us=>simp only[aF,aE,VR];exact⟨h.1,ih us h.2⟩
   exact this cs us.toList h2
 |[],_::_,h=>h.elim
 |_::_,[],h=>h.elim
end
section
variable {H:Type} {enc:TypeId×Value->H} {P:Program}
theorem aft{f:Func}{s:ChangeSpec}{apart fresh handsOn again:Bool}{W W':World}{args:Array Value}{v:Value}{ds gs:List (DataW H)}{before pa pv:List MemPlace}
 (hW:DataW.Whole enc P f.params.toList s.vars apart W args.toList ds gs before)
 (hres:∀(b:Nat)(sp:Nat->Bool)(hd:Bool),DataW.TrodAll enc P W' b sp hd f.resultTypes.toList (v.resultList f.resultTypes.size) (s.fn H (ds++gs)).results [])
 (hargs:∀sp:Nat->Bool,(∀ p∈before,sp p.block=true)->DataW.TrodAll enc P W' 0 sp true f.params.toList args.toList (s.fn H (ds++gs)).args pa)
 (hvars:∀sp:Nat->Bool,(∀ p∈before,sp p.block=true)->DataW.TrodVars enc P W' sp s.vars (s.fn H (ds++gs)).vars pv)
 (hps:before=pa++pv) (hb:Below W.heap.size W W')
 (hok:∀(j:Nat)(t:TypeId)(r:Value),f.resultTypes[j]? =some t->(v.resultList f.resultTypes.size)[j]? =some r->Value.okWide P W' .any 0 t r):
 s.post enc P f apart fresh handsOn again W args v W':=by
 have hlt:∀p∈before,p.block<W.heap.size:=λp hp=>hW.lt p hp;have hold:∀p∈before,(λ b=>decide (b<W.heap.size)) p.block=true:=λp hp=>by simpa using hlt p hp
 refine⟨ds,gs,before,[],pa,pv,hW,hres _ _ _,hargs _ hold,hvars _ hold,World.keptBut_mono (λ p hp=>⟨hp,?_⟩) (hb.frame (· ∈before)),λ_=>?_⟩
 ·rw[hps,bf]at hp;exact Or.inr hp
 ·obtain⟨_,_,_,_,_,hz,hn⟩:=hW;refine⟨hok,_,_,([]++pa)++pv,⟨[]++pa,pv,trodAll_append (hargs _ (λ _ _=>rfl)) (hres _ _ _),hvars _ (λ _ _=>rfl),rfl,?_,?_⟩,?_⟩
  ·intro b aa hp;have hin:MemPlace.cell b aa∈before:=(by rw[hps];simpa using hp);rw[hb.frozen (hlt _ hin)];exact hz b aa hin
  ·intro ha;have:=hn ha;rw[hps]at this;simpa using this
  ·intro p hp _;rw[hps];simpa using hp
theorem Kl(hl:laidOutB P=true){W W':World}(hb:Below W.heap.size W W'):∀{ts:List TypeId}{vs:List Value}{ds:List (DataW H)}{ps:List MemPlace},(∀ t∈ts,P.readableRec t=true/\t<P.types.size)->
 DataW.TrodAll enc P W 0 (λ _=>true) true ts vs ds ps->(∀ x∈ps,x.block<W.heap.size)->∀sp:Nat->Bool,(∀ p∈ps,sp p.block=true)->DataW.TrodAll enc P W' 0 sp true ts vs ds ps
 |[],vs,ds,ps,_,hd,_,sp,_=>by
  obtain⟨rfl,rfl,rfl⟩:=trodAll_nil hd;exact trodAll_mk0
 |t::ts,vs,ds,ps,ht,hd,hlt,sp,hsp=>by
  obtain⟨v,vs',d,ds',p,q,rfl,rfl,rfl,h0,r0⟩:=trodAll_cons hd;obtain⟨h1,h2⟩:=ht t (by simp)
  exact trodAll_cons_mk (WideElems.Trod_stays hl h1 h2 h0 (λ x hx=>hb.same (hlt x (by simp[hx]))) (λ x hx=>hsp x (by simp[hx])))
   (Kl hl hb (λ t ht'=>ht t (by simp[ht'])) r0 (λ x hx=>hlt x (by simp[hx])) sp (λ x hx=>hsp x (by simp[hx])))
theorem Rc{w:World}{base:Nat}{sp:Nat->Bool}{held:Bool}:∀{ts:List TypeId}{vs:List Value}{ds:List (DataW H)}{ps:List MemPlace},DataW.TrodAll enc P w base sp held ts vs ds ps->ds.length=ts.length
 |[],_,_,_,h=>by
  obtain⟨_,rfl,_⟩:=trodAll_nil h;rfl
 |_::_,_,_,_,h=>by
  obtain⟨_,_,_,_,_,_,_,rfl,_,_,h2⟩:=trodAll_cons h;simp[Rc h2]
theorem acS:∀{ts:List TypeId}{ds:List (DataW H)}{vt:List TypeId}{gs:List (DataW H)},ds.length=ts.length->∀k∈DataW.weightsEach P ts ds,k∈DataW.weightsEach P (ts++vt) (ds++gs)
 |[],[],_,_,_,k,h=>by simp[DataW.weightsEach]at h
 |t::ts,d::ds,vt,gs,hl,k,h=>by
  simp only[DataW.weightsEach,bf,cons_append]at h ⊢;rcases h with h |h
  ·exact .inl h
  ·exact .inr (acS (by simpa using hl) k h)
 |[],_::_,_,_,h,_,_=>by simp at h
 |_::_,[],_,_,h,_,_=>by simp at h
theorem aaX{cut:List TypeId}{C:Checked}{f:FuncId}{fn:Func}{s:ChangeSpec}{ss:List VS}{tb:TypeId}(hl:laidOutB C.prog=true)(hread:(fn.params.toList.all λt=>C.prog.readableRec t&&decide (t<C.prog.types.size))=true)
 (hss:fn.params.toList.mapM (IS C.prog cut)=some ss) (hvars:s.vars=[]) (hres:fn.resultTypes=#[tb]) (hb:C.prog.underlying tb=some .bool)
 (hs:∀ds:List (DataW H),ds.length=fn.params.toList.length->s.fn H ds={ results:=[.lit (.bool true)],args:=ds })
 {B:Nat->Prop} (Sp:∀xs,Vi ss xs->(∀ n,B n->xt xs<=n)->ra C.prog f (xs.map TV.av) (.one (.d (.s (.sc (.bool true))))))
 {W:World} {base:Nat} {args:Array Value} {ds gs:List (DataW H)} {before:List MemPlace}
 (hval:∀(j:Nat) t v,fn.params[j]? =some t->args[j]? =some v->Value.okWide C.prog W .any base t v)
 (hW:DataW.Whole enc C.prog fn.params.toList s.vars false W args.toList ds gs before)
 {vt:List TypeId} (hz:(DataW.weightsEach C.prog (fn.params.toList++vt) (ds++gs)).all (· <=reachBytes)=true) (hv:i7 W (Here W)) (hB:∀n,B n->∃K:Bk H,K.a ds<=n):
 Calls C.prog f args W λe W'=>∃v,e= .returned v/\s.post enc C.prog fn false true false false W args v W':=by
 have hW':=hW;obtain⟨p,q,hA,hV,rfl,_,_⟩:=hW;rw[hvars]at hV;obtain⟨rfl,rfl⟩:=trodVars_none hV;have hlen:=Rc hA;obtain⟨xs,g1,g2,g3⟩:=Zv hss (λ j t v h1 h2=>hval j t v (by simpa using h1) (by simpa using h2)) hA (λ k hk=>by
  have:=all_eq_true.1 hz k (acS hlen k hk);simpa using this)
 simp only[append_nil]at hW';have hlt:∀x∈p,x.block<W.heap.size:=λx hx=>hW'.lt x hx;refine((Sp xs g2 (λ n hn=>by have⟨K,hK⟩:=hB n hn;exact Nat.le_trans (g3 K) hK)).2 W (Here W) args (λ _ h=>h) hv (Rb _ _ g1)).mono λe W' ⟨v,I',he,hbel,_,_,_,hr⟩=>⟨v,he,?_⟩;simp only[rm,yd,rk,TR]at hr;obtain⟨rfl,_⟩:=hr;have hfn:s.fn H (ds++[])={ results:=[.lit (.bool true)],args:=ds }:=by rw[append_nil];exact hs ds hlen
 refine aft (pa:=p) (pv:=[]) hW' (λ b sp hd=>?_) (λ sp hsp=>?_) (λ sp _=>?_) (by simp) hbel (ok_one (by rw[hres]) rfl (okWide_bool_mk hb _))
 ·rw[hfn,hres];exact trodAll_mk1 (shut_bool hb _)
 ·rw[hfn];refine Kl hl hbel (λ t ht=>?_) hA hlt sp hsp;have:=all_eq_true.1 hread t ht;simpa using this
 ·rw[hfn,hvars];rfl
end
def V1:AD->TypeDesc->Bool
 | .slice e,.slice e'=>e==e'
 | .arr n e,.array n' e'=>n==n'&&e==e'
 | .struct fs,.struct fa=>fa.toList.map (λ f=>(f.offset,f.type))==fs
 | .bool,.bool=>true
 | .str,.string=>true
 | .int k,.int k'=>k==k'
 | .map k e,.map k' e'=>k==k'&&e==e'
 | .other,_=>true
 |_,_=>false
def W7:Value->Value->Bool
 | .int k a,.int k' b=>k==k'&&a==b
 | .bool a,.bool b=>a==b
 | .string a,.string b=>decide (a=b)
 | .slice none 0 0,.slice none 0 0=>true
 | .pointer none,.pointer none=>true
 | .nilFunc,.nilFunc=>true
 | .nilIface,.nilIface=>true
 | .map none,.map none=>true
 |_,_=>false
theorem acT{a b:Value}(h:W7 a b=true):a=b:=by
 unfold W7 at h;split at h<;>simp_all
def Pj:List Value->List Value->Bool
 |[],[]=>true
 |a::as,b::bs=>W7 a b&&Pj as bs
 |_,_=>false
theorem Mw:∀{a b:List Value},Pj a b=true->a=b
 |[],[],_=>rfl
 |a::as,b::bs,h=>by simp only[Pj,aL]at h;rw[acT h.1,Mw h.2]
 |[],_::_,h=>by simp[Pj]at h
 |_::_,[],h=>by simp[Pj]at h
def W6(P:Program)(t:TypeId)(ti:nf):Bool:=
 match P.info? t,P.underlying t with
 |some info,some d=>match info.zero with
  |some z=>info.size==ti.size&&info.bytes==ti.bytes&&s8 d==ti.agg&&V1 ti.k d&&ti.zero.all kh&&ti.zero.length==ti.size&&
   (ti.cmp.isEmpty || match d with
    | .struct fa=>!P.stoodInHeld t&&!P.eqGuardType P.depth t&&ga P 0 fa.toList ti.cmp
    | .array _ _=>ti.cmp==[9]&&!P.eqGuardType P.depth t
    |_=>false)&&Pj z.cells.toList ti.zero&&te ti.agg z
  |none=>false
 |_,_=>false
theorem afu{k:AD}{d:TypeDesc}(h:V1 k d=true):QQ k d:=by
 unfold V1 at h;split at h
 ·simp only[beq_iff_eq]at h;subst h;rfl
 ·simp only[aL,beq_iff_eq]at h;obtain⟨rfl,rfl⟩:=h;rfl
 ·rename_i fs fa;exact⟨fa,rfl,by simpa using h⟩
 ·rfl
 ·rfl
 ·simp only[beq_iff_eq]at h;subst h;rfl
 ·simp only[aL,beq_iff_eq]at h;obtain⟨rfl,rfl⟩:=h;rfl
 ·trivial
 ·cases h
theorem acU{P:Program}{t:TypeId}{ti:nf}(h:W6 P t ti=true):lE P t ti:=by
 unfold W6 at h;split at h
 ·rename_i info d h1 h2;split at h
  ·rename_i z h3;simp only[aL,beq_iff_eq]at h;obtain⟨⟨⟨⟨⟨⟨⟨⟨a1,a2⟩,a3⟩,a4⟩,a5⟩,a6⟩,a7⟩,a8⟩,a9⟩:=h;refine⟨⟨info,d,z,h1,h2,a1,a2,h3,Mw a8,a3,afu a4⟩,a5,a6,λinfo' z' e1 e2=>by rw[h1]at e1;cases e1;rw[h3]at e2;cases e2;exact a9,λhne=>?_⟩;simp only[Bool.or_eq_true]at a7;rcases a7 with a7 |a7
   ·exact absurd (List.isEmpty_iff.1 a7) hne
   ·split at a7
    ·rename_i fa;simp only[aL,Bool.not_eq_true']at a7;exact .inl ⟨fa,h2,a7.1.1,a7.1.2,a7.2⟩
    ·simp only[aL,Bool.not_eq_true',beq_iff_eq]at a7;exact .inr a7
    ·cases a7
  ·cases h
 ·cases h
def Rf(l:List (TypeId×nf)):ea:=λt=>(l.find? λp=>p.1==t).map (·.2)
theorem akm{P:Program}{l:List (TypeId×nf)}(h:(l.all λp=>W6 P p.1 p.2)=true):eY P (Rf l):=by
 intro t ti ht;simp only[Rf,dK]at ht;obtain⟨p,hp,rfl⟩:=ht;have h1:=List.find?_some hp;simp only[beq_iff_eq]at h1;subst h1;exact acU (all_eq_true.1 h p (List.mem_of_find?_eq_some hp))
open Go.RowKit
inductive CT(ι:Type) where
 |int (k:IntKind)
 |bool
 |str
 |sl (e:CT ι)
 |st (i:ι)
 |any
 |mp (k v:CT ι)
 deriving DecidableEq
structure SE where
 ι:Type
 dec:DecidableEq ι
 T:ι->Type
 row:(i:ι)->T i->List Tree
instance (E:SE):DecidableEq E.ι:=E.dec
section
variable (E:SE)
@[reducible] def CT.T:CT E.ι->Type
 | .int _=>Int
 | .bool=>Bool
 | .str=>ByteArray
 | .sl e=>List (CT.T e)
 | .st i=>E.T i
 | .any=>Tree
 | .mp k v=>List (CT.T k×CT.T v)
def CT.row:(c:CT E.ι)->CT.T E c->List Tree
 | .int k,n=>[.sc (.int k n)]
 | .bool,b=>[.sc (.bool b)]
 | .str,s=>[.sc (.string s)]
 | .sl e,l=>[.sl (List.map (CT.row e) l)]
 | .st i,x=>E.row i x
 | .any,x=>[x]
 | .mp _ _,_=>[.sl []]
def CT.one{ι:Type}:CT ι->Bool
 | .st _=>false
 |_=>true
def CT.tv:(c:CT E.ι)->CT.T E c->TV
 | .int k,n=> .s (.sc (.int k n))
 | .bool,b=> .s (.sc (.bool b))
 | .str,s=> .s (.sc (.string s))
 | .sl e,l=> .s (.sl (List.map (CT.row E e) l))
 | .st i,x=> .a (E.row i x)
 | .any,x=> .s x
 | .mp _ _,_=> .s (.sl [])
def HL:List (CT E.ι)->Type
 |[]=>Unit
 |c::l=>CT.T E c×HL l
def HL.row:(l:List (CT E.ι))->HL E l->List Tree
 |[],_=>[]
 |c::l,h=>CT.row E c h.1++HL.row l h.2
def HL.np:(l:List (CT E.ι))->HL E l->List TV
 |[],_=>[]
 |c::l,h=>CT.tv E c h.1::HL.np l h.2
end
structure Arr(E:SE) where
 i:E.ι
 c:CT E.ι
 f:E.T i->List (CT.T E c)
 g:List (CT.T E c)->Option (E.T i)
structure SX extends SE where
 cQ:ι->List (CT ι)
 get:(i:ι)->T i->HL toSE (cQ i)
 make:(i:ι)->HL toSE (cQ i)->T i
 l4:∀i x,row i x=HL.row toSE (cQ i) (get i x)
 gd:∀i h,row i (make i h)=HL.row toSE (cQ i) h
 flat:∀i,(cQ i).all CT.one=true
 gv:Nat->Option ((c:CT ι)×CT.T toSE c)
 yy:∀g,(gv g).map (λ p=>CT.row toSE p.1 p.2)=(vp g).map λr=>r.map Tree.sc
 ar:TypeId->Option (Arr toSE):=λ_=>none
 apk:∀t a,ar t=some a->a.c.one=true/\(∀ x,row a.i x=((a.f x).map (CT.row toSE a.c)).flatten)/\∀l x,a.g l=some x->a.f x=l:=by intro t a h;cases h
section
variable (X:SX)
abbrev SX.C:=CT X.ι
abbrev SX.t(c:CT X.ι):Type:=CT.T X.toSE c
def CT.sz:CT X.ι->Nat
 | .st i=>(X.cQ i).length
 |_=>1
inductive DV where
 |c (t:CT X.ι) (x:CT.T X.toSE t)
 |agg (cs:List DV)
 |eC (vs:List DV)
 |own (k aa len:Nat)
 |ptr (k row aa:Nat)
 |qr (k:Nat) (n:Int) (aa:Nat)
 |tg (k row aa m:Nat) (n:Int)
 |rp (t:CT X.ι) (x:CT.T X.toSE t) (aa:Nat)
 |ws (t:CT X.ι) (x:CT.T X.toSE t) (aa m:Nat) (n:Int)
 |fn (f:FuncId) (first caps:List DV)
 |d7 (as:List (CT X.ι)) (r:CT X.ι) (φ:HL X.toSE as->Option (CT.T X.toSE r))
 |mp (k:Nat)
 |oz (k len:Nat)
 |raw (v:Value)
 |nil
 |ub
 |skip
 |undef
inductive bm where
 |cells (sz:Nat) (rows:List (List (DV X)))
 |d8 (c:CT X.ι) (l:List (CT.T X.toSE c))
 |map (kc vc:CT X.ι) (l:List (CT.T X.toSE kc×CT.T X.toSE vc))
structure de where
 env:List (Nat×DV X)
 obj:List (Nat×Option (bm X))
 nx:Nat
 log:List Nat
variable {X}
mutual
def den:DV X->AV
 | .c t x=>(CT.tv X.toSE t x).av
 | .agg cs=> .agg (bL cs)
 | .eC vs=> .eC (bL vs)
 | .own k aa len=> .own k aa len
 | .ptr k row aa=> .ptr k row aa
 | .qr k n aa=> .ptr k n.toNat aa
 | .tg k row aa _ n=> .ptr k row (aa+n.toNat)
 | .rp t x aa=> .eo (CT.row X.toSE t x) aa
 | .ws t x aa _ n=> .eo (CT.row X.toSE t x) (aa+n.toNat)
 | .fn f first caps=> .fn f (bL first) (bL caps)
 | .d7 as r φ=> .d7 λts u=>∃h x,φ h=some x/\ts=HL.np X.toSE as h/\u=CT.tv X.toSE r x
 | .mp k=> .mp k
 | .oz k len=> .oz k len
 | .raw v=>cv v
 | .nil=> .cV
 | .ub=> .ub
 | .skip=> .undef
 | .undef=> .undef
def bL:List (DV X)->List AV
 |[]=>[]
 |x::xs=>den x::bL xs
end
theorem nM:∀l:List (DV X),bL l=l.map den
 |[]=>rfl
 |x::xs=>by simp only[bL,aF,nM xs]
def bG:bm X->aS
 | .cells sz rows=>⟨sz,rows.map bL⟩
 | .d8 c l=>⟨CT.sz X c,aI (l.map (CT.row X.toSE c))⟩
 | .map kc vc l=>⟨l.length,l.map λp=>[(CT.tv X.toSE kc p.1).av,(CT.tv X.toSE vc p.2).av]⟩
def gW(u:List (Nat×Option (bm X))):List (Nat×Option aS):=u.map λp=>(p.1,p.2.map bG)
def gz(o:List (Nat×Option (bm X)))(k:Nat):Option (bm X):=(lk o k).join
def eM(e:List (Nat×DV X))(t:Nat):DV X:=(lk e t).getD .undef
def de.st(s:de X):St:=⟨λ t=>den (eM s.env t),λk=>(gz s.obj k).map bG,λ_=>none⟩
def jr(a b:CT X.ι)(x:CT.T X.toSE a):Option (CT.T X.toSE b):=
 match decEq a b with
 |isTrue h=>some (h ▸ x)
 |isFalse _=>none
theorem q8{a b:CT X.ι}{x:CT.T X.toSE a}{y:CT.T X.toSE b}(h:jr a b x=some y):∃e:a=b,y=e ▸ x:=by
 unfold jr at h;split at h
 ·rename_i e _;injection h with h;exact⟨e,h.symm⟩
 ·cases h
def HL.cells:(l:List (CT X.ι))->HL X.toSE l->List (DV X)
 |[],_=>[]
 |c::l,h=> .c c h.1::HL.cells l h.2
theorem row_one{c:CT X.ι}(h:c.one=true)(x:CT.T X.toSE c):∃t,CT.row X.toSE c x=[t]/\CT.tv X.toSE c x= .s t:=by cases c<;>first |exact⟨_,rfl,rfl⟩ |cases h
theorem HL.qk:∀(l:List (CT X.ι))(h:HL X.toSE l),l.all CT.one=true->bL (HL.cells l h)=(HL.row X.toSE l h).map AV.t
 |[],_,_=>rfl
 |c::l,h,ha=>by
  simp only[all_cons,aL]at ha;obtain⟨t,h1,h2⟩:=row_one ha.1 h.1;simp only[HL.cells,bL,den,HL.row,h1,h2,TV.av,HL.qk l h.2 ha.2,cons_append,bQ,aF]
theorem HL.oE:∀(l:List (CT X.ι))(h:HL X.toSE l),l.all CT.one=true->(HL.row X.toSE l h).length=l.length
 |[],_,_=>rfl
 |c::l,h,ha=>by
  simp only[all_cons,aL]at ha;obtain⟨t,h1,_⟩:=row_one ha.1 h.1;simp only[HL.row,h1,cons_append,bQ,bI,HL.oE l h.2 ha.2]
theorem Dy(c:CT X.ι)(x:CT.T X.toSE c):(CT.row X.toSE c x).length=CT.sz X c:=by
 cases c<;>try rfl
 rename_i i;exact(congrArg List.length (X.l4 i x)).trans (HL.oE _ _ (X.flat i))
def uQ:(c:CT X.ι)->CT.T X.toSE c->List (DV X)
 | .st i,x=>HL.cells (X.cQ i) (X.get i x)
 |c,x=>[.c c x]
theorem oJ(c:CT X.ι)(x:CT.T X.toSE c):bL (uQ c x)=(CT.row X.toSE c x).map AV.t:=by
 cases c<;>try rfl
 rename_i i;exact(HL.qk _ _ (X.flat i)).trans (congrArg (List.map AV.t) (X.l4 i x).symm)
def vw:DV X->Bool
 | .agg _ | .eC _ | .undef | .skip | .raw _ | .c (.st _) _=>false
 |_=>true
theorem Rh{x:DV X}(h:vw x=true):oG (den x)=true:=by
 cases x<;>try rfl
 case c t x=>cases t<;>first |rfl |simp[vw]at h
 all_goals simp[vw]at h
def cellsD:DV X->Option (List (DV X))
 | .agg cs=>if cs.all vw then some cs else none
 | .c (.st i) x=>some (uQ (.st i) x)
 | .eC _ | .undef | .skip | .raw _=>none
 |x=>some [x]
theorem ahC{l:List (DV X)}(h:l.all vw=true):(bL l).all oG=true:=by
 rw[nM,List.all_map,all_eq_true];exact λx hx=>Rh (all_eq_true.1 h x hx)
theorem Dz{x:DV X}{cs:List (DV X)}(h:cellsD x=some cs):cellsOf (den x)=some (bL cs):=by
 cases x
 case c t x=>
  cases t
  case st i=>
   simp only[cellsD,aA]at h;subst h;simp only[den,CT.tv,TV.av,cellsOf,oJ];show(if ((X.row i x).map AV.t).all oG then some ((X.row i x).map AV.t)else none)=some ((X.row i x).map AV.t);rw[aX];rw[List.all_map,all_eq_true];exact λ_ _=>rfl
  all_goals simp only[cellsD,aA]at h;subst h;rfl
 case agg l=>
  simp only[cellsD]at h;split at h
  ·cases h;simp only[den,cellsOf];rw[aX (ahC ‹_›)]
  ·cases h
 all_goals simp only[cellsD,aA,reduceCtorEq]at h;try (subst h;rfl)
def t6:Value->DV X
 | .slice none 0 0=> .nil
 | .int k n=> .c (.int k) n
 | .bool b=> .c .bool b
 | .string s=> .c .str s
 |v=> .raw v
theorem ahD(v:Value):den (t6 (X:=X) v)=cv v:=by
 unfold t6;split<;>rfl
theorem Cf(l:List Value):bL (l.map (t6 (X:=X)))=l.map cv:=by
 rw[nM,map_map];exact List.map_congr_left λv _=>ahD v
def Yv(env:Nat->DV X):Operand->DV X
 | .tmp t=>env t
 | .const v=>t6 v
 | .global g=>match X.gv g with
  |some p=> .rp p.1 p.2 0
  |none=> .undef
 | .func f=> .fn f [] []
theorem Vj(env:Nat->DV X)(x:Operand):den (Yv env x)=lp (λ t=>den (env t)) x:=by
 cases x with
 |global g=>
  have h:=X.yy g;simp only[Yv,lp];cases h1:X.gv g with
  |none=>
   rw[h1]at h;cases h2:vp g with
   |none=>rfl
   |some r=>rw[h2]at h;cases h
  |some p=>
   rw[h1]at h;cases h2:vp g with
   |none=>rw[h2]at h;cases h
   |some r=>
    rw[h2]at h;injection h with h;simp only[den,h]
 |const v=>exact ahD _
 |tmp t=>rfl
 |func f=>rfl
end
def bp{α:Type}(l:List α)(n:Int):Option α:=bif decide (0<=n)then l[n.toNat]? else none
def sub{α:Type}(l:List α)(aa len:Nat):List α:=(l.drop aa).take len
def cC(n:Int)(len:Nat):Bool:=decide (0<=n)&&decide (n<(len:Int))
def iE{α β:Type}(a:α)(f:α->β):β:=f a
def bP(lo len ln n bytes:Nat):Bool:=decide (lo=len)&&decide (ln=n)&&decide ((len+n)*bytes<=140737488355328)&&decide (len+n<=maxLen)
def az(a b:Nat):Bool:=decide (a=b)
def AJ(l h:Int)(len:Nat):Bool:=decide (0<=l)&&decide (l<=h)&&decide (h<=(len:Int))
def Vk(a b:ByteArray):Bool:=Op.bytesLess a.toList b.toList
def Vl(a b:ByteArray):Bool:=decide (a.size+b.size<=maxLen)
abbrev iN(n:Int):Int:=n
abbrev bN(b:Bool):Bool:=b
def Vm{A:Type}:List Bool->Option A->Option A
 |[],k=>k
 |c::cs,k=>bif c then Vm cs k else none
section
variable {X:SX} {A:Type}
abbrev KK(X:SX)(A:Type):=DV X->List (Nat×Option (bm X))->List Nat->List Nat->Option A
def W0(t:Bool)(x y:DV X):DV X:=
 match x,y with
 | .c a p,.c b q=>match decEq b a with
  |isTrue h=> .c a (bif t then p else h ▸ q)
  |isFalse _=>bif t then .c a p else .c b q
 |x,y=>bif t then x else y
def GL(agg:Bool)(size:Nat)(cs:List (DV X)):Option (DV X):=
 if cs.length=size then(if agg then some (.agg cs)else match cs with |[x]=>if vw x then some x else none |_=>none)else none
def NO(agg:Bool)(size:Nat)(c:CT X.ι)(y:CT.T X.toSE c)(aa:Nat):Option (DV X):=
 match c,y with
 | .st i,y=>if aa=0/\agg=true/\size=(X.cQ i).length then some (.c (.st i) y)else GL agg size (((uQ (.st i) y).drop aa).take size)
 |c,y=>GL agg size (((uQ c y).drop aa).take size)
def JK(d:DV X)(c:CT X.ι):Option (CT.T X.toSE c):=
 match d,c with
 | .c a x,c=>jr a c x
 | .nil,.sl _=>some []
 | .nil,.any=>some (.sl [])
 |_,_=>none
def yB:List (DV X)->(l:List (CT X.ι))->Option (HL X.toSE l)
 |[],[]=>some ()
 |d::ds,c::l=>(JK d c).bind λx=>(yB ds l).bind λh=>some (x,h)
 |_,_=>none
def DB(d:DV X)(i:X.ι):Option (CT.T X.toSE (.st i)):=
 match d with
 | .agg cs=>(yB cs (X.cQ i)).bind λh=>some (X.make i h)
 | .c a x=>jr a (.st i) x
 |_=>none
def dat(d:DV X)(c:CT X.ι):Option (CT.T X.toSE c):=
 match c with
 | .st i=>DB d i
 |c=>JK d c
def mk1(c:CT X.ι):List (DV X)->Option (CT.T X.toSE c)
 |[d]=>JK d c
 |_=>none
def GN(c:CT X.ι)(ds:List (DV X)):Option (CT.T X.toSE c):=
 match c with
 | .st i=>(yB ds (X.cQ i)).bind λh=>some (X.make i h)
 |c=>mk1 c ds
def IR(r:List (DV X))(aa:Nat)(cs:List (DV X)):List (DV X):=r.take aa++cs++r.drop (aa+cs.length)
variable (T:ea) (am:TypeId->Option (CT X.ι))
def P3(t:TypeId)(x:DV X)(get:Nat->Option (bm X))(k:KK X A):Option A:=
 (T t).bind λti=>match x with
 | .ptr kk row aa=>(get kk).bind λo=>match o with
  | .cells _ rows=>(rows[row]?).bind λr=>(GL ti.agg ti.size ((r.drop aa).take ti.size)).bind λv=>k v [] [kk] []
  |_=>none
 | .qr kk n aa=>(get kk).bind λo=>match o with
  | .d8 c l=>(bp l n).bind λy=>(NO ti.agg ti.size c y aa).bind λv=>k v [] [kk] []
  |_=>none
 | .rp c y aa=>(NO ti.agg ti.size c y aa).bind λv=>k v [] [] []
 |_=>none
def PP(t:TypeId)(x y:DV X)(get:Nat->Option (bm X))(k:KK X A):Option A:=
 (T t).bind λti=>(cellsD y).bind λcs=>if cs.length=ti.size then match x with
 | .ptr kk row aa=>(get kk).bind λo=>match o with
  | .cells sz rows=>(rows[row]?).bind λr=>if aa+cs.length<=r.length then k .undef [(kk,some (.cells sz (rows.set row (IR r aa cs))))] [kk] [kk]else none
  |_=>none
 | .qr kk n aa=>(get kk).bind λo=>match o with
  | .d8 c l=>(bp l n).bind λy=>if aa+cs.length<=CT.sz X c then(GN c (IR (uQ c y) aa cs)).bind λz=>k .undef [(kk,some (.d8 c (l.set n.toNat z)))] [kk] [kk]else none
  |_=>none
 |_=>none else none
def KH(t:TypeId)(x:DV X)(f:Nat)(k:KK X A):Option A:=
 (zK T t f).bind λp=>match x with
 | .ptr kk row aa=>k (.ptr kk row (aa+p.1)) [] [] []
 | .qr kk n aa=>k (.qr kk n (aa+p.1)) [] [] []
 | .rp c y aa=>k (.rp c y (aa+p.1)) [] [] []
 |_=>none
def Ys(t:TypeId)(x:DV X)(f:Nat)(k:KK X A):Option A:=
 (zK T t f).bind λp=>match x with
 | .agg cs=>(GL p.2.agg p.2.size ((cs.drop p.1).take p.2.size)).bind λv=>k v [] [] []
 | .c (.st i) y=>(GL p.2.agg p.2.size (((uQ (.st i) y).drop p.1).take p.2.size)).bind λv=>k v [] [] []
 |_=>none
def KI(t:TypeId)(x j:DV X)(get:Nat->Option (bm X))(k:KK X A):Option A:=
 (T t).bind λti=>match ti.k,j with
 | .slice e,.c (.int _) n=>(T e).bind λei=>match x with
  | .c (.sl c) l=>if CT.sz X c=ei.size then(bp l n).bind λy=>k (.rp c y 0) [] [] []else none
  | .own kk aa len=>(get kk).bind λo=>match o with
   | .d8 c _=>if CT.sz X c=ei.size then bif cC n len then k (.qr kk ((aa:Int)+iN n) 0) [] [kk] []else none else none
   | .cells sz _=>if sz=ei.size then bif cC n len then k (.ptr kk (aa+n.toNat) 0) [] [kk] []else none else none
   | .map _ _ _=>none
  |_=>none
 | .arr m e,.c (.int _) n=>(T e).bind λei=>bif cC n m then match x with
  | .ptr kk row aa=>k (.ptr kk row (aa+n.toNat*ei.size)) [] [] []
  | .qr kk r aa=>k (.qr kk r (aa+n.toNat*ei.size)) [] [] []
  | .rp c y aa=>k (.rp c y (aa+n.toNat*ei.size)) [] [] []
  |_=>none
  else none
 |_,_=>none
def Vn(x:DV X)(j:Nat)(k:KK X A):Option A:=
 match x with
 | .eC vs=>(vs[j]?).bind λv=>k v [] [] []
 |_=>none
def GQ(op:BinOp)(kd:IntKind)(a b:Int):(DV X)×Option Bool:=
 match op with
 | .add=>(.c (.int kd) (kd.wrap (a+b)),none)
 | .sub=>(.c (.int kd) (kd.wrap (a -b)),none)
 | .mul=>(.c (.int kd) (kd.wrap (a*b)),none)
 | .quo=>(.c (.int kd) (kd.wrap (a.tdiv b)),some (b !=0))
 | .rem=>(.c (.int kd) (a.tmod b),some (b !=0))
 | .and=>(.c (.int kd) (bits .and kd a b),none)
 | .or=>(.c (.int kd) (bits .or kd a b),none)
 | .xor=>(.c (.int kd) (bits .xor kd a b),none)
 | .andNot=>(.c (.int kd) (bits .andNot kd a b),none)
 | .shl=>(.c (.int kd) (kd.wrap (a*2 ^ b.toNat)),some (decide (0<=b)&&decide (b<=kd.bits)))
 | .shr=>(.c (.int kd) (a/2 ^ b.toNat),some (decide (0<=b)&&decide (b<=kd.bits)))
 | .eql=>(.c .bool (a==b),none)
 | .neq=>(.c .bool (a !=b),none)
 | .lss=>(.c .bool (decide (a<b)),none)
 | .leq=>(.c .bool (decide (a<=b)),none)
 | .gtr=>(.c .bool (decide (a>b)),none)
 | .geq=>(.c .bool (decide (a>=b)),none)
def aaY:Nat->DV X->DV X->Option Bool
 | 0,.c (.int j) a,.c (.int k) b=>if j=k then some (iN a==iN b)else none
 | 1,.c .bool a,.c .bool b=>some (bN a==bN b)
 | 2,.c .str a,.c .str b=>some (a.toList==b.toList)
 |_,_,_=>none
def vQ:List Nat->List (DV X)->List (DV X)->Option Bool
 |[],[],[]=>some true
 |k::ks,x::xs,y::ys=>(aaY k x y).bind λa=>(vQ ks xs ys).bind λb=>some (a&&b)
 |_,_,_=>none
def L4:DV X->Option (List (DV X))
 | .agg cs=>some cs
 | .c (.st i) y=>some (uQ (.st i) y)
 |_=>none
def V0(op:BinOp)(t:TypeId)(x y:DV X)(k:KK X A):Option A:=
 match x,y with
 | .c (.int kd) a,.c (.int yk) b=>if kd=yk\/op= .shl\/op= .shr then match (GQ op kd a b:DV X×Option Bool).2 with
  |none=>k (GQ op kd a b).1 [] [] []
  |some g=>bif g then k (GQ op kd a b).1 [] [] []else none
  else none
 | .c .str a,.c .str b=>match op with
  | .eql=>k (.c .bool (a.toList==b.toList)) [] [] []
  | .neq=>k (.c .bool (!(a.toList==b.toList))) [] [] []
  | .lss=>k (.c .bool (Vk a b)) [] [] []
  | .gtr=>k (.c .bool (!(Vk a b || a.toList==b.toList))) [] [] []
  | .add=>bif Vl a b then k (.c .str (a++b)) [] [] []else none
  |_=>none
 | .c .bool a,.c .bool b=>(T t).bind λti=>match ti.k,op with
  | .bool,.eql=>k (.c .bool (bN a==bN b)) [] [] []
  | .bool,.neq=>k (.c .bool (!(bN a==bN b))) [] [] []
  |_,_=>none
 |x,y=>(L4 x).bind λxs=>(L4 y).bind λys=>(T t).bind λti=>if ti.cmp=[]then none else(vQ ti.cmp xs ys).bind λb=>match op with
  | .eql=>k (.c .bool b) [] [] []
  | .neq=>k (.c .bool (!b)) [] [] []
  |_=>none
def PJ(op:UnOp)(x:DV X)(k:KK X A):Option A:=
 match op,x with
 | .not,.c .bool b=>k (.c .bool (!b)) [] [] []
 | .neg,.c (.int kd) n=>k (.c (.int kd) (kd.wrap (0 -iN n))) [] [] []
 |_,_=>none
def Je(mx:Bool)(kd:IntKind):Int->List (DV X)->Option Int
 |a,[]=>some a
 |a,.c (.int k') b::r=>if k'=kd then Je mx kd (if mx then max a b else min a b) r else none
 |_,_=>none
def Ly(mx:Bool)(args:List (DV X))(k:KK X A):Option A:=
 match args with
 | .c (.int kd) a::r=>(Je mx kd a r).bind λn=>k (.c (.int kd) n) [] [] []
 |_=>none
def VV(t:TypeId)(x:DV X)(k:KK X A):Option A:=
 (T t).bind λti=>match ti.k,x with
 | .slice _,.c (.sl _) l=>k (.c (.int .i64) (l.length:Int)) [] [] []
 | .slice _,.own _ _ len=>k (.c (.int .i64) (len:Int)) [] [] []
 | .slice _,.oz _ len=>k (.c (.int .i64) (len:Int)) [] [] []
 | .slice _,.nil=>k (.c (.int .i64) (0:Int)) [] [] []
 | .str,.c .str s=>k (.c (.int .i64) (s.size:Int)) [] [] []
 |_,_=>none
def Zw(place:Nat->Option (Nat×Nat)):List (DV X)->List (Nat×DV X)->Option (List (DV X))
 |cells,[]=>some cells
 |cells,(j,x)::ag=>(place j).bind λp=>(cellsD x).bind λcs=>
  if cs.length=p.2/\p.1+cs.length<=cells.length then Zw place (IR cells p.1 cs) ag else none
def X2(t:TypeId)(parts:List (Nat×DV X))(k:KK X A):Option A:=
 (T t).bind λti=>match ti.k with
 | .struct fs=>if fs.all (λ p=>(T p.2).isSome)then
  (Zw (λ j=>(fs[j]?).bind λp=>(T p.2).bind λui=>some (p.1,ui.size)) (ti.zero.map t6) parts).bind λcells=>k (.agg cells) [] [] []else none
 | .arr _ e=>(T e).bind λei=>(Zw (λ j=>some (j*ei.size,ei.size)) (ti.zero.map t6) parts).bind λcells=>k (.agg cells) [] [] []
 |_=>none
def IP(c:CT X.ι):Nat->List (Nat×DV X)->Option (List (CT.T X.toSE c))
 |_,[]=>some []
 |n,(j,x)::r=>if j=n then(dat x c).bind λy=>(IP c (n+1) r).bind λl=>some (y::l)else none
def GR(i:Nat)(t:TypeId)(len:Nat)(parts:List (Nat×DV X))(k:KK X A):Option A:=
 (T t).bind λti=>match ti.k with
 | .slice e=>(T e).bind λei=>(am e).bind λc=>if ei.size=0\/len*ei.size>2 ^ 24\/CT.sz X c≠ei.size\/parts.length≠len then none else
  (IP c 0 parts).bind λl=>k (.own (cJ i) 0 len) [(cJ i,some (.d8 c l))] [] []
 |_=>none
def X1(i:Nat)(e:TypeId)(k:KK X A):Option A:=
 (T e).bind λti=>k (.ptr (cJ i) 0 0) [(cJ i,some (.cells ti.size [ti.zero.map t6]))] [] []
def VM(i:Nat)(x:DV X)(k:KK X A):Option A:=
 (cellsD x).bind λcs=>k (.ptr (cJ i) 0 0) [(cJ i,some (.cells cs.length [cs]))] [] []
def An(d:Int):Option (DV X)->Option Int
 |none=>some d
 |some (.c (.int _) n)=>some n
 |_=>none
def XX(t:TypeId)(x:DV X)(lo hi:Option (DV X))(get:Nat->Option (bm X))(k:KK X A):Option A:=
 (T t).bind λti=>match ti.k with
 | .slice e=>(T e).bind λei=>match x with
  | .own kk aa len=>(get kk).bind λo=>if (bG o).sz=ei.size then(An 0 lo).bind λl=>(An len hi).bind λh=>
   bif AJ l h len then k (.own kk (aa+l.toNat) (h.toNat -l.toNat)) [] [kk] []else none else none
  | .c (.sl c) xs=>if CT.sz X c=ei.size then(An 0 lo).bind λl=>(An xs.length hi).bind λh=>
   bif AJ l h xs.length then k (.c (.sl c) (sub xs l.toNat (h.toNat -l.toNat))) [] [] []else none else none
  |_=>none
 |_=>none
def VC(y:DV X)(c:CT X.ι)(get:Nat->Option (bm X)):Option (Nat×List (CT.T X.toSE c)×List Nat):=
 match y with
 | .own kk aa len=>(get kk).bind λo=>match o with
  | .d8 b l=>(jr (.sl b) (.sl c) l).bind λl=>some (len,sub l aa len,[kk])
  |_=>none
 | .c b l=>(jr b (.sl c) l).bind λ(l:List (CT.T X.toSE c))=>some (l.length,l,[])
 |_=>none
def Vo{α:Type}:Nat->List α->List α
 | 0,l=>l
 |n+1,l=>l.drop (n+1)
def aaZ(i:Nat)(t:TypeId)(x y:DV X)(get:Nat->Option (bm X))(k:KK X A):Option A:=
 (T t).bind λti=>match ti.k with
 | .slice e=>(T e).bind λei=>(am e).bind λc=>if CT.sz X c=ei.size then(VC y c get).bind λs=>match x with
  | .own kk aa len=>(get kk).bind λo=>match o with
   | .d8 b l=>(jr (.sl b) (.sl c) l).bind λ(l:List (CT.T X.toSE c))=>bif bP (Vo aa l).length len s.2.1.length s.1 ei.bytes then iE (Vo aa l++s.2.1) λr=>k (.own (cJ i) 0 r.length) [(cJ i,some (.d8 c r)),(kk,none)] (kk::s.2.2) [kk]else none
   |_=>none
  | .nil=>bif bP 0 0 s.2.1.length s.1 ei.bytes then iE s.2.1 λr=>k (.own (cJ i) 0 r.length) [(cJ i,some (.d8 c r))] s.2.2 []else none
  |_=>none
  else none
 |_=>none
def Vp(i:Nat)(b:Builtin)(args:List (DV X))(cQ:List TypeId)(get:Nat->Option (bm X))(k:KK X A):Option A:=
 match b,args,cQ with
 | .len,[x],[t]=>VV T t x k
 | .max,args,_=>Ly true args k
 | .min,args,_=>Ly false args k
 | .append,[x,y],[t,u]=>if t=u then aaZ T am i t x y get k else none
 |_,_,_=>none
def Lw(i:Nat)(o:Op)(ρ:Operand->DV X)(get:Nat->Option (bm X))(k:KK X A):Option A:=
 match o with
 | .move x=>k (ρ x) [] [] []
 | .assign x=>k (ρ x) [] [] []
 | .pick c a b=>match ρ c with | .c .bool t=>k (W0 t (ρ a) (ρ b)) [] [] [] |_=>none
 | .alloc e=>X1 T i e k
 | .box _ x=>VM i (ρ x) k
 | .build t parts=>X2 T t (parts.toList.map λp=>(p.1,ρ p.2)) k
 | .buildSlice t len parts=>GR T am i t len (parts.toList.map λp=>(p.1,ρ p.2)) k
 | .load t a=>P3 T t (ρ a) get k
 | .store t a x=>PP T t (ρ a) (ρ x) get k
 | .binOp op t x y _=>V0 T op t (ρ x) (ρ y) k
 | .unOp op _ x=>PJ op (ρ x) k
 | .makeFunc (.func f) first caps=>k (.fn f (first.toList.map ρ) (caps.toList.map ρ)) [] [] []
 | .slice t x lo hi none=>XX T t (ρ x) (lo.map ρ) (hi.map ρ) get k
 | .fieldAddr t x f=>KH T t (ρ x) f k
 | .field t x f=>Ys T t (ρ x) f k
 | .indexAddr t x j=>KI T t (ρ x) (ρ j) get k
 | .extract x j=>Vn (ρ x) j k
 | .call { callee:= .builtin b,args:=args,argTypes:=cQ }=>Vp T am i b (args.toList.map ρ) cQ.toList get k
 |_=>none
end
section
variable {X:SX} {A:Type} {T:ea} {am:TypeId->Option (CT X.ι)} {get:Nat->Option (bm X)} {k:KK X A} {r:A} {i:Nat}
def fw(get:Nat->Option (bm X)):Nat->Option aS:=λj=>(get j).map bG
theorem eu{rd:List Nat}{j:Nat}{o:bm X}(hj:j∈rd)(h:get j=some o):dH rd (fw get) j=some (bG o):=by simp[dH,hj,fw,h]
theorem kS(l:List (DV X)):(bL l).length=l.length:=by simp[nM]
theorem jZ(l:List (DV X))(a b:Nat):bL ((l.drop a).take b)=((bL l).drop a).take b:=by simp[nM,map_take,map_drop]
theorem Mx{α:Type}{l:List α}{n:Int}{x:α}(h:bp l n=some x):0<=n/\l[n.toNat]? =some x:=by
 unfold bp at h;by_cases hn:0<=n
 ·simpa[hn]using h
 ·simp[hn]at h
theorem aiA(t:Bool)(x y:DV X):den (W0 t x y)=Kx t (den x) (den y):=by
 rw[UI];have base:∀x y:DV X,den (bif t then x else y)=if t=true then den x else den y:=λx y=>by cases t<;>rfl
 unfold W0;split
 ·rename_i a p b q;split
  ·rename_i h _;subst h;cases t<;>rfl
  ·exact base _ _
 ·exact base _ _
theorem Cg{agg:Bool}{size:Nat}{cs:List (DV X)}{v:DV X}(h:GL agg size cs=some v):part' agg size (bL cs)=some (den v):=by
 unfold GL at h;unfold part';rw[kS];split at h
 ·rename_i hl;rw[aX hl];cases agg with
  |true=>simp only[if_true,aA]at h ⊢;subst h;rfl
  |false=>
   simp only[Bool.false_eq_true,if_false]at h ⊢
   match cs,h with
   |[x],h=>
    simp only at h;split at h
    ·rename_i hx;cases h;simp only[bL];rw[aX (Rh hx)]
    ·cases h
   |[],h=>cases h
   |_::_::_,h=>cases h
 ·cases h
theorem Pk{agg:Bool}{size aa:Nat}{c:CT X.ι}{y:CT.T X.toSE c}{v:DV X}(h:GL agg size (((uQ c y).drop aa).take size)=some v):part' agg size ((((CT.row X.toSE c y).drop aa).take size).map AV.t)=some (den v):=by
 have:=Cg h;rw[jZ,oJ]at this;rw[<- this,map_take,map_drop]
theorem Zx{agg:Bool}{size aa:Nat}{c:CT X.ι}{y:CT.T X.toSE c}{v:DV X}(h:NO agg size c y aa=some v):part' agg size ((((CT.row X.toSE c y).drop aa).take size).map AV.t)=some (den v):=by
 cases c
 case st j=>
  simp only[NO]at h;split at h
  ·rename_i hh;obtain⟨rfl,rfl,rfl⟩:=hh;cases h;have hl:(CT.row X.toSE (.st j) y).length=(X.cQ j).length:=Dy (.st j) y;rw[List.drop_zero,take_of_length_le (by omega)];unfold part';rw[aX (by simpa using hl)];rfl
  ·exact Pk h
 all_goals exact Pk h
theorem aiB{t:TypeId}{x:DV X}(h:P3 T t x get k=some r):∃cw rd dv ab,Kc T t (den x) cw (dH rd (fw get))=some ab/\jl ab.obs/\ab.v=den dv/\ab.upd=[]/\k dv [] rd []=some r:=by
 unfold P3 at h;unfold Kc;rw[ai]at h;obtain⟨ti,h1,h⟩:=h;simp only[h1,af];split at h
 ·rename_i kk row aa;rw[ai]at h;obtain⟨o,h2,h⟩:=h;split at h
  ·rename_i sz rows;rw[ai]at h;obtain⟨rw',h3,h⟩:=h;rw[ai]at h;obtain⟨v,h4,h⟩:=h;refine⟨.none,[kk],v,⟨den v,[],[]⟩,?_,trivial,rfl,rfl,h⟩;have h5:=Cg h4;rw[jZ]at h5;simp[den,eu (List.mem_singleton_self kk) h2,bG,h3,h5,pv]
  ·cases h
 ·rename_i kk n aa;rw[ai]at h;obtain⟨o,h2,h⟩:=h;split at h
  ·rename_i c l;rw[ai]at h;obtain⟨y,h3,h⟩:=h;rw[ai]at h;obtain⟨v,h4,h⟩:=h;have⟨_,h6⟩:=Mx h3;refine⟨.row ((CT.row X.toSE c y).map AV.t),[kk],v,⟨den v,[],[(aI (l.map (CT.row X.toSE c)))[n.toNat]? =some ((CT.row X.toSE c y).map AV.t)]⟩,?_,?_,rfl,rfl,h⟩
   ·have h5:=Zx h4;rw[map_take,map_drop]at h5;simp only[den,eu (List.mem_singleton_self kk) h2,af,bG,h5,mw]
   ·simp[jl,aI,h6]
  ·cases h
 ·rename_i c y aa;have⟨v,h4,h⟩:=ai.1 h;refine⟨.none,[],v,⟨den v,[],[]⟩,?_,trivial,rfl,rfl,h⟩;simp only[den,Zx h4,af,pv]
 ·cases h
theorem Vq(a:List (DV X))(aa:Nat)(cs:List (DV X)):bL (IR a aa cs)=put' (bL a) aa (bL cs):=by simp[IR,put',nM,map_take,map_drop]
theorem nY{a c:CT X.ι}{x:CT.T X.toSE a}{y:CT.T X.toSE c}(h:jr a c x=some y):den (.c a x)=den (.c c y)/\CT.row X.toSE a x=CT.row X.toSE c y:=by
 have⟨e,h⟩:=q8 h;subst e;subst h;exact⟨rfl,rfl⟩
theorem Pr{c:CT X.ι}(hc:c.one=true)(x:CT.T X.toSE c):[(CT.tv X.toSE c x).av]=(CT.row X.toSE c x).map AV.t:=by
 obtain⟨t,h1,h2⟩:=row_one hc x;rw[h1,h2];rfl
theorem anM{c:CT X.ι}(x:CT.T X.toSE c):wk (CT.tv X.toSE c x).av=(CT.tv X.toSE c x).av:=by cases c<;>rfl
theorem vR{d:DV X}{c:CT X.ι}{x:CT.T X.toSE c}(h:JK d c=some x):wk (den d)=(CT.tv X.toSE c x).av:=by
 unfold JK at h;split at h
 ·rw[(nY h).1];exact anM x
 ·cases h;rfl
 ·cases h;rfl
 ·cases h
theorem aa1{d:DV X}{c:CT X.ι}{x:CT.T X.toSE c}(hc:c.one=true)(h:JK d c=some x):vw d=true:=by
 cases d
 case c a y=>
  obtain⟨e,_⟩:=q8 (show jr a c y=some x by cases c<;>exact h);subst e;cases a<;>first |rfl |simp[CT.one]at hc
 case nil=>rfl
 all_goals cases c<;>cases h
theorem yC:∀{ds:List (DV X)}{l:List (CT X.ι)}{h:HL X.toSE l},yB ds l=some h->l.all CT.one=true->(bL ds).map wk=(HL.row X.toSE l h).map AV.t/\ds.all vw=true
 |[],[],h,_,_=>⟨rfl,rfl⟩
 |d::ds,c::l,h,hr,ha=>by
  simp only[yB]at hr;have⟨x,h1,hr⟩:=ai.1 hr;have⟨g,h2,hr⟩:=ai.1 hr;cases hr;simp only[all_cons,aL]at ha ⊢;have⟨i1,i2⟩:=yC h2 ha.2;simp only[bL,aF,HL.row,List.map_append,i1,vR h1,i2,and_true,aa1 ha.1 h1];simp[<- Pr ha.1 x]
 |[],_::_,_,hr,_=>by simp[yB]at hr
 |_::_,[],_,hr,_=>by simp[yB]at hr
theorem Vr(j:X.ι)(h:HL X.toSE (X.cQ j)):CT.row X.toSE (.st j) (X.make j h)=HL.row X.toSE (X.cQ j) h:=X.gd j h
theorem amv{c:CT X.ι}(hc:c.one=true){ds:List (DV X)}{x:CT.T X.toSE c}(h:mk1 c ds=some x):(bL ds).map wk=(CT.row X.toSE c x).map AV.t:=by
 match ds,h with
 |[d],h=>
  rw[<- Pr hc x];simp only[bL,aF,map_nil,vR h]
 |[],h=>cases h
 |_::_::_,h=>cases h
theorem xX{c:CT X.ι}{ds:List (DV X)}{x:CT.T X.toSE c}(h:GN c ds=some x):(bL ds).map wk=(CT.row X.toSE c x).map AV.t:=by
 cases c
 case st j=>
  simp only[GN]at h;have⟨g,h1,h⟩:=ai.1 h;cases h;rw[(yC h1 (X.flat j)).1,Vr]
 all_goals exact amv rfl h
theorem afA{d:DV X}{c:CT X.ι}(hc:c.one=true){x:CT.T X.toSE c}(h:JK d c=some x):∃cs,cellsOf (den d)=some cs/\cs.map wk=(CT.row X.toSE c x).map AV.t:=by
 have hk:=aa1 hc h;have hd:=vR h;have he:cellsOf (den d)=some [den d]:=by
  have:=Dz (x:=d) (cs:=[d]) (by
   cases d
   case c t y=>cases t<;>first |rfl |simp[vw]at hk
   all_goals first |rfl |simp[vw]at hk)
  simpa[bL]using this
 exact⟨_,he,by rw[<- Pr hc x];simp[hd]⟩
theorem aiC{d:DV X}{c:CT X.ι}{x:CT.T X.toSE c}(h:dat d c=some x):∃cs,cellsOf (den d)=some cs/\cs.map wk=(CT.row X.toSE c x).map AV.t:=by
 cases c
 case st j=>
  replace h:DB d j=some x:=h
  cases d
  case agg cs=>
   simp only[DB]at h;have⟨g,h1,h⟩:=ai.1 h;cases h;have⟨i1,i2⟩:=yC h1 (X.flat j);refine⟨bL cs,?_,by rw[i1,Vr]⟩;simp only[den,cellsOf];rw[aX (ahC i2)]
  case c a y=>
   replace h:jr a (.st j) y=some x:=h
   rw[(nY h).1];refine⟨(CT.row X.toSE (.st j) x).map AV.t,?_,?_⟩
   ·show cellsOf (.agg _)=_;simp only[cellsOf];rw[aX]
    ·rfl
    ·rw[List.all_map,all_eq_true];exact λ_ _=>rfl
   ·rw[map_map];rfl
  all_goals cases h
 all_goals exact afA rfl h
theorem aiD{t:TypeId}{x y:DV X}(h:PP T t x y get k=some r):∃cw kk u ab,UC T t (den x) (den y) cw (dH [kk] (fw get))=some ab/\jl ab.obs/\ab.v= .undef/\ab.upd=gW [(kk,u)]/\k .undef [(kk,u)] [kk] [kk]=some r:=by
 unfold PP at h;unfold UC;rw[ai]at h;obtain⟨ti,h1,h⟩:=h;rw[ai]at h;obtain⟨cs,h2,h⟩:=h;simp only[h1,Dz h2,af];split at h
 ·rename_i hl;have hdl:(bL cs).length=ti.size:=by rw[kS];exact hl
  simp only[hdl,if_true];split at h
  ·rename_i kk row aa;rw[ai]at h;obtain⟨o,h3,h⟩:=h;split at h
   ·rename_i sz rows;rw[ai]at h;obtain⟨rw',h4,h⟩:=h;split at h
    ·rename_i hle;refine⟨.none,kk,_,⟨.undef,_,[]⟩,?_,trivial,rfl,rfl,h⟩;simp only[den,eu (List.mem_singleton_self kk) h3,af,bG,List.getElem?_map,h4,Option.map_some,kS];rw[aX (by rw[<- hl];exact hle)];simp[gW,bG,Vq]
    ·cases h
   ·cases h
  ·rename_i kk n aa;rw[ai]at h;obtain⟨o,h3,h⟩:=h;split at h
   ·rename_i c l;rw[ai]at h;obtain⟨z,h4,h⟩:=h;split at h
    ·rename_i hle;have⟨z',h5,h⟩:=ai.1 h;have⟨_,h6⟩:=Mx h4;refine⟨.set ((CT.row X.toSE c z).map AV.t) (aI ((l.set n.toNat z').map (CT.row X.toSE c))),kk,_,⟨.undef,_,[(aI (l.map (CT.row X.toSE c)))[n.toNat]? =some ((CT.row X.toSE c z).map AV.t)/\aI ((l.set n.toNat z').map (CT.row X.toSE c))=dW ((aI (l.map (CT.row X.toSE c))).set n.toNat (put' ((CT.row X.toSE c z).map AV.t) aa (bL cs)))]⟩,?_,?_,rfl,rfl,h⟩
     ·simp only[den,eu (List.mem_singleton_self kk) h3,af,bG];rw[aX (by rw[length_map,Dy,<- hl];exact hle)];simp[gW,bG]
     ·refine⟨by simp[aI,h6],?_⟩;have h7:=xX h5;rw[Vq,oJ]at h7;have hid:dW (aI (l.map (CT.row X.toSE c)))=aI (l.map (CT.row X.toSE c)):=(by simp[dW,aI,Function.comp_def,wk]);simp only[dW,List.map_set,h7];have:(aI (l.map (CT.row X.toSE c))).map (List.map wk)=aI (l.map (CT.row X.toSE c)):=hid;rw[this];simp[aI]
    ·cases h
   ·cases h
  ·cases h
 ·cases h
theorem Pm{t:TypeId}{x:DV X}{f:Nat}(h:KH T t x f k=some r):∃dv ab,yj T t (den x) f=some ab/\jl ab.obs/\ab.v=den dv/\ab.upd=[]/\k dv [] [] []=some r:=by
 unfold KH at h;unfold yj;rw[ai]at h;obtain⟨⟨d,u⟩,h1,h⟩:=h;simp only[h1,af];split at h
 ·exact⟨_,_,rfl,trivial,rfl,rfl,h⟩
 ·exact⟨_,_,rfl,trivial,rfl,rfl,h⟩
 ·exact⟨_,_,rfl,trivial,rfl,rfl,h⟩
 ·cases h
theorem aa2{t:TypeId}{x:DV X}{f:Nat}(h:Ys T t x f k=some r):∃dv ab,UD T t (den x) f=some ab/\jl ab.obs/\ab.v=den dv/\ab.upd=[]/\k dv [] [] []=some r:=by
 unfold Ys at h;unfold UD;rw[ai]at h;obtain⟨⟨d,u⟩,h1,h⟩:=h;simp only[h1,af];split at h
 ·rw[ai]at h;obtain⟨v,h2,h⟩:=h;have h3:=Cg h2;rw[jZ]at h3;exact⟨v,⟨den v,[],[]⟩,by simp only[den,h3,af,pv],trivial,rfl,rfl,h⟩
 ·rename_i j y;have⟨v,h2,h⟩:=ai.1 h;have h3:=Pk h2;rw[map_take,map_drop]at h3;refine⟨v,⟨den v,[],[]⟩,?_,trivial,rfl,rfl,h⟩;show(part' u.agg u.size (List.take u.size (List.drop d ((CT.row X.toSE (.st j) y).map AV.t)))).bind pv=_;rw[h3];rfl
 ·cases h
theorem dZ{α:Type}{b:Bool}{x:Option α}{r:α}(h:(bif b then x else none)=some r):b=true/\x=some r:=by
 cases b with
 |true=>exact⟨rfl,h⟩
 |false=>cases h
theorem Vs{n:Int}{len:Nat}(h:cC n len=true):0<=n/\n.toNat<len:=by simp only[cC,aL,aV]at h;omega
theorem o8{A:Type}:∀{cs:List Bool}{k:Option A}{r:A},Vm cs k=some r->(∀ c∈cs,c=true)/\k=some r
 |[],_,_,h=>⟨by simp,h⟩
 |c::cs,k,r,h=>by
  have⟨h1,h2⟩:=dZ h;have⟨h3,h4⟩:=o8 h2;exact⟨λ x hx=>(aN.1 hx).elim (λ e=>e ▸ h1) (h3 x),h4⟩
theorem Pn{t:TypeId}{x j:DV X}(h:KI T t x j get k=some r):∃cw rd dv ab,lT T t (den x) (den j) cw (dH rd (fw get))=some ab/\jl ab.obs/\ab.v=den dv/\ab.upd=[]/\k dv [] rd []=some r:=by
 unfold KI at h;unfold lT;rw[ai]at h;obtain⟨ti,h1,h⟩:=h;simp only[h1,af];split at h
 ·rename_i e kd n hk;rw[ai]at h;obtain⟨ei,h2,h⟩:=h;simp only[hk,den,CT.tv,TV.av,h2,af];split at h
  ·rename_i c l;split at h
   ·rename_i hs;rw[ai]at h;obtain⟨y,h3,h⟩:=h;have⟨h4,h5⟩:=Mx h3;refine⟨.sE (CT.row X.toSE c y),[],_,⟨.eo (CT.row X.toSE c y) 0,[],[0<=n/\(l.map (CT.row X.toSE c))[n.toNat]? =some (CT.row X.toSE c y)]⟩,?_,?_,rfl,rfl,h⟩
    ·simp only[den,CT.tv,TV.av];rw[aX (by rw[Dy];exact hs)];rfl
    ·exact⟨h4,by simp[h5]⟩
   ·cases h
  ·rename_i kk aa len;rw[ai]at h;obtain⟨o,h3,h⟩:=h;split at h
   ·rename_i c l;split at h
    ·rename_i hs;have⟨h4,h⟩:=dZ h;have⟨h5,h6⟩:=Vs h4;refine⟨.none,[kk],_,⟨.ptr kk (aa+n.toNat) 0,[],[0<=n/\n.toNat<len]⟩,?_,⟨h5,h6⟩,?_,rfl,h⟩
     ·simp only[den,eu (List.mem_singleton_self kk) h3,af,bG];rw[aX hs];rfl
     ·simp only[den,iN];congr 1;show aa+Int.toNat n=Int.toNat ((aa:Int)+n);have:(0:Int)<=n:=h5;omega
    ·cases h
   ·rename_i sz rows;split at h
    ·rename_i hs;have⟨h4,h⟩:=dZ h;have⟨h5,h6⟩:=Vs h4;refine⟨.none,[kk],_,⟨.ptr kk (aa+n.toNat) 0,[],[0<=n/\n.toNat<len]⟩,?_,⟨h5,h6⟩,rfl,rfl,h⟩;simp only[den,eu (List.mem_singleton_self kk) h3,af,bG];rw[aX hs];rfl
    ·cases h
   ·cases h
  ·cases h
 ·rename_i m e kd n hk;have⟨ei,h2,h⟩:=ai.1 h;simp only[hk,den,CT.tv,TV.av,h2,af];have⟨h4,h⟩:=dZ h;have⟨h5,h6⟩:=Vs h4;split at h
  ·exact⟨.none,[],_,_,rfl,⟨h5,h6⟩,rfl,rfl,h⟩
  ·exact⟨.none,[],_,_,rfl,⟨h5,h6⟩,rfl,rfl,h⟩
  ·exact⟨.none,[],_,_,rfl,⟨h5,h6⟩,rfl,rfl,h⟩
  ·cases h
 ·cases h
theorem Vt{x:DV X}{j:Nat}(h:Vn x j k=some r):∃dv ab,Gw (den x) j=some ab/\jl ab.obs/\ab.v=den dv/\ab.upd=[]/\k dv [] [] []=some r:=by
 unfold Vn at h;split at h
 ·have⟨v,h2,h⟩:=ai.1 h;refine⟨v,⟨den v,[],[]⟩,?_,trivial,rfl,rfl,h⟩;simp[Gw,den,nM,h2,pv]
 ·cases h
end
section
variable {X:SX} {A:Type} {T:ea} {am:TypeId->Option (CT X.ι)} {get:Nat->Option (bm X)} {k:KK X A} {r:A} {i:Nat}
theorem aa3{op:BinOp}{kd:IntKind}{a b:Int}:∃v obs,UB op kd a b=some (v,obs)/\den (GQ (X:=X) op kd a b).1= .t (.sc v)/\(∀ g,(GQ (X:=X) op kd a b).2=some g->g=true->jl obs)/\((GQ (X:=X) op kd a b).2=none->jl obs):=by
 cases op<;>refine⟨_,_,rfl,rfl,λg hg ht=>?_,λhn=>?_⟩<;>simp only[GQ,aA,reduceCtorEq]at* <;>try trivial
 all_goals subst hg;simp_all [jl]
theorem acW{n:Nat}{x y:DV X}{b:Bool}(h:aaY n x y=some b):KF n (den x) (den y)=some b:=by
 unfold aaY at h;split at h
 ·split at h
  ·cases h;simp only[den,CT.tv,TV.av,KF];rw[aX ‹_›]
  ·cases h
 ·exact h
 ·exact h
 ·cases h
theorem MB:∀{ks:List Nat}{xs ys:List (DV X)}{b:Bool},vQ ks xs ys=some b->sG ks (bL xs) (bL ys)=some b
 |[],[],[],b,h=>h
 |k::ks,x::xs,y::ys,b,h=>by
  simp only[vQ]at h;rw[ai]at h;obtain⟨p,h1,h⟩:=h;rw[ai]at h;obtain⟨q,h2,h⟩:=h;simp only[bL,sG,acW h1,MB h2,af,h]
 |[],_::_,_,_,h=>by simp[vQ]at h
 |[],[],_::_,_,h=>by simp[vQ]at h
 |_::_,[],_,_,h=>by simp[vQ]at h
 |_::_,_::_,[],_,h=>by simp[vQ]at h
theorem acX{x:DV X}{xs:List (DV X)}(h:L4 x=some xs):den x= .agg (bL xs):=by
 unfold L4 at h;split at h
 ·cases h;rfl
 ·rename_i j y;cases h;rw[oJ];rfl
 ·cases h
theorem afB{op:BinOp}{t:TypeId}{x y:DV X}(h:V0 T op t x y k=some r):∃dv ab,Yj T op t (den x) (den y)=some ab/\jl ab.obs/\ab.v=den dv/\ab.upd=[]/\k dv [] [] []=some r:=by
 unfold V0 at h;split at h
 ·rename_i kd a yk b;split at h
  ·rename_i hk;have⟨v,obs,h1,h2,h3,h4⟩:=aa3 (X:=X) (op:=op) (kd:=kd) (a:=a) (b:=b);have fin:jl obs->k (GQ op kd a b).1 [] [] []=some r->∃dv ab,Yj T op t (den (.c (.int kd) a:DV X)) (den (.c (.int yk) b:DV X))=some ab/\jl ab.obs/\ab.v=den dv/\ab.upd=[]/\k dv [] [] []=some r:=by
    intro ho hkk;refine⟨_,⟨.t (.sc v),[],obs⟩,?_,ho,h2.symm,rfl,hkk⟩;simp only[den,CT.tv,TV.av,Yj];rw[aX hk,h1];rfl
   split at h
   ·rename_i hn;exact fin (h4 hn) h
   ·rename_i g hg;have⟨hgt,h⟩:=dZ h;exact fin (h3 g hg hgt) h
  ·cases h
 ·split at h
  ·exact⟨_,_,rfl,trivial,rfl,rfl,h⟩
  ·exact⟨_,_,rfl,trivial,rfl,rfl,h⟩
  ·exact⟨_,_,rfl,trivial,rfl,rfl,h⟩
  ·exact⟨_,_,rfl,trivial,rfl,rfl,h⟩
  ·have⟨hc,h⟩:=dZ h;exact⟨_,_,rfl,show _<=maxLen from of_decide_eq_true hc,rfl,rfl,h⟩
  ·cases h
 ·rw[ai]at h;obtain⟨ti,h1,h⟩:=h;split at h
  ·rename_i hk;refine⟨_,⟨.t (.sc (.bool _)),[],[]⟩,?_,trivial,rfl,rfl,h⟩;simp only[den,CT.tv,TV.av,Yj,h1,af,hk];rfl
  ·rename_i hk;refine⟨_,⟨.t (.sc (.bool _)),[],[]⟩,?_,trivial,rfl,rfl,h⟩;simp only[den,CT.tv,TV.av,Yj,h1,af,hk];rfl
  ·cases h
 ·rw[ai]at h;obtain⟨xs,h1,h⟩:=h;rw[ai]at h;obtain⟨ys,h2,h⟩:=h;rw[ai]at h;obtain⟨ti,h3,h⟩:=h;split at h
  ·cases h
  ·rename_i hc;have⟨b,h4,h⟩:=ai.1 h;have h5:=MB h4;rw[acX h1,acX h2];split at h
   ·refine⟨_,⟨.t (.sc (.bool b)),[],[]⟩,?_,trivial,rfl,rfl,h⟩;simp only[Yj,h3,af];rw[aQ hc,h5];rfl
   ·refine⟨_,⟨.t (.sc (.bool (!b))),[],[]⟩,?_,trivial,rfl,rfl,h⟩;simp only[Yj,h3,af];rw[aQ hc,h5];rfl
   ·cases h
theorem aiE{op:UnOp}{x:DV X}(h:PJ op x k=some r):∃dv ab,Pu op (den x)=some ab/\jl ab.obs/\ab.v=den dv/\ab.upd=[]/\k dv [] [] []=some r:=by
 unfold PJ at h;split at h
 ·exact⟨_,_,rfl,trivial,rfl,rfl,h⟩
 ·exact⟨_,_,rfl,trivial,rfl,rfl,h⟩
 ·cases h
theorem Ri(mx:Bool)(kd:IntKind):∀(l:List (DV X))(a n:Int),Je mx kd a l=some n->Dq mx kd a (bL l)=some n
 |[],a,n,h=>h
 |x::l,a,n,h=>by
  cases x
  case c t y=>
   cases t
   case int k'=>
    simp only[Je]at h;simp only[bL,den,CT.tv,TV.av,Dq];split at h
    ·rename_i hk;rw[aX hk];exact Ri mx kd l _ _ h
    ·cases h
   all_goals simp[Je]at h
  all_goals simp[Je]at h
theorem Zy{mx:Bool}{args:List (DV X)}(h:Ly mx args k=some r):∃dv ab,GC mx (bL args)=some ab/\jl ab.obs/\ab.v=den dv/\ab.upd=[]/\k dv [] [] []=some r:=by
 unfold Ly at h;split at h
 ·rename_i kd a l;rw[ai]at h;obtain⟨n,h1,h⟩:=h;refine⟨_,⟨.t (.sc (.int kd n)),[],[]⟩,?_,trivial,rfl,rfl,h⟩;simp only[bL,den,CT.tv,TV.av,GC];have:=Ri mx kd l a n h1;simp only[this];rfl
 ·cases h
theorem afC{t:TypeId}{x:DV X}(h:VV T t x k=some r):∃cw dv ab,z7 T t (den x) cw=some ab/\jl ab.obs/\ab.v=den dv/\ab.upd=[]/\k dv [] [] []=some r:=by
 unfold VV at h;unfold z7;rw[ai]at h;obtain⟨ti,h1,h⟩:=h;simp only[h1,af];split at h
 ·rename_i e c l hk;simp only[hk];exact⟨.num (l.length:Int),_,⟨.t (.sc (.int .i64 (l.length:Int))),[],[(l.length:Int)=((l.map (CT.row X.toSE c)).length:Int)]⟩,rfl,by simp[jl],rfl,rfl,h⟩
 ·rename_i hk;simp only[hk];exact⟨.none,_,_,rfl,trivial,rfl,rfl,h⟩
 ·rename_i hk;simp only[hk];exact⟨.none,_,_,rfl,trivial,rfl,rfl,h⟩
 ·rename_i hk;simp only[hk];exact⟨.none,_,_,rfl,trivial,rfl,rfl,h⟩
 ·rename_i hk;simp only[hk];exact⟨.none,_,_,rfl,trivial,rfl,rfl,h⟩
 ·cases h
theorem Po(place:Nat->Option (Nat×Nat)):∀(parts:List (Nat×DV X))(cells ab:List (DV X)),Zw place cells parts=some ab->EX place (bL cells) (parts.map λp=>(p.1,den p.2))=some (bL ab)
 |[],cells,ab,h=>by simp only[Zw,aA]at h;subst h;rfl
 |(j,x)::ag,cells,ab,h=>by
  simp only[Zw]at h;rw[ai]at h;obtain⟨⟨aa,size⟩,h1,h⟩:=h;rw[ai]at h;obtain⟨cs,h2,h⟩:=h;split at h
  ·rename_i hl;simp only[aF,EX,h1,Dz h2,af,kS];rw[aX hl,<- Vq];exact Po place ag _ _ h
  ·cases h
theorem aa4{t:TypeId}{parts:List (Nat×DV X)}(h:X2 T t parts k=some r):∃dv ab,UE T t (parts.map λp=>(p.1,den p.2))=some ab/\jl ab.obs/\ab.v=den dv/\ab.upd=[]/\k dv [] [] []=some r:=by
 unfold X2 at h;unfold UE;rw[ai]at h;obtain⟨ti,h1,h⟩:=h;simp only[h1,af];split at h
 ·rename_i fs hk;split at h
  ·rename_i ha;rw[ai]at h;obtain⟨cells,h2,h⟩:=h;have h3:=Po _ _ _ _ h2;rw[Cf]at h3;refine⟨_,⟨.agg (bL cells),[],[]⟩,?_,trivial,rfl,rfl,h⟩;simp only[hk];rw[aX ha,h3];rfl
  ·cases h
 ·rename_i m e hk;rw[ai]at h;obtain⟨ei,h2,h⟩:=h;rw[ai]at h;obtain⟨cells,h3,h⟩:=h;have h4:=Po _ _ _ _ h3;rw[Cf]at h4;refine⟨_,⟨.agg (bL cells),[],[]⟩,?_,trivial,rfl,rfl,h⟩;simp only[hk,h2,af,h4];rfl
 ·cases h
theorem Zz(size:Nat)(c:CT X.ι)(hs:CT.sz X c=size)(z:List AV):∀(parts:List (Nat×DV X))(n:Nat)(l:List (CT.T X.toSE c))(done:List (List AV)),IP c n parts=some l->done.length=n->
 ∃css:List (List AV),LX size (done++List.replicate parts.length z) (parts.map λp=>(p.1,den p.2))=some (done++css)/\css.map (λ r=>r.map wk)=aI (l.map (CT.row X.toSE c))
 |[],n,l,done,h,_=>by
  simp only[IP,aA]at h;subst h;exact⟨[],by simp[LX],rfl⟩
 |(j,x)::ag,n,l,done,h,hd=>by
  simp only[IP]at h;split at h
  ·rename_i hj;subst hj;have⟨y,h1,h⟩:=ai.1 h;have⟨l',h2,h⟩:=ai.1 h;cases h;have⟨cs,g1,g2⟩:=aiC h1;have hl:cs.length=size:=by
    have:=congrArg List.length g2;simp only[length_map,Dy]at this;omega
   obtain⟨css,i1,i2⟩:=Zz size c hs z ag (j+1) l' (done++[cs]) h2 (by simp[hd]);refine⟨cs::css,?_,?_⟩
   ·simp only[aF,LX,g1,af];rw[aX ⟨hl,by simp;omega⟩];have:(done++List.replicate (ag.length+1) z).set j cs=done++[cs]++List.replicate ag.length z:=by
     rw[List.set_append_right _ _ (by omega),hd];simp[List.replicate_succ]
    simp only[bI,this,i1];simp
   ·simp only[aF,i2,g2,aI,aF]
  ·cases h
theorem MC{t:TypeId}{len:Nat}{parts:List (Nat×DV X)}(h:GR T am i t len parts k=some r):∃dv u ab,vO T i t len (parts.map λp=>(p.1,den p.2))=some ab/\jl ab.obs/\ab.v=den dv/\ab.upd=gW [(cJ i,u)]/\k dv [(cJ i,u)] [] []=some r:=by
 unfold GR at h;unfold vO;rw[ai]at h;obtain⟨ti,h1,h⟩:=h;simp only[h1,af];split at h
 ·rename_i e hk;rw[ai]at h;obtain⟨ei,h2,h⟩:=h;rw[ai]at h;obtain⟨c,h3,h⟩:=h;simp only[hk,h2,af];split at h
  ·cases h
  ·rename_i hno;simp only[not_or,Decidable.not_not]at hno;obtain⟨n1,n2,n3,n4⟩:=hno;have⟨l,h4,h⟩:=ai.1 h;have⟨css,g1,g2⟩:=Zz ei.size c n3 (ei.zero.map cv) parts 0 l [] h4 rfl;simp only[bQ,n4]at g1;refine⟨_,_,⟨.own (cJ i) 0 len,[(cJ i,some ⟨ei.size,dW css⟩)],[]⟩,?_,trivial,rfl,?_,h⟩
   ·rw[aQ (by simp only[not_or];exact⟨n1,n2⟩),g1];rfl
   ·simp only[gW,bG,aF,map_nil,Option.map_some,n3];rw[show dW css=aI (l.map (CT.row X.toSE c))from g2]
 ·cases h
theorem aa5{e:TypeId}(h:X1 T i e k=some r):∃dv u ab,UF T i e=some ab/\jl ab.obs/\ab.v=den dv/\ab.upd=gW [(cJ i,u)]/\k dv [(cJ i,u)] [] []=some r:=by
 unfold X1 at h;unfold UF;have⟨ti,h1,h⟩:=ai.1 h;exact⟨_,_,⟨_,[(cJ i,some ⟨ti.size,[ti.zero.map cv]⟩)],[]⟩,by simp only[h1,af];rfl,trivial,rfl,by simp[gW,bG,Cf],h⟩
theorem afD{x:DV X}(h:VM i x k=some r):∃dv u ab,Jn i (den x)=some ab/\jl ab.obs/\ab.v=den dv/\ab.upd=gW [(cJ i,u)]/\k dv [(cJ i,u)] [] []=some r:=by
 unfold VM at h;unfold Jn;rw[ai]at h;obtain⟨cs,h1,h⟩:=h;exact⟨_,_,⟨_,[(cJ i,some ⟨(bL cs).length,[bL cs]⟩)],[]⟩,by simp only[Dz h1,af];rfl,trivial,rfl,by simp[gW,bG,kS],h⟩
theorem Ch{d n:Int}{x:Option (DV X)}(h:An d x=some n):bnd d (x.map den)=some n:=by
 unfold An at h;split at h
 ·exact h
 ·exact h
 ·cases h
theorem ZA{l h:Int}{len:Nat}(hh:AJ l h len=true):0<=l/\l<=h/\h<=(len:Int):=by simpa[AJ,and_assoc]using hh
theorem aa6{t:TypeId}{x:DV X}{lo hi:Option (DV X)}(h:XX T t x lo hi get k=some r):∃cw rd dv ab,UG T t (den x) (lo.map den) (hi.map den) cw (dH rd (fw get))=some ab/\jl ab.obs/\ab.v=den dv/\ab.upd=[]/\k dv [] rd []=some r:=by
 unfold XX at h;unfold UG;rw[ai]at h;obtain⟨ti,h1,h⟩:=h;simp only[h1,af];split at h
 ·rename_i e hk;rw[ai]at h;obtain⟨ei,h2,h⟩:=h;simp only[hk,h2,af];split at h
  ·rename_i kk aa len;rw[ai]at h;obtain⟨o,h3,h⟩:=h;split at h
   ·rename_i hs;rw[ai]at h;obtain⟨l,h4,h⟩:=h;rw[ai]at h;obtain⟨hh,h5,h⟩:=h;have⟨h6,h⟩:=dZ h;refine⟨.none,[kk],_,⟨.own kk (aa+l.toNat) (hh.toNat -l.toNat),[],[0<=l/\l<=hh/\hh<=(len:Int)]⟩,?_,ZA h6,rfl,rfl,h⟩;simp only[den,eu (List.mem_singleton_self kk) h3,af];rw[aX hs,Ch h4,af,Ch h5];rfl
   ·cases h
  ·rename_i c xs;split at h
   ·rename_i hs;have⟨l,h4,h⟩:=ai.1 h;have⟨hh,h5,h⟩:=ai.1 h;have⟨h6,h⟩:=dZ h;refine⟨.AF ((sub xs l.toNat (hh.toNat -l.toNat)).map (CT.row X.toSE c)),[],_,⟨.t (.sl ((sub xs l.toNat (hh.toNat -l.toNat)).map (CT.row X.toSE c))),[],[0<=l/\l<=hh/\hh<=((xs.map (CT.row X.toSE c)).length:Int)/\(sub xs l.toNat (hh.toNat -l.toNat)).map (CT.row X.toSE c)=((xs.map (CT.row X.toSE c)).drop l.toNat).take (hh.toNat -l.toNat)/\(∀ q∈xs.map (CT.row X.toSE c),q.length=ei.size)]⟩,?_,?_,rfl,rfl,h⟩
    ·simp only[den,CT.tv,TV.av,Ch h4,af];have h7:bnd ((xs.map (CT.row X.toSE c)).length:Int) (hi.map den)=some hh:=by
      have:=Ch h5;simpa using this
     rw[h7];rfl
    ·have⟨a1,a2,a3⟩:=ZA h6;refine⟨a1,a2,by simpa using a3,by simp[sub,map_take,map_drop],λq hq=>?_⟩;obtain⟨y,_,rfl⟩:=mem_map.1 hq;rw[Dy];exact hs
   ·cases h
  ·cases h
 ·cases h
end
section
variable {X:SX} {A:Type} {T:ea} {am:TypeId->Option (CT X.ι)} {get:Nat->Option (bm X)} {k:KK X A} {r:A} {i:Nat}
theorem jc{b c:CT X.ι}{l:List (CT.T X.toSE b)}{l':List (CT.T X.toSE c)}(h:jr (.sl b) (.sl c) l=some l'):CT.sz X b=CT.sz X c/\l.map (CT.row X.toSE b)=l'.map (CT.row X.toSE c):=by
 have⟨e,h⟩:=q8 h;cases e;subst h;exact⟨rfl,rfl⟩
theorem acY{y:DV X}{c:CT X.ι}{n:Nat}{l:List (CT.T X.toSE c)}{rd:List Nat}(h:VC y c get=some (n,l,rd))(hl:l.length=n)(rd':List Nat)(hrd:∀j∈rd,j∈rd'):
 ∃ob,UH (CT.sz X c) (den y) (dH rd' (fw get))=some (n,ob,aI (l.map (CT.row X.toSE c)))/\ob:=by
 unfold VC at h;split at h
 ·rename_i kk aa len;rw[ai]at h;obtain⟨o,h1,h⟩:=h;split at h
  ·rename_i b l0;rw[ai]at h;obtain⟨l1,h2,h⟩:=h;injection h with h;simp only[Prod.mk.injEq]at h;obtain⟨rfl,rfl,rfl⟩:=h;have⟨h3,h4⟩:=jc h2;refine⟨True,?_,trivial⟩;simp only[den,UH,eu (hrd kk (by simp)) h1,af,bG];rw[aX h3];simp only[h4,aA,Prod.mk.injEq,true_and];simp[aI,sub,map_take,map_drop]
  ·cases h
 ·rename_i b l0;have⟨l1,h2,h⟩:=ai.1 h;injection h with h;simp only[Prod.mk.injEq]at h;obtain⟨rfl,rfl,rfl⟩:=h;refine⟨∀ q∈l1.map (CT.row X.toSE c),q.length=CT.sz X c,?_,?_⟩
  ·rw[(nY h2).1];simp only[den,CT.tv,TV.av,UH,length_map]
  ·intro q hq;obtain⟨z,_,rfl⟩:=mem_map.1 hq;exact Dy c z
 ·cases h
theorem Vu{lo len ln n bytes:Nat}(h:bP lo len ln n bytes=true):lo=len/\ln=n/\(len+n)*bytes<=140737488355328/\len+n<=maxLen:=by simpa[bP,and_assoc]using h
theorem pj{α:Type}(n:Nat)(l:List α):Vo n l=l.drop n:=by cases n<;>rfl
theorem Yw{t:TypeId}{x y:DV X}(h:aaZ T am i t x y get k=some r):∃cw rd wr dv upd ab,zL T i t (den x) (den y) cw (dH rd (fw get))=some ab/\jl ab.obs/\ab.v=den dv/\ab.upd=gW upd/\(∀ p∈upd,p.1=cJ i\/p.1∈wr)/\k dv upd rd wr=some r:=by
 unfold aaZ at h;unfold zL;rw[ai]at h;obtain⟨ti,h1,h⟩:=h;simp only[h1,af];split at h
 ·rename_i e hk;rw[ai]at h;obtain⟨ei,h2,h⟩:=h;rw[ai]at h;obtain⟨c,h3,h⟩:=h;simp only[hk,h2,af];split at h
  ·rename_i hs;rw[ai]at h;obtain⟨⟨n,l,rd⟩,h4,h⟩:=h;split at h
   ·rename_i kk aa len;rw[ai]at h;obtain⟨o,h5,h⟩:=h;split at h
    ·rename_i b l0;have⟨l1,h6,h⟩:=ai.1 h;have⟨h7,h⟩:=dZ h;rw[pj]at h7 h;have hd:(aI (l1.map (CT.row X.toSE c))).drop aa=aI ((l1.drop aa).map (CT.row X.toSE c)):=(by simp[aI]);have⟨g1,g2,g3,g4⟩:=Vu h7;have⟨h8,h9⟩:=jc h6;obtain⟨ob,i1,i2⟩:=acY h4 g2 (kk::rd) (λ j hj=>by simp[hj]);have i3:=eu (rd:=kk::rd) (by simp) h5
     refine⟨.rows (aI ((l1.drop aa++l).map (CT.row X.toSE c))),kk::rd,[kk],_,_,⟨.own (cJ i) 0 (aI ((l1.drop aa++l).map (CT.row X.toSE c))).length,[(cJ i,some ⟨ei.size,aI ((l1.drop aa++l).map (CT.row X.toSE c))⟩),(kk,none)],
      [ob/\(aI ((l1.drop aa).map (CT.row X.toSE c))).length=len/\(aI (l.map (CT.row X.toSE c))).length=n/\aI ((l1.drop aa++l).map (CT.row X.toSE c))=aI ((l1.drop aa).map (CT.row X.toSE c))++aI (l.map (CT.row X.toSE c))/\(len+n)*ei.bytes<=140737488355328/\len+n<=maxLen]⟩,?_,?_,?_,?_,?_,h⟩
     ·rw[hs]at i1;simp only[i1,af,den,i3,bG,h9,hd];rw[aX (by rw[h8,hs])]
     ·exact⟨i2,by simpa[aI]using g1,by simpa[aI]using g2,by simp[aI],g3,g4⟩
     ·simp[den,aI]
     ·simp[gW,bG,hs]
     ·intro p hp;simp only[aN,fu,or_false]at hp;rcases hp with rfl |rfl
      ·exact .inl rfl
      ·exact .inr (by simp)
    ·cases h
   ·have⟨h7,h⟩:=dZ h;have⟨g1,g2,g3,g4⟩:=Vu h7;obtain⟨ob,i1,i2⟩:=acY h4 g2 rd (λ j hj=>hj)
    refine⟨.rows (aI (l.map (CT.row X.toSE c))),rd,[],_,_,⟨.own (cJ i) 0 (aI (l.map (CT.row X.toSE c))).length,[(cJ i,some ⟨ei.size,aI (l.map (CT.row X.toSE c))⟩)],
     [ob/\(aI (l.map (CT.row X.toSE c))).length=n/\aI (l.map (CT.row X.toSE c))=aI (l.map (CT.row X.toSE c))/\n*ei.bytes<=140737488355328/\n<=maxLen]⟩,?_,?_,?_,?_,?_,h⟩
    ·rw[hs]at i1;simp only[i1,af,den]
    ·exact⟨i2,by simpa[aI]using g2,rfl,by simpa using g3,by simpa using g4⟩
    ·simp[den,aI]
    ·simp[gW,bG,hs]
    ·intro p hp;simp only[aN,fu,or_false]at hp;rcases hp with rfl;exact .inl rfl
   ·cases h
  ·cases h
 ·cases h
def aoG(T:ea)(i:Nat)(o:Oper)(ρ:Operand->DV X)(get:Nat->Option (bm X))(k:KK X A)(r:A):Prop:=
 ∃cw rd wr dv upd ab,pU T i o cw (λ x=>den (ρ x)) (dH rd (fw get))=some ab/\jl ab.obs/\ab.v=den dv/\ab.upd=gW upd/\(∀ p∈upd,p.1=cJ i\/p.1∈wr)/\k dv upd rd wr=some r
theorem Vv{b:Builtin}{args:List (DV X)}{cQ:List TypeId}(h:Vp T am i b args cQ get k=some r):∃cw rd wr dv upd ab,Ca T i b (bL args) cQ cw (dH rd (fw get))=some ab/\jl ab.obs/\ab.v=den dv/\ab.upd=gW upd/\(∀ p∈upd,p.1=cJ i\/p.1∈wr)/\k dv upd rd wr=some r:=by
 unfold Vp at h;unfold Ca;split at h
 ·have⟨cw,dv,ab,h1,h2,h3,h4,h5⟩:=afC h;exact⟨cw,[],[],dv,[],ab,h1,h2,h3,h4,by simp,h5⟩
 ·have⟨dv,ab,h1,h2,h3,h4,h5⟩:=Zy h;exact⟨.none,[],[],dv,[],ab,h1,h2,h3,h4,by simp,h5⟩
 ·have⟨dv,ab,h1,h2,h3,h4,h5⟩:=Zy h;exact⟨.none,[],[],dv,[],ab,h1,h2,h3,h4,by simp,h5⟩
 ·split at h
  ·rename_i htu;have⟨cw,rd,wr,dv,upd,ab,h1,h2⟩:=Yw h;refine⟨cw,rd,wr,dv,upd,ab,?_,h2⟩;simp only[bL];rw[aX htu];exact h1
  ·cases h
 ·cases h
theorem Ug(ρ:Operand->DV X)(l:List Operand):l.map (λ x=>den (ρ x))=bL (l.map ρ):=by rw[nM,map_map];rfl
theorem ZB{o:Oper}{ρ:Operand->DV X}(h:Lw T am i o.op ρ get k=some r):aoG T i o ρ get k r:=by
 obtain⟨dst,op,ty,ao,after,guard⟩:=o;unfold aoG pU;simp only at h;unfold Lw at h;split at h
 ·exact⟨.none,[],[],_,[],_,rfl,trivial,rfl,rfl,by simp,h⟩
 ·exact⟨.none,[],[],_,[],_,rfl,trivial,rfl,rfl,by simp,h⟩
 ·rename_i c a b;split at h
  ·rename_i t hc;refine⟨.none,[],[],_,[],⟨Kx t (den (ρ a)) (den (ρ b)),[],[]⟩,?_,trivial,(aiA t _ _).symm,rfl,by simp,h⟩;simp only[hc,den,CT.tv,TV.av,pv]
  ·cases h
 ·have⟨dv,u,ab,h1,h2,h3,h4,h5⟩:=aa5 h;exact⟨.none,[],[],dv,_,ab,h1,h2,h3,h4,by simp,h5⟩
 ·have⟨dv,u,ab,h1,h2,h3,h4,h5⟩:=afD h;exact⟨.none,[],[],dv,_,ab,h1,h2,h3,h4,by simp,h5⟩
 ·rename_i t parts;have⟨dv,ab,h1,h2,h3,h4,h5⟩:=aa4 h;refine⟨.none,[],[],dv,[],ab,?_,h2,h3,h4,by simp,h5⟩;rw[map_map]at h1;exact h1
 ·rename_i t len parts;have⟨dv,u,ab,h1,h2,h3,h4,h5⟩:=MC h;refine⟨.none,[],[],dv,_,ab,?_,h2,h3,h4,by simp,h5⟩;rw[map_map]at h1;exact h1
 ·have⟨cw,rd,dv,ab,h1,h2,h3,h4,h5⟩:=aiB h;exact⟨cw,rd,[],dv,[],ab,h1,h2,h3,h4,by simp,h5⟩
 ·have⟨cw,kk,u,ab,h1,h2,h3,h4,h5⟩:=aiD h;exact⟨cw,[kk],[kk],.undef,_,ab,h1,h2,h3,h4,by simp,h5⟩
 ·have⟨dv,ab,h1,h2,h3,h4,h5⟩:=afB h;exact⟨.none,[],[],dv,[],ab,h1,h2,h3,h4,by simp,h5⟩
 ·have⟨dv,ab,h1,h2,h3,h4,h5⟩:=aiE h;exact⟨.none,[],[],dv,[],ab,h1,h2,h3,h4,by simp,h5⟩
 ·rename_i f first caps
  refine⟨.none,[],[],_,[],⟨.fn f (first.toList.map λx=>den (ρ x)) (caps.toList.map λx=>den (ρ x)),[],[]⟩,rfl,trivial,?_,rfl,by simp,h⟩;simp only[den,Ug]
 ·rename_i t x lo hi;have⟨cw,rd,dv,ab,h1,h2,h3,h4,h5⟩:=aa6 h;refine⟨cw,rd,[],dv,[],ab,?_,h2,h3,h4,by simp,h5⟩;simp only[Option.map_map]at h1;exact h1
 ·have⟨dv,ab,h1,h2,h3,h4,h5⟩:=Pm h;exact⟨.none,[],[],dv,[],ab,h1,h2,h3,h4,by simp,h5⟩
 ·have⟨dv,ab,h1,h2,h3,h4,h5⟩:=aa2 h;exact⟨.none,[],[],dv,[],ab,h1,h2,h3,h4,by simp,h5⟩
 ·have⟨cw,rd,dv,ab,h1,h2,h3,h4,h5⟩:=Pn h;exact⟨cw,rd,[],dv,[],ab,h1,h2,h3,h4,by simp,h5⟩
 ·have⟨dv,ab,h1,h2,h3,h4,h5⟩:=Vt h;exact⟨.none,[],[],dv,[],ab,h1,h2,h3,h4,by simp,h5⟩
 ·rename_i b args cQ;have⟨cw,rd,wr,dv,upd,ab,h1,h2⟩:=Vv h;refine⟨cw,rd,wr,dv,upd,ab,?_,h2⟩;simp only[Ug];exact h1
 ·cases h
end
inductive Pt(ι:Type) where
 |v (c:CT ι)
 |o (k:Nat)
 |p (k:Nat)
 |nil
 |f (F:FuncId) (fs cs:List (Pt ι))
 |od (k:Nat)
 |mp (k:Nat)
 |oz (k:Nat)
 |a (ps:List (Pt ι))
inductive OP(ι:Type) where
 |l (c:CT ι)
 |m (k v:CT ι)
 |c (sz:Nat) (rows:List (List (Pt ι)))
section
variable {ι:Type}
mutual
def Pt.vars:Pt ι->List (CT ι)
 | .v c=>[c]
 | .a ps=>cP ps
 | .f _ fs cs=>cP fs++cP cs
 | .od _=>[.int .i64]
 |_=>[]
def cP:List (Pt ι)->List (CT ι)
 |[]=>[]
 |p::ps=>p.vars++cP ps
end
def gE:List (Nat×Pt ι)->List (CT ι)
 |[]=>[]
 |p::ps=>p.2.vars++gE ps
def vS:List (List (Pt ι))->List (CT ι)
 |[]=>[]
 |r::rs=>cP r++vS rs
def cH:List (Nat×OP ι)->List (CT ι)
 |[]=>[]
 |(_,.l c)::r=> .sl c::cH r
 |(_,.m k v)::r=> .mp k v::cH r
 |(_,.c _ rows)::r=>vS rows++cH r
end
section
variable {X:SX}
structure DC(X:SX) where
 c:CT X.ι
 x:CT.T X.toSE c
@[reducible] def VT:List (CT X.ι)->Type
 |[]=>Unit
 |[c]=>CT.T X.toSE c
 |c::c'::l=>CT.T X.toSE c×VT (c'::l)
def Yx:(l:List (CT X.ι))->List (DC X)->Option (VT (X:=X) l)
 |[],[]=>some ()
 |[c],[d]=>jr d.c c d.x
 |c::c'::l,d::ds=>(jr d.c c d.x).bind λx=>(Yx (c'::l) ds).bind λv=>some (x,v)
 |_,_=>none
def vT:(l:List (CT X.ι))->VT (X:=X) l->List (DC X)
 |[],_=>[]
 |[c],x=>[⟨c,x⟩]
 |c::c'::l,v=>⟨c,v.1⟩::vT (c'::l) v.2
theorem acZ{d:DC X}{c:CT X.ι}{x:CT.T X.toSE c}(h:jr d.c c d.x=some x):(⟨c,x⟩:DC X)=d:=by
 obtain⟨a,y⟩:=d;have⟨e,h⟩:=q8 h;simp only at e;subst e;subst h;rfl
theorem Vw:∀{l:List (CT X.ι)}{ds:List (DC X)}{v:VT (X:=X) l},Yx l ds=some v->vT l v=ds
 |[],[],_,_=>rfl
 |[c],[d],v,h=>by simp only[Yx]at h;simp only[vT,acZ h]
 |c::c'::l,d::ds,v,h=>by
  simp only[Yx]at h;rw[ai]at h;obtain⟨x,h1,h⟩:=h;rw[ai]at h;obtain⟨v',h2,h⟩:=h;cases h;simp only[vT,acZ h1,Vw h2]
 |[],_::_,_,h=>by simp[Yx]at h
 |[_],[],_,h=>by simp[Yx]at h
 |[_],_::_::_,_,h=>by simp[Yx]at h
 |_::_::_,[],_,h=>by simp[Yx]at h
theorem Vx{c:CT X.ι}(x:CT.T X.toSE c):jr c c x=some x:=by
 unfold jr;split
 ·rfl
 ·rename_i h _;exact absurd rfl h
def ZC(d:DC X):Nat:=match jr d.c (.int .i64) d.x with |some x=>Int.toNat x |none=>0
section
variable (dt:Nat->Nat)
mutual
def eP:Pt X.ι->List (DC X)->DV X×List (DC X)
 | .v _,L=>match L with
  |d::r=>(.c d.c d.x,r)
  |[]=>(.undef,[])
 | .o k,L=>(.own k 0 (dt k),L)
 | .p k,L=>(.ptr k 0 0,L)
 | .mp k,L=>(.mp k,L)
 | .oz k,L=>(.oz k (dt k),L)
 | .nil,L=>(.nil,L)
 | .f F fs cs,L=>(.fn F (lh fs L).1 (lh cs (lh fs L).2).1,(lh cs (lh fs L).2).2)
 | .od k,L=>match L with
  |d::r=>(.own k (ZC d) (dt k -ZC d),r)
  |[]=>(.undef,[])
 | .a ps,L=>(.agg (lh ps L).1,(lh ps L).2)
def lh:List (Pt X.ι)->List (DC X)->List (DV X)×List (DC X)
 |[],L=>([],L)
 |p::ps,L=>((eP p L).1::(lh ps (eP p L).2).1,(lh ps (eP p L).2).2)
end
def KJ:List (Nat×Pt X.ι)->List (DC X)->List (Nat×DV X)
 |[],_=>[]
 |(t,p)::r,L=>(t,(eP dt p L).1)::KJ r (eP dt p L).2
def vU:List (List (Pt X.ι))->List (DC X)->List (List (DV X))×List (DC X)
 |[],L=>([],L)
 |r::rs,L=>((lh dt r L).1::(vU rs (lh dt r L).2).1,(vU rs (lh dt r L).2).2)
def dn:List (Nat×OP X.ι)->List (DC X)->List (Nat×Option (bm X))
 |[],_=>[]
 |(k,.l _)::r,L=>match L with
  |⟨.sl c',x⟩::L=>(k,some (.d8 c' x))::dn r L
  |_=>[]
 |(k,.m _ _)::r,L=>match L with
  |⟨.mp kc vc,x⟩::L=>(k,some (.map kc vc x))::dn r L
  |_=>[]
 |(k,.c sz rows)::r,L=>(k,some (.cells sz (vU dt rows L).1))::dn r (vU dt rows L).2
end
def lens:List (Nat×OP X.ι)->List (DC X)->List (Nat×Nat)
 |[],_=>[]
 |(k,.l _)::r,L=>match L with
  |⟨.sl _,x⟩::L=>(k,List.length x)::lens r L
  |_=>[]
 |(_,.m _ _)::r,L=>lens r (L.drop 1)
 |(_,.c _ rows)::r,L=>lens r (L.drop (vS rows).length)
def lj:Nat->List (Pt X.ι)->List (Nat×Pt X.ι)
 |_,[]=>[]
 |n,p::ps=>(n,p)::lj (n+1) ps
theorem Pp:∀(n:Nat)(ps:List (Pt X.ι)),gE (lj n ps)=cP ps
 |_,[]=>rfl
 |n,p::ps=>by simp only[lj,gE,cP,Pp (n+1) ps]
structure cX(X:SX) where
 px:List (Pt X.ι)
 iz:List (Nat×OP X.ι)
 fy:List (Pt X.ι)
 ix:List (Nat×OP X.ι)
 fn:VT (X:=X) (cP px++cH iz)->Option (VT (X:=X) (gE (lj 0 fy)++cH ix))
def AL(O:List (Nat×OP X.ι))(L:List (DC X))(k:Nat):Nat:=(lk (lens O L) k).getD 0
def Vy(ps:List (Pt X.ι))(O:List (Nat×OP X.ι))(L:List (DC X)):List (DV X):=(lh (AL O (L.drop (cP ps).length)) ps (L.take (cP ps).length)).1
def K0(ps:List (Pt X.ι))(O:List (Nat×OP X.ι))(L:List (DC X)):List (Nat×Option (bm X)):=dn (AL O (L.drop (cP ps).length)) O (L.drop (cP ps).length)
def yD:List (DV X)->DV X
 |[d]=>d
 |ds=> .eC ds
def dG:List (Nat×Option (bm X))->List (Nat×bm X)
 |[]=>[]
 |(k,some o)::r=>(k,o)::dG r
 |(_,none)::r=>dG r
def sJ(l:List (Nat×bm X)):List (Nat×aS):=l.map λp=>(p.1,bG p.2)
def cX.args(g:cX X)(v:VT (X:=X) (cP g.px++cH g.iz)):List (DV X):=Vy g.px g.iz (vT _ v)
def cX.cE(g:cX X)(v:VT (X:=X) (cP g.px++cH g.iz)):List (Nat×bm X):=dG (K0 g.px g.iz (vT _ v))
def cX.res(g:cX X)(r:VT (X:=X) (gE (lj 0 g.fy)++cH g.ix)):DV X:=yD (Vy g.fy g.ix (vT _ r))
def cX.outs(g:cX X)(r:VT (X:=X) (gE (lj 0 g.fy)++cH g.ix)):List (Nat×bm X):=dG (K0 g.fy g.ix (vT _ r))
def FG(P:Program)(f:FuncId)(g:cX X):Prop:=∀v r,g.fn v=some r->ye P f (bL (g.args v)) ((g.cE v).map λp=>bG p.2) (sJ (g.outs r)) (den (g.res r))
end
inductive AT(ι:Type) where
 |d (c:CT ι)
 |ref (c:CT ι)
 |d7 (as:List (CT ι)) (r:CT ι)
 |mut (c:CT ι)
 |ju (c:CT ι)
 |nil
 deriving DecidableEq
def AT.im{ι:Type}:AT ι->Bool
 | .mut _ | .ju _=>true
 |_=>false
def AT.pl{ι:Type}:AT ι->Bool
 | .mut _ | .ju _ | .nil=>false
 |_=>true
inductive RT(ι:Type) where
 |d (c:CT ι)
 |fresh (e:CT ι)
 |whole (j:Nat)
 |mu (c:CT ι)
 |mr (c:CT ι)
 |mv
def RT.out{ι:Type}:RT ι->Bool
 | .mu _ | .mr _ | .mv=>true
 |_=>false
section
variable (X:SX)
@[reducible] def AT.T:AT X.ι->Type
 | .d c=>CT.T X.toSE c
 | .ref c=>CT.T X.toSE c
 | .d7 as r=>HL X.toSE as->Option (CT.T X.toSE r)
 | .mut c=>List (CT.T X.toSE c)
 | .ju c=>CT.T X.toSE c
 | .nil=>Unit
@[reducible] def RT.T:RT X.ι->Type
 | .d c=>CT.T X.toSE c
 | .fresh e=>List (CT.T X.toSE e)
 | .whole _=>Unit
 | .mu c=>List (CT.T X.toSE c)
 | .mr c=>CT.T X.toSE c
 | .mv=>Unit
@[reducible] def iF:List (AT X.ι)->Type
 |[]=>Unit
 |a::l=>AT.T X a×iF l
@[reducible] def sD:List (RT X.ι)->Type
 |[]=>Unit
 |[r]=>RT.T X r
 |r::r'::l=>RT.T X r×sD (r'::l)
structure bx where
 args:List (AT X.ι)
 res:List (RT X.ι)
 fn:iF X args->Option (sD X res)
 gen:Option (cX X):=none
variable {X}
def dO:Nat->(l:List (AT X.ι))->iF X l->List AV
 |_,[],_=>[]
 |n,.d c::l,a=>(CT.tv X.toSE c a.1).av::dO n l a.2
 |n,.ref c::l,a=> .eo (CT.row X.toSE c a.1) 0::dO n l a.2
 |n,.d7 as r::l,a=>den (.d7 as r a.1:DV X)::dO n l a.2
 |n,.mut _::l,a=> .own n 0 (List.length a.1)::dO (n+1) l a.2
 |n,.ju _::l,a=> .ptr n 0 0::dO (n+1) l a.2
 |n,.nil::l,a=> .cV::dO n l a.2
abbrev vV(l:List (AT X.ι))(a:iF X l):List AV:=dO 0 l a
def q9(c:CT X.ι)(l:List (CT.T X.toSE c)):fe:=(CT.sz X c,l.map (CT.row X.toSE c))
def pX:(l:List (AT X.ι))->iF X l->List fe
 |[],_=>[]
 | .mut c::l,a=>q9 c a.1::pX l a.2
 | .ju c::l,a=>q9 c [a.1]::pX l a.2
 | .d _::l,a=>pX l a.2
 | .ref _::l,a=>pX l a.2
 | .d7 _ _::l,a=>pX l a.2
 | .nil::l,a=>pX l a.2
def pY:(r:RT X.ι)->RT.T X r->List (Option fe)
 | .mu c,x=>[some (q9 c x)]
 | .mr c,x=>[some (q9 c [x])]
 | .mv,_=>[none]
 |_,_=>[]
def nN:(l:List (RT X.ι))->sD X l->List (Option fe)
 |[],_=>[]
 |[r],x=>pY r x
 |r::r'::l,x=>pY r x.1++nN (r'::l) x.2
def Yy:(r:RT X.ι)->RT.T X r->List Nat
 | .mu _,x=>[List.length x]
 | .mr _,_=>[1]
 | .mv,_=>[0]
 |_,_=>[]
def xF:(l:List (RT X.ι))->sD X l->List Nat
 |[],_=>[]
 |[r],x=>Yy r x
 |r::r'::l,x=>Yy r x.1++xF (r'::l) x.2
def Vz(ns:List Nat):(r:RT X.ι)->RT.T X r->List RC
 | .d c,x=>[.d (CT.tv X.toSE c x)]
 | .fresh e,l=>[.fresh (CT.sz X e) (l.map (CT.row X.toSE e))]
 | .whole j,_=>[.whole j (ns.getD j 0)]
 |_,_=>[]
def AO(ns:List Nat):(l:List (RT X.ι))->sD X l->List RC
 |[],_=>[]
 |[r],x=>Vz ns r x
 |r::r'::l,x=>Vz ns r x.1++AO ns (r'::l) x.2
def sK(l:List (RT X.ι))(x:sD X l):RV:=
 match AO (xF l x) l x with
 |[c]=> .one c
 |cs=> .eC cs
def sC(P:Program)(Γ:FuncId->Option (bx X)):Prop:=
 ∀f s,Γ f=some s->eO P f/\(∀ a r,s.fn a=some r->qn P f (vV s.args a) (pX s.args a) (nN s.res r) (sK s.res r))/\∀g,s.gen=some g->FG P f g
theorem aoH:∀{l:List (AT X.ι)},(l.all λq=>q.pl)=true->(l.all λq=>!q.im)=true:=λ{l} h=>by
 rw[all_eq_true]at h ⊢;intro q hq;have:=h q hq;cases q<;>simp_all [AT.pl,AT.im]
theorem vW:∀{l:List (AT X.ι)}{a:iF X l},(l.all λq=>!q.im)=true->pX l a=[]
 |[],_,_=>rfl
 | .d _::l,a,h=>vW (l:=l) (by simpa[AT.im]using h)
 | .ref _::l,a,h=>vW (l:=l) (by simpa[AT.im]using h)
 | .d7 _ _::l,a,h=>vW (l:=l) (by simpa[AT.im]using h)
 | .mut _::l,a,h=>by simp[AT.im]at h
 | .ju _::l,a,h=>by simp[AT.im]at h
 | .nil::l,a,h=>vW (l:=l) (by simpa[AT.im]using h)
theorem ac1{r:RT X.ι}{x:RT.T X r}(h:(!r.out)=true):pY r x=[]:=by cases r<;>first |rfl |simp[RT.out]at h
theorem ac2:∀{l:List (RT X.ι)}{x:sD X l},(l.all λq=>!q.out)=true->nN l x=[]
 |[],_,_=>rfl
 |[r],x,h=>ac1 (by simpa using h)
 |r::r'::l,x,h=>by
  simp only[all_cons,aL]at h;simp only[nN,ac1 h.1,bQ];exact ac2 (l:=r'::l) (by simp only[all_cons,aL];exact h.2)
mutual
def bk:DV X->List Nat
 | .own k _ _=>[k]
 | .ptr k _ _=>[k]
 | .qr k _ _=>[k]
 | .tg k _ _ _ _=>[k]
 | .mp k=>[k]
 | .oz k _=>[k]
 | .agg cs=>aP cs
 | .eC cs=>aP cs
 | .fn _ first caps=>aP first++aP caps
 |_=>[]
def aP:List (DV X)->List Nat
 |[]=>[]
 |x::xs=>bk x++aP xs
end
theorem zQ(c:CT X.ι)(x:CT.T X.toSE c):refs (CT.tv X.toSE c x).av=[]:=by
 cases c<;>try rfl
 rename_i i;show eT ((X.row i x).map AV.t)=[];generalize X.row i x=l
 induction l with
 |nil=>rfl
 |cons y ys ih=>simp only[aF,eT,refs,ih,bQ]
mutual
theorem iL:∀x:DV X,refs (den x)=bk x
 | .c t x=>zQ t x
 | .agg cs=>by simp only[den,refs,bk,gY cs]
 | .eC cs=>by simp only[den,refs,bk,gY cs]
 | .own _ _ _=>rfl
 | .ptr _ _ _=>rfl
 | .qr _ _ _=>rfl
 | .mp _=>rfl
 | .oz _ _=>rfl
 | .tg _ _ _ _ _=>rfl
 | .rp _ _ _=>rfl
 | .ws _ _ _ _ _=>rfl
 | .fn f first caps=>by simp only[den,refs,bk,gY first,gY caps]
 | .d7 _ _ _=>rfl
 | .raw v=>by
  simp only[den,bk,cv];split
  ·rfl
  ·split<;>rfl
 | .nil=>rfl
 | .ub=>rfl
 | .skip=>rfl
 | .undef=>rfl
theorem gY:∀l:List (DV X),eT (bL l)=aP l
 |[]=>rfl
 |x::xs=>by simp only[bL,eT,aP,iL x,gY xs]
end
def Rj(get:Nat->Option (bm X))(d:DV X)(c:CT X.ι):Option (CT.T X.toSE c×List Bool):=
 match d,c with
 | .own kk aa len,.sl e=>(get kk).bind λo=>match o with
  | .d8 b l=>(jr (.sl b) (.sl e) l).bind λ(l:List (CT.T X.toSE e))=>some (sub l aa len,[az (sub l aa len).length len])
  |_=>none
 | .own kk aa len,.any=>(get kk).bind λo=>match o with
  | .d8 b l=>some (.sl (List.map (CT.row X.toSE b) (sub l aa len)),[az (sub l aa len).length len])
  |_=>none
 | .oz kk len,.sl e=>(get kk).bind λo=>match o with
  | .d8 b l=>(jr (.sl b) (.sl e) l).bind λ(l:List (CT.T X.toSE e))=>some (sub l 0 len,[az (sub l 0 len).length len])
  |_=>none
 |d,c=>(JK d c).bind λx=>some (x,[])
def wN(get:Nat->Option (bm X)):List (DV X)->(l:List (CT X.ι))->Option (HL X.toSE l×List Bool)
 |[],[]=>some ((),[])
 |d::ds,c::l=>(Rj get d c).bind λx=>(wN get ds l).bind λh=>some ((x.1,h.1),x.2++h.2)
 |_,_=>none
def ZE(get:Nat->Option (bm X))(d:DV X)(i:X.ι):Option (CT.T X.toSE (.st i)×List Bool):=
 match d with
 | .agg cs=>(wN get cs (X.cQ i)).bind λh=>some (X.make i h.1,h.2)
 | .c a x=>(jr a (.st i) x).bind λx=>some (x,[])
 |_=>none
def E9(get:Nat->Option (bm X))(d:DV X)(c:CT X.ι):Option (CT.T X.toSE c×List Bool):=
 match c with
 | .st i=>ZE get d i
 |c=>Rj get d c
def WP(get:Nat->Option (bm X))(d:DV X)(c:CT X.ι):Option (CT.T X.toSE c):=
 match d with
 | .ptr kk row 0=>(get kk).bind λo=>match o with
  | .cells _ rows=>(rows[row]?).bind λq=>if q.all (λ x=>match x with | .c _ _=>true |_=>false)then GN c q else none
  |_=>none
 | .rp a x 0=>jr a c x
 |_=>none
def uk:(l l':List (AT X.ι))->iF X l->iF X l'->iF X (l++l')
 |[],_,_,b=>b
 |_::l,l',a,b=>(a.1,uk l l' a.2 b)
def hlA:(as:List (CT X.ι))->HL X.toSE as->iF X (as.map AT.d)
 |[],_=>()
 |_::l,h=>(h.1,hlA l h.2)
def p8:List (AT X.ι)->Nat
 |[]=>0
 |q::l=>(if q.im then 1 else 0)+p8 l
theorem kT:∀(n:Nat)(l l':List (AT X.ι))(a:iF X l)(b:iF X l'),dO n (l++l') (uk l l' a b)=dO n l a++dO (n+p8 l) l' b
 |n,[],_,_,_=>rfl
 |n,.d c::l,l',a,b=>by simp[dO,uk,kT n l l' a.2 b,p8,AT.im]
 |n,.ref c::l,l',a,b=>by simp[dO,uk,kT n l l' a.2 b,p8,AT.im]
 |n,.d7 as r::l,l',a,b=>by simp[dO,uk,kT n l l' a.2 b,p8,AT.im]
 |n,.mut c::l,l',a,b=>by simp[dO,uk,kT (n+1) l l' a.2 b,p8,AT.im,Nat.add_assoc]
 |n,.ju c::l,l',a,b=>by simp[dO,uk,kT (n+1) l l' a.2 b,p8,AT.im,Nat.add_assoc]
 |n,.nil::l,l',a,b=>by simp[dO,uk,kT n l l' a.2 b,p8,AT.im]
theorem Jf:∀(n:Nat)(as:List (CT X.ι))(h:HL X.toSE as),dO n (as.map AT.d) (hlA as h)=(HL.np X.toSE as h).map TV.av
 |_,[],_=>rfl
 |n,c::l,h=>congrArg ((CT.tv X.toSE c h.1).av:: ·) (Jf n l h.2)
def anN{a b:CT X.ι}(h:a=b)(o:Option (CT.T X.toSE a)):Option (CT.T X.toSE b):=h ▸ o
def j3(get:Nat->Option (bm X))(pn:FuncId->List (DV X)->List (DV X)->(as:List (CT X.ι))->(r:CT X.ι)->Option ((HL X.toSE as->Option (CT.T X.toSE r))×List Bool)):List (DV X)->(l:List (AT X.ι))->Option (iF X l×List Bool)
 |[],[]=>some ((),[])
 |d::ds,.d c::l=>(E9 get d c).bind λx=>(j3 get pn ds l).bind λh=>some ((x.1,h.1),x.2++h.2)
 |d::ds,.ref c::l=>(WP get d c).bind λx=>(j3 get pn ds l).bind λh=>some ((x,h.1),h.2)
 |d::ds,.d7 as r::l=>(match d with
  | .d7 as' r' φ=>if h:as'=as/\r'=r then some (λ x=>anN h.2 (φ (h.1 ▸ x)),[])else none
  | .fn f first caps=>pn f first caps as r
  |_=>none).bind λφ=>(j3 get pn ds l).bind λq=>some ((φ.1,q.1),φ.2++q.2)
 |_,_=>none
def Rk(Γ:FuncId->Option (bx X))(get:Nat->Option (bm X)):Nat->List (DV X)->(l:List (AT X.ι))->Option (iF X l×List Bool)
 | 0,ds,l=>j3 get (λ _ _ _ _ _=>none) ds l
 |n+1,ds,l=>j3 get (λ f first caps as r=>(Γ f).bind λs=>match s with
   |⟨sa,[.d r'],fn,_⟩=>
    if h:r'=r/\sa=sa.take first.length++(as.map AT.d++sa.drop (first.length+as.length))/\first.length=0 then
     (Rk Γ get n first (sa.take first.length)).bind λhf=>(Rk Γ get n caps (sa.drop (first.length+as.length))).bind λhc=>
      some (λ x=>anN h.1 (fn (h.2.1 ▸ uk _ _ hf.1 (uk _ _ (hlA as x) hc.1))),hf.2++hc.2)
    else none
   |_=>none) ds l
section
variable {P:Program} {Γ:FuncId->Option (bx X)} {get:Nat->Option (bm X)} {rd:List Nat}
theorem gM{a b:List Prop}(h:∀p∈a,p)(h':∀p∈b,p):∀p∈a++b,p:=λp hp=>(bf.1 hp).elim (h p) (h' p)
theorem GU{d:DV X}{c:CT X.ι}{x:CT.T X.toSE c×List Bool}(h:Rj get d c=some x)(hc:∀b∈x.2,b=true)(hrd:∀j∈bk d,j∈rd):∃hs obs,(∀ p∈obs,p)/\∀ag,nL P (dH rd (fw get)) (den d) (hs++ag)=some ((CT.tv X.toSE c x.1).av,ag,obs):=by
 have base:∀{d:DV X}{c:CT X.ι}{x:CT.T X.toSE c},JK d c=some x->∃hs obs,(∀ p∈obs,p)/\∀ag,nL P (dH rd (fw get)) (den d) (hs++ag)=some ((CT.tv X.toSE c x).av,ag,obs):=by
  intro d c x h;unfold JK at h;split at h
  ·rw[(nY h).1];refine⟨[],[],by simp,λag=>?_⟩;simp only[bQ,den];cases c<;>try rfl
   rename_i j;show nL P _ (.agg ((X.row j x).map AV.t)) ag=_;have:∀(l:List Tree) (hs:List LH),l7 P (dH rd (fw get)) (l.map AV.t) hs=some (l.map AV.t,hs,[]):=by
    intro l
    induction l with
    |nil=>intro hs;rfl
    |cons y ys ih=>intro hs;simp only[aF,l7,nL,af,ih,bQ]
   simp only[nL,this,af];rfl
  ·cases h;exact⟨[.emp],[],by simp,λag=>rfl⟩
  ·cases h;exact⟨[.emp],[],by simp,λag=>rfl⟩
  ·cases h
 unfold Rj at h;split at h
 ·rename_i kk aa len e;rw[ai]at h;obtain⟨o,h1,h⟩:=h;split at h
  ·rename_i b l0;rw[ai]at h;obtain⟨l,h2,h⟩:=h;cases h;have h3:(sub l aa len).length=len:=(by simpa[az]using hc (az (sub l aa len).length len) (by simp));have⟨h4,h5⟩:=jc h2;refine⟨[.rows ((sub l aa len).map (CT.row X.toSE e))],[(((bG (.d8 b l0):aS).rows.drop aa).take len=aI ((sub l aa len).map (CT.row X.toSE e))/\((sub l aa len).map (CT.row X.toSE e)).length=len)],?_,λag=>?_⟩
   ·intro p hp;simp only[aW]at hp;subst hp;refine⟨?_,by simpa using h3⟩;simp only[bG,h5];simp[aI,sub,map_take,map_drop]
   ·simp only[cons_append,bQ,den,nL,eu (hrd kk (by simp[bk])) h1,af];rfl
  ·cases h
 ·rename_i kk aa len;rw[ai]at h;obtain⟨o,h1,h⟩:=h;split at h
  ·rename_i b l0;cases h;have h3:(sub l0 aa len).length=len:=(by simpa[az]using hc (az (sub l0 aa len).length len) (by simp));refine⟨[.rows ((sub l0 aa len).map (CT.row X.toSE b))],[(((bG (.d8 b l0):aS).rows.drop aa).take len=aI ((sub l0 aa len).map (CT.row X.toSE b))/\((sub l0 aa len).map (CT.row X.toSE b)).length=len)],?_,λag=>?_⟩
   ·intro p hp;simp only[aW]at hp;subst hp;refine⟨?_,by simpa using h3⟩;simp only[bG];simp[aI,sub,map_take,map_drop]
   ·simp only[cons_append,bQ,den,nL,eu (hrd kk (by simp[bk])) h1,af];rfl
  ·cases h
 ·rename_i kk len e;rw[ai]at h;obtain⟨o,h1,h⟩:=h;split at h
  ·rename_i b l0;have⟨l,h2,h⟩:=ai.1 h;cases h;have h3:(sub l 0 len).length=len:=(by simpa[az]using hc (az (sub l 0 len).length len) (by simp));have⟨h4,h5⟩:=jc h2;refine⟨[.rows ((sub l 0 len).map (CT.row X.toSE e))],[(((bG (.d8 b l0):aS).rows.drop 0).take len=aI ((sub l 0 len).map (CT.row X.toSE e))/\((sub l 0 len).map (CT.row X.toSE e)).length=len)],?_,λag=>?_⟩
   ·intro p hp;simp only[aW]at hp;subst hp;refine⟨?_,by simpa using h3⟩;simp only[bG,h5];simp[aI,sub,map_take,map_drop]
   ·simp only[cons_append,bQ,den,nL,eu (hrd kk (by simp[bk])) h1,af];rfl
  ·cases h
 ·have⟨y,h1,h⟩:=ai.1 h;cases h;exact base h1
theorem ME:∀{ds:List (DV X)}{l:List (CT X.ι)}{h:HL X.toSE l×List Bool},wN get ds l=some h->(∀ b∈h.2,b=true)->l.all CT.one=true->(∀ j∈aP ds,j∈rd)->
 ∃hs obs,(∀ p∈obs,p)/\∀ag,l7 P (dH rd (fw get)) (bL ds) (hs++ag)=some ((HL.row X.toSE l h.1).map AV.t,ag,obs)
 |[],[],h,_,_,_,_=>⟨[],[],by simp,λag=>rfl⟩
 |d::ds,c::l,h,hr,hc,ha,hrd=>by
  simp only[wN]at hr;have⟨x,h1,hr⟩:=ai.1 hr;have⟨g,h2,hr⟩:=ai.1 hr;cases hr;simp only[all_cons,aL]at ha;obtain⟨hs1,o1,p1,q1⟩:=GU (P:=P) (rd:=rd) h1 (λ b hb=>hc b (by simp[hb])) (λ j hj=>hrd j (by simp[aP,hj]));obtain⟨hs2,o2,p2,q2⟩:=ME h2 (λ b hb=>hc b (by simp[hb])) ha.2 (λ j hj=>hrd j (by simp[aP,hj]));refine⟨hs1++hs2,o1++o2,gM p1 p2,λag=>?_⟩;simp only[bL,l7,aK,q1,af,q2];show _=some ((CT.row X.toSE c x.1++HL.row X.toSE l g.1).map AV.t,ag,o1++o2);rw[List.map_append,<- Pr ha.1 x.1];rfl
 |[],_::_,_,hr,_,_,_=>by simp[wN]at hr
 |_::_,[],_,hr,_,_,_=>by simp[wN]at hr
theorem zR{d:DV X}{c:CT X.ι}{x:CT.T X.toSE c×List Bool}(h:E9 get d c=some x)(hc:∀b∈x.2,b=true)(hrd:∀j∈bk d,j∈rd):∃hs obs,(∀ p∈obs,p)/\∀ag,nL P (dH rd (fw get)) (den d) (hs++ag)=some ((CT.tv X.toSE c x.1).av,ag,obs):=by
 cases c
 case st i=>
  replace h:ZE get d i=some x:=h
  cases d
  case agg cs=>
   simp only[ZE]at h;rw[ai]at h;obtain⟨g,h1,h⟩:=h;cases h;obtain⟨hs,obs,p1,q1⟩:=ME (P:=P) (rd:=rd) h1 hc (X.flat i) (λ j hj=>hrd j (by simpa[bk]using hj));refine⟨hs,obs,p1,λag=>?_⟩;simp only[den,nL,q1,af,CT.tv,TV.av];rw[X.gd]
  case c a y=>exact GU (c:= .st i) (x:=x) (by unfold Rj;exact h) hc hrd
  all_goals cases h
 all_goals exact GU h hc hrd
theorem ac3{d:DV X}{c:CT X.ι}{x:CT.T X.toSE c}(h:WP get d c=some x)(hrd:∀j∈bk d,j∈rd):∃hs obs,(∀ p∈obs,p)/\∀ag,nL P (dH rd (fw get)) (den d) (hs++ag)=some (.eo (CT.row X.toSE c x) 0,ag,obs):=by
 unfold WP at h;split at h
 ·rename_i kk row;rw[ai]at h;obtain⟨o,h1,h⟩:=h;split at h
  ·rename_i sz rows;rw[ai]at h;obtain⟨q,h2,h⟩:=h;split at h
   ·rename_i hq;refine⟨[.row (CT.row X.toSE c x)],[(bG (.cells sz rows):aS).rows[row]? =some ((CT.row X.toSE c x).map AV.t)],?_,λag=>?_⟩
    ·intro p hp;simp only[aW]at hp;subst hp;simp only[bG,List.getElem?_map,h2,Option.map_some];rw[<- xX h,nM,map_map];congr 1;refine List.map_congr_left λy hy=>?_;have:=all_eq_true.1 hq y hy;cases y<;>first |exact(anM _).symm |simp at this
    ·simp only[cons_append,bQ,den,nL,eu (hrd kk (by simp[bk])) h1,af]
   ·cases h
  ·cases h
 ·rename_i a y;refine⟨[],[],by simp,λag=>?_⟩;simp only[den,(nY h).2];rfl
 ·cases h
theorem afE{n:Nat}{l l':List (AT X.ι)}(e:l=l')(b:iF X l):dO n l' (e ▸ b)=dO n l b:=by subst e;rfl
theorem Ci{pn:FuncId->List (DV X)->List (DV X)->(as:List (CT X.ι))->(r:CT X.ι)->Option ((HL X.toSE as->Option (CT.T X.toSE r))×List Bool)}:∀{ds:List (DV X)}{l:List (AT X.ι)}{a:iF X l×List Bool},j3 get pn ds l=some a->(l.all λq=>!q.im)=true
 |[],[],_,_=>rfl
 |d::ds,.d c::l,a,h=>by
  simp only[j3]at h;have⟨x,h1,h⟩:=ai.1 h;have⟨q,h2,h⟩:=ai.1 h;simpa[AT.im]using Ci h2
 |d::ds,.ref c::l,a,h=>by
  simp only[j3]at h;have⟨x,h1,h⟩:=ai.1 h;have⟨q,h2,h⟩:=ai.1 h;simpa[AT.im]using Ci h2
 |d::ds,.d7 as r::l,a,h=>by
  simp only[j3]at h;have⟨x,h1,h⟩:=ai.1 h;have⟨q,h2,h⟩:=ai.1 h;simpa[AT.im]using Ci h2
 |_::_,.mut _::_,_,h=>by simp[j3]at h
 |_::_,.ju _::_,_,h=>by simp[j3]at h
 |_::_,.nil::_,_,h=>by simp[j3]at h
 |[],_::_,_,h=>by simp[j3]at h
 |_::_,[],_,h=>by simp[j3]at h
theorem ac4:∀{n:Nat}{ds:List (DV X)}{l:List (AT X.ι)}{a:iF X l×List Bool},Rk Γ get n ds l=some a->(l.all λq=>!q.im)=true
 | 0,_,_,_,h=>Ci h
 |_+1,_,_,_,h=>Ci h
theorem Uh:∀as:List (CT X.ι),((as.map AT.d).all λq=>!q.im)=true
 |[]=>rfl
 |_::l=>Uh l
def aoI(P:Program)(get:Nat->Option (bm X))(pn:FuncId->List (DV X)->List (DV X)->(as:List (CT X.ι))->(r:CT X.ι)->Option ((HL X.toSE as->Option (CT.T X.toSE r))×List Bool)):Prop:=
 ∀f first caps as r φ rd,pn f first caps as r=some φ->(∀ b∈φ.2,b=true)->(∀ j∈aP first++aP caps,j∈rd)->∃hs obs,(∀ p∈obs,p)/\∀ag,nL P (dH rd (fw get)) (.fn f (bL first) (bL caps)) (hs++ag)=some (den (.d7 as r φ.1:DV X),ag,obs)
theorem sM{n:Nat}{pn:FuncId->List (DV X)->List (DV X)->(as:List (CT X.ι))->(r:CT X.ι)->Option ((HL X.toSE as->Option (CT.T X.toSE r))×List Bool)}(tR:aoI P get pn):∀{ds:List (DV X)}{l:List (AT X.ι)}{a:iF X l×List Bool},j3 get pn ds l=some a->(∀ b∈a.2,b=true)->(∀ j∈aP ds,j∈rd)->
 ∃hs obs,(∀ p∈obs,p)/\∀ag,l7 P (dH rd (fw get)) (bL ds) (hs++ag)=some (dO n l a.1,ag,obs)
 |[],[],_,_,_,_=>⟨[],[],by simp,λag=>rfl⟩
 |d::ds,.d c::l,a,h,hc,hrd=>by
  simp only[j3]at h;have⟨x,h1,h⟩:=ai.1 h;have⟨q,h2,h⟩:=ai.1 h;cases h;obtain⟨hs1,o1,p1,q1⟩:=zR (P:=P) (rd:=rd) h1 (λ b hb=>hc b (by simp[hb])) (λ j hj=>hrd j (by simp[aP,hj]));obtain⟨hs2,o2,p2,q2⟩:=sM (n:=n) tR h2 (λ b hb=>hc b (by simp[hb])) (λ j hj=>hrd j (by simp[aP,hj]));refine⟨hs1++hs2,o1++o2,gM p1 p2,λag=>?_⟩;simp only[bL,l7,aK,q1,af,q2,dO]
 |d::ds,.ref c::l,a,h,hc,hrd=>by
  simp only[j3]at h;rw[ai]at h;obtain⟨x,h1,h⟩:=h;rw[ai]at h;obtain⟨q,h2,h⟩:=h;cases h;obtain⟨hs1,o1,p1,q1⟩:=ac3 (P:=P) (rd:=rd) h1 (λ j hj=>hrd j (by simp[aP,hj]));obtain⟨hs2,o2,p2,q2⟩:=sM (n:=n) tR h2 hc (λ j hj=>hrd j (by simp[aP,hj]));refine⟨hs1++hs2,o1++o2,gM p1 p2,λag=>?_⟩;simp only[bL,l7,aK,q1,af,q2,dO]
 |d::ds,.d7 as r::l,a,h,hc,hrd=>by
  simp only[j3]at h;rw[ai]at h;obtain⟨φ,h1,h⟩:=h;rw[ai]at h;obtain⟨q,h2,h⟩:=h;cases h;have hd:∃hs obs,(∀ p∈obs,p)/\∀ag,nL P (dH rd (fw get)) (den d) (hs++ag)=some (den (.d7 as r φ.1:DV X),ag,obs):=by
   cases d
   case d7 as' r' ψ=>
    simp only at h1;split at h1
    ·rename_i e;obtain⟨rfl,rfl⟩:=e;cases h1;exact⟨[],[],by simp,λag=>rfl⟩
    ·cases h1
   case fn f first caps=>
    obtain⟨hs,obs,g1,g2⟩:=tR f first caps as r φ rd h1 (λ b hb=>hc b (by simp[hb])) (λ j hj=>hrd j (by simp only[aP,bk,bf]at hj ⊢;exact .inl hj))
    exact⟨hs,obs,g1,λag=>by simp only[den];exact g2 ag⟩
   all_goals simp at h1
  obtain⟨hs1,o1,p1,q1⟩:=hd;obtain⟨hs2,o2,p2,q2⟩:=sM (n:=n) tR h2 (λ b hb=>hc b (by simp[hb])) (λ j hj=>hrd j (by simp[aP,hj]));refine⟨hs1++hs2,o1++o2,gM p1 p2,λag=>?_⟩;simp only[bL,l7,aK,q1,af,q2,dO]
 |_::_,.mut _::_,_,h,_,_=>by simp[j3]at h
 |_::_,.ju _::_,_,h,_,_=>by simp[j3]at h
 |_::_,.nil::_,_,h,_,_=>by simp[j3]at h
 |[],_::_,_,h,_,_=>by simp[j3]at h
 |_::_,[],_,h,_,_=>by simp[j3]at h
theorem afF{n:Nat}:∀{l:List (AT X.ι)}(a:iF X l),l=[]->dO n l a=[]
 |_,_,rfl=>rfl
theorem rM(hΓ:sC P Γ):∀(m:Nat){n:Nat}{ds:List (DV X)}{l:List (AT X.ι)}{a:iF X l×List Bool}{rd:List Nat},Rk Γ get m ds l=some a->(∀ b∈a.2,b=true)->(∀ j∈aP ds,j∈rd)->
 ∃hs obs,(∀ p∈obs,p)/\∀ag,l7 P (dH rd (fw get)) (bL ds) (hs++ag)=some (dO n l a.1,ag,obs)
 | 0,n,ds,l,a,rd,h,hcs,hrd=>sM (λ _ _ _ _ _ _ _ h=>by cases h) h hcs hrd
 |m+1,n,ds,l,a,rd,h,hcs,hrd=>by
  refine sM (λ f first caps as r φ rd' hc hb Hv=>?_) h hcs hrd;rw[ai]at hc;obtain⟨s,h1,hc⟩:=hc;split at hc
  ·rename_i sa r' fn _;split at hc
   ·rename_i e;obtain⟨rfl,e2,e3⟩:=e;have⟨hf,h2,hc⟩:=ai.1 hc;have⟨hcap,h3,hc⟩:=ai.1 hc;injection hc with hc;rw[<- hc]at hb;obtain⟨g1,g2,_⟩:=hΓ f _ h1;obtain⟨hs1,o1,p1,q1⟩:=rM hΓ m h2 (n:=0) (rd:=rd') (λ b hb'=>hb b (by simp[hb'])) (λ j hj=>Hv j (by simp[hj]));obtain⟨hs2,o2,p2,q2⟩:=rM hΓ m h3 (n:=0+p8 (sa.take first.length)+p8 (as.map AT.d)) (rd:=rd') (λ b hb'=>hb b (by simp[hb'])) (λ j hj=>Hv j (by simp[hj]));refine⟨.d7 (λ ts u=>∃h x,φ.1 h=some x/\ts=HL.np X.toSE as h/\u=CT.tv X.toSE r' x)::(hs1++hs2),o1++(o2++[dO 0 _ hf.1=[]/\eO P f/\∀args r,(∃ h x,φ.1 h=some x/\args=HL.np X.toSE as h/\r=CT.tv X.toSE r' x)->ra P f (dO 0 _ hf.1++args.map TV.av++dO (0+p8 (sa.take first.length)+p8 (as.map AT.d)) _ hcap.1) (.one (.d r))]),?_,λag=>?_⟩
    ·intro p hp;simp only[bf,aW]at hp;rcases hp with hp |hp |hp
     ·exact p1 p hp
     ·exact p2 p hp
     ·subst hp;refine⟨afF _ (by rw[e3];rfl),g1,?_⟩;rintro args r ⟨x,y,hxy,rfl,rfl⟩;rw[<- hc]at hxy;have hxy':fn (e2 ▸ uk _ _ hf.1 (uk _ _ (hlA as x) hcap.1))=some y:=hxy;have:=g2 _ _ hxy';have hnm:(sa.all λq=>!q.im)=true:=(by rw[e2,List.all_append,List.all_append,ac4 h2,ac4 h3,Uh];rfl);rw[vW hnm,vV,afE e2.symm,kT,kT,Jf,<- aK]at this;exact Mt this
    ·simp only[cons_append,aK,nL,q1,af,q2];rfl
   ·cases hc
  ·cases hc
end
end
def Rl(s:ByteArray)(n:Int):Option Int:=bif decide (0<=n)then(s[n.toNat]?).map λb=>(b.toNat:Int)else none
def zx(m:Int)(bytes:Nat):Bool:=decide (0<=m)&&decide (m.toNat*bytes<=140737488355328)&&decide (m.toNat<=maxLen)
def fP{K V:Type}(eq:K->K->Bool)(k:K):List (K×V)->Option V
 |[]=>none
 |p::r=>bif eq k p.1 then some p.2 else fP eq k r
def rf{K V:Type}(eq:K->K->Bool)(k:K)(v:V):List (K×V)->List (K×V)
 |[]=>[(k,v)]
 |p::r=>bif eq k p.1 then(k,v)::r else p::rf eq k v r
def jp(a b:Int):Bool:=a==b
def ll(a b:ByteArray):Bool:=a.toList==b.toList
def bEq(a b:Bool):Bool:=a==b
section
variable {X:SX} {A:Type}
def MF:(c:CT X.ι)->Option (CT.T X.toSE c->CT.T X.toSE c->Bool)
 | .int _=>some jp
 | .str=>some ll
 | .bool=>some bEq
 |_=>none
def DO{ι:Type}:AD->CT ι->Bool
 | .int a,.int b=>decide (a=b)
 | .str,.str=>true
 | .bool,.bool=>true
 |_,_=>false
def L3{ι:Type}:CT ι->Bool
 | .st _=>true
 |_=>false
theorem iA(a b:List (DV X)):bL (a++b)=bL a++bL b:=by simp[nM]
theorem rO(a b:List (Nat×Option (bm X))):gW (a++b)=gW a++gW b:=by simp[gW]
def MH(ae:List Nat):List (Nat×Option (bm X)):=ae.map λj=>(j,none)
theorem Cj(ae:List Nat):gW (MH (X:=X) ae)=ae.map λk=>(k,none):=by simp[gW,MH]
theorem Jg{ae:List Nat}{p:Nat×Option (bm X)}(h:p∈MH ae):p.1∈ae:=by
 simp only[MH,mem_map]at h;obtain⟨j,hj,rfl⟩:=h;exact hj
variable (T:ea) (am:TypeId->Option (CT X.ι))
def afH:DV X->Bool
 | .nil=>true
 |_=>false
def FF(op:BinOp)(b:DV X)(yes:Bool)(k:KK X A):Option A:=
 match op with
 | .eql=>bif yes then k b [] [] []else k (.c .bool false) [] [] []
 | .neq=>bif yes then k b [] [] []else k (.c .bool true) [] [] []
 |_=>none
def Vc(op:BinOp)(t:TypeId)(x:DV X)(k:KK X A):Option A:=
 (T t).bind λti=>match ti.k,x with
 | .slice _,.c (.sl _) l=>FF op .ub (List.isEmpty l) k
 | .slice _,.own _ _ len=>FF op .ub (len==0) k
 | .slice _,.oz _ len=>FF op (.c .bool (op== .eql)) (len==0) k
 | .slice _,.nil=>FF op (.c .bool (op== .eql)) true k
 |_,_=>none
def anO(s d:TypeId)(x:DV X)(k:KK X A):Option A:=
 (T s).bind λ_=>(T d).bind λdi=>match di.k,x with
 | .int kd,.c (.int _) n=>k (.c (.int kd) (kd.wrap (iN n))) [] [] []
 |_,_=>none
def akr(t:TypeId)(x j:DV X)(k:KK X A):Option A:=
 (T t).bind λti=>match ti.k,x,j with
 | .str,.c .str s,.c (.int _) n=>(Rl s n).bind λb=>k (.c (.int .u8) b) [] [] []
 | .arr m e,.agg cs,.c (.int _) q=>(T e).bind λei=>bif cC q m then(GL ei.agg ei.size ((cs.drop (q.toNat*ei.size)).take ei.size)).bind λv=>k v [] [] []else none
 |_,_,_=>none
def ZF(t:TypeId)(x:DV X)(lo hi:Option (DV X))(k:KK X A):Option A:=
 (T t).bind λti=>match ti.k,x with
 | .slice e,.nil=>(T e).bind λ_=>(An 0 lo).bind λl=>(An 0 hi).bind λh=>bif decide (l=0)&&decide (h=0)then k .nil [] [] []else none
 |_,_=>none
def Pq(i:Nat)(b:Builtin)(args:List (DV X))(cQ:List TypeId)(get:Nat->Option (bm X))(k:KK X A):Option A:=
 match b,args,cQ with
 | .cap,[.nil],[t]=>(T t).bind λti=>match ti.k with
  | .slice _=>k (.c (.int .i64) (0:Int)) [] [] []
  |_=>none
 | .clear,[.own kk aa _],[t]=>(T t).bind λti=>match ti.k with
  | .slice e=>(T e).bind λei=>(get kk).bind λo=>match o with
   | .d8 c l=>if CT.sz X c=ei.size then k (.eC []) [(kk,some (.d8 c (l.take aa)))] [kk] [kk]else none
   |_=>none
  |_=>none
 | .append,[.nil,.c (.int _) m],[t,u]=>(T t).bind λti=>(T u).bind λui=>match ti.k,ui.k with
  | .slice e,.int _=>(T e).bind λei=>(am e).bind λc=>if CT.sz X c=ei.size/\0<ei.size then(GN c (ei.zero.map t6)).bind λz=>
   bif zx (iN m) ei.bytes then k (.own (cJ i) 0 m.toNat) [(cJ i,some (.d8 c (List.replicate m.toNat z)))] [] []else none else none
  |_,_=>none
 |_,_,_=>none
def Ps(x:DV X)(k:KK X A):Option A:=
 match x with
 | .ptr kk r f=>k (.ptr kk r f) [] [] []
 | .qr kk n f=>k (.qr kk n f) [] [] []
 | .tg kk r f m n=>k (.tg kk r f m n) [] [] []
 | .rp c y f=>k (.rp c y f) [] [] []
 |_=>none
def WF(i:Nat)(t:TypeId)(l c:DV X)(k:KK X A):Option A:=
 (T t).bind λti=>match ti.k,l,c with
 | .slice e,.c (.int _) n,.c (.int _) m=>(T e).bind λei=>(am e).bind λc=>if CT.sz X c=ei.size/\0<ei.size then(GN c (ei.zero.map t6)).bind λz=>
  bif decide (iN n<=iN m)&&(decide (0<=iN n)&&zx (iN m) ei.bytes)then k (.own (cJ i) 0 n.toNat) [(cJ i,some (.d8 c (List.replicate n.toNat z)))] [] []else none else none
 |_,_,_=>none
def VA(i:Nat)(t:TypeId)(k:KK X A):Option A:=
 (T t).bind λti=>match ti.k with
 | .map kt et=>(am kt).bind λkc=>(am et).bind λvc=>k (.mp (cJ i)) [(cJ i,some (.map kc vc []))] [] []
 |_=>none
def Ui(t:TypeId)(x key:DV X)(ok:Bool)(get:Nat->Option (bm X))(k:KK X A):Option A:=
 (T t).bind λti=>match ti.k,x with
 | .map kt et,.mp kk=>(T kt).bind λki=>(T et).bind λei=>(get kk).bind λo=>match o with
  | .map kc vc l=>(MF kc).bind λeq=>(JK key kc).bind λkv=>if DO ki.k kc=true/\ei.agg=L3 vc/\ei.size=CT.sz X vc then(GN vc (ei.zero.map t6)).bind λz=>
   bif ok then k (.eC [.c vc ((fP eq kv l).getD z),.c .bool (fP eq kv l).isSome]) [] [kk] []else k (.c vc ((fP eq kv l).getD z)) [] [kk] []else none
  |_=>none
 |_,_=>none
def Uj(t:TypeId)(x key y:DV X)(get:Nat->Option (bm X))(k:KK X A):Option A:=
 (T t).bind λti=>match ti.k,x with
 | .map kt _,.mp kk=>(T kt).bind λki=>(get kk).bind λo=>match o with
  | .map kc vc l=>(MF kc).bind λeq=>(JK key kc).bind λkv=>(dat y vc).bind λv=>if DO ki.k kc=true then k .undef [(kk,some (.map kc vc (rf eq kv v l)))] [kk] [kk]else none
  |_=>none
 |_,_=>none
def mH:(l:List (CT X.ι))->HL X.toSE l->List Int
 |[],_=>[]
 | .int _::l,h=>h.1::mH l h.2
 |_::l,h=>mH l h.2
def GV(i:X.ι)(a b:CT.T X.toSE (.st i)):Bool:=decide (mH (X.cQ i) (X.get i a)=mH (X.cQ i) (X.get i b))
def DF{ι:Type}(k:IntKind):List (CT ι)->Bool
 |[]=>true
 | .int k'::l=>decide (k'=k)&&DF k l
 |_=>false
def MI(t:TypeId)(x key:DV X)(ok:Bool)(get:Nat->Option (bm X))(k:KK X A):Option A:=
 (T t).bind λti=>match ti.k,x with
 | .map kt et,.mp kk=>(Fk T kt).bind λmk=>(T et).bind λei=>(get kk).bind λo=>match o with
  | .map (.st i) vc l=>(dat key (.st i)).bind λkv=>if (X.cQ i).length=mk.1/\DF mk.2 (X.cQ i)=true/\ei.agg=L3 vc/\ei.size=CT.sz X vc then(GN vc (ei.zero.map t6)).bind λz=>
   bif ok then k (.eC [.c vc ((fP (GV i) kv l).getD z),.c .bool (fP (GV i) kv l).isSome]) [] [kk] []else k (.c vc ((fP (GV i) kv l).getD z)) [] [kk] []else none
  |_=>none
 |_,_=>none
def MJ(t:TypeId)(x key y:DV X)(get:Nat->Option (bm X))(k:KK X A):Option A:=
 (T t).bind λti=>match ti.k,x with
 | .map kt _,.mp kk=>(Fk T kt).bind λmk=>(get kk).bind λo=>match o with
  | .map (.st i) vc l=>(dat key (.st i)).bind λkv=>(dat y vc).bind λv=>if (X.cQ i).length=mk.1/\DF mk.2 (X.cQ i)=true then k .undef [(kk,some (.map (.st i) vc (rf (GV i) kv v l)))] [kk] [kk]else none
  |_=>none
 |_,_=>none
def ZG(x:DV X)(get:Nat->Option (bm X)):Bool:=match x with
 | .mp kk=>match get kk with
  |some (.map (.st _) _ _)=>true
  |_=>false
 |_=>false
def aoJ(o:Op)(ρ:Operand->DV X):Bool:=
 match o with
 | .binOp _ _ _ y _=>afH (ρ y)
 | .convert _ _ _=>true
 | .index _ _ _=>true
 | .nilCheck _=>true
 | .makeSlice _ _ _=>true
 | .makeMap _ none=>true
 | .lookup _ _ _ _=>true
 | .mapUpdate _ _ _ _=>true
 | .slice _ x _ _ none=>afH (ρ x)
 | .call { callee:= .builtin b,args:=args,argTypes:=_ }=>match b,args.toList.map ρ with
  | .cap,_=>true
  | .clear,_=>true
  | .append,[_,.c (.int _) _]=>true
  |_,_=>false
 |_=>false
def UV(i:Nat)(o:Op)(ρ:Operand->DV X)(get:Nat->Option (bm X))(k:KK X A):Option A:=
 match o with
 | .binOp op t x y _=>if afH (ρ y)then Vc T op t (ρ x) k else none
 | .convert s d x=>anO T s d (ρ x) k
 | .index t x j=>akr T t (ρ x) (ρ j) k
 | .slice t x lo hi none=>ZF T t (ρ x) (lo.map ρ) (hi.map ρ) k
 | .nilCheck x=>Ps (ρ x) k
 | .makeSlice t l c=>WF T am i t (ρ l) (ρ c) k
 | .makeMap t none=>VA T am i t k
 | .lookup t m x ok=>bif ZG (ρ m) get then MI T t (ρ m) (ρ x) ok get k else Ui T t (ρ m) (ρ x) ok get k
 | .mapUpdate t m x v=>bif ZG (ρ m) get then MJ T t (ρ m) (ρ x) (ρ v) get k else Uj T t (ρ m) (ρ x) (ρ v) get k
 | .call { callee:= .builtin b,args:=args,argTypes:=cQ }=>Pq T am i b (args.toList.map ρ) cQ.toList get k
 |_=>none
def IN(get:Nat->Option (bm X))(c:CT X.ι)(ρ:Operand->DV X)(x:Operand):DV X:=
 match E9 get (ρ x) c with
 |some y=> .c c y.1
 |none=>ρ x
def L2(get:Nat->Option (bm X))(c:CT X.ι)(ρ:Operand->DV X):List Operand->List Bool
 |[]=>[]
 |x::xs=>(match E9 get (ρ x) c with |some y=>y.2 |none=>[])++L2 get c ρ xs
def AC(get:Nat->Option (bm X))(c:CT X.ι)(ρ:Operand->DV X):List Operand->List Nat
 |[]=>[]
 |x::xs=>(match E9 get (ρ x) c with |some _=>bk (ρ x) |none=>[])++AC get c ρ xs
def amy(o:Op)(ρ:Operand->DV X)(get:Nat->Option (bm X)):Option (CT X.ι):=
 match o with
 | .box t _=>am t
 | .assign x | .move x=>match ρ x with
  | .own kk _ _=>(get kk).bind λo=>match o with
   | .d8 c _=>some (.sl c)
   |_=>none
  |_=>none
 | .buildSlice t _ _=>(T t).bind λti=>match ti.k with
  | .slice e=>am e
  |_=>none
 | .store t _ _=>am t
 |_=>none
def aoK(o:Op)(ρ:Operand->DV X):Bool:=
 match o with
 | .buildSlice _ _ parts=>!(aP (parts.toList.map λp=>ρ p.2)).isEmpty
 | .store _ a x=>match ρ a with
  | .qr _ _ _=>!(bk (ρ x)).isEmpty
  |_=>false
 |_=>false
def Up(i:Nat)(o:Op)(ρ:Operand->DV X)(get:Nat->Option (bm X))(k:KK X A):Option A:=
 if ZD o then none else(amy T am o ρ get).bind λc=>Vm (L2 get c ρ o.operands.toList)
  (Lw T am i o (IN get c ρ) (λ j=>if j∈AC get c ρ o.operands.toList then none else get j) λdv upd rd wr=>
   k dv (upd++MH (AC get c ρ o.operands.toList)) (rd++AC get c ρ o.operands.toList) (wr++AC get c ρ o.operands.toList))
def aoL(o:Op)(ρ:Operand->DV X):Bool:=
 match o with
 | .indexAddr t x (.tmp _)=>match ρ x,T t with
  | .ptr _ _ _,some ti | .rp _ _ _,some ti=>match ti.k with
   | .arr _ e=>match T e with
    |some ei=>ei.size==1
    |none=>false
   |_=>false
  |_,_=>false
 | .load _ a=>match ρ a with
  | .tg _ _ _ _ _ | .ws _ _ _ _ _=>true
  |_=>false
 |_=>false
def zy(c:CT X.ι):List (DV X)->Option (List (CT.T X.toSE c))
 |[]=>some []
 | .c a x::r=>(jr a c x).bind λy=>(zy c r).bind λl=>some (y::l)
 |_=>none
def T8(o:Op)(ρ:Operand->DV X)(get:Nat->Option (bm X))(k:KK X A):Option A:=
 match o with
 | .indexAddr t x j=>(T t).bind λti=>match ti.k,ρ x,ρ j with
  | .arr m e,.ptr kk row aa,.c (.int _) n=>(T e).bind λei=>if ei.size=1 then bif cC n m then k (.tg kk row aa m n) [] [] []else none else none
  | .arr m e,.rp c y aa,.c (.int _) n=>(T e).bind λei=>if ei.size=1 then bif cC n m then k (.ws c y aa m n) [] [] []else none else none
  |_,_,_=>none
 | .load t a=>(T t).bind λti=>match ρ a with
  | .tg kk row aa m n=>if ti.size=1/\ti.agg=false then(am t).bind λc=>if c.one=true then(get kk).bind λo=>match o with
   | .cells _ rows=>(rows[row]?).bind λq=>(zy c ((q.drop aa).take m)).bind λ(xs:List (CT.T X.toSE c))=>(bp xs n).bind λy=>k (.c c y) [] [kk] []
   | .d8 _ _=>none
   |_=>none
   else none else none
  | .ws b y aa m n=>if ti.size=1/\ti.agg=false then(am t).bind λc=>if c.one=true then(zy c (((uQ b y).drop aa).take m)).bind λ(xs:List (CT.T X.toSE c))=>(bp xs n).bind λy=>k (.c c y) [] [] []
   else none else none
  |_=>none
 |_=>none
variable {T am}
def d6(P:Program)(T:ea)(i:Nat)(o:Oper)(ρ:Operand->DV X)(get:Nat->Option (bm X))(k:KK X A)(r:A):Prop:=
 ∃cw rd wr dv upd ab,jA P T i o cw (λ x=>den (ρ x)) (dH rd (fw get))=some ab/\jl ab.obs/\ab.v=den dv/\ab.upd=gW upd/\(∀ p∈upd,p.1=cJ i\/p.1∈wr)/\k dv upd rd wr=some r
section
variable {P:Program} {get:Nat->Option (bm X)} {k:KK X A} {r:A} {i:Nat} {o:Oper} {ρ:Operand->DV X}
theorem aku{t:TypeId}{x:AV}{cw:i8}(h:(∃ n,cw= .ext n)\/∃ae fr q,cw= .xm ae fr q):z7 T t x .none=z7 T t x cw:=by
 unfold z7;cases T t with
 |none=>rfl
 |some ti=>
  simp only[af];generalize ti.k=kk;rcases h with ⟨n,rfl⟩ |⟨ae,fr,q,rfl⟩<;>cases kk<;>try rfl
  all_goals cases x<;>try rfl
  all_goals (rename_i y;cases y<;>try rfl)
  all_goals (rename_i y;cases y<;>rfl)
theorem VB{t:TypeId}{x j:AV}{cw:i8}{get:Nat->Option aS}(h:(∃ n,cw= .ext n)\/∃ae fr q,cw= .xm ae fr q):lT T t x j .none get=lT T t x j cw get:=by
 unfold lT;cases T t with
 |none=>rfl
 |some ti=>
  simp only[af];generalize ti.k=kk;cases kk<;>try rfl
  case arr m e=>
   cases j<;>try rfl
   rename_i y;cases y<;>try rfl
   rename_i y;cases y<;>rfl
  cases j<;>try rfl
  rename_i e y;cases y<;>try rfl
  rename_i y;cases y<;>try rfl
  simp only;cases T e with
  |none=>rfl
  |some ei=>
   simp only[af];rcases h with ⟨n,rfl⟩ |⟨ae,fr,q,rfl⟩<;>cases x<;>try rfl
   all_goals (rename_i z;cases z<;>rfl)
theorem ac6{t:TypeId}{x y:AV}{cw:i8}{get:Nat->Option aS}(h:(∃ n,cw= .ext n)\/∃ae fr q,cw= .xm ae fr q):zL T i t x y .none get=zL T i t x y cw get:=by
 unfold zL;rcases h with ⟨n,rfl⟩ |⟨ae,fr,q,rfl⟩<;>rfl
theorem aiH{cw:i8}{ρ:Operand->AV}{get:Nat->Option aS}(h:(∃ n,cw= .ext n)\/∃ae fr q,cw= .xm ae fr q):pU T i o .none ρ get=pU T i o cw ρ get:=by
 obtain⟨dst,op,ty,ao,after,guard⟩:=o;cases op
 case call c=>
  obtain⟨callee,args,cQ⟩:=c;cases callee<;>try rfl
  rename_i b;simp only[pU,Ca];split
  ·exact aku h
  ·rfl
  ·rfl
  ·rw[ac6 h]
  ·rfl
 case slice t x lo hi mx=>cases mx<;>rcases h with ⟨n,rfl⟩ |⟨ae,fr,q,rfl⟩<;>rfl
 case makeFunc fn a b=>cases fn<;>rfl
 case indexAddr t x j=>exact VB h
 all_goals (rcases h with ⟨n,rfl⟩ |⟨ae,fr,q,rfl⟩<;>rfl)
theorem d6.ext{n:Int}{rd wr:List Nat}{dv:DV X}{upd:List (Nat×Option (bm X))}{ab:Out}(h:sH T i o n (λ x=>den (ρ x)) (dH rd (fw get))=some ab)(h1:jl ab.obs)(h2:ab.v=den dv)(h3:ab.upd=gW upd)(h4:∀p∈upd,p.1=cJ i\/p.1∈wr)(h5:k dv upd rd wr=some r)(hx:IT o.op=false:=by rfl):d6 P T i o ρ get k r:=
 ⟨.ext n,rd,wr,dv,upd,ab,by show sI T i o n _ _=some ab;unfold sI;rw[hx];simp only[aj,ak,h],h1,h2,h3,h4,h5⟩
theorem d6.vu{n:Int}{rd wr:List Nat}{dv:DV X}{upd:List (Nat×Option (bm X))}{ab:Out}(h:Du T i o n (λ x=>den (ρ x)) (dH rd (fw get))=some ab)(h1:jl ab.obs)(h2:ab.v=den dv)(h3:ab.upd=gW upd)(h4:∀p∈upd,p.1=cJ i\/p.1∈wr)(h5:k dv upd rd wr=some r)(hx:IT o.op=true:=by rfl):d6 P T i o ρ get k r:=
 ⟨.ext n,rd,wr,dv,upd,ab,by show sI T i o n _ _=some ab;unfold sI;rw[hx];simp only[aj,ak,h],h1,h2,h3,h4,h5⟩
theorem R7{x:DV X}(h:Ps x k=some r):∃dv,O8 (den x)=some ⟨den dv,[],[]⟩/\k dv [] [] []=some r:=by cases x<;>simp only[Ps]at h<;>first |cases h |exact⟨_,rfl,h⟩
theorem ZH{cw:i8}{ρ:Operand->AV}{get:Nat->Option aS}(hne:∀f args cQ,o.op≠ .call { callee:= .value f,args:=args,argTypes:=cQ })(ho:∀n,cw≠ .ext n)(hf:∀ae fr q,cw≠ .xm ae fr q):jA P T i o cw ρ get=pU T i o cw ρ get:=by
 have e:∀(α:Type) (a:Operand->Array Operand->Array TypeId->α) (b:α),(match o.op with | .call { callee:= .value f,args:=args,argTypes:=cQ }=>a f args cQ |_=>b)=b:=by
  intro α a b;split
  ·rename_i f args cQ heq;exact(hne f args cQ heq).elim
  ·rfl
 cases cw<;>first |exact(ho _ rfl).elim |exact(hf _ _ _ rfl).elim |exact e _ _ _
theorem d6.op{cw:i8}{rd wr:List Nat}{dv:DV X}{upd:List (Nat×Option (bm X))}{ab:Out}(hne:∀f args cQ,o.op≠ .call { callee:= .value f,args:=args,argTypes:=cQ })
 (h:pU T i o cw (λ x=>den (ρ x)) (dH rd (fw get))=some ab) (h1:jl ab.obs/\ab.v=den dv/\ab.upd=gW upd/\(∀ p∈upd,p.1=cJ i\/p.1∈wr)/\k dv upd rd wr=some r):d6 P T i o ρ get k r:=by
 obtain⟨uC,h'⟩:∃uC,jA P T i o uC (λ x=>den (ρ x)) (dH rd (fw get))=some ab:=by
  by_cases hx:(∃ n,cw= .ext n)\/∃ae fr q,cw= .xm ae fr q
  ·refine⟨.none,?_⟩;rw[ZH hne (by simp) (by simp),aiH hx,h]
  ·simp only[not_or,not_exists]at hx;exact⟨cw,by rw[ZH hne hx.1 (λ ae fr q=>hx.2 ae fr q),h]⟩
 exact⟨uC,rd,wr,dv,upd,ab,h',h1⟩
theorem d6.call{dst:Option Tmp}{f:Operand}{args:Array Operand}{cQ:Array TypeId}{ty:TypeId}{ao:String}{after:Array Edge}{guard:Option (Nat×Bool)}{cw:i8}{rd wr:List Nat}{dv:DV X}{upd:List (Nat×Option (bm X))}{ab:Out}
 (h:jY P i (den (ρ f)) (args.toList.map λx=>den (ρ x)) cw (dH rd (fw get))=some ab) (h1:jl ab.obs/\ab.v=den dv/\ab.upd=gW upd/\(∀ p∈upd,p.1=cJ i\/p.1∈wr)/\k dv upd rd wr=some r):
 d6 P T i ⟨dst,.call { callee:= .value f,args:=args,argTypes:=cQ },ty,ao,after,guard⟩ ρ get k r:=by
 refine⟨cw,rd,wr,dv,upd,ab,?_,h1⟩;unfold jA;split
 ·unfold jY oI xk at h;simp only at h;split at h<;>first |cases h |(rename_i e;cases e)
 ·unfold jY oI xk at h;simp only at h;split at h<;>first |cases h |(rename_i e;cases e)
 ·exact h
theorem Jh{op:BinOp}{b:DV X}{yes:Bool}(h:FF op b yes k=some r):∃dv ab,DH op (den b) yes=some ab/\jl ab.obs/\ab.v=den dv/\ab.upd=[]/\k dv [] [] []=some r:=by
 unfold FF at h;split at h
 ·cases yes with
  |true=>exact⟨b,_,rfl,trivial,rfl,rfl,h⟩
  |false=>exact⟨.c .bool false,_,rfl,trivial,rfl,rfl,h⟩
 ·cases yes with
  |true=>exact⟨b,_,rfl,trivial,rfl,rfl,h⟩
  |false=>exact⟨.c .bool true,_,rfl,trivial,rfl,rfl,h⟩
 ·cases h
theorem afI{op:BinOp}{t:TypeId}{x:DV X}(h:Vc T op t x k=some r):∃dv ab,At T op t (den x) .cV=some ab/\jl ab.obs/\ab.v=den dv/\ab.upd=[]/\k dv [] [] []=some r:=by
 unfold Vc at h;rw[ai]at h;obtain⟨ti,h1,h⟩:=h;split at h
 ·rename_i e c l hk;have⟨dv,ab,g1,g2⟩:=Jh h;refine⟨dv,ab,?_,g2⟩;simp only[At,h1,af,hk,den,CT.tv,TV.av];rw[<- g1];congr 1;cases l<;>rfl
 ·rename_i e kk aa len hk;have⟨dv,ab,g1,g2⟩:=Jh h;exact⟨dv,ab,by simp only[At,h1,af,hk,den];exact g1,g2⟩
 ·rename_i e kk len hk;have⟨dv,ab,g1,g2⟩:=Jh h;exact⟨dv,ab,by simp only[At,h1,af,hk,den];exact g1,g2⟩
 ·rename_i e hk;have⟨dv,ab,g1,g2⟩:=Jh h;exact⟨dv,ab,by simp only[At,h1,af,hk,den];exact g1,g2⟩
 ·cases h
theorem afJ{s:ByteArray}{n b:Int}(h:Rl s n=some b):0<=n/\∃c,s[n.toNat]? =some c/\b=c.toNat:=by
 unfold Rl at h;by_cases hn:0<=n
 ·simp only[hn,decide_true,aj,dK]at h;obtain⟨c,h1,h2⟩:=h;exact⟨hn,c,h1,h2.symm⟩
 ·simp[hn]at h
theorem ZI{m:Int}{bytes:Nat}(h:zx m bytes=true):0<=m/\m.toNat*bytes<=140737488355328/\m.toNat<=maxLen:=by simpa[zx,and_assoc]using h
theorem R8{b:Builtin}{args:List (DV X)}{cQ:List TypeId}(h:Pq T am i b args cQ get k=some r):
 ∃rd wr dv upd ab,uM T i b (bL args) cQ (dH rd (fw get))=some ab/\jl ab.obs/\ab.v=den dv/\ab.upd=gW upd/\(∀ p∈upd,p.1=cJ i\/p.1∈wr)/\k dv upd rd wr=some r:=by
 unfold Pq at h;split at h
 ·rename_i t;rw[ai]at h;obtain⟨ti,h1,h⟩:=h;split at h
  ·rename_i e hk;refine⟨[],[],_,[],⟨.t (.sc (.int .i64 0)),[],[]⟩,?_,trivial,rfl,rfl,by simp,h⟩;simp only[uM,bL,den,h1,af,hk];rfl
  ·cases h
 ·rename_i kk aa len t;rw[ai]at h;obtain⟨ti,h1,h⟩:=h;split at h
  ·rename_i e hk;rw[ai]at h;obtain⟨ei,h2,h⟩:=h;rw[ai]at h;obtain⟨o,h3,h⟩:=h;split at h
   ·rename_i c l;split at h
    ·rename_i hs;refine⟨[kk],[kk],_,_,⟨.eC [],[(kk,some ⟨CT.sz X c,(aI (l.map (CT.row X.toSE c))).take aa⟩)],[]⟩,?_,trivial,rfl,?_,by simp,h⟩
     ·simp only[uM,bL,den,h1,af,hk,h2,eu (List.mem_singleton_self kk) h3,bG];rw[aX hs]
     ·simp[gW,bG,aI,map_take]
    ·cases h
   ·cases h
  ·cases h
 ·rename_i kd m t u;rw[ai]at h;obtain⟨ti,h1,h⟩:=h;rw[ai]at h;obtain⟨ui,h2,h⟩:=h;split at h
  ·rename_i e kn hk hk';rw[ai]at h;obtain⟨ei,h3,h⟩:=h;rw[ai]at h;obtain⟨c,h4,h⟩:=h;split at h
   ·rename_i hs;have⟨z,h5,h⟩:=ai.1 h;have⟨h6,h⟩:=dZ h;have⟨m1,m2,m3⟩:=ZI h6;have hz:=xX h5;rw[Cf]at hz;refine⟨[],[],_,_,⟨.own (cJ i) 0 m.toNat,[(cJ i,some ⟨ei.size,dW (List.replicate m.toNat (ei.zero.map cv))⟩)],[0<=m/\m.toNat*ei.bytes<=140737488355328/\m.toNat<=maxLen/\0<ei.size]⟩,?_,?_,rfl,?_,by simp,h⟩
    ·simp only[uM,bL,den,CT.tv,TV.av,h1,h2,h3,af,hk,hk']
    ·exact⟨m1,m2,m3,hs.2⟩
    ·simp only[gW,aF,map_nil,Option.map_some,bG,hs.1,aI,dW,List.map_replicate];rw[hz]
   ·cases h
  ·cases h
 ·cases h
theorem ac7{t:TypeId}{l c:DV X}(h:WF T am i t l c k=some r):∃dv upd ab,KB T i t (den l) (den c)=some ab/\jl ab.obs/\ab.v=den dv/\ab.upd=gW upd/\(∀ p∈upd,p.1=cJ i)/\k dv upd [] []=some r:=by
 unfold WF at h;rw[ai]at h;obtain⟨ti,h1,h⟩:=h;split at h
 ·rename_i e kl n kc m hk;rw[ai]at h;obtain⟨ei,h3,h⟩:=h;rw[ai]at h;obtain⟨c,h4,h⟩:=h;split at h
  ·rename_i hs;have⟨z,h5,h⟩:=ai.1 h;have⟨h6,h⟩:=dZ h;simp only[aL,aV]at h6;obtain⟨h7,h8,h9⟩:=h6;have⟨m1,m2,m3⟩:=ZI h9;have hz:=xX h5;rw[Cf]at hz;refine⟨_,_,⟨.own (cJ i) 0 n.toNat,[(cJ i,some ⟨ei.size,dW (List.replicate n.toNat (ei.zero.map cv))⟩)],[0<=n/\n<=m/\m.toNat*ei.bytes<=140737488355328/\m.toNat<=maxLen/\0<ei.size]⟩,?_,?_,rfl,?_,by simp,h⟩
   ·simp only[KB,den,CT.tv,TV.av,h1,h3,af,hk]
   ·exact⟨h8,h7,m2,m3,hs.2⟩
   ·simp only[gW,aF,map_nil,Option.map_some,bG,hs.1,aI,dW,List.map_replicate];rw[hz]
  ·cases h
 ·cases h
theorem VD{t:TypeId}(h:VA T am i t k=some r):∃dv upd ab,GD T i t=some ab/\jl ab.obs/\ab.v=den dv/\ab.upd=gW upd/\(∀ p∈upd,p.1=cJ i)/\k dv upd [] []=some r:=by
 unfold VA at h;rw[ai]at h;obtain⟨ti,h1,h⟩:=h;split at h
 ·rename_i kt et hk;have⟨kc,h2,h⟩:=ai.1 h;have⟨vc,h3,h⟩:=ai.1 h;exact⟨_,_,⟨.mp (cJ i),[(cJ i,some ⟨0,[]⟩)],[]⟩,by simp only[GD,h1,af,hk],trivial,rfl,rfl,by simp,h⟩
 ·cases h
theorem akv{ki:nf}{kc:CT X.ι}(h:DO ki.k kc=true)(x:CT.T X.toSE kc):∃v,(CT.tv X.toSE kc x).av= .t (.sc v)/\Md ki.k v=true:=by
 cases kc
 case int b=>
  refine⟨.int b x,rfl,?_⟩;cases hk:ki.k<;>rw[hk]at h<;>simp only[DO,aV,Bool.false_eq_true]at h;subst h;simp[Md]
 case str=>
  refine⟨.string x,rfl,?_⟩;cases hk:ki.k<;>rw[hk]at h<;>simp only[DO,Bool.false_eq_true]at h;rfl
 case bool=>
  refine⟨.bool x,rfl,?_⟩;cases hk:ki.k<;>rw[hk]at h<;>simp only[DO,Bool.false_eq_true]at h;rfl
 all_goals (cases hk:ki.k<;>rw[hk]at h<;>simp[DO]at h)
theorem ac8{kc:CT X.ι}{eq:CT.T X.toSE kc->CT.T X.toSE kc->Bool}(h:MF kc=some eq){a b:CT.T X.toSE kc}{va:Value}(ha:(CT.tv X.toSE kc a).av= .t (.sc va)):∃vb,(CT.tv X.toSE kc b).av= .t (.sc vb)/\QY va vb=some (eq a b):=by
 cases kc
 case int q=>
  simp only[MF,aA]at h;subst h;simp only[CT.tv,TV.av,AV.t.injEq,Tree.sc.injEq]at ha;subst ha;exact⟨_,rfl,by simp[QY,jp]⟩
 case str=>
  simp only[MF,aA]at h;subst h;simp only[CT.tv,TV.av,AV.t.injEq,Tree.sc.injEq]at ha;subst ha;exact⟨_,rfl,by simp[QY,ll]⟩
 case bool=>
  simp only[MF,aA]at h;subst h;simp only[CT.tv,TV.av,AV.t.injEq,Tree.sc.injEq]at ha;subst ha;exact⟨_,rfl,by simp[QY,bEq]⟩
 all_goals simp[MF]at h
theorem ZJ{kc vc:CT X.ι}{eq:CT.T X.toSE kc->CT.T X.toSE kc->Bool}(h:MF kc=some eq){a:CT.T X.toSE kc}{va:Value}(ha:(CT.tv X.toSE kc a).av= .t (.sc va)):∀l:List (CT.T X.toSE kc×CT.T X.toSE vc),
 ∃r,QZ va (bG (.map kc vc l:bm X)).rows=some r/\r.map (·.2)=(fP eq a l).map λv=>(CT.tv X.toSE vc v).av
 |[]=>⟨none,rfl,rfl⟩
 |p::l=>by
  have⟨vb,h1,h2⟩:=ac8 h (b:=p.1) ha;have⟨r,g1,g2⟩:=ZJ h ha l;have g1':QZ va (l.map λp=>[(CT.tv X.toSE kc p.1).av,(CT.tv X.toSE vc p.2).av])=some r:=g1;simp only[bG,aF,h1,QZ,h2,af,fP];cases eq a p.1 with
  |true=>exact⟨_,rfl,rfl⟩
  |false=>
   simp only[Bool.false_eq_true,if_false,g1',Option.map_some,ak];exact⟨_,rfl,by rw[<- g2,Option.map_map];rfl⟩
theorem ac9{kc vc:CT X.ι}{eq:CT.T X.toSE kc->CT.T X.toSE kc->Bool}(h:MF kc=some eq){a:CT.T X.toSE kc}{va:Value}(ha:(CT.tv X.toSE kc a).av= .t (.sc va))(y:CT.T X.toSE vc):∀l:List (CT.T X.toSE kc×CT.T X.toSE vc),
 xz va (CT.tv X.toSE vc y).av (bG (.map kc vc l:bm X)).rows=some (bG (.map kc vc (rf eq a y l):bm X)).rows
 |[]=>by simp only[bG,map_nil,xz,rf,aF,ha]
 |p::l=>by
  have⟨vb,h1,h2⟩:=ac8 h (b:=p.1) ha;have g:=ac9 h ha y l;have g':xz va (CT.tv X.toSE vc y).av (l.map λp=>[(CT.tv X.toSE kc p.1).av,(CT.tv X.toSE vc p.2).av])=some ((rf eq a y l).map λp=>[(CT.tv X.toSE kc p.1).av,(CT.tv X.toSE vc p.2).av]):=g;simp only[bG,aF,h1,xz,h2,af,rf];cases eq a p.1 with
  |true=>simp only[if_true,aj,aF,ha]
  |false=>simp only[Bool.false_eq_true,if_false,g',Option.map_some,ak,aF,h1]
theorem zero_den{vc:CT X.ι}{ei:nf}{z:CT.T X.toSE vc}(h:GN vc (ei.zero.map t6)=some z)(ha:ei.agg=L3 vc)(hs:ei.size=CT.sz X vc):part' ei.agg ei.size ((ei.zero.map cv).map wk)=some (CT.tv X.toSE vc z).av:=by
 have hz:=xX h;rw[Cf]at hz;rw[hz,ha,hs];have hl:((CT.row X.toSE vc z).map AV.t).length=CT.sz X vc:=by rw[length_map,Dy]
 unfold part';rw[aX hl];cases vc<;>rfl
theorem aa8{d:DV X}{c:CT X.ι}{x:CT.T X.toSE c}(h:dat d c=some x):yf (den d)=(CT.tv X.toSE c x).av:=by
 cases c
 case st j=>
  replace h:DB d j=some x:=h
  cases d
  case agg cs=>
   simp only[DB]at h;rw[ai]at h;obtain⟨g,h1,h⟩:=h;cases h;simp only[den,yf,(yC h1 (X.flat j)).1];rw[<- Vr];rfl
  case c a y=>
   replace h:jr a (.st j) y=some x:=h
   rw[(nY h).1];simp only[den,CT.tv,TV.av,yf,map_map];congr 1
  all_goals cases h
 all_goals
  (have h':JK d _=some x:=h
   have hd:=vR h';cases d
   case agg=>cases h
   case c a y=>
    obtain⟨e,_⟩:=q8 (show jr a _ y=some x from h);subst e;exact hd
   all_goals first |exact hd |(cases h))
theorem Yz{t:TypeId}{x key:DV X}{ok:Bool}(h:Ui T t x key ok get k=some r):∃rd dv ab,ql T t (den x) (den key) ok (dH rd (fw get))=some ab/\jl ab.obs/\ab.v=den dv/\ab.upd=[]/\k dv [] rd []=some r:=by
 unfold Ui at h;rw[ai]at h;obtain⟨ti,h1,h⟩:=h;split at h
 ·rename_i kt et kk hk;rw[ai]at h;obtain⟨ki,h2,h⟩:=h;rw[ai]at h;obtain⟨ei,h3,h⟩:=h;rw[ai]at h;obtain⟨o,h4,h⟩:=h;split at h
  ·rename_i kc vc l;rw[ai]at h;obtain⟨eq,h5,h⟩:=h;rw[ai]at h;obtain⟨kv,h6,h⟩:=h;split at h
   ·rename_i hc;have⟨z,h7,h⟩:=ai.1 h;have⟨va,g1,g2⟩:=akv hc.1 kv;have⟨q,g3,g4⟩:=ZJ (vc:=vc) h5 g1 l;have hkey:den key= .t (.sc va):=by
     have:=vR h6;rw[g1]at this;cases hd:den key<;>rw[hd]at this<;>simp only[wk,AV.t.injEq,reduceCtorEq]at this;subst this;rfl
    have hv:∀q:Option (Nat×AV),q.map (·.2)=(fP eq kv l).map (λ v=>(CT.tv X.toSE vc v).av)->vA q (part' ei.agg ei.size ((ei.zero.map cv).map wk))=some (CT.tv X.toSE vc ((fP eq kv l).getD z)).av:=by
     intro q g;cases hm:fP eq kv l with
     |none=>
      rw[hm]at g;cases q with
      |none=>exact zero_den h7 hc.2.1 hc.2.2
      |some p=>simp at g
     |some v=>
      rw[hm]at g;cases q with
      |none=>simp at g
      |some p=>simp only[Option.map_some,aA]at g;simp only[vA,g,Option.getD_some]
    have hi:q.isSome=(fP eq kv l).isSome:=by
     have:=congrArg Option.isSome g4;simpa using this
    have hb:ql T t (den (.mp kk:DV X)) (den key) ok (dH [kk] (fw get))=pv (if ok then .eC [den (.c vc ((fP eq kv l).getD z):DV X),.t (.sc (.bool q.isSome))]else den (.c vc ((fP eq kv l).getD z):DV X)):=by
     simp only[ql,Ud,h1,af,hk,den,hkey,h2,h3,eu (List.mem_singleton_self kk) h4];rw[aX ⟨g2,by simp[bG]⟩];rw[g3,af,hv q g4,af]
    cases ok with
    |true=>exact⟨[kk],_,_,hb,trivial,by simp only[if_true,den,bL,hi];rfl,rfl,h⟩
    |false=>exact⟨[kk],_,_,hb,trivial,rfl,rfl,h⟩
   ·cases h
  ·cases h
 ·cases h
theorem YA{t:TypeId}{x key y:DV X}(h:Uj T t x key y get k=some r):∃rd wr dv upd ab,vP T t (den x) (den key) (den y) (dH rd (fw get))=some ab/\jl ab.obs/\ab.v=den dv/\ab.upd=gW upd/\(∀ p∈upd,p.1∈wr)/\k dv upd rd wr=some r:=by
 unfold Uj at h;rw[ai]at h;obtain⟨ti,h1,h⟩:=h;split at h
 ·rename_i kt et kk hk;rw[ai]at h;obtain⟨ki,h2,h⟩:=h;rw[ai]at h;obtain⟨o,h4,h⟩:=h;split at h
  ·rename_i kc vc l;rw[ai]at h;obtain⟨eq,h5,h⟩:=h;rw[ai]at h;obtain⟨kv,h6,h⟩:=h;rw[ai]at h;obtain⟨v,h7,h⟩:=h;split at h
   ·rename_i hc;have⟨va,g1,g2⟩:=akv hc kv;have g3:=ac9 (vc:=vc) h5 g1 v l;have hkey:den key= .t (.sc va):=by
     have:=vR h6;rw[g1]at this;cases hd:den key<;>rw[hd]at this<;>simp only[wk,AV.t.injEq,reduceCtorEq]at this;subst this;rfl
    refine⟨[kk],[kk],_,_,⟨.undef,[(kk,some ⟨(bG (.map kc vc (rf eq kv v l):bm X)).rows.length,(bG (.map kc vc (rf eq kv v l):bm X)).rows⟩)],[]⟩,?_,trivial,rfl,?_,by simp,h⟩
    ·simp only[vP,Ue,h1,af,hk,den,hkey,h2,eu (List.mem_singleton_self kk) h4];rw[aX ⟨g2,by simp[bG]⟩,aa8 h7,g3];rfl
    ·simp[gW,bG]
   ·cases h
  ·cases h
 ·cases h
theorem ada{k:IntKind}:∀{l:List (CT X.ι)}(h:HL X.toSE l),DF k l=true->pV k ((HL.row X.toSE l h).map AV.t)=some (mH l h)/\(mH l h).length=l.length
 |[],_,_=>⟨rfl,rfl⟩
 | .int k'::l,h,hi=>by
  simp only[DF,aL,aV]at hi;obtain⟨rfl,hi⟩:=hi;have⟨g1,g2⟩:=ada (l:=l) h.2 hi;exact⟨by simp only[HL.row,CT.row,cons_append,bQ,aF,pV,if_true,g1,Option.map_some,mH],by simp only[mH,bI,g2]⟩
theorem ahF{k:IntKind}:∀{cs:List AV}{c:List Int},pV k cs=some c->GH k c= .agg cs
 |[],c,h=>by simp only[pV,aA]at h;subst h;rfl
 |x::cs,c,h=>by
  unfold pV at h;split at h
  ·rename_i heq;cases heq
  ·rename_i k' n r heq;injection heq with e1 e2;subst e1;subst e2;split at h
   ·rename_i hk;subst hk;rw[dK]at h;obtain⟨c',h1,rfl⟩:=h;have:=ahF h1;simp only[GH,AV.agg.injEq]at this ⊢;rw[aF,this]
   ·cases h
  ·cases h
theorem rP{k:IntKind}{i:X.ι}(hi:DF k (X.cQ i)=true)(x:CT.T X.toSE (.st i)):pV k ((X.row i x).map AV.t)=some (mH (X.cQ i) (X.get i x))/\(mH (X.cQ i) (X.get i x)).length=(X.cQ i).length:=by
 have:=ada (X.get i x) hi;rw[<- X.l4]at this;exact this
theorem adb{k:IntKind}:∀{cs:List AV}{c:List Int},pV k (cs.map wk)=some c->pV k cs=some c
 |[],c,h=>h
 |x::cs,c,h=>by
  cases x
  case t y=>
   cases y
   case sc v=>
    cases v
    case int k' n=>
     simp only[aF,wk,pV]at h ⊢;split at h
     ·rename_i hk;rw[aX hk];rw[dK]at h ⊢;obtain⟨c',h1,rfl⟩:=h;exact⟨c',adb h1,rfl⟩
     ·cases h
    all_goals (simp [wk,pV]at h)
   all_goals (simp [wk,pV]at h)
  all_goals (simp [wk,pV]at h)
theorem akw{key:DV X}{i:X.ι}{kv:CT.T X.toSE (.st i)}{k:IntKind}(h:dat key (.st i)=some kv)(hi:DF k (X.cQ i)=true):∃cs,den key= .agg cs/\pV k cs=some (mH (X.cQ i) (X.get i kv)):=by
 have h1:=aa8 h;cases hd:den key<;>rw[hd]at h1<;>simp only[yf,wk,CT.tv,TV.av,reduceCtorEq,AV.agg.injEq]at h1;rename_i cs;exact⟨cs,rfl,adb (by rw[h1];exact(rP hi kv).1)⟩
theorem VE{vc:CT X.ι}{i:X.ι}{k:IntKind}(hi:DF k (X.cQ i)=true)(a:CT.T X.toSE (.st i)):∀l:List (CT.T X.toSE (.st i)×CT.T X.toSE vc),
 ∃r,Av k (mH (X.cQ i) (X.get i a)) (bG (.map (.st i) vc l:bm X)).rows=some r/\r.map (·.2)=(fP (GV i) a l).map λv=>(CT.tv X.toSE vc v).av
 |[]=>⟨none,rfl,rfl⟩
 |p::l=>by
  have⟨h1,h2⟩:=rP hi p.1;have h3:=(rP hi a).2;have⟨r,g1,g2⟩:=VE hi a l;have g1':Av k (mH (X.cQ i) (X.get i a)) (l.map λp=>[(CT.tv X.toSE (.st i) p.1).av,(CT.tv X.toSE vc p.2).av])=some r:=g1;have e:(CT.tv X.toSE (.st i) p.1).av= .agg ((X.row i p.1).map AV.t):=rfl;simp only[bG,aF,e,Av,h1,af,fP,GV];rw[aX (by rw[h2,h3])];by_cases hc:mH (X.cQ i) (X.get i a)=mH (X.cQ i) (X.get i p.1)
  ·rw[aX hc,decide_eq_true hc];exact⟨_,rfl,rfl⟩
  ·rw[aQ hc,decide_eq_false hc];refine⟨r.map λp=>(p.1+1,p.2),?_,?_⟩
   ·exact congrArg (Option.map λr:Option (Nat×AV)=>r.map λp=>(p.1+1,p.2)) g1'
   ·rw[ak,<- g2,Option.map_map];rfl
theorem aiI{vc:CT X.ι}{i:X.ι}{k:IntKind}(hi:DF k (X.cQ i)=true)(a:CT.T X.toSE (.st i))(y:CT.T X.toSE vc):∀l:List (CT.T X.toSE (.st i)×CT.T X.toSE vc),
 Mf k (mH (X.cQ i) (X.get i a)) (CT.tv X.toSE vc y).av (bG (.map (.st i) vc l:bm X)).rows=some (bG (.map (.st i) vc (rf (GV i) a y l):bm X)).rows:=by
 have hA:GH k (mH (X.cQ i) (X.get i a))=(CT.tv X.toSE (.st i) a).av:=ahF (rP hi a).1;intro l
 induction l with
 |nil=>simp only[bG,map_nil,Mf,rf,aF,hA]
 |cons p l ih=>
  have⟨h1,h2⟩:=rP hi p.1;have h3:=(rP hi a).2;have e:(CT.tv X.toSE (.st i) p.1).av= .agg ((X.row i p.1).map AV.t):=rfl;have ih':Mf k (mH (X.cQ i) (X.get i a)) (CT.tv X.toSE vc y).av (l.map λp=>[(CT.tv X.toSE (.st i) p.1).av,(CT.tv X.toSE vc p.2).av])=some ((rf (GV i) a y l).map λp=>[(CT.tv X.toSE (.st i) p.1).av,(CT.tv X.toSE vc p.2).av]):=ih;simp only[bG,aF,e,Mf,h1,af,rf];rw[aX (by rw[h2,h3])];by_cases hc:mH (X.cQ i) (X.get i a)=mH (X.cQ i) (X.get i p.1)
  ·rw[aX hc,show GV i a p.1=true from decide_eq_true hc,hA];rfl
  ·rw[aQ hc,show GV i a p.1=false from decide_eq_false hc,ih'];rfl
theorem amz{vc:CT X.ι}{ei:nf}{z:CT.T X.toSE vc}(h7:GN vc (ei.zero.map t6)=some z)(hc1:ei.agg=L3 vc)(hc2:ei.size=CT.sz X vc){q:Option (Nat×AV)}{m:Option (CT.T X.toSE vc)}(g:q.map (·.2)=m.map λv=>(CT.tv X.toSE vc v).av):
 vA q (part' ei.agg ei.size ((ei.zero.map cv).map wk))=some (CT.tv X.toSE vc (m.getD z)).av:=by
 cases m with
 |none=>
  cases q with
  |none=>exact zero_den h7 hc1 hc2
  |some p=>simp at g
 |some v=>
  cases q with
  |none=>simp at g
  |some p=>simp only[Option.map_some,aA]at g;simp only[vA,g,Option.getD_some]
theorem VF{t:TypeId}{x key:DV X}{ok:Bool}(h:MI T t x key ok get k=some r):∃rd dv ab,ql T t (den x) (den key) ok (dH rd (fw get))=some ab/\jl ab.obs/\ab.v=den dv/\ab.upd=[]/\k dv [] rd []=some r:=by
 unfold MI at h;rw[ai]at h;obtain⟨ti,h1,h⟩:=h;split at h
 ·rename_i kt et kk hk;rw[ai]at h;obtain⟨mk,h2,h⟩:=h;rw[ai]at h;obtain⟨ei,h3,h⟩:=h;rw[ai]at h;obtain⟨o,h4,h⟩:=h;split at h
  ·rename_i i vc l;rw[ai]at h;obtain⟨kv,h6,h⟩:=h;split at h
   ·rename_i hc;have⟨z,h7,h⟩:=ai.1 h;have⟨cs,g1,g2⟩:=akw h6 hc.2.1;have⟨q,g3,g4⟩:=VE (vc:=vc) hc.2.1 kv l;have hi:q.isSome=(fP (GV i) kv l).isSome:=by
     have:=congrArg Option.isSome g4;simpa using this
    have hb:ql T t (den (.mp kk:DV X)) (den key) ok (dH [kk] (fw get))=pv (if ok then .eC [den (.c vc ((fP (GV i) kv l).getD z):DV X),.t (.sc (.bool q.isSome))]else den (.c vc ((fP (GV i) kv l).getD z):DV X)):=by
     simp only[g1,ql,Mg,h1,af,hk,den,h2,h3,eu (List.mem_singleton_self kk) h4,g2];rw[aX ⟨(rP hc.2.1 kv).2.trans hc.1,by simp[bG]⟩];rw[g3,af,amz h7 hc.2.2.1 hc.2.2.2 g4,af]
    cases ok with
    |true=>exact⟨[kk],_,_,hb,trivial,by simp only[if_true,den,bL,hi];rfl,rfl,h⟩
    |false=>exact⟨[kk],_,_,hb,trivial,rfl,rfl,h⟩
   ·cases h
  ·cases h
 ·cases h
theorem VG{t:TypeId}{x key y:DV X}(h:MJ T t x key y get k=some r):∃rd wr dv upd ab,vP T t (den x) (den key) (den y) (dH rd (fw get))=some ab/\jl ab.obs/\ab.v=den dv/\ab.upd=gW upd/\(∀ p∈upd,p.1∈wr)/\k dv upd rd wr=some r:=by
 unfold MJ at h;rw[ai]at h;obtain⟨ti,h1,h⟩:=h;split at h
 ·rename_i kt et kk hk;rw[ai]at h;obtain⟨mk,h2,h⟩:=h;rw[ai]at h;obtain⟨o,h4,h⟩:=h;split at h
  ·rename_i i vc l;rw[ai]at h;obtain⟨kv,h6,h⟩:=h;rw[ai]at h;obtain⟨v,h7,h⟩:=h;split at h
   ·rename_i hc;have⟨cs,g1,g2⟩:=akw h6 hc.2;have g3:=aiI (vc:=vc) hc.2 kv v l;refine⟨[kk],[kk],_,_,⟨.undef,[(kk,some ⟨(bG (.map (.st i) vc (rf (GV i) kv v l):bm X)).rows.length,(bG (.map (.st i) vc (rf (GV i) kv v l):bm X)).rows⟩)],[]⟩,?_,trivial,rfl,?_,by simp,h⟩
    ·simp only[g1,vP,Mh,h1,af,hk,den,h2,eu (List.mem_singleton_self kk) h4,g2];rw[aX ⟨(rP hc.2 kv).2.trans hc.1,by simp[bG]⟩,aa8 h7,g3];rfl
    ·simp[gW,bG]
   ·cases h
  ·cases h
 ·cases h
theorem VH{t:TypeId}{x key:DV X}{ok:Bool}(h:(bif ZG x get then MI T t x key ok get k else Ui T t x key ok get k)=some r):∃rd dv ab,ql T t (den x) (den key) ok (dH rd (fw get))=some ab/\jl ab.obs/\ab.v=den dv/\ab.upd=[]/\k dv [] rd []=some r:=by
 cases hs:ZG x get<;>rw[hs]at h
 ·exact Yz h
 ·exact VF h
theorem VI{t:TypeId}{x key y:DV X}(h:(bif ZG x get then MJ T t x key y get k else Uj T t x key y get k)=some r):∃rd wr dv upd ab,vP T t (den x) (den key) (den y) (dH rd (fw get))=some ab/\jl ab.obs/\ab.v=den dv/\ab.upd=gW upd/\(∀ p∈upd,p.1∈wr)/\k dv upd rd wr=some r:=by
 cases hs:ZG x get<;>rw[hs]at h
 ·exact YA h
 ·exact VG h
theorem afK(h:UV T am i o.op ρ get k=some r):d6 P T i o ρ get k r:=by
 obtain⟨dst,op,ty,ao,after,guard⟩:=o;unfold UV at h;simp only at h;split at h
 ·rename_i op t x y q;split at h
  ·rename_i hn;have⟨dv,ab,g1,g2,g3,g4,g5⟩:=afI h;have hy:den (ρ y)= .cV:=(by cases hρ:ρ y<;>rw[hρ]at hn<;>first |rfl |cases hn);exact d6.ext (n:=0) (rd:=[]) (wr:=[]) (upd:=[]) (by simp only[sH,hy];exact g1) g2 g3 g4 (by simp) g5
  ·cases h
 ·rename_i s d x;unfold anO at h;rw[ai]at h;obtain⟨si,h1,h⟩:=h;rw[ai]at h;obtain⟨di,h2,h⟩:=h;split at h
  ·rename_i kd k' n hk hx;refine d6.ext (n:=0) (rd:=[]) (wr:=[]) (upd:=[]) (ab:=⟨.t (.sc (.int kd (kd.wrap n))),[],[]⟩) ?_ trivial rfl rfl (by simp) h;simp only[sH,M3,h1,h2,af,hk,hx];rfl
  ·cases h
 ·rename_i t x j;unfold akr at h;rw[ai]at h;obtain⟨ti,h1,h⟩:=h;split at h
  ·rename_i s kk n hk hx hj;rw[ai]at h;obtain⟨b,h2,h⟩:=h;refine d6.ext (n:=b) (rd:=[]) (wr:=[]) (upd:=[]) (ab:=⟨.t (.sc (.int .u8 b)),[],[0<=n/\∃c,s[n.toNat]? =some c/\b=c.toNat]⟩) ?_ (afJ h2) rfl rfl (by simp) h;simp only[sH,UX,h1,af,hk,hx,hj];rfl
  ·rename_i m e cs kd q hk hx hj;rw[ai]at h;obtain⟨ei,h2,h⟩:=h;have⟨h3,h⟩:=dZ h;rw[ai]at h;obtain⟨v,h4,h⟩:=h;simp only[cC,aL,aV]at h3;refine d6.ext (n:=0) (rd:=[]) (wr:=[]) (upd:=[]) (ab:=⟨den v,[],[0<=q/\q<(m:Int)]⟩) ?_ h3 rfl rfl (by simp) h;have h5:=Cg h4;rw[jZ]at h5;simp only[sH,UX,h1,af,hk,hx,hj,h2,den,CT.tv,TV.av,h5];rfl
  ·cases h
 ·rename_i t x lo hi;unfold ZF at h;rw[ai]at h;obtain⟨ti,h1,h⟩:=h;split at h
  ·rename_i e hk hx;rw[ai]at h;obtain⟨ei,h2,h⟩:=h;rw[ai]at h;obtain⟨l,h3,h⟩:=h;rw[ai]at h;obtain⟨hh,h4,h⟩:=h;have⟨h5,h⟩:=dZ h;refine d6.ext (n:=0) (rd:=[]) (wr:=[]) (upd:=[]) (ab:=⟨.cV,[],[l=0/\hh=0]⟩) ?_ (show l=0/\hh=0 by simpa using h5) rfl rfl (by simp) h;have e1:=Ch h3;have e2:=Ch h4;rw[Option.map_map]at e1 e2;simp only[sH,Jc,h1,af,hk,hx,h2,den];have LR:bnd 0 (lo.map λx=>den (ρ x))=some l:=e1;have e2':bnd 0 (hi.map λx=>den (ρ x))=some hh:=e2;rw[LR,af,e2'];rfl
  ·cases h
 ·rename_i x;have⟨dv,g1,g2⟩:=R7 h;exact d6.vu (n:=0) (rd:=[]) (wr:=[]) (upd:=[]) g1 trivial rfl rfl (by simp) g2
 ·rename_i t l c;have⟨dv,upd,ab,g1,g2,g3,g4,g5,g6⟩:=ac7 h;exact d6.vu (n:=0) (rd:=[]) (wr:=[]) (upd:=upd) g1 g2 g3 g4 (λ p hp=> .inl (g5 p hp)) g6
 ·rename_i t;have⟨dv,upd,ab,g1,g2,g3,g4,g5,g6⟩:=VD h;exact d6.vu (n:=0) (rd:=[]) (wr:=[]) (upd:=upd) g1 g2 g3 g4 (λ p hp=> .inl (g5 p hp)) g6
 ·rename_i t m x ok;have⟨rd,dv,ab,g1,g2,g3,g4,g6⟩:=VH h;exact d6.vu (n:=0) (rd:=rd) (wr:=[]) (upd:=[]) g1 g2 g3 g4 (by simp) g6
 ·rename_i t m x v;have⟨rd,wr,dv,upd,ab,g1,g2,g3,g4,g5,g6⟩:=VI h;exact d6.vu (n:=0) (rd:=rd) (wr:=wr) (upd:=upd) g1 g2 g3 g4 (λ p hp=> .inr (g5 p hp)) g6
 ·rename_i b args cQ;have⟨rd,wr,dv,upd,ab,g1,g2,g3,g4,g5,g6⟩:=R8 h;refine d6.ext (n:=0) (rd:=rd) (wr:=wr) (upd:=upd) ?_ g2 g3 g4 g5 g6;simp only[sH,Ug];exact g1
 ·cases h
theorem ade{c:CT X.ι}:∀{xs:List Operand}{x:Operand}{y:CT.T X.toSE c×List Bool},x∈xs->E9 get (ρ x) c=some y->∀j∈bk (ρ x),j∈AC get c ρ xs
 |z::xs,x,y,hx,h,j,hj=>by
  simp only[AC,bf];rcases aN.1 hx with rfl |hx
  ·left;rw[h];exact hj
  ·exact .inr (ade hx h j hj)
 |[],_,_,hx,_,_,_=>by simp at hx
theorem adf{c:CT X.ι}:∀{xs:List Operand}{x:Operand}{y:CT.T X.toSE c×List Bool},x∈xs->E9 get (ρ x) c=some y->∀b∈y.2,b∈L2 get c ρ xs
 |z::xs,x,y,hx,h,b,hb=>by
  simp only[L2,bf];rcases aN.1 hx with rfl |hx
  ·left;rw[h];exact hb
  ·exact .inr (adf hx h b hb)
 |[],_,_,hx,_,_,_=>by simp at hx
theorem afL(h:Up T am i o.op ρ get k=some r):d6 P T i o ρ get k r:=by
 unfold Up at h;split at h
 ·cases h
 rename_i hpick;have⟨c,h1,h⟩:=ai.1 h;have⟨hcs,h⟩:=o8 h;have⟨cw,rd,wr,dv,upd,ab,g1,g2,g3,g4,g5,g6⟩:=ZB h;generalize kq:AC get c ρ o.op.operands.toList=ae at*;refine⟨.xm ae (λ x=>den (IN get c ρ x)) cw,rd++ae,wr++ae,dv,upd++MH ae,⟨ab.v,ab.upd++ae.map (λ k=>(k,none)),ab.obs++[∀ x∈o.op.operands,(fx P (dH (rd++ae) (fw get)) (den (ρ x)) (den (IN get c ρ x))/\∀k∈refs (den (ρ x)),k∈ae)\/den (IN get c ρ x)=den (ρ x)]⟩,?_,?_,g3,?_,?_,g6⟩
 ·unfold jA GA;simp only;rw[aQ hpick];have e:(λ k=>if k∈ae then none else dH (rd++ae) (fw get) k)=dH rd (fw λj=>if j∈ae then none else get j):=by
   funext j;simp only[dH,fw,bf];by_cases hj:j∈ae
   ·simp[hj]
   ·simp[hj]
  rw[e,g1];rfl
 ·refine qK _ λp hp=>?_;rcases bf.1 hp with hp |hp
  ·exact qj _ g2 p hp
  ·rw[aW]at hp;subst hp;intro x hx;unfold IN;cases hl:E9 get (ρ x) c with
   |none=>exact .inr rfl
   |some y=>
    left;have hx':x∈o.op.operands.toList:=(by simpa using hx);have hin:∀j∈bk (ρ x),j∈ae:=λj hj=>kq ▸ ade hx' hl j hj;obtain⟨hs,obs,p1,p2⟩:=zR (P:=P) (rd:=rd++ae) hl (λ b hb=>hcs b (adf hx' hl b hb)) (λ j hj=>List.mem_append_right _ (hin j hj));refine⟨?_,λj hj=>hin j (by rwa [iL]at hj)⟩;have:=p2 [];exact Dr _ _ _ this p1
 ·simp only[rO,Cj,g4]
 ·intro p hp;rcases bf.1 hp with hp |hp
  ·exact(g5 p hp).imp id (λ h=>List.mem_append_left _ h)
  ·exact .inr (List.mem_append_right _ (Jg hp))
theorem VJ{c:CT X.ι}:∀{ds:List (DV X)}{xs:List (CT.T X.toSE c)},zy c ds=some xs->bL ds=xs.map λy=>den (.c c y:DV X)
 |[],xs,h=>by simp only[zy,aA]at h;subst h;rfl
 | .c a x::ds,xs,h=>by
  simp only[zy]at h;have⟨y,h1,h⟩:=ai.1 h;have⟨l,h2,h⟩:=ai.1 h;cases h;simp only[bL,aF,VJ h2,(nY h1).1]
 | .agg _::_,_,h=>by simp[zy]at h
 | .eC _::_,_,h=>by simp[zy]at h
 | .own _ _ _::_,_,h=>by simp[zy]at h
 | .ptr _ _ _::_,_,h=>by simp[zy]at h
 | .qr _ _ _::_,_,h=>by simp[zy]at h
 | .mp _::_,_,h=>by simp[zy]at h
 | .tg _ _ _ _ _::_,_,h=>by simp[zy]at h
 | .rp _ _ _::_,_,h=>by simp[zy]at h
 | .ws _ _ _ _ _::_,_,h=>by simp[zy]at h
 | .fn _ _ _::_,_,h=>by simp[zy]at h
 | .d7 _ _ _::_,_,h=>by simp[zy]at h
 | .raw _::_,_,h=>by simp[zy]at h
 | .nil::_,_,h=>by simp[zy]at h
 | .ub::_,_,h=>by simp[zy]at h
 | .skip::_,_,h=>by simp[zy]at h
 | .undef::_,_,h=>by simp[zy]at h
theorem afM(h:T8 T am o.op ρ get k=some r):d6 P T i o ρ get k r:=by
 obtain⟨dst,op,ty,ao,after,guard⟩:=o;unfold T8 at h;simp only at h;split at h
 ·rename_i t x j;rw[ai]at h;obtain⟨ti,h1,h⟩:=h;split at h
  ·rename_i m e kk row aa kd n hk hx hj;rw[ai]at h;obtain⟨ei,h2,h⟩:=h;split at h
   ·rename_i hs;have⟨h3,h⟩:=dZ h;refine d6.op (cw:= .none) (rd:=[]) (wr:=[]) (upd:=[]) (λ _ _ _ e=>by cases e) (ab:=⟨.ptr kk row (aa+n.toNat*1),[],[0<=n/\n.toNat<m]⟩) ?_ ⟨?_,?_,rfl,by simp,h⟩
    ·simp only[pU,lT,h1,af,hk,hx,hj,den,CT.tv,TV.av,h2,hs];rfl
    ·simp only[cC,aL,aV]at h3;exact⟨h3.1,by omega⟩
    ·simp only[den,Nat.mul_one]
   ·cases h
  ·rename_i m e c y aa kd n hk hx hj;rw[ai]at h;obtain⟨ei,h2,h⟩:=h;split at h
   ·rename_i hs;have⟨h3,h⟩:=dZ h;refine d6.op (cw:= .none) (rd:=[]) (wr:=[]) (upd:=[]) (λ _ _ _ e=>by cases e) (ab:=⟨.eo (CT.row X.toSE c y) (aa+n.toNat*1),[],[0<=n/\n.toNat<m]⟩) ?_ ⟨?_,?_,rfl,by simp,h⟩
    ·simp only[pU,lT,h1,af,hk,hx,hj,den,CT.tv,TV.av,h2,hs];rfl
    ·simp only[cC,aL,aV]at h3;exact⟨h3.1,by omega⟩
    ·simp only[den,Nat.mul_one]
   ·cases h
  ·cases h
 ·rename_i t a;rw[ai]at h;obtain⟨ti,h1,h⟩:=h;split at h
  ·rename_i kk row aa m n hx;split at h
   ·rename_i hs;rw[ai]at h;obtain⟨c,h2,h⟩:=h;split at h
    ·rename_i hc;rw[ai]at h;obtain⟨ob,h3,h⟩:=h;split at h
     ·rename_i sz rows;have⟨q,h4,h⟩:=ai.1 h;have⟨xs,h5,h⟩:=ai.1 h;have⟨y,h6,h⟩:=ai.1 h;have⟨_,h7⟩:=Mx h6;have h8:=VJ h5;have h9:((bL q).drop (aa+n.toNat)).take 1=[den (.c c y:DV X)]:=by
       have e1:(bL ((q.drop aa).take m))[n.toNat]? =some (den (.c c y:DV X)):=(by rw[h8,List.getElem?_map,h7];rfl);rw[jZ,List.getElem?_take]at e1;split at e1
       ·rw[List.getElem?_drop]at e1;have⟨g1,g2⟩:=dF.1 e1;rw[List.drop_eq_getElem_cons g1,List.take_succ_cons,List.take_zero,g2]
       ·cases e1
      refine d6.op (cw:= .none) (rd:=[kk]) (wr:=[]) (upd:=[]) (λ _ _ _ e=>by cases e) (ab:=⟨den (.c c y:DV X),[],[]⟩) ?_ ⟨trivial,rfl,rfl,by simp,h⟩;simp only[pU,Kc,h1,af,hx,den,eu (List.mem_singleton_self kk) h3,bG,List.getElem?_map,h4,Option.map_some,hs.1,hs.2];rw[h9];obtain⟨t',g1,g2⟩:=row_one hc y;simp only[den,g2,TV.av];rfl
     ·cases h
     ·cases h
    ·cases h
   ·cases h
  ·rename_i b y0 aa m n hx;split at h
   ·rename_i hs;rw[ai]at h;obtain⟨c,h2,h⟩:=h;split at h
    ·rename_i hc;have⟨xs,h5,h⟩:=ai.1 h;have⟨y,h6,h⟩:=ai.1 h;have⟨_,h7⟩:=Mx h6;have h8:=VJ h5;have h9:(((CT.row X.toSE b y0).drop (aa+n.toNat)).take 1).map AV.t=[den (.c c y:DV X)]:=by
      have e1:(bL (((uQ b y0).drop aa).take m))[n.toNat]? =some (den (.c c y:DV X)):=(by rw[h8,List.getElem?_map,h7];rfl);rw[jZ,oJ,List.getElem?_take]at e1;split at e1
      ·rw[List.getElem?_drop]at e1;have⟨g1,g2⟩:=dF.1 e1;rw[map_take,map_drop,List.drop_eq_getElem_cons g1,List.take_succ_cons,List.take_zero,g2]
      ·cases e1
     refine d6.op (cw:= .none) (rd:=[]) (wr:=[]) (upd:=[]) (λ _ _ _ e=>by cases e) (ab:=⟨den (.c c y:DV X),[],[]⟩) ?_ ⟨trivial,rfl,rfl,by simp,h⟩;simp only[pU,Kc,h1,af,hx,den,hs.1,hs.2];rw[h9];obtain⟨t',g1,g2⟩:=row_one hc y;simp only[den,g2,TV.av];rfl
    ·cases h
   ·cases h
  ·cases h
 ·cases h
end
end
section
variable {X:SX}
structure MA(X:SX) where
 nm:List (Nat×Nat)
 ez:List (DC X)
 iS:List Bool
def addN(m:MA X)(k' k:Nat):MA X:=if m.nm.contains (k',k)then m else⟨m.nm++[(k',k)],m.ez,m.iS⟩
section
variable (get:Nat->Option (bm X))
mutual
def mP:Pt X.ι->DV X->MA X->Option (MA X)
 | .v c,d,m=>(dat d c).bind λx=>some ⟨m.nm,m.ez++[⟨c,x⟩],m.iS⟩
 | .o k,d,m=>match d with
  | .own k' 0 len=>(get k').bind λo=>match o with
   | .d8 _ l=>some (addN ⟨m.nm,m.ez,m.iS++[az len l.length]⟩ k' k)
   |_=>none
  |_=>none
 | .oz k,d,m=>match d with
  | .own k' 0 len=>(get k').bind λo=>match o with
   | .d8 _ l=>some (addN ⟨m.nm,m.ez,m.iS++[!(len==0)&&az len l.length]⟩ k' k)
   |_=>none
  | .oz k' len=>(get k').bind λo=>match o with
   | .d8 _ l=>some (addN ⟨m.nm,m.ez,m.iS++[az len l.length]⟩ k' k)
   |_=>none
  |_=>none
 | .p k,d,m=>match d with
  | .ptr k' 0 0=>some (addN m k' k)
  |_=>none
 | .mp k,d,m=>match d with
  | .mp k'=>some (addN m k' k)
  |_=>none
 | .nil,d,m=>match d with
  | .nil=>some m
  |_=>none
 | .f F fs cs,d,m=>match d with
  | .fn F' first caps=>if F=F' then(sX fs first m).bind λm=>sX cs caps m else none
  |_=>none
 | .od k,d,m=>match d with
  | .own k' aa len=>(get k').bind λo=>match o with
   | .d8 _ l=>some (addN ⟨m.nm,m.ez++[⟨.int .i64,(aa:Int)⟩],m.iS++[az (aa+len) l.length]⟩ k' k)
   |_=>none
  |_=>none
 | .a ps,d,m=>match d with
  | .agg ds=>sX ps ds m
  |_=>none
def sX:List (Pt X.ι)->List (DV X)->MA X->Option (MA X)
 |[],[],m=>some m
 |p::ps,d::ds,m=>(mP p d m).bind λm=>sX ps ds m
 |_,_,_=>none
end
def GX(env:Nat->DV X):List (Nat×Pt X.ι)->MA X->Option (MA X)
 |[],m=>some m
 |(t,p)::r,m=>(mP get p (env t) m).bind λm=>GX env r m
def Fa:List (List (Pt X.ι))->List (List (DV X))->MA X->Option (MA X)
 |[],[],m=>some m
 |r::rs,q::qs,m=>(sX get r q m).bind λm=>Fa rs qs m
 |_,_,_=>none
def nameOf(m:MA X)(k:Nat):Nat:=match m.nm.find? (λ q=>q.2==k)with |some q=>q.1 |none=>k
def Ck:List (Nat×OP X.ι)->MA X->Option (MA X)
 |[],m=>some m
 |(k,op)::r,m=>(get (nameOf m k)).bind λo=>match op,o with
  | .l c,.d8 c' l=>(jr (.sl c') (.sl c) l).bind λl'=>Ck r (addN ⟨m.nm,m.ez++[⟨.sl c,l'⟩],m.iS⟩ (nameOf m k) k)
  | .m kc vc,.map tP tE l=>(jr (.mp tP tE) (.mp kc vc) l).bind λl'=>Ck r (addN ⟨m.nm,m.ez++[⟨.mp kc vc,l'⟩],m.iS⟩ (nameOf m k) k)
  | .c sz rows,.cells sz' rows'=>if sz=sz' then(Fa get rows rows' (addN m (nameOf m k) k)).bind λm=>Ck r m else none
  |_,_=>none
end
end
section
variable {X:SX} {A:Type}
mutual
def nr(f:Nat->Nat):DV X->DV X
 | .own k aa len=> .own (f k) aa len
 | .ptr k row aa=> .ptr (f k) row aa
 | .qr k n aa=> .qr (f k) n aa
 | .tg k row aa m n=> .tg (f k) row aa m n
 | .mp k=> .mp (f k)
 | .oz k len=> .oz (f k) len
 | .agg cs=> .agg (JL f cs)
 | .eC cs=> .eC (JL f cs)
 | .fn F first caps=> .fn F (JL f first) (JL f caps)
 |x=>x
def JL(f:Nat->Nat):List (DV X)->List (DV X)
 |[]=>[]
 |x::xs=>nr f x::JL f xs
end
theorem afN(f:Nat->Nat):∀l:List Tree,zw f (l.map AV.t)=l.map AV.t
 |[]=>rfl
 |x::xs=>by simp only[aF,zw,fX,afN f xs]
mutual
theorem zS(f:Nat->Nat):∀x:DV X,den (nr f x)=fX f (den x)
 | .own _ _ _=>rfl
 | .ptr _ _ _=>rfl
 | .qr _ _ _=>rfl
 | .mp _=>rfl
 | .oz _ _=>rfl
 | .tg _ _ _ _ _=>rfl
 | .agg cs=>by simp only[nr,den,fX,Cm f cs]
 | .eC cs=>by simp only[nr,den,fX,Cm f cs]
 | .fn F first caps=>by simp only[nr,den,fX,Cm f first,Cm f caps]
 | .c t x=>by
  simp only[nr,den];cases t<;>try rfl
  simp only[CT.tv,TV.av,fX,afN]
 | .rp _ _ _=>rfl
 | .ws _ _ _ _ _=>rfl
 | .d7 _ _ _=>rfl
 | .raw v=>by
  simp only[nr,den,cv];split
  ·rfl
  ·split<;>rfl
 | .nil=>rfl
 | .ub=>rfl
 | .skip=>rfl
 | .undef=>rfl
theorem Cm(f:Nat->Nat):∀l:List (DV X),bL (JL f l)=zw f (bL l)
 |[]=>rfl
 |x::xs=>by simp only[JL,bL,zw,zS f x,Cm f xs]
end
def oR(f:Nat->Nat):bm X->bm X
 | .cells sz rows=> .cells sz (rows.map (JL f))
 |o=>o
def d5:bm X->List Nat
 | .cells _ rows=>(rows.map aP).flatten
 | .d8 _ _=>[]
 | .map _ _ _=>[]
def NL:CT X.ι->Bool
 | .int _ | .bool | .str=>true
 |_=>false
def wZ:CT X.ι->Bool
 | .st i=>(X.cQ i).all NL
 |c=>NL c
theorem DI{c:CT X.ι}(h:NL c=true)(x:CT.T X.toSE c):∀t∈CT.row X.toSE c x,t.flat:=by cases c<;>first |(intro t ht;simp only[CT.row,aW]at ht;subst ht;exact trivial) |cases h
theorem ahH:∀(l:List (CT X.ι))(h:HL X.toSE l),l.all NL=true->∀t∈HL.row X.toSE l h,t.flat
 |[],_,_,t,ht=>by simp[HL.row]at ht
 |c::l,h,ha,t,ht=>by
  simp only[all_cons,aL]at ha;rcases bf.1 (show t∈CT.row X.toSE c h.1++HL.row X.toSE l h.2 from ht)with ht |ht
  ·exact DI ha.1 h.1 t ht
  ·exact ahH l h.2 ha.2 t ht
theorem uR{c:CT X.ι}(h:wZ c=true)(x:CT.T X.toSE c):∀t∈CT.row X.toSE c x,t.flat:=by
 cases c
 case st i=>intro t ht;exact ahH (X.cQ i) (X.get i x) h t ((X.l4 i x) ▸ ht)
 case int k=>exact DI (c:= .int k) h x
 case bool=>exact DI (c:= .bool) h x
 case str=>exact DI (c:= .str) h x
 case sl e=>cases h
 case any=>cases h
 case mp=>cases h
structure MG(X:SX) where
 nm:List (Nat×Nat)
 ez:List (DC X)
 iS:List Bool
 vr:List Nat
section
variable (get:Nat->Option (bm X))
mutual
def pH:Pt X.ι->DV X->MG X->Option (MG X)
 | .v c,d,m=>(E9 get d c).bind λx=>some ⟨m.nm,m.ez++[⟨c,x.1⟩],m.iS++x.2,m.vr++bk d⟩
 | .o k,d,m=>match d with
  | .own k' 0 len=>(get k').bind λo=>match o with
   | .d8 _ l=>some ⟨m.nm++[(k',k)],m.ez,m.iS++[az len l.length],m.vr⟩
   |_=>none
  |_=>none
 | .od k,d,m=>match d with
  | .own k' aa len=>(get k').bind λo=>match o with
   | .d8 _ l=>some ⟨m.nm++[(k',k)],m.ez++[⟨.int .i64,(aa:Int)⟩],m.iS++[az (aa+len) l.length],m.vr⟩
   |_=>none
  |_=>none
 | .p k,d,m=>match d with
  | .ptr k' 0 0=>some ⟨m.nm++[(k',k)],m.ez,m.iS,m.vr⟩
  |_=>none
 | .nil,d,m=>match d with
  | .nil=>some m
  |_=>none
 | .f F fs cs,d,m=>match d with
  | .fn F' first caps=>if F=F' then(sf fs first m).bind λm=>sf cs caps m else none
  |_=>none
 | .mp k,d,m=>match d with
  | .mp k'=>some ⟨m.nm++[(k',k)],m.ez,m.iS,m.vr⟩
  |_=>none
 | .oz _,_,_=>none
 | .a ps,d,m=>match d with
  | .agg ds=>sf ps ds m
  |_=>none
def sf:List (Pt X.ι)->List (DV X)->MG X->Option (MG X)
 |[],[],m=>some m
 |p::ps,d::ds,m=>(pH p d m).bind λm=>sf ps ds m
 |_,_,_=>none
end
def Fb:List (List (Pt X.ι))->List (List (DV X))->MG X->Option (MG X)
 |[],[],m=>some m
 |r::rs,q::qs,m=>(sf get r q m).bind λm=>Fb rs qs m
 |_,_,_=>none
def qt(m:MG X)(k:Nat):Nat:=match m.nm.find? (λ q=>q.2==k)with |some q=>q.1 |none=>k
def stC:CT X.ι->Bool
 | .st _=>true
 |_=>false
def Cn:List (Nat×OP X.ι)->MG X->Option (MG X)
 |[],m=>some m
 |(k,op)::r,m=>(get (qt m k)).bind λo=>match op,o with
  | .l c,.d8 c' l=>(jr (.sl c') (.sl c) l).bind λl'=>Cn r ⟨m.nm++[(qt m k,k)],m.ez++[⟨.sl c,l'⟩],m.iS,m.vr⟩
  | .m kc vc,.map tP tE l=>if (kc.one=true/\vc.one=true)\/stC kc=true then(jr (.mp tP tE) (.mp kc vc) l).bind λl'=>Cn r ⟨m.nm++[(qt m k,k)],m.ez++[⟨.mp kc vc,l'⟩],m.iS,m.vr⟩else none
  | .c sz rows,.cells sz' rows'=>if sz=sz' then(Fb get rows rows' ⟨m.nm++[(qt m k,k)],m.ez,m.iS,m.vr⟩).bind λm=>Cn r m else none
  |_,_=>none
end
mutual
def Pt.refs:Pt X.ι->List Nat
 | .o k | .od k | .p k | .mp k | .oz k=>[k]
 | .f _ fs cs=>AP fs++AP cs
 | .a ps=>AP ps
 |_=>[]
def AP:List (Pt X.ι)->List Nat
 |[]=>[]
 |p::ps=>p.refs++AP ps
end
def OP.refs:OP X.ι->List Nat
 | .l _=>[]
 | .m _ _=>[]
 | .c _ rows=>rows.flatMap AP
def Hb(n k:Nat):Bool:=Nat.blt k n || (Nat.ble 1000 k&&Nat.blt k 1064)
def cX.ok(g:cX X):Bool:=
 decide (g.iz.map (·.1)=List.range g.iz.length)&&decide (g.iz.length<=1000)&&(g.ix.all λq=>Hb g.iz.length q.1&&q.2.refs.all λk=>Hb g.iz.length k)&&decide (g.ix.map (·.1)).Nodup&&(AP g.fy).all λk=>Hb g.iz.length k
def okG(m:MG X)(ae:List Nat):Bool:=
 decide ae.Nodup&&(m.nm.all λq=>match ae[q.2]? with |some k=>Nat.beq k q.1 |none=>false)&&m.vr.all λk=>!ae.contains k
def cX.flat(g:cX X):Bool:=(cP g.fy).all wZ&&g.ix.all λq=>match q.2 with
 | .l c=>wZ c
 | .m _ _=>false
 | .c _ rows=>(vS rows).all wZ
def tw:List (Nat×bm X)->Nat->Option (bm X)
 |[],_=>none
 |(j,o)::r,k=>if j=k then some o else tw r k
def NB(i:Nat)(ae:List Nat)(os':List (Nat×bm X)):List (Nat×Option (bm X)):=
 (ae.zipIdx.map λp=>(p.1,(tw os' p.2).map (oR (cn i ae))))++(os'.filter λq=>decide (1000<=q.1)).map λq=>(cn i ae q.1,some (oR (cn i ae) q.2))
def afO(g:cX X)(i:Nat)(ds:List (DV X))(get:Nat->Option (bm X))(k:KK X A):Option A:=
 (sf get g.px ds ⟨[],[],[],[]⟩).bind λm=>(Cn get g.iz m).bind λm=>
  bif g.ok&&okG m ((List.range g.iz.length).map (qt m))then(Yx (cP g.px++cH g.iz) m.ez).bind λv=>Vm m.iS ((g.fn v).bind λr=>
   let ae:=(List.range g.iz.length).map (qt m)
   k (nr (cn i ae) (g.res r)) (NB i ae (g.outs r)++(if g.flat then []else m.vr.map λk=>(k,none))) (ae++m.vr) ((ae++(NB i ae (g.outs r)).map (·.1))++m.vr))
  else none
section
variable {P:Program} {get:Nat->Option (bm X)} {rd ae:List Nat} {dt:Nat->Nat}
def fR(m m':MG X):Prop:=(∀ q∈m.nm,q∈m'.nm)/\(∀ c∈m.iS,c∈m'.iS)/\∀k∈m.vr,k∈m'.vr
theorem fR.refl(m:MG X):fR m m:=⟨λ _ h=>h,λ_ h=>h,λ_ h=>h⟩
theorem fR.trans{a b c:MG X}(h:fR a b)(h':fR b c):fR a c:=⟨λ q hq=>h'.1 q (h.1 q hq),λq hq=>h'.2.1 q (h.2.1 q hq),λq hq=>h'.2.2 q (h.2.2 q hq)⟩
mutual
theorem akx:∀(p:Pt X.ι)(d:DV X)(m m':MG X),pH get p d m=some m'->fR m m'/\∃an,m'.ez=m.ez++an/\an.length=p.vars.length
 | .v c,d,m,m',h=>by
  simp only[pH]at h;rw[ai]at h;obtain⟨x,h1,h⟩:=h;cases h;exact⟨⟨λ _ h=>h,λ_ h=>by simp[h],λ_ h=>by simp[h]⟩,[⟨c,x.1⟩],rfl,rfl⟩
 | .o k,d,m,m',h=>by
  simp only[pH]at h;split at h
  ·rw[ai]at h;obtain⟨o,h1,h⟩:=h;split at h
   ·cases h;exact⟨⟨λ _ h=>by simp[h],λ_ h=>by simp[h],λ_ h=>h⟩,[],by simp,rfl⟩
   ·cases h
  ·cases h
 | .od k,d,m,m',h=>by
  simp only[pH]at h;split at h
  ·rename_i k' aa len;have⟨o,h1,h⟩:=ai.1 h;split at h
   ·cases h;exact⟨⟨λ _ h=>by simp[h],λ_ h=>by simp[h],λ_ h=>h⟩,[⟨.int .i64,(aa:Int)⟩],rfl,rfl⟩
   ·cases h
  ·cases h
 | .p k,d,m,m',h=>by
  simp only[pH]at h;split at h
  ·cases h;exact⟨⟨λ _ h=>by simp[h],λ_ h=>h,λ_ h=>h⟩,[],by simp,rfl⟩
  ·cases h
 | .nil,d,m,m',h=>by
  simp only[pH]at h;split at h
  ·cases h;exact⟨fR.refl _,[],by simp,rfl⟩
  ·cases h
 | .f F fs cs,d,m,m',h=>by
  simp only[pH]at h;split at h
  ·split at h
   ·have⟨m1,h1,h⟩:=ai.1 h;obtain⟨a1,n1,b1,c1⟩:=vX fs _ m m1 h1;obtain⟨a2,n2,b2,c2⟩:=vX cs _ m1 m' h;exact⟨a1.trans a2,n1++n2,by rw[b2,b1,aK],by simp[Pt.vars,c1,c2]⟩
   ·cases h
  ·cases h
 | .mp k,d,m,m',h=>by
  simp only[pH]at h;split at h
  ·cases h;exact⟨⟨λ _ h=>by simp[h],λ_ h=>h,λ_ h=>h⟩,[],by simp,rfl⟩
  ·cases h
 | .oz _,_,_,_,h=>by simp[pH]at h
 | .a ps,d,m,m',h=>by
  simp only[pH]at h;split at h
  ·exact vX ps _ m m' h
  ·cases h
theorem vX:∀(ps:List (Pt X.ι))(ds:List (DV X))(m m':MG X),sf get ps ds m=some m'->fR m m'/\∃an,m'.ez=m.ez++an/\an.length=(cP ps).length
 |[],[],m,m',h=>by
  simp only[sf,aA]at h;subst h;exact⟨fR.refl _,[],by simp,rfl⟩
 |p::ps,d::ds,m,m',h=>by
  simp only[sf]at h;have⟨m1,h1,h⟩:=ai.1 h;have⟨a1,n1,b1,c1⟩:=akx p d m m1 h1;have⟨a2,n2,b2,c2⟩:=vX ps ds m1 m' h;exact⟨a1.trans a2,n1++n2,by rw[b2,b1,aK],by simp[cP,c1,c2]⟩
 |[],_::_,m,m',h=>by simp[sf]at h
 |_::_,[],m,m',h=>by simp[sf]at h
end
def YB:AV->List LH->List LH
 | .agg _,hs=> .agd::hs
 |_,hs=>hs
theorem MK(x:AV)(a b:List LH):YB x (a++b)=YB x a++b:=by cases x<;>rfl
theorem xY{get':Nat->Option aS}{x:AV}{hs:List LH}{p:AV×List LH×List Prop}(h:nL P get' x hs=some p)(hr:∀k∈refs x,k∉ae):oH P get' ae x (YB x hs)=some p:=by
 have hd:((refs x).all λk=>!ae.contains k)=true:=by
  simp only[all_eq_true,Bool.not_eq_true',List.contains_eq_mem,dN];exact hr
 cases x
 case agg cs=>
  simp only[refs]at hd;simp only[YB,oH,hd,if_true];exact h
 all_goals
  simp only[YB];unfold oH;split<;>first |(simp [nL]at h;done) |(rw [aX hd];exact h) |exact h |exact absurd hd ‹_› |(rename_i e;cases e;done)
variable {NM:List (Nat×Nat)} {pL:List Nat}
mutual
theorem aiJ(hi:∀q∈NM,ae[q.2]? =some q.1)(hv:∀k∈pL,k∉ae)(hrd:∀k,(∃ q,(k,q)∈NM)\/k∈pL->k∈rd)(ho:∀q∈NM,∀c l,get q.1=some (.d8 c l)->dt q.2=l.length):
 ∀(p:Pt X.ι)(d:DV X)(m m':MG X),pH get p d m=some m'->(∀ q∈m'.nm,q∈NM)->(∀ c∈m'.iS,c=true)->(∀ k∈m'.vr,k∈pL)->
 ∃an,m'.ez=m.ez++an/\∃d',(∀ ag,eP dt p (an++ag)=(d',ag))/\(∃ hs obs,(∀ p∈obs,p)/\∀ag,oH P (dH rd (fw get)) ae (den d) (hs++ag)=some (den d',ag,obs))/\∀j∈bk d,(∃ q,(j,q)∈NM)\/j∈pL
 | .v c,d,m,m',h,hn,hc,hr=>by
  simp only[pH]at h;rw[ai]at h;obtain⟨x,h1,h⟩:=h;cases h;have AW:∀j∈bk d,j∈pL:=λj hj=>hr j (by simp[hj]);obtain⟨hs,obs,p1,q1⟩:=zR (P:=P) (rd:=rd) h1 (λ b hb=>hc b (by simp[hb])) (λ j hj=>hrd j (.inr (AW j hj)));refine⟨[⟨c,x.1⟩],rfl,.c c x.1,λag=>rfl,⟨YB (den d) hs,obs,p1,λag=>?_⟩,λj hj=> .inr (AW j hj)⟩;rw[<- MK];exact xY (q1 ag) (λ k hk=>hv k (AW k (by rwa [iL]at hk)))
 | .o k,d,m,m',h,hn,hc,hr=>by
  simp only[pH]at h;split at h
  ·rename_i k' len;rw[ai]at h;obtain⟨o,h1,h⟩:=h;split at h
   ·rename_i c l;cases h;have hq:(k',k)∈NM:=hn _ (by simp);have he:len=l.length:=by
     have:=hc (az len l.length) (by simp);simpa[az]using this
    refine⟨[],by simp,.own k 0 (dt k),λag=>rfl,⟨[.mut k],[],by simp,λag=>?_⟩,λj hj=>?_⟩
    ·simp only[den,cons_append,bQ,oH,hi _ hq,if_true,ho _ hq c l h1,he]
    ·simp only[bk,aW]at hj;subst hj;exact .inl ⟨k,hq⟩
   ·cases h
  ·cases h
 | .od k,d,m,m',h,hn,hc,hr=>by
  simp only[pH]at h;split at h
  ·rename_i k' aa len;rw[ai]at h;obtain⟨o,h1,h⟩:=h;split at h
   ·rename_i c l;cases h;have hq:(k',k)∈NM:=hn _ (by simp);have he:aa+len=l.length:=by
     have:=hc (az (aa+len) l.length) (by simp);simpa[az]using this
    refine⟨[⟨.int .i64,(aa:Int)⟩],rfl,.own k aa (dt k -aa),λag=>?_,⟨[.mut k],[],by simp,λag=>?_⟩,λj hj=>?_⟩
    ·have:ZC (X:=X) ⟨.int .i64,(aa:Int)⟩=aa:=by
      simp only[ZC];rw[Vx];simp
     simp only[eP,cons_append,bQ,this]
    ·simp only[den,cons_append,bQ,oH,hi _ hq,if_true,ho _ hq c l h1,show l.length -aa=len by omega]
    ·simp only[bk,aW]at hj;subst hj;exact .inl ⟨k,hq⟩
   ·cases h
  ·cases h
 | .p k,d,m,m',h,hn,hc,hr=>by
  simp only[pH]at h;split at h
  ·rename_i k';cases h;have hq:(k',k)∈NM:=hn _ (by simp);refine⟨[],by simp,.ptr k 0 0,λag=>rfl,⟨[.mut k],[],by simp,λag=>?_⟩,λj hj=>?_⟩
   ·simp only[den,cons_append,bQ,oH,hi _ hq,if_true]
   ·simp only[bk,aW]at hj;subst hj;exact .inl ⟨k,hq⟩
  ·cases h
 | .nil,d,m,m',h,hn,hc,hr=>by
  simp only[pH]at h;split at h
  ·cases h;refine⟨[],by simp,.nil,λag=>rfl,⟨[.nil],[],by simp,λag=>?_⟩,by simp[bk]⟩;exact xY (by simp only[den,cons_append,bQ,nL]) (by simp[den,refs])
  ·cases h
 | .f F fs cs,d,m,m',h,hn,hc,hr=>by
  simp only[pH]at h;split at h
  ·rename_i F' first caps
   split at h
   ·rename_i e;subst e;rw[ai]at h;obtain⟨m1,h1,h⟩:=h;have hm:=(vX cs _ m1 m' h).1;obtain⟨n1,a1,f',b1,⟨hs1,o1,p1,q1⟩,r1⟩:=xZ hi hv hrd ho fs _ m m1 h1 (λ q hq=>hn q (hm.1 q hq)) (λ q hq=>hc q (hm.2.1 q hq)) (λ q hq=>hr q (hm.2.2 q hq));obtain⟨n2,a2,c',b2,⟨hs2,o2,p2,q2⟩,r2⟩:=xZ hi hv hrd ho cs _ m1 m' h hn hc hr;refine⟨n1++n2,by rw[a2,a1,aK],.fn F f' c',λag=>by simp only[eP,aK,b1,b2],⟨.fnw::(hs1++hs2),o1++o2,gM p1 p2,λag=>?_⟩,λj hj=>?_⟩
    ·simp only[den,cons_append,aK,oH,q1,af,q2]
    ·simp only[bk,bf]at hj;exact hj.elim (r1 j) (r2 j)
   ·cases h
  ·cases h
 | .mp k,d,m,m',h,hn,hc,hr=>by
  simp only[pH]at h;split at h
  ·rename_i k';cases h;have hq:(k',k)∈NM:=hn _ (by simp);refine⟨[],by simp,.mp k,λag=>rfl,⟨[.mut k],[],by simp,λag=>?_⟩,λj hj=>?_⟩
   ·simp only[den,cons_append,bQ,oH,hi _ hq,if_true]
   ·simp only[bk,aW]at hj;subst hj;exact .inl ⟨k,hq⟩
  ·cases h
 | .oz _,_,_,_,h,_,_,_=>by simp[pH]at h
 | .a ps,d,m,m',h,hn,hc,hr=>by
  simp only[pH]at h;split at h
  ·rename_i ds;have⟨n1,a1,f',b1,⟨hs1,o1,p1,q1⟩,r1⟩:=xZ hi hv hrd ho ps ds m m' h hn hc hr;refine⟨n1,a1,.agg f',λag=>by simp only[eP,b1],⟨.agw::hs1,o1,p1,λag=>?_⟩,λj hj=>r1 j (by simpa[bk]using hj)⟩;simp only[den,cons_append,oH,q1,af]
  ·cases h
theorem xZ(hi:∀q∈NM,ae[q.2]? =some q.1)(hv:∀k∈pL,k∉ae)(hrd:∀k,(∃ q,(k,q)∈NM)\/k∈pL->k∈rd)(ho:∀q∈NM,∀c l,get q.1=some (.d8 c l)->dt q.2=l.length):
 ∀(ps:List (Pt X.ι))(ds:List (DV X))(m m':MG X),sf get ps ds m=some m'->(∀ q∈m'.nm,q∈NM)->(∀ c∈m'.iS,c=true)->(∀ k∈m'.vr,k∈pL)->
 ∃an,m'.ez=m.ez++an/\∃ds',(∀ ag,lh dt ps (an++ag)=(ds',ag))/\(∃ hs obs,(∀ p∈obs,p)/\∀ag,lU P (dH rd (fw get)) ae (bL ds) (hs++ag)=some (bL ds',ag,obs))/\∀j∈aP ds,(∃ q,(j,q)∈NM)\/j∈pL
 |[],[],m,m',h,_,_,_=>by
  simp only[sf,aA]at h;subst h;exact⟨[],by simp,[],λag=>rfl,⟨[],[],by simp,λag=>rfl⟩,by simp[aP]⟩
 |p::ps,d::ds,m,m',h,hn,hc,hr=>by
  simp only[sf]at h;have⟨m1,h1,h⟩:=ai.1 h;have hm:=(vX ps ds m1 m' h).1;obtain⟨n1,a1,d',b1,⟨hs1,o1,p1,q1⟩,r1⟩:=aiJ hi hv hrd ho p d m m1 h1 (λ q hq=>hn q (hm.1 q hq)) (λ q hq=>hc q (hm.2.1 q hq)) (λ q hq=>hr q (hm.2.2 q hq));have⟨n2,a2,ds',b2,⟨hs2,o2,p2,q2⟩,r2⟩:=xZ hi hv hrd ho ps ds m1 m' h hn hc hr;refine⟨n1++n2,by rw[a2,a1,aK],d'::ds',λag=>by simp only[lh,aK,b1,b2],⟨hs1++hs2,o1++o2,gM p1 p2,λag=>?_⟩,λj hj=>?_⟩
  ·simp only[bL,aK,lU,q1,af,q2]
  ·simp only[aP,bf]at hj;exact hj.elim (r1 j) (r2 j)
 |[],_::_,m,m',h,_,_,_=>by simp[sf]at h
 |_::_,[],m,m',h,_,_,_=>by simp[sf]at h
end
theorem yE:∀(rs:List (List (Pt X.ι)))(qs:List (List (DV X)))(m m':MG X),Fb get rs qs m=some m'->fR m m'/\∃an,m'.ez=m.ez++an/\an.length=(vS rs).length
 |[],[],m,m',h=>by
  simp only[Fb,aA]at h;subst h;exact⟨fR.refl _,[],by simp,rfl⟩
 |r::rs,q::qs,m,m',h=>by
  simp only[Fb]at h;have⟨m1,h1,h⟩:=ai.1 h;have⟨a1,n1,b1,c1⟩:=vX r q m m1 h1;have⟨a2,n2,b2,c2⟩:=yE rs qs m1 m' h;exact⟨a1.trans a2,n1++n2,by rw[b2,b1,aK],by simp[vS,c1,c2]⟩
 |[],_::_,m,m',h=>by simp[Fb]at h
 |_::_,[],m,m',h=>by simp[Fb]at h
theorem Rm(hi:∀q∈NM,ae[q.2]? =some q.1)(hv:∀k∈pL,k∉ae)(hrd:∀k,(∃ q,(k,q)∈NM)\/k∈pL->k∈rd)(ho:∀q∈NM,∀c l,get q.1=some (.d8 c l)->dt q.2=l.length):
 ∀(rs:List (List (Pt X.ι)))(qs:List (List (DV X)))(m m':MG X),Fb get rs qs m=some m'->(∀ q∈m'.nm,q∈NM)->(∀ c∈m'.iS,c=true)->(∀ k∈m'.vr,k∈pL)->
 ∃an,m'.ez=m.ez++an/\∃D3,(∀ ag,vU dt rs (an++ag)=(D3,ag))/\(∃ hs obs,(∀ p∈obs,p)/\yw P (dH rd (fw get)) ae (qs.map bL) hs=some (D3.map bL,obs))/\∀j∈(qs.map aP).flatten,(∃ q,(j,q)∈NM)\/j∈pL
 |[],[],m,m',h,_,_,_=>by
  simp only[Fb,aA]at h;subst h;exact⟨[],by simp,[],λag=>rfl,⟨[],[],by simp,rfl⟩,by simp⟩
 |r::rs,q::qs,m,m',h,hn,hc,hr=>by
  simp only[Fb]at h;have⟨m1,h1,h⟩:=ai.1 h;have hm:=(yE rs qs m1 m' h).1;obtain⟨n1,a1,d',b1,⟨hs1,o1,p1,q1⟩,r1⟩:=xZ (P:=P) hi hv hrd ho r q m m1 h1 (λ q hq=>hn q (hm.1 q hq)) (λ q hq=>hc q (hm.2.1 q hq)) (λ q hq=>hr q (hm.2.2 q hq));have⟨n2,a2,ds',b2,⟨hs2,o2,p2,q2⟩,r2⟩:=Rm hi hv hrd ho rs qs m1 m' h hn hc hr;refine⟨n1++n2,by rw[a2,a1,aK],d'::ds',λag=>by simp only[vU,aK,b1,b2],⟨hs1::hs2,o1++o2,gM p1 p2,?_⟩,λj hj=>?_⟩
  ·have:=q1 [];rw[append_nil]at this;simp only[aF,yw,this,af,q2]
  ·simp only[aF,List.flatten_cons,bf]at hj;exact hj.elim (r1 j) (r2 j)
 |[],_::_,m,m',h,_,_,_=>by simp[Fb]at h
 |_::_,[],m,m',h,_,_,_=>by simp[Fb]at h
theorem lV:∀(os:List (Nat×OP X.ι))(m m':MG X),Cn get os m=some m'->fR m m'/\∃an,m'.ez=m.ez++an/\an.length=(cH os).length
 |[],m,m',h=>by
  simp only[Cn,aA]at h;subst h;exact⟨fR.refl _,[],by simp,rfl⟩
 |(k,op)::r,m,m',h=>by
  simp only[Cn]at h;rw[ai]at h;obtain⟨o,h1,h⟩:=h;split at h
  ·rename_i c c' l;rw[ai]at h;obtain⟨l',h2,h⟩:=h;obtain⟨a2,n2,b2,c2⟩:=lV r _ m' h;refine⟨fR.trans (b:=⟨m.nm++[(qt m k,k)],m.ez++[⟨.sl c,l'⟩],m.iS,m.vr⟩) ⟨λ _ h=>by simp[h],λ_ h=>h,λ_ h=>h⟩ a2,[⟨.sl c,l'⟩]++n2,?_,by simp[cH,c2]⟩;rw[b2,aK]
  ·rename_i kc vc tP tE l;split at h
   ·rw[ai]at h;obtain⟨l',h2,h⟩:=h;obtain⟨a2,n2,b2,c2⟩:=lV r _ m' h;refine⟨fR.trans (b:=⟨m.nm++[(qt m k,k)],m.ez++[⟨.mp kc vc,l'⟩],m.iS,m.vr⟩) ⟨λ _ h=>by simp[h],λ_ h=>h,λ_ h=>h⟩ a2,[⟨.mp kc vc,l'⟩]++n2,?_,by simp[cH,c2]⟩;rw[b2,aK]
   ·cases h
  ·rename_i sz rows sz' rows';split at h
   ·rw[ai]at h;obtain⟨m1,h2,h⟩:=h;obtain⟨a1,n1,b1,c1⟩:=yE rows _ _ m1 h2;have⟨a2,n2,b2,c2⟩:=lV r m1 m' h;refine⟨fR.trans (fR.trans (b:=⟨m.nm++[(qt m k,k)],m.ez,m.iS,m.vr⟩) ⟨λ _ h=>by simp[h],λ_ h=>h,λ_ h=>h⟩ a1) a2,n1++n2,?_,by simp[cH,c1,c2]⟩;rw[b2,b1,aK]
   ·cases h
  ·cases h
theorem DJ:∀(os:List (Nat×OP X.ι))(m m':MG X),Cn get os m=some m'->(∀ q∈m'.nm,q∈NM)->∃an,m'.ez=m.ez++an/\∀ag,∀k∈os.map (·.1),∃k' o,(k',k)∈NM/\get k'=some o/\∀c l,o= .d8 c l->(k,List.length l)∈lens os (an++ag)
 |[],m,m',h,_=>by
  simp only[Cn,aA]at h;subst h;exact⟨[],by simp,λag k hk=>by simp at hk⟩
 |(k,op)::r,m,m',h,hn=>by
  simp only[Cn]at h;rw[ai]at h;obtain⟨o,h1,h⟩:=h;split at h
  ·rename_i c c' l;rw[ai]at h;obtain⟨l',h2,h⟩:=h;have hm:=(lV r _ m' h).1;obtain⟨n2,b2,c2⟩:=DJ r _ m' h hn;refine⟨[⟨.sl c,l'⟩]++n2,by rw[b2,aK],λag j hj=>?_⟩;simp only[aF,aN]at hj;simp only[aK,cons_append,bQ,lens];by_cases hjk:j=k
   ·subst hjk;refine⟨_,_,hn _ (hm.1 _ (by simp)),h1,λc2 l2 he=>?_⟩;injection he with e1 e2;subst e1;have e2:=eq_of_heq e2;subst e2;have:=congrArg List.length (jc h2).2;simp only[length_map]at this;rw[this];exact List.mem_cons_self
   ·rcases hj with rfl |hj
    ·exact(hjk rfl).elim
    ·have⟨k',o',g1,g2,g3⟩:=c2 ag j hj;exact⟨k',o',g1,g2,λc l he=>eG _ (g3 c l he)⟩
  ·rename_i kc vc tP tE l;split at h
   ·rw[ai]at h;obtain⟨l',h2,h⟩:=h;have hm:=(lV r _ m' h).1;obtain⟨n2,b2,c2⟩:=DJ r _ m' h hn;refine⟨[⟨.mp kc vc,l'⟩]++n2,by rw[b2,aK],λag j hj=>?_⟩;simp only[aF,aN]at hj;simp only[aK,cons_append,bQ,lens,List.drop_succ_cons,List.drop_zero];by_cases hjk:j=k
    ·subst hjk;exact⟨_,_,hn _ (hm.1 _ (by simp)),h1,λc2 l2 he=>by cases he⟩
    ·rcases hj with rfl |hj
     ·exact(hjk rfl).elim
     ·exact c2 ag j hj
   ·cases h
  ·rename_i sz rows sz' rows';split at h
   ·have⟨m1,h2,h⟩:=ai.1 h;obtain⟨a1,n1,b1,c1⟩:=yE rows _ _ m1 h2;have hm:=(lV r _ m' h).1;obtain⟨n2,b2,c2⟩:=DJ r _ m' h hn;refine⟨n1++n2,by rw[b2,b1,aK],λag j hj=>?_⟩;simp only[aF,aN]at hj;have hd:(n1++n2++ag).drop (vS rows).length=n2++ag:=(by rw[<- c1,aK,List.drop_left]);simp only[lens,hd];by_cases hjk:j=k
    ·subst hjk;exact⟨_,_,hn _ (hm.1 _ (a1.1 _ (by simp))),h1,λc2 l2 he=>by cases he⟩
    ·rcases hj with rfl |hj
     ·exact(hjk rfl).elim
     ·exact c2 ag j hj
   ·cases h
  ·cases h
theorem DK:∀(os:List (Nat×OP X.ι))(L:List (DC X)),((lens os L).map (·.1)).Sublist (os.map (·.1))
 |[],_=>by simp[lens]
 |(k,.l c)::r,L=>by
  simp only[lens];split
  ·exact(DK r _).cons_cons _
  ·exact List.nil_sublist _
 |(k,.m kc vc)::r,L=>by
  simp only[lens];exact(DK r _).cons _
 |(k,.c sz rows)::r,L=>by
  simp only[lens];exact(DK r _).cons _
def aiK(get':Nat->Option aS)(NM:List (Nat×Nat))(pL:List Nat)(bs:List OB)(ks:List Nat):Prop:=
 ∀(j:Nat) hs q o,bs[j]? =some (.C5 hs)->ks[j]? =some q->get' q=some o->∀k∈O9 o,(∃ z,(k,z)∈NM)\/k∈pL
theorem ML{sz:Nat}{rows:List (List (DV X))}{k:Nat}(h:k∈O9 (bG (.cells sz rows))):k∈(rows.map aP).flatten:=by
 simp only[O9,bG,List.mem_flatMap,mem_map]at h;obtain⟨a,⟨r,hr,rfl⟩,hk⟩:=h;rw[gY]at hk;exact List.mem_flatten.2 ⟨_,mem_map.2 ⟨r,hr,rfl⟩,hk⟩
theorem aa9:∀ts:List Tree,eT (ts.map AV.t)=[]
 |[]=>rfl
 |t::ts=>by simp only[aF,eT,refs,aa9 ts,append_nil]
theorem ahJ{P:Program}{get:Nat->Option aS}:∀(ts:List Tree)(hs:List LH),l7 P get (ts.map AV.t) hs=some (ts.map AV.t,hs,[])
 |[],hs=>rfl
 |t::ts,hs=>by simp only[aF,l7,nL,af,ahJ ts hs,append_nil]
theorem aiL{P:Program}{get:Nat->Option aS}{ae:List Nat}(v:TV):oH P get ae v.av []=some (v.av,[],[]):=by
 cases v with
 |s x=>rfl
 |a cs=>
  have h:refs (.agg (cs.map AV.t))=[]:=aa9 cs;simp only[TV.av,oH,h,List.all_nil,if_true,nL,ahJ,af]
theorem ZK{P:Program}{get:Nat->Option aS}{ae:List Nat}:∀rows:List (TV×TV),yw P get ae (rows.map λq=>[q.1.av,q.2.av]) (rows.map λ_=>[])=some (rows.map λq=>[q.1.av,q.2.av],[])
 |[]=>rfl
 |q::rows=>by simp only[aF,yw,lU,aiL,af,ZK rows,append_nil]
theorem zT(hi:∀q∈NM,ae[q.2]? =some q.1)(hv:∀k∈pL,k∉ae)(hrd:∀k,(∃ q,(k,q)∈NM)\/k∈pL->k∈rd)(ho:∀q∈NM,∀c l,get q.1=some (.d8 c l)->dt q.2=l.length):
 ∀(os:List (Nat×OP X.ι))(m m':MG X),Cn get os m=some m'->(∀ q∈m'.nm,q∈NM)->(∀ c∈m'.iS,c=true)->(∀ k∈m'.vr,k∈pL)->
 ∃an,m'.ez=m.ez++an/\∃xs:List (Nat×bm X),(∀ ag,dn dt os (an++ag)=xs.map λp=>(p.1,some p.2))/\
  ∃bs mo,(∀ p∈mo,p)/\E8 P (dH rd (fw get)) ae (os.map λp=>(ae[p.1]?).getD 0) bs=some (xs.map λp=>bG p.2,mo)/\aiK (dH rd (fw get)) NM pL bs (os.map λp=>(ae[p.1]?).getD 0)
 |[],m,m',h,_,_,_=>by
  simp only[Cn,aA]at h;subst h;exact⟨[],by simp,[],λag=>rfl,[],[],by simp,rfl,λj hs q o h=>by simp at h⟩
 |(k,op)::r,m,m',h,hn,hc,hr=>by
  simp only[Cn]at h;rw[ai]at h;obtain⟨o,h1,h⟩:=h;split at h
  ·rename_i c c' l;have⟨l',h2,h⟩:=ai.1 h;have hm:=(lV r _ m' h).1;have hq:(qt m k,k)∈NM:=hn _ (hm.1 _ (by simp));have hid:(ae[k]?).getD 0=qt m k:=(by rw[hi _ hq];rfl);have hget:=eu (hrd (qt m k) (.inl ⟨k,hq⟩)) h1;have⟨h3,h4⟩:=jc h2;obtain⟨n2,a2,xs,b2,bs,mo,p2,q2,r2⟩:=zT hi hv hrd ho r _ m' h hn hc hr;refine⟨[⟨.sl c,l'⟩]++n2,by rw[a2,aK],(k,.d8 c l')::xs,λag=>by simp only[aK,cons_append,bQ,dn,b2,aF],.dat (CT.sz X c,l'.map (CT.row X.toSE c))::bs,((bG (.d8 c' l)).sz=CT.sz X c/\dW ((bG (.d8 c' l)).rows.take (l'.map (CT.row X.toSE c)).length)=aI (l'.map (CT.row X.toSE c)))::mo,?_,?_,?_⟩
   ·intro p hp;rcases aN.1 hp with rfl |hp
    ·refine⟨h3,?_⟩;simp only[bG,h4];rw[take_of_length_le (by simp[aI])];simp[dW,aI,Function.comp_def,wk]
    ·exact p2 p hp
   ·simp only[aF,E8,U6,hid,hget,af,q2,cons_append,bQ];rfl
   ·intro j hs q o' hj hq' ho';cases j with
    |zero=>simp at hj
    |succ j=>exact r2 j hs q o' (by simpa using hj) (by simpa using hq') ho'
  ·rename_i kc vc tP tE l;split at h
   ·rename_i hone;have⟨l',h2,h⟩:=ai.1 h;have hm:=(lV r _ m' h).1;have hq:(qt m k,k)∈NM:=hn _ (hm.1 _ (by simp));have hid:(ae[k]?).getD 0=qt m k:=(by rw[hi _ hq];rfl);have hget:=eu (hrd (qt m k) (.inl ⟨k,hq⟩)) h1;have hden:bG (.map tP tE l)=bG (.map kc vc l'):=by
     have⟨e,h2⟩:=q8 h2;injection e with e1 e2;subst e1;subst e2;subst h2;rfl
    obtain⟨n2,a2,xs,b2,bs,mo,p2,q2,r2⟩:=zT hi hv hrd ho r _ m' h hn hc hr;rcases hone with hone |_
    ·have hab:bG (.map kc vc l')=gA (List.length l',l'.map λq=>CT.row X.toSE kc q.1++CT.row X.toSE vc q.2):=by
      simp only[bG,gA,aI,map_map];congr 1;refine List.map_congr_left λq _=>?_;obtain⟨t1,g1,g2⟩:=row_one hone.1 q.1;obtain⟨t2,g3,g4⟩:=row_one hone.2 q.2;simp[g1,g2,g3,g4,TV.av]
     refine⟨[⟨.mp kc vc,l'⟩]++n2,by rw[a2,aK],(k,.map kc vc l')::xs,λag=>by simp only[aK,cons_append,bQ,dn,b2,aF],.dat (List.length l',l'.map λq=>CT.row X.toSE kc q.1++CT.row X.toSE vc q.2)::bs,((bG (.map tP tE l)).sz=List.length l'/\dW ((bG (.map tP tE l)).rows.take (l'.map λq=>CT.row X.toSE kc q.1++CT.row X.toSE vc q.2).length)=aI (l'.map λq=>CT.row X.toSE kc q.1++CT.row X.toSE vc q.2))::mo,?_,?_,?_⟩
     ·intro p hp;rcases aN.1 hp with rfl |hp
      ·rw[hden,hab];refine⟨rfl,?_⟩;simp only[gA];rw[take_of_length_le (by simp[aI])];simp[dW,aI,Function.comp_def,wk]
      ·exact p2 p hp
     ·simp only[aF,E8,U6,hid,hget,af,q2,cons_append,bQ,hab]
     ·intro j hs q o' hj hq' ho';cases j with
      |zero=>simp at hj
      |succ j=>exact r2 j hs q o' (by simpa using hj) (by simpa using hq') ho'
    ·refine⟨[⟨.mp kc vc,l'⟩]++n2,by rw[a2,aK],(k,.map kc vc l')::xs,λag=>by simp only[aK,cons_append,bQ,dn,b2,aF],.C5 ((l'.map λq=>(CT.tv X.toSE kc q.1,CT.tv X.toSE vc q.2)).map λ_=>[])::bs,mo,p2,?_,?_⟩
     ·have hlr:=ZK (P:=P) (get:=dH rd (fw get)) (ae:=ae) (l'.map λq=>(CT.tv X.toSE kc q.1,CT.tv X.toSE vc q.2));have hdr:(bG (.map kc vc l')).rows=(l'.map λq=>(CT.tv X.toSE kc q.1,CT.tv X.toSE vc q.2)).map λq=>[q.1.av,q.2.av]:=(by simp only[bG,map_map];rfl);simp only[aF,E8,U6,hid,hget,af,q2,hden,hdr,hlr,bQ];rw[<- hdr]
     ·intro j hs q o' hj hq' ho';cases j with
      |zero=>
       simp only[aF,List.getElem?_cons_zero,aA]at hq';subst hq';rw[hid,hget]at ho';injection ho' with ho';subst ho';intro k hk;rw[hden]at hk;simp only[O9,bG,List.mem_flatMap,mem_map]at hk;obtain⟨_,⟨q,_,rfl⟩,hk⟩:=hk;simp only[eT,zQ,append_nil,fu]at hk
      |succ j=>exact r2 j hs q o' (by simpa using hj) (by simpa using hq') ho'
   ·cases h
  ·rename_i sz rows sz' rows';split at h
   ·rename_i hsz;have⟨m1,h2,h⟩:=ai.1 h;have hm1:=(yE rows _ _ m1 h2).1;have hm:=(lV r _ m' h).1;have hq:(qt m k,k)∈NM:=hn _ (hm.1 _ (hm1.1 _ (by simp)));have hid:(ae[k]?).getD 0=qt m k:=(by rw[hi _ hq];rfl);have hget:=eu (hrd (qt m k) (.inl ⟨k,hq⟩)) h1;obtain⟨n1,a1,qs,b1,⟨hs1,o1,p1,q1⟩,r1⟩:=Rm (P:=P) hi hv hrd ho rows _ _ m1 h2 (λ q hq=>hn q (hm.1 q hq)) (λ q hq=>hc q (hm.2.1 q hq)) (λ q hq=>hr q (hm.2.2 q hq));obtain⟨n2,a2,xs,b2,bs,mo,p2,q2,r2⟩:=zT hi hv hrd ho r _ m' h hn hc hr;subst hsz;refine⟨n1++n2,by rw[a2,a1,aK],(k,.cells sz qs)::xs,λag=>by simp only[aK,dn,b1,b2,aF],.C5 hs1::bs,o1++mo,gM p1 p2,?_,?_⟩
    ·simp only[aF,E8,U6,hid,hget,af,bG,q1,q2]
    ·intro j hs q o' hj hq' ho';cases j with
     |zero=>
      simp only[aF,List.getElem?_cons_zero,aA]at hq';rw[<- hq',hid,hget]at ho';injection ho' with ho';subst ho';exact λz hz=>r1 z (ML hz)
     |succ j=>exact r2 j hs q o' (by simpa using hj) (by simpa using hq') ho'
   ·cases h
  ·cases h
end
end
end Go.Gb
