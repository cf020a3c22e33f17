import Derived.Test.YtdpcmnckfpgejaaGreatW2
import Derived.ChangeSame
import Derived.Carry
import Derived.OpenShut
import Derived.SizedLaws
import Derived.WalkKit
import Derived.ProofKit
import Derived.Lib.LaidTab
open List (mem_map all_eq_true cons_append length_map append_nil map_map take_of_length_le map_congr_left flatten_cons map_nil all_cons map_take map_drop map_append)
namespace Go.Gb
open Go.RowKit Go.WideShapes Go.ChangeShapes
inductive CS where
 |int (k:IntKind)
 |bool
 |str
 |sl (row:List CS)
 |any
  |mu (row:List CS)
 |back
def aon:CS->Tree->Prop
 | .int k,x=>∃n,x= .sc (.int k n)/\(Lit.int k n).wf=true
 | .bool,x=>∃b,x= .sc (.bool b)
 | .str,x=>∃s,x= .sc (.string s)/\s.size<=maxLen
 |_,_=>False
def anR:CS->Nat
 | .int .i64=>8
 | .int _=>1
 | .bool=>1
 | .str=>16
 |_=>24
def Lo:CS->Nat
 | .int .i64=>8
 | .int _=>1
 | .bool=>1
 |_=>8
def S7:Nat->List CS->Nat
 |o,[]=>o
 |o,c::cs=>S7 ((o+(Lo c -1))/Lo c*Lo c+anR c) cs
def IT(r:List CS):Nat:=bif r.any (λ c=>Lo c==8)then(S7 0 r+7)/8*8 else S7 0 r
mutual
inductive E0(row:List CS):Tree->Prop
 |mk (rows:List (List Tree)) (hl:rows.length<=maxLen) (h:pg row rows):E0 row (.sl rows)
inductive pg(row:List CS):List (List Tree)->Prop
 |nil:pg row []
 |cons {r:List Tree} {rs:List (List Tree)} (h:js row row r) (t:pg row rs):pg row (r::rs)
inductive js(row:List CS):List CS->List Tree->Prop
 |nil:js row [] []
 |back {cs:List CS} {x:Tree} {xs:List Tree} (h:E0 row x) (t:js row cs xs):js row (.back::cs) (x::xs)
 |one {c:CS} {cs:List CS} {x:Tree} {xs:List Tree} (h:aon c x) (t:js row cs xs):js row (c::cs) (x::xs)
end
mutual
def Fit:CS->Tree->Prop
 | .int k,x=>∃n,x= .sc (.int k n)/\(Lit.int k n).wf=true
 | .bool,x=>∃b,x= .sc (.bool b)
 | .str,x=>∃s,x= .sc (.string s)/\s.size<=maxLen
 | .sl row,x=>∃rows,x= .sl rows/\(rows.length<=maxLen/\rows.length*IT row<=reachBytes)/\∀r∈rows,c9 row r
 | .any,_=>True
 | .mu row,x=>E0 row x
 | .back,_=>False
def c9:List CS->List Tree->Prop
 |[],[]=>True
 |c::cs,x::xs=>Fit c x/\c9 cs xs
 |_,_=>False
end
mutual
def nr:Tree->Nat
 | .sc (.string s)=>s.size+1
 | .sc _=>1
 | .sl rows=>Dm rows+1
def Dm:List (List Tree)->Nat
 |[]=>0
 |r::rs=>kU r+Dm rs
def kU:List Tree->Nat
 |[]=>0
 |x::xs=>nr x+kU xs
end
theorem Cr:∀a b:List Tree,kU (a++b)=kU a+kU b
 |[],b=>by simp[kU]
 |x::a,b=>by simp only[cons_append,kU,Cr a b];omega
structure Bk(H:Type) where
 b:DataW H->Nat
 a:List (DataW H)->Nat
 str:∀l,b (.lit (.string l))=l.length+1
 int:∀k n,b (.lit (.int k n))=1
 bool:∀v,b (.lit (.bool v))=1
 nil:b .nil=1
 sl:∀e s,b (.slice e s)=a e+a s+1
 agg:∀p,b (.agg p)=a p+1
 a0:a []=0
 a1:∀d r,a (d::r)=b d+a r
theorem Bk.app{H:Type}(K:Bk H)(l r:List (DataW H)):K.a (l++r)=K.a l+K.a r:=by
 induction l with
 |nil=>simp[K.a0]
 |cons x l ih=>simp only[cons_append,K.a1,ih];omega
theorem Bk.drop{H:Type}(K:Bk H){l:List (DataW H×List MemPlace)}{j:Nat}{y:DataW H×List MemPlace}(h:l[j]? =some y):K.a ((l.map (·.1)).drop j)=K.b y.1+K.a ((l.map (·.1)).drop (j+1)):=by
 obtain⟨hj,rfl⟩:=cO.1 h;rw[List.drop_eq_getElem_cons (by simpa using hj),K.a1];simp
def vA(P:Program)(go:TypeId->Option (List CS)):Nat->List Field->Option (List CS)
 |_,[]=>some []
 |o,f::fs=>(go f.type).bind λa=>if f.offset=o/\a.length=P.cellsOf f.type then(vA P go (o+a.length) fs).map (a++ ·)else none
def UT(P:Program)(t u:TypeId):Option (List CS):=if u=t then some [.back]else match P.underlying u with
 |some (.int k)=>some [.int k]
 |some .bool=>some [.bool]
 |some .string=>some [.str]
 |_=>none
def Ln(P:Program)(t e:TypeId):Option (List CS):=match P.underlying e with
 |some (.struct fs)=>(vA P (UT P t) 0 fs.toList).bind λr=>if r.length=P.cellsOf e/\0<r.length then some r else none
 |_=>none
def wi(P:Program)(cut:List TypeId):Nat->TypeId->Option (List CS)
 | 0,_=>none
 |n+1,t=>match P.underlying t with
  |some (.int k)=>some [.int k]
  |some .bool=>some [.bool]
  |some .string=>some [.str]
  |some (.slice e)=>if cut.contains t then(match Ln P t e with |some row=>some [.mu row] |none=>some [.any])else(wi P cut n e).bind λr=>if r.length=P.cellsOf e/\0<r.length/\IT r<=P.bytesOf e then some [.sl r]else none
  |some (.struct fs)=>(vA P (wi P cut n) 0 fs.toList).bind λr=>if r.length=P.cellsOf t then some r else none
  |some (.array m e)=>(wi P cut n e).bind λr=>if r.length=P.cellsOf e/\m*r.length=P.cellsOf t then some (List.replicate m r).flatten else none
  |_=>none
theorem c9.length:∀(cs:List CS)(ts:List Tree),c9 cs ts->ts.length=cs.length
 |[],[],_=>rfl
 |c::cs,x::xs,h=>by simp only[c9]at h;simp[c9.length cs xs h.2]
 |[],_::_,h=>by simp[c9]at h
 |_::_,[],h=>by simp[c9]at h
theorem c9.append:∀(cs:List CS)(ts:List Tree){cs':List CS}{ts':List Tree},c9 cs ts->c9 cs' ts'->c9 (cs++cs') (ts++ts')
 |[],[],_,_,_,h=>h
 |c::cs,x::xs,_,_,h,h'=>by simp only[c9,cons_append]at h ⊢;exact⟨h.1,c9.append cs xs h.2 h'⟩
 |[],_::_,_,_,h,_=>by simp[c9]at h
 |_::_,[],_,_,h,_=>by simp[c9]at h
def Here(w:World)(b:Nat):Prop:=b<w.heap.size
section
variable {w:World} {I:Nat->Prop}
theorem eJ.append:∀(ts:List Tree)(cs:List Value){ts':List Tree}{cs':List Value},eJ w I ts cs->eJ w I ts' cs'->eJ w I (ts++ts') (cs++cs')
 |[],[],_,_,_,h=>h
 |_::xs,_::vs,_,_,h,h'=>⟨h.1,eJ.append xs vs h.2 h'⟩
 |[],_::_,_,_,h,_=>h.elim
 |_::_,[],_,_,h,_=>h.elim
theorem eJ.length:∀(ts:List Tree)(cs:List Value),eJ w I ts cs->ts.length=cs.length
 |[],[],_=>rfl
 |_::xs,_::vs,h=>by simp[eJ.length xs vs h.2]
 |[],_::_,h=>h.elim
 |_::_,[],h=>h.elim
theorem Wr:∀(ts:List Tree)(cs:List Value)(b aa:Nat),eJ w I ts cs->(∀ i,i<cs.length->w.cell? ⟨b,aa+i,none⟩=cs[i]?)->dp w I ts b aa
 |[],[],_,_,_,_=>by simp[dp]
 |x::xs,v::vs,b,aa,h,hc=>by
  simp only[dp];refine⟨⟨v,by simpa using hc 0 (by simp),h.1⟩,Wr xs vs b (aa+1) h.2 λi hi=>?_⟩;have:=hc (i+1) (by simpa using hi);rw[show aa+(i+1)=aa+1+i by omega]at this;simpa using this
 |[],_::_,_,_,h,_=>h.elim
 |_::_,[],_,_,h,_=>h.elim
end
section
variable {H:Type} {enc:TypeId×Value->H} {P:Program} {w:World} {sp:Nat->Bool} {held:Bool}
theorem Q7{a:Addr}{v:Value}(h:w.cell? a=some v):a.spot=none/\a.block<w.heap.size:=by
 simp only[World.cell?]at h;split at h
 ·rename_i c e st hc;split at h
  ·cases h
  ·rename_i hs;exact⟨by simpa using hs,(Array.getElem?_eq_some_iff.1 hc).1⟩
 ·cases h
def MD(P:Program)(t:TypeId)(x:DataW H×List MemPlace):Prop:=∀k∈x.1.weights P t,k<=reachBytes
theorem Ad{e:TypeId}:∀{l:List (DataW H)}{d:DataW H},d∈l->∀k∈d.weights P e,k∈DataW.weightsAll P e l
 |a::l,d,h,k,hk=>by
  simp only[DataW.weightsAll,aW];rcases aM.1 h with rfl |h
  ·exact .inl hk
  ·exact .inr (Ad h k hk)
theorem bsize(v:ByteArray):v.data.toList.length=v.size:=by rw[Array.length_toList];rfl
theorem Tg(m:Nat)(cs:List Value)(go:TypeId->Option (List CS))(hgo:∀t sh,go t=some sh->∀cs x,DataW.trod enc P w 0 sp held m t cs=some x->MD P t x->∃ts,eJ w (Here w) ts cs/\c9 sh ts/\∀K:Bk H,kU ts<=K.b x.1):
 ∀(fs:List Field)(l:List (DataW H×List MemPlace))(o:Nat)(sh:List CS),vA P go o fs=some sh->l.length=fs.length->(∀ (i:Nat) (f:Field) (x:DataW H×List MemPlace),fs[i]? =some f->l[i]? =some x->DataW.trod enc P w 0 sp held m f.type ((cs.drop f.offset).take (P.cellsOf f.type))=some x/\MD P f.type x)->
  ∃ts,eJ w (Here w) ts ((cs.drop o).take sh.length)/\c9 sh ts/\∀K:Bk H,kU ts<=K.a (l.map (·.1))
 |[],l,o,sh,h,_,_=>by
  simp only[vA,aA]at h;subst h;exact⟨[],by simp[eJ],by simp[c9],λK=>by simp[kU]⟩
 |f::fs,[],o,sh,h,hl,hf=>by simp at hl
 |f::fs,x::l,o,sh,h,hl,hf=>by
  simp only[vA,ai]at h;obtain⟨a,h1,h2⟩:=h;split at h2
  ·rename_i hc;obtain⟨hc1,hc2⟩:=hc;simp only[eU]at h2;obtain⟨r,h3,rfl⟩:=h2;have⟨hx,hz⟩:=hf 0 f x rfl rfl;obtain⟨ts,g1,g2,k1⟩:=hgo _ _ h1 _ _ hx hz;obtain⟨ts',g3,g4,k2⟩:=Tg m cs go hgo fs l _ _ h3 (by simpa using hl) λi f' x' hf' hx'=>hf (i+1) f' x' hf' hx';refine⟨ts++ts',?_,c9.append _ _ g2 g4,λK=>by have:=k1 K;have:=k2 K;rw[Cr,aC,K.a1];omega⟩;rw[dH,List.take_add,List.drop_drop];rw[hc1,<- hc2]at g1;exact eJ.append _ _ g1 g3
  ·cases h2
theorem js.append{row:List CS}:∀{a b:List CS}{x y:List Tree},js row a x->js row b y->js row (a++b) (x++y)
 |_,_,_,_,.nil,h=>h
 |_,_,_,_,.back h t,h'=> .back h (t.append h')
 |_,_,_,_,.one h t,h'=> .one h (t.append h')
theorem OC{row:List CS}(m:Nat)(cs:List Value)(go:TypeId->Option (List CS))(hgo:∀t sh,go t=some sh->∀cs x,DataW.trod enc P w 0 sp held m t cs=some x->∃ts,eJ w (Here w) ts cs/\js row sh ts/\∀K:Bk H,kU ts<=K.b x.1):
 ∀(fs:List Field)(l:List (DataW H×List MemPlace))(o:Nat)(sh:List CS),vA P go o fs=some sh->l.length=fs.length->(∀ (i:Nat) (f:Field) (x:DataW H×List MemPlace),fs[i]? =some f->l[i]? =some x->DataW.trod enc P w 0 sp held m f.type ((cs.drop f.offset).take (P.cellsOf f.type))=some x)->
  ∃ts,eJ w (Here w) ts ((cs.drop o).take sh.length)/\js row sh ts/\∀K:Bk H,kU ts<=K.a (l.map (·.1))
 |[],l,o,sh,h,_,_=>by
  simp only[vA,aA]at h;subst h;exact⟨[],by simp[eJ],.nil,λK=>by simp[kU]⟩
 |f::fs,[],o,sh,h,hl,hf=>by simp at hl
 |f::fs,x::l,o,sh,h,hl,hf=>by
  simp only[vA,ai]at h;obtain⟨a,h1,h2⟩:=h;split at h2
  ·rename_i hc;obtain⟨hc1,hc2⟩:=hc;simp only[eU]at h2;obtain⟨r,h3,rfl⟩:=h2;have hx:=hf 0 f x rfl rfl;obtain⟨ts,g1,g2,k1⟩:=hgo _ _ h1 _ _ hx;obtain⟨ts',g3,g4,k2⟩:=OC m cs go hgo fs l _ _ h3 (by simpa using hl) λi f' x' hf' hx'=>hf (i+1) f' x' hf' hx';refine⟨ts++ts',?_,g2.append g4,λK=>by have:=k1 K;have:=k2 K;rw[Cr,aC,K.a1];omega⟩;rw[dH,List.take_add,List.drop_drop];rw[hc1,<- hc2]at g1;exact eJ.append _ _ g1 g3
  ·cases h2
theorem alV{t e:TypeId}{row:List CS}(hk:P.underlying t=some (.slice e))(hm:Ln P t e=some row):∀(fuel:Nat)(cs:List Value)(x:DataW H×List MemPlace),DataW.trod enc P w 0 sp held fuel t cs=some x->∃tr,eJ w (Here w) [tr] cs/\E0 row tr/\∀K:Bk H,nr tr<=K.b x.1:=by
 intro fuel
 induction fuel using Nat.strongRecOn with
 |_ fuel ih=>
 intro cs x hx;have one:∀m,m<fuel->∀s7 y,DataW.trod enc P w 0 sp held m e s7=some y->∃ts,eJ w (Here w) ts s7/\js row row ts/\ts.length=row.length/\∀K:Bk H,kU ts<=K.b y.1:=by
  intro m hmf s7 y hy;unfold Ln at hm;split at hm
  ·rename_i fs hke;simp only[ai]at hm;obtain⟨r,h1,h2⟩:=hm;split at h2
   ·rename_i hr;injection h2 with h2;subst h2;obtain⟨xs,m',hm',rfl,hl,hxs,hf⟩:=DataW.trod_struct hke hy;obtain⟨ts,g1,g2,k1⟩:=OC (row:=r) m' s7 (UT P t) (λ u sh hsh cs x hx=>by
     unfold UT at hsh;split at hsh
     ·rename_i hu;cases hsh;rw[hu]at hx;obtain⟨tr,a1,a2,a3⟩:=ih m' (by omega) cs x hx;exact⟨[tr],a1,.back a2 .nil,λK=>by have:=a3 K;simp only[kU];omega⟩
     ·split at hsh
      ·rename_i k zj;cases hsh;obtain⟨v,rfl,rfl,hw⟩:=DataW.trod_int zj hx;exact⟨[.sc (.int k v)],by simp[eJ,TR,oneCell],.one ⟨v,rfl,hw⟩ .nil,λK=>by simp[kU,nr,K.int]⟩
      ·rename_i zj;cases hsh;obtain⟨v,rfl,rfl⟩:=DataW.trod_bool zj hx;exact⟨[.sc (.bool v)],by simp[eJ,TR,oneCell],.one ⟨v,rfl⟩ .nil,λK=>by simp[kU,nr,K.bool]⟩
      ·rename_i zj;cases hsh;obtain⟨v,rfl,rfl,hw⟩:=DataW.trod_string zj hx;exact⟨[.sc (.string v)],by simp[eJ,TR,oneCell],.one ⟨v,rfl,hw⟩ .nil,λK=>by simp[kU,nr,K.str,bsize]⟩
      ·cases hsh) fs.toList xs 0 r h1 (by simpa using hxs) (λ i f x hi hxi=>by
     have hi':fs[i]? =some f:=(by simpa using hi);rw[hf i f hi',hxi])
    rw[List.drop_zero,take_of_length_le (by omega)]at g1;refine⟨ts,g1,g2,?_,λK=>by have:=k1 K;rw[K.agg];omega⟩;rw[eJ.length _ _ g1];omega
   ·cases h2
  ·cases hm
 have rl:row.length=P.cellsOf e/\0<row.length:=by
  unfold Ln at hm;split at hm
  ·simp only[ai]at hm;obtain⟨r,h1,h2⟩:=hm;split at h2
   ·rename_i hr;cases h2;exact hr
   ·cases h2
  ·cases hm
 rcases DataW.trod_slice hk hx with ⟨rfl,rfl⟩ |⟨a,len,cap,elems,ag,m,hfm,rfl,rfl,_,hl,hmx,hlen,hel,_,_⟩
 ·refine⟨.sl [],?_,.mk [] (by simp[maxLen]) .nil,λK=>by simp[nr,Dm,K.nil]⟩;simp only[eJ,TR];exact⟨.inl ⟨trivial,none,0,rfl,λ_=>rfl⟩,trivial⟩
 ·have each:∀i,i<len->∃s7 y,w.cells? 0 (a.add (i*P.cellsOf e)) (P.cellsOf e)=some s7/\DataW.trod enc P w 0 sp held m e s7=some y/\elems[i]? =some y:=by
   intro i hi;have h3:=hel i hi;have h6:elems[i]? =some (elems[i]'(by omega)):=dI (by omega);rw[h6,ai]at h3;obtain⟨s7,h4,h5⟩:=h3;exact⟨s7,_,h4,h5,h6⟩
  by_cases h0:len=0
  ·subst h0;refine⟨.sl [],?_,.mk [] (by simp[maxLen]) .nil,λK=>by simp[nr,Dm,K.sl]⟩;simp only[eJ,TR];exact⟨.inl ⟨trivial,some a,cap,rfl,λh=>by cases h⟩,trivial⟩
  ·obtain⟨cs0,y0,c0,_,_⟩:=each 0 (by omega);obtain⟨_,c1,c2⟩:=World.cells?_some c0;have c3:=c2 0 (by omega);rw[dI (by omega)]at c3;have c4:=Q7 c3;simp only[Nat.zero_mul,Addr.add,if_true]at c4;obtain⟨b,aa,s⟩:=a;simp only at c4;obtain⟨rfl,hb⟩:=c4;have rows:∀q j,j+q=len->∃rows:List (List Tree),rows.length=q/\ct w (Here w) rows b (aa+j*P.cellsOf e) (P.cellsOf e)/\pg row rows/\∀K:Bk H,Dm rows<=K.a ((elems.map (·.1)).drop j):=by
    intro q
    induction q with
    |zero=>intro j _;exact⟨[],rfl,by simp[ct],.nil,λK=>by simp[Dm]⟩
    |succ q ihq=>
     intro j hj;obtain⟨rows,g1,g2,g3,k3⟩:=ihq (j+1) (by omega);obtain⟨csj,y,g4,g5,gy⟩:=each j (by omega);obtain⟨ts,g6,g7,_,k6⟩:=one m (by omega) _ _ g5;obtain⟨_,g8,g9⟩:=World.cells?_some g4;refine⟨ts::rows,by simp[g1],?_,.cons g7 g3,λK=>by have:=k3 K;have:=k6 K;rw[K.drop gy,Dm];omega⟩;simp only[ct];refine⟨(eJ.length _ _ g6).trans g8,Wr _ _ _ _ g6 λi hi=>?_,?_⟩
     ·rw[<- g9 i (by omega),addr_add,addr_add]
     ·rw[show aa+j*P.cellsOf e+P.cellsOf e=aa+(j+1)*P.cellsOf e by rw[Nat.add_mul];omega];exact g2
   obtain⟨rows,g1,g2,g3,k3⟩:=rows len 0 (by omega);refine⟨.sl rows,?_,.mk rows (by omega) g3,λK=>by have:=k3 K;rw[List.drop_zero]at this;rw[K.sl,nr];omega⟩;simp only[eJ,TR];exact⟨.inr ⟨b,aa,cap,P.cellsOf e,by rw[g1],by omega,hb,by simpa using g2⟩,trivial⟩
theorem Gu{cut:List TypeId}:∀(n:Nat)(t:TypeId)(sh:List CS),wi P cut n t=some sh->∀(fuel:Nat)(cs:List Value)(x:DataW H×List MemPlace),DataW.trod enc P w 0 sp held fuel t cs=some x->MD P t x->
 ∃ts,eJ w (Here w) ts cs/\c9 sh ts/\∀K:Bk H,kU ts<=K.b x.1
 | 0,_,_,h,_,_,_,_,_=>by simp[wi]at h
 |n+1,t,sh,h,fuel,cs,x,hx,hz=>by
  unfold wi at h;split at h
  ·rename_i k hk;cases h;obtain⟨v,rfl,rfl,hw⟩:=DataW.trod_int hk hx;exact⟨[.sc (.int k v)],by simp[eJ,TR,oneCell],by simp only[c9,Fit];exact⟨⟨v,rfl,hw⟩,trivial⟩,λK=>by simp[kU,nr,K.int]⟩
  ·rename_i hk;cases h;obtain⟨v,rfl,rfl⟩:=DataW.trod_bool hk hx;exact⟨[.sc (.bool v)],by simp[eJ,TR,oneCell],by simp only[c9,Fit];exact⟨⟨v,rfl⟩,trivial⟩,λK=>by simp[kU,nr,K.bool]⟩
  ·rename_i hk;cases h;obtain⟨v,rfl,rfl,hw⟩:=DataW.trod_string hk hx;exact⟨[.sc (.string v)],by simp[eJ,TR,oneCell],by simp only[c9,Fit];exact⟨⟨v,rfl,hw⟩,trivial⟩,λK=>by simp[kU,nr,K.str,bsize]⟩
  ·rename_i e hk;split at h
   ·split at h
    ·rename_i row hmr;cases h;have⟨tr,g1,g2,k1⟩:=alV hk hmr fuel cs x hx;exact⟨[tr],g1,by simp only[c9,Fit];exact⟨g2,trivial⟩,λK=>by have:=k1 K;simp only[kU];omega⟩
    cases h;rcases DataW.trod_slice hk hx with ⟨rfl,rfl⟩ |⟨a,len,cap,elems,ag,m,_,rfl,rfl,_,hl,hm,hlen,hel,_,_⟩
    ·exact⟨[.sc (.slice none 0 0)],by simp[eJ,TR,oneCell],by simp[c9,Fit],λK=>by simp[kU,nr,K.nil]⟩
    ·exact⟨[.sc (.slice (some a) len cap)],by simp[eJ,TR,oneCell],by simp[c9,Fit],λK=>by simp[kU,nr,K.sl]⟩
   simp only[ai]at h;obtain⟨r,h1,h2⟩:=h;split at h2
   ·rename_i hr;cases h2;rcases DataW.trod_slice hk hx with ⟨rfl,rfl⟩ |⟨a,len,cap,elems,ag,m,_,rfl,rfl,_,hl,hm,hlen,hel,_,_⟩
    ·refine⟨[.sl []],?_,by simp only[c9,Fit];exact⟨⟨[],rfl,by simp[maxLen],by simp⟩,trivial⟩,λK=>by simp[kU,nr,Dm,K.nil]⟩;simp only[eJ,TR];exact⟨.inl ⟨trivial,none,0,rfl,λ_=>rfl⟩,trivial⟩
    ·have Z3:∀k,k=(elems.length+ag.length)*P.bytesOf e\/k∈DataW.weightsAll P e (elems.map (·.1))->k<=reachBytes:=by
      intro k hkk;refine hz k ?_;simp only[DataW.weights,hk,aM,aW,length_map];rcases hkk with h |h
      ·exact .inl h
      ·exact .inr (.inl h)
     have each:∀i,i<len->∃s7 y,w.cells? 0 (a.add (i*P.cellsOf e)) (P.cellsOf e)=some s7/\DataW.trod enc P w 0 sp held m e s7=some y/\MD P e y/\elems[i]? =some y:=by
      intro i hi;have h3:=hel i hi;have h6:elems[i]? =some (elems[i]'(by omega)):=dI (by omega);rw[h6,ai]at h3;obtain⟨s7,h4,h5⟩:=h3;exact⟨s7,_,h4,h5,λk hk=>Z3 k (.inr (Ad (mem_map.2 ⟨_,List.getElem_mem (by omega),rfl⟩) k hk)),h6⟩
     have hbytes:len*IT r<=reachBytes:=by
      have h1:=Z3 _ (.inl rfl);have h2:len*IT r<=(elems.length+ag.length)*P.bytesOf e:=Nat.mul_le_mul (by omega) hr.2.2;omega
     by_cases h0:len=0
     ·subst h0;refine⟨[.sl []],?_,by simp only[c9,Fit];exact⟨⟨[],rfl,by simp[maxLen],by simp⟩,trivial⟩,λK=>by simp[kU,nr,Dm,K.sl]⟩;simp only[eJ,TR];exact⟨.inl ⟨trivial,some a,cap,rfl,λh=>by cases h⟩,trivial⟩
     ·obtain⟨cs0,y0,c0,_,_,_⟩:=each 0 (by omega);obtain⟨_,c1,c2⟩:=World.cells?_some c0;have c3:=c2 0 (by omega);rw[dI (by omega)]at c3;have c4:=Q7 c3;simp only[Nat.zero_mul,Addr.add,if_true]at c4;obtain⟨b,aa,s⟩:=a;simp only at c4;obtain⟨rfl,hb⟩:=c4;have rows:∀m j,j+m=len->∃rows:List (List Tree),rows.length=m/\ct w (Here w) rows b (aa+j*P.cellsOf e) (P.cellsOf e)/\(∀ x∈rows,c9 r x)/\∀K:Bk H,Dm rows<=K.a ((elems.map (·.1)).drop j):=by
       intro m
       induction m with
       |zero=>intro j _;exact⟨[],rfl,by simp[ct],by simp,λK=>by simp[Dm]⟩
       |succ m ih=>
        intro j hj;obtain⟨rows,g1,g2,g3,k3⟩:=ih (j+1) (by omega);obtain⟨csj,y,g4,g5,g5z,gy⟩:=each j (by omega);obtain⟨ts,g6,g7,k6⟩:=Gu n e r h1 _ _ _ g5 g5z;obtain⟨_,g8,g9⟩:=World.cells?_some g4;refine⟨ts::rows,by simp[g1],?_,λx hx=>?_,λK=>by have:=k3 K;have:=k6 K;rw[K.drop gy,Dm];omega⟩
        ·simp only[ct];refine⟨(eJ.length _ _ g6).trans g8,Wr _ _ _ _ g6 λi hi=>?_,?_⟩
         ·rw[<- g9 i (by omega),addr_add,addr_add]
         ·rw[show aa+j*P.cellsOf e+P.cellsOf e=aa+(j+1)*P.cellsOf e by rw[Nat.add_mul];omega];exact g2
        ·rcases aM.1 hx with rfl |hx
         ·exact g7
         ·exact g3 x hx
      obtain⟨rows,g1,g2,g3,k3⟩:=rows len 0 (by omega);refine⟨[.sl rows],?_,by simp only[c9,Fit];exact⟨⟨rows,rfl,⟨by omega,by rw[g1];exact hbytes⟩,g3⟩,trivial⟩,λK=>by have:=k3 K;rw[List.drop_zero]at this;rw[K.sl];simp only[kU,nr];omega⟩;simp only[eJ,TR];exact⟨.inr ⟨b,aa,cap,P.cellsOf e,by rw[g1],by omega,hb,by simpa using g2⟩,trivial⟩
   ·cases h2
  ·rename_i fs hk;simp only[ai]at h;obtain⟨r,h1,h2⟩:=h;split at h2
   ·rename_i hr;injection h2 with h2;subst h2;obtain⟨xs,m,_,rfl,hl,hxs,hf⟩:=DataW.trod_struct hk hx;obtain⟨ts,g1,g2,k1⟩:=Tg m cs (wi P cut n) (λ t sh hsh cs x hx hz=>Gu n t sh hsh m cs x hx hz) fs.toList xs 0 r h1 (by simpa using hxs) (λ i f x hi hxi=>by
     have hi':fs[i]? =some f:=(by simpa using hi);have:=hf i f hi';rw[hxi]at this;refine⟨this,λk hk'=>hz k ?_⟩;simp only[DataW.weights,hk];exact DataW.weights_mem_each (j:=i) (t:=f.type) (d:=x.1) (by simp[hi']) (by simp[hxi]) k hk')
    refine⟨ts,?_,g2,λK=>by have:=k1 K;rw[K.agg];omega⟩;rw[List.drop_zero,take_of_length_le (by omega)]at g1;exact g1
   ·cases h2
  ·rename_i m e hk;simp only[ai]at h;obtain⟨r,h1,h2⟩:=h;split at h2
   ·rename_i hr;cases h2;obtain⟨xs,q,_,rfl,hl,hxs,hf⟩:=DataW.trod_array hk hx;have part:∀i j,j+i=m->∃ts,eJ w (Here w) ts (cs.drop (j*P.cellsOf e))/\c9 (List.replicate i r).flatten ts/\∀K:Bk H,kU ts<=K.a ((xs.map (·.1)).drop j):=by
     intro i
     induction i with
     |zero=>
      intro j hj;refine⟨[],?_,by simp[c9],λK=>by simp[kU]⟩;have:j=m:=(by omega);subst this;rw[List.drop_of_length_le (by rw[hl,<- hr.2,<- hr.1];omega)];simp[eJ]
     |succ i ih=>
      intro j hj;obtain⟨ts,g1,g2,k1⟩:=ih (j+1) (by omega);have:=hf j (by omega);have hxj:xs[j]? =some (xs[j]'(by omega)):=dI (by omega);rw[hxj]at this;obtain⟨ts0,g3,g4,k3⟩:=Gu n e r h1 _ _ _ this (λ k hk'=>hz k (by
       simp only[DataW.weights,hk];exact Ad (mem_map.2 ⟨_,List.getElem_mem (by omega),rfl⟩) k hk'))
      refine⟨ts0++ts,?_,?_,λK=>by have:=k1 K;have:=k3 K;rw[K.drop hxj,Cr];omega⟩
      ·have:=eJ.append _ _ g3 g1;rw[show (j+1)*P.cellsOf e=j*P.cellsOf e+P.cellsOf e by rw[Nat.add_mul];omega,<- List.drop_drop,List.take_append_drop]at this;exact this
      ·rw[List.replicate_succ,flatten_cons];exact c9.append _ _ g4 g2
    obtain⟨ts,g1,g2,k1⟩:=part m 0 (by omega);exact⟨ts,by simpa using g1,g2,λK=>by have:=k1 K;rw[List.drop_zero]at this;rw[K.agg];omega⟩
   ·cases h2
  ·cases h
inductive VS where
 |one (c:CS)
 |agg (cs:List CS)
def HP(P:Program)(cut:List TypeId)(t:TypeId):Option VS:=
 (wi P cut 12 t).bind λsh=>match P.underlying t with
  |some (.struct _) |some (.array _ _)=>some (.agg sh)
  |_=>match sh with
   |[c]=>some (.one c)
   |_=>none
def C4:VS->TV->Prop
 | .one c,x=>∃y,x= .s y/\Fit c y
 | .agg cs,x=>∃ys,x= .a ys/\c9 cs ys
def Wz:List VS->List TV->Prop
 |[],[]=>True
 |s::ss,x::xs=>C4 s x/\Wz ss xs
 |_,_=>False
def Is:TV->Nat
 | .s y=>nr y
 | .a ys=>kU ys
def WA:List TV->Nat
 |[]=>0
 |x::xs=>Is x+WA xs
theorem aj7{cut:List TypeId}{t:TypeId}{s:VS}{v:Value}{d:DataW H}{ps:List MemPlace}{b0:Nat}(hs:HP P cut t=some s)(hval:Value.okWide P w .any b0 t v)(hd:DataW.Trod enc P w 0 sp held t v d ps)(hz:∀k∈d.weights P t,k<=reachBytes):
 ∃x,sq w (Here w) x v/\C4 s x/\∀K:Bk H,Is x<=K.b d:=by
 obtain⟨fuel,hf⟩:=hd;simp only[HP,ai]at hs;obtain⟨sh,h1,h2⟩:=hs;obtain⟨ts,g1,g2,k1⟩:=Gu 12 t sh h1 _ _ _ hf hz;have hag:∀cs:Array Value,v= .agg cs->s= .agg sh->∃x,sq w (Here w) x v/\C4 s x/\∀K:Bk H,Is x<=K.b d:=by
  rintro cs rfl rfl;exact⟨.a ts,⟨cs,rfl,by simpa[Value.cells]using g1⟩,⟨ts,rfl,g2⟩,k1⟩
 unfold Value.okWide at hval;split at h2
 ·rename_i hu;injection h2 with h2;rw[hu]at hval;obtain⟨cs,rfl,_⟩:=hval;exact hag cs rfl h2.symm
 ·rename_i hu;injection h2 with h2;rw[hu]at hval;obtain⟨cs,rfl,_⟩:=hval;exact hag cs rfl h2.symm
 ·rename_i hu1 hu2;split at h2
  ·rename_i c;cases h2;have hone:v.cells.toList=[v]:=by
    cases hu:P.underlying t with
    |none=>rw[hu]at hval;simp[Cell.okWide,Cell.ok,hu]at hval
    |some d=>
     rw[hu]at hval;cases v<;>first |rfl |(exfalso;revert hval;cases d<;>simp_all [Cell.okWide,Cell.ok])
   rw[hone]at g1
   match ts,g1,g2,k1 with
   |[y],g1,g2,k1=>
    simp only[c9]at g2;exact⟨.s y,g1.1,⟨y,rfl,g2.1⟩,λK=>by have:=k1 K;simpa[kU,Is]using this⟩
   |[],g1,_,_=>exact g1.elim
   |_::_::_,g1,_,_=>exact g1.2.elim
  ·cases h2
theorem aay{cut:List TypeId}:∀{ts:List TypeId}{ss:List VS}{vs:List Value}{ds:List (DataW H)}{ps:List MemPlace}{b0:Nat},ts.mapM (HP P cut)=some ss->
 (∀ (j:Nat) t v,ts[j]? =some t->vs[j]? =some v->Value.okWide P w .any b0 t v)->DataW.TrodAll enc P w 0 sp held ts vs ds ps->(∀ k∈DataW.weightsEach P ts ds,k<=reachBytes)->∃xs,my w (Here w) xs vs/\Wz ss xs/\∀K:Bk H,WA xs<=K.a ds
 |[],ss,vs,ds,ps,b0,hs,_,hd,_=>by
  obtain⟨rfl,rfl,rfl⟩:=trodAll_nil hd;simp only[List.mapM_nil,Option.pure_def,aA]at hs;subst hs;exact⟨[],trivial,trivial,λK=>by simp[WA]⟩
 |t::ts,ss,vs,ds,ps,b0,hs,hval,hd,hz=>by
  obtain⟨v,vs',d,ds',p,q,rfl,rfl,rfl,h0,r0⟩:=trodAll_cons hd;simp only[List.mapM_cons,Option.bind_eq_bind,ai,Option.pure_def,aA]at hs;obtain⟨s,h1,ss',h2,rfl⟩:=hs;obtain⟨x,g1,g2,k1⟩:=aj7 h1 (hval 0 t v rfl rfl) h0 (λ k hk=>hz k (by simp only[DataW.weightsEach,aW];exact .inl hk));obtain⟨xs,g3,g4,k2⟩:=aay h2 (λ j t v h h'=>hval (j+1) t v h h') r0 (λ k hk=>hz k (by simp only[DataW.weightsEach,aW];exact .inr hk));exact⟨x::xs,⟨g1,g3⟩,⟨g2,g4⟩,λK=>by have:=k1 K;have:=k2 K;rw[WA,K.a1];omega⟩
theorem Ti{β:Nat->Option cH}{I:Nat->Prop}:∀(xs:List TV)(vs:List Value),my w I xs vs->bk P β w I (xs.map TV.av) vs
 |[],[],_=>by simp[bk]
 |x::xs,v::vs,h=>by
  simp only[aC,bk];refine⟨?_,Ti xs vs h.2⟩;have h1:=h.1;cases x with
  |s y=>simp only[TV.av,VR];exact h1
  |a cs=>
   obtain⟨us,rfl,h2⟩:=h1;simp only[TV.av,VR];refine⟨us,rfl,?_⟩;have:∀(cs:List Tree) (us:List Value),eJ w I cs us->bk P β w I (cs.map AV.t) us:=by
    intro cs
    induction cs with
    |nil=>intro us h;cases us<;>first |(simp [bk];done) |exact h.elim
    |cons c cs ih=>intro us h;cases us with
     |nil=>exact h.elim
     |cons u us=>simp only[aC,bk,VR];exact⟨h.1,ih us h.2⟩
   exact this cs us.toList h2
 |[],_::_,h=>h.elim
 |_::_,[],h=>h.elim
end
section
variable {H:Type} {enc:TypeId×Value->H} {P:Program}
theorem afW{f:Func}{s:ChangeSpec}{apart fresh handsOn again:Bool}{W W':World}{args:Array Value}{v:Value}{ds gs:List (DataW H)}{before pa pv:List MemPlace}
 (hW:DataW.Whole enc P f.params.toList s.vars apart W args.toList ds gs before)
 (hres:∀(b:Nat)(sp:Nat->Bool)(hd:Bool),DataW.TrodAll enc P W' b sp hd f.resultTypes.toList (v.resultList f.resultTypes.size) (s.fn H (ds++gs)).results [])
 (hargs:∀sp:Nat->Bool,(∀ p∈before,sp p.block=true)->DataW.TrodAll enc P W' 0 sp true f.params.toList args.toList (s.fn H (ds++gs)).args pa)
 (hvars:∀sp:Nat->Bool,(∀ p∈before,sp p.block=true)->DataW.TrodVars enc P W' sp s.vars (s.fn H (ds++gs)).vars pv)
 (hps:before=pa++pv) (hb:Below W.heap.size W W')
 (hok:∀(j:Nat)(t:TypeId)(r:Value),f.resultTypes[j]? =some t->(v.resultList f.resultTypes.size)[j]? =some r->Value.okWide P W' .any 0 t r):
 s.post enc P f apart fresh handsOn again W args v W':=by
 have hlt:∀p∈before,p.block<W.heap.size:=λp hp=>hW.lt p hp;have hold:∀p∈before,(λ b=>decide (b<W.heap.size)) p.block=true:=λp hp=>by simpa using hlt p hp
 refine⟨ds,gs,before,[],pa,pv,hW,hres _ _ _,hargs _ hold,hvars _ hold,World.keptBut_mono (λ p hp=>⟨hp,?_⟩) (hb.frame (· ∈before)),λ_=>?_⟩
 ·rw[hps,aW]at hp;exact Or.inr hp
 ·obtain⟨_,_,_,_,_,hz,hn⟩:=hW;refine⟨hok,_,_,([]++pa)++pv,⟨[]++pa,pv,trodAll_append (hargs _ (λ _ _=>rfl)) (hres _ _ _),hvars _ (λ _ _=>rfl),rfl,?_,?_⟩,?_⟩
  ·intro b aa hp;have hin:MemPlace.cell b aa∈before:=(by rw[hps];simpa using hp);rw[hb.frozen (hlt _ hin)];exact hz b aa hin
  ·intro ha;have:=hn ha;rw[hps]at this;simpa using this
  ·intro p hp _;rw[hps];simpa using hp
theorem MU(hl:laidOutB P=true){W W':World}(hb:Below W.heap.size W W'):∀{ts:List TypeId}{vs:List Value}{ds:List (DataW H)}{ps:List MemPlace},(∀ t∈ts,P.readableRec t=true/\t<P.types.size)->
 DataW.TrodAll enc P W 0 (λ _=>true) true ts vs ds ps->(∀ x∈ps,x.block<W.heap.size)->∀sp:Nat->Bool,(∀ p∈ps,sp p.block=true)->DataW.TrodAll enc P W' 0 sp true ts vs ds ps
 |[],vs,ds,ps,_,hd,_,sp,_=>by
  obtain⟨rfl,rfl,rfl⟩:=trodAll_nil hd;exact trodAll_mk0
 |t::ts,vs,ds,ps,ht,hd,hlt,sp,hsp=>by
  obtain⟨v,vs',d,ds',p,q,rfl,rfl,rfl,h0,r0⟩:=trodAll_cons hd;obtain⟨h1,h2⟩:=ht t (by simp)
  exact trodAll_cons_mk (WideElems.Trod_stays hl h1 h2 h0 (λ x hx=>hb.same (hlt x (by simp[hx]))) (λ x hx=>hsp x (by simp[hx])))
   (MU hl hb (λ t ht'=>ht t (by simp[ht'])) r0 (λ x hx=>hlt x (by simp[hx])) sp (λ x hx=>hsp x (by simp[hx])))
theorem Tj{w:World}{base:Nat}{sp:Nat->Bool}{held:Bool}:∀{ts:List TypeId}{vs:List Value}{ds:List (DataW H)}{ps:List MemPlace},DataW.TrodAll enc P w base sp held ts vs ds ps->ds.length=ts.length
 |[],_,_,_,h=>by
  obtain⟨_,rfl,_⟩:=trodAll_nil h;rfl
 |_::_,_,_,_,h=>by
  obtain⟨_,_,_,_,_,_,_,rfl,_,_,h2⟩:=trodAll_cons h;simp[Tj h2]
theorem adD:∀{ts:List TypeId}{ds:List (DataW H)}{vt:List TypeId}{gs:List (DataW H)},ds.length=ts.length->∀k∈DataW.weightsEach P ts ds,k∈DataW.weightsEach P (ts++vt) (ds++gs)
 |[],[],_,_,_,k,h=>by simp[DataW.weightsEach]at h
 |t::ts,d::ds,vt,gs,hl,k,h=>by
  simp only[DataW.weightsEach,aW,cons_append]at h ⊢;rcases h with h |h
  ·exact .inl h
  ·exact .inr (adD (by simpa using hl) k h)
 |[],_::_,_,_,h,_,_=>by simp at h
 |_::_,[],_,_,h,_,_=>by simp at h
theorem abR{cut:List TypeId}{C:Checked}{f:FuncId}{fn:Func}{s:ChangeSpec}{ss:List VS}{tb:TypeId}(hl:laidOutB C.prog=true)(hread:(fn.params.toList.all λt=>C.prog.readableRec t&&decide (t<C.prog.types.size))=true)
 (hss:fn.params.toList.mapM (HP C.prog cut)=some ss) (hvars:s.vars=[]) (hres:fn.resultTypes=#[tb]) (hb:C.prog.underlying tb=some .bool)
 (hs:∀ds:List (DataW H),ds.length=fn.params.toList.length->s.fn H ds={ results:=[.lit (.bool true)],args:=ds })
 {B:Nat->Prop} (PM:∀xs,Wz ss xs->(∀ n,B n->WA xs<=n)->sA C.prog f (xs.map TV.av) (.one (.d (.s (.sc (.bool true))))))
 {W:World} {base:Nat} {args:Array Value} {ds gs:List (DataW H)} {before:List MemPlace}
 (hval:∀(j:Nat) t v,fn.params[j]? =some t->args[j]? =some v->Value.okWide C.prog W .any base t v)
 (hW:DataW.Whole enc C.prog fn.params.toList s.vars false W args.toList ds gs before)
 {vt:List TypeId} (hz:(DataW.weightsEach C.prog (fn.params.toList++vt) (ds++gs)).all (· <=reachBytes)=true) (hv:km W (Here W)) (hB:∀n,B n->∃K:Bk H,K.a ds<=n):
 Calls C.prog f args W λe W'=>∃v,e= .returned v/\s.post enc C.prog fn false true false false W args v W':=by
 have hW':=hW;obtain⟨p,q,hA,hV,rfl,_,_⟩:=hW;rw[hvars]at hV;obtain⟨rfl,rfl⟩:=trodVars_none hV;have hlen:=Tj hA;obtain⟨xs,g1,g2,g3⟩:=aay hss (λ j t v h1 h2=>hval j t v (by simpa using h1) (by simpa using h2)) hA (λ k hk=>by
  have:=all_eq_true.1 hz k (adD hlen k hk);simpa using this)
 simp only[append_nil]at hW';have hlt:∀x∈p,x.block<W.heap.size:=λx hx=>hW'.lt x hx;refine((PM xs g2 (λ n hn=>by have⟨K,hK⟩:=hB n hn;exact Nat.le_trans (g3 K) hK)).2 W (Here W) args (λ _ h=>h) hv (Ti _ _ g1)).mono λe W' ⟨v,I',he,hbel,_,_,_,hr⟩=>⟨v,he,?_⟩;simp only[qT,we,sq,TR]at hr;obtain⟨rfl,_⟩:=hr;have hfn:s.fn H (ds++[])={ results:=[.lit (.bool true)],args:=ds }:=by rw[append_nil];exact hs ds hlen
 refine afW (pa:=p) (pv:=[]) hW' (λ b sp hd=>?_) (λ sp hsp=>?_) (λ sp _=>?_) (by simp) hbel (ok_one (by rw[hres]) rfl (okWide_bool_mk hb _))
 ·rw[hfn,hres];exact trodAll_mk1 (shut_bool hb _)
 ·rw[hfn];refine MU hl hbel (λ t ht=>?_) hA hlt sp hsp;have:=all_eq_true.1 hread t ht;simpa using this
 ·rw[hfn,hvars];rfl
end
def S6:xz->TypeDesc->Bool
 | .slice e,.slice e'=>e==e'
 | .arr n e,.array n' e'=>n==n'&&e==e'
 | .struct fs,.struct fa=>fa.toList.map (λ f=>(f.offset,f.type))==fs
 | .bool,.bool=>true
 | .str,.string=>true
 | .int k,.int k'=>k==k'
 | .map k e,.map k' e'=>k==k'&&e==e'
 | .other,_=>true
 |_,_=>false
def T0:Value->Value->Bool
 | .int k a,.int k' b=>k==k'&&a==b
 | .bool a,.bool b=>a==b
 | .string a,.string b=>decide (a=b)
 | .slice none 0 0,.slice none 0 0=>true
 | .pointer none,.pointer none=>true
 | .nilFunc,.nilFunc=>true
 | .nilIface,.nilIface=>true
 | .map none,.map none=>true
 |_,_=>false
theorem adE{a b:Value}(h:T0 a b=true):a=b:=by
 unfold T0 at h;split at h<;>simp_all
def Q8:List Value->List Value->Bool
 |[],[]=>true
 |a::as,b::bs=>T0 a b&&Q8 as bs
 |_,_=>false
theorem OD:∀{a b:List Value},Q8 a b=true->a=b
 |[],[],_=>rfl
 |a::as,b::bs,h=>by simp only[Q8,aJ]at h;rw[adE h.1,OD h.2]
 |[],_::_,h=>by simp[Q8]at h
 |_::_,[],h=>by simp[Q8]at h
def TZ(P:Program)(t:TypeId)(ti:np):Bool:=
 match P.info? t,P.underlying t with
 |some info,some d=>match info.zero with
  |some z=>info.size==ti.size&&info.bytes==ti.bytes&&sk d==ti.agg&&S6 ti.k d&&ti.zero.all ka&&ti.zero.length==ti.size&&
   (ti.cmp.isEmpty || match d with
    | .struct fa=>!P.stoodInHeld t&&!P.eqGuardType P.depth t&&f5 P 0 fa.toList ti.cmp
    | .array _ _=>ti.cmp==[9]&&!P.eqGuardType P.depth t
    |_=>false)&&Q8 z.cells.toList ti.zero&&sB ti.agg z
  |none=>false
 |_,_=>false
theorem afX{k:xz}{d:TypeDesc}(h:S6 k d=true):OF k d:=by
 unfold S6 at h;split at h
 ·simp only[beq_iff_eq]at h;subst h;rfl
 ·simp only[aJ,beq_iff_eq]at h;obtain⟨rfl,rfl⟩:=h;rfl
 ·rename_i fs fa;exact⟨fa,rfl,by simpa using h⟩
 ·rfl
 ·rfl
 ·simp only[beq_iff_eq]at h;subst h;rfl
 ·simp only[aJ,beq_iff_eq]at h;obtain⟨rfl,rfl⟩:=h;rfl
 ·trivial
 ·cases h
theorem adF{P:Program}{t:TypeId}{ti:np}(h:TZ P t ti=true):k9 P t ti:=by
 unfold TZ at h;split at h
 ·rename_i info d h1 h2;split at h
  ·rename_i z h3;simp only[aJ,beq_iff_eq]at h;obtain⟨⟨⟨⟨⟨⟨⟨⟨a1,a2⟩,a3⟩,a4⟩,a5⟩,a6⟩,a7⟩,a8⟩,a9⟩:=h;refine⟨⟨info,d,z,h1,h2,a1,a2,h3,OD a8,a3,afX a4⟩,a5,a6,λinfo' z' e1 e2=>by rw[h1]at e1;cases e1;rw[h3]at e2;cases e2;exact a9,λhne=>?_⟩;simp only[Bool.or_eq_true]at a7;rcases a7 with a7 |a7
   ·exact absurd (List.isEmpty_iff.1 a7) hne
   ·split at a7
    ·rename_i fa;simp only[aJ,Bool.not_eq_true']at a7;exact .inl ⟨fa,h2,a7.1.1,a7.1.2,a7.2⟩
    ·simp only[aJ,Bool.not_eq_true',beq_iff_eq]at a7;exact .inr a7
    ·cases a7
  ·cases h
 ·cases h
def WB(l:List (TypeId×np)):dC:=λt=>(l.find? λp=>p.1==t).map (·.2)
theorem akb{P:Program}{l:List (TypeId×np)}(h:(l.all λp=>TZ P p.1 p.2)=true):eZ P (WB l):=by
 intro t ti ht;simp only[WB,eU]at ht;obtain⟨p,hp,rfl⟩:=ht;have h1:=List.find?_some hp;simp only[beq_iff_eq]at h1;subst h1;exact adF (all_eq_true.1 h p (List.mem_of_find?_eq_some hp))
open Go.RowKit
inductive CT(ι:Type) where
 |int (k:IntKind)
 |bool
 |str
 |sl (e:CT ι)
 |st (i:ι)
 |any
 |mp (k v:CT ι)
 deriving DecidableEq
structure SE where
 ι:Type
 dec:DecidableEq ι
 T:ι->Type
 row:(i:ι)->T i->List Tree
instance (E:SE):DecidableEq E.ι:=E.dec
section
variable (E:SE)
@[reducible] def CT.T:CT E.ι->Type
 | .int _=>Int
 | .bool=>Bool
 | .str=>ByteArray
 | .sl e=>List (CT.T e)
 | .st i=>E.T i
 | .any=>Tree
 | .mp k v=>List (CT.T k×CT.T v)
def CT.row:(c:CT E.ι)->CT.T E c->List Tree
 | .int k,n=>[.sc (.int k n)]
 | .bool,b=>[.sc (.bool b)]
 | .str,s=>[.sc (.string s)]
 | .sl e,l=>[.sl (List.map (CT.row e) l)]
 | .st i,x=>E.row i x
 | .any,x=>[x]
 | .mp _ _,_=>[.sl []]
def CT.one{ι:Type}:CT ι->Bool
 | .st _=>false
 |_=>true
def CT.tv:(c:CT E.ι)->CT.T E c->TV
 | .int k,n=> .s (.sc (.int k n))
 | .bool,b=> .s (.sc (.bool b))
 | .str,s=> .s (.sc (.string s))
 | .sl e,l=> .s (.sl (List.map (CT.row E e) l))
 | .st i,x=> .a (E.row i x)
 | .any,x=> .s x
 | .mp _ _,_=> .s (.sl [])
def HL:List (CT E.ι)->Type
 |[]=>Unit
 |c::l=>CT.T E c×HL l
def HL.row:(l:List (CT E.ι))->HL E l->List Tree
 |[],_=>[]
 |c::l,h=>CT.row E c h.1++HL.row l h.2
def HL.nq:(l:List (CT E.ι))->HL E l->List TV
 |[],_=>[]
 |c::l,h=>CT.tv E c h.1::HL.nq l h.2
end
structure MT(E:SE) where
 i:E.ι
 c:CT E.ι
 f:E.T i->List (CT.T E c)
 g:List (CT.T E c)->Option (E.T i)
structure SX extends SE where
 cW:ι->List (CT ι)
 get:(i:ι)->T i->HL toSE (cW i)
 make:(i:ι)->HL toSE (cW i)->T i
 nw:∀i x,row i x=HL.row toSE (cW i) (get i x)
 gh:∀i h,row i (make i h)=HL.row toSE (cW i) h
 flat:∀i,(cW i).all CT.one=true
 gv:Nat->Option ((c:CT ι)×CT.T toSE c)
 wx:∀g,(gv g).map (λ p=>CT.row toSE p.1 p.2)=(ua g).map λr=>r.map Tree.sc
 ar:TypeId->Option (MT toSE):=λ_=>none
 m7:∀t a,ar t=some a->a.c.one=true/\(∀ x,row a.i x=((a.f x).map (CT.row toSE a.c)).flatten)/\∀l x,a.g l=some x->a.f x=l:=by intro t a h;cases h
section
variable (X:SX)
abbrev SX.C:=CT X.ι
abbrev SX.t(c:CT X.ι):Type:=CT.T X.toSE c
def CT.sz:CT X.ι->Nat
 | .st i=>(X.cW i).length
 |_=>1
inductive DV where
 |c (t:CT X.ι) (x:CT.T X.toSE t)
 |agg (cs:List DV)
 |fh (vs:List DV)
 |own (k aa len:Nat)
 |ptr (k row aa:Nat)
 |p0 (k:Nat) (n:Int) (aa:Nat)
 |rm (k row aa m:Nat) (n:Int)
 |rp (t:CT X.ι) (x:CT.T X.toSE t) (aa:Nat)
 |vd (t:CT X.ι) (x:CT.T X.toSE t) (aa m:Nat) (n:Int)
 |fn (f:FuncId) (first caps:List DV)
 |cV (as:List (CT X.ι)) (r:CT X.ι) (φ:HL X.toSE as->Option (CT.T X.toSE r))
 |mp (k:Nat)
 |oz (k len:Nat)
 |raw (v:Value)
 |nil
 |ub
 |skip
 |undef
inductive bu where
 |cells (sz:Nat) (rows:List (List (DV X)))
 |de (c:CT X.ι) (l:List (CT.T X.toSE c))
 |map (kc vc:CT X.ι) (l:List (CT.T X.toSE kc×CT.T X.toSE vc))
structure dc where
 env:List (Nat×DV X)
 obj:List (Nat×Option (bu X))
 nx:Nat
 log:List Nat
variable {X}
mutual
def den:DV X->AV
 | .c t x=>(CT.tv X.toSE t x).av
 | .agg cs=> .agg (bJ cs)
 | .fh vs=> .fh (bJ vs)
 | .own k aa len=> .own k aa len
 | .ptr k row aa=> .ptr k row aa
 | .p0 k n aa=> .ptr k n.toNat aa
 | .rm k row aa _ n=> .ptr k row (aa+n.toNat)
 | .rp t x aa=> .eo (CT.row X.toSE t x) aa
 | .vd t x aa _ n=> .eo (CT.row X.toSE t x) (aa+n.toNat)
 | .fn f first caps=> .fn f (bJ first) (bJ caps)
 | .cV as r φ=> .cV λts u=>∃h x,φ h=some x/\ts=HL.nq X.toSE as h/\u=CT.tv X.toSE r x
 | .mp k=> .mp k
 | .oz k len=> .oz k len
 | .raw v=>cv v
 | .nil=> .cN
 | .ub=> .ub
 | .skip=> .undef
 | .undef=> .undef
def bJ:List (DV X)->List AV
 |[]=>[]
 |x::xs=>den x::bJ xs
end
theorem ou:∀l:List (DV X),bJ l=l.map den
 |[]=>rfl
 |x::xs=>by simp only[bJ,aC,ou xs]
def bF:bu X->aU
 | .cells sz rows=>⟨sz,rows.map bJ⟩
 | .de c l=>⟨CT.sz X c,aL (l.map (CT.row X.toSE c))⟩
 | .map kc vc l=>⟨l.length,l.map λp=>[(CT.tv X.toSE kc p.1).av,(CT.tv X.toSE vc p.2).av]⟩
def gG(u:List (Nat×Option (bu X))):List (Nat×Option aU):=u.map λp=>(p.1,p.2.map bF)
def fY(o:List (Nat×Option (bu X)))(k:Nat):Option (bu X):=(lk o k).join
def eC(e:List (Nat×DV X))(t:Nat):DV X:=(lk e t).getD .undef
def dc.st(s:dc X):St:=⟨λ t=>den (eC s.env t),λk=>(fY s.obj k).map bF,λ_=>none⟩
def gB(a b:CT X.ι)(x:CT.T X.toSE a):Option (CT.T X.toSE b):=
 match decEq a b with
 |isTrue h=>some (h ▸ x)
 |isFalse _=>none
theorem mG{a b:CT X.ι}{x:CT.T X.toSE a}{y:CT.T X.toSE b}(h:gB a b x=some y):∃e:a=b,y=e ▸ x:=by
 unfold gB at h;split at h
 ·rename_i e _;injection h with h;exact⟨e,h.symm⟩
 ·cases h
def HL.cells:(l:List (CT X.ι))->HL X.toSE l->List (DV X)
 |[],_=>[]
 |c::l,h=> .c c h.1::HL.cells l h.2
theorem row_one{c:CT X.ι}(h:c.one=true)(x:CT.T X.toSE c):∃t,CT.row X.toSE c x=[t]/\CT.tv X.toSE c x= .s t:=by cases c<;>first |exact⟨_,rfl,rfl⟩ |cases h
theorem HL.pT:∀(l:List (CT X.ι))(h:HL X.toSE l),l.all CT.one=true->bJ (HL.cells l h)=(HL.row X.toSE l h).map AV.t
 |[],_,_=>rfl
 |c::l,h,ha=>by
  simp only[all_cons,aJ]at ha;obtain⟨t,h1,h2⟩:=row_one ha.1 h.1;simp only[HL.cells,bJ,den,HL.row,h1,h2,TV.av,HL.pT l h.2 ha.2,cons_append,bO,aC]
theorem HL.ox:∀(l:List (CT X.ι))(h:HL X.toSE l),l.all CT.one=true->(HL.row X.toSE l h).length=l.length
 |[],_,_=>rfl
 |c::l,h,ha=>by
  simp only[all_cons,aJ]at ha;obtain⟨t,h1,_⟩:=row_one ha.1 h.1;simp only[HL.row,h1,cons_append,bO,bE,HL.ox l h.2 ha.2]
theorem Dn(c:CT X.ι)(x:CT.T X.toSE c):(CT.row X.toSE c x).length=CT.sz X c:=by
 cases c<;>try rfl
 rename_i i;exact(congrArg List.length (X.nw i x)).trans (HL.ox _ _ (X.flat i))
def vQ:(c:CT X.ι)->CT.T X.toSE c->List (DV X)
 | .st i,x=>HL.cells (X.cW i) (X.get i x)
 |c,x=>[.c c x]
theorem nR(c:CT X.ι)(x:CT.T X.toSE c):bJ (vQ c x)=(CT.row X.toSE c x).map AV.t:=by
 cases c<;>try rfl
 rename_i i;exact(HL.pT _ _ (X.flat i)).trans (congrArg (List.map AV.t) (X.nw i x).symm)
def wM:DV X->Bool
 | .agg _ | .fh _ | .undef | .skip | .raw _ | .c (.st _) _=>false
 |_=>true
theorem Tk{x:DV X}(h:wM x=true):pI (den x)=true:=by
 cases x<;>try rfl
 case c t x=>cases t<;>first |rfl |simp[wM]at h
 all_goals simp[wM]at h
def cellsD:DV X->Option (List (DV X))
 | .agg cs=>if cs.all wM then some cs else none
 | .c (.st i) x=>some (vQ (.st i) x)
 | .fh _ | .undef | .skip | .raw _=>none
 |x=>some [x]
theorem ahN{l:List (DV X)}(h:l.all wM=true):(bJ l).all pI=true:=by
 rw[ou,List.all_map,all_eq_true];exact λx hx=>Tk (all_eq_true.1 h x hx)
theorem Ae{x:DV X}{cs:List (DV X)}(h:cellsD x=some cs):cellsOf (den x)=some (bJ cs):=by
 cases x
 case c t x=>
  cases t
  case st i=>
   simp only[cellsD,aA]at h;subst h;simp only[den,CT.tv,TV.av,cellsOf,nR];show(if ((X.row i x).map AV.t).all pI then some ((X.row i x).map AV.t)else none)=some ((X.row i x).map AV.t);rw[aO];rw[List.all_map,all_eq_true];exact λ_ _=>rfl
  all_goals simp only[cellsD,aA]at h;subst h;rfl
 case agg l=>
  simp only[cellsD]at h;split at h
  ·cases h;simp only[den,cellsOf];rw[aO (ahN ‹_›)]
  ·cases h
 all_goals simp only[cellsD,aA,reduceCtorEq]at h;try (subst h;rfl)
def tx:Value->DV X
 | .slice none 0 0=> .nil
 | .int k n=> .c (.int k) n
 | .bool b=> .c .bool b
 | .string s=> .c .str s
 |v=> .raw v
theorem ahO(v:Value):den (tx (X:=X) v)=cv v:=by
 unfold tx;split<;>rfl
theorem Af(l:List Value):bJ (l.map (tx (X:=X)))=l.map cv:=by
 rw[ou,map_map];exact map_congr_left λv _=>ahO v
def Zw(env:Nat->DV X):Operand->DV X
 | .tmp t=>env t
 | .const v=>tx v
 | .global g=>match X.gv g with
  |some p=> .rp p.1 p.2 0
  |none=> .undef
 | .func f=> .fn f [] []
theorem WC(env:Nat->DV X)(x:Operand):den (Zw env x)=lw (λ t=>den (env t)) x:=by
 cases x with
 |global g=>
  have h:=X.wx g;simp only[Zw,lw];cases h1:X.gv g with
  |none=>
   rw[h1]at h;cases h2:ua g with
   |none=>rfl
   |some r=>rw[h2]at h;cases h
  |some p=>
   rw[h1]at h;cases h2:ua g with
   |none=>rw[h2]at h;cases h
   |some r=>
    rw[h2]at h;injection h with h;simp only[den,h]
 |const v=>exact ahO _
 |tmp t=>rfl
 |func f=>rfl
end
def bp{α:Type}(l:List α)(n:Int):Option α:=bif decide (0<=n)then l[n.toNat]? else none
def atO{α:Type}(l:List α)(aa:Nat)(n:Int):Option α:=bif decide (0<=n)then l[aa+n.toNat]? else none
def sub{α:Type}(l:List α)(aa len:Nat):List α:=(l.drop aa).take len
def ca(n:Int)(len:Nat):Bool:=decide (0<=n)&&decide (n<(len:Int))
def kX{α β:Type}(a:α)(f:α->β):β:=f a
def bW(lo len ln n bytes:Nat):Bool:=decide (lo=len)&&decide (ln=n)&&decide ((len+n)*bytes<=140737488355328)&&decide (len+n<=maxLen)
def bm(a b:Nat):Bool:=decide (a=b)
def Ag(l h:Int)(len:Nat):Bool:=decide (0<=l)&&decide (l<=h)&&decide (h<=(len:Int))
def WE(a b:ByteArray):Bool:=Op.bytesLess a.toList b.toList
def WG(a b:ByteArray):Bool:=decide (a.size+b.size<=maxLen)
abbrev iN(n:Int):Int:=n
abbrev bN(b:Bool):Bool:=b
def WH{A:Type}:List Bool->Option A->Option A
 |[],k=>k
 |c::cs,k=>bif c then WH cs k else none
section
variable {X:SX} {A:Type}
abbrev KK(X:SX)(A:Type):=DV X->List (Nat×Option (bu X))->List Nat->List Nat->Option A
def TE(t:Bool)(x y:DV X):DV X:=
 match x,y with
 | .c a p,.c b q=>match decEq b a with
  |isTrue h=> .c a (bif t then p else h ▸ q)
  |isFalse _=>bif t then .c a p else .c b q
 |x,y=>bif t then x else y
def JX(agg:Bool)(size:Nat)(cs:List (DV X)):Option (DV X):=
 if cs.length=size then(if agg then some (.agg cs)else match cs with |[x]=>if wM x then some x else none |_=>none)else none
def Lk(agg:Bool)(size:Nat)(c:CT X.ι)(y:CT.T X.toSE c)(aa:Nat):Option (DV X):=
 match c,y with
 | .st i,y=>if aa=0/\agg=true/\size=(X.cW i).length then some (.c (.st i) y)else JX agg size (((vQ (.st i) y).drop aa).take size)
 |c,y=>JX agg size (((vQ c y).drop aa).take size)
def Ma(d:DV X)(c:CT X.ι):Option (CT.T X.toSE c):=
 match d,c with
 | .c a x,c=>gB a c x
 | .nil,.sl _=>some []
 | .nil,.any=>some (.sl [])
 |_,_=>none
def Ah:List (DV X)->(l:List (CT X.ι))->Option (HL X.toSE l)
 |[],[]=>some ()
 |d::ds,c::l=>(Ma d c).bind λx=>(Ah ds l).bind λh=>some (x,h)
 |_,_=>none
def B6(d:DV X)(i:X.ι):Option (CT.T X.toSE (.st i)):=
 match d with
 | .agg cs=>(Ah cs (X.cW i)).bind λh=>some (X.make i h)
 | .c a x=>gB a (.st i) x
 |_=>none
def dat(d:DV X)(c:CT X.ι):Option (CT.T X.toSE c):=
 match c with
 | .st i=>B6 d i
 |c=>Ma d c
def ZD(c:CT X.ι):List (DV X)->Option (CT.T X.toSE c)
 |[d]=>Ma d c
 |_=>none
def OE(c:CT X.ι)(ds:List (DV X)):Option (CT.T X.toSE c):=
 match c with
 | .st i=>(Ah ds (X.cW i)).bind λh=>some (X.make i h)
 |c=>ZD c ds
def HM(r:List (DV X))(aa:Nat)(cs:List (DV X)):List (DV X):=r.take aa++cs++r.drop (aa+cs.length)
variable (T:dC) (ao:TypeId->Option (CT X.ι))
def Of(t:TypeId)(x:DV X)(get:Nat->Option (bu X))(k:KK X A):Option A:=
 (T t).bind λti=>match x with
 | .ptr kk row aa=>(get kk).bind λo=>match o with
  | .cells _ rows=>(rows[row]?).bind λr=>(JX ti.agg ti.size ((r.drop aa).take ti.size)).bind λv=>k v [] [kk] []
  |_=>none
 | .p0 kk n aa=>(get kk).bind λo=>match o with
  | .de c l=>(bp l n).bind λy=>(Lk ti.agg ti.size c y aa).bind λv=>k v [] [kk] []
  |_=>none
 | .rp c y aa=>(Lk ti.agg ti.size c y aa).bind λv=>k v [] [] []
 |_=>none
def NB(t:TypeId)(x y:DV X)(get:Nat->Option (bu X))(k:KK X A):Option A:=
 (T t).bind λti=>(cellsD y).bind λcs=>if cs.length=ti.size then match x with
 | .ptr kk row aa=>(get kk).bind λo=>match o with
  | .cells sz rows=>(rows[row]?).bind λr=>if aa+cs.length<=r.length then k .undef [(kk,some (.cells sz (rows.set row (HM r aa cs))))] [kk] [kk]else none
  |_=>none
 | .p0 kk n aa=>(get kk).bind λo=>match o with
  | .de c l=>(bp l n).bind λy=>if aa+cs.length<=CT.sz X c then(OE c (HM (vQ c y) aa cs)).bind λz=>k .undef [(kk,some (.de c (l.set n.toNat z)))] [kk] [kk]else none
  |_=>none
 |_=>none else none
def Nb(t:TypeId)(x:DV X)(f:Nat)(k:KK X A):Option A:=
 (Ck T t f).bind λp=>match x with
 | .ptr kk row aa=>k (.ptr kk row (aa+p.1)) [] [] []
 | .p0 kk n aa=>k (.p0 kk n (aa+p.1)) [] [] []
 | .rp c y aa=>k (.rp c y (aa+p.1)) [] [] []
 |_=>none
def US(t:TypeId)(x:DV X)(f:Nat)(k:KK X A):Option A:=
 (Ck T t f).bind λp=>match x with
 | .agg cs=>(JX p.2.agg p.2.size ((cs.drop p.1).take p.2.size)).bind λv=>k v [] [] []
 | .c (.st i) y=>(JX p.2.agg p.2.size (((vQ (.st i) y).drop p.1).take p.2.size)).bind λv=>k v [] [] []
 |_=>none
def Nc(t:TypeId)(x j:DV X)(get:Nat->Option (bu X))(k:KK X A):Option A:=
 (T t).bind λti=>match ti.k,j with
 | .slice e,.c (.int _) n=>(T e).bind λei=>match x with
  | .c (.sl c) l=>if CT.sz X c=ei.size then(bp l n).bind λy=>k (.rp c y 0) [] [] []else none
  | .own kk aa len=>(get kk).bind λo=>match o with
   | .de c _=>if CT.sz X c=ei.size then bif ca n len then k (.p0 kk ((aa:Int)+iN n) 0) [] [kk] []else none else none
   | .cells sz _=>if sz=ei.size then bif ca n len then k (.ptr kk (aa+n.toNat) 0) [] [kk] []else none else none
   | .map _ _ _=>none
  |_=>none
 | .arr m e,.c (.int _) n=>(T e).bind λei=>bif ca n m then match x with
  | .ptr kk row aa=>k (.ptr kk row (aa+n.toNat*ei.size)) [] [] []
  | .p0 kk r aa=>k (.p0 kk r (aa+n.toNat*ei.size)) [] [] []
  | .rp c y aa=>k (.rp c y (aa+n.toNat*ei.size)) [] [] []
  |_=>none
  else none
 |_,_=>none
def WI(x:DV X)(j:Nat)(k:KK X A):Option A:=
 match x with
 | .fh vs=>(vs[j]?).bind λv=>k v [] [] []
 |_=>none
def JY(op:BinOp)(kd:IntKind)(a b:Int):(DV X)×Option Bool:=
 match op with
 | .add=>(.c (.int kd) (kd.wrap (a+b)),none)
 | .sub=>(.c (.int kd) (kd.wrap (a -b)),none)
 | .mul=>(.c (.int kd) (kd.wrap (a*b)),none)
 | .quo=>(.c (.int kd) (kd.wrap (a.tdiv b)),some (b !=0))
 | .rem=>(.c (.int kd) (a.tmod b),some (b !=0))
 | .and=>(.c (.int kd) (bits .and kd a b),none)
 | .or=>(.c (.int kd) (bits .or kd a b),none)
 | .xor=>(.c (.int kd) (bits .xor kd a b),none)
 | .andNot=>(.c (.int kd) (bits .andNot kd a b),none)
 | .shl=>(.c (.int kd) (kd.wrap (a*2 ^ b.toNat)),some (decide (0<=b)&&decide (b<=kd.bits)))
 | .shr=>(.c (.int kd) (a/2 ^ b.toNat),some (decide (0<=b)&&decide (b<=kd.bits)))
 | .eql=>(.c .bool (a==b),none)
 | .neq=>(.c .bool (a !=b),none)
 | .lss=>(.c .bool (decide (a<b)),none)
 | .leq=>(.c .bool (decide (a<=b)),none)
 | .gtr=>(.c .bool (decide (a>b)),none)
 | .geq=>(.c .bool (decide (a>=b)),none)
def Wk:Nat->DV X->DV X->Option Bool
 | 0,.c (.int j) a,.c (.int k) b=>if j=k then some (iN a==iN b)else none
 | 1,.c .bool a,.c .bool b=>some (bN a==bN b)
 | 2,.c .str a,.c .str b=>some (a.toList==b.toList)
 |_,_,_=>none
def wX:List Nat->List (DV X)->List (DV X)->Option Bool
 |[],[],[]=>some true
 |k::ks,x::xs,y::ys=>(Wk k x y).bind λa=>(wX ks xs ys).bind λb=>some (a&&b)
 |_,_,_=>none
def IS:DV X->Option (List (DV X))
 | .agg cs=>some cs
 | .c (.st i) y=>some (vQ (.st i) y)
 |_=>none
def S0(op:BinOp)(t:TypeId)(x y:DV X)(k:KK X A):Option A:=
 match x,y with
 | .c (.int kd) a,.c (.int yk) b=>if kd=yk\/op= .shl\/op= .shr then match (JY op kd a b:DV X×Option Bool).2 with
  |none=>k (JY op kd a b).1 [] [] []
  |some g=>bif g then k (JY op kd a b).1 [] [] []else none
  else none
 | .c .str a,.c .str b=>match op with
  | .eql=>k (.c .bool (a.toList==b.toList)) [] [] []
  | .neq=>k (.c .bool (!(a.toList==b.toList))) [] [] []
  | .lss=>k (.c .bool (WE a b)) [] [] []
  | .gtr=>k (.c .bool (!(WE a b || a.toList==b.toList))) [] [] []
  | .add=>bif WG a b then k (.c .str (a++b)) [] [] []else none
  |_=>none
 | .c .bool a,.c .bool b=>(T t).bind λti=>match ti.k,op with
  | .bool,.eql=>k (.c .bool (bN a==bN b)) [] [] []
  | .bool,.neq=>k (.c .bool (!(bN a==bN b))) [] [] []
  |_,_=>none
 |x,y=>(IS x).bind λxs=>(IS y).bind λys=>(T t).bind λti=>if ti.cmp=[]then none else(wX ti.cmp xs ys).bind λb=>match op with
  | .eql=>k (.c .bool b) [] [] []
  | .neq=>k (.c .bool (!b)) [] [] []
  |_=>none
def No(op:UnOp)(x:DV X)(k:KK X A):Option A:=
 match op,x with
 | .not,.c .bool b=>k (.c .bool (!b)) [] [] []
 | .neg,.c (.int kd) n=>k (.c (.int kd) (kd.wrap (0 -iN n))) [] [] []
 |_,_=>none
def Lm(mx:Bool)(kd:IntKind):Int->List (DV X)->Option Int
 |a,[]=>some a
 |a,.c (.int k') b::r=>if k'=kd then Lm mx kd (if mx then max a b else min a b) r else none
 |_,_=>none
def Ix(mx:Bool)(args:List (DV X))(k:KK X A):Option A:=
 match args with
 | .c (.int kd) a::r=>(Lm mx kd a r).bind λn=>k (.c (.int kd) n) [] [] []
 |_=>none
def SZ(t:TypeId)(x:DV X)(k:KK X A):Option A:=
 (T t).bind λti=>match ti.k,x with
 | .slice _,.c (.sl _) l=>k (.c (.int .i64) (l.length:Int)) [] [] []
 | .slice _,.own _ _ len=>k (.c (.int .i64) (len:Int)) [] [] []
 | .slice _,.oz _ len=>k (.c (.int .i64) (len:Int)) [] [] []
 | .slice _,.nil=>k (.c (.int .i64) (0:Int)) [] [] []
 | .str,.c .str s=>k (.c (.int .i64) (s.size:Int)) [] [] []
 |_,_=>none
def DM(place:Nat->Option (Nat×Nat)):List (DV X)->List (Nat×DV X)->Option (List (DV X))
 |cells,[]=>some cells
 |cells,(j,x)::ag=>(place j).bind λp=>(cellsD x).bind λcs=>
  if cs.length=p.2/\p.1+cs.length<=cells.length then DM place (HM cells p.1 cs) ag else none
def VV(t:TypeId)(parts:List (Nat×DV X))(k:KK X A):Option A:=
 (T t).bind λti=>match ti.k with
 | .struct fs=>if fs.all (λ p=>(T p.2).isSome)then
  (DM (λ j=>(fs[j]?).bind λp=>(T p.2).bind λui=>some (p.1,ui.size)) (ti.zero.map tx) parts).bind λcells=>k (.agg cells) [] [] []else none
 | .arr _ e=>(T e).bind λei=>(DM (λ j=>some (j*ei.size,ei.size)) (ti.zero.map tx) parts).bind λcells=>k (.agg cells) [] [] []
 |_=>none
def HK(c:CT X.ι):Nat->List (Nat×DV X)->Option (List (CT.T X.toSE c))
 |_,[]=>some []
 |n,(j,x)::r=>if j=n then(dat x c).bind λy=>(HK c (n+1) r).bind λl=>some (y::l)else none
def JZ(i:Nat)(t:TypeId)(len:Nat)(parts:List (Nat×DV X))(k:KK X A):Option A:=
 (T t).bind λti=>match ti.k with
 | .slice e=>(T e).bind λei=>(ao e).bind λc=>if ei.size=0\/len*ei.size>2 ^ 24\/CT.sz X c≠ei.size\/parts.length≠len then none else
  (HK c 0 parts).bind λl=>k (.own (cA i) 0 len) [(cA i,some (.de c l))] [] []
 |_=>none
def VM(i:Nat)(e:TypeId)(k:KK X A):Option A:=
 (T e).bind λti=>k (.ptr (cA i) 0 0) [(cA i,some (.cells ti.size [ti.zero.map tx]))] [] []
def SW(i:Nat)(x:DV X)(k:KK X A):Option A:=
 (cellsD x).bind λcs=>k (.ptr (cA i) 0 0) [(cA i,some (.cells cs.length [cs]))] [] []
def Zx(d:Int):Option (DV X)->Option Int
 |none=>some d
 |some (.c (.int _) n)=>some n
 |_=>none
def VC(t:TypeId)(x:DV X)(lo hi:Option (DV X))(get:Nat->Option (bu X))(k:KK X A):Option A:=
 (T t).bind λti=>match ti.k with
 | .slice e=>(T e).bind λei=>match x with
  | .own kk aa len=>(get kk).bind λo=>if (bF o).sz=ei.size then(Zx 0 lo).bind λl=>(Zx len hi).bind λh=>
   bif Ag l h len then k (.own kk (aa+l.toNat) (h.toNat -l.toNat)) [] [kk] []else none else none
  | .c (.sl c) xs=>if CT.sz X c=ei.size then(Zx 0 lo).bind λl=>(Zx xs.length hi).bind λh=>
   bif Ag l h xs.length then k (.c (.sl c) (sub xs l.toNat (h.toNat -l.toNat))) [] [] []else none else none
  |_=>none
 |_=>none
def SU(y:DV X)(c:CT X.ι)(get:Nat->Option (bu X)):Option (Nat×List (CT.T X.toSE c)×List Nat):=
 match y with
 | .own kk aa len=>(get kk).bind λo=>match o with
  | .de b l=>(gB (.sl b) (.sl c) l).bind λl=>some (len,sub l aa len,[kk])
  |_=>none
 | .c b l=>(gB b (.sl c) l).bind λ(l:List (CT.T X.toSE c))=>some (l.length,l,[])
 |_=>none
def WJ{α:Type}:Nat->List α->List α
 | 0,l=>l
 |n+1,l=>l.drop (n+1)
def Wg(i:Nat)(t:TypeId)(x y:DV X)(get:Nat->Option (bu X))(k:KK X A):Option A:=
 (T t).bind λti=>match ti.k with
 | .slice e=>(T e).bind λei=>(ao e).bind λc=>if CT.sz X c=ei.size then(SU y c get).bind λs=>match x with
  | .own kk aa len=>(get kk).bind λo=>match o with
   | .de b l=>(gB (.sl b) (.sl c) l).bind λ(l:List (CT.T X.toSE c))=>bif bW (WJ aa l).length len s.2.1.length s.1 ei.bytes then kX (WJ aa l++s.2.1) λr=>k (.own (cA i) 0 r.length) [(cA i,some (.de c r)),(kk,none)] (kk::s.2.2) [kk]else none
   |_=>none
  | .nil=>bif bW 0 0 s.2.1.length s.1 ei.bytes then kX s.2.1 λr=>k (.own (cA i) 0 r.length) [(cA i,some (.de c r))] s.2.2 []else none
  |_=>none
  else none
 |_=>none
def WK(i:Nat)(b:Builtin)(args:List (DV X))(cW:List TypeId)(get:Nat->Option (bu X))(k:KK X A):Option A:=
 match b,args,cW with
 | .len,[x],[t]=>SZ T t x k
 | .max,args,_=>Ix true args k
 | .min,args,_=>Ix false args k
 | .append,[x,y],[t,u]=>if t=u then Wg T ao i t x y get k else none
 |_,_,_=>none
def Iv(i:Nat)(o:Op)(ρ:Operand->DV X)(get:Nat->Option (bu X))(k:KK X A):Option A:=
 match o with
 | .move x=>k (ρ x) [] [] []
 | .assign x=>k (ρ x) [] [] []
 | .pick c a b=>match ρ c with | .c .bool t=>k (TE t (ρ a) (ρ b)) [] [] [] |_=>none
 | .alloc e=>VM T i e k
 | .box _ x=>SW i (ρ x) k
 | .build t parts=>VV T t (parts.toList.map λp=>(p.1,ρ p.2)) k
 | .buildSlice t len parts=>JZ T ao i t len (parts.toList.map λp=>(p.1,ρ p.2)) k
 | .load t a=>Of T t (ρ a) get k
 | .store t a x=>NB T t (ρ a) (ρ x) get k
 | .binOp op t x y _=>S0 T op t (ρ x) (ρ y) k
 | .unOp op _ x=>No op (ρ x) k
 | .makeFunc (.func f) first caps=>k (.fn f (first.toList.map ρ) (caps.toList.map ρ)) [] [] []
 | .slice t x lo hi none=>VC T t (ρ x) (lo.map ρ) (hi.map ρ) get k
 | .fieldAddr t x f=>Nb T t (ρ x) f k
 | .field t x f=>US T t (ρ x) f k
 | .indexAddr t x j=>Nc T t (ρ x) (ρ j) get k
 | .extract x j=>WI (ρ x) j k
 | .call { callee:= .builtin b,args:=args,argTypes:=cW }=>WK T ao i b (args.toList.map ρ) cW.toList get k
 |_=>none
end
section
variable {X:SX} {A:Type} {T:dC} {ao:TypeId->Option (CT X.ι)} {get:Nat->Option (bu X)} {k:KK X A} {r:A} {i:Nat}
def fC(get:Nat->Option (bu X)):Nat->Option aU:=λj=>(get j).map bF
theorem dO{rd:List Nat}{j:Nat}{o:bu X}(hj:j∈rd)(h:get j=some o):dF rd (fC get) j=some (bF o):=by simp[dF,hj,fC,h]
theorem lQ(l:List (DV X)):(bJ l).length=l.length:=by simp[ou]
theorem kC(l:List (DV X))(a b:Nat):bJ ((l.drop a).take b)=((bJ l).drop a).take b:=by simp[ou,map_take,map_drop]
theorem OG{α:Type}{l:List α}{n:Int}{x:α}(h:bp l n=some x):0<=n/\l[n.toNat]? =some x:=by
 unfold bp at h;by_cases hn:0<=n
 ·simpa[hn]using h
 ·simp[hn]at h
theorem aiA(t:Bool)(x y:DV X):den (TE t x y)=H0 t (den x) (den y):=by
 rw[VP];have base:∀x y:DV X,den (bif t then x else y)=if t=true then den x else den y:=λx y=>by cases t<;>rfl
 unfold TE;split
 ·rename_i a p b q;split
  ·rename_i h _;subst h;cases t<;>rfl
  ·exact base _ _
 ·exact base _ _
theorem EU{agg:Bool}{size:Nat}{cs:List (DV X)}{v:DV X}(h:JX agg size cs=some v):part' agg size (bJ cs)=some (den v):=by
 unfold JX at h;unfold part';rw[lQ];split at h
 ·rename_i hl;rw[aO hl];cases agg with
  |true=>simp only[if_true,aA]at h ⊢;subst h;rfl
  |false=>
   simp only[Bool.false_eq_true,if_false]at h ⊢
   match cs,h with
   |[x],h=>
    simp only at h;split at h
    ·rename_i hx;cases h;simp only[bJ];rw[aO (Tk hx)]
    ·cases h
   |[],h=>cases h
   |_::_::_,h=>cases h
 ·cases h
theorem Q9{agg:Bool}{size aa:Nat}{c:CT X.ι}{y:CT.T X.toSE c}{v:DV X}(h:JX agg size (((vQ c y).drop aa).take size)=some v):part' agg size ((((CT.row X.toSE c y).drop aa).take size).map AV.t)=some (den v):=by
 have:=EU h;rw[kC,nR]at this;rw[<- this,map_take,map_drop]
theorem aaA{agg:Bool}{size aa:Nat}{c:CT X.ι}{y:CT.T X.toSE c}{v:DV X}(h:Lk agg size c y aa=some v):part' agg size ((((CT.row X.toSE c y).drop aa).take size).map AV.t)=some (den v):=by
 cases c
 case st j=>
  simp only[Lk]at h;split at h
  ·rename_i hh;obtain⟨rfl,rfl,rfl⟩:=hh;cases h;have hl:(CT.row X.toSE (.st j) y).length=(X.cW j).length:=Dn (.st j) y;rw[List.drop_zero,take_of_length_le (by omega)];unfold part';rw[aO (by simpa using hl)];rfl
  ·exact Q9 h
 all_goals exact Q9 h
theorem aiB{t:TypeId}{x:DV X}(h:Of T t x get k=some r):∃cw rd dv ab,EP T t (den x) cw (dF rd (fC get))=some ab/\jZ ab.obs/\ab.v=den dv/\ab.upd=[]/\k dv [] rd []=some r:=by
 unfold Of at h;unfold EP;rw[ai]at h;obtain⟨ti,h1,h⟩:=h;simp only[h1,ah];split at h
 ·rename_i kk row aa;rw[ai]at h;obtain⟨o,h2,h⟩:=h;split at h
  ·rename_i sz rows;rw[ai]at h;obtain⟨rw',h3,h⟩:=h;rw[ai]at h;obtain⟨v,h4,h⟩:=h;refine⟨.none,[kk],v,⟨den v,[],[]⟩,?_,trivial,rfl,rfl,h⟩;have h5:=EU h4;rw[kC]at h5;simp[den,dO (List.mem_singleton_self kk) h2,bF,h3,h5,pv]
  ·cases h
 ·rename_i kk n aa;rw[ai]at h;obtain⟨o,h2,h⟩:=h;split at h
  ·rename_i c l;rw[ai]at h;obtain⟨y,h3,h⟩:=h;rw[ai]at h;obtain⟨v,h4,h⟩:=h;have⟨_,h6⟩:=OG h3;refine⟨.row ((CT.row X.toSE c y).map AV.t),[kk],v,⟨den v,[],[(aL (l.map (CT.row X.toSE c)))[n.toNat]? =some ((CT.row X.toSE c y).map AV.t)]⟩,?_,?_,rfl,rfl,h⟩
   ·have h5:=aaA h4;rw[map_take,map_drop]at h5;simp only[den,dO (List.mem_singleton_self kk) h2,ah,bF,h5,k5]
   ·simp[jZ,aL,h6]
  ·cases h
 ·rename_i c y aa;have⟨v,h4,h⟩:=ai.1 h;refine⟨.none,[],v,⟨den v,[],[]⟩,?_,trivial,rfl,rfl,h⟩;simp only[den,aaA h4,ah,pv]
 ·cases h
theorem WL(a:List (DV X))(aa:Nat)(cs:List (DV X)):bJ (HM a aa cs)=put' (bJ a) aa (bJ cs):=by simp[HM,put',ou,map_take,map_drop]
theorem iT{a c:CT X.ι}{x:CT.T X.toSE a}{y:CT.T X.toSE c}(h:gB a c x=some y):den (.c a x)=den (.c c y)/\CT.row X.toSE a x=CT.row X.toSE c y:=by
 have⟨e,h⟩:=mG h;subst e;subst h;exact⟨rfl,rfl⟩
theorem Mu{c:CT X.ι}(hc:c.one=true)(x:CT.T X.toSE c):[(CT.tv X.toSE c x).av]=(CT.row X.toSE c x).map AV.t:=by
 obtain⟨t,h1,h2⟩:=row_one hc x;rw[h1,h2];rfl
theorem amP{c:CT X.ι}(x:CT.T X.toSE c):wk (CT.tv X.toSE c x).av=(CT.tv X.toSE c x).av:=by cases c<;>rfl
theorem wY{d:DV X}{c:CT X.ι}{x:CT.T X.toSE c}(h:Ma d c=some x):wk (den d)=(CT.tv X.toSE c x).av:=by
 unfold Ma at h;split at h
 ·rw[(iT h).1];exact amP x
 ·cases h;rfl
 ·cases h;rfl
 ·cases h
theorem Wf{d:DV X}{c:CT X.ι}{x:CT.T X.toSE c}(hc:c.one=true)(h:Ma d c=some x):wM d=true:=by
 cases d
 case c a y=>
  obtain⟨e,_⟩:=mG (show gB a c y=some x by cases c<;>exact h);subst e;cases a<;>first |rfl |simp[CT.one]at hc
 case nil=>rfl
 all_goals cases c<;>cases h
theorem Ai:∀{ds:List (DV X)}{l:List (CT X.ι)}{h:HL X.toSE l},Ah ds l=some h->l.all CT.one=true->(bJ ds).map wk=(HL.row X.toSE l h).map AV.t/\ds.all wM=true
 |[],[],h,_,_=>⟨rfl,rfl⟩
 |d::ds,c::l,h,hr,ha=>by
  simp only[Ah]at hr;have⟨x,h1,hr⟩:=ai.1 hr;have⟨g,h2,hr⟩:=ai.1 hr;cases hr;simp only[all_cons,aJ]at ha ⊢;have⟨i1,i2⟩:=Ai h2 ha.2;simp only[bJ,aC,HL.row,map_append,i1,wY h1,i2,and_true,Wf ha.1 h1];simp[<- Mu ha.1 x]
 |[],_::_,_,hr,_=>by simp[Ah]at hr
 |_::_,[],_,hr,_=>by simp[Ah]at hr
theorem WM(j:X.ι)(h:HL X.toSE (X.cW j)):CT.row X.toSE (.st j) (X.make j h)=HL.row X.toSE (X.cW j) h:=X.gh j h
theorem alX{c:CT X.ι}(hc:c.one=true){ds:List (DV X)}{x:CT.T X.toSE c}(h:ZD c ds=some x):(bJ ds).map wk=(CT.row X.toSE c x).map AV.t:=by
 match ds,h with
 |[d],h=>
  rw[<- Mu hc x];simp only[bJ,aC,map_nil,wY h]
 |[],h=>cases h
 |_::_::_,h=>cases h
theorem zR{c:CT X.ι}{ds:List (DV X)}{x:CT.T X.toSE c}(h:OE c ds=some x):(bJ ds).map wk=(CT.row X.toSE c x).map AV.t:=by
 cases c
 case st j=>
  simp only[OE]at h;have⟨g,h1,h⟩:=ai.1 h;cases h;rw[(Ai h1 (X.flat j)).1,WM]
 all_goals exact alX rfl h
theorem af4{d:DV X}{c:CT X.ι}(hc:c.one=true){x:CT.T X.toSE c}(h:Ma d c=some x):∃cs,cellsOf (den d)=some cs/\cs.map wk=(CT.row X.toSE c x).map AV.t:=by
 have hk:=Wf hc h;have hd:=wY h;have he:cellsOf (den d)=some [den d]:=by
  have:=Ae (x:=d) (cs:=[d]) (by
   cases d
   case c t y=>cases t<;>first |rfl |simp[wM]at hk
   all_goals first |rfl |simp[wM]at hk)
  simpa[bJ]using this
 exact⟨_,he,by rw[<- Mu hc x];simp[hd]⟩
theorem aiC{d:DV X}{c:CT X.ι}{x:CT.T X.toSE c}(h:dat d c=some x):∃cs,cellsOf (den d)=some cs/\cs.map wk=(CT.row X.toSE c x).map AV.t:=by
 cases c
 case st j=>
  replace h:B6 d j=some x:=h
  cases d
  case agg cs=>
   simp only[B6]at h;have⟨g,h1,h⟩:=ai.1 h;cases h;have⟨i1,i2⟩:=Ai h1 (X.flat j);refine⟨bJ cs,?_,by rw[i1,WM]⟩;simp only[den,cellsOf];rw[aO (ahN i2)]
  case c a y=>
   replace h:gB a (.st j) y=some x:=h
   rw[(iT h).1];refine⟨(CT.row X.toSE (.st j) x).map AV.t,?_,?_⟩
   ·show cellsOf (.agg _)=_;simp only[cellsOf];rw[aO]
    ·rfl
    ·rw[List.all_map,all_eq_true];exact λ_ _=>rfl
   ·rw[map_map];rfl
  all_goals cases h
 all_goals exact af4 rfl h
theorem aiD{t:TypeId}{x y:DV X}(h:NB T t x y get k=some r):∃cw kk u ab,VI T t (den x) (den y) cw (dF [kk] (fC get))=some ab/\jZ ab.obs/\ab.v= .undef/\ab.upd=gG [(kk,u)]/\k .undef [(kk,u)] [kk] [kk]=some r:=by
 unfold NB at h;unfold VI;rw[ai]at h;obtain⟨ti,h1,h⟩:=h;rw[ai]at h;obtain⟨cs,h2,h⟩:=h;simp only[h1,Ae h2,ah];split at h
 ·rename_i hl;have hdl:(bJ cs).length=ti.size:=by rw[lQ];exact hl
  simp only[hdl,if_true];split at h
  ·rename_i kk row aa;rw[ai]at h;obtain⟨o,h3,h⟩:=h;split at h
   ·rename_i sz rows;rw[ai]at h;obtain⟨rw',h4,h⟩:=h;split at h
    ·rename_i hle;refine⟨.none,kk,_,⟨.undef,_,[]⟩,?_,trivial,rfl,rfl,h⟩;simp only[den,dO (List.mem_singleton_self kk) h3,ah,bF,List.getElem?_map,h4,Option.map_some,lQ];rw[aO (by rw[<- hl];exact hle)];simp[gG,bF,WL]
    ·cases h
   ·cases h
  ·rename_i kk n aa;rw[ai]at h;obtain⟨o,h3,h⟩:=h;split at h
   ·rename_i c l;rw[ai]at h;obtain⟨z,h4,h⟩:=h;split at h
    ·rename_i hle;have⟨z',h5,h⟩:=ai.1 h;have⟨_,h6⟩:=OG h4;refine⟨.set ((CT.row X.toSE c z).map AV.t) (aL ((l.set n.toNat z').map (CT.row X.toSE c))),kk,_,⟨.undef,_,[(aL (l.map (CT.row X.toSE c)))[n.toNat]? =some ((CT.row X.toSE c z).map AV.t)/\aL ((l.set n.toNat z').map (CT.row X.toSE c))=dV ((aL (l.map (CT.row X.toSE c))).set n.toNat (put' ((CT.row X.toSE c z).map AV.t) aa (bJ cs)))]⟩,?_,?_,rfl,rfl,h⟩
     ·simp only[den,dO (List.mem_singleton_self kk) h3,ah,bF];rw[aO (by rw[length_map,Dn,<- hl];exact hle)];simp[gG,bF]
     ·refine⟨by simp[aL,h6],?_⟩;have h7:=zR h5;rw[WL,nR]at h7;have hid:dV (aL (l.map (CT.row X.toSE c)))=aL (l.map (CT.row X.toSE c)):=(by simp[dV,aL,Function.comp_def,wk]);simp only[dV,List.map_set,h7];have:(aL (l.map (CT.row X.toSE c))).map (List.map wk)=aL (l.map (CT.row X.toSE c)):=hid;rw[this];simp[aL]
    ·cases h
   ·cases h
  ·cases h
 ·cases h
theorem Ra{t:TypeId}{x:DV X}{f:Nat}(h:Nb T t x f k=some r):∃dv ab,Ab T t (den x) f=some ab/\jZ ab.obs/\ab.v=den dv/\ab.upd=[]/\k dv [] [] []=some r:=by
 unfold Nb at h;unfold Ab;rw[ai]at h;obtain⟨⟨d,u⟩,h1,h⟩:=h;simp only[h1,ah];split at h
 ·exact⟨_,_,rfl,trivial,rfl,rfl,h⟩
 ·exact⟨_,_,rfl,trivial,rfl,rfl,h⟩
 ·exact⟨_,_,rfl,trivial,rfl,rfl,h⟩
 ·cases h
theorem abW{t:TypeId}{x:DV X}{f:Nat}(h:US T t x f k=some r):∃dv ab,VJ T t (den x) f=some ab/\jZ ab.obs/\ab.v=den dv/\ab.upd=[]/\k dv [] [] []=some r:=by
 unfold US at h;unfold VJ;rw[ai]at h;obtain⟨⟨d,u⟩,h1,h⟩:=h;simp only[h1,ah];split at h
 ·rw[ai]at h;obtain⟨v,h2,h⟩:=h;have h3:=EU h2;rw[kC]at h3;exact⟨v,⟨den v,[],[]⟩,by simp only[den,h3,ah,pv],trivial,rfl,rfl,h⟩
 ·rename_i j y;have⟨v,h2,h⟩:=ai.1 h;have h3:=Q9 h2;rw[map_take,map_drop]at h3;refine⟨v,⟨den v,[],[]⟩,?_,trivial,rfl,rfl,h⟩;show(part' u.agg u.size (List.take u.size (List.drop d ((CT.row X.toSE (.st j) y).map AV.t)))).bind pv=_;rw[h3];rfl
 ·cases h
theorem dD{α:Type}{b:Bool}{x:Option α}{r:α}(h:(bif b then x else none)=some r):b=true/\x=some r:=by
 cases b with
 |true=>exact⟨rfl,h⟩
 |false=>cases h
theorem WN{n:Int}{len:Nat}(h:ca n len=true):0<=n/\n.toNat<len:=by simp only[ca,aJ,aT]at h;omega
theorem qc{A:Type}:∀{cs:List Bool}{k:Option A}{r:A},WH cs k=some r->(∀ c∈cs,c=true)/\k=some r
 |[],_,_,h=>⟨by simp,h⟩
 |c::cs,k,r,h=>by
  have⟨h1,h2⟩:=dD h;have⟨h3,h4⟩:=qc h2;exact⟨λ x hx=>(aM.1 hx).elim (λ e=>e ▸ h1) (h3 x),h4⟩
theorem Rb{t:TypeId}{x j:DV X}(h:Nc T t x j get k=some r):∃cw rd dv ab,mF T t (den x) (den j) cw (dF rd (fC get))=some ab/\jZ ab.obs/\ab.v=den dv/\ab.upd=[]/\k dv [] rd []=some r:=by
 unfold Nc at h;unfold mF;rw[ai]at h;obtain⟨ti,h1,h⟩:=h;simp only[h1,ah];split at h
 ·rename_i e kd n hk;rw[ai]at h;obtain⟨ei,h2,h⟩:=h;simp only[hk,den,CT.tv,TV.av,h2,ah];split at h
  ·rename_i c l;split at h
   ·rename_i hs;rw[ai]at h;obtain⟨y,h3,h⟩:=h;have⟨h4,h5⟩:=OG h3;refine⟨.rN (CT.row X.toSE c y),[],_,⟨.eo (CT.row X.toSE c y) 0,[],[0<=n/\(l.map (CT.row X.toSE c))[n.toNat]? =some (CT.row X.toSE c y)]⟩,?_,?_,rfl,rfl,h⟩
    ·simp only[den,CT.tv,TV.av];rw[aO (by rw[Dn];exact hs)];rfl
    ·exact⟨h4,by simp[h5]⟩
   ·cases h
  ·rename_i kk aa len;rw[ai]at h;obtain⟨o,h3,h⟩:=h;split at h
   ·rename_i c l;split at h
    ·rename_i hs;have⟨h4,h⟩:=dD h;have⟨h5,h6⟩:=WN h4;refine⟨.none,[kk],_,⟨.ptr kk (aa+n.toNat) 0,[],[0<=n/\n.toNat<len]⟩,?_,⟨h5,h6⟩,?_,rfl,h⟩
     ·simp only[den,dO (List.mem_singleton_self kk) h3,ah,bF];rw[aO hs];rfl
     ·simp only[den,iN];congr 1;show aa+Int.toNat n=Int.toNat ((aa:Int)+n);have:(0:Int)<=n:=h5;omega
    ·cases h
   ·rename_i sz rows;split at h
    ·rename_i hs;have⟨h4,h⟩:=dD h;have⟨h5,h6⟩:=WN h4;refine⟨.none,[kk],_,⟨.ptr kk (aa+n.toNat) 0,[],[0<=n/\n.toNat<len]⟩,?_,⟨h5,h6⟩,rfl,rfl,h⟩;simp only[den,dO (List.mem_singleton_self kk) h3,ah,bF];rw[aO hs];rfl
    ·cases h
   ·cases h
  ·cases h
 ·rename_i m e kd n hk;have⟨ei,h2,h⟩:=ai.1 h;simp only[hk,den,CT.tv,TV.av,h2,ah];have⟨h4,h⟩:=dD h;have⟨h5,h6⟩:=WN h4;split at h
  ·exact⟨.none,[],_,_,rfl,⟨h5,h6⟩,rfl,rfl,h⟩
  ·exact⟨.none,[],_,_,rfl,⟨h5,h6⟩,rfl,rfl,h⟩
  ·exact⟨.none,[],_,_,rfl,⟨h5,h6⟩,rfl,rfl,h⟩
  ·cases h
 ·cases h
theorem WO{x:DV X}{j:Nat}(h:WI x j k=some r):∃dv ab,JO (den x) j=some ab/\jZ ab.obs/\ab.v=den dv/\ab.upd=[]/\k dv [] [] []=some r:=by
 unfold WI at h;split at h
 ·have⟨v,h2,h⟩:=ai.1 h;refine⟨v,⟨den v,[],[]⟩,?_,trivial,rfl,rfl,h⟩;simp[JO,den,ou,h2,pv]
 ·cases h
end
section
variable {X:SX} {A:Type} {T:dC} {ao:TypeId->Option (CT X.ι)} {get:Nat->Option (bu X)} {k:KK X A} {r:A} {i:Nat}
theorem abX{op:BinOp}{kd:IntKind}{a b:Int}:∃v obs,VH op kd a b=some (v,obs)/\den (JY (X:=X) op kd a b).1= .t (.sc v)/\(∀ g,(JY (X:=X) op kd a b).2=some g->g=true->jZ obs)/\((JY (X:=X) op kd a b).2=none->jZ obs):=by
 cases op<;>refine⟨_,_,rfl,rfl,λg hg ht=>?_,λhn=>?_⟩<;>simp only[JY,aA,reduceCtorEq]at* <;>try trivial
 all_goals subst hg;simp_all [jZ]
theorem adG{n:Nat}{x y:DV X}{b:Bool}(h:Wk n x y=some b):M9 n (den x) (den y)=some b:=by
 unfold Wk at h;split at h
 ·split at h
  ·cases h;simp only[den,CT.tv,TV.av,M9];rw[aO ‹_›]
  ·cases h
 ·exact h
 ·exact h
 ·cases h
theorem OH:∀{ks:List Nat}{xs ys:List (DV X)}{b:Bool},wX ks xs ys=some b->uj ks (bJ xs) (bJ ys)=some b
 |[],[],[],b,h=>h
 |k::ks,x::xs,y::ys,b,h=>by
  simp only[wX]at h;rw[ai]at h;obtain⟨p,h1,h⟩:=h;rw[ai]at h;obtain⟨q,h2,h⟩:=h;simp only[bJ,uj,adG h1,OH h2,ah,h]
 |[],_::_,_,_,h=>by simp[wX]at h
 |[],[],_::_,_,h=>by simp[wX]at h
 |_::_,[],_,_,h=>by simp[wX]at h
 |_::_,_::_,[],_,h=>by simp[wX]at h
theorem adH{x:DV X}{xs:List (DV X)}(h:IS x=some xs):den x= .agg (bJ xs):=by
 unfold IS at h;split at h
 ·cases h;rfl
 ·rename_i j y;cases h;rw[nR];rfl
 ·cases h
theorem af5{op:BinOp}{t:TypeId}{x y:DV X}(h:S0 T op t x y k=some r):∃dv ab,Zf T op t (den x) (den y)=some ab/\jZ ab.obs/\ab.v=den dv/\ab.upd=[]/\k dv [] [] []=some r:=by
 unfold S0 at h;split at h
 ·rename_i kd a yk b;split at h
  ·rename_i hk;have⟨v,obs,h1,h2,h3,h4⟩:=abX (X:=X) (op:=op) (kd:=kd) (a:=a) (b:=b);have fin:jZ obs->k (JY op kd a b).1 [] [] []=some r->∃dv ab,Zf T op t (den (.c (.int kd) a:DV X)) (den (.c (.int yk) b:DV X))=some ab/\jZ ab.obs/\ab.v=den dv/\ab.upd=[]/\k dv [] [] []=some r:=by
    intro ho hkk;refine⟨_,⟨.t (.sc v),[],obs⟩,?_,ho,h2.symm,rfl,hkk⟩;simp only[den,CT.tv,TV.av,Zf];rw[aO hk,h1];rfl
   split at h
   ·rename_i hn;exact fin (h4 hn) h
   ·rename_i g hg;have⟨hgt,h⟩:=dD h;exact fin (h3 g hg hgt) h
  ·cases h
 ·split at h
  ·exact⟨_,_,rfl,trivial,rfl,rfl,h⟩
  ·exact⟨_,_,rfl,trivial,rfl,rfl,h⟩
  ·exact⟨_,_,rfl,trivial,rfl,rfl,h⟩
  ·exact⟨_,_,rfl,trivial,rfl,rfl,h⟩
  ·have⟨hc,h⟩:=dD h;exact⟨_,_,rfl,show _<=maxLen from of_decide_eq_true hc,rfl,rfl,h⟩
  ·cases h
 ·rw[ai]at h;obtain⟨ti,h1,h⟩:=h;split at h
  ·rename_i hk;refine⟨_,⟨.t (.sc (.bool _)),[],[]⟩,?_,trivial,rfl,rfl,h⟩;simp only[den,CT.tv,TV.av,Zf,h1,ah,hk];rfl
  ·rename_i hk;refine⟨_,⟨.t (.sc (.bool _)),[],[]⟩,?_,trivial,rfl,rfl,h⟩;simp only[den,CT.tv,TV.av,Zf,h1,ah,hk];rfl
  ·cases h
 ·rw[ai]at h;obtain⟨xs,h1,h⟩:=h;rw[ai]at h;obtain⟨ys,h2,h⟩:=h;rw[ai]at h;obtain⟨ti,h3,h⟩:=h;split at h
  ·cases h
  ·rename_i hc;have⟨b,h4,h⟩:=ai.1 h;have h5:=OH h4;rw[adH h1,adH h2];split at h
   ·refine⟨_,⟨.t (.sc (.bool b)),[],[]⟩,?_,trivial,rfl,rfl,h⟩;simp only[Zf,h3,ah];rw[aN hc,h5];rfl
   ·refine⟨_,⟨.t (.sc (.bool (!b))),[],[]⟩,?_,trivial,rfl,rfl,h⟩;simp only[Zf,h3,ah];rw[aN hc,h5];rfl
   ·cases h
theorem aiE{op:UnOp}{x:DV X}(h:No op x k=some r):∃dv ab,Mz op (den x)=some ab/\jZ ab.obs/\ab.v=den dv/\ab.upd=[]/\k dv [] [] []=some r:=by
 unfold No at h;split at h
 ·exact⟨_,_,rfl,trivial,rfl,rfl,h⟩
 ·exact⟨_,_,rfl,trivial,rfl,rfl,h⟩
 ·cases h
theorem Tm(mx:Bool)(kd:IntKind):∀(l:List (DV X))(a n:Int),Lm mx kd a l=some n->Gl mx kd a (bJ l)=some n
 |[],a,n,h=>h
 |x::l,a,n,h=>by
  cases x
  case c t y=>
   cases t
   case int k'=>
    simp only[Lm]at h;simp only[bJ,den,CT.tv,TV.av,Gl];split at h
    ·rename_i hk;rw[aO hk];exact Tm mx kd l _ _ h
    ·cases h
   all_goals simp[Lm]at h
  all_goals simp[Lm]at h
theorem aaB{mx:Bool}{args:List (DV X)}(h:Ix mx args k=some r):∃dv ab,EV mx (bJ args)=some ab/\jZ ab.obs/\ab.v=den dv/\ab.upd=[]/\k dv [] [] []=some r:=by
 unfold Ix at h;split at h
 ·rename_i kd a l;rw[ai]at h;obtain⟨n,h1,h⟩:=h;refine⟨_,⟨.t (.sc (.int kd n)),[],[]⟩,?_,trivial,rfl,rfl,h⟩;simp only[bJ,den,CT.tv,TV.av,EV];have:=Tm mx kd l a n h1;simp only[this];rfl
 ·cases h
theorem af6{t:TypeId}{x:DV X}(h:SZ T t x k=some r):∃cw dv ab,xt T t (den x) cw=some ab/\jZ ab.obs/\ab.v=den dv/\ab.upd=[]/\k dv [] [] []=some r:=by
 unfold SZ at h;unfold xt;rw[ai]at h;obtain⟨ti,h1,h⟩:=h;simp only[h1,ah];split at h
 ·rename_i e c l hk;simp only[hk];exact⟨.num (l.length:Int),_,⟨.t (.sc (.int .i64 (l.length:Int))),[],[(l.length:Int)=((l.map (CT.row X.toSE c)).length:Int)]⟩,rfl,by simp[jZ],rfl,rfl,h⟩
 ·rename_i hk;simp only[hk];exact⟨.none,_,_,rfl,trivial,rfl,rfl,h⟩
 ·rename_i hk;simp only[hk];exact⟨.none,_,_,rfl,trivial,rfl,rfl,h⟩
 ·rename_i hk;simp only[hk];exact⟨.none,_,_,rfl,trivial,rfl,rfl,h⟩
 ·rename_i hk;simp only[hk];exact⟨.none,_,_,rfl,trivial,rfl,rfl,h⟩
 ·cases h
theorem Rc(place:Nat->Option (Nat×Nat)):∀(parts:List (Nat×DV X))(cells ab:List (DV X)),DM place cells parts=some ab->Io place (bJ cells) (parts.map λp=>(p.1,den p.2))=some (bJ ab)
 |[],cells,ab,h=>by simp only[DM,aA]at h;subst h;rfl
 |(j,x)::ag,cells,ab,h=>by
  simp only[DM]at h;rw[ai]at h;obtain⟨⟨aa,size⟩,h1,h⟩:=h;rw[ai]at h;obtain⟨cs,h2,h⟩:=h;split at h
  ·rename_i hl;simp only[aC,Io,h1,Ae h2,ah,lQ];rw[aO hl,<- WL];exact Rc place ag _ _ h
  ·cases h
theorem abY{t:TypeId}{parts:List (Nat×DV X)}(h:VV T t parts k=some r):∃dv ab,VK T t (parts.map λp=>(p.1,den p.2))=some ab/\jZ ab.obs/\ab.v=den dv/\ab.upd=[]/\k dv [] [] []=some r:=by
 unfold VV at h;unfold VK;rw[ai]at h;obtain⟨ti,h1,h⟩:=h;simp only[h1,ah];split at h
 ·rename_i fs hk;split at h
  ·rename_i ha;rw[ai]at h;obtain⟨cells,h2,h⟩:=h;have h3:=Rc _ _ _ _ h2;rw[Af]at h3;refine⟨_,⟨.agg (bJ cells),[],[]⟩,?_,trivial,rfl,rfl,h⟩;simp only[hk];rw[aO ha,h3];rfl
  ·cases h
 ·rename_i m e hk;rw[ai]at h;obtain⟨ei,h2,h⟩:=h;rw[ai]at h;obtain⟨cells,h3,h⟩:=h;have h4:=Rc _ _ _ _ h3;rw[Af]at h4;refine⟨_,⟨.agg (bJ cells),[],[]⟩,?_,trivial,rfl,rfl,h⟩;simp only[hk,h2,ah,h4];rfl
 ·cases h
theorem aaC(size:Nat)(c:CT X.ι)(hs:CT.sz X c=size)(z:List AV):∀(parts:List (Nat×DV X))(n:Nat)(l:List (CT.T X.toSE c))(done:List (List AV)),HK c n parts=some l->done.length=n->
 ∃css:List (List AV),Od size (done++List.replicate parts.length z) (parts.map λp=>(p.1,den p.2))=some (done++css)/\css.map (λ r=>r.map wk)=aL (l.map (CT.row X.toSE c))
 |[],n,l,done,h,_=>by
  simp only[HK,aA]at h;subst h;exact⟨[],by simp[Od],rfl⟩
 |(j,x)::ag,n,l,done,h,hd=>by
  simp only[HK]at h;split at h
  ·rename_i hj;subst hj;have⟨y,h1,h⟩:=ai.1 h;have⟨l',h2,h⟩:=ai.1 h;cases h;have⟨cs,g1,g2⟩:=aiC h1;have hl:cs.length=size:=by
    have:=congrArg List.length g2;simp only[length_map,Dn]at this;omega
   obtain⟨css,i1,i2⟩:=aaC size c hs z ag (j+1) l' (done++[cs]) h2 (by simp[hd]);refine⟨cs::css,?_,?_⟩
   ·simp only[aC,Od,g1,ah];rw[aO ⟨hl,by simp;omega⟩];have:(done++List.replicate (ag.length+1) z).set j cs=done++[cs]++List.replicate ag.length z:=by
     rw[List.set_append_right _ _ (by omega),hd];simp[List.replicate_succ]
    simp only[bE,this,i1];simp
   ·simp only[aC,i2,g2,aL,aC]
  ·cases h
theorem OI{t:TypeId}{len:Nat}{parts:List (Nat×DV X)}(h:JZ T ao i t len parts k=some r):∃dv u ab,wW T i t len (parts.map λp=>(p.1,den p.2))=some ab/\jZ ab.obs/\ab.v=den dv/\ab.upd=gG [(cA i,u)]/\k dv [(cA i,u)] [] []=some r:=by
 unfold JZ at h;unfold wW;rw[ai]at h;obtain⟨ti,h1,h⟩:=h;simp only[h1,ah];split at h
 ·rename_i e hk;rw[ai]at h;obtain⟨ei,h2,h⟩:=h;rw[ai]at h;obtain⟨c,h3,h⟩:=h;simp only[hk,h2,ah];split at h
  ·cases h
  ·rename_i hno;simp only[not_or,Decidable.not_not]at hno;obtain⟨n1,n2,n3,n4⟩:=hno;have⟨l,h4,h⟩:=ai.1 h;have⟨css,g1,g2⟩:=aaC ei.size c n3 (ei.zero.map cv) parts 0 l [] h4 rfl;simp only[bO,n4]at g1;refine⟨_,_,⟨.own (cA i) 0 len,[(cA i,some ⟨ei.size,dV css⟩)],[]⟩,?_,trivial,rfl,?_,h⟩
   ·rw[aN (by simp only[not_or];exact⟨n1,n2⟩),g1];rfl
   ·simp only[gG,bF,aC,map_nil,Option.map_some,n3];rw[show dV css=aL (l.map (CT.row X.toSE c))from g2]
 ·cases h
theorem abZ{e:TypeId}(h:VM T i e k=some r):∃dv u ab,VL T i e=some ab/\jZ ab.obs/\ab.v=den dv/\ab.upd=gG [(cA i,u)]/\k dv [(cA i,u)] [] []=some r:=by
 unfold VM at h;unfold VL;have⟨ti,h1,h⟩:=ai.1 h;exact⟨_,_,⟨_,[(cA i,some ⟨ti.size,[ti.zero.map cv]⟩)],[]⟩,by simp only[h1,ah];rfl,trivial,rfl,by simp[gG,bF,Af],h⟩
theorem af7{x:DV X}(h:SW i x k=some r):∃dv u ab,HO i (den x)=some ab/\jZ ab.obs/\ab.v=den dv/\ab.upd=gG [(cA i,u)]/\k dv [(cA i,u)] [] []=some r:=by
 unfold SW at h;unfold HO;rw[ai]at h;obtain⟨cs,h1,h⟩:=h;exact⟨_,_,⟨_,[(cA i,some ⟨(bJ cs).length,[bJ cs]⟩)],[]⟩,by simp only[Ae h1,ah];rfl,trivial,rfl,by simp[gG,bF,lQ],h⟩
theorem wZ{d n:Int}{x:Option (DV X)}(h:Zx d x=some n):bnd d (x.map den)=some n:=by
 unfold Zx at h;split at h
 ·exact h
 ·exact h
 ·cases h
theorem aaD{l h:Int}{len:Nat}(hh:Ag l h len=true):0<=l/\l<=h/\h<=(len:Int):=by simpa[Ag,and_assoc]using hh
theorem ab0{t:TypeId}{x:DV X}{lo hi:Option (DV X)}(h:VC T t x lo hi get k=some r):∃cw rd dv ab,VN T t (den x) (lo.map den) (hi.map den) cw (dF rd (fC get))=some ab/\jZ ab.obs/\ab.v=den dv/\ab.upd=[]/\k dv [] rd []=some r:=by
 unfold VC at h;unfold VN;rw[ai]at h;obtain⟨ti,h1,h⟩:=h;simp only[h1,ah];split at h
 ·rename_i e hk;rw[ai]at h;obtain⟨ei,h2,h⟩:=h;simp only[hk,h2,ah];split at h
  ·rename_i kk aa len;rw[ai]at h;obtain⟨o,h3,h⟩:=h;split at h
   ·rename_i hs;rw[ai]at h;obtain⟨l,h4,h⟩:=h;rw[ai]at h;obtain⟨hh,h5,h⟩:=h;have⟨h6,h⟩:=dD h;refine⟨.none,[kk],_,⟨.own kk (aa+l.toNat) (hh.toNat -l.toNat),[],[0<=l/\l<=hh/\hh<=(len:Int)]⟩,?_,aaD h6,rfl,rfl,h⟩;simp only[den,dO (List.mem_singleton_self kk) h3,ah];rw[aO hs,wZ h4,ah,wZ h5];rfl
   ·cases h
  ·rename_i c xs;split at h
   ·rename_i hs;have⟨l,h4,h⟩:=ai.1 h;have⟨hh,h5,h⟩:=ai.1 h;have⟨h6,h⟩:=dD h;refine⟨.yf ((sub xs l.toNat (hh.toNat -l.toNat)).map (CT.row X.toSE c)),[],_,⟨.t (.sl ((sub xs l.toNat (hh.toNat -l.toNat)).map (CT.row X.toSE c))),[],[0<=l/\l<=hh/\hh<=((xs.map (CT.row X.toSE c)).length:Int)/\(sub xs l.toNat (hh.toNat -l.toNat)).map (CT.row X.toSE c)=((xs.map (CT.row X.toSE c)).drop l.toNat).take (hh.toNat -l.toNat)/\(∀ q∈xs.map (CT.row X.toSE c),q.length=ei.size)]⟩,?_,?_,rfl,rfl,h⟩
    ·simp only[den,CT.tv,TV.av,wZ h4,ah];have h7:bnd ((xs.map (CT.row X.toSE c)).length:Int) (hi.map den)=some hh:=by
      have:=wZ h5;simpa using this
     rw[h7];rfl
    ·have⟨a1,a2,a3⟩:=aaD h6;refine⟨a1,a2,by simpa using a3,by simp[sub,map_take,map_drop],λq hq=>?_⟩;obtain⟨y,_,rfl⟩:=mem_map.1 hq;rw[Dn];exact hs
   ·cases h
  ·cases h
 ·cases h
end
section
variable {X:SX} {A:Type} {T:dC} {ao:TypeId->Option (CT X.ι)} {get:Nat->Option (bu X)} {k:KK X A} {r:A} {i:Nat}
theorem jm{b c:CT X.ι}{l:List (CT.T X.toSE b)}{l':List (CT.T X.toSE c)}(h:gB (.sl b) (.sl c) l=some l'):CT.sz X b=CT.sz X c/\l.map (CT.row X.toSE b)=l'.map (CT.row X.toSE c):=by
 have⟨e,h⟩:=mG h;cases e;subst h;exact⟨rfl,rfl⟩
theorem adI{y:DV X}{c:CT X.ι}{n:Nat}{l:List (CT.T X.toSE c)}{rd:List Nat}(h:SU y c get=some (n,l,rd))(hl:l.length=n)(rd':List Nat)(hrd:∀j∈rd,j∈rd'):
 ∃ob,VO (CT.sz X c) (den y) (dF rd' (fC get))=some (n,ob,aL (l.map (CT.row X.toSE c)))/\ob:=by
 unfold SU at h;split at h
 ·rename_i kk aa len;rw[ai]at h;obtain⟨o,h1,h⟩:=h;split at h
  ·rename_i b l0;rw[ai]at h;obtain⟨l1,h2,h⟩:=h;injection h with h;simp only[Prod.mk.injEq]at h;obtain⟨rfl,rfl,rfl⟩:=h;have⟨h3,h4⟩:=jm h2;refine⟨True,?_,trivial⟩;simp only[den,VO,dO (hrd kk (by simp)) h1,ah,bF];rw[aO h3];simp only[h4,aA,Prod.mk.injEq,true_and];simp[aL,sub,map_take,map_drop]
  ·cases h
 ·rename_i b l0;have⟨l1,h2,h⟩:=ai.1 h;injection h with h;simp only[Prod.mk.injEq]at h;obtain⟨rfl,rfl,rfl⟩:=h;refine⟨∀ q∈l1.map (CT.row X.toSE c),q.length=CT.sz X c,?_,?_⟩
  ·rw[(iT h2).1];simp only[den,CT.tv,TV.av,VO,length_map]
  ·intro q hq;obtain⟨z,_,rfl⟩:=mem_map.1 hq;exact Dn c z
 ·cases h
theorem WQ{lo len ln n bytes:Nat}(h:bW lo len ln n bytes=true):lo=len/\ln=n/\(len+n)*bytes<=140737488355328/\len+n<=maxLen:=by simpa[bW,and_assoc]using h
theorem pb{α:Type}(n:Nat)(l:List α):WJ n l=l.drop n:=by cases n<;>rfl
theorem Zy{t:TypeId}{x y:DV X}(h:Wg T ao i t x y get k=some r):∃cw rd wr dv upd ab,Cm T i t (den x) (den y) cw (dF rd (fC get))=some ab/\jZ ab.obs/\ab.v=den dv/\ab.upd=gG upd/\(∀ p∈upd,p.1=cA i\/p.1∈wr)/\k dv upd rd wr=some r:=by
 unfold Wg at h;unfold Cm;rw[ai]at h;obtain⟨ti,h1,h⟩:=h;simp only[h1,ah];split at h
 ·rename_i e hk;rw[ai]at h;obtain⟨ei,h2,h⟩:=h;rw[ai]at h;obtain⟨c,h3,h⟩:=h;simp only[hk,h2,ah];split at h
  ·rename_i hs;rw[ai]at h;obtain⟨⟨n,l,rd⟩,h4,h⟩:=h;split at h
   ·rename_i kk aa len;rw[ai]at h;obtain⟨o,h5,h⟩:=h;split at h
    ·rename_i b l0;have⟨l1,h6,h⟩:=ai.1 h;have⟨h7,h⟩:=dD h;rw[pb]at h7 h;have hd:(aL (l1.map (CT.row X.toSE c))).drop aa=aL ((l1.drop aa).map (CT.row X.toSE c)):=(by simp[aL]);have⟨g1,g2,g3,g4⟩:=WQ h7;have⟨h8,h9⟩:=jm h6;obtain⟨ob,i1,i2⟩:=adI h4 g2 (kk::rd) (λ j hj=>by simp[hj]);have i3:=dO (rd:=kk::rd) (by simp) h5
     refine⟨.rows (aL ((l1.drop aa++l).map (CT.row X.toSE c))),kk::rd,[kk],_,_,⟨.own (cA i) 0 (aL ((l1.drop aa++l).map (CT.row X.toSE c))).length,[(cA i,some ⟨ei.size,aL ((l1.drop aa++l).map (CT.row X.toSE c))⟩),(kk,none)],
      [ob/\(aL ((l1.drop aa).map (CT.row X.toSE c))).length=len/\(aL (l.map (CT.row X.toSE c))).length=n/\aL ((l1.drop aa++l).map (CT.row X.toSE c))=aL ((l1.drop aa).map (CT.row X.toSE c))++aL (l.map (CT.row X.toSE c))/\(len+n)*ei.bytes<=140737488355328/\len+n<=maxLen]⟩,?_,?_,?_,?_,?_,h⟩
     ·rw[hs]at i1;simp only[i1,ah,den,i3,bF,h9,hd];rw[aO (by rw[h8,hs])]
     ·exact⟨i2,by simpa[aL]using g1,by simpa[aL]using g2,by simp[aL],g3,g4⟩
     ·simp[den,aL]
     ·simp[gG,bF,hs]
     ·intro p hp;simp only[aM,jA,or_false]at hp;rcases hp with rfl |rfl
      ·exact .inl rfl
      ·exact .inr (by simp)
    ·cases h
   ·have⟨h7,h⟩:=dD h;have⟨g1,g2,g3,g4⟩:=WQ h7;obtain⟨ob,i1,i2⟩:=adI h4 g2 rd (λ j hj=>hj)
    refine⟨.rows (aL (l.map (CT.row X.toSE c))),rd,[],_,_,⟨.own (cA i) 0 (aL (l.map (CT.row X.toSE c))).length,[(cA i,some ⟨ei.size,aL (l.map (CT.row X.toSE c))⟩)],
     [ob/\(aL (l.map (CT.row X.toSE c))).length=n/\aL (l.map (CT.row X.toSE c))=aL (l.map (CT.row X.toSE c))/\n*ei.bytes<=140737488355328/\n<=maxLen]⟩,?_,?_,?_,?_,?_,h⟩
    ·rw[hs]at i1;simp only[i1,ah,den]
    ·exact⟨i2,by simpa[aL]using g2,rfl,by simpa using g3,by simpa using g4⟩
    ·simp[den,aL]
    ·simp[gG,bF,hs]
    ·intro p hp;simp only[aM,jA,or_false]at hp;rcases hp with rfl;exact .inl rfl
   ·cases h
  ·cases h
 ·cases h
def anS(T:dC)(i:Nat)(o:Oper)(ρ:Operand->DV X)(get:Nat->Option (bu X))(k:KK X A)(r:A):Prop:=
 ∃cw rd wr dv upd ab,qG T i o cw (λ x=>den (ρ x)) (dF rd (fC get))=some ab/\jZ ab.obs/\ab.v=den dv/\ab.upd=gG upd/\(∀ p∈upd,p.1=cA i\/p.1∈wr)/\k dv upd rd wr=some r
theorem WR{b:Builtin}{args:List (DV X)}{cW:List TypeId}(h:WK T ao i b args cW get k=some r):∃cw rd wr dv upd ab,EQ T i b (bJ args) cW cw (dF rd (fC get))=some ab/\jZ ab.obs/\ab.v=den dv/\ab.upd=gG upd/\(∀ p∈upd,p.1=cA i\/p.1∈wr)/\k dv upd rd wr=some r:=by
 unfold WK at h;unfold EQ;split at h
 ·have⟨cw,dv,ab,h1,h2,h3,h4,h5⟩:=af6 h;exact⟨cw,[],[],dv,[],ab,h1,h2,h3,h4,by simp,h5⟩
 ·have⟨dv,ab,h1,h2,h3,h4,h5⟩:=aaB h;exact⟨.none,[],[],dv,[],ab,h1,h2,h3,h4,by simp,h5⟩
 ·have⟨dv,ab,h1,h2,h3,h4,h5⟩:=aaB h;exact⟨.none,[],[],dv,[],ab,h1,h2,h3,h4,by simp,h5⟩
 ·split at h
  ·rename_i htu;have⟨cw,rd,wr,dv,upd,ab,h1,h2⟩:=Zy h;refine⟨cw,rd,wr,dv,upd,ab,?_,h2⟩;simp only[bJ];rw[aO htu];exact h1
  ·cases h
 ·cases h
theorem Vl(ρ:Operand->DV X)(l:List Operand):l.map (λ x=>den (ρ x))=bJ (l.map ρ):=by rw[ou,map_map];rfl
theorem aaE{o:Oper}{ρ:Operand->DV X}(h:Iv T ao i o.op ρ get k=some r):anS T i o ρ get k r:=by
 obtain⟨dst,op,ty,aw,after,guard⟩:=o;unfold anS qG;simp only at h;unfold Iv at h;split at h
 ·exact⟨.none,[],[],_,[],_,rfl,trivial,rfl,rfl,by simp,h⟩
 ·exact⟨.none,[],[],_,[],_,rfl,trivial,rfl,rfl,by simp,h⟩
 ·rename_i c a b;split at h
  ·rename_i t hc;refine⟨.none,[],[],_,[],⟨H0 t (den (ρ a)) (den (ρ b)),[],[]⟩,?_,trivial,(aiA t _ _).symm,rfl,by simp,h⟩;simp only[hc,den,CT.tv,TV.av,pv]
  ·cases h
 ·have⟨dv,u,ab,h1,h2,h3,h4,h5⟩:=abZ h;exact⟨.none,[],[],dv,_,ab,h1,h2,h3,h4,by simp,h5⟩
 ·have⟨dv,u,ab,h1,h2,h3,h4,h5⟩:=af7 h;exact⟨.none,[],[],dv,_,ab,h1,h2,h3,h4,by simp,h5⟩
 ·rename_i t parts;have⟨dv,ab,h1,h2,h3,h4,h5⟩:=abY h;refine⟨.none,[],[],dv,[],ab,?_,h2,h3,h4,by simp,h5⟩;rw[map_map]at h1;exact h1
 ·rename_i t len parts;have⟨dv,u,ab,h1,h2,h3,h4,h5⟩:=OI h;refine⟨.none,[],[],dv,_,ab,?_,h2,h3,h4,by simp,h5⟩;rw[map_map]at h1;exact h1
 ·have⟨cw,rd,dv,ab,h1,h2,h3,h4,h5⟩:=aiB h;exact⟨cw,rd,[],dv,[],ab,h1,h2,h3,h4,by simp,h5⟩
 ·have⟨cw,kk,u,ab,h1,h2,h3,h4,h5⟩:=aiD h;exact⟨cw,[kk],[kk],.undef,_,ab,h1,h2,h3,h4,by simp,h5⟩
 ·have⟨dv,ab,h1,h2,h3,h4,h5⟩:=af5 h;exact⟨.none,[],[],dv,[],ab,h1,h2,h3,h4,by simp,h5⟩
 ·have⟨dv,ab,h1,h2,h3,h4,h5⟩:=aiE h;exact⟨.none,[],[],dv,[],ab,h1,h2,h3,h4,by simp,h5⟩
 ·rename_i f first caps
  refine⟨.none,[],[],_,[],⟨.fn f (first.toList.map λx=>den (ρ x)) (caps.toList.map λx=>den (ρ x)),[],[]⟩,rfl,trivial,?_,rfl,by simp,h⟩;simp only[den,Vl]
 ·rename_i t x lo hi;have⟨cw,rd,dv,ab,h1,h2,h3,h4,h5⟩:=ab0 h;refine⟨cw,rd,[],dv,[],ab,?_,h2,h3,h4,by simp,h5⟩;simp only[Option.map_map]at h1;exact h1
 ·have⟨dv,ab,h1,h2,h3,h4,h5⟩:=Ra h;exact⟨.none,[],[],dv,[],ab,h1,h2,h3,h4,by simp,h5⟩
 ·have⟨dv,ab,h1,h2,h3,h4,h5⟩:=abW h;exact⟨.none,[],[],dv,[],ab,h1,h2,h3,h4,by simp,h5⟩
 ·have⟨cw,rd,dv,ab,h1,h2,h3,h4,h5⟩:=Rb h;exact⟨cw,rd,[],dv,[],ab,h1,h2,h3,h4,by simp,h5⟩
 ·have⟨dv,ab,h1,h2,h3,h4,h5⟩:=WO h;exact⟨.none,[],[],dv,[],ab,h1,h2,h3,h4,by simp,h5⟩
 ·rename_i b args cW;have⟨cw,rd,wr,dv,upd,ab,h1,h2⟩:=WR h;refine⟨cw,rd,wr,dv,upd,ab,?_,h2⟩;simp only[Vl];exact h1
 ·cases h
end
inductive Pt(ι:Type) where
 |v (c:CT ι)
 |o (k:Nat)
 |p (k:Nat)
 |nil
 |f (F:FuncId) (fs cs:List (Pt ι))
 |od (k:Nat)
 |mp (k:Nat)
 |oz (k:Nat)
 |a (ps:List (Pt ι))
inductive OP(ι:Type) where
 |l (c:CT ι)
 |m (k v:CT ι)
 |c (sz:Nat) (rows:List (List (Pt ι)))
section
variable {ι:Type}
mutual
def Pt.vars:Pt ι->List (CT ι)
 | .v c=>[c]
 | .a ps=>cL ps
 | .f _ fs cs=>cL fs++cL cs
 | .od _=>[.int .i64]
 |_=>[]
def cL:List (Pt ι)->List (CT ι)
 |[]=>[]
 |p::ps=>p.vars++cL ps
end
def ie:List (Nat×Pt ι)->List (CT ι)
 |[]=>[]
 |p::ps=>p.2.vars++ie ps
def xg:List (List (Pt ι))->List (CT ι)
 |[]=>[]
 |r::rs=>cL r++xg rs
def cE:List (Nat×OP ι)->List (CT ι)
 |[]=>[]
 |(_,.l c)::r=> .sl c::cE r
 |(_,.m k v)::r=> .mp k v::cE r
 |(_,.c _ rows)::r=>xg rows++cE r
end
section
variable {X:SX}
structure DC(X:SX) where
 c:CT X.ι
 x:CT.T X.toSE c
@[reducible] def VT:List (CT X.ι)->Type
 |[]=>Unit
 |[c]=>CT.T X.toSE c
 |c::c'::l=>CT.T X.toSE c×VT (c'::l)
def Zz:(l:List (CT X.ι))->List (DC X)->Option (VT (X:=X) l)
 |[],[]=>some ()
 |[c],[d]=>gB d.c c d.x
 |c::c'::l,d::ds=>(gB d.c c d.x).bind λx=>(Zz (c'::l) ds).bind λv=>some (x,v)
 |_,_=>none
def xh:(l:List (CT X.ι))->VT (X:=X) l->List (DC X)
 |[],_=>[]
 |[c],x=>[⟨c,x⟩]
 |c::c'::l,v=>⟨c,v.1⟩::xh (c'::l) v.2
theorem adJ{d:DC X}{c:CT X.ι}{x:CT.T X.toSE c}(h:gB d.c c d.x=some x):(⟨c,x⟩:DC X)=d:=by
 obtain⟨a,y⟩:=d;have⟨e,h⟩:=mG h;simp only at e;subst e;subst h;rfl
theorem WS:∀{l:List (CT X.ι)}{ds:List (DC X)}{v:VT (X:=X) l},Zz l ds=some v->xh l v=ds
 |[],[],_,_=>rfl
 |[c],[d],v,h=>by simp only[Zz]at h;simp only[xh,adJ h]
 |c::c'::l,d::ds,v,h=>by
  simp only[Zz]at h;rw[ai]at h;obtain⟨x,h1,h⟩:=h;rw[ai]at h;obtain⟨v',h2,h⟩:=h;cases h;simp only[xh,adJ h1,WS h2]
 |[],_::_,_,h=>by simp[Zz]at h
 |[_],[],_,h=>by simp[Zz]at h
 |[_],_::_::_,_,h=>by simp[Zz]at h
 |_::_::_,[],_,h=>by simp[Zz]at h
theorem WT{c:CT X.ι}(x:CT.T X.toSE c):gB c c x=some x:=by
 unfold gB;split
 ·rfl
 ·rename_i h _;exact absurd rfl h
def D4(d:DC X):Nat:=match gB d.c (.int .i64) d.x with |some x=>Int.toNat x |none=>0
section
variable (dt:Nat->Nat)
mutual
def eP:Pt X.ι->List (DC X)->DV X×List (DC X)
 | .v _,L=>match L with
  |d::r=>(.c d.c d.x,r)
  |[]=>(.undef,[])
 | .o k,L=>(.own k 0 (dt k),L)
 | .p k,L=>(.ptr k 0 0,L)
 | .mp k,L=>(.mp k,L)
 | .oz k,L=>(.oz k (dt k),L)
 | .nil,L=>(.nil,L)
 | .f F fs cs,L=>(.fn F (lp fs L).1 (lp cs (lp fs L).2).1,(lp cs (lp fs L).2).2)
 | .od k,L=>match L with
  |d::r=>(.own k (D4 d) (dt k -D4 d),r)
  |[]=>(.undef,[])
 | .a ps,L=>(.agg (lp ps L).1,(lp ps L).2)
def lp:List (Pt X.ι)->List (DC X)->List (DV X)×List (DC X)
 |[],L=>([],L)
 |p::ps,L=>((eP p L).1::(lp ps (eP p L).2).1,(lp ps (eP p L).2).2)
end
def Nf:List (Nat×Pt X.ι)->List (DC X)->List (Nat×DV X)
 |[],_=>[]
 |(t,p)::r,L=>(t,(eP dt p L).1)::Nf r (eP dt p L).2
def xk:List (List (Pt X.ι))->List (DC X)->List (List (DV X))×List (DC X)
 |[],L=>([],L)
 |r::rs,L=>((lp dt r L).1::(xk rs (lp dt r L).2).1,(xk rs (lp dt r L).2).2)
def bZ:List (Nat×OP X.ι)->List (DC X)->List (Nat×Option (bu X))
 |[],_=>[]
 |(k,.l _)::r,L=>match L with
  |⟨.sl c',x⟩::L=>(k,some (.de c' x))::bZ r L
  |_=>[]
 |(k,.m _ _)::r,L=>match L with
  |⟨.mp kc vc,x⟩::L=>(k,some (.map kc vc x))::bZ r L
  |_=>[]
 |(k,.c sz rows)::r,L=>(k,some (.cells sz (xk dt rows L).1))::bZ r (xk dt rows L).2
end
def lens:List (Nat×OP X.ι)->List (DC X)->List (Nat×Nat)
 |[],_=>[]
 |(k,.l _)::r,L=>match L with
  |⟨.sl _,x⟩::L=>(k,List.length x)::lens r L
  |_=>[]
 |(_,.m _ _)::r,L=>lens r (L.drop 1)
 |(_,.c _ rows)::r,L=>lens r (L.drop (xg rows).length)
def lr:Nat->List (Pt X.ι)->List (Nat×Pt X.ι)
 |_,[]=>[]
 |n,p::ps=>(n,p)::lr (n+1) ps
theorem Rf:∀(n:Nat)(ps:List (Pt X.ι)),ie (lr n ps)=cL ps
 |_,[]=>rfl
 |n,p::ps=>by simp only[lr,ie,cL,Rf (n+1) ps]
structure cT(X:SX) where
 pn:List (Pt X.ι)
 iz:List (Nat×OP X.ι)
 fy:List (Pt X.ι)
 ix:List (Nat×OP X.ι)
 fn:VT (X:=X) (cL pn++cE iz)->Option (VT (X:=X) (ie (lr 0 fy)++cE ix))
def Dp(O:List (Nat×OP X.ι))(L:List (DC X))(k:Nat):Nat:=(lk (lens O L) k).getD 0
def WU(ps:List (Pt X.ι))(O:List (Nat×OP X.ι))(L:List (DC X)):List (DV X):=(lp (Dp O (L.drop (cL ps).length)) ps (L.take (cL ps).length)).1
def H2(ps:List (Pt X.ι))(O:List (Nat×OP X.ι))(L:List (DC X)):List (Nat×Option (bu X)):=bZ (Dp O (L.drop (cL ps).length)) O (L.drop (cL ps).length)
def Aj:List (DV X)->DV X
 |[d]=>d
 |ds=> .fh ds
def cZ:List (Nat×Option (bu X))->List (Nat×bu X)
 |[]=>[]
 |(k,some o)::r=>(k,o)::cZ r
 |(_,none)::r=>cZ r
def ul(l:List (Nat×bu X)):List (Nat×aU):=l.map λp=>(p.1,bF p.2)
def cT.args(g:cT X)(v:VT (X:=X) (cL g.pn++cE g.iz)):List (DV X):=WU g.pn g.iz (xh _ v)
def cT.cI(g:cT X)(v:VT (X:=X) (cL g.pn++cE g.iz)):List (Nat×bu X):=cZ (H2 g.pn g.iz (xh _ v))
def cT.res(g:cT X)(r:VT (X:=X) (ie (lr 0 g.fy)++cE g.ix)):DV X:=Aj (WU g.fy g.ix (xh _ r))
def cT.outs(g:cT X)(r:VT (X:=X) (ie (lr 0 g.fy)++cE g.ix)):List (Nat×bu X):=cZ (H2 g.fy g.ix (xh _ r))
def HJ(P:Program)(f:FuncId)(g:cT X):Prop:=∀v r,g.fn v=some r->CA P f (bJ (g.args v)) ((g.cI v).map λp=>bF p.2) (ul (g.outs r)) (den (g.res r))
end
inductive AT(ι:Type) where
 |d (c:CT ι)
 |ref (c:CT ι)
 |cV (as:List (CT ι)) (r:CT ι)
 |mut (c:CT ι)
 |fm (c:CT ι)
 |nil
 deriving DecidableEq
def AT.im{ι:Type}:AT ι->Bool
 | .mut _ | .fm _=>true
 |_=>false
def AT.pl{ι:Type}:AT ι->Bool
 | .mut _ | .fm _ | .nil=>false
 |_=>true
inductive RT(ι:Type) where
 |d (c:CT ι)
 |fresh (e:CT ι)
 |whole (j:Nat)
 |mu (c:CT ι)
 |mr (c:CT ι)
 |mv
def RT.out{ι:Type}:RT ι->Bool
 | .mu _ | .mr _ | .mv=>true
 |_=>false
section
variable (X:SX)
@[reducible] def AT.T:AT X.ι->Type
 | .d c=>CT.T X.toSE c
 | .ref c=>CT.T X.toSE c
 | .cV as r=>HL X.toSE as->Option (CT.T X.toSE r)
 | .mut c=>List (CT.T X.toSE c)
 | .fm c=>CT.T X.toSE c
 | .nil=>Unit
@[reducible] def RT.T:RT X.ι->Type
 | .d c=>CT.T X.toSE c
 | .fresh e=>List (CT.T X.toSE e)
 | .whole _=>Unit
 | .mu c=>List (CT.T X.toSE c)
 | .mr c=>CT.T X.toSE c
 | .mv=>Unit
@[reducible] def jf:List (AT X.ι)->Type
 |[]=>Unit
 |a::l=>AT.T X a×jf l
@[reducible] def uh:List (RT X.ι)->Type
 |[]=>Unit
 |[r]=>RT.T X r
 |r::r'::l=>RT.T X r×uh (r'::l)
structure b9 where
 args:List (AT X.ι)
 res:List (RT X.ι)
 fn:jf X args->Option (uh X res)
 gen:Option (cT X):=none
variable {X}
def dP:Nat->(l:List (AT X.ι))->jf X l->List AV
 |_,[],_=>[]
 |n,.d c::l,a=>(CT.tv X.toSE c a.1).av::dP n l a.2
 |n,.ref c::l,a=> .eo (CT.row X.toSE c a.1) 0::dP n l a.2
 |n,.cV as r::l,a=>den (.cV as r a.1:DV X)::dP n l a.2
 |n,.mut _::l,a=> .own n 0 (List.length a.1)::dP (n+1) l a.2
 |n,.fm _::l,a=> .ptr n 0 0::dP (n+1) l a.2
 |n,.nil::l,a=> .cN::dP n l a.2
abbrev Ak(l:List (AT X.ι))(a:jf X l):List AV:=dP 0 l a
def sK(c:CT X.ι)(l:List (CT.T X.toSE c)):fe:=(CT.sz X c,l.map (CT.row X.toSE c))
def qL:(l:List (AT X.ι))->jf X l->List fe
 |[],_=>[]
 | .mut c::l,a=>sK c a.1::qL l a.2
 | .fm c::l,a=>sK c [a.1]::qL l a.2
 | .d _::l,a=>qL l a.2
 | .ref _::l,a=>qL l a.2
 | .cV _ _::l,a=>qL l a.2
 | .nil::l,a=>qL l a.2
def qM:(r:RT X.ι)->RT.T X r->List (Option fe)
 | .mu c,x=>[some (sK c x)]
 | .mr c,x=>[some (sK c [x])]
 | .mv,_=>[none]
 |_,_=>[]
def ow:(l:List (RT X.ι))->uh X l->List (Option fe)
 |[],_=>[]
 |[r],x=>qM r x
 |r::r'::l,x=>qM r x.1++ow (r'::l) x.2
def ZA:(r:RT X.ι)->RT.T X r->List Nat
 | .mu _,x=>[List.length x]
 | .mr _,_=>[1]
 | .mv,_=>[0]
 |_,_=>[]
def wd:(l:List (RT X.ι))->uh X l->List Nat
 |[],_=>[]
 |[r],x=>ZA r x
 |r::r'::l,x=>ZA r x.1++wd (r'::l) x.2
def WV(ns:List Nat):(r:RT X.ι)->RT.T X r->List RC
 | .d c,x=>[.d (CT.tv X.toSE c x)]
 | .fresh e,l=>[.fresh (CT.sz X e) (l.map (CT.row X.toSE e))]
 | .whole j,_=>[.whole j (ns.getD j 0)]
 |_,_=>[]
def Dq(ns:List Nat):(l:List (RT X.ι))->uh X l->List RC
 |[],_=>[]
 |[r],x=>WV ns r x
 |r::r'::l,x=>WV ns r x.1++Dq ns (r'::l) x.2
def um(l:List (RT X.ι))(x:uh X l):RV:=
 match Dq (wd l x) l x with
 |[c]=> .one c
 |cs=> .fh cs
def rI(P:Program)(Γ:FuncId->Option (b9 X)):Prop:=
 ∀f s,Γ f=some s->iM P f/\(∀ a r,s.fn a=some r->rK P f (Ak s.args a) (qL s.args a) (ow s.res r) (um s.res r))/\∀g,s.gen=some g->HJ P f g
theorem anT:∀{l:List (AT X.ι)},(l.all λq=>q.pl)=true->(l.all λq=>!q.im)=true:=λ{l} h=>by
 rw[all_eq_true]at h ⊢;intro q hq;have:=h q hq;cases q<;>simp_all [AT.pl,AT.im]
theorem Al:∀{l:List (AT X.ι)}{a:jf X l},(l.all λq=>!q.im)=true->qL l a=[]
 |[],_,_=>rfl
 | .d _::l,a,h=>Al (l:=l) (by simpa[AT.im]using h)
 | .ref _::l,a,h=>Al (l:=l) (by simpa[AT.im]using h)
 | .cV _ _::l,a,h=>Al (l:=l) (by simpa[AT.im]using h)
 | .mut _::l,a,h=>by simp[AT.im]at h
 | .fm _::l,a,h=>by simp[AT.im]at h
 | .nil::l,a,h=>Al (l:=l) (by simpa[AT.im]using h)
theorem adL{r:RT X.ι}{x:RT.T X r}(h:(!r.out)=true):qM r x=[]:=by cases r<;>first |rfl |simp[RT.out]at h
theorem adM:∀{l:List (RT X.ι)}{x:uh X l},(l.all λq=>!q.out)=true->ow l x=[]
 |[],_,_=>rfl
 |[r],x,h=>adL (by simpa using h)
 |r::r'::l,x,h=>by
  simp only[all_cons,aJ]at h;simp only[ow,adL h.1,bO];exact adM (l:=r'::l) (by simp only[all_cons,aJ];exact h.2)
mutual
def bo:DV X->List Nat
 | .own k _ _=>[k]
 | .ptr k _ _=>[k]
 | .p0 k _ _=>[k]
 | .rm k _ _ _ _=>[k]
 | .mp k=>[k]
 | .oz k _=>[k]
 | .agg cs=>aS cs
 | .fh cs=>aS cs
 | .fn _ first caps=>aS first++aS caps
 |_=>[]
def aS:List (DV X)->List Nat
 |[]=>[]
 |x::xs=>bo x++aS xs
end
theorem Gv(c:CT X.ι)(x:CT.T X.toSE c):refs (CT.tv X.toSE c x).av=[]:=by
 cases c<;>try rfl
 rename_i i;show eG ((X.row i x).map AV.t)=[];generalize X.row i x=l
 induction l with
 |nil=>rfl
 |cons y ys ih=>simp only[aC,eG,refs,ih,bO]
mutual
theorem iU:∀x:DV X,refs (den x)=bo x
 | .c t x=>Gv t x
 | .agg cs=>by simp only[den,refs,bo,iy cs]
 | .fh cs=>by simp only[den,refs,bo,iy cs]
 | .own _ _ _=>rfl
 | .ptr _ _ _=>rfl
 | .p0 _ _ _=>rfl
 | .mp _=>rfl
 | .oz _ _=>rfl
 | .rm _ _ _ _ _=>rfl
 | .rp _ _ _=>rfl
 | .vd _ _ _ _ _=>rfl
 | .fn f first caps=>by simp only[den,refs,bo,iy first,iy caps]
 | .cV _ _ _=>rfl
 | .raw v=>by
  simp only[den,bo,cv];split
  ·rfl
  ·split<;>rfl
 | .nil=>rfl
 | .ub=>rfl
 | .skip=>rfl
 | .undef=>rfl
theorem iy:∀l:List (DV X),eG (bJ l)=aS l
 |[]=>rfl
 |x::xs=>by simp only[bJ,eG,aS,iU x,iy xs]
end
def Tn(get:Nat->Option (bu X))(d:DV X)(c:CT X.ι):Option (CT.T X.toSE c×List Bool):=
 match d,c with
 | .own kk aa len,.sl e=>(get kk).bind λo=>match o with
  | .de b l=>(gB (.sl b) (.sl e) l).bind λ(l:List (CT.T X.toSE e))=>some (sub l aa len,[bm (sub l aa len).length len])
  |_=>none
 | .own kk aa len,.any=>(get kk).bind λo=>match o with
  | .de b l=>some (.sl (List.map (CT.row X.toSE b) (sub l aa len)),[bm (sub l aa len).length len])
  |_=>none
 | .oz kk len,.sl e=>(get kk).bind λo=>match o with
  | .de b l=>(gB (.sl b) (.sl e) l).bind λ(l:List (CT.T X.toSE e))=>some (sub l 0 len,[bm (sub l 0 len).length len])
  |_=>none
 |d,c=>(Ma d c).bind λx=>some (x,[])
def yx(get:Nat->Option (bu X)):List (DV X)->(l:List (CT X.ι))->Option (HL X.toSE l×List Bool)
 |[],[]=>some ((),[])
 |d::ds,c::l=>(Tn get d c).bind λx=>(yx get ds l).bind λh=>some ((x.1,h.1),x.2++h.2)
 |_,_=>none
def D3(get:Nat->Option (bu X))(d:DV X)(i:X.ι):Option (CT.T X.toSE (.st i)×List Bool):=
 match d with
 | .agg cs=>(yx get cs (X.cW i)).bind λh=>some (X.make i h.1,h.2)
 | .c a x=>(gB a (.st i) x).bind λx=>some (x,[])
 |_=>none
def Iu(get:Nat->Option (bu X))(d:DV X)(c:CT X.ι):Option (CT.T X.toSE c×List Bool):=
 match c with
 | .st i=>D3 get d i
 |c=>Tn get d c
def TC(get:Nat->Option (bu X))(d:DV X)(c:CT X.ι):Option (CT.T X.toSE c):=
 match d with
 | .ptr kk row 0=>(get kk).bind λo=>match o with
  | .cells _ rows=>(rows[row]?).bind λq=>if q.all (λ x=>match x with | .c _ _=>true |_=>false)then OE c q else none
  |_=>none
 | .rp a x 0=>gB a c x
 |_=>none
def tz:(l l':List (AT X.ι))->jf X l->jf X l'->jf X (l++l')
 |[],_,_,b=>b
 |_::l,l',a,b=>(a.1,tz l l' a.2 b)
def hlA:(as:List (CT X.ι))->HL X.toSE as->jf X (as.map AT.d)
 |[],_=>()
 |_::l,h=>(h.1,hlA l h.2)
def qN:List (AT X.ι)->Nat
 |[]=>0
 |q::l=>(if q.im then 1 else 0)+qN l
theorem lT:∀(n:Nat)(l l':List (AT X.ι))(a:jf X l)(b:jf X l'),dP n (l++l') (tz l l' a b)=dP n l a++dP (n+qN l) l' b
 |n,[],_,_,_=>rfl
 |n,.d c::l,l',a,b=>by simp[dP,tz,lT n l l' a.2 b,qN,AT.im]
 |n,.ref c::l,l',a,b=>by simp[dP,tz,lT n l l' a.2 b,qN,AT.im]
 |n,.cV as r::l,l',a,b=>by simp[dP,tz,lT n l l' a.2 b,qN,AT.im]
 |n,.mut c::l,l',a,b=>by simp[dP,tz,lT (n+1) l l' a.2 b,qN,AT.im,Nat.add_assoc]
 |n,.fm c::l,l',a,b=>by simp[dP,tz,lT (n+1) l l' a.2 b,qN,AT.im,Nat.add_assoc]
 |n,.nil::l,l',a,b=>by simp[dP,tz,lT n l l' a.2 b,qN,AT.im]
theorem Rh:∀(n:Nat)(as:List (CT X.ι))(h:HL X.toSE as),dP n (as.map AT.d) (hlA as h)=(HL.nq X.toSE as h).map TV.av
 |_,[],_=>rfl
 |n,c::l,h=>congrArg ((CT.tv X.toSE c h.1).av:: ·) (Rh n l h.2)
def amQ{a b:CT X.ι}(h:a=b)(o:Option (CT.T X.toSE a)):Option (CT.T X.toSE b):=h ▸ o
def kD(get:Nat->Option (bu X))(pd:FuncId->List (DV X)->List (DV X)->(as:List (CT X.ι))->(r:CT X.ι)->Option ((HL X.toSE as->Option (CT.T X.toSE r))×List Bool)):List (DV X)->(l:List (AT X.ι))->Option (jf X l×List Bool)
 |[],[]=>some ((),[])
 |d::ds,.d c::l=>(Iu get d c).bind λx=>(kD get pd ds l).bind λh=>some ((x.1,h.1),x.2++h.2)
 |d::ds,.ref c::l=>(TC get d c).bind λx=>(kD get pd ds l).bind λh=>some ((x,h.1),h.2)
 |d::ds,.cV as r::l=>(match d with
  | .cV as' r' φ=>if h:as'=as/\r'=r then some (λ x=>amQ h.2 (φ (h.1 ▸ x)),[])else none
  | .fn f first caps=>pd f first caps as r
  |_=>none).bind λφ=>(kD get pd ds l).bind λq=>some ((φ.1,q.1),φ.2++q.2)
 |_,_=>none
def Tp(Γ:FuncId->Option (b9 X))(get:Nat->Option (bu X)):Nat->List (DV X)->(l:List (AT X.ι))->Option (jf X l×List Bool)
 | 0,ds,l=>kD get (λ _ _ _ _ _=>none) ds l
 |n+1,ds,l=>kD get (λ f first caps as r=>(Γ f).bind λs=>match s with
   |⟨sa,[.d r'],fn,_⟩=>
    if h:r'=r/\sa=sa.take first.length++(as.map AT.d++sa.drop (first.length+as.length))then
     (Tp Γ get n first (sa.take first.length)).bind λhf=>(Tp Γ get n caps (sa.drop (first.length+as.length))).bind λhc=>
      some (λ x=>amQ h.1 (fn (h.2 ▸ tz _ _ hf.1 (tz _ _ (hlA as x) hc.1))),hf.2++hc.2)
    else none
   |_=>none) ds l
section
variable {P:Program} {Γ:FuncId->Option (b9 X)} {get:Nat->Option (bu X)} {rd:List Nat}
theorem gU{a b:List Prop}(h:∀p∈a,p)(h':∀p∈b,p):∀p∈a++b,p:=λp hp=>(aW.1 hp).elim (h p) (h' p)
theorem J2{d:DV X}{c:CT X.ι}{x:CT.T X.toSE c×List Bool}(h:Tn get d c=some x)(hc:∀b∈x.2,b=true)(hrd:∀j∈bo d,j∈rd):∃hs obs,(∀ p∈obs,p)/\∀ag,pG P (dF rd (fC get)) (den d) (hs++ag)=some ((CT.tv X.toSE c x.1).av,ag,obs):=by
 have base:∀{d:DV X}{c:CT X.ι}{x:CT.T X.toSE c},Ma d c=some x->∃hs obs,(∀ p∈obs,p)/\∀ag,pG P (dF rd (fC get)) (den d) (hs++ag)=some ((CT.tv X.toSE c x).av,ag,obs):=by
  intro d c x h;unfold Ma at h;split at h
  ·rw[(iT h).1];refine⟨[],[],by simp,λag=>?_⟩;simp only[bO,den];cases c<;>try rfl
   rename_i j;show pG P _ (.agg ((X.row j x).map AV.t)) ag=_;have:∀(l:List Tree) (hs:List LH),nK P (dF rd (fC get)) (l.map AV.t) hs=some (l.map AV.t,hs,[]):=by
    intro l
    induction l with
    |nil=>intro hs;rfl
    |cons y ys ih=>intro hs;simp only[aC,nK,pG,ah,ih,bO]
   simp only[pG,this,ah];rfl
  ·cases h;exact⟨[.emp],[],by simp,λag=>rfl⟩
  ·cases h;exact⟨[.emp],[],by simp,λag=>rfl⟩
  ·cases h
 unfold Tn at h;split at h
 ·rename_i kk aa len e;rw[ai]at h;obtain⟨o,h1,h⟩:=h;split at h
  ·rename_i b l0;rw[ai]at h;obtain⟨l,h2,h⟩:=h;cases h;have h3:(sub l aa len).length=len:=(by simpa[bm]using hc (bm (sub l aa len).length len) (by simp));have⟨h4,h5⟩:=jm h2;refine⟨[.rows ((sub l aa len).map (CT.row X.toSE e))],[(((bF (.de b l0):aU).rows.drop aa).take len=aL ((sub l aa len).map (CT.row X.toSE e))/\((sub l aa len).map (CT.row X.toSE e)).length=len)],?_,λag=>?_⟩
   ·intro p hp;simp only[aZ]at hp;subst hp;refine⟨?_,by simpa using h3⟩;simp only[bF,h5];simp[aL,sub,map_take,map_drop]
   ·simp only[cons_append,bO,den,pG,dO (hrd kk (by simp[bo])) h1,ah];rfl
  ·cases h
 ·rename_i kk aa len;rw[ai]at h;obtain⟨o,h1,h⟩:=h;split at h
  ·rename_i b l0;cases h;have h3:(sub l0 aa len).length=len:=(by simpa[bm]using hc (bm (sub l0 aa len).length len) (by simp));refine⟨[.rows ((sub l0 aa len).map (CT.row X.toSE b))],[(((bF (.de b l0):aU).rows.drop aa).take len=aL ((sub l0 aa len).map (CT.row X.toSE b))/\((sub l0 aa len).map (CT.row X.toSE b)).length=len)],?_,λag=>?_⟩
   ·intro p hp;simp only[aZ]at hp;subst hp;refine⟨?_,by simpa using h3⟩;simp only[bF];simp[aL,sub,map_take,map_drop]
   ·simp only[cons_append,bO,den,pG,dO (hrd kk (by simp[bo])) h1,ah];rfl
  ·cases h
 ·rename_i kk len e;rw[ai]at h;obtain⟨o,h1,h⟩:=h;split at h
  ·rename_i b l0;have⟨l,h2,h⟩:=ai.1 h;cases h;have h3:(sub l 0 len).length=len:=(by simpa[bm]using hc (bm (sub l 0 len).length len) (by simp));have⟨h4,h5⟩:=jm h2;refine⟨[.rows ((sub l 0 len).map (CT.row X.toSE e))],[(((bF (.de b l0):aU).rows.drop 0).take len=aL ((sub l 0 len).map (CT.row X.toSE e))/\((sub l 0 len).map (CT.row X.toSE e)).length=len)],?_,λag=>?_⟩
   ·intro p hp;simp only[aZ]at hp;subst hp;refine⟨?_,by simpa using h3⟩;simp only[bF,h5];simp[aL,sub,map_take,map_drop]
   ·simp only[cons_append,bO,den,pG,dO (hrd kk (by simp[bo])) h1,ah];rfl
  ·cases h
 ·have⟨y,h1,h⟩:=ai.1 h;cases h;exact base h1
theorem OJ:∀{ds:List (DV X)}{l:List (CT X.ι)}{h:HL X.toSE l×List Bool},yx get ds l=some h->(∀ b∈h.2,b=true)->l.all CT.one=true->(∀ j∈aS ds,j∈rd)->
 ∃hs obs,(∀ p∈obs,p)/\∀ag,nK P (dF rd (fC get)) (bJ ds) (hs++ag)=some ((HL.row X.toSE l h.1).map AV.t,ag,obs)
 |[],[],h,_,_,_,_=>⟨[],[],by simp,λag=>rfl⟩
 |d::ds,c::l,h,hr,hc,ha,hrd=>by
  simp only[yx]at hr;have⟨x,h1,hr⟩:=ai.1 hr;have⟨g,h2,hr⟩:=ai.1 hr;cases hr;simp only[all_cons,aJ]at ha;obtain⟨hs1,o1,p1,q1⟩:=J2 (P:=P) (rd:=rd) h1 (λ b hb=>hc b (by simp[hb])) (λ j hj=>hrd j (by simp[aS,hj]));obtain⟨hs2,o2,p2,q2⟩:=OJ h2 (λ b hb=>hc b (by simp[hb])) ha.2 (λ j hj=>hrd j (by simp[aS,hj]));refine⟨hs1++hs2,o1++o2,gU p1 p2,λag=>?_⟩;simp only[bJ,nK,aK,q1,ah,q2];show _=some ((CT.row X.toSE c x.1++HL.row X.toSE l g.1).map AV.t,ag,o1++o2);rw[map_append,<- Mu ha.1 x.1];rfl
 |[],_::_,_,hr,_,_,_=>by simp[yx]at hr
 |_::_,[],_,hr,_,_,_=>by simp[yx]at hr
theorem Cs{d:DV X}{c:CT X.ι}{x:CT.T X.toSE c×List Bool}(h:Iu get d c=some x)(hc:∀b∈x.2,b=true)(hrd:∀j∈bo d,j∈rd):∃hs obs,(∀ p∈obs,p)/\∀ag,pG P (dF rd (fC get)) (den d) (hs++ag)=some ((CT.tv X.toSE c x.1).av,ag,obs):=by
 cases c
 case st i=>
  replace h:D3 get d i=some x:=h
  cases d
  case agg cs=>
   simp only[D3]at h;rw[ai]at h;obtain⟨g,h1,h⟩:=h;cases h;obtain⟨hs,obs,p1,q1⟩:=OJ (P:=P) (rd:=rd) h1 hc (X.flat i) (λ j hj=>hrd j (by simpa[bo]using hj));refine⟨hs,obs,p1,λag=>?_⟩;simp only[den,pG,q1,ah,CT.tv,TV.av];rw[X.gh]
  case c a y=>exact J2 (c:= .st i) (x:=x) (by unfold Tn;exact h) hc hrd
  all_goals cases h
 all_goals exact J2 h hc hrd
theorem adN{d:DV X}{c:CT X.ι}{x:CT.T X.toSE c}(h:TC get d c=some x)(hrd:∀j∈bo d,j∈rd):∃hs obs,(∀ p∈obs,p)/\∀ag,pG P (dF rd (fC get)) (den d) (hs++ag)=some (.eo (CT.row X.toSE c x) 0,ag,obs):=by
 unfold TC at h;split at h
 ·rename_i kk row;rw[ai]at h;obtain⟨o,h1,h⟩:=h;split at h
  ·rename_i sz rows;rw[ai]at h;obtain⟨q,h2,h⟩:=h;split at h
   ·rename_i hq;refine⟨[.row (CT.row X.toSE c x)],[(bF (.cells sz rows):aU).rows[row]? =some ((CT.row X.toSE c x).map AV.t)],?_,λag=>?_⟩
    ·intro p hp;simp only[aZ]at hp;subst hp;simp only[bF,List.getElem?_map,h2,Option.map_some];rw[<- zR h,ou,map_map];congr 1;refine map_congr_left λy hy=>?_;have:=all_eq_true.1 hq y hy;cases y<;>first |exact(amP _).symm |simp at this
    ·simp only[cons_append,bO,den,pG,dO (hrd kk (by simp[bo])) h1,ah]
   ·cases h
  ·cases h
 ·rename_i a y;refine⟨[],[],by simp,λag=>?_⟩;simp only[den,(iT h).2];rfl
 ·cases h
theorem af8{n:Nat}{l l':List (AT X.ι)}(e:l=l')(b:jf X l):dP n l' (e ▸ b)=dP n l b:=by subst e;rfl
theorem EW{pd:FuncId->List (DV X)->List (DV X)->(as:List (CT X.ι))->(r:CT X.ι)->Option ((HL X.toSE as->Option (CT.T X.toSE r))×List Bool)}:∀{ds:List (DV X)}{l:List (AT X.ι)}{a:jf X l×List Bool},kD get pd ds l=some a->(l.all λq=>!q.im)=true
 |[],[],_,_=>rfl
 |d::ds,.d c::l,a,h=>by
  simp only[kD]at h;have⟨x,h1,h⟩:=ai.1 h;have⟨q,h2,h⟩:=ai.1 h;simpa[AT.im]using EW h2
 |d::ds,.ref c::l,a,h=>by
  simp only[kD]at h;have⟨x,h1,h⟩:=ai.1 h;have⟨q,h2,h⟩:=ai.1 h;simpa[AT.im]using EW h2
 |d::ds,.cV as r::l,a,h=>by
  simp only[kD]at h;have⟨x,h1,h⟩:=ai.1 h;have⟨q,h2,h⟩:=ai.1 h;simpa[AT.im]using EW h2
 |_::_,.mut _::_,_,h=>by simp[kD]at h
 |_::_,.fm _::_,_,h=>by simp[kD]at h
 |_::_,.nil::_,_,h=>by simp[kD]at h
 |[],_::_,_,h=>by simp[kD]at h
 |_::_,[],_,h=>by simp[kD]at h
theorem adO:∀{n:Nat}{ds:List (DV X)}{l:List (AT X.ι)}{a:jf X l×List Bool},Tp Γ get n ds l=some a->(l.all λq=>!q.im)=true
 | 0,_,_,_,h=>EW h
 |_+1,_,_,_,h=>EW h
theorem W7:∀as:List (CT X.ι),((as.map AT.d).all λq=>!q.im)=true
 |[]=>rfl
 |_::l=>W7 l
def anU(P:Program)(get:Nat->Option (bu X))(pd:FuncId->List (DV X)->List (DV X)->(as:List (CT X.ι))->(r:CT X.ι)->Option ((HL X.toSE as->Option (CT.T X.toSE r))×List Bool)):Prop:=
 ∀f first caps as r φ rd,pd f first caps as r=some φ->(∀ b∈φ.2,b=true)->(∀ j∈aS first++aS caps,j∈rd)->∃hs obs,(∀ p∈obs,p)/\∀ag,pG P (dF rd (fC get)) (.fn f (bJ first) (bJ caps)) (hs++ag)=some (den (.cV as r φ.1:DV X),ag,obs)
theorem uo{n:Nat}{pd:FuncId->List (DV X)->List (DV X)->(as:List (CT X.ι))->(r:CT X.ι)->Option ((HL X.toSE as->Option (CT.T X.toSE r))×List Bool)}(vn:anU P get pd):∀{ds:List (DV X)}{l:List (AT X.ι)}{a:jf X l×List Bool},kD get pd ds l=some a->(∀ b∈a.2,b=true)->(∀ j∈aS ds,j∈rd)->
 ∃hs obs,(∀ p∈obs,p)/\∀ag,nK P (dF rd (fC get)) (bJ ds) (hs++ag)=some (dP n l a.1,ag,obs)
 |[],[],_,_,_,_=>⟨[],[],by simp,λag=>rfl⟩
 |d::ds,.d c::l,a,h,hc,hrd=>by
  simp only[kD]at h;have⟨x,h1,h⟩:=ai.1 h;have⟨q,h2,h⟩:=ai.1 h;cases h;obtain⟨hs1,o1,p1,q1⟩:=Cs (P:=P) (rd:=rd) h1 (λ b hb=>hc b (by simp[hb])) (λ j hj=>hrd j (by simp[aS,hj]));obtain⟨hs2,o2,p2,q2⟩:=uo (n:=n) vn h2 (λ b hb=>hc b (by simp[hb])) (λ j hj=>hrd j (by simp[aS,hj]));refine⟨hs1++hs2,o1++o2,gU p1 p2,λag=>?_⟩;simp only[bJ,nK,aK,q1,ah,q2,dP]
 |d::ds,.ref c::l,a,h,hc,hrd=>by
  simp only[kD]at h;rw[ai]at h;obtain⟨x,h1,h⟩:=h;rw[ai]at h;obtain⟨q,h2,h⟩:=h;cases h;obtain⟨hs1,o1,p1,q1⟩:=adN (P:=P) (rd:=rd) h1 (λ j hj=>hrd j (by simp[aS,hj]));obtain⟨hs2,o2,p2,q2⟩:=uo (n:=n) vn h2 hc (λ j hj=>hrd j (by simp[aS,hj]));refine⟨hs1++hs2,o1++o2,gU p1 p2,λag=>?_⟩;simp only[bJ,nK,aK,q1,ah,q2,dP]
 |d::ds,.cV as r::l,a,h,hc,hrd=>by
  simp only[kD]at h;rw[ai]at h;obtain⟨φ,h1,h⟩:=h;rw[ai]at h;obtain⟨q,h2,h⟩:=h;cases h;have hd:∃hs obs,(∀ p∈obs,p)/\∀ag,pG P (dF rd (fC get)) (den d) (hs++ag)=some (den (.cV as r φ.1:DV X),ag,obs):=by
   cases d
   case cV as' r' ψ=>
    simp only at h1;split at h1
    ·rename_i e;obtain⟨rfl,rfl⟩:=e;cases h1;exact⟨[],[],by simp,λag=>rfl⟩
    ·cases h1
   case fn f first caps=>
    obtain⟨hs,obs,g1,g2⟩:=vn f first caps as r φ rd h1 (λ b hb=>hc b (by simp[hb])) (λ j hj=>hrd j (by simp only[aS,bo,aW]at hj ⊢;exact .inl hj))
    exact⟨hs,obs,g1,λag=>by simp only[den];exact g2 ag⟩
   all_goals simp at h1
  obtain⟨hs1,o1,p1,q1⟩:=hd;obtain⟨hs2,o2,p2,q2⟩:=uo (n:=n) vn h2 (λ b hb=>hc b (by simp[hb])) (λ j hj=>hrd j (by simp[aS,hj]));refine⟨hs1++hs2,o1++o2,gU p1 p2,λag=>?_⟩;simp only[bJ,nK,aK,q1,ah,q2,dP]
 |_::_,.mut _::_,_,h,_,_=>by simp[kD]at h
 |_::_,.fm _::_,_,h,_,_=>by simp[kD]at h
 |_::_,.nil::_,_,h,_,_=>by simp[kD]at h
 |[],_::_,_,h,_,_=>by simp[kD]at h
 |_::_,[],_,h,_,_=>by simp[kD]at h
theorem tC(hΓ:rI P Γ):∀(m:Nat){n:Nat}{ds:List (DV X)}{l:List (AT X.ι)}{a:jf X l×List Bool}{rd:List Nat},Tp Γ get m ds l=some a->(∀ b∈a.2,b=true)->(∀ j∈aS ds,j∈rd)->
 ∃hs obs,(∀ p∈obs,p)/\∀ag,nK P (dF rd (fC get)) (bJ ds) (hs++ag)=some (dP n l a.1,ag,obs)
 | 0,n,ds,l,a,rd,h,hcs,hrd=>uo (λ _ _ _ _ _ _ _ h=>by cases h) h hcs hrd
 |m+1,n,ds,l,a,rd,h,hcs,hrd=>by
  refine uo (λ f first caps as r φ rd' hc hb GC=>?_) h hcs hrd;rw[ai]at hc;obtain⟨s,h1,hc⟩:=hc;split at hc
  ·rename_i sa r' fn _;split at hc
   ·rename_i e;obtain⟨rfl,e2⟩:=e;have⟨hf,h2,hc⟩:=ai.1 hc;have⟨hcap,h3,hc⟩:=ai.1 hc;injection hc with hc;rw[<- hc]at hb;obtain⟨g1,g2,_⟩:=hΓ f _ h1;obtain⟨hs1,o1,p1,q1⟩:=tC hΓ m h2 (n:=0) (rd:=rd') (λ b hb'=>hb b (by simp[hb'])) (λ j hj=>GC j (by simp[hj]));obtain⟨hs2,o2,p2,q2⟩:=tC hΓ m h3 (n:=0+qN (sa.take first.length)+qN (as.map AT.d)) (rd:=rd') (λ b hb'=>hb b (by simp[hb'])) (λ j hj=>GC j (by simp[hj]));refine⟨.cV (λ ts u=>∃h x,φ.1 h=some x/\ts=HL.nq X.toSE as h/\u=CT.tv X.toSE r' x)::(hs1++hs2),o1++(o2++[iM P f/\∀args r,(∃ h x,φ.1 h=some x/\args=HL.nq X.toSE as h/\r=CT.tv X.toSE r' x)->sA P f (dP 0 _ hf.1++args.map TV.av++dP (0+qN (sa.take first.length)+qN (as.map AT.d)) _ hcap.1) (.one (.d r))]),?_,λag=>?_⟩
    ·intro p hp;simp only[aW,aZ]at hp;rcases hp with hp |hp |hp
     ·exact p1 p hp
     ·exact p2 p hp
     ·subst hp;refine⟨g1,?_⟩;rintro args r ⟨x,y,hxy,rfl,rfl⟩;rw[<- hc]at hxy;have hxy':fn (e2 ▸ tz _ _ hf.1 (tz _ _ (hlA as x) hcap.1))=some y:=hxy;have:=g2 _ _ hxy';have hnm:(sa.all λq=>!q.im)=true:=(by rw[e2,List.all_append,List.all_append,adO h2,adO h3,W7];rfl);rw[Al hnm,Ak,af8 e2.symm,lT,lT,Rh,<- aK]at this;exact Wy this
    ·simp only[cons_append,aK,pG,q1,ah,q2];rfl
   ·cases hc
  ·cases hc
end
end
def J3(s:ByteArray)(n:Int):Option Int:=bif decide (0<=n)then(s[n.toNat]?).map λb=>(b.toNat:Int)else none
def Bz(m:Int)(bytes:Nat):Bool:=decide (0<=m)&&decide (m.toNat*bytes<=140737488355328)&&decide (m.toNat<=maxLen)
def qH{K V:Type}(eq:K->K->Bool)(k:K):List (K×V)->Option V
 |[]=>none
 |p::r=>bif eq k p.1 then some p.2 else qH eq k r
def Ng{K V:Type}(eq:K->K->Bool)(k:K)(v:V):List (K×V)->List (K×V)
 |[]=>[(k,v)]
 |p::r=>bif eq k p.1 then(k,v)::r else p::Ng eq k v r
def Z1(a b:Int):Bool:=a==b
def gS(a b:ByteArray):Bool:=a.toList==b.toList
def bEq(a b:Bool):Bool:=a==b
section
variable {X:SX} {A:Type}
def OL:(c:CT X.ι)->Option (CT.T X.toSE c->CT.T X.toSE c->Bool)
 | .int _=>some Z1
 | .str=>some gS
 | .bool=>some bEq
 |_=>none
def B9{ι:Type}:xz->CT ι->Bool
 | .int a,.int b=>decide (a=b)
 | .str,.str=>true
 | .bool,.bool=>true
 |_,_=>false
def anV{ι:Type}:CT ι->Bool
 | .st _=>true
 |_=>false
theorem iF(a b:List (DV X)):bJ (a++b)=bJ a++bJ b:=by simp[ou]
theorem tF(a b:List (Nat×Option (bu X))):gG (a++b)=gG a++gG b:=by simp[gG]
def OM(ae:List Nat):List (Nat×Option (bu X)):=ae.map λj=>(j,none)
theorem EX(ae:List Nat):gG (OM (X:=X) ae)=ae.map λk=>(k,none):=by simp[gG,OM]
theorem Lp{ae:List Nat}{p:Nat×Option (bu X)}(h:p∈OM ae):p.1∈ae:=by
 simp only[OM,mem_map]at h;obtain⟨j,hj,rfl⟩:=h;exact hj
variable (T:dC) (ao:TypeId->Option (CT X.ι))
def T7:DV X->Bool
 | .nil=>true
 |_=>false
def DE(op:BinOp)(b:DV X)(yes:Bool)(k:KK X A):Option A:=
 match op with
 | .eql=>bif yes then k b [] [] []else k (.c .bool false) [] [] []
 | .neq=>bif yes then k b [] [] []else k (.c .bool true) [] [] []
 |_=>none
def SR(op:BinOp)(t:TypeId)(x:DV X)(k:KK X A):Option A:=
 (T t).bind λti=>match ti.k,x with
 | .slice _,.c (.sl _) l=>DE op .ub (List.isEmpty l) k
 | .slice _,.own _ _ len=>DE op .ub (len==0) k
 | .slice _,.oz _ len=>DE op (.c .bool (op== .eql)) (len==0) k
 | .slice _,.nil=>DE op (.c .bool (op== .eql)) true k
 |_,_=>none
def amR(s d:TypeId)(x:DV X)(k:KK X A):Option A:=
 (T s).bind λ_=>(T d).bind λdi=>match di.k,x with
 | .int kd,.c (.int _) n=>k (.c (.int kd) (kd.wrap (iN n))) [] [] []
 |_,_=>none
def akh(t:TypeId)(x j:DV X)(k:KK X A):Option A:=
 (T t).bind λti=>match ti.k,x,j with
 | .str,.c .str s,.c (.int _) n=>(J3 s n).bind λb=>k (.c (.int .u8) b) [] [] []
 | .arr m e,.agg cs,.c (.int _) q=>(T e).bind λei=>bif ca q m then(JX ei.agg ei.size ((cs.drop (q.toNat*ei.size)).take ei.size)).bind λv=>k v [] [] []else none
 |_,_,_=>none
def aaH(t:TypeId)(x:DV X)(lo hi:Option (DV X))(k:KK X A):Option A:=
 (T t).bind λti=>match ti.k,x with
 | .slice e,.nil=>(T e).bind λ_=>(Zx 0 lo).bind λl=>(Zx 0 hi).bind λh=>bif decide (l=0)&&decide (h=0)then k .nil [] [] []else none
 |_,_=>none
def Ri(i:Nat)(b:Builtin)(args:List (DV X))(cW:List TypeId)(get:Nat->Option (bu X))(k:KK X A):Option A:=
 match b,args,cW with
 | .cap,[.nil],[t]=>(T t).bind λti=>match ti.k with
  | .slice _=>k (.c (.int .i64) (0:Int)) [] [] []
  |_=>none
 | .clear,[.own kk aa _],[t]=>(T t).bind λti=>match ti.k with
  | .slice e=>(T e).bind λei=>(get kk).bind λo=>match o with
   | .de c l=>if CT.sz X c=ei.size then k (.fh []) [(kk,some (.de c (l.take aa)))] [kk] [kk]else none
   |_=>none
  |_=>none
 | .append,[.nil,.c (.int _) m],[t,u]=>(T t).bind λti=>(T u).bind λui=>match ti.k,ui.k with
  | .slice e,.int _=>(T e).bind λei=>(ao e).bind λc=>if CT.sz X c=ei.size/\0<ei.size then(OE c (ei.zero.map tx)).bind λz=>
   bif Bz (iN m) ei.bytes then k (.own (cA i) 0 m.toNat) [(cA i,some (.de c (List.replicate m.toNat z)))] [] []else none else none
  |_,_=>none
 |_,_,_=>none
def Rj(x:DV X)(k:KK X A):Option A:=
 match x with
 | .ptr kk r f=>k (.ptr kk r f) [] [] []
 | .p0 kk n f=>k (.p0 kk n f) [] [] []
 | .rm kk r f m n=>k (.rm kk r f m n) [] [] []
 | .rp c y f=>k (.rp c y f) [] [] []
 |_=>none
def Tu(i:Nat)(t:TypeId)(l c:DV X)(k:KK X A):Option A:=
 (T t).bind λti=>match ti.k,l,c with
 | .slice e,.c (.int _) n,.c (.int _) m=>(T e).bind λei=>(ao e).bind λc=>if CT.sz X c=ei.size/\0<ei.size then(OE c (ei.zero.map tx)).bind λz=>
  bif decide (iN n<=iN m)&&(decide (0<=iN n)&&Bz (iN m) ei.bytes)then k (.own (cA i) 0 n.toNat) [(cA i,some (.de c (List.replicate n.toNat z)))] [] []else none else none
 |_,_,_=>none
def WW(i:Nat)(t:TypeId)(k:KK X A):Option A:=
 (T t).bind λti=>match ti.k with
 | .map kt et=>(ao kt).bind λkc=>(ao et).bind λvc=>k (.mp (cA i)) [(cA i,some (.map kc vc []))] [] []
 |_=>none
def W6(t:TypeId)(x key:DV X)(ok:Bool)(get:Nat->Option (bu X))(k:KK X A):Option A:=
 (T t).bind λti=>match ti.k,x with
 | .map kt et,.mp kk=>(T kt).bind λki=>(T et).bind λei=>(get kk).bind λo=>match o with
  | .map kc vc l=>(OL kc).bind λeq=>(Ma key kc).bind λkv=>if B9 ki.k kc=true/\ei.agg=anV vc/\ei.size=CT.sz X vc then(OE vc (ei.zero.map tx)).bind λz=>
   bif ok then k (.fh [.c vc ((qH eq kv l).getD z),.c .bool (qH eq kv l).isSome]) [] [kk] []else k (.c vc ((qH eq kv l).getD z)) [] [kk] []else none
  |_=>none
 |_,_=>none
def W0(t:TypeId)(x key y:DV X)(get:Nat->Option (bu X))(k:KK X A):Option A:=
 (T t).bind λti=>match ti.k,x with
 | .map kt _,.mp kk=>(T kt).bind λki=>(get kk).bind λo=>match o with
  | .map kc vc l=>(OL kc).bind λeq=>(Ma key kc).bind λkv=>(dat y vc).bind λv=>if B9 ki.k kc=true then k .undef [(kk,some (.map kc vc (Ng eq kv v l)))] [kk] [kk]else none
  |_=>none
 |_,_=>none
def anW(o:Op)(ρ:Operand->DV X):Bool:=
 match o with
 | .binOp _ _ _ y _=>T7 (ρ y)
 | .convert _ _ _=>true
 | .index _ _ _=>true
 | .nilCheck _=>true
 | .makeSlice _ _ _=>true
 | .makeMap _ none=>true
 | .lookup _ _ _ _=>true
 | .mapUpdate _ _ _ _=>true
 | .slice _ x _ _ none=>T7 (ρ x)
 | .call { callee:= .builtin b,args:=args,argTypes:=_ }=>match b,args.toList.map ρ with
  | .cap,_=>true
  | .clear,_=>true
  | .append,[_,.c (.int _) _]=>true
  |_,_=>false
 |_=>false
def SP(i:Nat)(o:Op)(ρ:Operand->DV X)(get:Nat->Option (bu X))(k:KK X A):Option A:=
 match o with
 | .binOp op t x y _=>if T7 (ρ y)then SR T op t (ρ x) k else none
 | .convert s d x=>amR T s d (ρ x) k
 | .index t x j=>akh T t (ρ x) (ρ j) k
 | .slice t x lo hi none=>aaH T t (ρ x) (lo.map ρ) (hi.map ρ) k
 | .nilCheck x=>Rj (ρ x) k
 | .makeSlice t l c=>Tu T ao i t (ρ l) (ρ c) k
 | .makeMap t none=>WW T ao i t k
 | .lookup t m x ok=>W6 T t (ρ m) (ρ x) ok get k
 | .mapUpdate t m x v=>W0 T t (ρ m) (ρ x) (ρ v) get k
 | .call { callee:= .builtin b,args:=args,argTypes:=cW }=>Ri T ao i b (args.toList.map ρ) cW.toList get k
 |_=>none
def HI(get:Nat->Option (bu X))(c:CT X.ι)(ρ:Operand->DV X)(x:Operand):DV X:=
 match Iu get (ρ x) c with
 |some y=> .c c y.1
 |none=>ρ x
def IR(get:Nat->Option (bu X))(c:CT X.ι)(ρ:Operand->DV X):List Operand->List Bool
 |[]=>[]
 |x::xs=>(match Iu get (ρ x) c with |some y=>y.2 |none=>[])++IR get c ρ xs
def xv(get:Nat->Option (bu X))(c:CT X.ι)(ρ:Operand->DV X):List Operand->List Nat
 |[]=>[]
 |x::xs=>(match Iu get (ρ x) c with |some _=>bo (ρ x) |none=>[])++xv get c ρ xs
def alZ(o:Op)(ρ:Operand->DV X)(get:Nat->Option (bu X)):Option (CT X.ι):=
 match o with
 | .box t _=>ao t
 | .assign x | .move x=>match ρ x with
  | .own kk _ _=>(get kk).bind λo=>match o with
   | .de c _=>some (.sl c)
   |_=>none
  |_=>none
 | .buildSlice t _ _=>(T t).bind λti=>match ti.k with
  | .slice e=>ao e
  |_=>none
 | .store t _ _=>ao t
 |_=>none
def anX(o:Op)(ρ:Operand->DV X):Bool:=
 match o with
 | .buildSlice _ _ parts=>!(aS (parts.toList.map λp=>ρ p.2)).isEmpty
 | .store _ a x=>match ρ a with
  | .p0 _ _ _=>!(bo (ρ x)).isEmpty
  |_=>false
 |_=>false
def SO(i:Nat)(o:Op)(ρ:Operand->DV X)(get:Nat->Option (bu X))(k:KK X A):Option A:=
 if Vc o then none else(alZ T ao o ρ get).bind λc=>WH (IR get c ρ o.operands.toList)
  (Iv T ao i o (HI get c ρ) (λ j=>if j∈xv get c ρ o.operands.toList then none else get j) λdv upd rd wr=>
   k dv (upd++OM (xv get c ρ o.operands.toList)) (rd++xv get c ρ o.operands.toList) (wr++xv get c ρ o.operands.toList))
def anY(o:Op)(ρ:Operand->DV X):Bool:=
 match o with
 | .indexAddr t x (.tmp _)=>match ρ x,T t with
  | .ptr _ _ _,some ti | .rp _ _ _,some ti=>match ti.k with
   | .arr _ e=>match T e with
    |some ei=>ei.size==1
    |none=>false
   |_=>false
  |_,_=>false
 | .load _ a=>match ρ a with
  | .rm _ _ _ _ _ | .vd _ _ _ _ _=>true
  |_=>false
 |_=>false
def za(c:CT X.ι):List (DV X)->Option (List (CT.T X.toSE c))
 |[]=>some []
 | .c a x::r=>(gB a c x).bind λy=>(za c r).bind λl=>some (y::l)
 |_=>none
def SM(o:Op)(ρ:Operand->DV X)(get:Nat->Option (bu X))(k:KK X A):Option A:=
 match o with
 | .indexAddr t x j=>(T t).bind λti=>match ti.k,ρ x,ρ j with
  | .arr m e,.ptr kk row aa,.c (.int _) n=>(T e).bind λei=>if ei.size=1 then bif ca n m then k (.rm kk row aa m n) [] [] []else none else none
  | .arr m e,.rp c y aa,.c (.int _) n=>(T e).bind λei=>if ei.size=1 then bif ca n m then k (.vd c y aa m n) [] [] []else none else none
  |_,_,_=>none
 | .load t a=>(T t).bind λti=>match ρ a with
  | .rm kk row aa m n=>if ti.size=1/\ti.agg=false then(ao t).bind λc=>if c.one=true then(get kk).bind λo=>match o with
   | .cells _ rows=>(rows[row]?).bind λq=>(za c ((q.drop aa).take m)).bind λ(xs:List (CT.T X.toSE c))=>(bp xs n).bind λy=>k (.c c y) [] [kk] []
   | .de b l=>if row=0/\b.one=true then(atO l aa n).bind λy=>k (.c b y) [] [kk] []else none
   |_=>none
   else none else none
  | .vd b y aa m n=>if ti.size=1/\ti.agg=false then(ao t).bind λc=>if c.one=true then(za c (((vQ b y).drop aa).take m)).bind λ(xs:List (CT.T X.toSE c))=>(bp xs n).bind λy=>k (.c c y) [] [] []
   else none else none
  |_=>none
 |_=>none
variable {T ao}
def cP(P:Program)(T:dC)(i:Nat)(o:Oper)(ρ:Operand->DV X)(get:Nat->Option (bu X))(k:KK X A)(r:A):Prop:=
 ∃cw rd wr dv upd ab,jI P T i o cw (λ x=>den (ρ x)) (dF rd (fC get))=some ab/\jZ ab.obs/\ab.v=den dv/\ab.upd=gG upd/\(∀ p∈upd,p.1=cA i\/p.1∈wr)/\k dv upd rd wr=some r
section
variable {P:Program} {get:Nat->Option (bu X)} {k:KK X A} {r:A} {i:Nat} {o:Oper} {ρ:Operand->DV X}
theorem akk{t:TypeId}{x:AV}{cw:i6}(h:(∃ n,cw= .ext n)\/∃ae fr q,cw= .vu ae fr q):xt T t x .none=xt T t x cw:=by
 unfold xt;cases T t with
 |none=>rfl
 |some ti=>
  simp only[ah];generalize ti.k=kk;rcases h with ⟨n,rfl⟩ |⟨ae,fr,q,rfl⟩<;>cases kk<;>try rfl
  all_goals cases x<;>try rfl
  all_goals (rename_i y;cases y<;>try rfl)
  all_goals (rename_i y;cases y<;>rfl)
theorem WX{t:TypeId}{x j:AV}{cw:i6}{get:Nat->Option aU}(h:(∃ n,cw= .ext n)\/∃ae fr q,cw= .vu ae fr q):mF T t x j .none get=mF T t x j cw get:=by
 unfold mF;cases T t with
 |none=>rfl
 |some ti=>
  simp only[ah];generalize ti.k=kk;cases kk<;>try rfl
  case arr m e=>
   cases j<;>try rfl
   rename_i y;cases y<;>try rfl
   rename_i y;cases y<;>rfl
  cases j<;>try rfl
  rename_i e y;cases y<;>try rfl
  rename_i y;cases y<;>try rfl
  simp only;cases T e with
  |none=>rfl
  |some ei=>
   simp only[ah];rcases h with ⟨n,rfl⟩ |⟨ae,fr,q,rfl⟩<;>cases x<;>try rfl
   all_goals (rename_i z;cases z<;>rfl)
theorem adQ{t:TypeId}{x y:AV}{cw:i6}{get:Nat->Option aU}(h:(∃ n,cw= .ext n)\/∃ae fr q,cw= .vu ae fr q):Cm T i t x y .none get=Cm T i t x y cw get:=by
 unfold Cm;rcases h with ⟨n,rfl⟩ |⟨ae,fr,q,rfl⟩<;>rfl
theorem aiG{cw:i6}{ρ:Operand->AV}{get:Nat->Option aU}(h:(∃ n,cw= .ext n)\/∃ae fr q,cw= .vu ae fr q):qG T i o .none ρ get=qG T i o cw ρ get:=by
 obtain⟨dst,op,ty,aw,after,guard⟩:=o;cases op
 case call c=>
  obtain⟨callee,args,cW⟩:=c;cases callee<;>try rfl
  rename_i b;simp only[qG,EQ];split
  ·exact akk h
  ·rfl
  ·rfl
  ·rw[adQ h]
  ·rfl
 case slice t x lo hi mx=>cases mx<;>rcases h with ⟨n,rfl⟩ |⟨ae,fr,q,rfl⟩<;>rfl
 case makeFunc fn a b=>cases fn<;>rfl
 case indexAddr t x j=>exact WX h
 all_goals (rcases h with ⟨n,rfl⟩ |⟨ae,fr,q,rfl⟩<;>rfl)
theorem cP.ext{n:Int}{rd wr:List Nat}{dv:DV X}{upd:List (Nat×Option (bu X))}{ab:Out}(h:oW T i o n (λ x=>den (ρ x)) (dF rd (fC get))=some ab)(h1:jZ ab.obs)(h2:ab.v=den dv)(h3:ab.upd=gG upd)(h4:∀p∈upd,p.1=cA i\/p.1∈wr)(h5:k dv upd rd wr=some r)(hx:C7 o.op=false:=by rfl):cP P T i o ρ get k r:=
 ⟨.ext n,rd,wr,dv,upd,ab,by show qa T i o n _ _=some ab;unfold qa;rw[hx];simp only[aj,ak,h],h1,h2,h3,h4,h5⟩
theorem cP.ud{n:Int}{rd wr:List Nat}{dv:DV X}{upd:List (Nat×Option (bu X))}{ab:Out}(h:Gr T i o n (λ x=>den (ρ x)) (dF rd (fC get))=some ab)(h1:jZ ab.obs)(h2:ab.v=den dv)(h3:ab.upd=gG upd)(h4:∀p∈upd,p.1=cA i\/p.1∈wr)(h5:k dv upd rd wr=some r)(hx:C7 o.op=true:=by rfl):cP P T i o ρ get k r:=
 ⟨.ext n,rd,wr,dv,upd,ab,by show qa T i o n _ _=some ab;unfold qa;rw[hx];simp only[aj,ak,h],h1,h2,h3,h4,h5⟩
theorem cP.qr{n:Int}{rd wr:List Nat}{dv:DV X}{upd:List (Nat×Option (bu X))}{ab:Out}(h:lN T i o n (λ x=>den (ρ x)) (dF rd (fC get))=some ab)(h1:jZ ab.obs)(h2:ab.v=den dv)(h3:ab.upd=gG upd)(h4:∀p∈upd,p.1=cA i\/p.1∈wr)(h5:k dv upd rd wr=some r)(hx:C7 o.op=false)(h0:oW T i o n (λ x=>den (ρ x)) (dF rd (fC get))=none):cP P T i o ρ get k r:=
 ⟨.ext n,rd,wr,dv,upd,ab,by show qa T i o n _ _=some ab;unfold qa;rw[hx];simp only[ak,h0,h],h1,h2,h3,h4,h5⟩
theorem Uj{x:DV X}(h:Rj x k=some r):∃dv,QX (den x)=some ⟨den dv,[],[]⟩/\k dv [] [] []=some r:=by cases x<;>simp only[Rj]at h<;>first |cases h |exact⟨_,rfl,h⟩
theorem aaI{cw:i6}{ρ:Operand->AV}{get:Nat->Option aU}(hne:∀f args cW,o.op≠ .call { callee:= .value f,args:=args,argTypes:=cW })(ho:∀n,cw≠ .ext n)(hf:∀ae fr q,cw≠ .vu ae fr q):jI P T i o cw ρ get=qG T i o cw ρ get:=by
 have e:∀(α:Type) (a:Operand->Array Operand->Array TypeId->α) (b:α),(match o.op with | .call { callee:= .value f,args:=args,argTypes:=cW }=>a f args cW |_=>b)=b:=by
  intro α a b;split
  ·rename_i f args cW heq;exact(hne f args cW heq).elim
  ·rfl
 cases cw<;>first |exact(ho _ rfl).elim |exact(hf _ _ _ rfl).elim |exact e _ _ _
theorem cP.op{cw:i6}{rd wr:List Nat}{dv:DV X}{upd:List (Nat×Option (bu X))}{ab:Out}(hne:∀f args cW,o.op≠ .call { callee:= .value f,args:=args,argTypes:=cW })
 (h:qG T i o cw (λ x=>den (ρ x)) (dF rd (fC get))=some ab) (h1:jZ ab.obs/\ab.v=den dv/\ab.upd=gG upd/\(∀ p∈upd,p.1=cA i\/p.1∈wr)/\k dv upd rd wr=some r):cP P T i o ρ get k r:=by
 obtain⟨tM,h'⟩:∃tM,jI P T i o tM (λ x=>den (ρ x)) (dF rd (fC get))=some ab:=by
  by_cases hx:(∃ n,cw= .ext n)\/∃ae fr q,cw= .vu ae fr q
  ·refine⟨.none,?_⟩;rw[aaI hne (by simp) (by simp),aiG hx,h]
  ·simp only[not_or,not_exists]at hx;exact⟨cw,by rw[aaI hne hx.1 (λ ae fr q=>hx.2 ae fr q),h]⟩
 exact⟨tM,rd,wr,dv,upd,ab,h',h1⟩
theorem cP.call{dst:Option Tmp}{f:Operand}{args:Array Operand}{cW:Array TypeId}{ty:TypeId}{aw:String}{after:Array Edge}{guard:Option (Nat×Bool)}{cw:i6}{rd wr:List Nat}{dv:DV X}{upd:List (Nat×Option (bu X))}{ab:Out}
 (h:kz P i (den (ρ f)) (args.toList.map λx=>den (ρ x)) cw (dF rd (fC get))=some ab) (h1:jZ ab.obs/\ab.v=den dv/\ab.upd=gG upd/\(∀ p∈upd,p.1=cA i\/p.1∈wr)/\k dv upd rd wr=some r):
 cP P T i ⟨dst,.call { callee:= .value f,args:=args,argTypes:=cW },ty,aw,after,guard⟩ ρ get k r:=by
 refine⟨cw,rd,wr,dv,upd,ab,?_,h1⟩;unfold jI;split
 ·unfold kz pK y7 at h;simp only at h;split at h<;>first |cases h |(rename_i e;cases e)
 ·unfold kz pK y7 at h;simp only at h;split at h<;>first |cases h |(rename_i e;cases e)
 ·exact h
theorem Lr{op:BinOp}{b:DV X}{yes:Bool}(h:DE op b yes k=some r):∃dv ab,B8 op (den b) yes=some ab/\jZ ab.obs/\ab.v=den dv/\ab.upd=[]/\k dv [] [] []=some r:=by
 unfold DE at h;split at h
 ·cases yes with
  |true=>exact⟨b,_,rfl,trivial,rfl,rfl,h⟩
  |false=>exact⟨.c .bool false,_,rfl,trivial,rfl,rfl,h⟩
 ·cases yes with
  |true=>exact⟨b,_,rfl,trivial,rfl,rfl,h⟩
  |false=>exact⟨.c .bool true,_,rfl,trivial,rfl,rfl,h⟩
 ·cases h
theorem agb{op:BinOp}{t:TypeId}{x:DV X}(h:SR T op t x k=some r):∃dv ab,Zi T op t (den x) .cN=some ab/\jZ ab.obs/\ab.v=den dv/\ab.upd=[]/\k dv [] [] []=some r:=by
 unfold SR at h;rw[ai]at h;obtain⟨ti,h1,h⟩:=h;split at h
 ·rename_i e c l hk;have⟨dv,ab,g1,g2⟩:=Lr h;refine⟨dv,ab,?_,g2⟩;simp only[Zi,h1,ah,hk,den,CT.tv,TV.av];rw[<- g1];congr 1;cases l<;>rfl
 ·rename_i e kk aa len hk;have⟨dv,ab,g1,g2⟩:=Lr h;exact⟨dv,ab,by simp only[Zi,h1,ah,hk,den];exact g1,g2⟩
 ·rename_i e kk len hk;have⟨dv,ab,g1,g2⟩:=Lr h;exact⟨dv,ab,by simp only[Zi,h1,ah,hk,den];exact g1,g2⟩
 ·rename_i e hk;have⟨dv,ab,g1,g2⟩:=Lr h;exact⟨dv,ab,by simp only[Zi,h1,ah,hk,den];exact g1,g2⟩
 ·cases h
theorem agc{s:ByteArray}{n b:Int}(h:J3 s n=some b):0<=n/\∃c,s[n.toNat]? =some c/\b=c.toNat:=by
 unfold J3 at h;by_cases hn:0<=n
 ·simp only[hn,decide_true,aj,eU]at h;obtain⟨c,h1,h2⟩:=h;exact⟨hn,c,h1,h2.symm⟩
 ·simp[hn]at h
theorem aaJ{m:Int}{bytes:Nat}(h:Bz m bytes=true):0<=m/\m.toNat*bytes<=140737488355328/\m.toNat<=maxLen:=by simpa[Bz,and_assoc]using h
theorem Uk{b:Builtin}{args:List (DV X)}{cW:List TypeId}(h:Ri T ao i b args cW get k=some r):
 ∃rd wr dv upd ab,vM T i b (bJ args) cW (dF rd (fC get))=some ab/\jZ ab.obs/\ab.v=den dv/\ab.upd=gG upd/\(∀ p∈upd,p.1=cA i\/p.1∈wr)/\k dv upd rd wr=some r:=by
 unfold Ri at h;split at h
 ·rename_i t;rw[ai]at h;obtain⟨ti,h1,h⟩:=h;split at h
  ·rename_i e hk;refine⟨[],[],_,[],⟨.t (.sc (.int .i64 0)),[],[]⟩,?_,trivial,rfl,rfl,by simp,h⟩;simp only[vM,bJ,den,h1,ah,hk];rfl
  ·cases h
 ·rename_i kk aa len t;rw[ai]at h;obtain⟨ti,h1,h⟩:=h;split at h
  ·rename_i e hk;rw[ai]at h;obtain⟨ei,h2,h⟩:=h;rw[ai]at h;obtain⟨o,h3,h⟩:=h;split at h
   ·rename_i c l;split at h
    ·rename_i hs;refine⟨[kk],[kk],_,_,⟨.fh [],[(kk,some ⟨CT.sz X c,(aL (l.map (CT.row X.toSE c))).take aa⟩)],[]⟩,?_,trivial,rfl,?_,by simp,h⟩
     ·simp only[vM,bJ,den,h1,ah,hk,h2,dO (List.mem_singleton_self kk) h3,bF];rw[aO hs]
     ·simp[gG,bF,aL,map_take]
    ·cases h
   ·cases h
  ·cases h
 ·rename_i kd m t u;rw[ai]at h;obtain⟨ti,h1,h⟩:=h;rw[ai]at h;obtain⟨ui,h2,h⟩:=h;split at h
  ·rename_i e kn hk hk';rw[ai]at h;obtain⟨ei,h3,h⟩:=h;rw[ai]at h;obtain⟨c,h4,h⟩:=h;split at h
   ·rename_i hs;have⟨z,h5,h⟩:=ai.1 h;have⟨h6,h⟩:=dD h;have⟨m1,m2,m3⟩:=aaJ h6;have hz:=zR h5;rw[Af]at hz;refine⟨[],[],_,_,⟨.own (cA i) 0 m.toNat,[(cA i,some ⟨ei.size,dV (List.replicate m.toNat (ei.zero.map cv))⟩)],[0<=m/\m.toNat*ei.bytes<=140737488355328/\m.toNat<=maxLen/\0<ei.size]⟩,?_,?_,rfl,?_,by simp,h⟩
    ·simp only[vM,bJ,den,CT.tv,TV.av,h1,h2,h3,ah,hk,hk']
    ·exact⟨m1,m2,m3,hs.2⟩
    ·simp only[gG,aC,map_nil,Option.map_some,bF,hs.1,aL,dV,List.map_replicate];rw[hz]
   ·cases h
  ·cases h
 ·cases h
theorem adR{t:TypeId}{l c:DV X}(h:Tu T ao i t l c k=some r):∃dv upd ab,HX T i t (den l) (den c)=some ab/\jZ ab.obs/\ab.v=den dv/\ab.upd=gG upd/\(∀ p∈upd,p.1=cA i)/\k dv upd [] []=some r:=by
 unfold Tu at h;rw[ai]at h;obtain⟨ti,h1,h⟩:=h;split at h
 ·rename_i e kl n kc m hk;rw[ai]at h;obtain⟨ei,h3,h⟩:=h;rw[ai]at h;obtain⟨c,h4,h⟩:=h;split at h
  ·rename_i hs;have⟨z,h5,h⟩:=ai.1 h;have⟨h6,h⟩:=dD h;simp only[aJ,aT]at h6;obtain⟨h7,h8,h9⟩:=h6;have⟨m1,m2,m3⟩:=aaJ h9;have hz:=zR h5;rw[Af]at hz;refine⟨_,_,⟨.own (cA i) 0 n.toNat,[(cA i,some ⟨ei.size,dV (List.replicate n.toNat (ei.zero.map cv))⟩)],[0<=n/\n<=m/\m.toNat*ei.bytes<=140737488355328/\m.toNat<=maxLen/\0<ei.size]⟩,?_,?_,rfl,?_,by simp,h⟩
   ·simp only[HX,den,CT.tv,TV.av,h1,h3,ah,hk]
   ·exact⟨h8,h7,m2,m3,hs.2⟩
   ·simp only[gG,aC,map_nil,Option.map_some,bF,hs.1,aL,dV,List.map_replicate];rw[hz]
  ·cases h
 ·cases h
theorem WY{t:TypeId}(h:WW T ao i t k=some r):∃dv upd ab,JS T i t=some ab/\jZ ab.obs/\ab.v=den dv/\ab.upd=gG upd/\(∀ p∈upd,p.1=cA i)/\k dv upd [] []=some r:=by
 unfold WW at h;rw[ai]at h;obtain⟨ti,h1,h⟩:=h;split at h
 ·rename_i kt et hk;have⟨kc,h2,h⟩:=ai.1 h;have⟨vc,h3,h⟩:=ai.1 h;exact⟨_,_,⟨.mp (cA i),[(cA i,some ⟨0,[]⟩)],[]⟩,by simp only[JS,h1,ah,hk],trivial,rfl,rfl,by simp,h⟩
 ·cases h
theorem akl{ki:np}{kc:CT X.ι}(h:B9 ki.k kc=true)(x:CT.T X.toSE kc):∃v,(CT.tv X.toSE kc x).av= .t (.sc v)/\Om ki.k v=true:=by
 cases kc
 case int b=>
  refine⟨.int b x,rfl,?_⟩;cases hk:ki.k<;>rw[hk]at h<;>simp only[B9,aT,Bool.false_eq_true]at h;subst h;simp[Om]
 case str=>
  refine⟨.string x,rfl,?_⟩;cases hk:ki.k<;>rw[hk]at h<;>simp only[B9,Bool.false_eq_true]at h;rfl
 case bool=>
  refine⟨.bool x,rfl,?_⟩;cases hk:ki.k<;>rw[hk]at h<;>simp only[B9,Bool.false_eq_true]at h;rfl
 all_goals (cases hk:ki.k<;>rw[hk]at h<;>simp[B9]at h)
theorem adS{kc:CT X.ι}{eq:CT.T X.toSE kc->CT.T X.toSE kc->Bool}(h:OL kc=some eq){a b:CT.T X.toSE kc}{va:Value}(ha:(CT.tv X.toSE kc a).av= .t (.sc va)):∃vb,(CT.tv X.toSE kc b).av= .t (.sc vb)/\SS va vb=some (eq a b):=by
 cases kc
 case int q=>
  simp only[OL,aA]at h;subst h;simp only[CT.tv,TV.av,AV.t.injEq,Tree.sc.injEq]at ha;subst ha;exact⟨_,rfl,by simp[SS,Z1]⟩
 case str=>
  simp only[OL,aA]at h;subst h;simp only[CT.tv,TV.av,AV.t.injEq,Tree.sc.injEq]at ha;subst ha;exact⟨_,rfl,by simp[SS,gS]⟩
 case bool=>
  simp only[OL,aA]at h;subst h;simp only[CT.tv,TV.av,AV.t.injEq,Tree.sc.injEq]at ha;subst ha;exact⟨_,rfl,by simp[SS,bEq]⟩
 all_goals simp[OL]at h
theorem aaK{kc vc:CT X.ι}{eq:CT.T X.toSE kc->CT.T X.toSE kc->Bool}(h:OL kc=some eq){a:CT.T X.toSE kc}{va:Value}(ha:(CT.tv X.toSE kc a).av= .t (.sc va)):∀l:List (CT.T X.toSE kc×CT.T X.toSE vc),
 ∃r,SV va (bF (.map kc vc l:bu X)).rows=some r/\r.map (·.2)=(qH eq a l).map λv=>(CT.tv X.toSE vc v).av
 |[]=>⟨none,rfl,rfl⟩
 |p::l=>by
  have⟨vb,h1,h2⟩:=adS h (b:=p.1) ha;have⟨r,g1,g2⟩:=aaK h ha l;have g1':SV va (l.map λp=>[(CT.tv X.toSE kc p.1).av,(CT.tv X.toSE vc p.2).av])=some r:=g1;simp only[bF,aC,h1,SV,h2,ah,qH];cases eq a p.1 with
  |true=>exact⟨_,rfl,rfl⟩
  |false=>
   simp only[Bool.false_eq_true,if_false,g1',Option.map_some,ak];exact⟨_,rfl,by rw[<- g2,Option.map_map];rfl⟩
theorem adT{kc vc:CT X.ι}{eq:CT.T X.toSE kc->CT.T X.toSE kc->Bool}(h:OL kc=some eq){a:CT.T X.toSE kc}{va:Value}(ha:(CT.tv X.toSE kc a).av= .t (.sc va))(y:CT.T X.toSE vc):∀l:List (CT.T X.toSE kc×CT.T X.toSE vc),
 wc va (CT.tv X.toSE vc y).av (bF (.map kc vc l:bu X)).rows=some (bF (.map kc vc (Ng eq a y l):bu X)).rows
 |[]=>by simp only[bF,map_nil,wc,Ng,aC,ha]
 |p::l=>by
  have⟨vb,h1,h2⟩:=adS h (b:=p.1) ha;have g:=adT h ha y l;have g':wc va (CT.tv X.toSE vc y).av (l.map λp=>[(CT.tv X.toSE kc p.1).av,(CT.tv X.toSE vc p.2).av])=some ((Ng eq a y l).map λp=>[(CT.tv X.toSE kc p.1).av,(CT.tv X.toSE vc p.2).av]):=g;simp only[bF,aC,h1,wc,h2,ah,Ng];cases eq a p.1 with
  |true=>simp only[if_true,aj,aC,ha]
  |false=>simp only[Bool.false_eq_true,if_false,g',Option.map_some,ak,aC,h1]
theorem zero_den{vc:CT X.ι}{ei:np}{z:CT.T X.toSE vc}(h:OE vc (ei.zero.map tx)=some z)(ha:ei.agg=anV vc)(hs:ei.size=CT.sz X vc):part' ei.agg ei.size ((ei.zero.map cv).map wk)=some (CT.tv X.toSE vc z).av:=by
 have hz:=zR h;rw[Af]at hz;rw[hz,ha,hs];have hl:((CT.row X.toSE vc z).map AV.t).length=CT.sz X vc:=by rw[length_map,Dn]
 unfold part';rw[aO hl];cases vc<;>rfl
theorem al0{d:DV X}{c:CT X.ι}{x:CT.T X.toSE c}(h:dat d c=some x):CE (den d)=(CT.tv X.toSE c x).av:=by
 cases c
 case st j=>
  replace h:B6 d j=some x:=h
  cases d
  case agg cs=>
   simp only[B6]at h;rw[ai]at h;obtain⟨g,h1,h⟩:=h;cases h;simp only[den,CE,(Ai h1 (X.flat j)).1];rw[<- WM];rfl
  case c a y=>
   replace h:gB a (.st j) y=some x:=h
   rw[(iT h).1];simp only[den,CT.tv,TV.av,CE,map_map];congr 1
  all_goals cases h
 all_goals
  (have h':Ma d _=some x:=h
   have hd:=wY h';cases d
   case agg=>cases h
   case c a y=>
    obtain⟨e,_⟩:=mG (show gB a _ y=some x from h);subst e;exact hd
   all_goals first |exact hd |(cases h))
theorem ZB{t:TypeId}{x key:DV X}{ok:Bool}(h:W6 T t x key ok get k=some r):∃rd dv ab,Lj T t (den x) (den key) ok (dF rd (fC get))=some ab/\jZ ab.obs/\ab.v=den dv/\ab.upd=[]/\k dv [] rd []=some r:=by
 unfold W6 at h;rw[ai]at h;obtain⟨ti,h1,h⟩:=h;split at h
 ·rename_i kt et kk hk;rw[ai]at h;obtain⟨ki,h2,h⟩:=h;rw[ai]at h;obtain⟨ei,h3,h⟩:=h;rw[ai]at h;obtain⟨o,h4,h⟩:=h;split at h
  ·rename_i kc vc l;rw[ai]at h;obtain⟨eq,h5,h⟩:=h;rw[ai]at h;obtain⟨kv,h6,h⟩:=h;split at h
   ·rename_i hc;have⟨z,h7,h⟩:=ai.1 h;have⟨va,g1,g2⟩:=akl hc.1 kv;have⟨q,g3,g4⟩:=aaK (vc:=vc) h5 g1 l;have hkey:den key= .t (.sc va):=by
     have:=wY h6;rw[g1]at this;cases hd:den key<;>rw[hd]at this<;>simp only[wk,AV.t.injEq,reduceCtorEq]at this;subst this;rfl
    have hv:∀q:Option (Nat×AV),q.map (·.2)=(qH eq kv l).map (λ v=>(CT.tv X.toSE vc v).av)->It q (part' ei.agg ei.size ((ei.zero.map cv).map wk))=some (CT.tv X.toSE vc ((qH eq kv l).getD z)).av:=by
     intro q g;cases hm:qH eq kv l with
     |none=>
      rw[hm]at g;cases q with
      |none=>exact zero_den h7 hc.2.1 hc.2.2
      |some p=>simp at g
     |some v=>
      rw[hm]at g;cases q with
      |none=>simp at g
      |some p=>simp only[Option.map_some,aA]at g;simp only[It,g,Option.getD_some]
    have hi:q.isSome=(qH eq kv l).isSome:=by
     have:=congrArg Option.isSome g4;simpa using this
    have hb:Lj T t (den (.mp kk:DV X)) (den key) ok (dF [kk] (fC get))=pv (if ok then .fh [den (.c vc ((qH eq kv l).getD z):DV X),.t (.sc (.bool q.isSome))]else den (.c vc ((qH eq kv l).getD z):DV X)):=by
     simp only[Lj,h1,ah,hk,den,hkey,h2,h3,dO (List.mem_singleton_self kk) h4];rw[aO ⟨g2,by simp[bF]⟩];rw[g3,ah,hv q g4,ah]
    cases ok with
    |true=>exact⟨[kk],_,_,hb,trivial,by simp only[if_true,den,bJ,hi];rfl,rfl,h⟩
    |false=>exact⟨[kk],_,_,hb,trivial,rfl,rfl,h⟩
   ·cases h
  ·cases h
 ·cases h
theorem ZC{t:TypeId}{x key y:DV X}(h:W0 T t x key y get k=some r):∃rd wr dv upd ab,Oo T t (den x) (den key) (den y) (dF rd (fC get))=some ab/\jZ ab.obs/\ab.v=den dv/\ab.upd=gG upd/\(∀ p∈upd,p.1∈wr)/\k dv upd rd wr=some r:=by
 unfold W0 at h;rw[ai]at h;obtain⟨ti,h1,h⟩:=h;split at h
 ·rename_i kt et kk hk;rw[ai]at h;obtain⟨ki,h2,h⟩:=h;rw[ai]at h;obtain⟨o,h4,h⟩:=h;split at h
  ·rename_i kc vc l;rw[ai]at h;obtain⟨eq,h5,h⟩:=h;rw[ai]at h;obtain⟨kv,h6,h⟩:=h;rw[ai]at h;obtain⟨v,h7,h⟩:=h;split at h
   ·rename_i hc;have⟨va,g1,g2⟩:=akl hc kv;have g3:=adT (vc:=vc) h5 g1 v l;have hkey:den key= .t (.sc va):=by
     have:=wY h6;rw[g1]at this;cases hd:den key<;>rw[hd]at this<;>simp only[wk,AV.t.injEq,reduceCtorEq]at this;subst this;rfl
    refine⟨[kk],[kk],_,_,⟨.undef,[(kk,some ⟨(bF (.map kc vc (Ng eq kv v l):bu X)).rows.length,(bF (.map kc vc (Ng eq kv v l):bu X)).rows⟩)],[]⟩,?_,trivial,rfl,?_,by simp,h⟩
    ·simp only[Oo,h1,ah,hk,den,hkey,h2,dO (List.mem_singleton_self kk) h4];rw[aO ⟨g2,by simp[bF]⟩,al0 h7,g3];rfl
    ·simp[gG,bF]
   ·cases h
  ·cases h
 ·cases h
theorem agf(h:SP T ao i o.op ρ get k=some r):cP P T i o ρ get k r:=by
 obtain⟨dst,op,ty,aw,after,guard⟩:=o;unfold SP at h;simp only at h;split at h
 ·rename_i op t x y q;split at h
  ·rename_i hn;have⟨dv,ab,g1,g2,g3,g4,g5⟩:=agb h;have hy:den (ρ y)= .cN:=(by cases hρ:ρ y<;>rw[hρ]at hn<;>first |rfl |cases hn);exact cP.ext (n:=0) (rd:=[]) (wr:=[]) (upd:=[]) (by simp only[oW,hy];exact g1) g2 g3 g4 (by simp) g5
  ·cases h
 ·rename_i s d x;unfold amR at h;rw[ai]at h;obtain⟨si,h1,h⟩:=h;rw[ai]at h;obtain⟨di,h2,h⟩:=h;split at h
  ·rename_i kd k' n hk hx;refine cP.ext (n:=0) (rd:=[]) (wr:=[]) (upd:=[]) (ab:=⟨.t (.sc (.int kd (kd.wrap n))),[],[]⟩) ?_ trivial rfl rfl (by simp) h;simp only[oW,Ly,h1,h2,ah,hk,hx];rfl
  ·cases h
 ·rename_i t x j;unfold akh at h;rw[ai]at h;obtain⟨ti,h1,h⟩:=h;split at h
  ·rename_i s kk n hk hx hj;rw[ai]at h;obtain⟨b,h2,h⟩:=h;refine cP.ext (n:=b) (rd:=[]) (wr:=[]) (upd:=[]) (ab:=⟨.t (.sc (.int .u8 b)),[],[0<=n/\∃c,s[n.toNat]? =some c/\b=c.toNat]⟩) ?_ (agc h2) rfl rfl (by simp) h;simp only[oW,V7,h1,ah,hk,hx,hj];rfl
  ·rename_i m e cs kd q hk hx hj;rw[ai]at h;obtain⟨ei,h2,h⟩:=h;have⟨h3,h⟩:=dD h;rw[ai]at h;obtain⟨v,h4,h⟩:=h;simp only[ca,aJ,aT]at h3;refine cP.ext (n:=0) (rd:=[]) (wr:=[]) (upd:=[]) (ab:=⟨den v,[],[0<=q/\q<(m:Int)]⟩) ?_ h3 rfl rfl (by simp) h;have h5:=EU h4;rw[kC]at h5;simp only[oW,V7,h1,ah,hk,hx,hj,h2,den,CT.tv,TV.av,h5];rfl
  ·cases h
 ·rename_i t x lo hi;unfold aaH at h;rw[ai]at h;obtain⟨ti,h1,h⟩:=h;split at h
  ·rename_i e hk hx;rw[ai]at h;obtain⟨ei,h2,h⟩:=h;rw[ai]at h;obtain⟨l,h3,h⟩:=h;rw[ai]at h;obtain⟨hh,h4,h⟩:=h;have⟨h5,h⟩:=dD h;refine cP.ext (n:=0) (rd:=[]) (wr:=[]) (upd:=[]) (ab:=⟨.cN,[],[l=0/\hh=0]⟩) ?_ (show l=0/\hh=0 by simpa using h5) rfl rfl (by simp) h;have e1:=wZ h3;have e2:=wZ h4;rw[Option.map_map]at e1 e2;simp only[oW,ES,h1,ah,hk,hx,h2,den];have IH:bnd 0 (lo.map λx=>den (ρ x))=some l:=e1;have e2':bnd 0 (hi.map λx=>den (ρ x))=some hh:=e2;rw[IH,ah,e2'];rfl
  ·cases h
 ·rename_i x;have⟨dv,g1,g2⟩:=Uj h;exact cP.ud (n:=0) (rd:=[]) (wr:=[]) (upd:=[]) g1 trivial rfl rfl (by simp) g2
 ·rename_i t l c;have⟨dv,upd,ab,g1,g2,g3,g4,g5,g6⟩:=adR h;exact cP.ud (n:=0) (rd:=[]) (wr:=[]) (upd:=upd) g1 g2 g3 g4 (λ p hp=> .inl (g5 p hp)) g6
 ·rename_i t;have⟨dv,upd,ab,g1,g2,g3,g4,g5,g6⟩:=WY h;exact cP.ud (n:=0) (rd:=[]) (wr:=[]) (upd:=upd) g1 g2 g3 g4 (λ p hp=> .inl (g5 p hp)) g6
 ·rename_i t m x ok;have⟨rd,dv,ab,g1,g2,g3,g4,g6⟩:=ZB h;exact cP.ud (n:=0) (rd:=rd) (wr:=[]) (upd:=[]) g1 g2 g3 g4 (by simp) g6
 ·rename_i t m x v;have⟨rd,wr,dv,upd,ab,g1,g2,g3,g4,g5,g6⟩:=ZC h;exact cP.ud (n:=0) (rd:=rd) (wr:=wr) (upd:=upd) g1 g2 g3 g4 (λ p hp=> .inr (g5 p hp)) g6
 ·rename_i b args cW;have⟨rd,wr,dv,upd,ab,g1,g2,g3,g4,g5,g6⟩:=Uk h;refine cP.ext (n:=0) (rd:=rd) (wr:=wr) (upd:=upd) ?_ g2 g3 g4 g5 g6;simp only[oW,Vl];exact g1
 ·cases h
theorem adU{c:CT X.ι}:∀{xs:List Operand}{x:Operand}{y:CT.T X.toSE c×List Bool},x∈xs->Iu get (ρ x) c=some y->∀j∈bo (ρ x),j∈xv get c ρ xs
 |z::xs,x,y,hx,h,j,hj=>by
  simp only[xv,aW];rcases aM.1 hx with rfl |hx
  ·left;rw[h];exact hj
  ·exact .inr (adU hx h j hj)
 |[],_,_,hx,_,_,_=>by simp at hx
theorem adV{c:CT X.ι}:∀{xs:List Operand}{x:Operand}{y:CT.T X.toSE c×List Bool},x∈xs->Iu get (ρ x) c=some y->∀b∈y.2,b∈IR get c ρ xs
 |z::xs,x,y,hx,h,b,hb=>by
  simp only[IR,aW];rcases aM.1 hx with rfl |hx
  ·left;rw[h];exact hb
  ·exact .inr (adV hx h b hb)
 |[],_,_,hx,_,_,_=>by simp at hx
theorem agh(h:SO T ao i o.op ρ get k=some r):cP P T i o ρ get k r:=by
 unfold SO at h;split at h
 ·cases h
 rename_i hpick;have⟨c,h1,h⟩:=ai.1 h;have⟨hcs,h⟩:=qc h;have⟨cw,rd,wr,dv,upd,ab,g1,g2,g3,g4,g5,g6⟩:=aaE h;generalize kf:xv get c ρ o.op.operands.toList=ae at*;refine⟨.vu ae (λ x=>den (HI get c ρ x)) cw,rd++ae,wr++ae,dv,upd++OM ae,⟨ab.v,ab.upd++ae.map (λ k=>(k,none)),ab.obs++[∀ x∈o.op.operands,(fx P (dF (rd++ae) (fC get)) (den (ρ x)) (den (HI get c ρ x))/\∀k∈refs (den (ρ x)),k∈ae)\/den (HI get c ρ x)=den (ρ x)]⟩,?_,?_,g3,?_,?_,g6⟩
 ·unfold jI JR;simp only;rw[aN hpick];have e:(λ k=>if k∈ae then none else dF (rd++ae) (fC get) k)=dF rd (fC λj=>if j∈ae then none else get j):=by
   funext j;simp only[dF,fC,aW];by_cases hj:j∈ae
   ·simp[hj]
   ·simp[hj]
  rw[e,g1];rfl
 ·refine rU _ λp hp=>?_;rcases aW.1 hp with hp |hp
  ·exact ru _ g2 p hp
  ·rw[aZ]at hp;subst hp;intro x hx;unfold HI;cases hl:Iu get (ρ x) c with
   |none=>exact .inr rfl
   |some y=>
    left;have hx':x∈o.op.operands.toList:=(by simpa using hx);have hin:∀j∈bo (ρ x),j∈ae:=λj hj=>kf ▸ adU hx' hl j hj;obtain⟨hs,obs,p1,p2⟩:=Cs (P:=P) (rd:=rd++ae) hl (λ b hb=>hcs b (adV hx' hl b hb)) (λ j hj=>List.mem_append_right _ (hin j hj));refine⟨?_,λj hj=>hin j (by rwa [iU]at hj)⟩;have:=p2 [];exact Gm _ _ _ this p1
 ·simp only[tF,EX,g4]
 ·intro p hp;rcases aW.1 hp with hp |hp
  ·exact(g5 p hp).imp id (λ h=>List.mem_append_left _ h)
  ·exact .inr (List.mem_append_right _ (Lp hp))
theorem J4{c:CT X.ι}:∀{ds:List (DV X)}{xs:List (CT.T X.toSE c)},za c ds=some xs->bJ ds=xs.map λy=>den (.c c y:DV X)
 |[],xs,h=>by simp only[za,aA]at h;subst h;rfl
 | .c a x::ds,xs,h=>by
  simp only[za]at h;have⟨y,h1,h⟩:=ai.1 h;have⟨l,h2,h⟩:=ai.1 h;cases h;simp only[bJ,aC,J4 h2,(iT h1).1]
 | .agg _::_,_,h=>by simp[za]at h
 | .fh _::_,_,h=>by simp[za]at h
 | .own _ _ _::_,_,h=>by simp[za]at h
 | .ptr _ _ _::_,_,h=>by simp[za]at h
 | .p0 _ _ _::_,_,h=>by simp[za]at h
 | .mp _::_,_,h=>by simp[za]at h
 | .rm _ _ _ _ _::_,_,h=>by simp[za]at h
 | .rp _ _ _::_,_,h=>by simp[za]at h
 | .vd _ _ _ _ _::_,_,h=>by simp[za]at h
 | .fn _ _ _::_,_,h=>by simp[za]at h
 | .cV _ _ _::_,_,h=>by simp[za]at h
 | .raw _::_,_,h=>by simp[za]at h
 | .nil::_,_,h=>by simp[za]at h
 | .ub::_,_,h=>by simp[za]at h
 | .skip::_,_,h=>by simp[za]at h
 | .undef::_,_,h=>by simp[za]at h
theorem agi(h:SM T ao o.op ρ get k=some r):cP P T i o ρ get k r:=by
 obtain⟨dst,op,ty,aw,after,guard⟩:=o;unfold SM at h;simp only at h;split at h
 ·rename_i t x j;rw[ai]at h;obtain⟨ti,h1,h⟩:=h;split at h
  ·rename_i m e kk row aa kd n hk hx hj;rw[ai]at h;obtain⟨ei,h2,h⟩:=h;split at h
   ·rename_i hs;have⟨h3,h⟩:=dD h;refine cP.op (cw:= .none) (rd:=[]) (wr:=[]) (upd:=[]) (λ _ _ _ e=>by cases e) (ab:=⟨.ptr kk row (aa+n.toNat*1),[],[0<=n/\n.toNat<m]⟩) ?_ ⟨?_,?_,rfl,by simp,h⟩
    ·simp only[qG,mF,h1,ah,hk,hx,hj,den,CT.tv,TV.av,h2,hs];rfl
    ·simp only[ca,aJ,aT]at h3;exact⟨h3.1,by omega⟩
    ·simp only[den,Nat.mul_one]
   ·cases h
  ·rename_i m e c y aa kd n hk hx hj;rw[ai]at h;obtain⟨ei,h2,h⟩:=h;split at h
   ·rename_i hs;have⟨h3,h⟩:=dD h;refine cP.op (cw:= .none) (rd:=[]) (wr:=[]) (upd:=[]) (λ _ _ _ e=>by cases e) (ab:=⟨.eo (CT.row X.toSE c y) (aa+n.toNat*1),[],[0<=n/\n.toNat<m]⟩) ?_ ⟨?_,?_,rfl,by simp,h⟩
    ·simp only[qG,mF,h1,ah,hk,hx,hj,den,CT.tv,TV.av,h2,hs];rfl
    ·simp only[ca,aJ,aT]at h3;exact⟨h3.1,by omega⟩
    ·simp only[den,Nat.mul_one]
   ·cases h
  ·cases h
 ·rename_i t a;rw[ai]at h;obtain⟨ti,h1,h⟩:=h;split at h
  ·rename_i kk row aa m n hx;split at h
   ·rename_i hs;rw[ai]at h;obtain⟨c,h2,h⟩:=h;split at h
    ·rename_i hc;rw[ai]at h;obtain⟨ob,h3,h⟩:=h;split at h
     ·rename_i sz rows;have⟨q,h4,h⟩:=ai.1 h;have⟨xs,h5,h⟩:=ai.1 h;have⟨y,h6,h⟩:=ai.1 h;have⟨_,h7⟩:=OG h6;have h8:=J4 h5;have h9:((bJ q).drop (aa+n.toNat)).take 1=[den (.c c y:DV X)]:=by
       have e1:(bJ ((q.drop aa).take m))[n.toNat]? =some (den (.c c y:DV X)):=(by rw[h8,List.getElem?_map,h7];rfl);rw[kC,List.getElem?_take]at e1;split at e1
       ·rw[List.getElem?_drop]at e1;have⟨g1,g2⟩:=cO.1 e1;rw[List.drop_eq_getElem_cons g1,List.take_succ_cons,List.take_zero,g2]
       ·cases e1
      refine cP.op (cw:= .none) (rd:=[kk]) (wr:=[]) (upd:=[]) (λ _ _ _ e=>by cases e) (ab:=⟨den (.c c y:DV X),[],[]⟩) ?_ ⟨trivial,rfl,rfl,by simp,h⟩;simp only[qG,EP,h1,ah,hx,den,dO (List.mem_singleton_self kk) h3,bF,List.getElem?_map,h4,Option.map_some,hs.1,hs.2];rw[h9];obtain⟨t',g1,g2⟩:=row_one hc y;simp only[den,g2,TV.av];rfl
     ·rename_i b l;split at h
      ·rename_i hb;have⟨y,h4,h⟩:=ai.1 h;have h5:l[aa+n.toNat]? =some y:=by
        unfold atO at h4;cases hd:decide (0<=n)<;>simp only[hd,aj,ak,reduceCtorEq]at h4;exact h4
       obtain⟨t',g1,g2⟩:=row_one hb.2 y;refine cP.qr (n:=0) (rd:=[kk]) (wr:=[]) (upd:=[]) (dv:= .c b y) (ab:=⟨den (.c b y:DV X),[],[]⟩) ?_ trivial rfl rfl (by simp) h rfl rfl;have hz:CT.sz X b=1:=(by rw[<- Dn b y,g1];rfl);have⟨q1,q2⟩:=cO.1 h5;simp only[lN,Gp,h1,ah,hx,den,dO (List.mem_singleton_self kk) h3,bF,hz,if_true,hs.1,hs.2,hb.1,Nat.zero_add,Wh,aL,<- map_drop,<- map_take];rw[List.drop_eq_getElem_cons q1,q2];simp only[List.take_succ_cons,List.take_zero,aC,map_nil,g1,flatten_cons,List.flatten_nil,append_nil,g2,TV.av];rfl
      ·cases h
     ·cases h
    ·cases h
   ·cases h
  ·rename_i b y0 aa m n hx;split at h
   ·rename_i hs;rw[ai]at h;obtain⟨c,h2,h⟩:=h;split at h
    ·rename_i hc;have⟨xs,h5,h⟩:=ai.1 h;have⟨y,h6,h⟩:=ai.1 h;have⟨_,h7⟩:=OG h6;have h8:=J4 h5;have h9:(((CT.row X.toSE b y0).drop (aa+n.toNat)).take 1).map AV.t=[den (.c c y:DV X)]:=by
      have e1:(bJ (((vQ b y0).drop aa).take m))[n.toNat]? =some (den (.c c y:DV X)):=(by rw[h8,List.getElem?_map,h7];rfl);rw[kC,nR,List.getElem?_take]at e1;split at e1
      ·rw[List.getElem?_drop]at e1;have⟨g1,g2⟩:=cO.1 e1;rw[map_take,map_drop,List.drop_eq_getElem_cons g1,List.take_succ_cons,List.take_zero,g2]
      ·cases e1
     refine cP.op (cw:= .none) (rd:=[]) (wr:=[]) (upd:=[]) (λ _ _ _ e=>by cases e) (ab:=⟨den (.c c y:DV X),[],[]⟩) ?_ ⟨trivial,rfl,rfl,by simp,h⟩;simp only[qG,EP,h1,ah,hx,den,hs.1,hs.2];rw[h9];obtain⟨t',g1,g2⟩:=row_one hc y;simp only[den,g2,TV.av];rfl
    ·cases h
   ·cases h
  ·cases h
 ·cases h
end
end
def tG{α:Type}(l:List α)(aa:Nat)(aq:List α):List α:=l.take aa++aq++l.drop (aa+aq.length)
def DD(a b:List Bool):Bool:=decide (a=b)
def DB(aa n len:Nat):Bool:=decide (aa+n<=len)
section
variable {X:SX} {A:Type} (T:dC)
def anZ(o:Op)(ρ:Operand->DV X):Bool:=
 match o with
 | .alloc e=>(X.ar e).isSome
 | .box e _=>(X.ar e).isSome
 | .load t a=>match ρ a with
  | .ptr _ _ _=>(X.ar t).isSome
  |_=>false
 | .store t a _=>match ρ a with
  | .ptr _ _ _=>(X.ar t).isSome
  | .rm _ _ _ _ _=>true
  |_=>false
 | .slice t x _ _ none=>match ρ x with
  | .ptr _ _ _=>(X.ar t).isSome
  |_=>false
 | .binOp _ t _ _ _=>(X.ar t).isSome
 |_=>false
def J0(a:MT X.toSE)(d:DV X):Option (List (CT.T X.toSE a.c)):=
 match d with
 | .c b y=>(gB b (.st a.i) y).bind λy=>some (a.f y)
 | .agg cs=>za a.c cs
 |_=>none
def DA(get:Nat->Option (bu X))(kk:Nat)(c:CT X.ι):Option (List (CT.T X.toSE c)):=
 (get kk).bind λo=>match o with
 | .de b l=>gB (.sl b) (.sl c) l
 |_=>none
def SJ(i:Nat)(o:Op)(ρ:Operand->DV X)(get:Nat->Option (bu X))(k:KK X A):Option A:=
 match o with
 | .alloc e=>(X.ar e).bind λa=>(T e).bind λti=>(za a.c (ti.zero.map tx)).bind λl=>k (.ptr (cA i) 0 0) [(cA i,some (.de a.c l))] [] []
 | .box e x=>(X.ar e).bind λa=>(J0 a (ρ x)).bind λl=>if (cellsD (ρ x)).isSome then k (.ptr (cA i) 0 0) [(cA i,some (.de a.c l))] [] []else none
 | .load t a=>(T t).bind λti=>match ρ a with
  | .ptr kk 0 aa=>(X.ar t).bind λa=>(DA get kk a.c).bind λl=>if ti.agg=true/\(X.cW a.i).length=ti.size then(a.g (sub l aa ti.size)).bind λy=>k (.c (.st a.i) y) [] [kk] []else none
  |_=>none
 | .store t a x=>(T t).bind λti=>match ρ a with
  | .ptr kk 0 aa=>(X.ar t).bind λa=>(DA get kk a.c).bind λl=>(J0 a (ρ x)).bind λaq=>if (cellsD (ρ x)).isSome then
   bif bm aq.length ti.size&&DB aa aq.length l.length then k .undef [(kk,some (.de a.c (tG l aa aq)))] [kk] [kk]else none else none
  | .rm kk 0 aa _ n=>(get kk).bind λo=>match o with
   | .de b l=>match ρ x with
    | .c c0 y0=>(gB c0 b y0).bind λy=>if b.one=true/\ti.size=1 then bif decide (0<=n)&&DB (aa+n.toNat) 1 l.length then k .undef [(kk,some (.de b (l.set (aa+n.toNat) y)))] [kk] [kk]else none else none
    |_=>none
   |_=>none
  |_=>none
 | .slice t x lo hi none=>(T t).bind λti=>match ti.k,ρ x with
  | .arr m e,.ptr kk 0 aa=>(T e).bind λei=>(get kk).bind λo=>match o with
   | .de b l=>if CT.sz X b=1/\ei.size=1 then(Zx 0 (lo.map ρ)).bind λp=>(Zx m (hi.map ρ)).bind λq=>
    bif Ag p q m&&DB aa m l.length then k (.own kk (aa+p.toNat) (q.toNat -p.toNat)) [] [kk] []else none else none
   |_=>none
  |_,_=>none
 | .binOp op t x y _=>(T t).bind λti=>(X.ar t).bind λa=>match ti.k,ρ x,ρ y with
  | .arr _ _,.c b u,.c c v=>(gB b (.st a.i) u).bind λu=>(gB c (.st a.i) v).bind λv=>(gB (.sl a.c) (.sl .bool) (a.f u)).bind λ(p:List Bool)=>(gB (.sl a.c) (.sl .bool) (a.f v)).bind λ(q:List Bool)=>
   if Gq T 9 t=true/\ti.cmp=[9]/\(X.cW a.i).length=ti.size then match op with
    | .eql=>k (.c .bool (DD p q)) [] [] []
    | .neq=>k (.c .bool (!(DD p q))) [] [] []
    |_=>none
   else none
  |_,_,_=>none
 |_=>none
end
section
variable {X:SX} {A:Type} {T:dC} {P:Program} {i:Nat} {o:Oper} {ρ:Operand->DV X} {get:Nat->Option (bu X)} {k:KK X A} {r:A}
theorem anl{c:CT X.ι}(h:c.one=true):CT.sz X c=1:=by cases c<;>first |rfl |cases h
theorem ahQ{c:CT X.ι}(h:c.one=true)(x:CT.T X.toSE c):(CT.row X.toSE c x).map AV.t=[den (.c c x:DV X)]:=by
 obtain⟨t,h1,h2⟩:=row_one h x;simp only[den,h1,h2,TV.av,aC,map_nil]
theorem Ls{c:CT X.ι}(h:c.one=true)(l:List (CT.T X.toSE c)):bF (.de c l:bu X)=⟨1,eF (l.map λx=>den (.c c x:DV X))⟩:=by
 simp only[bF,anl h,aL,eF,map_map];congr 1;exact map_congr_left λx _=>ahQ h x
theorem EY{c:CT X.ι}(h:c.one=true):∀l:List (CT.T X.toSE c),((l.map (CT.row X.toSE c)).flatten).map AV.t=l.map λx=>den (.c c x:DV X)
 |[]=>rfl
 |x::l=>by simp only[aC,flatten_cons,map_append,ahQ h,EY h l,List.singleton_append]
theorem WZ{a:MT X.toSE}{t:TypeId}(ha:X.ar t=some a){d:DV X}{l:List (CT.T X.toSE a.c)}(h:J0 a d=some l)(hc:(cellsD d).isSome=true):cellsOf (den d)=some (l.map λx=>den (.c a.c x:DV X)):=by
 obtain⟨h1,h2,h3⟩:=X.m7 t a ha;cases hd:cellsD d with
 |none=>rw[hd]at hc;cases hc
 |some cs=>
  rw[Ae hd];unfold J0 at h;split at h
  ·rename_i b y;rw[ai]at h;obtain⟨y',h4,h⟩:=h;cases h;have⟨e,h4⟩:=mG h4;subst e;subst h4;simp only[cellsD,aA]at hd;subst hd;rw[nR];show some ((X.row a.i y').map AV.t)=_;rw[h2 y',EY h1]
  ·rename_i cs';simp only[cellsD]at hd;split at hd
   ·cases hd;rw[J4 h]
   ·cases hd
  ·cases h
theorem aiK{c:CT X.ι}{l:List (CT.T X.toSE c)}{l':List Bool}(h:gB (.sl c) (.sl .bool) l=some l'):(l.map λx=>den (.c c x:DV X))=l'.map tB:=by
 have⟨e,h⟩:=mG h;cases e;subst h;rfl
theorem W9{kk:Nat}{c:CT X.ι}{l:List (CT.T X.toSE c)}(hc:c.one=true)(h:DA get kk c=some l):∃o,get kk=some o/\bF o=⟨1,eF (l.map λx=>den (.c c x:DV X))⟩:=by
 unfold DA at h;rw[ai]at h;obtain⟨o,h1,h⟩:=h;split at h
 ·rename_i b l0;have⟨e,h⟩:=mG h;cases e;subst h;exact⟨_,h1,Ls hc _⟩
 ·cases h
theorem Gw(n:Nat)(cs:List AV):(eF cs).take n=eF (cs.take n):=by simp[eF,map_take]
theorem Gx(n:Nat)(cs:List AV):(eF cs).drop n=eF (cs.drop n):=by simp[eF,map_drop]
theorem Tq(a b:List AV):eF (a++b)=eF a++eF b:=by simp[eF]
theorem J5(a:List AV):(eF a).length=a.length:=by simp[eF]
theorem akm(cs:List AV)(p n:Nat):Wh ⟨1,eF cs⟩ p n=(cs.drop p).take n:=by simp only[Wh,Gx,Gw,rV]
theorem Xa{t:TypeId}{ti:np}{a:MT X.toSE}{kk aa:Nat}{l:List (CT.T X.toSE a.c)}{y:X.T a.i}{g:Nat->Option aU}(h2:T t=some ti)(h1:X.ar t=some a)(hag:ti.agg=true)(hlen:(X.cW a.i).length=ti.size)
 (hk:g kk=some ⟨1,eF (l.map λx=>den (.c a.c x:DV X))⟩) (h4:a.g (sub l aa ti.size)=some y):Gp T t (den (.ptr kk 0 aa:DV X)) g=some ⟨den (.c (.st a.i) y:DV X),[],[]⟩:=by
 obtain⟨ho,hr,hg⟩:=X.m7 t a h1;have h7:=hg _ _ h4;have h8:den (.c (.st a.i) y:DV X)= .agg ((sub l aa ti.size).map λx=>den (.c a.c x:DV X)):=by
  show AV.agg ((X.row a.i y).map AV.t)=_;rw[hr y,EY ho,h7]
 have h9:((sub l aa ti.size).map λx=>den (.c a.c x:DV X)).length=ti.size:=by
  have:=congrArg List.length (EY ho (a.f y));rw[length_map,length_map,<- hr y]at this;have h10:=Dn (X:=X) (.st a.i) y;rw[length_map,<- h7,<- this];exact h10.trans hlen
 simp only[Gp,h2,ah,den,hk,if_true,Nat.zero_add,akm,<- map_drop,<- map_take];show(part' ti.agg ti.size ((sub l aa ti.size).map λx=>den (.c a.c x:DV X))).bind pv=some ⟨den (.c (.st a.i) y:DV X),[],[]⟩;have hp:part' ti.agg ti.size ((sub l aa ti.size).map λx=>den (.c a.c x:DV X))=some (.agg ((sub l aa ti.size).map λx=>den (.c a.c x:DV X))):=by unfold part';rw[aO h9,aO hag]
 rw[hp,h8];rfl
theorem agj(h:SJ T i o.op ρ get k=some r):cP P T i o ρ get k r:=by
 obtain⟨dst,op,ty,aw,after,guard⟩:=o;unfold SJ at h;simp only at h;split at h
 ·rename_i e;rw[ai]at h;obtain⟨a,h1,h⟩:=h;rw[ai]at h;obtain⟨ti,h2,h⟩:=h;rw[ai]at h;obtain⟨l,h3,h⟩:=h;obtain⟨ho,_,_⟩:=X.m7 e a h1;refine cP.qr (n:=0) (rd:=[]) (wr:=[]) (upd:=[(cA i,some (.de a.c l))]) (dv:= .ptr (cA i) 0 0) (ab:=⟨.ptr (cA i) 0 0,[(cA i,some ⟨1,eF (ti.zero.map cv)⟩)],[]⟩) ?_ trivial rfl ?_ (by simp) h rfl rfl
  ·simp only[lN,Vj,h2,ah]
  ·simp only[gG,aC,map_nil,Option.map_some,Ls ho,<- J4 h3,Af]
 ·rename_i e x;rw[ai]at h;obtain⟨a,h1,h⟩:=h;rw[ai]at h;obtain⟨l,h3,h⟩:=h;split at h
  ·rename_i hc;obtain⟨ho,_,_⟩:=X.m7 e a h1;refine cP.qr (n:=0) (rd:=[]) (wr:=[]) (upd:=[(cA i,some (.de a.c l))]) (dv:= .ptr (cA i) 0 0) (ab:=⟨.ptr (cA i) 0 0,[(cA i,some ⟨1,eF (l.map λx=>den (.c a.c x:DV X))⟩)],[]⟩) ?_ trivial rfl ?_ (by simp) h rfl rfl
   ·simp only[lN,Lw,WZ h1 h3 hc,ah]
   ·simp only[gG,aC,map_nil,Option.map_some,Ls ho]
  ·cases h
 ·rename_i t a0;rw[ai]at h;obtain⟨ti,h2,h⟩:=h;split at h
  ·rename_i kk aa hx;rw[ai]at h;obtain⟨a,h1,h⟩:=h;rw[ai]at h;obtain⟨l,h3,h⟩:=h;split at h
   ·rename_i hc;rw[ai]at h;obtain⟨y,h4,h⟩:=h;obtain⟨ob,h5,h6⟩:=W9 (X.m7 t a h1).1 h3;refine cP.qr (n:=0) (rd:=[kk]) (wr:=[]) (upd:=[]) (dv:= .c (.st a.i) y) (ab:=⟨den (.c (.st a.i) y:DV X),[],[]⟩) ?_ trivial rfl rfl (by simp) h rfl rfl;simp only[lN,hx];exact Xa h2 h1 hc.1 hc.2 (by rw[dO (List.mem_singleton_self kk) h5,h6]) h4
   ·cases h
  ·cases h
 ·rename_i t a0 x;rw[ai]at h;obtain⟨ti,h2,h⟩:=h;split at h
  ·rename_i kk aa hx;rw[ai]at h;obtain⟨a,h1,h⟩:=h;rw[ai]at h;obtain⟨l,h3,h⟩:=h;rw[ai]at h;obtain⟨aq,h4,h⟩:=h;split at h
   ·rename_i hc;have⟨h5,h⟩:=dD h;simp only[aJ,bm,DB,aT]at h5;obtain⟨ho,hr,hg⟩:=X.m7 t a h1;have⟨ob,h6,h7⟩:=W9 ho h3;refine cP.qr (n:=0) (rd:=[kk]) (wr:=[kk]) (upd:=[(kk,some (.de a.c (tG l aa aq)))]) (dv:= .undef) (ab:=⟨.undef,[(kk,some ⟨1,eF ((tG l aa aq).map λx=>den (.c a.c x:DV X))⟩)],[]⟩) ?_ trivial rfl ?_ (by simp) h rfl rfl
    ·simp only[lN,Oq,h2,ah,hx,den,WZ h1 h4 hc,dO (List.mem_singleton_self kk) h6,h7];rw[aO ⟨trivial,by rw[length_map];exact h5.1,by rw[length_map,J5,length_map];omega⟩];simp only[tG,map_append,map_take,map_drop,Tq,Gw,Gx,length_map,Nat.zero_add]
    ·simp only[gG,aC,map_nil,Option.map_some,Ls ho]
   ·cases h
  ·rename_i kk aa m n hx;rw[ai]at h;obtain⟨ob,h3,h⟩:=h;split at h
   ·rename_i b l;split at h
    ·rename_i c0 y0 hy;rw[ai]at h;obtain⟨y,h4,h⟩:=h;split at h
     ·rename_i hb;have⟨h5,h⟩:=dD h;simp only[aJ,DB,aT]at h5;have h6:cellsOf (den (.c c0 y0:DV X))=some [den (.c b y:DV X)]:=by
       rw[(iT h4).1];obtain⟨t',g1,g2⟩:=row_one hb.1 y;simp only[den,g2,TV.av];rfl
      refine cP.qr (n:=0) (rd:=[kk]) (wr:=[kk]) (upd:=[(kk,some (.de b (l.set (aa+n.toNat) y)))]) (dv:= .undef) (ab:=⟨.undef,[(kk,some ⟨1,eF ((l.set (aa+n.toNat) y).map λx=>den (.c b x:DV X))⟩)],[]⟩) ?_ trivial rfl ?_ (by simp) h rfl rfl
      ·simp only[lN,Oq,h2,ah,hx,hy,h6];simp only[den,dO (List.mem_singleton_self kk) h3,Ls hb.1,ah];rw[aO ⟨trivial,by rw[hb.2];rfl,by rw[J5,length_map];simp only[bE,List.length_nil];omega⟩];simp only[Nat.zero_add,bE,List.length_nil];rw[List.map_set,List.set_eq_take_append_cons_drop,aO (by rw[length_map];omega)];simp only[Tq,Gw,Gx,aK];rfl
      ·simp only[gG,aC,map_nil,Option.map_some,Ls hb.1]
     ·cases h
    ·cases h
   ·cases h
  ·cases h
 ·rename_i t x lo hi;rw[ai]at h;obtain⟨ti,h2,h⟩:=h;split at h
  ·rename_i m e kk aa hk hx;rw[ai]at h;obtain⟨ei,h3,h⟩:=h;rw[ai]at h;obtain⟨ob,h4,h⟩:=h;split at h
   ·rename_i b l;split at h
    ·rename_i hb;have⟨p,h5,h⟩:=ai.1 h;have⟨q,h6,h⟩:=ai.1 h;have⟨h7,h⟩:=dD h;simp only[aJ,Ag,DB,aT]at h7;refine cP.qr (n:=0) (rd:=[kk]) (wr:=[]) (upd:=[]) (dv:= .own kk (aa+p.toNat) (q.toNat -p.toNat)) (ab:=⟨.own kk (0+aa+p.toNat) (q.toNat -p.toNat),[],[0<=p/\p<=q/\q<=(m:Int)/\0+aa+m<=(bF (.de b l:bu X)).rows.length]⟩) ?_ ⟨h7.1.1.1,h7.1.1.2,h7.1.2,?_⟩ ?_ rfl (by simp) h rfl ?_
     ·simp only[lN,Vk,h2,ah,hk,hx,den,h3,dO (List.mem_singleton_self kk) h4];have e1:bnd 0 (lo.map λx=>den (ρ x))=some p:=(by rw[<- wZ h5,Option.map_map];rfl);have e2:bnd (m:Int) (hi.map λx=>den (ρ x))=some q:=(by rw[<- wZ h6,Option.map_map];rfl);rw[aO ⟨hb.1,hb.2⟩];simp only[e1,e2,ah,k5]
     ·simp only[bF,aL,length_map];omega
     ·simp only[den,Nat.zero_add]
     ·simp only[oW,ES,h2,ah,hk]
    ·cases h
   ·cases h
  ·cases h
 ·rename_i Ss t x y q0;rw[ai]at h;obtain⟨ti,h2,h⟩:=h;rw[ai]at h;obtain⟨a,h1,h⟩:=h;split at h
  ·rename_i m0 e0 b u0 c v0 hk hx hy;rw[ai]at h;obtain⟨u,h3,h⟩:=h;rw[ai]at h;obtain⟨v,h4,h⟩:=h;rw[ai]at h;obtain⟨p,h5,h⟩:=h;rw[ai]at h;obtain⟨q,h6,h⟩:=h;split at h
   ·rename_i hb;obtain⟨ho,hr,hg⟩:=X.m7 t a h1;have key:∀(z:CT.T X.toSE (.st a.i)) (l:List Bool),gB (.sl a.c) (.sl .bool) (a.f z)=some l->den (.c (.st a.i) z:DV X)= .agg (l.map tB)/\l.length=ti.size:=by
     intro z l hl;have e1:den (.c (.st a.i) z:DV X)= .agg ((a.f z).map λx=>den (.c a.c x:DV X)):=by
      show AV.agg ((X.row a.i z).map AV.t)=_;rw[hr z,EY ho]
     have e2:((a.f z).map λx=>den (.c a.c x:DV X)).length=ti.size:=by
      have:=congrArg List.length (EY ho (a.f z));rw[length_map,<- hr z]at this;rw[<- this];exact(Dn (X:=X) (.st a.i) z).trans hb.2.2
     rw[aiK hl]at e1 e2;exact⟨e1,by rw[length_map]at e2;exact e2⟩
    have⟨k1,l1⟩:=key u p h5;have⟨k2,l2⟩:=key v q h6;cases Ss<;>simp only[reduceCtorEq]at h
    ·refine cP.qr (n:=if p=q then 1 else 0) (rd:=[]) (wr:=[]) (upd:=[]) (dv:= .c .bool (DD p q)) (ab:=⟨tB ((if p=q then(1:Int)else 0) !=0),[],[∃ z1 z2:List Bool,p.map tB=z1.map tB/\q.map tB=z2.map tB/\z1.length=ti.size/\z2.length=ti.size/\((if p=q then(1:Int)else 0)≠0↔z1=z2)]⟩) ?_ ⟨p,q,rfl,rfl,l1,l2,by split<;>simp_all⟩ ?_ rfl (by simp) h rfl ?_
     ·simp only[lN,HQ,h2,ah,hk,hx,hy,(iT h3).1,(iT h4).1,k1,k2];rw[aO ⟨hb.1,hb.2.1⟩];rfl
     ·simp only[tB,den,CT.tv,TV.av,DD];by_cases hpq:p=q<;>simp[hpq]
     ·simp only[oW,Zi,h2,ah,hk]
    ·refine cP.qr (n:=if p=q then 1 else 0) (rd:=[]) (wr:=[]) (upd:=[]) (dv:= .c .bool (!(DD p q))) (ab:=⟨tB (!((if p=q then(1:Int)else 0) !=0)),[],[∃ z1 z2:List Bool,p.map tB=z1.map tB/\q.map tB=z2.map tB/\z1.length=ti.size/\z2.length=ti.size/\((if p=q then(1:Int)else 0)≠0↔z1=z2)]⟩) ?_ ⟨p,q,rfl,rfl,l1,l2,by split<;>simp_all⟩ ?_ rfl (by simp) h rfl ?_
     ·simp only[lN,HQ,h2,ah,hk,hx,hy,(iT h3).1,(iT h4).1,k1,k2];rw[aO ⟨hb.1,hb.2.1⟩];rfl
     ·simp only[tB,den,CT.tv,TV.av,DD];by_cases hpq:p=q<;>simp[hpq]
     ·simp only[oW,Zi,h2,ah,hk]
   ·cases h
  ·cases h
 ·cases h
end
section
variable {X:SX}
structure MA(X:SX) where
 nm:List (Nat×Nat)
 ev:List (DC X)
 ir:List Bool
def addN(m:MA X)(k' k:Nat):MA X:=if m.nm.contains (k',k)then m else⟨m.nm++[(k',k)],m.ev,m.ir⟩
section
variable (get:Nat->Option (bu X))
mutual
def mP:Pt X.ι->DV X->MA X->Option (MA X)
 | .v c,d,m=>(dat d c).bind λx=>some ⟨m.nm,m.ev++[⟨c,x⟩],m.ir⟩
 | .o k,d,m=>match d with
  | .own k' 0 len=>(get k').bind λo=>match o with
   | .de _ l=>some (addN ⟨m.nm,m.ev,m.ir++[bm len l.length]⟩ k' k)
   |_=>none
  |_=>none
 | .oz k,d,m=>match d with
  | .own k' 0 len=>(get k').bind λo=>match o with
   | .de _ l=>some (addN ⟨m.nm,m.ev,m.ir++[!(len==0)&&bm len l.length]⟩ k' k)
   |_=>none
  | .oz k' len=>(get k').bind λo=>match o with
   | .de _ l=>some (addN ⟨m.nm,m.ev,m.ir++[bm len l.length]⟩ k' k)
   |_=>none
  |_=>none
 | .p k,d,m=>match d with
  | .ptr k' 0 0=>some (addN m k' k)
  |_=>none
 | .mp k,d,m=>match d with
  | .mp k'=>some (addN m k' k)
  |_=>none
 | .nil,d,m=>match d with
  | .nil=>some m
  |_=>none
 | .f F fs cs,d,m=>match d with
  | .fn F' first caps=>if F=F' then(sf fs first m).bind λm=>sf cs caps m else none
  |_=>none
 | .od k,d,m=>match d with
  | .own k' aa len=>(get k').bind λo=>match o with
   | .de _ l=>some (addN ⟨m.nm,m.ev++[⟨.int .i64,(aa:Int)⟩],m.ir++[bm (aa+len) l.length]⟩ k' k)
   |_=>none
  |_=>none
 | .a ps,d,m=>match d with
  | .agg ds=>sf ps ds m
  |_=>none
def sf:List (Pt X.ι)->List (DV X)->MA X->Option (MA X)
 |[],[],m=>some m
 |p::ps,d::ds,m=>(mP p d m).bind λm=>sf ps ds m
 |_,_,_=>none
end
def J6(env:Nat->DV X):List (Nat×Pt X.ι)->MA X->Option (MA X)
 |[],m=>some m
 |(t,p)::r,m=>(mP get p (env t) m).bind λm=>J6 env r m
def Iw:List (List (Pt X.ι))->List (List (DV X))->MA X->Option (MA X)
 |[],[],m=>some m
 |r::rs,q::qs,m=>(sf get r q m).bind λm=>Iw rs qs m
 |_,_,_=>none
def nameOf(m:MA X)(k:Nat):Nat:=match m.nm.find? (λ q=>q.2==k)with |some q=>q.1 |none=>k
def EZ:List (Nat×OP X.ι)->MA X->Option (MA X)
 |[],m=>some m
 |(k,op)::r,m=>(get (nameOf m k)).bind λo=>match op,o with
  | .l c,.de c' l=>(gB (.sl c') (.sl c) l).bind λl'=>EZ r (addN ⟨m.nm,m.ev++[⟨.sl c,l'⟩],m.ir⟩ (nameOf m k) k)
  | .m kc vc,.map tg ta l=>(gB (.mp tg ta) (.mp kc vc) l).bind λl'=>EZ r (addN ⟨m.nm,m.ev++[⟨.mp kc vc,l'⟩],m.ir⟩ (nameOf m k) k)
  | .c sz rows,.cells sz' rows'=>if sz=sz' then(Iw get rows rows' (addN m (nameOf m k) k)).bind λm=>EZ r m else none
  |_,_=>none
end
end
section
variable {X:SX} {A:Type}
mutual
def nb(f:Nat->Nat):DV X->DV X
 | .own k aa len=> .own (f k) aa len
 | .ptr k row aa=> .ptr (f k) row aa
 | .p0 k n aa=> .p0 (f k) n aa
 | .rm k row aa m n=> .rm (f k) row aa m n
 | .mp k=> .mp (f k)
 | .oz k len=> .oz (f k) len
 | .agg cs=> .agg (Mc f cs)
 | .fh cs=> .fh (Mc f cs)
 | .fn F first caps=> .fn F (Mc f first) (Mc f caps)
 |x=>x
def Mc(f:Nat->Nat):List (DV X)->List (DV X)
 |[]=>[]
 |x::xs=>nb f x::Mc f xs
end
theorem T6(f:Nat->Nat):∀l:List Tree,y8 f (l.map AV.t)=l.map AV.t
 |[]=>rfl
 |x::xs=>by simp only[aC,y8,eV,T6 f xs]
mutual
theorem Ct(f:Nat->Nat):∀x:DV X,den (nb f x)=eV f (den x)
 | .own _ _ _=>rfl
 | .ptr _ _ _=>rfl
 | .p0 _ _ _=>rfl
 | .mp _=>rfl
 | .oz _ _=>rfl
 | .rm _ _ _ _ _=>rfl
 | .agg cs=>by simp only[nb,den,eV,E8 f cs]
 | .fh cs=>by simp only[nb,den,eV,E8 f cs]
 | .fn F first caps=>by simp only[nb,den,eV,E8 f first,E8 f caps]
 | .c t x=>by
  simp only[nb,den];cases t<;>try rfl
  simp only[CT.tv,TV.av,eV,T6]
 | .rp _ _ _=>rfl
 | .vd _ _ _ _ _=>rfl
 | .cV _ _ _=>rfl
 | .raw v=>by
  simp only[nb,den,cv];split
  ·rfl
  ·split<;>rfl
 | .nil=>rfl
 | .ub=>rfl
 | .skip=>rfl
 | .undef=>rfl
theorem E8(f:Nat->Nat):∀l:List (DV X),bJ (Mc f l)=y8 f (bJ l)
 |[]=>rfl
 |x::xs=>by simp only[Mc,bJ,y8,Ct f x,E8 f xs]
end
def oy(f:Nat->Nat):bu X->bu X
 | .cells sz rows=> .cells sz (rows.map (Mc f))
 |o=>o
def d5:bu X->List Nat
 | .cells _ rows=>(rows.map aS).flatten
 | .de _ _=>[]
 | .map _ _ _=>[]
def K0:CT X.ι->Bool
 | .int _ | .bool | .str=>true
 |_=>false
def yZ:CT X.ι->Bool
 | .st i=>(X.cW i).all K0
 |c=>K0 c
theorem Gy{c:CT X.ι}(h:K0 c=true)(x:CT.T X.toSE c):∀t∈CT.row X.toSE c x,t.flat:=by cases c<;>first |(intro t ht;simp only[CT.row,aZ]at ht;subst ht;exact trivial) |cases h
theorem ahS:∀(l:List (CT X.ι))(h:HL X.toSE l),l.all K0=true->∀t∈HL.row X.toSE l h,t.flat
 |[],_,_,t,ht=>by simp[HL.row]at ht
 |c::l,h,ha,t,ht=>by
  simp only[all_cons,aJ]at ha;rcases aW.1 (show t∈CT.row X.toSE c h.1++HL.row X.toSE l h.2 from ht)with ht |ht
  ·exact Gy ha.1 h.1 t ht
  ·exact ahS l h.2 ha.2 t ht
theorem vR{c:CT X.ι}(h:yZ c=true)(x:CT.T X.toSE c):∀t∈CT.row X.toSE c x,t.flat:=by
 cases c
 case st i=>intro t ht;exact ahS (X.cW i) (X.get i x) h t ((X.nw i x) ▸ ht)
 case int k=>exact Gy (c:= .int k) h x
 case bool=>exact Gy (c:= .bool) h x
 case str=>exact Gy (c:= .str) h x
 case sl e=>cases h
 case any=>cases h
 case mp=>cases h
structure MG(X:SX) where
 nm:List (Nat×Nat)
 ev:List (DC X)
 ir:List Bool
 vr:List Nat
section
variable (get:Nat->Option (bu X))
mutual
def px:Pt X.ι->DV X->MG X->Option (MG X)
 | .v c,d,m=>(Iu get d c).bind λx=>some ⟨m.nm,m.ev++[⟨c,x.1⟩],m.ir++x.2,m.vr++bo d⟩
 | .o k,d,m=>match d with
  | .own k' 0 len=>(get k').bind λo=>match o with
   | .de _ l=>some ⟨m.nm++[(k',k)],m.ev,m.ir++[bm len l.length],m.vr⟩
   |_=>none
  |_=>none
 | .od k,d,m=>match d with
  | .own k' aa len=>(get k').bind λo=>match o with
   | .de _ l=>some ⟨m.nm++[(k',k)],m.ev++[⟨.int .i64,(aa:Int)⟩],m.ir++[bm (aa+len) l.length],m.vr⟩
   |_=>none
  |_=>none
 | .p k,d,m=>match d with
  | .ptr k' 0 0=>some ⟨m.nm++[(k',k)],m.ev,m.ir,m.vr⟩
  |_=>none
 | .nil,d,m=>match d with
  | .nil=>some m
  |_=>none
 | .f F fs cs,d,m=>match d with
  | .fn F' first caps=>if F=F' then(rj fs first m).bind λm=>rj cs caps m else none
  |_=>none
 | .mp k,d,m=>match d with
  | .mp k'=>some ⟨m.nm++[(k',k)],m.ev,m.ir,m.vr⟩
  |_=>none
 | .oz _,_,_=>none
 | .a ps,d,m=>match d with
  | .agg ds=>rj ps ds m
  |_=>none
def rj:List (Pt X.ι)->List (DV X)->MG X->Option (MG X)
 |[],[],m=>some m
 |p::ps,d::ds,m=>(px p d m).bind λm=>rj ps ds m
 |_,_,_=>none
end
def Iy:List (List (Pt X.ι))->List (List (DV X))->MG X->Option (MG X)
 |[],[],m=>some m
 |r::rs,q::qs,m=>(rj get r q m).bind λm=>Iy rs qs m
 |_,_,_=>none
def p5(m:MG X)(k:Nat):Nat:=match m.nm.find? (λ q=>q.2==k)with |some q=>q.1 |none=>k
def E9:List (Nat×OP X.ι)->MG X->Option (MG X)
 |[],m=>some m
 |(k,op)::r,m=>(get (p5 m k)).bind λo=>match op,o with
  | .l c,.de c' l=>(gB (.sl c') (.sl c) l).bind λl'=>E9 r ⟨m.nm++[(p5 m k,k)],m.ev++[⟨.sl c,l'⟩],m.ir,m.vr⟩
  | .m kc vc,.map tg ta l=>if kc.one=true/\vc.one=true then(gB (.mp tg ta) (.mp kc vc) l).bind λl'=>E9 r ⟨m.nm++[(p5 m k,k)],m.ev++[⟨.mp kc vc,l'⟩],m.ir,m.vr⟩else none
  | .c sz rows,.cells sz' rows'=>if sz=sz' then(Iy get rows rows' ⟨m.nm++[(p5 m k,k)],m.ev,m.ir,m.vr⟩).bind λm=>E9 r m else none
  |_,_=>none
end
mutual
def Pt.refs:Pt X.ι->List Nat
 | .o k | .od k | .p k | .mp k | .oz k=>[k]
 | .f _ fs cs=>Dr fs++Dr cs
 | .a ps=>Dr ps
 |_=>[]
def Dr:List (Pt X.ι)->List Nat
 |[]=>[]
 |p::ps=>p.refs++Dr ps
end
def OP.refs:OP X.ι->List Nat
 | .l _=>[]
 | .m _ _=>[]
 | .c _ rows=>rows.flatMap Dr
def FA(n k:Nat):Bool:=Nat.blt k n || (Nat.ble 1000 k&&Nat.blt k 1064)
def cT.ok(g:cT X):Bool:=
 decide (g.iz.map (·.1)=List.range g.iz.length)&&decide (g.iz.length<=1000)&&(g.ix.all λq=>FA g.iz.length q.1&&q.2.refs.all λk=>FA g.iz.length k)&&decide (g.ix.map (·.1)).Nodup&&(Dr g.fy).all λk=>FA g.iz.length k
def Zs(m:MG X)(ae:List Nat):Bool:=
 decide ae.Nodup&&(m.nm.all λq=>match ae[q.2]? with |some k=>Nat.beq k q.1 |none=>false)&&m.vr.all λk=>!ae.contains k
def cT.flat(g:cT X):Bool:=(cL g.fy).all yZ&&g.ix.all λq=>match q.2 with
 | .l c=>yZ c
 | .m _ _=>false
 | .c _ rows=>(xg rows).all yZ
def s6:List (Nat×bu X)->Nat->Option (bu X)
 |[],_=>none
 |(j,o)::r,k=>if j=k then some o else s6 r k
def KB(i:Nat)(ae:List Nat)(os':List (Nat×bu X)):List (Nat×Option (bu X)):=
 (ae.zipIdx.map λp=>(p.1,(s6 os' p.2).map (oy (cn i ae))))++(os'.filter λq=>decide (1000<=q.1)).map λq=>(cn i ae q.1,some (oy (cn i ae) q.2))
def T5(g:cT X)(i:Nat)(ds:List (DV X))(get:Nat->Option (bu X))(k:KK X A):Option A:=
 (rj get g.pn ds ⟨[],[],[],[]⟩).bind λm=>(E9 get g.iz m).bind λm=>
  bif g.ok&&Zs m ((List.range g.iz.length).map (p5 m))then(Zz (cL g.pn++cE g.iz) m.ev).bind λv=>WH m.ir ((g.fn v).bind λr=>
   let ae:=(List.range g.iz.length).map (p5 m)
   k (nb (cn i ae) (g.res r)) (KB i ae (g.outs r)++(if g.flat then []else m.vr.map λk=>(k,none))) (ae++m.vr) ((ae++(KB i ae (g.outs r)).map (·.1))++m.vr))
  else none
section
variable {P:Program} {get:Nat->Option (bu X)} {rd ae:List Nat} {dt:Nat->Nat}
def fR(m m':MG X):Prop:=(∀ q∈m.nm,q∈m'.nm)/\(∀ c∈m.ir,c∈m'.ir)/\∀k∈m.vr,k∈m'.vr
theorem fR.refl(m:MG X):fR m m:=⟨λ _ h=>h,λ_ h=>h,λ_ h=>h⟩
theorem fR.trans{a b c:MG X}(h:fR a b)(h':fR b c):fR a c:=⟨λ q hq=>h'.1 q (h.1 q hq),λq hq=>h'.2.1 q (h.2.1 q hq),λq hq=>h'.2.2 q (h.2.2 q hq)⟩
mutual
theorem akn:∀(p:Pt X.ι)(d:DV X)(m m':MG X),px get p d m=some m'->fR m m'/\∃aq,m'.ev=m.ev++aq/\aq.length=p.vars.length
 | .v c,d,m,m',h=>by
  simp only[px]at h;rw[ai]at h;obtain⟨x,h1,h⟩:=h;cases h;exact⟨⟨λ _ h=>h,λ_ h=>by simp[h],λ_ h=>by simp[h]⟩,[⟨c,x.1⟩],rfl,rfl⟩
 | .o k,d,m,m',h=>by
  simp only[px]at h;split at h
  ·rw[ai]at h;obtain⟨o,h1,h⟩:=h;split at h
   ·cases h;exact⟨⟨λ _ h=>by simp[h],λ_ h=>by simp[h],λ_ h=>h⟩,[],by simp,rfl⟩
   ·cases h
  ·cases h
 | .od k,d,m,m',h=>by
  simp only[px]at h;split at h
  ·rename_i k' aa len;have⟨o,h1,h⟩:=ai.1 h;split at h
   ·cases h;exact⟨⟨λ _ h=>by simp[h],λ_ h=>by simp[h],λ_ h=>h⟩,[⟨.int .i64,(aa:Int)⟩],rfl,rfl⟩
   ·cases h
  ·cases h
 | .p k,d,m,m',h=>by
  simp only[px]at h;split at h
  ·cases h;exact⟨⟨λ _ h=>by simp[h],λ_ h=>h,λ_ h=>h⟩,[],by simp,rfl⟩
  ·cases h
 | .nil,d,m,m',h=>by
  simp only[px]at h;split at h
  ·cases h;exact⟨fR.refl _,[],by simp,rfl⟩
  ·cases h
 | .f F fs cs,d,m,m',h=>by
  simp only[px]at h;split at h
  ·split at h
   ·have⟨m1,h1,h⟩:=ai.1 h;obtain⟨a1,n1,b1,c1⟩:=xq fs _ m m1 h1;obtain⟨a2,n2,b2,c2⟩:=xq cs _ m1 m' h;exact⟨a1.trans a2,n1++n2,by rw[b2,b1,aK],by simp[Pt.vars,c1,c2]⟩
   ·cases h
  ·cases h
 | .mp k,d,m,m',h=>by
  simp only[px]at h;split at h
  ·cases h;exact⟨⟨λ _ h=>by simp[h],λ_ h=>h,λ_ h=>h⟩,[],by simp,rfl⟩
  ·cases h
 | .oz _,_,_,_,h=>by simp[px]at h
 | .a ps,d,m,m',h=>by
  simp only[px]at h;split at h
  ·exact xq ps _ m m' h
  ·cases h
theorem xq:∀(ps:List (Pt X.ι))(ds:List (DV X))(m m':MG X),rj get ps ds m=some m'->fR m m'/\∃aq,m'.ev=m.ev++aq/\aq.length=(cL ps).length
 |[],[],m,m',h=>by
  simp only[rj,aA]at h;subst h;exact⟨fR.refl _,[],by simp,rfl⟩
 |p::ps,d::ds,m,m',h=>by
  simp only[rj]at h;have⟨m1,h1,h⟩:=ai.1 h;have⟨a1,n1,b1,c1⟩:=akn p d m m1 h1;have⟨a2,n2,b2,c2⟩:=xq ps ds m1 m' h;exact⟨a1.trans a2,n1++n2,by rw[b2,b1,aK],by simp[cL,c1,c2]⟩
 |[],_::_,m,m',h=>by simp[rj]at h
 |_::_,[],m,m',h=>by simp[rj]at h
end
def ZE:AV->List LH->List LH
 | .agg _,hs=> .agd::hs
 |_,hs=>hs
theorem OO(x:AV)(a b:List LH):ZE x (a++b)=ZE x a++b:=by cases x<;>rfl
theorem zT{get':Nat->Option aU}{x:AV}{hs:List LH}{p:AV×List LH×List Prop}(h:pG P get' x hs=some p)(hr:∀k∈refs x,k∉ae):sI P get' ae x (ZE x hs)=some p:=by
 have hd:((refs x).all λk=>!ae.contains k)=true:=by
  simp only[all_eq_true,Bool.not_eq_true',List.contains_eq_mem,dN];exact hr
 cases x
 case agg cs=>
  simp only[refs]at hd;simp only[ZE,sI,hd,if_true];exact h
 all_goals
  simp only[ZE];unfold sI;split<;>first |(simp [pG]at h;done) |(rw [aO hd];exact h) |exact h |exact absurd hd ‹_› |(rename_i e;cases e;done)
variable {NM:List (Nat×Nat)} {py:List Nat}
mutual
theorem aiL(hi:∀q∈NM,ae[q.2]? =some q.1)(hv:∀k∈py,k∉ae)(hrd:∀k,(∃ q,(k,q)∈NM)\/k∈py->k∈rd)(ho:∀q∈NM,∀c l,get q.1=some (.de c l)->dt q.2=l.length):
 ∀(p:Pt X.ι)(d:DV X)(m m':MG X),px get p d m=some m'->(∀ q∈m'.nm,q∈NM)->(∀ c∈m'.ir,c=true)->(∀ k∈m'.vr,k∈py)->
 ∃aq,m'.ev=m.ev++aq/\∃d',(∀ ag,eP dt p (aq++ag)=(d',ag))/\(∃ hs obs,(∀ p∈obs,p)/\∀ag,sI P (dF rd (fC get)) ae (den d) (hs++ag)=some (den d',ag,obs))/\∀j∈bo d,(∃ q,(j,q)∈NM)\/j∈py
 | .v c,d,m,m',h,hn,hc,hr=>by
  simp only[px]at h;rw[ai]at h;obtain⟨x,h1,h⟩:=h;cases h;have yr:∀j∈bo d,j∈py:=λj hj=>hr j (by simp[hj]);obtain⟨hs,obs,p1,q1⟩:=Cs (P:=P) (rd:=rd) h1 (λ b hb=>hc b (by simp[hb])) (λ j hj=>hrd j (.inr (yr j hj)));refine⟨[⟨c,x.1⟩],rfl,.c c x.1,λag=>rfl,⟨ZE (den d) hs,obs,p1,λag=>?_⟩,λj hj=> .inr (yr j hj)⟩;rw[<- OO];exact zT (q1 ag) (λ k hk=>hv k (yr k (by rwa [iU]at hk)))
 | .o k,d,m,m',h,hn,hc,hr=>by
  simp only[px]at h;split at h
  ·rename_i k' len;rw[ai]at h;obtain⟨o,h1,h⟩:=h;split at h
   ·rename_i c l;cases h;have hq:(k',k)∈NM:=hn _ (by simp);have he:len=l.length:=by
     have:=hc (bm len l.length) (by simp);simpa[bm]using this
    refine⟨[],by simp,.own k 0 (dt k),λag=>rfl,⟨[.mut k],[],by simp,λag=>?_⟩,λj hj=>?_⟩
    ·simp only[den,cons_append,bO,sI,hi _ hq,if_true,ho _ hq c l h1,he]
    ·simp only[bo,aZ]at hj;subst hj;exact .inl ⟨k,hq⟩
   ·cases h
  ·cases h
 | .od k,d,m,m',h,hn,hc,hr=>by
  simp only[px]at h;split at h
  ·rename_i k' aa len;rw[ai]at h;obtain⟨o,h1,h⟩:=h;split at h
   ·rename_i c l;cases h;have hq:(k',k)∈NM:=hn _ (by simp);have he:aa+len=l.length:=by
     have:=hc (bm (aa+len) l.length) (by simp);simpa[bm]using this
    refine⟨[⟨.int .i64,(aa:Int)⟩],rfl,.own k aa (dt k -aa),λag=>?_,⟨[.mut k],[],by simp,λag=>?_⟩,λj hj=>?_⟩
    ·have:D4 (X:=X) ⟨.int .i64,(aa:Int)⟩=aa:=by
      simp only[D4];rw[WT];simp
     simp only[eP,cons_append,bO,this]
    ·simp only[den,cons_append,bO,sI,hi _ hq,if_true,ho _ hq c l h1,show l.length -aa=len by omega]
    ·simp only[bo,aZ]at hj;subst hj;exact .inl ⟨k,hq⟩
   ·cases h
  ·cases h
 | .p k,d,m,m',h,hn,hc,hr=>by
  simp only[px]at h;split at h
  ·rename_i k';cases h;have hq:(k',k)∈NM:=hn _ (by simp);refine⟨[],by simp,.ptr k 0 0,λag=>rfl,⟨[.mut k],[],by simp,λag=>?_⟩,λj hj=>?_⟩
   ·simp only[den,cons_append,bO,sI,hi _ hq,if_true]
   ·simp only[bo,aZ]at hj;subst hj;exact .inl ⟨k,hq⟩
  ·cases h
 | .nil,d,m,m',h,hn,hc,hr=>by
  simp only[px]at h;split at h
  ·cases h;refine⟨[],by simp,.nil,λag=>rfl,⟨[.nil],[],by simp,λag=>?_⟩,by simp[bo]⟩;exact zT (by simp only[den,cons_append,bO,pG]) (by simp[den,refs])
  ·cases h
 | .f F fs cs,d,m,m',h,hn,hc,hr=>by
  simp only[px]at h;split at h
  ·rename_i F' first caps
   split at h
   ·rename_i e;subst e;rw[ai]at h;obtain⟨m1,h1,h⟩:=h;have hm:=(xq cs _ m1 m' h).1;obtain⟨n1,a1,f',b1,⟨hs1,o1,p1,q1⟩,r1⟩:=zV hi hv hrd ho fs _ m m1 h1 (λ q hq=>hn q (hm.1 q hq)) (λ q hq=>hc q (hm.2.1 q hq)) (λ q hq=>hr q (hm.2.2 q hq));obtain⟨n2,a2,c',b2,⟨hs2,o2,p2,q2⟩,r2⟩:=zV hi hv hrd ho cs _ m1 m' h hn hc hr;refine⟨n1++n2,by rw[a2,a1,aK],.fn F f' c',λag=>by simp only[eP,aK,b1,b2],⟨.fnw::(hs1++hs2),o1++o2,gU p1 p2,λag=>?_⟩,λj hj=>?_⟩
    ·simp only[den,cons_append,aK,sI,q1,ah,q2]
    ·simp only[bo,aW]at hj;exact hj.elim (r1 j) (r2 j)
   ·cases h
  ·cases h
 | .mp k,d,m,m',h,hn,hc,hr=>by
  simp only[px]at h;split at h
  ·rename_i k';cases h;have hq:(k',k)∈NM:=hn _ (by simp);refine⟨[],by simp,.mp k,λag=>rfl,⟨[.mut k],[],by simp,λag=>?_⟩,λj hj=>?_⟩
   ·simp only[den,cons_append,bO,sI,hi _ hq,if_true]
   ·simp only[bo,aZ]at hj;subst hj;exact .inl ⟨k,hq⟩
  ·cases h
 | .oz _,_,_,_,h,_,_,_=>by simp[px]at h
 | .a ps,d,m,m',h,hn,hc,hr=>by
  simp only[px]at h;split at h
  ·rename_i ds;have⟨n1,a1,f',b1,⟨hs1,o1,p1,q1⟩,r1⟩:=zV hi hv hrd ho ps ds m m' h hn hc hr;refine⟨n1,a1,.agg f',λag=>by simp only[eP,b1],⟨.agw::hs1,o1,p1,λag=>?_⟩,λj hj=>r1 j (by simpa[bo]using hj)⟩;simp only[den,cons_append,sI,q1,ah]
  ·cases h
theorem zV(hi:∀q∈NM,ae[q.2]? =some q.1)(hv:∀k∈py,k∉ae)(hrd:∀k,(∃ q,(k,q)∈NM)\/k∈py->k∈rd)(ho:∀q∈NM,∀c l,get q.1=some (.de c l)->dt q.2=l.length):
 ∀(ps:List (Pt X.ι))(ds:List (DV X))(m m':MG X),rj get ps ds m=some m'->(∀ q∈m'.nm,q∈NM)->(∀ c∈m'.ir,c=true)->(∀ k∈m'.vr,k∈py)->
 ∃aq,m'.ev=m.ev++aq/\∃ds',(∀ ag,lp dt ps (aq++ag)=(ds',ag))/\(∃ hs obs,(∀ p∈obs,p)/\∀ag,nC P (dF rd (fC get)) ae (bJ ds) (hs++ag)=some (bJ ds',ag,obs))/\∀j∈aS ds,(∃ q,(j,q)∈NM)\/j∈py
 |[],[],m,m',h,_,_,_=>by
  simp only[rj,aA]at h;subst h;exact⟨[],by simp,[],λag=>rfl,⟨[],[],by simp,λag=>rfl⟩,by simp[aS]⟩
 |p::ps,d::ds,m,m',h,hn,hc,hr=>by
  simp only[rj]at h;have⟨m1,h1,h⟩:=ai.1 h;have hm:=(xq ps ds m1 m' h).1;obtain⟨n1,a1,d',b1,⟨hs1,o1,p1,q1⟩,r1⟩:=aiL hi hv hrd ho p d m m1 h1 (λ q hq=>hn q (hm.1 q hq)) (λ q hq=>hc q (hm.2.1 q hq)) (λ q hq=>hr q (hm.2.2 q hq));have⟨n2,a2,ds',b2,⟨hs2,o2,p2,q2⟩,r2⟩:=zV hi hv hrd ho ps ds m1 m' h hn hc hr;refine⟨n1++n2,by rw[a2,a1,aK],d'::ds',λag=>by simp only[lp,aK,b1,b2],⟨hs1++hs2,o1++o2,gU p1 p2,λag=>?_⟩,λj hj=>?_⟩
  ·simp only[bJ,aK,nC,q1,ah,q2]
  ·simp only[aS,aW]at hj;exact hj.elim (r1 j) (r2 j)
 |[],_::_,m,m',h,_,_,_=>by simp[rj]at h
 |_::_,[],m,m',h,_,_,_=>by simp[rj]at h
end
theorem Am:∀(rs:List (List (Pt X.ι)))(qs:List (List (DV X)))(m m':MG X),Iy get rs qs m=some m'->fR m m'/\∃aq,m'.ev=m.ev++aq/\aq.length=(xg rs).length
 |[],[],m,m',h=>by
  simp only[Iy,aA]at h;subst h;exact⟨fR.refl _,[],by simp,rfl⟩
 |r::rs,q::qs,m,m',h=>by
  simp only[Iy]at h;have⟨m1,h1,h⟩:=ai.1 h;have⟨a1,n1,b1,c1⟩:=xq r q m m1 h1;have⟨a2,n2,b2,c2⟩:=Am rs qs m1 m' h;exact⟨a1.trans a2,n1++n2,by rw[b2,b1,aK],by simp[xg,c1,c2]⟩
 |[],_::_,m,m',h=>by simp[Iy]at h
 |_::_,[],m,m',h=>by simp[Iy]at h
theorem Tt(hi:∀q∈NM,ae[q.2]? =some q.1)(hv:∀k∈py,k∉ae)(hrd:∀k,(∃ q,(k,q)∈NM)\/k∈py->k∈rd)(ho:∀q∈NM,∀c l,get q.1=some (.de c l)->dt q.2=l.length):
 ∀(rs:List (List (Pt X.ι)))(qs:List (List (DV X)))(m m':MG X),Iy get rs qs m=some m'->(∀ q∈m'.nm,q∈NM)->(∀ c∈m'.ir,c=true)->(∀ k∈m'.vr,k∈py)->
 ∃aq,m'.ev=m.ev++aq/\∃CH,(∀ ag,xk dt rs (aq++ag)=(CH,ag))/\(∃ hs obs,(∀ p∈obs,p)/\Gn P (dF rd (fC get)) ae (qs.map bJ) hs=some (CH.map bJ,obs))/\∀j∈(qs.map aS).flatten,(∃ q,(j,q)∈NM)\/j∈py
 |[],[],m,m',h,_,_,_=>by
  simp only[Iy,aA]at h;subst h;exact⟨[],by simp,[],λag=>rfl,⟨[],[],by simp,rfl⟩,by simp⟩
 |r::rs,q::qs,m,m',h,hn,hc,hr=>by
  simp only[Iy]at h;have⟨m1,h1,h⟩:=ai.1 h;have hm:=(Am rs qs m1 m' h).1;obtain⟨n1,a1,d',b1,⟨hs1,o1,p1,q1⟩,r1⟩:=zV (P:=P) hi hv hrd ho r q m m1 h1 (λ q hq=>hn q (hm.1 q hq)) (λ q hq=>hc q (hm.2.1 q hq)) (λ q hq=>hr q (hm.2.2 q hq));have⟨n2,a2,ds',b2,⟨hs2,o2,p2,q2⟩,r2⟩:=Tt hi hv hrd ho rs qs m1 m' h hn hc hr;refine⟨n1++n2,by rw[a2,a1,aK],d'::ds',λag=>by simp only[xk,aK,b1,b2],⟨hs1::hs2,o1++o2,gU p1 p2,?_⟩,λj hj=>?_⟩
  ·have:=q1 [];rw[append_nil]at this;simp only[aC,Gn,this,ah,q2]
  ·simp only[aC,flatten_cons,aW]at hj;exact hj.elim (r1 j) (r2 j)
 |[],_::_,m,m',h,_,_,_=>by simp[Iy]at h
 |_::_,[],m,m',h,_,_,_=>by simp[Iy]at h
theorem mH:∀(os:List (Nat×OP X.ι))(m m':MG X),E9 get os m=some m'->fR m m'/\∃aq,m'.ev=m.ev++aq/\aq.length=(cE os).length
 |[],m,m',h=>by
  simp only[E9,aA]at h;subst h;exact⟨fR.refl _,[],by simp,rfl⟩
 |(k,op)::r,m,m',h=>by
  simp only[E9]at h;rw[ai]at h;obtain⟨o,h1,h⟩:=h;split at h
  ·rename_i c c' l;rw[ai]at h;obtain⟨l',h2,h⟩:=h;obtain⟨a2,n2,b2,c2⟩:=mH r _ m' h;refine⟨fR.trans (b:=⟨m.nm++[(p5 m k,k)],m.ev++[⟨.sl c,l'⟩],m.ir,m.vr⟩) ⟨λ _ h=>by simp[h],λ_ h=>h,λ_ h=>h⟩ a2,[⟨.sl c,l'⟩]++n2,?_,by simp[cE,c2]⟩;rw[b2,aK]
  ·rename_i kc vc tg ta l;split at h
   ·rw[ai]at h;obtain⟨l',h2,h⟩:=h;obtain⟨a2,n2,b2,c2⟩:=mH r _ m' h;refine⟨fR.trans (b:=⟨m.nm++[(p5 m k,k)],m.ev++[⟨.mp kc vc,l'⟩],m.ir,m.vr⟩) ⟨λ _ h=>by simp[h],λ_ h=>h,λ_ h=>h⟩ a2,[⟨.mp kc vc,l'⟩]++n2,?_,by simp[cE,c2]⟩;rw[b2,aK]
   ·cases h
  ·rename_i sz rows sz' rows';split at h
   ·rw[ai]at h;obtain⟨m1,h2,h⟩:=h;obtain⟨a1,n1,b1,c1⟩:=Am rows _ _ m1 h2;have⟨a2,n2,b2,c2⟩:=mH r m1 m' h;refine⟨fR.trans (fR.trans (b:=⟨m.nm++[(p5 m k,k)],m.ev,m.ir,m.vr⟩) ⟨λ _ h=>by simp[h],λ_ h=>h,λ_ h=>h⟩ a1) a2,n1++n2,?_,by simp[cE,c1,c2]⟩;rw[b2,b1,aK]
   ·cases h
  ·cases h
theorem Gz:∀(os:List (Nat×OP X.ι))(m m':MG X),E9 get os m=some m'->(∀ q∈m'.nm,q∈NM)->∃aq,m'.ev=m.ev++aq/\∀ag,∀k∈os.map (·.1),∃k' o,(k',k)∈NM/\get k'=some o/\∀c l,o= .de c l->(k,List.length l)∈lens os (aq++ag)
 |[],m,m',h,_=>by
  simp only[E9,aA]at h;subst h;exact⟨[],by simp,λag k hk=>by simp at hk⟩
 |(k,op)::r,m,m',h,hn=>by
  simp only[E9]at h;rw[ai]at h;obtain⟨o,h1,h⟩:=h;split at h
  ·rename_i c c' l;rw[ai]at h;obtain⟨l',h2,h⟩:=h;have hm:=(mH r _ m' h).1;obtain⟨n2,b2,c2⟩:=Gz r _ m' h hn;refine⟨[⟨.sl c,l'⟩]++n2,by rw[b2,aK],λag j hj=>?_⟩;simp only[aC,aM]at hj;simp only[aK,cons_append,bO,lens];by_cases hjk:j=k
   ·subst hjk;refine⟨_,_,hn _ (hm.1 _ (by simp)),h1,λc2 l2 he=>?_⟩;injection he with e1 e2;subst e1;have e2:=eq_of_heq e2;subst e2;have:=congrArg List.length (jm h2).2;simp only[length_map]at this;rw[this];exact List.mem_cons_self
   ·rcases hj with rfl |hj
    ·exact(hjk rfl).elim
    ·have⟨k',o',g1,g2,g3⟩:=c2 ag j hj;exact⟨k',o',g1,g2,λc l he=>dR _ (g3 c l he)⟩
  ·rename_i kc vc tg ta l;split at h
   ·rw[ai]at h;obtain⟨l',h2,h⟩:=h;have hm:=(mH r _ m' h).1;obtain⟨n2,b2,c2⟩:=Gz r _ m' h hn;refine⟨[⟨.mp kc vc,l'⟩]++n2,by rw[b2,aK],λag j hj=>?_⟩;simp only[aC,aM]at hj;simp only[aK,cons_append,bO,lens,List.drop_succ_cons,List.drop_zero];by_cases hjk:j=k
    ·subst hjk;exact⟨_,_,hn _ (hm.1 _ (by simp)),h1,λc2 l2 he=>by cases he⟩
    ·rcases hj with rfl |hj
     ·exact(hjk rfl).elim
     ·exact c2 ag j hj
   ·cases h
  ·rename_i sz rows sz' rows';split at h
   ·have⟨m1,h2,h⟩:=ai.1 h;obtain⟨a1,n1,b1,c1⟩:=Am rows _ _ m1 h2;have hm:=(mH r _ m' h).1;obtain⟨n2,b2,c2⟩:=Gz r _ m' h hn;refine⟨n1++n2,by rw[b2,b1,aK],λag j hj=>?_⟩;simp only[aC,aM]at hj;have hd:(n1++n2++ag).drop (xg rows).length=n2++ag:=(by rw[<- c1,aK,List.drop_left]);simp only[lens,hd];by_cases hjk:j=k
    ·subst hjk;exact⟨_,_,hn _ (hm.1 _ (a1.1 _ (by simp))),h1,λc2 l2 he=>by cases he⟩
    ·rcases hj with rfl |hj
     ·exact(hjk rfl).elim
     ·exact c2 ag j hj
   ·cases h
  ·cases h
theorem GA:∀(os:List (Nat×OP X.ι))(L:List (DC X)),((lens os L).map (·.1)).Sublist (os.map (·.1))
 |[],_=>by simp[lens]
 |(k,.l c)::r,L=>by
  simp only[lens];split
  ·exact(GA r _).cons_cons _
  ·exact List.nil_sublist _
 |(k,.m kc vc)::r,L=>by
  simp only[lens];exact(GA r _).cons _
 |(k,.c sz rows)::r,L=>by
  simp only[lens];exact(GA r _).cons _
def aiM(get':Nat->Option aU)(NM:List (Nat×Nat))(py:List Nat)(bs:List OB)(ks:List Nat):Prop:=
 ∀(j:Nat) hs q o,bs[j]? =some (.C2 hs)->ks[j]? =some q->get' q=some o->∀k∈Wm o,(∃ z,(k,z)∈NM)\/k∈py
theorem OQ{sz:Nat}{rows:List (List (DV X))}{k:Nat}(h:k∈Wm (bF (.cells sz rows))):k∈(rows.map aS).flatten:=by
 simp only[Wm,bF,List.mem_flatMap,mem_map]at h;obtain⟨a,⟨r,hr,rfl⟩,hk⟩:=h;rw[iy]at hk;exact List.mem_flatten.2 ⟨_,mem_map.2 ⟨r,hr,rfl⟩,hk⟩
theorem Cu(hi:∀q∈NM,ae[q.2]? =some q.1)(hv:∀k∈py,k∉ae)(hrd:∀k,(∃ q,(k,q)∈NM)\/k∈py->k∈rd)(ho:∀q∈NM,∀c l,get q.1=some (.de c l)->dt q.2=l.length):
 ∀(os:List (Nat×OP X.ι))(m m':MG X),E9 get os m=some m'->(∀ q∈m'.nm,q∈NM)->(∀ c∈m'.ir,c=true)->(∀ k∈m'.vr,k∈py)->
 ∃aq,m'.ev=m.ev++aq/\∃xs:List (Nat×bu X),(∀ ag,bZ dt os (aq++ag)=xs.map λp=>(p.1,some p.2))/\
  ∃bs mo,(∀ p∈mo,p)/\JV P (dF rd (fC get)) ae (os.map λp=>(ae[p.1]?).getD 0) bs=some (xs.map λp=>bF p.2,mo)/\aiM (dF rd (fC get)) NM py bs (os.map λp=>(ae[p.1]?).getD 0)
 |[],m,m',h,_,_,_=>by
  simp only[E9,aA]at h;subst h;exact⟨[],by simp,[],λag=>rfl,[],[],by simp,rfl,λj hs q o h=>by simp at h⟩
 |(k,op)::r,m,m',h,hn,hc,hr=>by
  simp only[E9]at h;rw[ai]at h;obtain⟨o,h1,h⟩:=h;split at h
  ·rename_i c c' l;have⟨l',h2,h⟩:=ai.1 h;have hm:=(mH r _ m' h).1;have hq:(p5 m k,k)∈NM:=hn _ (hm.1 _ (by simp));have hid:(ae[k]?).getD 0=p5 m k:=(by rw[hi _ hq];rfl);have hget:=dO (hrd (p5 m k) (.inl ⟨k,hq⟩)) h1;have⟨h3,h4⟩:=jm h2;obtain⟨n2,a2,xs,b2,bs,mo,p2,q2,r2⟩:=Cu hi hv hrd ho r _ m' h hn hc hr;refine⟨[⟨.sl c,l'⟩]++n2,by rw[a2,aK],(k,.de c l')::xs,λag=>by simp only[aK,cons_append,bO,bZ,b2,aC],.dat (CT.sz X c,l'.map (CT.row X.toSE c))::bs,((bF (.de c' l)).sz=CT.sz X c/\dV ((bF (.de c' l)).rows.take (l'.map (CT.row X.toSE c)).length)=aL (l'.map (CT.row X.toSE c)))::mo,?_,?_,?_⟩
   ·intro p hp;rcases aM.1 hp with rfl |hp
    ·refine⟨h3,?_⟩;simp only[bF,h4];rw[take_of_length_le (by simp[aL])];simp[dV,aL,Function.comp_def,wk]
    ·exact p2 p hp
   ·simp only[aC,JV,DP,hid,hget,ah,q2,cons_append,bO];rfl
   ·intro j hs q o' hj hq' ho';cases j with
    |zero=>simp at hj
    |succ j=>exact r2 j hs q o' (by simpa using hj) (by simpa using hq') ho'
  ·rename_i kc vc tg ta l;split at h
   ·rename_i hone;have⟨l',h2,h⟩:=ai.1 h;have hm:=(mH r _ m' h).1;have hq:(p5 m k,k)∈NM:=hn _ (hm.1 _ (by simp));have hid:(ae[k]?).getD 0=p5 m k:=(by rw[hi _ hq];rfl);have hget:=dO (hrd (p5 m k) (.inl ⟨k,hq⟩)) h1;have hden:bF (.map tg ta l)=bF (.map kc vc l'):=by
     have⟨e,h2⟩:=mG h2;injection e with e1 e2;subst e1;subst e2;subst h2;rfl
    have hab:bF (.map kc vc l')=ia (List.length l',l'.map λq=>CT.row X.toSE kc q.1++CT.row X.toSE vc q.2):=by
     simp only[bF,ia,aL,map_map];congr 1;refine map_congr_left λq _=>?_;obtain⟨t1,g1,g2⟩:=row_one hone.1 q.1;obtain⟨t2,g3,g4⟩:=row_one hone.2 q.2;simp[g1,g2,g3,g4,TV.av]
    obtain⟨n2,a2,xs,b2,bs,mo,p2,q2,r2⟩:=Cu hi hv hrd ho r _ m' h hn hc hr;refine⟨[⟨.mp kc vc,l'⟩]++n2,by rw[a2,aK],(k,.map kc vc l')::xs,λag=>by simp only[aK,cons_append,bO,bZ,b2,aC],.dat (List.length l',l'.map λq=>CT.row X.toSE kc q.1++CT.row X.toSE vc q.2)::bs,((bF (.map tg ta l)).sz=List.length l'/\dV ((bF (.map tg ta l)).rows.take (l'.map λq=>CT.row X.toSE kc q.1++CT.row X.toSE vc q.2).length)=aL (l'.map λq=>CT.row X.toSE kc q.1++CT.row X.toSE vc q.2))::mo,?_,?_,?_⟩
    ·intro p hp;rcases aM.1 hp with rfl |hp
     ·rw[hden,hab];refine⟨rfl,?_⟩;simp only[ia];rw[take_of_length_le (by simp[aL])];simp[dV,aL,Function.comp_def,wk]
     ·exact p2 p hp
    ·simp only[aC,JV,DP,hid,hget,ah,q2,cons_append,bO,hab]
    ·intro j hs q o' hj hq' ho';cases j with
     |zero=>simp at hj
     |succ j=>exact r2 j hs q o' (by simpa using hj) (by simpa using hq') ho'
   ·cases h
  ·rename_i sz rows sz' rows';split at h
   ·rename_i hsz;have⟨m1,h2,h⟩:=ai.1 h;have hm1:=(Am rows _ _ m1 h2).1;have hm:=(mH r _ m' h).1;have hq:(p5 m k,k)∈NM:=hn _ (hm.1 _ (hm1.1 _ (by simp)));have hid:(ae[k]?).getD 0=p5 m k:=(by rw[hi _ hq];rfl);have hget:=dO (hrd (p5 m k) (.inl ⟨k,hq⟩)) h1;obtain⟨n1,a1,qs,b1,⟨hs1,o1,p1,q1⟩,r1⟩:=Tt (P:=P) hi hv hrd ho rows _ _ m1 h2 (λ q hq=>hn q (hm.1 q hq)) (λ q hq=>hc q (hm.2.1 q hq)) (λ q hq=>hr q (hm.2.2 q hq));obtain⟨n2,a2,xs,b2,bs,mo,p2,q2,r2⟩:=Cu hi hv hrd ho r _ m' h hn hc hr;subst hsz;refine⟨n1++n2,by rw[a2,a1,aK],(k,.cells sz qs)::xs,λag=>by simp only[aK,bZ,b1,b2,aC],.C2 hs1::bs,o1++mo,gU p1 p2,?_,?_⟩
    ·simp only[aC,JV,DP,hid,hget,ah,bF,q1,q2]
    ·intro j hs q o' hj hq' ho';cases j with
     |zero=>
      simp only[aC,List.getElem?_cons_zero,aA]at hq';rw[<- hq',hid,hget]at ho';injection ho' with ho';subst ho';exact λz hz=>r1 z (OQ hz)
     |succ j=>exact r2 j hs q o' (by simpa using hj) (by simpa using hq') ho'
   ·cases h
  ·cases h
end
end
end Go.Gb
