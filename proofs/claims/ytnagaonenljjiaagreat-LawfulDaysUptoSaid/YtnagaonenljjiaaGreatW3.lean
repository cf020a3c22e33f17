import Derived.Test.YtnagaonenljjiaaGreatW2
import Derived.ChangeSame
import Derived.Carry
import Derived.OpenShut
import Derived.SizedLaws
import Derived.WalkKit
import Derived.ProofKit
import Derived.Lib.LaidTab
open List (mem_map all_eq_true cons_append length_map append_nil map_map take_of_length_le map_congr_left flatten_cons map_nil all_cons map_take map_drop map_append)
namespace Go.Gb
open Go.RowKit Go.WideShapes Go.ChangeShapes
inductive CS where
 |int (k:IntKind)
 |bool
 |str
 |sl (row:List CS)
 |any
  |mu (row:List CS)
 |back
def an4:CS->Tree->Prop
 | .int k,x=>∃n,x= .sc (.int k n)/\(Lit.int k n).wf=true
 | .bool,x=>∃b,x= .sc (.bool b)
 | .str,x=>∃s,x= .sc (.string s)/\s.size<=maxLen
 |_,_=>False
def anz:CS->Nat
 | .int .i64=>8
 | .int _=>1
 | .bool=>1
 | .str=>16
 |_=>24
def Ks:CS->Nat
 | .int .i64=>8
 | .int _=>1
 | .bool=>1
 |_=>8
def S5:Nat->List CS->Nat
 |o,[]=>o
 |o,c::cs=>S5 ((o+(Ks c -1))/Ks c*Ks c+anz c) cs
def JT(r:List CS):Nat:=bif r.any (λ c=>Ks c==8)then(S5 0 r+7)/8*8 else S5 0 r
mutual
inductive E6(row:List CS):Tree->Prop
 |mk (rows:List (List Tree)) (hl:rows.length<=maxLen) (h:pf row rows):E6 row (.sl rows)
inductive pf(row:List CS):List (List Tree)->Prop
 |nil:pf row []
 |cons {r:List Tree} {rs:List (List Tree)} (h:jn row row r) (t:pf row rs):pf row (r::rs)
inductive jn(row:List CS):List CS->List Tree->Prop
 |nil:jn row [] []
 |back {cs:List CS} {x:Tree} {xs:List Tree} (h:E6 row x) (t:jn row cs xs):jn row (.back::cs) (x::xs)
 |one {c:CS} {cs:List CS} {x:Tree} {xs:List Tree} (h:an4 c x) (t:jn row cs xs):jn row (c::cs) (x::xs)
end
mutual
def Fit:CS->Tree->Prop
 | .int k,x=>∃n,x= .sc (.int k n)/\(Lit.int k n).wf=true
 | .bool,x=>∃b,x= .sc (.bool b)
 | .str,x=>∃s,x= .sc (.string s)/\s.size<=maxLen
 | .sl row,x=>∃rows,x= .sl rows/\(rows.length<=maxLen/\rows.length*JT row<=reachBytes)/\∀r∈rows,c9 row r
 | .any,_=>True
 | .mu row,x=>E6 row x
 | .back,_=>False
def c9:List CS->List Tree->Prop
 |[],[]=>True
 |c::cs,x::xs=>Fit c x/\c9 cs xs
 |_,_=>False
end
mutual
def nq:Tree->Nat
 | .sc (.string s)=>s.size+1
 | .sc _=>1
 | .sl rows=>Dk rows+1
def Dk:List (List Tree)->Nat
 |[]=>0
 |r::rs=>kP r+Dk rs
def kP:List Tree->Nat
 |[]=>0
 |x::xs=>nq x+kP xs
end
theorem Co:∀a b:List Tree,kP (a++b)=kP a+kP b
 |[],b=>by simp[kP]
 |x::a,b=>by simp only[cons_append,kP,Co a b];omega
structure Bk(H:Type) where
 b:DataW H->Nat
 a:List (DataW H)->Nat
 str:∀l,b (.lit (.string l))=l.length+1
 int:∀k n,b (.lit (.int k n))=1
 bool:∀v,b (.lit (.bool v))=1
 nil:b .nil=1
 sl:∀e s,b (.slice e s)=a e+a s+1
 agg:∀p,b (.agg p)=a p+1
 a0:a []=0
 a1:∀d r,a (d::r)=b d+a r
theorem Bk.app{H:Type}(K:Bk H)(l r:List (DataW H)):K.a (l++r)=K.a l+K.a r:=by
 induction l with
 |nil=>simp[K.a0]
 |cons x l ih=>simp only[cons_append,K.a1,ih];omega
theorem Bk.drop{H:Type}(K:Bk H){l:List (DataW H×List MemPlace)}{j:Nat}{y:DataW H×List MemPlace}(h:l[j]? =some y):K.a ((l.map (·.1)).drop j)=K.b y.1+K.a ((l.map (·.1)).drop (j+1)):=by
 obtain⟨hj,rfl⟩:=cO.1 h;rw[List.drop_eq_getElem_cons (by simpa using hj),K.a1];simp
def vA(P:Program)(go:TypeId->Option (List CS)):Nat->List Field->Option (List CS)
 |_,[]=>some []
 |o,f::fs=>(go f.type).bind λa=>if f.offset=o/\a.length=P.cellsOf f.type then(vA P go (o+a.length) fs).map (a++ ·)else none
def Vc(P:Program)(t u:TypeId):Option (List CS):=if u=t then some [.back]else match P.underlying u with
 |some (.int k)=>some [.int k]
 |some .bool=>some [.bool]
 |some .string=>some [.str]
 |_=>none
def Kf(P:Program)(t e:TypeId):Option (List CS):=match P.underlying e with
 |some (.struct fs)=>(vA P (Vc P t) 0 fs.toList).bind λr=>if r.length=P.cellsOf e/\0<r.length then some r else none
 |_=>none
def wd(P:Program)(cut:List TypeId):Nat->TypeId->Option (List CS)
 | 0,_=>none
 |n+1,t=>match P.underlying t with
  |some (.int k)=>some [.int k]
  |some .bool=>some [.bool]
  |some .string=>some [.str]
  |some (.slice e)=>if cut.contains t then(match Kf P t e with |some row=>some [.mu row] |none=>some [.any])else(wd P cut n e).bind λr=>if r.length=P.cellsOf e/\0<r.length/\JT r<=P.bytesOf e then some [.sl r]else none
  |some (.struct fs)=>(vA P (wd P cut n) 0 fs.toList).bind λr=>if r.length=P.cellsOf t then some r else none
  |some (.array m e)=>(wd P cut n e).bind λr=>if r.length=P.cellsOf e/\m*r.length=P.cellsOf t then some (List.replicate m r).flatten else none
  |_=>none
theorem c9.length:∀(cs:List CS)(ts:List Tree),c9 cs ts->ts.length=cs.length
 |[],[],_=>rfl
 |c::cs,x::xs,h=>by simp only[c9]at h;simp[c9.length cs xs h.2]
 |[],_::_,h=>by simp[c9]at h
 |_::_,[],h=>by simp[c9]at h
theorem c9.append:∀(cs:List CS)(ts:List Tree){cs':List CS}{ts':List Tree},c9 cs ts->c9 cs' ts'->c9 (cs++cs') (ts++ts')
 |[],[],_,_,_,h=>h
 |c::cs,x::xs,_,_,h,h'=>by simp only[c9,cons_append]at h ⊢;exact⟨h.1,c9.append cs xs h.2 h'⟩
 |[],_::_,_,_,h,_=>by simp[c9]at h
 |_::_,[],_,_,h,_=>by simp[c9]at h
def Here(w:World)(b:Nat):Prop:=b<w.heap.size
section
variable {w:World} {I:Nat->Prop}
theorem eJ.append:∀(ts:List Tree)(cs:List Value){ts':List Tree}{cs':List Value},eJ w I ts cs->eJ w I ts' cs'->eJ w I (ts++ts') (cs++cs')
 |[],[],_,_,_,h=>h
 |_::xs,_::vs,_,_,h,h'=>⟨h.1,eJ.append xs vs h.2 h'⟩
 |[],_::_,_,_,h,_=>h.elim
 |_::_,[],_,_,h,_=>h.elim
theorem eJ.length:∀(ts:List Tree)(cs:List Value),eJ w I ts cs->ts.length=cs.length
 |[],[],_=>rfl
 |_::xs,_::vs,h=>by simp[eJ.length xs vs h.2]
 |[],_::_,h=>h.elim
 |_::_,[],h=>h.elim
theorem W7:∀(ts:List Tree)(cs:List Value)(b aa:Nat),eJ w I ts cs->(∀ i,i<cs.length->w.cell? ⟨b,aa+i,none⟩=cs[i]?)->dp w I ts b aa
 |[],[],_,_,_,_=>by simp[dp]
 |x::xs,v::vs,b,aa,h,hc=>by
  simp only[dp];refine⟨⟨v,by simpa using hc 0 (by simp),h.1⟩,W7 xs vs b (aa+1) h.2 λi hi=>?_⟩;have:=hc (i+1) (by simpa using hi);rw[show aa+(i+1)=aa+1+i by omega]at this;simpa using this
 |[],_::_,_,_,h,_=>h.elim
 |_::_,[],_,_,h,_=>h.elim
end
section
variable {H:Type} {enc:TypeId×Value->H} {P:Program} {w:World} {sp:Nat->Bool} {held:Bool}
theorem QM{a:Addr}{v:Value}(h:w.cell? a=some v):a.spot=none/\a.block<w.heap.size:=by
 simp only[World.cell?]at h;split at h
 ·rename_i c e st hc;split at h
  ·cases h
  ·rename_i hs;exact⟨by simpa using hs,(Array.getElem?_eq_some_iff.1 hc).1⟩
 ·cases h
def MT(P:Program)(t:TypeId)(x:DataW H×List MemPlace):Prop:=∀k∈x.1.weights P t,k<=reachBytes
theorem Aa{e:TypeId}:∀{l:List (DataW H)}{d:DataW H},d∈l->∀k∈d.weights P e,k∈DataW.weightsAll P e l
 |a::l,d,h,k,hk=>by
  simp only[DataW.weightsAll,aV];rcases aO.1 h with rfl |h
  ·exact .inl hk
  ·exact .inr (Aa h k hk)
theorem bsize(v:ByteArray):v.data.toList.length=v.size:=by rw[Array.length_toList];rfl
theorem SG(m:Nat)(cs:List Value)(go:TypeId->Option (List CS))(hgo:∀t sh,go t=some sh->∀cs x,DataW.trod enc P w 0 sp held m t cs=some x->MT P t x->∃ts,eJ w (Here w) ts cs/\c9 sh ts/\∀K:Bk H,kP ts<=K.b x.1):
 ∀(fs:List Field)(l:List (DataW H×List MemPlace))(o:Nat)(sh:List CS),vA P go o fs=some sh->l.length=fs.length->(∀ (i:Nat) (f:Field) (x:DataW H×List MemPlace),fs[i]? =some f->l[i]? =some x->DataW.trod enc P w 0 sp held m f.type ((cs.drop f.offset).take (P.cellsOf f.type))=some x/\MT P f.type x)->
  ∃ts,eJ w (Here w) ts ((cs.drop o).take sh.length)/\c9 sh ts/\∀K:Bk H,kP ts<=K.a (l.map (·.1))
 |[],l,o,sh,h,_,_=>by
  simp only[vA,aA]at h;subst h;exact⟨[],by simp[eJ],by simp[c9],λK=>by simp[kP]⟩
 |f::fs,[],o,sh,h,hl,hf=>by simp at hl
 |f::fs,x::l,o,sh,h,hl,hf=>by
  simp only[vA,ai]at h;obtain⟨a,h1,h2⟩:=h;split at h2
  ·rename_i hc;obtain⟨hc1,hc2⟩:=hc;simp only[eO]at h2;obtain⟨r,h3,rfl⟩:=h2;have⟨hx,hz⟩:=hf 0 f x rfl rfl;obtain⟨ts,g1,g2,k1⟩:=hgo _ _ h1 _ _ hx hz;obtain⟨ts',g3,g4,k2⟩:=SG m cs go hgo fs l _ _ h3 (by simpa using hl) λi f' x' hf' hx'=>hf (i+1) f' x' hf' hx';refine⟨ts++ts',?_,c9.append _ _ g2 g4,λK=>by have:=k1 K;have:=k2 K;rw[Co,aC,K.a1];omega⟩;rw[dF,List.take_add,List.drop_drop];rw[hc1,<- hc2]at g1;exact eJ.append _ _ g1 g3
  ·cases h2
theorem jn.append{row:List CS}:∀{a b:List CS}{x y:List Tree},jn row a x->jn row b y->jn row (a++b) (x++y)
 |_,_,_,_,.nil,h=>h
 |_,_,_,_,.back h t,h'=> .back h (t.append h')
 |_,_,_,_,.one h t,h'=> .one h (t.append h')
theorem Oq{row:List CS}(m:Nat)(cs:List Value)(go:TypeId->Option (List CS))(hgo:∀t sh,go t=some sh->∀cs x,DataW.trod enc P w 0 sp held m t cs=some x->∃ts,eJ w (Here w) ts cs/\jn row sh ts/\∀K:Bk H,kP ts<=K.b x.1):
 ∀(fs:List Field)(l:List (DataW H×List MemPlace))(o:Nat)(sh:List CS),vA P go o fs=some sh->l.length=fs.length->(∀ (i:Nat) (f:Field) (x:DataW H×List MemPlace),fs[i]? =some f->l[i]? =some x->DataW.trod enc P w 0 sp held m f.type ((cs.drop f.offset).take (P.cellsOf f.type))=some x)->
  ∃ts,eJ w (Here w) ts ((cs.drop o).take sh.length)/\jn row sh ts/\∀K:Bk H,kP ts<=K.a (l.map (·.1))
 |[],l,o,sh,h,_,_=>by
  simp only[vA,aA]at h;subst h;exact⟨[],by simp[eJ],.nil,λK=>by simp[kP]⟩
 |f::fs,[],o,sh,h,hl,hf=>by simp at hl
 |f::fs,x::l,o,sh,h,hl,hf=>by
  simp only[vA,ai]at h;obtain⟨a,h1,h2⟩:=h;split at h2
  ·rename_i hc;obtain⟨hc1,hc2⟩:=hc;simp only[eO]at h2;obtain⟨r,h3,rfl⟩:=h2;have hx:=hf 0 f x rfl rfl;obtain⟨ts,g1,g2,k1⟩:=hgo _ _ h1 _ _ hx;obtain⟨ts',g3,g4,k2⟩:=Oq m cs go hgo fs l _ _ h3 (by simpa using hl) λi f' x' hf' hx'=>hf (i+1) f' x' hf' hx';refine⟨ts++ts',?_,g2.append g4,λK=>by have:=k1 K;have:=k2 K;rw[Co,aC,K.a1];omega⟩;rw[dF,List.take_add,List.drop_drop];rw[hc1,<- hc2]at g1;exact eJ.append _ _ g1 g3
  ·cases h2
theorem alD{t e:TypeId}{row:List CS}(hk:P.underlying t=some (.slice e))(hm:Kf P t e=some row):∀(fuel:Nat)(cs:List Value)(x:DataW H×List MemPlace),DataW.trod enc P w 0 sp held fuel t cs=some x->∃tr,eJ w (Here w) [tr] cs/\E6 row tr/\∀K:Bk H,nq tr<=K.b x.1:=by
 intro fuel
 induction fuel using Nat.strongRecOn with
 |_ fuel ih=>
 intro cs x hx;have one:∀m,m<fuel->∀s6 y,DataW.trod enc P w 0 sp held m e s6=some y->∃ts,eJ w (Here w) ts s6/\jn row row ts/\ts.length=row.length/\∀K:Bk H,kP ts<=K.b y.1:=by
  intro m hmf s6 y hy;unfold Kf at hm;split at hm
  ·rename_i fs hke;simp only[ai]at hm;obtain⟨r,h1,h2⟩:=hm;split at h2
   ·rename_i hr;injection h2 with h2;subst h2;obtain⟨xs,m',hm',rfl,hl,hxs,hf⟩:=DataW.trod_struct hke hy;obtain⟨ts,g1,g2,k1⟩:=Oq (row:=r) m' s6 (Vc P t) (λ u sh hsh cs x hx=>by
     unfold Vc at hsh;split at hsh
     ·rename_i hu;cases hsh;rw[hu]at hx;obtain⟨tr,a1,a2,a3⟩:=ih m' (by omega) cs x hx;exact⟨[tr],a1,.back a2 .nil,λK=>by have:=a3 K;simp only[kP];omega⟩
     ·split at hsh
      ·rename_i k zd;cases hsh;obtain⟨v,rfl,rfl,hw⟩:=DataW.trod_int zd hx;exact⟨[.sc (.int k v)],by simp[eJ,TR,oneCell],.one ⟨v,rfl,hw⟩ .nil,λK=>by simp[kP,nq,K.int]⟩
      ·rename_i zd;cases hsh;obtain⟨v,rfl,rfl⟩:=DataW.trod_bool zd hx;exact⟨[.sc (.bool v)],by simp[eJ,TR,oneCell],.one ⟨v,rfl⟩ .nil,λK=>by simp[kP,nq,K.bool]⟩
      ·rename_i zd;cases hsh;obtain⟨v,rfl,rfl,hw⟩:=DataW.trod_string zd hx;exact⟨[.sc (.string v)],by simp[eJ,TR,oneCell],.one ⟨v,rfl,hw⟩ .nil,λK=>by simp[kP,nq,K.str,bsize]⟩
      ·cases hsh) fs.toList xs 0 r h1 (by simpa using hxs) (λ i f x hi hxi=>by
     have hi':fs[i]? =some f:=(by simpa using hi);rw[hf i f hi',hxi])
    rw[List.drop_zero,take_of_length_le (by omega)]at g1;refine⟨ts,g1,g2,?_,λK=>by have:=k1 K;rw[K.agg];omega⟩;rw[eJ.length _ _ g1];omega
   ·cases h2
  ·cases hm
 have rl:row.length=P.cellsOf e/\0<row.length:=by
  unfold Kf at hm;split at hm
  ·simp only[ai]at hm;obtain⟨r,h1,h2⟩:=hm;split at h2
   ·rename_i hr;cases h2;exact hr
   ·cases h2
  ·cases hm
 rcases DataW.trod_slice hk hx with ⟨rfl,rfl⟩ |⟨a,len,cap,elems,ag,m,hfm,rfl,rfl,_,hl,hmx,hlen,hel,_,_⟩
 ·refine⟨.sl [],?_,.mk [] (by simp[maxLen]) .nil,λK=>by simp[nq,Dk,K.nil]⟩;simp only[eJ,TR];exact⟨.inl ⟨trivial,none,0,rfl,λ_=>rfl⟩,trivial⟩
 ·have each:∀i,i<len->∃s6 y,w.cells? 0 (a.add (i*P.cellsOf e)) (P.cellsOf e)=some s6/\DataW.trod enc P w 0 sp held m e s6=some y/\elems[i]? =some y:=by
   intro i hi;have h3:=hel i hi;have h6:elems[i]? =some (elems[i]'(by omega)):=dG (by omega);rw[h6,ai]at h3;obtain⟨s6,h4,h5⟩:=h3;exact⟨s6,_,h4,h5,h6⟩
  by_cases h0:len=0
  ·subst h0;refine⟨.sl [],?_,.mk [] (by simp[maxLen]) .nil,λK=>by simp[nq,Dk,K.sl]⟩;simp only[eJ,TR];exact⟨.inl ⟨trivial,some a,cap,rfl,λh=>by cases h⟩,trivial⟩
  ·obtain⟨cs0,y0,c0,_,_⟩:=each 0 (by omega);obtain⟨_,c1,c2⟩:=World.cells?_some c0;have c3:=c2 0 (by omega);rw[dG (by omega)]at c3;have c4:=QM c3;simp only[Nat.zero_mul,Addr.add,if_true]at c4;obtain⟨b,aa,s⟩:=a;simp only at c4;obtain⟨rfl,hb⟩:=c4;have rows:∀q j,j+q=len->∃rows:List (List Tree),rows.length=q/\cg w (Here w) rows b (aa+j*P.cellsOf e) (P.cellsOf e)/\pf row rows/\∀K:Bk H,Dk rows<=K.a ((elems.map (·.1)).drop j):=by
    intro q
    induction q with
    |zero=>intro j _;exact⟨[],rfl,by simp[cg],.nil,λK=>by simp[Dk]⟩
    |succ q ihq=>
     intro j hj;obtain⟨rows,g1,g2,g3,k3⟩:=ihq (j+1) (by omega);obtain⟨csj,y,g4,g5,gy⟩:=each j (by omega);obtain⟨ts,g6,g7,_,k6⟩:=one m (by omega) _ _ g5;obtain⟨_,g8,g9⟩:=World.cells?_some g4;refine⟨ts::rows,by simp[g1],?_,.cons g7 g3,λK=>by have:=k3 K;have:=k6 K;rw[K.drop gy,Dk];omega⟩;simp only[cg];refine⟨(eJ.length _ _ g6).trans g8,W7 _ _ _ _ g6 λi hi=>?_,?_⟩
     ·rw[<- g9 i (by omega),addr_add,addr_add]
     ·rw[show aa+j*P.cellsOf e+P.cellsOf e=aa+(j+1)*P.cellsOf e by rw[Nat.add_mul];omega];exact g2
   obtain⟨rows,g1,g2,g3,k3⟩:=rows len 0 (by omega);refine⟨.sl rows,?_,.mk rows (by omega) g3,λK=>by have:=k3 K;rw[List.drop_zero]at this;rw[K.sl,nq];omega⟩;simp only[eJ,TR];exact⟨.inr ⟨b,aa,cap,P.cellsOf e,by rw[g1],by omega,hb,by simpa using g2⟩,trivial⟩
theorem Gq{cut:List TypeId}:∀(n:Nat)(t:TypeId)(sh:List CS),wd P cut n t=some sh->∀(fuel:Nat)(cs:List Value)(x:DataW H×List MemPlace),DataW.trod enc P w 0 sp held fuel t cs=some x->MT P t x->
 ∃ts,eJ w (Here w) ts cs/\c9 sh ts/\∀K:Bk H,kP ts<=K.b x.1
 | 0,_,_,h,_,_,_,_,_=>by simp[wd]at h
 |n+1,t,sh,h,fuel,cs,x,hx,hz=>by
  unfold wd at h;split at h
  ·rename_i k hk;cases h;obtain⟨v,rfl,rfl,hw⟩:=DataW.trod_int hk hx;exact⟨[.sc (.int k v)],by simp[eJ,TR,oneCell],by simp only[c9,Fit];exact⟨⟨v,rfl,hw⟩,trivial⟩,λK=>by simp[kP,nq,K.int]⟩
  ·rename_i hk;cases h;obtain⟨v,rfl,rfl⟩:=DataW.trod_bool hk hx;exact⟨[.sc (.bool v)],by simp[eJ,TR,oneCell],by simp only[c9,Fit];exact⟨⟨v,rfl⟩,trivial⟩,λK=>by simp[kP,nq,K.bool]⟩
  ·rename_i hk;cases h;obtain⟨v,rfl,rfl,hw⟩:=DataW.trod_string hk hx;exact⟨[.sc (.string v)],by simp[eJ,TR,oneCell],by simp only[c9,Fit];exact⟨⟨v,rfl,hw⟩,trivial⟩,λK=>by simp[kP,nq,K.str,bsize]⟩
  ·rename_i e hk;split at h
   ·split at h
    ·rename_i row hmr;cases h;have⟨tr,g1,g2,k1⟩:=alD hk hmr fuel cs x hx;exact⟨[tr],g1,by simp only[c9,Fit];exact⟨g2,trivial⟩,λK=>by have:=k1 K;simp only[kP];omega⟩
    cases h;rcases DataW.trod_slice hk hx with ⟨rfl,rfl⟩ |⟨a,len,cap,elems,ag,m,_,rfl,rfl,_,hl,hm,hlen,hel,_,_⟩
    ·exact⟨[.sc (.slice none 0 0)],by simp[eJ,TR,oneCell],by simp[c9,Fit],λK=>by simp[kP,nq,K.nil]⟩
    ·exact⟨[.sc (.slice (some a) len cap)],by simp[eJ,TR,oneCell],by simp[c9,Fit],λK=>by simp[kP,nq,K.sl]⟩
   simp only[ai]at h;obtain⟨r,h1,h2⟩:=h;split at h2
   ·rename_i hr;cases h2;rcases DataW.trod_slice hk hx with ⟨rfl,rfl⟩ |⟨a,len,cap,elems,ag,m,_,rfl,rfl,_,hl,hm,hlen,hel,_,_⟩
    ·refine⟨[.sl []],?_,by simp only[c9,Fit];exact⟨⟨[],rfl,by simp[maxLen],by simp⟩,trivial⟩,λK=>by simp[kP,nq,Dk,K.nil]⟩;simp only[eJ,TR];exact⟨.inl ⟨trivial,none,0,rfl,λ_=>rfl⟩,trivial⟩
    ·have hzw:∀k,k=(elems.length+ag.length)*P.bytesOf e\/k∈DataW.weightsAll P e (elems.map (·.1))->k<=reachBytes:=by
      intro k hkk;refine hz k ?_;simp only[DataW.weights,hk,aO,aV,length_map];rcases hkk with h |h
      ·exact .inl h
      ·exact .inr (.inl h)
     have each:∀i,i<len->∃s6 y,w.cells? 0 (a.add (i*P.cellsOf e)) (P.cellsOf e)=some s6/\DataW.trod enc P w 0 sp held m e s6=some y/\MT P e y/\elems[i]? =some y:=by
      intro i hi;have h3:=hel i hi;have h6:elems[i]? =some (elems[i]'(by omega)):=dG (by omega);rw[h6,ai]at h3;obtain⟨s6,h4,h5⟩:=h3;exact⟨s6,_,h4,h5,λk hk=>hzw k (.inr (Aa (mem_map.2 ⟨_,List.getElem_mem (by omega),rfl⟩) k hk)),h6⟩
     have hbytes:len*JT r<=reachBytes:=by
      have h1:=hzw _ (.inl rfl);have h2:len*JT r<=(elems.length+ag.length)*P.bytesOf e:=Nat.mul_le_mul (by omega) hr.2.2;omega
     by_cases h0:len=0
     ·subst h0;refine⟨[.sl []],?_,by simp only[c9,Fit];exact⟨⟨[],rfl,by simp[maxLen],by simp⟩,trivial⟩,λK=>by simp[kP,nq,Dk,K.sl]⟩;simp only[eJ,TR];exact⟨.inl ⟨trivial,some a,cap,rfl,λh=>by cases h⟩,trivial⟩
     ·obtain⟨cs0,y0,c0,_,_,_⟩:=each 0 (by omega);obtain⟨_,c1,c2⟩:=World.cells?_some c0;have c3:=c2 0 (by omega);rw[dG (by omega)]at c3;have c4:=QM c3;simp only[Nat.zero_mul,Addr.add,if_true]at c4;obtain⟨b,aa,s⟩:=a;simp only at c4;obtain⟨rfl,hb⟩:=c4;have rows:∀m j,j+m=len->∃rows:List (List Tree),rows.length=m/\cg w (Here w) rows b (aa+j*P.cellsOf e) (P.cellsOf e)/\(∀ x∈rows,c9 r x)/\∀K:Bk H,Dk rows<=K.a ((elems.map (·.1)).drop j):=by
       intro m
       induction m with
       |zero=>intro j _;exact⟨[],rfl,by simp[cg],by simp,λK=>by simp[Dk]⟩
       |succ m ih=>
        intro j hj;obtain⟨rows,g1,g2,g3,k3⟩:=ih (j+1) (by omega);obtain⟨csj,y,g4,g5,g5z,gy⟩:=each j (by omega);obtain⟨ts,g6,g7,k6⟩:=Gq n e r h1 _ _ _ g5 g5z;obtain⟨_,g8,g9⟩:=World.cells?_some g4;refine⟨ts::rows,by simp[g1],?_,λx hx=>?_,λK=>by have:=k3 K;have:=k6 K;rw[K.drop gy,Dk];omega⟩
        ·simp only[cg];refine⟨(eJ.length _ _ g6).trans g8,W7 _ _ _ _ g6 λi hi=>?_,?_⟩
         ·rw[<- g9 i (by omega),addr_add,addr_add]
         ·rw[show aa+j*P.cellsOf e+P.cellsOf e=aa+(j+1)*P.cellsOf e by rw[Nat.add_mul];omega];exact g2
        ·rcases aO.1 hx with rfl |hx
         ·exact g7
         ·exact g3 x hx
      obtain⟨rows,g1,g2,g3,k3⟩:=rows len 0 (by omega);refine⟨[.sl rows],?_,by simp only[c9,Fit];exact⟨⟨rows,rfl,⟨by omega,by rw[g1];exact hbytes⟩,g3⟩,trivial⟩,λK=>by have:=k3 K;rw[List.drop_zero]at this;rw[K.sl];simp only[kP,nq];omega⟩;simp only[eJ,TR];exact⟨.inr ⟨b,aa,cap,P.cellsOf e,by rw[g1],by omega,hb,by simpa using g2⟩,trivial⟩
   ·cases h2
  ·rename_i fs hk;simp only[ai]at h;obtain⟨r,h1,h2⟩:=h;split at h2
   ·rename_i hr;injection h2 with h2;subst h2;obtain⟨xs,m,_,rfl,hl,hxs,hf⟩:=DataW.trod_struct hk hx;obtain⟨ts,g1,g2,k1⟩:=SG m cs (wd P cut n) (λ t sh hsh cs x hx hz=>Gq n t sh hsh m cs x hx hz) fs.toList xs 0 r h1 (by simpa using hxs) (λ i f x hi hxi=>by
     have hi':fs[i]? =some f:=(by simpa using hi);have:=hf i f hi';rw[hxi]at this;refine⟨this,λk hk'=>hz k ?_⟩;simp only[DataW.weights,hk];exact DataW.weights_mem_each (j:=i) (t:=f.type) (d:=x.1) (by simp[hi']) (by simp[hxi]) k hk')
    refine⟨ts,?_,g2,λK=>by have:=k1 K;rw[K.agg];omega⟩;rw[List.drop_zero,take_of_length_le (by omega)]at g1;exact g1
   ·cases h2
  ·rename_i m e hk;simp only[ai]at h;obtain⟨r,h1,h2⟩:=h;split at h2
   ·rename_i hr;cases h2;obtain⟨xs,q,_,rfl,hl,hxs,hf⟩:=DataW.trod_array hk hx;have part:∀i j,j+i=m->∃ts,eJ w (Here w) ts (cs.drop (j*P.cellsOf e))/\c9 (List.replicate i r).flatten ts/\∀K:Bk H,kP ts<=K.a ((xs.map (·.1)).drop j):=by
     intro i
     induction i with
     |zero=>
      intro j hj;refine⟨[],?_,by simp[c9],λK=>by simp[kP]⟩;have:j=m:=(by omega);subst this;rw[List.drop_of_length_le (by rw[hl,<- hr.2,<- hr.1];omega)];simp[eJ]
     |succ i ih=>
      intro j hj;obtain⟨ts,g1,g2,k1⟩:=ih (j+1) (by omega);have:=hf j (by omega);have hxj:xs[j]? =some (xs[j]'(by omega)):=dG (by omega);rw[hxj]at this;obtain⟨ts0,g3,g4,k3⟩:=Gq n e r h1 _ _ _ this (λ k hk'=>hz k (by
       simp only[DataW.weights,hk];exact Aa (mem_map.2 ⟨_,List.getElem_mem (by omega),rfl⟩) k hk'))
      refine⟨ts0++ts,?_,?_,λK=>by have:=k1 K;have:=k3 K;rw[K.drop hxj,Co];omega⟩
      ·have:=eJ.append _ _ g3 g1;rw[show (j+1)*P.cellsOf e=j*P.cellsOf e+P.cellsOf e by rw[Nat.add_mul];omega,<- List.drop_drop,List.take_append_drop]at this;exact this
      ·rw[List.replicate_succ,flatten_cons];exact c9.append _ _ g4 g2
    obtain⟨ts,g1,g2,k1⟩:=part m 0 (by omega);exact⟨ts,by simpa using g1,g2,λK=>by have:=k1 K;rw[List.drop_zero]at this;rw[K.agg];omega⟩
   ·cases h2
  ·cases h
inductive VS where
 |one (c:CS)
 |agg (cs:List CS)
def HO(P:Program)(cut:List TypeId)(t:TypeId):Option VS:=
 (wd P cut 12 t).bind λsh=>match P.underlying t with
  |some (.struct _) |some (.array _ _)=>some (.agg sh)
  |_=>match sh with
   |[c]=>some (.one c)
   |_=>none
def De:VS->TV->Prop
 | .one c,x=>∃y,x= .s y/\Fit c y
 | .agg cs,x=>∃ys,x= .a ys/\c9 cs ys
def Wl:List VS->List TV->Prop
 |[],[]=>True
 |s::ss,x::xs=>De s x/\Wl ss xs
 |_,_=>False
def It:TV->Nat
 | .s y=>nq y
 | .a ys=>kP ys
def Wm:List TV->Nat
 |[]=>0
 |x::xs=>It x+Wm xs
theorem ajS{cut:List TypeId}{t:TypeId}{s:VS}{v:Value}{d:DataW H}{ps:List MemPlace}{b0:Nat}(hs:HO P cut t=some s)(hval:Value.okWide P w .any b0 t v)(hd:DataW.Trod enc P w 0 sp held t v d ps)(hz:∀k∈d.weights P t,k<=reachBytes):
 ∃x,so w (Here w) x v/\De s x/\∀K:Bk H,It x<=K.b d:=by
 obtain⟨fuel,hf⟩:=hd;simp only[HO,ai]at hs;obtain⟨sh,h1,h2⟩:=hs;obtain⟨ts,g1,g2,k1⟩:=Gq 12 t sh h1 _ _ _ hf hz;have hag:∀cs:Array Value,v= .agg cs->s= .agg sh->∃x,so w (Here w) x v/\De s x/\∀K:Bk H,It x<=K.b d:=by
  rintro cs rfl rfl;exact⟨.a ts,⟨cs,rfl,by simpa[Value.cells]using g1⟩,⟨ts,rfl,g2⟩,k1⟩
 unfold Value.okWide at hval;split at h2
 ·rename_i hu;injection h2 with h2;rw[hu]at hval;obtain⟨cs,rfl,_⟩:=hval;exact hag cs rfl h2.symm
 ·rename_i hu;injection h2 with h2;rw[hu]at hval;obtain⟨cs,rfl,_⟩:=hval;exact hag cs rfl h2.symm
 ·rename_i hu1 hu2;split at h2
  ·rename_i c;cases h2;have hone:v.cells.toList=[v]:=by
    cases hu:P.underlying t with
    |none=>rw[hu]at hval;simp[Cell.okWide,Cell.ok,hu]at hval
    |some d=>
     rw[hu]at hval;cases v<;>first |rfl |(exfalso;revert hval;cases d<;>simp_all [Cell.okWide,Cell.ok])
   rw[hone]at g1
   match ts,g1,g2,k1 with
   |[y],g1,g2,k1=>
    simp only[c9]at g2;exact⟨.s y,g1.1,⟨y,rfl,g2.1⟩,λK=>by have:=k1 K;simpa[kP,It]using this⟩
   |[],g1,_,_=>exact g1.elim
   |_::_::_,g1,_,_=>exact g1.2.elim
  ·cases h2
theorem aal{cut:List TypeId}:∀{ts:List TypeId}{ss:List VS}{vs:List Value}{ds:List (DataW H)}{ps:List MemPlace}{b0:Nat},ts.mapM (HO P cut)=some ss->
 (∀ (j:Nat) t v,ts[j]? =some t->vs[j]? =some v->Value.okWide P w .any b0 t v)->DataW.TrodAll enc P w 0 sp held ts vs ds ps->(∀ k∈DataW.weightsEach P ts ds,k<=reachBytes)->∃xs,mw w (Here w) xs vs/\Wl ss xs/\∀K:Bk H,Wm xs<=K.a ds
 |[],ss,vs,ds,ps,b0,hs,_,hd,_=>by
  obtain⟨rfl,rfl,rfl⟩:=trodAll_nil hd;simp only[List.mapM_nil,Option.pure_def,aA]at hs;subst hs;exact⟨[],trivial,trivial,λK=>by simp[Wm]⟩
 |t::ts,ss,vs,ds,ps,b0,hs,hval,hd,hz=>by
  obtain⟨v,vs',d,ds',p,q,rfl,rfl,rfl,h0,r0⟩:=trodAll_cons hd;simp only[List.mapM_cons,Option.bind_eq_bind,ai,Option.pure_def,aA]at hs;obtain⟨s,h1,ss',h2,rfl⟩:=hs;obtain⟨x,g1,g2,k1⟩:=ajS h1 (hval 0 t v rfl rfl) h0 (λ k hk=>hz k (by simp only[DataW.weightsEach,aV];exact .inl hk));obtain⟨xs,g3,g4,k2⟩:=aal h2 (λ j t v h h'=>hval (j+1) t v h h') r0 (λ k hk=>hz k (by simp only[DataW.weightsEach,aV];exact .inr hk));exact⟨x::xs,⟨g1,g3⟩,⟨g2,g4⟩,λK=>by have:=k1 K;have:=k2 K;rw[Wm,K.a1];omega⟩
theorem SH{β:Nat->Option cE}{I:Nat->Prop}:∀(xs:List TV)(vs:List Value),mw w I xs vs->bj P β w I (xs.map TV.av) vs
 |[],[],_=>by simp[bj]
 |x::xs,v::vs,h=>by
  simp only[aC,bj];refine⟨?_,SH xs vs h.2⟩;have h1:=h.1;cases x with
  |s y=>simp only[TV.av,VR];exact h1
  |a cs=>
   obtain⟨us,rfl,h2⟩:=h1;simp only[TV.av,VR];refine⟨us,rfl,?_⟩;have:∀(cs:List Tree) (us:List Value),eJ w I cs us->bj P β w I (cs.map AV.t) us:=by
    intro cs
    induction cs with
    |nil=>intro us h;cases us<;>first |(simp [bj];done) |exact h.elim
    |cons c cs ih=>intro us h;cases us with
     |nil=>exact h.elim
     |cons u us=>simp only[aC,bj,VR];exact⟨h.1,ih us h.2⟩
   exact this cs us.toList h2
 |[],_::_,h=>h.elim
 |_::_,[],h=>h.elim
end
section
variable {H:Type} {enc:TypeId×Value->H} {P:Program}
theorem afF{f:Func}{s:ChangeSpec}{apart fresh handsOn again:Bool}{W W':World}{args:Array Value}{v:Value}{ds gs:List (DataW H)}{before pa pv:List MemPlace}
 (hW:DataW.Whole enc P f.params.toList s.vars apart W args.toList ds gs before)
 (hres:∀(b:Nat)(sp:Nat->Bool)(hd:Bool),DataW.TrodAll enc P W' b sp hd f.resultTypes.toList (v.resultList f.resultTypes.size) (s.fn H (ds++gs)).results [])
 (hargs:∀sp:Nat->Bool,(∀ p∈before,sp p.block=true)->DataW.TrodAll enc P W' 0 sp true f.params.toList args.toList (s.fn H (ds++gs)).args pa)
 (hvars:∀sp:Nat->Bool,(∀ p∈before,sp p.block=true)->DataW.TrodVars enc P W' sp s.vars (s.fn H (ds++gs)).vars pv)
 (hps:before=pa++pv) (hb:Below W.heap.size W W')
 (hok:∀(j:Nat)(t:TypeId)(r:Value),f.resultTypes[j]? =some t->(v.resultList f.resultTypes.size)[j]? =some r->Value.okWide P W' .any 0 t r):
 s.post enc P f apart fresh handsOn again W args v W':=by
 have hlt:∀p∈before,p.block<W.heap.size:=λp hp=>hW.lt p hp;have hold:∀p∈before,(λ b=>decide (b<W.heap.size)) p.block=true:=λp hp=>by simpa using hlt p hp
 refine⟨ds,gs,before,[],pa,pv,hW,hres _ _ _,hargs _ hold,hvars _ hold,World.keptBut_mono (λ p hp=>⟨hp,?_⟩) (hb.frame (· ∈before)),λ_=>?_⟩
 ·rw[hps,aV]at hp;exact Or.inr hp
 ·obtain⟨_,_,_,_,_,hz,hn⟩:=hW;refine⟨hok,_,_,([]++pa)++pv,⟨[]++pa,pv,trodAll_append (hargs _ (λ _ _=>rfl)) (hres _ _ _),hvars _ (λ _ _=>rfl),rfl,?_,?_⟩,?_⟩
  ·intro b aa hp;have hin:MemPlace.cell b aa∈before:=(by rw[hps];simpa using hp);rw[hb.frozen (hlt _ hin)];exact hz b aa hin
  ·intro ha;have:=hn ha;rw[hps]at this;simpa using this
  ·intro p hp _;rw[hps];simpa using hp
theorem MK(hl:laidOutB P=true){W W':World}(hb:Below W.heap.size W W'):∀{ts:List TypeId}{vs:List Value}{ds:List (DataW H)}{ps:List MemPlace},(∀ t∈ts,P.readableRec t=true/\t<P.types.size)->
 DataW.TrodAll enc P W 0 (λ _=>true) true ts vs ds ps->(∀ x∈ps,x.block<W.heap.size)->∀sp:Nat->Bool,(∀ p∈ps,sp p.block=true)->DataW.TrodAll enc P W' 0 sp true ts vs ds ps
 |[],vs,ds,ps,_,hd,_,sp,_=>by
  obtain⟨rfl,rfl,rfl⟩:=trodAll_nil hd;exact trodAll_mk0
 |t::ts,vs,ds,ps,ht,hd,hlt,sp,hsp=>by
  obtain⟨v,vs',d,ds',p,q,rfl,rfl,rfl,h0,r0⟩:=trodAll_cons hd;obtain⟨h1,h2⟩:=ht t (by simp)
  exact trodAll_cons_mk (WideElems.Trod_stays hl h1 h2 h0 (λ x hx=>hb.same (hlt x (by simp[hx]))) (λ x hx=>hsp x (by simp[hx])))
   (MK hl hb (λ t ht'=>ht t (by simp[ht'])) r0 (λ x hx=>hlt x (by simp[hx])) sp (λ x hx=>hsp x (by simp[hx])))
theorem SK{w:World}{base:Nat}{sp:Nat->Bool}{held:Bool}:∀{ts:List TypeId}{vs:List Value}{ds:List (DataW H)}{ps:List MemPlace},DataW.TrodAll enc P w base sp held ts vs ds ps->ds.length=ts.length
 |[],_,_,_,h=>by
  obtain⟨_,rfl,_⟩:=trodAll_nil h;rfl
 |_::_,_,_,_,h=>by
  obtain⟨_,_,_,_,_,_,_,rfl,_,_,h2⟩:=trodAll_cons h;simp[SK h2]
theorem ado:∀{ts:List TypeId}{ds:List (DataW H)}{vt:List TypeId}{gs:List (DataW H)},ds.length=ts.length->∀k∈DataW.weightsEach P ts ds,k∈DataW.weightsEach P (ts++vt) (ds++gs)
 |[],[],_,_,_,k,h=>by simp[DataW.weightsEach]at h
 |t::ts,d::ds,vt,gs,hl,k,h=>by
  simp only[DataW.weightsEach,aV,cons_append]at h ⊢;rcases h with h |h
  ·exact .inl h
  ·exact .inr (ado (by simpa using hl) k h)
 |[],_::_,_,_,h,_,_=>by simp at h
 |_::_,[],_,_,h,_,_=>by simp at h
theorem abD{cut:List TypeId}{C:Checked}{f:FuncId}{fn:Func}{s:ChangeSpec}{ss:List VS}{tb:TypeId}(hl:laidOutB C.prog=true)(hread:(fn.params.toList.all λt=>C.prog.readableRec t&&decide (t<C.prog.types.size))=true)
 (hss:fn.params.toList.mapM (HO C.prog cut)=some ss) (hvars:s.vars=[]) (hres:fn.resultTypes=#[tb]) (hb:C.prog.underlying tb=some .bool)
 (hs:∀ds:List (DataW H),ds.length=fn.params.toList.length->s.fn H ds={ results:=[.lit (.bool true)],args:=ds })
 {B:Nat->Prop} (PQ:∀xs,Wl ss xs->(∀ n,B n->Wm xs<=n)->sy C.prog f (xs.map TV.av) (.one (.d (.s (.sc (.bool true))))))
 {W:World} {base:Nat} {args:Array Value} {ds gs:List (DataW H)} {before:List MemPlace}
 (hval:∀(j:Nat) t v,fn.params[j]? =some t->args[j]? =some v->Value.okWide C.prog W .any base t v)
 (hW:DataW.Whole enc C.prog fn.params.toList s.vars false W args.toList ds gs before)
 {vt:List TypeId} (hz:(DataW.weightsEach C.prog (fn.params.toList++vt) (ds++gs)).all (· <=reachBytes)=true) (hv:kh W (Here W)) (hB:∀n,B n->∃K:Bk H,K.a ds<=n):
 Calls C.prog f args W λe W'=>∃v,e= .returned v/\s.post enc C.prog fn false true false false W args v W':=by
 have hW':=hW;obtain⟨p,q,hA,hV,rfl,_,_⟩:=hW;rw[hvars]at hV;obtain⟨rfl,rfl⟩:=trodVars_none hV;have hlen:=SK hA;obtain⟨xs,g1,g2,g3⟩:=aal hss (λ j t v h1 h2=>hval j t v (by simpa using h1) (by simpa using h2)) hA (λ k hk=>by
  have:=all_eq_true.1 hz k (ado hlen k hk);simpa using this)
 simp only[append_nil]at hW';have hlt:∀x∈p,x.block<W.heap.size:=λx hx=>hW'.lt x hx;refine((PQ xs g2 (λ n hn=>by have⟨K,hK⟩:=hB n hn;exact Nat.le_trans (g3 K) hK)).2 W (Here W) args (λ _ h=>h) hv (SH _ _ g1)).mono λe W' ⟨v,I',he,hbel,_,_,_,hr⟩=>⟨v,he,?_⟩;simp only[qv,wa,so,TR]at hr;obtain⟨rfl,_⟩:=hr;have hfn:s.fn H (ds++[])={ results:=[.lit (.bool true)],args:=ds }:=by rw[append_nil];exact hs ds hlen
 refine afF (pa:=p) (pv:=[]) hW' (λ b sp hd=>?_) (λ sp hsp=>?_) (λ sp _=>?_) (by simp) hbel (ok_one (by rw[hres]) rfl (okWide_bool_mk hb _))
 ·rw[hfn,hres];exact trodAll_mk1 (shut_bool hb _)
 ·rw[hfn];refine MK hl hbel (λ t ht=>?_) hA hlt sp hsp;have:=all_eq_true.1 hread t ht;simpa using this
 ·rw[hfn,hvars];rfl
end
def S4:xt->TypeDesc->Bool
 | .slice e,.slice e'=>e==e'
 | .arr n e,.array n' e'=>n==n'&&e==e'
 | .struct fs,.struct fa=>fa.toList.map (λ f=>(f.offset,f.type))==fs
 | .bool,.bool=>true
 | .str,.string=>true
 | .int k,.int k'=>k==k'
 | .map k e,.map k' e'=>k==k'&&e==e'
 | .other,_=>true
 |_,_=>false
def TZ:Value->Value->Bool
 | .int k a,.int k' b=>k==k'&&a==b
 | .bool a,.bool b=>a==b
 | .string a,.string b=>decide (a=b)
 | .slice none 0 0,.slice none 0 0=>true
 | .pointer none,.pointer none=>true
 | .nilFunc,.nilFunc=>true
 | .nilIface,.nilIface=>true
 | .map none,.map none=>true
 |_,_=>false
theorem adp{a b:Value}(h:TZ a b=true):a=b:=by
 unfold TZ at h;split at h<;>simp_all
def QN:List Value->List Value->Bool
 |[],[]=>true
 |a::as,b::bs=>TZ a b&&QN as bs
 |_,_=>false
theorem Ot:∀{a b:List Value},QN a b=true->a=b
 |[],[],_=>rfl
 |a::as,b::bs,h=>by simp only[QN,aJ]at h;rw[adp h.1,Ot h.2]
 |[],_::_,h=>by simp[QN]at h
 |_::_,[],h=>by simp[QN]at h
def TX(P:Program)(t:TypeId)(ti:nj):Bool:=
 match P.info? t,P.underlying t with
 |some info,some d=>match info.zero with
  |some z=>info.size==ti.size&&info.bytes==ti.bytes&&sg d==ti.agg&&S4 ti.k d&&ti.zero.all j9&&ti.zero.length==ti.size&&
   (ti.cmp.isEmpty || match d with
    | .struct fa=>!P.stoodInHeld t&&!P.eqGuardType P.depth t&&f5 P 0 fa.toList ti.cmp
    | .array _ _=>ti.cmp==[9]&&!P.eqGuardType P.depth t
    |_=>false)&&QN z.cells.toList ti.zero&&sA ti.agg z
  |none=>false
 |_,_=>false
theorem afG{k:xt}{d:TypeDesc}(h:S4 k d=true):ON k d:=by
 unfold S4 at h;split at h
 ·simp only[beq_iff_eq]at h;subst h;rfl
 ·simp only[aJ,beq_iff_eq]at h;obtain⟨rfl,rfl⟩:=h;rfl
 ·rename_i fs fa;exact⟨fa,rfl,by simpa using h⟩
 ·rfl
 ·rfl
 ·simp only[beq_iff_eq]at h;subst h;rfl
 ·simp only[aJ,beq_iff_eq]at h;obtain⟨rfl,rfl⟩:=h;rfl
 ·trivial
 ·cases h
theorem adq{P:Program}{t:TypeId}{ti:nj}(h:TX P t ti=true):k7 P t ti:=by
 unfold TX at h;split at h
 ·rename_i info d h1 h2;split at h
  ·rename_i z h3;simp only[aJ,beq_iff_eq]at h;obtain⟨⟨⟨⟨⟨⟨⟨⟨a1,a2⟩,a3⟩,a4⟩,a5⟩,a6⟩,a7⟩,a8⟩,a9⟩:=h;refine⟨⟨info,d,z,h1,h2,a1,a2,h3,Ot a8,a3,afG a4⟩,a5,a6,λinfo' z' e1 e2=>by rw[h1]at e1;cases e1;rw[h3]at e2;cases e2;exact a9,λhne=>?_⟩;simp only[Bool.or_eq_true]at a7;rcases a7 with a7 |a7
   ·exact absurd (List.isEmpty_iff.1 a7) hne
   ·split at a7
    ·rename_i fa;simp only[aJ,Bool.not_eq_true']at a7;exact .inl ⟨fa,h2,a7.1.1,a7.1.2,a7.2⟩
    ·simp only[aJ,Bool.not_eq_true',beq_iff_eq]at a7;exact .inr a7
    ·cases a7
  ·cases h
 ·cases h
def Wn(l:List (TypeId×nj)):dC:=λt=>(l.find? λp=>p.1==t).map (·.2)
theorem ajV{P:Program}{l:List (TypeId×nj)}(h:(l.all λp=>TX P p.1 p.2)=true):eY P (Wn l):=by
 intro t ti ht;simp only[Wn,eO]at ht;obtain⟨p,hp,rfl⟩:=ht;have h1:=List.find?_some hp;simp only[beq_iff_eq]at h1;subst h1;exact adq (all_eq_true.1 h p (List.mem_of_find?_eq_some hp))
open Go.RowKit
inductive CT(ι:Type) where
 |int (k:IntKind)
 |bool
 |str
 |sl (e:CT ι)
 |st (i:ι)
 |any
 |mp (k v:CT ι)
 deriving DecidableEq
structure SE where
 ι:Type
 dec:DecidableEq ι
 T:ι->Type
 row:(i:ι)->T i->List Tree
instance (E:SE):DecidableEq E.ι:=E.dec
section
variable (E:SE)
@[reducible] def CT.T:CT E.ι->Type
 | .int _=>Int
 | .bool=>Bool
 | .str=>ByteArray
 | .sl e=>List (CT.T e)
 | .st i=>E.T i
 | .any=>Tree
 | .mp k v=>List (CT.T k×CT.T v)
def CT.row:(c:CT E.ι)->CT.T E c->List Tree
 | .int k,n=>[.sc (.int k n)]
 | .bool,b=>[.sc (.bool b)]
 | .str,s=>[.sc (.string s)]
 | .sl e,l=>[.sl (List.map (CT.row e) l)]
 | .st i,x=>E.row i x
 | .any,x=>[x]
 | .mp _ _,_=>[.sl []]
def CT.one{ι:Type}:CT ι->Bool
 | .st _=>false
 |_=>true
def CT.tv:(c:CT E.ι)->CT.T E c->TV
 | .int k,n=> .s (.sc (.int k n))
 | .bool,b=> .s (.sc (.bool b))
 | .str,s=> .s (.sc (.string s))
 | .sl e,l=> .s (.sl (List.map (CT.row E e) l))
 | .st i,x=> .a (E.row i x)
 | .any,x=> .s x
 | .mp _ _,_=> .s (.sl [])
def HL:List (CT E.ι)->Type
 |[]=>Unit
 |c::l=>CT.T E c×HL l
def HL.row:(l:List (CT E.ι))->HL E l->List Tree
 |[],_=>[]
 |c::l,h=>CT.row E c h.1++HL.row l h.2
def HL.np:(l:List (CT E.ι))->HL E l->List TV
 |[],_=>[]
 |c::l,h=>CT.tv E c h.1::HL.np l h.2
end
structure Nd(E:SE) where
 i:E.ι
 c:CT E.ι
 f:E.T i->List (CT.T E c)
 g:List (CT.T E c)->Option (E.T i)
structure SX extends SE where
 cW:ι->List (CT ι)
 get:(i:ι)->T i->HL toSE (cW i)
 make:(i:ι)->HL toSE (cW i)->T i
 nt:∀i x,row i x=HL.row toSE (cW i) (get i x)
 gh:∀i h,row i (make i h)=HL.row toSE (cW i) h
 flat:∀i,(cW i).all CT.one=true
 gv:Nat->Option ((c:CT ι)×CT.T toSE c)
 wn:∀g,(gv g).map (λ p=>CT.row toSE p.1 p.2)=(t7 g).map λr=>r.map Tree.sc
 ar:TypeId->Option (Nd toSE):=λ_=>none
 m6:∀t a,ar t=some a->a.c.one=true/\(∀ x,row a.i x=((a.f x).map (CT.row toSE a.c)).flatten)/\∀l x,a.g l=some x->a.f x=l:=by intro t a h;cases h
section
variable (X:SX)
abbrev SX.C:=CT X.ι
abbrev SX.t(c:CT X.ι):Type:=CT.T X.toSE c
def CT.sz:CT X.ι->Nat
 | .st i=>(X.cW i).length
 |_=>1
inductive DV where
 |c (t:CT X.ι) (x:CT.T X.toSE t)
 |agg (cs:List DV)
 |fh (vs:List DV)
 |own (k aa len:Nat)
 |ptr (k row aa:Nat)
 |pZ (k:Nat) (n:Int) (aa:Nat)
 |rk (k row aa m:Nat) (n:Int)
 |rp (t:CT X.ι) (x:CT.T X.toSE t) (aa:Nat)
 |uA (t:CT X.ι) (x:CT.T X.toSE t) (aa m:Nat) (n:Int)
 |fn (f:FuncId) (first caps:List DV)
 |cV (as:List (CT X.ι)) (r:CT X.ι) (φ:HL X.toSE as->Option (CT.T X.toSE r))
 |mp (k:Nat)
 |oz (k len:Nat)
 |raw (v:Value)
 |nil
 |ub
 |skip
 |undef
inductive br where
 |cells (sz:Nat) (rows:List (List (DV X)))
 |de (c:CT X.ι) (l:List (CT.T X.toSE c))
 |map (kc vc:CT X.ι) (l:List (CT.T X.toSE kc×CT.T X.toSE vc))
structure dc where
 env:List (Nat×DV X)
 obj:List (Nat×Option (br X))
 nx:Nat
 log:List Nat
variable {X}
mutual
def den:DV X->AV
 | .c t x=>(CT.tv X.toSE t x).av
 | .agg cs=> .agg (bJ cs)
 | .fh vs=> .fh (bJ vs)
 | .own k aa len=> .own k aa len
 | .ptr k row aa=> .ptr k row aa
 | .pZ k n aa=> .ptr k n.toNat aa
 | .rk k row aa _ n=> .ptr k row (aa+n.toNat)
 | .rp t x aa=> .ek (CT.row X.toSE t x) aa
 | .uA t x aa _ n=> .ek (CT.row X.toSE t x) (aa+n.toNat)
 | .fn f first caps=> .fn f (bJ first) (bJ caps)
 | .cV as r φ=> .cV λts u=>∃h x,φ h=some x/\ts=HL.np X.toSE as h/\u=CT.tv X.toSE r x
 | .mp k=> .mp k
 | .oz k len=> .oz k len
 | .raw v=>cv v
 | .nil=> .cM
 | .ub=> .ub
 | .skip=> .undef
 | .undef=> .undef
def bJ:List (DV X)->List AV
 |[]=>[]
 |x::xs=>den x::bJ xs
end
theorem og:∀l:List (DV X),bJ l=l.map den
 |[]=>rfl
 |x::xs=>by simp only[bJ,aC,og xs]
def bF:br X->aU
 | .cells sz rows=>⟨sz,rows.map bJ⟩
 | .de c l=>⟨CT.sz X c,aL (l.map (CT.row X.toSE c))⟩
 | .map kc vc l=>⟨l.length,l.map λp=>[(CT.tv X.toSE kc p.1).av,(CT.tv X.toSE vc p.2).av]⟩
def gF(u:List (Nat×Option (br X))):List (Nat×Option aU):=u.map λp=>(p.1,p.2.map bF)
def fY(o:List (Nat×Option (br X)))(k:Nat):Option (br X):=(lk o k).join
def eC(e:List (Nat×DV X))(t:Nat):DV X:=(lk e t).getD .undef
def dc.st(s:dc X):St:=⟨λ t=>den (eC s.env t),λk=>(fY s.obj k).map bF,λ_=>none⟩
def gB(a b:CT X.ι)(x:CT.T X.toSE a):Option (CT.T X.toSE b):=
 match decEq a b with
 |isTrue h=>some (h ▸ x)
 |isFalse _=>none
theorem mq{a b:CT X.ι}{x:CT.T X.toSE a}{y:CT.T X.toSE b}(h:gB a b x=some y):∃e:a=b,y=e ▸ x:=by
 unfold gB at h;split at h
 ·rename_i e _;injection h with h;exact⟨e,h.symm⟩
 ·cases h
def HL.cells:(l:List (CT X.ι))->HL X.toSE l->List (DV X)
 |[],_=>[]
 |c::l,h=> .c c h.1::HL.cells l h.2
theorem row_one{c:CT X.ι}(h:c.one=true)(x:CT.T X.toSE c):∃t,CT.row X.toSE c x=[t]/\CT.tv X.toSE c x= .s t:=by cases c<;>first |exact⟨_,rfl,rfl⟩ |cases h
theorem HL.pS:∀(l:List (CT X.ι))(h:HL X.toSE l),l.all CT.one=true->bJ (HL.cells l h)=(HL.row X.toSE l h).map AV.t
 |[],_,_=>rfl
 |c::l,h,ha=>by
  simp only[all_cons,aJ]at ha;obtain⟨t,h1,h2⟩:=row_one ha.1 h.1;simp only[HL.cells,bJ,den,HL.row,h1,h2,TV.av,HL.pS l h.2 ha.2,cons_append,bO,aC]
theorem HL.ov:∀(l:List (CT X.ι))(h:HL X.toSE l),l.all CT.one=true->(HL.row X.toSE l h).length=l.length
 |[],_,_=>rfl
 |c::l,h,ha=>by
  simp only[all_cons,aJ]at ha;obtain⟨t,h1,_⟩:=row_one ha.1 h.1;simp only[HL.row,h1,cons_append,bO,bE,HL.ov l h.2 ha.2]
theorem Dl(c:CT X.ι)(x:CT.T X.toSE c):(CT.row X.toSE c x).length=CT.sz X c:=by
 cases c<;>try rfl
 rename_i i;exact(congrArg List.length (X.nt i x)).trans (HL.ov _ _ (X.flat i))
def vL:(c:CT X.ι)->CT.T X.toSE c->List (DV X)
 | .st i,x=>HL.cells (X.cW i) (X.get i x)
 |c,x=>[.c c x]
theorem nM(c:CT X.ι)(x:CT.T X.toSE c):bJ (vL c x)=(CT.row X.toSE c x).map AV.t:=by
 cases c<;>try rfl
 rename_i i;exact(HL.pS _ _ (X.flat i)).trans (congrArg (List.map AV.t) (X.nt i x).symm)
def wJ:DV X->Bool
 | .agg _ | .fh _ | .undef | .skip | .raw _ | .c (.st _) _=>false
 |_=>true
theorem SL{x:DV X}(h:wJ x=true):o9 (den x)=true:=by
 cases x<;>try rfl
 case c t x=>cases t<;>first |rfl |simp[wJ]at h
 all_goals simp[wJ]at h
def cellsD:DV X->Option (List (DV X))
 | .agg cs=>if cs.all wJ then some cs else none
 | .c (.st i) x=>some (vL (.st i) x)
 | .fh _ | .undef | .skip | .raw _=>none
 |x=>some [x]
theorem ahx{l:List (DV X)}(h:l.all wJ=true):(bJ l).all o9=true:=by
 rw[og,List.all_map,all_eq_true];exact λx hx=>SL (all_eq_true.1 h x hx)
theorem Ab{x:DV X}{cs:List (DV X)}(h:cellsD x=some cs):cellsOf (den x)=some (bJ cs):=by
 cases x
 case c t x=>
  cases t
  case st i=>
   simp only[cellsD,aA]at h;subst h;simp only[den,CT.tv,TV.av,cellsOf,nM];show(if ((X.row i x).map AV.t).all o9 then some ((X.row i x).map AV.t)else none)=some ((X.row i x).map AV.t);rw[aN];rw[List.all_map,all_eq_true];exact λ_ _=>rfl
  all_goals simp only[cellsD,aA]at h;subst h;rfl
 case agg l=>
  simp only[cellsD]at h;split at h
  ·cases h;simp only[den,cellsOf];rw[aN (ahx ‹_›)]
  ·cases h
 all_goals simp only[cellsD,aA,reduceCtorEq]at h;try (subst h;rfl)
def tw:Value->DV X
 | .slice none 0 0=> .nil
 | .int k n=> .c (.int k) n
 | .bool b=> .c .bool b
 | .string s=> .c .str s
 |v=> .raw v
theorem ahy(v:Value):den (tw (X:=X) v)=cv v:=by
 unfold tw;split<;>rfl
theorem Ac(l:List Value):bJ (l.map (tw (X:=X)))=l.map cv:=by
 rw[og,map_map];exact map_congr_left λv _=>ahy v
def Zh(env:Nat->DV X):Operand->DV X
 | .tmp t=>env t
 | .const v=>tw v
 | .global g=>match X.gv g with
  |some p=> .rp p.1 p.2 0
  |none=> .undef
 | .func f=> .fn f [] []
theorem Wo(env:Nat->DV X)(x:Operand):den (Zh env x)=lv (λ t=>den (env t)) x:=by
 cases x with
 |global g=>
  have h:=X.wn g;simp only[Zh,lv];cases h1:X.gv g with
  |none=>
   rw[h1]at h;cases h2:t7 g with
   |none=>rfl
   |some r=>rw[h2]at h;cases h
  |some p=>
   rw[h1]at h;cases h2:t7 g with
   |none=>rw[h2]at h;cases h
   |some r=>
    rw[h2]at h;injection h with h;simp only[den,h]
 |const v=>exact ahy _
 |tmp t=>rfl
 |func f=>rfl
end
def bo{α:Type}(l:List α)(n:Int):Option α:=bif decide (0<=n)then l[n.toNat]? else none
def atO{α:Type}(l:List α)(aa:Nat)(n:Int):Option α:=bif decide (0<=n)then l[aa+n.toNat]? else none
def sub{α:Type}(l:List α)(aa len:Nat):List α:=(l.drop aa).take len
def b7(n:Int)(len:Nat):Bool:=decide (0<=n)&&decide (n<(len:Int))
def lI{α β:Type}(a:α)(f:α->β):β:=f a
def cu(lo len ln n bytes:Nat):Bool:=decide (lo=len)&&decide (ln=n)&&decide ((len+n)*bytes<=140737488355328)&&decide (len+n<=maxLen)
def bk(a b:Nat):Bool:=decide (a=b)
def Ad(l h:Int)(len:Nat):Bool:=decide (0<=l)&&decide (l<=h)&&decide (h<=(len:Int))
def Wp(a b:ByteArray):Bool:=Op.bytesLess a.toList b.toList
def Wq(a b:ByteArray):Bool:=decide (a.size+b.size<=maxLen)
abbrev iN(n:Int):Int:=n
abbrev bN(b:Bool):Bool:=b
def Ws{A:Type}:List Bool->Option A->Option A
 |[],k=>k
 |c::cs,k=>bif c then Ws cs k else none
section
variable {X:SX} {A:Type}
abbrev KK(X:SX)(A:Type):=DV X->List (Nat×Option (br X))->List Nat->List Nat->Option A
def TO(t:Bool)(x y:DV X):DV X:=
 match x,y with
 | .c a p,.c b q=>match decEq b a with
  |isTrue h=> .c a (bif t then p else h ▸ q)
  |isFalse _=>bif t then .c a p else .c b q
 |x,y=>bif t then x else y
def JQ(agg:Bool)(size:Nat)(cs:List (DV X)):Option (DV X):=
 if cs.length=size then(if agg then some (.agg cs)else match cs with |[x]=>if wJ x then some x else none |_=>none)else none
def Kd(agg:Bool)(size:Nat)(c:CT X.ι)(y:CT.T X.toSE c)(aa:Nat):Option (DV X):=
 match c,y with
 | .st i,y=>if aa=0/\agg=true/\size=(X.cW i).length then some (.c (.st i) y)else JQ agg size (((vL (.st i) y).drop aa).take size)
 |c,y=>JQ agg size (((vL c y).drop aa).take size)
def LW(d:DV X)(c:CT X.ι):Option (CT.T X.toSE c):=
 match d,c with
 | .c a x,c=>gB a c x
 | .nil,.sl _=>some []
 | .nil,.any=>some (.sl [])
 |_,_=>none
def Ae:List (DV X)->(l:List (CT X.ι))->Option (HL X.toSE l)
 |[],[]=>some ()
 |d::ds,c::l=>(LW d c).bind λx=>(Ae ds l).bind λh=>some (x,h)
 |_,_=>none
def B6(d:DV X)(i:X.ι):Option (CT.T X.toSE (.st i)):=
 match d with
 | .agg cs=>(Ae cs (X.cW i)).bind λh=>some (X.make i h)
 | .c a x=>gB a (.st i) x
 |_=>none
def dat(d:DV X)(c:CT X.ι):Option (CT.T X.toSE c):=
 match c with
 | .st i=>B6 d i
 |c=>LW d c
def ZZ(c:CT X.ι):List (DV X)->Option (CT.T X.toSE c)
 |[d]=>LW d c
 |_=>none
def Ou(c:CT X.ι)(ds:List (DV X)):Option (CT.T X.toSE c):=
 match c with
 | .st i=>(Ae ds (X.cW i)).bind λh=>some (X.make i h)
 |c=>ZZ c ds
def HN(r:List (DV X))(aa:Nat)(cs:List (DV X)):List (DV X):=r.take aa++cs++r.drop (aa+cs.length)
variable (T:dC) (ao:TypeId->Option (CT X.ι))
def On(t:TypeId)(x:DV X)(get:Nat->Option (br X))(k:KK X A):Option A:=
 (T t).bind λti=>match x with
 | .ptr kk row aa=>(get kk).bind λo=>match o with
  | .cells _ rows=>(rows[row]?).bind λr=>(JQ ti.agg ti.size ((r.drop aa).take ti.size)).bind λv=>k v [] [kk] []
  |_=>none
 | .pZ kk n aa=>(get kk).bind λo=>match o with
  | .de c l=>(bo l n).bind λy=>(Kd ti.agg ti.size c y aa).bind λv=>k v [] [kk] []
  |_=>none
 | .rp c y aa=>(Kd ti.agg ti.size c y aa).bind λv=>k v [] [] []
 |_=>none
def NO(t:TypeId)(x y:DV X)(get:Nat->Option (br X))(k:KK X A):Option A:=
 (T t).bind λti=>(cellsD y).bind λcs=>if cs.length=ti.size then match x with
 | .ptr kk row aa=>(get kk).bind λo=>match o with
  | .cells sz rows=>(rows[row]?).bind λr=>if aa+cs.length<=r.length then k .undef [(kk,some (.cells sz (rows.set row (HN r aa cs))))] [kk] [kk]else none
  |_=>none
 | .pZ kk n aa=>(get kk).bind λo=>match o with
  | .de c l=>(bo l n).bind λy=>if aa+cs.length<=CT.sz X c then(Ou c (HN (vL c y) aa cs)).bind λz=>k .undef [(kk,some (.de c (l.set n.toNat z)))] [kk] [kk]else none
  |_=>none
 |_=>none else none
def M0(t:TypeId)(x:DV X)(f:Nat)(k:KK X A):Option A:=
 (Ci T t f).bind λp=>match x with
 | .ptr kk row aa=>k (.ptr kk row (aa+p.1)) [] [] []
 | .pZ kk n aa=>k (.pZ kk n (aa+p.1)) [] [] []
 | .rp c y aa=>k (.rp c y (aa+p.1)) [] [] []
 |_=>none
def UV(t:TypeId)(x:DV X)(f:Nat)(k:KK X A):Option A:=
 (Ci T t f).bind λp=>match x with
 | .agg cs=>(JQ p.2.agg p.2.size ((cs.drop p.1).take p.2.size)).bind λv=>k v [] [] []
 | .c (.st i) y=>(JQ p.2.agg p.2.size (((vL (.st i) y).drop p.1).take p.2.size)).bind λv=>k v [] [] []
 |_=>none
def M4(t:TypeId)(x j:DV X)(get:Nat->Option (br X))(k:KK X A):Option A:=
 (T t).bind λti=>match ti.k,j with
 | .slice e,.c (.int _) n=>(T e).bind λei=>match x with
  | .c (.sl c) l=>if CT.sz X c=ei.size then(bo l n).bind λy=>k (.rp c y 0) [] [] []else none
  | .own kk aa len=>(get kk).bind λo=>match o with
   | .de c _=>if CT.sz X c=ei.size then bif b7 n len then k (.pZ kk ((aa:Int)+iN n) 0) [] [kk] []else none else none
   | .cells sz _=>if sz=ei.size then bif b7 n len then k (.ptr kk (aa+n.toNat) 0) [] [kk] []else none else none
   | .map _ _ _=>none
  |_=>none
 | .arr m e,.c (.int _) n=>(T e).bind λei=>bif b7 n m then match x with
  | .ptr kk row aa=>k (.ptr kk row (aa+n.toNat*ei.size)) [] [] []
  | .pZ kk r aa=>k (.pZ kk r (aa+n.toNat*ei.size)) [] [] []
  | .rp c y aa=>k (.rp c y (aa+n.toNat*ei.size)) [] [] []
  |_=>none
  else none
 |_,_=>none
def Wt(x:DV X)(j:Nat)(k:KK X A):Option A:=
 match x with
 | .fh vs=>(vs[j]?).bind λv=>k v [] [] []
 |_=>none
def JR(op:BinOp)(kd:IntKind)(a b:Int):(DV X)×Option Bool:=
 match op with
 | .add=>(.c (.int kd) (kd.wrap (a+b)),none)
 | .sub=>(.c (.int kd) (kd.wrap (a -b)),none)
 | .mul=>(.c (.int kd) (kd.wrap (a*b)),none)
 | .quo=>(.c (.int kd) (kd.wrap (a.tdiv b)),some (b !=0))
 | .rem=>(.c (.int kd) (a.tmod b),some (b !=0))
 | .and=>(.c (.int kd) (bits .and kd a b),none)
 | .or=>(.c (.int kd) (bits .or kd a b),none)
 | .xor=>(.c (.int kd) (bits .xor kd a b),none)
 | .andNot=>(.c (.int kd) (bits .andNot kd a b),none)
 | .shl=>(.c (.int kd) (kd.wrap (a*2 ^ b.toNat)),some (decide (0<=b)&&decide (b<=kd.bits)))
 | .shr=>(.c (.int kd) (a/2 ^ b.toNat),some (decide (0<=b)&&decide (b<=kd.bits)))
 | .eql=>(.c .bool (a==b),none)
 | .neq=>(.c .bool (a !=b),none)
 | .lss=>(.c .bool (decide (a<b)),none)
 | .leq=>(.c .bool (decide (a<=b)),none)
 | .gtr=>(.c .bool (decide (a>b)),none)
 | .geq=>(.c .bool (decide (a>=b)),none)
def W6:Nat->DV X->DV X->Option Bool
 | 0,.c (.int j) a,.c (.int k) b=>if j=k then some (iN a==iN b)else none
 | 1,.c .bool a,.c .bool b=>some (bN a==bN b)
 | 2,.c .str a,.c .str b=>some (a.toList==b.toList)
 |_,_,_=>none
def wU:List Nat->List (DV X)->List (DV X)->Option Bool
 |[],[],[]=>some true
 |k::ks,x::xs,y::ys=>(W6 k x y).bind λa=>(wU ks xs ys).bind λb=>some (a&&b)
 |_,_,_=>none
def Jx:DV X->Option (List (DV X))
 | .agg cs=>some cs
 | .c (.st i) y=>some (vL (.st i) y)
 |_=>none
def S3(op:BinOp)(t:TypeId)(x y:DV X)(k:KK X A):Option A:=
 match x,y with
 | .c (.int kd) a,.c (.int yk) b=>if kd=yk\/op= .shl\/op= .shr then match (JR op kd a b:DV X×Option Bool).2 with
  |none=>k (JR op kd a b).1 [] [] []
  |some g=>bif g then k (JR op kd a b).1 [] [] []else none
  else none
 | .c .str a,.c .str b=>match op with
  | .eql=>k (.c .bool (a.toList==b.toList)) [] [] []
  | .neq=>k (.c .bool (!(a.toList==b.toList))) [] [] []
  | .lss=>k (.c .bool (Wp a b)) [] [] []
  | .gtr=>k (.c .bool (!(Wp a b || a.toList==b.toList))) [] [] []
  | .add=>bif Wq a b then k (.c .str (a++b)) [] [] []else none
  |_=>none
 | .c .bool a,.c .bool b=>(T t).bind λti=>match ti.k,op with
  | .bool,.eql=>k (.c .bool (bN a==bN b)) [] [] []
  | .bool,.neq=>k (.c .bool (!(bN a==bN b))) [] [] []
  |_,_=>none
 |x,y=>(Jx x).bind λxs=>(Jx y).bind λys=>(T t).bind λti=>if ti.cmp=[]then none else(wU ti.cmp xs ys).bind λb=>match op with
  | .eql=>k (.c .bool b) [] [] []
  | .neq=>k (.c .bool (!b)) [] [] []
  |_=>none
def NB(op:UnOp)(x:DV X)(k:KK X A):Option A:=
 match op,x with
 | .not,.c .bool b=>k (.c .bool (!b)) [] [] []
 | .neg,.c (.int kd) n=>k (.c (.int kd) (kd.wrap (0 -iN n))) [] [] []
 |_,_=>none
def Lf(mx:Bool)(kd:IntKind):Int->List (DV X)->Option Int
 |a,[]=>some a
 |a,.c (.int k') b::r=>if k'=kd then Lf mx kd (if mx then max a b else min a b) r else none
 |_,_=>none
def ID(mx:Bool)(args:List (DV X))(k:KK X A):Option A:=
 match args with
 | .c (.int kd) a::r=>(Lf mx kd a r).bind λn=>k (.c (.int kd) n) [] [] []
 |_=>none
def S0(t:TypeId)(x:DV X)(k:KK X A):Option A:=
 (T t).bind λti=>match ti.k,x with
 | .slice _,.c (.sl _) l=>k (.c (.int .i64) (l.length:Int)) [] [] []
 | .slice _,.own _ _ len=>k (.c (.int .i64) (len:Int)) [] [] []
 | .slice _,.oz _ len=>k (.c (.int .i64) (len:Int)) [] [] []
 | .slice _,.nil=>k (.c (.int .i64) (0:Int)) [] [] []
 | .str,.c .str s=>k (.c (.int .i64) (s.size:Int)) [] [] []
 |_,_=>none
def DP(place:Nat->Option (Nat×Nat)):List (DV X)->List (Nat×DV X)->Option (List (DV X))
 |cells,[]=>some cells
 |cells,(j,x)::ag=>(place j).bind λp=>(cellsD x).bind λcs=>
  if cs.length=p.2/\p.1+cs.length<=cells.length then DP place (HN cells p.1 cs) ag else none
def UT(t:TypeId)(parts:List (Nat×DV X))(k:KK X A):Option A:=
 (T t).bind λti=>match ti.k with
 | .struct fs=>if fs.all (λ p=>(T p.2).isSome)then
  (DP (λ j=>(fs[j]?).bind λp=>(T p.2).bind λui=>some (p.1,ui.size)) (ti.zero.map tw) parts).bind λcells=>k (.agg cells) [] [] []else none
 | .arr _ e=>(T e).bind λei=>(DP (λ j=>some (j*ei.size,ei.size)) (ti.zero.map tw) parts).bind λcells=>k (.agg cells) [] [] []
 |_=>none
def HM(c:CT X.ι):Nat->List (Nat×DV X)->Option (List (CT.T X.toSE c))
 |_,[]=>some []
 |n,(j,x)::r=>if j=n then(dat x c).bind λy=>(HM c (n+1) r).bind λl=>some (y::l)else none
def JS(i:Nat)(t:TypeId)(len:Nat)(parts:List (Nat×DV X))(k:KK X A):Option A:=
 (T t).bind λti=>match ti.k with
 | .slice e=>(T e).bind λei=>(ao e).bind λc=>if ei.size=0\/len*ei.size>2 ^ 24\/CT.sz X c≠ei.size\/parts.length≠len then none else
  (HM c 0 parts).bind λl=>k (.own (cp i) 0 len) [(cp i,some (.de c l))] [] []
 |_=>none
def US(i:Nat)(e:TypeId)(k:KK X A):Option A:=
 (T e).bind λti=>k (.ptr (cp i) 0 0) [(cp i,some (.cells ti.size [ti.zero.map tw]))] [] []
def SZ(i:Nat)(x:DV X)(k:KK X A):Option A:=
 (cellsD x).bind λcs=>k (.ptr (cp i) 0 0) [(cp i,some (.cells cs.length [cs]))] [] []
def Zi(d:Int):Option (DV X)->Option Int
 |none=>some d
 |some (.c (.int _) n)=>some n
 |_=>none
def UP(t:TypeId)(x:DV X)(lo hi:Option (DV X))(get:Nat->Option (br X))(k:KK X A):Option A:=
 (T t).bind λti=>match ti.k with
 | .slice e=>(T e).bind λei=>match x with
  | .own kk aa len=>(get kk).bind λo=>if (bF o).sz=ei.size then(Zi 0 lo).bind λl=>(Zi len hi).bind λh=>
   bif Ad l h len then k (.own kk (aa+l.toNat) (h.toNat -l.toNat)) [] [kk] []else none else none
  | .c (.sl c) xs=>if CT.sz X c=ei.size then(Zi 0 lo).bind λl=>(Zi xs.length hi).bind λh=>
   bif Ad l h xs.length then k (.c (.sl c) (sub xs l.toNat (h.toNat -l.toNat))) [] [] []else none else none
  |_=>none
 |_=>none
def SW(y:DV X)(c:CT X.ι)(get:Nat->Option (br X)):Option (Nat×List (CT.T X.toSE c)×List Nat):=
 match y with
 | .own kk aa len=>(get kk).bind λo=>match o with
  | .de b l=>(gB (.sl b) (.sl c) l).bind λl=>some (len,sub l aa len,[kk])
  |_=>none
 | .c b l=>(gB b (.sl c) l).bind λ(l:List (CT.T X.toSE c))=>some (l.length,l,[])
 |_=>none
def Wu{α:Type}:Nat->List α->List α
 | 0,l=>l
 |n+1,l=>l.drop (n+1)
def W0(i:Nat)(t:TypeId)(x y:DV X)(get:Nat->Option (br X))(k:KK X A):Option A:=
 (T t).bind λti=>match ti.k with
 | .slice e=>(T e).bind λei=>(ao e).bind λc=>if CT.sz X c=ei.size then(SW y c get).bind λs=>match x with
  | .own kk aa len=>(get kk).bind λo=>match o with
   | .de b l=>(gB (.sl b) (.sl c) l).bind λ(l:List (CT.T X.toSE c))=>bif cu (Wu aa l).length len s.2.1.length s.1 ei.bytes then lI (Wu aa l++s.2.1) λr=>k (.own (cp i) 0 r.length) [(cp i,some (.de c r)),(kk,none)] (kk::s.2.2) [kk]else none
   |_=>none
  | .nil=>bif cu 0 0 s.2.1.length s.1 ei.bytes then lI s.2.1 λr=>k (.own (cp i) 0 r.length) [(cp i,some (.de c r))] s.2.2 []else none
  |_=>none
  else none
 |_=>none
def Wv(i:Nat)(b:Builtin)(args:List (DV X))(cW:List TypeId)(get:Nat->Option (br X))(k:KK X A):Option A:=
 match b,args,cW with
 | .len,[x],[t]=>S0 T t x k
 | .max,args,_=>ID true args k
 | .min,args,_=>ID false args k
 | .append,[x,y],[t,u]=>if t=u then W0 T ao i t x y get k else none
 |_,_,_=>none
def Ix(i:Nat)(o:Op)(ρ:Operand->DV X)(get:Nat->Option (br X))(k:KK X A):Option A:=
 match o with
 | .move x=>k (ρ x) [] [] []
 | .assign x=>k (ρ x) [] [] []
 | .pick c a b=>match ρ c with | .c .bool t=>k (TO t (ρ a) (ρ b)) [] [] [] |_=>none
 | .alloc e=>US T i e k
 | .box _ x=>SZ i (ρ x) k
 | .build t parts=>UT T t (parts.toList.map λp=>(p.1,ρ p.2)) k
 | .buildSlice t len parts=>JS T ao i t len (parts.toList.map λp=>(p.1,ρ p.2)) k
 | .load t a=>On T t (ρ a) get k
 | .store t a x=>NO T t (ρ a) (ρ x) get k
 | .binOp op t x y _=>S3 T op t (ρ x) (ρ y) k
 | .unOp op _ x=>NB op (ρ x) k
 | .makeFunc (.func f) first caps=>k (.fn f (first.toList.map ρ) (caps.toList.map ρ)) [] [] []
 | .slice t x lo hi none=>UP T t (ρ x) (lo.map ρ) (hi.map ρ) get k
 | .fieldAddr t x f=>M0 T t (ρ x) f k
 | .field t x f=>UV T t (ρ x) f k
 | .indexAddr t x j=>M4 T t (ρ x) (ρ j) get k
 | .extract x j=>Wt (ρ x) j k
 | .call { callee:= .builtin b,args:=args,argTypes:=cW }=>Wv T ao i b (args.toList.map ρ) cW.toList get k
 |_=>none
end
section
variable {X:SX} {A:Type} {T:dC} {ao:TypeId->Option (CT X.ι)} {get:Nat->Option (br X)} {k:KK X A} {r:A} {i:Nat}
def fB(get:Nat->Option (br X)):Nat->Option aU:=λj=>(get j).map bF
theorem dM{rd:List Nat}{j:Nat}{o:br X}(hj:j∈rd)(h:get j=some o):dD rd (fB get) j=some (bF o):=by simp[dD,hj,fB,h]
theorem lJ(l:List (DV X)):(bJ l).length=l.length:=by simp[og]
theorem kr(l:List (DV X))(a b:Nat):bJ ((l.drop a).take b)=((bJ l).drop a).take b:=by simp[og,map_take,map_drop]
theorem Ov{α:Type}{l:List α}{n:Int}{x:α}(h:bo l n=some x):0<=n/\l[n.toNat]? =some x:=by
 unfold bo at h;by_cases hn:0<=n
 ·simpa[hn]using h
 ·simp[hn]at h
theorem ail(t:Bool)(x y:DV X):den (TO t x y)=H3 t (den x) (den y):=by
 rw[VA];have base:∀x y:DV X,den (bif t then x else y)=if t=true then den x else den y:=λx y=>by cases t<;>rfl
 unfold TO;split
 ·rename_i a p b q;split
  ·rename_i h _;subst h;cases t<;>rfl
  ·exact base _ _
 ·exact base _ _
theorem EQ{agg:Bool}{size:Nat}{cs:List (DV X)}{v:DV X}(h:JQ agg size cs=some v):part' agg size (bJ cs)=some (den v):=by
 unfold JQ at h;unfold part';rw[lJ];split at h
 ·rename_i hl;rw[aN hl];cases agg with
  |true=>simp only[if_true,aA]at h ⊢;subst h;rfl
  |false=>
   simp only[Bool.false_eq_true,if_false]at h ⊢
   match cs,h with
   |[x],h=>
    simp only at h;split at h
    ·rename_i hx;cases h;simp only[bJ];rw[aN (SL hx)]
    ·cases h
   |[],h=>cases h
   |_::_::_,h=>cases h
 ·cases h
theorem QO{agg:Bool}{size aa:Nat}{c:CT X.ι}{y:CT.T X.toSE c}{v:DV X}(h:JQ agg size (((vL c y).drop aa).take size)=some v):part' agg size ((((CT.row X.toSE c y).drop aa).take size).map AV.t)=some (den v):=by
 have:=EQ h;rw[kr,nM]at this;rw[<- this,map_take,map_drop]
theorem aan{agg:Bool}{size aa:Nat}{c:CT X.ι}{y:CT.T X.toSE c}{v:DV X}(h:Kd agg size c y aa=some v):part' agg size ((((CT.row X.toSE c y).drop aa).take size).map AV.t)=some (den v):=by
 cases c
 case st j=>
  simp only[Kd]at h;split at h
  ·rename_i hh;obtain⟨rfl,rfl,rfl⟩:=hh;cases h;have hl:(CT.row X.toSE (.st j) y).length=(X.cW j).length:=Dl (.st j) y;rw[List.drop_zero,take_of_length_le (by omega)];unfold part';rw[aN (by simpa using hl)];rfl
  ·exact QO h
 all_goals exact QO h
theorem aim{t:TypeId}{x:DV X}(h:On T t x get k=some r):∃ci rd dv ab,EM T t (den x) ci (dD rd (fB get))=some ab/\jY ab.obs/\ab.v=den dv/\ab.upd=[]/\k dv [] rd []=some r:=by
 unfold On at h;unfold EM;rw[ai]at h;obtain⟨ti,h1,h⟩:=h;simp only[h1,ah];split at h
 ·rename_i kk row aa;rw[ai]at h;obtain⟨o,h2,h⟩:=h;split at h
  ·rename_i sz rows;rw[ai]at h;obtain⟨rw',h3,h⟩:=h;rw[ai]at h;obtain⟨v,h4,h⟩:=h;refine⟨.none,[kk],v,⟨den v,[],[]⟩,?_,trivial,rfl,rfl,h⟩;have h5:=EQ h4;rw[kr]at h5;simp[den,dM (List.mem_singleton_self kk) h2,bF,h3,h5,pv]
  ·cases h
 ·rename_i kk n aa;rw[ai]at h;obtain⟨o,h2,h⟩:=h;split at h
  ·rename_i c l;rw[ai]at h;obtain⟨y,h3,h⟩:=h;rw[ai]at h;obtain⟨v,h4,h⟩:=h;have⟨_,h6⟩:=Ov h3;refine⟨.row ((CT.row X.toSE c y).map AV.t),[kk],v,⟨den v,[],[(aL (l.map (CT.row X.toSE c)))[n.toNat]? =some ((CT.row X.toSE c y).map AV.t)]⟩,?_,?_,rfl,rfl,h⟩
   ·have h5:=aan h4;rw[map_take,map_drop]at h5;simp only[den,dM (List.mem_singleton_self kk) h2,ah,bF,h5,kO]
   ·simp[jY,aL,h6]
  ·cases h
 ·rename_i c y aa;have⟨v,h4,h⟩:=ai.1 h;refine⟨.none,[],v,⟨den v,[],[]⟩,?_,trivial,rfl,rfl,h⟩;simp only[den,aan h4,ah,pv]
 ·cases h
theorem Ww(a:List (DV X))(aa:Nat)(cs:List (DV X)):bJ (HN a aa cs)=put' (bJ a) aa (bJ cs):=by simp[HN,put',og,map_take,map_drop]
theorem iQ{a c:CT X.ι}{x:CT.T X.toSE a}{y:CT.T X.toSE c}(h:gB a c x=some y):den (.c a x)=den (.c c y)/\CT.row X.toSE a x=CT.row X.toSE c y:=by
 have⟨e,h⟩:=mq h;subst e;subst h;exact⟨rfl,rfl⟩
theorem Mu{c:CT X.ι}(hc:c.one=true)(x:CT.T X.toSE c):[(CT.tv X.toSE c x).av]=(CT.row X.toSE c x).map AV.t:=by
 obtain⟨t,h1,h2⟩:=row_one hc x;rw[h1,h2];rfl
theorem amy{c:CT X.ι}(x:CT.T X.toSE c):wk (CT.tv X.toSE c x).av=(CT.tv X.toSE c x).av:=by cases c<;>rfl
theorem wV{d:DV X}{c:CT X.ι}{x:CT.T X.toSE c}(h:LW d c=some x):wk (den d)=(CT.tv X.toSE c x).av:=by
 unfold LW at h;split at h
 ·rw[(iQ h).1];exact amy x
 ·cases h;rfl
 ·cases h;rfl
 ·cases h
theorem WP{d:DV X}{c:CT X.ι}{x:CT.T X.toSE c}(hc:c.one=true)(h:LW d c=some x):wJ d=true:=by
 cases d
 case c a y=>
  obtain⟨e,_⟩:=mq (show gB a c y=some x by cases c<;>exact h);subst e;cases a<;>first |rfl |simp[CT.one]at hc
 case nil=>rfl
 all_goals cases c<;>cases h
theorem Af:∀{ds:List (DV X)}{l:List (CT X.ι)}{h:HL X.toSE l},Ae ds l=some h->l.all CT.one=true->(bJ ds).map wk=(HL.row X.toSE l h).map AV.t/\ds.all wJ=true
 |[],[],h,_,_=>⟨rfl,rfl⟩
 |d::ds,c::l,h,hr,ha=>by
  simp only[Ae]at hr;have⟨x,h1,hr⟩:=ai.1 hr;have⟨g,h2,hr⟩:=ai.1 hr;cases hr;simp only[all_cons,aJ]at ha ⊢;have⟨i1,i2⟩:=Af h2 ha.2;simp only[bJ,aC,HL.row,map_append,i1,wV h1,i2,and_true,WP ha.1 h1];simp[<- Mu ha.1 x]
 |[],_::_,_,hr,_=>by simp[Ae]at hr
 |_::_,[],_,hr,_=>by simp[Ae]at hr
theorem Wx(j:X.ι)(h:HL X.toSE (X.cW j)):CT.row X.toSE (.st j) (X.make j h)=HL.row X.toSE (X.cW j) h:=X.gh j h
theorem alF{c:CT X.ι}(hc:c.one=true){ds:List (DV X)}{x:CT.T X.toSE c}(h:ZZ c ds=some x):(bJ ds).map wk=(CT.row X.toSE c x).map AV.t:=by
 match ds,h with
 |[d],h=>
  rw[<- Mu hc x];simp only[bJ,aC,map_nil,wV h]
 |[],h=>cases h
 |_::_::_,h=>cases h
theorem zO{c:CT X.ι}{ds:List (DV X)}{x:CT.T X.toSE c}(h:Ou c ds=some x):(bJ ds).map wk=(CT.row X.toSE c x).map AV.t:=by
 cases c
 case st j=>
  simp only[Ou]at h;have⟨g,h1,h⟩:=ai.1 h;cases h;rw[(Af h1 (X.flat j)).1,Wx]
 all_goals exact alF rfl h
theorem afM{d:DV X}{c:CT X.ι}(hc:c.one=true){x:CT.T X.toSE c}(h:LW d c=some x):∃cs,cellsOf (den d)=some cs/\cs.map wk=(CT.row X.toSE c x).map AV.t:=by
 have hk:=WP hc h;have hd:=wV h;have he:cellsOf (den d)=some [den d]:=by
  have:=Ab (x:=d) (cs:=[d]) (by
   cases d
   case c t y=>cases t<;>first |rfl |simp[wJ]at hk
   all_goals first |rfl |simp[wJ]at hk)
  simpa[bJ]using this
 exact⟨_,he,by rw[<- Mu hc x];simp[hd]⟩
theorem ain{d:DV X}{c:CT X.ι}{x:CT.T X.toSE c}(h:dat d c=some x):∃cs,cellsOf (den d)=some cs/\cs.map wk=(CT.row X.toSE c x).map AV.t:=by
 cases c
 case st j=>
  replace h:B6 d j=some x:=h
  cases d
  case agg cs=>
   simp only[B6]at h;have⟨g,h1,h⟩:=ai.1 h;cases h;have⟨i1,i2⟩:=Af h1 (X.flat j);refine⟨bJ cs,?_,by rw[i1,Wx]⟩;simp only[den,cellsOf];rw[aN (ahx i2)]
  case c a y=>
   replace h:gB a (.st j) y=some x:=h
   rw[(iQ h).1];refine⟨(CT.row X.toSE (.st j) x).map AV.t,?_,?_⟩
   ·show cellsOf (.agg _)=_;simp only[cellsOf];rw[aN]
    ·rfl
    ·rw[List.all_map,all_eq_true];exact λ_ _=>rfl
   ·rw[map_map];rfl
  all_goals cases h
 all_goals exact afM rfl h
theorem aio{t:TypeId}{x y:DV X}(h:NO T t x y get k=some r):∃ci kk u ab,Vu T t (den x) (den y) ci (dD [kk] (fB get))=some ab/\jY ab.obs/\ab.v= .undef/\ab.upd=gF [(kk,u)]/\k .undef [(kk,u)] [kk] [kk]=some r:=by
 unfold NO at h;unfold Vu;rw[ai]at h;obtain⟨ti,h1,h⟩:=h;rw[ai]at h;obtain⟨cs,h2,h⟩:=h;simp only[h1,Ab h2,ah];split at h
 ·rename_i hl;have hdl:(bJ cs).length=ti.size:=by rw[lJ];exact hl
  simp only[hdl,if_true];split at h
  ·rename_i kk row aa;rw[ai]at h;obtain⟨o,h3,h⟩:=h;split at h
   ·rename_i sz rows;rw[ai]at h;obtain⟨rw',h4,h⟩:=h;split at h
    ·rename_i hle;refine⟨.none,kk,_,⟨.undef,_,[]⟩,?_,trivial,rfl,rfl,h⟩;simp only[den,dM (List.mem_singleton_self kk) h3,ah,bF,List.getElem?_map,h4,Option.map_some,lJ];rw[aN (by rw[<- hl];exact hle)];simp[gF,bF,Ww]
    ·cases h
   ·cases h
  ·rename_i kk n aa;rw[ai]at h;obtain⟨o,h3,h⟩:=h;split at h
   ·rename_i c l;rw[ai]at h;obtain⟨z,h4,h⟩:=h;split at h
    ·rename_i hle;have⟨z',h5,h⟩:=ai.1 h;have⟨_,h6⟩:=Ov h4;refine⟨.set ((CT.row X.toSE c z).map AV.t) (aL ((l.set n.toNat z').map (CT.row X.toSE c))),kk,_,⟨.undef,_,[(aL (l.map (CT.row X.toSE c)))[n.toNat]? =some ((CT.row X.toSE c z).map AV.t)/\aL ((l.set n.toNat z').map (CT.row X.toSE c))=dS ((aL (l.map (CT.row X.toSE c))).set n.toNat (put' ((CT.row X.toSE c z).map AV.t) aa (bJ cs)))]⟩,?_,?_,rfl,rfl,h⟩
     ·simp only[den,dM (List.mem_singleton_self kk) h3,ah,bF];rw[aN (by rw[length_map,Dl,<- hl];exact hle)];simp[gF,bF]
     ·refine⟨by simp[aL,h6],?_⟩;have h7:=zO h5;rw[Ww,nM]at h7;have hid:dS (aL (l.map (CT.row X.toSE c)))=aL (l.map (CT.row X.toSE c)):=(by simp[dS,aL,Function.comp_def,wk]);simp only[dS,List.map_set,h7];have:(aL (l.map (CT.row X.toSE c))).map (List.map wk)=aL (l.map (CT.row X.toSE c)):=hid;rw[this];simp[aL]
    ·cases h
   ·cases h
  ·cases h
 ·cases h
theorem QR{t:TypeId}{x:DV X}{f:Nat}(h:M0 T t x f k=some r):∃dv ab,zZ T t (den x) f=some ab/\jY ab.obs/\ab.v=den dv/\ab.upd=[]/\k dv [] [] []=some r:=by
 unfold M0 at h;unfold zZ;rw[ai]at h;obtain⟨⟨d,u⟩,h1,h⟩:=h;simp only[h1,ah];split at h
 ·exact⟨_,_,rfl,trivial,rfl,rfl,h⟩
 ·exact⟨_,_,rfl,trivial,rfl,rfl,h⟩
 ·exact⟨_,_,rfl,trivial,rfl,rfl,h⟩
 ·cases h
theorem abI{t:TypeId}{x:DV X}{f:Nat}(h:UV T t x f k=some r):∃dv ab,Vv T t (den x) f=some ab/\jY ab.obs/\ab.v=den dv/\ab.upd=[]/\k dv [] [] []=some r:=by
 unfold UV at h;unfold Vv;rw[ai]at h;obtain⟨⟨d,u⟩,h1,h⟩:=h;simp only[h1,ah];split at h
 ·rw[ai]at h;obtain⟨v,h2,h⟩:=h;have h3:=EQ h2;rw[kr]at h3;exact⟨v,⟨den v,[],[]⟩,by simp only[den,h3,ah,pv],trivial,rfl,rfl,h⟩
 ·rename_i j y;have⟨v,h2,h⟩:=ai.1 h;have h3:=QO h2;rw[map_take,map_drop]at h3;refine⟨v,⟨den v,[],[]⟩,?_,trivial,rfl,rfl,h⟩;show(part' u.agg u.size (List.take u.size (List.drop d ((CT.row X.toSE (.st j) y).map AV.t)))).bind pv=_;rw[h3];rfl
 ·cases h
theorem dx{α:Type}{b:Bool}{x:Option α}{r:α}(h:(bif b then x else none)=some r):b=true/\x=some r:=by
 cases b with
 |true=>exact⟨rfl,h⟩
 |false=>cases h
theorem Wy{n:Int}{len:Nat}(h:b7 n len=true):0<=n/\n.toNat<len:=by simp only[b7,aJ,aT]at h;omega
theorem pW{A:Type}:∀{cs:List Bool}{k:Option A}{r:A},Ws cs k=some r->(∀ c∈cs,c=true)/\k=some r
 |[],_,_,h=>⟨by simp,h⟩
 |c::cs,k,r,h=>by
  have⟨h1,h2⟩:=dx h;have⟨h3,h4⟩:=pW h2;exact⟨λ x hx=>(aO.1 hx).elim (λ e=>e ▸ h1) (h3 x),h4⟩
theorem QS{t:TypeId}{x j:DV X}(h:M4 T t x j get k=some r):∃ci rd dv ab,mh T t (den x) (den j) ci (dD rd (fB get))=some ab/\jY ab.obs/\ab.v=den dv/\ab.upd=[]/\k dv [] rd []=some r:=by
 unfold M4 at h;unfold mh;rw[ai]at h;obtain⟨ti,h1,h⟩:=h;simp only[h1,ah];split at h
 ·rename_i e kd n hk;rw[ai]at h;obtain⟨ei,h2,h⟩:=h;simp only[hk,den,CT.tv,TV.av,h2,ah];split at h
  ·rename_i c l;split at h
   ·rename_i hs;rw[ai]at h;obtain⟨y,h3,h⟩:=h;have⟨h4,h5⟩:=Ov h3;refine⟨.rL (CT.row X.toSE c y),[],_,⟨.ek (CT.row X.toSE c y) 0,[],[0<=n/\(l.map (CT.row X.toSE c))[n.toNat]? =some (CT.row X.toSE c y)]⟩,?_,?_,rfl,rfl,h⟩
    ·simp only[den,CT.tv,TV.av];rw[aN (by rw[Dl];exact hs)];rfl
    ·exact⟨h4,by simp[h5]⟩
   ·cases h
  ·rename_i kk aa len;rw[ai]at h;obtain⟨o,h3,h⟩:=h;split at h
   ·rename_i c l;split at h
    ·rename_i hs;have⟨h4,h⟩:=dx h;have⟨h5,h6⟩:=Wy h4;refine⟨.none,[kk],_,⟨.ptr kk (aa+n.toNat) 0,[],[0<=n/\n.toNat<len]⟩,?_,⟨h5,h6⟩,?_,rfl,h⟩
     ·simp only[den,dM (List.mem_singleton_self kk) h3,ah,bF];rw[aN hs];rfl
     ·simp only[den,iN];congr 1;show aa+Int.toNat n=Int.toNat ((aa:Int)+n);have:(0:Int)<=n:=h5;omega
    ·cases h
   ·rename_i sz rows;split at h
    ·rename_i hs;have⟨h4,h⟩:=dx h;have⟨h5,h6⟩:=Wy h4;refine⟨.none,[kk],_,⟨.ptr kk (aa+n.toNat) 0,[],[0<=n/\n.toNat<len]⟩,?_,⟨h5,h6⟩,rfl,rfl,h⟩;simp only[den,dM (List.mem_singleton_self kk) h3,ah,bF];rw[aN hs];rfl
    ·cases h
   ·cases h
  ·cases h
 ·rename_i m e kd n hk;have⟨ei,h2,h⟩:=ai.1 h;simp only[hk,den,CT.tv,TV.av,h2,ah];have⟨h4,h⟩:=dx h;have⟨h5,h6⟩:=Wy h4;split at h
  ·exact⟨.none,[],_,_,rfl,⟨h5,h6⟩,rfl,rfl,h⟩
  ·exact⟨.none,[],_,_,rfl,⟨h5,h6⟩,rfl,rfl,h⟩
  ·exact⟨.none,[],_,_,rfl,⟨h5,h6⟩,rfl,rfl,h⟩
  ·cases h
 ·cases h
theorem Wz{x:DV X}{j:Nat}(h:Wt x j k=some r):∃dv ab,JI (den x) j=some ab/\jY ab.obs/\ab.v=den dv/\ab.upd=[]/\k dv [] [] []=some r:=by
 unfold Wt at h;split at h
 ·have⟨v,h2,h⟩:=ai.1 h;refine⟨v,⟨den v,[],[]⟩,?_,trivial,rfl,rfl,h⟩;simp[JI,den,og,h2,pv]
 ·cases h
end
section
variable {X:SX} {A:Type} {T:dC} {ao:TypeId->Option (CT X.ι)} {get:Nat->Option (br X)} {k:KK X A} {r:A} {i:Nat}
theorem abJ{op:BinOp}{kd:IntKind}{a b:Int}:∃v obs,Vt op kd a b=some (v,obs)/\den (JR (X:=X) op kd a b).1= .t (.sc v)/\(∀ g,(JR (X:=X) op kd a b).2=some g->g=true->jY obs)/\((JR (X:=X) op kd a b).2=none->jY obs):=by
 cases op<;>refine⟨_,_,rfl,rfl,λg hg ht=>?_,λhn=>?_⟩<;>simp only[JR,aA,reduceCtorEq]at* <;>try trivial
 all_goals subst hg;simp_all [jY]
theorem adr{n:Nat}{x y:DV X}{b:Bool}(h:W6 n x y=some b):MX n (den x) (den y)=some b:=by
 unfold W6 at h;split at h
 ·split at h
  ·cases h;simp only[den,CT.tv,TV.av,MX];rw[aN ‹_›]
  ·cases h
 ·exact h
 ·exact h
 ·cases h
theorem Ow:∀{ks:List Nat}{xs ys:List (DV X)}{b:Bool},wU ks xs ys=some b->tX ks (bJ xs) (bJ ys)=some b
 |[],[],[],b,h=>h
 |k::ks,x::xs,y::ys,b,h=>by
  simp only[wU]at h;rw[ai]at h;obtain⟨p,h1,h⟩:=h;rw[ai]at h;obtain⟨q,h2,h⟩:=h;simp only[bJ,tX,adr h1,Ow h2,ah,h]
 |[],_::_,_,_,h=>by simp[wU]at h
 |[],[],_::_,_,h=>by simp[wU]at h
 |_::_,[],_,_,h=>by simp[wU]at h
 |_::_,_::_,[],_,h=>by simp[wU]at h
theorem ads{x:DV X}{xs:List (DV X)}(h:Jx x=some xs):den x= .agg (bJ xs):=by
 unfold Jx at h;split at h
 ·cases h;rfl
 ·rename_i j y;cases h;rw[nM];rfl
 ·cases h
theorem afN{op:BinOp}{t:TypeId}{x y:DV X}(h:S3 T op t x y k=some r):∃dv ab,Y1 T op t (den x) (den y)=some ab/\jY ab.obs/\ab.v=den dv/\ab.upd=[]/\k dv [] [] []=some r:=by
 unfold S3 at h;split at h
 ·rename_i kd a yk b;split at h
  ·rename_i hk;have⟨v,obs,h1,h2,h3,h4⟩:=abJ (X:=X) (op:=op) (kd:=kd) (a:=a) (b:=b);have fin:jY obs->k (JR op kd a b).1 [] [] []=some r->∃dv ab,Y1 T op t (den (.c (.int kd) a:DV X)) (den (.c (.int yk) b:DV X))=some ab/\jY ab.obs/\ab.v=den dv/\ab.upd=[]/\k dv [] [] []=some r:=by
    intro ho hkk;refine⟨_,⟨.t (.sc v),[],obs⟩,?_,ho,h2.symm,rfl,hkk⟩;simp only[den,CT.tv,TV.av,Y1];rw[aN hk,h1];rfl
   split at h
   ·rename_i hn;exact fin (h4 hn) h
   ·rename_i g hg;have⟨hgt,h⟩:=dx h;exact fin (h3 g hg hgt) h
  ·cases h
 ·split at h
  ·exact⟨_,_,rfl,trivial,rfl,rfl,h⟩
  ·exact⟨_,_,rfl,trivial,rfl,rfl,h⟩
  ·exact⟨_,_,rfl,trivial,rfl,rfl,h⟩
  ·exact⟨_,_,rfl,trivial,rfl,rfl,h⟩
  ·have⟨hc,h⟩:=dx h;exact⟨_,_,rfl,show _<=maxLen from of_decide_eq_true hc,rfl,rfl,h⟩
  ·cases h
 ·rw[ai]at h;obtain⟨ti,h1,h⟩:=h;split at h
  ·rename_i hk;refine⟨_,⟨.t (.sc (.bool _)),[],[]⟩,?_,trivial,rfl,rfl,h⟩;simp only[den,CT.tv,TV.av,Y1,h1,ah,hk];rfl
  ·rename_i hk;refine⟨_,⟨.t (.sc (.bool _)),[],[]⟩,?_,trivial,rfl,rfl,h⟩;simp only[den,CT.tv,TV.av,Y1,h1,ah,hk];rfl
  ·cases h
 ·rw[ai]at h;obtain⟨xs,h1,h⟩:=h;rw[ai]at h;obtain⟨ys,h2,h⟩:=h;rw[ai]at h;obtain⟨ti,h3,h⟩:=h;split at h
  ·cases h
  ·rename_i hc;have⟨b,h4,h⟩:=ai.1 h;have h5:=Ow h4;rw[ads h1,ads h2];split at h
   ·refine⟨_,⟨.t (.sc (.bool b)),[],[]⟩,?_,trivial,rfl,rfl,h⟩;simp only[Y1,h3,ah];rw[aM hc,h5];rfl
   ·refine⟨_,⟨.t (.sc (.bool (!b))),[],[]⟩,?_,trivial,rfl,rfl,h⟩;simp only[Y1,h3,ah];rw[aM hc,h5];rfl
   ·cases h
theorem aip{op:UnOp}{x:DV X}(h:NB op x k=some r):∃dv ab,MM op (den x)=some ab/\jY ab.obs/\ab.v=den dv/\ab.upd=[]/\k dv [] [] []=some r:=by
 unfold NB at h;split at h
 ·exact⟨_,_,rfl,trivial,rfl,rfl,h⟩
 ·exact⟨_,_,rfl,trivial,rfl,rfl,h⟩
 ·cases h
theorem SQ(mx:Bool)(kd:IntKind):∀(l:List (DV X))(a n:Int),Lf mx kd a l=some n->Gg mx kd a (bJ l)=some n
 |[],a,n,h=>h
 |x::l,a,n,h=>by
  cases x
  case c t y=>
   cases t
   case int k'=>
    simp only[Lf]at h;simp only[bJ,den,CT.tv,TV.av,Gg];split at h
    ·rename_i hk;rw[aN hk];exact SQ mx kd l _ _ h
    ·cases h
   all_goals simp[Lf]at h
  all_goals simp[Lf]at h
theorem aao{mx:Bool}{args:List (DV X)}(h:ID mx args k=some r):∃dv ab,E0 mx (bJ args)=some ab/\jY ab.obs/\ab.v=den dv/\ab.upd=[]/\k dv [] [] []=some r:=by
 unfold ID at h;split at h
 ·rename_i kd a l;rw[ai]at h;obtain⟨n,h1,h⟩:=h;refine⟨_,⟨.t (.sc (.int kd n)),[],[]⟩,?_,trivial,rfl,rfl,h⟩;simp only[bJ,den,CT.tv,TV.av,E0];have:=SQ mx kd l a n h1;simp only[this];rfl
 ·cases h
theorem afO{t:TypeId}{x:DV X}(h:S0 T t x k=some r):∃ci dv ab,xr T t (den x) ci=some ab/\jY ab.obs/\ab.v=den dv/\ab.upd=[]/\k dv [] [] []=some r:=by
 unfold S0 at h;unfold xr;rw[ai]at h;obtain⟨ti,h1,h⟩:=h;simp only[h1,ah];split at h
 ·rename_i e c l hk;simp only[hk];exact⟨.num (l.length:Int),_,⟨.t (.sc (.int .i64 (l.length:Int))),[],[(l.length:Int)=((l.map (CT.row X.toSE c)).length:Int)]⟩,rfl,by simp[jY],rfl,rfl,h⟩
 ·rename_i hk;simp only[hk];exact⟨.none,_,_,rfl,trivial,rfl,rfl,h⟩
 ·rename_i hk;simp only[hk];exact⟨.none,_,_,rfl,trivial,rfl,rfl,h⟩
 ·rename_i hk;simp only[hk];exact⟨.none,_,_,rfl,trivial,rfl,rfl,h⟩
 ·rename_i hk;simp only[hk];exact⟨.none,_,_,rfl,trivial,rfl,rfl,h⟩
 ·cases h
theorem QT(place:Nat->Option (Nat×Nat)):∀(parts:List (Nat×DV X))(cells ab:List (DV X)),DP place cells parts=some ab->Ij place (bJ cells) (parts.map λp=>(p.1,den p.2))=some (bJ ab)
 |[],cells,ab,h=>by simp only[DP,aA]at h;subst h;rfl
 |(j,x)::ag,cells,ab,h=>by
  simp only[DP]at h;rw[ai]at h;obtain⟨⟨aa,size⟩,h1,h⟩:=h;rw[ai]at h;obtain⟨cs,h2,h⟩:=h;split at h
  ·rename_i hl;simp only[aC,Ij,h1,Ab h2,ah,lJ];rw[aN hl,<- Ww];exact QT place ag _ _ h
  ·cases h
theorem abK{t:TypeId}{parts:List (Nat×DV X)}(h:UT T t parts k=some r):∃dv ab,Vw T t (parts.map λp=>(p.1,den p.2))=some ab/\jY ab.obs/\ab.v=den dv/\ab.upd=[]/\k dv [] [] []=some r:=by
 unfold UT at h;unfold Vw;rw[ai]at h;obtain⟨ti,h1,h⟩:=h;simp only[h1,ah];split at h
 ·rename_i fs hk;split at h
  ·rename_i ha;rw[ai]at h;obtain⟨cells,h2,h⟩:=h;have h3:=QT _ _ _ _ h2;rw[Ac]at h3;refine⟨_,⟨.agg (bJ cells),[],[]⟩,?_,trivial,rfl,rfl,h⟩;simp only[hk];rw[aN ha,h3];rfl
  ·cases h
 ·rename_i m e hk;rw[ai]at h;obtain⟨ei,h2,h⟩:=h;rw[ai]at h;obtain⟨cells,h3,h⟩:=h;have h4:=QT _ _ _ _ h3;rw[Ac]at h4;refine⟨_,⟨.agg (bJ cells),[],[]⟩,?_,trivial,rfl,rfl,h⟩;simp only[hk,h2,ah,h4];rfl
 ·cases h
theorem aap(size:Nat)(c:CT X.ι)(hs:CT.sz X c=size)(z:List AV):∀(parts:List (Nat×DV X))(n:Nat)(l:List (CT.T X.toSE c))(done:List (List AV)),HM c n parts=some l->done.length=n->
 ∃css:List (List AV),NW size (done++List.replicate parts.length z) (parts.map λp=>(p.1,den p.2))=some (done++css)/\css.map (λ r=>r.map wk)=aL (l.map (CT.row X.toSE c))
 |[],n,l,done,h,_=>by
  simp only[HM,aA]at h;subst h;exact⟨[],by simp[NW],rfl⟩
 |(j,x)::ag,n,l,done,h,hd=>by
  simp only[HM]at h;split at h
  ·rename_i hj;subst hj;have⟨y,h1,h⟩:=ai.1 h;have⟨l',h2,h⟩:=ai.1 h;cases h;have⟨cs,g1,g2⟩:=ain h1;have hl:cs.length=size:=by
    have:=congrArg List.length g2;simp only[length_map,Dl]at this;omega
   obtain⟨css,i1,i2⟩:=aap size c hs z ag (j+1) l' (done++[cs]) h2 (by simp[hd]);refine⟨cs::css,?_,?_⟩
   ·simp only[aC,NW,g1,ah];rw[aN ⟨hl,by simp;omega⟩];have:(done++List.replicate (ag.length+1) z).set j cs=done++[cs]++List.replicate ag.length z:=by
     rw[List.set_append_right _ _ (by omega),hd];simp[List.replicate_succ]
    simp only[bE,this,i1];simp
   ·simp only[aC,i2,g2,aL,aC]
  ·cases h
theorem Ox{t:TypeId}{len:Nat}{parts:List (Nat×DV X)}(h:JS T ao i t len parts k=some r):∃dv u ab,wT T i t len (parts.map λp=>(p.1,den p.2))=some ab/\jY ab.obs/\ab.v=den dv/\ab.upd=gF [(cp i,u)]/\k dv [(cp i,u)] [] []=some r:=by
 unfold JS at h;unfold wT;rw[ai]at h;obtain⟨ti,h1,h⟩:=h;simp only[h1,ah];split at h
 ·rename_i e hk;rw[ai]at h;obtain⟨ei,h2,h⟩:=h;rw[ai]at h;obtain⟨c,h3,h⟩:=h;simp only[hk,h2,ah];split at h
  ·cases h
  ·rename_i hno;simp only[not_or,Decidable.not_not]at hno;obtain⟨n1,n2,n3,n4⟩:=hno;have⟨l,h4,h⟩:=ai.1 h;have⟨css,g1,g2⟩:=aap ei.size c n3 (ei.zero.map cv) parts 0 l [] h4 rfl;simp only[bO,n4]at g1;refine⟨_,_,⟨.own (cp i) 0 len,[(cp i,some ⟨ei.size,dS css⟩)],[]⟩,?_,trivial,rfl,?_,h⟩
   ·rw[aM (by simp only[not_or];exact⟨n1,n2⟩),g1];rfl
   ·simp only[gF,bF,aC,map_nil,Option.map_some,n3];rw[show dS css=aL (l.map (CT.row X.toSE c))from g2]
 ·cases h
theorem abL{e:TypeId}(h:US T i e k=some r):∃dv u ab,Vx T i e=some ab/\jY ab.obs/\ab.v=den dv/\ab.upd=gF [(cp i,u)]/\k dv [(cp i,u)] [] []=some r:=by
 unfold US at h;unfold Vx;have⟨ti,h1,h⟩:=ai.1 h;exact⟨_,_,⟨_,[(cp i,some ⟨ti.size,[ti.zero.map cv]⟩)],[]⟩,by simp only[h1,ah];rfl,trivial,rfl,by simp[gF,bF,Ac],h⟩
theorem afP{x:DV X}(h:SZ i x k=some r):∃dv u ab,HQ i (den x)=some ab/\jY ab.obs/\ab.v=den dv/\ab.upd=gF [(cp i,u)]/\k dv [(cp i,u)] [] []=some r:=by
 unfold SZ at h;unfold HQ;rw[ai]at h;obtain⟨cs,h1,h⟩:=h;exact⟨_,_,⟨_,[(cp i,some ⟨(bJ cs).length,[bJ cs]⟩)],[]⟩,by simp only[Ab h1,ah];rfl,trivial,rfl,by simp[gF,bF,lJ],h⟩
theorem wW{d n:Int}{x:Option (DV X)}(h:Zi d x=some n):bnd d (x.map den)=some n:=by
 unfold Zi at h;split at h
 ·exact h
 ·exact h
 ·cases h
theorem aaq{l h:Int}{len:Nat}(hh:Ad l h len=true):0<=l/\l<=h/\h<=(len:Int):=by simpa[Ad,and_assoc]using hh
theorem abM{t:TypeId}{x:DV X}{lo hi:Option (DV X)}(h:UP T t x lo hi get k=some r):∃ci rd dv ab,Vy T t (den x) (lo.map den) (hi.map den) ci (dD rd (fB get))=some ab/\jY ab.obs/\ab.v=den dv/\ab.upd=[]/\k dv [] rd []=some r:=by
 unfold UP at h;unfold Vy;rw[ai]at h;obtain⟨ti,h1,h⟩:=h;simp only[h1,ah];split at h
 ·rename_i e hk;rw[ai]at h;obtain⟨ei,h2,h⟩:=h;simp only[hk,h2,ah];split at h
  ·rename_i kk aa len;rw[ai]at h;obtain⟨o,h3,h⟩:=h;split at h
   ·rename_i hs;rw[ai]at h;obtain⟨l,h4,h⟩:=h;rw[ai]at h;obtain⟨hh,h5,h⟩:=h;have⟨h6,h⟩:=dx h;refine⟨.none,[kk],_,⟨.own kk (aa+l.toNat) (hh.toNat -l.toNat),[],[0<=l/\l<=hh/\hh<=(len:Int)]⟩,?_,aaq h6,rfl,rfl,h⟩;simp only[den,dM (List.mem_singleton_self kk) h3,ah];rw[aN hs,wW h4,ah,wW h5];rfl
   ·cases h
  ·rename_i c xs;split at h
   ·rename_i hs;have⟨l,h4,h⟩:=ai.1 h;have⟨hh,h5,h⟩:=ai.1 h;have⟨h6,h⟩:=dx h;refine⟨.yd ((sub xs l.toNat (hh.toNat -l.toNat)).map (CT.row X.toSE c)),[],_,⟨.t (.sl ((sub xs l.toNat (hh.toNat -l.toNat)).map (CT.row X.toSE c))),[],[0<=l/\l<=hh/\hh<=((xs.map (CT.row X.toSE c)).length:Int)/\(sub xs l.toNat (hh.toNat -l.toNat)).map (CT.row X.toSE c)=((xs.map (CT.row X.toSE c)).drop l.toNat).take (hh.toNat -l.toNat)/\(∀ q∈xs.map (CT.row X.toSE c),q.length=ei.size)]⟩,?_,?_,rfl,rfl,h⟩
    ·simp only[den,CT.tv,TV.av,wW h4,ah];have h7:bnd ((xs.map (CT.row X.toSE c)).length:Int) (hi.map den)=some hh:=by
      have:=wW h5;simpa using this
     rw[h7];rfl
    ·have⟨a1,a2,a3⟩:=aaq h6;refine⟨a1,a2,by simpa using a3,by simp[sub,map_take,map_drop],λq hq=>?_⟩;obtain⟨y,_,rfl⟩:=mem_map.1 hq;rw[Dl];exact hs
   ·cases h
  ·cases h
 ·cases h
end
section
variable {X:SX} {A:Type} {T:dC} {ao:TypeId->Option (CT X.ι)} {get:Nat->Option (br X)} {k:KK X A} {r:A} {i:Nat}
theorem ji{b c:CT X.ι}{l:List (CT.T X.toSE b)}{l':List (CT.T X.toSE c)}(h:gB (.sl b) (.sl c) l=some l'):CT.sz X b=CT.sz X c/\l.map (CT.row X.toSE b)=l'.map (CT.row X.toSE c):=by
 have⟨e,h⟩:=mq h;cases e;subst h;exact⟨rfl,rfl⟩
theorem adt{y:DV X}{c:CT X.ι}{n:Nat}{l:List (CT.T X.toSE c)}{rd:List Nat}(h:SW y c get=some (n,l,rd))(hl:l.length=n)(rd':List Nat)(hrd:∀j∈rd,j∈rd'):
 ∃ob,Vz (CT.sz X c) (den y) (dD rd' (fB get))=some (n,ob,aL (l.map (CT.row X.toSE c)))/\ob:=by
 unfold SW at h;split at h
 ·rename_i kk aa len;rw[ai]at h;obtain⟨o,h1,h⟩:=h;split at h
  ·rename_i b l0;rw[ai]at h;obtain⟨l1,h2,h⟩:=h;injection h with h;simp only[Prod.mk.injEq]at h;obtain⟨rfl,rfl,rfl⟩:=h;have⟨h3,h4⟩:=ji h2;refine⟨True,?_,trivial⟩;simp only[den,Vz,dM (hrd kk (by simp)) h1,ah,bF];rw[aN h3];simp only[h4,aA,Prod.mk.injEq,true_and];simp[aL,sub,map_take,map_drop]
  ·cases h
 ·rename_i b l0;have⟨l1,h2,h⟩:=ai.1 h;injection h with h;simp only[Prod.mk.injEq]at h;obtain⟨rfl,rfl,rfl⟩:=h;refine⟨∀ q∈l1.map (CT.row X.toSE c),q.length=CT.sz X c,?_,?_⟩
  ·rw[(iQ h2).1];simp only[den,CT.tv,TV.av,Vz,length_map]
  ·intro q hq;obtain⟨z,_,rfl⟩:=mem_map.1 hq;exact Dl c z
 ·cases h
theorem WA{lo len ln n bytes:Nat}(h:cu lo len ln n bytes=true):lo=len/\ln=n/\(len+n)*bytes<=140737488355328/\len+n<=maxLen:=by simpa[cu,and_assoc]using h
theorem oY{α:Type}(n:Nat)(l:List α):Wu n l=l.drop n:=by cases n<;>rfl
theorem Zj{t:TypeId}{x y:DV X}(h:W0 T ao i t x y get k=some r):∃ci rd wr dv upd ab,Cj T i t (den x) (den y) ci (dD rd (fB get))=some ab/\jY ab.obs/\ab.v=den dv/\ab.upd=gF upd/\(∀ p∈upd,p.1=cp i\/p.1∈wr)/\k dv upd rd wr=some r:=by
 unfold W0 at h;unfold Cj;rw[ai]at h;obtain⟨ti,h1,h⟩:=h;simp only[h1,ah];split at h
 ·rename_i e hk;rw[ai]at h;obtain⟨ei,h2,h⟩:=h;rw[ai]at h;obtain⟨c,h3,h⟩:=h;simp only[hk,h2,ah];split at h
  ·rename_i hs;rw[ai]at h;obtain⟨⟨n,l,rd⟩,h4,h⟩:=h;split at h
   ·rename_i kk aa len;rw[ai]at h;obtain⟨o,h5,h⟩:=h;split at h
    ·rename_i b l0;have⟨l1,h6,h⟩:=ai.1 h;have⟨h7,h⟩:=dx h;rw[oY]at h7 h;have hd:(aL (l1.map (CT.row X.toSE c))).drop aa=aL ((l1.drop aa).map (CT.row X.toSE c)):=(by simp[aL]);have⟨g1,g2,g3,g4⟩:=WA h7;have⟨h8,h9⟩:=ji h6;obtain⟨ob,i1,i2⟩:=adt h4 g2 (kk::rd) (λ j hj=>by simp[hj]);have i3:=dM (rd:=kk::rd) (by simp) h5
     refine⟨.rows (aL ((l1.drop aa++l).map (CT.row X.toSE c))),kk::rd,[kk],_,_,⟨.own (cp i) 0 (aL ((l1.drop aa++l).map (CT.row X.toSE c))).length,[(cp i,some ⟨ei.size,aL ((l1.drop aa++l).map (CT.row X.toSE c))⟩),(kk,none)],
      [ob/\(aL ((l1.drop aa).map (CT.row X.toSE c))).length=len/\(aL (l.map (CT.row X.toSE c))).length=n/\aL ((l1.drop aa++l).map (CT.row X.toSE c))=aL ((l1.drop aa).map (CT.row X.toSE c))++aL (l.map (CT.row X.toSE c))/\(len+n)*ei.bytes<=140737488355328/\len+n<=maxLen]⟩,?_,?_,?_,?_,?_,h⟩
     ·rw[hs]at i1;simp only[i1,ah,den,i3,bF,h9,hd];rw[aN (by rw[h8,hs])]
     ·exact⟨i2,by simpa[aL]using g1,by simpa[aL]using g2,by simp[aL],g3,g4⟩
     ·simp[den,aL]
     ·simp[gF,bF,hs]
     ·intro p hp;simp only[aO,jv,or_false]at hp;rcases hp with rfl |rfl
      ·exact .inl rfl
      ·exact .inr (by simp)
    ·cases h
   ·have⟨h7,h⟩:=dx h;have⟨g1,g2,g3,g4⟩:=WA h7;obtain⟨ob,i1,i2⟩:=adt h4 g2 rd (λ j hj=>hj)
    refine⟨.rows (aL (l.map (CT.row X.toSE c))),rd,[],_,_,⟨.own (cp i) 0 (aL (l.map (CT.row X.toSE c))).length,[(cp i,some ⟨ei.size,aL (l.map (CT.row X.toSE c))⟩)],
     [ob/\(aL (l.map (CT.row X.toSE c))).length=n/\aL (l.map (CT.row X.toSE c))=aL (l.map (CT.row X.toSE c))/\n*ei.bytes<=140737488355328/\n<=maxLen]⟩,?_,?_,?_,?_,?_,h⟩
    ·rw[hs]at i1;simp only[i1,ah,den]
    ·exact⟨i2,by simpa[aL]using g2,rfl,by simpa using g3,by simpa using g4⟩
    ·simp[den,aL]
    ·simp[gF,bF,hs]
    ·intro p hp;simp only[aO,jv,or_false]at hp;rcases hp with rfl;exact .inl rfl
   ·cases h
  ·cases h
 ·cases h
def anA(T:dC)(i:Nat)(o:Oper)(ρ:Operand->DV X)(get:Nat->Option (br X))(k:KK X A)(r:A):Prop:=
 ∃ci rd wr dv upd ab,qy T i o ci (λ x=>den (ρ x)) (dD rd (fB get))=some ab/\jY ab.obs/\ab.v=den dv/\ab.upd=gF upd/\(∀ p∈upd,p.1=cp i\/p.1∈wr)/\k dv upd rd wr=some r
theorem WB{b:Builtin}{args:List (DV X)}{cW:List TypeId}(h:Wv T ao i b args cW get k=some r):∃ci rd wr dv upd ab,EN T i b (bJ args) cW ci (dD rd (fB get))=some ab/\jY ab.obs/\ab.v=den dv/\ab.upd=gF upd/\(∀ p∈upd,p.1=cp i\/p.1∈wr)/\k dv upd rd wr=some r:=by
 unfold Wv at h;unfold EN;split at h
 ·have⟨ci,dv,ab,h1,h2,h3,h4,h5⟩:=afO h;exact⟨ci,[],[],dv,[],ab,h1,h2,h3,h4,by simp,h5⟩
 ·have⟨dv,ab,h1,h2,h3,h4,h5⟩:=aao h;exact⟨.none,[],[],dv,[],ab,h1,h2,h3,h4,by simp,h5⟩
 ·have⟨dv,ab,h1,h2,h3,h4,h5⟩:=aao h;exact⟨.none,[],[],dv,[],ab,h1,h2,h3,h4,by simp,h5⟩
 ·split at h
  ·rename_i htu;have⟨ci,rd,wr,dv,upd,ab,h1,h2⟩:=Zj h;refine⟨ci,rd,wr,dv,upd,ab,?_,h2⟩;simp only[bJ];rw[aN htu];exact h1
  ·cases h
 ·cases h
theorem U7(ρ:Operand->DV X)(l:List Operand):l.map (λ x=>den (ρ x))=bJ (l.map ρ):=by rw[og,map_map];rfl
theorem aar{o:Oper}{ρ:Operand->DV X}(h:Ix T ao i o.op ρ get k=some r):anA T i o ρ get k r:=by
 obtain⟨dst,op,ty,aw,after,guard⟩:=o;unfold anA qy;simp only at h;unfold Ix at h;split at h
 ·exact⟨.none,[],[],_,[],_,rfl,trivial,rfl,rfl,by simp,h⟩
 ·exact⟨.none,[],[],_,[],_,rfl,trivial,rfl,rfl,by simp,h⟩
 ·rename_i c a b;split at h
  ·rename_i t hc;refine⟨.none,[],[],_,[],⟨H3 t (den (ρ a)) (den (ρ b)),[],[]⟩,?_,trivial,(ail t _ _).symm,rfl,by simp,h⟩;simp only[hc,den,CT.tv,TV.av,pv]
  ·cases h
 ·have⟨dv,u,ab,h1,h2,h3,h4,h5⟩:=abL h;exact⟨.none,[],[],dv,_,ab,h1,h2,h3,h4,by simp,h5⟩
 ·have⟨dv,u,ab,h1,h2,h3,h4,h5⟩:=afP h;exact⟨.none,[],[],dv,_,ab,h1,h2,h3,h4,by simp,h5⟩
 ·rename_i t parts;have⟨dv,ab,h1,h2,h3,h4,h5⟩:=abK h;refine⟨.none,[],[],dv,[],ab,?_,h2,h3,h4,by simp,h5⟩;rw[map_map]at h1;exact h1
 ·rename_i t len parts;have⟨dv,u,ab,h1,h2,h3,h4,h5⟩:=Ox h;refine⟨.none,[],[],dv,_,ab,?_,h2,h3,h4,by simp,h5⟩;rw[map_map]at h1;exact h1
 ·have⟨ci,rd,dv,ab,h1,h2,h3,h4,h5⟩:=aim h;exact⟨ci,rd,[],dv,[],ab,h1,h2,h3,h4,by simp,h5⟩
 ·have⟨ci,kk,u,ab,h1,h2,h3,h4,h5⟩:=aio h;exact⟨ci,[kk],[kk],.undef,_,ab,h1,h2,h3,h4,by simp,h5⟩
 ·have⟨dv,ab,h1,h2,h3,h4,h5⟩:=afN h;exact⟨.none,[],[],dv,[],ab,h1,h2,h3,h4,by simp,h5⟩
 ·have⟨dv,ab,h1,h2,h3,h4,h5⟩:=aip h;exact⟨.none,[],[],dv,[],ab,h1,h2,h3,h4,by simp,h5⟩
 ·rename_i f first caps
  refine⟨.none,[],[],_,[],⟨.fn f (first.toList.map λx=>den (ρ x)) (caps.toList.map λx=>den (ρ x)),[],[]⟩,rfl,trivial,?_,rfl,by simp,h⟩;simp only[den,U7]
 ·rename_i t x lo hi;have⟨ci,rd,dv,ab,h1,h2,h3,h4,h5⟩:=abM h;refine⟨ci,rd,[],dv,[],ab,?_,h2,h3,h4,by simp,h5⟩;simp only[Option.map_map]at h1;exact h1
 ·have⟨dv,ab,h1,h2,h3,h4,h5⟩:=QR h;exact⟨.none,[],[],dv,[],ab,h1,h2,h3,h4,by simp,h5⟩
 ·have⟨dv,ab,h1,h2,h3,h4,h5⟩:=abI h;exact⟨.none,[],[],dv,[],ab,h1,h2,h3,h4,by simp,h5⟩
 ·have⟨ci,rd,dv,ab,h1,h2,h3,h4,h5⟩:=QS h;exact⟨ci,rd,[],dv,[],ab,h1,h2,h3,h4,by simp,h5⟩
 ·have⟨dv,ab,h1,h2,h3,h4,h5⟩:=Wz h;exact⟨.none,[],[],dv,[],ab,h1,h2,h3,h4,by simp,h5⟩
 ·rename_i b args cW;have⟨ci,rd,wr,dv,upd,ab,h1,h2⟩:=WB h;refine⟨ci,rd,wr,dv,upd,ab,?_,h2⟩;simp only[U7];exact h1
 ·cases h
end
inductive Pt(ι:Type) where
 |v (c:CT ι)
 |o (k:Nat)
 |p (k:Nat)
 |nil
 |f (F:FuncId) (fs cs:List (Pt ι))
 |od (k:Nat)
 |mp (k:Nat)
 |oz (k:Nat)
 |a (ps:List (Pt ι))
inductive OP(ι:Type) where
 |l (c:CT ι)
 |m (k v:CT ι)
 |c (sz:Nat) (rows:List (List (Pt ι)))
section
variable {ι:Type}
mutual
def Pt.vars:Pt ι->List (CT ι)
 | .v c=>[c]
 | .a ps=>cI ps
 | .f _ fs cs=>cI fs++cI cs
 | .od _=>[.int .i64]
 |_=>[]
def cI:List (Pt ι)->List (CT ι)
 |[]=>[]
 |p::ps=>p.vars++cI ps
end
def ia:List (Nat×Pt ι)->List (CT ι)
 |[]=>[]
 |p::ps=>p.2.vars++ia ps
def wX:List (List (Pt ι))->List (CT ι)
 |[]=>[]
 |r::rs=>cI r++wX rs
def cA:List (Nat×OP ι)->List (CT ι)
 |[]=>[]
 |(_,.l c)::r=> .sl c::cA r
 |(_,.m k v)::r=> .mp k v::cA r
 |(_,.c _ rows)::r=>wX rows++cA r
end
section
variable {X:SX}
structure DC(X:SX) where
 c:CT X.ι
 x:CT.T X.toSE c
@[reducible] def VT:List (CT X.ι)->Type
 |[]=>Unit
 |[c]=>CT.T X.toSE c
 |c::c'::l=>CT.T X.toSE c×VT (c'::l)
def Zk:(l:List (CT X.ι))->List (DC X)->Option (VT (X:=X) l)
 |[],[]=>some ()
 |[c],[d]=>gB d.c c d.x
 |c::c'::l,d::ds=>(gB d.c c d.x).bind λx=>(Zk (c'::l) ds).bind λv=>some (x,v)
 |_,_=>none
def wY:(l:List (CT X.ι))->VT (X:=X) l->List (DC X)
 |[],_=>[]
 |[c],x=>[⟨c,x⟩]
 |c::c'::l,v=>⟨c,v.1⟩::wY (c'::l) v.2
theorem adu{d:DC X}{c:CT X.ι}{x:CT.T X.toSE c}(h:gB d.c c d.x=some x):(⟨c,x⟩:DC X)=d:=by
 obtain⟨a,y⟩:=d;have⟨e,h⟩:=mq h;simp only at e;subst e;subst h;rfl
theorem WC:∀{l:List (CT X.ι)}{ds:List (DC X)}{v:VT (X:=X) l},Zk l ds=some v->wY l v=ds
 |[],[],_,_=>rfl
 |[c],[d],v,h=>by simp only[Zk]at h;simp only[wY,adu h]
 |c::c'::l,d::ds,v,h=>by
  simp only[Zk]at h;rw[ai]at h;obtain⟨x,h1,h⟩:=h;rw[ai]at h;obtain⟨v',h2,h⟩:=h;cases h;simp only[wY,adu h1,WC h2]
 |[],_::_,_,h=>by simp[Zk]at h
 |[_],[],_,h=>by simp[Zk]at h
 |[_],_::_::_,_,h=>by simp[Zk]at h
 |_::_::_,[],_,h=>by simp[Zk]at h
theorem WE{c:CT X.ι}(x:CT.T X.toSE c):gB c c x=some x:=by
 unfold gB;split
 ·rfl
 ·rename_i h _;exact absurd rfl h
def DO(d:DC X):Nat:=match gB d.c (.int .i64) d.x with |some x=>Int.toNat x |none=>0
section
variable (dt:Nat->Nat)
mutual
def eP:Pt X.ι->List (DC X)->DV X×List (DC X)
 | .v _,L=>match L with
  |d::r=>(.c d.c d.x,r)
  |[]=>(.undef,[])
 | .o k,L=>(.own k 0 (dt k),L)
 | .p k,L=>(.ptr k 0 0,L)
 | .mp k,L=>(.mp k,L)
 | .oz k,L=>(.oz k (dt k),L)
 | .nil,L=>(.nil,L)
 | .f F fs cs,L=>(.fn F (lj fs L).1 (lj cs (lj fs L).2).1,(lj cs (lj fs L).2).2)
 | .od k,L=>match L with
  |d::r=>(.own k (DO d) (dt k -DO d),r)
  |[]=>(.undef,[])
 | .a ps,L=>(.agg (lj ps L).1,(lj ps L).2)
def lj:List (Pt X.ι)->List (DC X)->List (DV X)×List (DC X)
 |[],L=>([],L)
 |p::ps,L=>((eP p L).1::(lj ps (eP p L).2).1,(lj ps (eP p L).2).2)
end
def M5:List (Nat×Pt X.ι)->List (DC X)->List (Nat×DV X)
 |[],_=>[]
 |(t,p)::r,L=>(t,(eP dt p L).1)::M5 r (eP dt p L).2
def wZ:List (List (Pt X.ι))->List (DC X)->List (List (DV X))×List (DC X)
 |[],L=>([],L)
 |r::rs,L=>((lj dt r L).1::(wZ rs (lj dt r L).2).1,(wZ rs (lj dt r L).2).2)
def bX:List (Nat×OP X.ι)->List (DC X)->List (Nat×Option (br X))
 |[],_=>[]
 |(k,.l _)::r,L=>match L with
  |⟨.sl c',x⟩::L=>(k,some (.de c' x))::bX r L
  |_=>[]
 |(k,.m _ _)::r,L=>match L with
  |⟨.mp kc vc,x⟩::L=>(k,some (.map kc vc x))::bX r L
  |_=>[]
 |(k,.c sz rows)::r,L=>(k,some (.cells sz (wZ dt rows L).1))::bX r (wZ dt rows L).2
end
def lens:List (Nat×OP X.ι)->List (DC X)->List (Nat×Nat)
 |[],_=>[]
 |(k,.l _)::r,L=>match L with
  |⟨.sl _,x⟩::L=>(k,List.length x)::lens r L
  |_=>[]
 |(_,.m _ _)::r,L=>lens r (L.drop 1)
 |(_,.c _ rows)::r,L=>lens r (L.drop (wX rows).length)
def lp:Nat->List (Pt X.ι)->List (Nat×Pt X.ι)
 |_,[]=>[]
 |n,p::ps=>(n,p)::lp (n+1) ps
theorem QU:∀(n:Nat)(ps:List (Pt X.ι)),ia (lp n ps)=cI ps
 |_,[]=>rfl
 |n,p::ps=>by simp only[lp,ia,cI,QU (n+1) ps]
structure cT(X:SX) where
 pm:List (Pt X.ι)
 ix:List (Nat×OP X.ι)
 fy:List (Pt X.ι)
 iv:List (Nat×OP X.ι)
 fn:VT (X:=X) (cI pm++cA ix)->Option (VT (X:=X) (ia (lp 0 fy)++cA iv))
def Dm(O:List (Nat×OP X.ι))(L:List (DC X))(k:Nat):Nat:=(lk (lens O L) k).getD 0
def WG(ps:List (Pt X.ι))(O:List (Nat×OP X.ι))(L:List (DC X)):List (DV X):=(lj (Dm O (L.drop (cI ps).length)) ps (L.take (cI ps).length)).1
def HX(ps:List (Pt X.ι))(O:List (Nat×OP X.ι))(L:List (DC X)):List (Nat×Option (br X)):=bX (Dm O (L.drop (cI ps).length)) O (L.drop (cI ps).length)
def Ag:List (DV X)->DV X
 |[d]=>d
 |ds=> .fh ds
def cZ:List (Nat×Option (br X))->List (Nat×br X)
 |[]=>[]
 |(k,some o)::r=>(k,o)::cZ r
 |(_,none)::r=>cZ r
def tY(l:List (Nat×br X)):List (Nat×aU):=l.map λp=>(p.1,bF p.2)
def cT.args(g:cT X)(v:VT (X:=X) (cI g.pm++cA g.ix)):List (DV X):=WG g.pm g.ix (wY _ v)
def cT.cH(g:cT X)(v:VT (X:=X) (cI g.pm++cA g.ix)):List (Nat×br X):=cZ (HX g.pm g.ix (wY _ v))
def cT.res(g:cT X)(r:VT (X:=X) (ia (lp 0 g.fy)++cA g.iv)):DV X:=Ag (WG g.fy g.iv (wY _ r))
def cT.outs(g:cT X)(r:VT (X:=X) (ia (lp 0 g.fy)++cA g.iv)):List (Nat×br X):=cZ (HX g.fy g.iv (wY _ r))
def HK(P:Program)(f:FuncId)(g:cT X):Prop:=∀v r,g.fn v=some r->CA P f (bJ (g.args v)) ((g.cH v).map λp=>bF p.2) (tY (g.outs r)) (den (g.res r))
end
inductive AT(ι:Type) where
 |d (c:CT ι)
 |ref (c:CT ι)
 |cV (as:List (CT ι)) (r:CT ι)
 |mut (c:CT ι)
 |fm (c:CT ι)
 |nil
 deriving DecidableEq
def AT.im{ι:Type}:AT ι->Bool
 | .mut _ | .fm _=>true
 |_=>false
def AT.pl{ι:Type}:AT ι->Bool
 | .mut _ | .fm _ | .nil=>false
 |_=>true
inductive RT(ι:Type) where
 |d (c:CT ι)
 |fresh (e:CT ι)
 |whole (j:Nat)
 |mu (c:CT ι)
 |mr (c:CT ι)
 |mv
def RT.out{ι:Type}:RT ι->Bool
 | .mu _ | .mr _ | .mv=>true
 |_=>false
section
variable (X:SX)
@[reducible] def AT.T:AT X.ι->Type
 | .d c=>CT.T X.toSE c
 | .ref c=>CT.T X.toSE c
 | .cV as r=>HL X.toSE as->Option (CT.T X.toSE r)
 | .mut c=>List (CT.T X.toSE c)
 | .fm c=>CT.T X.toSE c
 | .nil=>Unit
@[reducible] def RT.T:RT X.ι->Type
 | .d c=>CT.T X.toSE c
 | .fresh e=>List (CT.T X.toSE e)
 | .whole _=>Unit
 | .mu c=>List (CT.T X.toSE c)
 | .mr c=>CT.T X.toSE c
 | .mv=>Unit
@[reducible] def jc:List (AT X.ι)->Type
 |[]=>Unit
 |a::l=>AT.T X a×jc l
@[reducible] def tV:List (RT X.ι)->Type
 |[]=>Unit
 |[r]=>RT.T X r
 |r::r'::l=>RT.T X r×tV (r'::l)
structure bz where
 args:List (AT X.ι)
 res:List (RT X.ι)
 fn:jc X args->Option (tV X res)
 gen:Option (cT X):=none
variable {X}
def dN:Nat->(l:List (AT X.ι))->jc X l->List AV
 |_,[],_=>[]
 |n,.d c::l,a=>(CT.tv X.toSE c a.1).av::dN n l a.2
 |n,.ref c::l,a=> .ek (CT.row X.toSE c a.1) 0::dN n l a.2
 |n,.cV as r::l,a=>den (.cV as r a.1:DV X)::dN n l a.2
 |n,.mut _::l,a=> .own n 0 (List.length a.1)::dN (n+1) l a.2
 |n,.fm _::l,a=> .ptr n 0 0::dN (n+1) l a.2
 |n,.nil::l,a=> .cM::dN n l a.2
abbrev Ah(l:List (AT X.ι))(a:jc X l):List AV:=dN 0 l a
def sD(c:CT X.ι)(l:List (CT.T X.toSE c)):eZ:=(CT.sz X c,l.map (CT.row X.toSE c))
def qF:(l:List (AT X.ι))->jc X l->List eZ
 |[],_=>[]
 | .mut c::l,a=>sD c a.1::qF l a.2
 | .fm c::l,a=>sD c [a.1]::qF l a.2
 | .d _::l,a=>qF l a.2
 | .ref _::l,a=>qF l a.2
 | .cV _ _::l,a=>qF l a.2
 | .nil::l,a=>qF l a.2
def qG:(r:RT X.ι)->RT.T X r->List (Option eZ)
 | .mu c,x=>[some (sD c x)]
 | .mr c,x=>[some (sD c [x])]
 | .mv,_=>[none]
 |_,_=>[]
def oh:(l:List (RT X.ι))->tV X l->List (Option eZ)
 |[],_=>[]
 |[r],x=>qG r x
 |r::r'::l,x=>qG r x.1++oh (r'::l) x.2
def Zl:(r:RT X.ι)->RT.T X r->List Nat
 | .mu _,x=>[List.length x]
 | .mr _,_=>[1]
 | .mv,_=>[0]
 |_,_=>[]
def vy:(l:List (RT X.ι))->tV X l->List Nat
 |[],_=>[]
 |[r],x=>Zl r x
 |r::r'::l,x=>Zl r x.1++vy (r'::l) x.2
def WH(ns:List Nat):(r:RT X.ι)->RT.T X r->List RC
 | .d c,x=>[.d (CT.tv X.toSE c x)]
 | .fresh e,l=>[.fresh (CT.sz X e) (l.map (CT.row X.toSE e))]
 | .whole j,_=>[.whole j (ns.getD j 0)]
 |_,_=>[]
def Dn(ns:List Nat):(l:List (RT X.ι))->tV X l->List RC
 |[],_=>[]
 |[r],x=>WH ns r x
 |r::r'::l,x=>WH ns r x.1++Dn ns (r'::l) x.2
def tZ(l:List (RT X.ι))(x:tV X l):RV:=
 match Dn (vy l x) l x with
 |[c]=> .one c
 |cs=> .fh cs
def ry(P:Program)(Γ:FuncId->Option (bz X)):Prop:=
 ∀f s,Γ f=some s->iL P f/\(∀ a r,s.fn a=some r->rI P f (Ah s.args a) (qF s.args a) (oh s.res r) (tZ s.res r))/\∀g,s.gen=some g->HK P f g
theorem anB:∀{l:List (AT X.ι)},(l.all λq=>q.pl)=true->(l.all λq=>!q.im)=true:=λ{l} h=>by
 rw[all_eq_true]at h ⊢;intro q hq;have:=h q hq;cases q<;>simp_all [AT.pl,AT.im]
theorem Ai:∀{l:List (AT X.ι)}{a:jc X l},(l.all λq=>!q.im)=true->qF l a=[]
 |[],_,_=>rfl
 | .d _::l,a,h=>Ai (l:=l) (by simpa[AT.im]using h)
 | .ref _::l,a,h=>Ai (l:=l) (by simpa[AT.im]using h)
 | .cV _ _::l,a,h=>Ai (l:=l) (by simpa[AT.im]using h)
 | .mut _::l,a,h=>by simp[AT.im]at h
 | .fm _::l,a,h=>by simp[AT.im]at h
 | .nil::l,a,h=>Ai (l:=l) (by simpa[AT.im]using h)
theorem adw{r:RT X.ι}{x:RT.T X r}(h:(!r.out)=true):qG r x=[]:=by cases r<;>first |rfl |simp[RT.out]at h
theorem adx:∀{l:List (RT X.ι)}{x:tV X l},(l.all λq=>!q.out)=true->oh l x=[]
 |[],_,_=>rfl
 |[r],x,h=>adw (by simpa using h)
 |r::r'::l,x,h=>by
  simp only[all_cons,aJ]at h;simp only[oh,adw h.1,bO];exact adx (l:=r'::l) (by simp only[all_cons,aJ];exact h.2)
mutual
def bm:DV X->List Nat
 | .own k _ _=>[k]
 | .ptr k _ _=>[k]
 | .pZ k _ _=>[k]
 | .rk k _ _ _ _=>[k]
 | .mp k=>[k]
 | .oz k _=>[k]
 | .agg cs=>aS cs
 | .fh cs=>aS cs
 | .fn _ first caps=>aS first++aS caps
 |_=>[]
def aS:List (DV X)->List Nat
 |[]=>[]
 |x::xs=>bm x++aS xs
end
theorem Gr(c:CT X.ι)(x:CT.T X.toSE c):refs (CT.tv X.toSE c x).av=[]:=by
 cases c<;>try rfl
 rename_i i;show eD ((X.row i x).map AV.t)=[];generalize X.row i x=l
 induction l with
 |nil=>rfl
 |cons y ys ih=>simp only[aC,eD,refs,ih,bO]
mutual
theorem iR:∀x:DV X,refs (den x)=bm x
 | .c t x=>Gr t x
 | .agg cs=>by simp only[den,refs,bm,iq cs]
 | .fh cs=>by simp only[den,refs,bm,iq cs]
 | .own _ _ _=>rfl
 | .ptr _ _ _=>rfl
 | .pZ _ _ _=>rfl
 | .mp _=>rfl
 | .oz _ _=>rfl
 | .rk _ _ _ _ _=>rfl
 | .rp _ _ _=>rfl
 | .uA _ _ _ _ _=>rfl
 | .fn f first caps=>by simp only[den,refs,bm,iq first,iq caps]
 | .cV _ _ _=>rfl
 | .raw v=>by
  simp only[den,bm,cv];split
  ·rfl
  ·split<;>rfl
 | .nil=>rfl
 | .ub=>rfl
 | .skip=>rfl
 | .undef=>rfl
theorem iq:∀l:List (DV X),eD (bJ l)=aS l
 |[]=>rfl
 |x::xs=>by simp only[bJ,eD,aS,iR x,iq xs]
end
def SS(get:Nat->Option (br X))(d:DV X)(c:CT X.ι):Option (CT.T X.toSE c×List Bool):=
 match d,c with
 | .own kk aa len,.sl e=>(get kk).bind λo=>match o with
  | .de b l=>(gB (.sl b) (.sl e) l).bind λ(l:List (CT.T X.toSE e))=>some (sub l aa len,[bk (sub l aa len).length len])
  |_=>none
 | .own kk aa len,.any=>(get kk).bind λo=>match o with
  | .de b l=>some (.sl (List.map (CT.row X.toSE b) (sub l aa len)),[bk (sub l aa len).length len])
  |_=>none
 | .oz kk len,.sl e=>(get kk).bind λo=>match o with
  | .de b l=>(gB (.sl b) (.sl e) l).bind λ(l:List (CT.T X.toSE e))=>some (sub l 0 len,[bk (sub l 0 len).length len])
  |_=>none
 |d,c=>(LW d c).bind λx=>some (x,[])
def yj(get:Nat->Option (br X)):List (DV X)->(l:List (CT X.ι))->Option (HL X.toSE l×List Bool)
 |[],[]=>some ((),[])
 |d::ds,c::l=>(SS get d c).bind λx=>(yj get ds l).bind λh=>some ((x.1,h.1),x.2++h.2)
 |_,_=>none
def DM(get:Nat->Option (br X))(d:DV X)(i:X.ι):Option (CT.T X.toSE (.st i)×List Bool):=
 match d with
 | .agg cs=>(yj get cs (X.cW i)).bind λh=>some (X.make i h.1,h.2)
 | .c a x=>(gB a (.st i) x).bind λx=>some (x,[])
 |_=>none
def Io(get:Nat->Option (br X))(d:DV X)(c:CT X.ι):Option (CT.T X.toSE c×List Bool):=
 match c with
 | .st i=>DM get d i
 |c=>SS get d c
def T2(get:Nat->Option (br X))(d:DV X)(c:CT X.ι):Option (CT.T X.toSE c):=
 match d with
 | .ptr kk row 0=>(get kk).bind λo=>match o with
  | .cells _ rows=>(rows[row]?).bind λq=>if q.all (λ x=>match x with | .c _ _=>true |_=>false)then Ou c q else none
  |_=>none
 | .rp a x 0=>gB a c x
 |_=>none
def tx:(l l':List (AT X.ι))->jc X l->jc X l'->jc X (l++l')
 |[],_,_,b=>b
 |_::l,l',a,b=>(a.1,tx l l' a.2 b)
def hlA:(as:List (CT X.ι))->HL X.toSE as->jc X (as.map AT.d)
 |[],_=>()
 |_::l,h=>(h.1,hlA l h.2)
def qH:List (AT X.ι)->Nat
 |[]=>0
 |q::l=>(if q.im then 1 else 0)+qH l
theorem lK:∀(n:Nat)(l l':List (AT X.ι))(a:jc X l)(b:jc X l'),dN n (l++l') (tx l l' a b)=dN n l a++dN (n+qH l) l' b
 |n,[],_,_,_=>rfl
 |n,.d c::l,l',a,b=>by simp[dN,tx,lK n l l' a.2 b,qH,AT.im]
 |n,.ref c::l,l',a,b=>by simp[dN,tx,lK n l l' a.2 b,qH,AT.im]
 |n,.cV as r::l,l',a,b=>by simp[dN,tx,lK n l l' a.2 b,qH,AT.im]
 |n,.mut c::l,l',a,b=>by simp[dN,tx,lK (n+1) l l' a.2 b,qH,AT.im,Nat.add_assoc]
 |n,.fm c::l,l',a,b=>by simp[dN,tx,lK (n+1) l l' a.2 b,qH,AT.im,Nat.add_assoc]
 |n,.nil::l,l',a,b=>by simp[dN,tx,lK n l l' a.2 b,qH,AT.im]
theorem QV:∀(n:Nat)(as:List (CT X.ι))(h:HL X.toSE as),dN n (as.map AT.d) (hlA as h)=(HL.np X.toSE as h).map TV.av
 |_,[],_=>rfl
 |n,c::l,h=>congrArg ((CT.tv X.toSE c h.1).av:: ·) (QV n l h.2)
def amz{a b:CT X.ι}(h:a=b)(o:Option (CT.T X.toSE a)):Option (CT.T X.toSE b):=h ▸ o
def ku(get:Nat->Option (br X))(pc:FuncId->List (DV X)->List (DV X)->(as:List (CT X.ι))->(r:CT X.ι)->Option ((HL X.toSE as->Option (CT.T X.toSE r))×List Bool)):List (DV X)->(l:List (AT X.ι))->Option (jc X l×List Bool)
 |[],[]=>some ((),[])
 |d::ds,.d c::l=>(Io get d c).bind λx=>(ku get pc ds l).bind λh=>some ((x.1,h.1),x.2++h.2)
 |d::ds,.ref c::l=>(T2 get d c).bind λx=>(ku get pc ds l).bind λh=>some ((x,h.1),h.2)
 |d::ds,.cV as r::l=>(match d with
  | .cV as' r' φ=>if h:as'=as/\r'=r then some (λ x=>amz h.2 (φ (h.1 ▸ x)),[])else none
  | .fn f first caps=>pc f first caps as r
  |_=>none).bind λφ=>(ku get pc ds l).bind λq=>some ((φ.1,q.1),φ.2++q.2)
 |_,_=>none
def SV(Γ:FuncId->Option (bz X))(get:Nat->Option (br X)):Nat->List (DV X)->(l:List (AT X.ι))->Option (jc X l×List Bool)
 | 0,ds,l=>ku get (λ _ _ _ _ _=>none) ds l
 |n+1,ds,l=>ku get (λ f first caps as r=>(Γ f).bind λs=>match s with
   |⟨sa,[.d r'],fn,_⟩=>
    if h:r'=r/\sa=sa.take first.length++(as.map AT.d++sa.drop (first.length+as.length))then
     (SV Γ get n first (sa.take first.length)).bind λhf=>(SV Γ get n caps (sa.drop (first.length+as.length))).bind λhc=>
      some (λ x=>amz h.1 (fn (h.2 ▸ tx _ _ hf.1 (tx _ _ (hlA as x) hc.1))),hf.2++hc.2)
    else none
   |_=>none) ds l
section
variable {P:Program} {Γ:FuncId->Option (bz X)} {get:Nat->Option (br X)} {rd:List Nat}
theorem gT{a b:List Prop}(h:∀p∈a,p)(h':∀p∈b,p):∀p∈a++b,p:=λp hp=>(aV.1 hp).elim (h p) (h' p)
theorem JU{d:DV X}{c:CT X.ι}{x:CT.T X.toSE c×List Bool}(h:SS get d c=some x)(hc:∀b∈x.2,b=true)(hrd:∀j∈bm d,j∈rd):∃hs obs,(∀ p∈obs,p)/\∀ag,o8 P (dD rd (fB get)) (den d) (hs++ag)=some ((CT.tv X.toSE c x.1).av,ag,obs):=by
 have base:∀{d:DV X}{c:CT X.ι}{x:CT.T X.toSE c},LW d c=some x->∃hs obs,(∀ p∈obs,p)/\∀ag,o8 P (dD rd (fB get)) (den d) (hs++ag)=some ((CT.tv X.toSE c x).av,ag,obs):=by
  intro d c x h;unfold LW at h;split at h
  ·rw[(iQ h).1];refine⟨[],[],by simp,λag=>?_⟩;simp only[bO,den];cases c<;>try rfl
   rename_i j;show o8 P _ (.agg ((X.row j x).map AV.t)) ag=_;have:∀(l:List Tree) (hs:List LH),nG P (dD rd (fB get)) (l.map AV.t) hs=some (l.map AV.t,hs,[]):=by
    intro l
    induction l with
    |nil=>intro hs;rfl
    |cons y ys ih=>intro hs;simp only[aC,nG,o8,ah,ih,bO]
   simp only[o8,this,ah];rfl
  ·cases h;exact⟨[.emp],[],by simp,λag=>rfl⟩
  ·cases h;exact⟨[.emp],[],by simp,λag=>rfl⟩
  ·cases h
 unfold SS at h;split at h
 ·rename_i kk aa len e;rw[ai]at h;obtain⟨o,h1,h⟩:=h;split at h
  ·rename_i b l0;rw[ai]at h;obtain⟨l,h2,h⟩:=h;cases h;have h3:(sub l aa len).length=len:=(by simpa[bk]using hc (bk (sub l aa len).length len) (by simp));have⟨h4,h5⟩:=ji h2;refine⟨[.rows ((sub l aa len).map (CT.row X.toSE e))],[(((bF (.de b l0):aU).rows.drop aa).take len=aL ((sub l aa len).map (CT.row X.toSE e))/\((sub l aa len).map (CT.row X.toSE e)).length=len)],?_,λag=>?_⟩
   ·intro p hp;simp only[aY]at hp;subst hp;refine⟨?_,by simpa using h3⟩;simp only[bF,h5];simp[aL,sub,map_take,map_drop]
   ·simp only[cons_append,bO,den,o8,dM (hrd kk (by simp[bm])) h1,ah];rfl
  ·cases h
 ·rename_i kk aa len;rw[ai]at h;obtain⟨o,h1,h⟩:=h;split at h
  ·rename_i b l0;cases h;have h3:(sub l0 aa len).length=len:=(by simpa[bk]using hc (bk (sub l0 aa len).length len) (by simp));refine⟨[.rows ((sub l0 aa len).map (CT.row X.toSE b))],[(((bF (.de b l0):aU).rows.drop aa).take len=aL ((sub l0 aa len).map (CT.row X.toSE b))/\((sub l0 aa len).map (CT.row X.toSE b)).length=len)],?_,λag=>?_⟩
   ·intro p hp;simp only[aY]at hp;subst hp;refine⟨?_,by simpa using h3⟩;simp only[bF];simp[aL,sub,map_take,map_drop]
   ·simp only[cons_append,bO,den,o8,dM (hrd kk (by simp[bm])) h1,ah];rfl
  ·cases h
 ·rename_i kk len e;rw[ai]at h;obtain⟨o,h1,h⟩:=h;split at h
  ·rename_i b l0;have⟨l,h2,h⟩:=ai.1 h;cases h;have h3:(sub l 0 len).length=len:=(by simpa[bk]using hc (bk (sub l 0 len).length len) (by simp));have⟨h4,h5⟩:=ji h2;refine⟨[.rows ((sub l 0 len).map (CT.row X.toSE e))],[(((bF (.de b l0):aU).rows.drop 0).take len=aL ((sub l 0 len).map (CT.row X.toSE e))/\((sub l 0 len).map (CT.row X.toSE e)).length=len)],?_,λag=>?_⟩
   ·intro p hp;simp only[aY]at hp;subst hp;refine⟨?_,by simpa using h3⟩;simp only[bF,h5];simp[aL,sub,map_take,map_drop]
   ·simp only[cons_append,bO,den,o8,dM (hrd kk (by simp[bm])) h1,ah];rfl
  ·cases h
 ·have⟨y,h1,h⟩:=ai.1 h;cases h;exact base h1
theorem Oy:∀{ds:List (DV X)}{l:List (CT X.ι)}{h:HL X.toSE l×List Bool},yj get ds l=some h->(∀ b∈h.2,b=true)->l.all CT.one=true->(∀ j∈aS ds,j∈rd)->
 ∃hs obs,(∀ p∈obs,p)/\∀ag,nG P (dD rd (fB get)) (bJ ds) (hs++ag)=some ((HL.row X.toSE l h.1).map AV.t,ag,obs)
 |[],[],h,_,_,_,_=>⟨[],[],by simp,λag=>rfl⟩
 |d::ds,c::l,h,hr,hc,ha,hrd=>by
  simp only[yj]at hr;have⟨x,h1,hr⟩:=ai.1 hr;have⟨g,h2,hr⟩:=ai.1 hr;cases hr;simp only[all_cons,aJ]at ha;obtain⟨hs1,o1,p1,q1⟩:=JU (P:=P) (rd:=rd) h1 (λ b hb=>hc b (by simp[hb])) (λ j hj=>hrd j (by simp[aS,hj]));obtain⟨hs2,o2,p2,q2⟩:=Oy h2 (λ b hb=>hc b (by simp[hb])) ha.2 (λ j hj=>hrd j (by simp[aS,hj]));refine⟨hs1++hs2,o1++o2,gT p1 p2,λag=>?_⟩;simp only[bJ,nG,aK,q1,ah,q2];show _=some ((CT.row X.toSE c x.1++HL.row X.toSE l g.1).map AV.t,ag,o1++o2);rw[map_append,<- Mu ha.1 x.1];rfl
 |[],_::_,_,hr,_,_,_=>by simp[yj]at hr
 |_::_,[],_,hr,_,_,_=>by simp[yj]at hr
theorem Cq{d:DV X}{c:CT X.ι}{x:CT.T X.toSE c×List Bool}(h:Io get d c=some x)(hc:∀b∈x.2,b=true)(hrd:∀j∈bm d,j∈rd):∃hs obs,(∀ p∈obs,p)/\∀ag,o8 P (dD rd (fB get)) (den d) (hs++ag)=some ((CT.tv X.toSE c x.1).av,ag,obs):=by
 cases c
 case st i=>
  replace h:DM get d i=some x:=h
  cases d
  case agg cs=>
   simp only[DM]at h;rw[ai]at h;obtain⟨g,h1,h⟩:=h;cases h;obtain⟨hs,obs,p1,q1⟩:=Oy (P:=P) (rd:=rd) h1 hc (X.flat i) (λ j hj=>hrd j (by simpa[bm]using hj));refine⟨hs,obs,p1,λag=>?_⟩;simp only[den,o8,q1,ah,CT.tv,TV.av];rw[X.gh]
  case c a y=>exact JU (c:= .st i) (x:=x) (by unfold SS;exact h) hc hrd
  all_goals cases h
 all_goals exact JU h hc hrd
theorem ady{d:DV X}{c:CT X.ι}{x:CT.T X.toSE c}(h:T2 get d c=some x)(hrd:∀j∈bm d,j∈rd):∃hs obs,(∀ p∈obs,p)/\∀ag,o8 P (dD rd (fB get)) (den d) (hs++ag)=some (.ek (CT.row X.toSE c x) 0,ag,obs):=by
 unfold T2 at h;split at h
 ·rename_i kk row;rw[ai]at h;obtain⟨o,h1,h⟩:=h;split at h
  ·rename_i sz rows;rw[ai]at h;obtain⟨q,h2,h⟩:=h;split at h
   ·rename_i hq;refine⟨[.row (CT.row X.toSE c x)],[(bF (.cells sz rows):aU).rows[row]? =some ((CT.row X.toSE c x).map AV.t)],?_,λag=>?_⟩
    ·intro p hp;simp only[aY]at hp;subst hp;simp only[bF,List.getElem?_map,h2,Option.map_some];rw[<- zO h,og,map_map];congr 1;refine map_congr_left λy hy=>?_;have:=all_eq_true.1 hq y hy;cases y<;>first |exact(amy _).symm |simp at this
    ·simp only[cons_append,bO,den,o8,dM (hrd kk (by simp[bm])) h1,ah]
   ·cases h
  ·cases h
 ·rename_i a y;refine⟨[],[],by simp,λag=>?_⟩;simp only[den,(iQ h).2];rfl
 ·cases h
theorem afQ{n:Nat}{l l':List (AT X.ι)}(e:l=l')(b:jc X l):dN n l' (e ▸ b)=dN n l b:=by subst e;rfl
theorem ER{pc:FuncId->List (DV X)->List (DV X)->(as:List (CT X.ι))->(r:CT X.ι)->Option ((HL X.toSE as->Option (CT.T X.toSE r))×List Bool)}:∀{ds:List (DV X)}{l:List (AT X.ι)}{a:jc X l×List Bool},ku get pc ds l=some a->(l.all λq=>!q.im)=true
 |[],[],_,_=>rfl
 |d::ds,.d c::l,a,h=>by
  simp only[ku]at h;have⟨x,h1,h⟩:=ai.1 h;have⟨q,h2,h⟩:=ai.1 h;simpa[AT.im]using ER h2
 |d::ds,.ref c::l,a,h=>by
  simp only[ku]at h;have⟨x,h1,h⟩:=ai.1 h;have⟨q,h2,h⟩:=ai.1 h;simpa[AT.im]using ER h2
 |d::ds,.cV as r::l,a,h=>by
  simp only[ku]at h;have⟨x,h1,h⟩:=ai.1 h;have⟨q,h2,h⟩:=ai.1 h;simpa[AT.im]using ER h2
 |_::_,.mut _::_,_,h=>by simp[ku]at h
 |_::_,.fm _::_,_,h=>by simp[ku]at h
 |_::_,.nil::_,_,h=>by simp[ku]at h
 |[],_::_,_,h=>by simp[ku]at h
 |_::_,[],_,h=>by simp[ku]at h
theorem adz:∀{n:Nat}{ds:List (DV X)}{l:List (AT X.ι)}{a:jc X l×List Bool},SV Γ get n ds l=some a->(l.all λq=>!q.im)=true
 | 0,_,_,_,h=>ER h
 |_+1,_,_,_,h=>ER h
theorem WF:∀as:List (CT X.ι),((as.map AT.d).all λq=>!q.im)=true
 |[]=>rfl
 |_::l=>WF l
def anC(P:Program)(get:Nat->Option (br X))(pc:FuncId->List (DV X)->List (DV X)->(as:List (CT X.ι))->(r:CT X.ι)->Option ((HL X.toSE as->Option (CT.T X.toSE r))×List Bool)):Prop:=
 ∀f first caps as r φ rd,pc f first caps as r=some φ->(∀ b∈φ.2,b=true)->(∀ j∈aS first++aS caps,j∈rd)->∃hs obs,(∀ p∈obs,p)/\∀ag,o8 P (dD rd (fB get)) (.fn f (bJ first) (bJ caps)) (hs++ag)=some (den (.cV as r φ.1:DV X),ag,obs)
theorem uf{n:Nat}{pc:FuncId->List (DV X)->List (DV X)->(as:List (CT X.ι))->(r:CT X.ι)->Option ((HL X.toSE as->Option (CT.T X.toSE r))×List Bool)}(vj:anC P get pc):∀{ds:List (DV X)}{l:List (AT X.ι)}{a:jc X l×List Bool},ku get pc ds l=some a->(∀ b∈a.2,b=true)->(∀ j∈aS ds,j∈rd)->
 ∃hs obs,(∀ p∈obs,p)/\∀ag,nG P (dD rd (fB get)) (bJ ds) (hs++ag)=some (dN n l a.1,ag,obs)
 |[],[],_,_,_,_=>⟨[],[],by simp,λag=>rfl⟩
 |d::ds,.d c::l,a,h,hc,hrd=>by
  simp only[ku]at h;have⟨x,h1,h⟩:=ai.1 h;have⟨q,h2,h⟩:=ai.1 h;cases h;obtain⟨hs1,o1,p1,q1⟩:=Cq (P:=P) (rd:=rd) h1 (λ b hb=>hc b (by simp[hb])) (λ j hj=>hrd j (by simp[aS,hj]));obtain⟨hs2,o2,p2,q2⟩:=uf (n:=n) vj h2 (λ b hb=>hc b (by simp[hb])) (λ j hj=>hrd j (by simp[aS,hj]));refine⟨hs1++hs2,o1++o2,gT p1 p2,λag=>?_⟩;simp only[bJ,nG,aK,q1,ah,q2,dN]
 |d::ds,.ref c::l,a,h,hc,hrd=>by
  simp only[ku]at h;rw[ai]at h;obtain⟨x,h1,h⟩:=h;rw[ai]at h;obtain⟨q,h2,h⟩:=h;cases h;obtain⟨hs1,o1,p1,q1⟩:=ady (P:=P) (rd:=rd) h1 (λ j hj=>hrd j (by simp[aS,hj]));obtain⟨hs2,o2,p2,q2⟩:=uf (n:=n) vj h2 hc (λ j hj=>hrd j (by simp[aS,hj]));refine⟨hs1++hs2,o1++o2,gT p1 p2,λag=>?_⟩;simp only[bJ,nG,aK,q1,ah,q2,dN]
 |d::ds,.cV as r::l,a,h,hc,hrd=>by
  simp only[ku]at h;rw[ai]at h;obtain⟨φ,h1,h⟩:=h;rw[ai]at h;obtain⟨q,h2,h⟩:=h;cases h;have hd:∃hs obs,(∀ p∈obs,p)/\∀ag,o8 P (dD rd (fB get)) (den d) (hs++ag)=some (den (.cV as r φ.1:DV X),ag,obs):=by
   cases d
   case cV as' r' ψ=>
    simp only at h1;split at h1
    ·rename_i e;obtain⟨rfl,rfl⟩:=e;cases h1;exact⟨[],[],by simp,λag=>rfl⟩
    ·cases h1
   case fn f first caps=>
    obtain⟨hs,obs,g1,g2⟩:=vj f first caps as r φ rd h1 (λ b hb=>hc b (by simp[hb])) (λ j hj=>hrd j (by simp only[aS,bm,aV]at hj ⊢;exact .inl hj))
    exact⟨hs,obs,g1,λag=>by simp only[den];exact g2 ag⟩
   all_goals simp at h1
  obtain⟨hs1,o1,p1,q1⟩:=hd;obtain⟨hs2,o2,p2,q2⟩:=uf (n:=n) vj h2 (λ b hb=>hc b (by simp[hb])) (λ j hj=>hrd j (by simp[aS,hj]));refine⟨hs1++hs2,o1++o2,gT p1 p2,λag=>?_⟩;simp only[bJ,nG,aK,q1,ah,q2,dN]
 |_::_,.mut _::_,_,h,_,_=>by simp[ku]at h
 |_::_,.fm _::_,_,h,_,_=>by simp[ku]at h
 |_::_,.nil::_,_,h,_,_=>by simp[ku]at h
 |[],_::_,_,h,_,_=>by simp[ku]at h
 |_::_,[],_,h,_,_=>by simp[ku]at h
theorem sU(hΓ:ry P Γ):∀(m:Nat){n:Nat}{ds:List (DV X)}{l:List (AT X.ι)}{a:jc X l×List Bool}{rd:List Nat},SV Γ get m ds l=some a->(∀ b∈a.2,b=true)->(∀ j∈aS ds,j∈rd)->
 ∃hs obs,(∀ p∈obs,p)/\∀ag,nG P (dD rd (fB get)) (bJ ds) (hs++ag)=some (dN n l a.1,ag,obs)
 | 0,n,ds,l,a,rd,h,hcs,hrd=>uf (λ _ _ _ _ _ _ _ h=>by cases h) h hcs hrd
 |m+1,n,ds,l,a,rd,h,hcs,hrd=>by
  refine uf (λ f first caps as r φ rd' hc hb GE=>?_) h hcs hrd;rw[ai]at hc;obtain⟨s,h1,hc⟩:=hc;split at hc
  ·rename_i sa r' fn _;split at hc
   ·rename_i e;obtain⟨rfl,e2⟩:=e;have⟨hf,h2,hc⟩:=ai.1 hc;have⟨hcap,h3,hc⟩:=ai.1 hc;injection hc with hc;rw[<- hc]at hb;obtain⟨g1,g2,_⟩:=hΓ f _ h1;obtain⟨hs1,o1,p1,q1⟩:=sU hΓ m h2 (n:=0) (rd:=rd') (λ b hb'=>hb b (by simp[hb'])) (λ j hj=>GE j (by simp[hj]));obtain⟨hs2,o2,p2,q2⟩:=sU hΓ m h3 (n:=0+qH (sa.take first.length)+qH (as.map AT.d)) (rd:=rd') (λ b hb'=>hb b (by simp[hb'])) (λ j hj=>GE j (by simp[hj]));refine⟨.cV (λ ts u=>∃h x,φ.1 h=some x/\ts=HL.np X.toSE as h/\u=CT.tv X.toSE r' x)::(hs1++hs2),o1++(o2++[iL P f/\∀args r,(∃ h x,φ.1 h=some x/\args=HL.np X.toSE as h/\r=CT.tv X.toSE r' x)->sy P f (dN 0 _ hf.1++args.map TV.av++dN (0+qH (sa.take first.length)+qH (as.map AT.d)) _ hcap.1) (.one (.d r))]),?_,λag=>?_⟩
    ·intro p hp;simp only[aV,aY]at hp;rcases hp with hp |hp |hp
     ·exact p1 p hp
     ·exact p2 p hp
     ·subst hp;refine⟨g1,?_⟩;rintro args r ⟨x,y,hxy,rfl,rfl⟩;rw[<- hc]at hxy;have hxy':fn (e2 ▸ tx _ _ hf.1 (tx _ _ (hlA as x) hcap.1))=some y:=hxy;have:=g2 _ _ hxy';have hnm:(sa.all λq=>!q.im)=true:=(by rw[e2,List.all_append,List.all_append,adz h2,adz h3,WF];rfl);rw[Ai hnm,Ah,afQ e2.symm,lK,lK,QV,<- aK]at this;exact Wj this
    ·simp only[cons_append,aK,o8,q1,ah,q2];rfl
   ·cases hc
  ·cases hc
end
end
def JV(s:ByteArray)(n:Int):Option Int:=bif decide (0<=n)then(s[n.toNat]?).map λb=>(b.toNat:Int)else none
def Bu(m:Int)(bytes:Nat):Bool:=decide (0<=m)&&decide (m.toNat*bytes<=140737488355328)&&decide (m.toNat<=maxLen)
def qz{K V:Type}(eq:K->K->Bool)(k:K):List (K×V)->Option V
 |[]=>none
 |p::r=>bif eq k p.1 then some p.2 else qz eq k r
def M6{K V:Type}(eq:K->K->Bool)(k:K)(v:V):List (K×V)->List (K×V)
 |[]=>[(k,v)]
 |p::r=>bif eq k p.1 then(k,v)::r else p::M6 eq k v r
def Z3(a b:Int):Bool:=a==b
def jt(a b:ByteArray):Bool:=a.toList==b.toList
def bEq(a b:Bool):Bool:=a==b
section
variable {X:SX} {A:Type}
def Oz:(c:CT X.ι)->Option (CT.T X.toSE c->CT.T X.toSE c->Bool)
 | .int _=>some Z3
 | .str=>some jt
 | .bool=>some bEq
 |_=>none
def B5{ι:Type}:xt->CT ι->Bool
 | .int a,.int b=>decide (a=b)
 | .str,.str=>true
 | .bool,.bool=>true
 |_,_=>false
def anD{ι:Type}:CT ι->Bool
 | .st _=>true
 |_=>false
theorem iE(a b:List (DV X)):bJ (a++b)=bJ a++bJ b:=by simp[og]
theorem sV(a b:List (Nat×Option (br X))):gF (a++b)=gF a++gF b:=by simp[gF]
def OA(ae:List Nat):List (Nat×Option (br X)):=ae.map λj=>(j,none)
theorem ES(ae:List Nat):gF (OA (X:=X) ae)=ae.map λk=>(k,none):=by simp[gF,OA]
theorem Lg{ae:List Nat}{p:Nat×Option (br X)}(h:p∈OA ae):p.1∈ae:=by
 simp only[OA,mem_map]at h;obtain⟨j,hj,rfl⟩:=h;exact hj
variable (T:dC) (ao:TypeId->Option (CT X.ι))
def Up:DV X->Bool
 | .nil=>true
 |_=>false
def Dd(op:BinOp)(b:DV X)(yes:Bool)(k:KK X A):Option A:=
 match op with
 | .eql=>bif yes then k b [] [] []else k (.c .bool false) [] [] []
 | .neq=>bif yes then k b [] [] []else k (.c .bool true) [] [] []
 |_=>none
def SU(op:BinOp)(t:TypeId)(x:DV X)(k:KK X A):Option A:=
 (T t).bind λti=>match ti.k,x with
 | .slice _,.c (.sl _) l=>Dd op .ub (List.isEmpty l) k
 | .slice _,.own _ _ len=>Dd op .ub (len==0) k
 | .slice _,.oz _ len=>Dd op (.c .bool (op== .eql)) (len==0) k
 | .slice _,.nil=>Dd op (.c .bool (op== .eql)) true k
 |_,_=>none
def amA(s d:TypeId)(x:DV X)(k:KK X A):Option A:=
 (T s).bind λ_=>(T d).bind λdi=>match di.k,x with
 | .int kd,.c (.int _) n=>k (.c (.int kd) (kd.wrap (iN n))) [] [] []
 |_,_=>none
def aj1(t:TypeId)(x j:DV X)(k:KK X A):Option A:=
 (T t).bind λti=>match ti.k,x,j with
 | .str,.c .str s,.c (.int _) n=>(JV s n).bind λb=>k (.c (.int .u8) b) [] [] []
 | .arr m e,.agg cs,.c (.int _) q=>(T e).bind λei=>bif b7 q m then(JQ ei.agg ei.size ((cs.drop (q.toNat*ei.size)).take ei.size)).bind λv=>k v [] [] []else none
 |_,_,_=>none
def aau(t:TypeId)(x:DV X)(lo hi:Option (DV X))(k:KK X A):Option A:=
 (T t).bind λti=>match ti.k,x with
 | .slice e,.nil=>(T e).bind λ_=>(Zi 0 lo).bind λl=>(Zi 0 hi).bind λh=>bif decide (l=0)&&decide (h=0)then k .nil [] [] []else none
 |_,_=>none
def QW(i:Nat)(b:Builtin)(args:List (DV X))(cW:List TypeId)(get:Nat->Option (br X))(k:KK X A):Option A:=
 match b,args,cW with
 | .cap,[.nil],[t]=>(T t).bind λti=>match ti.k with
  | .slice _=>k (.c (.int .i64) (0:Int)) [] [] []
  |_=>none
 | .clear,[.own kk aa _],[t]=>(T t).bind λti=>match ti.k with
  | .slice e=>(T e).bind λei=>(get kk).bind λo=>match o with
   | .de c l=>if CT.sz X c=ei.size then k (.fh []) [(kk,some (.de c (l.take aa)))] [kk] [kk]else none
   |_=>none
  |_=>none
 | .append,[.nil,.c (.int _) m],[t,u]=>(T t).bind λti=>(T u).bind λui=>match ti.k,ui.k with
  | .slice e,.int _=>(T e).bind λei=>(ao e).bind λc=>if CT.sz X c=ei.size/\0<ei.size then(Ou c (ei.zero.map tw)).bind λz=>
   bif Bu (iN m) ei.bytes then k (.own (cp i) 0 m.toNat) [(cp i,some (.de c (List.replicate m.toNat z)))] [] []else none else none
  |_,_=>none
 |_,_,_=>none
def QX(x:DV X)(k:KK X A):Option A:=
 match x with
 | .ptr kk r f=>k (.ptr kk r f) [] [] []
 | .pZ kk n f=>k (.pZ kk n f) [] [] []
 | .rk kk r f m n=>k (.rk kk r f m n) [] [] []
 | .rp c y f=>k (.rp c y f) [] [] []
 |_=>none
def T1(i:Nat)(t:TypeId)(l c:DV X)(k:KK X A):Option A:=
 (T t).bind λti=>match ti.k,l,c with
 | .slice e,.c (.int _) n,.c (.int _) m=>(T e).bind λei=>(ao e).bind λc=>if CT.sz X c=ei.size/\0<ei.size then(Ou c (ei.zero.map tw)).bind λz=>
  bif decide (iN n<=iN m)&&(decide (0<=iN n)&&Bu (iN m) ei.bytes)then k (.own (cp i) 0 n.toNat) [(cp i,some (.de c (List.replicate n.toNat z)))] [] []else none else none
 |_,_,_=>none
def WI(i:Nat)(t:TypeId)(k:KK X A):Option A:=
 (T t).bind λti=>match ti.k with
 | .map kt et=>(ao kt).bind λkc=>(ao et).bind λvc=>k (.mp (cp i)) [(cp i,some (.map kc vc []))] [] []
 |_=>none
def WD(t:TypeId)(x key:DV X)(ok:Bool)(get:Nat->Option (br X))(k:KK X A):Option A:=
 (T t).bind λti=>match ti.k,x with
 | .map kt et,.mp kk=>(T kt).bind λki=>(T et).bind λei=>(get kk).bind λo=>match o with
  | .map kc vc l=>(Oz kc).bind λeq=>(LW key kc).bind λkv=>if B5 ki.k kc=true/\ei.agg=anD vc/\ei.size=CT.sz X vc then(Ou vc (ei.zero.map tw)).bind λz=>
   bif ok then k (.fh [.c vc ((qz eq kv l).getD z),.c .bool (qz eq kv l).isSome]) [] [kk] []else k (.c vc ((qz eq kv l).getD z)) [] [kk] []else none
  |_=>none
 |_,_=>none
def Wr(t:TypeId)(x key y:DV X)(get:Nat->Option (br X))(k:KK X A):Option A:=
 (T t).bind λti=>match ti.k,x with
 | .map kt _,.mp kk=>(T kt).bind λki=>(get kk).bind λo=>match o with
  | .map kc vc l=>(Oz kc).bind λeq=>(LW key kc).bind λkv=>(dat y vc).bind λv=>if B5 ki.k kc=true then k .undef [(kk,some (.map kc vc (M6 eq kv v l)))] [kk] [kk]else none
  |_=>none
 |_,_=>none
def anE(o:Op)(ρ:Operand->DV X):Bool:=
 match o with
 | .binOp _ _ _ y _=>Up (ρ y)
 | .convert _ _ _=>true
 | .index _ _ _=>true
 | .nilCheck _=>true
 | .makeSlice _ _ _=>true
 | .makeMap _ none=>true
 | .lookup _ _ _ _=>true
 | .mapUpdate _ _ _ _=>true
 | .slice _ x _ _ none=>Up (ρ x)
 | .call { callee:= .builtin b,args:=args,argTypes:=_ }=>match b,args.toList.map ρ with
  | .cap,_=>true
  | .clear,_=>true
  | .append,[_,.c (.int _) _]=>true
  |_,_=>false
 |_=>false
def SR(i:Nat)(o:Op)(ρ:Operand->DV X)(get:Nat->Option (br X))(k:KK X A):Option A:=
 match o with
 | .binOp op t x y _=>if Up (ρ y)then SU T op t (ρ x) k else none
 | .convert s d x=>amA T s d (ρ x) k
 | .index t x j=>aj1 T t (ρ x) (ρ j) k
 | .slice t x lo hi none=>aau T t (ρ x) (lo.map ρ) (hi.map ρ) k
 | .nilCheck x=>QX (ρ x) k
 | .makeSlice t l c=>T1 T ao i t (ρ l) (ρ c) k
 | .makeMap t none=>WI T ao i t k
 | .lookup t m x ok=>WD T t (ρ m) (ρ x) ok get k
 | .mapUpdate t m x v=>Wr T t (ρ m) (ρ x) (ρ v) get k
 | .call { callee:= .builtin b,args:=args,argTypes:=cW }=>QW T ao i b (args.toList.map ρ) cW.toList get k
 |_=>none
def HR(get:Nat->Option (br X))(c:CT X.ι)(ρ:Operand->DV X)(x:Operand):DV X:=
 match Io get (ρ x) c with
 |some y=> .c c y.1
 |none=>ρ x
def Jn(get:Nat->Option (br X))(c:CT X.ι)(ρ:Operand->DV X):List Operand->List Bool
 |[]=>[]
 |x::xs=>(match Io get (ρ x) c with |some y=>y.2 |none=>[])++Jn get c ρ xs
def xm(get:Nat->Option (br X))(c:CT X.ι)(ρ:Operand->DV X):List Operand->List Nat
 |[]=>[]
 |x::xs=>(match Io get (ρ x) c with |some _=>bm (ρ x) |none=>[])++xm get c ρ xs
def alH(o:Op)(ρ:Operand->DV X)(get:Nat->Option (br X)):Option (CT X.ι):=
 match o with
 | .box t _=>ao t
 | .assign x | .move x=>match ρ x with
  | .own kk _ _=>(get kk).bind λo=>match o with
   | .de c _=>some (.sl c)
   |_=>none
  |_=>none
 | .buildSlice t _ _=>(T t).bind λti=>match ti.k with
  | .slice e=>ao e
  |_=>none
 | .store t _ _=>ao t
 |_=>none
def anF(o:Op)(ρ:Operand->DV X):Bool:=
 match o with
 | .buildSlice _ _ parts=>!(aS (parts.toList.map λp=>ρ p.2)).isEmpty
 | .store _ a x=>match ρ a with
  | .pZ _ _ _=>!(bm (ρ x)).isEmpty
  |_=>false
 |_=>false
def SP(i:Nat)(o:Op)(ρ:Operand->DV X)(get:Nat->Option (br X))(k:KK X A):Option A:=
 if T7 o then none else(alH T ao o ρ get).bind λc=>Ws (Jn get c ρ o.operands.toList)
  (Ix T ao i o (HR get c ρ) (λ j=>if j∈xm get c ρ o.operands.toList then none else get j) λdv upd rd wr=>
   k dv (upd++OA (xm get c ρ o.operands.toList)) (rd++xm get c ρ o.operands.toList) (wr++xm get c ρ o.operands.toList))
def anG(o:Op)(ρ:Operand->DV X):Bool:=
 match o with
 | .indexAddr t x (.tmp _)=>match ρ x,T t with
  | .ptr _ _ _,some ti | .rp _ _ _,some ti=>match ti.k with
   | .arr _ e=>match T e with
    |some ei=>ei.size==1
    |none=>false
   |_=>false
  |_,_=>false
 | .load _ a=>match ρ a with
  | .rk _ _ _ _ _ | .uA _ _ _ _ _=>true
  |_=>false
 |_=>false
def y7(c:CT X.ι):List (DV X)->Option (List (CT.T X.toSE c))
 |[]=>some []
 | .c a x::r=>(gB a c x).bind λy=>(y7 c r).bind λl=>some (y::l)
 |_=>none
def SO(o:Op)(ρ:Operand->DV X)(get:Nat->Option (br X))(k:KK X A):Option A:=
 match o with
 | .indexAddr t x j=>(T t).bind λti=>match ti.k,ρ x,ρ j with
  | .arr m e,.ptr kk row aa,.c (.int _) n=>(T e).bind λei=>if ei.size=1 then bif b7 n m then k (.rk kk row aa m n) [] [] []else none else none
  | .arr m e,.rp c y aa,.c (.int _) n=>(T e).bind λei=>if ei.size=1 then bif b7 n m then k (.uA c y aa m n) [] [] []else none else none
  |_,_,_=>none
 | .load t a=>(T t).bind λti=>match ρ a with
  | .rk kk row aa m n=>if ti.size=1/\ti.agg=false then(ao t).bind λc=>if c.one=true then(get kk).bind λo=>match o with
   | .cells _ rows=>(rows[row]?).bind λq=>(y7 c ((q.drop aa).take m)).bind λ(xs:List (CT.T X.toSE c))=>(bo xs n).bind λy=>k (.c c y) [] [kk] []
   | .de b l=>if row=0/\b.one=true then(atO l aa n).bind λy=>k (.c b y) [] [kk] []else none
   |_=>none
   else none else none
  | .uA b y aa m n=>if ti.size=1/\ti.agg=false then(ao t).bind λc=>if c.one=true then(y7 c (((vL b y).drop aa).take m)).bind λ(xs:List (CT.T X.toSE c))=>(bo xs n).bind λy=>k (.c c y) [] [] []
   else none else none
  |_=>none
 |_=>none
variable {T ao}
def cN(P:Program)(T:dC)(i:Nat)(o:Oper)(ρ:Operand->DV X)(get:Nat->Option (br X))(k:KK X A)(r:A):Prop:=
 ∃ci rd wr dv upd ab,jE P T i o ci (λ x=>den (ρ x)) (dD rd (fB get))=some ab/\jY ab.obs/\ab.v=den dv/\ab.upd=gF upd/\(∀ p∈upd,p.1=cp i\/p.1∈wr)/\k dv upd rd wr=some r
section
variable {P:Program} {get:Nat->Option (br X)} {k:KK X A} {r:A} {i:Nat} {o:Oper} {ρ:Operand->DV X}
theorem aj4{t:TypeId}{x:AV}{ci:iS}(h:(∃ n,ci= .ext n)\/∃ae fr q,ci= .vn ae fr q):xr T t x .none=xr T t x ci:=by
 unfold xr;cases T t with
 |none=>rfl
 |some ti=>
  simp only[ah];generalize ti.k=kk;rcases h with ⟨n,rfl⟩ |⟨ae,fr,q,rfl⟩<;>cases kk<;>try rfl
  all_goals cases x<;>try rfl
  all_goals (rename_i y;cases y<;>try rfl)
  all_goals (rename_i y;cases y<;>rfl)
theorem WJ{t:TypeId}{x j:AV}{ci:iS}{get:Nat->Option aU}(h:(∃ n,ci= .ext n)\/∃ae fr q,ci= .vn ae fr q):mh T t x j .none get=mh T t x j ci get:=by
 unfold mh;cases T t with
 |none=>rfl
 |some ti=>
  simp only[ah];generalize ti.k=kk;cases kk<;>try rfl
  case arr m e=>
   cases j<;>try rfl
   rename_i y;cases y<;>try rfl
   rename_i y;cases y<;>rfl
  cases j<;>try rfl
  rename_i e y;cases y<;>try rfl
  rename_i y;cases y<;>try rfl
  simp only;cases T e with
  |none=>rfl
  |some ei=>
   simp only[ah];rcases h with ⟨n,rfl⟩ |⟨ae,fr,q,rfl⟩<;>cases x<;>try rfl
   all_goals (rename_i z;cases z<;>rfl)
theorem adB{t:TypeId}{x y:AV}{ci:iS}{get:Nat->Option aU}(h:(∃ n,ci= .ext n)\/∃ae fr q,ci= .vn ae fr q):Cj T i t x y .none get=Cj T i t x y ci get:=by
 unfold Cj;rcases h with ⟨n,rfl⟩ |⟨ae,fr,q,rfl⟩<;>rfl
theorem air{ci:iS}{ρ:Operand->AV}{get:Nat->Option aU}(h:(∃ n,ci= .ext n)\/∃ae fr q,ci= .vn ae fr q):qy T i o .none ρ get=qy T i o ci ρ get:=by
 obtain⟨dst,op,ty,aw,after,guard⟩:=o;cases op
 case call c=>
  obtain⟨callee,args,cW⟩:=c;cases callee<;>try rfl
  rename_i b;simp only[qy,EN];split
  ·exact aj4 h
  ·rfl
  ·rfl
  ·rw[adB h]
  ·rfl
 case slice t x lo hi mx=>cases mx<;>rcases h with ⟨n,rfl⟩ |⟨ae,fr,q,rfl⟩<;>rfl
 case makeFunc fn a b=>cases fn<;>rfl
 case indexAddr t x j=>exact WJ h
 all_goals (rcases h with ⟨n,rfl⟩ |⟨ae,fr,q,rfl⟩<;>rfl)
theorem cN.ext{n:Int}{rd wr:List Nat}{dv:DV X}{upd:List (Nat×Option (br X))}{ab:Out}(h:oO T i o n (λ x=>den (ρ x)) (dD rd (fB get))=some ab)(h1:jY ab.obs)(h2:ab.v=den dv)(h3:ab.upd=gF upd)(h4:∀p∈upd,p.1=cp i\/p.1∈wr)(h5:k dv upd rd wr=some r)(hx:DB o.op=false:=by rfl):cN P T i o ρ get k r:=
 ⟨.ext n,rd,wr,dv,upd,ab,by show pU T i o n _ _=some ab;unfold pU;rw[hx];simp only[aj,ak,h],h1,h2,h3,h4,h5⟩
theorem cN.ua{n:Int}{rd wr:List Nat}{dv:DV X}{upd:List (Nat×Option (br X))}{ab:Out}(h:Gm T i o n (λ x=>den (ρ x)) (dD rd (fB get))=some ab)(h1:jY ab.obs)(h2:ab.v=den dv)(h3:ab.upd=gF upd)(h4:∀p∈upd,p.1=cp i\/p.1∈wr)(h5:k dv upd rd wr=some r)(hx:DB o.op=true:=by rfl):cN P T i o ρ get k r:=
 ⟨.ext n,rd,wr,dv,upd,ab,by show pU T i o n _ _=some ab;unfold pU;rw[hx];simp only[aj,ak,h],h1,h2,h3,h4,h5⟩
theorem cN.qn{n:Int}{rd wr:List Nat}{dv:DV X}{upd:List (Nat×Option (br X))}{ab:Out}(h:lH T i o n (λ x=>den (ρ x)) (dD rd (fB get))=some ab)(h1:jY ab.obs)(h2:ab.v=den dv)(h3:ab.upd=gF upd)(h4:∀p∈upd,p.1=cp i\/p.1∈wr)(h5:k dv upd rd wr=some r)(hx:DB o.op=false)(h0:oO T i o n (λ x=>den (ρ x)) (dD rd (fB get))=none):cN P T i o ρ get k r:=
 ⟨.ext n,rd,wr,dv,upd,ab,by show pU T i o n _ _=some ab;unfold pU;rw[hx];simp only[ak,h0,h],h1,h2,h3,h4,h5⟩
theorem TQ{x:DV X}(h:QX x k=some r):∃dv,QG (den x)=some ⟨den dv,[],[]⟩/\k dv [] [] []=some r:=by cases x<;>simp only[QX]at h<;>first |cases h |exact⟨_,rfl,h⟩
theorem aav{ci:iS}{ρ:Operand->AV}{get:Nat->Option aU}(hne:∀f args cW,o.op≠ .call { callee:= .value f,args:=args,argTypes:=cW })(ho:∀n,ci≠ .ext n)(hf:∀ae fr q,ci≠ .vn ae fr q):jE P T i o ci ρ get=qy T i o ci ρ get:=by
 have e:∀(α:Type) (a:Operand->Array Operand->Array TypeId->α) (b:α),(match o.op with | .call { callee:= .value f,args:=args,argTypes:=cW }=>a f args cW |_=>b)=b:=by
  intro α a b;split
  ·rename_i f args cW heq;exact(hne f args cW heq).elim
  ·rfl
 cases ci<;>first |exact(ho _ rfl).elim |exact(hf _ _ _ rfl).elim |exact e _ _ _
theorem cN.op{ci:iS}{rd wr:List Nat}{dv:DV X}{upd:List (Nat×Option (br X))}{ab:Out}(hne:∀f args cW,o.op≠ .call { callee:= .value f,args:=args,argTypes:=cW })
 (h:qy T i o ci (λ x=>den (ρ x)) (dD rd (fB get))=some ab) (h1:jY ab.obs/\ab.v=den dv/\ab.upd=gF upd/\(∀ p∈upd,p.1=cp i\/p.1∈wr)/\k dv upd rd wr=some r):cN P T i o ρ get k r:=by
 obtain⟨tI,h'⟩:∃tI,jE P T i o tI (λ x=>den (ρ x)) (dD rd (fB get))=some ab:=by
  by_cases hx:(∃ n,ci= .ext n)\/∃ae fr q,ci= .vn ae fr q
  ·refine⟨.none,?_⟩;rw[aav hne (by simp) (by simp),air hx,h]
  ·simp only[not_or,not_exists]at hx;exact⟨ci,by rw[aav hne hx.1 (λ ae fr q=>hx.2 ae fr q),h]⟩
 exact⟨tI,rd,wr,dv,upd,ab,h',h1⟩
theorem cN.call{dst:Option Tmp}{f:Operand}{args:Array Operand}{cW:Array TypeId}{ty:TypeId}{aw:String}{after:Array Edge}{guard:Option (Nat×Bool)}{ci:iS}{rd wr:List Nat}{dv:DV X}{upd:List (Nat×Option (br X))}{ab:Out}
 (h:ko P i (den (ρ f)) (args.toList.map λx=>den (ρ x)) ci (dD rd (fB get))=some ab) (h1:jY ab.obs/\ab.v=den dv/\ab.upd=gF upd/\(∀ p∈upd,p.1=cp i\/p.1∈wr)/\k dv upd rd wr=some r):
 cN P T i ⟨dst,.call { callee:= .value f,args:=args,argTypes:=cW },ty,aw,after,guard⟩ ρ get k r:=by
 refine⟨ci,rd,wr,dv,upd,ab,?_,h1⟩;unfold jE;split
 ·unfold ko pu yY at h;simp only at h;split at h<;>first |cases h |(rename_i e;cases e)
 ·unfold ko pu yY at h;simp only at h;split at h<;>first |cases h |(rename_i e;cases e)
 ·exact h
theorem Lh{op:BinOp}{b:DV X}{yes:Bool}(h:Dd op b yes k=some r):∃dv ab,BY op (den b) yes=some ab/\jY ab.obs/\ab.v=den dv/\ab.upd=[]/\k dv [] [] []=some r:=by
 unfold Dd at h;split at h
 ·cases yes with
  |true=>exact⟨b,_,rfl,trivial,rfl,rfl,h⟩
  |false=>exact⟨.c .bool false,_,rfl,trivial,rfl,rfl,h⟩
 ·cases yes with
  |true=>exact⟨b,_,rfl,trivial,rfl,rfl,h⟩
  |false=>exact⟨.c .bool true,_,rfl,trivial,rfl,rfl,h⟩
 ·cases h
theorem afT{op:BinOp}{t:TypeId}{x:DV X}(h:SU T op t x k=some r):∃dv ab,Y4 T op t (den x) .cM=some ab/\jY ab.obs/\ab.v=den dv/\ab.upd=[]/\k dv [] [] []=some r:=by
 unfold SU at h;rw[ai]at h;obtain⟨ti,h1,h⟩:=h;split at h
 ·rename_i e c l hk;have⟨dv,ab,g1,g2⟩:=Lh h;refine⟨dv,ab,?_,g2⟩;simp only[Y4,h1,ah,hk,den,CT.tv,TV.av];rw[<- g1];congr 1;cases l<;>rfl
 ·rename_i e kk aa len hk;have⟨dv,ab,g1,g2⟩:=Lh h;exact⟨dv,ab,by simp only[Y4,h1,ah,hk,den];exact g1,g2⟩
 ·rename_i e kk len hk;have⟨dv,ab,g1,g2⟩:=Lh h;exact⟨dv,ab,by simp only[Y4,h1,ah,hk,den];exact g1,g2⟩
 ·rename_i e hk;have⟨dv,ab,g1,g2⟩:=Lh h;exact⟨dv,ab,by simp only[Y4,h1,ah,hk,den];exact g1,g2⟩
 ·cases h
theorem afU{s:ByteArray}{n b:Int}(h:JV s n=some b):0<=n/\∃c,s[n.toNat]? =some c/\b=c.toNat:=by
 unfold JV at h;by_cases hn:0<=n
 ·simp only[hn,decide_true,aj,eO]at h;obtain⟨c,h1,h2⟩:=h;exact⟨hn,c,h1,h2.symm⟩
 ·simp[hn]at h
theorem aaw{m:Int}{bytes:Nat}(h:Bu m bytes=true):0<=m/\m.toNat*bytes<=140737488355328/\m.toNat<=maxLen:=by simpa[Bu,and_assoc]using h
theorem TS{b:Builtin}{args:List (DV X)}{cW:List TypeId}(h:QW T ao i b args cW get k=some r):
 ∃rd wr dv upd ab,vH T i b (bJ args) cW (dD rd (fB get))=some ab/\jY ab.obs/\ab.v=den dv/\ab.upd=gF upd/\(∀ p∈upd,p.1=cp i\/p.1∈wr)/\k dv upd rd wr=some r:=by
 unfold QW at h;split at h
 ·rename_i t;rw[ai]at h;obtain⟨ti,h1,h⟩:=h;split at h
  ·rename_i e hk;refine⟨[],[],_,[],⟨.t (.sc (.int .i64 0)),[],[]⟩,?_,trivial,rfl,rfl,by simp,h⟩;simp only[vH,bJ,den,h1,ah,hk];rfl
  ·cases h
 ·rename_i kk aa len t;rw[ai]at h;obtain⟨ti,h1,h⟩:=h;split at h
  ·rename_i e hk;rw[ai]at h;obtain⟨ei,h2,h⟩:=h;rw[ai]at h;obtain⟨o,h3,h⟩:=h;split at h
   ·rename_i c l;split at h
    ·rename_i hs;refine⟨[kk],[kk],_,_,⟨.fh [],[(kk,some ⟨CT.sz X c,(aL (l.map (CT.row X.toSE c))).take aa⟩)],[]⟩,?_,trivial,rfl,?_,by simp,h⟩
     ·simp only[vH,bJ,den,h1,ah,hk,h2,dM (List.mem_singleton_self kk) h3,bF];rw[aN hs]
     ·simp[gF,bF,aL,map_take]
    ·cases h
   ·cases h
  ·cases h
 ·rename_i kd m t u;rw[ai]at h;obtain⟨ti,h1,h⟩:=h;rw[ai]at h;obtain⟨ui,h2,h⟩:=h;split at h
  ·rename_i e kn hk hk';rw[ai]at h;obtain⟨ei,h3,h⟩:=h;rw[ai]at h;obtain⟨c,h4,h⟩:=h;split at h
   ·rename_i hs;have⟨z,h5,h⟩:=ai.1 h;have⟨h6,h⟩:=dx h;have⟨m1,m2,m3⟩:=aaw h6;have hz:=zO h5;rw[Ac]at hz;refine⟨[],[],_,_,⟨.own (cp i) 0 m.toNat,[(cp i,some ⟨ei.size,dS (List.replicate m.toNat (ei.zero.map cv))⟩)],[0<=m/\m.toNat*ei.bytes<=140737488355328/\m.toNat<=maxLen/\0<ei.size]⟩,?_,?_,rfl,?_,by simp,h⟩
    ·simp only[vH,bJ,den,CT.tv,TV.av,h1,h2,h3,ah,hk,hk']
    ·exact⟨m1,m2,m3,hs.2⟩
    ·simp only[gF,aC,map_nil,Option.map_some,bF,hs.1,aL,dS,List.map_replicate];rw[hz]
   ·cases h
  ·cases h
 ·cases h
theorem adC{t:TypeId}{l c:DV X}(h:T1 T ao i t l c k=some r):∃dv upd ab,H0 T i t (den l) (den c)=some ab/\jY ab.obs/\ab.v=den dv/\ab.upd=gF upd/\(∀ p∈upd,p.1=cp i)/\k dv upd [] []=some r:=by
 unfold T1 at h;rw[ai]at h;obtain⟨ti,h1,h⟩:=h;split at h
 ·rename_i e kl n kc m hk;rw[ai]at h;obtain⟨ei,h3,h⟩:=h;rw[ai]at h;obtain⟨c,h4,h⟩:=h;split at h
  ·rename_i hs;have⟨z,h5,h⟩:=ai.1 h;have⟨h6,h⟩:=dx h;simp only[aJ,aT]at h6;obtain⟨h7,h8,h9⟩:=h6;have⟨m1,m2,m3⟩:=aaw h9;have hz:=zO h5;rw[Ac]at hz;refine⟨_,_,⟨.own (cp i) 0 n.toNat,[(cp i,some ⟨ei.size,dS (List.replicate n.toNat (ei.zero.map cv))⟩)],[0<=n/\n<=m/\m.toNat*ei.bytes<=140737488355328/\m.toNat<=maxLen/\0<ei.size]⟩,?_,?_,rfl,?_,by simp,h⟩
   ·simp only[H0,den,CT.tv,TV.av,h1,h3,ah,hk]
   ·exact⟨h8,h7,m2,m3,hs.2⟩
   ·simp only[gF,aC,map_nil,Option.map_some,bF,hs.1,aL,dS,List.map_replicate];rw[hz]
  ·cases h
 ·cases h
theorem WK{t:TypeId}(h:WI T ao i t k=some r):∃dv upd ab,JM T i t=some ab/\jY ab.obs/\ab.v=den dv/\ab.upd=gF upd/\(∀ p∈upd,p.1=cp i)/\k dv upd [] []=some r:=by
 unfold WI at h;rw[ai]at h;obtain⟨ti,h1,h⟩:=h;split at h
 ·rename_i kt et hk;have⟨kc,h2,h⟩:=ai.1 h;have⟨vc,h3,h⟩:=ai.1 h;exact⟨_,_,⟨.mp (cp i),[(cp i,some ⟨0,[]⟩)],[]⟩,by simp only[JM,h1,ah,hk],trivial,rfl,rfl,by simp,h⟩
 ·cases h
theorem aj5{ki:nj}{kc:CT X.ι}(h:B5 ki.k kc=true)(x:CT.T X.toSE kc):∃v,(CT.tv X.toSE kc x).av= .t (.sc v)/\Ob ki.k v=true:=by
 cases kc
 case int b=>
  refine⟨.int b x,rfl,?_⟩;cases hk:ki.k<;>rw[hk]at h<;>simp only[B5,aT,Bool.false_eq_true]at h;subst h;simp[Ob]
 case str=>
  refine⟨.string x,rfl,?_⟩;cases hk:ki.k<;>rw[hk]at h<;>simp only[B5,Bool.false_eq_true]at h;rfl
 case bool=>
  refine⟨.bool x,rfl,?_⟩;cases hk:ki.k<;>rw[hk]at h<;>simp only[B5,Bool.false_eq_true]at h;rfl
 all_goals (cases hk:ki.k<;>rw[hk]at h<;>simp[B5]at h)
theorem adD{kc:CT X.ι}{eq:CT.T X.toSE kc->CT.T X.toSE kc->Bool}(h:Oz kc=some eq){a b:CT.T X.toSE kc}{va:Value}(ha:(CT.tv X.toSE kc a).av= .t (.sc va)):∃vb,(CT.tv X.toSE kc b).av= .t (.sc vb)/\Sv va vb=some (eq a b):=by
 cases kc
 case int q=>
  simp only[Oz,aA]at h;subst h;simp only[CT.tv,TV.av,AV.t.injEq,Tree.sc.injEq]at ha;subst ha;exact⟨_,rfl,by simp[Sv,Z3]⟩
 case str=>
  simp only[Oz,aA]at h;subst h;simp only[CT.tv,TV.av,AV.t.injEq,Tree.sc.injEq]at ha;subst ha;exact⟨_,rfl,by simp[Sv,jt]⟩
 case bool=>
  simp only[Oz,aA]at h;subst h;simp only[CT.tv,TV.av,AV.t.injEq,Tree.sc.injEq]at ha;subst ha;exact⟨_,rfl,by simp[Sv,bEq]⟩
 all_goals simp[Oz]at h
theorem aax{kc vc:CT X.ι}{eq:CT.T X.toSE kc->CT.T X.toSE kc->Bool}(h:Oz kc=some eq){a:CT.T X.toSE kc}{va:Value}(ha:(CT.tv X.toSE kc a).av= .t (.sc va)):∀l:List (CT.T X.toSE kc×CT.T X.toSE vc),
 ∃r,Sw va (bF (.map kc vc l:br X)).rows=some r/\r.map (·.2)=(qz eq a l).map λv=>(CT.tv X.toSE vc v).av
 |[]=>⟨none,rfl,rfl⟩
 |p::l=>by
  have⟨vb,h1,h2⟩:=adD h (b:=p.1) ha;have⟨r,g1,g2⟩:=aax h ha l;have g1':Sw va (l.map λp=>[(CT.tv X.toSE kc p.1).av,(CT.tv X.toSE vc p.2).av])=some r:=g1;simp only[bF,aC,h1,Sw,h2,ah,qz];cases eq a p.1 with
  |true=>exact⟨_,rfl,rfl⟩
  |false=>
   simp only[Bool.false_eq_true,if_false,g1',Option.map_some,ak];exact⟨_,rfl,by rw[<- g2,Option.map_map];rfl⟩
theorem adE{kc vc:CT X.ι}{eq:CT.T X.toSE kc->CT.T X.toSE kc->Bool}(h:Oz kc=some eq){a:CT.T X.toSE kc}{va:Value}(ha:(CT.tv X.toSE kc a).av= .t (.sc va))(y:CT.T X.toSE vc):∀l:List (CT.T X.toSE kc×CT.T X.toSE vc),
 vx va (CT.tv X.toSE vc y).av (bF (.map kc vc l:br X)).rows=some (bF (.map kc vc (M6 eq a y l):br X)).rows
 |[]=>by simp only[bF,map_nil,vx,M6,aC,ha]
 |p::l=>by
  have⟨vb,h1,h2⟩:=adD h (b:=p.1) ha;have g:=adE h ha y l;have g':vx va (CT.tv X.toSE vc y).av (l.map λp=>[(CT.tv X.toSE kc p.1).av,(CT.tv X.toSE vc p.2).av])=some ((M6 eq a y l).map λp=>[(CT.tv X.toSE kc p.1).av,(CT.tv X.toSE vc p.2).av]):=g;simp only[bF,aC,h1,vx,h2,ah,M6];cases eq a p.1 with
  |true=>simp only[if_true,aj,aC,ha]
  |false=>simp only[Bool.false_eq_true,if_false,g',Option.map_some,ak,aC,h1]
theorem zero_den{vc:CT X.ι}{ei:nj}{z:CT.T X.toSE vc}(h:Ou vc (ei.zero.map tw)=some z)(ha:ei.agg=anD vc)(hs:ei.size=CT.sz X vc):part' ei.agg ei.size ((ei.zero.map cv).map wk)=some (CT.tv X.toSE vc z).av:=by
 have hz:=zO h;rw[Ac]at hz;rw[hz,ha,hs];have hl:((CT.row X.toSE vc z).map AV.t).length=CT.sz X vc:=by rw[length_map,Dl]
 unfold part';rw[aN hl];cases vc<;>rfl
theorem alI{d:DV X}{c:CT X.ι}{x:CT.T X.toSE c}(h:dat d c=some x):CE (den d)=(CT.tv X.toSE c x).av:=by
 cases c
 case st j=>
  replace h:B6 d j=some x:=h
  cases d
  case agg cs=>
   simp only[B6]at h;rw[ai]at h;obtain⟨g,h1,h⟩:=h;cases h;simp only[den,CE,(Af h1 (X.flat j)).1];rw[<- Wx];rfl
  case c a y=>
   replace h:gB a (.st j) y=some x:=h
   rw[(iQ h).1];simp only[den,CT.tv,TV.av,CE,map_map];congr 1
  all_goals cases h
 all_goals
  (have h':LW d _=some x:=h
   have hd:=wV h';cases d
   case agg=>cases h
   case c a y=>
    obtain⟨e,_⟩:=mq (show gB a _ y=some x from h);subst e;exact hd
   all_goals first |exact hd |(cases h))
theorem Zm{t:TypeId}{x key:DV X}{ok:Bool}(h:WD T t x key ok get k=some r):∃rd dv ab,Ld T t (den x) (den key) ok (dD rd (fB get))=some ab/\jY ab.obs/\ab.v=den dv/\ab.upd=[]/\k dv [] rd []=some r:=by
 unfold WD at h;rw[ai]at h;obtain⟨ti,h1,h⟩:=h;split at h
 ·rename_i kt et kk hk;rw[ai]at h;obtain⟨ki,h2,h⟩:=h;rw[ai]at h;obtain⟨ei,h3,h⟩:=h;rw[ai]at h;obtain⟨o,h4,h⟩:=h;split at h
  ·rename_i kc vc l;rw[ai]at h;obtain⟨eq,h5,h⟩:=h;rw[ai]at h;obtain⟨kv,h6,h⟩:=h;split at h
   ·rename_i hc;have⟨z,h7,h⟩:=ai.1 h;have⟨va,g1,g2⟩:=aj5 hc.1 kv;have⟨q,g3,g4⟩:=aax (vc:=vc) h5 g1 l;have hkey:den key= .t (.sc va):=by
     have:=wV h6;rw[g1]at this;cases hd:den key<;>rw[hd]at this<;>simp only[wk,AV.t.injEq,reduceCtorEq]at this;subst this;rfl
    have hv:∀q:Option (Nat×AV),q.map (·.2)=(qz eq kv l).map (λ v=>(CT.tv X.toSE vc v).av)->Iv q (part' ei.agg ei.size ((ei.zero.map cv).map wk))=some (CT.tv X.toSE vc ((qz eq kv l).getD z)).av:=by
     intro q g;cases hm:qz eq kv l with
     |none=>
      rw[hm]at g;cases q with
      |none=>exact zero_den h7 hc.2.1 hc.2.2
      |some p=>simp at g
     |some v=>
      rw[hm]at g;cases q with
      |none=>simp at g
      |some p=>simp only[Option.map_some,aA]at g;simp only[Iv,g,Option.getD_some]
    have hi:q.isSome=(qz eq kv l).isSome:=by
     have:=congrArg Option.isSome g4;simpa using this
    have hb:Ld T t (den (.mp kk:DV X)) (den key) ok (dD [kk] (fB get))=pv (if ok then .fh [den (.c vc ((qz eq kv l).getD z):DV X),.t (.sc (.bool q.isSome))]else den (.c vc ((qz eq kv l).getD z):DV X)):=by
     simp only[Ld,h1,ah,hk,den,hkey,h2,h3,dM (List.mem_singleton_self kk) h4];rw[aN ⟨g2,by simp[bF]⟩];rw[g3,ah,hv q g4,ah]
    cases ok with
    |true=>exact⟨[kk],_,_,hb,trivial,by simp only[if_true,den,bJ,hi];rfl,rfl,h⟩
    |false=>exact⟨[kk],_,_,hb,trivial,rfl,rfl,h⟩
   ·cases h
  ·cases h
 ·cases h
theorem Zn{t:TypeId}{x key y:DV X}(h:Wr T t x key y get k=some r):∃rd wr dv upd ab,Oc T t (den x) (den key) (den y) (dD rd (fB get))=some ab/\jY ab.obs/\ab.v=den dv/\ab.upd=gF upd/\(∀ p∈upd,p.1∈wr)/\k dv upd rd wr=some r:=by
 unfold Wr at h;rw[ai]at h;obtain⟨ti,h1,h⟩:=h;split at h
 ·rename_i kt et kk hk;rw[ai]at h;obtain⟨ki,h2,h⟩:=h;rw[ai]at h;obtain⟨o,h4,h⟩:=h;split at h
  ·rename_i kc vc l;rw[ai]at h;obtain⟨eq,h5,h⟩:=h;rw[ai]at h;obtain⟨kv,h6,h⟩:=h;rw[ai]at h;obtain⟨v,h7,h⟩:=h;split at h
   ·rename_i hc;have⟨va,g1,g2⟩:=aj5 hc kv;have g3:=adE (vc:=vc) h5 g1 v l;have hkey:den key= .t (.sc va):=by
     have:=wV h6;rw[g1]at this;cases hd:den key<;>rw[hd]at this<;>simp only[wk,AV.t.injEq,reduceCtorEq]at this;subst this;rfl
    refine⟨[kk],[kk],_,_,⟨.undef,[(kk,some ⟨(bF (.map kc vc (M6 eq kv v l):br X)).rows.length,(bF (.map kc vc (M6 eq kv v l):br X)).rows⟩)],[]⟩,?_,trivial,rfl,?_,by simp,h⟩
    ·simp only[Oc,h1,ah,hk,den,hkey,h2,dM (List.mem_singleton_self kk) h4];rw[aN ⟨g2,by simp[bF]⟩,alI h7,g3];rfl
    ·simp[gF,bF]
   ·cases h
  ·cases h
 ·cases h
theorem afV(h:SR T ao i o.op ρ get k=some r):cN P T i o ρ get k r:=by
 obtain⟨dst,op,ty,aw,after,guard⟩:=o;unfold SR at h;simp only at h;split at h
 ·rename_i op t x y q;split at h
  ·rename_i hn;have⟨dv,ab,g1,g2,g3,g4,g5⟩:=afT h;have hy:den (ρ y)= .cM:=(by cases hρ:ρ y<;>rw[hρ]at hn<;>first |rfl |cases hn);exact cN.ext (n:=0) (rd:=[]) (wr:=[]) (upd:=[]) (by simp only[oO,hy];exact g1) g2 g3 g4 (by simp) g5
  ·cases h
 ·rename_i s d x;unfold amA at h;rw[ai]at h;obtain⟨si,h1,h⟩:=h;rw[ai]at h;obtain⟨di,h2,h⟩:=h;split at h
  ·rename_i kd k' n hk hx;refine cN.ext (n:=0) (rd:=[]) (wr:=[]) (upd:=[]) (ab:=⟨.t (.sc (.int kd (kd.wrap n))),[],[]⟩) ?_ trivial rfl rfl (by simp) h;simp only[oO,Lk,h1,h2,ah,hk,hx];rfl
  ·cases h
 ·rename_i t x j;unfold aj1 at h;rw[ai]at h;obtain⟨ti,h1,h⟩:=h;split at h
  ·rename_i s kk n hk hx hj;rw[ai]at h;obtain⟨b,h2,h⟩:=h;refine cN.ext (n:=b) (rd:=[]) (wr:=[]) (upd:=[]) (ab:=⟨.t (.sc (.int .u8 b)),[],[0<=n/\∃c,s[n.toNat]? =some c/\b=c.toNat]⟩) ?_ (afU h2) rfl rfl (by simp) h;simp only[oO,VN,h1,ah,hk,hx,hj];rfl
  ·rename_i m e cs kd q hk hx hj;rw[ai]at h;obtain⟨ei,h2,h⟩:=h;have⟨h3,h⟩:=dx h;rw[ai]at h;obtain⟨v,h4,h⟩:=h;simp only[b7,aJ,aT]at h3;refine cN.ext (n:=0) (rd:=[]) (wr:=[]) (upd:=[]) (ab:=⟨den v,[],[0<=q/\q<(m:Int)]⟩) ?_ h3 rfl rfl (by simp) h;have h5:=EQ h4;rw[kr]at h5;simp only[oO,VN,h1,ah,hk,hx,hj,h2,den,CT.tv,TV.av,h5];rfl
  ·cases h
 ·rename_i t x lo hi;unfold aau at h;rw[ai]at h;obtain⟨ti,h1,h⟩:=h;split at h
  ·rename_i e hk hx;rw[ai]at h;obtain⟨ei,h2,h⟩:=h;rw[ai]at h;obtain⟨l,h3,h⟩:=h;rw[ai]at h;obtain⟨hh,h4,h⟩:=h;have⟨h5,h⟩:=dx h;refine cN.ext (n:=0) (rd:=[]) (wr:=[]) (upd:=[]) (ab:=⟨.cM,[],[l=0/\hh=0]⟩) ?_ (show l=0/\hh=0 by simpa using h5) rfl rfl (by simp) h;have e1:=wW h3;have e2:=wW h4;rw[Option.map_map]at e1 e2;simp only[oO,EP,h1,ah,hk,hx,h2,den];have IM:bnd 0 (lo.map λx=>den (ρ x))=some l:=e1;have e2':bnd 0 (hi.map λx=>den (ρ x))=some hh:=e2;rw[IM,ah,e2'];rfl
  ·cases h
 ·rename_i x;have⟨dv,g1,g2⟩:=TQ h;exact cN.ua (n:=0) (rd:=[]) (wr:=[]) (upd:=[]) g1 trivial rfl rfl (by simp) g2
 ·rename_i t l c;have⟨dv,upd,ab,g1,g2,g3,g4,g5,g6⟩:=adC h;exact cN.ua (n:=0) (rd:=[]) (wr:=[]) (upd:=upd) g1 g2 g3 g4 (λ p hp=> .inl (g5 p hp)) g6
 ·rename_i t;have⟨dv,upd,ab,g1,g2,g3,g4,g5,g6⟩:=WK h;exact cN.ua (n:=0) (rd:=[]) (wr:=[]) (upd:=upd) g1 g2 g3 g4 (λ p hp=> .inl (g5 p hp)) g6
 ·rename_i t m x ok;have⟨rd,dv,ab,g1,g2,g3,g4,g6⟩:=Zm h;exact cN.ua (n:=0) (rd:=rd) (wr:=[]) (upd:=[]) g1 g2 g3 g4 (by simp) g6
 ·rename_i t m x v;have⟨rd,wr,dv,upd,ab,g1,g2,g3,g4,g5,g6⟩:=Zn h;exact cN.ua (n:=0) (rd:=rd) (wr:=wr) (upd:=upd) g1 g2 g3 g4 (λ p hp=> .inr (g5 p hp)) g6
 ·rename_i b args cW;have⟨rd,wr,dv,upd,ab,g1,g2,g3,g4,g5,g6⟩:=TS h;refine cN.ext (n:=0) (rd:=rd) (wr:=wr) (upd:=upd) ?_ g2 g3 g4 g5 g6;simp only[oO,U7];exact g1
 ·cases h
theorem adF{c:CT X.ι}:∀{xs:List Operand}{x:Operand}{y:CT.T X.toSE c×List Bool},x∈xs->Io get (ρ x) c=some y->∀j∈bm (ρ x),j∈xm get c ρ xs
 |z::xs,x,y,hx,h,j,hj=>by
  simp only[xm,aV];rcases aO.1 hx with rfl |hx
  ·left;rw[h];exact hj
  ·exact .inr (adF hx h j hj)
 |[],_,_,hx,_,_,_=>by simp at hx
theorem adG{c:CT X.ι}:∀{xs:List Operand}{x:Operand}{y:CT.T X.toSE c×List Bool},x∈xs->Io get (ρ x) c=some y->∀b∈y.2,b∈Jn get c ρ xs
 |z::xs,x,y,hx,h,b,hb=>by
  simp only[Jn,aV];rcases aO.1 hx with rfl |hx
  ·left;rw[h];exact hb
  ·exact .inr (adG hx h b hb)
 |[],_,_,hx,_,_,_=>by simp at hx
theorem afW(h:SP T ao i o.op ρ get k=some r):cN P T i o ρ get k r:=by
 unfold SP at h;split at h
 ·cases h
 rename_i hpick;have⟨c,h1,h⟩:=ai.1 h;have⟨hcs,h⟩:=pW h;have⟨ci,rd,wr,dv,upd,ab,g1,g2,g3,g4,g5,g6⟩:=aar h;generalize ke:xm get c ρ o.op.operands.toList=ae at*;refine⟨.vn ae (λ x=>den (HR get c ρ x)) ci,rd++ae,wr++ae,dv,upd++OA ae,⟨ab.v,ab.upd++ae.map (λ k=>(k,none)),ab.obs++[∀ x∈o.op.operands,(fx P (dD (rd++ae) (fB get)) (den (ρ x)) (den (HR get c ρ x))/\∀k∈refs (den (ρ x)),k∈ae)\/den (HR get c ρ x)=den (ρ x)]⟩,?_,?_,g3,?_,?_,g6⟩
 ·unfold jE JL;simp only;rw[aM hpick];have e:(λ k=>if k∈ae then none else dD (rd++ae) (fB get) k)=dD rd (fB λj=>if j∈ae then none else get j):=by
   funext j;simp only[dD,fB,aV];by_cases hj:j∈ae
   ·simp[hj]
   ·simp[hj]
  rw[e,g1];rfl
 ·refine rO _ λp hp=>?_;rcases aV.1 hp with hp |hp
  ·exact qY _ g2 p hp
  ·rw[aY]at hp;subst hp;intro x hx;unfold HR;cases hl:Io get (ρ x) c with
   |none=>exact .inr rfl
   |some y=>
    left;have hx':x∈o.op.operands.toList:=(by simpa using hx);have hin:∀j∈bm (ρ x),j∈ae:=λj hj=>ke ▸ adF hx' hl j hj;obtain⟨hs,obs,p1,p2⟩:=Cq (P:=P) (rd:=rd++ae) hl (λ b hb=>hcs b (adG hx' hl b hb)) (λ j hj=>List.mem_append_right _ (hin j hj));refine⟨?_,λj hj=>hin j (by rwa [iR]at hj)⟩;have:=p2 [];exact Gh _ _ _ this p1
 ·simp only[sV,ES,g4]
 ·intro p hp;rcases aV.1 hp with hp |hp
  ·exact(g5 p hp).imp id (λ h=>List.mem_append_left _ h)
  ·exact .inr (List.mem_append_right _ (Lg hp))
theorem JW{c:CT X.ι}:∀{ds:List (DV X)}{xs:List (CT.T X.toSE c)},y7 c ds=some xs->bJ ds=xs.map λy=>den (.c c y:DV X)
 |[],xs,h=>by simp only[y7,aA]at h;subst h;rfl
 | .c a x::ds,xs,h=>by
  simp only[y7]at h;have⟨y,h1,h⟩:=ai.1 h;have⟨l,h2,h⟩:=ai.1 h;cases h;simp only[bJ,aC,JW h2,(iQ h1).1]
 | .agg _::_,_,h=>by simp[y7]at h
 | .fh _::_,_,h=>by simp[y7]at h
 | .own _ _ _::_,_,h=>by simp[y7]at h
 | .ptr _ _ _::_,_,h=>by simp[y7]at h
 | .pZ _ _ _::_,_,h=>by simp[y7]at h
 | .mp _::_,_,h=>by simp[y7]at h
 | .rk _ _ _ _ _::_,_,h=>by simp[y7]at h
 | .rp _ _ _::_,_,h=>by simp[y7]at h
 | .uA _ _ _ _ _::_,_,h=>by simp[y7]at h
 | .fn _ _ _::_,_,h=>by simp[y7]at h
 | .cV _ _ _::_,_,h=>by simp[y7]at h
 | .raw _::_,_,h=>by simp[y7]at h
 | .nil::_,_,h=>by simp[y7]at h
 | .ub::_,_,h=>by simp[y7]at h
 | .skip::_,_,h=>by simp[y7]at h
 | .undef::_,_,h=>by simp[y7]at h
theorem afX(h:SO T ao o.op ρ get k=some r):cN P T i o ρ get k r:=by
 obtain⟨dst,op,ty,aw,after,guard⟩:=o;unfold SO at h;simp only at h;split at h
 ·rename_i t x j;rw[ai]at h;obtain⟨ti,h1,h⟩:=h;split at h
  ·rename_i m e kk row aa kd n hk hx hj;rw[ai]at h;obtain⟨ei,h2,h⟩:=h;split at h
   ·rename_i hs;have⟨h3,h⟩:=dx h;refine cN.op (ci:= .none) (rd:=[]) (wr:=[]) (upd:=[]) (λ _ _ _ e=>by cases e) (ab:=⟨.ptr kk row (aa+n.toNat*1),[],[0<=n/\n.toNat<m]⟩) ?_ ⟨?_,?_,rfl,by simp,h⟩
    ·simp only[qy,mh,h1,ah,hk,hx,hj,den,CT.tv,TV.av,h2,hs];rfl
    ·simp only[b7,aJ,aT]at h3;exact⟨h3.1,by omega⟩
    ·simp only[den,Nat.mul_one]
   ·cases h
  ·rename_i m e c y aa kd n hk hx hj;rw[ai]at h;obtain⟨ei,h2,h⟩:=h;split at h
   ·rename_i hs;have⟨h3,h⟩:=dx h;refine cN.op (ci:= .none) (rd:=[]) (wr:=[]) (upd:=[]) (λ _ _ _ e=>by cases e) (ab:=⟨.ek (CT.row X.toSE c y) (aa+n.toNat*1),[],[0<=n/\n.toNat<m]⟩) ?_ ⟨?_,?_,rfl,by simp,h⟩
    ·simp only[qy,mh,h1,ah,hk,hx,hj,den,CT.tv,TV.av,h2,hs];rfl
    ·simp only[b7,aJ,aT]at h3;exact⟨h3.1,by omega⟩
    ·simp only[den,Nat.mul_one]
   ·cases h
  ·cases h
 ·rename_i t a;rw[ai]at h;obtain⟨ti,h1,h⟩:=h;split at h
  ·rename_i kk row aa m n hx;split at h
   ·rename_i hs;rw[ai]at h;obtain⟨c,h2,h⟩:=h;split at h
    ·rename_i hc;rw[ai]at h;obtain⟨ob,h3,h⟩:=h;split at h
     ·rename_i sz rows;have⟨q,h4,h⟩:=ai.1 h;have⟨xs,h5,h⟩:=ai.1 h;have⟨y,h6,h⟩:=ai.1 h;have⟨_,h7⟩:=Ov h6;have h8:=JW h5;have h9:((bJ q).drop (aa+n.toNat)).take 1=[den (.c c y:DV X)]:=by
       have e1:(bJ ((q.drop aa).take m))[n.toNat]? =some (den (.c c y:DV X)):=(by rw[h8,List.getElem?_map,h7];rfl);rw[kr,List.getElem?_take]at e1;split at e1
       ·rw[List.getElem?_drop]at e1;have⟨g1,g2⟩:=cO.1 e1;rw[List.drop_eq_getElem_cons g1,List.take_succ_cons,List.take_zero,g2]
       ·cases e1
      refine cN.op (ci:= .none) (rd:=[kk]) (wr:=[]) (upd:=[]) (λ _ _ _ e=>by cases e) (ab:=⟨den (.c c y:DV X),[],[]⟩) ?_ ⟨trivial,rfl,rfl,by simp,h⟩;simp only[qy,EM,h1,ah,hx,den,dM (List.mem_singleton_self kk) h3,bF,List.getElem?_map,h4,Option.map_some,hs.1,hs.2];rw[h9];obtain⟨t',g1,g2⟩:=row_one hc y;simp only[den,g2,TV.av];rfl
     ·rename_i b l;split at h
      ·rename_i hb;have⟨y,h4,h⟩:=ai.1 h;have h5:l[aa+n.toNat]? =some y:=by
        unfold atO at h4;cases hd:decide (0<=n)<;>simp only[hd,aj,ak,reduceCtorEq]at h4;exact h4
       obtain⟨t',g1,g2⟩:=row_one hb.2 y;refine cN.qn (n:=0) (rd:=[kk]) (wr:=[]) (upd:=[]) (dv:= .c b y) (ab:=⟨den (.c b y:DV X),[],[]⟩) ?_ trivial rfl rfl (by simp) h rfl rfl;have hz:CT.sz X b=1:=(by rw[<- Dl b y,g1];rfl);have⟨q1,q2⟩:=cO.1 h5;simp only[lH,Gj,h1,ah,hx,den,dM (List.mem_singleton_self kk) h3,bF,hz,if_true,hs.1,hs.2,hb.1,Nat.zero_add,VQ,aL,<- map_drop,<- map_take];rw[List.drop_eq_getElem_cons q1,q2];simp only[List.take_succ_cons,List.take_zero,aC,map_nil,g1,flatten_cons,List.flatten_nil,append_nil,g2,TV.av];rfl
      ·cases h
     ·cases h
    ·cases h
   ·cases h
  ·rename_i b y0 aa m n hx;split at h
   ·rename_i hs;rw[ai]at h;obtain⟨c,h2,h⟩:=h;split at h
    ·rename_i hc;have⟨xs,h5,h⟩:=ai.1 h;have⟨y,h6,h⟩:=ai.1 h;have⟨_,h7⟩:=Ov h6;have h8:=JW h5;have h9:(((CT.row X.toSE b y0).drop (aa+n.toNat)).take 1).map AV.t=[den (.c c y:DV X)]:=by
      have e1:(bJ (((vL b y0).drop aa).take m))[n.toNat]? =some (den (.c c y:DV X)):=(by rw[h8,List.getElem?_map,h7];rfl);rw[kr,nM,List.getElem?_take]at e1;split at e1
      ·rw[List.getElem?_drop]at e1;have⟨g1,g2⟩:=cO.1 e1;rw[map_take,map_drop,List.drop_eq_getElem_cons g1,List.take_succ_cons,List.take_zero,g2]
      ·cases e1
     refine cN.op (ci:= .none) (rd:=[]) (wr:=[]) (upd:=[]) (λ _ _ _ e=>by cases e) (ab:=⟨den (.c c y:DV X),[],[]⟩) ?_ ⟨trivial,rfl,rfl,by simp,h⟩;simp only[qy,EM,h1,ah,hx,den,hs.1,hs.2];rw[h9];obtain⟨t',g1,g2⟩:=row_one hc y;simp only[den,g2,TV.av];rfl
    ·cases h
   ·cases h
  ·cases h
 ·cases h
end
end
def tE{α:Type}(l:List α)(aa:Nat)(aq:List α):List α:=l.take aa++aq++l.drop (aa+aq.length)
def C7(a b:List Bool):Bool:=decide (a=b)
def C6(aa n len:Nat):Bool:=decide (aa+n<=len)
section
variable {X:SX} {A:Type} (T:dC)
def anH(o:Op)(ρ:Operand->DV X):Bool:=
 match o with
 | .alloc e=>(X.ar e).isSome
 | .box e _=>(X.ar e).isSome
 | .load t a=>match ρ a with
  | .ptr _ _ _=>(X.ar t).isSome
  |_=>false
 | .store t a _=>match ρ a with
  | .ptr _ _ _=>(X.ar t).isSome
  | .rk _ _ _ _ _=>true
  |_=>false
 | .slice t x _ _ none=>match ρ x with
  | .ptr _ _ _=>(X.ar t).isSome
  |_=>false
 | .binOp _ t _ _ _=>(X.ar t).isSome
 |_=>false
def I3(a:Nd X.toSE)(d:DV X):Option (List (CT.T X.toSE a.c)):=
 match d with
 | .c b y=>(gB b (.st a.i) y).bind λy=>some (a.f y)
 | .agg cs=>y7 a.c cs
 |_=>none
def C5(get:Nat->Option (br X))(kk:Nat)(c:CT X.ι):Option (List (CT.T X.toSE c)):=
 (get kk).bind λo=>match o with
 | .de b l=>gB (.sl b) (.sl c) l
 |_=>none
def To(i:Nat)(o:Op)(ρ:Operand->DV X)(get:Nat->Option (br X))(k:KK X A):Option A:=
 match o with
 | .alloc e=>(X.ar e).bind λa=>(T e).bind λti=>(y7 a.c (ti.zero.map tw)).bind λl=>k (.ptr (cp i) 0 0) [(cp i,some (.de a.c l))] [] []
 | .box e x=>(X.ar e).bind λa=>(I3 a (ρ x)).bind λl=>if (cellsD (ρ x)).isSome then k (.ptr (cp i) 0 0) [(cp i,some (.de a.c l))] [] []else none
 | .load t a=>(T t).bind λti=>match ρ a with
  | .ptr kk 0 aa=>(X.ar t).bind λa=>(C5 get kk a.c).bind λl=>if ti.agg=true/\(X.cW a.i).length=ti.size then(a.g (sub l aa ti.size)).bind λy=>k (.c (.st a.i) y) [] [kk] []else none
  |_=>none
 | .store t a x=>(T t).bind λti=>match ρ a with
  | .ptr kk 0 aa=>(X.ar t).bind λa=>(C5 get kk a.c).bind λl=>(I3 a (ρ x)).bind λaq=>if (cellsD (ρ x)).isSome then
   bif bk aq.length ti.size&&C6 aa aq.length l.length then k .undef [(kk,some (.de a.c (tE l aa aq)))] [kk] [kk]else none else none
  | .rk kk 0 aa _ n=>(get kk).bind λo=>match o with
   | .de b l=>match ρ x with
    | .c c0 y0=>(gB c0 b y0).bind λy=>if b.one=true/\ti.size=1 then bif decide (0<=n)&&C6 (aa+n.toNat) 1 l.length then k .undef [(kk,some (.de b (l.set (aa+n.toNat) y)))] [kk] [kk]else none else none
    |_=>none
   |_=>none
  |_=>none
 | .slice t x lo hi none=>(T t).bind λti=>match ti.k,ρ x with
  | .arr m e,.ptr kk 0 aa=>(T e).bind λei=>(get kk).bind λo=>match o with
   | .de b l=>if CT.sz X b=1/\ei.size=1 then(Zi 0 (lo.map ρ)).bind λp=>(Zi m (hi.map ρ)).bind λq=>
    bif Ad p q m&&C6 aa m l.length then k (.own kk (aa+p.toNat) (q.toNat -p.toNat)) [] [kk] []else none else none
   |_=>none
  |_,_=>none
 | .binOp op t x y _=>(T t).bind λti=>(X.ar t).bind λa=>match ti.k,ρ x,ρ y with
  | .arr _ _,.c b u,.c c v=>(gB b (.st a.i) u).bind λu=>(gB c (.st a.i) v).bind λv=>(gB (.sl a.c) (.sl .bool) (a.f u)).bind λ(p:List Bool)=>(gB (.sl a.c) (.sl .bool) (a.f v)).bind λ(q:List Bool)=>
   if Gl T 9 t=true/\ti.cmp=[9]/\(X.cW a.i).length=ti.size then match op with
    | .eql=>k (.c .bool (C7 p q)) [] [] []
    | .neq=>k (.c .bool (!(C7 p q))) [] [] []
    |_=>none
   else none
  |_,_,_=>none
 |_=>none
end
section
variable {X:SX} {A:Type} {T:dC} {P:Program} {i:Nat} {o:Oper} {ρ:Operand->DV X} {get:Nat->Option (br X)} {k:KK X A} {r:A}
theorem am1{c:CT X.ι}(h:c.one=true):CT.sz X c=1:=by cases c<;>first |rfl |cases h
theorem ahA{c:CT X.ι}(h:c.one=true)(x:CT.T X.toSE c):(CT.row X.toSE c x).map AV.t=[den (.c c x:DV X)]:=by
 obtain⟨t,h1,h2⟩:=row_one h x;simp only[den,h1,h2,TV.av,aC,map_nil]
theorem Li{c:CT X.ι}(h:c.one=true)(l:List (CT.T X.toSE c)):bF (.de c l:br X)=⟨1,eu (l.map λx=>den (.c c x:DV X))⟩:=by
 simp only[bF,am1 h,aL,eu,map_map];congr 1;exact map_congr_left λx _=>ahA h x
theorem EU{c:CT X.ι}(h:c.one=true):∀l:List (CT.T X.toSE c),((l.map (CT.row X.toSE c)).flatten).map AV.t=l.map λx=>den (.c c x:DV X)
 |[]=>rfl
 |x::l=>by simp only[aC,flatten_cons,map_append,ahA h,EU h l,List.singleton_append]
theorem WL{a:Nd X.toSE}{t:TypeId}(ha:X.ar t=some a){d:DV X}{l:List (CT.T X.toSE a.c)}(h:I3 a d=some l)(hc:(cellsD d).isSome=true):cellsOf (den d)=some (l.map λx=>den (.c a.c x:DV X)):=by
 obtain⟨h1,h2,h3⟩:=X.m6 t a ha;cases hd:cellsD d with
 |none=>rw[hd]at hc;cases hc
 |some cs=>
  rw[Ab hd];unfold I3 at h;split at h
  ·rename_i b y;rw[ai]at h;obtain⟨y',h4,h⟩:=h;cases h;have⟨e,h4⟩:=mq h4;subst e;subst h4;simp only[cellsD,aA]at hd;subst hd;rw[nM];show some ((X.row a.i y').map AV.t)=_;rw[h2 y',EU h1]
  ·rename_i cs';simp only[cellsD]at hd;split at hd
   ·cases hd;rw[JW h]
   ·cases hd
  ·cases h
theorem aiv{c:CT X.ι}{l:List (CT.T X.toSE c)}{l':List Bool}(h:gB (.sl c) (.sl .bool) l=some l'):(l.map λx=>den (.c c x:DV X))=l'.map tB:=by
 have⟨e,h⟩:=mq h;cases e;subst h;rfl
theorem WM{kk:Nat}{c:CT X.ι}{l:List (CT.T X.toSE c)}(hc:c.one=true)(h:C5 get kk c=some l):∃o,get kk=some o/\bF o=⟨1,eu (l.map λx=>den (.c c x:DV X))⟩:=by
 unfold C5 at h;rw[ai]at h;obtain⟨o,h1,h⟩:=h;split at h
 ·rename_i b l0;have⟨e,h⟩:=mq h;cases e;subst h;exact⟨_,h1,Li hc _⟩
 ·cases h
theorem Gs(n:Nat)(cs:List AV):(eu cs).take n=eu (cs.take n):=by simp[eu,map_take]
theorem Gt(n:Nat)(cs:List AV):(eu cs).drop n=eu (cs.drop n):=by simp[eu,map_drop]
theorem SY(a b:List AV):eu (a++b)=eu a++eu b:=by simp[eu]
theorem JX(a:List AV):(eu a).length=a.length:=by simp[eu]
theorem aj6(cs:List AV)(p n:Nat):VQ ⟨1,eu cs⟩ p n=(cs.drop p).take n:=by simp only[VQ,Gt,Gs,rP]
theorem WN{t:TypeId}{ti:nj}{a:Nd X.toSE}{kk aa:Nat}{l:List (CT.T X.toSE a.c)}{y:X.T a.i}{g:Nat->Option aU}(h2:T t=some ti)(h1:X.ar t=some a)(hag:ti.agg=true)(hlen:(X.cW a.i).length=ti.size)
 (hk:g kk=some ⟨1,eu (l.map λx=>den (.c a.c x:DV X))⟩) (h4:a.g (sub l aa ti.size)=some y):Gj T t (den (.ptr kk 0 aa:DV X)) g=some ⟨den (.c (.st a.i) y:DV X),[],[]⟩:=by
 obtain⟨ho,hr,hg⟩:=X.m6 t a h1;have h7:=hg _ _ h4;have h8:den (.c (.st a.i) y:DV X)= .agg ((sub l aa ti.size).map λx=>den (.c a.c x:DV X)):=by
  show AV.agg ((X.row a.i y).map AV.t)=_;rw[hr y,EU ho,h7]
 have h9:((sub l aa ti.size).map λx=>den (.c a.c x:DV X)).length=ti.size:=by
  have:=congrArg List.length (EU ho (a.f y));rw[length_map,length_map,<- hr y]at this;have h10:=Dl (X:=X) (.st a.i) y;rw[length_map,<- h7,<- this];exact h10.trans hlen
 simp only[Gj,h2,ah,den,hk,if_true,Nat.zero_add,aj6,<- map_drop,<- map_take];show(part' ti.agg ti.size ((sub l aa ti.size).map λx=>den (.c a.c x:DV X))).bind pv=some ⟨den (.c (.st a.i) y:DV X),[],[]⟩;have hp:part' ti.agg ti.size ((sub l aa ti.size).map λx=>den (.c a.c x:DV X))=some (.agg ((sub l aa ti.size).map λx=>den (.c a.c x:DV X))):=by unfold part';rw[aN h9,aN hag]
 rw[hp,h8];rfl
theorem afY(h:To T i o.op ρ get k=some r):cN P T i o ρ get k r:=by
 obtain⟨dst,op,ty,aw,after,guard⟩:=o;unfold To at h;simp only at h;split at h
 ·rename_i e;rw[ai]at h;obtain⟨a,h1,h⟩:=h;rw[ai]at h;obtain⟨ti,h2,h⟩:=h;rw[ai]at h;obtain⟨l,h3,h⟩:=h;obtain⟨ho,_,_⟩:=X.m6 e a h1;refine cN.qn (n:=0) (rd:=[]) (wr:=[]) (upd:=[(cp i,some (.de a.c l))]) (dv:= .ptr (cp i) 0 0) (ab:=⟨.ptr (cp i) 0 0,[(cp i,some ⟨1,eu (ti.zero.map cv)⟩)],[]⟩) ?_ trivial rfl ?_ (by simp) h rfl rfl
  ·simp only[lH,U5,h2,ah]
  ·simp only[gF,aC,map_nil,Option.map_some,Li ho,<- JW h3,Ac]
 ·rename_i e x;rw[ai]at h;obtain⟨a,h1,h⟩:=h;rw[ai]at h;obtain⟨l,h3,h⟩:=h;split at h
  ·rename_i hc;obtain⟨ho,_,_⟩:=X.m6 e a h1;refine cN.qn (n:=0) (rd:=[]) (wr:=[]) (upd:=[(cp i,some (.de a.c l))]) (dv:= .ptr (cp i) 0 0) (ab:=⟨.ptr (cp i) 0 0,[(cp i,some ⟨1,eu (l.map λx=>den (.c a.c x:DV X))⟩)],[]⟩) ?_ trivial rfl ?_ (by simp) h rfl rfl
   ·simp only[lH,K0,WL h1 h3 hc,ah]
   ·simp only[gF,aC,map_nil,Option.map_some,Li ho]
  ·cases h
 ·rename_i t a0;rw[ai]at h;obtain⟨ti,h2,h⟩:=h;split at h
  ·rename_i kk aa hx;rw[ai]at h;obtain⟨a,h1,h⟩:=h;rw[ai]at h;obtain⟨l,h3,h⟩:=h;split at h
   ·rename_i hc;rw[ai]at h;obtain⟨y,h4,h⟩:=h;obtain⟨ob,h5,h6⟩:=WM (X.m6 t a h1).1 h3;refine cN.qn (n:=0) (rd:=[kk]) (wr:=[]) (upd:=[]) (dv:= .c (.st a.i) y) (ab:=⟨den (.c (.st a.i) y:DV X),[],[]⟩) ?_ trivial rfl rfl (by simp) h rfl rfl;simp only[lH,hx];exact WN h2 h1 hc.1 hc.2 (by rw[dM (List.mem_singleton_self kk) h5,h6]) h4
   ·cases h
  ·cases h
 ·rename_i t a0 x;rw[ai]at h;obtain⟨ti,h2,h⟩:=h;split at h
  ·rename_i kk aa hx;rw[ai]at h;obtain⟨a,h1,h⟩:=h;rw[ai]at h;obtain⟨l,h3,h⟩:=h;rw[ai]at h;obtain⟨aq,h4,h⟩:=h;split at h
   ·rename_i hc;have⟨h5,h⟩:=dx h;simp only[aJ,bk,C6,aT]at h5;obtain⟨ho,hr,hg⟩:=X.m6 t a h1;have⟨ob,h6,h7⟩:=WM ho h3;refine cN.qn (n:=0) (rd:=[kk]) (wr:=[kk]) (upd:=[(kk,some (.de a.c (tE l aa aq)))]) (dv:= .undef) (ab:=⟨.undef,[(kk,some ⟨1,eu ((tE l aa aq).map λx=>den (.c a.c x:DV X))⟩)],[]⟩) ?_ trivial rfl ?_ (by simp) h rfl rfl
    ·simp only[lH,Od,h2,ah,hx,den,WL h1 h4 hc,dM (List.mem_singleton_self kk) h6,h7];rw[aN ⟨trivial,by rw[length_map];exact h5.1,by rw[length_map,JX,length_map];omega⟩];simp only[tE,map_append,map_take,map_drop,SY,Gs,Gt,length_map,Nat.zero_add]
    ·simp only[gF,aC,map_nil,Option.map_some,Li ho]
   ·cases h
  ·rename_i kk aa m n hx;rw[ai]at h;obtain⟨ob,h3,h⟩:=h;split at h
   ·rename_i b l;split at h
    ·rename_i c0 y0 hy;rw[ai]at h;obtain⟨y,h4,h⟩:=h;split at h
     ·rename_i hb;have⟨h5,h⟩:=dx h;simp only[aJ,C6,aT]at h5;have h6:cellsOf (den (.c c0 y0:DV X))=some [den (.c b y:DV X)]:=by
       rw[(iQ h4).1];obtain⟨t',g1,g2⟩:=row_one hb.1 y;simp only[den,g2,TV.av];rfl
      refine cN.qn (n:=0) (rd:=[kk]) (wr:=[kk]) (upd:=[(kk,some (.de b (l.set (aa+n.toNat) y)))]) (dv:= .undef) (ab:=⟨.undef,[(kk,some ⟨1,eu ((l.set (aa+n.toNat) y).map λx=>den (.c b x:DV X))⟩)],[]⟩) ?_ trivial rfl ?_ (by simp) h rfl rfl
      ·simp only[lH,Od,h2,ah,hx,hy,h6];simp only[den,dM (List.mem_singleton_self kk) h3,Li hb.1,ah];rw[aN ⟨trivial,by rw[hb.2];rfl,by rw[JX,length_map];simp only[bE,List.length_nil];omega⟩];simp only[Nat.zero_add,bE,List.length_nil];rw[List.map_set,List.set_eq_take_append_cons_drop,aN (by rw[length_map];omega)];simp only[SY,Gs,Gt,aK];rfl
      ·simp only[gF,aC,map_nil,Option.map_some,Li hb.1]
     ·cases h
    ·cases h
   ·cases h
  ·cases h
 ·rename_i t x lo hi;rw[ai]at h;obtain⟨ti,h2,h⟩:=h;split at h
  ·rename_i m e kk aa hk hx;rw[ai]at h;obtain⟨ei,h3,h⟩:=h;rw[ai]at h;obtain⟨ob,h4,h⟩:=h;split at h
   ·rename_i b l;split at h
    ·rename_i hb;have⟨p,h5,h⟩:=ai.1 h;have⟨q,h6,h⟩:=ai.1 h;have⟨h7,h⟩:=dx h;simp only[aJ,Ad,C6,aT]at h7;refine cN.qn (n:=0) (rd:=[kk]) (wr:=[]) (upd:=[]) (dv:= .own kk (aa+p.toNat) (q.toNat -p.toNat)) (ab:=⟨.own kk (0+aa+p.toNat) (q.toNat -p.toNat),[],[0<=p/\p<=q/\q<=(m:Int)/\0+aa+m<=(bF (.de b l:br X)).rows.length]⟩) ?_ ⟨h7.1.1.1,h7.1.1.2,h7.1.2,?_⟩ ?_ rfl (by simp) h rfl ?_
     ·simp only[lH,U6,h2,ah,hk,hx,den,h3,dM (List.mem_singleton_self kk) h4];have e1:bnd 0 (lo.map λx=>den (ρ x))=some p:=(by rw[<- wW h5,Option.map_map];rfl);have e2:bnd (m:Int) (hi.map λx=>den (ρ x))=some q:=(by rw[<- wW h6,Option.map_map];rfl);rw[aN ⟨hb.1,hb.2⟩];simp only[e1,e2,ah,kO]
     ·simp only[bF,aL,length_map];omega
     ·simp only[den,Nat.zero_add]
     ·simp only[oO,EP,h2,ah,hk]
    ·cases h
   ·cases h
  ·cases h
 ·rename_i Sx t x y q0;rw[ai]at h;obtain⟨ti,h2,h⟩:=h;rw[ai]at h;obtain⟨a,h1,h⟩:=h;split at h
  ·rename_i m0 e0 b u0 c v0 hk hx hy;rw[ai]at h;obtain⟨u,h3,h⟩:=h;rw[ai]at h;obtain⟨v,h4,h⟩:=h;rw[ai]at h;obtain⟨p,h5,h⟩:=h;rw[ai]at h;obtain⟨q,h6,h⟩:=h;split at h
   ·rename_i hb;obtain⟨ho,hr,hg⟩:=X.m6 t a h1;have key:∀(z:CT.T X.toSE (.st a.i)) (l:List Bool),gB (.sl a.c) (.sl .bool) (a.f z)=some l->den (.c (.st a.i) z:DV X)= .agg (l.map tB)/\l.length=ti.size:=by
     intro z l hl;have e1:den (.c (.st a.i) z:DV X)= .agg ((a.f z).map λx=>den (.c a.c x:DV X)):=by
      show AV.agg ((X.row a.i z).map AV.t)=_;rw[hr z,EU ho]
     have e2:((a.f z).map λx=>den (.c a.c x:DV X)).length=ti.size:=by
      have:=congrArg List.length (EU ho (a.f z));rw[length_map,<- hr z]at this;rw[<- this];exact(Dl (X:=X) (.st a.i) z).trans hb.2.2
     rw[aiv hl]at e1 e2;exact⟨e1,by rw[length_map]at e2;exact e2⟩
    have⟨k1,l1⟩:=key u p h5;have⟨k2,l2⟩:=key v q h6;cases Sx<;>simp only[reduceCtorEq]at h
    ·refine cN.qn (n:=if p=q then 1 else 0) (rd:=[]) (wr:=[]) (upd:=[]) (dv:= .c .bool (C7 p q)) (ab:=⟨tB ((if p=q then(1:Int)else 0) !=0),[],[∃ z1 z2:List Bool,p.map tB=z1.map tB/\q.map tB=z2.map tB/\z1.length=ti.size/\z2.length=ti.size/\((if p=q then(1:Int)else 0)≠0↔z1=z2)]⟩) ?_ ⟨p,q,rfl,rfl,l1,l2,by split<;>simp_all⟩ ?_ rfl (by simp) h rfl ?_
     ·simp only[lH,HP,h2,ah,hk,hx,hy,(iQ h3).1,(iQ h4).1,k1,k2];rw[aN ⟨hb.1,hb.2.1⟩];rfl
     ·simp only[tB,den,CT.tv,TV.av,C7];by_cases hpq:p=q<;>simp[hpq]
     ·simp only[oO,Y4,h2,ah,hk]
    ·refine cN.qn (n:=if p=q then 1 else 0) (rd:=[]) (wr:=[]) (upd:=[]) (dv:= .c .bool (!(C7 p q))) (ab:=⟨tB (!((if p=q then(1:Int)else 0) !=0)),[],[∃ z1 z2:List Bool,p.map tB=z1.map tB/\q.map tB=z2.map tB/\z1.length=ti.size/\z2.length=ti.size/\((if p=q then(1:Int)else 0)≠0↔z1=z2)]⟩) ?_ ⟨p,q,rfl,rfl,l1,l2,by split<;>simp_all⟩ ?_ rfl (by simp) h rfl ?_
     ·simp only[lH,HP,h2,ah,hk,hx,hy,(iQ h3).1,(iQ h4).1,k1,k2];rw[aN ⟨hb.1,hb.2.1⟩];rfl
     ·simp only[tB,den,CT.tv,TV.av,C7];by_cases hpq:p=q<;>simp[hpq]
     ·simp only[oO,Y4,h2,ah,hk]
   ·cases h
  ·cases h
 ·cases h
end
section
variable {X:SX}
structure MA(X:SX) where
 nm:List (Nat×Nat)
 ev:List (DC X)
 ip:List Bool
def addN(m:MA X)(k' k:Nat):MA X:=if m.nm.contains (k',k)then m else⟨m.nm++[(k',k)],m.ev,m.ip⟩
section
variable (get:Nat->Option (br X))
mutual
def mP:Pt X.ι->DV X->MA X->Option (MA X)
 | .v c,d,m=>(dat d c).bind λx=>some ⟨m.nm,m.ev++[⟨c,x⟩],m.ip⟩
 | .o k,d,m=>match d with
  | .own k' 0 len=>(get k').bind λo=>match o with
   | .de _ l=>some (addN ⟨m.nm,m.ev,m.ip++[bk len l.length]⟩ k' k)
   |_=>none
  |_=>none
 | .oz k,d,m=>match d with
  | .own k' 0 len=>(get k').bind λo=>match o with
   | .de _ l=>some (addN ⟨m.nm,m.ev,m.ip++[!(len==0)&&bk len l.length]⟩ k' k)
   |_=>none
  | .oz k' len=>(get k').bind λo=>match o with
   | .de _ l=>some (addN ⟨m.nm,m.ev,m.ip++[bk len l.length]⟩ k' k)
   |_=>none
  |_=>none
 | .p k,d,m=>match d with
  | .ptr k' 0 0=>some (addN m k' k)
  |_=>none
 | .mp k,d,m=>match d with
  | .mp k'=>some (addN m k' k)
  |_=>none
 | .nil,d,m=>match d with
  | .nil=>some m
  |_=>none
 | .f F fs cs,d,m=>match d with
  | .fn F' first caps=>if F=F' then(sd fs first m).bind λm=>sd cs caps m else none
  |_=>none
 | .od k,d,m=>match d with
  | .own k' aa len=>(get k').bind λo=>match o with
   | .de _ l=>some (addN ⟨m.nm,m.ev++[⟨.int .i64,(aa:Int)⟩],m.ip++[bk (aa+len) l.length]⟩ k' k)
   |_=>none
  |_=>none
 | .a ps,d,m=>match d with
  | .agg ds=>sd ps ds m
  |_=>none
def sd:List (Pt X.ι)->List (DV X)->MA X->Option (MA X)
 |[],[],m=>some m
 |p::ps,d::ds,m=>(mP p d m).bind λm=>sd ps ds m
 |_,_,_=>none
end
def JY(env:Nat->DV X):List (Nat×Pt X.ι)->MA X->Option (MA X)
 |[],m=>some m
 |(t,p)::r,m=>(mP get p (env t) m).bind λm=>JY env r m
def Ip:List (List (Pt X.ι))->List (List (DV X))->MA X->Option (MA X)
 |[],[],m=>some m
 |r::rs,q::qs,m=>(sd get r q m).bind λm=>Ip rs qs m
 |_,_,_=>none
def nameOf(m:MA X)(k:Nat):Nat:=match m.nm.find? (λ q=>q.2==k)with |some q=>q.1 |none=>k
def EW:List (Nat×OP X.ι)->MA X->Option (MA X)
 |[],m=>some m
 |(k,op)::r,m=>(get (nameOf m k)).bind λo=>match op,o with
  | .l c,.de c' l=>(gB (.sl c') (.sl c) l).bind λl'=>EW r (addN ⟨m.nm,m.ev++[⟨.sl c,l'⟩],m.ip⟩ (nameOf m k) k)
  | .m kc vc,.map tf s9 l=>(gB (.mp tf s9) (.mp kc vc) l).bind λl'=>EW r (addN ⟨m.nm,m.ev++[⟨.mp kc vc,l'⟩],m.ip⟩ (nameOf m k) k)
  | .c sz rows,.cells sz' rows'=>if sz=sz' then(Ip get rows rows' (addN m (nameOf m k) k)).bind λm=>EW r m else none
  |_,_=>none
end
end
section
variable {X:SX} {A:Type}
mutual
def m9(f:Nat->Nat):DV X->DV X
 | .own k aa len=> .own (f k) aa len
 | .ptr k row aa=> .ptr (f k) row aa
 | .pZ k n aa=> .pZ (f k) n aa
 | .rk k row aa m n=> .rk (f k) row aa m n
 | .mp k=> .mp (f k)
 | .oz k len=> .oz (f k) len
 | .agg cs=> .agg (LX f cs)
 | .fh cs=> .fh (LX f cs)
 | .fn F first caps=> .fn F (LX f first) (LX f caps)
 |x=>x
def LX(f:Nat->Nat):List (DV X)->List (DV X)
 |[]=>[]
 |x::xs=>m9 f x::LX f xs
end
theorem T8(f:Nat->Nat):∀l:List Tree,yZ f (l.map AV.t)=l.map AV.t
 |[]=>rfl
 |x::xs=>by simp only[aC,yZ,eV,T8 f xs]
mutual
theorem Cr(f:Nat->Nat):∀x:DV X,den (m9 f x)=eV f (den x)
 | .own _ _ _=>rfl
 | .ptr _ _ _=>rfl
 | .pZ _ _ _=>rfl
 | .mp _=>rfl
 | .oz _ _=>rfl
 | .rk _ _ _ _ _=>rfl
 | .agg cs=>by simp only[m9,den,eV,EX f cs]
 | .fh cs=>by simp only[m9,den,eV,EX f cs]
 | .fn F first caps=>by simp only[m9,den,eV,EX f first,EX f caps]
 | .c t x=>by
  simp only[m9,den];cases t<;>try rfl
  simp only[CT.tv,TV.av,eV,T8]
 | .rp _ _ _=>rfl
 | .uA _ _ _ _ _=>rfl
 | .cV _ _ _=>rfl
 | .raw v=>by
  simp only[m9,den,cv];split
  ·rfl
  ·split<;>rfl
 | .nil=>rfl
 | .ub=>rfl
 | .skip=>rfl
 | .undef=>rfl
theorem EX(f:Nat->Nat):∀l:List (DV X),bJ (LX f l)=yZ f (bJ l)
 |[]=>rfl
 |x::xs=>by simp only[LX,bJ,yZ,Cr f x,EX f xs]
end
def ox(f:Nat->Nat):br X->br X
 | .cells sz rows=> .cells sz (rows.map (LX f))
 |o=>o
def dE:br X->List Nat
 | .cells _ rows=>(rows.map aS).flatten
 | .de _ _=>[]
 | .map _ _ _=>[]
def LL:CT X.ι->Bool
 | .int _ | .bool | .str=>true
 |_=>false
def yV:CT X.ι->Bool
 | .st i=>(X.cW i).all LL
 |c=>LL c
theorem Gu{c:CT X.ι}(h:LL c=true)(x:CT.T X.toSE c):∀t∈CT.row X.toSE c x,t.flat:=by cases c<;>first |(intro t ht;simp only[CT.row,aY]at ht;subst ht;exact trivial) |cases h
theorem ahC:∀(l:List (CT X.ι))(h:HL X.toSE l),l.all LL=true->∀t∈HL.row X.toSE l h,t.flat
 |[],_,_,t,ht=>by simp[HL.row]at ht
 |c::l,h,ha,t,ht=>by
  simp only[all_cons,aJ]at ha;rcases aV.1 (show t∈CT.row X.toSE c h.1++HL.row X.toSE l h.2 from ht)with ht |ht
  ·exact Gu ha.1 h.1 t ht
  ·exact ahC l h.2 ha.2 t ht
theorem vM{c:CT X.ι}(h:yV c=true)(x:CT.T X.toSE c):∀t∈CT.row X.toSE c x,t.flat:=by
 cases c
 case st i=>intro t ht;exact ahC (X.cW i) (X.get i x) h t ((X.nt i x) ▸ ht)
 case int k=>exact Gu (c:= .int k) h x
 case bool=>exact Gu (c:= .bool) h x
 case str=>exact Gu (c:= .str) h x
 case sl e=>cases h
 case any=>cases h
 case mp=>cases h
structure MG(X:SX) where
 nm:List (Nat×Nat)
 ev:List (DC X)
 ip:List Bool
 vr:List Nat
section
variable (get:Nat->Option (br X))
mutual
def pw:Pt X.ι->DV X->MG X->Option (MG X)
 | .v c,d,m=>(Io get d c).bind λx=>some ⟨m.nm,m.ev++[⟨c,x.1⟩],m.ip++x.2,m.vr++bm d⟩
 | .o k,d,m=>match d with
  | .own k' 0 len=>(get k').bind λo=>match o with
   | .de _ l=>some ⟨m.nm++[(k',k)],m.ev,m.ip++[bk len l.length],m.vr⟩
   |_=>none
  |_=>none
 | .od k,d,m=>match d with
  | .own k' aa len=>(get k').bind λo=>match o with
   | .de _ l=>some ⟨m.nm++[(k',k)],m.ev++[⟨.int .i64,(aa:Int)⟩],m.ip++[bk (aa+len) l.length],m.vr⟩
   |_=>none
  |_=>none
 | .p k,d,m=>match d with
  | .ptr k' 0 0=>some ⟨m.nm++[(k',k)],m.ev,m.ip,m.vr⟩
  |_=>none
 | .nil,d,m=>match d with
  | .nil=>some m
  |_=>none
 | .f F fs cs,d,m=>match d with
  | .fn F' first caps=>if F=F' then(ri fs first m).bind λm=>ri cs caps m else none
  |_=>none
 | .mp k,d,m=>match d with
  | .mp k'=>some ⟨m.nm++[(k',k)],m.ev,m.ip,m.vr⟩
  |_=>none
 | .oz _,_,_=>none
 | .a ps,d,m=>match d with
  | .agg ds=>ri ps ds m
  |_=>none
def ri:List (Pt X.ι)->List (DV X)->MG X->Option (MG X)
 |[],[],m=>some m
 |p::ps,d::ds,m=>(pw p d m).bind λm=>ri ps ds m
 |_,_,_=>none
end
def Iq:List (List (Pt X.ι))->List (List (DV X))->MG X->Option (MG X)
 |[],[],m=>some m
 |r::rs,q::qs,m=>(ri get r q m).bind λm=>Iq rs qs m
 |_,_,_=>none
def p0(m:MG X)(k:Nat):Nat:=match m.nm.find? (λ q=>q.2==k)with |some q=>q.1 |none=>k
def EY:List (Nat×OP X.ι)->MG X->Option (MG X)
 |[],m=>some m
 |(k,op)::r,m=>(get (p0 m k)).bind λo=>match op,o with
  | .l c,.de c' l=>(gB (.sl c') (.sl c) l).bind λl'=>EY r ⟨m.nm++[(p0 m k,k)],m.ev++[⟨.sl c,l'⟩],m.ip,m.vr⟩
  | .m kc vc,.map tf s9 l=>if kc.one=true/\vc.one=true then(gB (.mp tf s9) (.mp kc vc) l).bind λl'=>EY r ⟨m.nm++[(p0 m k,k)],m.ev++[⟨.mp kc vc,l'⟩],m.ip,m.vr⟩else none
  | .c sz rows,.cells sz' rows'=>if sz=sz' then(Iq get rows rows' ⟨m.nm++[(p0 m k,k)],m.ev,m.ip,m.vr⟩).bind λm=>EY r m else none
  |_,_=>none
end
mutual
def Pt.refs:Pt X.ι->List Nat
 | .o k | .od k | .p k | .mp k | .oz k=>[k]
 | .f _ fs cs=>Dp fs++Dp cs
 | .a ps=>Dp ps
 |_=>[]
def Dp:List (Pt X.ι)->List Nat
 |[]=>[]
 |p::ps=>p.refs++Dp ps
end
def OP.refs:OP X.ι->List Nat
 | .l _=>[]
 | .m _ _=>[]
 | .c _ rows=>rows.flatMap Dp
def FF(n k:Nat):Bool:=Nat.blt k n || (Nat.ble 1000 k&&Nat.blt k 1064)
def cT.ok(g:cT X):Bool:=
 decide (g.ix.map (·.1)=List.range g.ix.length)&&decide (g.ix.length<=1000)&&(g.iv.all λq=>FF g.ix.length q.1&&q.2.refs.all λk=>FF g.ix.length k)&&decide (g.iv.map (·.1)).Nodup&&(Dp g.fy).all λk=>FF g.ix.length k
def ZS(m:MG X)(ae:List Nat):Bool:=
 decide ae.Nodup&&(m.nm.all λq=>match ae[q.2]? with |some k=>Nat.beq k q.1 |none=>false)&&m.vr.all λk=>!ae.contains k
def cT.flat(g:cT X):Bool:=(cI g.fy).all yV&&g.iv.all λq=>match q.2 with
 | .l c=>yV c
 | .m _ _=>false
 | .c _ rows=>(wX rows).all yV
def sY:List (Nat×br X)->Nat->Option (br X)
 |[],_=>none
 |(j,o)::r,k=>if j=k then some o else sY r k
def LI(i:Nat)(ae:List Nat)(os':List (Nat×br X)):List (Nat×Option (br X)):=
 (ae.zipIdx.map λp=>(p.1,(sY os' p.2).map (ox (cn i ae))))++(os'.filter λq=>decide (1000<=q.1)).map λq=>(cn i ae q.1,some (ox (cn i ae) q.2))
def V1(g:cT X)(i:Nat)(ds:List (DV X))(get:Nat->Option (br X))(k:KK X A):Option A:=
 (ri get g.pm ds ⟨[],[],[],[]⟩).bind λm=>(EY get g.ix m).bind λm=>
  bif g.ok&&ZS m ((List.range g.ix.length).map (p0 m))then(Zk (cI g.pm++cA g.ix) m.ev).bind λv=>Ws m.ip ((g.fn v).bind λr=>
   let ae:=(List.range g.ix.length).map (p0 m)
   k (m9 (cn i ae) (g.res r)) (LI i ae (g.outs r)++(if g.flat then []else m.vr.map λk=>(k,none))) (ae++m.vr) ((ae++(LI i ae (g.outs r)).map (·.1))++m.vr))
  else none
section
variable {P:Program} {get:Nat->Option (br X)} {rd ae:List Nat} {dt:Nat->Nat}
def fR(m m':MG X):Prop:=(∀ q∈m.nm,q∈m'.nm)/\(∀ c∈m.ip,c∈m'.ip)/\∀k∈m.vr,k∈m'.vr
theorem fR.refl(m:MG X):fR m m:=⟨λ _ h=>h,λ_ h=>h,λ_ h=>h⟩
theorem fR.trans{a b c:MG X}(h:fR a b)(h':fR b c):fR a c:=⟨λ q hq=>h'.1 q (h.1 q hq),λq hq=>h'.2.1 q (h.2.1 q hq),λq hq=>h'.2.2 q (h.2.2 q hq)⟩
mutual
theorem aj7:∀(p:Pt X.ι)(d:DV X)(m m':MG X),pw get p d m=some m'->fR m m'/\∃aq,m'.ev=m.ev++aq/\aq.length=p.vars.length
 | .v c,d,m,m',h=>by
  simp only[pw]at h;rw[ai]at h;obtain⟨x,h1,h⟩:=h;cases h;exact⟨⟨λ _ h=>h,λ_ h=>by simp[h],λ_ h=>by simp[h]⟩,[⟨c,x.1⟩],rfl,rfl⟩
 | .o k,d,m,m',h=>by
  simp only[pw]at h;split at h
  ·rw[ai]at h;obtain⟨o,h1,h⟩:=h;split at h
   ·cases h;exact⟨⟨λ _ h=>by simp[h],λ_ h=>by simp[h],λ_ h=>h⟩,[],by simp,rfl⟩
   ·cases h
  ·cases h
 | .od k,d,m,m',h=>by
  simp only[pw]at h;split at h
  ·rename_i k' aa len;have⟨o,h1,h⟩:=ai.1 h;split at h
   ·cases h;exact⟨⟨λ _ h=>by simp[h],λ_ h=>by simp[h],λ_ h=>h⟩,[⟨.int .i64,(aa:Int)⟩],rfl,rfl⟩
   ·cases h
  ·cases h
 | .p k,d,m,m',h=>by
  simp only[pw]at h;split at h
  ·cases h;exact⟨⟨λ _ h=>by simp[h],λ_ h=>h,λ_ h=>h⟩,[],by simp,rfl⟩
  ·cases h
 | .nil,d,m,m',h=>by
  simp only[pw]at h;split at h
  ·cases h;exact⟨fR.refl _,[],by simp,rfl⟩
  ·cases h
 | .f F fs cs,d,m,m',h=>by
  simp only[pw]at h;split at h
  ·split at h
   ·have⟨m1,h1,h⟩:=ai.1 h;obtain⟨a1,n1,b1,c1⟩:=xg fs _ m m1 h1;obtain⟨a2,n2,b2,c2⟩:=xg cs _ m1 m' h;exact⟨a1.trans a2,n1++n2,by rw[b2,b1,aK],by simp[Pt.vars,c1,c2]⟩
   ·cases h
  ·cases h
 | .mp k,d,m,m',h=>by
  simp only[pw]at h;split at h
  ·cases h;exact⟨⟨λ _ h=>by simp[h],λ_ h=>h,λ_ h=>h⟩,[],by simp,rfl⟩
  ·cases h
 | .oz _,_,_,_,h=>by simp[pw]at h
 | .a ps,d,m,m',h=>by
  simp only[pw]at h;split at h
  ·exact xg ps _ m m' h
  ·cases h
theorem xg:∀(ps:List (Pt X.ι))(ds:List (DV X))(m m':MG X),ri get ps ds m=some m'->fR m m'/\∃aq,m'.ev=m.ev++aq/\aq.length=(cI ps).length
 |[],[],m,m',h=>by
  simp only[ri,aA]at h;subst h;exact⟨fR.refl _,[],by simp,rfl⟩
 |p::ps,d::ds,m,m',h=>by
  simp only[ri]at h;have⟨m1,h1,h⟩:=ai.1 h;have⟨a1,n1,b1,c1⟩:=aj7 p d m m1 h1;have⟨a2,n2,b2,c2⟩:=xg ps ds m1 m' h;exact⟨a1.trans a2,n1++n2,by rw[b2,b1,aK],by simp[cI,c1,c2]⟩
 |[],_::_,m,m',h=>by simp[ri]at h
 |_::_,[],m,m',h=>by simp[ri]at h
end
def Zo:AV->List LH->List LH
 | .agg _,hs=> .agd::hs
 |_,hs=>hs
theorem OC(x:AV)(a b:List LH):Zo x (a++b)=Zo x a++b:=by cases x<;>rfl
theorem zP{get':Nat->Option aU}{x:AV}{hs:List LH}{p:AV×List LH×List Prop}(h:o8 P get' x hs=some p)(hr:∀k∈refs x,k∉ae):sj P get' ae x (Zo x hs)=some p:=by
 have hd:((refs x).all λk=>!ae.contains k)=true:=by
  simp only[all_eq_true,Bool.not_eq_true',List.contains_eq_mem,dL];exact hr
 cases x
 case agg cs=>
  simp only[refs]at hd;simp only[Zo,sj,hd,if_true];exact h
 all_goals
  simp only[Zo];unfold sj;split<;>first |(simp [o8]at h;done) |(rw [aN hd];exact h) |exact h |exact absurd hd ‹_› |(rename_i e;cases e;done)
variable {NM:List (Nat×Nat)} {px:List Nat}
mutual
theorem aiw(hi:∀q∈NM,ae[q.2]? =some q.1)(hv:∀k∈px,k∉ae)(hrd:∀k,(∃ q,(k,q)∈NM)\/k∈px->k∈rd)(ho:∀q∈NM,∀c l,get q.1=some (.de c l)->dt q.2=l.length):
 ∀(p:Pt X.ι)(d:DV X)(m m':MG X),pw get p d m=some m'->(∀ q∈m'.nm,q∈NM)->(∀ c∈m'.ip,c=true)->(∀ k∈m'.vr,k∈px)->
 ∃aq,m'.ev=m.ev++aq/\∃d',(∀ ag,eP dt p (aq++ag)=(d',ag))/\(∃ hs obs,(∀ p∈obs,p)/\∀ag,sj P (dD rd (fB get)) ae (den d) (hs++ag)=some (den d',ag,obs))/\∀j∈bm d,(∃ q,(j,q)∈NM)\/j∈px
 | .v c,d,m,m',h,hn,hc,hr=>by
  simp only[pw]at h;rw[ai]at h;obtain⟨x,h1,h⟩:=h;cases h;have yp:∀j∈bm d,j∈px:=λj hj=>hr j (by simp[hj]);obtain⟨hs,obs,p1,q1⟩:=Cq (P:=P) (rd:=rd) h1 (λ b hb=>hc b (by simp[hb])) (λ j hj=>hrd j (.inr (yp j hj)));refine⟨[⟨c,x.1⟩],rfl,.c c x.1,λag=>rfl,⟨Zo (den d) hs,obs,p1,λag=>?_⟩,λj hj=> .inr (yp j hj)⟩;rw[<- OC];exact zP (q1 ag) (λ k hk=>hv k (yp k (by rwa [iR]at hk)))
 | .o k,d,m,m',h,hn,hc,hr=>by
  simp only[pw]at h;split at h
  ·rename_i k' len;rw[ai]at h;obtain⟨o,h1,h⟩:=h;split at h
   ·rename_i c l;cases h;have hq:(k',k)∈NM:=hn _ (by simp);have he:len=l.length:=by
     have:=hc (bk len l.length) (by simp);simpa[bk]using this
    refine⟨[],by simp,.own k 0 (dt k),λag=>rfl,⟨[.mut k],[],by simp,λag=>?_⟩,λj hj=>?_⟩
    ·simp only[den,cons_append,bO,sj,hi _ hq,if_true,ho _ hq c l h1,he]
    ·simp only[bm,aY]at hj;subst hj;exact .inl ⟨k,hq⟩
   ·cases h
  ·cases h
 | .od k,d,m,m',h,hn,hc,hr=>by
  simp only[pw]at h;split at h
  ·rename_i k' aa len;rw[ai]at h;obtain⟨o,h1,h⟩:=h;split at h
   ·rename_i c l;cases h;have hq:(k',k)∈NM:=hn _ (by simp);have he:aa+len=l.length:=by
     have:=hc (bk (aa+len) l.length) (by simp);simpa[bk]using this
    refine⟨[⟨.int .i64,(aa:Int)⟩],rfl,.own k aa (dt k -aa),λag=>?_,⟨[.mut k],[],by simp,λag=>?_⟩,λj hj=>?_⟩
    ·have:DO (X:=X) ⟨.int .i64,(aa:Int)⟩=aa:=by
      simp only[DO];rw[WE];simp
     simp only[eP,cons_append,bO,this]
    ·simp only[den,cons_append,bO,sj,hi _ hq,if_true,ho _ hq c l h1,show l.length -aa=len by omega]
    ·simp only[bm,aY]at hj;subst hj;exact .inl ⟨k,hq⟩
   ·cases h
  ·cases h
 | .p k,d,m,m',h,hn,hc,hr=>by
  simp only[pw]at h;split at h
  ·rename_i k';cases h;have hq:(k',k)∈NM:=hn _ (by simp);refine⟨[],by simp,.ptr k 0 0,λag=>rfl,⟨[.mut k],[],by simp,λag=>?_⟩,λj hj=>?_⟩
   ·simp only[den,cons_append,bO,sj,hi _ hq,if_true]
   ·simp only[bm,aY]at hj;subst hj;exact .inl ⟨k,hq⟩
  ·cases h
 | .nil,d,m,m',h,hn,hc,hr=>by
  simp only[pw]at h;split at h
  ·cases h;refine⟨[],by simp,.nil,λag=>rfl,⟨[.nil],[],by simp,λag=>?_⟩,by simp[bm]⟩;exact zP (by simp only[den,cons_append,bO,o8]) (by simp[den,refs])
  ·cases h
 | .f F fs cs,d,m,m',h,hn,hc,hr=>by
  simp only[pw]at h;split at h
  ·rename_i F' first caps
   split at h
   ·rename_i e;subst e;rw[ai]at h;obtain⟨m1,h1,h⟩:=h;have hm:=(xg cs _ m1 m' h).1;obtain⟨n1,a1,f',b1,⟨hs1,o1,p1,q1⟩,r1⟩:=zQ hi hv hrd ho fs _ m m1 h1 (λ q hq=>hn q (hm.1 q hq)) (λ q hq=>hc q (hm.2.1 q hq)) (λ q hq=>hr q (hm.2.2 q hq));obtain⟨n2,a2,c',b2,⟨hs2,o2,p2,q2⟩,r2⟩:=zQ hi hv hrd ho cs _ m1 m' h hn hc hr;refine⟨n1++n2,by rw[a2,a1,aK],.fn F f' c',λag=>by simp only[eP,aK,b1,b2],⟨.fnw::(hs1++hs2),o1++o2,gT p1 p2,λag=>?_⟩,λj hj=>?_⟩
    ·simp only[den,cons_append,aK,sj,q1,ah,q2]
    ·simp only[bm,aV]at hj;exact hj.elim (r1 j) (r2 j)
   ·cases h
  ·cases h
 | .mp k,d,m,m',h,hn,hc,hr=>by
  simp only[pw]at h;split at h
  ·rename_i k';cases h;have hq:(k',k)∈NM:=hn _ (by simp);refine⟨[],by simp,.mp k,λag=>rfl,⟨[.mut k],[],by simp,λag=>?_⟩,λj hj=>?_⟩
   ·simp only[den,cons_append,bO,sj,hi _ hq,if_true]
   ·simp only[bm,aY]at hj;subst hj;exact .inl ⟨k,hq⟩
  ·cases h
 | .oz _,_,_,_,h,_,_,_=>by simp[pw]at h
 | .a ps,d,m,m',h,hn,hc,hr=>by
  simp only[pw]at h;split at h
  ·rename_i ds;have⟨n1,a1,f',b1,⟨hs1,o1,p1,q1⟩,r1⟩:=zQ hi hv hrd ho ps ds m m' h hn hc hr;refine⟨n1,a1,.agg f',λag=>by simp only[eP,b1],⟨.agw::hs1,o1,p1,λag=>?_⟩,λj hj=>r1 j (by simpa[bm]using hj)⟩;simp only[den,cons_append,sj,q1,ah]
  ·cases h
theorem zQ(hi:∀q∈NM,ae[q.2]? =some q.1)(hv:∀k∈px,k∉ae)(hrd:∀k,(∃ q,(k,q)∈NM)\/k∈px->k∈rd)(ho:∀q∈NM,∀c l,get q.1=some (.de c l)->dt q.2=l.length):
 ∀(ps:List (Pt X.ι))(ds:List (DV X))(m m':MG X),ri get ps ds m=some m'->(∀ q∈m'.nm,q∈NM)->(∀ c∈m'.ip,c=true)->(∀ k∈m'.vr,k∈px)->
 ∃aq,m'.ev=m.ev++aq/\∃ds',(∀ ag,lj dt ps (aq++ag)=(ds',ag))/\(∃ hs obs,(∀ p∈obs,p)/\∀ag,mZ P (dD rd (fB get)) ae (bJ ds) (hs++ag)=some (bJ ds',ag,obs))/\∀j∈aS ds,(∃ q,(j,q)∈NM)\/j∈px
 |[],[],m,m',h,_,_,_=>by
  simp only[ri,aA]at h;subst h;exact⟨[],by simp,[],λag=>rfl,⟨[],[],by simp,λag=>rfl⟩,by simp[aS]⟩
 |p::ps,d::ds,m,m',h,hn,hc,hr=>by
  simp only[ri]at h;have⟨m1,h1,h⟩:=ai.1 h;have hm:=(xg ps ds m1 m' h).1;obtain⟨n1,a1,d',b1,⟨hs1,o1,p1,q1⟩,r1⟩:=aiw hi hv hrd ho p d m m1 h1 (λ q hq=>hn q (hm.1 q hq)) (λ q hq=>hc q (hm.2.1 q hq)) (λ q hq=>hr q (hm.2.2 q hq));have⟨n2,a2,ds',b2,⟨hs2,o2,p2,q2⟩,r2⟩:=zQ hi hv hrd ho ps ds m1 m' h hn hc hr;refine⟨n1++n2,by rw[a2,a1,aK],d'::ds',λag=>by simp only[lj,aK,b1,b2],⟨hs1++hs2,o1++o2,gT p1 p2,λag=>?_⟩,λj hj=>?_⟩
  ·simp only[bJ,aK,mZ,q1,ah,q2]
  ·simp only[aS,aV]at hj;exact hj.elim (r1 j) (r2 j)
 |[],_::_,m,m',h,_,_,_=>by simp[ri]at h
 |_::_,[],m,m',h,_,_,_=>by simp[ri]at h
end
theorem Aj:∀(rs:List (List (Pt X.ι)))(qs:List (List (DV X)))(m m':MG X),Iq get rs qs m=some m'->fR m m'/\∃aq,m'.ev=m.ev++aq/\aq.length=(wX rs).length
 |[],[],m,m',h=>by
  simp only[Iq,aA]at h;subst h;exact⟨fR.refl _,[],by simp,rfl⟩
 |r::rs,q::qs,m,m',h=>by
  simp only[Iq]at h;have⟨m1,h1,h⟩:=ai.1 h;have⟨a1,n1,b1,c1⟩:=xg r q m m1 h1;have⟨a2,n2,b2,c2⟩:=Aj rs qs m1 m' h;exact⟨a1.trans a2,n1++n2,by rw[b2,b1,aK],by simp[wX,c1,c2]⟩
 |[],_::_,m,m',h=>by simp[Iq]at h
 |_::_,[],m,m',h=>by simp[Iq]at h
theorem S9(hi:∀q∈NM,ae[q.2]? =some q.1)(hv:∀k∈px,k∉ae)(hrd:∀k,(∃ q,(k,q)∈NM)\/k∈px->k∈rd)(ho:∀q∈NM,∀c l,get q.1=some (.de c l)->dt q.2=l.length):
 ∀(rs:List (List (Pt X.ι)))(qs:List (List (DV X)))(m m':MG X),Iq get rs qs m=some m'->(∀ q∈m'.nm,q∈NM)->(∀ c∈m'.ip,c=true)->(∀ k∈m'.vr,k∈px)->
 ∃aq,m'.ev=m.ev++aq/\∃CH,(∀ ag,wZ dt rs (aq++ag)=(CH,ag))/\(∃ hs obs,(∀ p∈obs,p)/\Gi P (dD rd (fB get)) ae (qs.map bJ) hs=some (CH.map bJ,obs))/\∀j∈(qs.map aS).flatten,(∃ q,(j,q)∈NM)\/j∈px
 |[],[],m,m',h,_,_,_=>by
  simp only[Iq,aA]at h;subst h;exact⟨[],by simp,[],λag=>rfl,⟨[],[],by simp,rfl⟩,by simp⟩
 |r::rs,q::qs,m,m',h,hn,hc,hr=>by
  simp only[Iq]at h;have⟨m1,h1,h⟩:=ai.1 h;have hm:=(Aj rs qs m1 m' h).1;obtain⟨n1,a1,d',b1,⟨hs1,o1,p1,q1⟩,r1⟩:=zQ (P:=P) hi hv hrd ho r q m m1 h1 (λ q hq=>hn q (hm.1 q hq)) (λ q hq=>hc q (hm.2.1 q hq)) (λ q hq=>hr q (hm.2.2 q hq));have⟨n2,a2,ds',b2,⟨hs2,o2,p2,q2⟩,r2⟩:=S9 hi hv hrd ho rs qs m1 m' h hn hc hr;refine⟨n1++n2,by rw[a2,a1,aK],d'::ds',λag=>by simp only[wZ,aK,b1,b2],⟨hs1::hs2,o1++o2,gT p1 p2,?_⟩,λj hj=>?_⟩
  ·have:=q1 [];rw[append_nil]at this;simp only[aC,Gi,this,ah,q2]
  ·simp only[aC,flatten_cons,aV]at hj;exact hj.elim (r1 j) (r2 j)
 |[],_::_,m,m',h,_,_,_=>by simp[Iq]at h
 |_::_,[],m,m',h,_,_,_=>by simp[Iq]at h
theorem mD:∀(os:List (Nat×OP X.ι))(m m':MG X),EY get os m=some m'->fR m m'/\∃aq,m'.ev=m.ev++aq/\aq.length=(cA os).length
 |[],m,m',h=>by
  simp only[EY,aA]at h;subst h;exact⟨fR.refl _,[],by simp,rfl⟩
 |(k,op)::r,m,m',h=>by
  simp only[EY]at h;rw[ai]at h;obtain⟨o,h1,h⟩:=h;split at h
  ·rename_i c c' l;rw[ai]at h;obtain⟨l',h2,h⟩:=h;obtain⟨a2,n2,b2,c2⟩:=mD r _ m' h;refine⟨fR.trans (b:=⟨m.nm++[(p0 m k,k)],m.ev++[⟨.sl c,l'⟩],m.ip,m.vr⟩) ⟨λ _ h=>by simp[h],λ_ h=>h,λ_ h=>h⟩ a2,[⟨.sl c,l'⟩]++n2,?_,by simp[cA,c2]⟩;rw[b2,aK]
  ·rename_i kc vc tf s9 l;split at h
   ·rw[ai]at h;obtain⟨l',h2,h⟩:=h;obtain⟨a2,n2,b2,c2⟩:=mD r _ m' h;refine⟨fR.trans (b:=⟨m.nm++[(p0 m k,k)],m.ev++[⟨.mp kc vc,l'⟩],m.ip,m.vr⟩) ⟨λ _ h=>by simp[h],λ_ h=>h,λ_ h=>h⟩ a2,[⟨.mp kc vc,l'⟩]++n2,?_,by simp[cA,c2]⟩;rw[b2,aK]
   ·cases h
  ·rename_i sz rows sz' rows';split at h
   ·rw[ai]at h;obtain⟨m1,h2,h⟩:=h;obtain⟨a1,n1,b1,c1⟩:=Aj rows _ _ m1 h2;have⟨a2,n2,b2,c2⟩:=mD r m1 m' h;refine⟨fR.trans (fR.trans (b:=⟨m.nm++[(p0 m k,k)],m.ev,m.ip,m.vr⟩) ⟨λ _ h=>by simp[h],λ_ h=>h,λ_ h=>h⟩ a1) a2,n1++n2,?_,by simp[cA,c1,c2]⟩;rw[b2,b1,aK]
   ·cases h
  ·cases h
theorem Gv:∀(os:List (Nat×OP X.ι))(m m':MG X),EY get os m=some m'->(∀ q∈m'.nm,q∈NM)->∃aq,m'.ev=m.ev++aq/\∀ag,∀k∈os.map (·.1),∃k' o,(k',k)∈NM/\get k'=some o/\∀c l,o= .de c l->(k,List.length l)∈lens os (aq++ag)
 |[],m,m',h,_=>by
  simp only[EY,aA]at h;subst h;exact⟨[],by simp,λag k hk=>by simp at hk⟩
 |(k,op)::r,m,m',h,hn=>by
  simp only[EY]at h;rw[ai]at h;obtain⟨o,h1,h⟩:=h;split at h
  ·rename_i c c' l;rw[ai]at h;obtain⟨l',h2,h⟩:=h;have hm:=(mD r _ m' h).1;obtain⟨n2,b2,c2⟩:=Gv r _ m' h hn;refine⟨[⟨.sl c,l'⟩]++n2,by rw[b2,aK],λag j hj=>?_⟩;simp only[aC,aO]at hj;simp only[aK,cons_append,bO,lens];by_cases hjk:j=k
   ·subst hjk;refine⟨_,_,hn _ (hm.1 _ (by simp)),h1,λc2 l2 he=>?_⟩;injection he with e1 e2;subst e1;have e2:=eq_of_heq e2;subst e2;have:=congrArg List.length (ji h2).2;simp only[length_map]at this;rw[this];exact List.mem_cons_self
   ·rcases hj with rfl |hj
    ·exact(hjk rfl).elim
    ·have⟨k',o',g1,g2,g3⟩:=c2 ag j hj;exact⟨k',o',g1,g2,λc l he=>eF _ (g3 c l he)⟩
  ·rename_i kc vc tf s9 l;split at h
   ·rw[ai]at h;obtain⟨l',h2,h⟩:=h;have hm:=(mD r _ m' h).1;obtain⟨n2,b2,c2⟩:=Gv r _ m' h hn;refine⟨[⟨.mp kc vc,l'⟩]++n2,by rw[b2,aK],λag j hj=>?_⟩;simp only[aC,aO]at hj;simp only[aK,cons_append,bO,lens,List.drop_succ_cons,List.drop_zero];by_cases hjk:j=k
    ·subst hjk;exact⟨_,_,hn _ (hm.1 _ (by simp)),h1,λc2 l2 he=>by cases he⟩
    ·rcases hj with rfl |hj
     ·exact(hjk rfl).elim
     ·exact c2 ag j hj
   ·cases h
  ·rename_i sz rows sz' rows';split at h
   ·have⟨m1,h2,h⟩:=ai.1 h;obtain⟨a1,n1,b1,c1⟩:=Aj rows _ _ m1 h2;have hm:=(mD r _ m' h).1;obtain⟨n2,b2,c2⟩:=Gv r _ m' h hn;refine⟨n1++n2,by rw[b2,b1,aK],λag j hj=>?_⟩;simp only[aC,aO]at hj;have hd:(n1++n2++ag).drop (wX rows).length=n2++ag:=(by rw[<- c1,aK,List.drop_left]);simp only[lens,hd];by_cases hjk:j=k
    ·subst hjk;exact⟨_,_,hn _ (hm.1 _ (a1.1 _ (by simp))),h1,λc2 l2 he=>by cases he⟩
    ·rcases hj with rfl |hj
     ·exact(hjk rfl).elim
     ·exact c2 ag j hj
   ·cases h
  ·cases h
theorem Gw:∀(os:List (Nat×OP X.ι))(L:List (DC X)),((lens os L).map (·.1)).Sublist (os.map (·.1))
 |[],_=>by simp[lens]
 |(k,.l c)::r,L=>by
  simp only[lens];split
  ·exact(Gw r _).cons_cons _
  ·exact List.nil_sublist _
 |(k,.m kc vc)::r,L=>by
  simp only[lens];exact(Gw r _).cons _
 |(k,.c sz rows)::r,L=>by
  simp only[lens];exact(Gw r _).cons _
def aix(get':Nat->Option aU)(NM:List (Nat×Nat))(px:List Nat)(bs:List OB)(ks:List Nat):Prop:=
 ∀(j:Nat) hs q o,bs[j]? =some (.C2 hs)->ks[j]? =some q->get' q=some o->∀k∈VY o,(∃ z,(k,z)∈NM)\/k∈px
theorem OD{sz:Nat}{rows:List (List (DV X))}{k:Nat}(h:k∈VY (bF (.cells sz rows))):k∈(rows.map aS).flatten:=by
 simp only[VY,bF,List.mem_flatMap,mem_map]at h;obtain⟨a,⟨r,hr,rfl⟩,hk⟩:=h;rw[iq]at hk;exact List.mem_flatten.2 ⟨_,mem_map.2 ⟨r,hr,rfl⟩,hk⟩
theorem Cs(hi:∀q∈NM,ae[q.2]? =some q.1)(hv:∀k∈px,k∉ae)(hrd:∀k,(∃ q,(k,q)∈NM)\/k∈px->k∈rd)(ho:∀q∈NM,∀c l,get q.1=some (.de c l)->dt q.2=l.length):
 ∀(os:List (Nat×OP X.ι))(m m':MG X),EY get os m=some m'->(∀ q∈m'.nm,q∈NM)->(∀ c∈m'.ip,c=true)->(∀ k∈m'.vr,k∈px)->
 ∃aq,m'.ev=m.ev++aq/\∃xs:List (Nat×br X),(∀ ag,bX dt os (aq++ag)=xs.map λp=>(p.1,some p.2))/\
  ∃bs mo,(∀ p∈mo,p)/\JO P (dD rd (fB get)) ae (os.map λp=>(ae[p.1]?).getD 0) bs=some (xs.map λp=>bF p.2,mo)/\aix (dD rd (fB get)) NM px bs (os.map λp=>(ae[p.1]?).getD 0)
 |[],m,m',h,_,_,_=>by
  simp only[EY,aA]at h;subst h;exact⟨[],by simp,[],λag=>rfl,[],[],by simp,rfl,λj hs q o h=>by simp at h⟩
 |(k,op)::r,m,m',h,hn,hc,hr=>by
  simp only[EY]at h;rw[ai]at h;obtain⟨o,h1,h⟩:=h;split at h
  ·rename_i c c' l;have⟨l',h2,h⟩:=ai.1 h;have hm:=(mD r _ m' h).1;have hq:(p0 m k,k)∈NM:=hn _ (hm.1 _ (by simp));have hid:(ae[k]?).getD 0=p0 m k:=(by rw[hi _ hq];rfl);have hget:=dM (hrd (p0 m k) (.inl ⟨k,hq⟩)) h1;have⟨h3,h4⟩:=ji h2;obtain⟨n2,a2,xs,b2,bs,mo,p2,q2,r2⟩:=Cs hi hv hrd ho r _ m' h hn hc hr;refine⟨[⟨.sl c,l'⟩]++n2,by rw[a2,aK],(k,.de c l')::xs,λag=>by simp only[aK,cons_append,bO,bX,b2,aC],.dat (CT.sz X c,l'.map (CT.row X.toSE c))::bs,((bF (.de c' l)).sz=CT.sz X c/\dS ((bF (.de c' l)).rows.take (l'.map (CT.row X.toSE c)).length)=aL (l'.map (CT.row X.toSE c)))::mo,?_,?_,?_⟩
   ·intro p hp;rcases aO.1 hp with rfl |hp
    ·refine⟨h3,?_⟩;simp only[bF,h4];rw[take_of_length_le (by simp[aL])];simp[dS,aL,Function.comp_def,wk]
    ·exact p2 p hp
   ·simp only[aC,JO,DS,hid,hget,ah,q2,cons_append,bO];rfl
   ·intro j hs q o' hj hq' ho';cases j with
    |zero=>simp at hj
    |succ j=>exact r2 j hs q o' (by simpa using hj) (by simpa using hq') ho'
  ·rename_i kc vc tf s9 l;split at h
   ·rename_i hone;have⟨l',h2,h⟩:=ai.1 h;have hm:=(mD r _ m' h).1;have hq:(p0 m k,k)∈NM:=hn _ (hm.1 _ (by simp));have hid:(ae[k]?).getD 0=p0 m k:=(by rw[hi _ hq];rfl);have hget:=dM (hrd (p0 m k) (.inl ⟨k,hq⟩)) h1;have hden:bF (.map tf s9 l)=bF (.map kc vc l'):=by
     have⟨e,h2⟩:=mq h2;injection e with e1 e2;subst e1;subst e2;subst h2;rfl
    have hab:bF (.map kc vc l')=hZ (List.length l',l'.map λq=>CT.row X.toSE kc q.1++CT.row X.toSE vc q.2):=by
     simp only[bF,hZ,aL,map_map];congr 1;refine map_congr_left λq _=>?_;obtain⟨t1,g1,g2⟩:=row_one hone.1 q.1;obtain⟨t2,g3,g4⟩:=row_one hone.2 q.2;simp[g1,g2,g3,g4,TV.av]
    obtain⟨n2,a2,xs,b2,bs,mo,p2,q2,r2⟩:=Cs hi hv hrd ho r _ m' h hn hc hr;refine⟨[⟨.mp kc vc,l'⟩]++n2,by rw[a2,aK],(k,.map kc vc l')::xs,λag=>by simp only[aK,cons_append,bO,bX,b2,aC],.dat (List.length l',l'.map λq=>CT.row X.toSE kc q.1++CT.row X.toSE vc q.2)::bs,((bF (.map tf s9 l)).sz=List.length l'/\dS ((bF (.map tf s9 l)).rows.take (l'.map λq=>CT.row X.toSE kc q.1++CT.row X.toSE vc q.2).length)=aL (l'.map λq=>CT.row X.toSE kc q.1++CT.row X.toSE vc q.2))::mo,?_,?_,?_⟩
    ·intro p hp;rcases aO.1 hp with rfl |hp
     ·rw[hden,hab];refine⟨rfl,?_⟩;simp only[hZ];rw[take_of_length_le (by simp[aL])];simp[dS,aL,Function.comp_def,wk]
     ·exact p2 p hp
    ·simp only[aC,JO,DS,hid,hget,ah,q2,cons_append,bO,hab]
    ·intro j hs q o' hj hq' ho';cases j with
     |zero=>simp at hj
     |succ j=>exact r2 j hs q o' (by simpa using hj) (by simpa using hq') ho'
   ·cases h
  ·rename_i sz rows sz' rows';split at h
   ·rename_i hsz;have⟨m1,h2,h⟩:=ai.1 h;have hm1:=(Aj rows _ _ m1 h2).1;have hm:=(mD r _ m' h).1;have hq:(p0 m k,k)∈NM:=hn _ (hm.1 _ (hm1.1 _ (by simp)));have hid:(ae[k]?).getD 0=p0 m k:=(by rw[hi _ hq];rfl);have hget:=dM (hrd (p0 m k) (.inl ⟨k,hq⟩)) h1;obtain⟨n1,a1,qs,b1,⟨hs1,o1,p1,q1⟩,r1⟩:=S9 (P:=P) hi hv hrd ho rows _ _ m1 h2 (λ q hq=>hn q (hm.1 q hq)) (λ q hq=>hc q (hm.2.1 q hq)) (λ q hq=>hr q (hm.2.2 q hq));obtain⟨n2,a2,xs,b2,bs,mo,p2,q2,r2⟩:=Cs hi hv hrd ho r _ m' h hn hc hr;subst hsz;refine⟨n1++n2,by rw[a2,a1,aK],(k,.cells sz qs)::xs,λag=>by simp only[aK,bX,b1,b2,aC],.C2 hs1::bs,o1++mo,gT p1 p2,?_,?_⟩
    ·simp only[aC,JO,DS,hid,hget,ah,bF,q1,q2]
    ·intro j hs q o' hj hq' ho';cases j with
     |zero=>
      simp only[aC,List.getElem?_cons_zero,aA]at hq';rw[<- hq',hid,hget]at ho';injection ho' with ho';subst ho';exact λz hz=>r1 z (OD hz)
     |succ j=>exact r2 j hs q o' (by simpa using hj) (by simpa using hq') ho'
   ·cases h
  ·cases h
end
end
end Go.Gb
