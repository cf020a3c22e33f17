import Derived.Test.YtoiaceohobeemaaGreatW2
import Derived.ChangeSame
import Derived.Carry
import Derived.OpenShut
import Derived.SizedLaws
import Derived.WalkKit
import Derived.ProofKit
import Derived.Lib.LaidTab
open List (mem_map all_eq_true cons_append length_map append_nil map_map take_of_length_le map_congr_left flatten_cons map_nil all_cons map_take map_drop map_append)
namespace Go.Gb
open Go.RowKit Go.WideShapes Go.ChangeShapes
inductive CS where
 |int (k:IntKind)
 |bool
 |str
 |sl (row:List CS)
 |any
  |mu (row:List CS)
 |back
def aoC:CS->Tree->Prop
 | .int k,x=>∃n,x= .sc (.int k n)/\(Lit.int k n).wf=true
 | .bool,x=>∃b,x= .sc (.bool b)
 | .str,x=>∃s,x= .sc (.string s)/\s.size<=maxLen
 |_,_=>False
def an6:CS->Nat
 | .int .i64=>8
 | .int _=>1
 | .bool=>1
 | .str=>16
 |_=>24
def Ly:CS->Nat
 | .int .i64=>8
 | .int _=>1
 | .bool=>1
 |_=>8
def SU:Nat->List CS->Nat
 |o,[]=>o
 |o,c::cs=>SU ((o+(Ly c -1))/Ly c*Ly c+an6 c) cs
def Kf(r:List CS):Nat:=bif r.any (λ c=>Ly c==8)then(SU 0 r+7)/8*8 else SU 0 r
mutual
inductive Fi(row:List CS):Tree->Prop
 |mk (rows:List (List Tree)) (hl:rows.length<=maxLen) (h:pg row rows):Fi row (.sl rows)
inductive pg(row:List CS):List (List Tree)->Prop
 |nil:pg row []
 |cons {r:List Tree} {rs:List (List Tree)} (h:jp row row r) (t:pg row rs):pg row (r::rs)
inductive jp(row:List CS):List CS->List Tree->Prop
 |nil:jp row [] []
 |back {cs:List CS} {x:Tree} {xs:List Tree} (h:Fi row x) (t:jp row cs xs):jp row (.back::cs) (x::xs)
 |one {c:CS} {cs:List CS} {x:Tree} {xs:List Tree} (h:aoC c x) (t:jp row cs xs):jp row (c::cs) (x::xs)
end
mutual
def Fit:CS->Tree->Prop
 | .int k,x=>∃n,x= .sc (.int k n)/\(Lit.int k n).wf=true
 | .bool,x=>∃b,x= .sc (.bool b)
 | .str,x=>∃s,x= .sc (.string s)/\s.size<=maxLen
 | .sl row,x=>∃rows,x= .sl rows/\(rows.length<=maxLen/\rows.length*Kf row<=reachBytes)/\∀r∈rows,cX row r
 | .any,_=>True
 | .mu row,x=>Fi row x
 | .back,_=>False
def cX:List CS->List Tree->Prop
 |[],[]=>True
 |c::cs,x::xs=>Fit c x/\cX cs xs
 |_,_=>False
end
mutual
def nr:Tree->Nat
 | .sc (.string s)=>s.size+1
 | .sc _=>1
 | .sl rows=>Dt rows+1
def Dt:List (List Tree)->Nat
 |[]=>0
 |r::rs=>jF r+Dt rs
def jF:List Tree->Nat
 |[]=>0
 |x::xs=>nr x+jF xs
end
theorem Cx:∀a b:List Tree,jF (a++b)=jF a+jF b
 |[],b=>by simp[jF]
 |x::a,b=>by simp only[cons_append,jF,Cx a b];omega
structure Bk(H:Type) where
 b:DataW H->Nat
 a:List (DataW H)->Nat
 str:∀l,b (.lit (.string l))=l.length+1
 int:∀k n,b (.lit (.int k n))=1
 bool:∀v,b (.lit (.bool v))=1
 nil:b .nil=1
 sl:∀e s,b (.slice e s)=a e+a s+1
 agg:∀p,b (.agg p)=a p+1
 a0:a []=0
 a1:∀d r,a (d::r)=b d+a r
theorem Bk.app{H:Type}(K:Bk H)(l r:List (DataW H)):K.a (l++r)=K.a l+K.a r:=by
 induction l with
 |nil=>simp[K.a0]
 |cons x l ih=>simp only[cons_append,K.a1,ih];omega
theorem Bk.drop{H:Type}(K:Bk H){l:List (DataW H×List MemPlace)}{j:Nat}{y:DataW H×List MemPlace}(h:l[j]? =some y):K.a ((l.map (·.1)).drop j)=K.b y.1+K.a ((l.map (·.1)).drop (j+1)):=by
 obtain⟨hj,rfl⟩:=dm.1 h;rw[List.drop_eq_getElem_cons (by simpa using hj),K.a1];simp
def wd(P:Program)(go:TypeId->Option (List CS)):Nat->List Field->Option (List CS)
 |_,[]=>some []
 |o,f::fs=>(go f.type).bind λa=>if f.offset=o/\a.length=P.cellsOf f.type then(wd P go (o+a.length) fs).map (a++ ·)else none
def VM(P:Program)(t u:TypeId):Option (List CS):=if u=t then some [.back]else match P.underlying u with
 |some (.int k)=>some [.int k]
 |some .bool=>some [.bool]
 |some .string=>some [.str]
 |_=>none
def Lw(P:Program)(t e:TypeId):Option (List CS):=match P.underlying e with
 |some (.struct fs)=>(wd P (VM P t) 0 fs.toList).bind λr=>if r.length=P.cellsOf e/\0<r.length then some r else none
 |_=>none
def wi(P:Program)(cut:List TypeId):Nat->TypeId->Option (List CS)
 | 0,_=>none
 |n+1,t=>match P.underlying t with
  |some (.int k)=>some [.int k]
  |some .bool=>some [.bool]
  |some .string=>some [.str]
  |some (.slice e)=>if cut.contains t then(match Lw P t e with |some row=>some [.mu row] |none=>some [.any])else(wi P cut n e).bind λr=>if r.length=P.cellsOf e/\0<r.length/\Kf r<=P.bytesOf e then some [.sl r]else none
  |some (.struct fs)=>(wd P (wi P cut n) 0 fs.toList).bind λr=>if r.length=P.cellsOf t then some r else none
  |some (.array m e)=>(wi P cut n e).bind λr=>if r.length=P.cellsOf e/\m*r.length=P.cellsOf t then some (List.replicate m r).flatten else none
  |_=>none
theorem cX.length:∀(cs:List CS)(ts:List Tree),cX cs ts->ts.length=cs.length
 |[],[],_=>rfl
 |c::cs,x::xs,h=>by simp only[cX]at h;simp[cX.length cs xs h.2]
 |[],_::_,h=>by simp[cX]at h
 |_::_,[],h=>by simp[cX]at h
theorem cX.append:∀(cs:List CS)(ts:List Tree){cs':List CS}{ts':List Tree},cX cs ts->cX cs' ts'->cX (cs++cs') (ts++ts')
 |[],[],_,_,_,h=>h
 |c::cs,x::xs,_,_,h,h'=>by simp only[cX,cons_append]at h ⊢;exact⟨h.1,cX.append cs xs h.2 h'⟩
 |[],_::_,_,_,h,_=>by simp[cX]at h
 |_::_,[],_,_,h,_=>by simp[cX]at h
def Here(w:World)(b:Nat):Prop:=b<w.heap.size
section
variable {w:World} {I:Nat->Prop}
theorem eK.append:∀(ts:List Tree)(cs:List Value){ts':List Tree}{cs':List Value},eK w I ts cs->eK w I ts' cs'->eK w I (ts++ts') (cs++cs')
 |[],[],_,_,_,h=>h
 |_::xs,_::vs,_,_,h,h'=>⟨h.1,eK.append xs vs h.2 h'⟩
 |[],_::_,_,_,h,_=>h.elim
 |_::_,[],_,_,h,_=>h.elim
theorem eK.length:∀(ts:List Tree)(cs:List Value),eK w I ts cs->ts.length=cs.length
 |[],[],_=>rfl
 |_::xs,_::vs,h=>by simp[eK.length xs vs h.2]
 |[],_::_,h=>h.elim
 |_::_,[],h=>h.elim
theorem W8:∀(ts:List Tree)(cs:List Value)(b aa:Nat),eK w I ts cs->(∀ i,i<cs.length->w.cell? ⟨b,aa+i,none⟩=cs[i]?)->dk w I ts b aa
 |[],[],_,_,_,_=>by simp[dk]
 |x::xs,v::vs,b,aa,h,hc=>by
  simp only[dk];refine⟨⟨v,by simpa using hc 0 (by simp),h.1⟩,W8 xs vs b (aa+1) h.2 λi hi=>?_⟩;have:=hc (i+1) (by simpa using hi);rw[show aa+(i+1)=aa+1+i by omega]at this;simpa using this
 |[],_::_,_,_,h,_=>h.elim
 |_::_,[],_,_,h,_=>h.elim
end
section
variable {H:Type} {enc:TypeId×Value->H} {P:Program} {w:World} {sp:Nat->Bool} {held:Bool}
theorem Rf{a:Addr}{v:Value}(h:w.cell? a=some v):a.spot=none/\a.block<w.heap.size:=by
 simp only[World.cell?]at h;split at h
 ·rename_i c e st hc;split at h
  ·cases h
  ·rename_i hs;exact⟨by simpa using hs,(Array.getElem?_eq_some_iff.1 hc).1⟩
 ·cases h
def MY(P:Program)(t:TypeId)(x:DataW H×List MemPlace):Prop:=∀k∈x.1.weights P t,k<=reachBytes
theorem Ak{e:TypeId}:∀{l:List (DataW H)}{d:DataW H},d∈l->∀k∈d.weights P e,k∈DataW.weightsAll P e l
 |a::l,d,h,k,hk=>by
  simp only[DataW.weightsAll,aX];rcases aN.1 h with rfl |h
  ·exact .inl hk
  ·exact .inr (Ak h k hk)
theorem bsize(v:ByteArray):v.data.toList.length=v.size:=by rw[Array.length_toList];rfl
theorem Tq(m:Nat)(cs:List Value)(go:TypeId->Option (List CS))(hgo:∀t sh,go t=some sh->∀cs x,DataW.trod enc P w 0 sp held m t cs=some x->MY P t x->∃ts,eK w (Here w) ts cs/\cX sh ts/\∀K:Bk H,jF ts<=K.b x.1):
 ∀(fs:List Field)(l:List (DataW H×List MemPlace))(o:Nat)(sh:List CS),wd P go o fs=some sh->l.length=fs.length->(∀ (i:Nat) (f:Field) (x:DataW H×List MemPlace),fs[i]? =some f->l[i]? =some x->DataW.trod enc P w 0 sp held m f.type ((cs.drop f.offset).take (P.cellsOf f.type))=some x/\MY P f.type x)->
  ∃ts,eK w (Here w) ts ((cs.drop o).take sh.length)/\cX sh ts/\∀K:Bk H,jF ts<=K.a (l.map (·.1))
 |[],l,o,sh,h,_,_=>by
  simp only[wd,aA]at h;subst h;exact⟨[],by simp[eK],by simp[cX],λK=>by simp[jF]⟩
 |f::fs,[],o,sh,h,hl,hf=>by simp at hl
 |f::fs,x::l,o,sh,h,hl,hf=>by
  simp only[wd,ai]at h;obtain⟨a,h1,h2⟩:=h;split at h2
  ·rename_i hc;obtain⟨hc1,hc2⟩:=hc;simp only[eU]at h2;obtain⟨r,h3,rfl⟩:=h2;have⟨hx,hz⟩:=hf 0 f x rfl rfl;obtain⟨ts,g1,g2,k1⟩:=hgo _ _ h1 _ _ hx hz;obtain⟨ts',g3,g4,k2⟩:=Tq m cs go hgo fs l _ _ h3 (by simpa using hl) λi f' x' hf' hx'=>hf (i+1) f' x' hf' hx';refine⟨ts++ts',?_,cX.append _ _ g2 g4,λK=>by have:=k1 K;have:=k2 K;rw[Cx,aC,K.a1];omega⟩;rw[dH,List.take_add,List.drop_drop];rw[hc1,<- hc2]at g1;exact eK.append _ _ g1 g3
  ·cases h2
theorem jp.append{row:List CS}:∀{a b:List CS}{x y:List Tree},jp row a x->jp row b y->jp row (a++b) (x++y)
 |_,_,_,_,.nil,h=>h
 |_,_,_,_,.back h t,h'=> .back h (t.append h')
 |_,_,_,_,.one h t,h'=> .one h (t.append h')
theorem OO{row:List CS}(m:Nat)(cs:List Value)(go:TypeId->Option (List CS))(hgo:∀t sh,go t=some sh->∀cs x,DataW.trod enc P w 0 sp held m t cs=some x->∃ts,eK w (Here w) ts cs/\jp row sh ts/\∀K:Bk H,jF ts<=K.b x.1):
 ∀(fs:List Field)(l:List (DataW H×List MemPlace))(o:Nat)(sh:List CS),wd P go o fs=some sh->l.length=fs.length->(∀ (i:Nat) (f:Field) (x:DataW H×List MemPlace),fs[i]? =some f->l[i]? =some x->DataW.trod enc P w 0 sp held m f.type ((cs.drop f.offset).take (P.cellsOf f.type))=some x)->
  ∃ts,eK w (Here w) ts ((cs.drop o).take sh.length)/\jp row sh ts/\∀K:Bk H,jF ts<=K.a (l.map (·.1))
 |[],l,o,sh,h,_,_=>by
  simp only[wd,aA]at h;subst h;exact⟨[],by simp[eK],.nil,λK=>by simp[jF]⟩
 |f::fs,[],o,sh,h,hl,hf=>by simp at hl
 |f::fs,x::l,o,sh,h,hl,hf=>by
  simp only[wd,ai]at h;obtain⟨a,h1,h2⟩:=h;split at h2
  ·rename_i hc;obtain⟨hc1,hc2⟩:=hc;simp only[eU]at h2;obtain⟨r,h3,rfl⟩:=h2;have hx:=hf 0 f x rfl rfl;obtain⟨ts,g1,g2,k1⟩:=hgo _ _ h1 _ _ hx;obtain⟨ts',g3,g4,k2⟩:=OO m cs go hgo fs l _ _ h3 (by simpa using hl) λi f' x' hf' hx'=>hf (i+1) f' x' hf' hx';refine⟨ts++ts',?_,g2.append g4,λK=>by have:=k1 K;have:=k2 K;rw[Cx,aC,K.a1];omega⟩;rw[dH,List.take_add,List.drop_drop];rw[hc1,<- hc2]at g1;exact eK.append _ _ g1 g3
  ·cases h2
theorem al7{t e:TypeId}{row:List CS}(hk:P.underlying t=some (.slice e))(hm:Lw P t e=some row):∀(fuel:Nat)(cs:List Value)(x:DataW H×List MemPlace),DataW.trod enc P w 0 sp held fuel t cs=some x->∃tr,eK w (Here w) [tr] cs/\Fi row tr/\∀K:Bk H,nr tr<=K.b x.1:=by
 intro fuel
 induction fuel using Nat.strongRecOn with
 |_ fuel ih=>
 intro cs x hx;have one:∀m,m<fuel->∀s6 y,DataW.trod enc P w 0 sp held m e s6=some y->∃ts,eK w (Here w) ts s6/\jp row row ts/\ts.length=row.length/\∀K:Bk H,jF ts<=K.b y.1:=by
  intro m hmf s6 y hy;unfold Lw at hm;split at hm
  ·rename_i fs hke;simp only[ai]at hm;obtain⟨r,h1,h2⟩:=hm;split at h2
   ·rename_i hr;injection h2 with h2;subst h2;obtain⟨xs,m',hm',rfl,hl,hxs,hf⟩:=DataW.trod_struct hke hy;obtain⟨ts,g1,g2,k1⟩:=OO (row:=r) m' s6 (VM P t) (λ u sh hsh cs x hx=>by
     unfold VM at hsh;split at hsh
     ·rename_i hu;cases hsh;rw[hu]at hx;obtain⟨tr,a1,a2,a3⟩:=ih m' (by omega) cs x hx;exact⟨[tr],a1,.back a2 .nil,λK=>by have:=a3 K;simp only[jF];omega⟩
     ·split at hsh
      ·rename_i k zt;cases hsh;obtain⟨v,rfl,rfl,hw⟩:=DataW.trod_int zt hx;exact⟨[.sc (.int k v)],by simp[eK,TR,oneCell],.one ⟨v,rfl,hw⟩ .nil,λK=>by simp[jF,nr,K.int]⟩
      ·rename_i zt;cases hsh;obtain⟨v,rfl,rfl⟩:=DataW.trod_bool zt hx;exact⟨[.sc (.bool v)],by simp[eK,TR,oneCell],.one ⟨v,rfl⟩ .nil,λK=>by simp[jF,nr,K.bool]⟩
      ·rename_i zt;cases hsh;obtain⟨v,rfl,rfl,hw⟩:=DataW.trod_string zt hx;exact⟨[.sc (.string v)],by simp[eK,TR,oneCell],.one ⟨v,rfl,hw⟩ .nil,λK=>by simp[jF,nr,K.str,bsize]⟩
      ·cases hsh) fs.toList xs 0 r h1 (by simpa using hxs) (λ i f x hi hxi=>by
     have hi':fs[i]? =some f:=(by simpa using hi);rw[hf i f hi',hxi])
    rw[List.drop_zero,take_of_length_le (by omega)]at g1;refine⟨ts,g1,g2,?_,λK=>by have:=k1 K;rw[K.agg];omega⟩;rw[eK.length _ _ g1];omega
   ·cases h2
  ·cases hm
 have rl:row.length=P.cellsOf e/\0<row.length:=by
  unfold Lw at hm;split at hm
  ·simp only[ai]at hm;obtain⟨r,h1,h2⟩:=hm;split at h2
   ·rename_i hr;cases h2;exact hr
   ·cases h2
  ·cases hm
 rcases DataW.trod_slice hk hx with ⟨rfl,rfl⟩ |⟨a,len,cap,elems,ag,m,hfm,rfl,rfl,_,hl,hmx,hlen,hel,_,_⟩
 ·refine⟨.sl [],?_,.mk [] (by simp[maxLen]) .nil,λK=>by simp[nr,Dt,K.nil]⟩;simp only[eK,TR];exact⟨.inl ⟨trivial,none,0,rfl,λ_=>rfl⟩,trivial⟩
 ·have each:∀i,i<len->∃s6 y,w.cells? 0 (a.add (i*P.cellsOf e)) (P.cellsOf e)=some s6/\DataW.trod enc P w 0 sp held m e s6=some y/\elems[i]? =some y:=by
   intro i hi;have h3:=hel i hi;have h6:elems[i]? =some (elems[i]'(by omega)):=dI (by omega);rw[h6,ai]at h3;obtain⟨s6,h4,h5⟩:=h3;exact⟨s6,_,h4,h5,h6⟩
  by_cases h0:len=0
  ·subst h0;refine⟨.sl [],?_,.mk [] (by simp[maxLen]) .nil,λK=>by simp[nr,Dt,K.sl]⟩;simp only[eK,TR];exact⟨.inl ⟨trivial,some a,cap,rfl,λh=>by cases h⟩,trivial⟩
  ·obtain⟨cs0,y0,c0,_,_⟩:=each 0 (by omega);obtain⟨_,c1,c2⟩:=World.cells?_some c0;have c3:=c2 0 (by omega);rw[dI (by omega)]at c3;have c4:=Rf c3;simp only[Nat.zero_mul,Addr.add,if_true]at c4;obtain⟨b,aa,s⟩:=a;simp only at c4;obtain⟨rfl,hb⟩:=c4;have rows:∀q j,j+q=len->∃rows:List (List Tree),rows.length=q/\ct w (Here w) rows b (aa+j*P.cellsOf e) (P.cellsOf e)/\pg row rows/\∀K:Bk H,Dt rows<=K.a ((elems.map (·.1)).drop j):=by
    intro q
    induction q with
    |zero=>intro j _;exact⟨[],rfl,by simp[ct],.nil,λK=>by simp[Dt]⟩
    |succ q ihq=>
     intro j hj;obtain⟨rows,g1,g2,g3,k3⟩:=ihq (j+1) (by omega);obtain⟨csj,y,g4,g5,gy⟩:=each j (by omega);obtain⟨ts,g6,g7,_,k6⟩:=one m (by omega) _ _ g5;obtain⟨_,g8,g9⟩:=World.cells?_some g4;refine⟨ts::rows,by simp[g1],?_,.cons g7 g3,λK=>by have:=k3 K;have:=k6 K;rw[K.drop gy,Dt];omega⟩;simp only[ct];refine⟨(eK.length _ _ g6).trans g8,W8 _ _ _ _ g6 λi hi=>?_,?_⟩
     ·rw[<- g9 i (by omega),addr_add,addr_add]
     ·rw[show aa+j*P.cellsOf e+P.cellsOf e=aa+(j+1)*P.cellsOf e by rw[Nat.add_mul];omega];exact g2
   obtain⟨rows,g1,g2,g3,k3⟩:=rows len 0 (by omega);refine⟨.sl rows,?_,.mk rows (by omega) g3,λK=>by have:=k3 K;rw[List.drop_zero]at this;rw[K.sl,nr];omega⟩;simp only[eK,TR];exact⟨.inr ⟨b,aa,cap,P.cellsOf e,by rw[g1],by omega,hb,by simpa using g2⟩,trivial⟩
theorem Gz{cut:List TypeId}:∀(n:Nat)(t:TypeId)(sh:List CS),wi P cut n t=some sh->∀(fuel:Nat)(cs:List Value)(x:DataW H×List MemPlace),DataW.trod enc P w 0 sp held fuel t cs=some x->MY P t x->
 ∃ts,eK w (Here w) ts cs/\cX sh ts/\∀K:Bk H,jF ts<=K.b x.1
 | 0,_,_,h,_,_,_,_,_=>by simp[wi]at h
 |n+1,t,sh,h,fuel,cs,x,hx,hz=>by
  unfold wi at h;split at h
  ·rename_i k hk;cases h;obtain⟨v,rfl,rfl,hw⟩:=DataW.trod_int hk hx;exact⟨[.sc (.int k v)],by simp[eK,TR,oneCell],by simp only[cX,Fit];exact⟨⟨v,rfl,hw⟩,trivial⟩,λK=>by simp[jF,nr,K.int]⟩
  ·rename_i hk;cases h;obtain⟨v,rfl,rfl⟩:=DataW.trod_bool hk hx;exact⟨[.sc (.bool v)],by simp[eK,TR,oneCell],by simp only[cX,Fit];exact⟨⟨v,rfl⟩,trivial⟩,λK=>by simp[jF,nr,K.bool]⟩
  ·rename_i hk;cases h;obtain⟨v,rfl,rfl,hw⟩:=DataW.trod_string hk hx;exact⟨[.sc (.string v)],by simp[eK,TR,oneCell],by simp only[cX,Fit];exact⟨⟨v,rfl,hw⟩,trivial⟩,λK=>by simp[jF,nr,K.str,bsize]⟩
  ·rename_i e hk;split at h
   ·split at h
    ·rename_i row hmr;cases h;have⟨tr,g1,g2,k1⟩:=al7 hk hmr fuel cs x hx;exact⟨[tr],g1,by simp only[cX,Fit];exact⟨g2,trivial⟩,λK=>by have:=k1 K;simp only[jF];omega⟩
    cases h;rcases DataW.trod_slice hk hx with ⟨rfl,rfl⟩ |⟨a,len,cap,elems,ag,m,_,rfl,rfl,_,hl,hm,hlen,hel,_,_⟩
    ·exact⟨[.sc (.slice none 0 0)],by simp[eK,TR,oneCell],by simp[cX,Fit],λK=>by simp[jF,nr,K.nil]⟩
    ·exact⟨[.sc (.slice (some a) len cap)],by simp[eK,TR,oneCell],by simp[cX,Fit],λK=>by simp[jF,nr,K.sl]⟩
   simp only[ai]at h;obtain⟨r,h1,h2⟩:=h;split at h2
   ·rename_i hr;cases h2;rcases DataW.trod_slice hk hx with ⟨rfl,rfl⟩ |⟨a,len,cap,elems,ag,m,_,rfl,rfl,_,hl,hm,hlen,hel,_,_⟩
    ·refine⟨[.sl []],?_,by simp only[cX,Fit];exact⟨⟨[],rfl,by simp[maxLen],by simp⟩,trivial⟩,λK=>by simp[jF,nr,Dt,K.nil]⟩;simp only[eK,TR];exact⟨.inl ⟨trivial,none,0,rfl,λ_=>rfl⟩,trivial⟩
    ·have hzw:∀k,k=(elems.length+ag.length)*P.bytesOf e\/k∈DataW.weightsAll P e (elems.map (·.1))->k<=reachBytes:=by
      intro k hkk;refine hz k ?_;simp only[DataW.weights,hk,aN,aX,length_map];rcases hkk with h |h
      ·exact .inl h
      ·exact .inr (.inl h)
     have each:∀i,i<len->∃s6 y,w.cells? 0 (a.add (i*P.cellsOf e)) (P.cellsOf e)=some s6/\DataW.trod enc P w 0 sp held m e s6=some y/\MY P e y/\elems[i]? =some y:=by
      intro i hi;have h3:=hel i hi;have h6:elems[i]? =some (elems[i]'(by omega)):=dI (by omega);rw[h6,ai]at h3;obtain⟨s6,h4,h5⟩:=h3;exact⟨s6,_,h4,h5,λk hk=>hzw k (.inr (Ak (mem_map.2 ⟨_,List.getElem_mem (by omega),rfl⟩) k hk)),h6⟩
     have hbytes:len*Kf r<=reachBytes:=by
      have h1:=hzw _ (.inl rfl);have h2:len*Kf r<=(elems.length+ag.length)*P.bytesOf e:=Nat.mul_le_mul (by omega) hr.2.2;omega
     by_cases h0:len=0
     ·subst h0;refine⟨[.sl []],?_,by simp only[cX,Fit];exact⟨⟨[],rfl,by simp[maxLen],by simp⟩,trivial⟩,λK=>by simp[jF,nr,Dt,K.sl]⟩;simp only[eK,TR];exact⟨.inl ⟨trivial,some a,cap,rfl,λh=>by cases h⟩,trivial⟩
     ·obtain⟨cs0,y0,c0,_,_,_⟩:=each 0 (by omega);obtain⟨_,c1,c2⟩:=World.cells?_some c0;have c3:=c2 0 (by omega);rw[dI (by omega)]at c3;have c4:=Rf c3;simp only[Nat.zero_mul,Addr.add,if_true]at c4;obtain⟨b,aa,s⟩:=a;simp only at c4;obtain⟨rfl,hb⟩:=c4;have rows:∀m j,j+m=len->∃rows:List (List Tree),rows.length=m/\ct w (Here w) rows b (aa+j*P.cellsOf e) (P.cellsOf e)/\(∀ x∈rows,cX r x)/\∀K:Bk H,Dt rows<=K.a ((elems.map (·.1)).drop j):=by
       intro m
       induction m with
       |zero=>intro j _;exact⟨[],rfl,by simp[ct],by simp,λK=>by simp[Dt]⟩
       |succ m ih=>
        intro j hj;obtain⟨rows,g1,g2,g3,k3⟩:=ih (j+1) (by omega);obtain⟨csj,y,g4,g5,g5z,gy⟩:=each j (by omega);obtain⟨ts,g6,g7,k6⟩:=Gz n e r h1 _ _ _ g5 g5z;obtain⟨_,g8,g9⟩:=World.cells?_some g4;refine⟨ts::rows,by simp[g1],?_,λx hx=>?_,λK=>by have:=k3 K;have:=k6 K;rw[K.drop gy,Dt];omega⟩
        ·simp only[ct];refine⟨(eK.length _ _ g6).trans g8,W8 _ _ _ _ g6 λi hi=>?_,?_⟩
         ·rw[<- g9 i (by omega),addr_add,addr_add]
         ·rw[show aa+j*P.cellsOf e+P.cellsOf e=aa+(j+1)*P.cellsOf e by rw[Nat.add_mul];omega];exact g2
        ·rcases aN.1 hx with rfl |hx
         ·exact g7
         ·exact g3 x hx
      obtain⟨rows,g1,g2,g3,k3⟩:=rows len 0 (by omega);refine⟨[.sl rows],?_,by simp only[cX,Fit];exact⟨⟨rows,rfl,⟨by omega,by rw[g1];exact hbytes⟩,g3⟩,trivial⟩,λK=>by have:=k3 K;rw[List.drop_zero]at this;rw[K.sl];simp only[jF,nr];omega⟩;simp only[eK,TR];exact⟨.inr ⟨b,aa,cap,P.cellsOf e,by rw[g1],by omega,hb,by simpa using g2⟩,trivial⟩
   ·cases h2
  ·rename_i fs hk;simp only[ai]at h;obtain⟨r,h1,h2⟩:=h;split at h2
   ·rename_i hr;injection h2 with h2;subst h2;obtain⟨xs,m,_,rfl,hl,hxs,hf⟩:=DataW.trod_struct hk hx;obtain⟨ts,g1,g2,k1⟩:=Tq m cs (wi P cut n) (λ t sh hsh cs x hx hz=>Gz n t sh hsh m cs x hx hz) fs.toList xs 0 r h1 (by simpa using hxs) (λ i f x hi hxi=>by
     have hi':fs[i]? =some f:=(by simpa using hi);have:=hf i f hi';rw[hxi]at this;refine⟨this,λk hk'=>hz k ?_⟩;simp only[DataW.weights,hk];exact DataW.weights_mem_each (j:=i) (t:=f.type) (d:=x.1) (by simp[hi']) (by simp[hxi]) k hk')
    refine⟨ts,?_,g2,λK=>by have:=k1 K;rw[K.agg];omega⟩;rw[List.drop_zero,take_of_length_le (by omega)]at g1;exact g1
   ·cases h2
  ·rename_i m e hk;simp only[ai]at h;obtain⟨r,h1,h2⟩:=h;split at h2
   ·rename_i hr;cases h2;obtain⟨xs,q,_,rfl,hl,hxs,hf⟩:=DataW.trod_array hk hx;have part:∀i j,j+i=m->∃ts,eK w (Here w) ts (cs.drop (j*P.cellsOf e))/\cX (List.replicate i r).flatten ts/\∀K:Bk H,jF ts<=K.a ((xs.map (·.1)).drop j):=by
     intro i
     induction i with
     |zero=>
      intro j hj;refine⟨[],?_,by simp[cX],λK=>by simp[jF]⟩;have:j=m:=(by omega);subst this;rw[List.drop_of_length_le (by rw[hl,<- hr.2,<- hr.1];omega)];simp[eK]
     |succ i ih=>
      intro j hj;obtain⟨ts,g1,g2,k1⟩:=ih (j+1) (by omega);have:=hf j (by omega);have hxj:xs[j]? =some (xs[j]'(by omega)):=dI (by omega);rw[hxj]at this;obtain⟨ts0,g3,g4,k3⟩:=Gz n e r h1 _ _ _ this (λ k hk'=>hz k (by
       simp only[DataW.weights,hk];exact Ak (mem_map.2 ⟨_,List.getElem_mem (by omega),rfl⟩) k hk'))
      refine⟨ts0++ts,?_,?_,λK=>by have:=k1 K;have:=k3 K;rw[K.drop hxj,Cx];omega⟩
      ·have:=eK.append _ _ g3 g1;rw[show (j+1)*P.cellsOf e=j*P.cellsOf e+P.cellsOf e by rw[Nat.add_mul];omega,<- List.drop_drop,List.take_append_drop]at this;exact this
      ·rw[List.replicate_succ,flatten_cons];exact cX.append _ _ g4 g2
    obtain⟨ts,g1,g2,k1⟩:=part m 0 (by omega);exact⟨ts,by simpa using g1,g2,λK=>by have:=k1 K;rw[List.drop_zero]at this;rw[K.agg];omega⟩
   ·cases h2
  ·cases h
inductive VS where
 |one (c:CS)
 |agg (cs:List CS)
def HS(P:Program)(cut:List TypeId)(t:TypeId):Option VS:=
 (wi P cut 12 t).bind λsh=>match P.underlying t with
  |some (.struct _) |some (.array _ _)=>some (.agg sh)
  |_=>match sh with
   |[c]=>some (.one c)
   |_=>none
def DB:VS->TV->Prop
 | .one c,x=>∃y,x= .s y/\Fit c y
 | .agg cs,x=>∃ys,x= .a ys/\cX cs ys
def WK:List VS->List TV->Prop
 |[],[]=>True
 |s::ss,x::xs=>DB s x/\WK ss xs
 |_,_=>False
def ID:TV->Nat
 | .s y=>nr y
 | .a ys=>jF ys
def WL:List TV->Nat
 |[]=>0
 |x::xs=>ID x+WL xs
theorem akn{cut:List TypeId}{t:TypeId}{s:VS}{v:Value}{d:DataW H}{ps:List MemPlace}{b0:Nat}(hs:HS P cut t=some s)(hval:Value.okWide P w .any b0 t v)(hd:DataW.Trod enc P w 0 sp held t v d ps)(hz:∀k∈d.weights P t,k<=reachBytes):
 ∃x,sx w (Here w) x v/\DB s x/\∀K:Bk H,ID x<=K.b d:=by
 obtain⟨fuel,hf⟩:=hd;simp only[HS,ai]at hs;obtain⟨sh,h1,h2⟩:=hs;obtain⟨ts,g1,g2,k1⟩:=Gz 12 t sh h1 _ _ _ hf hz;have hag:∀cs:Array Value,v= .agg cs->s= .agg sh->∃x,sx w (Here w) x v/\DB s x/\∀K:Bk H,ID x<=K.b d:=by
  rintro cs rfl rfl;exact⟨.a ts,⟨cs,rfl,by simpa[Value.cells]using g1⟩,⟨ts,rfl,g2⟩,k1⟩
 unfold Value.okWide at hval;split at h2
 ·rename_i hu;injection h2 with h2;rw[hu]at hval;obtain⟨cs,rfl,_⟩:=hval;exact hag cs rfl h2.symm
 ·rename_i hu;injection h2 with h2;rw[hu]at hval;obtain⟨cs,rfl,_⟩:=hval;exact hag cs rfl h2.symm
 ·rename_i hu1 hu2;split at h2
  ·rename_i c;cases h2;have hone:v.cells.toList=[v]:=by
    cases hu:P.underlying t with
    |none=>rw[hu]at hval;simp[Cell.okWide,Cell.ok,hu]at hval
    |some d=>
     rw[hu]at hval;cases v<;>first |rfl |(exfalso;revert hval;cases d<;>simp_all [Cell.okWide,Cell.ok])
   rw[hone]at g1
   match ts,g1,g2,k1 with
   |[y],g1,g2,k1=>
    simp only[cX]at g2;exact⟨.s y,g1.1,⟨y,rfl,g2.1⟩,λK=>by have:=k1 K;simpa[jF,ID]using this⟩
   |[],g1,_,_=>exact g1.elim
   |_::_::_,g1,_,_=>exact g1.2.elim
  ·cases h2
theorem aaJ{cut:List TypeId}:∀{ts:List TypeId}{ss:List VS}{vs:List Value}{ds:List (DataW H)}{ps:List MemPlace}{b0:Nat},ts.mapM (HS P cut)=some ss->
 (∀ (j:Nat) t v,ts[j]? =some t->vs[j]? =some v->Value.okWide P w .any b0 t v)->DataW.TrodAll enc P w 0 sp held ts vs ds ps->(∀ k∈DataW.weightsEach P ts ds,k<=reachBytes)->∃xs,my w (Here w) xs vs/\WK ss xs/\∀K:Bk H,WL xs<=K.a ds
 |[],ss,vs,ds,ps,b0,hs,_,hd,_=>by
  obtain⟨rfl,rfl,rfl⟩:=trodAll_nil hd;simp only[List.mapM_nil,Option.pure_def,aA]at hs;subst hs;exact⟨[],trivial,trivial,λK=>by simp[WL]⟩
 |t::ts,ss,vs,ds,ps,b0,hs,hval,hd,hz=>by
  obtain⟨v,vs',d,ds',p,q,rfl,rfl,rfl,h0,r0⟩:=trodAll_cons hd;simp only[List.mapM_cons,Option.bind_eq_bind,ai,Option.pure_def,aA]at hs;obtain⟨s,h1,ss',h2,rfl⟩:=hs;obtain⟨x,g1,g2,k1⟩:=akn h1 (hval 0 t v rfl rfl) h0 (λ k hk=>hz k (by simp only[DataW.weightsEach,aX];exact .inl hk));obtain⟨xs,g3,g4,k2⟩:=aaJ h2 (λ j t v h h'=>hval (j+1) t v h h') r0 (λ k hk=>hz k (by simp only[DataW.weightsEach,aX];exact .inr hk));exact⟨x::xs,⟨g1,g3⟩,⟨g2,g4⟩,λK=>by have:=k1 K;have:=k2 K;rw[WL,K.a1];omega⟩
theorem Tt{β:Nat->Option cE}{I:Nat->Prop}:∀(xs:List TV)(vs:List Value),my w I xs vs->bj P β w I (xs.map TV.av) vs
 |[],[],_=>by simp[bj]
 |x::xs,v::vs,h=>by
  simp only[aC,bj];refine⟨?_,Tt xs vs h.2⟩;have h1:=h.1;cases x with
  |s y=>simp only[TV.av,VR];exact h1
  |a cs=>
   obtain⟨us,rfl,h2⟩:=h1;simp only[TV.av,VR];refine⟨us,rfl,?_⟩;have:∀(cs:List Tree) (us:List Value),eK w I cs us->bj P β w I (cs.map AV.t) us:=by
    intro cs
    induction cs with
    |nil=>intro us h;cases us<;>first |(simp [bj];done) |exact h.elim
    |cons c cs ih=>intro us h;cases us with
     |nil=>exact h.elim
     |cons u us=>simp only[aC,bj,VR];exact⟨h.1,ih us h.2⟩
   exact this cs us.toList h2
 |[],_::_,h=>h.elim
 |_::_,[],h=>h.elim
end
section
variable {H:Type} {enc:TypeId×Value->H} {P:Program}
theorem af9{f:Func}{s:ChangeSpec}{apart fresh handsOn again:Bool}{W W':World}{args:Array Value}{v:Value}{ds gs:List (DataW H)}{before pa pv:List MemPlace}
 (hW:DataW.Whole enc P f.params.toList s.vars apart W args.toList ds gs before)
 (hres:∀(b:Nat)(sp:Nat->Bool)(hd:Bool),DataW.TrodAll enc P W' b sp hd f.resultTypes.toList (v.resultList f.resultTypes.size) (s.fn H (ds++gs)).results [])
 (hargs:∀sp:Nat->Bool,(∀ p∈before,sp p.block=true)->DataW.TrodAll enc P W' 0 sp true f.params.toList args.toList (s.fn H (ds++gs)).args pa)
 (hvars:∀sp:Nat->Bool,(∀ p∈before,sp p.block=true)->DataW.TrodVars enc P W' sp s.vars (s.fn H (ds++gs)).vars pv)
 (hps:before=pa++pv) (hb:Below W.heap.size W W')
 (hok:∀(j:Nat)(t:TypeId)(r:Value),f.resultTypes[j]? =some t->(v.resultList f.resultTypes.size)[j]? =some r->Value.okWide P W' .any 0 t r):
 s.post enc P f apart fresh handsOn again W args v W':=by
 have hlt:∀p∈before,p.block<W.heap.size:=λp hp=>hW.lt p hp;have hold:∀p∈before,(λ b=>decide (b<W.heap.size)) p.block=true:=λp hp=>by simpa using hlt p hp
 refine⟨ds,gs,before,[],pa,pv,hW,hres _ _ _,hargs _ hold,hvars _ hold,World.keptBut_mono (λ p hp=>⟨hp,?_⟩) (hb.frame (· ∈before)),λ_=>?_⟩
 ·rw[hps,aX]at hp;exact Or.inr hp
 ·obtain⟨_,_,_,_,_,hz,hn⟩:=hW;refine⟨hok,_,_,([]++pa)++pv,⟨[]++pa,pv,trodAll_append (hargs _ (λ _ _=>rfl)) (hres _ _ _),hvars _ (λ _ _=>rfl),rfl,?_,?_⟩,?_⟩
  ·intro b aa hp;have hin:MemPlace.cell b aa∈before:=(by rw[hps];simpa using hp);rw[hb.frozen (hlt _ hin)];exact hz b aa hin
  ·intro ha;have:=hn ha;rw[hps]at this;simpa using this
  ·intro p hp _;rw[hps];simpa using hp
theorem M5(hl:laidOutB P=true){W W':World}(hb:Below W.heap.size W W'):∀{ts:List TypeId}{vs:List Value}{ds:List (DataW H)}{ps:List MemPlace},(∀ t∈ts,P.readableRec t=true/\t<P.types.size)->
 DataW.TrodAll enc P W 0 (λ _=>true) true ts vs ds ps->(∀ x∈ps,x.block<W.heap.size)->∀sp:Nat->Bool,(∀ p∈ps,sp p.block=true)->DataW.TrodAll enc P W' 0 sp true ts vs ds ps
 |[],vs,ds,ps,_,hd,_,sp,_=>by
  obtain⟨rfl,rfl,rfl⟩:=trodAll_nil hd;exact trodAll_mk0
 |t::ts,vs,ds,ps,ht,hd,hlt,sp,hsp=>by
  obtain⟨v,vs',d,ds',p,q,rfl,rfl,rfl,h0,r0⟩:=trodAll_cons hd;obtain⟨h1,h2⟩:=ht t (by simp)
  exact trodAll_cons_mk (WideElems.Trod_stays hl h1 h2 h0 (λ x hx=>hb.same (hlt x (by simp[hx]))) (λ x hx=>hsp x (by simp[hx])))
   (M5 hl hb (λ t ht'=>ht t (by simp[ht'])) r0 (λ x hx=>hlt x (by simp[hx])) sp (λ x hx=>hsp x (by simp[hx])))
theorem Tv{w:World}{base:Nat}{sp:Nat->Bool}{held:Bool}:∀{ts:List TypeId}{vs:List Value}{ds:List (DataW H)}{ps:List MemPlace},DataW.TrodAll enc P w base sp held ts vs ds ps->ds.length=ts.length
 |[],_,_,_,h=>by
  obtain⟨_,rfl,_⟩:=trodAll_nil h;rfl
 |_::_,_,_,_,h=>by
  obtain⟨_,_,_,_,_,_,_,rfl,_,_,h2⟩:=trodAll_cons h;simp[Tv h2]
theorem adM:∀{ts:List TypeId}{ds:List (DataW H)}{vt:List TypeId}{gs:List (DataW H)},ds.length=ts.length->∀k∈DataW.weightsEach P ts ds,k∈DataW.weightsEach P (ts++vt) (ds++gs)
 |[],[],_,_,_,k,h=>by simp[DataW.weightsEach]at h
 |t::ts,d::ds,vt,gs,hl,k,h=>by
  simp only[DataW.weightsEach,aX,cons_append]at h ⊢;rcases h with h |h
  ·exact .inl h
  ·exact .inr (adM (by simpa using hl) k h)
 |[],_::_,_,_,h,_,_=>by simp at h
 |_::_,[],_,_,h,_,_=>by simp at h
theorem ab3{cut:List TypeId}{C:Checked}{f:FuncId}{fn:Func}{s:ChangeSpec}{ss:List VS}{tb:TypeId}(hl:laidOutB C.prog=true)(hread:(fn.params.toList.all λt=>C.prog.readableRec t&&decide (t<C.prog.types.size))=true)
 (hss:fn.params.toList.mapM (HS C.prog cut)=some ss) (hvars:s.vars=[]) (hres:fn.resultTypes=#[tb]) (hb:C.prog.underlying tb=some .bool)
 (hs:∀ds:List (DataW H),ds.length=fn.params.toList.length->s.fn H ds={ results:=[.lit (.bool true)],args:=ds })
 {B:Nat->Prop} (PQ:∀xs,WK ss xs->(∀ n,B n->WL xs<=n)->sB C.prog f (xs.map TV.av) (.one (.d (.s (.sc (.bool true))))))
 {W:World} {base:Nat} {args:Array Value} {ds gs:List (DataW H)} {before:List MemPlace}
 (hval:∀(j:Nat) t v,fn.params[j]? =some t->args[j]? =some v->Value.okWide C.prog W .any base t v)
 (hW:DataW.Whole enc C.prog fn.params.toList s.vars false W args.toList ds gs before)
 {vt:List TypeId} (hz:(DataW.weightsEach C.prog (fn.params.toList++vt) (ds++gs)).all (· <=reachBytes)=true) (hv:kh W (Here W)) (hB:∀n,B n->∃K:Bk H,K.a ds<=n):
 Calls C.prog f args W λe W'=>∃v,e= .returned v/\s.post enc C.prog fn false true false false W args v W':=by
 have hW':=hW;obtain⟨p,q,hA,hV,rfl,_,_⟩:=hW;rw[hvars]at hV;obtain⟨rfl,rfl⟩:=trodVars_none hV;have hlen:=Tv hA;obtain⟨xs,g1,g2,g3⟩:=aaJ hss (λ j t v h1 h2=>hval j t v (by simpa using h1) (by simpa using h2)) hA (λ k hk=>by
  have:=all_eq_true.1 hz k (adM hlen k hk);simpa using this)
 simp only[append_nil]at hW';have hlt:∀x∈p,x.block<W.heap.size:=λx hx=>hW'.lt x hx;refine((PQ xs g2 (λ n hn=>by have⟨K,hK⟩:=hB n hn;exact Nat.le_trans (g3 K) hK)).2 W (Here W) args (λ _ h=>h) hv (Tt _ _ g1)).mono λe W' ⟨v,I',he,hbel,_,_,_,hr⟩=>⟨v,he,?_⟩;simp only[qT,we,sx,TR]at hr;obtain⟨rfl,_⟩:=hr;have hfn:s.fn H (ds++[])={ results:=[.lit (.bool true)],args:=ds }:=by rw[append_nil];exact hs ds hlen
 refine af9 (pa:=p) (pv:=[]) hW' (λ b sp hd=>?_) (λ sp hsp=>?_) (λ sp _=>?_) (by simp) hbel (ok_one (by rw[hres]) rfl (okWide_bool_mk hb _))
 ·rw[hfn,hres];exact trodAll_mk1 (shut_bool hb _)
 ·rw[hfn];refine M5 hl hbel (λ t ht=>?_) hA hlt sp hsp;have:=all_eq_true.1 hread t ht;simpa using this
 ·rw[hfn,hvars];rfl
end
def SR:xF->TypeDesc->Bool
 | .slice e,.slice e'=>e==e'
 | .arr n e,.array n' e'=>n==n'&&e==e'
 | .struct fs,.struct fa=>fa.toList.map (λ f=>(f.offset,f.type))==fs
 | .bool,.bool=>true
 | .str,.string=>true
 | .int k,.int k'=>k==k'
 | .map k e,.map k' e'=>k==k'&&e==e'
 | .other,_=>true
 |_,_=>false
def T0:Value->Value->Bool
 | .int k a,.int k' b=>k==k'&&a==b
 | .bool a,.bool b=>a==b
 | .string a,.string b=>decide (a=b)
 | .slice none 0 0,.slice none 0 0=>true
 | .pointer none,.pointer none=>true
 | .nilFunc,.nilFunc=>true
 | .nilIface,.nilIface=>true
 | .map none,.map none=>true
 |_,_=>false
theorem adN{a b:Value}(h:T0 a b=true):a=b:=by
 unfold T0 at h;split at h<;>simp_all
def Rh:List Value->List Value->Bool
 |[],[]=>true
 |a::as,b::bs=>T0 a b&&Rh as bs
 |_,_=>false
theorem OQ:∀{a b:List Value},Rh a b=true->a=b
 |[],[],_=>rfl
 |a::as,b::bs,h=>by simp only[Rh,aJ]at h;rw[adN h.1,OQ h.2]
 |[],_::_,h=>by simp[Rh]at h
 |_::_,[],h=>by simp[Rh]at h
def TZ(P:Program)(t:TypeId)(ti:np):Bool:=
 match P.info? t,P.underlying t with
 |some info,some d=>match info.zero with
  |some z=>info.size==ti.size&&info.bytes==ti.bytes&&sm d==ti.agg&&SR ti.k d&&ti.zero.all j9&&ti.zero.length==ti.size&&
   (ti.cmp.isEmpty || match d with
    | .struct fa=>!P.stoodInHeld t&&!P.eqGuardType P.depth t&&gb P 0 fa.toList ti.cmp
    | .array _ _=>ti.cmp==[9]&&!P.eqGuardType P.depth t
    |_=>false)&&Rh z.cells.toList ti.zero&&sC ti.agg z
  |none=>false
 |_,_=>false
theorem aga{k:xF}{d:TypeDesc}(h:SR k d=true):OF k d:=by
 unfold SR at h;split at h
 ·simp only[beq_iff_eq]at h;subst h;rfl
 ·simp only[aJ,beq_iff_eq]at h;obtain⟨rfl,rfl⟩:=h;rfl
 ·rename_i fs fa;exact⟨fa,rfl,by simpa using h⟩
 ·rfl
 ·rfl
 ·simp only[beq_iff_eq]at h;subst h;rfl
 ·simp only[aJ,beq_iff_eq]at h;obtain⟨rfl,rfl⟩:=h;rfl
 ·trivial
 ·cases h
theorem adO{P:Program}{t:TypeId}{ti:np}(h:TZ P t ti=true):k9 P t ti:=by
 unfold TZ at h;split at h
 ·rename_i info d h1 h2;split at h
  ·rename_i z h3;simp only[aJ,beq_iff_eq]at h;obtain⟨⟨⟨⟨⟨⟨⟨⟨a1,a2⟩,a3⟩,a4⟩,a5⟩,a6⟩,a7⟩,a8⟩,a9⟩:=h;refine⟨⟨info,d,z,h1,h2,a1,a2,h3,OQ a8,a3,aga a4⟩,a5,a6,λinfo' z' e1 e2=>by rw[h1]at e1;cases e1;rw[h3]at e2;cases e2;exact a9,λhne=>?_⟩;simp only[Bool.or_eq_true]at a7;rcases a7 with a7 |a7
   ·exact absurd (List.isEmpty_iff.1 a7) hne
   ·split at a7
    ·rename_i fa;simp only[aJ,Bool.not_eq_true']at a7;exact .inl ⟨fa,h2,a7.1.1,a7.1.2,a7.2⟩
    ·simp only[aJ,Bool.not_eq_true',beq_iff_eq]at a7;exact .inr a7
    ·cases a7
  ·cases h
 ·cases h
def WM(l:List (TypeId×np)):dy:=λt=>(l.find? λp=>p.1==t).map (·.2)
theorem akq{P:Program}{l:List (TypeId×np)}(h:(l.all λp=>TZ P p.1 p.2)=true):eZ P (WM l):=by
 intro t ti ht;simp only[WM,eU]at ht;obtain⟨p,hp,rfl⟩:=ht;have h1:=List.find?_some hp;simp only[beq_iff_eq]at h1;subst h1;exact adO (all_eq_true.1 h p (List.mem_of_find?_eq_some hp))
open Go.RowKit
inductive CT(ι:Type) where
 |int (k:IntKind)
 |bool
 |str
 |sl (e:CT ι)
 |st (i:ι)
 |any
 |mp (k v:CT ι)
 deriving DecidableEq
structure SE where
 ι:Type
 dec:DecidableEq ι
 T:ι->Type
 row:(i:ι)->T i->List Tree
instance (E:SE):DecidableEq E.ι:=E.dec
section
variable (E:SE)
@[reducible] def CT.T:CT E.ι->Type
 | .int _=>Int
 | .bool=>Bool
 | .str=>ByteArray
 | .sl e=>List (CT.T e)
 | .st i=>E.T i
 | .any=>Tree
 | .mp k v=>List (CT.T k×CT.T v)
def CT.row:(c:CT E.ι)->CT.T E c->List Tree
 | .int k,n=>[.sc (.int k n)]
 | .bool,b=>[.sc (.bool b)]
 | .str,s=>[.sc (.string s)]
 | .sl e,l=>[.sl (List.map (CT.row e) l)]
 | .st i,x=>E.row i x
 | .any,x=>[x]
 | .mp _ _,_=>[.sl []]
def CT.one{ι:Type}:CT ι->Bool
 | .st _=>false
 |_=>true
def CT.tv:(c:CT E.ι)->CT.T E c->TV
 | .int k,n=> .s (.sc (.int k n))
 | .bool,b=> .s (.sc (.bool b))
 | .str,s=> .s (.sc (.string s))
 | .sl e,l=> .s (.sl (List.map (CT.row E e) l))
 | .st i,x=> .a (E.row i x)
 | .any,x=> .s x
 | .mp _ _,_=> .s (.sl [])
def HL:List (CT E.ι)->Type
 |[]=>Unit
 |c::l=>CT.T E c×HL l
def HL.row:(l:List (CT E.ι))->HL E l->List Tree
 |[],_=>[]
 |c::l,h=>CT.row E c h.1++HL.row l h.2
def HL.nq:(l:List (CT E.ι))->HL E l->List TV
 |[],_=>[]
 |c::l,h=>CT.tv E c h.1::HL.nq l h.2
end
structure Nm(E:SE) where
 i:E.ι
 c:CT E.ι
 f:E.T i->List (CT.T E c)
 g:List (CT.T E c)->Option (E.T i)
structure SX extends SE where
 cV:ι->List (CT ι)
 get:(i:ι)->T i->HL toSE (cV i)
 make:(i:ι)->HL toSE (cV i)->T i
 nw:∀i x,row i x=HL.row toSE (cV i) (get i x)
 gh:∀i h,row i (make i h)=HL.row toSE (cV i) h
 flat:∀i,(cV i).all CT.one=true
 gv:Nat->Option ((c:CT ι)×CT.T toSE c)
 wx:∀g,(gv g).map (λ p=>CT.row toSE p.1 p.2)=(uc g).map λr=>r.map Tree.sc
 ar:TypeId->Option (Nm toSE):=λ_=>none
 m7:∀t a,ar t=some a->a.c.one=true/\(∀ x,row a.i x=((a.f x).map (CT.row toSE a.c)).flatten)/\∀l x,a.g l=some x->a.f x=l:=by intro t a h;cases h
section
variable (X:SX)
abbrev SX.C:=CT X.ι
abbrev SX.t(c:CT X.ι):Type:=CT.T X.toSE c
def CT.sz:CT X.ι->Nat
 | .st i=>(X.cV i).length
 |_=>1
inductive DV where
 |c (t:CT X.ι) (x:CT.T X.toSE t)
 |agg (cs:List DV)
 |fi (vs:List DV)
 |own (k aa len:Nat)
 |ptr (k row aa:Nat)
 |p4 (k:Nat) (n:Int) (aa:Nat)
 |rx (k row aa m:Nat) (n:Int)
 |rp (t:CT X.ι) (x:CT.T X.toSE t) (aa:Nat)
 |vf (t:CT X.ι) (x:CT.T X.toSE t) (aa m:Nat) (n:Int)
 |fn (f:FuncId) (first caps:List DV)
 |cT (as:List (CT X.ι)) (r:CT X.ι) (φ:HL X.toSE as->Option (CT.T X.toSE r))
 |mp (k:Nat)
 |oz (k len:Nat)
 |raw (v:Value)
 |nil
 |ub
 |skip
 |undef
inductive br where
 |cells (sz:Nat) (rows:List (List (DV X)))
 |dc (c:CT X.ι) (l:List (CT.T X.toSE c))
 |map (kc vc:CT X.ι) (l:List (CT.T X.toSE kc×CT.T X.toSE vc))
structure da where
 env:List (Nat×DV X)
 obj:List (Nat×Option (br X))
 nx:Nat
 log:List Nat
variable {X}
mutual
def den:DV X->AV
 | .c t x=>(CT.tv X.toSE t x).av
 | .agg cs=> .agg (bK cs)
 | .fi vs=> .fi (bK vs)
 | .own k aa len=> .own k aa len
 | .ptr k row aa=> .ptr k row aa
 | .p4 k n aa=> .ptr k n.toNat aa
 | .rx k row aa _ n=> .ptr k row (aa+n.toNat)
 | .rp t x aa=> .eo (CT.row X.toSE t x) aa
 | .vf t x aa _ n=> .eo (CT.row X.toSE t x) (aa+n.toNat)
 | .fn f first caps=> .fn f (bK first) (bK caps)
 | .cT as r φ=> .cT λts u=>∃h x,φ h=some x/\ts=HL.nq X.toSE as h/\u=CT.tv X.toSE r x
 | .mp k=> .mp k
 | .oz k len=> .oz k len
 | .raw v=>cv v
 | .nil=> .cM
 | .ub=> .ub
 | .skip=> .undef
 | .undef=> .undef
def bK:List (DV X)->List AV
 |[]=>[]
 |x::xs=>den x::bK xs
end
theorem oC:∀l:List (DV X),bK l=l.map den
 |[]=>rfl
 |x::xs=>by simp only[bK,aC,oC xs]
def bG:br X->aU
 | .cells sz rows=>⟨sz,rows.map bK⟩
 | .dc c l=>⟨CT.sz X c,aL (l.map (CT.row X.toSE c))⟩
 | .map kc vc l=>⟨l.length,l.map λp=>[(CT.tv X.toSE kc p.1).av,(CT.tv X.toSE vc p.2).av]⟩
def gM(u:List (Nat×Option (br X))):List (Nat×Option aU):=u.map λp=>(p.1,p.2.map bG)
def f5(o:List (Nat×Option (br X)))(k:Nat):Option (br X):=(lk o k).join
def eE(e:List (Nat×DV X))(t:Nat):DV X:=(lk e t).getD .undef
def da.st(s:da X):St:=⟨λ t=>den (eE s.env t),λk=>(f5 s.obj k).map bG,λ_=>none⟩
def gD(a b:CT X.ι)(x:CT.T X.toSE a):Option (CT.T X.toSE b):=
 match decEq a b with
 |isTrue h=>some (h ▸ x)
 |isFalse _=>none
theorem mJ{a b:CT X.ι}{x:CT.T X.toSE a}{y:CT.T X.toSE b}(h:gD a b x=some y):∃e:a=b,y=e ▸ x:=by
 unfold gD at h;split at h
 ·rename_i e _;injection h with h;exact⟨e,h.symm⟩
 ·cases h
def HL.cells:(l:List (CT X.ι))->HL X.toSE l->List (DV X)
 |[],_=>[]
 |c::l,h=> .c c h.1::HL.cells l h.2
theorem row_one{c:CT X.ι}(h:c.one=true)(x:CT.T X.toSE c):∃t,CT.row X.toSE c x=[t]/\CT.tv X.toSE c x= .s t:=by cases c<;>first |exact⟨_,rfl,rfl⟩ |cases h
theorem HL.pZ:∀(l:List (CT X.ι))(h:HL X.toSE l),l.all CT.one=true->bK (HL.cells l h)=(HL.row X.toSE l h).map AV.t
 |[],_,_=>rfl
 |c::l,h,ha=>by
  simp only[all_cons,aJ]at ha;obtain⟨t,h1,h2⟩:=row_one ha.1 h.1;simp only[HL.cells,bK,den,HL.row,h1,h2,TV.av,HL.pZ l h.2 ha.2,cons_append,bO,aC]
theorem HL.ox:∀(l:List (CT X.ι))(h:HL X.toSE l),l.all CT.one=true->(HL.row X.toSE l h).length=l.length
 |[],_,_=>rfl
 |c::l,h,ha=>by
  simp only[all_cons,aJ]at ha;obtain⟨t,h1,_⟩:=row_one ha.1 h.1;simp only[HL.row,h1,cons_append,bO,bF,HL.ox l h.2 ha.2]
theorem Du(c:CT X.ι)(x:CT.T X.toSE c):(CT.row X.toSE c x).length=CT.sz X c:=by
 cases c<;>try rfl
 rename_i i;exact(congrArg List.length (X.nw i x)).trans (HL.ox _ _ (X.flat i))
def vU:(c:CT X.ι)->CT.T X.toSE c->List (DV X)
 | .st i,x=>HL.cells (X.cV i) (X.get i x)
 |c,x=>[.c c x]
theorem nU(c:CT X.ι)(x:CT.T X.toSE c):bK (vU c x)=(CT.row X.toSE c x).map AV.t:=by
 cases c<;>try rfl
 rename_i i;exact(HL.pZ _ _ (X.flat i)).trans (congrArg (List.map AV.t) (X.nw i x).symm)
def wR:DV X->Bool
 | .agg _ | .fi _ | .undef | .skip | .raw _ | .c (.st _) _=>false
 |_=>true
theorem Tw{x:DV X}(h:wR x=true):pI (den x)=true:=by
 cases x<;>try rfl
 case c t x=>cases t<;>first |rfl |simp[wR]at h
 all_goals simp[wR]at h
def cellsD:DV X->Option (List (DV X))
 | .agg cs=>if cs.all wR then some cs else none
 | .c (.st i) x=>some (vU (.st i) x)
 | .fi _ | .undef | .skip | .raw _=>none
 |x=>some [x]
theorem ahZ{l:List (DV X)}(h:l.all wR=true):(bK l).all pI=true:=by
 rw[oC,List.all_map,all_eq_true];exact λx hx=>Tw (all_eq_true.1 h x hx)
theorem Al{x:DV X}{cs:List (DV X)}(h:cellsD x=some cs):cellsOf (den x)=some (bK cs):=by
 cases x
 case c t x=>
  cases t
  case st i=>
   simp only[cellsD,aA]at h;subst h;simp only[den,CT.tv,TV.av,cellsOf,nU];show(if ((X.row i x).map AV.t).all pI then some ((X.row i x).map AV.t)else none)=some ((X.row i x).map AV.t);rw[aP];rw[List.all_map,all_eq_true];exact λ_ _=>rfl
  all_goals simp only[cellsD,aA]at h;subst h;rfl
 case agg l=>
  simp only[cellsD]at h;split at h
  ·cases h;simp only[den,cellsOf];rw[aP (ahZ ‹_›)]
  ·cases h
 all_goals simp only[cellsD,aA,reduceCtorEq]at h;try (subst h;rfl)
def tz:Value->DV X
 | .slice none 0 0=> .nil
 | .int k n=> .c (.int k) n
 | .bool b=> .c .bool b
 | .string s=> .c .str s
 |v=> .raw v
theorem ah0(v:Value):den (tz (X:=X) v)=cv v:=by
 unfold tz;split<;>rfl
theorem Am(l:List Value):bK (l.map (tz (X:=X)))=l.map cv:=by
 rw[oC,map_map];exact map_congr_left λv _=>ah0 v
def ZH(env:Nat->DV X):Operand->DV X
 | .tmp t=>env t
 | .const v=>tz v
 | .global g=>match X.gv g with
  |some p=> .rp p.1 p.2 0
  |none=> .undef
 | .func f=> .fn f [] []
theorem WN(env:Nat->DV X)(x:Operand):den (ZH env x)=lw (λ t=>den (env t)) x:=by
 cases x with
 |global g=>
  have h:=X.wx g;simp only[ZH,lw];cases h1:X.gv g with
  |none=>
   rw[h1]at h;cases h2:uc g with
   |none=>rfl
   |some r=>rw[h2]at h;cases h
  |some p=>
   rw[h1]at h;cases h2:uc g with
   |none=>rw[h2]at h;cases h
   |some r=>
    rw[h2]at h;injection h with h;simp only[den,h]
 |const v=>exact ah0 _
 |tmp t=>rfl
 |func f=>rfl
end
def bo{α:Type}(l:List α)(n:Int):Option α:=bif decide (0<=n)then l[n.toNat]? else none
def atO{α:Type}(l:List α)(aa:Nat)(n:Int):Option α:=bif decide (0<=n)then l[aa+n.toNat]? else none
def sub{α:Type}(l:List α)(aa len:Nat):List α:=(l.drop aa).take len
def b9(n:Int)(len:Nat):Bool:=decide (0<=n)&&decide (n<(len:Int))
def j6{α β:Type}(a:α)(f:α->β):β:=f a
def bR(lo len ln n bytes:Nat):Bool:=decide (lo=len)&&decide (ln=n)&&decide ((len+n)*bytes<=140737488355328)&&decide (len+n<=maxLen)
def bk(a b:Nat):Bool:=decide (a=b)
def yF(l h:Int)(len:Nat):Bool:=decide (0<=l)&&decide (l<=h)&&decide (h<=(len:Int))
def WO(a b:ByteArray):Bool:=Op.bytesLess a.toList b.toList
def WQ(a b:ByteArray):Bool:=decide (a.size+b.size<=maxLen)
abbrev iN(n:Int):Int:=n
abbrev bN(b:Bool):Bool:=b
def WR{A:Type}:List Bool->Option A->Option A
 |[],k=>k
 |c::cs,k=>bif c then WR cs k else none
section
variable {X:SX} {A:Type}
abbrev KK(X:SX)(A:Type):=DV X->List (Nat×Option (br X))->List Nat->List Nat->Option A
def TX(t:Bool)(x y:DV X):DV X:=
 match x,y with
 | .c a p,.c b q=>match decEq b a with
  |isTrue h=> .c a (bif t then p else h ▸ q)
  |isFalse _=>bif t then .c a p else .c b q
 |x,y=>bif t then x else y
def J5(agg:Bool)(size:Nat)(cs:List (DV X)):Option (DV X):=
 if cs.length=size then(if agg then some (.agg cs)else match cs with |[x]=>if wR x then some x else none |_=>none)else none
def L4(agg:Bool)(size:Nat)(c:CT X.ι)(y:CT.T X.toSE c)(aa:Nat):Option (DV X):=
 match c,y with
 | .st i,y=>if aa=0/\agg=true/\size=(X.cV i).length then some (.c (.st i) y)else J5 agg size (((vU (.st i) y).drop aa).take size)
 |c,y=>J5 agg size (((vU c y).drop aa).take size)
def Mi(d:DV X)(c:CT X.ι):Option (CT.T X.toSE c):=
 match d,c with
 | .c a x,c=>gD a c x
 | .nil,.sl _=>some []
 | .nil,.any=>some (.sl [])
 |_,_=>none
def Ao:List (DV X)->(l:List (CT X.ι))->Option (HL X.toSE l)
 |[],[]=>some ()
 |d::ds,c::l=>(Mi d c).bind λx=>(Ao ds l).bind λh=>some (x,h)
 |_,_=>none
def BW(d:DV X)(i:X.ι):Option (CT.T X.toSE (.st i)):=
 match d with
 | .agg cs=>(Ao cs (X.cV i)).bind λh=>some (X.make i h)
 | .c a x=>gD a (.st i) x
 |_=>none
def dat(d:DV X)(c:CT X.ι):Option (CT.T X.toSE c):=
 match c with
 | .st i=>BW d i
 |c=>Mi d c
def ZS(c:CT X.ι):List (DV X)->Option (CT.T X.toSE c)
 |[d]=>Mi d c
 |_=>none
def OT(c:CT X.ι)(ds:List (DV X)):Option (CT.T X.toSE c):=
 match c with
 | .st i=>(Ao ds (X.cV i)).bind λh=>some (X.make i h)
 |c=>ZS c ds
def HR(r:List (DV X))(aa:Nat)(cs:List (DV X)):List (DV X):=r.take aa++cs++r.drop (aa+cs.length)
variable (T:dy) (ao:TypeId->Option (CT X.ι))
def Of(t:TypeId)(x:DV X)(get:Nat->Option (br X))(k:KK X A):Option A:=
 (T t).bind λti=>match x with
 | .ptr kk row aa=>(get kk).bind λo=>match o with
  | .cells _ rows=>(rows[row]?).bind λr=>(J5 ti.agg ti.size ((r.drop aa).take ti.size)).bind λv=>k v [] [kk] []
  |_=>none
 | .p4 kk n aa=>(get kk).bind λo=>match o with
  | .dc c l=>(bo l n).bind λy=>(L4 ti.agg ti.size c y aa).bind λv=>k v [] [kk] []
  |_=>none
 | .rp c y aa=>(L4 ti.agg ti.size c y aa).bind λv=>k v [] [] []
 |_=>none
def NO(t:TypeId)(x y:DV X)(get:Nat->Option (br X))(k:KK X A):Option A:=
 (T t).bind λti=>(cellsD y).bind λcs=>if cs.length=ti.size then match x with
 | .ptr kk row aa=>(get kk).bind λo=>match o with
  | .cells sz rows=>(rows[row]?).bind λr=>if aa+cs.length<=r.length then k .undef [(kk,some (.cells sz (rows.set row (HR r aa cs))))] [kk] [kk]else none
  |_=>none
 | .p4 kk n aa=>(get kk).bind λo=>match o with
  | .dc c l=>(bo l n).bind λy=>if aa+cs.length<=CT.sz X c then(OT c (HR (vU c y) aa cs)).bind λz=>k .undef [(kk,some (.dc c (l.set n.toNat z)))] [kk] [kk]else none
  |_=>none
 |_=>none else none
def Nl(t:TypeId)(x:DV X)(f:Nat)(k:KK X A):Option A:=
 (Cs T t f).bind λp=>match x with
 | .ptr kk row aa=>k (.ptr kk row (aa+p.1)) [] [] []
 | .p4 kk n aa=>k (.p4 kk n (aa+p.1)) [] [] []
 | .rp c y aa=>k (.rp c y (aa+p.1)) [] [] []
 |_=>none
def UP(t:TypeId)(x:DV X)(f:Nat)(k:KK X A):Option A:=
 (Cs T t f).bind λp=>match x with
 | .agg cs=>(J5 p.2.agg p.2.size ((cs.drop p.1).take p.2.size)).bind λv=>k v [] [] []
 | .c (.st i) y=>(J5 p.2.agg p.2.size (((vU (.st i) y).drop p.1).take p.2.size)).bind λv=>k v [] [] []
 |_=>none
def Nn(t:TypeId)(x j:DV X)(get:Nat->Option (br X))(k:KK X A):Option A:=
 (T t).bind λti=>match ti.k,j with
 | .slice e,.c (.int _) n=>(T e).bind λei=>match x with
  | .c (.sl c) l=>if CT.sz X c=ei.size then(bo l n).bind λy=>k (.rp c y 0) [] [] []else none
  | .own kk aa len=>(get kk).bind λo=>match o with
   | .dc c _=>if CT.sz X c=ei.size then bif b9 n len then k (.p4 kk ((aa:Int)+iN n) 0) [] [kk] []else none else none
   | .cells sz _=>if sz=ei.size then bif b9 n len then k (.ptr kk (aa+n.toNat) 0) [] [kk] []else none else none
   | .map _ _ _=>none
  |_=>none
 | .arr m e,.c (.int _) n=>(T e).bind λei=>bif b9 n m then match x with
  | .ptr kk row aa=>k (.ptr kk row (aa+n.toNat*ei.size)) [] [] []
  | .p4 kk r aa=>k (.p4 kk r (aa+n.toNat*ei.size)) [] [] []
  | .rp c y aa=>k (.rp c y (aa+n.toNat*ei.size)) [] [] []
  |_=>none
  else none
 |_,_=>none
def WS(x:DV X)(j:Nat)(k:KK X A):Option A:=
 match x with
 | .fi vs=>(vs[j]?).bind λv=>k v [] [] []
 |_=>none
def J6(op:BinOp)(kd:IntKind)(a b:Int):(DV X)×Option Bool:=
 match op with
 | .add=>(.c (.int kd) (kd.wrap (a+b)),none)
 | .sub=>(.c (.int kd) (kd.wrap (a -b)),none)
 | .mul=>(.c (.int kd) (kd.wrap (a*b)),none)
 | .quo=>(.c (.int kd) (kd.wrap (a.tdiv b)),some (b !=0))
 | .rem=>(.c (.int kd) (a.tmod b),some (b !=0))
 | .and=>(.c (.int kd) (bits .and kd a b),none)
 | .or=>(.c (.int kd) (bits .or kd a b),none)
 | .xor=>(.c (.int kd) (bits .xor kd a b),none)
 | .andNot=>(.c (.int kd) (bits .andNot kd a b),none)
 | .shl=>(.c (.int kd) (kd.wrap (a*2 ^ b.toNat)),some (decide (0<=b)&&decide (b<=kd.bits)))
 | .shr=>(.c (.int kd) (a/2 ^ b.toNat),some (decide (0<=b)&&decide (b<=kd.bits)))
 | .eql=>(.c .bool (a==b),none)
 | .neq=>(.c .bool (a !=b),none)
 | .lss=>(.c .bool (decide (a<b)),none)
 | .leq=>(.c .bool (decide (a<=b)),none)
 | .gtr=>(.c .bool (decide (a>b)),none)
 | .geq=>(.c .bool (decide (a>=b)),none)
def W7:Nat->DV X->DV X->Option Bool
 | 0,.c (.int j) a,.c (.int k) b=>if j=k then some (iN a==iN b)else none
 | 1,.c .bool a,.c .bool b=>some (bN a==bN b)
 | 2,.c .str a,.c .str b=>some (a.toList==b.toList)
 |_,_,_=>none
def xq:List Nat->List (DV X)->List (DV X)->Option Bool
 |[],[],[]=>some true
 |k::ks,x::xs,y::ys=>(W7 k x y).bind λa=>(xq ks xs ys).bind λb=>some (a&&b)
 |_,_,_=>none
def Kd:DV X->Option (List (DV X))
 | .agg cs=>some cs
 | .c (.st i) y=>some (vU (.st i) y)
 |_=>none
def SP(op:BinOp)(t:TypeId)(x y:DV X)(k:KK X A):Option A:=
 match x,y with
 | .c (.int kd) a,.c (.int yk) b=>if kd=yk\/op= .shl\/op= .shr then match (J6 op kd a b:DV X×Option Bool).2 with
  |none=>k (J6 op kd a b).1 [] [] []
  |some g=>bif g then k (J6 op kd a b).1 [] [] []else none
  else none
 | .c .str a,.c .str b=>match op with
  | .eql=>k (.c .bool (a.toList==b.toList)) [] [] []
  | .neq=>k (.c .bool (!(a.toList==b.toList))) [] [] []
  | .lss=>k (.c .bool (WO a b)) [] [] []
  | .gtr=>k (.c .bool (!(WO a b || a.toList==b.toList))) [] [] []
  | .add=>bif WQ a b then k (.c .str (a++b)) [] [] []else none
  |_=>none
 | .c .bool a,.c .bool b=>(T t).bind λti=>match ti.k,op with
  | .bool,.eql=>k (.c .bool (bN a==bN b)) [] [] []
  | .bool,.neq=>k (.c .bool (!(bN a==bN b))) [] [] []
  |_,_=>none
 |x,y=>(Kd x).bind λxs=>(Kd y).bind λys=>(T t).bind λti=>if ti.cmp=[]then none else(xq ti.cmp xs ys).bind λb=>match op with
  | .eql=>k (.c .bool b) [] [] []
  | .neq=>k (.c .bool (!b)) [] [] []
  |_=>none
def NL(op:UnOp)(x:DV X)(k:KK X A):Option A:=
 match op,x with
 | .not,.c .bool b=>k (.c .bool (!b)) [] [] []
 | .neg,.c (.int kd) n=>k (.c (.int kd) (kd.wrap (0 -iN n))) [] [] []
 |_,_=>none
def LB(mx:Bool)(kd:IntKind):Int->List (DV X)->Option Int
 |a,[]=>some a
 |a,.c (.int k') b::r=>if k'=kd then LB mx kd (if mx then max a b else min a b) r else none
 |_,_=>none
def IM(mx:Bool)(args:List (DV X))(k:KK X A):Option A:=
 match args with
 | .c (.int kd) a::r=>(LB mx kd a r).bind λn=>k (.c (.int kd) n) [] [] []
 |_=>none
def SO(t:TypeId)(x:DV X)(k:KK X A):Option A:=
 (T t).bind λti=>match ti.k,x with
 | .slice _,.c (.sl _) l=>k (.c (.int .i64) (l.length:Int)) [] [] []
 | .slice _,.own _ _ len=>k (.c (.int .i64) (len:Int)) [] [] []
 | .slice _,.oz _ len=>k (.c (.int .i64) (len:Int)) [] [] []
 | .slice _,.nil=>k (.c (.int .i64) (0:Int)) [] [] []
 | .str,.c .str s=>k (.c (.int .i64) (s.size:Int)) [] [] []
 |_,_=>none
def EE(place:Nat->Option (Nat×Nat)):List (DV X)->List (Nat×DV X)->Option (List (DV X))
 |cells,[]=>some cells
 |cells,(j,x)::ag=>(place j).bind λp=>(cellsD x).bind λcs=>
  if cs.length=p.2/\p.1+cs.length<=cells.length then EE place (HR cells p.1 cs) ag else none
def Up(t:TypeId)(parts:List (Nat×DV X))(k:KK X A):Option A:=
 (T t).bind λti=>match ti.k with
 | .struct fs=>if fs.all (λ p=>(T p.2).isSome)then
  (EE (λ j=>(fs[j]?).bind λp=>(T p.2).bind λui=>some (p.1,ui.size)) (ti.zero.map tz) parts).bind λcells=>k (.agg cells) [] [] []else none
 | .arr _ e=>(T e).bind λei=>(EE (λ j=>some (j*ei.size,ei.size)) (ti.zero.map tz) parts).bind λcells=>k (.agg cells) [] [] []
 |_=>none
def HQ(c:CT X.ι):Nat->List (Nat×DV X)->Option (List (CT.T X.toSE c))
 |_,[]=>some []
 |n,(j,x)::r=>if j=n then(dat x c).bind λy=>(HQ c (n+1) r).bind λl=>some (y::l)else none
def J7(i:Nat)(t:TypeId)(len:Nat)(parts:List (Nat×DV X))(k:KK X A):Option A:=
 (T t).bind λti=>match ti.k with
 | .slice e=>(T e).bind λei=>(ao e).bind λc=>if ei.size=0\/len*ei.size>2 ^ 24\/CT.sz X c≠ei.size\/parts.length≠len then none else
  (HQ c 0 parts).bind λl=>k (.own (cy i) 0 len) [(cy i,some (.dc c l))] [] []
 |_=>none
def T8(i:Nat)(e:TypeId)(k:KK X A):Option A:=
 (T e).bind λti=>k (.ptr (cy i) 0 0) [(cy i,some (.cells ti.size [ti.zero.map tz]))] [] []
def SM(i:Nat)(x:DV X)(k:KK X A):Option A:=
 (cellsD x).bind λcs=>k (.ptr (cy i) 0 0) [(cy i,some (.cells cs.length [cs]))] [] []
def ZI(d:Int):Option (DV X)->Option Int
 |none=>some d
 |some (.c (.int _) n)=>some n
 |_=>none
def T7(t:TypeId)(x:DV X)(lo hi:Option (DV X))(get:Nat->Option (br X))(k:KK X A):Option A:=
 (T t).bind λti=>match ti.k with
 | .slice e=>(T e).bind λei=>match x with
  | .own kk aa len=>(get kk).bind λo=>if (bG o).sz=ei.size then(ZI 0 lo).bind λl=>(ZI len hi).bind λh=>
   bif yF l h len then k (.own kk (aa+l.toNat) (h.toNat -l.toNat)) [] [kk] []else none else none
  | .c (.sl c) xs=>if CT.sz X c=ei.size then(ZI 0 lo).bind λl=>(ZI xs.length hi).bind λh=>
   bif yF l h xs.length then k (.c (.sl c) (sub xs l.toNat (h.toNat -l.toNat))) [] [] []else none else none
  |_=>none
 |_=>none
def SJ(y:DV X)(c:CT X.ι)(get:Nat->Option (br X)):Option (Nat×List (CT.T X.toSE c)×List Nat):=
 match y with
 | .own kk aa len=>(get kk).bind λo=>match o with
  | .dc b l=>(gD (.sl b) (.sl c) l).bind λl=>some (len,sub l aa len,[kk])
  |_=>none
 | .c b l=>(gD b (.sl c) l).bind λ(l:List (CT.T X.toSE c))=>some (l.length,l,[])
 |_=>none
def WT{α:Type}:Nat->List α->List α
 | 0,l=>l
 |n+1,l=>l.drop (n+1)
def W6(i:Nat)(t:TypeId)(x y:DV X)(get:Nat->Option (br X))(k:KK X A):Option A:=
 (T t).bind λti=>match ti.k with
 | .slice e=>(T e).bind λei=>(ao e).bind λc=>if CT.sz X c=ei.size then(SJ y c get).bind λs=>match x with
  | .own kk aa len=>(get kk).bind λo=>match o with
   | .dc b l=>(gD (.sl b) (.sl c) l).bind λ(l:List (CT.T X.toSE c))=>bif bR (WT aa l).length len s.2.1.length s.1 ei.bytes then j6 (WT aa l++s.2.1) λr=>k (.own (cy i) 0 r.length) [(cy i,some (.dc c r)),(kk,none)] (kk::s.2.2) [kk]else none
   |_=>none
  | .nil=>bif bR 0 0 s.2.1.length s.1 ei.bytes then j6 s.2.1 λr=>k (.own (cy i) 0 r.length) [(cy i,some (.dc c r))] s.2.2 []else none
  |_=>none
  else none
 |_=>none
def WU(i:Nat)(b:Builtin)(args:List (DV X))(cV:List TypeId)(get:Nat->Option (br X))(k:KK X A):Option A:=
 match b,args,cV with
 | .len,[x],[t]=>SO T t x k
 | .max,args,_=>IM true args k
 | .min,args,_=>IM false args k
 | .append,[x,y],[t,u]=>if t=u then W6 T ao i t x y get k else none
 |_,_,_=>none
def IH(i:Nat)(o:Op)(ρ:Operand->DV X)(get:Nat->Option (br X))(k:KK X A):Option A:=
 match o with
 | .move x=>k (ρ x) [] [] []
 | .assign x=>k (ρ x) [] [] []
 | .pick c a b=>match ρ c with | .c .bool t=>k (TX t (ρ a) (ρ b)) [] [] [] |_=>none
 | .alloc e=>T8 T i e k
 | .box _ x=>SM i (ρ x) k
 | .build t parts=>Up T t (parts.toList.map λp=>(p.1,ρ p.2)) k
 | .buildSlice t len parts=>J7 T ao i t len (parts.toList.map λp=>(p.1,ρ p.2)) k
 | .load t a=>Of T t (ρ a) get k
 | .store t a x=>NO T t (ρ a) (ρ x) get k
 | .binOp op t x y _=>SP T op t (ρ x) (ρ y) k
 | .unOp op _ x=>NL op (ρ x) k
 | .makeFunc (.func f) first caps=>k (.fn f (first.toList.map ρ) (caps.toList.map ρ)) [] [] []
 | .slice t x lo hi none=>T7 T t (ρ x) (lo.map ρ) (hi.map ρ) get k
 | .fieldAddr t x f=>Nl T t (ρ x) f k
 | .field t x f=>UP T t (ρ x) f k
 | .indexAddr t x j=>Nn T t (ρ x) (ρ j) get k
 | .extract x j=>WS (ρ x) j k
 | .call { callee:= .builtin b,args:=args,argTypes:=cV }=>WU T ao i b (args.toList.map ρ) cV.toList get k
 |_=>none
end
section
variable {X:SX} {A:Type} {T:dy} {ao:TypeId->Option (CT X.ι)} {get:Nat->Option (br X)} {k:KK X A} {r:A} {i:Nat}
def fD(get:Nat->Option (br X)):Nat->Option aU:=λj=>(get j).map bG
theorem dO{rd:List Nat}{j:Nat}{o:br X}(hj:j∈rd)(h:get j=some o):dG rd (fD get) j=some (bG o):=by simp[dG,hj,fD,h]
theorem lQ(l:List (DV X)):(bK l).length=l.length:=by simp[oC]
theorem kG(l:List (DV X))(a b:Nat):bK ((l.drop a).take b)=((bK l).drop a).take b:=by simp[oC,map_take,map_drop]
theorem OU{α:Type}{l:List α}{n:Int}{x:α}(h:bo l n=some x):0<=n/\l[n.toNat]? =some x:=by
 unfold bo at h;by_cases hn:0<=n
 ·simpa[hn]using h
 ·simp[hn]at h
theorem aiN(t:Bool)(x y:DV X):den (TX t x y)=H4 t (den x) (den y):=by
 rw[V5];have base:∀x y:DV X,den (bif t then x else y)=if t=true then den x else den y:=λx y=>by cases t<;>rfl
 unfold TX;split
 ·rename_i a p b q;split
  ·rename_i h _;subst h;cases t<;>rfl
  ·exact base _ _
 ·exact base _ _
theorem E9{agg:Bool}{size:Nat}{cs:List (DV X)}{v:DV X}(h:J5 agg size cs=some v):part' agg size (bK cs)=some (den v):=by
 unfold J5 at h;unfold part';rw[lQ];split at h
 ·rename_i hl;rw[aP hl];cases agg with
  |true=>simp only[if_true,aA]at h ⊢;subst h;rfl
  |false=>
   simp only[Bool.false_eq_true,if_false]at h ⊢
   match cs,h with
   |[x],h=>
    simp only at h;split at h
    ·rename_i hx;cases h;simp only[bK];rw[aP (Tw hx)]
    ·cases h
   |[],h=>cases h
   |_::_::_,h=>cases h
 ·cases h
theorem Ri{agg:Bool}{size aa:Nat}{c:CT X.ι}{y:CT.T X.toSE c}{v:DV X}(h:J5 agg size (((vU c y).drop aa).take size)=some v):part' agg size ((((CT.row X.toSE c y).drop aa).take size).map AV.t)=some (den v):=by
 have:=E9 h;rw[kG,nU]at this;rw[<- this,map_take,map_drop]
theorem aaL{agg:Bool}{size aa:Nat}{c:CT X.ι}{y:CT.T X.toSE c}{v:DV X}(h:L4 agg size c y aa=some v):part' agg size ((((CT.row X.toSE c y).drop aa).take size).map AV.t)=some (den v):=by
 cases c
 case st j=>
  simp only[L4]at h;split at h
  ·rename_i hh;obtain⟨rfl,rfl,rfl⟩:=hh;cases h;have hl:(CT.row X.toSE (.st j) y).length=(X.cV j).length:=Du (.st j) y;rw[List.drop_zero,take_of_length_le (by omega)];unfold part';rw[aP (by simpa using hl)];rfl
  ·exact Ri h
 all_goals exact Ri h
theorem aiO{t:TypeId}{x:DV X}(h:Of T t x get k=some r):∃cw rd dv ab,EX T t (den x) cw (dG rd (fD get))=some ab/\j5 ab.obs/\ab.v=den dv/\ab.upd=[]/\k dv [] rd []=some r:=by
 unfold Of at h;unfold EX;rw[ai]at h;obtain⟨ti,h1,h⟩:=h;simp only[h1,ah];split at h
 ·rename_i kk row aa;rw[ai]at h;obtain⟨o,h2,h⟩:=h;split at h
  ·rename_i sz rows;rw[ai]at h;obtain⟨rw',h3,h⟩:=h;rw[ai]at h;obtain⟨v,h4,h⟩:=h;refine⟨.none,[kk],v,⟨den v,[],[]⟩,?_,trivial,rfl,rfl,h⟩;have h5:=E9 h4;rw[kG]at h5;simp[den,dO (List.mem_singleton_self kk) h2,bG,h3,h5,pv]
  ·cases h
 ·rename_i kk n aa;rw[ai]at h;obtain⟨o,h2,h⟩:=h;split at h
  ·rename_i c l;rw[ai]at h;obtain⟨y,h3,h⟩:=h;rw[ai]at h;obtain⟨v,h4,h⟩:=h;have⟨_,h6⟩:=OU h3;refine⟨.row ((CT.row X.toSE c y).map AV.t),[kk],v,⟨den v,[],[(aL (l.map (CT.row X.toSE c)))[n.toNat]? =some ((CT.row X.toSE c y).map AV.t)]⟩,?_,?_,rfl,rfl,h⟩
   ·have h5:=aaL h4;rw[map_take,map_drop]at h5;simp only[den,dO (List.mem_singleton_self kk) h2,ah,bG,h5,k5]
   ·simp[j5,aL,h6]
  ·cases h
 ·rename_i c y aa;have⟨v,h4,h⟩:=ai.1 h;refine⟨.none,[],v,⟨den v,[],[]⟩,?_,trivial,rfl,rfl,h⟩;simp only[den,aaL h4,ah,pv]
 ·cases h
theorem WV(a:List (DV X))(aa:Nat)(cs:List (DV X)):bK (HR a aa cs)=put' (bK a) aa (bK cs):=by simp[HR,put',oC,map_take,map_drop]
theorem iU{a c:CT X.ι}{x:CT.T X.toSE a}{y:CT.T X.toSE c}(h:gD a c x=some y):den (.c a x)=den (.c c y)/\CT.row X.toSE a x=CT.row X.toSE c y:=by
 have⟨e,h⟩:=mJ h;subst e;subst h;exact⟨rfl,rfl⟩
theorem MM{c:CT X.ι}(hc:c.one=true)(x:CT.T X.toSE c):[(CT.tv X.toSE c x).av]=(CT.row X.toSE c x).map AV.t:=by
 obtain⟨t,h1,h2⟩:=row_one hc x;rw[h1,h2];rfl
theorem am5{c:CT X.ι}(x:CT.T X.toSE c):wk (CT.tv X.toSE c x).av=(CT.tv X.toSE c x).av:=by cases c<;>rfl
theorem xu{d:DV X}{c:CT X.ι}{x:CT.T X.toSE c}(h:Mi d c=some x):wk (den d)=(CT.tv X.toSE c x).av:=by
 unfold Mi at h;split at h
 ·rw[(iU h).1];exact am5 x
 ·cases h;rfl
 ·cases h;rfl
 ·cases h
theorem W0{d:DV X}{c:CT X.ι}{x:CT.T X.toSE c}(hc:c.one=true)(h:Mi d c=some x):wR d=true:=by
 cases d
 case c a y=>
  obtain⟨e,_⟩:=mJ (show gD a c y=some x by cases c<;>exact h);subst e;cases a<;>first |rfl |simp[CT.one]at hc
 case nil=>rfl
 all_goals cases c<;>cases h
theorem Ap:∀{ds:List (DV X)}{l:List (CT X.ι)}{h:HL X.toSE l},Ao ds l=some h->l.all CT.one=true->(bK ds).map wk=(HL.row X.toSE l h).map AV.t/\ds.all wR=true
 |[],[],h,_,_=>⟨rfl,rfl⟩
 |d::ds,c::l,h,hr,ha=>by
  simp only[Ao]at hr;have⟨x,h1,hr⟩:=ai.1 hr;have⟨g,h2,hr⟩:=ai.1 hr;cases hr;simp only[all_cons,aJ]at ha ⊢;have⟨i1,i2⟩:=Ap h2 ha.2;simp only[bK,aC,HL.row,map_append,i1,xu h1,i2,and_true,W0 ha.1 h1];simp[<- MM ha.1 x]
 |[],_::_,_,hr,_=>by simp[Ao]at hr
 |_::_,[],_,hr,_=>by simp[Ao]at hr
theorem WW(j:X.ι)(h:HL X.toSE (X.cV j)):CT.row X.toSE (.st j) (X.make j h)=HL.row X.toSE (X.cV j) h:=X.gh j h
theorem al9{c:CT X.ι}(hc:c.one=true){ds:List (DV X)}{x:CT.T X.toSE c}(h:ZS c ds=some x):(bK ds).map wk=(CT.row X.toSE c x).map AV.t:=by
 match ds,h with
 |[d],h=>
  rw[<- MM hc x];simp only[bK,aC,map_nil,xu h]
 |[],h=>cases h
 |_::_::_,h=>cases h
theorem Aa{c:CT X.ι}{ds:List (DV X)}{x:CT.T X.toSE c}(h:OT c ds=some x):(bK ds).map wk=(CT.row X.toSE c x).map AV.t:=by
 cases c
 case st j=>
  simp only[OT]at h;have⟨g,h1,h⟩:=ai.1 h;cases h;rw[(Ap h1 (X.flat j)).1,WW]
 all_goals exact al9 rfl h
theorem agj{d:DV X}{c:CT X.ι}(hc:c.one=true){x:CT.T X.toSE c}(h:Mi d c=some x):∃cs,cellsOf (den d)=some cs/\cs.map wk=(CT.row X.toSE c x).map AV.t:=by
 have hk:=W0 hc h;have hd:=xu h;have he:cellsOf (den d)=some [den d]:=by
  have:=Al (x:=d) (cs:=[d]) (by
   cases d
   case c t y=>cases t<;>first |rfl |simp[wR]at hk
   all_goals first |rfl |simp[wR]at hk)
  simpa[bK]using this
 exact⟨_,he,by rw[<- MM hc x];simp[hd]⟩
theorem aiP{d:DV X}{c:CT X.ι}{x:CT.T X.toSE c}(h:dat d c=some x):∃cs,cellsOf (den d)=some cs/\cs.map wk=(CT.row X.toSE c x).map AV.t:=by
 cases c
 case st j=>
  replace h:BW d j=some x:=h
  cases d
  case agg cs=>
   simp only[BW]at h;have⟨g,h1,h⟩:=ai.1 h;cases h;have⟨i1,i2⟩:=Ap h1 (X.flat j);refine⟨bK cs,?_,by rw[i1,WW]⟩;simp only[den,cellsOf];rw[aP (ahZ i2)]
  case c a y=>
   replace h:gD a (.st j) y=some x:=h
   rw[(iU h).1];refine⟨(CT.row X.toSE (.st j) x).map AV.t,?_,?_⟩
   ·show cellsOf (.agg _)=_;simp only[cellsOf];rw[aP]
    ·rfl
    ·rw[List.all_map,all_eq_true];exact λ_ _=>rfl
   ·rw[map_map];rfl
  all_goals cases h
 all_goals exact agj rfl h
theorem aiQ{t:TypeId}{x y:DV X}(h:NO T t x y get k=some r):∃cw kk u ab,VW T t (den x) (den y) cw (dG [kk] (fD get))=some ab/\j5 ab.obs/\ab.v= .undef/\ab.upd=gM [(kk,u)]/\k .undef [(kk,u)] [kk] [kk]=some r:=by
 unfold NO at h;unfold VW;rw[ai]at h;obtain⟨ti,h1,h⟩:=h;rw[ai]at h;obtain⟨cs,h2,h⟩:=h;simp only[h1,Al h2,ah];split at h
 ·rename_i hl;have hdl:(bK cs).length=ti.size:=by rw[lQ];exact hl
  simp only[hdl,if_true];split at h
  ·rename_i kk row aa;rw[ai]at h;obtain⟨o,h3,h⟩:=h;split at h
   ·rename_i sz rows;rw[ai]at h;obtain⟨rw',h4,h⟩:=h;split at h
    ·rename_i hle;refine⟨.none,kk,_,⟨.undef,_,[]⟩,?_,trivial,rfl,rfl,h⟩;simp only[den,dO (List.mem_singleton_self kk) h3,ah,bG,List.getElem?_map,h4,Option.map_some,lQ];rw[aP (by rw[<- hl];exact hle)];simp[gM,bG,WV]
    ·cases h
   ·cases h
  ·rename_i kk n aa;rw[ai]at h;obtain⟨o,h3,h⟩:=h;split at h
   ·rename_i c l;rw[ai]at h;obtain⟨z,h4,h⟩:=h;split at h
    ·rename_i hle;have⟨z',h5,h⟩:=ai.1 h;have⟨_,h6⟩:=OU h4;refine⟨.set ((CT.row X.toSE c z).map AV.t) (aL ((l.set n.toNat z').map (CT.row X.toSE c))),kk,_,⟨.undef,_,[(aL (l.map (CT.row X.toSE c)))[n.toNat]? =some ((CT.row X.toSE c z).map AV.t)/\aL ((l.set n.toNat z').map (CT.row X.toSE c))=dV ((aL (l.map (CT.row X.toSE c))).set n.toNat (put' ((CT.row X.toSE c z).map AV.t) aa (bK cs)))]⟩,?_,?_,rfl,rfl,h⟩
     ·simp only[den,dO (List.mem_singleton_self kk) h3,ah,bG];rw[aP (by rw[length_map,Du,<- hl];exact hle)];simp[gM,bG]
     ·refine⟨by simp[aL,h6],?_⟩;have h7:=Aa h5;rw[WV,nU]at h7;have hid:dV (aL (l.map (CT.row X.toSE c)))=aL (l.map (CT.row X.toSE c)):=(by simp[dV,aL,Function.comp_def,wk]);simp only[dV,List.map_set,h7];have:(aL (l.map (CT.row X.toSE c))).map (List.map wk)=aL (l.map (CT.row X.toSE c)):=hid;rw[this];simp[aL]
    ·cases h
   ·cases h
  ·cases h
 ·cases h
theorem Rj{t:TypeId}{x:DV X}{f:Nat}(h:Nl T t x f k=some r):∃dv ab,Ai T t (den x) f=some ab/\j5 ab.obs/\ab.v=den dv/\ab.upd=[]/\k dv [] [] []=some r:=by
 unfold Nl at h;unfold Ai;rw[ai]at h;obtain⟨⟨d,u⟩,h1,h⟩:=h;simp only[h1,ah];split at h
 ·exact⟨_,_,rfl,trivial,rfl,rfl,h⟩
 ·exact⟨_,_,rfl,trivial,rfl,rfl,h⟩
 ·exact⟨_,_,rfl,trivial,rfl,rfl,h⟩
 ·cases h
theorem ab8{t:TypeId}{x:DV X}{f:Nat}(h:UP T t x f k=some r):∃dv ab,VX T t (den x) f=some ab/\j5 ab.obs/\ab.v=den dv/\ab.upd=[]/\k dv [] [] []=some r:=by
 unfold UP at h;unfold VX;rw[ai]at h;obtain⟨⟨d,u⟩,h1,h⟩:=h;simp only[h1,ah];split at h
 ·rw[ai]at h;obtain⟨v,h2,h⟩:=h;have h3:=E9 h2;rw[kG]at h3;exact⟨v,⟨den v,[],[]⟩,by simp only[den,h3,ah,pv],trivial,rfl,rfl,h⟩
 ·rename_i j y;have⟨v,h2,h⟩:=ai.1 h;have h3:=Ri h2;rw[map_take,map_drop]at h3;refine⟨v,⟨den v,[],[]⟩,?_,trivial,rfl,rfl,h⟩;show(part' u.agg u.size (List.take u.size (List.drop d ((CT.row X.toSE (.st j) y).map AV.t)))).bind pv=_;rw[h3];rfl
 ·cases h
theorem dF{α:Type}{b:Bool}{x:Option α}{r:α}(h:(bif b then x else none)=some r):b=true/\x=some r:=by
 cases b with
 |true=>exact⟨rfl,h⟩
 |false=>cases h
theorem WX{n:Int}{len:Nat}(h:b9 n len=true):0<=n/\n.toNat<len:=by simp only[b9,aJ,aT]at h;omega
theorem qd{A:Type}:∀{cs:List Bool}{k:Option A}{r:A},WR cs k=some r->(∀ c∈cs,c=true)/\k=some r
 |[],_,_,h=>⟨by simp,h⟩
 |c::cs,k,r,h=>by
  have⟨h1,h2⟩:=dF h;have⟨h3,h4⟩:=qd h2;exact⟨λ x hx=>(aN.1 hx).elim (λ e=>e ▸ h1) (h3 x),h4⟩
theorem Rk{t:TypeId}{x j:DV X}(h:Nn T t x j get k=some r):∃cw rd dv ab,mI T t (den x) (den j) cw (dG rd (fD get))=some ab/\j5 ab.obs/\ab.v=den dv/\ab.upd=[]/\k dv [] rd []=some r:=by
 unfold Nn at h;unfold mI;rw[ai]at h;obtain⟨ti,h1,h⟩:=h;simp only[h1,ah];split at h
 ·rename_i e kd n hk;rw[ai]at h;obtain⟨ei,h2,h⟩:=h;simp only[hk,den,CT.tv,TV.av,h2,ah];split at h
  ·rename_i c l;split at h
   ·rename_i hs;rw[ai]at h;obtain⟨y,h3,h⟩:=h;have⟨h4,h5⟩:=OU h3;refine⟨.rS (CT.row X.toSE c y),[],_,⟨.eo (CT.row X.toSE c y) 0,[],[0<=n/\(l.map (CT.row X.toSE c))[n.toNat]? =some (CT.row X.toSE c y)]⟩,?_,?_,rfl,rfl,h⟩
    ·simp only[den,CT.tv,TV.av];rw[aP (by rw[Du];exact hs)];rfl
    ·exact⟨h4,by simp[h5]⟩
   ·cases h
  ·rename_i kk aa len;rw[ai]at h;obtain⟨o,h3,h⟩:=h;split at h
   ·rename_i c l;split at h
    ·rename_i hs;have⟨h4,h⟩:=dF h;have⟨h5,h6⟩:=WX h4;refine⟨.none,[kk],_,⟨.ptr kk (aa+n.toNat) 0,[],[0<=n/\n.toNat<len]⟩,?_,⟨h5,h6⟩,?_,rfl,h⟩
     ·simp only[den,dO (List.mem_singleton_self kk) h3,ah,bG];rw[aP hs];rfl
     ·simp only[den,iN];congr 1;show aa+Int.toNat n=Int.toNat ((aa:Int)+n);have:(0:Int)<=n:=h5;omega
    ·cases h
   ·rename_i sz rows;split at h
    ·rename_i hs;have⟨h4,h⟩:=dF h;have⟨h5,h6⟩:=WX h4;refine⟨.none,[kk],_,⟨.ptr kk (aa+n.toNat) 0,[],[0<=n/\n.toNat<len]⟩,?_,⟨h5,h6⟩,rfl,rfl,h⟩;simp only[den,dO (List.mem_singleton_self kk) h3,ah,bG];rw[aP hs];rfl
    ·cases h
   ·cases h
  ·cases h
 ·rename_i m e kd n hk;have⟨ei,h2,h⟩:=ai.1 h;simp only[hk,den,CT.tv,TV.av,h2,ah];have⟨h4,h⟩:=dF h;have⟨h5,h6⟩:=WX h4;split at h
  ·exact⟨.none,[],_,_,rfl,⟨h5,h6⟩,rfl,rfl,h⟩
  ·exact⟨.none,[],_,_,rfl,⟨h5,h6⟩,rfl,rfl,h⟩
  ·exact⟨.none,[],_,_,rfl,⟨h5,h6⟩,rfl,rfl,h⟩
  ·cases h
 ·cases h
theorem WY{x:DV X}{j:Nat}(h:WS x j k=some r):∃dv ab,JV (den x) j=some ab/\j5 ab.obs/\ab.v=den dv/\ab.upd=[]/\k dv [] [] []=some r:=by
 unfold WS at h;split at h
 ·have⟨v,h2,h⟩:=ai.1 h;refine⟨v,⟨den v,[],[]⟩,?_,trivial,rfl,rfl,h⟩;simp[JV,den,oC,h2,pv]
 ·cases h
end
section
variable {X:SX} {A:Type} {T:dy} {ao:TypeId->Option (CT X.ι)} {get:Nat->Option (br X)} {k:KK X A} {r:A} {i:Nat}
theorem ab9{op:BinOp}{kd:IntKind}{a b:Int}:∃v obs,VU op kd a b=some (v,obs)/\den (J6 (X:=X) op kd a b).1= .t (.sc v)/\(∀ g,(J6 (X:=X) op kd a b).2=some g->g=true->j5 obs)/\((J6 (X:=X) op kd a b).2=none->j5 obs):=by
 cases op<;>refine⟨_,_,rfl,rfl,λg hg ht=>?_,λhn=>?_⟩<;>simp only[J6,aA,reduceCtorEq]at* <;>try trivial
 all_goals subst hg;simp_all [j5]
theorem adP{n:Nat}{x y:DV X}{b:Bool}(h:W7 n x y=some b):Nj n (den x) (den y)=some b:=by
 unfold W7 at h;split at h
 ·split at h
  ·cases h;simp only[den,CT.tv,TV.av,Nj];rw[aP ‹_›]
  ·cases h
 ·exact h
 ·exact h
 ·cases h
theorem OV:∀{ks:List Nat}{xs ys:List (DV X)}{b:Bool},xq ks xs ys=some b->um ks (bK xs) (bK ys)=some b
 |[],[],[],b,h=>h
 |k::ks,x::xs,y::ys,b,h=>by
  simp only[xq]at h;rw[ai]at h;obtain⟨p,h1,h⟩:=h;rw[ai]at h;obtain⟨q,h2,h⟩:=h;simp only[bK,um,adP h1,OV h2,ah,h]
 |[],_::_,_,_,h=>by simp[xq]at h
 |[],[],_::_,_,h=>by simp[xq]at h
 |_::_,[],_,_,h=>by simp[xq]at h
 |_::_,_::_,[],_,h=>by simp[xq]at h
theorem adQ{x:DV X}{xs:List (DV X)}(h:Kd x=some xs):den x= .agg (bK xs):=by
 unfold Kd at h;split at h
 ·cases h;rfl
 ·rename_i j y;cases h;rw[nU];rfl
 ·cases h
theorem agk{op:BinOp}{t:TypeId}{x y:DV X}(h:SP T op t x y k=some r):∃dv ab,Zp T op t (den x) (den y)=some ab/\j5 ab.obs/\ab.v=den dv/\ab.upd=[]/\k dv [] [] []=some r:=by
 unfold SP at h;split at h
 ·rename_i kd a yk b;split at h
  ·rename_i hk;have⟨v,obs,h1,h2,h3,h4⟩:=ab9 (X:=X) (op:=op) (kd:=kd) (a:=a) (b:=b);have fin:j5 obs->k (J6 op kd a b).1 [] [] []=some r->∃dv ab,Zp T op t (den (.c (.int kd) a:DV X)) (den (.c (.int yk) b:DV X))=some ab/\j5 ab.obs/\ab.v=den dv/\ab.upd=[]/\k dv [] [] []=some r:=by
    intro ho hkk;refine⟨_,⟨.t (.sc v),[],obs⟩,?_,ho,h2.symm,rfl,hkk⟩;simp only[den,CT.tv,TV.av,Zp];rw[aP hk,h1];rfl
   split at h
   ·rename_i hn;exact fin (h4 hn) h
   ·rename_i g hg;have⟨hgt,h⟩:=dF h;exact fin (h3 g hg hgt) h
  ·cases h
 ·split at h
  ·exact⟨_,_,rfl,trivial,rfl,rfl,h⟩
  ·exact⟨_,_,rfl,trivial,rfl,rfl,h⟩
  ·exact⟨_,_,rfl,trivial,rfl,rfl,h⟩
  ·exact⟨_,_,rfl,trivial,rfl,rfl,h⟩
  ·have⟨hc,h⟩:=dF h;exact⟨_,_,rfl,show _<=maxLen from of_decide_eq_true hc,rfl,rfl,h⟩
  ·cases h
 ·rw[ai]at h;obtain⟨ti,h1,h⟩:=h;split at h
  ·rename_i hk;refine⟨_,⟨.t (.sc (.bool _)),[],[]⟩,?_,trivial,rfl,rfl,h⟩;simp only[den,CT.tv,TV.av,Zp,h1,ah,hk];rfl
  ·rename_i hk;refine⟨_,⟨.t (.sc (.bool _)),[],[]⟩,?_,trivial,rfl,rfl,h⟩;simp only[den,CT.tv,TV.av,Zp,h1,ah,hk];rfl
  ·cases h
 ·rw[ai]at h;obtain⟨xs,h1,h⟩:=h;rw[ai]at h;obtain⟨ys,h2,h⟩:=h;rw[ai]at h;obtain⟨ti,h3,h⟩:=h;split at h
  ·cases h
  ·rename_i hc;have⟨b,h4,h⟩:=ai.1 h;have h5:=OV h4;rw[adQ h1,adQ h2];split at h
   ·refine⟨_,⟨.t (.sc (.bool b)),[],[]⟩,?_,trivial,rfl,rfl,h⟩;simp only[Zp,h3,ah];rw[aO hc,h5];rfl
   ·refine⟨_,⟨.t (.sc (.bool (!b))),[],[]⟩,?_,trivial,rfl,rfl,h⟩;simp only[Zp,h3,ah];rw[aO hc,h5];rfl
   ·cases h
theorem aiR{op:UnOp}{x:DV X}(h:NL op x k=some r):∃dv ab,MT op (den x)=some ab/\j5 ab.obs/\ab.v=den dv/\ab.upd=[]/\k dv [] [] []=some r:=by
 unfold NL at h;split at h
 ·exact⟨_,_,rfl,trivial,rfl,rfl,h⟩
 ·exact⟨_,_,rfl,trivial,rfl,rfl,h⟩
 ·cases h
theorem Tx(mx:Bool)(kd:IntKind):∀(l:List (DV X))(a n:Int),LB mx kd a l=some n->Gr mx kd a (bK l)=some n
 |[],a,n,h=>h
 |x::l,a,n,h=>by
  cases x
  case c t y=>
   cases t
   case int k'=>
    simp only[LB]at h;simp only[bK,den,CT.tv,TV.av,Gr];split at h
    ·rename_i hk;rw[aP hk];exact Tx mx kd l _ _ h
    ·cases h
   all_goals simp[LB]at h
  all_goals simp[LB]at h
theorem aaM{mx:Bool}{args:List (DV X)}(h:IM mx args k=some r):∃dv ab,Fc mx (bK args)=some ab/\j5 ab.obs/\ab.v=den dv/\ab.upd=[]/\k dv [] [] []=some r:=by
 unfold IM at h;split at h
 ·rename_i kd a l;rw[ai]at h;obtain⟨n,h1,h⟩:=h;refine⟨_,⟨.t (.sc (.int kd n)),[],[]⟩,?_,trivial,rfl,rfl,h⟩;simp only[bK,den,CT.tv,TV.av,Fc];have:=Tx mx kd l a n h1;simp only[this];rfl
 ·cases h
theorem agl{t:TypeId}{x:DV X}(h:SO T t x k=some r):∃cw dv ab,xv T t (den x) cw=some ab/\j5 ab.obs/\ab.v=den dv/\ab.upd=[]/\k dv [] [] []=some r:=by
 unfold SO at h;unfold xv;rw[ai]at h;obtain⟨ti,h1,h⟩:=h;simp only[h1,ah];split at h
 ·rename_i e c l hk;simp only[hk];exact⟨.num (l.length:Int),_,⟨.t (.sc (.int .i64 (l.length:Int))),[],[(l.length:Int)=((l.map (CT.row X.toSE c)).length:Int)]⟩,rfl,by simp[j5],rfl,rfl,h⟩
 ·rename_i hk;simp only[hk];exact⟨.none,_,_,rfl,trivial,rfl,rfl,h⟩
 ·rename_i hk;simp only[hk];exact⟨.none,_,_,rfl,trivial,rfl,rfl,h⟩
 ·rename_i hk;simp only[hk];exact⟨.none,_,_,rfl,trivial,rfl,rfl,h⟩
 ·rename_i hk;simp only[hk];exact⟨.none,_,_,rfl,trivial,rfl,rfl,h⟩
 ·cases h
theorem Rl(place:Nat->Option (Nat×Nat)):∀(parts:List (Nat×DV X))(cells ab:List (DV X)),EE place cells parts=some ab->Iy place (bK cells) (parts.map λp=>(p.1,den p.2))=some (bK ab)
 |[],cells,ab,h=>by simp only[EE,aA]at h;subst h;rfl
 |(j,x)::ag,cells,ab,h=>by
  simp only[EE]at h;rw[ai]at h;obtain⟨⟨aa,size⟩,h1,h⟩:=h;rw[ai]at h;obtain⟨cs,h2,h⟩:=h;split at h
  ·rename_i hl;simp only[aC,Iy,h1,Al h2,ah,lQ];rw[aP hl,<- WV];exact Rl place ag _ _ h
  ·cases h
theorem acd{t:TypeId}{parts:List (Nat×DV X)}(h:Up T t parts k=some r):∃dv ab,VY T t (parts.map λp=>(p.1,den p.2))=some ab/\j5 ab.obs/\ab.v=den dv/\ab.upd=[]/\k dv [] [] []=some r:=by
 unfold Up at h;unfold VY;rw[ai]at h;obtain⟨ti,h1,h⟩:=h;simp only[h1,ah];split at h
 ·rename_i fs hk;split at h
  ·rename_i ha;rw[ai]at h;obtain⟨cells,h2,h⟩:=h;have h3:=Rl _ _ _ _ h2;rw[Am]at h3;refine⟨_,⟨.agg (bK cells),[],[]⟩,?_,trivial,rfl,rfl,h⟩;simp only[hk];rw[aP ha,h3];rfl
  ·cases h
 ·rename_i m e hk;rw[ai]at h;obtain⟨ei,h2,h⟩:=h;rw[ai]at h;obtain⟨cells,h3,h⟩:=h;have h4:=Rl _ _ _ _ h3;rw[Am]at h4;refine⟨_,⟨.agg (bK cells),[],[]⟩,?_,trivial,rfl,rfl,h⟩;simp only[hk,h2,ah,h4];rfl
 ·cases h
theorem aaN(size:Nat)(c:CT X.ι)(hs:CT.sz X c=size)(z:List AV):∀(parts:List (Nat×DV X))(n:Nat)(l:List (CT.T X.toSE c))(done:List (List AV)),HQ c n parts=some l->done.length=n->
 ∃css:List (List AV),Oq size (done++List.replicate parts.length z) (parts.map λp=>(p.1,den p.2))=some (done++css)/\css.map (λ r=>r.map wk)=aL (l.map (CT.row X.toSE c))
 |[],n,l,done,h,_=>by
  simp only[HQ,aA]at h;subst h;exact⟨[],by simp[Oq],rfl⟩
 |(j,x)::ag,n,l,done,h,hd=>by
  simp only[HQ]at h;split at h
  ·rename_i hj;subst hj;have⟨y,h1,h⟩:=ai.1 h;have⟨l',h2,h⟩:=ai.1 h;cases h;have⟨cs,g1,g2⟩:=aiP h1;have hl:cs.length=size:=by
    have:=congrArg List.length g2;simp only[length_map,Du]at this;omega
   obtain⟨css,i1,i2⟩:=aaN size c hs z ag (j+1) l' (done++[cs]) h2 (by simp[hd]);refine⟨cs::css,?_,?_⟩
   ·simp only[aC,Oq,g1,ah];rw[aP ⟨hl,by simp;omega⟩];have:(done++List.replicate (ag.length+1) z).set j cs=done++[cs]++List.replicate ag.length z:=by
     rw[List.set_append_right _ _ (by omega),hd];simp[List.replicate_succ]
    simp only[bF,this,i1];simp
   ·simp only[aC,i2,g2,aL,aC]
  ·cases h
theorem OW{t:TypeId}{len:Nat}{parts:List (Nat×DV X)}(h:J7 T ao i t len parts k=some r):∃dv u ab,xk T i t len (parts.map λp=>(p.1,den p.2))=some ab/\j5 ab.obs/\ab.v=den dv/\ab.upd=gM [(cy i,u)]/\k dv [(cy i,u)] [] []=some r:=by
 unfold J7 at h;unfold xk;rw[ai]at h;obtain⟨ti,h1,h⟩:=h;simp only[h1,ah];split at h
 ·rename_i e hk;rw[ai]at h;obtain⟨ei,h2,h⟩:=h;rw[ai]at h;obtain⟨c,h3,h⟩:=h;simp only[hk,h2,ah];split at h
  ·cases h
  ·rename_i hno;simp only[not_or,Decidable.not_not]at hno;obtain⟨n1,n2,n3,n4⟩:=hno;have⟨l,h4,h⟩:=ai.1 h;have⟨css,g1,g2⟩:=aaN ei.size c n3 (ei.zero.map cv) parts 0 l [] h4 rfl;simp only[bO,n4]at g1;refine⟨_,_,⟨.own (cy i) 0 len,[(cy i,some ⟨ei.size,dV css⟩)],[]⟩,?_,trivial,rfl,?_,h⟩
   ·rw[aO (by simp only[not_or];exact⟨n1,n2⟩),g1];rfl
   ·simp only[gM,bG,aC,map_nil,Option.map_some,n3];rw[show dV css=aL (l.map (CT.row X.toSE c))from g2]
 ·cases h
theorem ace{e:TypeId}(h:T8 T i e k=some r):∃dv u ab,VZ T i e=some ab/\j5 ab.obs/\ab.v=den dv/\ab.upd=gM [(cy i,u)]/\k dv [(cy i,u)] [] []=some r:=by
 unfold T8 at h;unfold VZ;have⟨ti,h1,h⟩:=ai.1 h;exact⟨_,_,⟨_,[(cy i,some ⟨ti.size,[ti.zero.map cv]⟩)],[]⟩,by simp only[h1,ah];rfl,trivial,rfl,by simp[gM,bG,Am],h⟩
theorem agm{x:DV X}(h:SM i x k=some r):∃dv u ab,HU i (den x)=some ab/\j5 ab.obs/\ab.v=den dv/\ab.upd=gM [(cy i,u)]/\k dv [(cy i,u)] [] []=some r:=by
 unfold SM at h;unfold HU;rw[ai]at h;obtain⟨cs,h1,h⟩:=h;exact⟨_,_,⟨_,[(cy i,some ⟨(bK cs).length,[bK cs]⟩)],[]⟩,by simp only[Al h1,ah];rfl,trivial,rfl,by simp[gM,bG,lQ],h⟩
theorem xw{d n:Int}{x:Option (DV X)}(h:ZI d x=some n):bnd d (x.map den)=some n:=by
 unfold ZI at h;split at h
 ·exact h
 ·exact h
 ·cases h
theorem aaO{l h:Int}{len:Nat}(hh:yF l h len=true):0<=l/\l<=h/\h<=(len:Int):=by simpa[yF,and_assoc]using hh
theorem acf{t:TypeId}{x:DV X}{lo hi:Option (DV X)}(h:T7 T t x lo hi get k=some r):∃cw rd dv ab,V3 T t (den x) (lo.map den) (hi.map den) cw (dG rd (fD get))=some ab/\j5 ab.obs/\ab.v=den dv/\ab.upd=[]/\k dv [] rd []=some r:=by
 unfold T7 at h;unfold V3;rw[ai]at h;obtain⟨ti,h1,h⟩:=h;simp only[h1,ah];split at h
 ·rename_i e hk;rw[ai]at h;obtain⟨ei,h2,h⟩:=h;simp only[hk,h2,ah];split at h
  ·rename_i kk aa len;rw[ai]at h;obtain⟨o,h3,h⟩:=h;split at h
   ·rename_i hs;rw[ai]at h;obtain⟨l,h4,h⟩:=h;rw[ai]at h;obtain⟨hh,h5,h⟩:=h;have⟨h6,h⟩:=dF h;refine⟨.none,[kk],_,⟨.own kk (aa+l.toNat) (hh.toNat -l.toNat),[],[0<=l/\l<=hh/\hh<=(len:Int)]⟩,?_,aaO h6,rfl,rfl,h⟩;simp only[den,dO (List.mem_singleton_self kk) h3,ah];rw[aP hs,xw h4,ah,xw h5];rfl
   ·cases h
  ·rename_i c xs;split at h
   ·rename_i hs;have⟨l,h4,h⟩:=ai.1 h;have⟨hh,h5,h⟩:=ai.1 h;have⟨h6,h⟩:=dF h;refine⟨.yl ((sub xs l.toNat (hh.toNat -l.toNat)).map (CT.row X.toSE c)),[],_,⟨.t (.sl ((sub xs l.toNat (hh.toNat -l.toNat)).map (CT.row X.toSE c))),[],[0<=l/\l<=hh/\hh<=((xs.map (CT.row X.toSE c)).length:Int)/\(sub xs l.toNat (hh.toNat -l.toNat)).map (CT.row X.toSE c)=((xs.map (CT.row X.toSE c)).drop l.toNat).take (hh.toNat -l.toNat)/\(∀ q∈xs.map (CT.row X.toSE c),q.length=ei.size)]⟩,?_,?_,rfl,rfl,h⟩
    ·simp only[den,CT.tv,TV.av,xw h4,ah];have h7:bnd ((xs.map (CT.row X.toSE c)).length:Int) (hi.map den)=some hh:=by
      have:=xw h5;simpa using this
     rw[h7];rfl
    ·have⟨a1,a2,a3⟩:=aaO h6;refine⟨a1,a2,by simpa using a3,by simp[sub,map_take,map_drop],λq hq=>?_⟩;obtain⟨y,_,rfl⟩:=mem_map.1 hq;rw[Du];exact hs
   ·cases h
  ·cases h
 ·cases h
end
section
variable {X:SX} {A:Type} {T:dy} {ao:TypeId->Option (CT X.ι)} {get:Nat->Option (br X)} {k:KK X A} {r:A} {i:Nat}
theorem jo{b c:CT X.ι}{l:List (CT.T X.toSE b)}{l':List (CT.T X.toSE c)}(h:gD (.sl b) (.sl c) l=some l'):CT.sz X b=CT.sz X c/\l.map (CT.row X.toSE b)=l'.map (CT.row X.toSE c):=by
 have⟨e,h⟩:=mJ h;cases e;subst h;exact⟨rfl,rfl⟩
theorem adR{y:DV X}{c:CT X.ι}{n:Nat}{l:List (CT.T X.toSE c)}{rd:List Nat}(h:SJ y c get=some (n,l,rd))(hl:l.length=n)(rd':List Nat)(hrd:∀j∈rd,j∈rd'):
 ∃ob,V4 (CT.sz X c) (den y) (dG rd' (fD get))=some (n,ob,aL (l.map (CT.row X.toSE c)))/\ob:=by
 unfold SJ at h;split at h
 ·rename_i kk aa len;rw[ai]at h;obtain⟨o,h1,h⟩:=h;split at h
  ·rename_i b l0;rw[ai]at h;obtain⟨l1,h2,h⟩:=h;injection h with h;simp only[Prod.mk.injEq]at h;obtain⟨rfl,rfl,rfl⟩:=h;have⟨h3,h4⟩:=jo h2;refine⟨True,?_,trivial⟩;simp only[den,V4,dO (hrd kk (by simp)) h1,ah,bG];rw[aP h3];simp only[h4,aA,Prod.mk.injEq,true_and];simp[aL,sub,map_take,map_drop]
  ·cases h
 ·rename_i b l0;have⟨l1,h2,h⟩:=ai.1 h;injection h with h;simp only[Prod.mk.injEq]at h;obtain⟨rfl,rfl,rfl⟩:=h;refine⟨∀ q∈l1.map (CT.row X.toSE c),q.length=CT.sz X c,?_,?_⟩
  ·rw[(iU h2).1];simp only[den,CT.tv,TV.av,V4,length_map]
  ·intro q hq;obtain⟨z,_,rfl⟩:=mem_map.1 hq;exact Du c z
 ·cases h
theorem WZ{lo len ln n bytes:Nat}(h:bR lo len ln n bytes=true):lo=len/\ln=n/\(len+n)*bytes<=140737488355328/\len+n<=maxLen:=by simpa[bR,and_assoc]using h
theorem pb{α:Type}(n:Nat)(l:List α):WT n l=l.drop n:=by cases n<;>rfl
theorem ZJ{t:TypeId}{x y:DV X}(h:W6 T ao i t x y get k=some r):∃cw rd wr dv upd ab,Ct T i t (den x) (den y) cw (dG rd (fD get))=some ab/\j5 ab.obs/\ab.v=den dv/\ab.upd=gM upd/\(∀ p∈upd,p.1=cy i\/p.1∈wr)/\k dv upd rd wr=some r:=by
 unfold W6 at h;unfold Ct;rw[ai]at h;obtain⟨ti,h1,h⟩:=h;simp only[h1,ah];split at h
 ·rename_i e hk;rw[ai]at h;obtain⟨ei,h2,h⟩:=h;rw[ai]at h;obtain⟨c,h3,h⟩:=h;simp only[hk,h2,ah];split at h
  ·rename_i hs;rw[ai]at h;obtain⟨⟨n,l,rd⟩,h4,h⟩:=h;split at h
   ·rename_i kk aa len;rw[ai]at h;obtain⟨o,h5,h⟩:=h;split at h
    ·rename_i b l0;have⟨l1,h6,h⟩:=ai.1 h;have⟨h7,h⟩:=dF h;rw[pb]at h7 h;have hd:(aL (l1.map (CT.row X.toSE c))).drop aa=aL ((l1.drop aa).map (CT.row X.toSE c)):=(by simp[aL]);have⟨g1,g2,g3,g4⟩:=WZ h7;have⟨h8,h9⟩:=jo h6;obtain⟨ob,i1,i2⟩:=adR h4 g2 (kk::rd) (λ j hj=>by simp[hj]);have i3:=dO (rd:=kk::rd) (by simp) h5
     refine⟨.rows (aL ((l1.drop aa++l).map (CT.row X.toSE c))),kk::rd,[kk],_,_,⟨.own (cy i) 0 (aL ((l1.drop aa++l).map (CT.row X.toSE c))).length,[(cy i,some ⟨ei.size,aL ((l1.drop aa++l).map (CT.row X.toSE c))⟩),(kk,none)],
      [ob/\(aL ((l1.drop aa).map (CT.row X.toSE c))).length=len/\(aL (l.map (CT.row X.toSE c))).length=n/\aL ((l1.drop aa++l).map (CT.row X.toSE c))=aL ((l1.drop aa).map (CT.row X.toSE c))++aL (l.map (CT.row X.toSE c))/\(len+n)*ei.bytes<=140737488355328/\len+n<=maxLen]⟩,?_,?_,?_,?_,?_,h⟩
     ·rw[hs]at i1;simp only[i1,ah,den,i3,bG,h9,hd];rw[aP (by rw[h8,hs])]
     ·exact⟨i2,by simpa[aL]using g1,by simpa[aL]using g2,by simp[aL],g3,g4⟩
     ·simp[den,aL]
     ·simp[gM,bG,hs]
     ·intro p hp;simp only[aN,jB,or_false]at hp;rcases hp with rfl |rfl
      ·exact .inl rfl
      ·exact .inr (by simp)
    ·cases h
   ·have⟨h7,h⟩:=dF h;have⟨g1,g2,g3,g4⟩:=WZ h7;obtain⟨ob,i1,i2⟩:=adR h4 g2 rd (λ j hj=>hj)
    refine⟨.rows (aL (l.map (CT.row X.toSE c))),rd,[],_,_,⟨.own (cy i) 0 (aL (l.map (CT.row X.toSE c))).length,[(cy i,some ⟨ei.size,aL (l.map (CT.row X.toSE c))⟩)],
     [ob/\(aL (l.map (CT.row X.toSE c))).length=n/\aL (l.map (CT.row X.toSE c))=aL (l.map (CT.row X.toSE c))/\n*ei.bytes<=140737488355328/\n<=maxLen]⟩,?_,?_,?_,?_,?_,h⟩
    ·rw[hs]at i1;simp only[i1,ah,den]
    ·exact⟨i2,by simpa[aL]using g2,rfl,by simpa using g3,by simpa using g4⟩
    ·simp[den,aL]
    ·simp[gM,bG,hs]
    ·intro p hp;simp only[aN,jB,or_false]at hp;rcases hp with rfl;exact .inl rfl
   ·cases h
  ·cases h
 ·cases h
def an7(T:dy)(i:Nat)(o:Oper)(ρ:Operand->DV X)(get:Nat->Option (br X))(k:KK X A)(r:A):Prop:=
 ∃cw rd wr dv upd ab,qH T i o cw (λ x=>den (ρ x)) (dG rd (fD get))=some ab/\j5 ab.obs/\ab.v=den dv/\ab.upd=gM upd/\(∀ p∈upd,p.1=cy i\/p.1∈wr)/\k dv upd rd wr=some r
theorem W9{b:Builtin}{args:List (DV X)}{cV:List TypeId}(h:WU T ao i b args cV get k=some r):∃cw rd wr dv upd ab,EY T i b (bK args) cV cw (dG rd (fD get))=some ab/\j5 ab.obs/\ab.v=den dv/\ab.upd=gM upd/\(∀ p∈upd,p.1=cy i\/p.1∈wr)/\k dv upd rd wr=some r:=by
 unfold WU at h;unfold EY;split at h
 ·have⟨cw,dv,ab,h1,h2,h3,h4,h5⟩:=agl h;exact⟨cw,[],[],dv,[],ab,h1,h2,h3,h4,by simp,h5⟩
 ·have⟨dv,ab,h1,h2,h3,h4,h5⟩:=aaM h;exact⟨.none,[],[],dv,[],ab,h1,h2,h3,h4,by simp,h5⟩
 ·have⟨dv,ab,h1,h2,h3,h4,h5⟩:=aaM h;exact⟨.none,[],[],dv,[],ab,h1,h2,h3,h4,by simp,h5⟩
 ·split at h
  ·rename_i htu;have⟨cw,rd,wr,dv,upd,ab,h1,h2⟩:=ZJ h;refine⟨cw,rd,wr,dv,upd,ab,?_,h2⟩;simp only[bK];rw[aP htu];exact h1
  ·cases h
 ·cases h
theorem Vu(ρ:Operand->DV X)(l:List Operand):l.map (λ x=>den (ρ x))=bK (l.map ρ):=by rw[oC,map_map];rfl
theorem aaP{o:Oper}{ρ:Operand->DV X}(h:IH T ao i o.op ρ get k=some r):an7 T i o ρ get k r:=by
 obtain⟨dst,op,ty,aw,after,guard⟩:=o;unfold an7 qH;simp only at h;unfold IH at h;split at h
 ·exact⟨.none,[],[],_,[],_,rfl,trivial,rfl,rfl,by simp,h⟩
 ·exact⟨.none,[],[],_,[],_,rfl,trivial,rfl,rfl,by simp,h⟩
 ·rename_i c a b;split at h
  ·rename_i t hc;refine⟨.none,[],[],_,[],⟨H4 t (den (ρ a)) (den (ρ b)),[],[]⟩,?_,trivial,(aiN t _ _).symm,rfl,by simp,h⟩;simp only[hc,den,CT.tv,TV.av,pv]
  ·cases h
 ·have⟨dv,u,ab,h1,h2,h3,h4,h5⟩:=ace h;exact⟨.none,[],[],dv,_,ab,h1,h2,h3,h4,by simp,h5⟩
 ·have⟨dv,u,ab,h1,h2,h3,h4,h5⟩:=agm h;exact⟨.none,[],[],dv,_,ab,h1,h2,h3,h4,by simp,h5⟩
 ·rename_i t parts;have⟨dv,ab,h1,h2,h3,h4,h5⟩:=acd h;refine⟨.none,[],[],dv,[],ab,?_,h2,h3,h4,by simp,h5⟩;rw[map_map]at h1;exact h1
 ·rename_i t len parts;have⟨dv,u,ab,h1,h2,h3,h4,h5⟩:=OW h;refine⟨.none,[],[],dv,_,ab,?_,h2,h3,h4,by simp,h5⟩;rw[map_map]at h1;exact h1
 ·have⟨cw,rd,dv,ab,h1,h2,h3,h4,h5⟩:=aiO h;exact⟨cw,rd,[],dv,[],ab,h1,h2,h3,h4,by simp,h5⟩
 ·have⟨cw,kk,u,ab,h1,h2,h3,h4,h5⟩:=aiQ h;exact⟨cw,[kk],[kk],.undef,_,ab,h1,h2,h3,h4,by simp,h5⟩
 ·have⟨dv,ab,h1,h2,h3,h4,h5⟩:=agk h;exact⟨.none,[],[],dv,[],ab,h1,h2,h3,h4,by simp,h5⟩
 ·have⟨dv,ab,h1,h2,h3,h4,h5⟩:=aiR h;exact⟨.none,[],[],dv,[],ab,h1,h2,h3,h4,by simp,h5⟩
 ·rename_i f first caps
  refine⟨.none,[],[],_,[],⟨.fn f (first.toList.map λx=>den (ρ x)) (caps.toList.map λx=>den (ρ x)),[],[]⟩,rfl,trivial,?_,rfl,by simp,h⟩;simp only[den,Vu]
 ·rename_i t x lo hi;have⟨cw,rd,dv,ab,h1,h2,h3,h4,h5⟩:=acf h;refine⟨cw,rd,[],dv,[],ab,?_,h2,h3,h4,by simp,h5⟩;simp only[Option.map_map]at h1;exact h1
 ·have⟨dv,ab,h1,h2,h3,h4,h5⟩:=Rj h;exact⟨.none,[],[],dv,[],ab,h1,h2,h3,h4,by simp,h5⟩
 ·have⟨dv,ab,h1,h2,h3,h4,h5⟩:=ab8 h;exact⟨.none,[],[],dv,[],ab,h1,h2,h3,h4,by simp,h5⟩
 ·have⟨cw,rd,dv,ab,h1,h2,h3,h4,h5⟩:=Rk h;exact⟨cw,rd,[],dv,[],ab,h1,h2,h3,h4,by simp,h5⟩
 ·have⟨dv,ab,h1,h2,h3,h4,h5⟩:=WY h;exact⟨.none,[],[],dv,[],ab,h1,h2,h3,h4,by simp,h5⟩
 ·rename_i b args cV;have⟨cw,rd,wr,dv,upd,ab,h1,h2⟩:=W9 h;refine⟨cw,rd,wr,dv,upd,ab,?_,h2⟩;simp only[Vu];exact h1
 ·cases h
end
inductive Pt(ι:Type) where
 |v (c:CT ι)
 |o (k:Nat)
 |p (k:Nat)
 |nil
 |f (F:FuncId) (fs cs:List (Pt ι))
 |od (k:Nat)
 |mp (k:Nat)
 |oz (k:Nat)
 |a (ps:List (Pt ι))
inductive OP(ι:Type) where
 |l (c:CT ι)
 |m (k v:CT ι)
 |c (sz:Nat) (rows:List (List (Pt ι)))
section
variable {ι:Type}
mutual
def Pt.vars:Pt ι->List (CT ι)
 | .v c=>[c]
 | .a ps=>cJ ps
 | .f _ fs cs=>cJ fs++cJ cs
 | .od _=>[.int .i64]
 |_=>[]
def cJ:List (Pt ι)->List (CT ι)
 |[]=>[]
 |p::ps=>p.vars++cJ ps
end
def ia:List (Nat×Pt ι)->List (CT ι)
 |[]=>[]
 |p::ps=>p.2.vars++ia ps
def xA:List (List (Pt ι))->List (CT ι)
 |[]=>[]
 |r::rs=>cJ r++xA rs
def cD:List (Nat×OP ι)->List (CT ι)
 |[]=>[]
 |(_,.l c)::r=> .sl c::cD r
 |(_,.m k v)::r=> .mp k v::cD r
 |(_,.c _ rows)::r=>xA rows++cD r
end
section
variable {X:SX}
structure DC(X:SX) where
 c:CT X.ι
 x:CT.T X.toSE c
@[reducible] def VT:List (CT X.ι)->Type
 |[]=>Unit
 |[c]=>CT.T X.toSE c
 |c::c'::l=>CT.T X.toSE c×VT (c'::l)
def ZK:(l:List (CT X.ι))->List (DC X)->Option (VT (X:=X) l)
 |[],[]=>some ()
 |[c],[d]=>gD d.c c d.x
 |c::c'::l,d::ds=>(gD d.c c d.x).bind λx=>(ZK (c'::l) ds).bind λv=>some (x,v)
 |_,_=>none
def xB:(l:List (CT X.ι))->VT (X:=X) l->List (DC X)
 |[],_=>[]
 |[c],x=>[⟨c,x⟩]
 |c::c'::l,v=>⟨c,v.1⟩::xB (c'::l) v.2
theorem adS{d:DC X}{c:CT X.ι}{x:CT.T X.toSE c}(h:gD d.c c d.x=some x):(⟨c,x⟩:DC X)=d:=by
 obtain⟨a,y⟩:=d;have⟨e,h⟩:=mJ h;simp only at e;subst e;subst h;rfl
theorem Xa:∀{l:List (CT X.ι)}{ds:List (DC X)}{v:VT (X:=X) l},ZK l ds=some v->xB l v=ds
 |[],[],_,_=>rfl
 |[c],[d],v,h=>by simp only[ZK]at h;simp only[xB,adS h]
 |c::c'::l,d::ds,v,h=>by
  simp only[ZK]at h;rw[ai]at h;obtain⟨x,h1,h⟩:=h;rw[ai]at h;obtain⟨v',h2,h⟩:=h;cases h;simp only[xB,adS h1,Xa h2]
 |[],_::_,_,h=>by simp[ZK]at h
 |[_],[],_,h=>by simp[ZK]at h
 |[_],_::_::_,_,h=>by simp[ZK]at h
 |_::_::_,[],_,h=>by simp[ZK]at h
theorem Xb{c:CT X.ι}(x:CT.T X.toSE c):gD c c x=some x:=by
 unfold gD;split
 ·rfl
 ·rename_i h _;exact absurd rfl h
def Ek(d:DC X):Nat:=match gD d.c (.int .i64) d.x with |some x=>Int.toNat x |none=>0
section
variable (dp:Nat->Nat)
mutual
def eP:Pt X.ι->List (DC X)->DV X×List (DC X)
 | .v _,L=>match L with
  |d::r=>(.c d.c d.x,r)
  |[]=>(.undef,[])
 | .o k,L=>(.own k 0 (dp k),L)
 | .p k,L=>(.ptr k 0 0,L)
 | .mp k,L=>(.mp k,L)
 | .oz k,L=>(.oz k (dp k),L)
 | .nil,L=>(.nil,L)
 | .f F fs cs,L=>(.fn F (lp fs L).1 (lp cs (lp fs L).2).1,(lp cs (lp fs L).2).2)
 | .od k,L=>match L with
  |d::r=>(.own k (Ek d) (dp k -Ek d),r)
  |[]=>(.undef,[])
 | .a ps,L=>(.agg (lp ps L).1,(lp ps L).2)
def lp:List (Pt X.ι)->List (DC X)->List (DV X)×List (DC X)
 |[],L=>([],L)
 |p::ps,L=>((eP p L).1::(lp ps (eP p L).2).1,(lp ps (eP p L).2).2)
end
def Np:List (Nat×Pt X.ι)->List (DC X)->List (Nat×DV X)
 |[],_=>[]
 |(t,p)::r,L=>(t,(eP dp p L).1)::Np r (eP dp p L).2
def xC:List (List (Pt X.ι))->List (DC X)->List (List (DV X))×List (DC X)
 |[],L=>([],L)
 |r::rs,L=>((lp dp r L).1::(xC rs (lp dp r L).2).1,(xC rs (lp dp r L).2).2)
def cu:List (Nat×OP X.ι)->List (DC X)->List (Nat×Option (br X))
 |[],_=>[]
 |(k,.l _)::r,L=>match L with
  |⟨.sl c',x⟩::L=>(k,some (.dc c' x))::cu r L
  |_=>[]
 |(k,.m _ _)::r,L=>match L with
  |⟨.mp kc vc,x⟩::L=>(k,some (.map kc vc x))::cu r L
  |_=>[]
 |(k,.c sz rows)::r,L=>(k,some (.cells sz (xC dp rows L).1))::cu r (xC dp rows L).2
end
def lens:List (Nat×OP X.ι)->List (DC X)->List (Nat×Nat)
 |[],_=>[]
 |(k,.l _)::r,L=>match L with
  |⟨.sl _,x⟩::L=>(k,List.length x)::lens r L
  |_=>[]
 |(_,.m _ _)::r,L=>lens r (L.drop 1)
 |(_,.c _ rows)::r,L=>lens r (L.drop (xA rows).length)
def lr:Nat->List (Pt X.ι)->List (Nat×Pt X.ι)
 |_,[]=>[]
 |n,p::ps=>(n,p)::lr (n+1) ps
theorem Rm:∀(n:Nat)(ps:List (Pt X.ι)),ia (lr n ps)=cJ ps
 |_,[]=>rfl
 |n,p::ps=>by simp only[lr,ia,cJ,Rm (n+1) ps]
structure cR(X:SX) where
 pn:List (Pt X.ι)
 iz:List (Nat×OP X.ι)
 fL:List (Pt X.ι)
 ix:List (Nat×OP X.ι)
 fn:VT (X:=X) (cJ pn++cD iz)->Option (VT (X:=X) (ia (lr 0 fL)++cD ix))
def Dv(O:List (Nat×OP X.ι))(L:List (DC X))(k:Nat):Nat:=(lk (lens O L) k).getD 0
def Xc(ps:List (Pt X.ι))(O:List (Nat×OP X.ι))(L:List (DC X)):List (DV X):=(lp (Dv O (L.drop (cJ ps).length)) ps (L.take (cJ ps).length)).1
def H5(ps:List (Pt X.ι))(O:List (Nat×OP X.ι))(L:List (DC X)):List (Nat×Option (br X)):=cu (Dv O (L.drop (cJ ps).length)) O (L.drop (cJ ps).length)
def Aq:List (DV X)->DV X
 |[d]=>d
 |ds=> .fi ds
def dn:List (Nat×Option (br X))->List (Nat×br X)
 |[]=>[]
 |(k,some o)::r=>(k,o)::dn r
 |(_,none)::r=>dn r
def uo(l:List (Nat×br X)):List (Nat×aU):=l.map λp=>(p.1,bG p.2)
def cR.args(g:cR X)(v:VT (X:=X) (cJ g.pn++cD g.iz)):List (DV X):=Xc g.pn g.iz (xB _ v)
def cR.cH(g:cR X)(v:VT (X:=X) (cJ g.pn++cD g.iz)):List (Nat×br X):=dn (H5 g.pn g.iz (xB _ v))
def cR.res(g:cR X)(r:VT (X:=X) (ia (lr 0 g.fL)++cD g.ix)):DV X:=Aq (Xc g.fL g.ix (xB _ r))
def cR.outs(g:cR X)(r:VT (X:=X) (ia (lr 0 g.fL)++cD g.ix)):List (Nat×br X):=dn (H5 g.fL g.ix (xB _ r))
def HP(P:Program)(f:FuncId)(g:cR X):Prop:=∀v r,g.fn v=some r->CE P f (bK (g.args v)) ((g.cH v).map λp=>bG p.2) (uo (g.outs r)) (den (g.res r))
end
inductive AT(ι:Type) where
 |d (c:CT ι)
 |ref (c:CT ι)
 |cT (as:List (CT ι)) (r:CT ι)
 |mut (c:CT ι)
 |fp (c:CT ι)
 |nil
 deriving DecidableEq
def AT.im{ι:Type}:AT ι->Bool
 | .mut _ | .fp _=>true
 |_=>false
def AT.pl{ι:Type}:AT ι->Bool
 | .mut _ | .fp _ | .nil=>false
 |_=>true
inductive RT(ι:Type) where
 |d (c:CT ι)
 |fresh (e:CT ι)
 |whole (j:Nat)
 |mu (c:CT ι)
 |mr (c:CT ι)
 |mv
def RT.out{ι:Type}:RT ι->Bool
 | .mu _ | .mr _ | .mv=>true
 |_=>false
section
variable (X:SX)
@[reducible] def AT.T:AT X.ι->Type
 | .d c=>CT.T X.toSE c
 | .ref c=>CT.T X.toSE c
 | .cT as r=>HL X.toSE as->Option (CT.T X.toSE r)
 | .mut c=>List (CT.T X.toSE c)
 | .fp c=>CT.T X.toSE c
 | .nil=>Unit
@[reducible] def RT.T:RT X.ι->Type
 | .d c=>CT.T X.toSE c
 | .fresh e=>List (CT.T X.toSE e)
 | .whole _=>Unit
 | .mu c=>List (CT.T X.toSE c)
 | .mr c=>CT.T X.toSE c
 | .mv=>Unit
@[reducible] def jg:List (AT X.ι)->Type
 |[]=>Unit
 |a::l=>AT.T X a×jg l
@[reducible] def ul:List (RT X.ι)->Type
 |[]=>Unit
 |[r]=>RT.T X r
 |r::r'::l=>RT.T X r×ul (r'::l)
structure bz where
 args:List (AT X.ι)
 res:List (RT X.ι)
 fn:jg X args->Option (ul X res)
 gen:Option (cR X):=none
variable {X}
def dQ:Nat->(l:List (AT X.ι))->jg X l->List AV
 |_,[],_=>[]
 |n,.d c::l,a=>(CT.tv X.toSE c a.1).av::dQ n l a.2
 |n,.ref c::l,a=> .eo (CT.row X.toSE c a.1) 0::dQ n l a.2
 |n,.cT as r::l,a=>den (.cT as r a.1:DV X)::dQ n l a.2
 |n,.mut _::l,a=> .own n 0 (List.length a.1)::dQ (n+1) l a.2
 |n,.fp _::l,a=> .ptr n 0 0::dQ (n+1) l a.2
 |n,.nil::l,a=> .cM::dQ n l a.2
abbrev Ar(l:List (AT X.ι))(a:jg X l):List AV:=dQ 0 l a
def sM(c:CT X.ι)(l:List (CT.T X.toSE c)):fe:=(CT.sz X c,l.map (CT.row X.toSE c))
def qN:(l:List (AT X.ι))->jg X l->List fe
 |[],_=>[]
 | .mut c::l,a=>sM c a.1::qN l a.2
 | .fp c::l,a=>sM c [a.1]::qN l a.2
 | .d _::l,a=>qN l a.2
 | .ref _::l,a=>qN l a.2
 | .cT _ _::l,a=>qN l a.2
 | .nil::l,a=>qN l a.2
def qO:(r:RT X.ι)->RT.T X r->List (Option fe)
 | .mu c,x=>[some (sM c x)]
 | .mr c,x=>[some (sM c [x])]
 | .mv,_=>[none]
 |_,_=>[]
def oD:(l:List (RT X.ι))->ul X l->List (Option fe)
 |[],_=>[]
 |[r],x=>qO r x
 |r::r'::l,x=>qO r x.1++oD (r'::l) x.2
def ZL:(r:RT X.ι)->RT.T X r->List Nat
 | .mu _,x=>[List.length x]
 | .mr _,_=>[1]
 | .mv,_=>[0]
 |_,_=>[]
def vA:(l:List (RT X.ι))->ul X l->List Nat
 |[],_=>[]
 |[r],x=>ZL r x
 |r::r'::l,x=>ZL r x.1++vA (r'::l) x.2
def Xd(ns:List Nat):(r:RT X.ι)->RT.T X r->List RC
 | .d c,x=>[.d (CT.tv X.toSE c x)]
 | .fresh e,l=>[.fresh (CT.sz X e) (l.map (CT.row X.toSE e))]
 | .whole j,_=>[.whole j (ns.getD j 0)]
 |_,_=>[]
def Dw(ns:List Nat):(l:List (RT X.ι))->ul X l->List RC
 |[],_=>[]
 |[r],x=>Xd ns r x
 |r::r'::l,x=>Xd ns r x.1++Dw ns (r'::l) x.2
def uq(l:List (RT X.ι))(x:ul X l):RV:=
 match Dw (vA l x) l x with
 |[c]=> .one c
 |cs=> .fi cs
def rL(P:Program)(Γ:FuncId->Option (bz X)):Prop:=
 ∀f s,Γ f=some s->iO P f/\(∀ a r,s.fn a=some r->rN P f (Ar s.args a) (qN s.args a) (oD s.res r) (uq s.res r))/\∀g,s.gen=some g->HP P f g
theorem an8:∀{l:List (AT X.ι)},(l.all λq=>q.pl)=true->(l.all λq=>!q.im)=true:=λ{l} h=>by
 rw[all_eq_true]at h ⊢;intro q hq;have:=h q hq;cases q<;>simp_all [AT.pl,AT.im]
theorem Au:∀{l:List (AT X.ι)}{a:jg X l},(l.all λq=>!q.im)=true->qN l a=[]
 |[],_,_=>rfl
 | .d _::l,a,h=>Au (l:=l) (by simpa[AT.im]using h)
 | .ref _::l,a,h=>Au (l:=l) (by simpa[AT.im]using h)
 | .cT _ _::l,a,h=>Au (l:=l) (by simpa[AT.im]using h)
 | .mut _::l,a,h=>by simp[AT.im]at h
 | .fp _::l,a,h=>by simp[AT.im]at h
 | .nil::l,a,h=>Au (l:=l) (by simpa[AT.im]using h)
theorem adU{r:RT X.ι}{x:RT.T X r}(h:(!r.out)=true):qO r x=[]:=by cases r<;>first |rfl |simp[RT.out]at h
theorem adV:∀{l:List (RT X.ι)}{x:ul X l},(l.all λq=>!q.out)=true->oD l x=[]
 |[],_,_=>rfl
 |[r],x,h=>adU (by simpa using h)
 |r::r'::l,x,h=>by
  simp only[all_cons,aJ]at h;simp only[oD,adU h.1,bO];exact adV (l:=r'::l) (by simp only[all_cons,aJ];exact h.2)
mutual
def bm:DV X->List Nat
 | .own k _ _=>[k]
 | .ptr k _ _=>[k]
 | .p4 k _ _=>[k]
 | .rx k _ _ _ _=>[k]
 | .mp k=>[k]
 | .oz k _=>[k]
 | .agg cs=>aS cs
 | .fi cs=>aS cs
 | .fn _ first caps=>aS first++aS caps
 |_=>[]
def aS:List (DV X)->List Nat
 |[]=>[]
 |x::xs=>bm x++aS xs
end
theorem GA(c:CT X.ι)(x:CT.T X.toSE c):refs (CT.tv X.toSE c x).av=[]:=by
 cases c<;>try rfl
 rename_i i;show eH ((X.row i x).map AV.t)=[];generalize X.row i x=l
 induction l with
 |nil=>rfl
 |cons y ys ih=>simp only[aC,eH,refs,ih,bO]
mutual
theorem iV:∀x:DV X,refs (den x)=bm x
 | .c t x=>GA t x
 | .agg cs=>by simp only[den,refs,bm,iA cs]
 | .fi cs=>by simp only[den,refs,bm,iA cs]
 | .own _ _ _=>rfl
 | .ptr _ _ _=>rfl
 | .p4 _ _ _=>rfl
 | .mp _=>rfl
 | .oz _ _=>rfl
 | .rx _ _ _ _ _=>rfl
 | .rp _ _ _=>rfl
 | .vf _ _ _ _ _=>rfl
 | .fn f first caps=>by simp only[den,refs,bm,iA first,iA caps]
 | .cT _ _ _=>rfl
 | .raw v=>by
  simp only[den,bm,cv];split
  ·rfl
  ·split<;>rfl
 | .nil=>rfl
 | .ub=>rfl
 | .skip=>rfl
 | .undef=>rfl
theorem iA:∀l:List (DV X),eH (bK l)=aS l
 |[]=>rfl
 |x::xs=>by simp only[bK,eH,aS,iV x,iA xs]
end
def Ty(get:Nat->Option (br X))(d:DV X)(c:CT X.ι):Option (CT.T X.toSE c×List Bool):=
 match d,c with
 | .own kk aa len,.sl e=>(get kk).bind λo=>match o with
  | .dc b l=>(gD (.sl b) (.sl e) l).bind λ(l:List (CT.T X.toSE e))=>some (sub l aa len,[bk (sub l aa len).length len])
  |_=>none
 | .own kk aa len,.any=>(get kk).bind λo=>match o with
  | .dc b l=>some (.sl (List.map (CT.row X.toSE b) (sub l aa len)),[bk (sub l aa len).length len])
  |_=>none
 | .oz kk len,.sl e=>(get kk).bind λo=>match o with
  | .dc b l=>(gD (.sl b) (.sl e) l).bind λ(l:List (CT.T X.toSE e))=>some (sub l 0 len,[bk (sub l 0 len).length len])
  |_=>none
 |d,c=>(Mi d c).bind λx=>some (x,[])
def yG(get:Nat->Option (br X)):List (DV X)->(l:List (CT X.ι))->Option (HL X.toSE l×List Bool)
 |[],[]=>some ((),[])
 |d::ds,c::l=>(Ty get d c).bind λx=>(yG get ds l).bind λh=>some ((x.1,h.1),x.2++h.2)
 |_,_=>none
def D4(get:Nat->Option (br X))(d:DV X)(i:X.ι):Option (CT.T X.toSE (.st i)×List Bool):=
 match d with
 | .agg cs=>(yG get cs (X.cV i)).bind λh=>some (X.make i h.1,h.2)
 | .c a x=>(gD a (.st i) x).bind λx=>some (x,[])
 |_=>none
def IC(get:Nat->Option (br X))(d:DV X)(c:CT X.ι):Option (CT.T X.toSE c×List Bool):=
 match c with
 | .st i=>D4 get d i
 |c=>Ty get d c
def TO(get:Nat->Option (br X))(d:DV X)(c:CT X.ι):Option (CT.T X.toSE c):=
 match d with
 | .ptr kk row 0=>(get kk).bind λo=>match o with
  | .cells _ rows=>(rows[row]?).bind λq=>if q.all (λ x=>match x with | .c _ _=>true |_=>false)then OT c q else none
  |_=>none
 | .rp a x 0=>gD a c x
 |_=>none
def tA:(l l':List (AT X.ι))->jg X l->jg X l'->jg X (l++l')
 |[],_,_,b=>b
 |_::l,l',a,b=>(a.1,tA l l' a.2 b)
def hlA:(as:List (CT X.ι))->HL X.toSE as->jg X (as.map AT.d)
 |[],_=>()
 |_::l,h=>(h.1,hlA l h.2)
def qP:List (AT X.ι)->Nat
 |[]=>0
 |q::l=>(if q.im then 1 else 0)+qP l
theorem lT:∀(n:Nat)(l l':List (AT X.ι))(a:jg X l)(b:jg X l'),dQ n (l++l') (tA l l' a b)=dQ n l a++dQ (n+qP l) l' b
 |n,[],_,_,_=>rfl
 |n,.d c::l,l',a,b=>by simp[dQ,tA,lT n l l' a.2 b,qP,AT.im]
 |n,.ref c::l,l',a,b=>by simp[dQ,tA,lT n l l' a.2 b,qP,AT.im]
 |n,.cT as r::l,l',a,b=>by simp[dQ,tA,lT n l l' a.2 b,qP,AT.im]
 |n,.mut c::l,l',a,b=>by simp[dQ,tA,lT (n+1) l l' a.2 b,qP,AT.im,Nat.add_assoc]
 |n,.fp c::l,l',a,b=>by simp[dQ,tA,lT (n+1) l l' a.2 b,qP,AT.im,Nat.add_assoc]
 |n,.nil::l,l',a,b=>by simp[dQ,tA,lT n l l' a.2 b,qP,AT.im]
theorem Rn:∀(n:Nat)(as:List (CT X.ι))(h:HL X.toSE as),dQ n (as.map AT.d) (hlA as h)=(HL.nq X.toSE as h).map TV.av
 |_,[],_=>rfl
 |n,c::l,h=>congrArg ((CT.tv X.toSE c h.1).av:: ·) (Rn n l h.2)
def am6{a b:CT X.ι}(h:a=b)(o:Option (CT.T X.toSE a)):Option (CT.T X.toSE b):=h ▸ o
def kH(get:Nat->Option (br X))(pd:FuncId->List (DV X)->List (DV X)->(as:List (CT X.ι))->(r:CT X.ι)->Option ((HL X.toSE as->Option (CT.T X.toSE r))×List Bool)):List (DV X)->(l:List (AT X.ι))->Option (jg X l×List Bool)
 |[],[]=>some ((),[])
 |d::ds,.d c::l=>(IC get d c).bind λx=>(kH get pd ds l).bind λh=>some ((x.1,h.1),x.2++h.2)
 |d::ds,.ref c::l=>(TO get d c).bind λx=>(kH get pd ds l).bind λh=>some ((x,h.1),h.2)
 |d::ds,.cT as r::l=>(match d with
  | .cT as' r' φ=>if h:as'=as/\r'=r then some (λ x=>am6 h.2 (φ (h.1 ▸ x)),[])else none
  | .fn f first caps=>pd f first caps as r
  |_=>none).bind λφ=>(kH get pd ds l).bind λq=>some ((φ.1,q.1),φ.2++q.2)
 |_,_=>none
def Tz(Γ:FuncId->Option (bz X))(get:Nat->Option (br X)):Nat->List (DV X)->(l:List (AT X.ι))->Option (jg X l×List Bool)
 | 0,ds,l=>kH get (λ _ _ _ _ _=>none) ds l
 |n+1,ds,l=>kH get (λ f first caps as r=>(Γ f).bind λs=>match s with
   |⟨sa,[.d r'],fn,_⟩=>
    if h:r'=r/\sa=sa.take first.length++(as.map AT.d++sa.drop (first.length+as.length))then
     (Tz Γ get n first (sa.take first.length)).bind λhf=>(Tz Γ get n caps (sa.drop (first.length+as.length))).bind λhc=>
      some (λ x=>am6 h.1 (fn (h.2 ▸ tA _ _ hf.1 (tA _ _ (hlA as x) hc.1))),hf.2++hc.2)
    else none
   |_=>none) ds l
section
variable {P:Program} {Γ:FuncId->Option (bz X)} {get:Nat->Option (br X)} {rd:List Nat}
theorem gX{a b:List Prop}(h:∀p∈a,p)(h':∀p∈b,p):∀p∈a++b,p:=λp hp=>(aX.1 hp).elim (h p) (h' p)
theorem J8{d:DV X}{c:CT X.ι}{x:CT.T X.toSE c×List Bool}(h:Ty get d c=some x)(hc:∀b∈x.2,b=true)(hrd:∀j∈bm d,j∈rd):∃hs obs,(∀ p∈obs,p)/\∀ag,pG P (dG rd (fD get)) (den d) (hs++ag)=some ((CT.tv X.toSE c x.1).av,ag,obs):=by
 have base:∀{d:DV X}{c:CT X.ι}{x:CT.T X.toSE c},Mi d c=some x->∃hs obs,(∀ p∈obs,p)/\∀ag,pG P (dG rd (fD get)) (den d) (hs++ag)=some ((CT.tv X.toSE c x).av,ag,obs):=by
  intro d c x h;unfold Mi at h;split at h
  ·rw[(iU h).1];refine⟨[],[],by simp,λag=>?_⟩;simp only[bO,den];cases c<;>try rfl
   rename_i j;show pG P _ (.agg ((X.row j x).map AV.t)) ag=_;have:∀(l:List Tree) (hs:List LH),nO P (dG rd (fD get)) (l.map AV.t) hs=some (l.map AV.t,hs,[]):=by
    intro l
    induction l with
    |nil=>intro hs;rfl
    |cons y ys ih=>intro hs;simp only[aC,nO,pG,ah,ih,bO]
   simp only[pG,this,ah];rfl
  ·cases h;exact⟨[.emp],[],by simp,λag=>rfl⟩
  ·cases h;exact⟨[.emp],[],by simp,λag=>rfl⟩
  ·cases h
 unfold Ty at h;split at h
 ·rename_i kk aa len e;rw[ai]at h;obtain⟨o,h1,h⟩:=h;split at h
  ·rename_i b l0;rw[ai]at h;obtain⟨l,h2,h⟩:=h;cases h;have h3:(sub l aa len).length=len:=(by simpa[bk]using hc (bk (sub l aa len).length len) (by simp));have⟨h4,h5⟩:=jo h2;refine⟨[.rows ((sub l aa len).map (CT.row X.toSE e))],[(((bG (.dc b l0):aU).rows.drop aa).take len=aL ((sub l aa len).map (CT.row X.toSE e))/\((sub l aa len).map (CT.row X.toSE e)).length=len)],?_,λag=>?_⟩
   ·intro p hp;simp only[aY]at hp;subst hp;refine⟨?_,by simpa using h3⟩;simp only[bG,h5];simp[aL,sub,map_take,map_drop]
   ·simp only[cons_append,bO,den,pG,dO (hrd kk (by simp[bm])) h1,ah];rfl
  ·cases h
 ·rename_i kk aa len;rw[ai]at h;obtain⟨o,h1,h⟩:=h;split at h
  ·rename_i b l0;cases h;have h3:(sub l0 aa len).length=len:=(by simpa[bk]using hc (bk (sub l0 aa len).length len) (by simp));refine⟨[.rows ((sub l0 aa len).map (CT.row X.toSE b))],[(((bG (.dc b l0):aU).rows.drop aa).take len=aL ((sub l0 aa len).map (CT.row X.toSE b))/\((sub l0 aa len).map (CT.row X.toSE b)).length=len)],?_,λag=>?_⟩
   ·intro p hp;simp only[aY]at hp;subst hp;refine⟨?_,by simpa using h3⟩;simp only[bG];simp[aL,sub,map_take,map_drop]
   ·simp only[cons_append,bO,den,pG,dO (hrd kk (by simp[bm])) h1,ah];rfl
  ·cases h
 ·rename_i kk len e;rw[ai]at h;obtain⟨o,h1,h⟩:=h;split at h
  ·rename_i b l0;have⟨l,h2,h⟩:=ai.1 h;cases h;have h3:(sub l 0 len).length=len:=(by simpa[bk]using hc (bk (sub l 0 len).length len) (by simp));have⟨h4,h5⟩:=jo h2;refine⟨[.rows ((sub l 0 len).map (CT.row X.toSE e))],[(((bG (.dc b l0):aU).rows.drop 0).take len=aL ((sub l 0 len).map (CT.row X.toSE e))/\((sub l 0 len).map (CT.row X.toSE e)).length=len)],?_,λag=>?_⟩
   ·intro p hp;simp only[aY]at hp;subst hp;refine⟨?_,by simpa using h3⟩;simp only[bG,h5];simp[aL,sub,map_take,map_drop]
   ·simp only[cons_append,bO,den,pG,dO (hrd kk (by simp[bm])) h1,ah];rfl
  ·cases h
 ·have⟨y,h1,h⟩:=ai.1 h;cases h;exact base h1
theorem OX:∀{ds:List (DV X)}{l:List (CT X.ι)}{h:HL X.toSE l×List Bool},yG get ds l=some h->(∀ b∈h.2,b=true)->l.all CT.one=true->(∀ j∈aS ds,j∈rd)->
 ∃hs obs,(∀ p∈obs,p)/\∀ag,nO P (dG rd (fD get)) (bK ds) (hs++ag)=some ((HL.row X.toSE l h.1).map AV.t,ag,obs)
 |[],[],h,_,_,_,_=>⟨[],[],by simp,λag=>rfl⟩
 |d::ds,c::l,h,hr,hc,ha,hrd=>by
  simp only[yG]at hr;have⟨x,h1,hr⟩:=ai.1 hr;have⟨g,h2,hr⟩:=ai.1 hr;cases hr;simp only[all_cons,aJ]at ha;obtain⟨hs1,o1,p1,q1⟩:=J8 (P:=P) (rd:=rd) h1 (λ b hb=>hc b (by simp[hb])) (λ j hj=>hrd j (by simp[aS,hj]));obtain⟨hs2,o2,p2,q2⟩:=OX h2 (λ b hb=>hc b (by simp[hb])) ha.2 (λ j hj=>hrd j (by simp[aS,hj]));refine⟨hs1++hs2,o1++o2,gX p1 p2,λag=>?_⟩;simp only[bK,nO,aK,q1,ah,q2];show _=some ((CT.row X.toSE c x.1++HL.row X.toSE l g.1).map AV.t,ag,o1++o2);rw[map_append,<- MM ha.1 x.1];rfl
 |[],_::_,_,hr,_,_,_=>by simp[yG]at hr
 |_::_,[],_,hr,_,_,_=>by simp[yG]at hr
theorem Cy{d:DV X}{c:CT X.ι}{x:CT.T X.toSE c×List Bool}(h:IC get d c=some x)(hc:∀b∈x.2,b=true)(hrd:∀j∈bm d,j∈rd):∃hs obs,(∀ p∈obs,p)/\∀ag,pG P (dG rd (fD get)) (den d) (hs++ag)=some ((CT.tv X.toSE c x.1).av,ag,obs):=by
 cases c
 case st i=>
  replace h:D4 get d i=some x:=h
  cases d
  case agg cs=>
   simp only[D4]at h;rw[ai]at h;obtain⟨g,h1,h⟩:=h;cases h;obtain⟨hs,obs,p1,q1⟩:=OX (P:=P) (rd:=rd) h1 hc (X.flat i) (λ j hj=>hrd j (by simpa[bm]using hj));refine⟨hs,obs,p1,λag=>?_⟩;simp only[den,pG,q1,ah,CT.tv,TV.av];rw[X.gh]
  case c a y=>exact J8 (c:= .st i) (x:=x) (by unfold Ty;exact h) hc hrd
  all_goals cases h
 all_goals exact J8 h hc hrd
theorem adW{d:DV X}{c:CT X.ι}{x:CT.T X.toSE c}(h:TO get d c=some x)(hrd:∀j∈bm d,j∈rd):∃hs obs,(∀ p∈obs,p)/\∀ag,pG P (dG rd (fD get)) (den d) (hs++ag)=some (.eo (CT.row X.toSE c x) 0,ag,obs):=by
 unfold TO at h;split at h
 ·rename_i kk row;rw[ai]at h;obtain⟨o,h1,h⟩:=h;split at h
  ·rename_i sz rows;rw[ai]at h;obtain⟨q,h2,h⟩:=h;split at h
   ·rename_i hq;refine⟨[.row (CT.row X.toSE c x)],[(bG (.cells sz rows):aU).rows[row]? =some ((CT.row X.toSE c x).map AV.t)],?_,λag=>?_⟩
    ·intro p hp;simp only[aY]at hp;subst hp;simp only[bG,List.getElem?_map,h2,Option.map_some];rw[<- Aa h,oC,map_map];congr 1;refine map_congr_left λy hy=>?_;have:=all_eq_true.1 hq y hy;cases y<;>first |exact(am5 _).symm |simp at this
    ·simp only[cons_append,bO,den,pG,dO (hrd kk (by simp[bm])) h1,ah]
   ·cases h
  ·cases h
 ·rename_i a y;refine⟨[],[],by simp,λag=>?_⟩;simp only[den,(iU h).2];rfl
 ·cases h
theorem agn{n:Nat}{l l':List (AT X.ι)}(e:l=l')(b:jg X l):dQ n l' (e ▸ b)=dQ n l b:=by subst e;rfl
theorem Fa{pd:FuncId->List (DV X)->List (DV X)->(as:List (CT X.ι))->(r:CT X.ι)->Option ((HL X.toSE as->Option (CT.T X.toSE r))×List Bool)}:∀{ds:List (DV X)}{l:List (AT X.ι)}{a:jg X l×List Bool},kH get pd ds l=some a->(l.all λq=>!q.im)=true
 |[],[],_,_=>rfl
 |d::ds,.d c::l,a,h=>by
  simp only[kH]at h;have⟨x,h1,h⟩:=ai.1 h;have⟨q,h2,h⟩:=ai.1 h;simpa[AT.im]using Fa h2
 |d::ds,.ref c::l,a,h=>by
  simp only[kH]at h;have⟨x,h1,h⟩:=ai.1 h;have⟨q,h2,h⟩:=ai.1 h;simpa[AT.im]using Fa h2
 |d::ds,.cT as r::l,a,h=>by
  simp only[kH]at h;have⟨x,h1,h⟩:=ai.1 h;have⟨q,h2,h⟩:=ai.1 h;simpa[AT.im]using Fa h2
 |_::_,.mut _::_,_,h=>by simp[kH]at h
 |_::_,.fp _::_,_,h=>by simp[kH]at h
 |_::_,.nil::_,_,h=>by simp[kH]at h
 |[],_::_,_,h=>by simp[kH]at h
 |_::_,[],_,h=>by simp[kH]at h
theorem adX:∀{n:Nat}{ds:List (DV X)}{l:List (AT X.ι)}{a:jg X l×List Bool},Tz Γ get n ds l=some a->(l.all λq=>!q.im)=true
 | 0,_,_,_,h=>Fa h
 |_+1,_,_,_,h=>Fa h
theorem Wf:∀as:List (CT X.ι),((as.map AT.d).all λq=>!q.im)=true
 |[]=>rfl
 |_::l=>Wf l
def an9(P:Program)(get:Nat->Option (br X))(pd:FuncId->List (DV X)->List (DV X)->(as:List (CT X.ι))->(r:CT X.ι)->Option ((HL X.toSE as->Option (CT.T X.toSE r))×List Bool)):Prop:=
 ∀f first caps as r φ rd,pd f first caps as r=some φ->(∀ b∈φ.2,b=true)->(∀ j∈aS first++aS caps,j∈rd)->∃hs obs,(∀ p∈obs,p)/\∀ag,pG P (dG rd (fD get)) (.fn f (bK first) (bK caps)) (hs++ag)=some (den (.cT as r φ.1:DV X),ag,obs)
theorem uw{n:Nat}{pd:FuncId->List (DV X)->List (DV X)->(as:List (CT X.ι))->(r:CT X.ι)->Option ((HL X.toSE as->Option (CT.T X.toSE r))×List Bool)}(vp:an9 P get pd):∀{ds:List (DV X)}{l:List (AT X.ι)}{a:jg X l×List Bool},kH get pd ds l=some a->(∀ b∈a.2,b=true)->(∀ j∈aS ds,j∈rd)->
 ∃hs obs,(∀ p∈obs,p)/\∀ag,nO P (dG rd (fD get)) (bK ds) (hs++ag)=some (dQ n l a.1,ag,obs)
 |[],[],_,_,_,_=>⟨[],[],by simp,λag=>rfl⟩
 |d::ds,.d c::l,a,h,hc,hrd=>by
  simp only[kH]at h;have⟨x,h1,h⟩:=ai.1 h;have⟨q,h2,h⟩:=ai.1 h;cases h;obtain⟨hs1,o1,p1,q1⟩:=Cy (P:=P) (rd:=rd) h1 (λ b hb=>hc b (by simp[hb])) (λ j hj=>hrd j (by simp[aS,hj]));obtain⟨hs2,o2,p2,q2⟩:=uw (n:=n) vp h2 (λ b hb=>hc b (by simp[hb])) (λ j hj=>hrd j (by simp[aS,hj]));refine⟨hs1++hs2,o1++o2,gX p1 p2,λag=>?_⟩;simp only[bK,nO,aK,q1,ah,q2,dQ]
 |d::ds,.ref c::l,a,h,hc,hrd=>by
  simp only[kH]at h;rw[ai]at h;obtain⟨x,h1,h⟩:=h;rw[ai]at h;obtain⟨q,h2,h⟩:=h;cases h;obtain⟨hs1,o1,p1,q1⟩:=adW (P:=P) (rd:=rd) h1 (λ j hj=>hrd j (by simp[aS,hj]));obtain⟨hs2,o2,p2,q2⟩:=uw (n:=n) vp h2 hc (λ j hj=>hrd j (by simp[aS,hj]));refine⟨hs1++hs2,o1++o2,gX p1 p2,λag=>?_⟩;simp only[bK,nO,aK,q1,ah,q2,dQ]
 |d::ds,.cT as r::l,a,h,hc,hrd=>by
  simp only[kH]at h;rw[ai]at h;obtain⟨φ,h1,h⟩:=h;rw[ai]at h;obtain⟨q,h2,h⟩:=h;cases h;have hd:∃hs obs,(∀ p∈obs,p)/\∀ag,pG P (dG rd (fD get)) (den d) (hs++ag)=some (den (.cT as r φ.1:DV X),ag,obs):=by
   cases d
   case cT as' r' ψ=>
    simp only at h1;split at h1
    ·rename_i e;obtain⟨rfl,rfl⟩:=e;cases h1;exact⟨[],[],by simp,λag=>rfl⟩
    ·cases h1
   case fn f first caps=>
    obtain⟨hs,obs,g1,g2⟩:=vp f first caps as r φ rd h1 (λ b hb=>hc b (by simp[hb])) (λ j hj=>hrd j (by simp only[aS,bm,aX]at hj ⊢;exact .inl hj))
    exact⟨hs,obs,g1,λag=>by simp only[den];exact g2 ag⟩
   all_goals simp at h1
  obtain⟨hs1,o1,p1,q1⟩:=hd;obtain⟨hs2,o2,p2,q2⟩:=uw (n:=n) vp h2 (λ b hb=>hc b (by simp[hb])) (λ j hj=>hrd j (by simp[aS,hj]));refine⟨hs1++hs2,o1++o2,gX p1 p2,λag=>?_⟩;simp only[bK,nO,aK,q1,ah,q2,dQ]
 |_::_,.mut _::_,_,h,_,_=>by simp[kH]at h
 |_::_,.fp _::_,_,h,_,_=>by simp[kH]at h
 |_::_,.nil::_,_,h,_,_=>by simp[kH]at h
 |[],_::_,_,h,_,_=>by simp[kH]at h
 |_::_,[],_,h,_,_=>by simp[kH]at h
theorem tF(hΓ:rL P Γ):∀(m:Nat){n:Nat}{ds:List (DV X)}{l:List (AT X.ι)}{a:jg X l×List Bool}{rd:List Nat},Tz Γ get m ds l=some a->(∀ b∈a.2,b=true)->(∀ j∈aS ds,j∈rd)->
 ∃hs obs,(∀ p∈obs,p)/\∀ag,nO P (dG rd (fD get)) (bK ds) (hs++ag)=some (dQ n l a.1,ag,obs)
 | 0,n,ds,l,a,rd,h,hcs,hrd=>uw (λ _ _ _ _ _ _ _ h=>by cases h) h hcs hrd
 |m+1,n,ds,l,a,rd,h,hcs,hrd=>by
  refine uw (λ f first caps as r φ rd' hc hb GO=>?_) h hcs hrd;rw[ai]at hc;obtain⟨s,h1,hc⟩:=hc;split at hc
  ·rename_i sa r' fn _;split at hc
   ·rename_i e;obtain⟨rfl,e2⟩:=e;have⟨hf,h2,hc⟩:=ai.1 hc;have⟨hcap,h3,hc⟩:=ai.1 hc;injection hc with hc;rw[<- hc]at hb;obtain⟨g1,g2,_⟩:=hΓ f _ h1;obtain⟨hs1,o1,p1,q1⟩:=tF hΓ m h2 (n:=0) (rd:=rd') (λ b hb'=>hb b (by simp[hb'])) (λ j hj=>GO j (by simp[hj]));obtain⟨hs2,o2,p2,q2⟩:=tF hΓ m h3 (n:=0+qP (sa.take first.length)+qP (as.map AT.d)) (rd:=rd') (λ b hb'=>hb b (by simp[hb'])) (λ j hj=>GO j (by simp[hj]));refine⟨.cT (λ ts u=>∃h x,φ.1 h=some x/\ts=HL.nq X.toSE as h/\u=CT.tv X.toSE r' x)::(hs1++hs2),o1++(o2++[iO P f/\∀args r,(∃ h x,φ.1 h=some x/\args=HL.nq X.toSE as h/\r=CT.tv X.toSE r' x)->sB P f (dQ 0 _ hf.1++args.map TV.av++dQ (0+qP (sa.take first.length)+qP (as.map AT.d)) _ hcap.1) (.one (.d r))]),?_,λag=>?_⟩
    ·intro p hp;simp only[aX,aY]at hp;rcases hp with hp |hp |hp
     ·exact p1 p hp
     ·exact p2 p hp
     ·subst hp;refine⟨g1,?_⟩;rintro args r ⟨x,y,hxy,rfl,rfl⟩;rw[<- hc]at hxy;have hxy':fn (e2 ▸ tA _ _ hf.1 (tA _ _ (hlA as x) hcap.1))=some y:=hxy;have:=g2 _ _ hxy';have hnm:(sa.all λq=>!q.im)=true:=(by rw[e2,List.all_append,List.all_append,adX h2,adX h3,Wf];rfl);rw[Au hnm,Ar,agn e2.symm,lT,lT,Rn,<- aK]at this;exact WJ this
    ·simp only[cons_append,aK,pG,q1,ah,q2];rfl
   ·cases hc
  ·cases hc
end
end
def J9(s:ByteArray)(n:Int):Option Int:=bif decide (0<=n)then(s[n.toNat]?).map λb=>(b.toNat:Int)else none
def BH(m:Int)(bytes:Nat):Bool:=decide (0<=m)&&decide (m.toNat*bytes<=140737488355328)&&decide (m.toNat<=maxLen)
def qI{K V:Type}(eq:K->K->Bool)(k:K):List (K×V)->Option V
 |[]=>none
 |p::r=>bif eq k p.1 then some p.2 else qI eq k r
def Nq{K V:Type}(eq:K->K->Bool)(k:K)(v:V):List (K×V)->List (K×V)
 |[]=>[(k,v)]
 |p::r=>bif eq k p.1 then(k,v)::r else p::Nq eq k v r
def Z2(a b:Int):Bool:=a==b
def d6(a b:ByteArray):Bool:=a.toList==b.toList
def bEq(a b:Bool):Bool:=a==b
section
variable {X:SX} {A:Type}
def OY:(c:CT X.ι)->Option (CT.T X.toSE c->CT.T X.toSE c->Bool)
 | .int _=>some Z2
 | .str=>some d6
 | .bool=>some bEq
 |_=>none
def BT{ι:Type}:xF->CT ι->Bool
 | .int a,.int b=>decide (a=b)
 | .str,.str=>true
 | .bool,.bool=>true
 |_,_=>false
def aoa{ι:Type}:CT ι->Bool
 | .st _=>true
 |_=>false
theorem iG(a b:List (DV X)):bK (a++b)=bK a++bK b:=by simp[oC]
theorem tH(a b:List (Nat×Option (br X))):gM (a++b)=gM a++gM b:=by simp[gM]
def OZ(ae:List Nat):List (Nat×Option (br X)):=ae.map λj=>(j,none)
theorem Fb(ae:List Nat):gM (OZ (X:=X) ae)=ae.map λk=>(k,none):=by simp[gM,OZ]
theorem LC{ae:List Nat}{p:Nat×Option (br X)}(h:p∈OZ ae):p.1∈ae:=by
 simp only[OZ,mem_map]at h;obtain⟨j,hj,rfl⟩:=h;exact hj
variable (T:dy) (ao:TypeId->Option (CT X.ι))
def T6:DV X->Bool
 | .nil=>true
 |_=>false
def DA(op:BinOp)(b:DV X)(yes:Bool)(k:KK X A):Option A:=
 match op with
 | .eql=>bif yes then k b [] [] []else k (.c .bool false) [] [] []
 | .neq=>bif yes then k b [] [] []else k (.c .bool true) [] [] []
 |_=>none
def SD(op:BinOp)(t:TypeId)(x:DV X)(k:KK X A):Option A:=
 (T t).bind λti=>match ti.k,x with
 | .slice _,.c (.sl _) l=>DA op .ub (List.isEmpty l) k
 | .slice _,.own _ _ len=>DA op .ub (len==0) k
 | .slice _,.oz _ len=>DA op (.c .bool (op== .eql)) (len==0) k
 | .slice _,.nil=>DA op (.c .bool (op== .eql)) true k
 |_,_=>none
def am7(s d:TypeId)(x:DV X)(k:KK X A):Option A:=
 (T s).bind λ_=>(T d).bind λdi=>match di.k,x with
 | .int kd,.c (.int _) n=>k (.c (.int kd) (kd.wrap (iN n))) [] [] []
 |_,_=>none
def akw(t:TypeId)(x j:DV X)(k:KK X A):Option A:=
 (T t).bind λti=>match ti.k,x,j with
 | .str,.c .str s,.c (.int _) n=>(J9 s n).bind λb=>k (.c (.int .u8) b) [] [] []
 | .arr m e,.agg cs,.c (.int _) q=>(T e).bind λei=>bif b9 q m then(J5 ei.agg ei.size ((cs.drop (q.toNat*ei.size)).take ei.size)).bind λv=>k v [] [] []else none
 |_,_,_=>none
def aaS(t:TypeId)(x:DV X)(lo hi:Option (DV X))(k:KK X A):Option A:=
 (T t).bind λti=>match ti.k,x with
 | .slice e,.nil=>(T e).bind λ_=>(ZI 0 lo).bind λl=>(ZI 0 hi).bind λh=>bif decide (l=0)&&decide (h=0)then k .nil [] [] []else none
 |_,_=>none
def Ro(i:Nat)(b:Builtin)(args:List (DV X))(cV:List TypeId)(get:Nat->Option (br X))(k:KK X A):Option A:=
 match b,args,cV with
 | .cap,[.nil],[t]=>(T t).bind λti=>match ti.k with
  | .slice _=>k (.c (.int .i64) (0:Int)) [] [] []
  |_=>none
 | .clear,[.own kk aa _],[t]=>(T t).bind λti=>match ti.k with
  | .slice e=>(T e).bind λei=>(get kk).bind λo=>match o with
   | .dc c l=>if CT.sz X c=ei.size then k (.fi []) [(kk,some (.dc c (l.take aa)))] [kk] [kk]else none
   |_=>none
  |_=>none
 | .append,[.nil,.c (.int _) m],[t,u]=>(T t).bind λti=>(T u).bind λui=>match ti.k,ui.k with
  | .slice e,.int _=>(T e).bind λei=>(ao e).bind λc=>if CT.sz X c=ei.size/\0<ei.size then(OT c (ei.zero.map tz)).bind λz=>
   bif BH (iN m) ei.bytes then k (.own (cy i) 0 m.toNat) [(cy i,some (.dc c (List.replicate m.toNat z)))] [] []else none else none
  |_,_=>none
 |_,_,_=>none
def Rp(x:DV X)(k:KK X A):Option A:=
 match x with
 | .ptr kk r f=>k (.ptr kk r f) [] [] []
 | .p4 kk n f=>k (.p4 kk n f) [] [] []
 | .rx kk r f m n=>k (.rx kk r f m n) [] [] []
 | .rp c y f=>k (.rp c y f) [] [] []
 |_=>none
def TE(i:Nat)(t:TypeId)(l c:DV X)(k:KK X A):Option A:=
 (T t).bind λti=>match ti.k,l,c with
 | .slice e,.c (.int _) n,.c (.int _) m=>(T e).bind λei=>(ao e).bind λc=>if CT.sz X c=ei.size/\0<ei.size then(OT c (ei.zero.map tz)).bind λz=>
  bif decide (iN n<=iN m)&&(decide (0<=iN n)&&BH (iN m) ei.bytes)then k (.own (cy i) 0 n.toNat) [(cy i,some (.dc c (List.replicate n.toNat z)))] [] []else none else none
 |_,_,_=>none
def Xe(i:Nat)(t:TypeId)(k:KK X A):Option A:=
 (T t).bind λti=>match ti.k with
 | .map kt et=>(ao kt).bind λkc=>(ao et).bind λvc=>k (.mp (cy i)) [(cy i,some (.map kc vc []))] [] []
 |_=>none
def We(t:TypeId)(x key:DV X)(ok:Bool)(get:Nat->Option (br X))(k:KK X A):Option A:=
 (T t).bind λti=>match ti.k,x with
 | .map kt et,.mp kk=>(T kt).bind λki=>(T et).bind λei=>(get kk).bind λo=>match o with
  | .map kc vc l=>(OY kc).bind λeq=>(Mi key kc).bind λkv=>if BT ki.k kc=true/\ei.agg=aoa vc/\ei.size=CT.sz X vc then(OT vc (ei.zero.map tz)).bind λz=>
   bif ok then k (.fi [.c vc ((qI eq kv l).getD z),.c .bool (qI eq kv l).isSome]) [] [kk] []else k (.c vc ((qI eq kv l).getD z)) [] [kk] []else none
  |_=>none
 |_,_=>none
def Wc(t:TypeId)(x key y:DV X)(get:Nat->Option (br X))(k:KK X A):Option A:=
 (T t).bind λti=>match ti.k,x with
 | .map kt _,.mp kk=>(T kt).bind λki=>(get kk).bind λo=>match o with
  | .map kc vc l=>(OY kc).bind λeq=>(Mi key kc).bind λkv=>(dat y vc).bind λv=>if BT ki.k kc=true then k .undef [(kk,some (.map kc vc (Nq eq kv v l)))] [kk] [kk]else none
  |_=>none
 |_,_=>none
def aoc(o:Op)(ρ:Operand->DV X):Bool:=
 match o with
 | .binOp _ _ _ y _=>T6 (ρ y)
 | .convert _ _ _=>true
 | .index _ _ _=>true
 | .nilCheck _=>true
 | .makeSlice _ _ _=>true
 | .makeMap _ none=>true
 | .lookup _ _ _ _=>true
 | .mapUpdate _ _ _ _=>true
 | .slice _ x _ _ none=>T6 (ρ x)
 | .call { callee:= .builtin b,args:=args,argTypes:=_ }=>match b,args.toList.map ρ with
  | .cap,_=>true
  | .clear,_=>true
  | .append,[_,.c (.int _) _]=>true
  |_,_=>false
 |_=>false
def Sx(i:Nat)(o:Op)(ρ:Operand->DV X)(get:Nat->Option (br X))(k:KK X A):Option A:=
 match o with
 | .binOp op t x y _=>if T6 (ρ y)then SD T op t (ρ x) k else none
 | .convert s d x=>am7 T s d (ρ x) k
 | .index t x j=>akw T t (ρ x) (ρ j) k
 | .slice t x lo hi none=>aaS T t (ρ x) (lo.map ρ) (hi.map ρ) k
 | .nilCheck x=>Rp (ρ x) k
 | .makeSlice t l c=>TE T ao i t (ρ l) (ρ c) k
 | .makeMap t none=>Xe T ao i t k
 | .lookup t m x ok=>We T t (ρ m) (ρ x) ok get k
 | .mapUpdate t m x v=>Wc T t (ρ m) (ρ x) (ρ v) get k
 | .call { callee:= .builtin b,args:=args,argTypes:=cV }=>Ro T ao i b (args.toList.map ρ) cV.toList get k
 |_=>none
def HO(get:Nat->Option (br X))(c:CT X.ι)(ρ:Operand->DV X)(x:Operand):DV X:=
 match IC get (ρ x) c with
 |some y=> .c c y.1
 |none=>ρ x
def Jx(get:Nat->Option (br X))(c:CT X.ι)(ρ:Operand->DV X):List Operand->List Bool
 |[]=>[]
 |x::xs=>(match IC get (ρ x) c with |some y=>y.2 |none=>[])++Jx get c ρ xs
def xy(get:Nat->Option (br X))(c:CT X.ι)(ρ:Operand->DV X):List Operand->List Nat
 |[]=>[]
 |x::xs=>(match IC get (ρ x) c with |some _=>bm (ρ x) |none=>[])++xy get c ρ xs
def amb(o:Op)(ρ:Operand->DV X)(get:Nat->Option (br X)):Option (CT X.ι):=
 match o with
 | .box t _=>ao t
 | .assign x | .move x=>match ρ x with
  | .own kk _ _=>(get kk).bind λo=>match o with
   | .dc c _=>some (.sl c)
   |_=>none
  |_=>none
 | .buildSlice t _ _=>(T t).bind λti=>match ti.k with
  | .slice e=>ao e
  |_=>none
 | .store t _ _=>ao t
 |_=>none
def aod(o:Op)(ρ:Operand->DV X):Bool:=
 match o with
 | .buildSlice _ _ parts=>!(aS (parts.toList.map λp=>ρ p.2)).isEmpty
 | .store _ a x=>match ρ a with
  | .p4 _ _ _=>!(bm (ρ x)).isEmpty
  |_=>false
 |_=>false
def Th(i:Nat)(o:Op)(ρ:Operand->DV X)(get:Nat->Option (br X))(k:KK X A):Option A:=
 if V0 o then none else(amb T ao o ρ get).bind λc=>WR (Jx get c ρ o.operands.toList)
  (IH T ao i o (HO get c ρ) (λ j=>if j∈xy get c ρ o.operands.toList then none else get j) λdv upd rd wr=>
   k dv (upd++OZ (xy get c ρ o.operands.toList)) (rd++xy get c ρ o.operands.toList) (wr++xy get c ρ o.operands.toList))
def aoe(o:Op)(ρ:Operand->DV X):Bool:=
 match o with
 | .indexAddr t x (.tmp _)=>match ρ x,T t with
  | .ptr _ _ _,some ti | .rp _ _ _,some ti=>match ti.k with
   | .arr _ e=>match T e with
    |some ei=>ei.size==1
    |none=>false
   |_=>false
  |_,_=>false
 | .load _ a=>match ρ a with
  | .rx _ _ _ _ _ | .vf _ _ _ _ _=>true
  |_=>false
 |_=>false
def zl(c:CT X.ι):List (DV X)->Option (List (CT.T X.toSE c))
 |[]=>some []
 | .c a x::r=>(gD a c x).bind λy=>(zl c r).bind λl=>some (y::l)
 |_=>none
def Tb(o:Op)(ρ:Operand->DV X)(get:Nat->Option (br X))(k:KK X A):Option A:=
 match o with
 | .indexAddr t x j=>(T t).bind λti=>match ti.k,ρ x,ρ j with
  | .arr m e,.ptr kk row aa,.c (.int _) n=>(T e).bind λei=>if ei.size=1 then bif b9 n m then k (.rx kk row aa m n) [] [] []else none else none
  | .arr m e,.rp c y aa,.c (.int _) n=>(T e).bind λei=>if ei.size=1 then bif b9 n m then k (.vf c y aa m n) [] [] []else none else none
  |_,_,_=>none
 | .load t a=>(T t).bind λti=>match ρ a with
  | .rx kk row aa m n=>if ti.size=1/\ti.agg=false then(ao t).bind λc=>if c.one=true then(get kk).bind λo=>match o with
   | .cells _ rows=>(rows[row]?).bind λq=>(zl c ((q.drop aa).take m)).bind λ(xs:List (CT.T X.toSE c))=>(bo xs n).bind λy=>k (.c c y) [] [kk] []
   | .dc b l=>if row=0/\b.one=true then(atO l aa n).bind λy=>k (.c b y) [] [kk] []else none
   |_=>none
   else none else none
  | .vf b y aa m n=>if ti.size=1/\ti.agg=false then(ao t).bind λc=>if c.one=true then(zl c (((vU b y).drop aa).take m)).bind λ(xs:List (CT.T X.toSE c))=>(bo xs n).bind λy=>k (.c c y) [] [] []
   else none else none
  |_=>none
 |_=>none
variable {T ao}
def cN(P:Program)(T:dy)(i:Nat)(o:Oper)(ρ:Operand->DV X)(get:Nat->Option (br X))(k:KK X A)(r:A):Prop:=
 ∃cw rd wr dv upd ab,jK P T i o cw (λ x=>den (ρ x)) (dG rd (fD get))=some ab/\j5 ab.obs/\ab.v=den dv/\ab.upd=gM upd/\(∀ p∈upd,p.1=cy i\/p.1∈wr)/\k dv upd rd wr=some r
section
variable {P:Program} {get:Nat->Option (br X)} {k:KK X A} {r:A} {i:Nat} {o:Oper} {ρ:Operand->DV X}
theorem akz{t:TypeId}{x:AV}{cw:i6}(h:(∃ n,cw= .ext n)\/∃ae fr q,cw= .vx ae fr q):xv T t x .none=xv T t x cw:=by
 unfold xv;cases T t with
 |none=>rfl
 |some ti=>
  simp only[ah];generalize ti.k=kk;rcases h with ⟨n,rfl⟩ |⟨ae,fr,q,rfl⟩<;>cases kk<;>try rfl
  all_goals cases x<;>try rfl
  all_goals (rename_i y;cases y<;>try rfl)
  all_goals (rename_i y;cases y<;>rfl)
theorem Xf{t:TypeId}{x j:AV}{cw:i6}{get:Nat->Option aU}(h:(∃ n,cw= .ext n)\/∃ae fr q,cw= .vx ae fr q):mI T t x j .none get=mI T t x j cw get:=by
 unfold mI;cases T t with
 |none=>rfl
 |some ti=>
  simp only[ah];generalize ti.k=kk;cases kk<;>try rfl
  case arr m e=>
   cases j<;>try rfl
   rename_i y;cases y<;>try rfl
   rename_i y;cases y<;>rfl
  cases j<;>try rfl
  rename_i e y;cases y<;>try rfl
  rename_i y;cases y<;>try rfl
  simp only;cases T e with
  |none=>rfl
  |some ei=>
   simp only[ah];rcases h with ⟨n,rfl⟩ |⟨ae,fr,q,rfl⟩<;>cases x<;>try rfl
   all_goals (rename_i z;cases z<;>rfl)
theorem adZ{t:TypeId}{x y:AV}{cw:i6}{get:Nat->Option aU}(h:(∃ n,cw= .ext n)\/∃ae fr q,cw= .vx ae fr q):Ct T i t x y .none get=Ct T i t x y cw get:=by
 unfold Ct;rcases h with ⟨n,rfl⟩ |⟨ae,fr,q,rfl⟩<;>rfl
theorem aiT{cw:i6}{ρ:Operand->AV}{get:Nat->Option aU}(h:(∃ n,cw= .ext n)\/∃ae fr q,cw= .vx ae fr q):qH T i o .none ρ get=qH T i o cw ρ get:=by
 obtain⟨dst,op,ty,aw,after,guard⟩:=o;cases op
 case call c=>
  obtain⟨callee,args,cV⟩:=c;cases callee<;>try rfl
  rename_i b;simp only[qH,EY];split
  ·exact akz h
  ·rfl
  ·rfl
  ·rw[adZ h]
  ·rfl
 case slice t x lo hi mx=>cases mx<;>rcases h with ⟨n,rfl⟩ |⟨ae,fr,q,rfl⟩<;>rfl
 case makeFunc fn a b=>cases fn<;>rfl
 case indexAddr t x j=>exact Xf h
 all_goals (rcases h with ⟨n,rfl⟩ |⟨ae,fr,q,rfl⟩<;>rfl)
theorem cN.ext{n:Int}{rd wr:List Nat}{dv:DV X}{upd:List (Nat×Option (br X))}{ab:Out}(h:oZ T i o n (λ x=>den (ρ x)) (dG rd (fD get))=some ab)(h1:j5 ab.obs)(h2:ab.v=den dv)(h3:ab.upd=gM upd)(h4:∀p∈upd,p.1=cy i\/p.1∈wr)(h5:k dv upd rd wr=some r)(hx:DG o.op=false:=by rfl):cN P T i o ρ get k r:=
 ⟨.ext n,rd,wr,dv,upd,ab,by show qb T i o n _ _=some ab;unfold qb;rw[hx];simp only[aj,ak,h],h1,h2,h3,h4,h5⟩
theorem cN.ue{n:Int}{rd wr:List Nat}{dv:DV X}{upd:List (Nat×Option (br X))}{ab:Out}(h:Gw T i o n (λ x=>den (ρ x)) (dG rd (fD get))=some ab)(h1:j5 ab.obs)(h2:ab.v=den dv)(h3:ab.upd=gM upd)(h4:∀p∈upd,p.1=cy i\/p.1∈wr)(h5:k dv upd rd wr=some r)(hx:DG o.op=true:=by rfl):cN P T i o ρ get k r:=
 ⟨.ext n,rd,wr,dv,upd,ab,by show qb T i o n _ _=some ab;unfold qb;rw[hx];simp only[aj,ak,h],h1,h2,h3,h4,h5⟩
theorem cN.qt{n:Int}{rd wr:List Nat}{dv:DV X}{upd:List (Nat×Option (br X))}{ab:Out}(h:lN T i o n (λ x=>den (ρ x)) (dG rd (fD get))=some ab)(h1:j5 ab.obs)(h2:ab.v=den dv)(h3:ab.upd=gM upd)(h4:∀p∈upd,p.1=cy i\/p.1∈wr)(h5:k dv upd rd wr=some r)(hx:DG o.op=false)(h0:oZ T i o n (λ x=>den (ρ x)) (dG rd (fD get))=none):cN P T i o ρ get k r:=
 ⟨.ext n,rd,wr,dv,upd,ab,by show qb T i o n _ _=some ab;unfold qb;rw[hx];simp only[ak,h0,h],h1,h2,h3,h4,h5⟩
theorem Us{x:DV X}(h:Rp x k=some r):∃dv,Q7 (den x)=some ⟨den dv,[],[]⟩/\k dv [] [] []=some r:=by cases x<;>simp only[Rp]at h<;>first |cases h |exact⟨_,rfl,h⟩
theorem aaT{cw:i6}{ρ:Operand->AV}{get:Nat->Option aU}(hne:∀f args cV,o.op≠ .call { callee:= .value f,args:=args,argTypes:=cV })(ho:∀n,cw≠ .ext n)(hf:∀ae fr q,cw≠ .vx ae fr q):jK P T i o cw ρ get=qH T i o cw ρ get:=by
 have e:∀(α:Type) (a:Operand->Array Operand->Array TypeId->α) (b:α),(match o.op with | .call { callee:= .value f,args:=args,argTypes:=cV }=>a f args cV |_=>b)=b:=by
  intro α a b;split
  ·rename_i f args cV heq;exact(hne f args cV heq).elim
  ·rfl
 cases cw<;>first |exact(ho _ rfl).elim |exact(hf _ _ _ rfl).elim |exact e _ _ _
theorem cN.op{cw:i6}{rd wr:List Nat}{dv:DV X}{upd:List (Nat×Option (br X))}{ab:Out}(hne:∀f args cV,o.op≠ .call { callee:= .value f,args:=args,argTypes:=cV })
 (h:qH T i o cw (λ x=>den (ρ x)) (dG rd (fD get))=some ab) (h1:j5 ab.obs/\ab.v=den dv/\ab.upd=gM upd/\(∀ p∈upd,p.1=cy i\/p.1∈wr)/\k dv upd rd wr=some r):cN P T i o ρ get k r:=by
 obtain⟨tP,h'⟩:∃tP,jK P T i o tP (λ x=>den (ρ x)) (dG rd (fD get))=some ab:=by
  by_cases hx:(∃ n,cw= .ext n)\/∃ae fr q,cw= .vx ae fr q
  ·refine⟨.none,?_⟩;rw[aaT hne (by simp) (by simp),aiT hx,h]
  ·simp only[not_or,not_exists]at hx;exact⟨cw,by rw[aaT hne hx.1 (λ ae fr q=>hx.2 ae fr q),h]⟩
 exact⟨tP,rd,wr,dv,upd,ab,h',h1⟩
theorem cN.call{dst:Option Tmp}{f:Operand}{args:Array Operand}{cV:Array TypeId}{ty:TypeId}{aw:String}{after:Array Edge}{guard:Option (Nat×Bool)}{cw:i6}{rd wr:List Nat}{dv:DV X}{upd:List (Nat×Option (br X))}{ab:Out}
 (h:kF P i (den (ρ f)) (args.toList.map λx=>den (ρ x)) cw (dG rd (fD get))=some ab) (h1:j5 ab.obs/\ab.v=den dv/\ab.upd=gM upd/\(∀ p∈upd,p.1=cy i\/p.1∈wr)/\k dv upd rd wr=some r):
 cN P T i ⟨dst,.call { callee:= .value f,args:=args,argTypes:=cV },ty,aw,after,guard⟩ ρ get k r:=by
 refine⟨cw,rd,wr,dv,upd,ab,?_,h1⟩;unfold jK;split
 ·unfold kF pK zh at h;simp only at h;split at h<;>first |cases h |(rename_i e;cases e)
 ·unfold kF pK zh at h;simp only at h;split at h<;>first |cases h |(rename_i e;cases e)
 ·exact h
theorem LD{op:BinOp}{b:DV X}{yes:Bool}(h:DA op b yes k=some r):∃dv ab,Cl op (den b) yes=some ab/\j5 ab.obs/\ab.v=den dv/\ab.upd=[]/\k dv [] [] []=some r:=by
 unfold DA at h;split at h
 ·cases yes with
  |true=>exact⟨b,_,rfl,trivial,rfl,rfl,h⟩
  |false=>exact⟨.c .bool false,_,rfl,trivial,rfl,rfl,h⟩
 ·cases yes with
  |true=>exact⟨b,_,rfl,trivial,rfl,rfl,h⟩
  |false=>exact⟨.c .bool true,_,rfl,trivial,rfl,rfl,h⟩
 ·cases h
theorem agr{op:BinOp}{t:TypeId}{x:DV X}(h:SD T op t x k=some r):∃dv ab,Zt T op t (den x) .cM=some ab/\j5 ab.obs/\ab.v=den dv/\ab.upd=[]/\k dv [] [] []=some r:=by
 unfold SD at h;rw[ai]at h;obtain⟨ti,h1,h⟩:=h;split at h
 ·rename_i e c l hk;have⟨dv,ab,g1,g2⟩:=LD h;refine⟨dv,ab,?_,g2⟩;simp only[Zt,h1,ah,hk,den,CT.tv,TV.av];rw[<- g1];congr 1;cases l<;>rfl
 ·rename_i e kk aa len hk;have⟨dv,ab,g1,g2⟩:=LD h;exact⟨dv,ab,by simp only[Zt,h1,ah,hk,den];exact g1,g2⟩
 ·rename_i e kk len hk;have⟨dv,ab,g1,g2⟩:=LD h;exact⟨dv,ab,by simp only[Zt,h1,ah,hk,den];exact g1,g2⟩
 ·rename_i e hk;have⟨dv,ab,g1,g2⟩:=LD h;exact⟨dv,ab,by simp only[Zt,h1,ah,hk,den];exact g1,g2⟩
 ·cases h
theorem ags{s:ByteArray}{n b:Int}(h:J9 s n=some b):0<=n/\∃c,s[n.toNat]? =some c/\b=c.toNat:=by
 unfold J9 at h;by_cases hn:0<=n
 ·simp only[hn,decide_true,aj,eU]at h;obtain⟨c,h1,h2⟩:=h;exact⟨hn,c,h1,h2.symm⟩
 ·simp[hn]at h
theorem aaU{m:Int}{bytes:Nat}(h:BH m bytes=true):0<=m/\m.toNat*bytes<=140737488355328/\m.toNat<=maxLen:=by simpa[BH,and_assoc]using h
theorem Ut{b:Builtin}{args:List (DV X)}{cV:List TypeId}(h:Ro T ao i b args cV get k=some r):
 ∃rd wr dv upd ab,vQ T i b (bK args) cV (dG rd (fD get))=some ab/\j5 ab.obs/\ab.v=den dv/\ab.upd=gM upd/\(∀ p∈upd,p.1=cy i\/p.1∈wr)/\k dv upd rd wr=some r:=by
 unfold Ro at h;split at h
 ·rename_i t;rw[ai]at h;obtain⟨ti,h1,h⟩:=h;split at h
  ·rename_i e hk;refine⟨[],[],_,[],⟨.t (.sc (.int .i64 0)),[],[]⟩,?_,trivial,rfl,rfl,by simp,h⟩;simp only[vQ,bK,den,h1,ah,hk];rfl
  ·cases h
 ·rename_i kk aa len t;rw[ai]at h;obtain⟨ti,h1,h⟩:=h;split at h
  ·rename_i e hk;rw[ai]at h;obtain⟨ei,h2,h⟩:=h;rw[ai]at h;obtain⟨o,h3,h⟩:=h;split at h
   ·rename_i c l;split at h
    ·rename_i hs;refine⟨[kk],[kk],_,_,⟨.fi [],[(kk,some ⟨CT.sz X c,(aL (l.map (CT.row X.toSE c))).take aa⟩)],[]⟩,?_,trivial,rfl,?_,by simp,h⟩
     ·simp only[vQ,bK,den,h1,ah,hk,h2,dO (List.mem_singleton_self kk) h3,bG];rw[aP hs]
     ·simp[gM,bG,aL,map_take]
    ·cases h
   ·cases h
  ·cases h
 ·rename_i kd m t u;rw[ai]at h;obtain⟨ti,h1,h⟩:=h;rw[ai]at h;obtain⟨ui,h2,h⟩:=h;split at h
  ·rename_i e kn hk hk';rw[ai]at h;obtain⟨ei,h3,h⟩:=h;rw[ai]at h;obtain⟨c,h4,h⟩:=h;split at h
   ·rename_i hs;have⟨z,h5,h⟩:=ai.1 h;have⟨h6,h⟩:=dF h;have⟨m1,m2,m3⟩:=aaU h6;have hz:=Aa h5;rw[Am]at hz;refine⟨[],[],_,_,⟨.own (cy i) 0 m.toNat,[(cy i,some ⟨ei.size,dV (List.replicate m.toNat (ei.zero.map cv))⟩)],[0<=m/\m.toNat*ei.bytes<=140737488355328/\m.toNat<=maxLen/\0<ei.size]⟩,?_,?_,rfl,?_,by simp,h⟩
    ·simp only[vQ,bK,den,CT.tv,TV.av,h1,h2,h3,ah,hk,hk']
    ·exact⟨m1,m2,m3,hs.2⟩
    ·simp only[gM,aC,map_nil,Option.map_some,bG,hs.1,aL,dV,List.map_replicate];rw[hz]
   ·cases h
  ·cases h
 ·cases h
theorem ad1{t:TypeId}{l c:DV X}(h:TE T ao i t l c k=some r):∃dv upd ab,If T i t (den l) (den c)=some ab/\j5 ab.obs/\ab.v=den dv/\ab.upd=gM upd/\(∀ p∈upd,p.1=cy i)/\k dv upd [] []=some r:=by
 unfold TE at h;rw[ai]at h;obtain⟨ti,h1,h⟩:=h;split at h
 ·rename_i e kl n kc m hk;rw[ai]at h;obtain⟨ei,h3,h⟩:=h;rw[ai]at h;obtain⟨c,h4,h⟩:=h;split at h
  ·rename_i hs;have⟨z,h5,h⟩:=ai.1 h;have⟨h6,h⟩:=dF h;simp only[aJ,aT]at h6;obtain⟨h7,h8,h9⟩:=h6;have⟨m1,m2,m3⟩:=aaU h9;have hz:=Aa h5;rw[Am]at hz;refine⟨_,_,⟨.own (cy i) 0 n.toNat,[(cy i,some ⟨ei.size,dV (List.replicate n.toNat (ei.zero.map cv))⟩)],[0<=n/\n<=m/\m.toNat*ei.bytes<=140737488355328/\m.toNat<=maxLen/\0<ei.size]⟩,?_,?_,rfl,?_,by simp,h⟩
   ·simp only[If,den,CT.tv,TV.av,h1,h3,ah,hk]
   ·exact⟨h8,h7,m2,m3,hs.2⟩
   ·simp only[gM,aC,map_nil,Option.map_some,bG,hs.1,aL,dV,List.map_replicate];rw[hz]
  ·cases h
 ·cases h
theorem Xg{t:TypeId}(h:Xe T ao i t k=some r):∃dv upd ab,JZ T i t=some ab/\j5 ab.obs/\ab.v=den dv/\ab.upd=gM upd/\(∀ p∈upd,p.1=cy i)/\k dv upd [] []=some r:=by
 unfold Xe at h;rw[ai]at h;obtain⟨ti,h1,h⟩:=h;split at h
 ·rename_i kt et hk;have⟨kc,h2,h⟩:=ai.1 h;have⟨vc,h3,h⟩:=ai.1 h;exact⟨_,_,⟨.mp (cy i),[(cy i,some ⟨0,[]⟩)],[]⟩,by simp only[JZ,h1,ah,hk],trivial,rfl,rfl,by simp,h⟩
 ·cases h
theorem akA{ki:np}{kc:CT X.ι}(h:BT ki.k kc=true)(x:CT.T X.toSE kc):∃v,(CT.tv X.toSE kc x).av= .t (.sc v)/\Oz ki.k v=true:=by
 cases kc
 case int b=>
  refine⟨.int b x,rfl,?_⟩;cases hk:ki.k<;>rw[hk]at h<;>simp only[BT,aT,Bool.false_eq_true]at h;subst h;simp[Oz]
 case str=>
  refine⟨.string x,rfl,?_⟩;cases hk:ki.k<;>rw[hk]at h<;>simp only[BT,Bool.false_eq_true]at h;rfl
 case bool=>
  refine⟨.bool x,rfl,?_⟩;cases hk:ki.k<;>rw[hk]at h<;>simp only[BT,Bool.false_eq_true]at h;rfl
 all_goals (cases hk:ki.k<;>rw[hk]at h<;>simp[BT]at h)
theorem ad2{kc:CT X.ι}{eq:CT.T X.toSE kc->CT.T X.toSE kc->Bool}(h:OY kc=some eq){a b:CT.T X.toSE kc}{va:Value}(ha:(CT.tv X.toSE kc a).av= .t (.sc va)):∃vb,(CT.tv X.toSE kc b).av= .t (.sc vb)/\Tf va vb=some (eq a b):=by
 cases kc
 case int q=>
  simp only[OY,aA]at h;subst h;simp only[CT.tv,TV.av,AV.t.injEq,Tree.sc.injEq]at ha;subst ha;exact⟨_,rfl,by simp[Tf,Z2]⟩
 case str=>
  simp only[OY,aA]at h;subst h;simp only[CT.tv,TV.av,AV.t.injEq,Tree.sc.injEq]at ha;subst ha;exact⟨_,rfl,by simp[Tf,d6]⟩
 case bool=>
  simp only[OY,aA]at h;subst h;simp only[CT.tv,TV.av,AV.t.injEq,Tree.sc.injEq]at ha;subst ha;exact⟨_,rfl,by simp[Tf,bEq]⟩
 all_goals simp[OY]at h
theorem aaV{kc vc:CT X.ι}{eq:CT.T X.toSE kc->CT.T X.toSE kc->Bool}(h:OY kc=some eq){a:CT.T X.toSE kc}{va:Value}(ha:(CT.tv X.toSE kc a).av= .t (.sc va)):∀l:List (CT.T X.toSE kc×CT.T X.toSE vc),
 ∃r,Tg va (bG (.map kc vc l:br X)).rows=some r/\r.map (·.2)=(qI eq a l).map λv=>(CT.tv X.toSE vc v).av
 |[]=>⟨none,rfl,rfl⟩
 |p::l=>by
  have⟨vb,h1,h2⟩:=ad2 h (b:=p.1) ha;have⟨r,g1,g2⟩:=aaV h ha l;have g1':Tg va (l.map λp=>[(CT.tv X.toSE kc p.1).av,(CT.tv X.toSE vc p.2).av])=some r:=g1;simp only[bG,aC,h1,Tg,h2,ah,qI];cases eq a p.1 with
  |true=>exact⟨_,rfl,rfl⟩
  |false=>
   simp only[Bool.false_eq_true,if_false,g1',Option.map_some,ak];exact⟨_,rfl,by rw[<- g2,Option.map_map];rfl⟩
theorem ad3{kc vc:CT X.ι}{eq:CT.T X.toSE kc->CT.T X.toSE kc->Bool}(h:OY kc=some eq){a:CT.T X.toSE kc}{va:Value}(ha:(CT.tv X.toSE kc a).av= .t (.sc va))(y:CT.T X.toSE vc):∀l:List (CT.T X.toSE kc×CT.T X.toSE vc),
 wc va (CT.tv X.toSE vc y).av (bG (.map kc vc l:br X)).rows=some (bG (.map kc vc (Nq eq a y l):br X)).rows
 |[]=>by simp only[bG,map_nil,wc,Nq,aC,ha]
 |p::l=>by
  have⟨vb,h1,h2⟩:=ad2 h (b:=p.1) ha;have g:=ad3 h ha y l;have g':wc va (CT.tv X.toSE vc y).av (l.map λp=>[(CT.tv X.toSE kc p.1).av,(CT.tv X.toSE vc p.2).av])=some ((Nq eq a y l).map λp=>[(CT.tv X.toSE kc p.1).av,(CT.tv X.toSE vc p.2).av]):=g;simp only[bG,aC,h1,wc,h2,ah,Nq];cases eq a p.1 with
  |true=>simp only[if_true,aj,aC,ha]
  |false=>simp only[Bool.false_eq_true,if_false,g',Option.map_some,ak,aC,h1]
theorem zero_den{vc:CT X.ι}{ei:np}{z:CT.T X.toSE vc}(h:OT vc (ei.zero.map tz)=some z)(ha:ei.agg=aoa vc)(hs:ei.size=CT.sz X vc):part' ei.agg ei.size ((ei.zero.map cv).map wk)=some (CT.tv X.toSE vc z).av:=by
 have hz:=Aa h;rw[Am]at hz;rw[hz,ha,hs];have hl:((CT.row X.toSE vc z).map AV.t).length=CT.sz X vc:=by rw[length_map,Du]
 unfold part';rw[aP hl];cases vc<;>rfl
theorem amc{d:DV X}{c:CT X.ι}{x:CT.T X.toSE c}(h:dat d c=some x):CL (den d)=(CT.tv X.toSE c x).av:=by
 cases c
 case st j=>
  replace h:BW d j=some x:=h
  cases d
  case agg cs=>
   simp only[BW]at h;rw[ai]at h;obtain⟨g,h1,h⟩:=h;cases h;simp only[den,CL,(Ap h1 (X.flat j)).1];rw[<- WW];rfl
  case c a y=>
   replace h:gD a (.st j) y=some x:=h
   rw[(iU h).1];simp only[den,CT.tv,TV.av,CL,map_map];congr 1
  all_goals cases h
 all_goals
  (have h':Mi d _=some x:=h
   have hd:=xu h';cases d
   case agg=>cases h
   case c a y=>
    obtain⟨e,_⟩:=mJ (show gD a _ y=some x from h);subst e;exact hd
   all_goals first |exact hd |(cases h))
theorem ZM{t:TypeId}{x key:DV X}{ok:Bool}(h:We T t x key ok get k=some r):∃rd dv ab,Lx T t (den x) (den key) ok (dG rd (fD get))=some ab/\j5 ab.obs/\ab.v=den dv/\ab.upd=[]/\k dv [] rd []=some r:=by
 unfold We at h;rw[ai]at h;obtain⟨ti,h1,h⟩:=h;split at h
 ·rename_i kt et kk hk;rw[ai]at h;obtain⟨ki,h2,h⟩:=h;rw[ai]at h;obtain⟨ei,h3,h⟩:=h;rw[ai]at h;obtain⟨o,h4,h⟩:=h;split at h
  ·rename_i kc vc l;rw[ai]at h;obtain⟨eq,h5,h⟩:=h;rw[ai]at h;obtain⟨kv,h6,h⟩:=h;split at h
   ·rename_i hc;have⟨z,h7,h⟩:=ai.1 h;have⟨va,g1,g2⟩:=akA hc.1 kv;have⟨q,g3,g4⟩:=aaV (vc:=vc) h5 g1 l;have hkey:den key= .t (.sc va):=by
     have:=xu h6;rw[g1]at this;cases hd:den key<;>rw[hd]at this<;>simp only[wk,AV.t.injEq,reduceCtorEq]at this;subst this;rfl
    have hv:∀q:Option (Nat×AV),q.map (·.2)=(qI eq kv l).map (λ v=>(CT.tv X.toSE vc v).av)->IF q (part' ei.agg ei.size ((ei.zero.map cv).map wk))=some (CT.tv X.toSE vc ((qI eq kv l).getD z)).av:=by
     intro q g;cases hm:qI eq kv l with
     |none=>
      rw[hm]at g;cases q with
      |none=>exact zero_den h7 hc.2.1 hc.2.2
      |some p=>simp at g
     |some v=>
      rw[hm]at g;cases q with
      |none=>simp at g
      |some p=>simp only[Option.map_some,aA]at g;simp only[IF,g,Option.getD_some]
    have hi:q.isSome=(qI eq kv l).isSome:=by
     have:=congrArg Option.isSome g4;simpa using this
    have hb:Lx T t (den (.mp kk:DV X)) (den key) ok (dG [kk] (fD get))=pv (if ok then .fi [den (.c vc ((qI eq kv l).getD z):DV X),.t (.sc (.bool q.isSome))]else den (.c vc ((qI eq kv l).getD z):DV X)):=by
     simp only[Lx,h1,ah,hk,den,hkey,h2,h3,dO (List.mem_singleton_self kk) h4];rw[aP ⟨g2,by simp[bG]⟩];rw[g3,ah,hv q g4,ah]
    cases ok with
    |true=>exact⟨[kk],_,_,hb,trivial,by simp only[if_true,den,bK,hi];rfl,rfl,h⟩
    |false=>exact⟨[kk],_,_,hb,trivial,rfl,rfl,h⟩
   ·cases h
  ·cases h
 ·cases h
theorem ZN{t:TypeId}{x key y:DV X}(h:Wc T t x key y get k=some r):∃rd wr dv upd ab,OA T t (den x) (den key) (den y) (dG rd (fD get))=some ab/\j5 ab.obs/\ab.v=den dv/\ab.upd=gM upd/\(∀ p∈upd,p.1∈wr)/\k dv upd rd wr=some r:=by
 unfold Wc at h;rw[ai]at h;obtain⟨ti,h1,h⟩:=h;split at h
 ·rename_i kt et kk hk;rw[ai]at h;obtain⟨ki,h2,h⟩:=h;rw[ai]at h;obtain⟨o,h4,h⟩:=h;split at h
  ·rename_i kc vc l;rw[ai]at h;obtain⟨eq,h5,h⟩:=h;rw[ai]at h;obtain⟨kv,h6,h⟩:=h;rw[ai]at h;obtain⟨v,h7,h⟩:=h;split at h
   ·rename_i hc;have⟨va,g1,g2⟩:=akA hc kv;have g3:=ad3 (vc:=vc) h5 g1 v l;have hkey:den key= .t (.sc va):=by
     have:=xu h6;rw[g1]at this;cases hd:den key<;>rw[hd]at this<;>simp only[wk,AV.t.injEq,reduceCtorEq]at this;subst this;rfl
    refine⟨[kk],[kk],_,_,⟨.undef,[(kk,some ⟨(bG (.map kc vc (Nq eq kv v l):br X)).rows.length,(bG (.map kc vc (Nq eq kv v l):br X)).rows⟩)],[]⟩,?_,trivial,rfl,?_,by simp,h⟩
    ·simp only[OA,h1,ah,hk,den,hkey,h2,dO (List.mem_singleton_self kk) h4];rw[aP ⟨g2,by simp[bG]⟩,amc h7,g3];rfl
    ·simp[gM,bG]
   ·cases h
  ·cases h
 ·cases h
theorem agt(h:Sx T ao i o.op ρ get k=some r):cN P T i o ρ get k r:=by
 obtain⟨dst,op,ty,aw,after,guard⟩:=o;unfold Sx at h;simp only at h;split at h
 ·rename_i op t x y q;split at h
  ·rename_i hn;have⟨dv,ab,g1,g2,g3,g4,g5⟩:=agr h;have hy:den (ρ y)= .cM:=(by cases hρ:ρ y<;>rw[hρ]at hn<;>first |rfl |cases hn);exact cN.ext (n:=0) (rd:=[]) (wr:=[]) (upd:=[]) (by simp only[oZ,hy];exact g1) g2 g3 g4 (by simp) g5
  ·cases h
 ·rename_i s d x;unfold am7 at h;rw[ai]at h;obtain⟨si,h1,h⟩:=h;rw[ai]at h;obtain⟨di,h2,h⟩:=h;split at h
  ·rename_i kd k' n hk hx;refine cN.ext (n:=0) (rd:=[]) (wr:=[]) (upd:=[]) (ab:=⟨.t (.sc (.int kd (kd.wrap n))),[],[]⟩) ?_ trivial rfl rfl (by simp) h;simp only[oZ,LN,h1,h2,ah,hk,hx];rfl
  ·cases h
 ·rename_i t x j;unfold akw at h;rw[ai]at h;obtain⟨ti,h1,h⟩:=h;split at h
  ·rename_i s kk n hk hx hj;rw[ai]at h;obtain⟨b,h2,h⟩:=h;refine cN.ext (n:=b) (rd:=[]) (wr:=[]) (upd:=[]) (ab:=⟨.t (.sc (.int .u8 b)),[],[0<=n/\∃c,s[n.toNat]? =some c/\b=c.toNat]⟩) ?_ (ags h2) rfl rfl (by simp) h;simp only[oZ,Wo,h1,ah,hk,hx,hj];rfl
  ·rename_i m e cs kd q hk hx hj;rw[ai]at h;obtain⟨ei,h2,h⟩:=h;have⟨h3,h⟩:=dF h;rw[ai]at h;obtain⟨v,h4,h⟩:=h;simp only[b9,aJ,aT]at h3;refine cN.ext (n:=0) (rd:=[]) (wr:=[]) (upd:=[]) (ab:=⟨den v,[],[0<=q/\q<(m:Int)]⟩) ?_ h3 rfl rfl (by simp) h;have h5:=E9 h4;rw[kG]at h5;simp only[oZ,Wo,h1,ah,hk,hx,hj,h2,den,CT.tv,TV.av,h5];rfl
  ·cases h
 ·rename_i t x lo hi;unfold aaS at h;rw[ai]at h;obtain⟨ti,h1,h⟩:=h;split at h
  ·rename_i e hk hx;rw[ai]at h;obtain⟨ei,h2,h⟩:=h;rw[ai]at h;obtain⟨l,h3,h⟩:=h;rw[ai]at h;obtain⟨hh,h4,h⟩:=h;have⟨h5,h⟩:=dF h;refine cN.ext (n:=0) (rd:=[]) (wr:=[]) (upd:=[]) (ab:=⟨.cM,[],[l=0/\hh=0]⟩) ?_ (show l=0/\hh=0 by simpa using h5) rfl rfl (by simp) h;have e1:=xw h3;have e2:=xw h4;rw[Option.map_map]at e1 e2;simp only[oZ,E8,h1,ah,hk,hx,h2,den];have IS:bnd 0 (lo.map λx=>den (ρ x))=some l:=e1;have e2':bnd 0 (hi.map λx=>den (ρ x))=some hh:=e2;rw[IS,ah,e2'];rfl
  ·cases h
 ·rename_i x;have⟨dv,g1,g2⟩:=Us h;exact cN.ue (n:=0) (rd:=[]) (wr:=[]) (upd:=[]) g1 trivial rfl rfl (by simp) g2
 ·rename_i t l c;have⟨dv,upd,ab,g1,g2,g3,g4,g5,g6⟩:=ad1 h;exact cN.ue (n:=0) (rd:=[]) (wr:=[]) (upd:=upd) g1 g2 g3 g4 (λ p hp=> .inl (g5 p hp)) g6
 ·rename_i t;have⟨dv,upd,ab,g1,g2,g3,g4,g5,g6⟩:=Xg h;exact cN.ue (n:=0) (rd:=[]) (wr:=[]) (upd:=upd) g1 g2 g3 g4 (λ p hp=> .inl (g5 p hp)) g6
 ·rename_i t m x ok;have⟨rd,dv,ab,g1,g2,g3,g4,g6⟩:=ZM h;exact cN.ue (n:=0) (rd:=rd) (wr:=[]) (upd:=[]) g1 g2 g3 g4 (by simp) g6
 ·rename_i t m x v;have⟨rd,wr,dv,upd,ab,g1,g2,g3,g4,g5,g6⟩:=ZN h;exact cN.ue (n:=0) (rd:=rd) (wr:=wr) (upd:=upd) g1 g2 g3 g4 (λ p hp=> .inr (g5 p hp)) g6
 ·rename_i b args cV;have⟨rd,wr,dv,upd,ab,g1,g2,g3,g4,g5,g6⟩:=Ut h;refine cN.ext (n:=0) (rd:=rd) (wr:=wr) (upd:=upd) ?_ g2 g3 g4 g5 g6;simp only[oZ,Vu];exact g1
 ·cases h
theorem ad4{c:CT X.ι}:∀{xs:List Operand}{x:Operand}{y:CT.T X.toSE c×List Bool},x∈xs->IC get (ρ x) c=some y->∀j∈bm (ρ x),j∈xy get c ρ xs
 |z::xs,x,y,hx,h,j,hj=>by
  simp only[xy,aX];rcases aN.1 hx with rfl |hx
  ·left;rw[h];exact hj
  ·exact .inr (ad4 hx h j hj)
 |[],_,_,hx,_,_,_=>by simp at hx
theorem ad5{c:CT X.ι}:∀{xs:List Operand}{x:Operand}{y:CT.T X.toSE c×List Bool},x∈xs->IC get (ρ x) c=some y->∀b∈y.2,b∈Jx get c ρ xs
 |z::xs,x,y,hx,h,b,hb=>by
  simp only[Jx,aX];rcases aN.1 hx with rfl |hx
  ·left;rw[h];exact hb
  ·exact .inr (ad5 hx h b hb)
 |[],_,_,hx,_,_,_=>by simp at hx
theorem agu(h:Th T ao i o.op ρ get k=some r):cN P T i o ρ get k r:=by
 unfold Th at h;split at h
 ·cases h
 rename_i hpick;have⟨c,h1,h⟩:=ai.1 h;have⟨hcs,h⟩:=qd h;have⟨cw,rd,wr,dv,upd,ab,g1,g2,g3,g4,g5,g6⟩:=aaP h;generalize ke:xy get c ρ o.op.operands.toList=ae at*;refine⟨.vx ae (λ x=>den (HO get c ρ x)) cw,rd++ae,wr++ae,dv,upd++OZ ae,⟨ab.v,ab.upd++ae.map (λ k=>(k,none)),ab.obs++[∀ x∈o.op.operands,(fy P (dG (rd++ae) (fD get)) (den (ρ x)) (den (HO get c ρ x))/\∀k∈refs (den (ρ x)),k∈ae)\/den (HO get c ρ x)=den (ρ x)]⟩,?_,?_,g3,?_,?_,g6⟩
 ·unfold jK JY;simp only;rw[aO hpick];have e:(λ k=>if k∈ae then none else dG (rd++ae) (fD get) k)=dG rd (fD λj=>if j∈ae then none else get j):=by
   funext j;simp only[dG,fD,aX];by_cases hj:j∈ae
   ·simp[hj]
   ·simp[hj]
  rw[e,g1];rfl
 ·refine rW _ λp hp=>?_;rcases aX.1 hp with hp |hp
  ·exact rC _ g2 p hp
  ·rw[aY]at hp;subst hp;intro x hx;unfold HO;cases hl:IC get (ρ x) c with
   |none=>exact .inr rfl
   |some y=>
    left;have hx':x∈o.op.operands.toList:=(by simpa using hx);have hin:∀j∈bm (ρ x),j∈ae:=λj hj=>ke ▸ ad4 hx' hl j hj;obtain⟨hs,obs,p1,p2⟩:=Cy (P:=P) (rd:=rd++ae) hl (λ b hb=>hcs b (ad5 hx' hl b hb)) (λ j hj=>List.mem_append_right _ (hin j hj));refine⟨?_,λj hj=>hin j (by rwa [iV]at hj)⟩;have:=p2 [];exact Gs _ _ _ this p1
 ·simp only[tH,Fb,g4]
 ·intro p hp;rcases aX.1 hp with hp |hp
  ·exact(g5 p hp).imp id (λ h=>List.mem_append_left _ h)
  ·exact .inr (List.mem_append_right _ (LC hp))
theorem Ka{c:CT X.ι}:∀{ds:List (DV X)}{xs:List (CT.T X.toSE c)},zl c ds=some xs->bK ds=xs.map λy=>den (.c c y:DV X)
 |[],xs,h=>by simp only[zl,aA]at h;subst h;rfl
 | .c a x::ds,xs,h=>by
  simp only[zl]at h;have⟨y,h1,h⟩:=ai.1 h;have⟨l,h2,h⟩:=ai.1 h;cases h;simp only[bK,aC,Ka h2,(iU h1).1]
 | .agg _::_,_,h=>by simp[zl]at h
 | .fi _::_,_,h=>by simp[zl]at h
 | .own _ _ _::_,_,h=>by simp[zl]at h
 | .ptr _ _ _::_,_,h=>by simp[zl]at h
 | .p4 _ _ _::_,_,h=>by simp[zl]at h
 | .mp _::_,_,h=>by simp[zl]at h
 | .rx _ _ _ _ _::_,_,h=>by simp[zl]at h
 | .rp _ _ _::_,_,h=>by simp[zl]at h
 | .vf _ _ _ _ _::_,_,h=>by simp[zl]at h
 | .fn _ _ _::_,_,h=>by simp[zl]at h
 | .cT _ _ _::_,_,h=>by simp[zl]at h
 | .raw _::_,_,h=>by simp[zl]at h
 | .nil::_,_,h=>by simp[zl]at h
 | .ub::_,_,h=>by simp[zl]at h
 | .skip::_,_,h=>by simp[zl]at h
 | .undef::_,_,h=>by simp[zl]at h
theorem agv(h:Tb T ao o.op ρ get k=some r):cN P T i o ρ get k r:=by
 obtain⟨dst,op,ty,aw,after,guard⟩:=o;unfold Tb at h;simp only at h;split at h
 ·rename_i t x j;rw[ai]at h;obtain⟨ti,h1,h⟩:=h;split at h
  ·rename_i m e kk row aa kd n hk hx hj;rw[ai]at h;obtain⟨ei,h2,h⟩:=h;split at h
   ·rename_i hs;have⟨h3,h⟩:=dF h;refine cN.op (cw:= .none) (rd:=[]) (wr:=[]) (upd:=[]) (λ _ _ _ e=>by cases e) (ab:=⟨.ptr kk row (aa+n.toNat*1),[],[0<=n/\n.toNat<m]⟩) ?_ ⟨?_,?_,rfl,by simp,h⟩
    ·simp only[qH,mI,h1,ah,hk,hx,hj,den,CT.tv,TV.av,h2,hs];rfl
    ·simp only[b9,aJ,aT]at h3;exact⟨h3.1,by omega⟩
    ·simp only[den,Nat.mul_one]
   ·cases h
  ·rename_i m e c y aa kd n hk hx hj;rw[ai]at h;obtain⟨ei,h2,h⟩:=h;split at h
   ·rename_i hs;have⟨h3,h⟩:=dF h;refine cN.op (cw:= .none) (rd:=[]) (wr:=[]) (upd:=[]) (λ _ _ _ e=>by cases e) (ab:=⟨.eo (CT.row X.toSE c y) (aa+n.toNat*1),[],[0<=n/\n.toNat<m]⟩) ?_ ⟨?_,?_,rfl,by simp,h⟩
    ·simp only[qH,mI,h1,ah,hk,hx,hj,den,CT.tv,TV.av,h2,hs];rfl
    ·simp only[b9,aJ,aT]at h3;exact⟨h3.1,by omega⟩
    ·simp only[den,Nat.mul_one]
   ·cases h
  ·cases h
 ·rename_i t a;rw[ai]at h;obtain⟨ti,h1,h⟩:=h;split at h
  ·rename_i kk row aa m n hx;split at h
   ·rename_i hs;rw[ai]at h;obtain⟨c,h2,h⟩:=h;split at h
    ·rename_i hc;rw[ai]at h;obtain⟨ob,h3,h⟩:=h;split at h
     ·rename_i sz rows;have⟨q,h4,h⟩:=ai.1 h;have⟨xs,h5,h⟩:=ai.1 h;have⟨y,h6,h⟩:=ai.1 h;have⟨_,h7⟩:=OU h6;have h8:=Ka h5;have h9:((bK q).drop (aa+n.toNat)).take 1=[den (.c c y:DV X)]:=by
       have e1:(bK ((q.drop aa).take m))[n.toNat]? =some (den (.c c y:DV X)):=(by rw[h8,List.getElem?_map,h7];rfl);rw[kG,List.getElem?_take]at e1;split at e1
       ·rw[List.getElem?_drop]at e1;have⟨g1,g2⟩:=dm.1 e1;rw[List.drop_eq_getElem_cons g1,List.take_succ_cons,List.take_zero,g2]
       ·cases e1
      refine cN.op (cw:= .none) (rd:=[kk]) (wr:=[]) (upd:=[]) (λ _ _ _ e=>by cases e) (ab:=⟨den (.c c y:DV X),[],[]⟩) ?_ ⟨trivial,rfl,rfl,by simp,h⟩;simp only[qH,EX,h1,ah,hx,den,dO (List.mem_singleton_self kk) h3,bG,List.getElem?_map,h4,Option.map_some,hs.1,hs.2];rw[h9];obtain⟨t',g1,g2⟩:=row_one hc y;simp only[den,g2,TV.av];rfl
     ·rename_i b l;split at h
      ·rename_i hb;have⟨y,h4,h⟩:=ai.1 h;have h5:l[aa+n.toNat]? =some y:=by
        unfold atO at h4;cases hd:decide (0<=n)<;>simp only[hd,aj,ak,reduceCtorEq]at h4;exact h4
       obtain⟨t',g1,g2⟩:=row_one hb.2 y;refine cN.qt (n:=0) (rd:=[kk]) (wr:=[]) (upd:=[]) (dv:= .c b y) (ab:=⟨den (.c b y:DV X),[],[]⟩) ?_ trivial rfl rfl (by simp) h rfl rfl;have hz:CT.sz X b=1:=(by rw[<- Du b y,g1];rfl);have⟨q1,q2⟩:=dm.1 h5;simp only[lN,Gu,h1,ah,hx,den,dO (List.mem_singleton_self kk) h3,bG,hz,if_true,hs.1,hs.2,hb.1,Nat.zero_add,Ws,aL,<- map_drop,<- map_take];rw[List.drop_eq_getElem_cons q1,q2];simp only[List.take_succ_cons,List.take_zero,aC,map_nil,g1,flatten_cons,List.flatten_nil,append_nil,g2,TV.av];rfl
      ·cases h
     ·cases h
    ·cases h
   ·cases h
  ·rename_i b y0 aa m n hx;split at h
   ·rename_i hs;rw[ai]at h;obtain⟨c,h2,h⟩:=h;split at h
    ·rename_i hc;have⟨xs,h5,h⟩:=ai.1 h;have⟨y,h6,h⟩:=ai.1 h;have⟨_,h7⟩:=OU h6;have h8:=Ka h5;have h9:(((CT.row X.toSE b y0).drop (aa+n.toNat)).take 1).map AV.t=[den (.c c y:DV X)]:=by
      have e1:(bK (((vU b y0).drop aa).take m))[n.toNat]? =some (den (.c c y:DV X)):=(by rw[h8,List.getElem?_map,h7];rfl);rw[kG,nU,List.getElem?_take]at e1;split at e1
      ·rw[List.getElem?_drop]at e1;have⟨g1,g2⟩:=dm.1 e1;rw[map_take,map_drop,List.drop_eq_getElem_cons g1,List.take_succ_cons,List.take_zero,g2]
      ·cases e1
     refine cN.op (cw:= .none) (rd:=[]) (wr:=[]) (upd:=[]) (λ _ _ _ e=>by cases e) (ab:=⟨den (.c c y:DV X),[],[]⟩) ?_ ⟨trivial,rfl,rfl,by simp,h⟩;simp only[qH,EX,h1,ah,hx,den,hs.1,hs.2];rw[h9];obtain⟨t',g1,g2⟩:=row_one hc y;simp only[den,g2,TV.av];rfl
    ·cases h
   ·cases h
  ·cases h
 ·cases h
end
end
def tI{α:Type}(l:List α)(aa:Nat)(aq:List α):List α:=l.take aa++aq++l.drop (aa+aq.length)
def Do(a b:List Bool):Bool:=decide (a=b)
def De(aa n len:Nat):Bool:=decide (aa+n<=len)
section
variable {X:SX} {A:Type} (T:dy)
def aof(o:Op)(ρ:Operand->DV X):Bool:=
 match o with
 | .alloc e=>(X.ar e).isSome
 | .box e _=>(X.ar e).isSome
 | .load t a=>match ρ a with
  | .ptr _ _ _=>(X.ar t).isSome
  |_=>false
 | .store t a _=>match ρ a with
  | .ptr _ _ _=>(X.ar t).isSome
  | .rx _ _ _ _ _=>true
  |_=>false
 | .slice t x _ _ none=>match ρ x with
  | .ptr _ _ _=>(X.ar t).isSome
  |_=>false
 | .binOp _ t _ _ _=>(X.ar t).isSome
 |_=>false
def Jn(a:Nm X.toSE)(d:DV X):Option (List (CT.T X.toSE a.c)):=
 match d with
 | .c b y=>(gD b (.st a.i) y).bind λy=>some (a.f y)
 | .agg cs=>zl a.c cs
 |_=>none
def Dd(get:Nat->Option (br X))(kk:Nat)(c:CT X.ι):Option (List (CT.T X.toSE c)):=
 (get kk).bind λo=>match o with
 | .dc b l=>gD (.sl b) (.sl c) l
 |_=>none
def S8(i:Nat)(o:Op)(ρ:Operand->DV X)(get:Nat->Option (br X))(k:KK X A):Option A:=
 match o with
 | .alloc e=>(X.ar e).bind λa=>(T e).bind λti=>(zl a.c (ti.zero.map tz)).bind λl=>k (.ptr (cy i) 0 0) [(cy i,some (.dc a.c l))] [] []
 | .box e x=>(X.ar e).bind λa=>(Jn a (ρ x)).bind λl=>if (cellsD (ρ x)).isSome then k (.ptr (cy i) 0 0) [(cy i,some (.dc a.c l))] [] []else none
 | .load t a=>(T t).bind λti=>match ρ a with
  | .ptr kk 0 aa=>(X.ar t).bind λa=>(Dd get kk a.c).bind λl=>if ti.agg=true/\(X.cV a.i).length=ti.size then(a.g (sub l aa ti.size)).bind λy=>k (.c (.st a.i) y) [] [kk] []else none
  |_=>none
 | .store t a x=>(T t).bind λti=>match ρ a with
  | .ptr kk 0 aa=>(X.ar t).bind λa=>(Dd get kk a.c).bind λl=>(Jn a (ρ x)).bind λaq=>if (cellsD (ρ x)).isSome then
   bif bk aq.length ti.size&&De aa aq.length l.length then k .undef [(kk,some (.dc a.c (tI l aa aq)))] [kk] [kk]else none else none
  | .rx kk 0 aa _ n=>(get kk).bind λo=>match o with
   | .dc b l=>match ρ x with
    | .c c0 y0=>(gD c0 b y0).bind λy=>if b.one=true/\ti.size=1 then bif decide (0<=n)&&De (aa+n.toNat) 1 l.length then k .undef [(kk,some (.dc b (l.set (aa+n.toNat) y)))] [kk] [kk]else none else none
    |_=>none
   |_=>none
  |_=>none
 | .slice t x lo hi none=>(T t).bind λti=>match ti.k,ρ x with
  | .arr m e,.ptr kk 0 aa=>(T e).bind λei=>(get kk).bind λo=>match o with
   | .dc b l=>if CT.sz X b=1/\ei.size=1 then(ZI 0 (lo.map ρ)).bind λp=>(ZI m (hi.map ρ)).bind λq=>
    bif yF p q m&&De aa m l.length then k (.own kk (aa+p.toNat) (q.toNat -p.toNat)) [] [kk] []else none else none
   |_=>none
  |_,_=>none
 | .binOp op t x y _=>(T t).bind λti=>(X.ar t).bind λa=>match ti.k,ρ x,ρ y with
  | .arr _ _,.c b u,.c c v=>(gD b (.st a.i) u).bind λu=>(gD c (.st a.i) v).bind λv=>(gD (.sl a.c) (.sl .bool) (a.f u)).bind λ(p:List Bool)=>(gD (.sl a.c) (.sl .bool) (a.f v)).bind λ(q:List Bool)=>
   if Gv T 9 t=true/\ti.cmp=[9]/\(X.cV a.i).length=ti.size then match op with
    | .eql=>k (.c .bool (Do p q)) [] [] []
    | .neq=>k (.c .bool (!(Do p q))) [] [] []
    |_=>none
   else none
  |_,_,_=>none
 |_=>none
end
section
variable {X:SX} {A:Type} {T:dy} {P:Program} {i:Nat} {o:Oper} {ρ:Operand->DV X} {get:Nat->Option (br X)} {k:KK X A} {r:A}
theorem anD{c:CT X.ι}(h:c.one=true):CT.sz X c=1:=by cases c<;>first |rfl |cases h
theorem ah2{c:CT X.ι}(h:c.one=true)(x:CT.T X.toSE c):(CT.row X.toSE c x).map AV.t=[den (.c c x:DV X)]:=by
 obtain⟨t,h1,h2⟩:=row_one h x;simp only[den,h1,h2,TV.av,aC,map_nil]
theorem LF{c:CT X.ι}(h:c.one=true)(l:List (CT.T X.toSE c)):bG (.dc c l:br X)=⟨1,eG (l.map λx=>den (.c c x:DV X))⟩:=by
 simp only[bG,anD h,aL,eG,map_map];congr 1;exact map_congr_left λx _=>ah2 h x
theorem Fe{c:CT X.ι}(h:c.one=true):∀l:List (CT.T X.toSE c),((l.map (CT.row X.toSE c)).flatten).map AV.t=l.map λx=>den (.c c x:DV X)
 |[]=>rfl
 |x::l=>by simp only[aC,flatten_cons,map_append,ah2 h,Fe h l,List.singleton_append]
theorem Xh{a:Nm X.toSE}{t:TypeId}(ha:X.ar t=some a){d:DV X}{l:List (CT.T X.toSE a.c)}(h:Jn a d=some l)(hc:(cellsD d).isSome=true):cellsOf (den d)=some (l.map λx=>den (.c a.c x:DV X)):=by
 obtain⟨h1,h2,h3⟩:=X.m7 t a ha;cases hd:cellsD d with
 |none=>rw[hd]at hc;cases hc
 |some cs=>
  rw[Al hd];unfold Jn at h;split at h
  ·rename_i b y;rw[ai]at h;obtain⟨y',h4,h⟩:=h;cases h;have⟨e,h4⟩:=mJ h4;subst e;subst h4;simp only[cellsD,aA]at hd;subst hd;rw[nU];show some ((X.row a.i y').map AV.t)=_;rw[h2 y',Fe h1]
  ·rename_i cs';simp only[cellsD]at hd;split at hd
   ·cases hd;rw[Ka h]
   ·cases hd
  ·cases h
theorem aiX{c:CT X.ι}{l:List (CT.T X.toSE c)}{l':List Bool}(h:gD (.sl c) (.sl .bool) l=some l'):(l.map λx=>den (.c c x:DV X))=l'.map tB:=by
 have⟨e,h⟩:=mJ h;cases e;subst h;rfl
theorem Xi{kk:Nat}{c:CT X.ι}{l:List (CT.T X.toSE c)}(hc:c.one=true)(h:Dd get kk c=some l):∃o,get kk=some o/\bG o=⟨1,eG (l.map λx=>den (.c c x:DV X))⟩:=by
 unfold Dd at h;rw[ai]at h;obtain⟨o,h1,h⟩:=h;split at h
 ·rename_i b l0;have⟨e,h⟩:=mJ h;cases e;subst h;exact⟨_,h1,LF hc _⟩
 ·cases h
theorem GD(n:Nat)(cs:List AV):(eG cs).take n=eG (cs.take n):=by simp[eG,map_take]
theorem GH(n:Nat)(cs:List AV):(eG cs).drop n=eG (cs.drop n):=by simp[eG,map_drop]
theorem TA(a b:List AV):eG (a++b)=eG a++eG b:=by simp[eG]
theorem Kb(a:List AV):(eG a).length=a.length:=by simp[eG]
theorem akB(cs:List AV)(p n:Nat):Ws ⟨1,eG cs⟩ p n=(cs.drop p).take n:=by simp only[Ws,GH,GD,rX]
theorem Xj{t:TypeId}{ti:np}{a:Nm X.toSE}{kk aa:Nat}{l:List (CT.T X.toSE a.c)}{y:X.T a.i}{g:Nat->Option aU}(h2:T t=some ti)(h1:X.ar t=some a)(hag:ti.agg=true)(hlen:(X.cV a.i).length=ti.size)
 (hk:g kk=some ⟨1,eG (l.map λx=>den (.c a.c x:DV X))⟩) (h4:a.g (sub l aa ti.size)=some y):Gu T t (den (.ptr kk 0 aa:DV X)) g=some ⟨den (.c (.st a.i) y:DV X),[],[]⟩:=by
 obtain⟨ho,hr,hg⟩:=X.m7 t a h1;have h7:=hg _ _ h4;have h8:den (.c (.st a.i) y:DV X)= .agg ((sub l aa ti.size).map λx=>den (.c a.c x:DV X)):=by
  show AV.agg ((X.row a.i y).map AV.t)=_;rw[hr y,Fe ho,h7]
 have h9:((sub l aa ti.size).map λx=>den (.c a.c x:DV X)).length=ti.size:=by
  have:=congrArg List.length (Fe ho (a.f y));rw[length_map,length_map,<- hr y]at this;have h10:=Du (X:=X) (.st a.i) y;rw[length_map,<- h7,<- this];exact h10.trans hlen
 simp only[Gu,h2,ah,den,hk,if_true,Nat.zero_add,akB,<- map_drop,<- map_take];show(part' ti.agg ti.size ((sub l aa ti.size).map λx=>den (.c a.c x:DV X))).bind pv=some ⟨den (.c (.st a.i) y:DV X),[],[]⟩;have hp:part' ti.agg ti.size ((sub l aa ti.size).map λx=>den (.c a.c x:DV X))=some (.agg ((sub l aa ti.size).map λx=>den (.c a.c x:DV X))):=by unfold part';rw[aP h9,aP hag]
 rw[hp,h8];rfl
theorem agx(h:S8 T i o.op ρ get k=some r):cN P T i o ρ get k r:=by
 obtain⟨dst,op,ty,aw,after,guard⟩:=o;unfold S8 at h;simp only at h;split at h
 ·rename_i e;rw[ai]at h;obtain⟨a,h1,h⟩:=h;rw[ai]at h;obtain⟨ti,h2,h⟩:=h;rw[ai]at h;obtain⟨l,h3,h⟩:=h;obtain⟨ho,_,_⟩:=X.m7 e a h1;refine cN.qt (n:=0) (rd:=[]) (wr:=[]) (upd:=[(cy i,some (.dc a.c l))]) (dv:= .ptr (cy i) 0 0) (ab:=⟨.ptr (cy i) 0 0,[(cy i,some ⟨1,eG (ti.zero.map cv)⟩)],[]⟩) ?_ trivial rfl ?_ (by simp) h rfl rfl
  ·simp only[lN,Vs,h2,ah]
  ·simp only[gM,aC,map_nil,Option.map_some,LF ho,<- Ka h3,Am]
 ·rename_i e x;rw[ai]at h;obtain⟨a,h1,h⟩:=h;rw[ai]at h;obtain⟨l,h3,h⟩:=h;split at h
  ·rename_i hc;obtain⟨ho,_,_⟩:=X.m7 e a h1;refine cN.qt (n:=0) (rd:=[]) (wr:=[]) (upd:=[(cy i,some (.dc a.c l))]) (dv:= .ptr (cy i) 0 0) (ab:=⟨.ptr (cy i) 0 0,[(cy i,some ⟨1,eG (l.map λx=>den (.c a.c x:DV X))⟩)],[]⟩) ?_ trivial rfl ?_ (by simp) h rfl rfl
   ·simp only[lN,LL,Xh h1 h3 hc,ah]
   ·simp only[gM,aC,map_nil,Option.map_some,LF ho]
  ·cases h
 ·rename_i t a0;rw[ai]at h;obtain⟨ti,h2,h⟩:=h;split at h
  ·rename_i kk aa hx;rw[ai]at h;obtain⟨a,h1,h⟩:=h;rw[ai]at h;obtain⟨l,h3,h⟩:=h;split at h
   ·rename_i hc;rw[ai]at h;obtain⟨y,h4,h⟩:=h;obtain⟨ob,h5,h6⟩:=Xi (X.m7 t a h1).1 h3;refine cN.qt (n:=0) (rd:=[kk]) (wr:=[]) (upd:=[]) (dv:= .c (.st a.i) y) (ab:=⟨den (.c (.st a.i) y:DV X),[],[]⟩) ?_ trivial rfl rfl (by simp) h rfl rfl;simp only[lN,hx];exact Xj h2 h1 hc.1 hc.2 (by rw[dO (List.mem_singleton_self kk) h5,h6]) h4
   ·cases h
  ·cases h
 ·rename_i t a0 x;rw[ai]at h;obtain⟨ti,h2,h⟩:=h;split at h
  ·rename_i kk aa hx;rw[ai]at h;obtain⟨a,h1,h⟩:=h;rw[ai]at h;obtain⟨l,h3,h⟩:=h;rw[ai]at h;obtain⟨aq,h4,h⟩:=h;split at h
   ·rename_i hc;have⟨h5,h⟩:=dF h;simp only[aJ,bk,De,aT]at h5;obtain⟨ho,hr,hg⟩:=X.m7 t a h1;have⟨ob,h6,h7⟩:=Xi ho h3;refine cN.qt (n:=0) (rd:=[kk]) (wr:=[kk]) (upd:=[(kk,some (.dc a.c (tI l aa aq)))]) (dv:= .undef) (ab:=⟨.undef,[(kk,some ⟨1,eG ((tI l aa aq).map λx=>den (.c a.c x:DV X))⟩)],[]⟩) ?_ trivial rfl ?_ (by simp) h rfl rfl
    ·simp only[lN,OC,h2,ah,hx,den,Xh h1 h4 hc,dO (List.mem_singleton_self kk) h6,h7];rw[aP ⟨trivial,by rw[length_map];exact h5.1,by rw[length_map,Kb,length_map];omega⟩];simp only[tI,map_append,map_take,map_drop,TA,GD,GH,length_map,Nat.zero_add]
    ·simp only[gM,aC,map_nil,Option.map_some,LF ho]
   ·cases h
  ·rename_i kk aa m n hx;rw[ai]at h;obtain⟨ob,h3,h⟩:=h;split at h
   ·rename_i b l;split at h
    ·rename_i c0 y0 hy;rw[ai]at h;obtain⟨y,h4,h⟩:=h;split at h
     ·rename_i hb;have⟨h5,h⟩:=dF h;simp only[aJ,De,aT]at h5;have h6:cellsOf (den (.c c0 y0:DV X))=some [den (.c b y:DV X)]:=by
       rw[(iU h4).1];obtain⟨t',g1,g2⟩:=row_one hb.1 y;simp only[den,g2,TV.av];rfl
      refine cN.qt (n:=0) (rd:=[kk]) (wr:=[kk]) (upd:=[(kk,some (.dc b (l.set (aa+n.toNat) y)))]) (dv:= .undef) (ab:=⟨.undef,[(kk,some ⟨1,eG ((l.set (aa+n.toNat) y).map λx=>den (.c b x:DV X))⟩)],[]⟩) ?_ trivial rfl ?_ (by simp) h rfl rfl
      ·simp only[lN,OC,h2,ah,hx,hy,h6];simp only[den,dO (List.mem_singleton_self kk) h3,LF hb.1,ah];rw[aP ⟨trivial,by rw[hb.2];rfl,by rw[Kb,length_map];simp only[bF,List.length_nil];omega⟩];simp only[Nat.zero_add,bF,List.length_nil];rw[List.map_set,List.set_eq_take_append_cons_drop,aP (by rw[length_map];omega)];simp only[TA,GD,GH,aK];rfl
      ·simp only[gM,aC,map_nil,Option.map_some,LF hb.1]
     ·cases h
    ·cases h
   ·cases h
  ·cases h
 ·rename_i t x lo hi;rw[ai]at h;obtain⟨ti,h2,h⟩:=h;split at h
  ·rename_i m e kk aa hk hx;rw[ai]at h;obtain⟨ei,h3,h⟩:=h;rw[ai]at h;obtain⟨ob,h4,h⟩:=h;split at h
   ·rename_i b l;split at h
    ·rename_i hb;have⟨p,h5,h⟩:=ai.1 h;have⟨q,h6,h⟩:=ai.1 h;have⟨h7,h⟩:=dF h;simp only[aJ,yF,De,aT]at h7;refine cN.qt (n:=0) (rd:=[kk]) (wr:=[]) (upd:=[]) (dv:= .own kk (aa+p.toNat) (q.toNat -p.toNat)) (ab:=⟨.own kk (0+aa+p.toNat) (q.toNat -p.toNat),[],[0<=p/\p<=q/\q<=(m:Int)/\0+aa+m<=(bG (.dc b l:br X)).rows.length]⟩) ?_ ⟨h7.1.1.1,h7.1.1.2,h7.1.2,?_⟩ ?_ rfl (by simp) h rfl ?_
     ·simp only[lN,Vt,h2,ah,hk,hx,den,h3,dO (List.mem_singleton_self kk) h4];have e1:bnd 0 (lo.map λx=>den (ρ x))=some p:=(by rw[<- xw h5,Option.map_map];rfl);have e2:bnd (m:Int) (hi.map λx=>den (ρ x))=some q:=(by rw[<- xw h6,Option.map_map];rfl);rw[aP ⟨hb.1,hb.2⟩];simp only[e1,e2,ah,k5]
     ·simp only[bG,aL,length_map];omega
     ·simp only[den,Nat.zero_add]
     ·simp only[oZ,E8,h2,ah,hk]
    ·cases h
   ·cases h
  ·cases h
 ·rename_i Su t x y q0;rw[ai]at h;obtain⟨ti,h2,h⟩:=h;rw[ai]at h;obtain⟨a,h1,h⟩:=h;split at h
  ·rename_i m0 e0 b u0 c v0 hk hx hy;rw[ai]at h;obtain⟨u,h3,h⟩:=h;rw[ai]at h;obtain⟨v,h4,h⟩:=h;rw[ai]at h;obtain⟨p,h5,h⟩:=h;rw[ai]at h;obtain⟨q,h6,h⟩:=h;split at h
   ·rename_i hb;obtain⟨ho,hr,hg⟩:=X.m7 t a h1;have key:∀(z:CT.T X.toSE (.st a.i)) (l:List Bool),gD (.sl a.c) (.sl .bool) (a.f z)=some l->den (.c (.st a.i) z:DV X)= .agg (l.map tB)/\l.length=ti.size:=by
     intro z l hl;have e1:den (.c (.st a.i) z:DV X)= .agg ((a.f z).map λx=>den (.c a.c x:DV X)):=by
      show AV.agg ((X.row a.i z).map AV.t)=_;rw[hr z,Fe ho]
     have e2:((a.f z).map λx=>den (.c a.c x:DV X)).length=ti.size:=by
      have:=congrArg List.length (Fe ho (a.f z));rw[length_map,<- hr z]at this;rw[<- this];exact(Du (X:=X) (.st a.i) z).trans hb.2.2
     rw[aiX hl]at e1 e2;exact⟨e1,by rw[length_map]at e2;exact e2⟩
    have⟨k1,l1⟩:=key u p h5;have⟨k2,l2⟩:=key v q h6;cases Su<;>simp only[reduceCtorEq]at h
    ·refine cN.qt (n:=if p=q then 1 else 0) (rd:=[]) (wr:=[]) (upd:=[]) (dv:= .c .bool (Do p q)) (ab:=⟨tB ((if p=q then(1:Int)else 0) !=0),[],[∃ z1 z2:List Bool,p.map tB=z1.map tB/\q.map tB=z2.map tB/\z1.length=ti.size/\z2.length=ti.size/\((if p=q then(1:Int)else 0)≠0↔z1=z2)]⟩) ?_ ⟨p,q,rfl,rfl,l1,l2,by split<;>simp_all⟩ ?_ rfl (by simp) h rfl ?_
     ·simp only[lN,HT,h2,ah,hk,hx,hy,(iU h3).1,(iU h4).1,k1,k2];rw[aP ⟨hb.1,hb.2.1⟩];rfl
     ·simp only[tB,den,CT.tv,TV.av,Do];by_cases hpq:p=q<;>simp[hpq]
     ·simp only[oZ,Zt,h2,ah,hk]
    ·refine cN.qt (n:=if p=q then 1 else 0) (rd:=[]) (wr:=[]) (upd:=[]) (dv:= .c .bool (!(Do p q))) (ab:=⟨tB (!((if p=q then(1:Int)else 0) !=0)),[],[∃ z1 z2:List Bool,p.map tB=z1.map tB/\q.map tB=z2.map tB/\z1.length=ti.size/\z2.length=ti.size/\((if p=q then(1:Int)else 0)≠0↔z1=z2)]⟩) ?_ ⟨p,q,rfl,rfl,l1,l2,by split<;>simp_all⟩ ?_ rfl (by simp) h rfl ?_
     ·simp only[lN,HT,h2,ah,hk,hx,hy,(iU h3).1,(iU h4).1,k1,k2];rw[aP ⟨hb.1,hb.2.1⟩];rfl
     ·simp only[tB,den,CT.tv,TV.av,Do];by_cases hpq:p=q<;>simp[hpq]
     ·simp only[oZ,Zt,h2,ah,hk]
   ·cases h
  ·cases h
 ·cases h
end
section
variable {X:SX}
structure MA(X:SX) where
 nm:List (Nat×Nat)
 ey:List (DC X)
 ip:List Bool
def addN(m:MA X)(k' k:Nat):MA X:=if m.nm.contains (k',k)then m else⟨m.nm++[(k',k)],m.ey,m.ip⟩
section
variable (get:Nat->Option (br X))
mutual
def mP:Pt X.ι->DV X->MA X->Option (MA X)
 | .v c,d,m=>(dat d c).bind λx=>some ⟨m.nm,m.ey++[⟨c,x⟩],m.ip⟩
 | .o k,d,m=>match d with
  | .own k' 0 len=>(get k').bind λo=>match o with
   | .dc _ l=>some (addN ⟨m.nm,m.ey,m.ip++[bk len l.length]⟩ k' k)
   |_=>none
  |_=>none
 | .oz k,d,m=>match d with
  | .own k' 0 len=>(get k').bind λo=>match o with
   | .dc _ l=>some (addN ⟨m.nm,m.ey,m.ip++[!(len==0)&&bk len l.length]⟩ k' k)
   |_=>none
  | .oz k' len=>(get k').bind λo=>match o with
   | .dc _ l=>some (addN ⟨m.nm,m.ey,m.ip++[bk len l.length]⟩ k' k)
   |_=>none
  |_=>none
 | .p k,d,m=>match d with
  | .ptr k' 0 0=>some (addN m k' k)
  |_=>none
 | .mp k,d,m=>match d with
  | .mp k'=>some (addN m k' k)
  |_=>none
 | .nil,d,m=>match d with
  | .nil=>some m
  |_=>none
 | .f F fs cs,d,m=>match d with
  | .fn F' first caps=>if F=F' then(sg fs first m).bind λm=>sg cs caps m else none
  |_=>none
 | .od k,d,m=>match d with
  | .own k' aa len=>(get k').bind λo=>match o with
   | .dc _ l=>some (addN ⟨m.nm,m.ey++[⟨.int .i64,(aa:Int)⟩],m.ip++[bk (aa+len) l.length]⟩ k' k)
   |_=>none
  |_=>none
 | .a ps,d,m=>match d with
  | .agg ds=>sg ps ds m
  |_=>none
def sg:List (Pt X.ι)->List (DV X)->MA X->Option (MA X)
 |[],[],m=>some m
 |p::ps,d::ds,m=>(mP p d m).bind λm=>sg ps ds m
 |_,_,_=>none
end
def Kc(env:Nat->DV X):List (Nat×Pt X.ι)->MA X->Option (MA X)
 |[],m=>some m
 |(t,p)::r,m=>(mP get p (env t) m).bind λm=>Kc env r m
def IE:List (List (Pt X.ι))->List (List (DV X))->MA X->Option (MA X)
 |[],[],m=>some m
 |r::rs,q::qs,m=>(sg get r q m).bind λm=>IE rs qs m
 |_,_,_=>none
def nameOf(m:MA X)(k:Nat):Nat:=match m.nm.find? (λ q=>q.2==k)with |some q=>q.1 |none=>k
def Ff:List (Nat×OP X.ι)->MA X->Option (MA X)
 |[],m=>some m
 |(k,op)::r,m=>(get (nameOf m k)).bind λo=>match op,o with
  | .l c,.dc c' l=>(gD (.sl c') (.sl c) l).bind λl'=>Ff r (addN ⟨m.nm,m.ey++[⟨.sl c,l'⟩],m.ip⟩ (nameOf m k) k)
  | .m kc vc,.map tg s9 l=>(gD (.mp tg s9) (.mp kc vc) l).bind λl'=>Ff r (addN ⟨m.nm,m.ey++[⟨.mp kc vc,l'⟩],m.ip⟩ (nameOf m k) k)
  | .c sz rows,.cells sz' rows'=>if sz=sz' then(IE get rows rows' (addN m (nameOf m k) k)).bind λm=>Ff r m else none
  |_,_=>none
end
end
section
variable {X:SX} {A:Type}
mutual
def nb(f:Nat->Nat):DV X->DV X
 | .own k aa len=> .own (f k) aa len
 | .ptr k row aa=> .ptr (f k) row aa
 | .p4 k n aa=> .p4 (f k) n aa
 | .rx k row aa m n=> .rx (f k) row aa m n
 | .mp k=> .mp (f k)
 | .oz k len=> .oz (f k) len
 | .agg cs=> .agg (Mj f cs)
 | .fi cs=> .fi (Mj f cs)
 | .fn F first caps=> .fn F (Mj f first) (Mj f caps)
 |x=>x
def Mj(f:Nat->Nat):List (DV X)->List (DV X)
 |[]=>[]
 |x::xs=>nb f x::Mj f xs
end
theorem T5(f:Nat->Nat):∀l:List Tree,zi f (l.map AV.t)=l.map AV.t
 |[]=>rfl
 |x::xs=>by simp only[aC,zi,eW,T5 f xs]
mutual
theorem Cz(f:Nat->Nat):∀x:DV X,den (nb f x)=eW f (den x)
 | .own _ _ _=>rfl
 | .ptr _ _ _=>rfl
 | .p4 _ _ _=>rfl
 | .mp _=>rfl
 | .oz _ _=>rfl
 | .rx _ _ _ _ _=>rfl
 | .agg cs=>by simp only[nb,den,eW,Fg f cs]
 | .fi cs=>by simp only[nb,den,eW,Fg f cs]
 | .fn F first caps=>by simp only[nb,den,eW,Fg f first,Fg f caps]
 | .c t x=>by
  simp only[nb,den];cases t<;>try rfl
  simp only[CT.tv,TV.av,eW,T5]
 | .rp _ _ _=>rfl
 | .vf _ _ _ _ _=>rfl
 | .cT _ _ _=>rfl
 | .raw v=>by
  simp only[nb,den,cv];split
  ·rfl
  ·split<;>rfl
 | .nil=>rfl
 | .ub=>rfl
 | .skip=>rfl
 | .undef=>rfl
theorem Fg(f:Nat->Nat):∀l:List (DV X),bK (Mj f l)=zi f (bK l)
 |[]=>rfl
 |x::xs=>by simp only[Mj,bK,zi,Cz f x,Fg f xs]
end
def oy(f:Nat->Nat):br X->br X
 | .cells sz rows=> .cells sz (rows.map (Mj f))
 |o=>o
def dE:br X->List Nat
 | .cells _ rows=>(rows.map aS).flatten
 | .dc _ _=>[]
 | .map _ _ _=>[]
def L3:CT X.ι->Bool
 | .int _ | .bool | .str=>true
 |_=>false
def ze:CT X.ι->Bool
 | .st i=>(X.cV i).all L3
 |c=>L3 c
theorem GI{c:CT X.ι}(h:L3 c=true)(x:CT.T X.toSE c):∀t∈CT.row X.toSE c x,t.flat:=by cases c<;>first |(intro t ht;simp only[CT.row,aY]at ht;subst ht;exact trivial) |cases h
theorem ah4:∀(l:List (CT X.ι))(h:HL X.toSE l),l.all L3=true->∀t∈HL.row X.toSE l h,t.flat
 |[],_,_,t,ht=>by simp[HL.row]at ht
 |c::l,h,ha,t,ht=>by
  simp only[all_cons,aJ]at ha;rcases aX.1 (show t∈CT.row X.toSE c h.1++HL.row X.toSE l h.2 from ht)with ht |ht
  ·exact GI ha.1 h.1 t ht
  ·exact ah4 l h.2 ha.2 t ht
theorem vV{c:CT X.ι}(h:ze c=true)(x:CT.T X.toSE c):∀t∈CT.row X.toSE c x,t.flat:=by
 cases c
 case st i=>intro t ht;exact ah4 (X.cV i) (X.get i x) h t ((X.nw i x) ▸ ht)
 case int k=>exact GI (c:= .int k) h x
 case bool=>exact GI (c:= .bool) h x
 case str=>exact GI (c:= .str) h x
 case sl e=>cases h
 case any=>cases h
 case mp=>cases h
structure MG(X:SX) where
 nm:List (Nat×Nat)
 ey:List (DC X)
 ip:List Bool
 vr:List Nat
section
variable (get:Nat->Option (br X))
mutual
def px:Pt X.ι->DV X->MG X->Option (MG X)
 | .v c,d,m=>(IC get d c).bind λx=>some ⟨m.nm,m.ey++[⟨c,x.1⟩],m.ip++x.2,m.vr++bm d⟩
 | .o k,d,m=>match d with
  | .own k' 0 len=>(get k').bind λo=>match o with
   | .dc _ l=>some ⟨m.nm++[(k',k)],m.ey,m.ip++[bk len l.length],m.vr⟩
   |_=>none
  |_=>none
 | .od k,d,m=>match d with
  | .own k' aa len=>(get k').bind λo=>match o with
   | .dc _ l=>some ⟨m.nm++[(k',k)],m.ey++[⟨.int .i64,(aa:Int)⟩],m.ip++[bk (aa+len) l.length],m.vr⟩
   |_=>none
  |_=>none
 | .p k,d,m=>match d with
  | .ptr k' 0 0=>some ⟨m.nm++[(k',k)],m.ey,m.ip,m.vr⟩
  |_=>none
 | .nil,d,m=>match d with
  | .nil=>some m
  |_=>none
 | .f F fs cs,d,m=>match d with
  | .fn F' first caps=>if F=F' then(rk fs first m).bind λm=>rk cs caps m else none
  |_=>none
 | .mp k,d,m=>match d with
  | .mp k'=>some ⟨m.nm++[(k',k)],m.ey,m.ip,m.vr⟩
  |_=>none
 | .oz _,_,_=>none
 | .a ps,d,m=>match d with
  | .agg ds=>rk ps ds m
  |_=>none
def rk:List (Pt X.ι)->List (DV X)->MG X->Option (MG X)
 |[],[],m=>some m
 |p::ps,d::ds,m=>(px p d m).bind λm=>rk ps ds m
 |_,_,_=>none
end
def IG:List (List (Pt X.ι))->List (List (DV X))->MG X->Option (MG X)
 |[],[],m=>some m
 |r::rs,q::qs,m=>(rk get r q m).bind λm=>IG rs qs m
 |_,_,_=>none
def p6(m:MG X)(k:Nat):Nat:=match m.nm.find? (λ q=>q.2==k)with |some q=>q.1 |none=>k
def Fh:List (Nat×OP X.ι)->MG X->Option (MG X)
 |[],m=>some m
 |(k,op)::r,m=>(get (p6 m k)).bind λo=>match op,o with
  | .l c,.dc c' l=>(gD (.sl c') (.sl c) l).bind λl'=>Fh r ⟨m.nm++[(p6 m k,k)],m.ey++[⟨.sl c,l'⟩],m.ip,m.vr⟩
  | .m kc vc,.map tg s9 l=>if kc.one=true/\vc.one=true then(gD (.mp tg s9) (.mp kc vc) l).bind λl'=>Fh r ⟨m.nm++[(p6 m k,k)],m.ey++[⟨.mp kc vc,l'⟩],m.ip,m.vr⟩else none
  | .c sz rows,.cells sz' rows'=>if sz=sz' then(IG get rows rows' ⟨m.nm++[(p6 m k,k)],m.ey,m.ip,m.vr⟩).bind λm=>Fh r m else none
  |_,_=>none
end
mutual
def Pt.refs:Pt X.ι->List Nat
 | .o k | .od k | .p k | .mp k | .oz k=>[k]
 | .f _ fs cs=>Dx fs++Dx cs
 | .a ps=>Dx ps
 |_=>[]
def Dx:List (Pt X.ι)->List Nat
 |[]=>[]
 |p::ps=>p.refs++Dx ps
end
def OP.refs:OP X.ι->List Nat
 | .l _=>[]
 | .m _ _=>[]
 | .c _ rows=>rows.flatMap Dx
def F1(n k:Nat):Bool:=Nat.blt k n || (Nat.ble 1000 k&&Nat.blt k 1064)
def cR.ok(g:cR X):Bool:=
 decide (g.iz.map (·.1)=List.range g.iz.length)&&decide (g.iz.length<=1000)&&(g.ix.all λq=>F1 g.iz.length q.1&&q.2.refs.all λk=>F1 g.iz.length k)&&decide (g.ix.map (·.1)).Nodup&&(Dx g.fL).all λk=>F1 g.iz.length k
def ZD(m:MG X)(ae:List Nat):Bool:=
 decide ae.Nodup&&(m.nm.all λq=>match ae[q.2]? with |some k=>Nat.beq k q.1 |none=>false)&&m.vr.all λk=>!ae.contains k
def cR.flat(g:cR X):Bool:=(cJ g.fL).all ze&&g.ix.all λq=>match q.2 with
 | .l c=>ze c
 | .m _ _=>false
 | .c _ rows=>(xA rows).all ze
def sY:List (Nat×br X)->Nat->Option (br X)
 |[],_=>none
 |(j,o)::r,k=>if j=k then some o else sY r k
def L0(i:Nat)(ae:List Nat)(os':List (Nat×br X)):List (Nat×Option (br X)):=
 (ae.zipIdx.map λp=>(p.1,(sY os' p.2).map (oy (cn i ae))))++(os'.filter λq=>decide (1000<=q.1)).map λq=>(cn i ae q.1,some (oy (cn i ae) q.2))
def T4(g:cR X)(i:Nat)(ds:List (DV X))(get:Nat->Option (br X))(k:KK X A):Option A:=
 (rk get g.pn ds ⟨[],[],[],[]⟩).bind λm=>(Fh get g.iz m).bind λm=>
  bif g.ok&&ZD m ((List.range g.iz.length).map (p6 m))then(ZK (cJ g.pn++cD g.iz) m.ey).bind λv=>WR m.ip ((g.fn v).bind λr=>
   let ae:=(List.range g.iz.length).map (p6 m)
   k (nb (cn i ae) (g.res r)) (L0 i ae (g.outs r)++(if g.flat then []else m.vr.map λk=>(k,none))) (ae++m.vr) ((ae++(L0 i ae (g.outs r)).map (·.1))++m.vr))
  else none
section
variable {P:Program} {get:Nat->Option (br X)} {rd ae:List Nat} {dp:Nat->Nat}
def fS(m m':MG X):Prop:=(∀ q∈m.nm,q∈m'.nm)/\(∀ c∈m.ip,c∈m'.ip)/\∀k∈m.vr,k∈m'.vr
theorem fS.refl(m:MG X):fS m m:=⟨λ _ h=>h,λ_ h=>h,λ_ h=>h⟩
theorem fS.trans{a b c:MG X}(h:fS a b)(h':fS b c):fS a c:=⟨λ q hq=>h'.1 q (h.1 q hq),λq hq=>h'.2.1 q (h.2.1 q hq),λq hq=>h'.2.2 q (h.2.2 q hq)⟩
mutual
theorem akC:∀(p:Pt X.ι)(d:DV X)(m m':MG X),px get p d m=some m'->fS m m'/\∃aq,m'.ey=m.ey++aq/\aq.length=p.vars.length
 | .v c,d,m,m',h=>by
  simp only[px]at h;rw[ai]at h;obtain⟨x,h1,h⟩:=h;cases h;exact⟨⟨λ _ h=>h,λ_ h=>by simp[h],λ_ h=>by simp[h]⟩,[⟨c,x.1⟩],rfl,rfl⟩
 | .o k,d,m,m',h=>by
  simp only[px]at h;split at h
  ·rw[ai]at h;obtain⟨o,h1,h⟩:=h;split at h
   ·cases h;exact⟨⟨λ _ h=>by simp[h],λ_ h=>by simp[h],λ_ h=>h⟩,[],by simp,rfl⟩
   ·cases h
  ·cases h
 | .od k,d,m,m',h=>by
  simp only[px]at h;split at h
  ·rename_i k' aa len;have⟨o,h1,h⟩:=ai.1 h;split at h
   ·cases h;exact⟨⟨λ _ h=>by simp[h],λ_ h=>by simp[h],λ_ h=>h⟩,[⟨.int .i64,(aa:Int)⟩],rfl,rfl⟩
   ·cases h
  ·cases h
 | .p k,d,m,m',h=>by
  simp only[px]at h;split at h
  ·cases h;exact⟨⟨λ _ h=>by simp[h],λ_ h=>h,λ_ h=>h⟩,[],by simp,rfl⟩
  ·cases h
 | .nil,d,m,m',h=>by
  simp only[px]at h;split at h
  ·cases h;exact⟨fS.refl _,[],by simp,rfl⟩
  ·cases h
 | .f F fs cs,d,m,m',h=>by
  simp only[px]at h;split at h
  ·split at h
   ·have⟨m1,h1,h⟩:=ai.1 h;obtain⟨a1,n1,b1,c1⟩:=xD fs _ m m1 h1;obtain⟨a2,n2,b2,c2⟩:=xD cs _ m1 m' h;exact⟨a1.trans a2,n1++n2,by rw[b2,b1,aK],by simp[Pt.vars,c1,c2]⟩
   ·cases h
  ·cases h
 | .mp k,d,m,m',h=>by
  simp only[px]at h;split at h
  ·cases h;exact⟨⟨λ _ h=>by simp[h],λ_ h=>h,λ_ h=>h⟩,[],by simp,rfl⟩
  ·cases h
 | .oz _,_,_,_,h=>by simp[px]at h
 | .a ps,d,m,m',h=>by
  simp only[px]at h;split at h
  ·exact xD ps _ m m' h
  ·cases h
theorem xD:∀(ps:List (Pt X.ι))(ds:List (DV X))(m m':MG X),rk get ps ds m=some m'->fS m m'/\∃aq,m'.ey=m.ey++aq/\aq.length=(cJ ps).length
 |[],[],m,m',h=>by
  simp only[rk,aA]at h;subst h;exact⟨fS.refl _,[],by simp,rfl⟩
 |p::ps,d::ds,m,m',h=>by
  simp only[rk]at h;have⟨m1,h1,h⟩:=ai.1 h;have⟨a1,n1,b1,c1⟩:=akC p d m m1 h1;have⟨a2,n2,b2,c2⟩:=xD ps ds m1 m' h;exact⟨a1.trans a2,n1++n2,by rw[b2,b1,aK],by simp[cJ,c1,c2]⟩
 |[],_::_,m,m',h=>by simp[rk]at h
 |_::_,[],m,m',h=>by simp[rk]at h
end
def ZO:AV->List LH->List LH
 | .agg _,hs=> .agd::hs
 |_,hs=>hs
theorem O1(x:AV)(a b:List LH):ZO x (a++b)=ZO x a++b:=by cases x<;>rfl
theorem Ab{get':Nat->Option aU}{x:AV}{hs:List LH}{p:AV×List LH×List Prop}(h:pG P get' x hs=some p)(hr:∀k∈refs x,k∉ae):sJ P get' ae x (ZO x hs)=some p:=by
 have hd:((refs x).all λk=>!ae.contains k)=true:=by
  simp only[all_eq_true,Bool.not_eq_true',List.contains_eq_mem,dN];exact hr
 cases x
 case agg cs=>
  simp only[refs]at hd;simp only[ZO,sJ,hd,if_true];exact h
 all_goals
  simp only[ZO];unfold sJ;split<;>first |(simp [pG]at h;done) |(rw [aP hd];exact h) |exact h |exact absurd hd ‹_› |(rename_i e;cases e;done)
variable {NM:List (Nat×Nat)} {py:List Nat}
mutual
theorem aiY(hi:∀q∈NM,ae[q.2]? =some q.1)(hv:∀k∈py,k∉ae)(hrd:∀k,(∃ q,(k,q)∈NM)\/k∈py->k∈rd)(ho:∀q∈NM,∀c l,get q.1=some (.dc c l)->dp q.2=l.length):
 ∀(p:Pt X.ι)(d:DV X)(m m':MG X),px get p d m=some m'->(∀ q∈m'.nm,q∈NM)->(∀ c∈m'.ip,c=true)->(∀ k∈m'.vr,k∈py)->
 ∃aq,m'.ey=m.ey++aq/\∃d',(∀ ag,eP dp p (aq++ag)=(d',ag))/\(∃ hs obs,(∀ p∈obs,p)/\∀ag,sJ P (dG rd (fD get)) ae (den d) (hs++ag)=some (den d',ag,obs))/\∀j∈bm d,(∃ q,(j,q)∈NM)\/j∈py
 | .v c,d,m,m',h,hn,hc,hr=>by
  simp only[px]at h;rw[ai]at h;obtain⟨x,h1,h⟩:=h;cases h;have yz:∀j∈bm d,j∈py:=λj hj=>hr j (by simp[hj]);obtain⟨hs,obs,p1,q1⟩:=Cy (P:=P) (rd:=rd) h1 (λ b hb=>hc b (by simp[hb])) (λ j hj=>hrd j (.inr (yz j hj)));refine⟨[⟨c,x.1⟩],rfl,.c c x.1,λag=>rfl,⟨ZO (den d) hs,obs,p1,λag=>?_⟩,λj hj=> .inr (yz j hj)⟩;rw[<- O1];exact Ab (q1 ag) (λ k hk=>hv k (yz k (by rwa [iV]at hk)))
 | .o k,d,m,m',h,hn,hc,hr=>by
  simp only[px]at h;split at h
  ·rename_i k' len;rw[ai]at h;obtain⟨o,h1,h⟩:=h;split at h
   ·rename_i c l;cases h;have hq:(k',k)∈NM:=hn _ (by simp);have he:len=l.length:=by
     have:=hc (bk len l.length) (by simp);simpa[bk]using this
    refine⟨[],by simp,.own k 0 (dp k),λag=>rfl,⟨[.mut k],[],by simp,λag=>?_⟩,λj hj=>?_⟩
    ·simp only[den,cons_append,bO,sJ,hi _ hq,if_true,ho _ hq c l h1,he]
    ·simp only[bm,aY]at hj;subst hj;exact .inl ⟨k,hq⟩
   ·cases h
  ·cases h
 | .od k,d,m,m',h,hn,hc,hr=>by
  simp only[px]at h;split at h
  ·rename_i k' aa len;rw[ai]at h;obtain⟨o,h1,h⟩:=h;split at h
   ·rename_i c l;cases h;have hq:(k',k)∈NM:=hn _ (by simp);have he:aa+len=l.length:=by
     have:=hc (bk (aa+len) l.length) (by simp);simpa[bk]using this
    refine⟨[⟨.int .i64,(aa:Int)⟩],rfl,.own k aa (dp k -aa),λag=>?_,⟨[.mut k],[],by simp,λag=>?_⟩,λj hj=>?_⟩
    ·have:Ek (X:=X) ⟨.int .i64,(aa:Int)⟩=aa:=by
      simp only[Ek];rw[Xb];simp
     simp only[eP,cons_append,bO,this]
    ·simp only[den,cons_append,bO,sJ,hi _ hq,if_true,ho _ hq c l h1,show l.length -aa=len by omega]
    ·simp only[bm,aY]at hj;subst hj;exact .inl ⟨k,hq⟩
   ·cases h
  ·cases h
 | .p k,d,m,m',h,hn,hc,hr=>by
  simp only[px]at h;split at h
  ·rename_i k';cases h;have hq:(k',k)∈NM:=hn _ (by simp);refine⟨[],by simp,.ptr k 0 0,λag=>rfl,⟨[.mut k],[],by simp,λag=>?_⟩,λj hj=>?_⟩
   ·simp only[den,cons_append,bO,sJ,hi _ hq,if_true]
   ·simp only[bm,aY]at hj;subst hj;exact .inl ⟨k,hq⟩
  ·cases h
 | .nil,d,m,m',h,hn,hc,hr=>by
  simp only[px]at h;split at h
  ·cases h;refine⟨[],by simp,.nil,λag=>rfl,⟨[.nil],[],by simp,λag=>?_⟩,by simp[bm]⟩;exact Ab (by simp only[den,cons_append,bO,pG]) (by simp[den,refs])
  ·cases h
 | .f F fs cs,d,m,m',h,hn,hc,hr=>by
  simp only[px]at h;split at h
  ·rename_i F' first caps
   split at h
   ·rename_i e;subst e;rw[ai]at h;obtain⟨m1,h1,h⟩:=h;have hm:=(xD cs _ m1 m' h).1;obtain⟨n1,a1,f',b1,⟨hs1,o1,p1,q1⟩,r1⟩:=Ac hi hv hrd ho fs _ m m1 h1 (λ q hq=>hn q (hm.1 q hq)) (λ q hq=>hc q (hm.2.1 q hq)) (λ q hq=>hr q (hm.2.2 q hq));obtain⟨n2,a2,c',b2,⟨hs2,o2,p2,q2⟩,r2⟩:=Ac hi hv hrd ho cs _ m1 m' h hn hc hr;refine⟨n1++n2,by rw[a2,a1,aK],.fn F f' c',λag=>by simp only[eP,aK,b1,b2],⟨.fnw::(hs1++hs2),o1++o2,gX p1 p2,λag=>?_⟩,λj hj=>?_⟩
    ·simp only[den,cons_append,aK,sJ,q1,ah,q2]
    ·simp only[bm,aX]at hj;exact hj.elim (r1 j) (r2 j)
   ·cases h
  ·cases h
 | .mp k,d,m,m',h,hn,hc,hr=>by
  simp only[px]at h;split at h
  ·rename_i k';cases h;have hq:(k',k)∈NM:=hn _ (by simp);refine⟨[],by simp,.mp k,λag=>rfl,⟨[.mut k],[],by simp,λag=>?_⟩,λj hj=>?_⟩
   ·simp only[den,cons_append,bO,sJ,hi _ hq,if_true]
   ·simp only[bm,aY]at hj;subst hj;exact .inl ⟨k,hq⟩
  ·cases h
 | .oz _,_,_,_,h,_,_,_=>by simp[px]at h
 | .a ps,d,m,m',h,hn,hc,hr=>by
  simp only[px]at h;split at h
  ·rename_i ds;have⟨n1,a1,f',b1,⟨hs1,o1,p1,q1⟩,r1⟩:=Ac hi hv hrd ho ps ds m m' h hn hc hr;refine⟨n1,a1,.agg f',λag=>by simp only[eP,b1],⟨.agw::hs1,o1,p1,λag=>?_⟩,λj hj=>r1 j (by simpa[bm]using hj)⟩;simp only[den,cons_append,sJ,q1,ah]
  ·cases h
theorem Ac(hi:∀q∈NM,ae[q.2]? =some q.1)(hv:∀k∈py,k∉ae)(hrd:∀k,(∃ q,(k,q)∈NM)\/k∈py->k∈rd)(ho:∀q∈NM,∀c l,get q.1=some (.dc c l)->dp q.2=l.length):
 ∀(ps:List (Pt X.ι))(ds:List (DV X))(m m':MG X),rk get ps ds m=some m'->(∀ q∈m'.nm,q∈NM)->(∀ c∈m'.ip,c=true)->(∀ k∈m'.vr,k∈py)->
 ∃aq,m'.ey=m.ey++aq/\∃ds',(∀ ag,lp dp ps (aq++ag)=(ds',ag))/\(∃ hs obs,(∀ p∈obs,p)/\∀ag,nG P (dG rd (fD get)) ae (bK ds) (hs++ag)=some (bK ds',ag,obs))/\∀j∈aS ds,(∃ q,(j,q)∈NM)\/j∈py
 |[],[],m,m',h,_,_,_=>by
  simp only[rk,aA]at h;subst h;exact⟨[],by simp,[],λag=>rfl,⟨[],[],by simp,λag=>rfl⟩,by simp[aS]⟩
 |p::ps,d::ds,m,m',h,hn,hc,hr=>by
  simp only[rk]at h;have⟨m1,h1,h⟩:=ai.1 h;have hm:=(xD ps ds m1 m' h).1;obtain⟨n1,a1,d',b1,⟨hs1,o1,p1,q1⟩,r1⟩:=aiY hi hv hrd ho p d m m1 h1 (λ q hq=>hn q (hm.1 q hq)) (λ q hq=>hc q (hm.2.1 q hq)) (λ q hq=>hr q (hm.2.2 q hq));have⟨n2,a2,ds',b2,⟨hs2,o2,p2,q2⟩,r2⟩:=Ac hi hv hrd ho ps ds m1 m' h hn hc hr;refine⟨n1++n2,by rw[a2,a1,aK],d'::ds',λag=>by simp only[lp,aK,b1,b2],⟨hs1++hs2,o1++o2,gX p1 p2,λag=>?_⟩,λj hj=>?_⟩
  ·simp only[bK,aK,nG,q1,ah,q2]
  ·simp only[aS,aX]at hj;exact hj.elim (r1 j) (r2 j)
 |[],_::_,m,m',h,_,_,_=>by simp[rk]at h
 |_::_,[],m,m',h,_,_,_=>by simp[rk]at h
end
theorem Av:∀(rs:List (List (Pt X.ι)))(qs:List (List (DV X)))(m m':MG X),IG get rs qs m=some m'->fS m m'/\∃aq,m'.ey=m.ey++aq/\aq.length=(xA rs).length
 |[],[],m,m',h=>by
  simp only[IG,aA]at h;subst h;exact⟨fS.refl _,[],by simp,rfl⟩
 |r::rs,q::qs,m,m',h=>by
  simp only[IG]at h;have⟨m1,h1,h⟩:=ai.1 h;have⟨a1,n1,b1,c1⟩:=xD r q m m1 h1;have⟨a2,n2,b2,c2⟩:=Av rs qs m1 m' h;exact⟨a1.trans a2,n1++n2,by rw[b2,b1,aK],by simp[xA,c1,c2]⟩
 |[],_::_,m,m',h=>by simp[IG]at h
 |_::_,[],m,m',h=>by simp[IG]at h
theorem TB(hi:∀q∈NM,ae[q.2]? =some q.1)(hv:∀k∈py,k∉ae)(hrd:∀k,(∃ q,(k,q)∈NM)\/k∈py->k∈rd)(ho:∀q∈NM,∀c l,get q.1=some (.dc c l)->dp q.2=l.length):
 ∀(rs:List (List (Pt X.ι)))(qs:List (List (DV X)))(m m':MG X),IG get rs qs m=some m'->(∀ q∈m'.nm,q∈NM)->(∀ c∈m'.ip,c=true)->(∀ k∈m'.vr,k∈py)->
 ∃aq,m'.ey=m.ey++aq/\∃CM,(∀ ag,xC dp rs (aq++ag)=(CM,ag))/\(∃ hs obs,(∀ p∈obs,p)/\Gt P (dG rd (fD get)) ae (qs.map bK) hs=some (CM.map bK,obs))/\∀j∈(qs.map aS).flatten,(∃ q,(j,q)∈NM)\/j∈py
 |[],[],m,m',h,_,_,_=>by
  simp only[IG,aA]at h;subst h;exact⟨[],by simp,[],λag=>rfl,⟨[],[],by simp,rfl⟩,by simp⟩
 |r::rs,q::qs,m,m',h,hn,hc,hr=>by
  simp only[IG]at h;have⟨m1,h1,h⟩:=ai.1 h;have hm:=(Av rs qs m1 m' h).1;obtain⟨n1,a1,d',b1,⟨hs1,o1,p1,q1⟩,r1⟩:=Ac (P:=P) hi hv hrd ho r q m m1 h1 (λ q hq=>hn q (hm.1 q hq)) (λ q hq=>hc q (hm.2.1 q hq)) (λ q hq=>hr q (hm.2.2 q hq));have⟨n2,a2,ds',b2,⟨hs2,o2,p2,q2⟩,r2⟩:=TB hi hv hrd ho rs qs m1 m' h hn hc hr;refine⟨n1++n2,by rw[a2,a1,aK],d'::ds',λag=>by simp only[xC,aK,b1,b2],⟨hs1::hs2,o1++o2,gX p1 p2,?_⟩,λj hj=>?_⟩
  ·have:=q1 [];rw[append_nil]at this;simp only[aC,Gt,this,ah,q2]
  ·simp only[aC,flatten_cons,aX]at hj;exact hj.elim (r1 j) (r2 j)
 |[],_::_,m,m',h,_,_,_=>by simp[IG]at h
 |_::_,[],m,m',h,_,_,_=>by simp[IG]at h
theorem mK:∀(os:List (Nat×OP X.ι))(m m':MG X),Fh get os m=some m'->fS m m'/\∃aq,m'.ey=m.ey++aq/\aq.length=(cD os).length
 |[],m,m',h=>by
  simp only[Fh,aA]at h;subst h;exact⟨fS.refl _,[],by simp,rfl⟩
 |(k,op)::r,m,m',h=>by
  simp only[Fh]at h;rw[ai]at h;obtain⟨o,h1,h⟩:=h;split at h
  ·rename_i c c' l;rw[ai]at h;obtain⟨l',h2,h⟩:=h;obtain⟨a2,n2,b2,c2⟩:=mK r _ m' h;refine⟨fS.trans (b:=⟨m.nm++[(p6 m k,k)],m.ey++[⟨.sl c,l'⟩],m.ip,m.vr⟩) ⟨λ _ h=>by simp[h],λ_ h=>h,λ_ h=>h⟩ a2,[⟨.sl c,l'⟩]++n2,?_,by simp[cD,c2]⟩;rw[b2,aK]
  ·rename_i kc vc tg s9 l;split at h
   ·rw[ai]at h;obtain⟨l',h2,h⟩:=h;obtain⟨a2,n2,b2,c2⟩:=mK r _ m' h;refine⟨fS.trans (b:=⟨m.nm++[(p6 m k,k)],m.ey++[⟨.mp kc vc,l'⟩],m.ip,m.vr⟩) ⟨λ _ h=>by simp[h],λ_ h=>h,λ_ h=>h⟩ a2,[⟨.mp kc vc,l'⟩]++n2,?_,by simp[cD,c2]⟩;rw[b2,aK]
   ·cases h
  ·rename_i sz rows sz' rows';split at h
   ·rw[ai]at h;obtain⟨m1,h2,h⟩:=h;obtain⟨a1,n1,b1,c1⟩:=Av rows _ _ m1 h2;have⟨a2,n2,b2,c2⟩:=mK r m1 m' h;refine⟨fS.trans (fS.trans (b:=⟨m.nm++[(p6 m k,k)],m.ey,m.ip,m.vr⟩) ⟨λ _ h=>by simp[h],λ_ h=>h,λ_ h=>h⟩ a1) a2,n1++n2,?_,by simp[cD,c1,c2]⟩;rw[b2,b1,aK]
   ·cases h
  ·cases h
theorem GJ:∀(os:List (Nat×OP X.ι))(m m':MG X),Fh get os m=some m'->(∀ q∈m'.nm,q∈NM)->∃aq,m'.ey=m.ey++aq/\∀ag,∀k∈os.map (·.1),∃k' o,(k',k)∈NM/\get k'=some o/\∀c l,o= .dc c l->(k,List.length l)∈lens os (aq++ag)
 |[],m,m',h,_=>by
  simp only[Fh,aA]at h;subst h;exact⟨[],by simp,λag k hk=>by simp at hk⟩
 |(k,op)::r,m,m',h,hn=>by
  simp only[Fh]at h;rw[ai]at h;obtain⟨o,h1,h⟩:=h;split at h
  ·rename_i c c' l;rw[ai]at h;obtain⟨l',h2,h⟩:=h;have hm:=(mK r _ m' h).1;obtain⟨n2,b2,c2⟩:=GJ r _ m' h hn;refine⟨[⟨.sl c,l'⟩]++n2,by rw[b2,aK],λag j hj=>?_⟩;simp only[aC,aN]at hj;simp only[aK,cons_append,bO,lens];by_cases hjk:j=k
   ·subst hjk;refine⟨_,_,hn _ (hm.1 _ (by simp)),h1,λc2 l2 he=>?_⟩;injection he with e1 e2;subst e1;have e2:=eq_of_heq e2;subst e2;have:=congrArg List.length (jo h2).2;simp only[length_map]at this;rw[this];exact List.mem_cons_self
   ·rcases hj with rfl |hj
    ·exact(hjk rfl).elim
    ·have⟨k',o',g1,g2,g3⟩:=c2 ag j hj;exact⟨k',o',g1,g2,λc l he=>dS _ (g3 c l he)⟩
  ·rename_i kc vc tg s9 l;split at h
   ·rw[ai]at h;obtain⟨l',h2,h⟩:=h;have hm:=(mK r _ m' h).1;obtain⟨n2,b2,c2⟩:=GJ r _ m' h hn;refine⟨[⟨.mp kc vc,l'⟩]++n2,by rw[b2,aK],λag j hj=>?_⟩;simp only[aC,aN]at hj;simp only[aK,cons_append,bO,lens,List.drop_succ_cons,List.drop_zero];by_cases hjk:j=k
    ·subst hjk;exact⟨_,_,hn _ (hm.1 _ (by simp)),h1,λc2 l2 he=>by cases he⟩
    ·rcases hj with rfl |hj
     ·exact(hjk rfl).elim
     ·exact c2 ag j hj
   ·cases h
  ·rename_i sz rows sz' rows';split at h
   ·have⟨m1,h2,h⟩:=ai.1 h;obtain⟨a1,n1,b1,c1⟩:=Av rows _ _ m1 h2;have hm:=(mK r _ m' h).1;obtain⟨n2,b2,c2⟩:=GJ r _ m' h hn;refine⟨n1++n2,by rw[b2,b1,aK],λag j hj=>?_⟩;simp only[aC,aN]at hj;have hd:(n1++n2++ag).drop (xA rows).length=n2++ag:=(by rw[<- c1,aK,List.drop_left]);simp only[lens,hd];by_cases hjk:j=k
    ·subst hjk;exact⟨_,_,hn _ (hm.1 _ (a1.1 _ (by simp))),h1,λc2 l2 he=>by cases he⟩
    ·rcases hj with rfl |hj
     ·exact(hjk rfl).elim
     ·exact c2 ag j hj
   ·cases h
  ·cases h
theorem GK:∀(os:List (Nat×OP X.ι))(L:List (DC X)),((lens os L).map (·.1)).Sublist (os.map (·.1))
 |[],_=>by simp[lens]
 |(k,.l c)::r,L=>by
  simp only[lens];split
  ·exact(GK r _).cons_cons _
  ·exact List.nil_sublist _
 |(k,.m kc vc)::r,L=>by
  simp only[lens];exact(GK r _).cons _
 |(k,.c sz rows)::r,L=>by
  simp only[lens];exact(GK r _).cons _
def aiZ(get':Nat->Option aU)(NM:List (Nat×Nat))(py:List Nat)(bs:List OB)(ks:List Nat):Prop:=
 ∀(j:Nat) hs q o,bs[j]? =some (.C5 hs)->ks[j]? =some q->get' q=some o->∀k∈Ww o,(∃ z,(k,z)∈NM)\/k∈py
theorem O3{sz:Nat}{rows:List (List (DV X))}{k:Nat}(h:k∈Ww (bG (.cells sz rows))):k∈(rows.map aS).flatten:=by
 simp only[Ww,bG,List.mem_flatMap,mem_map]at h;obtain⟨a,⟨r,hr,rfl⟩,hk⟩:=h;rw[iA]at hk;exact List.mem_flatten.2 ⟨_,mem_map.2 ⟨r,hr,rfl⟩,hk⟩
theorem CB(hi:∀q∈NM,ae[q.2]? =some q.1)(hv:∀k∈py,k∉ae)(hrd:∀k,(∃ q,(k,q)∈NM)\/k∈py->k∈rd)(ho:∀q∈NM,∀c l,get q.1=some (.dc c l)->dp q.2=l.length):
 ∀(os:List (Nat×OP X.ι))(m m':MG X),Fh get os m=some m'->(∀ q∈m'.nm,q∈NM)->(∀ c∈m'.ip,c=true)->(∀ k∈m'.vr,k∈py)->
 ∃aq,m'.ey=m.ey++aq/\∃xs:List (Nat×br X),(∀ ag,cu dp os (aq++ag)=xs.map λp=>(p.1,some p.2))/\
  ∃bs mo,(∀ p∈mo,p)/\J3 P (dG rd (fD get)) ae (os.map λp=>(ae[p.1]?).getD 0) bs=some (xs.map λp=>bG p.2,mo)/\aiZ (dG rd (fD get)) NM py bs (os.map λp=>(ae[p.1]?).getD 0)
 |[],m,m',h,_,_,_=>by
  simp only[Fh,aA]at h;subst h;exact⟨[],by simp,[],λag=>rfl,[],[],by simp,rfl,λj hs q o h=>by simp at h⟩
 |(k,op)::r,m,m',h,hn,hc,hr=>by
  simp only[Fh]at h;rw[ai]at h;obtain⟨o,h1,h⟩:=h;split at h
  ·rename_i c c' l;have⟨l',h2,h⟩:=ai.1 h;have hm:=(mK r _ m' h).1;have hq:(p6 m k,k)∈NM:=hn _ (hm.1 _ (by simp));have hid:(ae[k]?).getD 0=p6 m k:=(by rw[hi _ hq];rfl);have hget:=dO (hrd (p6 m k) (.inl ⟨k,hq⟩)) h1;have⟨h3,h4⟩:=jo h2;obtain⟨n2,a2,xs,b2,bs,mo,p2,q2,r2⟩:=CB hi hv hrd ho r _ m' h hn hc hr;refine⟨[⟨.sl c,l'⟩]++n2,by rw[a2,aK],(k,.dc c l')::xs,λag=>by simp only[aK,cons_append,bO,cu,b2,aC],.dat (CT.sz X c,l'.map (CT.row X.toSE c))::bs,((bG (.dc c' l)).sz=CT.sz X c/\dV ((bG (.dc c' l)).rows.take (l'.map (CT.row X.toSE c)).length)=aL (l'.map (CT.row X.toSE c)))::mo,?_,?_,?_⟩
   ·intro p hp;rcases aN.1 hp with rfl |hp
    ·refine⟨h3,?_⟩;simp only[bG,h4];rw[take_of_length_le (by simp[aL])];simp[dV,aL,Function.comp_def,wk]
    ·exact p2 p hp
   ·simp only[aC,J3,E0,hid,hget,ah,q2,cons_append,bO];rfl
   ·intro j hs q o' hj hq' ho';cases j with
    |zero=>simp at hj
    |succ j=>exact r2 j hs q o' (by simpa using hj) (by simpa using hq') ho'
  ·rename_i kc vc tg s9 l;split at h
   ·rename_i hone;have⟨l',h2,h⟩:=ai.1 h;have hm:=(mK r _ m' h).1;have hq:(p6 m k,k)∈NM:=hn _ (hm.1 _ (by simp));have hid:(ae[k]?).getD 0=p6 m k:=(by rw[hi _ hq];rfl);have hget:=dO (hrd (p6 m k) (.inl ⟨k,hq⟩)) h1;have hden:bG (.map tg s9 l)=bG (.map kc vc l'):=by
     have⟨e,h2⟩:=mJ h2;injection e with e1 e2;subst e1;subst e2;subst h2;rfl
    have hab:bG (.map kc vc l')=hZ (List.length l',l'.map λq=>CT.row X.toSE kc q.1++CT.row X.toSE vc q.2):=by
     simp only[bG,hZ,aL,map_map];congr 1;refine map_congr_left λq _=>?_;obtain⟨t1,g1,g2⟩:=row_one hone.1 q.1;obtain⟨t2,g3,g4⟩:=row_one hone.2 q.2;simp[g1,g2,g3,g4,TV.av]
    obtain⟨n2,a2,xs,b2,bs,mo,p2,q2,r2⟩:=CB hi hv hrd ho r _ m' h hn hc hr;refine⟨[⟨.mp kc vc,l'⟩]++n2,by rw[a2,aK],(k,.map kc vc l')::xs,λag=>by simp only[aK,cons_append,bO,cu,b2,aC],.dat (List.length l',l'.map λq=>CT.row X.toSE kc q.1++CT.row X.toSE vc q.2)::bs,((bG (.map tg s9 l)).sz=List.length l'/\dV ((bG (.map tg s9 l)).rows.take (l'.map λq=>CT.row X.toSE kc q.1++CT.row X.toSE vc q.2).length)=aL (l'.map λq=>CT.row X.toSE kc q.1++CT.row X.toSE vc q.2))::mo,?_,?_,?_⟩
    ·intro p hp;rcases aN.1 hp with rfl |hp
     ·rw[hden,hab];refine⟨rfl,?_⟩;simp only[hZ];rw[take_of_length_le (by simp[aL])];simp[dV,aL,Function.comp_def,wk]
     ·exact p2 p hp
    ·simp only[aC,J3,E0,hid,hget,ah,q2,cons_append,bO,hab]
    ·intro j hs q o' hj hq' ho';cases j with
     |zero=>simp at hj
     |succ j=>exact r2 j hs q o' (by simpa using hj) (by simpa using hq') ho'
   ·cases h
  ·rename_i sz rows sz' rows';split at h
   ·rename_i hsz;have⟨m1,h2,h⟩:=ai.1 h;have hm1:=(Av rows _ _ m1 h2).1;have hm:=(mK r _ m' h).1;have hq:(p6 m k,k)∈NM:=hn _ (hm.1 _ (hm1.1 _ (by simp)));have hid:(ae[k]?).getD 0=p6 m k:=(by rw[hi _ hq];rfl);have hget:=dO (hrd (p6 m k) (.inl ⟨k,hq⟩)) h1;obtain⟨n1,a1,qs,b1,⟨hs1,o1,p1,q1⟩,r1⟩:=TB (P:=P) hi hv hrd ho rows _ _ m1 h2 (λ q hq=>hn q (hm.1 q hq)) (λ q hq=>hc q (hm.2.1 q hq)) (λ q hq=>hr q (hm.2.2 q hq));obtain⟨n2,a2,xs,b2,bs,mo,p2,q2,r2⟩:=CB hi hv hrd ho r _ m' h hn hc hr;subst hsz;refine⟨n1++n2,by rw[a2,a1,aK],(k,.cells sz qs)::xs,λag=>by simp only[aK,cu,b1,b2,aC],.C5 hs1::bs,o1++mo,gX p1 p2,?_,?_⟩
    ·simp only[aC,J3,E0,hid,hget,ah,bG,q1,q2]
    ·intro j hs q o' hj hq' ho';cases j with
     |zero=>
      simp only[aC,List.getElem?_cons_zero,aA]at hq';rw[<- hq',hid,hget]at ho';injection ho' with ho';subst ho';exact λz hz=>r1 z (O3 hz)
     |succ j=>exact r2 j hs q o' (by simpa using hj) (by simpa using hq') ho'
   ·cases h
  ·cases h
end
end
end Go.Gb
