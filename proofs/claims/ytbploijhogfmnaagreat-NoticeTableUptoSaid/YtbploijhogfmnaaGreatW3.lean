/-
  A law's arguments as data of the abstract walk; the law's contract as the row's statement wants it.
-/
import Derived.Test.YtbploijhogfmnaaGreatW2
import Derived.ChangeSame
import Derived.Carry
import Derived.OpenShut
import Derived.SizedLaws
import Derived.WalkKit
import Derived.ProofKit
import Derived.Lib.LaidTab
open Option (bind_some)
open List (map_cons mem_cons append_assoc mem_append mem_map all_eq_true mem_singleton nil_append length_cons cons_append length_map append_nil map_map take_of_length_le map_congr_left flatten_cons map_nil all_cons map_take map_drop map_append)
open Bool (and_eq_true)
namespace Go.Gb
open Go.RowKit Go.WideShapes Go.ChangeShapes
inductive CS where
 |int (k:IntKind)
 |bool
 |str
 |sl (row:List CS)
 |any
  |mu (row:List CS)
 |back
def adp:CS->Tree->Prop
 | .int k,x=>∃ n,x= .sc (.int k n)∧(Lit.int k n).wf=true
 | .bool,x=>∃ b,x= .sc (.bool b)
 | .str,x=>∃ s,x= .sc (.string s)∧s.size<=maxLen
 |_,_=>False
def ac0:CS->Nat
 | .int .i64=>8
 | .int _=>1
 | .bool=>1
 | .str=>16
 |_=>24
def Xm:CS->Nat
 | .int .i64=>8
 | .int _=>1
 | .bool=>1
 |_=>8
def acs:Nat->List CS->Nat
 |o,[]=>o
 |o,c::cs=>acs ((o+(Xm c - 1))/Xm c*Xm c+ac0 c) cs
def abo (r:List CS):Nat:=bif r.any (fun c=>Xm c==8)then (acs 0 r+7)/8*8 else acs 0 r
mutual
inductive MuT (row:List CS):Tree->Prop
 |mk (rows:List (List Tree)) (hl:rows.length<=maxLen) (h:MuRows row rows):MuT row (.sl rows)
inductive MuRows (row:List CS):List (List Tree)->Prop
 |nil:MuRows row []
 |cons {r:List Tree} {rs:List (List Tree)} (h:MuRow row row r) (t:MuRows row rs):MuRows row (r::rs)
inductive MuRow (row:List CS):List CS->List Tree->Prop
 |nil:MuRow row [] []
 |back {cs:List CS} {x:Tree} {xs:List Tree} (h:MuT row x) (t:MuRow row cs xs):MuRow row (.back::cs) (x::xs)
 |one {c:CS} {cs:List CS} {x:Tree} {xs:List Tree} (h:adp c x) (t:MuRow row cs xs):MuRow row (c::cs) (x::xs)
end
mutual
def Fit:CS->Tree->Prop
 | .int k,x=>∃ n,x= .sc (.int k n)∧(Lit.int k n).wf=true
 | .bool,x=>∃ b,x= .sc (.bool b)
 | .str,x=>∃ s,x= .sc (.string s)∧s.size<=maxLen
 | .sl row,x=>∃ rows,x= .sl rows∧(rows.length<=maxLen∧rows.length*abo row<=reachBytes)∧∀ r∈rows,FitL row r
 | .any,_=>True
 | .mu row,x=>MuT row x
 | .back,_=>False
def FitL:List CS->List Tree->Prop
 |[],[]=>True
 |c::cs,x::xs=>Fit c x∧FitL cs xs
 |_,_=>False
end
mutual
def tbk:Tree->Nat
 | .sc (.string s)=>s.size+1
 | .sc _=>1
 | .sl rows=>Cs rows+1
def Cs:List (List Tree)->Nat
 |[]=>0
 |r::rs=>jl r+Cs rs
def jl:List Tree->Nat
 |[]=>0
 |x::xs=>tbk x+jl xs
end
theorem uG:∀ a b:List Tree,jl (a++b)=jl a+jl b
 |[],b=>by simp[jl]
 |x::a,b=>by simp only[cons_append,jl,uG a b];omega
structure Bk (H:Type) where
 b:DataW H->Nat
 a:List (DataW H)->Nat
 str:∀ l,b (.lit (.string l))=l.length+1
 int:∀ k n,b (.lit (.int k n))=1
 bool:∀ v,b (.lit (.bool v))=1
 nil:b .nil=1
 sl:∀ e s,b (.slice e s)=a e+a s+1
 agg:∀ p,b (.agg p)=a p+1
 a0:a []=0
 a1:∀ d r,a (d::r)=b d+a r
theorem Bk.app {H:Type} (K:Bk H) (l r:List (DataW H)):K.a (l++r)=K.a l+K.a r:=by
 induction l with
 |nil=>simp[K.a0]
 |cons x l ih=>simp only[cons_append,K.a1,ih];omega
theorem Bk.drop {H:Type} (K:Bk H) {l:List (DataW H×List MemPlace)} {j:Nat} {y:DataW H×List MemPlace} (h:l[j]? =some y):K.a ((l.map (·.1)).drop j)=K.b y.1+K.a ((l.map (·.1)).drop (j+1)):=by
 obtain⟨hj,rfl⟩:=List.getElem?_eq_some_iff.1 h;rw[List.drop_eq_getElem_cons (by simpa using hj),K.a1];simp
def QA (P:Program) (go:TypeId->Option (List CS)):Nat->List Field->Option (List CS)
 |_,[]=>some []
 |o,f::fs=>(go f.type).bind fun a=>if f.offset=o∧a.length=P.cellsOf f.type then (QA P go (o+a.length) fs).map (a++ ·)else none
def Vg (P:Program) (t u:TypeId):Option (List CS):=if u=t then some [.back]else match P.underlying u with
 |some (.int k)=>some [.int k]
 |some .bool=>some [.bool]
 |some .string=>some [.str]
 |_=>none
def Xn (P:Program) (t e:TypeId):Option (List CS):=match P.underlying e with
 |some (.struct fs)=>(QA P (Vg P t) 0 fs.toList).bind fun r=>if r.length=P.cellsOf e∧0 < r.length then some r else none
 |_=>none
def shp (P:Program) (cut:List TypeId):Nat->TypeId->Option (List CS)
 | 0,_=>none
 |n+1,t=>match P.underlying t with
  |some (.int k)=>some [.int k]
  |some .bool=>some [.bool]
  |some .string=>some [.str]
  |some (.slice e)=>if cut.contains t then (match Xn P t e with |some row=>some [.mu row] |none=>some [.any])else (shp P cut n e).bind fun r=>if r.length=P.cellsOf e∧0 < r.length∧abo r<=P.bytesOf e then some [.sl r]else none
  |some (.struct fs)=>(QA P (shp P cut n) 0 fs.toList).bind fun r=>if r.length=P.cellsOf t then some r else none
  |some (.array m e)=>(shp P cut n e).bind fun r=>if r.length=P.cellsOf e∧m*r.length=P.cellsOf t then some (List.replicate m r).flatten else none
  |_=>none
theorem FitL.length:∀ (cs:List CS) (ts:List Tree),FitL cs ts->ts.length=cs.length
 |[],[],_=>rfl
 |c::cs,x::xs,h=>by simp only[FitL]at h;simp[FitL.length cs xs h.2]
 |[],_::_,h=>by simp[FitL]at h
 |_::_,[],h=>by simp[FitL]at h
theorem FitL.append:∀ (cs:List CS) (ts:List Tree) {cs':List CS} {ts':List Tree},FitL cs ts->FitL cs' ts'->FitL (cs++cs') (ts++ts')
 |[],[],_,_,_,h=>h
 |c::cs,x::xs,_,_,h,h'=>by simp only[FitL,cons_append]at h ⊢;exact⟨h.1,FitL.append cs xs h.2 h'⟩
 |[],_::_,_,_,h,_=>by simp[FitL]at h
 |_::_,[],_,_,h,_=>by simp[FitL]at h
def Here (w:World) (b:Nat):Prop:=b < w.heap.size
section
variable {w:World} {I:Nat->Prop}
theorem TRl.append:∀ (ts:List Tree) (cs:List Value) {ts':List Tree} {cs':List Value},TRl w I ts cs->TRl w I ts' cs'->TRl w I (ts++ts') (cs++cs')
 |[],[],_,_,_,h=>h
 |_::xs,_::vs,_,_,h,h'=>⟨h.1,TRl.append xs vs h.2 h'⟩
 |[],_::_,_,_,h,_=>h.elim
 |_::_,[],_,_,h,_=>h.elim
theorem TRl.length:∀ (ts:List Tree) (cs:List Value),TRl w I ts cs->ts.length=cs.length
 |[],[],_=>rfl
 |_::xs,_::vs,h=>by simp[TRl.length xs vs h.2]
 |[],_::_,h=>h.elim
 |_::_,[],h=>h.elim
theorem QB:∀ (ts:List Tree) (cs:List Value) (b off:Nat),TRl w I ts cs->(∀ i,i < cs.length->w.cell? ⟨b,off+i,none⟩=cs[i]?)->TRow w I ts b off
 |[],[],_,_,_,_=>by simp[TRow]
 |x::xs,v::vs,b,off,h,hc=>by
  simp only[TRow];refine⟨⟨v,by simpa using hc 0 (by simp),h.1⟩,QB xs vs b (off+1) h.2 fun i hi=>?_⟩;have:=hc (i+1) (by simpa using hi);rw[show off+(i+1)=off+1+i by omega]at this;simpa using this
 |[],_::_,_,_,h,_=>h.elim
 |_::_,[],_,_,h,_=>h.elim
end
section
variable {H:Type} {enc:TypeId×Value->H} {P:Program} {w:World} {sp:Nat->Bool} {held:Bool}
theorem OO {a:Addr} {v:Value} (h:w.cell? a=some v):a.spot=none∧a.block < w.heap.size:=by
 simp only[World.cell?]at h;split at h
 ·rename_i c e st hc;split at h
  ·cases h
  ·rename_i hs;exact⟨by simpa using hs,(Array.getElem?_eq_some_iff.1 hc).1⟩
 ·cases h
def Szd (P:Program) (t:TypeId) (x:DataW H×List MemPlace):Prop:=∀ k∈x.1.weights P t,k<=reachBytes
theorem rW {e:TypeId}:∀ {l:List (DataW H)} {d:DataW H},d∈l->∀ k∈d.weights P e,k∈DataW.weightsAll P e l
 |a::l,d,h,k,hk=>by
  simp only[DataW.weightsAll,mem_append];rcases mem_cons.1 h with rfl |h
  ·exact .inl hk
  ·exact .inr (rW h k hk)
theorem bsize (v:ByteArray):v.data.toList.length=v.size:=by rw[Array.length_toList];rfl
theorem Iz (m:Nat) (cs:List Value) (go:TypeId->Option (List CS)) (hgo:∀ t sh,go t=some sh->∀ cs x,DataW.trod enc P w 0 sp held m t cs=some x->Szd P t x->∃ ts,TRl w (Here w) ts cs∧FitL sh ts∧∀ K:Bk H,jl ts<=K.b x.1):
 ∀ (fs:List Field) (l:List (DataW H×List MemPlace)) (o:Nat) (sh:List CS),QA P go o fs=some sh->l.length=fs.length->(∀ (i:Nat) (f:Field) (x:DataW H×List MemPlace),fs[i]? =some f->l[i]? =some x->DataW.trod enc P w 0 sp held m f.type ((cs.drop f.offset).take (P.cellsOf f.type))=some x∧Szd P f.type x)->
   ∃ ts,TRl w (Here w) ts ((cs.drop o).take sh.length)∧FitL sh ts∧∀ K:Bk H,jl ts<=K.a (l.map (·.1))
 |[],l,o,sh,h,_,_=>by
  simp only[QA,Option.some.injEq]at h;subst h;exact⟨[],by simp[TRl],by simp[FitL],fun K=>by simp[jl]⟩
 |f::fs,[],o,sh,h,hl,hf=>by simp at hl
 |f::fs,x::l,o,sh,h,hl,hf=>by
  simp only[QA,ai]at h;obtain⟨a,h1,h2⟩:=h;split at h2
  ·rename_i hc;obtain⟨hc1,hc2⟩:=hc;simp only[Option.map_eq_some_iff]at h2;obtain⟨r,h3,rfl⟩:=h2;obtain⟨hx,hz⟩:=hf 0 f x rfl rfl;obtain⟨ts,g1,g2,k1⟩:=hgo _ _ h1 _ _ hx hz;obtain⟨ts',g3,g4,k2⟩:=Iz m cs go hgo fs l _ _ h3 (by simpa using hl) fun i f' x' hf' hx'=>hf (i+1) f' x' hf' hx';refine⟨ts++ts',?_,FitL.append _ _ g2 g4,fun K=>by have:=k1 K;have:=k2 K;rw[uG,map_cons,K.a1];omega⟩;rw[List.length_append,List.take_add,List.drop_drop];rw[hc1,<- hc2]at g1;exact TRl.append _ _ g1 g3
  ·cases h2
theorem MuRow.append {row:List CS}:∀ {a b:List CS} {x y:List Tree},MuRow row a x->MuRow row b y->MuRow row (a++b) (x++y)
 |_,_,_,_,.nil,h=>h
 |_,_,_,_,.back h t,h'=> .back h (t.append h')
 |_,_,_,_,.one h t,h'=> .one h (t.append h')
theorem EJ {row:List CS} (m:Nat) (cs:List Value) (go:TypeId->Option (List CS)) (hgo:∀ t sh,go t=some sh->∀ cs x,DataW.trod enc P w 0 sp held m t cs=some x->∃ ts,TRl w (Here w) ts cs∧MuRow row sh ts∧∀ K:Bk H,jl ts<=K.b x.1):
 ∀ (fs:List Field) (l:List (DataW H×List MemPlace)) (o:Nat) (sh:List CS),QA P go o fs=some sh->l.length=fs.length->(∀ (i:Nat) (f:Field) (x:DataW H×List MemPlace),fs[i]? =some f->l[i]? =some x->DataW.trod enc P w 0 sp held m f.type ((cs.drop f.offset).take (P.cellsOf f.type))=some x)->
   ∃ ts,TRl w (Here w) ts ((cs.drop o).take sh.length)∧MuRow row sh ts∧∀ K:Bk H,jl ts<=K.a (l.map (·.1))
 |[],l,o,sh,h,_,_=>by
  simp only[QA,Option.some.injEq]at h;subst h;exact⟨[],by simp[TRl],.nil,fun K=>by simp[jl]⟩
 |f::fs,[],o,sh,h,hl,hf=>by simp at hl
 |f::fs,x::l,o,sh,h,hl,hf=>by
  simp only[QA,ai]at h;obtain⟨a,h1,h2⟩:=h;split at h2
  ·rename_i hc;obtain⟨hc1,hc2⟩:=hc;simp only[Option.map_eq_some_iff]at h2;obtain⟨r,h3,rfl⟩:=h2;have hx:=hf 0 f x rfl rfl;obtain⟨ts,g1,g2,k1⟩:=hgo _ _ h1 _ _ hx;obtain⟨ts',g3,g4,k2⟩:=EJ m cs go hgo fs l _ _ h3 (by simpa using hl) fun i f' x' hf' hx'=>hf (i+1) f' x' hf' hx';refine⟨ts++ts',?_,g2.append g4,fun K=>by have:=k1 K;have:=k2 K;rw[uG,map_cons,K.a1];omega⟩;rw[List.length_append,List.take_add,List.drop_drop];rw[hc1,<- hc2]at g1;exact TRl.append _ _ g1 g3
  ·cases h2
theorem abp {t e:TypeId} {row:List CS} (hk:P.underlying t=some (.slice e)) (hm:Xn P t e=some row):∀ (fuel:Nat) (cs:List Value) (x:DataW H×List MemPlace),DataW.trod enc P w 0 sp held fuel t cs=some x->∃ tr,TRl w (Here w) [tr] cs∧MuT row tr∧∀ K:Bk H,tbk tr<=K.b x.1:=by
 intro fuel
 induction fuel using Nat.strongRecOn with
 |_ fuel ih=>
 intro cs x hx;have one:∀ m,m < fuel->∀ csi y,DataW.trod enc P w 0 sp held m e csi=some y->∃ ts,TRl w (Here w) ts csi∧MuRow row row ts∧ts.length=row.length∧∀ K:Bk H,jl ts<=K.b y.1:=by
  intro m hmf csi y hy;unfold Xn at hm;split at hm
  ·rename_i fs hke;simp only[ai]at hm;obtain⟨r,h1,h2⟩:=hm;split at h2
   ·rename_i hr;injection h2 with h2;subst h2;obtain⟨xs,m',hm',rfl,hl,hxs,hf⟩:=DataW.trod_struct hke hy;obtain⟨ts,g1,g2,k1⟩:=EJ (row:=r) m' csi (Vg P t) (fun u sh hsh cs x hx=>by
     unfold Vg at hsh;split at hsh
     ·rename_i hu;injection hsh with hsh;subst hsh;rw[hu]at hx;obtain⟨tr,a1,a2,a3⟩:=ih m' (by omega) cs x hx;exact⟨[tr],a1,.back a2 .nil,fun K=>by have:=a3 K;simp only[jl];omega⟩
     ·split at hsh
      ·rename_i k hku;injection hsh with hsh;subst hsh;obtain⟨v,rfl,rfl,hw⟩:=DataW.trod_int hku hx;exact⟨[.sc (.int k v)],by simp[TRl,TR,oneCell],.one ⟨v,rfl,hw⟩ .nil,fun K=>by simp[jl,tbk,K.int]⟩
      ·rename_i hku;injection hsh with hsh;subst hsh;obtain⟨v,rfl,rfl⟩:=DataW.trod_bool hku hx;exact⟨[.sc (.bool v)],by simp[TRl,TR,oneCell],.one ⟨v,rfl⟩ .nil,fun K=>by simp[jl,tbk,K.bool]⟩
      ·rename_i hku;injection hsh with hsh;subst hsh;obtain⟨v,rfl,rfl,hw⟩:=DataW.trod_string hku hx;exact⟨[.sc (.string v)],by simp[TRl,TR,oneCell],.one ⟨v,rfl,hw⟩ .nil,fun K=>by simp[jl,tbk,K.str,bsize]⟩
      ·cases hsh) fs.toList xs 0 r h1 (by simpa using hxs) (fun i f x hi hxi=>by
     have hi':fs[i]? =some f:=(by simpa using hi);rw[hf i f hi',hxi])
    rw[List.drop_zero,take_of_length_le (by omega)]at g1;refine⟨ts,g1,g2,?_,fun K=>by have:=k1 K;rw[K.agg];omega⟩;rw[TRl.length _ _ g1];omega
   ·cases h2
  ·cases hm
 have rl:row.length=P.cellsOf e∧0 < row.length:=by
  unfold Xn at hm;split at hm
  ·simp only[ai]at hm;obtain⟨r,h1,h2⟩:=hm;split at h2
   ·rename_i hr;injection h2 with h2;subst h2;exact hr
   ·cases h2
  ·cases hm
 rcases DataW.trod_slice hk hx with ⟨rfl,rfl⟩ |⟨a,len,cap,elems,rest,m,hfm,rfl,rfl,_,hl,hmx,hlen,hel,_,_⟩
 ·refine⟨.sl [],?_,.mk [] (by simp[maxLen]) .nil,fun K=>by simp[tbk,Cs,K.nil]⟩;simp only[TRl,TR];exact⟨.inl ⟨trivial,none,0,rfl,fun _=>rfl⟩,trivial⟩
 ·have each:∀ i,i < len->∃ csi y,w.cells? 0 (a.add (i*P.cellsOf e)) (P.cellsOf e)=some csi∧DataW.trod enc P w 0 sp held m e csi=some y∧elems[i]? =some y:=by
   intro i hi;have h3:=hel i hi;have h6:elems[i]? =some (elems[i]'(by omega)):=List.getElem?_eq_getElem (by omega);rw[h6,ai]at h3;obtain⟨csi,h4,h5⟩:=h3;exact⟨csi,_,h4,h5,h6⟩
  by_cases h0:len=0
  ·subst h0;refine⟨.sl [],?_,.mk [] (by simp[maxLen]) .nil,fun K=>by simp[tbk,Cs,K.sl]⟩;simp only[TRl,TR];exact⟨.inl ⟨trivial,some a,cap,rfl,fun h=>by cases h⟩,trivial⟩
  ·obtain⟨cs0,y0,c0,_,_⟩:=each 0 (by omega);obtain⟨_,c1,c2⟩:=World.cells?_some c0;have c3:=c2 0 (by omega);rw[List.getElem?_eq_getElem (by omega)]at c3;have c4:=OO c3;simp only[Nat.zero_mul,Addr.add,if_true]at c4;obtain⟨b,off,s⟩:=a;simp only at c4;obtain⟨rfl,hb⟩:=c4;have rows:∀ q j,j+q=len->∃ rows:List (List Tree),rows.length=q∧TRows w (Here w) rows b (off+j*P.cellsOf e) (P.cellsOf e)∧MuRows row rows∧∀ K:Bk H,Cs rows<=K.a ((elems.map (·.1)).drop j):=by
    intro q
    induction q with
    |zero=>intro j _;exact⟨[],rfl,by simp[TRows],.nil,fun K=>by simp[Cs]⟩
    |succ q ihq=>
     intro j hj;obtain⟨rows,g1,g2,g3,k3⟩:=ihq (j+1) (by omega);obtain⟨csj,y,g4,g5,gy⟩:=each j (by omega);obtain⟨ts,g6,g7,_,k6⟩:=one m (by omega) _ _ g5;obtain⟨_,g8,g9⟩:=World.cells?_some g4;refine⟨ts::rows,by simp[g1],?_,.cons g7 g3,fun K=>by have:=k3 K;have:=k6 K;rw[K.drop gy,Cs];omega⟩;simp only[TRows];refine⟨(TRl.length _ _ g6).trans g8,QB _ _ _ _ g6 fun i hi=>?_,?_⟩
     ·rw[<- g9 i (by omega),addr_add,addr_add]
     ·rw[show off+j*P.cellsOf e+P.cellsOf e=off+(j+1)*P.cellsOf e by rw[Nat.add_mul];omega];exact g2
   obtain⟨rows,g1,g2,g3,k3⟩:=rows len 0 (by omega);refine⟨.sl rows,?_,.mk rows (by omega) g3,fun K=>by have:=k3 K;rw[List.drop_zero]at this;rw[K.sl,tbk];omega⟩;simp only[TRl,TR];exact⟨.inr ⟨b,off,cap,P.cellsOf e,by rw[g1],by omega,hb,by simpa using g2⟩,trivial⟩
theorem xV {cut:List TypeId}:∀ (n:Nat) (t:TypeId) (sh:List CS),shp P cut n t=some sh->∀ (fuel:Nat) (cs:List Value) (x:DataW H×List MemPlace),DataW.trod enc P w 0 sp held fuel t cs=some x->Szd P t x->
 ∃ ts,TRl w (Here w) ts cs∧FitL sh ts∧∀ K:Bk H,jl ts<=K.b x.1
 | 0,_,_,h,_,_,_,_,_=>by simp[shp]at h
 |n+1,t,sh,h,fuel,cs,x,hx,hz=>by
  unfold shp at h;split at h
  ·rename_i k hk;injection h with h;subst h;obtain⟨v,rfl,rfl,hw⟩:=DataW.trod_int hk hx;exact⟨[.sc (.int k v)],by simp[TRl,TR,oneCell],by simp only[FitL,Fit];exact⟨⟨v,rfl,hw⟩,trivial⟩,fun K=>by simp[jl,tbk,K.int]⟩
  ·rename_i hk;injection h with h;subst h;obtain⟨v,rfl,rfl⟩:=DataW.trod_bool hk hx;exact⟨[.sc (.bool v)],by simp[TRl,TR,oneCell],by simp only[FitL,Fit];exact⟨⟨v,rfl⟩,trivial⟩,fun K=>by simp[jl,tbk,K.bool]⟩
  ·rename_i hk;injection h with h;subst h;obtain⟨v,rfl,rfl,hw⟩:=DataW.trod_string hk hx;exact⟨[.sc (.string v)],by simp[TRl,TR,oneCell],by simp only[FitL,Fit];exact⟨⟨v,rfl,hw⟩,trivial⟩,fun K=>by simp[jl,tbk,K.str,bsize]⟩
  ·rename_i e hk;split at h
   ·split at h
    ·rename_i row hmr;injection h with h;subst h;obtain⟨tr,g1,g2,k1⟩:=abp hk hmr fuel cs x hx;exact⟨[tr],g1,by simp only[FitL,Fit];exact⟨g2,trivial⟩,fun K=>by have:=k1 K;simp only[jl];omega⟩
    injection h with h;subst h;rcases DataW.trod_slice hk hx with ⟨rfl,rfl⟩ |⟨a,len,cap,elems,rest,m,_,rfl,rfl,_,hl,hm,hlen,hel,_,_⟩
    ·exact⟨[.sc (.slice none 0 0)],by simp[TRl,TR,oneCell],by simp[FitL,Fit],fun K=>by simp[jl,tbk,K.nil]⟩
    ·exact⟨[.sc (.slice (some a) len cap)],by simp[TRl,TR,oneCell],by simp[FitL,Fit],fun K=>by simp[jl,tbk,K.sl]⟩
   simp only[ai]at h;obtain⟨r,h1,h2⟩:=h;split at h2
   ·rename_i hr;injection h2 with h2;subst h2;rcases DataW.trod_slice hk hx with ⟨rfl,rfl⟩ |⟨a,len,cap,elems,rest,m,_,rfl,rfl,_,hl,hm,hlen,hel,_,_⟩
    ·refine⟨[.sl []],?_,by simp only[FitL,Fit];exact⟨⟨[],rfl,by simp[maxLen],by simp⟩,trivial⟩,fun K=>by simp[jl,tbk,Cs,K.nil]⟩;simp only[TRl,TR];exact⟨.inl ⟨trivial,none,0,rfl,fun _=>rfl⟩,trivial⟩
    ·have hzw:∀ k,k=(elems.length+rest.length)*P.bytesOf e∨k∈DataW.weightsAll P e (elems.map (·.1))->k<=reachBytes:=by
      intro k hkk;refine hz k ?_;simp only[DataW.weights,hk,mem_cons,mem_append,length_map];rcases hkk with h |h
      ·exact .inl h
      ·exact .inr (.inl h)
     have each:∀ i,i < len->∃ csi y,w.cells? 0 (a.add (i*P.cellsOf e)) (P.cellsOf e)=some csi∧DataW.trod enc P w 0 sp held m e csi=some y∧Szd P e y∧elems[i]? =some y:=by
      intro i hi;have h3:=hel i hi;have h6:elems[i]? =some (elems[i]'(by omega)):=List.getElem?_eq_getElem (by omega);rw[h6,ai]at h3;obtain⟨csi,h4,h5⟩:=h3;exact⟨csi,_,h4,h5,fun k hk=>hzw k (.inr (rW (mem_map.2 ⟨_,List.getElem_mem (by omega),rfl⟩) k hk)),h6⟩
     have hbytes:len*abo r<=reachBytes:=by
      have h1:=hzw _ (.inl rfl);have h2:len*abo r<=(elems.length+rest.length)*P.bytesOf e:=Nat.mul_le_mul (by omega) hr.2.2;omega
     by_cases h0:len=0
     ·subst h0;refine⟨[.sl []],?_,by simp only[FitL,Fit];exact⟨⟨[],rfl,by simp[maxLen],by simp⟩,trivial⟩,fun K=>by simp[jl,tbk,Cs,K.sl]⟩;simp only[TRl,TR];exact⟨.inl ⟨trivial,some a,cap,rfl,fun h=>by cases h⟩,trivial⟩
     ·obtain⟨cs0,y0,c0,_,_,_⟩:=each 0 (by omega);obtain⟨_,c1,c2⟩:=World.cells?_some c0;have c3:=c2 0 (by omega);rw[List.getElem?_eq_getElem (by omega)]at c3;have c4:=OO c3;simp only[Nat.zero_mul,Addr.add,if_true]at c4;obtain⟨b,off,s⟩:=a;simp only at c4;obtain⟨rfl,hb⟩:=c4;have rows:∀ m j,j+m=len->∃ rows:List (List Tree),rows.length=m∧TRows w (Here w) rows b (off+j*P.cellsOf e) (P.cellsOf e)∧(∀ x∈rows,FitL r x)∧∀ K:Bk H,Cs rows<=K.a ((elems.map (·.1)).drop j):=by
       intro m
       induction m with
       |zero=>intro j _;exact⟨[],rfl,by simp[TRows],by simp,fun K=>by simp[Cs]⟩
       |succ m ih=>
        intro j hj;obtain⟨rows,g1,g2,g3,k3⟩:=ih (j+1) (by omega);obtain⟨csj,y,g4,g5,g5z,gy⟩:=each j (by omega);obtain⟨ts,g6,g7,k6⟩:=xV n e r h1 _ _ _ g5 g5z;obtain⟨_,g8,g9⟩:=World.cells?_some g4;refine⟨ts::rows,by simp[g1],?_,fun x hx=>?_,fun K=>by have:=k3 K;have:=k6 K;rw[K.drop gy,Cs];omega⟩
        ·simp only[TRows];refine⟨(TRl.length _ _ g6).trans g8,QB _ _ _ _ g6 fun i hi=>?_,?_⟩
         ·rw[<- g9 i (by omega),addr_add,addr_add]
         ·rw[show off+j*P.cellsOf e+P.cellsOf e=off+(j+1)*P.cellsOf e by rw[Nat.add_mul];omega];exact g2
        ·rcases mem_cons.1 hx with rfl |hx
         ·exact g7
         ·exact g3 x hx
      obtain⟨rows,g1,g2,g3,k3⟩:=rows len 0 (by omega);refine⟨[.sl rows],?_,by simp only[FitL,Fit];exact⟨⟨rows,rfl,⟨by omega,by rw[g1];exact hbytes⟩,g3⟩,trivial⟩,fun K=>by have:=k3 K;rw[List.drop_zero]at this;rw[K.sl];simp only[jl,tbk];omega⟩;simp only[TRl,TR];exact⟨.inr ⟨b,off,cap,P.cellsOf e,by rw[g1],by omega,hb,by simpa using g2⟩,trivial⟩
   ·cases h2
  ·rename_i fs hk;simp only[ai]at h;obtain⟨r,h1,h2⟩:=h;split at h2
   ·rename_i hr;injection h2 with h2;subst h2;obtain⟨xs,m,_,rfl,hl,hxs,hf⟩:=DataW.trod_struct hk hx;obtain⟨ts,g1,g2,k1⟩:=Iz m cs (shp P cut n) (fun t sh hsh cs x hx hz=>xV n t sh hsh m cs x hx hz) fs.toList xs 0 r h1 (by simpa using hxs) (fun i f x hi hxi=>by
     have hi':fs[i]? =some f:=(by simpa using hi);have:=hf i f hi';rw[hxi]at this;refine⟨this,fun k hk'=>hz k ?_⟩;simp only[DataW.weights,hk];exact DataW.weights_mem_each (j:=i) (t:=f.type) (d:=x.1) (by simp[hi']) (by simp[hxi]) k hk')
    refine⟨ts,?_,g2,fun K=>by have:=k1 K;rw[K.agg];omega⟩;rw[List.drop_zero,take_of_length_le (by omega)]at g1;exact g1
   ·cases h2
  ·rename_i m e hk;simp only[ai]at h;obtain⟨r,h1,h2⟩:=h;split at h2
   ·rename_i hr;injection h2 with h2;subst h2;obtain⟨xs,q,_,rfl,hl,hxs,hf⟩:=DataW.trod_array hk hx;have part:∀ i j,j+i=m->∃ ts,TRl w (Here w) ts (cs.drop (j*P.cellsOf e))∧FitL (List.replicate i r).flatten ts∧∀ K:Bk H,jl ts<=K.a ((xs.map (·.1)).drop j):=by
     intro i
     induction i with
     |zero=>
      intro j hj;refine⟨[],?_,by simp[FitL],fun K=>by simp[jl]⟩;have:j=m:=(by omega);subst this;rw[List.drop_of_length_le (by rw[hl,<- hr.2,<- hr.1];omega)];simp[TRl]
     |succ i ih=>
      intro j hj;obtain⟨ts,g1,g2,k1⟩:=ih (j+1) (by omega);have:=hf j (by omega);have hxj:xs[j]? =some (xs[j]'(by omega)):=List.getElem?_eq_getElem (by omega);rw[hxj]at this;obtain⟨ts0,g3,g4,k3⟩:=xV n e r h1 _ _ _ this (fun k hk'=>hz k (by
       simp only[DataW.weights,hk];exact rW (mem_map.2 ⟨_,List.getElem_mem (by omega),rfl⟩) k hk'))
      refine⟨ts0++ts,?_,?_,fun K=>by have:=k1 K;have:=k3 K;rw[K.drop hxj,uG];omega⟩
      ·have:=TRl.append _ _ g3 g1;rw[show (j+1)*P.cellsOf e=j*P.cellsOf e+P.cellsOf e by rw[Nat.add_mul];omega,<- List.drop_drop,List.take_append_drop]at this;exact this
      ·rw[List.replicate_succ,flatten_cons];exact FitL.append _ _ g4 g2
    obtain⟨ts,g1,g2,k1⟩:=part m 0 (by omega);exact⟨ts,by simpa using g1,g2,fun K=>by have:=k1 K;rw[List.drop_zero]at this;rw[K.agg];omega⟩
   ·cases h2
  ·cases h
inductive VS where
 |one (c:CS)
 |agg (cs:List CS)
def ZM (P:Program) (cut:List TypeId) (t:TypeId):Option VS:=
 (shp P cut 12 t).bind fun sh=>match P.underlying t with
  |some (.struct _) |some (.array _ _)=>some (.agg sh)
  |_=>match sh with
   |[c]=>some (.one c)
   |_=>none
def Yh:VS->TV->Prop
 | .one c,x=>∃ y,x= .s y∧Fit c y
 | .agg cs,x=>∃ ys,x= .a ys∧FitL cs ys
def KW:List VS->List TV->Prop
 |[],[]=>True
 |s::ss,x::xs=>Yh s x∧KW ss xs
 |_,_=>False
def tvB:TV->Nat
 | .s y=>tbk y
 | .a ys=>jl ys
def KX:List TV->Nat
 |[]=>0
 |x::xs=>tvB x+KX xs
theorem ZN {cut:List TypeId} {t:TypeId} {s:VS} {v:Value} {d:DataW H} {ps:List MemPlace} {b0:Nat} (hs:ZM P cut t=some s) (hval:Value.okWide P w .any b0 t v) (hd:DataW.Trod enc P w 0 sp held t v d ps) (hz:∀ k∈d.weights P t,k<=reachBytes):
 ∃ x,TVR w (Here w) x v∧Yh s x∧∀ K:Bk H,tvB x<=K.b d:=by
 obtain⟨fuel,hf⟩:=hd;simp only[ZM,ai]at hs;obtain⟨sh,h1,h2⟩:=hs;obtain⟨ts,g1,g2,k1⟩:=xV 12 t sh h1 _ _ _ hf hz;have hag:∀ cs:Array Value,v= .agg cs->s= .agg sh->∃ x,TVR w (Here w) x v∧Yh s x∧∀ K:Bk H,tvB x<=K.b d:=by
  rintro cs rfl rfl;exact⟨.a ts,⟨cs,rfl,by simpa[Value.cells]using g1⟩,⟨ts,rfl,g2⟩,k1⟩
 unfold Value.okWide at hval;split at h2
 ·rename_i hu;injection h2 with h2;rw[hu]at hval;obtain⟨cs,rfl,_⟩:=hval;exact hag cs rfl h2.symm
 ·rename_i hu;injection h2 with h2;rw[hu]at hval;obtain⟨cs,rfl,_⟩:=hval;exact hag cs rfl h2.symm
 ·rename_i hu1 hu2;split at h2
  ·rename_i c;injection h2 with h2;subst h2;have hone:v.cells.toList=[v]:=by
    cases hu:P.underlying t with
    |none=>rw[hu]at hval;simp[Cell.okWide,Cell.ok,hu]at hval
    |some d=>
     rw[hu]at hval;cases v<;>first |rfl |(exfalso;revert hval;cases d<;>simp_all [Cell.okWide,Cell.ok])
   rw[hone]at g1
   match ts,g1,g2,k1 with
   |[y],g1,g2,k1=>
    simp only[FitL]at g2;exact⟨.s y,g1.1,⟨y,rfl,g2.1⟩,fun K=>by have:=k1 K;simpa[jl,tvB]using this⟩
   |[],g1,_,_=>exact g1.elim
   |_::_::_,g1,_,_=>exact g1.2.elim
  ·cases h2
theorem OQ {cut:List TypeId}:∀ {ts:List TypeId} {ss:List VS} {vs:List Value} {ds:List (DataW H)} {ps:List MemPlace} {b0:Nat},ts.mapM (ZM P cut)=some ss->
 (∀ (j:Nat) t v,ts[j]? =some t->vs[j]? =some v->Value.okWide P w .any b0 t v)->DataW.TrodAll enc P w 0 sp held ts vs ds ps->(∀ k∈DataW.weightsEach P ts ds,k<=reachBytes)->∃ xs,TVRs w (Here w) xs vs∧KW ss xs∧∀ K:Bk H,KX xs<=K.a ds
 |[],ss,vs,ds,ps,b0,hs,_,hd,_=>by
  obtain⟨rfl,rfl,rfl⟩:=trodAll_nil hd;simp only[List.mapM_nil,Option.pure_def,Option.some.injEq]at hs;subst hs;exact⟨[],trivial,trivial,fun K=>by simp[KX]⟩
 |t::ts,ss,vs,ds,ps,b0,hs,hval,hd,hz=>by
  obtain⟨v,vs',d,ds',p,q,rfl,rfl,rfl,h0,r0⟩:=trodAll_cons hd;simp only[List.mapM_cons,Option.bind_eq_bind,ai,Option.pure_def,Option.some.injEq]at hs;obtain⟨s,h1,ss',h2,rfl⟩:=hs;obtain⟨x,g1,g2,k1⟩:=ZN h1 (hval 0 t v rfl rfl) h0 (fun k hk=>hz k (by simp only[DataW.weightsEach,mem_append];exact .inl hk));obtain⟨xs,g3,g4,k2⟩:=OQ h2 (fun j t v h h'=>hval (j+1) t v h h') r0 (fun k hk=>hz k (by simp only[DataW.weightsEach,mem_append];exact .inr hk));exact⟨x::xs,⟨g1,g3⟩,⟨g2,g4⟩,fun K=>by have:=k1 K;have:=k2 K;rw[KX,K.a1];omega⟩
theorem IA {β:Nat->Option Blk} {I:Nat->Prop}:∀ (xs:List TV) (vs:List Value),TVRs w I xs vs->VRl P β w I (xs.map TV.av) vs
 |[],[],_=>by simp[VRl]
 |x::xs,v::vs,h=>by
  simp only[map_cons,VRl];refine⟨?_,IA xs vs h.2⟩;have h1:=h.1;cases x with
  |s y=>simp only[TV.av,VR];exact h1
  |a cs=>
   obtain⟨us,rfl,h2⟩:=h1;simp only[TV.av,VR];refine⟨us,rfl,?_⟩;have:∀ (cs:List Tree) (us:List Value),TRl w I cs us->VRl P β w I (cs.map AV.t) us:=by
    intro cs
    induction cs with
    |nil=>intro us h;cases us<;>first |(simp [VRl];done) |exact h.elim
    |cons c cs ih=>intro us h;cases us with
     |nil=>exact h.elim
     |cons u us=>simp only[map_cons,VRl,VR];exact⟨h.1,ih us h.2⟩
   exact this cs us.toList h2
 |[],_::_,h=>h.elim
 |_::_,[],h=>h.elim
end
section
variable {H:Type} {enc:TypeId×Value->H} {P:Program}
theorem Vh {f:Func} {s:ChangeSpec} {apart fresh handsOn again:Bool} {W W':World} {args:Array Value} {v:Value} {ds gs:List (DataW H)} {before pa pv:List MemPlace}
 (hW:DataW.Whole enc P f.params.toList s.vars apart W args.toList ds gs before)
 (hres:∀ (b:Nat) (sp:Nat->Bool) (hd:Bool),DataW.TrodAll enc P W' b sp hd f.resultTypes.toList (v.resultList f.resultTypes.size) (s.fn H (ds++gs)).results [])
 (hargs:∀ sp:Nat->Bool,(∀ p∈before,sp p.block=true)->DataW.TrodAll enc P W' 0 sp true f.params.toList args.toList (s.fn H (ds++gs)).args pa)
 (hvars:∀ sp:Nat->Bool,(∀ p∈before,sp p.block=true)->DataW.TrodVars enc P W' sp s.vars (s.fn H (ds++gs)).vars pv)
 (hps:before=pa++pv) (hb:Below W.heap.size W W')
 (hok:∀ (j:Nat) (t:TypeId) (r:Value),f.resultTypes[j]? =some t->(v.resultList f.resultTypes.size)[j]? =some r->Value.okWide P W' .any 0 t r):
 s.post enc P f apart fresh handsOn again W args v W':=by
 have hlt:∀ p∈before,p.block < W.heap.size:=fun p hp=>hW.lt p hp;have hold:∀ p∈before,(fun b=>decide (b < W.heap.size)) p.block=true:=fun p hp=>by simpa using hlt p hp
 refine⟨ds,gs,before,[],pa,pv,hW,hres _ _ _,hargs _ hold,hvars _ hold,World.keptBut_mono (fun p hp=>⟨hp,?_⟩) (hb.frame (· ∈before)),fun _=>?_⟩
 ·rw[hps,mem_append]at hp;exact Or.inr hp
 ·obtain⟨_,_,_,_,_,hz,hn⟩:=hW;refine⟨hok,_,_,([]++pa)++pv,⟨[]++pa,pv,trodAll_append (hargs _ (fun _ _=>rfl)) (hres _ _ _),hvars _ (fun _ _=>rfl),rfl,?_,?_⟩,?_⟩
  ·intro b off hp;have hin:MemPlace.cell b off∈before:=(by rw[hps];simpa using hp);rw[hb.frozen (hlt _ hin)];exact hz b off hin
  ·intro ha;have:=hn ha;rw[hps]at this;simpa using this
  ·intro p hp _;rw[hps];simpa using hp
theorem Di (hl:laidOutB P=true) {W W':World} (hb:Below W.heap.size W W'):∀ {ts:List TypeId} {vs:List Value} {ds:List (DataW H)} {ps:List MemPlace},(∀ t∈ts,P.readableRec t=true∧t < P.types.size)->
 DataW.TrodAll enc P W 0 (fun _=>true) true ts vs ds ps->(∀ x∈ps,x.block < W.heap.size)->∀ sp:Nat->Bool,(∀ p∈ps,sp p.block=true)->DataW.TrodAll enc P W' 0 sp true ts vs ds ps
 |[],vs,ds,ps,_,hd,_,sp,_=>by
  obtain⟨rfl,rfl,rfl⟩:=trodAll_nil hd;exact trodAll_mk0
 |t::ts,vs,ds,ps,ht,hd,hlt,sp,hsp=>by
  obtain⟨v,vs',d,ds',p,q,rfl,rfl,rfl,h0,r0⟩:=trodAll_cons hd;obtain⟨h1,h2⟩:=ht t (by simp)
  exact trodAll_cons_mk (WideElems.Trod_stays hl h1 h2 h0 (fun x hx=>hb.same (hlt x (by simp[hx]))) (fun x hx=>hsp x (by simp[hx])))
   (Di hl hb (fun t ht'=>ht t (by simp[ht'])) r0 (fun x hx=>hlt x (by simp[hx])) sp (fun x hx=>hsp x (by simp[hx])))
theorem IB {w:World} {base:Nat} {sp:Nat->Bool} {held:Bool}:∀ {ts:List TypeId} {vs:List Value} {ds:List (DataW H)} {ps:List MemPlace},DataW.TrodAll enc P w base sp held ts vs ds ps->ds.length=ts.length
 |[],_,_,_,h=>by
  obtain⟨_,rfl,_⟩:=trodAll_nil h;rfl
 |_::_,_,_,_,h=>by
  obtain⟨_,_,_,_,_,_,_,rfl,_,_,h2⟩:=trodAll_cons h;simp[IB h2]
theorem Sn:∀ {ts:List TypeId} {ds:List (DataW H)} {vt:List TypeId} {gs:List (DataW H)},ds.length=ts.length->∀ k∈DataW.weightsEach P ts ds,k∈DataW.weightsEach P (ts++vt) (ds++gs)
 |[],[],_,_,_,k,h=>by simp[DataW.weightsEach]at h
 |t::ts,d::ds,vt,gs,hl,k,h=>by
  simp only[DataW.weightsEach,mem_append,cons_append]at h ⊢;rcases h with h |h
  ·exact .inl h
  ·exact .inr (Sn (by simpa using hl) k h)
 |[],_::_,_,_,h,_,_=>by simp at h
 |_::_,[],_,_,h,_,_=>by simp at h
theorem QC {cut:List TypeId} {C:Checked} {f:FuncId} {fn:Func} {s:ChangeSpec} {ss:List VS} {tb:TypeId} (hl:laidOutB C.prog=true) (hread:(fn.params.toList.all fun t=>C.prog.readableRec t&&decide (t < C.prog.types.size))=true)
 (hss:fn.params.toList.mapM (ZM C.prog cut)=some ss) (hvars:s.vars=[]) (hres:fn.resultTypes=#[tb]) (hb:C.prog.underlying tb=some .bool)
 (hs:∀ ds:List (DataW H),ds.length=fn.params.toList.length->s.fn H ds={ results:=[.lit (.bool true)],args:=ds })
 {B:Nat->Prop} (hlaw:∀ xs,KW ss xs->(∀ n,B n->KX xs<=n)->FnP C.prog f (xs.map TV.av) (.one (.d (.s (.sc (.bool true))))))
 {W:World} {base:Nat} {args:Array Value} {ds gs:List (DataW H)} {before:List MemPlace}
 (hval:∀ (j:Nat) t v,fn.params[j]? =some t->args[j]? =some v->Value.okWide C.prog W .any base t v)
 (hW:DataW.Whole enc C.prog fn.params.toList s.vars false W args.toList ds gs before)
 {vt:List TypeId} (hz:(DataW.weightsEach C.prog (fn.params.toList++vt) (ds++gs)).all (· <=reachBytes)=true) (hv:VarsOk W (Here W)) (hB:∀ n,B n->∃ K:Bk H,K.a ds<=n):
 Calls C.prog f args W fun e W'=>∃ v,e= .returned v∧s.post enc C.prog fn false true false false W args v W':=by
 have hW':=hW;obtain⟨p,q,hA,hV,rfl,_,_⟩:=hW;rw[hvars]at hV;obtain⟨rfl,rfl⟩:=trodVars_none hV;have hlen:=IB hA;obtain⟨xs,g1,g2,g3⟩:=OQ hss (fun j t v h1 h2=>hval j t v (by simpa using h1) (by simpa using h2)) hA (fun k hk=>by
  have:=all_eq_true.1 hz k (Sn hlen k hk);simpa using this)
 simp only[append_nil]at hW';have hlt:∀ x∈p,x.block < W.heap.size:=fun x hx=>hW'.lt x hx;refine ((hlaw xs g2 (fun n hn=>by obtain⟨K,hK⟩:=hB n hn;exact Nat.le_trans (g3 K) hK)).2 W (Here W) args (fun _ h=>h) hv (IA _ _ g1)).mono fun e W' ⟨v,I',he,hbel,_,_,_,hr⟩=>⟨v,he,?_⟩;simp only[RVR,RCR,TVR,TR]at hr;obtain⟨rfl,_⟩:=hr;have hfn:s.fn H (ds++[])={ results:=[.lit (.bool true)],args:=ds }:=by rw[append_nil];exact hs ds hlen
 refine Vh (pa:=p) (pv:=[]) hW' (fun b sp hd=>?_) (fun sp hsp=>?_) (fun sp _=>?_) (by simp) hbel (ok_one (by rw[hres]) rfl (okWide_bool_mk hb _))
 ·rw[hfn,hres];exact trodAll_mk1 (shut_bool hb _)
 ·rw[hfn];refine Di hl hbel (fun t ht=>?_) hA hlt sp hsp;have:=all_eq_true.1 hread t ht;simpa using this
 ·rw[hfn,hvars];rfl
end
def acu:TyK->TypeDesc->Bool
 | .slice e,.slice e'=>e==e'
 | .arr n e,.array n' e'=>n==n'&&e==e'
 | .struct fs,.struct fa=>fa.toList.map (fun f=>(f.offset,f.type))==fs
 | .bool,.bool=>true
 | .str,.string=>true
 | .int k,.int k'=>k==k'
 | .map k e,.map k' e'=>k==k'&&e==e'
 | .other,_=>true
 |_,_=>false
def ZO:Value->Value->Bool
 | .int k a,.int k' b=>k==k'&&a==b
 | .bool a,.bool b=>a==b
 | .string a,.string b=>decide (a=b)
 | .slice none 0 0,.slice none 0 0=>true
 | .pointer none,.pointer none=>true
 | .nilFunc,.nilFunc=>true
 | .nilIface,.nilIface=>true
 | .map none,.map none=>true
 |_,_=>false
theorem Sq {a b:Value} (h:ZO a b=true):a=b:=by
 unfold ZO at h;split at h<;>simp_all
def GA:List Value->List Value->Bool
 |[],[]=>true
 |a::as,b::bs=>ZO a b&&GA as bs
 |_,_=>false
theorem EK:∀ {a b:List Value},GA a b=true->a=b
 |[],[],_=>rfl
 |a::as,b::bs,h=>by simp only[GA,and_eq_true]at h;rw[Sq h.1,EK h.2]
 |[],_::_,h=>by simp[GA]at h
 |_::_,[],h=>by simp[GA]at h
def ZP (P:Program) (t:TypeId) (ti:TyI):Bool:=
 match P.info? t,P.underlying t with
 |some info,some d=>match info.zero with
  |some z=>info.size==ti.size&&info.bytes==ti.bytes&&isAggD d==ti.agg&&acu ti.k d&&ti.zero.all oneCellB&&ti.zero.length==ti.size&&
   (ti.cmp.isEmpty || match d with
    | .struct fa=>!P.stoodInHeld t&&!P.eqGuardType P.depth t&&cmpFields P 0 fa.toList ti.cmp
    | .array _ _=>ti.cmp==[9]&&!P.eqGuardType P.depth t
    |_=>false)&&GA z.cells.toList ti.zero&&zForm ti.agg z
  |none=>false
 |_,_=>false
theorem Vi {k:TyK} {d:TypeDesc} (h:acu k d=true):kOk k d:=by
 unfold acu at h;split at h
 ·simp only[beq_iff_eq]at h;subst h;rfl
 ·simp only[and_eq_true,beq_iff_eq]at h;obtain⟨rfl,rfl⟩:=h;rfl
 ·rename_i fs fa;exact⟨fa,rfl,by simpa using h⟩
 ·rfl
 ·rfl
 ·simp only[beq_iff_eq]at h;subst h;rfl
 ·simp only[and_eq_true,beq_iff_eq]at h;obtain⟨rfl,rfl⟩:=h;rfl
 ·trivial
 ·cases h
theorem Sr {P:Program} {t:TypeId} {ti:TyI} (h:ZP P t ti=true):TyOk P t ti:=by
 unfold ZP at h;split at h
 ·rename_i info d h1 h2;split at h
  ·rename_i z h3;simp only[and_eq_true,beq_iff_eq]at h;obtain⟨⟨⟨⟨⟨⟨⟨⟨a1,a2⟩,a3⟩,a4⟩,a5⟩,a6⟩,a7⟩,a8⟩,a9⟩:=h;refine⟨⟨info,d,z,h1,h2,a1,a2,h3,EK a8,a3,Vi a4⟩,a5,a6,fun info' z' e1 e2=>by rw[h1]at e1;injection e1 with e1;subst e1;rw[h3]at e2;injection e2 with e2;subst e2;exact a9,fun hne=>?_⟩;simp only[Bool.or_eq_true]at a7;rcases a7 with a7 |a7
   ·exact absurd (List.isEmpty_iff.1 a7) hne
   ·split at a7
    ·rename_i fa;simp only[and_eq_true,Bool.not_eq_true']at a7;exact .inl ⟨fa,h2,a7.1.1,a7.1.2,a7.2⟩
    ·simp only[and_eq_true,Bool.not_eq_true',beq_iff_eq]at a7;exact .inr a7
    ·cases a7
  ·cases h
 ·cases h
def KY (l:List (TypeId×TyI)):Tab:=fun t=>(l.find? fun p=>p.1==t).map (·.2)
theorem ZQ {P:Program} {l:List (TypeId×TyI)} (h:(l.all fun p=>ZP P p.1 p.2)=true):bI P (KY l):=by
 intro t ti ht;simp only[KY,Option.map_eq_some_iff]at ht;obtain⟨p,hp,rfl⟩:=ht;have h1:=List.find?_some hp;simp only[beq_iff_eq]at h1;subst h1;exact Sr (all_eq_true.1 h p (List.mem_of_find?_eq_some hp))
open Go.RowKit
inductive CT (ι:Type) where
 |int (k:IntKind)
 |bool
 |str
 |sl (e:CT ι)
 |st (i:ι)
 |any
 |mp (k v:CT ι)
 deriving DecidableEq
structure SE where
 ι:Type
 dec:DecidableEq ι
 T:ι->Type
 row:(i:ι)->T i->List Tree
instance (E:SE):DecidableEq E.ι:=E.dec
section
variable (E:SE)
@[reducible] def CT.T:CT E.ι->Type
 | .int _=>Int
 | .bool=>Bool
 | .str=>ByteArray
 | .sl e=>List (CT.T e)
 | .st i=>E.T i
 | .any=>Tree
 | .mp k v=>List (CT.T k×CT.T v)
def CT.row:(c:CT E.ι)->CT.T E c->List Tree
 | .int k,n=>[.sc (.int k n)]
 | .bool,b=>[.sc (.bool b)]
 | .str,s=>[.sc (.string s)]
 | .sl e,l=>[.sl (List.map (CT.row e) l)]
 | .st i,x=>E.row i x
 | .any,x=>[x]
 | .mp _ _,_=>[.sl []]
def CT.one {ι:Type}:CT ι->Bool
 | .st _=>false
 |_=>true
def CT.tv:(c:CT E.ι)->CT.T E c->TV
 | .int k,n=> .s (.sc (.int k n))
 | .bool,b=> .s (.sc (.bool b))
 | .str,s=> .s (.sc (.string s))
 | .sl e,l=> .s (.sl (List.map (CT.row E e) l))
 | .st i,x=> .a (E.row i x)
 | .any,x=> .s x
 | .mp _ _,_=> .s (.sl [])
def HL:List (CT E.ι)->Type
 |[]=>Unit
 |c::l=>CT.T E c×HL l
def HL.row:(l:List (CT E.ι))->HL E l->List Tree
 |[],_=>[]
 |c::l,h=>CT.row E c h.1++HL.row l h.2
def HL.tvs:(l:List (CT E.ι))->HL E l->List TV
 |[],_=>[]
 |c::l,h=>CT.tv E c h.1::HL.tvs l h.2
end
structure Arr (E:SE) where
 i:E.ι
 c:CT E.ι
 f:E.T i->List (CT.T E c)
 g:List (CT.T E c)->Option (E.T i)
structure SX extends SE where
 tys:ι->List (CT ι)
 get:(i:ι)->T i->HL toSE (tys i)
 make:(i:ι)->HL toSE (tys i)->T i
 row_get:∀ i x,row i x=HL.row toSE (tys i) (get i x)
 row_make:∀ i h,row i (make i h)=HL.row toSE (tys i) h
 flat:∀ i,(tys i).all CT.one=true
 gv:Nat->Option ((c:CT ι)×CT.T toSE c)
 gv_ok:∀ g,(gv g).map (fun p=>CT.row toSE p.1 p.2)=(gvar g).map fun r=>r.map Tree.sc
 ar:TypeId->Option (Arr toSE):=fun _=>none
 ar_ok:∀ t a,ar t=some a->a.c.one=true∧(∀ x,row a.i x=((a.f x).map (CT.row toSE a.c)).flatten)∧∀ l x,a.g l=some x->a.f x=l:=by intro t a h;cases h
section
variable (X:SX)
abbrev SX.C:=CT X.ι
abbrev SX.t (c:CT X.ι):Type:=CT.T X.toSE c
def CT.sz:CT X.ι->Nat
 | .st i=>(X.tys i).length
 |_=>1
inductive DV where
 |c (t:CT X.ι) (x:CT.T X.toSE t)
 |agg (cs:List DV)
 |tup (vs:List DV)
 |own (k off len:Nat)
 |ptr (k row off:Nat)
 |ptl (k:Nat) (n:Int) (off:Nat)
 |pta (k row off m:Nat) (n:Int)
 |rp (t:CT X.ι) (x:CT.T X.toSE t) (off:Nat)
 |rpa (t:CT X.ι) (x:CT.T X.toSE t) (off m:Nat) (n:Int)
 |fn (f:FuncId) (first caps:List DV)
 |clo (as:List (CT X.ι)) (r:CT X.ι) (φ:HL X.toSE as->Option (CT.T X.toSE r))
 |mp (k:Nat)
 |oz (k len:Nat)
 |raw (v:Value)
 |nil
 |ub
 |skip
 |undef
inductive DObj where
 |cells (sz:Nat) (rows:List (List (DV X)))
 |lst (c:CT X.ι) (l:List (CT.T X.toSE c))
 |map (kc vc:CT X.ι) (l:List (CT.T X.toSE kc×CT.T X.toSE vc))
structure DSt where
 env:List (Nat×DV X)
 obj:List (Nat×Option (DObj X))
 nx:Nat
 log:List Nat
variable {X}
mutual
def den:DV X->AV
 | .c t x=>(CT.tv X.toSE t x).av
 | .agg cs=> .agg (aI cs)
 | .tup vs=> .tup (aI vs)
 | .own k off len=> .own k off len
 | .ptr k row off=> .ptr k row off
 | .ptl k n off=> .ptr k n.toNat off
 | .pta k row off _ n=> .ptr k row (off+n.toNat)
 | .rp t x off=> .rptr (CT.row X.toSE t x) off
 | .rpa t x off _ n=> .rptr (CT.row X.toSE t x) (off+n.toNat)
 | .fn f first caps=> .fn f (aI first) (aI caps)
 | .clo as r φ=> .clo fun ts u=>∃ h x,φ h=some x∧ts=HL.tvs X.toSE as h∧u=CT.tv X.toSE r x
 | .mp k=> .mp k
 | .oz k len=> .oz k len
 | .raw v=>cv v
 | .nil=> .nilsl
 | .ub=> .ub
 | .skip=> .undef
 | .undef=> .undef
def aI:List (DV X)->List AV
 |[]=>[]
 |x::xs=>den x::aI xs
end
theorem jm:∀ l:List (DV X),aI l=l.map den
 |[]=>rfl
 |x::xs=>by simp only[aI,map_cons,jm xs]
def aH:DObj X->aF
 | .cells sz rows=>⟨sz,rows.map aI⟩
 | .lst c l=>⟨CT.sz X c,ay (l.map (CT.row X.toSE c))⟩
 | .map kc vc l=>⟨l.length,l.map fun p=>[(CT.tv X.toSE kc p.1).av,(CT.tv X.toSE vc p.2).av]⟩
def dh (u:List (Nat×Option (DObj X))):List (Nat×Option aF):=u.map fun p=>(p.1,p.2.map aH)
def lko (o:List (Nat×Option (DObj X))) (k:Nat):Option (DObj X):=(lk o k).join
def lke (e:List (Nat×DV X)) (t:Nat):DV X:=(lk e t).getD .undef
def DSt.st (s:DSt X):St:=⟨fun t=>den (lke s.env t),fun k=>(lko s.obj k).map aH,fun _=>none⟩
def bZ (a b:CT X.ι) (x:CT.T X.toSE a):Option (CT.T X.toSE b):=
 match decEq a b with
 |isTrue h=>some (h ▸ x)
 |isFalse _=>none
theorem ic {a b:CT X.ι} {x:CT.T X.toSE a} {y:CT.T X.toSE b} (h:bZ a b x=some y):∃ e:a=b,y=e ▸ x:=by
 unfold bZ at h;split at h
 ·rename_i e _;injection h with h;exact⟨e,h.symm⟩
 ·cases h
def HL.cells:(l:List (CT X.ι))->HL X.toSE l->List (DV X)
 |[],_=>[]
 |c::l,h=> .c c h.1::HL.cells l h.2
theorem row_one {c:CT X.ι} (h:c.one=true) (x:CT.T X.toSE c):∃ t,CT.row X.toSE c x=[t]∧CT.tv X.toSE c x= .s t:=by cases c<;>first |exact⟨_,rfl,rfl⟩ |cases h
theorem HL.cells_den:∀ (l:List (CT X.ι)) (h:HL X.toSE l),l.all CT.one=true->aI (HL.cells l h)=(HL.row X.toSE l h).map AV.t
 |[],_,_=>rfl
 |c::l,h,ha=>by
  simp only[all_cons,and_eq_true]at ha;obtain⟨t,h1,h2⟩:=row_one ha.1 h.1;simp only[HL.cells,aI,den,HL.row,h1,h2,TV.av,HL.cells_den l h.2 ha.2,cons_append,nil_append,map_cons]
theorem HL.row_length:∀ (l:List (CT X.ι)) (h:HL X.toSE l),l.all CT.one=true->(HL.row X.toSE l h).length=l.length
 |[],_,_=>rfl
 |c::l,h,ha=>by
  simp only[all_cons,and_eq_true]at ha;obtain⟨t,h1,_⟩:=row_one ha.1 h.1;simp only[HL.row,h1,cons_append,nil_append,length_cons,HL.row_length l h.2 ha.2]
theorem vk (c:CT X.ι) (x:CT.T X.toSE c):(CT.row X.toSE c x).length=CT.sz X c:=by
 cases c<;>try rfl
 rename_i i;exact (congrArg List.length (X.row_get i x)).trans (HL.row_length _ _ (X.flat i))
def nS:(c:CT X.ι)->CT.T X.toSE c->List (DV X)
 | .st i,x=>HL.cells (X.tys i) (X.get i x)
 |c,x=>[.c c x]
theorem iX (c:CT X.ι) (x:CT.T X.toSE c):aI (nS c x)=(CT.row X.toSE c x).map AV.t:=by
 cases c<;>try rfl
 rename_i i;exact (HL.cells_den _ _ (X.flat i)).trans (congrArg (List.map AV.t) (X.row_get i x).symm)
def oH:DV X->Bool
 | .agg _ | .tup _ | .undef | .skip | .raw _ | .c (.st _) _=>false
 |_=>true
theorem IC {x:DV X} (h:oH x=true):jK (den x)=true:=by
 cases x<;>try rfl
 case c t x=>cases t<;>first |rfl |simp[oH]at h
 all_goals simp[oH]at h
def cellsD:DV X->Option (List (DV X))
 | .agg cs=>if cs.all oH then some cs else none
 | .c (.st i) x=>some (nS (.st i) x)
 | .tup _ | .undef | .skip | .raw _=>none
 |x=>some [x]
theorem Xo {l:List (DV X)} (h:l.all oH=true):(aI l).all jK=true:=by
 rw[jm,List.all_map,all_eq_true];exact fun x hx=>IC (all_eq_true.1 h x hx)
theorem rX {x:DV X} {cs:List (DV X)} (h:cellsD x=some cs):cellsOf (den x)=some (aI cs):=by
 cases x
 case c t x=>
  cases t
  case st i=>
   simp only[cellsD,Option.some.injEq]at h;subst h;simp only[den,CT.tv,TV.av,cellsOf,iX];show (if ((X.row i x).map AV.t).all jK then some ((X.row i x).map AV.t)else none)=some ((X.row i x).map AV.t);rw[if_pos];rw[List.all_map,all_eq_true];exact fun _ _=>rfl
  all_goals simp only[cellsD,Option.some.injEq]at h;subst h;rfl
 case agg l=>
  simp only[cellsD]at h;split at h
  ·injection h with h;subst h;simp only[den,cellsOf];rw[if_pos (Xo ‹_›)]
  ·cases h
 all_goals simp only[cellsD,Option.some.injEq,reduceCtorEq]at h;try (subst h;rfl)
def cvD:Value->DV X
 | .slice none 0 0=> .nil
 | .int k n=> .c (.int k) n
 | .bool b=> .c .bool b
 | .string s=> .c .str s
 |v=> .raw v
theorem Xp (v:Value):den (cvD (X:=X) v)=cv v:=by
 unfold cvD;split<;>rfl
theorem rY (l:List Value):aI (l.map (cvD (X:=X)))=l.map cv:=by
 rw[jm,map_map];exact map_congr_left fun v _=>Xp v
def KZ (env:Nat->DV X):Operand->DV X
 | .tmp t=>env t
 | .const v=>cvD v
 | .global g=>match X.gv g with
  |some p=> .rp p.1 p.2 0
  |none=> .undef
 | .func f=> .fn f [] []
theorem EL (env:Nat->DV X) (x:Operand):den (KZ env x)=opv (fun t=>den (env t)) x:=by
 cases x with
 |global g=>
  have h:=X.gv_ok g;simp only[KZ,opv];cases h1:X.gv g with
  |none=>
   rw[h1]at h;cases h2:gvar g with
   |none=>rfl
   |some r=>rw[h2]at h;cases h
  |some p=>
   rw[h1]at h;cases h2:gvar g with
   |none=>rw[h2]at h;cases h
   |some r=>
    rw[h2]at h;injection h with h;simp only[den,h]
 |const v=>exact Xp _
 |tmp t=>rfl
 |func f=>rfl
end
def at? {α:Type} (l:List α) (n:Int):Option α:=bif decide (0<=n)then l[n.toNat]? else none
def atO {α:Type} (l:List α) (off:Nat) (n:Int):Option α:=bif decide (0<=n)then l[off+n.toNat]? else none
def sub {α:Type} (l:List α) (off len:Nat):List α:=(l.drop off).take len
def inb (n:Int) (len:Nat):Bool:=decide (0<=n)&&decide (n < (len:Int))
def oO {α β:Type} (a:α) (f:α->β):β:=f a
def bO (lo len ln n bytes:Nat):Bool:=decide (lo=len)&&decide (ln=n)&&decide ((len+n)*bytes<=140737488355328)&&decide (len+n<=maxLen)
def eqL (a b:Nat):Bool:=decide (a=b)
def kI (l h:Int) (len:Nat):Bool:=decide (0<=l)&&decide (l<=h)&&decide (h<=(len:Int))
def K3 (a b:ByteArray):Bool:=Op.bytesLess a.toList b.toList
def ac1 (a b:ByteArray):Bool:=decide (a.size+b.size<=maxLen)
abbrev iN (n:Int):Int:=n
abbrev bN (b:Bool):Bool:=b
def K4 {A:Type}:List Bool->Option A->Option A
 |[],k=>k
 |c::cs,k=>bif c then K4 cs k else none
section
variable {X:SX} {A:Type}
abbrev KK (X:SX) (A:Type):=DV X->List (Nat×Option (DObj X))->List Nat->List Nat->Option A
def ZR (t:Bool) (x y:DV X):DV X:=
 match x,y with
 | .c a p,.c b q=>match decEq b a with
  |isTrue h=> .c a (bif t then p else h ▸ q)
  |isFalse _=>bif t then .c a p else .c b q
 |x,y=>bif t then x else y
def Ag (agg:Bool) (size:Nat) (cs:List (DV X)):Option (DV X):=
 if cs.length=size then (if agg then some (.agg cs)else match cs with |[x]=>if oH x then some x else none |_=>none)else none
def Xq (agg:Bool) (size:Nat) (c:CT X.ι) (y:CT.T X.toSE c) (off:Nat):Option (DV X):=
 match c,y with
 | .st i,y=>if off=0∧agg=true∧size=(X.tys i).length then some (.c (.st i) y)else Ag agg size (((nS (.st i) y).drop off).take size)
 |c,y=>Ag agg size (((nS c y).drop off).take size)
def Ct (d:DV X) (c:CT X.ι):Option (CT.T X.toSE c):=
 match d,c with
 | .c a x,c=>bZ a c x
 | .nil,.sl _=>some []
 | .nil,.any=>some (.sl [])
 |_,_=>none
def rZ:List (DV X)->(l:List (CT X.ι))->Option (HL X.toSE l)
 |[],[]=>some ()
 |d::ds,c::l=>(Ct d c).bind fun x=>(rZ ds l).bind fun h=>some (x,h)
 |_,_=>none
def Vj (d:DV X) (i:X.ι):Option (CT.T X.toSE (.st i)):=
 match d with
 | .agg cs=>(rZ cs (X.tys i)).bind fun h=>some (X.make i h)
 | .c a x=>bZ a (.st i) x
 |_=>none
def dat (d:DV X) (c:CT X.ι):Option (CT.T X.toSE c):=
 match c with
 | .st i=>Vj d i
 |c=>Ct d c
def mk1 (c:CT X.ι):List (DV X)->Option (CT.T X.toSE c)
 |[d]=>Ct d c
 |_=>none
def EM (c:CT X.ι) (ds:List (DV X)):Option (CT.T X.toSE c):=
 match c with
 | .st i=>(rZ ds (X.tys i)).bind fun h=>some (X.make i h)
 |c=>mk1 c ds
def ZT (r:List (DV X)) (off:Nat) (cs:List (DV X)):List (DV X):=r.take off++cs++r.drop (off+cs.length)
variable (T:Tab) (code:TypeId->Option (CT X.ι))
def ldD (t:TypeId) (x:DV X) (get:Nat->Option (DObj X)) (k:KK X A):Option A:=
 (T t).bind fun ti=>match x with
 | .ptr kk row off=>(get kk).bind fun o=>match o with
  | .cells _ rows=>(rows[row]?).bind fun r=>(Ag ti.agg ti.size ((r.drop off).take ti.size)).bind fun v=>k v [] [kk] []
  |_=>none
 | .ptl kk n off=>(get kk).bind fun o=>match o with
  | .lst c l=>(at? l n).bind fun y=>(Xq ti.agg ti.size c y off).bind fun v=>k v [] [kk] []
  |_=>none
 | .rp c y off=>(Xq ti.agg ti.size c y off).bind fun v=>k v [] [] []
 |_=>none
def stD (t:TypeId) (x y:DV X) (get:Nat->Option (DObj X)) (k:KK X A):Option A:=
 (T t).bind fun ti=>(cellsD y).bind fun cs=>if cs.length=ti.size then match x with
 | .ptr kk row off=>(get kk).bind fun o=>match o with
  | .cells sz rows=>(rows[row]?).bind fun r=>if off+cs.length<=r.length then k .undef [(kk,some (.cells sz (rows.set row (ZT r off cs))))] [kk] [kk]else none
  |_=>none
 | .ptl kk n off=>(get kk).bind fun o=>match o with
  | .lst c l=>(at? l n).bind fun y=>if off+cs.length<=CT.sz X c then (EM c (ZT (nS c y) off cs)).bind fun z=>k .undef [(kk,some (.lst c (l.set n.toNat z)))] [kk] [kk]else none
  |_=>none
 |_=>none else none
def Dr (t:TypeId) (x:DV X) (f:Nat) (k:KK X A):Option A:=
 (uy T t f).bind fun p=>match x with
 | .ptr kk row off=>k (.ptr kk row (off+p.1)) [] [] []
 | .ptl kk n off=>k (.ptl kk n (off+p.1)) [] [] []
 | .rp c y off=>k (.rp c y (off+p.1)) [] [] []
 |_=>none
def Vk (t:TypeId) (x:DV X) (f:Nat) (k:KK X A):Option A:=
 (uy T t f).bind fun p=>match x with
 | .agg cs=>(Ag p.2.agg p.2.size ((cs.drop p.1).take p.2.size)).bind fun v=>k v [] [] []
 | .c (.st i) y=>(Ag p.2.agg p.2.size (((nS (.st i) y).drop p.1).take p.2.size)).bind fun v=>k v [] [] []
 |_=>none
def Dt (t:TypeId) (x j:DV X) (get:Nat->Option (DObj X)) (k:KK X A):Option A:=
 (T t).bind fun ti=>match ti.k,j with
 | .slice e,.c (.int _) n=>(T e).bind fun ei=>match x with
  | .c (.sl c) l=>if CT.sz X c=ei.size then (at? l n).bind fun y=>k (.rp c y 0) [] [] []else none
  | .own kk off len=>(get kk).bind fun o=>match o with
   | .lst c _=>if CT.sz X c=ei.size then bif inb n len then k (.ptl kk ((off:Int)+iN n) 0) [] [kk] []else none else none
   | .cells sz _=>if sz=ei.size then bif inb n len then k (.ptr kk (off+n.toNat) 0) [] [kk] []else none else none
   | .map _ _ _=>none
  |_=>none
 | .arr m e,.c (.int _) n=>(T e).bind fun ei=>bif inb n m then match x with
  | .ptr kk row off=>k (.ptr kk row (off+n.toNat*ei.size)) [] [] []
  | .ptl kk r off=>k (.ptl kk r (off+n.toNat*ei.size)) [] [] []
  | .rp c y off=>k (.rp c y (off+n.toNat*ei.size)) [] [] []
  |_=>none
  else none
 |_,_=>none
def K5 (x:DV X) (j:Nat) (k:KK X A):Option A:=
 match x with
 | .tup vs=>(vs[j]?).bind fun v=>k v [] [] []
 |_=>none
def Ah (op:BinOp) (kd:IntKind) (a b:Int):(DV X)×Option Bool:=
 match op with
 | .add=>(.c (.int kd) (kd.wrap (a+b)),none)
 | .sub=>(.c (.int kd) (kd.wrap (a - b)),none)
 | .mul=>(.c (.int kd) (kd.wrap (a*b)),none)
 | .quo=>(.c (.int kd) (kd.wrap (a.tdiv b)),some (b != 0))
 | .rem=>(.c (.int kd) (a.tmod b),some (b != 0))
 | .and=>(.c (.int kd) (bits .and kd a b),none)
 | .or=>(.c (.int kd) (bits .or kd a b),none)
 | .xor=>(.c (.int kd) (bits .xor kd a b),none)
 | .andNot=>(.c (.int kd) (bits .andNot kd a b),none)
 | .shl=>(.c (.int kd) (kd.wrap (a*2 ^ b.toNat)),some (decide (0<=b)&&decide (b<=kd.bits)))
 | .shr=>(.c (.int kd) (a/2 ^ b.toNat),some (decide (0<=b)&&decide (b<=kd.bits)))
 | .eql=>(.c .bool (a==b),none)
 | .neq=>(.c .bool (a != b),none)
 | .lss=>(.c .bool (decide (a < b)),none)
 | .leq=>(.c .bool (decide (a<=b)),none)
 | .gtr=>(.c .bool (decide (a>b)),none)
 | .geq=>(.c .bool (decide (a>=b)),none)
def QD:Nat->DV X->DV X->Option Bool
 | 0,.c (.int j) a,.c (.int k) b=>if j=k then some (iN a==iN b)else none
 | 1,.c .bool a,.c .bool b=>some (bN a==bN b)
 | 2,.c .str a,.c .str b=>some (a.toList==b.toList)
 |_,_,_=>none
def oP:List Nat->List (DV X)->List (DV X)->Option Bool
 |[],[],[]=>some true
 |k::ks,x::xs,y::ys=>(QD k x y).bind fun a=>(oP ks xs ys).bind fun b=>some (a&&b)
 |_,_,_=>none
def abq:DV X->Option (List (DV X))
 | .agg cs=>some cs
 | .c (.st i) y=>some (nS (.st i) y)
 |_=>none
def acv (op:BinOp) (t:TypeId) (x y:DV X) (k:KK X A):Option A:=
 match x,y with
 | .c (.int kd) a,.c (.int yk) b=>if kd=yk∨op= .shl∨op= .shr then match (Ah op kd a b:DV X×Option Bool).2 with
  |none=>k (Ah op kd a b).1 [] [] []
  |some g=>bif g then k (Ah op kd a b).1 [] [] []else none
  else none
 | .c .str a,.c .str b=>match op with
  | .eql=>k (.c .bool (a.toList==b.toList)) [] [] []
  | .neq=>k (.c .bool (!(a.toList==b.toList))) [] [] []
  | .lss=>k (.c .bool (K3 a b)) [] [] []
  | .gtr=>k (.c .bool (!(K3 a b || a.toList==b.toList))) [] [] []
  | .add=>bif ac1 a b then k (.c .str (a++b)) [] [] []else none
  |_=>none
 | .c .bool a,.c .bool b=>(T t).bind fun ti=>match ti.k,op with
  | .bool,.eql=>k (.c .bool (bN a==bN b)) [] [] []
  | .bool,.neq=>k (.c .bool (!(bN a==bN b))) [] [] []
  |_,_=>none
 |x,y=>(abq x).bind fun xs=>(abq y).bind fun ys=>(T t).bind fun ti=>if ti.cmp=[]then none else (oP ti.cmp xs ys).bind fun b=>match op with
  | .eql=>k (.c .bool b) [] [] []
  | .neq=>k (.c .bool (!b)) [] [] []
  |_=>none
def unD (op:UnOp) (x:DV X) (k:KK X A):Option A:=
 match op,x with
 | .not,.c .bool b=>k (.c .bool (!b)) [] [] []
 | .neg,.c (.int kd) n=>k (.c (.int kd) (kd.wrap (0 - iN n))) [] [] []
 |_,_=>none
def BQ (mx:Bool) (kd:IntKind):Int->List (DV X)->Option Int
 |a,[]=>some a
 |a,.c (.int k') b::r=>if k'=kd then BQ mx kd (if mx then max a b else min a b) r else none
 |_,_=>none
def mmD (mx:Bool) (args:List (DV X)) (k:KK X A):Option A:=
 match args with
 | .c (.int kd) a::r=>(BQ mx kd a r).bind fun n=>k (.c (.int kd) n) [] [] []
 |_=>none
def acw (t:TypeId) (x:DV X) (k:KK X A):Option A:=
 (T t).bind fun ti=>match ti.k,x with
 | .slice _,.c (.sl _) l=>k (.c (.int .i64) (l.length:Int)) [] [] []
 | .slice _,.own _ _ len=>k (.c (.int .i64) (len:Int)) [] [] []
 | .slice _,.oz _ len=>k (.c (.int .i64) (len:Int)) [] [] []
 | .slice _,.nil=>k (.c (.int .i64) (0:Int)) [] [] []
 | .str,.c .str s=>k (.c (.int .i64) (s.size:Int)) [] [] []
 |_,_=>none
def OT (place:Nat->Option (Nat×Nat)):List (DV X)->List (Nat×DV X)->Option (List (DV X))
 |cells,[]=>some cells
 |cells,(j,x)::rest=>(place j).bind fun p=>(cellsD x).bind fun cs=>
  if cs.length=p.2∧p.1+cs.length<=cells.length then OT place (ZT cells p.1 cs) rest else none
def Vl (t:TypeId) (parts:List (Nat×DV X)) (k:KK X A):Option A:=
 (T t).bind fun ti=>match ti.k with
 | .struct fs=>if fs.all (fun p=>(T p.2).isSome)then
  (OT (fun j=>(fs[j]?).bind fun p=>(T p.2).bind fun ui=>some (p.1,ui.size)) (ti.zero.map cvD) parts).bind fun cells=>k (.agg cells) [] [] []else none
 | .arr _ e=>(T e).bind fun ei=>(OT (fun j=>some (j*ei.size,ei.size)) (ti.zero.map cvD) parts).bind fun cells=>k (.agg cells) [] [] []
 |_=>none
def ZU (c:CT X.ι):Nat->List (Nat×DV X)->Option (List (CT.T X.toSE c))
 |_,[]=>some []
 |n,(j,x)::r=>if j=n then (dat x c).bind fun y=>(ZU c (n+1) r).bind fun l=>some (y::l)else none
def Ai (i:Nat) (t:TypeId) (len:Nat) (parts:List (Nat×DV X)) (k:KK X A):Option A:=
 (T t).bind fun ti=>match ti.k with
 | .slice e=>(T e).bind fun ei=>(code e).bind fun c=>if ei.size=0∨len*ei.size>2 ^ 24∨CT.sz X c≠ei.size∨parts.length≠len then none else
  (ZU c 0 parts).bind fun l=>k (.own (nid i) 0 len) [(nid i,some (.lst c l))] [] []
 |_=>none
def Vm (i:Nat) (e:TypeId) (k:KK X A):Option A:=
 (T e).bind fun ti=>k (.ptr (nid i) 0 0) [(nid i,some (.cells ti.size [ti.zero.map cvD]))] [] []
def acy (i:Nat) (x:DV X) (k:KK X A):Option A:=
 (cellsD x).bind fun cs=>k (.ptr (nid i) 0 0) [(nid i,some (.cells cs.length [cs]))] [] []
def NS (d:Int):Option (DV X)->Option Int
 |none=>some d
 |some (.c (.int _) n)=>some n
 |_=>none
def Vn (t:TypeId) (x:DV X) (lo hi:Option (DV X)) (get:Nat->Option (DObj X)) (k:KK X A):Option A:=
 (T t).bind fun ti=>match ti.k with
 | .slice e=>(T e).bind fun ei=>match x with
  | .own kk off len=>(get kk).bind fun o=>if (aH o).sz=ei.size then (NS 0 lo).bind fun l=>(NS len hi).bind fun h=>
   bif kI l h len then k (.own kk (off+l.toNat) (h.toNat - l.toNat)) [] [kk] []else none else none
  | .c (.sl c) xs=>if CT.sz X c=ei.size then (NS 0 lo).bind fun l=>(NS xs.length hi).bind fun h=>
   bif kI l h xs.length then k (.c (.sl c) (sub xs l.toNat (h.toNat - l.toNat))) [] [] []else none else none
  |_=>none
 |_=>none
def acz (y:DV X) (c:CT X.ι) (get:Nat->Option (DObj X)):Option (Nat×List (CT.T X.toSE c)×List Nat):=
 match y with
 | .own kk off len=>(get kk).bind fun o=>match o with
  | .lst b l=>(bZ (.sl b) (.sl c) l).bind fun l=>some (len,sub l off len,[kk])
  |_=>none
 | .c b l=>(bZ b (.sl c) l).bind fun (l:List (CT.T X.toSE c))=>some (l.length,l,[])
 |_=>none
def K6 {α:Type}:Nat->List α->List α
 | 0,l=>l
 |n+1,l=>l.drop (n+1)
def QE (i:Nat) (t:TypeId) (x y:DV X) (get:Nat->Option (DObj X)) (k:KK X A):Option A:=
 (T t).bind fun ti=>match ti.k with
 | .slice e=>(T e).bind fun ei=>(code e).bind fun c=>if CT.sz X c=ei.size then (acz y c get).bind fun s=>match x with
  | .own kk off len=>(get kk).bind fun o=>match o with
   | .lst b l=>(bZ (.sl b) (.sl c) l).bind fun (l:List (CT.T X.toSE c))=>bif bO (K6 off l).length len s.2.1.length s.1 ei.bytes then oO (K6 off l++s.2.1) fun r=>k (.own (nid i) 0 r.length) [(nid i,some (.lst c r)),(kk,none)] (kk::s.2.2) [kk]else none
   |_=>none
  | .nil=>bif bO 0 0 s.2.1.length s.1 ei.bytes then oO s.2.1 fun r=>k (.own (nid i) 0 r.length) [(nid i,some (.lst c r))] s.2.2 []else none
  |_=>none
  else none
 |_=>none
def K7 (i:Nat) (b:Builtin) (args:List (DV X)) (tys:List TypeId) (get:Nat->Option (DObj X)) (k:KK X A):Option A:=
 match b,args,tys with
 | .len,[x],[t]=>acw T t x k
 | .max,args,_=>mmD true args k
 | .min,args,_=>mmD false args k
 | .append,[x,y],[t,u]=>if t=u then QE T code i t x y get k else none
 |_,_,_=>none
def opD (i:Nat) (o:Op) (ρ:Operand->DV X) (get:Nat->Option (DObj X)) (k:KK X A):Option A:=
 match o with
 | .move x=>k (ρ x) [] [] []
 | .assign x=>k (ρ x) [] [] []
 | .pick c a b=>match ρ c with | .c .bool t=>k (ZR t (ρ a) (ρ b)) [] [] [] |_=>none
 | .alloc e=>Vm T i e k
 | .box _ x=>acy i (ρ x) k
 | .build t parts=>Vl T t (parts.toList.map fun p=>(p.1,ρ p.2)) k
 | .buildSlice t len parts=>Ai T code i t len (parts.toList.map fun p=>(p.1,ρ p.2)) k
 | .load t a=>ldD T t (ρ a) get k
 | .store t a x=>stD T t (ρ a) (ρ x) get k
 | .binOp op t x y _=>acv T op t (ρ x) (ρ y) k
 | .unOp op _ x=>unD op (ρ x) k
 | .makeFunc (.func f) first caps=>k (.fn f (first.toList.map ρ) (caps.toList.map ρ)) [] [] []
 | .slice t x lo hi none=>Vn T t (ρ x) (lo.map ρ) (hi.map ρ) get k
 | .fieldAddr t x f=>Dr T t (ρ x) f k
 | .field t x f=>Vk T t (ρ x) f k
 | .indexAddr t x j=>Dt T t (ρ x) (ρ j) get k
 | .extract x j=>K5 (ρ x) j k
 | .call { callee:= .builtin b,args:=args,argTypes:=tys }=>K7 T code i b (args.toList.map ρ) tys.toList get k
 |_=>none
end
section
variable {X:SX} {A:Type} {T:Tab} {code:TypeId->Option (CT X.ι)} {get:Nat->Option (DObj X)} {k:KK X A} {r:A} {i:Nat}
def bT (get:Nat->Option (DObj X)):Nat->Option aF:=fun j=>(get j).map aH
theorem bg {rd:List Nat} {j:Nat} {o:DObj X} (hj:j∈rd) (h:get j=some o):aX rd (bT get) j=some (aH o):=by simp[aX,hj,bT,h]
theorem gK (l:List (DV X)):(aI l).length=l.length:=by simp[jm]
theorem fG (l:List (DV X)) (a b:Nat):aI ((l.drop a).take b)=((aI l).drop a).take b:=by simp[jm,map_take,map_drop]
theorem EN {α:Type} {l:List α} {n:Int} {x:α} (h:at? l n=some x):0<=n∧l[n.toNat]? =some x:=by
 unfold at? at h;by_cases hn:0<=n
 ·simpa[hn]using h
 ·simp[hn]at h
theorem Yi (t:Bool) (x y:DV X):den (ZR t x y)=RU t (den x) (den y):=by
 rw[Kk];have base:∀ x y:DV X,den (bif t then x else y)=if t=true then den x else den y:=fun x y=>by cases t<;>rfl
 unfold ZR;split
 ·rename_i a p b q;split
  ·rename_i h _;subst h;cases t<;>rfl
  ·exact base _ _
 ·exact base _ _
theorem wC {agg:Bool} {size:Nat} {cs:List (DV X)} {v:DV X} (h:Ag agg size cs=some v):part' agg size (aI cs)=some (den v):=by
 unfold Ag at h;unfold part';rw[gK];split at h
 ·rename_i hl;rw[if_pos hl];cases agg with
  |true=>simp only[if_true,Option.some.injEq]at h ⊢;subst h;rfl
  |false=>
   simp only[Bool.false_eq_true,if_false]at h ⊢
   match cs,h with
   |[x],h=>
    simp only at h;split at h
    ·rename_i hx;injection h with h;subst h;simp only[aI];rw[if_pos (IC hx)]
    ·cases h
   |[],h=>cases h
   |_::_::_,h=>cases h
 ·cases h
theorem GD {agg:Bool} {size off:Nat} {c:CT X.ι} {y:CT.T X.toSE c} {v:DV X} (h:Ag agg size (((nS c y).drop off).take size)=some v):part' agg size ((((CT.row X.toSE c y).drop off).take size).map AV.t)=some (den v):=by
 have:=wC h;rw[fG,iX]at this;rw[<- this,map_take,map_drop]
theorem OU {agg:Bool} {size off:Nat} {c:CT X.ι} {y:CT.T X.toSE c} {v:DV X} (h:Xq agg size c y off=some v):part' agg size ((((CT.row X.toSE c y).drop off).take size).map AV.t)=some (den v):=by
 cases c
 case st j=>
  simp only[Xq]at h;split at h
  ·rename_i hh;obtain⟨rfl,rfl,rfl⟩:=hh;injection h with h;subst h;have hl:(CT.row X.toSE (.st j) y).length=(X.tys j).length:=vk (.st j) y;rw[List.drop_zero,take_of_length_le (by omega)];unfold part';rw[if_pos (by simpa using hl)];rfl
  ·exact GD h
 all_goals exact GD h
theorem Yj {t:TypeId} {x:DV X} (h:ldD T t x get k=some r):∃ orc rd dv out,wo T t (den x) orc (aX rd (bT get))=some out∧fC out.obs∧out.v=den dv∧out.upd=[]∧k dv [] rd []=some r:=by
 unfold ldD at h;unfold wo;rw[ai]at h;obtain⟨ti,h1,h⟩:=h;simp only[h1,bind_some];split at h
 ·rename_i kk row off;rw[ai]at h;obtain⟨o,h2,h⟩:=h;split at h
  ·rename_i sz rows;rw[ai]at h;obtain⟨rw',h3,h⟩:=h;rw[ai]at h;obtain⟨v,h4,h⟩:=h;refine⟨.none,[kk],v,⟨den v,[],[]⟩,?_,trivial,rfl,rfl,h⟩;have h5:=wC h4;rw[fG]at h5;simp[den,bg (List.mem_singleton_self kk) h2,aH,h3,h5,pv]
  ·cases h
 ·rename_i kk n off;rw[ai]at h;obtain⟨o,h2,h⟩:=h;split at h
  ·rename_i c l;rw[ai]at h;obtain⟨y,h3,h⟩:=h;rw[ai]at h;obtain⟨v,h4,h⟩:=h;obtain⟨_,h6⟩:=EN h3;refine⟨.row ((CT.row X.toSE c y).map AV.t),[kk],v,⟨den v,[],[(ay (l.map (CT.row X.toSE c)))[n.toNat]? =some ((CT.row X.toSE c y).map AV.t)]⟩,?_,?_,rfl,rfl,h⟩
   ·have h5:=OU h4;rw[map_take,map_drop]at h5;simp only[den,bg (List.mem_singleton_self kk) h2,bind_some,aH,h5,pvo]
   ·simp[fC,ay,h6]
  ·cases h
 ·rename_i c y off;rw[ai]at h;obtain⟨v,h4,h⟩:=h;refine⟨.none,[],v,⟨den v,[],[]⟩,?_,trivial,rfl,rfl,h⟩;simp only[den,OU h4,bind_some,pv]
 ·cases h
theorem K8 (a:List (DV X)) (off:Nat) (cs:List (DV X)):aI (ZT a off cs)=put' (aI a) off (aI cs):=by simp[ZT,put',jm,map_take,map_drop]
theorem dQ {a c:CT X.ι} {x:CT.T X.toSE a} {y:CT.T X.toSE c} (h:bZ a c x=some y):den (.c a x)=den (.c c y)∧CT.row X.toSE a x=CT.row X.toSE c y:=by
 obtain⟨e,h⟩:=ic h;subst e;subst h;exact⟨rfl,rfl⟩
theorem QF {c:CT X.ι} (hc:c.one=true) (x:CT.T X.toSE c):[(CT.tv X.toSE c x).av]=(CT.row X.toSE c x).map AV.t:=by
 obtain⟨t,h1,h2⟩:=row_one hc x;rw[h1,h2];rfl
theorem ab5 {c:CT X.ι} (x:CT.T X.toSE c):wk (CT.tv X.toSE c x).av=(CT.tv X.toSE c x).av:=by cases c<;>rfl
theorem oQ {d:DV X} {c:CT X.ι} {x:CT.T X.toSE c} (h:Ct d c=some x):wk (den d)=(CT.tv X.toSE c x).av:=by
 unfold Ct at h;split at h
 ·rw[(dQ h).1];exact ab5 x
 ·injection h with h;subst h;rfl
 ·injection h with h;subst h;rfl
 ·cases h
theorem QG {d:DV X} {c:CT X.ι} {x:CT.T X.toSE c} (hc:c.one=true) (h:Ct d c=some x):oH d=true:=by
 cases d
 case c a y=>
  obtain⟨e,_⟩:=ic (show bZ a c y=some x by cases c<;>exact h);subst e;cases a<;>first |rfl |simp[CT.one]at hc
 case nil=>rfl
 all_goals cases c<;>cases h
theorem sj:∀ {ds:List (DV X)} {l:List (CT X.ι)} {h:HL X.toSE l},rZ ds l=some h->l.all CT.one=true->(aI ds).map wk=(HL.row X.toSE l h).map AV.t∧ds.all oH=true
 |[],[],h,_,_=>⟨rfl,rfl⟩
 |d::ds,c::l,h,hr,ha=>by
  simp only[rZ]at hr;rw[ai]at hr;obtain⟨x,h1,hr⟩:=hr;rw[ai]at hr;obtain⟨g,h2,hr⟩:=hr;injection hr with hr;subst hr;simp only[all_cons,and_eq_true]at ha ⊢;obtain⟨i1,i2⟩:=sj h2 ha.2;simp only[aI,map_cons,HL.row,map_append,i1,oQ h1,i2,and_true,QG ha.1 h1];simp[<- QF ha.1 x]
 |[],_::_,_,hr,_=>by simp[rZ]at hr
 |_::_,[],_,hr,_=>by simp[rZ]at hr
theorem K9 (j:X.ι) (h:HL X.toSE (X.tys j)):CT.row X.toSE (.st j) (X.make j h)=HL.row X.toSE (X.tys j) h:=X.row_make j h
theorem abr {c:CT X.ι} (hc:c.one=true) {ds:List (DV X)} {x:CT.T X.toSE c} (h:mk1 c ds=some x):(aI ds).map wk=(CT.row X.toSE c x).map AV.t:=by
 match ds,h with
 |[d],h=>
  rw[<- QF hc x];simp only[aI,map_cons,map_nil,oQ h]
 |[],h=>cases h
 |_::_::_,h=>cases h
theorem rJ {c:CT X.ι} {ds:List (DV X)} {x:CT.T X.toSE c} (h:EM c ds=some x):(aI ds).map wk=(CT.row X.toSE c x).map AV.t:=by
 cases c
 case st j=>
  simp only[EM]at h;rw[ai]at h;obtain⟨g,h1,h⟩:=h;injection h with h;subst h;rw[(sj h1 (X.flat j)).1,K9]
 all_goals exact abr rfl h
theorem Vo {d:DV X} {c:CT X.ι} (hc:c.one=true) {x:CT.T X.toSE c} (h:Ct d c=some x):∃ cs,cellsOf (den d)=some cs∧cs.map wk=(CT.row X.toSE c x).map AV.t:=by
 have hk:=QG hc h;have hd:=oQ h;have he:cellsOf (den d)=some [den d]:=by
  have:=rX (x:=d) (cs:=[d]) (by
   cases d
   case c t y=>cases t<;>first |rfl |simp[oH]at hk
   all_goals first |rfl |simp[oH]at hk)
  simpa[aI]using this
 exact⟨_,he,by rw[<- QF hc x];simp[hd]⟩
theorem Yk {d:DV X} {c:CT X.ι} {x:CT.T X.toSE c} (h:dat d c=some x):∃ cs,cellsOf (den d)=some cs∧cs.map wk=(CT.row X.toSE c x).map AV.t:=by
 cases c
 case st j=>
  replace h:Vj d j=some x:=h
  cases d
  case agg cs=>
   simp only[Vj]at h;rw[ai]at h;obtain⟨g,h1,h⟩:=h;injection h with h;subst h;obtain⟨i1,i2⟩:=sj h1 (X.flat j);refine⟨aI cs,?_,by rw[i1,K9]⟩;simp only[den,cellsOf];rw[if_pos (Xo i2)]
  case c a y=>
   replace h:bZ a (.st j) y=some x:=h
   rw[(dQ h).1];refine⟨(CT.row X.toSE (.st j) x).map AV.t,?_,?_⟩
   ·show cellsOf (.agg _)=_;simp only[cellsOf];rw[if_pos]
    ·rfl
    ·rw[List.all_map,all_eq_true];exact fun _ _=>rfl
   ·rw[map_map];rfl
  all_goals cases h
 all_goals exact Vo rfl h
theorem Yl {t:TypeId} {x y:DV X} (h:stD T t x y get k=some r):∃ orc kk u out,Kc T t (den x) (den y) orc (aX [kk] (bT get))=some out∧fC out.obs∧out.v= .undef∧out.upd=dh [(kk,u)]∧k .undef [(kk,u)] [kk] [kk]=some r:=by
 unfold stD at h;unfold Kc;rw[ai]at h;obtain⟨ti,h1,h⟩:=h;rw[ai]at h;obtain⟨cs,h2,h⟩:=h;simp only[h1,rX h2,bind_some];split at h
 ·rename_i hl;have hdl:(aI cs).length=ti.size:=by rw[gK];exact hl
  simp only[hdl,if_true];split at h
  ·rename_i kk row off;rw[ai]at h;obtain⟨o,h3,h⟩:=h;split at h
   ·rename_i sz rows;rw[ai]at h;obtain⟨rw',h4,h⟩:=h;split at h
    ·rename_i hle;refine⟨.none,kk,_,⟨.undef,_,[]⟩,?_,trivial,rfl,rfl,h⟩;simp only[den,bg (List.mem_singleton_self kk) h3,bind_some,aH,List.getElem?_map,h4,Option.map_some,gK];rw[if_pos (by rw[<- hl];exact hle)];simp[dh,aH,K8]
    ·cases h
   ·cases h
  ·rename_i kk n off;rw[ai]at h;obtain⟨o,h3,h⟩:=h;split at h
   ·rename_i c l;rw[ai]at h;obtain⟨z,h4,h⟩:=h;split at h
    ·rename_i hle;rw[ai]at h;obtain⟨z',h5,h⟩:=h;obtain⟨_,h6⟩:=EN h4;refine⟨.set ((CT.row X.toSE c z).map AV.t) (ay ((l.set n.toNat z').map (CT.row X.toSE c))),kk,_,⟨.undef,_,[(ay (l.map (CT.row X.toSE c)))[n.toNat]? =some ((CT.row X.toSE c z).map AV.t)∧ay ((l.set n.toNat z').map (CT.row X.toSE c))=bA ((ay (l.map (CT.row X.toSE c))).set n.toNat (put' ((CT.row X.toSE c z).map AV.t) off (aI cs)))]⟩,?_,?_,rfl,rfl,h⟩
     ·simp only[den,bg (List.mem_singleton_self kk) h3,bind_some,aH];rw[if_pos (by rw[length_map,vk,<- hl];exact hle)];simp[dh,aH]
     ·refine⟨by simp[ay,h6],?_⟩;have h7:=rJ h5;rw[K8,iX]at h7;have hid:bA (ay (l.map (CT.row X.toSE c)))=ay (l.map (CT.row X.toSE c)):=(by simp[bA,ay,Function.comp_def,wk]);simp only[bA,List.map_set,h7];have:(ay (l.map (CT.row X.toSE c))).map (List.map wk)=ay (l.map (CT.row X.toSE c)):=hid;rw[this];simp[ay]
    ·cases h
   ·cases h
  ·cases h
 ·cases h
theorem GH {t:TypeId} {x:DV X} {f:Nat} (h:Dr T t x f k=some r):∃ dv out,rR T t (den x) f=some out∧fC out.obs∧out.v=den dv∧out.upd=[]∧k dv [] [] []=some r:=by
 unfold Dr at h;unfold rR;rw[ai]at h;obtain⟨⟨d,u⟩,h1,h⟩:=h;simp only[h1,bind_some];split at h
 ·exact⟨_,_,rfl,trivial,rfl,rfl,h⟩
 ·exact⟨_,_,rfl,trivial,rfl,rfl,h⟩
 ·exact⟨_,_,rfl,trivial,rfl,rfl,h⟩
 ·cases h
theorem QH {t:TypeId} {x:DV X} {f:Nat} (h:Vk T t x f k=some r):∃ dv out,Ke T t (den x) f=some out∧fC out.obs∧out.v=den dv∧out.upd=[]∧k dv [] [] []=some r:=by
 unfold Vk at h;unfold Ke;rw[ai]at h;obtain⟨⟨d,u⟩,h1,h⟩:=h;simp only[h1,bind_some];split at h
 ·rw[ai]at h;obtain⟨v,h2,h⟩:=h;have h3:=wC h2;rw[fG]at h3;exact⟨v,⟨den v,[],[]⟩,by simp only[den,h3,bind_some,pv],trivial,rfl,rfl,h⟩
 ·rename_i j y;rw[ai]at h;obtain⟨v,h2,h⟩:=h;have h3:=GD h2;rw[map_take,map_drop]at h3;refine⟨v,⟨den v,[],[]⟩,?_,trivial,rfl,rfl,h⟩;show (part' u.agg u.size (List.take u.size (List.drop d ((CT.row X.toSE (.st j) y).map AV.t)))).bind pv=_;rw[h3];rfl
 ·cases h
theorem aT {α:Type} {b:Bool} {x:Option α} {r:α} (h:(bif b then x else none)=some r):b=true∧x=some r:=by
 cases b with
 |true=>exact⟨rfl,h⟩
 |false=>cases h
theorem La {n:Int} {len:Nat} (h:inb n len=true):0<=n∧n.toNat < len:=by simp only[inb,and_eq_true,decide_eq_true_eq]at h;omega
theorem j5 {A:Type}:∀ {cs:List Bool} {k:Option A} {r:A},K4 cs k=some r->(∀ c∈cs,c=true)∧k=some r
 |[],_,_,h=>⟨by simp,h⟩
 |c::cs,k,r,h=>by
  obtain⟨h1,h2⟩:=aT h;obtain⟨h3,h4⟩:=j5 h2;exact⟨fun x hx=>(mem_cons.1 hx).elim (fun e=>e ▸ h1) (h3 x),h4⟩
theorem GI {t:TypeId} {x j:DV X} (h:Dt T t x j get k=some r):∃ orc rd dv out,gZ T t (den x) (den j) orc (aX rd (bT get))=some out∧fC out.obs∧out.v=den dv∧out.upd=[]∧k dv [] rd []=some r:=by
 unfold Dt at h;unfold gZ;rw[ai]at h;obtain⟨ti,h1,h⟩:=h;simp only[h1,bind_some];split at h
 ·rename_i e kd n hk;rw[ai]at h;obtain⟨ei,h2,h⟩:=h;simp only[hk,den,CT.tv,TV.av,h2,bind_some];split at h
  ·rename_i c l;split at h
   ·rename_i hs;rw[ai]at h;obtain⟨y,h3,h⟩:=h;obtain⟨h4,h5⟩:=EN h3;refine⟨.trow (CT.row X.toSE c y),[],_,⟨.rptr (CT.row X.toSE c y) 0,[],[0<=n∧(l.map (CT.row X.toSE c))[n.toNat]? =some (CT.row X.toSE c y)]⟩,?_,?_,rfl,rfl,h⟩
    ·simp only[den,CT.tv,TV.av];rw[if_pos (by rw[vk];exact hs)];rfl
    ·exact⟨h4,by simp[h5]⟩
   ·cases h
  ·rename_i kk off len;rw[ai]at h;obtain⟨o,h3,h⟩:=h;split at h
   ·rename_i c l;split at h
    ·rename_i hs;obtain⟨h4,h⟩:=aT h;obtain⟨h5,h6⟩:=La h4;refine⟨.none,[kk],_,⟨.ptr kk (off+n.toNat) 0,[],[0<=n∧n.toNat < len]⟩,?_,⟨h5,h6⟩,?_,rfl,h⟩
     ·simp only[den,bg (List.mem_singleton_self kk) h3,bind_some,aH];rw[if_pos hs];rfl
     ·simp only[den,iN];congr 1;show off+Int.toNat n=Int.toNat ((off:Int)+n);have:(0:Int)<=n:=h5;omega
    ·cases h
   ·rename_i sz rows;split at h
    ·rename_i hs;obtain⟨h4,h⟩:=aT h;obtain⟨h5,h6⟩:=La h4;refine⟨.none,[kk],_,⟨.ptr kk (off+n.toNat) 0,[],[0<=n∧n.toNat < len]⟩,?_,⟨h5,h6⟩,rfl,rfl,h⟩;simp only[den,bg (List.mem_singleton_self kk) h3,bind_some,aH];rw[if_pos hs];rfl
    ·cases h
   ·cases h
  ·cases h
 ·rename_i m e kd n hk;rw[ai]at h;obtain⟨ei,h2,h⟩:=h;simp only[hk,den,CT.tv,TV.av,h2,bind_some];obtain⟨h4,h⟩:=aT h;obtain⟨h5,h6⟩:=La h4;split at h
  ·exact⟨.none,[],_,_,rfl,⟨h5,h6⟩,rfl,rfl,h⟩
  ·exact⟨.none,[],_,_,rfl,⟨h5,h6⟩,rfl,rfl,h⟩
  ·exact⟨.none,[],_,_,rfl,⟨h5,h6⟩,rfl,rfl,h⟩
  ·cases h
 ·cases h
theorem Lb {x:DV X} {j:Nat} (h:K5 x j k=some r):∃ dv out,zY (den x) j=some out∧fC out.obs∧out.v=den dv∧out.upd=[]∧k dv [] [] []=some r:=by
 unfold K5 at h;split at h
 ·rw[ai]at h;obtain⟨v,h2,h⟩:=h;refine⟨v,⟨den v,[],[]⟩,?_,trivial,rfl,rfl,h⟩;simp[zY,den,jm,h2,pv]
 ·cases h
end
section
variable {X:SX} {A:Type} {T:Tab} {code:TypeId->Option (CT X.ι)} {get:Nat->Option (DObj X)} {k:KK X A} {r:A} {i:Nat}
theorem QI {op:BinOp} {kd:IntKind} {a b:Int}:∃ v obs,Kb op kd a b=some (v,obs)∧den (Ah (X:=X) op kd a b).1= .t (.sc v)∧(∀ g,(Ah (X:=X) op kd a b).2=some g->g=true->fC obs)∧((Ah (X:=X) op kd a b).2=none->fC obs):=by
 cases op<;>refine⟨_,_,rfl,rfl,fun g hg ht=>?_,fun hn=>?_⟩<;>simp only[Ah,Option.some.injEq,reduceCtorEq]at* <;>try trivial
 all_goals subst hg;simp_all [fC]
theorem Sv {n:Nat} {x y:DV X} {b:Bool} (h:QD n x y=some b):Dp n (den x) (den y)=some b:=by
 unfold QD at h;split at h
 ·split at h
  ·injection h with h;subst h;simp only[den,CT.tv,TV.av,Dp];rw[if_pos ‹_›]
  ·cases h
 ·exact h
 ·exact h
 ·cases h
theorem EO:∀ {ks:List Nat} {xs ys:List (DV X)} {b:Bool},oP ks xs ys=some b->mq ks (aI xs) (aI ys)=some b
 |[],[],[],b,h=>h
 |k::ks,x::xs,y::ys,b,h=>by
  simp only[oP]at h;rw[ai]at h;obtain⟨p,h1,h⟩:=h;rw[ai]at h;obtain⟨q,h2,h⟩:=h;simp only[aI,mq,Sv h1,EO h2,bind_some,h]
 |[],_::_,_,_,h=>by simp[oP]at h
 |[],[],_::_,_,h=>by simp[oP]at h
 |_::_,[],_,_,h=>by simp[oP]at h
 |_::_,_::_,[],_,h=>by simp[oP]at h
theorem Sw {x:DV X} {xs:List (DV X)} (h:abq x=some xs):den x= .agg (aI xs):=by
 unfold abq at h;split at h
 ·injection h with h;subst h;rfl
 ·rename_i j y;injection h with h;subst h;rw[iX];rfl
 ·cases h
theorem Vp {op:BinOp} {t:TypeId} {x y:DV X} (h:acv T op t x y k=some r):∃ dv out,Nw T op t (den x) (den y)=some out∧fC out.obs∧out.v=den dv∧out.upd=[]∧k dv [] [] []=some r:=by
 unfold acv at h;split at h
 ·rename_i kd a yk b;split at h
  ·rename_i hk;obtain⟨v,obs,h1,h2,h3,h4⟩:=QI (X:=X) (op:=op) (kd:=kd) (a:=a) (b:=b);have fin:fC obs->k (Ah op kd a b).1 [] [] []=some r->∃ dv out,Nw T op t (den (.c (.int kd) a:DV X)) (den (.c (.int yk) b:DV X))=some out∧fC out.obs∧out.v=den dv∧out.upd=[]∧k dv [] [] []=some r:=by
    intro ho hkk;refine⟨_,⟨.t (.sc v),[],obs⟩,?_,ho,h2.symm,rfl,hkk⟩;simp only[den,CT.tv,TV.av,Nw];rw[if_pos hk,h1];rfl
   split at h
   ·rename_i hn;exact fin (h4 hn) h
   ·rename_i g hg;obtain⟨hgt,h⟩:=aT h;exact fin (h3 g hg hgt) h
  ·cases h
 ·split at h
  ·exact⟨_,_,rfl,trivial,rfl,rfl,h⟩
  ·exact⟨_,_,rfl,trivial,rfl,rfl,h⟩
  ·exact⟨_,_,rfl,trivial,rfl,rfl,h⟩
  ·exact⟨_,_,rfl,trivial,rfl,rfl,h⟩
  ·obtain⟨hc,h⟩:=aT h;exact⟨_,_,rfl,show _<=maxLen from of_decide_eq_true hc,rfl,rfl,h⟩
  ·cases h
 ·rw[ai]at h;obtain⟨ti,h1,h⟩:=h;split at h
  ·rename_i hk;refine⟨_,⟨.t (.sc (.bool _)),[],[]⟩,?_,trivial,rfl,rfl,h⟩;simp only[den,CT.tv,TV.av,Nw,h1,bind_some,hk];rfl
  ·rename_i hk;refine⟨_,⟨.t (.sc (.bool _)),[],[]⟩,?_,trivial,rfl,rfl,h⟩;simp only[den,CT.tv,TV.av,Nw,h1,bind_some,hk];rfl
  ·cases h
 ·rw[ai]at h;obtain⟨xs,h1,h⟩:=h;rw[ai]at h;obtain⟨ys,h2,h⟩:=h;rw[ai]at h;obtain⟨ti,h3,h⟩:=h;split at h
  ·cases h
  ·rename_i hc;rw[ai]at h;obtain⟨b,h4,h⟩:=h;have h5:=EO h4;rw[Sw h1,Sw h2];split at h
   ·refine⟨_,⟨.t (.sc (.bool b)),[],[]⟩,?_,trivial,rfl,rfl,h⟩;simp only[Nw,h3,bind_some];rw[if_neg hc,h5];rfl
   ·refine⟨_,⟨.t (.sc (.bool (!b))),[],[]⟩,?_,trivial,rfl,rfl,h⟩;simp only[Nw,h3,bind_some];rw[if_neg hc,h5];rfl
   ·cases h
theorem Ym {op:UnOp} {x:DV X} (h:unD op x k=some r):∃ dv out,aUn op (den x)=some out∧fC out.obs∧out.v=den dv∧out.upd=[]∧k dv [] [] []=some r:=by
 unfold unD at h;split at h
 ·exact⟨_,_,rfl,trivial,rfl,rfl,h⟩
 ·exact⟨_,_,rfl,trivial,rfl,rfl,h⟩
 ·cases h
theorem IE (mx:Bool) (kd:IntKind):∀ (l:List (DV X)) (a n:Int),BQ mx kd a l=some n->xL mx kd a (aI l)=some n
 |[],a,n,h=>h
 |x::l,a,n,h=>by
  cases x
  case c t y=>
   cases t
   case int k'=>
    simp only[BQ]at h;simp only[aI,den,CT.tv,TV.av,xL];split at h
    ·rename_i hk;rw[if_pos hk];exact IE mx kd l _ _ h
    ·cases h
   all_goals simp[BQ]at h
  all_goals simp[BQ]at h
theorem OV {mx:Bool} {args:List (DV X)} (h:mmD mx args k=some r):∃ dv out,aMm mx (aI args)=some out∧fC out.obs∧out.v=den dv∧out.upd=[]∧k dv [] [] []=some r:=by
 unfold mmD at h;split at h
 ·rename_i kd a l;rw[ai]at h;obtain⟨n,h1,h⟩:=h;refine⟨_,⟨.t (.sc (.int kd n)),[],[]⟩,?_,trivial,rfl,rfl,h⟩;simp only[aI,den,CT.tv,TV.av,aMm];have:=IE mx kd l a n h1;simp only[this];rfl
 ·cases h
theorem Vq {t:TypeId} {x:DV X} (h:acw T t x k=some r):∃ orc dv out,RS T t (den x) orc=some out∧fC out.obs∧out.v=den dv∧out.upd=[]∧k dv [] [] []=some r:=by
 unfold acw at h;unfold RS;rw[ai]at h;obtain⟨ti,h1,h⟩:=h;simp only[h1,bind_some];split at h
 ·rename_i e c l hk;simp only[hk];exact⟨.num (l.length:Int),_,⟨.t (.sc (.int .i64 (l.length:Int))),[],[(l.length:Int)=((l.map (CT.row X.toSE c)).length:Int)]⟩,rfl,by simp[fC],rfl,rfl,h⟩
 ·rename_i hk;simp only[hk];exact⟨.none,_,_,rfl,trivial,rfl,rfl,h⟩
 ·rename_i hk;simp only[hk];exact⟨.none,_,_,rfl,trivial,rfl,rfl,h⟩
 ·rename_i hk;simp only[hk];exact⟨.none,_,_,rfl,trivial,rfl,rfl,h⟩
 ·rename_i hk;simp only[hk];exact⟨.none,_,_,rfl,trivial,rfl,rfl,h⟩
 ·cases h
theorem GJ (place:Nat->Option (Nat×Nat)):∀ (parts:List (Nat×DV X)) (cells out:List (DV X)),OT place cells parts=some out->zo place (aI cells) (parts.map fun p=>(p.1,den p.2))=some (aI out)
 |[],cells,out,h=>by simp only[OT,Option.some.injEq]at h;subst h;rfl
 |(j,x)::rest,cells,out,h=>by
  simp only[OT]at h;rw[ai]at h;obtain⟨⟨off,size⟩,h1,h⟩:=h;rw[ai]at h;obtain⟨cs,h2,h⟩:=h;split at h
  ·rename_i hl;simp only[map_cons,zo,h1,rX h2,bind_some,gK];rw[if_pos hl,<- K8];exact GJ place rest _ _ h
  ·cases h
theorem QJ {t:TypeId} {parts:List (Nat×DV X)} (h:Vl T t parts k=some r):∃ dv out,Kg T t (parts.map fun p=>(p.1,den p.2))=some out∧fC out.obs∧out.v=den dv∧out.upd=[]∧k dv [] [] []=some r:=by
 unfold Vl at h;unfold Kg;rw[ai]at h;obtain⟨ti,h1,h⟩:=h;simp only[h1,bind_some];split at h
 ·rename_i fs hk;split at h
  ·rename_i ha;rw[ai]at h;obtain⟨cells,h2,h⟩:=h;have h3:=GJ _ _ _ _ h2;rw[rY]at h3;refine⟨_,⟨.agg (aI cells),[],[]⟩,?_,trivial,rfl,rfl,h⟩;simp only[hk];rw[if_pos ha,h3];rfl
  ·cases h
 ·rename_i m e hk;rw[ai]at h;obtain⟨ei,h2,h⟩:=h;rw[ai]at h;obtain⟨cells,h3,h⟩:=h;have h4:=GJ _ _ _ _ h3;rw[rY]at h4;refine⟨_,⟨.agg (aI cells),[],[]⟩,?_,trivial,rfl,rfl,h⟩;simp only[hk,h2,bind_some,h4];rfl
 ·cases h
theorem OW (size:Nat) (c:CT X.ι) (hs:CT.sz X c=size) (z:List AV):∀ (parts:List (Nat×DV X)) (n:Nat) (l:List (CT.T X.toSE c)) (done:List (List AV)),ZU c n parts=some l->done.length=n->
 ∃ css:List (List AV),En size (done++List.replicate parts.length z) (parts.map fun p=>(p.1,den p.2))=some (done++css)∧css.map (fun r=>r.map wk)=ay (l.map (CT.row X.toSE c))
 |[],n,l,done,h,_=>by
  simp only[ZU,Option.some.injEq]at h;subst h;exact⟨[],by simp[En],rfl⟩
 |(j,x)::rest,n,l,done,h,hd=>by
  simp only[ZU]at h;split at h
  ·rename_i hj;subst hj;rw[ai]at h;obtain⟨y,h1,h⟩:=h;rw[ai]at h;obtain⟨l',h2,h⟩:=h;injection h with h;subst h;obtain⟨cs,g1,g2⟩:=Yk h1;have hl:cs.length=size:=by
    have:=congrArg List.length g2;simp only[length_map,vk]at this;omega
   obtain⟨css,i1,i2⟩:=OW size c hs z rest (j+1) l' (done++[cs]) h2 (by simp[hd]);refine⟨cs::css,?_,?_⟩
   ·simp only[map_cons,En,g1,bind_some];rw[if_pos ⟨hl,by simp;omega⟩];have:(done++List.replicate (rest.length+1) z).set j cs=done++[cs]++List.replicate rest.length z:=by
     rw[List.set_append_right _ _ (by omega),hd];simp[List.replicate_succ]
    simp only[length_cons,this,i1];simp
   ·simp only[map_cons,i2,g2,ay,map_cons]
  ·cases h
theorem EP {t:TypeId} {len:Nat} {parts:List (Nat×DV X)} (h:Ai T code i t len parts k=some r):∃ dv u out,oN T i t len (parts.map fun p=>(p.1,den p.2))=some out∧fC out.obs∧out.v=den dv∧out.upd=dh [(nid i,u)]∧k dv [(nid i,u)] [] []=some r:=by
 unfold Ai at h;unfold oN;rw[ai]at h;obtain⟨ti,h1,h⟩:=h;simp only[h1,bind_some];split at h
 ·rename_i e hk;rw[ai]at h;obtain⟨ei,h2,h⟩:=h;rw[ai]at h;obtain⟨c,h3,h⟩:=h;simp only[hk,h2,bind_some];split at h
  ·cases h
  ·rename_i hno;simp only[not_or,Decidable.not_not]at hno;obtain⟨n1,n2,n3,n4⟩:=hno;rw[ai]at h;obtain⟨l,h4,h⟩:=h;obtain⟨css,g1,g2⟩:=OW ei.size c n3 (ei.zero.map cv) parts 0 l [] h4 rfl;simp only[nil_append,n4]at g1;refine⟨_,_,⟨.own (nid i) 0 len,[(nid i,some ⟨ei.size,bA css⟩)],[]⟩,?_,trivial,rfl,?_,h⟩
   ·rw[if_neg (by simp only[not_or];exact⟨n1,n2⟩),g1];rfl
   ·simp only[dh,aH,map_cons,map_nil,Option.map_some,n3];rw[show bA css=ay (l.map (CT.row X.toSE c))from g2]
 ·cases h
theorem QK {e:TypeId} (h:Vm T i e k=some r):∃ dv u out,Kh T i e=some out∧fC out.obs∧out.v=den dv∧out.upd=dh [(nid i,u)]∧k dv [(nid i,u)] [] []=some r:=by
 unfold Vm at h;unfold Kh;rw[ai]at h;obtain⟨ti,h1,h⟩:=h;exact⟨_,_,⟨_,[(nid i,some ⟨ti.size,[ti.zero.map cv]⟩)],[]⟩,by simp only[h1,bind_some];rfl,trivial,rfl,by simp[dh,aH,rY],h⟩
theorem Vr {x:DV X} (h:acy i x k=some r):∃ dv u out,ZC i (den x)=some out∧fC out.obs∧out.v=den dv∧out.upd=dh [(nid i,u)]∧k dv [(nid i,u)] [] []=some r:=by
 unfold acy at h;unfold ZC;rw[ai]at h;obtain⟨cs,h1,h⟩:=h;exact⟨_,_,⟨_,[(nid i,some ⟨(aI cs).length,[aI cs]⟩)],[]⟩,by simp only[rX h1,bind_some];rfl,trivial,rfl,by simp[dh,aH,gK],h⟩
theorem oU {d n:Int} {x:Option (DV X)} (h:NS d x=some n):bnd d (x.map den)=some n:=by
 unfold NS at h;split at h
 ·exact h
 ·exact h
 ·cases h
theorem OX {l h:Int} {len:Nat} (hh:kI l h len=true):0<=l∧l<=h∧h<=(len:Int):=by simpa[kI,and_assoc]using hh
theorem QL {t:TypeId} {x:DV X} {lo hi:Option (DV X)} (h:Vn T t x lo hi get k=some r):∃ orc rd dv out,Ki T t (den x) (lo.map den) (hi.map den) orc (aX rd (bT get))=some out∧fC out.obs∧out.v=den dv∧out.upd=[]∧k dv [] rd []=some r:=by
 unfold Vn at h;unfold Ki;rw[ai]at h;obtain⟨ti,h1,h⟩:=h;simp only[h1,bind_some];split at h
 ·rename_i e hk;rw[ai]at h;obtain⟨ei,h2,h⟩:=h;simp only[hk,h2,bind_some];split at h
  ·rename_i kk off len;rw[ai]at h;obtain⟨o,h3,h⟩:=h;split at h
   ·rename_i hs;rw[ai]at h;obtain⟨l,h4,h⟩:=h;rw[ai]at h;obtain⟨hh,h5,h⟩:=h;obtain⟨h6,h⟩:=aT h;refine⟨.none,[kk],_,⟨.own kk (off+l.toNat) (hh.toNat - l.toNat),[],[0<=l∧l<=hh∧hh<=(len:Int)]⟩,?_,OX h6,rfl,rfl,h⟩;simp only[den,bg (List.mem_singleton_self kk) h3,bind_some];rw[if_pos hs,oU h4,bind_some,oU h5];rfl
   ·cases h
  ·rename_i c xs;split at h
   ·rename_i hs;rw[ai]at h;obtain⟨l,h4,h⟩:=h;rw[ai]at h;obtain⟨hh,h5,h⟩:=h;obtain⟨h6,h⟩:=aT h;refine⟨.tsub ((sub xs l.toNat (hh.toNat - l.toNat)).map (CT.row X.toSE c)),[],_,⟨.t (.sl ((sub xs l.toNat (hh.toNat - l.toNat)).map (CT.row X.toSE c))),[],[0<=l∧l<=hh∧hh<=((xs.map (CT.row X.toSE c)).length:Int)∧(sub xs l.toNat (hh.toNat - l.toNat)).map (CT.row X.toSE c)=((xs.map (CT.row X.toSE c)).drop l.toNat).take (hh.toNat - l.toNat)∧(∀ q∈xs.map (CT.row X.toSE c),q.length=ei.size)]⟩,?_,?_,rfl,rfl,h⟩
    ·simp only[den,CT.tv,TV.av,oU h4,bind_some];have h7:bnd ((xs.map (CT.row X.toSE c)).length:Int) (hi.map den)=some hh:=by
      have:=oU h5;simpa using this
     rw[h7];rfl
    ·obtain⟨a1,a2,a3⟩:=OX h6;refine⟨a1,a2,by simpa using a3,by simp[sub,map_take,map_drop],fun q hq=>?_⟩;obtain⟨y,_,rfl⟩:=mem_map.1 hq;rw[vk];exact hs
   ·cases h
  ·cases h
 ·cases h
end
section
variable {X:SX} {A:Type} {T:Tab} {code:TypeId->Option (CT X.ι)} {get:Nat->Option (DObj X)} {k:KK X A} {r:A} {i:Nat}
theorem eu {b c:CT X.ι} {l:List (CT.T X.toSE b)} {l':List (CT.T X.toSE c)} (h:bZ (.sl b) (.sl c) l=some l'):CT.sz X b=CT.sz X c∧l.map (CT.row X.toSE b)=l'.map (CT.row X.toSE c):=by
 obtain⟨e,h⟩:=ic h;injection e with e;subst e;subst h;exact⟨rfl,rfl⟩
theorem Sy {y:DV X} {c:CT X.ι} {n:Nat} {l:List (CT.T X.toSE c)} {rd:List Nat} (h:acz y c get=some (n,l,rd)) (hl:l.length=n) (rd':List Nat) (hrd:∀ j∈rd,j∈rd'):
 ∃ ob,Kj (CT.sz X c) (den y) (aX rd' (bT get))=some (n,ob,ay (l.map (CT.row X.toSE c)))∧ob:=by
 unfold acz at h;split at h
 ·rename_i kk off len;rw[ai]at h;obtain⟨o,h1,h⟩:=h;split at h
  ·rename_i b l0;rw[ai]at h;obtain⟨l1,h2,h⟩:=h;injection h with h;simp only[Prod.mk.injEq]at h;obtain⟨rfl,rfl,rfl⟩:=h;obtain⟨h3,h4⟩:=eu h2;refine⟨True,?_,trivial⟩;simp only[den,Kj,bg (hrd kk (by simp)) h1,bind_some,aH];rw[if_pos h3];simp only[h4,Option.some.injEq,Prod.mk.injEq,true_and];simp[ay,sub,map_take,map_drop]
  ·cases h
 ·rename_i b l0;rw[ai]at h;obtain⟨l1,h2,h⟩:=h;injection h with h;simp only[Prod.mk.injEq]at h;obtain⟨rfl,rfl,rfl⟩:=h;refine⟨∀ q∈l1.map (CT.row X.toSE c),q.length=CT.sz X c,?_,?_⟩
  ·rw[(dQ h2).1];simp only[den,CT.tv,TV.av,Kj,length_map]
  ·intro q hq;obtain⟨z,_,rfl⟩:=mem_map.1 hq;exact vk c z
 ·cases h
theorem Lc {lo len ln n bytes:Nat} (h:bO lo len ln n bytes=true):lo=len∧ln=n∧(len+n)*bytes<=140737488355328∧len+n<=maxLen:=by simpa[bO,and_assoc]using h
theorem dropL_eq {α:Type} (n:Nat) (l:List α):K6 n l=l.drop n:=by cases n<;>rfl
theorem NT {t:TypeId} {x y:DV X} (h:QE T code i t x y get k=some r):∃ orc rd wr dv upd out,uz T i t (den x) (den y) orc (aX rd (bT get))=some out∧fC out.obs∧out.v=den dv∧out.upd=dh upd∧(∀ p∈upd,p.1=nid i∨p.1∈wr)∧k dv upd rd wr=some r:=by
 unfold QE at h;unfold uz;rw[ai]at h;obtain⟨ti,h1,h⟩:=h;simp only[h1,bind_some];split at h
 ·rename_i e hk;rw[ai]at h;obtain⟨ei,h2,h⟩:=h;rw[ai]at h;obtain⟨c,h3,h⟩:=h;simp only[hk,h2,bind_some];split at h
  ·rename_i hs;rw[ai]at h;obtain⟨⟨n,l,rd⟩,h4,h⟩:=h;split at h
   ·rename_i kk off len;rw[ai]at h;obtain⟨o,h5,h⟩:=h;split at h
    ·rename_i b l0;rw[ai]at h;obtain⟨l1,h6,h⟩:=h;obtain⟨h7,h⟩:=aT h;rw[dropL_eq]at h7 h;have hd:(ay (l1.map (CT.row X.toSE c))).drop off=ay ((l1.drop off).map (CT.row X.toSE c)):=(by simp[ay]);obtain⟨g1,g2,g3,g4⟩:=Lc h7;obtain⟨h8,h9⟩:=eu h6;obtain⟨ob,i1,i2⟩:=Sy h4 g2 (kk::rd) (fun j hj=>by simp[hj]);have i3:=bg (rd:=kk::rd) (by simp) h5
     refine⟨.rows (ay ((l1.drop off++l).map (CT.row X.toSE c))),kk::rd,[kk],_,_,⟨.own (nid i) 0 (ay ((l1.drop off++l).map (CT.row X.toSE c))).length,[(nid i,some ⟨ei.size,ay ((l1.drop off++l).map (CT.row X.toSE c))⟩),(kk,none)],
      [ob∧(ay ((l1.drop off).map (CT.row X.toSE c))).length=len∧(ay (l.map (CT.row X.toSE c))).length=n∧ay ((l1.drop off++l).map (CT.row X.toSE c))=ay ((l1.drop off).map (CT.row X.toSE c))++ay (l.map (CT.row X.toSE c))∧(len+n)*ei.bytes<=140737488355328∧len+n<=maxLen]⟩,?_,?_,?_,?_,?_,h⟩
     ·rw[hs]at i1;simp only[i1,bind_some,den,i3,aH,h9,hd];rw[if_pos (by rw[h8,hs])]
     ·exact⟨i2,by simpa[ay]using g1,by simpa[ay]using g2,by simp[ay],g3,g4⟩
     ·simp[den,ay]
     ·simp[dh,aH,hs]
     ·intro p hp;simp only[mem_cons,List.not_mem_nil,or_false]at hp;rcases hp with rfl |rfl
      ·exact .inl rfl
      ·exact .inr (by simp)
    ·cases h
   ·obtain⟨h7,h⟩:=aT h;obtain⟨g1,g2,g3,g4⟩:=Lc h7;obtain⟨ob,i1,i2⟩:=Sy h4 g2 rd (fun j hj=>hj)
    refine⟨.rows (ay (l.map (CT.row X.toSE c))),rd,[],_,_,⟨.own (nid i) 0 (ay (l.map (CT.row X.toSE c))).length,[(nid i,some ⟨ei.size,ay (l.map (CT.row X.toSE c))⟩)],
     [ob∧(ay (l.map (CT.row X.toSE c))).length=n∧ay (l.map (CT.row X.toSE c))=ay (l.map (CT.row X.toSE c))∧n*ei.bytes<=140737488355328∧n<=maxLen]⟩,?_,?_,?_,?_,?_,h⟩
    ·rw[hs]at i1;simp only[i1,bind_some,den]
    ·exact⟨i2,by simpa[ay]using g2,rfl,by simpa using g3,by simpa using g4⟩
    ·simp[den,ay]
    ·simp[dh,aH,hs]
    ·intro p hp;simp only[mem_cons,List.not_mem_nil,or_false]at hp;rcases hp with rfl;exact .inl rfl
   ·cases h
  ·cases h
 ·cases h
def ac2 (T:Tab) (i:Nat) (o:Oper) (ρ:Operand->DV X) (get:Nat->Option (DObj X)) (k:KK X A) (r:A):Prop:=
 ∃ orc rd wr dv upd out,kF T i o orc (fun x=>den (ρ x)) (aX rd (bT get))=some out∧fC out.obs∧out.v=den dv∧out.upd=dh upd∧(∀ p∈upd,p.1=nid i∨p.1∈wr)∧k dv upd rd wr=some r
theorem Ld {b:Builtin} {args:List (DV X)} {tys:List TypeId} (h:K7 T code i b args tys get k=some r):∃ orc rd wr dv upd out,wu T i b (aI args) tys orc (aX rd (bT get))=some out∧fC out.obs∧out.v=den dv∧out.upd=dh upd∧(∀ p∈upd,p.1=nid i∨p.1∈wr)∧k dv upd rd wr=some r:=by
 unfold K7 at h;unfold wu;split at h
 ·obtain⟨orc,dv,out,h1,h2,h3,h4,h5⟩:=Vq h;exact⟨orc,[],[],dv,[],out,h1,h2,h3,h4,by simp,h5⟩
 ·obtain⟨dv,out,h1,h2,h3,h4,h5⟩:=OV h;exact⟨.none,[],[],dv,[],out,h1,h2,h3,h4,by simp,h5⟩
 ·obtain⟨dv,out,h1,h2,h3,h4,h5⟩:=OV h;exact⟨.none,[],[],dv,[],out,h1,h2,h3,h4,by simp,h5⟩
 ·split at h
  ·rename_i htu;obtain⟨orc,rd,wr,dv,upd,out,h1,h2⟩:=NT h;refine⟨orc,rd,wr,dv,upd,out,?_,h2⟩;simp only[aI];rw[if_pos htu];exact h1
  ·cases h
 ·cases h
theorem JX (ρ:Operand->DV X) (l:List Operand):l.map (fun x=>den (ρ x))=aI (l.map ρ):=by rw[jm,map_map];rfl
theorem OY {o:Oper} {ρ:Operand->DV X} (h:opD T code i o.op ρ get k=some r):ac2 T i o ρ get k r:=by
 obtain⟨dst,op,ty,pos,after,guard⟩:=o;unfold ac2 kF;simp only at h;unfold opD at h;split at h
 ·exact⟨.none,[],[],_,[],_,rfl,trivial,rfl,rfl,by simp,h⟩
 ·exact⟨.none,[],[],_,[],_,rfl,trivial,rfl,rfl,by simp,h⟩
 ·rename_i c a b;split at h
  ·rename_i t hc;refine⟨.none,[],[],_,[],⟨RU t (den (ρ a)) (den (ρ b)),[],[]⟩,?_,trivial,(Yi t _ _).symm,rfl,by simp,h⟩;simp only[hc,den,CT.tv,TV.av,pv]
  ·cases h
 ·obtain⟨dv,u,out,h1,h2,h3,h4,h5⟩:=QK h;exact⟨.none,[],[],dv,_,out,h1,h2,h3,h4,by simp,h5⟩
 ·obtain⟨dv,u,out,h1,h2,h3,h4,h5⟩:=Vr h;exact⟨.none,[],[],dv,_,out,h1,h2,h3,h4,by simp,h5⟩
 ·rename_i t parts;obtain⟨dv,out,h1,h2,h3,h4,h5⟩:=QJ h;refine⟨.none,[],[],dv,[],out,?_,h2,h3,h4,by simp,h5⟩;rw[map_map]at h1;exact h1
 ·rename_i t len parts;obtain⟨dv,u,out,h1,h2,h3,h4,h5⟩:=EP h;refine⟨.none,[],[],dv,_,out,?_,h2,h3,h4,by simp,h5⟩;rw[map_map]at h1;exact h1
 ·obtain⟨orc,rd,dv,out,h1,h2,h3,h4,h5⟩:=Yj h;exact⟨orc,rd,[],dv,[],out,h1,h2,h3,h4,by simp,h5⟩
 ·obtain⟨orc,kk,u,out,h1,h2,h3,h4,h5⟩:=Yl h;exact⟨orc,[kk],[kk],.undef,_,out,h1,h2,h3,h4,by simp,h5⟩
 ·obtain⟨dv,out,h1,h2,h3,h4,h5⟩:=Vp h;exact⟨.none,[],[],dv,[],out,h1,h2,h3,h4,by simp,h5⟩
 ·obtain⟨dv,out,h1,h2,h3,h4,h5⟩:=Ym h;exact⟨.none,[],[],dv,[],out,h1,h2,h3,h4,by simp,h5⟩
 ·rename_i f first caps
  refine⟨.none,[],[],_,[],⟨.fn f (first.toList.map fun x=>den (ρ x)) (caps.toList.map fun x=>den (ρ x)),[],[]⟩,rfl,trivial,?_,rfl,by simp,h⟩;simp only[den,JX]
 ·rename_i t x lo hi;obtain⟨orc,rd,dv,out,h1,h2,h3,h4,h5⟩:=QL h;refine⟨orc,rd,[],dv,[],out,?_,h2,h3,h4,by simp,h5⟩;simp only[Option.map_map]at h1;exact h1
 ·obtain⟨dv,out,h1,h2,h3,h4,h5⟩:=GH h;exact⟨.none,[],[],dv,[],out,h1,h2,h3,h4,by simp,h5⟩
 ·obtain⟨dv,out,h1,h2,h3,h4,h5⟩:=QH h;exact⟨.none,[],[],dv,[],out,h1,h2,h3,h4,by simp,h5⟩
 ·obtain⟨orc,rd,dv,out,h1,h2,h3,h4,h5⟩:=GI h;exact⟨orc,rd,[],dv,[],out,h1,h2,h3,h4,by simp,h5⟩
 ·obtain⟨dv,out,h1,h2,h3,h4,h5⟩:=Lb h;exact⟨.none,[],[],dv,[],out,h1,h2,h3,h4,by simp,h5⟩
 ·rename_i b args tys;obtain⟨orc,rd,wr,dv,upd,out,h1,h2⟩:=Ld h;refine⟨orc,rd,wr,dv,upd,out,?_,h2⟩;simp only[JX];exact h1
 ·cases h
end
inductive Pt (ι:Type) where
 |v (c:CT ι)
 |o (k:Nat)
 |p (k:Nat)
 |nil
 |f (F:FuncId) (fs cs:List (Pt ι))
 |od (k:Nat)
 |mp (k:Nat)
 |oz (k:Nat)
 |a (ps:List (Pt ι))
inductive OP (ι:Type) where
 |l (c:CT ι)
 |m (k v:CT ι)
 |c (sz:Nat) (rows:List (List (Pt ι)))
section
variable {ι:Type}
mutual
def Pt.vars:Pt ι->List (CT ι)
 | .v c=>[c]
 | .a ps=>varsL ps
 | .f _ fs cs=>varsL fs++varsL cs
 | .od _=>[.int .i64]
 |_=>[]
def varsL:List (Pt ι)->List (CT ι)
 |[]=>[]
 |p::ps=>p.vars++varsL ps
end
def varsS:List (Nat×Pt ι)->List (CT ι)
 |[]=>[]
 |p::ps=>p.2.vars++varsS ps
def oV:List (List (Pt ι))->List (CT ι)
 |[]=>[]
 |r::rs=>varsL r++oV rs
def varsO:List (Nat×OP ι)->List (CT ι)
 |[]=>[]
 |(_,.l c)::r=> .sl c::varsO r
 |(_,.m k v)::r=> .mp k v::varsO r
 |(_,.c _ rows)::r=>oV rows++varsO r
end
section
variable {X:SX}
structure DC (X:SX) where
 c:CT X.ι
 x:CT.T X.toSE c
@[reducible] def VT:List (CT X.ι)->Type
 |[]=>Unit
 |[c]=>CT.T X.toSE c
 |c::c'::l=>CT.T X.toSE c×VT (c'::l)
def NU:(l:List (CT X.ι))->List (DC X)->Option (VT (X:=X) l)
 |[],[]=>some ()
 |[c],[d]=>bZ d.c c d.x
 |c::c'::l,d::ds=>(bZ d.c c d.x).bind fun x=>(NU (c'::l) ds).bind fun v=>some (x,v)
 |_,_=>none
def oW:(l:List (CT X.ι))->VT (X:=X) l->List (DC X)
 |[],_=>[]
 |[c],x=>[⟨c,x⟩]
 |c::c'::l,v=>⟨c,v.1⟩::oW (c'::l) v.2
theorem Sz {d:DC X} {c:CT X.ι} {x:CT.T X.toSE c} (h:bZ d.c c d.x=some x):(⟨c,x⟩:DC X)=d:=by
 obtain⟨a,y⟩:=d;obtain⟨e,h⟩:=ic h;simp only at e;subst e;subst h;rfl
theorem Le:∀ {l:List (CT X.ι)} {ds:List (DC X)} {v:VT (X:=X) l},NU l ds=some v->oW l v=ds
 |[],[],_,_=>rfl
 |[c],[d],v,h=>by simp only[NU]at h;simp only[oW,Sz h]
 |c::c'::l,d::ds,v,h=>by
  simp only[NU]at h;rw[ai]at h;obtain⟨x,h1,h⟩:=h;rw[ai]at h;obtain⟨v',h2,h⟩:=h;injection h with h;subst h;simp only[oW,Sz h1,Le h2]
 |[],_::_,_,h=>by simp[NU]at h
 |[_],[],_,h=>by simp[NU]at h
 |[_],_::_::_,_,h=>by simp[NU]at h
 |_::_::_,[],_,h=>by simp[NU]at h
theorem Lf {c:CT X.ι} (x:CT.T X.toSE c):bZ c c x=some x:=by
 unfold bZ;split
 ·rfl
 ·rename_i h _;exact absurd rfl h
def OZ (d:DC X):Nat:=match bZ d.c (.int .i64) d.x with |some x=>Int.toNat x |none=>0
section
variable (olen:Nat->Nat)
mutual
def eP:Pt X.ι->List (DC X)->DV X×List (DC X)
 | .v _,L=>match L with
  |d::r=>(.c d.c d.x,r)
  |[]=>(.undef,[])
 | .o k,L=>(.own k 0 (olen k),L)
 | .p k,L=>(.ptr k 0 0,L)
 | .mp k,L=>(.mp k,L)
 | .oz k,L=>(.oz k (olen k),L)
 | .nil,L=>(.nil,L)
 | .f F fs cs,L=>(.fn F (ePs fs L).1 (ePs cs (ePs fs L).2).1,(ePs cs (ePs fs L).2).2)
 | .od k,L=>match L with
  |d::r=>(.own k (OZ d) (olen k - OZ d),r)
  |[]=>(.undef,[])
 | .a ps,L=>(.agg (ePs ps L).1,(ePs ps L).2)
def ePs:List (Pt X.ι)->List (DC X)->List (DV X)×List (DC X)
 |[],L=>([],L)
 |p::ps,L=>((eP p L).1::(ePs ps (eP p L).2).1,(ePs ps (eP p L).2).2)
end
def vo:List (Nat×Pt X.ι)->List (DC X)->List (Nat×DV X)
 |[],_=>[]
 |(t,p)::r,L=>(t,(eP olen p L).1)::vo r (eP olen p L).2
def oZ:List (List (Pt X.ι))->List (DC X)->List (List (DV X))×List (DC X)
 |[],L=>([],L)
 |r::rs,L=>((ePs olen r L).1::(oZ rs (ePs olen r L).2).1,(oZ rs (ePs olen r L).2).2)
def aO:List (Nat×OP X.ι)->List (DC X)->List (Nat×Option (DObj X))
 |[],_=>[]
 |(k,.l _)::r,L=>match L with
  |⟨.sl c',x⟩::L=>(k,some (.lst c' x))::aO r L
  |_=>[]
 |(k,.m _ _)::r,L=>match L with
  |⟨.mp kc vc,x⟩::L=>(k,some (.map kc vc x))::aO r L
  |_=>[]
 |(k,.c sz rows)::r,L=>(k,some (.cells sz (oZ olen rows L).1))::aO r (oZ olen rows L).2
end
def lens:List (Nat×OP X.ι)->List (DC X)->List (Nat×Nat)
 |[],_=>[]
 |(k,.l _)::r,L=>match L with
  |⟨.sl _,x⟩::L=>(k,List.length x)::lens r L
  |_=>[]
 |(_,.m _ _)::r,L=>lens r (L.drop 1)
 |(_,.c _ rows)::r,L=>lens r (L.drop (oV rows).length)
def zipS:Nat->List (Pt X.ι)->List (Nat×Pt X.ι)
 |_,[]=>[]
 |n,p::ps=>(n,p)::zipS (n+1) ps
theorem GK:∀ (n:Nat) (ps:List (Pt X.ι)),varsS (zipS n ps)=varsL ps
 |_,[]=>rfl
 |n,p::ps=>by simp only[zipS,varsS,varsL,GK (n+1) ps]
structure GSig (X:SX) where
 inP:List (Pt X.ι)
 inO:List (Nat×OP X.ι)
 outP:List (Pt X.ι)
 outO:List (Nat×OP X.ι)
 fn:VT (X:=X) (varsL inP++varsO inO)->Option (VT (X:=X) (varsS (zipS 0 outP)++varsO outO))
def vv (O:List (Nat×OP X.ι)) (L:List (DC X)) (k:Nat):Nat:=(lk (lens O L) k).getD 0
def Lg (ps:List (Pt X.ι)) (O:List (Nat×OP X.ι)) (L:List (DC X)):List (DV X):=(ePs (vv O (L.drop (varsL ps).length)) ps (L.take (varsL ps).length)).1
def SA (ps:List (Pt X.ι)) (O:List (Nat×OP X.ι)) (L:List (DC X)):List (Nat×Option (DObj X)):=aO (vv O (L.drop (varsL ps).length)) O (L.drop (varsL ps).length)
def su:List (DV X)->DV X
 |[d]=>d
 |ds=> .tup ds
def aS:List (Nat×Option (DObj X))->List (Nat×DObj X)
 |[]=>[]
 |(k,some o)::r=>(k,o)::aS r
 |(_,none)::r=>aS r
def mD (l:List (Nat×DObj X)):List (Nat×aF):=l.map fun p=>(p.1,aH p.2)
def GSig.args (g:GSig X) (v:VT (X:=X) (varsL g.inP++varsO g.inO)):List (DV X):=Lg g.inP g.inO (oW _ v)
def GSig.objs (g:GSig X) (v:VT (X:=X) (varsL g.inP++varsO g.inO)):List (Nat×DObj X):=aS (SA g.inP g.inO (oW _ v))
def GSig.res (g:GSig X) (r:VT (X:=X) (varsS (zipS 0 g.outP)++varsO g.outO)):DV X:=su (Lg g.outP g.outO (oW _ r))
def GSig.outs (g:GSig X) (r:VT (X:=X) (varsS (zipS 0 g.outP)++varsO g.outO)):List (Nat×DObj X):=aS (SA g.outP g.outO (oW _ r))
def ZV (P:Program) (f:FuncId) (g:GSig X):Prop:=∀ v r,g.fn v=some r->FnG P f (aI (g.args v)) ((g.objs v).map fun p=>aH p.2) (mD (g.outs r)) (den (g.res r))
end
inductive AT (ι:Type) where
 |d (c:CT ι)
 |ref (c:CT ι)
 |clo (as:List (CT ι)) (r:CT ι)
 |mut (c:CT ι)
 |mref (c:CT ι)
 |nil
 deriving DecidableEq
def AT.im {ι:Type}:AT ι->Bool
 | .mut _ | .mref _=>true
 |_=>false
def AT.pl {ι:Type}:AT ι->Bool
 | .mut _ | .mref _ | .nil=>false
 |_=>true
inductive RT (ι:Type) where
 |d (c:CT ι)
 |fresh (e:CT ι)
 |whole (j:Nat)
 |mu (c:CT ι)
 |mr (c:CT ι)
 |mv
def RT.out {ι:Type}:RT ι->Bool
 | .mu _ | .mr _ | .mv=>true
 |_=>false
section
variable (X:SX)
@[reducible] def AT.T:AT X.ι->Type
 | .d c=>CT.T X.toSE c
 | .ref c=>CT.T X.toSE c
 | .clo as r=>HL X.toSE as->Option (CT.T X.toSE r)
 | .mut c=>List (CT.T X.toSE c)
 | .mref c=>CT.T X.toSE c
 | .nil=>Unit
@[reducible] def RT.T:RT X.ι->Type
 | .d c=>CT.T X.toSE c
 | .fresh e=>List (CT.T X.toSE e)
 | .whole _=>Unit
 | .mu c=>List (CT.T X.toSE c)
 | .mr c=>CT.T X.toSE c
 | .mv=>Unit
@[reducible] def dY:List (AT X.ι)->Type
 |[]=>Unit
 |a::l=>AT.T X a×dY l
@[reducible] def mh:List (RT X.ι)->Type
 |[]=>Unit
 |[r]=>RT.T X r
 |r::r'::l=>RT.T X r×mh (r'::l)
structure Sig where
 args:List (AT X.ι)
 res:List (RT X.ι)
 fn:dY X args->Option (mh X res)
 gen:Option (GSig X):=none
variable {X}
def bq:Nat->(l:List (AT X.ι))->dY X l->List AV
 |_,[],_=>[]
 |n,.d c::l,a=>(CT.tv X.toSE c a.1).av::bq n l a.2
 |n,.ref c::l,a=> .rptr (CT.row X.toSE c a.1) 0::bq n l a.2
 |n,.clo as r::l,a=>den (.clo as r a.1:DV X)::bq n l a.2
 |n,.mut _::l,a=> .own n 0 (List.length a.1)::bq (n+1) l a.2
 |n,.mref _::l,a=> .ptr n 0 0::bq (n+1) l a.2
 |n,.nil::l,a=> .nilsl::bq n l a.2
abbrev sw (l:List (AT X.ι)) (a:dY X l):List AV:=bq 0 l a
def lJ (c:CT X.ι) (l:List (CT.T X.toSE c)):bJ:=(CT.sz X c,l.map (CT.row X.toSE c))
def kJ:(l:List (AT X.ι))->dY X l->List bJ
 |[],_=>[]
 | .mut c::l,a=>lJ c a.1::kJ l a.2
 | .mref c::l,a=>lJ c [a.1]::kJ l a.2
 | .d _::l,a=>kJ l a.2
 | .ref _::l,a=>kJ l a.2
 | .clo _ _::l,a=>kJ l a.2
 | .nil::l,a=>kJ l a.2
def kK:(r:RT X.ι)->RT.T X r->List (Option bJ)
 | .mu c,x=>[some (lJ c x)]
 | .mr c,x=>[some (lJ c [x])]
 | .mv,_=>[none]
 |_,_=>[]
def jo:(l:List (RT X.ι))->mh X l->List (Option bJ)
 |[],_=>[]
 |[r],x=>kK r x
 |r::r'::l,x=>kK r x.1++jo (r'::l) x.2
def NV:(r:RT X.ι)->RT.T X r->List Nat
 | .mu _,x=>[List.length x]
 | .mr _,_=>[1]
 | .mv,_=>[0]
 |_,_=>[]
def QM:(l:List (RT X.ι))->mh X l->List Nat
 |[],_=>[]
 |[r],x=>NV r x
 |r::r'::l,x=>NV r x.1++QM (r'::l) x.2
def Lh (ns:List Nat):(r:RT X.ι)->RT.T X r->List RC
 | .d c,x=>[.d (CT.tv X.toSE c x)]
 | .fresh e,l=>[.fresh (CT.sz X e) (l.map (CT.row X.toSE e))]
 | .whole j,_=>[.whole j (ns.getD j 0)]
 |_,_=>[]
def vw (ns:List Nat):(l:List (RT X.ι))->mh X l->List RC
 |[],_=>[]
 |[r],x=>Lh ns r x
 |r::r'::l,x=>Lh ns r x.1++vw ns (r'::l) x.2
def mE (l:List (RT X.ι)) (x:mh X l):RV:=
 match vw (QM l x) l x with
 |[c]=> .one c
 |cs=> .tup cs
def GOk (P:Program) (Γ:FuncId->Option (Sig X)):Prop:=
 ∀ f s,Γ f=some s->eO P f∧(∀ a r,s.fn a=some r->FnW P f (sw s.args a) (kJ s.args a) (jo s.res r) (mE s.res r))∧∀ g,s.gen=some g->ZV P f g
theorem ac3:∀ {l:List (AT X.ι)},(l.all fun q=>q.pl)=true->(l.all fun q=>!q.im)=true:=fun {l} h=>by
 rw[all_eq_true]at h ⊢;intro q hq;have:=h q hq;cases q<;>simp_all [AT.pl,AT.im]
theorem sD:∀ {l:List (AT X.ι)} {a:dY X l},(l.all fun q=>!q.im)=true->kJ l a=[]
 |[],_,_=>rfl
 | .d _::l,a,h=>sD (l:=l) (by simpa[AT.im]using h)
 | .ref _::l,a,h=>sD (l:=l) (by simpa[AT.im]using h)
 | .clo _ _::l,a,h=>sD (l:=l) (by simpa[AT.im]using h)
 | .mut _::l,a,h=>by simp[AT.im]at h
 | .mref _::l,a,h=>by simp[AT.im]at h
 | .nil::l,a,h=>sD (l:=l) (by simpa[AT.im]using h)
theorem SB {r:RT X.ι} {x:RT.T X r} (h:(!r.out)=true):kK r x=[]:=by cases r<;>first |rfl |simp[RT.out]at h
theorem SC:∀ {l:List (RT X.ι)} {x:mh X l},(l.all fun q=>!q.out)=true->jo l x=[]
 |[],_,_=>rfl
 |[r],x,h=>SB (by simpa using h)
 |r::r'::l,x,h=>by
  simp only[all_cons,and_eq_true]at h;simp only[jo,SB h.1,nil_append];exact SC (l:=r'::l) (by simp only[all_cons,and_eq_true];exact h.2)
mutual
def drefs:DV X->List Nat
 | .own k _ _=>[k]
 | .ptr k _ _=>[k]
 | .ptl k _ _=>[k]
 | .pta k _ _ _ _=>[k]
 | .mp k=>[k]
 | .oz k _=>[k]
 | .agg cs=>aD cs
 | .tup cs=>aD cs
 | .fn _ first caps=>aD first++aD caps
 |_=>[]
def aD:List (DV X)->List Nat
 |[]=>[]
 |x::xs=>drefs x++aD xs
end
theorem xW (c:CT X.ι) (x:CT.T X.toSE c):refs (CT.tv X.toSE c x).av=[]:=by
 cases c<;>try rfl
 rename_i i;show bH ((X.row i x).map AV.t)=[];generalize X.row i x=l
 induction l with
 |nil=>rfl
 |cons y ys ih=>simp only[map_cons,bH,refs,ih,nil_append]
mutual
theorem dR:∀ x:DV X,refs (den x)=drefs x
 | .c t x=>xW t x
 | .agg cs=>by simp only[den,refs,drefs,dG cs]
 | .tup cs=>by simp only[den,refs,drefs,dG cs]
 | .own _ _ _=>rfl
 | .ptr _ _ _=>rfl
 | .ptl _ _ _=>rfl
 | .mp _=>rfl
 | .oz _ _=>rfl
 | .pta _ _ _ _ _=>rfl
 | .rp _ _ _=>rfl
 | .rpa _ _ _ _ _=>rfl
 | .fn f first caps=>by simp only[den,refs,drefs,dG first,dG caps]
 | .clo _ _ _=>rfl
 | .raw v=>by
  simp only[den,drefs,cv];split
  ·rfl
  ·split<;>rfl
 | .nil=>rfl
 | .ub=>rfl
 | .skip=>rfl
 | .undef=>rfl
theorem dG:∀ l:List (DV X),bH (aI l)=aD l
 |[]=>rfl
 |x::xs=>by simp only[aI,bH,aD,dR x,dG xs]
end
def IG (get:Nat->Option (DObj X)) (d:DV X) (c:CT X.ι):Option (CT.T X.toSE c×List Bool):=
 match d,c with
 | .own kk off len,.sl e=>(get kk).bind fun o=>match o with
  | .lst b l=>(bZ (.sl b) (.sl e) l).bind fun (l:List (CT.T X.toSE e))=>some (sub l off len,[eqL (sub l off len).length len])
  |_=>none
 | .own kk off len,.any=>(get kk).bind fun o=>match o with
  | .lst b l=>some (.sl (List.map (CT.row X.toSE b) (sub l off len)),[eqL (sub l off len).length len])
  |_=>none
 | .oz kk len,.sl e=>(get kk).bind fun o=>match o with
  | .lst b l=>(bZ (.sl b) (.sl e) l).bind fun (l:List (CT.T X.toSE e))=>some (sub l 0 len,[eqL (sub l 0 len).length len])
  |_=>none
 |d,c=>(Ct d c).bind fun x=>some (x,[])
def qj (get:Nat->Option (DObj X)):List (DV X)->(l:List (CT X.ι))->Option (HL X.toSE l×List Bool)
 |[],[]=>some ((),[])
 |d::ds,c::l=>(IG get d c).bind fun x=>(qj get ds l).bind fun h=>some ((x.1,h.1),x.2++h.2)
 |_,_=>none
def O1 (get:Nat->Option (DObj X)) (d:DV X) (i:X.ι):Option (CT.T X.toSE (.st i)×List Bool):=
 match d with
 | .agg cs=>(qj get cs (X.tys i)).bind fun h=>some (X.make i h.1,h.2)
 | .c a x=>(bZ a (.st i) x).bind fun x=>some (x,[])
 |_=>none
def zx (get:Nat->Option (DObj X)) (d:DV X) (c:CT X.ι):Option (CT.T X.toSE c×List Bool):=
 match c with
 | .st i=>O1 get d i
 |c=>IG get d c
def ZW (get:Nat->Option (DObj X)) (d:DV X) (c:CT X.ι):Option (CT.T X.toSE c):=
 match d with
 | .ptr kk row 0=>(get kk).bind fun o=>match o with
  | .cells _ rows=>(rows[row]?).bind fun q=>if q.all (fun x=>match x with | .c _ _=>true |_=>false)then EM c q else none
  |_=>none
 | .rp a x 0=>bZ a c x
 |_=>none
def apA:(l l':List (AT X.ι))->dY X l->dY X l'->dY X (l++l')
 |[],_,_,b=>b
 |_::l,l',a,b=>(a.1,apA l l' a.2 b)
def hlA:(as:List (CT X.ι))->HL X.toSE as->dY X (as.map AT.d)
 |[],_=>()
 |_::l,h=>(h.1,hlA l h.2)
def kL:List (AT X.ι)->Nat
 |[]=>0
 |q::l=>(if q.im then 1 else 0)+kL l
theorem gM:∀ (n:Nat) (l l':List (AT X.ι)) (a:dY X l) (b:dY X l'),bq n (l++l') (apA l l' a b)=bq n l a++bq (n+kL l) l' b
 |n,[],_,_,_=>rfl
 |n,.d c::l,l',a,b=>by simp[bq,apA,gM n l l' a.2 b,kL,AT.im]
 |n,.ref c::l,l',a,b=>by simp[bq,apA,gM n l l' a.2 b,kL,AT.im]
 |n,.clo as r::l,l',a,b=>by simp[bq,apA,gM n l l' a.2 b,kL,AT.im]
 |n,.mut c::l,l',a,b=>by simp[bq,apA,gM (n+1) l l' a.2 b,kL,AT.im,Nat.add_assoc]
 |n,.mref c::l,l',a,b=>by simp[bq,apA,gM (n+1) l l' a.2 b,kL,AT.im,Nat.add_assoc]
 |n,.nil::l,l',a,b=>by simp[bq,apA,gM n l l' a.2 b,kL,AT.im]
theorem GL:∀ (n:Nat) (as:List (CT X.ι)) (h:HL X.toSE as),bq n (as.map AT.d) (hlA as h)=(HL.tvs X.toSE as h).map TV.av
 |_,[],_=>rfl
 |n,c::l,h=>congrArg ((CT.tv X.toSE c h.1).av:: ·) (GL n l h.2)
def ab6 {a b:CT X.ι} (h:a=b) (o:Option (CT.T X.toSE a)):Option (CT.T X.toSE b):=h ▸ o
def fH (get:Nat->Option (DObj X)) (clof:FuncId->List (DV X)->List (DV X)->(as:List (CT X.ι))->(r:CT X.ι)->Option ((HL X.toSE as->Option (CT.T X.toSE r))×List Bool)):List (DV X)->(l:List (AT X.ι))->Option (dY X l×List Bool)
 |[],[]=>some ((),[])
 |d::ds,.d c::l=>(zx get d c).bind fun x=>(fH get clof ds l).bind fun h=>some ((x.1,h.1),x.2++h.2)
 |d::ds,.ref c::l=>(ZW get d c).bind fun x=>(fH get clof ds l).bind fun h=>some ((x,h.1),h.2)
 |d::ds,.clo as r::l=>(match d with
  | .clo as' r' φ=>if h:as'=as∧r'=r then some (fun x=>ab6 h.2 (φ (h.1 ▸ x)),[])else none
  | .fn f first caps=>clof f first caps as r
  |_=>none).bind fun φ=>(fH get clof ds l).bind fun q=>some ((φ.1,q.1),φ.2++q.2)
 |_,_=>none
def II (Γ:FuncId->Option (Sig X)) (get:Nat->Option (DObj X)):Nat->List (DV X)->(l:List (AT X.ι))->Option (dY X l×List Bool)
 | 0,ds,l=>fH get (fun _ _ _ _ _=>none) ds l
 |n+1,ds,l=>fH get (fun f first caps as r=>(Γ f).bind fun s=>match s with
   |⟨sa,[.d r'],fn,_⟩=>
    if h:r'=r∧sa=sa.take first.length++(as.map AT.d++sa.drop (first.length+as.length))then
     (II Γ get n first (sa.take first.length)).bind fun hf=>(II Γ get n caps (sa.drop (first.length+as.length))).bind fun hc=>
      some (fun x=>ab6 h.1 (fn (h.2 ▸ apA _ _ hf.1 (apA _ _ (hlA as x) hc.1))),hf.2++hc.2)
    else none
   |_=>none) ds l
section
variable {P:Program} {Γ:FuncId->Option (Sig X)} {get:Nat->Option (DObj X)} {rd:List Nat}
theorem dz {a b:List Prop} (h:∀ p∈a,p) (h':∀ p∈b,p):∀ p∈a++b,p:=fun p hp=>(mem_append.1 hp).elim (h p) (h' p)
theorem Aj {d:DV X} {c:CT X.ι} {x:CT.T X.toSE c×List Bool} (h:IG get d c=some x) (hc:∀ b∈x.2,b=true) (hrd:∀ j∈drefs d,j∈rd):∃ hs obs,(∀ p∈obs,p)∧∀ rest,jJ P (aX rd (bT get)) (den d) (hs++rest)=some ((CT.tv X.toSE c x.1).av,rest,obs):=by
 have base:∀ {d:DV X} {c:CT X.ι} {x:CT.T X.toSE c},Ct d c=some x->∃ hs obs,(∀ p∈obs,p)∧∀ rest,jJ P (aX rd (bT get)) (den d) (hs++rest)=some ((CT.tv X.toSE c x).av,rest,obs):=by
  intro d c x h;unfold Ct at h;split at h
  ·rw[(dQ h).1];refine⟨[],[],by simp,fun rest=>?_⟩;simp only[nil_append,den];cases c<;>try rfl
   rename_i j;show jJ P _ (.agg ((X.row j x).map AV.t)) rest=_;have:∀ (l:List Tree) (hs:List LH),iR P (aX rd (bT get)) (l.map AV.t) hs=some (l.map AV.t,hs,[]):=by
    intro l
    induction l with
    |nil=>intro hs;rfl
    |cons y ys ih=>intro hs;simp only[map_cons,iR,jJ,bind_some,ih,nil_append]
   simp only[jJ,this,bind_some];rfl
  ·injection h with h;subst h;exact⟨[.emp],[],by simp,fun rest=>rfl⟩
  ·injection h with h;subst h;exact⟨[.emp],[],by simp,fun rest=>rfl⟩
  ·cases h
 unfold IG at h;split at h
 ·rename_i kk off len e;rw[ai]at h;obtain⟨o,h1,h⟩:=h;split at h
  ·rename_i b l0;rw[ai]at h;obtain⟨l,h2,h⟩:=h;injection h with h;subst h;have h3:(sub l off len).length=len:=(by simpa[eqL]using hc (eqL (sub l off len).length len) (by simp));obtain⟨h4,h5⟩:=eu h2;refine⟨[.rows ((sub l off len).map (CT.row X.toSE e))],[(((aH (.lst b l0):aF).rows.drop off).take len=ay ((sub l off len).map (CT.row X.toSE e))∧((sub l off len).map (CT.row X.toSE e)).length=len)],?_,fun rest=>?_⟩
   ·intro p hp;simp only[mem_singleton]at hp;subst hp;refine⟨?_,by simpa using h3⟩;simp only[aH,h5];simp[ay,sub,map_take,map_drop]
   ·simp only[cons_append,nil_append,den,jJ,bg (hrd kk (by simp[drefs])) h1,bind_some];rfl
  ·cases h
 ·rename_i kk off len;rw[ai]at h;obtain⟨o,h1,h⟩:=h;split at h
  ·rename_i b l0;injection h with h;subst h;have h3:(sub l0 off len).length=len:=(by simpa[eqL]using hc (eqL (sub l0 off len).length len) (by simp));refine⟨[.rows ((sub l0 off len).map (CT.row X.toSE b))],[(((aH (.lst b l0):aF).rows.drop off).take len=ay ((sub l0 off len).map (CT.row X.toSE b))∧((sub l0 off len).map (CT.row X.toSE b)).length=len)],?_,fun rest=>?_⟩
   ·intro p hp;simp only[mem_singleton]at hp;subst hp;refine⟨?_,by simpa using h3⟩;simp only[aH];simp[ay,sub,map_take,map_drop]
   ·simp only[cons_append,nil_append,den,jJ,bg (hrd kk (by simp[drefs])) h1,bind_some];rfl
  ·cases h
 ·rename_i kk len e;rw[ai]at h;obtain⟨o,h1,h⟩:=h;split at h
  ·rename_i b l0;rw[ai]at h;obtain⟨l,h2,h⟩:=h;injection h with h;subst h;have h3:(sub l 0 len).length=len:=(by simpa[eqL]using hc (eqL (sub l 0 len).length len) (by simp));obtain⟨h4,h5⟩:=eu h2;refine⟨[.rows ((sub l 0 len).map (CT.row X.toSE e))],[(((aH (.lst b l0):aF).rows.drop 0).take len=ay ((sub l 0 len).map (CT.row X.toSE e))∧((sub l 0 len).map (CT.row X.toSE e)).length=len)],?_,fun rest=>?_⟩
   ·intro p hp;simp only[mem_singleton]at hp;subst hp;refine⟨?_,by simpa using h3⟩;simp only[aH,h5];simp[ay,sub,map_take,map_drop]
   ·simp only[cons_append,nil_append,den,jJ,bg (hrd kk (by simp[drefs])) h1,bind_some];rfl
  ·cases h
 ·rw[ai]at h;obtain⟨y,h1,h⟩:=h;injection h with h;subst h;exact base h1
theorem EQ:∀ {ds:List (DV X)} {l:List (CT X.ι)} {h:HL X.toSE l×List Bool},qj get ds l=some h->(∀ b∈h.2,b=true)->l.all CT.one=true->(∀ j∈aD ds,j∈rd)->
 ∃ hs obs,(∀ p∈obs,p)∧∀ rest,iR P (aX rd (bT get)) (aI ds) (hs++rest)=some ((HL.row X.toSE l h.1).map AV.t,rest,obs)
 |[],[],h,_,_,_,_=>⟨[],[],by simp,fun rest=>rfl⟩
 |d::ds,c::l,h,hr,hc,ha,hrd=>by
  simp only[qj]at hr;rw[ai]at hr;obtain⟨x,h1,hr⟩:=hr;rw[ai]at hr;obtain⟨g,h2,hr⟩:=hr;injection hr with hr;subst hr;simp only[all_cons,and_eq_true]at ha;obtain⟨hs1,o1,p1,q1⟩:=Aj (P:=P) (rd:=rd) h1 (fun b hb=>hc b (by simp[hb])) (fun j hj=>hrd j (by simp[aD,hj]));obtain⟨hs2,o2,p2,q2⟩:=EQ h2 (fun b hb=>hc b (by simp[hb])) ha.2 (fun j hj=>hrd j (by simp[aD,hj]));refine⟨hs1++hs2,o1++o2,dz p1 p2,fun rest=>?_⟩;simp only[aI,iR,append_assoc,q1,bind_some,q2];show _=some ((CT.row X.toSE c x.1++HL.row X.toSE l g.1).map AV.t,rest,o1++o2);rw[map_append,<- QF ha.1 x.1];rfl
 |[],_::_,_,hr,_,_,_=>by simp[qj]at hr
 |_::_,[],_,hr,_,_,_=>by simp[qj]at hr
theorem uH {d:DV X} {c:CT X.ι} {x:CT.T X.toSE c×List Bool} (h:zx get d c=some x) (hc:∀ b∈x.2,b=true) (hrd:∀ j∈drefs d,j∈rd):∃ hs obs,(∀ p∈obs,p)∧∀ rest,jJ P (aX rd (bT get)) (den d) (hs++rest)=some ((CT.tv X.toSE c x.1).av,rest,obs):=by
 cases c
 case st i=>
  replace h:O1 get d i=some x:=h
  cases d
  case agg cs=>
   simp only[O1]at h;rw[ai]at h;obtain⟨g,h1,h⟩:=h;injection h with h;subst h;obtain⟨hs,obs,p1,q1⟩:=EQ (P:=P) (rd:=rd) h1 hc (X.flat i) (fun j hj=>hrd j (by simpa[drefs]using hj));refine⟨hs,obs,p1,fun rest=>?_⟩;simp only[den,jJ,q1,bind_some,CT.tv,TV.av];rw[X.row_make]
  case c a y=>exact Aj (c:= .st i) (x:=x) (by unfold IG;exact h) hc hrd
  all_goals cases h
 all_goals exact Aj h hc hrd
theorem SF {d:DV X} {c:CT X.ι} {x:CT.T X.toSE c} (h:ZW get d c=some x) (hrd:∀ j∈drefs d,j∈rd):∃ hs obs,(∀ p∈obs,p)∧∀ rest,jJ P (aX rd (bT get)) (den d) (hs++rest)=some (.rptr (CT.row X.toSE c x) 0,rest,obs):=by
 unfold ZW at h;split at h
 ·rename_i kk row;rw[ai]at h;obtain⟨o,h1,h⟩:=h;split at h
  ·rename_i sz rows;rw[ai]at h;obtain⟨q,h2,h⟩:=h;split at h
   ·rename_i hq;refine⟨[.row (CT.row X.toSE c x)],[(aH (.cells sz rows):aF).rows[row]? =some ((CT.row X.toSE c x).map AV.t)],?_,fun rest=>?_⟩
    ·intro p hp;simp only[mem_singleton]at hp;subst hp;simp only[aH,List.getElem?_map,h2,Option.map_some];rw[<- rJ h,jm,map_map];congr 1;refine map_congr_left fun y hy=>?_;have:=all_eq_true.1 hq y hy;cases y<;>first |exact (ab5 _).symm |simp at this
    ·simp only[cons_append,nil_append,den,jJ,bg (hrd kk (by simp[drefs])) h1,bind_some]
   ·cases h
  ·cases h
 ·rename_i a y;refine⟨[],[],by simp,fun rest=>?_⟩;simp only[den,(dQ h).2];rfl
 ·cases h
theorem Vs {n:Nat} {l l':List (AT X.ι)} (e:l=l') (b:dY X l):bq n l' (e ▸ b)=bq n l b:=by subst e;rfl
theorem wD {clof:FuncId->List (DV X)->List (DV X)->(as:List (CT X.ι))->(r:CT X.ι)->Option ((HL X.toSE as->Option (CT.T X.toSE r))×List Bool)}:∀ {ds:List (DV X)} {l:List (AT X.ι)} {a:dY X l×List Bool},fH get clof ds l=some a->(l.all fun q=>!q.im)=true
 |[],[],_,_=>rfl
 |d::ds,.d c::l,a,h=>by
  simp only[fH]at h;rw[ai]at h;obtain⟨x,h1,h⟩:=h;rw[ai]at h;obtain⟨q,h2,h⟩:=h;simpa[AT.im]using wD h2
 |d::ds,.ref c::l,a,h=>by
  simp only[fH]at h;rw[ai]at h;obtain⟨x,h1,h⟩:=h;rw[ai]at h;obtain⟨q,h2,h⟩:=h;simpa[AT.im]using wD h2
 |d::ds,.clo as r::l,a,h=>by
  simp only[fH]at h;rw[ai]at h;obtain⟨x,h1,h⟩:=h;rw[ai]at h;obtain⟨q,h2,h⟩:=h;simpa[AT.im]using wD h2
 |_::_,.mut _::_,_,h=>by simp[fH]at h
 |_::_,.mref _::_,_,h=>by simp[fH]at h
 |_::_,.nil::_,_,h=>by simp[fH]at h
 |[],_::_,_,h=>by simp[fH]at h
 |_::_,[],_,h=>by simp[fH]at h
theorem SG:∀ {n:Nat} {ds:List (DV X)} {l:List (AT X.ι)} {a:dY X l×List Bool},II Γ get n ds l=some a->(l.all fun q=>!q.im)=true
 | 0,_,_,_,h=>wD h
 |_+1,_,_,_,h=>wD h
theorem QN:∀ as:List (CT X.ι),((as.map AT.d).all fun q=>!q.im)=true
 |[]=>rfl
 |_::l=>QN l
def ac4 (P:Program) (get:Nat->Option (DObj X)) (clof:FuncId->List (DV X)->List (DV X)->(as:List (CT X.ι))->(r:CT X.ι)->Option ((HL X.toSE as->Option (CT.T X.toSE r))×List Bool)):Prop:=
 ∀ f first caps as r φ rd,clof f first caps as r=some φ->(∀ b∈φ.2,b=true)->(∀ j∈aD first++aD caps,j∈rd)->∃ hs obs,(∀ p∈obs,p)∧∀ rest,jJ P (aX rd (bT get)) (.fn f (aI first) (aI caps)) (hs++rest)=some (den (.clo as r φ.1:DV X),rest,obs)
theorem mF {n:Nat} {clof:FuncId->List (DV X)->List (DV X)->(as:List (CT X.ι))->(r:CT X.ι)->Option ((HL X.toSE as->Option (CT.T X.toSE r))×List Bool)} (hclo:ac4 P get clof):∀ {ds:List (DV X)} {l:List (AT X.ι)} {a:dY X l×List Bool},fH get clof ds l=some a->(∀ b∈a.2,b=true)->(∀ j∈aD ds,j∈rd)->
 ∃ hs obs,(∀ p∈obs,p)∧∀ rest,iR P (aX rd (bT get)) (aI ds) (hs++rest)=some (bq n l a.1,rest,obs)
 |[],[],_,_,_,_=>⟨[],[],by simp,fun rest=>rfl⟩
 |d::ds,.d c::l,a,h,hc,hrd=>by
  simp only[fH]at h;rw[ai]at h;obtain⟨x,h1,h⟩:=h;rw[ai]at h;obtain⟨q,h2,h⟩:=h;injection h with h;subst h;obtain⟨hs1,o1,p1,q1⟩:=uH (P:=P) (rd:=rd) h1 (fun b hb=>hc b (by simp[hb])) (fun j hj=>hrd j (by simp[aD,hj]));obtain⟨hs2,o2,p2,q2⟩:=mF (n:=n) hclo h2 (fun b hb=>hc b (by simp[hb])) (fun j hj=>hrd j (by simp[aD,hj]));refine⟨hs1++hs2,o1++o2,dz p1 p2,fun rest=>?_⟩;simp only[aI,iR,append_assoc,q1,bind_some,q2,bq]
 |d::ds,.ref c::l,a,h,hc,hrd=>by
  simp only[fH]at h;rw[ai]at h;obtain⟨x,h1,h⟩:=h;rw[ai]at h;obtain⟨q,h2,h⟩:=h;injection h with h;subst h;obtain⟨hs1,o1,p1,q1⟩:=SF (P:=P) (rd:=rd) h1 (fun j hj=>hrd j (by simp[aD,hj]));obtain⟨hs2,o2,p2,q2⟩:=mF (n:=n) hclo h2 hc (fun j hj=>hrd j (by simp[aD,hj]));refine⟨hs1++hs2,o1++o2,dz p1 p2,fun rest=>?_⟩;simp only[aI,iR,append_assoc,q1,bind_some,q2,bq]
 |d::ds,.clo as r::l,a,h,hc,hrd=>by
  simp only[fH]at h;rw[ai]at h;obtain⟨φ,h1,h⟩:=h;rw[ai]at h;obtain⟨q,h2,h⟩:=h;injection h with h;subst h;have hd:∃ hs obs,(∀ p∈obs,p)∧∀ rest,jJ P (aX rd (bT get)) (den d) (hs++rest)=some (den (.clo as r φ.1:DV X),rest,obs):=by
   cases d
   case clo as' r' ψ=>
    simp only at h1;split at h1
    ·rename_i e;obtain⟨rfl,rfl⟩:=e;injection h1 with h1;subst h1;exact⟨[],[],by simp,fun rest=>rfl⟩
    ·cases h1
   case fn f first caps=>
    obtain⟨hs,obs,g1,g2⟩:=hclo f first caps as r φ rd h1 (fun b hb=>hc b (by simp[hb])) (fun j hj=>hrd j (by simp only[aD,drefs,mem_append]at hj ⊢;exact .inl hj))
    exact⟨hs,obs,g1,fun rest=>by simp only[den];exact g2 rest⟩
   all_goals simp at h1
  obtain⟨hs1,o1,p1,q1⟩:=hd;obtain⟨hs2,o2,p2,q2⟩:=mF (n:=n) hclo h2 (fun b hb=>hc b (by simp[hb])) (fun j hj=>hrd j (by simp[aD,hj]));refine⟨hs1++hs2,o1++o2,dz p1 p2,fun rest=>?_⟩;simp only[aI,iR,append_assoc,q1,bind_some,q2,bq]
 |_::_,.mut _::_,_,h,_,_=>by simp[fH]at h
 |_::_,.mref _::_,_,h,_,_=>by simp[fH]at h
 |_::_,.nil::_,_,h,_,_=>by simp[fH]at h
 |[],_::_,_,h,_,_=>by simp[fH]at h
 |_::_,[],_,h,_,_=>by simp[fH]at h
theorem lU (hΓ:GOk P Γ):∀ (m:Nat) {n:Nat} {ds:List (DV X)} {l:List (AT X.ι)} {a:dY X l×List Bool} {rd:List Nat},II Γ get m ds l=some a->(∀ b∈a.2,b=true)->(∀ j∈aD ds,j∈rd)->
 ∃ hs obs,(∀ p∈obs,p)∧∀ rest,iR P (aX rd (bT get)) (aI ds) (hs++rest)=some (bq n l a.1,rest,obs)
 | 0,n,ds,l,a,rd,h,hcs,hrd=>mF (fun _ _ _ _ _ _ _ h=>by cases h) h hcs hrd
 |m+1,n,ds,l,a,rd,h,hcs,hrd=>by
  refine mF (fun f first caps as r φ rd' hc hb hrd'=>?_) h hcs hrd;rw[ai]at hc;obtain⟨s,h1,hc⟩:=hc;split at hc
  ·rename_i sa r' fn _;split at hc
   ·rename_i e;obtain⟨rfl,e2⟩:=e;rw[ai]at hc;obtain⟨hf,h2,hc⟩:=hc;rw[ai]at hc;obtain⟨hcap,h3,hc⟩:=hc;injection hc with hc;rw[<- hc]at hb;obtain⟨g1,g2,_⟩:=hΓ f _ h1;obtain⟨hs1,o1,p1,q1⟩:=lU hΓ m h2 (n:=0) (rd:=rd') (fun b hb'=>hb b (by simp[hb'])) (fun j hj=>hrd' j (by simp[hj]));obtain⟨hs2,o2,p2,q2⟩:=lU hΓ m h3 (n:=0+kL (sa.take first.length)+kL (as.map AT.d)) (rd:=rd') (fun b hb'=>hb b (by simp[hb'])) (fun j hj=>hrd' j (by simp[hj]));refine⟨.clo (fun ts u=>∃ h x,φ.1 h=some x∧ts=HL.tvs X.toSE as h∧u=CT.tv X.toSE r' x)::(hs1++hs2),o1++(o2++[eO P f∧∀ args r,(∃ h x,φ.1 h=some x∧args=HL.tvs X.toSE as h∧r=CT.tv X.toSE r' x)->FnP P f (bq 0 _ hf.1++args.map TV.av++bq (0+kL (sa.take first.length)+kL (as.map AT.d)) _ hcap.1) (.one (.d r))]),?_,fun rest=>?_⟩
    ·intro p hp;simp only[mem_append,mem_singleton]at hp;rcases hp with hp |hp |hp
     ·exact p1 p hp
     ·exact p2 p hp
     ·subst hp;refine⟨g1,?_⟩;rintro args r ⟨x,y,hxy,rfl,rfl⟩;rw[<- hc]at hxy;have hxy':fn (e2 ▸ apA _ _ hf.1 (apA _ _ (hlA as x) hcap.1))=some y:=hxy;have:=g2 _ _ hxy';have hnm:(sa.all fun q=>!q.im)=true:=(by rw[e2,List.all_append,List.all_append,SG h2,SG h3,QN];rfl);rw[sD hnm,sw,Vs e2.symm,gM,gM,GL,<- append_assoc]at this;exact KV this
    ·simp only[cons_append,append_assoc,jJ,q1,bind_some,q2];rfl
   ·cases hc
  ·cases hc
end
end
def O3 (s:ByteArray) (n:Int):Option Int:=bif decide (0<=n)then (s[n.toNat]?).map fun b=>(b.toNat:Int)else none
def ER (m:Int) (bytes:Nat):Bool:=decide (0<=m)&&decide (m.toNat*bytes<=140737488355328)&&decide (m.toNat<=maxLen)
def eD {K V:Type} (eq:K->K->Bool) (k:K):List (K×V)->Option V
 |[]=>none
 |p::r=>bif eq k p.1 then some p.2 else eD eq k r
def jq {K V:Type} (eq:K->K->Bool) (k:K) (v:V):List (K×V)->List (K×V)
 |[]=>[(k,v)]
 |p::r=>bif eq k p.1 then (k,v)::r else p::jq eq k v r
def iEq (a b:Int):Bool:=a==b
def sEq (a b:ByteArray):Bool:=a.toList==b.toList
def bEq (a b:Bool):Bool:=a==b
section
variable {X:SX} {A:Type}
def wE:(c:CT X.ι)->Option (CT.T X.toSE c->CT.T X.toSE c->Bool)
 | .int _=>some iEq
 | .str=>some sEq
 | .bool=>some bEq
 |_=>none
def Vt {ι:Type}:TyK->CT ι->Bool
 | .int a,.int b=>decide (a=b)
 | .str,.str=>true
 | .bool,.bool=>true
 |_,_=>false
def ac5 {ι:Type}:CT ι->Bool
 | .st _=>true
 |_=>false
theorem dN (a b:List (DV X)):aI (a++b)=aI a++aI b:=by simp[jm]
theorem lV (a b:List (Nat×Option (DObj X))):dh (a++b)=dh a++dh b:=by simp[dh]
def ES (ids:List Nat):List (Nat×Option (DObj X)):=ids.map fun j=>(j,none)
theorem wF (ids:List Nat):dh (ES (X:=X) ids)=ids.map fun k=>(k,none):=by simp[dh,ES]
theorem BR {ids:List Nat} {p:Nat×Option (DObj X)} (h:p∈ES ids):p.1∈ids:=by
 simp only[ES,mem_map]at h;obtain⟨j,hj,rfl⟩:=h;exact hj
variable (T:Tab) (code:TypeId->Option (CT X.ι))
def Vu:DV X->Bool
 | .nil=>true
 |_=>false
def Yn (op:BinOp) (b:DV X) (yes:Bool) (k:KK X A):Option A:=
 match op with
 | .eql=>bif yes then k b [] [] []else k (.c .bool false) [] [] []
 | .neq=>bif yes then k b [] [] []else k (.c .bool true) [] [] []
 |_=>none
def acA (op:BinOp) (t:TypeId) (x:DV X) (k:KK X A):Option A:=
 (T t).bind fun ti=>match ti.k,x with
 | .slice _,.c (.sl _) l=>Yn op .ub (List.isEmpty l) k
 | .slice _,.own _ _ len=>Yn op .ub (len==0) k
 | .slice _,.oz _ len=>Yn op (.c .bool (op== .eql)) (len==0) k
 | .slice _,.nil=>Yn op (.c .bool (op== .eql)) true k
 |_,_=>none
def ab7 (s d:TypeId) (x:DV X) (k:KK X A):Option A:=
 (T s).bind fun _=>(T d).bind fun di=>match di.k,x with
 | .int kd,.c (.int _) n=>k (.c (.int kd) (kd.wrap (iN n))) [] [] []
 |_,_=>none
def ZX (t:TypeId) (x j:DV X) (k:KK X A):Option A:=
 (T t).bind fun ti=>match ti.k,x,j with
 | .str,.c .str s,.c (.int _) n=>(O3 s n).bind fun b=>k (.c (.int .u8) b) [] [] []
 | .arr m e,.agg cs,.c (.int _) q=>(T e).bind fun ei=>bif inb q m then (Ag ei.agg ei.size ((cs.drop (q.toNat*ei.size)).take ei.size)).bind fun v=>k v [] [] []else none
 |_,_,_=>none
def O4 (t:TypeId) (x:DV X) (lo hi:Option (DV X)) (k:KK X A):Option A:=
 (T t).bind fun ti=>match ti.k,x with
 | .slice e,.nil=>(T e).bind fun _=>(NS 0 lo).bind fun l=>(NS 0 hi).bind fun h=>bif decide (l=0)&&decide (h=0)then k .nil [] [] []else none
 |_,_=>none
def GN (i:Nat) (b:Builtin) (args:List (DV X)) (tys:List TypeId) (get:Nat->Option (DObj X)) (k:KK X A):Option A:=
 match b,args,tys with
 | .cap,[.nil],[t]=>(T t).bind fun ti=>match ti.k with
  | .slice _=>k (.c (.int .i64) (0:Int)) [] [] []
  |_=>none
 | .clear,[.own kk off _],[t]=>(T t).bind fun ti=>match ti.k with
  | .slice e=>(T e).bind fun ei=>(get kk).bind fun o=>match o with
   | .lst c l=>if CT.sz X c=ei.size then k (.tup []) [(kk,some (.lst c (l.take off)))] [kk] [kk]else none
   |_=>none
  |_=>none
 | .append,[.nil,.c (.int _) m],[t,u]=>(T t).bind fun ti=>(T u).bind fun ui=>match ti.k,ui.k with
  | .slice e,.int _=>(T e).bind fun ei=>(code e).bind fun c=>if CT.sz X c=ei.size∧0 < ei.size then (EM c (ei.zero.map cvD)).bind fun z=>
   bif ER (iN m) ei.bytes then k (.own (nid i) 0 m.toNat) [(nid i,some (.lst c (List.replicate m.toNat z)))] [] []else none else none
  |_,_=>none
 |_,_,_=>none
def GQ (x:DV X) (k:KK X A):Option A:=
 match x with
 | .ptr kk r f=>k (.ptr kk r f) [] [] []
 | .ptl kk n f=>k (.ptl kk n f) [] [] []
 | .pta kk r f m n=>k (.pta kk r f m n) [] [] []
 | .rp c y f=>k (.rp c y f) [] [] []
 |_=>none
def ZY (i:Nat) (t:TypeId) (l c:DV X) (k:KK X A):Option A:=
 (T t).bind fun ti=>match ti.k,l,c with
 | .slice e,.c (.int _) n,.c (.int _) m=>(T e).bind fun ei=>(code e).bind fun c=>if CT.sz X c=ei.size∧0 < ei.size then (EM c (ei.zero.map cvD)).bind fun z=>
  bif decide (iN n<=iN m)&&(decide (0<=iN n)&&ER (iN m) ei.bytes)then k (.own (nid i) 0 n.toNat) [(nid i,some (.lst c (List.replicate n.toNat z)))] [] []else none else none
 |_,_,_=>none
def Li (i:Nat) (t:TypeId) (k:KK X A):Option A:=
 (T t).bind fun ti=>match ti.k with
 | .map kt et=>(code kt).bind fun kc=>(code et).bind fun vc=>k (.mp (nid i)) [(nid i,some (.map kc vc []))] [] []
 |_=>none
def QO (t:TypeId) (x key:DV X) (ok:Bool) (get:Nat->Option (DObj X)) (k:KK X A):Option A:=
 (T t).bind fun ti=>match ti.k,x with
 | .map kt et,.mp kk=>(T kt).bind fun ki=>(T et).bind fun ei=>(get kk).bind fun o=>match o with
  | .map kc vc l=>(wE kc).bind fun eq=>(Ct key kc).bind fun kv=>if Vt ki.k kc=true∧ei.agg=ac5 vc∧ei.size=CT.sz X vc then (EM vc (ei.zero.map cvD)).bind fun z=>
   bif ok then k (.tup [.c vc ((eD eq kv l).getD z),.c .bool (eD eq kv l).isSome]) [] [kk] []else k (.c vc ((eD eq kv l).getD z)) [] [kk] []else none
  |_=>none
 |_,_=>none
def QR (t:TypeId) (x key y:DV X) (get:Nat->Option (DObj X)) (k:KK X A):Option A:=
 (T t).bind fun ti=>match ti.k,x with
 | .map kt _,.mp kk=>(T kt).bind fun ki=>(get kk).bind fun o=>match o with
  | .map kc vc l=>(wE kc).bind fun eq=>(Ct key kc).bind fun kv=>(dat y vc).bind fun v=>if Vt ki.k kc=true then k .undef [(kk,some (.map kc vc (jq eq kv v l)))] [kk] [kk]else none
  |_=>none
 |_,_=>none
def ac6 (o:Op) (ρ:Operand->DV X):Bool:=
 match o with
 | .binOp _ _ _ y _=>Vu (ρ y)
 | .convert _ _ _=>true
 | .index _ _ _=>true
 | .nilCheck _=>true
 | .makeSlice _ _ _=>true
 | .makeMap _ none=>true
 | .lookup _ _ _ _=>true
 | .mapUpdate _ _ _ _=>true
 | .slice _ x _ _ none=>Vu (ρ x)
 | .call { callee:= .builtin b,args:=args,argTypes:=_ }=>match b,args.toList.map ρ with
  | .cap,_=>true
  | .clear,_=>true
  | .append,[_,.c (.int _) _]=>true
  |_,_=>false
 |_=>false
def acB (i:Nat) (o:Op) (ρ:Operand->DV X) (get:Nat->Option (DObj X)) (k:KK X A):Option A:=
 match o with
 | .binOp op t x y _=>if Vu (ρ y)then acA T op t (ρ x) k else none
 | .convert s d x=>ab7 T s d (ρ x) k
 | .index t x j=>ZX T t (ρ x) (ρ j) k
 | .slice t x lo hi none=>O4 T t (ρ x) (lo.map ρ) (hi.map ρ) k
 | .nilCheck x=>GQ (ρ x) k
 | .makeSlice t l c=>ZY T code i t (ρ l) (ρ c) k
 | .makeMap t none=>Li T code i t k
 | .lookup t m x ok=>QO T t (ρ m) (ρ x) ok get k
 | .mapUpdate t m x v=>QR T t (ρ m) (ρ x) (ρ v) get k
 | .call { callee:= .builtin b,args:=args,argTypes:=tys }=>GN T code i b (args.toList.map ρ) tys.toList get k
 |_=>none
def Z0 (get:Nat->Option (DObj X)) (c:CT X.ι) (ρ:Operand->DV X) (x:Operand):DV X:=
 match zx get (ρ x) c with
 |some y=> .c c y.1
 |none=>ρ x
def abt (get:Nat->Option (DObj X)) (c:CT X.ι) (ρ:Operand->DV X):List Operand->List Bool
 |[]=>[]
 |x::xs=>(match zx get (ρ x) c with |some y=>y.2 |none=>[])++abt get c ρ xs
def SH (get:Nat->Option (DObj X)) (c:CT X.ι) (ρ:Operand->DV X):List Operand->List Nat
 |[]=>[]
 |x::xs=>(match zx get (ρ x) c with |some _=>drefs (ρ x) |none=>[])++SH get c ρ xs
def abu (o:Op) (ρ:Operand->DV X) (get:Nat->Option (DObj X)):Option (CT X.ι):=
 match o with
 | .box t _=>code t
 | .assign x | .move x=>match ρ x with
  | .own kk _ _=>(get kk).bind fun o=>match o with
   | .lst c _=>some (.sl c)
   |_=>none
  |_=>none
 | .buildSlice t _ _=>(T t).bind fun ti=>match ti.k with
  | .slice e=>code e
  |_=>none
 | .store t _ _=>code t
 |_=>none
def ac7 (o:Op) (ρ:Operand->DV X):Bool:=
 match o with
 | .buildSlice _ _ parts=>!(aD (parts.toList.map fun p=>ρ p.2)).isEmpty
 | .store _ a x=>match ρ a with
  | .ptl _ _ _=>!(drefs (ρ x)).isEmpty
  |_=>false
 |_=>false
def acC (i:Nat) (o:Op) (ρ:Operand->DV X) (get:Nat->Option (DObj X)) (k:KK X A):Option A:=
 if U7 o then none else (abu T code o ρ get).bind fun c=>K4 (abt get c ρ o.operands.toList)
  (opD T code i o (Z0 get c ρ) (fun j=>if j∈SH get c ρ o.operands.toList then none else get j) fun dv upd rd wr=>
   k dv (upd++ES (SH get c ρ o.operands.toList)) (rd++SH get c ρ o.operands.toList) (wr++SH get c ρ o.operands.toList))
def ac8 (o:Op) (ρ:Operand->DV X):Bool:=
 match o with
 | .indexAddr t x (.tmp _)=>match ρ x,T t with
  | .ptr _ _ _,some ti | .rp _ _ _,some ti=>match ti.k with
   | .arr _ e=>match T e with
    |some ei=>ei.size==1
    |none=>false
   |_=>false
  |_,_=>false
 | .load _ a=>match ρ a with
  | .pta _ _ _ _ _ | .rpa _ _ _ _ _=>true
  |_=>false
 |_=>false
def qU (c:CT X.ι):List (DV X)->Option (List (CT.T X.toSE c))
 |[]=>some []
 | .c a x::r=>(bZ a c x).bind fun y=>(qU c r).bind fun l=>some (y::l)
 |_=>none
def acD (o:Op) (ρ:Operand->DV X) (get:Nat->Option (DObj X)) (k:KK X A):Option A:=
 match o with
 | .indexAddr t x j=>(T t).bind fun ti=>match ti.k,ρ x,ρ j with
  | .arr m e,.ptr kk row off,.c (.int _) n=>(T e).bind fun ei=>if ei.size=1 then bif inb n m then k (.pta kk row off m n) [] [] []else none else none
  | .arr m e,.rp c y off,.c (.int _) n=>(T e).bind fun ei=>if ei.size=1 then bif inb n m then k (.rpa c y off m n) [] [] []else none else none
  |_,_,_=>none
 | .load t a=>(T t).bind fun ti=>match ρ a with
  | .pta kk row off m n=>if ti.size=1∧ti.agg=false then (code t).bind fun c=>if c.one=true then (get kk).bind fun o=>match o with
   | .cells _ rows=>(rows[row]?).bind fun q=>(qU c ((q.drop off).take m)).bind fun (xs:List (CT.T X.toSE c))=>(at? xs n).bind fun y=>k (.c c y) [] [kk] []
   | .lst b l=>if row=0∧b.one=true then (atO l off n).bind fun y=>k (.c b y) [] [kk] []else none
   |_=>none
   else none else none
  | .rpa b y off m n=>if ti.size=1∧ti.agg=false then (code t).bind fun c=>if c.one=true then (qU c (((nS b y).drop off).take m)).bind fun (xs:List (CT.T X.toSE c))=>(at? xs n).bind fun y=>k (.c c y) [] [] []
   else none else none
  |_=>none
 |_=>none
variable {T code}
def SdAny (P:Program) (T:Tab) (i:Nat) (o:Oper) (ρ:Operand->DV X) (get:Nat->Option (DObj X)) (k:KK X A) (r:A):Prop:=
 ∃ orc rd wr dv upd out,eT P T i o orc (fun x=>den (ρ x)) (aX rd (bT get))=some out∧fC out.obs∧out.v=den dv∧out.upd=dh upd∧(∀ p∈upd,p.1=nid i∨p.1∈wr)∧k dv upd rd wr=some r
section
variable {P:Program} {get:Nat->Option (DObj X)} {k:KK X A} {r:A} {i:Nat} {o:Oper} {ρ:Operand->DV X}
theorem Z4 {t:TypeId} {x:AV} {orc:Orc} (h:(∃ n,orc= .ext n)∨∃ ids fr q,orc= .frz ids fr q):RS T t x .none=RS T t x orc:=by
 unfold RS;cases T t with
 |none=>rfl
 |some ti=>
  simp only[bind_some];generalize ti.k=kk;rcases h with ⟨n,rfl⟩ |⟨ids,fr,q,rfl⟩<;>cases kk<;>try rfl
  all_goals cases x<;>try rfl
  all_goals (rename_i y;cases y<;>try rfl)
  all_goals (rename_i y;cases y<;>rfl)
theorem Lj {t:TypeId} {x j:AV} {orc:Orc} {get:Nat->Option aF} (h:(∃ n,orc= .ext n)∨∃ ids fr q,orc= .frz ids fr q):gZ T t x j .none get=gZ T t x j orc get:=by
 unfold gZ;cases T t with
 |none=>rfl
 |some ti=>
  simp only[bind_some];generalize ti.k=kk;cases kk<;>try rfl
  case arr m e=>
   cases j<;>try rfl
   rename_i y;cases y<;>try rfl
   rename_i y;cases y<;>rfl
  cases j<;>try rfl
  rename_i e y;cases y<;>try rfl
  rename_i y;cases y<;>try rfl
  simp only;cases T e with
  |none=>rfl
  |some ei=>
   simp only[bind_some];rcases h with ⟨n,rfl⟩ |⟨ids,fr,q,rfl⟩<;>cases x<;>try rfl
   all_goals (rename_i z;cases z<;>rfl)
theorem SK {t:TypeId} {x y:AV} {orc:Orc} {get:Nat->Option aF} (h:(∃ n,orc= .ext n)∨∃ ids fr q,orc= .frz ids fr q):uz T i t x y .none get=uz T i t x y orc get:=by
 unfold uz;rcases h with ⟨n,rfl⟩ |⟨ids,fr,q,rfl⟩<;>rfl
theorem Yo {orc:Orc} {ρ:Operand->AV} {get:Nat->Option aF} (h:(∃ n,orc= .ext n)∨∃ ids fr q,orc= .frz ids fr q):kF T i o .none ρ get=kF T i o orc ρ get:=by
 obtain⟨dst,op,ty,pos,after,guard⟩:=o;cases op
 case call c=>
  obtain⟨callee,args,tys⟩:=c;cases callee<;>try rfl
  rename_i b;simp only[kF,wu];split
  ·exact Z4 h
  ·rfl
  ·rfl
  ·rw[SK h]
  ·rfl
 case slice t x lo hi mx=>cases mx<;>rcases h with ⟨n,rfl⟩ |⟨ids,fr,q,rfl⟩<;>rfl
 case makeFunc fn a b=>cases fn<;>rfl
 case indexAddr t x j=>exact Lj h
 all_goals (rcases h with ⟨n,rfl⟩ |⟨ids,fr,q,rfl⟩<;>rfl)
theorem SdAny.ext {n:Int} {rd wr:List Nat} {dv:DV X} {upd:List (Nat×Option (DObj X))} {out:Out} (h:jF T i o n (fun x=>den (ρ x)) (aX rd (bT get))=some out) (h1:fC out.obs) (h2:out.v=den dv) (h3:out.upd=dh upd) (h4:∀ p∈upd,p.1=nid i∨p.1∈wr) (h5:k dv upd rd wr=some r) (hx:X9 o.op=false:=by rfl):SdAny P T i o ρ get k r:=
 ⟨.ext n,rd,wr,dv,upd,out,by show j3 T i o n _ _=some out;unfold j3;rw[hx];simp only[cond_true,cond_false,h],h1,h2,h3,h4,h5⟩
theorem SdAny.ext2 {n:Int} {rd wr:List Nat} {dv:DV X} {upd:List (Nat×Option (DObj X))} {out:Out} (h:xQ T i o n (fun x=>den (ρ x)) (aX rd (bT get))=some out) (h1:fC out.obs) (h2:out.v=den dv) (h3:out.upd=dh upd) (h4:∀ p∈upd,p.1=nid i∨p.1∈wr) (h5:k dv upd rd wr=some r) (hx:X9 o.op=true:=by rfl):SdAny P T i o ρ get k r:=
 ⟨.ext n,rd,wr,dv,upd,out,by show j3 T i o n _ _=some out;unfold j3;rw[hx];simp only[cond_true,cond_false,h],h1,h2,h3,h4,h5⟩
theorem SdAny.ext3 {n:Int} {rd wr:List Nat} {dv:DV X} {upd:List (Nat×Option (DObj X))} {out:Out} (h:gH T i o n (fun x=>den (ρ x)) (aX rd (bT get))=some out) (h1:fC out.obs) (h2:out.v=den dv) (h3:out.upd=dh upd) (h4:∀ p∈upd,p.1=nid i∨p.1∈wr) (h5:k dv upd rd wr=some r) (hx:X9 o.op=false) (h0:jF T i o n (fun x=>den (ρ x)) (aX rd (bT get))=none):SdAny P T i o ρ get k r:=
 ⟨.ext n,rd,wr,dv,upd,out,by show j3 T i o n _ _=some out;unfold j3;rw[hx];simp only[cond_false,h0,h],h1,h2,h3,h4,h5⟩
theorem Jj {x:DV X} (h:GQ x k=some r):∃ dv,Gt (den x)=some ⟨den dv,[],[]⟩∧k dv [] [] []=some r:=by cases x<;>simp only[GQ]at h<;>first |cases h |exact⟨_,rfl,h⟩
theorem O5 {orc:Orc} {ρ:Operand->AV} {get:Nat->Option aF} (hne:∀ f args tys,o.op≠ .call { callee:= .value f,args:=args,argTypes:=tys }) (ho:∀ n,orc≠ .ext n) (hf:∀ ids fr q,orc≠ .frz ids fr q):eT P T i o orc ρ get=kF T i o orc ρ get:=by
 have e:∀ (α:Type) (a:Operand->Array Operand->Array TypeId->α) (b:α),(match o.op with | .call { callee:= .value f,args:=args,argTypes:=tys }=>a f args tys |_=>b)=b:=by
  intro α a b;split
  ·rename_i f args tys heq;exact (hne f args tys heq).elim
  ·rfl
 cases orc<;>first |exact (ho _ rfl).elim |exact (hf _ _ _ rfl).elim |exact e _ _ _
theorem SdAny.op {orc:Orc} {rd wr:List Nat} {dv:DV X} {upd:List (Nat×Option (DObj X))} {out:Out} (hne:∀ f args tys,o.op≠ .call { callee:= .value f,args:=args,argTypes:=tys })
 (h:kF T i o orc (fun x=>den (ρ x)) (aX rd (bT get))=some out) (h1:fC out.obs∧out.v=den dv∧out.upd=dh upd∧(∀ p∈upd,p.1=nid i∨p.1∈wr)∧k dv upd rd wr=some r):SdAny P T i o ρ get k r:=by
 obtain⟨orc',h'⟩:∃ orc',eT P T i o orc' (fun x=>den (ρ x)) (aX rd (bT get))=some out:=by
  by_cases hx:(∃ n,orc= .ext n)∨∃ ids fr q,orc= .frz ids fr q
  ·refine⟨.none,?_⟩;rw[O5 hne (by simp) (by simp),Yo hx,h]
  ·simp only[not_or,not_exists]at hx;exact⟨orc,by rw[O5 hne hx.1 (fun ids fr q=>hx.2 ids fr q),h]⟩
 exact⟨orc',rd,wr,dv,upd,out,h',h1⟩
theorem SdAny.call {dst:Option Tmp} {f:Operand} {args:Array Operand} {tys:Array TypeId} {ty:TypeId} {pos:String} {after:Array Edge} {guard:Option (Nat×Bool)} {orc:Orc} {rd wr:List Nat} {dv:DV X} {upd:List (Nat×Option (DObj X))} {out:Out}
 (h:fF P i (den (ρ f)) (args.toList.map fun x=>den (ρ x)) orc (aX rd (bT get))=some out) (h1:fC out.obs∧out.v=den dv∧out.upd=dh upd∧(∀ p∈upd,p.1=nid i∨p.1∈wr)∧k dv upd rd wr=some r):
 SdAny P T i ⟨dst,.call { callee:= .value f,args:=args,argTypes:=tys },ty,pos,after,guard⟩ ρ get k r:=by
 refine⟨orc,rd,wr,dv,upd,out,?_,h1⟩;unfold eT;split
 ·unfold fF jM qO at h;simp only at h;split at h<;>first |cases h |(rename_i e;cases e)
 ·unfold fF jM qO at h;simp only at h;split at h<;>first |cases h |(rename_i e;cases e)
 ·exact h
theorem BU {op:BinOp} {b:DV X} {yes:Bool} (h:Yn op b yes k=some r):∃ dv out,U6 op (den b) yes=some out∧fC out.obs∧out.v=den dv∧out.upd=[]∧k dv [] [] []=some r:=by
 unfold Yn at h;split at h
 ·cases yes with
  |true=>exact⟨b,_,rfl,trivial,rfl,rfl,h⟩
  |false=>exact⟨.c .bool false,_,rfl,trivial,rfl,rfl,h⟩
 ·cases yes with
  |true=>exact⟨b,_,rfl,trivial,rfl,rfl,h⟩
  |false=>exact⟨.c .bool true,_,rfl,trivial,rfl,rfl,h⟩
 ·cases h
theorem Vv {op:BinOp} {t:TypeId} {x:DV X} (h:acA T op t x k=some r):∃ dv out,NA T op t (den x) .nilsl=some out∧fC out.obs∧out.v=den dv∧out.upd=[]∧k dv [] [] []=some r:=by
 unfold acA at h;rw[ai]at h;obtain⟨ti,h1,h⟩:=h;split at h
 ·rename_i e c l hk;obtain⟨dv,out,g1,g2⟩:=BU h;refine⟨dv,out,?_,g2⟩;simp only[NA,h1,bind_some,hk,den,CT.tv,TV.av];rw[<- g1];congr 1;cases l<;>rfl
 ·rename_i e kk off len hk;obtain⟨dv,out,g1,g2⟩:=BU h;exact⟨dv,out,by simp only[NA,h1,bind_some,hk,den];exact g1,g2⟩
 ·rename_i e kk len hk;obtain⟨dv,out,g1,g2⟩:=BU h;exact⟨dv,out,by simp only[NA,h1,bind_some,hk,den];exact g1,g2⟩
 ·rename_i e hk;obtain⟨dv,out,g1,g2⟩:=BU h;exact⟨dv,out,by simp only[NA,h1,bind_some,hk,den];exact g1,g2⟩
 ·cases h
theorem Vw {s:ByteArray} {n b:Int} (h:O3 s n=some b):0<=n∧∃ c,s[n.toNat]? =some c∧b=c.toNat:=by
 unfold O3 at h;by_cases hn:0<=n
 ·simp only[hn,decide_true,cond_true,Option.map_eq_some_iff]at h;obtain⟨c,h1,h2⟩:=h;exact⟨hn,c,h1,h2.symm⟩
 ·simp[hn]at h
theorem O6 {m:Int} {bytes:Nat} (h:ER m bytes=true):0<=m∧m.toNat*bytes<=140737488355328∧m.toNat<=maxLen:=by simpa[ER,and_assoc]using h
theorem Jk {b:Builtin} {args:List (DV X)} {tys:List TypeId} (h:GN T code i b args tys get k=some r):
 ∃ rd wr dv upd out,nN T i b (aI args) tys (aX rd (bT get))=some out∧fC out.obs∧out.v=den dv∧out.upd=dh upd∧(∀ p∈upd,p.1=nid i∨p.1∈wr)∧k dv upd rd wr=some r:=by
 unfold GN at h;split at h
 ·rename_i t;rw[ai]at h;obtain⟨ti,h1,h⟩:=h;split at h
  ·rename_i e hk;refine⟨[],[],_,[],⟨.t (.sc (.int .i64 0)),[],[]⟩,?_,trivial,rfl,rfl,by simp,h⟩;simp only[nN,aI,den,h1,bind_some,hk];rfl
  ·cases h
 ·rename_i kk off len t;rw[ai]at h;obtain⟨ti,h1,h⟩:=h;split at h
  ·rename_i e hk;rw[ai]at h;obtain⟨ei,h2,h⟩:=h;rw[ai]at h;obtain⟨o,h3,h⟩:=h;split at h
   ·rename_i c l;split at h
    ·rename_i hs;refine⟨[kk],[kk],_,_,⟨.tup [],[(kk,some ⟨CT.sz X c,(ay (l.map (CT.row X.toSE c))).take off⟩)],[]⟩,?_,trivial,rfl,?_,by simp,h⟩
     ·simp only[nN,aI,den,h1,bind_some,hk,h2,bg (List.mem_singleton_self kk) h3,aH];rw[if_pos hs]
     ·simp[dh,aH,ay,map_take]
    ·cases h
   ·cases h
  ·cases h
 ·rename_i kd m t u;rw[ai]at h;obtain⟨ti,h1,h⟩:=h;rw[ai]at h;obtain⟨ui,h2,h⟩:=h;split at h
  ·rename_i e kn hk hk';rw[ai]at h;obtain⟨ei,h3,h⟩:=h;rw[ai]at h;obtain⟨c,h4,h⟩:=h;split at h
   ·rename_i hs;rw[ai]at h;obtain⟨z,h5,h⟩:=h;obtain⟨h6,h⟩:=aT h;obtain⟨m1,m2,m3⟩:=O6 h6;have hz:=rJ h5;rw[rY]at hz;refine⟨[],[],_,_,⟨.own (nid i) 0 m.toNat,[(nid i,some ⟨ei.size,bA (List.replicate m.toNat (ei.zero.map cv))⟩)],[0<=m∧m.toNat*ei.bytes<=140737488355328∧m.toNat<=maxLen∧0 < ei.size]⟩,?_,?_,rfl,?_,by simp,h⟩
    ·simp only[nN,aI,den,CT.tv,TV.av,h1,h2,h3,bind_some,hk,hk']
    ·exact⟨m1,m2,m3,hs.2⟩
    ·simp only[dh,map_cons,map_nil,Option.map_some,aH,hs.1,ay,bA,List.map_replicate];rw[hz]
   ·cases h
  ·cases h
 ·cases h
theorem SL {t:TypeId} {l c:DV X} (h:ZY T code i t l c k=some r):∃ dv upd out,R9 T i t (den l) (den c)=some out∧fC out.obs∧out.v=den dv∧out.upd=dh upd∧(∀ p∈upd,p.1=nid i)∧k dv upd [] []=some r:=by
 unfold ZY at h;rw[ai]at h;obtain⟨ti,h1,h⟩:=h;split at h
 ·rename_i e kl n kc m hk;rw[ai]at h;obtain⟨ei,h3,h⟩:=h;rw[ai]at h;obtain⟨c,h4,h⟩:=h;split at h
  ·rename_i hs;rw[ai]at h;obtain⟨z,h5,h⟩:=h;obtain⟨h6,h⟩:=aT h;simp only[and_eq_true,decide_eq_true_eq]at h6;obtain⟨h7,h8,h9⟩:=h6;obtain⟨m1,m2,m3⟩:=O6 h9;have hz:=rJ h5;rw[rY]at hz;refine⟨_,_,⟨.own (nid i) 0 n.toNat,[(nid i,some ⟨ei.size,bA (List.replicate n.toNat (ei.zero.map cv))⟩)],[0<=n∧n<=m∧m.toNat*ei.bytes<=140737488355328∧m.toNat<=maxLen∧0 < ei.size]⟩,?_,?_,rfl,?_,by simp,h⟩
   ·simp only[R9,den,CT.tv,TV.av,h1,h3,bind_some,hk]
   ·exact⟨h8,h7,m2,m3,hs.2⟩
   ·simp only[dh,map_cons,map_nil,Option.map_some,aH,hs.1,ay,bA,List.map_replicate];rw[hz]
  ·cases h
 ·cases h
theorem Ll {t:TypeId} (h:Li T code i t k=some r):∃ dv upd out,Ab T i t=some out∧fC out.obs∧out.v=den dv∧out.upd=dh upd∧(∀ p∈upd,p.1=nid i)∧k dv upd [] []=some r:=by
 unfold Li at h;rw[ai]at h;obtain⟨ti,h1,h⟩:=h;split at h
 ·rename_i kt et hk;rw[ai]at h;obtain⟨kc,h2,h⟩:=h;rw[ai]at h;obtain⟨vc,h3,h⟩:=h;exact⟨_,_,⟨.mp (nid i),[(nid i,some ⟨0,[]⟩)],[]⟩,by simp only[Ab,h1,bind_some,hk],trivial,rfl,rfl,by simp,h⟩
 ·cases h
theorem Z5 {ki:TyI} {kc:CT X.ι} (h:Vt ki.k kc=true) (x:CT.T X.toSE kc):∃ v,(CT.tv X.toSE kc x).av= .t (.sc v)∧Ew ki.k v=true:=by
 cases kc
 case int b=>
  refine⟨.int b x,rfl,?_⟩;cases hk:ki.k<;>rw[hk]at h<;>simp only[Vt,decide_eq_true_eq,Bool.false_eq_true]at h;subst h;simp[Ew]
 case str=>
  refine⟨.string x,rfl,?_⟩;cases hk:ki.k<;>rw[hk]at h<;>simp only[Vt,Bool.false_eq_true]at h;rfl
 case bool=>
  refine⟨.bool x,rfl,?_⟩;cases hk:ki.k<;>rw[hk]at h<;>simp only[Vt,Bool.false_eq_true]at h;rfl
 all_goals (cases hk:ki.k<;>rw[hk]at h<;>simp[Vt]at h)
theorem SQ {kc:CT X.ι} {eq:CT.T X.toSE kc->CT.T X.toSE kc->Bool} (h:wE kc=some eq) {a b:CT.T X.toSE kc} {va:Value} (ha:(CT.tv X.toSE kc a).av= .t (.sc va)):∃ vb,(CT.tv X.toSE kc b).av= .t (.sc vb)∧Im va vb=some (eq a b):=by
 cases kc
 case int q=>
  simp only[wE,Option.some.injEq]at h;subst h;simp only[CT.tv,TV.av,AV.t.injEq,Tree.sc.injEq]at ha;subst ha;exact⟨_,rfl,by simp[Im,iEq]⟩
 case str=>
  simp only[wE,Option.some.injEq]at h;subst h;simp only[CT.tv,TV.av,AV.t.injEq,Tree.sc.injEq]at ha;subst ha;exact⟨_,rfl,by simp[Im,sEq]⟩
 case bool=>
  simp only[wE,Option.some.injEq]at h;subst h;simp only[CT.tv,TV.av,AV.t.injEq,Tree.sc.injEq]at ha;subst ha;exact⟨_,rfl,by simp[Im,bEq]⟩
 all_goals simp[wE]at h
theorem O7 {kc vc:CT X.ι} {eq:CT.T X.toSE kc->CT.T X.toSE kc->Bool} (h:wE kc=some eq) {a:CT.T X.toSE kc} {va:Value} (ha:(CT.tv X.toSE kc a).av= .t (.sc va)):∀ l:List (CT.T X.toSE kc×CT.T X.toSE vc),
 ∃ r,Io va (aH (.map kc vc l:DObj X)).rows=some r∧r.map (·.2)=(eD eq a l).map fun v=>(CT.tv X.toSE vc v).av
 |[]=>⟨none,rfl,rfl⟩
 |p::l=>by
  obtain⟨vb,h1,h2⟩:=SQ h (b:=p.1) ha;obtain⟨r,g1,g2⟩:=O7 h ha l;have g1':Io va (l.map fun p=>[(CT.tv X.toSE kc p.1).av,(CT.tv X.toSE vc p.2).av])=some r:=g1;simp only[aH,map_cons,h1,Io,h2,bind_some,eD];cases eq a p.1 with
  |true=>exact⟨_,rfl,rfl⟩
  |false=>
   simp only[Bool.false_eq_true,if_false,g1',Option.map_some,cond_false];exact⟨_,rfl,by rw[<- g2,Option.map_map];rfl⟩
theorem SS {kc vc:CT X.ι} {eq:CT.T X.toSE kc->CT.T X.toSE kc->Bool} (h:wE kc=some eq) {a:CT.T X.toSE kc} {va:Value} (ha:(CT.tv X.toSE kc a).av= .t (.sc va)) (y:CT.T X.toSE vc):∀ l:List (CT.T X.toSE kc×CT.T X.toSE vc),
 Qt va (CT.tv X.toSE vc y).av (aH (.map kc vc l:DObj X)).rows=some (aH (.map kc vc (jq eq a y l):DObj X)).rows
 |[]=>by simp only[aH,map_nil,Qt,jq,map_cons,ha]
 |p::l=>by
  obtain⟨vb,h1,h2⟩:=SQ h (b:=p.1) ha;have g:=SS h ha y l;have g':Qt va (CT.tv X.toSE vc y).av (l.map fun p=>[(CT.tv X.toSE kc p.1).av,(CT.tv X.toSE vc p.2).av])=some ((jq eq a y l).map fun p=>[(CT.tv X.toSE kc p.1).av,(CT.tv X.toSE vc p.2).av]):=g;simp only[aH,map_cons,h1,Qt,h2,bind_some,jq];cases eq a p.1 with
  |true=>simp only[if_true,cond_true,map_cons,ha]
  |false=>simp only[Bool.false_eq_true,if_false,g',Option.map_some,cond_false,map_cons,h1]
theorem zero_den {vc:CT X.ι} {ei:TyI} {z:CT.T X.toSE vc} (h:EM vc (ei.zero.map cvD)=some z) (ha:ei.agg=ac5 vc) (hs:ei.size=CT.sz X vc):part' ei.agg ei.size ((ei.zero.map cv).map wk)=some (CT.tv X.toSE vc z).av:=by
 have hz:=rJ h;rw[rY]at hz;rw[hz,ha,hs];have hl:((CT.row X.toSE vc z).map AV.t).length=CT.sz X vc:=by rw[length_map,vk]
 unfold part';rw[if_pos hl];cases vc<;>rfl
theorem abv {d:DV X} {c:CT X.ι} {x:CT.T X.toSE c} (h:dat d c=some x):wkV (den d)=(CT.tv X.toSE c x).av:=by
 cases c
 case st j=>
  replace h:Vj d j=some x:=h
  cases d
  case agg cs=>
   simp only[Vj]at h;rw[ai]at h;obtain⟨g,h1,h⟩:=h;injection h with h;subst h;simp only[den,wkV,(sj h1 (X.flat j)).1];rw[<- K9];rfl
  case c a y=>
   replace h:bZ a (.st j) y=some x:=h
   rw[(dQ h).1];simp only[den,CT.tv,TV.av,wkV,map_map];congr 1
  all_goals cases h
 all_goals
  (have h':Ct d _=some x:=h
   have hd:=oQ h';cases d
   case agg=>cases h
   case c a y=>
    obtain⟨e,_⟩:=ic (show bZ a _ y=some x from h);subst e;exact hd
   all_goals first |exact hd |(cases h))
theorem NW {t:TypeId} {x key:DV X} {ok:Bool} (h:QO T t x key ok get k=some r):∃ rd dv out,BM T t (den x) (den key) ok (aX rd (bT get))=some out∧fC out.obs∧out.v=den dv∧out.upd=[]∧k dv [] rd []=some r:=by
 unfold QO at h;rw[ai]at h;obtain⟨ti,h1,h⟩:=h;split at h
 ·rename_i kt et kk hk;rw[ai]at h;obtain⟨ki,h2,h⟩:=h;rw[ai]at h;obtain⟨ei,h3,h⟩:=h;rw[ai]at h;obtain⟨o,h4,h⟩:=h;split at h
  ·rename_i kc vc l;rw[ai]at h;obtain⟨eq,h5,h⟩:=h;rw[ai]at h;obtain⟨kv,h6,h⟩:=h;split at h
   ·rename_i hc;rw[ai]at h;obtain⟨z,h7,h⟩:=h;obtain⟨va,g1,g2⟩:=Z5 hc.1 kv;obtain⟨q,g3,g4⟩:=O7 (vc:=vc) h5 g1 l;have hkey:den key= .t (.sc va):=by
     have:=oQ h6;rw[g1]at this;cases hd:den key<;>rw[hd]at this<;>simp only[wk,AV.t.injEq,reduceCtorEq]at this;subst this;rfl
    have hv:∀ q:Option (Nat×AV),q.map (·.2)=(eD eq kv l).map (fun v=>(CT.tv X.toSE vc v).av)->orZ q (part' ei.agg ei.size ((ei.zero.map cv).map wk))=some (CT.tv X.toSE vc ((eD eq kv l).getD z)).av:=by
     intro q g;cases hm:eD eq kv l with
     |none=>
      rw[hm]at g;cases q with
      |none=>exact zero_den h7 hc.2.1 hc.2.2
      |some p=>simp at g
     |some v=>
      rw[hm]at g;cases q with
      |none=>simp at g
      |some p=>simp only[Option.map_some,Option.some.injEq]at g;simp only[orZ,g,Option.getD_some]
    have hi:q.isSome=(eD eq kv l).isSome:=by
     have:=congrArg Option.isSome g4;simpa using this
    have hb:BM T t (den (.mp kk:DV X)) (den key) ok (aX [kk] (bT get))=pv (if ok then .tup [den (.c vc ((eD eq kv l).getD z):DV X),.t (.sc (.bool q.isSome))]else den (.c vc ((eD eq kv l).getD z):DV X)):=by
     simp only[BM,h1,bind_some,hk,den,hkey,h2,h3,bg (List.mem_singleton_self kk) h4];rw[if_pos ⟨g2,by simp[aH]⟩];rw[g3,bind_some,hv q g4,bind_some]
    cases ok with
    |true=>exact⟨[kk],_,_,hb,trivial,by simp only[if_true,den,aI,hi];rfl,rfl,h⟩
    |false=>exact⟨[kk],_,_,hb,trivial,rfl,rfl,h⟩
   ·cases h
  ·cases h
 ·cases h
theorem NY {t:TypeId} {x key y:DV X} (h:QR T t x key y get k=some r):∃ rd wr dv upd out,Ey T t (den x) (den key) (den y) (aX rd (bT get))=some out∧fC out.obs∧out.v=den dv∧out.upd=dh upd∧(∀ p∈upd,p.1∈wr)∧k dv upd rd wr=some r:=by
 unfold QR at h;rw[ai]at h;obtain⟨ti,h1,h⟩:=h;split at h
 ·rename_i kt et kk hk;rw[ai]at h;obtain⟨ki,h2,h⟩:=h;rw[ai]at h;obtain⟨o,h4,h⟩:=h;split at h
  ·rename_i kc vc l;rw[ai]at h;obtain⟨eq,h5,h⟩:=h;rw[ai]at h;obtain⟨kv,h6,h⟩:=h;rw[ai]at h;obtain⟨v,h7,h⟩:=h;split at h
   ·rename_i hc;obtain⟨va,g1,g2⟩:=Z5 hc kv;have g3:=SS (vc:=vc) h5 g1 v l;have hkey:den key= .t (.sc va):=by
     have:=oQ h6;rw[g1]at this;cases hd:den key<;>rw[hd]at this<;>simp only[wk,AV.t.injEq,reduceCtorEq]at this;subst this;rfl
    refine⟨[kk],[kk],_,_,⟨.undef,[(kk,some ⟨(aH (.map kc vc (jq eq kv v l):DObj X)).rows.length,(aH (.map kc vc (jq eq kv v l):DObj X)).rows⟩)],[]⟩,?_,trivial,rfl,?_,by simp,h⟩
    ·simp only[Ey,h1,bind_some,hk,den,hkey,h2,bg (List.mem_singleton_self kk) h4];rw[if_pos ⟨g2,by simp[aH]⟩,abv h7,g3];rfl
    ·simp[dh,aH]
   ·cases h
  ·cases h
 ·cases h
theorem Vx (h:acB T code i o.op ρ get k=some r):SdAny P T i o ρ get k r:=by
 obtain⟨dst,op,ty,pos,after,guard⟩:=o;unfold acB at h;simp only at h;split at h
 ·rename_i op t x y q;split at h
  ·rename_i hn;obtain⟨dv,out,g1,g2,g3,g4,g5⟩:=Vv h;have hy:den (ρ y)= .nilsl:=(by cases hρ:ρ y<;>rw[hρ]at hn<;>first |rfl |cases hn);exact SdAny.ext (n:=0) (rd:=[]) (wr:=[]) (upd:=[]) (by simp only[jF,hy];exact g1) g2 g3 g4 (by simp) g5
  ·cases h
 ·rename_i s d x;unfold ab7 at h;rw[ai]at h;obtain⟨si,h1,h⟩:=h;rw[ai]at h;obtain⟨di,h2,h⟩:=h;split at h
  ·rename_i kd k' n hk hx;refine SdAny.ext (n:=0) (rd:=[]) (wr:=[]) (upd:=[]) (out:=⟨.t (.sc (.int kd (kd.wrap n))),[],[]⟩) ?_ trivial rfl rfl (by simp) h;simp only[jF,Xi,h1,h2,bind_some,hk,hx];rfl
  ·cases h
 ·rename_i t x j;unfold ZX at h;rw[ai]at h;obtain⟨ti,h1,h⟩:=h;split at h
  ·rename_i s kk n hk hx hj;rw[ai]at h;obtain⟨b,h2,h⟩:=h;refine SdAny.ext (n:=b) (rd:=[]) (wr:=[]) (upd:=[]) (out:=⟨.t (.sc (.int .u8 b)),[],[0<=n∧∃ c,s[n.toNat]? =some c∧b=c.toNat]⟩) ?_ (Vw h2) rfl rfl (by simp) h;simp only[jF,Ky,h1,bind_some,hk,hx,hj];rfl
  ·rename_i m e cs kd q hk hx hj;rw[ai]at h;obtain⟨ei,h2,h⟩:=h;obtain⟨h3,h⟩:=aT h;rw[ai]at h;obtain⟨v,h4,h⟩:=h;simp only[inb,and_eq_true,decide_eq_true_eq]at h3;refine SdAny.ext (n:=0) (rd:=[]) (wr:=[]) (upd:=[]) (out:=⟨den v,[],[0<=q∧q < (m:Int)]⟩) ?_ h3 rfl rfl (by simp) h;have h5:=wC h4;rw[fG]at h5;simp only[jF,Ky,h1,bind_some,hk,hx,hj,h2,den,CT.tv,TV.av,h5];rfl
  ·cases h
 ·rename_i t x lo hi;unfold O4 at h;rw[ai]at h;obtain⟨ti,h1,h⟩:=h;split at h
  ·rename_i e hk hx;rw[ai]at h;obtain⟨ei,h2,h⟩:=h;rw[ai]at h;obtain⟨l,h3,h⟩:=h;rw[ai]at h;obtain⟨hh,h4,h⟩:=h;obtain⟨h5,h⟩:=aT h;refine SdAny.ext (n:=0) (rd:=[]) (wr:=[]) (upd:=[]) (out:=⟨.nilsl,[],[l=0∧hh=0]⟩) ?_ (show l=0∧hh=0 by simpa using h5) rfl rfl (by simp) h;have e1:=oU h3;have e2:=oU h4;rw[Option.map_map]at e1 e2;simp only[jF,wB,h1,bind_some,hk,hx,h2,den];have e1':bnd 0 (lo.map fun x=>den (ρ x))=some l:=e1;have e2':bnd 0 (hi.map fun x=>den (ρ x))=some hh:=e2;rw[e1',bind_some,e2'];rfl
  ·cases h
 ·rename_i x;obtain⟨dv,g1,g2⟩:=Jj h;exact SdAny.ext2 (n:=0) (rd:=[]) (wr:=[]) (upd:=[]) g1 trivial rfl rfl (by simp) g2
 ·rename_i t l c;obtain⟨dv,upd,out,g1,g2,g3,g4,g5,g6⟩:=SL h;exact SdAny.ext2 (n:=0) (rd:=[]) (wr:=[]) (upd:=upd) g1 g2 g3 g4 (fun p hp=> .inl (g5 p hp)) g6
 ·rename_i t;obtain⟨dv,upd,out,g1,g2,g3,g4,g5,g6⟩:=Ll h;exact SdAny.ext2 (n:=0) (rd:=[]) (wr:=[]) (upd:=upd) g1 g2 g3 g4 (fun p hp=> .inl (g5 p hp)) g6
 ·rename_i t m x ok;obtain⟨rd,dv,out,g1,g2,g3,g4,g6⟩:=NW h;exact SdAny.ext2 (n:=0) (rd:=rd) (wr:=[]) (upd:=[]) g1 g2 g3 g4 (by simp) g6
 ·rename_i t m x v;obtain⟨rd,wr,dv,upd,out,g1,g2,g3,g4,g5,g6⟩:=NY h;exact SdAny.ext2 (n:=0) (rd:=rd) (wr:=wr) (upd:=upd) g1 g2 g3 g4 (fun p hp=> .inr (g5 p hp)) g6
 ·rename_i b args tys;obtain⟨rd,wr,dv,upd,out,g1,g2,g3,g4,g5,g6⟩:=Jk h;refine SdAny.ext (n:=0) (rd:=rd) (wr:=wr) (upd:=upd) ?_ g2 g3 g4 g5 g6;simp only[jF,JX];exact g1
 ·cases h
theorem SV {c:CT X.ι}:∀ {xs:List Operand} {x:Operand} {y:CT.T X.toSE c×List Bool},x∈xs->zx get (ρ x) c=some y->∀ j∈drefs (ρ x),j∈SH get c ρ xs
 |z::xs,x,y,hx,h,j,hj=>by
  simp only[SH,mem_append];rcases mem_cons.1 hx with rfl |hx
  ·left;rw[h];exact hj
  ·exact .inr (SV hx h j hj)
 |[],_,_,hx,_,_,_=>by simp at hx
theorem SY {c:CT X.ι}:∀ {xs:List Operand} {x:Operand} {y:CT.T X.toSE c×List Bool},x∈xs->zx get (ρ x) c=some y->∀ b∈y.2,b∈abt get c ρ xs
 |z::xs,x,y,hx,h,b,hb=>by
  simp only[abt,mem_append];rcases mem_cons.1 hx with rfl |hx
  ·left;rw[h];exact hb
  ·exact .inr (SY hx h b hb)
 |[],_,_,hx,_,_,_=>by simp at hx
theorem Vy (h:acC T code i o.op ρ get k=some r):SdAny P T i o ρ get k r:=by
 unfold acC at h;split at h
 ·cases h
 rename_i hpick;rw[ai]at h;obtain⟨c,h1,h⟩:=h;obtain⟨hcs,h⟩:=j5 h;obtain⟨orc,rd,wr,dv,upd,out,g1,g2,g3,g4,g5,g6⟩:=OY h;generalize hids:SH get c ρ o.op.operands.toList=ids at*;refine⟨.frz ids (fun x=>den (Z0 get c ρ x)) orc,rd++ids,wr++ids,dv,upd++ES ids,⟨out.v,out.upd++ids.map (fun k=>(k,none)),out.obs++[∀ x∈o.op.operands,(Bor P (aX (rd++ids) (bT get)) (den (ρ x)) (den (Z0 get c ρ x))∧∀ k∈refs (den (ρ x)),k∈ids)∨den (Z0 get c ρ x)=den (ρ x)]⟩,?_,?_,g3,?_,?_,g6⟩
 ·unfold eT Aa;simp only;rw[if_neg hpick];have e:(fun k=>if k∈ids then none else aX (rd++ids) (bT get) k)=aX rd (bT fun j=>if j∈ids then none else get j):=by
   funext j;simp only[aX,bT,mem_append];by_cases hj:j∈ids
   ·simp[hj]
   ·simp[hj]
  rw[e,g1];rfl
 ·refine lm _ fun p hp=>?_;rcases mem_append.1 hp with hp |hp
  ·exact kS _ g2 p hp
  ·rw[mem_singleton]at hp;subst hp;intro x hx;unfold Z0;cases hl:zx get (ρ x) c with
   |none=>exact .inr rfl
   |some y=>
    left;have hx':x∈o.op.operands.toList:=(by simpa using hx);have hin:∀ j∈drefs (ρ x),j∈ids:=fun j hj=>hids ▸ SV hx' hl j hj;obtain⟨hs,obs,p1,p2⟩:=uH (P:=P) (rd:=rd++ids) hl (fun b hb=>hcs b (SY hx' hl b hb)) (fun j hj=>List.mem_append_right _ (hin j hj));refine⟨?_,fun j hj=>hin j (by rwa [dR]at hj)⟩;have:=p2 [];exact xM _ _ _ this p1
 ·simp only[lV,wF,g4]
 ·intro p hp;rcases mem_append.1 hp with hp |hp
  ·exact (g5 p hp).imp id (fun h=>List.mem_append_left _ h)
  ·exact .inr (List.mem_append_right _ (BR hp))
theorem Ak {c:CT X.ι}:∀ {ds:List (DV X)} {xs:List (CT.T X.toSE c)},qU c ds=some xs->aI ds=xs.map fun y=>den (.c c y:DV X)
 |[],xs,h=>by simp only[qU,Option.some.injEq]at h;subst h;rfl
 | .c a x::ds,xs,h=>by
  simp only[qU]at h;rw[ai]at h;obtain⟨y,h1,h⟩:=h;rw[ai]at h;obtain⟨l,h2,h⟩:=h;injection h with h;subst h;simp only[aI,map_cons,Ak h2,(dQ h1).1]
 | .agg _::_,_,h=>by simp[qU]at h
 | .tup _::_,_,h=>by simp[qU]at h
 | .own _ _ _::_,_,h=>by simp[qU]at h
 | .ptr _ _ _::_,_,h=>by simp[qU]at h
 | .ptl _ _ _::_,_,h=>by simp[qU]at h
 | .mp _::_,_,h=>by simp[qU]at h
 | .pta _ _ _ _ _::_,_,h=>by simp[qU]at h
 | .rp _ _ _::_,_,h=>by simp[qU]at h
 | .rpa _ _ _ _ _::_,_,h=>by simp[qU]at h
 | .fn _ _ _::_,_,h=>by simp[qU]at h
 | .clo _ _ _::_,_,h=>by simp[qU]at h
 | .raw _::_,_,h=>by simp[qU]at h
 | .nil::_,_,h=>by simp[qU]at h
 | .ub::_,_,h=>by simp[qU]at h
 | .skip::_,_,h=>by simp[qU]at h
 | .undef::_,_,h=>by simp[qU]at h
theorem Vz (h:acD T code o.op ρ get k=some r):SdAny P T i o ρ get k r:=by
 obtain⟨dst,op,ty,pos,after,guard⟩:=o;unfold acD at h;simp only at h;split at h
 ·rename_i t x j;rw[ai]at h;obtain⟨ti,h1,h⟩:=h;split at h
  ·rename_i m e kk row off kd n hk hx hj;rw[ai]at h;obtain⟨ei,h2,h⟩:=h;split at h
   ·rename_i hs;obtain⟨h3,h⟩:=aT h;refine SdAny.op (orc:= .none) (rd:=[]) (wr:=[]) (upd:=[]) (fun _ _ _ e=>by cases e) (out:=⟨.ptr kk row (off+n.toNat*1),[],[0<=n∧n.toNat < m]⟩) ?_ ⟨?_,?_,rfl,by simp,h⟩
    ·simp only[kF,gZ,h1,bind_some,hk,hx,hj,den,CT.tv,TV.av,h2,hs];rfl
    ·simp only[inb,and_eq_true,decide_eq_true_eq]at h3;exact⟨h3.1,by omega⟩
    ·simp only[den,Nat.mul_one]
   ·cases h
  ·rename_i m e c y off kd n hk hx hj;rw[ai]at h;obtain⟨ei,h2,h⟩:=h;split at h
   ·rename_i hs;obtain⟨h3,h⟩:=aT h;refine SdAny.op (orc:= .none) (rd:=[]) (wr:=[]) (upd:=[]) (fun _ _ _ e=>by cases e) (out:=⟨.rptr (CT.row X.toSE c y) (off+n.toNat*1),[],[0<=n∧n.toNat < m]⟩) ?_ ⟨?_,?_,rfl,by simp,h⟩
    ·simp only[kF,gZ,h1,bind_some,hk,hx,hj,den,CT.tv,TV.av,h2,hs];rfl
    ·simp only[inb,and_eq_true,decide_eq_true_eq]at h3;exact⟨h3.1,by omega⟩
    ·simp only[den,Nat.mul_one]
   ·cases h
  ·cases h
 ·rename_i t a;rw[ai]at h;obtain⟨ti,h1,h⟩:=h;split at h
  ·rename_i kk row off m n hx;split at h
   ·rename_i hs;rw[ai]at h;obtain⟨c,h2,h⟩:=h;split at h
    ·rename_i hc;rw[ai]at h;obtain⟨ob,h3,h⟩:=h;split at h
     ·rename_i sz rows;rw[ai]at h;obtain⟨q,h4,h⟩:=h;rw[ai]at h;obtain⟨xs,h5,h⟩:=h;rw[ai]at h;obtain⟨y,h6,h⟩:=h;obtain⟨_,h7⟩:=EN h6;have h8:=Ak h5;have h9:((aI q).drop (off+n.toNat)).take 1=[den (.c c y:DV X)]:=by
       have e1:(aI ((q.drop off).take m))[n.toNat]? =some (den (.c c y:DV X)):=(by rw[h8,List.getElem?_map,h7];rfl);rw[fG,List.getElem?_take]at e1;split at e1
       ·rw[List.getElem?_drop]at e1;obtain⟨g1,g2⟩:=List.getElem?_eq_some_iff.1 e1;rw[List.drop_eq_getElem_cons g1,List.take_succ_cons,List.take_zero,g2]
       ·cases e1
      refine SdAny.op (orc:= .none) (rd:=[kk]) (wr:=[]) (upd:=[]) (fun _ _ _ e=>by cases e) (out:=⟨den (.c c y:DV X),[],[]⟩) ?_ ⟨trivial,rfl,rfl,by simp,h⟩;simp only[kF,wo,h1,bind_some,hx,den,bg (List.mem_singleton_self kk) h3,aH,List.getElem?_map,h4,Option.map_some,hs.1,hs.2];rw[h9];obtain⟨t',g1,g2⟩:=row_one hc y;simp only[den,g2,TV.av];rfl
     ·rename_i b l;split at h
      ·rename_i hb;rw[ai]at h;obtain⟨y,h4,h⟩:=h;have h5:l[off+n.toNat]? =some y:=by
        unfold atO at h4;cases hd:decide (0<=n)<;>simp only[hd,cond_true,cond_false,reduceCtorEq]at h4;exact h4
       obtain⟨t',g1,g2⟩:=row_one hb.2 y;refine SdAny.ext3 (n:=0) (rd:=[kk]) (wr:=[]) (upd:=[]) (dv:= .c b y) (out:=⟨den (.c b y:DV X),[],[]⟩) ?_ trivial rfl rfl (by simp) h rfl rfl;have hz:CT.sz X b=1:=(by rw[<- vk b y,g1];rfl);obtain⟨q1,q2⟩:=List.getElem?_eq_some_iff.1 h5;simp only[gH,xO,h1,bind_some,hx,den,bg (List.mem_singleton_self kk) h3,aH,hz,if_true,hs.1,hs.2,hb.1,Nat.zero_add,KD,ay,<- map_drop,<- map_take];rw[List.drop_eq_getElem_cons q1,q2];simp only[List.take_succ_cons,List.take_zero,map_cons,map_nil,g1,flatten_cons,List.flatten_nil,append_nil,g2,TV.av];rfl
      ·cases h
     ·cases h
    ·cases h
   ·cases h
  ·rename_i b y0 off m n hx;split at h
   ·rename_i hs;rw[ai]at h;obtain⟨c,h2,h⟩:=h;split at h
    ·rename_i hc;rw[ai]at h;obtain⟨xs,h5,h⟩:=h;rw[ai]at h;obtain⟨y,h6,h⟩:=h;obtain⟨_,h7⟩:=EN h6;have h8:=Ak h5;have h9:(((CT.row X.toSE b y0).drop (off+n.toNat)).take 1).map AV.t=[den (.c c y:DV X)]:=by
      have e1:(aI (((nS b y0).drop off).take m))[n.toNat]? =some (den (.c c y:DV X)):=(by rw[h8,List.getElem?_map,h7];rfl);rw[fG,iX,List.getElem?_take]at e1;split at e1
      ·rw[List.getElem?_drop]at e1;obtain⟨g1,g2⟩:=List.getElem?_eq_some_iff.1 e1;rw[map_take,map_drop,List.drop_eq_getElem_cons g1,List.take_succ_cons,List.take_zero,g2]
      ·cases e1
     refine SdAny.op (orc:= .none) (rd:=[]) (wr:=[]) (upd:=[]) (fun _ _ _ e=>by cases e) (out:=⟨den (.c c y:DV X),[],[]⟩) ?_ ⟨trivial,rfl,rfl,by simp,h⟩;simp only[kF,wo,h1,bind_some,hx,den,hs.1,hs.2];rw[h9];obtain⟨t',g1,g2⟩:=row_one hc y;simp only[den,g2,TV.av];rfl
    ·cases h
   ·cases h
  ·cases h
 ·cases h
end
end
def abw {α:Type} (l:List α) (off:Nat) (new:List α):List α:=l.take off++new++l.drop (off+new.length)
def Yp (a b:List Bool):Bool:=decide (a=b)
def Yq (off n len:Nat):Bool:=decide (off+n<=len)
section
variable {X:SX} {A:Type} (T:Tab)
def ac9 (o:Op) (ρ:Operand->DV X):Bool:=
 match o with
 | .alloc e=>(X.ar e).isSome
 | .box e _=>(X.ar e).isSome
 | .load t a=>match ρ a with
  | .ptr _ _ _=>(X.ar t).isSome
  |_=>false
 | .store t a _=>match ρ a with
  | .ptr _ _ _=>(X.ar t).isSome
  | .pta _ _ _ _ _=>true
  |_=>false
 | .slice t x _ _ none=>match ρ x with
  | .ptr _ _ _=>(X.ar t).isSome
  |_=>false
 | .binOp _ t _ _ _=>(X.ar t).isSome
 |_=>false
def abx (a:Arr X.toSE) (d:DV X):Option (List (CT.T X.toSE a.c)):=
 match d with
 | .c b y=>(bZ b (.st a.i) y).bind fun y=>some (a.f y)
 | .agg cs=>qU a.c cs
 |_=>none
def Yr (get:Nat->Option (DObj X)) (kk:Nat) (c:CT X.ι):Option (List (CT.T X.toSE c)):=
 (get kk).bind fun o=>match o with
 | .lst b l=>bZ (.sl b) (.sl c) l
 |_=>none
def acE (i:Nat) (o:Op) (ρ:Operand->DV X) (get:Nat->Option (DObj X)) (k:KK X A):Option A:=
 match o with
 | .alloc e=>(X.ar e).bind fun a=>(T e).bind fun ti=>(qU a.c (ti.zero.map cvD)).bind fun l=>k (.ptr (nid i) 0 0) [(nid i,some (.lst a.c l))] [] []
 | .box e x=>(X.ar e).bind fun a=>(abx a (ρ x)).bind fun l=>if (cellsD (ρ x)).isSome then k (.ptr (nid i) 0 0) [(nid i,some (.lst a.c l))] [] []else none
 | .load t a=>(T t).bind fun ti=>match ρ a with
  | .ptr kk 0 off=>(X.ar t).bind fun a=>(Yr get kk a.c).bind fun l=>if ti.agg=true∧(X.tys a.i).length=ti.size then (a.g (sub l off ti.size)).bind fun y=>k (.c (.st a.i) y) [] [kk] []else none
  |_=>none
 | .store t a x=>(T t).bind fun ti=>match ρ a with
  | .ptr kk 0 off=>(X.ar t).bind fun a=>(Yr get kk a.c).bind fun l=>(abx a (ρ x)).bind fun new=>if (cellsD (ρ x)).isSome then
   bif eqL new.length ti.size&&Yq off new.length l.length then k .undef [(kk,some (.lst a.c (abw l off new)))] [kk] [kk]else none else none
  | .pta kk 0 off _ n=>(get kk).bind fun o=>match o with
   | .lst b l=>match ρ x with
    | .c c0 y0=>(bZ c0 b y0).bind fun y=>if b.one=true∧ti.size=1 then bif decide (0<=n)&&Yq (off+n.toNat) 1 l.length then k .undef [(kk,some (.lst b (l.set (off+n.toNat) y)))] [kk] [kk]else none else none
    |_=>none
   |_=>none
  |_=>none
 | .slice t x lo hi none=>(T t).bind fun ti=>match ti.k,ρ x with
  | .arr m e,.ptr kk 0 off=>(T e).bind fun ei=>(get kk).bind fun o=>match o with
   | .lst b l=>if CT.sz X b=1∧ei.size=1 then (NS 0 (lo.map ρ)).bind fun p=>(NS m (hi.map ρ)).bind fun q=>
    bif kI p q m&&Yq off m l.length then k (.own kk (off+p.toNat) (q.toNat - p.toNat)) [] [kk] []else none else none
   |_=>none
  |_,_=>none
 | .binOp op t x y _=>(T t).bind fun ti=>(X.ar t).bind fun a=>match ti.k,ρ x,ρ y with
  | .arr _ _,.c b u,.c c v=>(bZ b (.st a.i) u).bind fun u=>(bZ c (.st a.i) v).bind fun v=>(bZ (.sl a.c) (.sl .bool) (a.f u)).bind fun (p:List Bool)=>(bZ (.sl a.c) (.sl .bool) (a.f v)).bind fun (q:List Bool)=>
   if xP T 9 t=true∧ti.cmp=[9]∧(X.tys a.i).length=ti.size then match op with
    | .eql=>k (.c .bool (Yp p q)) [] [] []
    | .neq=>k (.c .bool (!(Yp p q))) [] [] []
    |_=>none
   else none
  |_,_,_=>none
 |_=>none
end
section
variable {X:SX} {A:Type} {T:Tab} {P:Program} {i:Nat} {o:Oper} {ρ:Operand->DV X} {get:Nat->Option (DObj X)} {k:KK X A} {r:A}
theorem acF {c:CT X.ι} (h:c.one=true):CT.sz X c=1:=by cases c<;>first |rfl |cases h
theorem Xr {c:CT X.ι} (h:c.one=true) (x:CT.T X.toSE c):(CT.row X.toSE c x).map AV.t=[den (.c c x:DV X)]:=by
 obtain⟨t,h1,h2⟩:=row_one h x;simp only[den,h1,h2,TV.av,map_cons,map_nil]
theorem BV {c:CT X.ι} (h:c.one=true) (l:List (CT.T X.toSE c)):aH (.lst c l:DObj X)=⟨1,bG (l.map fun x=>den (.c c x:DV X))⟩:=by
 simp only[aH,acF h,ay,bG,map_map];congr 1;exact map_congr_left fun x _=>Xr h x
theorem wG {c:CT X.ι} (h:c.one=true):∀ l:List (CT.T X.toSE c),((l.map (CT.row X.toSE c)).flatten).map AV.t=l.map fun x=>den (.c c x:DV X)
 |[]=>rfl
 |x::l=>by simp only[map_cons,flatten_cons,map_append,Xr h,wG h l,List.singleton_append]
theorem Lm {a:Arr X.toSE} {t:TypeId} (ha:X.ar t=some a) {d:DV X} {l:List (CT.T X.toSE a.c)} (h:abx a d=some l) (hc:(cellsD d).isSome=true):cellsOf (den d)=some (l.map fun x=>den (.c a.c x:DV X)):=by
 obtain⟨h1,h2,h3⟩:=X.ar_ok t a ha;cases hd:cellsD d with
 |none=>rw[hd]at hc;cases hc
 |some cs=>
  rw[rX hd];unfold abx at h;split at h
  ·rename_i b y;rw[ai]at h;obtain⟨y',h4,h⟩:=h;injection h with h;subst h;obtain⟨e,h4⟩:=ic h4;subst e;subst h4;simp only[cellsD,Option.some.injEq]at hd;subst hd;rw[iX];show some ((X.row a.i y').map AV.t)=_;rw[h2 y',wG h1]
  ·rename_i cs';simp only[cellsD]at hd;split at hd
   ·injection hd with hd;subst hd;rw[Ak h]
   ·cases hd
  ·cases h
theorem Yt {c:CT X.ι} {l:List (CT.T X.toSE c)} {l':List Bool} (h:bZ (.sl c) (.sl .bool) l=some l'):(l.map fun x=>den (.c c x:DV X))=l'.map tB:=by
 obtain⟨e,h⟩:=ic h;injection e with e;subst e;subst h;rfl
theorem Lp {kk:Nat} {c:CT X.ι} {l:List (CT.T X.toSE c)} (hc:c.one=true) (h:Yr get kk c=some l):∃ o,get kk=some o∧aH o=⟨1,bG (l.map fun x=>den (.c c x:DV X))⟩:=by
 unfold Yr at h;rw[ai]at h;obtain⟨o,h1,h⟩:=h;split at h
 ·rename_i b l0;obtain⟨e,h⟩:=ic h;injection e with e;subst e;subst h;exact⟨_,h1,BV hc _⟩
 ·cases h
theorem xX (n:Nat) (cs:List AV):(bG cs).take n=bG (cs.take n):=by simp[bG,map_take]
theorem xY (n:Nat) (cs:List AV):(bG cs).drop n=bG (cs.drop n):=by simp[bG,map_drop]
theorem IJ (a b:List AV):bG (a++b)=bG a++bG b:=by simp[bG]
theorem Al (a:List AV):(bG a).length=a.length:=by simp[bG]
theorem Z6 (cs:List AV) (p n:Nat):KD ⟨1,bG cs⟩ p n=(cs.drop p).take n:=by simp only[KD,xY,xX,lq]
theorem Lr {t:TypeId} {ti:TyI} {a:Arr X.toSE} {kk off:Nat} {l:List (CT.T X.toSE a.c)} {y:X.T a.i} {g:Nat->Option aF} (h2:T t=some ti) (h1:X.ar t=some a) (hag:ti.agg=true) (hlen:(X.tys a.i).length=ti.size)
 (hk:g kk=some ⟨1,bG (l.map fun x=>den (.c a.c x:DV X))⟩) (h4:a.g (sub l off ti.size)=some y):xO T t (den (.ptr kk 0 off:DV X)) g=some ⟨den (.c (.st a.i) y:DV X),[],[]⟩:=by
 obtain⟨ho,hr,hg⟩:=X.ar_ok t a h1;have h7:=hg _ _ h4;have h8:den (.c (.st a.i) y:DV X)= .agg ((sub l off ti.size).map fun x=>den (.c a.c x:DV X)):=by
  show AV.agg ((X.row a.i y).map AV.t)=_;rw[hr y,wG ho,h7]
 have h9:((sub l off ti.size).map fun x=>den (.c a.c x:DV X)).length=ti.size:=by
  have:=congrArg List.length (wG ho (a.f y));rw[length_map,length_map,<- hr y]at this;have h10:=vk (X:=X) (.st a.i) y;rw[length_map,<- h7,<- this];exact h10.trans hlen
 simp only[xO,h2,bind_some,den,hk,if_true,Nat.zero_add,Z6,<- map_drop,<- map_take];show (part' ti.agg ti.size ((sub l off ti.size).map fun x=>den (.c a.c x:DV X))).bind pv=some ⟨den (.c (.st a.i) y:DV X),[],[]⟩;have hp:part' ti.agg ti.size ((sub l off ti.size).map fun x=>den (.c a.c x:DV X))=some (.agg ((sub l off ti.size).map fun x=>den (.c a.c x:DV X))):=by unfold part';rw[if_pos h9,if_pos hag]
 rw[hp,h8];rfl
theorem VA (h:acE T i o.op ρ get k=some r):SdAny P T i o ρ get k r:=by
 obtain⟨dst,op,ty,pos,after,guard⟩:=o;unfold acE at h;simp only at h;split at h
 ·rename_i e;rw[ai]at h;obtain⟨a,h1,h⟩:=h;rw[ai]at h;obtain⟨ti,h2,h⟩:=h;rw[ai]at h;obtain⟨l,h3,h⟩:=h;obtain⟨ho,_,_⟩:=X.ar_ok e a h1;refine SdAny.ext3 (n:=0) (rd:=[]) (wr:=[]) (upd:=[(nid i,some (.lst a.c l))]) (dv:= .ptr (nid i) 0 0) (out:=⟨.ptr (nid i) 0 0,[(nid i,some ⟨1,bG (ti.zero.map cv)⟩)],[]⟩) ?_ trivial rfl ?_ (by simp) h rfl rfl
  ·simp only[gH,JU,h2,bind_some]
  ·simp only[dh,map_cons,map_nil,Option.map_some,BV ho,<- Ak h3,rY]
 ·rename_i e x;rw[ai]at h;obtain⟨a,h1,h⟩:=h;rw[ai]at h;obtain⟨l,h3,h⟩:=h;split at h
  ·rename_i hc;obtain⟨ho,_,_⟩:=X.ar_ok e a h1;refine SdAny.ext3 (n:=0) (rd:=[]) (wr:=[]) (upd:=[(nid i,some (.lst a.c l))]) (dv:= .ptr (nid i) 0 0) (out:=⟨.ptr (nid i) 0 0,[(nid i,some ⟨1,bG (l.map fun x=>den (.c a.c x:DV X))⟩)],[]⟩) ?_ trivial rfl ?_ (by simp) h rfl rfl
   ·simp only[gH,Xj,Lm h1 h3 hc,bind_some]
   ·simp only[dh,map_cons,map_nil,Option.map_some,BV ho]
  ·cases h
 ·rename_i t a0;rw[ai]at h;obtain⟨ti,h2,h⟩:=h;split at h
  ·rename_i kk off hx;rw[ai]at h;obtain⟨a,h1,h⟩:=h;rw[ai]at h;obtain⟨l,h3,h⟩:=h;split at h
   ·rename_i hc;rw[ai]at h;obtain⟨y,h4,h⟩:=h;obtain⟨ob,h5,h6⟩:=Lp (X.ar_ok t a h1).1 h3;refine SdAny.ext3 (n:=0) (rd:=[kk]) (wr:=[]) (upd:=[]) (dv:= .c (.st a.i) y) (out:=⟨den (.c (.st a.i) y:DV X),[],[]⟩) ?_ trivial rfl rfl (by simp) h rfl rfl;simp only[gH,hx];exact Lr h2 h1 hc.1 hc.2 (by rw[bg (List.mem_singleton_self kk) h5,h6]) h4
   ·cases h
  ·cases h
 ·rename_i t a0 x;rw[ai]at h;obtain⟨ti,h2,h⟩:=h;split at h
  ·rename_i kk off hx;rw[ai]at h;obtain⟨a,h1,h⟩:=h;rw[ai]at h;obtain⟨l,h3,h⟩:=h;rw[ai]at h;obtain⟨new,h4,h⟩:=h;split at h
   ·rename_i hc;obtain⟨h5,h⟩:=aT h;simp only[and_eq_true,eqL,Yq,decide_eq_true_eq]at h5;obtain⟨ho,hr,hg⟩:=X.ar_ok t a h1;obtain⟨ob,h6,h7⟩:=Lp ho h3;refine SdAny.ext3 (n:=0) (rd:=[kk]) (wr:=[kk]) (upd:=[(kk,some (.lst a.c (abw l off new)))]) (dv:= .undef) (out:=⟨.undef,[(kk,some ⟨1,bG ((abw l off new).map fun x=>den (.c a.c x:DV X))⟩)],[]⟩) ?_ trivial rfl ?_ (by simp) h rfl rfl
    ·simp only[gH,Ez,h2,bind_some,hx,den,Lm h1 h4 hc,bg (List.mem_singleton_self kk) h6,h7];rw[if_pos ⟨trivial,by rw[length_map];exact h5.1,by rw[length_map,Al,length_map];omega⟩];simp only[abw,map_append,map_take,map_drop,IJ,xX,xY,length_map,Nat.zero_add]
    ·simp only[dh,map_cons,map_nil,Option.map_some,BV ho]
   ·cases h
  ·rename_i kk off m n hx;rw[ai]at h;obtain⟨ob,h3,h⟩:=h;split at h
   ·rename_i b l;split at h
    ·rename_i c0 y0 hy;rw[ai]at h;obtain⟨y,h4,h⟩:=h;split at h
     ·rename_i hb;obtain⟨h5,h⟩:=aT h;simp only[and_eq_true,Yq,decide_eq_true_eq]at h5;have h6:cellsOf (den (.c c0 y0:DV X))=some [den (.c b y:DV X)]:=by
       rw[(dQ h4).1];obtain⟨t',g1,g2⟩:=row_one hb.1 y;simp only[den,g2,TV.av];rfl
      refine SdAny.ext3 (n:=0) (rd:=[kk]) (wr:=[kk]) (upd:=[(kk,some (.lst b (l.set (off+n.toNat) y)))]) (dv:= .undef) (out:=⟨.undef,[(kk,some ⟨1,bG ((l.set (off+n.toNat) y).map fun x=>den (.c b x:DV X))⟩)],[]⟩) ?_ trivial rfl ?_ (by simp) h rfl rfl
      ·simp only[gH,Ez,h2,bind_some,hx,hy,h6];simp only[den,bg (List.mem_singleton_self kk) h3,BV hb.1,bind_some];rw[if_pos ⟨trivial,by rw[hb.2];rfl,by rw[Al,length_map];simp only[length_cons,List.length_nil];omega⟩];simp only[Nat.zero_add,length_cons,List.length_nil];rw[List.map_set,List.set_eq_take_append_cons_drop,if_pos (by rw[length_map];omega)];simp only[IJ,xX,xY,append_assoc];rfl
      ·simp only[dh,map_cons,map_nil,Option.map_some,BV hb.1]
     ·cases h
    ·cases h
   ·cases h
  ·cases h
 ·rename_i t x lo hi;rw[ai]at h;obtain⟨ti,h2,h⟩:=h;split at h
  ·rename_i m e kk off hk hx;rw[ai]at h;obtain⟨ei,h3,h⟩:=h;rw[ai]at h;obtain⟨ob,h4,h⟩:=h;split at h
   ·rename_i b l;split at h
    ·rename_i hb;rw[ai]at h;obtain⟨p,h5,h⟩:=h;rw[ai]at h;obtain⟨q,h6,h⟩:=h;obtain⟨h7,h⟩:=aT h;simp only[and_eq_true,kI,Yq,decide_eq_true_eq]at h7;refine SdAny.ext3 (n:=0) (rd:=[kk]) (wr:=[]) (upd:=[]) (dv:= .own kk (off+p.toNat) (q.toNat - p.toNat)) (out:=⟨.own kk (0+off+p.toNat) (q.toNat - p.toNat),[],[0<=p∧p<=q∧q<=(m:Int)∧0+off+m<=(aH (.lst b l:DObj X)).rows.length]⟩) ?_ ⟨h7.1.1.1,h7.1.1.2,h7.1.2,?_⟩ ?_ rfl (by simp) h rfl ?_
     ·simp only[gH,JV,h2,bind_some,hk,hx,den,h3,bg (List.mem_singleton_self kk) h4];have e1:bnd 0 (lo.map fun x=>den (ρ x))=some p:=(by rw[<- oU h5,Option.map_map];rfl);have e2:bnd (m:Int) (hi.map fun x=>den (ρ x))=some q:=(by rw[<- oU h6,Option.map_map];rfl);rw[if_pos ⟨hb.1,hb.2⟩];simp only[e1,e2,bind_some,pvo]
     ·simp only[aH,ay,length_map];omega
     ·simp only[den,Nat.zero_add]
     ·simp only[jF,wB,h2,bind_some,hk]
    ·cases h
   ·cases h
  ·cases h
 ·rename_i bop t x y q0;rw[ai]at h;obtain⟨ti,h2,h⟩:=h;rw[ai]at h;obtain⟨a,h1,h⟩:=h;split at h
  ·rename_i m0 e0 b u0 c v0 hk hx hy;rw[ai]at h;obtain⟨u,h3,h⟩:=h;rw[ai]at h;obtain⟨v,h4,h⟩:=h;rw[ai]at h;obtain⟨p,h5,h⟩:=h;rw[ai]at h;obtain⟨q,h6,h⟩:=h;split at h
   ·rename_i hb;obtain⟨ho,hr,hg⟩:=X.ar_ok t a h1;have key:∀ (z:CT.T X.toSE (.st a.i)) (l:List Bool),bZ (.sl a.c) (.sl .bool) (a.f z)=some l->den (.c (.st a.i) z:DV X)= .agg (l.map tB)∧l.length=ti.size:=by
     intro z l hl;have e1:den (.c (.st a.i) z:DV X)= .agg ((a.f z).map fun x=>den (.c a.c x:DV X)):=by
      show AV.agg ((X.row a.i z).map AV.t)=_;rw[hr z,wG ho]
     have e2:((a.f z).map fun x=>den (.c a.c x:DV X)).length=ti.size:=by
      have:=congrArg List.length (wG ho (a.f z));rw[length_map,<- hr z]at this;rw[<- this];exact (vk (X:=X) (.st a.i) z).trans hb.2.2
     rw[Yt hl]at e1 e2;exact⟨e1,by rw[length_map]at e2;exact e2⟩
    obtain⟨k1,l1⟩:=key u p h5;obtain⟨k2,l2⟩:=key v q h6;cases bop<;>simp only[reduceCtorEq]at h
    ·refine SdAny.ext3 (n:=if p=q then 1 else 0) (rd:=[]) (wr:=[]) (upd:=[]) (dv:= .c .bool (Yp p q)) (out:=⟨tB ((if p=q then (1:Int)else 0) != 0),[],[∃ z1 z2:List Bool,p.map tB=z1.map tB∧q.map tB=z2.map tB∧z1.length=ti.size∧z2.length=ti.size∧((if p=q then (1:Int)else 0)≠0↔z1=z2)]⟩) ?_ ⟨p,q,rfl,rfl,l1,l2,by split<;>simp_all⟩ ?_ rfl (by simp) h rfl ?_
     ·simp only[gH,ZF,h2,bind_some,hk,hx,hy,(dQ h3).1,(dQ h4).1,k1,k2];rw[if_pos ⟨hb.1,hb.2.1⟩];rfl
     ·simp only[tB,den,CT.tv,TV.av,Yp];by_cases hpq:p=q<;>simp[hpq]
     ·simp only[jF,NA,h2,bind_some,hk]
    ·refine SdAny.ext3 (n:=if p=q then 1 else 0) (rd:=[]) (wr:=[]) (upd:=[]) (dv:= .c .bool (!(Yp p q))) (out:=⟨tB (!((if p=q then (1:Int)else 0) != 0)),[],[∃ z1 z2:List Bool,p.map tB=z1.map tB∧q.map tB=z2.map tB∧z1.length=ti.size∧z2.length=ti.size∧((if p=q then (1:Int)else 0)≠0↔z1=z2)]⟩) ?_ ⟨p,q,rfl,rfl,l1,l2,by split<;>simp_all⟩ ?_ rfl (by simp) h rfl ?_
     ·simp only[gH,ZF,h2,bind_some,hk,hx,hy,(dQ h3).1,(dQ h4).1,k1,k2];rw[if_pos ⟨hb.1,hb.2.1⟩];rfl
     ·simp only[tB,den,CT.tv,TV.av,Yp];by_cases hpq:p=q<;>simp[hpq]
     ·simp only[jF,NA,h2,bind_some,hk]
   ·cases h
  ·cases h
 ·cases h
end
section
variable {X:SX}
structure MA (X:SX) where
 nm:List (Nat×Nat)
 dcs:List (DC X)
 chk:List Bool
def addN (m:MA X) (k' k:Nat):MA X:=if m.nm.contains (k',k)then m else⟨m.nm++[(k',k)],m.dcs,m.chk⟩
section
variable (get:Nat->Option (DObj X))
mutual
def mP:Pt X.ι->DV X->MA X->Option (MA X)
 | .v c,d,m=>(dat d c).bind fun x=>some ⟨m.nm,m.dcs++[⟨c,x⟩],m.chk⟩
 | .o k,d,m=>match d with
  | .own k' 0 len=>(get k').bind fun o=>match o with
   | .lst _ l=>some (addN ⟨m.nm,m.dcs,m.chk++[eqL len l.length]⟩ k' k)
   |_=>none
  |_=>none
 | .oz k,d,m=>match d with
  | .own k' 0 len=>(get k').bind fun o=>match o with
   | .lst _ l=>some (addN ⟨m.nm,m.dcs,m.chk++[!(len==0)&&eqL len l.length]⟩ k' k)
   |_=>none
  | .oz k' len=>(get k').bind fun o=>match o with
   | .lst _ l=>some (addN ⟨m.nm,m.dcs,m.chk++[eqL len l.length]⟩ k' k)
   |_=>none
  |_=>none
 | .p k,d,m=>match d with
  | .ptr k' 0 0=>some (addN m k' k)
  |_=>none
 | .mp k,d,m=>match d with
  | .mp k'=>some (addN m k' k)
  |_=>none
 | .nil,d,m=>match d with
  | .nil=>some m
  |_=>none
 | .f F fs cs,d,m=>match d with
  | .fn F' first caps=>if F=F' then (mPs fs first m).bind fun m=>mPs cs caps m else none
  |_=>none
 | .od k,d,m=>match d with
  | .own k' off len=>(get k').bind fun o=>match o with
   | .lst _ l=>some (addN ⟨m.nm,m.dcs++[⟨.int .i64,(off:Int)⟩],m.chk++[eqL (off+len) l.length]⟩ k' k)
   |_=>none
  |_=>none
 | .a ps,d,m=>match d with
  | .agg ds=>mPs ps ds m
  |_=>none
def mPs:List (Pt X.ι)->List (DV X)->MA X->Option (MA X)
 |[],[],m=>some m
 |p::ps,d::ds,m=>(mP p d m).bind fun m=>mPs ps ds m
 |_,_,_=>none
end
def Am (env:Nat->DV X):List (Nat×Pt X.ι)->MA X->Option (MA X)
 |[],m=>some m
 |(t,p)::r,m=>(mP get p (env t) m).bind fun m=>Am env r m
def zy:List (List (Pt X.ι))->List (List (DV X))->MA X->Option (MA X)
 |[],[],m=>some m
 |r::rs,q::qs,m=>(mPs get r q m).bind fun m=>zy rs qs m
 |_,_,_=>none
def nameOf (m:MA X) (k:Nat):Nat:=match m.nm.find? (fun q=>q.2==k)with |some q=>q.1 |none=>k
def wH:List (Nat×OP X.ι)->MA X->Option (MA X)
 |[],m=>some m
 |(k,op)::r,m=>(get (nameOf m k)).bind fun o=>match op,o with
  | .l c,.lst c' l=>(bZ (.sl c') (.sl c) l).bind fun l'=>wH r (addN ⟨m.nm,m.dcs++[⟨.sl c,l'⟩],m.chk⟩ (nameOf m k) k)
  | .m kc vc,.map kc' vc' l=>(bZ (.mp kc' vc') (.mp kc vc) l).bind fun l'=>wH r (addN ⟨m.nm,m.dcs++[⟨.mp kc vc,l'⟩],m.chk⟩ (nameOf m k) k)
  | .c sz rows,.cells sz' rows'=>if sz=sz' then (zy get rows rows' (addN m (nameOf m k) k)).bind fun m=>wH r m else none
  |_,_=>none
end
end
section
variable {X:SX} {A:Type}
mutual
def rnD (f:Nat->Nat):DV X->DV X
 | .own k off len=> .own (f k) off len
 | .ptr k row off=> .ptr (f k) row off
 | .ptl k n off=> .ptl (f k) n off
 | .pta k row off m n=> .pta (f k) row off m n
 | .mp k=> .mp (f k)
 | .oz k len=> .oz (f k) len
 | .agg cs=> .agg (Cu f cs)
 | .tup cs=> .tup (Cu f cs)
 | .fn F first caps=> .fn F (Cu f first) (Cu f caps)
 |x=>x
def Cu (f:Nat->Nat):List (DV X)->List (DV X)
 |[]=>[]
 |x::xs=>rnD f x::Cu f xs
end
theorem VB (f:Nat->Nat):∀ l:List Tree,qP f (l.map AV.t)=l.map AV.t
 |[]=>rfl
 |x::xs=>by simp only[map_cons,qP,rnA,VB f xs]
mutual
theorem uI (f:Nat->Nat):∀ x:DV X,den (rnD f x)=rnA f (den x)
 | .own _ _ _=>rfl
 | .ptr _ _ _=>rfl
 | .ptl _ _ _=>rfl
 | .mp _=>rfl
 | .oz _ _=>rfl
 | .pta _ _ _ _ _=>rfl
 | .agg cs=>by simp only[rnD,den,rnA,wI f cs]
 | .tup cs=>by simp only[rnD,den,rnA,wI f cs]
 | .fn F first caps=>by simp only[rnD,den,rnA,wI f first,wI f caps]
 | .c t x=>by
  simp only[rnD,den];cases t<;>try rfl
  simp only[CT.tv,TV.av,rnA,VB]
 | .rp _ _ _=>rfl
 | .rpa _ _ _ _ _=>rfl
 | .clo _ _ _=>rfl
 | .raw v=>by
  simp only[rnD,den,cv];split
  ·rfl
  ·split<;>rfl
 | .nil=>rfl
 | .ub=>rfl
 | .skip=>rfl
 | .undef=>rfl
theorem wI (f:Nat->Nat):∀ l:List (DV X),aI (Cu f l)=qP f (aI l)
 |[]=>rfl
 |x::xs=>by simp only[Cu,aI,qP,uI f x,wI f xs]
end
def rnO (f:Nat->Nat):DObj X->DObj X
 | .cells sz rows=> .cells sz (rows.map (Cu f))
 |o=>o
def orefs:DObj X->List Nat
 | .cells _ rows=>(rows.map aD).flatten
 | .lst _ _=>[]
 | .map _ _ _=>[]
def Xt:CT X.ι->Bool
 | .int _ | .bool | .str=>true
 |_=>false
def qM:CT X.ι->Bool
 | .st i=>(X.tys i).all Xt
 |c=>Xt c
theorem xZ {c:CT X.ι} (h:Xt c=true) (x:CT.T X.toSE c):∀ t∈CT.row X.toSE c x,t.flat:=by cases c<;>first |(intro t ht;simp only[CT.row,mem_singleton]at ht;subst ht;exact trivial) |cases h
theorem Xu:∀ (l:List (CT X.ι)) (h:HL X.toSE l),l.all Xt=true->∀ t∈HL.row X.toSE l h,t.flat
 |[],_,_,t,ht=>by simp[HL.row]at ht
 |c::l,h,ha,t,ht=>by
  simp only[all_cons,and_eq_true]at ha;rcases mem_append.1 (show t∈CT.row X.toSE c h.1++HL.row X.toSE l h.2 from ht)with ht |ht
  ·exact xZ ha.1 h.1 t ht
  ·exact Xu l h.2 ha.2 t ht
theorem nT {c:CT X.ι} (h:qM c=true) (x:CT.T X.toSE c):∀ t∈CT.row X.toSE c x,t.flat:=by
 cases c
 case st i=>intro t ht;exact Xu (X.tys i) (X.get i x) h t ((X.row_get i x) ▸ ht)
 case int k=>exact xZ (c:= .int k) h x
 case bool=>exact xZ (c:= .bool) h x
 case str=>exact xZ (c:= .str) h x
 case sl e=>cases h
 case any=>cases h
 case mp=>cases h
structure MG (X:SX) where
 nm:List (Nat×Nat)
 dcs:List (DC X)
 chk:List Bool
 vr:List Nat
section
variable (get:Nat->Option (DObj X))
mutual
def gA1:Pt X.ι->DV X->MG X->Option (MG X)
 | .v c,d,m=>(zx get d c).bind fun x=>some ⟨m.nm,m.dcs++[⟨c,x.1⟩],m.chk++x.2,m.vr++drefs d⟩
 | .o k,d,m=>match d with
  | .own k' 0 len=>(get k').bind fun o=>match o with
   | .lst _ l=>some ⟨m.nm++[(k',k)],m.dcs,m.chk++[eqL len l.length],m.vr⟩
   |_=>none
  |_=>none
 | .od k,d,m=>match d with
  | .own k' off len=>(get k').bind fun o=>match o with
   | .lst _ l=>some ⟨m.nm++[(k',k)],m.dcs++[⟨.int .i64,(off:Int)⟩],m.chk++[eqL (off+len) l.length],m.vr⟩
   |_=>none
  |_=>none
 | .p k,d,m=>match d with
  | .ptr k' 0 0=>some ⟨m.nm++[(k',k)],m.dcs,m.chk,m.vr⟩
  |_=>none
 | .nil,d,m=>match d with
  | .nil=>some m
  |_=>none
 | .f F fs cs,d,m=>match d with
  | .fn F' first caps=>if F=F' then (gAs fs first m).bind fun m=>gAs cs caps m else none
  |_=>none
 | .mp k,d,m=>match d with
  | .mp k'=>some ⟨m.nm++[(k',k)],m.dcs,m.chk,m.vr⟩
  |_=>none
 | .oz _,_,_=>none
 | .a ps,d,m=>match d with
  | .agg ds=>gAs ps ds m
  |_=>none
def gAs:List (Pt X.ι)->List (DV X)->MG X->Option (MG X)
 |[],[],m=>some m
 |p::ps,d::ds,m=>(gA1 p d m).bind fun m=>gAs ps ds m
 |_,_,_=>none
end
def zA:List (List (Pt X.ι))->List (List (DV X))->MG X->Option (MG X)
 |[],[],m=>some m
 |r::rs,q::qs,m=>(gAs get r q m).bind fun m=>zA rs qs m
 |_,_,_=>none
def nmG (m:MG X) (k:Nat):Nat:=match m.nm.find? (fun q=>q.2==k)with |some q=>q.1 |none=>k
def wJ:List (Nat×OP X.ι)->MG X->Option (MG X)
 |[],m=>some m
 |(k,op)::r,m=>(get (nmG m k)).bind fun o=>match op,o with
  | .l c,.lst c' l=>(bZ (.sl c') (.sl c) l).bind fun l'=>wJ r ⟨m.nm++[(nmG m k,k)],m.dcs++[⟨.sl c,l'⟩],m.chk,m.vr⟩
  | .m kc vc,.map kc' vc' l=>if kc.one=true∧vc.one=true then (bZ (.mp kc' vc') (.mp kc vc) l).bind fun l'=>wJ r ⟨m.nm++[(nmG m k,k)],m.dcs++[⟨.mp kc vc,l'⟩],m.chk,m.vr⟩else none
  | .c sz rows,.cells sz' rows'=>if sz=sz' then (zA get rows rows' ⟨m.nm++[(nmG m k,k)],m.dcs,m.chk,m.vr⟩).bind fun m=>wJ r m else none
  |_,_=>none
end
mutual
def Pt.refs:Pt X.ι->List Nat
 | .o k | .od k | .p k | .mp k | .oz k=>[k]
 | .f _ fs cs=>vz fs++vz cs
 | .a ps=>vz ps
 |_=>[]
def vz:List (Pt X.ι)->List Nat
 |[]=>[]
 |p::ps=>p.refs++vz ps
end
def OP.refs:OP X.ι->List Nat
 | .l _=>[]
 | .m _ _=>[]
 | .c _ rows=>rows.flatMap vz
def nmB (n k:Nat):Bool:=Nat.blt k n || (Nat.ble 1000 k&&Nat.blt k 1064)
def GSig.ok (g:GSig X):Bool:=
 decide (g.inO.map (·.1)=List.range g.inO.length)&&decide (g.inO.length<=1000)&&(g.outO.all fun q=>nmB g.inO.length q.1&&q.2.refs.all fun k=>nmB g.inO.length k)&&decide (g.outO.map (·.1)).Nodup&&(vz g.outP).all fun k=>nmB g.inO.length k
def okG (m:MG X) (ids:List Nat):Bool:=
 decide ids.Nodup&&(m.nm.all fun q=>match ids[q.2]? with |some k=>Nat.beq k q.1 |none=>false)&&m.vr.all fun k=>!ids.contains k
def GSig.flat (g:GSig X):Bool:=(varsL g.outP).all qM&&g.outO.all fun q=>match q.2 with
 | .l c=>qM c
 | .m _ _=>false
 | .c _ rows=>(oV rows).all qM
def dlk:List (Nat×DObj X)->Nat->Option (DObj X)
 |[],_=>none
 |(j,o)::r,k=>if j=k then some o else dlk r k
def Xv (i:Nat) (ids:List Nat) (os':List (Nat×DObj X)):List (Nat×Option (DObj X)):=
 (ids.zipIdx.map fun p=>(p.1,(dlk os' p.2).map (rnO (cn i ids))))++(os'.filter fun q=>decide (1000<=q.1)).map fun q=>(cn i ids q.1,some (rnO (cn i ids) q.2))
def VD (g:GSig X) (i:Nat) (ds:List (DV X)) (get:Nat->Option (DObj X)) (k:KK X A):Option A:=
 (gAs get g.inP ds ⟨[],[],[],[]⟩).bind fun m=>(wJ get g.inO m).bind fun m=>
  bif g.ok&&okG m ((List.range g.inO.length).map (nmG m))then (NU (varsL g.inP++varsO g.inO) m.dcs).bind fun v=>K4 m.chk ((g.fn v).bind fun r=>
   let ids:=(List.range g.inO.length).map (nmG m)
   k (rnD (cn i ids) (g.res r)) (Xv i ids (g.outs r)++(if g.flat then []else m.vr.map fun k=>(k,none))) (ids++m.vr) ((ids++(Xv i ids (g.outs r)).map (·.1))++m.vr))
  else none
section
variable {P:Program} {get:Nat->Option (DObj X)} {rd ids:List Nat} {olen:Nat->Nat}
def MonoG (m m':MG X):Prop:=(∀ q∈m.nm,q∈m'.nm)∧(∀ c∈m.chk,c∈m'.chk)∧∀ k∈m.vr,k∈m'.vr
theorem MonoG.refl (m:MG X):MonoG m m:=⟨fun _ h=>h,fun _ h=>h,fun _ h=>h⟩
theorem MonoG.trans {a b c:MG X} (h:MonoG a b) (h':MonoG b c):MonoG a c:=⟨fun q hq=>h'.1 q (h.1 q hq),fun q hq=>h'.2.1 q (h.2.1 q hq),fun q hq=>h'.2.2 q (h.2.2 q hq)⟩
mutual
theorem Z7:∀ (p:Pt X.ι) (d:DV X) (m m':MG X),gA1 get p d m=some m'->MonoG m m'∧∃ new,m'.dcs=m.dcs++new∧new.length=p.vars.length
 | .v c,d,m,m',h=>by
  simp only[gA1]at h;rw[ai]at h;obtain⟨x,h1,h⟩:=h;injection h with h;subst h;exact⟨⟨fun _ h=>h,fun _ h=>by simp[h],fun _ h=>by simp[h]⟩,[⟨c,x.1⟩],rfl,rfl⟩
 | .o k,d,m,m',h=>by
  simp only[gA1]at h;split at h
  ·rw[ai]at h;obtain⟨o,h1,h⟩:=h;split at h
   ·injection h with h;subst h;exact⟨⟨fun _ h=>by simp[h],fun _ h=>by simp[h],fun _ h=>h⟩,[],by simp,rfl⟩
   ·cases h
  ·cases h
 | .od k,d,m,m',h=>by
  simp only[gA1]at h;split at h
  ·rename_i k' off len;rw[ai]at h;obtain⟨o,h1,h⟩:=h;split at h
   ·injection h with h;subst h;exact⟨⟨fun _ h=>by simp[h],fun _ h=>by simp[h],fun _ h=>h⟩,[⟨.int .i64,(off:Int)⟩],rfl,rfl⟩
   ·cases h
  ·cases h
 | .p k,d,m,m',h=>by
  simp only[gA1]at h;split at h
  ·injection h with h;subst h;exact⟨⟨fun _ h=>by simp[h],fun _ h=>h,fun _ h=>h⟩,[],by simp,rfl⟩
  ·cases h
 | .nil,d,m,m',h=>by
  simp only[gA1]at h;split at h
  ·injection h with h;subst h;exact⟨MonoG.refl _,[],by simp,rfl⟩
  ·cases h
 | .f F fs cs,d,m,m',h=>by
  simp only[gA1]at h;split at h
  ·split at h
   ·rw[ai]at h;obtain⟨m1,h1,h⟩:=h;obtain⟨a1,n1,b1,c1⟩:=o8 fs _ m m1 h1;obtain⟨a2,n2,b2,c2⟩:=o8 cs _ m1 m' h;exact⟨a1.trans a2,n1++n2,by rw[b2,b1,append_assoc],by simp[Pt.vars,c1,c2]⟩
   ·cases h
  ·cases h
 | .mp k,d,m,m',h=>by
  simp only[gA1]at h;split at h
  ·injection h with h;subst h;exact⟨⟨fun _ h=>by simp[h],fun _ h=>h,fun _ h=>h⟩,[],by simp,rfl⟩
  ·cases h
 | .oz _,_,_,_,h=>by simp[gA1]at h
 | .a ps,d,m,m',h=>by
  simp only[gA1]at h;split at h
  ·exact o8 ps _ m m' h
  ·cases h
theorem o8:∀ (ps:List (Pt X.ι)) (ds:List (DV X)) (m m':MG X),gAs get ps ds m=some m'->MonoG m m'∧∃ new,m'.dcs=m.dcs++new∧new.length=(varsL ps).length
 |[],[],m,m',h=>by
  simp only[gAs,Option.some.injEq]at h;subst h;exact⟨MonoG.refl _,[],by simp,rfl⟩
 |p::ps,d::ds,m,m',h=>by
  simp only[gAs]at h;rw[ai]at h;obtain⟨m1,h1,h⟩:=h;obtain⟨a1,n1,b1,c1⟩:=Z7 p d m m1 h1;obtain⟨a2,n2,b2,c2⟩:=o8 ps ds m1 m' h;exact⟨a1.trans a2,n1++n2,by rw[b2,b1,append_assoc],by simp[varsL,c1,c2]⟩
 |[],_::_,m,m',h=>by simp[gAs]at h
 |_::_,[],m,m',h=>by simp[gAs]at h
end
def NZ:AV->List LH->List LH
 | .agg _,hs=> .agd::hs
 |_,hs=>hs
theorem EU (x:AV) (a b:List LH):NZ x (a++b)=NZ x a++b:=by cases x<;>rfl
theorem rM {get':Nat->Option aF} {x:AV} {hs:List LH} {p:AV×List LH×List Prop} (h:jJ P get' x hs=some p) (hr:∀ k∈refs x,k∉ids):lH P get' ids x (NZ x hs)=some p:=by
 have hd:((refs x).all fun k=>!ids.contains k)=true:=by
  simp only[all_eq_true,Bool.not_eq_true',List.contains_eq_mem,decide_eq_false_iff_not];exact hr
 cases x
 case agg cs=>
  simp only[refs]at hd;simp only[NZ,lH,hd,if_true];exact h
 all_goals
  simp only[NZ];unfold lH;split<;>first |(simp [jJ]at h;done) |(rw [if_pos hd];exact h) |exact h |exact absurd hd ‹_› |(rename_i e;cases e;done)
variable {NM:List (Nat×Nat)} {VRS:List Nat}
mutual
theorem Yu (hi:∀ q∈NM,ids[q.2]? =some q.1) (hv:∀ k∈VRS,k∉ids) (hrd:∀ k,(∃ q,(k,q)∈NM)∨k∈VRS->k∈rd) (ho:∀ q∈NM,∀ c l,get q.1=some (.lst c l)->olen q.2=l.length):
 ∀ (p:Pt X.ι) (d:DV X) (m m':MG X),gA1 get p d m=some m'->(∀ q∈m'.nm,q∈NM)->(∀ c∈m'.chk,c=true)->(∀ k∈m'.vr,k∈VRS)->
 ∃ new,m'.dcs=m.dcs++new∧∃ d',(∀ rest,eP olen p (new++rest)=(d',rest))∧(∃ hs obs,(∀ p∈obs,p)∧∀ rest,lH P (aX rd (bT get)) ids (den d) (hs++rest)=some (den d',rest,obs))∧∀ j∈drefs d,(∃ q,(j,q)∈NM)∨j∈VRS
 | .v c,d,m,m',h,hn,hc,hr=>by
  simp only[gA1]at h;rw[ai]at h;obtain⟨x,h1,h⟩:=h;injection h with h;subst h;have hvr:∀ j∈drefs d,j∈VRS:=fun j hj=>hr j (by simp[hj]);obtain⟨hs,obs,p1,q1⟩:=uH (P:=P) (rd:=rd) h1 (fun b hb=>hc b (by simp[hb])) (fun j hj=>hrd j (.inr (hvr j hj)));refine⟨[⟨c,x.1⟩],rfl,.c c x.1,fun rest=>rfl,⟨NZ (den d) hs,obs,p1,fun rest=>?_⟩,fun j hj=> .inr (hvr j hj)⟩;rw[<- EU];exact rM (q1 rest) (fun k hk=>hv k (hvr k (by rwa [dR]at hk)))
 | .o k,d,m,m',h,hn,hc,hr=>by
  simp only[gA1]at h;split at h
  ·rename_i k' len;rw[ai]at h;obtain⟨o,h1,h⟩:=h;split at h
   ·rename_i c l;injection h with h;subst h;have hq:(k',k)∈NM:=hn _ (by simp);have he:len=l.length:=by
     have:=hc (eqL len l.length) (by simp);simpa[eqL]using this
    refine⟨[],by simp,.own k 0 (olen k),fun rest=>rfl,⟨[.mut k],[],by simp,fun rest=>?_⟩,fun j hj=>?_⟩
    ·simp only[den,cons_append,nil_append,lH,hi _ hq,if_true,ho _ hq c l h1,he]
    ·simp only[drefs,mem_singleton]at hj;subst hj;exact .inl ⟨k,hq⟩
   ·cases h
  ·cases h
 | .od k,d,m,m',h,hn,hc,hr=>by
  simp only[gA1]at h;split at h
  ·rename_i k' off len;rw[ai]at h;obtain⟨o,h1,h⟩:=h;split at h
   ·rename_i c l;injection h with h;subst h;have hq:(k',k)∈NM:=hn _ (by simp);have he:off+len=l.length:=by
     have:=hc (eqL (off+len) l.length) (by simp);simpa[eqL]using this
    refine⟨[⟨.int .i64,(off:Int)⟩],rfl,.own k off (olen k - off),fun rest=>?_,⟨[.mut k],[],by simp,fun rest=>?_⟩,fun j hj=>?_⟩
    ·have:OZ (X:=X) ⟨.int .i64,(off:Int)⟩=off:=by
      simp only[OZ];rw[Lf];simp
     simp only[eP,cons_append,nil_append,this]
    ·simp only[den,cons_append,nil_append,lH,hi _ hq,if_true,ho _ hq c l h1,show l.length - off=len by omega]
    ·simp only[drefs,mem_singleton]at hj;subst hj;exact .inl ⟨k,hq⟩
   ·cases h
  ·cases h
 | .p k,d,m,m',h,hn,hc,hr=>by
  simp only[gA1]at h;split at h
  ·rename_i k';injection h with h;subst h;have hq:(k',k)∈NM:=hn _ (by simp);refine⟨[],by simp,.ptr k 0 0,fun rest=>rfl,⟨[.mut k],[],by simp,fun rest=>?_⟩,fun j hj=>?_⟩
   ·simp only[den,cons_append,nil_append,lH,hi _ hq,if_true]
   ·simp only[drefs,mem_singleton]at hj;subst hj;exact .inl ⟨k,hq⟩
  ·cases h
 | .nil,d,m,m',h,hn,hc,hr=>by
  simp only[gA1]at h;split at h
  ·injection h with h;subst h;refine⟨[],by simp,.nil,fun rest=>rfl,⟨[.nil],[],by simp,fun rest=>?_⟩,by simp[drefs]⟩;exact rM (by simp only[den,cons_append,nil_append,jJ]) (by simp[den,refs])
  ·cases h
 | .f F fs cs,d,m,m',h,hn,hc,hr=>by
  simp only[gA1]at h;split at h
  ·rename_i F' first caps
   split at h
   ·rename_i e;subst e;rw[ai]at h;obtain⟨m1,h1,h⟩:=h;have hm:=(o8 cs _ m1 m' h).1;obtain⟨n1,a1,f',b1,⟨hs1,o1,p1,q1⟩,r1⟩:=rO hi hv hrd ho fs _ m m1 h1 (fun q hq=>hn q (hm.1 q hq)) (fun q hq=>hc q (hm.2.1 q hq)) (fun q hq=>hr q (hm.2.2 q hq));obtain⟨n2,a2,c',b2,⟨hs2,o2,p2,q2⟩,r2⟩:=rO hi hv hrd ho cs _ m1 m' h hn hc hr;refine⟨n1++n2,by rw[a2,a1,append_assoc],.fn F f' c',fun rest=>by simp only[eP,append_assoc,b1,b2],⟨.fnw::(hs1++hs2),o1++o2,dz p1 p2,fun rest=>?_⟩,fun j hj=>?_⟩
    ·simp only[den,cons_append,append_assoc,lH,q1,bind_some,q2]
    ·simp only[drefs,mem_append]at hj;exact hj.elim (r1 j) (r2 j)
   ·cases h
  ·cases h
 | .mp k,d,m,m',h,hn,hc,hr=>by
  simp only[gA1]at h;split at h
  ·rename_i k';injection h with h;subst h;have hq:(k',k)∈NM:=hn _ (by simp);refine⟨[],by simp,.mp k,fun rest=>rfl,⟨[.mut k],[],by simp,fun rest=>?_⟩,fun j hj=>?_⟩
   ·simp only[den,cons_append,nil_append,lH,hi _ hq,if_true]
   ·simp only[drefs,mem_singleton]at hj;subst hj;exact .inl ⟨k,hq⟩
  ·cases h
 | .oz _,_,_,_,h,_,_,_=>by simp[gA1]at h
 | .a ps,d,m,m',h,hn,hc,hr=>by
  simp only[gA1]at h;split at h
  ·rename_i ds;obtain⟨n1,a1,f',b1,⟨hs1,o1,p1,q1⟩,r1⟩:=rO hi hv hrd ho ps ds m m' h hn hc hr;refine⟨n1,a1,.agg f',fun rest=>by simp only[eP,b1],⟨.agw::hs1,o1,p1,fun rest=>?_⟩,fun j hj=>r1 j (by simpa[drefs]using hj)⟩;simp only[den,cons_append,lH,q1,bind_some]
  ·cases h
theorem rO (hi:∀ q∈NM,ids[q.2]? =some q.1) (hv:∀ k∈VRS,k∉ids) (hrd:∀ k,(∃ q,(k,q)∈NM)∨k∈VRS->k∈rd) (ho:∀ q∈NM,∀ c l,get q.1=some (.lst c l)->olen q.2=l.length):
 ∀ (ps:List (Pt X.ι)) (ds:List (DV X)) (m m':MG X),gAs get ps ds m=some m'->(∀ q∈m'.nm,q∈NM)->(∀ c∈m'.chk,c=true)->(∀ k∈m'.vr,k∈VRS)->
 ∃ new,m'.dcs=m.dcs++new∧∃ ds',(∀ rest,ePs olen ps (new++rest)=(ds',rest))∧(∃ hs obs,(∀ p∈obs,p)∧∀ rest,iG P (aX rd (bT get)) ids (aI ds) (hs++rest)=some (aI ds',rest,obs))∧∀ j∈aD ds,(∃ q,(j,q)∈NM)∨j∈VRS
 |[],[],m,m',h,_,_,_=>by
  simp only[gAs,Option.some.injEq]at h;subst h;exact⟨[],by simp,[],fun rest=>rfl,⟨[],[],by simp,fun rest=>rfl⟩,by simp[aD]⟩
 |p::ps,d::ds,m,m',h,hn,hc,hr=>by
  simp only[gAs]at h;rw[ai]at h;obtain⟨m1,h1,h⟩:=h;have hm:=(o8 ps ds m1 m' h).1;obtain⟨n1,a1,d',b1,⟨hs1,o1,p1,q1⟩,r1⟩:=Yu hi hv hrd ho p d m m1 h1 (fun q hq=>hn q (hm.1 q hq)) (fun q hq=>hc q (hm.2.1 q hq)) (fun q hq=>hr q (hm.2.2 q hq));obtain⟨n2,a2,ds',b2,⟨hs2,o2,p2,q2⟩,r2⟩:=rO hi hv hrd ho ps ds m1 m' h hn hc hr;refine⟨n1++n2,by rw[a2,a1,append_assoc],d'::ds',fun rest=>by simp only[ePs,append_assoc,b1,b2],⟨hs1++hs2,o1++o2,dz p1 p2,fun rest=>?_⟩,fun j hj=>?_⟩
  ·simp only[aI,append_assoc,iG,q1,bind_some,q2]
  ·simp only[aD,mem_append]at hj;exact hj.elim (r1 j) (r2 j)
 |[],_::_,m,m',h,_,_,_=>by simp[gAs]at h
 |_::_,[],m,m',h,_,_,_=>by simp[gAs]at h
end
theorem sF:∀ (rs:List (List (Pt X.ι))) (qs:List (List (DV X))) (m m':MG X),zA get rs qs m=some m'->MonoG m m'∧∃ new,m'.dcs=m.dcs++new∧new.length=(oV rs).length
 |[],[],m,m',h=>by
  simp only[zA,Option.some.injEq]at h;subst h;exact⟨MonoG.refl _,[],by simp,rfl⟩
 |r::rs,q::qs,m,m',h=>by
  simp only[zA]at h;rw[ai]at h;obtain⟨m1,h1,h⟩:=h;obtain⟨a1,n1,b1,c1⟩:=o8 r q m m1 h1;obtain⟨a2,n2,b2,c2⟩:=sF rs qs m1 m' h;exact⟨a1.trans a2,n1++n2,by rw[b2,b1,append_assoc],by simp[oV,c1,c2]⟩
 |[],_::_,m,m',h=>by simp[zA]at h
 |_::_,[],m,m',h=>by simp[zA]at h
theorem IK (hi:∀ q∈NM,ids[q.2]? =some q.1) (hv:∀ k∈VRS,k∉ids) (hrd:∀ k,(∃ q,(k,q)∈NM)∨k∈VRS->k∈rd) (ho:∀ q∈NM,∀ c l,get q.1=some (.lst c l)->olen q.2=l.length):
 ∀ (rs:List (List (Pt X.ι))) (qs:List (List (DV X))) (m m':MG X),zA get rs qs m=some m'->(∀ q∈m'.nm,q∈NM)->(∀ c∈m'.chk,c=true)->(∀ k∈m'.vr,k∈VRS)->
 ∃ new,m'.dcs=m.dcs++new∧∃ qs',(∀ rest,oZ olen rs (new++rest)=(qs',rest))∧(∃ hs obs,(∀ p∈obs,p)∧xN P (aX rd (bT get)) ids (qs.map aI) hs=some (qs'.map aI,obs))∧∀ j∈(qs.map aD).flatten,(∃ q,(j,q)∈NM)∨j∈VRS
 |[],[],m,m',h,_,_,_=>by
  simp only[zA,Option.some.injEq]at h;subst h;exact⟨[],by simp,[],fun rest=>rfl,⟨[],[],by simp,rfl⟩,by simp⟩
 |r::rs,q::qs,m,m',h,hn,hc,hr=>by
  simp only[zA]at h;rw[ai]at h;obtain⟨m1,h1,h⟩:=h;have hm:=(sF rs qs m1 m' h).1;obtain⟨n1,a1,d',b1,⟨hs1,o1,p1,q1⟩,r1⟩:=rO (P:=P) hi hv hrd ho r q m m1 h1 (fun q hq=>hn q (hm.1 q hq)) (fun q hq=>hc q (hm.2.1 q hq)) (fun q hq=>hr q (hm.2.2 q hq));obtain⟨n2,a2,ds',b2,⟨hs2,o2,p2,q2⟩,r2⟩:=IK hi hv hrd ho rs qs m1 m' h hn hc hr;refine⟨n1++n2,by rw[a2,a1,append_assoc],d'::ds',fun rest=>by simp only[oZ,append_assoc,b1,b2],⟨hs1::hs2,o1++o2,dz p1 p2,?_⟩,fun j hj=>?_⟩
  ·have:=q1 [];rw[append_nil]at this;simp only[map_cons,xN,this,bind_some,q2]
  ·simp only[map_cons,flatten_cons,mem_append]at hj;exact hj.elim (r1 j) (r2 j)
 |[],_::_,m,m',h,_,_,_=>by simp[zA]at h
 |_::_,[],m,m',h,_,_,_=>by simp[zA]at h
theorem ig:∀ (os:List (Nat×OP X.ι)) (m m':MG X),wJ get os m=some m'->MonoG m m'∧∃ new,m'.dcs=m.dcs++new∧new.length=(varsO os).length
 |[],m,m',h=>by
  simp only[wJ,Option.some.injEq]at h;subst h;exact⟨MonoG.refl _,[],by simp,rfl⟩
 |(k,op)::r,m,m',h=>by
  simp only[wJ]at h;rw[ai]at h;obtain⟨o,h1,h⟩:=h;split at h
  ·rename_i c c' l;rw[ai]at h;obtain⟨l',h2,h⟩:=h;obtain⟨a2,n2,b2,c2⟩:=ig r _ m' h;refine⟨MonoG.trans (b:=⟨m.nm++[(nmG m k,k)],m.dcs++[⟨.sl c,l'⟩],m.chk,m.vr⟩) ⟨fun _ h=>by simp[h],fun _ h=>h,fun _ h=>h⟩ a2,[⟨.sl c,l'⟩]++n2,?_,by simp[varsO,c2]⟩;rw[b2,append_assoc]
  ·rename_i kc vc kc' vc' l;split at h
   ·rw[ai]at h;obtain⟨l',h2,h⟩:=h;obtain⟨a2,n2,b2,c2⟩:=ig r _ m' h;refine⟨MonoG.trans (b:=⟨m.nm++[(nmG m k,k)],m.dcs++[⟨.mp kc vc,l'⟩],m.chk,m.vr⟩) ⟨fun _ h=>by simp[h],fun _ h=>h,fun _ h=>h⟩ a2,[⟨.mp kc vc,l'⟩]++n2,?_,by simp[varsO,c2]⟩;rw[b2,append_assoc]
   ·cases h
  ·rename_i sz rows sz' rows';split at h
   ·rw[ai]at h;obtain⟨m1,h2,h⟩:=h;obtain⟨a1,n1,b1,c1⟩:=sF rows _ _ m1 h2;obtain⟨a2,n2,b2,c2⟩:=ig r m1 m' h;refine⟨MonoG.trans (MonoG.trans (b:=⟨m.nm++[(nmG m k,k)],m.dcs,m.chk,m.vr⟩) ⟨fun _ h=>by simp[h],fun _ h=>h,fun _ h=>h⟩ a1) a2,n1++n2,?_,by simp[varsO,c1,c2]⟩;rw[b2,b1,append_assoc]
   ·cases h
  ·cases h
theorem yc:∀ (os:List (Nat×OP X.ι)) (m m':MG X),wJ get os m=some m'->(∀ q∈m'.nm,q∈NM)->∃ new,m'.dcs=m.dcs++new∧∀ rest,∀ k∈os.map (·.1),∃ k' o,(k',k)∈NM∧get k'=some o∧∀ c l,o= .lst c l->(k,List.length l)∈lens os (new++rest)
 |[],m,m',h,_=>by
  simp only[wJ,Option.some.injEq]at h;subst h;exact⟨[],by simp,fun rest k hk=>by simp at hk⟩
 |(k,op)::r,m,m',h,hn=>by
  simp only[wJ]at h;rw[ai]at h;obtain⟨o,h1,h⟩:=h;split at h
  ·rename_i c c' l;rw[ai]at h;obtain⟨l',h2,h⟩:=h;have hm:=(ig r _ m' h).1;obtain⟨n2,b2,c2⟩:=yc r _ m' h hn;refine⟨[⟨.sl c,l'⟩]++n2,by rw[b2,append_assoc],fun rest j hj=>?_⟩;simp only[map_cons,mem_cons]at hj;simp only[append_assoc,cons_append,nil_append,lens];by_cases hjk:j=k
   ·subst hjk;refine⟨_,_,hn _ (hm.1 _ (by simp)),h1,fun c2 l2 he=>?_⟩;injection he with e1 e2;subst e1;have e2:=eq_of_heq e2;subst e2;have:=congrArg List.length (eu h2).2;simp only[length_map]at this;rw[this];exact List.mem_cons_self
   ·rcases hj with rfl |hj
    ·exact (hjk rfl).elim
    ·obtain⟨k',o',g1,g2,g3⟩:=c2 rest j hj;exact⟨k',o',g1,g2,fun c l he=>List.mem_cons_of_mem _ (g3 c l he)⟩
  ·rename_i kc vc kc' vc' l;split at h
   ·rw[ai]at h;obtain⟨l',h2,h⟩:=h;have hm:=(ig r _ m' h).1;obtain⟨n2,b2,c2⟩:=yc r _ m' h hn;refine⟨[⟨.mp kc vc,l'⟩]++n2,by rw[b2,append_assoc],fun rest j hj=>?_⟩;simp only[map_cons,mem_cons]at hj;simp only[append_assoc,cons_append,nil_append,lens,List.drop_succ_cons,List.drop_zero];by_cases hjk:j=k
    ·subst hjk;exact⟨_,_,hn _ (hm.1 _ (by simp)),h1,fun c2 l2 he=>by cases he⟩
    ·rcases hj with rfl |hj
     ·exact (hjk rfl).elim
     ·exact c2 rest j hj
   ·cases h
  ·rename_i sz rows sz' rows';split at h
   ·rw[ai]at h;obtain⟨m1,h2,h⟩:=h;obtain⟨a1,n1,b1,c1⟩:=sF rows _ _ m1 h2;have hm:=(ig r _ m' h).1;obtain⟨n2,b2,c2⟩:=yc r _ m' h hn;refine⟨n1++n2,by rw[b2,b1,append_assoc],fun rest j hj=>?_⟩;simp only[map_cons,mem_cons]at hj;have hd:(n1++n2++rest).drop (oV rows).length=n2++rest:=(by rw[<- c1,append_assoc,List.drop_left]);simp only[lens,hd];by_cases hjk:j=k
    ·subst hjk;exact⟨_,_,hn _ (hm.1 _ (a1.1 _ (by simp))),h1,fun c2 l2 he=>by cases he⟩
    ·rcases hj with rfl |hj
     ·exact (hjk rfl).elim
     ·exact c2 rest j hj
   ·cases h
  ·cases h
theorem yg:∀ (os:List (Nat×OP X.ι)) (L:List (DC X)),((lens os L).map (·.1)).Sublist (os.map (·.1))
 |[],_=>by simp[lens]
 |(k,.l c)::r,L=>by
  simp only[lens];split
  ·exact (yg r _).cons_cons _
  ·exact List.nil_sublist _
 |(k,.m kc vc)::r,L=>by
  simp only[lens];exact (yg r _).cons _
 |(k,.c sz rows)::r,L=>by
  simp only[lens];exact (yg r _).cons _
def Yv (get':Nat->Option aF) (NM:List (Nat×Nat)) (VRS:List Nat) (bs:List OB) (ks:List Nat):Prop:=
 ∀ (j:Nat) hs q o,bs[j]? =some (.cel hs)->ks[j]? =some q->get' q=some o->∀ k∈KH o,(∃ z,(k,z)∈NM)∨k∈VRS
theorem EW {sz:Nat} {rows:List (List (DV X))} {k:Nat} (h:k∈KH (aH (.cells sz rows))):k∈(rows.map aD).flatten:=by
 simp only[KH,aH,List.mem_flatMap,mem_map]at h;obtain⟨a,⟨r,hr,rfl⟩,hk⟩:=h;rw[dG]at hk;exact List.mem_flatten.2 ⟨_,mem_map.2 ⟨r,hr,rfl⟩,hk⟩
theorem uJ (hi:∀ q∈NM,ids[q.2]? =some q.1) (hv:∀ k∈VRS,k∉ids) (hrd:∀ k,(∃ q,(k,q)∈NM)∨k∈VRS->k∈rd) (ho:∀ q∈NM,∀ c l,get q.1=some (.lst c l)->olen q.2=l.length):
 ∀ (os:List (Nat×OP X.ι)) (m m':MG X),wJ get os m=some m'->(∀ q∈m'.nm,q∈NM)->(∀ c∈m'.chk,c=true)->(∀ k∈m'.vr,k∈VRS)->
 ∃ new,m'.dcs=m.dcs++new∧∃ xs:List (Nat×DObj X),(∀ rest,aO olen os (new++rest)=xs.map fun p=>(p.1,some p.2))∧
   ∃ bs mo,(∀ p∈mo,p)∧Ad P (aX rd (bT get)) ids (os.map fun p=>(ids[p.1]?).getD 0) bs=some (xs.map fun p=>aH p.2,mo)∧Yv (aX rd (bT get)) NM VRS bs (os.map fun p=>(ids[p.1]?).getD 0)
 |[],m,m',h,_,_,_=>by
  simp only[wJ,Option.some.injEq]at h;subst h;exact⟨[],by simp,[],fun rest=>rfl,[],[],by simp,rfl,fun j hs q o h=>by simp at h⟩
 |(k,op)::r,m,m',h,hn,hc,hr=>by
  simp only[wJ]at h;rw[ai]at h;obtain⟨o,h1,h⟩:=h;split at h
  ·rename_i c c' l;rw[ai]at h;obtain⟨l',h2,h⟩:=h;have hm:=(ig r _ m' h).1;have hq:(nmG m k,k)∈NM:=hn _ (hm.1 _ (by simp));have hid:(ids[k]?).getD 0=nmG m k:=(by rw[hi _ hq];rfl);have hget:=bg (hrd (nmG m k) (.inl ⟨k,hq⟩)) h1;obtain⟨h3,h4⟩:=eu h2;obtain⟨n2,a2,xs,b2,bs,mo,p2,q2,r2⟩:=uJ hi hv hrd ho r _ m' h hn hc hr;refine⟨[⟨.sl c,l'⟩]++n2,by rw[a2,append_assoc],(k,.lst c l')::xs,fun rest=>by simp only[append_assoc,cons_append,nil_append,aO,b2,map_cons],.dat (CT.sz X c,l'.map (CT.row X.toSE c))::bs,((aH (.lst c' l)).sz=CT.sz X c∧bA ((aH (.lst c' l)).rows.take (l'.map (CT.row X.toSE c)).length)=ay (l'.map (CT.row X.toSE c)))::mo,?_,?_,?_⟩
   ·intro p hp;rcases mem_cons.1 hp with rfl |hp
    ·refine⟨h3,?_⟩;simp only[aH,h4];rw[take_of_length_le (by simp[ay])];simp[bA,ay,Function.comp_def,wk]
    ·exact p2 p hp
   ·simp only[map_cons,Ad,OH,hid,hget,bind_some,q2,cons_append,nil_append];rfl
   ·intro j hs q o' hj hq' ho';cases j with
    |zero=>simp at hj
    |succ j=>exact r2 j hs q o' (by simpa using hj) (by simpa using hq') ho'
  ·rename_i kc vc kc' vc' l;split at h
   ·rename_i hone;rw[ai]at h;obtain⟨l',h2,h⟩:=h;have hm:=(ig r _ m' h).1;have hq:(nmG m k,k)∈NM:=hn _ (hm.1 _ (by simp));have hid:(ids[k]?).getD 0=nmG m k:=(by rw[hi _ hq];rfl);have hget:=bg (hrd (nmG m k) (.inl ⟨k,hq⟩)) h1;have hden:aH (.map kc' vc' l)=aH (.map kc vc l'):=by
     obtain⟨e,h2⟩:=ic h2;injection e with e1 e2;subst e1;subst e2;subst h2;rfl
    have hab:aH (.map kc vc l')=aob (List.length l',l'.map fun q=>CT.row X.toSE kc q.1++CT.row X.toSE vc q.2):=by
     simp only[aH,aob,ay,map_map];congr 1;refine map_congr_left fun q _=>?_;obtain⟨t1,g1,g2⟩:=row_one hone.1 q.1;obtain⟨t2,g3,g4⟩:=row_one hone.2 q.2;simp[g1,g2,g3,g4,TV.av]
    obtain⟨n2,a2,xs,b2,bs,mo,p2,q2,r2⟩:=uJ hi hv hrd ho r _ m' h hn hc hr;refine⟨[⟨.mp kc vc,l'⟩]++n2,by rw[a2,append_assoc],(k,.map kc vc l')::xs,fun rest=>by simp only[append_assoc,cons_append,nil_append,aO,b2,map_cons],.dat (List.length l',l'.map fun q=>CT.row X.toSE kc q.1++CT.row X.toSE vc q.2)::bs,((aH (.map kc' vc' l)).sz=List.length l'∧bA ((aH (.map kc' vc' l)).rows.take (l'.map fun q=>CT.row X.toSE kc q.1++CT.row X.toSE vc q.2).length)=ay (l'.map fun q=>CT.row X.toSE kc q.1++CT.row X.toSE vc q.2))::mo,?_,?_,?_⟩
    ·intro p hp;rcases mem_cons.1 hp with rfl |hp
     ·rw[hden,hab];refine⟨rfl,?_⟩;simp only[aob];rw[take_of_length_le (by simp[ay])];simp[bA,ay,Function.comp_def,wk]
     ·exact p2 p hp
    ·simp only[map_cons,Ad,OH,hid,hget,bind_some,q2,cons_append,nil_append,hab]
    ·intro j hs q o' hj hq' ho';cases j with
     |zero=>simp at hj
     |succ j=>exact r2 j hs q o' (by simpa using hj) (by simpa using hq') ho'
   ·cases h
  ·rename_i sz rows sz' rows';split at h
   ·rename_i hsz;rw[ai]at h;obtain⟨m1,h2,h⟩:=h;have hm1:=(sF rows _ _ m1 h2).1;have hm:=(ig r _ m' h).1;have hq:(nmG m k,k)∈NM:=hn _ (hm.1 _ (hm1.1 _ (by simp)));have hid:(ids[k]?).getD 0=nmG m k:=(by rw[hi _ hq];rfl);have hget:=bg (hrd (nmG m k) (.inl ⟨k,hq⟩)) h1;obtain⟨n1,a1,qs,b1,⟨hs1,o1,p1,q1⟩,r1⟩:=IK (P:=P) hi hv hrd ho rows _ _ m1 h2 (fun q hq=>hn q (hm.1 q hq)) (fun q hq=>hc q (hm.2.1 q hq)) (fun q hq=>hr q (hm.2.2 q hq));obtain⟨n2,a2,xs,b2,bs,mo,p2,q2,r2⟩:=uJ hi hv hrd ho r _ m' h hn hc hr;subst hsz;refine⟨n1++n2,by rw[a2,a1,append_assoc],(k,.cells sz qs)::xs,fun rest=>by simp only[append_assoc,aO,b1,b2,map_cons],.cel hs1::bs,o1++mo,dz p1 p2,?_,?_⟩
    ·simp only[map_cons,Ad,OH,hid,hget,bind_some,aH,q1,q2]
    ·intro j hs q o' hj hq' ho';cases j with
     |zero=>
      simp only[map_cons,List.getElem?_cons_zero,Option.some.injEq]at hq';rw[<- hq',hid,hget]at ho';injection ho' with ho';subst ho';exact fun z hz=>r1 z (EW hz)
     |succ j=>exact r2 j hs q o' (by simpa using hj) (by simpa using hq') ho'
   ·cases h
  ·cases h
end
end
end Go.Gb
