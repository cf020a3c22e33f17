import Derived.Test.YtbdekfpclohfnaaGreatW2
import Derived.ChangeSame
import Derived.Carry
import Derived.OpenShut
import Derived.SizedLaws
import Derived.WalkKit
import Derived.ProofKit
import Derived.Lib.LaidTab
open List (mem_map all_eq_true cons_append length_map append_nil map_map take_of_length_le map_congr_left flatten_cons map_nil all_cons map_take map_drop map_append)
namespace Go.Gb
open Go.RowKit Go.WideShapes Go.ChangeShapes
inductive CS where
 |int (k:IntKind)
 |bool
 |str
 |sl (row:List CS)
 |any
  |mu (row:List CS)
 |back
def aqL:CS->Tree->Prop
 | .int k,x=>∃n,x= .sc (.int k n)/\(Lit.int k n).wf=true
 | .bool,x=>∃b,x= .sc (.bool b)
 | .str,x=>∃s,x= .sc (.string s)/\s.size<=maxLen
 |_,_=>False
def aqf:CS->Nat
 | .int .i64=>8
 | .int _=>1
 | .bool=>1
 | .str=>16
 |_=>24
def HC:CS->Nat
 | .int .i64=>8
 | .int _=>1
 | .bool=>1
 |_=>8
def MY:Nat->List CS->Nat
 |o,[]=>o
 |o,c::cs=>MY ((o+(HC c -1))/HC c*HC c+aqf c) cs
def uC(r:List CS):Nat:=bif r.any (λ c=>HC c==8)then(MY 0 r+7)/8*8 else MY 0 r
mutual
inductive BE(row:List CS):Tree->Prop
 |mk (rows:List (List Tree)) (hl:rows.length<=maxLen) (h:l4 row rows):BE row (.sl rows)
inductive l4(row:List CS):List (List Tree)->Prop
 |nil:l4 row []
 |cons {r:List Tree} {rs:List (List Tree)} (h:f8 row row r) (t:l4 row rs):l4 row (r::rs)
inductive f8(row:List CS):List CS->List Tree->Prop
 |nil:f8 row [] []
 |back {cs:List CS} {x:Tree} {xs:List Tree} (h:BE row x) (t:f8 row cs xs):f8 row (.back::cs) (x::xs)
 |one {c:CS} {cs:List CS} {x:Tree} {xs:List Tree} (h:aqL c x) (t:f8 row cs xs):f8 row (c::cs) (x::xs)
end
mutual
def Fit:CS->Tree->Prop
 | .int k,x=>∃n,x= .sc (.int k n)/\(Lit.int k n).wf=true
 | .bool,x=>∃b,x= .sc (.bool b)
 | .str,x=>∃s,x= .sc (.string s)/\s.size<=maxLen
 | .sl row,x=>∃rows,x= .sl rows/\(rows.length<=maxLen/\rows.length*uC row<=reachBytes)/\∀r∈rows,cN row r
 | .any,_=>True
 | .mu row,x=>BE row x
 | .back,_=>False
def cN:List CS->List Tree->Prop
 |[],[]=>True
 |c::cs,x::xs=>Fit c x/\cN cs xs
 |_,_=>False
end
def tP(P:Program)(go:TypeId->Option (List CS)):Nat->List Field->Option (List CS)
 |_,[]=>some []
 |o,f::fs=>(go f.type).bind λa=>if f.offset=o/\a.length=P.cellsOf f.type then(tP P go (o+a.length) fs).map (a++ ·)else none
def Pr(P:Program)(t u:TypeId):Option (List CS):=if u=t then some [.back]else match P.underlying u with
 |some (.int k)=>some [.int k]
 |some .bool=>some [.bool]
 |some .string=>some [.str]
 |_=>none
def HB(P:Program)(t e:TypeId):Option (List CS):=match P.underlying e with
 |some (.struct fs)=>(tP P (Pr P t) 0 fs.toList).bind λr=>if r.length=P.cellsOf e/\0<r.length then some r else none
 |_=>none
def t0(P:Program)(cut:List TypeId):Nat->TypeId->Option (List CS)
 | 0,_=>none
 |n+1,t=>match P.underlying t with
  |some (.int k)=>some [.int k]
  |some .bool=>some [.bool]
  |some .string=>some [.str]
  |some (.slice e)=>if cut.contains t then(match HB P t e with |some row=>some [.mu row] |none=>some [.any])else(t0 P cut n e).bind λr=>if r.length=P.cellsOf e/\0<r.length/\uC r<=P.bytesOf e then some [.sl r]else none
  |some (.struct fs)=>(tP P (t0 P cut n) 0 fs.toList).bind λr=>if r.length=P.cellsOf t then some r else none
  |some (.array m e)=>(t0 P cut n e).bind λr=>if r.length=P.cellsOf e/\m*r.length=P.cellsOf t then some (List.replicate m r).flatten else none
  |_=>none
theorem cN.length:∀(cs:List CS)(ts:List Tree),cN cs ts->ts.length=cs.length
 |[],[],_=>rfl
 |c::cs,x::xs,h=>by simp only[cN]at h;simp[cN.length cs xs h.2]
 |[],_::_,h=>by simp[cN]at h
 |_::_,[],h=>by simp[cN]at h
theorem cN.append:∀(cs:List CS)(ts:List Tree){cs':List CS}{ts':List Tree},cN cs ts->cN cs' ts'->cN (cs++cs') (ts++ts')
 |[],[],_,_,_,h=>h
 |c::cs,x::xs,_,_,h,h'=>by simp only[cN,cons_append]at h ⊢;exact⟨h.1,cN.append cs xs h.2 h'⟩
 |[],_::_,_,_,h,_=>by simp[cN]at h
 |_::_,[],_,_,h,_=>by simp[cN]at h
def Here(w:World)(b:Nat):Prop:=b<w.heap.size
section
variable {w:World} {I:Nat->Prop}
theorem en.append:∀(ts:List Tree)(cs:List Value){ts':List Tree}{cs':List Value},en w I ts cs->en w I ts' cs'->en w I (ts++ts') (cs++cs')
 |[],[],_,_,_,h=>h
 |_::xs,_::vs,_,_,h,h'=>⟨h.1,en.append xs vs h.2 h'⟩
 |[],_::_,_,_,h,_=>h.elim
 |_::_,[],_,_,h,_=>h.elim
theorem en.length:∀(ts:List Tree)(cs:List Value),en w I ts cs->ts.length=cs.length
 |[],[],_=>rfl
 |_::xs,_::vs,h=>by simp[en.length xs vs h.2]
 |[],_::_,h=>h.elim
 |_::_,[],h=>h.elim
theorem R0:∀(ts:List Tree)(cs:List Value)(b ae:Nat),en w I ts cs->(∀ i,i<cs.length->w.cell? ⟨b,ae+i,none⟩=cs[i]?)->de w I ts b ae
 |[],[],_,_,_,_=>by simp[de]
 |x::xs,v::vs,b,ae,h,hc=>by
  simp only[de];refine⟨⟨v,by simpa using hc 0 (by simp),h.1⟩,R0 xs vs b (ae+1) h.2 λi hi=>?_⟩;have:=hc (i+1) (by simpa using hi);rw[show ae+(i+1)=ae+1+i by omega]at this;simpa using this
 |[],_::_,_,_,h,_=>h.elim
 |_::_,[],_,_,h,_=>h.elim
end
section
variable {H:Type} {enc:TypeId×Value->H} {P:Program} {w:World} {sp:Nat->Bool} {held:Bool}
theorem abB{a:Addr}{v:Value}(h:w.cell? a=some v):a.spot=none/\a.block<w.heap.size:=by
 simp only[World.cell?]at h;split at h
 ·rename_i c e st hc;split at h
  ·cases h
  ·rename_i hs;exact⟨by simpa using hs,(Array.getElem?_eq_some_iff.1 hc).1⟩
 ·cases h
def H3(P:Program)(t:TypeId)(x:DataW H×List MemPlace):Prop:=∀k∈x.1.weights P t,k<=reachBytes
theorem Bg{e:TypeId}:∀{l:List (DataW H)}{d:DataW H},d∈l->∀k∈d.weights P e,k∈DataW.weightsAll P e l
 |a::l,d,h,k,hk=>by
  simp only[DataW.weightsAll,bf];rcases aK.1 h with rfl |h
  ·exact .inl hk
  ·exact .inr (Bg h k hk)
theorem UM(m:Nat)(cs:List Value)(go:TypeId->Option (List CS))(hgo:∀t sh,go t=some sh->∀cs x,DataW.trod enc P w 0 sp held m t cs=some x->H3 P t x->∃ts,en w (Here w) ts cs/\cN sh ts):
 ∀(fs:List Field)(o:Nat)(sh:List CS),tP P go o fs=some sh->(∀ f∈fs,∃x,DataW.trod enc P w 0 sp held m f.type ((cs.drop f.offset).take (P.cellsOf f.type))=some x/\H3 P f.type x)->
  ∃ts,en w (Here w) ts ((cs.drop o).take sh.length)/\cN sh ts
 |[],o,sh,h,_=>by
  simp only[tP,aC]at h;subst h;exact⟨[],by simp[en],by simp[cN]⟩
 |f::fs,o,sh,h,hf=>by
  simp only[tP,aj]at h;obtain⟨a,h1,h2⟩:=h;split at h2
  ·rename_i hc;obtain⟨hc1,hc2⟩:=hc;simp only[fq]at h2;obtain⟨r,h3,rfl⟩:=h2;obtain⟨x,hx,hz⟩:=hf f (by simp);obtain⟨ts,g1,g2⟩:=hgo _ _ h1 _ _ hx hz;obtain⟨ts',g3,g4⟩:=UM m cs go hgo fs _ _ h3 λf' hf'=>hf f' (by simp[hf']);refine⟨ts++ts',?_,cN.append _ _ g2 g4⟩;rw[bW,List.take_add,List.drop_drop];rw[hc1,<- hc2]at g1;exact en.append _ _ g1 g3
  ·cases h2
theorem f8.append{row:List CS}:∀{a b:List CS}{x y:List Tree},f8 row a x->f8 row b y->f8 row (a++b) (x++y)
 |_,_,_,_,.nil,h=>h
 |_,_,_,_,.back h t,h'=> .back h (t.append h')
 |_,_,_,_,.one h t,h'=> .one h (t.append h')
theorem Qh{row:List CS}(m:Nat)(cs:List Value)(go:TypeId->Option (List CS))(hgo:∀t sh,go t=some sh->∀cs x,DataW.trod enc P w 0 sp held m t cs=some x->∃ts,en w (Here w) ts cs/\f8 row sh ts):
 ∀(fs:List Field)(o:Nat)(sh:List CS),tP P go o fs=some sh->(∀ f∈fs,∃x,DataW.trod enc P w 0 sp held m f.type ((cs.drop f.offset).take (P.cellsOf f.type))=some x)->
  ∃ts,en w (Here w) ts ((cs.drop o).take sh.length)/\f8 row sh ts
 |[],o,sh,h,_=>by
  simp only[tP,aC]at h;subst h;exact⟨[],by simp[en],.nil⟩
 |f::fs,o,sh,h,hf=>by
  simp only[tP,aj]at h;obtain⟨a,h1,h2⟩:=h;split at h2
  ·rename_i hc;obtain⟨hc1,hc2⟩:=hc;simp only[fq]at h2;obtain⟨r,h3,rfl⟩:=h2;obtain⟨x,hx⟩:=hf f (by simp);obtain⟨ts,g1,g2⟩:=hgo _ _ h1 _ _ hx;obtain⟨ts',g3,g4⟩:=Qh m cs go hgo fs _ _ h3 λf' hf'=>hf f' (by simp[hf']);refine⟨ts++ts',?_,g2.append g4⟩;rw[bW,List.take_add,List.drop_drop];rw[hc1,<- hc2]at g1;exact en.append _ _ g1 g3
  ·cases h2
theorem aom{t e:TypeId}{row:List CS}(hk:P.underlying t=some (.slice e))(hm:HB P t e=some row):∀(fuel:Nat)(cs:List Value)(x:DataW H×List MemPlace),DataW.trod enc P w 0 sp held fuel t cs=some x->∃tr,en w (Here w) [tr] cs/\BE row tr:=by
 intro fuel
 induction fuel using Nat.strongRecOn with
 |_ fuel ih=>
 intro cs x hx;have one:∀m,m<fuel->∀pH y,DataW.trod enc P w 0 sp held m e pH=some y->∃ts,en w (Here w) ts pH/\f8 row row ts/\ts.length=row.length:=by
  intro m hmf pH y hy;unfold HB at hm;split at hm
  ·rename_i fs hke;simp only[aj]at hm;obtain⟨r,h1,h2⟩:=hm;split at h2
   ·rename_i hr;injection h2 with h2;subst h2;obtain⟨xs,m',hm',_,hl,hxs,hf⟩:=DataW.trod_struct hke hy;obtain⟨ts,g1,g2⟩:=Qh (row:=r) m' pH (Pr P t) (λ u sh hsh cs x hx=>by
     unfold Pr at hsh;split at hsh
     ·rename_i hu;cases hsh;rw[hu]at hx;obtain⟨tr,a1,a2⟩:=ih m' (by omega) cs x hx;exact⟨[tr],a1,.back a2 .nil⟩
     ·split at hsh
      ·rename_i k wa;cases hsh;obtain⟨v,rfl,_,hw⟩:=DataW.trod_int wa hx;exact⟨[.sc (.int k v)],by simp[en,TR,oneCell],.one ⟨v,rfl,hw⟩ .nil⟩
      ·rename_i wa;cases hsh;obtain⟨v,rfl,_⟩:=DataW.trod_bool wa hx;exact⟨[.sc (.bool v)],by simp[en,TR,oneCell],.one ⟨v,rfl⟩ .nil⟩
      ·rename_i wa;cases hsh;obtain⟨v,rfl,_,hw⟩:=DataW.trod_string wa hx;exact⟨[.sc (.string v)],by simp[en,TR,oneCell],.one ⟨v,rfl,hw⟩ .nil⟩
      ·cases hsh) fs.toList 0 r h1 (λ f hf'=>by
     obtain⟨i,hi⟩:=List.getElem?_of_mem hf';have hi':fs[i]? =some f:=(by simpa using hi);have:=hf i f hi';rw[dI (by have:=(Array.getElem?_eq_some_iff.1 hi').1;omega)]at this;exact⟨_,this⟩)
    rw[List.drop_zero,take_of_length_le (by omega)]at g1;refine⟨ts,g1,g2,?_⟩;rw[en.length _ _ g1];omega
   ·cases h2
  ·cases hm
 have rl:row.length=P.cellsOf e/\0<row.length:=by
  unfold HB at hm;split at hm
  ·simp only[aj]at hm;obtain⟨r,h1,h2⟩:=hm;split at h2
   ·rename_i hr;cases h2;exact hr
   ·cases h2
  ·cases hm
 rcases DataW.trod_slice hk hx with ⟨rfl,_⟩ |⟨a,len,cap,elems,an,m,hfm,rfl,_,_,hl,hmx,hlen,hel,_,_⟩
 ·refine⟨.sl [],?_,.mk [] (by simp[maxLen]) .nil⟩;simp only[en,TR];exact⟨.inl ⟨trivial,none,0,rfl,λ_=>rfl⟩,trivial⟩
 ·have each:∀i,i<len->∃pH y,w.cells? 0 (a.add (i*P.cellsOf e)) (P.cellsOf e)=some pH/\DataW.trod enc P w 0 sp held m e pH=some y:=by
   intro i hi;have h3:=hel i hi;rw[dI (by omega),aj]at h3;obtain⟨pH,h4,h5⟩:=h3;exact⟨pH,_,h4,h5⟩
  by_cases h0:len=0
  ·subst h0;refine⟨.sl [],?_,.mk [] (by simp[maxLen]) .nil⟩;simp only[en,TR];exact⟨.inl ⟨trivial,some a,cap,rfl,λh=>by cases h⟩,trivial⟩
  ·obtain⟨cs0,y0,c0,_⟩:=each 0 (by omega);obtain⟨_,c1,c2⟩:=World.cells?_some c0;have c3:=c2 0 (by omega);rw[dI (by omega)]at c3;have c4:=abB c3;simp only[Nat.zero_mul,Addr.add,if_true]at c4;obtain⟨b,ae,s⟩:=a;simp only at c4;obtain⟨rfl,hb⟩:=c4;have rows:∀q j,j+q=len->∃rows:List (List Tree),rows.length=q/\cj w (Here w) rows b (ae+j*P.cellsOf e) (P.cellsOf e)/\l4 row rows:=by
    intro q
    induction q with
    |zero=>intro j _;exact⟨[],rfl,by simp[cj],.nil⟩
    |succ q ihq=>
     intro j hj;obtain⟨rows,g1,g2,g3⟩:=ihq (j+1) (by omega);obtain⟨csj,y,g4,g5⟩:=each j (by omega);obtain⟨ts,g6,g7,_⟩:=one m (by omega) _ _ g5;obtain⟨_,g8,g9⟩:=World.cells?_some g4;refine⟨ts::rows,by simp[g1],?_,.cons g7 g3⟩;simp only[cj];refine⟨(en.length _ _ g6).trans g8,R0 _ _ _ _ g6 λi hi=>?_,?_⟩
     ·rw[<- g9 i (by omega),addr_add,addr_add]
     ·rw[show ae+j*P.cellsOf e+P.cellsOf e=ae+(j+1)*P.cellsOf e by rw[Nat.add_mul];omega];exact g2
   obtain⟨rows,g1,g2,g3⟩:=rows len 0 (by omega);refine⟨.sl rows,?_,.mk rows (by omega) g3⟩;simp only[en,TR];exact⟨.inr ⟨b,ae,cap,P.cellsOf e,by rw[g1],by omega,hb,by simpa using g2⟩,trivial⟩
theorem Im{cut:List TypeId}:∀(n:Nat)(t:TypeId)(sh:List CS),t0 P cut n t=some sh->∀(fuel:Nat)(cs:List Value)(x:DataW H×List MemPlace),DataW.trod enc P w 0 sp held fuel t cs=some x->H3 P t x->
 ∃ts,en w (Here w) ts cs/\cN sh ts
 | 0,_,_,h,_,_,_,_,_=>by simp[t0]at h
 |n+1,t,sh,h,fuel,cs,x,hx,hz=>by
  unfold t0 at h;split at h
  ·rename_i k hk;cases h;obtain⟨v,rfl,_,hw⟩:=DataW.trod_int hk hx;exact⟨[.sc (.int k v)],by simp[en,TR,oneCell],by simp only[cN,Fit];exact⟨⟨v,rfl,hw⟩,trivial⟩⟩
  ·rename_i hk;cases h;obtain⟨v,rfl,_⟩:=DataW.trod_bool hk hx;exact⟨[.sc (.bool v)],by simp[en,TR,oneCell],by simp only[cN,Fit];exact⟨⟨v,rfl⟩,trivial⟩⟩
  ·rename_i hk;cases h;obtain⟨v,rfl,_,hw⟩:=DataW.trod_string hk hx;exact⟨[.sc (.string v)],by simp[en,TR,oneCell],by simp only[cN,Fit];exact⟨⟨v,rfl,hw⟩,trivial⟩⟩
  ·rename_i e hk;split at h
   ·split at h
    ·rename_i row hmr;cases h;have⟨tr,g1,g2⟩:=aom hk hmr fuel cs x hx;exact⟨[tr],g1,by simp only[cN,Fit];exact⟨g2,trivial⟩⟩
    cases h;rcases DataW.trod_slice hk hx with ⟨rfl,_⟩ |⟨a,len,cap,elems,an,m,_,rfl,_,_,hl,hm,hlen,hel,_,_⟩
    ·exact⟨[.sc (.slice none 0 0)],by simp[en,TR,oneCell],by simp[cN,Fit]⟩
    ·exact⟨[.sc (.slice (some a) len cap)],by simp[en,TR,oneCell],by simp[cN,Fit]⟩
   simp only[aj]at h;obtain⟨r,h1,h2⟩:=h;split at h2
   ·rename_i hr;cases h2;rcases DataW.trod_slice hk hx with ⟨rfl,_⟩ |⟨a,len,cap,elems,an,m,_,rfl,rfl,_,hl,hm,hlen,hel,_,_⟩
    ·refine⟨[.sl []],?_,by simp only[cN,Fit];exact⟨⟨[],rfl,by simp[maxLen],by simp⟩,trivial⟩⟩;simp only[en,TR];exact⟨.inl ⟨trivial,none,0,rfl,λ_=>rfl⟩,trivial⟩
    ·have SU:∀k,k=(elems.length+an.length)*P.bytesOf e\/k∈DataW.weightsAll P e (elems.map (·.1))->k<=reachBytes:=by
      intro k hkk;refine hz k ?_;simp only[DataW.weights,hk,aK,bf,length_map];rcases hkk with h |h
      ·exact .inl h
      ·exact .inr (.inl h)
     have each:∀i,i<len->∃pH y,w.cells? 0 (a.add (i*P.cellsOf e)) (P.cellsOf e)=some pH/\DataW.trod enc P w 0 sp held m e pH=some y/\H3 P e y:=by
      intro i hi;have h3:=hel i hi;rw[dI (by omega),aj]at h3;obtain⟨pH,h4,h5⟩:=h3;exact⟨pH,_,h4,h5,λk hk=>SU k (.inr (Bg (mem_map.2 ⟨_,List.getElem_mem (by omega),rfl⟩) k hk))⟩
     have hbytes:len*uC r<=reachBytes:=by
      have h1:=SU _ (.inl rfl);have h2:len*uC r<=(elems.length+an.length)*P.bytesOf e:=Nat.mul_le_mul (by omega) hr.2.2;omega
     by_cases h0:len=0
     ·subst h0;refine⟨[.sl []],?_,by simp only[cN,Fit];exact⟨⟨[],rfl,by simp[maxLen],by simp⟩,trivial⟩⟩;simp only[en,TR];exact⟨.inl ⟨trivial,some a,cap,rfl,λh=>by cases h⟩,trivial⟩
     ·obtain⟨cs0,y0,c0,_,_⟩:=each 0 (by omega);obtain⟨_,c1,c2⟩:=World.cells?_some c0;have c3:=c2 0 (by omega);rw[dI (by omega)]at c3;have c4:=abB c3;simp only[Nat.zero_mul,Addr.add,if_true]at c4;obtain⟨b,ae,s⟩:=a;simp only at c4;obtain⟨rfl,hb⟩:=c4;have rows:∀m j,j+m=len->∃rows:List (List Tree),rows.length=m/\cj w (Here w) rows b (ae+j*P.cellsOf e) (P.cellsOf e)/\∀x∈rows,cN r x:=by
       intro m
       induction m with
       |zero=>intro j _;exact⟨[],rfl,by simp[cj],by simp⟩
       |succ m ih=>
        intro j hj;obtain⟨rows,g1,g2,g3⟩:=ih (j+1) (by omega);obtain⟨csj,y,g4,g5,g5z⟩:=each j (by omega);obtain⟨ts,g6,g7⟩:=Im n e r h1 _ _ _ g5 g5z;obtain⟨_,g8,g9⟩:=World.cells?_some g4;refine⟨ts::rows,by simp[g1],?_,λx hx=>?_⟩
        ·simp only[cj];refine⟨(en.length _ _ g6).trans g8,R0 _ _ _ _ g6 λi hi=>?_,?_⟩
         ·rw[<- g9 i (by omega),addr_add,addr_add]
         ·rw[show ae+j*P.cellsOf e+P.cellsOf e=ae+(j+1)*P.cellsOf e by rw[Nat.add_mul];omega];exact g2
        ·rcases aK.1 hx with rfl |hx
         ·exact g7
         ·exact g3 x hx
      obtain⟨rows,g1,g2,g3⟩:=rows len 0 (by omega);refine⟨[.sl rows],?_,by simp only[cN,Fit];exact⟨⟨rows,rfl,⟨by omega,by rw[g1];exact hbytes⟩,g3⟩,trivial⟩⟩;simp only[en,TR];exact⟨.inr ⟨b,ae,cap,P.cellsOf e,by rw[g1],by omega,hb,by simpa using g2⟩,trivial⟩
   ·cases h2
  ·rename_i fs hk;simp only[aj]at h;obtain⟨r,h1,h2⟩:=h;split at h2
   ·rename_i hr;injection h2 with h2;subst h2;obtain⟨xs,m,_,rfl,hl,hxs,hf⟩:=DataW.trod_struct hk hx;obtain⟨ts,g1,g2⟩:=UM m cs (t0 P cut n) (λ t sh hsh cs x hx hz=>Im n t sh hsh m cs x hx hz) fs.toList 0 r h1 (λ f hf'=>by
     obtain⟨i,hi⟩:=List.getElem?_of_mem hf';have hi':fs[i]? =some f:=(by simpa using hi);have hlt:i<xs.length:=(by have:=(Array.getElem?_eq_some_iff.1 hi').1;omega);have:=hf i f hi';rw[dI hlt]at this;refine⟨_,this,λk hk'=>hz k ?_⟩;simp only[DataW.weights,hk];exact DataW.weights_mem_each (j:=i) (t:=f.type) (d:=(xs[i]).1) (by simp[hi']) (by simp[hlt]) k hk')
    refine⟨ts,?_,g2⟩;rw[List.drop_zero,take_of_length_le (by omega)]at g1;exact g1
   ·cases h2
  ·rename_i m e hk;simp only[aj]at h;obtain⟨r,h1,h2⟩:=h;split at h2
   ·rename_i hr;cases h2;obtain⟨xs,q,_,rfl,hl,hxs,hf⟩:=DataW.trod_array hk hx;have part:∀i j,j+i=m->∃ts,en w (Here w) ts (cs.drop (j*P.cellsOf e))/\cN (List.replicate i r).flatten ts:=by
     intro i
     induction i with
     |zero=>
      intro j hj;refine⟨[],?_,by simp[cN]⟩;have:j=m:=(by omega);subst this;rw[List.drop_of_length_le (by rw[hl,<- hr.2,<- hr.1];omega)];simp[en]
     |succ i ih=>
      intro j hj;obtain⟨ts,g1,g2⟩:=ih (j+1) (by omega);have:=hf j (by omega);rw[dI (by omega)]at this;obtain⟨ts0,g3,g4⟩:=Im n e r h1 _ _ _ this (λ k hk'=>hz k (by
       simp only[DataW.weights,hk];exact Bg (mem_map.2 ⟨_,List.getElem_mem (by omega),rfl⟩) k hk'))
      refine⟨ts0++ts,?_,?_⟩
      ·have:=en.append _ _ g3 g1;rw[show (j+1)*P.cellsOf e=j*P.cellsOf e+P.cellsOf e by rw[Nat.add_mul];omega,<- List.drop_drop,List.take_append_drop]at this;exact this
      ·rw[List.replicate_succ,flatten_cons];exact cN.append _ _ g4 g2
    obtain⟨ts,g1,g2⟩:=part m 0 (by omega);exact⟨ts,by simpa using g1,g2⟩
   ·cases h2
  ·cases h
inductive VS where
 |one (c:CS)
 |agg (cs:List CS)
def Fk(P:Program)(cut:List TypeId)(t:TypeId):Option VS:=
 (t0 P cut 12 t).bind λsh=>match P.underlying t with
  |some (.struct _) |some (.array _ _)=>some (.agg sh)
  |_=>match sh with
   |[c]=>some (.one c)
   |_=>none
def SK:VS->TV->Prop
 | .one c,x=>∃y,x= .s y/\Fit c y
 | .agg cs,x=>∃ys,x= .a ys/\cN cs ys
def NV:List VS->List TV->Prop
 |[],[]=>True
 |s::ss,x::xs=>SK s x/\NV ss xs
 |_,_=>False
theorem amx{cut:List TypeId}{t:TypeId}{s:VS}{v:Value}{d:DataW H}{ps:List MemPlace}{b0:Nat}(hs:Fk P cut t=some s)(hval:Value.okWide P w .any b0 t v)(hd:DataW.Trod enc P w 0 sp held t v d ps)(hz:∀k∈d.weights P t,k<=reachBytes):
 ∃x,pp w (Here w) x v/\SK s x:=by
 obtain⟨fuel,hf⟩:=hd;simp only[Fk,aj]at hs;obtain⟨sh,h1,h2⟩:=hs;obtain⟨ts,g1,g2⟩:=Im 12 t sh h1 _ _ _ hf hz;have hag:∀cs:Array Value,v= .agg cs->s= .agg sh->∃x,pp w (Here w) x v/\SK s x:=by
  rintro cs rfl rfl;exact⟨.a ts,⟨cs,rfl,by simpa[Value.cells]using g1⟩,ts,rfl,g2⟩
 unfold Value.okWide at hval;split at h2
 ·rename_i hu;injection h2 with h2;rw[hu]at hval;obtain⟨cs,rfl,_⟩:=hval;exact hag cs rfl h2.symm
 ·rename_i hu;injection h2 with h2;rw[hu]at hval;obtain⟨cs,rfl,_⟩:=hval;exact hag cs rfl h2.symm
 ·rename_i hu1 hu2;split at h2
  ·rename_i c;cases h2;have hone:v.cells.toList=[v]:=by
    cases hu:P.underlying t with
    |none=>rw[hu]at hval;simp[Cell.okWide,Cell.ok,hu]at hval
    |some d=>
     rw[hu]at hval;cases v<;>first |rfl |(exfalso;revert hval;cases d<;>simp_all [Cell.okWide,Cell.ok])
   rw[hone]at g1
   match ts,g1,g2 with
   |[y],g1,g2=>
    simp only[cN]at g2;exact⟨.s y,g1.1,y,rfl,g2.1⟩
   |[],g1,_=>exact g1.elim
   |_::_::_,g1,_=>exact g1.2.elim
  ·cases h2
theorem abC{cut:List TypeId}:∀{ts:List TypeId}{ss:List VS}{vs:List Value}{ds:List (DataW H)}{ps:List MemPlace}{b0:Nat},ts.mapM (Fk P cut)=some ss->
 (∀ (j:Nat) t v,ts[j]? =some t->vs[j]? =some v->Value.okWide P w .any b0 t v)->DataW.TrodAll enc P w 0 sp held ts vs ds ps->(∀ k∈DataW.weightsEach P ts ds,k<=reachBytes)->∃xs,jt w (Here w) xs vs/\NV ss xs
 |[],ss,vs,ds,ps,b0,hs,_,hd,_=>by
  obtain⟨rfl,rfl,rfl⟩:=trodAll_nil hd;simp only[List.mapM_nil,Option.pure_def,aC]at hs;subst hs;exact⟨[],trivial,trivial⟩
 |t::ts,ss,vs,ds,ps,b0,hs,hval,hd,hz=>by
  obtain⟨v,vs',d,ds',p,q,rfl,rfl,rfl,h0,r0⟩:=trodAll_cons hd;simp only[List.mapM_cons,Option.bind_eq_bind,aj,Option.pure_def,aC]at hs;obtain⟨s,h1,ss',h2,rfl⟩:=hs;obtain⟨x,g1,g2⟩:=amx h1 (hval 0 t v rfl rfl) h0 (λ k hk=>hz k (by simp only[DataW.weightsEach,bf];exact .inl hk));obtain⟨xs,g3,g4⟩:=abC h2 (λ j t v h h'=>hval (j+1) t v h h') r0 (λ k hk=>hz k (by simp only[DataW.weightsEach,bf];exact .inr hk));exact⟨x::xs,⟨g1,g3⟩,g2,g4⟩
theorem UN{β:Nat->Option cA}{I:Nat->Prop}:∀(xs:List TV)(vs:List Value),jt w I xs vs->be P β w I (xs.map TV.av) vs
 |[],[],_=>by simp[be]
 |x::xs,v::vs,h=>by
  simp only[aF,be];refine⟨?_,UN xs vs h.2⟩;have h1:=h.1;cases x with
  |s y=>simp only[TV.av,VR];exact h1
  |a cs=>
   obtain⟨us,rfl,h2⟩:=h1;simp only[TV.av,VR];refine⟨us,rfl,?_⟩;have:∀(cs:List Tree) (us:List Value),en w I cs us->be P β w I (cs.map AV.t) us:=by
    intro cs
    induction cs with
    |nil=>intro us h;cases us<;>first |(simp [be];done) |exact h.elim
    |cons c cs ih=>intro us h;cases us with
     |nil=>exact h.elim
     |cons u us=>simp only[aF,be,VR];exact⟨h.1,ih us h.2⟩
   exact this cs us.toList h2
 |[],_::_,h=>h.elim
 |_::_,[],h=>h.elim
end
section
variable {H:Type} {enc:TypeId×Value->H} {P:Program}
theorem ahr{f:Func}{s:ChangeSpec}{apart fresh handsOn again:Bool}{W W':World}{args:Array Value}{v:Value}{ds gs:List (DataW H)}{before pa pv:List MemPlace}
 (hW:DataW.Whole enc P f.params.toList s.vars apart W args.toList ds gs before)
 (hres:∀(b:Nat)(sp:Nat->Bool)(hd:Bool),DataW.TrodAll enc P W' b sp hd f.resultTypes.toList (v.resultList f.resultTypes.size) (s.fn H (ds++gs)).results [])
 (hargs:∀sp:Nat->Bool,(∀ p∈before,sp p.block=true)->DataW.TrodAll enc P W' 0 sp true f.params.toList args.toList (s.fn H (ds++gs)).args pa)
 (hvars:∀sp:Nat->Bool,(∀ p∈before,sp p.block=true)->DataW.TrodVars enc P W' sp s.vars (s.fn H (ds++gs)).vars pv)
 (hps:before=pa++pv) (hb:Below W.heap.size W W')
 (hok:∀(j:Nat)(t:TypeId)(r:Value),f.resultTypes[j]? =some t->(v.resultList f.resultTypes.size)[j]? =some r->Value.okWide P W' .any 0 t r):
 s.post enc P f apart fresh handsOn again W args v W':=by
 have hlt:∀p∈before,p.block<W.heap.size:=λp hp=>hW.lt p hp;have hold:∀p∈before,(λ b=>decide (b<W.heap.size)) p.block=true:=λp hp=>by simpa using hlt p hp
 refine⟨ds,gs,before,[],pa,pv,hW,hres _ _ _,hargs _ hold,hvars _ hold,World.keptBut_mono (λ p hp=>⟨hp,?_⟩) (hb.frame (· ∈before)),λ_=>?_⟩
 ·rw[hps,bf]at hp;exact Or.inr hp
 ·obtain⟨_,_,_,_,_,hz,hn⟩:=hW;refine⟨hok,_,_,([]++pa)++pv,⟨[]++pa,pv,trodAll_append (hargs _ (λ _ _=>rfl)) (hres _ _ _),hvars _ (λ _ _=>rfl),rfl,?_,?_⟩,?_⟩
  ·intro b ae hp;have hin:MemPlace.cell b ae∈before:=(by rw[hps];simpa using hp);rw[hb.frozen (hlt _ hin)];exact hz b ae hin
  ·intro ha;have:=hn ha;rw[hps]at this;simpa using this
  ·intro p hp _;rw[hps];simpa using hp
theorem NW(hl:laidOutB P=true){W W':World}(hb:Below W.heap.size W W'):∀{ts:List TypeId}{vs:List Value}{ds:List (DataW H)}{ps:List MemPlace},(∀ t∈ts,P.readableRec t=true/\t<P.types.size)->
 DataW.TrodAll enc P W 0 (λ _=>true) true ts vs ds ps->(∀ x∈ps,x.block<W.heap.size)->∀sp:Nat->Bool,(∀ p∈ps,sp p.block=true)->DataW.TrodAll enc P W' 0 sp true ts vs ds ps
 |[],vs,ds,ps,_,hd,_,sp,_=>by
  obtain⟨rfl,rfl,rfl⟩:=trodAll_nil hd;exact trodAll_mk0
 |t::ts,vs,ds,ps,ht,hd,hlt,sp,hsp=>by
  obtain⟨v,vs',d,ds',p,q,rfl,rfl,rfl,h0,r0⟩:=trodAll_cons hd;obtain⟨h1,h2⟩:=ht t (by simp)
  exact trodAll_cons_mk (WideElems.Trod_stays hl h1 h2 h0 (λ x hx=>hb.same (hlt x (by simp[hx]))) (λ x hx=>hsp x (by simp[hx])))
   (NW hl hb (λ t ht'=>ht t (by simp[ht'])) r0 (λ x hx=>hlt x (by simp[hx])) sp (λ x hx=>hsp x (by simp[hx])))
theorem UO{w:World}{base:Nat}{sp:Nat->Bool}{held:Bool}:∀{ts:List TypeId}{vs:List Value}{ds:List (DataW H)}{ps:List MemPlace},DataW.TrodAll enc P w base sp held ts vs ds ps->ds.length=ts.length
 |[],_,_,_,h=>by
  obtain⟨_,rfl,_⟩:=trodAll_nil h;rfl
 |_::_,_,_,_,h=>by
  obtain⟨_,_,_,_,_,_,_,rfl,_,_,h2⟩:=trodAll_cons h;simp[UO h2]
theorem afa:∀{ts:List TypeId}{ds:List (DataW H)}{vt:List TypeId}{gs:List (DataW H)},ds.length=ts.length->∀k∈DataW.weightsEach P ts ds,k∈DataW.weightsEach P (ts++vt) (ds++gs)
 |[],[],_,_,_,k,h=>by simp[DataW.weightsEach]at h
 |t::ts,d::ds,vt,gs,hl,k,h=>by
  simp only[DataW.weightsEach,bf,cons_append]at h ⊢;rcases h with h |h
  ·exact .inl h
  ·exact .inr (afa (by simpa using hl) k h)
 |[],_::_,_,_,h,_,_=>by simp at h
 |_::_,[],_,_,h,_,_=>by simp at h
theorem ada{cut:List TypeId}{C:Checked}{f:FuncId}{fn:Func}{s:ChangeSpec}{ss:List VS}{tb:TypeId}(hl:laidOutB C.prog=true)(hread:(fn.params.toList.all λt=>C.prog.readableRec t&&decide (t<C.prog.types.size))=true)
 (hss:fn.params.toList.mapM (Fk C.prog cut)=some ss) (hvars:s.vars=[]) (hres:fn.resultTypes=#[tb]) (hb:C.prog.underlying tb=some .bool)
 (hs:∀ds:List (DataW H),ds.length=fn.params.toList.length->s.fn H ds={ results:=[.lit (.bool true)],args:=ds })
 (KB:∀xs,NV ss xs->pr C.prog f (xs.map TV.av) (.one (.d (.s (.sc (.bool true))))))
 {W:World} {base:Nat} {args:Array Value} {ds gs:List (DataW H)} {before:List MemPlace}
 (hval:∀(j:Nat) t v,fn.params[j]? =some t->args[j]? =some v->Value.okWide C.prog W .any base t v)
 (hW:DataW.Whole enc C.prog fn.params.toList s.vars false W args.toList ds gs before)
 {vt:List TypeId} (hz:(DataW.weightsEach C.prog (fn.params.toList++vt) (ds++gs)).all (· <=reachBytes)=true) (hv:gC W (Here W)):
 Calls C.prog f args W λe W'=>∃v,e= .returned v/\s.post enc C.prog fn false true false false W args v W':=by
 have hW':=hW;obtain⟨p,q,hA,hV,rfl,_,_⟩:=hW;rw[hvars]at hV;obtain⟨rfl,rfl⟩:=trodVars_none hV;have hlen:=UO hA;obtain⟨xs,g1,g2⟩:=abC hss (λ j t v h1 h2=>hval j t v (by simpa using h1) (by simpa using h2)) hA (λ k hk=>by
  have:=all_eq_true.1 hz k (afa hlen k hk);simpa using this)
 simp only[append_nil]at hW';have hlt:∀x∈p,x.block<W.heap.size:=λx hx=>hW'.lt x hx;refine((KB xs g2).2 W (Here W) args (λ _ h=>h) hv (UN _ _ g1)).mono λe W' ⟨v,I',he,hbel,_,_,_,hr⟩=>⟨v,he,?_⟩;simp only[nv,tU,pp,TR]at hr;obtain⟨rfl,_⟩:=hr;have hfn:s.fn H (ds++[])={ results:=[.lit (.bool true)],args:=ds }:=by rw[append_nil];exact hs ds hlen
 refine ahr (pa:=p) (pv:=[]) hW' (λ b sp hd=>?_) (λ sp hsp=>?_) (λ sp _=>?_) (by simp) hbel (ok_one (by rw[hres]) rfl (okWide_bool_mk hb _))
 ·rw[hfn,hres];exact trodAll_mk1 (shut_bool hb _)
 ·rw[hfn];refine NW hl hbel (λ t ht=>?_) hA hlt sp hsp;have:=all_eq_true.1 hread t ht;simpa using this
 ·rw[hfn,hvars];rfl
end
def MT:u4->TypeDesc->Bool
 | .slice e,.slice e'=>e==e'
 | .arr n e,.array n' e'=>n==n'&&e==e'
 | .struct fs,.struct fa=>fa.toList.map (λ f=>(f.offset,f.type))==fs
 | .bool,.bool=>true
 | .str,.string=>true
 | .int k,.int k'=>k==k'
 | .map k e,.map k' e'=>k==k'&&e==e'
 | .other,_=>true
 |_,_=>false
def N5:Value->Value->Bool
 | .int k a,.int k' b=>k==k'&&a==b
 | .bool a,.bool b=>a==b
 | .string a,.string b=>decide (a=b)
 | .slice none 0 0,.slice none 0 0=>true
 | .pointer none,.pointer none=>true
 | .nilFunc,.nilFunc=>true
 | .nilIface,.nilIface=>true
 | .map none,.map none=>true
 |_,_=>false
theorem afb{a b:Value}(h:N5 a b=true):a=b:=by
 unfold N5 at h;split at h<;>simp_all
def SL:List Value->List Value->Bool
 |[],[]=>true
 |a::as,b::bs=>N5 a b&&SL as bs
 |_,_=>false
theorem Qi:∀{a b:List Value},SL a b=true->a=b
 |[],[],_=>rfl
 |a::as,b::bs,h=>by simp only[SL,aD]at h;rw[afb h.1,Qi h.2]
 |[],_::_,h=>by simp[SL]at h
 |_::_,[],h=>by simp[SL]at h
def N3(P:Program)(t:TypeId)(ti:ky):Bool:=
 match P.info? t,P.underlying t with
 |some info,some d=>match info.zero with
  |some z=>info.size==ti.size&&info.bytes==ti.bytes&&pj d==ti.agg&&MT ti.k d&&ti.zero.all gj&&ti.zero.length==ti.size&&
   (ti.cmp.isEmpty || match d with
    | .struct fa=>!P.stoodInHeld t&&!P.eqGuardType P.depth t&&eI P 0 fa.toList ti.cmp
    | .array _ _=>ti.cmp==[9]&&!P.eqGuardType P.depth t
    |_=>false)&&SL z.cells.toList ti.zero&&pt ti.agg z
  |none=>false
 |_,_=>false
theorem ahs{k:u4}{d:TypeDesc}(h:MT k d=true):I0 k d:=by
 unfold MT at h;split at h
 ·simp only[beq_iff_eq]at h;subst h;rfl
 ·simp only[aD,beq_iff_eq]at h;obtain⟨rfl,rfl⟩:=h;rfl
 ·rename_i fs fa;exact⟨fa,rfl,by simpa using h⟩
 ·rfl
 ·rfl
 ·simp only[beq_iff_eq]at h;subst h;rfl
 ·simp only[aD,beq_iff_eq]at h;obtain⟨rfl,rfl⟩:=h;rfl
 ·trivial
 ·cases h
theorem afc{P:Program}{t:TypeId}{ti:ky}(h:N3 P t ti=true):gS P t ti:=by
 unfold N3 at h;split at h
 ·rename_i info d h1 h2;split at h
  ·rename_i z h3;simp only[aD,beq_iff_eq]at h;obtain⟨⟨⟨⟨⟨⟨⟨⟨a1,a2⟩,a3⟩,a4⟩,a5⟩,a6⟩,a7⟩,a8⟩,a9⟩:=h;refine⟨⟨info,d,z,h1,h2,a1,a2,h3,Qi a8,a3,ahs a4⟩,a5,a6,λinfo' z' e1 e2=>by rw[h1]at e1;cases e1;rw[h3]at e2;cases e2;exact a9,λhne=>?_⟩;simp only[Bool.or_eq_true]at a7;rcases a7 with a7 |a7
   ·exact absurd (List.isEmpty_iff.1 a7) hne
   ·split at a7
    ·rename_i fa;simp only[aD,Bool.not_eq_true']at a7;exact .inl ⟨fa,h2,a7.1.1,a7.1.2,a7.2⟩
    ·simp only[aD,Bool.not_eq_true',beq_iff_eq]at a7;exact .inr a7
    ·cases a7
  ·cases h
 ·cases h
def XL(l:List (TypeId×ky)):da:=λt=>(l.find? λp=>p.1==t).map (·.2)
theorem amA{P:Program}{l:List (TypeId×ky)}(h:(l.all λp=>N3 P p.1 p.2)=true):fE P (XL l):=by
 intro t ti ht;simp only[XL,fq]at ht;obtain⟨p,hp,rfl⟩:=ht;have h1:=List.find?_some hp;simp only[beq_iff_eq]at h1;subst h1;exact afc (all_eq_true.1 h p (List.mem_of_find?_eq_some hp))
open Go.RowKit
inductive CT(ι:Type) where
 |int (k:IntKind)
 |bool
 |str
 |sl (e:CT ι)
 |st (i:ι)
 |any
 |mp (k v:CT ι)
 deriving DecidableEq
structure SE where
 ι:Type
 dec:DecidableEq ι
 T:ι->Type
 row:(i:ι)->T i->List Tree
instance (E:SE):DecidableEq E.ι:=E.dec
section
variable (E:SE)
@[reducible] def CT.T:CT E.ι->Type
 | .int _=>Int
 | .bool=>Bool
 | .str=>ByteArray
 | .sl e=>List (CT.T e)
 | .st i=>E.T i
 | .any=>Tree
 | .mp k v=>List (CT.T k×CT.T v)
def CT.row:(c:CT E.ι)->CT.T E c->List Tree
 | .int k,n=>[.sc (.int k n)]
 | .bool,b=>[.sc (.bool b)]
 | .str,s=>[.sc (.string s)]
 | .sl e,l=>[.sl (List.map (CT.row e) l)]
 | .st i,x=>E.row i x
 | .any,x=>[x]
 | .mp _ _,_=>[.sl []]
def CT.one{ι:Type}:CT ι->Bool
 | .st _=>false
 |_=>true
def CT.tv:(c:CT E.ι)->CT.T E c->TV
 | .int k,n=> .s (.sc (.int k n))
 | .bool,b=> .s (.sc (.bool b))
 | .str,s=> .s (.sc (.string s))
 | .sl e,l=> .s (.sl (List.map (CT.row E e) l))
 | .st i,x=> .a (E.row i x)
 | .any,x=> .s x
 | .mp _ _,_=> .s (.sl [])
def HL:List (CT E.ι)->Type
 |[]=>Unit
 |c::l=>CT.T E c×HL l
def HL.row:(l:List (CT E.ι))->HL E l->List Tree
 |[],_=>[]
 |c::l,h=>CT.row E c h.1++HL.row l h.2
def HL.k6:(l:List (CT E.ι))->HL E l->List TV
 |[],_=>[]
 |c::l,h=>CT.tv E c h.1::HL.k6 l h.2
end
def Bx(E:SE)(c:CT E.ι):(n:Nat)->(l:List (CT.T E c))->l.length=n->HL E (List.replicate n c)
 | 0,_,_=>()
 |n+1,x::l,h=>(x,Bx E c n l (Nat.succ.inj h))
def yq(E:SE)(c:CT E.ι):(n:Nat)->HL E (List.replicate n c)->List (CT.T E c)
 | 0,_=>[]
 |n+1,h=>h.1::yq E c n h.2
theorem Wv(E:SE)(c:CT E.ι):∀(n:Nat)(h:HL E (List.replicate n c)),(yq E c n h).length=n
 | 0,_=>rfl
 |n+1,h=>congrArg (· +1) (Wv E c n h.2)
theorem Ww(E:SE)(c:CT E.ι)(f:CT.T E c->Tree)(hf:∀y,CT.row E c y=[f y]):∀(n:Nat)(l:List (CT.T E c))(h:l.length=n),l.map f=HL.row E (List.replicate n c) (Bx E c n l h)
 | 0,[],_=>rfl
 |n+1,x::l,h=>by
  show f x::l.map f=CT.row E c x++HL.row E (List.replicate n c) (Bx E c n l (Nat.succ.inj h));rw[hf,Ww E c f hf n l];rfl
theorem Qj(E:SE)(c:CT E.ι)(f:CT.T E c->Tree)(hf:∀y,CT.row E c y=[f y]):∀(n:Nat)(h:HL E (List.replicate n c)),(yq E c n h).map f=HL.row E (List.replicate n c) h
 | 0,_=>rfl
 |n+1,h=>by
  show f h.1::(yq E c n h.2).map f=CT.row E c h.1++HL.row E (List.replicate n c) h.2;rw[hf,Qj E c f hf n];rfl
theorem KZ(E:SE)(c:CT E.ι)(f:CT.T E c->Tree)(hf:∀y,CT.row E c y=[f y]):∀l:List (CT.T E c),l.map f=(l.map (CT.row E c)).flatten
 |[]=>rfl
 |x::l=>by simp only[aF,flatten_cons,hf x,List.singleton_append,KZ E c f hf l]
structure GC(E:SE) where
 i:E.ι
 c:CT E.ι
 f:E.T i->List (CT.T E c)
 g:List (CT.T E c)->Option (E.T i)
structure SX extends SE where
 cQ:ι->List (CT ι)
 get:(i:ι)->T i->HL toSE (cQ i)
 make:(i:ι)->HL toSE (cQ i)->T i
 kA:∀i x,row i x=HL.row toSE (cQ i) (get i x)
 eK:∀i h,row i (make i h)=HL.row toSE (cQ i) h
 flat:∀i,(cQ i).all CT.one=true
 gv:Nat->Option ((c:CT ι)×CT.T toSE c)
 t9:∀g,(gv g).map (λ p=>CT.row toSE p.1 p.2)=(rK g).map λr=>r.map Tree.sc
 ar:TypeId->Option (GC toSE):=λ_=>none
 i8:∀t a,ar t=some a->a.c.one=true/\(∀ x,row a.i x=((a.f x).map (CT.row toSE a.c)).flatten)/\∀l x,a.g l=some x->a.f x=l:=by intro t a h;cases h
section
variable (X:SX)
abbrev SX.C:=CT X.ι
abbrev SX.t(c:CT X.ι):Type:=CT.T X.toSE c
def CT.sz:CT X.ι->Nat
 | .st i=>(X.cQ i).length
 |_=>1
inductive DV where
 |c (t:CT X.ι) (x:CT.T X.toSE t)
 |agg (cs:List DV)
 |ey (vs:List DV)
 |own (k ae len:Nat)
 |ptr (k row ae:Nat)
 |mT (k:Nat) (n:Int) (ae:Nat)
 |oX (k row ae m:Nat) (n:Int)
 |rp (t:CT X.ι) (x:CT.T X.toSE t) (ae:Nat)
 |tc (t:CT X.ι) (x:CT.T X.toSE t) (ae m:Nat) (n:Int)
 |fn (f:FuncId) (first caps:List DV)
 |c6 (as:List (CT X.ι)) (r:CT X.ι) (φ:HL X.toSE as->Option (CT.T X.toSE r))
 |mp (k:Nat)
 |raw (v:Value)
 |nil
 |ub
 |skip
 |undef
inductive bk where
 |cells (sz:Nat) (rows:List (List (DV X)))
 |cY (c:CT X.ι) (l:List (CT.T X.toSE c))
 |map (kc vc:CT X.ι) (l:List (CT.T X.toSE kc×CT.T X.toSE vc))
structure cV where
 env:List (Nat×DV X)
 obj:List (Nat×Option (bk X))
 nx:Nat
 log:List Nat
variable {X}
mutual
def den:DV X->AV
 | .c t x=>(CT.tv X.toSE t x).av
 | .agg cs=> .agg (bM cs)
 | .ey vs=> .ey (bM vs)
 | .own k ae len=> .own k ae len
 | .ptr k row ae=> .ptr k row ae
 | .mT k n ae=> .ptr k n.toNat ae
 | .oX k row ae _ n=> .ptr k row (ae+n.toNat)
 | .rp t x ae=> .du (CT.row X.toSE t x) ae
 | .tc t x ae _ n=> .du (CT.row X.toSE t x) (ae+n.toNat)
 | .fn f first caps=> .fn f (bM first) (bM caps)
 | .c6 as r φ=> .c6 λts u=>∃h x,φ h=some x/\ts=HL.k6 X.toSE as h/\u=CT.tv X.toSE r x
 | .mp k=> .mp k
 | .raw v=>cv v
 | .nil=> .cG
 | .ub=> .ub
 | .skip=> .undef
 | .undef=> .undef
def bM:List (DV X)->List AV
 |[]=>[]
 |x::xs=>den x::bM xs
end
theorem nQ:∀l:List (DV X),bM l=l.map den
 |[]=>rfl
 |x::xs=>by simp only[bM,aF,nQ xs]
def bJ:bk X->aX
 | .cells sz rows=>⟨sz,rows.map bM⟩
 | .cY c l=>⟨CT.sz X c,aS (l.map (CT.row X.toSE c))⟩
 | .map kc vc l=>⟨l.length,l.map λp=>[(CT.tv X.toSE kc p.1).av,(CT.tv X.toSE vc p.2).av]⟩
def gK(u:List (Nat×Option (bk X))):List (Nat×Option aX):=u.map λp=>(p.1,p.2.map bJ)
def eE(o:List (Nat×Option (bk X)))(k:Nat):Option (bk X):=(lk o k).join
def d5(e:List (Nat×DV X))(t:Nat):DV X:=(lk e t).getD .undef
def cV.st(s:cV X):St:=⟨λ t=>den (d5 s.env t),λk=>(eE s.obj k).map bJ,λ_=>none⟩
def fZ(a b:CT X.ι)(x:CT.T X.toSE a):Option (CT.T X.toSE b):=
 match decEq a b with
 |isTrue h=>some (h ▸ x)
 |isFalse _=>none
theorem lQ{a b:CT X.ι}{x:CT.T X.toSE a}{y:CT.T X.toSE b}(h:fZ a b x=some y):∃e:a=b,y=e ▸ x:=by
 unfold fZ at h;split at h
 ·rename_i e _;injection h with h;exact⟨e,h.symm⟩
 ·cases h
def HL.cells:(l:List (CT X.ι))->HL X.toSE l->List (DV X)
 |[],_=>[]
 |c::l,h=> .c c h.1::HL.cells l h.2
theorem row_one{c:CT X.ι}(h:c.one=true)(x:CT.T X.toSE c):∃t,CT.row X.toSE c x=[t]/\CT.tv X.toSE c x= .s t:=by cases c<;>first |exact⟨_,rfl,rfl⟩ |cases h
theorem HL.mL:∀(l:List (CT X.ι))(h:HL X.toSE l),l.all CT.one=true->bM (HL.cells l h)=(HL.row X.toSE l h).map AV.t
 |[],_,_=>rfl
 |c::l,h,ha=>by
  simp only[all_cons,aD]at ha;obtain⟨t,h1,h2⟩:=row_one ha.1 h.1;simp only[HL.cells,bM,den,HL.row,h1,h2,TV.av,HL.mL l h.2 ha.2,cons_append,bI,aF]
theorem HL.k9:∀(l:List (CT X.ι))(h:HL X.toSE l),l.all CT.one=true->(HL.row X.toSE l h).length=l.length
 |[],_,_=>rfl
 |c::l,h,ha=>by
  simp only[all_cons,aD]at ha;obtain⟨t,h1,_⟩:=row_one ha.1 h.1;simp only[HL.row,h1,cons_append,bI,bH,HL.k9 l h.2 ha.2]
theorem Bh(c:CT X.ι)(x:CT.T X.toSE c):(CT.row X.toSE c x).length=CT.sz X c:=by
 cases c<;>try rfl
 rename_i i;exact(congrArg List.length (X.kA i x)).trans (HL.k9 _ _ (X.flat i))
def wH:(c:CT X.ι)->CT.T X.toSE c->List (DV X)
 | .st i,x=>HL.cells (X.cQ i) (X.get i x)
 |c,x=>[.c c x]
theorem mX(c:CT X.ι)(x:CT.T X.toSE c):bM (wH c x)=(CT.row X.toSE c x).map AV.t:=by
 cases c<;>try rfl
 rename_i i;exact(HL.mL _ _ (X.flat i)).trans (congrArg (List.map AV.t) (X.kA i x).symm)
def xM:DV X->Bool
 | .agg _ | .ey _ | .undef | .skip | .raw _ | .c (.st _) _=>false
 |_=>true
theorem UQ{x:DV X}(h:xM x=true):oU (den x)=true:=by
 cases x<;>try rfl
 case c t x=>cases t<;>first |rfl |simp[xM]at h
 all_goals simp[xM]at h
def cellsD:DV X->Option (List (DV X))
 | .agg cs=>if cs.all xM then some cs else none
 | .c (.st i) x=>some (wH (.st i) x)
 | .ey _ | .undef | .skip | .raw _=>none
 |x=>some [x]
theorem Z2{l:List (DV X)}(h:l.all xM=true):(bM l).all oU=true:=by
 rw[nQ,List.all_map,all_eq_true];exact λx hx=>UQ (all_eq_true.1 h x hx)
theorem Bj{x:DV X}{cs:List (DV X)}(h:cellsD x=some cs):cellsOf (den x)=some (bM cs):=by
 cases x
 case c t x=>
  cases t
  case st i=>
   simp only[cellsD,aC]at h;subst h;simp only[den,CT.tv,TV.av,cellsOf,mX];show(if ((X.row i x).map AV.t).all oU then some ((X.row i x).map AV.t)else none)=some ((X.row i x).map AV.t);rw[aP];rw[List.all_map,all_eq_true];exact λ_ _=>rfl
  all_goals simp only[cellsD,aC]at h;subst h;rfl
 case agg l=>
  simp only[cellsD]at h;split at h
  ·cases h;simp only[den,cellsOf];rw[aP (Z2 ‹_›)]
  ·cases h
 all_goals simp only[cellsD,aC,reduceCtorEq]at h;try (subst h;rfl)
def qr:Value->DV X
 | .slice none 0 0=> .nil
 | .int k n=> .c (.int k) n
 | .bool b=> .c .bool b
 | .string s=> .c .str s
 |v=> .raw v
theorem Z1(v:Value):den (qr (X:=X) v)=cv v:=by
 unfold qr;split<;>rfl
theorem Bl(l:List Value):bM (l.map (qr (X:=X)))=l.map cv:=by
 rw[nQ,map_map];exact map_congr_left λv _=>Z1 v
def sC(env:Nat->DV X):Operand->DV X
 | .tmp t=>env t
 | .const v=>qr v
 | .global g=>match X.gv g with
  |some p=> .rp p.1 p.2 0
  |none=> .undef
 | .func f=> .fn f [] []
theorem XM(env:Nat->DV X)(x:Operand):den (sC env x)=ij (λ t=>den (env t)) x:=by
 cases x with
 |global g=>
  have h:=X.t9 g;simp only[sC,ij];cases h1:X.gv g with
  |none=>
   rw[h1]at h;cases h2:rK g with
   |none=>rfl
   |some r=>rw[h2]at h;cases h
  |some p=>
   rw[h1]at h;cases h2:rK g with
   |none=>rw[h2]at h;cases h
   |some r=>
    rw[h2]at h;injection h with h;simp only[den,h]
 |const v=>exact Z1 _
 |tmp t=>rfl
 |func f=>rfl
end
def bh{α:Type}(l:List α)(n:Int):Option α:=bif decide (0<=n)then l[n.toNat]? else none
def nt{α:Type}(l:List α)(ae:Nat)(n:Int):Option α:=bif decide (0<=n)then l[ae+n.toNat]? else none
def sub{α:Type}(l:List α)(ae len:Nat):List α:=(l.drop ae).take len
def br(n:Int)(len:Nat):Bool:=decide (0<=n)&&decide (n<(len:Int))
def fK{α β:Type}(a:α)(f:α->β):β:=f a
def bD(lo len ln n bytes:Nat):Bool:=decide (lo=len)&&decide (ln=n)&&decide ((len+n)*bytes<=140737488355328)&&decide (len+n<=maxLen)
def bb(a b:Nat):Bool:=decide (a=b)
def q8(l h:Int)(len:Nat):Bool:=decide (0<=l)&&decide (l<=h)&&decide (h<=(len:Int))
def D8(a b:ByteArray):Bool:=Op.bytesLess a.toList b.toList
def aqg(a b:ByteArray):Bool:=decide (a.size+b.size<=maxLen)
abbrev iN(n:Int):Int:=n
abbrev bN(b:Bool):Bool:=b
def XO{A:Type}:List Bool->Option A->Option A
 |[],k=>k
 |c::cs,k=>bif c then XO cs k else none
section
variable {X:SX} {A:Type}
abbrev KK(X:SX)(A:Type):=DV X->List (Nat×Option (bk X))->List Nat->List Nat->Option A
def On(t:Bool)(x y:DV X):DV X:=
 match x,y with
 | .c a p,.c b q=>match decEq b a with
  |isTrue h=> .c a (bif t then p else h ▸ q)
  |isFalse _=>bif t then .c a p else .c b q
 |x,y=>bif t then x else y
def K3(agg:Bool)(size:Nat)(cs:List (DV X)):Option (DV X):=
 if cs.length=size then(if agg then some (.agg cs)else match cs with |[x]=>if xM x then some x else none |_=>none)else none
def HA(agg:Bool)(size:Nat)(c:CT X.ι)(y:CT.T X.toSE c)(ae:Nat):Option (DV X):=
 match c,y with
 | .st i,y=>if ae=0/\agg=true/\size=(X.cQ i).length then some (.c (.st i) y)else K3 agg size (((wH (.st i) y).drop ae).take size)
 |c,y=>K3 agg size (((wH c y).drop ae).take size)
def Nl(d:DV X)(c:CT X.ι):Option (CT.T X.toSE c):=
 match d,c with
 | .c a x,c=>fZ a c x
 | .nil,.sl _=>some []
 | .nil,.any=>some (.sl [])
 |_,_=>none
def Bo:List (DV X)->(l:List (CT X.ι))->Option (HL X.toSE l)
 |[],[]=>some ()
 |d::ds,c::l=>(Nl d c).bind λx=>(Bo ds l).bind λh=>some (x,h)
 |_,_=>none
def yp(d:DV X)(i:X.ι):Option (CT.T X.toSE (.st i)):=
 match d with
 | .agg cs=>(Bo cs (X.cQ i)).bind λh=>some (X.make i h)
 | .c a x=>fZ a (.st i) x
 |_=>none
def dat(d:DV X)(c:CT X.ι):Option (CT.T X.toSE c):=
 match c with
 | .st i=>yp d i
 |c=>Nl d c
def SD(c:CT X.ι):List (DV X)->Option (CT.T X.toSE c)
 |[d]=>Nl d c
 |_=>none
def Qk(c:CT X.ι)(ds:List (DV X)):Option (CT.T X.toSE c):=
 match c with
 | .st i=>(Bo ds (X.cQ i)).bind λh=>some (X.make i h)
 |c=>SD c ds
def FG(r:List (DV X))(ae:Nat)(cs:List (DV X)):List (DV X):=r.take ae++cs++r.drop (ae+cs.length)
variable (T:da) (aw:TypeId->Option (CT X.ι))
def IT(t:TypeId)(x:DV X)(get:Nat->Option (bk X))(k:KK X A):Option A:=
 (T t).bind λti=>match x with
 | .ptr kk row ae=>(get kk).bind λo=>match o with
  | .cells _ rows=>(rows[row]?).bind λr=>(K3 ti.agg ti.size ((r.drop ae).take ti.size)).bind λv=>k v [] [kk] []
  |_=>none
 | .mT kk n ae=>(get kk).bind λo=>match o with
  | .cY c l=>(bh l n).bind λy=>(HA ti.agg ti.size c y ae).bind λv=>k v [] [kk] []
  |_=>none
 | .rp c y ae=>(HA ti.agg ti.size c y ae).bind λv=>k v [] [] []
 |_=>none
def It(t:TypeId)(x y:DV X)(get:Nat->Option (bk X))(k:KK X A):Option A:=
 (T t).bind λti=>(cellsD y).bind λcs=>if cs.length=ti.size then match x with
 | .ptr kk row ae=>(get kk).bind λo=>match o with
  | .cells sz rows=>(rows[row]?).bind λr=>if ae+cs.length<=r.length then k .undef [(kk,some (.cells sz (rows.set row (FG r ae cs))))] [kk] [kk]else none
  |_=>none
 | .mT kk n ae=>(get kk).bind λo=>match o with
  | .cY c l=>(bh l n).bind λy=>if ae+cs.length<=CT.sz X c then(Qk c (FG (wH c y) ae cs)).bind λz=>k .undef [(kk,some (.cY c (l.set n.toNat z)))] [kk] [kk]else none
  |_=>none
 |_=>none else none
def OE(t:TypeId)(x:DV X)(f:Nat)(k:KK X A):Option A:=
 (DY T t f).bind λp=>match x with
 | .ptr kk row ae=>k (.ptr kk row (ae+p.1)) [] [] []
 | .mT kk n ae=>k (.mT kk n (ae+p.1)) [] [] []
 | .rp c y ae=>k (.rp c y (ae+p.1)) [] [] []
 |_=>none
def Pl(t:TypeId)(x:DV X)(f:Nat)(k:KK X A):Option A:=
 (DY T t f).bind λp=>match x with
 | .agg cs=>(K3 p.2.agg p.2.size ((cs.drop p.1).take p.2.size)).bind λv=>k v [] [] []
 | .c (.st i) y=>(K3 p.2.agg p.2.size (((wH (.st i) y).drop p.1).take p.2.size)).bind λv=>k v [] [] []
 |_=>none
def OG(t:TypeId)(x j:DV X)(get:Nat->Option (bk X))(k:KK X A):Option A:=
 (T t).bind λti=>match ti.k,j with
 | .slice e,.c (.int _) n=>(T e).bind λei=>match x with
  | .c (.sl c) l=>if CT.sz X c=ei.size then(bh l n).bind λy=>k (.rp c y 0) [] [] []else none
  | .own kk ae len=>(get kk).bind λo=>match o with
   | .cY c _=>if CT.sz X c=ei.size then bif br n len then k (.mT kk ((ae:Int)+iN n) 0) [] [kk] []else none else none
   | .cells sz _=>if sz=ei.size then bif br n len then k (.ptr kk (ae+n.toNat) 0) [] [kk] []else none else none
   | .map _ _ _=>none
  |_=>none
 | .arr m e,.c (.int _) n=>(T e).bind λei=>bif br n m then match x with
  | .ptr kk row ae=>k (.ptr kk row (ae+n.toNat*ei.size)) [] [] []
  | .mT kk r ae=>k (.mT kk r (ae+n.toNat*ei.size)) [] [] []
  | .rp c y ae=>k (.rp c y (ae+n.toNat*ei.size)) [] [] []
  |_=>none
  else none
 |_,_=>none
def XP(x:DV X)(j:Nat)(k:KK X A):Option A:=
 match x with
 | .ey vs=>(vs[j]?).bind λv=>k v [] [] []
 |_=>none
def K4(op:BinOp)(kd:IntKind)(a b:Int):(DV X)×Option Bool:=
 match op with
 | .add=>(.c (.int kd) (kd.wrap (a+b)),none)
 | .sub=>(.c (.int kd) (kd.wrap (a -b)),none)
 | .mul=>(.c (.int kd) (kd.wrap (a*b)),none)
 | .quo=>(.c (.int kd) (kd.wrap (a.tdiv b)),some (b !=0))
 | .rem=>(.c (.int kd) (a.tmod b),some (b !=0))
 | .and=>(.c (.int kd) (bits .and kd a b),none)
 | .or=>(.c (.int kd) (bits .or kd a b),none)
 | .xor=>(.c (.int kd) (bits .xor kd a b),none)
 | .andNot=>(.c (.int kd) (bits .andNot kd a b),none)
 | .shl=>(.c (.int kd) (kd.wrap (a*2 ^ b.toNat)),some (decide (0<=b)&&decide (b<=kd.bits)))
 | .shr=>(.c (.int kd) (a/2 ^ b.toNat),some (decide (0<=b)&&decide (b<=kd.bits)))
 | .eql=>(.c .bool (a==b),none)
 | .neq=>(.c .bool (a !=b),none)
 | .lss=>(.c .bool (decide (a<b)),none)
 | .leq=>(.c .bool (decide (a<=b)),none)
 | .gtr=>(.c .bool (decide (a>b)),none)
 | .geq=>(.c .bool (decide (a>=b)),none)
def Q2:Nat->DV X->DV X->Option Bool
 | 0,.c (.int j) a,.c (.int k) b=>if j=k then some (iN a==iN b)else none
 | 1,.c .bool a,.c .bool b=>some (bN a==bN b)
 | 2,.c .str a,.c .str b=>some (a.toList==b.toList)
 |_,_,_=>none
def xZ:List Nat->List (DV X)->List (DV X)->Option Bool
 |[],[],[]=>some true
 |k::ks,x::xs,y::ys=>(Q2 k x y).bind λa=>(xZ ks xs ys).bind λb=>some (a&&b)
 |_,_,_=>none
def G4:DV X->Option (List (DV X))
 | .agg cs=>some cs
 | .c (.st i) y=>some (wH (.st i) y)
 |_=>none
def MM(op:BinOp)(t:TypeId)(x y:DV X)(k:KK X A):Option A:=
 match x,y with
 | .c (.int kd) a,.c (.int yk) b=>if kd=yk\/op= .shl\/op= .shr then match (K4 op kd a b:DV X×Option Bool).2 with
  |none=>k (K4 op kd a b).1 [] [] []
  |some g=>bif g then k (K4 op kd a b).1 [] [] []else none
  else none
 | .c .str a,.c .str b=>match op with
  | .eql=>k (.c .bool (a.toList==b.toList)) [] [] []
  | .neq=>k (.c .bool (!(a.toList==b.toList))) [] [] []
  | .lss=>k (.c .bool (D8 a b)) [] [] []
  | .gtr=>k (.c .bool (!(D8 a b || a.toList==b.toList))) [] [] []
  | .add=>bif aqg a b then k (.c .str (a++b)) [] [] []else none
  |_=>none
 | .c .bool a,.c .bool b=>(T t).bind λti=>match ti.k,op with
  | .bool,.eql=>k (.c .bool (bN a==bN b)) [] [] []
  | .bool,.neq=>k (.c .bool (!(bN a==bN b))) [] [] []
  |_,_=>none
 |x,y=>(G4 x).bind λxs=>(G4 y).bind λys=>(T t).bind λti=>if ti.cmp=[]then none else(xZ ti.cmp xs ys).bind λb=>match op with
  | .eql=>k (.c .bool b) [] [] []
  | .neq=>k (.c .bool (!b)) [] [] []
  |_=>none
def In(op:UnOp)(x:DV X)(k:KK X A):Option A:=
 match op,x with
 | .not,.c .bool b=>k (.c .bool (!b)) [] [] []
 | .neg,.c (.int kd) n=>k (.c (.int kd) (kd.wrap (0 -iN n))) [] [] []
 |_,_=>none
def ML(mx:Bool)(kd:IntKind):Int->List (DV X)->Option Int
 |a,[]=>some a
 |a,.c (.int k') b::r=>if k'=kd then ML mx kd (if mx then max a b else min a b) r else none
 |_,_=>none
def GO(mx:Bool)(args:List (DV X))(k:KK X A):Option A:=
 match args with
 | .c (.int kd) a::r=>(ML mx kd a r).bind λn=>k (.c (.int kd) n) [] [] []
 |_=>none
def MD(t:TypeId)(x:DV X)(k:KK X A):Option A:=
 (T t).bind λti=>match ti.k,x with
 | .slice _,.c (.sl _) l=>k (.c (.int .i64) (l.length:Int)) [] [] []
 | .slice _,.own _ _ len=>k (.c (.int .i64) (len:Int)) [] [] []
 | .slice _,.nil=>k (.c (.int .i64) (0:Int)) [] [] []
 | .str,.c .str s=>k (.c (.int .i64) (s.size:Int)) [] [] []
 |_,_=>none
def Bm(place:Nat->Option (Nat×Nat)):List (DV X)->List (Nat×DV X)->Option (List (DV X))
 |cells,[]=>some cells
 |cells,(j,x)::an=>(place j).bind λp=>(cellsD x).bind λcs=>
  if cs.length=p.2/\p.1+cs.length<=cells.length then Bm place (FG cells p.1 cs) an else none
def Pi(t:TypeId)(parts:List (Nat×DV X))(k:KK X A):Option A:=
 (T t).bind λti=>match ti.k with
 | .struct fs=>if fs.all (λ p=>(T p.2).isSome)then
  (Bm (λ j=>(fs[j]?).bind λp=>(T p.2).bind λui=>some (p.1,ui.size)) (ti.zero.map qr) parts).bind λcells=>k (.agg cells) [] [] []else none
 | .arr _ e=>(T e).bind λei=>(Bm (λ j=>some (j*ei.size,ei.size)) (ti.zero.map qr) parts).bind λcells=>k (.agg cells) [] [] []
 |_=>none
def FF(c:CT X.ι):Nat->List (Nat×DV X)->Option (List (CT.T X.toSE c))
 |_,[]=>some []
 |n,(j,x)::r=>if j=n then(dat x c).bind λy=>(FF c (n+1) r).bind λl=>some (y::l)else none
def K5(i:Nat)(t:TypeId)(len:Nat)(parts:List (Nat×DV X))(k:KK X A):Option A:=
 (T t).bind λti=>match ti.k with
 | .slice e=>(T e).bind λei=>(aw e).bind λc=>if ei.size=0\/len*ei.size>2 ^ 24\/CT.sz X c≠ei.size\/parts.length≠len then none else
  (FF c 0 parts).bind λl=>k (.own (cd i) 0 len) [(cd i,some (.cY c l))] [] []
 |_=>none
def Pc(i:Nat)(e:TypeId)(k:KK X A):Option A:=
 (T e).bind λti=>k (.ptr (cd i) 0 0) [(cd i,some (.cells ti.size [ti.zero.map qr]))] [] []
def Mz(i:Nat)(x:DV X)(k:KK X A):Option A:=
 (cellsD x).bind λcs=>k (.ptr (cd i) 0 0) [(cd i,some (.cells cs.length [cs]))] [] []
def sB(d:Int):Option (DV X)->Option Int
 |none=>some d
 |some (.c (.int _) n)=>some n
 |_=>none
def Pa(t:TypeId)(x:DV X)(lo hi:Option (DV X))(get:Nat->Option (bk X))(k:KK X A):Option A:=
 (T t).bind λti=>match ti.k with
 | .slice e=>(T e).bind λei=>match x with
  | .own kk ae len=>(get kk).bind λo=>if (bJ o).sz=ei.size then(sB 0 lo).bind λl=>(sB len hi).bind λh=>
   bif q8 l h len then k (.own kk (ae+l.toNat) (h.toNat -l.toNat)) [] [kk] []else none else none
  | .c (.sl c) xs=>if CT.sz X c=ei.size then(sB 0 lo).bind λl=>(sB xs.length hi).bind λh=>
   bif q8 l h xs.length then k (.c (.sl c) (sub xs l.toNat (h.toNat -l.toNat))) [] [] []else none else none
  |_=>none
 |_=>none
def My(y:DV X)(c:CT X.ι)(get:Nat->Option (bk X)):Option (Nat×List (CT.T X.toSE c)×List Nat):=
 match y with
 | .own kk ae len=>(get kk).bind λo=>match o with
  | .cY b l=>(fZ (.sl b) (.sl c) l).bind λl=>some (len,sub l ae len,[kk])
  |_=>none
 | .c b l=>(fZ b (.sl c) l).bind λ(l:List (CT.T X.toSE c))=>some (l.length,l,[])
 |_=>none
def Q1(i:Nat)(t:TypeId)(x y:DV X)(get:Nat->Option (bk X))(k:KK X A):Option A:=
 (T t).bind λti=>match ti.k with
 | .slice e=>(T e).bind λei=>(aw e).bind λc=>if CT.sz X c=ei.size then(My y c get).bind λs=>match x with
  | .own kk 0 len=>(get kk).bind λo=>match o with
   | .cY b l=>(fZ (.sl b) (.sl c) l).bind λ(l:List (CT.T X.toSE c))=>bif bD l.length len s.2.1.length s.1 ei.bytes then fK (l++s.2.1) λr=>k (.own (cd i) 0 r.length) [(cd i,some (.cY c r)),(kk,none)] (kk::s.2.2) [kk]else none
   |_=>none
  | .nil=>bif bD 0 0 s.2.1.length s.1 ei.bytes then fK s.2.1 λr=>k (.own (cd i) 0 r.length) [(cd i,some (.cY c r))] s.2.2 []else none
  |_=>none
  else none
 |_=>none
def XQ(i:Nat)(b:Builtin)(args:List (DV X))(cQ:List TypeId)(get:Nat->Option (bk X))(k:KK X A):Option A:=
 match b,args,cQ with
 | .len,[x],[t]=>MD T t x k
 | .max,args,_=>GO true args k
 | .min,args,_=>GO false args k
 | .append,[x,y],[t,u]=>if t=u then Q1 T aw i t x y get k else none
 |_,_,_=>none
def GM(i:Nat)(o:Op)(ρ:Operand->DV X)(get:Nat->Option (bk X))(k:KK X A):Option A:=
 match o with
 | .move x=>k (ρ x) [] [] []
 | .assign x=>k (ρ x) [] [] []
 | .pick c a b=>match ρ c with | .c .bool t=>k (On t (ρ a) (ρ b)) [] [] [] |_=>none
 | .alloc e=>Pc T i e k
 | .box _ x=>Mz i (ρ x) k
 | .build t parts=>Pi T t (parts.toList.map λp=>(p.1,ρ p.2)) k
 | .buildSlice t len parts=>K5 T aw i t len (parts.toList.map λp=>(p.1,ρ p.2)) k
 | .load t a=>IT T t (ρ a) get k
 | .store t a x=>It T t (ρ a) (ρ x) get k
 | .binOp op t x y _=>MM T op t (ρ x) (ρ y) k
 | .unOp op _ x=>In op (ρ x) k
 | .makeFunc (.func f) first caps=>k (.fn f (first.toList.map ρ) (caps.toList.map ρ)) [] [] []
 | .slice t x lo hi none=>Pa T t (ρ x) (lo.map ρ) (hi.map ρ) get k
 | .fieldAddr t x f=>OE T t (ρ x) f k
 | .field t x f=>Pl T t (ρ x) f k
 | .indexAddr t x j=>OG T t (ρ x) (ρ j) get k
 | .extract x j=>XP (ρ x) j k
 | .call { callee:= .builtin b,args:=args,argTypes:=cQ }=>XQ T aw i b (args.toList.map ρ) cQ.toList get k
 |_=>none
end
section
variable {X:SX} {A:Type} {T:da} {aw:TypeId->Option (CT X.ι)} {get:Nat->Option (bk X)} {k:KK X A} {r:A} {i:Nat}
def fJ(get:Nat->Option (bk X)):Nat->Option aX:=λj=>(get j).map bJ
theorem dU{rd:List Nat}{j:Nat}{o:bk X}(hj:j∈rd)(h:get j=some o):dO rd (fJ get) j=some (bJ o):=by simp[dO,hj,fJ,h]
theorem kX(l:List (DV X)):(bM l).length=l.length:=by simp[nQ]
theorem j4(l:List (DV X))(a b:Nat):bM ((l.drop a).take b)=((bM l).drop a).take b:=by simp[nQ,map_take,map_drop]
theorem Ql{α:Type}{l:List α}{n:Int}{x:α}(h:bh l n=some x):0<=n/\l[n.toNat]? =some x:=by
 unfold bh at h;by_cases hn:0<=n
 ·simpa[hn]using h
 ·simp[hn]at h
theorem aku(t:Bool)(x y:DV X):den (On t x y)=Gk t (den x) (den y):=by
 rw[Xg];have base:∀x y:DV X,den (bif t then x else y)=if t=true then den x else den y:=λx y=>by cases t<;>rfl
 unfold On;split
 ·rename_i a p b q;split
  ·rename_i h _;subst h;cases t<;>rfl
  ·exact base _ _
 ·exact base _ _
theorem F5{agg:Bool}{size:Nat}{cs:List (DV X)}{v:DV X}(h:K3 agg size cs=some v):part' agg size (bM cs)=some (den v):=by
 unfold K3 at h;unfold part';rw[kX];split at h
 ·rename_i hl;rw[aP hl];cases agg with
  |true=>simp only[if_true,aC]at h ⊢;subst h;rfl
  |false=>
   simp only[Bool.false_eq_true,if_false]at h ⊢
   match cs,h with
   |[x],h=>
    simp only at h;split at h
    ·rename_i hx;cases h;simp only[bM];rw[aP (UQ hx)]
    ·cases h
   |[],h=>cases h
   |_::_::_,h=>cases h
 ·cases h
theorem SQ{agg:Bool}{size ae:Nat}{c:CT X.ι}{y:CT.T X.toSE c}{v:DV X}(h:K3 agg size (((wH c y).drop ae).take size)=some v):part' agg size ((((CT.row X.toSE c y).drop ae).take size).map AV.t)=some (den v):=by
 have:=F5 h;rw[j4,mX]at this;rw[<- this,map_take,map_drop]
theorem abF{agg:Bool}{size ae:Nat}{c:CT X.ι}{y:CT.T X.toSE c}{v:DV X}(h:HA agg size c y ae=some v):part' agg size ((((CT.row X.toSE c y).drop ae).take size).map AV.t)=some (den v):=by
 cases c
 case st j=>
  simp only[HA]at h;split at h
  ·rename_i hh;obtain⟨rfl,rfl,rfl⟩:=hh;cases h;have hl:(CT.row X.toSE (.st j) y).length=(X.cQ j).length:=Bh (.st j) y;rw[List.drop_zero,take_of_length_le (by omega)];unfold part';rw[aP (by simpa using hl)];rfl
  ·exact SQ h
 all_goals exact SQ h
theorem akv{t:TypeId}{x:DV X}(h:IT T t x get k=some r):∃b8 rd dv aa,FY T t (den x) b8 (dO rd (fJ get))=some aa/\jV aa.obs/\aa.v=den dv/\aa.upd=[]/\k dv [] rd []=some r:=by
 unfold IT at h;unfold FY;rw[aj]at h;obtain⟨ti,h1,h⟩:=h;simp only[h1,ah];split at h
 ·rename_i kk row ae;rw[aj]at h;obtain⟨o,h2,h⟩:=h;split at h
  ·rename_i sz rows;rw[aj]at h;obtain⟨rw',h3,h⟩:=h;rw[aj]at h;obtain⟨v,h4,h⟩:=h;refine⟨.none,[kk],v,⟨den v,[],[]⟩,?_,trivial,rfl,rfl,h⟩;have h5:=F5 h4;rw[j4]at h5;simp[den,dU (List.mem_singleton_self kk) h2,bJ,h3,h5,pv]
  ·cases h
 ·rename_i kk n ae;rw[aj]at h;obtain⟨o,h2,h⟩:=h;split at h
  ·rename_i c l;rw[aj]at h;obtain⟨y,h3,h⟩:=h;rw[aj]at h;obtain⟨v,h4,h⟩:=h;have⟨_,h6⟩:=Ql h3;refine⟨.row ((CT.row X.toSE c y).map AV.t),[kk],v,⟨den v,[],[(aS (l.map (CT.row X.toSE c)))[n.toNat]? =some ((CT.row X.toSE c y).map AV.t)]⟩,?_,?_,rfl,rfl,h⟩
   ·have h5:=abF h4;rw[map_take,map_drop]at h5;simp only[den,dU (List.mem_singleton_self kk) h2,ah,bJ,h5,gO]
   ·simp[jV,aS,h6]
  ·cases h
 ·rename_i c y ae;have⟨v,h4,h⟩:=aj.1 h;refine⟨.none,[],v,⟨den v,[],[]⟩,?_,trivial,rfl,rfl,h⟩;simp only[den,abF h4,ah,pv]
 ·cases h
theorem XR(a:List (DV X))(ae:Nat)(cs:List (DV X)):bM (FG a ae cs)=put' (bM a) ae (bM cs):=by simp[FG,put',nQ,map_take,map_drop]
theorem iY{a c:CT X.ι}{x:CT.T X.toSE a}{y:CT.T X.toSE c}(h:fZ a c x=some y):den (.c a x)=den (.c c y)/\CT.row X.toSE a x=CT.row X.toSE c y:=by
 have⟨e,h⟩:=lQ h;subst e;subst h;exact⟨rfl,rfl⟩
theorem HN{c:CT X.ι}(hc:c.one=true)(x:CT.T X.toSE c):[(CT.tv X.toSE c x).av]=(CT.row X.toSE c x).map AV.t:=by
 obtain⟨t,h1,h2⟩:=row_one hc x;rw[h1,h2];rfl
theorem UV{c:CT X.ι}(x:CT.T X.toSE c):wk (CT.tv X.toSE c x).av=(CT.tv X.toSE c x).av:=by cases c<;>rfl
theorem yc{d:DV X}{c:CT X.ι}{x:CT.T X.toSE c}(h:Nl d c=some x):wk (den d)=(CT.tv X.toSE c x).av:=by
 unfold Nl at h;split at h
 ·rw[(iY h).1];exact UV x
 ·cases h;rfl
 ·cases h;rfl
 ·cases h
theorem QQ{d:DV X}{c:CT X.ι}{x:CT.T X.toSE c}(hc:c.one=true)(h:Nl d c=some x):xM d=true:=by
 cases d
 case c a y=>
  obtain⟨e,_⟩:=lQ (show fZ a c y=some x by cases c<;>exact h);subst e;cases a<;>first |rfl |simp[CT.one]at hc
 case nil=>rfl
 all_goals cases c<;>cases h
theorem Bp:∀{ds:List (DV X)}{l:List (CT X.ι)}{h:HL X.toSE l},Bo ds l=some h->l.all CT.one=true->(bM ds).map wk=(HL.row X.toSE l h).map AV.t/\ds.all xM=true
 |[],[],h,_,_=>⟨rfl,rfl⟩
 |d::ds,c::l,h,hr,ha=>by
  simp only[Bo]at hr;have⟨x,h1,hr⟩:=aj.1 hr;have⟨g,h2,hr⟩:=aj.1 hr;cases hr;simp only[all_cons,aD]at ha ⊢;have⟨i1,i2⟩:=Bp h2 ha.2;simp only[bM,aF,HL.row,map_append,i1,yc h1,i2,and_true,QQ ha.1 h1];simp[<- HN ha.1 x]
 |[],_::_,_,hr,_=>by simp[Bo]at hr
 |_::_,[],_,hr,_=>by simp[Bo]at hr
theorem XT(j:X.ι)(h:HL X.toSE (X.cQ j)):CT.row X.toSE (.st j) (X.make j h)=HL.row X.toSE (X.cQ j) h:=X.eK j h
theorem aoo{c:CT X.ι}(hc:c.one=true){ds:List (DV X)}{x:CT.T X.toSE c}(h:SD c ds=some x):(bM ds).map wk=(CT.row X.toSE c x).map AV.t:=by
 match ds,h with
 |[d],h=>
  rw[<- HN hc x];simp only[bM,aF,map_nil,yc h]
 |[],h=>cases h
 |_::_::_,h=>cases h
theorem AX{c:CT X.ι}{ds:List (DV X)}{x:CT.T X.toSE c}(h:Qk c ds=some x):(bM ds).map wk=(CT.row X.toSE c x).map AV.t:=by
 cases c
 case st j=>
  simp only[Qk]at h;have⟨g,h1,h⟩:=aj.1 h;cases h;rw[(Bp h1 (X.flat j)).1,XT]
 all_goals exact aoo rfl h
theorem ahz{d:DV X}{c:CT X.ι}(hc:c.one=true){x:CT.T X.toSE c}(h:Nl d c=some x):∃cs,cellsOf (den d)=some cs/\cs.map wk=(CT.row X.toSE c x).map AV.t:=by
 have hk:=QQ hc h;have hd:=yc h;have he:cellsOf (den d)=some [den d]:=by
  have:=Bj (x:=d) (cs:=[d]) (by
   cases d
   case c t y=>cases t<;>first |rfl |simp[xM]at hk
   all_goals first |rfl |simp[xM]at hk)
  simpa[bM]using this
 exact⟨_,he,by rw[<- HN hc x];simp[hd]⟩
theorem akw{d:DV X}{c:CT X.ι}{x:CT.T X.toSE c}(h:dat d c=some x):∃cs,cellsOf (den d)=some cs/\cs.map wk=(CT.row X.toSE c x).map AV.t:=by
 cases c
 case st j=>
  replace h:yp d j=some x:=h
  cases d
  case agg cs=>
   simp only[yp]at h;have⟨g,h1,h⟩:=aj.1 h;cases h;have⟨i1,i2⟩:=Bp h1 (X.flat j);refine⟨bM cs,?_,by rw[i1,XT]⟩;simp only[den,cellsOf];rw[aP (Z2 i2)]
  case c a y=>
   replace h:fZ a (.st j) y=some x:=h
   rw[(iY h).1];refine⟨(CT.row X.toSE (.st j) x).map AV.t,?_,?_⟩
   ·show cellsOf (.agg _)=_;simp only[cellsOf];rw[aP]
    ·rfl
    ·rw[List.all_map,all_eq_true];exact λ_ _=>rfl
   ·rw[map_map];rfl
  all_goals cases h
 all_goals exact ahz rfl h
theorem akx{t:TypeId}{x y:DV X}(h:It T t x y get k=some r):∃b8 kk u aa,Xa T t (den x) (den y) b8 (dO [kk] (fJ get))=some aa/\jV aa.obs/\aa.v= .undef/\aa.upd=gK [(kk,u)]/\k .undef [(kk,u)] [kk] [kk]=some r:=by
 unfold It at h;unfold Xa;rw[aj]at h;obtain⟨ti,h1,h⟩:=h;rw[aj]at h;obtain⟨cs,h2,h⟩:=h;simp only[h1,Bj h2,ah];split at h
 ·rename_i hl;have hdl:(bM cs).length=ti.size:=by rw[kX];exact hl
  simp only[hdl,if_true];split at h
  ·rename_i kk row ae;rw[aj]at h;obtain⟨o,h3,h⟩:=h;split at h
   ·rename_i sz rows;rw[aj]at h;obtain⟨rw',h4,h⟩:=h;split at h
    ·rename_i hle;refine⟨.none,kk,_,⟨.undef,_,[]⟩,?_,trivial,rfl,rfl,h⟩;simp only[den,dU (List.mem_singleton_self kk) h3,ah,bJ,List.getElem?_map,h4,Option.map_some,kX];rw[aP (by rw[<- hl];exact hle)];simp[gK,bJ,XR]
    ·cases h
   ·cases h
  ·rename_i kk n ae;rw[aj]at h;obtain⟨o,h3,h⟩:=h;split at h
   ·rename_i c l;rw[aj]at h;obtain⟨z,h4,h⟩:=h;split at h
    ·rename_i hle;have⟨z',h5,h⟩:=aj.1 h;have⟨_,h6⟩:=Ql h4;refine⟨.set ((CT.row X.toSE c z).map AV.t) (aS ((l.set n.toNat z').map (CT.row X.toSE c))),kk,_,⟨.undef,_,[(aS (l.map (CT.row X.toSE c)))[n.toNat]? =some ((CT.row X.toSE c z).map AV.t)/\aS ((l.set n.toNat z').map (CT.row X.toSE c))=dX ((aS (l.map (CT.row X.toSE c))).set n.toNat (put' ((CT.row X.toSE c z).map AV.t) ae (bM cs)))]⟩,?_,?_,rfl,rfl,h⟩
     ·simp only[den,dU (List.mem_singleton_self kk) h3,ah,bJ];rw[aP (by rw[length_map,Bh,<- hl];exact hle)];simp[gK,bJ]
     ·refine⟨by simp[aS,h6],?_⟩;have h7:=AX h5;rw[XR,mX]at h7;have hid:dX (aS (l.map (CT.row X.toSE c)))=aS (l.map (CT.row X.toSE c)):=(by simp[dX,aS,Function.comp_def,wk]);simp only[dX,List.map_set,h7];have:(aS (l.map (CT.row X.toSE c))).map (List.map wk)=aS (l.map (CT.row X.toSE c)):=hid;rw[this];simp[aS]
    ·cases h
   ·cases h
  ·cases h
 ·cases h
theorem SS{t:TypeId}{x:DV X}{f:Nat}(h:OE T t x f k=some r):∃dv aa,Be T t (den x) f=some aa/\jV aa.obs/\aa.v=den dv/\aa.upd=[]/\k dv [] [] []=some r:=by
 unfold OE at h;unfold Be;rw[aj]at h;obtain⟨⟨d,u⟩,h1,h⟩:=h;simp only[h1,ah];split at h
 ·exact⟨_,_,rfl,trivial,rfl,rfl,h⟩
 ·exact⟨_,_,rfl,trivial,rfl,rfl,h⟩
 ·exact⟨_,_,rfl,trivial,rfl,rfl,h⟩
 ·cases h
theorem adh{t:TypeId}{x:DV X}{f:Nat}(h:Pl T t x f k=some r):∃dv aa,Xb T t (den x) f=some aa/\jV aa.obs/\aa.v=den dv/\aa.upd=[]/\k dv [] [] []=some r:=by
 unfold Pl at h;unfold Xb;rw[aj]at h;obtain⟨⟨d,u⟩,h1,h⟩:=h;simp only[h1,ah];split at h
 ·rw[aj]at h;obtain⟨v,h2,h⟩:=h;have h3:=F5 h2;rw[j4]at h3;exact⟨v,⟨den v,[],[]⟩,by simp only[den,h3,ah,pv],trivial,rfl,rfl,h⟩
 ·rename_i j y;have⟨v,h2,h⟩:=aj.1 h;have h3:=SQ h2;rw[map_take,map_drop]at h3;refine⟨v,⟨den v,[],[]⟩,?_,trivial,rfl,rfl,h⟩;show(part' u.agg u.size (List.take u.size (List.drop d ((CT.row X.toSE (.st j) y).map AV.t)))).bind pv=_;rw[h3];rfl
 ·cases h
theorem dN{α:Type}{b:Bool}{x:Option α}{r:α}(h:(bif b then x else none)=some r):b=true/\x=some r:=by
 cases b with
 |true=>exact⟨rfl,h⟩
 |false=>cases h
theorem XU{n:Int}{len:Nat}(h:br n len=true):0<=n/\n.toNat<len:=by simp only[br,aD,aG]at h;omega
theorem pV{A:Type}:∀{cs:List Bool}{k:Option A}{r:A},XO cs k=some r->(∀ c∈cs,c=true)/\k=some r
 |[],_,_,h=>⟨by simp,h⟩
 |c::cs,k,r,h=>by
  have⟨h1,h2⟩:=dN h;have⟨h3,h4⟩:=pV h2;exact⟨λ x hx=>(aK.1 hx).elim (λ e=>e ▸ h1) (h3 x),h4⟩
theorem SV{t:TypeId}{x j:DV X}(h:OG T t x j get k=some r):∃b8 rd dv aa,lN T t (den x) (den j) b8 (dO rd (fJ get))=some aa/\jV aa.obs/\aa.v=den dv/\aa.upd=[]/\k dv [] rd []=some r:=by
 unfold OG at h;unfold lN;rw[aj]at h;obtain⟨ti,h1,h⟩:=h;simp only[h1,ah];split at h
 ·rename_i e kd n hk;rw[aj]at h;obtain⟨ei,h2,h⟩:=h;simp only[hk,den,CT.tv,TV.av,h2,ah];split at h
  ·rename_i c l;split at h
   ·rename_i hs;rw[aj]at h;obtain⟨y,h3,h⟩:=h;have⟨h4,h5⟩:=Ql h3;refine⟨.pc (CT.row X.toSE c y),[],_,⟨.du (CT.row X.toSE c y) 0,[],[0<=n/\(l.map (CT.row X.toSE c))[n.toNat]? =some (CT.row X.toSE c y)]⟩,?_,?_,rfl,rfl,h⟩
    ·simp only[den,CT.tv,TV.av];rw[aP (by rw[Bh];exact hs)];rfl
    ·exact⟨h4,by simp[h5]⟩
   ·cases h
  ·rename_i kk ae len;rw[aj]at h;obtain⟨o,h3,h⟩:=h;split at h
   ·rename_i c l;split at h
    ·rename_i hs;have⟨h4,h⟩:=dN h;have⟨h5,h6⟩:=XU h4;refine⟨.none,[kk],_,⟨.ptr kk (ae+n.toNat) 0,[],[0<=n/\n.toNat<len]⟩,?_,⟨h5,h6⟩,?_,rfl,h⟩
     ·simp only[den,dU (List.mem_singleton_self kk) h3,ah,bJ];rw[aP hs];rfl
     ·simp only[den,iN];congr 1;show ae+Int.toNat n=Int.toNat ((ae:Int)+n);have:(0:Int)<=n:=h5;omega
    ·cases h
   ·rename_i sz rows;split at h
    ·rename_i hs;have⟨h4,h⟩:=dN h;have⟨h5,h6⟩:=XU h4;refine⟨.none,[kk],_,⟨.ptr kk (ae+n.toNat) 0,[],[0<=n/\n.toNat<len]⟩,?_,⟨h5,h6⟩,rfl,rfl,h⟩;simp only[den,dU (List.mem_singleton_self kk) h3,ah,bJ];rw[aP hs];rfl
    ·cases h
   ·cases h
  ·cases h
 ·rename_i m e kd n hk;have⟨ei,h2,h⟩:=aj.1 h;simp only[hk,den,CT.tv,TV.av,h2,ah];have⟨h4,h⟩:=dN h;have⟨h5,h6⟩:=XU h4;split at h
  ·exact⟨.none,[],_,_,rfl,⟨h5,h6⟩,rfl,rfl,h⟩
  ·exact⟨.none,[],_,_,rfl,⟨h5,h6⟩,rfl,rfl,h⟩
  ·exact⟨.none,[],_,_,rfl,⟨h5,h6⟩,rfl,rfl,h⟩
  ·cases h
 ·cases h
theorem XV{x:DV X}{j:Nat}(h:XP x j k=some r):∃dv aa,KR (den x) j=some aa/\jV aa.obs/\aa.v=den dv/\aa.upd=[]/\k dv [] [] []=some r:=by
 unfold XP at h;split at h
 ·have⟨v,h2,h⟩:=aj.1 h;refine⟨v,⟨den v,[],[]⟩,?_,trivial,rfl,rfl,h⟩;simp[KR,den,nQ,h2,pv]
 ·cases h
end
section
variable {X:SX} {A:Type} {T:da} {aw:TypeId->Option (CT X.ι)} {get:Nat->Option (bk X)} {k:KK X A} {r:A} {i:Nat}
theorem adi{op:BinOp}{kd:IntKind}{a b:Int}:∃v obs,W9 op kd a b=some (v,obs)/\den (K4 (X:=X) op kd a b).1= .t (.sc v)/\(∀ g,(K4 (X:=X) op kd a b).2=some g->g=true->jV obs)/\((K4 (X:=X) op kd a b).2=none->jV obs):=by
 cases op<;>refine⟨_,_,rfl,rfl,λg hg ht=>?_,λhn=>?_⟩<;>simp only[K4,aC,reduceCtorEq]at* <;>try trivial
 all_goals subst hg;simp_all [jV]
theorem afd{n:Nat}{x y:DV X}{b:Bool}(h:Q2 n x y=some b):OA n (den x) (den y)=some b:=by
 unfold Q2 at h;split at h
 ·split at h
  ·cases h;simp only[den,CT.tv,TV.av,OA];rw[aP ‹_›]
  ·cases h
 ·exact h
 ·exact h
 ·cases h
theorem Qm:∀{ks:List Nat}{xs ys:List (DV X)}{b:Bool},xZ ks xs ys=some b->uz ks (bM xs) (bM ys)=some b
 |[],[],[],b,h=>h
 |k::ks,x::xs,y::ys,b,h=>by
  simp only[xZ]at h;rw[aj]at h;obtain⟨p,h1,h⟩:=h;rw[aj]at h;obtain⟨q,h2,h⟩:=h;simp only[bM,uz,afd h1,Qm h2,ah,h]
 |[],_::_,_,_,h=>by simp[xZ]at h
 |[],[],_::_,_,h=>by simp[xZ]at h
 |_::_,[],_,_,h=>by simp[xZ]at h
 |_::_,_::_,[],_,h=>by simp[xZ]at h
theorem afe{x:DV X}{xs:List (DV X)}(h:G4 x=some xs):den x= .agg (bM xs):=by
 unfold G4 at h;split at h
 ·cases h;rfl
 ·rename_i j y;cases h;rw[mX];rfl
 ·cases h
theorem ahA{op:BinOp}{t:TypeId}{x y:DV X}(h:MM T op t x y k=some r):∃dv aa,Z4 T op t (den x) (den y)=some aa/\jV aa.obs/\aa.v=den dv/\aa.upd=[]/\k dv [] [] []=some r:=by
 unfold MM at h;split at h
 ·rename_i kd a yk b;split at h
  ·rename_i hk;have⟨v,obs,h1,h2,h3,h4⟩:=adi (X:=X) (op:=op) (kd:=kd) (a:=a) (b:=b);have fin:jV obs->k (K4 op kd a b).1 [] [] []=some r->∃dv aa,Z4 T op t (den (.c (.int kd) a:DV X)) (den (.c (.int yk) b:DV X))=some aa/\jV aa.obs/\aa.v=den dv/\aa.upd=[]/\k dv [] [] []=some r:=by
    intro ho hkk;refine⟨_,⟨.t (.sc v),[],obs⟩,?_,ho,h2.symm,rfl,hkk⟩;simp only[den,CT.tv,TV.av,Z4];rw[aP hk,h1];rfl
   split at h
   ·rename_i hn;exact fin (h4 hn) h
   ·rename_i g hg;have⟨hgt,h⟩:=dN h;exact fin (h3 g hg hgt) h
  ·cases h
 ·split at h
  ·exact⟨_,_,rfl,trivial,rfl,rfl,h⟩
  ·exact⟨_,_,rfl,trivial,rfl,rfl,h⟩
  ·exact⟨_,_,rfl,trivial,rfl,rfl,h⟩
  ·exact⟨_,_,rfl,trivial,rfl,rfl,h⟩
  ·have⟨hc,h⟩:=dN h;exact⟨_,_,rfl,show _<=maxLen from of_decide_eq_true hc,rfl,rfl,h⟩
  ·cases h
 ·rw[aj]at h;obtain⟨ti,h1,h⟩:=h;split at h
  ·rename_i hk;refine⟨_,⟨.t (.sc (.bool _)),[],[]⟩,?_,trivial,rfl,rfl,h⟩;simp only[den,CT.tv,TV.av,Z4,h1,ah,hk];rfl
  ·rename_i hk;refine⟨_,⟨.t (.sc (.bool _)),[],[]⟩,?_,trivial,rfl,rfl,h⟩;simp only[den,CT.tv,TV.av,Z4,h1,ah,hk];rfl
  ·cases h
 ·rw[aj]at h;obtain⟨xs,h1,h⟩:=h;rw[aj]at h;obtain⟨ys,h2,h⟩:=h;rw[aj]at h;obtain⟨ti,h3,h⟩:=h;split at h
  ·cases h
  ·rename_i hc;have⟨b,h4,h⟩:=aj.1 h;have h5:=Qm h4;rw[afe h1,afe h2];split at h
   ·refine⟨_,⟨.t (.sc (.bool b)),[],[]⟩,?_,trivial,rfl,rfl,h⟩;simp only[Z4,h3,ah];rw[aM hc,h5];rfl
   ·refine⟨_,⟨.t (.sc (.bool (!b))),[],[]⟩,?_,trivial,rfl,rfl,h⟩;simp only[Z4,h3,ah];rw[aM hc,h5];rfl
   ·cases h
theorem aky{op:UnOp}{x:DV X}(h:In op x k=some r):∃dv aa,H2 op (den x)=some aa/\jV aa.obs/\aa.v=den dv/\aa.upd=[]/\k dv [] [] []=some r:=by
 unfold In at h;split at h
 ·exact⟨_,_,rfl,trivial,rfl,rfl,h⟩
 ·exact⟨_,_,rfl,trivial,rfl,rfl,h⟩
 ·cases h
theorem UR(mx:Bool)(kd:IntKind):∀(l:List (DV X))(a n:Int),ML mx kd a l=some n->Ic mx kd a (bM l)=some n
 |[],a,n,h=>h
 |x::l,a,n,h=>by
  cases x
  case c t y=>
   cases t
   case int k'=>
    simp only[ML]at h;simp only[bM,den,CT.tv,TV.av,Ic];split at h
    ·rename_i hk;rw[aP hk];exact UR mx kd l _ _ h
    ·cases h
   all_goals simp[ML]at h
  all_goals simp[ML]at h
theorem abG{mx:Bool}{args:List (DV X)}(h:GO mx args k=some r):∃dv aa,BC mx (bM args)=some aa/\jV aa.obs/\aa.v=den dv/\aa.upd=[]/\k dv [] [] []=some r:=by
 unfold GO at h;split at h
 ·rename_i kd a l;rw[aj]at h;obtain⟨n,h1,h⟩:=h;refine⟨_,⟨.t (.sc (.int kd n)),[],[]⟩,?_,trivial,rfl,rfl,h⟩;simp only[bM,den,CT.tv,TV.av,BC];have:=UR mx kd l a n h1;simp only[this];rfl
 ·cases h
theorem ahB{t:TypeId}{x:DV X}(h:MD T t x k=some r):∃b8 dv aa,uB T t (den x) b8=some aa/\jV aa.obs/\aa.v=den dv/\aa.upd=[]/\k dv [] [] []=some r:=by
 unfold MD at h;unfold uB;rw[aj]at h;obtain⟨ti,h1,h⟩:=h;simp only[h1,ah];split at h
 ·rename_i e c l hk;simp only[hk];exact⟨.num (l.length:Int),_,⟨.t (.sc (.int .i64 (l.length:Int))),[],[(l.length:Int)=((l.map (CT.row X.toSE c)).length:Int)]⟩,rfl,by simp[jV],rfl,rfl,h⟩
 ·rename_i hk;simp only[hk];exact⟨.none,_,_,rfl,trivial,rfl,rfl,h⟩
 ·rename_i hk;simp only[hk];exact⟨.none,_,_,rfl,trivial,rfl,rfl,h⟩
 ·rename_i hk;simp only[hk];exact⟨.none,_,_,rfl,trivial,rfl,rfl,h⟩
 ·cases h
theorem SY(place:Nat->Option (Nat×Nat)):∀(parts:List (Nat×DV X))(cells aa:List (DV X)),Bm place cells parts=some aa->JM place (bM cells) (parts.map λp=>(p.1,den p.2))=some (bM aa)
 |[],cells,aa,h=>by simp only[Bm,aC]at h;subst h;rfl
 |(j,x)::an,cells,aa,h=>by
  simp only[Bm]at h;rw[aj]at h;obtain⟨⟨ae,size⟩,h1,h⟩:=h;rw[aj]at h;obtain⟨cs,h2,h⟩:=h;split at h
  ·rename_i hl;simp only[aF,JM,h1,Bj h2,ah,kX];rw[aP hl,<- XR];exact SY place an _ _ h
  ·cases h
theorem adj{t:TypeId}{parts:List (Nat×DV X)}(h:Pi T t parts k=some r):∃dv aa,Xc T t (parts.map λp=>(p.1,den p.2))=some aa/\jV aa.obs/\aa.v=den dv/\aa.upd=[]/\k dv [] [] []=some r:=by
 unfold Pi at h;unfold Xc;rw[aj]at h;obtain⟨ti,h1,h⟩:=h;simp only[h1,ah];split at h
 ·rename_i fs hk;split at h
  ·rename_i ha;rw[aj]at h;obtain⟨cells,h2,h⟩:=h;have h3:=SY _ _ _ _ h2;rw[Bl]at h3;refine⟨_,⟨.agg (bM cells),[],[]⟩,?_,trivial,rfl,rfl,h⟩;simp only[hk];rw[aP ha,h3];rfl
  ·cases h
 ·rename_i m e hk;rw[aj]at h;obtain⟨ei,h2,h⟩:=h;rw[aj]at h;obtain⟨cells,h3,h⟩:=h;have h4:=SY _ _ _ _ h3;rw[Bl]at h4;refine⟨_,⟨.agg (bM cells),[],[]⟩,?_,trivial,rfl,rfl,h⟩;simp only[hk,h2,ah,h4];rfl
 ·cases h
theorem abH(size:Nat)(c:CT X.ι)(hs:CT.sz X c=size)(z:List AV):∀(parts:List (Nat×DV X))(n:Nat)(l:List (CT.T X.toSE c))(done:List (List AV)),FF c n parts=some l->done.length=n->
 ∃css:List (List AV),PW size (done++List.replicate parts.length z) (parts.map λp=>(p.1,den p.2))=some (done++css)/\css.map (λ r=>r.map wk)=aS (l.map (CT.row X.toSE c))
 |[],n,l,done,h,_=>by
  simp only[FF,aC]at h;subst h;exact⟨[],by simp[PW],rfl⟩
 |(j,x)::an,n,l,done,h,hd=>by
  simp only[FF]at h;split at h
  ·rename_i hj;subst hj;have⟨y,h1,h⟩:=aj.1 h;have⟨l',h2,h⟩:=aj.1 h;cases h;have⟨cs,g1,g2⟩:=akw h1;have hl:cs.length=size:=by
    have:=congrArg List.length g2;simp only[length_map,Bh]at this;omega
   obtain⟨css,i1,i2⟩:=abH size c hs z an (j+1) l' (done++[cs]) h2 (by simp[hd]);refine⟨cs::css,?_,?_⟩
   ·simp only[aF,PW,g1,ah];rw[aP ⟨hl,by simp;omega⟩];have:(done++List.replicate (an.length+1) z).set j cs=done++[cs]++List.replicate an.length z:=by
     rw[List.set_append_right _ _ (by omega),hd];simp[List.replicate_succ]
    simp only[bH,this,i1];simp
   ·simp only[aF,i2,g2,aS,aF]
  ·cases h
theorem Qn{t:TypeId}{len:Nat}{parts:List (Nat×DV X)}(h:K5 T aw i t len parts k=some r):∃dv u aa,xY T i t len (parts.map λp=>(p.1,den p.2))=some aa/\jV aa.obs/\aa.v=den dv/\aa.upd=gK [(cd i,u)]/\k dv [(cd i,u)] [] []=some r:=by
 unfold K5 at h;unfold xY;rw[aj]at h;obtain⟨ti,h1,h⟩:=h;simp only[h1,ah];split at h
 ·rename_i e hk;rw[aj]at h;obtain⟨ei,h2,h⟩:=h;rw[aj]at h;obtain⟨c,h3,h⟩:=h;simp only[hk,h2,ah];split at h
  ·cases h
  ·rename_i hno;simp only[not_or,Decidable.not_not]at hno;obtain⟨n1,n2,n3,n4⟩:=hno;have⟨l,h4,h⟩:=aj.1 h;have⟨css,g1,g2⟩:=abH ei.size c n3 (ei.zero.map cv) parts 0 l [] h4 rfl;simp only[bI,n4]at g1;refine⟨_,_,⟨.own (cd i) 0 len,[(cd i,some ⟨ei.size,dX css⟩)],[]⟩,?_,trivial,rfl,?_,h⟩
   ·rw[aM (by simp only[not_or];exact⟨n1,n2⟩),g1];rfl
   ·simp only[gK,bJ,aF,map_nil,Option.map_some,n3];rw[show dX css=aS (l.map (CT.row X.toSE c))from g2]
 ·cases h
theorem adk{e:TypeId}(h:Pc T i e k=some r):∃dv u aa,Xd T i e=some aa/\jV aa.obs/\aa.v=den dv/\aa.upd=gK [(cd i,u)]/\k dv [(cd i,u)] [] []=some r:=by
 unfold Pc at h;unfold Xd;have⟨ti,h1,h⟩:=aj.1 h;exact⟨_,_,⟨_,[(cd i,some ⟨ti.size,[ti.zero.map cv]⟩)],[]⟩,by simp only[h1,ah];rfl,trivial,rfl,by simp[gK,bJ,Bl],h⟩
theorem ahC{x:DV X}(h:Mz i x k=some r):∃dv u aa,Fm i (den x)=some aa/\jV aa.obs/\aa.v=den dv/\aa.upd=gK [(cd i,u)]/\k dv [(cd i,u)] [] []=some r:=by
 unfold Mz at h;unfold Fm;rw[aj]at h;obtain⟨cs,h1,h⟩:=h;exact⟨_,_,⟨_,[(cd i,some ⟨(bM cs).length,[bM cs]⟩)],[]⟩,by simp only[Bj h1,ah];rfl,trivial,rfl,by simp[gK,bJ,kX],h⟩
theorem yg{d n:Int}{x:Option (DV X)}(h:sB d x=some n):bnd d (x.map den)=some n:=by
 unfold sB at h;split at h
 ·exact h
 ·exact h
 ·cases h
theorem abI{l h:Int}{len:Nat}(hh:q8 l h len=true):0<=l/\l<=h/\h<=(len:Int):=by simpa[q8,and_assoc]using hh
theorem adl{t:TypeId}{x:DV X}{lo hi:Option (DV X)}(h:Pa T t x lo hi get k=some r):∃b8 rd dv aa,Xe T t (den x) (lo.map den) (hi.map den) b8 (dO rd (fJ get))=some aa/\jV aa.obs/\aa.v=den dv/\aa.upd=[]/\k dv [] rd []=some r:=by
 unfold Pa at h;unfold Xe;rw[aj]at h;obtain⟨ti,h1,h⟩:=h;simp only[h1,ah];split at h
 ·rename_i e hk;rw[aj]at h;obtain⟨ei,h2,h⟩:=h;simp only[hk,h2,ah];split at h
  ·rename_i kk ae len;rw[aj]at h;obtain⟨o,h3,h⟩:=h;split at h
   ·rename_i hs;rw[aj]at h;obtain⟨l,h4,h⟩:=h;rw[aj]at h;obtain⟨hh,h5,h⟩:=h;have⟨h6,h⟩:=dN h;refine⟨.none,[kk],_,⟨.own kk (ae+l.toNat) (hh.toNat -l.toNat),[],[0<=l/\l<=hh/\hh<=(len:Int)]⟩,?_,abI h6,rfl,rfl,h⟩;simp only[den,dU (List.mem_singleton_self kk) h3,ah];rw[aP hs,yg h4,ah,yg h5];rfl
   ·cases h
  ·rename_i c xs;split at h
   ·rename_i hs;have⟨l,h4,h⟩:=aj.1 h;have⟨hh,h5,h⟩:=aj.1 h;have⟨h6,h⟩:=dN h;refine⟨.vi ((sub xs l.toNat (hh.toNat -l.toNat)).map (CT.row X.toSE c)),[],_,⟨.t (.sl ((sub xs l.toNat (hh.toNat -l.toNat)).map (CT.row X.toSE c))),[],[0<=l/\l<=hh/\hh<=((xs.map (CT.row X.toSE c)).length:Int)/\(sub xs l.toNat (hh.toNat -l.toNat)).map (CT.row X.toSE c)=((xs.map (CT.row X.toSE c)).drop l.toNat).take (hh.toNat -l.toNat)/\(∀ q∈xs.map (CT.row X.toSE c),q.length=ei.size)]⟩,?_,?_,rfl,rfl,h⟩
    ·simp only[den,CT.tv,TV.av,yg h4,ah];have h7:bnd ((xs.map (CT.row X.toSE c)).length:Int) (hi.map den)=some hh:=by
      have:=yg h5;simpa using this
     rw[h7];rfl
    ·have⟨a1,a2,a3⟩:=abI h6;refine⟨a1,a2,by simpa using a3,by simp[sub,map_take,map_drop],λq hq=>?_⟩;obtain⟨y,_,rfl⟩:=mem_map.1 hq;rw[Bh];exact hs
   ·cases h
  ·cases h
 ·cases h
end
section
variable {X:SX} {A:Type} {T:da} {aw:TypeId->Option (CT X.ι)} {get:Nat->Option (bk X)} {k:KK X A} {r:A} {i:Nat}
theorem kP{b c:CT X.ι}{l:List (CT.T X.toSE b)}{l':List (CT.T X.toSE c)}(h:fZ (.sl b) (.sl c) l=some l'):CT.sz X b=CT.sz X c/\l.map (CT.row X.toSE b)=l'.map (CT.row X.toSE c):=by
 have⟨e,h⟩:=lQ h;cases e;subst h;exact⟨rfl,rfl⟩
theorem aff{y:DV X}{c:CT X.ι}{n:Nat}{l:List (CT.T X.toSE c)}{rd:List Nat}(h:My y c get=some (n,l,rd))(hl:l.length=n)(rd':List Nat)(hrd:∀j∈rd,j∈rd'):
 ∃ob,Xf (CT.sz X c) (den y) (dO rd' (fJ get))=some (n,ob,aS (l.map (CT.row X.toSE c)))/\ob:=by
 unfold My at h;split at h
 ·rename_i kk ae len;rw[aj]at h;obtain⟨o,h1,h⟩:=h;split at h
  ·rename_i b l0;rw[aj]at h;obtain⟨l1,h2,h⟩:=h;injection h with h;simp only[Prod.mk.injEq]at h;obtain⟨rfl,rfl,rfl⟩:=h;have⟨h3,h4⟩:=kP h2;refine⟨True,?_,trivial⟩;simp only[den,Xf,dU (hrd kk (by simp)) h1,ah,bJ];rw[aP h3];simp only[h4,aC,Prod.mk.injEq,true_and];simp[aS,sub,map_take,map_drop]
  ·cases h
 ·rename_i b l0;have⟨l1,h2,h⟩:=aj.1 h;injection h with h;simp only[Prod.mk.injEq]at h;obtain⟨rfl,rfl,rfl⟩:=h;refine⟨∀ q∈l1.map (CT.row X.toSE c),q.length=CT.sz X c,?_,?_⟩
  ·rw[(iY h2).1];simp only[den,CT.tv,TV.av,Xf,length_map]
  ·intro q hq;obtain⟨z,_,rfl⟩:=mem_map.1 hq;exact Bh c z
 ·cases h
theorem XW{lo len ln n bytes:Nat}(h:bD lo len ln n bytes=true):lo=len/\ln=n/\(len+n)*bytes<=140737488355328/\len+n<=maxLen:=by simpa[bD,and_assoc]using h
theorem aan{t:TypeId}{x y:DV X}(h:Q1 T aw i t x y get k=some r):∃b8 rd wr dv upd aa,DZ T i t (den x) (den y) b8 (dO rd (fJ get))=some aa/\jV aa.obs/\aa.v=den dv/\aa.upd=gK upd/\(∀ p∈upd,p.1=cd i\/p.1∈wr)/\k dv upd rd wr=some r:=by
 unfold Q1 at h;unfold DZ;rw[aj]at h;obtain⟨ti,h1,h⟩:=h;simp only[h1,ah];split at h
 ·rename_i e hk;rw[aj]at h;obtain⟨ei,h2,h⟩:=h;rw[aj]at h;obtain⟨c,h3,h⟩:=h;simp only[hk,h2,ah];split at h
  ·rename_i hs;rw[aj]at h;obtain⟨⟨n,l,rd⟩,h4,h⟩:=h;split at h
   ·rename_i kk len;rw[aj]at h;obtain⟨o,h5,h⟩:=h;split at h
    ·rename_i b l0;have⟨l1,h6,h⟩:=aj.1 h;have⟨h7,h⟩:=dN h;have⟨g1,g2,g3,g4⟩:=XW h7;have⟨h8,h9⟩:=kP h6;obtain⟨ob,i1,i2⟩:=aff h4 g2 (kk::rd) (λ j hj=>by simp[hj]);have i3:=dU (rd:=kk::rd) (by simp) h5
     refine⟨.rows (aS ((l1++l).map (CT.row X.toSE c))),kk::rd,[kk],_,_,⟨.own (cd i) 0 (aS ((l1++l).map (CT.row X.toSE c))).length,[(cd i,some ⟨ei.size,aS ((l1++l).map (CT.row X.toSE c))⟩),(kk,none)],
      [ob/\(aS (l1.map (CT.row X.toSE c))).length=len/\(aS (l.map (CT.row X.toSE c))).length=n/\aS ((l1++l).map (CT.row X.toSE c))=aS (l1.map (CT.row X.toSE c))++aS (l.map (CT.row X.toSE c))/\(len+n)*ei.bytes<=140737488355328/\len+n<=maxLen]⟩,?_,?_,?_,?_,?_,h⟩
     ·rw[hs]at i1;simp only[i1,ah,den,i3,bJ,h9];rw[aP ⟨by rw[h8,hs],trivial⟩]
     ·exact⟨i2,by simpa[aS]using g1,by simpa[aS]using g2,by simp[aS],g3,g4⟩
     ·simp[den,aS]
     ·simp[gK,bJ,hs]
     ·intro p hp;simp only[aK,iw,or_false]at hp;rcases hp with rfl |rfl
      ·exact .inl rfl
      ·exact .inr (by simp)
    ·cases h
   ·have⟨h7,h⟩:=dN h;have⟨g1,g2,g3,g4⟩:=XW h7;obtain⟨ob,i1,i2⟩:=aff h4 g2 rd (λ j hj=>hj)
    refine⟨.rows (aS (l.map (CT.row X.toSE c))),rd,[],_,_,⟨.own (cd i) 0 (aS (l.map (CT.row X.toSE c))).length,[(cd i,some ⟨ei.size,aS (l.map (CT.row X.toSE c))⟩)],
     [ob/\(aS (l.map (CT.row X.toSE c))).length=n/\aS (l.map (CT.row X.toSE c))=aS (l.map (CT.row X.toSE c))/\n*ei.bytes<=140737488355328/\n<=maxLen]⟩,?_,?_,?_,?_,?_,h⟩
    ·rw[hs]at i1;simp only[i1,ah,den]
    ·exact⟨i2,by simpa[aS]using g2,rfl,by simpa using g3,by simpa using g4⟩
    ·simp[den,aS]
    ·simp[gK,bJ,hs]
    ·intro p hp;simp only[aK,iw,or_false]at hp;rcases hp with rfl;exact .inl rfl
   ·cases h
  ·cases h
 ·cases h
def T2(T:da)(i:Nat)(o:Oper)(ρ:Operand->DV X)(get:Nat->Option (bk X))(k:KK X A)(r:A):Prop:=
 ∃b8 rd wr dv upd aa,qz T i o b8 (λ x=>den (ρ x)) (dO rd (fJ get))=some aa/\jV aa.obs/\aa.v=den dv/\aa.upd=gK upd/\(∀ p∈upd,p.1=cd i\/p.1∈wr)/\k dv upd rd wr=some r
theorem XY{b:Builtin}{args:List (DV X)}{cQ:List TypeId}(h:XQ T aw i b args cQ get k=some r):∃b8 rd wr dv upd aa,FZ T i b (bM args) cQ b8 (dO rd (fJ get))=some aa/\jV aa.obs/\aa.v=den dv/\aa.upd=gK upd/\(∀ p∈upd,p.1=cd i\/p.1∈wr)/\k dv upd rd wr=some r:=by
 unfold XQ at h;unfold FZ;split at h
 ·have⟨b8,dv,aa,h1,h2,h3,h4,h5⟩:=ahB h;exact⟨b8,[],[],dv,[],aa,h1,h2,h3,h4,by simp,h5⟩
 ·have⟨dv,aa,h1,h2,h3,h4,h5⟩:=abG h;exact⟨.none,[],[],dv,[],aa,h1,h2,h3,h4,by simp,h5⟩
 ·have⟨dv,aa,h1,h2,h3,h4,h5⟩:=abG h;exact⟨.none,[],[],dv,[],aa,h1,h2,h3,h4,by simp,h5⟩
 ·split at h
  ·rename_i htu;have⟨b8,rd,wr,dv,upd,aa,h1,h2⟩:=aan h;refine⟨b8,rd,wr,dv,upd,aa,?_,h2⟩;simp only[bM];rw[aP htu];exact h1
  ·cases h
 ·cases h
theorem Wx(ρ:Operand->DV X)(l:List Operand):l.map (λ x=>den (ρ x))=bM (l.map ρ):=by rw[nQ,map_map];rfl
theorem abJ{o:Oper}{ρ:Operand->DV X}(h:GM T aw i o.op ρ get k=some r):T2 T i o ρ get k r:=by
 obtain⟨dst,op,ty,aE,after,guard⟩:=o;unfold T2 qz;simp only at h;unfold GM at h;split at h
 ·exact⟨.none,[],[],_,[],_,rfl,trivial,rfl,rfl,by simp,h⟩
 ·exact⟨.none,[],[],_,[],_,rfl,trivial,rfl,rfl,by simp,h⟩
 ·rename_i c a b;split at h
  ·rename_i t hc;refine⟨.none,[],[],_,[],⟨Gk t (den (ρ a)) (den (ρ b)),[],[]⟩,?_,trivial,(aku t _ _).symm,rfl,by simp,h⟩;simp only[hc,den,CT.tv,TV.av,pv]
  ·cases h
 ·have⟨dv,u,aa,h1,h2,h3,h4,h5⟩:=adk h;exact⟨.none,[],[],dv,_,aa,h1,h2,h3,h4,by simp,h5⟩
 ·have⟨dv,u,aa,h1,h2,h3,h4,h5⟩:=ahC h;exact⟨.none,[],[],dv,_,aa,h1,h2,h3,h4,by simp,h5⟩
 ·rename_i t parts;have⟨dv,aa,h1,h2,h3,h4,h5⟩:=adj h;refine⟨.none,[],[],dv,[],aa,?_,h2,h3,h4,by simp,h5⟩;rw[map_map]at h1;exact h1
 ·rename_i t len parts;have⟨dv,u,aa,h1,h2,h3,h4,h5⟩:=Qn h;refine⟨.none,[],[],dv,_,aa,?_,h2,h3,h4,by simp,h5⟩;rw[map_map]at h1;exact h1
 ·have⟨b8,rd,dv,aa,h1,h2,h3,h4,h5⟩:=akv h;exact⟨b8,rd,[],dv,[],aa,h1,h2,h3,h4,by simp,h5⟩
 ·have⟨b8,kk,u,aa,h1,h2,h3,h4,h5⟩:=akx h;exact⟨b8,[kk],[kk],.undef,_,aa,h1,h2,h3,h4,by simp,h5⟩
 ·have⟨dv,aa,h1,h2,h3,h4,h5⟩:=ahA h;exact⟨.none,[],[],dv,[],aa,h1,h2,h3,h4,by simp,h5⟩
 ·have⟨dv,aa,h1,h2,h3,h4,h5⟩:=aky h;exact⟨.none,[],[],dv,[],aa,h1,h2,h3,h4,by simp,h5⟩
 ·rename_i f first caps
  refine⟨.none,[],[],_,[],⟨.fn f (first.toList.map λx=>den (ρ x)) (caps.toList.map λx=>den (ρ x)),[],[]⟩,rfl,trivial,?_,rfl,by simp,h⟩;simp only[den,Wx]
 ·rename_i t x lo hi;have⟨b8,rd,dv,aa,h1,h2,h3,h4,h5⟩:=adl h;refine⟨b8,rd,[],dv,[],aa,?_,h2,h3,h4,by simp,h5⟩;simp only[Option.map_map]at h1;exact h1
 ·have⟨dv,aa,h1,h2,h3,h4,h5⟩:=SS h;exact⟨.none,[],[],dv,[],aa,h1,h2,h3,h4,by simp,h5⟩
 ·have⟨dv,aa,h1,h2,h3,h4,h5⟩:=adh h;exact⟨.none,[],[],dv,[],aa,h1,h2,h3,h4,by simp,h5⟩
 ·have⟨b8,rd,dv,aa,h1,h2,h3,h4,h5⟩:=SV h;exact⟨b8,rd,[],dv,[],aa,h1,h2,h3,h4,by simp,h5⟩
 ·have⟨dv,aa,h1,h2,h3,h4,h5⟩:=XV h;exact⟨.none,[],[],dv,[],aa,h1,h2,h3,h4,by simp,h5⟩
 ·rename_i b args cQ;have⟨b8,rd,wr,dv,upd,aa,h1,h2⟩:=XY h;refine⟨b8,rd,wr,dv,upd,aa,?_,h2⟩;simp only[Wx];exact h1
 ·cases h
end
inductive Pt(ι:Type) where
 |v (c:CT ι)
 |o (k:Nat)
 |p (k:Nat)
 |nil
 |f (F:FuncId) (fs cs:List (Pt ι))
 |od (k:Nat)
 |mp (k:Nat)
 |a (ps:List (Pt ι))
inductive OP(ι:Type) where
 |l (c:CT ι)
 |m (k v:CT ι)
 |c (sz:Nat) (rows:List (List (Pt ι)))
section
variable {ι:Type}
mutual
def Pt.vars:Pt ι->List (CT ι)
 | .v c=>[c]
 | .a ps=>cC ps
 | .f _ fs cs=>cC fs++cC cs
 | .od _=>[.int .i64]
 |_=>[]
def cC:List (Pt ι)->List (CT ι)
 |[]=>[]
 |p::ps=>p.vars++cC ps
end
def fx:List (Nat×Pt ι)->List (CT ι)
 |[]=>[]
 |p::ps=>p.2.vars++fx ps
def yh:List (List (Pt ι))->List (CT ι)
 |[]=>[]
 |r::rs=>cC r++yh rs
def cx:List (Nat×OP ι)->List (CT ι)
 |[]=>[]
 |(_,.l c)::r=> .sl c::cx r
 |(_,.m k v)::r=> .mp k v::cx r
 |(_,.c _ rows)::r=>yh rows++cx r
end
section
variable {X:SX}
structure DC(X:SX) where
 c:CT X.ι
 x:CT.T X.toSE c
@[reducible] def VT:List (CT X.ι)->Type
 |[]=>Unit
 |[c]=>CT.T X.toSE c
 |c::c'::l=>CT.T X.toSE c×VT (c'::l)
def sA:(l:List (CT X.ι))->List (DC X)->Option (VT (X:=X) l)
 |[],[]=>some ()
 |[c],[d]=>fZ d.c c d.x
 |c::c'::l,d::ds=>(fZ d.c c d.x).bind λx=>(sA (c'::l) ds).bind λv=>some (x,v)
 |_,_=>none
def yj:(l:List (CT X.ι))->VT (X:=X) l->List (DC X)
 |[],_=>[]
 |[c],x=>[⟨c,x⟩]
 |c::c'::l,v=>⟨c,v.1⟩::yj (c'::l) v.2
theorem afg{d:DC X}{c:CT X.ι}{x:CT.T X.toSE c}(h:fZ d.c c d.x=some x):(⟨c,x⟩:DC X)=d:=by
 obtain⟨a,y⟩:=d;have⟨e,h⟩:=lQ h;simp only at e;subst e;subst h;rfl
theorem XZ:∀{l:List (CT X.ι)}{ds:List (DC X)}{v:VT (X:=X) l},sA l ds=some v->yj l v=ds
 |[],[],_,_=>rfl
 |[c],[d],v,h=>by simp only[sA]at h;simp only[yj,afg h]
 |c::c'::l,d::ds,v,h=>by
  simp only[sA]at h;rw[aj]at h;obtain⟨x,h1,h⟩:=h;rw[aj]at h;obtain⟨v',h2,h⟩:=h;cases h;simp only[yj,afg h1,XZ h2]
 |[],_::_,_,h=>by simp[sA]at h
 |[_],[],_,h=>by simp[sA]at h
 |[_],_::_::_,_,h=>by simp[sA]at h
 |_::_::_,[],_,h=>by simp[sA]at h
theorem X0{c:CT X.ι}(x:CT.T X.toSE c):fZ c c x=some x:=by
 unfold fZ;split
 ·rfl
 ·rename_i h _;exact absurd rfl h
def Bk(d:DC X):Nat:=match fZ d.c (.int .i64) d.x with |some x=>Int.toNat x |none=>0
section
variable (dc:Nat->Nat)
mutual
def eP:Pt X.ι->List (DC X)->DV X×List (DC X)
 | .v _,L=>match L with
  |d::r=>(.c d.c d.x,r)
  |[]=>(.undef,[])
 | .o k,L=>(.own k 0 (dc k),L)
 | .p k,L=>(.ptr k 0 0,L)
 | .mp k,L=>(.mp k,L)
 | .nil,L=>(.nil,L)
 | .f F fs cs,L=>(.fn F (ia fs L).1 (ia cs (ia fs L).2).1,(ia cs (ia fs L).2).2)
 | .od k,L=>match L with
  |d::r=>(.own k (Bk d) (dc k -Bk d),r)
  |[]=>(.undef,[])
 | .a ps,L=>(.agg (ia ps L).1,(ia ps L).2)
def ia:List (Pt X.ι)->List (DC X)->List (DV X)×List (DC X)
 |[],L=>([],L)
 |p::ps,L=>((eP p L).1::(ia ps (eP p L).2).1,(ia ps (eP p L).2).2)
end
def OH:List (Nat×Pt X.ι)->List (DC X)->List (Nat×DV X)
 |[],_=>[]
 |(t,p)::r,L=>(t,(eP dc p L).1)::OH r (eP dc p L).2
def yu:List (List (Pt X.ι))->List (DC X)->List (List (DV X))×List (DC X)
 |[],L=>([],L)
 |r::rs,L=>((ia dc r L).1::(yu rs (ia dc r L).2).1,(yu rs (ia dc r L).2).2)
def dx:List (Nat×OP X.ι)->List (DC X)->List (Nat×Option (bk X))
 |[],_=>[]
 |(k,.l _)::r,L=>match L with
  |⟨.sl c',x⟩::L=>(k,some (.cY c' x))::dx r L
  |_=>[]
 |(k,.m _ _)::r,L=>match L with
  |⟨.mp kc vc,x⟩::L=>(k,some (.map kc vc x))::dx r L
  |_=>[]
 |(k,.c sz rows)::r,L=>(k,some (.cells sz (yu dc rows L).1))::dx r (yu dc rows L).2
end
def lens:List (Nat×OP X.ι)->List (DC X)->List (Nat×Nat)
 |[],_=>[]
 |(k,.l _)::r,L=>match L with
  |⟨.sl _,x⟩::L=>(k,List.length x)::lens r L
  |_=>[]
 |(_,.m _ _)::r,L=>lens r (L.drop 1)
 |(_,.c _ rows)::r,L=>lens r (L.drop (yh rows).length)
def jp:Nat->List (Pt X.ι)->List (Nat×Pt X.ι)
 |_,[]=>[]
 |n,p::ps=>(n,p)::jp (n+1) ps
theorem S9:∀(n:Nat)(ps:List (Pt X.ι)),fx (jp n ps)=cC ps
 |_,[]=>rfl
 |n,p::ps=>by simp only[jp,fx,cC,S9 (n+1) ps]
structure cM(X:SX) where
 mf:List (Pt X.ι)
 fW:List (Nat×OP X.ι)
 eC:List (Pt X.ι)
 gg:List (Nat×OP X.ι)
 fn:VT (X:=X) (cC mf++cx fW)->Option (VT (X:=X) (fx (jp 0 eC)++cx gg))
def EX(O:List (Nat×OP X.ι))(L:List (DC X))(k:Nat):Nat:=(lk (lens O L) k).getD 0
def X3(ps:List (Pt X.ι))(O:List (Nat×OP X.ι))(L:List (DC X)):List (DV X):=(ia (EX O (L.drop (cC ps).length)) ps (L.take (cC ps).length)).1
def F0(ps:List (Pt X.ι))(O:List (Nat×OP X.ι))(L:List (DC X)):List (Nat×Option (bk X)):=dx (EX O (L.drop (cC ps).length)) O (L.drop (cC ps).length)
def Bq:List (DV X)->DV X
 |[d]=>d
 |ds=> .ey ds
def dJ:List (Nat×Option (bk X))->List (Nat×bk X)
 |[]=>[]
 |(k,some o)::r=>(k,o)::dJ r
 |(_,none)::r=>dJ r
def q9(l:List (Nat×bk X)):List (Nat×aX):=l.map λp=>(p.1,bJ p.2)
def cM.args(g:cM X)(v:VT (X:=X) (cC g.mf++cx g.fW)):List (DV X):=X3 g.mf g.fW (yj _ v)
def cM.cw(g:cM X)(v:VT (X:=X) (cC g.mf++cx g.fW)):List (Nat×bk X):=dJ (F0 g.mf g.fW (yj _ v))
def cM.res(g:cM X)(r:VT (X:=X) (fx (jp 0 g.eC)++cx g.gg)):DV X:=Bq (X3 g.eC g.gg (yj _ r))
def cM.outs(g:cM X)(r:VT (X:=X) (fx (jp 0 g.eC)++cx g.gg)):List (Nat×bk X):=dJ (F0 g.eC g.gg (yj _ r))
def Ax(P:Program)(f:FuncId)(g:cM X):Prop:=∀v r,g.fn v=some r->u9 P f (bM (g.args v)) ((g.cw v).map λp=>bJ p.2) (q9 (g.outs r)) (den (g.res r))
end
inductive AT(ι:Type) where
 |d (c:CT ι)
 |ref (c:CT ι)
 |c6 (as:List (CT ι)) (r:CT ι)
 |mut (c:CT ι)
 |d6 (c:CT ι)
 |nil
 deriving DecidableEq
def AT.im{ι:Type}:AT ι->Bool
 | .mut _ | .d6 _=>true
 |_=>false
def AT.pl{ι:Type}:AT ι->Bool
 | .mut _ | .d6 _ | .nil=>false
 |_=>true
inductive RT(ι:Type) where
 |d (c:CT ι)
 |fresh (e:CT ι)
 |whole (j:Nat)
 |mu (c:CT ι)
 |mr (c:CT ι)
 |mv
def RT.out{ι:Type}:RT ι->Bool
 | .mu _ | .mr _ | .mv=>true
 |_=>false
section
variable (X:SX)
@[reducible] def AT.T:AT X.ι->Type
 | .d c=>CT.T X.toSE c
 | .ref c=>CT.T X.toSE c
 | .c6 as r=>HL X.toSE as->Option (CT.T X.toSE r)
 | .mut c=>List (CT.T X.toSE c)
 | .d6 c=>CT.T X.toSE c
 | .nil=>Unit
@[reducible] def RT.T:RT X.ι->Type
 | .d c=>CT.T X.toSE c
 | .fresh e=>List (CT.T X.toSE e)
 | .whole _=>Unit
 | .mu c=>List (CT.T X.toSE c)
 | .mr c=>CT.T X.toSE c
 | .mv=>Unit
@[reducible] def jm:List (AT X.ι)->Type
 |[]=>Unit
 |a::l=>AT.T X a×jm l
@[reducible] def uh:List (RT X.ι)->Type
 |[]=>Unit
 |[r]=>RT.T X r
 |r::r'::l=>RT.T X r×uh (r'::l)
structure bt where
 args:List (AT X.ι)
 res:List (RT X.ι)
 fn:jm X args->Option (uh X res)
 gen:Option (cM X):=none
variable {X}
def dS:Nat->(l:List (AT X.ι))->jm X l->List AV
 |_,[],_=>[]
 |n,.d c::l,a=>(CT.tv X.toSE c a.1).av::dS n l a.2
 |n,.ref c::l,a=> .du (CT.row X.toSE c a.1) 0::dS n l a.2
 |n,.c6 as r::l,a=>den (.c6 as r a.1:DV X)::dS n l a.2
 |n,.mut _::l,a=> .own n 0 (List.length a.1)::dS (n+1) l a.2
 |n,.d6 _::l,a=> .ptr n 0 0::dS (n+1) l a.2
 |n,.nil::l,a=> .cG::dS n l a.2
abbrev Br(l:List (AT X.ι))(a:jm X l):List AV:=dS 0 l a
def sS(c:CT X.ι)(l:List (CT.T X.toSE c)):fF:=(CT.sz X c,l.map (CT.row X.toSE c))
def qF:(l:List (AT X.ι))->jm X l->List fF
 |[],_=>[]
 | .mut c::l,a=>sS c a.1::qF l a.2
 | .d6 c::l,a=>sS c [a.1]::qF l a.2
 | .d _::l,a=>qF l a.2
 | .ref _::l,a=>qF l a.2
 | .c6 _ _::l,a=>qF l a.2
 | .nil::l,a=>qF l a.2
def qG:(r:RT X.ι)->RT.T X r->List (Option fF)
 | .mu c,x=>[some (sS c x)]
 | .mr c,x=>[some (sS c [x])]
 | .mv,_=>[none]
 |_,_=>[]
def nR:(l:List (RT X.ι))->uh X l->List (Option fF)
 |[],_=>[]
 |[r],x=>qG r x
 |r::r'::l,x=>qG r x.1++nR (r'::l) x.2
def sy:(r:RT X.ι)->RT.T X r->List Nat
 | .mu _,x=>[List.length x]
 | .mr _,_=>[1]
 | .mv,_=>[0]
 |_,_=>[]
def tE:(l:List (RT X.ι))->uh X l->List Nat
 |[],_=>[]
 |[r],x=>sy r x
 |r::r'::l,x=>sy r x.1++tE (r'::l) x.2
def X4(ns:List Nat):(r:RT X.ι)->RT.T X r->List RC
 | .d c,x=>[.d (CT.tv X.toSE c x)]
 | .fresh e,l=>[.fresh (CT.sz X e) (l.map (CT.row X.toSE e))]
 | .whole j,_=>[.whole j (ns.getD j 0)]
 |_,_=>[]
def EY(ns:List Nat):(l:List (RT X.ι))->uh X l->List RC
 |[],_=>[]
 |[r],x=>X4 ns r x
 |r::r'::l,x=>X4 ns r x.1++EY ns (r'::l) x.2
def uD(l:List (RT X.ι))(x:uh X l):RV:=
 match EY (tE l x) l x with
 |[c]=> .one c
 |cs=> .ey cs
def pb(P:Program)(Γ:FuncId->Option (bt X)):Prop:=
 ∀f s,Γ f=some s->kV P f/\(∀ a r,s.fn a=some r->pT P f (Br s.args a) (qF s.args a) (nR s.res r) (uD s.res r))/\∀g,s.gen=some g->Ax P f g
theorem aqi:∀{l:List (AT X.ι)},(l.all λq=>q.pl)=true->(l.all λq=>!q.im)=true:=λ{l} h=>by
 rw[all_eq_true]at h ⊢;intro q hq;have:=h q hq;cases q<;>simp_all [AT.pl,AT.im]
theorem Bt:∀{l:List (AT X.ι)}{a:jm X l},(l.all λq=>!q.im)=true->qF l a=[]
 |[],_,_=>rfl
 | .d _::l,a,h=>Bt (l:=l) (by simpa[AT.im]using h)
 | .ref _::l,a,h=>Bt (l:=l) (by simpa[AT.im]using h)
 | .c6 _ _::l,a,h=>Bt (l:=l) (by simpa[AT.im]using h)
 | .mut _::l,a,h=>by simp[AT.im]at h
 | .d6 _::l,a,h=>by simp[AT.im]at h
 | .nil::l,a,h=>Bt (l:=l) (by simpa[AT.im]using h)
theorem afi{r:RT X.ι}{x:RT.T X r}(h:(!r.out)=true):qG r x=[]:=by cases r<;>first |rfl |simp[RT.out]at h
theorem afj:∀{l:List (RT X.ι)}{x:uh X l},(l.all λq=>!q.out)=true->nR l x=[]
 |[],_,_=>rfl
 |[r],x,h=>afi (by simpa using h)
 |r::r'::l,x,h=>by
  simp only[all_cons,aD]at h;simp only[nR,afi h.1,bI];exact afj (l:=r'::l) (by simp only[all_cons,aD];exact h.2)
mutual
def bj:DV X->List Nat
 | .own k _ _=>[k]
 | .ptr k _ _=>[k]
 | .mT k _ _=>[k]
 | .oX k _ _ _ _=>[k]
 | .mp k=>[k]
 | .agg cs=>aV cs
 | .ey cs=>aV cs
 | .fn _ first caps=>aV first++aV caps
 |_=>[]
def aV:List (DV X)->List Nat
 |[]=>[]
 |x::xs=>bj x++aV xs
end
theorem Io(c:CT X.ι)(x:CT.T X.toSE c):refs (CT.tv X.toSE c x).av=[]:=by
 cases c<;>try rfl
 rename_i i;show fD ((X.row i x).map AV.t)=[];generalize X.row i x=l
 induction l with
 |nil=>rfl
 |cons y ys ih=>simp only[aF,fD,refs,ih,bI]
mutual
theorem iZ:∀x:DV X,refs (den x)=bj x
 | .c t x=>Io t x
 | .agg cs=>by simp only[den,refs,bj,iy cs]
 | .ey cs=>by simp only[den,refs,bj,iy cs]
 | .own _ _ _=>rfl
 | .ptr _ _ _=>rfl
 | .mT _ _ _=>rfl
 | .mp _=>rfl
 | .oX _ _ _ _ _=>rfl
 | .rp _ _ _=>rfl
 | .tc _ _ _ _ _=>rfl
 | .fn f first caps=>by simp only[den,refs,bj,iy first,iy caps]
 | .c6 _ _ _=>rfl
 | .raw v=>by
  simp only[den,bj,cv];split
  ·rfl
  ·split<;>rfl
 | .nil=>rfl
 | .ub=>rfl
 | .skip=>rfl
 | .undef=>rfl
theorem iy:∀l:List (DV X),fD (bM l)=aV l
 |[]=>rfl
 |x::xs=>by simp only[bM,fD,aV,iZ x,iy xs]
end
def UU(get:Nat->Option (bk X))(d:DV X)(c:CT X.ι):Option (CT.T X.toSE c×List Bool):=
 match d,c with
 | .own kk ae len,.sl e=>(get kk).bind λo=>match o with
  | .cY b l=>(fZ (.sl b) (.sl e) l).bind λ(l:List (CT.T X.toSE e))=>some (sub l ae len,[bb (sub l ae len).length len])
  |_=>none
 | .own kk ae len,.any=>(get kk).bind λo=>match o with
  | .cY b l=>some (.sl (List.map (CT.row X.toSE b) (sub l ae len)),[bb (sub l ae len).length len])
  |_=>none
 |d,c=>(Nl d c).bind λx=>some (x,[])
def zi(get:Nat->Option (bk X)):List (DV X)->(l:List (CT X.ι))->Option (HL X.toSE l×List Bool)
 |[],[]=>some ((),[])
 |d::ds,c::l=>(UU get d c).bind λx=>(zi get ds l).bind λh=>some ((x.1,h.1),x.2++h.2)
 |_,_=>none
def Bi(get:Nat->Option (bk X))(d:DV X)(i:X.ι):Option (CT.T X.toSE (.st i)×List Bool):=
 match d with
 | .agg cs=>(zi get cs (X.cQ i)).bind λh=>some (X.make i h.1,h.2)
 | .c a x=>(fZ a (.st i) x).bind λx=>some (x,[])
 |_=>none
def JQ(get:Nat->Option (bk X))(d:DV X)(c:CT X.ι):Option (CT.T X.toSE c×List Bool):=
 match c with
 | .st i=>Bi get d i
 |c=>UU get d c
def Ok(get:Nat->Option (bk X))(d:DV X)(c:CT X.ι):Option (CT.T X.toSE c):=
 match d with
 | .ptr kk row 0=>(get kk).bind λo=>match o with
  | .cells _ rows=>(rows[row]?).bind λq=>if q.all (λ x=>match x with | .c _ _=>true |_=>false)then Qk c q else none
  |_=>none
 | .rp a x 0=>fZ a c x
 |_=>none
def qt:(l l':List (AT X.ι))->jm X l->jm X l'->jm X (l++l')
 |[],_,_,b=>b
 |_::l,l',a,b=>(a.1,qt l l' a.2 b)
def hlA:(as:List (CT X.ι))->HL X.toSE as->jm X (as.map AT.d)
 |[],_=>()
 |_::l,h=>(h.1,hlA l h.2)
def qH:List (AT X.ι)->Nat
 |[]=>0
 |q::l=>(if q.im then 1 else 0)+qH l
theorem kY:∀(n:Nat)(l l':List (AT X.ι))(a:jm X l)(b:jm X l'),dS n (l++l') (qt l l' a b)=dS n l a++dS (n+qH l) l' b
 |n,[],_,_,_=>rfl
 |n,.d c::l,l',a,b=>by simp[dS,qt,kY n l l' a.2 b,qH,AT.im]
 |n,.ref c::l,l',a,b=>by simp[dS,qt,kY n l l' a.2 b,qH,AT.im]
 |n,.c6 as r::l,l',a,b=>by simp[dS,qt,kY n l l' a.2 b,qH,AT.im]
 |n,.mut c::l,l',a,b=>by simp[dS,qt,kY (n+1) l l' a.2 b,qH,AT.im,Nat.add_assoc]
 |n,.d6 c::l,l',a,b=>by simp[dS,qt,kY (n+1) l l' a.2 b,qH,AT.im,Nat.add_assoc]
 |n,.nil::l,l',a,b=>by simp[dS,qt,kY n l l' a.2 b,qH,AT.im]
theorem Ta:∀(n:Nat)(as:List (CT X.ι))(h:HL X.toSE as),dS n (as.map AT.d) (hlA as h)=(HL.k6 X.toSE as h).map TV.av
 |_,[],_=>rfl
 |n,c::l,h=>congrArg ((CT.tv X.toSE c h.1).av:: ·) (Ta n l h.2)
def UT{a b:CT X.ι}(h:a=b)(o:Option (CT.T X.toSE a)):Option (CT.T X.toSE b):=h ▸ o
def j5(get:Nat->Option (bk X))(lE:FuncId->List (DV X)->List (DV X)->(as:List (CT X.ι))->(r:CT X.ι)->Option ((HL X.toSE as->Option (CT.T X.toSE r))×List Bool)):List (DV X)->(l:List (AT X.ι))->Option (jm X l×List Bool)
 |[],[]=>some ((),[])
 |d::ds,.d c::l=>(JQ get d c).bind λx=>(j5 get lE ds l).bind λh=>some ((x.1,h.1),x.2++h.2)
 |d::ds,.ref c::l=>(Ok get d c).bind λx=>(j5 get lE ds l).bind λh=>some ((x,h.1),h.2)
 |d::ds,.c6 as r::l=>(match d with
  | .c6 as' r' φ=>if h:as'=as/\r'=r then some (λ x=>UT h.2 (φ (h.1 ▸ x)),[])else none
  | .fn f first caps=>lE f first caps as r
  |_=>none).bind λφ=>(j5 get lE ds l).bind λq=>some ((φ.1,q.1),φ.2++q.2)
 |_,_=>none
def UW(Γ:FuncId->Option (bt X))(get:Nat->Option (bk X)):Nat->List (DV X)->(l:List (AT X.ι))->Option (jm X l×List Bool)
 | 0,ds,l=>j5 get (λ _ _ _ _ _=>none) ds l
 |n+1,ds,l=>j5 get (λ f first caps as r=>(Γ f).bind λs=>match s with
   |⟨sa,[.d r'],fn,_⟩=>
    if h:r'=r/\sa=sa.take first.length++(as.map AT.d++sa.drop (first.length+as.length))then
     (UW Γ get n first (sa.take first.length)).bind λhf=>(UW Γ get n caps (sa.drop (first.length+as.length))).bind λhc=>
      some (λ x=>UT h.1 (fn (h.2 ▸ qt _ _ hf.1 (qt _ _ (hlA as x) hc.1))),hf.2++hc.2)
    else none
   |_=>none) ds l
section
variable {P:Program} {Γ:FuncId->Option (bt X)} {get:Nat->Option (bk X)} {rd:List Nat}
theorem gY{a b:List Prop}(h:∀p∈a,p)(h':∀p∈b,p):∀p∈a++b,p:=λp hp=>(bf.1 hp).elim (h p) (h' p)
theorem K6{d:DV X}{c:CT X.ι}{x:CT.T X.toSE c×List Bool}(h:UU get d c=some x)(hc:∀b∈x.2,b=true)(hrd:∀j∈bj d,j∈rd):∃hs obs,(∀ p∈obs,p)/\∀an,pQ P (dO rd (fJ get)) (den d) (hs++an)=some ((CT.tv X.toSE c x.1).av,an,obs):=by
 have base:∀{d:DV X}{c:CT X.ι}{x:CT.T X.toSE c},Nl d c=some x->∃hs obs,(∀ p∈obs,p)/\∀an,pQ P (dO rd (fJ get)) (den d) (hs++an)=some ((CT.tv X.toSE c x).av,an,obs):=by
  intro d c x h;unfold Nl at h;split at h
  ·rw[(iY h).1];refine⟨[],[],by simp,λan=>?_⟩;simp only[bI,den];cases c<;>try rfl
   rename_i j;show pQ P _ (.agg ((X.row j x).map AV.t)) an=_;have:∀(l:List Tree) (hs:List LH),mM P (dO rd (fJ get)) (l.map AV.t) hs=some (l.map AV.t,hs,[]):=by
    intro l
    induction l with
    |nil=>intro hs;rfl
    |cons y ys ih=>intro hs;simp only[aF,mM,pQ,ah,ih,bI]
   simp only[pQ,this,ah];rfl
  ·cases h;exact⟨[.emp],[],by simp,λan=>rfl⟩
  ·cases h;exact⟨[.emp],[],by simp,λan=>rfl⟩
  ·cases h
 unfold UU at h;split at h
 ·rename_i kk ae len e;rw[aj]at h;obtain⟨o,h1,h⟩:=h;split at h
  ·rename_i b l0;rw[aj]at h;obtain⟨l,h2,h⟩:=h;cases h;have h3:(sub l ae len).length=len:=(by simpa[bb]using hc (bb (sub l ae len).length len) (by simp));have⟨h4,h5⟩:=kP h2;refine⟨[.rows ((sub l ae len).map (CT.row X.toSE e))],[(((bJ (.cY b l0):aX).rows.drop ae).take len=aS ((sub l ae len).map (CT.row X.toSE e))/\((sub l ae len).map (CT.row X.toSE e)).length=len)],?_,λan=>?_⟩
   ·intro p hp;simp only[aW]at hp;subst hp;refine⟨?_,by simpa using h3⟩;simp only[bJ,h5];simp[aS,sub,map_take,map_drop]
   ·simp only[cons_append,bI,den,pQ,dU (hrd kk (by simp[bj])) h1,ah];rfl
  ·cases h
 ·rename_i kk ae len;rw[aj]at h;obtain⟨o,h1,h⟩:=h;split at h
  ·rename_i b l0;cases h;have h3:(sub l0 ae len).length=len:=(by simpa[bb]using hc (bb (sub l0 ae len).length len) (by simp));refine⟨[.rows ((sub l0 ae len).map (CT.row X.toSE b))],[(((bJ (.cY b l0):aX).rows.drop ae).take len=aS ((sub l0 ae len).map (CT.row X.toSE b))/\((sub l0 ae len).map (CT.row X.toSE b)).length=len)],?_,λan=>?_⟩
   ·intro p hp;simp only[aW]at hp;subst hp;refine⟨?_,by simpa using h3⟩;simp only[bJ];simp[aS,sub,map_take,map_drop]
   ·simp only[cons_append,bI,den,pQ,dU (hrd kk (by simp[bj])) h1,ah];rfl
  ·cases h
 ·have⟨y,h1,h⟩:=aj.1 h;cases h;exact base h1
theorem Qo:∀{ds:List (DV X)}{l:List (CT X.ι)}{h:HL X.toSE l×List Bool},zi get ds l=some h->(∀ b∈h.2,b=true)->l.all CT.one=true->(∀ j∈aV ds,j∈rd)->
 ∃hs obs,(∀ p∈obs,p)/\∀an,mM P (dO rd (fJ get)) (bM ds) (hs++an)=some ((HL.row X.toSE l h.1).map AV.t,an,obs)
 |[],[],h,_,_,_,_=>⟨[],[],by simp,λan=>rfl⟩
 |d::ds,c::l,h,hr,hc,ha,hrd=>by
  simp only[zi]at hr;have⟨x,h1,hr⟩:=aj.1 hr;have⟨g,h2,hr⟩:=aj.1 hr;cases hr;simp only[all_cons,aD]at ha;obtain⟨hs1,o1,p1,q1⟩:=K6 (P:=P) (rd:=rd) h1 (λ b hb=>hc b (by simp[hb])) (λ j hj=>hrd j (by simp[aV,hj]));obtain⟨hs2,o2,p2,q2⟩:=Qo h2 (λ b hb=>hc b (by simp[hb])) ha.2 (λ j hj=>hrd j (by simp[aV,hj]));refine⟨hs1++hs2,o1++o2,gY p1 p2,λan=>?_⟩;simp only[bM,mM,aN,q1,ah,q2];show _=some ((CT.row X.toSE c x.1++HL.row X.toSE l g.1).map AV.t,an,o1++o2);rw[map_append,<- HN ha.1 x.1];rfl
 |[],_::_,_,hr,_,_,_=>by simp[zi]at hr
 |_::_,[],_,hr,_,_,_=>by simp[zi]at hr
theorem D9{d:DV X}{c:CT X.ι}{x:CT.T X.toSE c×List Bool}(h:JQ get d c=some x)(hc:∀b∈x.2,b=true)(hrd:∀j∈bj d,j∈rd):∃hs obs,(∀ p∈obs,p)/\∀an,pQ P (dO rd (fJ get)) (den d) (hs++an)=some ((CT.tv X.toSE c x.1).av,an,obs):=by
 cases c
 case st i=>
  replace h:Bi get d i=some x:=h
  cases d
  case agg cs=>
   simp only[Bi]at h;rw[aj]at h;obtain⟨g,h1,h⟩:=h;cases h;obtain⟨hs,obs,p1,q1⟩:=Qo (P:=P) (rd:=rd) h1 hc (X.flat i) (λ j hj=>hrd j (by simpa[bj]using hj));refine⟨hs,obs,p1,λan=>?_⟩;simp only[den,pQ,q1,ah,CT.tv,TV.av];rw[X.eK]
  case c a y=>exact K6 (c:= .st i) (x:=x) (by unfold UU;exact h) hc hrd
  all_goals cases h
 all_goals exact K6 h hc hrd
theorem afk{d:DV X}{c:CT X.ι}{x:CT.T X.toSE c}(h:Ok get d c=some x)(hrd:∀j∈bj d,j∈rd):∃hs obs,(∀ p∈obs,p)/\∀an,pQ P (dO rd (fJ get)) (den d) (hs++an)=some (.du (CT.row X.toSE c x) 0,an,obs):=by
 unfold Ok at h;split at h
 ·rename_i kk row;rw[aj]at h;obtain⟨o,h1,h⟩:=h;split at h
  ·rename_i sz rows;rw[aj]at h;obtain⟨q,h2,h⟩:=h;split at h
   ·rename_i hq;refine⟨[.row (CT.row X.toSE c x)],[(bJ (.cells sz rows):aX).rows[row]? =some ((CT.row X.toSE c x).map AV.t)],?_,λan=>?_⟩
    ·intro p hp;simp only[aW]at hp;subst hp;simp only[bJ,List.getElem?_map,h2,Option.map_some];rw[<- AX h,nQ,map_map];congr 1;refine map_congr_left λy hy=>?_;have:=all_eq_true.1 hq y hy;cases y<;>first |exact(UV _).symm |simp at this
    ·simp only[cons_append,bI,den,pQ,dU (hrd kk (by simp[bj])) h1,ah]
   ·cases h
  ·cases h
 ·rename_i a y;refine⟨[],[],by simp,λan=>?_⟩;simp only[den,(iY h).2];rfl
 ·cases h
theorem ahD{n:Nat}{l l':List (AT X.ι)}(e:l=l')(b:jm X l):dS n l' (e ▸ b)=dS n l b:=by subst e;rfl
theorem F6{lE:FuncId->List (DV X)->List (DV X)->(as:List (CT X.ι))->(r:CT X.ι)->Option ((HL X.toSE as->Option (CT.T X.toSE r))×List Bool)}:∀{ds:List (DV X)}{l:List (AT X.ι)}{a:jm X l×List Bool},j5 get lE ds l=some a->(l.all λq=>!q.im)=true
 |[],[],_,_=>rfl
 |d::ds,.d c::l,a,h=>by
  simp only[j5]at h;have⟨x,h1,h⟩:=aj.1 h;have⟨q,h2,h⟩:=aj.1 h;simpa[AT.im]using F6 h2
 |d::ds,.ref c::l,a,h=>by
  simp only[j5]at h;have⟨x,h1,h⟩:=aj.1 h;have⟨q,h2,h⟩:=aj.1 h;simpa[AT.im]using F6 h2
 |d::ds,.c6 as r::l,a,h=>by
  simp only[j5]at h;have⟨x,h1,h⟩:=aj.1 h;have⟨q,h2,h⟩:=aj.1 h;simpa[AT.im]using F6 h2
 |_::_,.mut _::_,_,h=>by simp[j5]at h
 |_::_,.d6 _::_,_,h=>by simp[j5]at h
 |_::_,.nil::_,_,h=>by simp[j5]at h
 |[],_::_,_,h=>by simp[j5]at h
 |_::_,[],_,h=>by simp[j5]at h
theorem afl:∀{n:Nat}{ds:List (DV X)}{l:List (AT X.ι)}{a:jm X l×List Bool},UW Γ get n ds l=some a->(l.all λq=>!q.im)=true
 | 0,_,_,_,h=>F6 h
 |_+1,_,_,_,h=>F6 h
theorem QP:∀as:List (CT X.ι),((as.map AT.d).all λq=>!q.im)=true
 |[]=>rfl
 |_::l=>QP l
def aqj(P:Program)(get:Nat->Option (bk X))(lE:FuncId->List (DV X)->List (DV X)->(as:List (CT X.ι))->(r:CT X.ι)->Option ((HL X.toSE as->Option (CT.T X.toSE r))×List Bool)):Prop:=
 ∀f first caps as r φ rd,lE f first caps as r=some φ->(∀ b∈φ.2,b=true)->(∀ j∈aV first++aV caps,j∈rd)->∃hs obs,(∀ p∈obs,p)/\∀an,pQ P (dO rd (fJ get)) (.fn f (bM first) (bM caps)) (hs++an)=some (den (.c6 as r φ.1:DV X),an,obs)
theorem uE{n:Nat}{lE:FuncId->List (DV X)->List (DV X)->(as:List (CT X.ι))->(r:CT X.ι)->Option ((HL X.toSE as->Option (CT.T X.toSE r))×List Bool)}(tp:aqj P get lE):∀{ds:List (DV X)}{l:List (AT X.ι)}{a:jm X l×List Bool},j5 get lE ds l=some a->(∀ b∈a.2,b=true)->(∀ j∈aV ds,j∈rd)->
 ∃hs obs,(∀ p∈obs,p)/\∀an,mM P (dO rd (fJ get)) (bM ds) (hs++an)=some (dS n l a.1,an,obs)
 |[],[],_,_,_,_=>⟨[],[],by simp,λan=>rfl⟩
 |d::ds,.d c::l,a,h,hc,hrd=>by
  simp only[j5]at h;have⟨x,h1,h⟩:=aj.1 h;have⟨q,h2,h⟩:=aj.1 h;cases h;obtain⟨hs1,o1,p1,q1⟩:=D9 (P:=P) (rd:=rd) h1 (λ b hb=>hc b (by simp[hb])) (λ j hj=>hrd j (by simp[aV,hj]));obtain⟨hs2,o2,p2,q2⟩:=uE (n:=n) tp h2 (λ b hb=>hc b (by simp[hb])) (λ j hj=>hrd j (by simp[aV,hj]));refine⟨hs1++hs2,o1++o2,gY p1 p2,λan=>?_⟩;simp only[bM,mM,aN,q1,ah,q2,dS]
 |d::ds,.ref c::l,a,h,hc,hrd=>by
  simp only[j5]at h;rw[aj]at h;obtain⟨x,h1,h⟩:=h;rw[aj]at h;obtain⟨q,h2,h⟩:=h;cases h;obtain⟨hs1,o1,p1,q1⟩:=afk (P:=P) (rd:=rd) h1 (λ j hj=>hrd j (by simp[aV,hj]));obtain⟨hs2,o2,p2,q2⟩:=uE (n:=n) tp h2 hc (λ j hj=>hrd j (by simp[aV,hj]));refine⟨hs1++hs2,o1++o2,gY p1 p2,λan=>?_⟩;simp only[bM,mM,aN,q1,ah,q2,dS]
 |d::ds,.c6 as r::l,a,h,hc,hrd=>by
  simp only[j5]at h;rw[aj]at h;obtain⟨φ,h1,h⟩:=h;rw[aj]at h;obtain⟨q,h2,h⟩:=h;cases h;have hd:∃hs obs,(∀ p∈obs,p)/\∀an,pQ P (dO rd (fJ get)) (den d) (hs++an)=some (den (.c6 as r φ.1:DV X),an,obs):=by
   cases d
   case c6 as' r' ψ=>
    simp only at h1;split at h1
    ·rename_i e;obtain⟨rfl,rfl⟩:=e;cases h1;exact⟨[],[],by simp,λan=>rfl⟩
    ·cases h1
   case fn f first caps=>
    obtain⟨hs,obs,g1,g2⟩:=tp f first caps as r φ rd h1 (λ b hb=>hc b (by simp[hb])) (λ j hj=>hrd j (by simp only[aV,bj,bf]at hj ⊢;exact .inl hj))
    exact⟨hs,obs,g1,λan=>by simp only[den];exact g2 an⟩
   all_goals simp at h1
  obtain⟨hs1,o1,p1,q1⟩:=hd;obtain⟨hs2,o2,p2,q2⟩:=uE (n:=n) tp h2 (λ b hb=>hc b (by simp[hb])) (λ j hj=>hrd j (by simp[aV,hj]));refine⟨hs1++hs2,o1++o2,gY p1 p2,λan=>?_⟩;simp only[bM,mM,aN,q1,ah,q2,dS]
 |_::_,.mut _::_,_,h,_,_=>by simp[j5]at h
 |_::_,.d6 _::_,_,h,_,_=>by simp[j5]at h
 |_::_,.nil::_,_,h,_,_=>by simp[j5]at h
 |[],_::_,_,h,_,_=>by simp[j5]at h
 |_::_,[],_,h,_,_=>by simp[j5]at h
theorem tL(hΓ:pb P Γ):∀(m:Nat){n:Nat}{ds:List (DV X)}{l:List (AT X.ι)}{a:jm X l×List Bool}{rd:List Nat},UW Γ get m ds l=some a->(∀ b∈a.2,b=true)->(∀ j∈aV ds,j∈rd)->
 ∃hs obs,(∀ p∈obs,p)/\∀an,mM P (dO rd (fJ get)) (bM ds) (hs++an)=some (dS n l a.1,an,obs)
 | 0,n,ds,l,a,rd,h,hcs,hrd=>uE (λ _ _ _ _ _ _ _ h=>by cases h) h hcs hrd
 |m+1,n,ds,l,a,rd,h,hcs,hrd=>by
  refine uE (λ f first caps as r φ rd' hc hb C1=>?_) h hcs hrd;rw[aj]at hc;obtain⟨s,h1,hc⟩:=hc;split at hc
  ·rename_i sa r' fn _;split at hc
   ·rename_i e;obtain⟨rfl,e2⟩:=e;have⟨hf,h2,hc⟩:=aj.1 hc;have⟨hcap,h3,hc⟩:=aj.1 hc;injection hc with hc;rw[<- hc]at hb;obtain⟨g1,g2,_⟩:=hΓ f _ h1;obtain⟨hs1,o1,p1,q1⟩:=tL hΓ m h2 (n:=0) (rd:=rd') (λ b hb'=>hb b (by simp[hb'])) (λ j hj=>C1 j (by simp[hj]));obtain⟨hs2,o2,p2,q2⟩:=tL hΓ m h3 (n:=0+qH (sa.take first.length)+qH (as.map AT.d)) (rd:=rd') (λ b hb'=>hb b (by simp[hb'])) (λ j hj=>C1 j (by simp[hj]));refine⟨.c6 (λ ts u=>∃h x,φ.1 h=some x/\ts=HL.k6 X.toSE as h/\u=CT.tv X.toSE r' x)::(hs1++hs2),o1++(o2++[kV P f/\∀args r,(∃ h x,φ.1 h=some x/\args=HL.k6 X.toSE as h/\r=CT.tv X.toSE r' x)->pr P f (dS 0 _ hf.1++args.map TV.av++dS (0+qH (sa.take first.length)+qH (as.map AT.d)) _ hcap.1) (.one (.d r))]),?_,λan=>?_⟩
    ·intro p hp;simp only[bf,aW]at hp;rcases hp with hp |hp |hp
     ·exact p1 p hp
     ·exact p2 p hp
     ·subst hp;refine⟨g1,?_⟩;rintro args r ⟨x,y,hxy,rfl,rfl⟩;rw[<- hc]at hxy;have hxy':fn (e2 ▸ qt _ _ hf.1 (qt _ _ (hlA as x) hcap.1))=some y:=hxy;have:=g2 _ _ hxy';have hnm:(sa.all λq=>!q.im)=true:=(by rw[e2,List.all_append,List.all_append,afl h2,afl h3,QP];rfl);rw[Bt hnm,Br,ahD e2.symm,kY,kY,Ta,<- aN]at this;exact XK this
    ·simp only[cons_append,aN,pQ,q1,ah,q2];rfl
   ·cases hc
  ·cases hc
end
end
def A6(s:ByteArray)(n:Int):Option Int:=bif decide (0<=n)then(s[n.toNat]?).map λb=>(b.toNat:Int)else none
def J9(m:Int)(bytes:Nat):Bool:=decide (0<=m)&&decide (m.toNat*bytes<=140737488355328)&&decide (m.toNat<=maxLen)
def iA{K V:Type}(eq:K->K->Bool)(k:K):List (K×V)->Option V
 |[]=>none
 |p::r=>bif eq k p.1 then some p.2 else iA eq k r
def vO{K V:Type}(eq:K->K->Bool)(k:K)(v:V):List (K×V)->List (K×V)
 |[]=>[(k,v)]
 |p::r=>bif eq k p.1 then(k,v)::r else p::vO eq k v r
def mB(a b:Int):Bool:=a==b
def Iv(a b:ByteArray):Bool:=a.toList==b.toList
def mm(a b:Bool):Bool:=a==b
section
variable {X:SX} {A:Type}
def Qp:(c:CT X.ι)->Option (CT.T X.toSE c->CT.T X.toSE c->Bool)
 | .int _=>some mB
 | .str=>some Iv
 | .bool=>some mm
 |_=>none
def yW{ι:Type}:u4->CT ι->Bool
 | .int a,.int b=>decide (a=b)
 | .str,.str=>true
 | .bool,.bool=>true
 |_,_=>false
def T1{ι:Type}:CT ι->Bool
 | .st _=>true
 |_=>false
theorem iO(a b:List (DV X)):bM (a++b)=bM a++bM b:=by simp[nQ]
theorem tN(a b:List (Nat×Option (bk X))):gK (a++b)=gK a++gK b:=by simp[gK]
def Qq(ag:List Nat):List (Nat×Option (bk X)):=ag.map λj=>(j,none)
theorem F7(ag:List Nat):gK (Qq (X:=X) ag)=ag.map λk=>(k,none):=by simp[gK,Qq]
theorem MN{ag:List Nat}{p:Nat×Option (bk X)}(h:p∈Qq ag):p.1∈ag:=by
 simp only[Qq,mem_map]at h;obtain⟨j,hj,rfl⟩:=h;exact hj
variable (T:da) (aw:TypeId->Option (CT X.ι))
def PQ:DV X->Bool
 | .nil=>true
 |_=>false
def FA(op:BinOp)(b:DV X)(yes:Bool)(k:KK X A):Option A:=
 match op with
 | .eql=>bif yes then k b [] [] []else k (.c .bool false) [] [] []
 | .neq=>bif yes then k b [] [] []else k (.c .bool true) [] [] []
 |_=>none
def Mu(op:BinOp)(t:TypeId)(x:DV X)(k:KK X A):Option A:=
 (T t).bind λti=>match ti.k,x with
 | .slice _,.c (.sl _) l=>FA op .ub (List.isEmpty l) k
 | .slice _,.own _ _ len=>FA op .ub (len==0) k
 | .slice _,.nil=>FA op (.c .bool (op== .eql)) true k
 |_,_=>none
def US(s d:TypeId)(x:DV X)(k:KK X A):Option A:=
 (T s).bind λ_=>(T d).bind λdi=>match di.k,x with
 | .int kd,.c (.int _) n=>k (.c (.int kd) (kd.wrap (iN n))) [] [] []
 |_,_=>none
def WD(t:TypeId)(x j:DV X)(k:KK X A):Option A:=
 (T t).bind λti=>match ti.k,x,j with
 | .str,.c .str s,.c (.int _) n=>(A6 s n).bind λb=>k (.c (.int .u8) b) [] [] []
 | .arr m e,.agg cs,.c (.int _) q=>(T e).bind λei=>bif br q m then(K3 ei.agg ei.size ((cs.drop (q.toNat*ei.size)).take ei.size)).bind λv=>k v [] [] []else none
 |_,_,_=>none
def abN(t:TypeId)(x:DV X)(lo hi:Option (DV X))(k:KK X A):Option A:=
 (T t).bind λti=>match ti.k,x with
 | .slice e,.nil=>(T e).bind λ_=>(sB 0 lo).bind λl=>(sB 0 hi).bind λh=>bif decide (l=0)&&decide (h=0)then k .nil [] [] []else none
 |_,_=>none
def Td(i:Nat)(b:Builtin)(args:List (DV X))(cQ:List TypeId)(get:Nat->Option (bk X))(k:KK X A):Option A:=
 match b,args,cQ with
 | .cap,[.nil],[t]=>(T t).bind λti=>match ti.k with
  | .slice _=>k (.c (.int .i64) (0:Int)) [] [] []
  |_=>none
 | .clear,[.own kk ae _],[t]=>(T t).bind λti=>match ti.k with
  | .slice e=>(T e).bind λei=>(get kk).bind λo=>match o with
   | .cY c l=>if CT.sz X c=ei.size then k (.ey []) [(kk,some (.cY c (l.take ae)))] [kk] [kk]else none
   |_=>none
  |_=>none
 | .append,[.nil,.c (.int _) m],[t,u]=>(T t).bind λti=>(T u).bind λui=>match ti.k,ui.k with
  | .slice e,.int _=>(T e).bind λei=>(aw e).bind λc=>if CT.sz X c=ei.size/\0<ei.size then(Qk c (ei.zero.map qr)).bind λz=>
   bif J9 (iN m) ei.bytes then k (.own (cd i) 0 m.toNat) [(cd i,some (.cY c (List.replicate m.toNat z)))] [] []else none else none
  |_,_=>none
 |_,_,_=>none
def Te(x:DV X)(k:KK X A):Option A:=
 match x with
 | .ptr kk r f=>k (.ptr kk r f) [] [] []
 | .mT kk n f=>k (.mT kk n f) [] [] []
 | .oX kk r f m n=>k (.oX kk r f m n) [] [] []
 | .rp c y f=>k (.rp c y f) [] [] []
 |_=>none
def Of(i:Nat)(t:TypeId)(l c:DV X)(k:KK X A):Option A:=
 (T t).bind λti=>match ti.k,l,c with
 | .slice e,.c (.int _) n,.c (.int _) m=>(T e).bind λei=>(aw e).bind λc=>if CT.sz X c=ei.size/\0<ei.size then(Qk c (ei.zero.map qr)).bind λz=>
  bif decide (iN n<=iN m)&&(decide (0<=iN n)&&J9 (iN m) ei.bytes)then k (.own (cd i) 0 n.toNat) [(cd i,some (.cY c (List.replicate n.toNat z)))] [] []else none else none
 |_,_,_=>none
def X5(i:Nat)(t:TypeId)(k:KK X A):Option A:=
 (T t).bind λti=>match ti.k with
 | .map kt et=>(aw kt).bind λkc=>(aw et).bind λvc=>k (.mp (cd i)) [(cd i,some (.map kc vc []))] [] []
 |_=>none
def P4(t:TypeId)(x key:DV X)(ok:Bool)(get:Nat->Option (bk X))(k:KK X A):Option A:=
 (T t).bind λti=>match ti.k,x with
 | .map kt et,.mp kk=>(T kt).bind λki=>(T et).bind λei=>(get kk).bind λo=>match o with
  | .map kc vc l=>(Qp kc).bind λeq=>(Nl key kc).bind λkv=>if yW ki.k kc=true/\ei.agg=T1 vc/\ei.size=CT.sz X vc then(Qk vc (ei.zero.map qr)).bind λz=>
   bif ok then k (.ey [.c vc ((iA eq kv l).getD z),.c .bool (iA eq kv l).isSome]) [] [kk] []else k (.c vc ((iA eq kv l).getD z)) [] [kk] []else none
  |_=>none
 |_,_=>none
def P2(t:TypeId)(x key y:DV X)(get:Nat->Option (bk X))(k:KK X A):Option A:=
 (T t).bind λti=>match ti.k,x with
 | .map kt _,.mp kk=>(T kt).bind λki=>(get kk).bind λo=>match o with
  | .map kc vc l=>(Qp kc).bind λeq=>(Nl key kc).bind λkv=>(dat y vc).bind λv=>if yW ki.k kc=true then k .undef [(kk,some (.map kc vc (vO eq kv v l)))] [kk] [kk]else none
  |_=>none
 |_,_=>none
def aql(o:Op)(ρ:Operand->DV X):Bool:=
 match o with
 | .binOp _ _ _ y _=>PQ (ρ y)
 | .convert _ _ _=>true
 | .index _ _ _=>true
 | .nilCheck _=>true
 | .makeSlice _ _ _=>true
 | .makeMap _ none=>true
 | .lookup _ _ _ _=>true
 | .mapUpdate _ _ _ _=>true
 | .slice _ x _ _ none=>PQ (ρ x)
 | .call { callee:= .builtin b,args:=args,argTypes:=_ }=>match b,args.toList.map ρ with
  | .cap,_=>true
  | .clear,_=>true
  | .append,[_,.c (.int _) _]=>true
  |_,_=>false
 |_=>false
def Mp(i:Nat)(o:Op)(ρ:Operand->DV X)(get:Nat->Option (bk X))(k:KK X A):Option A:=
 match o with
 | .binOp op t x y _=>if PQ (ρ y)then Mu T op t (ρ x) k else none
 | .convert s d x=>US T s d (ρ x) k
 | .index t x j=>WD T t (ρ x) (ρ j) k
 | .slice t x lo hi none=>abN T t (ρ x) (lo.map ρ) (hi.map ρ) k
 | .nilCheck x=>Te (ρ x) k
 | .makeSlice t l c=>Of T aw i t (ρ l) (ρ c) k
 | .makeMap t none=>X5 T aw i t k
 | .lookup t m x ok=>P4 T t (ρ m) (ρ x) ok get k
 | .mapUpdate t m x v=>P2 T t (ρ m) (ρ x) (ρ v) get k
 | .call { callee:= .builtin b,args:=args,argTypes:=cQ }=>Td T aw i b (args.toList.map ρ) cQ.toList get k
 |_=>none
def Ft(get:Nat->Option (bk X))(c:CT X.ι)(ρ:Operand->DV X)(x:Operand):DV X:=
 match JQ get (ρ x) c with
 |some y=> .c c y.1
 |none=>ρ x
def G3(get:Nat->Option (bk X))(c:CT X.ι)(ρ:Operand->DV X):List Operand->List Bool
 |[]=>[]
 |x::xs=>(match JQ get (ρ x) c with |some y=>y.2 |none=>[])++G3 get c ρ xs
def ut(get:Nat->Option (bk X))(c:CT X.ι)(ρ:Operand->DV X):List Operand->List Nat
 |[]=>[]
 |x::xs=>(match JQ get (ρ x) c with |some _=>bj (ρ x) |none=>[])++ut get c ρ xs
def aoq(o:Op)(ρ:Operand->DV X)(get:Nat->Option (bk X)):Option (CT X.ι):=
 match o with
 | .box t _=>aw t
 | .assign x | .move x=>match ρ x with
  | .own kk _ _=>(get kk).bind λo=>match o with
   | .cY c _=>some (.sl c)
   |_=>none
  |_=>none
 | .buildSlice t _ _=>(T t).bind λti=>match ti.k with
  | .slice e=>aw e
  |_=>none
 | .store t _ _=>aw t
 |_=>none
def aqm(o:Op)(ρ:Operand->DV X):Bool:=
 match o with
 | .buildSlice _ _ parts=>!(aV (parts.toList.map λp=>ρ p.2)).isEmpty
 | .store _ a x=>match ρ a with
  | .mT _ _ _=>!(bj (ρ x)).isEmpty
  |_=>false
 |_=>false
def Mo(i:Nat)(o:Op)(ρ:Operand->DV X)(get:Nat->Option (bk X))(k:KK X A):Option A:=
 if PA o then none else(aoq T aw o ρ get).bind λc=>XO (G3 get c ρ o.operands.toList)
  (GM T aw i o (Ft get c ρ) (λ j=>if j∈ut get c ρ o.operands.toList then none else get j) λdv upd rd wr=>
   k dv (upd++Qq (ut get c ρ o.operands.toList)) (rd++ut get c ρ o.operands.toList) (wr++ut get c ρ o.operands.toList))
def aqn(o:Op)(ρ:Operand->DV X):Bool:=
 match o with
 | .indexAddr t x (.tmp _)=>match ρ x,T t with
  | .ptr _ _ _,some ti | .rp _ _ _,some ti=>match ti.k with
   | .arr _ e=>match T e with
    |some ei=>ei.size==1
    |none=>false
   |_=>false
  |_,_=>false
 | .load _ a=>match ρ a with
  | .oX _ _ _ _ _ | .tc _ _ _ _ _=>true
  |_=>false
 |_=>false
def Ab(c:CT X.ι):List (DV X)->Option (List (CT.T X.toSE c))
 |[]=>some []
 | .c a x::r=>(fZ a c x).bind λy=>(Ab c r).bind λl=>some (y::l)
 |_=>none
def Mm(o:Op)(ρ:Operand->DV X)(get:Nat->Option (bk X))(k:KK X A):Option A:=
 match o with
 | .indexAddr t x j=>(T t).bind λti=>match ti.k,ρ x,ρ j with
  | .arr m e,.ptr kk row ae,.c (.int _) n=>(T e).bind λei=>if ei.size=1 then bif br n m then k (.oX kk row ae m n) [] [] []else none else none
  | .arr m e,.rp c y ae,.c (.int _) n=>(T e).bind λei=>if ei.size=1 then bif br n m then k (.tc c y ae m n) [] [] []else none else none
  |_,_,_=>none
 | .load t a=>(T t).bind λti=>match ρ a with
  | .oX kk row ae m n=>if ti.size=1/\ti.agg=false then(aw t).bind λc=>if c.one=true then(get kk).bind λo=>match o with
   | .cells _ rows=>(rows[row]?).bind λq=>(Ab c ((q.drop ae).take m)).bind λ(xs:List (CT.T X.toSE c))=>(bh xs n).bind λy=>k (.c c y) [] [kk] []
   | .cY b l=>if row=0/\b.one=true then(nt l ae n).bind λy=>k (.c b y) [] [kk] []else none
   |_=>none
   else none else none
  | .tc b y ae m n=>if ti.size=1/\ti.agg=false then(aw t).bind λc=>if c.one=true then(Ab c (((wH b y).drop ae).take m)).bind λ(xs:List (CT.T X.toSE c))=>(bh xs n).bind λy=>k (.c c y) [] [] []
   else none else none
  |_=>none
 |_=>none
variable {T aw}
def cF(P:Program)(T:da)(i:Nat)(o:Oper)(ρ:Operand->DV X)(get:Nat->Option (bk X))(k:KK X A)(r:A):Prop:=
 ∃b8 rd wr dv upd aa,jI P T i o b8 (λ x=>den (ρ x)) (dO rd (fJ get))=some aa/\jV aa.obs/\aa.v=den dv/\aa.upd=gK upd/\(∀ p∈upd,p.1=cd i\/p.1∈wr)/\k dv upd rd wr=some r
section
variable {P:Program} {get:Nat->Option (bk X)} {k:KK X A} {r:A} {i:Nat} {o:Oper} {ρ:Operand->DV X}
theorem amJ{t:TypeId}{x:AV}{b8:fY}(h:(∃ n,b8= .ext n)\/∃ag fr q,b8= .tx ag fr q):uB T t x .none=uB T t x b8:=by
 unfold uB;cases T t with
 |none=>rfl
 |some ti=>
  simp only[ah];generalize ti.k=kk;rcases h with ⟨n,rfl⟩ |⟨ag,fr,q,rfl⟩<;>cases kk<;>try rfl
  all_goals cases x<;>try rfl
  all_goals (rename_i y;cases y<;>try rfl)
  all_goals (rename_i y;cases y<;>rfl)
theorem X6{t:TypeId}{x j:AV}{b8:fY}{get:Nat->Option aX}(h:(∃ n,b8= .ext n)\/∃ag fr q,b8= .tx ag fr q):lN T t x j .none get=lN T t x j b8 get:=by
 unfold lN;cases T t with
 |none=>rfl
 |some ti=>
  simp only[ah];generalize ti.k=kk;cases kk<;>try rfl
  case arr m e=>
   cases j<;>try rfl
   rename_i y;cases y<;>try rfl
   rename_i y;cases y<;>rfl
  cases j<;>try rfl
  rename_i e y;cases y<;>try rfl
  rename_i y;cases y<;>try rfl
  simp only;cases T e with
  |none=>rfl
  |some ei=>
   simp only[ah];rcases h with ⟨n,rfl⟩ |⟨ag,fr,q,rfl⟩<;>cases x<;>try rfl
   all_goals (rename_i z;cases z<;>rfl)
theorem afn{t:TypeId}{x y:AV}{b8:fY}{get:Nat->Option aX}(h:(∃ n,b8= .ext n)\/∃ag fr q,b8= .tx ag fr q):DZ T i t x y .none get=DZ T i t x y b8 get:=by
 unfold DZ;rcases h with ⟨n,rfl⟩ |⟨ag,fr,q,rfl⟩<;>rfl
theorem akA{b8:fY}{ρ:Operand->AV}{get:Nat->Option aX}(h:(∃ n,b8= .ext n)\/∃ag fr q,b8= .tx ag fr q):qz T i o .none ρ get=qz T i o b8 ρ get:=by
 obtain⟨dst,op,ty,aE,after,guard⟩:=o;cases op
 case call c=>
  obtain⟨callee,args,cQ⟩:=c;cases callee<;>try rfl
  rename_i b;simp only[qz,FZ];split
  ·exact amJ h
  ·rfl
  ·rfl
  ·rw[afn h]
  ·rfl
 case slice t x lo hi mx=>cases mx<;>rcases h with ⟨n,rfl⟩ |⟨ag,fr,q,rfl⟩<;>rfl
 case makeFunc fn a b=>cases fn<;>rfl
 case indexAddr t x j=>exact X6 h
 all_goals (rcases h with ⟨n,rfl⟩ |⟨ag,fr,q,rfl⟩<;>rfl)
theorem cF.ext{n:Int}{rd wr:List Nat}{dv:DV X}{upd:List (Nat×Option (bk X))}{aa:Out}(h:oC T i o n (λ x=>den (ρ x)) (dO rd (fJ get))=some aa)(h1:jV aa.obs)(h2:aa.v=den dv)(h3:aa.upd=gK upd)(h4:∀p∈upd,p.1=cd i\/p.1∈wr)(h5:k dv upd rd wr=some r)(hx:AE o.op=false:=by rfl):cF P T i o ρ get k r:=
 ⟨.ext n,rd,wr,dv,upd,aa,by show pR T i o n _ _=some aa;unfold pR;rw[hx];simp only[ai,ak,h],h1,h2,h3,h4,h5⟩
theorem cF.rN{n:Int}{rd wr:List Nat}{dv:DV X}{upd:List (Nat×Option (bk X))}{aa:Out}(h:Ij T i o n (λ x=>den (ρ x)) (dO rd (fJ get))=some aa)(h1:jV aa.obs)(h2:aa.v=den dv)(h3:aa.upd=gK upd)(h4:∀p∈upd,p.1=cd i\/p.1∈wr)(h5:k dv upd rd wr=some r)(hx:AE o.op=true:=by rfl):cF P T i o ρ get k r:=
 ⟨.ext n,rd,wr,dv,upd,aa,by show pR T i o n _ _=some aa;unfold pR;rw[hx];simp only[ai,ak,h],h1,h2,h3,h4,h5⟩
theorem cF.na{n:Int}{rd wr:List Nat}{dv:DV X}{upd:List (Nat×Option (bk X))}{aa:Out}(h:kW T i o n (λ x=>den (ρ x)) (dO rd (fJ get))=some aa)(h1:jV aa.obs)(h2:aa.v=den dv)(h3:aa.upd=gK upd)(h4:∀p∈upd,p.1=cd i\/p.1∈wr)(h5:k dv upd rd wr=some r)(hx:AE o.op=false)(h0:oC T i o n (λ x=>den (ρ x)) (dO rd (fJ get))=none):cF P T i o ρ get k r:=
 ⟨.ext n,rd,wr,dv,upd,aa,by show pR T i o n _ _=some aa;unfold pR;rw[hx];simp only[ak,h0,h],h1,h2,h3,h4,h5⟩
theorem VD{x:DV X}(h:Te x k=some r):∃dv,SA (den x)=some ⟨den dv,[],[]⟩/\k dv [] [] []=some r:=by cases x<;>simp only[Te]at h<;>first |cases h |exact⟨_,rfl,h⟩
theorem abO{b8:fY}{ρ:Operand->AV}{get:Nat->Option aX}(hne:∀f args cQ,o.op≠ .call { callee:= .value f,args:=args,argTypes:=cQ })(ho:∀n,b8≠ .ext n)(hf:∀ag fr q,b8≠ .tx ag fr q):jI P T i o b8 ρ get=qz T i o b8 ρ get:=by
 have e:∀(α:Type) (a:Operand->Array Operand->Array TypeId->α) (b:α),(match o.op with | .call { callee:= .value f,args:=args,argTypes:=cQ }=>a f args cQ |_=>b)=b:=by
  intro α a b;split
  ·rename_i f args cQ heq;exact(hne f args cQ heq).elim
  ·rfl
 cases b8<;>first |exact(ho _ rfl).elim |exact(hf _ _ _ rfl).elim |exact e _ _ _
theorem cF.op{b8:fY}{rd wr:List Nat}{dv:DV X}{upd:List (Nat×Option (bk X))}{aa:Out}(hne:∀f args cQ,o.op≠ .call { callee:= .value f,args:=args,argTypes:=cQ })
 (h:qz T i o b8 (λ x=>den (ρ x)) (dO rd (fJ get))=some aa) (h1:jV aa.obs/\aa.v=den dv/\aa.upd=gK upd/\(∀ p∈upd,p.1=cd i\/p.1∈wr)/\k dv upd rd wr=some r):cF P T i o ρ get k r:=by
 obtain⟨rj,h'⟩:∃rj,jI P T i o rj (λ x=>den (ρ x)) (dO rd (fJ get))=some aa:=by
  by_cases hx:(∃ n,b8= .ext n)\/∃ag fr q,b8= .tx ag fr q
  ·refine⟨.none,?_⟩;rw[abO hne (by simp) (by simp),akA hx,h]
  ·simp only[not_or,not_exists]at hx;exact⟨b8,by rw[abO hne hx.1 (λ ag fr q=>hx.2 ag fr q),h]⟩
 exact⟨rj,rd,wr,dv,upd,aa,h',h1⟩
theorem cF.call{dst:Option Tmp}{f:Operand}{args:Array Operand}{cQ:Array TypeId}{ty:TypeId}{aE:String}{after:Array Edge}{guard:Option (Nat×Bool)}{b8:fY}{rd wr:List Nat}{dv:DV X}{upd:List (Nat×Option (bk X))}{aa:Out}
 (h:jZ P i (den (ρ f)) (args.toList.map λx=>den (ρ x)) b8 (dO rd (fJ get))=some aa) (h1:jV aa.obs/\aa.v=den dv/\aa.upd=gK upd/\(∀ p∈upd,p.1=cd i\/p.1∈wr)/\k dv upd rd wr=some r):
 cF P T i ⟨dst,.call { callee:= .value f,args:=args,argTypes:=cQ },ty,aE,after,guard⟩ ρ get k r:=by
 refine⟨b8,rd,wr,dv,upd,aa,?_,h1⟩;unfold jI;split
 ·unfold jZ oW z8 at h;simp only at h;split at h<;>first |cases h |(rename_i e;cases e)
 ·unfold jZ oW z8 at h;simp only at h;split at h<;>first |cases h |(rename_i e;cases e)
 ·exact h
theorem Tf{op:BinOp}{b:DV X}{yes:Bool}(h:FA op b yes k=some r):∃dv aa,AF op (den b) yes=some aa/\jV aa.obs/\aa.v=den dv/\aa.upd=[]/\k dv [] [] []=some r:=by
 unfold FA at h;split at h
 ·cases yes with
  |true=>exact⟨b,_,rfl,trivial,rfl,rfl,h⟩
  |false=>exact⟨.c .bool false,_,rfl,trivial,rfl,rfl,h⟩
 ·cases yes with
  |true=>exact⟨b,_,rfl,trivial,rfl,rfl,h⟩
  |false=>exact⟨.c .bool true,_,rfl,trivial,rfl,rfl,h⟩
 ·cases h
theorem ahG{op:BinOp}{t:TypeId}{x:DV X}(h:Mu T op t x k=some r):∃dv aa,tM T op t (den x) .cG=some aa/\jV aa.obs/\aa.v=den dv/\aa.upd=[]/\k dv [] [] []=some r:=by
 unfold Mu at h;rw[aj]at h;obtain⟨ti,h1,h⟩:=h;split at h
 ·rename_i e c l hk;have⟨dv,aa,g1,g2⟩:=Tf h;refine⟨dv,aa,?_,g2⟩;simp only[tM,h1,ah,hk,den,CT.tv,TV.av];rw[<- g1];congr 1;cases l<;>rfl
 ·rename_i e kk ae len hk;have⟨dv,aa,g1,g2⟩:=Tf h;exact⟨dv,aa,by simp only[tM,h1,ah,hk,den];exact g1,g2⟩
 ·rename_i e hk;have⟨dv,aa,g1,g2⟩:=Tf h;exact⟨dv,aa,by simp only[tM,h1,ah,hk,den];exact g1,g2⟩
 ·cases h
theorem ahH{s:ByteArray}{n b:Int}(h:A6 s n=some b):0<=n/\∃c,s[n.toNat]? =some c/\b=c.toNat:=by
 unfold A6 at h;by_cases hn:0<=n
 ·simp only[hn,decide_true,ai,fq]at h;obtain⟨c,h1,h2⟩:=h;exact⟨hn,c,h1,h2.symm⟩
 ·simp[hn]at h
theorem abP{m:Int}{bytes:Nat}(h:J9 m bytes=true):0<=m/\m.toNat*bytes<=140737488355328/\m.toNat<=maxLen:=by simpa[J9,and_assoc]using h
theorem VE{b:Builtin}{args:List (DV X)}{cQ:List TypeId}(h:Td T aw i b args cQ get k=some r):
 ∃rd wr dv upd aa,wD T i b (bM args) cQ (dO rd (fJ get))=some aa/\jV aa.obs/\aa.v=den dv/\aa.upd=gK upd/\(∀ p∈upd,p.1=cd i\/p.1∈wr)/\k dv upd rd wr=some r:=by
 unfold Td at h;split at h
 ·rename_i t;rw[aj]at h;obtain⟨ti,h1,h⟩:=h;split at h
  ·rename_i e hk;refine⟨[],[],_,[],⟨.t (.sc (.int .i64 0)),[],[]⟩,?_,trivial,rfl,rfl,by simp,h⟩;simp only[wD,bM,den,h1,ah,hk];rfl
  ·cases h
 ·rename_i kk ae len t;rw[aj]at h;obtain⟨ti,h1,h⟩:=h;split at h
  ·rename_i e hk;rw[aj]at h;obtain⟨ei,h2,h⟩:=h;rw[aj]at h;obtain⟨o,h3,h⟩:=h;split at h
   ·rename_i c l;split at h
    ·rename_i hs;refine⟨[kk],[kk],_,_,⟨.ey [],[(kk,some ⟨CT.sz X c,(aS (l.map (CT.row X.toSE c))).take ae⟩)],[]⟩,?_,trivial,rfl,?_,by simp,h⟩
     ·simp only[wD,bM,den,h1,ah,hk,h2,dU (List.mem_singleton_self kk) h3,bJ];rw[aP hs]
     ·simp[gK,bJ,aS,map_take]
    ·cases h
   ·cases h
  ·cases h
 ·rename_i kd m t u;rw[aj]at h;obtain⟨ti,h1,h⟩:=h;rw[aj]at h;obtain⟨ui,h2,h⟩:=h;split at h
  ·rename_i e kn hk hk';rw[aj]at h;obtain⟨ei,h3,h⟩:=h;rw[aj]at h;obtain⟨c,h4,h⟩:=h;split at h
   ·rename_i hs;have⟨z,h5,h⟩:=aj.1 h;have⟨h6,h⟩:=dN h;have⟨m1,m2,m3⟩:=abP h6;have hz:=AX h5;rw[Bl]at hz;refine⟨[],[],_,_,⟨.own (cd i) 0 m.toNat,[(cd i,some ⟨ei.size,dX (List.replicate m.toNat (ei.zero.map cv))⟩)],[0<=m/\m.toNat*ei.bytes<=140737488355328/\m.toNat<=maxLen/\0<ei.size]⟩,?_,?_,rfl,?_,by simp,h⟩
    ·simp only[wD,bM,den,CT.tv,TV.av,h1,h2,h3,ah,hk,hk']
    ·exact⟨m1,m2,m3,hs.2⟩
    ·simp only[gK,aF,map_nil,Option.map_some,bJ,hs.1,aS,dX,List.map_replicate];rw[hz]
   ·cases h
  ·cases h
 ·cases h
theorem afo{t:TypeId}{l c:DV X}(h:Of T aw i t l c k=some r):∃dv upd aa,Ge T i t (den l) (den c)=some aa/\jV aa.obs/\aa.v=den dv/\aa.upd=gK upd/\(∀ p∈upd,p.1=cd i)/\k dv upd [] []=some r:=by
 unfold Of at h;rw[aj]at h;obtain⟨ti,h1,h⟩:=h;split at h
 ·rename_i e kl n kc m hk;rw[aj]at h;obtain⟨ei,h3,h⟩:=h;rw[aj]at h;obtain⟨c,h4,h⟩:=h;split at h
  ·rename_i hs;have⟨z,h5,h⟩:=aj.1 h;have⟨h6,h⟩:=dN h;simp only[aD,aG]at h6;obtain⟨h7,h8,h9⟩:=h6;have⟨m1,m2,m3⟩:=abP h9;have hz:=AX h5;rw[Bl]at hz;refine⟨_,_,⟨.own (cd i) 0 n.toNat,[(cd i,some ⟨ei.size,dX (List.replicate n.toNat (ei.zero.map cv))⟩)],[0<=n/\n<=m/\m.toNat*ei.bytes<=140737488355328/\m.toNat<=maxLen/\0<ei.size]⟩,?_,?_,rfl,?_,by simp,h⟩
   ·simp only[Ge,den,CT.tv,TV.av,h1,h3,ah,hk]
   ·exact⟨h8,h7,m2,m3,hs.2⟩
   ·simp only[gK,aF,map_nil,Option.map_some,bJ,hs.1,aS,dX,List.map_replicate];rw[hz]
  ·cases h
 ·cases h
theorem X7{t:TypeId}(h:X5 T aw i t k=some r):∃dv upd aa,KV T i t=some aa/\jV aa.obs/\aa.v=den dv/\aa.upd=gK upd/\(∀ p∈upd,p.1=cd i)/\k dv upd [] []=some r:=by
 unfold X5 at h;rw[aj]at h;obtain⟨ti,h1,h⟩:=h;split at h
 ·rename_i kt et hk;have⟨kc,h2,h⟩:=aj.1 h;have⟨vc,h3,h⟩:=aj.1 h;exact⟨_,_,⟨.mp (cd i),[(cd i,some ⟨0,[]⟩)],[]⟩,by simp only[KV,h1,ah,hk],trivial,rfl,rfl,by simp,h⟩
 ·cases h
theorem Wr{ki:ky}{kc:CT X.ι}(h:yW ki.k kc=true)(x:CT.T X.toSE kc):∃v,(CT.tv X.toSE kc x).av= .t (.sc v)/\P8 ki.k v=true:=by
 cases kc
 case int b=>
  refine⟨.int b x,rfl,?_⟩;cases hk:ki.k<;>rw[hk]at h<;>simp only[yW,aG,Bool.false_eq_true]at h;subst h;simp[P8]
 case str=>
  refine⟨.string x,rfl,?_⟩;cases hk:ki.k<;>rw[hk]at h<;>simp only[yW,Bool.false_eq_true]at h;rfl
 case bool=>
  refine⟨.bool x,rfl,?_⟩;cases hk:ki.k<;>rw[hk]at h<;>simp only[yW,Bool.false_eq_true]at h;rfl
 all_goals (cases hk:ki.k<;>rw[hk]at h<;>simp[yW]at h)
theorem afp{kc:CT X.ι}{eq:CT.T X.toSE kc->CT.T X.toSE kc->Bool}(h:Qp kc=some eq){a b:CT.T X.toSE kc}{va:Value}(ha:(CT.tv X.toSE kc a).av= .t (.sc va)):∃vb,(CT.tv X.toSE kc b).av= .t (.sc vb)/\UE va vb=some (eq a b):=by
 cases kc
 case int q=>
  simp only[Qp,aC]at h;subst h;simp only[CT.tv,TV.av,AV.t.injEq,Tree.sc.injEq]at ha;subst ha;exact⟨_,rfl,by simp[UE,mB]⟩
 case str=>
  simp only[Qp,aC]at h;subst h;simp only[CT.tv,TV.av,AV.t.injEq,Tree.sc.injEq]at ha;subst ha;exact⟨_,rfl,by simp[UE,Iv]⟩
 case bool=>
  simp only[Qp,aC]at h;subst h;simp only[CT.tv,TV.av,AV.t.injEq,Tree.sc.injEq]at ha;subst ha;exact⟨_,rfl,by simp[UE,mm]⟩
 all_goals simp[Qp]at h
theorem abQ{kc vc:CT X.ι}{eq:CT.T X.toSE kc->CT.T X.toSE kc->Bool}(h:Qp kc=some eq){a:CT.T X.toSE kc}{va:Value}(ha:(CT.tv X.toSE kc a).av= .t (.sc va)):∀l:List (CT.T X.toSE kc×CT.T X.toSE vc),
 ∃r,UF va (bJ (.map kc vc l:bk X)).rows=some r/\r.map (·.2)=(iA eq a l).map λv=>(CT.tv X.toSE vc v).av
 |[]=>⟨none,rfl,rfl⟩
 |p::l=>by
  have⟨vb,h1,h2⟩:=afp h (b:=p.1) ha;have⟨r,g1,g2⟩:=abQ h ha l;have g1':UF va (l.map λp=>[(CT.tv X.toSE kc p.1).av,(CT.tv X.toSE vc p.2).av])=some r:=g1;simp only[bJ,aF,h1,UF,h2,ah,iA];cases eq a p.1 with
  |true=>exact⟨_,rfl,rfl⟩
  |false=>
   simp only[Bool.false_eq_true,if_false,g1',Option.map_some,ak];exact⟨_,rfl,by rw[<- g2,Option.map_map];rfl⟩
theorem afq{kc vc:CT X.ι}{eq:CT.T X.toSE kc->CT.T X.toSE kc->Bool}(h:Qp kc=some eq){a:CT.T X.toSE kc}{va:Value}(ha:(CT.tv X.toSE kc a).av= .t (.sc va))(y:CT.T X.toSE vc):∀l:List (CT.T X.toSE kc×CT.T X.toSE vc),
 tS va (CT.tv X.toSE vc y).av (bJ (.map kc vc l:bk X)).rows=some (bJ (.map kc vc (vO eq a y l):bk X)).rows
 |[]=>by simp only[bJ,map_nil,tS,vO,aF,ha]
 |p::l=>by
  have⟨vb,h1,h2⟩:=afp h (b:=p.1) ha;have g:=afq h ha y l;have g':tS va (CT.tv X.toSE vc y).av (l.map λp=>[(CT.tv X.toSE kc p.1).av,(CT.tv X.toSE vc p.2).av])=some ((vO eq a y l).map λp=>[(CT.tv X.toSE kc p.1).av,(CT.tv X.toSE vc p.2).av]):=g;simp only[bJ,aF,h1,tS,h2,ah,vO];cases eq a p.1 with
  |true=>simp only[if_true,ai,aF,ha]
  |false=>simp only[Bool.false_eq_true,if_false,g',Option.map_some,ak,aF,h1]
theorem zero_den{vc:CT X.ι}{ei:ky}{z:CT.T X.toSE vc}(h:Qk vc (ei.zero.map qr)=some z)(ha:ei.agg=T1 vc)(hs:ei.size=CT.sz X vc):part' ei.agg ei.size ((ei.zero.map cv).map wk)=some (CT.tv X.toSE vc z).av:=by
 have hz:=AX h;rw[Bl]at hz;rw[hz,ha,hs];have hl:((CT.row X.toSE vc z).map AV.t).length=CT.sz X vc:=by rw[length_map,Bh]
 unfold part';rw[aP hl];cases vc<;>rfl
theorem aor{d:DV X}{c:CT X.ι}{x:CT.T X.toSE c}(h:dat d c=some x):zt (den d)=(CT.tv X.toSE c x).av:=by
 cases c
 case st j=>
  replace h:yp d j=some x:=h
  cases d
  case agg cs=>
   simp only[yp]at h;rw[aj]at h;obtain⟨g,h1,h⟩:=h;cases h;simp only[den,zt,(Bp h1 (X.flat j)).1];rw[<- XT];rfl
  case c a y=>
   replace h:fZ a (.st j) y=some x:=h
   rw[(iY h).1];simp only[den,CT.tv,TV.av,zt,map_map];congr 1
  all_goals cases h
 all_goals
  (have h':Nl d _=some x:=h
   have hd:=yc h';cases d
   case agg=>cases h
   case c a y=>
    obtain⟨e,_⟩:=lQ (show fZ a _ y=some x from h);subst e;exact hd
   all_goals first |exact hd |(cases h))
theorem aaq{t:TypeId}{x key:DV X}{ok:Bool}(h:P4 T t x key ok get k=some r):∃rd dv aa,MJ T t (den x) (den key) ok (dO rd (fJ get))=some aa/\jV aa.obs/\aa.v=den dv/\aa.upd=[]/\k dv [] rd []=some r:=by
 unfold P4 at h;rw[aj]at h;obtain⟨ti,h1,h⟩:=h;split at h
 ·rename_i kt et kk hk;rw[aj]at h;obtain⟨ki,h2,h⟩:=h;rw[aj]at h;obtain⟨ei,h3,h⟩:=h;rw[aj]at h;obtain⟨o,h4,h⟩:=h;split at h
  ·rename_i kc vc l;rw[aj]at h;obtain⟨eq,h5,h⟩:=h;rw[aj]at h;obtain⟨kv,h6,h⟩:=h;split at h
   ·rename_i hc;have⟨z,h7,h⟩:=aj.1 h;have⟨va,g1,g2⟩:=Wr hc.1 kv;have⟨q,g3,g4⟩:=abQ (vc:=vc) h5 g1 l;have hkey:den key= .t (.sc va):=by
     have:=yc h6;rw[g1]at this;cases hd:den key<;>rw[hd]at this<;>simp only[wk,AV.t.injEq,reduceCtorEq]at this;subst this;rfl
    have hv:∀q:Option (Nat×AV),q.map (·.2)=(iA eq kv l).map (λ v=>(CT.tv X.toSE vc v).av)->GG q (part' ei.agg ei.size ((ei.zero.map cv).map wk))=some (CT.tv X.toSE vc ((iA eq kv l).getD z)).av:=by
     intro q g;cases hm:iA eq kv l with
     |none=>
      rw[hm]at g;cases q with
      |none=>exact zero_den h7 hc.2.1 hc.2.2
      |some p=>simp at g
     |some v=>
      rw[hm]at g;cases q with
      |none=>simp at g
      |some p=>simp only[Option.map_some,aC]at g;simp only[GG,g,Option.getD_some]
    have hi:q.isSome=(iA eq kv l).isSome:=by
     have:=congrArg Option.isSome g4;simpa using this
    have hb:MJ T t (den (.mp kk:DV X)) (den key) ok (dO [kk] (fJ get))=pv (if ok then .ey [den (.c vc ((iA eq kv l).getD z):DV X),.t (.sc (.bool q.isSome))]else den (.c vc ((iA eq kv l).getD z):DV X)):=by
     simp only[MJ,h1,ah,hk,den,hkey,h2,h3,dU (List.mem_singleton_self kk) h4];rw[aP ⟨g2,by simp[bJ]⟩];rw[g3,ah,hv q g4,ah]
    cases ok with
    |true=>exact⟨[kk],_,_,hb,trivial,by simp only[if_true,den,bM,hi];rfl,rfl,h⟩
    |false=>exact⟨[kk],_,_,hb,trivial,rfl,rfl,h⟩
   ·cases h
  ·cases h
 ·cases h
theorem aar{t:TypeId}{x key y:DV X}(h:P2 T t x key y get k=some r):∃rd wr dv upd aa,P9 T t (den x) (den key) (den y) (dO rd (fJ get))=some aa/\jV aa.obs/\aa.v=den dv/\aa.upd=gK upd/\(∀ p∈upd,p.1∈wr)/\k dv upd rd wr=some r:=by
 unfold P2 at h;rw[aj]at h;obtain⟨ti,h1,h⟩:=h;split at h
 ·rename_i kt et kk hk;rw[aj]at h;obtain⟨ki,h2,h⟩:=h;rw[aj]at h;obtain⟨o,h4,h⟩:=h;split at h
  ·rename_i kc vc l;rw[aj]at h;obtain⟨eq,h5,h⟩:=h;rw[aj]at h;obtain⟨kv,h6,h⟩:=h;rw[aj]at h;obtain⟨v,h7,h⟩:=h;split at h
   ·rename_i hc;have⟨va,g1,g2⟩:=Wr hc kv;have g3:=afq (vc:=vc) h5 g1 v l;have hkey:den key= .t (.sc va):=by
     have:=yc h6;rw[g1]at this;cases hd:den key<;>rw[hd]at this<;>simp only[wk,AV.t.injEq,reduceCtorEq]at this;subst this;rfl
    refine⟨[kk],[kk],_,_,⟨.undef,[(kk,some ⟨(bJ (.map kc vc (vO eq kv v l):bk X)).rows.length,(bJ (.map kc vc (vO eq kv v l):bk X)).rows⟩)],[]⟩,?_,trivial,rfl,?_,by simp,h⟩
    ·simp only[P9,h1,ah,hk,den,hkey,h2,dU (List.mem_singleton_self kk) h4];rw[aP ⟨g2,by simp[bJ]⟩,aor h7,g3];rfl
    ·simp[gK,bJ]
   ·cases h
  ·cases h
 ·cases h
theorem ahI(h:Mp T aw i o.op ρ get k=some r):cF P T i o ρ get k r:=by
 obtain⟨dst,op,ty,aE,after,guard⟩:=o;unfold Mp at h;simp only at h;split at h
 ·rename_i op t x y q;split at h
  ·rename_i hn;have⟨dv,aa,g1,g2,g3,g4,g5⟩:=ahG h;have hy:den (ρ y)= .cG:=(by cases hρ:ρ y<;>rw[hρ]at hn<;>first |rfl |cases hn);exact cF.ext (n:=0) (rd:=[]) (wr:=[]) (upd:=[]) (by simp only[oC,hy];exact g1) g2 g3 g4 (by simp) g5
  ·cases h
 ·rename_i s d x;unfold US at h;rw[aj]at h;obtain⟨si,h1,h⟩:=h;rw[aj]at h;obtain⟨di,h2,h⟩:=h;split at h
  ·rename_i kd k' n hk hx;refine cF.ext (n:=0) (rd:=[]) (wr:=[]) (upd:=[]) (aa:=⟨.t (.sc (.int kd (kd.wrap n))),[],[]⟩) ?_ trivial rfl rfl (by simp) h;simp only[oC,HG,h1,h2,ah,hk,hx];rfl
  ·cases h
 ·rename_i t x j;unfold WD at h;rw[aj]at h;obtain⟨ti,h1,h⟩:=h;split at h
  ·rename_i s kk n hk hx hj;rw[aj]at h;obtain⟨b,h2,h⟩:=h;refine cF.ext (n:=b) (rd:=[]) (wr:=[]) (upd:=[]) (aa:=⟨.t (.sc (.int .u8 b)),[],[0<=n/\∃c,s[n.toNat]? =some c/\b=c.toNat]⟩) ?_ (ahH h2) rfl rfl (by simp) h;simp only[oC,Xr,h1,ah,hk,hx,hj];rfl
  ·rename_i m e cs kd q hk hx hj;rw[aj]at h;obtain⟨ei,h2,h⟩:=h;have⟨h3,h⟩:=dN h;rw[aj]at h;obtain⟨v,h4,h⟩:=h;simp only[br,aD,aG]at h3;refine cF.ext (n:=0) (rd:=[]) (wr:=[]) (upd:=[]) (aa:=⟨den v,[],[0<=q/\q<(m:Int)]⟩) ?_ h3 rfl rfl (by simp) h;have h5:=F5 h4;rw[j4]at h5;simp only[oC,Xr,h1,ah,hk,hx,hj,h2,den,CT.tv,TV.av,h5];rfl
  ·cases h
 ·rename_i t x lo hi;unfold abN at h;rw[aj]at h;obtain⟨ti,h1,h⟩:=h;split at h
  ·rename_i e hk hx;rw[aj]at h;obtain⟨ei,h2,h⟩:=h;rw[aj]at h;obtain⟨l,h3,h⟩:=h;rw[aj]at h;obtain⟨hh,h4,h⟩:=h;have⟨h5,h⟩:=dN h;refine cF.ext (n:=0) (rd:=[]) (wr:=[]) (upd:=[]) (aa:=⟨.cG,[],[l=0/\hh=0]⟩) ?_ (show l=0/\hh=0 by simpa using h5) rfl rfl (by simp) h;have e1:=yg h3;have e2:=yg h4;rw[Option.map_map]at e1 e2;simp only[oC,F4,h1,ah,hk,hx,h2,den];have GW:bnd 0 (lo.map λx=>den (ρ x))=some l:=e1;have e2':bnd 0 (hi.map λx=>den (ρ x))=some hh:=e2;rw[GW,ah,e2'];rfl
  ·cases h
 ·rename_i x;have⟨dv,g1,g2⟩:=VD h;exact cF.rN (n:=0) (rd:=[]) (wr:=[]) (upd:=[]) g1 trivial rfl rfl (by simp) g2
 ·rename_i t l c;have⟨dv,upd,aa,g1,g2,g3,g4,g5,g6⟩:=afo h;exact cF.rN (n:=0) (rd:=[]) (wr:=[]) (upd:=upd) g1 g2 g3 g4 (λ p hp=> .inl (g5 p hp)) g6
 ·rename_i t;have⟨dv,upd,aa,g1,g2,g3,g4,g5,g6⟩:=X7 h;exact cF.rN (n:=0) (rd:=[]) (wr:=[]) (upd:=upd) g1 g2 g3 g4 (λ p hp=> .inl (g5 p hp)) g6
 ·rename_i t m x ok;have⟨rd,dv,aa,g1,g2,g3,g4,g6⟩:=aaq h;exact cF.rN (n:=0) (rd:=rd) (wr:=[]) (upd:=[]) g1 g2 g3 g4 (by simp) g6
 ·rename_i t m x v;have⟨rd,wr,dv,upd,aa,g1,g2,g3,g4,g5,g6⟩:=aar h;exact cF.rN (n:=0) (rd:=rd) (wr:=wr) (upd:=upd) g1 g2 g3 g4 (λ p hp=> .inr (g5 p hp)) g6
 ·rename_i b args cQ;have⟨rd,wr,dv,upd,aa,g1,g2,g3,g4,g5,g6⟩:=VE h;refine cF.ext (n:=0) (rd:=rd) (wr:=wr) (upd:=upd) ?_ g2 g3 g4 g5 g6;simp only[oC,Wx];exact g1
 ·cases h
theorem afr{c:CT X.ι}:∀{xs:List Operand}{x:Operand}{y:CT.T X.toSE c×List Bool},x∈xs->JQ get (ρ x) c=some y->∀j∈bj (ρ x),j∈ut get c ρ xs
 |z::xs,x,y,hx,h,j,hj=>by
  simp only[ut,bf];rcases aK.1 hx with rfl |hx
  ·left;rw[h];exact hj
  ·exact .inr (afr hx h j hj)
 |[],_,_,hx,_,_,_=>by simp at hx
theorem afs{c:CT X.ι}:∀{xs:List Operand}{x:Operand}{y:CT.T X.toSE c×List Bool},x∈xs->JQ get (ρ x) c=some y->∀b∈y.2,b∈G3 get c ρ xs
 |z::xs,x,y,hx,h,b,hb=>by
  simp only[G3,bf];rcases aK.1 hx with rfl |hx
  ·left;rw[h];exact hb
  ·exact .inr (afs hx h b hb)
 |[],_,_,hx,_,_,_=>by simp at hx
theorem ahJ(h:Mo T aw i o.op ρ get k=some r):cF P T i o ρ get k r:=by
 unfold Mo at h;split at h
 ·cases h
 rename_i hpick;have⟨c,h1,h⟩:=aj.1 h;have⟨hcs,h⟩:=pV h;have⟨b8,rd,wr,dv,upd,aa,g1,g2,g3,g4,g5,g6⟩:=abJ h;generalize gx:ut get c ρ o.op.operands.toList=ag at*;refine⟨.tx ag (λ x=>den (Ft get c ρ x)) b8,rd++ag,wr++ag,dv,upd++Qq ag,⟨aa.v,aa.upd++ag.map (λ k=>(k,none)),aa.obs++[∀ x∈o.op.operands,(eV P (dO (rd++ag) (fJ get)) (den (ρ x)) (den (Ft get c ρ x))/\∀k∈refs (den (ρ x)),k∈ag)\/den (Ft get c ρ x)=den (ρ x)]⟩,?_,?_,g3,?_,?_,g6⟩
 ·unfold jI KU;simp only;rw[aM hpick];have e:(λ k=>if k∈ag then none else dO (rd++ag) (fJ get) k)=dO rd (fJ λj=>if j∈ag then none else get j):=by
   funext j;simp only[dO,fJ,bf];by_cases hj:j∈ag
   ·simp[hj]
   ·simp[hj]
  rw[e,g1];rfl
 ·refine rY _ λp hp=>?_;rcases bf.1 hp with hp |hp
  ·exact qZ _ g2 p hp
  ·rw[aW]at hp;subst hp;intro x hx;unfold Ft;cases hl:JQ get (ρ x) c with
   |none=>exact .inr rfl
   |some y=>
    left;have hx':x∈o.op.operands.toList:=(by simpa using hx);have hin:∀j∈bj (ρ x),j∈ag:=λj hj=>gx ▸ afr hx' hl j hj;obtain⟨hs,obs,p1,p2⟩:=D9 (P:=P) (rd:=rd++ag) hl (λ b hb=>hcs b (afs hx' hl b hb)) (λ j hj=>List.mem_append_right _ (hin j hj));refine⟨?_,λj hj=>hin j (by rwa [iZ]at hj)⟩;have:=p2 [];exact Ie _ _ _ this p1
 ·simp only[tN,F7,g4]
 ·intro p hp;rcases bf.1 hp with hp |hp
  ·exact(g5 p hp).imp id (λ h=>List.mem_append_left _ h)
  ·exact .inr (List.mem_append_right _ (MN hp))
theorem K7{c:CT X.ι}:∀{ds:List (DV X)}{xs:List (CT.T X.toSE c)},Ab c ds=some xs->bM ds=xs.map λy=>den (.c c y:DV X)
 |[],xs,h=>by simp only[Ab,aC]at h;subst h;rfl
 | .c a x::ds,xs,h=>by
  simp only[Ab]at h;have⟨y,h1,h⟩:=aj.1 h;have⟨l,h2,h⟩:=aj.1 h;cases h;simp only[bM,aF,K7 h2,(iY h1).1]
 | .agg _::_,_,h=>by simp[Ab]at h
 | .ey _::_,_,h=>by simp[Ab]at h
 | .own _ _ _::_,_,h=>by simp[Ab]at h
 | .ptr _ _ _::_,_,h=>by simp[Ab]at h
 | .mT _ _ _::_,_,h=>by simp[Ab]at h
 | .mp _::_,_,h=>by simp[Ab]at h
 | .oX _ _ _ _ _::_,_,h=>by simp[Ab]at h
 | .rp _ _ _::_,_,h=>by simp[Ab]at h
 | .tc _ _ _ _ _::_,_,h=>by simp[Ab]at h
 | .fn _ _ _::_,_,h=>by simp[Ab]at h
 | .c6 _ _ _::_,_,h=>by simp[Ab]at h
 | .raw _::_,_,h=>by simp[Ab]at h
 | .nil::_,_,h=>by simp[Ab]at h
 | .ub::_,_,h=>by simp[Ab]at h
 | .skip::_,_,h=>by simp[Ab]at h
 | .undef::_,_,h=>by simp[Ab]at h
theorem ahK(h:Mm T aw o.op ρ get k=some r):cF P T i o ρ get k r:=by
 obtain⟨dst,op,ty,aE,after,guard⟩:=o;unfold Mm at h;simp only at h;split at h
 ·rename_i t x j;rw[aj]at h;obtain⟨ti,h1,h⟩:=h;split at h
  ·rename_i m e kk row ae kd n hk hx hj;rw[aj]at h;obtain⟨ei,h2,h⟩:=h;split at h
   ·rename_i hs;have⟨h3,h⟩:=dN h;refine cF.op (b8:= .none) (rd:=[]) (wr:=[]) (upd:=[]) (λ _ _ _ e=>by cases e) (aa:=⟨.ptr kk row (ae+n.toNat*1),[],[0<=n/\n.toNat<m]⟩) ?_ ⟨?_,?_,rfl,by simp,h⟩
    ·simp only[qz,lN,h1,ah,hk,hx,hj,den,CT.tv,TV.av,h2,hs];rfl
    ·simp only[br,aD,aG]at h3;exact⟨h3.1,by omega⟩
    ·simp only[den,Nat.mul_one]
   ·cases h
  ·rename_i m e c y ae kd n hk hx hj;rw[aj]at h;obtain⟨ei,h2,h⟩:=h;split at h
   ·rename_i hs;have⟨h3,h⟩:=dN h;refine cF.op (b8:= .none) (rd:=[]) (wr:=[]) (upd:=[]) (λ _ _ _ e=>by cases e) (aa:=⟨.du (CT.row X.toSE c y) (ae+n.toNat*1),[],[0<=n/\n.toNat<m]⟩) ?_ ⟨?_,?_,rfl,by simp,h⟩
    ·simp only[qz,lN,h1,ah,hk,hx,hj,den,CT.tv,TV.av,h2,hs];rfl
    ·simp only[br,aD,aG]at h3;exact⟨h3.1,by omega⟩
    ·simp only[den,Nat.mul_one]
   ·cases h
  ·cases h
 ·rename_i t a;rw[aj]at h;obtain⟨ti,h1,h⟩:=h;split at h
  ·rename_i kk row ae m n hx;split at h
   ·rename_i hs;rw[aj]at h;obtain⟨c,h2,h⟩:=h;split at h
    ·rename_i hc;rw[aj]at h;obtain⟨ob,h3,h⟩:=h;split at h
     ·rename_i sz rows;have⟨q,h4,h⟩:=aj.1 h;have⟨xs,h5,h⟩:=aj.1 h;have⟨y,h6,h⟩:=aj.1 h;have⟨_,h7⟩:=Ql h6;have h8:=K7 h5;have h9:((bM q).drop (ae+n.toNat)).take 1=[den (.c c y:DV X)]:=by
       have e1:(bM ((q.drop ae).take m))[n.toNat]? =some (den (.c c y:DV X)):=(by rw[h8,List.getElem?_map,h7];rfl);rw[j4,List.getElem?_take]at e1;split at e1
       ·rw[List.getElem?_drop]at e1;have⟨g1,g2⟩:=fe.1 e1;rw[List.drop_eq_getElem_cons g1,List.take_succ_cons,List.take_zero,g2]
       ·cases e1
      refine cF.op (b8:= .none) (rd:=[kk]) (wr:=[]) (upd:=[]) (λ _ _ _ e=>by cases e) (aa:=⟨den (.c c y:DV X),[],[]⟩) ?_ ⟨trivial,rfl,rfl,by simp,h⟩;simp only[qz,FY,h1,ah,hx,den,dU (List.mem_singleton_self kk) h3,bJ,List.getElem?_map,h4,Option.map_some,hs.1,hs.2];rw[h9];obtain⟨t',g1,g2⟩:=row_one hc y;simp only[den,g2,TV.av];rfl
     ·rename_i b l;split at h
      ·rename_i hb;have⟨y,h4,h⟩:=aj.1 h;have h5:l[ae+n.toNat]? =some y:=by
        unfold nt at h4;cases hd:decide (0<=n)<;>simp only[hd,ai,ak,reduceCtorEq]at h4;exact h4
       obtain⟨t',g1,g2⟩:=row_one hb.2 y;refine cF.na (n:=0) (rd:=[kk]) (wr:=[]) (upd:=[]) (dv:= .c b y) (aa:=⟨den (.c b y:DV X),[],[]⟩) ?_ trivial rfl rfl (by simp) h rfl rfl;have hz:CT.sz X b=1:=(by rw[<- Bh b y,g1];rfl);have⟨q1,q2⟩:=fe.1 h5;simp only[kW,Ih,h1,ah,hx,den,dU (List.mem_singleton_self kk) h3,bJ,hz,if_true,hs.1,hs.2,hb.1,Nat.zero_add,Xv,aS,<- map_drop,<- map_take];rw[List.drop_eq_getElem_cons q1,q2];simp only[List.take_succ_cons,List.take_zero,aF,map_nil,g1,flatten_cons,List.flatten_nil,append_nil,g2,TV.av];rfl
      ·cases h
     ·cases h
    ·cases h
   ·cases h
  ·rename_i b y0 ae m n hx;split at h
   ·rename_i hs;rw[aj]at h;obtain⟨c,h2,h⟩:=h;split at h
    ·rename_i hc;have⟨xs,h5,h⟩:=aj.1 h;have⟨y,h6,h⟩:=aj.1 h;have⟨_,h7⟩:=Ql h6;have h8:=K7 h5;have h9:(((CT.row X.toSE b y0).drop (ae+n.toNat)).take 1).map AV.t=[den (.c c y:DV X)]:=by
      have e1:(bM (((wH b y0).drop ae).take m))[n.toNat]? =some (den (.c c y:DV X)):=(by rw[h8,List.getElem?_map,h7];rfl);rw[j4,mX,List.getElem?_take]at e1;split at e1
      ·rw[List.getElem?_drop]at e1;have⟨g1,g2⟩:=fe.1 e1;rw[map_take,map_drop,List.drop_eq_getElem_cons g1,List.take_succ_cons,List.take_zero,g2]
      ·cases e1
     refine cF.op (b8:= .none) (rd:=[]) (wr:=[]) (upd:=[]) (λ _ _ _ e=>by cases e) (aa:=⟨den (.c c y:DV X),[],[]⟩) ?_ ⟨trivial,rfl,rfl,by simp,h⟩;simp only[qz,FY,h1,ah,hx,den,hs.1,hs.2];rw[h9];obtain⟨t',g1,g2⟩:=row_one hc y;simp only[den,g2,TV.av];rfl
    ·cases h
   ·cases h
  ·cases h
 ·cases h
end
end
def mY{α:Type}(l:List α)(ae:Nat)(az:List α):List α:=l.take ae++az++l.drop (ae+az.length)
def tD(a b:List Bool):Bool:=decide (a=b)
def ja(ae n len:Nat):Bool:=decide (ae+n<=len)
section
variable {X:SX} {A:Type} (T:da)
def aqo(o:Op)(ρ:Operand->DV X):Bool:=
 match o with
 | .alloc e=>(X.ar e).isSome
 | .box e _=>(X.ar e).isSome
 | .load t a=>match ρ a with
  | .ptr _ _ _=>(X.ar t).isSome
  |_=>false
 | .store t a _=>match ρ a with
  | .ptr _ _ _=>(X.ar t).isSome
  | .oX _ _ _ _ _=>true
  |_=>false
 | .slice t x _ _ none=>match ρ x with
  | .ptr _ _ _=>(X.ar t).isSome
  |_=>false
 | .binOp _ t _ _ _=>(X.ar t).isSome
 |_=>false
def G2(a:GC X.toSE)(d:DV X):Option (List (CT.T X.toSE a.c)):=
 match d with
 | .c b y=>(fZ b (.st a.i) y).bind λy=>some (a.f y)
 | .agg cs=>Ab a.c cs
 |_=>none
def AM(get:Nat->Option (bk X))(kk:Nat)(c:CT X.ι):Option (List (CT.T X.toSE c)):=
 (get kk).bind λo=>match o with
 | .cY b l=>fZ (.sl b) (.sl c) l
 |_=>none
def NO(i:Nat)(o:Op)(ρ:Operand->DV X)(get:Nat->Option (bk X))(k:KK X A):Option A:=
 match o with
 | .alloc e=>(X.ar e).bind λa=>(T e).bind λti=>(Ab a.c (ti.zero.map qr)).bind λl=>k (.ptr (cd i) 0 0) [(cd i,some (.cY a.c l))] [] []
 | .box e x=>(X.ar e).bind λa=>(G2 a (ρ x)).bind λl=>if (cellsD (ρ x)).isSome then k (.ptr (cd i) 0 0) [(cd i,some (.cY a.c l))] [] []else none
 | .load t a=>(T t).bind λti=>match ρ a with
  | .ptr kk 0 ae=>(X.ar t).bind λa=>(AM get kk a.c).bind λl=>if ti.agg=true/\(X.cQ a.i).length=ti.size then(a.g (sub l ae ti.size)).bind λy=>k (.c (.st a.i) y) [] [kk] []else none
  |_=>none
 | .store t a x=>(T t).bind λti=>match ρ a with
  | .ptr kk 0 ae=>(X.ar t).bind λa=>(AM get kk a.c).bind λl=>(G2 a (ρ x)).bind λaz=>if (cellsD (ρ x)).isSome then
   bif bb az.length ti.size&&ja ae az.length l.length then k .undef [(kk,some (.cY a.c (mY l ae az)))] [kk] [kk]else none else none
  | .oX kk 0 ae _ n=>(get kk).bind λo=>match o with
   | .cY b l=>match ρ x with
    | .c c0 y0=>(fZ c0 b y0).bind λy=>if b.one=true/\ti.size=1 then bif decide (0<=n)&&ja (ae+n.toNat) 1 l.length then k .undef [(kk,some (.cY b (l.set (ae+n.toNat) y)))] [kk] [kk]else none else none
    |_=>none
   |_=>none
  |_=>none
 | .slice t x lo hi none=>(T t).bind λti=>match ti.k,ρ x with
  | .arr m e,.ptr kk 0 ae=>(T e).bind λei=>(get kk).bind λo=>match o with
   | .cY b l=>if CT.sz X b=1/\ei.size=1 then(sB 0 (lo.map ρ)).bind λp=>(sB m (hi.map ρ)).bind λq=>
    bif q8 p q m&&ja ae m l.length then k (.own kk (ae+p.toNat) (q.toNat -p.toNat)) [] [kk] []else none else none
   |_=>none
  |_,_=>none
 | .binOp op t x y _=>(T t).bind λti=>(X.ar t).bind λa=>match ti.k,ρ x,ρ y with
  | .arr _ _,.c b u,.c c v=>(fZ b (.st a.i) u).bind λu=>(fZ c (.st a.i) v).bind λv=>(fZ (.sl a.c) (.sl .bool) (a.f u)).bind λ(p:List Bool)=>(fZ (.sl a.c) (.sl .bool) (a.f v)).bind λ(q:List Bool)=>
   if Ii T 9 t=true/\ti.cmp=[9]/\(X.cQ a.i).length=ti.size then match op with
    | .eql=>k (.c .bool (tD p q)) [] [] []
    | .neq=>k (.c .bool (!(tD p q))) [] [] []
    |_=>none
   else none
  |_,_,_=>none
 |_=>none
end
section
variable {X:SX} {A:Type} {T:da} {P:Program} {i:Nat} {o:Oper} {ρ:Operand->DV X} {get:Nat->Option (bk X)} {k:KK X A} {r:A}
theorem apC{c:CT X.ι}(h:c.one=true):CT.sz X c=1:=by cases c<;>first |rfl |cases h
theorem ZZ{c:CT X.ι}(h:c.one=true)(x:CT.T X.toSE c):(CT.row X.toSE c x).map AV.t=[den (.c c x:DV X)]:=by
 obtain⟨t,h1,h2⟩:=row_one h x;simp only[den,h1,h2,TV.av,aF,map_nil]
theorem MO{c:CT X.ι}(h:c.one=true)(l:List (CT.T X.toSE c)):bJ (.cY c l:bk X)=⟨1,eX (l.map λx=>den (.c c x:DV X))⟩:=by
 simp only[bJ,apC h,aS,eX,map_map];congr 1;exact map_congr_left λx _=>ZZ h x
theorem F8{c:CT X.ι}(h:c.one=true):∀l:List (CT.T X.toSE c),((l.map (CT.row X.toSE c)).flatten).map AV.t=l.map λx=>den (.c c x:DV X)
 |[]=>rfl
 |x::l=>by simp only[aF,flatten_cons,map_append,ZZ h,F8 h l,List.singleton_append]
theorem X8{a:GC X.toSE}{t:TypeId}(ha:X.ar t=some a){d:DV X}{l:List (CT.T X.toSE a.c)}(h:G2 a d=some l)(hc:(cellsD d).isSome=true):cellsOf (den d)=some (l.map λx=>den (.c a.c x:DV X)):=by
 obtain⟨h1,h2,h3⟩:=X.i8 t a ha;cases hd:cellsD d with
 |none=>rw[hd]at hc;cases hc
 |some cs=>
  rw[Bj hd];unfold G2 at h;split at h
  ·rename_i b y;rw[aj]at h;obtain⟨y',h4,h⟩:=h;cases h;have⟨e,h4⟩:=lQ h4;subst e;subst h4;simp only[cellsD,aC]at hd;subst hd;rw[mX];show some ((X.row a.i y').map AV.t)=_;rw[h2 y',F8 h1]
  ·rename_i cs';simp only[cellsD]at hd;split at hd
   ·cases hd;rw[K7 h]
   ·cases hd
  ·cases h
theorem akC{c:CT X.ι}{l:List (CT.T X.toSE c)}{l':List Bool}(h:fZ (.sl c) (.sl .bool) l=some l'):(l.map λx=>den (.c c x:DV X))=l'.map tB:=by
 have⟨e,h⟩:=lQ h;cases e;subst h;rfl
theorem X9{kk:Nat}{c:CT X.ι}{l:List (CT.T X.toSE c)}(hc:c.one=true)(h:AM get kk c=some l):∃o,get kk=some o/\bJ o=⟨1,eX (l.map λx=>den (.c c x:DV X))⟩:=by
 unfold AM at h;rw[aj]at h;obtain⟨o,h1,h⟩:=h;split at h
 ·rename_i b l0;have⟨e,h⟩:=lQ h;cases e;subst h;exact⟨_,h1,MO hc _⟩
 ·cases h
theorem Ip(n:Nat)(cs:List AV):(eX cs).take n=eX (cs.take n):=by simp[eX,map_take]
theorem Iq(n:Nat)(cs:List AV):(eX cs).drop n=eX (cs.drop n):=by simp[eX,map_drop]
theorem UX(a b:List AV):eX (a++b)=eX a++eX b:=by simp[eX]
theorem K8(a:List AV):(eX a).length=a.length:=by simp[eX]
theorem amL(cs:List AV)(p n:Nat):Xv ⟨1,eX cs⟩ p n=(cs.drop p).take n:=by simp only[Xv,Iq,Ip,rZ]
theorem Ya{t:TypeId}{ti:ky}{a:GC X.toSE}{kk ae:Nat}{l:List (CT.T X.toSE a.c)}{y:X.T a.i}{g:Nat->Option aX}(h2:T t=some ti)(h1:X.ar t=some a)(hag:ti.agg=true)(hlen:(X.cQ a.i).length=ti.size)
 (hk:g kk=some ⟨1,eX (l.map λx=>den (.c a.c x:DV X))⟩) (h4:a.g (sub l ae ti.size)=some y):Ih T t (den (.ptr kk 0 ae:DV X)) g=some ⟨den (.c (.st a.i) y:DV X),[],[]⟩:=by
 obtain⟨ho,hr,hg⟩:=X.i8 t a h1;have h7:=hg _ _ h4;have h8:den (.c (.st a.i) y:DV X)= .agg ((sub l ae ti.size).map λx=>den (.c a.c x:DV X)):=by
  show AV.agg ((X.row a.i y).map AV.t)=_;rw[hr y,F8 ho,h7]
 have h9:((sub l ae ti.size).map λx=>den (.c a.c x:DV X)).length=ti.size:=by
  have:=congrArg List.length (F8 ho (a.f y));rw[length_map,length_map,<- hr y]at this;have h10:=Bh (X:=X) (.st a.i) y;rw[length_map,<- h7,<- this];exact h10.trans hlen
 simp only[Ih,h2,ah,den,hk,if_true,Nat.zero_add,amL,<- map_drop,<- map_take];show(part' ti.agg ti.size ((sub l ae ti.size).map λx=>den (.c a.c x:DV X))).bind pv=some ⟨den (.c (.st a.i) y:DV X),[],[]⟩;have hp:part' ti.agg ti.size ((sub l ae ti.size).map λx=>den (.c a.c x:DV X))=some (.agg ((sub l ae ti.size).map λx=>den (.c a.c x:DV X))):=by unfold part';rw[aP h9,aP hag]
 rw[hp,h8];rfl
theorem ahL(h:NO T i o.op ρ get k=some r):cF P T i o ρ get k r:=by
 obtain⟨dst,op,ty,aE,after,guard⟩:=o;unfold NO at h;simp only at h;split at h
 ·rename_i e;rw[aj]at h;obtain⟨a,h1,h⟩:=h;rw[aj]at h;obtain⟨ti,h2,h⟩:=h;rw[aj]at h;obtain⟨l,h3,h⟩:=h;obtain⟨ho,_,_⟩:=X.i8 e a h1;refine cF.na (n:=0) (rd:=[]) (wr:=[]) (upd:=[(cd i,some (.cY a.c l))]) (dv:= .ptr (cd i) 0 0) (aa:=⟨.ptr (cd i) 0 0,[(cd i,some ⟨1,eX (ti.zero.map cv)⟩)],[]⟩) ?_ trivial rfl ?_ (by simp) h rfl rfl
  ·simp only[kW,Wt,h2,ah]
  ·simp only[gK,aF,map_nil,Option.map_some,MO ho,<- K7 h3,Bl]
 ·rename_i e x;rw[aj]at h;obtain⟨a,h1,h⟩:=h;rw[aj]at h;obtain⟨l,h3,h⟩:=h;split at h
  ·rename_i hc;obtain⟨ho,_,_⟩:=X.i8 e a h1;refine cF.na (n:=0) (rd:=[]) (wr:=[]) (upd:=[(cd i,some (.cY a.c l))]) (dv:= .ptr (cd i) 0 0) (aa:=⟨.ptr (cd i) 0 0,[(cd i,some ⟨1,eX (l.map λx=>den (.c a.c x:DV X))⟩)],[]⟩) ?_ trivial rfl ?_ (by simp) h rfl rfl
   ·simp only[kW,HF,X8 h1 h3 hc,ah]
   ·simp only[gK,aF,map_nil,Option.map_some,MO ho]
  ·cases h
 ·rename_i t a0;rw[aj]at h;obtain⟨ti,h2,h⟩:=h;split at h
  ·rename_i kk ae hx;rw[aj]at h;obtain⟨a,h1,h⟩:=h;rw[aj]at h;obtain⟨l,h3,h⟩:=h;split at h
   ·rename_i hc;rw[aj]at h;obtain⟨y,h4,h⟩:=h;obtain⟨ob,h5,h6⟩:=X9 (X.i8 t a h1).1 h3;refine cF.na (n:=0) (rd:=[kk]) (wr:=[]) (upd:=[]) (dv:= .c (.st a.i) y) (aa:=⟨den (.c (.st a.i) y:DV X),[],[]⟩) ?_ trivial rfl rfl (by simp) h rfl rfl;simp only[kW,hx];exact Ya h2 h1 hc.1 hc.2 (by rw[dU (List.mem_singleton_self kk) h5,h6]) h4
   ·cases h
  ·cases h
 ·rename_i t a0 x;rw[aj]at h;obtain⟨ti,h2,h⟩:=h;split at h
  ·rename_i kk ae hx;rw[aj]at h;obtain⟨a,h1,h⟩:=h;rw[aj]at h;obtain⟨l,h3,h⟩:=h;rw[aj]at h;obtain⟨az,h4,h⟩:=h;split at h
   ·rename_i hc;have⟨h5,h⟩:=dN h;simp only[aD,bb,ja,aG]at h5;obtain⟨ho,hr,hg⟩:=X.i8 t a h1;have⟨ob,h6,h7⟩:=X9 ho h3;refine cF.na (n:=0) (rd:=[kk]) (wr:=[kk]) (upd:=[(kk,some (.cY a.c (mY l ae az)))]) (dv:= .undef) (aa:=⟨.undef,[(kk,some ⟨1,eX ((mY l ae az).map λx=>den (.c a.c x:DV X))⟩)],[]⟩) ?_ trivial rfl ?_ (by simp) h rfl rfl
    ·simp only[kW,Qa,h2,ah,hx,den,X8 h1 h4 hc,dU (List.mem_singleton_self kk) h6,h7];rw[aP ⟨trivial,by rw[length_map];exact h5.1,by rw[length_map,K8,length_map];omega⟩];simp only[mY,map_append,map_take,map_drop,UX,Ip,Iq,length_map,Nat.zero_add]
    ·simp only[gK,aF,map_nil,Option.map_some,MO ho]
   ·cases h
  ·rename_i kk ae m n hx;rw[aj]at h;obtain⟨ob,h3,h⟩:=h;split at h
   ·rename_i b l;split at h
    ·rename_i c0 y0 hy;rw[aj]at h;obtain⟨y,h4,h⟩:=h;split at h
     ·rename_i hb;have⟨h5,h⟩:=dN h;simp only[aD,ja,aG]at h5;have h6:cellsOf (den (.c c0 y0:DV X))=some [den (.c b y:DV X)]:=by
       rw[(iY h4).1];obtain⟨t',g1,g2⟩:=row_one hb.1 y;simp only[den,g2,TV.av];rfl
      refine cF.na (n:=0) (rd:=[kk]) (wr:=[kk]) (upd:=[(kk,some (.cY b (l.set (ae+n.toNat) y)))]) (dv:= .undef) (aa:=⟨.undef,[(kk,some ⟨1,eX ((l.set (ae+n.toNat) y).map λx=>den (.c b x:DV X))⟩)],[]⟩) ?_ trivial rfl ?_ (by simp) h rfl rfl
      ·simp only[kW,Qa,h2,ah,hx,hy,h6];simp only[den,dU (List.mem_singleton_self kk) h3,MO hb.1,ah];rw[aP ⟨trivial,by rw[hb.2];rfl,by rw[K8,length_map];simp only[bH,List.length_nil];omega⟩];simp only[Nat.zero_add,bH,List.length_nil];rw[List.map_set,List.set_eq_take_append_cons_drop,aP (by rw[length_map];omega)];simp only[UX,Ip,Iq,aN];rfl
      ·simp only[gK,aF,map_nil,Option.map_some,MO hb.1]
     ·cases h
    ·cases h
   ·cases h
  ·cases h
 ·rename_i t x lo hi;rw[aj]at h;obtain⟨ti,h2,h⟩:=h;split at h
  ·rename_i m e kk ae hk hx;rw[aj]at h;obtain⟨ei,h3,h⟩:=h;rw[aj]at h;obtain⟨ob,h4,h⟩:=h;split at h
   ·rename_i b l;split at h
    ·rename_i hb;have⟨p,h5,h⟩:=aj.1 h;have⟨q,h6,h⟩:=aj.1 h;have⟨h7,h⟩:=dN h;simp only[aD,q8,ja,aG]at h7;refine cF.na (n:=0) (rd:=[kk]) (wr:=[]) (upd:=[]) (dv:= .own kk (ae+p.toNat) (q.toNat -p.toNat)) (aa:=⟨.own kk (0+ae+p.toNat) (q.toNat -p.toNat),[],[0<=p/\p<=q/\q<=(m:Int)/\0+ae+m<=(bJ (.cY b l:bk X)).rows.length]⟩) ?_ ⟨h7.1.1.1,h7.1.1.2,h7.1.2,?_⟩ ?_ rfl (by simp) h rfl ?_
     ·simp only[kW,Wu,h2,ah,hk,hx,den,h3,dU (List.mem_singleton_self kk) h4];have e1:bnd 0 (lo.map λx=>den (ρ x))=some p:=(by rw[<- yg h5,Option.map_map];rfl);have e2:bnd (m:Int) (hi.map λx=>den (ρ x))=some q:=(by rw[<- yg h6,Option.map_map];rfl);rw[aP ⟨hb.1,hb.2⟩];simp only[e1,e2,ah,gO]
     ·simp only[bJ,aS,length_map];omega
     ·simp only[den,Nat.zero_add]
     ·simp only[oC,F4,h2,ah,hk]
    ·cases h
   ·cases h
  ·cases h
 ·rename_i L5 t x y q0;rw[aj]at h;obtain⟨ti,h2,h⟩:=h;rw[aj]at h;obtain⟨a,h1,h⟩:=h;split at h
  ·rename_i m0 e0 b u0 c v0 hk hx hy;rw[aj]at h;obtain⟨u,h3,h⟩:=h;rw[aj]at h;obtain⟨v,h4,h⟩:=h;rw[aj]at h;obtain⟨p,h5,h⟩:=h;rw[aj]at h;obtain⟨q,h6,h⟩:=h;split at h
   ·rename_i hb;obtain⟨ho,hr,hg⟩:=X.i8 t a h1;have key:∀(z:CT.T X.toSE (.st a.i)) (l:List Bool),fZ (.sl a.c) (.sl .bool) (a.f z)=some l->den (.c (.st a.i) z:DV X)= .agg (l.map tB)/\l.length=ti.size:=by
     intro z l hl;have e1:den (.c (.st a.i) z:DV X)= .agg ((a.f z).map λx=>den (.c a.c x:DV X)):=by
      show AV.agg ((X.row a.i z).map AV.t)=_;rw[hr z,F8 ho]
     have e2:((a.f z).map λx=>den (.c a.c x:DV X)).length=ti.size:=by
      have:=congrArg List.length (F8 ho (a.f z));rw[length_map,<- hr z]at this;rw[<- this];exact(Bh (X:=X) (.st a.i) z).trans hb.2.2
     rw[akC hl]at e1 e2;exact⟨e1,by rw[length_map]at e2;exact e2⟩
    have⟨k1,l1⟩:=key u p h5;have⟨k2,l2⟩:=key v q h6;cases L5<;>simp only[reduceCtorEq]at h
    ·refine cF.na (n:=if p=q then 1 else 0) (rd:=[]) (wr:=[]) (upd:=[]) (dv:= .c .bool (tD p q)) (aa:=⟨tB ((if p=q then(1:Int)else 0) !=0),[],[∃ z1 z2:List Bool,p.map tB=z1.map tB/\q.map tB=z2.map tB/\z1.length=ti.size/\z2.length=ti.size/\((if p=q then(1:Int)else 0)≠0↔z1=z2)]⟩) ?_ ⟨p,q,rfl,rfl,l1,l2,by split<;>simp_all⟩ ?_ rfl (by simp) h rfl ?_
     ·simp only[kW,Fl,h2,ah,hk,hx,hy,(iY h3).1,(iY h4).1,k1,k2];rw[aP ⟨hb.1,hb.2.1⟩];rfl
     ·simp only[tB,den,CT.tv,TV.av,tD];by_cases hpq:p=q<;>simp[hpq]
     ·simp only[oC,tM,h2,ah,hk]
    ·refine cF.na (n:=if p=q then 1 else 0) (rd:=[]) (wr:=[]) (upd:=[]) (dv:= .c .bool (!(tD p q))) (aa:=⟨tB (!((if p=q then(1:Int)else 0) !=0)),[],[∃ z1 z2:List Bool,p.map tB=z1.map tB/\q.map tB=z2.map tB/\z1.length=ti.size/\z2.length=ti.size/\((if p=q then(1:Int)else 0)≠0↔z1=z2)]⟩) ?_ ⟨p,q,rfl,rfl,l1,l2,by split<;>simp_all⟩ ?_ rfl (by simp) h rfl ?_
     ·simp only[kW,Fl,h2,ah,hk,hx,hy,(iY h3).1,(iY h4).1,k1,k2];rw[aP ⟨hb.1,hb.2.1⟩];rfl
     ·simp only[tB,den,CT.tv,TV.av,tD];by_cases hpq:p=q<;>simp[hpq]
     ·simp only[oC,tM,h2,ah,hk]
   ·cases h
  ·cases h
 ·cases h
end
section
variable {X:SX}
structure MA(X:SX) where
 nm:List (Nat×Nat)
 dC:List (DC X)
 f7:List Bool
def addN(m:MA X)(k' k:Nat):MA X:=if m.nm.contains (k',k)then m else⟨m.nm++[(k',k)],m.dC,m.f7⟩
section
variable (get:Nat->Option (bk X))
mutual
def mP:Pt X.ι->DV X->MA X->Option (MA X)
 | .v c,d,m=>(dat d c).bind λx=>some ⟨m.nm,m.dC++[⟨c,x⟩],m.f7⟩
 | .o k,d,m=>match d with
  | .own k' 0 len=>(get k').bind λo=>match o with
   | .cY _ l=>some (addN ⟨m.nm,m.dC,m.f7++[bb len l.length]⟩ k' k)
   |_=>none
  |_=>none
 | .p k,d,m=>match d with
  | .ptr k' 0 0=>some (addN m k' k)
  |_=>none
 | .mp k,d,m=>match d with
  | .mp k'=>some (addN m k' k)
  |_=>none
 | .nil,d,m=>match d with
  | .nil=>some m
  |_=>none
 | .f F fs cs,d,m=>match d with
  | .fn F' first caps=>if F=F' then(ph fs first m).bind λm=>ph cs caps m else none
  |_=>none
 | .od k,d,m=>match d with
  | .own k' ae len=>(get k').bind λo=>match o with
   | .cY _ l=>some (addN ⟨m.nm,m.dC++[⟨.int .i64,(ae:Int)⟩],m.f7++[bb (ae+len) l.length]⟩ k' k)
   |_=>none
  |_=>none
 | .a ps,d,m=>match d with
  | .agg ds=>ph ps ds m
  |_=>none
def ph:List (Pt X.ι)->List (DV X)->MA X->Option (MA X)
 |[],[],m=>some m
 |p::ps,d::ds,m=>(mP p d m).bind λm=>ph ps ds m
 |_,_,_=>none
end
def K9(env:Nat->DV X):List (Nat×Pt X.ι)->MA X->Option (MA X)
 |[],m=>some m
 |(t,p)::r,m=>(mP get p (env t) m).bind λm=>K9 env r m
def JR:List (List (Pt X.ι))->List (List (DV X))->MA X->Option (MA X)
 |[],[],m=>some m
 |r::rs,q::qs,m=>(ph get r q m).bind λm=>JR rs qs m
 |_,_,_=>none
def nameOf(m:MA X)(k:Nat):Nat:=match m.nm.find? (λ q=>q.2==k)with |some q=>q.1 |none=>k
def F9:List (Nat×OP X.ι)->MA X->Option (MA X)
 |[],m=>some m
 |(k,op)::r,m=>(get (nameOf m k)).bind λo=>match op,o with
  | .l c,.cY c' l=>(fZ (.sl c') (.sl c) l).bind λl'=>F9 r (addN ⟨m.nm,m.dC++[⟨.sl c,l'⟩],m.f7⟩ (nameOf m k) k)
  | .m kc vc,.map qe pZ l=>(fZ (.mp qe pZ) (.mp kc vc) l).bind λl'=>F9 r (addN ⟨m.nm,m.dC++[⟨.mp kc vc,l'⟩],m.f7⟩ (nameOf m k) k)
  | .c sz rows,.cells sz' rows'=>if sz=sz' then(JR get rows rows' (addN m (nameOf m k) k)).bind λm=>F9 r m else none
  |_,_=>none
end
end
section
variable {X:SX} {A:Type}
mutual
def kB(f:Nat->Nat):DV X->DV X
 | .own k ae len=> .own (f k) ae len
 | .ptr k row ae=> .ptr (f k) row ae
 | .mT k n ae=> .mT (f k) n ae
 | .oX k row ae m n=> .oX (f k) row ae m n
 | .mp k=> .mp (f k)
 | .agg cs=> .agg (Nn f cs)
 | .ey cs=> .ey (Nn f cs)
 | .fn F first caps=> .fn F (Nn f first) (Nn f caps)
 |x=>x
def Nn(f:Nat->Nat):List (DV X)->List (DV X)
 |[]=>[]
 |x::xs=>kB f x::Nn f xs
end
theorem PP(f:Nat->Nat):∀l:List Tree,CQ f (l.map AV.t)=l.map AV.t
 |[]=>rfl
 |x::xs=>by simp only[aF,CQ,eQ,PP f xs]
mutual
theorem Ea(f:Nat->Nat):∀x:DV X,den (kB f x)=eQ f (den x)
 | .own _ _ _=>rfl
 | .ptr _ _ _=>rfl
 | .mT _ _ _=>rfl
 | .mp _=>rfl
 | .oX _ _ _ _ _=>rfl
 | .agg cs=>by simp only[kB,den,eQ,Ga f cs]
 | .ey cs=>by simp only[kB,den,eQ,Ga f cs]
 | .fn F first caps=>by simp only[kB,den,eQ,Ga f first,Ga f caps]
 | .c t x=>by
  simp only[kB,den];cases t<;>try rfl
  simp only[CT.tv,TV.av,eQ,PP]
 | .rp _ _ _=>rfl
 | .tc _ _ _ _ _=>rfl
 | .c6 _ _ _=>rfl
 | .raw v=>by
  simp only[kB,den,cv];split
  ·rfl
  ·split<;>rfl
 | .nil=>rfl
 | .ub=>rfl
 | .skip=>rfl
 | .undef=>rfl
theorem Ga(f:Nat->Nat):∀l:List (DV X),bM (Nn f l)=CQ f (bM l)
 |[]=>rfl
 |x::xs=>by simp only[Nn,bM,CQ,Ea f x,Ga f xs]
end
def lf(f:Nat->Nat):bk X->bk X
 | .cells sz rows=> .cells sz (rows.map (Nn f))
 |o=>o
def db:bk X->List Nat
 | .cells _ rows=>(rows.map aV).flatten
 | .cY _ _=>[]
 | .map _ _ _=>[]
def Hx:CT X.ι->Bool
 | .int _ | .bool | .str=>true
 |_=>false
def zZ:CT X.ι->Bool
 | .st i=>(X.cQ i).all Hx
 |c=>Hx c
theorem Ir{c:CT X.ι}(h:Hx c=true)(x:CT.T X.toSE c):∀t∈CT.row X.toSE c x,t.flat:=by cases c<;>first |(intro t ht;simp only[CT.row,aW]at ht;subst ht;exact trivial) |cases h
theorem ZS:∀(l:List (CT X.ι))(h:HL X.toSE l),l.all Hx=true->∀t∈HL.row X.toSE l h,t.flat
 |[],_,_,t,ht=>by simp[HL.row]at ht
 |c::l,h,ha,t,ht=>by
  simp only[all_cons,aD]at ha;rcases bf.1 (show t∈CT.row X.toSE c h.1++HL.row X.toSE l h.2 from ht)with ht |ht
  ·exact Ir ha.1 h.1 t ht
  ·exact ZS l h.2 ha.2 t ht
theorem wI{c:CT X.ι}(h:zZ c=true)(x:CT.T X.toSE c):∀t∈CT.row X.toSE c x,t.flat:=by
 cases c
 case st i=>intro t ht;exact ZS (X.cQ i) (X.get i x) h t ((X.kA i x) ▸ ht)
 case int k=>exact Ir (c:= .int k) h x
 case bool=>exact Ir (c:= .bool) h x
 case str=>exact Ir (c:= .str) h x
 case sl e=>cases h
 case any=>cases h
 case mp=>cases h
structure MG(X:SX) where
 nm:List (Nat×Nat)
 dC:List (DC X)
 f7:List Bool
 vr:List Nat
section
variable (get:Nat->Option (bk X))
mutual
def m9:Pt X.ι->DV X->MG X->Option (MG X)
 | .v c,d,m=>(JQ get d c).bind λx=>some ⟨m.nm,m.dC++[⟨c,x.1⟩],m.f7++x.2,m.vr++bj d⟩
 | .o k,d,m=>match d with
  | .own k' 0 len=>(get k').bind λo=>match o with
   | .cY _ l=>some ⟨m.nm++[(k',k)],m.dC,m.f7++[bb len l.length],m.vr⟩
   |_=>none
  |_=>none
 | .od k,d,m=>match d with
  | .own k' ae len=>(get k').bind λo=>match o with
   | .cY _ l=>some ⟨m.nm++[(k',k)],m.dC++[⟨.int .i64,(ae:Int)⟩],m.f7++[bb (ae+len) l.length],m.vr⟩
   |_=>none
  |_=>none
 | .p k,d,m=>match d with
  | .ptr k' 0 0=>some ⟨m.nm++[(k',k)],m.dC,m.f7,m.vr⟩
  |_=>none
 | .nil,d,m=>match d with
  | .nil=>some m
  |_=>none
 | .f F fs cs,d,m=>match d with
  | .fn F' first caps=>if F=F' then(oE fs first m).bind λm=>oE cs caps m else none
  |_=>none
 | .mp k,d,m=>match d with
  | .mp k'=>some ⟨m.nm++[(k',k)],m.dC,m.f7,m.vr⟩
  |_=>none
 | .a ps,d,m=>match d with
  | .agg ds=>oE ps ds m
  |_=>none
def oE:List (Pt X.ι)->List (DV X)->MG X->Option (MG X)
 |[],[],m=>some m
 |p::ps,d::ds,m=>(m9 p d m).bind λm=>oE ps ds m
 |_,_,_=>none
end
def JS:List (List (Pt X.ι))->List (List (DV X))->MG X->Option (MG X)
 |[],[],m=>some m
 |r::rs,q::qs,m=>(oE get r q m).bind λm=>JS rs qs m
 |_,_,_=>none
def m4(m:MG X)(k:Nat):Nat:=match m.nm.find? (λ q=>q.2==k)with |some q=>q.1 |none=>k
def Gc:List (Nat×OP X.ι)->MG X->Option (MG X)
 |[],m=>some m
 |(k,op)::r,m=>(get (m4 m k)).bind λo=>match op,o with
  | .l c,.cY c' l=>(fZ (.sl c') (.sl c) l).bind λl'=>Gc r ⟨m.nm++[(m4 m k,k)],m.dC++[⟨.sl c,l'⟩],m.f7,m.vr⟩
  | .m kc vc,.map qe pZ l=>if kc.one=true/\vc.one=true then(fZ (.mp qe pZ) (.mp kc vc) l).bind λl'=>Gc r ⟨m.nm++[(m4 m k,k)],m.dC++[⟨.mp kc vc,l'⟩],m.f7,m.vr⟩else none
  | .c sz rows,.cells sz' rows'=>if sz=sz' then(JS get rows rows' ⟨m.nm++[(m4 m k,k)],m.dC,m.f7,m.vr⟩).bind λm=>Gc r m else none
  |_,_=>none
end
mutual
def Pt.refs:Pt X.ι->List Nat
 | .o k | .od k | .p k | .mp k=>[k]
 | .f _ fs cs=>EZ fs++EZ cs
 | .a ps=>EZ ps
 |_=>[]
def EZ:List (Pt X.ι)->List Nat
 |[]=>[]
 |p::ps=>p.refs++EZ ps
end
def OP.refs:OP X.ι->List Nat
 | .l _=>[]
 | .m _ _=>[]
 | .c _ rows=>rows.flatMap EZ
def Cl(n k:Nat):Bool:=Nat.blt k n || (Nat.ble 1000 k&&Nat.blt k 1064)
def cM.ok(g:cM X):Bool:=
 decide (g.fW.map (·.1)=List.range g.fW.length)&&decide (g.fW.length<=1000)&&(g.gg.all λq=>Cl g.fW.length q.1&&q.2.refs.all λk=>Cl g.fW.length k)&&decide (g.gg.map (·.1)).Nodup&&(EZ g.eC).all λk=>Cl g.fW.length k
def Sx(m:MG X)(ag:List Nat):Bool:=
 decide ag.Nodup&&(m.nm.all λq=>match ag[q.2]? with |some k=>Nat.beq k q.1 |none=>false)&&m.vr.all λk=>!ag.contains k
def cM.flat(g:cM X):Bool:=(cC g.eC).all zZ&&g.gg.all λq=>match q.2 with
 | .l c=>zZ c
 | .m _ _=>false
 | .c _ rows=>(yh rows).all zZ
def pD:List (Nat×bk X)->Nat->Option (bk X)
 |[],_=>none
 |(j,o)::r,k=>if j=k then some o else pD r k
def Hv(i:Nat)(ag:List Nat)(os':List (Nat×bk X)):List (Nat×Option (bk X)):=
 (ag.zipIdx.map λp=>(p.1,(pD os' p.2).map (lf (cn i ag))))++(os'.filter λq=>decide (1000<=q.1)).map λq=>(cn i ag q.1,some (lf (cn i ag) q.2))
def PM(g:cM X)(i:Nat)(ds:List (DV X))(get:Nat->Option (bk X))(k:KK X A):Option A:=
 (oE get g.mf ds ⟨[],[],[],[]⟩).bind λm=>(Gc get g.fW m).bind λm=>
  bif g.ok&&Sx m ((List.range g.fW.length).map (m4 m))then(sA (cC g.mf++cx g.fW) m.dC).bind λv=>XO m.f7 ((g.fn v).bind λr=>
   let ag:=(List.range g.fW.length).map (m4 m)
   k (kB (cn i ag) (g.res r)) (Hv i ag (g.outs r)++(if g.flat then []else m.vr.map λk=>(k,none))) (ag++m.vr) ((ag++(Hv i ag (g.outs r)).map (·.1))++m.vr))
  else none
section
variable {P:Program} {get:Nat->Option (bk X)} {rd ag:List Nat} {dc:Nat->Nat}
def ez(m m':MG X):Prop:=(∀ q∈m.nm,q∈m'.nm)/\(∀ c∈m.f7,c∈m'.f7)/\∀k∈m.vr,k∈m'.vr
theorem ez.refl(m:MG X):ez m m:=⟨λ _ h=>h,λ_ h=>h,λ_ h=>h⟩
theorem ez.trans{a b c:MG X}(h:ez a b)(h':ez b c):ez a c:=⟨λ q hq=>h'.1 q (h.1 q hq),λq hq=>h'.2.1 q (h.2.1 q hq),λq hq=>h'.2.2 q (h.2.2 q hq)⟩
mutual
theorem amM:∀(p:Pt X.ι)(d:DV X)(m m':MG X),m9 get p d m=some m'->ez m m'/\∃az,m'.dC=m.dC++az/\az.length=p.vars.length
 | .v c,d,m,m',h=>by
  simp only[m9]at h;rw[aj]at h;obtain⟨x,h1,h⟩:=h;cases h;exact⟨⟨λ _ h=>h,λ_ h=>by simp[h],λ_ h=>by simp[h]⟩,[⟨c,x.1⟩],rfl,rfl⟩
 | .o k,d,m,m',h=>by
  simp only[m9]at h;split at h
  ·rw[aj]at h;obtain⟨o,h1,h⟩:=h;split at h
   ·cases h;exact⟨⟨λ _ h=>by simp[h],λ_ h=>by simp[h],λ_ h=>h⟩,[],by simp,rfl⟩
   ·cases h
  ·cases h
 | .od k,d,m,m',h=>by
  simp only[m9]at h;split at h
  ·rename_i k' ae len;have⟨o,h1,h⟩:=aj.1 h;split at h
   ·cases h;exact⟨⟨λ _ h=>by simp[h],λ_ h=>by simp[h],λ_ h=>h⟩,[⟨.int .i64,(ae:Int)⟩],rfl,rfl⟩
   ·cases h
  ·cases h
 | .p k,d,m,m',h=>by
  simp only[m9]at h;split at h
  ·cases h;exact⟨⟨λ _ h=>by simp[h],λ_ h=>h,λ_ h=>h⟩,[],by simp,rfl⟩
  ·cases h
 | .nil,d,m,m',h=>by
  simp only[m9]at h;split at h
  ·cases h;exact⟨ez.refl _,[],by simp,rfl⟩
  ·cases h
 | .f F fs cs,d,m,m',h=>by
  simp only[m9]at h;split at h
  ·split at h
   ·have⟨m1,h1,h⟩:=aj.1 h;obtain⟨a1,n1,b1,c1⟩:=yw fs _ m m1 h1;obtain⟨a2,n2,b2,c2⟩:=yw cs _ m1 m' h;exact⟨a1.trans a2,n1++n2,by rw[b2,b1,aN],by simp[Pt.vars,c1,c2]⟩
   ·cases h
  ·cases h
 | .mp k,d,m,m',h=>by
  simp only[m9]at h;split at h
  ·cases h;exact⟨⟨λ _ h=>by simp[h],λ_ h=>h,λ_ h=>h⟩,[],by simp,rfl⟩
  ·cases h
 | .a ps,d,m,m',h=>by
  simp only[m9]at h;split at h
  ·exact yw ps _ m m' h
  ·cases h
theorem yw:∀(ps:List (Pt X.ι))(ds:List (DV X))(m m':MG X),oE get ps ds m=some m'->ez m m'/\∃az,m'.dC=m.dC++az/\az.length=(cC ps).length
 |[],[],m,m',h=>by
  simp only[oE,aC]at h;subst h;exact⟨ez.refl _,[],by simp,rfl⟩
 |p::ps,d::ds,m,m',h=>by
  simp only[oE]at h;have⟨m1,h1,h⟩:=aj.1 h;have⟨a1,n1,b1,c1⟩:=amM p d m m1 h1;have⟨a2,n2,b2,c2⟩:=yw ps ds m1 m' h;exact⟨a1.trans a2,n1++n2,by rw[b2,b1,aN],by simp[cC,c1,c2]⟩
 |[],_::_,m,m',h=>by simp[oE]at h
 |_::_,[],m,m',h=>by simp[oE]at h
end
def sx:AV->List LH->List LH
 | .agg _,hs=> .agd::hs
 |_,hs=>hs
theorem Qr(x:AV)(a b:List LH):sx x (a++b)=sx x a++b:=by cases x<;>rfl
theorem AY{get':Nat->Option aX}{x:AV}{hs:List LH}{p:AV×List LH×List Prop}(h:pQ P get' x hs=some p)(hr:∀k∈refs x,k∉ag):sP P get' ag x (sx x hs)=some p:=by
 have hd:((refs x).all λk=>!ag.contains k)=true:=by
  simp only[all_eq_true,Bool.not_eq_true',List.contains_eq_mem,dn];exact hr
 cases x
 case agg cs=>
  simp only[refs]at hd;simp only[sx,sP,hd,if_true];exact h
 all_goals
  simp only[sx];unfold sP;split<;>first |(simp [pQ]at h;done) |(rw [aP hd];exact h) |exact h |exact absurd hd ‹_› |(rename_i e;cases e;done)
variable {NM:List (Nat×Nat)} {ms:List Nat}
mutual
theorem akD(hi:∀q∈NM,ag[q.2]? =some q.1)(hv:∀k∈ms,k∉ag)(hrd:∀k,(∃ q,(k,q)∈NM)\/k∈ms->k∈rd)(ho:∀q∈NM,∀c l,get q.1=some (.cY c l)->dc q.2=l.length):
 ∀(p:Pt X.ι)(d:DV X)(m m':MG X),m9 get p d m=some m'->(∀ q∈m'.nm,q∈NM)->(∀ c∈m'.f7,c=true)->(∀ k∈m'.vr,k∈ms)->
 ∃az,m'.dC=m.dC++az/\∃d',(∀ an,eP dc p (az++an)=(d',an))/\(∃ hs obs,(∀ p∈obs,p)/\∀an,sP P (dO rd (fJ get)) ag (den d) (hs++an)=some (den d',an,obs))/\∀j∈bj d,(∃ q,(j,q)∈NM)\/j∈ms
 | .v c,d,m,m',h,hn,hc,hr=>by
  simp only[m9]at h;rw[aj]at h;obtain⟨x,h1,h⟩:=h;cases h;have CI:∀j∈bj d,j∈ms:=λj hj=>hr j (by simp[hj]);obtain⟨hs,obs,p1,q1⟩:=D9 (P:=P) (rd:=rd) h1 (λ b hb=>hc b (by simp[hb])) (λ j hj=>hrd j (.inr (CI j hj)));refine⟨[⟨c,x.1⟩],rfl,.c c x.1,λan=>rfl,⟨sx (den d) hs,obs,p1,λan=>?_⟩,λj hj=> .inr (CI j hj)⟩;rw[<- Qr];exact AY (q1 an) (λ k hk=>hv k (CI k (by rwa [iZ]at hk)))
 | .o k,d,m,m',h,hn,hc,hr=>by
  simp only[m9]at h;split at h
  ·rename_i k' len;rw[aj]at h;obtain⟨o,h1,h⟩:=h;split at h
   ·rename_i c l;cases h;have hq:(k',k)∈NM:=hn _ (by simp);have he:len=l.length:=by
     have:=hc (bb len l.length) (by simp);simpa[bb]using this
    refine⟨[],by simp,.own k 0 (dc k),λan=>rfl,⟨[.mut k],[],by simp,λan=>?_⟩,λj hj=>?_⟩
    ·simp only[den,cons_append,bI,sP,hi _ hq,if_true,ho _ hq c l h1,he]
    ·simp only[bj,aW]at hj;subst hj;exact .inl ⟨k,hq⟩
   ·cases h
  ·cases h
 | .od k,d,m,m',h,hn,hc,hr=>by
  simp only[m9]at h;split at h
  ·rename_i k' ae len;rw[aj]at h;obtain⟨o,h1,h⟩:=h;split at h
   ·rename_i c l;cases h;have hq:(k',k)∈NM:=hn _ (by simp);have he:ae+len=l.length:=by
     have:=hc (bb (ae+len) l.length) (by simp);simpa[bb]using this
    refine⟨[⟨.int .i64,(ae:Int)⟩],rfl,.own k ae (dc k -ae),λan=>?_,⟨[.mut k],[],by simp,λan=>?_⟩,λj hj=>?_⟩
    ·have:Bk (X:=X) ⟨.int .i64,(ae:Int)⟩=ae:=by
      simp only[Bk];rw[X0];simp
     simp only[eP,cons_append,bI,this]
    ·simp only[den,cons_append,bI,sP,hi _ hq,if_true,ho _ hq c l h1,show l.length -ae=len by omega]
    ·simp only[bj,aW]at hj;subst hj;exact .inl ⟨k,hq⟩
   ·cases h
  ·cases h
 | .p k,d,m,m',h,hn,hc,hr=>by
  simp only[m9]at h;split at h
  ·rename_i k';cases h;have hq:(k',k)∈NM:=hn _ (by simp);refine⟨[],by simp,.ptr k 0 0,λan=>rfl,⟨[.mut k],[],by simp,λan=>?_⟩,λj hj=>?_⟩
   ·simp only[den,cons_append,bI,sP,hi _ hq,if_true]
   ·simp only[bj,aW]at hj;subst hj;exact .inl ⟨k,hq⟩
  ·cases h
 | .nil,d,m,m',h,hn,hc,hr=>by
  simp only[m9]at h;split at h
  ·cases h;refine⟨[],by simp,.nil,λan=>rfl,⟨[.nil],[],by simp,λan=>?_⟩,by simp[bj]⟩;exact AY (by simp only[den,cons_append,bI,pQ]) (by simp[den,refs])
  ·cases h
 | .f F fs cs,d,m,m',h,hn,hc,hr=>by
  simp only[m9]at h;split at h
  ·rename_i F' first caps
   split at h
   ·rename_i e;subst e;rw[aj]at h;obtain⟨m1,h1,h⟩:=h;have hm:=(yw cs _ m1 m' h).1;obtain⟨n1,a1,f',b1,⟨hs1,o1,p1,q1⟩,r1⟩:=AZ hi hv hrd ho fs _ m m1 h1 (λ q hq=>hn q (hm.1 q hq)) (λ q hq=>hc q (hm.2.1 q hq)) (λ q hq=>hr q (hm.2.2 q hq));obtain⟨n2,a2,c',b2,⟨hs2,o2,p2,q2⟩,r2⟩:=AZ hi hv hrd ho cs _ m1 m' h hn hc hr;refine⟨n1++n2,by rw[a2,a1,aN],.fn F f' c',λan=>by simp only[eP,aN,b1,b2],⟨.Th::(hs1++hs2),o1++o2,gY p1 p2,λan=>?_⟩,λj hj=>?_⟩
    ·simp only[den,cons_append,aN,sP,q1,ah,q2]
    ·simp only[bj,bf]at hj;exact hj.elim (r1 j) (r2 j)
   ·cases h
  ·cases h
 | .mp k,d,m,m',h,hn,hc,hr=>by
  simp only[m9]at h;split at h
  ·rename_i k';cases h;have hq:(k',k)∈NM:=hn _ (by simp);refine⟨[],by simp,.mp k,λan=>rfl,⟨[.mut k],[],by simp,λan=>?_⟩,λj hj=>?_⟩
   ·simp only[den,cons_append,bI,sP,hi _ hq,if_true]
   ·simp only[bj,aW]at hj;subst hj;exact .inl ⟨k,hq⟩
  ·cases h
 | .a ps,d,m,m',h,hn,hc,hr=>by
  simp only[m9]at h;split at h
  ·rename_i ds;have⟨n1,a1,f',b1,⟨hs1,o1,p1,q1⟩,r1⟩:=AZ hi hv hrd ho ps ds m m' h hn hc hr;refine⟨n1,a1,.agg f',λan=>by simp only[eP,b1],⟨.agw::hs1,o1,p1,λan=>?_⟩,λj hj=>r1 j (by simpa[bj]using hj)⟩;simp only[den,cons_append,sP,q1,ah]
  ·cases h
theorem AZ(hi:∀q∈NM,ag[q.2]? =some q.1)(hv:∀k∈ms,k∉ag)(hrd:∀k,(∃ q,(k,q)∈NM)\/k∈ms->k∈rd)(ho:∀q∈NM,∀c l,get q.1=some (.cY c l)->dc q.2=l.length):
 ∀(ps:List (Pt X.ι))(ds:List (DV X))(m m':MG X),oE get ps ds m=some m'->(∀ q∈m'.nm,q∈NM)->(∀ c∈m'.f7,c=true)->(∀ k∈m'.vr,k∈ms)->
 ∃az,m'.dC=m.dC++az/\∃ds',(∀ an,ia dc ps (az++an)=(ds',an))/\(∃ hs obs,(∀ p∈obs,p)/\∀an,mG P (dO rd (fJ get)) ag (bM ds) (hs++an)=some (bM ds',an,obs))/\∀j∈aV ds,(∃ q,(j,q)∈NM)\/j∈ms
 |[],[],m,m',h,_,_,_=>by
  simp only[oE,aC]at h;subst h;exact⟨[],by simp,[],λan=>rfl,⟨[],[],by simp,λan=>rfl⟩,by simp[aV]⟩
 |p::ps,d::ds,m,m',h,hn,hc,hr=>by
  simp only[oE]at h;have⟨m1,h1,h⟩:=aj.1 h;have hm:=(yw ps ds m1 m' h).1;obtain⟨n1,a1,d',b1,⟨hs1,o1,p1,q1⟩,r1⟩:=akD hi hv hrd ho p d m m1 h1 (λ q hq=>hn q (hm.1 q hq)) (λ q hq=>hc q (hm.2.1 q hq)) (λ q hq=>hr q (hm.2.2 q hq));have⟨n2,a2,ds',b2,⟨hs2,o2,p2,q2⟩,r2⟩:=AZ hi hv hrd ho ps ds m1 m' h hn hc hr;refine⟨n1++n2,by rw[a2,a1,aN],d'::ds',λan=>by simp only[ia,aN,b1,b2],⟨hs1++hs2,o1++o2,gY p1 p2,λan=>?_⟩,λj hj=>?_⟩
  ·simp only[bM,aN,mG,q1,ah,q2]
  ·simp only[aV,bf]at hj;exact hj.elim (r1 j) (r2 j)
 |[],_::_,m,m',h,_,_,_=>by simp[oE]at h
 |_::_,[],m,m',h,_,_,_=>by simp[oE]at h
end
theorem Bu:∀(rs:List (List (Pt X.ι)))(qs:List (List (DV X)))(m m':MG X),JS get rs qs m=some m'->ez m m'/\∃az,m'.dC=m.dC++az/\az.length=(yh rs).length
 |[],[],m,m',h=>by
  simp only[JS,aC]at h;subst h;exact⟨ez.refl _,[],by simp,rfl⟩
 |r::rs,q::qs,m,m',h=>by
  simp only[JS]at h;have⟨m1,h1,h⟩:=aj.1 h;have⟨a1,n1,b1,c1⟩:=yw r q m m1 h1;have⟨a2,n2,b2,c2⟩:=Bu rs qs m1 m' h;exact⟨a1.trans a2,n1++n2,by rw[b2,b1,aN],by simp[yh,c1,c2]⟩
 |[],_::_,m,m',h=>by simp[JS]at h
 |_::_,[],m,m',h=>by simp[JS]at h
theorem UY(hi:∀q∈NM,ag[q.2]? =some q.1)(hv:∀k∈ms,k∉ag)(hrd:∀k,(∃ q,(k,q)∈NM)\/k∈ms->k∈rd)(ho:∀q∈NM,∀c l,get q.1=some (.cY c l)->dc q.2=l.length):
 ∀(rs:List (List (Pt X.ι)))(qs:List (List (DV X)))(m m':MG X),JS get rs qs m=some m'->(∀ q∈m'.nm,q∈NM)->(∀ c∈m'.f7,c=true)->(∀ k∈m'.vr,k∈ms)->
 ∃az,m'.dC=m.dC++az/\∃zv,(∀ an,yu dc rs (az++an)=(zv,an))/\(∃ hs obs,(∀ p∈obs,p)/\Ig P (dO rd (fJ get)) ag (qs.map bM) hs=some (zv.map bM,obs))/\∀j∈(qs.map aV).flatten,(∃ q,(j,q)∈NM)\/j∈ms
 |[],[],m,m',h,_,_,_=>by
  simp only[JS,aC]at h;subst h;exact⟨[],by simp,[],λan=>rfl,⟨[],[],by simp,rfl⟩,by simp⟩
 |r::rs,q::qs,m,m',h,hn,hc,hr=>by
  simp only[JS]at h;have⟨m1,h1,h⟩:=aj.1 h;have hm:=(Bu rs qs m1 m' h).1;obtain⟨n1,a1,d',b1,⟨hs1,o1,p1,q1⟩,r1⟩:=AZ (P:=P) hi hv hrd ho r q m m1 h1 (λ q hq=>hn q (hm.1 q hq)) (λ q hq=>hc q (hm.2.1 q hq)) (λ q hq=>hr q (hm.2.2 q hq));have⟨n2,a2,ds',b2,⟨hs2,o2,p2,q2⟩,r2⟩:=UY hi hv hrd ho rs qs m1 m' h hn hc hr;refine⟨n1++n2,by rw[a2,a1,aN],d'::ds',λan=>by simp only[yu,aN,b1,b2],⟨hs1::hs2,o1++o2,gY p1 p2,?_⟩,λj hj=>?_⟩
  ·have:=q1 [];rw[append_nil]at this;simp only[aF,Ig,this,ah,q2]
  ·simp only[aF,flatten_cons,bf]at hj;exact hj.elim (r1 j) (r2 j)
 |[],_::_,m,m',h,_,_,_=>by simp[JS]at h
 |_::_,[],m,m',h,_,_,_=>by simp[JS]at h
theorem lS:∀(os:List (Nat×OP X.ι))(m m':MG X),Gc get os m=some m'->ez m m'/\∃az,m'.dC=m.dC++az/\az.length=(cx os).length
 |[],m,m',h=>by
  simp only[Gc,aC]at h;subst h;exact⟨ez.refl _,[],by simp,rfl⟩
 |(k,op)::r,m,m',h=>by
  simp only[Gc]at h;rw[aj]at h;obtain⟨o,h1,h⟩:=h;split at h
  ·rename_i c c' l;rw[aj]at h;obtain⟨l',h2,h⟩:=h;obtain⟨a2,n2,b2,c2⟩:=lS r _ m' h;refine⟨ez.trans (b:=⟨m.nm++[(m4 m k,k)],m.dC++[⟨.sl c,l'⟩],m.f7,m.vr⟩) ⟨λ _ h=>by simp[h],λ_ h=>h,λ_ h=>h⟩ a2,[⟨.sl c,l'⟩]++n2,?_,by simp[cx,c2]⟩;rw[b2,aN]
  ·rename_i kc vc qe pZ l;split at h
   ·rw[aj]at h;obtain⟨l',h2,h⟩:=h;obtain⟨a2,n2,b2,c2⟩:=lS r _ m' h;refine⟨ez.trans (b:=⟨m.nm++[(m4 m k,k)],m.dC++[⟨.mp kc vc,l'⟩],m.f7,m.vr⟩) ⟨λ _ h=>by simp[h],λ_ h=>h,λ_ h=>h⟩ a2,[⟨.mp kc vc,l'⟩]++n2,?_,by simp[cx,c2]⟩;rw[b2,aN]
   ·cases h
  ·rename_i sz rows sz' rows';split at h
   ·rw[aj]at h;obtain⟨m1,h2,h⟩:=h;obtain⟨a1,n1,b1,c1⟩:=Bu rows _ _ m1 h2;have⟨a2,n2,b2,c2⟩:=lS r m1 m' h;refine⟨ez.trans (ez.trans (b:=⟨m.nm++[(m4 m k,k)],m.dC,m.f7,m.vr⟩) ⟨λ _ h=>by simp[h],λ_ h=>h,λ_ h=>h⟩ a1) a2,n1++n2,?_,by simp[cx,c1,c2]⟩;rw[b2,b1,aN]
   ·cases h
  ·cases h
theorem Iu:∀(os:List (Nat×OP X.ι))(m m':MG X),Gc get os m=some m'->(∀ q∈m'.nm,q∈NM)->∃az,m'.dC=m.dC++az/\∀an,∀k∈os.map (·.1),∃k' o,(k',k)∈NM/\get k'=some o/\∀c l,o= .cY c l->(k,List.length l)∈lens os (az++an)
 |[],m,m',h,_=>by
  simp only[Gc,aC]at h;subst h;exact⟨[],by simp,λan k hk=>by simp at hk⟩
 |(k,op)::r,m,m',h,hn=>by
  simp only[Gc]at h;rw[aj]at h;obtain⟨o,h1,h⟩:=h;split at h
  ·rename_i c c' l;rw[aj]at h;obtain⟨l',h2,h⟩:=h;have hm:=(lS r _ m' h).1;obtain⟨n2,b2,c2⟩:=Iu r _ m' h hn;refine⟨[⟨.sl c,l'⟩]++n2,by rw[b2,aN],λan j hj=>?_⟩;simp only[aF,aK]at hj;simp only[aN,cons_append,bI,lens];by_cases hjk:j=k
   ·subst hjk;refine⟨_,_,hn _ (hm.1 _ (by simp)),h1,λc2 l2 he=>?_⟩;injection he with e1 e2;subst e1;have e2:=eq_of_heq e2;subst e2;have:=congrArg List.length (kP h2).2;simp only[length_map]at this;rw[this];exact List.mem_cons_self
   ·rcases hj with rfl |hj
    ·exact(hjk rfl).elim
    ·have⟨k',o',g1,g2,g3⟩:=c2 an j hj;exact⟨k',o',g1,g2,λc l he=>dD _ (g3 c l he)⟩
  ·rename_i kc vc qe pZ l;split at h
   ·rw[aj]at h;obtain⟨l',h2,h⟩:=h;have hm:=(lS r _ m' h).1;obtain⟨n2,b2,c2⟩:=Iu r _ m' h hn;refine⟨[⟨.mp kc vc,l'⟩]++n2,by rw[b2,aN],λan j hj=>?_⟩;simp only[aF,aK]at hj;simp only[aN,cons_append,bI,lens,List.drop_succ_cons,List.drop_zero];by_cases hjk:j=k
    ·subst hjk;exact⟨_,_,hn _ (hm.1 _ (by simp)),h1,λc2 l2 he=>by cases he⟩
    ·rcases hj with rfl |hj
     ·exact(hjk rfl).elim
     ·exact c2 an j hj
   ·cases h
  ·rename_i sz rows sz' rows';split at h
   ·have⟨m1,h2,h⟩:=aj.1 h;obtain⟨a1,n1,b1,c1⟩:=Bu rows _ _ m1 h2;have hm:=(lS r _ m' h).1;obtain⟨n2,b2,c2⟩:=Iu r _ m' h hn;refine⟨n1++n2,by rw[b2,b1,aN],λan j hj=>?_⟩;simp only[aF,aK]at hj;have hd:(n1++n2++an).drop (yh rows).length=n2++an:=(by rw[<- c1,aN,List.drop_left]);simp only[lens,hd];by_cases hjk:j=k
    ·subst hjk;exact⟨_,_,hn _ (hm.1 _ (a1.1 _ (by simp))),h1,λc2 l2 he=>by cases he⟩
    ·rcases hj with rfl |hj
     ·exact(hjk rfl).elim
     ·exact c2 an j hj
   ·cases h
  ·cases h
theorem Iw:∀(os:List (Nat×OP X.ι))(L:List (DC X)),((lens os L).map (·.1)).Sublist (os.map (·.1))
 |[],_=>by simp[lens]
 |(k,.l c)::r,L=>by
  simp only[lens];split
  ·exact(Iw r _).cons_cons _
  ·exact List.nil_sublist _
 |(k,.m kc vc)::r,L=>by
  simp only[lens];exact(Iw r _).cons _
 |(k,.c sz rows)::r,L=>by
  simp only[lens];exact(Iw r _).cons _
def akE(get':Nat->Option aX)(NM:List (Nat×Nat))(ms:List Nat)(bs:List OB)(ks:List Nat):Prop:=
 ∀(j:Nat) hs q o,bs[j]? =some (.z9 hs)->ks[j]? =some q->get' q=some o->∀k∈Xz o,(∃ z,(k,z)∈NM)\/k∈ms
theorem Qs{sz:Nat}{rows:List (List (DV X))}{k:Nat}(h:k∈Xz (bJ (.cells sz rows))):k∈(rows.map aV).flatten:=by
 simp only[Xz,bJ,List.mem_flatMap,mem_map]at h;obtain⟨a,⟨r,hr,rfl⟩,hk⟩:=h;rw[iy]at hk;exact List.mem_flatten.2 ⟨_,mem_map.2 ⟨r,hr,rfl⟩,hk⟩
theorem Eb(hi:∀q∈NM,ag[q.2]? =some q.1)(hv:∀k∈ms,k∉ag)(hrd:∀k,(∃ q,(k,q)∈NM)\/k∈ms->k∈rd)(ho:∀q∈NM,∀c l,get q.1=some (.cY c l)->dc q.2=l.length):
 ∀(os:List (Nat×OP X.ι))(m m':MG X),Gc get os m=some m'->(∀ q∈m'.nm,q∈NM)->(∀ c∈m'.f7,c=true)->(∀ k∈m'.vr,k∈ms)->
 ∃az,m'.dC=m.dC++az/\∃xs:List (Nat×bk X),(∀ an,dx dc os (az++an)=xs.map λp=>(p.1,some p.2))/\
  ∃bs mo,(∀ p∈mo,p)/\KX P (dO rd (fJ get)) ag (os.map λp=>(ag[p.1]?).getD 0) bs=some (xs.map λp=>bJ p.2,mo)/\akE (dO rd (fJ get)) NM ms bs (os.map λp=>(ag[p.1]?).getD 0)
 |[],m,m',h,_,_,_=>by
  simp only[Gc,aC]at h;subst h;exact⟨[],by simp,[],λan=>rfl,[],[],by simp,rfl,λj hs q o h=>by simp at h⟩
 |(k,op)::r,m,m',h,hn,hc,hr=>by
  simp only[Gc]at h;rw[aj]at h;obtain⟨o,h1,h⟩:=h;split at h
  ·rename_i c c' l;have⟨l',h2,h⟩:=aj.1 h;have hm:=(lS r _ m' h).1;have hq:(m4 m k,k)∈NM:=hn _ (hm.1 _ (by simp));have hid:(ag[k]?).getD 0=m4 m k:=(by rw[hi _ hq];rfl);have hget:=dU (hrd (m4 m k) (.inl ⟨k,hq⟩)) h1;have⟨h3,h4⟩:=kP h2;obtain⟨n2,a2,xs,b2,bs,mo,p2,q2,r2⟩:=Eb hi hv hrd ho r _ m' h hn hc hr;refine⟨[⟨.sl c,l'⟩]++n2,by rw[a2,aN],(k,.cY c l')::xs,λan=>by simp only[aN,cons_append,bI,dx,b2,aF],.dat (CT.sz X c,l'.map (CT.row X.toSE c))::bs,((bJ (.cY c' l)).sz=CT.sz X c/\dX ((bJ (.cY c' l)).rows.take (l'.map (CT.row X.toSE c)).length)=aS (l'.map (CT.row X.toSE c)))::mo,?_,?_,?_⟩
   ·intro p hp;rcases aK.1 hp with rfl |hp
    ·refine⟨h3,?_⟩;simp only[bJ,h4];rw[take_of_length_le (by simp[aS])];simp[dX,aS,Function.comp_def,wk]
    ·exact p2 p hp
   ·simp only[aF,KX,A4,hid,hget,ah,q2,cons_append,bI];rfl
   ·intro j hs q o' hj hq' ho';cases j with
    |zero=>simp at hj
    |succ j=>exact r2 j hs q o' (by simpa using hj) (by simpa using hq') ho'
  ·rename_i kc vc qe pZ l;split at h
   ·rename_i hone;have⟨l',h2,h⟩:=aj.1 h;have hm:=(lS r _ m' h).1;have hq:(m4 m k,k)∈NM:=hn _ (hm.1 _ (by simp));have hid:(ag[k]?).getD 0=m4 m k:=(by rw[hi _ hq];rfl);have hget:=dU (hrd (m4 m k) (.inl ⟨k,hq⟩)) h1;have hden:bJ (.map qe pZ l)=bJ (.map kc vc l'):=by
     have⟨e,h2⟩:=lQ h2;injection e with e1 e2;subst e1;subst e2;subst h2;rfl
    have hab:bJ (.map kc vc l')=fg (List.length l',l'.map λq=>CT.row X.toSE kc q.1++CT.row X.toSE vc q.2):=by
     simp only[bJ,fg,aS,map_map];congr 1;refine map_congr_left λq _=>?_;obtain⟨t1,g1,g2⟩:=row_one hone.1 q.1;obtain⟨t2,g3,g4⟩:=row_one hone.2 q.2;simp[g1,g2,g3,g4,TV.av]
    obtain⟨n2,a2,xs,b2,bs,mo,p2,q2,r2⟩:=Eb hi hv hrd ho r _ m' h hn hc hr;refine⟨[⟨.mp kc vc,l'⟩]++n2,by rw[a2,aN],(k,.map kc vc l')::xs,λan=>by simp only[aN,cons_append,bI,dx,b2,aF],.dat (List.length l',l'.map λq=>CT.row X.toSE kc q.1++CT.row X.toSE vc q.2)::bs,((bJ (.map qe pZ l)).sz=List.length l'/\dX ((bJ (.map qe pZ l)).rows.take (l'.map λq=>CT.row X.toSE kc q.1++CT.row X.toSE vc q.2).length)=aS (l'.map λq=>CT.row X.toSE kc q.1++CT.row X.toSE vc q.2))::mo,?_,?_,?_⟩
    ·intro p hp;rcases aK.1 hp with rfl |hp
     ·rw[hden,hab];refine⟨rfl,?_⟩;simp only[fg];rw[take_of_length_le (by simp[aS])];simp[dX,aS,Function.comp_def,wk]
     ·exact p2 p hp
    ·simp only[aF,KX,A4,hid,hget,ah,q2,cons_append,bI,hab]
    ·intro j hs q o' hj hq' ho';cases j with
     |zero=>simp at hj
     |succ j=>exact r2 j hs q o' (by simpa using hj) (by simpa using hq') ho'
   ·cases h
  ·rename_i sz rows sz' rows';split at h
   ·rename_i hsz;have⟨m1,h2,h⟩:=aj.1 h;have hm1:=(Bu rows _ _ m1 h2).1;have hm:=(lS r _ m' h).1;have hq:(m4 m k,k)∈NM:=hn _ (hm.1 _ (hm1.1 _ (by simp)));have hid:(ag[k]?).getD 0=m4 m k:=(by rw[hi _ hq];rfl);have hget:=dU (hrd (m4 m k) (.inl ⟨k,hq⟩)) h1;obtain⟨n1,a1,qs,b1,⟨hs1,o1,p1,q1⟩,r1⟩:=UY (P:=P) hi hv hrd ho rows _ _ m1 h2 (λ q hq=>hn q (hm.1 q hq)) (λ q hq=>hc q (hm.2.1 q hq)) (λ q hq=>hr q (hm.2.2 q hq));obtain⟨n2,a2,xs,b2,bs,mo,p2,q2,r2⟩:=Eb hi hv hrd ho r _ m' h hn hc hr;subst hsz;refine⟨n1++n2,by rw[a2,a1,aN],(k,.cells sz qs)::xs,λan=>by simp only[aN,dx,b1,b2,aF],.z9 hs1::bs,o1++mo,gY p1 p2,?_,?_⟩
    ·simp only[aF,KX,A4,hid,hget,ah,bJ,q1,q2]
    ·intro j hs q o' hj hq' ho';cases j with
     |zero=>
      simp only[aF,List.getElem?_cons_zero,aC]at hq';rw[<- hq',hid,hget]at ho';injection ho' with ho';subst ho';exact λz hz=>r1 z (Qs hz)
     |succ j=>exact r2 j hs q o' (by simpa using hj) (by simpa using hq') ho'
   ·cases h
  ·cases h
end
end
end Go.Gb
