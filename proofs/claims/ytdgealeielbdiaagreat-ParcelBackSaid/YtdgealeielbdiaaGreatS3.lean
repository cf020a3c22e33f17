/-
  What parcel's form of rectangles comes to: the form of their cells.
-/
import Derived.Test.YtdgealeielbdiaaGreatS2
open Go.IntKind (i64)
open Option (bind_some)
open List (map_cons mem_cons append_assoc length_take mem_map all_eq_true mem_singleton nil_append length_append)
open Bool (and_eq_true)
namespace Go.Proofs
open Go.Gb Go.RowKit
abbrev ltY (a b:GRect):Bool:=decide (a.y0 < b.y0)
theorem swo_ltY:Go.Sort.SWO ltY where
 irrefl x:=by simp[ltY]
 trans x y z h1 h2:=by simp only[ltY,decide_eq_true_eq]at *;omega
 ntrans x y z h1 h2:=by simp only[ltY,decide_eq_false_iff_not]at *;omega
instance:Inhabited GRect:=⟨GRect.mk 0 0 0 0⟩
theorem pdqb_Rect (n:Nat) (rc:List GRect→Int→Int→Int→((GRect×GRect×Unit)→Option Int)→Option (List GRect)) (φ:(GRect×GRect×Unit)→Option Int) (l:List GRect) (a b d:Int):sl_pdqsortCmpFunc_Rect_b n rc l a b d φ=gPdqsort_b (fun x y=>φ (x,y,())) (fun r=>decide (r < 0)) sl_nextPowerOfTwo sl_xorshift_Next n (fun l a b d=>rc l a b d φ) l a b d:=by kernel_rfl
theorem pdqm_Rect (n:Nat) (φ:(GRect×GRect×Unit)→Option Int):∀ m l a b d,sl_pdqsortCmpFunc_Rect_m n m l a b d φ=gPdqsort_m (fun x y=>φ (x,y,())) (fun r=>decide (r < 0)) sl_nextPowerOfTwo sl_xorshift_Next n m l a b d
 | 0,l,a,b,d=>rfl
 |m+1,l,a,b,d=>by
  have e:(fun l a b d=>sl_pdqsortCmpFunc_Rect_m n m l a b d φ)=gPdqsort_m (fun x y=>φ (x,y,())) (fun r=>decide (r < 0)) sl_nextPowerOfTwo sl_xorshift_Next n m:=by
   funext l a b d
   exact pdqm_Rect n φ m l a b d
  show sl_pdqsortCmpFunc_Rect_b n (sl_pdqsortCmpFunc_Rect_m n m) l a b d φ=gPdqsort_b (fun x y=>φ (x,y,())) (fun r=>decide (r < 0)) sl_nextPowerOfTwo sl_xorshift_Next n (gPdqsort_m (fun x y=>φ (x,y,())) (fun r=>decide (r < 0)) sl_nextPowerOfTwo sl_xorshift_Next n m) l a b d
  rw[← e]
  exact pdqb_Rect n (sl_pdqsortCmpFunc_Rect_m n m) φ l a b d
theorem sl_SortFunc_Rect_eq {n:Nat} {l:List GRect} {φ:(GRect×GRect×Unit)→Option Int} (f:GRect→GRect→Int) (hφ:∀ x y,φ (x,y,())=some (f x y)) (hf:∀ x y,decide (f x y < 0)=ltY x y) (hl:l.length < 1099511627776) (hn:l.length < n):sl_SortFunc_Rect n l φ=some (sortG ltY l):=by
 unfold sl_SortFunc_Rect sl_pdqsortCmpFunc_Rect
 rw[wrap_u64n (by omega),bits_Len_eq (by omega)]
 simp only[bind_some,eqL_self,cond_true,pdqm_Rect]
 rw[gPdqsort_sorts (lt:=ltY) swo_ltY (f:=f) (q:=fun r=>decide (r < 0)) hφ hf nptOk xshOk (by omega) hn hn]
 rfl
def spanR (r:GRect):Gspan:=⟨r.y0,r.y1⟩
theorem rectsL_span (x0 x1:Int) (c:List Gspan):(rectsL x0 x1 c).map spanR=c:=by
 unfold rectsL
 rw[List.map_map]
 exact List.map_id'' (fun s=>rfl) c
theorem rectsL_len (x0 x1:Int) (c:List Gspan):(rectsL x0 x1 c).length=c.length:=by simp[rectsL]
theorem rectsL_get {x0 x1:Int} {c:List Gspan} {i:Nat} (h:i < c.length):at? (rectsL x0 x1 c) (i:Int)=some ⟨x0,c[i].from_,x1,c[i].to⟩:=by
 rw[at_get (by rw[rectsL_len];exact h)]
 simp[rectsL]
theorem rectsL_of {x0 x1:Int}:∀ {L:List GRect},(∀ r∈L,r.x0=x0∧r.x1=x1)→L=rectsL x0 x1 (L.map spanR)
 |[],_=>rfl
 |r::L,h=>by
  have h1:=h r List.mem_cons_self
  have h2:=rectsL_of (L:=L) fun q hq=>h q (List.mem_cons_of_mem _ hq)
  show r::L=⟨x0,r.y0,x1,r.y1⟩::rectsL x0 x1 (L.map spanR)
  rw[← h2]
  obtain⟨a,b,c,d⟩:=r
  obtain⟨rfl,rfl⟩:=h1
  rfl
def spansIn (l:List GRect) (x0 x1:Int):List Gspan:=(l.filter fun r=>decide (r.x0≤x0)&&decide (x1≤r.x1)).map spanR
theorem pc_column_s1_run {l:List GRect} {x0 x1:Int} (hl:l.length < 1099511627776) {n:Nat} (hn:l.length < n):iter (pc_column_s1 l x0 x1) n ((0:Int),([]:List GRect))=some (rectsL x0 x1 (spansIn l x0 x1)):=by
 have:=iter_foldI (l:=l) (step:=pc_column_s1 l x0 x1) (fun i (s:List GRect)=>((i:Int),s)) (fun r s=>bif decide (r.x0≤x0)&&decide (x1≤r.x1)then s++[⟨x0,r.y0,x1,r.y1⟩]else s) (fun s=>s) (fun i s=>s.length≤i)
  (fun i hi s hs=>?_) (fun s hs=>by simp[pc_column_s1]) n hn [] (Nat.le_refl _)
 ·rw[show ((0:Nat):Int)=0 from rfl]at this
  rw[this]
  congr 1
  have gen:∀ (ys:List GRect) (s:List GRect),ys.foldl (fun s r=>bif decide (r.x0≤x0)&&decide (x1≤r.x1)then s++[⟨x0,r.y0,x1,r.y1⟩]else s) s=s++rectsL x0 x1 (spansIn ys x0 x1):=by
   intro ys
   induction ys with
   |nil=>intro s;simp[spansIn,rectsL]
   |cons y ys ih=>
    intro s
    simp only[List.foldl_cons,ih]
    cases h:(decide (y.x0≤x0)&&decide (x1≤y.x1))with
    |true=>simp[spansIn,h,rectsL,spanR]
    |false=>simp[spansIn,h]
  simpa using gen l []
 ·have hi':decide (((i:Nat):Int) < (l.length:Int))=true:=by simpa using hi
  have ap:appOk s.length s.length (sub ([(GRect.mk x0 l[i].y0 x1 l[i].y1)]:List GRect) 0 1).length 1 32=true:=appOk_true (n:=1) (by omega) (by simp only[maxLen];omega)
  simp only[pc_column_s1,hi',cond_true,at_get hi,bind_some,bifand]
  cases h:(decide (l[i].x0≤x0)&&decide (x1≤l[i].x1))with
  |true=>
   simp only[cond_true,ap,letv_eq,eqL_self,bind_some]
   refine⟨?_,by simp;omega⟩
   rw[wrap_succ (by omega)];rfl
  |false=>
   simp only[cond_false,eqL_self,cond_true,bind_some]
   exact⟨by rw[wrap_succ (by omega)],by omega⟩
theorem pc_column_s2_run {n:Nat} {x0 x1:Int} (w1:List GRect) (T:List Gspan) (hw:w1.length=T.length) (hl:T.length < 1099511627776) (hn:T.length < n):iter (pc_column_s2 w1 (rectsL x0 x1 T)) n ((0:Int),([]:List GRect))=some (rectsL x0 x1 (T.foldl mrg [])):=by
 have:=iter_foldI (l:=T) (step:=pc_column_s2 w1 (rectsL x0 x1 T)) (fun i (s:List Gspan)=>((i:Int),rectsL x0 x1 s)) (fun r s=>mrg s r) (fun s=>rectsL x0 x1 s) (fun i s=>s.length≤i)
  (fun i hi s hs=>?_) (fun s hs=>by simp[pc_column_s2,hw]) n hn [] (Nat.le_refl _)
 ·rw[show ((0:Nat):Int)=0 from rfl]at this
  exact this
 ·refine⟨?_,by have:=length_mrg s T[i];omega⟩
  have hi':decide (((i:Nat):Int) < ((w1.length:Nat):Int))=true:=by simp;omega
  have ib:inb (i:Int) w1.length=true:=inb_get (by omega)
  have g0:at? (rectsL x0 x1 T) (((0:Nat):Int)+(i:Int))=some ⟨x0,T[i].from_,x1,T[i].to⟩:=by
   rw[show ((0:Nat):Int)+(i:Int)=(i:Int)by simp];exact rectsL_get hi
  have s1:∀ r:GRect,(sub ([r]:List GRect) 0 1)=[r]:=fun _=>rfl
  have ap:∀ r:GRect,appOk (rectsL x0 x1 s).length (rectsL x0 x1 s).length ([r]:List GRect).length 1 32=true:=fun r=>appOk_true (n:=1) (by rw[rectsL_len];omega) (by rw[rectsL_len];simp only[maxLen];omega)
  simp only[pc_column_s2,hi',cond_true,ib,g0,bind_some,s1,ap]
  rcases List.eq_nil_or_concat s with rfl |⟨s0,q,hsq⟩
  ·have d0:decide ((((rectsL x0 x1 []).length:Nat):Int)>0)=false:=by simp[rectsL]
   simp only[d0,cond_false,bind_some,cond_true,letv_eq,eqL_self]
   rw[wrap_succ (by omega)]
   rfl
  ·rw[List.concat_eq_append]at hsq
   subst hsq
   have lenq:(s0++[q]).length=s0.length+1:=by simp
   have e0:rectsL x0 x1 (s0++[q])=rectsL x0 x1 s0++[⟨x0,q.from_,x1,q.to⟩]:=by simp[rectsL]
   have l0:(rectsL x0 x1 (s0++[q])).length=s0.length+1:=by rw[rectsL_len,lenq]
   have d0:decide (((((rectsL x0 x1 (s0++[q])).length:Nat):Int))>0)=true:=by rw[l0];simp<;>omega
   have wp:i64.wrap ((((rectsL x0 x1 (s0++[q])).length:Nat):Int) - 1)=((s0.length:Nat):Int):=by rw[wrap_pred (by rw[l0];omega) (by rw[l0];omega),l0];rfl
   have ib2:inb ((s0.length:Nat):Int) (rectsL x0 x1 (s0++[q])).length=true:=inb_get (by rw[l0];omega)
   have g:at? (rectsL x0 x1 (s0++[q])) (((0:Nat):Int)+((s0.length:Nat):Int))=some ⟨x0,q.from_,x1,q.to⟩:=by
    rw[at_natz,e0,List.getElem?_append_right (by rw[rectsL_len];exact Nat.le_refl _),rectsL_len];simp
   have z:(((0:Nat):Int)+((s0.length:Nat):Int)).toNat=s0.length:=by simp
   have st:(rectsL x0 x1 (s0++[q])).set s0.length (GRect.mk x0 q.from_ x1 (max q.to T[i].to))=rectsL x0 x1 (s0++[⟨q.from_,max q.to T[i].to⟩]):=by
    rw[e0,List.set_append_right _ _ (by rw[rectsL_len];exact Nat.le_refl _),rectsL_len]
    simp[rectsL]
   have m:mrg (s0++[q]) T[i]=bif decide (T[i].from_≤q.to)then s0++[⟨q.from_,max q.to T[i].to⟩]else s0++[q]++[T[i]]:=by
    simp[mrg]
   simp only[d0,cond_true,wp,ib2,g,bind_some,m,z,st]
   cases decide (T[i].from_≤q.to)with
   |true=>
    have e:eqL (rectsL x0 x1 (s0++[q])).length (rectsL x0 x1 (s0++[(⟨q.from_,max q.to T[i].to⟩:Gspan)])).length=true:=by rw[rectsL_len,rectsL_len];simp
    simp only[cond_true,e,bind_some,eqL_self]
    rw[wrap_succ (by omega)]
   |false=>
    simp only[cond_false,cond_true,letv_eq,eqL_self,bind_some]
    rw[wrap_succ (by omega)]
    simp[rectsL]
theorem pc_column_eq {n:Nat} {l:List GRect} {x0 x1:Int} (hv:∀ r∈l,OkR r=true) (ha:∀ r∈l,(decide (r.x0≤x0)&&decide (x1≤r.x1))=(decide (r.x0≤x0)&&decide (x0 < r.x1)))
 (hl:l.length < 1099511627776) (hn:l.length < n):pc_column n l x0 x1=some (rectsL x0 x1 (columnL l x0)):=by
 have hs:spansIn l x0 x1=spansAt l x0:=by
  unfold spansIn spansAt
  rw[List.filter_congr ha]
  rfl
 have h1:=length_spansAt l x0
 have hp:=sortG_perm swo_ltY (rectsL x0 x1 (spansAt l x0))
 have hso:=sortG_sorted swo_ltY (rectsL x0 x1 (spansAt l x0))
 have h2:(sortG ltY (rectsL x0 x1 (spansAt l x0))).length=(spansAt l x0).length:=by rw[length_sortG swo_ltY,rectsL_len]
 unfold pc_column
 simp only[List.length_nil,eqL_self,cond_true,pc_column_s1_run (x0:=x0) (x1:=x1) (l:=l) (by omega) (n:=n) (by omega),bind_some,hs]
 rw[sl_SortFunc_Rect_eq (fun a b=>if a.y0 < b.y0 then -1 else if b.y0 < a.y0 then 1 else 0) (fun a b=>by show pc_column_f1 a b=_;unfold pc_column_f1;rw[cmp_Compare_int_eq];rfl) (fun a b=>by
  by_cases h1:a.y0 < b.y0
  ·simp[h1]
  ·by_cases h2:b.y0 < a.y0<;>simp[h1,h2]) (by rw[rectsL_len];omega) (by rw[rectsL_len];omega)]
 simp only[bind_some]
 generalize hL:sortG ltY (rectsL x0 x1 (spansAt l x0))=L at*
 have hx:∀ r∈L,r.x0=x0∧r.x1=x1:=by
  intro r hr
  have:=hp.mem_iff.1 hr
  simp only[rectsL,mem_map]at this
  obtain⟨s,_,rfl⟩:=this
  exact⟨rfl,rfl⟩
 have eL:=rectsL_of hx
 have pT:(L.map spanR).Perm (spansAt l x0):=by
  have:=hp.map spanR
  rw[rectsL_span]at this
  exact this
 have sT:(L.map spanR).Pairwise fun x y=>x.from_≤y.from_:=by
  rw[List.pairwise_map]
  refine hso.imp fun {a b} hab=>?_
  simp only[ltY,decide_eq_false_iff_not]at hab
  show a.y0≤b.y0
  omega
 generalize L.map spanR=T at eL pT sT
 subst eL
 rw[rectsL_len]at h2
 rw[pc_column_s2_run _ T (by rw[rectsL_len];omega) (by omega) (by omega)]
 simp only[bind_some,sub_all,eqL_self,cond_true]
 have oT:∀ s∈T,OkS s:=fun s h=>spansAt_ok hv x0 s (pT.mem_iff.1 h)
 obtain⟨c1,c2⟩:=foldl_mrg T [] can_nil oT sT (by simp)
 obtain⟨d1,d2⟩:=columnL_spec hv x0
 rw[can_unique c1 d1 fun y=>by rw[c2,d2,inS_nil,Bool.false_or,inS_perm pT,inS_spansAt]]
theorem wrGo_new (s t:Gstrip) (h:s.column≠t.column):∀ (S:List Gstrip) (x0 x1:Int) (c:List Gspan),wrGo x0 x1 c (S++[t,s])=wrGo x0 x1 c (S++[t])++rectsL s.x0 s.x1 s.column
 |[],x0,x1,c=>by
  simp only[nil_append,wrGo]
  split
  ·rename_i e
   rw[if_neg (fun h'=>h (h'.trans e.symm))]
  ·rw[append_assoc]
 |a::S,x0,x1,c=>by
  simp only[List.cons_append,wrGo]
  split
  ·exact wrGo_new s t h S _ _ _
  ·rw[wrGo_new s t h S,append_assoc]
theorem wrGo_same (s t:Gstrip) (h:s.column=t.column):∀ (S:List Gstrip) (x0 x1:Int) (c:List Gspan),∃ pre x',wrGo x0 x1 c (S++[t])=pre++rectsL x' t.x1 t.column∧wrGo x0 x1 c (S++[t,s])=pre++rectsL x' s.x1 t.column
 |[],x0,x1,c=>by
  simp only[nil_append,wrGo]
  split
  ·rename_i e
   refine⟨[],x0,by rw[e];rfl,?_⟩
   rw[if_pos (h.trans e),e];rfl
  ·exact⟨rectsL x0 x1 c,t.x0,rfl,rfl⟩
 |a::S,x0,x1,c=>by
  simp only[List.cons_append,wrGo]
  split
  ·exact wrGo_same s t h S _ _ _
  ·obtain⟨pre,x',h1,h2⟩:=wrGo_same s t h S a.x0 a.x1 a.column
   exact⟨rectsL x0 x1 c++pre,x',by rw[h1,append_assoc],by rw[h2,append_assoc]⟩
theorem writeL_new (s t:Gstrip) (h:s.column≠t.column) (S:List Gstrip):writeL (S++[t,s])=writeL (S++[t])++rectsL s.x0 s.x1 s.column:=by
 cases S with
 |nil=>simp only[nil_append,writeL,wrGo,if_neg h]
 |cons a S=>exact wrGo_new s t h S _ _ _
theorem writeL_same (s t:Gstrip) (h:s.column=t.column) (S:List Gstrip):∃ pre x',writeL (S++[t])=pre++rectsL x' t.x1 t.column∧writeL (S++[t,s])=pre++rectsL x' s.x1 t.column:=by
 cases S with
 |nil=>exact⟨[],t.x0,rfl,by simp only[nil_append,writeL,wrGo,if_pos h]⟩
 |cons a S=>exact wrGo_same s t h S _ _ _
theorem eqfR {n:Nat} {x0 x1 u0 u1:Int} {c d:List Gspan} (hl:c.length < 1099511627776) (hn:c.length < n):
 sl_EqualFunc_Rect_Rect n (rectsL x0 x1 c) (rectsL u0 u1 d) (fun y:GRect×GRect×Unit=>pc_form_f1 y.1 y.2.1)=some (decide (c=d)):=by
 unfold sl_EqualFunc_Rect_Rect
 rw[rectsL_len,rectsL_len]
 by_cases hlen:c.length=d.length
 ·have h0:(((c.length:Nat):Int) != ((d.length:Nat):Int))=false:=by simp[hlen]
  rw[h0]
  have zl:(c.zip d).length=c.length:=by rw[List.length_zip];omega
  have:=iter_find (l:=c.zip d) (step:=sl_EqualFunc_Rect_Rect_s1 (rectsL x0 x1 c) (rectsL u0 u1 d) (fun y:GRect×GRect×Unit=>pc_form_f1 y.1 y.2.1)) (fun i=>((i:Nat):Int)) (fun z=>!decide (z.1=z.2)) () (fun _=>false) (fun i hi=>?_) ?_ n (by omega)
  ·rw[show ((0:Nat):Int)=0 from rfl]at this
   simp only[cond_false]
   rw[this]
   rcases findL_spec (fun z:Gspan×Gspan=>!decide (z.1=z.2)) (c.zip d)with ⟨i,hi,h1,h2,_⟩ |⟨h1,h2⟩
   ·rw[h1]
    have:c≠d:=by
     intro e
     subst e
     simp at h2
    simp[this]
   ·rw[h1]
    have:c=d:=by
     refine List.ext_getElem hlen fun i hi hj=>?_
     have hm:(c[i],d[i])∈c.zip d:=by
      rw[List.mem_iff_getElem]
      exact⟨i,by omega,by simp⟩
     have:=h2 _ hm
     simpa using this
    simp[this]
  ·have hic:i < c.length:=by omega
   have hid:i < d.length:=by omega
   have hi':decide (((i:Nat):Int) < (((rectsL x0 x1 c).length:Nat):Int))=true:=by rw[rectsL_len];simpa using hic
   simp only[sl_EqualFunc_Rect_Rect_s1,hi',cond_true,rectsL_get hic,rectsL_get hid,bind_some,List.getElem_zip]
   generalize c[i]=p
   generalize d[i]=q
   obtain⟨p1,p2⟩:=p
   obtain⟨q1,q2⟩:=q
   have e:decide ((⟨p1,p2⟩:Gspan)=⟨q1,q2⟩)=((p1==q1)&&(p2==q2)):=by
    rw[Bool.eq_iff_iff];simp
   rw[e]
   unfold pc_form_f1
   simp only
   rw[wrap_succ (by omega)]
   cases p1==q1<;>cases p2==q2<;>rfl
  ·have hi':decide ((((c.zip d).length:Nat):Int) < (((rectsL x0 x1 c).length:Nat):Int))=false:=by rw[rectsL_len,zl];simp
   simp only[sl_EqualFunc_Rect_Rect_s1,hi',cond_false]
 ·have h0:(((c.length:Nat):Int) != ((d.length:Nat):Int))=true:=by
   rw[bne_iff_ne];omega
  rw[h0]
  have:c≠d:=fun e=>hlen (by rw[e])
  simp[this]
theorem pc_form_s1_run {n:Nat} {l:List GRect} (hl:l.length < 10995116277) (hn:l.length < n):iter (pc_form_s1 l) n ((0:Int),([]:List Int))=some (l.flatMap fun r=>[r.x0,r.x1]):=by
 have:=iter_foldI (l:=l) (step:=pc_form_s1 l) (fun i (s:List Int)=>((i:Int),s)) (fun r s=>s++[r.x0,r.x1]) (fun s=>s) (fun i s=>s.length≤2*i)
  (fun i hi s hs=>?_) (fun s hs=>by simp[pc_form_s1]) n hn [] (Nat.le_refl _)
 ·rw[show ((0:Nat):Int)=0 from rfl]at this
  rw[this]
  have gen:∀ (ys:List GRect) (s:List Int),ys.foldl (fun s r=>s++[r.x0,r.x1]) s=s++ys.flatMap fun r=>[r.x0,r.x1]:=by
   intro ys
   induction ys with
   |nil=>intro s;simp
   |cons y ys ih=>intro s;simp[ih]
  congr 1
  simpa using gen l []
 ·have hi':decide (((i:Nat):Int) < ((l.length:Nat):Int))=true:=by simpa using hi
  have ap:appOk s.length s.length (sub ([l[i].x0,l[i].x1]:List Int) 0 2).length 2 8=true:=appOk_true (n:=2) (by omega) (by simp only[maxLen];omega)
  simp only[pc_form_s1,hi',cond_true,at_get hi,bind_some,ap,letv_eq,eqL_self]
  refine⟨?_,by simp;omega⟩
  rw[wrap_succ (by omega)];rfl
theorem pc_form_s3_run {n:Nat} (es:List Int) (i:Nat) (hi:i+1 < es.length) (he:es.length < 1099511627776) (pre:List GRect) (x' x1:Int) (c:List Gspan) (hl:pre.length+c.length < 1099511627776) (hn:c.length < n):
 iter (pc_form_s3 ((),es) (i:Int) (pre++rectsL x' x1 c)) n (((pre.length:Nat):Int),pre++rectsL x' x1 c)=some (pre++rectsL x' es[i+1] c):=by
 have:=iter_to (step:=pc_form_s3 ((),es) (i:Int) (pre++rectsL x' x1 c)) (fun j=>(((pre.length+j:Nat):Int),pre++(rectsL x' es[i+1] (c.take j)++rectsL x' x1 (c.drop j)))) c.length (pre++rectsL x' es[i+1] c) (fun j hj=>?_) ?_ n hn
 ·simpa[rectsL]using this
 ·have lt:(pre++rectsL x' x1 c).length=pre.length+c.length:=by rw[length_append,rectsL_len]
  have d:decide (((pre.length+j:Nat):Int) < (((pre++rectsL x' x1 c).length:Nat):Int))=true:=by rw[lt];simp;omega
  have w:i64.wrap ((i:Int)+1)=((i+1:Nat):Int):=wrap_succ (by omega)
  have ib:inb ((pre.length+j:Nat):Int) (pre++rectsL x' x1 c).length=true:=inb_get (by rw[lt];omega)
  have tl:(rectsL x' es[i+1] (c.take j)).length=j:=by rw[rectsL_len,length_take];omega
  have dr:c.drop j=c[j]::c.drop (j+1):=List.drop_eq_getElem_cons hj
  have e1:rectsL x' x1 (c.drop j)=⟨x',c[j].from_,x1,c[j].to⟩::rectsL x' x1 (c.drop (j+1)):=by rw[dr];rfl
  have g:at? (pre++(rectsL x' es[i+1] (c.take j)++rectsL x' x1 (c.drop j))) (((0:Nat):Int)+((pre.length+j:Nat):Int))=some ⟨x',c[j].from_,x1,c[j].to⟩:=by
   rw[at_natz,List.getElem?_append_right (by omega),List.getElem?_append_right (by omega),tl,e1]
   simp
  have z:(((0:Nat):Int)+((pre.length+j:Nat):Int)).toNat=pre.length+j:=by omega
  have sn:rectsL x' es[i+1] (c.take j++[c[j]])=rectsL x' es[i+1] (c.take j)++[GRect.mk x' c[j].from_ es[i+1] c[j].to]:=by unfold rectsL;rw[List.map_append];rfl
  have st:(pre++(rectsL x' es[i+1] (c.take j)++rectsL x' x1 (c.drop j))).set (pre.length+j) (GRect.mk x' c[j].from_ es[i+1] c[j].to)=pre++(rectsL x' es[i+1] (c.take (j+1))++rectsL x' x1 (c.drop (j+1))):=by
   rw[List.set_append_right _ _ (by omega),List.set_append_right _ _ (by omega),tl,e1,List.take_succ_eq_append_getElem hj,sn,Nat.add_sub_cancel_left,Nat.sub_self,List.set_cons_zero,append_assoc]
   rfl
  simp only[pc_form_s3,d,cond_true,w,inb_get hi,at_getz hi,bind_some,ib,g,z,st]
  rw[wrap_succ (by omega)]
  rfl
 ·have lt:(pre++rectsL x' x1 c).length=pre.length+c.length:=by rw[length_append,rectsL_len]
  have d:decide (((pre.length+c.length:Nat):Int) < (((pre++rectsL x' x1 c).length:Nat):Int))=false:=by rw[lt];simp
  simp only[pc_form_s3,d,cond_false,List.take_length,List.drop_length]
  simp[rectsL]
def lastR (P:List Gstrip) (i:Nat):List GRect:=match (P.take i).getLast? with
 |some s=>rectsL s.x0 s.x1 s.column
 |none=>[]
theorem pc_form_eq {n:Nat} {l:List GRect} (hv:∀ r∈l,OkR r=true) (hl:l.length≤4000) (hn:10000≤n):pc_form n l=some (writeL (stripsL l)):=by
 unfold pc_form
 have he:=length_edgesL l
 simp only[List.length_nil,eqL_self,cond_true,pc_form_s1_run (l:=l) (n:=n) (by omega) (by omega),bind_some]
 rw[sl_Sort_int_eq (by rw[flatMap_len];omega) (by rw[flatMap_len];omega)]
 simp only[bind_some,length_isort,eqL_self,cond_true]
 rw[sl_Compact_int_eq (by rw[length_isort,flatMap_len];omega) (by rw[length_isort,flatMap_len];omega)]
 simp only[bind_some]
 have hE:compactL (isort ltI (l.flatMap fun r=>[r.x0,r.x1]))=edgesL l:=rfl
 rw[hE]
 obtain⟨p1,p2⟩:=pairsL_get (fun a b=>(⟨a,b,columnL l a⟩:Gstrip)) (edgesL l)
 have hP:(stripsL l).length=(edgesL l).length - 1:=p1
 have bl:∀ i,(writeL ((stripsL l).take i)).length≤8000*4000:=by
  intro i
  have h1:=length_writeL ((stripsL l).take i) 4000 fun s hs=>by
   have:=stripsL_col (List.mem_of_mem_take hs)
   omega
  have h2:((stripsL l).take i).length≤8000:=by rw[length_take];omega
  exact Nat.le_trans h1 (Nat.mul_le_mul_right _ h2)
 have mx:max (0:Int) (i64.wrap ((((edgesL l).length:Nat):Int) - 1))=(((stripsL l).length:Nat):Int):=by
  rw[wrap_id (by omega) (by omega)];omega
 have key:iter (pc_form_s2 n l ((),edgesL l)) n ((0:Int),([]:List GRect),([]:List GRect))=some (writeL (stripsL l)):=by
  have:=iter_to (step:=pc_form_s2 n l ((),edgesL l)) (fun i=>(((i:Nat):Int),writeL ((stripsL l).take i),lastR (stripsL l) i)) (stripsL l).length (writeL (stripsL l)) (fun i hi=>?_) ?_ n (by omega)
  ·simpa[writeL,lastR]using this
  ·have hi2:i+1 < (edgesL l).length:=by omega
   have hi1:i < (edgesL l).length:=by omega
   have d:decide (((i:Nat):Int) < (((stripsL l).length:Nat):Int))=true:=by simpa using hi
   have w:i64.wrap ((i:Int)+1)=((i+1:Nat):Int):=wrap_succ (by omega)
   have hs:(stripsL l)[i]=⟨(edgesL l)[i],(edgesL l)[i+1],columnL l (edgesL l)[i]⟩:=p2 i hi2 hi
   have adj:∀ r∈l,(decide (r.x0≤(edgesL l)[i])&&decide ((edgesL l)[i+1]≤r.x1))=(decide (r.x0≤(edgesL l)[i])&&decide ((edgesL l)[i] < r.x1)):=by
    intro r hr
    congr 1
    have hm:r.x1∈edgesL l:=edgesL_mem.2 ⟨r,hr,.inr rfl⟩
    obtain⟨j,hj,e⟩:=List.mem_iff_getElem.1 hm
    have hst:=edgesL_strict l
    rw[List.pairwise_iff_getElem]at hst
    rw[← e,Bool.eq_iff_iff,decide_eq_true_eq,decide_eq_true_eq]
    rcases Nat.lt_or_ge i j with hij |hij
    ·have a1:=hst i j hi1 hj hij
     rcases Nat.eq_or_lt_of_le (show i+1≤j by omega)with e |hlt
     ·subst e;omega
     ·have a2:=hst (i+1) j hi2 hj hlt
      omega
    ·rcases Nat.eq_or_lt_of_le hij with e |hlt
     ·subst e
      have a2:=hst j (j+1) hj hi2 (by omega)
      omega
     ·have a1:=hst j i hj hi1 hlt
      have a2:=hst i (i+1) hi1 hi2 (by omega)
      omega
   have lc:=length_columnL l (edgesL l)[i]
   have co:=pc_column_eq (n:=n) (l:=l) (x0:=(edgesL l)[i]) (x1:=(edgesL l)[i+1]) hv adj (by omega) (by omega)
   have tk:=List.take_succ_eq_append_getElem hi
   have tkl:(stripsL l).take (i+1)=(stripsL l).take i++[(⟨(edgesL l)[i],(edgesL l)[i+1],columnL l (edgesL l)[i]⟩:Gstrip)]:=by rw[tk,hs]
   have la:lastR (stripsL l) (i+1)=rectsL (edgesL l)[i] (edgesL l)[i+1] (columnL l (edgesL l)[i]):=by
    unfold lastR
    rw[tkl,List.getLast?_append]
    rfl
   have bi:=bl i
   have ap:appOk (writeL ((stripsL l).take i)).length (writeL ((stripsL l).take i)).length (rectsL (edgesL l)[i] (edgesL l)[i+1] (columnL l (edgesL l)[i])).length (rectsL (edgesL l)[i] (edgesL l)[i+1] (columnL l (edgesL l)[i])).length 32=true:=by
    refine appOk_true ?_ ?_
    ·rw[rectsL_len];omega
    ·rw[rectsL_len];simp only[maxLen];omega
   simp only[pc_form_s2,mx,d,cond_true,inb_get hi1,at_getz hi1,bind_some,w,inb_get hi2,at_getz hi2,co,sub_all,eqL_self,la,ap,letv_eq]
   rcases List.eq_nil_or_concat ((stripsL l).take i)with e0 |⟨S,t,e0⟩
   ·
    have lz:lastR (stripsL l) i=rectsL 0 0 []:=by unfold lastR;rw[e0];rfl
    have wn:writeL ((stripsL l).take (i+1))=rectsL (edgesL l)[i] (edgesL l)[i+1] (columnL l (edgesL l)[i]):=by
     rw[tkl,e0];rfl
    have wz:writeL ((stripsL l).take i)=[]:=by rw[e0];rfl
    rw[lz,eqfR (by omega) (by omega),wn,wz]
    cases hc:columnL l (edgesL l)[i]with
    |nil=>
     have dz:decide ((((rectsL (edgesL l)[i] (edgesL l)[i+1] []).length:Nat):Int)>0)=false:=by simp[rectsL]
     simp only[dz,cond_false,bind_some,eqL_self,cond_true]
     rfl
    |cons q c=>
     have dz:decide (q::c=[])=false:=by simp
     simp only[dz,bind_some]
     cases decide ((((rectsL (edgesL l)[i] (edgesL l)[i+1] (q::c)).length:Nat):Int)>0)<;>simp only[cond_true,cond_false,bind_some,eqL_self]<;>rfl
   ·rw[List.concat_eq_append]at e0
    have lz:lastR (stripsL l) i=rectsL t.x0 t.x1 t.column:=by unfold lastR;rw[e0,List.getLast?_append];rfl
    have tk2:(stripsL l).take (i+1)=S++[t,(⟨(edgesL l)[i],(edgesL l)[i+1],columnL l (edgesL l)[i]⟩:Gstrip)]:=by rw[tkl,e0,append_assoc];rfl
    rw[lz,eqfR (by omega) (by omega)]
    by_cases hc:columnL l (edgesL l)[i]=t.column
    ·obtain⟨pre,x',w1,w2⟩:=writeL_same ⟨(edgesL l)[i],(edgesL l)[i+1],columnL l (edgesL l)[i]⟩ t hc S
     have ww:writeL ((stripsL l).take i)=pre++rectsL x' t.x1 t.column:=by rw[e0,w1]
     have ww2:writeL ((stripsL l).take (i+1))=pre++rectsL x' (edgesL l)[i+1] t.column:=by rw[tk2,w2]
     rw[ww2,ww]
     rw[ww,length_append,rectsL_len]at bi
     have s3:=pc_form_s3_run (n:=n) (edgesL l) i hi2 (by omega) pre x' t.x1 t.column (by omega) (by rw[← hc];omega)
     have wd:i64.wrap ((((pre++rectsL x' t.x1 t.column).length:Nat):Int) - (((rectsL (edgesL l)[i] (edgesL l)[i+1] (columnL l (edgesL l)[i])).length:Nat):Int))=((pre.length:Nat):Int):=by
      rw[length_append,rectsL_len,rectsL_len,hc,wrap_id (by omega) (by omega)];omega
     have le:eqL (pre++rectsL x' t.x1 t.column).length (pre++rectsL x' (edgesL l)[i+1] t.column).length=true:=by
      apply eqL_of;rw[length_append,length_append,rectsL_len,rectsL_len]
     have dc:decide (columnL l (edgesL l)[i]=t.column)=true:=by simpa using hc
     simp only[wd,s3,le,dc,bind_some,cond_true]
     cases hd:decide ((((rectsL (edgesL l)[i] (edgesL l)[i+1] (columnL l (edgesL l)[i])).length:Nat):Int)>0)with
     |true=>simp only[cond_true,bind_some,eqL_self]
     |false=>
      have hz:t.column=[]:=by
       rw[rectsL_len,hc]at hd
       simp at hd
       exact hd
      have hz2:columnL l (edgesL l)[i]=[]:=by rw[hc,hz]
      simp only[cond_false,bind_some,eqL_self,hz,hz2,rectsL,List.map_nil,List.append_nil,cond_true]
    ·have ww2:writeL ((stripsL l).take (i+1))=writeL ((stripsL l).take i)++rectsL (edgesL l)[i] (edgesL l)[i+1] (columnL l (edgesL l)[i]):=by
      rw[tk2,writeL_new _ t hc S,e0]
     have dc:decide (columnL l (edgesL l)[i]=t.column)=false:=by simpa using hc
     rw[ww2]
     simp only[dc,bind_some]
     cases decide ((((rectsL (edgesL l)[i] (edgesL l)[i+1] (columnL l (edgesL l)[i])).length:Nat):Int)>0)<;>simp only[cond_true,cond_false,bind_some,eqL_self]
  ·have d:decide ((((stripsL l).length:Nat):Int) < (((stripsL l).length:Nat):Int))=false:=by simp
   simp only[pc_form_s2,mx,d,cond_false,List.take_length,eqL_self,cond_true]
 rw[key]
 simp only[bind_some,sub_all,eqL_self,cond_true]
end Go.Proofs
namespace Go.Proofs
open Go.Gb Go.RowKit
def joinT (land:List GLot) (ids:List Int) (id:Int) (l:List GLot) (area:List GRect):List GLot×Int:=
 bif decide (area.length>200)then ([],6)else
 bif !connB area then ([],12)else
 (replaceL land ids [GLot.mk id (l.headD noLot).owner area (lineL l)],0)
def joinL (land:List GLot) (ids:List Int) (id:Int):List GLot×Int:=
 bif !landL land || (decide (ids.length < 2) || (!ascL (isort ltI ids) || !numB id))then ([],1)else
 bif !(ids.all fun k=>(findLot land k).2)then ([],4)else
 bif takenL land id then ([],5)else
 bif (ids.map fun k=>(findLot land k).1).any fun t=>t.owner != ((ids.map fun k=>(findLot land k).1).headD noLot).owner then ([],24)else
 joinT land ids id (ids.map fun k=>(findLot land k).1) (writeL (stripsL ((ids.map fun k=>(findLot land k).1).flatMap (·.area))))
theorem areas_flat (l:List GLot) (h:∀ t∈l,t.area.length≤200):(l.flatMap (·.area)).length≤200*l.length:=by
 induction l with
 |nil=>simp
 |cons t l ih=>
  have:=ih fun u hu=>h u (by simp[hu])
  have:=h t (by simp)
  simp only[List.flatMap_cons,length_append,List.length_cons]
  omega
theorem pc_Join_s1_run {n:Nat} {land:List GLot} {ids:List Int} (h:∀ t∈land,LotOk t) (hl:land.length≤99) (hi:ids.length≤20) (hn:10000≤n):
 iter (pc_Join_s1 n land ids) n ((0:Int),([]:List GLot))=some (bif !(ids.all fun k=>(findLot land k).2)then .inr ([],4)else .inl (ids.map fun k=>(findLot land k).1)):=by
 have:=iter_listI (l:=ids) (step:=pc_Join_s1 n land ids) (fun i (s:List GLot)=>(((i:Nat):Int),s)) (fun k s=>bif !(findLot land k).2 then .inr (.inr (([]:List GLot),(4:Int)))else .inl (s++[(findLot land k).1])) (fun s=>(.inl s:List GLot ⊕ (List GLot×Int))) (fun i s=>s.length≤i)
  (fun i hi s hs=>?_) (fun s hs=>by simp[pc_Join_s1]) n (by omega) [] (Nat.le_refl _)
 ·rw[show ((0:Nat):Int)=0 from rfl]at this
  rw[this]
  congr 1
  have gen:∀ (ks:List Int) (s:List GLot),loopL (fun k s=>bif !(findLot land k).2 then .inr (.inr (([]:List GLot),(4:Int)))else .inl (s++[(findLot land k).1])) (fun s=>(.inl s:List GLot ⊕ (List GLot×Int))) ks s=bif !(ks.all fun k=>(findLot land k).2)then .inr ([],4)else .inl (s++ks.map fun k=>(findLot land k).1):=by
   intro ks
   induction ks with
   |nil=>intro s;simp[loopL]
   |cons k ks ih=>
    intro s
    simp only[loopL,List.all_cons,map_cons]
    cases (findLot land k).2 with
    |false=>rfl
    |true=>
     simp only[Bool.not_true,cond_false,Bool.true_and]
     rw[ih,append_assoc]
     rfl
  simpa using gen ids []
 ·have hi':decide (((i:Nat):Int) < (ids.length:Int))=true:=by simpa using hi
  have s1:(sub ([(findLot land ids[i]).1]:List GLot) 0 1)=[(findLot land ids[i]).1]:=rfl
  have ap:appOk s.length s.length ([(findLot land ids[i]).1]:List GLot).length 1 64=true:=appOk_true (n:=1) (by omega) (by simp only[maxLen];omega)
  simp only[pc_Join_s1,hi',cond_true,at_get hi,bind_some,pc_Find_eq (n:=n) h (by omega) (by omega),s1,ap,letv_eq,eqL_self]
  rw[wrap_succ (by omega)]
  cases (findLot land ids[i]).2 with
  |false=>exact⟨rfl,fun s' e=>by cases e⟩
  |true=>exact⟨rfl,fun s' e=>by injection e with e;subst e;simp;omega⟩
theorem any_owner (l:List GLot) (hl:0 < l.length) (hb:l.length≤100) {n:Nat} (hn:1000≤n):sl_ContainsFunc_Lot_v1 n l=some (l.any fun t=>t.owner != (l.headD noLot).owner,l):=by
 have hd:at? l (((0:Nat):Int)+0)=some (l.headD noLot):=by
  cases l with
  |nil=>simp at hl
  |cons a l=>rfl
 have i0:inb 0 l.length=true:=by
  have:=inb_get (i:=0) hl
  exact this
 have f1:∀ t:GLot,pc_Join_f1_v1 t l=some (t.owner != (l.headD noLot).owner,l):=by
  intro t
  unfold pc_Join_f1_v1
  simp only[i0,cond_true,hd,bind_some,eqL_self]
 unfold sl_ContainsFunc_Lot_v1 sl_IndexFunc_Lot_v1
 have:=iter_find (l:=l) (step:=sl_IndexFunc_Lot_v1_s1 l) (fun i=>(((i:Nat):Int),l)) (fun t=>t.owner != (l.headD noLot).owner) l (fun i=>(((i:Nat):Int),l)) (fun i hi=>?_) (by simp[sl_IndexFunc_Lot_v1_s1]) n (by omega)
 ·rw[show ((0:Nat):Int)=0 from rfl]at this
  simp only[eqL_self,cond_true,this]
  rw[← findL_any]
  cases findL (fun t:GLot=>t.owner != (l.headD noLot).owner) l with
  |none=>simp
  |some i=>simp<;>omega
 ·have hi':decide (((i:Nat):Int) < ((l.length:Nat):Int))=true:=by simpa using hi
  simp only[sl_IndexFunc_Lot_v1_s1,hi',cond_true,inb_get hi,at_getz hi,bind_some,eqL_self,f1]
  rw[wrap_succ (by omega)]
  cases l[i].owner != (l.headD noLot).owner<;>rfl
theorem pc_Join_s2_run {n:Nat} (b:Bool) (l:List GLot) (hl:l.length≤20) (ha:∀ t∈l,t.area.length≤200) (hn:10000≤n):iter (pc_Join_s2 (b,l)) n ((0:Int),([]:List GRect))=some (l.flatMap (·.area)):=by
 have:=iter_to (step:=pc_Join_s2 (b,l)) (fun i=>(((i:Nat):Int),(l.take i).flatMap (·.area))) l.length (l.flatMap (·.area)) (fun i hi=>?_) ?_ n (by omega)
 ·simpa using this
 ·have hi':decide (((i:Nat):Int) < ((l.length:Nat):Int))=true:=by simpa using hi
  have h1:=areas_flat (l.take i) fun t ht=>ha t (List.mem_of_mem_take ht)
  rw[length_take]at h1
  have h2:=ha l[i] (List.getElem_mem hi)
  have ap:appOk ((l.take i).flatMap (·.area)).length ((l.take i).flatMap (·.area)).length l[i].area.length l[i].area.length 32=true:=appOk_true (by omega) (by simp only[maxLen];omega)
  simp only[pc_Join_s2,hi',cond_true,inb_get hi,at_getz hi,bind_some,ap,letv_eq,eqL_self]
  rw[wrap_succ (by omega),List.take_succ_eq_append_getElem hi,List.flatMap_append]
  simp
 ·simp[pc_Join_s2]
theorem pc_Join_eq {n:Nat} {land:List GLot} {ids:List Int} {id:Int} (h:∀ t∈land,LotOk t) (hl:land.length≤99) (hi:ids.length≤8) (hn:10000≤n):pc_Join n land ids id=some (joinL land ids id):=by
 unfold pc_Join joinL sl_Values_int_v1 sl_Sorted_int_v1 sl_Collect_int_v1 seqA
 have lb:Nat.ble ids.length 1000000=true:=by rw[Nat.ble_eq];omega
 have li:(isort ltI ids).length=ids.length:=by rw[length_isort]
 simp only[lb,cond_true,bind_some,eqL_self]
 rw[sl_Sort_int_eq (by omega) (by omega)]
 simp only[bind_some,li,eqL_self,cond_true,show sub (isort ltI ids) 0 ids.length=isort ltI ids by rw[← li,sub_all]]
 rw[pc_Right_eq (by omega) h (by omega),pc_ascending_eq (by omega) (by omega),pc_number_eq,pc_Join_s1_run h hl (by omega) hn,pc_taken_eq h (by omega) (by omega) (by omega)]
 simp only[bind_some,List.length_nil,eqL_self,cond_true]
 have d2:decide (((ids.length:Nat):Int) < 2)=decide (ids.length < 2):=by rw[Bool.eq_iff_iff];simp;omega
 rw[d2]
 cases hr:landL land with
 |false=>rfl
 |true=>
 cases h2:decide (ids.length < 2)with
 |true=>rfl
 |false=>
 cases ascL (isort ltI ids)with
 |false=>rfl
 |true=>
 cases numB id with
 |false=>rfl
 |true=>
 simp only[Bool.not_true,cond_false,bind_some,Bool.or_self]
 cases hall:ids.all fun k=>(findLot land k).2 with
 |false=>rfl
 |true=>
 simp only[Bool.not_true,cond_false,thenB_inl]
 cases takenL land id with
 |true=>rfl
 |false=>
 have mem:∀ t∈(ids.map fun k=>(findLot land k).1),t∈land:=by
  intro t ht
  rw[mem_map]at ht
  obtain⟨k,hk,rfl⟩:=ht
  exact (find_mem (all_eq_true.1 hall k hk)).1
 have ll:(ids.map fun k=>(findLot land k).1).length=ids.length:=List.length_map _
 have hlen:¬ ids.length < 2:=by simpa using h2
 generalize (ids.map fun k=>(findLot land k).1)=l at*
 have ok:∀ t∈l,LotOk t:=fun t ht=>h t (mem t ht)
 have right:∀ t∈l,rightL t.area=true:=fun t ht=>validL_right (valid_of_right hr (mem t ht))
 have a200:∀ t∈l,t.area.length≤200:=fun t ht=>(rightL_write (right t ht)).2.1
 have okr:∀ r∈l.flatMap (·.area),OkR r=true:=by
  intro r hr
  rw[List.mem_flatMap]at hr
  obtain⟨t,ht,hr⟩:=hr
  exact (rightL_write (right t ht)).1 r hr
 have fl:=areas_flat l a200
 have hd:at? l (((0:Nat):Int)+0)=some (l.headD noLot):=by
  cases l with
  |nil=>simp at ll;omega
  |cons a l=>rfl
 have i0:inb 0 l.length=true:=inb_get (i:=0) (by omega)
 have lnl:(lineL l).length≤901*20:=by
  have h1:=length_setL (l.flatMap fun t=>t.id::t.from_)
  have h2:=lens_flat l ok
  have h3:(lineL l).length≤_:=h1
  omega
 rw[any_owner l (by omega) (by omega) (by omega)]
 simp only[bind_some,cond_false]
 cases l.any fun t=>t.owner != (l.headD noLot).owner with
 |true=>rfl
 |false=>
 rw[pc_Join_s2_run _ l (by omega) a200 hn]
 simp only[bind_some,cond_false,sub_all,eqL_self,cond_true]
 rw[pc_form_eq okr (by omega) hn]
 generalize writeL (stripsL (l.flatMap (·.area)))=area
 unfold joinT connB
 have d3:decide (((area.length:Nat):Int)>200)=decide (area.length>200):=by rw[Bool.eq_iff_iff];simp;omega
 simp only[bind_some,d3]
 cases h4:decide (area.length>200)with
 |true=>rfl
 |false=>
 have h5:¬ area.length>200:=by simpa using h4
 rw[pc_connected_eq (by omega) (by omega) (by omega)]
 simp only[bind_some,cond_false]
 cases ((partsL area).length:Int)==1 with
 |false=>rfl
 |true=>
 have s3:∀ x:GLot,(sub ([x]:List GLot) 0 1)=[x]:=fun _=>rfl
 have q3:∀ x:GLot,eqL ([x]:List GLot).length 1=true:=fun _=>rfl
 have lnl2:(lineL l).length≤10000:=by
  have h1:=length_setL (l.flatMap fun t=>t.id::t.from_)
  have h2:=lens_flat l ok
  have h3:(lineL l).length≤_:=h1
  omega
 have rp:=pc_replace_eq (n:=n) (land:=land) (old:=ids) (lots:=[GLot.mk id (l.headD noLot).owner area (lineL l)]) h (by omega) (by omega) (fun t ht=>by
  have:t=GLot.mk id (l.headD noLot).owner area (lineL l):=by simpa using ht
  subst this
  exact⟨by show area.length≤900;omega,by show (lineL l).length≤10000;omega⟩) (by simp) (by omega)
 simp only[Bool.not_true,cond_false,i0,cond_true,hd,bind_some,pc_line_eq ok (by omega) (show 901*l.length < n by omega),eqL_self,sub_all,s3,q3,rp]
end Go.Proofs
namespace Go.Proofs
open Go.Gb Go.RowKit
theorem one13 (x y z w:Int):l13_one x y z w=some [GRect.mk x y z w]:=rfl
abbrev lotA:GLot:=GLot.mk 1 7 [GRect.mk 0 0 4 2] []
abbrev lotB:GLot:=GLot.mk 2 7 [GRect.mk 4 0 6 2] []
abbrev lotC:GLot:=GLot.mk 3 7 [GRect.mk 0 0 1 2] [1]
abbrev lotD:GLot:=GLot.mk 4 7 [GRect.mk 1 0 4 2] [1]
abbrev lotE:GLot:=GLot.mk 5 7 [GRect.mk 1 0 6 2] [1,2,4]
theorem lots_ok {l:List GLot} (h:(l.all fun t=>Nat.ble t.area.length 900&&Nat.ble t.from_.length 900)=true):∀ t∈l,LotOk t:=by
 intro t ht
 have:=all_eq_true.1 h t ht
 simp only[and_eq_true,Nat.ble_eq]at this
 exact this
theorem sm1:addL [] lotA=([lotA],0):=by kernel_rfl
theorem sm2:addL [lotA] lotB=([lotA,lotB],0):=by kernel_rfl
theorem sm3:splitL [lotA,lotB] 1 [GRect.mk 0 0 1 9] 3 4=([lotB,lotC,lotD],0):=by kernel_rfl
theorem sm4:joinL [lotB,lotC,lotD] [4,2] 5=([lotC,lotE],0):=by kernel_rfl
theorem sm5:splitL [lotA,lotB] 1 [GRect.mk 1 0 2 2] 3 4=([],12):=by kernel_rfl
theorem sm6:nearL [lotA,lotB] 1 0=[2]:=by kernel_rfl
theorem sm7 (k:Nat):so_Of (k+10000) [GBox.mk 0 0 2 2 0 4]=some ([GSlab.mk 0 4 [GRect.mk 0 0 2 2]],0):=by kernel_rfl
theorem sm8 (k:Nat):pc_Respect (k+10000) [GEasement.mk 1 [GRect.mk 0 0 1 1] 3] 1 [GSlab.mk 0 4 [GRect.mk 0 0 2 2]]=some false:=by kernel_rfl
theorem sm9 (k:Nat):pc_Respect (k+10000) [GEasement.mk 1 [GRect.mk 0 0 1 1] 3] 2 [GSlab.mk 0 4 [GRect.mk 0 0 2 2]]=some true:=by kernel_rfl
theorem sm10 (k:Nat):q13_Same (k+10000) [lotB,lotC,lotD] [lotB,lotC,lotD]=some true:=by kernel_rfl
theorem sm11 (k:Nat):q13_Same (k+10000) [lotC,lotE] [lotC,lotE]=some true:=by kernel_rfl
theorem sm12 (k:Nat):q01_SameNums (k+10000) [2] [2]=some true:=by kernel_rfl
theorem small13 {n:Nat} (hn:10000≤n):l13_small n=some true:=by
 obtain⟨k,rfl⟩:∃ k,n=k+10000:=⟨n - 10000,by omega⟩
 have s1:∀ x:GLot,sub ([x]:List GLot) 0 1=[x]:=fun _=>rfl
 have s2:sub ([4,2]:List Int) 0 2=[4,2]:=rfl
 have s3:sub ([1]:List Int) 0 1=[1]:=rfl
 have s4:sub ([2]:List Int) 0 1=[2]:=rfl
 have s5:sub ([1,2,4]:List Int) 0 3=[1,2,4]:=rfl
 have s6:∀ x y:GLot,sub ([x,y]:List GLot) 0 2=[x,y]:=fun _ _=>rfl
 have s7:∀ x y z:GLot,sub ([x,y,z]:List GLot) 0 3=[x,y,z]:=fun _ _ _=>rfl
 have s8:∀ x:GBox,sub ([x]:List GBox) 0 1=[x]:=fun _=>rfl
 have s9:∀ x:GEasement,sub ([x]:List GEasement) 0 1=[x]:=fun _=>rfl
 have e1:∀ x:Int,eqL ([x]:List Int).length 1=true:=fun _=>rfl
 have e2:∀ x y:Int,eqL ([x,y]:List Int).length 2=true:=fun _ _=>rfl
 have e3:∀ x y z:Int,eqL ([x,y,z]:List Int).length 3=true:=fun _ _ _=>rfl
 have e4:∀ x y:GLot,eqL ([x,y]:List GLot).length 2=true:=fun _ _=>rfl
 have e5:∀ x y z:GLot,eqL ([x,y,z]:List GLot).length 3=true:=fun _ _ _=>rfl
 have e6:∀ x:GBox,eqL ([x]:List GBox).length 1=true:=fun _=>rfl
 have e7:∀ x:GEasement,eqL ([x]:List GEasement).length 1=true:=fun _=>rfl
 have z0:((0:Int)==0)=true:=rfl
 have z1:((12:Int)==12)=true:=rfl
 unfold l13_small
 simp only[one13,bind_some,sub_all,eqL_self,cond_true]
 rw[pc_Add_eq (land:=[]) (lots_ok rfl) (by simp) ⟨by simp,by simp⟩ (by omega),sm1]
 simp only[bind_some,sub_all,eqL_self,cond_true]
 rw[pc_Add_eq (land:=[lotA]) (lots_ok rfl) (by simp) ⟨by simp,by simp⟩ (by omega),sm2]
 simp only[bind_some,sub_all,eqL_self,cond_true]
 rw[pc_Split_full (land:=[lotA,lotB]) (lots_ok rfl) (by simp) (by simp) (by omega),sm3]
 simp only[bind_some,sub_all,eqL_self,cond_true,s2,e2]
 rw[pc_Join_eq (land:=[lotB,lotC,lotD]) (lots_ok rfl) (by simp) (by simp) (by omega),sm4]
 simp only[bind_some,sub_all,eqL_self,cond_true]
 rw[pc_Split_full (land:=[lotA,lotB]) (lots_ok rfl) (by simp) (by simp) (by omega),sm5]
 simp only[bind_some,sub_all,eqL_self,cond_true,s3,s4,s5,s6,s7,s8,s9,e1,e2,e3,e4,e5,e6,e7,sm7,z0,z1,sm10,sm11]
 rw[pc_Near_eq (land:=[lotA,lotB]) (lots_ok rfl) (by simp) (by omega),sm6]
 simp only[bind_some,sub_all,eqL_self,cond_true,sm12,sm8,sm9]
 rfl
end Go.Proofs
namespace Go.Proofs
open Go.Gb Go.RowKit
def doR (l:List GLot) (r:List GLot×Int):List GLot×Int:=bif r.2 != 0 then (l,r.2)else (r.1,0)
def doL (l:List GLot) (o:GOp):List GLot×Int:=
 bif o.kind==0 then doR l (addL l (GLot.mk o.id o.n (ofL o.area).1 []))else
 bif o.kind==1 then doR l (splitL l o.id (ofL o.area).1 o.a o.b)else
 bif o.kind==2 then doR l (joinL l o.ids o.id)else
 bif o.kind==3 then doR l (transferL l o.id o.n)else (l,0)
theorem ofL_len (l:List GRect):(ofL l).1.length≤200:=by
 unfold ofL
 split
 ·split
  ·simp
  ·split
   ·simp
   ·show (writeL (stripsL l)).length≤200
    omega
 ·simp
theorem l13_do_eq {n:Nat} {l:List GLot} {o:GOp} (h:∀ t∈l,LotOk t) (hl:l.length≤99) (ha:o.area.length≤900) (hi:o.ids.length≤8) (hn:10000≤n):l13_do n l o=some (doL l o):=by
 unfold l13_do doL
 have lo:=ofL_len o.area
 have fin:∀ r:List GLot×Int,((bif r.2 != (0:Int)then some (l,r.2)else bif eqL (sub r.1 0 r.1.length).length r.1.length then some (sub r.1 0 r.1.length,(0:Int))else none):Option (List GLot×Int))=some (doR l r):=by
  intro r
  unfold doR
  simp only[sub_all,eqL_self,cond_true]
  cases r.2 != 0<;>rfl
 rw[rg_Of_eq (by omega) (by omega) (by omega)]
 simp only[bind_some]
 cases o.kind==0 with
 |true=>
  simp only[cond_true]
  rw[pc_Add_eq h hl ⟨by show (ofL o.area).1.length≤900;omega,by simp⟩ (by omega)]
  exact fin _
 |false=>
 cases o.kind==1 with
 |true=>
  simp only[cond_true,cond_false]
  rw[pc_Split_full h hl (by omega) (by omega)]
  exact fin _
 |false=>
 cases o.kind==2 with
 |true=>
  simp only[cond_true,cond_false]
  rw[pc_Join_eq h hl hi hn]
  exact fin _
 |false=>
 cases o.kind==3 with
 |true=>
  simp only[cond_true,cond_false]
  rw[pc_Transfer_full h hl (by omega)]
  exact fin _
 |false=>rfl
def lineOk (u t:GLot):Prop:=(u.id=t.id∧u.area=t.area∧u.from_=t.from_)∨(t.id∈u.from_∧∀ x∈t.from_,x∈u.from_)
structure Did (l l':List GLot) (old:List Int) (lots:List GLot) (ow:GLot→Int):Prop where
 eq:l'=replaceL l old lots
 land:IsLand l'
 cells:∀ x y,(∃ u∈lots,cellsL u.area x y=true)↔∃ t∈l,t.id∈old∧cellsL t.area x y=true
 owner:∀ u∈lots,∀ t∈l,t.id∈old→∀ x y,cellsL u.area x y=true→cellsL t.area x y=true→u.owner=ow t
 line:∀ u∈lots,∀ t∈l,t.id∈old→∀ x y,cellsL u.area x y=true→cellsL t.area x y=true→lineOk u t
 fresh:∀ u∈lots,takenL l u.id=false∨∃ t∈l,t.id∈old∧u.id=t.id∧u.area=t.area∧u.from_=t.from_
 nums:∀ u∈lots,∀ x∈u.from_,takenL l x=true
 len:lots.length≤2
theorem lineL_num {land:List GLot} (h:IsLand land) {Ts:List GLot} (hT:∀ t∈Ts,t∈land):∀ x∈lineL Ts,numB x=true:=by
 intro x hx
 obtain⟨t,ht,e⟩:=lineL_mem.1 hx
 have hv:=h.val t (hT t ht)
 rcases e with rfl |e
 ·exact (validL_parts hv).1
 ·exact (validL_from hv).2 x e
theorem lineL_taken {land:List GLot} {Ts:List GLot} (hT:∀ t∈Ts,t∈land):∀ x∈lineL Ts,takenL land x=true:=by
 intro x hx
 obtain⟨t,ht,e⟩:=lineL_mem.1 hx
 refine taken_true.2 ⟨t,hT t ht,?_⟩
 rcases e with rfl |e
 ·exact .inl rfl
 ·exact .inr e
theorem cond_some {α:Type} {c:Bool} {e:Int} {r:List α×Int} {s:List α×Int} (he:e≠0) (h:(bif c then (([]:List α),e)else r)=s) (h0:s.2=0):c=false∧r=s:=by
 cases c with
 |true=>subst h;exact absurd h0 he
 |false=>exact⟨rfl,h⟩
theorem split_did {l:List GLot} {id a b:Int} {cut:List GRect} (h:IsLand l) (h0:(splitL l id cut a b).2=0):
 ∃ T I O,(T∈l∧T.id=id)∧(takenL l a=false∧takenL l b=false∧a≠b)∧(∀ x y,cellsL I x y=(cellsL T.area x y&&cellsL cut x y))∧(∀ x y,cellsL O x y=(cellsL T.area x y&&!cellsL cut x y))∧
   Did l (splitL l id cut a b).1 [id] [GLot.mk a T.owner I (lineL [T]),GLot.mk b T.owner O (lineL [T])] (fun t=>t.owner):=by
 unfold splitL at h0 ⊢
 obtain⟨c1,e⟩:=cond_some (by decide) rfl h0
 rw[← e]at h0 ⊢
 clear e
 obtain⟨c2,e⟩:=cond_some (by decide) rfl h0
 rw[← e]at h0 ⊢
 clear e
 obtain⟨c3,e⟩:=cond_some (by decide) rfl h0
 rw[← e]at h0 ⊢
 clear e
 unfold splitT at h0 ⊢
 obtain⟨c4,e⟩:=cond_some (by decide) rfl h0
 rw[← e]at h0 ⊢
 clear e
 obtain⟨c5,e⟩:=cond_some (by decide) rfl h0
 rw[← e]at h0 ⊢
 clear e
 obtain⟨c6,e⟩:=cond_some (by decide) rfl h0
 rw[← e]at h0 ⊢
 clear e
 simp only[Bool.or_eq_false_iff,Bool.not_eq_false',beq_eq_false_iff_ne]at c1
 obtain⟨_,_,na,nb,hab⟩:=c1
 have hf:(findLot l id).2=true:=by simpa using c2
 rw[Bool.or_eq_false_iff]at c3
 obtain⟨hta,htb⟩:=c3
 obtain⟨hT,hid⟩:=find_mem hf
 generalize (findLot l id).1=T at*
 generalize hI:combineL (fun p q=>p&&q) T.area cut=I at*
 generalize hO:combineL (fun p q=>p&&!q) T.area cut=O at*
 simp only[Bool.or_eq_false_iff,bne_eq_false_iff_eq]at c5
 obtain⟨i0,o0⟩:=c5
 simp only[Bool.or_eq_false_iff,Bool.not_eq_false']at c6
 obtain⟨ci,co⟩:=c6
 obtain⟨_,_,rI,sI⟩:=combineL_spec (by rfl) (hI.trans (Prod.ext rfl i0))
 obtain⟨_,_,rO,sO⟩:=combineL_spec (by rfl) (hO.trans (Prod.ext rfl o0))
 have vT:=h.val T hT
 obtain⟨vn,vo,_⟩:=validL_parts vT
 have inT:∀ t∈[T],t∈l:=fun t ht=>by
  have:t=T:=by simpa using ht
  rw[this];exact hT
 have vA:validL (GLot.mk a T.owner I.1 (lineL [T]))=true:=validL_mk na vo (lineL_strict _) (lineL_num h inT) ci
 have vB:validL (GLot.mk b T.owner O.1 (lineL [T]))=true:=validL_mk nb vo (lineL_strict _) (lineL_num h inT) co
 have mem:∀ u∈[GLot.mk a T.owner I.1 (lineL [T]),GLot.mk b T.owner O.1 (lineL [T])],(u=GLot.mk a T.owner I.1 (lineL [T])∨u=GLot.mk b T.owner O.1 (lineL [T])):=fun u hu=>by simpa using hu
 have tk:∀ u∈[GLot.mk a T.owner I.1 (lineL [T]),GLot.mk b T.owner O.1 (lineL [T])],takenL l u.id=false∧u.from_=lineL [T]∧u.owner=T.owner∧validL u=true∧∀ x y,cellsL u.area x y=true→cellsL T.area x y=true:=by
  intro u hu
  rcases mem u hu with rfl |rfl
  ·exact⟨hta,rfl,rfl,vA,fun x y hc=>by rw[show (GLot.mk a T.owner I.1 (lineL [T])).area=I.1 from rfl,sI,and_eq_true]at hc;exact hc.1⟩
  ·exact⟨htb,rfl,rfl,vB,fun x y hc=>by rw[show (GLot.mk b T.owner O.1 (lineL [T])).area=O.1 from rfl,sO,and_eq_true]at hc;exact hc.1⟩
 refine⟨T,I.1,O.1,⟨hT,hid⟩,⟨hta,htb,hab⟩,sI,sO,?_⟩
 have uniq:∀ t∈l,t.id∈[id]→t=T:=fun t ht hi=>h.uniq ht hT (by rw[hid];simpa using hi)
 refine⟨rfl,?_,?_,?_,?_,?_,?_,by simp⟩
 ·refine replace_land h ?_ (fun u hu=>(tk u hu).2.2.2.1) ?_ ?_ ?_
  ·refine List.Pairwise.cons (fun u hu=>?_) (List.pairwise_singleton _ _)
   have:u=GLot.mk b T.owner O.1 (lineL [T]):=by simpa using hu
   subst this
   exact hab
  ·intro u hu t ht hx
   obtain⟨k1,k2,_,_,k3⟩:=tk u hu
   have htT:t.id≠T.id:=by rw[hid];exact hx id (by simp)
   have:=taken_false k1 ht
   refine⟨⟨this.1,this.2⟩,?_,fun x y h1 h2=>h.apart' hT ht (Ne.symm htT) x y (k3 x y h1) h2⟩
   rw[k2]
   intro hm
   obtain⟨w,hw,e⟩:=lineL_mem.1 hm
   have:w=T:=by simpa using hw
   subst this
   rcases e with e |e
   ·exact htT e
   ·exact h.old w hT t ht e
  ·intro u hu w hw hm
   rw[(tk w hw).2.1]at hm
   have:=lineL_taken inT _ hm
   rw[(tk u hu).1]at this
   cases this
  ·refine List.Pairwise.cons (fun u hu=>?_) (List.pairwise_singleton _ _)
   have:u=GLot.mk b T.owner O.1 (lineL [T]):=by simpa using hu
   subst this
   intro x y h1 h2
   rw[show (GLot.mk a T.owner I.1 (lineL [T])).area=I.1 from rfl,sI,and_eq_true]at h1
   rw[show (GLot.mk b T.owner O.1 (lineL [T])).area=O.1 from rfl,sO,and_eq_true,h1.2]at h2
   exact absurd h2.2 (by simp)
 ·intro x y
  constructor
  ·rintro⟨u,hu,hc⟩
   exact⟨T,hT,by rw[hid];simp,(tk u hu).2.2.2.2 x y hc⟩
  ·rintro⟨t,ht,hi,hc⟩
   rw[uniq t ht hi]at hc
   cases hx:cellsL cut x y with
   |true=>exact⟨GLot.mk a T.owner I.1 (lineL [T]),by simp,by show cellsL I.1 x y=true;rw[sI,hc,hx];rfl⟩
   |false=>exact⟨GLot.mk b T.owner O.1 (lineL [T]),by simp,by show cellsL O.1 x y=true;rw[sO,hc,hx];rfl⟩
 ·intro u hu t ht hi x y _ _
  rw[uniq t ht hi]
  exact (tk u hu).2.2.1
 ·intro u hu t ht hi x y _ _
  rw[uniq t ht hi]
  right
  rw[(tk u hu).2.1]
  exact⟨lineL_mem.2 ⟨T,by simp,.inl rfl⟩,fun z hz=>lineL_mem.2 ⟨T,by simp,.inr hz⟩⟩
 ·intro u hu
  exact .inl (tk u hu).1
 ·intro u hu x hx
  rw[(tk u hu).2.1]at hx
  exact lineL_taken inT x hx
theorem transfer_did {l:List GLot} {id to:Int} (h:IsLand l) (h0:(transferL l id to).2=0):
 ∃ T,(T∈l∧T.id=id)∧Did l (transferL l id to).1 [id] [GLot.mk T.id to T.area T.from_] (fun _=>to):=by
 unfold transferL at h0 ⊢
 obtain⟨c1,e⟩:=cond_some (by decide) rfl h0
 rw[← e]at h0 ⊢
 clear e
 obtain⟨c2,e⟩:=cond_some (by decide) rfl h0
 rw[← e]at h0 ⊢
 clear e
 simp only[Bool.or_eq_false_iff,Bool.not_eq_false']at c1
 have hf:(findLot l id).2=true:=by simpa using c2
 obtain⟨hT,hid⟩:=find_mem hf
 generalize (findLot l id).1=T at*
 have vT:=h.val T hT
 obtain⟨vn,_,vp⟩:=validL_parts vT
 obtain⟨vf1,vf2⟩:=validL_from vT
 have mem:∀ u∈[GLot.mk T.id to T.area T.from_],u=GLot.mk T.id to T.area T.from_:=fun u hu=>by simpa using hu
 have uniq:∀ t∈l,t.id∈[id]→t=T:=fun t ht hi=>h.uniq ht hT (by rw[hid];simpa using hi)
 refine⟨T,⟨hT,hid⟩,rfl,?_,?_,?_,?_,?_,?_,by simp⟩
 ·refine replace_land h (List.pairwise_singleton _ _) (fun u hu=>?_) ?_ ?_ (List.pairwise_singleton _ _)
  ·rw[mem u hu]
   exact validL_mk vn c1.2 vf1 vf2 vp
  ·intro u hu t ht hx
   rw[mem u hu]
   have htT:t.id≠T.id:=by rw[hid];exact hx id (by simp)
   exact⟨⟨htT,h.old t ht T hT⟩,h.old T hT t ht,show ApartC T.area t.area from h.apart' hT ht (Ne.symm htT)⟩
  ·intro u hu w hw
   rw[mem u hu,mem w hw]
   exact h.old T hT T hT
 ·intro x y
  constructor
  ·rintro⟨u,hu,hc⟩
   rw[mem u hu]at hc
   exact⟨T,hT,by rw[hid];simp,hc⟩
  ·rintro⟨t,ht,hi,hc⟩
   rw[uniq t ht hi]at hc
   exact⟨_,mem_singleton.2 rfl,hc⟩
 ·intro u hu t ht hi x y _ _
  rw[mem u hu]
 ·intro u hu t ht hi x y _ _
  rw[mem u hu,uniq t ht hi]
  exact .inl ⟨rfl,rfl,rfl⟩
 ·intro u hu
  rw[mem u hu]
  exact .inr ⟨T,hT,by rw[hid];simp,rfl,rfl,rfl⟩
 ·intro u hu x hx
  rw[mem u hu]at hx
  exact taken_true.2 ⟨T,hT,.inr hx⟩
theorem cells_form {l:List GRect} (h:∀ r∈l,OkR r=true) (x y:Int):cellsL (writeL (stripsL l)) x y=cellsL l x y:=by
 rw[cells_writeL (strips_stripsL l),colAt_stripsL,(columnL_spec h x).2]
theorem cells_flat (l:List GLot) (x y:Int):cellsL (l.flatMap (·.area)) x y=true↔∃ t∈l,cellsL t.area x y=true:=by
 unfold cellsL
 simp only[List.any_eq_true,List.mem_flatMap]
 constructor
 ·rintro⟨r,⟨t,ht,hr⟩,hc⟩
  exact⟨t,ht,r,hr,hc⟩
 ·rintro⟨t,ht,r,hr,hc⟩
  exact⟨r,⟨t,ht,hr⟩,hc⟩
theorem join_did {l:List GLot} {ids:List Int} {id:Int} (h:IsLand l) (h0:(joinL l ids id).2=0):
 ∃ Ts area,(∀ k∈ids,∃ t∈Ts,t∈l∧t.id=k)∧(∀ t∈Ts,t∈l∧t.id∈ids∧t.owner=(Ts.headD noLot).owner)∧Ts=ids.map (fun k=>(findLot l k).1)∧(takenL l id=false∧2≤ids.length∧ascL (isort ltI ids)=true)∧rightL area=true∧(∀ x y,cellsL area x y=true↔∃ t∈Ts,cellsL t.area x y=true)∧
   Did l (joinL l ids id).1 ids [GLot.mk id (Ts.headD noLot).owner area (lineL Ts)] (fun t=>t.owner):=by
 unfold joinL at h0 ⊢
 obtain⟨c1,e⟩:=cond_some (by decide) rfl h0
 rw[← e]at h0 ⊢
 clear e
 obtain⟨c2,e⟩:=cond_some (by decide) rfl h0
 rw[← e]at h0 ⊢
 clear e
 obtain⟨c3,e⟩:=cond_some (by decide) rfl h0
 rw[← e]at h0 ⊢
 clear e
 obtain⟨c4,e⟩:=cond_some (by decide) rfl h0
 rw[← e]at h0 ⊢
 clear e
 unfold joinT at h0 ⊢
 obtain⟨c5,e⟩:=cond_some (by decide) rfl h0
 rw[← e]at h0 ⊢
 clear e
 obtain⟨c6,e⟩:=cond_some (by decide) rfl h0
 rw[← e]at h0 ⊢
 clear e
 simp only[Bool.or_eq_false_iff,Bool.not_eq_false',decide_eq_false_iff_not]at c1
 obtain⟨_,hlen,hasc,hnum⟩:=c1
 have hall:(ids.all fun k=>(findLot l k).2)=true:=by simpa using c2
 have hcon:connB (writeL (stripsL ((ids.map fun k=>(findLot l k).1).flatMap (·.area))))=true:=by simpa using c6
 have hTs:∀ t∈(ids.map fun k=>(findLot l k).1),t∈l∧t.id∈ids:=by
  intro t ht
  obtain⟨k,hk,rfl⟩:=mem_map.1 ht
  obtain⟨m1,m2⟩:=find_mem (all_eq_true.1 hall k hk)
  exact⟨m1,by rw[m2];exact hk⟩
 have hks:∀ k∈ids,∃ t∈(ids.map fun k=>(findLot l k).1),t∈l∧t.id=k:=by
  intro k hk
  obtain⟨m1,m2⟩:=find_mem (all_eq_true.1 hall k hk)
  exact⟨_,mem_map.2 ⟨k,hk,rfl⟩,m1,m2⟩
 have hne:∃ t,t∈(ids.map fun k=>(findLot l k).1)∧t=(ids.map fun k=>(findLot l k).1).headD noLot:=by
  cases ids with
  |nil=>simp at hlen
  |cons k ks=>exact⟨_,List.mem_cons_self,rfl⟩
 generalize hTd:(ids.map fun k=>(findLot l k).1)=Ts at*
 have hown:∀ t∈Ts,t.owner=(Ts.headD noLot).owner:=by
  intro t ht
  have:=List.any_eq_false.1 c4 t ht
  simpa using this
 have okr:∀ r∈Ts.flatMap (·.area),OkR r=true:=by
  intro r hr
  obtain⟨t,ht,hr⟩:=List.mem_flatMap.1 hr
  exact (rightL_write (h.areas t (hTs t ht).1)).1 r hr
 have hcells:∀ x y,cellsL (writeL (stripsL (Ts.flatMap (·.area)))) x y=true↔∃ t∈Ts,cellsL t.area x y=true:=fun x y=>by rw[cells_form okr,cells_flat]
 generalize writeL (stripsL (Ts.flatMap (·.area)))=area at*
 have inT:∀ t∈Ts,t∈l:=fun t ht=>(hTs t ht).1
 obtain⟨t0,ht0,e0⟩:=hne
 have vo:ownB (Ts.headD noLot).owner=true:=by
  rw[← e0]
  exact (validL_parts (h.val t0 (inT t0 ht0))).2.1
 have vN:validL (GLot.mk id (Ts.headD noLot).owner area (lineL Ts))=true:=validL_mk hnum vo (lineL_strict _) (lineL_num h inT) hcon
 have mem:∀ u∈[GLot.mk id (Ts.headD noLot).owner area (lineL Ts)],u=GLot.mk id (Ts.headD noLot).owner area (lineL Ts):=fun u hu=>by simpa using hu
 have old:∀ t∈l,t.id∈ids→t∈Ts:=by
  intro t ht hi
  obtain⟨w,hw,h1,h2⟩:=hks _ hi
  rw[h.uniq ht h1 h2.symm];exact hw
 refine⟨Ts,area,hks,fun t ht=>⟨(hTs t ht).1,(hTs t ht).2,hown t ht⟩,rfl,⟨c3,by omega,hasc⟩,validL_right vN,hcells,rfl,?_,?_,?_,?_,?_,?_,by simp⟩
 ·refine replace_land h (List.pairwise_singleton _ _) (fun u hu=>by rw[mem u hu];exact vN) ?_ ?_ (List.pairwise_singleton _ _)
  ·intro u hu t ht hx
   rw[mem u hu]
   have:=taken_false c3 ht
   refine⟨⟨this.1,this.2⟩,?_,?_⟩
   ·intro hm
    obtain⟨w,hw,e⟩:=lineL_mem.1 hm
    rcases e with e |e
    ·exact hx _ (hTs w hw).2 e
    ·exact h.old w (inT w hw) t ht e
   ·intro x y h1 h2
    obtain⟨w,hw,h3⟩:=(hcells x y).1 h1
    exact h.apart' (inT w hw) ht (fun e=>hx _ (hTs w hw).2 e.symm) x y h3 h2
  ·intro u hu w hw hm
   rw[mem w hw]at hm
   rw[mem u hu]at hm
   have:=lineL_taken inT _ hm
   rw[c3]at this
   cases this
 ·intro x y
  constructor
  ·rintro⟨u,hu,hc⟩
   rw[mem u hu]at hc
   obtain⟨w,hw,h3⟩:=(hcells x y).1 hc
   exact⟨w,inT w hw,(hTs w hw).2,h3⟩
  ·rintro⟨t,ht,hi,hc⟩
   exact⟨_,mem_singleton.2 rfl,(hcells x y).2 ⟨t,old t ht hi,hc⟩⟩
 ·intro u hu t ht hi x y _ _
  rw[mem u hu]
  exact (hown t (old t ht hi)).symm
 ·intro u hu t ht hi x y _ _
  rw[mem u hu]
  right
  exact⟨lineL_mem.2 ⟨t,old t ht hi,.inl rfl⟩,fun z hz=>lineL_mem.2 ⟨t,old t ht hi,.inr hz⟩⟩
 ·intro u hu
  rw[mem u hu]
  exact .inl c3
 ·intro u hu x hx
  rw[mem u hu]at hx
  exact lineL_taken inT x hx
theorem add_did {l:List GLot} {lot:GLot} (h:IsLand l) (h0:(addL l lot).2=0):
 (addL l lot).1=replaceL l [] [lot]∧IsLand (addL l lot).1∧validL lot=true∧takenL l lot.id=false∧lot.from_=[]∧∀ t∈l,ApartC t.area lot.area:=by
 unfold addL at h0 ⊢
 obtain⟨c1,e⟩:=cond_some (by decide) rfl h0
 rw[← e]at h0 ⊢
 clear e
 obtain⟨c2,e⟩:=cond_some (by decide) rfl h0
 rw[← e]at h0 ⊢
 clear e
 obtain⟨c3,e⟩:=cond_some (by decide) rfl h0
 rw[← e]at h0 ⊢
 clear e
 simp only[Bool.or_eq_false_iff,Bool.not_eq_false',decide_eq_false_iff_not,ne_eq,Decidable.not_not]at c1
 obtain⟨_,hv,hfr⟩:=c1
 have hap:∀ t∈l,ApartC t.area lot.area:=by
  intro t ht
  have:=List.any_eq_false.1 c3 t ht
  rw[Bool.not_eq_true,meetL_false]at this
  exact this
 have mem:∀ u∈[lot],u=lot:=fun u hu=>by simpa using hu
 refine⟨rfl,?_,hv,c2,hfr,hap⟩
 refine replace_land h (List.pairwise_singleton _ _) (fun u hu=>by rw[mem u hu];exact hv) ?_ ?_ (List.pairwise_singleton _ _)
 ·intro u hu t ht _
  rw[mem u hu,hfr]
  have:=taken_false c2 ht
  exact⟨⟨this.1,this.2⟩,by simp,(hap t ht).symm⟩
 ·intro u hu w hw
  rw[mem w hw,hfr];simp
end Go.Proofs
namespace Go.Proofs
open Go.Gb Go.RowKit
theorem bne_self_int (a:Int):(a != a)=false:=by simp
theorem q06_Same_self {n:Nat} {a:List GRect} (hl:a.length < 1099511627776) (hn:a.length < n):q06_Same n a a=some true:=by
 have:=iter_to (step:=q06_Same_s1 a a) (fun i=>((i:Nat):Int)) a.length (.inl ()) (fun i hi=>?_) ?_ n hn
 ·unfold q06_Same
  rw[bne_self_int,show (0:Int)=((0:Nat):Int)from rfl,this];rfl
 ·have c:decide (((i:Nat):Int) < (a.length:Int))=true:=by simpa using hi
  simp only[q06_Same_s1,c,cond_true,at_get hi,bind_some,beq_self_eq_true,Bool.and_true,Bool.not_true,cond_false]
  rw[wrap_succ (by omega)]
 ·simp[q06_Same_s1]
theorem q13_Same_self {n:Nat} {a:List GLot} (h:∀ t∈a,LotOk t) (hl:a.length≤900) (hn:1000≤n):q13_Same n a a=some true:=by
 have inner:∀ (i:Nat) (hi:i < a.length),iter (q13_Same_s2 a a (i:Int)) n (0:Int)=some (.inl ()):=by
  intro i hi
  have ht:=(h _ (List.getElem_mem hi)).2
  have:=iter_to (step:=q13_Same_s2 a a (i:Int)) (fun j=>((j:Nat):Int)) a[i].from_.length (.inl ()) (fun j hj=>?_) ?_ n (by omega)
  ·exact this
  ·have c:decide (((j:Nat):Int) < (a[i].from_.length:Int))=true:=by simpa using hj
   simp only[q13_Same_s2,at_get hi,bind_some,c,cond_true,at_get hj,bne_self_int,cond_false]
   rw[wrap_succ (by omega)]
  ·simp[q13_Same_s2,at_get hi]
 have:=iter_to (step:=q13_Same_s1 n a a) (fun i=>((i:Nat):Int)) a.length (.inl ()) (fun i hi=>?_) ?_ n (by omega)
 ·unfold q13_Same
  rw[bne_self_int,show (0:Int)=((0:Nat):Int)from rfl,this];rfl
 ·have c:decide (((i:Nat):Int) < (a.length:Int))=true:=by simpa using hi
  have ht:=(h _ (List.getElem_mem hi)).1
  simp only[q13_Same_s1,c,cond_true,at_get hi,bind_some,bne_self_int,cond_false,q06_Same_self (n:=n) (a:=a[i].area) (by omega) (by omega),Bool.not_true,inner i hi,thenB_inl]
  rw[wrap_succ (by omega)]
 ·simp[q13_Same_s1]
theorem q13_FewOps_full {n:Nat} {l:List GOp} (hl:l.length≤maxLen) (hn:l.length < n):∃ b,q13_FewOps n l=some b∧(b=true→l.length≤12∧∀ o∈l,o.area.length≤10∧o.ids.length≤8):=by
 have:=iter_find (l:=l) (step:=q13_FewOps_s1 l) (fun i=>((i:Nat):Int)) (fun t:GOp=>decide ((t.area.length:Int)>10) || decide ((t.ids.length:Int)>8)) () (fun _=>false) (fun i hi=>?_) (by simp[q13_FewOps_s1]) n hn
 ·rw[show ((0:Nat):Int)=0 from rfl]at this
  unfold q13_FewOps
  rw[this]
  rcases findL_spec (fun t:GOp=>decide ((t.area.length:Int)>10) || decide ((t.ids.length:Int)>8)) l with ⟨i,hi,h1,_⟩ |⟨h1,h2⟩
  ·rw[h1];exact⟨false,rfl,by simp⟩
  ·rw[h1]
   refine⟨_,rfl,fun h=>⟨?_,fun t ht=>?_⟩⟩
   ·have:=of_decide_eq_true h
    omega
   ·have:=h2 t ht
    simp only[Bool.or_eq_false_iff,decide_eq_false_iff_not]at this
    omega
 ·have hi':decide (((i:Nat):Int) < (l.length:Int))=true:=by simpa using hi
  have hm:i < 9223372036854775807:=by simp only[maxLen]at hl;omega
  simp only[q13_FewOps_s1,hi',cond_true,at_get hi,bind_some]
  cases decide ((l[i].area.length:Int)>10)with
  |true=>rfl
  |false=>
   simp only[cond_false,Bool.false_or,bind_some]
   cases decide ((l[i].ids.length:Int)>8)with
   |true=>rfl
   |false=>simp only[cond_false];rw[wrap_succ hm]
structure Good (k:Nat) (U:List Int) (l:List GLot):Prop where
 land:IsLand l
 len:l.length≤2*k
 used:Used U l
 ulen:U.length≤2*k
theorem Good.ok {k:Nat} {U:List Int} {l:List GLot} (h:Good k U l) (hk:k≤40):∀ t∈l,LotOk t:=fun t ht=>by
 have h1:=(rightL_write (h.land.areas t ht)).2.1
 have h2:=used_len h.used h.land ht
 have h3:=h.ulen
 exact⟨by omega,by omega⟩
theorem good_nil:Good 0 [] []:=⟨isLand_nil,by simp,fun _ h=>by simp at h,by simp⟩
theorem used_step {U:List Int} {l lots:List GLot} {old:List Int} (hu:Used U l) (hn:∀ u∈lots,∀ x∈u.from_,takenL l x=true):Used (lots.map (·.id)++U) (replaceL l old lots):=by
 intro t ht
 rcases replaceL_mem.1 ht with ⟨ht,_⟩ |ht
 ·have:=hu t ht
  exact⟨List.mem_append_right _ this.1,fun x hx=>List.mem_append_right _ (this.2 x hx)⟩
 ·refine⟨List.mem_append_left _ (mem_map.2 ⟨t,ht,rfl⟩),fun x hx=>List.mem_append_right _ ?_⟩
  obtain⟨w,hw,e⟩:=taken_true.1 (hn t ht x hx)
  rcases e with rfl |e
  ·exact (hu w hw).1
  ·exact (hu w hw).2 x e
theorem Good.step {k:Nat} {U:List Int} {l lots:List GLot} {old:List Int} (h:Good k U l) (hl:IsLand (replaceL l old lots)) (hn:∀ u∈lots,∀ x∈u.from_,takenL l x=true) (h2:lots.length≤2):Good (k+1) (lots.map (·.id)++U) (replaceL l old lots):=by
 refine⟨hl,?_,used_step h.used hn,?_⟩
 ·have:=replaceL_len l old lots
  have:=h.len
  omega
 ·rw[length_append,List.length_map]
  have:=h.ulen
  omega
theorem Good.mono {k:Nat} {U:List Int} {l:List GLot} (h:Good k U l):Good (k+1) U l:=⟨h.land,by have:=h.len;omega,h.used,by have:=h.ulen;omega⟩
inductive Done (l:List GLot) (o:GOp):Prop
 |err (h:(doL l o).2≠0) (h1:(doL l o).1=l)
 |add (h:(doL l o).2=0) (hk:o.kind=0) (h1:(doL l o).1=replaceL l [] [GLot.mk o.id o.n (ofL o.area).1 []]) (h2:IsLand (doL l o).1) (h3:validL (GLot.mk o.id o.n (ofL o.area).1 [])=true) (h4:takenL l o.id=false) (h5:∀ t∈l,ApartC t.area (ofL o.area).1)
 |did (h:(doL l o).2=0) (hk:o.kind≠0) (old:List Int) (lots:List GLot) (ow:GLot→Int) (h1:Did l (doL l o).1 old lots ow) (h2:∀ t∈l,t.id∈old→ow t=bif o.kind==3&&t.id==o.id then o.n else t.owner) (h3:o.kind=3→∀ t∈l,t.id=o.id→t.id∈old)
 |same (h:(doL l o).2=0) (hk:o.kind≠0) (hk3:o.kind≠3) (h1:(doL l o).1=l)
theorem doR_err {l:List GLot} {r:List GLot×Int} (h:r.2≠0):(doR l r).2≠0∧(doR l r).1=l:=by
 unfold doR
 have:(r.2 != 0)=true:=by simp[h]
 rw[this]
 exact⟨h,rfl⟩
theorem doR_ok {l:List GLot} {r:List GLot×Int} (h:r.2=0):(doR l r).2=0∧(doR l r).1=r.1:=by
 unfold doR
 have:(r.2 != 0)=false:=by simp[h]
 rw[this]
 exact⟨rfl,rfl⟩
theorem do_done {l:List GLot} (o:GOp) (h:IsLand l):Done l o:=by
 cases k0:o.kind==0 with
 |true=>
  have hk:o.kind=0:=by simpa using k0
  have e:doL l o=doR l (addL l (GLot.mk o.id o.n (ofL o.area).1 [])):=by unfold doL;rw[k0];rfl
  by_cases h0:(addL l (GLot.mk o.id o.n (ofL o.area).1 [])).2=0
  ·obtain⟨a1,a2⟩:=doR_ok (l:=l) h0
   obtain⟨d1,d2,d3,d4,_,d6⟩:=add_did h h0
   rw[← e]at a1 a2
   exact .add a1 hk (a2.trans d1) (by rw[a2];exact d2) d3 d4 d6
  ·obtain⟨a1,a2⟩:=doR_err (l:=l) h0
   exact .err (by rw[e];exact a1) (by rw[e];exact a2)
 |false=>
 have hk:o.kind≠0:=by simpa using k0
 cases k1:o.kind==1 with
 |true=>
  have hk1:o.kind=1:=by simpa using k1
  have e:doL l o=doR l (splitL l o.id (ofL o.area).1 o.a o.b):=by unfold doL;rw[k0,k1];rfl
  by_cases h0:(splitL l o.id (ofL o.area).1 o.a o.b).2=0
  ·obtain⟨a1,a2⟩:=doR_ok (l:=l) h0
   obtain⟨T,I,O,_,_,_,_,d⟩:=split_did h h0
   rw[← e]at a1 a2
   rw[← a2]at d
   refine .did a1 hk _ _ _ d (fun t _ _=>?_) (fun h3=>by omega)
   have:(o.kind==3)=false:=by simp;omega
   rw[this];rfl
  ·obtain⟨a1,a2⟩:=doR_err (l:=l) h0
   exact .err (by rw[e];exact a1) (by rw[e];exact a2)
 |false=>
 cases k2:o.kind==2 with
 |true=>
  have hk2:o.kind=2:=by simpa using k2
  have e:doL l o=doR l (joinL l o.ids o.id):=by unfold doL;rw[k0,k1,k2];rfl
  by_cases h0:(joinL l o.ids o.id).2=0
  ·obtain⟨a1,a2⟩:=doR_ok (l:=l) h0
   obtain⟨Ts,area,_,_,_,_,_,_,d⟩:=join_did h h0
   rw[← e]at a1 a2
   rw[← a2]at d
   refine .did a1 hk _ _ _ d (fun t _ _=>?_) (fun h3=>by omega)
   have:(o.kind==3)=false:=by simp;omega
   rw[this];rfl
  ·obtain⟨a1,a2⟩:=doR_err (l:=l) h0
   exact .err (by rw[e];exact a1) (by rw[e];exact a2)
 |false=>
 cases k3:o.kind==3 with
 |true=>
  have e:doL l o=doR l (transferL l o.id o.n):=by unfold doL;rw[k0,k1,k2,k3];rfl
  by_cases h0:(transferL l o.id o.n).2=0
  ·obtain⟨a1,a2⟩:=doR_ok (l:=l) h0
   obtain⟨T,_,d⟩:=transfer_did h h0
   rw[← e]at a1 a2
   rw[← a2]at d
   refine .did a1 hk _ _ _ d (fun t _ hi=>?_) (fun _ t _ hi=>by rw[hi];simp)
   have:(t.id==o.id)=true:=by simpa using hi
   rw[this,k3];rfl
  ·obtain⟨a1,a2⟩:=doR_err (l:=l) h0
   exact .err (by rw[e];exact a1) (by rw[e];exact a2)
 |false=>
  have e:doL l o=(l,0):=by unfold doL;rw[k0,k1,k2,k3];rfl
  exact .same (by rw[e]) hk (by simpa using k3) (by rw[e])
theorem good_do {k:Nat} {U:List Int} {l:List GLot} (o:GOp) (h:Good k U l):∃ V,(∃ W,V=W++U)∧Good (k+1) V (doL l o).1:=by
 rcases do_done o h.land with ⟨_,h1⟩ |⟨_,_,h1,h2,_,_,_⟩ |⟨_,_,old,lots,ow,h1,_,_⟩ |⟨_,_,_,h1⟩
 ·exact⟨U,⟨[],rfl⟩,by rw[h1];exact h.mono⟩
 ·have g:=h.step (lots:=[GLot.mk o.id o.n (ofL o.area).1 []]) (old:=[]) (by rw[← h1];exact h2) (fun u hu x hx=>by
   have:u=GLot.mk o.id o.n (ofL o.area).1 []:=by simpa using hu
   rw[this]at hx
   simp at hx) (by simp)
  exact⟨_,⟨_,rfl⟩,by rw[h1];exact g⟩
 ·have g:=h.step (lots:=lots) (old:=old) (by rw[← h1.eq];exact h1.land) h1.nums h1.len
  exact⟨_,⟨_,rfl⟩,by rw[h1.eq];exact g⟩
 ·exact⟨U,⟨[],rfl⟩,by rw[h1];exact h.mono⟩
end Go.Proofs
namespace Go.Proofs
open Go.Gb Go.RowKit
theorem l13_in_eq {n:Nat} {l:List Int} {a:Int} (hl:l.length < 1099511627776) (hn:l.length < n):l13_in n l a=some (decide (a∈l)):=by
 have:=iter_find (l:=l) (step:=l13_in_s1 l a) (fun i=>((i:Nat):Int)) (fun x=>x==a) () (fun _=>true) (fun i hi=>?_) ?_ n hn
 ·unfold l13_in
  rw[show ((0:Nat):Int)=0 from rfl]at this
  rw[this]
  have e:decide (a∈l)=l.any fun x=>x==a:=by rw[Bool.eq_iff_iff];simp
  rw[e,← findL_any]
  cases findL (fun x=>x==a) l<;>rfl
 ·have hi':decide (((i:Nat):Int) < (l.length:Int))=true:=by simpa using hi
  simp only[l13_in_s1,hi',cond_true,at_get hi,bind_some]
  cases l[i]==a with
  |true=>rfl
  |false=>simp only[cond_false];rw[wrap_succ (by omega)]
 ·simp[l13_in_s1]
end Go.Proofs
namespace Go.Proofs
open Go.Gb Go.RowKit
theorem rg_Same_eq {n:Nat} {a b:List GRect} (hl:a.length < 1099511627776) (hn:a.length < n):rg_Same n a b=some (decide (a=b)):=by
 unfold rg_Same
 rw[sl_Equal_Rect_eq hl hn];rfl
end Go.Proofs
namespace Go.Proofs
open Go.Gb Go.RowKit
theorem cols_unique {S:List Gstrip} {t:List GRect} (hS:Strips S) (ht:∀ r∈t,OkR r=true) (h1:∀ x,Can (colAt S x)) (h2:∀ x y,inS (colAt S x) y=cellsL t x y):writeL S=writeL (stripsL t):=by
 refine writeL_unique hS (strips_stripsL t) fun x=>?_
 obtain⟨c1,c2⟩:=columnL_spec ht x
 rw[colAt_stripsL]
 exact can_unique (h1 x) c1 fun y=>by rw[h2,c2]
theorem union_eq {t i o:List GRect} (ht:rightL t=true) (hi:rightL i=true) (ho:rightL o=true) (h:∀ x y,cellsL t x y=(cellsL i x y || cellsL o x y)):combineL (fun p q=>p || q) i o=(t,0):=by
 have w:=rightL_write ht
 have sp:=fun x=>mergeL_spec (keep:=fun p q=>p || q) rfl (columnL i x) (columnL o x)
 have e:writeL (combL (fun p q=>p || q) i o)=t:=by
  have hs:Strips (combL (fun p q=>p || q) i o):=strips_pairs _ _ (edgesL_strict _)
  rw[cols_unique (t:=t) hs w.1 (fun x=>by rw[combL_col rfl];exact (sp x).1) (fun x y=>by
   rw[combL_col rfl,(sp x).2,(columnL_spec (rightL_write hi).1 x).2,(columnL_spec (rightL_write ho).1 x).2,h])]
  exact w.2.2
 unfold combineL
 rw[hi,ho,e]
 have:¬ t.length>200:=by have:=w.2.1;omega
 simp[this]
theorem rg_Union_eq {n:Nat} {a b:List GRect} (ha:a.length≤900) (hb:b.length≤900) (hn:1000≤n):rg_Union n a b=some (combineL (fun p q=>p || q) a b):=by
 unfold rg_Union
 rw[rg_combine_eq (keep:=fun p q=>p || q) (fun p q=>by show rg_Union_f1 p q=_;unfold rg_Union_f1;cases p<;>rfl) (by omega) (by omega) (by omega) (by omega) hn]
 rfl
theorem form_eq {t:List GRect} {l:List GRect} (ht:rightL t=true) (hl:∀ r∈l,OkR r=true) (h:∀ x y,cellsL t x y=cellsL l x y):writeL (stripsL l)=t:=by
 have w:=rightL_write ht
 rw[cols_unique (t:=t) (strips_stripsL l) w.1 (fun x=>by rw[colAt_stripsL];exact (columnL_spec hl x).1) (fun x y=>by rw[colAt_stripsL,(columnL_spec hl x).2,h])]
 exact w.2.2
theorem nodup_len':∀ {l m:List Int},l.Pairwise (· ≠ ·)→(∀ x∈l,x∈m)→l.length≤m.length
 |[],_,_,_=>by simp
 |x::l,m,h,hm=>by
  rw[List.pairwise_cons]at h
  have hx:=hm x List.mem_cons_self
  have:=nodup_len' (l:=l) (m:=m.erase x) h.2 fun z hz=>by
   have:=h.1 z hz
   exact (List.mem_erase_of_ne (Ne.symm this)).2 (hm z (List.mem_cons_of_mem _ hz))
  rw[List.length_erase_of_mem hx]at this
  have:=List.length_pos_of_mem hx
  simp only[List.length_cons]
  omega
theorem filter_one:∀ {l:List GLot} {id:Int},Diff l→(∃ t∈l,t.id=id)→(l.filter fun t=>!([id].any fun x=>t.id==x)).length+1=l.length
 |[],_,_,h=>by obtain⟨t,ht,_⟩:=h;simp at ht
 |a::l,id,hd,h=>by
  unfold Diff at hd
  rw[List.pairwise_cons]at hd
  by_cases e:a.id=id
  ·have:(l.filter fun t=>!([id].any fun x=>t.id==x))=l:=by
    rw[List.filter_eq_self]
    intro t ht
    have:=hd.1 t ht
    simp
    omega
   rw[List.filter_cons]
   have c:(!([id].any fun x=>a.id==x))=false:=by simp[e]
   simp only[c,Bool.false_eq_true,if_false,this,List.length_cons]
  ·have ih:=filter_one (l:=l) (id:=id) hd.2 (by
    obtain⟨t,ht,hi⟩:=h
    rcases mem_cons.1 ht with rfl |ht
    ·exact absurd hi e
    ·exact⟨t,ht,hi⟩)
   rw[List.filter_cons]
   have c:(!([id].any fun x=>a.id==x))=true:=by simp[e]
   simp only[c,if_true,List.length_cons,ih]
theorem split_err {l:List GLot} {id a b:Int} {cut:List GRect} (h:(splitL l id cut a b).2≠0):(splitL l id cut a b).1=[]:=by
 unfold splitL splitT at*
 revert h
 generalize combineL (fun p q=>p&&q) (findLot l id).1.area cut=I
 generalize combineL (fun p q=>p&&!q) (findLot l id).1.area cut=O
 cases (!landL l || (!rightL cut || (!numB a || (!numB b || a==b))))<;>cases (!(findLot l id).2)<;>cases (takenL l a || takenL l b)<;>cases ((I.2==0&&decide (I.1=[])) || (O.2==0&&decide (O.1=[])))<;>cases (I.2 != 0 || O.2 != 0)<;>cases (!connB I.1 || !connB O.1)<;>simp
theorem asc_isort {l:List Int} (h:l.Pairwise (· ≠ ·)):ascL (isort ltI l)=true:=by
 rw[ascL_iff]
 have h1:=isort_sorted swo_ltI l
 have h2:(isort ltI l).Pairwise (· ≠ ·):=((isort_perm ltI l).pairwise_iff (fun {a b} hab=>Ne.symm hab)).2 h
 refine (h1.and h2).imp fun {x y} hxy=>?_
 have:=hxy.1
 have:=hxy.2
 simp only[ltI,decide_eq_false_iff_not]at*
 omega
theorem join_back {b:List GLot} {A B T:GLot} {id:Int} (h:IsLand b) (hA:A∈b) (hB:B∈b) (hne:A.id≠B.id) (hT:validL T=true) (oA:A.owner=T.owner) (oB:B.owner=T.owner) (hc:∀ x y,cellsL T.area x y=(cellsL A.area x y || cellsL B.area x y)):
 joinL b [B.id,A.id] id=bif !numB id then ([],1)else bif takenL b id then ([],5)else (replaceL b [B.id,A.id] [GLot.mk id T.owner T.area (lineL [B,A])],0):=by
 have fA:=find_of_diff h.diff hA
 have fB:=find_of_diff h.diff hB
 have rT:=validL_right hT
 have wT:=rightL_write rT
 have fm:writeL (stripsL ([B,A].flatMap (·.area)))=T.area:=by
  refine form_eq rT (fun r hr=>?_) fun x y=>?_
  ·obtain⟨t,ht,hr2⟩:=List.mem_flatMap.1 hr
   have:t=B∨t=A:=by simpa using ht
   have hb:t∈b:=by
    rcases this with e |e
    ·rw[e];exact hB
    ·rw[e];exact hA
   exact (rightL_write (h.areas _ hb)).1 r hr2
  ·rw[hc,Bool.eq_iff_iff,cells_flat]
   simp[Or.comm]
 unfold joinL joinT
 have e1:landL b=true:=(isLand_iff b).2 h
 have e2:ascL (isort ltI [B.id,A.id])=true:=asc_isort (by simp;exact Ne.symm hne)
 have e3:([B.id,A.id].map fun k=>(findLot b k).1)=[B,A]:=by simp[fA,fB]
 have e4:([B.id,A.id].all fun k=>(findLot b k).2)=true:=by simp[fA,fB]
 have e5:([B,A].any fun t=>t.owner != T.owner)=false:=by simp[oA,oB]
 have e6:decide (T.area.length>200)=false:=by simp;omega
 have e7:connB T.area=true:=(validL_parts hT).2.2
 have e8:([B,A].headD noLot).owner=T.owner:=oB
 have e9:decide ([B.id,A.id].length < 2)=false:=rfl
 simp only[e1,e2,e3,e4,e5,e6,e7,e8,e9,fm,Bool.not_true,Bool.false_or,cond_false]
theorem ParcelBack_true {n:Nat} (hn:10000≤n) (ops:List GOp) (o:GOp) (id:Int) (hl:ops.length≤maxLen) (hln:ops.length < n):l13_ParcelBack n ops o id=some true:=by
 obtain⟨bb,hb,hfew⟩:=q13_FewOps_full hl hln
 unfold l13_ParcelBack
 rw[small13 hn,hb]
 simp only[bind_some]
 cases bb with
 |false=>rfl
 |true=>
 simp only[Bool.not_true,cond_false,bind_some]
 cases ha:decide ((o.area.length:Int)>10)with
 |true=>rfl
 |false=>
 have ha':o.area.length≤10:=by simp at ha;omega
 obtain⟨h12,hsz⟩:=hfew rfl
 have loop:∃ l U,Good ops.length U l∧iter (l13_ParcelBack_s1 n ops) n (([]:List GLot),(0:Int))=some l:=by
  have inv:∀ i,i≤ops.length→∃ U,Good i U ((ops.take i).foldl (fun s o=>(doL s o).1) []):=by
   intro i
   induction i with
   |zero=>intro _;exact⟨[],good_nil⟩
   |succ i ih=>
    intro hi
    obtain⟨U,hg⟩:=ih (by omega)
    obtain⟨V,_,hg2⟩:=good_do ops[i] hg
    refine⟨V,?_⟩
    rw[List.take_succ_eq_append_getElem (by omega),List.foldl_append]
    exact hg2
  obtain⟨U,hU⟩:=inv ops.length (Nat.le_refl _)
  refine⟨_,U,hU,?_⟩
  have:=iter_to (step:=l13_ParcelBack_s1 n ops) (fun i=>((ops.take i).foldl (fun s o=>(doL s o).1) [],((i:Nat):Int))) ops.length ((ops.take ops.length).foldl (fun s o=>(doL s o).1) []) (fun i hi=>?_) (by simp[l13_ParcelBack_s1]) n hln
  ·exact this
  ·obtain⟨U,hg⟩:=inv i (by omega)
   have c:decide (((i:Nat):Int) < (ops.length:Int))=true:=by simpa using hi
   obtain⟨z1,z2⟩:=hsz _ (List.getElem_mem hi)
   have ok1:=hg.ok (by omega)
   have ll1:=hg.len
   simp only[l13_ParcelBack_s1,c,cond_true,at_get hi,bind_some,l13_do_eq (n:=n) (o:=ops[i]) ok1 (by omega) (by omega) (by omega) hn]
   rw[wrap_succ (by omega),List.take_succ_eq_append_getElem hi,List.foldl_append]
   rfl
 obtain⟨l,U,hg,hit⟩:=loop
 rw[hit]
 have ok:=hg.ok (by omega)
 have ll:=hg.len
 have lo:=ofL_len o.area
 rw[rg_Of_eq (by omega) (by omega) (by omega)]
 simp only[bind_some,cond_false]
 rw[pc_Split_full ok (by omega) (by omega) (by omega)]
 simp only[bind_some,sub_all,eqL_self,cond_true]
 by_cases h0:(splitL l o.id (ofL o.area).1 o.a o.b).2=0
 ·have k1:((splitL l o.id (ofL o.area).1 o.a o.b).2 != 0)=false:=by simp[h0]
  obtain⟨T,I,O,⟨hT,hid⟩,⟨ta,tb,hab⟩,sI,sO,d⟩:=split_did hg.land h0
  simp only[k1,cond_false]
  have db:=d.eq
  have lb:=d.land
  generalize (splitL l o.id (ofL o.area).1 o.a o.b).1=b at*
  have gb:Good (ops.length+1) ([GLot.mk o.a T.owner I (lineL [T]),GLot.mk o.b T.owner O (lineL [T])].map (·.id)++U) b:=by
   have:=hg.step (lots:=[GLot.mk o.a T.owner I (lineL [T]),GLot.mk o.b T.owner O (lineL [T])]) (old:=[o.id]) (by rw[← db];exact lb) d.nums d.len
   rw[← db]at this
   exact this
  have okb:=gb.ok (by omega)
  have llb:=gb.len
  have memb:∀ t,t∈b↔(t∈l∧t.id≠o.id)∨(t=GLot.mk o.a T.owner I (lineL [T])∨t=GLot.mk o.b T.owner O (lineL [T])):=fun t=>by rw[db,replaceL_mem];simp
  have hA:GLot.mk o.a T.owner I (lineL [T])∈b:=(memb _).2 (.inr (.inl rfl))
  have hB:GLot.mk o.b T.owner O (lineL [T])∈b:=(memb _).2 (.inr (.inr rfl))
  have fT:findLot l o.id=(T,true):=by rw[← hid];exact find_of_diff hg.land.diff hT
  have fA:findLot b o.a=(GLot.mk o.a T.owner I (lineL [T]),true):=find_of_diff lb.diff hA
  have fB:findLot b o.b=(GLot.mk o.b T.owner O (lineL [T]),true):=find_of_diff lb.diff hB
  have rI:=lb.areas _ hA
  have rO:=lb.areas _ hB
  have vT:=hg.land.val T hT
  have rT:=validL_right vT
  have cT:∀ x y,cellsL T.area x y=(cellsL I x y || cellsL O x y):=by
   intro x y
   rw[sI,sO]
   cases cellsL T.area x y<;>cases cellsL (ofL o.area).1 x y<;>rfl
  have lenF:=filter_one (id:=o.id) hg.land.diff ⟨T,hT,hid⟩
  have lenb:b.length=l.length+1:=by
   rw[db]
   unfold replaceL
   rw[length_sortG swo_ltT,length_append]
   simp only[List.length_cons,List.length_nil]
   omega
  have wl:i64.wrap ((l.length:Int)+1)=(b.length:Int):=by rw[lenb,wrap_id (by omega) (by omega)];push_cast;rfl
  have bn:∀ a:Int,(a != a)=false:=fun a=>by simp
  have aT:=(rightL_write rT).2.1
  have aI:I.length≤200:=(rightL_write rI).2.1
  have aO:O.length≤200:=(rightL_write rO).2.1
  have s2:(sub ([o.b,o.a]:List Int) 0 2)=[o.b,o.a]:=rfl
  have q2:eqL ([o.b,o.a]:List Int).length 2=true:=rfl
  have jb:=join_back (id:=id) (T:=T) lb hA hB hab vT rfl rfl cT
  rw[pc_Find_eq ok (by omega) (by omega),pc_Find_eq okb (by omega) (by omega),pc_Find_eq okb (by omega) (by omega),fT,fA,fB]
  simp only[bind_some,Bool.not_true,cond_false]
  rw[rg_Union_eq (by omega) (by omega) (by omega),union_eq rT rI rO cT]
  simp only[bind_some,bn,cond_false,rg_Same_eq (n:=n) (a:=T.area) (b:=T.area) (by omega) (by omega),decide_true,Bool.not_true,wl,s2,q2,cond_true]
  rw[pc_Join_eq okb (by omega) (by simp) hn,show joinL b [o.b,o.a] id=_ from jb]
  simp only[bind_some,sub_all,eqL_self,cond_true]
  cases hnum:numB id with
  |false=>
   have:id < 1∨id>1073741824:=by
    simp only[numB,Bool.and_eq_false_iff,decide_eq_false_iff_not]at hnum
    omega
   have key:((bif decide (id < 1)then some true else some (decide (id>1073741824))):Option Bool)=some true:=by
    by_cases h1:id < 1
    ·simp[h1]
    ·have h2:id>1073741824:=by omega
     simp[h2]
   simp only[Bool.not_false,cond_true]
   exact key
  |true=>
  cases htk:takenL b id with
  |true=>rfl
  |false=>
  have j0:(joinL b [o.b,o.a] id).2=0:=by rw[show joinL b [o.b,o.a] id=_ from jb,hnum,htk];rfl
  obtain⟨_,_,_,_,_,_,_,_,dc⟩:=join_did lb j0
  have lc:=dc.land
  rw[show joinL b [o.b,o.a] id=_ from jb,hnum,htk]at lc
  have lc:IsLand (replaceL b [o.b,o.a] [GLot.mk id T.owner T.area (lineL [GLot.mk o.b T.owner O (lineL [T]),GLot.mk o.a T.owner I (lineL [T])])]):=lc
  have z0:((0:Int) != 0)=false:=rfl
  simp only[Bool.not_true,cond_false,z0]
  have tk1:∀ t∈l,t.id≠o.a∧o.a∉t.from_:=fun t ht=>taken_false ta ht
  have tk2:∀ t∈l,t.id≠o.b∧o.b∉t.from_:=fun t ht=>taken_false tb ht
  have lenc:(replaceL b [o.b,o.a] [GLot.mk id T.owner T.area (lineL [GLot.mk o.b T.owner O (lineL [T]),GLot.mk o.a T.owner I (lineL [T])])]).length=l.length:=by
   unfold replaceL
   rw[length_sortG swo_ltT,length_append]
   have pb:b.Perm ((l.filter fun t=>!([o.id].any fun x=>t.id==x))++[GLot.mk o.a T.owner I (lineL [T]),GLot.mk o.b T.owner O (lineL [T])]):=by rw[db];exact sortG_perm swo_ltT _
   have pf:=(pb.filter fun t=>!([o.b,o.a].any fun x=>t.id==x)).length_eq
   rw[pf,List.filter_append,length_append]
   have e1:((l.filter fun t=>!([o.id].any fun x=>t.id==x)).filter fun t=>!([o.b,o.a].any fun x=>t.id==x))=(l.filter fun t=>!([o.id].any fun x=>t.id==x)):=by
    rw[List.filter_eq_self]
    intro t ht
    have hl:=(List.mem_filter.1 ht).1
    have h1:=(tk1 t hl).1
    have h2:=(tk2 t hl).1
    simp[h1,h2]
   have e2:([GLot.mk o.a T.owner I (lineL [T]),GLot.mk o.b T.owner O (lineL [T])].filter fun t=>!([o.b,o.a].any fun x=>t.id==x))=[]:=by simp
   rw[e1,e2]
   simp only[List.length_cons,List.length_nil]
   omega
  generalize hN:GLot.mk id T.owner T.area (lineL [GLot.mk o.b T.owner O (lineL [T]),GLot.mk o.a T.owner I (lineL [T])])=N at*
  have N1:N.id=id:=by rw[← hN]
  have N2:N.owner=T.owner:=by rw[← hN]
  have N3:N.area=T.area:=by rw[← hN]
  have N4:N.from_=lineL [GLot.mk o.b T.owner O (lineL [T]),GLot.mk o.a T.owner I (lineL [T])]:=by rw[← hN]
  have memc:∀ t,t∈replaceL b [o.b,o.a] [N]↔(t∈b∧t.id≠o.b∧t.id≠o.a)∨t=N:=fun t=>by rw[replaceL_mem];simp
  have gc:Good (ops.length+1+1) ([N].map (·.id)++([GLot.mk o.a T.owner I (lineL [T]),GLot.mk o.b T.owner O (lineL [T])].map (·.id)++U)) (replaceL b [o.b,o.a] [N]):=by
   refine gb.step lc (fun u hu x hx=>?_) (by simp)
   have:u=N:=by simpa using hu
   rw[this,N4]at hx
   refine lineL_taken (fun t ht=>?_) x hx
   have:t=GLot.mk o.b T.owner O (lineL [T])∨t=GLot.mk o.a T.owner I (lineL [T]):=by simpa using ht
   rcases this with rfl |rfl
   ·exact hB
   ·exact hA
  generalize replaceL b [o.b,o.a] [N]=c at*
  have okc:=gc.ok (by omega)
  have llc:=gc.len
  have fN:findLot c id=(N,true):=by rw[← N1];exact find_of_diff lc.diff ((memc N).2 (.inr rfl))
  have inN:∀ z,z∈N.from_↔z=o.b∨z=o.a∨z=T.id∨z∈T.from_:=by
   intro z
   rw[N4,lineL_mem]
   constructor
   ·rintro⟨t,ht,h⟩
    have:t=GLot.mk o.b T.owner O (lineL [T])∨t=GLot.mk o.a T.owner I (lineL [T]):=by simpa using ht
    have lm:z∈lineL [T]→z=T.id∨z∈T.from_:=by
     intro h
     obtain⟨w,hw,e⟩:=lineL_mem.1 h
     have:w=T:=by simpa using hw
     subst this
     exact e
    rcases this with rfl |rfl
    ·rcases h with h |h
     ·exact .inl h
     ·exact .inr (.inr (lm h))
    ·rcases h with h |h
     ·exact .inr (.inl h)
     ·exact .inr (.inr (lm h))
   ·rintro (h |h |h)
    ·exact⟨_,List.mem_cons_self,.inl h⟩
    ·exact⟨_,List.mem_cons_of_mem _ List.mem_cons_self,.inl h⟩
    ·exact⟨_,List.mem_cons_self,.inr (lineL_mem.2 ⟨T,by simp,h⟩)⟩
  have fT2:=validL_from vT
  have lenN:N.from_.length=T.from_.length+3:=by
   have nd:(o.b::o.a::T.id::T.from_).Pairwise (· ≠ ·):=by
    have t1:=tk1 T hT
    have t2:=tk2 T hT
    refine .cons ?_ (.cons ?_ (.cons ?_ (fT2.1.imp fun h=>by omega)))
    ·intro z hz
     simp only[mem_cons]at hz
     rcases hz with rfl |rfl |hz
     ·exact Ne.symm hab
     ·exact Ne.symm t2.1
     ·intro e;exact t2.2 (e ▸ hz)
    ·intro z hz
     simp only[mem_cons]at hz
     rcases hz with rfl |hz
     ·exact Ne.symm t1.1
     ·intro e;exact t1.2 (e ▸ hz)
    ·intro z hz e
     exact hg.land.old T hT T hT (e ▸ hz)
   have g1:=nodup_len' (m:=N.from_) nd fun z hz=>(inN z).2 (by simpa using hz)
   have g2:=nodup_len' (l:=N.from_) (m:=o.b::o.a::T.id::T.from_) (by rw[N4];exact (lineL_strict _).imp fun h=>by omega) fun z hz=>by simpa using (inN z).1 hz
   simp only[List.length_cons]at g1 g2
   omega
  have kT:=ok T hT
  have wf:i64.wrap ((T.from_.length:Int)+3)=(N.from_.length:Int):=by rw[lenN,wrap_id (by omega) (by omega)];push_cast;rfl
  have inn:∀ z,z∈N.from_→l13_in n N.from_ z=some true:=fun z hz=>by
   rw[l13_in_eq (by omega) (by omega)]
   simp[hz]
  have L:iter (l13_ParcelBack_s2 n o l (c,0)) n (0:Int)=some (.inl ()):=by
   have:=iter_to (step:=l13_ParcelBack_s2 n o l (c,0)) (fun i=>((i:Nat):Int)) l.length (.inl ()) (fun i hi=>?_) ?_ n (by omega)
   ·exact this
   ·have cc:decide (((i:Nat):Int) < (l.length:Int))=true:=by simpa using hi
    have hm:=List.getElem_mem hi
    have ww:i64.wrap ((i:Int)+1)=((i+1:Nat):Int):=wrap_succ (by omega)
    have so:slOk (i:Int) ((i+1:Nat):Int) l.length=true:=slOk_true (by omega) (by omega) (by omega)
    have sb:sub l ((i:Int)).toNat ((((i+1:Nat):Int)).toNat - ((i:Int)).toNat)=[l[i]]:=by
     rw[Int.toNat_natCast,Int.toNat_natCast,Nat.add_sub_cancel_left]
     unfold sub
     rw[List.drop_eq_getElem_cons hi]
     rfl
    have s1:∀ x:GLot,(sub ([x]:List GLot) 0 1)=[x]:=fun _=>rfl
    have q1:∀ x:GLot,eqL ([x]:List GLot).length 1=true:=fun _=>rfl
    simp only[l13_ParcelBack_s2,cc,cond_true,at_get hi,bind_some,sub_all,pc_Find_eq (n:=n) (id:=l[i].id) okc (by omega) (by omega),ww,so,sb,s1,q1]
    cases hne:l[i].id != o.id with
    |false=>rfl
    |true=>
     have hne':l[i].id≠o.id:=by simpa using hne
     have hb:l[i]∈b:=(memb _).2 (.inl ⟨hm,hne'⟩)
     have hc:l[i]∈c:=(memc _).2 (.inl ⟨hb,(tk2 _ hm).1,(tk1 _ hm).1⟩)
     have okl:∀ t∈[l[i]],LotOk t:=fun t ht=>by
      have:t=l[i]:=by simpa using ht
      rw[this];exact ok _ hm
     simp only[find_of_diff lc.diff hc,Bool.not_true,cond_true,cond_false,q13_Same_self (n:=n) okl (by simp) (by omega),bind_some]
   ·simp[l13_ParcelBack_s2]
  rw[pc_Find_eq okc (by omega) (by omega),fN]
  simp only[bind_some,Bool.not_true,cond_false,N3,N2,rg_Same_eq (n:=n) (a:=T.area) (b:=T.area) (by omega) (by omega),decide_true,bn,wf,inn T.id ((inN _).2 (.inr (.inr (.inl rfl)))),inn o.a ((inN _).2 (.inr (.inl rfl))),inn o.b ((inN _).2 (.inl rfl)),lenc,L,thenB_inl]
 ·have k1:((splitL l o.id (ofL o.area).1 o.a o.b).2 != 0)=true:=by simp[h0]
  simp only[k1,cond_true,split_err h0]
  rfl
theorem ParcelBack_row (l:List GOp) (o:GOp) (id:Int) (hl:l.length≤maxLen):∃ k,l13_ParcelBack k l o id=some true:=
 ⟨10000+l.length,ParcelBack_true (by omega) l o id hl (by omega)⟩
end Go.Proofs
