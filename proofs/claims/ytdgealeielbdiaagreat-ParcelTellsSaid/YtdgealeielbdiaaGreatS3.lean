/-
  What parcel's form of rectangles comes to: the form of their cells.
-/
import Derived.Test.YtdgealeielbdiaaGreatS2
open Go.IntKind (i64)
open Option (bind_some)
open List (map_cons mem_cons append_assoc mem_append length_take mem_map all_eq_true mem_singleton nil_append length_append getElem_mem length_cons cons_append length_map mem_iff_getElem append_nil length_drop length_nil take_succ_eq_append_getElem take_of_length_le mem_filter any_eq_true mem_cons_self length_singleton pairwise_cons pairwise_iff_getElem map_nil map_take drop_eq_getElem_cons set_append_right filter_append map_drop length_filter_le mem_flatMap map_append any_eq_false getElem_drop drop_of_length_le mem_append_right)
open Bool (and_eq_true)
namespace Go.Proofs
open Go.Gb Go.RowKit
abbrev ltY (a b:aj):Bool:=decide (a.y0 < b.y0)
theorem QN:Go.Sort.SWO ltY where
 irrefl x:=by simp[ltY]
 trans x y z h1 h2:=by simp only[ltY,decide_eq_true_eq]at *;omega
 ntrans x y z h1 h2:=by simp only[ltY,decide_eq_false_iff_not]at *;omega
instance:Inhabited aj:=⟨aj.mk 0 0 0 0⟩
theorem ae5 (n:Nat) (rc:List aj->Int->Int->Int->((aj×aj×Unit)->Option Int)->Option (List aj)) (φ:(aj×aj×Unit)->Option Int) (l:List aj) (a b d:Int):fK n rc l a b d φ=eD (fun x y=>φ (x,y,())) (fun r=>decide (r < 0)) aN aR n (fun l a b d=>rc l a b d φ) l a b d:=by kernel_rfl
theorem WV (n:Nat) (φ:(aj×aj×Unit)->Option Int):∀ m l a b d,bW n m l a b d φ=dP (fun x y=>φ (x,y,())) (fun r=>decide (r < 0)) aN aR n m l a b d
 | 0,l,a,b,d=>rfl
 |m+1,l,a,b,d=>by
  have e:(fun l a b d=>bW n m l a b d φ)=dP (fun x y=>φ (x,y,())) (fun r=>decide (r < 0)) aN aR n m:=by
   funext l a b d;exact WV n φ m l a b d
  show fK n (bW n m) l a b d φ=eD (fun x y=>φ (x,y,())) (fun r=>decide (r < 0)) aN aR n (dP (fun x y=>φ (x,y,())) (fun r=>decide (r < 0)) aN aR n m) l a b d;rw[<- e];exact ae5 n (bW n m) φ l a b d
theorem Jh {n:Nat} {l:List aj} {φ:(aj×aj×Unit)->Option Int} (f:aj->aj->Int) (hφ:∀ x y,φ (x,y,())=some (f x y)) (hf:∀ x y,decide (f x y < 0)=ltY x y) (hl:l.length < 1099511627776) (hn:l.length < n):mq n l φ=some (pU ltY l):=by
 unfold mq j3;rw[jD (by omega),vg (by omega)];simp only[bind_some,aA,cond_true,WV];rw[pV (lt:=ltY) QN (f:=f) (q:=fun r=>decide (r < 0)) hφ hf ad6 ad7 (by omega) hn hn];rfl
def MF (r:aj):aD:=⟨r.y0,r.y1⟩
theorem aaB (x0 x1:Int) (c:List aD):(aF x0 x1 c).map MF=c:=by
 unfold aF;rw[List.map_map];exact List.map_id'' (fun s=>rfl) c
theorem bA (x0 x1:Int) (c:List aD):(aF x0 x1 c).length=c.length:=by simp[aF]
theorem Kt {x0 x1:Int} {c:List aD} {i:Nat} (h:i < c.length):at? (aF x0 x1 c) (i:Int)=some ⟨x0,c[i].from_,x1,c[i].to⟩:=by
 rw[aQ (by rw[bA];exact h)];simp[aF]
theorem WW {x0 x1:Int}:∀ {L:List aj},(∀ r∈L,r.x0=x0∧r.x1=x1)->L=aF x0 x1 (L.map MF)
 |[],_=>rfl
 |r::L,h=>by
  have h1:=h r mem_cons_self;have h2:=WW (L:=L) fun q hq=>h q (List.mem_cons_of_mem _ hq);show r::L=⟨x0,r.y0,x1,r.y1⟩::aF x0 x1 (L.map MF);rw[<- h2];obtain⟨a,b,c,d⟩:=r;obtain⟨rfl,rfl⟩:=h1;rfl
def EX (l:List aj) (x0 x1:Int):List aD:=(l.filter fun r=>decide (r.x0<=x0)&&decide (x1<=r.x1)).map MF
theorem N8 {l:List aj} {x0 x1:Int} (hl:l.length < 1099511627776) {n:Nat} (hn:l.length < n):iter (qb l x0 x1) n ((0:Int),([]:List aj))=some (aF x0 x1 (EX l x0 x1)):=by
 have:=dO (l:=l) (step:=qb l x0 x1) (fun i (s:List aj)=>((i:Int),s)) (fun r s=>bif decide (r.x0<=x0)&&decide (x1<=r.x1)then s++[⟨x0,r.y0,x1,r.y1⟩]else s) (fun s=>s) (fun i s=>s.length<=i)
  (fun i hi s hs=>?_) (fun s hs=>by simp[qb]) n hn [] (Nat.le_refl _)
 ·rw[show ((0:Nat):Int)=0 from rfl]at this;rw[this];congr 1;have gen:∀ (ys:List aj) (s:List aj),ys.foldl (fun s r=>bif decide (r.x0<=x0)&&decide (x1<=r.x1)then s++[⟨x0,r.y0,x1,r.y1⟩]else s) s=s++aF x0 x1 (EX ys x0 x1):=by
   intro ys
   induction ys with
   |nil=>intro s;simp[EX,aF]
   |cons y ys ih=>
    intro s;simp only[List.foldl_cons,ih];cases h:(decide (y.x0<=x0)&&decide (x1<=y.x1))with
    |true=>simp[EX,h,aF,MF]
    |false=>simp[EX,h]
  simpa using gen l []
 ·have hi':decide (((i:Nat):Int) < (l.length:Int))=true:=by simpa using hi
  have ap:aX s.length s.length (sub ([(aj.mk x0 l[i].y0 x1 l[i].y1)]:List aj) 0 1).length 1 32=true:=aU (n:=1) (by omega) (by simp only[maxLen];omega);simp only[qb,hi',cond_true,aQ hi,bind_some,Ho];cases h:(decide (l[i].x0<=x0)&&decide (x1<=l[i].x1))with
  |true=>
   simp only[cond_true,ap,bG,aA,bind_some];refine⟨?_,by simp;omega⟩;rw[aC (by omega)];rfl
  |false=>
   simp only[cond_false,aA,cond_true,bind_some];exact⟨by rw[aC (by omega)],by omega⟩
theorem N9 {n:Nat} {x0 x1:Int} (w1:List aj) (T:List aD) (hw:w1.length=T.length) (hl:T.length < 1099511627776) (hn:T.length < n):iter (qc w1 (aF x0 x1 T)) n ((0:Int),([]:List aj))=some (aF x0 x1 (T.foldl mrg [])):=by
 have:=dO (l:=T) (step:=qc w1 (aF x0 x1 T)) (fun i (s:List aD)=>((i:Int),aF x0 x1 s)) (fun r s=>mrg s r) (fun s=>aF x0 x1 s) (fun i s=>s.length<=i)
  (fun i hi s hs=>?_) (fun s hs=>by simp[qc,hw]) n hn [] (Nat.le_refl _)
 ·rw[show ((0:Nat):Int)=0 from rfl]at this;exact this
 ·refine⟨?_,by have:=EP s T[i];omega⟩;have hi':decide (((i:Nat):Int) < ((w1.length:Nat):Int))=true:=by simp;omega
  have ib:inb (i:Int) w1.length=true:=aZ (by omega);have g0:at? (aF x0 x1 T) (((0:Nat):Int)+(i:Int))=some ⟨x0,T[i].from_,x1,T[i].to⟩:=by rw[show ((0:Nat):Int)+(i:Int)=(i:Int)by simp];exact Kt hi
  have s1:∀ r:aj,(sub ([r]:List aj) 0 1)=[r]:=fun _=>rfl;have ap:∀ r:aj,aX (aF x0 x1 s).length (aF x0 x1 s).length ([r]:List aj).length 1 32=true:=fun r=>aU (n:=1) (by rw[bA];omega) (by rw[bA];simp only[maxLen];omega);simp only[qc,hi',cond_true,ib,g0,bind_some,s1,ap];rcases List.eq_nil_or_concat s with rfl |⟨s0,q,hsq⟩
  ·have d0:decide ((((aF x0 x1 []).length:Nat):Int)>0)=false:=(by simp[aF]);simp only[d0,cond_false,bind_some,cond_true,bG,aA];rw[aC (by omega)];rfl
  ·rw[List.concat_eq_append]at hsq;subst hsq;have lenq:(s0++[q]).length=s0.length+1:=(by simp);have e0:aF x0 x1 (s0++[q])=aF x0 x1 s0++[⟨x0,q.from_,x1,q.to⟩]:=(by simp[aF]);have l0:(aF x0 x1 (s0++[q])).length=s0.length+1:=(by rw[bA,lenq]);have d0:decide (((((aF x0 x1 (s0++[q])).length:Nat):Int))>0)=true:=(by rw[l0];simp<;>omega);have wp:i64.wrap ((((aF x0 x1 (s0++[q])).length:Nat):Int) - 1)=((s0.length:Nat):Int):=(by rw[dJ (by rw[l0];omega) (by rw[l0];omega),l0];rfl);have ib2:inb ((s0.length:Nat):Int) (aF x0 x1 (s0++[q])).length=true:=aZ (by rw[l0];omega);have g:at? (aF x0 x1 (s0++[q])) (((0:Nat):Int)+((s0.length:Nat):Int))=some ⟨x0,q.from_,x1,q.to⟩:=(by rw[dR,e0,List.getElem?_append_right (by rw[bA];exact Nat.le_refl _),bA];simp);have z:(((0:Nat):Int)+((s0.length:Nat):Int)).toNat=s0.length:=(by simp);have st:(aF x0 x1 (s0++[q])).set s0.length (aj.mk x0 q.from_ x1 (max q.to T[i].to))=aF x0 x1 (s0++[⟨q.from_,max q.to T[i].to⟩]):=by
    rw[e0,set_append_right _ _ (by rw[bA];exact Nat.le_refl _),bA];simp[aF]
   have m:mrg (s0++[q]) T[i]=bif decide (T[i].from_<=q.to)then s0++[⟨q.from_,max q.to T[i].to⟩]else s0++[q]++[T[i]]:=(by simp[mrg]);simp only[d0,cond_true,wp,ib2,g,bind_some,m,z,st];cases decide (T[i].from_<=q.to)with
   |true=>
    have e:eqL (aF x0 x1 (s0++[q])).length (aF x0 x1 (s0++[(⟨q.from_,max q.to T[i].to⟩:aD)])).length=true:=(by rw[bA,bA];simp);simp only[cond_true,e,bind_some,aA];rw[aC (by omega)]
   |false=>
    simp only[cond_false,cond_true,bG,aA,bind_some];rw[aC (by omega)];simp[aF]
theorem Yn {n:Nat} {l:List aj} {x0 x1:Int} (hv:∀ r∈l,OkR r=true) (ha:∀ r∈l,(decide (r.x0<=x0)&&decide (x1<=r.x1))=(decide (r.x0<=x0)&&decide (x0 < r.x1)))
 (hl:l.length < 1099511627776) (hn:l.length < n):IE n l x0 x1=some (aF x0 x1 (aO l x0)):=by
 have hs:EX l x0 x1=bE l x0:=by
  unfold EX bE;rw[List.filter_congr ha];rfl
 have h1:=qp l x0;have hp:=lH QN (aF x0 x1 (bE l x0));have hso:=xu QN (aF x0 x1 (bE l x0));have h2:(pU ltY (aF x0 x1 (bE l x0))).length=(bE l x0).length:=by rw[xw QN,bA]
 unfold IE;simp only[length_nil,aA,cond_true,N8 (x0:=x0) (x1:=x1) (l:=l) (by omega) (n:=n) (by omega),bind_some,hs];rw[Jh (fun a b=>if a.y0 < b.y0 then -1 else if b.y0 < a.y0 then 1 else 0) (fun a b=>by show xJ a b=_;unfold xJ;rw[oG];rfl) (fun a b=>by
  by_cases h1:a.y0 < b.y0
  ·simp[h1]
  ·by_cases h2:b.y0 < a.y0<;>simp[h1,h2]) (by rw[bA];omega) (by rw[bA];omega)]
 simp only[bind_some];generalize hL:pU ltY (aF x0 x1 (bE l x0))=L at*;have hx:∀ r∈L,r.x0=x0∧r.x1=x1:=by
  intro r hr;have:=hp.mem_iff.1 hr;simp only[aF,mem_map]at this;obtain⟨s,_,rfl⟩:=this;exact⟨rfl,rfl⟩
 have eL:=WW hx;have pT:(L.map MF).Perm (bE l x0):=by
  have:=hp.map MF;rw[aaB]at this;exact this
 have sT:(L.map MF).Pairwise fun x y=>x.from_<=y.from_:=by
  rw[List.pairwise_map];refine hso.imp fun {a b} hab=>?_;simp only[ltY,decide_eq_false_iff_not]at hab;show a.y0<=b.y0;omega
 generalize L.map MF=T at eL pT sT;subst eL;rw[bA]at h2;rw[N9 _ T (by rw[bA];omega) (by omega) (by omega)];simp only[bind_some,aV,aA,cond_true];have oT:∀ s∈T,OkS s:=fun s h=>Ki hv x0 s (pT.mem_iff.1 h);obtain⟨c1,c2⟩:=IV T [] Mq oT sT (by simp);obtain⟨d1,d2⟩:=dS hv x0;rw[rU c1 d1 fun y=>by rw[c2,d2,tZ,Bool.false_or,Tm pT,Ht]]
theorem TB (s t:aM) (h:s.column≠t.column):∀ (S:List aM) (x0 x1:Int) (c:List aD),qx x0 x1 c (S++[t,s])=qx x0 x1 c (S++[t])++aF s.x0 s.x1 s.column
 |[],x0,x1,c=>by
  simp only[nil_append,qx];split
  ·rename_i e;rw[if_neg (fun h'=>h (h'.trans e.symm))]
  ·rw[append_assoc]
 |a::S,x0,x1,c=>by
  simp only[cons_append,qx];split
  ·exact TB s t h S _ _ _
  ·rw[TB s t h S,append_assoc]
theorem Oa (s t:aM) (h:s.column=t.column):∀ (S:List aM) (x0 x1:Int) (c:List aD),∃ pre x',qx x0 x1 c (S++[t])=pre++aF x' t.x1 t.column∧qx x0 x1 c (S++[t,s])=pre++aF x' s.x1 t.column
 |[],x0,x1,c=>by
  simp only[nil_append,qx];split
  ·rename_i e;refine⟨[],x0,by rw[e];rfl,?_⟩;rw[if_pos (h.trans e),e];rfl
  ·exact⟨aF x0 x1 c,t.x0,rfl,rfl⟩
 |a::S,x0,x1,c=>by
  simp only[cons_append,qx];split
  ·exact Oa s t h S _ _ _
  ·obtain⟨pre,x',h1,h2⟩:=Oa s t h S a.x0 a.x1 a.column;exact⟨aF x0 x1 c++pre,x',by rw[h1,append_assoc],by rw[h2,append_assoc]⟩
theorem acE (s t:aM) (h:s.column≠t.column) (S:List aM):aT (S++[t,s])=aT (S++[t])++aF s.x0 s.x1 s.column:=by
 cases S with
 |nil=>simp only[nil_append,aT,qx,if_neg h]
 |cons a S=>exact TB s t h S _ _ _
theorem aaC (s t:aM) (h:s.column=t.column) (S:List aM):∃ pre x',aT (S++[t])=pre++aF x' t.x1 t.column∧aT (S++[t,s])=pre++aF x' s.x1 t.column:=by
 cases S with
 |nil=>exact⟨[],t.x0,rfl,by simp only[nil_append,aT,qx,if_pos h]⟩
 |cons a S=>exact Oa s t h S _ _ _
theorem ajo {n:Nat} {x0 x1 u0 u1:Int} {c d:List aD} (hl:c.length < 1099511627776) (hn:c.length < n):
 gH n (aF x0 x1 c) (aF u0 u1 d) (fun y:aj×aj×Unit=>ze y.1 y.2.1)=some (decide (c=d)):=by
 unfold gH;rw[bA,bA];by_cases hlen:c.length=d.length
 ·have h0:(((c.length:Nat):Int) != ((d.length:Nat):Int))=false:=by simp[hlen]
  rw[h0];have zl:(c.zip d).length=c.length:=by rw[List.length_zip];omega
  have:=bX (l:=c.zip d) (step:=fA (aF x0 x1 c) (aF u0 u1 d) (fun y:aj×aj×Unit=>ze y.1 y.2.1)) (fun i=>((i:Nat):Int)) (fun z=>!decide (z.1=z.2)) () (fun _=>false) (fun i hi=>?_) ?_ n (by omega)
  ·rw[show ((0:Nat):Int)=0 from rfl]at this;simp only[cond_false];rw[this];rcases ji (fun z:aD×aD=>!decide (z.1=z.2)) (c.zip d)with ⟨i,hi,h1,h2,_⟩ |⟨h1,h2⟩
   ·rw[h1];have:c≠d:=by
     intro e;subst e;simp at h2
    simp[this]
   ·rw[h1];have:c=d:=by
     refine List.ext_getElem hlen fun i hi hj=>?_;have hm:(c[i],d[i])∈c.zip d:=by
      rw[mem_iff_getElem];exact⟨i,by omega,by simp⟩
     have:=h2 _ hm;simpa using this
    simp[this]
  ·have hic:i < c.length:=(by omega);have hid:i < d.length:=(by omega);have hi':decide (((i:Nat):Int) < (((aF x0 x1 c).length:Nat):Int))=true:=(by rw[bA];simpa using hic);simp only[fA,hi',cond_true,Kt hic,Kt hid,bind_some,List.getElem_zip];generalize c[i]=p;generalize d[i]=q;obtain⟨p1,p2⟩:=p;obtain⟨q1,q2⟩:=q;have e:decide ((⟨p1,p2⟩:aD)=⟨q1,q2⟩)=((p1==q1)&&(p2==q2)):=(by rw[Bool.eq_iff_iff];simp);rw[e];unfold ze;simp only;rw[aC (by omega)];cases p1==q1<;>cases p2==q2<;>rfl
  ·have hi':decide ((((c.zip d).length:Nat):Int) < (((aF x0 x1 c).length:Nat):Int))=false:=(by rw[bA,zl];simp);simp only[fA,hi',cond_false]
 ·have h0:(((c.length:Nat):Int) != ((d.length:Nat):Int))=true:=by rw[bne_iff_ne];omega
  rw[h0];have:c≠d:=fun e=>hlen (by rw[e]);simp[this]
theorem TD {n:Nat} {l:List aj} (hl:l.length < 10995116277) (hn:l.length < n):iter (zf l) n ((0:Int),([]:List Int))=some (l.flatMap fun r=>[r.x0,r.x1]):=by
 have:=dO (l:=l) (step:=zf l) (fun i (s:List Int)=>((i:Int),s)) (fun r s=>s++[r.x0,r.x1]) (fun s=>s) (fun i s=>s.length<=2*i)
  (fun i hi s hs=>?_) (fun s hs=>by simp[zf]) n hn [] (Nat.le_refl _)
 ·rw[show ((0:Nat):Int)=0 from rfl]at this;rw[this];have gen:∀ (ys:List aj) (s:List Int),ys.foldl (fun s r=>s++[r.x0,r.x1]) s=s++ys.flatMap fun r=>[r.x0,r.x1]:=by
   intro ys
   induction ys with
   |nil=>intro s;simp
   |cons y ys ih=>intro s;simp[ih]
  congr 1;simpa using gen l []
 ·have hi':decide (((i:Nat):Int) < ((l.length:Nat):Int))=true:=by simpa using hi
  have ap:aX s.length s.length (sub ([l[i].x0,l[i].x1]:List Int) 0 2).length 2 8=true:=aU (n:=2) (by omega) (by simp only[maxLen];omega);simp only[zf,hi',cond_true,aQ hi,bind_some,ap,bG,aA];refine⟨?_,by simp;omega⟩;rw[aC (by omega)];rfl
theorem TF {n:Nat} (es:List Int) (i:Nat) (hi:i+1 < es.length) (he:es.length < 1099511627776) (pre:List aj) (x' x1:Int) (c:List aD) (hl:pre.length+c.length < 1099511627776) (hn:c.length < n):
 iter (zh ((),es) (i:Int) (pre++aF x' x1 c)) n (((pre.length:Nat):Int),pre++aF x' x1 c)=some (pre++aF x' es[i+1] c):=by
 have:=dm (step:=zh ((),es) (i:Int) (pre++aF x' x1 c)) (fun j=>(((pre.length+j:Nat):Int),pre++(aF x' es[i+1] (c.take j)++aF x' x1 (c.drop j)))) c.length (pre++aF x' es[i+1] c) (fun j hj=>?_) ?_ n hn
 ·simpa[aF]using this
 ·have lt:(pre++aF x' x1 c).length=pre.length+c.length:=by rw[length_append,bA]
  have d:decide (((pre.length+j:Nat):Int) < (((pre++aF x' x1 c).length:Nat):Int))=true:=by rw[lt];simp;omega
  have w:i64.wrap ((i:Int)+1)=((i+1:Nat):Int):=aC (by omega);have ib:inb ((pre.length+j:Nat):Int) (pre++aF x' x1 c).length=true:=aZ (by rw[lt];omega);have tl:(aF x' es[i+1] (c.take j)).length=j:=by rw[bA,length_take];omega
  have dr:c.drop j=c[j]::c.drop (j+1):=drop_eq_getElem_cons hj;have e1:aF x' x1 (c.drop j)=⟨x',c[j].from_,x1,c[j].to⟩::aF x' x1 (c.drop (j+1)):=by rw[dr];rfl
  have g:at? (pre++(aF x' es[i+1] (c.take j)++aF x' x1 (c.drop j))) (((0:Nat):Int)+((pre.length+j:Nat):Int))=some ⟨x',c[j].from_,x1,c[j].to⟩:=by
   rw[dR,List.getElem?_append_right (by omega),List.getElem?_append_right (by omega),tl,e1];simp
  have z:(((0:Nat):Int)+((pre.length+j:Nat):Int)).toNat=pre.length+j:=by omega
  have sn:aF x' es[i+1] (c.take j++[c[j]])=aF x' es[i+1] (c.take j)++[aj.mk x' c[j].from_ es[i+1] c[j].to]:=by unfold aF;rw[map_append];rfl
  have st:(pre++(aF x' es[i+1] (c.take j)++aF x' x1 (c.drop j))).set (pre.length+j) (aj.mk x' c[j].from_ es[i+1] c[j].to)=pre++(aF x' es[i+1] (c.take (j+1))++aF x' x1 (c.drop (j+1))):=by
   rw[set_append_right _ _ (by omega),set_append_right _ _ (by omega),tl,e1,take_succ_eq_append_getElem hj,sn,Nat.add_sub_cancel_left,Nat.sub_self,List.set_cons_zero,append_assoc];rfl
  simp only[zh,d,cond_true,w,aZ hi,dD hi,bind_some,ib,g,z,st];rw[aC (by omega)];rfl
 ·have lt:(pre++aF x' x1 c).length=pre.length+c.length:=by rw[length_append,bA]
  have d:decide (((pre.length+c.length:Nat):Int) < (((pre++aF x' x1 c).length:Nat):Int))=false:=by rw[lt];simp
  simp only[zh,d,cond_false,List.take_length,List.drop_length];simp[aF]
def Pv (P:List aM) (i:Nat):List aj:=match (P.take i).getLast? with
 |some s=>aF s.x0 s.x1 s.column
 |none=>[]
theorem acF {n:Nat} {l:List aj} (hv:∀ r∈l,OkR r=true) (hl:l.length<=4000) (hn:10000<=n):QI n l=some (aT (aG l)):=by
 unfold QI;have he:=kQ l;simp only[length_nil,aA,cond_true,TD (l:=l) (n:=n) (by omega) (by omega),bind_some];rw[jF (by rw[eY];omega) (by rw[eY];omega)];simp only[bind_some,bD,aA,cond_true];rw[iZ (by rw[bD,eY];omega) (by rw[bD,eY];omega)];simp only[bind_some];have hE:dN (fC ltI (l.flatMap fun r=>[r.x0,r.x1]))=aJ l:=rfl;rw[hE];obtain⟨p1,p2⟩:=j5 (fun a b=>(⟨a,b,aO l a⟩:aM)) (aJ l);have hP:(aG l).length=(aJ l).length - 1:=p1;have bl:∀ i,(aT ((aG l).take i)).length<=8000*4000:=by
  intro i;have h1:=Ve ((aG l).take i) 4000 fun s hs=>by
   have:=Hr (List.mem_of_mem_take hs);omega
  have h2:((aG l).take i).length<=8000:=by rw[length_take];omega
  exact Nat.le_trans h1 (Nat.mul_le_mul_right _ h2)
 have mx:max (0:Int) (i64.wrap ((((aJ l).length:Nat):Int) - 1))=(((aG l).length:Nat):Int):=by rw[cK (by omega) (by omega)];omega
 have key:iter (zi n l ((),aJ l)) n ((0:Int),([]:List aj),([]:List aj))=some (aT (aG l)):=by
  have:=dm (step:=zi n l ((),aJ l)) (fun i=>(((i:Nat):Int),aT ((aG l).take i),Pv (aG l) i)) (aG l).length (aT (aG l)) (fun i hi=>?_) ?_ n (by omega)
  ·simpa[aT,Pv]using this
  ·have hi2:i+1 < (aJ l).length:=(by omega);have hi1:i < (aJ l).length:=(by omega);have d:decide (((i:Nat):Int) < (((aG l).length:Nat):Int))=true:=(by simpa using hi);have w:i64.wrap ((i:Int)+1)=((i+1:Nat):Int):=aC (by omega);have hs:(aG l)[i]=⟨(aJ l)[i],(aJ l)[i+1],aO l (aJ l)[i]⟩:=p2 i hi2 hi;have adj:∀ r∈l,(decide (r.x0<=(aJ l)[i])&&decide ((aJ l)[i+1]<=r.x1))=(decide (r.x0<=(aJ l)[i])&&decide ((aJ l)[i] < r.x1)):=by
    intro r hr;congr 1;have hm:r.x1∈aJ l:=zC.2 ⟨r,hr,.inr rfl⟩;obtain⟨j,hj,e⟩:=mem_iff_getElem.1 hm;have hst:=kS l;rw[pairwise_iff_getElem]at hst;rw[<- e,Bool.eq_iff_iff,decide_eq_true_eq,decide_eq_true_eq];rcases Nat.lt_or_ge i j with hij |hij
    ·have a1:=hst i j hi1 hj hij;rcases Nat.eq_or_lt_of_le (show i+1<=j by omega)with e |hlt
     ·subst e;omega
     ·have a2:=hst (i+1) j hi2 hj hlt;omega
    ·rcases Nat.eq_or_lt_of_le hij with e |hlt
     ·subst e;have a2:=hst j (j+1) hj hi2 (by omega);omega
     ·have a1:=hst j i hj hi1 hlt;have a2:=hst i (i+1) hi1 hi2 (by omega);omega
   have lc:=jG l (aJ l)[i];have co:=Yn (n:=n) (l:=l) (x0:=(aJ l)[i]) (x1:=(aJ l)[i+1]) hv adj (by omega) (by omega);have tk:=take_succ_eq_append_getElem hi;have tkl:(aG l).take (i+1)=(aG l).take i++[(⟨(aJ l)[i],(aJ l)[i+1],aO l (aJ l)[i]⟩:aM)]:=(by rw[tk,hs]);have la:Pv (aG l) (i+1)=aF (aJ l)[i] (aJ l)[i+1] (aO l (aJ l)[i]):=by
    unfold Pv;rw[tkl,List.getLast?_append];rfl
   have bi:=bl i;have ap:aX (aT ((aG l).take i)).length (aT ((aG l).take i)).length (aF (aJ l)[i] (aJ l)[i+1] (aO l (aJ l)[i])).length (aF (aJ l)[i] (aJ l)[i+1] (aO l (aJ l)[i])).length 32=true:=by
    refine aU ?_ ?_
    ·rw[bA];omega
    ·rw[bA];simp only[maxLen];omega
   simp only[zi,mx,d,cond_true,aZ hi1,dD hi1,bind_some,w,aZ hi2,dD hi2,co,aV,aA,la,ap,bG];rcases List.eq_nil_or_concat ((aG l).take i)with e0 |⟨S,t,e0⟩
   ·
    have lz:Pv (aG l) i=aF 0 0 []:=(by unfold Pv;rw[e0];rfl);have wn:aT ((aG l).take (i+1))=aF (aJ l)[i] (aJ l)[i+1] (aO l (aJ l)[i]):=(by rw[tkl,e0];rfl);have wz:aT ((aG l).take i)=[]:=(by rw[e0];rfl);rw[lz,ajo (by omega) (by omega),wn,wz];cases hc:aO l (aJ l)[i]with
    |nil=>
     have dz:decide ((((aF (aJ l)[i] (aJ l)[i+1] []).length:Nat):Int)>0)=false:=(by simp[aF]);simp only[dz,cond_false,bind_some,aA,cond_true];rfl
    |cons q c=>
     have dz:decide (q::c=[])=false:=(by simp);simp only[dz,bind_some];cases decide ((((aF (aJ l)[i] (aJ l)[i+1] (q::c)).length:Nat):Int)>0)<;>simp only[cond_true,cond_false,bind_some,aA]<;>rfl
   ·rw[List.concat_eq_append]at e0;have lz:Pv (aG l) i=aF t.x0 t.x1 t.column:=(by unfold Pv;rw[e0,List.getLast?_append];rfl);have tk2:(aG l).take (i+1)=S++[t,(⟨(aJ l)[i],(aJ l)[i+1],aO l (aJ l)[i]⟩:aM)]:=(by rw[tkl,e0,append_assoc];rfl);rw[lz,ajo (by omega) (by omega)];by_cases hc:aO l (aJ l)[i]=t.column
    ·obtain⟨pre,x',w1,w2⟩:=aaC ⟨(aJ l)[i],(aJ l)[i+1],aO l (aJ l)[i]⟩ t hc S;have ww:aT ((aG l).take i)=pre++aF x' t.x1 t.column:=(by rw[e0,w1]);have ww2:aT ((aG l).take (i+1))=pre++aF x' (aJ l)[i+1] t.column:=(by rw[tk2,w2]);rw[ww2,ww];rw[ww,length_append,bA]at bi;have s3:=TF (n:=n) (aJ l) i hi2 (by omega) pre x' t.x1 t.column (by omega) (by rw[<- hc];omega);have wd:i64.wrap ((((pre++aF x' t.x1 t.column).length:Nat):Int) - (((aF (aJ l)[i] (aJ l)[i+1] (aO l (aJ l)[i])).length:Nat):Int))=((pre.length:Nat):Int):=(by rw[length_append,bA,bA,hc,cK (by omega) (by omega)];omega);have le:eqL (pre++aF x' t.x1 t.column).length (pre++aF x' (aJ l)[i+1] t.column).length=true:=(by apply agI;rw[length_append,length_append,bA,bA]);have dc:decide (aO l (aJ l)[i]=t.column)=true:=(by simpa using hc);simp only[wd,s3,le,dc,bind_some,cond_true];cases hd:decide ((((aF (aJ l)[i] (aJ l)[i+1] (aO l (aJ l)[i])).length:Nat):Int)>0)with
     |true=>simp only[cond_true,bind_some,aA]
     |false=>
      have hz:t.column=[]:=by
       rw[bA,hc]at hd;simp at hd;exact hd
      have hz2:aO l (aJ l)[i]=[]:=(by rw[hc,hz]);simp only[cond_false,bind_some,aA,hz,hz2,aF,map_nil,append_nil,cond_true]
    ·have ww2:aT ((aG l).take (i+1))=aT ((aG l).take i)++aF (aJ l)[i] (aJ l)[i+1] (aO l (aJ l)[i]):=(by rw[tk2,acE _ t hc S,e0]);have dc:decide (aO l (aJ l)[i]=t.column)=false:=(by simpa using hc);rw[ww2];simp only[dc,bind_some];cases decide ((((aF (aJ l)[i] (aJ l)[i+1] (aO l (aJ l)[i])).length:Nat):Int)>0)<;>simp only[cond_true,cond_false,bind_some,aA]
  ·have d:decide ((((aG l).length:Nat):Int) < (((aG l).length:Nat):Int))=false:=(by simp);simp only[zi,mx,d,cond_false,List.take_length,aA,cond_true]
 rw[key];simp only[bind_some,aV,aA,cond_true]
def ad8 (land:List ax) (ids:List Int) (id:Int) (l:List ax) (area:List aj):List ax×Int:=
 bif decide (area.length>200)then ([],6)else
 bif !Dv area then ([],12)else
 (replaceL land ids [ax.mk id (l.headD dw).owner area (bC l)],0)
def joinL (land:List ax) (ids:List Int) (id:Int):List ax×Int:=
 bif !jL land || (decide (ids.length < 2) || (!Ko (fC ltI ids) || !pE id))then ([],1)else
 bif !(ids.all fun k=>(aI land k).2)then ([],4)else
 bif takenL land id then ([],5)else
 bif (ids.map fun k=>(aI land k).1).any fun t=>t.owner != ((ids.map fun k=>(aI land k).1).headD dw).owner then ([],24)else
 ad8 land ids id (ids.map fun k=>(aI land k).1) (aT (aG ((ids.map fun k=>(aI land k).1).flatMap (·.area))))
theorem Ku (l:List ax) (h:∀ t∈l,t.area.length<=200):(l.flatMap (·.area)).length<=200*l.length:=by
 induction l with
 |nil=>simp
 |cons t l ih=>
  have:=ih fun u hu=>h u (by simp[hu]);have:=h t (by simp);simp only[List.flatMap_cons,length_append,length_cons];omega
theorem TG {n:Nat} {land:List ax} {ids:List Int} (h:∀ t∈land,dx t) (hl:land.length<=99) (hi:ids.length<=20) (hn:10000<=n):
 iter (zk n land ids) n ((0:Int),([]:List ax))=some (bif !(ids.all fun k=>(aI land k).2)then .inr ([],4)else .inl (ids.map fun k=>(aI land k).1)):=by
 have:=Eu (l:=ids) (step:=zk n land ids) (fun i (s:List ax)=>(((i:Nat):Int),s)) (fun k s=>bif !(aI land k).2 then .inr (.inr (([]:List ax),(4:Int)))else .inl (s++[(aI land k).1])) (fun s=>(.inl s:List ax ⊕ (List ax×Int))) (fun i s=>s.length<=i)
  (fun i hi s hs=>?_) (fun s hs=>by simp[zk]) n (by omega) [] (Nat.le_refl _)
 ·rw[show ((0:Nat):Int)=0 from rfl]at this;rw[this];congr 1;have gen:∀ (ks:List Int) (s:List ax),AR (fun k s=>bif !(aI land k).2 then .inr (.inr (([]:List ax),(4:Int)))else .inl (s++[(aI land k).1])) (fun s=>(.inl s:List ax ⊕ (List ax×Int))) ks s=bif !(ks.all fun k=>(aI land k).2)then .inr ([],4)else .inl (s++ks.map fun k=>(aI land k).1):=by
   intro ks
   induction ks with
   |nil=>intro s;simp[AR]
   |cons k ks ih=>
    intro s;simp only[AR,List.all_cons,map_cons];cases (aI land k).2 with
    |false=>rfl
    |true=>
     simp only[Bool.not_true,cond_false,Bool.true_and];rw[ih,append_assoc];rfl
  simpa using gen ids []
 ·have hi':decide (((i:Nat):Int) < (ids.length:Int))=true:=by simpa using hi
  have s1:(sub ([(aI land ids[i]).1]:List ax) 0 1)=[(aI land ids[i]).1]:=rfl;have ap:aX s.length s.length ([(aI land ids[i]).1]:List ax).length 1 64=true:=aU (n:=1) (by omega) (by simp only[maxLen];omega);simp only[zk,hi',cond_true,aQ hi,bind_some,zF (n:=n) h (by omega) (by omega),s1,ap,bG,aA];rw[aC (by omega)];cases (aI land ids[i]).2 with
  |false=>exact⟨rfl,fun s' e=>by cases e⟩
  |true=>exact⟨rfl,fun s' e=>by injection e with e;subst e;simp;omega⟩
theorem ae6 (l:List ax) (hl:0 < l.length) (hb:l.length<=100) {n:Nat} (hn:1000<=n):gM n l=some (l.any fun t=>t.owner != (l.headD dw).owner,l):=by
 have hd:at? l (((0:Nat):Int)+0)=some (l.headD dw):=by
  cases l with
  |nil=>simp at hl
  |cons a l=>rfl
 have i0:inb 0 l.length=true:=by
  have:=aZ (i:=0) hl;exact this
 have f1:∀ t:ax,tV t l=some (t.owner != (l.headD dw).owner,l):=by
  intro t;unfold tV;simp only[i0,cond_true,hd,bind_some,aA]
 unfold gM mU;have:=bX (l:=l) (step:=gK l) (fun i=>(((i:Nat):Int),l)) (fun t=>t.owner != (l.headD dw).owner) l (fun i=>(((i:Nat):Int),l)) (fun i hi=>?_) (by simp[gK]) n (by omega)
 ·rw[show ((0:Nat):Int)=0 from rfl]at this;simp only[aA,cond_true,this];rw[<- jJ];cases fI (fun t:ax=>t.owner != (l.headD dw).owner) l with
  |none=>simp
  |some i=>simp<;>omega
 ·have hi':decide (((i:Nat):Int) < ((l.length:Nat):Int))=true:=by simpa using hi
  simp only[gK,hi',cond_true,aZ hi,dD hi,bind_some,aA,f1];rw[aC (by omega)];cases l[i].owner != (l.headD dw).owner<;>rfl
theorem TH {n:Nat} (b:Bool) (l:List ax) (hl:l.length<=20) (ha:∀ t∈l,t.area.length<=200) (hn:10000<=n):iter (zn (b,l)) n ((0:Int),([]:List aj))=some (l.flatMap (·.area)):=by
 have:=dm (step:=zn (b,l)) (fun i=>(((i:Nat):Int),(l.take i).flatMap (·.area))) l.length (l.flatMap (·.area)) (fun i hi=>?_) ?_ n (by omega)
 ·simpa using this
 ·have hi':decide (((i:Nat):Int) < ((l.length:Nat):Int))=true:=by simpa using hi
  have h1:=Ku (l.take i) fun t ht=>ha t (List.mem_of_mem_take ht);rw[length_take]at h1;have h2:=ha l[i] (getElem_mem hi);have ap:aX ((l.take i).flatMap (·.area)).length ((l.take i).flatMap (·.area)).length l[i].area.length l[i].area.length 32=true:=aU (by omega) (by simp only[maxLen];omega);simp only[zn,hi',cond_true,aZ hi,dD hi,bind_some,ap,bG,aA];rw[aC (by omega),take_succ_eq_append_getElem hi,List.flatMap_append];simp
 ·simp[zn]
theorem TI {n:Nat} {land:List ax} {ids:List Int} {id:Int} (h:∀ t∈land,dx t) (hl:land.length<=99) (hi:ids.length<=8) (hn:10000<=n):Me n land ids id=some (joinL land ids id):=by
 unfold Me joinL rJ rM qd agE;have lb:Nat.ble ids.length 1000000=true:=by rw[Nat.ble_eq];omega
 have li:(fC ltI ids).length=ids.length:=by rw[bD]
 simp only[lb,cond_true,bind_some,aA];rw[jF (by omega) (by omega)];simp only[bind_some,li,aA,cond_true,show sub (fC ltI ids) 0 ids.length=fC ltI ids by rw[<- li,aV]];rw[vv (by omega) h (by omega),FQ (by omega) (by omega),qz,TG h hl (by omega) hn,Bj h (by omega) (by omega) (by omega)];simp only[bind_some,length_nil,aA,cond_true];have d2:decide (((ids.length:Nat):Int) < 2)=decide (ids.length < 2):=by rw[Bool.eq_iff_iff];simp;omega
 rw[d2];cases hr:jL land with
 |false=>rfl
 |true=>
 cases h2:decide (ids.length < 2)with
 |true=>rfl
 |false=>
 cases Ko (fC ltI ids)with
 |false=>rfl
 |true=>
 cases pE id with
 |false=>rfl
 |true=>
 simp only[Bool.not_true,cond_false,bind_some,Bool.or_self];cases hall:ids.all fun k=>(aI land k).2 with
 |false=>rfl
 |true=>
 simp only[Bool.not_true,cond_false,fF];cases takenL land id with
 |true=>rfl
 |false=>
 have mem:∀ t∈(ids.map fun k=>(aI land k).1),t∈land:=by
  intro t ht;rw[mem_map]at ht;obtain⟨k,hk,rfl⟩:=ht;exact (zH (all_eq_true.1 hall k hk)).1
 have ll:(ids.map fun k=>(aI land k).1).length=ids.length:=length_map _;have hlen:¬ ids.length < 2:=by simpa using h2
 generalize (ids.map fun k=>(aI land k).1)=l at*;have ok:∀ t∈l,dx t:=fun t ht=>h t (mem t ht);have right:∀ t∈l,bH t.area=true:=fun t ht=>EU (HY hr (mem t ht));have a200:∀ t∈l,t.area.length<=200:=fun t ht=>(bZ (right t ht)).2.1;have okr:∀ r∈l.flatMap (·.area),OkR r=true:=by
  intro r hr;rw[mem_flatMap]at hr;obtain⟨t,ht,hr⟩:=hr;exact (bZ (right t ht)).1 r hr
 have fl:=Ku l a200;have hd:at? l (((0:Nat):Int)+0)=some (l.headD dw):=by
  cases l with
  |nil=>simp at ll;omega
  |cons a l=>rfl
 have i0:inb 0 l.length=true:=aZ (i:=0) (by omega);have lnl:(bC l).length<=901*20:=by
  have h1:=je (l.flatMap fun t=>t.id::t.from_);have h2:=oW l ok;have h3:(bC l).length<=_:=h1;omega
 rw[ae6 l (by omega) (by omega) (by omega)];simp only[bind_some,cond_false];cases l.any fun t=>t.owner != (l.headD dw).owner with
 |true=>rfl
 |false=>
 rw[TH _ l (by omega) a200 hn];simp only[bind_some,cond_false,aV,aA,cond_true];rw[acF okr (by omega) hn];generalize aT (aG (l.flatMap (·.area)))=area;unfold ad8 Dv;have d3:decide (((area.length:Nat):Int)>200)=decide (area.length>200):=by rw[Bool.eq_iff_iff];simp;omega
 simp only[bind_some,d3];cases h4:decide (area.length>200)with
 |true=>rfl
 |false=>
 have h5:¬ area.length>200:=by simpa using h4
 rw[wH (by omega) (by omega) (by omega)];simp only[bind_some,cond_false];cases ((kg area).length:Int)==1 with
 |false=>rfl
 |true=>
 have s3:∀ x:ax,(sub ([x]:List ax) 0 1)=[x]:=fun _=>rfl;have q3:∀ x:ax,eqL ([x]:List ax).length 1=true:=fun _=>rfl;have lnl2:(bC l).length<=10000:=by
  have h1:=je (l.flatMap fun t=>t.id::t.from_);have h2:=oW l ok;have h3:(bC l).length<=_:=h1;omega
 have rp:=uf (n:=n) (land:=land) (old:=ids) (lots:=[ax.mk id (l.headD dw).owner area (bC l)]) h (by omega) (by omega) (fun t ht=>by
  have:t=ax.mk id (l.headD dw).owner area (bC l):=by simpa using ht
  subst this;exact⟨by show area.length<=900;omega,by show (bC l).length<=10000;omega⟩) (by simp) (by omega)
 simp only[Bool.not_true,cond_false,i0,cond_true,hd,bind_some,TA ok (by omega) (show 901*l.length < n by omega),aA,aV,s3,q3,rp]
theorem ajp (x y z w:Int):nU x y z w=some [aj.mk x y z w]:=rfl
abbrev TJ:ax:=ax.mk 1 7 [aj.mk 0 0 4 2] []
abbrev Ob:ax:=ax.mk 2 7 [aj.mk 4 0 6 2] []
abbrev aaD:ax:=ax.mk 3 7 [aj.mk 0 0 1 2] [1]
abbrev ag6:ax:=ax.mk 4 7 [aj.mk 1 0 4 2] [1]
abbrev aiZ:ax:=ax.mk 5 7 [aj.mk 1 0 6 2] [1,2,4]
theorem IZ {l:List ax} (h:(l.all fun t=>Nat.ble t.area.length 900&&Nat.ble t.from_.length 900)=true):∀ t∈l,dx t:=by
 intro t ht;have:=all_eq_true.1 h t ht;simp only[and_eq_true,Nat.ble_eq]at this;exact this
theorem sm1:NV [] TJ=([TJ],0):=by kernel_rfl
theorem sm2:NV [TJ] Ob=([TJ,Ob],0):=by kernel_rfl
theorem sm3:wI [TJ,Ob] 1 [aj.mk 0 0 1 9] 3 4=([Ob,aaD,ag6],0):=by kernel_rfl
theorem sm4:joinL [Ob,aaD,ag6] [4,2] 5=([aaD,aiZ],0):=by kernel_rfl
theorem sm5:wI [TJ,Ob] 1 [aj.mk 1 0 2 2] 3 4=([],12):=by kernel_rfl
theorem sm6:FP [TJ,Ob] 1 0=[2]:=by kernel_rfl
theorem sm7 (k:Nat):agU (k+10000) [Kh.mk 0 0 2 2 0 4]=some ([dh.mk 0 4 [aj.mk 0 0 2 2]],0):=by kernel_rfl
theorem sm8 (k:Nat):zw (k+10000) [dM.mk 1 [aj.mk 0 0 1 1] 3] 1 [dh.mk 0 4 [aj.mk 0 0 2 2]]=some false:=by kernel_rfl
theorem sm9 (k:Nat):zw (k+10000) [dM.mk 1 [aj.mk 0 0 1 1] 3] 2 [dh.mk 0 4 [aj.mk 0 0 2 2]]=some true:=by kernel_rfl
theorem ajy (k:Nat):qf (k+10000) [Ob,aaD,ag6] [Ob,aaD,ag6]=some true:=by kernel_rfl
theorem ajz (k:Nat):qf (k+10000) [aaD,aiZ] [aaD,aiZ]=some true:=by kernel_rfl
theorem ajA (k:Nat):iY (k+10000) [2] [2]=some true:=by kernel_rfl
theorem ah3 {n:Nat} (hn:10000<=n):IG n=some true:=by
 obtain⟨k,rfl⟩:∃ k,n=k+10000:=⟨n - 10000,by omega⟩;have s1:∀ x:ax,sub ([x]:List ax) 0 1=[x]:=fun _=>rfl;have s2:sub ([4,2]:List Int) 0 2=[4,2]:=rfl;have s3:sub ([1]:List Int) 0 1=[1]:=rfl;have s4:sub ([2]:List Int) 0 1=[2]:=rfl;have s5:sub ([1,2,4]:List Int) 0 3=[1,2,4]:=rfl;have s6:∀ x y:ax,sub ([x,y]:List ax) 0 2=[x,y]:=fun _ _=>rfl;have s7:∀ x y z:ax,sub ([x,y,z]:List ax) 0 3=[x,y,z]:=fun _ _ _=>rfl;have s8:∀ x:Kh,sub ([x]:List Kh) 0 1=[x]:=fun _=>rfl;have s9:∀ x:dM,sub ([x]:List dM) 0 1=[x]:=fun _=>rfl;have e1:∀ x:Int,eqL ([x]:List Int).length 1=true:=fun _=>rfl;have e2:∀ x y:Int,eqL ([x,y]:List Int).length 2=true:=fun _ _=>rfl;have e3:∀ x y z:Int,eqL ([x,y,z]:List Int).length 3=true:=fun _ _ _=>rfl;have e4:∀ x y:ax,eqL ([x,y]:List ax).length 2=true:=fun _ _=>rfl;have e5:∀ x y z:ax,eqL ([x,y,z]:List ax).length 3=true:=fun _ _ _=>rfl;have e6:∀ x:Kh,eqL ([x]:List Kh).length 1=true:=fun _=>rfl;have e7:∀ x:dM,eqL ([x]:List dM).length 1=true:=fun _=>rfl;have z0:((0:Int)==0)=true:=rfl;have z1:((12:Int)==12)=true:=rfl;unfold IG;simp only[ajp,bind_some,aV,aA,cond_true];rw[NW (land:=[]) (IZ rfl) (by simp) ⟨by simp,by simp⟩ (by omega),sm1];simp only[bind_some,aV,aA,cond_true];rw[NW (land:=[TJ]) (IZ rfl) (by simp) ⟨by simp,by simp⟩ (by omega),sm2];simp only[bind_some,aV,aA,cond_true];rw[BR (land:=[TJ,Ob]) (IZ rfl) (by simp) (by simp) (by omega),sm3];simp only[bind_some,aV,aA,cond_true,s2,e2];rw[TI (land:=[Ob,aaD,ag6]) (IZ rfl) (by simp) (by simp) (by omega),sm4];simp only[bind_some,aV,aA,cond_true]
 rw[BR (land:=[TJ,Ob]) (IZ rfl) (by simp) (by simp) (by omega),sm5];simp only[bind_some,aV,aA,cond_true,s3,s4,s5,s6,s7,s8,s9,e1,e2,e3,e4,e5,e6,e7,sm7,z0,z1,ajy,ajz];rw[Ty (land:=[TJ,Ob]) (IZ rfl) (by simp) (by omega),sm6];simp only[bind_some,aV,aA,cond_true,ajA,sm8,sm9];rfl
def doR (l:List ax) (r:List ax×Int):List ax×Int:=bif r.2 != 0 then (l,r.2)else (r.1,0)
def doL (l:List ax) (o:GOp):List ax×Int:=
 bif o.kind==0 then doR l (NV l (ax.mk o.id o.n (ofL o.area).1 []))else
 bif o.kind==1 then doR l (wI l o.id (ofL o.area).1 o.a o.b)else
 bif o.kind==2 then doR l (joinL l o.ids o.id)else
 bif o.kind==3 then doR l (kU l o.id o.n)else (l,0)
theorem Yo (l:List aj):(ofL l).1.length<=200:=by
 unfold ofL;split
 ·split
  ·simp
  ·split
   ·simp
   ·show (aT (aG l)).length<=200;omega
 ·simp
theorem WX {n:Nat} {l:List ax} {o:GOp} (h:∀ t∈l,dx t) (hl:l.length<=99) (ha:o.area.length<=900) (hi:o.ids.length<=8) (hn:10000<=n):Ti n l o=some (doL l o):=by
 unfold Ti doL;have lo:=Yo o.area;have fin:∀ r:List ax×Int,((bif r.2 != (0:Int)then some (l,r.2)else bif eqL (sub r.1 0 r.1.length).length r.1.length then some (sub r.1 0 r.1.length,(0:Int))else none):Option (List ax×Int))=some (doR l r):=by
  intro r;unfold doR;simp only[aV,aA,cond_true];cases r.2 != 0<;>rfl
 rw[aao (by omega) (by omega) (by omega)];simp only[bind_some];cases o.kind==0 with
 |true=>
  simp only[cond_true];rw[NW h hl ⟨by show (ofL o.area).1.length<=900;omega,by simp⟩ (by omega)];exact fin _
 |false=>
 cases o.kind==1 with
 |true=>
  simp only[cond_true,cond_false];rw[BR h hl (by omega) (by omega)];exact fin _
 |false=>
 cases o.kind==2 with
 |true=>
  simp only[cond_true,cond_false];rw[TI h hl hi hn];exact fin _
 |false=>
 cases o.kind==3 with
 |true=>
  simp only[cond_true,cond_false];rw[NZ h hl (by omega)];exact fin _
 |false=>rfl
def lineOk (u t:ax):Prop:=(u.id=t.id∧u.area=t.area∧u.from_=t.from_)∨(t.id∈u.from_∧∀ x∈t.from_,x∈u.from_)
structure Did (l l':List ax) (old:List Int) (lots:List ax) (ow:ax->Int):Prop where
 eq:l'=replaceL l old lots
 land:IsLand l'
 cells:∀ x y,(∃ u∈lots,cellsL u.area x y=true)↔∃ t∈l,t.id∈old∧cellsL t.area x y=true
 owner:∀ u∈lots,∀ t∈l,t.id∈old->∀ x y,cellsL u.area x y=true->cellsL t.area x y=true->u.owner=ow t
 line:∀ u∈lots,∀ t∈l,t.id∈old->∀ x y,cellsL u.area x y=true->cellsL t.area x y=true->lineOk u t
 fresh:∀ u∈lots,takenL l u.id=false∨∃ t∈l,t.id∈old∧u.id=t.id∧u.area=t.area∧u.from_=t.from_
 nums:∀ u∈lots,∀ x∈u.from_,takenL l x=true
 len:lots.length<=2
theorem Oc {land:List ax} (h:IsLand land) {Ts:List ax} (hT:∀ t∈Ts,t∈land):∀ x∈bC Ts,pE x=true:=by
 intro x hx;obtain⟨t,ht,e⟩:=oZ.1 hx;have hv:=h.val t (hT t ht);rcases e with rfl |e
 ·exact (xU hv).1
 ·exact (Bl hv).2 x e
theorem Bo {land:List ax} {Ts:List ax} (hT:∀ t∈Ts,t∈land):∀ x∈bC Ts,takenL land x=true:=by
 intro x hx;obtain⟨t,ht,e⟩:=oZ.1 hx;refine Kr.2 ⟨t,hT t ht,?_⟩;rcases e with rfl |e
 ·exact .inl rfl
 ·exact .inr e
theorem cond_some {α:Type} {c:Bool} {e:Int} {r:List α×Int} {s:List α×Int} (he:e≠0) (h:(bif c then (([]:List α),e)else r)=s) (h0:s.2=0):c=false∧r=s:=by
 cases c with
 |true=>subst h;exact absurd h0 he
 |false=>exact⟨rfl,h⟩
theorem WY {l:List ax} {id a b:Int} {cut:List aj} (h:IsLand l) (h0:(wI l id cut a b).2=0):
 ∃ T I O,(T∈l∧T.id=id)∧(takenL l a=false∧takenL l b=false∧a≠b)∧(∀ x y,cellsL I x y=(cellsL T.area x y&&cellsL cut x y))∧(∀ x y,cellsL O x y=(cellsL T.area x y&&!cellsL cut x y))∧
   Did l (wI l id cut a b).1 [id] [ax.mk a T.owner I (bC [T]),ax.mk b T.owner O (bC [T])] (fun t=>t.owner):=by
 unfold wI at h0 ⊢;obtain⟨c1,e⟩:=cond_some (by decide) rfl h0;rw[<- e]at h0 ⊢;clear e;obtain⟨c2,e⟩:=cond_some (by decide) rfl h0;rw[<- e]at h0 ⊢;clear e;obtain⟨c3,e⟩:=cond_some (by decide) rfl h0;rw[<- e]at h0 ⊢;clear e;unfold NY at h0 ⊢;obtain⟨c4,e⟩:=cond_some (by decide) rfl h0;rw[<- e]at h0 ⊢;clear e;obtain⟨c5,e⟩:=cond_some (by decide) rfl h0;rw[<- e]at h0 ⊢;clear e;obtain⟨c6,e⟩:=cond_some (by decide) rfl h0;rw[<- e]at h0 ⊢;clear e;simp only[Bool.or_eq_false_iff,Bool.not_eq_false',beq_eq_false_iff_ne]at c1;obtain⟨_,_,na,nb,hab⟩:=c1;have hf:(aI l id).2=true:=by simpa using c2
 rw[Bool.or_eq_false_iff]at c3;obtain⟨hta,htb⟩:=c3;obtain⟨hT,hid⟩:=zH hf;generalize (aI l id).1=T at*;generalize hI:fT (fun p q=>p&&q) T.area cut=I at*;generalize hO:fT (fun p q=>p&&!q) T.area cut=O at*;simp only[Bool.or_eq_false_iff,bne_eq_false_iff_eq]at c5;obtain⟨i0,o0⟩:=c5;simp only[Bool.or_eq_false_iff,Bool.not_eq_false']at c6;obtain⟨ci,co⟩:=c6;obtain⟨_,_,rI,sI⟩:=JK (by rfl) (hI.trans (Prod.ext rfl i0));obtain⟨_,_,rO,sO⟩:=JK (by rfl) (hO.trans (Prod.ext rfl o0));have vT:=h.val T hT;obtain⟨vn,vo,_⟩:=xU vT;have inT:∀ t∈[T],t∈l:=fun t ht=>by
  have:t=T:=by simpa using ht
  rw[this];exact hT
 have vA:validL (ax.mk a T.owner I.1 (bC [T]))=true:=IY na vo (xV _) (Oc h inT) ci;have vB:validL (ax.mk b T.owner O.1 (bC [T]))=true:=IY nb vo (xV _) (Oc h inT) co;have mem:∀ u∈[ax.mk a T.owner I.1 (bC [T]),ax.mk b T.owner O.1 (bC [T])],(u=ax.mk a T.owner I.1 (bC [T])∨u=ax.mk b T.owner O.1 (bC [T])):=fun u hu=>by simpa using hu
 have tk:∀ u∈[ax.mk a T.owner I.1 (bC [T]),ax.mk b T.owner O.1 (bC [T])],takenL l u.id=false∧u.from_=bC [T]∧u.owner=T.owner∧validL u=true∧∀ x y,cellsL u.area x y=true->cellsL T.area x y=true:=by
  intro u hu;rcases mem u hu with rfl |rfl
  ·exact⟨hta,rfl,rfl,vA,fun x y hc=>by rw[show (ax.mk a T.owner I.1 (bC [T])).area=I.1 from rfl,sI,and_eq_true]at hc;exact hc.1⟩
  ·exact⟨htb,rfl,rfl,vB,fun x y hc=>by rw[show (ax.mk b T.owner O.1 (bC [T])).area=O.1 from rfl,sO,and_eq_true]at hc;exact hc.1⟩
 refine⟨T,I.1,O.1,⟨hT,hid⟩,⟨hta,htb,hab⟩,sI,sO,?_⟩;have uniq:∀ t∈l,t.id∈[id]->t=T:=fun t ht hi=>h.uniq ht hT (by rw[hid];simpa using hi);refine⟨rfl,?_,?_,?_,?_,?_,?_,by simp⟩
 ·refine xS h ?_ (fun u hu=>(tk u hu).2.2.2.1) ?_ ?_ ?_
  ·refine List.Pairwise.cons (fun u hu=>?_) (List.pairwise_singleton _ _);have:u=ax.mk b T.owner O.1 (bC [T]):=(by simpa using hu);subst this;exact hab
  ·intro u hu t ht hx;obtain⟨k1,k2,_,_,k3⟩:=tk u hu;have htT:t.id≠T.id:=(by rw[hid];exact hx id (by simp));have:=H6 k1 ht;refine⟨⟨this.1,this.2⟩,?_,fun x y h1 h2=>h.apart' hT ht (Ne.symm htT) x y (k3 x y h1) h2⟩;rw[k2];intro hm;obtain⟨w,hw,e⟩:=oZ.1 hm;have:w=T:=(by simpa using hw);subst this;rcases e with e |e
   ·exact htT e
   ·exact h.old w hT t ht e
  ·intro u hu w hw hm;rw[(tk w hw).2.1]at hm;have:=Bo inT _ hm;rw[(tk u hu).1]at this;cases this
  ·refine List.Pairwise.cons (fun u hu=>?_) (List.pairwise_singleton _ _);have:u=ax.mk b T.owner O.1 (bC [T]):=(by simpa using hu);subst this;intro x y h1 h2;rw[show (ax.mk a T.owner I.1 (bC [T])).area=I.1 from rfl,sI,and_eq_true]at h1;rw[show (ax.mk b T.owner O.1 (bC [T])).area=O.1 from rfl,sO,and_eq_true,h1.2]at h2;exact absurd h2.2 (by simp)
 ·intro x y;constructor
  ·rintro⟨u,hu,hc⟩;exact⟨T,hT,by rw[hid];simp,(tk u hu).2.2.2.2 x y hc⟩
  ·rintro⟨t,ht,hi,hc⟩;rw[uniq t ht hi]at hc;cases hx:cellsL cut x y with
   |true=>exact⟨ax.mk a T.owner I.1 (bC [T]),by simp,by show cellsL I.1 x y=true;rw[sI,hc,hx];rfl⟩
   |false=>exact⟨ax.mk b T.owner O.1 (bC [T]),by simp,by show cellsL O.1 x y=true;rw[sO,hc,hx];rfl⟩
 ·intro u hu t ht hi x y _ _;rw[uniq t ht hi];exact (tk u hu).2.2.1
 ·intro u hu t ht hi x y _ _;rw[uniq t ht hi];right;rw[(tk u hu).2.1];exact⟨oZ.2 ⟨T,by simp,.inl rfl⟩,fun z hz=>oZ.2 ⟨T,by simp,.inr hz⟩⟩
 ·intro u hu;exact .inl (tk u hu).1
 ·intro u hu x hx;rw[(tk u hu).2.1]at hx;exact Bo inT x hx
theorem MH {l:List ax} {id to:Int} (h:IsLand l) (h0:(kU l id to).2=0):
 ∃ T,(T∈l∧T.id=id)∧Did l (kU l id to).1 [id] [ax.mk T.id to T.area T.from_] (fun _=>to):=by
 unfold kU at h0 ⊢;obtain⟨c1,e⟩:=cond_some (by decide) rfl h0;rw[<- e]at h0 ⊢;clear e;obtain⟨c2,e⟩:=cond_some (by decide) rfl h0;rw[<- e]at h0 ⊢;clear e;simp only[Bool.or_eq_false_iff,Bool.not_eq_false']at c1;have hf:(aI l id).2=true:=by simpa using c2
 obtain⟨hT,hid⟩:=zH hf;generalize (aI l id).1=T at*;have vT:=h.val T hT;obtain⟨vn,_,vp⟩:=xU vT;obtain⟨vf1,vf2⟩:=Bl vT;have mem:∀ u∈[ax.mk T.id to T.area T.from_],u=ax.mk T.id to T.area T.from_:=fun u hu=>by simpa using hu
 have uniq:∀ t∈l,t.id∈[id]->t=T:=fun t ht hi=>h.uniq ht hT (by rw[hid];simpa using hi);refine⟨T,⟨hT,hid⟩,rfl,?_,?_,?_,?_,?_,?_,by simp⟩
 ·refine xS h (List.pairwise_singleton _ _) (fun u hu=>?_) ?_ ?_ (List.pairwise_singleton _ _)
  ·rw[mem u hu];exact IY vn c1.2 vf1 vf2 vp
  ·intro u hu t ht hx;rw[mem u hu];have htT:t.id≠T.id:=(by rw[hid];exact hx id (by simp));exact⟨⟨htT,h.old t ht T hT⟩,h.old T hT t ht,show ApartC T.area t.area from h.apart' hT ht (Ne.symm htT)⟩
  ·intro u hu w hw;rw[mem u hu,mem w hw];exact h.old T hT T hT
 ·intro x y;constructor
  ·rintro⟨u,hu,hc⟩;rw[mem u hu]at hc;exact⟨T,hT,by rw[hid];simp,hc⟩
  ·rintro⟨t,ht,hi,hc⟩;rw[uniq t ht hi]at hc;exact⟨_,mem_singleton.2 rfl,hc⟩
 ·intro u hu t ht hi x y _ _;rw[mem u hu]
 ·intro u hu t ht hi x y _ _;rw[mem u hu,uniq t ht hi];exact .inl ⟨rfl,rfl,rfl⟩
 ·intro u hu;rw[mem u hu];exact .inr ⟨T,hT,by rw[hid];simp,rfl,rfl,rfl⟩
 ·intro u hu x hx;rw[mem u hu]at hx;exact Kr.2 ⟨T,hT,.inr hx⟩
theorem acG {l:List aj} (h:∀ r∈l,OkR r=true) (x y:Int):cellsL (aT (aG l)) x y=cellsL l x y:=by rw[Mt (jI l),kT,(dS h x).2]
theorem acH (l:List ax) (x y:Int):cellsL (l.flatMap (·.area)) x y=true↔∃ t∈l,cellsL t.area x y=true:=by
 unfold cellsL;simp only[any_eq_true,mem_flatMap];constructor
 ·rintro⟨r,⟨t,ht,hr⟩,hc⟩;exact⟨t,ht,r,hr,hc⟩
 ·rintro⟨t,ht,r,hr,hc⟩;exact⟨r,⟨t,ht,hr⟩,hc⟩
theorem aaE {l:List ax} {ids:List Int} {id:Int} (h:IsLand l) (h0:(joinL l ids id).2=0):
 ∃ Ts area,(∀ k∈ids,∃ t∈Ts,t∈l∧t.id=k)∧(∀ t∈Ts,t∈l∧t.id∈ids∧t.owner=(Ts.headD dw).owner)∧Ts=ids.map (fun k=>(aI l k).1)∧(takenL l id=false∧2<=ids.length∧Ko (fC ltI ids)=true)∧bH area=true∧(∀ x y,cellsL area x y=true↔∃ t∈Ts,cellsL t.area x y=true)∧
   Did l (joinL l ids id).1 ids [ax.mk id (Ts.headD dw).owner area (bC Ts)] (fun t=>t.owner):=by
 unfold joinL at h0 ⊢;obtain⟨c1,e⟩:=cond_some (by decide) rfl h0;rw[<- e]at h0 ⊢;clear e;obtain⟨c2,e⟩:=cond_some (by decide) rfl h0;rw[<- e]at h0 ⊢;clear e;obtain⟨c3,e⟩:=cond_some (by decide) rfl h0;rw[<- e]at h0 ⊢;clear e;obtain⟨c4,e⟩:=cond_some (by decide) rfl h0;rw[<- e]at h0 ⊢;clear e;unfold ad8 at h0 ⊢;obtain⟨c5,e⟩:=cond_some (by decide) rfl h0;rw[<- e]at h0 ⊢;clear e;obtain⟨c6,e⟩:=cond_some (by decide) rfl h0;rw[<- e]at h0 ⊢;clear e;simp only[Bool.or_eq_false_iff,Bool.not_eq_false',decide_eq_false_iff_not]at c1;obtain⟨_,hlen,hasc,hnum⟩:=c1;have hall:(ids.all fun k=>(aI l k).2)=true:=by simpa using c2
 have hcon:Dv (aT (aG ((ids.map fun k=>(aI l k).1).flatMap (·.area))))=true:=by simpa using c6
 have hTs:∀ t∈(ids.map fun k=>(aI l k).1),t∈l∧t.id∈ids:=by
  intro t ht;obtain⟨k,hk,rfl⟩:=mem_map.1 ht;obtain⟨m1,m2⟩:=zH (all_eq_true.1 hall k hk);exact⟨m1,by rw[m2];exact hk⟩
 have hks:∀ k∈ids,∃ t∈(ids.map fun k=>(aI l k).1),t∈l∧t.id=k:=by
  intro k hk;obtain⟨m1,m2⟩:=zH (all_eq_true.1 hall k hk);exact⟨_,mem_map.2 ⟨k,hk,rfl⟩,m1,m2⟩
 have hne:∃ t,t∈(ids.map fun k=>(aI l k).1)∧t=(ids.map fun k=>(aI l k).1).headD dw:=by
  cases ids with
  |nil=>simp at hlen
  |cons k ks=>exact⟨_,mem_cons_self,rfl⟩
 generalize hTd:(ids.map fun k=>(aI l k).1)=Ts at*;have hown:∀ t∈Ts,t.owner=(Ts.headD dw).owner:=by
  intro t ht;have:=any_eq_false.1 c4 t ht;simpa using this
 have okr:∀ r∈Ts.flatMap (·.area),OkR r=true:=by
  intro r hr;obtain⟨t,ht,hr⟩:=mem_flatMap.1 hr;exact (bZ (h.areas t (hTs t ht).1)).1 r hr
 have hcells:∀ x y,cellsL (aT (aG (Ts.flatMap (·.area)))) x y=true↔∃ t∈Ts,cellsL t.area x y=true:=fun x y=>by rw[acG okr,acH]
 generalize aT (aG (Ts.flatMap (·.area)))=area at*;have inT:∀ t∈Ts,t∈l:=fun t ht=>(hTs t ht).1;obtain⟨t0,ht0,e0⟩:=hne;have vo:ownB (Ts.headD dw).owner=true:=by
  rw[<- e0];exact (xU (h.val t0 (inT t0 ht0))).2.1
 have vN:validL (ax.mk id (Ts.headD dw).owner area (bC Ts))=true:=IY hnum vo (xV _) (Oc h inT) hcon;have mem:∀ u∈[ax.mk id (Ts.headD dw).owner area (bC Ts)],u=ax.mk id (Ts.headD dw).owner area (bC Ts):=fun u hu=>by simpa using hu
 have old:∀ t∈l,t.id∈ids->t∈Ts:=by
  intro t ht hi;obtain⟨w,hw,h1,h2⟩:=hks _ hi;rw[h.uniq ht h1 h2.symm];exact hw
 refine⟨Ts,area,hks,fun t ht=>⟨(hTs t ht).1,(hTs t ht).2,hown t ht⟩,rfl,⟨c3,by omega,hasc⟩,EU vN,hcells,rfl,?_,?_,?_,?_,?_,?_,by simp⟩
 ·refine xS h (List.pairwise_singleton _ _) (fun u hu=>by rw[mem u hu];exact vN) ?_ ?_ (List.pairwise_singleton _ _)
  ·intro u hu t ht hx;rw[mem u hu];have:=H6 c3 ht;refine⟨⟨this.1,this.2⟩,?_,?_⟩
   ·intro hm;obtain⟨w,hw,e⟩:=oZ.1 hm;rcases e with e |e
    ·exact hx _ (hTs w hw).2 e
    ·exact h.old w (inT w hw) t ht e
   ·intro x y h1 h2;obtain⟨w,hw,h3⟩:=(hcells x y).1 h1;exact h.apart' (inT w hw) ht (fun e=>hx _ (hTs w hw).2 e.symm) x y h3 h2
  ·intro u hu w hw hm;rw[mem w hw]at hm;rw[mem u hu]at hm;have:=Bo inT _ hm;rw[c3]at this;cases this
 ·intro x y;constructor
  ·rintro⟨u,hu,hc⟩;rw[mem u hu]at hc;obtain⟨w,hw,h3⟩:=(hcells x y).1 hc;exact⟨w,inT w hw,(hTs w hw).2,h3⟩
  ·rintro⟨t,ht,hi,hc⟩;exact⟨_,mem_singleton.2 rfl,(hcells x y).2 ⟨t,old t ht hi,hc⟩⟩
 ·intro u hu t ht hi x y _ _;rw[mem u hu];exact (hown t (old t ht hi)).symm
 ·intro u hu t ht hi x y _ _;rw[mem u hu];right;exact⟨oZ.2 ⟨t,old t ht hi,.inl rfl⟩,fun z hz=>oZ.2 ⟨t,old t ht hi,.inr hz⟩⟩
 ·intro u hu;rw[mem u hu];exact .inl c3
 ·intro u hu x hx;rw[mem u hu]at hx;exact Bo inT x hx
theorem ad9 {l:List ax} {lot:ax} (h:IsLand l) (h0:(NV l lot).2=0):
 (NV l lot).1=replaceL l [] [lot]∧IsLand (NV l lot).1∧validL lot=true∧takenL l lot.id=false∧lot.from_=[]∧∀ t∈l,ApartC t.area lot.area:=by
 unfold NV at h0 ⊢;obtain⟨c1,e⟩:=cond_some (by decide) rfl h0;rw[<- e]at h0 ⊢;clear e;obtain⟨c2,e⟩:=cond_some (by decide) rfl h0;rw[<- e]at h0 ⊢;clear e;obtain⟨c3,e⟩:=cond_some (by decide) rfl h0;rw[<- e]at h0 ⊢;clear e;simp only[Bool.or_eq_false_iff,Bool.not_eq_false',decide_eq_false_iff_not,ne_eq,Decidable.not_not]at c1;obtain⟨_,hv,hfr⟩:=c1;have hap:∀ t∈l,ApartC t.area lot.area:=by
  intro t ht;have:=any_eq_false.1 c3 t ht;rw[Bool.not_eq_true,HZ]at this;exact this
 have mem:∀ u∈[lot],u=lot:=fun u hu=>by simpa using hu
 refine⟨rfl,?_,hv,c2,hfr,hap⟩;refine xS h (List.pairwise_singleton _ _) (fun u hu=>by rw[mem u hu];exact hv) ?_ ?_ (List.pairwise_singleton _ _)
 ·intro u hu t ht _;rw[mem u hu,hfr];have:=H6 c2 ht;exact⟨⟨this.1,this.2⟩,by simp,(hap t ht).symm⟩
 ·intro u hu w hw;rw[mem w hw,hfr];simp
theorem jf (a:Int):(a != a)=false:=by simp
theorem Vl {n:Nat} {a:List aj} (hl:a.length < 1099511627776) (hn:a.length < n):zo n a a=some true:=by
 have:=dm (step:=lK a a) (fun i=>((i:Nat):Int)) a.length (.inl ()) (fun i hi=>?_) ?_ n hn
 ·unfold zo;rw[jf,show (0:Int)=((0:Nat):Int)from rfl,this];rfl
 ·have c:decide (((i:Nat):Int) < (a.length:Int))=true:=by simpa using hi
  simp only[lK,c,cond_true,aQ hi,bind_some,beq_self_eq_true,Bool.and_true,Bool.not_true,cond_false];rw[aC (by omega)]
 ·simp[lK]
theorem JN {n:Nat} {a:List ax} (h:∀ t∈a,dx t) (hl:a.length<=900) (hn:1000<=n):qf n a a=some true:=by
 have inner:∀ (i:Nat) (hi:i < a.length),iter (uV a a (i:Int)) n (0:Int)=some (.inl ()):=by
  intro i hi;have ht:=(h _ (getElem_mem hi)).2;have:=dm (step:=uV a a (i:Int)) (fun j=>((j:Nat):Int)) a[i].from_.length (.inl ()) (fun j hj=>?_) ?_ n (by omega)
  ·exact this
  ·have c:decide (((j:Nat):Int) < (a[i].from_.length:Int))=true:=(by simpa using hj);simp only[uV,aQ hi,bind_some,c,cond_true,aQ hj,jf,cond_false];rw[aC (by omega)]
  ·simp[uV,aQ hi]
 have:=dm (step:=A7 n a a) (fun i=>((i:Nat):Int)) a.length (.inl ()) (fun i hi=>?_) ?_ n (by omega)
 ·unfold qf;rw[jf,show (0:Int)=((0:Nat):Int)from rfl,this];rfl
 ·have c:decide (((i:Nat):Int) < (a.length:Int))=true:=by simpa using hi
  have ht:=(h _ (getElem_mem hi)).1;simp only[A7,c,cond_true,aQ hi,bind_some,jf,cond_false,Vl (n:=n) (a:=a[i].area) (by omega) (by omega),Bool.not_true,inner i hi,fF];rw[aC (by omega)]
 ·simp[A7]
theorem Qc {n:Nat} {l:List GOp} (hl:l.length<=maxLen) (hn:l.length < n):∃ b,EJ n l=some b∧(b=true->l.length<=12∧∀ o∈l,o.area.length<=10∧o.ids.length<=8):=by
 have:=bX (l:=l) (step:=tX l) (fun i=>((i:Nat):Int)) (fun t:GOp=>decide ((t.area.length:Int)>10) || decide ((t.ids.length:Int)>8)) () (fun _=>false) (fun i hi=>?_) (by simp[tX]) n hn
 ·rw[show ((0:Nat):Int)=0 from rfl]at this;unfold EJ;rw[this];rcases ji (fun t:GOp=>decide ((t.area.length:Int)>10) || decide ((t.ids.length:Int)>8)) l with ⟨i,hi,h1,_⟩ |⟨h1,h2⟩
  ·rw[h1];exact⟨false,rfl,by simp⟩
  ·rw[h1];refine⟨_,rfl,fun h=>⟨?_,fun t ht=>?_⟩⟩
   ·have:=of_decide_eq_true h;omega
   ·have:=h2 t ht;simp only[Bool.or_eq_false_iff,decide_eq_false_iff_not]at this;omega
 ·have hi':decide (((i:Nat):Int) < (l.length:Int))=true:=by simpa using hi
  have hm:i < 9223372036854775807:=by simp only[maxLen]at hl;omega
  simp only[tX,hi',cond_true,aQ hi,bind_some];cases decide ((l[i].area.length:Int)>10)with
  |true=>rfl
  |false=>
   simp only[cond_false,Bool.false_or,bind_some];cases decide ((l[i].ids.length:Int)>8)with
   |true=>rfl
   |false=>simp only[cond_false];rw[aC hm]
theorem ag7 (r:aj) (x y:Int):ad5 r x y=some (OkR r&&Vj r x y):=by
 unfold ad5 NI;rw[rV];simp only[bind_some];cases hr:OkR r with
 |true=>
  simp only[cond_true,bind_some,Bool.true_and,Vj,ge_iff_le];cases decide (r.x0<=x)<;>cases decide (x < r.x1)<;>cases decide (r.y0<=y)<;>rfl
 |false=>
  simp only[cond_false,bind_some,Bool.false_and,ge_iff_le];by_cases h:(0:Int)<=x
  ·have:decide (x < 0)=false:=(by simp;omega);simp[h,this]
  ·simp[h]
theorem ae7 {n:Nat} {a:List aj} (x y:Int) (ha:a.length<=900) (hn:1000<=n):Yd n a x y=some (bH a&&cellsL a x y):=by
 unfold Yd;rw[jK (fun r=>OkR r&&Vj r x y) (fun r _=>by show IQ r x y=_;unfold IQ;rw[ag7];rfl) (by omega) (by omega),lV (by omega) (by omega) hn];simp only[bind_some];cases hr:bH a with
 |false=>cases a.any fun r=>OkR r&&Vj r x y<;>rfl
 |true=>
  have e:(a.any fun r=>OkR r&&Vj r x y)=cellsL a x y:=by
   unfold cellsL Vj;rw[Bool.eq_iff_iff,any_eq_true,any_eq_true];constructor
   ·rintro⟨r,h1,h2⟩;rw[and_eq_true]at h2;exact⟨r,h1,h2.2⟩
   ·rintro⟨r,h1,h2⟩;exact⟨r,h1,by rw[(bZ hr).1 r h1,h2];rfl⟩
  rw[e];cases cellsL a x y<;>rfl
def atL (l:List ax) (x y:Int):Int×Bool:=match l.find? fun t=>bH t.area&&cellsL t.area x y with
 |some t=>(t.id,true)
 |none=>(0,false)
theorem ag8 {n:Nat} {l:List ax} (x y:Int) (h:∀ t∈l,dx t) (hl:l.length<=900) (hn:1000<=n):WI n l x y=some (atL l x y):=by
 unfold WI;have:=bX (l:=l) (step:=Mg n l x y) (fun i=>(i:Int)) (fun t=>bH t.area&&cellsL t.area x y) () (fun i=>((l.getD i dw).id,true)) (fun i hi=>?_) ?_ n (by omega)
 ·rw[show ((0:Nat):Int)=0 from rfl]at this;rw[this];unfold atL;rcases ER (fun t:ax=>bH t.area&&cellsL t.area x y) l with ⟨i,hi,h1,h2⟩ |⟨h1,h2⟩
  ·rw[h1,h2];simp[hi]
  ·rw[h1,h2];rfl
 ·have hi':decide (((i:Nat):Int) < (l.length:Int))=true:=by simpa using hi
  have ht:=(h _ (getElem_mem hi)).1;simp only[Mg,hi',cond_true,aQ hi,bind_some,ae7 (n:=n) (a:=l[i].area) x y (by omega) hn];cases bH l[i].area&&cellsL l[i].area x y with
  |true=>simp[hi]
  |false=>simp only[cond_false];rw[aC (by omega)]
 ·simp[Mg]
structure Good (k:Nat) (U:List Int) (l:List ax):Prop where
 land:IsLand l
 len:l.length<=2*k
 used:Used U l
 ulen:U.length<=2*k
theorem Good.ok {k:Nat} {U:List Int} {l:List ax} (h:Good k U l) (hk:k<=40):∀ t∈l,dx t:=fun t ht=>by
 have h1:=(bZ (h.land.areas t ht)).2.1;have h2:=ag5 h.used h.land ht;have h3:=h.ulen;exact⟨by omega,by omega⟩
theorem ag9:Good 0 [] []:=⟨acC,by simp,fun _ h=>by simp at h,by simp⟩
theorem ae8 {U:List Int} {l lots:List ax} {old:List Int} (hu:Used U l) (hn:∀ u∈lots,∀ x∈u.from_,takenL l x=true):Used (lots.map (·.id)++U) (replaceL l old lots):=by
 intro t ht;rcases qC.1 ht with ⟨ht,_⟩ |ht
 ·have:=hu t ht;exact⟨mem_append_right _ this.1,fun x hx=>mem_append_right _ (this.2 x hx)⟩
 ·refine⟨List.mem_append_left _ (mem_map.2 ⟨t,ht,rfl⟩),fun x hx=>mem_append_right _ ?_⟩;obtain⟨w,hw,e⟩:=Kr.1 (hn t ht x hx);rcases e with rfl |e
  ·exact (hu w hw).1
  ·exact (hu w hw).2 x e
theorem Good.step {k:Nat} {U:List Int} {l lots:List ax} {old:List Int} (h:Good k U l) (hl:IsLand (replaceL l old lots)) (hn:∀ u∈lots,∀ x∈u.from_,takenL l x=true) (h2:lots.length<=2):Good (k+1) (lots.map (·.id)++U) (replaceL l old lots):=by
 refine⟨hl,?_,ae8 h.used hn,?_⟩
 ·have:=Ym l old lots;have:=h.len;omega
 ·rw[length_append,length_map];have:=h.ulen;omega
theorem Good.mono {k:Nat} {U:List Int} {l:List ax} (h:Good k U l):Good (k+1) U l:=⟨h.land,by have:=h.len;omega,h.used,by have:=h.ulen;omega⟩
inductive Done (l:List ax) (o:GOp):Prop
 |err (h:(doL l o).2≠0) (h1:(doL l o).1=l)
 |add (h:(doL l o).2=0) (hk:o.kind=0) (h1:(doL l o).1=replaceL l [] [ax.mk o.id o.n (ofL o.area).1 []]) (h2:IsLand (doL l o).1) (h3:validL (ax.mk o.id o.n (ofL o.area).1 [])=true) (h4:takenL l o.id=false) (h5:∀ t∈l,ApartC t.area (ofL o.area).1)
 |did (h:(doL l o).2=0) (hk:o.kind≠0) (old:List Int) (lots:List ax) (ow:ax->Int) (h1:Did l (doL l o).1 old lots ow) (h2:∀ t∈l,t.id∈old->ow t=bif o.kind==3&&t.id==o.id then o.n else t.owner) (h3:o.kind=3->∀ t∈l,t.id=o.id->t.id∈old)
 |same (h:(doL l o).2=0) (hk:o.kind≠0) (hk3:o.kind≠3) (h1:(doL l o).1=l)
theorem QO {l:List ax} {r:List ax×Int} (h:r.2≠0):(doR l r).2≠0∧(doR l r).1=l:=by
 unfold doR;have:(r.2 != 0)=true:=by simp[h]
 rw[this];exact⟨h,rfl⟩
theorem Yp {l:List ax} {r:List ax×Int} (h:r.2=0):(doR l r).2=0∧(doR l r).1=r.1:=by
 unfold doR;have:(r.2 != 0)=false:=by simp[h]
 rw[this];exact⟨rfl,rfl⟩
theorem ah4 {l:List ax} (o:GOp) (h:IsLand l):Done l o:=by
 cases k0:o.kind==0 with
 |true=>
  have hk:o.kind=0:=by simpa using k0
  have e:doL l o=doR l (NV l (ax.mk o.id o.n (ofL o.area).1 [])):=by unfold doL;rw[k0];rfl
  by_cases h0:(NV l (ax.mk o.id o.n (ofL o.area).1 [])).2=0
  ·obtain⟨a1,a2⟩:=Yp (l:=l) h0;obtain⟨d1,d2,d3,d4,_,d6⟩:=ad9 h h0;rw[<- e]at a1 a2;exact .add a1 hk (a2.trans d1) (by rw[a2];exact d2) d3 d4 d6
  ·obtain⟨a1,a2⟩:=QO (l:=l) h0;exact .err (by rw[e];exact a1) (by rw[e];exact a2)
 |false=>
 have hk:o.kind≠0:=by simpa using k0
 cases k1:o.kind==1 with
 |true=>
  have hk1:o.kind=1:=by simpa using k1
  have e:doL l o=doR l (wI l o.id (ofL o.area).1 o.a o.b):=by unfold doL;rw[k0,k1];rfl
  by_cases h0:(wI l o.id (ofL o.area).1 o.a o.b).2=0
  ·obtain⟨a1,a2⟩:=Yp (l:=l) h0;obtain⟨T,I,O,_,_,_,_,d⟩:=WY h h0;rw[<- e]at a1 a2;rw[<- a2]at d;refine .did a1 hk _ _ _ d (fun t _ _=>?_) (fun h3=>by omega);have:(o.kind==3)=false:=(by simp;omega);rw[this];rfl
  ·obtain⟨a1,a2⟩:=QO (l:=l) h0;exact .err (by rw[e];exact a1) (by rw[e];exact a2)
 |false=>
 cases k2:o.kind==2 with
 |true=>
  have hk2:o.kind=2:=by simpa using k2
  have e:doL l o=doR l (joinL l o.ids o.id):=by unfold doL;rw[k0,k1,k2];rfl
  by_cases h0:(joinL l o.ids o.id).2=0
  ·obtain⟨a1,a2⟩:=Yp (l:=l) h0;obtain⟨Ts,area,_,_,_,_,_,_,d⟩:=aaE h h0;rw[<- e]at a1 a2;rw[<- a2]at d;refine .did a1 hk _ _ _ d (fun t _ _=>?_) (fun h3=>by omega);have:(o.kind==3)=false:=(by simp;omega);rw[this];rfl
  ·obtain⟨a1,a2⟩:=QO (l:=l) h0;exact .err (by rw[e];exact a1) (by rw[e];exact a2)
 |false=>
 cases k3:o.kind==3 with
 |true=>
  have e:doL l o=doR l (kU l o.id o.n):=by unfold doL;rw[k0,k1,k2,k3];rfl
  by_cases h0:(kU l o.id o.n).2=0
  ·obtain⟨a1,a2⟩:=Yp (l:=l) h0;obtain⟨T,_,d⟩:=MH h h0;rw[<- e]at a1 a2;rw[<- a2]at d;refine .did a1 hk _ _ _ d (fun t _ hi=>?_) (fun _ t _ hi=>by rw[hi];simp);have:(t.id==o.id)=true:=(by simpa using hi);rw[this,k3];rfl
  ·obtain⟨a1,a2⟩:=QO (l:=l) h0;exact .err (by rw[e];exact a1) (by rw[e];exact a2)
 |false=>
  have e:doL l o=(l,0):=by unfold doL;rw[k0,k1,k2,k3];rfl
  exact .same (by rw[e]) hk (by simpa using k3) (by rw[e])
theorem ah5 {k:Nat} {U:List Int} {l:List ax} (o:GOp) (h:Good k U l):∃ V,(∃ W,V=W++U)∧Good (k+1) V (doL l o).1:=by
 rcases ah4 o h.land with ⟨_,h1⟩ |⟨_,_,h1,h2,_,_,_⟩ |⟨_,_,old,lots,ow,h1,_,_⟩ |⟨_,_,_,h1⟩
 ·exact⟨U,⟨[],rfl⟩,by rw[h1];exact h.mono⟩
 ·have g:=h.step (lots:=[ax.mk o.id o.n (ofL o.area).1 []]) (old:=[]) (by rw[<- h1];exact h2) (fun u hu x hx=>by
   have:u=ax.mk o.id o.n (ofL o.area).1 []:=(by simpa using hu);rw[this]at hx;simp at hx) (by simp)
  exact⟨_,⟨_,rfl⟩,by rw[h1];exact g⟩
 ·have g:=h.step (lots:=lots) (old:=old) (by rw[<- h1.eq];exact h1.land) h1.nums h1.len;exact⟨_,⟨_,rfl⟩,by rw[h1.eq];exact g⟩
 ·exact⟨U,⟨[],rfl⟩,by rw[h1];exact h.mono⟩
theorem Yq {n:Nat} {l:List ax} (hl:l.length<=maxLen) (hn:l.length < n):∃ b,QJ n l=some b∧(b=true->l.length<=12∧∀ t∈l,t.area.length<=20∧t.from_.length<=30):=by
 have:=bX (l:=l) (step:=EI l) (fun i=>((i:Nat):Int)) (fun t:ax=>decide ((t.area.length:Int)>20) || decide ((t.from_.length:Int)>30)) () (fun _=>false) (fun i hi=>?_) (by simp[EI]) n hn
 ·rw[show ((0:Nat):Int)=0 from rfl]at this;unfold QJ;rw[this];rcases ji (fun t:ax=>decide ((t.area.length:Int)>20) || decide ((t.from_.length:Int)>30)) l with ⟨i,hi,h1,_⟩ |⟨h1,h2⟩
  ·rw[h1];exact⟨false,rfl,by simp⟩
  ·rw[h1];refine⟨_,rfl,fun h=>⟨?_,fun t ht=>?_⟩⟩
   ·have:=of_decide_eq_true h;omega
   ·have:=h2 t ht;simp only[Bool.or_eq_false_iff,decide_eq_false_iff_not]at this;omega
 ·have hi':decide (((i:Nat):Int) < (l.length:Int))=true:=by simpa using hi
  have hm:i < 9223372036854775807:=by simp only[maxLen]at hl;omega
  simp only[EI,hi',cond_true,aQ hi,bind_some];cases decide ((l[i].area.length:Int)>20)with
  |true=>rfl
  |false=>
   simp only[cond_false,Bool.false_or,bind_some];cases decide ((l[i].from_.length:Int)>30)with
   |true=>rfl
   |false=>simp only[cond_false];rw[aC hm]
theorem aaF {S:List aM} {t:List aj} (hS:j6 S) (ht:∀ r∈t,OkR r=true) (h1:∀ x,Can (gm S x)) (h2:∀ x y,inS (gm S x) y=cellsL t x y):aT S=aT (aG t):=by
 refine JJ hS (jI t) fun x=>?_;obtain⟨c1,c2⟩:=dS ht x;rw[kT];exact rU (h1 x) c1 fun y=>by rw[h2,c2]
theorem ae9 {l:List Int} (h:l.Pairwise (· ≠ ·)):Ko (fC ltI l)=true:=by
 rw[Du];have h1:=isort_sorted Mj l;have h2:(fC ltI l).Pairwise (· ≠ ·):=((EO ltI l).pairwise_iff (fun {a b} hab=>Ne.symm hab)).2 h;refine (h1.and h2).imp fun {x y} hxy=>?_;have:=hxy.1;have:=hxy.2;simp only[ltI,decide_eq_false_iff_not]at*;omega
theorem TK {out:List Int} (h:out.Pairwise (· < ·)) {i j:Nat} (hij:i < j) (hj:j < out.length):out[i]'(by omega) < out[j]:=
 (pairwise_iff_getElem.1 h) i j _ hj hij
theorem TL {out:List Int} (h:out.Pairwise (· < ·)) {k:Nat} (hk:k<=out.length) {x:Int} (h1:∀ j (hj:j < out.length),k<=j->x < out[j]) (h2:∀ h0:0 < k,out[k - 1]'(by omega) < x):
 (out.take k++x::out.drop k).Pairwise (· < ·):=by
 have low:∀ a∈out.take k,a < x:=by
  intro a ha;obtain⟨j,hj,rfl⟩:=List.getElem_of_mem ha;rw[length_take]at hj;rw[List.getElem_take];have h3:=h2 (by omega);by_cases e:j=k - 1
  ·subst e;exact h3
  ·have:=TK h (show j < k - 1 by omega) (by omega);omega
 have high:∀ b∈out.drop k,x < b:=by
  intro b hb;obtain⟨j,hj,rfl⟩:=List.getElem_of_mem hb;rw[length_drop]at hj;rw[getElem_drop];exact h1 _ (by omega) (by omega)
 rw[List.pairwise_append,pairwise_cons];refine⟨h.sublist (List.take_sublist _ _),⟨high,h.sublist (List.drop_sublist _ _)⟩,fun a ha b hb=>?_⟩;rcases mem_cons.1 hb with rfl |hb
 ·exact low a ha
 ·have:=low a ha;have:=high b hb;omega
theorem aea {α:Type} {out:List α} {k:Nat} {x z:α}:z∈out.take k++x::out.drop k↔z∈out∨z=x:=by
 conv=>rhs;rw[<- List.take_append_drop k out]
 simp only[mem_append,mem_cons];exact⟨fun h=>by rcases h with h |h |h<;>simp[h],fun h=>by rcases h with (h |h) |h<;>simp[h]⟩
theorem Bp {l out:List Int} {i:Nat} (hi:i < l.length) (ho:out.length < 1099511627776):∀ (m:Nat),m<=out.length->(∀ j (h:j < out.length),m<=j->l[i] < out[j])->∀ n,m < n->
 ∃ k,k<=m∧iter (kL l (i:Int) out) n (m:Int)=some (k:Int)∧(∀ j (h:j < out.length),k<=j->l[i] < out[j])∧(∀ h:0 < k,∀ h':k - 1 < out.length,out[k - 1]<=l[i])
 | 0,_,h,n,hn=>by
  obtain⟨k,rfl⟩:∃ k,n=k+1:=⟨n - 1,by omega⟩;exact⟨0,Nat.le_refl _,aS (by simp[kL]),h,fun h=>by omega⟩
 |m+1,hm,h,n,hn=>by
  obtain⟨k,rfl⟩:∃ k,n=k+1:=⟨n - 1,by omega⟩;have d:decide (((m+1:Nat):Int)>0)=true:=by simp<;>omega
  have wp:i64.wrap (((m+1:Nat):Int) - 1)=((m:Nat):Int):=by rw[dJ (by omega) (by omega)];rfl
  have ib:inb ((m:Nat):Int) out.length=true:=aZ (by omega);have step:kL l (i:Int) out (((m+1:Nat)):Int)=some (bif decide (out[m]'(by omega)>l[i])then .inl ((m:Nat):Int)else .inr (((m+1:Nat)):Int)):=by
   simp only[kL,d,cond_true,wp,ib,dD (show m < out.length by omega),aQ hi,bind_some];cases decide (out[m]'(by omega)>l[i])<;>rfl
  by_cases hg:out[m]'(by omega)>l[i]
  ·have stp:kL l (i:Int) out (((m+1:Nat)):Int)=some (.inl ((m:Nat):Int)):=(by rw[step];simp only[hg,decide_true,cond_true]);rw[bf stp];obtain⟨q,h1,h2,h3,h4⟩:=Bp hi ho m (by omega) (fun j hj hmj=>by
    by_cases e:j=m
    ·subst e;exact hg
    ·exact h j hj (by omega)) k (by omega)
   exact⟨q,by omega,h2,h3,h4⟩
  ·exact⟨m+1,Nat.le_refl _,aS (by rw[step];simp only[hg,decide_false,cond_false]),h,fun _ _=>by simpa using hg⟩
theorem Bq {out:List Int} {k:Nat} (hk:k<=out.length) (ho:out.length < 1099511627776) (r:List Int) (hr:r.length=out.length+1):∀ (m:Nat) (z:Int),k<=m->m<=out.length->∀ n,m - k < n->
 ∃ z',iter (kM (k:Int) r) n ((m:Int),out.take m++z::out.drop m)=some (out.take k++z'::out.drop k)
 | 0,z,h1,_,n,hn=>by
  obtain⟨j,rfl⟩:∃ k,n=k+1:=⟨n - 1,by omega⟩;have:k=0:=by omega
  subst this;exact⟨z,aS (by simp[kM])⟩
 |m+1,z,h1,h2,n,hn=>by
  obtain⟨j,rfl⟩:∃ k,n=k+1:=⟨n - 1,by omega⟩;by_cases e:k=m+1
  ·subst e;exact⟨z,aS (by simp[kM])⟩
  ·have d:decide (((m+1:Nat):Int)>(k:Int))=true:=(by simp;omega);have wp:i64.wrap (((m+1:Nat):Int) - 1)=((m:Nat):Int):=(by rw[dJ (by omega) (by omega)];rfl);have ib:inb ((m:Nat):Int) r.length=true:=aZ (by omega);have ib2:inb ((m+1:Nat):Int) r.length=true:=aZ (by omega);have lt:(out.take (m+1)).length=m+1:=(by rw[length_take];omega);have g1:at? (out.take (m+1)++z::out.drop (m+1)) (((0:Nat):Int)+((m:Nat):Int))=some (out[m]'(by omega)):=(by rw[dR,List.getElem?_append_left (by omega),List.getElem?_take,if_pos (by omega),List.getElem?_eq_getElem (by omega)]);have g2:at? (out.take (m+1)++z::out.drop (m+1)) (((0:Nat):Int)+((m+1:Nat):Int))=some z:=(by rw[dR,List.getElem?_append_right (by omega),lt];simp);have e2:(((0:Nat):Int)+((m+1:Nat):Int)).toNat=m+1:=(by simp);have st:(out.take (m+1)++z::out.drop (m+1)).set (m+1) (out[m]'(by omega))=out.take m++(out[m]'(by omega))::out.drop m:=by
    rw[set_append_right _ _ (by omega),lt];simp only[Nat.sub_self,List.set_cons_zero];rw[take_succ_eq_append_getElem (by omega),append_assoc,drop_eq_getElem_cons (show m < out.length by omega)];rfl
   have step:kM (k:Int) r (((m+1:Nat):Int),out.take (m+1)++z::out.drop (m+1))=some (.inl (((m:Nat):Int),out.take m++(out[m]'(by omega))::out.drop m)):=(by simp only[kM,d,cond_true,wp,ib,ib2,g1,g2,bind_some,e2,st]);rw[bf step];exact Bq hk ho r hr m _ (by omega) (by omega) j (by omega)
theorem Vm {n:Nat} {l:List Int} (hl:l.length < 10995116277) (hn:l.length+1 < n):EK n l=some (kV l):=by
 unfold EK;have lenS:∀ m:List Int,(kV m).length<=m.length:=fun m=>by
  have:=kF (fC (fun a b=>decide (a < b)) m);rw[bD]at this;exact this
 have key:iter (nL n l) n ((0:Int),([]:List Int))=some (kV l):=by
  have:=dm (step:=nL n l) (fun i=>(((i:Nat):Int),kV (l.take i))) l.length (kV l) (fun i hi=>?_) ?_ n (by omega)
  ·simpa[kV,fC,dN]using this
  ·have hi':decide (((i:Nat):Int) < (l.length:Int))=true:=(by simpa using hi);have hs:=iT (l.take i);have hm:∀ z,z∈kV (l.take i)↔z∈l.take i:=uE _;have ho:=lenS (l.take i);rw[length_take]at ho;generalize kV (l.take i)=out at hs hm ho;have uq:∀ m:List Int,m.Pairwise (· < ·)->(∀ z,z∈m↔z∈out∨z=l[i])->m=kV (l.take (i+1)):=by
    intro m h1 h2;refine GH h1 fun z=>?_;rw[h2,hm,take_succ_eq_append_getElem hi,mem_append,mem_singleton]
   obtain⟨k,k1,k2,k3,k4⟩:=Bp hi (out:=out) (by omega) out.length (Nat.le_refl _) (fun j h1 h2=>by omega) n (by omega);simp only[nL,hi',cond_true,k2,bind_some];have wk:∀ h0:0 < k,i64.wrap ((k:Int) - 1)=((k - 1:Nat):Int):=fun h0=>dJ h0 (by omega);have test:((bif (decide ((k:Int)>(0:Int)))then bif inb (i64.wrap ((k:Int) - 1)) out.length then (at? out ((0:Nat)+(i64.wrap ((k:Int) - 1)):Int)).bind fun x3=>(some l[i]:Option Int).bind fun x4=>some (x3==(x4:Int))else none else some false):Option (Bool))=some (if h0:0 < k then decide (out[k - 1]'(by omega)=l[i])else false):=by
    by_cases h0:0 < k
    ·have d:decide ((k:Int)>0)=true:=(by simp;omega);rw[d,wk h0];simp only[cond_true,aZ (show k - 1 < out.length by omega),dD (show k - 1 < out.length by omega),bind_some,h0,dite_true];rfl
    ·have d:decide ((k:Int)>0)=false:=(by simp;omega);simp only[d,cond_false,h0,dite_false]
   simp only[aQ hi];rw[test];simp only[bind_some];by_cases hx:∃ h0:0 < k,out[k - 1]'(by omega)=l[i]
   ·obtain⟨h0,hx⟩:=hx;simp only[h0,dite_true,hx,decide_true,cond_true,aA,bind_some];rw[aC (by omega),<- uq out hs (fun z=>⟨fun h=> .inl h,fun h=>by
     rcases h with h |rfl
     ·exact h
     ·rw[<- hx];exact getElem_mem _⟩)]
   ·have f:(if h0:0 < k then decide (out[k - 1]'(by omega)=l[i])else false)=false:=by
     split
     ·rename_i h0;simp only[decide_eq_false_iff_not];exact fun e=>hx ⟨h0,e⟩
     ·rfl
    rw[f];have ap:aX out.length out.length (sub ([0]:List Int) 0 1).length 1 8=true:=aU (n:=1) (by omega) (by simp only[maxLen];omega);have s1:out++(sub ([0]:List Int) 0 1)=out++[0]:=rfl;have lr:(out++([0]:List Int)).length=out.length+1:=(by simp);have wl:i64.wrap (((out.length+1:Nat):Int) - 1)=((out.length:Nat):Int):=(by rw[dJ (by omega) (by omega)];rfl);obtain⟨z,hz⟩:=Bq (k:=k) k1 (by omega) (out++[0]) lr out.length 0 k1 (Nat.le_refl _) n (by omega);rw[List.take_length,List.drop_length]at hz;have lt:(out.take k).length=k:=(by rw[length_take];omega);have g1:at? (out.take k++z::out.drop k) (((0:Nat):Int)+((k:Nat):Int))=some z:=(by rw[dR,List.getElem?_append_right (by omega),lt];simp);have e2:(((0:Nat):Int)+((k:Nat):Int)).toNat=k:=(by simp);have st:(out.take k++z::out.drop k).set k l[i]=out.take k++l[i]::out.drop k:=(by rw[set_append_right _ _ (by omega),lt];simp);have le:(out.take k++l[i]::out.drop k).length=out.length+1:=(by rw[length_append,length_cons,length_take,length_drop];omega);simp only[cond_false,ap,cond_true,bG,s1,lr,wl,hz,bind_some,aZ (show k < out.length+1 by omega),g1,e2,st,le,aA];rw[aC (by omega),<- uq (out.take k++l[i]::out.drop k) (TL hs k1 k3 (fun h0=>by
     have h5:=k4 h0 (by omega);by_cases e:out[k - 1]'(by omega)=l[i]
     ·exact absurd ⟨h0,e⟩ hx
     ·omega)) (fun z=>aea)]
  ·have d:decide (((l.length:Nat):Int) < (l.length:Int))=false:=(by simp);simp only[nL,d,cond_false,List.take_length,aA,cond_true]
 rw[key];simp only[length_nil,aA,cond_true,bind_some,aV]
theorem Od {n:Nat} {l:List aj} (hl:l.length < 10995116277) (hn:l.length < n):iter (qg l) n ((0:Int),([]:List Int))=some (l.flatMap fun r=>[r.x0,r.x1]):=by
 have:=dO (l:=l) (step:=qg l) (fun i (s:List Int)=>((i:Int),s)) (fun r s=>s++[r.x0,r.x1]) (fun s=>s) (fun i s=>s.length<=2*i)
  (fun i hi s hs=>?_) (fun s hs=>by simp[qg]) n hn [] (Nat.le_refl _)
 ·rw[show ((0:Nat):Int)=0 from rfl]at this;rw[this];have gen:∀ (ys:List aj) (s:List Int),ys.foldl (fun s r=>s++[r.x0,r.x1]) s=s++ys.flatMap fun r=>[r.x0,r.x1]:=by
   intro ys
   induction ys with
   |nil=>intro s;simp
   |cons y ys ih=>intro s;simp[ih]
  congr 1;simpa using gen l []
 ·have hi':decide (((i:Nat):Int) < ((l.length:Nat):Int))=true:=by simpa using hi
  have ap:aX s.length s.length (sub ([l[i].x0,l[i].x1]:List Int) 0 2).length 2 8=true:=aU (n:=2) (by omega) (by simp only[maxLen];omega);simp only[qg,hi',cond_true,aQ hi,bind_some,ap,bG,aA];refine⟨?_,by simp;omega⟩;rw[aC (by omega)];rfl
def bg (c:List aD):List Int:=c.flatMap fun q=>[q.from_,q.to]
theorem gY (l:List aD):(bg l).length=2*l.length:=by
 induction l with
 |nil=>rfl
 |cons x l ih=>simp only[bg,List.flatMap_cons,length_append,length_cons,length_nil]at *;omega
theorem EY (a b:List aD):bg (a++b)=bg a++bg b:=by simp[bg]
theorem WZ:∀ {a b:List aD},bg a=bg b->a=b
 |[],[],_=>rfl
 |[],y::b,h=>by simp[bg]at h
 |x::a,[],h=>by simp[bg]at h
 |⟨x1,x2⟩::a,⟨y1,y2⟩::b,h=>by
  simp only[bg,List.flatMap_cons,cons_append,nil_append,List.cons.injEq]at h;obtain⟨rfl,rfl,h⟩:=h;rw[WZ (a:=a) (b:=b) h]
theorem MI (x:aD):∀ ys:List aD,∃ k,k<=ys.length∧(fe ltS x ys).reverse=ys.reverse.take k++x::ys.reverse.drop k∧(∀ j (h:j < ys.reverse.length),k<=j->x.from_ < (ys.reverse[j]).from_)∧(∀ h:0 < k,∀ h':k - 1 < ys.reverse.length,¬ x.from_ < (ys.reverse[k - 1]).from_)
 |[]=>⟨0,Nat.le_refl _,by simp[fe],fun j h=>by simp at h,fun h=>by omega⟩
 |y::ys=>by
  by_cases hxy:x.from_ < y.from_
  ·have hb:ltS x y=true:=(by simp[ltS,hxy]);obtain⟨k,h1,h2,h3,h4⟩:=MI x ys;have hlr:ys.reverse.length=ys.length:=(by simp);refine⟨k,by simp;omega,?_,fun j hj hkj=>?_,fun h0 hk=>?_⟩
   ·simp only[fe,hb,cond_true,List.reverse_cons,h2];rw[List.take_append_of_le_length (by omega),List.drop_append_of_le_length (by omega),append_assoc];rfl
   ·simp only[List.reverse_cons]at hj ⊢;by_cases e:j < ys.reverse.length
    ·rw[List.getElem_append_left e];exact h3 j e hkj
    ·have:j=ys.reverse.length:=(by rw[length_append]at hj;simp only[length_singleton]at hj;omega);subst this;simp[hxy]
   ·simp only[List.reverse_cons];rw[List.getElem_append_left (by omega)];exact h4 h0 (by omega)
  ·have hb:ltS x y=false:=(by simp[ltS,hxy]);refine⟨ys.length+1,by simp,?_,fun j hj hkj=>?_,fun h0 hk=>?_⟩
   ·simp only[fe,hb,cond_false];rw[take_of_length_le (by simp),drop_of_length_le (by simp)];simp
   ·simp at hj;omega
   ·simp[hxy]
theorem Br {l:List aj} {i:Nat} (hi:i < l.length) {F T:List Int} (hT:T.length=F.length) (ho:F.length < 1099511627776) {k:Nat} (hk:k<=F.length)
 (h1:∀ j (h:j < F.length),k<=j->l[i].y0 < F[j]) (h2:∀ h:0 < k,¬ l[i].y0 < F[k - 1]'(by omega)) (r1 r2:List Int) (hr1:r1.length=F.length+1) (hr2:r2.length=F.length+1):
 ∀ (m:Nat) (z z':Int),k<=m->m<=F.length->∀ n,m - k < n->
 ∃ y y',iter (jq l (i:Int) r1 r2) n ((m:Int),F.take m++z::F.drop m,T.take m++z'::T.drop m)=some ((k:Int),F.take k++y::F.drop k,T.take k++y'::T.drop k)
 | 0,z,z',g1,_,n,hn=>by
  obtain⟨j,rfl⟩:∃ k,n=k+1:=⟨n - 1,by omega⟩;have:k=0:=by omega
  subst this;exact⟨z,z',aS (by simp[jq])⟩
 |m+1,z,z',g1,g2,n,hn=>by
  obtain⟨j,rfl⟩:∃ k,n=k+1:=⟨n - 1,by omega⟩;have d:decide (((m+1:Nat):Int)>0)=true:=by simp<;>omega
  have wp:i64.wrap (((m+1:Nat):Int) - 1)=((m:Nat):Int):=by rw[dJ (by omega) (by omega)];rfl
  have ib1:inb ((m:Nat):Int) r1.length=true:=aZ (by omega);have ib1':inb ((m+1:Nat):Int) r1.length=true:=aZ (by omega);have ib2:inb ((m:Nat):Int) r2.length=true:=aZ (by omega);have ib2':inb ((m+1:Nat):Int) r2.length=true:=aZ (by omega)
  have gen:∀ (A:List Int) (hA:A.length=F.length) (z:Int),at? (A.take (m+1)++z::A.drop (m+1)) (((0:Nat):Int)+((m:Nat):Int))=some (A[m]'(by omega))∧at? (A.take (m+1)++z::A.drop (m+1)) (((0:Nat):Int)+((m+1:Nat):Int))=some z∧
   (A.take (m+1)++z::A.drop (m+1)).set (m+1) (A[m]'(by omega))=A.take m++(A[m]'(by omega))::A.drop m:=by
   intro A hA z;have lt:(A.take (m+1)).length=m+1:=(by rw[length_take];omega);refine⟨?_,?_,?_⟩
   ·rw[dR,List.getElem?_append_left (by omega),List.getElem?_take,if_pos (by omega),List.getElem?_eq_getElem (by omega)]
   ·rw[dR,List.getElem?_append_right (by omega),lt];simp
   ·rw[set_append_right _ _ (by omega),lt];simp only[Nat.sub_self,List.set_cons_zero];rw[take_succ_eq_append_getElem (by omega),append_assoc,drop_eq_getElem_cons (show m < A.length by omega)];rfl
  obtain⟨a1,a2,a3⟩:=gen F rfl z;obtain⟨b1,b2,b3⟩:=gen T hT z';have e2:(((0:Nat):Int)+((m+1:Nat):Int)).toNat=m+1:=by simp
  by_cases e:k=m+1
  ·subst e;have hno:decide (F[m]'(by omega)>l[i].y0)=false:=(by simpa using h2 (by omega));refine⟨z,z',aS ?_⟩;simp only[jq,d,cond_true,wp,ib1,a1,aQ hi,bind_some,hno,cond_false]
  ·have hyes:decide (F[m]'(by omega)>l[i].y0)=true:=(by simpa using h1 m (by omega) (by omega));have step:jq l (i:Int) r1 r2 (((m+1:Nat):Int),F.take (m+1)++z::F.drop (m+1),T.take (m+1)++z'::T.drop (m+1))=some (.inl (((m:Nat):Int),F.take m++(F[m]'(by omega))::F.drop m,T.take m++(T[m]'(by omega))::T.drop m)):=(by simp only[jq,d,cond_true,wp,ib1,a1,aQ hi,bind_some,hyes,ib1',a2,ib2,b1,ib2',b2,e2,a3,b3]);rw[bf step];exact Br hi hT ho hk h1 h2 r1 r2 hr1 hr2 m _ _ (by omega) (by omega) j (by omega)
def ko (l:List aj) (x:Int):List aD:=(bE l x).foldl (fun rs s=>fe ltS s rs) []
theorem TM (l:List aj) (x:Int):(ko l x).length<=l.length:=by
 have h:=bD (lt:=ltS) (bE l x);have h2:=qp l x;have:(fC ltS (bE l x)).length=(ko l x).length:=by unfold fC ko;rw[List.length_reverse]
 omega
theorem aaG (l:List aj) (r:aj) (x:Int):ko (l++[r]) x=if r.x0<=x∧x < r.x1 then fe ltS ⟨r.y0,r.y1⟩ (ko l x)else ko l x:=by
 unfold ko bE;rw[filter_append,map_append,List.foldl_append];by_cases h:r.x0<=x∧x < r.x1
 ·simp[h]
 ·have hf:(decide (r.x0<=x)&&decide (x < r.x1))=false:=by simpa using h
  simp[List.filter_cons,hf,h]
theorem MJ {n:Nat} {l:List aj} {x:Int} (hl:l.length < 1099511627) (hn:l.length < n):
 iter (nM n l x) n ((0:Int),([]:List Int),([]:List Int))=some ((ko l x).reverse.map (·.from_),(ko l x).reverse.map (·.to)):=by
 have:=dm (step:=nM n l x) (fun i=>(((i:Nat):Int),(ko (l.take i) x).reverse.map (·.from_),(ko (l.take i) x).reverse.map (·.to))) l.length ((ko l x).reverse.map (·.from_),(ko l x).reverse.map (·.to)) (fun i hi=>?_) ?_ n (by omega)
 ·simpa[ko,bE]using this
 ·have hi':decide (((i:Nat):Int) < (l.length:Int))=true:=by simpa using hi
  have ht:l.take (i+1)=l.take i++[l[i]]:=take_succ_eq_append_getElem hi;have sn:=aaG (l.take i) l[i] x;rw[ht,sn];have hlen:=TM (l.take i) x;rw[length_take]at hlen;obtain⟨k,p1,p2,p3,p4⟩:=MI ⟨l[i].y0,l[i].y1⟩ (ko (l.take i) x);generalize ko (l.take i) x=rs at*;have e:((bif (decide (l[i].x0>(x:Int)))then some true else some (decide (l[i].x1<=(x:Int)))):Option Bool)=some (!decide (l[i].x0<=x∧x < l[i].x1)):=by
   rw[aiY];congr 1;by_cases h1:l[i].x0<=x<;>by_cases h2:x < l[i].x1<;>simp[h1,h2]<;>omega
  simp only[nM,hi',cond_true,aQ hi,bind_some,e];by_cases hc:l[i].x0<=x∧x < l[i].x1
  ·simp only[hc,and_self,decide_true,Bool.not_true,cond_false,if_true];have lF:(rs.reverse.map (·.from_)).length=rs.length:=(by simp);have lT:(rs.reverse.map (·.to)).length=rs.length:=(by simp);have lR:rs.reverse.length=rs.length:=(by simp)
   have q:=Br (l:=l) hi (F:=rs.reverse.map (·.from_)) (T:=rs.reverse.map (·.to)) (by simp) (by omega) (k:=k) (by omega)
    (fun j hj hkj=>by rw[List.getElem_map];exact p3 j (by omega) hkj) (fun h0=>by rw[List.getElem_map];exact p4 h0 (by omega)) (rs.reverse.map (·.from_)++[0]) (rs.reverse.map (·.to)++[0]) (by simp) (by simp) rs.length 0 0 p1 (by omega) n (by omega)
   have tF:(rs.reverse.map (·.from_)).take rs.length=rs.reverse.map (·.from_):=take_of_length_le (by simp);have dF:(rs.reverse.map (·.from_)).drop rs.length=[]:=drop_of_length_le (by simp);have tT:(rs.reverse.map (·.to)).take rs.length=rs.reverse.map (·.to):=take_of_length_le (by simp);have dT:(rs.reverse.map (·.to)).drop rs.length=[]:=drop_of_length_le (by simp);rw[tF,dF,tT,dT]at q;obtain⟨y,y',q⟩:=q;have hF:((fe ltS ⟨l[i].y0,l[i].y1⟩ rs).reverse).map (·.from_)=(rs.reverse.map (·.from_)).take k++l[i].y0::(rs.reverse.map (·.from_)).drop k:=(by rw[p2];simp[map_take,map_drop]);have hT':((fe ltS ⟨l[i].y0,l[i].y1⟩ rs).reverse).map (·.to)=(rs.reverse.map (·.to)).take k++l[i].y1::(rs.reverse.map (·.to)).drop k:=(by rw[p2];simp[map_take,map_drop]);rw[hF,hT'];generalize hFd:rs.reverse.map (·.from_)=F at*;generalize hTd:rs.reverse.map (·.to)=T at*;have ap1:aX F.length F.length (sub ([0]:List Int) 0 1).length 1 8=true:=aU (n:=1) (by omega) (by simp only[maxLen];omega);have ap2:aX T.length T.length (sub ([0]:List Int) 0 1).length 1 8=true:=aU (n:=1) (by omega) (by simp only[maxLen];omega);have s1:∀ A:List Int,A++(sub ([0]:List Int) 0 1)=A++[0]:=fun _=>rfl;have gen:∀ (A:List Int) (hA:A.length=rs.length) (z v:Int),at? (A.take k++z::A.drop k) (((0:Nat):Int)+((k:Nat):Int))=some z∧(A.take k++z::A.drop k).set k v=A.take k++v::A.drop k∧(A.take k++v::A.drop k).length=rs.length+1:=by
    intro A hA z v;have lt:(A.take k).length=k:=(by rw[length_take];omega);refine⟨?_,?_,?_⟩
    ·rw[dR,List.getElem?_append_right (by omega),lt];simp
    ·rw[set_append_right _ _ (by omega),lt];simp
    ·rw[length_append,length_cons,length_drop];omega
   obtain⟨a1,a2,a3⟩:=gen F (by omega) y l[i].y0;obtain⟨b1,b2,b3⟩:=gen T (by omega) y' l[i].y1;have e2:(((0:Nat):Int)+((k:Nat):Int)).toNat=k:=(by simp);have lr1:(F++([0]:List Int)).length=rs.length+1:=(by simp;omega);have lr2:(T++([0]:List Int)).length=rs.length+1:=(by simp;omega);have q':iter (jq l (i:Int) (F++[0]) (T++[0])) n ((F.length:Int),F++[0],T++[0])=some ((k:Int),F.take k++y::F.drop k,T.take k++y'::T.drop k):=(by rw[lF];exact q);simp only[ap1,cond_true,bG,s1,ap2,q',bind_some,lr1,lr2,aZ (show k < rs.length+1 by omega),a1,b1,e2,a2,b2,a3,b3,aA];rw[aC (by omega)]
  ·have hcf:decide (l[i].x0<=x∧x < l[i].x1)=false:=(by simpa using hc);rw[if_neg hc];simp only[hcf,Bool.not_false,cond_true,aA,bind_some];rw[aC (by omega)]
 ·have d:decide (((l.length:Nat):Int) < (l.length:Int))=false:=by simp
  simp only[nM,d,cond_false,List.take_length,aA,cond_true]
theorem MK {n:Nat} {c:List aD} (hc:c.length < 1099511627) (hn:c.length < n):
 iter (nN (c.map (·.from_)) (c.map (·.to))) n ((0:Int),([]:List Int))=some (bg (c.foldl mrg [])):=by
 have:=dO (l:=c) (step:=nN (c.map (·.from_)) (c.map (·.to))) (fun i (s:List aD)=>(((i:Nat):Int),bg s)) (fun q s=>mrg s q) (fun s=>bg s) (fun i s=>s.length<=i)
  (fun i hi s hs=>?_) (fun s hs=>by simp[nN]) n hn [] (Nat.le_refl _)
 ·rw[show ((0:Nat):Int)=0 from rfl]at this;exact this
 ·refine⟨?_,by have:=EP s c[i];omega⟩;have lF:(c.map (·.from_)).length=c.length:=by simp
  have lT:(c.map (·.to)).length=c.length:=by simp
  have hi':decide (((i:Nat):Int) < (((c.map (·.from_)).length:Nat):Int))=true:=by rw[lF];simpa using hi
  have ibF:inb ((i:Nat):Int) (c.map (·.from_)).length=true:=aZ (by omega);have ibT:inb ((i:Nat):Int) (c.map (·.to)).length=true:=aZ (by omega);have gF:at? (c.map (·.from_)) (((0:Nat):Int)+((i:Nat):Int))=some c[i].from_:=by rw[dR];simp[hi]
  have gT:at? (c.map (·.to)) (((0:Nat):Int)+((i:Nat):Int))=some c[i].to:=by rw[dR];simp[hi]
  have sl:=gY s;have ap:aX (bg s).length (bg s).length (sub ([c[i].from_,c[i].to]:List Int) 0 2).length 2 8=true:=aU (n:=2) (by omega) (by simp only[maxLen];omega);have sb:(sub ([c[i].from_,c[i].to]:List Int) 0 2)=[c[i].from_,c[i].to]:=rfl;rw[sb]at ap;have fl:bg s++[c[i].from_,c[i].to]=bg (s++[c[i]]):=by rw[EY];rfl
  simp only[nN,hi',cond_true,ibF,gF,bind_some];rcases List.eq_nil_or_concat s with rfl |⟨s0,q,hsq⟩
  ·have d0:decide ((((bg []).length:Nat):Int)>0)=false:=(by simp[bg]);simp only[d0,cond_false,bind_some,ibT,gT,cond_true,ap,bG,sb,fl,aA];rw[aC (by omega)];rfl
  ·rw[List.concat_eq_append]at hsq;subst hsq;have f1:bg (s0++[q])=bg s0++[q.from_,q.to]:=(by rw[EY];rfl);have lenq:(bg (s0++[q])).length=(bg s0).length+2:=(by rw[f1];simp);have d0:decide ((((bg (s0++[q])).length:Nat):Int)>0)=true:=(by rw[lenq];simp<;>omega);have wp:i64.wrap ((((bg (s0++[q])).length:Nat):Int) - 1)=(((bg s0).length+1:Nat):Int):=(by rw[dJ (by omega) (by omega),lenq];rfl);have ib2:inb (((bg s0).length+1:Nat):Int) (bg (s0++[q])).length=true:=aZ (by omega);have g:at? (bg (s0++[q])) (((0:Nat):Int)+(((bg s0).length+1:Nat):Int))=some q.to:=(by rw[dR,f1,List.getElem?_append_right (by omega)];simp);have z:(((0:Nat):Int)+(((bg s0).length+1:Nat):Int)).toNat=(bg s0).length+1:=(by simp);have st:(bg (s0++[q])).set ((bg s0).length+1) (max q.to c[i].to)=bg (s0++[⟨q.from_,max q.to c[i].to⟩]):=by
    rw[f1,EY,set_append_right _ _ (by omega)];simp[bg]
   have m:mrg (s0++[q]) c[i]=bif decide (c[i].from_<=q.to)then s0++[⟨q.from_,max q.to c[i].to⟩]else s0++[q]++[c[i]]:=(by simp[mrg]);have le:(bg (s0++[(⟨q.from_,max q.to c[i].to⟩:aD)])).length=(bg (s0++[q])).length:=(by rw[gY,gY];simp);simp only[d0,cond_true,wp,ib2,g,bind_some,m];cases decide (c[i].from_<=q.to)with
   |true=>
    simp only[cond_true,ibT,gT,z,st,bind_some,le,aA];rw[aC (by omega)]
   |false=>
    simp only[cond_false,ibT,gT,cond_true,ap,bG,sb,fl,aA,bind_some];rw[aC (by omega)]
theorem JO {n:Nat} {l:List aj} {x:Int} (hl:l.length < 1099511627) (hn:l.length < n):oD n l x=some (bg (aO l x)):=by
 have h:=TM l x;have hr:(ko l x).reverse.length=(ko l x).length:=by simp
 unfold oD;simp only[length_nil,aA,cond_true,MJ hl hn,bind_some];rw[MK (n:=n) (c:=(ko l x).reverse) (by omega) (by omega)];simp only[bind_some,aV,aA,cond_true];rfl
theorem aaH {n:Nat} {a b:List Int} (ha:a.length < 1099511627) (hn:a.length < n):Hf n a b=some (decide (a=b)):=by
 unfold Hf;by_cases hl:a.length=b.length
 ·have e:((a.length:Int) != (b.length:Int))=false:=by simp[hl]
  rw[e];simp only[cond_false];have eq:∀ m:Nat,m<=a.length->(∀ j (h:j < m) (h1:j < a.length) (h2:j < b.length),a[j]=b[j])->∀ k,a.length - m < k->iter (oQ a b) k (m:Int)=some (if a=b then .inl ()else .inr false):=by
   intro m
   induction hm:a.length - m generalizing m with
   |zero=>
    intro h1 h2 k hk;obtain⟨k,rfl⟩:∃ j,k=j+1:=⟨k - 1,by omega⟩;have:m=a.length:=(by omega);subst this;have:a=b:=List.ext_getElem hl fun i h1 h2'=>h2 i h1 h1 h2';refine aS ?_;simp[oQ,this]
   |succ d ih=>
    intro h1 h2 k hk;obtain⟨k,rfl⟩:∃ j,k=j+1:=⟨k - 1,by omega⟩;have hma:m < a.length:=(by omega);have hmb:m < b.length:=(by omega);have d':decide (((m:Nat):Int) < (a.length:Int))=true:=(by simpa using hma);by_cases hab:a[m]=b[m]
    ·have stp:oQ a b (m:Int)=some (.inl (((m+1:Nat)):Int)):=by
      simp only[oQ,d',cond_true,aQ hma,aQ hmb,bind_some,hab,bne_self_eq_false,cond_false];rw[aC (by omega)]
     rw[bf stp];refine ih (m+1) (by omega) (by omega) (fun j hj h3 h4=>?_) k (by omega);by_cases e:j=m
     ·subst e;exact hab
     ·exact h2 j (by omega) h3 h4
    ·have:¬ a=b:=fun e=>hab (by simp only[e]);refine aS ?_;have ne:(a[m] != b[m])=true:=(by simp[hab]);simp only[oQ,d',cond_true,aQ hma,aQ hmb,bind_some,ne,this,if_false];rfl
  have:=eq 0 (by omega) (fun j h=>by omega) n (by omega);rw[show ((0:Nat):Int)=0 from rfl]at this;rw[this];by_cases hab:a=b<;>simp[hab,bI]
 ·have e:((a.length:Int) != (b.length:Int))=true:=by simp;omega
  have:¬ a=b:=fun e=>hl (by rw[e]);simp[e,this]
theorem Qd {n:Nat} {E:List Int} {i:Nat} (hi:i+1 < E.length) (hE:E.length < 1099511627) (done:List aj) (w:List aD) (x0 x1:Int) (hd:done.length+w.length < 1099511627) (hn:w.length < n):
 iter (uX E (i:Int) (done++aF x0 x1 w)) n ((done.length:Int),done++aF x0 x1 w)=some (done++aF x0 E[i+1] w):=by
 have lr:∀ y,(aF x0 y w).length=w.length:=fun y=>by simp[aF]
 have:=dm (step:=uX E (i:Int) (done++aF x0 x1 w)) (fun j=>(((done.length+j:Nat):Int),done++((aF x0 E[i+1] w).take j++(aF x0 x1 w).drop j))) w.length (done++aF x0 E[i+1] w) (fun j hj=>?_) ?_ n hn
 ·simpa using this
 ·have hlen:(done++aF x0 x1 w).length=done.length+w.length:=by rw[length_append,lr]
  have d:decide (((done.length+j:Nat):Int) < (((done++aF x0 x1 w).length:Nat):Int))=true:=by rw[hlen];simp;omega
  have w1:i64.wrap ((i:Int)+1)=(((i+1:Nat)):Int):=aC (by omega);have w2:i64.wrap (((done.length+j:Nat):Int)+1)=(((done.length+j+1:Nat)):Int):=aC (by omega);have ib:inb ((done.length+j:Nat):Int) (done++aF x0 x1 w).length=true:=aZ (by omega);have lt:((aF x0 E[i+1] w).take j).length=j:=by rw[length_take,lr];omega
  have hjr:j < (aF x0 x1 w).length:=by rw[lr];exact hj
  have dr:(aF x0 x1 w).drop j=(⟨x0,w[j].from_,x1,w[j].to⟩:aj)::(aF x0 x1 w).drop (j+1):=by
   rw[drop_eq_getElem_cons hjr];congr 1;simp[aF]
  have g:at? (done++((aF x0 E[i+1] w).take j++(aF x0 x1 w).drop j)) (((0:Nat):Int)+((done.length+j:Nat):Int))=some ⟨x0,w[j].from_,x1,w[j].to⟩:=by
   rw[dR,List.getElem?_append_right (by omega),List.getElem?_append_right (by omega),lt,dr];simp
  have e2:(((0:Nat):Int)+((done.length+j:Nat):Int)).toNat=done.length+j:=by simp;omega
  have st:(done++((aF x0 E[i+1] w).take j++(aF x0 x1 w).drop j)).set (done.length+j) (aj.mk x0 w[j].from_ E[i+1] w[j].to)=done++((aF x0 E[i+1] w).take (j+1)++(aF x0 x1 w).drop (j+1)):=by
   rw[set_append_right _ _ (by omega),set_append_right _ _ (by omega),lt,dr];rw[take_succ_eq_append_getElem (by rw[lr];exact hj)];have:done.length+j - done.length - j=0:=(by omega);rw[this];simp[aF]
  simp only[uX,d,cond_true,w1,aZ hi,dD hi,bind_some,ib,g,e2,st,w2];rfl
 ·have hlen:(done++aF x0 x1 w).length=done.length+w.length:=by rw[length_append,lr]
  have d:decide (((done.length+w.length:Nat):Int) < (((done++aF x0 x1 w).length:Nat):Int))=false:=by rw[hlen];simp
  simp only[uX,d,cond_false];rw[take_of_length_le (by rw[lr];exact Nat.le_refl _),drop_of_length_le (by rw[lr];exact Nat.le_refl _),append_nil]
theorem Qe {n:Nat} {E:List Int} {i:Nat} (hi:i+1 < E.length) (hE:E.length < 1099511627) (out:List aj) (w:List aD) (hd:out.length+w.length < 1099511627) (hn:w.length < n):
 iter (uY E (i:Int) (bg w)) n ((0:Int),out)=some (out++aF (E[i]'(by omega)) E[i+1] w):=by
 have lr:(aF (E[i]'(by omega)) E[i+1] w).length=w.length:=by simp[aF]
 have fl:=gY w;have getf:∀ j (hj:j < w.length),(bg w)[2*j]? =some w[j].from_∧(bg w)[2*j+1]? =some w[j].to:=by
  intro j;clear hd hn lr fl
  induction w generalizing j with
  |nil=>intro hj;simp at hj
  |cons q w ih=>
   intro hj;have fc:bg (q::w)=q.from_::q.to::bg w:=(by simp[bg]);rw[fc];cases j with
   |zero=>simp
   |succ j=>
    have:=ih j (by simpa using hj);rw[show 2*(j+1)=2*j+1+1 by omega];simpa using this
 have:=dm (step:=uY E (i:Int) (bg w)) (fun j=>(((2*j:Nat):Int),out++(aF (E[i]'(by omega)) E[i+1] w).take j)) w.length (out++aF (E[i]'(by omega)) E[i+1] w) (fun j hj=>?_) ?_ n hn
 ·simpa using this
 ·have w1:i64.wrap ((i:Int)+1)=(((i+1:Nat)):Int):=aC (by omega);have w2:i64.wrap (((2*j:Nat):Int)+1)=(((2*j+1:Nat)):Int):=aC (by omega);have w3:i64.wrap (((2*j:Nat):Int)+2)=(((2*(j+1):Nat)):Int):=by rw[cK (by omega) (by omega)];omega
  have d:decide (((2*j+1:Nat):Int) < (((bg w).length:Nat):Int))=true:=by rw[fl];simp;omega
  have ib0:inb ((2*j:Nat):Int) (bg w).length=true:=aZ (by omega);have ib1:inb ((2*j+1:Nat):Int) (bg w).length=true:=aZ (by omega);have g0:at? (bg w) (((0:Nat):Int)+((2*j:Nat):Int))=some w[j].from_:=by rw[dR];exact (getf j hj).1
  have g1:at? (bg w) (((0:Nat):Int)+((2*j+1:Nat):Int))=some w[j].to:=by rw[dR];exact (getf j hj).2
  have lt:((aF (E[i]'(by omega)) E[i+1] w).take j).length=j:=by rw[length_take,lr];omega
  have lo:(out++(aF (E[i]'(by omega)) E[i+1] w).take j).length=out.length+j:=by rw[length_append,lt]
  have ap:aX (out++(aF (E[i]'(by omega)) E[i+1] w).take j).length (out++(aF (E[i]'(by omega)) E[i+1] w).take j).length (sub ([(aj.mk (E[i]'(by omega)) w[j].from_ E[i+1] w[j].to)]:List aj) 0 1).length 1 32=true:=aU (n:=1) (by omega) (by simp only[maxLen];omega);have sb:(sub ([(aj.mk (E[i]'(by omega)) w[j].from_ E[i+1] w[j].to)]:List aj) 0 1)=[⟨E[i]'(by omega),w[j].from_,E[i+1],w[j].to⟩]:=rfl;rw[sb]at ap;simp only[uY,w2,d,cond_true,aZ (show i < E.length by omega),dD (show i < E.length by omega),bind_some,ib0,g0,w1,aZ hi,dD hi,ib1,g1,sb,ap,bG,aA,w3];rw[take_succ_eq_append_getElem (by rw[lr];exact hj),append_assoc];simp[aF]
 ·have w2:i64.wrap (((2*w.length:Nat):Int)+1)=(((2*w.length+1:Nat)):Int):=aC (by omega);have d:decide (((2*w.length+1:Nat):Int) < (((bg w).length:Nat):Int))=false:=by rw[fl];simp;omega
  simp only[uY,w2,d,cond_false,aA,cond_true];rw[take_of_length_le (by rw[lr];exact Nat.le_refl _)]
def fw (op:Int) (p q:Bool):Bool:=bif op==2 then (p&&!q)else bif op==1 then (p&&q)else (p || q)
theorem I4 (op:Int):fw op false false=false:=by
 unfold fw;cases op==2<;>cases op==1<;>rfl
def cntT (F:List Int) (y:Int):Nat:=(F.filter fun z=>decide (z<=y)).length
theorem aaI {F:List Int} {y:Int} (h:∀ z∈F,z<=y):cntT F y=F.length:=by
 unfold cntT;rw[List.filter_eq_self.2 fun z hz=>by simpa using h z hz]
theorem yC {F:List Int} {y:Int} (h:∀ z∈F,y < z):cntT F y=0:=by
 unfold cntT;rw[List.filter_eq_nil_iff.2 fun z hz=>by have:=h z hz;simp;omega];rfl
theorem TN (F G:List Int) (y:Int):cntT (F++G) y=cntT F y+cntT G y:=by simp[cntT]
theorem aeb {F:List Int} {y:Int} {i:Nat} (hi:i<=F.length) (h1:∀ j (h:j < F.length),j < i->F[j]<=y) (h2:∀ j (h:j < F.length),i<=j->y < F[j]):cntT F y=i:=by
 have e:=List.take_append_drop i F;rw[<- e,TN,aaI,yC,length_take]
 ·omega
 ·intro z hz;obtain⟨j,hj,rfl⟩:=mem_iff_getElem.1 hz;rw[length_drop]at hj;rw[getElem_drop];exact h2 (i+j) (by omega) (by omega)
 ·intro z hz;obtain⟨j,hj,rfl⟩:=mem_iff_getElem.1 hz;rw[length_take]at hj;rw[List.getElem_take];exact h1 j (by omega) (by omega)
theorem EZ (s:aD) (c:List aD):bg (s::c)=s.from_::s.to::bg c:=rfl
theorem I5:∀ {c:List aD},Can c->(bg c).Pairwise (· < ·)∧∀ s∈c.head?,∀ z∈bg c,s.from_<=z
 |[],_=>⟨.nil,by simp⟩
 |s::c,h=>by
  obtain⟨i1,i2⟩:=I5 (Mr h);have hs:=h.2 s mem_cons_self;have ht:∀ z∈bg c,s.to < z:=by
   intro z hz;cases c with
   |nil=>simp[bg]at hz
   |cons t c=>
    have h1:=(pairwise_cons.1 h.1).1 t mem_cons_self;have h2:=i2 t rfl z hz;omega
  refine⟨?_,fun q hq z hz=>?_⟩
  ·rw[EZ];refine .cons (fun z hz=>?_) (.cons ht i1);rcases mem_cons.1 hz with rfl |hz
   ·exact hs
   ·have:=ht z hz;have:s.from_ < s.to:=hs;omega
  ·have:q=s:=(by simpa using hq.symm);subst this;rw[EZ]at hz;have hs':q.from_ < q.to:=hs;rcases mem_cons.1 hz with rfl |hz
   ·exact Int.le_refl _
   ·rcases mem_cons.1 hz with rfl |hz
    ·omega
    ·have:=ht z hz;omega
theorem I6:∀ {c:List aD},Can c->∀ y,inS c y=decide (cntT (bg c) y%2=1)
 |[],_,y=>rfl
 |s::c,h,y=>by
  have ih:=I6 (Mr h) y;have hs:s.from_ < s.to:=h.2 s mem_cons_self;have asc0:=(I5 h).1;rw[EZ,pairwise_cons,pairwise_cons]at asc0;rw[ja,EZ,show s.from_::s.to::bg c=[s.from_,s.to]++bg c from rfl,TN,ih];have ct:cntT [s.from_,s.to] y=(if s.from_<=y then 1 else 0)+(if s.to<=y then 1 else 0):=by
   unfold cntT;by_cases a:s.from_<=y<;>by_cases b:s.to<=y<;>simp[a,b]
  by_cases a:s.from_<=y
  ·by_cases b:s.to<=y
   ·have d:decide (y < s.to)=false:=(by simp;omega);rw[ct,if_pos a,if_pos b,d];simp only[Bool.and_false,Bool.false_or];exact decide_eq_decide.2 (by omega)
   ·have d:decide (y < s.to)=true:=(by simp;omega);have z:cntT (bg c) y=0:=yC fun z hz=>(by have:=asc0.2.1 z hz;omega);rw[ct,if_pos a,if_neg b,d,z];simp[a]
  ·have z:cntT (bg c) y=0:=yC fun z hz=>(by have:=asc0.2.1 z hz;omega);rw[ct,if_neg a,if_neg (by omega),z];simp[a]
theorem aaJ:∀ (n:Nat) {F:List Int},F.length=2*n->F.Pairwise (· < ·)->∃ c,F=bg c∧Can c
 | 0,F,hl,_=>⟨[],List.eq_nil_of_length_eq_zero (by omega),Mq⟩
 |n+1,F,hl,hp=>by
  match F,hl,hp with
  |[],hl,_=>simp at hl
  |[_],hl,_=>simp at hl;omega
  |a::b::F,hl,hp=>
   rw[pairwise_cons,pairwise_cons]at hp;obtain⟨c,rfl,hc⟩:=aaJ n (F:=F) (by simp at hl;omega) hp.2.2;refine⟨⟨a,b⟩::c,rfl,?_,?_⟩
   ·refine pairwise_cons.2 ⟨fun s hs=>?_,hc.1⟩;refine hp.2.1 s.from_ ?_;unfold bg;rw[mem_flatMap];exact⟨s,hs,by simp⟩
   ·intro s hs;rcases mem_cons.1 hs with rfl |hs
    ·exact hp.1 b mem_cons_self
    ·exact hc.2 s hs
structure W9 (a b:List Int) (keep:Bool->Bool->Bool) (i k:Nat) (was:Bool) (out:List Int):Prop where
 hi:i<=a.length
 hk:k<=b.length
 ab:∀ j (hj:j < a.length),j < i->∀ m (hm:m < b.length),k<=m->a[j] < b[m]
 ba:∀ j (hj:j < b.length),j < k->∀ m (hm:m < a.length),i<=m->b[j] < a[m]
 asc:out.Pairwise (· < ·)
 oa:∀ z∈out,∀ m (hm:m < a.length),i<=m->z < a[m]
 ob:∀ z∈out,∀ m (hm:m < b.length),k<=m->z < b[m]
 len:out.length<=i+k
 hw:was=keep (decide (i%2=1)) (decide (k%2=1))
 par:was=decide (out.length%2=1)
 val:∀ y,(∀ m (hm:m < a.length),i<=m->y < a[m])->(∀ m (hm:m < b.length),k<=m->y < b[m])->decide (cntT out y%2=1)=keep (decide (cntT a y%2=1)) (decide (cntT b y%2=1))
theorem aha (i:Nat):((Int.tmod (i:Int) 2)==(1:Int))=decide (i%2=1):=by
 have:Int.tmod (i:Int) 2=((i%2:Nat):Int):=rfl;rw[this,Bool.eq_iff_iff,beq_iff_eq,decide_eq_true_eq];omega
theorem acI {a b:List Int} (ha:a.Pairwise (· < ·)) (hb:b.Pairwise (· < ·)) {keep:Bool->Bool->Bool} {i k:Nat} {was:Bool} {out:List Int} (h:W9 a b keep i k was out) {v:Int} {i' k':Nat}
 (ci:(i'=i+1∧∃ hi:i < a.length,a[i]=v)∨(i'=i∧∀ hi:i < a.length,v < a[i])) (ck:(k'=k+1∧∃ hk:k < b.length,b[k]=v)∨(k'=k∧∀ hk:k < b.length,v < b[k])) (some:i < i'∨k < k'):
 W9 a b keep i' k' (keep (decide (i'%2=1)) (decide (k'%2=1))) (bif (keep (decide (i'%2=1)) (decide (k'%2=1))==was)then out else out++[v]):=by
 rw[pairwise_iff_getElem]at ha hb;have av:∀ m (hm:m < a.length),i'<=m->v < a[m]:=by
  intro m hm hmi;rcases ci with ⟨e,hi,hv⟩ |⟨e,hv⟩
  ·have:=ha i m hi hm (by omega);omega
  ·rcases Nat.eq_or_lt_of_le (show i<=m by omega)with e2 |e2
   ·subst e2;exact hv hm
   ·have h1:=hv (by omega);have:=ha i m (by omega) hm e2;omega
 have bv:∀ m (hm:m < b.length),k'<=m->v < b[m]:=by
  intro m hm hmi;rcases ck with ⟨e,hi,hv⟩ |⟨e,hv⟩
  ·have:=hb k m hi hm (by omega);omega
  ·rcases Nat.eq_or_lt_of_le (show k<=m by omega)with e2 |e2
   ·subst e2;exact hv hm
   ·have h1:=hv (by omega);have:=hb k m (by omega) hm e2;omega
 have lea:∀ j (hj:j < a.length),j < i'->a[j]<=v:=by
  intro j hj hji;rcases ci with ⟨e,hi,hv⟩ |⟨e,hv⟩
  ·rcases Nat.eq_or_lt_of_le (show j<=i by omega)with e2 |e2
   ·subst e2;omega
   ·have:=ha j i hj hi e2;omega
  ·rcases ck with ⟨e3,hk,hv2⟩ |⟨e3,_⟩
   ·have:=h.ab j hj (by omega) k hk (Nat.le_refl _);omega
   ·omega
 have leb:∀ j (hj:j < b.length),j < k'->b[j]<=v:=by
  intro j hj hji;rcases ck with ⟨e,hi,hv⟩ |⟨e,hv⟩
  ·rcases Nat.eq_or_lt_of_le (show j<=k by omega)with e2 |e2
   ·subst e2;omega
   ·have:=hb j k hj hi e2;omega
  ·rcases ci with ⟨e3,hi,hv2⟩ |⟨e3,_⟩
   ·have:=h.ba j hj (by omega) i hi (Nat.le_refl _);omega
   ·omega
 have ov:∀ z∈out,z < v:=by
  intro z hz;rcases some with s |s
  ·rcases ci with ⟨e,hi,hv⟩ |⟨e,_⟩
   ·have:=h.oa z hz i hi (Nat.le_refl _);omega
   ·omega
  ·rcases ck with ⟨e,hk,hv⟩ |⟨e,_⟩
   ·have:=h.ob z hz k hk (Nat.le_refl _);omega
   ·omega
 have hi':i'<=a.length:=by
  rcases ci with ⟨e,hi,_⟩ |⟨e,_⟩
  ·omega
  ·have:=h.hi;omega
 have hk':k'<=b.length:=by
  rcases ck with ⟨e,hi,_⟩ |⟨e,_⟩
  ·omega
  ·have:=h.hk;omega
 generalize hN:(bif (keep (decide (i'%2=1)) (decide (k'%2=1))==was)then out else out++[v])=new;have mem:∀ z∈new,z<=v:=by
  intro z hz;rw[<- hN]at hz;cases hk2:(keep (decide (i'%2=1)) (decide (k'%2=1))==was)with
  |true=>rw[hk2]at hz;have:=ov z hz;omega
  |false=>
   rw[hk2]at hz;rcases mem_append.1 hz with hz |hz
   ·have:=ov z hz;omega
   ·have:z=v:=(by simpa using hz);omega
 have ipar:∀ j,i<=j->j<=i+1->True:=fun _ _ _=>trivial;have par:keep (decide (i'%2=1)) (decide (k'%2=1))=decide (new.length%2=1):=by
  rw[<- hN];have hp:=h.par;cases hk2:(keep (decide (i'%2=1)) (decide (k'%2=1))==was)with
  |true=>
   rw[beq_iff_eq]at hk2;rw[hk2,hp];rfl
  |false=>
   rw[beq_eq_false_iff_ne]at hk2;have:keep (decide (i'%2=1)) (decide (k'%2=1))=!was:=(by cases h1:keep (decide (i'%2=1)) (decide (k'%2=1))<;>cases h2:was<;>simp_all);rw[this,hp,Bool.eq_iff_iff];simp only[cond_false,length_append,length_singleton,Bool.not_eq_true',decide_eq_false_iff_not,decide_eq_true_eq];omega
 refine⟨hi',hk',fun j hj hji m hm hmk=>?_,fun j hj hjk m hm hmi=>?_,?_,fun z hz m hm hmi=>?_,fun z hz m hm hmk=>?_,?_,rfl,par,fun y y1 y2=>?_⟩
 ·have:=lea j hj hji;have:=bv m hm hmk;omega
 ·have:=leb j hj hjk;have:=av m hm hmi;omega
 ·rw[<- hN];cases (keep (decide (i'%2=1)) (decide (k'%2=1))==was)with
  |true=>exact h.asc
  |false=>exact List.pairwise_append.2 ⟨h.asc,List.pairwise_singleton _ _,fun z hz w hw=>by
   have:w=v:=(by simpa using hw);rw[this];exact ov z hz⟩
 ·have:=mem z hz;have:=av m hm hmi;omega
 ·have:=mem z hz;have:=bv m hm hmk;omega
 ·rw[<- hN];have:=h.len;have:i<=i':=by rcases ci with ⟨e,_⟩ |⟨e,_⟩<;>omega
  have:k<=k':=by rcases ck with ⟨e,_⟩ |⟨e,_⟩<;>omega
  cases (keep (decide (i'%2=1)) (decide (k'%2=1))==was)with
  |true=>simp only[cond_true];omega
  |false=>simp only[cond_false,length_append,length_singleton];omega
 ·by_cases hy:y < v
  ·have e:cntT new y=cntT out y:=by
    rw[<- hN];cases (keep (decide (i'%2=1)) (decide (k'%2=1))==was)with
    |true=>rfl
    |false=>
     rw[cond_false,TN,yC (F:=[v]) (fun z hz=>by
      have:z=v:=(by simpa using hz);omega)]
     rfl
   rw[e];refine h.val y (fun m hm hmi=>?_) fun m hm hmk=>?_
   ·rcases Nat.lt_or_ge m i' with hlt |hge
    ·rcases ci with ⟨e,hi,hv⟩ |⟨e,_⟩
     ·have:m=i:=(by omega);subst this;omega
     ·omega
    ·exact y1 m hm hge
   ·rcases Nat.lt_or_ge m k' with hlt |hge
    ·rcases ck with ⟨e,hi,hv⟩ |⟨e,_⟩
     ·have:m=k:=(by omega);subst this;omega
     ·omega
    ·exact y2 m hm hge
  ·rw[aaI (F:=new) fun z hz=>by have:=mem z hz;omega];rw[aeb (i:=i') hi' (fun j hj hji=>by have:=lea j hj hji;omega) y1,aeb (i:=k') hk' (fun j hj hji=>by have:=leb j hj hji;omega) y2];exact par.symm
theorem Qf {n:Nat} {a b:List Int} (ha:a.Pairwise (· < ·)) (hb:b.Pairwise (· < ·)) (la:a.length<=100000) (lb:b.length<=100000) (op:Int):∀ (m i k:Nat) (was:Bool) (out:List Int),(a.length - i)+(b.length - k)<=m->W9 a b (fw op) i k was out->∀ n,m < n->
 ∃ out',iter (iA a b op) n ((i:Int),(k:Int),was,out)=some out'∧∃ w,W9 a b (fw op) a.length b.length w out':=by
 intro m
 induction m with
 |zero=>
  intro i k was out hm h n hn;obtain⟨n,rfl⟩:∃ j,n=j+1:=⟨n - 1,by omega⟩;have e1:i=a.length:=by have:=h.hi;omega
  have e2:k=b.length:=by have:=h.hk;omega
  subst e1 e2;have d1:decide (((a.length:Nat):Int) < (a.length:Int))=false:=by simp
  have d2:decide (((b.length:Nat):Int) < (b.length:Int))=false:=by simp
  refine⟨out,aS ?_,was,h⟩;simp only[iA,d1,d2,cond_false,bind_some,aA,cond_true]
 |succ m ih=>
  intro i k was out hm h n hn;obtain⟨n,rfl⟩:∃ j,n=j+1:=⟨n - 1,by omega⟩;have hi:=h.hi;have hk:=h.hk;by_cases hend:i=a.length∧k=b.length
  ·obtain⟨rfl,rfl⟩:=hend;exact ih _ _ _ _ (by omega) h (n+1) (by omega)
  have lo:=h.len;have ap:∀ v:Int,aX out.length out.length ([v]:List Int).length 1 8=true:=fun v=>aU (n:=1) (by omega) (by simp only[maxLen];omega);have s1:∀ v:Int,(sub ([v]:List Int) 0 1)=[v]:=fun _=>rfl;have w1:i64.wrap ((i:Int)+1)=((i+1:Nat):Int):=aC (by omega);have w2:i64.wrap ((k:Int)+1)=((k+1:Nat):Int):=aC (by omega);have two:((2:Int) != 0)=true:=rfl;have kp:∀ p q:Bool,(((bif p then some true else some q):Option Bool).bind fun v12=>((bif (op==(1:Int))then (bif p then some q else some false)else some v12):Option (Bool)).bind fun v13=>((bif (op==(2:Int))then (bif p then some (!q)else some false)else some v13):Option (Bool)))=some (fw op p q):=by
   intro p q;unfold fw;cases op==1<;>cases op==2<;>cases p<;>cases q<;>rfl
  have turn:∀ (v:Int) (i' k':Nat),((((bif (decide ((i:Int) < (a.length:Int)))then (bif (decide ((k:Int)>=(b.length:Int)))then some true else (at? a (i:Int)).bind fun x1=>(at? b (min (k:Int) (i64.wrap ((b.length:Int) - 1)))).bind fun x2=>some (decide (x1<=(x2:Int))))else some false):Option (Bool)).bind fun v6=>(bif v6 then (at? a (i:Int)).bind fun x3=>some x3 else (at? b (k:Int)).bind fun x4=>some x4):Option Int)=some v)->
   ((i'=i+1∧∃ hi:i < a.length,a[i]=v)∨(i'=i∧∀ hi:i < a.length,v < a[i]))->((k'=k+1∧∃ hk:k < b.length,b[k]=v)∨(k'=k∧∀ hk:k < b.length,v < b[k]))->(i < i'∨k < k')->
   iA a b op ((i:Int),(k:Int),was,out)=some (.inl ((i':Int),(k':Int),fw op (decide (i'%2=1)) (decide (k'%2=1)),bif (fw op (decide (i'%2=1)) (decide (k'%2=1))==was)then out else out++[v])):=by
   intro v i' k' hv ci ck _;have go:((bif (decide ((i:Int) < (a.length:Int)))then some true else some (decide ((k:Int) < (b.length:Int)))):Option Bool)=some true:=by
    by_cases hc:i < a.length
    ·have:decide ((i:Int) < (a.length:Int))=true:=(by simpa using hc);rw[this];rfl
    ·have h1:decide ((i:Int) < (a.length:Int))=false:=(by simp;omega);have h3:k < b.length:=(by clear hv ci ck w1 w2;omega);have h2:decide ((k:Int) < (b.length:Int))=true:=(by simpa using h3);rw[h1,h2];rfl
   have ei:(((bif (decide ((i:Int) < (a.length:Int)))then (at? a (i:Int)).bind fun x5=>some (x5==(v:Int))else some false):Option (Bool)).bind fun v8=>(bif v8 then some (i64.wrap ((i:Int)+1))else some (i:Int)):Option (Int))=some (i':Int):=by
    rcases ci with ⟨e,hi,hv2⟩ |⟨e,hv2⟩
    ·have:decide ((i:Int) < (a.length:Int))=true:=(by simpa using hi);rw[this,aQ hi];have e2:(a[i]==v)=true:=(by simp[hv2]);simp only[cond_true,bind_some,e2,w1,e]
    ·by_cases hi:i < a.length
     ·have:decide ((i:Int) < (a.length:Int))=true:=(by simpa using hi);have:=hv2 hi;have e2:(a[i]==v)=false:=(by rw[beq_eq_false_iff_ne];intro e;rw[e]at this;exact Int.lt_irrefl v this);rw[‹decide ((i:Int) < (a.length:Int))=true›,aQ hi];simp only[cond_true,bind_some,e2,cond_false,e]
     ·have:decide ((i:Int) < (a.length:Int))=false:=(by simp;omega);rw[this];simp only[cond_false,bind_some,e]
   have ek:(((bif (decide ((k:Int) < (b.length:Int)))then (at? b (k:Int)).bind fun x6=>some (x6==(v:Int))else some false):Option (Bool)).bind fun v10=>(bif v10 then some (i64.wrap ((k:Int)+1))else some (k:Int)):Option (Int))=some (k':Int):=by
    rcases ck with ⟨e,hi,hv2⟩ |⟨e,hv2⟩
    ·have:decide ((k:Int) < (b.length:Int))=true:=(by simpa using hi);rw[this,aQ hi];have e2:(b[k]==v)=true:=(by simp[hv2]);simp only[cond_true,bind_some,e2,w2,e]
    ·by_cases hi:k < b.length
     ·have:decide ((k:Int) < (b.length:Int))=true:=(by simpa using hi);have:=hv2 hi;have e2:(b[k]==v)=false:=(by rw[beq_eq_false_iff_ne];intro e;rw[e]at this;exact Int.lt_irrefl v this);rw[‹decide ((k:Int) < (b.length:Int))=true›,aQ hi];simp only[cond_true,bind_some,e2,cond_false,e]
     ·have:decide ((k:Int) < (b.length:Int))=false:=(by simp;omega);rw[this];simp only[cond_false,bind_some,e]
   unfold iA;simp only;rw[go];simp only[bind_some,cond_true];rw[hv];simp only[bind_some];rw[ei];simp only[bind_some];rw[ek];simp only[bind_some,two,cond_true,aha];have kk:=kp (decide (i'%2=1)) (decide (k'%2=1));generalize decide (i'%2=1)=P at*;generalize decide (k'%2=1)=Q at*;have fin:∀ v14:Bool,(((bif (!(v14==was))then bif aX out.length out.length (sub ([v]:List Int) 0 1).length 1 8 then fB (out++(sub ([v]:List Int) 0 1)) fun r1=>bif eqL r1.length r1.length then some r1 else none else none else bif eqL out.length out.length then some out else none):Option ((List Int))).bind fun v15=>bif eqL v15.length v15.length then some (.inl ((i':Int),(k':Int),v14,v15))else none)=(some (.inl ((i':Int),(k':Int),v14,bif (v14==was)then out else out++[v])):Option ((Int×Int×Bool×(List Int)) ⊕ (List Int))):=by
    intro v14;simp only[s1,ap,bG,aA,cond_true];cases v14==was<;>rfl
   simp only[fin];unfold fw;cases op==1<;>cases op==2<;>cases P<;>cases Q<;>rfl
  have fin:∀ (v:Int) (i' k':Nat),((((bif (decide ((i:Int) < (a.length:Int)))then (bif (decide ((k:Int)>=(b.length:Int)))then some true else (at? a (i:Int)).bind fun x1=>(at? b (min (k:Int) (i64.wrap ((b.length:Int) - 1)))).bind fun x2=>some (decide (x1<=(x2:Int))))else some false):Option (Bool)).bind fun v6=>(bif v6 then (at? a (i:Int)).bind fun x3=>some x3 else (at? b (k:Int)).bind fun x4=>some x4):Option Int)=some v)->
   ((i'=i+1∧∃ hi:i < a.length,a[i]=v)∨(i'=i∧∀ hi:i < a.length,v < a[i]))->((k'=k+1∧∃ hk:k < b.length,b[k]=v)∨(k'=k∧∀ hk:k < b.length,v < b[k]))->(i < i'∨k < k')->i'+k'<=i+k+2->
   ∃ out',iter (iA a b op) (n+1) ((i:Int),(k:Int),was,out)=some out'∧∃ w,W9 a b (fw op) a.length b.length w out':=by
   intro v i' k' hv ci ck sm _;have st:=turn v i' k' hv ci ck sm;obtain⟨o,ho,hw⟩:=ih i' k' _ _ (by rcases ci with ⟨e,h1,_⟩ |⟨e,_⟩<;>rcases ck with ⟨e2,h2,_⟩ |⟨e2,_⟩<;>omega) (acI ha hb h ci ck sm) n (by omega);exact⟨o,by rw[bf st];exact ho,hw⟩
  by_cases ci:i < a.length
  ·have d1:decide ((i:Int) < (a.length:Int))=true:=(by simpa using ci);by_cases ck:k < b.length
   ·have d2:decide ((k:Int)>=(b.length:Int))=false:=(by simp;omega);have mn:min (k:Int) (i64.wrap ((b.length:Int) - 1))=(k:Int):=(by rw[cK (by omega) (by omega)];omega);by_cases hle:a[i]<=b[k]
    ·have hv:((((bif (decide ((i:Int) < (a.length:Int)))then (bif (decide ((k:Int)>=(b.length:Int)))then some true else (at? a (i:Int)).bind fun x1=>(at? b (min (k:Int) (i64.wrap ((b.length:Int) - 1)))).bind fun x2=>some (decide (x1<=(x2:Int))))else some false):Option (Bool)).bind fun v6=>(bif v6 then (at? a (i:Int)).bind fun x3=>some x3 else (at? b (k:Int)).bind fun x4=>some x4):Option Int)=some a[i]):=by
      have:decide (a[i]<=b[k])=true:=(by simpa using hle);simp only[d1,d2,mn,aQ ci,aQ ck,cond_true,cond_false,bind_some,this]
     rcases Int.lt_or_eq_of_le hle with hlt |heq
     ·exact fin a[i] (i+1) k hv (.inl ⟨rfl,ci,rfl⟩) (.inr ⟨rfl,fun _=>hlt⟩) (by omega) (by omega)
     ·exact fin a[i] (i+1) (k+1) hv (.inl ⟨rfl,ci,rfl⟩) (.inl ⟨rfl,ck,heq.symm⟩) (by omega) (by omega)
    ·have hv:((((bif (decide ((i:Int) < (a.length:Int)))then (bif (decide ((k:Int)>=(b.length:Int)))then some true else (at? a (i:Int)).bind fun x1=>(at? b (min (k:Int) (i64.wrap ((b.length:Int) - 1)))).bind fun x2=>some (decide (x1<=(x2:Int))))else some false):Option (Bool)).bind fun v6=>(bif v6 then (at? a (i:Int)).bind fun x3=>some x3 else (at? b (k:Int)).bind fun x4=>some x4):Option Int)=some b[k]):=by
      have:decide (a[i]<=b[k])=false:=(by simpa using hle);simp only[d1,d2,mn,aQ ci,aQ ck,cond_true,cond_false,bind_some,this]
     exact fin b[k] i (k+1) hv (.inr ⟨rfl,fun _=>by omega⟩) (.inl ⟨rfl,ck,rfl⟩) (by omega) (by omega)
   ·have d2:decide ((k:Int)>=(b.length:Int))=true:=(by simp;omega);have hv:((((bif (decide ((i:Int) < (a.length:Int)))then (bif (decide ((k:Int)>=(b.length:Int)))then some true else (at? a (i:Int)).bind fun x1=>(at? b (min (k:Int) (i64.wrap ((b.length:Int) - 1)))).bind fun x2=>some (decide (x1<=(x2:Int))))else some false):Option (Bool)).bind fun v6=>(bif v6 then (at? a (i:Int)).bind fun x3=>some x3 else (at? b (k:Int)).bind fun x4=>some x4):Option Int)=some a[i]):=(by simp only[d1,d2,aQ ci,cond_true,bind_some]);exact fin a[i] (i+1) k hv (.inl ⟨rfl,ci,rfl⟩) (.inr ⟨rfl,fun h=>absurd h ck⟩) (by omega) (by omega)
  ·have ck:k < b.length:=(by omega);have d1:decide ((i:Int) < (a.length:Int))=false:=(by simp;omega);have hv:((((bif (decide ((i:Int) < (a.length:Int)))then (bif (decide ((k:Int)>=(b.length:Int)))then some true else (at? a (i:Int)).bind fun x1=>(at? b (min (k:Int) (i64.wrap ((b.length:Int) - 1)))).bind fun x2=>some (decide (x1<=(x2:Int))))else some false):Option (Bool)).bind fun v6=>(bif v6 then (at? a (i:Int)).bind fun x3=>some x3 else (at? b (k:Int)).bind fun x4=>some x4):Option Int)=some b[k]):=(by simp only[d1,aQ ck,cond_false,bind_some]);exact fin b[k] i (k+1) hv (.inr ⟨rfl,fun h=>absurd h ci⟩) (.inl ⟨rfl,ck,rfl⟩) (by omega) (by omega)
theorem TP {n:Nat} {c d:List aD} (hc:Can c) (hd:Can d) (lc:c.length<=10000) (ld:d.length<=10000) (op:Int) (hn:2*c.length+2*d.length < n):Ba n (bg c) (bg d) op=some (bg (fq (fw op) c d)):=by
 have h0:W9 (bg c) (bg d) (fw op) 0 0 false []:=by
  refine⟨by omega,by omega,by omega,by omega,.nil,by simp,by simp,by simp,?_,rfl,fun y y1 y2=>?_⟩
  ·exact (I4 op).symm
  ·rw[yC (F:=bg c) (fun z hz=>by obtain⟨j,hj,rfl⟩:=mem_iff_getElem.1 hz;exact y1 j hj (by omega)),yC (F:=bg d) (fun z hz=>by obtain⟨j,hj,rfl⟩:=mem_iff_getElem.1 hz;exact y2 j hj (by omega))];exact (I4 op).symm
 obtain⟨o,ho,w,hw⟩:=Qf (n:=n) (I5 hc).1 (I5 hd).1 (by rw[gY];omega) (by rw[gY];omega) op ((bg c).length+(bg d).length) 0 0 false [] (by omega) h0 n (by rw[gY,gY];omega);have key:o=bg (fq (fw op) c d):=by
  have w0:w=false:=by
   rw[hw.hw,gY,gY];have e1:decide (2*c.length%2=1)=false:=(by simp);have e2:decide (2*d.length%2=1)=false:=(by simp);rw[e1,e2,I4]
  have ev:o.length%2=0:=by
   have:=hw.par;rw[w0]at this;have:=of_decide_eq_false this.symm;omega
  obtain⟨e,rfl,he⟩:=aaJ (o.length/2) (F:=o) (by omega) hw.asc;obtain⟨m1,m2⟩:=Bg (keep:=fw op) (I4 op) c d;congr 1;refine rU he m1 fun y=>?_;rw[I6 he,m2,I6 hc,I6 hd];exact hw.val y (fun m hm h=>by omega) fun m hm h=>by omega
 unfold Ba;have ho':iter (iA (bg c) (bg d) op) n ((0:Int),(0:Int),false,([]:List Int))=some o:=ho;simp only[length_nil,aA,cond_true,ho',bind_some,aV,key]
theorem Oe {n:Nat} {l:List aj} (hl:l.length < 1099511627) (hn:l.length < n) (w:List Int) (hw:w.length<=1000000):iter (qh l) n ((0:Int),w)=some (w++l.flatMap fun r=>[r.x0,r.x1]):=by
 have fl:∀ i,((l.take i).flatMap fun r=>[r.x0,r.x1]).length<=2*i:=by
  intro i;rw[eY,length_take];omega
 have:=dm (step:=qh l) (fun i=>(((i:Nat):Int),w++(l.take i).flatMap fun r=>[r.x0,r.x1])) l.length (w++l.flatMap fun r=>[r.x0,r.x1]) (fun i hi=>?_) ?_ n hn
 ·simpa using this
 ·have hi':decide (((i:Nat):Int) < (l.length:Int))=true:=by simpa using hi
  have f:=fl i;have s1:(sub ([l[i].x0,l[i].x1]:List Int) 0 2)=[l[i].x0,l[i].x1]:=rfl;have ap:aX (w++(l.take i).flatMap fun r=>[r.x0,r.x1]).length (w++(l.take i).flatMap fun r=>[r.x0,r.x1]).length ([l[i].x0,l[i].x1]:List Int).length 2 8=true:=by
   refine aU (n:=2) ?_ ?_
   ·rw[length_append];omega
   ·rw[length_append];simp only[maxLen];omega
  simp only[qh,hi',cond_true,aQ hi,bind_some,s1,ap,bG,aA];rw[aC (by omega),take_succ_eq_append_getElem hi,List.flatMap_append,append_assoc];rfl
 ·simp[qh]
theorem TQ {n:Nat} {a b:List aj} (ha:a.length<=10000) (hb:b.length<=10000) (hn:50000<=n):II n a b=some (aJ (a++b)):=by
 unfold II;have fa:=eY a;have fb:=eY b;simp only[length_nil,aA,cond_true,Od (l:=a) (n:=n) (by omega) (by omega),bind_some,Oe (l:=b) (n:=n) (by omega) (by omega) (a.flatMap fun r=>[r.x0,r.x1]) (by omega),aV];rw[Vm (by rw[length_append];omega) (by rw[length_append];omega)];simp only[bind_some,aV,aA,cond_true];unfold aJ;rw[List.flatMap_append]
theorem afa (l:List aM):∀ x0 x1 y0 y1,qx x0 x1 [] l=qx y0 y1 [] l:=by
 induction l with
 |nil=>intros;simp[qx,aF]
 |cons s l ih=>
  intro x0 x1 y0 y1;simp only[qx];split
  ·exact ih _ _ _ _
  ·simp[aF]
def Og (op:Int) (a b:List aj):List aM:=gq (fw op) a b
theorem ahb {op:Int} {a b:List aj} {i:Nat} (h:i < (Og op a b).length):∃ (h1:i < (aJ (a++b)).length) (h2:i+1 < (aJ (a++b)).length),(Og op a b)[i]=⟨(aJ (a++b))[i],(aJ (a++b))[i+1],fq (fw op) (aO a (aJ (a++b))[i]) (aO b (aJ (a++b))[i])⟩:=by
 obtain⟨p1,p2⟩:=j5 (fun x x'=>(⟨x,x',fq (fw op) (aO a x) (aO b x)⟩:aM)) (aJ (a++b));have h0:i < (dQ (fun x x'=>(⟨x,x',fq (fw op) (aO a x) (aO b x)⟩:aM)) (aJ (a++b))).length:=h;exact⟨by omega,by omega,p2 i (by omega) h⟩
theorem TS (op:Int) (a b:List aj):(Og op a b).length=(aJ (a++b)).length - 1:=(j5 (fun x x'=>(⟨x,x',fq (fw op) (aO a x) (aO b x)⟩:aM)) (aJ (a++b))).1
def ajq (op:Int) (a b:List aj) (i:Nat) (last:Nat) (out:List aj) (w:List aD):Prop:=
 out.length<=i*(2*(a.length+b.length))∧w.length<=2*(a.length+b.length)∧
 ((i=0∧last=0∧out=[]∧w=[])∨
  (0 < i∧∃ done x0 x1,out=done++aF x0 x1 w∧last=done.length∧aT (Og op a b)=done++qx x0 x1 w ((Og op a b).drop i)))
theorem E8 {n:Nat} {op:Int} {a b:List aj} (va:∀ r∈a,OkR r=true) (vb:∀ r∈b,OkR r=true) (ha:a.length<=4000) (hb:b.length<=4000) (hn:50000<=n):∀ (m i last:Nat) (out:List aj) (w:List aD),i+m=(Og op a b).length->ajq op a b i last out w->∀ k,m < k->
 iter (jP n a b op (aJ (a++b))) k ((last:Int),(i:Int),out,bg w)=some (aT (Og op a b))
 | 0,i,last,out,w,hm,hI,k,hk=>by
  obtain⟨k,rfl⟩:∃ j,k=j+1:=⟨k - 1,by omega⟩;have sl:=TS op a b;have le:=kQ (a++b);rw[length_append]at le;have wp:i64.wrap ((i:Int)+1)=(((i+1:Nat)):Int):=aC (by omega);have d:decide ((((i+1:Nat)):Int) < (((aJ (a++b)).length:Nat):Int))=false:=by simp;omega
  obtain⟨_,_,hI⟩:=hI;have fin:out=aT (Og op a b):=by
   rcases hI with ⟨h0,_,rfl,_⟩ |⟨h0,done,x0,x1,rfl,_,hw⟩
   ·subst h0;have:Og op a b=[]:=List.eq_nil_of_length_eq_zero (by omega);rw[this];rfl
   ·rw[hw,drop_of_length_le (by omega)];rfl
  refine aS ?_;simp only[jP,wp,d,cond_false,aA,cond_true,fin]
 |m+1,i,last,out,w,hm,hI,k,hk=>by
  obtain⟨k,rfl⟩:∃ j,k=j+1:=⟨k - 1,by omega⟩;have sl:=TS op a b;have le:=kQ (a++b);rw[length_append]at le;have hi:i < (Og op a b).length:=by omega
  obtain⟨e1,e2,es⟩:=ahb hi;obtain⟨hlo,hlw,hI⟩:=hI;have ob:i*(2*(a.length+b.length))<=20000*16000:=Nat.mul_le_mul (by omega) (by omega);have wp:i64.wrap ((i:Int)+1)=(((i+1:Nat)):Int):=aC (by omega);have d:decide ((((i+1:Nat)):Int) < (((aJ (a++b)).length:Nat):Int))=true:=by simp;omega
  have la:=jG a (aJ (a++b))[i];have lb:=jG b (aJ (a++b))[i];have c1:oD n a (aJ (a++b))[i]=some (bg (aO a (aJ (a++b))[i])):=JO (by omega) (by omega);have c2:oD n b (aJ (a++b))[i]=some (bg (aO b (aJ (a++b))[i])):=JO (by omega) (by omega);have ca:=(dS va (aJ (a++b))[i]).1;have cb:=(dS vb (aJ (a++b))[i]).1;have c3:=TP (n:=n) ca cb (by omega) (by omega) op (by omega);have hcl:=JL (fw op) (aO a (aJ (a++b))[i]) (aO b (aJ (a++b))[i]);have dr:(Og op a b).drop i=⟨(aJ (a++b))[i],(aJ (a++b))[i+1],fq (fw op) (aO a (aJ (a++b))[i]) (aO b (aJ (a++b))[i])⟩::(Og op a b).drop (i+1):=by rw[drop_eq_getElem_cons hi,es]
  generalize hc:fq (fw op) (aO a (aJ (a++b))[i]) (aO b (aJ (a++b))[i])=c at*;have ints:Hf n (bg c) (bg w)=some (decide (c=w)):=by
   rw[aaH (by rw[gY];omega) (by rw[gY];omega)];congr 1;exact decide_eq_decide.2 ⟨fun h=>WZ h,fun h=>by rw[h]⟩
  have hlen:decide ((((bg c).length:Nat):Int)>0)=decide (c≠[]):=by
   rw[gY];refine decide_eq_decide.2 ?_;rw[<- List.length_pos_iff];omega
  have di:decide ((i:Int)>0)=decide (0 < i):=by refine decide_eq_decide.2 ?_;omega
  have test:((bif decide ((i:Int)>0)then (bif decide ((((bg c).length:Nat):Int)>0)then some (decide (c=w))else some false)else some false):Option Bool)=some (decide (0 < i∧c≠[]∧c=w)):=by
   rw[hlen,di,Ho,Ho];congr 1;by_cases a:0 < i<;>by_cases b:c≠[]<;>by_cases e:c=w<;>simp[a,b,e]
  by_cases ht:0 < i∧c≠[]∧c=w
  ·obtain⟨h0,hne,rfl⟩:=ht;rcases hI with ⟨h1,_⟩ |⟨_,done,x0,x1,rfl,rfl,hw⟩
   ·omega
   ·have lenr:(done++aF x0 x1 c).length=done.length+c.length:=(by simp[aF]);have r:=Qd (n:=n) (E:=aJ (a++b)) e2 (by omega) done c x0 x1 (by omega) (by omega);have le2:(done++aF x0 x1 c).length=(done++aF x0 (aJ (a++b))[i+1] c).length:=(by simp[aF]);have stp:jP n a b op (aJ (a++b)) (((done.length:Nat):Int),(i:Int),done++aF x0 x1 c,bg c)=some (.inl (((done.length:Nat):Int),(((i+1:Nat)):Int),done++aF x0 (aJ (a++b))[i+1] c,bg c)):=by
     have t1:decide (0 < i∧c≠[]∧c=c)=true:=(by simp[h0,hne]);rw[t1]at test;simp only[eq_self]at test;simp only[jP,wp,d,cond_true,aZ e1,dD e1,bind_some,c1,c2,aV,aA,c3,ints];rw[test];simp only[bind_some,cond_true,r,le2,aA]
    rw[bf stp];refine E8 va vb ha hb hn m (i+1) _ _ _ (by omega) ⟨?_,hlw,.inr ⟨by omega,done,x0,_,rfl,rfl,?_⟩⟩ k (by omega)
    ·rw[<- le2,Nat.add_mul];omega
    ·rw[hw,dr];simp only[qx,if_true]
  ·have hcw:¬ (0 < i∧c≠[]∧c=w):=ht;have r:=Qe (n:=n) (E:=aJ (a++b)) e2 (by omega) out c (by omega) (by omega);have stp:jP n a b op (aJ (a++b)) ((last:Int),(i:Int),out,bg w)=some (.inl (((out.length:Nat):Int),(((i+1:Nat)):Int),out++aF (aJ (a++b))[i] (aJ (a++b))[i+1] c,bg c)):=by
    have t1:decide (0 < i∧c≠[]∧c=w)=false:=(by simpa using hcw);rw[t1]at test;simp only[jP,wp,d,cond_true,aZ e1,dD e1,bind_some,c1,c2,aV,aA,c3,ints];rw[test];simp only[bind_some,cond_false,r,aA,cond_true]
   rw[bf stp];refine E8 va vb ha hb hn m (i+1) _ _ _ (by omega) ⟨?_,by omega,.inr ⟨by omega,out,_,_,rfl,rfl,?_⟩⟩ k (by omega)
   ·rw[length_append,Nat.add_mul];simp[aF];omega
   ·rcases hI with ⟨rfl,rfl,rfl,rfl⟩ |⟨h0,done,x0,x1,rfl,rfl,hw⟩
    ·rw[List.drop_zero]at dr
     conv=>lhs;rw[dr]
     simp[aT]
    ·rw[hw,dr,append_assoc];congr 1;simp only[qx];by_cases hcw2:c=w
     ·have hce:c=[]:=by
       rcases Decidable.em (c=[])with h |h
       ·exact h
       ·exact absurd ⟨h0,h,hcw2⟩ hcw
      subst hcw2;subst hce;simp only[if_true];have:aF x0 x1 []=[]:=rfl;rw[this,nil_append];exact afa _ _ _ _ _
     ·simp only[hcw2,if_false]
theorem BS {n:Nat} {op:Int} {a b:List aj} (va:∀ r∈a,OkR r=true) (vb:∀ r∈b,OkR r=true) (ha:a.length<=4000) (hb:b.length<=4000) (hn:50000<=n):qi n a b op=some (aT (gq (fw op) a b)):=by
 have sl:=TS op a b;have le:=kQ (a++b);rw[length_append]at le;unfold qi;rw[TQ (by omega) (by omega) hn];have:=E8 (n:=n) (op:=op) va vb ha hb hn (Og op a b).length 0 0 [] [] (by omega) ⟨by simp,by simp,.inl ⟨rfl,rfl,rfl,rfl⟩⟩ n (by omega);have this':iter (jP n a b op (aJ (a++b))) n ((0:Int),(0:Int),([]:List aj),([]:List Int))=some (aT (gq (fw op) a b)):=this;simp only[bind_some,length_nil,aA,cond_true,this',aV]
theorem E9 {n:Nat} {l:List aj} (hv:∀ r∈l,OkR r=true) (hl:l.length<=4000) (hn:50000<=n):qi n l [] 0=some (aT (aG l)):=by
 rw[BS hv (by simp) hl (by simp) hn];congr 1;have hs:j6 (gq (fw 0) l []):=xR _ _ (kS _);have sp:=fun x=>Bg (keep:=fw 0) rfl (aO l x) (aO [] x);refine aaF hs hv (fun x=>by rw[IX rfl];exact (sp x).1) fun x y=>?_;rw[IX rfl,(sp x).2,(dS hv x).2,(dS (l:=[]) (by simp) x).2];have:cellsL [] x y=false:=rfl;rw[this];show (cellsL l x y || false)=_;rw[Bool.or_false]
theorem Oh (r:aj):tY r=some (OkR r):=by simp only[tY,Ho]
theorem aaK {l:List aj} (h:fI (fun r=>!OkR r) l=none):∀ r∈l,OkR r=true:=by
 intro r hr;rcases ji (fun r=>!OkR r) l with ⟨i,hi,h1,_⟩ |⟨_,h2⟩
 ·rw[h1]at h;cases h
 ·simpa using h2 r hr
theorem Pw {n:Nat} {l:List aj} (hl:l.length<=4000) (hn:50000<=n):Tj n l=some (ofL l):=by
 unfold Tj;have h1:=bX (l:=l) (step:=IJ l) (fun i=>(i:Int)) (fun r=>!OkR r) () (fun _=>(([]:List aj),(1:Int))) (fun i hi=>?_) ?_ n (by omega)
 ·rw[show ((0:Nat):Int)=0 from rfl]at h1;rw[h1];have h2:=pM (fun r=>!OkR r) l;cases hf:fI (fun r=>!OkR r) l with
  |some i=>
   rw[hf]at h2;have:l.all OkR=false:=by
    rw[<- Bool.not_eq_true,all_eq_true];intro hall;have h3:=h2.symm;simp only[Option.isSome_some,any_eq_true]at h3;obtain⟨x,hx,hx2⟩:=h3;rw[hall x hx]at hx2;cases hx2
   simp[ofL,this]
  |none=>
   have hv:=aaK hf;have:l.all OkR=true:=(by rw[all_eq_true];exact hv);simp only[fF,ofL,this,if_true];by_cases h400:l.length>400
   ·have d4:decide ((l.length:Int)>400)=true:=(by simp;omega);simp only[d4,cond_true,h400,if_true]
   have d4:decide ((l.length:Int)>400)=false:=(by simp;omega);simp only[d4,cond_false,h400,if_false];rw[E9 hv (by omega) hn];simp only[bind_some,aV,aA,cond_true];by_cases h200:(aT (aG l)).length>200
   ·have:decide (((aT (aG l)).length:Int)>200)=true:=(by simp;omega);simp only[this,cond_true,h200,if_true]
   ·have:decide (((aT (aG l)).length:Int)>200)=false:=(by simp;omega);simp only[this,cond_false,h200,if_false]
 ·have hi':decide (((i:Nat):Int) < (l.length:Int))=true:=by simpa using hi
  simp only[IJ,hi',cond_true,aQ hi,bind_some,Oh];cases OkR l[i]with
  |false=>rfl
  |true=>simp only[Bool.not_true,cond_false];rw[aC (by omega)]
 ·simp[IJ]
theorem acJ {α:Type} [DecidableEq α] {a b:List α} {step:Int->Option (Int ⊕ (Unit ⊕ Bool))} (hl:a.length=b.length)
 (h:∀ i (h1:i < a.length) (h2:i < b.length),step (i:Int)=some (if a[i]=b[i]then .inl (((i+1:Nat)):Int)else .inr (.inr false))) (hend:step (a.length:Int)=some (.inr (.inl ()))) (n:Nat) (hn:a.length < n):
 iter step n (0:Int)=some (if a=b then .inl ()else .inr false):=by
 have zl:(a.zip b).length=a.length:=by rw[List.length_zip];omega
 have:=bX (l:=a.zip b) (step:=step) (fun i=>((i:Nat):Int)) (fun z=>!decide (z.1=z.2)) () (fun _=>false) (fun i hi=>?_) (by rw[zl];exact hend) n (by omega)
 ·rw[show ((0:Nat):Int)=0 from rfl]at this;rw[this];rcases ji (fun z:α×α=>!decide (z.1=z.2)) (a.zip b)with ⟨i,hi,h1,h2,_⟩ |⟨h1,h2⟩
  ·rw[h1];have:a≠b:=by
    intro e;subst e;simp at h2
   simp[this]
  ·rw[h1];have:a=b:=by
    refine List.ext_getElem hl fun i hi hj=>?_;have hm:(a[i],b[i])∈a.zip b:=by
     rw[mem_iff_getElem];exact⟨i,by omega,by simp⟩
    have:=h2 _ hm;simpa using this
   simp[this]
 ·have ha:i < a.length:=by omega
  have hb:i < b.length:=by omega
  rw[h i ha hb];simp only[List.getElem_zip];by_cases e:a[i]=b[i]<;>simp[e]
theorem Vn {n:Nat} {a b:List aj} (ha:a.length < 1099511627) (hn:a.length < n):zo n a b=some (decide (a=b)):=by
 unfold zo;by_cases hl:a.length=b.length
 ·have e:((a.length:Int) != (b.length:Int))=false:=by simp[hl]
  rw[e];simp only[cond_false];rw[acJ (step:=lK a b) hl (fun i h1 h2=>?_) (by simp[lK]) n hn]
  ·by_cases hab:a=b<;>simp[hab,bI]
  ·have d:decide (((i:Nat):Int) < (a.length:Int))=true:=(by simpa using h1);have eqr:(a[i].x0==b[i].x0&&(a[i].y0==b[i].y0&&(a[i].x1==b[i].x1&&(a[i].y1==b[i].y1&&true))))=decide (a[i]=b[i]):=by
    cases a[i];cases b[i];rw[Bool.eq_iff_iff];simp
   simp only[lK,d,cond_true,aQ h1,aQ h2,bind_some,eqr];by_cases hab:a[i]=b[i]
   ·simp only[hab,decide_true,Bool.not_true,cond_false,if_true];rw[aC (by omega)]
   ·simp only[hab,decide_false,Bool.not_false,cond_true,if_false];rfl
 ·have e:((a.length:Int) != (b.length:Int))=true:=by simp;omega
  have:¬ a=b:=fun e=>hl (by rw[e]);simp[e,this]
theorem lX {n:Nat} {l:List aj} (hl:l.length<=4000) (hn:50000<=n):oU n l=some (bH l):=by
 unfold oU bH;rw[Pw hl hn];simp only[bind_some];have lo:=Yo l;by_cases h:(ofL l).2=0
 ·have e:((ofL l).2==0)=true:=by simp[h]
  simp only[e,cond_true,aV,aA,h,decide_true,Bool.true_and];rw[Vn (by omega) (by omega)];rfl
 ·have e:((ofL l).2==0)=false:=by simp[h]
  simp[e,h]
theorem Yr {n:Nat} {a:List aj} (x y:Int) (ha:a.length<=900) (hn:50000<=n):QL n a x y=some (bH a&&cellsL a x y):=by
 unfold QL;rw[lX (by omega) hn];simp only[bind_some];cases bH a with
 |false=>rfl
 |true=>
  have:=bX (l:=a) (step:=EN a x y) (fun i=>(i:Int)) (fun r=>Vj r x y) () (fun _=>true) (fun i hi=>?_) (by simp[EN]) n (by omega)
  ·rw[show ((0:Nat):Int)=0 from rfl]at this;simp only[Bool.not_true,cond_false,Bool.true_and];rw[this];have e:cellsL a x y=a.any fun r=>Vj r x y:=rfl;rw[e,<- jJ];cases fI (fun r=>Vj r x y) a<;>rfl
  ·have hi':decide (((i:Nat):Int) < (a.length:Int))=true:=(by simpa using hi);simp only[EN,hi',cond_true,aQ hi,bind_some];rw[aC (by omega)];unfold Vj;cases decide (a[i].x0<=x)<;>cases decide (x < a[i].x1)<;>cases decide (a[i].y0<=y)<;>cases decide (y < a[i].y1)<;>rfl
inductive Rch (a:List aj) (x:aj):aj->Prop
 |base:Rch a x x
 |step {p q:aj} (h:Rch a x p) (hq:q∈a) (ht:touchR p q=true):Rch a x q
theorem Px {a:List aj} (h:bH a=true):a.Nodup:=by
 refine List.pairwise_iff_forall_sublist.2 ?_;intro r r' hs e;subst e;have ok:=(bZ h).1;have hr:r∈a:=hs.subset (by simp);have hx:=ajn (ok r hr);have hy:=aiz (ok r hr);have cs:=(Vk h r.x0).1;have hf:=hs.filter fun r'=>decide (r'.x0<=r.x0)&&decide (r.x0 < r'.x1);have hc:(decide (r.x0<=r.x0)&&decide (r.x0 < r.x1))=true:=by simp[hx]
 have hm:=hf.map fun r:aj=>(⟨r.y0,r.y1⟩:aD);simp only[List.filter_cons,hc,if_true,List.filter_nil,map_cons,map_nil]at hm;have hp:=cs.sublist hm;rw[pairwise_cons]at hp;have:=hp.1 ⟨r.y0,r.y1⟩ (by simp);simp only at this;omega
theorem TU:∀ (f:Nat) (part left:List aj) (i:Nat),((iB f part i left).1++(iB f part i left).2).Perm (part++left)
 | 0,_,_,_=>List.Perm.refl _
 |f+1,part,left,i=>by
  simp only[iB];split
  ·exact List.Perm.refl _
  ·rename_i p _;refine (TU f _ _ _).trans ?_;rw[append_assoc];exact List.Perm.append_left _ (List.filter_append_perm (fun x=>touchR p x) left)
theorem TW (a:List aj) (x:aj):∀ (f:Nat) (part left:List aj) (i:Nat),part.length+left.length - i < f->i<=part.length->(∀ p∈part,Rch a x p)->(∀ q∈left,q∈a)->(∀ j (hj:j < part.length),j < i->∀ q∈left,touchR part[j] q=false)->
 (∀ p∈(iB f part i left).1,Rch a x p)∧(∀ p∈(iB f part i left).1,∀ q∈(iB f part i left).2,touchR p q=false)∧∀ p∈part,p∈(iB f part i left).1
 | 0,_,_,_,h,_,_,_,_=>by omega
 |f+1,part,left,i,hf,hi,h1,h2,h3=>by
  simp only[iB];split
  ·rename_i hn;have:i=part.length:=(by rw[List.getElem?_eq_none_iff]at hn;omega);refine⟨h1,fun p hp q hq=>?_,fun p hp=>hp⟩;obtain⟨j,hj,rfl⟩:=mem_iff_getElem.1 hp;have hj':j < part.length:=hj;exact h3 j hj' (by omega) q hq
  ·rename_i p hp;obtain⟨hlt,rfl⟩:=List.getElem?_eq_some_iff.1 hp;have tw:=Kn (fun x=>touchR part[i] x) left
   obtain⟨g1,g2,g3⟩:=TW a x f (part++left.filter fun x=>touchR part[i] x) (left.filter fun x=>!touchR part[i] x) (i+1) (by rw[length_append];omega) (by rw[length_append];omega)
    (fun q hq=>by
     rcases mem_append.1 hq with hq |hq
     ·exact h1 q hq
     ·rw[mem_filter]at hq;exact .step (h1 _ (getElem_mem hlt)) (h2 q hq.1) hq.2)
    (fun q hq=>h2 q (mem_filter.1 hq).1)
    (fun j hj hji q hq=>by
     rw[mem_filter]at hq;by_cases e:j=i
     ·subst e;rw[List.getElem_append_left hlt];simpa using hq.2
     ·rw[List.getElem_append_left (by omega)];exact h3 j (by omega) (by omega) q hq.1)
   exact⟨g1,g2,fun p hp=>g3 p (List.mem_append_left _ hp)⟩
theorem afb {x:aj} {xs:List aj} (h:bH (x::xs)=true):(kg (x::xs)).length=1↔∀ q∈x::xs,Rch (x::xs) x q:=by
 have nd:=Px h;have gp:=TU (xs.length+2) [x] xs 0;obtain⟨g1,g2,g3⟩:=TW (x::xs) x (xs.length+2) [x] xs 0 (by simp;omega) (by omega) (fun p hp=>by
  have:p=x:=by simpa using hp
  rw[this];exact .base) (fun q hq=>List.mem_cons_of_mem _ hq) (by omega)
 unfold kg;rw[h,cond_true,length_cons];simp only[ES,length_cons];generalize iB (xs.length+2) [x] 0 xs=G at*;have e:(ES (xs.length+1) G.2).length+1=1↔G.2=[]:=by
  constructor
  ·intro hh;cases hG:G.2 with
   |nil=>rfl
   |cons y ys=>rw[hG]at hh;simp[ES]at hh
  ·intro hh;rw[hh];simp[ES]
 rw[e];have mem:∀ q,(q∈G.1∨q∈G.2)↔q∈x::xs:=fun q=>by rw[<- mem_append,gp.mem_iff];simp
 constructor
 ·intro hh q hq;rcases (mem q).2 hq with h1 |h1
  ·exact g1 q h1
  ·rw[hh]at h1;cases h1
 ·intro hall;have clo:∀ q,Rch (x::xs) x q->q∈G.1:=by
   intro q hq
   induction hq with
   |base=>exact g3 x (by simp)
   |step hp hq ht ih=>
    rcases (mem _).2 hq with h1 |h1
    ·exact h1
    ·rw[g2 _ ih _ h1]at ht;cases ht
  cases hG:G.2 with
  |nil=>rfl
  |cons y ys=>
   exfalso;have nd2:(G.1++G.2).Nodup:=gp.nodup_iff.2 (by simpa using nd);have hy:y∈G.2:=(by rw[hG];simp);have h1:=clo y (hall y ((mem y).1 (.inr hy)));rw[List.nodup_append]at nd2;exact nd2.2.2 y h1 y hy rfl
theorem Yt {p q:aj} (hp:OkR p=true) (hq:OkR q=true):IK p q=some (touchR p q):=by
 unfold IK touchR gxR gyR;rw[hp,hq];simp only[OkR,and_eq_true,decide_eq_true_eq]at hp hq;rw[cK (x:=min p.x1 q.x1 - max p.x0 q.x0) (by omega) (by omega),cK (x:=min p.y1 q.y1 - max p.y0 q.y0) (by omega) (by omega),cK (x:=max p.x0 q.x0 - min p.x1 q.x1) (by omega) (by omega),cK (x:=max p.y0 q.y0 - min p.y1 q.y1) (by omega) (by omega)];simp only[Bool.and_self,Bool.true_and];have e1:decide (min p.x1 q.x1 - max p.x0 q.x0>0)=decide (max p.x0 q.x0 - min p.x1 q.x1 < 0):=decide_eq_decide.2 (by omega);have e2:(min p.y1 q.y1 - max p.y0 q.y0==0)=(max p.y0 q.y0 - min p.y1 q.y1==0):=by rw[Bool.eq_iff_iff,beq_iff_eq,beq_iff_eq];omega
 have e3:(min p.x1 q.x1 - max p.x0 q.x0==0)=(max p.x0 q.x0 - min p.x1 q.x1==0):=by rw[Bool.eq_iff_iff,beq_iff_eq,beq_iff_eq];omega
 have e4:decide (min p.y1 q.y1 - max p.y0 q.y0>0)=decide (max p.y0 q.y0 - min p.y1 q.y1 < 0):=decide_eq_decide.2 (by omega);rw[e1,e2,e3,e4];cases decide (max p.x0 q.x0 - min p.x1 q.x1 < 0)<;>cases (max p.y0 q.y0 - min p.y1 q.y1==0)<;>cases (max p.x0 q.x0 - min p.x1 q.x1==0)<;>cases decide (max p.y0 q.y0 - min p.y1 q.y1 < 0)<;>rfl
def FU (p:aj) (a:List aj) (d:List Bool):List Bool:=(a.zip d).map fun q=>q.2 || touchR p q.1
def Vo (p:aj) (a:List aj) (d:List Bool):List aj:=((a.zip d).filter fun q=>!q.2&&touchR p q.1).map (·.1)
theorem Oi {n:Nat} {a l:List aj} {d:List Bool} (hv:∀ r∈a,OkR r=true) (hd:d.length=a.length) (k:Nat) (hk:k < l.length) (ho:OkR l[k]=true) (ha:a.length<=900) (hl:l.length<=10000) (hn:1000<=n):
 iter (qj a (k:Int)) n ((0:Int),d,l)=some (FU l[k] a d,l++Vo l[k] a d):=by
 have zl:(a.zip d).length=a.length:=by rw[List.length_zip];omega
 have nl:∀ m,(((a.zip d).take m).filter fun q=>!q.2&&touchR l[k] q.1).length<=m:=fun m=>Nat.le_trans (length_filter_le _ _) (by rw[length_take];omega);have:=dm (step:=qj a (k:Int)) (fun m=>(((m:Nat):Int),(((a.zip d).take m).map fun q=>q.2 || touchR l[k] q.1)++d.drop m,l++(((a.zip d).take m).filter fun q=>!q.2&&touchR l[k] q.1).map (·.1))) a.length (FU l[k] a d,l++Vo l[k] a d) (fun m hm=>?_) ?_ n (by omega)
 ·simpa using this
 ·have c:decide (((m:Nat):Int) < (a.length:Int))=true:=by simpa using hm
  have hdm:m < d.length:=by omega
  have nlm:=nl m;have ib:inb ((m:Nat):Int) ((a.length:Int)).toNat=true:=by rw[Int.toNat_natCast];exact aZ hm
  have tl:(((a.zip d).take m).map fun q=>q.2 || touchR l[k] q.1).length=m:=by rw[length_map,length_take];omega
  have dr:d.drop m=d[m]::d.drop (m+1):=drop_eq_getElem_cons hdm;have g:at? ((((a.zip d).take m).map fun q=>q.2 || touchR l[k] q.1)++d.drop m) (((0:Nat):Int)+((m:Nat):Int))=some d[m]:=by rw[dR,List.getElem?_append_right (by omega),tl,dr];simp
  have zt:(((0:Nat):Int)+((m:Nat):Int)).toNat=m:=by omega
  have st:((((a.zip d).take m).map fun q=>q.2 || touchR l[k] q.1)++d.drop m).set m true=(((a.zip d).take m).map fun q=>q.2 || touchR l[k] q.1)++(true::d.drop (m+1)):=by rw[set_append_right _ _ (by omega),tl,dr,Nat.sub_self,List.set_cons_zero]
  have kl:k < (l++(((a.zip d).take m).filter fun q=>!q.2&&touchR l[k] q.1).map (·.1)).length:=by rw[length_append];omega
  have gk:(l++(((a.zip d).take m).filter fun q=>!q.2&&touchR l[k] q.1).map (·.1))[k]=l[k]:=List.getElem_append_left hk;have tc:=Yt ho (hv _ (getElem_mem hm));have s1:(sub ([a[m]]:List aj) 0 1)=[a[m]]:=rfl;have ap:aX (l++(((a.zip d).take m).filter fun q=>!q.2&&touchR l[k] q.1).map (·.1)).length (l++(((a.zip d).take m).filter fun q=>!q.2&&touchR l[k] q.1).map (·.1)).length ([a[m]]:List aj).length 1 32=true:=by
   refine aU (n:=1) ?_ ?_
   ·rw[length_append,length_map];omega
   ·rw[length_append,length_map];simp only[maxLen];omega
  have tz:(a.zip d).take (m+1)=(a.zip d).take m++[(a[m],d[m])]:=by rw[take_succ_eq_append_getElem (by omega),List.getElem_zip]
  have e1:((a.zip d).take (m+1)).map (fun q=>q.2 || touchR l[k] q.1)++d.drop (m+1)=(((a.zip d).take m).map fun q=>q.2 || touchR l[k] q.1)++((d[m] || touchR l[k] a[m])::d.drop (m+1)):=by rw[tz,map_append,append_assoc];rfl
  have e2:l++(((a.zip d).take (m+1)).filter fun q=>!q.2&&touchR l[k] q.1).map (·.1)=(l++(((a.zip d).take m).filter fun q=>!q.2&&touchR l[k] q.1).map (·.1))++(bif !d[m]&&touchR l[k] a[m]then [a[m]]else []):=by
   rw[tz,filter_append,map_append,append_assoc];congr 2;cases hb:(!d[m]&&touchR l[k] a[m])<;>simp[hb]
  rw[e1,e2];simp only[qj,c,cond_true,ib,g,bind_some,aZ kl,dD kl,gk,aQ hm,tc,s1,ap,bG,aA,zt,st];rw[aC (by omega),dr];cases d[m]with
  |true=>simp
  |false=>cases touchR l[k] a[m]<;>simp
 ·have c:decide (((a.length:Nat):Int) < (a.length:Int))=false:=by simp
  have e:(a.zip d).take a.length=a.zip d:=take_of_length_le (by omega);have e2:d.drop a.length=[]:=drop_of_length_le (by omega);simp only[qj,c,cond_false,aA,cond_true,e,e2,append_nil];rfl
def Xa (d:List Bool):Nat:=(d.filter fun b=>!b).length
theorem ahc {p:aj} {a:List aj} {d:List Bool} (hd:d.length=a.length):(FU p a d).length=a.length:=by unfold FU;rw[length_map,List.length_zip];omega
theorem TY {p:aj} {a:List aj} {d:List Bool} {m:Nat} (h1:m < (FU p a d).length) (h2:m < a.length) (h3:m < d.length):(FU p a d)[m]=(d[m] || touchR p a[m]):=by simp[FU]
theorem Xb:∀ {p:aj} {a:List aj} {d:List Bool},d.length=a.length->Xa (FU p a d)+(Vo p a d).length=Xa d
 |p,[],[],_=>rfl
 |p,a::a2,b::ds,h=>by
  have ih:=Xb (p:=p) (a:=a2) (d:=ds) (by simpa using h);have e1:FU p (a::a2) (b::ds)=(b || touchR p a)::FU p a2 ds:=rfl;have e2:Vo p (a::a2) (b::ds)=(bif !b&&touchR p a then [a]else [])++Vo p a2 ds:=by
   unfold Vo;rw[List.zip_cons_cons,List.filter_cons];cases hb:(!b&&touchR p a)<;>simp[hb]
  rw[e1,e2];unfold Xa at*;rw[List.filter_cons,List.filter_cons];cases b<;>cases touchR p a<;>simp<;>omega
theorem Oj {n:Nat} {a:List aj} (x:aj) (hx:OkR x=true) (hv:∀ r∈a,OkR r=true) (ha:a.length<=900) (hn:1000<=n):∀ (m k:Nat) (d:List Bool) (l:List aj),l.length+Xa d<=k+m->k<=l.length->l.length+Xa d<=2000->d.length=a.length->(∀ r∈l,(r∈a∨r=x)∧Rch a x r)->(∀ j (hj:j < l.length),j < k->∀ i (hi:i < a.length) (hi2:i < d.length),d[i]=false->touchR l[j] a[i]=false)->∀ f,m < f->
 ∃ d' l',iter (j4 n a) f ((k:Int),d,l)=some (d',l')∧d'.length=a.length∧l'.length<=2000∧(∀ r∈l',(r∈a∨r=x)∧Rch a x r)∧(∀ r∈l,r∈l')∧(∀ i (h1:i < d.length) (h2:i < d'.length),d[i]=true->d'[i]=true)∧(∀ p∈l',∀ i (hi:i < a.length) (hi2:i < d'.length),d'[i]=false->touchR p a[i]=false)∧(∀ i (hi:i < a.length) (h1:i < d.length) (h2:i < d'.length),d'[i]=true->d[i]=true∨a[i]∈l'):=by
 intro m
 induction m with
 |zero=>
  intro k d l hm hk hb hd hl hc f hf;obtain⟨f,rfl⟩:∃ j,f=j+1:=⟨f - 1,by omega⟩;have c:decide (((k:Nat):Int) < ((l.length:Nat):Int))=false:=by simp;omega
  refine⟨d,l,aS (by simp only[j4,c,cond_false,aA,cond_true]),hd,by omega,hl,fun r h=>h,fun i _ _ h=>h,fun p hp i hi hi2 h=>?_,fun i _ _ _ h=> .inl h⟩;obtain⟨j,hj,rfl⟩:=mem_iff_getElem.1 hp;exact hc j hj (by omega) i hi hi2 h
 |succ m ih=>
  intro k d l hm hk hb hd hl hc f hf;obtain⟨f,rfl⟩:∃ j,f=j+1:=⟨f - 1,by omega⟩;by_cases hkl:k < l.length
  ·have c:decide (((k:Nat):Int) < ((l.length:Nat):Int))=true:=(by simpa using hkl);have hlk:=hl _ (getElem_mem hkl);have ok:OkR l[k]=true:=by
    rcases hlk.1 with h |h
    ·exact hv _ h
    ·rw[h];exact hx
   have s3:=Oi (n:=n) hv hd k hkl ok ha (by omega) hn;have fo:=Xb (p:=l[k]) hd;have stp:j4 n a ((k:Int),d,l)=some (.inl (((k+1:Nat):Int),FU l[k] a d,l++Vo l[k] a d)):=by
    simp only[j4,c,cond_true,aA,s3,bind_some];rw[aC (by omega)]
   have fl:=ahc (p:=l[k]) hd
   obtain⟨d',l',h1,h2,h3,h4,h5,h6,h7,h8⟩:=ih (k+1) (FU l[k] a d) (l++Vo l[k] a d) (by rw[length_append];omega) (by rw[length_append];omega) (by rw[length_append];omega) fl
    (fun r hr=>by
     rcases mem_append.1 hr with hr |hr
     ·exact hl r hr
     ·unfold Vo at hr;obtain⟨q,hq,rfl⟩:=mem_map.1 hr;rw[mem_filter,and_eq_true]at hq;have hqa:q.1∈a:=(List.of_mem_zip hq.1).1;exact⟨.inl hqa,.step hlk.2 hqa hq.2.2⟩)
    (fun j hj hjk i hi hi2 hf=>by
     rw[TY hi2 hi (by omega),Bool.or_eq_false_iff]at hf;by_cases e:j=k
     ·subst e;rw[List.getElem_append_left hkl];exact hf.2
     ·rw[List.getElem_append_left (by omega)];exact hc j (by omega) (by omega) i hi (by omega) hf.1) f (by omega)
   refine⟨d',l',by rw[bf stp];exact h1,h2,h3,h4,fun r hr=>h5 r (List.mem_append_left _ hr),fun i i1 i2 hh=>?_,h7,fun i hi i1 i2 hh=>?_⟩
   ·refine h6 i (by omega) i2 ?_;rw[TY (by omega) (by omega) i1,hh];rfl
   ·rcases h8 i hi (by omega) i2 hh with g |g
    ·rw[TY (by omega) hi i1,Bool.or_eq_true]at g;cases hdi:d[i]with
     |true=>exact .inl rfl
     |false=>
      rcases g with g |g
      ·rw[hdi]at g;cases g
      ·right;refine h5 _ (mem_append_right _ ?_);unfold Vo;rw[mem_map];refine⟨(a[i],d[i]),?_,rfl⟩;rw[mem_filter];refine⟨?_,by rw[hdi,g];rfl⟩;rw[mem_iff_getElem];exact⟨i,by rw[List.length_zip];omega,by simp⟩
    ·exact .inr g
  ·have c:decide (((k:Nat):Int) < ((l.length:Nat):Int))=false:=(by simp;omega);refine⟨d,l,aS (by simp only[j4,c,cond_false,aA,cond_true]),hd,by omega,hl,fun r h=>h,fun i _ _ h=>h,fun p hp i hi hi2 h=>?_,fun i _ _ _ h=> .inl h⟩;obtain⟨j,hj,rfl⟩:=mem_iff_getElem.1 hp;exact hc j hj (by omega) i hi hi2 h
theorem Bt {n:Nat} {a:List aj} (hv:∀ r∈a,OkR r=true) (ha:a.length<=200) (hn:50000<=n) (i:Nat) (hi:i < a.length) (d:List Bool) (hd:d.length=a.length) (hid:i < d.length) (hdi:d[i]=false) (out:List (List aj)) (ho:out.length<=1000):
 ∃ d' p,gP n a ((i:Int),d,out)=some (.inl (((i+1:Nat):Int),d',out++[p]))∧d'.length=a.length∧(∀ h:i < d'.length,d'[i]=true)∧((∀ j (h:j < d.length),d[j]=false)->i=0->a.Nodup->((∀ j (h:j < d'.length),d'[j]=true)↔∀ q∈a,Rch a a[i] q)):=by
 have c:decide (((i:Nat):Int) < (a.length:Int))=true:=by simpa using hi
 have ib:inb ((i:Nat):Int) ((a.length:Int)).toNat=true:=by rw[Int.toNat_natCast];exact aZ hi
 have zt:(((0:Nat):Int)+((i:Nat):Int)).toNat=i:=by omega
 have on:Xa (d.set i true)<=200:=Nat.le_trans (length_filter_le _ _) (by rw[List.length_set];omega)
 obtain⟨d',l',h1,h2,h3,h4,h5,h6,h7,h8⟩:=Oj (n:=n) (a:=a) a[i] (hv _ (getElem_mem hi)) hv (by omega) (by omega) 1000 0 (d.set i true) [a[i]] (by simp;omega) (by omega) (by simp;omega) (by rw[List.length_set];exact hd)
  (fun r hr=>by
   have:r=a[i]:=(by simpa using hr);rw[this];exact⟨.inr rfl,.base⟩) (by omega) n (by omega)
 have okl:∀ r∈l',OkR r=true:=fun r hr=>by
  rcases (h4 r hr).1 with h |h
  ·exact hv r h
  ·rw[h];exact hv _ (getElem_mem hi)
 have e1:eqL 1 ([a[i]]:List aj).length=true:=rfl;have s1:(sub ([aT (aG l')]:List (List aj)) 0 1)=[aT (aG l')]:=rfl;have ap:aX out.length out.length ([aT (aG l')]:List (List aj)).length 1 24=true:=aU (n:=1) (by omega) (by simp only[maxLen];omega);have h1':iter (j4 n a) n ((0:Int),d.set i true,[a[i]])=some (d',l'):=h1;have x1:∀ h:i < d'.length,d'[i]=true:=fun h=>h6 i (by rw[List.length_set];exact hid) h (by rw[List.getElem_set];simp);refine⟨d',aT (aG l'),?_,h2,x1,fun hall h0 nd=>?_⟩
 ·simp only[gP,c,cond_true,ib,dD hid,bind_some,hdi,cond_false,aQ hi,e1,zt,h1',aV,aA,E9 okl (by omega) hn,s1,ap,bG];rw[aC (by omega)]
 ·
  constructor
  ·intro hh q hq;obtain⟨m,hm,rfl⟩:=mem_iff_getElem.1 hq;rcases h8 m hm (by rw[List.length_set];omega) (by omega) (hh m (by omega))with g |g
   ·rw[List.getElem_set]at g;split at g
    ·rename_i e;subst e;exact .base
    ·rw[hall m (by omega)]at g;cases g
   ·exact (h4 _ g).2
  ·intro hh;have clo:∀ q,Rch a a[i] q->q∈l':=by
    intro q hq
    induction hq with
    |base=>exact h5 _ (by simp)
    |step hp hq ht ih=>
     obtain⟨m,hm,rfl⟩:=mem_iff_getElem.1 hq;cases hdm:d'[m]'(by omega)with
     |false=>rw[h7 _ ih m hm (by omega) hdm]at ht;cases ht
     |true=>
      rcases h8 m hm (by rw[List.length_set];omega) (by omega) hdm with g |g
      ·rw[List.getElem_set]at g;split at g
       ·rename_i e;subst e;exact h5 _ (by simp)
       ·rw[hall m (by omega)]at g;cases g
      ·exact g
   intro j hj;have hja:j < a.length:=(by omega);by_cases hji:j=i
   ·subst hji;exact x1 hj
   ·have hr:=hh a[j] (getElem_mem hja);generalize hq:a[j]=q at hr;cases hr with
    |base=>
     have nd':=pairwise_iff_getElem.1 nd;rcases Nat.lt_or_gt_of_ne hji with c |c
     ·exact absurd hq (nd' j i hja hi c)
     ·exact absurd hq.symm (nd' i j hi hja c)
    |step hp hqa ht=>
     cases hdm:d'[j]with
     |true=>rfl
     |false=>
      rw[<- hq,h7 _ (clo _ hp) j hja hj hdm]at ht;cases ht
theorem Dw {n:Nat} {a:List aj} (hv:∀ r∈a,OkR r=true) (ha:a.length<=200) (hn:50000<=n):∀ (m i:Nat) (d:List Bool) (out:List (List aj)),i+m=a.length->d.length=a.length->out.length<=i->∀ f,m < f->
 ∃ out',iter (gP n a) f ((i:Int),d,out)=some out'∧out.length<=out'.length∧out'.length<=200∧(out'.length=out.length↔∀ j (h:j < d.length),i<=j->d[j]=true):=by
 intro m
 induction m with
 |zero=>
  intro i d out hm hd ho f hf;obtain⟨f,rfl⟩:∃ j,f=j+1:=⟨f - 1,by omega⟩;have c:decide (((i:Nat):Int) < (a.length:Int))=false:=by simp;omega
  exact⟨out,aS (by simp only[gP,c,cond_false,aA,cond_true]),by omega,by omega,⟨fun _ j h hj=>by omega,fun _=>rfl⟩⟩
 |succ m ih=>
  intro i d out hm hd ho f hf;obtain⟨f,rfl⟩:∃ j,f=j+1:=⟨f - 1,by omega⟩;have hi:i < a.length:=by omega
  have hid:i < d.length:=by omega
  have c:decide (((i:Nat):Int) < (a.length:Int))=true:=by simpa using hi
  have ib:inb ((i:Nat):Int) ((a.length:Int)).toNat=true:=by rw[Int.toNat_natCast];exact aZ hi
  cases hdi:d[i]with
  |true=>
   have stp:gP n a ((i:Int),d,out)=some (.inl (((i+1:Nat):Int),d,out)):=by
    simp only[gP,c,cond_true,ib,dD hid,bind_some,hdi,aA];rw[aC (by omega)]
   obtain⟨out',h1,h2,h3,h4⟩:=ih (i+1) d out (by omega) hd (by omega) f (by omega);refine⟨out',by rw[bf stp];exact h1,h2,h3,h4.trans ⟨fun h j hj hij=>?_,fun h j hj hij=>h j hj (by omega)⟩⟩;rcases Nat.eq_or_lt_of_le hij with e |e
   ·subst e;exact hdi
   ·exact h j hj e
  |false=>
   obtain⟨d',p,s1,s2,s3,_⟩:=Bt hv ha hn i hi d hd hid hdi out (by omega);obtain⟨out',h1,h2,h3,h4⟩:=ih (i+1) d' (out++[p]) (by omega) s2 (by rw[length_append,length_singleton];omega) f (by omega);rw[length_append,length_singleton]at h2;refine⟨out',by rw[bf s1];exact h1,by omega,h3,⟨fun h=>by omega,fun h=>?_⟩⟩;have:=h i hid (Nat.le_refl _);rw[hdi]at this;cases this
theorem acK {k:Nat} (h:k<=900):Lh (k:Int) 1=true:=by
 simp only[Lh,and_eq_true,decide_eq_true_eq];refine⟨⟨by omega,by omega⟩,?_⟩;show ((k:Int)).toNat<=2 ^ 63 - 1;omega
theorem ug {n:Nat} {a:List aj} (ha:a.length<=900) (hn:50000<=n):∃ out,rP n a=some out∧(((out.length:Nat):Int)==1)=Dv a:=by
 unfold rP Dv;rw[lX (by omega) hn];simp only[bind_some];cases hr:bH a with
 |false=>exact⟨[],rfl,by unfold kg;rw[hr];rfl⟩
 |true=>
  have w:=bZ hr;have mk:(decide ((a.length:Int)<=(a.length:Int))&&(decide (0<=(a.length:Int))&&Lh (a.length:Int) 1))=true:=by
   have:Lh (a.length:Int) 1=true:=acK (by have:=w.2.1;omega);simp[this]
  have rl:(List.replicate ((a.length:Int)).toNat false).length=a.length:=by simp
  obtain⟨out,h1,h2,h3,h4⟩:=Dw w.1 w.2.1 hn a.length 0 (List.replicate ((a.length:Int)).toNat false) [] (by omega) rl (by simp) n (by omega);have h1':iter (gP n a) n ((0:Int),List.replicate ((a.length:Int)).toNat false,([]:List (List aj)))=some out:=h1;refine⟨out,by simp only[Bool.not_true,cond_false,mk,cond_true,length_nil,aA,h1',bind_some,aV],?_⟩
  match a,hr,w,rl,h1,h4,ha with
  |[],hr,w,rl,h1,h4,_=>
   have:out.length=0:=(by simpa using h4);have e:(kg []).length=0:=(by rfl);rw[e,this]
  |x::xs,hr,w,rl,h1,h4,_=>
   have hx:0 < (x::xs).length:=(by simp);obtain⟨d',p,s1,s2,s3,s4⟩:=Bt (n:=n) w.1 w.2.1 hn 0 hx (List.replicate (((x::xs).length:Int)).toNat false) rl (by rw[rl];exact hx) (by simp) [] (by simp);obtain⟨n',rfl⟩:∃ k,n=k+1:=⟨n - 1,by omega⟩;obtain⟨out2,g1,g2,g3,g4⟩:=Dw w.1 w.2.1 hn xs.length 1 d' ([]++[p]) (by simp;omega) s2 (by simp) n' (by
    have:=w.2.1;simp at this;omega)
   have s1':gP (n'+1) (x::xs) (((0:Nat):Int),List.replicate (((x::xs).length:Int)).toNat false,[])=some (.inl (((0+1:Nat):Int),d',[]++[p])):=s1;rw[bf s1']at h1;have:out2=out:=by
    have:=g1.symm.trans h1;injection this
   subst this;have key:=s4 (fun j h=>by simp) rfl (Px hr);have po:=afb hr;have l1:([]++[p]:List (List aj)).length=1:=rfl;rw[l1]at g4;have iff1:out2.length=1↔(kg (x::xs)).length=1:=by
    have po':(kg (x::xs)).length=1↔∀ q∈x::xs,Rch (x::xs) (x::xs)[0] q:=po;rw[g4,po',<- key];constructor
    ·intro h j hj;by_cases e:j=0
     ·subst e;exact s3 hj
     ·exact h j hj (by omega)
    ·intro h j hj _;exact h j hj
   rw[Bool.eq_iff_iff,beq_iff_eq,beq_iff_eq];omega
theorem ML (r:aj):Dl r=some (OkR r):=by simp only[Dl,Mh,Ho,bind_some,Bool.and_assoc]
theorem acL (a b:aj):QM a b=some (NT a b):=by
 unfold QM NT;rw[ML,ML];simp only[bind_some];cases ha:OkR a with
 |false=>rfl
 |true=>
  cases hb:OkR b with
  |false=>rfl
  |true=>
   simp only[OkR,and_eq_true,decide_eq_true_eq]at ha hb;obtain⟨a1,a2,a3,a4,a5,a6⟩:=ha;obtain⟨b1,b2,b3,b4,b5,b6⟩:=hb;have ap:∀ p q r s:Int,0<=p->p < q->q<=1048576->0<=r->r < s->s<=1048576->Dm p q r s=some (max 0 (max p r - min q s+1)):=by
    intro p q r s h1 h2 h3 h4 h5 h6;unfold Dm;by_cases c1:r>=q
    ·simp only[c1,decide_true,cond_true];rw[cK (x:=r - q) (by omega) (by omega),cK (by omega) (by omega)];congr 1;omega
    ·simp only[c1,decide_false,cond_false];by_cases c2:p>=s
     ·simp only[c2,decide_true,cond_true];rw[cK (x:=p - s) (by omega) (by omega),cK (by omega) (by omega)];congr 1;omega
     ·simp only[c2,decide_false,cond_false];congr 1;omega
   rw[ap _ _ _ _ a1 a2 a3 b1 b2 b3,ap _ _ _ _ a4 a5 a6 b4 b5 b6];simp only[Bool.not_true,cond_false,bind_some,Bool.or_self];rw[cK (x:=max a.x0 b.x0 - min a.x1 b.x1) (by omega) (by omega),cK (x:=max a.y0 b.y0 - min a.y1 b.y1) (by omega) (by omega),cK (by omega) (by omega)];congr 1;omega
theorem T9 {n:Nat} {a b:List aj} {i:Nat} (hi:i < a.length) (hb:b.length < 1099511627776) (hn:b.length < n) (m:Int):iter (zx a b (i:Int)) n (m,(0:Int))=some (b.foldl (fun m y=>min m (NT a[i] y)) m):=by
 have:=CY (l:=b) (step:=zx a b (i:Int)) (fun i (s:Int)=>(s,((i:Nat):Int))) (fun y m=>min m (NT a[i] y)) (fun s=>s) (fun j hj s=>?_) (fun s=>by simp[zx]) n hn m
 ·exact this
 ·have hj':decide (((j:Nat):Int) < (b.length:Int))=true:=by simpa using hj
  simp only[zx,hj',cond_true,aQ hi,aQ hj,bind_some,acL];rw[aC (by omega)]
theorem acM {n:Nat} {a b:List aj} (ha:a.length<=900) (hb:b.length<=900) (hn:50000<=n):Mi n a b=some (Jf a b):=by
 unfold Mi Jf;have z:∀ l:List aj,(((l.length:Int))==0)=decide (l=[]):=fun l=>by cases l<;>simp<;>omega
 rw[z a,z b,lX (by omega) hn,lX (by omega) hn];have loop:(iter (zy n a b) n ((1048576:Int),(0:Int)))=some (a.foldl (fun m x=>b.foldl (fun m y=>min m (NT x y)) m) 1048576):=by
  have:=CY (l:=a) (step:=zy n a b) (fun i (s:Int)=>(s,((i:Nat):Int))) (fun x m=>b.foldl (fun m y=>min m (NT x y)) m) (fun s=>s) (fun i hi s=>?_) (fun s=>by simp[zy]) n (by omega) 1048576
  ·exact this
  ·have hi':decide (((i:Nat):Int) < (a.length:Int))=true:=(by simpa using hi);simp only[zy,hi',cond_true];rw[T9 hi (by omega) (by omega),bind_some,aC (by omega)]
 simp only[bind_some,loop];cases decide (a=[])<;>cases decide (b=[])<;>cases bH a<;>cases bH b<;>rfl
theorem aaL {t:ax} (h:dx t):u6 t=some t:=by
 unfold u6;have a1:aX ([]:List aj).length 0 t.area.length t.area.length 32=true:=aU (a:=0) (by omega) (by simp only[maxLen];omega);have a2:aX ([]:List Int).length 0 t.from_.length t.from_.length 8=true:=aU (a:=0) (by omega) (by simp only[maxLen];omega);simp only[a1,a2,cond_true,bG,nil_append,aV,aA]
theorem vw {n:Nat} {land:List ax} {id:Int} (h:∀ t∈land,dx t) (hl:land.length < 1099511627776) (hn:land.length < n):u7 n land id=some (aI land id):=by
 unfold u7;have:=bX (l:=land) (step:=Bc land id) (fun i=>(i:Int)) (fun t=>t.id==id) () (fun i=>(land.getD i dw,true)) (fun i hi=>?_) ?_ n hn
 ·rw[show ((0:Nat):Int)=0 from rfl]at this;rw[this];unfold aI;rcases ER (fun t:ax=>t.id==id) land with ⟨i,hi,h1,h2⟩ |⟨h1,h2⟩
  ·rw[h1,h2];simp[hi]
  ·rw[h1,h2];rfl
 ·have hi':decide (((i:Nat):Int) < (land.length:Int))=true:=by simpa using hi
  simp only[Bc,hi',cond_true,aQ hi,bind_some,aaL (h _ (getElem_mem hi))];cases land[i].id==id with
  |true=>simp[hi]
  |false=>simp only[cond_false];rw[aC (by omega)]
 ·simp[Bc]
theorem zJ {n:Nat} {l:List Int} {a:Int} (hl:l.length < 1099511627776) (hn:l.length < n):xL n l a=some (decide (a∈l)):=by
 unfold xL;have:=bX (l:=l) (step:=EL l a) (fun i=>(i:Int)) (fun x=>x==a) () (fun _=>true) (fun i hi=>?_) ?_ n hn
 ·rw[show ((0:Nat):Int)=0 from rfl]at this;rw[this,<- ah2,<- pM];cases fI (fun x=>x==a) l<;>rfl
 ·have hi':decide (((i:Nat):Int) < (l.length:Int))=true:=by simpa using hi
  simp only[EL,hi',cond_true,aQ hi,bind_some];cases l[i]==a with
  |true=>rfl
  |false=>simp only[cond_false];rw[aC (by omega)]
 ·simp[EL]
theorem Bu {n:Nat} {l:List Int} {a:Int} (hs:l.Pairwise (· < ·)) (hl:l.length < 10995116277) (hn:l.length < n):qm n l a=some (kV (l++[a])):=by
 unfold qm;rw[zJ (by omega) hn];simp only[bind_some];by_cases ha:a∈l
 ·simp only[ha,decide_true,cond_true];congr 1;exact GH hs fun z=>by simp only[mem_append,mem_singleton];exact⟨fun h=> .inl h,fun h=>by rcases h with h |rfl<;>assumption⟩
 ·simp only[ha,decide_false,cond_false];obtain⟨k,k1,k2,k3,k4⟩:∃ k,k<=l.length∧iter (lN l a) n (0:Int)=some (k:Int)∧(∀ j (h:j < l.length),k<=j->a < l[j])∧(∀ h:0 < k,∀ h':k - 1 < l.length,l[k - 1] < a):=by
   have gen:∀ (m i:Nat),i+m=l.length->(∀ h:0 < i,∀ h':i - 1 < l.length,l[i - 1] < a)->∀ q,m < q->∃ k,k<=l.length∧iter (lN l a) q (i:Int)=some (k:Int)∧(∀ j (h:j < l.length),k<=j->a < l[j])∧(∀ h:0 < k,∀ h':k - 1 < l.length,l[k - 1] < a):=by
    intro m
    induction m with
    |zero=>
     intro i hi h q hq;obtain⟨q,rfl⟩:∃ j,q=j+1:=⟨q - 1,by omega⟩;have:i=l.length:=(by omega);subst this;exact⟨l.length,Nat.le_refl _,aS (by simp[lN]),fun j h1 h2=>by omega,h⟩
    |succ m ih=>
     intro i hi h q hq;obtain⟨q,rfl⟩:∃ j,q=j+1:=⟨q - 1,by omega⟩;have hil:i < l.length:=(by omega);have d:decide (((i:Nat):Int) < (l.length:Int))=true:=(by simpa using hil);by_cases hla:l[i] < a
     ·have stp:lN l a (i:Int)=some (.inl (((i+1:Nat)):Int)):=by
       simp only[lN,d,cond_true,aQ hil,bind_some,hla,decide_true];rw[aC (by omega)]
      rw[bf stp];exact ih (i+1) (by omega) (fun _ _=>hla) q (by omega)
     ·refine⟨i,by omega,aS ?_,fun j h1 h2=>?_,h⟩
      ·simp only[lN,d,cond_true,aQ hil,bind_some,hla,decide_false,cond_false]
      ·have hne:l[i]≠a:=fun e=>ha (e ▸ getElem_mem hil);by_cases e:j=i
       ·subst e;omega
       ·have:=TK hs (show i < j by omega) h1;omega
   exact gen l.length 0 (by omega) (fun h=>by omega) n hn
  have lt:(l.take k).length=k:=by rw[length_take];omega
  have s1:sub l 0 ((k:Int)).toNat=l.take k:=by simp[sub]
  have s2:sub l ((k:Int)).toNat (l.length - ((k:Int)).toNat)=l.drop k:=by
   simp only[sub,Int.toNat_natCast];rw[take_of_length_le (by rw[length_drop];omega)]
  have o1:oh 0 (k:Int) l.length=true:=kH (by omega) (by omega) (by omega);have o2:oh (k:Int) (l.length:Int) l.length=true:=kH (by omega) (by omega) (by omega);have a1:aX 0 0 (l.take k).length (l.take k).length 8=true:=aU (a:=0) (by omega) (by simp only[maxLen];omega);have a2:aX (l.take k).length (l.take k).length (sub ([a]:List Int) 0 1).length 1 8=true:=aU (n:=1) (by omega) (by simp only[maxLen];omega);have sb:(sub ([a]:List Int) 0 1)=[a]:=rfl;rw[sb]at a2;have ld:(l.drop k).length=l.length - k:=by rw[length_drop]
  have a3:aX (l.take k++[a]).length (l.take k++[a]).length (l.drop k).length (l.drop k).length 8=true:=aU (by simp;omega) (by rw[length_append];simp only[maxLen,length_singleton];omega);simp only[k2,bind_some,o1,cond_true,s1,a1,bG,sb,a2,o2,s2,a3,aV,aA];congr 1;rw[append_assoc];exact GH (TL hs k1 k3 (fun h=>k4 h (by omega))) fun z=>by rw[List.singleton_append,aea];simp
theorem Ol (l:List Int) (a:Int):kV (kV l++[a])=kV (l++[a]):=SS fun z=>by simp[uE]
theorem aaM {n:Nat} {land:List ax} {id d:Int} (h:∀ t∈land,dx t) (hl:land.length<=99) (hn:50000<=n):Dn n land id d=some (FP land id d):=by
 unfold Dn FP;rw[vw h (by omega) (by omega)];simp only[bind_some];cases hf:(aI land id).2 with
 |false=>rfl
 |true=>
  have ht:=lW h id;simp only[Bool.not_true,cond_false,cond_true];have:=dm (step:=Be n land id d (aI land id)) (fun i=>(kV (jd (land.take i) (aI land id).1 id d),((i:Nat):Int))) land.length (kV (jd land (aI land id).1 id d)) (fun i hi=>?_) ?_ n (by omega)
  ·have z:kV (jd (land.take 0) (aI land id).1 id d)=[]:=(by simp[jd,kV,fC,dN]);simp only[z]at this;rw[show ((0:Nat):Int)=0 from rfl]at this;rw[this];rfl
  ·have hi':decide (((i:Nat):Int) < (land.length:Int))=true:=(by simpa using hi);have hu:=h _ (getElem_mem hi);have gp:Mi n (aI land id).1.area land[i].area=some (Jf (aI land id).1.area land[i].area):=acM ht.1 hu.1 hn;have e:((bif (Jf (aI land id).1.area land[i].area).2 then (bif (decide ((Jf (aI land id).1.area land[i].area).1<=d))then some (land[i].id != id)else some false)else some false):Option Bool)=some (wG (aI land id).1 id d land[i]):=by
    unfold wG;cases (Jf (aI land id).1.area land[i].area).2<;>cases decide ((Jf (aI land id).1.area land[i].area).1<=d)<;>rfl
   have ll:(kV (jd (land.take i) (aI land id).1 id d)).length<=99:=by
    refine Nat.le_trans (je _) ?_;unfold jd;rw[length_map];refine Nat.le_trans (length_filter_le _ _) ?_;rw[length_take];omega
   have nx:jd (land.take (i+1)) (aI land id).1 id d=jd (land.take i) (aI land id).1 id d++(bif wG (aI land id).1 id d land[i]then [land[i].id]else []):=by
    rw[take_succ_eq_append_getElem hi];unfold jd;rw[filter_append,map_append];congr 1;cases hb:wG (aI land id).1 id d land[i]<;>simp[hb]
   simp only[Be,hi',cond_true,aQ hi,bind_some,gp,e];rw[nx];cases wG (aI land id).1 id d land[i]with
   |true=>
    simp only[cond_true];rw[Bu (iT _) (by omega) (by omega),Ol];simp only[bind_some];rw[aC (by omega)]
   |false=>
    simp only[cond_false,bind_some,append_nil];rw[aC (by omega)]
  ·simp[Be]
theorem H7 {α V W O:Type} {l:List α} {step:V->Option (V ⊕ (W ⊕ O))} (enc:Nat->V) (p:α->Bool) (w:W) (o:O)
 (h:∀ i (hi:i < l.length),step (enc i)=some (bif p l[i]then .inr (.inr o)else .inl (enc (i+1))))
 (hend:step (enc l.length)=some (.inr (.inl w))) (n:Nat) (hn:l.length < n):iter step n (enc 0)=some (bif l.any p then .inr o else .inl w):=by
 rw[bX enc p w (fun _=>o) h hend n hn,<- jJ];cases fI p l<;>rfl
theorem nQ (x:Int):lM x=some (pE x):=by
 unfold lM pE;simp only[ge_iff_le];cases decide (1<=x)<;>rfl
def Fa (l:List Int):List (Option Int×Int):=(none::l.map some).zip l
theorem lY (l:List Int):(Fa l).length=l.length:=by simp[Fa]
theorem Ua {l:List Int} {i:Nat} (h:i < (Fa l).length):(Fa l)[i]=(if h0:i=0 then none else some (l[i - 1]'(by rw[lY]at h;omega)),l[i]'(by rw[lY]at h;exact h)):=by
 simp only[Fa,List.getElem_zip,Prod.mk.injEq,and_true];cases i with
 |zero=>simp
 |succ i=>simp
def ahd (p:Option Int×Int):Bool:=!pE p.2 || p.1.any fun y=>decide (y>=p.2)
theorem aec:∀ {l:List Int},(∀ i (h:i+1 < l.length),l[i] < l[i+1])->l.Pairwise (· < ·)
 |[],_=> .nil
 |[a],_=>List.pairwise_singleton _ _
 |a::b::l,h=>by
  have ih:=aec (l:=b::l) fun i hi=>h (i+1) (by simp at hi ⊢;omega);refine pairwise_cons.2 ⟨fun z hz=>?_,ih⟩;have hab:a < b:=h 0 (by simp);rcases mem_cons.1 hz with rfl |hz
  ·exact hab
  ·have:=(pairwise_cons.1 ih).1 z hz;omega
theorem ahe (l:List Int):(Fa l).any ahd=!(Ko l&&!(l.any fun x=>!pE x)):=by
 have key:∀ i (hi:i < l.length),ahd ((Fa l)[i]'(by rw[lY];exact hi))=(!pE l[i] || if h0:i=0 then false else decide (l[i - 1]>=l[i])):=by
  intro i hi;rw[Ua];unfold ahd;by_cases h0:i=0
  ·simp[h0]
  ·simp[h0]
 rw[Bool.eq_iff_iff];simp only[Bool.not_eq_true',Bool.and_eq_false_iff];constructor
 ·intro h;rw[any_eq_true]at h;obtain⟨p,hp,hb⟩:=h;obtain⟨i,hi,rfl⟩:=mem_iff_getElem.1 hp;rw[lY]at hi;rw[key i hi,Bool.or_eq_true]at hb;rcases hb with hb |hb
  ·right;rw[Bool.not_eq_false',any_eq_true];exact⟨l[i],getElem_mem hi,hb⟩
  ·left;by_cases h0:i=0
   ·simp[h0]at hb
   ·rw[dif_neg h0,decide_eq_true_eq]at hb;rw[Bool.eq_false_iff];intro ha;rw[Du,pairwise_iff_getElem]at ha;have:=ha (i - 1) i (by omega) hi (by omega);omega
 ·intro h;rw[<- Bool.not_eq_false];intro hf;rw[any_eq_false]at hf;have all:∀ i (hi:i < l.length),pE l[i]=true∧∀ h0:0 < i,l[i - 1] < l[i]:=by
   intro i hi;have:=hf _ (getElem_mem (show i < (Fa l).length by rw[lY];exact hi));rw[key i hi,Bool.or_eq_true,not_or]at this;refine⟨by simpa using this.1,fun h0=>?_⟩;have h2:=this.2;rw[dif_neg (by omega),decide_eq_true_eq]at h2;omega
  rcases h with h |h
  ·have:Ko l=true:=(Du l).2 (aec fun i hi=>by have:=(all (i+1) hi).2 (by omega);simpa using this);rw[this]at h;cases h
  ·rw[Bool.not_eq_false',any_eq_true]at h;obtain⟨x,hx,hb⟩:=h;obtain⟨i,hi,rfl⟩:=mem_iff_getElem.1 hx;rw[(all i hi).1]at hb;cases hb
theorem MN {n:Nat} {t:ax} (h:dx t) (hn:50000<=n):Dk n t=some (validL t):=by
 have h1:=h.1;have h2:=h.2;unfold Dk validL;have:=H7 (l:=Fa t.from_) (step:=xK t) (fun i=>((i:Nat):Int)) ahd () false (fun i hi=>?_) (by rw[lY];simp[xK]) n (by rw[lY];omega)
 ·rw[show ((0:Nat):Int)=0 from rfl]at this;rw[this];rw[ahe];obtain⟨out,ho,hc⟩:=ug (n:=n) (a:=t.area) (by omega) hn;have own:∀ b:Bool,((bif (decide (t.owner>=(0:Int)))then (bif (decide (t.owner<=(1073741824:Int)))then some b else some false)else some false):Option Bool)=some (ownB t.owner&&b):=by
   intro b;unfold ownB;simp only[ge_iff_le];cases decide (0<=t.owner)<;>cases decide (t.owner<=1073741824)<;>rfl
  rw[nQ,ho];simp only[bind_some,hc,own];unfold Dv;cases Ko t.from_<;>cases (t.from_.any fun x=>!pE x)<;>cases pE t.id<;>cases ownB t.owner<;>rfl
 ·rw[Ua];rw[lY]at hi;have hi':decide (((i:Nat):Int) < (t.from_.length:Int))=true:=by simpa using hi
  simp only[xK,hi',cond_true,aQ hi,bind_some,nQ];rw[aC (by omega)];unfold ahd;cases pE t.from_[i]with
  |false=>rfl
  |true=>
   by_cases h0:i=0
   ·subst h0;have:decide ((((0:Nat):Int))>0)=false:=rfl;simp[this]
   ·have d:decide (((i:Nat):Int)>0)=true:=(by simp;omega);have w:i64.wrap ((i:Int) - 1)=((i - 1:Nat):Int):=dJ (by omega) (by omega);simp only[d,w,aQ (show i - 1 < t.from_.length by omega),bind_some,Bool.not_true,cond_false,cond_true,h0,dif_neg,not_false_eq_true,Option.any_some,Bool.false_or];cases decide (t.from_[i - 1]>=t.from_[i])<;>rfl
theorem Py {n:Nat} {a b:List aj} (ha:a.length<=900) (hb:b.length<=900) (hn:1000<=n):Hg n a b=some (jw a b):=by
 unfold Hg jw;have inner:∀ (i:Nat) (hi:i < a.length),iter (uZ a b (i:Int)) n (0:Int)=some (bif b.any fun q=>Dr a[i] q then .inr (.inr (.inr true))else .inl ()):=by
  intro i hi;have:=bX (l:=b) (step:=uZ a b (i:Int)) (fun j=>((j:Nat):Int)) (fun q=>Dr a[i] q) () (fun _=> .inr (.inr true)) (fun j hj=>?_) (by simp[uZ]) n (by omega)
  ·rw[show ((0:Nat):Int)=0 from rfl]at this;rw[this,<- jJ];cases fI (fun q=>Dr a[i] q) b<;>rfl
  ·have hj':decide (((j:Nat):Int) < (b.length:Int))=true:=(by simpa using hj);simp only[uZ,hj',cond_true,aQ hi,aQ hj,bind_some,Ho];rw[aC (by omega)];unfold Dr;cases decide (max a[i].x0 b[j].x0 < min a[i].x1 b[j].x1)&&decide (max a[i].y0 b[j].y0 < min a[i].y1 b[j].y1)<;>rfl
 have:=bX (l:=a) (step:=Bb n a b) (fun i=>((i:Nat):Int)) (fun p=>b.any fun q=>Dr p q) () (fun _=>true) (fun i hi=>?_) (by simp[Bb]) n (by omega)
 ·rw[show ((0:Nat):Int)=0 from rfl]at this;rw[this,<- jJ];cases fI (fun p=>b.any fun q=>Dr p q) a<;>rfl
 ·have hi':decide (((i:Nat):Int) < (a.length:Int))=true:=by simpa using hi
  simp only[Bb,hi',cond_true,inner i hi];rw[aC (by omega)];cases b.any fun q=>Dr a[i] q<;>rfl
theorem qD {n:Nat} {l:List ax} (hl:l.length<=99) (h:∀ t∈l,dx t) (hn:50000<=n):kN n l=some (jL l):=by
 have d0:decide ((l.length:Int)>20000)=false:=by simp;omega
 have L1:=H7 (l:=qX l) (step:=xM n l) (fun i=>((i:Nat):Int)) zG () false (fun i hi=>?_) (by rw[eF];simp[xM]) n (by rw[eF];omega)
 ·have inner:∀ (i:Nat) (hi:i < l.length),iter (ql n l (i:Int)) n (0:Int)=some (bif l.zipIdx.any fun q=>decide (l[i].id∈q.1.from_) || (decide (q.2 < i)&&jw l[i].area q.1.area)then .inr (.inr (.inr false))else .inl ()):=by
   intro i hi;have:=bX (l:=l.zipIdx) (step:=ql n l (i:Int)) (fun j=>((j:Nat):Int)) (fun q=>decide (l[i].id∈q.1.from_) || (decide (q.2 < i)&&jw l[i].area q.1.area)) () (fun _=> .inr (.inr false)) (fun j hj=>?_) (by simp[ql]) n (by simp;omega)
   ·rw[show ((0:Nat):Int)=0 from rfl]at this;rw[this,<- jJ];cases fI (fun q:ax×Nat=>decide (l[i].id∈q.1.from_) || (decide (q.2 < i)&&jw l[i].area q.1.area)) l.zipIdx<;>rfl
   ·have hj2:j < l.length:=(by simpa using hj);have hj':decide (((j:Nat):Int) < (l.length:Int))=true:=(by simpa using hj2);have o1:=h _ (getElem_mem hi);have o2:=h _ (getElem_mem hj2);have a1:=o1.1;have a2:=o2.1;have a3:=o2.2;have dj:decide ((j:Int) < (i:Int))=decide (j < i):=decide_eq_decide.2 (by omega);simp only[ql,hj',cond_true,aQ hi,aQ hj2,bind_some,zJ (n:=n) (l:=l[j].from_) (a:=l[i].id) (by omega) (by omega),dj,Py (n:=n) (a:=l[i].area) (b:=l[j].area) (by omega) (by omega) (by omega),List.getElem_zipIdx,Nat.zero_add];rw[aC (by omega)];cases decide (l[i].id∈l[j].from_)<;>cases decide (j < i)<;>cases jw l[i].area l[j].area<;>rfl
  have L2:=H7 (l:=l.zipIdx) (step:=xN n l) (fun i=>((i:Nat):Int)) (fun p=>l.zipIdx.any fun q=>decide (p.1.id∈q.1.from_) || (decide (q.2 < p.2)&&jw p.1.area q.1.area)) () false (fun i hi=>?_) (by simp[xN]) n (by simp;omega)
  ·rw[show ((0:Nat):Int)=0 from rfl]at L1 L2;unfold kN;rw[d0,L1,L2];have e3:(l.zipIdx.any (fun p=>l.zipIdx.any fun q=>decide (p.1.id∈q.1.from_) || (decide (q.2 < p.2)&&jw p.1.area q.1.area)))=((l.any fun t=>t.from_.any fun k=>l.any fun u=>u.id==k) || (l.zipIdx.any fun p=>(l.take p.2).any fun u=>jw p.1.area u.area)):=by
    have mz:∀ (t:ax),t∈l->∃ i,(t,i)∈l.zipIdx:=fun t ht=>by
     obtain⟨i,hi,rfl⟩:=mem_iff_getElem.1 ht;exact⟨i,by rw[mem_iff_getElem];exact⟨i,by simpa using hi,by simp⟩⟩
    have zm:∀ p∈l.zipIdx,∃ h:p.2 < l.length,l[p.2]=p.1:=fun p hp=>by
     obtain⟨i,hi,rfl⟩:=mem_iff_getElem.1 hp;have:i < l.length:=(by simpa using hi);exact⟨by simpa using this,by simp⟩
    rw[Bool.eq_iff_iff,Bool.or_eq_true];simp only[any_eq_true,Bool.or_eq_true,decide_eq_true_eq,and_eq_true,beq_iff_eq];constructor
    ·rintro⟨p,hp,q,hq,h |⟨h1,h2⟩⟩
     ·obtain⟨hp2,ep⟩:=zm p hp;obtain⟨hq2,eq⟩:=zm q hq;exact .inl ⟨q.1,by rw[<- eq];exact getElem_mem _,p.1.id,h,p.1,by rw[<- ep];exact getElem_mem _,rfl⟩
     ·obtain⟨hq2,eq⟩:=zm q hq;obtain⟨hp2,ep⟩:=zm p hp;exact .inr ⟨p,hp,q.1,by rw[List.mem_take_iff_getElem];exact⟨q.2,by omega,eq⟩,h2⟩
    ·rintro (⟨t,ht,k,hk,u,hu,e⟩ |⟨p,hp,u,hu,h⟩)
     ·obtain⟨i,hi⟩:=mz u hu;obtain⟨j,hj⟩:=mz t ht;exact⟨(u,i),hi,(t,j),hj,.inl (by rw[e];exact hk)⟩
     ·rw[List.mem_take_iff_getElem]at hu;obtain⟨j,hj,e⟩:=hu;refine⟨p,hp,(u,j),?_,.inr ⟨by show j < p.2;omega,h⟩⟩;rw[mem_iff_getElem];exact⟨j,by simp;omega,by simp[e]⟩
   rw[e3];unfold jL;cases (qX l).any zG<;>cases (l.any fun t=>t.from_.any fun k=>l.any fun u=>u.id==k)<;>cases (l.zipIdx.any fun p=>(l.take p.2).any fun u=>jw p.1.area u.area)<;>rfl
  ·have hi2:i < l.length:=(by simpa using hi);have hi':decide (((i:Nat):Int) < (l.length:Int))=true:=(by simpa using hi2);simp only[xN,hi',cond_true,inner i hi2,List.getElem_zipIdx,Nat.zero_add];rw[aC (by omega)];cases l.zipIdx.any fun q=>decide (l[i].id∈q.1.from_) || (decide (q.2 < i)&&jw l[i].area q.1.area)<;>rfl
 ·rw[Dt];rw[eF]at hi;have hi':decide (((i:Nat):Int) < (l.length:Int))=true:=by simpa using hi
  simp only[xM,hi',cond_true,aQ hi,bind_some,MN (n:=n) (h _ (getElem_mem hi)) hn];rw[aC (by omega)];unfold zG;cases validL l[i]with
  |false=>rfl
  |true=>
   by_cases h0:i=0
   ·subst h0;have:decide ((((0:Nat):Int))>0)=false:=rfl;simp[this]
   ·have d:decide (((i:Nat):Int)>0)=true:=(by simp;omega);have w:i64.wrap ((i:Int) - 1)=((i - 1:Nat):Int):=dJ (by omega) (by omega);simp only[d,w,aQ (show i - 1 < l.length by omega),bind_some,Bool.not_true,cond_false,cond_true,h0,dif_neg,not_false_eq_true,Option.any_some,Bool.false_or];cases decide (l[i - 1].id>=l[i].id)<;>rfl
theorem xW {n:Nat} {l:List ax} {k:Int} (hl:l.length<=900) (h:∀ t∈l,dx t) (hn:1000<=n):rQ n l k=some (takenL l k):=by
 unfold rQ;have:=bX (l:=l) (step:=xO n l k) (fun i=>((i:Nat):Int)) (fun t=>t.id==k || decide (k∈t.from_)) () (fun _=>true) (fun i hi=>?_) (by simp[xO]) n (by omega)
 ·rw[show ((0:Nat):Int)=0 from rfl]at this;have e:takenL l k=l.any fun t=>t.id==k || decide (k∈t.from_):=by
   unfold takenL;congr 1;funext t;congr 1;rw[Bool.eq_iff_iff];simp
  rw[this,e,<- jJ];cases fI (fun t:ax=>t.id==k || decide (k∈t.from_)) l<;>rfl
 ·have hi':decide (((i:Nat):Int) < (l.length:Int))=true:=by simpa using hi
  have:=(h _ (getElem_mem hi)).2;simp only[xO,hi',cond_true,aQ hi,bind_some,zJ (n:=n) (l:=l[i].from_) (a:=k) (by omega) (by omega)];rw[aC (by omega)];cases l[i].id==k<;>cases decide (k∈l[i].from_)<;>rfl
theorem afc {n:Nat} {l:List ax} (x y:Int) (h:∀ t∈l,dx t) (hl:l.length<=900) (hn:50000<=n):NJ n l x y=some (atL l x y):=by
 unfold NJ;have:=bX (l:=l) (step:=IU n l x y) (fun i=>(i:Int)) (fun t=>bH t.area&&cellsL t.area x y) () (fun i=>((l.getD i dw).id,true)) (fun i hi=>?_) (by simp[IU]) n (by omega)
 ·rw[show ((0:Nat):Int)=0 from rfl]at this;rw[this];unfold atL;rcases ER (fun t:ax=>bH t.area&&cellsL t.area x y) l with ⟨i,hi,h1,h2⟩ |⟨h1,h2⟩
  ·rw[h1,h2];simp[hi]
  ·rw[h1,h2];rfl
 ·have hi':decide (((i:Nat):Int) < (l.length:Int))=true:=by simpa using hi
  have ht:=(h _ (getElem_mem hi)).1;simp only[IU,hi',cond_true,aQ hi,bind_some,Yr (n:=n) (a:=l[i].area) x y (by omega) hn];cases bH l[i].area&&cellsL l[i].area x y with
  |true=>simp[hi]
  |false=>simp only[cond_false];rw[aC (by omega)]
def Kv (s:List ax) (x:ax):List ax:=(s.filter fun t=>decide (t.id<=x.id))++x::s.filter fun t=>!decide (t.id<=x.id)
theorem Xc (s:List ax) (x:ax):(Kv s x).Perm (s++[x]):=by
 unfold Kv;refine List.perm_middle.trans ?_;refine (List.Perm.cons x (List.filter_append_perm (fun t:ax=>decide (t.id<=x.id)) s)).trans ?_;exact (List.perm_append_singleton x s).symm
theorem Pz {s:List ax} (h:s.Pairwise fun a b=>a.id<=b.id) (x:ax):(Kv s x).Pairwise fun a b=>a.id<=b.id:=by
 unfold Kv;refine List.pairwise_append.2 ⟨h.filter _,pairwise_cons.2 ⟨fun b hb=>?_,h.filter _⟩,fun a ha b hb=>?_⟩
 ·rw[mem_filter]at hb;have:=hb.2;simp at this;omega
 ·rw[mem_filter]at ha;have h1:a.id<=x.id:=by simpa using ha.2
  rcases mem_cons.1 hb with rfl |hb
  ·exact h1
  ·rw[mem_filter]at hb;have:=hb.2;simp at this;omega
theorem MO {n:Nat} (lots:List ax) (v:Nat) (hv:v < lots.length) (base:List ax) (r4:List ax) (hr:r4.length=base.length+1) (hb:base.length<=900):∀ (m:Nat) (z:ax),m<=base.length->(∀ j (h:j < base.length),m<=j->lots[v].id < base[j].id)->∀ f,m < f->
 ∃ k z',k<=m∧iter (kP lots (v:Int) r4) f ((m:Int),base.take m++z::base.drop m)=some ((k:Int),base.take k++z'::base.drop k)∧(∀ j (h:j < base.length),k<=j->lots[v].id < base[j].id)∧(∀ h:0 < k,∀ h':k - 1 < base.length,base[k - 1].id<=lots[v].id):=by
 intro m
 induction m with
 |zero=>
  intro z hm h f hf;obtain⟨f,rfl⟩:∃ j,f=j+1:=⟨f - 1,by omega⟩;have d:decide ((((0:Nat):Int))>0)=false:=rfl;exact⟨0,z,Nat.le_refl _,aS (by simp only[kP,d,cond_false,bind_some]),h,fun h=>by omega⟩
 |succ m ih=>
  intro z hm h f hf;obtain⟨f,rfl⟩:∃ j,f=j+1:=⟨f - 1,by omega⟩;have d:decide ((((m+1:Nat):Int))>0)=true:=decide_eq_true (by omega);have w:i64.wrap (((m+1:Nat):Int) - 1)=((m:Nat):Int):=by rw[dJ (by omega) (by omega)];rfl
  have i1:inb ((m:Nat):Int) r4.length=true:=aZ (by omega);have i2:inb ((m+1:Nat):Int) r4.length=true:=aZ (by omega);have tl:(base.take (m+1)).length=m+1:=by rw[length_take];omega
  have g1:at? (base.take (m+1)++z::base.drop (m+1)) (((0:Nat):Int)+((m:Nat):Int))=some base[m]:=by rw[dR,List.getElem?_append_left (by omega),List.getElem?_take_of_lt (by omega)];simp
  have g2:at? (base.take (m+1)++z::base.drop (m+1)) (((0:Nat):Int)+((m+1:Nat):Int))=some z:=by rw[dR,List.getElem?_append_right (by omega),tl];simp
  have zt:(((0:Nat):Int)+((m+1:Nat):Int)).toNat=m+1:=by omega
  by_cases c:base[m].id>lots[v].id
  ·have dc:decide (base[m].id>lots[v].id)=true:=(by simpa using c);have st:(base.take (m+1)++z::base.drop (m+1)).set (m+1) base[m]=base.take m++base[m]::base.drop m:=by
    rw[set_append_right _ _ (by omega),tl,Nat.sub_self,List.set_cons_zero,take_succ_eq_append_getElem (by omega),append_assoc,drop_eq_getElem_cons (show m < base.length by omega)];rfl
   have stp:kP lots (v:Int) r4 (((m+1:Nat):Int),base.take (m+1)++z::base.drop (m+1))=some (.inl (((m:Nat):Int),base.take m++base[m]::base.drop m)):=(by simp only[kP,d,cond_true,w,i1,g1,bind_some,aQ hv,dc,i2,g2,zt,st]);obtain⟨k,z',k1,k2,k3,k4⟩:=ih base[m] (by omega) (fun j hj hmj=>by
    rcases Nat.eq_or_lt_of_le hmj with e |e
    ·subst e;exact c
    ·exact h j hj e) f (by omega)
   exact⟨k,z',by omega,by rw[bf stp];exact k2,k3,k4⟩
  ·have dc:decide (base[m].id>lots[v].id)=false:=(by simpa using c);refine⟨m+1,z,Nat.le_refl _,aS ?_,h,fun _ _=>?_⟩
   ·simp only[kP,d,cond_true,w,i1,g1,bind_some,aQ hv,dc,cond_false]
   ·have e:m+1 - 1=m:=(by omega);simp only[e];omega
theorem uh {n:Nat} {land lots:List ax} {old:List Int} (hs:land.Pairwise fun a b=>a.id<=b.id) (h:∀ t∈land,dx t) (hl:land.length<=99) (ho:old.length<=900) (h2:∀ t∈lots,t.area.length<=900∧t.from_.length<=10000) (hl2:lots.length<=99) (hn:1000<=n):
 oF n land old lots=some (lots.foldl Kv (land.filter fun t=>!(old.any fun x=>t.id==x))):=by
 have cp:∀ t:ax,t.area.length<=900->t.from_.length<=10000->u6 t=some t:=by
  intro t a1 a2;unfold u6;have b1:aX ([]:List aj).length 0 t.area.length t.area.length 32=true:=aU (a:=0) (by omega) (by simp only[maxLen];omega);have b2:aX ([]:List Int).length 0 t.from_.length t.from_.length 8=true:=aU (a:=0) (by omega) (by simp only[maxLen];omega);simp only[b1,b2,cond_true,bG,nil_append,aV,aA]
 have hasE:∀ z:Int,xL n old z=some (old.any fun x=>z==x):=by
  intro z;rw[zJ (by omega) (by omega)];congr 1;rw[Bool.eq_iff_iff];simp
 have run1:iter (nO n land old) n ((0:Int),([]:List ax))=some (land.filter fun t=>!(old.any fun x=>t.id==x)):=by
  have:=dm (step:=nO n land old) (fun i=>(((i:Nat):Int),(land.take i).filter fun t=>!(old.any fun x=>t.id==x))) land.length (land.filter fun t=>!(old.any fun x=>t.id==x)) (fun i hi=>?_) ?_ n (by omega)
  ·simpa using this
  ·have hi':decide (((i:Nat):Int) < (land.length:Int))=true:=(by simpa using hi);have lt:=length_filter_le (fun t:ax=>!(old.any fun x=>t.id==x)) (land.take i);rw[length_take]at lt;have ht:=h _ (getElem_mem hi);have s1:(sub ([land[i]]:List ax) 0 1)=[land[i]]:=rfl;have a1:aX ((land.take i).filter fun t=>!(old.any fun x=>t.id==x)).length ((land.take i).filter fun t=>!(old.any fun x=>t.id==x)).length ([land[i]]:List ax).length 1 64=true:=aU (n:=1) (by omega) (by simp only[maxLen];omega);have tk:(land.take (i+1)).filter (fun t=>!(old.any fun x=>t.id==x))=((land.take i).filter fun t=>!(old.any fun x=>t.id==x))++(bif !(old.any fun x=>land[i].id==x)then [land[i]]else []):=by
    rw[take_succ_eq_append_getElem hi,filter_append];cases hb:(old.any fun x=>land[i].id==x)<;>simp[hb]
   simp only[nO,hi',cond_true,aQ hi,bind_some,hasE,cp land[i] ht.1 (by have:=ht.2;omega),s1,a1,bG,aA];rw[tk,aC (by omega)];cases (old.any fun x=>land[i].id==x)with
   |true=>simp
   |false=>simp
  ·simp[nO]
 have lf:=length_filter_le (fun t:ax=>!(old.any fun x=>t.id==x)) land;have run2:iter (nP n lots) n ((0:Int),land.filter fun t=>!(old.any fun x=>t.id==x))=some (lots.foldl Kv (land.filter fun t=>!(old.any fun x=>t.id==x))):=by
  have:=dO (l:=lots) (step:=nP n lots) (fun i (s:List ax)=>(((i:Nat):Int),s)) (fun x s=>Kv s x) (fun s=>s) (fun i s=>s.length<=99+i∧s.Pairwise fun a b=>a.id<=b.id) (fun i hi s hs=>?_) (fun s _=>by simp[nP]) n (by omega) (land.filter fun t=>!(old.any fun x=>t.id==x)) ⟨by omega,hs.filter _⟩
  ·exact this
  ·obtain⟨l1,l2⟩:=hs;have hx:=h2 _ (getElem_mem hi);have lp:=(Xc s lots[i]).length_eq;rw[length_append,length_singleton]at lp;refine⟨?_,by omega,Pz l2 _⟩;have hi':decide (((i:Nat):Int) < (lots.length:Int))=true:=(by simpa using hi);have s1:(sub ([lots[i]]:List ax) 0 1)=[lots[i]]:=rfl;have a1:aX s.length s.length ([lots[i]]:List ax).length 1 64=true:=aU (n:=1) (by omega) (by simp only[maxLen];omega);obtain⟨k,z',k1,k2,k3,k4⟩:=MO (n:=n) lots i hi s (s++[lots[i]]) (by simp) (by omega) s.length lots[i] (Nat.le_refl _) (fun j hj hj2=>by omega) n (by omega);rw[List.take_length,List.drop_length]at k2;have ik:inb ((k:Nat):Int) (s++[lots[i]]).length=true:=aZ (by rw[length_append];simp;omega);have tl:(s.take k).length=k:=(by rw[length_take];omega);have g:at? (s.take k++z'::s.drop k) (((0:Nat):Int)+((k:Nat):Int))=some z':=(by rw[dR,List.getElem?_append_right (by omega),tl];simp);have zt:(((0:Nat):Int)+((k:Nat):Int)).toNat=k:=(by omega);have st:(s.take k++z'::s.drop k).set k lots[i]=s.take k++lots[i]::s.drop k:=(by rw[set_append_right _ _ (by omega),tl,Nat.sub_self,List.set_cons_zero]);have ins:s.take k++lots[i]::s.drop k=Kv s lots[i]:=by
    have l2':=pairwise_iff_getElem.1 l2;have lo:∀ t∈s.take k,t.id<=lots[i].id:=by
     intro t ht;obtain⟨j,hj,rfl⟩:=mem_iff_getElem.1 ht;rw[tl]at hj;rw[List.getElem_take];have q:=k4 (by omega) (by omega);rcases Nat.eq_or_lt_of_le (show j<=k - 1 by omega)with e |e
     ·subst e;exact q
     ·have:=l2' j (k - 1) (by omega) (by omega) e;omega
    have hi2:∀ t∈s.drop k,¬ t.id<=lots[i].id:=by
     intro t ht;obtain⟨j,hj,rfl⟩:=mem_iff_getElem.1 ht;rw[length_drop]at hj;rw[getElem_drop];have:=k3 (k+j) (by omega) (by omega);omega
    have e:=List.take_append_drop k s;have f1:(s.filter fun t=>decide (t.id<=lots[i].id))=s.take k:=by
     conv=>lhs;rw[<- e]
     rw[filter_append,List.filter_eq_self.2 fun t ht=>by simpa using lo t ht,List.filter_eq_nil_iff.2 fun t ht=>by simpa using hi2 t ht,append_nil]
    have f2:(s.filter fun t=>!decide (t.id<=lots[i].id))=s.drop k:=by
     conv=>lhs;rw[<- e]
     rw[filter_append,List.filter_eq_nil_iff.2 fun t ht=>by simpa using lo t ht,List.filter_eq_self.2 fun t ht=>by have:=hi2 t ht;simp;omega,nil_append]
    unfold Kv;rw[f1,f2]
   have el:eqL (s++[lots[i]]).length (s.take k++lots[i]::s.drop k).length=true:=by
    apply agI;rw[ins,lp,length_append,length_singleton]
   simp only[nP,hi',cond_true,aQ hi,bind_some,s1,a1,bG,k2,cp lots[i] hx.1 hx.2,ik,g,zt,st,el];rw[aC (by omega),ins]
 unfold oF;simp only[length_nil,aA,cond_true,run1,bind_some,run2,aV]
theorem PD:∀ {l m:List ax},l.Perm m->(l.Pairwise fun a b=>a.id < b.id)->(m.Pairwise fun a b=>a.id < b.id)->l=m
 |[],m,h,_,_=>(List.nil_perm.1 h).symm
 |x::l,[],h,_,_=>by have:=h.length_eq;simp at this
 |x::l,y::m,h,h1,h2=>by
  have e:x=y:=by
   rw[pairwise_cons]at h1 h2;have m1:x∈y::m:=h.mem_iff.1 mem_cons_self;have m2:y∈x::l:=h.mem_iff.2 mem_cons_self;rcases mem_cons.1 m1 with e |m1
   ·exact e
   ·rcases mem_cons.1 m2 with e |m2
    ·exact e.symm
    ·have a:=h1.1 y m2;have b:=h2.1 x m1;omega
  subst e;rw[PD ((List.perm_cons x).1 h) (pairwise_cons.1 h1).2 (pairwise_cons.1 h2).2]
theorem qE {land lots:List ax} {old:List Int} (hl:IsLand land) (hr:IsLand (replaceL land old lots)):lots.foldl Kv (land.filter fun t=>!(old.any fun x=>t.id==x))=replaceL land old lots:=by
 have gen:∀ (ls s:List ax),(s.Pairwise fun a b=>a.id<=b.id)->(ls.foldl Kv s).Perm (s++ls)∧(ls.foldl Kv s).Pairwise fun a b=>a.id<=b.id:=by
  intro ls
  induction ls with
  |nil=>intro s h;exact⟨by simp,h⟩
  |cons x ls ih=>
   intro s h;obtain⟨i1,i2⟩:=ih (Kv s x) (Pz h x);refine⟨?_,i2⟩;rw[List.foldl_cons];refine i1.trans ?_;refine (List.Perm.append_right ls (Xc s x)).trans ?_;rw[append_assoc];exact List.Perm.refl _
 obtain⟨g1,g2⟩:=gen lots (land.filter fun t=>!(old.any fun x=>t.id==x)) ((hl.asc.imp fun h=>by omega).filter _);have pr:(lots.foldl Kv (land.filter fun t=>!(old.any fun x=>t.id==x))).Perm (replaceL land old lots):=g1.trans (lH Bh _).symm;refine PD pr ?_ hr.asc;have hd:Diff (lots.foldl Kv (land.filter fun t=>!(old.any fun x=>t.id==x))):=(pr.pairwise_iff (fun {a b} hab=>Ne.symm hab)).2 hr.diff;refine (g2.and hd).imp fun {a b} hab=>?_;obtain⟨h1,h2⟩:=hab;omega
theorem QR {land:List ax} (hl:IsLand land):land.Pairwise fun a b=>a.id<=b.id:=hl.asc.imp fun h=>by omega
theorem acN {n:Nat} {land:List ax} {lot:ax} (h:∀ t∈land,dx t) (hl:land.length<=99) (hk:dx lot) (hn:50000<=n):QK n land lot=some (NV land lot):=by
 have did:=fun hi=>ad9 (l:=land) (lot:=lot) hi;revert did;unfold QK NV;rw[qD hl h hn];simp only[bind_some];cases hr:jL land with
 |false=>intro _;rfl
 |true=>
 have il:=(zI land).1 hr;rw[MN hk hn];simp only[Bool.not_true,cond_false,Bool.false_or,bind_some,gtz];cases validL lot with
 |false=>intro _;rfl
 |true=>
 simp only[Bool.not_true,cond_false,Bool.false_or,bind_some];cases decide (lot.from_≠[])with
 |true=>intro _;rfl
 |false=>
 rw[xW (by omega) h (by omega)];simp only[cond_false,bind_some];cases takenL land lot.id with
 |true=>intro _;rfl
 |false=>
 have d2:decide ((land.length:Int)>=20000)=false:=by simp;omega
 have s3:(sub ([lot]:List ax) 0 1)=[lot]:=rfl;have q3:eqL ([lot]:List ax).length 1=true:=rfl;have L:=H7 (l:=land) (step:=EM n land lot) (fun i=>((i:Nat):Int)) (fun t=>jw t.area lot.area) () (([]:List ax),(11:Int)) (fun i hi=>?_) (by simp[EM]) n (by omega)
 ·rw[show ((0:Nat):Int)=0 from rfl]at L;rw[L];cases land.any fun t=>jw t.area lot.area with
  |true=>intro _;rfl
  |false=>
   intro did;obtain⟨_,d3,_⟩:=did il rfl;have d3:IsLand (replaceL land [] [lot]):=d3;have ch:=uh (n:=n) (land:=land) (old:=[]) (lots:=[lot]) (QR il) h hl (by simp) (fun t ht=>by
    have:t=lot:=(by simpa using ht);subst this;exact⟨hk.1,by have:=hk.2;omega⟩) (by simp) (by omega)
   rw[qE il d3]at ch;simp only[cond_false,fF,d2,s3,q3,cond_true,ch,bind_some,aV,aA]
 ·have hi':decide (((i:Nat):Int) < (land.length:Int))=true:=by simpa using hi
  have h1:=(h _ (getElem_mem hi)).1;have h2:=hk.1;simp only[EM,hi',cond_true,aQ hi,bind_some,Py (n:=n) (a:=land[i].area) (b:=lot.area) (by omega) (by omega) (by omega)];rw[aC (by omega)];cases jw land[i].area lot.area<;>rfl
theorem Qg {n:Nat} {land:List ax} {id to:Int} (h:∀ t∈land,dx t) (hl:land.length<=99) (hn:50000<=n):xP n land id to=some (kU land id to):=by
 have did:=fun hi=>MH (l:=land) (id:=id) (to:=to) hi;revert did;have hfo:=lW h id;unfold xP kU;rw[qD hl h hn];have ow:((bif (decide (to < (0:Int)))then some true else some (decide (to>(1073741824:Int)))):Option Bool)=some (!ownB to):=by
  unfold ownB;by_cases h1:to < 0
  ·have:decide (0<=to)=false:=(by simp;omega);simp[h1,this]
  ·by_cases h2:to>1073741824
   ·have:decide (to<=1073741824)=false:=(by simp;omega);simp[h1,h2,this]
   ·have a1:decide (0<=to)=true:=(by simp;omega);have a2:decide (to<=1073741824)=true:=(by simp;omega);simp[h1,h2,a1,a2]
 simp only[bind_some,ow];cases hr:jL land with
 |false=>intro _;rfl
 |true=>
 have il:=(zI land).1 hr;cases ownB to with
 |false=>intro _;rfl
 |true=>
 rw[vw h (by omega) (by omega)];simp only[Bool.not_true,cond_false,bind_some,Bool.false_or];cases hf:(aI land id).2 with
 |false=>intro _;rfl
 |true=>
 intro did;obtain⟨T,⟨hT,hid⟩,d⟩:=did il rfl;have hr2:IsLand (replaceL land [id] [ax.mk (aI land id).1.id to (aI land id).1.area (aI land id).1.from_]):=d.land;generalize (aI land id).1=T at*;have s2:(sub ([id]:List Int) 0 1)=[id]:=rfl;have s3:(sub ([ax.mk T.id to T.area T.from_]:List ax) 0 1)=[ax.mk T.id to T.area T.from_]:=rfl;have q2:eqL ([id]:List Int).length 1=true:=rfl;have q3:eqL ([ax.mk T.id to T.area T.from_]:List ax).length 1=true:=rfl;have ch:=uh (n:=n) (land:=land) (old:=[id]) (lots:=[ax.mk T.id to T.area T.from_]) (QR il) h hl (by simp) (fun t ht=>by
  have:t=ax.mk T.id to T.area T.from_:=by simpa using ht
  subst this;exact⟨by show T.area.length<=900;omega,by show T.from_.length<=10000;omega⟩) (by simp) (by omega)
 rw[qE il hr2]at ch;simp only[Bool.not_true,cond_false,s2,q2,cond_true,s3,q3,ch,bind_some,aV,aA]
end Go.Proofs
