/-
  The envelope's form of disjoint rectangles, cutting, clipping.
-/
import Derived.Test.YtplkangbgmlgdaaGreatDoorS1
open Go.IntKind (i64)
open List (length_take mem_map getElem_mem cons_append length_map mem_iff_getElem append_nil length_drop length_nil foldl_cons take_of_length_le mem_filter any_eq_true mem_cons_self length_singleton pairwise_cons map_nil all_cons map_take drop_eq_getElem_cons set_append_right map_drop length_filter_le mem_flatMap map_append any_eq_false drop_of_length_le)
namespace Go.Proofs
open Go.Gb Go.RowKit
def ApR (a b:aj):Prop:=∀ x y,iC a x y=true->iC b x y=true->False
def Ar (l:List aj):Prop:=l.Pairwise ApR∧∀ r∈l,OkR r=true
theorem fw (l:List aj) (x y:Int):aV l x y=true↔∃ r∈l,iC r x y=true:=by simp[aV,iC]
theorem Wu (a b:List aj) (x y:Int):aV (a++b) x y=(aV a x y || aV b x y):=by simp[aV]
theorem jA (r:aj):OkR r=true↔(0<=r.x0∧r.x0 < r.x1∧r.x1<=1048576)∧(0<=r.y0∧r.y0 < r.y1∧r.y1<=1048576):=by simp only[OkR,aK,aM];omega
theorem aeW {a:List aj} (h:rightL a=true):Ar a:=by
 obtain⟨rok,hro,_⟩:=KS h;refine⟨?_,(dV h).1⟩;rw[<- hro];unfold iK;rw[List.pairwise_flatMap];refine⟨fun s hs=>?_,(DK rok.runs).imp fun {s t} hst=>?_⟩
 ·unfold aF;rw[List.pairwise_map];refine (rok.col s hs).1.1.imp fun {p q} hpq x y h1 h2=>?_;rw[dL]at h1 h2;simp only at h1 h2;omega
 ·intro p hp q hq x y h1 h2;unfold aF at hp hq;obtain⟨p',_,rfl⟩:=mem_map.1 hp;obtain⟨q',_,rfl⟩:=mem_map.1 hq;rw[dL]at h1 h2;simp only at h1 h2;omega
theorem DR (a b:aj):qE a b=some (dJ a b,decide ((dJ a b).x0 < (dJ a b).x1)&&decide ((dJ a b).y0 < (dJ a b).y1)):=by
 unfold qE dJ;simp only[lU];cases decide (max a.x0 b.x0 < min a.x1 b.x1)<;>rfl
def iH (a b:aj):Bool:=decide ((dJ a b).x0 < (dJ a b).x1)&&decide ((dJ a b).y0 < (dJ a b).y1)
theorem Nf (a b:aj) (x y:Int):iC (dJ a b) x y=(iC a x y&&iC b x y):=by
 rw[bJ,aK,dL,dL,dL];unfold dJ;simp only;omega
theorem ZT {a b:aj} (ha:OkR a=true) (hb:OkR b=true) (hm:iH a b=true):OkR (dJ a b)=true:=by
 rw[jA]at*;unfold iH dJ at hm;simp only[aK,aM]at hm;unfold dJ;simp only;omega
theorem Yn {a b:aj} (h:iH a b=false) (x y:Int):(iC a x y&&iC b x y)=false:=by
 rw[<- Nf,Bool.eq_false_iff];intro hc;rw[dL]at hc;have:iH a b=true:=by simp only[iH,aK,aM];omega
 rw[h]at this;cases this
def okB (r:aj):Bool:=decide (r.x0 < r.x1)&&decide (r.y0 < r.y1)
def four (r m:aj):List aj:=[⟨r.x0,r.y0,m.x0,r.y1⟩,⟨m.x1,r.y0,r.x1,r.y1⟩,⟨m.x0,r.y0,m.x1,m.y0⟩,⟨m.x0,m.y1,m.x1,r.y1⟩]
def Ng (c r:aj):List aj:=bif iH r c then (four r (dJ r c)).filter okB else [r]
def Gc (l:List aj) (c:aj):List aj:=l.flatMap (Ng c)
theorem aiK (c r:aj):(Ng c r).length<=4:=by
 unfold Ng;cases iH r c with
 |false=>simp
 |true=>exact Nat.le_trans (length_filter_le _ _) (by simp[four])
theorem JK {n:Nat} (x m:aj) (b:Bool) (out:List aj) (ho:out.length<=1000000000) (hn:10 < n):
 iter (nu x (m,b)) n ((0:Int),out)=some (out++(four x m).filter okB):=by
 have:=cZ (l:=four x m) (step:=nu x (m,b)) (fun i (s:List aj)=>((i:Int),s)) (fun r s=>bif okB r then s++[r]else s) (fun s=>s) (fun i s=>s.length<=out.length+i)
  (fun i hi s hs=>?_) (fun s hs=>by simp[nu,four]) n (by simp[four];omega) out (aU _)
 ·rw[show ((0:Nat):Int)=0 from rfl]at this;rw[this];congr 1;have gen:∀ (ys:List aj) (s:List aj),ys.foldl (fun s r=>bif okB r then s++[r]else s) s=s++ys.filter okB:=by
   intro ys
   induction ys with
   |nil=>intro s;simp
   |cons y ys ih=>
    intro s;rw[foldl_cons,ih,List.filter_cons];cases okB y<;>simp
  exact gen _ _
 ·have h4:i < 4:=by simpa[four]using hi
  have g:at? ([(aj.mk x.x0 x.y0 m.x0 x.y1),(aj.mk m.x1 x.y0 x.x1 x.y1),(aj.mk m.x0 x.y0 m.x1 m.y0),(aj.mk m.x0 m.y1 m.x1 x.y1)]:List aj) (((0:Nat):Int)+((i:Nat):Int))=some (four x m)[i]:=dh hi;generalize (four x m)[i]=r at*;have ap:bM s.length s.length (sub ([r]:List aj) 0 1).length 1 32=true:=bI (n:=1);simp only[nu,bG h4,au,bC h4,g,ah,lU,ap,dH,aC,okB,bL i];cases decide (r.x0 < r.x1)<;>cases decide (r.y0 < r.y1)<;>refine⟨rfl,?_⟩<;>simp<;>omega
theorem Rs {n:Nat} {l:List aj} (c:aj) (hl:l.length<=1000000) (hn:10 < n) (hn2:l.length < n):yM n l c=some (Gc l c):=by
 unfold yM
 have:=cZ (l:=l) (step:=q8 n l c) (fun i (s:List aj)=>((i:Int),s)) (fun r s=>s++Ng c r) (fun s=>s) (fun i s=>s.length<=4*i)
  (fun i hi s hs=>?_) (fun s hs=>by simp[q8]) n hn2 [] (by simp)
 ·rw[show ((0:Nat):Int)=0 from rfl]at this;simp only[length_nil,aC,au,this,ah,bE];congr 1;have gen:∀ (ys:List aj) (s:List aj),ys.foldl (fun s r=>s++Ng c r) s=s++Gc ys c:=by
   intro ys
   induction ys with
   |nil=>intro s;simp[Gc]
   |cons y ys ih=>intro s;rw[foldl_cons,ih];simp[Gc]
  exact gen l []
 ·have cl:=aiK c l[i];have ap:bM s.length s.length (sub ([l[i]]:List aj) 0 1).length 1 32=true:=bI (n:=1);simp only[q8,bG hi,au,aY hi,ah,DR,ap,dH,aC,JK (n:=n) l[i] (dJ l[i] c) _ s (by omega) hn,lU,bL i];rw[show (decide ((dJ l[i] c).x0 < (dJ l[i] c).x1)&&decide ((dJ l[i] c).y0 < (dJ l[i] c).y1))=iH l[i] c from rfl];refine⟨?_,by rw[aZ];omega⟩;unfold Ng;cases iH l[i] c<;>rfl
theorem ahm (r c:aj) (hm:iH r c=true) (x y:Int):aV ((four r (dJ r c)).filter okB) x y=(iC r x y&&!iC c x y):=by
 unfold iH dJ at hm;simp only[aK,aM]at hm;rw[bJ,fw,aK,Bool.not_eq_true',<- Bool.not_eq_true,dL,dL];constructor
 ·rintro⟨q,hq,hh⟩;obtain⟨hq,_⟩:=mem_filter.1 hq;rw[dL]at hh;simp only[four,dJ,aI,aP,or_false]at hq;rcases hq with rfl |rfl |rfl |rfl<;>simp only at hh<;>omega
 ·rintro⟨h1,h2⟩;have key:∀ q,q∈four r (dJ r c)->iC q x y=true->∃ q∈(four r (dJ r c)).filter okB,iC q x y=true:=fun q hq hh=>by
   refine⟨q,mem_filter.2 ⟨hq,?_⟩,hh⟩;rw[dL]at hh;simp only[okB,aK,aM];omega
  by_cases c1:x < c.x0
  ·exact key ⟨r.x0,r.y0,(dJ r c).x0,r.y1⟩ (by simp[four]) (by rw[dL];simp only[dJ];omega)
  ·by_cases c2:c.x1<=x
   ·exact key ⟨(dJ r c).x1,r.y0,r.x1,r.y1⟩ (by simp[four]) (by rw[dL];simp only[dJ];omega)
   ·by_cases c3:y < c.y0
    ·exact key ⟨(dJ r c).x0,r.y0,(dJ r c).x1,(dJ r c).y0⟩ (by simp[four]) (by rw[dL];simp only[dJ];omega)
    ·exact key ⟨(dJ r c).x0,(dJ r c).y1,(dJ r c).x1,r.y1⟩ (by simp[four]) (by rw[dL];simp only[dJ];omega)
theorem Pn (c r:aj) (x y:Int):aV (Ng c r) x y=(iC r x y&&!iC c x y):=by
 unfold Ng;cases hm:iH r c with
 |true=>exact ahm r c hm x y
 |false=>
  have:=Yn hm x y;have e:aV [r] x y=iC r x y:=by simp[aV,iC]
  simp only[aA,e];cases h1:iC r x y with
  |false=>rfl
  |true=>rw[h1]at this;simp at this;simp[this]
theorem Ic (f:aj->List aj) (l:List aj) (x y:Int):aV (l.flatMap f) x y=l.any fun r=>aV (f r) x y:=by
 induction l with
 |nil=>rfl
 |cons r l ih=>rw[List.flatMap_cons,Wu,ih,List.any_cons]
theorem ahn (l:List aj) (c:aj) (x y:Int):aV (Gc l c) x y=(aV l x y&&!iC c x y):=by
 unfold Gc;rw[Ic];have e:aV l x y=l.any fun r=>iC r x y:=rfl;rw[e,bJ,aK,any_eq_true,any_eq_true];constructor
 ·rintro⟨r,hr,h⟩;rw[Pn,aK]at h;exact⟨⟨r,hr,h.1⟩,h.2⟩
 ·rintro⟨⟨r,hr,h⟩,h2⟩;exact⟨r,hr,by rw[Pn,h,h2];rfl⟩
def BI (X Y:List Int) (l:List aj):Prop:=∀ r∈l,r.x0∈X∧r.y0∈Y
theorem SB {X:List Int} {a b:Int} (h1:a∈X) (h2:b∈X):max a b∈X:=by
 rcases Int.le_total a b with h |h
 ·rw[Int.max_eq_right h];exact h2
 ·rw[Int.max_eq_left h];exact h1
theorem acn {c r q:aj} (hr:OkR r=true) (hc:OkR c=true) (h:q∈Ng c r):OkR q=true∧(∀ X:List Int,r.x0∈X->c.x0∈X->c.x1∈X->q.x0∈X)∧(∀ Y:List Int,r.y0∈Y->c.y1∈Y->q.y0∈Y):=by
 unfold Ng at h;cases hm:iH r c with
 |false=>
  rw[hm]at h;simp only[aA,aO]at h;subst h;exact⟨hr,fun X h _ _=>h,fun Y h _=>h⟩
 |true=>
  rw[hm]at h;simp only[au]at h;obtain⟨h1,h2⟩:=mem_filter.1 h;simp only[okB,aK,aM]at h2;have hk:=ZT hr hc hm;rw[jA]at hr hc;rw[jA]at hk;have cx:(dJ r c).x0=max r.x0 c.x0∧(dJ r c).y0=max r.y0 c.y0∧(dJ r c).x1=min r.x1 c.x1∧(dJ r c).y1=min r.y1 c.y1:=⟨rfl,rfl,rfl,rfl⟩;obtain⟨c1,c2,c3,c4⟩:=cx;simp only[four,aI,aP,or_false]at h1;rw[jA];rcases h1 with rfl |rfl |rfl |rfl
  ·simp only at h2 ⊢;exact⟨by omega,fun X a _ _=>a,fun Y a _=>a⟩
  ·simp only at h2 ⊢;refine⟨by omega,fun X _ _ a=>?_,fun Y a _=>a⟩;rw[show (dJ r c).x1=c.x1 by omega];exact a
  ·simp only at h2 ⊢;refine⟨by omega,fun X a b _=>?_,fun Y a _=>a⟩;rw[c1];exact SB a b
  ·simp only at h2 ⊢;refine⟨by omega,fun X a b _=>?_,fun Y _ a=>?_⟩
   ·rw[c1];exact SB a b
   ·rw[show (dJ r c).y1=c.y1 by omega];exact a
theorem aho {c r:aj} (hr:OkR r=true) (hc:OkR c=true):(Ng c r).Pairwise ApR:=by
 unfold Ng;cases hm:iH r c with
 |false=>simp
 |true=>
  simp only[au];refine List.Pairwise.filter _ ?_;have hk:=ZT hr hc hm;rw[jA]at hk;simp only[four,pairwise_cons,aI,aP,or_false,forall_eq_or_imp,forall_eq,List.Pairwise.nil,and_true,false_implies,implies_true];refine⟨⟨?_,?_,?_⟩,⟨?_,?_⟩,?_⟩<;>intro x y h1 h2<;>rw[dL]at h1 h2<;>simp only at h1 h2<;>omega
theorem Yo {l:List aj} {c:aj} (h:Ar l) (hc:OkR c=true):Ar (Gc l c):=by
 refine⟨?_,fun q hq=>?_⟩
 ·unfold Gc;rw[List.pairwise_flatMap];refine⟨fun r hr=>aho (h.2 r hr) hc,h.1.imp fun {r s} hrs p hp q hq x y h1 h2=>?_⟩;have e1:aV (Ng c r) x y=true:=(fw _ _ _).2 ⟨p,hp,h1⟩;have e2:aV (Ng c s) x y=true:=(fw _ _ _).2 ⟨q,hq,h2⟩;rw[Pn,aK]at e1 e2;exact hrs x y e1.1 e2.1
 ·obtain⟨r,hr,h1⟩:=mem_flatMap.1 hq;exact (acn (h.2 r hr) hc h1).1
theorem Yp {l:List aj} {c:aj} (h:∀ r∈l,OkR r=true) (hc:OkR c=true) {X Y:List Int} (hx:BI X Y l) (h1:c.x0∈X) (h2:c.x1∈X) (h3:c.y1∈Y):BI X Y (Gc l c):=by
 intro q hq;obtain⟨r,hr,hm⟩:=mem_flatMap.1 hq;obtain⟨_,g2,g3⟩:=acn (h r hr) hc hm;exact⟨g2 X (hx r hr).1 h1 h2,g3 Y (hx r hr).2 h3⟩
theorem U2 {X Y:List Int} {l:List aj} (h:Ar l) (hx:BI X Y l):l.length<=X.length*Y.length:=by
 have e:(X.flatMap fun x=>Y.map fun y=>(x,y)).length=X.length*Y.length:=by
  clear hx
  induction X with
  |nil=>simp
  |cons x X ih=>rw[List.flatMap_cons,aZ,ih,length_map,bH,Nat.add_mul];omega
 have:=O5 (l:=l.map fun r=>(r.x0,r.y0)) (m:=X.flatMap fun x=>Y.map fun y=>(x,y)) (by
  rw[List.pairwise_map];refine (List.Pairwise.and_mem.1 h.1).imp fun {a b} hab=>?_;obtain⟨h1,h2,h3⟩:=hab;intro he;have e1:a.x0=b.x0:=congrArg Prod.fst he;have e2:a.y0=b.y0:=congrArg Prod.snd he;have o1:=(jA _).1 (h.2 a h1);have o2:=(jA _).1 (h.2 b h2);exact h3 a.x0 a.y0 ((dL _ _ _).2 (by omega)) ((dL _ _ _).2 (by omega))) (fun p hp=>by
  obtain⟨r,hr,rfl⟩:=mem_map.1 hp;exact mem_flatMap.2 ⟨r.x0,(hx r hr).1,mem_map.2 ⟨r.y0,(hx r hr).2,rfl⟩⟩)
 rw[length_map,e]at this;exact this
theorem Ff {l:List aj} {x0 x1:Int} (hl:l.length < 1099511627776) {n:Nat} (hn:l.length < n):iter (jJ l x0 x1) n ((0:Int),([]:List aj))=some (aF x0 x1 (Fb l x0 x1)):=by
 have:=cZ (l:=l) (step:=jJ l x0 x1) (fun i (s:List aj)=>((i:Int),s)) (fun r s=>bif decide (r.x0<=x0)&&decide (x1<=r.x1)then s++[⟨x0,r.y0,x1,r.y1⟩]else s) (fun s=>s) (fun i s=>s.length<=i)
  (fun i hi s hs=>?_) (fun s hs=>by simp[jJ]) n hn [] (aU _)
 ·rw[show ((0:Nat):Int)=0 from rfl]at this;rw[this];congr 1;have gen:∀ (ys:List aj) (s:List aj),ys.foldl (fun s r=>bif decide (r.x0<=x0)&&decide (x1<=r.x1)then s++[⟨x0,r.y0,x1,r.y1⟩]else s) s=s++aF x0 x1 (Fb ys x0 x1):=by
   intro ys
   induction ys with
   |nil=>intro s;simp[Fb,aF]
   |cons y ys ih=>
    intro s;simp only[foldl_cons,ih];cases h:(decide (y.x0<=x0)&&decide (x1<=y.x1))with
    |true=>simp[Fb,h,aF,M0]
    |false=>simp[Fb,h]
  simpa using gen l []
 ·have hi':decide (((i:Nat):Int) < (l.length:Int))=true:=by simpa using hi
  have ap:bM s.length s.length (sub ([(aj.mk x0 l[i].y0 x1 l[i].y1)]:List aj) 0 1).length 1 32=true:=bI (n:=1);simp only[jJ,hi',au,aY hi,ah,E9];cases h:(decide (l[i].x0<=x0)&&decide (x1<=l[i].x1))with
  |true=>
   simp only[au,ap,dH,aC,ah];refine⟨?_,by simp;omega⟩;rw[aN (by omega)];rfl
  |false=>
   simp only[aA,aC,au,ah];exact⟨by rw[aN (by omega)],by omega⟩
theorem Fg (x0 x1:Int) (a b:List aL):aF x0 x1 (a++b)=aF x0 x1 a++aF x0 x1 b:=by simp[aF]
theorem Fh {n:Nat} {x0 x1:Int} (w1:List aj) (T:List aL) (hw:w1.length=T.length) (hl:T.length < 1099511627776) (hn:T.length < n):
 ∃ o,iter (jK w1) n ((0:Int),(0:Int),aF x0 x1 T)=some o∧o.1=(((T.foldl ext []).length:Nat):Int)∧o.2.take (T.foldl ext []).length=aF x0 x1 (T.foldl ext [])∧(T.foldl ext []).length<=T.length:=by
 refine H7 (fun i (v:Int×Int×List aj)=>v.2.1=(i:Int)∧v.1=((((T.take i).foldl ext []).length:Nat):Int)∧∃ mid,v.2.2=aF x0 x1 ((T.take i).foldl ext [])++mid++aF x0 x1 (T.drop i)∧mid.length+((T.take i).foldl ext []).length=i) T.length _ (fun i v hi hR=>?_) (fun v hR=>?_) n hn _ ⟨rfl,rfl,[],by simp[aF],by simp⟩
 ·obtain⟨v5,v6,v7⟩:=v;obtain⟨h1,h2,mid,h3,h4⟩:=hR;simp only at h1 h2 h3;subst h1;subst h2;subst h3;have hC:(T.take (i+1)).foldl ext []=ext ((T.take i).foldl ext []) T[i]:=by rw[dW hi,List.foldl_append];rfl
  generalize (T.take i).foldl ext []=C at*;have lC:(aF x0 x1 C).length=C.length:=bW _ _ _;have dr:aF x0 x1 (T.drop i)=⟨x0,T[i].from_,x1,T[i].to⟩::aF x0 x1 (T.drop (i+1)):=by rw[drop_eq_getElem_cons hi];rfl
  have g2:at? (aF x0 x1 C++mid++aF x0 x1 (T.drop i)) (((0:Nat):Int)+((i:Nat):Int))=some ⟨x0,T[i].from_,x1,T[i].to⟩:=by rw[gW,eZ (by rw[aZ];omega),dr,aZ,lC,show i - (C.length+mid.length)=0 by omega];rfl
  obtain⟨m0,ms,hms⟩:∃ m0 ms,mid++[(⟨x0,T[i].from_,x1,T[i].to⟩:aj)]=m0::ms:=by
   cases mid with
   |nil=>exact⟨_,_,rfl⟩
   |cons a b=>exact⟨_,_,rfl⟩
  have hA:aF x0 x1 C++mid++aF x0 x1 (T.drop i)=aF x0 x1 C++(m0::ms)++aF x0 x1 (T.drop (i+1)):=by rw[dr,<- hms];simp
  have lm:ms.length=mid.length:=by have:=congrArg List.length hms;simp at this;omega
  have ibi:inb ((i:Nat):Int) w1.length=true:=bC (by omega);have d1:decide (((i:Nat):Int) < ((w1.length:Nat):Int))=true:=by rw[hw];exact bG hi
  have w:i64.wrap ((i:Int)+1)=((i+1:Nat):Int):=aN (by omega);have new:ext C T[i]=C++[T[i]]->∃ v',some (Sum.inl ((((C.length+1:Nat):Int)),((i+1:Nat):Int),(aF x0 x1 C++mid++aF x0 x1 (T.drop i)).set C.length ⟨x0,T[i].from_,x1,T[i].to⟩))=some (Sum.inl v':(Int×Int×List aj) ⊕ (Int×List aj))∧v'.2.1=((i+1:Nat):Int)∧v'.1=(((ext C T[i]).length:Nat):Int)∧∃ mid',v'.2.2=aF x0 x1 (ext C T[i])++mid'++aF x0 x1 (T.drop (i+1))∧mid'.length+(ext C T[i]).length=i+1:=fun he=>by
   refine⟨_,rfl,rfl,by rw[he];simp,ms,?_,by rw[he,aZ,length_singleton];omega⟩;show (aF x0 x1 C++mid++aF x0 x1 (T.drop i)).set C.length _=_;rw[hA,aQ,cons_append,he,Fg];have:=UE (aF x0 x1 C) (ms++aF x0 x1 (T.drop (i+1))) m0 ⟨x0,T[i].from_,x1,T[i].to⟩;rw[lC]at this;rw[this];simp[aF]
  rcases List.eq_nil_or_concat C with e0 |⟨o,q,e0⟩
  ·subst e0;have e1:ext [] T[i]=[]++[T[i]]:=rfl;have d5:decide (((([]:List aL).length:Nat):Int)>0)=false:=rfl;have ib0:inb (((([]:List aL).length:Nat):Int)) w1.length=true:=bC (by simp;omega);have g0:∃ z,at? (aF x0 x1 []++mid++aF x0 x1 (T.drop i)) (((0:Nat):Int)+((([]:List aL).length:Nat):Int))=some z:=by
    rw[hA];exact⟨m0,by simp[at?,aF]⟩
   obtain⟨z,g0⟩:=g0;have z0:(((0:Nat):Int)+((([]:List aL).length:Nat):Int)).toNat=([]:List aL).length:=rfl;have wl:i64.wrap (((([]:List aL).length:Nat):Int)+1)=(((([]:List aL).length+1:Nat)):Int):=aN (by simp);rw[hC];simp only[jK,d1,au,ibi,g2,ah,d5,aA,ib0,g0,z0,wl,w];exact new e1
  ·rw[List.concat_eq_append]at e0;have d5:decide (((C.length:Nat):Int)>0)=true:=(by rw[e0];simp);have wp:i64.wrap (((C.length:Nat):Int) - 1)=((o.length:Nat):Int):=(by rw[gB (by rw[e0];simp) (by omega),e0];simp);have ibo:inb ((o.length:Nat):Int) w1.length=true:=bC (by rw[e0]at h4;simp at h4;omega);have ibc:inb ((C.length:Nat):Int) w1.length=true:=bC (by omega);have lo:(aF x0 x1 o).length=o.length:=bW _ _ _;have gq:at? (aF x0 x1 C++mid++aF x0 x1 (T.drop i)) (((0:Nat):Int)+((o.length:Nat):Int))=some ⟨x0,q.from_,x1,q.to⟩:=(by rw[gW,e0,Fg,aQ,aQ,eZ (by omega),lo,Nat.sub_self];rfl);have zo:(((0:Nat):Int)+((o.length:Nat):Int)).toNat=o.length:=(by omega);have zc:(((0:Nat):Int)+((C.length:Nat):Int)).toNat=C.length:=(by omega);have wl:i64.wrap (((C.length:Nat):Int)+1)=((C.length+1:Nat):Int):=aN (by omega);have gc:∃ z,at? (aF x0 x1 C++mid++aF x0 x1 (T.drop i)) (((0:Nat):Int)+((C.length:Nat):Int))=some z:=by
    rw[hA,gW,aQ,eZ (by omega),lC,Nat.sub_self];exact⟨m0,rfl⟩
   obtain⟨z,gc⟩:=gc;rw[hC];simp only[jK,d1,au,ibi,g2,ah,d5,wp,ibo,gq,ibc,zo,zc,wl,w];have eo:ext C T[i]=bif q.to==T[i].from_ then o++[⟨q.from_,T[i].to⟩]else o++[q]++[T[i]]:=(by rw[e0];exact UH o q T[i]);cases hq:q.to==T[i].from_ with
   |true=>
    rw[hq]at eo;simp only[au]at eo ⊢;refine⟨_,rfl,rfl,?_,mid++[⟨x0,T[i].from_,x1,T[i].to⟩],?_,?_⟩
    ·rw[eo,e0];simp
    ·show (aF x0 x1 C++mid++aF x0 x1 (T.drop i)).set o.length _=_;rw[eo,e0,Fg,dr,Fg];have:=UE (aF x0 x1 o) (mid++(⟨x0,T[i].from_,x1,T[i].to⟩::aF x0 x1 (T.drop (i+1)))) ⟨x0,q.from_,x1,q.to⟩ ⟨x0,q.from_,x1,T[i].to⟩;rw[lo]at this;simp only[aQ];refine Eq.trans this ?_;simp[aF]
    ·rw[eo];rw[e0]at h4;simp at h4 ⊢;omega
   |false=>
    rw[hq]at eo;simp only[aA]at eo ⊢;have e1:ext C T[i]=C++[T[i]]:=(by rw[eo,e0]);simp only[gc,ah];exact new e1
 ·obtain⟨v5,v6,v7⟩:=v;obtain⟨h1,h2,mid,h3,h4⟩:=hR;simp only at h1 h2 h3;subst h1;subst h2;subst h3;rw[List.take_length]at*;have d1:decide (((T.length:Nat):Int) < ((w1.length:Nat):Int))=false:=by rw[hw];exact fP _
  simp only[jK,d1,aA];refine⟨_,rfl,rfl,?_,by omega⟩;show List.take _ (aF x0 x1 (T.foldl ext [])++mid++_)=_;rw[aQ,List.take_left' (bW _ _ _)]
theorem aeX {l:List aj} (h:Ar l) (x:Int):(dN l x).Pairwise fun s t=>s.to<=t.from_∨t.to<=s.from_:=by
 unfold dN;rw[List.pairwise_map];refine (List.Pairwise.and_mem.1 (h.1.filter _)).imp fun {a b} hab=>?_;obtain⟨h1,h2,h3⟩:=hab;obtain⟨m1,p1⟩:=mem_filter.1 h1;obtain⟨m2,p2⟩:=mem_filter.1 h2;simp only[aK,aM]at p1 p2;have o1:=(jA _).1 (h.2 a m1);have o2:=(jA _).1 (h.2 b m2);show a.y1<=b.y0∨b.y1<=a.y0;by_cases c1:a.y1<=b.y0
 ·exact .inl c1
 ·by_cases c2:b.y1<=a.y0
  ·exact .inr c2
  ·exact (h3 x (max a.y0 b.y0) ((dL _ _ _).2 (by omega)) ((dL _ _ _).2 (by omega))).elim
theorem KX {n:Nat} {l:List aj} {x0 x1:Int} (hd:Ar l) (ha:∀ r∈l,(decide (r.x0<=x0)&&decide (x1<=r.x1))=(decide (r.x0<=x0)&&decide (x0 < r.x1)))
 (hl:l.length < 1099511627776) (hn:l.length < n):q9 n l x0 x1=some (aF x0 x1 (bQ l x0)):=by
 have hv:=hd.2;have hs:Fb l x0 x1=dN l x0:=by
  unfold Fb dN;rw[List.filter_congr ha];rfl
 have h1:=tY l x0;have hp:=EJ Sz (aF x0 x1 (dN l x0));have hso:=EK Sz (aF x0 x1 (dN l x0));have h2:(zI ltY (aF x0 x1 (dN l x0))).length=(dN l x0).length:=by rw[Mj Sz,bW]
 unfold q9;simp only[length_nil,aC,au,Ff (x0:=x0) (x1:=x1) (l:=l) (by omega) (n:=n) (by omega),ah,hs];rw[JI (fun a b=>if a.y0 < b.y0 then -1 else if b.y0 < a.y0 then 1 else 0) (fun a b=>by show mQ a b=_;unfold mQ;rw[jM];rfl) (fun a b=>by
  by_cases h1:a.y0 < b.y0
  ·simp[h1]
  ·by_cases h2:b.y0 < a.y0<;>simp[h1,h2]) (by rw[bW];omega) (by rw[bW];omega)]
 simp only[ah];generalize hL:zI ltY (aF x0 x1 (dN l x0))=L at*;have hx:∀ r∈L,r.x0=x0∧r.x1=x1:=by
  intro r hr;have:=hp.mem_iff.1 hr;simp only[aF,mem_map]at this;obtain⟨s,_,rfl⟩:=this;exact⟨rfl,rfl⟩
 have eL:=Yi hx;have pT:(L.map M0).Perm (dN l x0):=by
  have:=hp.map M0;rw[ab8]at this;exact this
 have sT:(L.map M0).Pairwise fun x y=>x.from_<=y.from_:=by
  rw[List.pairwise_map];refine hso.imp fun {a b} hab=>?_;simp only[ltY,bU]at hab;show a.y0<=b.y0;omega
 generalize L.map M0=T at eL pT sT;subst eL;rw[bW]at h2;have oT:∀ s∈T,OkS s:=fun s h=>KL hv x0 s (pT.mem_iff.1 h);have dT:T.Pairwise fun s t=>s.to<=t.from_∨t.to<=s.from_:=(pT.pairwise_iff (fun {a b} h=>h.symm)).2 (aeX hd x0);have aT:T.Pairwise fun x y=>x.to<=y.from_:=by
  refine (List.Pairwise.and_mem.1 (sT.and dT)).imp fun {a b} hab=>?_;obtain⟨m1,m2,s1,s2⟩:=hab;have:=oT a m1;have:=oT b m2;rcases s2 with h |h
  ·exact h
  ·simp only[OkS]at *;omega
 obtain⟨o,g1,g2,g3,g4⟩:=Fh (n:=n) (x0:=x0) (x1:=x1) (aF x0 x1 (dN l x0)) T (by rw[bW];omega) (by omega) (by omega);obtain⟨o1,o2⟩:=o;simp only at g2 g3;subst g2;rw[g1];have so:yA 0 (((T.foldl ext []).length:Nat):Int) (aF x0 x1 (dN l x0)).length=true:=uY (by omega) (by omega) (by rw[bW];omega);have z:((((T.foldl ext []).length:Nat):Int)).toNat=(T.foldl ext []).length:=by omega
 rw[bW]at so;simp only[ah,bW,so,au,z,abW,g3,aC];obtain⟨c1,c2⟩:=O1 T [] tX oT aT (by simp);obtain⟨d1,d2⟩:=eu hv x0;rw[jN c1 d1 fun y=>by rw[c2,d2,wC,Bool.false_or,UC pT,Hr]]
theorem ak9 {n:Nat} {x0 x1 u0 u1:Int} {c d:List aL} (hl:c.length < 1099511627776) (hn:c.length < n):
 jw n (aF x0 x1 c) (aF u0 u1 d) (fun y:aj×aj×Unit=>lG y.1 y.2.1)=some (decide (c=d)):=by
 unfold jw;rw[bW,bW];by_cases hlen:c.length=d.length
 ·have h0:(((c.length:Nat):Int) != ((d.length:Nat):Int))=false:=by simp[hlen]
  rw[h0];have zl:(c.zip d).length=c.length:=by rw[List.length_zip];omega
  have:=jW (l:=c.zip d) (step:=iJ (aF x0 x1 c) (aF u0 u1 d) (fun y:aj×aj×Unit=>lG y.1 y.2.1)) (fun i=>((i:Nat):Int)) (fun z=>!decide (z.1=z.2)) () (fun _=>false) (fun i hi=>?_) ?_ n (by omega)
  ·rw[show ((0:Nat):Int)=0 from rfl]at this;simp only[aA];rw[this];rcases uZ (fun z:aL×aL=>!decide (z.1=z.2)) (c.zip d)with ⟨i,hi,h1,h2,_⟩ |⟨h1,h2⟩
   ·rw[h1];have:c≠d:=by
     intro e;subst e;simp at h2
    simp[this]
   ·rw[h1];have:c=d:=by
     refine List.ext_getElem hlen fun i hi hj=>?_;have hm:(c[i],d[i])∈c.zip d:=by
      rw[mem_iff_getElem];exact⟨i,by omega,by simp⟩
     have:=h2 _ hm;simpa using this
    simp[this]
  ·have hic:i < c.length:=(by omega);have hid:i < d.length:=(by omega);have hi':decide (((i:Nat):Int) < (((aF x0 x1 c).length:Nat):Int))=true:=(by rw[bW];simpa using hic);simp only[iJ,hi',au,UI hic,UI hid,ah,List.getElem_zip];generalize c[i]=p;generalize d[i]=q;obtain⟨p1,p2⟩:=p;obtain⟨q1,q2⟩:=q;have e:decide ((⟨p1,p2⟩:aL)=⟨q1,q2⟩)=((p1==q1)&&(p2==q2)):=(by rw[bJ];simp);rw[e];unfold lG;simp only;rw[aN (by omega)];cases p1==q1<;>cases p2==q2<;>rfl
  ·have hi':decide ((((c.zip d).length:Nat):Int) < (((aF x0 x1 c).length:Nat):Int))=false:=(by rw[bW,zl];simp);simp only[iJ,hi',aA]
 ·have h0:(((c.length:Nat):Int) != ((d.length:Nat):Int))=true:=by rw[bne_iff_ne];omega
  rw[h0];have:c≠d:=fun e=>hlen (by rw[e]);simp[this]
theorem Ie {n:Nat} {l:List aj} (hl:l.length < 10995116277) (hn:l.length < n):iter (lH l) n ((0:Int),([]:List Int))=some (l.flatMap fun r=>[r.x0,r.x1]):=by
 have:=cZ (l:=l) (step:=lH l) (fun i (s:List Int)=>((i:Int),s)) (fun r s=>s++[r.x0,r.x1]) (fun s=>s) (fun i s=>s.length<=2*i)
  (fun i hi s hs=>?_) (fun s hs=>by simp[lH]) n hn [] (aU _)
 ·rw[show ((0:Nat):Int)=0 from rfl]at this;rw[this];have gen:∀ (ys:List aj) (s:List Int),ys.foldl (fun s r=>s++[r.x0,r.x1]) s=s++ys.flatMap fun r=>[r.x0,r.x1]:=by
   intro ys
   induction ys with
   |nil=>intro s;simp
   |cons y ys ih=>intro s;simp[ih]
  congr 1;simpa using gen l []
 ·have hi':decide (((i:Nat):Int) < ((l.length:Nat):Int))=true:=by simpa using hi
  have ap:bM s.length s.length (sub ([l[i].x0,l[i].x1]:List Int) 0 2).length 2 8=true:=bI (n:=2);simp only[lH,hi',au,aY hi,ah,ap,dH,aC];refine⟨?_,by simp;omega⟩;rw[aN (by omega)];rfl
theorem Ig {n:Nat} (es:List Int) (i:Nat) (hi:i+1 < es.length) (he:es.length < 1099511627776) (pre:List aj) (x' x1:Int) (c:List aL) (hl:pre.length+c.length < 1099511627776) (hn:c.length < n):
 iter (lI ((),es) (i:Int) (pre++aF x' x1 c)) n (((pre.length:Nat):Int),pre++aF x' x1 c)=some (pre++aF x' es[i+1] c):=by
 have:=d9 (step:=lI ((),es) (i:Int) (pre++aF x' x1 c)) (fun j=>(((pre.length+j:Nat):Int),pre++(aF x' es[i+1] (c.take j)++aF x' x1 (c.drop j)))) c.length (pre++aF x' es[i+1] c) (fun j hj=>?_) ?_ n hn
 ·simpa[aF]using this
 ·have lt:(pre++aF x' x1 c).length=pre.length+c.length:=by rw[aZ,bW]
  have d:decide (((pre.length+j:Nat):Int) < (((pre++aF x' x1 c).length:Nat):Int))=true:=by rw[lt];simp;omega
  have w:i64.wrap ((i:Int)+1)=((i+1:Nat):Int):=aN (by omega);have ib:inb ((pre.length+j:Nat):Int) (pre++aF x' x1 c).length=true:=bC (by rw[lt];omega);have tl:(aF x' es[i+1] (c.take j)).length=j:=by rw[bW,length_take];omega
  have dr:c.drop j=c[j]::c.drop (j+1):=drop_eq_getElem_cons hj;have e1:aF x' x1 (c.drop j)=⟨x',c[j].from_,x1,c[j].to⟩::aF x' x1 (c.drop (j+1)):=by rw[dr];rfl
  have g:at? (pre++(aF x' es[i+1] (c.take j)++aF x' x1 (c.drop j))) (((0:Nat):Int)+((pre.length+j:Nat):Int))=some ⟨x',c[j].from_,x1,c[j].to⟩:=by
   rw[gW,eZ (by omega),eZ (by omega),tl,e1];simp
  have z:(((0:Nat):Int)+((pre.length+j:Nat):Int)).toNat=pre.length+j:=by omega
  have sn:aF x' es[i+1] (c.take j++[c[j]])=aF x' es[i+1] (c.take j)++[aj.mk x' c[j].from_ es[i+1] c[j].to]:=by unfold aF;rw[map_append];rfl
  have st:(pre++(aF x' es[i+1] (c.take j)++aF x' x1 (c.drop j))).set (pre.length+j) (aj.mk x' c[j].from_ es[i+1] c[j].to)=pre++(aF x' es[i+1] (c.take (j+1))++aF x' x1 (c.drop (j+1))):=by
   rw[set_append_right _ _ (by omega),set_append_right _ _ (by omega),tl,e1,dW hj,sn,Nat.add_sub_cancel_left,Nat.sub_self,List.set_cons_zero,aQ];rfl
  simp only[lI,d,au,w,bC hi,dh hi,ah,ib,g,z,st];rw[aN (by omega)];rfl
 ·have lt:(pre++aF x' x1 c).length=pre.length+c.length:=by rw[aZ,bW]
  have d:decide (((pre.length+c.length:Nat):Int) < (((pre++aF x' x1 c).length:Nat):Int))=false:=by rw[lt];simp
  simp only[lI,d,aA,List.take_length,List.drop_length];simp[aF]
theorem Po {n:Nat} {l:List aj} (hd:Ar l) (hl:l.length<=200000) (hn:1000000<=n):vX n l=some (bD (bq l)):=by
 unfold vX;have hv:=hd.2;have he:=nM l;simp only[length_nil,aC,au,Ie (l:=l) (n:=n) (by omega) (by omega),ah];rw[oJ (by rw[iE];omega) (by rw[iE];omega)];simp only[ah,dD,aC,au];rw[nV (by rw[dD,iE];omega) (by rw[dD,iE];omega)];simp only[ah];have hE:fM (gK ltI (l.flatMap fun r=>[r.x0,r.x1]))=aR l:=rfl;rw[hE];obtain⟨p1,p2⟩:=jO (fun a b=>(⟨a,b,bQ l a⟩:bg)) (aR l);have hP:(bq l).length=(aR l).length - 1:=p1;have bl:∀ i,(bD ((bq l).take i)).length<=400000*200000:=by
  intro i;have h1:=Ka ((bq l).take i) 200000 fun s hs=>by
   have:=QL (List.mem_of_mem_take hs);omega
  have h2:((bq l).take i).length<=400000:=by rw[length_take];omega
  exact Nat.le_trans h1 (Nat.mul_le_mul_right _ h2)
 have mx:max (0:Int) (i64.wrap ((((aR l).length:Nat):Int) - 1))=(((bq l).length:Nat):Int):=by rw[bB (by omega) (by omega)];omega
 have key:iter (lJ n l ((),aR l)) n ((0:Int),([]:List aj),([]:List aj))=some (bD (bq l)):=by
  have:=d9 (step:=lJ n l ((),aR l)) (fun i=>(((i:Nat):Int),bD ((bq l).take i),QS (bq l) i)) (bq l).length (bD (bq l)) (fun i hi=>?_) ?_ n (by omega)
  ·simpa[bD,QS]using this
  ·have hi2:i+1 < (aR l).length:=(by omega);have hi1:i < (aR l).length:=(by omega);have d:decide (((i:Nat):Int) < (((bq l).length:Nat):Int))=true:=(by simpa using hi);have w:i64.wrap ((i:Int)+1)=((i+1:Nat):Int):=aN (by omega);have hs:(bq l)[i]=⟨(aR l)[i],(aR l)[i+1],bQ l (aR l)[i]⟩:=p2 i hi2 hi;have adj:∀ r∈l,(decide (r.x0<=(aR l)[i])&&decide ((aR l)[i+1]<=r.x1))=(decide (r.x0<=(aR l)[i])&&decide ((aR l)[i] < r.x1)):=by
    intro r hr;congr 1;have hm:r.x1∈aR l:=zT.2 ⟨r,hr,.inr rfl⟩;obtain⟨j,hj,e⟩:=mem_iff_getElem.1 hm;have hst:=nN l;rw[List.pairwise_iff_getElem]at hst;rw[<- e,bJ,aM,aM];rcases Nat.lt_or_ge i j with hij |hij
    ·have a1:=hst i j hi1 hj hij;rcases Nat.eq_or_lt_of_le (show i+1<=j by omega)with e |hlt
     ·subst e;omega
     ·have a2:=hst (i+1) j hi2 hj hlt;omega
    ·rcases Nat.eq_or_lt_of_le hij with e |hlt
     ·subst e;have a2:=hst j (j+1) hj hi2 (by omega);omega
     ·have a1:=hst j i hj hi1 hlt;have a2:=hst i (i+1) hi1 hi2 (by omega);omega
   have lc:=tZ l (aR l)[i];have co:=KX (n:=n) (l:=l) (x0:=(aR l)[i]) (x1:=(aR l)[i+1]) hd adj (by omega) (by omega);have tk:=dW hi;have tkl:(bq l).take (i+1)=(bq l).take i++[(⟨(aR l)[i],(aR l)[i+1],bQ l (aR l)[i]⟩:bg)]:=(by rw[tk,hs]);have la:QS (bq l) (i+1)=aF (aR l)[i] (aR l)[i+1] (bQ l (aR l)[i]):=by
    unfold QS;rw[tkl,List.getLast?_append];rfl
   have bi:=bl i;have ap:bM (bD ((bq l).take i)).length (bD ((bq l).take i)).length (aF (aR l)[i] (aR l)[i+1] (bQ l (aR l)[i])).length (aF (aR l)[i] (aR l)[i+1] (bQ l (aR l)[i])).length 32=true:=by
    refine bI ?_ ?_
    ·rw[bW];omega
    ·rw[bW];simp only[maxLen];omega
   simp only[lJ,mx,d,au,bC hi1,dh hi1,ah,w,bC hi2,dh hi2,co,bE,aC,la,ap,dH];rcases List.eq_nil_or_concat ((bq l).take i)with e0 |⟨S,t,e0⟩
   ·
    have lz:QS (bq l) i=aF 0 0 []:=(by unfold QS;rw[e0];rfl);have wn:bD ((bq l).take (i+1))=aF (aR l)[i] (aR l)[i+1] (bQ l (aR l)[i]):=(by rw[tkl,e0];rfl);have wz:bD ((bq l).take i)=[]:=(by rw[e0];rfl);rw[lz,ak9 (by omega) (by omega),wn,wz];cases hc:bQ l (aR l)[i]with
    |nil=>
     have dz:decide ((((aF (aR l)[i] (aR l)[i+1] []).length:Nat):Int)>0)=false:=(by simp[aF]);simp only[dz,aA,ah,aC,au];rfl
    |cons q c=>
     have dz:decide (q::c=[])=false:=(by simp);simp only[dz,ah];cases decide ((((aF (aR l)[i] (aR l)[i+1] (q::c)).length:Nat):Int)>0)<;>simp only[au,aA,ah,aC]<;>rfl
   ·rw[List.concat_eq_append]at e0;have lz:QS (bq l) i=aF t.x0 t.x1 t.column:=(by unfold QS;rw[e0,List.getLast?_append];rfl);have tk2:(bq l).take (i+1)=S++[t,(⟨(aR l)[i],(aR l)[i+1],bQ l (aR l)[i]⟩:bg)]:=(by rw[tkl,e0,aQ];rfl);rw[lz,ak9 (by omega) (by omega)];by_cases hc:bQ l (aR l)[i]=t.column
    ·obtain⟨pre,x',w1,w2⟩:=QR ⟨(aR l)[i],(aR l)[i+1],bQ l (aR l)[i]⟩ t hc S;have ww:bD ((bq l).take i)=pre++aF x' t.x1 t.column:=(by rw[e0,w1]);have ww2:bD ((bq l).take (i+1))=pre++aF x' (aR l)[i+1] t.column:=(by rw[tk2,w2]);rw[ww2,ww];rw[ww,aZ,bW]at bi;have s3:=Ig (n:=n) (aR l) i hi2 (by omega) pre x' t.x1 t.column (by omega) (by rw[<- hc];omega);have wd:i64.wrap ((((pre++aF x' t.x1 t.column).length:Nat):Int) - (((aF (aR l)[i] (aR l)[i+1] (bQ l (aR l)[i])).length:Nat):Int))=((pre.length:Nat):Int):=(by rw[aZ,bW,bW,hc,bB (by omega) (by omega)];omega);have le:eqL (pre++aF x' t.x1 t.column).length (pre++aF x' (aR l)[i+1] t.column).length=true:=(by apply Zn;rw[aZ,aZ,bW,bW]);have dc:decide (bQ l (aR l)[i]=t.column)=true:=(by simpa using hc);simp only[wd,s3,le,dc,ah,au];cases hd:decide ((((aF (aR l)[i] (aR l)[i+1] (bQ l (aR l)[i])).length:Nat):Int)>0)with
     |true=>simp only[au,ah,aC]
     |false=>
      have hz:t.column=[]:=by
       rw[bW,hc]at hd;simp at hd;exact hd
      have hz2:bQ l (aR l)[i]=[]:=(by rw[hc,hz]);simp only[aA,ah,aC,hz,hz2,aF,map_nil,append_nil,au]
    ·have ww2:bD ((bq l).take (i+1))=bD ((bq l).take i)++aF (aR l)[i] (aR l)[i+1] (bQ l (aR l)[i]):=(by rw[tk2,UK _ t hc S,e0]);have dc:decide (bQ l (aR l)[i]=t.column)=false:=(by simpa using hc);rw[ww2];simp only[dc,ah];cases decide ((((aF (aR l)[i] (aR l)[i+1] (bQ l (aR l)[i])).length:Nat):Int)>0)<;>simp only[au,aA,ah,aC]
  ·have d:decide ((((bq l).length:Nat):Int) < (((bq l).length:Nat):Int))=false:=(by simp);simp only[lJ,mx,d,aA,List.take_length,aC,au]
 rw[key];simp only[ah,bE,aC,au]
abbrev ZU (t:l5):Prop:=t.area.length<=900∧t.from_.length*8<=140737488355328
theorem aeY {t:l5} (h:ZU t):Ms t=some t:=by
 unfold Ms;have h2:=h.2;rw[Dv (by omega),ah,show EL t.from_=some t.from_ from QI (b:=8) (by omega) (by simp only[maxLen];omega),ah];simp only[bE,aC,au]
theorem Pp {n:Nat} {land:List l5} {id:Int} (h:∀ t∈land,ZU t) (hl:land.length < 1099511627776) (hn:land.length < n):Je n land id=some (findLot land id):=by
 unfold Je;have:=jW (l:=land) (step:=EM land id) (fun i=>(i:Int)) (fun t=>t.id==id) () (fun i=>(land.getD i ack,true)) (fun i hi=>?_) ?_ n hn
 ·rw[show ((0:Nat):Int)=0 from rfl]at this;rw[this];unfold findLot;rcases UQ (fun t:l5=>t.id==id) land with ⟨i,hi,h1,h2⟩ |⟨h1,h2⟩
  ·rw[h1,h2];simp[hi]
  ·rw[h1,h2];rfl
 ·simp only[EM,bG hi,au,aY hi,ah,aeY (h _ (getElem_mem hi))];cases land[i].id==id with
  |true=>simp[hi]
  |false=>simp only[aA];rw[aN (by omega)]
 ·simp[EM]
theorem DT {land:List l5} (h:∀ t∈land,ZU t) (id:Int):ZU (findLot land id).1:=by
 unfold findLot;split
 ·rename_i t ht;exact h t (List.mem_of_find?_eq_some ht)
 ·simp[ZU,ack]
structure DU (t:dY):Prop where
 rules:t.plan_rules.length<=20
 ruleOk:∀ r∈t.plan_rules,ZQ r
 zones:t.plan_zones.length<=20
 land:t.land.length<=20
 lots:∀ l∈t.land,ZU l
 easements:t.easements.length<=5
 areas:∀ e∈t.easements,e.area.length<=10
theorem Ih {α:Type} (p:α->Bool):∀ l:List α,((List.range l.length).filter fun i=>(l[i]?).any p).filterMap (fun i=>l[i]?)=l.filter p
 |[]=>rfl
 |a::l=>by
  have ih:=Ih p l;rw[bH,List.range_succ_eq_map,List.filter_cons,List.filter_cons];have e:(List.filter (fun i=>((a::l)[i]?).any p) (List.map Nat.succ (List.range l.length))).filterMap (fun i=>(a::l)[i]?)=l.filter p:=by
   rw[List.filter_map,List.filterMap_map];exact ih
  cases hp:p a with
  |true=>simp[hp];simpa using e
  |false=>simp[hp];simpa using e
def uo (t:dY) (lot day:Int):List eD:=bif (findLot t.land lot).2 then t.plan_rules.filter (fG (ofZ t.plan_zones (findLot t.land lot).1.area) day)else []
theorem zX (t:dY) (lot day:Int):(uo t lot day).length<=t.plan_rules.length:=by
 unfold uo;cases (findLot t.land lot).2 with
 |true=>exact length_filter_le _ _
 |false=>simp
theorem BJ {n:Nat} {t:dY} (h:DU t) (lot day:Int) (hn:2000<=n):oI n t lot day=some (uo t lot day):=by
 obtain⟨h1,h2,h3,h4,h5,h6,h7⟩:=h;unfold oI uo;rw[Pp h5 (by omega) (by omega)];simp only[ah];have lw:=DT h5 lot;cases (findLot t.land lot).2 with
 |false=>rfl
 |true=>
  have zl:=agx t.plan_zones (findLot t.land lot).1.area;simp only[Bool.not_true,aA,au];rw[ZP _ _ (by simp only;omega) lw.1 hn];simp only[ah,bE,aC,au];rw[Rp _ _ _ h2 (by simp only;omega) (by omega) hn];simp only[ah,length_nil,aC,au];generalize hZ:ofZ t.plan_zones (findLot t.land lot).1.area=Z at*;have hm:∀ i∈xQ t.plan_rules Z day,i < t.plan_rules.length:=fun i hi=>List.mem_range.1 (mem_filter.1 hi).1;have hlen:(xQ t.plan_rules Z day).length<=t.plan_rules.length:=by
   have:=length_filter_le (fun i=>(t.plan_rules[i]?).any (fG Z day)) (List.range t.plan_rules.length);rw[List.length_range]at this;exact this
  rw[<- Ih];rw[show ((List.range t.plan_rules.length).filter fun i=>(t.plan_rules[i]?).any (fG Z day))=xQ t.plan_rules Z day from rfl];generalize xQ t.plan_rules Z day=idx at*
  have:=cZ (l:=idx) (step:=nT t (idx.map fun (i:Nat)=>(i:Int))) (fun i (s:List eD)=>((i:Int),s)) (fun i s=>s++(t.plan_rules[i]?).toList) (fun s=>s) (fun i s=>s.length<=i)
   (fun i hi s hs=>?_) (fun s hs=>by simp[nT]) n (by omega) [] (aU _)
  ·rw[show ((0:Nat):Int)=0 from rfl]at this;rw[this];simp only[ah,bE,aC,au];congr 1;have gen:∀ (ys:List Nat) (s:List eD),ys.foldl (fun s i=>s++(t.plan_rules[i]?).toList) s=s++ys.filterMap fun i=>t.plan_rules[i]? :=by
    intro ys
    induction ys with
    |nil=>intro s;simp
    |cons y ys ih=>
     intro s;rw[foldl_cons,ih,List.filterMap_cons];cases t.plan_rules[y]?<;>simp
   exact gen idx []
  ·have hk:=hm _ (getElem_mem hi);have e1:(idx.map fun (i:Nat)=>(i:Int)).length=idx.length:=length_map _;have g1:at? (idx.map fun (i:Nat)=>(i:Int)) (((0:Nat):Int)+((i:Nat):Int))=some ((idx[i]:Nat):Int):=(by rw[dh (by rw[e1];exact hi)];simp);have ap:bM s.length s.length (sub ([t.plan_rules[idx[i]]]:List eD) 0 1).length 1 232=true:=bI (n:=1);simp only[nT,e1,bG hi,au,bC hi,g1,ah,aY hk,ap,dH,aC,bL i];rw[gG hk];exact⟨rfl,by simp;omega⟩
def zY:ByteArray:=⟨#[115,101,116,98,97,99,107]⟩
def Pq (r:eD):Bool:=match r.test_args with
 |[a,b]=>r.kind==0&&(r.test_op==12&&(a.op==0&&(decide (a.args.length=0)&&(b.op==1&&(sEq b.s zY&&decide (b.args.length=0))))))
 |_=>false
def aeZ (r:eD):Int:=match r.test_args with
 |[a,_]=>a.n
 |_=>0
theorem JL (r:eD):∃ m,pu r=some (m,Pq r)∧(Pq r=true->m=aeZ r):=by
 unfold pu Pq aeZ;by_cases h2:r.test_args.length=2
 ·match hm:r.test_args,h2 with
  |[a,b],_=>
   have l2:(((([a,b]:List qA).length:Nat):Int) != 2)=false:=rfl;have g0:at? [a,b] 0=some a:=rfl;have g1:at? [a,b] 1=some b:=rfl;have la:(((a.args.length:Nat):Int)==0)=decide (a.args.length=0):=(by rw[bJ];simp);have lb:(((b.args.length:Nat):Int)==0)=decide (b.args.length=0):=(by rw[bJ];simp);simp only[l2,lU,ah,g0,g1,la,lb,bne];rw[show (ByteArray.toList b.s==ByteArray.toList (⟨#[115,101,116,98,97,99,107]⟩))=sEq b.s zY from rfl];generalize sEq b.s zY=q;generalize (a.op==0)=q1;generalize (b.op==1)=q2;generalize decide (a.args.length=0)=q3;generalize decide (b.args.length=0)=q4;cases r.kind==0<;>cases r.test_op==12<;>cases q<;>cases q1<;>cases q2<;>cases q3<;>cases q4<;>exact⟨_,rfl,fun h=>by first |rfl |cases h⟩
 ·have l2:(((r.test_args.length:Nat):Int) != 2)=true:=by rw[bne_iff_ne];omega
  have e:(match r.test_args with
   |[a,b]=>r.kind==0&&(r.test_op==12&&(a.op==0&&(decide (a.args.length=0)&&(b.op==1&&(sEq b.s zY&&decide (b.args.length=0))))))
   |_=>false)=false:=by
   match hm:r.test_args with
   |[]=>rfl
   |[_]=>rfl
   |[_,_]=>rw[hm]at h2;simp at h2
   |_::_::_::_=>rfl
  rw[e,l2];refine⟨0,?_,fun h=>by cases h⟩;cases r.kind != 0<;>cases r.test_op != 12<;>rfl
def distE (t:dY) (lot day:Int):Int:=(uo t lot day).foldl (fun m r=>bif Pq r then max m (aeZ r)else m) 0
theorem kI {n:Nat} {t:dY} (h:DU t) (lot day:Int) (hn:2000<=n):je n t lot day=some (distE t lot day):=by
 have hl:=zX t lot day;have h1:=h.rules;unfold je distE;rw[BJ h lot day hn];simp only[ah];generalize uo t lot day=l at*;have:=zb (l:=l) (step:=kz l) (fun i (s:Int)=>(s,((i:Nat):Int))) (fun r m=>bif Pq r then max m (aeZ r)else m) (fun s=>s) (fun i hi s=>?_) (fun s=>by simp[kz]) n (by omega) 0
 ·rw[show ((0:Nat):Int)=0 from rfl]at this;rw[this];rfl
 ·obtain⟨m,e1,e2⟩:=JL l[i];simp only[kz,bG hi,au,bC hi,dh hi,ah,e1,lU,bL i];cases hs:Pq l[i]with
  |true=>rw[e2 hs]
  |false=>rfl
def Fj (r:eD):bR:=⟨r.plane_side,r.plane_base,r.plane_num,r.plane_den⟩
def planesE (t:dY) (lot day:Int):List bR:=((uo t lot day).filter fun r=>r.kind==1).map Fj
theorem Ii (t:dY) (lot day:Int):(planesE t lot day).length<=t.plan_rules.length:=by
 unfold planesE;rw[length_map];exact Nat.le_trans (length_filter_le _ _) (zX t lot day)
theorem mY {n:Nat} {t:dY} (h:DU t) (lot day:Int) (hn:2000<=n):ji n t lot day=some (planesE t lot day):=by
 have hl:=zX t lot day;have h1:=h.rules;unfold ji planesE;rw[BJ h lot day hn];simp only[ah,length_nil,aC,au];generalize uo t lot day=l at*
 have:=cZ (l:=l) (step:=mM l) (fun i (s:List bR)=>((i:Int),s)) (fun r s=>bif r.kind==1 then s++[Fj r]else s) (fun s=>s) (fun i s=>s.length<=i)
  (fun i hi s hs=>?_) (fun s hs=>by simp[mM]) n (by omega) [] (aU _)
 ·rw[show ((0:Nat):Int)=0 from rfl]at this;rw[this];simp only[ah,bE,aC,au];congr 1;have gen:∀ (ys:List eD) (s:List bR),ys.foldl (fun s r=>bif r.kind==1 then s++[Fj r]else s) s=s++(ys.filter fun r=>r.kind==1).map Fj:=by
   intro ys
   induction ys with
   |nil=>intro s;simp
   |cons y ys ih=>
    intro s;rw[foldl_cons,ih,List.filter_cons];cases y.kind==1<;>simp
  exact gen l []
 ·have ap:bM s.length s.length (sub ([(bR.mk (l[i]).plane_side (l[i]).plane_base (l[i]).plane_num (l[i]).plane_den)]:List bR) 0 1).length 1 32=true:=bI (n:=1);simp only[mM,bG hi,au,bC hi,dh hi,ah,lU,ap,dH,aC,bL i];cases (l[i]).kind==1<;>refine⟨rfl,?_⟩<;>simp<;>omega
def FQ (a r:aj):aj:=⟨min a.x0 r.x0,min a.y0 r.y0,max a.x1 r.x1,max a.y1 r.y1⟩
def gy:List aj->aj
 |[]=>⟨0,0,0,0⟩
 |r::l=>l.foldl FQ r
def iL (a:List aj):aj×Bool:=bif decide (a≠[])&&rightL a then (gy a,true)else (⟨0,0,0,0⟩,false)
theorem aco {n:Nat} {a:List aj} (ha:a≠[]) (hv:∀ r∈a,OkR r=true) (hl:a.length<=900) (hn:2000<=n):MH n a=some (gy a,true):=by
 unfold MH;have:=zb (l:=a.zip (List.range a.length)) (step:=Bn a) (fun i (s:Bool×Int×Int×Int×Int)=>(s.1,((i:Nat):Int),s.2)) (fun p s=>bif !s.1 then (true,p.1.x0,p.1.y0,p.1.x1,p.1.y1)else (s.1,min s.2.1 p.1.x0,min s.2.2.1 p.1.y0,max s.2.2.2.1 p.1.x1,max s.2.2.2.2 p.1.y1)) (fun s=>s) (fun i hi s=>?_) (fun s=>?_) n (by simp;omega) (false,0,0,0,0)
 ·rw[show ((0:Nat):Int)=0 from rfl]at this;simp only at this;rw[this];cases a with
  |nil=>exact absurd rfl ha
  |cons r l=>
   have gen:∀ (l:List aj) (k:List Nat) (s:aj),l.length<=k.length->(l.zip k).foldl (fun (s:Bool×Int×Int×Int×Int) p=>bif !s.1 then (true,p.1.x0,p.1.y0,p.1.x1,p.1.y1)else (s.1,min s.2.1 p.1.x0,min s.2.2.1 p.1.y0,max s.2.2.2.1 p.1.x1,max s.2.2.2.2 p.1.y1)) (true,s.x0,s.y0,s.x1,s.y1)=(true,(l.foldl FQ s).x0,(l.foldl FQ s).y0,(l.foldl FQ s).x1,(l.foldl FQ s).y1):=by
    intro l
    induction l with
    |nil=>intro k s _;rfl
    |cons r l ih=>
     intro k s hk;cases k with
     |nil=>simp at hk
     |cons j k=>
      rw[List.zip_cons_cons,foldl_cons,foldl_cons];exact ih k (FQ s r) (by simpa using hk)
   rw[bH,List.range_succ_eq_map,List.zip_cons_cons,foldl_cons];simp only[Bool.not_false,au];rw[gen l _ r (by simp)];rfl
 ·have hi':i < a.length:=by simpa using hi
  obtain⟨s1,s2,s3,s4,s5⟩:=s;have ok:=hv _ (getElem_mem hi');simp only[Bn,bG hi',au,aY hi',ah,ve,ok,Bool.not_true,aA,lU,List.getElem_zip,bL i]
 ·obtain⟨s1,s2,s3,s4,s5⟩:=s;have:(a.zip (List.range a.length)).length=a.length:=by simp
  simp only[this,Bn,fP,aA]
theorem ZV {n:Nat} (a:List aj) (hl:a.length<=900) (hn:2000<=n):Dn n a=some (iL a):=by
 unfold Dn iL;cases a with
 |nil=>rfl
 |cons r l=>
  have e:((((r::l).length:Nat):Int)==0)=false:=by simp;omega
  have e2:decide (r::l≠[])=true:=by simp
  rw[oL (by omega) (by omega) (by omega),e,e2];simp only[aA,ah,Bool.true_and];cases hr:rightL (r::l)with
  |false=>rfl
  |true=>
   simp only[Bool.not_true,aA];rw[aco (by simp) (dV hr).1 hl hn];rfl
theorem U3:∀ (l:List aj) (r:aj),OkR r=true->(∀ q∈l,OkR q=true)->OkR (l.foldl FQ r)=true
 |[],_,h,_=>h
 |q::l,r,h,hl=>by
  rw[foldl_cons];refine U3 l _ ?_ fun p hp=>hl p (bP _ hp);have:=hl q mem_cons_self;rw[jA]at*;unfold FQ;simp only;omega
theorem ae0 {a:List aj} (h:a≠[]) (hr:rightL a=true):iL a=(gy a,true)∧OkR (gy a)=true:=by
 unfold iL;have e2:decide (a≠[])=true:=by simpa using h
 rw[hr,e2];refine⟨rfl,?_⟩;have hv:=(dV hr).1;cases a with
 |nil=>exact absurd rfl h
 |cons r l=>exact U3 l r (hv r mem_cons_self) fun q hq=>hv q (bP _ hq)
def vk (base may:List aj):List aj:=base.flatMap fun r=>(may.filter (iH r)).map (dJ r)
theorem acp (base may:List aj) (x y:Int):aV (vk base may) x y=(aV base x y&&aV may x y):=by
 unfold vk;rw[Ic,bJ,aK,any_eq_true];constructor
 ·rintro⟨r,hr,h⟩;obtain⟨q,hq,hh⟩:=(fw _ _ _).1 h;obtain⟨m,hm,rfl⟩:=mem_map.1 hq;rw[Nf,aK]at hh;exact⟨(fw _ _ _).2 ⟨r,hr,hh.1⟩,(fw _ _ _).2 ⟨m,(mem_filter.1 hm).1,hh.2⟩⟩
 ·rintro⟨h1,h2⟩;obtain⟨r,hr,hh1⟩:=(fw _ _ _).1 h1;obtain⟨m,hm,hh2⟩:=(fw _ _ _).1 h2;refine⟨r,hr,(fw _ _ _).2 ⟨dJ r m,mem_map.2 ⟨m,mem_filter.2 ⟨hm,?_⟩,rfl⟩,by rw[Nf,hh1,hh2];rfl⟩⟩;cases hb:iH r m with
  |true=>rfl
  |false=>have:=Yn hb x y;rw[hh1,hh2]at this;cases this
theorem acr {base may:List aj} (hb:Ar base) (h1:may.length<=1) (hm:∀ q∈may,OkR q=true):Ar (vk base may):=by
 refine⟨?_,fun q hq=>?_⟩
 ·unfold vk;rw[List.pairwise_flatMap];refine⟨fun r hr=>?_,hb.1.imp fun {r s} hrs p hp q hq x y g1 g2=>?_⟩
  ·have:((may.filter (iH r)).map (dJ r)).length<=1:=by rw[length_map];exact Nat.le_trans (length_filter_le _ _) h1
   match (may.filter (iH r)).map (dJ r),this with
   |[],_=>exact List.Pairwise.nil
   |[_],_=>simp
   |_::_::_,h=>simp at h
  ·obtain⟨m,_,rfl⟩:=mem_map.1 hp;obtain⟨m',_,rfl⟩:=mem_map.1 hq;rw[Nf,aK]at g1 g2;exact hrs x y g1.1 g2.1
 ·obtain⟨r,hr,h⟩:=mem_flatMap.1 hq;obtain⟨m,hm',rfl⟩:=mem_map.1 h;obtain⟨hm1,hm2⟩:=mem_filter.1 hm';exact ZT (hb.2 r hr) (hm m hm1) hm2
theorem acs {base may:List aj} {X Y:List Int} (hx:∀ r∈base,r.x0∈X∧r.y0∈Y) (hm:∀ r∈may,r.x0∈X∧r.y0∈Y):BI X Y (vk base may):=by
 intro q hq;obtain⟨r,hr,h⟩:=mem_flatMap.1 hq;obtain⟨m,hm',rfl⟩:=mem_map.1 h;have a:=hx r hr;have b:=hm m (mem_filter.1 hm').1;exact⟨SB a.1 b.1,SB a.2 b.2⟩
def vo (h:Int) (l:List aj) (es:List bV):List aj:=es.foldl (fun l e=>bif decide (e.top>=h)then l else e.area.foldl Gc l) l
theorem Ij {n:Nat} (may:List aj) (z:Int) (r:aj) (out:List aj) (ho:out.length<=1000000) (h1:may.length<=1000) (hn:2000<=n):
 iter (lK (may,z) r) n ((0:Int),out)=some (out++(may.filter (iH r)).map (dJ r)):=by
 have:=cZ (l:=may) (step:=lK (may,z) r) (fun i (s:List aj)=>((i:Int),s)) (fun m s=>bif iH r m then s++[dJ r m]else s) (fun s=>s) (fun i s=>s.length<=out.length+i)
  (fun i hi s hs=>?_) (fun s hs=>by simp[lK]) n (by omega) out (aU _)
 ·rw[show ((0:Nat):Int)=0 from rfl]at this;rw[this];congr 1;have gen:∀ (ys:List aj) (s:List aj),ys.foldl (fun s m=>bif iH r m then s++[dJ r m]else s) s=s++(ys.filter (iH r)).map (dJ r):=by
   intro ys
   induction ys with
   |nil=>intro s;simp
   |cons y ys ih=>
    intro s;rw[foldl_cons,ih,List.filter_cons];cases iH r y<;>simp
  exact gen may out
 ·have ap:bM s.length s.length (sub ([dJ r may[i]]:List aj) 0 1).length 1 32=true:=bI (n:=1);simp only[lK,bG hi,au,bC hi,dh hi,ah,DR,lU,ap,dH,aC,bL i];rw[show (decide ((dJ r may[i]).x0 < (dJ r may[i]).x1)&&decide ((dJ r may[i]).y0 < (dJ r may[i]).y1))=iH r may[i]from rfl];cases iH r may[i]<;>refine⟨rfl,?_⟩<;>simp<;>omega
theorem Ik {n:Nat} (base may:List aj) (z:Int) (h0:base.length<=1000) (h1:may.length<=1) (hn:2000<=n):
 iter (lM n base (may,z)) n ((0:Int),([]:List aj))=some (vk base may):=by
 have:=cZ (l:=base) (step:=lM n base (may,z)) (fun i (s:List aj)=>((i:Int),s)) (fun r s=>s++(may.filter (iH r)).map (dJ r)) (fun s=>s) (fun i s=>s.length<=i)
  (fun i hi s hs=>?_) (fun s hs=>by simp[lM]) n (by omega) [] (aU _)
 ·rw[show ((0:Nat):Int)=0 from rfl]at this;rw[this];congr 1;have gen:∀ (ys:List aj) (s:List aj),ys.foldl (fun s r=>s++(may.filter (iH r)).map (dJ r)) s=s++vk ys may:=by
   intro ys
   induction ys with
   |nil=>intro s;simp[vk]
   |cons y ys ih=>intro s;rw[foldl_cons,ih];simp[vk]
  exact gen base []
 ·have l1:((may.filter (iH base[i])).map (dJ base[i])).length<=1:=by rw[length_map];exact Nat.le_trans (length_filter_le _ _) h1
  simp only[lM,bG hi,au,aY hi,ah,aC,Ij may z base[i] s (by omega) (by omega) hn,bL i];exact⟨trivial,by rw[aZ];omega⟩
structure ajN (X Y:List Int) (es:List bV):Prop where
 ok:∀ e∈es,rightL e.area=true
 x0:∀ e∈es,∀ c∈e.area,c.x0∈X
 x1:∀ e∈es,∀ c∈e.area,c.x1∈X
 y1:∀ e∈es,∀ c∈e.area,c.y1∈Y
 len:∀ e∈es,e.area.length<=200
 size:X.length*Y.length<=200000
theorem Ps {X Y:List Int} (hs:X.length*Y.length<=200000):∀ (cs:List aj),(∀ c∈cs,OkR c=true∧c.x0∈X∧c.x1∈X∧c.y1∈Y)->∀ l,Ar l->BI X Y l->Ar (cs.foldl Gc l)∧BI X Y (cs.foldl Gc l)∧∀ x y,aV (cs.foldl Gc l) x y=(aV l x y&&!aV cs x y)
 |[],_,l,hd,hx=>⟨hd,hx,fun x y=>by simp[aV]⟩
 |c::cs,h,l,hd,hx=>by
  obtain⟨o,a,b,d⟩:=h c mem_cons_self;obtain⟨g1,g2,g3⟩:=Ps hs cs (fun q hq=>h q (bP _ hq)) (Gc l c) (Yo hd o) (Yp hd.2 o hx a b d);refine⟨g1,g2,fun x y=>?_⟩;rw[foldl_cons,g3,ahn];have e:aV (c::cs) x y=(iC c x y || aV cs x y):=by simp[aV,iC]
  rw[e];cases aV l x y<;>cases iC c x y<;>cases aV cs x y<;>rfl
theorem Im {X Y:List Int} {h:Int}:∀ (es:List bV),ajN X Y es->∀ l,Ar l->BI X Y l->Ar (vo h l es)∧BI X Y (vo h l es)∧∀ x y,aV (vo h l es) x y=(aV l x y&&es.all fun e=>decide (h<=e.top) || !aV e.area x y)
 |[],_,l,hd,hx=>⟨hd,hx,fun x y=>by simp[vo]⟩
 |e::es,hc,l,hd,hx=>by
  have hc':ajN X Y es:=⟨fun a ha=>hc.ok a (bP _ ha),fun a ha=>hc.x0 a (bP _ ha),fun a ha=>hc.x1 a (bP _ ha),fun a ha=>hc.y1 a (bP _ ha),fun a ha=>hc.len a (bP _ ha),hc.size⟩;have em:e∈e::es:=mem_cons_self;have dd:decide (e.top>=h)=decide (h<=e.top):=rfl;by_cases ht:h<=e.top
  ·have d:decide (h<=e.top)=true:=(by simpa using ht);have e0:vo h l (e::es)=vo h l es:=by
    unfold vo;rw[foldl_cons,dd,d];rfl
   rw[e0];obtain⟨g1,g2,g3⟩:=Im (h:=h) es hc' l hd hx;refine⟨g1,g2,fun x y=>?_⟩;rw[g3,all_cons,d];simp
  ·have d:decide (h<=e.top)=false:=(by simpa using ht);have e0:vo h l (e::es)=vo h (e.area.foldl Gc l) es:=by
    unfold vo;rw[foldl_cons,dd,d];rfl
   rw[e0];obtain⟨k1,k2,k3⟩:=Ps hc.size e.area (fun c hcm=>⟨(dV (hc.ok e em)).1 c hcm,hc.x0 e em c hcm,hc.x1 e em c hcm,hc.y1 e em c hcm⟩) l hd hx;obtain⟨g1,g2,g3⟩:=Im (h:=h) es hc' _ k1 k2;refine⟨g1,g2,fun x y=>?_⟩;rw[g3,k3,all_cons,d,Bool.false_or,Bool.and_assoc]
theorem Io {n:Nat} (e:bV) {X Y:List Int} (hs:X.length*Y.length<=200000) (he:∀ c∈e.area,OkR c=true∧c.x0∈X∧c.x1∈X∧c.y1∈Y) (hl:e.area.length<=1000) (l:List aj) (hd:Ar l) (hx:BI X Y l) (hn:1000000<=n):
 iter (lN n e) n ((0:Int),l)=some (e.area.foldl Gc l):=by
 have:=cZ (l:=e.area) (step:=lN n e) (fun i (s:List aj)=>((i:Int),s)) (fun c s=>Gc s c) (fun s=>s) (fun i s=>Ar s∧BI X Y s)
  (fun i hi s hs'=>?_) (fun s hs=>by simp[lN]) n (by omega) l ⟨hd,hx⟩
 ·rw[show ((0:Nat):Int)=0 from rfl]at this;exact this
 ·obtain⟨o,a,b,c⟩:=he _ (getElem_mem hi);have hlen:=U2 hs'.1 hs'.2;simp only[lN,bG hi,au,aY hi,ah,bE,aC,Rs (n:=n) (l:=s) (e.area[i]) (by omega) (by omega) (by omega),bL i];exact⟨trivial,Yo hs'.1 o,Yp hs'.1.2 o hs'.2 a b c⟩
theorem Ip {n:Nat} {X Y:List Int} {h:Int} (es:List bV) (hc:ajN X Y es) (hl:es.length<=1000) (l:List aj) (hd:Ar l) (hx:BI X Y l) (hn:1000000<=n):
 iter (lQ n es h) n ((0:Int),l)=some (vo h l es):=by
 have:=cZ (l:=es) (step:=lQ n es h) (fun i (s:List aj)=>((i:Int),s)) (fun e s=>bif decide (e.top>=h)then s else e.area.foldl Gc s) (fun s=>s) (fun i s=>Ar s∧BI X Y s)
  (fun i hi s hs'=>?_) (fun s hs=>by simp[lQ]) n (by omega) l ⟨hd,hx⟩
 ·rw[show ((0:Nat):Int)=0 from rfl]at this;exact this
 ·have em:=getElem_mem hi;have al:=hc.len _ em;have hcs:∀ c∈(es[i]).area,OkR c=true∧c.x0∈X∧c.x1∈X∧c.y1∈Y:=fun c hcm=>⟨(dV (hc.ok _ em)).1 c hcm,hc.x0 _ em c hcm,hc.x1 _ em c hcm,hc.y1 _ em c hcm⟩;have r4:=Io (n:=n) es[i] hc.size hcs (by omega) s hs'.1 hs'.2 hn;obtain⟨k1,k2,_⟩:=Ps hc.size (es[i]).area hcs s hs'.1 hs'.2;simp only[lQ,bG hi,au,aY hi,ah,aC,r4,lU,bL i];cases decide ((es[i]).top>=h)with
  |true=>exact⟨trivial,hs'⟩
  |false=>exact⟨trivial,k1,k2⟩
def acu (base:List aj) (b:aj) (ps:List bR) (es:List bV) (h x y:Int):Bool:=
 aV base x y&&(decide (pK b ps=true∧∀ p∈ps,h<=ZR b p x y)&&es.all fun e=>decide (h<=e.top) || !aV e.area x y)
def ae1 (l:List aj):List aj×Int:=if l.length>200 then ([],6)else (l,0)
theorem KY {n:Nat} (base:List aj) (b:aj) (ps:List bR) (es:List bV) {h:Int} (hb:rightL base=true) (hp:ps.length<=1000) (hes:∀ e∈es,rightL e.area=true) (hel:es.length<=5) (hal:∀ e∈es,e.area.length<=10) (hh:1<=h∧h<=4096) (hn:1000000<=n):
 ∃ L,Ar L∧(∀ x y,aV L x y=acu base b ps es h x y)∧nH n base b ps es h=some (ae1 (bD (bq L))):=by
 unfold nH;cases hbase:base with
 |nil=>exact⟨[],⟨List.Pairwise.nil,by simp⟩,fun x y=>by simp[aV,acu],rfl⟩
 |cons r0 l0=>
  rw[<- hbase];have e0:(((base.length:Nat):Int)==0)=false:=by rw[hbase];simp;omega
  obtain⟨bv,bl,_⟩:=dV hb;obtain⟨r,g1,g2,g3,g4⟩:=Rq (n:=n) b ps hh hp (by omega);obtain⟨may,z⟩:=r;simp only at g2 g3 g4;have hd:=aeW hb;have dC:=acr hd g2 g3
  let cs:=es.flatMap fun e=>e.area
  have hcsl:cs.length<=50:=by
   show (es.flatMap fun e=>e.area).length<=50;rw[List.flatMap_def];have:=ul 10 (es.map fun e=>e.area) fun x hx=>(by obtain⟨e,he,rfl⟩:=mem_map.1 hx;exact hal e he);rw[length_map]at this;omega
  let X:=(base.map (·.x0))++(may.map (·.x0))++(cs.map (·.x0))++(cs.map (·.x1))
  let Y:=(base.map (·.y0))++(may.map (·.y0))++(cs.map (·.y1))
  have hX:X.length<=301:=by show ((base.map (·.x0))++(may.map (·.x0))++(cs.map (·.x0))++(cs.map (·.x1))).length<=301;simp only[aZ,length_map];omega
  have hY:Y.length<=251:=by show ((base.map (·.y0))++(may.map (·.y0))++(cs.map (·.y1))).length<=251;simp only[aZ,length_map];omega
  have hXY:X.length*Y.length<=200000:=Nat.le_trans (Nat.mul_le_mul hX hY) (by omega);have mc:∀ e∈es,∀ c∈e.area,c∈cs:=fun e he c hc=>mem_flatMap.2 ⟨e,he,hc⟩;have hC:ajN X Y es:=⟨hes,fun e he c hc=>by simp only[X,aX,mem_map];exact .inl (.inr ⟨c,mc e he c hc,rfl⟩),fun e he c hc=>by simp only[X,aX,mem_map];exact .inr ⟨c,mc e he c hc,rfl⟩,fun e he c hc=>by simp only[Y,aX,mem_map];exact .inr ⟨c,mc e he c hc,rfl⟩,fun e he=>by have:=hal e he;omega,hXY⟩;have cC:BI X Y (vk base may):=acs (fun r hr=>⟨by simp only[X,aX,mem_map];exact .inl (.inl (.inl ⟨r,hr,rfl⟩)),by simp only[Y,aX,mem_map];exact .inl (.inl ⟨r,hr,rfl⟩)⟩) (fun r hr=>⟨by simp only[X,aX,mem_map];exact .inl (.inl (.inr ⟨r,hr,rfl⟩)),by simp only[Y,aX,mem_map];exact .inl (.inr ⟨r,hr,rfl⟩)⟩);obtain⟨k1,k2,k3⟩:=Im (h:=h) es hC (vk base may) dC cC;refine⟨vo h (vk base may) es,k1,fun x y=>?_,?_⟩
  ·rw[k3,acp];unfold acu;rw[Bool.and_assoc];cases hcb:aV base x y with
   |false=>rfl
   |true=>
    have ig:InG x y:=mV bv hcb;congr 2;rw[bJ,g4,aM];exact⟨fun ⟨a,_,c⟩=>⟨a,c⟩,fun⟨a,c⟩=>⟨a,ig,c⟩⟩
  ·have kl:=U2 k1 k2;rw[e0];simp only[aA,g1,ah,length_nil,aC,au,Ik base may z (by omega) g2 (show 2000<=n by omega),Ip es hC (by omega) _ dC cC hn,bE,Po k1 (by omega) hn];unfold ae1;generalize bD (bq (vo h (vk base may) es))=W;by_cases h2:W.length>200
   ·have:decide (((W.length:Nat):Int)>200)=true:=(by simp;omega);rw[this,aJ h2];rfl
   ·have:decide (((W.length:Nat):Int)>200)=false:=(by simp;omega);rw[this,aD h2];rfl
theorem ae2 {L:List aj} (h:Ar L) (hl:(bD (bq L)).length<=200):rightL (bD (bq L))=true∧∀ x y,aV (bD (bq L)) x y=aV L x y:=by
 have hc:∀ x,fI (bq L) x=bQ L x:=nO L;have hin:∀ x y,inS (fI (bq L) x) y=aV L x y:=fun x y=>by rw[hc,(eu h.2 x).2]
 refine⟨MX (lW L) (fun x=>by rw[hc];exact (eu h.2 x).1) (fun x y hxy=>mV h.2 (by rw[<- hin];exact hxy)) hl,fun x y=>?_⟩;rw[Fa (lW L),hin]
def lawsE (t:dY) (lot:Int):List bV:=t.easements.filter fun e=>e.lot==lot&&rightL e.area
def areaE (t:dY) (lot:Int):List aj:=(findLot t.land lot).1.area
def baseE (t:dY) (lot day:Int):List aj×Int:=if distE t lot day<=1048576 then nW (areaE t lot) (distE t lot day)else ([],0)
theorem QZ {t:dY} {lot day:Int} (h:(baseE t lot day).2=0):rightL (baseE t lot day).1=true:=by
 unfold baseE at*;split
 ·rename_i hd;rw[aJ hd]at h;exact (QU (r:=(nW (areaE t lot) (distE t lot day)).1) (by rw[<- h])).2.2.1
 ·rfl
theorem ahp {n:Nat} {t:dY} (h:DU t) (lot:Int) (hn:2000<=n):iter (jf n t lot) n ((0:Int),([]:List bV))=some (lawsE t lot):=by
 have hl:=h.easements
 have:=cZ (l:=t.easements) (step:=jf n t lot) (fun i (s:List bV)=>((i:Int),s)) (fun e s=>bif e.lot==lot&&rightL e.area then s++[e]else s) (fun s=>s) (fun i s=>s.length<=i)
  (fun i hi s hs=>?_) (fun s hs=>by simp[jf]) n (by omega) [] (aU _)
 ·rw[show ((0:Nat):Int)=0 from rfl]at this;rw[this];congr 1;have gen:∀ (ys:List bV) (s:List bV),ys.foldl (fun s e=>bif e.lot==lot&&rightL e.area then s++[e]else s) s=s++ys.filter fun e=>e.lot==lot&&rightL e.area:=by
   intro ys
   induction ys with
   |nil=>intro s;simp
   |cons y ys ih=>
    intro s;rw[foldl_cons,ih,List.filter_cons];cases y.lot==lot&&rightL y.area<;>simp
  exact gen t.easements []
 ·have al:=h.areas _ (getElem_mem hi);have ap:bM s.length s.length (sub ([t.easements[i]]:List bV) 0 1).length 1 40=true:=bI (n:=1);simp only[jf,bG hi,au,aY hi,ah,oL (n:=n) (l:=(t.easements[i]).area) (by omega) (by omega) (by omega),lU,ap,dH,aC,bL i];cases (t.easements[i]).lot==lot<;>cases rightL (t.easements[i]).area<;>refine⟨rfl,?_⟩<;>simp<;>omega
def Yq (t:dY) (lot day h x y:Int):Bool:=acu (baseE t lot day).1 (iL (areaE t lot)).1 (planesE t lot day) (lawsE t lot) h x y
def Fp (t:dY) (lot day:Int) (W:Nat->List aj):Prop:=∀ j:Nat,j < 12->∃ L,Ar L∧(∀ x y,aV L x y=Yq t lot day (3*((j:Int)+1)) x y)∧W j=bD (bq L)
theorem Gd {n:Nat} (F:Nat) (hF:F<=12) (base:List aj) (es:List bV) (b:aj×Bool) (ps:List bR) (W:Nat->List aj) (hW:∀ j:Nat,j < 12->nH n base b.1 ps es (3*((j:Int)+1))=some (ae1 (W j))) (hn:2000<=n):
 iter (gu n (F:Int) base es b ps) n ((0:Int),([]:List (List aj)))=some (if ∃ j:Nat,j < F∧(W j).length>200 then .inr ([],6)else .inl ((List.range F).map W)):=by
 have st:∀ j,j < F->gu n (F:Int) base es b ps (((j:Nat):Int),(List.range j).map W)=some (if (W j).length>200 then .inr (.inr ([],6))else .inl (((j+1:Nat):Int),(List.range (j+1)).map W)):=by
  intro j hj;have w:i64.wrap ((j:Int)+1)=((j:Int)+1):=bB (by omega) (by omega);have w3:i64.wrap (3*((j:Int)+1))=3*((j:Int)+1):=bB (by omega) (by omega);have ap:bM ((List.range j).map W).length ((List.range j).map W).length (sub ([W j]:List (List aj)) 0 1).length 1 24=true:=bI (n:=1) (by simp;omega) (by simp only[maxLen,length_map,List.length_range];omega);simp only[gu,bG hj,au,bE,aC,w,w3,hW j (by omega),ah];unfold ae1;by_cases h2:(W j).length>200
  ·rw[aJ h2,aJ h2];rfl
  ·rw[aD h2,aD h2];simp only[bE,aC,au,ap,dH,List.range_succ,map_append,bf,map_nil];rfl
 rcases vQ (fun j=>decide ((W j).length>200)) 0 F with ⟨i,h1,h2,h3,h4⟩ |h
 ·have hi:(W i).length>200:=by simpa using h3
  rw[aJ ⟨i,h2,hi⟩];have:=d9 (step:=gu n (F:Int) base es b ps) (fun j=>(((j:Nat):Int),(List.range j).map W)) i (.inr ([],6)) (fun j hj=>?_) ?_ n (by omega)
  ·exact this
  ·have:=h4 j (by omega) hj;rw[st j (by omega),aD (by simpa using this)]
  ·rw[st i h2,aJ hi]
 ·rw[aD (by rintro⟨j,hj,hl⟩;have:=h j (by omega) hj;simp at this;omega)];have:=d9 (step:=gu n (F:Int) base es b ps) (fun j=>(((j:Nat):Int),(List.range j).map W)) F (.inl ((List.range F).map W)) (fun j hj=>?_) ?_ n (by omega)
  ·exact this
  ·have:=h j (by omega) hj;rw[st j hj,aD (by simpa using this)]
  ·simp only[gu,fP,aA,aC,au]
theorem qi {n:Nat} {t:dY} (h:DU t) (lot day floors:Int) (hn:1000000<=n):
 ((findLot t.land lot).2=false∧envelope_Rooms n t lot day floors=some ([],4))∨
 ((findLot t.land lot).2=true∧¬ ((0<=floors∧floors<=12)∧rightL (areaE t lot)=true)∧envelope_Rooms n t lot day floors=some ([],1))∨
 ((findLot t.land lot).2=true∧((0<=floors∧floors<=12)∧rightL (areaE t lot)=true)∧(baseE t lot day).2≠0∧envelope_Rooms n t lot day floors=some ([],(baseE t lot day).2))∨
 ((findLot t.land lot).2=true∧((0<=floors∧floors<=12)∧rightL (areaE t lot)=true)∧(baseE t lot day).2=0∧∃ W,Fp t lot day W∧envelope_Rooms n t lot day floors=some (if ∃ j:Nat,j < floors.toNat∧(W j).length>200 then ([],6)else ((List.range floors.toNat).map W,0))):=by
 have lw:=DT h.lots lot;have hland:=h.land;have hfind:Je n t.land lot=some (findLot t.land lot):=Pp h.lots (by omega) (by omega);unfold envelope_Rooms;rw[hfind];simp only[ah];cases hf:(findLot t.land lot).2 with
 |false=>exact .inl ⟨rfl,rfl⟩
 |true=>
  refine .inr ?_;rw[show (findLot t.land lot).1.area=areaE t lot from rfl]at*;rw[oL (by have:=lw.1;unfold areaE;omega) (by have:=lw.1;unfold areaE;omega) (by omega)];simp only[Bool.not_true,aA,ah,lU];by_cases hok:(0<=floors∧floors<=12)∧rightL (areaE t lot)=true
  ·obtain⟨⟨f0,f12⟩,hr⟩:=hok;have d0:decide (floors < 0)=false:=(by simp;omega);have d12:decide (floors>12)=false:=(by simp;omega);refine .inr ?_;rw[d0,d12,hr,kI h lot day (by omega)];simp only[aA,ah,Bool.not_true];obtain⟨F,rfl⟩:∃ F:Nat,floors=(F:Int):=⟨floors.toNat,by omega⟩;have hF:(F:Int).toNat=F:=(by omega);have hwl:=Ii t lot day;have hrl:=h.rules;have fin:∀ base:List aj,rightL base=true->(baseE t lot day).1=base->∃ W,Fp t lot day W∧(bif eqL 0 ([]:List bV).length then (iter (jf n t lot) n ((0:Int),([]:List bV))).bind fun w1=>(Dn n (areaE t lot)).bind fun r7=>(ji n t lot day).bind fun r8=>bif eqL 0 ([]:List (List aj)).length then dX (iter (gu n (F:Int) base w1 r7 r8) n ((0:Int),([]:List (List aj)))) fun w2=>bif eqL (sub w2 0 w2.length).length w2.length then some ((sub w2 0 w2.length),(0:Int))else none else none else none:Option (List (List aj)×Int))=some (if ∃ j:Nat,j < F∧(W j).length>200 then ([],6)else ((List.range F).map W,0)):=by
    intro base hb hbe;have hex:∀ j:Nat,∃ V:List aj,j < 12->(∃ L,Ar L∧(∀ x y,aV L x y=Yq t lot day (3*((j:Int)+1)) x y)∧V=bD (bq L))∧nH n base (iL (areaE t lot)).1 (planesE t lot day) (lawsE t lot) (3*((j:Int)+1))=some (ae1 V):=by
     intro j;by_cases hj:j < 12
     ·obtain⟨L,l1,l2,l3⟩:=KY (n:=n) base (iL (areaE t lot)).1 (planesE t lot day) (lawsE t lot) (h:=3*((j:Int)+1)) hb (by omega) (fun e he=>by have:=(mem_filter.1 he).2;rw[aK]at this;exact this.2) (Nat.le_trans (length_filter_le _ _) h.easements) (fun e he=>h.areas e (mem_filter.1 he).1) (by omega) hn;exact⟨_,fun _=>⟨⟨L,l1,fun x y=>by rw[l2];unfold Yq;rw[hbe],rfl⟩,l3⟩⟩
     ·exact⟨[],fun h=>absurd h hj⟩
    obtain⟨W,hW⟩:=Classical.axiomOfChoice hex;refine⟨W,fun j hj=>(hW j hj).1,?_⟩;rw[ahp h lot (by omega),ZV (areaE t lot) lw.1 (by omega),mY h lot day (by omega)];simp only[length_nil,aC,au,ah];rw[Gd F (by omega) base (lawsE t lot) (iL (areaE t lot)) (planesE t lot day) W (fun j hj=>(hW j hj).2) (by omega)];split
    ·rfl
    ·simp only[fD,bE,aC,au]
   by_cases hd:distE t lot day<=1048576
   ·have dd:decide (distE t lot day<=1048576)=true:=(by simpa using hd);have be:baseE t lot day=nW (areaE t lot) (distE t lot day):=(by unfold baseE;rw[aJ hd]);rw[dd];simp only[au,ZO (n:=n) (a:=areaE t lot) (d:=distE t lot day) lw.1 (by omega),ah,<- be];by_cases he:(baseE t lot day).2=0
    ·have e1:((baseE t lot day).2 != 0)=false:=(by simp[he]);rw[e1];simp only[aA,aC,au,fD];obtain⟨W,w1,w2⟩:=fin (baseE t lot day).1 (QZ he) rfl;exact .inr ⟨trivial,⟨⟨f0,f12⟩,trivial⟩,he,W,w1,by rw[hF];exact w2⟩
    ·have e1:((baseE t lot day).2 != 0)=true:=(by simp[he]);rw[e1];exact .inl ⟨trivial,⟨⟨f0,f12⟩,trivial⟩,he,rfl⟩
   ·have dd:decide (distE t lot day<=1048576)=false:=(by simpa using hd);have be:baseE t lot day=([],0):=(by unfold baseE;rw[aD hd]);rw[dd];simp only[aA,length_nil,aC,au,fD];obtain⟨W,w1,w2⟩:=fin [] rfl (by rw[be]);exact .inr ⟨trivial,⟨⟨f0,f12⟩,trivial⟩,by rw[be],W,w1,by rw[hF];exact w2⟩
  ·refine .inl ⟨trivial,hok,?_⟩;have e:(bif decide (floors < 0)then true else bif decide (floors>12)then true else !rightL (areaE t lot))=true:=by
    by_cases h0:floors < 0
    ·have:decide (floors < 0)=true:=(by simpa using h0);rw[this];rfl
    ·by_cases h12:floors>12
     ·have a:decide (floors < 0)=false:=(by simpa using h0);have b:decide (floors>12)=true:=(by simpa using h12);rw[a,b];rfl
     ·have a:decide (floors < 0)=false:=(by simpa using h0);have b:decide (floors>12)=false:=(by simpa using h12);rw[a,b];cases hr:rightL (areaE t lot)with
      |false=>rfl
      |true=>exact absurd ⟨⟨by omega,by omega⟩,hr⟩ hok
   rw[e];rfl
abbrev U4 (t:dY):Prop:=∀ l∈t.land,l.from_.length*8<=140737488355328
theorem zh {α W O:Type} {l:List α} {step:Int->Option (Int ⊕ (W ⊕ O))} (p:α->Bool) (w:W) (o:O)
 (h:∀ i (hi:i < l.length),step (i:Int)=some (bif p l[i]then .inr (.inr o)else .inl ((i+1:Nat):Int)))
 (hend:step (l.length:Int)=some (.inr (.inl w))) (n:Nat) (hn:l.length < n):iter step n (0:Int)=some (bif l.any p then .inr o else .inl w):=by
 have:=jW (l:=l) (step:=step) (fun i=>((i:Nat):Int)) p w (fun _=>o) h hend n hn;rw[show ((0:Nat):Int)=0 from rfl]at this;rw[this,<- j5];cases nR p l<;>rfl
def ae3 (t:dY):Bool:=
 (decide (t.plan_rules.length<=10)&&(decide (t.plan_zones.length<=6)&&(decide (t.plan_defs.length<=20)&&(decide (t.plan_tables.length<=20)&&(decide (t.land.length<=5)&&(decide (t.easements.length<=5)&&decide (t.built.length<=6)))))))&&
 (!(t.plan_rules.any fun r=>decide (r.zones.length>5) || decide (r.except.length>5))&&(!(t.land.any fun l=>decide (l.area.length>10))&&!(t.easements.any fun e=>decide (e.area.length>10))))
theorem ala {a b:Nat}:decide ((a:Int)>(b:Int))=!decide (a<=b):=by
 by_cases h:a<=b
 ·have:¬ ((a:Int)>(b:Int)):=by omega
  simp[h,this]
 ·have:(a:Int)>(b:Int):=by omega
  simp only[this,h,decide_true,decide_false,Bool.not_false]
theorem ae4 {n:Nat} (t:dY) (hn:2000<=n):Sw n t=some (ae3 t):=by
 unfold Sw ae3;simp only[show (10:Int)=((10:Nat):Int)from rfl,show (6:Int)=((6:Nat):Int)from rfl,show (20:Int)=((20:Nat):Int)from rfl,show (5:Int)=((5:Nat):Int)from rfl,ala,lU,ah];cases hA:(decide (t.plan_rules.length<=10)&&(decide (t.plan_zones.length<=6)&&(decide (t.plan_defs.length<=20)&&(decide (t.plan_tables.length<=20)&&(decide (t.land.length<=5)&&(decide (t.easements.length<=5)&&decide (t.built.length<=6)))))))with
 |false=>
  have e:(bif !decide (t.plan_rules.length<=10)then true else bif !decide (t.plan_zones.length<=6)then true else bif !decide (t.plan_defs.length<=20)then true else bif !decide (t.plan_tables.length<=20)then true else bif !decide (t.land.length<=5)then true else bif !decide (t.easements.length<=5)then true else !decide (t.built.length<=6))=true:=by
   revert hA;cases decide (t.plan_rules.length<=10)<;>cases decide (t.plan_zones.length<=6)<;>cases decide (t.plan_defs.length<=20)<;>cases decide (t.plan_tables.length<=20)<;>cases decide (t.land.length<=5)<;>cases decide (t.easements.length<=5)<;>cases decide (t.built.length<=6)<;>simp
  rw[e];rfl
 |true=>
  have e:(bif !decide (t.plan_rules.length<=10)then true else bif !decide (t.plan_zones.length<=6)then true else bif !decide (t.plan_defs.length<=20)then true else bif !decide (t.plan_tables.length<=20)then true else bif !decide (t.land.length<=5)then true else bif !decide (t.easements.length<=5)then true else !decide (t.built.length<=6))=false:=by
   revert hA;cases decide (t.plan_rules.length<=10)<;>cases decide (t.plan_zones.length<=6)<;>cases decide (t.plan_defs.length<=20)<;>cases decide (t.plan_tables.length<=20)<;>cases decide (t.land.length<=5)<;>cases decide (t.easements.length<=5)<;>cases decide (t.built.length<=6)<;>simp
  simp only[aK,aM]at hA;rw[e];simp only[aA,Bool.true_and];rw[zh (l:=t.plan_rules) (fun r=>decide (r.zones.length>5) || decide (r.except.length>5)) () false (fun i hi=>?_) (by simp[KG]) n (by omega)]
  ·cases (t.plan_rules.any fun r=>decide (r.zones.length>5) || decide (r.except.length>5))with
   |true=>rfl
   |false=>
    simp only[aA,fD];rw[zh (l:=t.land) (fun l=>decide (l.area.length>10)) () false (fun i hi=>?_) (by simp[KH]) n (by omega)]
    ·cases (t.land.any fun l=>decide (l.area.length>10))with
     |true=>rfl
     |false=>
      simp only[aA,fD];rw[zh (l:=t.easements) (fun e=>decide (e.area.length>10)) () false (fun i hi=>?_) (by simp[KI]) n (by omega)]
      ·cases (t.easements.any fun e=>decide (e.area.length>10))<;>rfl
      ·have d:decide ((((t.easements[i]).area.length:Nat):Int)>10)=decide ((t.easements[i]).area.length>10):=(by rw[bJ,aM,aM];omega);simp only[KI,bG hi,au,aY hi,ah,d,Option.map_some,lU,bL i]
    ·have d:decide ((((t.land[i]).area.length:Nat):Int)>10)=decide ((t.land[i]).area.length>10):=(by rw[bJ,aM,aM];omega);simp only[KH,bG hi,au,aY hi,ah,d,Option.map_some,lU,bL i]
  ·have d1:decide ((((t.plan_rules[i]).zones.length:Nat):Int)>5)=decide ((t.plan_rules[i]).zones.length>5):=(by rw[bJ,aM,aM];omega);have d2:decide ((((t.plan_rules[i]).except.length:Nat):Int)>5)=decide ((t.plan_rules[i]).except.length>5):=(by rw[bJ,aM,aM];omega);simp only[KG,bG hi,au,aY hi,ah,d1,d2,Option.map_some,lU,bL i];cases decide ((t.plan_rules[i]).zones.length>5)<;>cases decide ((t.plan_rules[i]).except.length>5)<;>rfl
theorem ajO {t:dY} (h:ae3 t=true) (hf:U4 t):DU t:=by
 unfold ae3 at h;simp only[aK,aM,Bool.not_eq_true',any_eq_false,Bool.or_eq_true,not_or]at h;obtain⟨⟨h1,h2,h3,h4,h5,h6,h7⟩,g1,g2,g3⟩:=h;refine⟨by omega,fun r hr=>?_,by omega,by omega,fun l hl=>?_,by omega,fun e he=>?_⟩
 ·have:=g1 r hr;exact⟨by omega,by omega⟩
 ·have:=g2 l hl;exact⟨by omega,hf l hl⟩
 ·have:=g3 e he;omega
def exTown:dY:=(dY.mk [] [] [] [eD.mk ⟨#[97]⟩ [] [] 0 0 0 false 0 12 0 ⟨#[]⟩ ⟨#[]⟩ [qA.mk 0 2 ⟨#[]⟩ ⟨#[]⟩ [],qA.mk 1 0 zY ⟨#[]⟩ []] 0 0 0 0 0 0 0,eD.mk ⟨#[98]⟩ [] [] 0 0 0 false 1 0 0 ⟨#[]⟩ ⟨#[]⟩ [] 0 3 1 1 0 0 0] [] [] [] 0 [l5.mk 1 0 [aj.mk 0 0 10 8] []] [bV.mk 1 [aj.mk 4 2 6 3] 5] [] [] [])
theorem alb:G8=some exTown:=by kernel_rfl
theorem ex_ok:DU exTown:=by
 refine⟨by decide,fun r hr=>?_,by decide,by decide,fun l hl=>?_,by decide,fun e he=>?_⟩
 ·simp only[exTown,aI,aP,or_false]at hr;rcases hr with rfl |rfl<;>exact⟨by decide,by decide⟩
 ·simp only[exTown,aI,aP,or_false]at hl;subst hl;exact⟨by decide,by decide⟩
 ·simp only[exTown,aI,aP,or_false]at he;subst he;decide
theorem ajP:findLot exTown.land 1=(l5.mk 1 0 [aj.mk 0 0 10 8] [],true):=by kernel_rfl
theorem agy:distE exTown 1 0=2:=by kernel_rfl
theorem Yr:planesE exTown 1 0=[bR.mk 0 3 1 1]:=by kernel_rfl
def exR:List (List aj):=[[⟨2,2,8,6⟩],[⟨3,2,4,6⟩,⟨4,3,6,6⟩,⟨6,2,8,6⟩],[⟨6,2,8,6⟩]]
theorem acv:envelope_Rooms 1000000 exTown 1 0 3=some (exR,0):=by
 unfold envelope_Rooms;rw[Pp ex_ok.lots (by decide) (by decide),kI ex_ok 1 0 (by omega),mY ex_ok 1 0 (by omega),ajP,agy,Yr]
 kernel_rfl
theorem aiL:fO 1000000 exR=some ([⟨0,3,[⟨2,2,8,6⟩]⟩,⟨3,6,[⟨3,2,4,6⟩,⟨4,3,6,6⟩,⟨6,2,8,6⟩]⟩,⟨6,9,[⟨6,2,8,6⟩]⟩],0):=by kernel_rfl
theorem U5 {out:List Int} (h:out.Pairwise (· < ·)) {i j:Nat} (hij:i < j) (hj:j < out.length):out[i]'(by omega) < out[j]:=
 (List.pairwise_iff_getElem.1 h) i j _ hj hij
theorem KZ {out:List Int} (h:out.Pairwise (· < ·)) {k:Nat} (hk:k<=out.length) {x:Int} (h1:∀ j (hj:j < out.length),k<=j->x < out[j]) (h2:∀ h0:0 < k,out[k - 1]'(by omega) < x):
 (out.take k++x::out.drop k).Pairwise (· < ·):=by
 have low:∀ a∈out.take k,a < x:=by
  intro a ha;obtain⟨j,hj,rfl⟩:=List.getElem_of_mem ha;rw[length_take]at hj;rw[List.getElem_take];have h3:=h2 (by omega);by_cases e:j=k - 1
  ·subst e;exact h3
  ·have:=U5 h (show j < k - 1 by omega) (by omega);omega
 have high:∀ b∈out.drop k,x < b:=by
  intro b hb;obtain⟨j,hj,rfl⟩:=List.getElem_of_mem hb;rw[length_drop]at hj;rw[List.getElem_drop];exact h1 _ (by omega) (by omega)
 rw[List.pairwise_append,pairwise_cons];refine⟨h.sublist (List.take_sublist _ _),⟨high,h.sublist (List.drop_sublist _ _)⟩,fun a ha b hb=>?_⟩;rcases aI.1 hb with rfl |hb
 ·exact low a ha
 ·have:=low a ha;have:=high b hb;omega
theorem ZW {α:Type} {out:List α} {k:Nat} {x z:α}:z∈out.take k++x::out.drop k↔z∈out∨z=x:=by
 conv=>rhs;rw[<- List.take_append_drop k out]
 simp only[aX,aI];exact⟨fun h=>by rcases h with h |h |h<;>simp[h],fun h=>by rcases h with (h |h) |h<;>simp[h]⟩
theorem BK {l out:List Int} {i:Nat} (hi:i < l.length) (ho:out.length < 1099511627776):∀ (m:Nat),m<=out.length->(∀ j (h:j < out.length),m<=j->l[i] < out[j])->∀ n,m < n->
 ∃ k,k<=m∧iter (nI l (i:Int) out) n (m:Int)=some (k:Int)∧(∀ j (h:j < out.length),k<=j->l[i] < out[j])∧(∀ h:0 < k,∀ h':k - 1 < out.length,out[k - 1]<=l[i])
 | 0,_,h,n,hn=>by
  obtain⟨k,rfl⟩:∃ k,n=k+1:=⟨n - 1,by omega⟩;exact⟨0,aU _,bF (by simp[nI]),h,fun h=>by omega⟩
 |m+1,hm,h,n,hn=>by
  obtain⟨k,rfl⟩:∃ k,n=k+1:=⟨n - 1,by omega⟩;have d:decide (((m+1:Nat):Int)>0)=true:=by simp<;>omega
  have wp:i64.wrap (((m+1:Nat):Int) - 1)=((m:Nat):Int):=by rw[gB (by omega) (by omega)];rfl
  have ib:inb ((m:Nat):Int) out.length=true:=bC (by omega);have step:nI l (i:Int) out (((m+1:Nat)):Int)=some (bif decide (out[m]'(by omega)>l[i])then .inl ((m:Nat):Int)else .inr (((m+1:Nat)):Int)):=by
   simp only[nI,d,au,wp,ib,dh (show m < out.length by omega),aY hi,ah];cases decide (out[m]'(by omega)>l[i])<;>rfl
  by_cases hg:out[m]'(by omega)>l[i]
  ·have stp:nI l (i:Int) out (((m+1:Nat)):Int)=some (.inl ((m:Nat):Int)):=(by rw[step];simp only[hg,decide_true,au]);rw[dK stp];obtain⟨q,h1,h2,h3,h4⟩:=BK hi ho m (by omega) (fun j hj hmj=>by
    by_cases e:j=m
    ·subst e;exact hg
    ·exact h j hj (by omega)) k (by omega)
   exact⟨q,by omega,h2,h3,h4⟩
  ·exact⟨m+1,aU _,bF (by rw[step];simp only[hg,decide_false,aA]),h,fun _ _=>by simpa using hg⟩
theorem BL {out:List Int} {k:Nat} (hk:k<=out.length) (ho:out.length < 1099511627776) (r:List Int) (hr:r.length=out.length+1):∀ (m:Nat) (z:Int),k<=m->m<=out.length->∀ n,m - k < n->
 ∃ z',iter (nJ (k:Int) r) n ((m:Int),out.take m++z::out.drop m)=some (out.take k++z'::out.drop k)
 | 0,z,h1,_,n,hn=>by
  obtain⟨j,rfl⟩:∃ k,n=k+1:=⟨n - 1,by omega⟩;have:k=0:=by omega
  subst this;exact⟨z,bF (by simp[nJ])⟩
 |m+1,z,h1,h2,n,hn=>by
  obtain⟨j,rfl⟩:∃ k,n=k+1:=⟨n - 1,by omega⟩;by_cases e:k=m+1
  ·subst e;exact⟨z,bF (by simp[nJ])⟩
  ·have d:decide (((m+1:Nat):Int)>(k:Int))=true:=(by simp;omega);have wp:i64.wrap (((m+1:Nat):Int) - 1)=((m:Nat):Int):=(by rw[gB (by omega) (by omega)];rfl);have ib:inb ((m:Nat):Int) r.length=true:=bC (by omega);have ib2:inb ((m+1:Nat):Int) r.length=true:=bC (by omega);have lt:(out.take (m+1)).length=m+1:=(by rw[length_take];omega);have g1:at? (out.take (m+1)++z::out.drop (m+1)) (((0:Nat):Int)+((m:Nat):Int))=some (out[m]'(by omega)):=(by rw[gW,List.getElem?_append_left (by omega),List.getElem?_take,aJ (by omega),gG (by omega)]);have g2:at? (out.take (m+1)++z::out.drop (m+1)) (((0:Nat):Int)+((m+1:Nat):Int))=some z:=(by rw[gW,eZ (by omega),lt];simp);have e2:(((0:Nat):Int)+((m+1:Nat):Int)).toNat=m+1:=(by simp);have st:(out.take (m+1)++z::out.drop (m+1)).set (m+1) (out[m]'(by omega))=out.take m++(out[m]'(by omega))::out.drop m:=by
    rw[set_append_right _ _ (by omega),lt];simp only[Nat.sub_self,List.set_cons_zero];rw[dW (by omega),aQ,drop_eq_getElem_cons (show m < out.length by omega)];rfl
   have step:nJ (k:Int) r (((m+1:Nat):Int),out.take (m+1)++z::out.drop (m+1))=some (.inl (((m:Nat):Int),out.take m++(out[m]'(by omega))::out.drop m)):=(by simp only[nJ,d,au,wp,ib,ib2,g1,g2,ah,e2,st]);rw[dK step];exact BL hk ho r hr m _ (by omega) (by omega) j (by omega)
theorem Wv {n:Nat} {l:List Int} (hl:l.length < 10995116277) (hn:l.length+1 < n):ES n l=some (uH l):=by
 unfold ES;have lenS:∀ m:List Int,(uH m).length<=m.length:=fun m=>by
  have:=jk (gK (fun a b=>decide (a < b)) m);rw[dD]at this;exact this
 have key:iter (qH n l) n ((0:Int),([]:List Int))=some (uH l):=by
  have:=d9 (step:=qH n l) (fun i=>(((i:Nat):Int),uH (l.take i))) l.length (uH l) (fun i hi=>?_) ?_ n (by omega)
  ·simpa[uH,gK,fM]using this
  ·have hi':decide (((i:Nat):Int) < (l.length:Int))=true:=(by simpa using hi);have hs:=rR (l.take i);have hm:∀ z,z∈uH (l.take i)↔z∈l.take i:=Dg _;have ho:=lenS (l.take i);rw[length_take]at ho;generalize uH (l.take i)=out at hs hm ho;have uq:∀ m:List Int,m.Pairwise (· < ·)->(∀ z,z∈m↔z∈out∨z=l[i])->m=uH (l.take (i+1)):=by
    intro m h1 h2;refine GQ h1 fun z=>?_;rw[h2,hm,dW hi,aX,aO]
   obtain⟨k,k1,k2,k3,k4⟩:=BK hi (out:=out) (by omega) out.length (aU _) (fun j h1 h2=>by omega) n (by omega);simp only[qH,hi',au,k2,ah];have wk:∀ h0:0 < k,i64.wrap ((k:Int) - 1)=((k - 1:Nat):Int):=fun h0=>gB h0 (by omega);have test:((bif (decide ((k:Int)>(0:Int)))then bif inb (i64.wrap ((k:Int) - 1)) out.length then (at? out ((0:Nat)+(i64.wrap ((k:Int) - 1)):Int)).bind fun x3=>(some l[i]:Option Int).bind fun x4=>some (x3==(x4:Int))else none else some false):Option (Bool))=some (if h0:0 < k then decide (out[k - 1]'(by omega)=l[i])else false):=by
    by_cases h0:0 < k
    ·have d:decide ((k:Int)>0)=true:=(by simp;omega);rw[d,wk h0];simp only[au,bC (show k - 1 < out.length by omega),dh (show k - 1 < out.length by omega),ah,h0,dite_true];rfl
    ·have d:decide ((k:Int)>0)=false:=(by simp;omega);simp only[d,aA,h0,dite_false]
   simp only[aY hi];rw[test];simp only[ah];by_cases hx:∃ h0:0 < k,out[k - 1]'(by omega)=l[i]
   ·obtain⟨h0,hx⟩:=hx;simp only[h0,dite_true,hx,decide_true,au,aC,ah];rw[aN (by omega),<- uq out hs (fun z=>⟨fun h=> .inl h,fun h=>by
     rcases h with h |rfl
     ·exact h
     ·rw[<- hx];exact getElem_mem _⟩)]
   ·have f:(if h0:0 < k then decide (out[k - 1]'(by omega)=l[i])else false)=false:=by
     split
     ·rename_i h0;simp only[bU];exact fun e=>hx ⟨h0,e⟩
     ·rfl
    rw[f];have ap:bM out.length out.length (sub ([0]:List Int) 0 1).length 1 8=true:=bI (n:=1);have s1:out++(sub ([0]:List Int) 0 1)=out++[0]:=rfl;have lr:(out++([0]:List Int)).length=out.length+1:=(by simp);have wl:i64.wrap (((out.length+1:Nat):Int) - 1)=((out.length:Nat):Int):=(by rw[gB (by omega) (by omega)];rfl);obtain⟨z,hz⟩:=BL (k:=k) k1 (by omega) (out++[0]) lr out.length 0 k1 (aU _) n (by omega);rw[List.take_length,List.drop_length]at hz;have lt:(out.take k).length=k:=(by rw[length_take];omega);have g1:at? (out.take k++z::out.drop k) (((0:Nat):Int)+((k:Nat):Int))=some z:=(by rw[gW,eZ (by omega),lt];simp);have e2:(((0:Nat):Int)+((k:Nat):Int)).toNat=k:=(by simp);have st:(out.take k++z::out.drop k).set k l[i]=out.take k++l[i]::out.drop k:=(by rw[set_append_right _ _ (by omega),lt];simp);have le:(out.take k++l[i]::out.drop k).length=out.length+1:=(by rw[aZ,bH,length_take,length_drop];omega);simp only[aA,ap,au,dH,s1,lr,wl,hz,ah,bC (show k < out.length+1 by omega),g1,e2,st,le,aC];rw[aN (by omega),<- uq (out.take k++l[i]::out.drop k) (KZ hs k1 k3 (fun h0=>by
     have h5:=k4 h0 (by omega);by_cases e:out[k - 1]'(by omega)=l[i]
     ·exact absurd ⟨h0,e⟩ hx
     ·omega)) (fun z=>ZW)]
  ·have d:decide (((l.length:Nat):Int) < (l.length:Int))=false:=(by simp);simp only[qH,d,aA,List.take_length,aC,au]
 rw[key];simp only[length_nil,aC,au,ah,bE]
theorem Pv {n:Nat} {l:List aj} (hl:l.length < 10995116277) (hn:l.length < n):iter (tO l) n ((0:Int),([]:List Int))=some (l.flatMap fun r=>[r.x0,r.x1]):=by
 have:=cZ (l:=l) (step:=tO l) (fun i (s:List Int)=>((i:Int),s)) (fun r s=>s++[r.x0,r.x1]) (fun s=>s) (fun i s=>s.length<=2*i)
  (fun i hi s hs=>?_) (fun s hs=>by simp[tO]) n hn [] (aU _)
 ·rw[show ((0:Nat):Int)=0 from rfl]at this;rw[this];have gen:∀ (ys:List aj) (s:List Int),ys.foldl (fun s r=>s++[r.x0,r.x1]) s=s++ys.flatMap fun r=>[r.x0,r.x1]:=by
   intro ys
   induction ys with
   |nil=>intro s;simp
   |cons y ys ih=>intro s;simp[ih]
  congr 1;simpa using gen l []
 ·have hi':decide (((i:Nat):Int) < ((l.length:Nat):Int))=true:=by simpa using hi
  have ap:bM s.length s.length (sub ([l[i].x0,l[i].x1]:List Int) 0 2).length 2 8=true:=bI (n:=2);simp only[tO,hi',au,aY hi,ah,ap,dH,aC];refine⟨?_,by simp;omega⟩;rw[aN (by omega)];rfl
def dm (c:List aL):List Int:=c.flatMap fun q=>[q.from_,q.to]
theorem jF (l:List aL):(dm l).length=2*l.length:=by
 induction l with
 |nil=>rfl
 |cons x l ih=>simp only[dm,List.flatMap_cons,aZ,bH,length_nil]at *;omega
theorem Fq (a b:List aL):dm (a++b)=dm a++dm b:=by simp[dm]
theorem Yt:∀ {a b:List aL},dm a=dm b->a=b
 |[],[],_=>rfl
 |[],y::b,h=>by simp[dm]at h
 |x::a,[],h=>by simp[dm]at h
 |⟨x1,x2⟩::a,⟨y1,y2⟩::b,h=>by
  simp only[dm,List.flatMap_cons,cons_append,cu,List.cons.injEq]at h;obtain⟨rfl,rfl,h⟩:=h;rw[Yt (a:=a) (b:=b) h]
theorem Nh (x:aL):∀ ys:List aL,∃ k,k<=ys.length∧(iG ltS x ys).reverse=ys.reverse.take k++x::ys.reverse.drop k∧(∀ j (h:j < ys.reverse.length),k<=j->x.from_ < (ys.reverse[j]).from_)∧(∀ h:0 < k,∀ h':k - 1 < ys.reverse.length,¬ x.from_ < (ys.reverse[k - 1]).from_)
 |[]=>⟨0,aU _,by simp[iG],fun j h=>by simp at h,fun h=>by omega⟩
 |y::ys=>by
  by_cases hxy:x.from_ < y.from_
  ·have hb:ltS x y=true:=(by simp[ltS,hxy]);obtain⟨k,h1,h2,h3,h4⟩:=Nh x ys;have hlr:ys.reverse.length=ys.length:=(by simp);refine⟨k,by simp;omega,?_,fun j hj hkj=>?_,fun h0 hk=>?_⟩
   ·simp only[iG,hb,au,List.reverse_cons,h2];rw[List.take_append_of_le_length (by omega),List.drop_append_of_le_length (by omega),aQ];rfl
   ·simp only[List.reverse_cons]at hj ⊢;by_cases e:j < ys.reverse.length
    ·rw[List.getElem_append_left e];exact h3 j e hkj
    ·have:j=ys.reverse.length:=(by rw[aZ]at hj;simp only[length_singleton]at hj;omega);subst this;simp[hxy]
   ·simp only[List.reverse_cons];rw[List.getElem_append_left (by omega)];exact h4 h0 (by omega)
  ·have hb:ltS x y=false:=(by simp[ltS,hxy]);refine⟨ys.length+1,by simp,?_,fun j hj hkj=>?_,fun h0 hk=>?_⟩
   ·simp only[iG,hb,aA];rw[take_of_length_le (by simp),drop_of_length_le (by simp)];simp
   ·simp at hj;omega
   ·simp[hxy]
theorem BM {l:List aj} {i:Nat} (hi:i < l.length) {F T:List Int} (hT:T.length=F.length) (ho:F.length < 1099511627776) {k:Nat} (hk:k<=F.length)
 (h1:∀ j (h:j < F.length),k<=j->l[i].y0 < F[j]) (h2:∀ h:0 < k,¬ l[i].y0 < F[k - 1]'(by omega)) (r1 r2:List Int) (hr1:r1.length=F.length+1) (hr2:r2.length=F.length+1):
 ∀ (m:Nat) (z z':Int),k<=m->m<=F.length->∀ n,m - k < n->
 ∃ y y',iter (kR l (i:Int) r1 r2) n ((m:Int),F.take m++z::F.drop m,T.take m++z'::T.drop m)=some ((k:Int),F.take k++y::F.drop k,T.take k++y'::T.drop k)
 | 0,z,z',g1,_,n,hn=>by
  obtain⟨j,rfl⟩:∃ k,n=k+1:=⟨n - 1,by omega⟩;have:k=0:=by omega
  subst this;exact⟨z,z',bF (by simp[kR])⟩
 |m+1,z,z',g1,g2,n,hn=>by
  obtain⟨j,rfl⟩:∃ k,n=k+1:=⟨n - 1,by omega⟩;have d:decide (((m+1:Nat):Int)>0)=true:=by simp<;>omega
  have wp:i64.wrap (((m+1:Nat):Int) - 1)=((m:Nat):Int):=by rw[gB (by omega) (by omega)];rfl
  have ib1:inb ((m:Nat):Int) r1.length=true:=bC (by omega);have ib1':inb ((m+1:Nat):Int) r1.length=true:=bC (by omega);have ib2:inb ((m:Nat):Int) r2.length=true:=bC (by omega);have ib2':inb ((m+1:Nat):Int) r2.length=true:=bC (by omega)
  have gen:∀ (A:List Int) (hA:A.length=F.length) (z:Int),at? (A.take (m+1)++z::A.drop (m+1)) (((0:Nat):Int)+((m:Nat):Int))=some (A[m]'(by omega))∧at? (A.take (m+1)++z::A.drop (m+1)) (((0:Nat):Int)+((m+1:Nat):Int))=some z∧
   (A.take (m+1)++z::A.drop (m+1)).set (m+1) (A[m]'(by omega))=A.take m++(A[m]'(by omega))::A.drop m:=by
   intro A hA z;have lt:(A.take (m+1)).length=m+1:=(by rw[length_take];omega);refine⟨?_,?_,?_⟩
   ·rw[gW,List.getElem?_append_left (by omega),List.getElem?_take,aJ (by omega),gG (by omega)]
   ·rw[gW,eZ (by omega),lt];simp
   ·rw[set_append_right _ _ (by omega),lt];simp only[Nat.sub_self,List.set_cons_zero];rw[dW (by omega),aQ,drop_eq_getElem_cons (show m < A.length by omega)];rfl
  obtain⟨a1,a2,a3⟩:=gen F rfl z;obtain⟨b1,b2,b3⟩:=gen T hT z';have e2:(((0:Nat):Int)+((m+1:Nat):Int)).toNat=m+1:=by simp
  by_cases e:k=m+1
  ·subst e;have hno:decide (F[m]'(by omega)>l[i].y0)=false:=(by simpa using h2 (by omega));refine⟨z,z',bF ?_⟩;simp only[kR,d,au,wp,ib1,a1,aY hi,ah,hno,aA]
  ·have hyes:decide (F[m]'(by omega)>l[i].y0)=true:=(by simpa using h1 m (by omega) (by omega));have step:kR l (i:Int) r1 r2 (((m+1:Nat):Int),F.take (m+1)++z::F.drop (m+1),T.take (m+1)++z'::T.drop (m+1))=some (.inl (((m:Nat):Int),F.take m++(F[m]'(by omega))::F.drop m,T.take m++(T[m]'(by omega))::T.drop m)):=(by simp only[kR,d,au,wp,ib1,a1,aY hi,ah,hyes,ib1',a2,ib2,b1,ib2',b2,e2,a3,b3]);rw[dK step];exact BM hi hT ho hk h1 h2 r1 r2 hr1 hr2 m _ _ (by omega) (by omega) j (by omega)
def mZ (l:List aj) (x:Int):List aL:=(dN l x).foldl (fun rs s=>iG ltS s rs) []
theorem U6 (l:List aj) (x:Int):(mZ l x).length<=l.length:=by
 have h:=dD (lt:=ltS) (dN l x);have h2:=tY l x;have:(gK ltS (dN l x)).length=(mZ l x).length:=by unfold gK mZ;rw[List.length_reverse]
 omega
theorem acw (l:List aj) (r:aj) (x:Int):mZ (l++[r]) x=if r.x0<=x∧x < r.x1 then iG ltS ⟨r.y0,r.y1⟩ (mZ l x)else mZ l x:=by
 unfold mZ dN;rw[List.filter_append,map_append,List.foldl_append];by_cases h:r.x0<=x∧x < r.x1
 ·simp[h]
 ·have hf:(decide (r.x0<=x)&&decide (x < r.x1))=false:=by simpa using h
  simp[List.filter_cons,hf,h]
theorem Ni {n:Nat} {l:List aj} {x:Int} (hl:l.length < 1099511627) (hn:l.length < n):
 iter (qI n l x) n ((0:Int),([]:List Int),([]:List Int))=some ((mZ l x).reverse.map (·.from_),(mZ l x).reverse.map (·.to)):=by
 have:=d9 (step:=qI n l x) (fun i=>(((i:Nat):Int),(mZ (l.take i) x).reverse.map (·.from_),(mZ (l.take i) x).reverse.map (·.to))) l.length ((mZ l x).reverse.map (·.from_),(mZ l x).reverse.map (·.to)) (fun i hi=>?_) ?_ n (by omega)
 ·simpa[mZ,dN]using this
 ·have hi':decide (((i:Nat):Int) < (l.length:Int))=true:=by simpa using hi
  have ht:l.take (i+1)=l.take i++[l[i]]:=dW hi;have sn:=acw (l.take i) l[i] x;rw[ht,sn];have hlen:=U6 (l.take i) x;rw[length_take]at hlen;obtain⟨k,p1,p2,p3,p4⟩:=Nh ⟨l[i].y0,l[i].y1⟩ (mZ (l.take i) x);generalize mZ (l.take i) x=rs at*;have e:((bif (decide (l[i].x0>(x:Int)))then some true else some (decide (l[i].x1<=(x:Int)))):Option Bool)=some (!decide (l[i].x0<=x∧x < l[i].x1)):=by
   rw[akA];congr 1;by_cases h1:l[i].x0<=x<;>by_cases h2:x < l[i].x1<;>simp[h1,h2]<;>omega
  simp only[qI,hi',au,aY hi,ah,e];by_cases hc:l[i].x0<=x∧x < l[i].x1
  ·simp only[hc,and_self,decide_true,Bool.not_true,aA,if_true];have lF:(rs.reverse.map (·.from_)).length=rs.length:=(by simp);have lT:(rs.reverse.map (·.to)).length=rs.length:=(by simp);have lR:rs.reverse.length=rs.length:=(by simp)
   have q:=BM (l:=l) hi (F:=rs.reverse.map (·.from_)) (T:=rs.reverse.map (·.to)) (by simp) (by omega) (k:=k) (by omega)
    (fun j hj hkj=>by rw[List.getElem_map];exact p3 j (by omega) hkj) (fun h0=>by rw[List.getElem_map];exact p4 h0 (by omega)) (rs.reverse.map (·.from_)++[0]) (rs.reverse.map (·.to)++[0]) (by simp) (by simp) rs.length 0 0 p1 (by omega) n (by omega)
   have tF:(rs.reverse.map (·.from_)).take rs.length=rs.reverse.map (·.from_):=take_of_length_le (by simp);have dF:(rs.reverse.map (·.from_)).drop rs.length=[]:=drop_of_length_le (by simp);have tT:(rs.reverse.map (·.to)).take rs.length=rs.reverse.map (·.to):=take_of_length_le (by simp);have dT:(rs.reverse.map (·.to)).drop rs.length=[]:=drop_of_length_le (by simp);rw[tF,dF,tT,dT]at q;obtain⟨y,y',q⟩:=q;have hF:((iG ltS ⟨l[i].y0,l[i].y1⟩ rs).reverse).map (·.from_)=(rs.reverse.map (·.from_)).take k++l[i].y0::(rs.reverse.map (·.from_)).drop k:=(by rw[p2];simp[map_take,map_drop]);have hT':((iG ltS ⟨l[i].y0,l[i].y1⟩ rs).reverse).map (·.to)=(rs.reverse.map (·.to)).take k++l[i].y1::(rs.reverse.map (·.to)).drop k:=(by rw[p2];simp[map_take,map_drop]);rw[hF,hT'];generalize hFd:rs.reverse.map (·.from_)=F at*;generalize hTd:rs.reverse.map (·.to)=T at*;have ap1:bM F.length F.length (sub ([0]:List Int) 0 1).length 1 8=true:=bI (n:=1);have ap2:bM T.length T.length (sub ([0]:List Int) 0 1).length 1 8=true:=bI (n:=1);have s1:∀ A:List Int,A++(sub ([0]:List Int) 0 1)=A++[0]:=fun _=>rfl;have gen:∀ (A:List Int) (hA:A.length=rs.length) (z v:Int),at? (A.take k++z::A.drop k) (((0:Nat):Int)+((k:Nat):Int))=some z∧(A.take k++z::A.drop k).set k v=A.take k++v::A.drop k∧(A.take k++v::A.drop k).length=rs.length+1:=by
    intro A hA z v;have lt:(A.take k).length=k:=(by rw[length_take];omega);refine⟨?_,?_,?_⟩
    ·rw[gW,eZ (by omega),lt];simp
    ·rw[set_append_right _ _ (by omega),lt];simp
    ·rw[aZ,bH,length_drop];omega
   obtain⟨a1,a2,a3⟩:=gen F (by omega) y l[i].y0;obtain⟨b1,b2,b3⟩:=gen T (by omega) y' l[i].y1;have e2:(((0:Nat):Int)+((k:Nat):Int)).toNat=k:=(by simp);have lr1:(F++([0]:List Int)).length=rs.length+1:=(by simp;omega);have lr2:(T++([0]:List Int)).length=rs.length+1:=(by simp;omega);have q':iter (kR l (i:Int) (F++[0]) (T++[0])) n ((F.length:Int),F++[0],T++[0])=some ((k:Int),F.take k++y::F.drop k,T.take k++y'::T.drop k):=(by rw[lF];exact q);simp only[ap1,au,dH,s1,ap2,q',ah,lr1,lr2,bC (show k < rs.length+1 by omega),a1,b1,e2,a2,b2,a3,b3,aC];rw[aN (by omega)]
  ·have hcf:decide (l[i].x0<=x∧x < l[i].x1)=false:=(by simpa using hc);rw[aD hc];simp only[hcf,Bool.not_false,au,aC,ah];rw[aN (by omega)]
 ·have d:decide (((l.length:Nat):Int) < (l.length:Int))=false:=by simp
  simp only[qI,d,aA,List.take_length,aC,au]
theorem Nj {n:Nat} {c:List aL} (hc:c.length < 1099511627) (hn:c.length < n):
 iter (qJ (c.map (·.from_)) (c.map (·.to))) n ((0:Int),([]:List Int))=some (dm (c.foldl mrg [])):=by
 have:=cZ (l:=c) (step:=qJ (c.map (·.from_)) (c.map (·.to))) (fun i (s:List aL)=>(((i:Nat):Int),dm s)) (fun q s=>mrg s q) (fun s=>dm s) (fun i s=>s.length<=i)
  (fun i hi s hs=>?_) (fun s hs=>by simp[qJ]) n hn [] (aU _)
 ·rw[show ((0:Nat):Int)=0 from rfl]at this;exact this
 ·refine⟨?_,by have:=KJ s c[i];omega⟩;have lF:(c.map (·.from_)).length=c.length:=by simp
  have lT:(c.map (·.to)).length=c.length:=by simp
  have hi':decide (((i:Nat):Int) < (((c.map (·.from_)).length:Nat):Int))=true:=by rw[lF];simpa using hi
  have ibF:inb ((i:Nat):Int) (c.map (·.from_)).length=true:=bC (by omega);have ibT:inb ((i:Nat):Int) (c.map (·.to)).length=true:=bC (by omega);have gF:at? (c.map (·.from_)) (((0:Nat):Int)+((i:Nat):Int))=some c[i].from_:=by rw[gW];simp[hi]
  have gT:at? (c.map (·.to)) (((0:Nat):Int)+((i:Nat):Int))=some c[i].to:=by rw[gW];simp[hi]
  have sl:=jF s;have ap:bM (dm s).length (dm s).length (sub ([c[i].from_,c[i].to]:List Int) 0 2).length 2 8=true:=bI (n:=2);have sb:(sub ([c[i].from_,c[i].to]:List Int) 0 2)=[c[i].from_,c[i].to]:=rfl;rw[sb]at ap;have fl:dm s++[c[i].from_,c[i].to]=dm (s++[c[i]]):=by rw[Fq];rfl
  simp only[qJ,hi',au,ibF,gF,ah];rcases List.eq_nil_or_concat s with rfl |⟨s0,q,hsq⟩
  ·have d0:decide ((((dm []).length:Nat):Int)>0)=false:=(by simp[dm]);simp only[d0,aA,ah,ibT,gT,au,ap,dH,sb,fl,aC];rw[aN (by omega)];rfl
  ·rw[List.concat_eq_append]at hsq;subst hsq;have f1:dm (s0++[q])=dm s0++[q.from_,q.to]:=(by rw[Fq];rfl);have lenq:(dm (s0++[q])).length=(dm s0).length+2:=(by rw[f1];simp);have d0:decide ((((dm (s0++[q])).length:Nat):Int)>0)=true:=(by rw[lenq];simp<;>omega);have wp:i64.wrap ((((dm (s0++[q])).length:Nat):Int) - 1)=(((dm s0).length+1:Nat):Int):=(by rw[gB (by omega) (by omega),lenq];rfl);have ib2:inb (((dm s0).length+1:Nat):Int) (dm (s0++[q])).length=true:=bC (by omega);have g:at? (dm (s0++[q])) (((0:Nat):Int)+(((dm s0).length+1:Nat):Int))=some q.to:=(by rw[gW,f1,eZ (by omega)];simp);have z:(((0:Nat):Int)+(((dm s0).length+1:Nat):Int)).toNat=(dm s0).length+1:=(by simp);have st:(dm (s0++[q])).set ((dm s0).length+1) (max q.to c[i].to)=dm (s0++[⟨q.from_,max q.to c[i].to⟩]):=by
    rw[f1,Fq,set_append_right _ _ (by omega)];simp[dm]
   have m:mrg (s0++[q]) c[i]=bif decide (c[i].from_<=q.to)then s0++[⟨q.from_,max q.to c[i].to⟩]else s0++[q]++[c[i]]:=(by simp[mrg]);have le:(dm (s0++[(⟨q.from_,max q.to c[i].to⟩:aL)])).length=(dm (s0++[q])).length:=(by rw[jF,jF];simp);simp only[d0,au,wp,ib2,g,ah,m];cases decide (c[i].from_<=q.to)with
   |true=>
    simp only[au,ibT,gT,z,st,ah,le,aC];rw[aN (by omega)]
   |false=>
    simp only[aA,ibT,gT,au,ap,dH,sb,fl,aC,ah];rw[aN (by omega)]
theorem Kb {n:Nat} {l:List aj} {x:Int} (hl:l.length < 1099511627) (hn:l.length < n):rH n l x=some (dm (bQ l x)):=by
 have h:=U6 l x;have hr:(mZ l x).reverse.length=(mZ l x).length:=by simp
 unfold rH;simp only[length_nil,aC,au,Ni hl hn,ah];rw[Nj (n:=n) (c:=(mZ l x).reverse) (by omega) (by omega)];simp only[ah,bE,aC,au];rfl
theorem acy {n:Nat} {a b:List Int} (ha:a.length < 1099511627) (hn:a.length < n):Hg n a b=some (decide (a=b)):=by
 unfold Hg;by_cases hl:a.length=b.length
 ·have e:((a.length:Int) != (b.length:Int))=false:=by simp[hl]
  rw[e];simp only[aA];have eq:∀ m:Nat,m<=a.length->(∀ j (h:j < m) (h1:j < a.length) (h2:j < b.length),a[j]=b[j])->∀ k,a.length - m < k->iter (rW a b) k (m:Int)=some (if a=b then .inl ()else .inr false):=by
   intro m
   induction hm:a.length - m generalizing m with
   |zero=>
    intro h1 h2 k hk;obtain⟨k,rfl⟩:∃ j,k=j+1:=⟨k - 1,by omega⟩;have:m=a.length:=(by omega);subst this;have:a=b:=List.ext_getElem hl fun i h1 h2'=>h2 i h1 h1 h2';refine bF ?_;simp[rW,this]
   |succ d ih=>
    intro h1 h2 k hk;obtain⟨k,rfl⟩:∃ j,k=j+1:=⟨k - 1,by omega⟩;have hma:m < a.length:=(by omega);have hmb:m < b.length:=(by omega);have d':decide (((m:Nat):Int) < (a.length:Int))=true:=(by simpa using hma);by_cases hab:a[m]=b[m]
    ·have stp:rW a b (m:Int)=some (.inl (((m+1:Nat)):Int)):=by
      simp only[rW,d',au,aY hma,aY hmb,ah,hab,bne_self_eq_false,aA];rw[aN (by omega)]
     rw[dK stp];refine ih (m+1) (by omega) (by omega) (fun j hj h3 h4=>?_) k (by omega);by_cases e:j=m
     ·subst e;exact hab
     ·exact h2 j (by omega) h3 h4
    ·have:¬ a=b:=fun e=>hab (by simp only[e]);refine bF ?_;have ne:(a[m] != b[m])=true:=(by simp[hab]);simp only[rW,d',au,aY hma,aY hmb,ah,ne,this,if_false];rfl
  have:=eq 0 (by omega) (fun j h=>by omega) n (by omega);rw[show ((0:Nat):Int)=0 from rfl]at this;rw[this];by_cases hab:a=b<;>simp[hab,dX]
 ·have e:((a.length:Int) != (b.length:Int))=true:=by simp;omega
  have:¬ a=b:=fun e=>hl (by rw[e]);simp[e,this]
theorem Rt {n:Nat} {E:List Int} {i:Nat} (hi:i+1 < E.length) (hE:E.length < 1099511627) (done:List aj) (w:List aL) (x0 x1:Int) (hd:done.length+w.length < 1099511627776) (hn:w.length < n):
 iter (wT E (i:Int) (done++aF x0 x1 w)) n ((done.length:Int),done++aF x0 x1 w)=some (done++aF x0 E[i+1] w):=by
 have lr:∀ y,(aF x0 y w).length=w.length:=fun y=>by simp[aF]
 have:=d9 (step:=wT E (i:Int) (done++aF x0 x1 w)) (fun j=>(((done.length+j:Nat):Int),done++((aF x0 E[i+1] w).take j++(aF x0 x1 w).drop j))) w.length (done++aF x0 E[i+1] w) (fun j hj=>?_) ?_ n hn
 ·simpa using this
 ·have hlen:(done++aF x0 x1 w).length=done.length+w.length:=by rw[aZ,lr]
  have d:decide (((done.length+j:Nat):Int) < (((done++aF x0 x1 w).length:Nat):Int))=true:=by rw[hlen];simp;omega
  have w1:i64.wrap ((i:Int)+1)=(((i+1:Nat)):Int):=aN (by omega);have w2:i64.wrap (((done.length+j:Nat):Int)+1)=(((done.length+j+1:Nat)):Int):=aN (by omega);have ib:inb ((done.length+j:Nat):Int) (done++aF x0 x1 w).length=true:=bC (by omega);have lt:((aF x0 E[i+1] w).take j).length=j:=by rw[length_take,lr];omega
  have hjr:j < (aF x0 x1 w).length:=by rw[lr];exact hj
  have dr:(aF x0 x1 w).drop j=(⟨x0,w[j].from_,x1,w[j].to⟩:aj)::(aF x0 x1 w).drop (j+1):=by
   rw[drop_eq_getElem_cons hjr];congr 1;simp[aF]
  have g:at? (done++((aF x0 E[i+1] w).take j++(aF x0 x1 w).drop j)) (((0:Nat):Int)+((done.length+j:Nat):Int))=some ⟨x0,w[j].from_,x1,w[j].to⟩:=by
   rw[gW,eZ (by omega),eZ (by omega),lt,dr];simp
  have e2:(((0:Nat):Int)+((done.length+j:Nat):Int)).toNat=done.length+j:=by simp;omega
  have st:(done++((aF x0 E[i+1] w).take j++(aF x0 x1 w).drop j)).set (done.length+j) (aj.mk x0 w[j].from_ E[i+1] w[j].to)=done++((aF x0 E[i+1] w).take (j+1)++(aF x0 x1 w).drop (j+1)):=by
   rw[set_append_right _ _ (by omega),set_append_right _ _ (by omega),lt,dr];rw[dW (by rw[lr];exact hj)];have:done.length+j - done.length - j=0:=(by omega);rw[this];simp[aF]
  simp only[wT,d,au,w1,bC hi,dh hi,ah,ib,g,e2,st,w2];rfl
 ·have hlen:(done++aF x0 x1 w).length=done.length+w.length:=by rw[aZ,lr]
  have d:decide (((done.length+w.length:Nat):Int) < (((done++aF x0 x1 w).length:Nat):Int))=false:=by rw[hlen];simp
  simp only[wT,d,aA];rw[take_of_length_le (by rw[lr];exact aU _),drop_of_length_le (by rw[lr];exact aU _),append_nil]
theorem Ru {n:Nat} {E:List Int} {i:Nat} (hi:i+1 < E.length) (hE:E.length < 1099511627) (out:List aj) (w:List aL) (hd:out.length+w.length < 1099511627776) (hn:w.length < n):
 iter (wU E (i:Int) (dm w)) n ((0:Int),out)=some (out++aF (E[i]'(by omega)) E[i+1] w):=by
 have lr:(aF (E[i]'(by omega)) E[i+1] w).length=w.length:=by simp[aF]
 have fl:=jF w;have getf:∀ j (hj:j < w.length),(dm w)[2*j]? =some w[j].from_∧(dm w)[2*j+1]? =some w[j].to:=by
  intro j;clear hd hn lr fl
  induction w generalizing j with
  |nil=>intro hj;simp at hj
  |cons q w ih=>
   intro hj;have fc:dm (q::w)=q.from_::q.to::dm w:=(by simp[dm]);rw[fc];cases j with
   |zero=>simp
   |succ j=>
    have:=ih j (by simpa using hj);rw[show 2*(j+1)=2*j+1+1 by omega];simpa using this
 have:=d9 (step:=wU E (i:Int) (dm w)) (fun j=>(((2*j:Nat):Int),out++(aF (E[i]'(by omega)) E[i+1] w).take j)) w.length (out++aF (E[i]'(by omega)) E[i+1] w) (fun j hj=>?_) ?_ n hn
 ·simpa using this
 ·have w1:i64.wrap ((i:Int)+1)=(((i+1:Nat)):Int):=aN (by omega);have w2:i64.wrap (((2*j:Nat):Int)+1)=(((2*j+1:Nat)):Int):=aN (by omega);have w3:i64.wrap (((2*j:Nat):Int)+2)=(((2*(j+1):Nat)):Int):=by rw[bB (by omega) (by omega)];omega
  have d:decide (((2*j+1:Nat):Int) < (((dm w).length:Nat):Int))=true:=by rw[fl];simp;omega
  have ib0:inb ((2*j:Nat):Int) (dm w).length=true:=bC (by omega);have ib1:inb ((2*j+1:Nat):Int) (dm w).length=true:=bC (by omega);have g0:at? (dm w) (((0:Nat):Int)+((2*j:Nat):Int))=some w[j].from_:=by rw[gW];exact (getf j hj).1
  have g1:at? (dm w) (((0:Nat):Int)+((2*j+1:Nat):Int))=some w[j].to:=by rw[gW];exact (getf j hj).2
  have lt:((aF (E[i]'(by omega)) E[i+1] w).take j).length=j:=by rw[length_take,lr];omega
  have lo:(out++(aF (E[i]'(by omega)) E[i+1] w).take j).length=out.length+j:=by rw[aZ,lt]
  have ap:bM (out++(aF (E[i]'(by omega)) E[i+1] w).take j).length (out++(aF (E[i]'(by omega)) E[i+1] w).take j).length (sub ([(aj.mk (E[i]'(by omega)) w[j].from_ E[i+1] w[j].to)]:List aj) 0 1).length 1 32=true:=bI (n:=1);have sb:(sub ([(aj.mk (E[i]'(by omega)) w[j].from_ E[i+1] w[j].to)]:List aj) 0 1)=[⟨E[i]'(by omega),w[j].from_,E[i+1],w[j].to⟩]:=rfl;rw[sb]at ap;simp only[wU,w2,d,au,bC (show i < E.length by omega),dh (show i < E.length by omega),ah,ib0,g0,w1,bC hi,dh hi,ib1,g1,sb,ap,dH,aC,w3];rw[dW (by rw[lr];exact hj),aQ];simp[aF]
 ·have w2:i64.wrap (((2*w.length:Nat):Int)+1)=(((2*w.length+1:Nat)):Int):=aN (by omega);have d:decide (((2*w.length+1:Nat):Int) < (((dm w).length:Nat):Int))=false:=by rw[fl];simp;omega
  simp only[wU,w2,d,aA,aC,au];rw[take_of_length_le (by rw[lr];exact aU _)]
def fA (op:Int) (p q:Bool):Bool:=bif op==2 then (p&&!q)else bif op==1 then (p&&q)else (p || q)
theorem JB (op:Int):fA op false false=false:=by
 unfold fA;cases op==2<;>cases op==1<;>rfl
def cntT (F:List Int) (y:Int):Nat:=(F.filter fun z=>decide (z<=y)).length
theorem acz {F:List Int} {y:Int} (h:∀ z∈F,z<=y):cntT F y=F.length:=by
 unfold cntT;rw[List.filter_eq_self.2 fun z hz=>by simpa using h z hz]
theorem zi {F:List Int} {y:Int} (h:∀ z∈F,y < z):cntT F y=0:=by
 unfold cntT;rw[List.filter_eq_nil_iff.2 fun z hz=>by have:=h z hz;simp;omega];rfl
theorem U7 (F G:List Int) (y:Int):cntT (F++G) y=cntT F y+cntT G y:=by simp[cntT]
theorem agz {F:List Int} {y:Int} {i:Nat} (hi:i<=F.length) (h1:∀ j (h:j < F.length),j < i->F[j]<=y) (h2:∀ j (h:j < F.length),i<=j->y < F[j]):cntT F y=i:=by
 have e:=List.take_append_drop i F;rw[<- e,U7,acz,zi,length_take]
 ·omega
 ·intro z hz;obtain⟨j,hj,rfl⟩:=mem_iff_getElem.1 hz;rw[length_drop]at hj;rw[List.getElem_drop];exact h2 (i+j) (by omega) (by omega)
 ·intro z hz;obtain⟨j,hj,rfl⟩:=mem_iff_getElem.1 hz;rw[length_take]at hj;rw[List.getElem_take];exact h1 j (by omega) (by omega)
theorem Fs (s:aL) (c:List aL):dm (s::c)=s.from_::s.to::dm c:=rfl
theorem JC:∀ {c:List aL},Can c->(dm c).Pairwise (· < ·)∧∀ s∈c.head?,∀ z∈dm c,s.from_<=z
 |[],_=>⟨.nil,by simp⟩
 |s::c,h=>by
  obtain⟨i1,i2⟩:=JC (MU h);have hs:=h.2 s mem_cons_self;have ht:∀ z∈dm c,s.to < z:=by
   intro z hz;cases c with
   |nil=>simp[dm]at hz
   |cons t c=>
    have h1:=(pairwise_cons.1 h.1).1 t mem_cons_self;have h2:=i2 t rfl z hz;omega
  refine⟨?_,fun q hq z hz=>?_⟩
  ·rw[Fs];refine .cons (fun z hz=>?_) (.cons ht i1);rcases aI.1 hz with rfl |hz
   ·exact hs
   ·have:=ht z hz;have:s.from_ < s.to:=hs;omega
  ·have:q=s:=(by simpa using hq.symm);subst this;rw[Fs]at hz;have hs':q.from_ < q.to:=hs;rcases aI.1 hz with rfl |hz
   ·exact Int.le_refl _
   ·rcases aI.1 hz with rfl |hz
    ·omega
    ·have:=ht z hz;omega
theorem JD:∀ {c:List aL},Can c->∀ y,inS c y=decide (cntT (dm c) y%2=1)
 |[],_,y=>rfl
 |s::c,h,y=>by
  have ih:=JD (MU h) y;have hs:s.from_ < s.to:=h.2 s mem_cons_self;have asc0:=(JC h).1;rw[Fs,pairwise_cons,pairwise_cons]at asc0;rw[kE,Fs,show s.from_::s.to::dm c=[s.from_,s.to]++dm c from rfl,U7,ih];have ct:cntT [s.from_,s.to] y=(if s.from_<=y then 1 else 0)+(if s.to<=y then 1 else 0):=by
   unfold cntT;by_cases a:s.from_<=y<;>by_cases b:s.to<=y<;>simp[a,b]
  by_cases a:s.from_<=y
  ·by_cases b:s.to<=y
   ·have d:decide (y < s.to)=false:=(by simp;omega);rw[ct,aJ a,aJ b,d];simp only[Bool.and_false,Bool.false_or];exact decide_eq_decide.2 (by omega)
   ·have d:decide (y < s.to)=true:=(by simp;omega);have z:cntT (dm c) y=0:=zi fun z hz=>(by have:=asc0.2.1 z hz;omega);rw[ct,aJ a,aD b,d,z];simp[a]
  ·have z:cntT (dm c) y=0:=zi fun z hz=>(by have:=asc0.2.1 z hz;omega);rw[ct,aD a,aD (by omega),z];simp[a]
theorem acA:∀ (n:Nat) {F:List Int},F.length=2*n->F.Pairwise (· < ·)->∃ c,F=dm c∧Can c
 | 0,F,hl,_=>⟨[],List.eq_nil_of_length_eq_zero (by omega),tX⟩
 |n+1,F,hl,hp=>by
  match F,hl,hp with
  |[],hl,_=>simp at hl
  |[_],hl,_=>simp at hl;omega
  |a::b::F,hl,hp=>
   rw[pairwise_cons,pairwise_cons]at hp;obtain⟨c,rfl,hc⟩:=acA n (F:=F) (by simp at hl;omega) hp.2.2;refine⟨⟨a,b⟩::c,rfl,?_,?_⟩
   ·refine pairwise_cons.2 ⟨fun s hs=>?_,hc.1⟩;refine hp.2.1 s.from_ ?_;unfold dm;rw[mem_flatMap];exact⟨s,hs,by simp⟩
   ·intro s hs;rcases aI.1 hs with rfl |hs
    ·exact hp.1 b mem_cons_self
    ·exact hc.2 s hs
structure Yu (a b:List Int) (keep:Bool->Bool->Bool) (i k:Nat) (was:Bool) (out:List Int):Prop where
 hi:i<=a.length
 hk:k<=b.length
 ab:∀ j (hj:j < a.length),j < i->∀ m (hm:m < b.length),k<=m->a[j] < b[m]
 ba:∀ j (hj:j < b.length),j < k->∀ m (hm:m < a.length),i<=m->b[j] < a[m]
 asc:out.Pairwise (· < ·)
 oa:∀ z∈out,∀ m (hm:m < a.length),i<=m->z < a[m]
 ob:∀ z∈out,∀ m (hm:m < b.length),k<=m->z < b[m]
 len:out.length<=i+k
 hw:was=keep (decide (i%2=1)) (decide (k%2=1))
 par:was=decide (out.length%2=1)
 val:∀ y,(∀ m (hm:m < a.length),i<=m->y < a[m])->(∀ m (hm:m < b.length),k<=m->y < b[m])->decide (cntT out y%2=1)=keep (decide (cntT a y%2=1)) (decide (cntT b y%2=1))
theorem aiM (i:Nat):((Int.tmod (i:Int) 2)==(1:Int))=decide (i%2=1):=by
 have:Int.tmod (i:Int) 2=((i%2:Nat):Int):=rfl;rw[this,bJ,beq_iff_eq,aM];omega
theorem ae5 {a b:List Int} (ha:a.Pairwise (· < ·)) (hb:b.Pairwise (· < ·)) {keep:Bool->Bool->Bool} {i k:Nat} {was:Bool} {out:List Int} (h:Yu a b keep i k was out) {v:Int} {i' k':Nat}
 (ci:(i'=i+1∧∃ hi:i < a.length,a[i]=v)∨(i'=i∧∀ hi:i < a.length,v < a[i])) (ck:(k'=k+1∧∃ hk:k < b.length,b[k]=v)∨(k'=k∧∀ hk:k < b.length,v < b[k])) (some:i < i'∨k < k'):
 Yu a b keep i' k' (keep (decide (i'%2=1)) (decide (k'%2=1))) (bif (keep (decide (i'%2=1)) (decide (k'%2=1))==was)then out else out++[v]):=by
 rw[List.pairwise_iff_getElem]at ha hb;have av:∀ m (hm:m < a.length),i'<=m->v < a[m]:=by
  intro m hm hmi;rcases ci with ⟨e,hi,hv⟩ |⟨e,hv⟩
  ·have:=ha i m hi hm (by omega);omega
  ·rcases Nat.eq_or_lt_of_le (show i<=m by omega)with e2 |e2
   ·subst e2;exact hv hm
   ·have h1:=hv (by omega);have:=ha i m (by omega) hm e2;omega
 have bv:∀ m (hm:m < b.length),k'<=m->v < b[m]:=by
  intro m hm hmi;rcases ck with ⟨e,hi,hv⟩ |⟨e,hv⟩
  ·have:=hb k m hi hm (by omega);omega
  ·rcases Nat.eq_or_lt_of_le (show k<=m by omega)with e2 |e2
   ·subst e2;exact hv hm
   ·have h1:=hv (by omega);have:=hb k m (by omega) hm e2;omega
 have lea:∀ j (hj:j < a.length),j < i'->a[j]<=v:=by
  intro j hj hji;rcases ci with ⟨e,hi,hv⟩ |⟨e,hv⟩
  ·rcases Nat.eq_or_lt_of_le (show j<=i by omega)with e2 |e2
   ·subst e2;omega
   ·have:=ha j i hj hi e2;omega
  ·rcases ck with ⟨e3,hk,hv2⟩ |⟨e3,_⟩
   ·have:=h.ab j hj (by omega) k hk (aU _);omega
   ·omega
 have leb:∀ j (hj:j < b.length),j < k'->b[j]<=v:=by
  intro j hj hji;rcases ck with ⟨e,hi,hv⟩ |⟨e,hv⟩
  ·rcases Nat.eq_or_lt_of_le (show j<=k by omega)with e2 |e2
   ·subst e2;omega
   ·have:=hb j k hj hi e2;omega
  ·rcases ci with ⟨e3,hi,hv2⟩ |⟨e3,_⟩
   ·have:=h.ba j hj (by omega) i hi (aU _);omega
   ·omega
 have ov:∀ z∈out,z < v:=by
  intro z hz;rcases some with s |s
  ·rcases ci with ⟨e,hi,hv⟩ |⟨e,_⟩
   ·have:=h.oa z hz i hi (aU _);omega
   ·omega
  ·rcases ck with ⟨e,hk,hv⟩ |⟨e,_⟩
   ·have:=h.ob z hz k hk (aU _);omega
   ·omega
 have hi':i'<=a.length:=by
  rcases ci with ⟨e,hi,_⟩ |⟨e,_⟩
  ·omega
  ·have:=h.hi;omega
 have hk':k'<=b.length:=by
  rcases ck with ⟨e,hi,_⟩ |⟨e,_⟩
  ·omega
  ·have:=h.hk;omega
 generalize hN:(bif (keep (decide (i'%2=1)) (decide (k'%2=1))==was)then out else out++[v])=new;have mem:∀ z∈new,z<=v:=by
  intro z hz;rw[<- hN]at hz;cases hk2:(keep (decide (i'%2=1)) (decide (k'%2=1))==was)with
  |true=>rw[hk2]at hz;have:=ov z hz;omega
  |false=>
   rw[hk2]at hz;rcases aX.1 hz with hz |hz
   ·have:=ov z hz;omega
   ·have:z=v:=(by simpa using hz);omega
 have ipar:∀ j,i<=j->j<=i+1->True:=fun _ _ _=>trivial;have par:keep (decide (i'%2=1)) (decide (k'%2=1))=decide (new.length%2=1):=by
  rw[<- hN];have hp:=h.par;cases hk2:(keep (decide (i'%2=1)) (decide (k'%2=1))==was)with
  |true=>
   rw[beq_iff_eq]at hk2;rw[hk2,hp];rfl
  |false=>
   rw[beq_eq_false_iff_ne]at hk2;have:keep (decide (i'%2=1)) (decide (k'%2=1))=!was:=(by cases h1:keep (decide (i'%2=1)) (decide (k'%2=1))<;>cases h2:was<;>simp_all);rw[this,hp,bJ];simp only[aA,aZ,length_singleton,Bool.not_eq_true',bU,aM];omega
 refine⟨hi',hk',fun j hj hji m hm hmk=>?_,fun j hj hjk m hm hmi=>?_,?_,fun z hz m hm hmi=>?_,fun z hz m hm hmk=>?_,?_,rfl,par,fun y y1 y2=>?_⟩
 ·have:=lea j hj hji;have:=bv m hm hmk;omega
 ·have:=leb j hj hjk;have:=av m hm hmi;omega
 ·rw[<- hN];cases (keep (decide (i'%2=1)) (decide (k'%2=1))==was)with
  |true=>exact h.asc
  |false=>exact List.pairwise_append.2 ⟨h.asc,List.pairwise_singleton _ _,fun z hz w hw=>by
   have:w=v:=(by simpa using hw);rw[this];exact ov z hz⟩
 ·have:=mem z hz;have:=av m hm hmi;omega
 ·have:=mem z hz;have:=bv m hm hmk;omega
 ·rw[<- hN];have:=h.len;have:i<=i':=by rcases ci with ⟨e,_⟩ |⟨e,_⟩<;>omega
  have:k<=k':=by rcases ck with ⟨e,_⟩ |⟨e,_⟩<;>omega
  cases (keep (decide (i'%2=1)) (decide (k'%2=1))==was)with
  |true=>simp only[au];omega
  |false=>simp only[aA,aZ,length_singleton];omega
 ·by_cases hy:y < v
  ·have e:cntT new y=cntT out y:=by
    rw[<- hN];cases (keep (decide (i'%2=1)) (decide (k'%2=1))==was)with
    |true=>rfl
    |false=>
     rw[aA,U7,zi (F:=[v]) (fun z hz=>by
      have:z=v:=(by simpa using hz);omega)]
     rfl
   rw[e];refine h.val y (fun m hm hmi=>?_) fun m hm hmk=>?_
   ·rcases Nat.lt_or_ge m i' with hlt |hge
    ·rcases ci with ⟨e,hi,hv⟩ |⟨e,_⟩
     ·have:m=i:=(by omega);subst this;omega
     ·omega
    ·exact y1 m hm hge
   ·rcases Nat.lt_or_ge m k' with hlt |hge
    ·rcases ck with ⟨e,hi,hv⟩ |⟨e,_⟩
     ·have:m=k:=(by omega);subst this;omega
     ·omega
    ·exact y2 m hm hge
  ·rw[acz (F:=new) fun z hz=>by have:=mem z hz;omega];rw[agz (i:=i') hi' (fun j hj hji=>by have:=lea j hj hji;omega) y1,agz (i:=k') hk' (fun j hj hji=>by have:=leb j hj hji;omega) y2];exact par.symm
theorem Rv {n:Nat} {a b:List Int} (ha:a.Pairwise (· < ·)) (hb:b.Pairwise (· < ·)) (la:a.length<=1000000) (lb:b.length<=1000000) (op:Int):∀ (m i k:Nat) (was:Bool) (out:List Int),(a.length - i)+(b.length - k)<=m->Yu a b (fA op) i k was out->∀ n,m < n->
 ∃ out',iter (jL a b op) n ((i:Int),(k:Int),was,out)=some out'∧∃ w,Yu a b (fA op) a.length b.length w out':=by
 intro m
 induction m with
 |zero=>
  intro i k was out hm h n hn;obtain⟨n,rfl⟩:∃ j,n=j+1:=⟨n - 1,by omega⟩;have e1:i=a.length:=by have:=h.hi;omega
  have e2:k=b.length:=by have:=h.hk;omega
  subst e1 e2;have d1:decide (((a.length:Nat):Int) < (a.length:Int))=false:=by simp
  have d2:decide (((b.length:Nat):Int) < (b.length:Int))=false:=by simp
  refine⟨out,bF ?_,was,h⟩;simp only[jL,d1,d2,aA,ah,aC,au]
 |succ m ih=>
  intro i k was out hm h n hn;obtain⟨n,rfl⟩:∃ j,n=j+1:=⟨n - 1,by omega⟩;have hi:=h.hi;have hk:=h.hk;by_cases hend:i=a.length∧k=b.length
  ·obtain⟨rfl,rfl⟩:=hend;exact ih _ _ _ _ (by omega) h (n+1) (by omega)
  have lo:=h.len;have ap:∀ v:Int,bM out.length out.length ([v]:List Int).length 1 8=true:=fun v=>bI (n:=1);have s1:∀ v:Int,(sub ([v]:List Int) 0 1)=[v]:=fun _=>rfl;have w1:i64.wrap ((i:Int)+1)=((i+1:Nat):Int):=aN (by omega);have w2:i64.wrap ((k:Int)+1)=((k+1:Nat):Int):=aN (by omega);have two:((2:Int) != 0)=true:=rfl;have kp:∀ p q:Bool,(((bif p then some true else some q):Option Bool).bind fun v12=>((bif (op==(1:Int))then (bif p then some q else some false)else some v12):Option (Bool)).bind fun v13=>((bif (op==(2:Int))then (bif p then some (!q)else some false)else some v13):Option (Bool)))=some (fA op p q):=by
   intro p q;unfold fA;cases op==1<;>cases op==2<;>cases p<;>cases q<;>rfl
  have turn:∀ (v:Int) (i' k':Nat),((((bif (decide ((i:Int) < (a.length:Int)))then (bif (decide ((k:Int)>=(b.length:Int)))then some true else (at? a (i:Int)).bind fun x1=>(at? b (min (k:Int) (i64.wrap ((b.length:Int) - 1)))).bind fun x2=>some (decide (x1<=(x2:Int))))else some false):Option (Bool)).bind fun v6=>(bif v6 then (at? a (i:Int)).bind fun x3=>some x3 else (at? b (k:Int)).bind fun x4=>some x4):Option Int)=some v)->
   ((i'=i+1∧∃ hi:i < a.length,a[i]=v)∨(i'=i∧∀ hi:i < a.length,v < a[i]))->((k'=k+1∧∃ hk:k < b.length,b[k]=v)∨(k'=k∧∀ hk:k < b.length,v < b[k]))->(i < i'∨k < k')->
   jL a b op ((i:Int),(k:Int),was,out)=some (.inl ((i':Int),(k':Int),fA op (decide (i'%2=1)) (decide (k'%2=1)),bif (fA op (decide (i'%2=1)) (decide (k'%2=1))==was)then out else out++[v])):=by
   intro v i' k' hv ci ck _;have go:((bif (decide ((i:Int) < (a.length:Int)))then some true else some (decide ((k:Int) < (b.length:Int)))):Option Bool)=some true:=by
    by_cases hc:i < a.length
    ·have:decide ((i:Int) < (a.length:Int))=true:=(by simpa using hc);rw[this];rfl
    ·have h1:decide ((i:Int) < (a.length:Int))=false:=(by simp;omega);have h3:k < b.length:=(by clear hv ci ck w1 w2;omega);have h2:decide ((k:Int) < (b.length:Int))=true:=(by simpa using h3);rw[h1,h2];rfl
   have ei:(((bif (decide ((i:Int) < (a.length:Int)))then (at? a (i:Int)).bind fun x5=>some (x5==(v:Int))else some false):Option (Bool)).bind fun v8=>(bif v8 then some (i64.wrap ((i:Int)+1))else some (i:Int)):Option (Int))=some (i':Int):=by
    rcases ci with ⟨e,hi,hv2⟩ |⟨e,hv2⟩
    ·have:decide ((i:Int) < (a.length:Int))=true:=(by simpa using hi);rw[this,aY hi];have e2:(a[i]==v)=true:=(by simp[hv2]);simp only[au,ah,e2,w1,e]
    ·by_cases hi:i < a.length
     ·have:decide ((i:Int) < (a.length:Int))=true:=(by simpa using hi);have:=hv2 hi;have e2:(a[i]==v)=false:=(by rw[beq_eq_false_iff_ne];intro e;rw[e]at this;exact Int.lt_irrefl v this);rw[‹decide ((i:Int) < (a.length:Int))=true›,aY hi];simp only[au,ah,e2,aA,e]
     ·have:decide ((i:Int) < (a.length:Int))=false:=(by simp;omega);rw[this];simp only[aA,ah,e]
   have ek:(((bif (decide ((k:Int) < (b.length:Int)))then (at? b (k:Int)).bind fun x6=>some (x6==(v:Int))else some false):Option (Bool)).bind fun v10=>(bif v10 then some (i64.wrap ((k:Int)+1))else some (k:Int)):Option (Int))=some (k':Int):=by
    rcases ck with ⟨e,hi,hv2⟩ |⟨e,hv2⟩
    ·have:decide ((k:Int) < (b.length:Int))=true:=(by simpa using hi);rw[this,aY hi];have e2:(b[k]==v)=true:=(by simp[hv2]);simp only[au,ah,e2,w2,e]
    ·by_cases hi:k < b.length
     ·have:decide ((k:Int) < (b.length:Int))=true:=(by simpa using hi);have:=hv2 hi;have e2:(b[k]==v)=false:=(by rw[beq_eq_false_iff_ne];intro e;rw[e]at this;exact Int.lt_irrefl v this);rw[‹decide ((k:Int) < (b.length:Int))=true›,aY hi];simp only[au,ah,e2,aA,e]
     ·have:decide ((k:Int) < (b.length:Int))=false:=(by simp;omega);rw[this];simp only[aA,ah,e]
   unfold jL;simp only;rw[go];simp only[ah,au];rw[hv];simp only[ah];rw[ei];simp only[ah];rw[ek];simp only[ah,two,au,aiM];have kk:=kp (decide (i'%2=1)) (decide (k'%2=1));generalize decide (i'%2=1)=P at*;generalize decide (k'%2=1)=Q at*;have fin:∀ v14:Bool,(((bif (!(v14==was))then bif bM out.length out.length (sub ([v]:List Int) 0 1).length 1 8 then gQ (out++(sub ([v]:List Int) 0 1)) fun r1=>bif eqL r1.length r1.length then some r1 else none else none else bif eqL out.length out.length then some out else none):Option ((List Int))).bind fun v15=>bif eqL v15.length v15.length then some (.inl ((i':Int),(k':Int),v14,v15))else none)=(some (.inl ((i':Int),(k':Int),v14,bif (v14==was)then out else out++[v])):Option ((Int×Int×Bool×(List Int)) ⊕ (List Int))):=by
    intro v14;simp only[s1,ap,dH,aC,au];cases v14==was<;>rfl
   simp only[fin];unfold fA;cases op==1<;>cases op==2<;>cases P<;>cases Q<;>rfl
  have fin:∀ (v:Int) (i' k':Nat),((((bif (decide ((i:Int) < (a.length:Int)))then (bif (decide ((k:Int)>=(b.length:Int)))then some true else (at? a (i:Int)).bind fun x1=>(at? b (min (k:Int) (i64.wrap ((b.length:Int) - 1)))).bind fun x2=>some (decide (x1<=(x2:Int))))else some false):Option (Bool)).bind fun v6=>(bif v6 then (at? a (i:Int)).bind fun x3=>some x3 else (at? b (k:Int)).bind fun x4=>some x4):Option Int)=some v)->
   ((i'=i+1∧∃ hi:i < a.length,a[i]=v)∨(i'=i∧∀ hi:i < a.length,v < a[i]))->((k'=k+1∧∃ hk:k < b.length,b[k]=v)∨(k'=k∧∀ hk:k < b.length,v < b[k]))->(i < i'∨k < k')->i'+k'<=i+k+2->
   ∃ out',iter (jL a b op) (n+1) ((i:Int),(k:Int),was,out)=some out'∧∃ w,Yu a b (fA op) a.length b.length w out':=by
   intro v i' k' hv ci ck sm _;have st:=turn v i' k' hv ci ck sm;obtain⟨o,ho,hw⟩:=ih i' k' _ _ (by rcases ci with ⟨e,h1,_⟩ |⟨e,_⟩<;>rcases ck with ⟨e2,h2,_⟩ |⟨e2,_⟩<;>omega) (ae5 ha hb h ci ck sm) n (by omega);exact⟨o,by rw[dK st];exact ho,hw⟩
  by_cases ci:i < a.length
  ·have d1:decide ((i:Int) < (a.length:Int))=true:=(by simpa using ci);by_cases ck:k < b.length
   ·have d2:decide ((k:Int)>=(b.length:Int))=false:=(by simp;omega);have mn:min (k:Int) (i64.wrap ((b.length:Int) - 1))=(k:Int):=(by rw[bB (by omega) (by omega)];omega);by_cases hle:a[i]<=b[k]
    ·have hv:((((bif (decide ((i:Int) < (a.length:Int)))then (bif (decide ((k:Int)>=(b.length:Int)))then some true else (at? a (i:Int)).bind fun x1=>(at? b (min (k:Int) (i64.wrap ((b.length:Int) - 1)))).bind fun x2=>some (decide (x1<=(x2:Int))))else some false):Option (Bool)).bind fun v6=>(bif v6 then (at? a (i:Int)).bind fun x3=>some x3 else (at? b (k:Int)).bind fun x4=>some x4):Option Int)=some a[i]):=by
      have:decide (a[i]<=b[k])=true:=(by simpa using hle);simp only[d1,d2,mn,aY ci,aY ck,au,aA,ah,this]
     rcases Int.lt_or_eq_of_le hle with hlt |heq
     ·exact fin a[i] (i+1) k hv (.inl ⟨rfl,ci,rfl⟩) (.inr ⟨rfl,fun _=>hlt⟩) (by omega) (by omega)
     ·exact fin a[i] (i+1) (k+1) hv (.inl ⟨rfl,ci,rfl⟩) (.inl ⟨rfl,ck,heq.symm⟩) (by omega) (by omega)
    ·have hv:((((bif (decide ((i:Int) < (a.length:Int)))then (bif (decide ((k:Int)>=(b.length:Int)))then some true else (at? a (i:Int)).bind fun x1=>(at? b (min (k:Int) (i64.wrap ((b.length:Int) - 1)))).bind fun x2=>some (decide (x1<=(x2:Int))))else some false):Option (Bool)).bind fun v6=>(bif v6 then (at? a (i:Int)).bind fun x3=>some x3 else (at? b (k:Int)).bind fun x4=>some x4):Option Int)=some b[k]):=by
      have:decide (a[i]<=b[k])=false:=(by simpa using hle);simp only[d1,d2,mn,aY ci,aY ck,au,aA,ah,this]
     exact fin b[k] i (k+1) hv (.inr ⟨rfl,fun _=>by omega⟩) (.inl ⟨rfl,ck,rfl⟩) (by omega) (by omega)
   ·have d2:decide ((k:Int)>=(b.length:Int))=true:=(by simp;omega);have hv:((((bif (decide ((i:Int) < (a.length:Int)))then (bif (decide ((k:Int)>=(b.length:Int)))then some true else (at? a (i:Int)).bind fun x1=>(at? b (min (k:Int) (i64.wrap ((b.length:Int) - 1)))).bind fun x2=>some (decide (x1<=(x2:Int))))else some false):Option (Bool)).bind fun v6=>(bif v6 then (at? a (i:Int)).bind fun x3=>some x3 else (at? b (k:Int)).bind fun x4=>some x4):Option Int)=some a[i]):=(by simp only[d1,d2,aY ci,au,ah]);exact fin a[i] (i+1) k hv (.inl ⟨rfl,ci,rfl⟩) (.inr ⟨rfl,fun h=>absurd h ck⟩) (by omega) (by omega)
  ·have ck:k < b.length:=(by omega);have d1:decide ((i:Int) < (a.length:Int))=false:=(by simp;omega);have hv:((((bif (decide ((i:Int) < (a.length:Int)))then (bif (decide ((k:Int)>=(b.length:Int)))then some true else (at? a (i:Int)).bind fun x1=>(at? b (min (k:Int) (i64.wrap ((b.length:Int) - 1)))).bind fun x2=>some (decide (x1<=(x2:Int))))else some false):Option (Bool)).bind fun v6=>(bif v6 then (at? a (i:Int)).bind fun x3=>some x3 else (at? b (k:Int)).bind fun x4=>some x4):Option Int)=some b[k]):=(by simp only[d1,aY ck,aA,ah]);exact fin b[k] i (k+1) hv (.inr ⟨rfl,fun h=>absurd h ci⟩) (.inl ⟨rfl,ck,rfl⟩) (by omega) (by omega)
theorem U8 {n:Nat} {c d:List aL} (hc:Can c) (hd:Can d) (lc:c.length<=200000) (ld:d.length<=200000) (op:Int) (hn:2*c.length+2*d.length < n):Bt n (dm c) (dm d) op=some (dm (oN (fA op) c d)):=by
 have h0:Yu (dm c) (dm d) (fA op) 0 0 false []:=by
  refine⟨by omega,by omega,by omega,by omega,.nil,by simp,by simp,by simp,?_,rfl,fun y y1 y2=>?_⟩
  ·exact (JB op).symm
  ·rw[zi (F:=dm c) (fun z hz=>by obtain⟨j,hj,rfl⟩:=mem_iff_getElem.1 hz;exact y1 j hj (by omega)),zi (F:=dm d) (fun z hz=>by obtain⟨j,hj,rfl⟩:=mem_iff_getElem.1 hz;exact y2 j hj (by omega))];exact (JB op).symm
 obtain⟨o,ho,w,hw⟩:=Rv (n:=n) (JC hc).1 (JC hd).1 (by rw[jF];omega) (by rw[jF];omega) op ((dm c).length+(dm d).length) 0 0 false [] (by omega) h0 n (by rw[jF,jF];omega);have key:o=dm (oN (fA op) c d):=by
  have w0:w=false:=by
   rw[hw.hw,jF,jF];have e1:decide (2*c.length%2=1)=false:=(by simp);have e2:decide (2*d.length%2=1)=false:=(by simp);rw[e1,e2,JB]
  have ev:o.length%2=0:=by
   have:=hw.par;rw[w0]at this;have:=of_decide_eq_false this.symm;omega
  obtain⟨e,rfl,he⟩:=acA (o.length/2) (F:=o) (by omega) hw.asc;obtain⟨m1,m2⟩:=BG (keep:=fA op) (JB op) c d;congr 1;refine jN he m1 fun y=>?_;rw[JD he,m2,JD hc,JD hd];exact hw.val y (fun m hm h=>by omega) fun m hm h=>by omega
 unfold Bt;have ho':iter (jL (dm c) (dm d) op) n ((0:Int),(0:Int),false,([]:List Int))=some o:=ho;simp only[length_nil,aC,au,ho',ah,bE,key]
theorem Pw {n:Nat} {l:List aj} (hl:l.length < 1099511627) (hn:l.length < n) (w:List Int) (hw:w.length<=1000000):iter (tQ l) n ((0:Int),w)=some (w++l.flatMap fun r=>[r.x0,r.x1]):=by
 have fl:∀ i,((l.take i).flatMap fun r=>[r.x0,r.x1]).length<=2*i:=by
  intro i;rw[iE,length_take];omega
 have:=d9 (step:=tQ l) (fun i=>(((i:Nat):Int),w++(l.take i).flatMap fun r=>[r.x0,r.x1])) l.length (w++l.flatMap fun r=>[r.x0,r.x1]) (fun i hi=>?_) ?_ n hn
 ·simpa using this
 ·have hi':decide (((i:Nat):Int) < (l.length:Int))=true:=by simpa using hi
  have f:=fl i;have s1:(sub ([l[i].x0,l[i].x1]:List Int) 0 2)=[l[i].x0,l[i].x1]:=rfl;have ap:bM (w++(l.take i).flatMap fun r=>[r.x0,r.x1]).length (w++(l.take i).flatMap fun r=>[r.x0,r.x1]).length ([l[i].x0,l[i].x1]:List Int).length 2 8=true:=by
   refine bI (n:=2) ?_ ?_
   ·rw[aZ];omega
   ·rw[aZ];simp only[maxLen];omega
  simp only[tQ,hi',au,aY hi,ah,s1,ap,dH,aC];rw[aN (by omega),dW hi,List.flatMap_append,aQ];rfl
 ·simp[tQ]
theorem U9 {n:Nat} {a b:List aj} (ha:a.length<=100000) (hb:b.length<=100000) (hn:6*(a.length+b.length)+1000<=n):Jl n a b=some (aR (a++b)):=by
 unfold Jl;have fa:=iE a;have fb:=iE b;simp only[length_nil,aC,au,Pv (l:=a) (n:=n) (by omega) (by omega),ah,Pw (l:=b) (n:=n) (by omega) (by omega) (a.flatMap fun r=>[r.x0,r.x1]) (by omega),bE];rw[Wv (by rw[aZ];omega) (by rw[aZ];omega)];simp only[ah,bE,aC,au];unfold aR;rw[List.flatMap_append]
theorem ahq (l:List bg):∀ x0 x1 y0 y1,uf x0 x1 [] l=uf y0 y1 [] l:=by
 induction l with
 |nil=>intros;simp[uf,aF]
 |cons s l ih=>
  intro x0 x1 y0 y1;simp only[uf];split
  ·exact ih _ _ _ _
  ·simp[aF]
def Px (op:Int) (a b:List aj):List bg:=MZ (fA op) a b
theorem aiN {op:Int} {a b:List aj} {i:Nat} (h:i < (Px op a b).length):∃ (h1:i < (aR (a++b)).length) (h2:i+1 < (aR (a++b)).length),(Px op a b)[i]=⟨(aR (a++b))[i],(aR (a++b))[i+1],oN (fA op) (bQ a (aR (a++b))[i]) (bQ b (aR (a++b))[i])⟩:=by
 obtain⟨p1,p2⟩:=jO (fun x x'=>(⟨x,x',oN (fA op) (bQ a x) (bQ b x)⟩:bg)) (aR (a++b));have h0:i < (gX (fun x x'=>(⟨x,x',oN (fA op) (bQ a x) (bQ b x)⟩:bg)) (aR (a++b))).length:=h;exact⟨by omega,by omega,p2 i (by omega) h⟩
theorem Va (op:Int) (a b:List aj):(Px op a b).length=(aR (a++b)).length - 1:=(jO (fun x x'=>(⟨x,x',oN (fA op) (bQ a x) (bQ b x)⟩:bg)) (aR (a++b))).1
def alc (op:Int) (a b:List aj) (i:Nat) (last:Nat) (out:List aj) (w:List aL):Prop:=
 out.length<=i*(2*(a.length+b.length))∧w.length<=2*(a.length+b.length)∧
 ((i=0∧last=0∧out=[]∧w=[])∨
  (0 < i∧∃ done x0 x1,out=done++aF x0 x1 w∧last=done.length∧bD (Px op a b)=done++uf x0 x1 w ((Px op a b).drop i)))
theorem Fu {n:Nat} {op:Int} {a b:List aj} (va:∀ r∈a,OkR r=true) (vb:∀ r∈b,OkR r=true) (ha:a.length<=100000) (hb:b.length<=100000) (hn:6*(a.length+b.length)+1000<=n):∀ (m i last:Nat) (out:List aj) (w:List aL),i+m=(Px op a b).length->alc op a b i last out w->∀ k,m < k->
 iter (mg n a b op (aR (a++b))) k ((last:Int),(i:Int),out,dm w)=some (bD (Px op a b))
 | 0,i,last,out,w,hm,hI,k,hk=>by
  obtain⟨k,rfl⟩:∃ j,k=j+1:=⟨k - 1,by omega⟩;have sl:=Va op a b;have le:=nM (a++b);rw[aZ]at le;have wp:i64.wrap ((i:Int)+1)=(((i+1:Nat)):Int):=aN (by omega);have d:decide ((((i+1:Nat)):Int) < (((aR (a++b)).length:Nat):Int))=false:=by simp;omega
  obtain⟨_,_,hI⟩:=hI;have fin:out=bD (Px op a b):=by
   rcases hI with ⟨h0,_,rfl,_⟩ |⟨h0,done,x0,x1,rfl,_,hw⟩
   ·subst h0;have:Px op a b=[]:=List.eq_nil_of_length_eq_zero (by omega);rw[this];rfl
   ·rw[hw,drop_of_length_le (by omega)];rfl
  refine bF ?_;simp only[mg,wp,d,aA,aC,au,fin]
 |m+1,i,last,out,w,hm,hI,k,hk=>by
  obtain⟨k,rfl⟩:∃ j,k=j+1:=⟨k - 1,by omega⟩;have sl:=Va op a b;have le:=nM (a++b);rw[aZ]at le;have hi:i < (Px op a b).length:=by omega
  obtain⟨e1,e2,es⟩:=aiN hi;obtain⟨hlo,hlw,hI⟩:=hI;have ob:i*(2*(a.length+b.length))<=400000*400000:=Nat.mul_le_mul (by omega) (by omega);have wp:i64.wrap ((i:Int)+1)=(((i+1:Nat)):Int):=aN (by omega);have d:decide ((((i+1:Nat)):Int) < (((aR (a++b)).length:Nat):Int))=true:=by simp;omega
  have la:=tZ a (aR (a++b))[i];have lb:=tZ b (aR (a++b))[i];have c1:rH n a (aR (a++b))[i]=some (dm (bQ a (aR (a++b))[i])):=Kb (by omega) (by omega);have c2:rH n b (aR (a++b))[i]=some (dm (bQ b (aR (a++b))[i])):=Kb (by omega) (by omega);have ca:=(eu va (aR (a++b))[i]).1;have cb:=(eu vb (aR (a++b))[i]).1;have c3:=U8 (n:=n) ca cb (by omega) (by omega) op (by omega);have hcl:=Wt (fA op) (bQ a (aR (a++b))[i]) (bQ b (aR (a++b))[i]);have dr:(Px op a b).drop i=⟨(aR (a++b))[i],(aR (a++b))[i+1],oN (fA op) (bQ a (aR (a++b))[i]) (bQ b (aR (a++b))[i])⟩::(Px op a b).drop (i+1):=by rw[drop_eq_getElem_cons hi,es]
  generalize hc:oN (fA op) (bQ a (aR (a++b))[i]) (bQ b (aR (a++b))[i])=c at*;have ints:Hg n (dm c) (dm w)=some (decide (c=w)):=by
   rw[acy (by rw[jF];omega) (by rw[jF];omega)];congr 1;exact decide_eq_decide.2 ⟨fun h=>Yt h,fun h=>by rw[h]⟩
  have hlen:decide ((((dm c).length:Nat):Int)>0)=decide (c≠[]):=by
   rw[jF];refine decide_eq_decide.2 ?_;rw[<- List.length_pos_iff];omega
  have di:decide ((i:Int)>0)=decide (0 < i):=by refine decide_eq_decide.2 ?_;omega
  have test:((bif decide ((i:Int)>0)then (bif decide ((((dm c).length:Nat):Int)>0)then some (decide (c=w))else some false)else some false):Option Bool)=some (decide (0 < i∧c≠[]∧c=w)):=by
   rw[hlen,di,E9,E9];congr 1;by_cases a:0 < i<;>by_cases b:c≠[]<;>by_cases e:c=w<;>simp[a,b,e]
  by_cases ht:0 < i∧c≠[]∧c=w
  ·obtain⟨h0,hne,rfl⟩:=ht;rcases hI with ⟨h1,_⟩ |⟨_,done,x0,x1,rfl,rfl,hw⟩
   ·omega
   ·have lenr:(done++aF x0 x1 c).length=done.length+c.length:=(by simp[aF]);have r:=Rt (n:=n) (E:=aR (a++b)) e2 (by omega) done c x0 x1 (by omega) (by omega);have le2:(done++aF x0 x1 c).length=(done++aF x0 (aR (a++b))[i+1] c).length:=(by simp[aF]);have stp:mg n a b op (aR (a++b)) (((done.length:Nat):Int),(i:Int),done++aF x0 x1 c,dm c)=some (.inl (((done.length:Nat):Int),(((i+1:Nat)):Int),done++aF x0 (aR (a++b))[i+1] c,dm c)):=by
     have t1:decide (0 < i∧c≠[]∧c=c)=true:=(by simp[h0,hne]);rw[t1]at test;simp only[eq_self]at test;simp only[mg,wp,d,au,bC e1,dh e1,ah,c1,c2,bE,aC,c3,ints];rw[test];simp only[ah,au,r,le2,aC]
    rw[dK stp];refine Fu va vb ha hb hn m (i+1) _ _ _ (by omega) ⟨?_,hlw,.inr ⟨by omega,done,x0,_,rfl,rfl,?_⟩⟩ k (by omega)
    ·rw[<- le2,Nat.add_mul];omega
    ·rw[hw,dr];simp only[uf,if_true]
  ·have hcw:¬ (0 < i∧c≠[]∧c=w):=ht;have r:=Ru (n:=n) (E:=aR (a++b)) e2 (by omega) out c (by omega) (by omega);have stp:mg n a b op (aR (a++b)) ((last:Int),(i:Int),out,dm w)=some (.inl (((out.length:Nat):Int),(((i+1:Nat)):Int),out++aF (aR (a++b))[i] (aR (a++b))[i+1] c,dm c)):=by
    have t1:decide (0 < i∧c≠[]∧c=w)=false:=(by simpa using hcw);rw[t1]at test;simp only[mg,wp,d,au,bC e1,dh e1,ah,c1,c2,bE,aC,c3,ints];rw[test];simp only[ah,aA,r,aC,au]
   rw[dK stp];refine Fu va vb ha hb hn m (i+1) _ _ _ (by omega) ⟨?_,by omega,.inr ⟨by omega,out,_,_,rfl,rfl,?_⟩⟩ k (by omega)
   ·rw[aZ,Nat.add_mul];simp[aF];omega
   ·rcases hI with ⟨rfl,rfl,rfl,rfl⟩ |⟨h0,done,x0,x1,rfl,rfl,hw⟩
    ·rw[List.drop_zero]at dr
     conv=>lhs;rw[dr]
     simp[bD]
    ·rw[hw,dr,aQ];congr 1;simp only[uf];by_cases hcw2:c=w
     ·have hce:c=[]:=by
       rcases Decidable.em (c=[])with h |h
       ·exact h
       ·exact absurd ⟨h0,h,hcw2⟩ hcw
      subst hcw2;subst hce;simp only[if_true];have:aF x0 x1 []=[]:=rfl;rw[this,cu];exact ahq _ _ _ _ _
     ·simp only[hcw2,if_false]
theorem qQ {n:Nat} {op:Int} {a b:List aj} (va:∀ r∈a,OkR r=true) (vb:∀ r∈b,OkR r=true) (ha:a.length<=100000) (hb:b.length<=100000) (hn:6*(a.length+b.length)+1000<=n):qK n a b op=some (bD (MZ (fA op) a b)):=by
 have sl:=Va op a b;have le:=nM (a++b);rw[aZ]at le;unfold qK;rw[U9 (by omega) (by omega) hn];have:=Fu (n:=n) (op:=op) va vb ha hb hn (Px op a b).length 0 0 [] [] (by omega) ⟨by simp,by simp,.inl ⟨rfl,rfl,rfl,rfl⟩⟩ n (by omega);have this':iter (mg n a b op (aR (a++b))) n ((0:Int),(0:Int),([]:List aj),([]:List Int))=some (bD (MZ (fA op) a b)):=this;simp only[ah,length_nil,aC,au,this',bE]
theorem ZX {n:Nat} {l:List aj} (hv:∀ r∈l,OkR r=true) (hl:l.length<=4000) (hn:50000<=n):qK n l [] 0=some (bD (bq l)):=by
 rw[qQ hv (by simp) (by omega) (by simp) (by simp;omega)];congr 1;have hs:nQ (MZ (fA 0) l []):=uh _ _ (nN _);have sp:=fun x=>BG (keep:=fA 0) rfl (bQ l x) (bQ [] x);refine ab7 hs hv (fun x=>by rw[Jz rfl];exact (sp x).1) fun x y=>?_;rw[Jz rfl,(sp x).2,(eu hv x).2,(eu (l:=[]) (by simp) x).2];have:aV [] x y=false:=rfl;rw[this];show (aV l x y || false)=_;rw[Bool.or_false]
theorem DW (r:aj):qG r=some (OkR r):=by simp only[qG,E9]
theorem acB {l:List aj} (h:nR (fun r=>!OkR r) l=none):∀ r∈l,OkR r=true:=by
 intro r hr;rcases uZ (fun r=>!OkR r) l with ⟨i,hi,h1,_⟩ |⟨_,h2⟩
 ·rw[h1]at h;cases h
 ·simpa using h2 r hr
theorem acC {n:Nat} {l:List aj} (hl:l.length<=4000) (hn:50000<=n):ZF n l=some (ofL l):=by
 unfold ZF;have h1:=jW (l:=l) (step:=Jm l) (fun i=>(i:Int)) (fun r=>!OkR r) () (fun _=>(([]:List aj),(1:Int))) (fun i hi=>?_) ?_ n (by omega)
 ·rw[show ((0:Nat):Int)=0 from rfl]at h1;rw[h1];have h2:=j5 (fun r=>!OkR r) l;cases hf:nR (fun r=>!OkR r) l with
  |some i=>
   rw[hf]at h2;have:l.all OkR=false:=by
    rw[<- Bool.not_eq_true,List.all_eq_true];intro hall;have h3:=h2.symm;simp only[Option.isSome_some,any_eq_true]at h3;obtain⟨x,hx,hx2⟩:=h3;rw[hall x hx]at hx2;cases hx2
   simp[ofL,this]
  |none=>
   have hv:=acB hf;have:l.all OkR=true:=(by rw[List.all_eq_true];exact hv);simp only[fD,ofL,this,if_true];by_cases h400:l.length>400
   ·have d4:decide ((l.length:Int)>400)=true:=(by simp;omega);simp only[d4,au,h400,if_true]
   have d4:decide ((l.length:Int)>400)=false:=(by simp;omega);simp only[d4,aA,h400,if_false];rw[ZX hv (by omega) hn];simp only[ah,bE,aC,au];by_cases h200:(bD (bq l)).length>200
   ·have:decide (((bD (bq l)).length:Int)>200)=true:=(by simp;omega);simp only[this,au,h200,if_true]
   ·have:decide (((bD (bq l)).length:Int)>200)=false:=(by simp;omega);simp only[this,aA,h200,if_false]
 ·have hi':decide (((i:Nat):Int) < (l.length:Int))=true:=by simpa using hi
  simp only[Jm,hi',au,aY hi,ah,DW];cases OkR l[i]with
  |false=>rfl
  |true=>simp only[Bool.not_true,aA];rw[aN (by omega)]
 ·simp[Jm]
theorem ae6 {α:Type} [DecidableEq α] {a b:List α} {step:Int->Option (Int ⊕ (Unit ⊕ Bool))} (hl:a.length=b.length)
 (h:∀ i (h1:i < a.length) (h2:i < b.length),step (i:Int)=some (if a[i]=b[i]then .inl (((i+1:Nat)):Int)else .inr (.inr false))) (hend:step (a.length:Int)=some (.inr (.inl ()))) (n:Nat) (hn:a.length < n):
 iter step n (0:Int)=some (if a=b then .inl ()else .inr false):=by
 have zl:(a.zip b).length=a.length:=by rw[List.length_zip];omega
 have:=jW (l:=a.zip b) (step:=step) (fun i=>((i:Nat):Int)) (fun z=>!decide (z.1=z.2)) () (fun _=>false) (fun i hi=>?_) (by rw[zl];exact hend) n (by omega)
 ·rw[show ((0:Nat):Int)=0 from rfl]at this;rw[this];rcases uZ (fun z:α×α=>!decide (z.1=z.2)) (a.zip b)with ⟨i,hi,h1,h2,_⟩ |⟨h1,h2⟩
  ·rw[h1];have:a≠b:=by
    intro e;subst e;simp at h2
   simp[this]
  ·rw[h1];have:a=b:=by
    refine List.ext_getElem hl fun i hi hj=>?_;have hm:(a[i],b[i])∈a.zip b:=by
     rw[mem_iff_getElem];exact⟨i,by omega,by simp⟩
    have:=h2 _ hm;simpa using this
   simp[this]
 ·have ha:i < a.length:=by omega
  have hb:i < b.length:=by omega
  rw[h i ha hb];simp only[List.getElem_zip];by_cases e:a[i]=b[i]<;>simp[e]
theorem kU {n:Nat} {a b:List aj} (ha:a.length < 1099511627) (hn:a.length < n):lS n a b=some (decide (a=b)):=by
 unfold lS;by_cases hl:a.length=b.length
 ·have e:((a.length:Int) != (b.length:Int))=false:=by simp[hl]
  rw[e];simp only[aA];rw[ae6 (step:=Bq a b) hl (fun i h1 h2=>?_) (by simp[Bq]) n hn]
  ·by_cases hab:a=b<;>simp[hab,dX]
  ·have d:decide (((i:Nat):Int) < (a.length:Int))=true:=(by simpa using h1);have eqr:(a[i].x0==b[i].x0&&(a[i].y0==b[i].y0&&(a[i].x1==b[i].x1&&(a[i].y1==b[i].y1&&true))))=decide (a[i]=b[i]):=by
    cases a[i];cases b[i];rw[bJ];simp
   simp only[Bq,d,au,aY h1,aY h2,ah,eqr];by_cases hab:a[i]=b[i]
   ·simp only[hab,decide_true,Bool.not_true,aA,if_true];rw[aN (by omega)]
   ·simp only[hab,decide_false,Bool.not_false,au,if_false];rfl
 ·have e:((a.length:Int) != (b.length:Int))=true:=by simp;omega
  have:¬ a=b:=fun e=>hl (by rw[e]);simp[e,this]
theorem lZ {n:Nat} {l:List aj} (hl:l.length<=4000) (hn:50000<=n):pF n l=some (rightL l):=by
 unfold pF rightL;rw[acC hl hn];simp only[ah];have lo:=ajH l;by_cases h:(ofL l).2=0
 ·have e:((ofL l).2==0)=true:=by simp[h]
  simp only[e,au,bE,aC,h,decide_true,Bool.true_and];rw[kU (by omega) (by omega)];rfl
 ·have e:((ofL l).2==0)=false:=by simp[h]
  simp[e,h]
structure More (t u:dY) (lot day:Int):Prop where
 area:areaE u lot=areaE t lot
 dist:distE t lot day<=distE u lot day
 planes:∀ p∈planesE t lot day,p∈planesE u lot day
 laws:∀ e∈lawsE t lot,e∈lawsE u lot
structure Got (n:Nat) (t:dY) (lot day:Int) (R:List (List aj)×Int):Prop where
 eq:envelope_Rooms n t lot day 12=some R
 bad:R.2≠0->R.1=[]
 good:R.2=0->R.1.length=12∧(findLot t.land lot).2=true∧rightL (areaE t lot)=true∧(baseE t lot day).2=0∧∃ W,Fp t lot day W∧R.1=(List.range 12).map W∧∀ j,j < 12->(W j).length<=200
theorem qR {n:Nat} {l:List (List aj)} {φ:(List aj×Unit)->Option Bool} (p:List aj->Bool) (h:∀ x∈l,φ (x,())=some (p x)) (hl:l.length < 1099511627776) (hn:l.length < n):jR n l φ=some (l.any p):=by
 unfold jR;have e:rG n l φ=wL n l φ:=by kernel_rfl
 rw[e,xH p h hl hn,ah,Sv]
def iF (i:Nat) (a:List aj):dw:=⟨3*(i:Int),3*((i:Int)+1),a⟩
def uw:Nat->List (List aj)->List dw
 |_,[]=>[]
 |i,a::l=>iF i a::uw (i+1) l
theorem Kc:∀ (l m:List (List aj)) (i:Nat),uw i (l++m)=uw i l++uw (i+l.length) m
 |[],m,i=>by simp[uw]
 |a::l,m,i=>by
  simp only[cons_append,uw,Kc l m (i+1),bH];rw[show i+1+l.length=i+(l.length+1)by omega]
def solidE (l:List (List aj)):List dw:=(uw 0 l).foldl zW []
theorem BN (l:List (List aj)) (a:List aj):solidE (l++[a])=zW (solidE l) (iF l.length a):=by
 unfold solidE;rw[Kc,List.foldl_append,Nat.zero_add];rfl
structure alA (l:List (List aj)):Prop where
 ok:∀ s∈solidE l,UR s
 nx:UU (solidE l)
 len:(solidE l).length<=l.length
 top:∀ s∈solidE l,s.z1<=3*(l.length:Int)
 src:∀ s∈solidE l,∃ j,∃ h:j < l.length,s.z1=3*((j:Int)+1)∧s.area=l[j]
 at_:∀ z:Int,atS (solidE l) z=if 0<=z∧z < 3*(l.length:Int)then l.getD (z/3).toNat []else []
 vol:((solidE l).map fun s=>(s.z1 - s.z0)*sumA s.area).sum=(l.map fun a=>3*sumA a).sum
 bad:∀ E t,badE E t (solidE l)↔∃ j,∃ h:j < l.length,3*((j:Int)+1)>t∧meetL l[j] E=true
theorem ajQ {out:List dw} {x:dw} (hz:x.z0 < x.z1) (h:∀ s∈out,s.z1<=x.z0) (ho:∀ s∈out,s.z0 < s.z1) (z:Int):atS (zW out x) z=if x.z0<=z∧z < x.z1 then x.area else atS out z:=by
 have app:∀ (o:List dw) (s:dw),atS (o++[s]) z=match o.find? fun x=>decide (x.z0<=z)&&decide (z < x.z1)with
  |some x=>x.area
  |none=>if s.z0<=z∧z < s.z1 then s.area else []:=fun o s=>by
  unfold atS;rw[List.find?_append];cases ho:o.find? fun x=>decide (x.z0<=z)&&decide (z < x.z1)with
  |some q=>rfl
  |none=>
   by_cases hc:s.z0<=z∧z < s.z1
   ·simp[hc]
   ·have:(decide (s.z0<=z)&&decide (z < s.z1))=false:=(by rw[Bool.and_eq_false_iff,bU,bU];omega);simp[this,hc]
 have none_of:∀ (o:List dw),(∀ s∈o,s.z1<=z∨z < s.z0)->o.find? (fun x=>decide (x.z0<=z)&&decide (z < x.z1))=none:=fun o ho=>by
  rw[List.find?_eq_none];intro s hs;have:=ho s hs;simp only[aK,aM];omega
 unfold zW;by_cases he:x.area=[]
 ·rw[aJ he];by_cases hc:x.z0<=z∧z < x.z1
  ·rw[aJ hc,he];unfold atS;rw[none_of out fun s hs=> .inl (by have:=h s hs;omega)]
  ·rw[aD hc]
 ·rw[aD he];rcases List.eq_nil_or_concat out with rfl |⟨o,q,e⟩
  ·have:=app [] x;simpa[atS]using this
  ·rw[List.concat_eq_append]at e;subst e;have gl:(o++[q]).getLast? =some q:=(by simp);have dl:(o++[q]).dropLast=o:=(by simp);have hq:=h q (by simp);have oq:=ho q (by simp);simp only[gl,dl];by_cases hm:q.z1=x.z0∧q.area=x.area
   ·rw[aJ hm,app,app];by_cases hc:x.z0<=z∧z < x.z1
    ·rw[aJ hc,none_of o fun s hs=> .inl (by have:=h s (List.mem_append_left _ hs);omega)];simp only;rw[aJ (by omega),hm.2]
    ·rw[aD hc];cases o.find? fun x=>decide (x.z0<=z)&&decide (z < x.z1)with
     |some s=>rfl
     |none=>
      simp only;by_cases hc2:q.z0<=z∧z < q.z1
      ·rw[aJ hc2,aJ (by omega)]
      ·rw[aD hc2,aD (by omega)]
   ·rw[aD hm,app];by_cases hc:x.z0<=z∧z < x.z1
    ·rw[aJ hc,none_of (o++[q]) fun s hs=> .inl (by have:=h s hs;omega)];simp only[aJ hc]
    ·simp only[aD hc];unfold atS;cases (o++[q]).find? fun x=>decide (x.z0<=z)&&decide (z < x.z1)with
     |some s=>rfl
     |none=>rfl
theorem ajR (out:List dw) (x:dw):((zW out x).map fun s=>(s.z1 - s.z0)*sumA s.area).sum=(out.map fun s=>(s.z1 - s.z0)*sumA s.area).sum+(x.z1 - x.z0)*sumA x.area:=by
 unfold zW;by_cases he:x.area=[]
 ·rw[aJ he,he];have:sumA []=0:=rfl;rw[this];omega
 ·rw[aD he];rcases List.eq_nil_or_concat out with rfl |⟨o,q,e⟩
  ·simp
  ·rw[List.concat_eq_append]at e;subst e;have gl:(o++[q]).getLast? =some q:=(by simp);have dl:(o++[q]).dropLast=o:=(by simp);simp only[gl,dl];by_cases hm:q.z1=x.z0∧q.area=x.area
   ·rw[aJ hm];simp only[map_append,bf,map_nil,JA];rw[hm.2,show x.z1 - q.z0=(q.z1 - q.z0)+(x.z1 - x.z0)by omega,Int.add_mul];omega
   ·rw[aD hm];simp only[map_append,bf,map_nil,JA]
theorem aiO:∀ (k:Nat) (l:List (List aj)),l.length=k->k<=12->(∀ a∈l,rightL a=true)->alA l
 | 0,l,hl,_,_=>by
  have:l=[]:=List.length_eq_zero_iff.1 hl;subst this;refine⟨fun s hs=>by simp[solidE,uw]at hs,fun i hi=>by simp[solidE,uw]at hi,by simp[solidE,uw],fun s hs=>by simp[solidE,uw]at hs,fun s hs=>by simp[solidE,uw]at hs,fun z=>?_,rfl,fun E t=>?_⟩
  ·have:¬ (0<=z∧z < 3*((([]:List (List aj)).length:Nat):Int)):=(by rw[length_nil];omega);rw[aD this];rfl
  ·constructor
   ·rintro⟨c,hc,_⟩;simp[solidE,uw]at hc
   ·rintro⟨j,h,_⟩;simp at h
 |k+1,l,hl,hk,hr=>by
  rcases List.eq_nil_or_concat l with rfl |⟨m,a,e⟩
  ·simp at hl
  ·rw[List.concat_eq_append]at e;subst e;have hm:m.length=k:=(by simpa using hl);have ih:=aiO k m hm (by omega) fun b hb=>hr b (List.mem_append_left _ hb);have ra:=hr a (by simp);rw[<- hm]at hk;have hz:(iF m.length a).z0 < (iF m.length a).z1:=(by simp only[iF];omega);have hx:(iF m.length a).area≠[]->UR (iF m.length a):=fun hne=>⟨by simp only[iF];omega,hz,by simp only[iF];omega,hne,ra⟩;have htop:∀ s∈solidE m,s.z1<=(iF m.length a).z0:=fun s hs=>ih.top s hs;obtain⟨p1,p2,p3,p4⟩:=ahk ih.ok ih.nx hx hz fun q hq=>htop q (List.mem_of_getLast? hq);have sn:=BN m a;have memput:∀ s∈zW (solidE m) (iF m.length a),s∈solidE m∨(s.z1=(iF m.length a).z1∧s.area=a):=by
    intro s hs;unfold zW at hs;split at hs
    ·exact .inl hs
    ·split at hs
     ·rename_i q hq;split at hs
      ·rename_i hmm;rcases aX.1 hs with h |h
       ·exact .inl ((List.dropLast_sublist _).mem h)
       ·rw[aO.1 h];exact .inr ⟨rfl,hmm.2⟩
      ·rcases aX.1 hs with h |h
       ·exact .inl h
       ·rw[aO.1 h];exact .inr ⟨rfl,rfl⟩
     ·rw[aO.1 hs];exact .inr ⟨rfl,rfl⟩
   have ll:(m++[a]).length=m.length+1:=(by simp);refine⟨by rw[sn];exact p1,by rw[sn];exact p2,?_,fun s hs=>?_,fun s hs=>?_,fun z=>?_,?_,fun E t=>?_⟩
   ·rw[sn,ll];have:=aiJ (solidE m) (iF m.length a);have:=ih.len;omega
   ·rw[sn]at hs;rw[ll];rcases memput s hs with h |⟨h,_⟩
    ·have:=ih.top s h;omega
    ·rw[h];simp only[iF];omega
   ·rw[sn]at hs;rcases memput s hs with h |⟨h,h2⟩
    ·obtain⟨j,hj,e1,e2⟩:=ih.src s h;exact⟨j,by omega,e1,by rw[e2,List.getElem_append_left hj]⟩
    ·exact⟨m.length,by omega,by rw[h];rfl,by rw[h2];simp⟩
   ·rw[sn,ajQ hz htop (fun s hs=>(ih.ok s hs).lt),ih.at_ z,ll];by_cases hc:(iF m.length a).z0<=z∧z < (iF m.length a).z1
    ·rw[aJ hc];have hc':3*(m.length:Int)<=z∧z < 3*((m.length:Int)+1):=hc;rw[aJ (by omega)];have:(z/3).toNat=m.length:=(by omega);rw[this];simp[iF]
    ·rw[aD hc];have hc':¬ (3*(m.length:Int)<=z∧z < 3*((m.length:Int)+1)):=hc;by_cases hc2:0<=z∧z < 3*(m.length:Int)
     ·rw[aJ hc2,aJ (by omega)];have:(z/3).toNat < m.length:=(by omega);simp only[List.getD_eq_getElem?_getD];rw[List.getElem?_append_left this]
     ·rw[aD hc2,aD (by omega)]
   ·rw[sn,ajR,ih.vol];simp only[map_append,bf,map_nil,JA,iF];rw[show 3*((m.length:Int)+1) - 3*(m.length:Int)=3 by omega]
   ·rw[sn,p4,ih.bad];constructor
    ·rintro (⟨j,hj,h1,h2⟩ |⟨h1,h2⟩)
     ·exact⟨j,by omega,h1,by rw[List.getElem_append_left hj];exact h2⟩
     ·exact⟨m.length,by omega,h1,by simp only[List.getElem_append_right (aU _),Nat.sub_self,List.getElem_cons_zero];exact h2⟩
    ·rintro⟨j,hj,h1,h2⟩;by_cases hjm:j < m.length
     ·exact .inl ⟨j,hjm,h1,by rw[List.getElem_append_left hjm]at h2;exact h2⟩
     ·have:j=m.length:=(by omega);subst this;simp only[List.getElem_append_right (aU _),Nat.sub_self,List.getElem_cons_zero]at h2;exact .inr ⟨h1,h2⟩
theorem uy {n:Nat} {l:List (List aj)} (hl:l.length<=12) (hr:∀ a∈l,rightL a=true) (hn:2000<=n):fO n l=some (solidE l,0):=by
 have lens:∀ a∈l,a.length<=200:=fun a ha=>(dV (hr a ha)).2.1;unfold fO;have d:decide (((l.length:Nat):Int)>12)=false:=by simp;omega
 rw[d,qR (fun a=>!rightL a) (fun a ha=>by
  have:=lens a ha;show jg n a=_;unfold jg;rw[oL (by omega) (by omega) (by omega)];rfl) (by omega) (by omega)]
 have na:(l.any fun a=>!rightL a)=false:=by
  rw[any_eq_false];intro a ha;rw[hr a ha];simp
 rw[na];simp only[aA,ah,length_nil,aC,au];have main:=d9 (step:=iq n l) (fun i=>(((i:Nat):Int),solidE (l.take i))) l.length (solidE l) (fun i hi=>?_) ?_ n (by omega)
 ·rw[show ((0:Nat):Int)=0 from rfl]at main;simp only[List.take_zero]at main;rw[show solidE []=[]from rfl]at main;rw[main];simp only[ah,bE,aC,au]
 ·have I:=aiO (l.take i).length (l.take i) rfl (by rw[length_take];omega) fun a ha=>hr a (List.mem_of_mem_take ha);have ti:(l.take i).length=i:=by rw[length_take];omega
  have sn:solidE (l.take (i+1))=zW (solidE (l.take i)) (iF i l[i]):=by rw[dW hi,BN,ti]
  have Il:=I.len;have Iok:=I.ok;have Itop:=I.top;rw[ti]at Il Itop;have la:=lens _ (getElem_mem hi);rw[sn];generalize solidE (l.take i)=out at*;have w3:i64.wrap (3*((i:Nat):Int))=3*(i:Int):=bB (by omega) (by omega);have w1:i64.wrap (((i:Nat):Int)+1)=(i:Int)+1:=bB (by omega) (by omega);have w31:i64.wrap (3*((i:Int)+1))=3*((i:Int)+1):=bB (by omega) (by omega);have z0:((((l[i]).length:Nat):Int)==0)=decide (l[i]=[]):=by rw[bJ,beq_iff_eq,aM,<- List.length_eq_zero_iff];omega
  have ap:bM out.length out.length (sub ([iF i l[i]]:List dw) 0 1).length 1 40=true:=bI (n:=1);have cl:=Dv (l:=l[i]) (by omega);unfold zW;by_cases he:l[i]=[]
  ·have d1:decide (l[i]=[])=true:=(by simpa using he);rw[aJ (show (iF i l[i]).area=[]from he)];simp only[iq,bG hi,au,aY hi,ah,z0,d1,aC,w1];rfl
  ·have d1:decide (l[i]=[])=false:=(by simpa using he);rw[aD (show ¬ (iF i l[i]).area=[]from he)];have new:∀ (v:Option Bool),v=some false->iq n l (((i:Nat):Int),out)=some (.inl (((i+1:Nat):Int),out++[iF i l[i]]))->True:=fun _ _ _=>trivial;rcases List.eq_nil_or_concat out with rfl |⟨o,q,e⟩
   ·have d5:decide (((([]:List dw).length:Nat):Int)>0)=false:=rfl;simp only[List.getLast?_nil];have ap0:bM ([]:List dw).length ([]:List dw).length (sub ([(dw.mk (3*(i:Int)) (3*((i:Int)+1)) l[i])]:List dw) 0 1).length 1 40=true:=ap;simp only[iq,bG hi,au,aY hi,ah,z0,d1,aA,d5,cl,bE,aC,w3,w1,w31,ap0,dH];rfl
   ·rw[List.concat_eq_append]at e;subst e;have lq:(o++[q]).length=o.length+1:=(by simp);have gl:(o++[q]).getLast? =some q:=(by simp);have dl:(o++[q]).dropLast=o:=(by simp);have d5:decide ((((o++[q]).length:Nat):Int)>0)=true:=(by rw[lq,aM];omega);have wl:i64.wrap ((((o++[q]).length:Nat):Int) - 1)=((o.length:Nat):Int):=(by rw[gB (by simp) (by omega),lq];rfl);have ib:inb ((o.length:Nat):Int) (o++[q]).length=true:=bC (by omega);have g:at? (o++[q]) (((0:Nat):Int)+((o.length:Nat):Int))=some q:=(by rw[gW];simp);have zz:(((0:Nat):Int)+((o.length:Nat):Int)).toNat=o.length:=(by simp);have oq:=Iok q (by simp);have qa:=(dV oq.rt).2.1;have hi4:=oq.hi;have hlo:=oq.lo;have hlt:=oq.lt;have wz:i64.wrap (q.z1+3)=q.z1+3:=bB (by omega) (by omega);have ap1:bM (o++[q]).length (o++[q]).length (sub ([(dw.mk (3*(i:Int)) (3*((i:Int)+1)) l[i])]:List dw) 0 1).length 1 40=true:=ap;have el:eqL (o++[q]).length (o++[(⟨q.z0,q.z1+3,q.area⟩:dw)]).length=true:=(by apply Zn;simp);have st:(o++[q]).set o.length (dw.mk q.z0 (q.z1+3) q.area)=o++[⟨q.z0,q.z1+3,q.area⟩]:=(by simp);simp only[gl,dl];simp only[iq,bG hi,au,aY hi,ah,z0,d1,aA,d5,wl,ib,g,w3,w1,w31,Dw (n:=n) (a:=q.area) (b:=l[i]) (by omega) (by omega),lU,zz,wz,st,el,cl,bE,aC,ap1,dH];by_cases hc1:q.z1=3*(i:Int)
    ·by_cases hc2:q.area=l[i]
     ·rw[aJ (show q.z1=(iF i l[i]).z0∧q.area=(iF i l[i]).area from⟨hc1,hc2⟩)];have b1:(q.z1==3*(i:Int))=true:=(by simpa using hc1);have b2:decide (q.area=l[i])=true:=(by simpa using hc2);rw[b1,b2];simp only[au,aC];rw[show q.z1+3=(iF i l[i]).z1 by simp only[iF];omega];rfl
     ·rw[aD (fun h=>hc2 h.2)];have b2:decide (q.area=l[i])=false:=(by simpa using hc2);rw[b2];cases q.z1==3*(i:Int)<;>simp only[au,aA,aC]<;>rfl
    ·rw[aD (fun h=>hc1 h.1)];have b1:(q.z1==3*(i:Int))=false:=(by simpa using hc1);rw[b1];simp only[au,aA,aC];rfl
 ·simp only[iq,fP,aA,aC,au,List.take_length]
theorem BO {l out:List Int} {i:Nat} (hi:i < l.length) (ho:out.length < 1099511627776):∀ (m k:Nat),k+m=out.length->∀ n,m < n->
 ∃ q,k<=q∧q<=out.length∧iter (kS l (i:Int) out) n (k:Int)=some (q:Int)∧(∀ j (h:j < out.length),k<=j->j < q->out[j] < l[i])∧(∀ h:q < out.length,¬ out[q] < l[i])
 | 0,k,hk,n,hn=>by
  obtain⟨n,rfl⟩:∃ g,n=g+1:=⟨n - 1,by omega⟩;have e:k=out.length:=by omega
  refine⟨k,aU _,by omega,bF ?_,fun j h h1 h2=>by omega,fun h=>by omega⟩;subst e;simp only[kS,fP,aA,ah]
 |m+1,k,hk,n,hn=>by
  obtain⟨n,rfl⟩:∃ g,n=g+1:=⟨n - 1,by omega⟩;have hkl:k < out.length:=by omega
  by_cases hlt:out[k] < l[i]
  ·obtain⟨q,q1,q2,q3,q4,q5⟩:=BO hi ho m (k+1) (by omega) n (by omega);have d:decide (out[k] < l[i])=true:=(by simpa using hlt);have st:kS l (i:Int) out (k:Int)=some (.inl ((k+1:Nat):Int)):=(by simp only[kS,bG hkl,au,bC hkl,dh hkl,ah,aY hi,d,bL k]);refine⟨q,by omega,q2,by rw[dK st,q3],fun j h h1 h2=>?_,q5⟩;by_cases e:j=k
   ·subst e;exact hlt
   ·exact q4 j h (by omega) h2
  ·have d:decide (out[k] < l[i])=false:=(by simpa using hlt);have st:kS l (i:Int) out (k:Int)=some (.inr (k:Int)):=(by simp only[kS,bG hkl,au,bC hkl,dh hkl,ah,aY hi,d,aA]);exact⟨k,aU _,by omega,bF st,fun j h h1 h2=>by omega,fun _=>hlt⟩
theorem Ke {n:Nat} {l:List Int} (hl:l.length < 10995116277) (hn:l.length+1 < n):zQ n l=some (uH l):=by
 unfold zQ;have lenS:∀ m:List Int,(uH m).length<=m.length:=fun m=>by
  have:=jk (gK (fun a b=>decide (a < b)) m);rw[dD]at this;exact this
 have key:iter (qL n l) n ((0:Int),([]:List Int))=some (uH l):=by
  have:=d9 (step:=qL n l) (fun i=>(((i:Nat):Int),uH (l.take i))) l.length (uH l) (fun i hi=>?_) ?_ n (by omega)
  ·simpa[uH,gK,fM]using this
  ·have hs:=rR (l.take i);have hm:∀ z,z∈uH (l.take i)↔z∈l.take i:=Dg _;have ho:=lenS (l.take i);rw[length_take]at ho;generalize uH (l.take i)=out at hs hm ho;have uq:∀ m:List Int,m.Pairwise (· < ·)->(∀ z,z∈m↔z∈out∨z=l[i])->m=uH (l.take (i+1)):=by
    intro m h1 h2;refine GQ h1 fun z=>?_;rw[h2,hm,dW hi,aX,aO]
   obtain⟨k,_,k1,k2,k3,k4⟩:=BO hi (out:=out) (by omega) out.length 0 (by omega) n (by omega);rw[show ((0:Nat):Int)=0 from rfl]at k2;have zk:(((k:Nat):Int)).toNat=k:=(by omega);have zk2:0+(((k:Nat):Int)).toNat=k:=(by omega);have tk:(out.take k).length=k:=(by rw[length_take];omega);have dk:(sub out k (out.length - k))=out.drop k:=(by unfold sub;rw[take_of_length_le (by rw[length_drop];omega)]);have dl:(out.drop k).length=out.length - k:=length_drop;have so1:yA 0 ((k:Nat):Int) out.length=true:=uY (by omega) (by omega) (by omega);have so2:yA ((k:Nat):Int) ((out.length:Nat):Int) out.length=true:=uY (by omega) (by omega) (by omega);have ap1:bM 0 0 k k 8=true:=bI (a:=0) (by omega) (by simp only[maxLen];omega);have s0:sub out 0 k=out.take k:=abW _ _;have sx:sub ([l[i]]:List Int) 0 1=[l[i]]:=rfl;have ap2:bM k k ([l[i]]:List Int).length 1 8=true:=bI (n:=1);have l2:(out.take k++[l[i]]).length=k+1:=(by rw[aZ,tk];rfl);have ap3:bM (k+1) (k+1) (out.length - k) (out.length - k) 8=true:=bI (by omega) (by simp only[maxLen];omega);have res:out.take k++[l[i]]++out.drop k=out.take k++l[i]::out.drop k:=(by rw[aQ];rfl);simp only[qL,bG hi,au,k2,ah,zk,Nat.zero_add,s0,sx,tk,dk,dl,so1,so2,ap1,dH,aY hi,ap2,l2,ap3,aC,res];by_cases hkl:k < out.length
   ·simp only[bG hkl,au,bC hkl,dh hkl,ah];by_cases he:out[k]=l[i]
    ·have d:(out[k]==l[i])=true:=(by simpa using he);simp only[d,au,ah,aC];rw[aN (by omega),<- uq out hs (fun z=>⟨fun h=> .inl h,fun h=>by
      rcases h with h |rfl
      ·exact h
      ·rw[<- he];exact getElem_mem _⟩)]
    ·have d:(out[k]==l[i])=false:=(by simpa using he);simp only[d,aA,ah,aC,au];rw[aN (by omega),<- uq (out.take k++l[i]::out.drop k) (KZ hs k1 (fun j hj hkj=>by
      have:=k4 hkl;by_cases e:j=k
      ·subst e;omega
      ·have:=U5 hs (show k < j by omega) hj;omega) (fun h0=>k3 (k - 1) (by omega) (by omega) (by omega))) (fun z=>ZW)]
   ·have e:k=out.length:=(by omega);have dlt:decide (((k:Nat):Int) < ((out.length:Nat):Int))=false:=(by rw[bU];omega);simp only[dlt,aA,ah,aC,au];rw[aN (by omega),<- uq (out.take k++l[i]::out.drop k) (KZ hs k1 (fun j hj hkj=>by omega) (fun h0=>k3 (k - 1) (by omega) (by omega) (by omega))) (fun z=>ZW)]
  ·simp only[qL,fP,aA,List.take_length,aC,au]
 rw[key];simp only[length_nil,aC,au,ah,bE]
def Nk (p:List bS) (i:Nat):Bool:=
 !Jy (ptA p i) || ((((dI p i).a_x==(dI p i).b_x)==((dI p i).a_y==(dI p i).b_y)) || (upP (dI p i)==upP (dI p ((i+1)%p.length))))
theorem ajS (p:List bS) (i:Nat):aeJ p i=(Nk p i || (decide (0 < i)&&!pI (ptA p 0) (ptA p i))):=rfl
theorem Vb {n:Nat} {p:List bS} (hl:p.length<=1000) (h2:2<=p.length) (hn:2000<=n):Bu n p=some (!((List.range p.length).any (Nk p))):=by
 unfold Bu;rw[uj p.length (Nk p) () false (fun i hi=>?_) (by simp only[zP,fP,aA]) n (by omega)]
 ·cases (List.range p.length).any (Nk p)<;>rfl
 ·have nz:(((p.length:Nat):Int) != 0)=true:=by simp;intro h;rw[h]at hi;simp at hi
  have m1:(i+1)%p.length < p.length:=Nat.mod_lt _ (by omega);have m2:(i+2)%p.length < p.length:=Nat.mod_lt _ (by omega);have w1:i64.wrap ((i:Int)+1)=((i+1:Nat):Int):=aN (by omega);have w2:i64.wrap ((i:Int)+2)=((i+2:Nat):Int):=by rw[bB (by omega) (by omega)];omega
  have e2:((i+1)%p.length+1)%p.length=(i+2)%p.length:=by rw[Nat.mod_add_mod]
  have g0:at? p ((i:Nat):Int)=some (ptA p i):=by rw[aY hi,<- kF]
  have g1:at? p (((i+1)%p.length:Nat):Int)=some (ptA p ((i+1)%p.length)):=by rw[aY m1,<- kF]
  have g2:at? p (((i+2)%p.length:Nat):Int)=some (ptA p ((i+2)%p.length)):=by rw[aY m2,<- kF]
  simp only[zP,bG hi,au,w1,w2,nz,Dy,g0,g1,g2,ah,lU,Option.map_some,bL i];have hb:(bif decide ((ptA p i).x < 0)then true else bif decide ((ptA p i).x>1048576)then true else bif decide ((ptA p i).y < 0)then true else bif decide ((ptA p i).y>1048576)then true else bif ((ptA p i).x==(ptA p ((i+1)%p.length)).x)==((ptA p i).y==(ptA p ((i+1)%p.length)).y)then true else ((ptA p i).x==(ptA p ((i+1)%p.length)).x)==((ptA p ((i+1)%p.length)).x==(ptA p ((i+2)%p.length)).x))=Nk p i:=by
   unfold Nk Jy upP dI;simp only[e2];have a1:decide ((ptA p i).x < 0)=!decide (0<=(ptA p i).x):=(by rw[<- decide_not];congr 1;rw[eq_iff_iff];omega);have a2:decide ((ptA p i).x>1048576)=!decide ((ptA p i).x<=1048576):=(by rw[<- decide_not];congr 1;rw[eq_iff_iff];omega);have a3:decide ((ptA p i).y < 0)=!decide (0<=(ptA p i).y):=(by rw[<- decide_not];congr 1;rw[eq_iff_iff];omega);have a4:decide ((ptA p i).y>1048576)=!decide ((ptA p i).y<=1048576):=(by rw[<- decide_not];congr 1;rw[eq_iff_iff];omega);rw[a1,a2,a3,a4];cases decide (0<=(ptA p i).x)<;>cases decide ((ptA p i).x<=1048576)<;>cases decide (0<=(ptA p i).y)<;>cases decide ((ptA p i).y<=1048576)<;>cases ((ptA p i).x==(ptA p ((i+1)%p.length)).x)==((ptA p i).y==(ptA p ((i+1)%p.length)).y)<;>rfl
  rw[hb]
theorem acD (a b:bS):MJ a b=some (pI a b):=by
 unfold MJ pI;simp only[lU];cases decide (a.x < b.x)<;>cases a.x==b.x<;>rfl
theorem acE (a b c d:bS):MK a b c d=some (xP ⟨a.x,a.y,b.x,b.y⟩ ⟨c.x,c.y,d.x,d.y⟩):=by
 unfold MK xP;simp only[lU];cases decide (max (min a.x b.x) (min c.x d.x)<=min (max a.x b.x) (max c.x d.x))<;>rfl
def aiP (p:List bS) (i k:Nat):Bool:=(!decide ((k+1)%p.length=i))&&xP (dI p i) (dI p k)
theorem aiQ {p:List bS} {i k:Nat} (hk:k < p.length) (h:i+2<=k):aiP p i k=ug p i k:=by
 unfold aiP ug;congr 1;rw[<- decide_not];congr 1;rw[eq_iff_iff];by_cases e:k+1=p.length
 ·rw[e,Nat.mod_self];omega
 ·rw[Nat.mod_eq_of_lt (by omega)];omega
theorem Py {n:Nat} {p:List bS} (hl:p.length<=1000) (hn:2000<=n) {i:Nat} (hi:i < p.length):
 iter (mR p ((i:Nat):Int)) n (((i+2:Nat):Int))=some (bif (List.range p.length).any fun k=>decide (i+2<=k)&&ug p i k then .inr (.inr (.inr false))else .inl ()):=by
 have st:∀ k,k < p.length->i+2<=k->mR p ((i:Nat):Int) ((k:Nat):Int)=some (bif ug p i k then .inr (.inr (.inr (.inr false)))else .inl ((k+1:Nat):Int)):=by
  intro k hk hik;have nz:(((p.length:Nat):Int) != 0)=true:=by simp;intro h;rw[h]at hi;simp at hi
  have m1:(k+1)%p.length < p.length:=Nat.mod_lt _ (by omega);have g0:at? p ((i:Nat):Int)=some (ptA p i):=by rw[aY hi,<- kF]
  have g1:at? p ((i+1:Nat):Int)=some (ptA p (i+1)):=by rw[aY (by omega),<- kF]
  have g2:at? p ((k:Nat):Int)=some (ptA p k):=by rw[aY hk,<- kF]
  have g3:at? p (((k+1)%p.length:Nat):Int)=some (ptA p ((k+1)%p.length)):=by rw[aY m1,<- kF]
  have w1:i64.wrap ((k:Int)+1)=((k+1:Nat):Int):=aN (by omega);have w2:i64.wrap ((i:Int)+1)=((i+1:Nat):Int):=aN (by omega);have ne:((((k+1)%p.length:Nat):Int) != ((i:Nat):Int))=!decide ((k+1)%p.length=i):=by rw[<- decide_not,bJ,bne_iff_ne,aM];omega
  have cr:xP ⟨(ptA p i).x,(ptA p i).y,(ptA p (i+1)).x,(ptA p (i+1)).y⟩ ⟨(ptA p k).x,(ptA p k).y,(ptA p ((k+1)%p.length)).x,(ptA p ((k+1)%p.length)).y⟩=xP (dI p i) (dI p k):=by
   unfold dI;rw[Nat.mod_eq_of_lt (show i+1 < p.length by omega)]
  rw[<- aiQ hk hik];simp only[mR,bG hk,au,nz,w1,w2,Dy,ne,g0,g1,g2,g3,ah,acE,cr,lU,Option.map_some];unfold aiP;cases (!decide ((k+1)%p.length=i))<;>cases xP (dI p i) (dI p k)<;>rfl
 have main:∀ m k,k+m=p.length->i+2<=k->∀ f,m < f->iter (mR p ((i:Nat):Int)) f ((k:Nat):Int)=some (bif (List.range p.length).any fun j=>decide (k<=j)&&ug p i j then .inr (.inr (.inr false))else .inl ()):=by
  intro m
  induction m with
  |zero=>
   intro k hk hik f hf;obtain⟨f,rfl⟩:∃ g,f=g+1:=⟨f - 1,by omega⟩;have:k=p.length:=(by omega);subst this;have e:((List.range p.length).any fun j=>decide (p.length<=j)&&ug p i j)=false:=by
    rw[Bool.eq_false_iff];intro h;rw[any_eq_true]at h;obtain⟨j,h1,h2⟩:=h;rw[List.mem_range]at h1;simp only[aK,aM]at h2;omega
   rw[e];refine bF ?_;simp only[mR,fP,aA]
  |succ m ih=>
   intro k hk hik f hf;obtain⟨f,rfl⟩:∃ g,f=g+1:=⟨f - 1,by omega⟩;have hkl:k < p.length:=(by omega);have h1:=st k hkl hik;cases hb:ug p i k with
   |true=>
    rw[hb]at h1;have e:((List.range p.length).any fun j=>decide (k<=j)&&ug p i j)=true:=by
     rw[any_eq_true];exact⟨k,List.mem_range.2 hkl,by simp[hb]⟩
    rw[e];exact bF h1
   |false=>
    rw[hb]at h1;rw[dK h1,ih (k+1) (by omega) (by omega) f (by omega)];congr 2;rw[bJ,any_eq_true,any_eq_true];constructor
    ·rintro⟨j,j1,j2⟩;simp only[aK,aM]at j2;exact⟨j,j1,by simp only[aK,aM];exact⟨by omega,j2.2⟩⟩
    ·rintro⟨j,j1,j2⟩;simp only[aK,aM]at j2;refine⟨j,j1,?_⟩;simp only[aK,aM];refine⟨?_,j2.2⟩;rcases Nat.lt_or_ge k j with h |h
     ·omega
     ·have:j=k:=(by omega);subst this;rw[hb]at j2;simp at j2
 by_cases h2:i+2<=p.length
 ·exact main (p.length - (i+2)) (i+2) (by omega) (aU _) n (by omega)
 ·obtain⟨n,rfl⟩:∃ g,n=g+1:=⟨n - 1,by omega⟩;have e:((List.range p.length).any fun j=>decide (i+2<=j)&&ug p i j)=false:=by
   rw[Bool.eq_false_iff];intro h;rw[any_eq_true]at h;obtain⟨j,h1,h2⟩:=h;rw[List.mem_range]at h1;simp only[aK,aM]at h2;omega
  rw[e];have d:decide (((i+2:Nat):Int) < ((p.length:Nat):Int))=false:=by rw[bU];omega
  refine bF ?_;simp only[mR,d,aA]
theorem Pz {n:Nat} {p:List bS} (hl:p.length<=1000) (hn:2000<=n):iter (yP n p) n (0:Int)=some (bif (List.range p.length).any fun i=>(decide (0 < i)&&!pI (ptA p 0) (ptA p i)) || (List.range p.length).any fun k=>decide (i+2<=k)&&ug p i k then .inr false else .inl ()):=by
 refine uj p.length _ () false (fun i hi=>?_) (by simp only[yP,fP,aA]) n (by omega);have w2:i64.wrap ((i:Int)+2)=((i+2:Nat):Int):=by rw[bB (by omega) (by omega)];omega
 have g3:at? p 0=some (ptA p 0):=by rw[Zm (by omega),<- kF]
 have g4:at? p ((i:Nat):Int)=some (ptA p i):=by rw[aY hi,<- kF]
 have dz:decide (((i:Nat):Int)>0)=decide (0 < i):=by rw[bJ];simp
 simp only[yP,bG hi,au,g3,g4,dz,ah,acD,lU,w2,Py hl hn hi,Option.map_some,bL i];cases decide (0 < i)<;>cases pI (ptA p 0) (ptA p i)<;>cases (List.range p.length).any fun k=>decide (i+2<=k)&&ug p i k<;>rfl
theorem aiR {α:Type} (p q:α->Bool) (l:List α):(l.any fun x=>p x || q x)=(l.any p || l.any q):=by
 induction l with
 |nil=>rfl
 |cons x l ih=>rw[List.any_cons,List.any_cons,List.any_cons,ih];cases p x<;>cases q x<;>simp
theorem ZY {n:Nat} (p:List bS) (hn:2000<=n):Jo n p=some (vg p):=by
 unfold Jo vg;by_cases h4:p.length < 4
 ·have d1:decide (((p.length:Nat):Int) < 4)=true:=by simp;omega
  have d2:decide (4<=p.length)=false:=by simp;omega
  rw[d1,d2];rfl
 ·have d1:decide (((p.length:Nat):Int) < 4)=false:=by simp;omega
  have d2:decide (4<=p.length)=true:=by simp;omega
  by_cases h60:p.length>60
  ·have d3:decide (((p.length:Nat):Int)>60)=true:=(by simp;omega);have d4:decide (p.length<=60)=false:=(by simp;omega);rw[d1,d2,d3,d4];rfl
  ·have d3:decide (((p.length:Nat):Int)>60)=false:=(by simp;omega);have d4:decide (p.length<=60)=true:=(by simp;omega);have g0:at? p 0=some (ptA p 0):=(by rw[Zm (by omega),<- kF]);have g1:at? p 1=some (ptA p 1):=by
    have:=aY (l:=p) (i:=1) (by omega);rw[<- kF]at this;exact this
   rw[d1,d2,d3,d4];simp only[aA,ah,Vb (n:=n) (p:=p) (by omega) (by omega) hn,g0,g1,lU,Pz (n:=n) (p:=p) (by omega) hn,Bool.true_and];have e1:(List.range p.length).any (aeJ p)=((List.range p.length).any (Nk p) || (List.range p.length).any fun i=>decide (0 < i)&&!pI (ptA p 0) (ptA p i)):=(by rw[<- aiR];rfl);have e2:(List.range p.length).any (fun i=>(decide (0 < i)&&!pI (ptA p 0) (ptA p i)) || (List.range p.length).any fun k=>decide (i+2<=k)&&ug p i k)=((List.range p.length).any (fun i=>decide (0 < i)&&!pI (ptA p 0) (ptA p i)) || (List.range p.length).any fun i=>(List.range p.length).any fun k=>decide (i+2<=k)&&ug p i k):=aiR _ _ _;rw[e1,e2];cases hC:(List.range p.length).any (Nk p)with
   |true=>rfl
   |false=>
    have h0:Nk p 0=false:=by
     rw[any_eq_false]at hC;have:=hC 0 (List.mem_range.2 (by omega));simpa using this
    have hs:dI p 0=⟨(ptA p 0).x,(ptA p 0).y,(ptA p 1).x,(ptA p 1).y⟩:=(by unfold dI;rw[Nat.zero_add,Nat.mod_eq_of_lt (show 1 < p.length by omega)]);have hx:((ptA p 0).y != (ptA p 1).y)=upP (dI p 0):=by
     unfold Nk at h0;simp only[Bool.or_eq_false_iff]at h0;have:=h0.2.1;rw[hs]at this ⊢;unfold upP;simp only at this ⊢;cases hx:(ptA p 0).x==(ptA p 1).x<;>cases hy:(ptA p 0).y==(ptA p 1).y<;>rw[hx,hy]at this<;>simp_all [bne]
    rw[hx];simp only[Bool.not_false,Bool.not_true,aA,Bool.false_or];cases upP (dI p 0)<;>cases (List.range p.length).any (fun i=>decide (0 < i)&&!pI (ptA p 0) (ptA p i))<;>cases (List.range p.length).any fun i=>(List.range p.length).any fun k=>decide (i+2<=k)&&ug p i k<;>rfl
theorem Q0 {p:List bS} (h:vg p=true):(4<=p.length∧p.length<=60)∧(∀ i,i < p.length->Nk p i=false)∧∀ i k,i < p.length->k < p.length->i+2<=k->ug p i k=false:=by
 have hl:=KU h;unfold vg at h;simp only[aK,Bool.not_eq_true',any_eq_false]at h;obtain⟨_,_,h1,h2,_⟩:=h;refine⟨hl,fun i hi=>?_,fun i k hi hk hik=>?_⟩
 ·have:=h1 i (List.mem_range.2 hi);rw[ajS]at this;cases hb:Nk p i with
  |false=>rfl
  |true=>rw[hb]at this;simp at this
 ·have:=h2 i (List.mem_range.2 hi);cases hb:ug p i k with
  |false=>rfl
  |true=>
   exfalso;apply this;rw[any_eq_true];exact⟨k,List.mem_range.2 hk,by simp[hb,hik]⟩
theorem K4 {p:List bS} {i:Nat} (h:Nk p i=false):((dI p i).a_y==(dI p i).b_y)=!upP (dI p i)∧upP (dI p i)≠upP (dI p ((i+1)%p.length)):=by
 unfold Nk at h;simp only[Bool.or_eq_false_iff]at h;obtain⟨_,h1,h2⟩:=h;refine⟨?_,by simpa using h2⟩;unfold upP;cases hx:(dI p i).a_x==(dI p i).b_x<;>cases hy:(dI p i).a_y==(dI p i).b_y<;>rw[hx,hy]at h1<;>simp_all
def Iq (p:List bS) (x:Int) (i:Nat):Bool:=!upP (dI p i)&&(decide (min (dI p i).a_x (dI p i).b_x<=x)&&decide (x < max (dI p i).a_x (dI p i).b_x))
theorem Nl (p:List bS) (x:Int):mW p x=((List.range p.length).filter (Iq p x)).map fun i=>(dI p i).a_y:=by
 unfold mW fV;rw[List.filter_map,List.map_map];rfl
theorem Z0 {p:List bS} (h:vg p=true) (x:Int):(mW p x).Pairwise (· ≠ ·):=by
 obtain⟨⟨l4,l60⟩,hC,h2⟩:=Q0 h;rw[Nl,List.pairwise_map];refine (List.Pairwise.and_mem.1 ((List.pairwise_lt_range (n:=p.length)).filter (Iq p x))).imp fun {i k} hik=>?_;obtain⟨mi,mk,hlt⟩:=hik;obtain⟨ri,ci⟩:=mem_filter.1 mi;obtain⟨rk,ck⟩:=mem_filter.1 mk;rw[List.mem_range]at ri rk;unfold Iq at ci ck;simp only[aK,Bool.not_eq_true',aM]at ci ck;obtain⟨fi,ci1,ci2⟩:=ci;obtain⟨fk,ck1,ck2⟩:=ck;obtain⟨yi,ai⟩:=K4 (hC i ri);obtain⟨yk,ak⟩:=K4 (hC k rk);intro hy;by_cases e1:k=i+1
 ·subst e1;rw[Nat.mod_eq_of_lt rk,fi,fk]at ai;exact ai rfl
 ·by_cases e2:i=0∧k+1=p.length
  ·rw[e2.2,Nat.mod_self,fk]at ak;rw[e2.1]at fi;exact ak fi.symm
  ·have hb:=h2 i k ri rk (by omega);unfold ug at hb;have hd:decide (i+p.length - k>1)=true:=(by simp;omega);rw[hd,Bool.true_and]at hb;rw[fi]at yi;rw[fk]at yk;have yi':(dI p i).a_y=(dI p i).b_y:=(by simpa using yi);have yk':(dI p k).a_y=(dI p k).b_y:=(by simpa using yk);have:xP (dI p i) (dI p k)=true:=by
    unfold xP;simp only[aK,aM];omega
   rw[hb]at this;cases this
theorem ahr {l:List Int} (h:l.Pairwise (· ≠ ·)):gK ltI l=uH l:=by
 refine GQ ?_ fun z=>(E8 ltI l).mem_iff;have hs:=isort_sorted MQ l;have hp:=((E8 ltI l).pairwise_iff (fun {a b} (h:a≠b)=>h.symm)).2 h;refine (hs.and hp).imp fun {a b} hab=>?_;obtain⟨h1,h2⟩:=hab;simp only[ltI,bU]at h1;omega
theorem acF {n:Nat} {p:List bS} (h:vg p=true) (x:Int) (hn:2000<=n):ML n p x=some (gK ltI (mW p x)):=by
 obtain⟨⟨l4,l60⟩,hC,_⟩:=Q0 h;have cl:=zV p x;unfold ML
 have:=cZ (l:=List.range p.length) (step:=Bv p x) (fun i (s:List Int)=>((i:Int),s)) (fun i s=>bif Iq p x i then s++[(dI p i).a_y]else s) (fun s=>s) (fun i s=>s.length<=i)
  (fun j hj s hs=>?_) (fun s hs=>by rw[List.length_range];simp[Bv]) n (by rw[List.length_range];omega) [] (aU _)
 ·rw[show ((0:Nat):Int)=0 from rfl]at this;have gen:∀ (ys:List Nat) (s:List Int),ys.foldl (fun s i=>bif Iq p x i then s++[(dI p i).a_y]else s) s=s++(ys.filter (Iq p x)).map fun i=>(dI p i).a_y:=by
   intro ys
   induction ys with
   |nil=>intro s;simp
   |cons y ys ih=>
    intro s;rw[foldl_cons,ih,List.filter_cons];cases Iq p x y<;>simp
  rw[gen,cu,<- Nl]at this;simp only[length_nil,aC,au,this,ah,bE];rw[Ke (by omega) (by omega),ahr (Z0 h x)];simp only[ah,bE,aC,au]
 ·rw[List.length_range]at hj;rw[List.getElem_range];have nz:(((p.length:Nat):Int) != 0)=true:=by simp;intro h;rw[h]at hj;simp at hj
  have m1:(j+1)%p.length < p.length:=Nat.mod_lt _ (by omega);have w1:i64.wrap ((j:Int)+1)=((j+1:Nat):Int):=aN (by omega);have g0:at? p ((j:Nat):Int)=some (ptA p j):=by rw[aY hj,<- kF]
  have g1:at? p (((j+1)%p.length:Nat):Int)=some (ptA p ((j+1)%p.length)):=by rw[aY m1,<- kF]
  have fl:((ptA p j).y==(ptA p ((j+1)%p.length)).y)=!upP (dI p j):=(K4 (hC j hj)).1;have ap:bM s.length s.length (sub ([(ptA p j).y]:List Int) 0 1).length 1 8=true:=bI (n:=1);simp only[Bv,bG hj,au,w1,nz,Dy,g0,g1,ah,fl,lU,ap,dH,aC];unfold Iq;rw[show (dI p j).a_x=(ptA p j).x from rfl,show (dI p j).b_x=(ptA p ((j+1)%p.length)).x from rfl,show (dI p j).a_y=(ptA p j).y from rfl];cases upP (dI p j)<;>cases decide (min (ptA p j).x (ptA p ((j+1)%p.length)).x<=x)<;>cases decide (x < max (ptA p j).x (ptA p ((j+1)%p.length)).x)<;>refine⟨rfl,?_⟩<;>simp<;>omega
theorem Nn {n:Nat} (es:List Int) (i:Nat) (hi:i+1 < es.length) (he:es.length<=10000) (r8:List Int) (hr:r8.length<=1000) (out:List aj) (ho:out.length<=10000000) (hn:2000<=n):
 iter (nK es ((i:Nat):Int) r8) n ((0:Int),out)=some (out++rX (es[i]'(by omega)) es[i+1] r8):=by
 have main:∀ (m k:Nat) (out:List aj),k+m=r8.length->out.length<=10000000+k->∀ f,m < f->iter (nK es ((i:Nat):Int) r8) f (((k:Nat):Int),out)=some (out++rX (es[i]'(by omega)) es[i+1] (r8.drop k)):=by
  intro m
  induction m using Nat.strongRecOn with
  |ind m ih=>
   intro k out hk hko f hf;obtain⟨f,rfl⟩:∃ g,f=g+1:=⟨f - 1,by omega⟩;have w1:i64.wrap ((k:Int)+1)=((k+1:Nat):Int):=aN (by omega);have w3:i64.wrap ((k:Int)+2)=((k+2:Nat):Int):=(by rw[bB (by omega) (by omega)];omega);have w4:i64.wrap ((i:Int)+1)=((i+1:Nat):Int):=aN (by omega);by_cases h2:k+1 < r8.length
   ·have d:decide (((k+1:Nat):Int) < ((r8.length:Nat):Int))=true:=bG h2;have ap:bM out.length out.length (sub ([(aj.mk (es[i]'(by omega)) (r8[k]'(by omega)) es[i+1] r8[k+1])]:List aj) 0 1).length 1 32=true:=bI (n:=1);have st:nK es ((i:Nat):Int) r8 (((k:Nat):Int),out)=some (.inl (((k+2:Nat):Int),out++[aj.mk (es[i]'(by omega)) (r8[k]'(by omega)) es[i+1] r8[k+1]])):=by
     simp only[nK,w1,w3,w4,d,au,bC (show i < es.length by omega),dh (show i < es.length by omega),ah,bC (show k < r8.length by omega),dh (show k < r8.length by omega),bC hi,dh hi,bC h2,dh h2,ap,dH,aC];rfl
    have dr:r8.drop k=r8[k]::r8[k+1]::r8.drop (k+2):=(by rw[drop_eq_getElem_cons (by omega),drop_eq_getElem_cons h2]);rw[dK st,ih (m - 2) (by omega) (k+2) _ (by omega) (by rw[aZ,length_singleton];omega) f (by omega),dr];simp[rX]
   ·have d:decide (((k+1:Nat):Int) < ((r8.length:Nat):Int))=false:=(by rw[bU];omega);have e:rX (es[i]'(by omega)) es[i+1] (r8.drop k)=[]:=by
     have hl:(r8.drop k).length<=1:=by rw[length_drop];omega
     match r8.drop k,hl with
     |[],_=>rfl
     |[_],_=>rfl
     |_::_::_,h=>simp at h
    rw[e,append_nil];refine bF ?_;simp only[nK,w1,d,aA,aC,au]
 have:=main r8.length 0 out (by omega) (by omega) n (by omega);rw[show ((0:Nat):Int)=0 from rfl,List.drop_zero]at this;exact this
theorem Np {n:Nat} {p:List bS} (hl:p.length<=1000) (hn:2000<=n):iter (Cg p) n ((0:Int),([]:List Int))=some (p.map (·.x)):=by
 have e:Cg p=jc p:=by funext ⟨a,b⟩;rfl
 rw[e,uS hl hn]
theorem Ww {n:Nat} (p:List bS) (hn:2000<=n):ET n p=some (nX p):=by
 unfold ET nX;rw[ZY p hn];simp only[ah];cases hr:vg p with
 |false=>rfl
 |true=>
  obtain⟨_,hl⟩:=KU hr;have hx:=agw p;simp only[Bool.not_true,aA,length_nil,aC,au,Np (n:=n) (p:=p) (by omega) hn,ah,bE,if_true];rw[Ke (by rw[length_map];omega) (by rw[length_map];omega)];simp only[ah];rw[show uH (p.map (·.x))=xsP p from rfl];obtain⟨p1,p2⟩:=jO (fun a b=>rX a b (gK ltI (mW p a))) (xsP p)
  let C:=gX (fun a b=>rX a b (gK ltI (mW p a))) (xsP p)
  have hC:C.length=(xsP p).length - 1:=p1;have cl:∀ c∈C,c.length<=1000:=by
   intro c hc;obtain⟨i,hi,rfl⟩:=mem_iff_getElem.1 hc;have:=p2 i (by omega) hi;show (C[i]).length<=1000;rw[show C[i]=_ from this];have h1:=Pe (xsP p)[i] (xsP p)[i+1] (gK ltI (mW p (xsP p)[i]));rw[dD]at h1;have h2:=zV p (xsP p)[i];omega
  have bl:∀ i,((C.take i).flatten).length<=1000*1000:=by
   intro i;have h1:=ul 1000 (C.take i) fun x hx=>cl x (List.mem_of_mem_take hx);have h2:(C.take i).length<=1000:=(by rw[length_take];omega);exact Nat.le_trans h1 (Nat.mul_le_mul_right _ h2)
  have key:iter (qM n p (xsP p)) n ((0:Int),([]:List aj))=some (FO p):=by
   have main:=d9 (step:=qM n p (xsP p)) (fun i=>(((i:Nat):Int),(C.take i).flatten)) C.length (FO p) (fun i hi=>?_) ?_ n (by omega)
   ·simpa using main
   ·have hi2:i+1 < (xsP p).length:=(by omega);have w1:i64.wrap ((i:Int)+1)=((i+1:Nat):Int):=aN (by omega);have bi:=bl i;have cr:=zV p (xsP p)[i];have e:C.take (i+1)=C.take i++[rX (xsP p)[i] (xsP p)[i+1] (gK ltI (mW p (xsP p)[i]))]:=by
     rw[dW hi];congr 2;exact p2 i hi2 hi
    simp only[qM,w1,bG hi2,au,bC (show i < (xsP p).length by omega),dh (show i < (xsP p).length by omega),ah,acF hr _ hn,aC];rw[Nn (xsP p) i hi2 (by omega) (gK ltI (mW p (xsP p)[i])) (by rw[dD];omega) _ (by omega) hn];simp only[ah,aC,au,e,List.flatten_append,List.flatten_cons,List.flatten_nil,append_nil]
   ·have w1:i64.wrap ((C.length:Int)+1)=((C.length+1:Nat):Int):=aN (by omega);have d:decide (((C.length+1:Nat):Int) < (((xsP p).length:Nat):Int))=false:=(by rw[bU];omega);simp only[qM,w1,d,aA,aC,au,List.take_length];rfl
  rw[key];simp only[ah,bE,aC,au];by_cases h200:(FO p).length>200
  ·have:decide ((((FO p).length:Nat):Int)>200)=true:=(by simp;omega);rw[this,aJ h200];rfl
  ·have:decide ((((FO p).length:Nat):Int)>200)=false:=(by simp;omega);rw[this,aD h200];rfl
theorem akC {a b c:Bool} (h:(a&&(b&&c))=true):c=true:=by revert h;cases c<;>simp
theorem uz (r:aj):nL r=some (OkR r):=by
 have e:∀ a b:Int,Hl a b=some (decide (a>=0)&&(decide (a < b)&&decide (b<=1048576))):=fun a b=>by unfold Hl;cases decide (a>=0)<;>cases decide (a < b)<;>rfl
 unfold nL;rw[e,e];simp only[ah];have:OkR r=((decide (r.x0>=0)&&(decide (r.x0 < r.x1)&&decide (r.x1<=1048576)))&&(decide (r.y0>=0)&&(decide (r.y0 < r.y1)&&decide (r.y1<=1048576)))):=by rw[bJ,jA];simp only[aK,aM];first |done |omega
 rw[this];cases (decide (r.x0>=0)&&(decide (r.x0 < r.x1)&&decide (r.x1<=1048576)))<;>rfl
theorem PD (a b:aj):vY a b=some (bif OkR a&&(OkR b&&OkR (dJ a b))then (dJ a b,true)else (⟨0,0,0,0⟩,false)):=by
 unfold vY;rw[show aj.mk (max a.x0 b.x0) (max a.y0 b.y0) (min a.x1 b.x1) (min a.y1 b.y1)=dJ a b from rfl];simp only[uz,ah];generalize OkR (dJ a b)=c;cases OkR a<;>cases OkR b<;>cases c<;>rfl
theorem acG {r:aj} (h:OkR r=true):MN r=some (QV r):=by
 unfold MN;rw[uz,h];rfl
theorem Nq {n:Nat} (a b:List aj) {i:Nat} (hi:i < a.length) (hb:b.length<=1000) (hn:2000<=n) (m:Int):iter (qN a b (i:Int)) n (m,(0:Int))=some (b.foldl (F9 a[i]) m):=by
 have:=zb (l:=b) (step:=qN a b (i:Int)) (fun k (s:Int)=>(s,((k:Nat):Int))) (fun y s=>F9 a[i] s y) (fun s=>s) (fun k hk s=>?_) (fun s=>by simp[qN]) n (by omega) m
 ·rw[show ((0:Nat):Int)=0 from rfl]at this;exact this
 ·simp only[qN,bG hk,au,aY hi,aY hk,ah,PD,bL k];have e0:F9 a[i] s b[k]=bif OkR a[i]&&(OkR b[k]&&OkR (dJ a[i] b[k]))then i64.wrap (s+QV (dJ a[i] b[k]))else s:=rfl;rw[e0];cases hc:OkR a[i]&&(OkR b[k]&&OkR (dJ a[i] b[k]))with
  |false=>rfl
  |true=>
   have hcc:OkR (dJ a[i] b[k])=true:=akC hc;simp only[au,acG hcc,ah]
theorem Wx {n:Nat} (a b:List aj) (ha:a.length<=1000) (hb:b.length<=1000) (hn:2000<=n):EU n a b=some (nY a b):=by
 unfold EU nY;have:=zb (l:=a) (step:=vZ n a b) (fun k (s:Int)=>(s,((k:Nat):Int))) (fun x s=>b.foldl (F9 x) s) (fun s=>s) (fun k hk s=>?_) (fun s=>by simp[vZ]) n (by omega) 0
 ·rw[show ((0:Nat):Int)=0 from rfl]at this;rw[this];rfl
 ·simp only[vZ,bG hk,au,Nq a b hk hb hn,ah,bL k]
theorem Z4 {n:Nat} (z:l8) (hn:2000<=n):Jp n z=some (oO z):=by
 unfold Jp oO;rw[Ww _ hn];simp only[ah,bE,aC,au];by_cases h:(nX z.corners).2=0
 ·have:((nX z.corners).2 != 0)=false:=by simp[h]
  rw[this,aJ h];rfl
 ·have:((nX z.corners).2 != 0)=true:=by simp[h]
  rw[this,aD h];rfl
theorem Wy {n:Nat} (p:lg) (a:List aj) (hz:p.zones.length<=100) (ha:a.length<=900) (hn:50000<=n):EW n p a=some (nZ p.zones a):=by
 unfold EW nZ;rw[lZ (by omega) hn];simp only[ah];cases rightL a with
 |false=>rfl
 |true=>
  have:=cZ (l:=p.zones) (step:=wh n p a) (fun i (s:List Int)=>((i:Int),s)) (fun z s=>s++[nY a (oO z)]) (fun s=>s) (fun i s=>s.length<=i)
   (fun i hi s hs=>?_) (fun s hs=>by simp[wh]) n (by omega) [] (aU _)
  ·rw[show ((0:Nat):Int)=0 from rfl]at this;simp only[Bool.not_true,aA,length_nil,aC,au,this,ah,bE];congr 1;have gen:∀ (ys:List l8) (s:List Int),ys.foldl (fun s z=>s++[nY a (oO z)]) s=s++ys.map fun z=>nY a (oO z):=by
    intro ys
    induction ys with
    |nil=>intro s;simp
    |cons y ys ih=>intro s;rw[foldl_cons,ih];simp
   exact gen p.zones []
  ·have cl:=KV p.zones[i];have hq:=Wx (n:=n) a (oO p.zones[i]) (by omega) (by omega) (by omega);have ap:bM s.length s.length (sub ([nY a (oO p.zones[i])]:List Int) 0 1).length 1 8=true:=bI (n:=1);simp only[wh,bG hi,au,aY hi,ah,Z4 _ (show 2000<=n by omega),bE,aC,hq,ap,dH];refine⟨?_,by simp;omega⟩;rw[aN (by omega)];rfl
theorem acH {r:aj} (h:OkR r=true):0<=QV r∧QV r<=1099511627776:=by
 rw[jA]at h;unfold QV;have e1:i64.wrap (r.x1 - r.x0)=r.x1 - r.x0:=bB (by omega) (by omega);have e2:i64.wrap (r.y1 - r.y0)=r.y1 - r.y0:=bB (by omega) (by omega);have h1:0<=(r.x1 - r.x0)*(r.y1 - r.y0):=Int.mul_nonneg (by omega) (by omega);have h2:(r.x1 - r.x0)*(r.y1 - r.y0)<=1048576*1048576:=Int.mul_le_mul (by omega) (by omega) (by omega) (by omega);rw[e1,e2,bB (by omega) (by omega)];omega
theorem ae7 {x y:aj} {m:Int} {k:Nat} (h0:0<=m) (h1:m<=(k:Int)*1099511627776) (hk:k < 4000000):0<=F9 x m y∧F9 x m y<=((k+1:Nat):Int)*1099511627776:=by
 unfold F9;cases hc:OkR x&&(OkR y&&OkR (dJ x y))with
 |false=>simp only[aA];omega
 |true=>
  have:=acH (akC hc);simp only[au];rw[bB (by omega) (by omega)];omega
theorem acI (x:aj) (b:List aj):∀ (m:Int) (k:Nat),0<=m->m<=(k:Int)*1099511627776->k+b.length < 4000000->0<=b.foldl (F9 x) m∧b.foldl (F9 x) m<=((k+b.length:Nat):Int)*1099511627776:=by
 induction b with
 |nil=>intro m k h0 h1 _;rw[List.foldl_nil,length_nil,Nat.add_zero];exact⟨h0,h1⟩
 |cons y b ih=>
  intro m k h0 h1 hk;rw[bH]at hk;obtain⟨g0,g1⟩:=ae7 (x:=x) (y:=y) h0 h1 (by omega);have:=ih _ (k+1) g0 g1 (by omega);rw[foldl_cons,bH,show k+(b.length+1)=k+1+b.length by omega];exact this
theorem Wz (b:List aj) (hb:b.length<=1000) (a:List aj):∀ (m:Int) (k:Nat),0<=m->m<=((1000*k:Nat):Int)*1099511627776->k+a.length<=1000->0<=a.foldl (fun n x=>b.foldl (F9 x) n) m:=by
 induction a with
 |nil=>intro m k h0 _ _;rw[List.foldl_nil];exact h0
 |cons x a ih=>
  intro m k h0 h1 hk;rw[bH]at hk;obtain⟨g0,g1⟩:=acI x b m (1000*k) h0 h1 (by omega);rw[foldl_cons];refine ih _ (k+1) g0 ?_ (by omega);have:((1000*k+b.length:Nat):Int)<=((1000*(k+1):Nat):Int):=by omega
  exact Int.le_trans g1 (Int.mul_le_mul_of_nonneg_right this (by omega))
theorem acJ {a b:List aj} (ha:a.length<=900) (hb:b.length<=1000):0<=nY a b:=Wz b hb a 0 0 (by omega) (by omega) (by omega)
theorem acK {zs:List l8} {a:List aj} (ha:a.length<=900):∀ x∈nZ zs a,0<=x:=by
 intro x hx;unfold nZ at hx;cases h:rightL a with
 |false=>rw[h]at hx;simp at hx
 |true=>
  rw[h]at hx;simp only[au,mem_map]at hx;obtain⟨z,_,rfl⟩:=hx;exact acJ ha (by have:=KV z;omega)
def Ir (zs:List l8) (i:Nat):Bool:=!((zs.getD i ⟨⟨#[]⟩,false,[]⟩).overlay)
def zZ (zs:List l8) (l:List Int) (m:Nat):Int:=(List.range m).foldl (fun (b:Int) i=>bif Ir zs i then max b (l.getD i 0)else b) 0
theorem Vd (zs:List l8) (l:List Int) (m:Nat):zZ zs l (m+1)=bif Ir zs m then max (zZ zs l m) (l.getD m 0)else zZ zs l m:=by unfold zZ;rw[List.range_succ,List.foldl_append];rfl
theorem ae8 (zs:List l8) (l:List Int) (m:Nat):iM zs l (m+1)=if (Ir zs m&&(decide (l.getD m 0>0)&&(decide (iM zs l m < 0) || decide (l.getD m 0>l.getD (iM zs l m).toNat 0))))=true then (m:Int)else iM zs l m:=by
 conv=>lhs;unfold iM
 rw[List.range_succ,List.foldl_append];rfl
def aj8 (zs:List l8) (l:List Int) (m:Nat):Prop:=
 (iM zs l m= -1∧zZ zs l m=0∧∀ j,j < m->Ir zs j=true->l.getD j 0<=0)∨
 ∃ k:Nat,k < m∧iM zs l m=(k:Int)∧Ir zs k=true∧0 < l.getD k 0∧zZ zs l m=l.getD k 0∧(∀ j,j < m->Ir zs j=true->l.getD j 0<=l.getD k 0)∧∀ j,j < k->Ir zs j=true->l.getD j 0 < l.getD k 0
theorem aiS (zs:List l8) (l:List Int):∀ m,aj8 zs l m
 | 0=> .inl ⟨rfl,rfl,fun j h=>by omega⟩
 |m+1=>by
  unfold aj8;rw[ae8,Vd];cases hb:Ir zs m with
  |false=>
   simp only[Bool.false_and,Bool.false_eq_true,if_false,aA];rcases aiS zs l m with ⟨h1,h2,h3⟩ |⟨k,h0,h1,h2,h3,h4,h5,h6⟩
   ·refine .inl ⟨h1,h2,fun j hj hbj=>?_⟩;by_cases hjm:j=m
    ·subst hjm;rw[hb]at hbj;cases hbj
    ·exact h3 j (by omega) hbj
   ·refine .inr ⟨k,by omega,h1,h2,h3,h4,fun j hj hbj=>?_,h6⟩;by_cases hjm:j=m
    ·subst hjm;rw[hb]at hbj;cases hbj
    ·exact h5 j (by omega) hbj
  |true=>
   simp only[Bool.true_and,au];rcases aiS zs l m with ⟨h1,h2,h3⟩ |⟨k,h0,h1,h2,h3,h4,h5,h6⟩
   ·rw[h1,h2];by_cases hp:0 < l.getD m 0
    ·rw[aJ (by simp only[aK,Bool.or_eq_true,aM];exact⟨hp,.inl (by omega)⟩)];refine .inr ⟨m,by omega,rfl,hb,hp,by omega,fun j hj hbj=>?_,fun j hj hbj=>?_⟩
     ·by_cases hjm:j=m
      ·subst hjm;omega
      ·have:=h3 j (by omega) hbj;omega
     ·have:=h3 j hj hbj;omega
    ·rw[aD (by simp only[aK,Bool.or_eq_true,aM];omega)];refine .inl ⟨rfl,by omega,fun j hj hbj=>?_⟩;by_cases hjm:j=m
     ·subst hjm;omega
     ·exact h3 j (by omega) hbj
   ·rw[h1,h4,Int.toNat_natCast];by_cases hp:l.getD k 0 < l.getD m 0
    ·rw[aJ (by simp only[aK,Bool.or_eq_true,aM];exact⟨by omega,.inr (by omega)⟩)];refine .inr ⟨m,by omega,rfl,hb,by omega,by omega,fun j hj hbj=>?_,fun j hj hbj=>?_⟩
     ·by_cases hjm:j=m
      ·subst hjm;omega
      ·have:=h5 j (by omega) hbj;omega
     ·have:=h5 j hj hbj;omega
    ·rw[aD (by simp only[aK,Bool.or_eq_true,aM];omega)];refine .inr ⟨k,by omega,rfl,h2,h3,by omega,fun j hj hbj=>?_,h6⟩;by_cases hjm:j=m
     ·subst hjm;omega
     ·exact h5 j (by omega) hbj
theorem ahs {n:Nat} (p:lg) (a:List aj) (hz:p.zones.length<=100) (ha:a.length<=900) (hn:50000<=n):ZG n p a=some (ofZ p.zones a):=by
 unfold ZG;have sl:=H9 p.zones a;have sp:=acK (zs:=p.zones) ha;rw[Wy p a hz ha hn];unfold ofZ;simp only[ah];generalize hL:nZ p.zones a=l at*;have s1:=d9 (step:=Jq p l) (fun i=>(zZ p.zones l i,((i:Nat):Int))) l.length (zZ p.zones l l.length) (fun i hi=>by
  have hz':i < p.zones.length:=by omega
  rw[Vd];simp only[Jq,bG hi,au,bC hi,dh hi,ah,aY hz',Ir,qP _ hz',qP _ hi,bL i];cases (p.zones[i]).overlay<;>rfl) (by simp[Jq]) n (by omega)
 rw[show (zZ p.zones l 0,(((0:Nat):Nat):Int))=((0:Int),(0:Int))from rfl]at s1;rw[s1];simp only[ah,length_nil,aC,au];obtain⟨o,h1,h2⟩:=H7 (step:=Jr p l (zZ p.zones l l.length)) (fun i (w:Bool×Int×List ByteArray)=>w.2.1=(i:Int)∧w.1=decide (0<=iM p.zones l l.length∧iM p.zones l l.length < (i:Int))∧w.2.2=((List.range i).filter (mX p.zones l)).map (fun i=>(p.zones.getD i ⟨⟨#[]⟩,false,[]⟩).name)) l.length (fun o=>o=((List.range l.length).filter (mX p.zones l)).map (fun i=>(p.zones.getD i ⟨⟨#[]⟩,false,[]⟩).name)) (fun i w hi hR=>by
  obtain⟨c,v,s⟩:=w;obtain⟨r1,r2,r3⟩:=hR;simp only at r1 r2 r3;subst r1;have hz':i < p.zones.length:=by omega
  have hs:s.length<=i:=by
   rw[r3,length_map];have:=length_filter_le (mX p.zones l) (List.range i);rw[List.length_range]at this;exact this
  have ap:bM s.length s.length (sub ([(p.zones[i]).name]:List ByteArray) 0 1).length 1 16=true:=bI (n:=1);have g0:l.getD i 0=l[i]:=qP _ hi;have pos:=sp _ (getElem_mem hi);have e3:((List.range (i+1)).filter (mX p.zones l)).map (fun i=>(p.zones.getD i ⟨⟨#[]⟩,false,[]⟩).name)=s++(bif mX p.zones l i then [(p.zones[i]).name]else []):=by
   rw[List.range_succ,List.filter_append,map_append,<- r3,List.filter_cons];cases mX p.zones l i<;>simp[hz']
  have hov:Ir p.zones i=!(p.zones[i]).overlay:=by unfold Ir;rw[qP _ hz']
  have hch:mX p.zones l i=(decide ((i:Int)=iM p.zones l l.length) || ((p.zones[i]).overlay&&decide (l[i]>0))):=by unfold mX;rw[qP _ hz',g0]
  have B:=aiS p.zones l l.length;simp only[Jr,bG hi,au,bC hi,dh hi,ah,aY hz',ap,dH,aC,bL i];rw[e3,hch];by_cases hz0:l[i]=0
  ·have e1:(l[i]==0)=true:=(by simp[hz0]);have e2:decide (l[i]>0)=false:=(by simp[hz0]);have e4:decide ((i:Int)=iM p.zones l l.length)=false:=by
    rw[bU];intro h;rcases B with ⟨b1,_⟩ |⟨k,_,b1,_,b3,_⟩
    ·omega
    ·obtain rfl:i=k:=(by omega);omega
   rw[e1,e2,e4];simp only[au,ah,Bool.and_false,Bool.or_false,aA,append_nil,aC];refine⟨_,rfl,rfl,?_,rfl⟩;rw[r2];rw[bU]at e4;have:(0<=iM p.zones l l.length∧iM p.zones l l.length < (i:Int))↔(0<=iM p.zones l l.length∧iM p.zones l l.length < ((i+1:Nat):Int)):=(by omega);rw[bJ,aM,aM];exact this
  ·have e1:(l[i]==0)=false:=(by simp[hz0]);have e2:decide (l[i]>0)=true:=(by rw[aM];omega);rw[e1,e2];simp only[aA,Bool.and_true];cases ho:(p.zones[i]).overlay with
   |true=>
    rw[ho]at hov;have e4:¬ ((i:Int)=iM p.zones l l.length):=by
     intro h;rcases B with ⟨b1,_⟩ |⟨k,_,b1,b2,_⟩
     ·omega
     ·obtain rfl:i=k:=(by omega);rw[hov]at b2;cases b2
    simp only[au,ah,Bool.or_true,aC];refine⟨_,rfl,rfl,?_,rfl⟩;rw[r2,bJ,aM,aM];omega
   |false=>
    rw[ho]at hov;simp only[aA,Bool.or_false];by_cases hb:(i:Int)=iM p.zones l l.length
    ·rcases B with ⟨b1,_⟩ |⟨k,_,b1,b2,b3,b4,_⟩
     ·omega
     ·obtain rfl:i=k:=(by omega);have e5:(l[i]==zZ p.zones l l.length)=true:=(by rw[beq_iff_eq,b4,g0]);have e6:decide ((i:Int)=iM p.zones l l.length)=true:=(by simpa using hb);have e7:c=false:=(by rw[r2,bU];omega);rw[e5,e6,e7];simp only[au,Bool.not_false,ah,aC];refine⟨_,rfl,rfl,?_,rfl⟩;rw[eq_comm,aM];omega
    ·have e6:decide ((i:Int)=iM p.zones l l.length)=false:=(by simpa using hb);have e8:(bif (l[i]==zZ p.zones l l.length)then some (!c)else some false)=some false:=by
      by_cases h5:l[i]=zZ p.zones l l.length
      ·have e5:(l[i]==zZ p.zones l l.length)=true:=(by simpa using h5);rw[e5];rcases B with ⟨b1,b2,_⟩ |⟨k,b0,b1,b2,b3,b4,b5,b6⟩
       ·omega
       ·have:k < i:=by
         rcases Nat.lt_trichotomy k i with h |h |h
         ·exact h
         ·subst h;exact absurd b1.symm hb
         ·have:=b6 i h (by rw[hov];rfl);rw[g0]at this;omega
        have e7:c=true:=(by rw[r2,aM];omega);rw[e7];rfl
      ·have e5:(l[i]==zZ p.zones l l.length)=false:=(by simpa using h5);rw[e5];rfl
     rw[e8,e6];simp only[ah,aA,aC,au,append_nil];refine⟨_,rfl,rfl,?_,rfl⟩;rw[r2,bJ,aM,aM];omega) (fun w hR=>by
  obtain⟨c,v,s⟩:=w;obtain⟨r1,r2,r3⟩:=hR;simp only at r1 r2 r3;subst r1;simp only[Jr,fP,aA,aC,au];exact⟨_,rfl,r3⟩) n (by omega) (false,0,[]) ⟨rfl,(bU.2 (show ¬ (0<=iM p.zones l l.length∧iM p.zones l l.length < ((0:Nat):Int))by omega)).symm,rfl⟩
 rw[h1,h2];simp only[ah,bE,aC,au]
end Go.Proofs
