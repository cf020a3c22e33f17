/-
  The envelope's form of disjoint rectangles, cutting, clipping.
-/
import Derived.Test.YtfidjjngahhkkaaGreatDoorS1
open Go.IntKind (i64)
open Option (bind_some)
open List (mem_cons append_assoc mem_append mem_map all_eq_true mem_singleton length_append getElem_mem length_cons length_map length_nil mem_cons_of_mem foldl_cons mem_filter any_eq_true mem_cons_self map_nil all_cons length_filter_le mem_flatMap)
open Bool (and_eq_true)
namespace Go.Proofs
open Go.Gb Go.RowKit
def ApR (a b:aj):Prop:=∀ x y,jg a x y=true->jg b x y=true->False
def zk (l:List aj):Prop:=l.Pairwise ApR∧∀ r∈l,OkR r=true
theorem kr (l:List aj) (x y:Int):aV l x y=true↔∃ r∈l,jg r x y=true:=by simp[aV,jg]
theorem SH (a b:List aj) (x y:Int):aV (a++b) x y=(aV a x y || aV b x y):=by simp[aV]
theorem rY (r:aj):OkR r=true↔(0<=r.x0∧r.x0 < r.x1∧r.x1<=1048576)∧(0<=r.y0∧r.y0 < r.y1∧r.y1<=1048576):=by simp only[OkR,and_eq_true,decide_eq_true_eq];omega
theorem aaq {a:List aj} (h:rightL a=true):zk a:=by
 obtain⟨rok,hro,_⟩:=Hu h;refine⟨?_,(dU h).1⟩;rw[<- hro];unfold fG;rw[List.pairwise_flatMap];refine⟨fun s hs=>?_,(Lr rok.runs).imp fun {s t} hst=>?_⟩
 ·unfold ax;rw[List.pairwise_map];refine (rok.col s hs).1.1.imp fun {p q} hpq x y h1 h2=>?_;rw[dI]at h1 h2;simp only at h1 h2;omega
 ·intro p hp q hq x y h1 h2;unfold ax at hp hq;obtain⟨p',_,rfl⟩:=mem_map.1 hp;obtain⟨q',_,rfl⟩:=mem_map.1 hq;rw[dI]at h1 h2;simp only at h1 h2;omega
theorem AA (a b:aj):nK a b=some (bD a b,decide ((bD a b).x0 < (bD a b).x1)&&decide ((bD a b).y0 < (bD a b).y1)):=by
 unfold nK bD;simp only[kW];cases decide (max a.x0 b.x0 < min a.x1 b.x1)<;>rfl
def eY (a b:aj):Bool:=decide ((bD a b).x0 < (bD a b).x1)&&decide ((bD a b).y0 < (bD a b).y1)
theorem JY (a b:aj) (x y:Int):jg (bD a b) x y=(jg a x y&&jg b x y):=by
 rw[Bool.eq_iff_iff,and_eq_true,dI,dI,dI];unfold bD;simp only;omega
theorem Wi {a b:aj} (ha:OkR a=true) (hb:OkR b=true) (hm:eY a b=true):OkR (bD a b)=true:=by
 rw[rY]at*;unfold eY bD at hm;simp only[and_eq_true,decide_eq_true_eq]at hm;unfold bD;simp only;omega
theorem UJ {a b:aj} (h:eY a b=false) (x y:Int):(jg a x y&&jg b x y)=false:=by
 rw[<- JY,Bool.eq_false_iff];intro hc;rw[dI]at hc;have:eY a b=true:=by simp only[eY,and_eq_true,decide_eq_true_eq];omega
 rw[h]at this;cases this
def okB (r:aj):Bool:=decide (r.x0 < r.x1)&&decide (r.y0 < r.y1)
def four (r m:aj):List aj:=[⟨r.x0,r.y0,m.x0,r.y1⟩,⟨m.x1,r.y0,r.x1,r.y1⟩,⟨m.x0,r.y0,m.x1,m.y0⟩,⟨m.x0,m.y1,m.x1,r.y1⟩]
def JZ (c r:aj):List aj:=bif eY r c then (four r (bD r c)).filter okB else [r]
def Dg (l:List aj) (c:aj):List aj:=l.flatMap (JZ c)
theorem adP (c r:aj):(JZ c r).length<=4:=by
 unfold JZ;cases eY r c with
 |false=>simp
 |true=>exact Nat.le_trans (length_filter_le _ _) (by simp[four])
theorem FN {n:Nat} (x m:aj) (b:Bool) (out:List aj) (ho:out.length<=1000000000) (hn:10 < n):
 iter (kG x (m,b)) n ((0:Int),out)=some (out++(four x m).filter okB):=by
 have:=bC (l:=four x m) (step:=kG x (m,b)) (fun i (s:List aj)=>((i:Int),s)) (fun r s=>bif okB r then s++[r]else s) (fun s=>s) (fun i s=>s.length<=out.length+i)
  (fun i hi s hs=>?_) (fun s hs=>by simp[kG,four]) n (by simp[four];omega) out (Nat.le_refl _)
 ·rw[show ((0:Nat):Int)=0 from rfl]at this;rw[this];congr 1;have gen:∀ (ys:List aj) (s:List aj),ys.foldl (fun s r=>bif okB r then s++[r]else s) s=s++ys.filter okB:=by
   intro ys
   induction ys with
   |nil=>intro s;simp
   |cons y ys ih=>
    intro s;rw[foldl_cons,ih,List.filter_cons];cases okB y<;>simp
  exact gen _ _
 ·have h4:i < 4:=by simpa[four]using hi
  have g:at? ([(aj.mk x.x0 x.y0 m.x0 x.y1),(aj.mk m.x1 x.y0 x.x1 x.y1),(aj.mk m.x0 x.y0 m.x1 m.y0),(aj.mk m.x0 m.y1 m.x1 x.y1)]:List aj) (((0:Nat):Int)+((i:Nat):Int))=some (four x m)[i]:=bZ hi;generalize (four x m)[i]=r at*;have ap:bI s.length s.length (sub ([r]:List aj) 0 1).length 1 32=true:=bB (n:=1) (by omega) (by simp only[maxLen];omega);simp only[kG,bF h4,cond_true,bq h4,g,bind_some,kW,ap,dG,aC,okB,ay (show i < 9223372036854775807 by omega)];cases decide (r.x0 < r.x1)<;>cases decide (r.y0 < r.y1)<;>refine⟨rfl,?_⟩<;>simp<;>omega
theorem NU {n:Nat} {l:List aj} (c:aj) (hl:l.length<=1000000) (hn:10 < n) (hn2:l.length < n):vz n l c=some (Dg l c):=by
 unfold vz
 have:=bC (l:=l) (step:=nT n l c) (fun i (s:List aj)=>((i:Int),s)) (fun r s=>s++JZ c r) (fun s=>s) (fun i s=>s.length<=4*i)
  (fun i hi s hs=>?_) (fun s hs=>by simp[nT]) n hn2 [] (by simp)
 ·rw[show ((0:Nat):Int)=0 from rfl]at this;simp only[length_nil,aC,cond_true,this,bind_some,bE];congr 1;have gen:∀ (ys:List aj) (s:List aj),ys.foldl (fun s r=>s++JZ c r) s=s++Dg ys c:=by
   intro ys
   induction ys with
   |nil=>intro s;simp[Dg]
   |cons y ys ih=>intro s;rw[foldl_cons,ih];simp[Dg]
  exact gen l []
 ·have cl:=adP c l[i];have ap:bI s.length s.length (sub ([l[i]]:List aj) 0 1).length 1 32=true:=bB (n:=1) (by omega) (by simp only[maxLen];omega);simp only[nT,bF hi,cond_true,bn hi,bind_some,AA,ap,dG,aC,FN (n:=n) l[i] (bD l[i] c) _ s (by omega) hn,kW,ay (show i < 9223372036854775807 by omega)];rw[show (decide ((bD l[i] c).x0 < (bD l[i] c).x1)&&decide ((bD l[i] c).y0 < (bD l[i] c).y1))=eY l[i] c from rfl];refine⟨?_,by rw[length_append];omega⟩;unfold JZ;cases eY l[i] c<;>rfl
theorem ach (r c:aj) (hm:eY r c=true) (x y:Int):aV ((four r (bD r c)).filter okB) x y=(jg r x y&&!jg c x y):=by
 unfold eY bD at hm;simp only[and_eq_true,decide_eq_true_eq]at hm;rw[Bool.eq_iff_iff,kr,and_eq_true,Bool.not_eq_true',<- Bool.not_eq_true,dI,dI];constructor
 ·rintro⟨q,hq,hh⟩;obtain⟨hq,_⟩:=mem_filter.1 hq;rw[dI]at hh;simp only[four,bD,mem_cons,List.not_mem_nil,or_false]at hq;rcases hq with rfl |rfl |rfl |rfl<;>simp only at hh<;>omega
 ·rintro⟨h1,h2⟩;have key:∀ q,q∈four r (bD r c)->jg q x y=true->∃ q∈(four r (bD r c)).filter okB,jg q x y=true:=fun q hq hh=>by
   refine⟨q,mem_filter.2 ⟨hq,?_⟩,hh⟩;rw[dI]at hh;simp only[okB,and_eq_true,decide_eq_true_eq];omega
  by_cases c1:x < c.x0
  ·exact key ⟨r.x0,r.y0,(bD r c).x0,r.y1⟩ (by simp[four]) (by rw[dI];simp only[bD];omega)
  ·by_cases c2:c.x1<=x
   ·exact key ⟨(bD r c).x1,r.y0,r.x1,r.y1⟩ (by simp[four]) (by rw[dI];simp only[bD];omega)
   ·by_cases c3:y < c.y0
    ·exact key ⟨(bD r c).x0,r.y0,(bD r c).x1,(bD r c).y0⟩ (by simp[four]) (by rw[dI];simp only[bD];omega)
    ·exact key ⟨(bD r c).x0,(bD r c).y1,(bD r c).x1,r.y1⟩ (by simp[four]) (by rw[dI];simp only[bD];omega)
theorem LJ (c r:aj) (x y:Int):aV (JZ c r) x y=(jg r x y&&!jg c x y):=by
 unfold JZ;cases hm:eY r c with
 |true=>exact ach r c hm x y
 |false=>
  have:=UJ hm x y;have e:aV [r] x y=jg r x y:=by simp[aV,jg]
  simp only[cond_false,e];cases h1:jg r x y with
  |false=>rfl
  |true=>rw[h1]at this;simp at this;simp[this]
theorem EC (f:aj->List aj) (l:List aj) (x y:Int):aV (l.flatMap f) x y=l.any fun r=>aV (f r) x y:=by
 induction l with
 |nil=>rfl
 |cons r l ih=>rw[List.flatMap_cons,SH,ih,List.any_cons]
theorem aci (l:List aj) (c:aj) (x y:Int):aV (Dg l c) x y=(aV l x y&&!jg c x y):=by
 unfold Dg;rw[EC];have e:aV l x y=l.any fun r=>jg r x y:=rfl;rw[e,Bool.eq_iff_iff,and_eq_true,any_eq_true,any_eq_true];constructor
 ·rintro⟨r,hr,h⟩;rw[LJ,and_eq_true]at h;exact⟨⟨r,hr,h.1⟩,h.2⟩
 ·rintro⟨⟨r,hr,h⟩,h2⟩;exact⟨r,hr,by rw[LJ,h,h2];rfl⟩
def AB (X Y:List Int) (l:List aj):Prop:=∀ r∈l,r.x0∈X∧r.y0∈Y
theorem OW {X:List Int} {a b:Int} (h1:a∈X) (h2:b∈X):max a b∈X:=by
 rcases Int.le_total a b with h |h
 ·rw[Int.max_eq_right h];exact h2
 ·rw[Int.max_eq_left h];exact h1
theorem Yr {c r q:aj} (hr:OkR r=true) (hc:OkR c=true) (h:q∈JZ c r):OkR q=true∧(∀ X:List Int,r.x0∈X->c.x0∈X->c.x1∈X->q.x0∈X)∧(∀ Y:List Int,r.y0∈Y->c.y1∈Y->q.y0∈Y):=by
 unfold JZ at h;cases hm:eY r c with
 |false=>
  rw[hm]at h;simp only[cond_false,mem_singleton]at h;subst h;exact⟨hr,fun X h _ _=>h,fun Y h _=>h⟩
 |true=>
  rw[hm]at h;simp only[cond_true]at h;obtain⟨h1,h2⟩:=mem_filter.1 h;simp only[okB,and_eq_true,decide_eq_true_eq]at h2;have hk:=Wi hr hc hm;rw[rY]at hr hc;rw[rY]at hk;have cx:(bD r c).x0=max r.x0 c.x0∧(bD r c).y0=max r.y0 c.y0∧(bD r c).x1=min r.x1 c.x1∧(bD r c).y1=min r.y1 c.y1:=⟨rfl,rfl,rfl,rfl⟩;obtain⟨c1,c2,c3,c4⟩:=cx;simp only[four,mem_cons,List.not_mem_nil,or_false]at h1;rw[rY];rcases h1 with rfl |rfl |rfl |rfl
  ·simp only at h2 ⊢;exact⟨by omega,fun X a _ _=>a,fun Y a _=>a⟩
  ·simp only at h2 ⊢;refine⟨by omega,fun X _ _ a=>?_,fun Y a _=>a⟩;rw[show (bD r c).x1=c.x1 by omega];exact a
  ·simp only at h2 ⊢;refine⟨by omega,fun X a b _=>?_,fun Y a _=>a⟩;rw[c1];exact OW a b
  ·simp only at h2 ⊢;refine⟨by omega,fun X a b _=>?_,fun Y _ a=>?_⟩
   ·rw[c1];exact OW a b
   ·rw[show (bD r c).y1=c.y1 by omega];exact a
theorem acj {c r:aj} (hr:OkR r=true) (hc:OkR c=true):(JZ c r).Pairwise ApR:=by
 unfold JZ;cases hm:eY r c with
 |false=>simp
 |true=>
  simp only[cond_true];refine List.Pairwise.filter _ ?_;have hk:=Wi hr hc hm;rw[rY]at hk;simp only[four,List.pairwise_cons,mem_cons,List.not_mem_nil,or_false,forall_eq_or_imp,forall_eq,List.Pairwise.nil,and_true,false_implies,implies_true];refine⟨⟨?_,?_,?_⟩,⟨?_,?_⟩,?_⟩<;>intro x y h1 h2<;>rw[dI]at h1 h2<;>simp only at h1 h2<;>omega
theorem UK {l:List aj} {c:aj} (h:zk l) (hc:OkR c=true):zk (Dg l c):=by
 refine⟨?_,fun q hq=>?_⟩
 ·unfold Dg;rw[List.pairwise_flatMap];refine⟨fun r hr=>acj (h.2 r hr) hc,h.1.imp fun {r s} hrs p hp q hq x y h1 h2=>?_⟩;have e1:aV (JZ c r) x y=true:=(kr _ _ _).2 ⟨p,hp,h1⟩;have e2:aV (JZ c s) x y=true:=(kr _ _ _).2 ⟨q,hq,h2⟩;rw[LJ,and_eq_true]at e1 e2;exact hrs x y e1.1 e2.1
 ·obtain⟨r,hr,h1⟩:=mem_flatMap.1 hq;exact (Yr (h.2 r hr) hc h1).1
theorem UL {l:List aj} {c:aj} (h:∀ r∈l,OkR r=true) (hc:OkR c=true) {X Y:List Int} (hx:AB X Y l) (h1:c.x0∈X) (h2:c.x1∈X) (h3:c.y1∈Y):AB X Y (Dg l c):=by
 intro q hq;obtain⟨r,hr,hm⟩:=mem_flatMap.1 hq;obtain⟨_,g2,g3⟩:=Yr (h r hr) hc hm;exact⟨g2 X (hx r hr).1 h1 h2,g3 Y (hx r hr).2 h3⟩
theorem Yt {X Y:List Int} {l:List aj} (h:zk l) (hx:AB X Y l):l.length<=X.length*Y.length:=by
 have e:(X.flatMap fun x=>Y.map fun y=>(x,y)).length=X.length*Y.length:=by
  clear hx
  induction X with
  |nil=>simp
  |cons x X ih=>rw[List.flatMap_cons,length_append,ih,length_map,length_cons,Nat.add_mul];omega
 have:=Lm (l:=l.map fun r=>(r.x0,r.y0)) (m:=X.flatMap fun x=>Y.map fun y=>(x,y)) (by
  rw[List.pairwise_map];refine (List.Pairwise.and_mem.1 h.1).imp fun {a b} hab=>?_;obtain⟨h1,h2,h3⟩:=hab;intro he;have e1:a.x0=b.x0:=congrArg Prod.fst he;have e2:a.y0=b.y0:=congrArg Prod.snd he;have o1:=(rY _).1 (h.2 a h1);have o2:=(rY _).1 (h.2 b h2);exact h3 a.x0 a.y0 ((dI _ _ _).2 (by omega)) ((dI _ _ _).2 (by omega))) (fun p hp=>by
  obtain⟨r,hr,rfl⟩:=mem_map.1 hp;exact mem_flatMap.2 ⟨r.x0,(hx r hr).1,mem_map.2 ⟨r.y0,(hx r hr).2,rfl⟩⟩)
 rw[length_map,e]at this;exact this
theorem Ce {l:List aj} {x0 x1:Int} (hl:l.length < 1099511627776) {n:Nat} (hn:l.length < n):iter (iA l x0 x1) n ((0:Int),([]:List aj))=some (ax x0 x1 (BZ l x0 x1)):=by
 have:=bC (l:=l) (step:=iA l x0 x1) (fun i (s:List aj)=>((i:Int),s)) (fun r s=>bif decide (r.x0<=x0)&&decide (x1<=r.x1)then s++[⟨x0,r.y0,x1,r.y1⟩]else s) (fun s=>s) (fun i s=>s.length<=i)
  (fun i hi s hs=>?_) (fun s hs=>by simp[iA]) n hn [] (Nat.le_refl _)
 ·rw[show ((0:Nat):Int)=0 from rfl]at this;rw[this];congr 1;have gen:∀ (ys:List aj) (s:List aj),ys.foldl (fun s r=>bif decide (r.x0<=x0)&&decide (x1<=r.x1)then s++[⟨x0,r.y0,x1,r.y1⟩]else s) s=s++ax x0 x1 (BZ ys x0 x1):=by
   intro ys
   induction ys with
   |nil=>intro s;simp[BZ,ax]
   |cons y ys ih=>
    intro s;simp only[foldl_cons,ih];cases h:(decide (y.x0<=x0)&&decide (x1<=y.x1))with
    |true=>simp[BZ,h,ax,JM]
    |false=>simp[BZ,h]
  simpa using gen l []
 ·have hi':decide (((i:Nat):Int) < (l.length:Int))=true:=by simpa using hi
  have ap:bI s.length s.length (sub ([(aj.mk x0 l[i].y0 x1 l[i].y1)]:List aj) 0 1).length 1 32=true:=bB (n:=1) (by omega) (by simp only[maxLen];omega);simp only[iA,hi',cond_true,bn hi,bind_some,Lc];cases h:(decide (l[i].x0<=x0)&&decide (x1<=l[i].x1))with
  |true=>
   simp only[cond_true,ap,dG,aC,bind_some];refine⟨?_,by simp;omega⟩;rw[ay (by omega)];rfl
  |false=>
   simp only[cond_false,aC,cond_true,bind_some];exact⟨by rw[ay (by omega)],by omega⟩
theorem Cf (x0 x1:Int) (a b:List aA):ax x0 x1 (a++b)=ax x0 x1 a++ax x0 x1 b:=by simp[ax]
theorem Cg {n:Nat} {x0 x1:Int} (w1:List aj) (T:List aA) (hw:w1.length=T.length) (hl:T.length < 1099511627776) (hn:T.length < n):
 ∃ o,iter (iB w1) n ((0:Int),(0:Int),ax x0 x1 T)=some o∧o.1=(((T.foldl ext []).length:Nat):Int)∧o.2.take (T.foldl ext []).length=ax x0 x1 (T.foldl ext [])∧(T.foldl ext []).length<=T.length:=by
 refine Rm (fun i (v:Int×Int×List aj)=>v.2.1=(i:Int)∧v.1=((((T.take i).foldl ext []).length:Nat):Int)∧∃ mid,v.2.2=ax x0 x1 ((T.take i).foldl ext [])++mid++ax x0 x1 (T.drop i)∧mid.length+((T.take i).foldl ext []).length=i) T.length _ (fun i v hi hR=>?_) (fun v hR=>?_) n hn _ ⟨rfl,rfl,[],by simp[ax],by simp⟩
 ·obtain⟨v5,v6,v7⟩:=v;obtain⟨h1,h2,mid,h3,h4⟩:=hR;simp only at h1 h2 h3;subst h1;subst h2;subst h3;have hC:(T.take (i+1)).foldl ext []=ext ((T.take i).foldl ext []) T[i]:=by rw[List.take_succ_eq_append_getElem hi,List.foldl_append];rfl
  generalize (T.take i).foldl ext []=C at*;have lC:(ax x0 x1 C).length=C.length:=aQ _ _ _;have dr:ax x0 x1 (T.drop i)=⟨x0,T[i].from_,x1,T[i].to⟩::ax x0 x1 (T.drop (i+1)):=by rw[List.drop_eq_getElem_cons hi];rfl
  have g2:at? (ax x0 x1 C++mid++ax x0 x1 (T.drop i)) (((0:Nat):Int)+((i:Nat):Int))=some ⟨x0,T[i].from_,x1,T[i].to⟩:=by rw[rM,List.getElem?_append_right (by rw[length_append];omega),dr,length_append,lC,show i - (C.length+mid.length)=0 by omega];rfl
  obtain⟨m0,ms,hms⟩:∃ m0 ms,mid++[(⟨x0,T[i].from_,x1,T[i].to⟩:aj)]=m0::ms:=by
   cases mid with
   |nil=>exact⟨_,_,rfl⟩
   |cons a b=>exact⟨_,_,rfl⟩
  have hA:ax x0 x1 C++mid++ax x0 x1 (T.drop i)=ax x0 x1 C++(m0::ms)++ax x0 x1 (T.drop (i+1)):=by rw[dr,<- hms];simp
  have lm:ms.length=mid.length:=by have:=congrArg List.length hms;simp at this;omega
  have ibi:inb ((i:Nat):Int) w1.length=true:=bq (by omega);have d1:decide (((i:Nat):Int) < ((w1.length:Nat):Int))=true:=by rw[hw];exact bF hi
  have w:i64.wrap ((i:Int)+1)=((i+1:Nat):Int):=ay (by omega);have new:ext C T[i]=C++[T[i]]->∃ v',some (Sum.inl ((((C.length+1:Nat):Int)),((i+1:Nat):Int),(ax x0 x1 C++mid++ax x0 x1 (T.drop i)).set C.length ⟨x0,T[i].from_,x1,T[i].to⟩))=some (Sum.inl v':(Int×Int×List aj) ⊕ (Int×List aj))∧v'.2.1=((i+1:Nat):Int)∧v'.1=(((ext C T[i]).length:Nat):Int)∧∃ mid',v'.2.2=ax x0 x1 (ext C T[i])++mid'++ax x0 x1 (T.drop (i+1))∧mid'.length+(ext C T[i]).length=i+1:=fun he=>by
   refine⟨_,rfl,rfl,by rw[he];simp,ms,?_,by rw[he,length_append,List.length_singleton];omega⟩;show (ax x0 x1 C++mid++ax x0 x1 (T.drop i)).set C.length _=_;rw[hA,append_assoc,List.cons_append,he,Cf];have:=Q6 (ax x0 x1 C) (ms++ax x0 x1 (T.drop (i+1))) m0 ⟨x0,T[i].from_,x1,T[i].to⟩;rw[lC]at this;rw[this];simp[ax]
  rcases List.eq_nil_or_concat C with e0 |⟨o,q,e0⟩
  ·subst e0;have e1:ext [] T[i]=[]++[T[i]]:=rfl;have d5:decide (((([]:List aA).length:Nat):Int)>0)=false:=rfl;have ib0:inb (((([]:List aA).length:Nat):Int)) w1.length=true:=bq (by simp;omega);have g0:∃ z,at? (ax x0 x1 []++mid++ax x0 x1 (T.drop i)) (((0:Nat):Int)+((([]:List aA).length:Nat):Int))=some z:=by
    rw[hA];exact⟨m0,by simp[at?,ax]⟩
   obtain⟨z,g0⟩:=g0;have z0:(((0:Nat):Int)+((([]:List aA).length:Nat):Int)).toNat=([]:List aA).length:=rfl;have wl:i64.wrap (((([]:List aA).length:Nat):Int)+1)=(((([]:List aA).length+1:Nat)):Int):=ay (by simp);rw[hC];simp only[iB,d1,cond_true,ibi,g2,bind_some,d5,cond_false,ib0,g0,z0,wl,w];exact new e1
  ·rw[List.concat_eq_append]at e0;have d5:decide (((C.length:Nat):Int)>0)=true:=(by rw[e0];simp);have wp:i64.wrap (((C.length:Nat):Int) - 1)=((o.length:Nat):Int):=(by rw[kI (by rw[e0];simp) (by omega),e0];simp);have ibo:inb ((o.length:Nat):Int) w1.length=true:=bq (by rw[e0]at h4;simp at h4;omega);have ibc:inb ((C.length:Nat):Int) w1.length=true:=bq (by omega);have lo:(ax x0 x1 o).length=o.length:=aQ _ _ _;have gq:at? (ax x0 x1 C++mid++ax x0 x1 (T.drop i)) (((0:Nat):Int)+((o.length:Nat):Int))=some ⟨x0,q.from_,x1,q.to⟩:=(by rw[rM,e0,Cf,append_assoc,append_assoc,List.getElem?_append_right (by omega),lo,Nat.sub_self];rfl);have zo:(((0:Nat):Int)+((o.length:Nat):Int)).toNat=o.length:=(by omega);have zc:(((0:Nat):Int)+((C.length:Nat):Int)).toNat=C.length:=(by omega);have wl:i64.wrap (((C.length:Nat):Int)+1)=((C.length+1:Nat):Int):=ay (by omega);have gc:∃ z,at? (ax x0 x1 C++mid++ax x0 x1 (T.drop i)) (((0:Nat):Int)+((C.length:Nat):Int))=some z:=by
    rw[hA,rM,append_assoc,List.getElem?_append_right (by omega),lC,Nat.sub_self];exact⟨m0,rfl⟩
   obtain⟨z,gc⟩:=gc;rw[hC];simp only[iB,d1,cond_true,ibi,g2,bind_some,d5,wp,ibo,gq,ibc,zo,zc,wl,w];have eo:ext C T[i]=bif q.to==T[i].from_ then o++[⟨q.from_,T[i].to⟩]else o++[q]++[T[i]]:=(by rw[e0];exact Q9 o q T[i]);cases hq:q.to==T[i].from_ with
   |true=>
    rw[hq]at eo;simp only[cond_true]at eo ⊢;refine⟨_,rfl,rfl,?_,mid++[⟨x0,T[i].from_,x1,T[i].to⟩],?_,?_⟩
    ·rw[eo,e0];simp
    ·show (ax x0 x1 C++mid++ax x0 x1 (T.drop i)).set o.length _=_;rw[eo,e0,Cf,dr,Cf];have:=Q6 (ax x0 x1 o) (mid++(⟨x0,T[i].from_,x1,T[i].to⟩::ax x0 x1 (T.drop (i+1)))) ⟨x0,q.from_,x1,q.to⟩ ⟨x0,q.from_,x1,T[i].to⟩;rw[lo]at this;simp only[append_assoc];refine Eq.trans this ?_;simp[ax]
    ·rw[eo];rw[e0]at h4;simp at h4 ⊢;omega
   |false=>
    rw[hq]at eo;simp only[cond_false]at eo ⊢;have e1:ext C T[i]=C++[T[i]]:=(by rw[eo,e0]);simp only[gc,bind_some];exact new e1
 ·obtain⟨v5,v6,v7⟩:=v;obtain⟨h1,h2,mid,h3,h4⟩:=hR;simp only at h1 h2 h3;subst h1;subst h2;subst h3;rw[List.take_length]at*;have d1:decide (((T.length:Nat):Int) < ((w1.length:Nat):Int))=false:=by rw[hw];exact nM _
  simp only[iB,d1,cond_false];refine⟨_,rfl,rfl,?_,by omega⟩;show List.take _ (ax x0 x1 (T.foldl ext [])++mid++_)=_;rw[append_assoc,List.take_left' (aQ _ _ _)]
theorem aar {l:List aj} (h:zk l) (x:Int):(bH l x).Pairwise fun s t=>s.to<=t.from_∨t.to<=s.from_:=by
 unfold bH;rw[List.pairwise_map];refine (List.Pairwise.and_mem.1 (h.1.filter _)).imp fun {a b} hab=>?_;obtain⟨h1,h2,h3⟩:=hab;obtain⟨m1,p1⟩:=mem_filter.1 h1;obtain⟨m2,p2⟩:=mem_filter.1 h2;simp only[and_eq_true,decide_eq_true_eq]at p1 p2;have o1:=(rY _).1 (h.2 a m1);have o2:=(rY _).1 (h.2 b m2);show a.y1<=b.y0∨b.y1<=a.y0;by_cases c1:a.y1<=b.y0
 ·exact .inl c1
 ·by_cases c2:b.y1<=a.y0
  ·exact .inr c2
  ·exact (h3 x (max a.y0 b.y0) ((dI _ _ _).2 (by omega)) ((dI _ _ _).2 (by omega))).elim
theorem Hy {n:Nat} {l:List aj} {x0 x1:Int} (hd:zk l) (ha:∀ r∈l,(decide (r.x0<=x0)&&decide (x1<=r.x1))=(decide (r.x0<=x0)&&decide (x0 < r.x1)))
 (hl:l.length < 1099511627776) (hn:l.length < n):nU n l x0 x1=some (ax x0 x1 (bG l x0)):=by
 have hv:=hd.2;have hs:BZ l x0 x1=bH l x0:=by
  unfold BZ bH;rw[List.filter_congr ha];rfl
 have h1:=wS l x0;have hp:=BL OT (ax x0 x1 (bH l x0));have hso:=BM OT (ax x0 x1 (bH l x0));have h2:(wJ ltY (ax x0 x1 (bH l x0))).length=(bH l x0).length:=by rw[Jk OT,aQ]
 unfold nU;simp only[length_nil,aC,cond_true,Ce (x0:=x0) (x1:=x1) (l:=l) (by omega) (n:=n) (by omega),bind_some,hs];rw[FM (fun a b=>if a.y0 < b.y0 then -1 else if b.y0 < a.y0 then 1 else 0) (fun a b=>by show ko a b=_;unfold ko;rw[iC];rfl) (fun a b=>by
  by_cases h1:a.y0 < b.y0
  ·simp[h1]
  ·by_cases h2:b.y0 < a.y0<;>simp[h1,h2]) (by rw[aQ];omega) (by rw[aQ];omega)]
 simp only[bind_some];generalize hL:wJ ltY (ax x0 x1 (bH l x0))=L at*;have hx:∀ r∈L,r.x0=x0∧r.x1=x1:=by
  intro r hr;have:=hp.mem_iff.1 hr;simp only[ax,mem_map]at this;obtain⟨s,_,rfl⟩:=this;exact⟨rfl,rfl⟩
 have eL:=UB hx;have pT:(L.map JM).Perm (bH l x0):=by
  have:=hp.map JM;rw[Yf]at this;exact this
 have sT:(L.map JM).Pairwise fun x y=>x.from_<=y.from_:=by
  rw[List.pairwise_map];refine hso.imp fun {a b} hab=>?_;simp only[ltY,decide_eq_false_iff_not]at hab;show a.y0<=b.y0;omega
 generalize L.map JM=T at eL pT sT;subst eL;rw[aQ]at h2;have oT:∀ s∈T,OkS s:=fun s h=>He hv x0 s (pT.mem_iff.1 h);have dT:T.Pairwise fun s t=>s.to<=t.from_∨t.to<=s.from_:=(pT.pairwise_iff (fun {a b} h=>h.symm)).2 (aar hd x0);have aT:T.Pairwise fun x y=>x.to<=y.from_:=by
  refine (List.Pairwise.and_mem.1 (sT.and dT)).imp fun {a b} hab=>?_;obtain⟨m1,m2,s1,s2⟩:=hab;have:=oT a m1;have:=oT b m2;rcases s2 with h |h
  ·exact h
  ·simp only[OkS]at *;omega
 obtain⟨o,g1,g2,g3,g4⟩:=Cg (n:=n) (x0:=x0) (x1:=x1) (ax x0 x1 (bH l x0)) T (by rw[aQ];omega) (by omega) (by omega);obtain⟨o1,o2⟩:=o;simp only at g2 g3;subst g2;rw[g1];have so:xq 0 (((T.foldl ext []).length:Nat):Int) (ax x0 x1 (bH l x0)).length=true:=vP (by omega) (by omega) (by rw[aQ];omega);have z:((((T.foldl ext []).length:Nat):Int)).toNat=(T.foldl ext []).length:=by omega
 rw[aQ]at so;simp only[bind_some,aQ,so,cond_true,z,ads,g3,aC];obtain⟨c1,c2⟩:=Uz T [] yF oT aT (by simp);obtain⟨d1,d2⟩:=je hv x0;rw[ow c1 d1 fun y=>by rw[c2,d2,vD,Bool.false_or,Q0 pT,Ej]]
theorem agf {n:Nat} {x0 x1 u0 u1:Int} {c d:List aA} (hl:c.length < 1099511627776) (hn:c.length < n):
 gQ n (ax x0 x1 c) (ax u0 u1 d) (fun y:aj×aj×Unit=>jG y.1 y.2.1)=some (decide (c=d)):=by
 unfold gQ;rw[aQ,aQ];by_cases hlen:c.length=d.length
 ·have h0:(((c.length:Nat):Int) != ((d.length:Nat):Int))=false:=by simp[hlen]
  rw[h0];have zl:(c.zip d).length=c.length:=by rw[List.length_zip];omega
  have:=qP (l:=c.zip d) (step:=eZ (ax x0 x1 c) (ax u0 u1 d) (fun y:aj×aj×Unit=>jG y.1 y.2.1)) (fun i=>((i:Nat):Int)) (fun z=>!decide (z.1=z.2)) () (fun _=>false) (fun i hi=>?_) ?_ n (by omega)
  ·rw[show ((0:Nat):Int)=0 from rfl]at this;simp only[cond_false];rw[this];rcases BJ (fun z:aA×aA=>!decide (z.1=z.2)) (c.zip d)with ⟨i,hi,h1,h2,_⟩ |⟨h1,h2⟩
   ·rw[h1];have:c≠d:=by
     intro e;subst e;simp at h2
    simp[this]
   ·rw[h1];have:c=d:=by
     refine List.ext_getElem hlen fun i hi hj=>?_;have hm:(c[i],d[i])∈c.zip d:=by
      rw[List.mem_iff_getElem];exact⟨i,by omega,by simp⟩
     have:=h2 _ hm;simpa using this
    simp[this]
  ·have hic:i < c.length:=(by omega);have hid:i < d.length:=(by omega);have hi':decide (((i:Nat):Int) < (((ax x0 x1 c).length:Nat):Int))=true:=(by rw[aQ];simpa using hic);simp only[eZ,hi',cond_true,Ra hic,Ra hid,bind_some,List.getElem_zip];generalize c[i]=p;generalize d[i]=q;obtain⟨p1,p2⟩:=p;obtain⟨q1,q2⟩:=q;have e:decide ((⟨p1,p2⟩:aA)=⟨q1,q2⟩)=((p1==q1)&&(p2==q2)):=(by rw[Bool.eq_iff_iff];simp);rw[e];unfold jG;simp only;rw[ay (by omega)];cases p1==q1<;>cases p2==q2<;>rfl
  ·have hi':decide ((((c.zip d).length:Nat):Int) < (((ax x0 x1 c).length:Nat):Int))=false:=(by rw[aQ,zl];simp);simp only[eZ,hi',cond_false]
 ·have h0:(((c.length:Nat):Int) != ((d.length:Nat):Int))=true:=by rw[bne_iff_ne];omega
  rw[h0];have:c≠d:=fun e=>hlen (by rw[e]);simp[this]
theorem ED {n:Nat} {l:List aj} (hl:l.length < 10995116277) (hn:l.length < n):iter (jH l) n ((0:Int),([]:List Int))=some (l.flatMap fun r=>[r.x0,r.x1]):=by
 have:=bC (l:=l) (step:=jH l) (fun i (s:List Int)=>((i:Int),s)) (fun r s=>s++[r.x0,r.x1]) (fun s=>s) (fun i s=>s.length<=2*i)
  (fun i hi s hs=>?_) (fun s hs=>by simp[jH]) n hn [] (Nat.le_refl _)
 ·rw[show ((0:Nat):Int)=0 from rfl]at this;rw[this];have gen:∀ (ys:List aj) (s:List Int),ys.foldl (fun s r=>s++[r.x0,r.x1]) s=s++ys.flatMap fun r=>[r.x0,r.x1]:=by
   intro ys
   induction ys with
   |nil=>intro s;simp
   |cons y ys ih=>intro s;simp[ih]
  congr 1;simpa using gen l []
 ·have hi':decide (((i:Nat):Int) < ((l.length:Nat):Int))=true:=by simpa using hi
  have ap:bI s.length s.length (sub ([l[i].x0,l[i].x1]:List Int) 0 2).length 2 8=true:=bB (n:=2) (by omega) (by simp only[maxLen];omega);simp only[jH,hi',cond_true,bn hi,bind_some,ap,dG,aC];refine⟨?_,by simp;omega⟩;rw[ay (by omega)];rfl
theorem EF {n:Nat} (es:List Int) (i:Nat) (hi:i+1 < es.length) (he:es.length < 1099511627776) (pre:List aj) (x' x1:Int) (c:List aA) (hl:pre.length+c.length < 1099511627776) (hn:c.length < n):
 iter (jI ((),es) (i:Int) (pre++ax x' x1 c)) n (((pre.length:Nat):Int),pre++ax x' x1 c)=some (pre++ax x' es[i+1] c):=by
 have:=gP (step:=jI ((),es) (i:Int) (pre++ax x' x1 c)) (fun j=>(((pre.length+j:Nat):Int),pre++(ax x' es[i+1] (c.take j)++ax x' x1 (c.drop j)))) c.length (pre++ax x' es[i+1] c) (fun j hj=>?_) ?_ n hn
 ·simpa[ax]using this
 ·have lt:(pre++ax x' x1 c).length=pre.length+c.length:=by rw[length_append,aQ]
  have d:decide (((pre.length+j:Nat):Int) < (((pre++ax x' x1 c).length:Nat):Int))=true:=by rw[lt];simp;omega
  have w:i64.wrap ((i:Int)+1)=((i+1:Nat):Int):=ay (by omega);have ib:inb ((pre.length+j:Nat):Int) (pre++ax x' x1 c).length=true:=bq (by rw[lt];omega);have tl:(ax x' es[i+1] (c.take j)).length=j:=by rw[aQ,List.length_take];omega
  have dr:c.drop j=c[j]::c.drop (j+1):=List.drop_eq_getElem_cons hj;have e1:ax x' x1 (c.drop j)=⟨x',c[j].from_,x1,c[j].to⟩::ax x' x1 (c.drop (j+1)):=by rw[dr];rfl
  have g:at? (pre++(ax x' es[i+1] (c.take j)++ax x' x1 (c.drop j))) (((0:Nat):Int)+((pre.length+j:Nat):Int))=some ⟨x',c[j].from_,x1,c[j].to⟩:=by
   rw[rM,List.getElem?_append_right (by omega),List.getElem?_append_right (by omega),tl,e1];simp
  have z:(((0:Nat):Int)+((pre.length+j:Nat):Int)).toNat=pre.length+j:=by omega
  have sn:ax x' es[i+1] (c.take j++[c[j]])=ax x' es[i+1] (c.take j)++[aj.mk x' c[j].from_ es[i+1] c[j].to]:=by unfold ax;rw[List.map_append];rfl
  have st:(pre++(ax x' es[i+1] (c.take j)++ax x' x1 (c.drop j))).set (pre.length+j) (aj.mk x' c[j].from_ es[i+1] c[j].to)=pre++(ax x' es[i+1] (c.take (j+1))++ax x' x1 (c.drop (j+1))):=by
   rw[List.set_append_right _ _ (by omega),List.set_append_right _ _ (by omega),tl,e1,List.take_succ_eq_append_getElem hj,sn,Nat.add_sub_cancel_left,Nat.sub_self,List.set_cons_zero,append_assoc];rfl
  simp only[jI,d,cond_true,w,bq hi,bZ hi,bind_some,ib,g,z,st];rw[ay (by omega)];rfl
 ·have lt:(pre++ax x' x1 c).length=pre.length+c.length:=by rw[length_append,aQ]
  have d:decide (((pre.length+c.length:Nat):Int) < (((pre++ax x' x1 c).length:Nat):Int))=false:=by rw[lt];simp
  simp only[jI,d,cond_false,List.take_length,List.drop_length];simp[ax]
theorem LK {n:Nat} {l:List aj} (hd:zk l) (hl:l.length<=200000) (hn:1000000<=n):rV n l=some (aP (aJ l)):=by
 unfold rV;have hv:=hd.2;have he:=y9 l;simp only[length_nil,aC,cond_true,ED (l:=l) (n:=n) (by omega) (by omega),bind_some];rw[lK (by rw[jd];omega) (by rw[jd];omega)];simp only[bind_some,bJ,aC,cond_true];rw[kS (by rw[bJ,jd];omega) (by rw[bJ,jd];omega)];simp only[bind_some];have hE:dP (iT ltI (l.flatMap fun r=>[r.x0,r.x1]))=aL l:=rfl;rw[hE];obtain⟨p1,p2⟩:=oC (fun a b=>(⟨a,b,bG l a⟩:aI)) (aL l);have hP:(aJ l).length=(aL l).length - 1:=p1;have bl:∀ i,(aP ((aJ l).take i)).length<=400000*200000:=by
  intro i;have h1:=Gl ((aJ l).take i) 200000 fun s hs=>by
   have:=Ng (List.mem_of_mem_take hs);omega
  have h2:((aJ l).take i).length<=400000:=by rw[List.length_take];omega
  exact Nat.le_trans h1 (Nat.mul_le_mul_right _ h2)
 have mx:max (0:Int) (i64.wrap ((((aL l).length:Nat):Int) - 1))=(((aJ l).length:Nat):Int):=by rw[aZ (by omega) (by omega)];omega
 have key:iter (jJ n l ((),aL l)) n ((0:Int),([]:List aj),([]:List aj))=some (aP (aJ l)):=by
  have:=gP (step:=jJ n l ((),aL l)) (fun i=>(((i:Nat):Int),aP ((aJ l).take i),Nn (aJ l) i)) (aJ l).length (aP (aJ l)) (fun i hi=>?_) ?_ n (by omega)
  ·simpa[aP,Nn]using this
  ·have hi2:i+1 < (aL l).length:=(by omega);have hi1:i < (aL l).length:=(by omega);have d:decide (((i:Nat):Int) < (((aJ l).length:Nat):Int))=true:=(by simpa using hi);have w:i64.wrap ((i:Int)+1)=((i+1:Nat):Int):=ay (by omega);have hs:(aJ l)[i]=⟨(aL l)[i],(aL l)[i+1],bG l (aL l)[i]⟩:=p2 i hi2 hi;have adj:∀ r∈l,(decide (r.x0<=(aL l)[i])&&decide ((aL l)[i+1]<=r.x1))=(decide (r.x0<=(aL l)[i])&&decide ((aL l)[i] < r.x1)):=by
    intro r hr;congr 1;have hm:r.x1∈aL l:=Ho.2 ⟨r,hr,.inr rfl⟩;obtain⟨j,hj,e⟩:=List.mem_iff_getElem.1 hm;have hst:=za l;rw[List.pairwise_iff_getElem]at hst;rw[<- e,Bool.eq_iff_iff,decide_eq_true_eq,decide_eq_true_eq];rcases Nat.lt_or_ge i j with hij |hij
    ·have a1:=hst i j hi1 hj hij;rcases Nat.eq_or_lt_of_le (show i+1<=j by omega)with e |hlt
     ·subst e;omega
     ·have a2:=hst (i+1) j hi2 hj hlt;omega
    ·rcases Nat.eq_or_lt_of_le hij with e |hlt
     ·subst e;have a2:=hst j (j+1) hj hi2 (by omega);omega
     ·have a1:=hst j i hj hi1 hlt;have a2:=hst i (i+1) hi1 hi2 (by omega);omega
   have lc:=Ei l (aL l)[i];have co:=Hy (n:=n) (l:=l) (x0:=(aL l)[i]) (x1:=(aL l)[i+1]) hd adj (by omega) (by omega);have tk:=List.take_succ_eq_append_getElem hi;have tkl:(aJ l).take (i+1)=(aJ l).take i++[(⟨(aL l)[i],(aL l)[i+1],bG l (aL l)[i]⟩:aI)]:=(by rw[tk,hs]);have la:Nn (aJ l) (i+1)=ax (aL l)[i] (aL l)[i+1] (bG l (aL l)[i]):=by
    unfold Nn;rw[tkl,List.getLast?_append];rfl
   have bi:=bl i;have ap:bI (aP ((aJ l).take i)).length (aP ((aJ l).take i)).length (ax (aL l)[i] (aL l)[i+1] (bG l (aL l)[i])).length (ax (aL l)[i] (aL l)[i+1] (bG l (aL l)[i])).length 32=true:=by
    refine bB ?_ ?_
    ·rw[aQ];omega
    ·rw[aQ];simp only[maxLen];omega
   simp only[jJ,mx,d,cond_true,bq hi1,bZ hi1,bind_some,w,bq hi2,bZ hi2,co,bE,aC,la,ap,dG];rcases List.eq_nil_or_concat ((aJ l).take i)with e0 |⟨S,t,e0⟩
   ·
    have lz:Nn (aJ l) i=ax 0 0 []:=(by unfold Nn;rw[e0];rfl);have wn:aP ((aJ l).take (i+1))=ax (aL l)[i] (aL l)[i+1] (bG l (aL l)[i]):=(by rw[tkl,e0];rfl);have wz:aP ((aJ l).take i)=[]:=(by rw[e0];rfl);rw[lz,agf (by omega) (by omega),wn,wz];cases hc:bG l (aL l)[i]with
    |nil=>
     have dz:decide ((((ax (aL l)[i] (aL l)[i+1] []).length:Nat):Int)>0)=false:=(by simp[ax]);simp only[dz,cond_false,bind_some,aC,cond_true];rfl
    |cons q c=>
     have dz:decide (q::c=[])=false:=(by simp);simp only[dz,bind_some];cases decide ((((ax (aL l)[i] (aL l)[i+1] (q::c)).length:Nat):Int)>0)<;>simp only[cond_true,cond_false,bind_some,aC]<;>rfl
   ·rw[List.concat_eq_append]at e0;have lz:Nn (aJ l) i=ax t.x0 t.x1 t.column:=(by unfold Nn;rw[e0,List.getLast?_append];rfl);have tk2:(aJ l).take (i+1)=S++[t,(⟨(aL l)[i],(aL l)[i+1],bG l (aL l)[i]⟩:aI)]:=(by rw[tkl,e0,append_assoc];rfl);rw[lz,agf (by omega) (by omega)];by_cases hc:bG l (aL l)[i]=t.column
    ·obtain⟨pre,x',w1,w2⟩:=Nl ⟨(aL l)[i],(aL l)[i+1],bG l (aL l)[i]⟩ t hc S;have ww:aP ((aJ l).take i)=pre++ax x' t.x1 t.column:=(by rw[e0,w1]);have ww2:aP ((aJ l).take (i+1))=pre++ax x' (aL l)[i+1] t.column:=(by rw[tk2,w2]);rw[ww2,ww];rw[ww,length_append,aQ]at bi;have s3:=EF (n:=n) (aL l) i hi2 (by omega) pre x' t.x1 t.column (by omega) (by rw[<- hc];omega);have wd:i64.wrap ((((pre++ax x' t.x1 t.column).length:Nat):Int) - (((ax (aL l)[i] (aL l)[i+1] (bG l (aL l)[i])).length:Nat):Int))=((pre.length:Nat):Int):=(by rw[length_append,aQ,aQ,hc,aZ (by omega) (by omega)];omega);have le:eqL (pre++ax x' t.x1 t.column).length (pre++ax x' (aL l)[i+1] t.column).length=true:=(by apply adr;rw[length_append,length_append,aQ,aQ]);have dc:decide (bG l (aL l)[i]=t.column)=true:=(by simpa using hc);simp only[wd,s3,le,dc,bind_some,cond_true];cases hd:decide ((((ax (aL l)[i] (aL l)[i+1] (bG l (aL l)[i])).length:Nat):Int)>0)with
     |true=>simp only[cond_true,bind_some,aC]
     |false=>
      have hz:t.column=[]:=by
       rw[aQ,hc]at hd;simp at hd;exact hd
      have hz2:bG l (aL l)[i]=[]:=(by rw[hc,hz]);simp only[cond_false,bind_some,aC,hz,hz2,ax,map_nil,List.append_nil,cond_true]
    ·have ww2:aP ((aJ l).take (i+1))=aP ((aJ l).take i)++ax (aL l)[i] (aL l)[i+1] (bG l (aL l)[i]):=(by rw[tk2,Rc _ t hc S,e0]);have dc:decide (bG l (aL l)[i]=t.column)=false:=(by simpa using hc);rw[ww2];simp only[dc,bind_some];cases decide ((((ax (aL l)[i] (aL l)[i+1] (bG l (aL l)[i])).length:Nat):Int)>0)<;>simp only[cond_true,cond_false,bind_some,aC]
  ·have d:decide ((((aJ l).length:Nat):Int) < (((aJ l).length:Nat):Int))=false:=(by simp);simp only[jJ,mx,d,cond_false,List.take_length,aC,cond_true]
 rw[key];simp only[bind_some,bE,aC,cond_true]
abbrev ack (t:sM):Prop:=t.area.length<=900∧t.from_.length*8<=140737488355328
theorem aas {t:sM} (h:ack t):Jr t=some t:=by
 unfold Jr;have h2:=h.2;rw[K8 (by omega),bind_some,show BN t.from_=some t.from_ from Nb (b:=8) (by omega) (by simp only[maxLen];omega),bind_some];simp only[bE,aC,cond_true]
theorem FE {n:Nat} {land:List sM} {id:Int} (h:∀ t∈land,ack t) (hl:land.length < 1099511627776) (hn:land.length < n):BP n land id=some (gm land id):=by
 unfold BP;have:=qP (l:=land) (step:=BO land id) (fun i=>(i:Int)) (fun t=>t.id==id) () (fun i=>(land.getD i adL,true)) (fun i hi=>?_) ?_ n hn
 ·rw[show ((0:Nat):Int)=0 from rfl]at this;rw[this];unfold gm;rcases aan (fun t:sM=>t.id==id) land with ⟨i,hi,h1,h2⟩ |⟨h1,h2⟩
  ·rw[h1,h2];simp[hi]
  ·rw[h1,h2];rfl
 ·simp only[BO,bF hi,cond_true,bn hi,bind_some,aas (h _ (getElem_mem hi))];cases land[i].id==id with
  |true=>simp[hi]
  |false=>simp only[cond_false];rw[ay (by omega)]
 ·simp[BO]
theorem AJ {land:List sM} (h:∀ t∈land,ack t) (id:Int):ack (gm land id).1:=by
 unfold gm;split
 ·rename_i t ht;exact h t (List.mem_of_find?_eq_some ht)
 ·simp[ack,adL]
structure Rs (t:dJ):Prop where
 rules:t.plan_rules.length<=20
 ruleOk:∀ r∈t.plan_rules,adO r
 zones:t.plan_zones.length<=20
 land:t.land.length<=20
 lots:∀ l∈t.land,ack l
 easements:t.easements.length<=5
 areas:∀ e∈t.easements,e.area.length<=10
theorem Nt {α:Type} (p:α->Bool):∀ l:List α,((List.range l.length).filter fun i=>(l[i]?).any p).filterMap (fun i=>l[i]?)=l.filter p
 |[]=>rfl
 |a::l=>by
  have ih:=Nt p l;rw[length_cons,List.range_succ_eq_map,List.filter_cons,List.filter_cons];have e:(List.filter (fun i=>((a::l)[i]?).any p) (List.map Nat.succ (List.range l.length))).filterMap (fun i=>(a::l)[i]?)=l.filter p:=by
   rw[List.filter_map,List.filterMap_map];exact ih
  cases hp:p a with
  |true=>simp[hp];simpa using e
  |false=>simp[hp];simpa using e
def EG (t:dJ) (lot day:Int):List eG:=bif (gm t.land lot).2 then t.plan_rules.filter (lQ (ofZ t.plan_zones (gm t.land lot).1.area) day)else []
theorem Hz (t:dJ) (lot day:Int):(EG t lot day).length<=t.plan_rules.length:=by
 unfold EG;cases (gm t.land lot).2 with
 |true=>exact length_filter_le _ _
 |false=>simp
theorem yK {n:Nat} {t:dJ} (h:Rs t) (lot day:Int) (hn:2000<=n):lI n t lot day=some (EG t lot day):=by
 obtain⟨h1,h2,h3,h4,h5,h6,h7⟩:=h;unfold lI EG;rw[FE h5 (by omega) (by omega)];simp only[bind_some];have lw:=AJ h5 lot;cases (gm t.land lot).2 with
 |false=>rfl
 |true=>
  have zl:=aeR t.plan_zones (gm t.land lot).1.area;simp only[Bool.not_true,cond_false,cond_true];rw[V9 _ _ (by simp only;omega) lw.1 hn];simp only[bind_some,bE,aC,cond_true];rw[NS _ _ _ h2 (by simp only;omega) (by omega) hn];simp only[bind_some,length_nil,aC,cond_true];generalize hZ:ofZ t.plan_zones (gm t.land lot).1.area=Z at*;have hm:∀ i∈LG t.plan_rules Z day,i < t.plan_rules.length:=fun i hi=>List.mem_range.1 (mem_filter.1 hi).1;have hlen:(LG t.plan_rules Z day).length<=t.plan_rules.length:=by
   have:=length_filter_le (fun i=>(t.plan_rules[i]?).any (lQ Z day)) (List.range t.plan_rules.length);rw[List.length_range]at this;exact this
  rw[<- Nt];rw[show ((List.range t.plan_rules.length).filter fun i=>(t.plan_rules[i]?).any (lQ Z day))=LG t.plan_rules Z day from rfl];generalize LG t.plan_rules Z day=idx at*
  have:=bC (l:=idx) (step:=kQ t (idx.map fun (i:Nat)=>(i:Int))) (fun i (s:List eG)=>((i:Int),s)) (fun i s=>s++(t.plan_rules[i]?).toList) (fun s=>s) (fun i s=>s.length<=i)
   (fun i hi s hs=>?_) (fun s hs=>by simp[kQ]) n (by omega) [] (Nat.le_refl _)
  ·rw[show ((0:Nat):Int)=0 from rfl]at this;rw[this];simp only[bind_some,bE,aC,cond_true];congr 1;have gen:∀ (ys:List Nat) (s:List eG),ys.foldl (fun s i=>s++(t.plan_rules[i]?).toList) s=s++ys.filterMap fun i=>t.plan_rules[i]? :=by
    intro ys
    induction ys with
    |nil=>intro s;simp
    |cons y ys ih=>
     intro s;rw[foldl_cons,ih,List.filterMap_cons];cases t.plan_rules[y]?<;>simp
   exact gen idx []
  ·have hk:=hm _ (getElem_mem hi);have e1:(idx.map fun (i:Nat)=>(i:Int)).length=idx.length:=length_map _;have g1:at? (idx.map fun (i:Nat)=>(i:Int)) (((0:Nat):Int)+((i:Nat):Int))=some ((idx[i]:Nat):Int):=(by rw[bZ (by rw[e1];exact hi)];simp);have ap:bI s.length s.length (sub ([t.plan_rules[idx[i]]]:List eG) 0 1).length 1 232=true:=bB (n:=1) (by omega) (by simp only[maxLen];omega);simp only[kQ,e1,bF hi,cond_true,bq hi,g1,bind_some,bn hk,ap,dG,aC,ay (show i < 9223372036854775807 by omega)];rw[List.getElem?_eq_getElem hk];exact⟨rfl,by simp;omega⟩
def EH:ByteArray:=⟨#[115,101,116,98,97,99,107]⟩
def acn (r:eG):Bool:=match r.test_args with
 |[a,b]=>r.kind==0&&(r.test_op==12&&(a.op==0&&(decide (a.args.length=0)&&(b.op==1&&(sEq b.s EH&&decide (b.args.length=0))))))
 |_=>false
def aeV (r:eG):Int:=match r.test_args with
 |[a,_]=>a.n
 |_=>0
theorem FO (r:eG):∃ m,mg r=some (m,acn r)∧(acn r=true->m=aeV r):=by
 unfold mg acn aeV;by_cases h2:r.test_args.length=2
 ·match hm:r.test_args,h2 with
  |[a,b],_=>
   have l2:(((([a,b]:List oQ).length:Nat):Int) != 2)=false:=rfl;have g0:at? [a,b] 0=some a:=rfl;have g1:at? [a,b] 1=some b:=rfl;have la:(((a.args.length:Nat):Int)==0)=decide (a.args.length=0):=(by rw[Bool.eq_iff_iff];simp);have lb:(((b.args.length:Nat):Int)==0)=decide (b.args.length=0):=(by rw[Bool.eq_iff_iff];simp);simp only[l2,kW,bind_some,g0,g1,la,lb,bne];rw[show (ByteArray.toList b.s==ByteArray.toList (⟨#[115,101,116,98,97,99,107]⟩))=sEq b.s EH from rfl];generalize sEq b.s EH=q;generalize (a.op==0)=q1;generalize (b.op==1)=q2;generalize decide (a.args.length=0)=q3;generalize decide (b.args.length=0)=q4;cases r.kind==0<;>cases r.test_op==12<;>cases q<;>cases q1<;>cases q2<;>cases q3<;>cases q4<;>exact⟨_,rfl,fun h=>by first |rfl |cases h⟩
 ·have l2:(((r.test_args.length:Nat):Int) != 2)=true:=by rw[bne_iff_ne];omega
  have e:(match r.test_args with
   |[a,b]=>r.kind==0&&(r.test_op==12&&(a.op==0&&(decide (a.args.length=0)&&(b.op==1&&(sEq b.s EH&&decide (b.args.length=0))))))
   |_=>false)=false:=by
   match hm:r.test_args with
   |[]=>rfl
   |[_]=>rfl
   |[_,_]=>rw[hm]at h2;simp at h2
   |_::_::_::_=>rfl
  rw[e,l2];refine⟨0,?_,fun h=>by cases h⟩;cases r.kind != 0<;>cases r.test_op != 12<;>rfl
def nN (t:dJ) (lot day:Int):Int:=(EG t lot day).foldl (fun m r=>bif acn r then max m (aeV r)else m) 0
theorem jh {n:Nat} {t:dJ} (h:Rs t) (lot day:Int) (hn:2000<=n):fU n t lot day=some (nN t lot day):=by
 have hl:=Hz t lot day;have h1:=h.rules;unfold fU nN;rw[yK h lot day hn];simp only[bind_some];generalize EG t lot day=l at*;have:=Ag (l:=l) (step:=ja l) (fun i (s:Int)=>(s,((i:Nat):Int))) (fun r m=>bif acn r then max m (aeV r)else m) (fun s=>s) (fun i hi s=>?_) (fun s=>by simp[ja]) n (by omega) 0
 ·rw[show ((0:Nat):Int)=0 from rfl]at this;rw[this];rfl
 ·obtain⟨m,e1,e2⟩:=FO l[i];simp only[ja,bF hi,cond_true,bq hi,bZ hi,bind_some,e1,kW,ay (show i < 9223372036854775807 by omega)];cases hs:acn l[i]with
  |true=>rw[e2 hs]
  |false=>rfl
def OX (r:eG):aY:=⟨r.plane_side,r.plane_base,r.plane_num,r.plane_den⟩
def qg (t:dJ) (lot day:Int):List aY:=((EG t lot day).filter fun r=>r.kind==1).map OX
theorem Nu (t:dJ) (lot day:Int):(qg t lot day).length<=t.plan_rules.length:=by
 unfold qg;rw[length_map];exact Nat.le_trans (length_filter_le _ _) (Hz t lot day)
theorem ku {n:Nat} {t:dJ} (h:Rs t) (lot day:Int) (hn:2000<=n):gB n t lot day=some (qg t lot day):=by
 have hl:=Hz t lot day;have h1:=h.rules;unfold gB qg;rw[yK h lot day hn];simp only[bind_some,length_nil,aC,cond_true];generalize EG t lot day=l at*
 have:=bC (l:=l) (step:=j6 l) (fun i (s:List aY)=>((i:Int),s)) (fun r s=>bif r.kind==1 then s++[OX r]else s) (fun s=>s) (fun i s=>s.length<=i)
  (fun i hi s hs=>?_) (fun s hs=>by simp[j6]) n (by omega) [] (Nat.le_refl _)
 ·rw[show ((0:Nat):Int)=0 from rfl]at this;rw[this];simp only[bind_some,bE,aC,cond_true];congr 1;have gen:∀ (ys:List eG) (s:List aY),ys.foldl (fun s r=>bif r.kind==1 then s++[OX r]else s) s=s++(ys.filter fun r=>r.kind==1).map OX:=by
   intro ys
   induction ys with
   |nil=>intro s;simp
   |cons y ys ih=>
    intro s;rw[foldl_cons,ih,List.filter_cons];cases y.kind==1<;>simp
  exact gen l []
 ·have ap:bI s.length s.length (sub ([(aY.mk (l[i]).plane_side (l[i]).plane_base (l[i]).plane_num (l[i]).plane_den)]:List aY) 0 1).length 1 32=true:=bB (n:=1) (by omega) (by simp only[maxLen];omega);simp only[j6,bF hi,cond_true,bq hi,bZ hi,bind_some,kW,ap,dG,aC,ay (show i < 9223372036854775807 by omega)];cases (l[i]).kind==1<;>refine⟨rfl,?_⟩<;>simp<;>omega
def Nv (a r:aj):aj:=⟨min a.x0 r.x0,min a.y0 r.y0,max a.x1 r.x1,max a.y1 r.y1⟩
def OY:List aj->aj
 |[]=>⟨0,0,0,0⟩
 |r::l=>l.foldl Nv r
def nX (a:List aj):aj×Bool:=bif decide (a≠[])&&rightL a then (OY a,true)else (⟨0,0,0,0⟩,false)
theorem Yu {n:Nat} {a:List aj} (ha:a≠[]) (hv:∀ r∈a,OkR r=true) (hl:a.length<=900) (hn:2000<=n):JB n a=some (OY a,true):=by
 unfold JB;have:=Ag (l:=a.zip (List.range a.length)) (step:=yC a) (fun i (s:Bool×Int×Int×Int×Int)=>(s.1,((i:Nat):Int),s.2)) (fun p s=>bif !s.1 then (true,p.1.x0,p.1.y0,p.1.x1,p.1.y1)else (s.1,min s.2.1 p.1.x0,min s.2.2.1 p.1.y0,max s.2.2.2.1 p.1.x1,max s.2.2.2.2 p.1.y1)) (fun s=>s) (fun i hi s=>?_) (fun s=>?_) n (by simp;omega) (false,0,0,0,0)
 ·rw[show ((0:Nat):Int)=0 from rfl]at this;simp only at this;rw[this];cases a with
  |nil=>exact absurd rfl ha
  |cons r l=>
   have gen:∀ (l:List aj) (k:List Nat) (s:aj),l.length<=k.length->(l.zip k).foldl (fun (s:Bool×Int×Int×Int×Int) p=>bif !s.1 then (true,p.1.x0,p.1.y0,p.1.x1,p.1.y1)else (s.1,min s.2.1 p.1.x0,min s.2.2.1 p.1.y0,max s.2.2.2.1 p.1.x1,max s.2.2.2.2 p.1.y1)) (true,s.x0,s.y0,s.x1,s.y1)=(true,(l.foldl Nv s).x0,(l.foldl Nv s).y0,(l.foldl Nv s).x1,(l.foldl Nv s).y1):=by
    intro l
    induction l with
    |nil=>intro k s _;rfl
    |cons r l ih=>
     intro k s hk;cases k with
     |nil=>simp at hk
     |cons j k=>
      rw[List.zip_cons_cons,foldl_cons,foldl_cons];exact ih k (Nv s r) (by simpa using hk)
   rw[length_cons,List.range_succ_eq_map,List.zip_cons_cons,foldl_cons];simp only[Bool.not_false,cond_true];rw[gen l _ r (by simp)];rfl
 ·have hi':i < a.length:=by simpa using hi
  obtain⟨s1,s2,s3,s4,s5⟩:=s;have ok:=hv _ (getElem_mem hi');simp only[yC,bF hi',cond_true,bn hi',bind_some,oz,ok,Bool.not_true,cond_false,kW,List.getElem_zip,ay (show i < 9223372036854775807 by omega)]
 ·obtain⟨s1,s2,s3,s4,s5⟩:=s;have:(a.zip (List.range a.length)).length=a.length:=by simp
  simp only[this,yC,nM,cond_false]
theorem Ch {n:Nat} (a:List aj) (hl:a.length<=900) (hn:2000<=n):vS n a=some (nX a):=by
 unfold vS nX;cases a with
 |nil=>rfl
 |cons r l=>
  have e:((((r::l).length:Nat):Int)==0)=false:=by simp;omega
  have e2:decide (r::l≠[])=true:=by simp
  rw[lN (by omega) (by omega) (by omega),e,e2];simp only[cond_false,bind_some,Bool.true_and];cases hr:rightL (r::l)with
  |false=>rfl
  |true=>
   simp only[Bool.not_true,cond_false];rw[Yu (by simp) (dU hr).1 hl hn];rfl
theorem Rt:∀ (l:List aj) (r:aj),OkR r=true->(∀ q∈l,OkR q=true)->OkR (l.foldl Nv r)=true
 |[],_,h,_=>h
 |q::l,r,h,hl=>by
  rw[foldl_cons];refine Rt l _ ?_ fun p hp=>hl p (mem_cons_of_mem _ hp);have:=hl q mem_cons_self;rw[rY]at*;unfold Nv;simp only;omega
theorem aat {a:List aj} (h:a≠[]) (hr:rightL a=true):nX a=(OY a,true)∧OkR (OY a)=true:=by
 unfold nX;have e2:decide (a≠[])=true:=by simpa using h
 rw[hr,e2];refine⟨rfl,?_⟩;have hv:=(dU hr).1;cases a with
 |nil=>exact absurd rfl h
 |cons r l=>exact Rt l r (hv r mem_cons_self) fun q hq=>hv q (mem_cons_of_mem _ hq)
def qR (base may:List aj):List aj:=base.flatMap fun r=>(may.filter (eY r)).map (bD r)
theorem Yv (base may:List aj) (x y:Int):aV (qR base may) x y=(aV base x y&&aV may x y):=by
 unfold qR;rw[EC,Bool.eq_iff_iff,and_eq_true,any_eq_true];constructor
 ·rintro⟨r,hr,h⟩;obtain⟨q,hq,hh⟩:=(kr _ _ _).1 h;obtain⟨m,hm,rfl⟩:=mem_map.1 hq;rw[JY,and_eq_true]at hh;exact⟨(kr _ _ _).2 ⟨r,hr,hh.1⟩,(kr _ _ _).2 ⟨m,(mem_filter.1 hm).1,hh.2⟩⟩
 ·rintro⟨h1,h2⟩;obtain⟨r,hr,hh1⟩:=(kr _ _ _).1 h1;obtain⟨m,hm,hh2⟩:=(kr _ _ _).1 h2;refine⟨r,hr,(kr _ _ _).2 ⟨bD r m,mem_map.2 ⟨m,mem_filter.2 ⟨hm,?_⟩,rfl⟩,by rw[JY,hh1,hh2];rfl⟩⟩;cases hb:eY r m with
  |true=>rfl
  |false=>have:=UJ hb x y;rw[hh1,hh2]at this;cases this
theorem Yw {base may:List aj} (hb:zk base) (h1:may.length<=1) (hm:∀ q∈may,OkR q=true):zk (qR base may):=by
 refine⟨?_,fun q hq=>?_⟩
 ·unfold qR;rw[List.pairwise_flatMap];refine⟨fun r hr=>?_,hb.1.imp fun {r s} hrs p hp q hq x y g1 g2=>?_⟩
  ·have:((may.filter (eY r)).map (bD r)).length<=1:=by rw[length_map];exact Nat.le_trans (length_filter_le _ _) h1
   match (may.filter (eY r)).map (bD r),this with
   |[],_=>exact List.Pairwise.nil
   |[_],_=>simp
   |_::_::_,h=>simp at h
  ·obtain⟨m,_,rfl⟩:=mem_map.1 hp;obtain⟨m',_,rfl⟩:=mem_map.1 hq;rw[JY,and_eq_true]at g1 g2;exact hrs x y g1.1 g2.1
 ·obtain⟨r,hr,h⟩:=mem_flatMap.1 hq;obtain⟨m,hm',rfl⟩:=mem_map.1 h;obtain⟨hm1,hm2⟩:=mem_filter.1 hm';exact Wi (hb.2 r hr) (hm m hm1) hm2
theorem Yx {base may:List aj} {X Y:List Int} (hx:∀ r∈base,r.x0∈X∧r.y0∈Y) (hm:∀ r∈may,r.x0∈X∧r.y0∈Y):AB X Y (qR base may):=by
 intro q hq;obtain⟨r,hr,h⟩:=mem_flatMap.1 hq;obtain⟨m,hm',rfl⟩:=mem_map.1 h;have a:=hx r hr;have b:=hm m (mem_filter.1 hm').1;exact⟨OW a.1 b.1,OW a.2 b.2⟩
def qU (h:Int) (l:List aj) (es:List aX):List aj:=es.foldl (fun l e=>bif decide (e.top>=h)then l else e.area.foldl Dg l) l
theorem EI {n:Nat} (may:List aj) (z:Int) (r:aj) (out:List aj) (ho:out.length<=1000000) (h1:may.length<=1000) (hn:2000<=n):
 iter (jK (may,z) r) n ((0:Int),out)=some (out++(may.filter (eY r)).map (bD r)):=by
 have:=bC (l:=may) (step:=jK (may,z) r) (fun i (s:List aj)=>((i:Int),s)) (fun m s=>bif eY r m then s++[bD r m]else s) (fun s=>s) (fun i s=>s.length<=out.length+i)
  (fun i hi s hs=>?_) (fun s hs=>by simp[jK]) n (by omega) out (Nat.le_refl _)
 ·rw[show ((0:Nat):Int)=0 from rfl]at this;rw[this];congr 1;have gen:∀ (ys:List aj) (s:List aj),ys.foldl (fun s m=>bif eY r m then s++[bD r m]else s) s=s++(ys.filter (eY r)).map (bD r):=by
   intro ys
   induction ys with
   |nil=>intro s;simp
   |cons y ys ih=>
    intro s;rw[foldl_cons,ih,List.filter_cons];cases eY r y<;>simp
  exact gen may out
 ·have ap:bI s.length s.length (sub ([bD r may[i]]:List aj) 0 1).length 1 32=true:=bB (n:=1) (by omega) (by simp only[maxLen];omega);simp only[jK,bF hi,cond_true,bq hi,bZ hi,bind_some,AA,kW,ap,dG,aC,ay (show i < 9223372036854775807 by omega)];rw[show (decide ((bD r may[i]).x0 < (bD r may[i]).x1)&&decide ((bD r may[i]).y0 < (bD r may[i]).y1))=eY r may[i]from rfl];cases eY r may[i]<;>refine⟨rfl,?_⟩<;>simp<;>omega
theorem EJ {n:Nat} (base may:List aj) (z:Int) (h0:base.length<=1000) (h1:may.length<=1) (hn:2000<=n):
 iter (jL n base (may,z)) n ((0:Int),([]:List aj))=some (qR base may):=by
 have:=bC (l:=base) (step:=jL n base (may,z)) (fun i (s:List aj)=>((i:Int),s)) (fun r s=>s++(may.filter (eY r)).map (bD r)) (fun s=>s) (fun i s=>s.length<=i)
  (fun i hi s hs=>?_) (fun s hs=>by simp[jL]) n (by omega) [] (Nat.le_refl _)
 ·rw[show ((0:Nat):Int)=0 from rfl]at this;rw[this];congr 1;have gen:∀ (ys:List aj) (s:List aj),ys.foldl (fun s r=>s++(may.filter (eY r)).map (bD r)) s=s++qR ys may:=by
   intro ys
   induction ys with
   |nil=>intro s;simp[qR]
   |cons y ys ih=>intro s;rw[foldl_cons,ih];simp[qR]
  exact gen base []
 ·have l1:((may.filter (eY base[i])).map (bD base[i])).length<=1:=by rw[length_map];exact Nat.le_trans (length_filter_le _ _) h1
  simp only[jL,bF hi,cond_true,bn hi,bind_some,aC,EI may z base[i] s (by omega) (by omega) hn,ay (show i < 9223372036854775807 by omega)];exact⟨trivial,by rw[length_append];omega⟩
structure aeW (X Y:List Int) (es:List aX):Prop where
 ok:∀ e∈es,rightL e.area=true
 x0:∀ e∈es,∀ c∈e.area,c.x0∈X
 x1:∀ e∈es,∀ c∈e.area,c.x1∈X
 y1:∀ e∈es,∀ c∈e.area,c.y1∈Y
 len:∀ e∈es,e.area.length<=200
 size:X.length*Y.length<=200000
theorem LM {X Y:List Int} (hs:X.length*Y.length<=200000):∀ (cs:List aj),(∀ c∈cs,OkR c=true∧c.x0∈X∧c.x1∈X∧c.y1∈Y)->∀ l,zk l->AB X Y l->zk (cs.foldl Dg l)∧AB X Y (cs.foldl Dg l)∧∀ x y,aV (cs.foldl Dg l) x y=(aV l x y&&!aV cs x y)
 |[],_,l,hd,hx=>⟨hd,hx,fun x y=>by simp[aV]⟩
 |c::cs,h,l,hd,hx=>by
  obtain⟨o,a,b,d⟩:=h c mem_cons_self;obtain⟨g1,g2,g3⟩:=LM hs cs (fun q hq=>h q (mem_cons_of_mem _ hq)) (Dg l c) (UK hd o) (UL hd.2 o hx a b d);refine⟨g1,g2,fun x y=>?_⟩;rw[foldl_cons,g3,aci];have e:aV (c::cs) x y=(jg c x y || aV cs x y):=by simp[aV,jg]
  rw[e];cases aV l x y<;>cases jg c x y<;>cases aV cs x y<;>rfl
theorem EK {X Y:List Int} {h:Int}:∀ (es:List aX),aeW X Y es->∀ l,zk l->AB X Y l->zk (qU h l es)∧AB X Y (qU h l es)∧∀ x y,aV (qU h l es) x y=(aV l x y&&es.all fun e=>decide (h<=e.top) || !aV e.area x y)
 |[],_,l,hd,hx=>⟨hd,hx,fun x y=>by simp[qU]⟩
 |e::es,hc,l,hd,hx=>by
  have hc':aeW X Y es:=⟨fun a ha=>hc.ok a (mem_cons_of_mem _ ha),fun a ha=>hc.x0 a (mem_cons_of_mem _ ha),fun a ha=>hc.x1 a (mem_cons_of_mem _ ha),fun a ha=>hc.y1 a (mem_cons_of_mem _ ha),fun a ha=>hc.len a (mem_cons_of_mem _ ha),hc.size⟩;have em:e∈e::es:=mem_cons_self;have dd:decide (e.top>=h)=decide (h<=e.top):=rfl;by_cases ht:h<=e.top
  ·have d:decide (h<=e.top)=true:=(by simpa using ht);have e0:qU h l (e::es)=qU h l es:=by
    unfold qU;rw[foldl_cons,dd,d];rfl
   rw[e0];obtain⟨g1,g2,g3⟩:=EK (h:=h) es hc' l hd hx;refine⟨g1,g2,fun x y=>?_⟩;rw[g3,all_cons,d];simp
  ·have d:decide (h<=e.top)=false:=(by simpa using ht);have e0:qU h l (e::es)=qU h (e.area.foldl Dg l) es:=by
    unfold qU;rw[foldl_cons,dd,d];rfl
   rw[e0];obtain⟨k1,k2,k3⟩:=LM hc.size e.area (fun c hcm=>⟨(dU (hc.ok e em)).1 c hcm,hc.x0 e em c hcm,hc.x1 e em c hcm,hc.y1 e em c hcm⟩) l hd hx;obtain⟨g1,g2,g3⟩:=EK (h:=h) es hc' _ k1 k2;refine⟨g1,g2,fun x y=>?_⟩;rw[g3,k3,all_cons,d,Bool.false_or,Bool.and_assoc]
theorem EL {n:Nat} (e:aX) {X Y:List Int} (hs:X.length*Y.length<=200000) (he:∀ c∈e.area,OkR c=true∧c.x0∈X∧c.x1∈X∧c.y1∈Y) (hl:e.area.length<=1000) (l:List aj) (hd:zk l) (hx:AB X Y l) (hn:1000000<=n):
 iter (jM n e) n ((0:Int),l)=some (e.area.foldl Dg l):=by
 have:=bC (l:=e.area) (step:=jM n e) (fun i (s:List aj)=>((i:Int),s)) (fun c s=>Dg s c) (fun s=>s) (fun i s=>zk s∧AB X Y s)
  (fun i hi s hs'=>?_) (fun s hs=>by simp[jM]) n (by omega) l ⟨hd,hx⟩
 ·rw[show ((0:Nat):Int)=0 from rfl]at this;exact this
 ·obtain⟨o,a,b,c⟩:=he _ (getElem_mem hi);have hlen:=Yt hs'.1 hs'.2;simp only[jM,bF hi,cond_true,bn hi,bind_some,bE,aC,NU (n:=n) (l:=s) (e.area[i]) (by omega) (by omega) (by omega),ay (show i < 9223372036854775807 by omega)];exact⟨trivial,UK hs'.1 o,UL hs'.1.2 o hs'.2 a b c⟩
theorem EM {n:Nat} {X Y:List Int} {h:Int} (es:List aX) (hc:aeW X Y es) (hl:es.length<=1000) (l:List aj) (hd:zk l) (hx:AB X Y l) (hn:1000000<=n):
 iter (jN n es h) n ((0:Int),l)=some (qU h l es):=by
 have:=bC (l:=es) (step:=jN n es h) (fun i (s:List aj)=>((i:Int),s)) (fun e s=>bif decide (e.top>=h)then s else e.area.foldl Dg s) (fun s=>s) (fun i s=>zk s∧AB X Y s)
  (fun i hi s hs'=>?_) (fun s hs=>by simp[jN]) n (by omega) l ⟨hd,hx⟩
 ·rw[show ((0:Nat):Int)=0 from rfl]at this;exact this
 ·have em:=getElem_mem hi;have al:=hc.len _ em;have hcs:∀ c∈(es[i]).area,OkR c=true∧c.x0∈X∧c.x1∈X∧c.y1∈Y:=fun c hcm=>⟨(dU (hc.ok _ em)).1 c hcm,hc.x0 _ em c hcm,hc.x1 _ em c hcm,hc.y1 _ em c hcm⟩;have r4:=EL (n:=n) es[i] hc.size hcs (by omega) s hs'.1 hs'.2 hn;obtain⟨k1,k2,_⟩:=LM hc.size (es[i]).area hcs s hs'.1 hs'.2;simp only[jN,bF hi,cond_true,bn hi,bind_some,aC,r4,kW,ay (show i < 9223372036854775807 by omega)];cases decide ((es[i]).top>=h)with
  |true=>exact⟨trivial,hs'⟩
  |false=>exact⟨trivial,k1,k2⟩
def Yy (base:List aj) (b:aj) (ps:List aY) (es:List aX) (h x y:Int):Bool:=
 aV base x y&&(decide (nW b ps=true∧∀ p∈ps,h<=Yp b p x y)&&es.all fun e=>decide (h<=e.top) || !aV e.area x y)
def adQ (l:List aj):List aj×Int:=if l.length>200 then ([],6)else (l,0)
theorem HV {n:Nat} (base:List aj) (b:aj) (ps:List aY) (es:List aX) {h:Int} (hb:rightL base=true) (hp:ps.length<=1000) (hes:∀ e∈es,rightL e.area=true) (hel:es.length<=5) (hal:∀ e∈es,e.area.length<=10) (hh:1<=h∧h<=4096) (hn:1000000<=n):
 ∃ L,zk L∧(∀ x y,aV L x y=Yy base b ps es h x y)∧kM n base b ps es h=some (adQ (aP (aJ L))):=by
 unfold kM;cases hbase:base with
 |nil=>exact⟨[],⟨List.Pairwise.nil,by simp⟩,fun x y=>by simp[aV,Yy],rfl⟩
 |cons r0 l0=>
  rw[<- hbase];have e0:(((base.length:Nat):Int)==0)=false:=by rw[hbase];simp;omega
  obtain⟨bv,bl,_⟩:=dU hb;obtain⟨r,g1,g2,g3,g4⟩:=NT (n:=n) b ps hh hp (by omega);obtain⟨may,z⟩:=r;simp only at g2 g3 g4;have hd:=aaq hb;have dC:=Yw hd g2 g3
  let cs:=es.flatMap fun e=>e.area
  have hcsl:cs.length<=50:=by
   show (es.flatMap fun e=>e.area).length<=50;rw[List.flatMap_def];have:=wV 10 (es.map fun e=>e.area) fun x hx=>(by obtain⟨e,he,rfl⟩:=mem_map.1 hx;exact hal e he);rw[length_map]at this;omega
  let X:=(base.map (·.x0))++(may.map (·.x0))++(cs.map (·.x0))++(cs.map (·.x1))
  let Y:=(base.map (·.y0))++(may.map (·.y0))++(cs.map (·.y1))
  have hX:X.length<=301:=by show ((base.map (·.x0))++(may.map (·.x0))++(cs.map (·.x0))++(cs.map (·.x1))).length<=301;simp only[length_append,length_map];omega
  have hY:Y.length<=251:=by show ((base.map (·.y0))++(may.map (·.y0))++(cs.map (·.y1))).length<=251;simp only[length_append,length_map];omega
  have hXY:X.length*Y.length<=200000:=Nat.le_trans (Nat.mul_le_mul hX hY) (by omega);have mc:∀ e∈es,∀ c∈e.area,c∈cs:=fun e he c hc=>mem_flatMap.2 ⟨e,he,hc⟩;have hC:aeW X Y es:=⟨hes,fun e he c hc=>by simp only[X,mem_append,mem_map];exact .inl (.inr ⟨c,mc e he c hc,rfl⟩),fun e he c hc=>by simp only[X,mem_append,mem_map];exact .inr ⟨c,mc e he c hc,rfl⟩,fun e he c hc=>by simp only[Y,mem_append,mem_map];exact .inr ⟨c,mc e he c hc,rfl⟩,fun e he=>by have:=hal e he;omega,hXY⟩;have cC:AB X Y (qR base may):=Yx (fun r hr=>⟨by simp only[X,mem_append,mem_map];exact .inl (.inl (.inl ⟨r,hr,rfl⟩)),by simp only[Y,mem_append,mem_map];exact .inl (.inl ⟨r,hr,rfl⟩)⟩) (fun r hr=>⟨by simp only[X,mem_append,mem_map];exact .inl (.inl (.inr ⟨r,hr,rfl⟩)),by simp only[Y,mem_append,mem_map];exact .inl (.inr ⟨r,hr,rfl⟩)⟩);obtain⟨k1,k2,k3⟩:=EK (h:=h) es hC (qR base may) dC cC;refine⟨qU h (qR base may) es,k1,fun x y=>?_,?_⟩
  ·rw[k3,Yv];unfold Yy;rw[Bool.and_assoc];cases hcb:aV base x y with
   |false=>rfl
   |true=>
    have ig:InG x y:=vE bv hcb;congr 2;rw[Bool.eq_iff_iff,g4,decide_eq_true_eq];exact⟨fun ⟨a,_,c⟩=>⟨a,c⟩,fun⟨a,c⟩=>⟨a,ig,c⟩⟩
  ·have kl:=Yt k1 k2;rw[e0];simp only[cond_false,g1,bind_some,length_nil,aC,cond_true,EJ base may z (by omega) g2 (show 2000<=n by omega),EM es hC (by omega) _ dC cC hn,bE,LK k1 (by omega) hn];unfold adQ;generalize aP (aJ (qU h (qR base may) es))=W;by_cases h2:W.length>200
   ·have:decide (((W.length:Nat):Int)>200)=true:=(by simp;omega);rw[this,if_pos h2];rfl
   ·have:decide (((W.length:Nat):Int)>200)=false:=(by simp;omega);rw[this,if_neg h2];rfl
theorem aau {L:List aj} (h:zk L) (hl:(aP (aJ L)).length<=200):rightL (aP (aJ L))=true∧∀ x y,aV (aP (aJ L)) x y=aV L x y:=by
 have hc:∀ x,d9 (aJ L) x=bG L x:=zb L;have hin:∀ x y,inS (d9 (aJ L) x) y=aV L x y:=fun x y=>by rw[hc,(je h.2 x).2]
 refine⟨JL (qf L) (fun x=>by rw[hc];exact (je h.2 x).1) (fun x y hxy=>vE h.2 (by rw[<- hin];exact hxy)) hl,fun x y=>?_⟩;rw[JI (qf L),hin]
def Yz (t:dJ) (lot:Int):List aX:=t.easements.filter fun e=>e.lot==lot&&rightL e.area
def fe (t:dJ) (lot:Int):List aj:=(gm t.land lot).1.area
def gF (t:dJ) (lot day:Int):List aj×Int:=if nN t lot day<=1048576 then kT (fe t lot) (nN t lot day)else ([],0)
theorem YA (a:List aj) (d:Int):(kT a d).2=0∨((kT a d).1=[]∧((kT a d).2=1∨(kT a d).2=6)):=by
 unfold kT;split
 ·split
  ·exact .inr ⟨rfl,.inr rfl⟩
  ·exact .inl rfl
 ·exact .inr ⟨rfl,.inl rfl⟩
theorem aco (t:dJ) (lot day:Int):(gF t lot day).2=0∨(gF t lot day).2=1∨(gF t lot day).2=6:=by
 unfold gF;split
 ·rcases YA (fe t lot) (nN t lot day)with h |⟨_,h⟩
  ·exact .inl h
  ·exact .inr h
 ·exact .inl rfl
theorem yL {t:dJ} {lot day:Int} (h:(gF t lot day).2=0):rightL (gF t lot day).1=true:=by
 unfold gF at*;split
 ·rename_i hd;rw[if_pos hd]at h;exact (Nq (r:=(kT (fe t lot) (nN t lot day)).1) (by rw[<- h])).2.2.1
 ·rfl
theorem acp {n:Nat} {t:dJ} (h:Rs t) (lot:Int) (hn:2000<=n):iter (fV n t lot) n ((0:Int),([]:List aX))=some (Yz t lot):=by
 have hl:=h.easements
 have:=bC (l:=t.easements) (step:=fV n t lot) (fun i (s:List aX)=>((i:Int),s)) (fun e s=>bif e.lot==lot&&rightL e.area then s++[e]else s) (fun s=>s) (fun i s=>s.length<=i)
  (fun i hi s hs=>?_) (fun s hs=>by simp[fV]) n (by omega) [] (Nat.le_refl _)
 ·rw[show ((0:Nat):Int)=0 from rfl]at this;rw[this];congr 1;have gen:∀ (ys:List aX) (s:List aX),ys.foldl (fun s e=>bif e.lot==lot&&rightL e.area then s++[e]else s) s=s++ys.filter fun e=>e.lot==lot&&rightL e.area:=by
   intro ys
   induction ys with
   |nil=>intro s;simp
   |cons y ys ih=>
    intro s;rw[foldl_cons,ih,List.filter_cons];cases y.lot==lot&&rightL y.area<;>simp
  exact gen t.easements []
 ·have al:=h.areas _ (getElem_mem hi);have ap:bI s.length s.length (sub ([t.easements[i]]:List aX) 0 1).length 1 40=true:=bB (n:=1) (by omega) (by simp only[maxLen];omega);simp only[fV,bF hi,cond_true,bn hi,bind_some,lN (n:=n) (l:=(t.easements[i]).area) (by omega) (by omega) (by omega),kW,ap,dG,aC,ay (show i < 9223372036854775807 by omega)];cases (t.easements[i]).lot==lot<;>cases rightL (t.easements[i]).area<;>refine⟨rfl,?_⟩<;>simp<;>omega
def YB (t:dJ) (lot day h x y:Int):Bool:=Yy (gF t lot day).1 (nX (fe t lot)).1 (qg t lot day) (Yz t lot) h x y
def abf (t:dJ) (lot day:Int) (W:Nat->List aj):Prop:=∀ j:Nat,j < 12->∃ L,zk L∧(∀ x y,aV L x y=YB t lot day (3*((j:Int)+1)) x y)∧W j=aP (aJ L)
theorem Dh {n:Nat} (F:Nat) (hF:F<=12) (base:List aj) (es:List aX) (b:aj×Bool) (ps:List aY) (W:Nat->List aj) (hW:∀ j:Nat,j < 12->kM n base b.1 ps es (3*((j:Int)+1))=some (adQ (W j))) (hn:2000<=n):
 iter (dO n (F:Int) base es b ps) n ((0:Int),([]:List (List aj)))=some (if ∃ j:Nat,j < F∧(W j).length>200 then .inr ([],6)else .inl ((List.range F).map W)):=by
 have st:∀ j,j < F->dO n (F:Int) base es b ps (((j:Nat):Int),(List.range j).map W)=some (if (W j).length>200 then .inr (.inr ([],6))else .inl (((j+1:Nat):Int),(List.range (j+1)).map W)):=by
  intro j hj;have w:i64.wrap ((j:Int)+1)=((j:Int)+1):=aZ (by omega) (by omega);have w3:i64.wrap (3*((j:Int)+1))=3*((j:Int)+1):=aZ (by omega) (by omega);have ap:bI ((List.range j).map W).length ((List.range j).map W).length (sub ([W j]:List (List aj)) 0 1).length 1 24=true:=bB (n:=1) (by simp;omega) (by simp only[maxLen,length_map,List.length_range];omega);simp only[dO,bF hj,cond_true,bE,aC,w,w3,hW j (by omega),bind_some];unfold adQ;by_cases h2:(W j).length>200
  ·rw[if_pos h2,if_pos h2];rfl
  ·rw[if_neg h2,if_neg h2];simp only[bE,aC,cond_true,ap,dG,List.range_succ,List.map_append,List.map_cons,map_nil];rfl
 rcases yZ (fun j=>decide ((W j).length>200)) 0 F with ⟨i,h1,h2,h3,h4⟩ |h
 ·have hi:(W i).length>200:=by simpa using h3
  rw[if_pos ⟨i,h2,hi⟩];have:=gP (step:=dO n (F:Int) base es b ps) (fun j=>(((j:Nat):Int),(List.range j).map W)) i (.inr ([],6)) (fun j hj=>?_) ?_ n (by omega)
  ·exact this
  ·have:=h4 j (by omega) hj;rw[st j (by omega),if_neg (by simpa using this)]
  ·rw[st i h2,if_pos hi]
 ·rw[if_neg (by rintro⟨j,hj,hl⟩;have:=h j (by omega) hj;simp at this;omega)];have:=gP (step:=dO n (F:Int) base es b ps) (fun j=>(((j:Nat):Int),(List.range j).map W)) F (.inl ((List.range F).map W)) (fun j hj=>?_) ?_ n (by omega)
  ·exact this
  ·have:=h j (by omega) hj;rw[st j hj,if_neg (by simpa using this)]
  ·simp only[dO,nM,cond_false,aC,cond_true]
theorem FP {n:Nat} {t:dJ} (h:Rs t) (lot day floors:Int) (hn:1000000<=n):
 ((gm t.land lot).2=false∧dQ n t lot day floors=some ([],4))∨
 ((gm t.land lot).2=true∧¬ ((0<=floors∧floors<=12)∧rightL (fe t lot)=true)∧dQ n t lot day floors=some ([],1))∨
 ((gm t.land lot).2=true∧((0<=floors∧floors<=12)∧rightL (fe t lot)=true)∧(gF t lot day).2≠0∧dQ n t lot day floors=some ([],(gF t lot day).2))∨
 ((gm t.land lot).2=true∧((0<=floors∧floors<=12)∧rightL (fe t lot)=true)∧(gF t lot day).2=0∧∃ W,abf t lot day W∧dQ n t lot day floors=some (if ∃ j:Nat,j < floors.toNat∧(W j).length>200 then ([],6)else ((List.range floors.toNat).map W,0))):=by
 have lw:=AJ h.lots lot;have hland:=h.land;have hfind:BP n t.land lot=some (gm t.land lot):=FE h.lots (by omega) (by omega);unfold dQ;rw[hfind];simp only[bind_some];cases hf:(gm t.land lot).2 with
 |false=>exact .inl ⟨rfl,rfl⟩
 |true=>
  refine .inr ?_;rw[show (gm t.land lot).1.area=fe t lot from rfl]at*;rw[lN (by have:=lw.1;unfold fe;omega) (by have:=lw.1;unfold fe;omega) (by omega)];simp only[Bool.not_true,cond_false,bind_some,kW];by_cases hok:(0<=floors∧floors<=12)∧rightL (fe t lot)=true
  ·obtain⟨⟨f0,f12⟩,hr⟩:=hok;have d0:decide (floors < 0)=false:=(by simp;omega);have d12:decide (floors>12)=false:=(by simp;omega);refine .inr ?_;rw[d0,d12,hr,jh h lot day (by omega)];simp only[cond_false,bind_some,Bool.not_true];obtain⟨F,rfl⟩:∃ F:Nat,floors=(F:Int):=⟨floors.toNat,by omega⟩;have hF:(F:Int).toNat=F:=(by omega);have hwl:=Nu t lot day;have hrl:=h.rules;have fin:∀ base:List aj,rightL base=true->(gF t lot day).1=base->∃ W,abf t lot day W∧(bif eqL 0 ([]:List aX).length then (iter (fV n t lot) n ((0:Int),([]:List aX))).bind fun w1=>(vS n (fe t lot)).bind fun r7=>(gB n t lot day).bind fun r8=>bif eqL 0 ([]:List (List aj)).length then dV (iter (dO n (F:Int) base w1 r7 r8) n ((0:Int),([]:List (List aj)))) fun w2=>bif eqL (sub w2 0 w2.length).length w2.length then some ((sub w2 0 w2.length),(0:Int))else none else none else none:Option (List (List aj)×Int))=some (if ∃ j:Nat,j < F∧(W j).length>200 then ([],6)else ((List.range F).map W,0)):=by
    intro base hb hbe;have hex:∀ j:Nat,∃ V:List aj,j < 12->(∃ L,zk L∧(∀ x y,aV L x y=YB t lot day (3*((j:Int)+1)) x y)∧V=aP (aJ L))∧kM n base (nX (fe t lot)).1 (qg t lot day) (Yz t lot) (3*((j:Int)+1))=some (adQ V):=by
     intro j;by_cases hj:j < 12
     ·obtain⟨L,l1,l2,l3⟩:=HV (n:=n) base (nX (fe t lot)).1 (qg t lot day) (Yz t lot) (h:=3*((j:Int)+1)) hb (by omega) (fun e he=>by have:=(mem_filter.1 he).2;rw[and_eq_true]at this;exact this.2) (Nat.le_trans (length_filter_le _ _) h.easements) (fun e he=>h.areas e (mem_filter.1 he).1) (by omega) hn;exact⟨_,fun _=>⟨⟨L,l1,fun x y=>by rw[l2];unfold YB;rw[hbe],rfl⟩,l3⟩⟩
     ·exact⟨[],fun h=>absurd h hj⟩
    obtain⟨W,hW⟩:=Classical.axiomOfChoice hex;refine⟨W,fun j hj=>(hW j hj).1,?_⟩;rw[acp h lot (by omega),Ch (fe t lot) lw.1 (by omega),ku h lot day (by omega)];simp only[length_nil,aC,cond_true,bind_some];rw[Dh F (by omega) base (Yz t lot) (nX (fe t lot)) (qg t lot day) W (fun j hj=>(hW j hj).2) (by omega)];split
    ·rfl
    ·simp only[gW,bE,aC,cond_true]
   by_cases hd:nN t lot day<=1048576
   ·have dd:decide (nN t lot day<=1048576)=true:=(by simpa using hd);have be:gF t lot day=kT (fe t lot) (nN t lot day):=(by unfold gF;rw[if_pos hd]);rw[dd];simp only[cond_true,JS (n:=n) (a:=fe t lot) (d:=nN t lot day) lw.1 (by omega),bind_some,<- be];by_cases he:(gF t lot day).2=0
    ·have e1:((gF t lot day).2 != 0)=false:=(by simp[he]);rw[e1];simp only[cond_false,aC,cond_true,gW];obtain⟨W,w1,w2⟩:=fin (gF t lot day).1 (yL he) rfl;exact .inr ⟨trivial,⟨⟨f0,f12⟩,trivial⟩,he,W,w1,by rw[hF];exact w2⟩
    ·have e1:((gF t lot day).2 != 0)=true:=(by simp[he]);rw[e1];exact .inl ⟨trivial,⟨⟨f0,f12⟩,trivial⟩,he,rfl⟩
   ·have dd:decide (nN t lot day<=1048576)=false:=(by simpa using hd);have be:gF t lot day=([],0):=(by unfold gF;rw[if_neg hd]);rw[dd];simp only[cond_false,length_nil,aC,cond_true,gW];obtain⟨W,w1,w2⟩:=fin [] rfl (by rw[be]);exact .inr ⟨trivial,⟨⟨f0,f12⟩,trivial⟩,by rw[be],W,w1,by rw[hF];exact w2⟩
  ·refine .inl ⟨trivial,hok,?_⟩;have e:(bif decide (floors < 0)then true else bif decide (floors>12)then true else !rightL (fe t lot))=true:=by
    by_cases h0:floors < 0
    ·have:decide (floors < 0)=true:=(by simpa using h0);rw[this];rfl
    ·by_cases h12:floors>12
     ·have a:decide (floors < 0)=false:=(by simpa using h0);have b:decide (floors>12)=true:=(by simpa using h12);rw[a,b];rfl
     ·have a:decide (floors < 0)=false:=(by simpa using h0);have b:decide (floors>12)=false:=(by simpa using h12);rw[a,b];cases hr:rightL (fe t lot)with
      |false=>rfl
      |true=>exact absurd ⟨⟨by omega,by omega⟩,hr⟩ hok
   rw[e];rfl
abbrev Wj (t:dJ):Prop:=∀ l∈t.land,l.from_.length*8<=140737488355328
theorem LP {α W O:Type} {l:List α} {step:Int->Option (Int ⊕ (W ⊕ O))} (p:α->Bool) (w:W) (o:O)
 (h:∀ i (hi:i < l.length),step (i:Int)=some (bif p l[i]then .inr (.inr o)else .inl ((i+1:Nat):Int)))
 (hend:step (l.length:Int)=some (.inr (.inl w))) (n:Nat) (hn:l.length < n):iter step n (0:Int)=some (bif l.any p then .inr o else .inl w):=by
 have:=qP (l:=l) (step:=step) (fun i=>((i:Nat):Int)) p w (fun _=>o) h hend n hn;rw[show ((0:Nat):Int)=0 from rfl]at this;rw[this,<- pI];cases oN p l<;>rfl
def adR (t:dJ):Bool:=
 (decide (t.plan_rules.length<=10)&&(decide (t.plan_zones.length<=6)&&(decide (t.plan_defs.length<=20)&&(decide (t.plan_tables.length<=20)&&(decide (t.land.length<=5)&&(decide (t.easements.length<=5)&&decide (t.built.length<=6)))))))&&
 (!(t.plan_rules.any fun r=>decide (r.zones.length>5) || decide (r.except.length>5))&&(!(t.land.any fun l=>decide (l.area.length>10))&&!(t.easements.any fun e=>decide (e.area.length>10))))
theorem agh {a b:Nat}:decide ((a:Int)>(b:Int))=!decide (a<=b):=by
 by_cases h:a<=b
 ·have:¬ ((a:Int)>(b:Int)):=by omega
  simp[h,this]
 ·have:(a:Int)>(b:Int):=by omega
  simp only[this,h,decide_true,decide_false,Bool.not_false]
theorem aav {n:Nat} (t:dJ) (hn:2000<=n):OJ n t=some (adR t):=by
 unfold OJ adR;simp only[show (10:Int)=((10:Nat):Int)from rfl,show (6:Int)=((6:Nat):Int)from rfl,show (20:Int)=((20:Nat):Int)from rfl,show (5:Int)=((5:Nat):Int)from rfl,agh,kW,bind_some];cases hA:(decide (t.plan_rules.length<=10)&&(decide (t.plan_zones.length<=6)&&(decide (t.plan_defs.length<=20)&&(decide (t.plan_tables.length<=20)&&(decide (t.land.length<=5)&&(decide (t.easements.length<=5)&&decide (t.built.length<=6)))))))with
 |false=>
  have e:(bif !decide (t.plan_rules.length<=10)then true else bif !decide (t.plan_zones.length<=6)then true else bif !decide (t.plan_defs.length<=20)then true else bif !decide (t.plan_tables.length<=20)then true else bif !decide (t.land.length<=5)then true else bif !decide (t.easements.length<=5)then true else !decide (t.built.length<=6))=true:=by
   revert hA;cases decide (t.plan_rules.length<=10)<;>cases decide (t.plan_zones.length<=6)<;>cases decide (t.plan_defs.length<=20)<;>cases decide (t.plan_tables.length<=20)<;>cases decide (t.land.length<=5)<;>cases decide (t.easements.length<=5)<;>cases decide (t.built.length<=6)<;>simp
  rw[e];rfl
 |true=>
  have e:(bif !decide (t.plan_rules.length<=10)then true else bif !decide (t.plan_zones.length<=6)then true else bif !decide (t.plan_defs.length<=20)then true else bif !decide (t.plan_tables.length<=20)then true else bif !decide (t.land.length<=5)then true else bif !decide (t.easements.length<=5)then true else !decide (t.built.length<=6))=false:=by
   revert hA;cases decide (t.plan_rules.length<=10)<;>cases decide (t.plan_zones.length<=6)<;>cases decide (t.plan_defs.length<=20)<;>cases decide (t.plan_tables.length<=20)<;>cases decide (t.land.length<=5)<;>cases decide (t.easements.length<=5)<;>cases decide (t.built.length<=6)<;>simp
  simp only[and_eq_true,decide_eq_true_eq]at hA;rw[e];simp only[cond_false,Bool.true_and];rw[LP (l:=t.plan_rules) (fun r=>decide (r.zones.length>5) || decide (r.except.length>5)) () false (fun i hi=>?_) (by simp[G6]) n (by omega)]
  ·cases (t.plan_rules.any fun r=>decide (r.zones.length>5) || decide (r.except.length>5))with
   |true=>rfl
   |false=>
    simp only[cond_false,gW];rw[LP (l:=t.land) (fun l=>decide (l.area.length>10)) () false (fun i hi=>?_) (by simp[G7]) n (by omega)]
    ·cases (t.land.any fun l=>decide (l.area.length>10))with
     |true=>rfl
     |false=>
      simp only[cond_false,gW];rw[LP (l:=t.easements) (fun e=>decide (e.area.length>10)) () false (fun i hi=>?_) (by simp[G8]) n (by omega)]
      ·cases (t.easements.any fun e=>decide (e.area.length>10))<;>rfl
      ·have d:decide ((((t.easements[i]).area.length:Nat):Int)>10)=decide ((t.easements[i]).area.length>10):=(by rw[Bool.eq_iff_iff,decide_eq_true_eq,decide_eq_true_eq];omega);simp only[G8,bF hi,cond_true,bn hi,bind_some,d,Option.map_some,kW,ay (show i < 9223372036854775807 by omega)]
    ·have d:decide ((((t.land[i]).area.length:Nat):Int)>10)=decide ((t.land[i]).area.length>10):=(by rw[Bool.eq_iff_iff,decide_eq_true_eq,decide_eq_true_eq];omega);simp only[G7,bF hi,cond_true,bn hi,bind_some,d,Option.map_some,kW,ay (show i < 9223372036854775807 by omega)]
  ·have d1:decide ((((t.plan_rules[i]).zones.length:Nat):Int)>5)=decide ((t.plan_rules[i]).zones.length>5):=(by rw[Bool.eq_iff_iff,decide_eq_true_eq,decide_eq_true_eq];omega);have d2:decide ((((t.plan_rules[i]).except.length:Nat):Int)>5)=decide ((t.plan_rules[i]).except.length>5):=(by rw[Bool.eq_iff_iff,decide_eq_true_eq,decide_eq_true_eq];omega);simp only[G6,bF hi,cond_true,bn hi,bind_some,d1,d2,Option.map_some,kW,ay (show i < 9223372036854775807 by omega)];cases decide ((t.plan_rules[i]).zones.length>5)<;>cases decide ((t.plan_rules[i]).except.length>5)<;>rfl
theorem aeX {t:dJ} (h:adR t=true) (hf:Wj t):Rs t:=by
 unfold adR at h;simp only[and_eq_true,decide_eq_true_eq,Bool.not_eq_true',List.any_eq_false,Bool.or_eq_true,not_or]at h;obtain⟨⟨h1,h2,h3,h4,h5,h6,h7⟩,g1,g2,g3⟩:=h;refine⟨by omega,fun r hr=>?_,by omega,by omega,fun l hl=>?_,by omega,fun e he=>?_⟩
 ·have:=g1 r hr;exact⟨by omega,by omega⟩
 ·have:=g2 l hl;exact⟨by omega,hf l hl⟩
 ·have:=g3 e he;omega
def exTown:dJ:=(dJ.mk [] [] [] [eG.mk ⟨#[97]⟩ [] [] 0 0 0 false 0 12 0 ⟨#[]⟩ ⟨#[]⟩ [oQ.mk 0 2 ⟨#[]⟩ ⟨#[]⟩ [],oQ.mk 1 0 EH ⟨#[]⟩ []] 0 0 0 0 0 0 0,eG.mk ⟨#[98]⟩ [] [] 0 0 0 false 1 0 0 ⟨#[]⟩ ⟨#[]⟩ [] 0 3 1 1 0 0 0] [] [] [] 0 [sM.mk 1 0 [aj.mk 0 0 10 8] []] [aX.mk 1 [aj.mk 4 2 6 3] 5] [] [] [])
theorem agi:Ec=some exTown:=by kernel_rfl
theorem ex_ok:Rs exTown:=by
 refine⟨by decide,fun r hr=>?_,by decide,by decide,fun l hl=>?_,by decide,fun e he=>?_⟩
 ·simp only[exTown,mem_cons,List.not_mem_nil,or_false]at hr;rcases hr with rfl |rfl<;>exact⟨by decide,by decide⟩
 ·simp only[exTown,mem_cons,List.not_mem_nil,or_false]at hl;subst hl;exact⟨by decide,by decide⟩
 ·simp only[exTown,mem_cons,List.not_mem_nil,or_false]at he;subst he;decide
theorem aeY:gm exTown.land 1=(sM.mk 1 0 [aj.mk 0 0 10 8] [],true):=by kernel_rfl
theorem abg:nN exTown 1 0=2:=by kernel_rfl
theorem UM:qg exTown 1 0=[aY.mk 0 3 1 1]:=by kernel_rfl
def exR:List (List aj):=[[⟨2,2,8,6⟩],[⟨3,2,4,6⟩,⟨4,3,6,6⟩,⟨6,2,8,6⟩],[⟨6,2,8,6⟩]]
theorem adS:dQ 1000000 exTown 1 0 3=some (exR,0):=by
 unfold dQ;rw[FE ex_ok.lots (by decide) (by decide),jh ex_ok 1 0 (by omega),ku ex_ok 1 0 (by omega),aeY,abg,UM]
 kernel_rfl
theorem adT:wR 1000000 exR=some ([⟨0,3,[⟨2,2,8,6⟩]⟩,⟨3,6,[⟨3,2,4,6⟩,⟨4,3,6,6⟩,⟨6,2,8,6⟩]⟩,⟨6,9,[⟨6,2,8,6⟩]⟩],0):=by kernel_rfl
theorem aeZ:Ap 1000000=some true:=by
 unfold Ap;rw[agi];simp only[bind_some,adS,bE,aC,cond_true,adT,jh ex_ok 1 0 (show 2000<=1000000 by omega),ku ex_ok 1 0 (show 2000<=1000000 by omega),abg,UM]
 kernel_rfl
def Nw (b:aj) (h x y:Int) (p:aY):Bool:=JW p&&decide (acg b [p] x y>=h)
def Ny (lot h x y:Int) (e:aX):Bool:=(e.lot != lot) || (decide (e.top>=h) || !(rightL e.area&&aV e.area x y))
theorem adU {n:Nat} (J:Nat) (hJ:J < 12) (x y:Int) (b:aj) (bb:Bool) (ps:List aY) (hl:ps.length<=1000) (hn:2000<=n) (s0:Bool):
 iter (fJ n (J:Int) x y (b,bb) ps) n (s0,(0:Int))=some (s0&&ps.all (Nw b (3*((J:Int)+1)) x y)):=by
 have w:i64.wrap ((J:Int)+1)=(J:Int)+1:=aZ (by omega) (by omega);have w3:i64.wrap (3*((J:Int)+1))=3*((J:Int)+1):=aZ (by omega) (by omega);have:=Ag (l:=ps) (step:=fJ n (J:Int) x y (b,bb) ps) (fun i (s:Bool)=>(s,((i:Nat):Int))) (fun p s=>s&&Nw b (3*((J:Int)+1)) x y p) (fun s=>s) (fun i hi s=>?_) (fun s=>by simp[fJ]) n (by omega) s0
 ·rw[show ((0:Nat):Int)=0 from rfl]at this;rw[this];congr 1;have gen:∀ (l:List aY) (s:Bool),l.foldl (fun s p=>s&&Nw b (3*((J:Int)+1)) x y p) s=(s&&l.all (Nw b (3*((J:Int)+1)) x y)):=by
   intro l
   induction l with
   |nil=>intro s;simp
   |cons p l ih=>intro s;rw[foldl_cons,ih,all_cons,Bool.and_assoc]
  exact gen ps s0
 ·have w1:=ay (show i < 9223372036854775807 by omega);have so:xq ((i:Nat):Int) ((i+1:Nat):Int) ps.length=true:=vP (by omega) (by omega) (by omega);have z1:(((i+1:Nat):Int)).toNat - (((i:Nat):Int)).toNat=1:=by omega
  have z2:0+(((i:Nat):Int)).toNat=i:=by omega
  have sb:sub ps i 1=[ps[i]]:=by
   unfold sub;rw[List.drop_eq_getElem_cons hi];rfl
  simp only[fJ,bF hi,cond_true,bq hi,bZ hi,bind_some,EA,w1,so,z1,z2,sb,List.length_singleton,aC,Wh (n:=n) b [ps[i]] x y (by simp) hn,w,w3,kW];unfold Nw;cases s<;>cases JW ps[i]<;>cases decide (acg b [ps[i]] x y>=3*((J:Int)+1))<;>rfl
theorem adV {n:Nat} (J:Nat) (hJ:J < 12) (t:dJ) (lot x y:Int) (hl:t.easements.length<=1000) (ha:∀ e∈t.easements,e.area.length<=900) (hn:2000<=n) (s0:Bool):
 iter (fK n t lot (J:Int) x y) n (s0,(0:Int))=some (s0&&t.easements.all (Ny lot (3*((J:Int)+1)) x y)):=by
 have w:i64.wrap ((J:Int)+1)=(J:Int)+1:=aZ (by omega) (by omega);have w3:i64.wrap (3*((J:Int)+1))=3*((J:Int)+1):=aZ (by omega) (by omega);have:=Ag (l:=t.easements) (step:=fK n t lot (J:Int) x y) (fun i (s:Bool)=>(s,((i:Nat):Int))) (fun e s=>s&&Ny lot (3*((J:Int)+1)) x y e) (fun s=>s) (fun i hi s=>?_) (fun s=>by simp[fK]) n (by omega) s0
 ·rw[show ((0:Nat):Int)=0 from rfl]at this;rw[this];congr 1;have gen:∀ (l:List aX) (s:Bool),l.foldl (fun s p=>s&&Ny lot (3*((J:Int)+1)) x y p) s=(s&&l.all (Ny lot (3*((J:Int)+1)) x y)):=by
   intro l
   induction l with
   |nil=>intro s;simp
   |cons p l ih=>intro s;rw[foldl_cons,ih,all_cons,Bool.and_assoc]
  exact gen t.easements s0
 ·have al:=ha _ (getElem_mem hi);simp only[fK,bF hi,cond_true,bn hi,bind_some,w,w3,Li (n:=n) (a:=(t.easements[i]).area) x y al (by omega),kW,ay (show i < 9223372036854775807 by omega)];unfold Ny;cases s<;>cases (t.easements[i]).lot != lot<;>cases decide ((t.easements[i]).top>=3*((J:Int)+1))<;>cases rightL (t.easements[i]).area&&aV (t.easements[i]).area x y<;>rfl
theorem LQ {b:aj} {h x y:Int} (hb:OkR b=true) (hg:InG x y) (hh:1<=h∧h<=4096) (p:aY):Nw b h x y p=true↔JW p=true∧h<=Yp b p x y:=by
 unfold Nw;rw[and_eq_true,decide_eq_true_eq];constructor
 ·rintro⟨h1,h2⟩;refine⟨h1,?_⟩;have hv:nW b [p]=true:=(tC _ _).2 ⟨hb,fun q hq=>by rw[mem_singleton.1 hq];exact h1⟩;unfold acg at h2;rw[if_pos ⟨hv,hg⟩]at h2;unfold aeS at h2;simp only[foldl_cons,List.foldl_nil]at h2;omega
 ·rintro⟨h1,h2⟩;refine⟨h1,?_⟩;have hv:nW b [p]=true:=(tC _ _).2 ⟨hb,fun q hq=>by rw[mem_singleton.1 hq];exact h1⟩;unfold acg;rw[if_pos ⟨hv,hg⟩];unfold aeS;simp only[foldl_cons,List.foldl_nil];omega
theorem acr {t:dJ} {lot day x y:Int} (he:(gF t lot day).2=0) (hr:rightL (fe t lot)=true) (hc:aV (gF t lot day).1 x y=true):InG x y∧aV (fe t lot) x y=true∧OkR (nX (fe t lot)).1=true:=by
 have hv:=(dU (yL he)).1;have hg:=vE hv hc;have ha:aV (fe t lot) x y=true:=by
  unfold gF at he hc;split at hc
  ·rename_i hd;rw[if_pos hd]at he;have hsp:=Nq (a:=fe t lot) (r:=(kT (fe t lot) (nN t lot day)).1) (d:=nN t lot day) (by rw[<- he]);exact (hsp.2.2.2 x y).1 hc x y (by omega) (by omega) (by omega) (by omega)
  ·simp[aV]at hc
 refine⟨hg,ha,?_⟩;have hne:fe t lot≠[]:=by intro e;rw[e]at ha;simp[aV]at ha
 obtain⟨b1,b2⟩:=aat hne hr;rw[b1];exact b2
theorem adW {t:dJ} {lot day h x y:Int} (he:(gF t lot day).2=0) (hr:rightL (fe t lot)=true) (hh:1<=h∧h<=4096):
 YB t lot day h x y=((aV (gF t lot day).1 x y&&(qg t lot day).all (Nw (nX (fe t lot)).1 h x y))&&t.easements.all (Ny lot h x y)):=by
 unfold YB Yy;rw[Bool.and_assoc];cases hc:aV (gF t lot day).1 x y with
 |false=>rfl
 |true=>
  obtain⟨hg,_,hb⟩:=acr he hr hc;rw[Bool.true_and,Bool.true_and];congr 1
  ·rw[Bool.eq_iff_iff,decide_eq_true_eq,tC,all_eq_true];constructor
   ·rintro⟨⟨_,a⟩,c⟩ p hp;exact (LQ hb hg hh p).2 ⟨a p hp,c p hp⟩
   ·intro a;exact⟨⟨hb,fun p hp=>((LQ hb hg hh p).1 (a p hp)).1⟩,fun p hp=>((LQ hb hg hh p).1 (a p hp)).2⟩
  ·rw[Bool.eq_iff_iff,all_eq_true,all_eq_true];constructor
   ·intro a e hm;unfold Ny;cases h1:e.lot != lot with
    |true=>rfl
    |false=>
     cases h2:rightL e.area with
     |false=>cases decide (e.top>=h)<;>rfl
     |true=>
      have h3:(e.lot==lot)=true:=(by simpa[bne]using h1);have:=a e (mem_filter.2 ⟨hm,by rw[h3,h2];rfl⟩);rw[show decide (e.top>=h)=decide (h<=e.top)from rfl];simpa using this
   ·intro a e hm;obtain⟨m1,m2⟩:=mem_filter.1 hm;rw[and_eq_true]at m2;have:=a e m1;unfold Ny at this;have h3:(e.lot != lot)=false:=(by simp[bne,m2.1]);rw[h3,m2.2,show decide (e.top>=h)=decide (h<=e.top)from rfl]at this;simpa using this
theorem HY {n:Nat} (hn:1000000<=n) (hs:Ap n=some true) (t:dJ) (lot day j x y:Int) (hf:Wj t):kR n t lot day j x y=some true:=by
 unfold kR;rw[hs,aav t (by omega)];simp only[bind_some,kW];cases hfw:adR t with
 |false=>rfl
 |true=>
  have hE:=aeX hfw hf;by_cases hj:j < 0∨j>=12
  ·have e:(bif (decide (j < 0))then true else decide (j>=12))=true:=by
    rcases hj with h |h
    ·have:decide (j < 0)=true:=(by simpa using h);rw[this];rfl
    ·have:decide (j>=12)=true:=(by simpa using h);rw[this];cases decide (j < 0)<;>rfl
   rw[e];rfl
  ·have e:(bif (decide (j < 0))then true else decide (j>=12))=false:=by
    have h1:decide (j < 0)=false:=(by simp;omega);have h2:decide (j>=12)=false:=(by simp;omega);rw[h1,h2];rfl
   obtain⟨J,rfl⟩:∃ J:Nat,j=(J:Int):=⟨j.toNat,by omega⟩;have hJ:J < 12:=(by omega);have w:i64.wrap ((J:Int)+1)=(J:Int)+1:=aZ (by omega) (by omega);have hland:=hE.land;rw[e];simp only[Bool.not_true,cond_false,w,FE (n:=n) (id:=lot) hE.lots (by omega) (by omega)];rcases FP hE lot day ((J:Int)+1) hn with ⟨f1,g⟩ |⟨f1,f2,g⟩ |⟨f1,f2,f3,g⟩ |⟨f1,f2,f3,W,hW,g⟩
   ·rw[g];simp only[bind_some,f1];rfl
   ·rw[g];simp only[bind_some,f1];rfl
   ·rw[g];simp only[bind_some,f1];rcases aco t lot day with h |h |h
    ·exact absurd h f3
    ·rw[h];rfl
    ·rw[h];rfl
   ·have fz:((J:Int)+1).toNat=J+1:=(by omega);rw[g,fz];by_cases hbig:∃ k:Nat,k < J+1∧(W k).length>200
    ·rw[if_pos hbig];simp only[bind_some,f1];rfl
    ·rw[if_neg hbig];simp only[bind_some];have e0:((0:Int) != 0)=false:=rfl;have el:(((((List.range (J+1)).map W).length:Nat):Int) != ((J:Int)+1))=false:=(by rw[length_map,List.length_range,Bool.eq_false_iff];simp);rw[e0,el,f1];simp only[cond_false,Bool.not_true,bind_some,jh hE lot day (show 2000<=n by omega),Ch (n:=n) (fe t lot) (AJ hE.lots lot).1 (by omega),ku hE lot day (show 2000<=n by omega)];have hv3:((bif decide (nN t lot day<=1048576)then (vR n (fe t lot) (nN t lot day)).bind fun r6=>(bif (r6.2==(0:Int))then bif eqL (sub r6.1 0 r6.1.length).length r6.1.length then (G9 n (sub r6.1 0 r6.1.length) x y).bind fun r7=>some r7 else none else some false)else some false):Option Bool)=some (aV (gF t lot day).1 x y):=by
      by_cases hd:nN t lot day<=1048576
      ·have dd:decide (nN t lot day<=1048576)=true:=(by simpa using hd);have be:gF t lot day=kT (fe t lot) (nN t lot day):=(by unfold gF;rw[if_pos hd]);have bz:((gF t lot day).2==0)=true:=(by rw[f3];rfl);have hbl:=(dU (yL f3)).2.1;rw[dd];simp only[cond_true,JS (n:=n) (a:=fe t lot) (d:=nN t lot day) (AJ hE.lots lot).1 (by omega),bind_some,<- be,bz,bE,aC,Li (n:=n) (a:=(gF t lot day).1) x y (by omega) (by omega),yL f3,Bool.true_and]
      ·have dd:decide (nN t lot day<=1048576)=false:=(by simpa using hd);have be:gF t lot day=([],0):=(by unfold gF;rw[if_neg hd]);rw[dd,be];rfl
     rw[show (gm t.land lot).1.area=fe t lot from rfl,hv3];have hpl:=Nu t lot day;have hrl:=hE.rules;have hel:=hE.easements;simp only[bind_some,Ch (n:=n) (fe t lot) (AJ hE.lots lot).1 (by omega)];rw[adU (n:=n) J hJ x y (nX (fe t lot)).1 (nX (fe t lot)).2 (qg t lot day) (by omega) (by omega),bind_some,adV (n:=n) J hJ t lot x y (by omega) (fun e he=>by have:=hE.areas e he;omega) (by omega),bind_some];rw[<- adW f3 f2.2 (by omega)];obtain⟨L,l1,l2,l3⟩:=hW J hJ;have wl:(W J).length<=200:=by
      rcases Nat.lt_or_ge 200 (W J).length with h |h
      ·exact absurd ⟨J,by omega,h⟩ hbig
      ·exact h
     obtain⟨q1,q2⟩:=aau l1 (by rw[<- l3];exact wl);rw[<- l3]at q1 q2;have ib:inb ((J:Nat):Int) ((List.range (J+1)).map W).length=true:=bq (by simp);have gJ:at? ((List.range (J+1)).map W) (((0:Nat):Int)+((J:Nat):Int))=some (W J):=(by rw[bZ (by simp)];simp);simp only[cond_true,ib,gJ,bind_some,lN (n:=n) (l:=W J) (by omega) (by omega) (by omega),q1,Li (n:=n) (a:=W J) x y (by omega) (by omega),Bool.true_and,q2,l2,beq_self_eq_true]
theorem J2 (t:dJ) (lot day j x y:Int) (hf:Wj t):∃ k,kR k t lot day j x y=some true:=⟨1000000,HY (Nat.le_refl _) aeZ t lot day j x y hf⟩
theorem adX {X:SX} {n:Nat} {c:CT X.ι} {cs:List (CT X.ι)} {ss:List VS} (hs:yY (vsF n) (c::cs)=some ss) (q:HL X.toSE (c::cs)) (h:II ss (HL.tvs X.toSE (c::cs) q)):∃ s ss',vsF n c=some s∧yY (vsF n) cs=some ss'∧Ve s (CT.tv X.toSE c q.1)∧II ss' (HL.tvs X.toSE cs q.2):=by
 simp only[yY]at hs;rw[ai]at hs;obtain⟨a,h1,hs⟩:=hs;rw[ai]at hs;obtain⟨b,h2,hs⟩:=hs;injection hs with hs;subst hs;exact⟨a,b,h1,h2,h.1,h.2⟩
theorem afI {X:SX} {n:Nat} {i:X.ι} {s:VS} {x:X.T i} (hs:vsF n (.st i)=some s) (h:Ve s (CT.tv X.toSE (.st i) x)):∃ l,csF (X:=X) n (.st i)=some l∧FitL l (X.row i x):=by
 simp only[vsF]at hs;obtain⟨l,h1,rfl⟩:=Option.map_eq_some_iff.1 hs;obtain⟨ys,e,hf⟩:=h;rw[CT.tv]at e;injection e with e;exact⟨l,h1,by rw[e];exact hf⟩
theorem Wl:∀ {cs:List CS} {ts:List Tree},FitL cs ts->∀ {i:Nat} {c:CS} {x:Tree},cs[i]? =some c->ts[i]? =some x->Fit c x
 |c::cs,x::ts,h,0,c',x',hc,hx=>by
  simp only[List.getElem?_cons_zero,Option.some.injEq]at hc hx;subst hc;subst hx;simp only[FitL]at h;exact h.1
 |c::cs,x::ts,h,i+1,c',x',hc,hx=>by
  simp only[List.getElem?_cons_succ]at hc hx;simp only[FitL]at h;exact Wl h.2 hc hx
 |[],_,h,_,_,_,hc,_=>by simp at hc
 |_::_,[],h,_,_,_,_,hx=>by simp at hx
theorem adY {row:List CS} {α:Type} {l:List α} {f:α->List Tree} (h:Fit (.sl row) (.sl (l.map f))):l.length<=maxLen∧l.length*acN row<=reachBytes∧∀ x∈l,FitL row (f x):=by
 simp only[Fit]at h;obtain⟨rows,e,⟨h1,h2⟩,h3⟩:=h;injection e with e;subst e;rw[length_map]at h1 h2;exact⟨h1,h2,fun x hx=>h3 _ (mem_map.2 ⟨x,hx,rfl⟩)⟩
def agF:List CS:=[.int .i64,.int .i64,.sl [.int .i64,.int .i64,.int .i64,.int .i64],.sl [.int .i64]]
theorem ae0 {t:dJ} {n:Nat} {s:VS} (hs:vsF (X:=xx) (n+8) (.st SI.Town)=some s) (h:Ve s (CT.tv xx.toSE (.st SI.Town) t)):Wj t:=by
 obtain⟨l,h1,h2⟩:=afI hs h;have h8:((csF (X:=xx) (n+8) (.st SI.Town)).bind fun l=>l[8]?)=some (.sl agF):=by kernel_rfl
 rw[h1]at h8;have hf:=Wl h2 (i:=8) h8 (x:= .sl (t.land.map aac)) rfl;obtain⟨_,_,h3⟩:=adY hf;intro lt hlt;have h4:=Wl (h3 lt hlt) (i:=3) (c:= .sl [.int .i64]) rfl (x:= .sl (lt.from_.map fun x=>[.sc (.int .i64 x)])) rfl;obtain⟨_,h5,_⟩:=adY h4;have:lt.from_.length*8<=reachBytes:=h5;have:reachBytes=140737488351232:=rfl;omega
end Go.Proofs
