/-
  greenbeltref13: Split, Join, Do; ParcelTells as a plain law.
-/
import Derived.Test.YtdgealeielbdiaaGreatS3
open Go.IntKind (i64)
open Option (bind_some)
open List (length_take mem_map length_append)
namespace Go.Proofs
open Go.Gb Go.RowKit
theorem ajr:fw 1=fun p q=>p&&q:=by funext p q;rfl
theorem ajs:fw 2=fun p q=>p&&!q:=by funext p q;rfl
theorem H8 (keep:Bool->Bool->Bool) {a b:List aj} (ha:bH a=true) (hb:bH b=true):
 ((aT (gq keep a b)).length>200∧fT keep a b=([],6))∨((aT (gq keep a b)).length<=200∧fT keep a b=(aT (gq keep a b),0)):=by
 unfold fT;rw[ha,hb];by_cases h:(aT (gq keep a b)).length>200
 ·exact .inl ⟨h,by simp[h]⟩
 ·exact .inr ⟨by omega,by simp[h]⟩
theorem afd (T:ax):bC [T]=kV (T.from_++[T.id]):=by
 unfold bC;refine SS fun z=>?_;simp[or_comm]
theorem Yu {n:Nat} {land:List ax} {id a b:Int} {cut:List aj} (h:∀ t∈land,dx t) (hl:land.length<=99) (hc:cut.length<=900) (hn:50000<=n):
 IL n land id cut a b=some (wI land id cut a b):=by
 have did:=fun hi=>WY (l:=land) (id:=id) (a:=a) (b:=b) (cut:=cut) hi;revert did;have hfo:=lW h id;unfold IL wI;rw[qD hl h hn,lX (by omega) hn,nQ,nQ];simp only[bind_some];cases hr:jL land with
 |false=>intro _;rfl
 |true=>
 have il:=(zI land).1 hr;cases hcr:bH cut with
 |false=>intro _;rfl
 |true=>
 cases pE a with
 |false=>intro _;rfl
 |true=>
 cases pE b with
 |false=>intro _;rfl
 |true=>
 cases hab:a==b with
 |true=>intro _;rfl
 |false=>
 rw[vw h (by omega) (by omega)];simp only[Bool.not_true,cond_false,bind_some,Bool.false_or];cases hf:(aI land id).2 with
 |false=>intro _;rfl
 |true=>
 rw[xW (by omega) h (by omega),xW (by omega) h (by omega)];simp only[Bool.not_true,cond_false,bind_some];cases hta:takenL land a with
 |true=>intro _;rfl
 |false=>
 cases htb:takenL land b with
 |true=>intro _;rfl
 |false=>
 obtain⟨hT,hid⟩:=zH hf;generalize (aI land id).1=T at*;have rT:=il.areas T hT;have oT:=(bZ rT).1;have oc:=(bZ hcr).1;rw[BS oT oc (by omega) (by omega) hn,BS oT oc (by omega) (by omega) hn,ajr,ajs];have cI:=H8 (fun p q=>p&&q) rT hcr;have cO:=H8 (fun p q=>p&&!q) rT hcr;simp only[bind_some,cond_false,Bool.false_or,aV,aA,cond_true];generalize aT (gq (fun p q=>p&&q) T.area cut)=wi at*;generalize aT (gq (fun p q=>p&&!q) T.area cut)=wo at*;have z:∀ l:List aj,(((l.length:Int))==0)=decide (l=[]):=fun l=>by cases l<;>simp<;>omega
 have d2:decide ((land.length:Int)>=20000)=false:=by simp;omega
 rw[z,z,d2];rcases cI with ⟨li,eI⟩ |⟨li,eI⟩
 ·have n1:decide (wi=[])=false:=by rw[decide_eq_false_iff_not];intro e;rw[e]at li;simp at li
  have g1:decide ((wi.length:Int)>200)=true:=by simp;omega
  rw[eI,n1,g1];rcases cO with ⟨lo,eO⟩ |⟨lo,eO⟩
  ·have n2:decide (wo=[])=false:=(by rw[decide_eq_false_iff_not];intro e;rw[e]at lo;simp at lo);rw[eO,n2];intro _;rfl
  ·rw[eO];intro _;unfold NY;cases decide (wo=[])<;>rfl
 ·have g1:decide ((wi.length:Int)>200)=false:=by simp;omega
  rw[eI,g1];rcases cO with ⟨lo,eO⟩ |⟨lo,eO⟩
  ·have n2:decide (wo=[])=false:=(by rw[decide_eq_false_iff_not];intro e;rw[e]at lo;simp at lo);have g2:decide ((wo.length:Int)>200)=true:=(by simp;omega);rw[eO,n2,g2];intro _;unfold NY;cases decide (wi=[])<;>rfl
  ·have g2:decide ((wo.length:Int)>200)=false:=(by simp;omega);rw[eO,g2];obtain⟨pi,hpi,cpi⟩:=ug (n:=n) (a:=wi) (by omega) hn;obtain⟨po,hpo,cpo⟩:=ug (n:=n) (a:=wo) (by omega) hn;rw[hpi,hpo];have ne:∀ {k:List (List aj)} {c:Bool},(((k.length:Nat):Int)==1)=c->(((k.length:Nat):Int) != 1)=!c:=fun e=>(by rw[<- e];rfl);simp only[bind_some,ne cpi,ne cpo];unfold NY;cases decide (wi=[])with
   |true=>intro _;rfl
   |false=>
   cases decide (wo=[])with
   |true=>intro _;rfl
   |false=>
   cases hci:Dv wi with
   |false=>intro _;rfl
   |true=>
   cases hco:Dv wo with
   |false=>intro _;rfl
   |true=>
   intro did;obtain⟨T',I,O,_,_,_,_,d⟩:=did il rfl;have hr2:IsLand (replaceL land [id] [ax.mk a T.owner wi (bC [T]),ax.mk b T.owner wo (bC [T])]):=d.land;have s2:(sub ([id]:List Int) 0 1)=[id]:=rfl;have s3:∀ x y:ax,(sub ([x,y]:List ax) 0 2)=[x,y]:=fun _ _=>rfl;have q2:eqL ([id]:List Int).length 1=true:=rfl;have q3:∀ x y:ax,eqL ([x,y]:List ax).length 2=true:=fun _ _=>rfl;have hTk:∀ t∈[T],dx t:=fun t ht=>by
    have:t=T:=(by simpa using ht);subst this;exact hfo
   have lnl:(bC [T]).length<=901:=by
    have h1:=je (([T]:List ax).flatMap fun t=>t.id::t.from_);have h2:=oW [T] hTk;have h3:(bC [T]).length<=_:=h1;simp only[List.length_singleton]at h2;omega
   have wt:qm n T.from_ T.id=some (bC [T]):=(by rw[Bu (Bl (il.val T hT)).1 (by omega) (by omega),afd]);have ch:=uh (n:=n) (land:=land) (old:=[id]) (lots:=[ax.mk a T.owner wi (bC [T]),ax.mk b T.owner wo (bC [T])]) (QR il) h hl (by simp) (fun t ht=>by
    rcases List.mem_cons.1 ht with rfl |ht
    ·exact⟨by show wi.length<=900;omega,by show (bC [T]).length<=10000;omega⟩
    ·have:t=ax.mk b T.owner wo (bC [T]):=(by simpa using ht);subst this;exact⟨by show wo.length<=900;omega,by show (bC [T]).length<=10000;omega⟩) (by simp) (by omega)
   rw[qE il hr2]at ch;simp only[Bool.not_true,cond_false,wt,bind_some,s2,q2,cond_true,s3,q3,ch,aV,aA,Bool.and_false,Bool.or_self,hci,hco];rfl
theorem ah6 (ids:List Int):(ids.zipIdx.any fun q=>decide (q.1∈ids.take q.2))=!Ko (fC ltI ids):=by
 rw[Bool.eq_iff_iff,Bool.not_eq_true',List.any_eq_true];constructor
 ·rintro⟨q,hq,hd⟩;rw[decide_eq_true_eq,List.mem_take_iff_getElem]at hd;obtain⟨i,hi,rfl⟩:=List.mem_iff_getElem.1 hq;have hi2:i < ids.length:=by simpa using hi
  simp only[List.getElem_zipIdx,Nat.zero_add]at hd;obtain⟨j,hj,e⟩:=hd;rw[Bool.eq_false_iff];intro ha;rw[Du]at ha;have nd:ids.Pairwise (· ≠ ·):=((EO ltI ids).pairwise_iff (fun {a b} hab=>Ne.symm hab)).1 (ha.imp fun h=>by omega);rw[List.pairwise_iff_getElem]at nd;exact nd j i (by omega) hi2 (by omega) e
 ·intro h;rw[<- Decidable.not_forall_not]
  ·intro hall;have nd:ids.Pairwise (· ≠ ·):=by
    rw[List.pairwise_iff_getElem];intro i j hi hj hij e;refine hall (ids[j],j) ⟨?_,?_⟩
    ·rw[List.mem_iff_getElem];exact⟨j,by simpa using hj,by simp⟩
    ·rw[decide_eq_true_eq,List.mem_take_iff_getElem];exact⟨i,by show i < min j _;omega,e⟩
   rw[ae9 nd]at h;cases h
def dY (land:List ax) (ids:List Int):List ax:=ids.map fun k=>(aI land k).1
theorem afe {l:List ax} (h:0 < l.length):l.headD dw=l[0]:=by
 cases l with
 |nil=>simp at h
 |cons a l=>rfl
theorem ah7 {n:Nat} (T:ax×Bool) (F:List Int) (hF:F.length<=20000) (hT:T.1.from_.length<=900) (hn:50000<=n):iter (ve n T) n (kV F,(0:Int))=some (kV (F++T.1.from_)):=by
 have:=dm (step:=ve n T) (fun j=>(kV (F++T.1.from_.take j),((j:Nat):Int))) T.1.from_.length (kV (F++T.1.from_)) (fun j hj=>?_) ?_ n (by omega)
 ·simpa using this
 ·have c:decide (((j:Nat):Int) < (T.1.from_.length:Int))=true:=by simpa using hj
  have ls:=je (F++T.1.from_.take j);rw[length_append,length_take]at ls;simp only[ve,c,cond_true,aQ hj,bind_some];rw[Bu (iT _) (by omega) (by omega),Ol,List.append_assoc,<- List.take_succ_eq_append_getElem hj];simp only[bind_some];rw[aC (by omega)]
 ·simp[ve]
theorem Qh {n:Nat} {land:List ax} {ids:List Int} (h:∀ t∈land,dx t) (hl:land.length<=99) (hi:ids.length<=8) (hn:50000<=n):
 iter (oV n land ids) n (([]:List Int),true,(0:Int),(0:Int),([]:List aj))=some (bif !(ids.all fun k=>(aI land k).2)then .inr ([],4)else .inl (bC (dY land ids),!((dY land ids).any fun t=>t.owner != ((dY land ids).headD dw).owner),(if ids.length=0 then 0 else ((dY land ids).headD dw).owner),(dY land ids).flatMap (·.area))):=by
 have tl:(dY land ids).length=ids.length:=List.length_map _;have okT:∀ t∈dY land ids,dx t:=by
  intro t ht;obtain⟨k,_,rfl⟩:=mem_map.1 ht;exact lW h k
 have fa:∀ i,(((dY land ids).take i).flatMap (·.area)).length<=900*8:=by
  intro i;have gen:∀ l:List ax,(∀ t∈l,dx t)->(l.flatMap (·.area)).length<=900*l.length:=by
   intro l
   induction l with
   |nil=>simp
   |cons t l ih=>
    intro hh;have:=ih fun u hu=>hh u (by simp[hu]);have:=(hh t (by simp)).1;simp only[List.flatMap_cons,length_append,List.length_cons];omega
  have:=gen ((dY land ids).take i) fun t ht=>okT t (List.mem_of_mem_take ht);rw[length_take]at this;omega
 have run:=Eu (l:=ids) (step:=oV n land ids) (fun i (_:Unit)=>(bC ((dY land ids).take i),!(((dY land ids).take i).any fun t=>t.owner != ((dY land ids).headD dw).owner),(if i=0 then 0 else ((dY land ids).headD dw).owner),((i:Nat):Int),((dY land ids).take i).flatMap (·.area)))
  (fun k _=>bif !(aI land k).2 then .inr (.inr (([]:List ax),(4:Int)))else .inl ()) (fun _=>(.inl (bC ((dY land ids).take ids.length),!(((dY land ids).take ids.length).any fun t=>t.owner != ((dY land ids).headD dw).owner),(if ids.length=0 then 0 else ((dY land ids).headD dw).owner),((dY land ids).take ids.length).flatMap (·.area)):((List Int)×Bool×Int×(List aj)) ⊕ ((List ax)×Int))) (fun _ _=>True) (fun i hi2 s _=>⟨?_,fun _ _=>trivial⟩) (fun s _=>by simp[oV]) n (by omega) () trivial
 ·have e0:bC ((dY land ids).take 0)=[]:=rfl;have e1:(!(((dY land ids).take 0).any fun t=>t.owner != ((dY land ids).headD dw).owner))=true:=rfl;have e2:((dY land ids).take 0).flatMap (·.area)=[]:=rfl;rw[e0,e1,e2]at run;have run':iter (oV n land ids) n (([]:List Int),true,(0:Int),(0:Int),([]:List aj))=_:=run;rw[run',List.take_of_length_le (by omega)];congr 1;have gen:∀ ks:List Int,AR (fun k (_:Unit)=>bif !(aI land k).2 then .inr (.inr (([]:List ax),(4:Int)))else .inl ()) (fun _=>(.inl (bC (dY land ids),!((dY land ids).any fun t=>t.owner != ((dY land ids).headD dw).owner),(if ids.length=0 then 0 else ((dY land ids).headD dw).owner),(dY land ids).flatMap (·.area)):((List Int)×Bool×Int×(List aj)) ⊕ ((List ax)×Int))) ks ()=bif !(ks.all fun k=>(aI land k).2)then .inr ([],4)else .inl (bC (dY land ids),!((dY land ids).any fun t=>t.owner != ((dY land ids).headD dw).owner),(if ids.length=0 then 0 else ((dY land ids).headD dw).owner),(dY land ids).flatMap (·.area)):=by
   intro ks
   induction ks with
   |nil=>rfl
   |cons k ks ih=>
    simp only[AR,List.all_cons];cases (aI land k).2 with
    |false=>rfl
    |true=>
     simp only[Bool.not_true,cond_false,Bool.true_and];exact ih
  exact gen ids
 ·have c:decide (((i:Nat):Int) < (ids.length:Int))=true:=by simpa using hi2
  have hiT:i < (dY land ids).length:=by omega
  have gT:(dY land ids)[i]=(aI land ids[i]).1:=by simp[dY]
  have oT:=okT _ (List.getElem_mem hiT);have f:=fa i;have lf:=oW ((dY land ids).take i) fun t ht=>okT t (List.mem_of_mem_take ht);rw[length_take]at lf;have ll:(bC ((dY land ids).take i)).length<=901*8:=by
   have h1:(bC ((dY land ids).take i)).length<=_:=je _;omega
  rw[gT]at oT;have ap:aX (((dY land ids).take i).flatMap (·.area)).length (((dY land ids).take i).flatMap (·.area)).length (aI land ids[i]).1.area.length (aI land ids[i]).1.area.length 32=true:=aU (by omega) (by simp only[maxLen];omega);have wt:qm n (bC ((dY land ids).take i)) (aI land ids[i]).1.id=some (kV ((((dY land ids).take i).flatMap fun t=>t.id::t.from_)++[(aI land ids[i]).1.id])):=by
   rw[Bu (xV _) (by omega) (by omega)];unfold bC;rw[Ol]
  have s3:=ah7 (n:=n) (aI land ids[i]) ((((dY land ids).take i).flatMap fun t=>t.id::t.from_)++[(aI land ids[i]).1.id]) (by rw[length_append,List.length_singleton];omega) (by omega) hn;have tk:(dY land ids).take (i+1)=(dY land ids).take i++[(aI land ids[i]).1]:=by rw[List.take_succ_eq_append_getElem hiT,gT]
  have l2:bC ((dY land ids).take (i+1))=kV ((((dY land ids).take i).flatMap fun t=>t.id::t.from_)++[(aI land ids[i]).1.id]++(aI land ids[i]).1.from_):=by
   unfold bC;rw[tk,List.flatMap_append,List.append_assoc];simp
  have hd:i=0->(dY land ids).headD dw=(aI land ids[i]).1:=by
   intro e;subst e;rw[<- gT];exact afe hiT
  simp only[oV,c,cond_true,aQ hi2,bind_some,vw (n:=n) (id:=ids[i]) h (by omega) (by omega),ap,bG,wt,s3,aA];rw[aC (by omega),l2,tk,List.any_append,List.flatMap_append];have o8:((bif (((i:Nat):Int)==(0:Int))then some (aI land ids[i]).1.owner else some (if i=0 then 0 else ((dY land ids).headD dw).owner)):Option Int)=some ((dY land ids).headD dw).owner:=by
   by_cases e:i=0
   ·have:(((i:Nat):Int)==0)=true:=(by simp[e]);rw[this,hd e];rfl
   ·have:(((i:Nat):Int)==0)=false:=(by simp[e]);rw[this,if_neg e];rfl
  simp only[o8,bind_some];have nz:(if i+1=0 then 0 else ((dY land ids).headD dw).owner)=((dY land ids).headD dw).owner:=if_neg (by omega);rw[nz];cases (aI land ids[i]).2 with
  |false=>rfl
  |true=>
   simp only[Bool.not_true,cond_false,List.any_cons,List.any_nil,Bool.or_false,List.flatMap_cons,List.flatMap_nil,List.append_nil];have bq:∀ a b:Int,(a==b)=!(a != b):=fun a b=>(by simp[bne]);rw[bq];cases ((dY land ids).take i).any fun t=>t.owner != ((dY land ids).headD dw).owner<;>cases ((aI land ids[i]).1.owner != ((dY land ids).headD dw).owner)<;>rfl
theorem aaN {n:Nat} {land:List ax} {ids:List Int} {id:Int} (h:∀ t∈land,dx t) (hl:land.length<=99) (hi:ids.length<=8) (hn:50000<=n):Mf n land ids id=some (joinL land ids id):=by
 have did:=fun hi=>aaE (l:=land) (ids:=ids) (id:=id) hi;revert did;unfold Mf joinL;have d2:decide (((ids.length:Nat):Int) < 2)=decide (ids.length < 2):=by rw[Bool.eq_iff_iff];simp;omega
 rw[qD hl h hn,nQ,Qh h hl hi hn,xW (by omega) h (by omega),d2];simp only[bind_some,List.length_nil,aA,cond_true];have L1:=H7 (l:=ids.zipIdx) (step:=Bd n ids) (fun i=>((i:Nat):Int)) (fun q=>decide (q.1∈ids.take q.2)) () (([]:List ax),(1:Int)) (fun i hi=>?_) (by simp[Bd]) n (by simp;omega)
 ·rw[show ((0:Nat):Int)=0 from rfl,ah6]at L1;rw[L1];cases hr:jL land with
  |false=>intro _;rfl
  |true=>
  have il:=(zI land).1 hr;cases h2:decide (ids.length < 2)with
  |true=>intro _;rfl
  |false=>
  cases pE id with
  |false=>intro _;simp only[Bool.not_true,Bool.not_false,cond_true,cond_false,bind_some,Bool.or_true]
  |true=>
  cases Ko (fC ltI ids)with
  |false=>intro _;rfl
  |true=>
  simp only[Bool.not_true,cond_false,bind_some,Bool.or_self,fF];cases hall:ids.all fun k=>(aI land k).2 with
  |false=>intro _;rfl
  |true=>
  simp only[Bool.not_true,cond_false,fF];cases htk:takenL land id with
  |true=>intro _;rfl
  |false=>
  have hlen:¬ ids.length < 2:=by simpa using h2
  have eT:(ids.map fun k=>(aI land k).1)=dY land ids:=rfl;rw[eT,if_neg (by omega)];have mem:∀ t∈dY land ids,t∈land:=by
   intro t ht;obtain⟨k,hk,rfl⟩:=mem_map.1 ht;exact (zH (List.all_eq_true.1 hall k hk)).1
  have ll:(dY land ids).length=ids.length:=List.length_map _;generalize dY land ids=l at*;have ok:∀ t∈l,dx t:=fun t ht=>h t (mem t ht);have right:∀ t∈l,bH t.area=true:=fun t ht=>il.areas t (mem t ht);have a200:∀ t∈l,t.area.length<=200:=fun t ht=>(bZ (right t ht)).2.1;have okr:∀ r∈l.flatMap (·.area),OkR r=true:=by
   intro r hr;obtain⟨t,ht,hr⟩:=List.mem_flatMap.1 hr;exact (bZ (right t ht)).1 r hr
  have fl:=Ku l a200;simp only[cond_false,Bool.not_not];cases hown:l.any fun t=>t.owner != (l.headD dw).owner with
  |true=>intro _;rfl
  |false=>
  simp only[cond_false,aV,aA,cond_true];rw[E9 okr (by omega) hn];simp only[bind_some,aV,aA,cond_true];generalize aT (aG (l.flatMap (·.area)))=area;unfold ad8;have d3:decide (((area.length:Nat):Int)>200)=decide (area.length>200):=by rw[Bool.eq_iff_iff];simp;omega
  rw[d3];cases h4:decide (area.length>200)with
  |true=>intro _;rfl
  |false=>
  have h5:¬ area.length>200:=by simpa using h4
  obtain⟨pi,hpi,cpi⟩:=ug (n:=n) (a:=area) (by omega) hn;have ne:(((pi.length:Nat):Int) != 1)=!Dv area:=by rw[<- cpi];rfl
  rw[hpi];simp only[bind_some,cond_false,ne];cases hco:Dv area with
  |false=>intro _;rfl
  |true=>
  intro did;obtain⟨_,_,_,_,_,_,_,_,d⟩:=did il rfl;have hr2:IsLand (replaceL land ids [ax.mk id (l.headD dw).owner area (bC l)]):=d.land;have s3:∀ x:ax,(sub ([x]:List ax) 0 1)=[x]:=fun _=>rfl;have q3:∀ x:ax,eqL ([x]:List ax).length 1=true:=fun _=>rfl;have lnl2:(bC l).length<=10000:=by
   have h1:=je (l.flatMap fun t=>t.id::t.from_);have h2:=oW l ok;have h3:(bC l).length<=_:=h1;omega
  have ch:=uh (n:=n) (land:=land) (old:=ids) (lots:=[ax.mk id (l.headD dw).owner area (bC l)]) (QR il) h hl (by omega) (fun t ht=>by
   have:t=ax.mk id (l.headD dw).owner area (bC l):=(by simpa using ht);subst this;exact⟨by show area.length<=900;omega,by show (bC l).length<=10000;omega⟩) (by simp) (by omega)
  rw[qE il hr2]at ch;simp only[Bool.not_true,cond_false,s3,q3,cond_true,ch,bind_some,aV,aA]
 ·have hi2:i < ids.length:=by simpa using hi
  have c:decide (((i:Nat):Int) < (ids.length:Int))=true:=by simpa using hi2
  have so:oh 0 ((i:Nat):Int) ids.length=true:=kH (by omega) (by omega) (by omega);have sb:sub ids 0 ((i:Nat):Int).toNat=ids.take i:=by rw[Int.toNat_natCast,agJ]
  simp only[Bd,c,cond_true,so,aQ hi2,bind_some,sb,zJ (n:=n) (l:=ids.take i) (a:=ids[i]) (by rw[length_take];omega) (by rw[length_take];omega),List.getElem_zipIdx,Nat.zero_add];rw[aC (by omega)];cases decide (ids[i]∈ids.take i)<;>rfl
theorem Xd {n:Nat} {l:List ax} {o:GOp} (h:∀ t∈l,dx t) (hl:l.length<=99) (ha:o.area.length<=900) (hi:o.ids.length<=8) (hn:50000<=n):Tk n l o=some (doL l o):=by
 unfold Tk doL;have lo:=Yo o.area;have fin:∀ r:List ax×Int,((bif r.2 != (0:Int)then some (l,r.2)else some (r.1,(0:Int))):Option (List ax×Int))=some (doR l r):=by
  intro r;unfold doR;cases r.2 != 0<;>rfl
 rw[Pw (by omega) hn];simp only[bind_some,aV,aA,cond_true];cases o.kind==0 with
 |true=>
  simp only[cond_true];rw[acN h hl ⟨by show (ofL o.area).1.length<=900;omega,by simp⟩ hn];exact fin _
 |false=>
 cases o.kind==1 with
 |true=>
  simp only[cond_true,cond_false];rw[Yu h hl (by omega) hn];exact fin _
 |false=>
 cases o.kind==2 with
 |true=>
  simp only[cond_true,cond_false];rw[aaN h hl hi hn];exact fin _
 |false=>
 cases o.kind==3 with
 |true=>
  simp only[cond_true,cond_false];rw[Qg h hl hn];exact fin _
 |false=>rfl
theorem MP {n:Nat} {a:List Int} (hl:a.length < 1099511627776) (hn:a.length < n):iY n a a=some true:=by
 have:=dm (step:=nX a a) (fun i=>((i:Nat):Int)) a.length (.inl ()) (fun i hi=>?_) (by simp[nX]) n hn
 ·unfold iY;rw[jf,show (0:Int)=((0:Nat):Int)from rfl,this];rfl
 ·have c:decide (((i:Nat):Int) < (a.length:Int))=true:=by simpa using hi
  simp only[nX,c,cond_true,aQ hi,bind_some,jf,cond_false];rw[aC (by omega)]
theorem Om {n:Nat} (hn:50000<=n) (l:List ax) (ops:List GOp) (x y id d:Int) (hl:l.length<=maxLen) (hln:l.length < n) (ho:ops.length<=maxLen) (hon:ops.length < n):nY n l ops x y id d=some true:=by
 obtain⟨b1,hb1,hfew⟩:=Yq hl hln;obtain⟨b2,hb2,hfewo⟩:=Qc ho hon;unfold nY;rw[ah3 (by omega),hb1,hb2];simp only[bind_some];cases b1 with
 |false=>rfl
 |true=>
 cases b2 with
 |false=>rfl
 |true=>
 obtain⟨l12,lsz⟩:=hfew rfl;obtain⟨o12,osz⟩:=hfewo rfl;have okl:∀ t∈l,dx t:=fun t ht=>by have:=lsz t ht;exact⟨by omega,by omega⟩
 have bb:∀ b:Bool,(b==b)=true:=fun b=>by simp
 have nlen:∀ (a:List ax),a.length<=99->(FP a id d).length<=100:=fun a ha=>Nat.le_trans (Yi _ _ _) (by omega);have cmp:∀ (a:List ax),(∀ t∈a,dx t)->a.length<=99->WI n a x y=some (atL a x y)∧NJ n a x y=some (atL a x y)∧nG n a=some (jL a)∧kN n a=some (jL a)∧EH n a id d=some (FP a id d)∧Dn n a id d=some (FP a id d)∧iY n (FP a id d) (FP a id d)=some true:=by
  intro a ok ha;have:=nlen a ha;exact⟨ag8 x y ok (by omega) (by omega),afc x y ok (by omega) hn,vv (by omega) ok (by omega),qD ha ok hn,Ty ok (by omega) (by omega),aaM ok ha hn,MP (by omega) (by omega)⟩
 have first:dU n l ops x y id d (([]:List ax),([]:List ax),((-1):Int))=some (.inl (([]:List ax),([]:List ax),((0:Nat):Int))):=by
  obtain⟨c1,c2,c3,c4,c5,c6,c7⟩:=cmp [] (by simp) (by simp);have d1:decide (((-1):Int) < (ops.length:Int))=true:=decide_eq_true (by omega);have d2:decide (((-1):Int)>=0)=false:=rfl;have w:i64.wrap ((-1)+1)=((0:Nat):Int):=by rw[cK (by omega) (by omega)];rfl
  simp only[dU,d1,cond_true,d2,cond_false,fF,c1,c2,c3,c4,c5,c6,bind_some,jf,bb,Bool.not_true,aV,aA,c7,w]
 have loop:=dO (l:=ops) (step:=dU n l ops x y id d) (fun i (s:List ax)=>(s,s,((i:Nat):Int))) (fun o s=>(doL s o).1) (fun _=>(.inl ():Unit ⊕ Bool)) (fun i s=>∃ U,Good i U s)
  (fun i hi s hs=>?_) (fun s _=>by simp[dU]) (n - 1) (by omega) [] ⟨[],ag9⟩
 ·obtain⟨m,rfl⟩:∃ m,n=m+1:=⟨n - 1,by omega⟩;obtain⟨c1,c2,c3,c4,c5,c6,c7⟩:=cmp l okl (by omega);have s1:∀ t:ax,(sub ([t]:List ax) 0 1)=[t]:=fun _=>rfl;have q1:∀ t:ax,eqL ([t]:List ax).length 1=true:=fun _=>rfl;have okf:∀ t∈[(aI l id).1],dx t:=fun t ht=>by
   have:t=(aI l id).1:=(by simpa using ht);rw[this];exact lW okl id
  have bi:∀ a:Int,(a==a)=true:=fun a=>by simp
  have lp:iter (dU (m+1) l ops x y id d) (m+1) (([]:List ax),([]:List ax),((-1):Int))=some (.inl ()):=by rw[bf first];exact loop
  simp only[Bool.not_true,cond_false,bind_some,lp,fF,c1,c2,c3,c4,c5,c6,c7,zF (n:=m+1) (id:=id) okl (by omega) (by omega),vw (n:=m+1) (id:=id) okl (by omega) (by omega),bi,bb,cond_true,s1,q1,JN (n:=m+1) okf (by simp) (by omega),aV,aA]
 ·obtain⟨U,hg⟩:=hs;obtain⟨V,_,hg2⟩:=ah5 ops[i] hg;refine⟨?_,V,hg2⟩;have c:decide (((i:Nat):Int) < (ops.length:Int))=true:=by simpa using hi
  have d2:decide (((i:Nat):Int)>=0)=true:=by simp
  obtain⟨z1,z2⟩:=osz _ (List.getElem_mem hi);have ok1:=hg.ok (by omega);have ok2:=hg2.ok (by omega);have ll1:=hg.len;have ll2:=hg2.len;have e1:=WX (n:=n) (o:=ops[i]) ok1 (by omega) (by omega) (by omega) (by omega);have e2:=Xd (n:=n) (o:=ops[i]) ok1 (by omega) (by omega) (by omega) hn;have e3:=WX (n:=n) (o:=ops[i]) okl (by omega) (by omega) (by omega) (by omega);have e4:=Xd (n:=n) (o:=ops[i]) okl (by omega) (by omega) (by omega) hn;obtain⟨c1,c2,c3,c4,c5,c6,c7⟩:=cmp (doL s ops[i]).1 ok2 (by omega);simp only[dU,c,d2,cond_true,aQ hi,bind_some,e1,e2,e3,e4,jf,cond_false,JN (n:=n) ok2 (by omega) (by omega),Bool.not_true,fF,c1,c2,c3,c4,c5,c6,c7,bb,aV,aA];rw[aC (by omega)]
theorem Qi (l:List ax) (ops:List GOp) (x y id d:Int) (hl:l.length<=maxLen) (ho:ops.length<=maxLen):∃ k,nY k l ops x y id d=some true:=
 ⟨50000+l.length+ops.length,Om (by omega) l ops x y id d hl (by omega) ho (by omega)⟩
end Go.Proofs
