/-
  precedent: blocks, keeps, forced, Forced, Add; variance.Decide.
-/
import Derived.Test.YtaajfjagnnajdaaGreatS2
open Go.IntKind (i64)
open Option (bind_some)
open List (map_cons mem_cons length_take mem_map length_append getElem_mem length_cons length_map append_nil length_drop length_nil take_succ_eq_append_getElem foldl_cons any_eq_true length_singleton filter_append length_filter_le map_append)
open Bool (and_eq_true)
namespace Go.Proofs
open Go.Gb Go.RowKit
def SqM (M:Mx):Prop:=∀ R∈M,∀ r∈R,r.length=R.length
theorem abY {os:List aY} {M:Mx} (h:EK os=some M):SqM M:=by
 unfold EK at h;split at h
 ·injection h with h;subst h;intro R hR r hr;obtain⟨o,_,rfl⟩:=mem_map.1 hR;unfold EJ at hr ⊢;obtain⟨a,_,rfl⟩:=mem_map.1 hr;simp
 ·cases h
def Ue (M:Mx) (a b:List Int) (i:Nat):Bool:=match M[i]?,a[i]?,b[i]? with
 |some R,some x,some y=>((R[x.toNat]?).bind fun r=>r[y.toNat]?).getD false
 |_,_,_=>false
def PX (M:Mx) (a b:List Int):List Int:=((List.range M.length).filter fun i=>!(Ue M a b i)).map fun i:Nat=>(i:Int)
theorem aeJ {M:Mx} {v:List Int} (h:EU M v=true) {i:Nat} (hi:i < M.length):∃ (x:Nat),v[i]? =some (x:Int)∧x < (M[i]'hi).length:=by
 simp only[EU,and_eq_true,decide_eq_true_eq,List.all_eq_true,List.mem_range]at h;have h2:=h.2 i hi;have hv:i < v.length:=by omega
 simp only[VB,List.getElem?_eq_getElem hv,List.getElem?_eq_getElem hi,and_eq_true,decide_eq_true_eq]at h2;exact⟨v[i].toNat,by rw[List.getElem?_eq_getElem hv];congr 1;omega,by omega⟩
theorem VE {n:Nat} {M:Mx} (hq:SqM M) {a b:List Int} (ha:EU M a=true) (hb:EU M b=true) (hn:M.length < n) (hm:M.length<=12):dV n M a b=some (PX M a b):=by
 unfold dV PX;have key:=dw (step:=eX M a b) (fun i=>((i:Int),((List.range i).filter fun i=>!(Ue M a b i)).map fun i:Nat=>(i:Int))) (s:=((0:Int),([]:List Int))) M.length (((List.range M.length).filter fun i=>!(Ue M a b i)).map fun i:Nat=>(i:Int)) (by simp) (fun i hi=>by
  have e:decide ((i:Int) < (M.length:Int))=true:=by simpa using hi
  obtain⟨x,hx1,hx2⟩:=aeJ ha hi;obtain⟨y,hy1,hy2⟩:=aeJ hb hi;have hr:(M[i][x]'hx2).length=M[i].length:=hq _ (getElem_mem hi) _ (getElem_mem hx2);have hle:Ue M a b i=(M[i][x]'hx2)[y]'(by rw[hr];exact hy2):=by
   simp only[Ue,List.getElem?_eq_getElem hi,hx1,hy1,Int.toNat_natCast,List.getElem?_eq_getElem hx2,bind_some];rw[List.getElem?_eq_getElem (by rw[hr];exact hy2)];rfl
  have hs1:sub ([(i:Int)]:List Int) 0 1=[(i:Int)]:=rfl;generalize hL:((List.range i).filter fun i=>!(Ue M a b i)).map (fun i:Nat=>(i:Int))=L;have hlen:L.length<=i:=by
   rw[<- hL,length_map];exact Nat.le_trans (length_filter_le _ _) (by simp)
  have hap:bC L.length L.length 1 1 8=true:=bR (by omega) (by simp only[maxLen];omega);have hN:((List.range (i+1)).filter fun i=>!(Ue M a b i)).map (fun i:Nat=>(i:Int))=L++(if Ue M a b i=true then []else [(i:Int)]):=by
   rw[List.range_succ,filter_append,map_append,hL];cases h:Ue M a b i<;>simp[h]
  rw[hN];simp only[eX,e,cond_true,bL hi,bind_some,WN,hx1,hy1,List.getElem?_eq_getElem hx2];rw[List.getElem?_eq_getElem (show y < (M[i][x]'hx2).length by rw[hr];exact hy2),<- hle];simp only[bind_some,ay (show i < 9223372036854775807 by omega)];cases Ue M a b i with
  |true=>simp only[Bool.not_true,cond_false,aA,cond_true,bind_some,if_true,append_nil]
  |false=>simp only[Bool.not_false,cond_true,hs1,length_singleton,hap,dY,aA,bind_some];rfl) (by
  have e:decide ((M.length:Int) < (M.length:Int))=false:=by simp
  simp only[eX,e,cond_false,aA,cond_true]) n hn
 have hz:eqL 0 ([]:List Int).length=true:=rfl;simp only[hz,cond_true,key,bind_some,bF,aA]
def Sv (M:Mx) (c:aL) (w:List Int):List Int:=bif c.grant then PX M c.values w else PX M w c.values
theorem Zb {n:Nat} {M:Mx} (hq:SqM M) {c:aL} {w:List Int} (ha:EU M c.values=true) (hb:EU M w=true) (hn:M.length < n) (hm:M.length<=12):eY n M c w=some (Sv M c w):=by
 unfold eY Sv;cases c.grant with
 |true=>simp only[cond_true,VE hq ha hb hn hm,bind_some,bF,aA]
 |false=>simp only[cond_false,VE hq hb ha hn hm,bind_some,bF,aA,cond_true]
def qF (M:Mx) (w:List Int) (c:aL):Bool:=(Sv M c w).isEmpty
theorem Zc (M:Mx) (w:List Int) (c:aL):((((Sv M c w).length:Nat):Int)==0)=qF M w c:=by
 unfold qF;cases Sv M c w with
 |nil=>rfl
 |cons x l=>simp only[length_cons,List.isEmpty_cons];simp;omega
def Uf (l:List aL):List (Bool×Bool):=l.foldl (fun m c=>qP bEq c.grant true m) []
theorem Zd (k k' v:Bool):∀ l:List (Bool×Bool),eG bEq k (qP bEq k' v l)=if k=k' then some v else eG bEq k l
 |[]=>by cases k<;>cases k'<;>rfl
 |p::r=>by
  have ih:=Zd k k' v r;obtain⟨p1,p2⟩:=p;by_cases h1:k'=p1
  ·subst h1;by_cases h2:k=k'
   ·simp[qP,eG,bEq,h2]
   ·have h2':(k==k')=false:=(by simpa using h2);simp[qP,eG,bEq,h2,h2']
  ·have h1':(k'==p1)=false:=(by simpa using h1);by_cases h2:k=p1
   ·have h3:¬ p1=k':=fun h=>h1 h.symm;simp[qP,eG,bEq,h1',h2,h3]
   ·have h2':(k==p1)=false:=(by simpa using h2);simp only[qP,bEq,h1',cond_false,eG,h2'];simpa only[bEq]using ih
theorem ac9 (k:Bool) (l:List aL):(eG bEq k (Uf l)).getD false=l.any fun c=>decide (k=c.grant):=by
 have main:∀ (l:List aL) (m:List (Bool×Bool)),(eG bEq k (l.foldl (fun m c=>qP bEq c.grant true m) m)).getD false=((l.any fun c=>decide (k=c.grant)) || (eG bEq k m).getD false):=by
  intro l
  induction l with
  |nil=>intro m;simp
  |cons c l ih=>
   intro m;rw[foldl_cons,ih,Zd,List.any_cons];by_cases h:k=c.grant
   ·simp[h]
   ·rw[if_neg h];simp[h]
 have:=main l [];simpa[Uf,eG]using this
def byG (M:Mx) (base:List aL) (w:List Int) (g:Bool):Bool:=base.any fun c=>qF M w c&&decide (g=c.grant)
def aeK (M:Mx) (base:List aL) (w:List Int):Int:=bif byG M base w true&&byG M base w false then 3 else bif byG M base w true then 1 else bif byG M base w false then 2 else 0
def qG (M:Mx) (base:List aL) (w:List Int) (i:Nat):Bool:=match base[i]? with
 |some c=>qF M w c
 |none=>false
def GQ (M:Mx) (base:List aL) (w:List Int):List Int:=((List.range base.length).filter (qG M base w)).map fun i:Nat=>(i:Int)
theorem OV (M:Mx) (base:List aL) (w:List Int) (g:Bool):((base.filter (qF M w)).any fun c=>decide (g=c.grant))=byG M base w g:=by rw[List.any_filter];rfl
theorem ada {n:Nat} {M:Mx} (hq:SqM M) {base:List aL} {w:List Int} (hv:∀ c∈base,EU M c.values=true) (hw:EU M w=true) (hn:M.length < n) (hm:M.length<=12) (hb:base.length < n) (hb2:base.length<=2000):
 gT n M base w=some (aeK M base w,GQ M base w):=by
 unfold gT;have key:=dw (step:=eZ n M base w) (fun i=>((i:Int),Uf ((base.take i).filter (qF M w)),((List.range i).filter (qG M base w)).map fun i:Nat=>(i:Int))) (s:=((0:Int),([]:List (Bool×Bool)),([]:List Int))) base.length (Uf (base.filter (qF M w)),GQ M base w) (by simp[Uf]) (fun i hi=>by
  have e:decide ((i:Int) < (base.length:Int))=true:=by simpa using hi
  have hs1:sub ([(i:Int)]:List Int) 0 1=[(i:Int)]:=rfl;have hra:qG M base w i=qF M w base[i]:=by simp[qG,hi]
  generalize hL:((List.range i).filter (qG M base w)).map (fun i:Nat=>(i:Int))=L;have hlen:L.length<=i:=by
   rw[<- hL,length_map];exact Nat.le_trans (length_filter_le _ _) (by simp)
  have hap:bC L.length L.length 1 1 8=true:=bR (by omega) (by simp only[maxLen];omega);have hN:((List.range (i+1)).filter (qG M base w)).map (fun i:Nat=>(i:Int))=L++(if qF M w base[i]=true then [(i:Int)]else []):=by
   rw[List.range_succ,filter_append,map_append,hL,<- hra];cases h:qG M base w i<;>simp[h]
  have hB:Uf ((base.take (i+1)).filter (qF M w))=bif qF M w base[i]then qP bEq base[i].grant true (Uf ((base.take i).filter (qF M w)))else Uf ((base.take i).filter (qF M w)):=by
   rw[take_succ_eq_append_getElem hi,filter_append];cases h:qF M w base[i]with
   |true=>simp only[Uf,List.filter_cons,h,if_true,List.filter_nil,List.foldl_append,foldl_cons,List.foldl_nil,cond_true]
   |false=>simp only[Uf,List.filter_cons,h,List.filter_nil,append_nil,cond_false,Bool.false_eq_true,if_false]
  rw[hN,hB];simp only[eZ,e,cond_true,bL hi,bind_some,Zb hq (hv _ (getElem_mem hi)) hw hn hm,Zc,ay (show i < 9223372036854775807 by omega)];cases qF M w base[i]with
  |true=>simp only[cond_true,hs1,length_singleton,hap,dY,aA,bind_some,if_true]
  |false=>simp only[cond_false,aA,cond_true,bind_some,Bool.false_eq_true,if_false,append_nil]) (by
  have e:decide ((base.length:Int) < (base.length:Int))=false:=by simp
  simp only[eZ,e,cond_false,aA,cond_true,List.take_length];rfl) n hb
 have hz:eqL 0 ([]:List Int).length=true:=rfl;simp only[hz,cond_true,key,bind_some,ac9,OV];unfold aeK;cases h1:byG M base w true with
 |true=>
  cases h2:byG M base w false with
  |true=>simp only[cond_true,bind_some,bF,aA,Bool.and_self]
  |false=>simp only[cond_true,bind_some,cond_false,bF,aA,Bool.and_false]
 |false=>
  cases h2:byG M base w false with
  |true=>simp only[cond_true,bind_some,cond_false,bF,aA,Bool.false_and]
  |false=>
   simp only[cond_false,bind_some,Bool.false_and];have:GQ M base w=[]:=by
    unfold GQ;have:(List.range base.length).filter (qG M base w)=[]:=by
     rw[List.filter_eq_nil_iff];intro i hi hr;rw[List.mem_range]at hi;simp only[qG,List.getElem?_eq_getElem hi]at hr;cases hg:base[i].grant with
     |true=>
      have:byG M base w true=true:=(by unfold byG;rw[any_eq_true];exact⟨_,getElem_mem hi,by simp[hr,hg]⟩);rw[h1]at this;cases this
     |false=>
      have:byG M base w false=true:=(by unfold byG;rw[any_eq_true];exact⟨_,getElem_mem hi,by simp[hr,hg]⟩);rw[h2]at this;cases this
    rw[this];rfl
   rw[this]
theorem Ze {M:Mx} {base:List aL} (h:VD M base=true):∀ c∈base,EU M c.values=true:=by
 intro c hc;obtain⟨i,hi,rfl⟩:=List.mem_iff_getElem.1 hc;simp only[VD,List.all_eq_true,List.mem_range]at h;have:=h i hi;simp only[Nh,List.getElem?_eq_getElem hi,and_eq_true]at this;exact this.2
theorem JD {os:List aY} {base:List aL} (h:(iA os base).2=true):∃ M,iA os base=(M,true)∧EK os=some M∧VD M base=true∧base.length<=2000:=by
 unfold iA at h ⊢;cases hr:EK os with
 |none=>rw[hr]at h;cases h
 |some M=>
  rw[hr]at h;simp only at h ⊢;split at h
  ·rename_i h1;rw[if_pos h1];simp only at h;exact⟨M,by rw[h],rfl,h1,of_decide_eq_true h⟩
  ·cases h
noncomputable def cZ (os:List aY) (base:List aL) (w:List Int):Int×List Int×Int:=
 bif (iA os base).2&&EU (iA os base).1 w then (aeK (iA os base).1 base w,GQ (iA os base).1 base w,0)else (0,[],1)
theorem abZ {n:Nat} (hn:400<=n) {os:List aY} {base:List aL} {w:List Int} (r:Mx×Bool) (hr:r=iA os base):
 ((bif (!r.2)then some true else bif eqL (sub r.1 0 r.1.length).length r.1.length then (bS n (sub r.1 0 r.1.length) w).bind fun r2=>some (!r2)else none):Option Bool)=some (!((iA os base).2&&EU (iA os base).1 w)):=by
 subst hr;cases h:(iA os base).2 with
 |false=>simp
 |true=>
  obtain⟨M,h1,h2,h3,h4⟩:=JD h;rw[h1];have:=Lf h2;simp only[Bool.not_true,cond_false,bF,aA,cond_true,Oy (n:=n) M w (by omega) (by omega),bind_some,Bool.true_and]
theorem adb {n:Nat} (hn:400<=n) (os:List aY) (base:List aL) (w:List Int) (hb:base.length < n) (hb2:base.length < 9223372036854775807):mR n os base w=some (cZ os base w):=by
 unfold mR cZ;rw[Za hn os base hb hb2];simp only[bind_some];rw[abZ hn _ rfl];simp only[bind_some];cases h:(iA os base).2&&EU (iA os base).1 w with
 |false=>simp
 |true=>
  simp only[and_eq_true]at h;obtain⟨M,h1,h2,h3,h4⟩:=JD h.1;rw[h1]at h ⊢;have:=Lf h2;simp only[Bool.not_true,cond_false,bF,aA,cond_true,ada (abY h2) (Ze h3) h.2 (n:=n) (by omega) (by omega) hb h4,bind_some]
theorem Ni {l:List aL} (h:l.length < 1099511627776):AL l=some l:=uh (b:=40) (by omega) (by simp only[maxLen];omega)
theorem GR {n:Nat} {l:List aL} {φ:(aL×Unit)->Option Bool} (p:aL->Bool) (h:∀ x∈l,φ (x,())=some (p x)) (hl:l.length < 1099511627776) (hn:l.length < n):qE n l φ=some (WO p l):=OL p h hl hn
theorem Cq {n:Nat} {l:List aL} {φ:(aL×Unit)->Option Bool} (p:aL->Bool) (h:∀ x∈l,φ (x,())=some (p x)) (hl:l.length < 1099511627776) (hn:l.length < n):jr n l φ=some (l.any p):=by
 unfold jr;rw[GR p h hl hn];simp only[bind_some,abL]
def Xp (l:List aL):Prop:=l.length < 1000∧∀ c∈l,c.values.length < 1000
theorem VF {c:aL} (h:c.values.length < 1000):kR c=some c:=by
 unfold kR;rw[vw (by omega)];simp only[bind_some,bF,aA,cond_true]
theorem ade {n:Nat} {l:List aL} (h:Xp l) (hn:1000<=n):jU n l=some l:=by
 unfold jU;obtain⟨h1,h2⟩:=h;rw[Ni (by omega)];have key:=dw (step:=lG l) (fun i=>((i:Int),l)) (s:=((0:Int),l)) l.length l rfl (fun i hi=>by
  have e:decide ((i:Int) < (l.length:Int))=true:=by simpa using hi
  have hv:=h2 _ (getElem_mem hi);have hs:l.set (((0:Nat):Int)+(i:Int)).toNat (aL.mk l[i].id l[i].values l[i].grant)=l:=by
   have:(((0:Nat):Int)+(i:Int)).toNat=i:=(by omega);rw[this];exact List.set_getElem_self hi
  simp only[lG,e,cond_true,dM hi,fV hi,bind_some,vw (show l[i].values.length < 1099511627776 by omega),bF,aA,hs,ay (show i < 9223372036854775807 by omega)]) (by
  have e:decide ((l.length:Int) < (l.length:Int))=false:=by simp
  simp only[lG,e,cond_false]) n (by omega)
 simp only[bind_some,key,bF,aA,cond_true]
def ahA (M:Mx) (base:List aL) (c:aL):List aL×Int:=
 bif base.any (fun d=>d.id==c.id)then ([],5)else bif base.any (fun d=>!(d.grant==c.grant)&&qF M c.values d)then ([],25)else (base++[c],0)
noncomputable def Ug (os:List aY) (base:List aL) (c:aL):List aL×Int:=
 bif (iA os base).2&&EU (iA os base).1 c.values then ahA (iA os base).1 base c else ([],1)
theorem agX {n:Nat} (hn:1000<=n) (os:List aY) {base:List aL} (hb:Xp base) {c:aL} (hc:c.values.length < 1000):tK n os base c=some (Ug os base c):=by
 obtain⟨hb1,hb2⟩:=hb;unfold tK Ug;rw[Za (by omega) os base (by omega) (by omega)];simp only[bind_some];rw[abZ (by omega) _ rfl];simp only[bind_some];cases h:(iA os base).2&&EU (iA os base).1 c.values with
 |false=>rfl
 |true=>
  simp only[and_eq_true]at h;obtain⟨M,g1,g2,g3,g4⟩:=JD h.1;rw[g1]at h ⊢;have hl:=Lf g2;have hz:eqL 0 ([]:List aL).length=true:=rfl;simp only[Bool.not_true,cond_false,cond_true];rw[Cq (fun d=>d.id==c.id) (fun x _=>rfl) (by omega) (by omega)];have e1:decide ((base.length:Int)>=2000)=false:=by simp;omega
  simp only[bind_some,e1,cond_false,hz,cond_true];unfold ahA;cases base.any (fun d=>d.id==c.id)with
  |true=>rfl
  |false=>
   simp only[cond_false];have key:=kT (l:=base) (step:=mU n base c (M,true)) (fun i=>((i:Int),base.take i)) (fun d=>!(d.grant==c.grant)&&qF M c.values d) base (fun _=>(([]:List aL),(25:Int))) (fun i hi=>by
    have e:decide ((i:Int) < (base.length:Int))=true:=(by simpa using hi);have hs1:sub ([base[i]]:List aL) 0 1=[base[i]]:=rfl;have hlen:(base.take i).length=i:=(by simp;omega);have hap:bC i i 1 1 40=true:=bR (by omega) (by simp only[maxLen];omega);simp only[mU,e,cond_true,bL hi,bind_some,bF,aA,Zb (abY g2) (Ze g3 _ (getElem_mem hi)) h.2 (n:=n) (by omega) (by omega),Zc,VF (hb2 _ (getElem_mem hi)),hs1,length_singleton,hlen,hap,dY,ay (show i < 9223372036854775807 by omega)];rw[take_succ_eq_append_getElem hi];cases base[i].grant==c.grant with
    |true=>simp only[Bool.not_true,cond_false,bind_some,Bool.false_and]
    |false=>
     simp only[Bool.not_false,cond_true,bind_some,Bool.true_and];cases qF M c.values base[i]<;>rfl) (by
    have e:decide ((base.length:Int) < (base.length:Int))=false:=(by simp);simp only[mU,e,cond_false,aA,cond_true,List.take_length]) n (by omega)
   simp only[List.take_zero]at key;rw[show ((0:Nat):Int)=0 from rfl]at key;rw[key,<- mq];have hs1:sub ([c]:List aL) 0 1=[c]:=rfl;have hap:bC base.length base.length 1 1 40=true:=bR (by omega) (by simp only[maxLen];omega);cases lu (fun d=>!(d.grant==c.grant)&&qF M c.values d) base with
   |some i=>rfl
   |none=>simp only[fQ,VF hc,bind_some,hs1,length_singleton,hap,cond_true,dY,bF,aA,Option.isSome_none,cond_false]
noncomputable def lH (os:List aY) (base:List aL) (id:Int) (values:List Int) (officer:Bool):Bool×List aL×Int:=
 bif (cZ os base values).2.2 != 0 then (false,base,1)else bif (cZ os base values).1==3 then (false,base,25)else
  bif (Ug os base (aL.mk id values (bif (cZ os base values).1==1 then true else bif (cZ os base values).1==2 then false else officer))).2 != 0 then (false,base,(Ug os base (aL.mk id values (bif (cZ os base values).1==1 then true else bif (cZ os base values).1==2 then false else officer))).2)
  else ((bif (cZ os base values).1==1 then true else bif (cZ os base values).1==2 then false else officer),(Ug os base (aL.mk id values (bif (cZ os base values).1==1 then true else bif (cZ os base values).1==2 then false else officer))).1,0)
theorem Ib {n:Nat} (hn:1000<=n) (os:List aY) {base:List aL} (hb:Xp base) (id:Int) {values:List Int} (hv:values.length < 1000) (officer:Bool):gU n os base id values officer=some (lH os base id values officer):=by
 have hg:∀ f:Int,((bif f==1 then some true else (bif f==2 then some false else some officer)):Option Bool)=some (bif f==1 then true else bif f==2 then false else officer):=fun f=>by cases f==1<;>cases f==2<;>rfl
 unfold gU lH;rw[adb (by omega) os base values (by have:=hb.1;omega) (by have:=hb.1;omega)];simp only[bind_some,ade hb hn,bF,aA,cond_true,hg,vw (show values.length < 1099511627776 by omega)];generalize (bif (cZ os base values).1==1 then true else bif (cZ os base values).1==2 then false else officer)=g;rw[agX hn os hb (c:=aL.mk id values g) hv];simp only[bind_some];cases (cZ os base values).2.2 != 0 with
 |true=>rfl
 |false=>
  cases (cZ os base values).1==3 with
  |true=>rfl
  |false=>
   simp only[cond_false];cases (Ug os base (aL.mk id values g)).2 != 0<;>rfl
def fJ (v:aB):au:=au.mk v.box_base_x0 v.box_base_y0 v.box_base_x1 v.box_base_y1
def okV (v:aB):Bool:=OkR (fJ v)&&(decide (0<=v.box_z0)&&(decide (v.box_z0 < v.box_z1)&&(decide (v.box_z1<=4096)&&((decide (v.use=0) || decide (v.units=0))&&(decide (0<=v.use)&&(decide (v.use < 6)&&(decide (0<=v.units)&&decide (v.units<=1048576))))))))
theorem xZ (v:aB):fB v=some (okV v):=by
 unfold fB okV;rw[kK];have e1:decide (v.box_z0 < 0)=!decide (0<=v.box_z0):=by rw[<- decide_not,decide_eq_decide];omega
 have e2:decide (v.box_z0>=v.box_z1)=!decide (v.box_z0 < v.box_z1):=by rw[<- decide_not,decide_eq_decide];omega
 have e3:decide (v.box_z1>4096)=!decide (v.box_z1<=4096):=by rw[<- decide_not,decide_eq_decide];omega
 have e4:(v.use != 0)=!decide (v.use=0):=by by_cases h:v.use=0<;>simp[h]
 have e5:(v.units != 0)=!decide (v.units=0):=by by_cases h:v.units=0<;>simp[h]
 rw[e1,e2,e3,e4,e5,show au.mk v.box_base_x0 v.box_base_y0 v.box_base_x1 v.box_base_y1=fJ v from rfl];simp only[ge_iff_le];generalize OkR (fJ v)=a1;generalize decide (0<=v.box_z0)=a2;generalize decide (v.box_z0 < v.box_z1)=a3;generalize decide (v.box_z1<=4096)=a4;generalize decide (v.use=0)=a5;generalize decide (v.units=0)=a6;generalize decide (0<=v.use)=a7;generalize decide (v.use < 6)=a8;generalize decide (0<=v.units)=a9;generalize decide (v.units<=1048576)=a10;cases a1<;>cases a2<;>cases a3<;>cases a4<;>cases a5<;>cases a6<;>cases a7<;>cases a8<;>cases a9<;>rfl
theorem Zf {v:aB} (h:okV v=true):OkR (fJ v)=true:=by rw[okV,and_eq_true]at h;exact h.1
def Lg (d:GDrawing):List aB:=d.phases.flatMap (·.volumes)
theorem Zg {l:List uX} (h:∀ p∈l,p.volumes.length<=1000):(l.flatMap (·.volumes)).length<=l.length*1000:=by
 induction l with
 |nil=>simp
 |cons p l ih=>
  have h1:=h p (by simp);have h2:=ih fun q hq=>h q (by simp[hq]);simp only[List.flatMap_cons,length_append,length_cons];omega
def afS (d:GDrawing):Prop:=d.phases.length<=1000∧∀ p∈d.phases,p.volumes.length<=1000
theorem aaY {n:Nat} {d:GDrawing} (h:afS d) (hn:1001<=n):oM n d 0 (d.phases.length:Int)=some (Lg d):=by
 obtain⟨h1,h2⟩:=h;unfold oM;have key:=dw (step:=kG d 0 (d.phases.length:Int)) (fun i=>((i:Int),(d.phases.take i).flatMap (·.volumes))) (s:=((0:Int),([]:List aB))) d.phases.length (Lg d) rfl (fun i hi=>by
  have e2:decide ((i:Int)>=0)=true:=by simp
  have hl:=Zg (l:=d.phases.take i) fun p hp=>h2 p (List.mem_of_mem_take hp);rw[length_take]at hl;have hv:=h2 _ (getElem_mem hi);generalize hL:(d.phases.take i).flatMap (·.volumes)=L at hl;have hap:bC L.length L.length d.phases[i].volumes.length d.phases[i].volumes.length 72=true:=bR (by omega) (by simp only[maxLen];omega);simp only[kG,gB hi,cond_true,bL hi,bind_some,e2,hap,dY,aA,ay (show i < 9223372036854775807 by omega)];rw[take_succ_eq_append_getElem hi,List.flatMap_append,hL];simp only[List.flatMap_cons,List.flatMap_nil,append_nil]) (by simp only[kG,gH,cond_false,aA,cond_true,List.take_length,Lg]) n (by omega)
 have hz:eqL 0 ([]:List aB).length=true:=rfl;simp only[hz,cond_true,key,bind_some,bF,aA]
def aeL (v:aB):Int:=(jd v).getD 0
theorem Sw (v:aB):jd v=some (aeL v):=by
 unfold aeL jd;rw[xZ];cases v.extra<;>cases okV v<;>rfl
def Xq (v:aB):Int:=(kX v).getD 0
theorem Zh (v:aB):kX v=some (Xq v):=by
 unfold Xq kX;rw[xZ,Sw];cases h:okV v with
 |false=>rfl
 |true=>
  have e:=M6 (Zf h);unfold fJ at e;simp only[bind_some,Bool.not_true,cond_false,e,Option.getD_some]
theorem agY {n:Nat} (a0:List eu) (a1:List bf) (a2:List bT) (a3:List aX) (a4:List eD) (a5:List bU) (a6:List aU) (a7:Int) (a8:List au) {a9:List aB} (hl:a9.length<=1000) (hn:1001<=n):∃ r,iW n a0 a1 a2 a3 a4 a5 a6 a7 a8 a9=some (r,a0,a1,a2,a3,a4,a5,a6,a7,a8,a9):=by
 have key:=rV (l:=a9) (step:=gZ a9) (fun i (s:Int)=>(s,(i:Int))) (fun v s=>i64.wrap (s+Xq v)) (fun s=>s) (fun i hi s=>by simp only[gZ,gB hi,cond_true,dM hi,fV hi,bind_some,Zh,ay (show i < 9223372036854775807 by omega)]) (fun s=>by simp only[gZ,gH,cond_false]) n (by omega) 0;rw[show ((0:Nat):Int)=0 from rfl]at key;unfold iW nK;simp only[key,bind_some,aA,cond_true];exact⟨_,rfl⟩
theorem agZ {n:Nat} (a0:List eu) (a1:List bf) (a2:List bT) (a3:List aX) (a4:List eD) (a5:List bU) (a6:List aU) (a7:Int) (a8:List au) {a9:List aB} (hl:a9.length<=1000) (hn:1001<=n):∃ r,iX n a0 a1 a2 a3 a4 a5 a6 a7 a8 a9=some (r,a0,a1,a2,a3,a4,a5,a6,a7,a8,a9):=by
 have key:=rV (l:=a9) (step:=iq a9) (fun i (s:Int)=>(s,(i:Int))) (fun v s=>i64.wrap (s+v.units)) (fun s=>s) (fun i hi s=>by simp only[iq,gB hi,cond_true,dM hi,fV hi,bind_some,lm,ay (show i < 9223372036854775807 by omega)]) (fun s=>by simp only[iq,gH,cond_false]) n (by omega) 0;rw[show ((0:Nat):Int)=0 from rfl]at key;unfold iX nL;simp only[key,bind_some,aA,cond_true];exact⟨_,rfl⟩
theorem aeM {n:Nat} (a0:List eu) (a1:List bf) (a2:List bT) (a3:List aX) (a4:List eD) (a5:List bU) (a6:List aU) (a7:Int) (a8:List au) {a9:List aB} (hl:a9.length<=1000) (hn:1001<=n):∃ r,ic n a0 a1 a2 a3 a4 a5 a6 a7 a8 a9=some (r,a0,a1,a2,a3,a4,a5,a6,a7,a8,a9):=by
 have key:=rV (l:=a9) (step:=dZ a9) (fun i (s:Int)=>(s,(i:Int))) (fun v s=>max s (aeL v)) (fun s=>s) (fun i hi s=>by simp only[dZ,gB hi,cond_true,dM hi,fV hi,bind_some,Sw,ay (show i < 9223372036854775807 by omega)]) (fun s=>by simp only[dZ,gH,cond_false]) n (by omega) 0;rw[show ((0:Nat):Int)=0 from rfl]at key;unfold ic jI;simp only[key,bind_some,aA,cond_true];exact⟨_,rfl⟩
theorem aeN {n:Nat} (a0:List eu) (a1:List bf) (a2:List bT) (a3:List aX) (a4:List eD) (a5:List bU) (a6:List aU) (a7:Int) (a8:List au) {a9:List aB} (hl:a9.length<=1000) (hn:1001<=n):∃ r,ig n a0 a1 a2 a3 a4 a5 a6 a7 a8 a9=some (r,a0,a1,a2,a3,a4,a5,a6,a7,a8,a9):=by
 have key:=rV (l:=a9) (step:=d9 a9) (fun i (s:Int)=>(s,(i:Int))) (fun v s=>max s v.box_z1) (fun s=>s) (fun i hi s=>by simp only[d9,gB hi,cond_true,dM hi,fV hi,bind_some,kI,ay (show i < 9223372036854775807 by omega)]) (fun s=>by simp only[d9,gH,cond_false]) n (by omega) 0;rw[show ((0:Nat):Int)=0 from rfl]at key;unfold ig jJ;simp only[key,bind_some,aA,cond_true];exact⟨_,rfl⟩
theorem adf (e:bn) (a:HV) {u:Int} (h0:0<=u) (h6:u < 6):∃ b,iQ e a u=some b:=by
 obtain⟨k,rfl⟩:∃ k:Nat,u=(k:Int):=⟨u.toNat,by omega⟩;have hk:k < 6:=by omega
 unfold iQ;rw[dM hk,bL (l:=[a.a0,a.a1,a.a2,a.a3,a.a4,a.a5]) hk];exact⟨_,rfl⟩
theorem Ec {n:Nat} {l:List bn} {φ:(bn×Unit)->Option Bool} (p:bn->Bool) (h:∀ x∈l,φ (x,())=some (p x)) (hl:l.length<=9223372036854775807) (hn:l.length < n):o8 n l φ=some (WO p l):=EC p h hl hn
theorem ag0 {n:Nat} (p:lX) {u:Int} (h0:0<=u) (h6:u < 6) (ht:p.tables.length < n) (ht2:p.tables.length<=9223372036854775807) (hr:∀ t∈p.tables,t.rows.length < n∧t.rows.length<=9223372036854775807):∃ r,Ab n p u=some r:=by
 have key:∃ o,iter (iR n p u) n (0:Int)=some o∧True:=by
  have step:∀ i (hi:i < p.tables.length),iR n p u (i:Int)=some (.inl ((i+1:Nat):Int))∨∃ z,iR n p u (i:Int)=some (.inr (.inr z)):=by
   intro i hi;obtain⟨r1,r2⟩:=hr _ (getElem_mem hi);simp only[iR,gB hi,cond_true,bL hi,bind_some,ay (show i < 9223372036854775807 by omega)];cases ByteArray.toList p.tables[i].name==ByteArray.toList ⟨#[116,114,97,102,102,105,99]⟩with
   |false=>exact Or.inl rfl
   |true=>
    right;simp only[Bool.not_true,cond_false];generalize HV.mk _ _ _ _ _ _=A;have hx:=Ec (n:=n) (l:=p.tables[i].rows) (φ:=fun y1=>iQ y1.1 A u) (fun e=>(iQ e A u).getD false) (fun e _=>by obtain⟨b,hb⟩:=adf e A h0 h6;simp[hb]) r2 r1;rw[hx];simp only[bind_some,abL];cases hany:p.tables[i].rows.any fun e=>(iQ e A u).getD false with
    |false=>exact⟨_,rfl⟩
    |true=>
     obtain⟨j,hj,h1,_⟩:=aem hany;rw[h1];simp only[cond_true,bL hj,bind_some];exact⟨_,rfl⟩
  have main:∀ k i m,i+k=p.tables.length->k < m->∃ o,iter (iR n p u) m (i:Int)=some o∧True:=by
   intro k
   induction k with
   |zero=>
    intro i m hi hm;obtain⟨q,rfl⟩:∃ q,m=q+1:=⟨m - 1,by omega⟩;have:i=p.tables.length:=(by omega);subst this;exact⟨.inl (),aQ (by simp only[iR,gH,cond_false]),trivial⟩
   |succ k ih=>
    intro i m hi hm;obtain⟨q,rfl⟩:∃ q,m=q+1:=⟨m - 1,by omega⟩;rcases step i (by omega)with h |⟨z,h⟩
    ·rw[bI h];exact ih (i+1) q (by omega) (by omega)
    ·exact⟨_,aQ h,trivial⟩
  exact main p.tables.length 0 n (by omega) ht
 obtain⟨o,h1,_⟩:=key;unfold Ab;rw[h1];cases o with
 |inl w=>exact⟨_,rfl⟩
 |inr r=>exact⟨_,rfl⟩
theorem aaZ {n:Nat} (p:lX) {v:aB} (hv:okV v=true) (ht:p.tables.length < n) (ht2:p.tables.length<=9223372036854775807) (hr:∀ t∈p.tables,t.rows.length < n∧t.rows.length<=9223372036854775807):∃ r,kP n p v=some r:=by
 simp only[okV,and_eq_true,decide_eq_true_eq]at hv;obtain⟨r,h1⟩:=ag0 (n:=n) p (u:=v.use) hv.2.2.2.2.2.1 hv.2.2.2.2.2.2.1 ht ht2 hr;unfold kP;rw[h1,Zh];simp only[bind_some];have e100:((100:Int) != 0)=true:=rfl;by_cases h:r>0
 ·have e:(r != 0)=true:=by simp only[bne_iff_ne,ne_eq];omega
  have e2:decide (r>0)=true:=by simpa using h
  rw[e,e2];simp only[cond_true,bind_some,e100];cases decide (Xq v>i64.wrap (Int.tdiv 109951162777600 r))<;>exact⟨_,rfl⟩
 ·have e2:decide (r>0)=false:=by simpa using h
  rw[e2];exact⟨_,rfl⟩
theorem ag1 {n:Nat} (a0:List eu) (a1:List bf) (a2:List bT) (a3:List aX) (a4:List eD) (a5:List bU) (a6:List aU) (a7:Int) (a8:List au) {a9:List aB} (hl:a9.length<=1000) (hn:1001<=n) (hv:∀ v∈a9,okV v=true) (ht:a1.length < n) (ht2:a1.length<=9223372036854775807) (hr:∀ t∈a1,t.rows.length < n∧t.rows.length<=9223372036854775807):∃ r,gQ n a0 a1 a2 a3 a4 a5 a6 a7 a8 a9=some (r,a0,a1,a2,a3,a4,a5,a6,a7,a8,a9):=by
 have key:=ko (l:=a9) (step:=iy n a9) (fun i (s:Int)=>(s,(i:Int),a0,a1,a2,a3,a4,a5,a6,a7,a8,a9)) (fun v s=>i64.wrap (s+(kP n (lX.mk a0 a1 a2 a3 a4 a5 a6 a7) v).getD 0)) (fun s=>(s,a0,a1,a2,a3,a4,a5,a6,a7,a8,a9)) (fun _ _=>True) (fun i hi s _=>⟨by
  obtain⟨r,h1⟩:=aaZ (n:=n) (lX.mk a0 a1 a2 a3 a4 a5 a6 a7) (hv _ (getElem_mem hi)) ht ht2 hr;simp only[iy,gB hi,cond_true,dM hi,fV hi,bind_some,iT,h1,aA,ay (show i < 9223372036854775807 by omega),Option.getD_some],trivial⟩) (fun s _=>by simp only[iy,gH,cond_false,aA,cond_true]) n (by omega) 0 trivial
 rw[show ((0:Nat):Int)=0 from rfl]at key;unfold gQ nM;simp only[key,bind_some,aA,cond_true];exact⟨_,rfl⟩
theorem aeO {α β:Type} (l:List α) (f:α->β) (z:β) {i:Nat} (hi:i < l.length):((l.take i).map f++List.replicate (l.length - i) z).set i (f l[i])=(l.take (i+1)).map f++List.replicate (l.length - (i+1)) z:=by
 have h1:((l.take i).map f).length=i:=by simp;omega
 rw[List.set_append_right _ _ (by omega),h1,Nat.sub_self,show l.length - i=(l.length - (i+1))+1 by omega,List.replicate_succ,List.set_cons_zero,take_succ_eq_append_getElem hi,map_append,List.append_assoc];rfl
theorem aeP {α β:Type} (l:List α) (f:α->β) (z:β) {i:Nat} (hi:i<=l.length):((l.take i).map f++List.replicate (l.length - i) z).length=l.length:=by simp;omega
theorem aeQ {α β:Type} (l:List α) (f:α->β) (z:β) {i:Nat} (hi:i < l.length):((l.take (i+1)).map f++List.replicate (l.length - (i+1)) z)[i]? =some (f l[i]):=by rw[List.getElem?_append_left (by simp;omega)];simp[hi]
theorem aeR {n:Nat} {l:List aB} (hl:l.length<=1000) (hn:1001<=n):iter (dO l) n ((0:Int),List.replicate l.length (au.mk 0 0 0 0),([]:List Int))=some (l.map fJ,l.flatMap fun v=>[v.box_base_x0,v.box_base_x1]):=by
 refine dw (step:=dO l) (fun i=>((i:Int),(l.take i).map fJ++List.replicate (l.length - i) (au.mk 0 0 0 0),(l.take i).flatMap fun v=>[v.box_base_x0,v.box_base_x1])) l.length _ ?_ (fun i hi=>?_) ?_ n (by omega)
 ·simp
 ·have h1:=aeP l fJ (au.mk 0 0 0 0) (Nat.le_of_lt hi);have h2:=aeO l fJ (au.mk 0 0 0 0) hi;have h3:=aeQ l fJ (au.mk 0 0 0 0) hi;have h4:((l.take i).flatMap fun v=>[v.box_base_x0,v.box_base_x1]).length=2*i:=by
   have:∀ m:List aB,(m.flatMap fun v=>[v.box_base_x0,v.box_base_x1]).length=2*m.length:=by
    intro m;induction m with
    |nil=>rfl
    |cons a m ih=>simp only[List.flatMap_cons,length_append,ih,length_cons,length_nil];omega
   rw[this,length_take];omega
  generalize (l.take i).map fJ++List.replicate (l.length - i) (au.mk 0 0 0 0)=B at h1 h2;have e0:(((0:Nat):Int)+(i:Int)).toNat=i:=by omega
  have et:(((l.length:Nat):Int):Int).toNat=l.length:=by omega
  have hb:au.mk l[i].box_base_x0 l[i].box_base_y0 l[i].box_base_x1 l[i].box_base_y1=fJ l[i]:=rfl;have hiB:i < B.length:=by omega
  rw[<- h2]at h3;have g3:at? (B.set i (fJ l[i])) (((0:Nat):Int)+(i:Int))=some (fJ l[i]):=by rw[DF];exact h3
  have hs:sub ([(fJ l[i]).x0,(fJ l[i]).x1]:List Int) 0 2=[(fJ l[i]).x0,(fJ l[i]).x1]:=rfl;have hap:bC (2*i) (2*i) 2 2 8=true:=bR (by omega) (by simp only[maxLen];omega);have hl2:([(fJ l[i]).x0,(fJ l[i]).x1]:List Int).length=2:=rfl;simp only[dO,gB hi,cond_true,dM hi,fV hi,bind_some,et,fV hiB,e0,hb,g3,hs,hl2,h4,hap,dY,aA,ay (show i < 9223372036854775807 by omega)];rw[<- h2,take_succ_eq_append_getElem hi,List.flatMap_append];rfl
 ·simp only[dO,gH,cond_false,aA,cond_true,List.take_length];simp
theorem aeS {n:Nat} {l:List aB} {R:List au} {X:List Int} (w2:List Int) (hR:R.length=l.length) (hX:X.length=w2.length) (hl:l.length<=1000) (hn:1001<=n) {k:Nat} (hk:k+1 < w2.length) (hw:w2.length<=10000) (s:Int):∃ o,iter (gq l w2 R X (k:Int)) n (s,(0:Int),(0:Int))=some o∧True:=by
 refine YU (fun i (v:Int×Int×Int)=>v.2.2=(i:Int)) l.length (fun _=>True) (fun i v hi hv=>?_) (fun v hv=>?_) n (by omega) _ rfl
 ·obtain⟨a,b,c⟩:=v;simp only at hv;subst hv;have et:((((l.length:Nat):Int):Int).toNat)=l.length:=by omega
  have ew:i64.wrap ((k:Int)+1)=((k+1:Nat):Int):=ay (by omega);simp only[gq,et,gB hi,cond_true,dM hi,fV (show i < R.length by omega),bind_some,dM (show k < w2.length by omega),fV (show k < X.length by omega),ew,dM hk,fV (show k+1 < X.length by omega),ay (show i < 9223372036854775807 by omega)];cases decide ((R[i]'(by omega)).x0<=X[k]'(by omega))with
  |false=>exact⟨_,rfl,rfl⟩
  |true=>
   simp only[cond_true,bind_some];cases decide (X[k]'(by omega) < (R[i]'(by omega)).x1)with
   |false=>exact⟨_,rfl,rfl⟩
   |true=>
    simp only[cond_true,bind_some];cases decide ((R[i]'(by omega)).y1>b)<;>exact⟨_,rfl,rfl⟩
 ·obtain⟨a,b,c⟩:=v;simp only at hv;subst hv;have et:((((l.length:Nat):Int):Int).toNat)=l.length:=by omega
  simp only[gq,et,gH,cond_false];exact⟨_,rfl,trivial⟩
theorem aeT {n:Nat} (a0:List eu) (a1:List bf) (a2:List bT) (a3:List aX) (a4:List eD) (a5:List bU) (a6:List aU) (a7:Int) (a8:List au) {a9:List aB} (hl:a9.length<=1000) (hn:10000<=n):∃ r,fI n a0 a1 a2 a3 a4 a5 a6 a7 a8 a9=some (r,a0,a1,a2,a3,a4,a5,a6,a7,a8,a9):=by
 have et:((((a9.length:Nat):Int):Int).toNat)=a9.length:=by omega
 have mk:Jd ((a9.length:Nat):Int) 32=true:=afH (by omega) (by simp only[maxLen];omega);have d1:decide (((a9.length:Nat):Int)<=((a9.length:Nat):Int))=true:=by simp
 have d2:decide (0<=((a9.length:Nat):Int))=true:=by simp
 have hz:eqL 0 ([]:List Int).length=true:=rfl;have hx:(a9.flatMap fun v=>[v.box_base_x0,v.box_base_x1]).length<=2000:=by
  have:∀ m:List aB,(m.flatMap fun v=>[v.box_base_x0,v.box_base_x1]).length=2*m.length:=by
   intro m;induction m with
   |nil=>rfl
   |cons a m ih=>simp only[List.flatMap_cons,length_append,ih,length_cons,length_nil];omega
  rw[this];omega
 unfold fI;rw[et,aeR hl (by omega)];generalize (a9.flatMap fun v=>[v.box_base_x0,v.box_base_x1])=W at hx;have srt:=Io (n:=n) (l:=a9.map fJ) (φ:=fun y1=>fH y1.1 y1.2.1) (fun x y=>if x.y0 < y.y0 then -1 else if y.y0 < x.y0 then 1 else 0) (fun x y=>by
  show fH x y=_;unfold fH;rw[xV];rfl) (fun x y=>by
  unfold ltY;rw[decide_eq_decide];constructor
  ·intro h;split at h
   ·assumption
   ·split at h<;>omega
  ·intro h;rw[if_pos h];decide) (by simp;omega) (by simp;omega)
 have hm:eqL a9.length (a9.map fJ).length=true:=by simp
 have hR:(rE ltY (a9.map fJ)).length=a9.length:=by rw[DL abT];simp
 have hX:(rD ltI W).length=W.length:=(Jz ltI W).length_eq;simp only[d1,d2,mk,Bool.and_self,cond_true,hz,bind_some,hm,srt,aA,xW (show W.length < 1099511627776 by omega) (show W.length < n by omega)];generalize rE ltY (a9.map fJ)=R at hR;generalize rD ltI W=X at hX;have key:∃ o,iter (gy n a9 W R X) n ((0:Int),(0:Int))=some o∧True:=by
  have eN:max (0:Int) (i64.wrap (((W.length:Nat):Int) - 1))=((W.length - 1:Nat):Int):=by
   cases h:W.length with
   |zero=>rfl
   |succ k=>rw[mg (by omega) (by omega)];omega
  refine YU (fun i (v:Int×Int)=>v.2=(i:Int)) (W.length - 1) (fun _=>True) (fun i v hi hv=>?_) (fun v hv=>?_) n (by omega) _ rfl
  ·obtain⟨a,b⟩:=v;simp only at hv;subst hv;obtain⟨o,ho,_⟩:=aeS (n:=n) (l:=a9) (R:=R) (X:=X) W hR hX hl (by omega) (k:=i) (by omega) (by omega) a;simp only[gy,eN,gB hi,cond_true,ho,bind_some,ay (show i < 9223372036854775807 by omega)];exact⟨_,rfl,rfl⟩
  ·obtain⟨a,b⟩:=v;simp only at hv;subst hv;simp only[gy,eN,gH,cond_false];exact⟨_,rfl,trivial⟩
 obtain⟨o,ho,_⟩:=key;rw[ho];exact⟨o,rfl⟩
def Zi (b:au) (k:Int):au:=⟨b.x0 - k,b.y0 - k,b.x1+k,b.y1+k⟩
def tL (area:List au) (b:au) (k:Int):Bool:=OkR (Zi b k)&&decide (area.foldl (fun s y=>agR (Zi b k) s y) 0=aeD (Zi b k))
theorem adg {n:Nat} (b:au) (k:Int) (a2:List eu) (a3:List bf) (a4:List bT) (a5:List aX) (a6:List eD) (a7:List bU) (a8:List aU) (a9:Int) {a10:List au} (a11:List aB) (hb:OkR b=true) (h0:0<=k) (h1:k<=1048576) (hl:a10.length<=1000) (hn:1001<=n):
 iw n b k a2 a3 a4 a5 a6 a7 a8 a9 a10 a11=some (tL a10 b k,a2,a3,a4,a5,a6,a7,a8,a9,a10,a11):=by
 rw[afI]at hb;unfold iw AB tL;rw[dz (x:=b.x0 - k) (by omega) (by omega),dz (x:=b.y0 - k) (by omega) (by omega),dz (x:=b.x1+k) (by omega) (by omega),dz (x:=b.y1+k) (by omega) (by omega),show au.mk (b.x0 - k) (b.y0 - k) (b.x1+k) (b.y1+k)=Zi b k from rfl,kK];generalize Zi b k=g;simp only[bind_some];cases hg:OkR g with
 |false=>simp only[Bool.not_false,cond_true,aA,Bool.false_and]
 |true=>
  have key:=rV (l:=a10) (step:=fG a10 (g,true)) (fun i (s:Int)=>(s,(i:Int))) (fun y s=>agR g s y) (fun s=>s) (fun i hi s=>by
   simp only[fG,gB hi,cond_true,bL hi,bind_some,Sk,ay (show i < 9223372036854775807 by omega),agR];cases h1:OkR g with
   |false=>rfl
   |true=>
    cases h2:OkR a10[i]with
    |false=>rfl
    |true=>
     cases h3:OkR (Sj g a10[i])with
     |false=>rfl
     |true=>simp only[Bool.and_self,cond_true,M6 h3,bind_some]) (fun s=>by simp only[fG,gH,cond_false]) n (by omega) 0
  rw[show ((0:Nat):Int)=0 from rfl]at key;simp only[Bool.not_true,cond_false,key,bind_some,M6 hg,aA,cond_true,Bool.true_and];congr 2
def JE (p:Int->Bool):Nat->Int->Int->Int
 | 0,lo,_=>lo
 |k+1,lo,hi=>bif decide (lo < hi)then (bif p ((lo+hi+1)/2)then JE p k ((lo+hi+1)/2) hi else JE p k lo ((lo+hi+1)/2 - 1))else lo
theorem PY (p:Int->Bool):∀ k lo hi,lo<=hi->lo<=JE p k lo hi∧JE p k lo hi<=hi
 | 0,lo,hi,h=>by simp only[JE];omega
 |k+1,lo,hi,h=>by
  simp only[JE];by_cases h1:lo < hi
  ·have e:decide (lo < hi)=true:=(by simpa using h1);rw[e,cond_true];cases p ((lo+hi+1)/2)with
   |true=>have:=PY p k ((lo+hi+1)/2) hi (by omega);simp only[cond_true];omega
   |false=>have:=PY p k lo ((lo+hi+1)/2 - 1) (by omega);simp only[cond_false];omega
  ·have e:decide (lo < hi)=false:=(by simpa using h1);rw[e,cond_false];omega
theorem aa0 {n:Nat} {v:aB} (hv:OkR (fJ v)=true) (a2:List eu) (a3:List bf) (a4:List bT) (a5:List aX) (a6:List eD) (a7:List bU) (a8:List aU) (a9:Int) {a10:List au} (a11:List aB) (hl:a10.length<=1000) (hn:1001<=n):
 ∀ (k:Nat) lo hi m,0<=lo->lo<=hi->hi<=1048576->hi - lo < 2 ^ k->k < m->iter (dm n v) m (lo,hi,a2,a3,a4,a5,a6,a7,a8,a9,a10,a11)=some (JE (tL a10 (fJ v)) k lo hi,a2,a3,a4,a5,a6,a7,a8,a9,a10,a11):=by
 intro k
 induction k with
 |zero=>
  intro lo hi m h0 h1 h2 h3 hm;obtain⟨q,rfl⟩:∃ q,m=q+1:=⟨m - 1,by omega⟩;have:lo=hi:=by simp at h3;omega
  subst this;refine aQ ?_;have e:decide (lo < lo)=false:=by simp
  simp only[dm,e,cond_false,aA,cond_true,JE]
 |succ k ih=>
  intro lo hi m h0 h1 h2 h3 hm;obtain⟨q,rfl⟩:∃ q,m=q+1:=⟨m - 1,by omega⟩;have hp:(2:Int) ^ (k+1)=2*2 ^ k:=by rw[Int.pow_succ];omega
  rw[hp]at h3;by_cases hlt:lo < hi
  ·have e:decide (lo < hi)=true:=(by simpa using hlt);have e2:((2:Nat) != 0)=true:=rfl;have em:i64.wrap (Int.tdiv (i64.wrap (i64.wrap (lo+hi)+1)) 2)=(lo+hi+1)/2:=(by rw[dz (x:=lo+hi) (by omega) (by omega),dz (x:=lo+hi+1) (by omega) (by omega),Int.tdiv_eq_ediv_of_nonneg (by omega),dz (by omega) (by omega)]);have hi2:=adg (n:=n) (fJ v) ((lo+hi+1)/2) a2 a3 a4 a5 a6 a7 a8 a9 (a10:=a10) a11 hv (by omega) (by omega) hl hn;unfold fJ at hi2;cases hc:tL a10 (fJ v) ((lo+hi+1)/2)with
   |true=>
    rw[bI (v':=((lo+hi+1)/2,hi,a2,a3,a4,a5,a6,a7,a8,a9,a10,a11)) (by
     unfold fJ at hc;simp only[dm,e,cond_true,e2,aA,em,hi2,bind_some,hc]),ih _ _ _ (by omega) (by omega) (by omega) (by omega) (by omega)]
    simp only[JE,e,cond_true,hc]
   |false=>
    rw[bI (v':=(lo,(lo+hi+1)/2 - 1,a2,a3,a4,a5,a6,a7,a8,a9,a10,a11)) (by
     unfold fJ at hc;simp only[dm,e,cond_true,e2,aA,em,hi2,bind_some,hc,cond_false,dz (x:=(lo+hi+1)/2 - 1) (by omega) (by omega)]),ih _ _ _ (by omega) (by omega) (by omega) (by omega) (by omega)]
    simp only[JE,e,cond_true,hc,cond_false]
  ·have e:decide (lo < hi)=false:=(by simpa using hlt);refine aQ ?_;simp only[dm,e,cond_false,aA,cond_true,JE]
def ow (area:List au) (l:List aB):Int:=l.foldl (fun b v=>JE (tL area (fJ v)) 21 0 b) 1048576
theorem Zj (area:List au) (l:List aB):0<=ow area l∧ow area l<=1048576:=by
 have:∀ (l:List aB) (b:Int),0<=b->b<=1048576->0<=l.foldl (fun b v=>JE (tL area (fJ v)) 21 0 b) b∧l.foldl (fun b v=>JE (tL area (fJ v)) 21 0 b) b<=1048576:=by
  intro l
  induction l with
  |nil=>intro b h1 h2;exact⟨h1,h2⟩
  |cons v l ih=>intro b h1 h2;have:=PY (tL area (fJ v)) 21 0 b h1;exact ih _ this.1 (Int.le_trans this.2 h2)
 exact this l _ (by omega) (by omega)
theorem aa1 {n:Nat} (a0:List eu) (a1:List bf) (a2:List bT) (a3:List aX) (a4:List eD) (a5:List bU) (a6:List aU) (a7:Int) {a8:List au} {a9:List aB} (hv:∀ v∈a9,okV v=true) (hl:a9.length<=1000) (h8:a8.length<=1000) (hn:1001<=n):gP n a0 a1 a2 a3 a4 a5 a6 a7 a8 a9=some (ow a8 a9,a0,a1,a2,a3,a4,a5,a6,a7,a8,a9):=by
 have key:=ko (l:=a9) (step:=eU n a9) (fun i (s:Int)=>(s,(i:Int),a0,a1,a2,a3,a4,a5,a6,a7,a8,a9)) (fun v s=>JE (tL a8 (fJ v)) 21 0 s) (fun s=>(s,a0,a1,a2,a3,a4,a5,a6,a7,a8,a9)) (fun _ s=>0<=s∧s<=1048576) (fun i hi s hs=>by
  have h1:=aa0 (n:=n) (Zf (hv _ (getElem_mem hi))) a0 a1 a2 a3 a4 a5 a6 a7 (a10:=a8) a9 h8 hn 21 0 s n (by omega) hs.1 hs.2 (by have:(2:Int) ^ 21=2097152:=rfl;omega) (by omega);have h2:=PY (tL a8 (fJ a9[i])) 21 0 s hs.1;refine⟨?_,by omega,by omega⟩;simp only[eU,gB hi,cond_true,dM hi,fV hi,bind_some,aA,h1,ay (show i < 9223372036854775807 by omega)]) (fun s _=>by simp only[eU,gH,cond_false,aA,cond_true]) n (by omega) 1048576 (by omega)
 rw[show ((0:Nat):Int)=0 from rfl]at key;unfold gP;simp only[aA,cond_true,key,bind_some];rfl
def dG (d:GDrawing):List aB:=((Lg d).take 40).filter okV
theorem Xr (d:GDrawing):∀ v∈dG d,okV v=true:=fun v hv=>(List.mem_filter.1 hv).2
theorem Uh (d:GDrawing):(dG d).length<=40:=Nat.le_trans (length_filter_le _ _) (by rw[length_take];omega)
def jX (lot:iO):List au:=bif rightL lot.area then lot.area else []
theorem ahB {n:Nat} {l:List aB} (a0:List eu) (a1:List bf) (a2:List bT) (a3:List aX) (a4:List eD) (a5:List bU) (a6:List aU) (a7:Int) (a8:List au) (hl:l.length<=9223372036854775807) (hn:l.length < n):
 iter (oq l) n ((0:Int),a0,a1,a2,a3,a4,a5,a6,a7,a8,([]:List aB))=some (a0,a1,a2,a3,a4,a5,a6,a7,a8,(l.take 40).filter okV):=by
 refine dw (step:=oq l) (fun i=>((i:Int),a0,a1,a2,a3,a4,a5,a6,a7,a8,((l.take i).take 40).filter okV)) l.length _ (by simp) (fun i hi=>?_) ?_ n hn
 ·have hlen:(((l.take i).take 40).filter okV).length<=40:=Nat.le_trans (length_filter_le _ _) (by rw[length_take];omega);have e40:decide ((i:Int) < 40)=decide (i < 40):=by rw[decide_eq_decide];omega
  have hs:sub ([l[i]]:List aB) 0 1=[l[i]]:=rfl;have hN:((l.take (i+1)).take 40).filter okV=((l.take i).take 40).filter okV++(bif decide (i < 40)&&okV l[i]then [l[i]]else []):=by
   by_cases h:i < 40
   ·have h1:(l.take i).take 40=l.take i:=List.take_of_length_le (by rw[length_take];omega);have h2:(l.take (i+1)).take 40=l.take (i+1):=List.take_of_length_le (by rw[length_take];omega);have h3:decide (i < 40)=true:=(by simpa using h);rw[h1,h2,take_succ_eq_append_getElem hi,filter_append,h3];cases h4:okV l[i]<;>simp[h4]
   ·have h3:decide (i < 40)=false:=(by simpa using h);rw[List.take_take,List.take_take,h3,show min 40 (i+1)=40 by omega,show min 40 i=40 by omega];simp
  rw[hN];generalize ((l.take i).take 40).filter okV=L at hlen;have hap:bC L.length L.length 1 1 72=true:=bR (by omega) (by simp only[maxLen];omega);simp only[oq,gB hi,cond_true,dM hi,fV hi,bind_some,e40,xZ,ay (show i < 9223372036854775807 by omega)];cases decide (i < 40)with
  |false=>simp only[cond_false,bind_some,aA,cond_true,Bool.false_and,append_nil]
  |true=>
   simp only[cond_true,bind_some,Bool.true_and];cases okV l[i]with
   |false=>simp only[cond_false,aA,cond_true,bind_some,append_nil]
   |true=>simp only[cond_true,hs,length_singleton,hap,dY,aA,bind_some]
 ·simp only[oq,gH,cond_false,aA,cond_true,List.take_length]
def aeU (n:Nat) (p:lX):Prop:=p.tables.length < n∧p.tables.length<=9223372036854775807∧∀ t∈p.tables,t.rows.length < n∧t.rows.length<=9223372036854775807
def adh:ByteArray:=⟨#[115,101,116,98,97,99,107]⟩
theorem ahC {n:Nat} {p:lX} {lot:iO} {d:GDrawing} (hp:aeU n p) (hl:lot.area.length<=900) (hd:afS d) (hn:2000000<=n):∃ e1 e2 e3 e4 e5 e6 e7 e8:Int,DZ n p lot d=some [⟨⟨#[97,114,101,97]⟩,e1⟩,⟨⟨#[99,111,118,101,114]⟩,e2⟩,⟨⟨#[102,108,111,111,114]⟩,e3⟩,⟨⟨#[102,108,111,111,114,115]⟩,e4⟩,⟨⟨#[104,101,105,103,104,116]⟩,e5⟩,⟨⟨#[104,111,109,101,115]⟩,e6⟩,⟨⟨#[114,117,110,111,102,102]⟩,e7⟩,⟨adh,ow (jX lot) (dG d)⟩,⟨⟨#[116,114,97,102,102,105,99]⟩,e8⟩]:=by
 have hs1:jX lot=(bif rightL lot.area then lot.area else []):=rfl;have hsl:(jX lot).length<=900:=by unfold jX;cases rightL lot.area<;>simp[hl]
 have hvl:=Uh d;have hvo:=Xr d;have hfl:=Zg hd.2;have hd1:=hd.1;obtain⟨hp1,hp2,hp3⟩:=hp;have hz:eqL 0 ([]:List aB).length=true:=rfl;have hsite:((bif rightL lot.area then some (p.defs,p.tables,p.zones,p.rules,p.caps,p.views,p.sun,p.hours,lot.area)else some (p.defs,p.tables,p.zones,p.rules,p.caps,p.views,p.sun,p.hours,([]:(List au)))):Option ((List eu)×(List bf)×(List bT)×(List aX)×(List eD)×(List bU)×(List aU)×Int×(List au)))=some (p.defs,p.tables,p.zones,p.rules,p.caps,p.views,p.sun,p.hours,jX lot):=by rw[hs1];cases rightL lot.area<;>rfl
 obtain⟨e2,h2⟩:=aeT (n:=n) p.defs p.tables p.zones p.rules p.caps p.views p.sun p.hours (jX lot) (a9:=dG d) (by omega) (by omega);obtain⟨e3,h3⟩:=agY (n:=n) p.defs p.tables p.zones p.rules p.caps p.views p.sun p.hours (jX lot) (a9:=dG d) (by omega) (by omega);obtain⟨e4,h4⟩:=aeM (n:=n) p.defs p.tables p.zones p.rules p.caps p.views p.sun p.hours (jX lot) (a9:=dG d) (by omega) (by omega);obtain⟨e5,h5⟩:=aeN (n:=n) p.defs p.tables p.zones p.rules p.caps p.views p.sun p.hours (jX lot) (a9:=dG d) (by omega) (by omega);obtain⟨e6,h6⟩:=agZ (n:=n) p.defs p.tables p.zones p.rules p.caps p.views p.sun p.hours (jX lot) (a9:=dG d) (by omega) (by omega);have h8:=aa1 (n:=n) p.defs p.tables p.zones p.rules p.caps p.views p.sun p.hours (a8:=jX lot) (a9:=dG d) hvo (by omega) (by omega) (by omega);obtain⟨e9,h9⟩:=ag1 (n:=n) p.defs p.tables p.zones p.rules p.caps p.views p.sun p.hours (jX lot) (a9:=dG d) (by omega) (by omega) hvo hp1 hp2 hp3;refine⟨bif rightL (jX lot)then Lb (jX lot)else 0,e2,e3,e4,e5,e6,e2,e9,?_⟩;unfold DZ;rw[Ae (by omega) (by omega) (by omega),aaY hd (by omega)];simp only[bind_some,hsite,hz,cond_true];rw[ahB (n:=n) p.defs p.tables p.zones p.rules p.caps p.views p.sun p.hours (jX lot) (by show (Lg d).length<=_;unfold Lg;omega) (by show (Lg d).length < _;unfold Lg;omega)];have hr:((Lg d).take 40).filter okV=dG d:=rfl;have s1:∀ e:bn,sub ([e]:List bn) 0 1=[e]:=fun _=>rfl;have ap:∀ k,k<=20->bC k k 1 1 24=true:=fun k hk=>bR (by omega) (by simp only[maxLen];omega);have lot:jM n p.defs p.tables p.zones p.rules p.caps p.views p.sun p.hours (jX lot) (dG d)=some (bif rightL (jX lot)then Lb (jX lot)else 0,p.defs,p.tables,p.zones,p.rules,p.caps,p.views,p.sun,p.hours,jX lot,dG d):=by
  unfold jM;rw[aaG (by omega) (by omega)];simp only[bind_some,aA,cond_true]
 simp only[hr,bind_some,aA,cond_true,lot,s1,length_singleton,ap 0 (by omega),dY,h2,ap 1 (by omega),length_append,ap 2 (by omega),h3,ap 3 (by omega),h4,ap 4 (by omega),h5,ap 5 (by omega),h6,ap 6 (by omega),h8,ap 7 (by omega),h9,ap 8 (by omega),Nat.reduceAdd,Nat.zero_add,bF];rfl
theorem VG:∀ x:List UInt8,Op.bytesLess x x=false
 |[]=>rfl
 |a::x=>by rw[Op.bytesLess,VG x];simp
theorem Sy:∀ x y z:List UInt8,Op.bytesLess x y=true->Op.bytesLess y z=true->Op.bytesLess x z=true
 |_,_,[],_,h=>by cases h':(‹List UInt8›)<;>simp_all [Op.bytesLess]
 |_,[],_::_,h,_=>by simp[Op.bytesLess]at h
 |[],_::_,_::_,_,_=>rfl
 |a::x,b::y,c::z,h1,h2=>by
  simp only[Op.bytesLess,Bool.or_eq_true,decide_eq_true_eq,and_eq_true,beq_iff_eq]at h1 h2 ⊢;rcases h1 with h1 |⟨rfl,h1⟩
  ·rcases h2 with h2 |⟨rfl,_⟩
   ·exact Or.inl (UInt8.lt_trans h1 h2)
   ·exact Or.inl h1
  ·rcases h2 with h2 |⟨rfl,h2⟩
   ·exact Or.inl h2
   ·exact Or.inr ⟨rfl,Sy x y z h1 h2⟩
theorem aa2:∀ x y:List UInt8,Op.bytesLess x y=false->Op.bytesLess y x=false->x=y
 |[],[],_,_=>rfl
 |[],_::_,h,_=>by simp[Op.bytesLess]at h
 |_::_,[],_,h=>by simp[Op.bytesLess]at h
 |a::x,b::y,h1,h2=>by
  simp only[Op.bytesLess,Bool.or_eq_false_iff,decide_eq_false_iff_not,Bool.and_eq_false_iff,beq_eq_false_iff_ne]at h1 h2;have:a=b:=UInt8.le_antisymm (UInt8.not_lt.1 h2.1) (UInt8.not_lt.1 h1.1);subst this;rw[aa2 x y (h1.2.resolve_left (by simp)) (h2.2.resolve_left (by simp))]
theorem Cr:Go.Sort.SWO zQ where
 irrefl x:=VG _
 trans x y z h1 h2:=Sy _ _ _ h1 h2
 ntrans x y z h1 h2:=by
  unfold zQ at*;cases h:Op.bytesLess x.toList z.toList with
  |false=>rfl
  |true=>
   cases h3:Op.bytesLess z.toList y.toList with
   |true=>rw[Sy _ _ _ h h3]at h1;cases h1
   |false=>rw[aa2 _ _ h2 h3,h]at h1;cases h1
theorem JF (a b:ByteArray):cmp_Less_string a b=some (zQ a b):=by
 have h:(a.toList==a.toList)=true:=by simp
 unfold cmp_Less_string cmp_isNaN_string;rw[h];rfl
theorem Oz (n:Nat):∀ m,dH n m=dK cmp_Less_string (fun r=>r) aJ aK n m
 | 0=>rfl
 |m+1=>by
  show iP n (dH n m)=fU cmp_Less_string (fun r=>r) aJ aK n (dK cmp_Less_string (fun r=>r) aJ aK n m);rw[Oz n m];generalize dK cmp_Less_string (fun r=>r) aJ aK n m=rc
  kernel_rfl
theorem Lh {n:Nat} {l:List ByteArray} (hl:l.length < 1099511627776) (hn:l.length < n):qh n l=some (rE zQ l):=by
 unfold qh jG;rw[kV (by omega),uH (by omega),Oz];simp only[bind_some,aA,cond_true];rw[qc (lt:=zQ) Cr (f:=zQ) (q:=fun r=>r) JF (fun _ _=>rfl) abQ abR (by omega) hn hn];rfl
def neS (x y:ByteArray):Bool:=!(x.toList==y.toList)
theorem GU {n:Nat} {l:List ByteArray} (hl:l.length < 1099511627776) (hn:l.length < n):lC n l=some ((),KN neS l):=by
 have e:lC n l=MN (fun x y=>x.toList==y.toList) (fun x y=>!(x.toList==y.toList)) n l:=by kernel_rfl
 rw[e];exact I5 (ne:=neS) (fun x y=>by simp[neS]) hl hn
def Nj:List (List UInt8)->Nat
 |[]=>0
 |x::l=>Nj l+(if x∈l then 0 else 1)
theorem Sz:∀ l:List (List UInt8),∃ k:List (List UInt8),k.Nodup∧k.length=Nj l∧∀ z,z∈k↔z∈l
 |[]=>⟨[],List.nodup_nil,rfl,fun _=>Iff.rfl⟩
 |x::l=>by
  obtain⟨k,h1,h2,h3⟩:=Sz l;by_cases h:x∈l
  ·exact⟨k,h1,by simp only[Nj,if_pos h];omega,fun z=>by rw[h3,mem_cons];constructor;exact Or.inr;rintro (rfl |h');exact h;exact h'⟩
  ·exact⟨x::k,List.nodup_cons.2 ⟨fun h'=>h ((h3 x).1 h'),h1⟩,by simp only[Nj,if_neg h,length_cons];omega,fun z=>by rw[mem_cons,mem_cons,h3]⟩
theorem AO {α:Type} [DecidableEq α]:∀ (l m:List α),l.Nodup->(∀ x∈l,x∈m)->l.length<=m.length
 |[],_,_,_=>Nat.zero_le _
 |x::l,m,h,hm=>by
  rw[List.nodup_cons]at h;have hx:=hm x (by simp);have h1:=AO l (m.erase x) h.2 (fun y hy=>(List.mem_erase_of_ne (by rintro rfl;exact h.1 hy)).2 (hm y (by simp[hy])));have h2:=List.length_erase_of_mem hx;have h3:=List.length_pos_of_mem hx;simp only[length_cons];omega
theorem SA {l m:List (List UInt8)} (h:∀ z,z∈l↔z∈m):Nj l=Nj m:=by
 obtain⟨k,a1,a2,a3⟩:=Sz l;obtain⟨j,b1,b2,b3⟩:=Sz m;have h1:=AO k j a1 fun x hx=>(b3 x).2 ((h x).1 ((a3 x).1 hx));have h2:=AO j k b1 fun x hx=>(a3 x).2 ((h x).2 ((b3 x).1 hx));omega
theorem aeV (x y:ByteArray) (l:List ByteArray):(KN neS (x::y::l)).length=(KN neS (y::l)).length+(if x.toList=y.toList then 0 else 1):=by
 simp only[KN,foldl_cons,length_cons,pQ];by_cases h:x.toList=y.toList
 ·have:neS y x=false:=by simp[neS,h]
  rw[this,if_pos h];rfl
 ·have:neS y x=true:=by simp only[neS,Bool.not_eq_true',beq_eq_false_iff_ne];exact fun h'=>h h'.symm
  rw[this,if_neg h,KO];simp only[cond_true,List.nil_append,length_append,length_singleton];omega
theorem Zk:∀ l:List ByteArray,l.Pairwise (fun x y=>zQ y x=false)->(KN neS l).length=Nj (l.map ByteArray.toList)
 |[],_=>rfl
 |[x],_=>rfl
 |x::y::l,h=>by
  rw[List.pairwise_cons]at h;rw[aeV,Zk (y::l) h.2];show _=Nj ((y::l).map ByteArray.toList)+_;congr 1;by_cases e:x.toList=y.toList
  ·rw[if_pos e,if_pos (by rw[e];simp)]
  ·rw[if_neg e,if_neg];rw[mem_map];rintro⟨z,hz,hzx⟩;rcases mem_cons.1 hz with rfl |hz'
   ·exact e hzx.symm
   ·have h1:=(List.pairwise_cons.1 h.2).1 z hz';have h2:=h.1 y (by simp);unfold zQ at h1 h2;rw[hzx]at h1;exact e (aa2 _ _ h1 h2)
def dW (names:List ByteArray):Nat:=Nj (names.map ByteArray.toList)
theorem aa3 (names:List ByteArray):(KN neS (rE zQ names)).length=dW names:=by
 rw[Zk _ (DK Cr names)];refine SA fun z=>?_;rw[mem_map,mem_map];constructor
 ·rintro⟨a,h1,h2⟩;exact⟨a,(xK Cr names).mem_iff.1 h1,h2⟩
 ·rintro⟨a,h1,h2⟩;exact⟨a,(xK Cr names).mem_iff.2 h1,h2⟩
theorem aeW {n:Nat} (hn:400<=n) (os:List aY) (hl:os.length < n) (hl2:os.length < 9223372036854775807):vX n os=some (os.all ET&&decide (os.length<=12)):=by
 unfold vX;have h:=Ck (l:=os) (step:=oL n os) (fun o=>!ET o) () false (fun i hi=>by
  have hc:(eqL zeroM.l.length 144&&fP 0 zeroM.l.length (List.replicate 144 false).length)=true:=by rw[mW];exact jv (fun _ _=>false) (fun _ _=>false)
  have hg:(eqL (fw (geO os[i])).l.length 144&&fP 0 (fw (geO os[i])).l.length (List.replicate 144 false).length)=true:=by rw[mW];exact jv _ (fun _ _=>false)
  simp only[oL,gB hi,cond_true,bL hi,bind_some,Cn (n:=n) hn,ay (show i < 9223372036854775807 by omega)];unfold ET;cases nO os[i]&&!(Sm os[i])with
  |true=>simp only[cond_true,hg,Bool.not_true,cond_false]
  |false=>simp only[cond_false,hc,cond_true,Bool.not_false,Option.map_some]) (by simp only[oL,gH,cond_false]) n hl
 rw[h];have e:(os.any fun o=>!ET o)=!(os.all ET):=by rw[List.all_eq_not_any_not,Bool.not_not]
 have d:decide (((os.length:Nat):Int)<=12)=decide (os.length<=12):=by rw[decide_eq_decide];omega
 rw[e,d];cases os.all ET<;>rfl
structure ab0 (n:Nat) (t:gG) (d:GDrawing):Prop where
 lots:∀ l∈t.land,aaJ l
 land:t.land.length<=100
 tabs:aeU n (lX.mk t.plan_defs t.plan_tables t.plan_zones t.plan_rules t.plan_caps t.plan_views t.plan_sun t.plan_hours)
 few:afS d
def Nk (t:gG) (d:GDrawing):iO:=(cO t.land d.lot).1
def Li (t:gG) (d:GDrawing) (names:List ByteArray):List Int:=[((dW names:Nat):Int),ow (jX (Nk t d)) (dG d),(((Vx t.land d.lot 10).length:Nat):Int),(((Nk t d).area.length:Nat):Int)]
theorem aa4 {n:Nat} {t:gG} {d:GDrawing} (h:ab0 n t d) (hn:2000000<=n):mJ n t (Nk t d) d=some (ow (jX (Nk t d)) (dG d)):=by
 have hw:=ac8 h.lots d.lot;obtain⟨e1,e2,e3,e4,e5,e6,e7,e8,he⟩:=ahC (n:=n) h.tabs (lot:=Nk t d) hw.1 h.few hn;unfold mJ;rw[he];simp only[bind_some];obtain⟨m,rfl⟩:∃ m,n=m+20:=⟨n - 20,by omega⟩;generalize ow (jX (Nk t d)) (dG d)=S;show _=_
 kernel_rfl
theorem Ui {n:Nat} {names:List ByteArray} (hn:200000<=n) (hl:names.length<=100000):jL n names=some ((dW names:Nat):Int):=by
 unfold jL nI nJ lY;have hs:acQ names=some (names,names):=by unfold acQ;rw[Nat.ble_eq_true_of_le (by omega)];rfl
 have h1:(rE zQ names).length=names.length:=DL Cr names;simp only[bind_some,hs,aA,cond_true,Lh (n:=n) (l:=names) (by omega) (by omega),h1];rw[GU (by omega) (by omega)];simp only[bind_some,aa3]
theorem JG {n:Nat} {t:gG} {d:GDrawing} (h:ab0 n t d) (hn:2000000<=n) {names:List ByteArray} (hl:names.length<=100000):iI n t d names=some (Li t d names):=by
 have hF:=Vy (n:=n) (id:=d.lot) h.lots (by have:=h.land;omega) (by have:=h.land;omega);have hN:=Si (n:=n) (d:=10) (fun l hl=>(h.lots l hl).1) hF h.land (by omega);have hS:jN n t (cO t.land d.lot).1 d=some (ow (jX (Nk t d)) (dG d)):=by
  unfold jN;rw[show (cO t.land d.lot).1=Nk t d from rfl,aa4 h hn];rfl
 have h3:jO n t d=some (((Vx t.land d.lot 10).length:Nat):Int):=by unfold jO;rw[hN];rfl
 have h4:nN (cO t.land d.lot).1=some (((Nk t d).area.length:Nat):Int):=rfl;have mk:(decide ((4:Int)<=4)&&(decide ((0:Int)<=4)&&Jd 4 8))=true:=by kernel_rfl
 unfold iI Li;rw[hF];simp only[bind_some,mk,cond_true,Ui (n:=n) (names:=names) (by omega) hl,hS,h3,h4];generalize ((dW names:Nat):Int)=A;generalize ow (jX (Nk t d)) (dG d)=B;generalize (((Vx t.land d.lot 10).length:Nat):Int)=C;generalize (((Nk t d).area.length:Nat):Int)=D;show _=_
 kernel_rfl
def lineO:aY:=aY.mk 3 [kD.mk 0 1,kD.mk 1 2]
theorem afT:KW=some lineO:=by kernel_rfl
theorem aa5 (a b:Nat):eO lineO a b=true↔(a=0∧b=1)∨(a=1∧b=2):=by
 simp only[eO,lineO,List.any_cons,List.any_nil,Bool.or_false,Bool.or_eq_true,and_eq_true,decide_eq_true_eq];omega
theorem ab1 {a b:Nat} (h:Tc (eO lineO) a b):a < b∧b < 3:=by
 induction h with
 |one _ _ h=>have:=(aa5 _ _).1 h;omega
 |trans _ _ h1 h2=>omega
theorem aeX:Sm lineO=false:=by
 cases h:Sm lineO with
 |false=>rfl
 |true=>obtain⟨a,ha⟩:=YZ.1 h;have:=ab1 ha;omega
theorem ab2:ET lineO=true:=by
 unfold ET;rw[aeX]
 kernel_rfl
def R3:List (List Bool):=[[true,true,true],[false,true,true],[false,false,true]]
theorem afU {a b:Nat} (ha:a < 3) (hb:b < 3):tcB (eO lineO) a b=decide (a < b):=by
 rw[Bool.eq_iff_iff,PW,decide_eq_true_eq];constructor
 ·exact fun h=>(ab1 h).1
 ·intro h;have h01:Tc (eO lineO) 0 1:= .one (by omega) (by omega) ((aa5 0 1).2 (Or.inl ⟨rfl,rfl⟩));have h12:Tc (eO lineO) 1 2:= .one (by omega) (by omega) ((aa5 1 2).2 (Or.inr ⟨rfl,rfl⟩));have:(a=0∧b=1)∨(a=1∧b=2)∨(a=0∧b=2):=by omega
  rcases this with ⟨rfl,rfl⟩ |⟨rfl,rfl⟩ |⟨rfl,rfl⟩
  ·exact h01
  ·exact h12
  ·exact h01.trans h12
theorem afV {a b:Nat} (ha:a < 3) (hb:b < 3):geO lineO a b=decide (a<=b):=by
 unfold geO;rw[afU ha hb,Bool.eq_iff_iff];have e3:lineO.values=3:=rfl;simp only[Bool.or_eq_true,and_eq_true,decide_eq_true_eq,e3];omega
theorem adi:EJ lineO=R3:=by
 have:EJ lineO=(List.range 3).map fun a=>(List.range 3).map fun b=>decide (a<=b):=by
  unfold EJ;refine List.map_congr_left fun a ha=>List.map_congr_left fun b hb=>?_;exact afV (List.mem_range.1 ha) (List.mem_range.1 hb)
 rw[this];rfl
theorem Ic:EK [lineO,lineO]=some [R3,R3]:=by
 unfold EK;rw[if_pos ⟨by decide,by simp[ab2]⟩];simp only[map_cons,List.map_nil,adi]
theorem ahK:lH [lineO,lineO] [] 1 [1,1] true=(true,[aL.mk 1 [1,1] true],0):=by
 unfold lH cZ Ug iA;simp only[Ic]
 kernel_rfl
theorem ahL:lH [lineO,lineO] [aL.mk 1 [1,1] true] 2 [1,2] false=(true,[aL.mk 1 [1,1] true,aL.mk 2 [1,2] true],0):=by
 unfold lH cZ Ug iA;simp only[Ic]
 kernel_rfl
theorem ahM:lH [lineO,lineO] [aL.mk 1 [1,1] true,aL.mk 2 [1,2] true] 3 [0,1] false=(false,[aL.mk 1 [1,1] true,aL.mk 2 [1,2] true,aL.mk 3 [0,1] false],0):=by
 unfold lH cZ Ug iA;simp only[Ic]
 kernel_rfl
theorem ahN:lH [lineO,lineO] [aL.mk 1 [1,1] true,aL.mk 2 [1,2] true,aL.mk 3 [0,1] false] 3 [0,2] false=(false,[aL.mk 1 [1,1] true,aL.mk 2 [1,2] true,aL.mk 3 [0,1] false],5):=by
 unfold lH cZ Ug iA;simp only[Ic]
 kernel_rfl
def exT:gG:=gG.mk [] [] [] [] [] [] [] 0 [iO.mk 1 0 [au.mk 0 0 20 20] []] [] [] [] []
def exD:GDrawing:=GDrawing.mk 1 [uX.mk [aB.mk 5 5 7 7 0 3 2 0 false] []]
def exN:List ByteArray:=[⟨#[97]⟩,⟨#[98]⟩]
theorem aeY:Li exT exD exN=[2,5,0,1]:=by kernel_rfl
theorem ag2 {n:Nat} (hn:100<=n):ab0 n exT exD:=by
 refine⟨fun l hl=>?_,by decide,⟨?_,by decide,fun t ht=>?_⟩,by decide,fun p hp=>?_⟩
 ·simp only[exT,mem_cons,List.not_mem_nil,or_false]at hl;subst hl;exact⟨by decide,by decide⟩
 ·show 0 < n;omega
 ·simp[exT]at ht
 ·simp only[exD,mem_cons,List.not_mem_nil,or_false]at hp;subst hp;decide
theorem aa6 {n:Nat} (hn:2000000<=n):oN n exT [lineO,lineO] exD exN=some [0,2]:=by
 have hr:([lineO,lineO].all ET&&decide ([lineO,lineO].length<=12))=true:=by simp[ab2]
 unfold oN;rw[aeW (by omega) _ (by simp;omega) (by simp),hr,JG (ag2 (by omega)) hn (by decide),aeY];obtain⟨m,rfl⟩:∃ m,n=m+20:=⟨n - 20,by omega⟩;show _=_
 kernel_rfl
theorem ab3 {n:Nat} (hn:2000000<=n) (b:Bool) (rest:List ByteArray) (h:(b,rest)=(true,[⟨#[97]⟩])∨(b,rest)=(false,[⟨#[97]⟩,⟨#[98]⟩])):wu n (lX.mk [] [] [] [aX.mk ⟨#[97]⟩ [] [] 0 0 0 true 0 0 0 ⟨#[]⟩ ⟨#[]⟩ [] 0 0 0 0 0 0 0,aX.mk ⟨#[98]⟩ [] [] 0 0 0 false 0 0 0 ⟨#[]⟩ ⟨#[]⟩ [] 0 0 0 0 0 0 0] [] [] [] 0) rest=some b:=by
 obtain⟨m,rfl⟩:∃ m,n=m+20:=⟨n - 20,by omega⟩;rcases h with h |h<;>(injection h with h1 h2;subst h1;subst h2;show _=_;kernel_rfl)
theorem afW {n:Nat} (hn:2000000<=n):H7 n=some true:=by
 have c:∀ base:List aL,base.length<=3->(∀ k∈base,k.values.length<=2)->Xp base:=fun base h1 h2=>⟨by omega,fun k hk=>by have:=h2 k hk;omega⟩;have v2:∀ a b:Int,sub ([a,b]:List Int) 0 2=[a,b]:=fun _ _=>rfl;have d1:=Ib (n:=n) (by omega) [lineO,lineO] (base:=[]) (c _ (by simp) (by simp)) 1 (values:=[1,1]) (by simp) true;have d2:=Ib (n:=n) (by omega) [lineO,lineO] (base:=[aL.mk 1 [1,1] true]) (c _ (by simp) (by simp)) 2 (values:=[1,2]) (by simp) false;have d3:=Ib (n:=n) (by omega) [lineO,lineO] (base:=[aL.mk 1 [1,1] true,aL.mk 2 [1,2] true]) (c _ (by simp) (by simp)) 3 (values:=[0,1]) (by simp) false;have d4:=Ib (n:=n) (by omega) [lineO,lineO] (base:=[aL.mk 1 [1,1] true,aL.mk 2 [1,2] true,aL.mk 3 [0,1] false]) (c _ (by simp) (by simp)) 3 (values:=[0,2]) (by simp) false;rw[ahK]at d1;rw[ahL]at d2;rw[ahM]at d3;rw[ahN]at d4;have e2:∀ (a b:aY),sub ([a,b]:List aY) 0 2=[a,b]:=fun _ _=>rfl;have hv:=aa6 hn;unfold exT exD exN at hv;have m1:=ab3 hn true [⟨#[97]⟩] (Or.inl rfl);have m2:=ab3 hn false [⟨#[97]⟩,⟨#[98]⟩] (Or.inr rfl);unfold H7;rw[afT];have b1:∀ a b:ByteArray,sub ([a,b]:List ByteArray) 0 2=[a,b]:=fun _ _=>rfl;have b0:∀ a:ByteArray,sub ([a]:List ByteArray) 0 1=[a]:=fun _=>rfl;have b2:∀ a:aB,sub ([a]:List aB) 0 1=[a]:=fun _=>rfl;have b3:∀ a:au,sub ([a]:List au) 0 1=[a]:=fun _=>rfl;have b4:∀ a:iO,sub ([a]:List iO) 0 1=[a]:=fun _=>rfl;have b5:∀ a:uX,sub ([a]:List uX) 0 1=[a]:=fun _=>rfl;have b6:∀ a b:aX,sub ([a,b]:List aX) 0 2=[a,b]:=fun _ _=>rfl;have q:mV n [0,2] [0,2]=some true:=by
  obtain⟨m,rfl⟩:∃ m,n=m+20:=⟨n - 20,by omega⟩;show _=_
  kernel_rfl
 simp only[bind_some,e2,b0,b1,b2,b3,b4,b5,b6,v2,aA,length_cons,length_nil,Nat.zero_add,Nat.reduceAdd,cond_true,hv,d1,bF,d2,d3,d4,q,m1,m2];rfl
def aeZ (f:Int) (g:Bool):Bool:=bif f==1 then true else bif f==2 then false else g
inductive DecC (os:List aY) (base:List aL) (id:Int) (w:List Int) (g:Bool):Prop
 |arg (h1:(cZ os base w).2.2=1) (h:lH os base id w g=(false,base,1))
 |clash (h1:(cZ os base w).2.2=0) (h2:(cZ os base w).1=3) (h:lH os base id w g=(false,base,25))
 |twice (h1:(cZ os base w).2.2=0) (h2:(cZ os base w).1=0∨(cZ os base w).1=1∨(cZ os base w).1=2) (h3:(base.any fun d=>d.id==id)=true) (h:lH os base id w g=(false,base,5))
 |fine (h1:(cZ os base w).2.2=0) (h2:(cZ os base w).1=0∨(cZ os base w).1=1∨(cZ os base w).1=2) (h3:(base.any fun d=>d.id==id)=false) (h:lH os base id w g=(aeZ (cZ os base w).1 g,base++[aL.mk id w (aeZ (cZ os base w).1 g)],0))
theorem Zl {X:SX} {n:Nat} {c:CT X.ι} {cs:List (CT X.ι)} {ss:List VS} (hs:yO (vsF n) (c::cs)=some ss) (q:HL X.toSE (c::cs)) (h:IV ss (HL.tvs X.toSE (c::cs) q)):∃ s ss',vsF n c=some s∧yO (vsF n) cs=some ss'∧QK s (CT.tv X.toSE c q.1)∧IV ss' (HL.tvs X.toSE cs q.2):=by
 simp only[yO]at hs;rw[ai]at hs;obtain⟨a,h1,hs⟩:=hs;rw[ai]at hs;obtain⟨b,h2,hs⟩:=hs;injection hs with hs;subst hs;exact⟨a,b,h1,h2,h.1,h.2⟩
theorem aa7 {X:SX} {n:Nat} {i:X.ι} {s:VS} {x:X.T i} (hs:vsF n (.st i)=some s) (h:QK s (CT.tv X.toSE (.st i) x)):∃ l,csF (X:=X) n (.st i)=some l∧FitL l (X.row i x):=by
 simp only[vsF]at hs;obtain⟨l,h1,rfl⟩:=Option.map_eq_some_iff.1 hs;obtain⟨ys,e,hf⟩:=h;rw[CT.tv]at e;injection e with e;exact⟨l,h1,by rw[e];exact hf⟩
theorem Ie:∀ {cs:List CS} {ts:List Tree},FitL cs ts->∀ {i:Nat} {c:CS} {x:Tree},cs[i]? =some c->ts[i]? =some x->Fit c x
 |c::cs,x::ts,h,0,c',x',hc,hx=>by
  simp only[List.getElem?_cons_zero,Option.some.injEq]at hc hx;subst hc;subst hx;simp only[FitL]at h;exact h.1
 |c::cs,x::ts,h,i+1,c',x',hc,hx=>by
  simp only[List.getElem?_cons_succ]at hc hx;simp only[FitL]at h;exact Ie h.2 hc hx
 |[],_,h,_,_,_,hc,_=>by simp at hc
 |_::_,[],h,_,_,_,_,hx=>by simp at hx
theorem SB {row:List CS} {α:Type} {l:List α} {f:α->List Tree} (h:Fit (.sl row) (.sl (l.map f))):l.length<=maxLen∧l.length*ack row<=reachBytes∧∀ x∈l,FitL row (f x):=by
 simp only[Fit]at h;obtain⟨rows,e,⟨h1,h2⟩,h3⟩:=h;injection e with e;subst e;rw[length_map]at h1 h2;exact⟨h1,h2,fun x hx=>h3 _ (mem_map.2 ⟨x,hx,rfl⟩)⟩
def ahO:List CS:=[.int .i64,.int .i64,.sl [.int .i64,.int .i64,.int .i64,.int .i64],.sl [.int .i64]]
theorem afX {t:gG} {n:Nat} {s:VS} (hs:vsF (X:=xx) (n+8) (.st SI.Town)=some s) (h:QK s (CT.tv xx.toSE (.st SI.Town) t)):M7 t:=by
 obtain⟨l,h1,h2⟩:=aa7 hs h;have h8:((csF (X:=xx) (n+8) (.st SI.Town)).bind fun l=>l[8]?)=some (.sl ahO):=by kernel_rfl
 rw[h1]at h8;have hf:=Ie h2 (i:=8) h8 (x:= .sl (t.land.map aaz)) rfl;obtain⟨_,_,h3⟩:=SB hf;intro lt hlt;have h4:=Ie (h3 lt hlt) (i:=3) (c:= .sl [.int .i64]) rfl (x:= .sl (lt.from_.map fun x=>[.sc (.int .i64 x)])) rfl;obtain⟨_,h5,_⟩:=SB h4;have:lt.from_.length*8<=reachBytes:=h5;have:reachBytes=140737488351232:=rfl;omega
def ae0 (p:uX):Bool:=decide (p.volumes.length>12) || decide (p.gives.length>6)
def aa8 (d:GDrawing):Bool:=!(d.phases.any ae0)&&decide (d.phases.length<=9)
theorem SC {n:Nat} {d:GDrawing} (h:d.phases.length<=1000000000000000000) (hn:d.phases.length < n) (hn2:10<=n):kS n [d]=some (aa8 d):=by
 have a0:at? [d] 0=some d:=rfl;have s2:=Ck (l:=d.phases) (step:=kJ [d] 0) ae0 () (.inr (.inr false)) (fun i hi=>by
  have d1:decide ((((d.phases[i]).volumes.length:Nat):Int)>12)=decide ((d.phases[i]).volumes.length>12):=by rw[decide_eq_decide];omega
  have d2:decide ((((d.phases[i]).gives.length:Nat):Int)>6)=decide ((d.phases[i]).gives.length>6):=by rw[decide_eq_decide];omega
  simp only[kJ,a0,bind_some,gB hi,cond_true,bL hi,d1,d2,ay (show i < 9223372036854775807 by omega),ae0];cases decide ((d.phases[i]).volumes.length>12)<;>cases decide ((d.phases[i]).gives.length>6)<;>rfl) (by simp only[kJ,a0,bind_some,gH,cond_false]) n hn
 obtain⟨m,rfl⟩:∃ m,n=m+2:=⟨n - 2,by omega⟩;have d3:decide (((d.phases.length:Nat):Int)>9)=!decide (d.phases.length<=9):=by rw[<- decide_not,decide_eq_decide];omega
 have l1:decide ((0:Int) < (([d].length:Nat):Int))=true:=rfl;unfold kS aa8;cases hb:d.phases.any ae0 with
 |true=>
  rw[hb]at s2;rw[aQ (o:= .inr false) (by simp only[iU,l1,cond_true,s2];rfl)];rfl
 |false=>
  rw[hb]at s2;cases h9:decide (d.phases.length<=9)with
  |false=>
   rw[aQ (o:= .inr false) (by simp only[iU,l1,cond_true,s2,cond_false,fQ,a0,bind_some,d3,h9,Bool.not_false,Option.map_some])];rfl
  |true=>
   rw[bI (v':=1) (by simp only[iU,l1,cond_true,s2,cond_false,fQ,a0,bind_some,d3,h9,Bool.not_true];rfl),aQ (o:= .inl ()) (by simp only[iU];rfl)];rfl
theorem afY {d:GDrawing} (h:aa8 d=true):afS d:=by
 simp only[aa8,and_eq_true,Bool.not_eq_true',List.any_eq_false,decide_eq_true_eq]at h;refine⟨by omega,fun p hp=>?_⟩;have:=h.1 p hp;simp only[ae0,Bool.or_eq_true,decide_eq_true_eq,not_or]at this;omega
def ae1 (t:gG) (d:GDrawing) (names:List ByteArray):Bool:=aaL t&&(aa8 d&&decide (names.length<=20))
theorem ae2 {n:Nat} (t:gG) {d:GDrawing} (names:List ByteArray) (h:d.phases.length<=1000000000000000000) (hn:d.phases.length < n) (hn2:2000<=n):PS n t d names=some (ae1 t d names):=by
 have e1:PO n (lX.mk [] [] [] [] [] [] [] 0) (Gx.mk 0 0 0 0 0 [d] 0 0) []=some (aa8 d):=by
  have s:iter (R7 n []) n 0=some (.inl ()):=by
   obtain⟨m,rfl⟩:∃ m,n=m+1:=⟨n - 1,by omega⟩;exact aQ rfl
  unfold PO;rw[s];simp only[fQ,SC h hn (by omega),bind_some];rfl
 have sb:sub ([d]:List GDrawing) 0 1=[d]:=rfl;have d1:decide (((names.length:Nat):Int)<=20)=decide (names.length<=20):=by rw[decide_eq_decide];omega
 unfold PS ae1;rw[aaM t hn2];simp only[bind_some,sb,length_singleton,aA,cond_true,e1,d1];cases aaL t<;>cases aa8 d<;>rfl
def SF (t:gG):Prop:=∀ x∈t.plan_tables,x.rows.length<=9223372036854775807
def Xt (t:gG):Nat:=(t.plan_tables.map (·.rows.length)).sum
theorem ae3:∀ (l:List Nat) (x:Nat),x∈l->x<=l.sum
 |[],x,h=>by simp at h
 |y::l,x,h=>by
  rw[List.sum_cons];rcases mem_cons.1 h with rfl |h
  ·omega
  ·have:=ae3 l x h;omega
theorem afZ {n:Nat} {t:gG} {d:GDrawing} {names:List ByteArray} (h:ae1 t d names=true) (hf:M7 t) (hr:SF t) (hn:2000000+Xt t<=n):ab0 n t d∧names.length<=20:=by
 simp only[ae1,and_eq_true,decide_eq_true_eq]at h;have E:=afJ h.1 hf;have h1:=h.1;simp only[aaL,and_eq_true,decide_eq_true_eq]at h1;have ht:t.plan_tables.length<=20:=h1.1.2.2.2.1;refine⟨⟨E.lots,by have:=E.land;omega,⟨?_,?_,fun x hx=>⟨?_,hr x hx⟩⟩,afY h.2.1⟩,h.2.2⟩
 ·show t.plan_tables.length < n;omega
 ·show t.plan_tables.length<=_;omega
 ·have hx2:x∈t.plan_tables:=hx;have:=ae3 _ _ (List.mem_map_of_mem (f:=fun x:bf=>x.rows.length) hx2);have e:(t.plan_tables.map fun x:bf=>x.rows.length).sum=Xt t:=rfl;omega
theorem aa9 {n:Nat} {names:List ByteArray} (hl:names.length<=1000) (hn:1001<=n) {i:Nat} (hi:i < names.length):iter (fe names (i:Int)) n (true,((i+1:Nat):Int))=some (!((names.drop (i+1)).any fun x=>x.toList==names[i].toList)):=by
 have key:=dw (step:=fe names (i:Int)) (fun k=>(!(((names.drop (i+1)).take k).any fun x=>x.toList==names[i].toList),((i+1+k:Nat):Int))) (s:=(true,((i+1:Nat):Int))) (names.length - (i+1)) (!((names.drop (i+1)).any fun x=>x.toList==names[i].toList)) rfl (fun k hk=>by
  have hk2:i+1+k < names.length:=by omega
  have hk3:k < (names.drop (i+1)).length:=by rw[length_drop];omega
  simp only[fe,gB hk2,cond_true,bL hk2,bL hi,bind_some,ay (show i+1+k < 9223372036854775807 by omega)];rw[take_succ_eq_append_getElem hk3,List.any_append,List.getElem_drop];cases ((names.drop (i+1)).take k).any fun x=>x.toList==names[i].toList with
  |true=>simp only[Bool.not_true,cond_false,bind_some,Bool.true_or,Nat.add_assoc]
  |false=>simp only[Bool.not_false,cond_true,bind_some,Bool.false_or,List.any_cons,List.any_nil,Bool.or_false,Nat.add_assoc]) (by
  have e:i+1+(names.length - (i+1))=names.length:=by omega
  simp only[fe,e,gH,cond_false];rw[List.take_of_length_le (by rw[length_drop];omega)]) n (by omega)
 exact key
theorem abb {n:Nat} {names:List ByteArray} (hl:names.length<=1000) (hn:1001<=n):iter (fq n names) n ((0:Int),i64.wrap ((names.length:Int) - 1),([]:List ByteArray))=some (((dW names:Nat):Int),names.reverse):=by
 have w0:∀ k:Nat,k<=1000->i64.wrap ((k:Int) - 1)=(k:Int) - 1:=fun k hk=>dz (by omega) (by omega);rw[w0 _ hl];refine dw (step:=fq n names) (fun k=>(((dW (names.drop (names.length - k)):Nat):Int),(((names.length - k:Nat):Int) - 1),(names.drop (names.length - k)).reverse)) names.length (((dW names:Nat):Int),names.reverse) (by simp[dW,Nj]) (fun k hk=>?_) (by simp[fq]) n (by omega);obtain⟨i,hi⟩:∃ i,names.length - k=i+1:=⟨names.length - k - 1,by omega⟩;have hi2:i < names.length:=by omega
 have e1:names.length - (k+1)=i:=by omega
 have e2:(((i+1:Nat):Int) - 1)=(i:Int):=by omega
 have d0:decide ((i:Int)>=0)=true:=by simp
 have hr:((names.drop (i+1)).reverse).length<=1000:=by rw[List.length_reverse,length_drop];omega
 have hd:names.drop i=names[i]::names.drop (i+1):=List.drop_eq_getElem_cons hi2;have hs1:sub ([names[i]]:List ByteArray) 0 1=[names[i]]:=rfl;have hD:dW (names.drop i)=dW (names.drop (i+1))+(bif (names.drop (i+1)).any (fun x=>x.toList==names[i].toList)then 0 else 1):=by
  rw[hd];unfold dW;rw[map_cons,Nj];congr 1;cases h:(names.drop (i+1)).any (fun x=>x.toList==names[i].toList)with
  |true=>
   rw[any_eq_true]at h;obtain⟨x,h1,h2⟩:=h;rw[if_pos (mem_map.2 ⟨x,h1,by simpa using h2⟩)];rfl
  |false=>
   rw[List.any_eq_false]at h;rw[if_neg];rfl;rw[mem_map];rintro⟨x,h1,h2⟩;exact h x h1 (by simpa using h2)
 have hc:dW (names.drop (i+1))<=1000:=by
  have:∀ l:List (List UInt8),Nj l<=l.length:=by
   intro l;induction l with
   |nil=>exact Nat.le_refl _
   |cons a l ih=>simp only[Nj,length_cons];split<;>omega
  have h2:=this ((names.drop (i+1)).map ByteArray.toList);rw[length_map,length_drop]at h2;unfold dW;omega
 rw[e1,hi,e2,hD,hd,List.reverse_cons];generalize (names.drop (i+1)).reverse=R at hr;generalize dW (names.drop (i+1))=C at hc;have hap:bC R.length R.length 1 1 16=true:=bR (by omega) (by simp only[maxLen];omega);simp only[fq,d0,cond_true,bL hi2,bind_some,hs1,length_singleton,hap,dY,ay (show i < 9223372036854775807 by omega),aa9 hl hn hi2,aA,w0 i (by omega),ay (show C < 9223372036854775807 by omega)];cases (names.drop (i+1)).any fun x=>x.toList==names[i].toList<;>rfl
theorem Uj {n:Nat} {a:List Int} (h:a.length<=1000) (hn:1001<=n):mV n a a=some true:=by
 have e:(((a.length:Int)) != ((a.length:Int)))=false:=by simp
 unfold mV;rw[e,dw (step:=oO a a) (fun i=>(i:Int)) (s:=(0:Int)) a.length (.inl ()) rfl (fun i hi=>by
  have n0:(a[i] != a[i])=false:=by simp
  simp only[oO,gB hi,cond_true,bL hi,bind_some,n0,cond_false,ay (show i < 9223372036854775807 by omega)]) (by simp only[oO,gH,cond_false]) n (by omega)]
 rfl
theorem GV {n:Nat} (t:gG) (d:GDrawing) (names:List ByteArray) (hf:M7 t) (hr:SF t) (hd:d.phases.length<=1000000000000000000) (hn:2000000+Xt t+d.phases.length<=n):jP n t d names=some true:=by
 unfold jP;rw[afW (by omega),ae2 t names hd (by omega) (by omega)];simp only[bind_some];cases h:ae1 t d names with
 |false=>rfl
 |true=>
  obtain⟨V,hl⟩:=afZ (n:=n) h hf hr (by omega);have hz:eqL 0 ([]:List ByteArray).length=true:=rfl;have hap:bC names.reverse.length names.reverse.length names.length names.length 16=true:=bR (by rw[List.length_reverse];omega) (by rw[List.length_reverse];simp only[maxLen];omega);have hF:=Vy (n:=n) (id:=d.lot) V.lots (by have:=V.land;omega) (by have:=V.land;omega);have hN:=Si (n:=n) (d:=10) (fun l hl=>(V.lots l hl).1) hF V.land (by omega);have hD:Li t d (names.reverse++names)=Li t d names:=by
   unfold Li;rw[show dW (names.reverse++names)=dW names from SA fun z=>by simp]
  have h4:(((Li t d names).length:Int) != 4)=false:=rfl;have hS:=Uj (n:=n) (a:=Li t d names) (by show 4<=1000;omega) (by omega);have hb:=(Zj (jX (Nk t d)) (dG d)).1;simp only[Bool.not_true,cond_false,JG V (by omega) (show names.length<=100000 by omega),bind_some,hz,cond_true,abb (n:=n) (show names.length<=1000 by omega) (by omega),hap,dY,bF,aA,JG V (by omega) (show (names.reverse++names).length<=100000 by rw[length_append,List.length_reverse];omega),hD,hF,h4,hS,hN];unfold Li;have e:Nk t d=(cO t.land d.lot).1:=rfl;rw[e]at hb ⊢;generalize ow (jX (cO t.land d.lot).1) (dG d)=B at hb;generalize ((dW names:Nat):Int)=A;generalize (((Vx t.land d.lot 10).length:Nat):Int)=C;generalize (((cO t.land d.lot).1.area.length:Nat):Int)=D;have a0:at? [A,B,C,D] (((0:Nat):Int)+0)=some A:=rfl;have a1:at? [A,B,C,D] (((0:Nat):Int)+1)=some B:=rfl;have a2:at? [A,B,C,D] (((0:Nat):Int)+2)=some C:=rfl;have a3:at? [A,B,C,D] (((0:Nat):Int)+3)=some D:=rfl;have i0:inb 0 [A,B,C,D].length=true:=rfl;have i1:inb 1 [A,B,C,D].length=true:=rfl;have i2:inb 2 [A,B,C,D].length=true:=rfl;have i3:inb 3 [A,B,C,D].length=true:=rfl;have n1:∀ z:Int,(z==z)=true:=fun z=>by simp
  have dB:decide (B>=0)=true:=by simpa using hb
  simp only[a0,a1,a2,a3,i0,i1,i2,i3,n1,cond_true,bind_some,dB]
theorem Ip (t:gG) (d:GDrawing) (names:List ByteArray) (hf:M7 t) (hr:SF t) (hd:d.phases.length<=1000000000000000000):∃ k,jP k t d names=some true:=⟨_,GV t d names hf hr hd (Nat.le_refl _)⟩
def ahP:List CS:=[.str,.sl [.str,.int .i64],.int .i64]
theorem rows_ok {t:gG} {n:Nat} {s:VS} (hs:vsF (X:=xx) (n+8) (.st SI.Town)=some s) (h:QK s (CT.tv xx.toSE (.st SI.Town) t)):SF t:=by
 obtain⟨l,h1,h2⟩:=aa7 hs h;have h8:((csF (X:=xx) (n+8) (.st SI.Town)).bind fun l=>l[1]?)=some (.sl ahP):=by kernel_rfl
 rw[h1]at h8;have hf:=Ie h2 (i:=1) h8 (x:= .sl (t.plan_tables.map Gw)) rfl;obtain⟨_,_,h3⟩:=SB hf;intro x hx;have h4:=Ie (h3 x hx) (i:=1) (c:= .sl [.str,.int .i64]) rfl (x:= .sl (x.rows.map Gv)) rfl;obtain⟨h5,_,_⟩:=SB h4;have:maxLen=9223372036854775807:=by rfl
 omega
noncomputable def ae4:List CS:=(csF (X:=xx) 6 (.st SI.Phase)).getD []
theorem adj {d:GDrawing} {n:Nat} {s:VS} (hs:vsF (X:=xx) (n+7) (.st SI.Drawing)=some s) (h:QK s (CT.tv xx.toSE (.st SI.Drawing) d)):d.phases.length<=1000000000000000000:=by
 obtain⟨l,h1,h2⟩:=aa7 hs h;have h8:((csF (X:=xx) (n+7) (.st SI.Drawing)).bind fun l=>l[1]?)=some (.sl ae4):=by kernel_rfl
 rw[h1]at h8;have hf:=Ie h2 (i:=1) h8 (x:= .sl (d.phases.map RZ)) rfl;obtain⟨_,h5,_⟩:=SB hf;rw[show ack ae4=48 by kernel_rfl]at h5;have:reachBytes=140737488351232:=rfl;omega
theorem GX {n:Nat} {ss:List VS} {q:HL xx.toSE [.st SI.Town,.st SI.Drawing,.sl .str]} (hs:yO (vsF (X:=xx) (n+8)) [.st SI.Town,.st SI.Drawing,.sl .str]=some ss) (hq:IV ss (HL.tvs xx.toSE _ q)):M7 q.1∧SF q.1∧List.length (GDrawing.phases q.2.1)<=1000000000000000000:=by
 obtain⟨_,_,h1,a1,h2,b1⟩:=Zl hs q hq;obtain⟨_,_,h3,_,h4,_⟩:=Zl a1 q.2 b1;exact⟨afX (n:=n) h1 h2,rows_ok (n:=n) h1 h2,adj (n:=n+1) h3 h4⟩
end Go.Proofs
