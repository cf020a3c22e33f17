/-
  What Join comes to.
-/
import Derived.Test.YtdgealeielbdiaaGreatS2
open Go.IntKind (i64)
open Option (bind_some)
open List (map_cons append_assoc length_take mem_map all_eq_true length_append)
open Bool (and_eq_true)
namespace Go.Proofs
open Go.Gb Go.RowKit
def joinT (land:List GLot) (ids:List Int) (id:Int) (l:List GLot) (area:List GRect):List GLot×Int:=
 bif decide (area.length>200)then ([],6)else
 bif !connB area then ([],12)else
 (replaceL land ids [GLot.mk id (l.headD noLot).owner area (lineL l)],0)
def joinL (land:List GLot) (ids:List Int) (id:Int):List GLot×Int:=
 bif !landL land || (decide (ids.length < 2) || (!ascL (isort ltI ids) || !numB id))then ([],1)else
 bif !(ids.all fun k=>(findLot land k).2)then ([],4)else
 bif takenL land id then ([],5)else
 bif (ids.map fun k=>(findLot land k).1).any fun t=>t.owner != ((ids.map fun k=>(findLot land k).1).headD noLot).owner then ([],24)else
 joinT land ids id (ids.map fun k=>(findLot land k).1) (writeL (stripsL ((ids.map fun k=>(findLot land k).1).flatMap (·.area))))
theorem areas_flat (l:List GLot) (h:∀ t∈l,t.area.length≤200):(l.flatMap (·.area)).length≤200*l.length:=by
 induction l with
 |nil=>simp
 |cons t l ih=>
  have:=ih fun u hu=>h u (by simp[hu])
  have:=h t (by simp)
  simp only[List.flatMap_cons,length_append,List.length_cons]
  omega
theorem pc_Join_s1_run {n:Nat} {land:List GLot} {ids:List Int} (h:∀ t∈land,LotOk t) (hl:land.length≤99) (hi:ids.length≤20) (hn:10000≤n):
 iter (pc_Join_s1 n land ids) n ((0:Int),([]:List GLot))=some (bif !(ids.all fun k=>(findLot land k).2)then .inr ([],4)else .inl (ids.map fun k=>(findLot land k).1)):=by
 have:=iter_listI (l:=ids) (step:=pc_Join_s1 n land ids) (fun i (s:List GLot)=>(((i:Nat):Int),s)) (fun k s=>bif !(findLot land k).2 then .inr (.inr (([]:List GLot),(4:Int)))else .inl (s++[(findLot land k).1])) (fun s=>(.inl s:List GLot ⊕ (List GLot×Int))) (fun i s=>s.length≤i)
  (fun i hi s hs=>?_) (fun s hs=>by simp[pc_Join_s1]) n (by omega) [] (Nat.le_refl _)
 ·rw[show ((0:Nat):Int)=0 from rfl]at this
  rw[this]
  congr 1
  have gen:∀ (ks:List Int) (s:List GLot),loopL (fun k s=>bif !(findLot land k).2 then .inr (.inr (([]:List GLot),(4:Int)))else .inl (s++[(findLot land k).1])) (fun s=>(.inl s:List GLot ⊕ (List GLot×Int))) ks s=bif !(ks.all fun k=>(findLot land k).2)then .inr ([],4)else .inl (s++ks.map fun k=>(findLot land k).1):=by
   intro ks
   induction ks with
   |nil=>intro s;simp[loopL]
   |cons k ks ih=>
    intro s
    simp only[loopL,List.all_cons,map_cons]
    cases (findLot land k).2 with
    |false=>rfl
    |true=>
     simp only[Bool.not_true,cond_false,Bool.true_and]
     rw[ih,append_assoc]
     rfl
  simpa using gen ids []
 ·have hi':decide (((i:Nat):Int) < (ids.length:Int))=true:=by simpa using hi
  have s1:(sub ([(findLot land ids[i]).1]:List GLot) 0 1)=[(findLot land ids[i]).1]:=rfl
  have ap:appOk s.length s.length ([(findLot land ids[i]).1]:List GLot).length 1 64=true:=appOk_true (n:=1) (by omega) (by simp only[maxLen];omega)
  simp only[pc_Join_s1,hi',cond_true,at_get hi,bind_some,pc_Find_eq (n:=n) h (by omega) (by omega),s1,ap,letv_eq,eqL_self]
  rw[wrap_succ (by omega)]
  cases (findLot land ids[i]).2 with
  |false=>exact⟨rfl,fun s' e=>by cases e⟩
  |true=>exact⟨rfl,fun s' e=>by injection e with e;subst e;simp;omega⟩
theorem any_owner (l:List GLot) (hl:0 < l.length) (hb:l.length≤100) {n:Nat} (hn:1000≤n):sl_ContainsFunc_Lot_v1 n l=some (l.any fun t=>t.owner != (l.headD noLot).owner,l):=by
 have hd:at? l (((0:Nat):Int)+0)=some (l.headD noLot):=by
  cases l with
  |nil=>simp at hl
  |cons a l=>rfl
 have i0:inb 0 l.length=true:=by
  have:=inb_get (i:=0) hl
  exact this
 have f1:∀ t:GLot,pc_Join_f1_v1 t l=some (t.owner != (l.headD noLot).owner,l):=by
  intro t
  unfold pc_Join_f1_v1
  simp only[i0,cond_true,hd,bind_some,eqL_self]
 unfold sl_ContainsFunc_Lot_v1 sl_IndexFunc_Lot_v1
 have:=iter_find (l:=l) (step:=sl_IndexFunc_Lot_v1_s1 l) (fun i=>(((i:Nat):Int),l)) (fun t=>t.owner != (l.headD noLot).owner) l (fun i=>(((i:Nat):Int),l)) (fun i hi=>?_) (by simp[sl_IndexFunc_Lot_v1_s1]) n (by omega)
 ·rw[show ((0:Nat):Int)=0 from rfl]at this
  simp only[eqL_self,cond_true,this]
  rw[← findL_any]
  cases findL (fun t:GLot=>t.owner != (l.headD noLot).owner) l with
  |none=>simp
  |some i=>simp<;>omega
 ·have hi':decide (((i:Nat):Int) < ((l.length:Nat):Int))=true:=by simpa using hi
  simp only[sl_IndexFunc_Lot_v1_s1,hi',cond_true,inb_get hi,at_getz hi,bind_some,eqL_self,f1]
  rw[wrap_succ (by omega)]
  cases l[i].owner != (l.headD noLot).owner<;>rfl
theorem pc_Join_s2_run {n:Nat} (b:Bool) (l:List GLot) (hl:l.length≤20) (ha:∀ t∈l,t.area.length≤200) (hn:10000≤n):iter (pc_Join_s2 (b,l)) n ((0:Int),([]:List GRect))=some (l.flatMap (·.area)):=by
 have:=iter_to (step:=pc_Join_s2 (b,l)) (fun i=>(((i:Nat):Int),(l.take i).flatMap (·.area))) l.length (l.flatMap (·.area)) (fun i hi=>?_) ?_ n (by omega)
 ·simpa using this
 ·have hi':decide (((i:Nat):Int) < ((l.length:Nat):Int))=true:=by simpa using hi
  have h1:=areas_flat (l.take i) fun t ht=>ha t (List.mem_of_mem_take ht)
  rw[length_take]at h1
  have h2:=ha l[i] (List.getElem_mem hi)
  have ap:appOk ((l.take i).flatMap (·.area)).length ((l.take i).flatMap (·.area)).length l[i].area.length l[i].area.length 32=true:=appOk_true (by omega) (by simp only[maxLen];omega)
  simp only[pc_Join_s2,hi',cond_true,inb_get hi,at_getz hi,bind_some,ap,letv_eq,eqL_self]
  rw[wrap_succ (by omega),List.take_succ_eq_append_getElem hi,List.flatMap_append]
  simp
 ·simp[pc_Join_s2]
theorem pc_Join_eq {n:Nat} {land:List GLot} {ids:List Int} {id:Int} (h:∀ t∈land,LotOk t) (hl:land.length≤99) (hi:ids.length≤8) (hn:10000≤n):pc_Join n land ids id=some (joinL land ids id):=by
 unfold pc_Join joinL sl_Values_int_v1 sl_Sorted_int_v1 sl_Collect_int_v1 seqA
 have lb:Nat.ble ids.length 1000000=true:=by rw[Nat.ble_eq];omega
 have li:(isort ltI ids).length=ids.length:=by rw[length_isort]
 simp only[lb,cond_true,bind_some,eqL_self]
 rw[sl_Sort_int_eq (by omega) (by omega)]
 simp only[bind_some,li,eqL_self,cond_true,show sub (isort ltI ids) 0 ids.length=isort ltI ids by rw[← li,sub_all]]
 rw[pc_Right_eq (by omega) h (by omega),pc_ascending_eq (by omega) (by omega),pc_number_eq,pc_Join_s1_run h hl (by omega) hn,pc_taken_eq h (by omega) (by omega) (by omega)]
 simp only[bind_some,List.length_nil,eqL_self,cond_true]
 have d2:decide (((ids.length:Nat):Int) < 2)=decide (ids.length < 2):=by rw[Bool.eq_iff_iff];simp;omega
 rw[d2]
 cases hr:landL land with
 |false=>rfl
 |true=>
 cases h2:decide (ids.length < 2)with
 |true=>rfl
 |false=>
 cases ascL (isort ltI ids)with
 |false=>rfl
 |true=>
 cases numB id with
 |false=>rfl
 |true=>
 simp only[Bool.not_true,cond_false,bind_some,Bool.or_self]
 cases hall:ids.all fun k=>(findLot land k).2 with
 |false=>rfl
 |true=>
 simp only[Bool.not_true,cond_false,thenB_inl]
 cases takenL land id with
 |true=>rfl
 |false=>
 have mem:∀ t∈(ids.map fun k=>(findLot land k).1),t∈land:=by
  intro t ht
  rw[mem_map]at ht
  obtain⟨k,hk,rfl⟩:=ht
  exact (find_mem (all_eq_true.1 hall k hk)).1
 have ll:(ids.map fun k=>(findLot land k).1).length=ids.length:=List.length_map _
 have hlen:¬ ids.length < 2:=by simpa using h2
 generalize (ids.map fun k=>(findLot land k).1)=l at*
 have ok:∀ t∈l,LotOk t:=fun t ht=>h t (mem t ht)
 have right:∀ t∈l,rightL t.area=true:=fun t ht=>validL_right (valid_of_right hr (mem t ht))
 have a200:∀ t∈l,t.area.length≤200:=fun t ht=>(rightL_write (right t ht)).2.1
 have okr:∀ r∈l.flatMap (·.area),OkR r=true:=by
  intro r hr
  rw[List.mem_flatMap]at hr
  obtain⟨t,ht,hr⟩:=hr
  exact (rightL_write (right t ht)).1 r hr
 have fl:=areas_flat l a200
 have hd:at? l (((0:Nat):Int)+0)=some (l.headD noLot):=by
  cases l with
  |nil=>simp at ll;omega
  |cons a l=>rfl
 have i0:inb 0 l.length=true:=inb_get (i:=0) (by omega)
 have lnl:(lineL l).length≤901*20:=by
  have h1:=length_setL (l.flatMap fun t=>t.id::t.from_)
  have h2:=lens_flat l ok
  have h3:(lineL l).length≤_:=h1
  omega
 rw[any_owner l (by omega) (by omega) (by omega)]
 simp only[bind_some,cond_false]
 cases l.any fun t=>t.owner != (l.headD noLot).owner with
 |true=>rfl
 |false=>
 rw[pc_Join_s2_run _ l (by omega) a200 hn]
 simp only[bind_some,cond_false,sub_all,eqL_self,cond_true]
 rw[pc_form_eq okr (by omega) hn]
 generalize writeL (stripsL (l.flatMap (·.area)))=area
 unfold joinT connB
 have d3:decide (((area.length:Nat):Int)>200)=decide (area.length>200):=by rw[Bool.eq_iff_iff];simp;omega
 simp only[bind_some,d3]
 cases h4:decide (area.length>200)with
 |true=>rfl
 |false=>
 have h5:¬ area.length>200:=by simpa using h4
 rw[pc_connected_eq (by omega) (by omega) (by omega)]
 simp only[bind_some,cond_false]
 cases ((partsL area).length:Int)==1 with
 |false=>rfl
 |true=>
 have s3:∀ x:GLot,(sub ([x]:List GLot) 0 1)=[x]:=fun _=>rfl
 have q3:∀ x:GLot,eqL ([x]:List GLot).length 1=true:=fun _=>rfl
 have lnl2:(lineL l).length≤10000:=by
  have h1:=length_setL (l.flatMap fun t=>t.id::t.from_)
  have h2:=lens_flat l ok
  have h3:(lineL l).length≤_:=h1
  omega
 have rp:=pc_replace_eq (n:=n) (land:=land) (old:=ids) (lots:=[GLot.mk id (l.headD noLot).owner area (lineL l)]) h (by omega) (by omega) (fun t ht=>by
  have:t=GLot.mk id (l.headD noLot).owner area (lineL l):=by simpa using ht
  subst this
  exact⟨by show area.length≤900;omega,by show (lineL l).length≤10000;omega⟩) (by simp) (by omega)
 simp only[Bool.not_true,cond_false,i0,cond_true,hd,bind_some,pc_line_eq ok (by omega) (show 901*l.length < n by omega),eqL_self,sub_all,s3,q3,rp]
end Go.Proofs
namespace Go.Proofs
open Go.Gb Go.RowKit
theorem one13 (x y z w:Int):l13_one x y z w=some [GRect.mk x y z w]:=rfl
abbrev lotA:GLot:=GLot.mk 1 7 [GRect.mk 0 0 4 2] []
abbrev lotB:GLot:=GLot.mk 2 7 [GRect.mk 4 0 6 2] []
abbrev lotC:GLot:=GLot.mk 3 7 [GRect.mk 0 0 1 2] [1]
abbrev lotD:GLot:=GLot.mk 4 7 [GRect.mk 1 0 4 2] [1]
abbrev lotE:GLot:=GLot.mk 5 7 [GRect.mk 1 0 6 2] [1,2,4]
theorem lots_ok {l:List GLot} (h:(l.all fun t=>Nat.ble t.area.length 900&&Nat.ble t.from_.length 900)=true):∀ t∈l,LotOk t:=by
 intro t ht
 have:=all_eq_true.1 h t ht
 simp only[and_eq_true,Nat.ble_eq]at this
 exact this
theorem sm1:addL [] lotA=([lotA],0):=by kernel_rfl
theorem sm2:addL [lotA] lotB=([lotA,lotB],0):=by kernel_rfl
theorem sm3:splitL [lotA,lotB] 1 [GRect.mk 0 0 1 9] 3 4=([lotB,lotC,lotD],0):=by kernel_rfl
theorem sm4:joinL [lotB,lotC,lotD] [4,2] 5=([lotC,lotE],0):=by kernel_rfl
theorem sm5:splitL [lotA,lotB] 1 [GRect.mk 1 0 2 2] 3 4=([],12):=by kernel_rfl
theorem sm6:nearL [lotA,lotB] 1 0=[2]:=by kernel_rfl
theorem sm7 (k:Nat):so_Of (k+10000) [GBox.mk 0 0 2 2 0 4]=some ([GSlab.mk 0 4 [GRect.mk 0 0 2 2]],0):=by kernel_rfl
theorem sm8 (k:Nat):pc_Respect (k+10000) [GEasement.mk 1 [GRect.mk 0 0 1 1] 3] 1 [GSlab.mk 0 4 [GRect.mk 0 0 2 2]]=some false:=by kernel_rfl
theorem sm9 (k:Nat):pc_Respect (k+10000) [GEasement.mk 1 [GRect.mk 0 0 1 1] 3] 2 [GSlab.mk 0 4 [GRect.mk 0 0 2 2]]=some true:=by kernel_rfl
theorem sm10 (k:Nat):q13_Same (k+10000) [lotB,lotC,lotD] [lotB,lotC,lotD]=some true:=by kernel_rfl
theorem sm11 (k:Nat):q13_Same (k+10000) [lotC,lotE] [lotC,lotE]=some true:=by kernel_rfl
theorem sm12 (k:Nat):q01_SameNums (k+10000) [2] [2]=some true:=by kernel_rfl
theorem small13 {n:Nat} (hn:10000≤n):l13_small n=some true:=by
 obtain⟨k,rfl⟩:∃ k,n=k+10000:=⟨n - 10000,by omega⟩
 have s1:∀ x:GLot,sub ([x]:List GLot) 0 1=[x]:=fun _=>rfl
 have s2:sub ([4,2]:List Int) 0 2=[4,2]:=rfl
 have s3:sub ([1]:List Int) 0 1=[1]:=rfl
 have s4:sub ([2]:List Int) 0 1=[2]:=rfl
 have s5:sub ([1,2,4]:List Int) 0 3=[1,2,4]:=rfl
 have s6:∀ x y:GLot,sub ([x,y]:List GLot) 0 2=[x,y]:=fun _ _=>rfl
 have s7:∀ x y z:GLot,sub ([x,y,z]:List GLot) 0 3=[x,y,z]:=fun _ _ _=>rfl
 have s8:∀ x:GBox,sub ([x]:List GBox) 0 1=[x]:=fun _=>rfl
 have s9:∀ x:GEasement,sub ([x]:List GEasement) 0 1=[x]:=fun _=>rfl
 have e1:∀ x:Int,eqL ([x]:List Int).length 1=true:=fun _=>rfl
 have e2:∀ x y:Int,eqL ([x,y]:List Int).length 2=true:=fun _ _=>rfl
 have e3:∀ x y z:Int,eqL ([x,y,z]:List Int).length 3=true:=fun _ _ _=>rfl
 have e4:∀ x y:GLot,eqL ([x,y]:List GLot).length 2=true:=fun _ _=>rfl
 have e5:∀ x y z:GLot,eqL ([x,y,z]:List GLot).length 3=true:=fun _ _ _=>rfl
 have e6:∀ x:GBox,eqL ([x]:List GBox).length 1=true:=fun _=>rfl
 have e7:∀ x:GEasement,eqL ([x]:List GEasement).length 1=true:=fun _=>rfl
 have z0:((0:Int)==0)=true:=rfl
 have z1:((12:Int)==12)=true:=rfl
 unfold l13_small
 simp only[one13,bind_some,sub_all,eqL_self,cond_true]
 rw[pc_Add_eq (land:=[]) (lots_ok rfl) (by simp) ⟨by simp,by simp⟩ (by omega),sm1]
 simp only[bind_some,sub_all,eqL_self,cond_true]
 rw[pc_Add_eq (land:=[lotA]) (lots_ok rfl) (by simp) ⟨by simp,by simp⟩ (by omega),sm2]
 simp only[bind_some,sub_all,eqL_self,cond_true]
 rw[pc_Split_full (land:=[lotA,lotB]) (lots_ok rfl) (by simp) (by simp) (by omega),sm3]
 simp only[bind_some,sub_all,eqL_self,cond_true,s2,e2]
 rw[pc_Join_eq (land:=[lotB,lotC,lotD]) (lots_ok rfl) (by simp) (by simp) (by omega),sm4]
 simp only[bind_some,sub_all,eqL_self,cond_true]
 rw[pc_Split_full (land:=[lotA,lotB]) (lots_ok rfl) (by simp) (by simp) (by omega),sm5]
 simp only[bind_some,sub_all,eqL_self,cond_true,s3,s4,s5,s6,s7,s8,s9,e1,e2,e3,e4,e5,e6,e7,sm7,z0,z1,sm10,sm11]
 rw[pc_Near_eq (land:=[lotA,lotB]) (lots_ok rfl) (by simp) (by omega),sm6]
 simp only[bind_some,sub_all,eqL_self,cond_true,sm12,sm8,sm9]
 rfl
end Go.Proofs
namespace Go.Proofs
open Go.Gb Go.RowKit
theorem l13_in_eq {n:Nat} {l:List Int} {a:Int} (hl:l.length < 1099511627776) (hn:l.length < n):l13_in n l a=some (decide (a∈l)):=by
 have:=iter_find (l:=l) (step:=l13_in_s1 l a) (fun i=>((i:Nat):Int)) (fun x=>x==a) () (fun _=>true) (fun i hi=>?_) ?_ n hn
 ·unfold l13_in
  rw[show ((0:Nat):Int)=0 from rfl]at this
  rw[this]
  have e:decide (a∈l)=l.any fun x=>x==a:=by rw[Bool.eq_iff_iff];simp
  rw[e,← findL_any]
  cases findL (fun x=>x==a) l<;>rfl
 ·have hi':decide (((i:Nat):Int) < (l.length:Int))=true:=by simpa using hi
  simp only[l13_in_s1,hi',cond_true,at_get hi,bind_some]
  cases l[i]==a with
  |true=>rfl
  |false=>simp only[cond_false];rw[wrap_succ (by omega)]
 ·simp[l13_in_s1]
theorem q13_Few_full {n:Nat} {l:List GLot} (hl:l.length≤maxLen) (hn:l.length < n):∃ b,q13_Few n l=some b∧(b=true→l.length≤12∧∀ t∈l,t.area.length≤20∧t.from_.length≤30):=by
 have:=iter_find (l:=l) (step:=q13_Few_s1 l) (fun i=>((i:Nat):Int)) (fun t:GLot=>decide ((t.area.length:Int)>20) || decide ((t.from_.length:Int)>30)) () (fun _=>false) (fun i hi=>?_) (by simp[q13_Few_s1]) n hn
 ·rw[show ((0:Nat):Int)=0 from rfl]at this
  unfold q13_Few
  rw[this]
  rcases findL_spec (fun t:GLot=>decide ((t.area.length:Int)>20) || decide ((t.from_.length:Int)>30)) l with ⟨i,hi,h1,_⟩ |⟨h1,h2⟩
  ·rw[h1];exact⟨false,rfl,by simp⟩
  ·rw[h1]
   refine⟨_,rfl,fun h=>⟨?_,fun t ht=>?_⟩⟩
   ·have:=of_decide_eq_true h
    omega
   ·have:=h2 t ht
    simp only[Bool.or_eq_false_iff,decide_eq_false_iff_not]at this
    omega
 ·have hi':decide (((i:Nat):Int) < (l.length:Int))=true:=by simpa using hi
  have hm:i < 9223372036854775807:=by simp only[maxLen]at hl;omega
  simp only[q13_Few_s1,hi',cond_true,at_get hi,bind_some]
  cases decide ((l[i].area.length:Int)>20)with
  |true=>rfl
  |false=>
   simp only[cond_false,Bool.false_or,bind_some]
   cases decide ((l[i].from_.length:Int)>30)with
   |true=>rfl
   |false=>simp only[cond_false];rw[wrap_succ hm]
theorem nearA_symm (a b:List GRect) (d:Int):nearA a b d=nearA b a d:=by
 have h:∀ a b:List GRect,nearA a b d=true→nearA b a d=true:=by
  intro a b h
  rw[nearA_iff]at h ⊢
  obtain⟨⟨h1,h2,h3,h4⟩,h5⟩:=h
  refine⟨⟨h2,h1,h4,h3⟩,?_⟩
  rcases h5 with h5 |⟨h5,px,py,qx,qy,h6,h7,h8⟩
  ·exact .inl h5
  ·refine .inr ⟨h5,qx,qy,px,py,h7,h6,?_⟩
   unfold closeC at*
   omega
 cases h1:nearA a b d with
 |true=>exact (h a b h1).symm
 |false=>
  cases h2:nearA b a d with
  |false=>rfl
  |true=>rw[h b a h2]at h1;cases h1
theorem isNear_A (t:GLot) (id d:Int) (u:GLot):isNear t id d u=(nearA t.area u.area d&&(u.id != id)):=by
 unfold isNear nearA
 cases (gapL t.area u.area).2<;>rfl
theorem nearL_mem {land:List GLot} {id d z:Int}:z∈nearL land id d↔(findLot land id).2=true∧∃ u∈land,u.id=z∧z≠id∧nearA (findLot land id).1.area u.area d=true:=by
 unfold nearL
 cases (findLot land id).2 with
 |false=>simp
 |true=>
  simp only[cond_true,setL_mem,nearIds,mem_map,List.mem_filter,isNear_A,and_eq_true,bne_iff_ne,true_and]
  constructor
  ·rintro⟨u,⟨h1,h2,h3⟩,rfl⟩
   exact⟨u,h1,rfl,h3,h2⟩
  ·rintro⟨u,h1,rfl,h3,h2⟩
   exact⟨u,⟨h1,h2,h3⟩,rfl⟩
theorem nearL_strict (land:List GLot) (id d:Int):(nearL land id d).Pairwise (· < ·):=by
 unfold nearL
 cases (findLot land id).2 with
 |false=>exact .nil
 |true=>exact setL_strict _
theorem nearA_pos {a b:List GRect} {d:Int} (h:nearA a b d=true):0≤d:=by
 rw[nearA_iff]at h
 rcases h.2 with h |h
 ·omega
 ·exact h.1
theorem ParcelNears_true {n:Nat} (hn:1000≤n) (l:List GLot) (id d:Int) (hl:l.length≤maxLen) (hln:l.length < n) (hsm:l13_small n=some true):l13_ParcelNears n l id d=some true:=by
 obtain⟨bb,hb,hfew⟩:=q13_Few_full hl hln
 unfold l13_ParcelNears
 rw[hsm,hb]
 simp only[bind_some]
 cases bb with
 |false=>rfl
 |true=>
 obtain⟨h12,hsz⟩:=hfew rfl
 have hle:∀ t∈l,LotOk t:=fun t ht=>by have:=hsz t ht;exact⟨by omega,by omega⟩
 have nr:∀ z e:Int,pc_Near n l z e=some (nearL l z e):=fun z e=>pc_Near_eq hle (by omega) hn
 have nlen:∀ z e:Int,(nearL l z e).length≤100:=fun z e=>Nat.le_trans (length_nearL _ _ _) (by omega)
 have inn:∀ z e w:Int,l13_in n (nearL l z e) w=some (decide (w∈nearL l z e)):=fun z e w=>l13_in_eq (by have:=nlen z e;omega) (by have:=nlen z e;omega)
 have hN:=nlen id d
 have hS:=nearL_strict l id d
 rw[pc_Find_eq hle (by omega) (by omega),nr]
 simp only[Bool.not_true,cond_false,bind_some]
 have L1:iter (l13_ParcelNears_s1 (nearL l id d)) n (1:Int)=some (.inl ()):=by
  have:=iter_to (step:=l13_ParcelNears_s1 (nearL l id d)) (fun i=>((i+1:Nat):Int)) ((nearL l id d).length - 1) (.inl ()) (fun i hi=>?_) ?_ n (by omega)
  ·exact this
  ·have h1:i+1 < (nearL l id d).length:=by omega
   have c:decide (((i+1:Nat):Int) < (((nearL l id d).length:Nat):Int))=true:=by simp;omega
   have w:i64.wrap (((i+1:Nat):Int) - 1)=((i:Nat):Int):=by rw[wrap_pred (by omega) (by omega)];rfl
   rw[List.pairwise_iff_getElem]at hS
   have hlt:=hS i (i+1) (by omega) h1 (by omega)
   have c2:decide ((nearL l id d)[i]≥(nearL l id d)[i+1])=false:=by simp;omega
   simp only[l13_ParcelNears_s1,c,cond_true,w,inb_get (show i < (nearL l id d).length by omega),at_getz (show i < (nearL l id d).length by omega),inb_get h1,at_getz h1,bind_some,c2,cond_false]
   rw[wrap_succ (by omega)]
  ·have c:decide ((((nearL l id d).length - 1+1:Nat):Int) < (((nearL l id d).length:Nat):Int))=false:=by simp;omega
   simp only[l13_ParcelNears_s1,c,cond_false]
 rw[L1]
 simp only[thenB_inl]
 cases hf:(findLot l id).2 with
 |false=>
  have e:nearL l id d=[]:=by unfold nearL;rw[hf];rfl
  rw[e];rfl
 |true=>
 obtain⟨hm,hid⟩:=find_mem hf
 have gp:∀ (i:Nat) (hi:i < l.length),of_Gap n (findLot l id).1.area l[i].area=some (gapL (findLot l id).1.area l[i].area):=fun i hi=>by
  have h1:=hsz _ hm
  have h2:=hsz _ (List.getElem_mem hi)
  exact of_Gap_eq (by omega) (by omega) hn
 simp only[Bool.not_true,cond_false]
 have L2:iter (l13_ParcelNears_s2 n l id d (findLot l id) (nearL l id d)) n (0:Int)=some (.inl ()):=by
  have:=iter_to (step:=l13_ParcelNears_s2 n l id d (findLot l id) (nearL l id d)) (fun i=>((i:Nat):Int)) l.length (.inl ()) (fun i hi=>?_) ?_ n (by omega)
  ·exact this
  ·have c:decide (((i:Nat):Int) < (l.length:Int))=true:=by simpa using hi
   have key:((bif (gapL (findLot l id).1.area l[i].area).2 then (bif (decide ((gapL (findLot l id).1.area l[i].area).1≤d))then (bif (l[i].id != id)then some (!decide (l[i].id∈nearL l id d))else some false)else some false)else some false):Option Bool)=some false:=by
    cases h1:(gapL (findLot l id).1.area l[i].area).2 with
    |false=>rfl
    |true=>
     cases h2:decide ((gapL (findLot l id).1.area l[i].area).1≤d)with
     |false=>rfl
     |true=>
      cases h3:l[i].id != id with
      |false=>rfl
      |true=>
       have:l[i].id∈nearL l id d:=nearL_mem.2 ⟨hf,l[i],List.getElem_mem hi,rfl,by simpa using h3,by unfold nearA;rw[h1,h2];rfl⟩
       simp[this]
   simp only[l13_ParcelNears_s2,c,cond_true,at_get hi,bind_some,gp i hi,sub_all,eqL_self,inn,key,cond_false]
   rw[wrap_succ (by omega)]
  ·simp[l13_ParcelNears_s2]
 rw[L2]
 simp only[thenB_inl]
 have L4:∀ (j:Nat) (hj:j < (nearL l id d).length),iter (l13_ParcelNears_s4 n l d (findLot l id) (nearL l id d) (j:Int)) n (false,(0:Int))=some true:=by
  intro j hj
  have:=iter_fold (l:=l) (step:=l13_ParcelNears_s4 n l d (findLot l id) (nearL l id d) (j:Int)) (fun i (s:Bool)=>(s,((i:Nat):Int))) (fun u s=>s || ((u.id==(nearL l id d)[j])&&nearA (findLot l id).1.area u.area d)) (fun s=>s) (fun i hi s=>?_) (fun s=>by simp[l13_ParcelNears_s4]) n (by omega) false
  ·rw[show ((0:Nat):Int)=0 from rfl]at this
   rw[this]
   have any:∀ (ys:List GLot) (s:Bool),ys.foldl (fun s u=>s || ((u.id==(nearL l id d)[j])&&nearA (findLot l id).1.area u.area d)) s=(s || ys.any fun u=>(u.id==(nearL l id d)[j])&&nearA (findLot l id).1.area u.area d):=by
    intro ys
    induction ys with
    |nil=>intro s;simp
    |cons y ys ih=>intro s;simp only[List.foldl_cons,ih,List.any_cons,Bool.or_assoc]
   rw[any,Bool.false_or]
   congr 1
   obtain⟨_,u,hu,h1,_,h3⟩:=nearL_mem.1 (List.getElem_mem hj)
   rw[List.any_eq_true]
   exact⟨u,hu,by simp[h1,h3]⟩
  ·have c:decide (((i:Nat):Int) < (l.length:Int))=true:=by simpa using hi
   simp only[l13_ParcelNears_s4,c,cond_true,at_get hi,bind_some,gp i hi,inb_get hj,at_getz hj]
   rw[wrap_succ (by omega)]
   cases s with
   |true=>rfl
   |false=>
    unfold nearA
    simp only[cond_false,Bool.false_or]
    cases l[i].id==(nearL l id d)[j]with
    |false=>rfl
    |true=>cases (gapL (findLot l id).1.area l[i].area).2<;>rfl
 have L3:iter (l13_ParcelNears_s3 n l id d (findLot l id) (nearL l id d)) n (0:Int)=some (.inl ()):=by
  have:=iter_to (step:=l13_ParcelNears_s3 n l id d (findLot l id) (nearL l id d)) (fun i=>((i:Nat):Int)) (nearL l id d).length (.inl ()) (fun i hi=>?_) ?_ n (by omega)
  ·exact this
  ·have c:decide (((i:Nat):Int) < (((nearL l id d).length:Nat):Int))=true:=by simpa using hi
   have hz:=List.getElem_mem hi
   have l4:=L4 i hi
   have ib:=inb_get hi
   have ag:=at_getz hi
   generalize (nearL l id d)[i]=z at hz ag
   obtain⟨_,u,hu,h1,h2,h3⟩:=nearL_mem.1 hz
   have hd:=nearA_pos h3
   have c1:(z==id)=false:=by simpa using h2
   have far:((bif (decide (d < (1000000:Int)))then some (!decide (z∈nearL l id (i64.wrap (d+1))))else some false):Option Bool)=some false:=by
    by_cases c2:d < 1000000
    ·have:z∈nearL l id (i64.wrap (d+1)):=by
      rw[wrap_id (by omega) (by omega)]
      exact nearL_mono (by omega) z hz
     simp[this]
    ·simp[c2]
   simp only[l13_ParcelNears_s3,c,cond_true,l4,bind_some,Bool.not_true,cond_false,ib,ag,c1,pc_Right_eq (show l.length≤100 by omega) hle hn,nr,sub_all,eqL_self,inn]
   cases hr:landL l with
   |false=>
    simp only[cond_false,far,bind_some]
    rw[wrap_succ (by omega)]
   |true=>
    have hin:id∈nearL l z d:=by
     have fz:=find_of_diff (diff_of_right hr) hu
     rw[h1]at fz
     refine nearL_mem.2 ⟨by rw[fz],_,hm,hid,Ne.symm h2,?_⟩
     rw[fz,nearA_symm]
     exact h3
    simp only[cond_true,hin,decide_true,Bool.not_true,cond_false,far,bind_some]
    rw[wrap_succ (by omega)]
  ·simp[l13_ParcelNears_s3]
 rw[L3]
 rfl
theorem ParcelNears_row (l:List GLot) (id d:Int) (hl:l.length≤maxLen):∃ k,l13_ParcelNears k l id d=some true:=
 ⟨10000+l.length,ParcelNears_true (by omega) l id d hl (by omega) (small13 (by omega))⟩
end Go.Proofs
