/-
  What Join comes to.
-/
import Derived.Test.YtdgealeielbdiaaGreatS2
open Go.IntKind (i64)
open Option (bind_some)
open List (map_cons mem_cons append_assoc mem_append length_take mem_map all_eq_true nil_append length_append)
open Bool (and_eq_true)
namespace Go.Proofs
open Go.Gb Go.RowKit
def joinT (land:List GLot) (ids:List Int) (id:Int) (l:List GLot) (area:List GRect):List GLot×Int:=
 bif decide (area.length>200)then ([],6)else
 bif !connB area then ([],12)else
 (replaceL land ids [GLot.mk id (l.headD noLot).owner area (lineL l)],0)
def joinL (land:List GLot) (ids:List Int) (id:Int):List GLot×Int:=
 bif !landL land || (decide (ids.length < 2) || (!ascL (isort ltI ids) || !numB id))then ([],1)else
 bif !(ids.all fun k=>(findLot land k).2)then ([],4)else
 bif takenL land id then ([],5)else
 bif (ids.map fun k=>(findLot land k).1).any fun t=>t.owner != ((ids.map fun k=>(findLot land k).1).headD noLot).owner then ([],24)else
 joinT land ids id (ids.map fun k=>(findLot land k).1) (writeL (stripsL ((ids.map fun k=>(findLot land k).1).flatMap (·.area))))
theorem areas_flat (l:List GLot) (h:∀ t∈l,t.area.length≤200):(l.flatMap (·.area)).length≤200*l.length:=by
 induction l with
 |nil=>simp
 |cons t l ih=>
  have:=ih fun u hu=>h u (by simp[hu])
  have:=h t (by simp)
  simp only[List.flatMap_cons,length_append,List.length_cons]
  omega
theorem pc_Join_s1_run {n:Nat} {land:List GLot} {ids:List Int} (h:∀ t∈land,LotOk t) (hl:land.length≤99) (hi:ids.length≤20) (hn:10000≤n):
 iter (pc_Join_s1 n land ids) n ((0:Int),([]:List GLot))=some (bif !(ids.all fun k=>(findLot land k).2)then .inr ([],4)else .inl (ids.map fun k=>(findLot land k).1)):=by
 have:=iter_listI (l:=ids) (step:=pc_Join_s1 n land ids) (fun i (s:List GLot)=>(((i:Nat):Int),s)) (fun k s=>bif !(findLot land k).2 then .inr (.inr (([]:List GLot),(4:Int)))else .inl (s++[(findLot land k).1])) (fun s=>(.inl s:List GLot ⊕ (List GLot×Int))) (fun i s=>s.length≤i)
  (fun i hi s hs=>?_) (fun s hs=>by simp[pc_Join_s1]) n (by omega) [] (Nat.le_refl _)
 ·rw[show ((0:Nat):Int)=0 from rfl]at this
  rw[this]
  congr 1
  have gen:∀ (ks:List Int) (s:List GLot),loopL (fun k s=>bif !(findLot land k).2 then .inr (.inr (([]:List GLot),(4:Int)))else .inl (s++[(findLot land k).1])) (fun s=>(.inl s:List GLot ⊕ (List GLot×Int))) ks s=bif !(ks.all fun k=>(findLot land k).2)then .inr ([],4)else .inl (s++ks.map fun k=>(findLot land k).1):=by
   intro ks
   induction ks with
   |nil=>intro s;simp[loopL]
   |cons k ks ih=>
    intro s
    simp only[loopL,List.all_cons,map_cons]
    cases (findLot land k).2 with
    |false=>rfl
    |true=>
     simp only[Bool.not_true,cond_false,Bool.true_and]
     rw[ih,append_assoc]
     rfl
  simpa using gen ids []
 ·have hi':decide (((i:Nat):Int) < (ids.length:Int))=true:=by simpa using hi
  have s1:(sub ([(findLot land ids[i]).1]:List GLot) 0 1)=[(findLot land ids[i]).1]:=rfl
  have ap:appOk s.length s.length ([(findLot land ids[i]).1]:List GLot).length 1 64=true:=appOk_true (n:=1) (by omega) (by simp only[maxLen];omega)
  simp only[pc_Join_s1,hi',cond_true,at_get hi,bind_some,pc_Find_eq (n:=n) h (by omega) (by omega),s1,ap,letv_eq,eqL_self]
  rw[wrap_succ (by omega)]
  cases (findLot land ids[i]).2 with
  |false=>exact⟨rfl,fun s' e=>by cases e⟩
  |true=>exact⟨rfl,fun s' e=>by injection e with e;subst e;simp;omega⟩
theorem any_owner (l:List GLot) (hl:0 < l.length) (hb:l.length≤100) {n:Nat} (hn:1000≤n):sl_ContainsFunc_Lot_v1 n l=some (l.any fun t=>t.owner != (l.headD noLot).owner,l):=by
 have hd:at? l (((0:Nat):Int)+0)=some (l.headD noLot):=by
  cases l with
  |nil=>simp at hl
  |cons a l=>rfl
 have i0:inb 0 l.length=true:=by
  have:=inb_get (i:=0) hl
  exact this
 have f1:∀ t:GLot,pc_Join_f1_v1 t l=some (t.owner != (l.headD noLot).owner,l):=by
  intro t
  unfold pc_Join_f1_v1
  simp only[i0,cond_true,hd,bind_some,eqL_self]
 unfold sl_ContainsFunc_Lot_v1 sl_IndexFunc_Lot_v1
 have:=iter_find (l:=l) (step:=sl_IndexFunc_Lot_v1_s1 l) (fun i=>(((i:Nat):Int),l)) (fun t=>t.owner != (l.headD noLot).owner) l (fun i=>(((i:Nat):Int),l)) (fun i hi=>?_) (by simp[sl_IndexFunc_Lot_v1_s1]) n (by omega)
 ·rw[show ((0:Nat):Int)=0 from rfl]at this
  simp only[eqL_self,cond_true,this]
  rw[← findL_any]
  cases findL (fun t:GLot=>t.owner != (l.headD noLot).owner) l with
  |none=>simp
  |some i=>simp<;>omega
 ·have hi':decide (((i:Nat):Int) < ((l.length:Nat):Int))=true:=by simpa using hi
  simp only[sl_IndexFunc_Lot_v1_s1,hi',cond_true,inb_get hi,at_getz hi,bind_some,eqL_self,f1]
  rw[wrap_succ (by omega)]
  cases l[i].owner != (l.headD noLot).owner<;>rfl
theorem pc_Join_s2_run {n:Nat} (b:Bool) (l:List GLot) (hl:l.length≤20) (ha:∀ t∈l,t.area.length≤200) (hn:10000≤n):iter (pc_Join_s2 (b,l)) n ((0:Int),([]:List GRect))=some (l.flatMap (·.area)):=by
 have:=iter_to (step:=pc_Join_s2 (b,l)) (fun i=>(((i:Nat):Int),(l.take i).flatMap (·.area))) l.length (l.flatMap (·.area)) (fun i hi=>?_) ?_ n (by omega)
 ·simpa using this
 ·have hi':decide (((i:Nat):Int) < ((l.length:Nat):Int))=true:=by simpa using hi
  have h1:=areas_flat (l.take i) fun t ht=>ha t (List.mem_of_mem_take ht)
  rw[length_take]at h1
  have h2:=ha l[i] (List.getElem_mem hi)
  have ap:appOk ((l.take i).flatMap (·.area)).length ((l.take i).flatMap (·.area)).length l[i].area.length l[i].area.length 32=true:=appOk_true (by omega) (by simp only[maxLen];omega)
  simp only[pc_Join_s2,hi',cond_true,inb_get hi,at_getz hi,bind_some,ap,letv_eq,eqL_self]
  rw[wrap_succ (by omega),List.take_succ_eq_append_getElem hi,List.flatMap_append]
  simp
 ·simp[pc_Join_s2]
theorem pc_Join_eq {n:Nat} {land:List GLot} {ids:List Int} {id:Int} (h:∀ t∈land,LotOk t) (hl:land.length≤99) (hi:ids.length≤8) (hn:10000≤n):pc_Join n land ids id=some (joinL land ids id):=by
 unfold pc_Join joinL sl_Values_int_v1 sl_Sorted_int_v1 sl_Collect_int_v1 seqA
 have lb:Nat.ble ids.length 1000000=true:=by rw[Nat.ble_eq];omega
 have li:(isort ltI ids).length=ids.length:=by rw[length_isort]
 simp only[lb,cond_true,bind_some,eqL_self]
 rw[sl_Sort_int_eq (by omega) (by omega)]
 simp only[bind_some,li,eqL_self,cond_true,show sub (isort ltI ids) 0 ids.length=isort ltI ids by rw[← li,sub_all]]
 rw[pc_Right_eq (by omega) h (by omega),pc_ascending_eq (by omega) (by omega),pc_number_eq,pc_Join_s1_run h hl (by omega) hn,pc_taken_eq h (by omega) (by omega) (by omega)]
 simp only[bind_some,List.length_nil,eqL_self,cond_true]
 have d2:decide (((ids.length:Nat):Int) < 2)=decide (ids.length < 2):=by rw[Bool.eq_iff_iff];simp;omega
 rw[d2]
 cases hr:landL land with
 |false=>rfl
 |true=>
 cases h2:decide (ids.length < 2)with
 |true=>rfl
 |false=>
 cases ascL (isort ltI ids)with
 |false=>rfl
 |true=>
 cases numB id with
 |false=>rfl
 |true=>
 simp only[Bool.not_true,cond_false,bind_some,Bool.or_self]
 cases hall:ids.all fun k=>(findLot land k).2 with
 |false=>rfl
 |true=>
 simp only[Bool.not_true,cond_false,thenB_inl]
 cases takenL land id with
 |true=>rfl
 |false=>
 have mem:∀ t∈(ids.map fun k=>(findLot land k).1),t∈land:=by
  intro t ht
  rw[mem_map]at ht
  obtain⟨k,hk,rfl⟩:=ht
  exact (find_mem (all_eq_true.1 hall k hk)).1
 have ll:(ids.map fun k=>(findLot land k).1).length=ids.length:=List.length_map _
 have hlen:¬ ids.length < 2:=by simpa using h2
 generalize (ids.map fun k=>(findLot land k).1)=l at*
 have ok:∀ t∈l,LotOk t:=fun t ht=>h t (mem t ht)
 have right:∀ t∈l,rightL t.area=true:=fun t ht=>validL_right (valid_of_right hr (mem t ht))
 have a200:∀ t∈l,t.area.length≤200:=fun t ht=>(rightL_write (right t ht)).2.1
 have okr:∀ r∈l.flatMap (·.area),OkR r=true:=by
  intro r hr
  rw[List.mem_flatMap]at hr
  obtain⟨t,ht,hr⟩:=hr
  exact (rightL_write (right t ht)).1 r hr
 have fl:=areas_flat l a200
 have hd:at? l (((0:Nat):Int)+0)=some (l.headD noLot):=by
  cases l with
  |nil=>simp at ll;omega
  |cons a l=>rfl
 have i0:inb 0 l.length=true:=inb_get (i:=0) (by omega)
 have lnl:(lineL l).length≤901*20:=by
  have h1:=length_setL (l.flatMap fun t=>t.id::t.from_)
  have h2:=lens_flat l ok
  have h3:(lineL l).length≤_:=h1
  omega
 rw[any_owner l (by omega) (by omega) (by omega)]
 simp only[bind_some,cond_false]
 cases l.any fun t=>t.owner != (l.headD noLot).owner with
 |true=>rfl
 |false=>
 rw[pc_Join_s2_run _ l (by omega) a200 hn]
 simp only[bind_some,cond_false,sub_all,eqL_self,cond_true]
 rw[pc_form_eq okr (by omega) hn]
 generalize writeL (stripsL (l.flatMap (·.area)))=area
 unfold joinT connB
 have d3:decide (((area.length:Nat):Int)>200)=decide (area.length>200):=by rw[Bool.eq_iff_iff];simp;omega
 simp only[bind_some,d3]
 cases h4:decide (area.length>200)with
 |true=>rfl
 |false=>
 have h5:¬ area.length>200:=by simpa using h4
 rw[pc_connected_eq (by omega) (by omega) (by omega)]
 simp only[bind_some,cond_false]
 cases ((partsL area).length:Int)==1 with
 |false=>rfl
 |true=>
 have s3:∀ x:GLot,(sub ([x]:List GLot) 0 1)=[x]:=fun _=>rfl
 have q3:∀ x:GLot,eqL ([x]:List GLot).length 1=true:=fun _=>rfl
 have lnl2:(lineL l).length≤10000:=by
  have h1:=length_setL (l.flatMap fun t=>t.id::t.from_)
  have h2:=lens_flat l ok
  have h3:(lineL l).length≤_:=h1
  omega
 have rp:=pc_replace_eq (n:=n) (land:=land) (old:=ids) (lots:=[GLot.mk id (l.headD noLot).owner area (lineL l)]) h (by omega) (by omega) (fun t ht=>by
  have:t=GLot.mk id (l.headD noLot).owner area (lineL l):=by simpa using ht
  subst this
  exact⟨by show area.length≤900;omega,by show (lineL l).length≤10000;omega⟩) (by simp) (by omega)
 simp only[Bool.not_true,cond_false,i0,cond_true,hd,bind_some,pc_line_eq ok (by omega) (show 901*l.length < n by omega),eqL_self,sub_all,s3,q3,rp]
end Go.Proofs
namespace Go.Proofs
open Go.Gb Go.RowKit
theorem one13 (x y z w:Int):l13_one x y z w=some [GRect.mk x y z w]:=rfl
abbrev lotA:GLot:=GLot.mk 1 7 [GRect.mk 0 0 4 2] []
abbrev lotB:GLot:=GLot.mk 2 7 [GRect.mk 4 0 6 2] []
abbrev lotC:GLot:=GLot.mk 3 7 [GRect.mk 0 0 1 2] [1]
abbrev lotD:GLot:=GLot.mk 4 7 [GRect.mk 1 0 4 2] [1]
abbrev lotE:GLot:=GLot.mk 5 7 [GRect.mk 1 0 6 2] [1,2,4]
theorem lots_ok {l:List GLot} (h:(l.all fun t=>Nat.ble t.area.length 900&&Nat.ble t.from_.length 900)=true):∀ t∈l,LotOk t:=by
 intro t ht
 have:=all_eq_true.1 h t ht
 simp only[and_eq_true,Nat.ble_eq]at this
 exact this
theorem sm1:addL [] lotA=([lotA],0):=by kernel_rfl
theorem sm2:addL [lotA] lotB=([lotA,lotB],0):=by kernel_rfl
theorem sm3:splitL [lotA,lotB] 1 [GRect.mk 0 0 1 9] 3 4=([lotB,lotC,lotD],0):=by kernel_rfl
theorem sm4:joinL [lotB,lotC,lotD] [4,2] 5=([lotC,lotE],0):=by kernel_rfl
theorem sm5:splitL [lotA,lotB] 1 [GRect.mk 1 0 2 2] 3 4=([],12):=by kernel_rfl
theorem sm6:nearL [lotA,lotB] 1 0=[2]:=by kernel_rfl
theorem sm7 (k:Nat):so_Of (k+10000) [GBox.mk 0 0 2 2 0 4]=some ([GSlab.mk 0 4 [GRect.mk 0 0 2 2]],0):=by kernel_rfl
theorem sm8 (k:Nat):pc_Respect (k+10000) [GEasement.mk 1 [GRect.mk 0 0 1 1] 3] 1 [GSlab.mk 0 4 [GRect.mk 0 0 2 2]]=some false:=by kernel_rfl
theorem sm9 (k:Nat):pc_Respect (k+10000) [GEasement.mk 1 [GRect.mk 0 0 1 1] 3] 2 [GSlab.mk 0 4 [GRect.mk 0 0 2 2]]=some true:=by kernel_rfl
theorem sm10 (k:Nat):q13_Same (k+10000) [lotB,lotC,lotD] [lotB,lotC,lotD]=some true:=by kernel_rfl
theorem sm11 (k:Nat):q13_Same (k+10000) [lotC,lotE] [lotC,lotE]=some true:=by kernel_rfl
theorem sm12 (k:Nat):q01_SameNums (k+10000) [2] [2]=some true:=by kernel_rfl
theorem small13 {n:Nat} (hn:10000≤n):l13_small n=some true:=by
 obtain⟨k,rfl⟩:∃ k,n=k+10000:=⟨n - 10000,by omega⟩
 have s1:∀ x:GLot,sub ([x]:List GLot) 0 1=[x]:=fun _=>rfl
 have s2:sub ([4,2]:List Int) 0 2=[4,2]:=rfl
 have s3:sub ([1]:List Int) 0 1=[1]:=rfl
 have s4:sub ([2]:List Int) 0 1=[2]:=rfl
 have s5:sub ([1,2,4]:List Int) 0 3=[1,2,4]:=rfl
 have s6:∀ x y:GLot,sub ([x,y]:List GLot) 0 2=[x,y]:=fun _ _=>rfl
 have s7:∀ x y z:GLot,sub ([x,y,z]:List GLot) 0 3=[x,y,z]:=fun _ _ _=>rfl
 have s8:∀ x:GBox,sub ([x]:List GBox) 0 1=[x]:=fun _=>rfl
 have s9:∀ x:GEasement,sub ([x]:List GEasement) 0 1=[x]:=fun _=>rfl
 have e1:∀ x:Int,eqL ([x]:List Int).length 1=true:=fun _=>rfl
 have e2:∀ x y:Int,eqL ([x,y]:List Int).length 2=true:=fun _ _=>rfl
 have e3:∀ x y z:Int,eqL ([x,y,z]:List Int).length 3=true:=fun _ _ _=>rfl
 have e4:∀ x y:GLot,eqL ([x,y]:List GLot).length 2=true:=fun _ _=>rfl
 have e5:∀ x y z:GLot,eqL ([x,y,z]:List GLot).length 3=true:=fun _ _ _=>rfl
 have e6:∀ x:GBox,eqL ([x]:List GBox).length 1=true:=fun _=>rfl
 have e7:∀ x:GEasement,eqL ([x]:List GEasement).length 1=true:=fun _=>rfl
 have z0:((0:Int)==0)=true:=rfl
 have z1:((12:Int)==12)=true:=rfl
 unfold l13_small
 simp only[one13,bind_some,sub_all,eqL_self,cond_true]
 rw[pc_Add_eq (land:=[]) (lots_ok rfl) (by simp) ⟨by simp,by simp⟩ (by omega),sm1]
 simp only[bind_some,sub_all,eqL_self,cond_true]
 rw[pc_Add_eq (land:=[lotA]) (lots_ok rfl) (by simp) ⟨by simp,by simp⟩ (by omega),sm2]
 simp only[bind_some,sub_all,eqL_self,cond_true]
 rw[pc_Split_full (land:=[lotA,lotB]) (lots_ok rfl) (by simp) (by simp) (by omega),sm3]
 simp only[bind_some,sub_all,eqL_self,cond_true,s2,e2]
 rw[pc_Join_eq (land:=[lotB,lotC,lotD]) (lots_ok rfl) (by simp) (by simp) (by omega),sm4]
 simp only[bind_some,sub_all,eqL_self,cond_true]
 rw[pc_Split_full (land:=[lotA,lotB]) (lots_ok rfl) (by simp) (by simp) (by omega),sm5]
 simp only[bind_some,sub_all,eqL_self,cond_true,s3,s4,s5,s6,s7,s8,s9,e1,e2,e3,e4,e5,e6,e7,sm7,z0,z1,sm10,sm11]
 rw[pc_Near_eq (land:=[lotA,lotB]) (lots_ok rfl) (by simp) (by omega),sm6]
 simp only[bind_some,sub_all,eqL_self,cond_true,sm12,sm8,sm9]
 rfl
end Go.Proofs
namespace Go.Proofs
open Go.Gb Go.RowKit
def lineOk (u t:GLot):Prop:=(u.id=t.id∧u.area=t.area∧u.from_=t.from_)∨(t.id∈u.from_∧∀ x∈t.from_,x∈u.from_)
structure Did (l l':List GLot) (old:List Int) (lots:List GLot) (ow:GLot→Int):Prop where
 eq:l'=replaceL l old lots
 land:IsLand l'
 cells:∀ x y,(∃ u∈lots,cellsL u.area x y=true)↔∃ t∈l,t.id∈old∧cellsL t.area x y=true
 owner:∀ u∈lots,∀ t∈l,t.id∈old→∀ x y,cellsL u.area x y=true→cellsL t.area x y=true→u.owner=ow t
 line:∀ u∈lots,∀ t∈l,t.id∈old→∀ x y,cellsL u.area x y=true→cellsL t.area x y=true→lineOk u t
 fresh:∀ u∈lots,takenL l u.id=false∨∃ t∈l,t.id∈old∧u.id=t.id∧u.area=t.area∧u.from_=t.from_
 nums:∀ u∈lots,∀ x∈u.from_,takenL l x=true
 len:lots.length≤2
theorem cond_some {α:Type} {c:Bool} {e:Int} {r:List α×Int} {s:List α×Int} (he:e≠0) (h:(bif c then (([]:List α),e)else r)=s) (h0:s.2=0):c=false∧r=s:=by
 cases c with
 |true=>subst h;exact absurd h0 he
 |false=>exact⟨rfl,h⟩
end Go.Proofs
namespace Go.Proofs
open Go.Gb Go.RowKit
theorem r_Has_eq (r:GRect) (x y:Int):r_Has r x y=some (OkR r&&hasR r x y):=by
 unfold r_Has r_checked
 rw[r_Right_eq]
 simp only[bind_some]
 cases hr:OkR r with
 |true=>
  simp only[cond_true,bind_some,Bool.true_and,hasR,ge_iff_le]
  cases decide (r.x0≤x)<;>cases decide (x < r.x1)<;>cases decide (r.y0≤y)<;>rfl
 |false=>
  simp only[cond_false,bind_some,Bool.false_and,ge_iff_le]
  by_cases h:(0:Int)≤x
  ·have:decide (x < 0)=false:=by simp;omega
   simp[h,this]
  ·simp[h]
theorem rg_Has_eq {n:Nat} {a:List GRect} (x y:Int) (ha:a.length≤900) (hn:1000≤n):rg_Has n a x y=some (rightL a&&cellsL a x y):=by
 unfold rg_Has
 rw[sl_ContainsFunc_Rect_eq (fun r=>OkR r&&hasR r x y) (fun r _=>by show rg_Has_f1 r x y=_;unfold rg_Has_f1;rw[r_Has_eq];rfl) (by omega) (by omega),rg_Right_eq (by omega) (by omega) hn]
 simp only[bind_some]
 cases hr:rightL a with
 |false=>cases a.any fun r=>OkR r&&hasR r x y<;>rfl
 |true=>
  have e:(a.any fun r=>OkR r&&hasR r x y)=cellsL a x y:=by
   unfold cellsL hasR
   rw[Bool.eq_iff_iff,List.any_eq_true,List.any_eq_true]
   constructor
   ·rintro⟨r,h1,h2⟩
    rw[and_eq_true]at h2
    exact⟨r,h1,h2.2⟩
   ·rintro⟨r,h1,h2⟩
    exact⟨r,h1,by rw[(rightL_write hr).1 r h1,h2];rfl⟩
  rw[e]
  cases cellsL a x y<;>rfl
structure Good (k:Nat) (U:List Int) (l:List GLot):Prop where
 land:IsLand l
 len:l.length≤2*k
 used:Used U l
 ulen:U.length≤2*k
theorem Good.ok {k:Nat} {U:List Int} {l:List GLot} (h:Good k U l) (hk:k≤40):∀ t∈l,LotOk t:=fun t ht=>by
 have h1:=(rightL_write (h.land.areas t ht)).2.1
 have h2:=used_len h.used h.land ht
 have h3:=h.ulen
 exact⟨by omega,by omega⟩
theorem used_step {U:List Int} {l lots:List GLot} {old:List Int} (hu:Used U l) (hn:∀ u∈lots,∀ x∈u.from_,takenL l x=true):Used (lots.map (·.id)++U) (replaceL l old lots):=by
 intro t ht
 rcases replaceL_mem.1 ht with ⟨ht,_⟩ |ht
 ·have:=hu t ht
  exact⟨List.mem_append_right _ this.1,fun x hx=>List.mem_append_right _ (this.2 x hx)⟩
 ·refine⟨List.mem_append_left _ (mem_map.2 ⟨t,ht,rfl⟩),fun x hx=>List.mem_append_right _ ?_⟩
  obtain⟨w,hw,e⟩:=taken_true.1 (hn t ht x hx)
  rcases e with rfl |e
  ·exact (hu w hw).1
  ·exact (hu w hw).2 x e
theorem Good.step {k:Nat} {U:List Int} {l lots:List GLot} {old:List Int} (h:Good k U l) (hl:IsLand (replaceL l old lots)) (hn:∀ u∈lots,∀ x∈u.from_,takenL l x=true) (h2:lots.length≤2):Good (k+1) (lots.map (·.id)++U) (replaceL l old lots):=by
 refine⟨hl,?_,used_step h.used hn,?_⟩
 ·have:=replaceL_len l old lots
  have:=h.len
  omega
 ·rw[length_append,List.length_map]
  have:=h.ulen
  omega
theorem Good.mono {k:Nat} {U:List Int} {l:List GLot} (h:Good k U l):Good (k+1) U l:=⟨h.land,by have:=h.len;omega,h.used,by have:=h.ulen;omega⟩
end Go.Proofs
namespace Go.Proofs
open Go.Gb Go.RowKit
end Go.Proofs
namespace Go.Proofs
open Go.Gb Go.RowKit
theorem rg_Same_eq {n:Nat} {a b:List GRect} (hl:a.length < 1099511627776) (hn:a.length < n):rg_Same n a b=some (decide (a=b)):=by
 unfold rg_Same
 rw[sl_Equal_Rect_eq hl hn];rfl
end Go.Proofs
namespace Go.Proofs
open Go.Gb Go.RowKit
theorem rg_Union_eq {n:Nat} {a b:List GRect} (ha:a.length≤900) (hb:b.length≤900) (hn:1000≤n):rg_Union n a b=some (combineL (fun p q=>p || q) a b):=by
 unfold rg_Union
 rw[rg_combine_eq (keep:=fun p q=>p || q) (fun p q=>by show rg_Union_f1 p q=_;unfold rg_Union_f1;cases p<;>rfl) (by omega) (by omega) (by omega) (by omega) hn]
 rfl
end Go.Proofs
namespace Go.Proofs
open Go.Gb Go.RowKit
def zOf (l:List GSlab):List Int:=l.flatMap fun s=>[s.z0,s.z1]
def zsL (ls:List (List GSlab)):List Int:=setL (zOf ls.flatten)
theorem zOf_len (l:List GSlab):(zOf l).length=2*l.length:=by
 induction l with
 |nil=>rfl
 |cons s l ih=>
  have e:zOf (s::l)=[s.z0,s.z1]++zOf l:=rfl
  rw[e,length_append,ih];simp;omega
theorem zOf_app (a b:List GSlab):zOf (a++b)=zOf a++zOf b:=by simp[zOf]
theorem so_heights_s2_run {n:Nat} {l:List GSlab} (hl:l.length≤900) (hn:1000≤n) (b:List Int) (hb:b.length≤100000):iter (so_heights_s2 l) n ((0:Int),b)=some (b++zOf l):=by
 have:=iter_to (step:=so_heights_s2 l) (fun i=>(((i:Nat):Int),b++zOf (l.take i))) l.length (b++zOf l) (fun i hi=>?_) ?_ n (by omega)
 ·simpa[zOf]using this
 ·have hi':decide (((i:Nat):Int) < (l.length:Int))=true:=by simpa using hi
  have lt:=zOf_len (l.take i)
  rw[length_take]at lt
  have s1:(sub ([l[i].z0,l[i].z1]:List Int) 0 2)=[l[i].z0,l[i].z1]:=rfl
  have ap:appOk (b++zOf (l.take i)).length (b++zOf (l.take i)).length ([l[i].z0,l[i].z1]:List Int).length 2 8=true:=by
   refine appOk_true (n:=2) ?_ ?_
   ·rw[length_append];omega
   ·rw[length_append];simp only[maxLen];omega
  simp only[so_heights_s2,hi',cond_true,at_get hi,bind_some,s1,ap,letv_eq,eqL_self]
  rw[wrap_succ (by omega),List.take_succ_eq_append_getElem hi,zOf_app,append_assoc]
  rfl
 ·simp[so_heights_s2]
theorem so_heights_eq {n:Nat} {ls:List (List GSlab)} (h1:ls.length≤10) (h2:∀ l∈ls,l.length≤400) (hn:10000≤n):so_heights n ls=some (zsL ls):=by
 have fl:∀ ks:List (List GSlab),(∀ l∈ks,l.length≤400)→(zOf ks.flatten).length≤800*ks.length:=by
  intro ks
  induction ks with
  |nil=>simp[zOf]
  |cons k ks ih=>
   intro h
   have:=ih fun l hl=>h l (List.mem_cons_of_mem _ hl)
   have:=h k List.mem_cons_self
   rw[List.flatten_cons,zOf_app,length_append,zOf_len,List.length_cons]
   omega
 have run:iter (so_heights_s1 n ls) n ((0:Int),([]:List Int))=some (zOf ls.flatten):=by
  have:=iter_to (step:=so_heights_s1 n ls) (fun i=>(((i:Nat):Int),zOf (ls.take i).flatten)) ls.length (zOf ls.flatten) (fun i hi=>?_) ?_ n (by omega)
  ·simpa[zOf]using this
  ·have hi':decide (((i:Nat):Int) < (ls.length:Int))=true:=by simpa using hi
   have:=fl (ls.take i) fun l hl=>h2 l (List.mem_of_mem_take hl)
   rw[length_take]at this
   have h3:=h2 _ (List.getElem_mem hi)
   simp only[so_heights_s1,hi',cond_true,at_get hi,bind_some,eqL_self,so_heights_s2_run (n:=n) (l:=ls[i]) (by omega) (by omega) (zOf (ls.take i).flatten) (by omega)]
   rw[wrap_succ (by omega),List.take_succ_eq_append_getElem hi,List.flatten_append,zOf_app]
   simp
  ·simp[so_heights_s1]
 have hz:=fl ls h2
 unfold so_heights
 simp only[List.length_nil,eqL_self,cond_true,run,bind_some]
 rw[sl_Sort_int_eq (by omega) (by omega)]
 simp only[bind_some,length_isort,eqL_self,cond_true]
 rw[sl_Compact_int_eq (by rw[length_isort];omega) (by rw[length_isort];omega)]
 simp only[bind_some,sub_all,eqL_self,cond_true]
 rfl
def putL (out:List GSlab) (x:GSlab):List GSlab:=
 if x.area=[]then out else match out.getLast? with
 |some q=>if q.z1=x.z0∧q.area=x.area then out.dropLast++[⟨q.z0,x.z1,q.area⟩]else out++[x]
 |none=>[x]
theorem putL_len (out:List GSlab) (x:GSlab):(putL out x).length≤out.length+1:=by
 unfold putL
 split
 ·omega
 ·split
  ·split
   ·simp only[length_append,List.length_dropLast,List.length_singleton];omega
   ·simp
  ·simp
theorem so_put_eq {n:Nat} {out:List GSlab} {x:GSlab} (hl:out.length≤10000) (ha:∀ s∈out,s.area.length≤900) (hn:1000≤n):so_put n out x=some (putL out x,()):=by
 unfold so_put putL
 have z:∀ l:List GRect,(((l.length:Int))==0)=decide (l=[]):=fun l=>by cases l<;>simp<;>omega
 rw[z]
 by_cases hx:x.area=[]
 ·simp only[hx,decide_true,cond_true,sub_all,eqL_self,if_true]
 ·simp only[hx,decide_false,cond_false,if_false]
  have s1:(sub ([x]:List GSlab) 0 1)=[x]:=rfl
  have ap:appOk out.length out.length ([x]:List GSlab).length 1 40=true:=appOk_true (n:=1) (by omega) (by simp only[maxLen];omega)
  rcases List.eq_nil_or_concat out with rfl |⟨o,q,e⟩
  ·have w:i64.wrap (((0:Nat):Int) - 1)= -1:=by rw[wrap_id (by simp) (by simp)];simp
   have d:decide ((-1:Int)≥0)=false:=rfl
   simp only[List.length_nil]at ap
   simp only[w,d,cond_false,bind_some,s1,ap,cond_true,letv_eq,sub_all,eqL_self,List.length_nil,List.getLast?_nil,nil_append]
  ·rw[List.concat_eq_append]at e
   subst e
   have hq:=ha q (by simp)
   have lq:(o++[q]).length=o.length+1:=by simp
   have w:i64.wrap ((((o++[q]).length:Nat):Int) - 1)=((o.length:Nat):Int):=by rw[wrap_pred (by simp) (by omega),lq];rfl
   have d:decide (((o.length:Nat):Int)≥0)=true:=by simp
   have ib:inb ((o.length:Nat):Int) (o++[q]).length=true:=inb_get (by omega)
   have g:at? (o++[q]) (((0:Nat):Int)+((o.length:Nat):Int))=some q:=by rw[at_natz];simp
   have zz:(((0:Nat):Int)+((o.length:Nat):Int)).toNat=o.length:=by simp
   have st:(o++[q]).set o.length (GSlab.mk q.z0 x.z1 q.area)=o++[⟨q.z0,x.z1,q.area⟩]:=by simp
   have sb:sub (o++[(⟨q.z0,x.z1,q.area⟩:GSlab)]) 0 (o++[q]).length=o++[⟨q.z0,x.z1,q.area⟩]:=by
    rw[sub_take,List.take_of_length_le (by simp)]
   have el:eqL (o++[(⟨q.z0,x.z1,q.area⟩:GSlab)]).length (o++[q]).length=true:=by apply eqL_of;simp
   have gl:(o++[q]).getLast? =some q:=by simp
   have dl:(o++[q]).dropLast=o:=by simp
   simp only[w,d,cond_true,ib,g,bind_some,rg_Same_eq (n:=n) (a:=q.area) (b:=x.area) (by omega) (by omega),zz,st,sb,el,s1,ap,letv_eq,sub_all,eqL_self,gl,dl]
   by_cases h1:q.z1=x.z0
   ·by_cases h2:q.area=x.area
    ·simp[h1,h2]
    ·simp[h1,h2]
   ·have:(q.z1==x.z0)=false:=by simp[h1]
    simp[h1,this]
def badB (x:GSlab):Bool:=decide (x.z0 < 0) || (decide (x.z0≥x.z1) || (decide (x.z1>4096) || (decide (x.area=[]) || !rightL x.area)))
def badS (p:Option GSlab×GSlab):Bool:=badB p.2 || p.1.any fun q=>decide (q.z1>p.2.z0) || (q.z1==p.2.z0&&decide (q.area=p.2.area))
def prevsS (s:List GSlab):List (Option GSlab×GSlab):=(none::s.map some).zip s
def rightS (s:List GSlab):Bool:=decide (s.length≤80)&&!((prevsS s).any badS)
theorem prevsS_len (s:List GSlab):(prevsS s).length=s.length:=by simp[prevsS]
theorem prevsS_get {s:List GSlab} {i:Nat} (h:i < (prevsS s).length):(prevsS s)[i]=(if h0:i=0 then none else some (s[i - 1]'(by rw[prevsS_len]at h;omega)),s[i]'(by rw[prevsS_len]at h;exact h)):=by
 simp only[prevsS,List.getElem_zip,Prod.mk.injEq,and_true]
 cases i with
 |zero=>simp
 |succ i=>simp
theorem so_Right_eq {n:Nat} {s:List GSlab} (ha:∀ x∈s,x.area.length≤900) (hn:1000≤n):so_Right n s=some (rightS s):=by
 unfold so_Right rightS
 by_cases h80:s.length≤80
 ·have d:decide ((s.length:Int)>80)=false:=by simp;omega
  have d2:decide (s.length≤80)=true:=by simpa using h80
  have z:∀ l:List GRect,(((l.length:Int))==0)=decide (l=[]):=fun l=>by cases l<;>simp<;>omega
  have:=iter_find (l:=prevsS s) (step:=so_Right_s1 n s) (fun i=>((i:Nat):Int)) badS () (fun _=>false) (fun i hi=>?_) ?_ n (by rw[prevsS_len];omega)
  ·rw[show ((0:Nat):Int)=0 from rfl]at this
   rw[d,d2,this,← findL_any]
   cases findL badS (prevsS s)<;>rfl
  ·rw[prevsS_get]
   rw[prevsS_len]at hi
   have hi':decide (((i:Nat):Int) < (s.length:Int))=true:=by simpa using hi
   have h1:=ha _ (List.getElem_mem hi)
   simp only[so_Right_s1,hi',cond_true,at_get hi,bind_some,z,rg_Right_eq (n:=n) (l:=s[i].area) (by omega) (by omega) hn,badS]
   rw[wrap_succ (by omega)]
   have b:((bif decide (s[i].z0 < 0)then some true else bif decide (s[i].z0≥s[i].z1)then some true else bif decide (s[i].z1>4096)then some true else bif decide (s[i].area=[])then some true else some (!rightL s[i].area)):Option Bool)=some (badB s[i]):=by
    unfold badB
    cases decide (s[i].z0 < 0)<;>cases decide (s[i].z0≥s[i].z1)<;>cases decide (s[i].z1>4096)<;>cases decide (s[i].area=[])<;>rfl
   rw[b]
   simp only[bind_some]
   cases badB s[i]with
   |true=>simp[thenB]
   |false=>
    by_cases h0:i=0
    ·subst h0
     have:((((0:Nat):Int))==0)=true:=rfl
     simp only[this,cond_true,cond_false,thenB_inl,dif_pos,Option.any_none,Bool.or_false]
    ·have e0:(((i:Nat):Int)==0)=false:=by simp;omega
     have w:i64.wrap ((i:Int) - 1)=((i - 1:Nat):Int):=wrap_pred (by omega) (by omega)
     have h2:=ha _ (List.getElem_mem (show i - 1 < s.length by omega))
     simp only[e0,cond_false,w,at_get (show i - 1 < s.length by omega),bind_some,rg_Same_eq (n:=n) (a:=s[i - 1].area) (b:=s[i].area) (by omega) (by omega),h0,dif_neg,not_false_eq_true,Option.any_some,Bool.false_or]
     cases decide (s[i - 1].z1>s[i].z0)with
     |true=>simp[thenB]
     |false=>
      cases s[i - 1].z1==s[i].z0 with
      |false=>simp[thenB]
      |true=>cases decide (s[i - 1].area=s[i].area)<;>simp[thenB]
  ·rw[prevsS_len];simp[so_Right_s1]
 ·have d:decide ((s.length:Int)>80)=true:=by simp;omega
  have d2:decide (s.length≤80)=false:=by simpa using h80
  rw[d,d2];rfl
structure SlabOk (x:GSlab):Prop where
 lo:0≤x.z0
 lt:x.z0 < x.z1
 hi:x.z1≤4096
 ne:x.area≠[]
 rt:rightL x.area=true
def Nexts (s:List GSlab):Prop:=∀ i (h:i+1 < s.length),s[i].z1≤s[i+1].z0∧¬ (s[i].z1=s[i+1].z0∧s[i].area=s[i+1].area)
theorem badB_iff (x:GSlab):badB x=false↔SlabOk x:=by
 unfold badB
 simp only[Bool.or_eq_false_iff,decide_eq_false_iff_not,Bool.not_eq_false']
 constructor
 ·rintro⟨h1,h2,h3,h4,h5⟩;exact⟨by omega,by omega,by omega,h4,h5⟩
 ·rintro⟨h1,h2,h3,h4,h5⟩;exact⟨by omega,by omega,by omega,h4,h5⟩
theorem rightS_iff (s:List GSlab):rightS s=true↔s.length≤80∧(∀ x∈s,SlabOk x)∧Nexts s:=by
 unfold rightS
 rw[and_eq_true,decide_eq_true_eq,Bool.not_eq_true',List.any_eq_false]
 refine and_congr_right fun _=>?_
 constructor
 ·intro h
  have key:∀ i (hi:i < s.length),badS ((prevsS s)[i]'(by rw[prevsS_len];exact hi))=false:=fun i hi=>by
   have:=h _ (List.getElem_mem (show i < (prevsS s).length by rw[prevsS_len];exact hi))
   simpa using this
  refine⟨fun x hx=>?_,fun i hi=>?_⟩
  ·obtain⟨i,hi,rfl⟩:=List.mem_iff_getElem.1 hx
   have:=key i hi
   rw[prevsS_get]at this
   unfold badS at this
   rw[Bool.or_eq_false_iff]at this
   exact (badB_iff _).1 this.1
  ·have:=key (i+1) hi
   rw[prevsS_get]at this
   unfold badS at this
   rw[Bool.or_eq_false_iff]at this
   have h2:=this.2
   simp only[Nat.succ_ne_zero,dif_neg,not_false_eq_true,Option.any_some,Nat.add_sub_cancel,Bool.or_eq_false_iff,decide_eq_false_iff_not,Bool.and_eq_false_iff,beq_eq_false_iff_ne]at h2
   refine⟨by omega,fun⟨e1,e2⟩=>?_⟩
   rcases h2.2 with h3 |h3
   ·exact h3 e1
   ·exact h3 e2
 ·rintro⟨h1,h2⟩ p hp
  obtain⟨i,hi,rfl⟩:=List.mem_iff_getElem.1 hp
  rw[prevsS_get]
  rw[prevsS_len]at hi
  unfold badS
  have hb:=(badB_iff _).2 (h1 _ (List.getElem_mem hi))
  by_cases h0:i=0
  ·simp[h0]at hb ⊢;exact hb
  ·obtain⟨j,rfl⟩:∃ j,i=j+1:=⟨i - 1,by omega⟩
   obtain⟨n1,n2⟩:=h2 j hi
   simp only[Nat.succ_ne_zero,dif_neg,not_false_eq_true,Option.any_some,Nat.add_sub_cancel]
   rw[hb]
   simp only[Bool.false_or,Bool.or_eq_true,decide_eq_true_eq,and_eq_true,beq_iff_eq]
   rintro (h |h)
   ·omega
   ·exact n2 h
theorem nexts_snoc {s:List GSlab} {x:GSlab} (h:Nexts s) (hx:∀ q∈s.getLast?,q.z1≤x.z0∧¬ (q.z1=x.z0∧q.area=x.area)):Nexts (s++[x]):=by
 intro i hi
 rw[length_append,List.length_singleton]at hi
 by_cases hl:i+1 < s.length
 ·rw[List.getElem_append_left (by omega),List.getElem_append_left hl]
  exact h i hl
 ·have e:i+1=s.length:=by omega
  rw[List.getElem_append_left (by omega),List.getElem_append_right (by omega)]
  have:=hx s[i] (by rw[List.getLast?_eq_getElem?];simp[← e])
  simpa using this
theorem nexts_take {s:List GSlab} {x:GSlab} (h:Nexts (s++[x])):Nexts s∧∀ q∈s.getLast?,q.z1≤x.z0∧¬ (q.z1=x.z0∧q.area=x.area):=by
 refine⟨fun i hi=>?_,fun q hq=>?_⟩
 ·have:=h i (by rw[length_append];omega)
  rw[List.getElem_append_left (by omega),List.getElem_append_left hi]at this
  exact this
 ·rw[List.getLast?_eq_getElem?]at hq
  obtain⟨hl,rfl⟩:=List.getElem?_eq_some_iff.1 hq
  have:=h (s.length - 1) (by rw[length_append,List.length_singleton];omega)
  rw[List.getElem_append_left (by omega),List.getElem_append_right (by omega)]at this
  simpa using this
def badE (E:List GRect) (top:Int) (s:List GSlab):Prop:=∃ c∈s,c.z1>top∧meetL c.area E=true
theorem badE_app (E:List GRect) (top:Int) (a b:List GSlab):badE E top (a++b)↔badE E top a∨badE E top b:=by
 unfold badE
 constructor
 ·rintro⟨c,hc,h⟩
  rcases mem_append.1 hc with hc |hc
  ·exact .inl ⟨c,hc,h⟩
  ·exact .inr ⟨c,hc,h⟩
 ·rintro (⟨c,hc,h⟩ |⟨c,hc,h⟩)
  ·exact⟨c,List.mem_append_left _ hc,h⟩
  ·exact⟨c,List.mem_append_right _ hc,h⟩
theorem badE_one (E:List GRect) (top:Int) (x:GSlab):badE E top [x]↔x.z1>top∧meetL x.area E=true:=by
 unfold badE
 constructor
 ·rintro⟨c,hc,h⟩
  have:c=x:=by simpa using hc
  rw[← this];exact h
 ·intro h;exact⟨x,by simp,h⟩
theorem putL_spec {out:List GSlab} {x:GSlab} (h1:∀ s∈out,SlabOk s) (h2:Nexts out) (hx:x.area≠[]→SlabOk x) (hz:x.z0 < x.z1) (hq:∀ q∈out.getLast?,q.z1≤x.z0):
 (∀ s∈putL out x,SlabOk s)∧Nexts (putL out x)∧(∀ q∈(putL out x).getLast?,q.z1≤x.z1)∧∀ E top,badE E top (putL out x)↔badE E top out∨(x.z1>top∧meetL x.area E=true):=by
 unfold putL
 by_cases he:x.area=[]
 ·rw[if_pos he]
  refine⟨h1,h2,fun q h=>by have:=hq q h;omega,fun E top=>?_⟩
  have:meetL x.area E=false:=by rw[he];rfl
  rw[this]
  simp
 ·rw[if_neg he]
  have ok:=hx he
  rcases List.eq_nil_or_concat out with rfl |⟨o,q,e⟩
  ·refine⟨fun s hs=>by have:s=x:=by simpa using hs
                       rw[this];exact ok,fun i hi=>by simp at hi,fun q h=>by simp at h;subst h;exact Int.le_refl _,fun E top=>?_⟩
   show badE E top [x]↔_
   rw[badE_one]
   simp[badE]
  ·rw[List.concat_eq_append]at e
   subst e
   have gl:(o++[q]).getLast? =some q:=by simp
   have dl:(o++[q]).dropLast=o:=by simp
   have hqx:=hq q (by rw[gl];rfl)
   obtain⟨n1,n2⟩:=nexts_take h2
   have oq:=h1 q (by simp)
   simp only[gl,dl]
   by_cases hm:q.z1=x.z0∧q.area=x.area
   ·rw[if_pos hm]
    refine⟨fun s hs=>?_,nexts_snoc n1 fun p hp=>n2 p hp,fun p hp=>by simp at hp;subst hp;exact Int.le_refl _,fun E top=>?_⟩
    ·rcases mem_append.1 hs with hs |hs
     ·exact h1 s (List.mem_append_left _ hs)
     ·have:s=⟨q.z0,x.z1,q.area⟩:=by simpa using hs
      subst this
      exact⟨oq.lo,Int.lt_trans oq.lt (by show q.z1 < x.z1;rw[hm.1];exact hz),ok.hi,oq.ne,oq.rt⟩
    ·rw[badE_app,badE_app,badE_one,badE_one]
     simp only[hm.2]
     have:=hm.1
     constructor
     ·rintro (h |h)
      ·exact .inl (.inl h)
      ·exact .inr h
     ·rintro ((h |⟨h,h'⟩) |h)
      ·exact .inl h
      ·exact .inr ⟨by omega,h'⟩
      ·exact .inr h
   ·rw[if_neg hm]
    refine⟨fun s hs=>?_,nexts_snoc h2 fun p hp=>?_,fun p hp=>by simp at hp;subst hp;exact Int.le_refl _,fun E top=>?_⟩
    ·rcases mem_append.1 hs with hs |hs
     ·exact h1 s hs
     ·have:s=x:=by simpa using hs
      rw[this];exact ok
    ·rw[gl]at hp
     have:p=q:=by simpa using hp.symm
     subst this
     exact⟨hqx,hm⟩
    ·rw[badE_app,badE_one]
def atS (s:List GSlab) (z:Int):List GRect:=match s.find? fun x=>decide (x.z0≤z)&&decide (z < x.z1)with
 |some x=>x.area
 |none=>[]
theorem so_at_eq {n:Nat} {s:List GSlab} {z:Int} (hl:s.length≤900) (hn:1000≤n):so_at n s z=some (atS s z):=by
 unfold so_at
 have:=iter_find (l:=s) (step:=so_at_s1 s z) (fun i=>(i:Int)) (fun x=>decide (x.z0≤z)&&decide (z < x.z1)) () (fun i=>(s.getD i ⟨0,0,[]⟩).area) (fun i hi=>?_) (by simp[so_at_s1]) n (by omega)
 ·rw[show ((0:Nat):Int)=0 from rfl]at this
  rw[this]
  unfold atS
  rcases findL_find (fun x:GSlab=>decide (x.z0≤z)&&decide (z < x.z1)) s with ⟨i,hi,h1,h2⟩ |⟨h1,h2⟩
  ·rw[h1,h2];simp[hi]
  ·rw[h1,h2];rfl
 ·have hi':decide (((i:Nat):Int) < (s.length:Int))=true:=by simpa using hi
  simp only[so_at_s1,hi',cond_true,at_get hi,bind_some,bifand]
  cases decide (s[i].z0≤z)&&decide (z < s[i].z1)with
  |true=>simp[hi]
  |false=>simp only[cond_false];rw[wrap_succ (by omega)]
theorem atS_ok {s:List GSlab} (h:∀ x∈s,SlabOk x) (z:Int):rightL (atS s z)=true:=by
 unfold atS
 split
 ·rename_i x hx
  exact (h x (List.mem_of_find?_eq_some hx)).rt
 ·rfl
def uniA (a b:List GSlab) (z:Int):List GRect×Int:=combineL (fun p q=>p || q) (atS a z) (atS b z)
def uniP (a b:List GSlab) (p:Int×Int):GSlab:=⟨p.1,p.2,(uniA a b p.1).1⟩
theorem so_Union_spec {n:Nat} {a b:List GSlab} (ha:rightS a=true) (hb:rightS b=true) (hn:10000≤n):
 ∃ r,so_Union n a b=some r∧(r.2=0→r.1=((pairsL Prod.mk (zsL [a,b])).map (uniP a b)).foldl putL []∧r.1.length≤80∧∀ p∈pairsL Prod.mk (zsL [a,b]),(uniA a b p.1).2=0):=by
 obtain⟨la,oa,na⟩:=(rightS_iff a).1 ha
 obtain⟨lb,ob,nb⟩:=(rightS_iff b).1 hb
 have ra:∀ x∈a,x.area.length≤900:=fun x hx=>by have:=(rightL_write (oa x hx).rt).2.1;omega
 have rb:∀ x∈b,x.area.length≤900:=fun x hx=>by have:=(rightL_write (ob x hx).rt).2.1;omega
 have hz:(zsL [a,b]).length≤400:=by
  have h1:(zsL [a,b]).length≤_:=length_setL _
  rw[zOf_len]at h1
  simp only[List.flatten_cons,List.flatten_nil,List.append_nil,length_append]at h1
  omega
 unfold so_Union so_combine_v1
 have s2:(sub ([a,b]:List (List GSlab)) 0 2)=[a,b]:=rfl
 have q2:eqL ([a,b]:List (List GSlab)).length 2=true:=rfl
 rw[so_Right_eq ra (by omega),so_Right_eq rb (by omega),ha,hb]
 simp only[bind_some,Bool.not_true,cond_false,s2,q2,cond_true]
 rw[so_heights_eq (by simp) (fun l hl=>by
  have:l=a∨l=b:=by simpa using hl
  rcases this with rfl |rfl<;>omega) hn]
 generalize hZ:zsL [a,b]=zs at*
 simp only[bind_some,sub_all,eqL_self,cond_true,List.length_nil]
 obtain⟨p1,p2⟩:=pairsL_get (Prod.mk (α:=Int) (β:=Int)) zs
 have run:=iter_listI (l:=pairsL Prod.mk zs) (step:=so_combine_v1_s1 n a b zs) (fun i (s:List GSlab)=>(((i+1:Nat):Int),s)) (fun p s=>bif (uniA a b p.1).2 != 0 then .inr (.inr (([]:List GSlab),(uniA a b p.1).2))else .inl (putL s (uniP a b p))) (fun s=>(.inl s:(List GSlab) ⊕ ((List GSlab)×Int))) (fun i s=>s.length≤i∧∀ x∈s,x.area.length≤900)
  (fun i hi s hs=>?_) ?_ n (by omega) [] ⟨by simp,by simp⟩
 ·rw[show (((0+1:Nat)):Int)=1 from rfl]at run
  rw[run]
  have gen:∀ (ps:List (Int×Int)) (s:List GSlab),(∃ e,e≠0∧loopL (fun p s=>bif (uniA a b p.1).2 != 0 then .inr (.inr (([]:List GSlab),(uniA a b p.1).2))else .inl (putL s (uniP a b p))) (fun s=>(.inl s:(List GSlab) ⊕ ((List GSlab)×Int))) ps s= .inr ([],e))∨
   (loopL (fun p s=>bif (uniA a b p.1).2 != 0 then .inr (.inr (([]:List GSlab),(uniA a b p.1).2))else .inl (putL s (uniP a b p))) (fun s=>(.inl s:(List GSlab) ⊕ ((List GSlab)×Int))) ps s= .inl ((ps.map (uniP a b)).foldl putL s)∧∀ p∈ps,(uniA a b p.1).2=0):=by
   intro ps
   induction ps with
   |nil=>intro s;exact .inr ⟨rfl,by simp⟩
   |cons p ps ih=>
    intro s
    simp only[loopL]
    by_cases h0:(uniA a b p.1).2=0
    ·have:((uniA a b p.1).2 != 0)=false:=by simp[h0]
     simp only[this,cond_false]
     rcases ih (putL s (uniP a b p))with h |⟨h1,h2⟩
     ·exact .inl h
     ·refine .inr ⟨h1,fun q hq=>?_⟩
      rcases mem_cons.1 hq with rfl |hq
      ·exact h0
      ·exact h2 q hq
    ·have:((uniA a b p.1).2 != 0)=true:=by simp[h0]
     simp only[this,cond_true]
     exact .inl ⟨_,h0,rfl⟩
  rcases gen (pairsL Prod.mk zs) []with ⟨e,he,h⟩ |⟨h1,h2⟩
  ·rw[h]
   exact⟨([],e),rfl,fun h0=>absurd h0 he⟩
  ·rw[h1]
   simp only[thenB_inl,sub_all,eqL_self,cond_true]
   unfold so_fits
   by_cases h8:(((pairsL Prod.mk zs).map (uniP a b)).foldl putL []).length≤80
   ·have d:decide (((((pairsL Prod.mk zs).map (uniP a b)).foldl putL []).length:Int)>80)=false:=by simp;omega
    simp only[d,cond_false,bind_some]
    exact⟨_,rfl,fun _=>⟨rfl,h8,h2⟩⟩
   ·have d:decide (((((pairsL Prod.mk zs).map (uniP a b)).foldl putL []).length:Int)>80)=true:=by simp;omega
    simp only[d,cond_true,bind_some]
    exact⟨_,rfl,fun e=>by cases e⟩
 ·obtain⟨hs1,hs2⟩:=hs
  have hi2:i+1 < zs.length:=by omega
  have g:(pairsL Prod.mk zs)[i]=(zs[i],zs[i+1]):=p2 i hi2 hi
  have c:decide (((i+1:Nat):Int) < (zs.length:Int))=true:=by simp;omega
  have w:i64.wrap (((i+1:Nat):Int) - 1)=((i:Nat):Int):=by rw[wrap_pred (by omega) (by omega)];rfl
  have u1:=(rightL_write (atS_ok oa zs[i])).2.1
  have u2:=(rightL_write (atS_ok ob zs[i])).2.1
  have lu:(uniA a b zs[i]).1.length≤200:=combineL_len _ _
  have un:rg_Union n (atS a zs[i]) (atS b zs[i])=some (uniA a b zs[i]):=rg_Union_eq (by omega) (by omega) (by omega)
  rw[g]
  simp only[so_combine_v1_s1,sub_all,c,cond_true,w,at_get (show i < zs.length by omega),at_get hi2,bind_some,so_at_eq (n:=n) (s:=a) (z:=zs[i]) (by omega) (by omega),so_at_eq (n:=n) (s:=b) (z:=zs[i]) (by omega) (by omega),un,eqL_self,so_put_eq (n:=n) (out:=s) (x:=GSlab.mk zs[i] zs[i+1] (uniA a b zs[i]).1) (by omega) hs2 (by omega)]
  rw[wrap_succ (by omega)]
  cases (uniA a b zs[i]).2 != 0 with
  |true=>exact⟨rfl,fun s' e=>by cases e⟩
  |false=>
   refine⟨rfl,fun s' e=>?_⟩
   injection e with e
   subst e
   refine⟨by have:=putL_len s (uniP a b (zs[i],zs[i+1]));omega,fun x hx=>?_⟩
   unfold putL uniP at hx
   split at hx
   ·exact hs2 x hx
   ·split at hx
    ·rename_i q hq
     split at hx
     ·rcases mem_append.1 hx with hx |hx
      ·exact hs2 x ((List.dropLast_sublist s).subset hx)
      ·have:x=⟨q.z0,zs[i+1],q.area⟩:=by simpa using hx
       subst this
       exact hs2 q (List.mem_of_getLast? hq)
     ·rcases mem_append.1 hx with hx |hx
      ·exact hs2 x hx
      ·have:x=⟨zs[i],zs[i+1],(uniA a b zs[i]).1⟩:=by simpa using hx
       subst this
       show (uniA a b zs[i]).1.length≤900
       omega
    ·have:x=⟨zs[i],zs[i+1],(uniA a b zs[i]).1⟩:=by simpa using hx
     subst this
     show (uniA a b zs[i]).1.length≤900
     omega
 ·intro s _
  have c:decide ((((pairsL Prod.mk zs).length+1:Nat):Int) < (zs.length:Int))=false:=by simp;omega
  simp only[so_combine_v1_s1,sub_all,c,cond_false,eqL_self,cond_true]
theorem fold_put:∀ (ps out:List GSlab),(∀ s∈out,SlabOk s)→Nexts out→(∀ x∈ps,x.z0 < x.z1∧(x.area≠[]→SlabOk x))→ps.Pairwise (fun x y=>x.z1≤y.z0)→(∀ q∈out.getLast?,∀ x∈ps,q.z1≤x.z0)→
 (∀ s∈ps.foldl putL out,SlabOk s)∧Nexts (ps.foldl putL out)∧∀ E top,badE E top (ps.foldl putL out)↔badE E top out∨∃ x∈ps,x.z1>top∧meetL x.area E=true
 |[],out,h1,h2,_,_,_=>⟨h1,h2,fun E top=>by simp⟩
 |x::ps,out,h1,h2,h3,h4,h5=>by
  have hx:=h3 x List.mem_cons_self
  obtain⟨a1,a2,a3,a4⟩:=putL_spec h1 h2 hx.2 hx.1 fun q hq=>h5 q hq x List.mem_cons_self
  rw[List.pairwise_cons]at h4
  obtain⟨b1,b2,b3⟩:=fold_put ps (putL out x) a1 a2 (fun y hy=>h3 y (List.mem_cons_of_mem _ hy)) h4.2 fun q hq y hy=>Int.le_trans (a3 q hq) (h4.1 y hy)
  refine⟨b1,b2,fun E top=>?_⟩
  rw[List.foldl_cons,b3,a4]
  constructor
  ·rintro ((h |h) |⟨y,hy,h⟩)
   ·exact .inl h
   ·exact .inr ⟨x,List.mem_cons_self,h⟩
   ·exact .inr ⟨y,List.mem_cons_of_mem _ hy,h⟩
  ·rintro (h |⟨y,hy,h⟩)
   ·exact .inl (.inl h)
   ·rcases mem_cons.1 hy with rfl |hy
    ·exact .inl (.inr h)
    ·exact .inr ⟨y,hy,h⟩
end Go.Proofs
namespace Go.Proofs
open Go.Gb Go.RowKit
theorem sl_ContainsFunc_Slab_eq {n:Nat} {l:List GSlab} {φ:(GSlab×Unit)→Option Bool} (p:GSlab→Bool) (h:∀ x∈l,φ (x,())=some (p x)) (hl:l.length < 1099511627776) (hn:l.length < n):sl_ContainsFunc_Slab n l φ=some (l.any p):=by
 unfold sl_ContainsFunc_Slab sl_IndexFunc_Slab
 have:=iter_find (l:=l) (step:=sl_IndexFunc_Slab_s1 l φ) (fun i=>((i:Nat):Int)) p () (fun i=>((i:Nat):Int)) (fun i hi=>?_) (by simp[sl_IndexFunc_Slab_s1]) n hn
 ·rw[show ((0:Nat):Int)=0 from rfl]at this
  rw[this,← findL_any]
  cases findL p l with
  |none=>rfl
  |some i=>simp<;>omega
 ·have hi':decide (((i:Nat):Int) < (l.length:Int))=true:=by simpa using hi
  simp only[sl_IndexFunc_Slab_s1,hi',cond_true,at_get hi,bind_some,h _ (List.getElem_mem hi)]
  rw[wrap_succ (by omega)]
  cases p l[i]<;>rfl
def offB (s:List GSlab) (lot:Int) (e:GEasement):Bool:=e.lot==lot&&(rightL e.area&&s.any fun c=>decide (c.z1>e.top)&&meetL c.area e.area)
def respL (l:List GEasement) (lot:Int) (s:List GSlab):Bool:=rightS s&&!(l.any (offB s lot))
theorem pc_Respect_eq {n:Nat} {l:List GEasement} {lot:Int} {s:List GSlab} (hl:l.length≤900) (he:∀ e∈l,e.area.length≤900) (ha:∀ x∈s,x.area.length≤900) (hn:1000≤n):pc_Respect n l lot s=some (respL l lot s):=by
 unfold pc_Respect respL
 rw[so_Right_eq ha hn]
 simp only[bind_some]
 cases hr:rightS s with
 |false=>rfl
 |true=>
 have l80:=((rightS_iff s).1 hr).1
 have:=iter_find (l:=l) (step:=pc_Respect_s1 n l lot s) (fun i=>((i:Nat):Int)) (offB s lot) () (fun _=>false) (fun i hi=>?_) (by simp[pc_Respect_s1]) n (by omega)
 ·rw[show ((0:Nat):Int)=0 from rfl]at this
  simp only[Bool.not_true,cond_false]
  rw[this,← findL_any]
  cases findL (offB s lot) l<;>rfl
 ·have hi':decide (((i:Nat):Int) < (l.length:Int))=true:=by simpa using hi
  have h1:=he _ (List.getElem_mem hi)
  have cf:=sl_ContainsFunc_Slab_eq (n:=n) (l:=s) (φ:=fun y:GSlab×Unit=>pc_Respect_f1 n y.1 l[i]) (fun c=>decide (c.z1>l[i].top)&&meetL c.area l[i].area) (fun c hc=>by
   have:=ha c hc
   show pc_Respect_f1 n c l[i]=_
   unfold pc_Respect_f1
   rw[pc_meet_eq (by omega) (by omega) (by omega) (by omega)]
   cases decide (c.z1>l[i].top)<;>rfl) (by omega) (by omega)
  simp only[pc_Respect_s1,hi',cond_true,at_get hi,bind_some,rg_Right_eq (n:=n) (l:=l[i].area) (by omega) (by omega) hn,cf]
  rw[wrap_succ (by omega)]
  unfold offB
  cases h2:l[i].lot==lot with
  |false=>
   have:(l[i].lot != lot)=true:=by simp[bne,h2]
   simp[this,thenB]
  |true=>
   have:(l[i].lot != lot)=false:=by simp[bne,h2]
   simp only[this,cond_false,bind_some]
   cases rightL l[i].area with
   |false=>simp[thenB]
   |true=>cases s.any fun c=>decide (c.z1>l[i].top)&&meetL c.area l[i].area<;>simp[thenB]
theorem offB_iff (s:List GSlab) (lot:Int) (e:GEasement):offB s lot e=true↔e.lot=lot∧rightL e.area=true∧badE e.area e.top s:=by
 unfold offB badE
 rw[and_eq_true,and_eq_true,beq_iff_eq,List.any_eq_true]
 simp only[and_eq_true,decide_eq_true_eq]
def cubeR (p:GPoint3):GRect:=⟨p.x,p.y,p.x+1,p.y+1⟩
def cube (p:GPoint3):List GSlab:=[⟨p.z,p.z+1,[cubeR p]⟩]
def cubeOk (p:GPoint3):Prop:=(0≤p.x∧p.x < 1048576)∧(0≤p.y∧p.y < 1048576)∧(0≤p.z∧p.z < 4096)
def boxG3 (p:GPoint3):GBox:=GBox.mk p.x p.y (i64.wrap (p.x+1)) (i64.wrap (p.y+1)) p.z (i64.wrap (p.z+1))
theorem right_one {r:GRect} (h:OkR r=true):ofL [r]=([r],0):=by
 have hx:=okR_x h
 have hy:=okR_y h
 have e1:edgesL [r]=[r.x0,r.x1]:=by
  unfold edgesL
  refine (setL_unique (List.Pairwise.cons (by simpa using hx) (List.pairwise_singleton _ _)) fun z=>?_).symm
  simp
 have e2:columnL [r] r.x0=[⟨r.y0,r.y1⟩]:=by
  unfold columnL spansAt
  have:(decide (r.x0≤r.x0)&&decide (r.x0 < r.x1))=true:=by simp[hx]
  simp only[List.filter_cons,this,if_true,List.filter_nil,map_cons,List.map_nil]
  rfl
 have e3:writeL (stripsL [r])=[r]:=by
  unfold stripsL
  rw[e1]
  simp only[pairsL,e2,writeL,wrGo,rectsL,map_cons,List.map_nil]
 unfold ofL
 rw[e3]
 have:([r].all OkR)=true:=by simpa using h
 rw[this]
 simp
theorem cube_right {p:GPoint3} (h:cubeOk p):OkR (cubeR p)=true:=by
 obtain⟨h1,h2,h3⟩:=h
 have e:OkR (cubeR p)=(decide (0≤p.x)&&(decide (p.x < p.x+1)&&(decide (p.x+1≤1048576)&&(decide (0≤p.y)&&(decide (p.y < p.y+1)&&decide (p.y+1≤1048576)))))):=rfl
 rw[e]
 simp only[and_eq_true,decide_eq_true_eq]
 exact⟨by omega,by omega,by omega,by omega,by omega,by omega⟩
theorem rightL_one {r:GRect} (h:OkR r=true):rightL [r]=true:=by
 unfold rightL
 rw[right_one h];simp
theorem cube_ok {p:GPoint3} (h:cubeOk p):SlabOk ⟨p.z,p.z+1,[cubeR p]⟩:=by
 have:=h.2.2
 exact⟨by show 0≤p.z;omega,by show p.z < p.z+1;omega,by show p.z+1≤4096;omega,by simp,rightL_one (cube_right h)⟩
theorem cube_rightS {p:GPoint3} (h:cubeOk p):rightS (cube p)=true:=by
 rw[rightS_iff]
 refine⟨by simp[cube],fun x hx=>?_,fun i hi=>by simp[cube]at hi⟩
 have:x=⟨p.z,p.z+1,[cubeR p]⟩:=by simpa[cube]using hx
 rw[this];exact cube_ok h
theorem so_Of_cube {n:Nat} (p:GPoint3) (hn:10000≤n):(cubeOk p∧so_Of n [boxG3 p]=some (cube p,0))∨so_Of n [boxG3 p]=some ([],1):=by
 have l1:decide (((0:Nat):Int) < ((([boxG3 p]:List GBox).length:Nat):Int))=true:=rfl
 have l2:decide (((1:Nat):Int) < ((([boxG3 p]:List GBox).length:Nat):Int))=false:=rfl
 have g:at? [boxG3 p] ((0:Nat):Int)=some (boxG3 p):=rfl
 have w0:i64.wrap (((0:Nat):Int)+1)=((1:Nat):Int):=by rw[wrap_succ (by omega)]
 have chk:∃ b,((r_Right (GRect.mk (boxG3 p).base_x0 (boxG3 p).base_y0 (boxG3 p).base_x1 (boxG3 p).base_y1)).bind fun r1=>(bif (!r1)then some true else (bif (decide ((boxG3 p).z0 < (0:Int)))then some true else (bif (decide ((boxG3 p).z0≥((boxG3 p).z1:Int)))then some true else some (decide ((boxG3 p).z1>(4096:Int)))))))=some b∧(b=false→cubeOk p∧boxG3 p=GBox.mk p.x p.y (p.x+1) (p.y+1) p.z (p.z+1)):=by
  rw[r_Right_eq]
  simp only[bind_some]
  cases hr:OkR (GRect.mk (boxG3 p).base_x0 (boxG3 p).base_y0 (boxG3 p).base_x1 (boxG3 p).base_y1)with
  |false=>exact⟨true,rfl,fun h=>by cases h⟩
  |true=>
   simp only[Bool.not_true,cond_false]
   by_cases d1:(boxG3 p).z0 < 0
   ·exact⟨true,by simp[d1],fun h=>by cases h⟩
   by_cases d2:(boxG3 p).z0≥(boxG3 p).z1
   ·exact⟨true,by simp[d1,d2],fun h=>by cases h⟩
   by_cases d3:(boxG3 p).z1>4096
   ·exact⟨true,by simp[d1,d2,d3],fun h=>by cases h⟩
   refine⟨false,by simp[d1,d2,d3],fun _=>?_⟩
   simp only[OkR,boxG3,and_eq_true,decide_eq_true_eq,IntKind.wrap_i64]at hr d1 d2 d3
   have hx:(p.x+1+9223372036854775808)%18446744073709551616 - 9223372036854775808=p.x+1:=by omega
   have hy:(p.y+1+9223372036854775808)%18446744073709551616 - 9223372036854775808=p.y+1:=by omega
   have hz:(p.z+1+9223372036854775808)%18446744073709551616 - 9223372036854775808=p.z+1:=by omega
   refine⟨⟨by omega,by omega,by omega⟩,?_⟩
   unfold boxG3
   rw[wrap_id (x:=p.x+1) (by omega) (by omega),wrap_id (x:=p.y+1) (by omega) (by omega),wrap_id (x:=p.z+1) (by omega) (by omega)]
 obtain⟨b,hb,hok⟩:=chk
 unfold so_Of
 obtain⟨m,rfl⟩:∃ m,n=m+2:=⟨n - 2,by omega⟩
 cases b with
 |true=>
  right
  have st:so_Of_s1 [boxG3 p] ((0:Int),([]:List GSlab))=some (.inr (.inr (([]:List GSlab),(1:Int)))):=by
   simp only[so_Of_s1,show ((0:Int))=((0:Nat):Int)from rfl,l1,cond_true,g,bind_some]
   rw[show ((((0:Nat):Int)))=(0:Int)from rfl,hb]
   rfl
  simp only[List.length_nil,eqL_self,cond_true]
  rw[iter_inr st]
  rfl
 |false=>
  left
  obtain⟨hc,hbox⟩:=hok rfl
  refine⟨hc,?_⟩
  have s1:(sub ([(GSlab.mk (boxG3 p).z0 (boxG3 p).z1 ([]))]:List GSlab) 0 1)=[GSlab.mk (boxG3 p).z0 (boxG3 p).z1 []]:=rfl
  have ap:appOk ([]:List GSlab).length ([]:List GSlab).length ([GSlab.mk (boxG3 p).z0 (boxG3 p).z1 []]:List GSlab).length 1 40=true:=appOk_true (n:=1) (by simp) (by simp[maxLen])
  have st:so_Of_s1 [boxG3 p] ((0:Int),([]:List GSlab))=some (.inl (((1:Nat):Int),[GSlab.mk (boxG3 p).z0 (boxG3 p).z1 []])):=by
   have l1':decide ((0:Int) < ((([boxG3 p]:List GBox).length:Nat):Int))=true:=rfl
   have g':at? [boxG3 p] (0:Int)=some (boxG3 p):=rfl
   have w0':i64.wrap ((0:Int)+1)=((1:Nat):Int):=w0
   simp only[so_Of_s1,l1',cond_true,g',bind_some]
   rw[hb]
   simp only[bind_some,cond_false,s1,ap,cond_true,letv_eq,eqL_self,w0']
   rfl
  have st2:so_Of_s1 [boxG3 p] (((1:Nat):Int),[GSlab.mk (boxG3 p).z0 (boxG3 p).z1 []])=some (.inr (.inl [GSlab.mk (boxG3 p).z0 (boxG3 p).z1 []])):=by
   simp only[so_Of_s1,l2,cond_false,eqL_self,cond_true]
  have d200:decide ((([boxG3 p]:List GBox).length:Int)>200)=false:=rfl
  have s3:∀ x:List GSlab,(sub ([x]:List (List GSlab)) 0 1)=[x]:=fun _=>rfl
  have q3:∀ x:List GSlab,eqL ([x]:List (List GSlab)).length 1=true:=fun _=>rfl
  have zz:zsL [[GSlab.mk (boxG3 p).z0 (boxG3 p).z1 []]]=[p.z,p.z+1]:=by
   rw[hbox]
   unfold zsL
   refine (setL_unique (List.Pairwise.cons (by simp;omega) (List.pairwise_singleton _ _)) fun z=>?_).symm
   simp[zOf]
  have base:GRect.mk (boxG3 p).base_x0 (boxG3 p).base_y0 (boxG3 p).base_x1 (boxG3 p).base_y1=cubeR p:=by rw[hbox];rfl
  have bz0:(boxG3 p).z0=p.z:=by rw[hbox]
  have bz1:(boxG3 p).z1=p.z+1:=by rw[hbox]
  have g1:at? [p.z,p.z+1] (((0:Nat):Int)+1)=some (p.z+1):=rfl
  have g0:at? [p.z,p.z+1] (((0:Nat):Int)+0)=some p.z:=rfl
  have i1:inb 1 [p.z,p.z+1].length=true:=rfl
  have i0:inb 0 [p.z,p.z+1].length=true:=rfl
  have w1:i64.wrap (1 - 1)=0:=by rw[wrap_id (by omega) (by omega)];rfl
  have w2:i64.wrap (1+1)=2:=by rw[wrap_id (by omega) (by omega)];rfl
  have c1:decide (p.z < p.z+1)=true:=decide_eq_true (by omega)
  have it3:iter (so_Of_s3 [boxG3 p] [p.z,p.z+1] 1) (m+2) ((0:Int),([]:List GRect))=some [cubeR p]:=by
   have l1':decide ((0:Int) < ((([boxG3 p]:List GBox).length:Nat):Int))=true:=rfl
   have g':at? [boxG3 p] (0:Int)=some (boxG3 p):=rfl
   have w0':i64.wrap ((0:Int)+1)=((1:Nat):Int):=w0
   have s4:(sub ([cubeR p]:List GRect) 0 1)=[cubeR p]:=rfl
   have ap2:appOk ([]:List GRect).length ([]:List GRect).length ([cubeR p]:List GRect).length 1 32=true:=appOk_true (n:=1) (by simp) (by simp[maxLen])
   have a:so_Of_s3 [boxG3 p] [p.z,p.z+1] 1 ((0:Int),([]:List GRect))=some (.inl (((1:Nat):Int),[cubeR p])):=by
    simp only[so_Of_s3,l1',cond_true,g',bind_some,i1,g1,w1,i0,g0,bz0,bz1,c1,base,s4,ap2,letv_eq,eqL_self,w0']
    rfl
   have b:so_Of_s3 [boxG3 p] [p.z,p.z+1] 1 (((1:Nat):Int),[cubeR p])=some (.inr [cubeR p]):=by
    simp only[so_Of_s3,l2,cond_false,eqL_self,cond_true]
   rw[iter_inl a,iter_inr b]
  have pt:so_put (m+2) [] (GSlab.mk p.z (p.z+1) [cubeR p])=some (cube p,()):=by
   rw[so_put_eq (by simp) (by simp) (by omega)]
   simp[putL,cube]
  have z0:((0:Int) != 0)=false:=rfl
  have st3:so_Of_s2 (m+2) [boxG3 p] [p.z,p.z+1] ((1:Int),([]:List GSlab))=some (.inl ((2:Int),cube p)):=by
   have d:decide ((1:Int) < (([p.z,p.z+1].length:Nat):Int))=true:=rfl
   simp only[so_Of_s2,d,cond_true,List.length_nil,eqL_self,it3,bind_some,sub_all]
   rw[rg_Of_eq (by simp) (by simp) (by omega),right_one (cube_right hc)]
   simp only[bind_some,z0,cond_false,w1,i0,i1,g0,g1,cond_true,pt,w2,eqL_self]
  have st4:so_Of_s2 (m+2) [boxG3 p] [p.z,p.z+1] ((2:Int),cube p)=some (.inr (.inl (cube p))):=by
   have d:decide ((2:Int) < (([p.z,p.z+1].length:Nat):Int))=false:=rfl
   simp only[so_Of_s2,d,cond_false,eqL_self,cond_true]
  have ft:so_fits (cube p)=some (cube p,0):=rfl
  simp only[List.length_nil,eqL_self,cond_true]
  rw[iter_inl st,iter_inr st2]
  simp only[thenB_inl,d200,cond_false,sub_all,eqL_self,cond_true,s3,q3]
  rw[so_heights_eq (by simp) (by simp) hn,zz]
  simp only[bind_some]
  rw[iter_inl st3,iter_inr st4]
  simp only[thenB_inl,sub_all,eqL_self,cond_true,ft,bind_some]
theorem meet_cell {p:GPoint3} (E:List GRect):meetL [cubeR p] E=cellsL E p.x p.y:=by
 rw[Bool.eq_iff_iff,meetL_cells]
 have c:∀ x y,cellsL [cubeR p] x y=true↔x=p.x∧y=p.y:=by
  intro x y
  simp only[cellsL,cubeR,List.any_cons,List.any_nil,Bool.or_false,and_eq_true,decide_eq_true_eq]
  omega
 constructor
 ·rintro⟨x,y,h1,h2⟩
  obtain⟨rfl,rfl⟩:=(c x y).1 h1
  exact h2
 ·intro h
  exact⟨p.x,p.y,(c _ _).2 ⟨rfl,rfl⟩,h⟩
def wantB (lot:Int) (p:GPoint3) (e:GEasement):Bool:=e.lot != lot || (decide (p.z < e.top) || !(rightL e.area&&cellsL e.area p.x p.y))
theorem resp_cube {l:List GEasement} {lot:Int} {p:GPoint3} (h:cubeOk p):respL l lot (cube p)=l.all (wantB lot p):=by
 unfold respL
 rw[cube_rightS h,Bool.true_and,Bool.eq_iff_iff,Bool.not_eq_true',List.any_eq_false,all_eq_true]
 refine forall_congr' fun e=>forall_congr' fun _=>?_
 rw[offB_iff]
 unfold cube wantB
 rw[badE_one,meet_cell]
 simp only[Bool.or_eq_true,bne_iff_ne,decide_eq_true_eq,Bool.not_eq_true',Bool.and_eq_false_iff]
 constructor
 ·intro hh
  by_cases h1:e.lot=lot
  ·right
   by_cases h2:p.z < e.top
   ·exact .inl h2
   ·right
    cases h3:rightL e.area with
    |false=>exact .inl rfl
    |true=>
     right
     rw[Bool.eq_false_iff]
     intro h4
     exact hh ⟨h1,h3,by omega,h4⟩
  ·exact .inl h1
 ·rintro (h1 |h1 |h1 |h1) ⟨a,b,c,d⟩
  ·exact h1 a
  ·omega
  ·rw[h1]at b;cases b
  ·rw[h1]at d;cases d
theorem atS_cube (p:GPoint3) (z:Int):atS (cube p) z=if z=p.z then [cubeR p]else []:=by
 unfold atS cube
 by_cases h:z=p.z
 ·subst h
  have:(decide (p.z≤p.z)&&decide (p.z < p.z+1))=true:=by simp;omega
  simp only[List.find?_cons,this,if_true]
 ·have:(decide (p.z≤z)&&decide (z < p.z+1))=false:=by
   rw[Bool.eq_false_iff]
   intro e
   rw[and_eq_true,decide_eq_true_eq,decide_eq_true_eq]at e
   omega
  simp only[List.find?_cons,this,List.find?_nil,h,if_false]
theorem pairs_mem (zs:List Int) (h:zs.Pairwise (· < ·)):(∀ p∈pairsL Prod.mk zs,p.1 < p.2∧p.1∈zs∧p.2∈zs∧∀ e∈zs,e≤p.1∨p.2≤e)∧(pairsL Prod.mk zs).Pairwise (fun x y=>x.2≤y.1)∧∀ a∈zs,∀ b∈zs,a < b→∃ c,(a,c)∈pairsL Prod.mk zs:=by
 rw[List.pairwise_iff_getElem]at h
 obtain⟨p1,p2⟩:=pairsL_get (Prod.mk (α:=Int) (β:=Int)) zs
 refine⟨fun p hp=>?_,?_,fun a ha b hb hab=>?_⟩
 ·obtain⟨i,hi,rfl⟩:=List.mem_iff_getElem.1 hp
  have hi2:i+1 < zs.length:=by omega
  rw[p2 i hi2 hi]
  refine⟨h i (i+1) (by omega) hi2 (by omega),List.getElem_mem _,List.getElem_mem _,fun e he=>?_⟩
  obtain⟨j,hj,rfl⟩:=List.mem_iff_getElem.1 he
  rcases Nat.lt_or_ge i j with c |c
  ·right
   rcases Nat.eq_or_lt_of_le (show i+1≤j by omega)with e |e
   ·subst e;exact Int.le_refl _
   ·exact Int.le_of_lt (h (i+1) j hi2 hj e)
  ·left
   rcases Nat.eq_or_lt_of_le c with e |e
   ·subst e;exact Int.le_refl _
   ·exact Int.le_of_lt (h j i hj (by omega) e)
 ·rw[List.pairwise_iff_getElem]
  intro i j hi hj hij
  rw[p2 i (by omega) hi,p2 j (by omega) hj]
  show zs[i+1]≤zs[j]
  rcases Nat.eq_or_lt_of_le (show i+1≤j by omega)with e |e
  ·subst e;exact Int.le_refl _
  ·exact Int.le_of_lt (h (i+1) j (by omega) (by omega) e)
 ·obtain⟨i,hi,rfl⟩:=List.mem_iff_getElem.1 ha
  obtain⟨j,hj,rfl⟩:=List.mem_iff_getElem.1 hb
  have hij:i < j:=by
   rcases Nat.lt_or_ge i j with c |c
   ·exact c
   ·rcases Nat.eq_or_lt_of_le c with e |e
    ·subst e;omega
    ·have:=h j i hj hi e;omega
  refine⟨zs[i+1]'(by omega),?_⟩
  rw[List.mem_iff_getElem]
  exact⟨i,by omega,p2 i (by omega) (by omega)⟩
theorem union_resp {p q:GPoint3} (hp:cubeOk p) (hq:cubeOk q) {r:List GSlab} (hr:r=((pairsL Prod.mk (zsL [cube p,cube q])).map (uniP (cube p) (cube q))).foldl putL []) (h80:r.length≤80) (h0:∀ w∈pairsL Prod.mk (zsL [cube p,cube q]),(uniA (cube p) (cube q) w.1).2=0) (l:List GEasement) (lot:Int):
 (∀ x∈r,x.area.length≤900)∧respL l lot r=(respL l lot (cube p)&&respL l lot (cube q)):=by
 have memz:∀ z,z∈zsL [cube p,cube q]↔(z=p.z∨z=p.z+1)∨(z=q.z∨z=q.z+1):=by
  intro z
  unfold zsL
  rw[setL_mem]
  simp[zOf,cube,or_assoc]
 obtain⟨m1,m2,m3⟩:=pairs_mem (zsL [cube p,cube q]) (setL_strict _)
 have okp:=((rightS_iff _).1 (cube_rightS hp)).2.1
 have okq:=((rightS_iff _).1 (cube_rightS hq)).2.1
 have cells:∀ w∈pairsL Prod.mk (zsL [cube p,cube q]),rightL (uniP (cube p) (cube q) w).area=true∧∀ x y,cellsL (uniP (cube p) (cube q) w).area x y=(cellsL (atS (cube p) w.1) x y || cellsL (atS (cube q) w.1) x y):=by
  intro w hw
  obtain⟨_,_,c1,c2⟩:=combineL_spec (keep:=fun p q=>p || q) (a:=atS (cube p) w.1) (b:=atS (cube q) w.1) (r:=(uniA (cube p) (cube q) w.1).1) rfl (Prod.ext rfl (h0 w hw))
  exact⟨c1,c2⟩
 obtain⟨f1,f2,f3⟩:=fold_put ((pairsL Prod.mk (zsL [cube p,cube q])).map (uniP (cube p) (cube q))) [] (by simp) (fun i hi=>by simp at hi) (fun x hx=>by
  obtain⟨w,hw,rfl⟩:=mem_map.1 hx
  obtain⟨w1,w2,w3,_⟩:=m1 w hw
  refine⟨w1,fun hne=>⟨?_,w1,?_,hne,(cells w hw).1⟩⟩
  ·have:=hp.2.2
   have:=hq.2.2
   rcases (memz _).1 w2 with (e |e) |(e |e)<;>(show 0≤w.1;omega)
  ·have:=hp.2.2
   have:=hq.2.2
   rcases (memz _).1 w3 with (e |e) |(e |e)<;>(show w.2≤4096;omega)) (by rw[List.pairwise_map];exact m2) (by simp)
 rw[← hr]at f1 f2 f3
 have rr:rightS r=true:=(rightS_iff r).2 ⟨h80,f1,f2⟩
 refine⟨fun x hx=>by have:=(rightL_write (f1 x hx).rt).2.1;omega,?_⟩
 unfold respL
 rw[rr,cube_rightS hp,cube_rightS hq]
 simp only[Bool.true_and]
 rw[Bool.eq_iff_iff,and_eq_true]
 simp only[Bool.not_eq_true',List.any_eq_false]
 have key:∀ e:GEasement,offB r lot e=true↔offB (cube p) lot e=true∨offB (cube q) lot e=true:=by
  intro e
  rw[offB_iff,offB_iff,offB_iff,f3]
  have one:∀ t:GPoint3,t=p∨t=q→(badE e.area e.top (cube t)↔∃ w∈pairsL Prod.mk (zsL [cube p,cube q]),w.1=t.z∧w.2>e.top∧meetL [cubeR t] e.area=true):=by
   intro t ht
   have mz:t.z∈zsL [cube p,cube q]∧t.z+1∈zsL [cube p,cube q]:=by
    rcases ht with rfl |rfl
    ·exact⟨(memz _).2 (.inl (.inl rfl)),(memz _).2 (.inl (.inr rfl))⟩
    ·exact⟨(memz _).2 (.inr (.inl rfl)),(memz _).2 (.inr (.inr rfl))⟩
   unfold cube
   rw[badE_one]
   constructor
   ·rintro⟨a,b⟩
    obtain⟨c,hc⟩:=m3 t.z mz.1 (t.z+1) mz.2 (by omega)
    have:=(m1 _ hc).1
    exact⟨_,hc,rfl,by show c>e.top;have:t.z < c:=this;have:t.z+1>e.top:=a;omega,b⟩
   ·rintro⟨w,hw,a,b,c⟩
    refine⟨?_,c⟩
    obtain⟨w1,_,_,w4⟩:=m1 w hw
    have:=w4 (t.z+1) mz.2
    show t.z+1>e.top
    omega
  rw[one p (.inl rfl),one q (.inr rfl)]
  have piece:∀ w∈pairsL Prod.mk (zsL [cube p,cube q]),meetL (uniP (cube p) (cube q) w).area e.area=true↔(w.1=p.z∧meetL [cubeR p] e.area=true)∨(w.1=q.z∧meetL [cubeR q] e.area=true):=by
   intro w hw
   rw[meetL_cells,meetL_cells,meetL_cells]
   constructor
   ·rintro⟨x,y,h1,h2⟩
    rw[(cells w hw).2,Bool.or_eq_true,atS_cube,atS_cube]at h1
    rcases h1 with h1 |h1
    ·by_cases hz:w.1=p.z
     ·rw[if_pos hz]at h1;exact .inl ⟨hz,x,y,h1,h2⟩
     ·rw[if_neg hz]at h1;cases h1
    ·by_cases hz:w.1=q.z
     ·rw[if_pos hz]at h1;exact .inr ⟨hz,x,y,h1,h2⟩
     ·rw[if_neg hz]at h1;cases h1
   ·rintro (⟨hz,x,y,h1,h2⟩ |⟨hz,x,y,h1,h2⟩)
    ·exact⟨x,y,by rw[(cells w hw).2,Bool.or_eq_true,atS_cube,if_pos hz];exact .inl h1,h2⟩
    ·exact⟨x,y,by rw[(cells w hw).2,Bool.or_eq_true,atS_cube,atS_cube,if_pos hz];exact .inr h1,h2⟩
  constructor
  ·rintro⟨a,b,c |⟨x,hx,d1,d2⟩⟩
   ·obtain⟨c,hc,_⟩:=c
    simp at hc
   ·obtain⟨w,hw,rfl⟩:=mem_map.1 hx
    rcases (piece w hw).1 d2 with ⟨h1,h2⟩ |⟨h1,h2⟩
    ·exact .inl ⟨a,b,w,hw,h1,d1,h2⟩
    ·exact .inr ⟨a,b,w,hw,h1,d1,h2⟩
  ·rintro (⟨a,b,w,hw,h1,h2,h3⟩ |⟨a,b,w,hw,h1,h2,h3⟩)
   ·exact⟨a,b,.inr ⟨_,mem_map.2 ⟨w,hw,rfl⟩,h2,(piece w hw).2 (.inl ⟨h1,h3⟩)⟩⟩
   ·exact⟨a,b,.inr ⟨_,mem_map.2 ⟨w,hw,rfl⟩,h2,(piece w hw).2 (.inr ⟨h1,h3⟩)⟩⟩
 constructor
 ·intro h
  exact⟨fun e he h1=>h e he ((key e).2 (.inl h1)),fun e he h1=>h e he ((key e).2 (.inr h1))⟩
 ·rintro⟨h1,h2⟩ e he h
  rcases (key e).1 h with h |h
  ·exact h1 e he h
  ·exact h2 e he h
theorem ParcelEasements_true {n:Nat} (hn:10000≤n) (l:List GEasement) (lot:Int) (p q:GPoint3):l13_ParcelEasements n l lot p q=some true:=by
 unfold l13_ParcelEasements
 rw[small13 hn]
 simp only[bind_some]
 by_cases h8:(l.length:Int)>8
 ·simp only[h8,decide_true,cond_true]
 simp only[h8,decide_false,cond_false]
 have h8':l.length≤8:=by omega
 have L1:=iter_find (l:=l) (step:=l13_ParcelEasements_s1 l true) (fun i=>((i:Nat):Int)) (fun e:GEasement=>decide ((e.area.length:Int)>10)) () (fun _=>true) (fun i hi=>?_) (by simp[l13_ParcelEasements_s1]) n (by omega)
 ·rw[show ((0:Nat):Int)=0 from rfl]at L1
  rw[L1]
  rcases findL_spec (fun e:GEasement=>decide ((e.area.length:Int)>10)) l with ⟨i,hi,h1,_⟩ |⟨h1,h2⟩
  ·rw[h1];rfl
  rw[h1]
  have hE:∀ e∈l,e.area.length≤900:=fun e he=>by
   have:=h2 e he
   simp at this
   omega
  have s1:∀ x:GBox,(sub ([x]:List GBox) 0 1)=[x]:=fun _=>rfl
  have q1:∀ x:GBox,eqL ([x]:List GBox).length 1=true:=fun _=>rfl
  simp only[thenB_inl,s1,q1,cond_true]
  have c3:∀ t:GPoint3,GBox.mk t.x t.y (i64.wrap (t.x+1)) (i64.wrap (t.y+1)) t.z (i64.wrap (t.z+1))=boxG3 t:=fun _=>rfl
  rw[c3,c3]
  have nil:rightS []=true:=rfl
  have z0:((0:Int) != 0)=false:=rfl
  have z1:((1:Int) != 0)=true:=rfl
  have L2:cubeOk p→iter (l13_ParcelEasements_s2 n l lot p) n (true,(0:Int))=some (l.all (wantB lot p)):=by
   intro _
   have:=iter_fold (l:=l) (step:=l13_ParcelEasements_s2 n l lot p) (fun i (s:Bool)=>(s,((i:Nat):Int))) (fun e s=>s&&wantB lot p e) (fun s=>s) (fun i hi s=>?_) (fun s=>by simp[l13_ParcelEasements_s2]) n (by omega) true
   ·rw[show ((0:Nat):Int)=0 from rfl]at this
    rw[this]
    have all:∀ (ys:List GEasement) (s:Bool),ys.foldl (fun s e=>s&&wantB lot p e) s=(s&&ys.all (wantB lot p)):=by
     intro ys
     induction ys with
     |nil=>intro s;simp
     |cons y ys ih=>intro s;simp only[List.foldl_cons,ih,List.all_cons,Bool.and_assoc]
    rw[all,Bool.true_and]
   ·have c:decide (((i:Nat):Int) < (l.length:Int))=true:=by simpa using hi
    have he:=hE _ (List.getElem_mem hi)
    simp only[l13_ParcelEasements_s2,c,cond_true,at_get hi,bind_some,rg_Has_eq (n:=n) (a:=l[i].area) p.x p.y (by omega) (by omega)]
    rw[wrap_succ (by omega)]
    unfold wantB
    cases s with
    |false=>rfl
    |true=>cases (l[i].lot != lot)<;>cases decide (p.z < l[i].top)<;>rfl
  rcases so_Of_cube (n:=n) p hn with ⟨hp,e1⟩ |e1
  ·rcases so_Of_cube (n:=n) q hn with ⟨hq,e2⟩ |e2
   ·obtain⟨r,hr,hr0⟩:=so_Union_spec (n:=n) (cube_rightS hp) (cube_rightS hq) hn
    rw[e1,e2]
    simp only[bind_some,hr,z0,cond_false]
    by_cases h0:r.2=0
    ·have b0:(r.2 != 0)=false:=by simp[h0]
     obtain⟨u1,u2,u3⟩:=hr0 h0
     obtain⟨k1,k2⟩:=union_resp hp hq u1 u2 u3 l lot
     have ap:∀ t:GPoint3,∀ x∈cube t,x.area.length≤900:=fun t x hx=>by
      have:x=⟨t.z,t.z+1,[cubeR t]⟩:=by simpa[cube]using hx
      rw[this];simp
     have rn:respL l lot []=true:=by
      unfold respL
      rw[nil,Bool.true_and,Bool.not_eq_true',List.any_eq_false]
      intro e he
      rw[offB_iff]
      rintro⟨_,_,c,hc,_⟩
      simp at hc
     simp only[b0,bind_some,cond_false,L2 hp,pc_Respect_eq (n:=n) (l:=l) (lot:=lot) (by omega) hE (ap p) (by omega),pc_Respect_eq (n:=n) (l:=l) (lot:=lot) (by omega) hE (ap q) (by omega),pc_Respect_eq (n:=n) (l:=l) (lot:=lot) (by omega) hE k1 (by omega),pc_Respect_eq (n:=n) (l:=l) (lot:=lot) (s:=[]) (by omega) hE (by simp) (by omega),resp_cube hp,beq_self_eq_true,cond_true,rn]
     rw[k2,resp_cube hp]
     cases l.all (wantB lot p)with
     |false=>rfl
     |true=>cases respL l lot (cube q)<;>rfl
    ·have b0:(r.2 != 0)=true:=by simp[h0]
     simp only[b0,bind_some,cond_true]
   ·obtain⟨r,hr,_⟩:=so_Union_spec (n:=n) (cube_rightS hp) nil hn
    rw[e1,e2]
    simp only[bind_some,hr,z0,z1,cond_false,cond_true]
  ·rcases so_Of_cube (n:=n) q hn with ⟨hq,e2⟩ |e2
   ·obtain⟨r,hr,_⟩:=so_Union_spec (n:=n) nil (cube_rightS hq) hn
    rw[e1,e2]
    simp only[bind_some,hr,z1,cond_true]
   ·obtain⟨r,hr,_⟩:=so_Union_spec (n:=n) nil nil hn
    rw[e1,e2]
    simp only[bind_some,hr,z1,cond_true]
 ·have hi':decide (((i:Nat):Int) < (l.length:Int))=true:=by simpa using hi
  simp only[l13_ParcelEasements_s1,hi',cond_true,at_get hi,bind_some]
  rw[wrap_succ (by omega)]
  cases decide ((l[i].area.length:Int)>10)<;>rfl
theorem ParcelEasements_row (l:List GEasement) (lot:Int) (p q:GPoint3):∃ k,l13_ParcelEasements k l lot p q=some true:=⟨10000,ParcelEasements_true (by omega) l lot p q⟩
end Go.Proofs
