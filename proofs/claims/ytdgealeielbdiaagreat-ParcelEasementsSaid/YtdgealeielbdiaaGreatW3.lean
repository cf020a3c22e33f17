/-
  Each operation of the typed walk is what the abstract walk's operation does.
-/
import Derived.Test.YtdgealeielbdiaaGreatW2
open Option (bind_some bind_eq_some_iff)
open List (map_cons mem_cons append_assoc mem_append mem_map all_eq_true mem_singleton nil_append)
open Bool (and_eq_true)
namespace Go.Gb
open Go.RowKit
section
variable {X:SX} {A:Type} {T:Tab} {code:TypeId→Option (CT X.ι)} {get:Nat→Option (DObj X)} {k:KK X A} {r:A} {i:Nat}
def aget (get:Nat→Option (DObj X)):Nat→Option AObj:=fun j=>(get j).map denO
theorem restr_get {rd:List Nat} {j:Nat} {o:DObj X} (hj:j∈rd) (h:get j=some o):restr rd (aget get) j=some (denO o):=by
 simp[restr,hj,aget,h]
theorem denL_length (l:List (DV X)):(denL l).length=l.length:=by simp[denL_map]
theorem denL_drop_take (l:List (DV X)) (a b:Nat):denL ((l.drop a).take b)=((denL l).drop a).take b:=by
 simp[denL_map,List.map_take,List.map_drop]
theorem at_some {α:Type} {l:List α} {n:Int} {x:α} (h:at? l n=some x):0≤n∧l[n.toNat]? =some x:=by
 unfold at? at h
 by_cases hn:0≤n
 ·simpa[hn]using h
 ·simp[hn]at h
theorem pickD_den (t:Bool) (x y:DV X):den (pickD t x y)=pickV t (den x) (den y):=by
 rw[pickV_eq]
 have base:∀ x y:DV X,den (bif t then x else y)=if t=true then den x else den y:=fun x y=>by cases t<;>rfl
 unfold pickD
 split
 ·rename_i a p b q
  split
  ·rename_i h _
   subst h
   cases t<;>rfl
  ·exact base _ _
 ·exact base _ _
theorem partD_den {agg:Bool} {size:Nat} {cs:List (DV X)} {v:DV X} (h:partD agg size cs=some v):part' agg size (denL cs)=some (den v):=by
 unfold partD at h
 unfold part'
 rw[denL_length]
 split at h
 ·rename_i hl
  rw[if_pos hl]
  cases agg with
  |true=>simp only[if_true,Option.some.injEq]at h ⊢;subst h;rfl
  |false=>
   simp only[Bool.false_eq_true,if_false]at h ⊢
   match cs,h with
   |[x],h=>
    simp only at h
    split at h
    ·rename_i hx
     injection h with h
     subst h
     simp only[denL]
     rw[if_pos (cellOkD_den hx)]
    ·cases h
   |[],h=>cases h
   |_::_::_,h=>cases h
 ·cases h
theorem partC_den {agg:Bool} {size off:Nat} {c:CT X.ι} {y:CT.T X.toSE c} {v:DV X} (h:partD agg size (((cellsC c y).drop off).take size)=some v):part' agg size ((((CT.row X.toSE c y).drop off).take size).map AV.t)=some (den v):=by
 have:=partD_den h
 rw[denL_drop_take,cellsC_den]at this
 rw[← this,List.map_take,List.map_drop]
theorem partW_den {agg:Bool} {size off:Nat} {c:CT X.ι} {y:CT.T X.toSE c} {v:DV X} (h:partW agg size c y off=some v):part' agg size ((((CT.row X.toSE c y).drop off).take size).map AV.t)=some (den v):=by
 cases c
 case st j=>
  simp only[partW]at h
  split at h
  ·rename_i hh
   obtain⟨rfl,rfl,rfl⟩:=hh
   injection h with h
   subst h
   have hl:(CT.row X.toSE (.st j) y).length=(X.tys j).length:=row_sz (.st j) y
   rw[List.drop_zero,List.take_of_length_le (by omega)]
   unfold part'
   rw[if_pos (by simpa using hl)]
   rfl
  ·exact partC_den h
 all_goals exact partC_den h
theorem ldD_sound {t:TypeId} {x:DV X} (h:ldD T t x get k=some r):∃ orc rd dv out,aLoad T t (den x) orc (restr rd (aget get))=some out∧AllP out.obs∧out.v=den dv∧out.upd=[]∧k dv [] rd []=some r:=by
 unfold ldD at h
 unfold aLoad
 rw[bind_eq_some_iff]at h;obtain⟨ti,h1,h⟩:=h
 simp only[h1,bind_some]
 split at h
 ·rename_i kk row off
  rw[bind_eq_some_iff]at h;obtain⟨o,h2,h⟩:=h
  split at h
  ·rename_i sz rows
   rw[bind_eq_some_iff]at h;obtain⟨rw',h3,h⟩:=h
   rw[bind_eq_some_iff]at h;obtain⟨v,h4,h⟩:=h
   refine⟨.none,[kk],v,⟨den v,[],[]⟩,?_,trivial,rfl,rfl,h⟩
   have h5:=partD_den h4
   rw[denL_drop_take]at h5
   simp[den,restr_get (List.mem_singleton_self kk) h2,denO,h3,h5,pv]
  ·cases h
 ·rename_i kk n off
  rw[bind_eq_some_iff]at h;obtain⟨o,h2,h⟩:=h
  split at h
  ·rename_i c l
   rw[bind_eq_some_iff]at h;obtain⟨y,h3,h⟩:=h
   rw[bind_eq_some_iff]at h;obtain⟨v,h4,h⟩:=h
   obtain⟨_,h6⟩:=at_some h3
   refine⟨.row ((CT.row X.toSE c y).map AV.t),[kk],v,⟨den v,[],[(avRows (l.map (CT.row X.toSE c)))[n.toNat]? =some ((CT.row X.toSE c y).map AV.t)]⟩,?_,?_,rfl,rfl,h⟩
   ·have h5:=partW_den h4
    rw[List.map_take,List.map_drop]at h5
    simp only[den,restr_get (List.mem_singleton_self kk) h2,bind_some,denO,h5,pvo]
   ·simp[AllP,avRows,h6]
  ·cases h
 ·rename_i c y off
  rw[bind_eq_some_iff]at h;obtain⟨v,h4,h⟩:=h
  refine⟨.none,[],v,⟨den v,[],[]⟩,?_,trivial,rfl,rfl,h⟩
  simp only[den,partW_den h4,bind_some,pv]
 ·cases h
theorem putD_den (a:List (DV X)) (off:Nat) (cs:List (DV X)):denL (putD a off cs)=put' (denL a) off (denL cs):=by
 simp[putD,put',denL_map,List.map_take,List.map_drop]
theorem castC_den {a c:CT X.ι} {x:CT.T X.toSE a} {y:CT.T X.toSE c} (h:castC a c x=some y):den (.c a x)=den (.c c y)∧CT.row X.toSE a x=CT.row X.toSE c y:=by
 obtain⟨e,h⟩:=castC_some h
 subst e;subst h
 exact⟨rfl,rfl⟩
theorem tv_one {c:CT X.ι} (hc:c.one=true) (x:CT.T X.toSE c):[(CT.tv X.toSE c x).av]=(CT.row X.toSE c x).map AV.t:=by
 obtain⟨t,h1,h2⟩:=row_one hc x
 rw[h1,h2];rfl
theorem wk_tv {c:CT X.ι} (x:CT.T X.toSE c):wk (CT.tv X.toSE c x).av=(CT.tv X.toSE c x).av:=by cases c<;>rfl
theorem dat1_den {d:DV X} {c:CT X.ι} {x:CT.T X.toSE c} (h:dat1 d c=some x):wk (den d)=(CT.tv X.toSE c x).av:=by
 unfold dat1 at h
 split at h
 ·rw[(castC_den h).1];exact wk_tv x
 ·injection h with h;subst h;rfl
 ·injection h with h;subst h;rfl
 ·cases h
theorem dat1_ok {d:DV X} {c:CT X.ι} {x:CT.T X.toSE c} (hc:c.one=true) (h:dat1 d c=some x):cellOkD d=true:=by
 cases d
 case c a y=>
  obtain⟨e,_⟩:=castC_some (show castC a c y=some x by cases c<;>exact h)
  subst e
  cases a<;>first |rfl |simp[CT.one]at hc
 case nil=>rfl
 all_goals cases c<;>cases h
theorem readHL_den:∀ {ds:List (DV X)} {l:List (CT X.ι)} {h:HL X.toSE l},readHL ds l=some h→l.all CT.one=true→(denL ds).map wk=(HL.row X.toSE l h).map AV.t∧ds.all cellOkD=true
 |[],[],h,_,_=>⟨rfl,rfl⟩
 |d::ds,c::l,h,hr,ha=>by
  simp only[readHL]at hr
  rw[bind_eq_some_iff]at hr;obtain⟨x,h1,hr⟩:=hr
  rw[bind_eq_some_iff]at hr;obtain⟨g,h2,hr⟩:=hr
  injection hr with hr
  subst hr
  simp only[List.all_cons,and_eq_true]at ha ⊢
  obtain⟨i1,i2⟩:=readHL_den h2 ha.2
  simp only[denL,map_cons,HL.row,List.map_append,i1,dat1_den h1,i2,and_true,dat1_ok ha.1 h1]
  simp[← tv_one ha.1 x]
 |[],_::_,_,hr,_=>by simp[readHL]at hr
 |_::_,[],_,hr,_=>by simp[readHL]at hr
theorem make_row (j:X.ι) (h:HL X.toSE (X.tys j)):CT.row X.toSE (.st j) (X.make j h)=HL.row X.toSE (X.tys j) h:=X.row_make j h
theorem mk1_den {c:CT X.ι} (hc:c.one=true) {ds:List (DV X)} {x:CT.T X.toSE c} (h:mk1 c ds=some x):(denL ds).map wk=(CT.row X.toSE c x).map AV.t:=by
 match ds,h with
 |[d],h=>
  rw[← tv_one hc x]
  simp only[denL,map_cons,List.map_nil,dat1_den h]
 |[],h=>cases h
 |_::_::_,h=>cases h
theorem mkRow_den {c:CT X.ι} {ds:List (DV X)} {x:CT.T X.toSE c} (h:mkRow c ds=some x):(denL ds).map wk=(CT.row X.toSE c x).map AV.t:=by
 cases c
 case st j=>
  simp only[mkRow]at h
  rw[bind_eq_some_iff]at h;obtain⟨g,h1,h⟩:=h
  injection h with h
  subst h
  rw[(readHL_den h1 (X.flat j)).1,make_row]
 all_goals exact mk1_den rfl h
theorem dat1_cells {d:DV X} {c:CT X.ι} (hc:c.one=true) {x:CT.T X.toSE c} (h:dat1 d c=some x):∃ cs,cellsOf (den d)=some cs∧cs.map wk=(CT.row X.toSE c x).map AV.t:=by
 have hk:=dat1_ok hc h
 have hd:=dat1_den h
 have he:cellsOf (den d)=some [den d]:=by
  have:=cellsD_den (x:=d) (cs:=[d]) (by
   cases d
   case c t y=>cases t<;>first |rfl |simp[cellOkD]at hk
   all_goals first |rfl |simp[cellOkD]at hk)
  simpa[denL]using this
 exact⟨_,he,by rw[← tv_one hc x];simp[hd]⟩
theorem dat_cells {d:DV X} {c:CT X.ι} {x:CT.T X.toSE c} (h:dat d c=some x):∃ cs,cellsOf (den d)=some cs∧cs.map wk=(CT.row X.toSE c x).map AV.t:=by
 cases c
 case st j=>
  replace h:datS d j=some x:=h
  cases d
  case agg cs=>
   simp only[datS]at h
   rw[bind_eq_some_iff]at h;obtain⟨g,h1,h⟩:=h
   injection h with h
   subst h
   obtain⟨i1,i2⟩:=readHL_den h1 (X.flat j)
   refine⟨denL cs,?_,by rw[i1,make_row]⟩
   simp only[den,cellsOf]
   rw[if_pos (all_den i2)]
  case c a y=>
   replace h:castC a (.st j) y=some x:=h
   rw[(castC_den h).1]
   refine⟨(CT.row X.toSE (.st j) x).map AV.t,?_,?_⟩
   ·show cellsOf (.agg _)=_
    simp only[cellsOf]
    rw[if_pos]
    ·rfl
    ·rw[List.all_map,all_eq_true];exact fun _ _=>rfl
   ·rw[List.map_map];rfl
  all_goals cases h
 all_goals exact dat1_cells rfl h
theorem stD_sound {t:TypeId} {x y:DV X} (h:stD T t x y get k=some r):∃ orc kk u out,aStore T t (den x) (den y) orc (restr [kk] (aget get))=some out∧AllP out.obs∧out.v= .undef∧out.upd=denU [(kk,u)]∧k .undef [(kk,u)] [kk] [kk]=some r:=by
 unfold stD at h
 unfold aStore
 rw[bind_eq_some_iff]at h;obtain⟨ti,h1,h⟩:=h
 rw[bind_eq_some_iff]at h;obtain⟨cs,h2,h⟩:=h
 simp only[h1,cellsD_den h2,bind_some]
 split at h
 ·rename_i hl
  have hdl:(denL cs).length=ti.size:=by rw[denL_length];exact hl
  simp only[hdl,if_true]
  split at h
  ·rename_i kk row off
   rw[bind_eq_some_iff]at h;obtain⟨o,h3,h⟩:=h
   split at h
   ·rename_i sz rows
    rw[bind_eq_some_iff]at h;obtain⟨rw',h4,h⟩:=h
    split at h
    ·rename_i hle
     refine⟨.none,kk,_,⟨.undef,_,[]⟩,?_,trivial,rfl,rfl,h⟩
     simp only[den,restr_get (List.mem_singleton_self kk) h3,bind_some,denO,List.getElem?_map,h4,Option.map_some,denL_length]
     rw[if_pos (by rw[← hl];exact hle)]
     simp[denU,denO,putD_den]
    ·cases h
   ·cases h
  ·rename_i kk n off
   rw[bind_eq_some_iff]at h;obtain⟨o,h3,h⟩:=h
   split at h
   ·rename_i c l
    rw[bind_eq_some_iff]at h;obtain⟨z,h4,h⟩:=h
    split at h
    ·rename_i hle
     rw[bind_eq_some_iff]at h;obtain⟨z',h5,h⟩:=h
     obtain⟨_,h6⟩:=at_some h4
     refine⟨.set ((CT.row X.toSE c z).map AV.t) (avRows ((l.set n.toNat z').map (CT.row X.toSE c))),kk,_,⟨.undef,_,[(avRows (l.map (CT.row X.toSE c)))[n.toNat]? =some ((CT.row X.toSE c z).map AV.t)∧avRows ((l.set n.toNat z').map (CT.row X.toSE c))=wkRows ((avRows (l.map (CT.row X.toSE c))).set n.toNat (put' ((CT.row X.toSE c z).map AV.t) off (denL cs)))]⟩,?_,?_,rfl,rfl,h⟩
     ·simp only[den,restr_get (List.mem_singleton_self kk) h3,bind_some,denO]
      rw[if_pos (by rw[List.length_map,row_sz,← hl];exact hle)]
      simp[denU,denO]
     ·refine⟨by simp[avRows,h6],?_⟩
      have h7:=mkRow_den h5
      rw[putD_den,cellsC_den]at h7
      have hid:wkRows (avRows (l.map (CT.row X.toSE c)))=avRows (l.map (CT.row X.toSE c)):=by
       simp[wkRows,avRows,Function.comp_def,wk]
      simp only[wkRows,List.map_set,h7]
      have:(avRows (l.map (CT.row X.toSE c))).map (List.map wk)=avRows (l.map (CT.row X.toSE c)):=hid
      rw[this]
      simp[avRows]
    ·cases h
   ·cases h
  ·cases h
 ·cases h
theorem fieldAddrD_sound {t:TypeId} {x:DV X} {f:Nat} (h:fieldAddrD T t x f k=some r):∃ dv out,aFieldAddr T t (den x) f=some out∧AllP out.obs∧out.v=den dv∧out.upd=[]∧k dv [] [] []=some r:=by
 unfold fieldAddrD at h
 unfold aFieldAddr
 rw[bind_eq_some_iff]at h;obtain⟨⟨d,u⟩,h1,h⟩:=h
 simp only[h1,bind_some]
 split at h
 ·exact⟨_,_,rfl,trivial,rfl,rfl,h⟩
 ·exact⟨_,_,rfl,trivial,rfl,rfl,h⟩
 ·exact⟨_,_,rfl,trivial,rfl,rfl,h⟩
 ·cases h
theorem fieldD_sound {t:TypeId} {x:DV X} {f:Nat} (h:fieldD T t x f k=some r):∃ dv out,aField T t (den x) f=some out∧AllP out.obs∧out.v=den dv∧out.upd=[]∧k dv [] [] []=some r:=by
 unfold fieldD at h
 unfold aField
 rw[bind_eq_some_iff]at h;obtain⟨⟨d,u⟩,h1,h⟩:=h
 simp only[h1,bind_some]
 split at h
 ·rw[bind_eq_some_iff]at h;obtain⟨v,h2,h⟩:=h
  have h3:=partD_den h2
  rw[denL_drop_take]at h3
  exact⟨v,⟨den v,[],[]⟩,by simp only[den,h3,bind_some,pv],trivial,rfl,rfl,h⟩
 ·rename_i j y
  rw[bind_eq_some_iff]at h;obtain⟨v,h2,h⟩:=h
  have h3:=partC_den h2
  rw[List.map_take,List.map_drop]at h3
  refine⟨v,⟨den v,[],[]⟩,?_,trivial,rfl,rfl,h⟩
  show (part' u.agg u.size (List.take u.size (List.drop d ((CT.row X.toSE (.st j) y).map AV.t)))).bind pv=_
  rw[h3];rfl
 ·cases h
theorem cond_some {α:Type} {b:Bool} {x:Option α} {r:α} (h:(bif b then x else none)=some r):b=true∧x=some r:=by
 cases b with
 |true=>exact⟨rfl,h⟩
 |false=>cases h
theorem inb_spec {n:Int} {len:Nat} (h:inb n len=true):0≤n∧n.toNat < len:=by
 simp only[inb,and_eq_true,decide_eq_true_eq]at h;omega
theorem chkA_some {A:Type}:∀ {cs:List Bool} {k:Option A} {r:A},chkA cs k=some r→(∀ c∈cs,c=true)∧k=some r
 |[],_,_,h=>⟨by simp,h⟩
 |c::cs,k,r,h=>by
  obtain⟨h1,h2⟩:=cond_some h
  obtain⟨h3,h4⟩:=chkA_some h2
  exact⟨fun x hx=>(mem_cons.1 hx).elim (fun e=>e ▸ h1) (h3 x),h4⟩
theorem indexAddrD_sound {t:TypeId} {x j:DV X} (h:indexAddrD T t x j get k=some r):∃ orc rd dv out,aIndexAddr T t (den x) (den j) orc (restr rd (aget get))=some out∧AllP out.obs∧out.v=den dv∧out.upd=[]∧k dv [] rd []=some r:=by
 unfold indexAddrD at h
 unfold aIndexAddr
 rw[bind_eq_some_iff]at h;obtain⟨ti,h1,h⟩:=h
 simp only[h1,bind_some]
 split at h
 ·rename_i e kd n hk
  rw[bind_eq_some_iff]at h;obtain⟨ei,h2,h⟩:=h
  simp only[hk,den,CT.tv,TV.av,h2,bind_some]
  split at h
  ·rename_i c l
   split at h
   ·rename_i hs
    rw[bind_eq_some_iff]at h;obtain⟨y,h3,h⟩:=h
    obtain⟨h4,h5⟩:=at_some h3
    refine⟨.trow (CT.row X.toSE c y),[],_,⟨.rptr (CT.row X.toSE c y) 0,[],[0≤n∧(l.map (CT.row X.toSE c))[n.toNat]? =some (CT.row X.toSE c y)]⟩,?_,?_,rfl,rfl,h⟩
    ·simp only[den,CT.tv,TV.av]
     rw[if_pos (by rw[row_sz];exact hs)];rfl
    ·exact⟨h4,by simp[h5]⟩
   ·cases h
  ·rename_i kk off len
   rw[bind_eq_some_iff]at h;obtain⟨o,h3,h⟩:=h
   split at h
   ·rename_i c l
    split at h
    ·rename_i hs
     obtain⟨h4,h⟩:=cond_some h
     obtain⟨h5,h6⟩:=inb_spec h4
     refine⟨.none,[kk],_,⟨.ptr kk (off+n.toNat) 0,[],[0≤n∧n.toNat < len]⟩,?_,⟨h5,h6⟩,?_,rfl,h⟩
     ·simp only[den,restr_get (List.mem_singleton_self kk) h3,bind_some,denO]
      rw[if_pos hs];rfl
     ·simp only[den,iN]
      congr 1
      show off+Int.toNat n=Int.toNat ((off:Int)+n)
      have:(0:Int)≤n:=h5
      omega
    ·cases h
   ·rename_i sz rows
    split at h
    ·rename_i hs
     obtain⟨h4,h⟩:=cond_some h
     obtain⟨h5,h6⟩:=inb_spec h4
     refine⟨.none,[kk],_,⟨.ptr kk (off+n.toNat) 0,[],[0≤n∧n.toNat < len]⟩,?_,⟨h5,h6⟩,rfl,rfl,h⟩
     simp only[den,restr_get (List.mem_singleton_self kk) h3,bind_some,denO]
     rw[if_pos hs];rfl
    ·cases h
   ·cases h
  ·cases h
 ·rename_i m e kd n hk
  rw[bind_eq_some_iff]at h;obtain⟨ei,h2,h⟩:=h
  simp only[hk,den,CT.tv,TV.av,h2,bind_some]
  obtain⟨h4,h⟩:=cond_some h
  obtain⟨h5,h6⟩:=inb_spec h4
  split at h
  ·exact⟨.none,[],_,_,rfl,⟨h5,h6⟩,rfl,rfl,h⟩
  ·exact⟨.none,[],_,_,rfl,⟨h5,h6⟩,rfl,rfl,h⟩
  ·exact⟨.none,[],_,_,rfl,⟨h5,h6⟩,rfl,rfl,h⟩
  ·cases h
 ·cases h
theorem extractD_sound {x:DV X} {j:Nat} (h:extractD x j k=some r):∃ dv out,aExtract (den x) j=some out∧AllP out.obs∧out.v=den dv∧out.upd=[]∧k dv [] [] []=some r:=by
 unfold extractD at h
 split at h
 ·rw[bind_eq_some_iff]at h;obtain⟨v,h2,h⟩:=h
  refine⟨v,⟨den v,[],[]⟩,?_,trivial,rfl,rfl,h⟩
  simp[aExtract,den,denL_map,h2,pv]
 ·cases h
end
end Go.Gb
namespace Go.Gb
open Go.RowKit
section
variable {X:SX} {A:Type} {T:Tab} {code:TypeId→Option (CT X.ι)} {get:Nat→Option (DObj X)} {k:KK X A} {r:A} {i:Nat}
theorem arithD_sound {op:BinOp} {kd:IntKind} {a b:Int}:∃ v obs,aArith op kd a b=some (v,obs)∧den (arithD (X:=X) op kd a b).1= .t (.sc v)∧(∀ g,(arithD (X:=X) op kd a b).2=some g→g=true→AllP obs)∧((arithD (X:=X) op kd a b).2=none→AllP obs):=by
 cases op<;>refine⟨_,_,rfl,rfl,fun g hg ht=>?_,fun hn=>?_⟩<;>simp only[arithD,Option.some.injEq,reduceCtorEq]at* <;>try trivial
 all_goals subst hg;simp_all [AllP]
theorem cellEqD_den {n:Nat} {x y:DV X} {b:Bool} (h:cellEqD n x y=some b):cellEq n (den x) (den y)=some b:=by
 unfold cellEqD at h
 split at h
 ·split at h
  ·injection h with h
   subst h
   simp only[den,CT.tv,TV.av,cellEq]
   rw[if_pos ‹_›]
  ·cases h
 ·exact h
 ·exact h
 ·cases h
theorem cellsEqD_den:∀ {ks:List Nat} {xs ys:List (DV X)} {b:Bool},cellsEqD ks xs ys=some b→cellsEq ks (denL xs) (denL ys)=some b
 |[],[],[],b,h=>h
 |k::ks,x::xs,y::ys,b,h=>by
  simp only[cellsEqD]at h
  rw[bind_eq_some_iff]at h;obtain⟨p,h1,h⟩:=h
  rw[bind_eq_some_iff]at h;obtain⟨q,h2,h⟩:=h
  simp only[denL,cellsEq,cellEqD_den h1,cellsEqD_den h2,bind_some,h]
 |[],_::_,_,_,h=>by simp[cellsEqD]at h
 |[],[],_::_,_,h=>by simp[cellsEqD]at h
 |_::_,[],_,_,h=>by simp[cellsEqD]at h
 |_::_,_::_,[],_,h=>by simp[cellsEqD]at h
theorem aggD_den {x:DV X} {xs:List (DV X)} (h:aggD x=some xs):den x= .agg (denL xs):=by
 unfold aggD at h
 split at h
 ·injection h with h;subst h;rfl
 ·rename_i j y
  injection h with h;subst h
  rw[cellsC_den];rfl
 ·cases h
theorem binD_sound {op:BinOp} {t:TypeId} {x y:DV X} (h:binD T op t x y k=some r):∃ dv out,aBin T op t (den x) (den y)=some out∧AllP out.obs∧out.v=den dv∧out.upd=[]∧k dv [] [] []=some r:=by
 unfold binD at h
 split at h
 ·rename_i kd a yk b
  split at h
  ·rename_i hk
   obtain⟨v,obs,h1,h2,h3,h4⟩:=arithD_sound (X:=X) (op:=op) (kd:=kd) (a:=a) (b:=b)
   have fin:AllP obs→k (arithD op kd a b).1 [] [] []=some r→∃ dv out,aBin T op t (den (.c (.int kd) a:DV X)) (den (.c (.int yk) b:DV X))=some out∧AllP out.obs∧out.v=den dv∧out.upd=[]∧k dv [] [] []=some r:=by
    intro ho hkk
    refine⟨_,⟨.t (.sc v),[],obs⟩,?_,ho,h2.symm,rfl,hkk⟩
    simp only[den,CT.tv,TV.av,aBin]
    rw[if_pos hk,h1];rfl
   split at h
   ·rename_i hn
    exact fin (h4 hn) h
   ·rename_i g hg
    obtain⟨hgt,h⟩:=cond_some h
    exact fin (h3 g hg hgt) h
  ·cases h
 ·split at h
  ·exact⟨_,_,rfl,trivial,rfl,rfl,h⟩
  ·exact⟨_,_,rfl,trivial,rfl,rfl,h⟩
  ·cases h
 ·rw[bind_eq_some_iff]at h;obtain⟨ti,h1,h⟩:=h
  split at h
  ·rename_i hk
   refine⟨_,⟨.t (.sc (.bool _)),[],[]⟩,?_,trivial,rfl,rfl,h⟩
   simp only[den,CT.tv,TV.av,aBin,h1,bind_some,hk];rfl
  ·rename_i hk
   refine⟨_,⟨.t (.sc (.bool _)),[],[]⟩,?_,trivial,rfl,rfl,h⟩
   simp only[den,CT.tv,TV.av,aBin,h1,bind_some,hk];rfl
  ·cases h
 ·rw[bind_eq_some_iff]at h;obtain⟨xs,h1,h⟩:=h
  rw[bind_eq_some_iff]at h;obtain⟨ys,h2,h⟩:=h
  rw[bind_eq_some_iff]at h;obtain⟨ti,h3,h⟩:=h
  split at h
  ·cases h
  ·rename_i hc
   rw[bind_eq_some_iff]at h;obtain⟨b,h4,h⟩:=h
   have h5:=cellsEqD_den h4
   rw[aggD_den h1,aggD_den h2]
   split at h
   ·refine⟨_,⟨.t (.sc (.bool b)),[],[]⟩,?_,trivial,rfl,rfl,h⟩
    simp only[aBin,h3,bind_some]
    rw[if_neg hc,h5];rfl
   ·refine⟨_,⟨.t (.sc (.bool (!b))),[],[]⟩,?_,trivial,rfl,rfl,h⟩
    simp only[aBin,h3,bind_some]
    rw[if_neg hc,h5];rfl
   ·cases h
theorem unD_sound {op:UnOp} {x:DV X} (h:unD op x k=some r):∃ dv out,aUn op (den x)=some out∧AllP out.obs∧out.v=den dv∧out.upd=[]∧k dv [] [] []=some r:=by
 unfold unD at h
 split at h
 ·exact⟨_,_,rfl,trivial,rfl,rfl,h⟩
 ·exact⟨_,_,rfl,trivial,rfl,rfl,h⟩
 ·cases h
theorem foldMmD_den (mx:Bool) (kd:IntKind):∀ (l:List (DV X)) (a n:Int),foldMmD mx kd a l=some n→foldMm mx kd a (denL l)=some n
 |[],a,n,h=>h
 |x::l,a,n,h=>by
  cases x
  case c t y=>
   cases t
   case int k'=>
    simp only[foldMmD]at h
    simp only[denL,den,CT.tv,TV.av,foldMm]
    split at h
    ·rename_i hk
     rw[if_pos hk]
     exact foldMmD_den mx kd l _ _ h
    ·cases h
   all_goals simp[foldMmD]at h
  all_goals simp[foldMmD]at h
theorem mmD_sound {mx:Bool} {args:List (DV X)} (h:mmD mx args k=some r):∃ dv out,aMm mx (denL args)=some out∧AllP out.obs∧out.v=den dv∧out.upd=[]∧k dv [] [] []=some r:=by
 unfold mmD at h
 split at h
 ·rename_i kd a l
  rw[bind_eq_some_iff]at h;obtain⟨n,h1,h⟩:=h
  refine⟨_,⟨.t (.sc (.int kd n)),[],[]⟩,?_,trivial,rfl,rfl,h⟩
  simp only[denL,den,CT.tv,TV.av,aMm]
  have:=foldMmD_den mx kd l a n h1
  simp only[this];rfl
 ·cases h
theorem lenD_sound {t:TypeId} {x:DV X} (h:lenD T t x k=some r):∃ orc dv out,aLen T t (den x) orc=some out∧AllP out.obs∧out.v=den dv∧out.upd=[]∧k dv [] [] []=some r:=by
 unfold lenD at h
 unfold aLen
 rw[bind_eq_some_iff]at h;obtain⟨ti,h1,h⟩:=h
 simp only[h1,bind_some]
 split at h
 ·rename_i e c l hk
  simp only[hk]
  exact⟨.num (l.length:Int),_,⟨.t (.sc (.int .i64 (l.length:Int))),[],[(l.length:Int)=((l.map (CT.row X.toSE c)).length:Int)]⟩,rfl,by simp[AllP],rfl,rfl,h⟩
 ·rename_i hk
  simp only[hk]
  exact⟨.none,_,_,rfl,trivial,rfl,rfl,h⟩
 ·rename_i hk
  simp only[hk]
  exact⟨.none,_,_,rfl,trivial,rfl,rfl,h⟩
 ·rename_i hk
  simp only[hk]
  exact⟨.none,_,_,rfl,trivial,rfl,rfl,h⟩
 ·cases h
theorem fillD_den (place:Nat→Option (Nat×Nat)):∀ (parts:List (Nat×DV X)) (cells out:List (DV X)),fillD place cells parts=some out→fillP place (denL cells) (parts.map fun p=>(p.1,den p.2))=some (denL out)
 |[],cells,out,h=>by simp only[fillD,Option.some.injEq]at h;subst h;rfl
 |(j,x)::rest,cells,out,h=>by
  simp only[fillD]at h
  rw[bind_eq_some_iff]at h;obtain⟨⟨off,size⟩,h1,h⟩:=h
  rw[bind_eq_some_iff]at h;obtain⟨cs,h2,h⟩:=h
  split at h
  ·rename_i hl
   simp only[map_cons,fillP,h1,cellsD_den h2,bind_some,denL_length]
   rw[if_pos hl,← putD_den]
   exact fillD_den place rest _ _ h
  ·cases h
theorem buildD_sound {t:TypeId} {parts:List (Nat×DV X)} (h:buildD T t parts k=some r):∃ dv out,aBuild T t (parts.map fun p=>(p.1,den p.2))=some out∧AllP out.obs∧out.v=den dv∧out.upd=[]∧k dv [] [] []=some r:=by
 unfold buildD at h
 unfold aBuild
 rw[bind_eq_some_iff]at h;obtain⟨ti,h1,h⟩:=h
 simp only[h1,bind_some]
 split at h
 ·rename_i fs hk
  split at h
  ·rename_i ha
   rw[bind_eq_some_iff]at h;obtain⟨cells,h2,h⟩:=h
   have h3:=fillD_den _ _ _ _ h2
   rw[cvDs_den]at h3
   refine⟨_,⟨.agg (denL cells),[],[]⟩,?_,trivial,rfl,rfl,h⟩
   simp only[hk]
   rw[if_pos ha,h3];rfl
  ·cases h
 ·rename_i m e hk
  rw[bind_eq_some_iff]at h;obtain⟨ei,h2,h⟩:=h
  rw[bind_eq_some_iff]at h;obtain⟨cells,h3,h⟩:=h
  have h4:=fillD_den _ _ _ _ h3
  rw[cvDs_den]at h4
  refine⟨_,⟨.agg (denL cells),[],[]⟩,?_,trivial,rfl,rfl,h⟩
  simp only[hk,h2,bind_some,h4];rfl
 ·cases h
theorem fillR_lit (size:Nat) (c:CT X.ι) (hs:CT.sz X c=size) (z:List AV):∀ (parts:List (Nat×DV X)) (n:Nat) (l:List (CT.T X.toSE c)) (done:List (List AV)),litD c n parts=some l→done.length=n→
 ∃ css:List (List AV),fillR size (done++List.replicate parts.length z) (parts.map fun p=>(p.1,den p.2))=some (done++css)∧css.map (fun r=>r.map wk)=avRows (l.map (CT.row X.toSE c))
 |[],n,l,done,h,_=>by
  simp only[litD,Option.some.injEq]at h
  subst h
  exact⟨[],by simp[fillR],rfl⟩
 |(j,x)::rest,n,l,done,h,hd=>by
  simp only[litD]at h
  split at h
  ·rename_i hj
   subst hj
   rw[bind_eq_some_iff]at h;obtain⟨y,h1,h⟩:=h
   rw[bind_eq_some_iff]at h;obtain⟨l',h2,h⟩:=h
   injection h with h
   subst h
   obtain⟨cs,g1,g2⟩:=dat_cells h1
   have hl:cs.length=size:=by
    have:=congrArg List.length g2
    simp only[List.length_map,row_sz]at this
    omega
   obtain⟨css,i1,i2⟩:=fillR_lit size c hs z rest (j+1) l' (done++[cs]) h2 (by simp[hd])
   refine⟨cs::css,?_,?_⟩
   ·simp only[map_cons,fillR,g1,bind_some]
    rw[if_pos ⟨hl,by simp;omega⟩]
    have:(done++List.replicate (rest.length+1) z).set j cs=done++[cs]++List.replicate rest.length z:=by
     rw[List.set_append_right _ _ (by omega),hd]
     simp[List.replicate_succ]
    simp only[List.length_cons,this,i1]
    simp
   ·simp only[map_cons,i2,g2,avRows,map_cons]
  ·cases h
theorem buildSliceD_sound {t:TypeId} {len:Nat} {parts:List (Nat×DV X)} (h:buildSliceD T code i t len parts k=some r):∃ dv u out,aBuildSlice T i t len (parts.map fun p=>(p.1,den p.2))=some out∧AllP out.obs∧out.v=den dv∧out.upd=denU [(nid i,u)]∧k dv [(nid i,u)] [] []=some r:=by
 unfold buildSliceD at h
 unfold aBuildSlice
 rw[bind_eq_some_iff]at h;obtain⟨ti,h1,h⟩:=h
 simp only[h1,bind_some]
 split at h
 ·rename_i e hk
  rw[bind_eq_some_iff]at h;obtain⟨ei,h2,h⟩:=h
  rw[bind_eq_some_iff]at h;obtain⟨c,h3,h⟩:=h
  simp only[hk,h2,bind_some]
  split at h
  ·cases h
  ·rename_i hno
   simp only[not_or,Decidable.not_not]at hno
   obtain⟨n1,n2,n3,n4⟩:=hno
   rw[bind_eq_some_iff]at h;obtain⟨l,h4,h⟩:=h
   obtain⟨css,g1,g2⟩:=fillR_lit ei.size c n3 (ei.zero.map cv) parts 0 l [] h4 rfl
   simp only[nil_append,n4]at g1
   refine⟨_,_,⟨.own (nid i) 0 len,[(nid i,some ⟨ei.size,wkRows css⟩)],[]⟩,?_,trivial,rfl,?_,h⟩
   ·rw[if_neg (by simp only[not_or];exact⟨n1,n2⟩),g1];rfl
   ·simp only[denU,denO,map_cons,List.map_nil,Option.map_some,n3]
    rw[show wkRows css=avRows (l.map (CT.row X.toSE c))from g2]
 ·cases h
theorem allocD_sound {e:TypeId} (h:allocD T i e k=some r):∃ dv u out,aAlloc T i e=some out∧AllP out.obs∧out.v=den dv∧out.upd=denU [(nid i,u)]∧k dv [(nid i,u)] [] []=some r:=by
 unfold allocD at h
 unfold aAlloc
 rw[bind_eq_some_iff]at h;obtain⟨ti,h1,h⟩:=h
 exact⟨_,_,⟨_,[(nid i,some ⟨ti.size,[ti.zero.map cv]⟩)],[]⟩,by simp only[h1,bind_some];rfl,trivial,rfl,by simp[denU,denO,cvDs_den],h⟩
theorem boxD_sound {x:DV X} (h:boxD i x k=some r):∃ dv u out,aBox i (den x)=some out∧AllP out.obs∧out.v=den dv∧out.upd=denU [(nid i,u)]∧k dv [(nid i,u)] [] []=some r:=by
 unfold boxD at h
 unfold aBox
 rw[bind_eq_some_iff]at h;obtain⟨cs,h1,h⟩:=h
 exact⟨_,_,⟨_,[(nid i,some ⟨(denL cs).length,[denL cs]⟩)],[]⟩,by simp only[cellsD_den h1,bind_some];rfl,trivial,rfl,by simp[denU,denO,denL_length],h⟩
theorem bndD_den {d n:Int} {x:Option (DV X)} (h:bndD d x=some n):bnd d (x.map den)=some n:=by
 unfold bndD at h
 split at h
 ·exact h
 ·exact h
 ·cases h
theorem slOk_spec {l h:Int} {len:Nat} (hh:slOk l h len=true):0≤l∧l≤h∧h≤(len:Int):=by
 simpa[slOk,and_assoc]using hh
theorem sliceD_sound {t:TypeId} {x:DV X} {lo hi:Option (DV X)} (h:sliceD T t x lo hi get k=some r):∃ orc rd dv out,aSlice T t (den x) (lo.map den) (hi.map den) orc (restr rd (aget get))=some out∧AllP out.obs∧out.v=den dv∧out.upd=[]∧k dv [] rd []=some r:=by
 unfold sliceD at h
 unfold aSlice
 rw[bind_eq_some_iff]at h;obtain⟨ti,h1,h⟩:=h
 simp only[h1,bind_some]
 split at h
 ·rename_i e hk
  rw[bind_eq_some_iff]at h;obtain⟨ei,h2,h⟩:=h
  simp only[hk,h2,bind_some]
  split at h
  ·rename_i kk off len
   rw[bind_eq_some_iff]at h;obtain⟨o,h3,h⟩:=h
   split at h
   ·rename_i hs
    rw[bind_eq_some_iff]at h;obtain⟨l,h4,h⟩:=h
    rw[bind_eq_some_iff]at h;obtain⟨hh,h5,h⟩:=h
    obtain⟨h6,h⟩:=cond_some h
    refine⟨.none,[kk],_,⟨.own kk (off+l.toNat) (hh.toNat - l.toNat),[],[0≤l∧l≤hh∧hh≤(len:Int)]⟩,?_,slOk_spec h6,rfl,rfl,h⟩
    simp only[den,restr_get (List.mem_singleton_self kk) h3,bind_some]
    rw[if_pos hs,bndD_den h4,bind_some,bndD_den h5];rfl
   ·cases h
  ·rename_i c xs
   split at h
   ·rename_i hs
    rw[bind_eq_some_iff]at h;obtain⟨l,h4,h⟩:=h
    rw[bind_eq_some_iff]at h;obtain⟨hh,h5,h⟩:=h
    obtain⟨h6,h⟩:=cond_some h
    refine⟨.tsub ((sub xs l.toNat (hh.toNat - l.toNat)).map (CT.row X.toSE c)),[],_,⟨.t (.sl ((sub xs l.toNat (hh.toNat - l.toNat)).map (CT.row X.toSE c))),[],[0≤l∧l≤hh∧hh≤((xs.map (CT.row X.toSE c)).length:Int)∧(sub xs l.toNat (hh.toNat - l.toNat)).map (CT.row X.toSE c)=((xs.map (CT.row X.toSE c)).drop l.toNat).take (hh.toNat - l.toNat)∧(∀ q∈xs.map (CT.row X.toSE c),q.length=ei.size)]⟩,?_,?_,rfl,rfl,h⟩
    ·simp only[den,CT.tv,TV.av,bndD_den h4,bind_some]
     have h7:bnd ((xs.map (CT.row X.toSE c)).length:Int) (hi.map den)=some hh:=by
      have:=bndD_den h5
      simpa using this
     rw[h7];rfl
    ·obtain⟨a1,a2,a3⟩:=slOk_spec h6
     refine⟨a1,a2,by simpa using a3,by simp[sub,List.map_take,List.map_drop],fun q hq=>?_⟩
     obtain⟨y,_,rfl⟩:=mem_map.1 hq
     rw[row_sz];exact hs
   ·cases h
  ·cases h
 ·cases h
end
end Go.Gb
namespace Go.Gb
open Go.RowKit
section
variable {X:SX} {A:Type} {T:Tab} {code:TypeId→Option (CT X.ι)} {get:Nat→Option (DObj X)} {k:KK X A} {r:A} {i:Nat}
theorem castL_den {b c:CT X.ι} {l:List (CT.T X.toSE b)} {l':List (CT.T X.toSE c)} (h:castC (.sl b) (.sl c) l=some l'):CT.sz X b=CT.sz X c∧l.map (CT.row X.toSE b)=l'.map (CT.row X.toSE c):=by
 obtain⟨e,h⟩:=castC_some h
 injection e with e
 subst e;subst h
 exact⟨rfl,rfl⟩
theorem srcD_den {y:DV X} {c:CT X.ι} {n:Nat} {l:List (CT.T X.toSE c)} {rd:List Nat} (h:srcD y c get=some (n,l,rd)) (hl:l.length=n) (rd':List Nat) (hrd:∀ j∈rd,j∈rd'):
 ∃ ob,srcOf (CT.sz X c) (den y) (restr rd' (aget get))=some (n,ob,avRows (l.map (CT.row X.toSE c)))∧ob:=by
 unfold srcD at h
 split at h
 ·rename_i kk off len
  rw[bind_eq_some_iff]at h;obtain⟨o,h1,h⟩:=h
  split at h
  ·rename_i b l0
   rw[bind_eq_some_iff]at h;obtain⟨l1,h2,h⟩:=h
   injection h with h
   simp only[Prod.mk.injEq]at h
   obtain⟨rfl,rfl,rfl⟩:=h
   obtain⟨h3,h4⟩:=castL_den h2
   refine⟨True,?_,trivial⟩
   simp only[den,srcOf,restr_get (hrd kk (by simp)) h1,bind_some,denO]
   rw[if_pos h3]
   simp only[h4,Option.some.injEq,Prod.mk.injEq,true_and]
   simp[avRows,sub,List.map_take,List.map_drop]
  ·cases h
 ·rename_i b l0
  rw[bind_eq_some_iff]at h;obtain⟨l1,h2,h⟩:=h
  injection h with h
  simp only[Prod.mk.injEq]at h
  obtain⟨rfl,rfl,rfl⟩:=h
  refine⟨∀ q∈l1.map (CT.row X.toSE c),q.length=CT.sz X c,?_,?_⟩
  ·rw[(castC_den h2).1]
   simp only[den,CT.tv,TV.av,srcOf,List.length_map]
  ·intro q hq
   obtain⟨z,_,rfl⟩:=mem_map.1 hq
   exact row_sz c z
 ·cases h
theorem appOk_spec {lo len ln n bytes:Nat} (h:appOk lo len ln n bytes=true):lo=len∧ln=n∧(len+n)*bytes≤140737488355328∧len+n≤maxLen:=by
 simpa[appOk,and_assoc]using h
theorem appendD_sound {t:TypeId} {x y:DV X} (h:appendD T code i t x y get k=some r):∃ orc rd wr dv upd out,aAppend T i t (den x) (den y) orc (restr rd (aget get))=some out∧AllP out.obs∧out.v=den dv∧out.upd=denU upd∧(∀ p∈upd,p.1=nid i∨p.1∈wr)∧k dv upd rd wr=some r:=by
 unfold appendD at h
 unfold aAppend
 rw[bind_eq_some_iff]at h;obtain⟨ti,h1,h⟩:=h
 simp only[h1,bind_some]
 split at h
 ·rename_i e hk
  rw[bind_eq_some_iff]at h;obtain⟨ei,h2,h⟩:=h
  rw[bind_eq_some_iff]at h;obtain⟨c,h3,h⟩:=h
  simp only[hk,h2,bind_some]
  split at h
  ·rename_i hs
   rw[bind_eq_some_iff]at h;obtain⟨⟨n,l,rd⟩,h4,h⟩:=h
   split at h
   ·rename_i kk len
    rw[bind_eq_some_iff]at h;obtain⟨o,h5,h⟩:=h
    split at h
    ·rename_i b l0
     rw[bind_eq_some_iff]at h;obtain⟨l1,h6,h⟩:=h
     obtain⟨h7,h⟩:=cond_some h
     obtain⟨g1,g2,g3,g4⟩:=appOk_spec h7
     obtain⟨h8,h9⟩:=castL_den h6
     obtain⟨ob,i1,i2⟩:=srcD_den h4 g2 (kk::rd) (fun j hj=>by simp[hj])
     have i3:=restr_get (rd:=kk::rd) (by simp) h5
     refine⟨.rows (avRows ((l1++l).map (CT.row X.toSE c))),kk::rd,[kk],_,_,⟨.own (nid i) 0 (avRows ((l1++l).map (CT.row X.toSE c))).length,[(nid i,some ⟨ei.size,avRows ((l1++l).map (CT.row X.toSE c))⟩),(kk,none)],
      [ob∧(avRows (l1.map (CT.row X.toSE c))).length=len∧(avRows (l.map (CT.row X.toSE c))).length=n∧avRows ((l1++l).map (CT.row X.toSE c))=avRows (l1.map (CT.row X.toSE c))++avRows (l.map (CT.row X.toSE c))∧(len+n)*ei.bytes≤140737488355328∧len+n≤maxLen]⟩,?_,?_,?_,?_,?_,h⟩
     ·rw[hs]at i1
      simp only[i1,bind_some,den,i3,denO,h9]
      rw[if_pos ⟨by rw[h8,hs],trivial⟩]
     ·exact⟨i2,by simpa[avRows]using g1,by simpa[avRows]using g2,by simp[avRows],g3,g4⟩
     ·simp[den,avRows]
     ·simp[denU,denO,hs]
     ·intro p hp
      simp only[mem_cons,List.not_mem_nil,or_false]at hp
      rcases hp with rfl |rfl
      ·exact .inl rfl
      ·exact .inr (by simp)
    ·cases h
   ·obtain⟨h7,h⟩:=cond_some h
    obtain⟨g1,g2,g3,g4⟩:=appOk_spec h7
    obtain⟨ob,i1,i2⟩:=srcD_den h4 g2 rd (fun j hj=>hj)
    refine⟨.rows (avRows (l.map (CT.row X.toSE c))),rd,[],_,_,⟨.own (nid i) 0 (avRows (l.map (CT.row X.toSE c))).length,[(nid i,some ⟨ei.size,avRows (l.map (CT.row X.toSE c))⟩)],
     [ob∧(avRows (l.map (CT.row X.toSE c))).length=n∧avRows (l.map (CT.row X.toSE c))=avRows (l.map (CT.row X.toSE c))∧n*ei.bytes≤140737488355328∧n≤maxLen]⟩,?_,?_,?_,?_,?_,h⟩
    ·rw[hs]at i1
     simp only[i1,bind_some,den]
    ·exact⟨i2,by simpa[avRows]using g2,rfl,by simpa using g3,by simpa using g4⟩
    ·simp[den,avRows]
    ·simp[denU,denO,hs]
    ·intro p hp
     simp only[mem_cons,List.not_mem_nil,or_false]at hp
     rcases hp with rfl
     exact .inl rfl
   ·cases h
  ·cases h
 ·cases h
def SdOp (T:Tab) (i:Nat) (o:Oper) (ρ:Operand→DV X) (get:Nat→Option (DObj X)) (k:KK X A) (r:A):Prop:=
 ∃ orc rd wr dv upd out,absOp T i o orc (fun x=>den (ρ x)) (restr rd (aget get))=some out∧AllP out.obs∧out.v=den dv∧out.upd=denU upd∧(∀ p∈upd,p.1=nid i∨p.1∈wr)∧k dv upd rd wr=some r
theorem builtinD_sound {b:Builtin} {args:List (DV X)} {tys:List TypeId} (h:builtinD T code i b args tys get k=some r):∃ orc rd wr dv upd out,aBuiltin T i b (denL args) tys orc (restr rd (aget get))=some out∧AllP out.obs∧out.v=den dv∧out.upd=denU upd∧(∀ p∈upd,p.1=nid i∨p.1∈wr)∧k dv upd rd wr=some r:=by
 unfold builtinD at h
 unfold aBuiltin
 split at h
 ·obtain⟨orc,dv,out,h1,h2,h3,h4,h5⟩:=lenD_sound h
  exact⟨orc,[],[],dv,[],out,h1,h2,h3,h4,by simp,h5⟩
 ·obtain⟨dv,out,h1,h2,h3,h4,h5⟩:=mmD_sound h
  exact⟨.none,[],[],dv,[],out,h1,h2,h3,h4,by simp,h5⟩
 ·obtain⟨dv,out,h1,h2,h3,h4,h5⟩:=mmD_sound h
  exact⟨.none,[],[],dv,[],out,h1,h2,h3,h4,by simp,h5⟩
 ·split at h
  ·rename_i htu
   obtain⟨orc,rd,wr,dv,upd,out,h1,h2⟩:=appendD_sound h
   refine⟨orc,rd,wr,dv,upd,out,?_,h2⟩
   simp only[denL]
   rw[if_pos htu];exact h1
  ·cases h
 ·cases h
theorem map_den (ρ:Operand→DV X) (l:List Operand):l.map (fun x=>den (ρ x))=denL (l.map ρ):=by rw[denL_map,List.map_map];rfl
theorem opD_sound {o:Oper} {ρ:Operand→DV X} (h:opD T code i o.op ρ get k=some r):SdOp T i o ρ get k r:=by
 obtain⟨dst,op,ty,pos,after,guard⟩:=o
 unfold SdOp absOp
 simp only at h
 unfold opD at h
 split at h
 ·exact⟨.none,[],[],_,[],_,rfl,trivial,rfl,rfl,by simp,h⟩
 ·exact⟨.none,[],[],_,[],_,rfl,trivial,rfl,rfl,by simp,h⟩
 ·rename_i c a b
  split at h
  ·rename_i t hc
   refine⟨.none,[],[],_,[],⟨pickV t (den (ρ a)) (den (ρ b)),[],[]⟩,?_,trivial,(pickD_den t _ _).symm,rfl,by simp,h⟩
   simp only[hc,den,CT.tv,TV.av,pv]
  ·cases h
 ·obtain⟨dv,u,out,h1,h2,h3,h4,h5⟩:=allocD_sound h
  exact⟨.none,[],[],dv,_,out,h1,h2,h3,h4,by simp,h5⟩
 ·obtain⟨dv,u,out,h1,h2,h3,h4,h5⟩:=boxD_sound h
  exact⟨.none,[],[],dv,_,out,h1,h2,h3,h4,by simp,h5⟩
 ·rename_i t parts
  obtain⟨dv,out,h1,h2,h3,h4,h5⟩:=buildD_sound h
  refine⟨.none,[],[],dv,[],out,?_,h2,h3,h4,by simp,h5⟩
  rw[List.map_map]at h1;exact h1
 ·rename_i t len parts
  obtain⟨dv,u,out,h1,h2,h3,h4,h5⟩:=buildSliceD_sound h
  refine⟨.none,[],[],dv,_,out,?_,h2,h3,h4,by simp,h5⟩
  rw[List.map_map]at h1;exact h1
 ·obtain⟨orc,rd,dv,out,h1,h2,h3,h4,h5⟩:=ldD_sound h
  exact⟨orc,rd,[],dv,[],out,h1,h2,h3,h4,by simp,h5⟩
 ·obtain⟨orc,kk,u,out,h1,h2,h3,h4,h5⟩:=stD_sound h
  exact⟨orc,[kk],[kk],.undef,_,out,h1,h2,h3,h4,by simp,h5⟩
 ·obtain⟨dv,out,h1,h2,h3,h4,h5⟩:=binD_sound h
  exact⟨.none,[],[],dv,[],out,h1,h2,h3,h4,by simp,h5⟩
 ·obtain⟨dv,out,h1,h2,h3,h4,h5⟩:=unD_sound h
  exact⟨.none,[],[],dv,[],out,h1,h2,h3,h4,by simp,h5⟩
 ·rename_i f first caps
  refine⟨.none,[],[],_,[],⟨.fn f (first.toList.map fun x=>den (ρ x)) (caps.toList.map fun x=>den (ρ x)),[],[]⟩,rfl,trivial,?_,rfl,by simp,h⟩
  simp only[den,map_den]
 ·rename_i t x lo hi
  obtain⟨orc,rd,dv,out,h1,h2,h3,h4,h5⟩:=sliceD_sound h
  refine⟨orc,rd,[],dv,[],out,?_,h2,h3,h4,by simp,h5⟩
  simp only[Option.map_map]at h1;exact h1
 ·obtain⟨dv,out,h1,h2,h3,h4,h5⟩:=fieldAddrD_sound h
  exact⟨.none,[],[],dv,[],out,h1,h2,h3,h4,by simp,h5⟩
 ·obtain⟨dv,out,h1,h2,h3,h4,h5⟩:=fieldD_sound h
  exact⟨.none,[],[],dv,[],out,h1,h2,h3,h4,by simp,h5⟩
 ·obtain⟨orc,rd,dv,out,h1,h2,h3,h4,h5⟩:=indexAddrD_sound h
  exact⟨orc,rd,[],dv,[],out,h1,h2,h3,h4,by simp,h5⟩
 ·obtain⟨dv,out,h1,h2,h3,h4,h5⟩:=extractD_sound h
  exact⟨.none,[],[],dv,[],out,h1,h2,h3,h4,by simp,h5⟩
 ·rename_i b args tys
  obtain⟨orc,rd,wr,dv,upd,out,h1,h2⟩:=builtinD_sound h
  refine⟨orc,rd,wr,dv,upd,out,?_,h2⟩
  simp only[map_den];exact h1
 ·cases h
end
end Go.Gb
namespace Go.Gb
open Go.RowKit
inductive Pt (ι:Type) where
 |v (c:CT ι)
 |o (k:Nat)
 |p (k:Nat)
 |nil
 |f (F:FuncId) (fs cs:List (Pt ι))
 |od (k:Nat)
 |mp (k:Nat)
 |a (ps:List (Pt ι))
inductive OP (ι:Type) where
 |l (c:CT ι)
 |m (k v:CT ι)
 |c (sz:Nat) (rows:List (List (Pt ι)))
section
variable {ι:Type}
mutual
def Pt.vars:Pt ι→List (CT ι)
 | .v c=>[c]
 | .a ps=>varsL ps
 | .f _ fs cs=>varsL fs++varsL cs
 | .od _=>[.int .i64]
 |_=>[]
def varsL:List (Pt ι)→List (CT ι)
 |[]=>[]
 |p::ps=>p.vars++varsL ps
end
def varsS:List (Nat×Pt ι)→List (CT ι)
 |[]=>[]
 |p::ps=>p.2.vars++varsS ps
def varsR:List (List (Pt ι))→List (CT ι)
 |[]=>[]
 |r::rs=>varsL r++varsR rs
def varsO:List (Nat×OP ι)→List (CT ι)
 |[]=>[]
 |(_,.l c)::r=> .sl c::varsO r
 |(_,.m k v)::r=> .mp k v::varsO r
 |(_,.c _ rows)::r=>varsR rows++varsO r
end
section
variable {X:SX}
structure DC (X:SX) where
 c:CT X.ι
 x:CT.T X.toSE c
@[reducible] def VT:List (CT X.ι)→Type
 |[]=>Unit
 |[c]=>CT.T X.toSE c
 |c::c'::l=>CT.T X.toSE c×VT (c'::l)
def toVT:(l:List (CT X.ι))→List (DC X)→Option (VT (X:=X) l)
 |[],[]=>some ()
 |[c],[d]=>castC d.c c d.x
 |c::c'::l,d::ds=>(castC d.c c d.x).bind fun x=>(toVT (c'::l) ds).bind fun v=>some (x,v)
 |_,_=>none
def dcsV:(l:List (CT X.ι))→VT (X:=X) l→List (DC X)
 |[],_=>[]
 |[c],x=>[⟨c,x⟩]
 |c::c'::l,v=>⟨c,v.1⟩::dcsV (c'::l) v.2
theorem castC_dc {d:DC X} {c:CT X.ι} {x:CT.T X.toSE c} (h:castC d.c c d.x=some x):(⟨c,x⟩:DC X)=d:=by
 obtain⟨a,y⟩:=d
 obtain⟨e,h⟩:=castC_some h
 simp only at e
 subst e;subst h;rfl
theorem toVT_dcs:∀ {l:List (CT X.ι)} {ds:List (DC X)} {v:VT (X:=X) l},toVT l ds=some v→dcsV l v=ds
 |[],[],_,_=>rfl
 |[c],[d],v,h=>by simp only[toVT]at h;simp only[dcsV,castC_dc h]
 |c::c'::l,d::ds,v,h=>by
  simp only[toVT]at h
  rw[bind_eq_some_iff]at h;obtain⟨x,h1,h⟩:=h
  rw[bind_eq_some_iff]at h;obtain⟨v',h2,h⟩:=h
  injection h with h
  subst h
  simp only[dcsV,castC_dc h1,toVT_dcs h2]
 |[],_::_,_,h=>by simp[toVT]at h
 |[_],[],_,h=>by simp[toVT]at h
 |[_],_::_::_,_,h=>by simp[toVT]at h
 |_::_::_,[],_,h=>by simp[toVT]at h
theorem castC_self {c:CT X.ι} (x:CT.T X.toSE c):castC c c x=some x:=by
 unfold castC
 split
 ·rfl
 ·rename_i h _;exact absurd rfl h
def offOf (d:DC X):Nat:=match castC d.c (.int .i64) d.x with |some x=>Int.toNat x |none=>0
section
variable (olen:Nat→Nat)
mutual
def eP:Pt X.ι→List (DC X)→DV X×List (DC X)
 | .v _,L=>match L with
  |d::r=>(.c d.c d.x,r)
  |[]=>(.undef,[])
 | .o k,L=>(.own k 0 (olen k),L)
 | .p k,L=>(.ptr k 0 0,L)
 | .mp k,L=>(.mp k,L)
 | .nil,L=>(.nil,L)
 | .f F fs cs,L=>(.fn F (ePs fs L).1 (ePs cs (ePs fs L).2).1,(ePs cs (ePs fs L).2).2)
 | .od k,L=>match L with
  |d::r=>(.own k (offOf d) (olen k - offOf d),r)
  |[]=>(.undef,[])
 | .a ps,L=>(.agg (ePs ps L).1,(ePs ps L).2)
def ePs:List (Pt X.ι)→List (DC X)→List (DV X)×List (DC X)
 |[],L=>([],L)
 |p::ps,L=>((eP p L).1::(ePs ps (eP p L).2).1,(ePs ps (eP p L).2).2)
end
def eSlots:List (Nat×Pt X.ι)→List (DC X)→List (Nat×DV X)
 |[],_=>[]
 |(t,p)::r,L=>(t,(eP olen p L).1)::eSlots r (eP olen p L).2
def eRows:List (List (Pt X.ι))→List (DC X)→List (List (DV X))×List (DC X)
 |[],L=>([],L)
 |r::rs,L=>((ePs olen r L).1::(eRows rs (ePs olen r L).2).1,(eRows rs (ePs olen r L).2).2)
def eObjs:List (Nat×OP X.ι)→List (DC X)→List (Nat×Option (DObj X))
 |[],_=>[]
 |(k,.l _)::r,L=>match L with
  |⟨.sl c',x⟩::L=>(k,some (.lst c' x))::eObjs r L
  |_=>[]
 |(k,.m _ _)::r,L=>match L with
  |⟨.mp kc vc,x⟩::L=>(k,some (.map kc vc x))::eObjs r L
  |_=>[]
 |(k,.c sz rows)::r,L=>(k,some (.cells sz (eRows olen rows L).1))::eObjs r (eRows olen rows L).2
end
def lens:List (Nat×OP X.ι)→List (DC X)→List (Nat×Nat)
 |[],_=>[]
 |(k,.l _)::r,L=>match L with
  |⟨.sl _,x⟩::L=>(k,List.length x)::lens r L
  |_=>[]
 |(_,.m _ _)::r,L=>lens r (L.drop 1)
 |(_,.c _ rows)::r,L=>lens r (L.drop (varsR rows).length)
def zipS:Nat→List (Pt X.ι)→List (Nat×Pt X.ι)
 |_,[]=>[]
 |n,p::ps=>(n,p)::zipS (n+1) ps
theorem varsS_zip:∀ (n:Nat) (ps:List (Pt X.ι)),varsS (zipS n ps)=varsL ps
 |_,[]=>rfl
 |n,p::ps=>by simp only[zipS,varsS,varsL,varsS_zip (n+1) ps]
structure GSig (X:SX) where
 inP:List (Pt X.ι)
 inO:List (Nat×OP X.ι)
 outP:List (Pt X.ι)
 outO:List (Nat×OP X.ι)
 fn:VT (X:=X) (varsL inP++varsO inO)→Option (VT (X:=X) (varsS (zipS 0 outP)++varsO outO))
def olenOf (O:List (Nat×OP X.ι)) (L:List (DC X)) (k:Nat):Nat:=(lk (lens O L) k).getD 0
def pVals (ps:List (Pt X.ι)) (O:List (Nat×OP X.ι)) (L:List (DC X)):List (DV X):=(ePs (olenOf O (L.drop (varsL ps).length)) ps (L.take (varsL ps).length)).1
def pObjs (ps:List (Pt X.ι)) (O:List (Nat×OP X.ι)) (L:List (DC X)):List (Nat×Option (DObj X)):=eObjs (olenOf O (L.drop (varsL ps).length)) O (L.drop (varsL ps).length)
def theOne:List (DV X)→DV X
 |[d]=>d
 |ds=> .tup ds
def someO:List (Nat×Option (DObj X))→List (Nat×DObj X)
 |[]=>[]
 |(k,some o)::r=>(k,o)::someO r
 |(_,none)::r=>someO r
def denOs (l:List (Nat×DObj X)):List (Nat×AObj):=l.map fun p=>(p.1,denO p.2)
def GSig.args (g:GSig X) (v:VT (X:=X) (varsL g.inP++varsO g.inO)):List (DV X):=pVals g.inP g.inO (dcsV _ v)
def GSig.objs (g:GSig X) (v:VT (X:=X) (varsL g.inP++varsO g.inO)):List (Nat×DObj X):=someO (pObjs g.inP g.inO (dcsV _ v))
def GSig.res (g:GSig X) (r:VT (X:=X) (varsS (zipS 0 g.outP)++varsO g.outO)):DV X:=theOne (pVals g.outP g.outO (dcsV _ r))
def GSig.outs (g:GSig X) (r:VT (X:=X) (varsS (zipS 0 g.outP)++varsO g.outO)):List (Nat×DObj X):=someO (pObjs g.outP g.outO (dcsV _ r))
def GCon (P:Program) (f:FuncId) (g:GSig X):Prop:=∀ v r,g.fn v=some r→FnG P f (denL (g.args v)) ((g.objs v).map fun p=>denO p.2) (denOs (g.outs r)) (den (g.res r))
end
end Go.Gb
namespace Go.Gb
open Go.RowKit
inductive AT (ι:Type) where
 |d (c:CT ι)
 |ref (c:CT ι)
 |clo (as:List (CT ι)) (r:CT ι)
 |mut (c:CT ι)
 |mref (c:CT ι)
 |nil
 deriving DecidableEq
def AT.im {ι:Type}:AT ι→Bool
 | .mut _ | .mref _=>true
 |_=>false
def AT.pl {ι:Type}:AT ι→Bool
 | .mut _ | .mref _ | .nil=>false
 |_=>true
inductive RT (ι:Type) where
 |d (c:CT ι)
 |fresh (e:CT ι)
 |whole (j:Nat)
 |mu (c:CT ι)
 |mr (c:CT ι)
 |mv
def RT.out {ι:Type}:RT ι→Bool
 | .mu _ | .mr _ | .mv=>true
 |_=>false
section
variable (X:SX)
@[reducible] def AT.T:AT X.ι→Type
 | .d c=>CT.T X.toSE c
 | .ref c=>CT.T X.toSE c
 | .clo as r=>HL X.toSE as→Option (CT.T X.toSE r)
 | .mut c=>List (CT.T X.toSE c)
 | .mref c=>CT.T X.toSE c
 | .nil=>Unit
@[reducible] def RT.T:RT X.ι→Type
 | .d c=>CT.T X.toSE c
 | .fresh e=>List (CT.T X.toSE e)
 | .whole _=>Unit
 | .mu c=>List (CT.T X.toSE c)
 | .mr c=>CT.T X.toSE c
 | .mv=>Unit
@[reducible] def ArgsT:List (AT X.ι)→Type
 |[]=>Unit
 |a::l=>AT.T X a×ArgsT l
@[reducible] def ResT:List (RT X.ι)→Type
 |[]=>Unit
 |[r]=>RT.T X r
 |r::r'::l=>RT.T X r×ResT (r'::l)
structure Sig where
 args:List (AT X.ι)
 res:List (RT X.ι)
 fn:ArgsT X args→Option (ResT X res)
 gen:Option (GSig X):=none
variable {X}
def argAVn:Nat→(l:List (AT X.ι))→ArgsT X l→List AV
 |_,[],_=>[]
 |n,.d c::l,a=>(CT.tv X.toSE c a.1).av::argAVn n l a.2
 |n,.ref c::l,a=> .rptr (CT.row X.toSE c a.1) 0::argAVn n l a.2
 |n,.clo as r::l,a=>den (.clo as r a.1:DV X)::argAVn n l a.2
 |n,.mut _::l,a=> .own n 0 (List.length a.1)::argAVn (n+1) l a.2
 |n,.mref _::l,a=> .ptr n 0 0::argAVn (n+1) l a.2
 |n,.nil::l,a=> .nilsl::argAVn n l a.2
abbrev argAV (l:List (AT X.ι)) (a:ArgsT X l):List AV:=argAVn 0 l a
def mutR (c:CT X.ι) (l:List (CT.T X.toSE c)):RowsT:=(CT.sz X c,l.map (CT.row X.toSE c))
def objA:(l:List (AT X.ι))→ArgsT X l→List RowsT
 |[],_=>[]
 | .mut c::l,a=>mutR c a.1::objA l a.2
 | .mref c::l,a=>mutR c [a.1]::objA l a.2
 | .d _::l,a=>objA l a.2
 | .ref _::l,a=>objA l a.2
 | .clo _ _::l,a=>objA l a.2
 | .nil::l,a=>objA l a.2
def outC:(r:RT X.ι)→RT.T X r→List (Option RowsT)
 | .mu c,x=>[some (mutR c x)]
 | .mr c,x=>[some (mutR c [x])]
 | .mv,_=>[none]
 |_,_=>[]
def objR:(l:List (RT X.ι))→ResT X l→List (Option RowsT)
 |[],_=>[]
 |[r],x=>outC r x
 |r::r'::l,x=>outC r x.1++objR (r'::l) x.2
def outN:(r:RT X.ι)→RT.T X r→List Nat
 | .mu _,x=>[List.length x]
 | .mr _,_=>[1]
 | .mv,_=>[0]
 |_,_=>[]
def lenR:(l:List (RT X.ι))→ResT X l→List Nat
 |[],_=>[]
 |[r],x=>outN r x
 |r::r'::l,x=>outN r x.1++lenR (r'::l) x.2
def resRC (ns:List Nat):(r:RT X.ι)→RT.T X r→List RC
 | .d c,x=>[.d (CT.tv X.toSE c x)]
 | .fresh e,l=>[.fresh (CT.sz X e) (l.map (CT.row X.toSE e))]
 | .whole j,_=>[.whole j (ns.getD j 0)]
 |_,_=>[]
def resRCs (ns:List Nat):(l:List (RT X.ι))→ResT X l→List RC
 |[],_=>[]
 |[r],x=>resRC ns r x
 |r::r'::l,x=>resRC ns r x.1++resRCs ns (r'::l) x.2
def resRV (l:List (RT X.ι)) (x:ResT X l):RV:=
 match resRCs (lenR l x) l x with
 |[c]=> .one c
 |cs=> .tup cs
def GOk (P:Program) (Γ:FuncId→Option (Sig X)):Prop:=
 ∀ f s,Γ f=some s→Callable P f∧(∀ a r,s.fn a=some r→FnW P f (argAV s.args a) (objA s.args a) (objR s.res r) (resRV s.res r))∧∀ g,s.gen=some g→GCon P f g
theorem pl_im:∀ {l:List (AT X.ι)},(l.all fun q=>q.pl)=true→(l.all fun q=>!q.im)=true:=fun {l} h=>by
 rw[all_eq_true]at h ⊢
 intro q hq
 have:=h q hq
 cases q<;>simp_all [AT.pl,AT.im]
theorem objA_nil:∀ {l:List (AT X.ι)} {a:ArgsT X l},(l.all fun q=>!q.im)=true→objA l a=[]
 |[],_,_=>rfl
 | .d _::l,a,h=>objA_nil (l:=l) (by simpa[AT.im]using h)
 | .ref _::l,a,h=>objA_nil (l:=l) (by simpa[AT.im]using h)
 | .clo _ _::l,a,h=>objA_nil (l:=l) (by simpa[AT.im]using h)
 | .mut _::l,a,h=>by simp[AT.im]at h
 | .mref _::l,a,h=>by simp[AT.im]at h
 | .nil::l,a,h=>objA_nil (l:=l) (by simpa[AT.im]using h)
theorem outC_nil {r:RT X.ι} {x:RT.T X r} (h:(!r.out)=true):outC r x=[]:=by
 cases r<;>first |rfl |simp[RT.out]at h
theorem objR_nil:∀ {l:List (RT X.ι)} {x:ResT X l},(l.all fun q=>!q.out)=true→objR l x=[]
 |[],_,_=>rfl
 |[r],x,h=>outC_nil (by simpa using h)
 |r::r'::l,x,h=>by
  simp only[List.all_cons,and_eq_true]at h
  simp only[objR,outC_nil h.1,nil_append]
  exact objR_nil (l:=r'::l) (by simp only[List.all_cons,and_eq_true];exact h.2)
mutual
def drefs:DV X→List Nat
 | .own k _ _=>[k]
 | .ptr k _ _=>[k]
 | .ptl k _ _=>[k]
 | .pta k _ _ _ _=>[k]
 | .mp k=>[k]
 | .agg cs=>drefsL cs
 | .tup cs=>drefsL cs
 | .fn _ first caps=>drefsL first++drefsL caps
 |_=>[]
def drefsL:List (DV X)→List Nat
 |[]=>[]
 |x::xs=>drefs x++drefsL xs
end
theorem refs_tv (c:CT X.ι) (x:CT.T X.toSE c):refs (CT.tv X.toSE c x).av=[]:=by
 cases c<;>try rfl
 rename_i i
 show refsL ((X.row i x).map AV.t)=[]
 generalize X.row i x=l
 induction l with
 |nil=>rfl
 |cons y ys ih=>simp only[map_cons,refsL,refs,ih,nil_append]
mutual
theorem drefs_den:∀ x:DV X,refs (den x)=drefs x
 | .c t x=>refs_tv t x
 | .agg cs=>by simp only[den,refs,drefs,drefsL_den cs]
 | .tup cs=>by simp only[den,refs,drefs,drefsL_den cs]
 | .own _ _ _=>rfl
 | .ptr _ _ _=>rfl
 | .ptl _ _ _=>rfl
 | .mp _=>rfl
 | .pta _ _ _ _ _=>rfl
 | .rp _ _ _=>rfl
 | .fn f first caps=>by simp only[den,refs,drefs,drefsL_den first,drefsL_den caps]
 | .clo _ _ _=>rfl
 | .raw v=>by
  simp only[den,drefs,cv]
  split
  ·rfl
  ·split<;>rfl
 | .nil=>rfl
 | .ub=>rfl
 | .skip=>rfl
 | .undef=>rfl
theorem drefsL_den:∀ l:List (DV X),refsL (denL l)=drefsL l
 |[]=>rfl
 |x::xs=>by simp only[denL,refsL,drefsL,drefs_den x,drefsL_den xs]
end
def lend1 (get:Nat→Option (DObj X)) (d:DV X) (c:CT X.ι):Option (CT.T X.toSE c×List Bool):=
 match d,c with
 | .own kk off len,.sl e=>(get kk).bind fun o=>match o with
  | .lst b l=>(castC (.sl b) (.sl e) l).bind fun (l:List (CT.T X.toSE e))=>some (sub l off len,[eqL (sub l off len).length len])
  |_=>none
 | .own kk off len,.any=>(get kk).bind fun o=>match o with
  | .lst b l=>some (.sl (List.map (CT.row X.toSE b) (sub l off len)),[eqL (sub l off len).length len])
  |_=>none
 |d,c=>(dat1 d c).bind fun x=>some (x,[])
def lendHL (get:Nat→Option (DObj X)):List (DV X)→(l:List (CT X.ι))→Option (HL X.toSE l×List Bool)
 |[],[]=>some ((),[])
 |d::ds,c::l=>(lend1 get d c).bind fun x=>(lendHL get ds l).bind fun h=>some ((x.1,h.1),x.2++h.2)
 |_,_=>none
def lendS (get:Nat→Option (DObj X)) (d:DV X) (i:X.ι):Option (CT.T X.toSE (.st i)×List Bool):=
 match d with
 | .agg cs=>(lendHL get cs (X.tys i)).bind fun h=>some (X.make i h.1,h.2)
 | .c a x=>(castC a (.st i) x).bind fun x=>some (x,[])
 |_=>none
def lendD (get:Nat→Option (DObj X)) (d:DV X) (c:CT X.ι):Option (CT.T X.toSE c×List Bool):=
 match c with
 | .st i=>lendS get d i
 |c=>lend1 get d c
def lendR (get:Nat→Option (DObj X)) (d:DV X) (c:CT X.ι):Option (CT.T X.toSE c):=
 match d with
 | .ptr kk row 0=>(get kk).bind fun o=>match o with
  | .cells _ rows=>(rows[row]?).bind fun q=>if q.all (fun x=>match x with | .c _ _=>true |_=>false)then mkRow c q else none
  |_=>none
 | .rp a x 0=>castC a c x
 |_=>none
def apA:(l l':List (AT X.ι))→ArgsT X l→ArgsT X l'→ArgsT X (l++l')
 |[],_,_,b=>b
 |_::l,l',a,b=>(a.1,apA l l' a.2 b)
def hlA:(as:List (CT X.ι))→HL X.toSE as→ArgsT X (as.map AT.d)
 |[],_=>()
 |_::l,h=>(h.1,hlA l h.2)
def muts:List (AT X.ι)→Nat
 |[]=>0
 |q::l=>(if q.im then 1 else 0)+muts l
theorem argAV_append:∀ (n:Nat) (l l':List (AT X.ι)) (a:ArgsT X l) (b:ArgsT X l'),argAVn n (l++l') (apA l l' a b)=argAVn n l a++argAVn (n+muts l) l' b
 |n,[],_,_,_=>rfl
 |n,.d c::l,l',a,b=>by simp[argAVn,apA,argAV_append n l l' a.2 b,muts,AT.im]
 |n,.ref c::l,l',a,b=>by simp[argAVn,apA,argAV_append n l l' a.2 b,muts,AT.im]
 |n,.clo as r::l,l',a,b=>by simp[argAVn,apA,argAV_append n l l' a.2 b,muts,AT.im]
 |n,.mut c::l,l',a,b=>by simp[argAVn,apA,argAV_append (n+1) l l' a.2 b,muts,AT.im,Nat.add_assoc]
 |n,.mref c::l,l',a,b=>by simp[argAVn,apA,argAV_append (n+1) l l' a.2 b,muts,AT.im,Nat.add_assoc]
 |n,.nil::l,l',a,b=>by simp[argAVn,apA,argAV_append n l l' a.2 b,muts,AT.im]
theorem argAV_hlA:∀ (n:Nat) (as:List (CT X.ι)) (h:HL X.toSE as),argAVn n (as.map AT.d) (hlA as h)=(HL.tvs X.toSE as h).map TV.av
 |_,[],_=>rfl
 |n,c::l,h=>congrArg ((CT.tv X.toSE c h.1).av:: ·) (argAV_hlA n l h.2)
def castO {a b:CT X.ι} (h:a=b) (o:Option (CT.T X.toSE a)):Option (CT.T X.toSE b):=h ▸ o
def lendLg (get:Nat→Option (DObj X)) (clof:FuncId→List (DV X)→List (DV X)→(as:List (CT X.ι))→(r:CT X.ι)→Option ((HL X.toSE as→Option (CT.T X.toSE r))×List Bool)):List (DV X)→(l:List (AT X.ι))→Option (ArgsT X l×List Bool)
 |[],[]=>some ((),[])
 |d::ds,.d c::l=>(lendD get d c).bind fun x=>(lendLg get clof ds l).bind fun h=>some ((x.1,h.1),x.2++h.2)
 |d::ds,.ref c::l=>(lendR get d c).bind fun x=>(lendLg get clof ds l).bind fun h=>some ((x,h.1),h.2)
 |d::ds,.clo as r::l=>(match d with
  | .clo as' r' φ=>if h:as'=as∧r'=r then some (fun x=>castO h.2 (φ (h.1 ▸ x)),[])else none
  | .fn f first caps=>clof f first caps as r
  |_=>none).bind fun φ=>(lendLg get clof ds l).bind fun q=>some ((φ.1,q.1),φ.2++q.2)
 |_,_=>none
def lendA (Γ:FuncId→Option (Sig X)) (get:Nat→Option (DObj X)):Nat→List (DV X)→(l:List (AT X.ι))→Option (ArgsT X l×List Bool)
 | 0,ds,l=>lendLg get (fun _ _ _ _ _=>none) ds l
 |n+1,ds,l=>lendLg get (fun f first caps as r=>(Γ f).bind fun s=>match s with
   |⟨sa,[.d r'],fn,_⟩=>
    if h:r'=r∧sa=sa.take first.length++(as.map AT.d++sa.drop (first.length+as.length))then
     (lendA Γ get n first (sa.take first.length)).bind fun hf=>(lendA Γ get n caps (sa.drop (first.length+as.length))).bind fun hc=>
      some (fun x=>castO h.1 (fn (h.2 ▸ apA _ _ hf.1 (apA _ _ (hlA as x) hc.1))),hf.2++hc.2)
    else none
   |_=>none) ds l
section
variable {P:Program} {Γ:FuncId→Option (Sig X)} {get:Nat→Option (DObj X)} {rd:List Nat}
theorem all_app {a b:List Prop} (h:∀ p∈a,p) (h':∀ p∈b,p):∀ p∈a++b,p:=fun p hp=>(mem_append.1 hp).elim (h p) (h' p)
theorem lend1_sound {d:DV X} {c:CT X.ι} {x:CT.T X.toSE c×List Bool} (h:lend1 get d c=some x) (hc:∀ b∈x.2,b=true) (hrd:∀ j∈drefs d,j∈rd):∃ hs obs,(∀ p∈obs,p)∧∀ rest,lend P (restr rd (aget get)) (den d) (hs++rest)=some ((CT.tv X.toSE c x.1).av,rest,obs):=by
 have base:∀ {d:DV X} {c:CT X.ι} {x:CT.T X.toSE c},dat1 d c=some x→∃ hs obs,(∀ p∈obs,p)∧∀ rest,lend P (restr rd (aget get)) (den d) (hs++rest)=some ((CT.tv X.toSE c x).av,rest,obs):=by
  intro d c x h
  unfold dat1 at h
  split at h
  ·rw[(castC_den h).1]
   refine⟨[],[],by simp,fun rest=>?_⟩
   simp only[nil_append,den]
   cases c<;>try rfl
   rename_i j
   show lend P _ (.agg ((X.row j x).map AV.t)) rest=_
   have:∀ (l:List Tree) (hs:List LH),lendL P (restr rd (aget get)) (l.map AV.t) hs=some (l.map AV.t,hs,[]):=by
    intro l
    induction l with
    |nil=>intro hs;rfl
    |cons y ys ih=>intro hs;simp only[map_cons,lendL,lend,bind_some,ih,nil_append]
   simp only[lend,this,bind_some]
   rfl
  ·injection h with h
   subst h
   exact⟨[.emp],[],by simp,fun rest=>rfl⟩
  ·injection h with h
   subst h
   exact⟨[.emp],[],by simp,fun rest=>rfl⟩
  ·cases h
 unfold lend1 at h
 split at h
 ·rename_i kk off len e
  rw[bind_eq_some_iff]at h;obtain⟨o,h1,h⟩:=h
  split at h
  ·rename_i b l0
   rw[bind_eq_some_iff]at h;obtain⟨l,h2,h⟩:=h
   injection h with h
   subst h
   have h3:(sub l off len).length=len:=by simpa[eqL]using hc (eqL (sub l off len).length len) (by simp)
   obtain⟨h4,h5⟩:=castL_den h2
   refine⟨[.rows ((sub l off len).map (CT.row X.toSE e))],[(((denO (.lst b l0):AObj).rows.drop off).take len=avRows ((sub l off len).map (CT.row X.toSE e))∧((sub l off len).map (CT.row X.toSE e)).length=len)],?_,fun rest=>?_⟩
   ·intro p hp
    simp only[mem_singleton]at hp
    subst hp
    refine⟨?_,by simpa using h3⟩
    simp only[denO,h5]
    simp[avRows,sub,List.map_take,List.map_drop]
   ·simp only[List.cons_append,nil_append,den,lend,restr_get (hrd kk (by simp[drefs])) h1,bind_some]
    rfl
  ·cases h
 ·rename_i kk off len
  rw[bind_eq_some_iff]at h;obtain⟨o,h1,h⟩:=h
  split at h
  ·rename_i b l0
   injection h with h
   subst h
   have h3:(sub l0 off len).length=len:=by simpa[eqL]using hc (eqL (sub l0 off len).length len) (by simp)
   refine⟨[.rows ((sub l0 off len).map (CT.row X.toSE b))],[(((denO (.lst b l0):AObj).rows.drop off).take len=avRows ((sub l0 off len).map (CT.row X.toSE b))∧((sub l0 off len).map (CT.row X.toSE b)).length=len)],?_,fun rest=>?_⟩
   ·intro p hp
    simp only[mem_singleton]at hp
    subst hp
    refine⟨?_,by simpa using h3⟩
    simp only[denO]
    simp[avRows,sub,List.map_take,List.map_drop]
   ·simp only[List.cons_append,nil_append,den,lend,restr_get (hrd kk (by simp[drefs])) h1,bind_some]
    rfl
  ·cases h
 ·rw[bind_eq_some_iff]at h;obtain⟨y,h1,h⟩:=h
  injection h with h
  subst h
  exact base h1
theorem lendHL_sound:∀ {ds:List (DV X)} {l:List (CT X.ι)} {h:HL X.toSE l×List Bool},lendHL get ds l=some h→(∀ b∈h.2,b=true)→l.all CT.one=true→(∀ j∈drefsL ds,j∈rd)→
 ∃ hs obs,(∀ p∈obs,p)∧∀ rest,lendL P (restr rd (aget get)) (denL ds) (hs++rest)=some ((HL.row X.toSE l h.1).map AV.t,rest,obs)
 |[],[],h,_,_,_,_=>⟨[],[],by simp,fun rest=>rfl⟩
 |d::ds,c::l,h,hr,hc,ha,hrd=>by
  simp only[lendHL]at hr
  rw[bind_eq_some_iff]at hr;obtain⟨x,h1,hr⟩:=hr
  rw[bind_eq_some_iff]at hr;obtain⟨g,h2,hr⟩:=hr
  injection hr with hr
  subst hr
  simp only[List.all_cons,and_eq_true]at ha
  obtain⟨hs1,o1,p1,q1⟩:=lend1_sound (P:=P) (rd:=rd) h1 (fun b hb=>hc b (by simp[hb])) (fun j hj=>hrd j (by simp[drefsL,hj]))
  obtain⟨hs2,o2,p2,q2⟩:=lendHL_sound h2 (fun b hb=>hc b (by simp[hb])) ha.2 (fun j hj=>hrd j (by simp[drefsL,hj]))
  refine⟨hs1++hs2,o1++o2,all_app p1 p2,fun rest=>?_⟩
  simp only[denL,lendL,append_assoc,q1,bind_some,q2]
  show _=some ((CT.row X.toSE c x.1++HL.row X.toSE l g.1).map AV.t,rest,o1++o2)
  rw[List.map_append,← tv_one ha.1 x.1];rfl
 |[],_::_,_,hr,_,_,_=>by simp[lendHL]at hr
 |_::_,[],_,hr,_,_,_=>by simp[lendHL]at hr
theorem lendD_sound {d:DV X} {c:CT X.ι} {x:CT.T X.toSE c×List Bool} (h:lendD get d c=some x) (hc:∀ b∈x.2,b=true) (hrd:∀ j∈drefs d,j∈rd):∃ hs obs,(∀ p∈obs,p)∧∀ rest,lend P (restr rd (aget get)) (den d) (hs++rest)=some ((CT.tv X.toSE c x.1).av,rest,obs):=by
 cases c
 case st i=>
  replace h:lendS get d i=some x:=h
  cases d
  case agg cs=>
   simp only[lendS]at h
   rw[bind_eq_some_iff]at h;obtain⟨g,h1,h⟩:=h
   injection h with h
   subst h
   obtain⟨hs,obs,p1,q1⟩:=lendHL_sound (P:=P) (rd:=rd) h1 hc (X.flat i) (fun j hj=>hrd j (by simpa[drefs]using hj))
   refine⟨hs,obs,p1,fun rest=>?_⟩
   simp only[den,lend,q1,bind_some,CT.tv,TV.av]
   rw[X.row_make]
  case c a y=>exact lend1_sound (c:= .st i) (x:=x) (by unfold lend1;exact h) hc hrd
  all_goals cases h
 all_goals exact lend1_sound h hc hrd
theorem lendR_sound {d:DV X} {c:CT X.ι} {x:CT.T X.toSE c} (h:lendR get d c=some x) (hrd:∀ j∈drefs d,j∈rd):∃ hs obs,(∀ p∈obs,p)∧∀ rest,lend P (restr rd (aget get)) (den d) (hs++rest)=some (.rptr (CT.row X.toSE c x) 0,rest,obs):=by
 unfold lendR at h
 split at h
 ·rename_i kk row
  rw[bind_eq_some_iff]at h;obtain⟨o,h1,h⟩:=h
  split at h
  ·rename_i sz rows
   rw[bind_eq_some_iff]at h;obtain⟨q,h2,h⟩:=h
   split at h
   ·rename_i hq
    refine⟨[.row (CT.row X.toSE c x)],[(denO (.cells sz rows):AObj).rows[row]? =some ((CT.row X.toSE c x).map AV.t)],?_,fun rest=>?_⟩
    ·intro p hp
     simp only[mem_singleton]at hp
     subst hp
     simp only[denO,List.getElem?_map,h2,Option.map_some]
     rw[← mkRow_den h,denL_map,List.map_map]
     congr 1
     refine List.map_congr_left fun y hy=>?_
     have:=all_eq_true.1 hq y hy
     cases y<;>first |exact (wk_tv _).symm |simp at this
    ·simp only[List.cons_append,nil_append,den,lend,restr_get (hrd kk (by simp[drefs])) h1,bind_some]
   ·cases h
  ·cases h
 ·rename_i a y
  refine⟨[],[],by simp,fun rest=>?_⟩
  simp only[den,(castC_den h).2];rfl
 ·cases h
theorem argAV_cast {n:Nat} {l l':List (AT X.ι)} (e:l=l') (b:ArgsT X l):argAVn n l' (e ▸ b)=argAVn n l b:=by subst e;rfl
theorem lendLg_nm {clof:FuncId→List (DV X)→List (DV X)→(as:List (CT X.ι))→(r:CT X.ι)→Option ((HL X.toSE as→Option (CT.T X.toSE r))×List Bool)}:∀ {ds:List (DV X)} {l:List (AT X.ι)} {a:ArgsT X l×List Bool},lendLg get clof ds l=some a→(l.all fun q=>!q.im)=true
 |[],[],_,_=>rfl
 |d::ds,.d c::l,a,h=>by
  simp only[lendLg]at h
  rw[bind_eq_some_iff]at h;obtain⟨x,h1,h⟩:=h
  rw[bind_eq_some_iff]at h;obtain⟨q,h2,h⟩:=h
  simpa[AT.im]using lendLg_nm h2
 |d::ds,.ref c::l,a,h=>by
  simp only[lendLg]at h
  rw[bind_eq_some_iff]at h;obtain⟨x,h1,h⟩:=h
  rw[bind_eq_some_iff]at h;obtain⟨q,h2,h⟩:=h
  simpa[AT.im]using lendLg_nm h2
 |d::ds,.clo as r::l,a,h=>by
  simp only[lendLg]at h
  rw[bind_eq_some_iff]at h;obtain⟨x,h1,h⟩:=h
  rw[bind_eq_some_iff]at h;obtain⟨q,h2,h⟩:=h
  simpa[AT.im]using lendLg_nm h2
 |_::_,.mut _::_,_,h=>by simp[lendLg]at h
 |_::_,.mref _::_,_,h=>by simp[lendLg]at h
 |_::_,.nil::_,_,h=>by simp[lendLg]at h
 |[],_::_,_,h=>by simp[lendLg]at h
 |_::_,[],_,h=>by simp[lendLg]at h
theorem lendA_nm:∀ {n:Nat} {ds:List (DV X)} {l:List (AT X.ι)} {a:ArgsT X l×List Bool},lendA Γ get n ds l=some a→(l.all fun q=>!q.im)=true
 | 0,_,_,_,h=>lendLg_nm h
 |_+1,_,_,_,h=>lendLg_nm h
theorem mapD_nm:∀ as:List (CT X.ι),((as.map AT.d).all fun q=>!q.im)=true
 |[]=>rfl
 |_::l=>mapD_nm l
def CloOk (P:Program) (get:Nat→Option (DObj X)) (clof:FuncId→List (DV X)→List (DV X)→(as:List (CT X.ι))→(r:CT X.ι)→Option ((HL X.toSE as→Option (CT.T X.toSE r))×List Bool)):Prop:=
 ∀ f first caps as r φ rd,clof f first caps as r=some φ→(∀ b∈φ.2,b=true)→(∀ j∈drefsL first++drefsL caps,j∈rd)→∃ hs obs,(∀ p∈obs,p)∧∀ rest,lend P (restr rd (aget get)) (.fn f (denL first) (denL caps)) (hs++rest)=some (den (.clo as r φ.1:DV X),rest,obs)
theorem lendLg_sound {n:Nat} {clof:FuncId→List (DV X)→List (DV X)→(as:List (CT X.ι))→(r:CT X.ι)→Option ((HL X.toSE as→Option (CT.T X.toSE r))×List Bool)} (hclo:CloOk P get clof):∀ {ds:List (DV X)} {l:List (AT X.ι)} {a:ArgsT X l×List Bool},lendLg get clof ds l=some a→(∀ b∈a.2,b=true)→(∀ j∈drefsL ds,j∈rd)→
 ∃ hs obs,(∀ p∈obs,p)∧∀ rest,lendL P (restr rd (aget get)) (denL ds) (hs++rest)=some (argAVn n l a.1,rest,obs)
 |[],[],_,_,_,_=>⟨[],[],by simp,fun rest=>rfl⟩
 |d::ds,.d c::l,a,h,hc,hrd=>by
  simp only[lendLg]at h
  rw[bind_eq_some_iff]at h;obtain⟨x,h1,h⟩:=h
  rw[bind_eq_some_iff]at h;obtain⟨q,h2,h⟩:=h
  injection h with h
  subst h
  obtain⟨hs1,o1,p1,q1⟩:=lendD_sound (P:=P) (rd:=rd) h1 (fun b hb=>hc b (by simp[hb])) (fun j hj=>hrd j (by simp[drefsL,hj]))
  obtain⟨hs2,o2,p2,q2⟩:=lendLg_sound (n:=n) hclo h2 (fun b hb=>hc b (by simp[hb])) (fun j hj=>hrd j (by simp[drefsL,hj]))
  refine⟨hs1++hs2,o1++o2,all_app p1 p2,fun rest=>?_⟩
  simp only[denL,lendL,append_assoc,q1,bind_some,q2,argAVn]
 |d::ds,.ref c::l,a,h,hc,hrd=>by
  simp only[lendLg]at h
  rw[bind_eq_some_iff]at h;obtain⟨x,h1,h⟩:=h
  rw[bind_eq_some_iff]at h;obtain⟨q,h2,h⟩:=h
  injection h with h
  subst h
  obtain⟨hs1,o1,p1,q1⟩:=lendR_sound (P:=P) (rd:=rd) h1 (fun j hj=>hrd j (by simp[drefsL,hj]))
  obtain⟨hs2,o2,p2,q2⟩:=lendLg_sound (n:=n) hclo h2 hc (fun j hj=>hrd j (by simp[drefsL,hj]))
  refine⟨hs1++hs2,o1++o2,all_app p1 p2,fun rest=>?_⟩
  simp only[denL,lendL,append_assoc,q1,bind_some,q2,argAVn]
 |d::ds,.clo as r::l,a,h,hc,hrd=>by
  simp only[lendLg]at h
  rw[bind_eq_some_iff]at h;obtain⟨φ,h1,h⟩:=h
  rw[bind_eq_some_iff]at h;obtain⟨q,h2,h⟩:=h
  injection h with h
  subst h
  have hd:∃ hs obs,(∀ p∈obs,p)∧∀ rest,lend P (restr rd (aget get)) (den d) (hs++rest)=some (den (.clo as r φ.1:DV X),rest,obs):=by
   cases d
   case clo as' r' ψ=>
    simp only at h1
    split at h1
    ·rename_i e
     obtain⟨rfl,rfl⟩:=e
     injection h1 with h1
     subst h1
     exact⟨[],[],by simp,fun rest=>rfl⟩
    ·cases h1
   case fn f first caps=>
    obtain⟨hs,obs,g1,g2⟩:=hclo f first caps as r φ rd h1 (fun b hb=>hc b (by simp[hb])) (fun j hj=>hrd j (by simp only[drefsL,drefs,mem_append]at hj ⊢;exact .inl hj))
    exact⟨hs,obs,g1,fun rest=>by simp only[den];exact g2 rest⟩
   all_goals simp at h1
  obtain⟨hs1,o1,p1,q1⟩:=hd
  obtain⟨hs2,o2,p2,q2⟩:=lendLg_sound (n:=n) hclo h2 (fun b hb=>hc b (by simp[hb])) (fun j hj=>hrd j (by simp[drefsL,hj]))
  refine⟨hs1++hs2,o1++o2,all_app p1 p2,fun rest=>?_⟩
  simp only[denL,lendL,append_assoc,q1,bind_some,q2,argAVn]
 |_::_,.mut _::_,_,h,_,_=>by simp[lendLg]at h
 |_::_,.mref _::_,_,h,_,_=>by simp[lendLg]at h
 |_::_,.nil::_,_,h,_,_=>by simp[lendLg]at h
 |[],_::_,_,h,_,_=>by simp[lendLg]at h
 |_::_,[],_,h,_,_=>by simp[lendLg]at h
theorem lendA_sound (hΓ:GOk P Γ):∀ (m:Nat) {n:Nat} {ds:List (DV X)} {l:List (AT X.ι)} {a:ArgsT X l×List Bool} {rd:List Nat},lendA Γ get m ds l=some a→(∀ b∈a.2,b=true)→(∀ j∈drefsL ds,j∈rd)→
 ∃ hs obs,(∀ p∈obs,p)∧∀ rest,lendL P (restr rd (aget get)) (denL ds) (hs++rest)=some (argAVn n l a.1,rest,obs)
 | 0,n,ds,l,a,rd,h,hcs,hrd=>lendLg_sound (fun _ _ _ _ _ _ _ h=>by cases h) h hcs hrd
 |m+1,n,ds,l,a,rd,h,hcs,hrd=>by
  refine lendLg_sound (fun f first caps as r φ rd' hc hb hrd'=>?_) h hcs hrd
  rw[bind_eq_some_iff]at hc;obtain⟨s,h1,hc⟩:=hc
  split at hc
  ·rename_i sa r' fn _
   split at hc
   ·rename_i e
    obtain⟨rfl,e2⟩:=e
    rw[bind_eq_some_iff]at hc;obtain⟨hf,h2,hc⟩:=hc
    rw[bind_eq_some_iff]at hc;obtain⟨hcap,h3,hc⟩:=hc
    injection hc with hc
    rw[← hc]at hb
    obtain⟨g1,g2,_⟩:=hΓ f _ h1
    obtain⟨hs1,o1,p1,q1⟩:=lendA_sound hΓ m h2 (n:=0) (rd:=rd') (fun b hb'=>hb b (by simp[hb'])) (fun j hj=>hrd' j (by simp[hj]))
    obtain⟨hs2,o2,p2,q2⟩:=lendA_sound hΓ m h3 (n:=0+muts (sa.take first.length)+muts (as.map AT.d)) (rd:=rd') (fun b hb'=>hb b (by simp[hb'])) (fun j hj=>hrd' j (by simp[hj]))
    refine⟨.clo (fun ts u=>∃ h x,φ.1 h=some x∧ts=HL.tvs X.toSE as h∧u=CT.tv X.toSE r' x)::(hs1++hs2),o1++(o2++[Callable P f∧∀ args r,(∃ h x,φ.1 h=some x∧args=HL.tvs X.toSE as h∧r=CT.tv X.toSE r' x)→FnP P f (argAVn 0 _ hf.1++args.map TV.av++argAVn (0+muts (sa.take first.length)+muts (as.map AT.d)) _ hcap.1) (.one (.d r))]),?_,fun rest=>?_⟩
    ·intro p hp
     simp only[mem_append,mem_singleton]at hp
     rcases hp with hp |hp |hp
     ·exact p1 p hp
     ·exact p2 p hp
     ·subst hp
      refine⟨g1,?_⟩
      rintro args r ⟨x,y,hxy,rfl,rfl⟩
      rw[← hc]at hxy
      have hxy':fn (e2 ▸ apA _ _ hf.1 (apA _ _ (hlA as x) hcap.1))=some y:=hxy
      have:=g2 _ _ hxy'
      have hnm:(sa.all fun q=>!q.im)=true:=by
       rw[e2,List.all_append,List.all_append,lendA_nm h2,lendA_nm h3,mapD_nm];rfl
      rw[objA_nil hnm,argAV,argAV_cast e2.symm,argAV_append,argAV_append,argAV_hlA,← append_assoc]at this
      exact fnP_of_W this
    ·simp only[List.cons_append,append_assoc,lend,q1,bind_some,q2]
     rfl
   ·cases hc
  ·cases hc
end
end
end Go.Gb
namespace Go.Gb
open Go.RowKit
def strAt (s:ByteArray) (n:Int):Option Int:=bif decide (0≤n)then (s[n.toNat]?).map fun b=>(b.toNat:Int)else none
def mkOk (m:Int) (bytes:Nat):Bool:=decide (0≤m)&&decide (m.toNat*bytes≤140737488355328)&&decide (m.toNat≤maxLen)
def mlook {K V:Type} (eq:K→K→Bool) (k:K):List (K×V)→Option V
 |[]=>none
 |p::r=>bif eq k p.1 then some p.2 else mlook eq k r
def mput {K V:Type} (eq:K→K→Bool) (k:K) (v:V):List (K×V)→List (K×V)
 |[]=>[(k,v)]
 |p::r=>bif eq k p.1 then (k,v)::r else p::mput eq k v r
def iEq (a b:Int):Bool:=a==b
def sEq (a b:ByteArray):Bool:=a.toList==b.toList
section
variable {X:SX} {A:Type}
def keyEq:(c:CT X.ι)→Option (CT.T X.toSE c→CT.T X.toSE c→Bool)
 | .int _=>some iEq
 | .str=>some sEq
 |_=>none
def kcOk {ι:Type}:TyK→CT ι→Bool
 | .int a,.int b=>decide (a=b)
 | .str,.str=>true
 |_,_=>false
def isSt {ι:Type}:CT ι→Bool
 | .st _=>true
 |_=>false
theorem denL_append (a b:List (DV X)):denL (a++b)=denL a++denL b:=by simp[denL_map]
theorem denU_append (a b:List (Nat×Option (DObj X))):denU (a++b)=denU a++denU b:=by simp[denU]
def goneD (ids:List Nat):List (Nat×Option (DObj X)):=ids.map fun j=>(j,none)
theorem goneD_den (ids:List Nat):denU (goneD (X:=X) ids)=ids.map fun k=>(k,none):=by simp[denU,goneD]
theorem goneD_mem {ids:List Nat} {p:Nat×Option (DObj X)} (h:p∈goneD ids):p.1∈ids:=by
 simp only[goneD,mem_map]at h
 obtain⟨j,hj,rfl⟩:=h
 exact hj
variable (T:Tab) (code:TypeId→Option (CT X.ι))
def isNilD:DV X→Bool
 | .nil=>true
 |_=>false
def nilK (op:BinOp) (b:DV X) (yes:Bool) (k:KK X A):Option A:=
 match op with
 | .eql=>bif yes then k b [] [] []else k (.c .bool false) [] [] []
 | .neq=>bif yes then k b [] [] []else k (.c .bool true) [] [] []
 |_=>none
def nilD (op:BinOp) (t:TypeId) (x:DV X) (k:KK X A):Option A:=
 (T t).bind fun ti=>match ti.k,x with
 | .slice _,.c (.sl _) l=>nilK op .ub (List.isEmpty l) k
 | .slice _,.own _ _ len=>nilK op .ub (len==0) k
 | .slice _,.nil=>nilK op (.c .bool (op== .eql)) true k
 |_,_=>none
def convD (s d:TypeId) (x:DV X) (k:KK X A):Option A:=
 (T s).bind fun _=>(T d).bind fun di=>match di.k,x with
 | .int kd,.c (.int _) n=>k (.c (.int kd) (kd.wrap (iN n))) [] [] []
 |_,_=>none
def indexD (t:TypeId) (x j:DV X) (k:KK X A):Option A:=
 (T t).bind fun ti=>match ti.k,x,j with
 | .str,.c .str s,.c (.int _) n=>(strAt s n).bind fun b=>k (.c (.int .u8) b) [] [] []
 |_,_,_=>none
def sliceNilD (t:TypeId) (x:DV X) (lo hi:Option (DV X)) (k:KK X A):Option A:=
 (T t).bind fun ti=>match ti.k,x with
 | .slice e,.nil=>(T e).bind fun _=>(bndD 0 lo).bind fun l=>(bndD 0 hi).bind fun h=>bif decide (l=0)&&decide (h=0)then k .nil [] [] []else none
 |_,_=>none
def builtin2D (i:Nat) (b:Builtin) (args:List (DV X)) (tys:List TypeId) (get:Nat→Option (DObj X)) (k:KK X A):Option A:=
 match b,args,tys with
 | .cap,[.nil],[t]=>(T t).bind fun ti=>match ti.k with
  | .slice _=>k (.c (.int .i64) (0:Int)) [] [] []
  |_=>none
 | .clear,[.own kk off _],[t]=>(T t).bind fun ti=>match ti.k with
  | .slice e=>(T e).bind fun ei=>(get kk).bind fun o=>match o with
   | .lst c l=>if CT.sz X c=ei.size then k (.tup []) [(kk,some (.lst c (l.take off)))] [kk] [kk]else none
   |_=>none
  |_=>none
 | .append,[.nil,.c (.int _) m],[t,u]=>(T t).bind fun ti=>(T u).bind fun ui=>match ti.k,ui.k with
  | .slice e,.int _=>(T e).bind fun ei=>(code e).bind fun c=>if CT.sz X c=ei.size∧0 < ei.size then (mkRow c (ei.zero.map cvD)).bind fun z=>
   bif mkOk (iN m) ei.bytes then k (.own (nid i) 0 m.toNat) [(nid i,some (.lst c (List.replicate m.toNat z)))] [] []else none else none
  |_,_=>none
 |_,_,_=>none
def nilCheckD (x:DV X) (k:KK X A):Option A:=
 match x with
 | .ptr kk r f=>k (.ptr kk r f) [] [] []
 | .ptl kk n f=>k (.ptl kk n f) [] [] []
 | .pta kk r f m n=>k (.pta kk r f m n) [] [] []
 | .rp c y f=>k (.rp c y f) [] [] []
 |_=>none
def makeD (i:Nat) (t:TypeId) (l c:DV X) (k:KK X A):Option A:=
 (T t).bind fun ti=>match ti.k,l,c with
 | .slice e,.c (.int _) n,.c (.int _) m=>(T e).bind fun ei=>(code e).bind fun c=>if CT.sz X c=ei.size∧0 < ei.size then (mkRow c (ei.zero.map cvD)).bind fun z=>
  bif decide (iN n≤iN m)&&(decide (0≤iN n)&&mkOk (iN m) ei.bytes)then k (.own (nid i) 0 n.toNat) [(nid i,some (.lst c (List.replicate n.toNat z)))] [] []else none else none
 |_,_,_=>none
def makeMapD (i:Nat) (t:TypeId) (k:KK X A):Option A:=
 (T t).bind fun ti=>match ti.k with
 | .map kt et=>(code kt).bind fun kc=>(code et).bind fun vc=>k (.mp (nid i)) [(nid i,some (.map kc vc []))] [] []
 |_=>none
def lookupD (t:TypeId) (x key:DV X) (ok:Bool) (get:Nat→Option (DObj X)) (k:KK X A):Option A:=
 (T t).bind fun ti=>match ti.k,x with
 | .map kt et,.mp kk=>(T kt).bind fun ki=>(T et).bind fun ei=>(get kk).bind fun o=>match o with
  | .map kc vc l=>(keyEq kc).bind fun eq=>(dat1 key kc).bind fun kv=>if kcOk ki.k kc=true∧ei.agg=isSt vc∧ei.size=CT.sz X vc then (mkRow vc (ei.zero.map cvD)).bind fun z=>
   bif ok then k (.tup [.c vc ((mlook eq kv l).getD z),.c .bool (mlook eq kv l).isSome]) [] [kk] []else k (.c vc ((mlook eq kv l).getD z)) [] [kk] []else none
  |_=>none
 |_,_=>none
def mapUpdD (t:TypeId) (x key y:DV X) (get:Nat→Option (DObj X)) (k:KK X A):Option A:=
 (T t).bind fun ti=>match ti.k,x with
 | .map kt _,.mp kk=>(T kt).bind fun ki=>(get kk).bind fun o=>match o with
  | .map kc vc l=>(keyEq kc).bind fun eq=>(dat1 key kc).bind fun kv=>(dat y vc).bind fun v=>if kcOk ki.k kc=true then k .undef [(kk,some (.map kc vc (mput eq kv v l)))] [kk] [kk]else none
  |_=>none
 |_,_=>none
def isExt (o:Op) (ρ:Operand→DV X):Bool:=
 match o with
 | .binOp _ _ _ y _=>isNilD (ρ y)
 | .convert _ _ _=>true
 | .index _ _ _=>true
 | .nilCheck _=>true
 | .makeSlice _ _ _=>true
 | .makeMap _ none=>true
 | .lookup _ _ _ _=>true
 | .mapUpdate _ _ _ _=>true
 | .slice _ x _ _ none=>isNilD (ρ x)
 | .call { callee:= .builtin b,args:=args,argTypes:=_ }=>match b,args.toList.map ρ with
  | .cap,_=>true
  | .clear,_=>true
  | .append,[_,.c (.int _) _]=>true
  |_,_=>false
 |_=>false
def extD (i:Nat) (o:Op) (ρ:Operand→DV X) (get:Nat→Option (DObj X)) (k:KK X A):Option A:=
 match o with
 | .binOp op t x y _=>if isNilD (ρ y)then nilD T op t (ρ x) k else none
 | .convert s d x=>convD T s d (ρ x) k
 | .index t x j=>indexD T t (ρ x) (ρ j) k
 | .slice t x lo hi none=>sliceNilD T t (ρ x) (lo.map ρ) (hi.map ρ) k
 | .nilCheck x=>nilCheckD (ρ x) k
 | .makeSlice t l c=>makeD T code i t (ρ l) (ρ c) k
 | .makeMap t none=>makeMapD T code i t k
 | .lookup t m x ok=>lookupD T t (ρ m) (ρ x) ok get k
 | .mapUpdate t m x v=>mapUpdD T t (ρ m) (ρ x) (ρ v) get k
 | .call { callee:= .builtin b,args:=args,argTypes:=tys }=>builtin2D T code i b (args.toList.map ρ) tys.toList get k
 |_=>none
def frzV (get:Nat→Option (DObj X)) (c:CT X.ι) (ρ:Operand→DV X) (x:Operand):DV X:=
 match lendD get (ρ x) c with
 |some y=> .c c y.1
 |none=>ρ x
def frzC (get:Nat→Option (DObj X)) (c:CT X.ι) (ρ:Operand→DV X):List Operand→List Bool
 |[]=>[]
 |x::xs=>(match lendD get (ρ x) c with |some y=>y.2 |none=>[])++frzC get c ρ xs
def frzI (get:Nat→Option (DObj X)) (c:CT X.ι) (ρ:Operand→DV X):List Operand→List Nat
 |[]=>[]
 |x::xs=>(match lendD get (ρ x) c with |some _=>drefs (ρ x) |none=>[])++frzI get c ρ xs
def frzCode (o:Op) (ρ:Operand→DV X) (get:Nat→Option (DObj X)):Option (CT X.ι):=
 match o with
 | .box t _=>code t
 | .assign x | .move x=>match ρ x with
  | .own kk _ _=>(get kk).bind fun o=>match o with
   | .lst c _=>some (.sl c)
   |_=>none
  |_=>none
 | .buildSlice t _ _=>(T t).bind fun ti=>match ti.k with
  | .slice e=>code e
  |_=>none
 | .store t _ _=>code t
 |_=>none
def isFrz (o:Op) (ρ:Operand→DV X):Bool:=
 match o with
 | .buildSlice _ _ parts=>!(drefsL (parts.toList.map fun p=>ρ p.2)).isEmpty
 | .store _ a x=>match ρ a with
  | .ptl _ _ _=>!(drefs (ρ x)).isEmpty
  |_=>false
 |_=>false
def frzD (i:Nat) (o:Op) (ρ:Operand→DV X) (get:Nat→Option (DObj X)) (k:KK X A):Option A:=
 if isPick o then none else (frzCode T code o ρ get).bind fun c=>chkA (frzC get c ρ o.operands.toList)
  (opD T code i o (frzV get c ρ) (fun j=>if j∈frzI get c ρ o.operands.toList then none else get j) fun dv upd rd wr=>
   k dv (upd++goneD (frzI get c ρ o.operands.toList)) (rd++frzI get c ρ o.operands.toList) (wr++frzI get c ρ o.operands.toList))
def isArr (o:Op) (ρ:Operand→DV X):Bool:=
 match o with
 | .indexAddr t x (.tmp _)=>match ρ x,T t with
  | .ptr _ _ _,some ti=>match ti.k with
   | .arr _ e=>match T e with
    |some ei=>ei.size==1
    |none=>false
   |_=>false
  |_,_=>false
 | .load _ a=>match ρ a with
  | .pta _ _ _ _ _=>true
  |_=>false
 |_=>false
def segL (c:CT X.ι):List (DV X)→Option (List (CT.T X.toSE c))
 |[]=>some []
 | .c a x::r=>(castC a c x).bind fun y=>(segL c r).bind fun l=>some (y::l)
 |_=>none
def arrD (o:Op) (ρ:Operand→DV X) (get:Nat→Option (DObj X)) (k:KK X A):Option A:=
 match o with
 | .indexAddr t x j=>(T t).bind fun ti=>match ti.k,ρ x,ρ j with
  | .arr m e,.ptr kk row off,.c (.int _) n=>(T e).bind fun ei=>if ei.size=1 then bif inb n m then k (.pta kk row off m n) [] [] []else none else none
  |_,_,_=>none
 | .load t a=>(T t).bind fun ti=>match ρ a with
  | .pta kk row off m n=>if ti.size=1∧ti.agg=false then (code t).bind fun c=>if c.one=true then (get kk).bind fun o=>match o with
   | .cells _ rows=>(rows[row]?).bind fun q=>(segL c ((q.drop off).take m)).bind fun (xs:List (CT.T X.toSE c))=>(at? xs n).bind fun y=>k (.c c y) [] [kk] []
   |_=>none
   else none else none
  |_=>none
 |_=>none
variable {T code}
def SdAny (P:Program) (T:Tab) (i:Nat) (o:Oper) (ρ:Operand→DV X) (get:Nat→Option (DObj X)) (k:KK X A) (r:A):Prop:=
 ∃ orc rd wr dv upd out,absAny P T i o orc (fun x=>den (ρ x)) (restr rd (aget get))=some out∧AllP out.obs∧out.v=den dv∧out.upd=denU upd∧(∀ p∈upd,p.1=nid i∨p.1∈wr)∧k dv upd rd wr=some r
section
variable {P:Program} {get:Nat→Option (DObj X)} {k:KK X A} {r:A} {i:Nat} {o:Oper} {ρ:Operand→DV X}
theorem aLen_orc {t:TypeId} {x:AV} {orc:Orc} (h:(∃ n,orc= .ext n)∨∃ ids fr q,orc= .frz ids fr q):aLen T t x .none=aLen T t x orc:=by
 unfold aLen
 cases T t with
 |none=>rfl
 |some ti=>
  simp only[bind_some]
  generalize ti.k=kk
  rcases h with ⟨n,rfl⟩ |⟨ids,fr,q,rfl⟩<;>cases kk<;>try rfl
  all_goals cases x<;>try rfl
  all_goals (rename_i y;cases y<;>try rfl)
  all_goals (rename_i y;cases y<;>rfl)
theorem aIndexAddr_orc {t:TypeId} {x j:AV} {orc:Orc} {get:Nat→Option AObj} (h:(∃ n,orc= .ext n)∨∃ ids fr q,orc= .frz ids fr q):aIndexAddr T t x j .none get=aIndexAddr T t x j orc get:=by
 unfold aIndexAddr
 cases T t with
 |none=>rfl
 |some ti=>
  simp only[bind_some]
  generalize ti.k=kk
  cases kk<;>try rfl
  case arr m e=>
   cases j<;>try rfl
   rename_i y
   cases y<;>try rfl
   rename_i y
   cases y<;>rfl
  cases j<;>try rfl
  rename_i e y
  cases y<;>try rfl
  rename_i y
  cases y<;>try rfl
  simp only
  cases T e with
  |none=>rfl
  |some ei=>
   simp only[bind_some]
   rcases h with ⟨n,rfl⟩ |⟨ids,fr,q,rfl⟩<;>cases x<;>try rfl
   all_goals (rename_i z;cases z<;>rfl)
theorem aAppend_orc {t:TypeId} {x y:AV} {orc:Orc} {get:Nat→Option AObj} (h:(∃ n,orc= .ext n)∨∃ ids fr q,orc= .frz ids fr q):aAppend T i t x y .none get=aAppend T i t x y orc get:=by
 unfold aAppend
 rcases h with ⟨n,rfl⟩ |⟨ids,fr,q,rfl⟩<;>rfl
theorem absOp_orc {orc:Orc} {ρ:Operand→AV} {get:Nat→Option AObj} (h:(∃ n,orc= .ext n)∨∃ ids fr q,orc= .frz ids fr q):absOp T i o .none ρ get=absOp T i o orc ρ get:=by
 obtain⟨dst,op,ty,pos,after,guard⟩:=o
 cases op
 case call c=>
  obtain⟨callee,args,tys⟩:=c
  cases callee<;>try rfl
  rename_i b
  simp only[absOp,aBuiltin]
  split
  ·exact aLen_orc h
  ·rfl
  ·rfl
  ·rw[aAppend_orc h]
  ·rfl
 case slice t x lo hi mx=>cases mx<;>rcases h with ⟨n,rfl⟩ |⟨ids,fr,q,rfl⟩<;>rfl
 case makeFunc fn a b=>cases fn<;>rfl
 case indexAddr t x j=>exact aIndexAddr_orc h
 all_goals (rcases h with ⟨n,rfl⟩ |⟨ids,fr,q,rfl⟩<;>rfl)
theorem SdAny.ext {n:Int} {rd wr:List Nat} {dv:DV X} {upd:List (Nat×Option (DObj X))} {out:Out} (h:absExt T i o n (fun x=>den (ρ x)) (restr rd (aget get))=some out) (h1:AllP out.obs) (h2:out.v=den dv) (h3:out.upd=denU upd) (h4:∀ p∈upd,p.1=nid i∨p.1∈wr) (h5:k dv upd rd wr=some r) (hx:isX2 o.op=false:=by rfl):SdAny P T i o ρ get k r:=
 ⟨.ext n,rd,wr,dv,upd,out,by show absExtA T i o n _ _=some out;unfold absExtA;rw[hx];exact h,h1,h2,h3,h4,h5⟩
theorem SdAny.ext2 {n:Int} {rd wr:List Nat} {dv:DV X} {upd:List (Nat×Option (DObj X))} {out:Out} (h:absExt2 T i o n (fun x=>den (ρ x)) (restr rd (aget get))=some out) (h1:AllP out.obs) (h2:out.v=den dv) (h3:out.upd=denU upd) (h4:∀ p∈upd,p.1=nid i∨p.1∈wr) (h5:k dv upd rd wr=some r) (hx:isX2 o.op=true:=by rfl):SdAny P T i o ρ get k r:=
 ⟨.ext n,rd,wr,dv,upd,out,by show absExtA T i o n _ _=some out;unfold absExtA;rw[hx];exact h,h1,h2,h3,h4,h5⟩
theorem nilCheckD_sound {x:DV X} (h:nilCheckD x k=some r):∃ dv,aNilCheck (den x)=some ⟨den dv,[],[]⟩∧k dv [] [] []=some r:=by
 cases x<;>simp only[nilCheckD]at h<;>first |cases h |exact⟨_,rfl,h⟩
theorem absAny_op {orc:Orc} {ρ:Operand→AV} {get:Nat→Option AObj} (hne:∀ f args tys,o.op≠ .call { callee:= .value f,args:=args,argTypes:=tys }) (ho:∀ n,orc≠ .ext n) (hf:∀ ids fr q,orc≠ .frz ids fr q):absAny P T i o orc ρ get=absOp T i o orc ρ get:=by
 have e:∀ (α:Type) (a:Operand→Array Operand→Array TypeId→α) (b:α),(match o.op with | .call { callee:= .value f,args:=args,argTypes:=tys }=>a f args tys |_=>b)=b:=by
  intro α a b
  split
  ·rename_i f args tys heq
   exact (hne f args tys heq).elim
  ·rfl
 cases orc<;>first |exact (ho _ rfl).elim |exact (hf _ _ _ rfl).elim |exact e _ _ _
theorem SdAny.op {orc:Orc} {rd wr:List Nat} {dv:DV X} {upd:List (Nat×Option (DObj X))} {out:Out} (hne:∀ f args tys,o.op≠ .call { callee:= .value f,args:=args,argTypes:=tys })
 (h:absOp T i o orc (fun x=>den (ρ x)) (restr rd (aget get))=some out) (h1:AllP out.obs∧out.v=den dv∧out.upd=denU upd∧(∀ p∈upd,p.1=nid i∨p.1∈wr)∧k dv upd rd wr=some r):SdAny P T i o ρ get k r:=by
 obtain⟨orc',h'⟩:∃ orc',absAny P T i o orc' (fun x=>den (ρ x)) (restr rd (aget get))=some out:=by
  by_cases hx:(∃ n,orc= .ext n)∨∃ ids fr q,orc= .frz ids fr q
  ·refine⟨.none,?_⟩
   rw[absAny_op hne (by simp) (by simp),absOp_orc hx,h]
  ·simp only[not_or,not_exists]at hx
   exact⟨orc,by rw[absAny_op hne hx.1 (fun ids fr q=>hx.2 ids fr q),h]⟩
 exact⟨orc',rd,wr,dv,upd,out,h',h1⟩
theorem SdAny.call {dst:Option Tmp} {f:Operand} {args:Array Operand} {tys:Array TypeId} {ty:TypeId} {pos:String} {after:Array Edge} {guard:Option (Nat×Bool)} {orc:Orc} {rd wr:List Nat} {dv:DV X} {upd:List (Nat×Option (DObj X))} {out:Out}
 (h:absCallY P i (den (ρ f)) (args.toList.map fun x=>den (ρ x)) orc (restr rd (aget get))=some out) (h1:AllP out.obs∧out.v=den dv∧out.upd=denU upd∧(∀ p∈upd,p.1=nid i∨p.1∈wr)∧k dv upd rd wr=some r):
 SdAny P T i ⟨dst,.call { callee:= .value f,args:=args,argTypes:=tys },ty,pos,after,guard⟩ ρ get k r:=by
 refine⟨orc,rd,wr,dv,upd,out,?_,h1⟩
 unfold absAny
 split
 ·unfold absCallY absCallX absCall at h;simp only at h;split at h<;>first |cases h |(rename_i e;cases e)
 ·unfold absCallY absCallX absCall at h;simp only at h;split at h<;>first |cases h |(rename_i e;cases e)
 ·exact h
theorem nilK_some {op:BinOp} {b:DV X} {yes:Bool} (h:nilK op b yes k=some r):∃ dv out,nilB op (den b) yes=some out∧AllP out.obs∧out.v=den dv∧out.upd=[]∧k dv [] [] []=some r:=by
 unfold nilK at h
 split at h
 ·cases yes with
  |true=>exact⟨b,_,rfl,trivial,rfl,rfl,h⟩
  |false=>exact⟨.c .bool false,_,rfl,trivial,rfl,rfl,h⟩
 ·cases yes with
  |true=>exact⟨b,_,rfl,trivial,rfl,rfl,h⟩
  |false=>exact⟨.c .bool true,_,rfl,trivial,rfl,rfl,h⟩
 ·cases h
theorem nilD_sound {op:BinOp} {t:TypeId} {x:DV X} (h:nilD T op t x k=some r):∃ dv out,aNil T op t (den x) .nilsl=some out∧AllP out.obs∧out.v=den dv∧out.upd=[]∧k dv [] [] []=some r:=by
 unfold nilD at h
 rw[bind_eq_some_iff]at h;obtain⟨ti,h1,h⟩:=h
 split at h
 ·rename_i e c l hk
  obtain⟨dv,out,g1,g2⟩:=nilK_some h
  refine⟨dv,out,?_,g2⟩
  simp only[aNil,h1,bind_some,hk,den,CT.tv,TV.av]
  rw[← g1]
  congr 1
  cases l<;>rfl
 ·rename_i e kk off len hk
  obtain⟨dv,out,g1,g2⟩:=nilK_some h
  exact⟨dv,out,by simp only[aNil,h1,bind_some,hk,den];exact g1,g2⟩
 ·rename_i e hk
  obtain⟨dv,out,g1,g2⟩:=nilK_some h
  exact⟨dv,out,by simp only[aNil,h1,bind_some,hk,den];exact g1,g2⟩
 ·cases h
theorem strAt_some {s:ByteArray} {n b:Int} (h:strAt s n=some b):0≤n∧∃ c,s[n.toNat]? =some c∧b=c.toNat:=by
 unfold strAt at h
 by_cases hn:0≤n
 ·simp only[hn,decide_true,cond_true,Option.map_eq_some_iff]at h
  obtain⟨c,h1,h2⟩:=h
  exact⟨hn,c,h1,h2.symm⟩
 ·simp[hn]at h
theorem mkOk_spec {m:Int} {bytes:Nat} (h:mkOk m bytes=true):0≤m∧m.toNat*bytes≤140737488355328∧m.toNat≤maxLen:=by
 simpa[mkOk,and_assoc]using h
theorem builtin2D_sound {b:Builtin} {args:List (DV X)} {tys:List TypeId} (h:builtin2D T code i b args tys get k=some r):
 ∃ rd wr dv upd out,aBuiltin2 T i b (denL args) tys (restr rd (aget get))=some out∧AllP out.obs∧out.v=den dv∧out.upd=denU upd∧(∀ p∈upd,p.1=nid i∨p.1∈wr)∧k dv upd rd wr=some r:=by
 unfold builtin2D at h
 split at h
 ·rename_i t
  rw[bind_eq_some_iff]at h;obtain⟨ti,h1,h⟩:=h
  split at h
  ·rename_i e hk
   refine⟨[],[],_,[],⟨.t (.sc (.int .i64 0)),[],[]⟩,?_,trivial,rfl,rfl,by simp,h⟩
   simp only[aBuiltin2,denL,den,h1,bind_some,hk];rfl
  ·cases h
 ·rename_i kk off len t
  rw[bind_eq_some_iff]at h;obtain⟨ti,h1,h⟩:=h
  split at h
  ·rename_i e hk
   rw[bind_eq_some_iff]at h;obtain⟨ei,h2,h⟩:=h
   rw[bind_eq_some_iff]at h;obtain⟨o,h3,h⟩:=h
   split at h
   ·rename_i c l
    split at h
    ·rename_i hs
     refine⟨[kk],[kk],_,_,⟨.tup [],[(kk,some ⟨CT.sz X c,(avRows (l.map (CT.row X.toSE c))).take off⟩)],[]⟩,?_,trivial,rfl,?_,by simp,h⟩
     ·simp only[aBuiltin2,denL,den,h1,bind_some,hk,h2,restr_get (List.mem_singleton_self kk) h3,denO]
      rw[if_pos hs]
     ·simp[denU,denO,avRows,List.map_take]
    ·cases h
   ·cases h
  ·cases h
 ·rename_i kd m t u
  rw[bind_eq_some_iff]at h;obtain⟨ti,h1,h⟩:=h
  rw[bind_eq_some_iff]at h;obtain⟨ui,h2,h⟩:=h
  split at h
  ·rename_i e kn hk hk'
   rw[bind_eq_some_iff]at h;obtain⟨ei,h3,h⟩:=h
   rw[bind_eq_some_iff]at h;obtain⟨c,h4,h⟩:=h
   split at h
   ·rename_i hs
    rw[bind_eq_some_iff]at h;obtain⟨z,h5,h⟩:=h
    obtain⟨h6,h⟩:=cond_some h
    obtain⟨m1,m2,m3⟩:=mkOk_spec h6
    have hz:=mkRow_den h5
    rw[cvDs_den]at hz
    refine⟨[],[],_,_,⟨.own (nid i) 0 m.toNat,[(nid i,some ⟨ei.size,wkRows (List.replicate m.toNat (ei.zero.map cv))⟩)],[0≤m∧m.toNat*ei.bytes≤140737488355328∧m.toNat≤maxLen∧0 < ei.size]⟩,?_,?_,rfl,?_,by simp,h⟩
    ·simp only[aBuiltin2,denL,den,CT.tv,TV.av,h1,h2,h3,bind_some,hk,hk']
    ·exact⟨m1,m2,m3,hs.2⟩
    ·simp only[denU,map_cons,List.map_nil,Option.map_some,denO,hs.1,avRows,wkRows,List.map_replicate]
     rw[hz]
   ·cases h
  ·cases h
 ·cases h
theorem makeD_sound {t:TypeId} {l c:DV X} (h:makeD T code i t l c k=some r):∃ dv upd out,aMake T i t (den l) (den c)=some out∧AllP out.obs∧out.v=den dv∧out.upd=denU upd∧(∀ p∈upd,p.1=nid i)∧k dv upd [] []=some r:=by
 unfold makeD at h
 rw[bind_eq_some_iff]at h;obtain⟨ti,h1,h⟩:=h
 split at h
 ·rename_i e kl n kc m hk
  rw[bind_eq_some_iff]at h;obtain⟨ei,h3,h⟩:=h
  rw[bind_eq_some_iff]at h;obtain⟨c,h4,h⟩:=h
  split at h
  ·rename_i hs
   rw[bind_eq_some_iff]at h;obtain⟨z,h5,h⟩:=h
   obtain⟨h6,h⟩:=cond_some h
   simp only[and_eq_true,decide_eq_true_eq]at h6
   obtain⟨h7,h8,h9⟩:=h6
   obtain⟨m1,m2,m3⟩:=mkOk_spec h9
   have hz:=mkRow_den h5
   rw[cvDs_den]at hz
   refine⟨_,_,⟨.own (nid i) 0 n.toNat,[(nid i,some ⟨ei.size,wkRows (List.replicate n.toNat (ei.zero.map cv))⟩)],[0≤n∧n≤m∧m.toNat*ei.bytes≤140737488355328∧m.toNat≤maxLen∧0 < ei.size]⟩,?_,?_,rfl,?_,by simp,h⟩
   ·simp only[aMake,den,CT.tv,TV.av,h1,h3,bind_some,hk]
   ·exact⟨h8,h7,m2,m3,hs.2⟩
   ·simp only[denU,map_cons,List.map_nil,Option.map_some,denO,hs.1,avRows,wkRows,List.map_replicate]
    rw[hz]
  ·cases h
 ·cases h
theorem makeMapD_sound {t:TypeId} (h:makeMapD T code i t k=some r):∃ dv upd out,aMakeMap T i t=some out∧AllP out.obs∧out.v=den dv∧out.upd=denU upd∧(∀ p∈upd,p.1=nid i)∧k dv upd [] []=some r:=by
 unfold makeMapD at h
 rw[bind_eq_some_iff]at h;obtain⟨ti,h1,h⟩:=h
 split at h
 ·rename_i kt et hk
  rw[bind_eq_some_iff]at h;obtain⟨kc,h2,h⟩:=h
  rw[bind_eq_some_iff]at h;obtain⟨vc,h3,h⟩:=h
  exact⟨_,_,⟨.mp (nid i),[(nid i,some ⟨0,[]⟩)],[]⟩,by simp only[aMakeMap,h1,bind_some,hk],trivial,rfl,rfl,by simp,h⟩
 ·cases h
theorem kc_key {ki:TyI} {kc:CT X.ι} (h:kcOk ki.k kc=true) (x:CT.T X.toSE kc):∃ v,(CT.tv X.toSE kc x).av= .t (.sc v)∧keyOk ki.k v=true:=by
 cases kc
 case int b=>
  refine⟨.int b x,rfl,?_⟩
  cases hk:ki.k<;>rw[hk]at h<;>simp only[kcOk,decide_eq_true_eq,Bool.false_eq_true]at h
  subst h
  simp[keyOk]
 case str=>
  refine⟨.string x,rfl,?_⟩
  cases hk:ki.k<;>rw[hk]at h<;>simp only[kcOk,Bool.false_eq_true]at h
  rfl
 all_goals (cases hk:ki.k<;>rw[hk]at h<;>simp[kcOk]at h)
theorem sameK_eq {kc:CT X.ι} {eq:CT.T X.toSE kc→CT.T X.toSE kc→Bool} (h:keyEq kc=some eq) {a b:CT.T X.toSE kc} {va:Value} (ha:(CT.tv X.toSE kc a).av= .t (.sc va)):∃ vb,(CT.tv X.toSE kc b).av= .t (.sc vb)∧sameK va vb=some (eq a b):=by
 cases kc
 case int q=>
  simp only[keyEq,Option.some.injEq]at h
  subst h
  simp only[CT.tv,TV.av,AV.t.injEq,Tree.sc.injEq]at ha
  subst ha
  exact⟨_,rfl,by simp[sameK,iEq]⟩
 case str=>
  simp only[keyEq,Option.some.injEq]at h
  subst h
  simp only[CT.tv,TV.av,AV.t.injEq,Tree.sc.injEq]at ha
  subst ha
  exact⟨_,rfl,by simp[sameK,sEq]⟩
 all_goals simp[keyEq]at h
theorem mFind_den {kc vc:CT X.ι} {eq:CT.T X.toSE kc→CT.T X.toSE kc→Bool} (h:keyEq kc=some eq) {a:CT.T X.toSE kc} {va:Value} (ha:(CT.tv X.toSE kc a).av= .t (.sc va)):∀ l:List (CT.T X.toSE kc×CT.T X.toSE vc),
 ∃ r,mFind va (denO (.map kc vc l:DObj X)).rows=some r∧r.map (·.2)=(mlook eq a l).map fun v=>(CT.tv X.toSE vc v).av
 |[]=>⟨none,rfl,rfl⟩
 |p::l=>by
  obtain⟨vb,h1,h2⟩:=sameK_eq h (b:=p.1) ha
  obtain⟨r,g1,g2⟩:=mFind_den h ha l
  have g1':mFind va (l.map fun p=>[(CT.tv X.toSE kc p.1).av,(CT.tv X.toSE vc p.2).av])=some r:=g1
  simp only[denO,map_cons,h1,mFind,h2,bind_some,mlook]
  cases eq a p.1 with
  |true=>exact⟨_,rfl,rfl⟩
  |false=>
   simp only[Bool.false_eq_true,if_false,g1',Option.map_some,cond_false]
   exact⟨_,rfl,by rw[← g2,Option.map_map];rfl⟩
theorem mPut_den {kc vc:CT X.ι} {eq:CT.T X.toSE kc→CT.T X.toSE kc→Bool} (h:keyEq kc=some eq) {a:CT.T X.toSE kc} {va:Value} (ha:(CT.tv X.toSE kc a).av= .t (.sc va)) (y:CT.T X.toSE vc):∀ l:List (CT.T X.toSE kc×CT.T X.toSE vc),
 mPut va (CT.tv X.toSE vc y).av (denO (.map kc vc l:DObj X)).rows=some (denO (.map kc vc (mput eq a y l):DObj X)).rows
 |[]=>by simp only[denO,List.map_nil,mPut,mput,map_cons,ha]
 |p::l=>by
  obtain⟨vb,h1,h2⟩:=sameK_eq h (b:=p.1) ha
  have g:=mPut_den h ha y l
  have g':mPut va (CT.tv X.toSE vc y).av (l.map fun p=>[(CT.tv X.toSE kc p.1).av,(CT.tv X.toSE vc p.2).av])=some ((mput eq a y l).map fun p=>[(CT.tv X.toSE kc p.1).av,(CT.tv X.toSE vc p.2).av]):=g
  simp only[denO,map_cons,h1,mPut,h2,bind_some,mput]
  cases eq a p.1 with
  |true=>simp only[if_true,cond_true,map_cons,ha]
  |false=>simp only[Bool.false_eq_true,if_false,g',Option.map_some,cond_false,map_cons,h1]
theorem zero_den {vc:CT X.ι} {ei:TyI} {z:CT.T X.toSE vc} (h:mkRow vc (ei.zero.map cvD)=some z) (ha:ei.agg=isSt vc) (hs:ei.size=CT.sz X vc):part' ei.agg ei.size ((ei.zero.map cv).map wk)=some (CT.tv X.toSE vc z).av:=by
 have hz:=mkRow_den h
 rw[cvDs_den]at hz
 rw[hz,ha,hs]
 have hl:((CT.row X.toSE vc z).map AV.t).length=CT.sz X vc:=by rw[List.length_map,row_sz]
 unfold part'
 rw[if_pos hl]
 cases vc<;>rfl
theorem dat_wkV {d:DV X} {c:CT X.ι} {x:CT.T X.toSE c} (h:dat d c=some x):wkV (den d)=(CT.tv X.toSE c x).av:=by
 cases c
 case st j=>
  replace h:datS d j=some x:=h
  cases d
  case agg cs=>
   simp only[datS]at h
   rw[bind_eq_some_iff]at h;obtain⟨g,h1,h⟩:=h
   injection h with h
   subst h
   simp only[den,wkV,(readHL_den h1 (X.flat j)).1]
   rw[← make_row];rfl
  case c a y=>
   replace h:castC a (.st j) y=some x:=h
   rw[(castC_den h).1]
   simp only[den,CT.tv,TV.av,wkV,List.map_map]
   congr 1
  all_goals cases h
 all_goals
  (have h':dat1 d _=some x:=h
   have hd:=dat1_den h'
   cases d
   case agg=>cases h
   case c a y=>
    obtain⟨e,_⟩:=castC_some (show castC a _ y=some x from h)
    subst e
    exact hd
   all_goals first |exact hd |(cases h))
theorem lookupD_sound {t:TypeId} {x key:DV X} {ok:Bool} (h:lookupD T t x key ok get k=some r):∃ rd dv out,aLookup T t (den x) (den key) ok (restr rd (aget get))=some out∧AllP out.obs∧out.v=den dv∧out.upd=[]∧k dv [] rd []=some r:=by
 unfold lookupD at h
 rw[bind_eq_some_iff]at h;obtain⟨ti,h1,h⟩:=h
 split at h
 ·rename_i kt et kk hk
  rw[bind_eq_some_iff]at h;obtain⟨ki,h2,h⟩:=h
  rw[bind_eq_some_iff]at h;obtain⟨ei,h3,h⟩:=h
  rw[bind_eq_some_iff]at h;obtain⟨o,h4,h⟩:=h
  split at h
  ·rename_i kc vc l
   rw[bind_eq_some_iff]at h;obtain⟨eq,h5,h⟩:=h
   rw[bind_eq_some_iff]at h;obtain⟨kv,h6,h⟩:=h
   split at h
   ·rename_i hc
    rw[bind_eq_some_iff]at h;obtain⟨z,h7,h⟩:=h
    obtain⟨va,g1,g2⟩:=kc_key hc.1 kv
    obtain⟨q,g3,g4⟩:=mFind_den (vc:=vc) h5 g1 l
    have hkey:den key= .t (.sc va):=by
     have:=dat1_den h6
     rw[g1]at this
     cases hd:den key<;>rw[hd]at this<;>simp only[wk,AV.t.injEq,reduceCtorEq]at this
     subst this;rfl
    have hv:∀ q:Option (Nat×AV),q.map (·.2)=(mlook eq kv l).map (fun v=>(CT.tv X.toSE vc v).av)→orZ q (part' ei.agg ei.size ((ei.zero.map cv).map wk))=some (CT.tv X.toSE vc ((mlook eq kv l).getD z)).av:=by
     intro q g
     cases hm:mlook eq kv l with
     |none=>
      rw[hm]at g
      cases q with
      |none=>exact zero_den h7 hc.2.1 hc.2.2
      |some p=>simp at g
     |some v=>
      rw[hm]at g
      cases q with
      |none=>simp at g
      |some p=>simp only[Option.map_some,Option.some.injEq]at g;simp only[orZ,g,Option.getD_some]
    have hi:q.isSome=(mlook eq kv l).isSome:=by
     have:=congrArg Option.isSome g4
     simpa using this
    have hb:aLookup T t (den (.mp kk:DV X)) (den key) ok (restr [kk] (aget get))=pv (if ok then .tup [den (.c vc ((mlook eq kv l).getD z):DV X),.t (.sc (.bool q.isSome))]else den (.c vc ((mlook eq kv l).getD z):DV X)):=by
     simp only[aLookup,h1,bind_some,hk,den,hkey,h2,h3,restr_get (List.mem_singleton_self kk) h4]
     rw[if_pos ⟨g2,by simp[denO]⟩]
     rw[g3,bind_some,hv q g4,bind_some]
    cases ok with
    |true=>exact⟨[kk],_,_,hb,trivial,by simp only[if_true,den,denL,hi];rfl,rfl,h⟩
    |false=>exact⟨[kk],_,_,hb,trivial,rfl,rfl,h⟩
   ·cases h
  ·cases h
 ·cases h
theorem mapUpdD_sound {t:TypeId} {x key y:DV X} (h:mapUpdD T t x key y get k=some r):∃ rd wr dv upd out,aMapUpd T t (den x) (den key) (den y) (restr rd (aget get))=some out∧AllP out.obs∧out.v=den dv∧out.upd=denU upd∧(∀ p∈upd,p.1∈wr)∧k dv upd rd wr=some r:=by
 unfold mapUpdD at h
 rw[bind_eq_some_iff]at h;obtain⟨ti,h1,h⟩:=h
 split at h
 ·rename_i kt et kk hk
  rw[bind_eq_some_iff]at h;obtain⟨ki,h2,h⟩:=h
  rw[bind_eq_some_iff]at h;obtain⟨o,h4,h⟩:=h
  split at h
  ·rename_i kc vc l
   rw[bind_eq_some_iff]at h;obtain⟨eq,h5,h⟩:=h
   rw[bind_eq_some_iff]at h;obtain⟨kv,h6,h⟩:=h
   rw[bind_eq_some_iff]at h;obtain⟨v,h7,h⟩:=h
   split at h
   ·rename_i hc
    obtain⟨va,g1,g2⟩:=kc_key hc kv
    have g3:=mPut_den (vc:=vc) h5 g1 v l
    have hkey:den key= .t (.sc va):=by
     have:=dat1_den h6
     rw[g1]at this
     cases hd:den key<;>rw[hd]at this<;>simp only[wk,AV.t.injEq,reduceCtorEq]at this
     subst this;rfl
    refine⟨[kk],[kk],_,_,⟨.undef,[(kk,some ⟨(denO (.map kc vc (mput eq kv v l):DObj X)).rows.length,(denO (.map kc vc (mput eq kv v l):DObj X)).rows⟩)],[]⟩,?_,trivial,rfl,?_,by simp,h⟩
    ·simp only[aMapUpd,h1,bind_some,hk,den,hkey,h2,restr_get (List.mem_singleton_self kk) h4]
     rw[if_pos ⟨g2,by simp[denO]⟩,dat_wkV h7,g3];rfl
    ·simp[denU,denO]
   ·cases h
  ·cases h
 ·cases h
theorem extD_sound (h:extD T code i o.op ρ get k=some r):SdAny P T i o ρ get k r:=by
 obtain⟨dst,op,ty,pos,after,guard⟩:=o
 unfold extD at h
 simp only at h
 split at h
 ·rename_i op t x y q
  split at h
  ·rename_i hn
   obtain⟨dv,out,g1,g2,g3,g4,g5⟩:=nilD_sound h
   have hy:den (ρ y)= .nilsl:=by
    cases hρ:ρ y<;>rw[hρ]at hn<;>first |rfl |cases hn
   exact SdAny.ext (n:=0) (rd:=[]) (wr:=[]) (upd:=[]) (by simp only[absExt,hy];exact g1) g2 g3 g4 (by simp) g5
  ·cases h
 ·rename_i s d x
  unfold convD at h
  rw[bind_eq_some_iff]at h;obtain⟨si,h1,h⟩:=h
  rw[bind_eq_some_iff]at h;obtain⟨di,h2,h⟩:=h
  split at h
  ·rename_i kd k' n hk hx
   refine SdAny.ext (n:=0) (rd:=[]) (wr:=[]) (upd:=[]) (out:=⟨.t (.sc (.int kd (kd.wrap n))),[],[]⟩) ?_ trivial rfl rfl (by simp) h
   simp only[absExt,aConv,h1,h2,bind_some,hk,hx];rfl
  ·cases h
 ·rename_i t x j
  unfold indexD at h
  rw[bind_eq_some_iff]at h;obtain⟨ti,h1,h⟩:=h
  split at h
  ·rename_i s kk n hk hx hj
   rw[bind_eq_some_iff]at h;obtain⟨b,h2,h⟩:=h
   refine SdAny.ext (n:=b) (rd:=[]) (wr:=[]) (upd:=[]) (out:=⟨.t (.sc (.int .u8 b)),[],[0≤n∧∃ c,s[n.toNat]? =some c∧b=c.toNat]⟩) ?_ (strAt_some h2) rfl rfl (by simp) h
   simp only[absExt,aIndex,h1,bind_some,hk,hx,hj];rfl
  ·cases h
 ·rename_i t x lo hi
  unfold sliceNilD at h
  rw[bind_eq_some_iff]at h;obtain⟨ti,h1,h⟩:=h
  split at h
  ·rename_i e hk hx
   rw[bind_eq_some_iff]at h;obtain⟨ei,h2,h⟩:=h
   rw[bind_eq_some_iff]at h;obtain⟨l,h3,h⟩:=h
   rw[bind_eq_some_iff]at h;obtain⟨hh,h4,h⟩:=h
   obtain⟨h5,h⟩:=cond_some h
   refine SdAny.ext (n:=0) (rd:=[]) (wr:=[]) (upd:=[]) (out:=⟨.nilsl,[],[l=0∧hh=0]⟩) ?_ (show l=0∧hh=0 by simpa using h5) rfl rfl (by simp) h
   have e1:=bndD_den h3
   have e2:=bndD_den h4
   rw[Option.map_map]at e1 e2
   simp only[absExt,aSliceNil,h1,bind_some,hk,hx,h2,den]
   have e1':bnd 0 (lo.map fun x=>den (ρ x))=some l:=e1
   have e2':bnd 0 (hi.map fun x=>den (ρ x))=some hh:=e2
   rw[e1',bind_some,e2'];rfl
  ·cases h
 ·rename_i x
  obtain⟨dv,g1,g2⟩:=nilCheckD_sound h
  exact SdAny.ext2 (n:=0) (rd:=[]) (wr:=[]) (upd:=[]) g1 trivial rfl rfl (by simp) g2
 ·rename_i t l c
  obtain⟨dv,upd,out,g1,g2,g3,g4,g5,g6⟩:=makeD_sound h
  exact SdAny.ext2 (n:=0) (rd:=[]) (wr:=[]) (upd:=upd) g1 g2 g3 g4 (fun p hp=> .inl (g5 p hp)) g6
 ·rename_i t
  obtain⟨dv,upd,out,g1,g2,g3,g4,g5,g6⟩:=makeMapD_sound h
  exact SdAny.ext2 (n:=0) (rd:=[]) (wr:=[]) (upd:=upd) g1 g2 g3 g4 (fun p hp=> .inl (g5 p hp)) g6
 ·rename_i t m x ok
  obtain⟨rd,dv,out,g1,g2,g3,g4,g6⟩:=lookupD_sound h
  exact SdAny.ext2 (n:=0) (rd:=rd) (wr:=[]) (upd:=[]) g1 g2 g3 g4 (by simp) g6
 ·rename_i t m x v
  obtain⟨rd,wr,dv,upd,out,g1,g2,g3,g4,g5,g6⟩:=mapUpdD_sound h
  exact SdAny.ext2 (n:=0) (rd:=rd) (wr:=wr) (upd:=upd) g1 g2 g3 g4 (fun p hp=> .inr (g5 p hp)) g6
 ·rename_i b args tys
  obtain⟨rd,wr,dv,upd,out,g1,g2,g3,g4,g5,g6⟩:=builtin2D_sound h
  refine SdAny.ext (n:=0) (rd:=rd) (wr:=wr) (upd:=upd) ?_ g2 g3 g4 g5 g6
  simp only[absExt,map_den];exact g1
 ·cases h
theorem frzI_mem {c:CT X.ι}:∀ {xs:List Operand} {x:Operand} {y:CT.T X.toSE c×List Bool},x∈xs→lendD get (ρ x) c=some y→∀ j∈drefs (ρ x),j∈frzI get c ρ xs
 |z::xs,x,y,hx,h,j,hj=>by
  simp only[frzI,mem_append]
  rcases mem_cons.1 hx with rfl |hx
  ·left;rw[h];exact hj
  ·exact .inr (frzI_mem hx h j hj)
 |[],_,_,hx,_,_,_=>by simp at hx
theorem frzC_mem {c:CT X.ι}:∀ {xs:List Operand} {x:Operand} {y:CT.T X.toSE c×List Bool},x∈xs→lendD get (ρ x) c=some y→∀ b∈y.2,b∈frzC get c ρ xs
 |z::xs,x,y,hx,h,b,hb=>by
  simp only[frzC,mem_append]
  rcases mem_cons.1 hx with rfl |hx
  ·left;rw[h];exact hb
  ·exact .inr (frzC_mem hx h b hb)
 |[],_,_,hx,_,_,_=>by simp at hx
theorem frzD_sound (h:frzD T code i o.op ρ get k=some r):SdAny P T i o ρ get k r:=by
 unfold frzD at h
 split at h
 ·cases h
 rename_i hpick
 rw[bind_eq_some_iff]at h;obtain⟨c,h1,h⟩:=h
 obtain⟨hcs,h⟩:=chkA_some h
 obtain⟨orc,rd,wr,dv,upd,out,g1,g2,g3,g4,g5,g6⟩:=opD_sound h
 generalize hids:frzI get c ρ o.op.operands.toList=ids at*
 refine⟨.frz ids (fun x=>den (frzV get c ρ x)) orc,rd++ids,wr++ids,dv,upd++goneD ids,⟨out.v,out.upd++ids.map (fun k=>(k,none)),out.obs++[∀ x∈o.op.operands,(Bor P (restr (rd++ids) (aget get)) (den (ρ x)) (den (frzV get c ρ x))∧∀ k∈refs (den (ρ x)),k∈ids)∨den (frzV get c ρ x)=den (ρ x)]⟩,?_,?_,g3,?_,?_,g6⟩
 ·unfold absAny absFrz
  simp only
  rw[if_neg hpick]
  have e:(fun k=>if k∈ids then none else restr (rd++ids) (aget get) k)=restr rd (aget fun j=>if j∈ids then none else get j):=by
   funext j
   simp only[restr,aget,mem_append]
   by_cases hj:j∈ids
   ·simp[hj]
   ·simp[hj]
  rw[e,g1];rfl
 ·refine AllP_of _ fun p hp=>?_
  rcases mem_append.1 hp with hp |hp
  ·exact AllP_all _ g2 p hp
  ·rw[mem_singleton]at hp
   subst hp
   intro x hx
   unfold frzV
   cases hl:lendD get (ρ x) c with
   |none=>exact .inr rfl
   |some y=>
    left
    have hx':x∈o.op.operands.toList:=by simpa using hx
    have hin:∀ j∈drefs (ρ x),j∈ids:=fun j hj=>hids ▸ frzI_mem hx' hl j hj
    obtain⟨hs,obs,p1,p2⟩:=lendD_sound (P:=P) (rd:=rd++ids) hl (fun b hb=>hcs b (frzC_mem hx' hl b hb)) (fun j hj=>List.mem_append_right _ (hin j hj))
    refine⟨?_,fun j hj=>hin j (by rwa [drefs_den]at hj)⟩
    have:=p2 []
    exact lend_sound _ _ _ this p1
 ·simp only[denU_append,goneD_den,g4]
 ·intro p hp
  rcases mem_append.1 hp with hp |hp
  ·exact (g5 p hp).imp id (fun h=>List.mem_append_left _ h)
  ·exact .inr (List.mem_append_right _ (goneD_mem hp))
theorem segL_den {c:CT X.ι}:∀ {ds:List (DV X)} {xs:List (CT.T X.toSE c)},segL c ds=some xs→denL ds=xs.map fun y=>den (.c c y:DV X)
 |[],xs,h=>by simp only[segL,Option.some.injEq]at h;subst h;rfl
 | .c a x::ds,xs,h=>by
  simp only[segL]at h
  rw[bind_eq_some_iff]at h;obtain⟨y,h1,h⟩:=h
  rw[bind_eq_some_iff]at h;obtain⟨l,h2,h⟩:=h
  injection h with h;subst h
  simp only[denL,map_cons,segL_den h2,(castC_den h1).1]
 | .agg _::_,_,h=>by simp[segL]at h
 | .tup _::_,_,h=>by simp[segL]at h
 | .own _ _ _::_,_,h=>by simp[segL]at h
 | .ptr _ _ _::_,_,h=>by simp[segL]at h
 | .ptl _ _ _::_,_,h=>by simp[segL]at h
 | .mp _::_,_,h=>by simp[segL]at h
 | .pta _ _ _ _ _::_,_,h=>by simp[segL]at h
 | .rp _ _ _::_,_,h=>by simp[segL]at h
 | .fn _ _ _::_,_,h=>by simp[segL]at h
 | .clo _ _ _::_,_,h=>by simp[segL]at h
 | .raw _::_,_,h=>by simp[segL]at h
 | .nil::_,_,h=>by simp[segL]at h
 | .ub::_,_,h=>by simp[segL]at h
 | .skip::_,_,h=>by simp[segL]at h
 | .undef::_,_,h=>by simp[segL]at h
theorem arrD_sound (h:arrD T code o.op ρ get k=some r):SdAny P T i o ρ get k r:=by
 obtain⟨dst,op,ty,pos,after,guard⟩:=o
 unfold arrD at h
 simp only at h
 split at h
 ·rename_i t x j
  rw[bind_eq_some_iff]at h;obtain⟨ti,h1,h⟩:=h
  split at h
  ·rename_i m e kk row off kd n hk hx hj
   rw[bind_eq_some_iff]at h;obtain⟨ei,h2,h⟩:=h
   split at h
   ·rename_i hs
    obtain⟨h3,h⟩:=cond_some h
    refine SdAny.op (orc:= .none) (rd:=[]) (wr:=[]) (upd:=[]) (fun _ _ _ e=>by cases e) (out:=⟨.ptr kk row (off+n.toNat*1),[],[0≤n∧n.toNat < m]⟩) ?_ ⟨?_,?_,rfl,by simp,h⟩
    ·simp only[absOp,aIndexAddr,h1,bind_some,hk,hx,hj,den,CT.tv,TV.av,h2,hs];rfl
    ·simp only[inb,and_eq_true,decide_eq_true_eq]at h3
     exact⟨h3.1,by omega⟩
    ·simp only[den,Nat.mul_one]
   ·cases h
  ·cases h
 ·rename_i t a
  rw[bind_eq_some_iff]at h;obtain⟨ti,h1,h⟩:=h
  split at h
  ·rename_i kk row off m n hx
   split at h
   ·rename_i hs
    rw[bind_eq_some_iff]at h;obtain⟨c,h2,h⟩:=h
    split at h
    ·rename_i hc
     rw[bind_eq_some_iff]at h;obtain⟨ob,h3,h⟩:=h
     split at h
     ·rename_i sz rows
      rw[bind_eq_some_iff]at h;obtain⟨q,h4,h⟩:=h
      rw[bind_eq_some_iff]at h;obtain⟨xs,h5,h⟩:=h
      rw[bind_eq_some_iff]at h;obtain⟨y,h6,h⟩:=h
      obtain⟨_,h7⟩:=at_some h6
      have h8:=segL_den h5
      have h9:((denL q).drop (off+n.toNat)).take 1=[den (.c c y:DV X)]:=by
       have e1:(denL ((q.drop off).take m))[n.toNat]? =some (den (.c c y:DV X)):=by rw[h8,List.getElem?_map,h7];rfl
       rw[denL_drop_take,List.getElem?_take]at e1
       split at e1
       ·rw[List.getElem?_drop]at e1
        obtain⟨g1,g2⟩:=List.getElem?_eq_some_iff.1 e1
        rw[List.drop_eq_getElem_cons g1,List.take_succ_cons,List.take_zero,g2]
       ·cases e1
      refine SdAny.op (orc:= .none) (rd:=[kk]) (wr:=[]) (upd:=[]) (fun _ _ _ e=>by cases e) (out:=⟨den (.c c y:DV X),[],[]⟩) ?_ ⟨trivial,rfl,rfl,by simp,h⟩
      simp only[absOp,aLoad,h1,bind_some,hx,den,restr_get (List.mem_singleton_self kk) h3,denO,List.getElem?_map,h4,Option.map_some,hs.1,hs.2]
      rw[h9]
      obtain⟨t',g1,g2⟩:=row_one hc y
      simp only[den,g2,TV.av]
      rfl
     ·cases h
    ·cases h
   ·cases h
  ·cases h
 ·cases h
end
end
end Go.Gb
namespace Go.Gb
open Go.RowKit
section
variable {X:SX}
structure MA (X:SX) where
 nm:List (Nat×Nat)
 dcs:List (DC X)
 chk:List Bool
def addN (m:MA X) (k' k:Nat):MA X:=if m.nm.contains (k',k)then m else⟨m.nm++[(k',k)],m.dcs,m.chk⟩
section
variable (get:Nat→Option (DObj X))
mutual
def mP:Pt X.ι→DV X→MA X→Option (MA X)
 | .v c,d,m=>(dat d c).bind fun x=>some ⟨m.nm,m.dcs++[⟨c,x⟩],m.chk⟩
 | .o k,d,m=>match d with
  | .own k' 0 len=>(get k').bind fun o=>match o with
   | .lst _ l=>some (addN ⟨m.nm,m.dcs,m.chk++[eqL len l.length]⟩ k' k)
   |_=>none
  |_=>none
 | .p k,d,m=>match d with
  | .ptr k' 0 0=>some (addN m k' k)
  |_=>none
 | .mp k,d,m=>match d with
  | .mp k'=>some (addN m k' k)
  |_=>none
 | .nil,d,m=>match d with
  | .nil=>some m
  |_=>none
 | .f F fs cs,d,m=>match d with
  | .fn F' first caps=>if F=F' then (mPs fs first m).bind fun m=>mPs cs caps m else none
  |_=>none
 | .od k,d,m=>match d with
  | .own k' off len=>(get k').bind fun o=>match o with
   | .lst _ l=>some (addN ⟨m.nm,m.dcs++[⟨.int .i64,(off:Int)⟩],m.chk++[eqL (off+len) l.length]⟩ k' k)
   |_=>none
  |_=>none
 | .a ps,d,m=>match d with
  | .agg ds=>mPs ps ds m
  |_=>none
def mPs:List (Pt X.ι)→List (DV X)→MA X→Option (MA X)
 |[],[],m=>some m
 |p::ps,d::ds,m=>(mP p d m).bind fun m=>mPs ps ds m
 |_,_,_=>none
end
def mSlots (env:Nat→DV X):List (Nat×Pt X.ι)→MA X→Option (MA X)
 |[],m=>some m
 |(t,p)::r,m=>(mP get p (env t) m).bind fun m=>mSlots env r m
def mRows:List (List (Pt X.ι))→List (List (DV X))→MA X→Option (MA X)
 |[],[],m=>some m
 |r::rs,q::qs,m=>(mPs get r q m).bind fun m=>mRows rs qs m
 |_,_,_=>none
def nameOf (m:MA X) (k:Nat):Nat:=match m.nm.find? (fun q=>q.2==k)with |some q=>q.1 |none=>k
def mObjs:List (Nat×OP X.ι)→MA X→Option (MA X)
 |[],m=>some m
 |(k,op)::r,m=>(get (nameOf m k)).bind fun o=>match op,o with
  | .l c,.lst c' l=>(castC (.sl c') (.sl c) l).bind fun l'=>mObjs r (addN ⟨m.nm,m.dcs++[⟨.sl c,l'⟩],m.chk⟩ (nameOf m k) k)
  | .m kc vc,.map kc' vc' l=>(castC (.mp kc' vc') (.mp kc vc) l).bind fun l'=>mObjs r (addN ⟨m.nm,m.dcs++[⟨.mp kc vc,l'⟩],m.chk⟩ (nameOf m k) k)
  | .c sz rows,.cells sz' rows'=>if sz=sz' then (mRows get rows rows' (addN m (nameOf m k) k)).bind fun m=>mObjs r m else none
  |_,_=>none
end
end
end Go.Gb
namespace Go.Gb
open Go.RowKit
section
variable {X:SX} {A:Type}
mutual
def rnD (f:Nat→Nat):DV X→DV X
 | .own k off len=> .own (f k) off len
 | .ptr k row off=> .ptr (f k) row off
 | .ptl k n off=> .ptl (f k) n off
 | .pta k row off m n=> .pta (f k) row off m n
 | .mp k=> .mp (f k)
 | .agg cs=> .agg (rnDL f cs)
 | .tup cs=> .tup (rnDL f cs)
 | .fn F first caps=> .fn F (rnDL f first) (rnDL f caps)
 |x=>x
def rnDL (f:Nat→Nat):List (DV X)→List (DV X)
 |[]=>[]
 |x::xs=>rnD f x::rnDL f xs
end
theorem rnAL_t (f:Nat→Nat):∀ l:List Tree,rnAL f (l.map AV.t)=l.map AV.t
 |[]=>rfl
 |x::xs=>by simp only[map_cons,rnAL,rnA,rnAL_t f xs]
mutual
theorem rnD_den (f:Nat→Nat):∀ x:DV X,den (rnD f x)=rnA f (den x)
 | .own _ _ _=>rfl
 | .ptr _ _ _=>rfl
 | .ptl _ _ _=>rfl
 | .mp _=>rfl
 | .pta _ _ _ _ _=>rfl
 | .agg cs=>by simp only[rnD,den,rnA,rnDL_den f cs]
 | .tup cs=>by simp only[rnD,den,rnA,rnDL_den f cs]
 | .fn F first caps=>by simp only[rnD,den,rnA,rnDL_den f first,rnDL_den f caps]
 | .c t x=>by
  simp only[rnD,den]
  cases t<;>try rfl
  simp only[CT.tv,TV.av,rnA,rnAL_t]
 | .rp _ _ _=>rfl
 | .clo _ _ _=>rfl
 | .raw v=>by
  simp only[rnD,den,cv]
  split
  ·rfl
  ·split<;>rfl
 | .nil=>rfl
 | .ub=>rfl
 | .skip=>rfl
 | .undef=>rfl
theorem rnDL_den (f:Nat→Nat):∀ l:List (DV X),denL (rnDL f l)=rnAL f (denL l)
 |[]=>rfl
 |x::xs=>by simp only[rnDL,denL,rnAL,rnD_den f x,rnDL_den f xs]
end
def rnO (f:Nat→Nat):DObj X→DObj X
 | .cells sz rows=> .cells sz (rows.map (rnDL f))
 |o=>o
def orefs:DObj X→List Nat
 | .cells _ rows=>(rows.map drefsL).flatten
 | .lst _ _=>[]
 | .map _ _ _=>[]
def scal1:CT X.ι→Bool
 | .int _ | .bool | .str=>true
 |_=>false
def scalC:CT X.ι→Bool
 | .st i=>(X.tys i).all scal1
 |c=>scal1 c
theorem scal1_flat {c:CT X.ι} (h:scal1 c=true) (x:CT.T X.toSE c):∀ t∈CT.row X.toSE c x,t.flat:=by
 cases c<;>first |(intro t ht;simp only[CT.row,mem_singleton]at ht;subst ht;exact trivial) |cases h
theorem HL_flat:∀ (l:List (CT X.ι)) (h:HL X.toSE l),l.all scal1=true→∀ t∈HL.row X.toSE l h,t.flat
 |[],_,_,t,ht=>by simp[HL.row]at ht
 |c::l,h,ha,t,ht=>by
  simp only[List.all_cons,and_eq_true]at ha
  rcases mem_append.1 (show t∈CT.row X.toSE c h.1++HL.row X.toSE l h.2 from ht)with ht |ht
  ·exact scal1_flat ha.1 h.1 t ht
  ·exact HL_flat l h.2 ha.2 t ht
theorem scalC_flat {c:CT X.ι} (h:scalC c=true) (x:CT.T X.toSE c):∀ t∈CT.row X.toSE c x,t.flat:=by
 cases c
 case st i=>intro t ht;exact HL_flat (X.tys i) (X.get i x) h t ((X.row_get i x) ▸ ht)
 case int k=>exact scal1_flat (c:= .int k) h x
 case bool=>exact scal1_flat (c:= .bool) h x
 case str=>exact scal1_flat (c:= .str) h x
 case sl e=>cases h
 case any=>cases h
 case mp=>cases h
structure MG (X:SX) where
 nm:List (Nat×Nat)
 dcs:List (DC X)
 chk:List Bool
 vr:List Nat
section
variable (get:Nat→Option (DObj X))
mutual
def gA1:Pt X.ι→DV X→MG X→Option (MG X)
 | .v c,d,m=>(lendD get d c).bind fun x=>some ⟨m.nm,m.dcs++[⟨c,x.1⟩],m.chk++x.2,m.vr++drefs d⟩
 | .o k,d,m=>match d with
  | .own k' 0 len=>(get k').bind fun o=>match o with
   | .lst _ l=>some ⟨m.nm++[(k',k)],m.dcs,m.chk++[eqL len l.length],m.vr⟩
   |_=>none
  |_=>none
 | .od k,d,m=>match d with
  | .own k' off len=>(get k').bind fun o=>match o with
   | .lst _ l=>some ⟨m.nm++[(k',k)],m.dcs++[⟨.int .i64,(off:Int)⟩],m.chk++[eqL (off+len) l.length],m.vr⟩
   |_=>none
  |_=>none
 | .p k,d,m=>match d with
  | .ptr k' 0 0=>some ⟨m.nm++[(k',k)],m.dcs,m.chk,m.vr⟩
  |_=>none
 | .nil,d,m=>match d with
  | .nil=>some m
  |_=>none
 | .f F fs cs,d,m=>match d with
  | .fn F' first caps=>if F=F' then (gAs fs first m).bind fun m=>gAs cs caps m else none
  |_=>none
 | .mp _,_,_=>none
 | .a _,_,_=>none
def gAs:List (Pt X.ι)→List (DV X)→MG X→Option (MG X)
 |[],[],m=>some m
 |p::ps,d::ds,m=>(gA1 p d m).bind fun m=>gAs ps ds m
 |_,_,_=>none
end
def gRows:List (List (Pt X.ι))→List (List (DV X))→MG X→Option (MG X)
 |[],[],m=>some m
 |r::rs,q::qs,m=>(gAs get r q m).bind fun m=>gRows rs qs m
 |_,_,_=>none
def nmG (m:MG X) (k:Nat):Nat:=match m.nm.find? (fun q=>q.2==k)with |some q=>q.1 |none=>k
def gObjs:List (Nat×OP X.ι)→MG X→Option (MG X)
 |[],m=>some m
 |(k,op)::r,m=>(get (nmG m k)).bind fun o=>match op,o with
  | .l c,.lst c' l=>(castC (.sl c') (.sl c) l).bind fun l'=>gObjs r ⟨m.nm++[(nmG m k,k)],m.dcs++[⟨.sl c,l'⟩],m.chk,m.vr⟩
  | .c sz rows,.cells sz' rows'=>if sz=sz' then (gRows get rows rows' ⟨m.nm++[(nmG m k,k)],m.dcs,m.chk,m.vr⟩).bind fun m=>gObjs r m else none
  |_,_=>none
end
mutual
def Pt.refs:Pt X.ι→List Nat
 | .o k | .od k | .p k | .mp k=>[k]
 | .f _ fs cs=>prefsL fs++prefsL cs
 | .a ps=>prefsL ps
 |_=>[]
def prefsL:List (Pt X.ι)→List Nat
 |[]=>[]
 |p::ps=>p.refs++prefsL ps
end
def OP.refs:OP X.ι→List Nat
 | .l _=>[]
 | .m _ _=>[]
 | .c _ rows=>rows.flatMap prefsL
def nmB (n k:Nat):Bool:=Nat.blt k n || (Nat.ble 1000 k&&Nat.blt k 1064)
def GSig.ok (g:GSig X):Bool:=
 decide (g.inO.map (·.1)=List.range g.inO.length)&&decide (g.inO.length≤1000)&&(g.outO.all fun q=>nmB g.inO.length q.1&&q.2.refs.all fun k=>nmB g.inO.length k)&&decide (g.outO.map (·.1)).Nodup&&(prefsL g.outP).all fun k=>nmB g.inO.length k
def okG (m:MG X) (ids:List Nat):Bool:=
 decide ids.Nodup&&(m.nm.all fun q=>match ids[q.2]? with |some k=>Nat.beq k q.1 |none=>false)&&m.vr.all fun k=>!ids.contains k
def GSig.flat (g:GSig X):Bool:=(varsL g.outP).all scalC&&g.outO.all fun q=>match q.2 with
 | .l c=>scalC c
 | .m _ _=>false
 | .c _ rows=>(varsR rows).all scalC
def dlk:List (Nat×DObj X)→Nat→Option (DObj X)
 |[],_=>none
 |(j,o)::r,k=>if j=k then some o else dlk r k
def outGD (i:Nat) (ids:List Nat) (os':List (Nat×DObj X)):List (Nat×Option (DObj X)):=
 (ids.zipIdx.map fun p=>(p.1,(dlk os' p.2).map (rnO (cn i ids))))++(os'.filter fun q=>decide (1000≤q.1)).map fun q=>(cn i ids q.1,some (rnO (cn i ids) q.2))
def callGD (g:GSig X) (i:Nat) (ds:List (DV X)) (get:Nat→Option (DObj X)) (k:KK X A):Option A:=
 (gAs get g.inP ds ⟨[],[],[],[]⟩).bind fun m=>(gObjs get g.inO m).bind fun m=>
  bif g.ok&&okG m ((List.range g.inO.length).map (nmG m))then (toVT (varsL g.inP++varsO g.inO) m.dcs).bind fun v=>chkA m.chk ((g.fn v).bind fun r=>
   let ids:=(List.range g.inO.length).map (nmG m)
   k (rnD (cn i ids) (g.res r)) (outGD i ids (g.outs r)++(if g.flat then []else m.vr.map fun k=>(k,none))) (ids++m.vr) ((ids++(outGD i ids (g.outs r)).map (·.1))++m.vr))
  else none
section
variable {P:Program} {get:Nat→Option (DObj X)} {rd ids:List Nat} {olen:Nat→Nat}
def MonoG (m m':MG X):Prop:=(∀ q∈m.nm,q∈m'.nm)∧(∀ c∈m.chk,c∈m'.chk)∧∀ k∈m.vr,k∈m'.vr
theorem MonoG.refl (m:MG X):MonoG m m:=⟨fun _ h=>h,fun _ h=>h,fun _ h=>h⟩
theorem MonoG.trans {a b c:MG X} (h:MonoG a b) (h':MonoG b c):MonoG a c:=⟨fun q hq=>h'.1 q (h.1 q hq),fun q hq=>h'.2.1 q (h.2.1 q hq),fun q hq=>h'.2.2 q (h.2.2 q hq)⟩
mutual
theorem gA1_mono:∀ (p:Pt X.ι) (d:DV X) (m m':MG X),gA1 get p d m=some m'→MonoG m m'∧∃ new,m'.dcs=m.dcs++new∧new.length=p.vars.length
 | .v c,d,m,m',h=>by
  simp only[gA1]at h
  rw[bind_eq_some_iff]at h;obtain⟨x,h1,h⟩:=h
  injection h with h;subst h
  exact⟨⟨fun _ h=>h,fun _ h=>by simp[h],fun _ h=>by simp[h]⟩,[⟨c,x.1⟩],rfl,rfl⟩
 | .o k,d,m,m',h=>by
  simp only[gA1]at h
  split at h
  ·rw[bind_eq_some_iff]at h;obtain⟨o,h1,h⟩:=h
   split at h
   ·injection h with h;subst h
    exact⟨⟨fun _ h=>by simp[h],fun _ h=>by simp[h],fun _ h=>h⟩,[],by simp,rfl⟩
   ·cases h
  ·cases h
 | .od k,d,m,m',h=>by
  simp only[gA1]at h
  split at h
  ·rename_i k' off len
   rw[bind_eq_some_iff]at h;obtain⟨o,h1,h⟩:=h
   split at h
   ·injection h with h;subst h
    exact⟨⟨fun _ h=>by simp[h],fun _ h=>by simp[h],fun _ h=>h⟩,[⟨.int .i64,(off:Int)⟩],rfl,rfl⟩
   ·cases h
  ·cases h
 | .p k,d,m,m',h=>by
  simp only[gA1]at h
  split at h
  ·injection h with h;subst h
   exact⟨⟨fun _ h=>by simp[h],fun _ h=>h,fun _ h=>h⟩,[],by simp,rfl⟩
  ·cases h
 | .nil,d,m,m',h=>by
  simp only[gA1]at h
  split at h
  ·injection h with h;subst h
   exact⟨MonoG.refl _,[],by simp,rfl⟩
  ·cases h
 | .f F fs cs,d,m,m',h=>by
  simp only[gA1]at h
  split at h
  ·split at h
   ·rw[bind_eq_some_iff]at h;obtain⟨m1,h1,h⟩:=h
    obtain⟨a1,n1,b1,c1⟩:=gAs_mono fs _ m m1 h1
    obtain⟨a2,n2,b2,c2⟩:=gAs_mono cs _ m1 m' h
    exact⟨a1.trans a2,n1++n2,by rw[b2,b1,append_assoc],by simp[Pt.vars,c1,c2]⟩
   ·cases h
  ·cases h
 | .mp _,d,m,m',h=>by simp[gA1]at h
 | .a ps,d,m,m',h=>by simp[gA1]at h
theorem gAs_mono:∀ (ps:List (Pt X.ι)) (ds:List (DV X)) (m m':MG X),gAs get ps ds m=some m'→MonoG m m'∧∃ new,m'.dcs=m.dcs++new∧new.length=(varsL ps).length
 |[],[],m,m',h=>by
  simp only[gAs,Option.some.injEq]at h;subst h
  exact⟨MonoG.refl _,[],by simp,rfl⟩
 |p::ps,d::ds,m,m',h=>by
  simp only[gAs]at h
  rw[bind_eq_some_iff]at h;obtain⟨m1,h1,h⟩:=h
  obtain⟨a1,n1,b1,c1⟩:=gA1_mono p d m m1 h1
  obtain⟨a2,n2,b2,c2⟩:=gAs_mono ps ds m1 m' h
  exact⟨a1.trans a2,n1++n2,by rw[b2,b1,append_assoc],by simp[varsL,c1,c2]⟩
 |[],_::_,m,m',h=>by simp[gAs]at h
 |_::_,[],m,m',h=>by simp[gAs]at h
end
theorem lendW1_of {get':Nat→Option AObj} {x:AV} {hs:List LH} {p:AV×List LH×List Prop} (h:lend P get' x hs=some p) (hr:∀ k∈refs x,k∉ids):lendW1 P get' ids x hs=some p:=by
 unfold lendW1
 split
 ·simp[lend]at h
 ·simp[lend]at h
 ·simp[lend]at h
 ·rw[if_pos]
  ·exact h
  ·simp only[all_eq_true,Bool.not_eq_true',List.contains_eq_mem,decide_eq_false_iff_not]
   exact hr
variable {NM:List (Nat×Nat)} {VRS:List Nat}
mutual
theorem gA1_sound (hi:∀ q∈NM,ids[q.2]? =some q.1) (hv:∀ k∈VRS,k∉ids) (hrd:∀ k,(∃ q,(k,q)∈NM)∨k∈VRS→k∈rd) (ho:∀ q∈NM,∀ c l,get q.1=some (.lst c l)→olen q.2=l.length):
 ∀ (p:Pt X.ι) (d:DV X) (m m':MG X),gA1 get p d m=some m'→(∀ q∈m'.nm,q∈NM)→(∀ c∈m'.chk,c=true)→(∀ k∈m'.vr,k∈VRS)→
 ∃ new,m'.dcs=m.dcs++new∧∃ d',(∀ rest,eP olen p (new++rest)=(d',rest))∧(∃ hs obs,(∀ p∈obs,p)∧∀ rest,lendW1 P (restr rd (aget get)) ids (den d) (hs++rest)=some (den d',rest,obs))∧∀ j∈drefs d,(∃ q,(j,q)∈NM)∨j∈VRS
 | .v c,d,m,m',h,hn,hc,hr=>by
  simp only[gA1]at h
  rw[bind_eq_some_iff]at h;obtain⟨x,h1,h⟩:=h
  injection h with h;subst h
  have hvr:∀ j∈drefs d,j∈VRS:=fun j hj=>hr j (by simp[hj])
  obtain⟨hs,obs,p1,q1⟩:=lendD_sound (P:=P) (rd:=rd) h1 (fun b hb=>hc b (by simp[hb])) (fun j hj=>hrd j (.inr (hvr j hj)))
  refine⟨[⟨c,x.1⟩],rfl,.c c x.1,fun rest=>rfl,⟨hs,obs,p1,fun rest=>?_⟩,fun j hj=> .inr (hvr j hj)⟩
  exact lendW1_of (q1 rest) (fun k hk=>hv k (hvr k (by rwa [drefs_den]at hk)))
 | .o k,d,m,m',h,hn,hc,hr=>by
  simp only[gA1]at h
  split at h
  ·rename_i k' len
   rw[bind_eq_some_iff]at h;obtain⟨o,h1,h⟩:=h
   split at h
   ·rename_i c l
    injection h with h;subst h
    have hq:(k',k)∈NM:=hn _ (by simp)
    have he:len=l.length:=by
     have:=hc (eqL len l.length) (by simp)
     simpa[eqL]using this
    refine⟨[],by simp,.own k 0 (olen k),fun rest=>rfl,⟨[.mut k],[],by simp,fun rest=>?_⟩,fun j hj=>?_⟩
    ·simp only[den,List.cons_append,nil_append,lendW1,hi _ hq,if_true,ho _ hq c l h1,he]
    ·simp only[drefs,mem_singleton]at hj;subst hj;exact .inl ⟨k,hq⟩
   ·cases h
  ·cases h
 | .od k,d,m,m',h,hn,hc,hr=>by
  simp only[gA1]at h
  split at h
  ·rename_i k' off len
   rw[bind_eq_some_iff]at h;obtain⟨o,h1,h⟩:=h
   split at h
   ·rename_i c l
    injection h with h;subst h
    have hq:(k',k)∈NM:=hn _ (by simp)
    have he:off+len=l.length:=by
     have:=hc (eqL (off+len) l.length) (by simp)
     simpa[eqL]using this
    refine⟨[⟨.int .i64,(off:Int)⟩],rfl,.own k off (olen k - off),fun rest=>?_,⟨[.mut k],[],by simp,fun rest=>?_⟩,fun j hj=>?_⟩
    ·have:offOf (X:=X) ⟨.int .i64,(off:Int)⟩=off:=by
      simp only[offOf]
      rw[castC_self]
      simp
     simp only[eP,List.cons_append,nil_append,this]
    ·simp only[den,List.cons_append,nil_append,lendW1,hi _ hq,if_true,ho _ hq c l h1,show l.length - off=len by omega]
    ·simp only[drefs,mem_singleton]at hj;subst hj;exact .inl ⟨k,hq⟩
   ·cases h
  ·cases h
 | .p k,d,m,m',h,hn,hc,hr=>by
  simp only[gA1]at h
  split at h
  ·rename_i k'
   injection h with h;subst h
   have hq:(k',k)∈NM:=hn _ (by simp)
   refine⟨[],by simp,.ptr k 0 0,fun rest=>rfl,⟨[.mut k],[],by simp,fun rest=>?_⟩,fun j hj=>?_⟩
   ·simp only[den,List.cons_append,nil_append,lendW1,hi _ hq,if_true]
   ·simp only[drefs,mem_singleton]at hj;subst hj;exact .inl ⟨k,hq⟩
  ·cases h
 | .nil,d,m,m',h,hn,hc,hr=>by
  simp only[gA1]at h
  split at h
  ·injection h with h;subst h
   refine⟨[],by simp,.nil,fun rest=>rfl,⟨[.nil],[],by simp,fun rest=>?_⟩,by simp[drefs]⟩
   exact lendW1_of (by simp only[den,List.cons_append,nil_append,lend]) (by simp[den,refs])
  ·cases h
 | .f F fs cs,d,m,m',h,hn,hc,hr=>by
  simp only[gA1]at h
  split at h
  ·rename_i F' first caps
   split at h
   ·rename_i e
    subst e
    rw[bind_eq_some_iff]at h;obtain⟨m1,h1,h⟩:=h
    have hm:=(gAs_mono cs _ m1 m' h).1
    obtain⟨n1,a1,f',b1,⟨hs1,o1,p1,q1⟩,r1⟩:=gAs_sound hi hv hrd ho fs _ m m1 h1 (fun q hq=>hn q (hm.1 q hq)) (fun q hq=>hc q (hm.2.1 q hq)) (fun q hq=>hr q (hm.2.2 q hq))
    obtain⟨n2,a2,c',b2,⟨hs2,o2,p2,q2⟩,r2⟩:=gAs_sound hi hv hrd ho cs _ m1 m' h hn hc hr
    refine⟨n1++n2,by rw[a2,a1,append_assoc],.fn F f' c',fun rest=>by simp only[eP,append_assoc,b1,b2],⟨.fnw::(hs1++hs2),o1++o2,all_app p1 p2,fun rest=>?_⟩,fun j hj=>?_⟩
    ·simp only[den,List.cons_append,append_assoc,lendW1,q1,bind_some,q2]
    ·simp only[drefs,mem_append]at hj
     exact hj.elim (r1 j) (r2 j)
   ·cases h
  ·cases h
 | .mp _,d,m,m',h,hn,hc,hr=>by simp[gA1]at h
 | .a ps,d,m,m',h,_,_,_=>by simp[gA1]at h
theorem gAs_sound (hi:∀ q∈NM,ids[q.2]? =some q.1) (hv:∀ k∈VRS,k∉ids) (hrd:∀ k,(∃ q,(k,q)∈NM)∨k∈VRS→k∈rd) (ho:∀ q∈NM,∀ c l,get q.1=some (.lst c l)→olen q.2=l.length):
 ∀ (ps:List (Pt X.ι)) (ds:List (DV X)) (m m':MG X),gAs get ps ds m=some m'→(∀ q∈m'.nm,q∈NM)→(∀ c∈m'.chk,c=true)→(∀ k∈m'.vr,k∈VRS)→
 ∃ new,m'.dcs=m.dcs++new∧∃ ds',(∀ rest,ePs olen ps (new++rest)=(ds',rest))∧(∃ hs obs,(∀ p∈obs,p)∧∀ rest,lendLW P (restr rd (aget get)) ids (denL ds) (hs++rest)=some (denL ds',rest,obs))∧∀ j∈drefsL ds,(∃ q,(j,q)∈NM)∨j∈VRS
 |[],[],m,m',h,_,_,_=>by
  simp only[gAs,Option.some.injEq]at h;subst h
  exact⟨[],by simp,[],fun rest=>rfl,⟨[],[],by simp,fun rest=>rfl⟩,by simp[drefsL]⟩
 |p::ps,d::ds,m,m',h,hn,hc,hr=>by
  simp only[gAs]at h
  rw[bind_eq_some_iff]at h;obtain⟨m1,h1,h⟩:=h
  have hm:=(gAs_mono ps ds m1 m' h).1
  obtain⟨n1,a1,d',b1,⟨hs1,o1,p1,q1⟩,r1⟩:=gA1_sound hi hv hrd ho p d m m1 h1 (fun q hq=>hn q (hm.1 q hq)) (fun q hq=>hc q (hm.2.1 q hq)) (fun q hq=>hr q (hm.2.2 q hq))
  obtain⟨n2,a2,ds',b2,⟨hs2,o2,p2,q2⟩,r2⟩:=gAs_sound hi hv hrd ho ps ds m1 m' h hn hc hr
  refine⟨n1++n2,by rw[a2,a1,append_assoc],d'::ds',fun rest=>by simp only[ePs,append_assoc,b1,b2],⟨hs1++hs2,o1++o2,all_app p1 p2,fun rest=>?_⟩,fun j hj=>?_⟩
  ·simp only[denL,append_assoc,lendLW,q1,bind_some,q2]
  ·simp only[drefsL,mem_append]at hj
   exact hj.elim (r1 j) (r2 j)
 |[],_::_,m,m',h,_,_,_=>by simp[gAs]at h
 |_::_,[],m,m',h,_,_,_=>by simp[gAs]at h
end
theorem gRows_mono:∀ (rs:List (List (Pt X.ι))) (qs:List (List (DV X))) (m m':MG X),gRows get rs qs m=some m'→MonoG m m'∧∃ new,m'.dcs=m.dcs++new∧new.length=(varsR rs).length
 |[],[],m,m',h=>by
  simp only[gRows,Option.some.injEq]at h;subst h
  exact⟨MonoG.refl _,[],by simp,rfl⟩
 |r::rs,q::qs,m,m',h=>by
  simp only[gRows]at h
  rw[bind_eq_some_iff]at h;obtain⟨m1,h1,h⟩:=h
  obtain⟨a1,n1,b1,c1⟩:=gAs_mono r q m m1 h1
  obtain⟨a2,n2,b2,c2⟩:=gRows_mono rs qs m1 m' h
  exact⟨a1.trans a2,n1++n2,by rw[b2,b1,append_assoc],by simp[varsR,c1,c2]⟩
 |[],_::_,m,m',h=>by simp[gRows]at h
 |_::_,[],m,m',h=>by simp[gRows]at h
theorem gRows_sound (hi:∀ q∈NM,ids[q.2]? =some q.1) (hv:∀ k∈VRS,k∉ids) (hrd:∀ k,(∃ q,(k,q)∈NM)∨k∈VRS→k∈rd) (ho:∀ q∈NM,∀ c l,get q.1=some (.lst c l)→olen q.2=l.length):
 ∀ (rs:List (List (Pt X.ι))) (qs:List (List (DV X))) (m m':MG X),gRows get rs qs m=some m'→(∀ q∈m'.nm,q∈NM)→(∀ c∈m'.chk,c=true)→(∀ k∈m'.vr,k∈VRS)→
 ∃ new,m'.dcs=m.dcs++new∧∃ qs',(∀ rest,eRows olen rs (new++rest)=(qs',rest))∧(∃ hs obs,(∀ p∈obs,p)∧lendRs P (restr rd (aget get)) ids (qs.map denL) hs=some (qs'.map denL,obs))∧∀ j∈(qs.map drefsL).flatten,(∃ q,(j,q)∈NM)∨j∈VRS
 |[],[],m,m',h,_,_,_=>by
  simp only[gRows,Option.some.injEq]at h;subst h
  exact⟨[],by simp,[],fun rest=>rfl,⟨[],[],by simp,rfl⟩,by simp⟩
 |r::rs,q::qs,m,m',h,hn,hc,hr=>by
  simp only[gRows]at h
  rw[bind_eq_some_iff]at h;obtain⟨m1,h1,h⟩:=h
  have hm:=(gRows_mono rs qs m1 m' h).1
  obtain⟨n1,a1,d',b1,⟨hs1,o1,p1,q1⟩,r1⟩:=gAs_sound (P:=P) hi hv hrd ho r q m m1 h1 (fun q hq=>hn q (hm.1 q hq)) (fun q hq=>hc q (hm.2.1 q hq)) (fun q hq=>hr q (hm.2.2 q hq))
  obtain⟨n2,a2,ds',b2,⟨hs2,o2,p2,q2⟩,r2⟩:=gRows_sound hi hv hrd ho rs qs m1 m' h hn hc hr
  refine⟨n1++n2,by rw[a2,a1,append_assoc],d'::ds',fun rest=>by simp only[eRows,append_assoc,b1,b2],⟨hs1::hs2,o1++o2,all_app p1 p2,?_⟩,fun j hj=>?_⟩
  ·have:=q1 []
   rw[List.append_nil]at this
   simp only[map_cons,lendRs,this,bind_some,q2]
  ·simp only[map_cons,List.flatten_cons,mem_append]at hj
   exact hj.elim (r1 j) (r2 j)
 |[],_::_,m,m',h,_,_,_=>by simp[gRows]at h
 |_::_,[],m,m',h,_,_,_=>by simp[gRows]at h
theorem gObjs_mono:∀ (os:List (Nat×OP X.ι)) (m m':MG X),gObjs get os m=some m'→MonoG m m'∧∃ new,m'.dcs=m.dcs++new∧new.length=(varsO os).length
 |[],m,m',h=>by
  simp only[gObjs,Option.some.injEq]at h;subst h
  exact⟨MonoG.refl _,[],by simp,rfl⟩
 |(k,op)::r,m,m',h=>by
  simp only[gObjs]at h
  rw[bind_eq_some_iff]at h;obtain⟨o,h1,h⟩:=h
  split at h
  ·rename_i c c' l
   rw[bind_eq_some_iff]at h;obtain⟨l',h2,h⟩:=h
   obtain⟨a2,n2,b2,c2⟩:=gObjs_mono r _ m' h
   refine⟨MonoG.trans (b:=⟨m.nm++[(nmG m k,k)],m.dcs++[⟨.sl c,l'⟩],m.chk,m.vr⟩) ⟨fun _ h=>by simp[h],fun _ h=>h,fun _ h=>h⟩ a2,[⟨.sl c,l'⟩]++n2,?_,by simp[varsO,c2]⟩
   rw[b2,append_assoc]
  ·rename_i sz rows sz' rows'
   split at h
   ·rw[bind_eq_some_iff]at h;obtain⟨m1,h2,h⟩:=h
    obtain⟨a1,n1,b1,c1⟩:=gRows_mono rows _ _ m1 h2
    obtain⟨a2,n2,b2,c2⟩:=gObjs_mono r m1 m' h
    refine⟨MonoG.trans (MonoG.trans (b:=⟨m.nm++[(nmG m k,k)],m.dcs,m.chk,m.vr⟩) ⟨fun _ h=>by simp[h],fun _ h=>h,fun _ h=>h⟩ a1) a2,n1++n2,?_,by simp[varsO,c1,c2]⟩
    rw[b2,b1,append_assoc]
   ·cases h
  ·cases h
theorem gObjs_lens:∀ (os:List (Nat×OP X.ι)) (m m':MG X),gObjs get os m=some m'→(∀ q∈m'.nm,q∈NM)→∃ new,m'.dcs=m.dcs++new∧∀ rest,∀ k∈os.map (·.1),∃ k' o,(k',k)∈NM∧get k'=some o∧∀ c l,o= .lst c l→(k,List.length l)∈lens os (new++rest)
 |[],m,m',h,_=>by
  simp only[gObjs,Option.some.injEq]at h;subst h
  exact⟨[],by simp,fun rest k hk=>by simp at hk⟩
 |(k,op)::r,m,m',h,hn=>by
  simp only[gObjs]at h
  rw[bind_eq_some_iff]at h;obtain⟨o,h1,h⟩:=h
  split at h
  ·rename_i c c' l
   rw[bind_eq_some_iff]at h;obtain⟨l',h2,h⟩:=h
   have hm:=(gObjs_mono r _ m' h).1
   obtain⟨n2,b2,c2⟩:=gObjs_lens r _ m' h hn
   refine⟨[⟨.sl c,l'⟩]++n2,by rw[b2,append_assoc],fun rest j hj=>?_⟩
   simp only[map_cons,mem_cons]at hj
   simp only[append_assoc,List.cons_append,nil_append,lens]
   by_cases hjk:j=k
   ·subst hjk
    refine⟨_,_,hn _ (hm.1 _ (by simp)),h1,fun c2 l2 he=>?_⟩
    injection he with e1 e2
    subst e1
    have e2:=eq_of_heq e2
    subst e2
    have:=congrArg List.length (castL_den h2).2
    simp only[List.length_map]at this
    rw[this];exact List.mem_cons_self
   ·rcases hj with rfl |hj
    ·exact (hjk rfl).elim
    ·obtain⟨k',o',g1,g2,g3⟩:=c2 rest j hj
     exact⟨k',o',g1,g2,fun c l he=>List.mem_cons_of_mem _ (g3 c l he)⟩
  ·rename_i sz rows sz' rows'
   split at h
   ·rw[bind_eq_some_iff]at h;obtain⟨m1,h2,h⟩:=h
    obtain⟨a1,n1,b1,c1⟩:=gRows_mono rows _ _ m1 h2
    have hm:=(gObjs_mono r _ m' h).1
    obtain⟨n2,b2,c2⟩:=gObjs_lens r _ m' h hn
    refine⟨n1++n2,by rw[b2,b1,append_assoc],fun rest j hj=>?_⟩
    simp only[map_cons,mem_cons]at hj
    have hd:(n1++n2++rest).drop (varsR rows).length=n2++rest:=by rw[← c1,append_assoc,List.drop_left]
    simp only[lens,hd]
    by_cases hjk:j=k
    ·subst hjk
     exact⟨_,_,hn _ (hm.1 _ (a1.1 _ (by simp))),h1,fun c2 l2 he=>by cases he⟩
    ·rcases hj with rfl |hj
     ·exact (hjk rfl).elim
     ·exact c2 rest j hj
   ·cases h
  ·cases h
theorem lens_keys':∀ (os:List (Nat×OP X.ι)) (L:List (DC X)),((lens os L).map (·.1)).Sublist (os.map (·.1))
 |[],_=>by simp[lens]
 |(k,.l c)::r,L=>by
  simp only[lens]
  split
  ·exact (lens_keys' r _).cons_cons _
  ·exact List.nil_sublist _
 |(k,.m kc vc)::r,L=>by
  simp only[lens]
  exact (lens_keys' r _).cons _
 |(k,.c sz rows)::r,L=>by
  simp only[lens]
  exact (lens_keys' r _).cons _
def orefs_cel (get':Nat→Option AObj) (NM:List (Nat×Nat)) (VRS:List Nat) (bs:List OB) (ks:List Nat):Prop:=
 ∀ (j:Nat) hs q o,bs[j]? =some (.cel hs)→ks[j]? =some q→get' q=some o→∀ k∈orefsA o,(∃ z,(k,z)∈NM)∨k∈VRS
theorem orefsA_cells {sz:Nat} {rows:List (List (DV X))} {k:Nat} (h:k∈orefsA (denO (.cells sz rows))):k∈(rows.map drefsL).flatten:=by
 simp only[orefsA,denO,List.mem_flatMap,mem_map]at h
 obtain⟨a,⟨r,hr,rfl⟩,hk⟩:=h
 rw[drefsL_den]at hk
 exact List.mem_flatten.2 ⟨_,mem_map.2 ⟨r,hr,rfl⟩,hk⟩
theorem gObjs_sound (hi:∀ q∈NM,ids[q.2]? =some q.1) (hv:∀ k∈VRS,k∉ids) (hrd:∀ k,(∃ q,(k,q)∈NM)∨k∈VRS→k∈rd) (ho:∀ q∈NM,∀ c l,get q.1=some (.lst c l)→olen q.2=l.length):
 ∀ (os:List (Nat×OP X.ι)) (m m':MG X),gObjs get os m=some m'→(∀ q∈m'.nm,q∈NM)→(∀ c∈m'.chk,c=true)→(∀ k∈m'.vr,k∈VRS)→
 ∃ new,m'.dcs=m.dcs++new∧∃ xs:List (Nat×DObj X),(∀ rest,eObjs olen os (new++rest)=xs.map fun p=>(p.1,some p.2))∧
   ∃ bs mo,(∀ p∈mo,p)∧handG P (restr rd (aget get)) ids (os.map fun p=>(ids[p.1]?).getD 0) bs=some (xs.map fun p=>denO p.2,mo)∧orefs_cel (restr rd (aget get)) NM VRS bs (os.map fun p=>(ids[p.1]?).getD 0)
 |[],m,m',h,_,_,_=>by
  simp only[gObjs,Option.some.injEq]at h;subst h
  exact⟨[],by simp,[],fun rest=>rfl,[],[],by simp,rfl,fun j hs q o h=>by simp at h⟩
 |(k,op)::r,m,m',h,hn,hc,hr=>by
  simp only[gObjs]at h
  rw[bind_eq_some_iff]at h;obtain⟨o,h1,h⟩:=h
  split at h
  ·rename_i c c' l
   rw[bind_eq_some_iff]at h;obtain⟨l',h2,h⟩:=h
   have hm:=(gObjs_mono r _ m' h).1
   have hq:(nmG m k,k)∈NM:=hn _ (hm.1 _ (by simp))
   have hid:(ids[k]?).getD 0=nmG m k:=by rw[hi _ hq];rfl
   have hget:=restr_get (hrd (nmG m k) (.inl ⟨k,hq⟩)) h1
   obtain⟨h3,h4⟩:=castL_den h2
   obtain⟨n2,a2,xs,b2,bs,mo,p2,q2,r2⟩:=gObjs_sound hi hv hrd ho r _ m' h hn hc hr
   refine⟨[⟨.sl c,l'⟩]++n2,by rw[a2,append_assoc],(k,.lst c l')::xs,fun rest=>by simp only[append_assoc,List.cons_append,nil_append,eObjs,b2,map_cons],.dat (CT.sz X c,l'.map (CT.row X.toSE c))::bs,((denO (.lst c' l)).sz=CT.sz X c∧wkRows ((denO (.lst c' l)).rows.take (l'.map (CT.row X.toSE c)).length)=avRows (l'.map (CT.row X.toSE c)))::mo,?_,?_,?_⟩
   ·intro p hp
    rcases mem_cons.1 hp with rfl |hp
    ·refine⟨h3,?_⟩
     simp only[denO,h4]
     rw[List.take_of_length_le (by simp[avRows])]
     simp[wkRows,avRows,Function.comp_def,wk]
    ·exact p2 p hp
   ·simp only[map_cons,handG,handO,hid,hget,bind_some,q2,List.cons_append,nil_append]
    rfl
   ·intro j hs q o' hj hq' ho'
    cases j with
    |zero=>simp at hj
    |succ j=>exact r2 j hs q o' (by simpa using hj) (by simpa using hq') ho'
  ·rename_i sz rows sz' rows'
   split at h
   ·rename_i hsz
    rw[bind_eq_some_iff]at h;obtain⟨m1,h2,h⟩:=h
    have hm1:=(gRows_mono rows _ _ m1 h2).1
    have hm:=(gObjs_mono r _ m' h).1
    have hq:(nmG m k,k)∈NM:=hn _ (hm.1 _ (hm1.1 _ (by simp)))
    have hid:(ids[k]?).getD 0=nmG m k:=by rw[hi _ hq];rfl
    have hget:=restr_get (hrd (nmG m k) (.inl ⟨k,hq⟩)) h1
    obtain⟨n1,a1,qs,b1,⟨hs1,o1,p1,q1⟩,r1⟩:=gRows_sound (P:=P) hi hv hrd ho rows _ _ m1 h2 (fun q hq=>hn q (hm.1 q hq)) (fun q hq=>hc q (hm.2.1 q hq)) (fun q hq=>hr q (hm.2.2 q hq))
    obtain⟨n2,a2,xs,b2,bs,mo,p2,q2,r2⟩:=gObjs_sound hi hv hrd ho r _ m' h hn hc hr
    subst hsz
    refine⟨n1++n2,by rw[a2,a1,append_assoc],(k,.cells sz qs)::xs,fun rest=>by simp only[append_assoc,eObjs,b1,b2,map_cons],.cel hs1::bs,o1++mo,all_app p1 p2,?_,?_⟩
    ·simp only[map_cons,handG,handO,hid,hget,bind_some,denO,q1,q2]
    ·intro j hs q o' hj hq' ho'
     cases j with
     |zero=>
      simp only[map_cons,List.getElem?_cons_zero,Option.some.injEq]at hq'
      rw[← hq',hid,hget]at ho'
      injection ho' with ho'
      subst ho'
      exact fun z hz=>r1 z (orefsA_cells hz)
     |succ j=>exact r2 j hs q o' (by simpa using hj) (by simpa using hq') ho'
   ·cases h
  ·cases h
end
end
end Go.Gb
namespace Go.Gb
open Go.RowKit
section
variable {X:SX} {A:Type}
theorem dcsV_c:∀ (l:List (CT X.ι)) (v:VT (X:=X) l),(dcsV l v).map (·.c)=l
 |[],_=>rfl
 |[_],_=>rfl
 |c::c'::l,v=>by simp only[dcsV,map_cons,dcsV_c (c'::l) v.2]
theorem avFlatL_t:∀ {l:List Tree},(∀ t∈l,t.flat)→avFlatL (l.map AV.t)
 |[],_=>trivial
 |t::l,h=>⟨h t (by simp),avFlatL_t (fun u hu=>h u (by simp[hu]))⟩
theorem scalC_avFlat {c:CT X.ι} (h:scalC c=true) (x:CT.T X.toSE c):avFlat (CT.tv X.toSE c x).av:=by
 have hf:=scalC_flat h x
 cases c
 case st i=>exact avFlatL_t hf
 all_goals first |exact hf _ (mem_singleton.2 rfl) |cases h
section
variable {ol:Nat→Nat}
mutual
theorem eP_flat:∀ (p:Pt X.ι) (L:List (DC X)) (cs:List (CT X.ι)),L.map (·.c)=p.vars++cs→p.vars.all scalC=true→avFlat (den (eP ol p L).1)∧(eP ol p L).2.map (·.c)=cs
 | .v c,L,cs,h,hs=>by
  match L,h with
  |d::r,h=>
   simp only[Pt.vars,map_cons,List.singleton_append,List.cons.injEq]at h
   simp only[Pt.vars,List.all_cons,List.all_nil,Bool.and_true]at hs
   exact⟨scalC_avFlat (h.1 ▸ hs) d.x,h.2⟩
  |[],h=>simp[Pt.vars]at h
 | .o k,L,cs,h,_=>⟨trivial,by simpa[Pt.vars,eP]using h⟩
 | .p k,L,cs,h,_=>⟨trivial,by simpa[Pt.vars,eP]using h⟩
 | .mp k,L,cs,h,_=>⟨trivial,by simpa[Pt.vars,eP]using h⟩
 | .nil,L,cs,h,_=>⟨trivial,by simpa[Pt.vars,eP]using h⟩
 | .od k,L,cs,h,_=>by
  match L,h with
  |d::r,h=>
   simp only[Pt.vars,map_cons,List.singleton_append,List.cons.injEq]at h
   exact⟨trivial,h.2⟩
  |[],h=>simp[Pt.vars]at h
 | .f F fs ps,L,cs,h,hs=>by
  simp only[Pt.vars,List.all_append,and_eq_true]at hs
  simp only[Pt.vars,append_assoc]at h
  obtain⟨a1,a2⟩:=ePs_flat fs L _ h hs.1
  obtain⟨b1,b2⟩:=ePs_flat ps _ _ a2 hs.2
  exact⟨⟨a1,b1⟩,b2⟩
 | .a ps,L,cs,h,hs=>by
  simp only[Pt.vars]at h hs
  exact ePs_flat ps L cs h hs
theorem ePs_flat:∀ (ps:List (Pt X.ι)) (L:List (DC X)) (cs:List (CT X.ι)),L.map (·.c)=varsL ps++cs→(varsL ps).all scalC=true→avFlatL (denL (ePs ol ps L).1)∧(ePs ol ps L).2.map (·.c)=cs
 |[],L,cs,h,_=>⟨trivial,by simpa[varsL,ePs]using h⟩
 |p::ps,L,cs,h,hs=>by
  simp only[varsL,List.all_append,and_eq_true]at hs
  simp only[varsL,append_assoc]at h
  obtain⟨a1,a2⟩:=eP_flat p L _ h hs.1
  obtain⟨b1,b2⟩:=ePs_flat ps _ _ a2 hs.2
  exact⟨⟨a1,b1⟩,b2⟩
end
mutual
theorem eP_refs:∀ (p:Pt X.ι) (L:List (DC X)),∀ j∈drefs (eP ol p L).1,j∈p.refs
 | .v c,L,j,h=>by cases L<;>simp[eP,drefs]at h
 | .o k,L,j,h=>by simpa[eP,drefs,Pt.refs]using h
 | .p k,L,j,h=>by simpa[eP,drefs,Pt.refs]using h
 | .mp k,L,j,h=>by simpa[eP,drefs,Pt.refs]using h
 | .nil,L,j,h=>by simp[eP,drefs]at h
 | .od k,L,j,h=>by cases L<;>simp[eP,drefs]at h<;>simp[Pt.refs,h]
 | .f F fs ps,L,j,h=>by
  simp only[eP,drefs,mem_append]at h
  simp only[Pt.refs,mem_append]
  exact h.imp (ePs_refs fs _ j) (ePs_refs ps _ j)
 | .a ps,L,j,h=>by
  simp only[eP,drefs]at h
  simp only[Pt.refs]
  exact ePs_refs ps _ j h
theorem ePs_refs:∀ (ps:List (Pt X.ι)) (L:List (DC X)),∀ j∈drefsL (ePs ol ps L).1,j∈prefsL ps
 |[],L,j,h=>by simp[ePs,drefsL]at h
 |p::ps,L,j,h=>by
  simp only[ePs,drefsL,mem_append]at h
  simp only[prefsL,mem_append]
  exact h.imp (eP_refs p _ j) (ePs_refs ps _ j)
end
theorem eRows_flat:∀ (rs:List (List (Pt X.ι))) (L:List (DC X)) (cs:List (CT X.ι)),L.map (·.c)=varsR rs++cs→(eRows ol rs L).2.map (·.c)=cs∧((varsR rs).all scalC=true→∀ r∈(eRows ol rs L).1,avFlatL (denL r))
 |[],L,cs,h=>⟨by simpa[varsR,eRows]using h,by simp[eRows]⟩
 |r::rs,L,cs,h=>by
  simp only[varsR,append_assoc]at h
  have step:(ePs ol r L).2.map (·.c)=varsR rs++cs:=ePs_codes r L _ h
  obtain⟨b1,b2⟩:=eRows_flat rs _ _ step
  refine⟨b1,fun hs q hq=>?_⟩
  simp only[varsR,List.all_append,and_eq_true]at hs
  simp only[eRows,mem_cons]at hq
  rcases hq with rfl |hq
  ·exact (ePs_flat r L _ h hs.1).1
  ·exact b2 hs.2 q hq
where
 ePs_codes (ps:List (Pt X.ι)) (L:List (DC X)) (cs:List (CT X.ι)) (h:L.map (·.c)=varsL ps++cs):(ePs ol ps L).2.map (·.c)=cs:=codesL ps L cs h
 codes1:∀ (p:Pt X.ι) (L:List (DC X)) (cs:List (CT X.ι)),L.map (·.c)=p.vars++cs→(eP ol p L).2.map (·.c)=cs
  | .v c,L,cs,h=>by
   match L,h with
   |d::r,h=>simp only[Pt.vars,map_cons,List.singleton_append,List.cons.injEq]at h;exact h.2
   |[],h=>simp[Pt.vars]at h
  | .o k,L,cs,h=>by simpa[Pt.vars,eP]using h
  | .p k,L,cs,h=>by simpa[Pt.vars,eP]using h
  | .mp k,L,cs,h=>by simpa[Pt.vars,eP]using h
  | .nil,L,cs,h=>by simpa[Pt.vars,eP]using h
  | .od k,L,cs,h=>by
   match L,h with
   |d::r,h=>simp only[Pt.vars,map_cons,List.singleton_append,List.cons.injEq]at h;exact h.2
   |[],h=>simp[Pt.vars]at h
  | .f F fs ps,L,cs,h=>by
   simp only[Pt.vars,append_assoc]at h
   exact codesL ps _ _ (codesL fs L _ h)
  | .a ps,L,cs,h=>by
   simp only[Pt.vars]at h
   exact codesL ps L cs h
 codesL:∀ (ps:List (Pt X.ι)) (L:List (DC X)) (cs:List (CT X.ι)),L.map (·.c)=varsL ps++cs→(ePs ol ps L).2.map (·.c)=cs
  |[],L,cs,h=>by simpa[varsL,ePs]using h
  |p::ps,L,cs,h=>by
   simp only[varsL,append_assoc]at h
   exact codesL ps _ _ (codes1 p L _ h)
theorem eRows_refs:∀ (rs:List (List (Pt X.ι))) (L:List (DC X)),∀ j∈((eRows ol rs L).1.map drefsL).flatten,j∈rs.flatMap prefsL
 |[],L,j,h=>by simp[eRows]at h
 |r::rs,L,j,h=>by
  simp only[eRows,map_cons,List.flatten_cons,mem_append]at h
  simp only[List.flatMap_cons,mem_append]
  exact h.imp (ePs_refs r _ j) (eRows_refs rs _ j)
theorem eObjs_spec:∀ (O:List (Nat×OP X.ι)) (L:List (DC X)),((someO (eObjs ol O L)).map (·.1)).Sublist (O.map (·.1))∧(∀ p∈someO (eObjs ol O L),∃ op,(p.1,op)∈O∧∀ j∈orefs p.2,j∈op.refs)∧
 (L.map (·.c)=varsO O→(O.all fun q=>match q.2 with | .l c=>scalC c | .m _ _=>false | .c _ rows=>(varsR rows).all scalC)=true→∀ p∈someO (eObjs ol O L),∀ r∈(denO p.2).rows,avFlatL r)
 |[],L=>⟨by simp[eObjs,someO],by simp[eObjs,someO],by simp[eObjs,someO]⟩
 |(k,.l c)::O,L=>by
  match L with
  |[]=>exact⟨by simp[eObjs,someO],by simp[eObjs,someO],by simp[eObjs,someO]⟩
  |⟨.sl c',x⟩::L=>
   obtain⟨h1,h2,h3⟩:=eObjs_spec O L
   refine⟨?_,?_,?_⟩
   ·simp only[eObjs,someO,map_cons];exact h1.cons_cons _
   ·intro p hp
    simp only[eObjs,someO,mem_cons]at hp
    rcases hp with rfl |hp
    ·exact⟨.l c,by simp,by simp[orefs]⟩
    ·obtain⟨op,g1,g2⟩:=h2 p hp
     exact⟨op,List.mem_cons_of_mem _ g1,g2⟩
   ·intro hL hs p hp r hr
    simp only[map_cons,varsO,List.cons.injEq]at hL
    simp only[List.all_cons,and_eq_true]at hs
    simp only[eObjs,someO,mem_cons]at hp
    rcases hp with rfl |hp
    ·obtain⟨e,_⟩:=hL
     injection e with e
     simp only[denO,avRows,mem_map]at hr
     obtain⟨q,⟨y,hy,rfl⟩,rfl⟩:=hr
     exact avFlatL_t (scalC_flat (e ▸ hs.1) y)
    ·exact h3 hL.2 hs.2 p hp r hr
  |⟨.int _,x⟩::L=>exact⟨by simp[eObjs,someO],by simp[eObjs,someO],by simp[eObjs,someO]⟩
  |⟨.bool,x⟩::L=>exact⟨by simp[eObjs,someO],by simp[eObjs,someO],by simp[eObjs,someO]⟩
  |⟨.str,x⟩::L=>exact⟨by simp[eObjs,someO],by simp[eObjs,someO],by simp[eObjs,someO]⟩
  |⟨.any,x⟩::L=>exact⟨by simp[eObjs,someO],by simp[eObjs,someO],by simp[eObjs,someO]⟩
  |⟨.mp _ _,x⟩::L=>exact⟨by simp[eObjs,someO],by simp[eObjs,someO],by simp[eObjs,someO]⟩
  |⟨.st _,x⟩::L=>exact⟨by simp[eObjs,someO],by simp[eObjs,someO],by simp[eObjs,someO]⟩
 |(k,.m kc vc)::O,L=>by
  match L with
  |[]=>exact⟨by simp[eObjs,someO],by simp[eObjs,someO],by simp[eObjs,someO]⟩
  |⟨.mp kc' vc',x⟩::L=>
   obtain⟨h1,h2,h3⟩:=eObjs_spec O L
   refine⟨?_,?_,?_⟩
   ·simp only[eObjs,someO,map_cons];exact h1.cons_cons _
   ·intro p hp
    simp only[eObjs,someO,mem_cons]at hp
    rcases hp with rfl |hp
    ·exact⟨.m kc vc,by simp,by simp[orefs]⟩
    ·obtain⟨op,g1,g2⟩:=h2 p hp
     exact⟨op,List.mem_cons_of_mem _ g1,g2⟩
   ·intro hL hs
    simp at hs
  |⟨.sl _,x⟩::L=>exact⟨by simp[eObjs,someO],by simp[eObjs,someO],by simp[eObjs,someO]⟩
  |⟨.int _,x⟩::L=>exact⟨by simp[eObjs,someO],by simp[eObjs,someO],by simp[eObjs,someO]⟩
  |⟨.bool,x⟩::L=>exact⟨by simp[eObjs,someO],by simp[eObjs,someO],by simp[eObjs,someO]⟩
  |⟨.str,x⟩::L=>exact⟨by simp[eObjs,someO],by simp[eObjs,someO],by simp[eObjs,someO]⟩
  |⟨.any,x⟩::L=>exact⟨by simp[eObjs,someO],by simp[eObjs,someO],by simp[eObjs,someO]⟩
  |⟨.st _,x⟩::L=>exact⟨by simp[eObjs,someO],by simp[eObjs,someO],by simp[eObjs,someO]⟩
 |(k,.c sz rows)::O,L=>by
  obtain⟨h1,h2,h3⟩:=eObjs_spec O (eRows ol rows L).2
  refine⟨?_,?_,?_⟩
  ·simp only[eObjs,someO,map_cons];exact h1.cons_cons _
  ·intro p hp
   simp only[eObjs,someO,mem_cons]at hp
   rcases hp with rfl |hp
   ·exact⟨.c sz rows,by simp,fun j hj=>eRows_refs rows L j hj⟩
   ·obtain⟨op,g1,g2⟩:=h2 p hp
    exact⟨op,List.mem_cons_of_mem _ g1,g2⟩
  ·intro hL hs p hp r hr
   simp only[varsO]at hL
   simp only[List.all_cons,and_eq_true]at hs
   obtain⟨e1,e2⟩:=eRows_flat (ol:=ol) rows L _ hL
   simp only[eObjs,someO,mem_cons]at hp
   rcases hp with rfl |hp
   ·simp only[denO,mem_map]at hr
    obtain⟨q,hq,rfl⟩:=hr
    exact e2 hs.1 q hq
   ·exact h3 e1 hs.2 p hp r hr
end
theorem olk_denOs (k:Nat):∀ os:List (Nat×DObj X),olk (denOs os) k=(dlk os k).map denO
 |[]=>rfl
 |(j,o)::r=>by
  simp only[denOs,map_cons,olk,dlk]
  split
  ·rfl
  ·exact olk_denOs k r
theorem rnA_tv (f:Nat→Nat) (c:CT X.ι) (x:CT.T X.toSE c):rnA f (CT.tv X.toSE c x).av=(CT.tv X.toSE c x).av:=(rnD_den f (.c c x)).symm
theorem denO_rnO (f:Nat→Nat) (o:DObj X):denO (rnO f o)=rnAO f (denO o):=by
 cases o with
 |cells sz rows=>simp only[rnO,denO,rnAO,List.map_map];congr 1;exact List.map_congr_left fun r _=>rnDL_den f r
 |lst c l=>simp only[rnO,denO,rnAO,avRows,List.map_map];congr 1;exact List.map_congr_left fun r _=>(rnAL_t f _).symm
 |map kc vc l=>simp only[rnO,denO,rnAO,List.map_map];congr 1;exact List.map_congr_left fun r _=>by simp only[Function.comp_apply,rnAL,rnA_tv]
theorem outGD_den (i:Nat) (ids:List Nat) (os:List (Nat×DObj X)):denU (outGD i ids os)=outG i ids (denOs os):=by
 simp only[outGD,outG,denU_append]
 congr 1
 ·simp only[denU,List.map_map]
  refine List.map_congr_left fun p _=>?_
  simp only[Function.comp_apply,olk_denOs,Option.map_map]
  congr 1
  cases dlk os p.2<;>simp[denO_rnO]
 ·simp only[denU,denOs,List.filter_map,List.map_map]
  refine List.map_congr_left fun q _=>?_
  simp[denO_rnO]
theorem den_theOne {ds:List (DV X)}:(∀ j∈refs (den (theOne ds)),j∈drefsL ds)∧(avFlatL (denL ds)→avFlat (den (theOne ds))):=by
 match ds with
 |[]=>exact⟨fun j hj=>by simp[theOne,den,denL,refs,refsL]at hj,fun _=>by simp only[theOne,den,avFlat];exact trivial⟩
 |[d]=>exact⟨fun j hj=>by simp only[theOne,drefs_den]at hj;simpa[drefsL]using hj,fun h=>h.1⟩
 |d::e::r=>exact⟨fun j hj=>by simp only[theOne,den,refs,drefsL_den]at hj;exact hj,fun h=>h⟩
theorem someO_map:∀ xs:List (Nat×DObj X),someO (xs.map fun p=>(p.1,some p.2))=xs
 |[]=>rfl
 |p::xs=>by simp only[map_cons,someO,someO_map xs]
theorem refsL_t:∀ l:List Tree,refsL (l.map AV.t)=[]
 |[]=>rfl
 |_::l=>by simp only[map_cons,refsL,refs,refsL_t l,nil_append]
theorem callGD_sound {P:Program} {g:GSig X} {F:FuncId} (hg:GCon P F g) {i:Nat} {first args caps:List (DV X)} {get:Nat→Option (DObj X)} {k:KK X A} {r:A} (h:callGD g i (first++args++caps) get k=some r):
 ∃ orc rd wr dv upd out,absCallY P i (den (.fn F first caps)) (denL args) orc (restr rd (aget get))=some out∧AllP out.obs∧out.v=den dv∧out.upd=denU upd∧(∀ p∈upd,p.1=nid i∨p.1∈wr)∧k dv upd rd wr=some r:=by
 unfold callGD at h
 rw[bind_eq_some_iff]at h;obtain⟨m1,h1,h⟩:=h
 rw[bind_eq_some_iff]at h;obtain⟨m,h2,h⟩:=h
 obtain⟨h3,h⟩:=cond_some h
 rw[bind_eq_some_iff]at h;obtain⟨v,h4,h⟩:=h
 obtain⟨h5,h⟩:=chkA_some h
 rw[bind_eq_some_iff]at h;obtain⟨rr,h6,h⟩:=h
 simp only[and_eq_true]at h3
 obtain⟨hok,hokG⟩:=h3
 simp only at h
 generalize hids:(List.range g.inO.length).map (nmG m)=ids at h hokG
 simp only[GSig.ok,and_eq_true,decide_eq_true_eq]at hok
 obtain⟨⟨⟨⟨n1,n2⟩,n3⟩,n4⟩,n5⟩:=hok
 simp only[okG,and_eq_true,decide_eq_true_eq]at hokG
 obtain⟨⟨hnd,hnm⟩,hvr⟩:=hokG
 have hlen:ids.length=g.inO.length:=by rw[← hids];simp
 have hi:∀ q∈m.nm,ids[q.2]? =some q.1:=by
  intro q hq
  have:=all_eq_true.1 hnm q hq
  split at this
  ·rename_i k' e
   rw[e,Nat.eq_of_beq_eq_true this]
  ·cases this
 have hv:∀ k∈m.vr,k∉ids:=fun k hk=>by
  have:=all_eq_true.1 hvr k hk
  simpa using this
 have hrd:∀ k,(∃ q,(k,q)∈m.nm)∨k∈m.vr→k∈ids++m.vr:=by
  rintro k (⟨q,hq⟩ |hk)
  ·exact List.mem_append_left _ (List.mem_of_getElem? (hi _ hq))
  ·exact List.mem_append_right _ hk
 have hm2:=(gObjs_mono _ _ _ h2).1
 have hdcs:=toVT_dcs h4
 obtain⟨_,nA,dA,lA⟩:=gAs_mono _ _ _ _ h1
 simp only[nil_append]at dA
 obtain⟨nB,dB,lB⟩:=gObjs_lens (NM:=m.nm) _ _ _ h2 (fun q hq=>hq)
 have hL:m.dcs=nA++nB:=by rw[dB,dA]
 have hdrop:(dcsV _ v).drop (varsL g.inP).length=nB:=by rw[hdcs,hL,← lA,List.drop_left]
 have htake:(dcsV _ v).take (varsL g.inP).length=nA:=by rw[hdcs,hL,← lA,List.take_left]
 have ho:∀ q∈m.nm,∀ c l,get q.1=some (.lst c l)→olenOf g.inO nB q.2=l.length:=by
  rintro⟨p,q⟩ hq c l hl
  have hq2:=hi _ hq
  have hqn:q < g.inO.length:=by rw[← hlen];exact (List.getElem?_eq_some_iff.1 hq2).1
  obtain⟨p',o,g1,g2,g3⟩:=lB [] q (by rw[n1];exact List.mem_range.2 hqn)
  have:p'=p:=by
   have e1:=hi _ g1
   rw[hq2]at e1
   injection e1 with e1
   exact e1.symm
  subst this
  simp only at hl
  rw[hl]at g2
  injection g2 with g2
  have h3:=g3 c l g2.symm
  rw[List.append_nil]at h3
  have hk:=(lens_keys' g.inO nB).nodup (by rw[n1];exact List.nodup_range)
  simp only[olenOf,lk_of_mem hk h3,Option.getD_some]
 obtain⟨nA',dA',ds',eA,⟨hs,obs,pA,qA⟩,rA⟩:=gAs_sound (P:=P) (ids:=ids) (rd:=ids++m.vr) (NM:=m.nm) (VRS:=m.vr) (olen:=olenOf g.inO nB) hi hv hrd ho _ _ _ _ h1 (fun q hq=>hm2.1 q hq) (fun c hc=>h5 c (hm2.2.1 c hc)) (fun q hq=>hm2.2.2 q hq)
 obtain⟨nB',dB',xs,eB,bs,mo,pB,qB,rB⟩:=gObjs_sound (P:=P) (ids:=ids) (rd:=ids++m.vr) (NM:=m.nm) (VRS:=m.vr) (olen:=olenOf g.inO nB) hi hv hrd ho _ _ _ h2 (fun q hq=>hq) h5 (fun q hq=>hq)
 have eqA:nA'=nA:=by simp only[nil_append]at dA';rw[← dA',dA]
 have eqB:nB'=nB:=List.append_cancel_left (dB'.symm.trans dB)
 subst eqA eqB
 have eA0:=eA []
 have eB0:=eB []
 rw[List.append_nil]at eA0 eB0
 have hargs:g.args v=ds':=by simp only[GSig.args,pVals,hdrop,htake,eA0]
 have hobjs:g.objs v=xs:=by simp only[GSig.objs,pObjs,hdrop,eB0,someO_map]
 have hidl:(g.inO.map fun p=>(ids[p.1]?).getD 0)=ids:=by
  have:(g.inO.map fun p=>(ids[p.1]?).getD 0)=(g.inO.map (·.1)).map fun j=>(ids[j]?).getD 0:=by rw[List.map_map];rfl
  rw[this,n1]
  refine List.ext_getElem (by simp[hlen]) fun j a b=>?_
  simp[List.getElem?_eq_getElem b]
 rw[hidl]at qB rB
 have qA0:=qA []
 rw[List.append_nil,denL_append,denL_append]at qA0
 have hcon:=hg v rr h6
 rw[hargs,hobjs]at hcon
 obtain⟨s1,s2,s3⟩:=eObjs_spec (ol:=olenOf g.outO ((dcsV (varsS (zipS 0 g.outP)++varsO g.outO) rr).drop (varsL g.outP).length)) g.outO ((dcsV _ rr).drop (varsL g.outP).length)
 have nmok:∀ k,nmB g.inO.length k=true→nmOk ids.length k:=by
  intro k hk
  simp only[nmB,Bool.or_eq_true,and_eq_true,Nat.blt_eq,Nat.ble_eq]at hk
  simp only[nmOk,hlen];exact hk
 have good:goodG ids.length (denOs (g.outs rr)) (den (g.res rr)):=by
  refine⟨?_,?_,?_,?_⟩
  ·intro q hq
   simp only[denOs,mem_map]at hq
   obtain⟨p,hp,rfl⟩:=hq
   obtain⟨op,g1,_⟩:=s2 p hp
   have:=all_eq_true.1 n3 _ g1
   simp only[and_eq_true]at this
   exact nmok _ this.1
  ·have:(denOs (g.outs rr)).map (·.1)=(g.outs rr).map (·.1):=by simp[denOs]
   rw[this]
   exact s1.nodup n4
  ·intro q hq r' hr' j hj
   simp only[denOs,mem_map]at hq
   obtain⟨p,hp,rfl⟩:=hq
   obtain⟨op,g1,g2⟩:=s2 p hp
   have:=all_eq_true.1 n3 _ g1
   simp only[and_eq_true]at this
   refine nmok _ (all_eq_true.1 this.2 j (g2 j ?_))
   obtain⟨pk,po⟩:=p
   cases po with
   |cells sz rows=>exact orefsA_cells (List.mem_flatMap.2 ⟨r',hr',hj⟩)
   |lst c l=>
    simp only[denO,avRows,mem_map]at hr'
    obtain⟨z,_,rfl⟩:=hr'
    rw[refsL_t]at hj
    simp at hj
   |map kc vc l=>
    simp only[denO,mem_map]at hr'
    obtain⟨z,_,rfl⟩:=hr'
    simp only[refsL,refs_tv,List.append_nil]at hj
    simp at hj
  ·intro j hj
   have:=(den_theOne (ds:=pVals g.outP g.outO (dcsV _ rr))).1 j hj
   exact nmok _ (all_eq_true.1 n5 j (ePs_refs g.outP _ j this))
 have flat:g.flat=true→flatG (denOs (g.outs rr)) (den (g.res rr)):=by
  intro hf
  simp only[GSig.flat,and_eq_true]at hf
  have hc:(dcsV (varsS (zipS 0 g.outP)++varsO g.outO) rr).map (·.c)=varsL g.outP++varsO g.outO:=(dcsV_c _ rr).trans (by rw[varsS_zip])
  refine⟨(den_theOne (ds:=pVals g.outP g.outO (dcsV _ rr))).2 ?_,?_⟩
  ·refine (ePs_flat (ol:=_) g.outP _ [] ?_ hf.1).1
   rw[List.append_nil,List.map_take,hc,List.take_left]
  ·intro q hq r' hr'
   simp only[denOs,mem_map]at hq
   obtain⟨p,hp,rfl⟩:=hq
   exact s3 (by rw[List.map_drop,hc,List.drop_left]) hf.2 p hp r' hr'
 have lids:lidsOk (restr (ids++m.vr) (aget get)) (denL first++denL args++denL caps) ids m.vr bs:=by
  refine⟨hv,fun j hj hn=>?_,fun j hs' q o e1 e2 e3 z hz hn=>?_⟩
  ·rw[← denL_append,← denL_append,drefsL_den]at hj
   rcases rA j hj with ⟨q,hq⟩ |hj
   ·exact absurd (List.mem_of_getElem? (hi _ hq)) hn
   ·exact hj
  ·rcases rB j hs' q o e1 e2 e3 z hz with ⟨q',hq⟩ |hz
   ·exact absurd (List.mem_of_getElem? (hi _ hq)) hn
   ·exact hz
 refine⟨.callg ids m.vr bs hs (denOs (g.outs rr)) (den (g.res rr)) g.flat,ids++m.vr,_,_,_,
  ⟨rnA (cn i ids) (den (g.res rr)),outG i ids (denOs (g.outs rr))++(if g.flat then []else m.vr.map fun k=>(k,none)),obs++mo++[FnG P F (denL ds') (xs.map fun p=>denO p.2) (denOs (g.outs rr)) (den (g.res rr)),goodG ids.length (denOs (g.outs rr)) (den (g.res rr)),lidsOk (restr (ids++m.vr) (aget get)) (denL first++denL args++denL caps) ids m.vr bs]++(if g.flat then [flatG (denOs (g.outs rr)) (den (g.res rr))]else [])⟩,?_,?_,(rnD_den _ _).symm,?_,?_,h⟩
 ·simp only[den,absCallY,absCallG,qB,qA0,bind_some]
  rw[if_pos ⟨hnd,by omega⟩]
 ·refine AllP_of _ (all_app (all_app (all_app pA pB) ?_) ?_)
  ·intro z hz
   simp only[mem_cons,List.not_mem_nil,or_false]at hz
   rcases hz with rfl |rfl |rfl
   ·exact hcon
   ·exact good
   ·exact lids
  ·intro z hz
   cases hf:g.flat with
   |true=>rw[hf]at hz;simp only[if_true,mem_singleton]at hz;subst hz;exact flat hf
   |false=>rw[hf]at hz;simp at hz
 ·simp only[denU_append,outGD_den]
  congr 1
  cases g.flat with
  |true=>rfl
  |false=>exact (goneD_den m.vr).symm
 ·intro p hp
  refine .inr ?_
  rcases mem_append.1 hp with hp |hp
  ·exact List.mem_append_left _ (List.mem_append_right _ (mem_map.2 ⟨p,hp,rfl⟩))
  ·cases hf:g.flat with
   |true=>rw[hf]at hp;simp at hp
   |false=>
    rw[hf]at hp
    simp only[Bool.false_eq_true,if_false,mem_map]at hp
    obtain⟨z,hz,rfl⟩:=hp
    exact List.mem_append_right _ hz
end
end Go.Gb
namespace Go.Gb
open Go.RowKit
section
variable {X:SX} {A:Type}
def scalR:RT X.ι→Bool
 | .d c=>scalC c
 | .fresh e=>scalC e
 | .whole _=>true
 | .mu c=>scalC c
 | .mr c=>scalC c
 | .mv=>true
theorem scalC_tv {c:CT X.ι} (h:scalC c=true) (x:CT.T X.toSE c):(CT.tv X.toSE c x).flat:=by
 cases c
 case st i=>exact scalC_flat h x
 all_goals first |exact trivial |cases h
theorem scalR_flat {ns:List Nat} {q:RT X.ι} {x:RT.T X q} (h:scalR q=true):∀ c∈resRC ns q x,c.flat:=by
 intro c hc
 cases q<;>simp only[resRC,mem_singleton,List.not_mem_nil]at hc
 case d c=>subst hc;exact scalC_tv h x
 case fresh e=>
  subst hc
  intro row hr
  obtain⟨y,_,rfl⟩:=mem_map.1 hr
  exact scalC_flat h y
 case whole j=>subst hc;exact trivial
theorem scalRs_flat {ns:List Nat}:∀ {l:List (RT X.ι)} {x:ResT X l},l.all scalR=true→∀ c∈resRCs ns l x,c.flat
 |[],x,_,c,hc=>by simp[resRCs]at hc
 |[q],x,h,c,hc=>scalR_flat (by simpa using h) c hc
 |q::q'::l,x,h,c,hc=>by
  simp only[List.all_cons,and_eq_true]at h
  simp only[resRCs,mem_append]at hc
  rcases hc with hc |hc
  ·exact scalR_flat h.1 c hc
  ·exact scalRs_flat (by simp only[List.all_cons,and_eq_true];exact h.2) c hc
theorem resRV_flat {l:List (RT X.ι)} (x:ResT X l) (h:l.all scalR=true):(resRV l x).flat:=by
 have:=scalRs_flat (ns:=lenR l x) (x:=x) h
 unfold resRV
 split
 ·rename_i c hc
  exact this c (by rw[hc];simp)
 ·exact this
theorem outC_flat {q:RT X.ι} {x:RT.T X q} (h:scalR q=true):flatO (outC q x):=by
 intro p hp
 cases q<;>simp only[outC,mem_singleton,List.not_mem_nil,Option.some.injEq,reduceCtorEq]at hp
 case mu c=>
  subst hp
  intro r hr
  obtain⟨y,_,rfl⟩:=mem_map.1 hr
  exact scalC_flat h y
 case mr c=>
  subst hp
  intro r hr
  obtain⟨y,_,rfl⟩:=mem_map.1 hr
  exact scalC_flat h y
theorem objR_flat:∀ {l:List (RT X.ι)} {x:ResT X l},l.all scalR=true→flatO (objR l x)
 |[],x,_=>fun p hp=>by simp[objR]at hp
 |[q],x,h=>outC_flat (q:=q) (by simpa using h)
 |q::q'::l,x,h=>by
  simp only[List.all_cons,and_eq_true]at h
  intro p hp
  rcases mem_append.1 (show some p∈outC q x.1++objR (q'::l) x.2 from hp)with hp |hp
  ·exact outC_flat h.1 p hp
  ·exact objR_flat (l:=q'::l) (by simp only[List.all_cons,and_eq_true];exact h.2) p hp
def impC1 (i:Nat) (ids ns:List Nat):(q:RT X.ι)→RT.T X q→List (DV X)×List (Nat×Option (DObj X))
 | .d c,x=>([.c c x],[])
 | .fresh e,l=>([.own (nid i) 0 l.length],[(nid i,some (.lst e l))])
 | .whole j,_=>([match ids[j]? with |some k=> .own k 0 (ns.getD j 0) |none=> .undef],[])
 |_,_=>([],[])
def impLD (i:Nat) (ids ns:List Nat):(l:List (RT X.ι))→ResT X l→Option (List (DV X)×List (Nat×Option (DObj X)))
 |[],_=>some ([],[])
 |[q],x=>some (impC1 i ids ns q x)
 |q::q'::l,x=>(impLD i ids ns (q'::l) x.2).bind fun p=>if (impC1 i ids ns q x.1).2.isEmpty || p.2.isEmpty then some ((impC1 i ids ns q x.1).1++p.1,(impC1 i ids ns q x.1).2++p.2)else none
def tupD:List (DV X)→DV X
 |[d]=>d
 |ds=> .tup ds
def impD (i:Nat) (ids:List Nat) (l:List (RT X.ι)) (x:ResT X l):Option (DV X×List (Nat×Option (DObj X))):=
 (impLD i ids (lenR l x) l x).bind fun p=>some (tupD p.1,p.2)
theorem denU_isEmpty (u:List (Nat×Option (DObj X))):(denU u).isEmpty=u.isEmpty:=by cases u<;>rfl
theorem impC1_den (i:Nat) (ids ns:List Nat) (q:RT X.ι) (x:RT.T X q):(∃ c,resRC ns q x=[c]∧∃ d,(impC1 i ids ns q x).1=[d]∧impC i ids c=(den d,denU (impC1 i ids ns q x).2))∨(resRC ns q x=[]∧impC1 i ids ns q x=([],[])):=by
 cases q
 case d c=>exact .inl ⟨_,rfl,_,rfl,rfl⟩
 case fresh e=>exact .inl ⟨_,rfl,_,rfl,by simp[impC,impC1,den,denU,denO,avRows]⟩
 case whole j=>
  refine .inl ⟨_,rfl,_,rfl,?_⟩
  simp only[impC,denU,impC1,List.map_nil,Prod.mk.injEq,and_true]
  cases ids[j]?<;>rfl
 all_goals exact .inr ⟨rfl,rfl⟩
theorem impL_one (i:Nat) (ids:List Nat) (c:RC):impL i ids [c]=some ([(impC i ids c).1],(impC i ids c).2):=by
 simp[impL]
theorem impLD_den (i:Nat) (ids ns:List Nat):∀ (l:List (RT X.ι)) (x:ResT X l) (p:List (DV X)×List (Nat×Option (DObj X))),impLD i ids ns l x=some p→impL i ids (resRCs ns l x)=some (denL p.1,denU p.2)
 |[],_,p,h=>by simp only[impLD,Option.some.injEq]at h;subst h;rfl
 |[q],x,p,h=>by
  simp only[impLD,Option.some.injEq]at h
  subst h
  simp only[resRCs]
  rcases impC1_den i ids ns q x with ⟨c,h1,d,h2,h3⟩ |⟨h1,h2⟩
  ·rw[h1,impL_one,h2,h3];simp[denL]
  ·rw[h1,h2];rfl
 |q::q'::l,x,p,h=>by
  simp only[impLD]at h
  rw[bind_eq_some_iff]at h;obtain⟨p',h1,h⟩:=h
  have ih:=impLD_den i ids ns (q'::l) x.2 p' h1
  split at h
  ·rename_i hc
   injection h with h
   subst h
   simp only[resRCs]
   rcases impC1_den i ids ns q x.1 with ⟨c,h1,d,h2,h3⟩ |⟨h1,h2⟩
   ·rw[h1]
    simp only[List.singleton_append,impL,ih,bind_some,h3,denU_isEmpty]
    rw[if_pos hc,h2]
    simp[denL,denU]
   ·rw[h1,h2]
    simp only[nil_append]
    exact ih
  ·cases h
theorem impD_den {i:Nat} {ids:List Nat} {l:List (RT X.ι)} {x:ResT X l} {p:DV X×List (Nat×Option (DObj X))} (h:impD i ids l x=some p):imp i ids (resRV l x)=some (den p.1,denU p.2):=by
 unfold impD at h
 rw[bind_eq_some_iff]at h;obtain⟨p',h1,h⟩:=h
 injection h with h
 subst h
 have ih:=impLD_den i ids _ l x p' h1
 unfold resRV
 split
 ·rename_i c hc
  rw[hc,impL_one]at ih
  simp only[Option.some.injEq,Prod.mk.injEq]at ih
  obtain⟨ds,u⟩:=p'
  match ds,ih with
  |[d],ih=>
   simp only[denL,List.cons.injEq,and_true]at ih
   simp only[imp,tupD,← ih.1,← ih.2]
  |[],ih=>simp[denL]at ih
  |_::_::_,ih=>simp[denL]at ih
 ·rename_i hne
  simp only[imp,ih,bind_some]
  obtain⟨ds,u⟩:=p'
  match ds,ih with
  |[],_=>rfl
  |_::_::_,_=>rfl
  |[d],ih=>
   exfalso
   generalize hcs:resRCs (lenR l x) l x=cs at ih hne
   match cs,ih,hne with
   |[],ih,_=>simp[impL,denL]at ih
   |[c],_,hne=>exact hne c rfl
   |c::c'::cs,ih,_=>
    simp only[impL]at ih
    cases h3:impL i ids cs with
    |none=>rw[h3]at ih;simp at ih
    |some q=>
     rw[h3]at ih
     simp only[bind_some]at ih
     split at ih
     ·simp only[bind_some]at ih
      split at ih
      ·simp[denL]at ih
      ·cases ih
     ·simp at ih
def outD:(q:RT X.ι)→RT.T X q→List (Option (DObj X))
 | .mu c,x=>[some (.lst c x)]
 | .mr c,x=>[some (.cells (CT.sz X c) [cellsC c x])]
 | .mv,_=>[none]
 |_,_=>[]
def outDs:(l:List (RT X.ι))→ResT X l→List (Option (DObj X))
 |[],_=>[]
 |[q],x=>outD q x
 |q::q'::l,x=>outD q x.1++outDs (q'::l) x.2
def outUD:List Nat→List (Option (DObj X))→List (Nat×Option (DObj X))
 |k::ids,p::os=>(k,p)::outUD ids os
 |_,_=>[]
theorem outD_den (q:RT X.ι) (x:RT.T X q):(outD q x).map (·.map denO)=(outC q x).map (·.map aob):=by
 cases q<;>try rfl
 case mr c=>simp only[outD,outC,map_cons,List.map_nil,Option.map_some,denO,aob,mutR,avRows,cellsC_den]
theorem outDs_den:∀ (l:List (RT X.ι)) (x:ResT X l),(outDs l x).map (·.map denO)=(objR l x).map (·.map aob)
 |[],_=>rfl
 |[q],x=>outD_den q x
 |q::q'::l,x=>by simp only[outDs,objR,List.map_append,outD_den,outDs_den (q'::l) x.2]
theorem outUD_den:∀ (ids:List Nat) (os:List (Option (DObj X))) (os':List (Option RowsT)),os.map (·.map denO)=os'.map (·.map aob)→denU (outUD ids os)=outU ids os'
 |[],_,_,_=>by simp[outUD,outU,denU]
 |_::_,[],[],_=>rfl
 |k::ids,p::os,p'::os',h=>by
  simp only[map_cons,List.cons.injEq]at h
  have:=outUD_den ids os os' h.2
  simp only[denU]at this
  simp only[outUD,outU,denU,map_cons,h.1,this]
 |_::_,[],_::_,h=>by simp at h
 |_::_,_::_,[],h=>by simp at h
theorem outUD_keys:∀ {ids:List Nat} {os:List (Option (DObj X))} {p:Nat×Option (DObj X)},p∈outUD ids os→p.1∈ids
 |[],_,_,h=>by simp[outUD]at h
 |_::_,[],_,h=>by simp[outUD]at h
 |k::ids,q::os,p,h=>by
  simp only[outUD,mem_cons]at h
  rcases h with rfl |h
  ·simp
  ·exact List.mem_cons_of_mem _ (outUD_keys h)
def lendMut (get:Nat→Option (DObj X)) (d:DV X) (c:CT X.ι):Option (List (CT.T X.toSE c)×Nat×List Bool):=
 match d with
 | .own k 0 len=>(get k).bind fun o=>match o with
  | .lst b l=>(castC (.sl b) (.sl c) l).bind fun (l:List (CT.T X.toSE c))=>some (l,k,[eqL len (List.length l)])
  |_=>none
 |_=>none
def lendMref (get:Nat→Option (DObj X)) (d:DV X) (c:CT X.ι):Option (CT.T X.toSE c×Nat):=
 match d with
 | .ptr k 0 0=>(get k).bind fun o=>match o with
  | .cells sz [row]=>if sz=CT.sz X c then (mkRow c row).bind fun x=>some (x,k)else none
  |_=>none
 |_=>none
def lendAW (Γ:FuncId→Option (Sig X)) (get:Nat→Option (DObj X)):List (DV X)→(l:List (AT X.ι))→Option (ArgsT X l×List Nat×List Bool)
 |[],[]=>some ((),[],[])
 |d::ds,.mut c::l=>(lendMut get d c).bind fun x=>(lendAW Γ get ds l).bind fun h=>some ((x.1,h.1),x.2.1::h.2.1,x.2.2++h.2.2)
 |d::ds,.mref c::l=>(lendMref get d c).bind fun x=>(lendAW Γ get ds l).bind fun h=>some ((x.1,h.1),x.2::h.2.1,h.2.2)
 |d::ds,.d c::l=>(lendA Γ get 3 [d] [.d c]).bind fun x=>(lendAW Γ get ds l).bind fun h=>some ((x.1.1,h.1),h.2.1,x.2++h.2.2)
 |d::ds,.ref c::l=>(lendA Γ get 3 [d] [.ref c]).bind fun x=>(lendAW Γ get ds l).bind fun h=>some ((x.1.1,h.1),h.2.1,x.2++h.2.2)
 |d::ds,.clo as r::l=>(lendA Γ get 3 [d] [.clo as r]).bind fun x=>(lendAW Γ get ds l).bind fun h=>some ((x.1.1,h.1),h.2.1,x.2++h.2.2)
 |d::ds,.nil::l=>match d with
  | .nil=>(lendAW Γ get ds l).bind fun h=>some (((),h.1),h.2.1,h.2.2)
  |_=>none
 |_,_=>none
def nonRefs:List (DV X)→List (AT X.ι)→List Nat
 |d::ds,a::l=>(if a.im then []else drefs d)++nonRefs ds l
 |_,_=>[]
def lendHD (get:Nat→Option (DObj X)):List (DV X)→(l:List (CT X.ι))→Option (HL X.toSE l×List Bool)
 |[],[]=>some ((),[])
 |d::ds,c::l=>(lendD get d c).bind fun x=>(lendHD get ds l).bind fun h=>some ((x.1,h.1),x.2++h.2)
 |_,_=>none
variable (Γ:FuncId→Option (Sig X))
def callD (i:Nat) (f:DV X) (args:List (DV X)) (get:Nat→Option (DObj X)) (k:KK X A):Option A:=
 match f with
 | .fn F first caps=>(Γ F).bind fun s=>match s.gen with
  |some g=>callGD g i (first++args++caps) get k
  |none=>if (s.args.all (fun q=>q.pl)&&s.res.all (fun q=>!q.out))=true then (lendA Γ get 3 (first++args++caps) s.args).bind fun a=>chkA a.2 ((s.fn a.1).bind fun x=>(impD i [] s.res x).bind fun p=>
   if s.res.all scalR then k p.1 p.2 (drefsL (first++args++caps)) []
   else k p.1 (p.2++goneD (drefsL (first++args++caps))) (drefsL (first++args++caps)) (drefsL (first++args++caps)))
  else (lendAW Γ get (first++args++caps) s.args).bind fun a=>chkA a.2.2 ((s.fn a.1).bind fun x=>(impD i a.2.1 s.res x).bind fun p=>
   if (decide a.2.1.Nodup&&(nonRefs (first++args++caps) s.args).all (fun j=>!a.2.1.contains j)&&decide ((outDs s.res x).length=a.2.1.length))=true then
    if s.res.all scalR then k p.1 (p.2++outUD a.2.1 (outDs s.res x)) (drefsL (first++args++caps)) a.2.1
    else k p.1 (p.2++(outUD a.2.1 (outDs s.res x)++goneD ((drefsL (first++args++caps)).filter fun j=>!a.2.1.contains j))) (drefsL (first++args++caps)) (a.2.1++(drefsL (first++args++caps)).filter fun j=>!a.2.1.contains j)
   else none)
 | .clo as q φ=>(lendHD get args as).bind fun h=>chkA h.2 ((φ h.1).bind fun y=>
  if scalC q then k (.c q y) [] (drefsL args) []else k (.c q y) (goneD (drefsL args)) (drefsL args) (drefsL args))
 |_=>none
def anyD (fz:List Nat) (T:Tab) (code:TypeId→Option (CT X.ι)) (i:Nat) (o:Op) (ρ:Operand→DV X) (get:Nat→Option (DObj X)) (k:KK X A):Option A:=
 match o with
 | .call { callee:= .value f,args:=args,argTypes:=_ }=>callD Γ i (ρ f) (args.toList.map ρ) get k
 |o=>if isExt o ρ then extD T code i o ρ get k else if isFrz o ρ || fz.contains i then frzD T code i o ρ get k else if isArr T o ρ then arrD T code o ρ get k else opD T code i o ρ get k
variable {Γ}
theorem lendHD_sound {P:Program} {get:Nat→Option (DObj X)} {rd:List Nat}:∀ {ds:List (DV X)} {l:List (CT X.ι)} {h:HL X.toSE l×List Bool},lendHD get ds l=some h→(∀ b∈h.2,b=true)→(∀ j∈drefsL ds,j∈rd)→
 ∃ hs obs,(∀ p∈obs,p)∧∀ rest,lendL P (restr rd (aget get)) (denL ds) (hs++rest)=some ((HL.tvs X.toSE l h.1).map TV.av,rest,obs)
 |[],[],h,_,_,_=>⟨[],[],by simp,fun rest=>rfl⟩
 |d::ds,c::l,h,hr,hc,hrd=>by
  simp only[lendHD]at hr
  rw[bind_eq_some_iff]at hr;obtain⟨x,h1,hr⟩:=hr
  rw[bind_eq_some_iff]at hr;obtain⟨g,h2,hr⟩:=hr
  injection hr with hr
  subst hr
  obtain⟨hs1,o1,p1,q1⟩:=lendD_sound (P:=P) (rd:=rd) h1 (fun b hb=>hc b (by simp[hb])) (fun j hj=>hrd j (by simp[drefsL,hj]))
  obtain⟨hs2,o2,p2,q2⟩:=lendHD_sound (P:=P) (rd:=rd) h2 (fun b hb=>hc b (by simp[hb])) (fun j hj=>hrd j (by simp[drefsL,hj]))
  refine⟨hs1++hs2,o1++o2,all_app p1 p2,fun rest=>?_⟩
  simp only[denL,lendL,append_assoc,q1,bind_some,q2]
  rfl
 |[],_::_,_,hr,_,_=>by simp[lendHD]at hr
 |_::_,[],_,hr,_,_=>by simp[lendHD]at hr
theorem impC1_keys {i:Nat} {ids ns:List Nat} {q:RT X.ι} {x:RT.T X q}:∀ p∈(impC1 i ids ns q x).2,p.1=nid i:=by
 cases q<;>simp[impC1]
theorem impLD_keys {i:Nat} {ids ns:List Nat}:∀ {l:List (RT X.ι)} {x:ResT X l} {p:List (DV X)×List (Nat×Option (DObj X))},impLD i ids ns l x=some p→∀ q∈p.2,q.1=nid i
 |[],_,p,h=>by simp only[impLD,Option.some.injEq]at h;subst h;simp
 |[q],x,p,h=>by simp only[impLD,Option.some.injEq]at h;subst h;exact impC1_keys
 |q::q'::l,x,p,h=>by
  simp only[impLD]at h
  rw[bind_eq_some_iff]at h;obtain⟨p',h1,h⟩:=h
  split at h
  ·injection h with h
   subst h
   intro z hz
   rcases mem_append.1 hz with hz |hz
   ·exact impC1_keys z hz
   ·exact impLD_keys h1 z hz
  ·cases h
theorem impD_keys {i:Nat} {ids:List Nat} {l:List (RT X.ι)} {x:ResT X l} {p:DV X×List (Nat×Option (DObj X))} (h:impD i ids l x=some p):∀ q∈p.2,q.1=nid i:=by
 unfold impD at h
 rw[bind_eq_some_iff]at h;obtain⟨p',h1,h⟩:=h
 injection h with h;subst h;exact impLD_keys h1
theorem lend_single {P:Program} {get:Nat→Option AObj} {x:AV} {hs rest:List LH} {y:AV} {o:List Prop} (h:lendL P get [x] hs=some ([y],rest,o)):lend P get x hs=some (y,rest,o):=by
 simp only[lendL,bind_some,List.append_nil,bind_eq_some_iff,Option.some.injEq,Prod.mk.injEq,List.cons.injEq,and_true]at h
 obtain⟨q,h1,h2,h3,h4⟩:=h
 rw[h1,← h2,← h3,← h4]
theorem nonRefs_mem {d:DV X} {ds:List (DV X)} {a:AT X.ι} {l:List (AT X.ι)} {P:Nat→Prop} (h:∀ j∈nonRefs (d::ds) (a::l),P j):(a.im=false→∀ j∈drefs d,P j)∧∀ j∈nonRefs ds l,P j:=by
 simp only[nonRefs,mem_append]at h
 exact⟨fun e j hj=>h j (.inl (by rw[e];simpa using hj)),fun j hj=>h j (.inr hj)⟩
theorem mutRow {c:CT X.ι} {l:List (CT.T X.toSE c)}:wkRows ((avRows (l.map (CT.row X.toSE c))).take (l.map (CT.row X.toSE c)).length)=avRows (l.map (CT.row X.toSE c)):=by
 rw[List.take_of_length_le (by simp[avRows])]
 simp only[wkRows,avRows,List.map_map]
 exact List.map_congr_left fun y _=>by
  simp only[Function.comp,List.map_map]
  exact List.map_congr_left fun z _=>rfl
theorem lendMut_sound {get:Nat→Option (DObj X)} {d:DV X} {c:CT X.ι} {x:List (CT.T X.toSE c)×Nat×List Bool} (h:lendMut get d c=some x) (hc:∀ b∈x.2.2,b=true):
 d= .own x.2.1 0 (List.length x.1)∧∃ o,get x.2.1=some o∧(denO o).sz=(mutR c x.1).1∧wkRows ((denO o).rows.take (mutR c x.1).2.length)=avRows (mutR c x.1).2:=by
 unfold lendMut at h
 split at h
 ·rename_i k len
  rw[bind_eq_some_iff]at h;obtain⟨o,h1,h⟩:=h
  split at h
  ·rename_i b l
   rw[bind_eq_some_iff]at h;obtain⟨l',h2,h⟩:=h
   injection h with h
   subst h
   obtain⟨h3,h4⟩:=castL_den h2
   have h5:len=List.length l':=by simpa[eqL]using hc (eqL len (List.length l')) (by simp)
   refine⟨by rw[h5],.lst b l,h1,by simp only[denO,mutR];exact h3,?_⟩
   simp only[denO,mutR,h4]
   exact mutRow
  ·cases h
 ·cases h
theorem lendMref_sound {get:Nat→Option (DObj X)} {d:DV X} {c:CT X.ι} {x:CT.T X.toSE c×Nat} (h:lendMref get d c=some x):
 d= .ptr x.2 0 0∧∃ o,get x.2=some o∧(denO o).sz=(mutR c [x.1]).1∧wkRows ((denO o).rows.take (mutR c [x.1]).2.length)=avRows (mutR c [x.1]).2:=by
 unfold lendMref at h
 split at h
 ·rename_i k
  rw[bind_eq_some_iff]at h;obtain⟨o,h1,h⟩:=h
  split at h
  ·rename_i sz row
   split at h
   ·rename_i hsz
    rw[bind_eq_some_iff]at h;obtain⟨y,h2,h⟩:=h
    injection h with h
    subst h
    refine⟨rfl,_,h1,by simp only[denO,mutR];exact hsz,?_⟩
    simp only[denO,mutR,map_cons,List.map_nil,List.length_singleton,List.take_succ_cons,List.take_zero,wkRows,avRows]
    rw[mkRow_den h2]
   ·cases h
  ·cases h
 ·cases h
theorem lendAW_sound {P:Program} {Γ:FuncId→Option (Sig X)} (hΓ:GOk P Γ) {get:Nat→Option (DObj X)} {rd ids:List Nat}:∀ {n:Nat} {ds:List (DV X)} {l:List (AT X.ι)} {a:ArgsT X l×List Nat×List Bool},lendAW Γ get ds l=some a→(∀ b∈a.2.2,b=true)→(∀ j∈drefsL ds,j∈rd)→(∀ j∈nonRefs ds l,j∉ids)→ids.drop n=a.2.1→
 (∃ hs obs,(∀ p∈obs,p)∧∀ rest,lendLW P (restr rd (aget get)) ids (denL ds) (hs++rest)=some (argAVn n l a.1,rest,obs))∧∃ mo,mutObs (restr rd (aget get)) a.2.1 (objA l a.1)=some mo∧∀ p∈mo,p
 |n,[],[],a,h,_,_,_,_=>by
  simp only[lendAW,Option.some.injEq]at h
  subst h
  exact⟨⟨[],[],by simp,fun rest=>rfl⟩,[],rfl,by simp⟩
 |n,d::ds,.mut c::l,a,h,hc,hrd,hnr,hid=>by
  simp only[lendAW]at h
  rw[bind_eq_some_iff]at h;obtain⟨x,h1,h⟩:=h
  rw[bind_eq_some_iff]at h;obtain⟨q,h2,h⟩:=h
  injection h with h
  subst h
  obtain⟨rfl,o,g1,g2,g3⟩:=lendMut_sound h1 (fun b hb=>hc b (by simp[hb]))
  have hidn:ids[n]? =some x.2.1:=by rw[← List.head?_drop,hid];rfl
  have hid':ids.drop (n+1)=q.2.1:=by rw[← List.tail_drop,hid];rfl
  obtain⟨⟨hs,obs,p1,p2⟩,mo,m1,m2⟩:=lendAW_sound hΓ (n:=n+1) h2 (fun b hb=>hc b (by simp[hb])) (fun j hj=>hrd j (by simp[drefsL,hj])) (nonRefs_mem hnr).2 hid'
  refine⟨⟨.mut n::hs,obs,p1,fun rest=>?_⟩,((denO o).sz=(mutR c x.1).1∧wkRows ((denO o).rows.take (mutR c x.1).2.length)=avRows (mutR c x.1).2)::mo,?_,?_⟩
  ·simp only[denL,den,lendLW,List.cons_append,lendW1,hidn,if_true,bind_some,p2,argAVn,nil_append]
  ·simp only[objA,mutObs,restr_get (hrd x.2.1 (by simp[drefsL,drefs])) g1,bind_some,m1]
  ·intro p hp
   rcases mem_cons.1 hp with rfl |hp
   ·exact⟨g2,g3⟩
   ·exact m2 p hp
 |n,d::ds,.mref c::l,a,h,hc,hrd,hnr,hid=>by
  simp only[lendAW]at h
  rw[bind_eq_some_iff]at h;obtain⟨x,h1,h⟩:=h
  rw[bind_eq_some_iff]at h;obtain⟨q,h2,h⟩:=h
  injection h with h
  subst h
  obtain⟨rfl,o,g1,g2,g3⟩:=lendMref_sound h1
  have hidn:ids[n]? =some x.2:=by rw[← List.head?_drop,hid];rfl
  have hid':ids.drop (n+1)=q.2.1:=by rw[← List.tail_drop,hid];rfl
  obtain⟨⟨hs,obs,p1,p2⟩,mo,m1,m2⟩:=lendAW_sound hΓ (n:=n+1) h2 (fun b hb=>hc b (by simp[hb])) (fun j hj=>hrd j (by simp[drefsL,hj])) (nonRefs_mem hnr).2 hid'
  refine⟨⟨.mut n::hs,obs,p1,fun rest=>?_⟩,((denO o).sz=(mutR c [x.1]).1∧wkRows ((denO o).rows.take (mutR c [x.1]).2.length)=avRows (mutR c [x.1]).2)::mo,?_,?_⟩
  ·simp only[denL,den,lendLW,List.cons_append,lendW1,hidn,if_true,bind_some,p2,argAVn,nil_append]
  ·simp only[objA,mutObs,restr_get (hrd x.2 (by simp[drefsL,drefs])) g1,bind_some,m1]
  ·intro p hp
   rcases mem_cons.1 hp with rfl |hp
   ·exact⟨g2,g3⟩
   ·exact m2 p hp
 |n,d::ds,.d c::l,a,h,hc,hrd,hnr,hid=>by
  simp only[lendAW]at h
  rw[bind_eq_some_iff]at h;obtain⟨x,h1,h⟩:=h
  rw[bind_eq_some_iff]at h;obtain⟨q,h2,h⟩:=h
  injection h with h
  subst h
  obtain⟨hs1,o1,p1,q1⟩:=lendA_sound (P:=P) hΓ 3 (n:=n) h1 (fun b hb=>hc b (by simp[hb])) (rd:=rd) (fun j hj=>hrd j (by simp only[drefsL,List.append_nil]at hj;simp[drefsL,hj]))
  obtain⟨⟨hs,obs,p2,q2⟩,mo,m1,m2⟩:=lendAW_sound hΓ (n:=n) h2 (fun b hb=>hc b (by simp[hb])) (fun j hj=>hrd j (by simp[drefsL,hj])) (nonRefs_mem hnr).2 hid
  refine⟨⟨hs1++hs,o1++obs,all_app p1 p2,fun rest=>?_⟩,mo,m1,m2⟩
  have:=lendW1_of (lend_single (q1 (hs++rest))) (fun k hk=>(nonRefs_mem hnr).1 rfl k (by rwa [drefs_den]at hk))
  simp only[denL,lendLW,append_assoc,this,bind_some,q2,argAVn]
 |n,d::ds,.ref c::l,a,h,hc,hrd,hnr,hid=>by
  simp only[lendAW]at h
  rw[bind_eq_some_iff]at h;obtain⟨x,h1,h⟩:=h
  rw[bind_eq_some_iff]at h;obtain⟨q,h2,h⟩:=h
  injection h with h
  subst h
  obtain⟨hs1,o1,p1,q1⟩:=lendA_sound (P:=P) hΓ 3 (n:=n) h1 (fun b hb=>hc b (by simp[hb])) (rd:=rd) (fun j hj=>hrd j (by simp only[drefsL,List.append_nil]at hj;simp[drefsL,hj]))
  obtain⟨⟨hs,obs,p2,q2⟩,mo,m1,m2⟩:=lendAW_sound hΓ (n:=n) h2 (fun b hb=>hc b (by simp[hb])) (fun j hj=>hrd j (by simp[drefsL,hj])) (nonRefs_mem hnr).2 hid
  refine⟨⟨hs1++hs,o1++obs,all_app p1 p2,fun rest=>?_⟩,mo,m1,m2⟩
  have:=lendW1_of (lend_single (q1 (hs++rest))) (fun k hk=>(nonRefs_mem hnr).1 rfl k (by rwa [drefs_den]at hk))
  simp only[denL,lendLW,append_assoc,this,bind_some,q2,argAVn]
 |n,d::ds,.clo as r::l,a,h,hc,hrd,hnr,hid=>by
  simp only[lendAW]at h
  rw[bind_eq_some_iff]at h;obtain⟨x,h1,h⟩:=h
  rw[bind_eq_some_iff]at h;obtain⟨q,h2,h⟩:=h
  injection h with h
  subst h
  obtain⟨hs1,o1,p1,q1⟩:=lendA_sound (P:=P) hΓ 3 (n:=n) h1 (fun b hb=>hc b (by simp[hb])) (rd:=rd) (fun j hj=>hrd j (by simp only[drefsL,List.append_nil]at hj;simp[drefsL,hj]))
  obtain⟨⟨hs,obs,p2,q2⟩,mo,m1,m2⟩:=lendAW_sound hΓ (n:=n) h2 (fun b hb=>hc b (by simp[hb])) (fun j hj=>hrd j (by simp[drefsL,hj])) (nonRefs_mem hnr).2 hid
  refine⟨⟨hs1++hs,o1++obs,all_app p1 p2,fun rest=>?_⟩,mo,m1,m2⟩
  have:=lendW1_of (lend_single (q1 (hs++rest))) (fun k hk=>(nonRefs_mem hnr).1 rfl k (by rwa [drefs_den]at hk))
  simp only[denL,lendLW,append_assoc,this,bind_some,q2,argAVn]
 |n,d::ds,.nil::l,a,h,hc,hrd,hnr,hid=>by
  simp only[lendAW]at h
  split at h
  ·rw[bind_eq_some_iff]at h;obtain⟨q,h2,h⟩:=h
   injection h with h
   subst h
   obtain⟨⟨hs,obs,p2,q2⟩,mo,m1,m2⟩:=lendAW_sound hΓ (n:=n) h2 hc (fun j hj=>hrd j (by simp[drefsL,hj])) (nonRefs_mem hnr).2 hid
   refine⟨⟨.nil::hs,obs,p2,fun rest=>?_⟩,mo,m1,m2⟩
   have:=lendW1_of (P:=P) (get':=restr rd (aget get)) (ids:=ids) (x:= .nilsl) (hs:= .nil::(hs++rest)) (p:=(.nilsl,hs++rest,[])) rfl (fun k hk=>by simp[refs]at hk)
   simp only[denL,den,lendLW,List.cons_append,this,bind_some,q2,argAVn,nil_append]
  ·cases h
 |_,[],_::_,_,h,_,_,_,_=>by simp[lendAW]at h
 |_,_::_,[],_,h,_,_,_,_=>by simp[lendAW]at h
theorem callD_sound {P:Program} (hΓ:GOk P Γ) {i:Nat} {f:DV X} {args:List (DV X)} {get:Nat→Option (DObj X)} {k:KK X A} {r:A} (h:callD Γ i f args get k=some r):
 ∃ orc rd wr dv upd out,absCallY P i (den f) (denL args) orc (restr rd (aget get))=some out∧AllP out.obs∧out.v=den dv∧out.upd=denU upd∧(∀ p∈upd,p.1=nid i∨p.1∈wr)∧k dv upd rd wr=some r:=by
 unfold callD at h
 split at h
 ·rename_i F first caps
  rw[bind_eq_some_iff]at h;obtain⟨s,h1,h⟩:=h
  split at h
  ·rename_i g hgen
   exact callGD_sound ((hΓ F s h1).2.2 g hgen) h
  split at h
  ·rename_i hpure
   rw[bind_eq_some_iff]at h;obtain⟨⟨a,cs⟩,h2,h⟩:=h
   obtain⟨hcs,h⟩:=chkA_some h
   rw[bind_eq_some_iff]at h;obtain⟨x,h3,h⟩:=h
   rw[bind_eq_some_iff]at h;obtain⟨p,h4,h⟩:=h
   have hf0:=(hΓ F s h1).2.1 a x h3
   simp only[and_eq_true]at hpure
   rw[objA_nil (pl_im hpure.1),objR_nil hpure.2]at hf0
   have hf:=fnP_of_W hf0
   have hi:=impD_den h4
   have hk:=impD_keys h4
   obtain⟨hs,obs,g1,g2⟩:=lendA_sound (P:=P) hΓ 3 h2 hcs (rd:=drefsL (first++args++caps)) (fun j hj=>hj)
   have g3:=g2 []
   rw[List.append_nil,denL_append,denL_append]at g3
   have hrefs:refsL (denL first++denL args++denL caps)=drefsL (first++args++caps):=by
    rw[← denL_append,← denL_append,drefsL_den]
   split at h
   ·rename_i hfl
    refine⟨.call hs (resRV s.res x) true,_,[],p.1,p.2,⟨den p.1,denU p.2,obs++[FnP P F (argAV s.args a) (resRV s.res x),(resRV s.res x).flat]⟩,?_,?_,rfl,rfl,fun q hq=> .inl (hk q hq),h⟩
    ·simp only[den,absCallY,absCallX,absCall,hi,bind_some,g3];rfl
    ·exact AllP_of _ (all_app g1 (by
      intro q hq
      simp only[mem_cons,List.not_mem_nil,or_false]at hq
      rcases hq with rfl |rfl
      ·exact hf
      ·exact resRV_flat x hfl))
   ·refine⟨.call hs (resRV s.res x) false,_,_,p.1,_,⟨den p.1,denU p.2++(drefsL (first++args++caps)).map (fun k=>(k,none)),obs++[FnP P F (argAV s.args a) (resRV s.res x)]⟩,?_,?_,rfl,?_,?_,h⟩
    ·simp only[den,absCallY,absCallX,absCall,hi,bind_some,g3,hrefs];rfl
    ·exact AllP_of _ (all_app g1 (by
      intro q hq
      simp only[mem_singleton]at hq
      subst hq
      exact hf))
    ·simp only[denU_append,goneD_den]
    ·intro q hq
     rcases mem_append.1 hq with hq |hq
     ·exact .inl (hk q hq)
     ·exact .inr (goneD_mem hq)
  ·rename_i hpure
   rw[bind_eq_some_iff]at h;obtain⟨⟨a,ids,cs⟩,h2,h⟩:=h
   obtain⟨hcs,h⟩:=chkA_some h
   rw[bind_eq_some_iff]at h;obtain⟨x,h3,h⟩:=h
   rw[bind_eq_some_iff]at h;obtain⟨p,h4,h⟩:=h
   split at h
   ·rename_i hc
    simp only[and_eq_true,decide_eq_true_eq]at hc
    obtain⟨⟨hnd,hnr⟩,hlen⟩:=hc
    have hf:=(hΓ F s h1).2.1 a x h3
    have hi:=impD_den h4
    have hk:=impD_keys h4
    obtain⟨⟨hs,obs,g1,g2⟩,mo,m1,m2⟩:=lendAW_sound (P:=P) hΓ (rd:=drefsL (first++args++caps)) (ids:=ids) (n:=0) h2 hcs (fun j hj=>hj) (fun j hj=>by simpa using all_eq_true.1 hnr j hj) rfl
    have g3:=g2 []
    rw[List.append_nil,denL_append,denL_append]at g3
    have hrefs:refsL (denL first++denL args++denL caps)=drefsL (first++args++caps):=by
     rw[← denL_append,← denL_append,drefsL_den]
    have hlen':(objR s.res x).length=ids.length:=by
     rw[← hlen]
     simpa using (congrArg List.length (outDs_den s.res x)).symm
    have hout:denU (outUD ids (outDs s.res x))=outU ids (objR s.res x):=outUD_den _ _ _ (outDs_den s.res x)
    split at h
    ·rename_i hfl
     refine⟨.callw ids (objA s.args a) (objR s.res x) hs (resRV s.res x) true,_,ids,p.1,_,⟨den p.1,denU p.2++outU ids (objR s.res x),obs++mo++[FnW P F (argAV s.args a) (objA s.args a) (objR s.res x) (resRV s.res x),(resRV s.res x).flat,flatO (objR s.res x)]⟩,?_,?_,rfl,?_,?_,h⟩
     ·simp only[den,absCallY,absCallX,absCallW,hi,bind_some,m1,g3]
      rw[if_pos ⟨hnd,hlen'⟩]
      rfl
     ·refine AllP_of _ (all_app (all_app g1 m2) ?_)
      intro q hq
      simp only[mem_cons,List.not_mem_nil,or_false]at hq
      rcases hq with rfl |rfl |rfl
      ·exact hf
      ·exact resRV_flat x hfl
      ·exact objR_flat hfl
     ·simp only[denU_append,hout]
     ·intro q hq
      rcases mem_append.1 hq with hq |hq
      ·exact .inl (hk q hq)
      ·exact .inr (outUD_keys hq)
    ·refine⟨.callw ids (objA s.args a) (objR s.res x) hs (resRV s.res x) false,_,_,p.1,_,⟨den p.1,denU p.2++(outU ids (objR s.res x)++((drefsL (first++args++caps)).filter fun j=>!ids.contains j).map (fun k=>(k,none))),obs++mo++[FnW P F (argAV s.args a) (objA s.args a) (objR s.res x) (resRV s.res x)]⟩,?_,?_,rfl,?_,?_,h⟩
     ·simp only[den,absCallY,absCallX,absCallW,hi,bind_some,m1,g3,lidsOf,hrefs]
      rw[if_pos ⟨hnd,hlen'⟩]
      rfl
     ·refine AllP_of _ (all_app (all_app g1 m2) ?_)
      intro q hq
      simp only[mem_singleton]at hq
      subst hq
      exact hf
     ·simp only[denU_append,hout,goneD_den]
     ·intro q hq
      rcases mem_append.1 hq with hq |hq
      ·exact .inl (hk q hq)
      ·rcases mem_append.1 hq with hq |hq
       ·exact .inr (List.mem_append_left _ (outUD_keys hq))
       ·exact .inr (List.mem_append_right _ (goneD_mem hq))
   ·cases h
 ·rename_i as q φ
  rw[bind_eq_some_iff]at h;obtain⟨⟨hh,cs⟩,h1,h⟩:=h
  obtain⟨hcs,h⟩:=chkA_some h
  rw[bind_eq_some_iff]at h;obtain⟨y,h2,h⟩:=h
  obtain⟨hs,obs,g1,g2⟩:=lendHD_sound (P:=P) h1 hcs (rd:=drefsL args) (fun j hj=>hj)
  have g3:=g2 []
  rw[List.append_nil]at g3
  have hφ:∃ h' x',φ h'=some x'∧HL.tvs X.toSE as hh=HL.tvs X.toSE as h'∧CT.tv X.toSE q y=CT.tv X.toSE q x':=⟨hh,y,h2,rfl,rfl⟩
  split at h
  ·rename_i hfl
   refine⟨.cclo hs (HL.tvs X.toSE as hh) (CT.tv X.toSE q y) true,_,[],.c q y,[],⟨(CT.tv X.toSE q y).av,[],obs++[(HL.tvs X.toSE as hh).map TV.av=(HL.tvs X.toSE as hh).map TV.av,(∃ h' x',φ h'=some x'∧HL.tvs X.toSE as hh=HL.tvs X.toSE as h'∧CT.tv X.toSE q y=CT.tv X.toSE q x'),(CT.tv X.toSE q y).flat]⟩,?_,?_,rfl,rfl,by simp,h⟩
   ·simp only[den,absCallY,absCallX,absCall,g3,bind_some];rfl
   ·exact AllP_of _ (all_app g1 (by
     intro z hz
     simp only[mem_cons,List.not_mem_nil,or_false]at hz
     rcases hz with rfl |rfl |rfl
     ·trivial
     ·exact hφ
     ·exact scalC_tv hfl y))
  ·refine⟨.cclo hs (HL.tvs X.toSE as hh) (CT.tv X.toSE q y) false,_,_,.c q y,_,⟨(CT.tv X.toSE q y).av,(drefsL args).map (fun k=>(k,none)),obs++[(HL.tvs X.toSE as hh).map TV.av=(HL.tvs X.toSE as hh).map TV.av,(∃ h' x',φ h'=some x'∧HL.tvs X.toSE as hh=HL.tvs X.toSE as h'∧CT.tv X.toSE q y=CT.tv X.toSE q x')]⟩,?_,?_,rfl,(goneD_den _).symm,fun z hz=> .inr (goneD_mem hz),h⟩
   ·simp only[den,absCallY,absCallX,absCall,g3,bind_some,drefsL_den];rfl
   ·exact AllP_of _ (all_app g1 (by
     intro z hz
     simp only[mem_cons,List.not_mem_nil,or_false]at hz
     rcases hz with rfl |rfl
     ·trivial
     ·exact hφ))
 ·cases h
theorem anyD_sound {P:Program} (hΓ:GOk P Γ) {fz:List Nat} {T:Tab} {code:TypeId→Option (CT X.ι)} {i:Nat} {o:Oper} {ρ:Operand→DV X} {get:Nat→Option (DObj X)} {k:KK X A} {r:A} (h:anyD Γ fz T code i o.op ρ get k=some r):SdAny P T i o ρ get k r:=by
 obtain⟨dst,op,ty,pos,after,guard⟩:=o
 unfold anyD at h
 simp only at h
 split at h
 ·rename_i f args tys
  have:=callD_sound hΓ h
  simp only[← map_den]at this
  obtain⟨orc,rd,wr,dv,upd,out,g1,g2⟩:=this
  exact .call g1 g2
 ·split at h
  ·exact extD_sound (o:=⟨dst,op,ty,pos,after,guard⟩) h
  ·split at h
   ·exact frzD_sound (o:=⟨dst,op,ty,pos,after,guard⟩) h
   ·split at h
    ·exact arrD_sound (o:=⟨dst,op,ty,pos,after,guard⟩) h
    ·rename_i hne _ _ _
     obtain⟨orc,rd,wr,dv,upd,out,g1,g2⟩:=opD_sound (o:=⟨dst,op,ty,pos,after,guard⟩) h
     exact SdAny.op (fun f args tys e=>hne f args tys e) g1 g2
end
end Go.Gb
namespace Go.Gb
open Go.RowKit
def Wkn (x y:AV):Prop:=∀ P β w I v,VR P β w I x v→VR P β w I y v
theorem Wkn.refl (x:AV):Wkn x x:=fun _ _ _ _ _ h=>h
theorem Wkn.undef (x:AV):Wkn x .undef:=fun _ _ _ _ _ _=>by simp[VR]
theorem Wkn.wk (x:AV):Wkn x (wk x):=fun _ _ _ _ _ h=>h.wk
section
variable {P:Program} {w0:World} {O0:Was} {N:Nat} {β:Nat→Option Blk} {I:Nat→Prop} {a:Act} {w:World} {f g:Nat→Nat} {D:Nat→Prop}
mutual
theorem VR.rn (hgf:∀ k,D k→g (f k)=k):∀ (x:AV) (v:Value),(∀ k∈refs x,D k)→VR P β w I x v→VR P (fun j=>β (g j)) w I (rnA f x) v
 | .own k off len,v,hd,h=>by
  simp only[rnA,VR,hgf k (hd k (by simp[refs]))]at h ⊢;exact h
 | .ptr k row off,v,hd,h=>by
  simp only[rnA,VR,hgf k (hd k (by simp[refs]))]at h ⊢;exact h
 | .agg cs,v,hd,h=>by
  simp only[rnA,VR]at h ⊢
  obtain⟨vs,h1,h2⟩:=h
  exact⟨vs,h1,VRl.rn hgf cs _ (by simpa[refs]using hd) h2⟩
 | .tup cs,v,hd,h=>by
  simp only[rnA,VR]at h ⊢
  obtain⟨vs,h1,h2⟩:=h
  exact⟨vs,h1,VRl.rn hgf cs _ (by simpa[refs]using hd) h2⟩
 | .fn F first caps,v,hd,h=>by
  simp only[rnA,VR]at h ⊢
  obtain⟨fs,cs,h1,h2,h3⟩:=h
  exact⟨fs,cs,h1,VRl.rn hgf first _ (fun k hk=>hd k (by simp[refs,hk])) h2,VRl.rn hgf caps _ (fun k hk=>hd k (by simp[refs,hk])) h3⟩
 | .t x,v,_,h=>by simpa[rnA,VR]using h
 | .rptr r o,v,_,h=>by simpa[rnA,VR]using h
 | .clo φ,v,_,h=>by simpa[rnA,VR]using h
 | .mp k,v,hd,h=>by
  simp only[rnA,VR,hgf k (hd k (by simp[refs]))]at h ⊢;exact h
 | .nilsl,v,_,h=>by simpa[rnA,VR]using h
 | .ub,v,_,h=>by simpa[rnA,VR]using h
 | .undef,v,_,h=>by simp[rnA,VR]
theorem VRl.rn (hgf:∀ k,D k→g (f k)=k):∀ (xs:List AV) (vs:List Value),(∀ k∈refsL xs,D k)→VRl P β w I xs vs→VRl P (fun j=>β (g j)) w I (rnAL f xs) vs
 |[],[],_,_=>by simp[rnAL,VRl]
 |x::xs,v::vs,hd,h=>by
  simp only[VRl]at h
  simp only[rnAL,VRl]
  exact⟨VR.rn hgf x v (fun k hk=>hd k (by simp[refsL,hk])) h.1,VRl.rn hgf xs vs (fun k hk=>hd k (by simp[refsL,hk])) h.2⟩
 |[],_::_,_,h=>by simp[VRl]at h
 |_::_,[],_,h=>by simp[VRl]at h
end
def RowW (D:Nat→Prop) (f:Nat→Nat):List AV→List AV→Prop
 |[],[]=>True
 |x::xs,y::ys=>((∀ k∈refs x,D k)∧Wkn (rnA f x) y)∧RowW D f xs ys
 |_,_=>False
def RowsW (D:Nat→Prop) (f:Nat→Nat):List (List AV)→List (List AV)→Prop
 |[],[]=>True
 |r::rs,q::qs=>RowW D f r q∧RowsW D f rs qs
 |_,_=>False
theorem RowW.length:∀ {r q:List AV},RowW D f r q→q.length=r.length
 |[],[],_=>rfl
 |_::xs,_::ys,h=>by simp[RowW.length h.2]
 |[],_::_,h=>h.elim
 |_::_,[],h=>h.elim
theorem ORow.re (hgf:∀ k,D k→g (f k)=k):∀ {r q:List AV} {c:Array Value} {off:Nat},RowW D f r q→ORow P β w I r c off→ORow P (fun j=>β (g j)) w I q c off
 |[],[],_,_,_,_=>trivial
 |x::xs,y::ys,c,off,hr,⟨⟨v,h1,h2,h3⟩,h4⟩=>⟨⟨v,h1,hr.1.2 _ _ _ _ _ (VR.rn hgf x v hr.1.1 h2),h3⟩,ORow.re hgf hr.2 h4⟩
 |[],_::_,_,_,h,_=>h.elim
 |_::_,[],_,_,h,_=>h.elim
theorem ORows.re (hgf:∀ k,D k→g (f k)=k):∀ {rs qs:List (List AV)} {c:Array Value} {off sz:Nat},RowsW D f rs qs→ORows P β w I rs c off sz→ORows P (fun j=>β (g j)) w I qs c off sz
 |[],[],_,_,_,_,_=>trivial
 |r::rs,q::qs,c,off,sz,hr,⟨h1,h2,h3⟩=>⟨by rw[hr.1.length];exact h1,ORow.re hgf hr.1 h2,ORows.re hgf hr.2 h3⟩
 |[],_::_,_,_,_,h,_=>h.elim
 |_::_,[],_,_,_,h,_=>h.elim
theorem VRl.re (hgf:∀ k,D k→g (f k)=k):∀ {r q:List AV} {vs:List Value},RowW D f r q→VRl P β w I r vs→VRl P (fun j=>β (g j)) w I q vs
 |[],[],[],_,_=>by simp[VRl]
 |x::xs,y::ys,v::vs,hr,h=>by
  simp only[VRl]at h ⊢
  exact⟨hr.1.2 _ _ _ _ _ (VR.rn hgf x v hr.1.1 h.1),VRl.re hgf hr.2 h.2⟩
 |[],_::_,_,h,_=>h.elim
 |_::_,[],_,h,_=>h.elim
 |[],[],_::_,_,h=>by simp[VRl]at h
 |_::_,_::_,[],_,h=>by simp[VRl]at h
theorem MRows.re (hgf:∀ k,D k→g (f k)=k):∀ {rs qs:List (List AV)} {es:List MapEntry},RowsW D f rs qs→MRows P β w I rs es→MRows P (fun j=>β (g j)) w I qs es
 |[],[],[],_,_=>trivial
 |r::rs,q::qs,_::es,hr,⟨h1,h2⟩=>⟨VRl.re hgf hr.1 h1,MRows.re hgf hr.2 h2⟩
 |[],_::_,_,h,_=>h.elim
 |_::_,[],_,h,_=>h.elim
 |[],[],_::_,_,h=>h.elim
 |_::_,_::_,[],_,h=>h.elim
theorem RowsW.length:∀ {rs qs:List (List AV)},RowsW D f rs qs→qs.length=rs.length
 |[],[],_=>rfl
 |_::xs,_::ys,h=>by simp[RowsW.length h.2]
 |[],_::_,h=>h.elim
 |_::_,[],h=>h.elim
theorem Rel.re {s s':St} (hgf:∀ k,D k→g (f k)=k) (hg:∀ j,j < 1000→g j=j) (hr:Rel P w0 O0 N β I s a w) (hok:∀ t,s.ok t=none∨s'.env t= .undef) (hok':∀ t,s'.ok t=none)
 (hE:∀ t,s'.env t= .undef∨((∀ k∈refs (s.env t),D k)∧Wkn (rnA f (s.env t)) (s'.env t)))
 (hO:∀ j o',s'.obj j=some o'→∃ k o,s.obj k=some o∧D k∧f k=j∧o'.sz=o.sz∧RowsW D f o.rows o'.rows):Rel P w0 O0 N (fun j=>β (g j)) I s' a w:=by
 refine⟨hr.defers,hr.size,fun t=>?_,?_⟩
 ·have h1:=hr.env t
  rw[hok' t]
  rcases hok t with hk |h
  rotate_left
  ·rw[h];simp[SlotR,VR]
  rw[hk]at h1
  rcases hE t with h |⟨h2,h3⟩
  ·rw[h];simp[SlotR,VR]
  ·exact h3 _ _ _ _ _ (VR.rn hgf _ _ h2 h1)
 ·have hm:=hr.mem
  constructor
  ·intro j o' hj
   obtain⟨k,o,h1,h2,rfl,h4,h5⟩:=hO j o' hj
   obtain⟨B,hB,hOR⟩:=hm.objs k o h1
   refine⟨B,by simp only[hgf k h2];exact hB,?_⟩
   cases B with
   |none=>
    simp only[OR]at hOR ⊢
    rw[hOR]at h5
    cases ho:o'.rows with
    |nil=>rfl
    |cons=>rw[ho]at h5;exact h5.elim
   | «at» b sz n=>
    obtain⟨g1,c,e,g2,g3,g4⟩:=hOR
    exact⟨by rw[g1,h4],c,e,g2,g3,ORows.re hgf h5 g4⟩
   |mp b=>
    obtain⟨es,cl,g1,gl,g2,g3⟩:=hOR
    have hl:=h5.length
    exact⟨es,cl,g1,by omega,fun e=>MRows.re hgf h5 (g2 (by omega)),g3⟩
  ·intro j j' o o' B B' b h1 h2 h3 h4 h5 h6
   obtain⟨k,q,i1,i2,rfl,_⟩:=hO j o h1
   obtain⟨k',q',i1',i2',rfl,_⟩:=hO j' o' h2
   simp only[hgf k i2,hgf k' i2']at h3 h4
   rw[hm.injB k k' q q' B B' b i1 i1' h3 h4 h5 h6]
  ·intro j o B b h1 h2
   obtain⟨k,q,i1,i2,rfl,_⟩:=hO j o h1
   simp only[hgf k i2]at h2
   exact hm.ownB k q B b i1 h2
  ·exact hm.lt
  ·exact hm.up
  ·exact hm.keep
  ·exact hm.le
  ·exact hm.os
  ·exact hm.tape
  ·exact hm.output
  ·intro j B hj;show β (g j)=some B;rw[hg j (O0.lt j B hj)];exact hm.anch j B hj
end
section
variable {X:SX}
theorem rowW_den {D:Nat→Prop} (f:Nat→Nat):∀ r:List (DV X),(∀ k∈drefsL r,D k)→RowW D f (denL r) (denL (rnDL f r))
 |[],_=>trivial
 |x::xs,h=>⟨⟨fun k hk=>h k (by rw[drefs_den]at hk;simp[drefsL,hk]),by rw[rnD_den];exact Wkn.refl _⟩,rowW_den f xs fun k hk=>h k (by simp[drefsL,hk])⟩
theorem rowsW_den {D:Nat→Prop} (f:Nat→Nat) (o:DObj X) (h:∀ k∈orefs o,D k):(denO (rnO f o)).sz=(denO o).sz∧RowsW D f (denO o).rows (denO (rnO f o)).rows:=by
 cases o with
 |cells sz rows=>
  refine⟨rfl,?_⟩
  simp only[denO,rnO,List.map_map]
  simp only[orefs]at h
  induction rows with
  |nil=>trivial
  |cons r rs ih=>
   refine⟨rowW_den f r fun k hk=>h k (by simp[hk]),ih fun k hk=>h k ?_⟩
   simp only[map_cons,List.flatten_cons,mem_append]
   exact .inr hk
 |lst c l=>
  refine⟨rfl,?_⟩
  simp only[denO,rnO]
  generalize l.map (CT.row X.toSE c)=rows
  have hrow:∀ r:List Tree,RowW D f (r.map AV.t) (r.map AV.t):=by
   intro r
   induction r with
   |nil=>trivial
   |cons y ys ih=>exact⟨⟨by simp[refs],Wkn.refl _⟩,ih⟩
  induction rows with
  |nil=>trivial
  |cons r rs ih=>exact⟨hrow r,ih⟩
 |map kc vc l=>
  refine⟨rfl,?_⟩
  simp only[denO,rnO]
  clear h
  induction l with
  |nil=>trivial
  |cons p ps ih=>exact⟨⟨⟨by simp[refs_tv],by rw[rnA_tv];exact Wkn.refl _⟩,⟨by simp[refs_tv],by rw[rnA_tv];exact Wkn.refl _⟩,trivial⟩,ih⟩
structure Low (s:DSt X):Prop where
 le:s.nx≤1000000
 ge:1000≤s.nx
 env:∀ t,∀ k∈drefs (lke s.env t),k < s.nx
 obj:∀ k o,lko s.obj k=some o→k < s.nx∧∀ j∈orefs o,j < s.nx
theorem orefs_rows {o:DObj X} {r:List AV} {x:AV} (hr:r∈(denO o).rows) (hx:x∈r):∀ j∈refs x,j∈orefs o:=by
 intro j hj
 cases o with
 |cells sz rows=>
  simp only[denO,mem_map]at hr
  obtain⟨q,hq,rfl⟩:=hr
  rw[denL_map,mem_map]at hx
  obtain⟨d,hd,rfl⟩:=hx
  simp only[orefs,List.mem_flatten,mem_map]
  refine⟨_,⟨q,hq,rfl⟩,?_⟩
  have:∀ l:List (DV X),d∈l→j∈drefsL l:=by
   intro l
   induction l with
   |nil=>intro h;simp at h
   |cons y ys ih=>intro h;rcases mem_cons.1 h with rfl |h
                  ·simp only[drefsL,mem_append];left;rwa [drefs_den]at hj
                  ·simp only[drefsL,mem_append];exact .inr (ih h)
  exact this q hd
 |lst c l=>
  simp only[denO,avRows,mem_map]at hr
  obtain⟨q,_,rfl⟩:=hr
  simp only[mem_map]at hx
  obtain⟨t,_,rfl⟩:=hx
  simp[refs]at hj
 |map kc vc l=>
  simp only[denO,mem_map]at hr
  obtain⟨q,_,rfl⟩:=hr
  simp only[mem_cons,List.not_mem_nil,or_false]at hx
  rcases hx with rfl |rfl<;>simp[refs_tv]at hj
theorem Low.old {s:DSt X} (h:Low s):Old s.st:=by
 have hle:=h.le
 constructor
 ·intro t k hk
  have:=h.env t k (by rw[← drefs_den];exact hk)
  omega
 ·intro k o hk
  simp only[DSt.st,Option.map_eq_some_iff]at hk
  obtain⟨o',h1,rfl⟩:=hk
  obtain⟨h2,h3⟩:=h.obj k o' h1
  refine⟨by omega,fun r hr x hx j hj=>?_⟩
  have:=h3 j (orefs_rows hr hx j hj)
  omega
end
end Go.Gb
namespace Go.Gb
open Go.RowKit
section
variable {X:SX} {A:Type}
def lkE (e b:List (Nat×DV X)) (t:Nat):DV X:=match lk e t with |some x=>x |none=>lke b t
def lkO (o b:List (Nat×Option (DObj X))) (k:Nat):Option (DObj X):=match lk o k with |some x=>x |none=>lko b k
def appE (dst:Option Tmp) (dv:DV X) (e:List (Nat×DV X)):List (Nat×DV X):=match dst with |some t=>(t,dv)::e |none=>e
def unskD:DV X→DV X
 | .skip=> .undef
 |x=>x
def notSk (e:List (Nat×DV X)):Operand→Bool
 | .tmp t=>match lk e t with |some .skip=>false |_=>true
 |_=>true
def okOps (e b:List (Nat×DV X)) (o:Op):Bool:=
 match o with
 | .pick c x y=>notSk e c&&((notSk e x&&notSk e y) || match opvD (lkE e b) c with | .c .bool t=>bif t then notSk e x else notSk e y |_=>false)
 |o=>o.operands.toList.all (notSk e)
abbrev Fps:=List (Nat×List Nat×List Nat)
section
variable (Γ:FuncId→Option (Sig X)) (fz:List Nat) (T:Tab) (code:TypeId→Option (CT X.ι)) (ops:Array Oper) (b:DSt X)
def runOps (k:List (Nat×DV X)→List (Nat×Option (DObj X))→Fps→Option A):List Nat→List (Nat×DV X)→List (Nat×Option (DObj X))→Fps→Option A
 |[],e,o,fps=>k e o fps
 |i::r,e,o,fps=>(ops[i]?).bind fun op=>match op.guard with
  |none=>bif okOps e b.env op.op then anyD Γ fz T code i op.op (opvD (lkE e b.env)) (lkO o b.obj) fun dv upd rd wr=>runOps k r (appE op.dst (unskD dv) e) (upd++o) ((i,rd,wr)::fps)else none
  |some (j,p)=>((ops[j]?).bind (·.dst)).bind fun t=>match lkE e b.env t with
   | .c .bool v=>
    bif v then (bif p then (bif okOps ((t,.c .bool true)::e) b.env op.op then anyD Γ fz T code i op.op (opvD (lkE ((t,.c .bool true)::e) b.env)) (lkO o b.obj) fun dv upd rd wr=>runOps k r (appE op.dst (unskD dv) ((t,.c .bool true)::e)) (upd++o) ((i,rd,wr)::fps)else none)
     else runOps k r (appE op.dst .skip ((t,.c .bool true)::e)) o ((i,[],[])::fps))
    else (bif p then runOps k r (appE op.dst .skip ((t,.c .bool false)::e)) o ((i,[],[])::fps)
     else (bif okOps ((t,.c .bool false)::e) b.env op.op then anyD Γ fz T code i op.op (opvD (lkE ((t,.c .bool false)::e) b.env)) (lkO o b.obj) fun dv upd rd wr=>runOps k r (appE op.dst (unskD dv) ((t,.c .bool false)::e)) (upd++o) ((i,rd,wr)::fps)else none))
   | .skip=>bif (lk e t).isSome then runOps k r (appE op.dst .skip e) o ((i,[],[])::fps)else none
   |_=>none
end
def stOf (b:DSt X) (e:List (Nat×DV X)) (o:List (Nat×Option (DObj X))):St:=⟨fun t=>den (lkE e b.env t),fun k=>(lkO o b.obj k).map denO,fun t=>match lk e t with |some .skip=>some false |_=>none⟩
theorem unskD_den (x:DV X):den (unskD x)=den x:=by cases x<;>rfl
theorem stOf_app (b:DSt X) (e:List (Nat×DV X)) (o:List (Nat×Option (DObj X))) (dst:Option Tmp) (dv:DV X) (upd:List (Nat×Option (DObj X))) (obs:List Prop):
 (stOf b e o).app dst (⟨den dv,denU upd,obs⟩,none)=stOf b (appE dst (unskD dv) e) (upd++o):=by
 simp only[stOf,St.app,St.mk.injEq]
 refine⟨?_,?_,?_⟩
 ·funext t
  cases dst with
  |none=>simp[setE,appE]
  |some d=>
   simp only[setE,appE,lkE,lk,Option.some.injEq]
   by_cases h:d=t<;>simp[h,unskD_den]
 ·funext j
  induction upd with
  |nil=>rfl
  |cons p u ih=>
   obtain⟨q,x⟩:=p
   simp only[denU,map_cons,updo,List.cons_append,lkO,lk]at ih ⊢
   by_cases h:j=q
   ·simp[h]
   ·rw[if_neg h,if_neg (Ne.symm h)];exact ih
 ·funext t
  cases dst with
  |none=>simp[setE,appE]
  |some d=>
   simp only[setE,appE,lk,Option.some.injEq]
   by_cases h:d=t
   ·simp only[h,if_true]
    cases dv<;>rfl
   ·simp only[if_neg h]
theorem stOf_skip (b:DSt X) (e:List (Nat×DV X)) (o:List (Nat×Option (DObj X))) (dst:Option Tmp):(stOf b e o).app dst (⟨.undef,[],[]⟩,some false)=stOf b (appE dst .skip e) o:=by
 simp only[stOf,St.app,St.mk.injEq]
 refine⟨?_,rfl,?_⟩
 ·funext t
  cases dst with
  |none=>simp[setE,appE]
  |some d=>
   simp only[setE,appE,lkE,lk,Option.some.injEq]
   by_cases h:d=t<;>simp[h,den]
 ·funext t
  cases dst with
  |none=>simp[setE,appE]
  |some d=>
   simp only[setE,appE,lk,Option.some.injEq]
   by_cases h:d=t<;>simp[h]
theorem opv_stOf (b:DSt X) (e:List (Nat×DV X)) (o:List (Nat×Option (DObj X))):opv (stOf b e o).env=fun x=>den (opvD (lkE e b.env) x):=by
 funext x;exact (opvD_den _ x).symm
theorem need1_ok {b:DSt X} {e:List (Nat×DV X)} {o:List (Nat×Option (DObj X))} {x:Operand} (h:notSk e x=true):need1 (stOf b e o).ok x=[]:=by
 cases x with
 |tmp t=>
  simp only[notSk]at h
  simp only[need1,stOf]
  cases ht:lk e t with
  |none=>rfl
  |some d=>rw[ht]at h;cases d<;>first |rfl |cases h
 |_=>rfl
theorem needs_nil {b:DSt X} {e:List (Nat×DV X)} {o:List (Nat×Option (DObj X))} {P:Program} {T:Tab} {i:Nat} {op:Oper} {orc:Orc} {get:Nat→Option AObj} {out:Out} (hok:okOps e b.env op.op=true)
 (h:absAny P T i op orc (opv (stOf b e o).env) get=some out):∀ p∈needs (stOf b e o).env (stOf b e o).ok op.op,p:=by
 obtain⟨dst,op,ty,pos,after,guard⟩:=op
 unfold needs
 split
 ·rename_i c x y heq
  simp only at heq
  subst heq
  simp only[okOps,and_eq_true,Bool.or_eq_true]at hok
  obtain⟨hc,hxy⟩:=hok
  have hb:∃ t,opv (stOf b e o).env c= .t (.sc (.bool t)):=by
   have h0:(∃ n,orc= .ext n)∨(∃ ids fr q,orc= .frz ids fr q)∨absOp T i ⟨dst,.pick c x y,ty,pos,after,guard⟩ orc (opv (stOf b e o).env) get=some out:=by
    cases orc<;>first |exact .inl ⟨_,rfl⟩ |exact .inr (.inl ⟨_,_,_,rfl⟩) |exact .inr (.inr h)
   rcases h0 with ⟨n,rfl⟩ |⟨ids,fr,q,rfl⟩ |h0
   ·simp[absAny,absExtA,isX2,absExt]at h
   ·simp[absAny,absFrz,isPick]at h
   ·simp only[absOp]at h0
    split at h0
    ·rename_i t ht;exact⟨t,ht⟩
    ·cases h0
  obtain⟨t,ht⟩:=hb
  rw[ht]
  simp only[need1_ok hc,nil_append]
  rcases hxy with ⟨hx,hy⟩ |hxy
  ·simp[need1_ok hx,need1_ok hy]
  ·split at hxy
   ·rename_i t' ht'
    have e1:opv (stOf b e o).env c= .t (.sc (.bool t')):=by rw[opv_stOf];simp only[ht'];rfl
    rw[e1]at ht
    injection ht with ht;injection ht with ht;injection ht with ht
    subst ht
    cases t' with
    |true=>
     simp only[cond_true]at hxy
     simp[need1_ok hxy]
    |false=>
     simp only[cond_false]at hxy
     simp[need1_ok hxy]
   ·cases hxy
 ·rename_i o' hne
  intro p hp
  have hall:∀ x∈op.operands.toList,notSk e x=true:=by
   have:okOps e b.env op=op.operands.toList.all (notSk e):=by
    cases op<;>first |rfl |exact (hne _ _ _ rfl).elim
   rw[this]at hok
   exact all_eq_true.1 hok
  simp only[List.mem_flatMap]at hp
  obtain⟨x,hx,hp⟩:=hp
  rw[need1_ok (hall x hx)]at hp
  simp at hp
theorem allp_app {a b:List Prop} (h:∀ p∈a,p) (h':AllP b):AllP (a++b):=AllP_of _ (all_app h (AllP_mem b h'))
variable {Γ:FuncId→Option (Sig X)} {fz:List Nat} {T:Tab} {code:TypeId→Option (CT X.ι)} {ops:Array Oper} {b:DSt X} {P:Program}
theorem step_exec (hΓ:GOk P Γ) {i:Nat} {op:Oper} {e:List (Nat×DV X)} {o:List (Nat×Option (DObj X))} {k:KK X A} {r:A} (hop:ops[i]? =some op) (hw:want ops op (stOf b e o).env (stOf b e o).ok=some true) (hok:okOps e b.env op.op=true)
 (h:anyD Γ fz T code i op.op (opvD (lkE e b.env)) (lkO o b.obj) k=some r):
 ∃ (a:Ann) (dv:DV X) (upd:List (Nat×Option (DObj X))),a.sym=false∧k dv upd a.rd a.wr=some r∧∀ (ann:Nat→Ann) (K:St→Prop),ann i=a→K (stOf b (appE op.dst (unskD dv) e) (upd++o))→eOp P T ops ann i K (stOf b e o):=by
 obtain⟨orc,rd,wr,dv,upd,out,h1,h2,h3,h4,h5,h6⟩:=anyD_sound hΓ h
 refine⟨⟨orc,rd,wr,false⟩,dv,upd,rfl,h6,fun ann K ha hK=>?_⟩
 have h1':absAny P T i op orc (opv (stOf b e o).env) (restr rd (stOf b e o).obj)=some out:=by
  rw[opv_stOf];exact h1
 refine⟨op,(⟨out.v,out.upd,needs (stOf b e o).env (stOf b e o).ok op.op++out.obs⟩,none),hop,?_,?_,?_⟩
 ·unfold opAt
  simp only[hop,bind_some,hw,ha,h1']
  rw[if_pos]
  rw[all_eq_true]
  intro p hp
  rw[h4]at hp
  simp only[denU,mem_map]at hp
  obtain⟨q,hq,rfl⟩:=hp
  rcases h5 q hq with h |h
  ·simp[h,ownI_iff.2 (.inl rfl:ownN (nid i) (nid i))]
  ·simp[h]
 ·exact allp_app (needs_nil hok h1') h2
 ·rw[h3,h4,stOf_app];exact hK
theorem step_skip {i:Nat} {op:Oper} {e:List (Nat×DV X)} {o:List (Nat×Option (DObj X))} (hop:ops[i]? =some op) (hw:want ops op (stOf b e o).env (stOf b e o).ok=some false)
 (ann:Nat→Ann) (K:St→Prop) (ha:ann i=⟨.none,[],[],false⟩) (hK:K (stOf b (appE op.dst .skip e) o)):eOp P T ops ann i K (stOf b e o):=by
 refine⟨op,(⟨.undef,[],[]⟩,some false),hop,?_,trivial,?_⟩
 ·unfold opAt
  simp only[hop,bind_some,hw,ha]
 ·rw[stOf_skip];exact hK
theorem stOf_known {e:List (Nat×DV X)} {o:List (Nat×Option (DObj X))} {t:Nat} {v:Bool} (h:lkE e b.env t= .c .bool v):stOf b ((t,.c .bool v)::e) o=stOf b e o:=by
 simp only[stOf,St.mk.injEq,true_and]
 refine⟨?_,?_⟩
 ·funext s
  by_cases hs:t=s
  ·subst hs
   rw[h];simp[lkE,lk]
  ·simp[lkE,lk,hs]
 ·funext s
  by_cases hs:t=s
  ·subst hs
   simp only[lk,if_true]
   unfold lkE at h
   cases ht:lk e t with
   |none=>rfl
   |some d=>rw[ht]at h;simp only at h;subst h;rfl
  ·simp[lk,hs]
def fpOf (tr:List (Nat×Ann)):Fps:=tr.map fun p=>(p.1,p.2.rd,p.2.wr)
def IsDst (ops:Array Oper) (t:Nat):Prop:=∃ (j:Nat) (op:Oper),ops[j]? =some op∧op.dst=some t
theorem appE_mem {dst:Option Tmp} {dv:DV X} {e:List (Nat×DV X)} {p:Nat×DV X} (h:p∈appE dst dv e):p∈e∨dst=some p.1:=by
 cases dst with
 |none=>exact .inl h
 |some t=>
  simp only[appE,mem_cons]at h
  rcases h with rfl |h
  ·exact .inr rfl
  ·exact .inl h
theorem runOps_sound (hΓ:GOk P Γ) {k:List (Nat×DV X)→List (Nat×Option (DObj X))→Fps→Option A} {r:A}:∀ (l:List Nat) (e:List (Nat×DV X)) (o:List (Nat×Option (DObj X))) (fps:Fps),runOps Γ fz T code ops b k l e o fps=some r→
 ∃ (tr:List (Nat×Ann)) (e':List (Nat×DV X)) (o':List (Nat×Option (DObj X))),tr.map (·.1)=l∧k e' o' ((fpOf tr).reverse++fps)=some r∧(∀ p∈e',p∈e∨IsDst ops p.1)∧
   ∀ ann:Nat→Ann,(∀ p∈tr,ann p.1=p.2)→eLex P T ops ann (fun σ=>σ=stOf b e' o') l (stOf b e o)
 |[],e,o,fps,h=>⟨[],e,o,rfl,h,fun _ hp=> .inl hp,fun _ _=>rfl⟩
 |i::l,e,o,fps,h=>by
  simp only[runOps]at h
  rw[bind_eq_some_iff]at h;obtain⟨op,hop,h⟩:=h
  have exec:∀ e:List (Nat×DV X),want ops op (stOf b e o).env (stOf b e o).ok=some true→
   (bif okOps e b.env op.op then anyD Γ fz T code i op.op (opvD (lkE e b.env)) (lkO o b.obj) fun dv upd rd wr=>runOps Γ fz T code ops b k l (appE op.dst (unskD dv) e) (upd++o) ((i,rd,wr)::fps)else none)=some r→
   ∃ (tr:List (Nat×Ann)) (e':List (Nat×DV X)) (o':List (Nat×Option (DObj X))),tr.map (·.1)=i::l∧k e' o' ((fpOf tr).reverse++fps)=some r∧(∀ p∈e',p∈e∨IsDst ops p.1)∧
     ∀ ann:Nat→Ann,(∀ p∈tr,ann p.1=p.2)→eLex P T ops ann (fun σ=>σ=stOf b e' o') (i::l) (stOf b e o):=by
   intro e hw h
   obtain⟨hok,h⟩:=cond_some h
   obtain⟨a,dv,upd,_,h1,h2⟩:=step_exec hΓ hop hw hok h
   obtain⟨tr,e',o',g1,g2,g4,g3⟩:=runOps_sound hΓ l _ _ _ h1
   refine⟨(i,a)::tr,e',o',by simp[g1],?_,fun p hp=>(g4 p hp).elim (fun hp=>(appE_mem hp).elim .inl fun hd=> .inr ⟨i,op,hop,hd⟩) .inr,fun ann ha=>?_⟩
   ·simpa[fpOf]using g2
   ·exact h2 ann _ (ha (i,a) (by simp)) (g3 ann fun p hp=>ha p (by simp[hp]))
  have skip:∀ e:List (Nat×DV X),want ops op (stOf b e o).env (stOf b e o).ok=some false→runOps Γ fz T code ops b k l (appE op.dst .skip e) o ((i,[],[])::fps)=some r→
   ∃ (tr:List (Nat×Ann)) (e':List (Nat×DV X)) (o':List (Nat×Option (DObj X))),tr.map (·.1)=i::l∧k e' o' ((fpOf tr).reverse++fps)=some r∧(∀ p∈e',p∈e∨IsDst ops p.1)∧
     ∀ ann:Nat→Ann,(∀ p∈tr,ann p.1=p.2)→eLex P T ops ann (fun σ=>σ=stOf b e' o') (i::l) (stOf b e o):=by
   intro e hw h
   obtain⟨tr,e',o',g1,g2,g4,g3⟩:=runOps_sound hΓ l _ _ _ h
   refine⟨(i,⟨.none,[],[],false⟩)::tr,e',o',by simp[g1],?_,fun p hp=>(g4 p hp).elim (fun hp=>(appE_mem hp).elim .inl fun hd=> .inr ⟨i,op,hop,hd⟩) .inr,fun ann ha=>?_⟩
   ·simpa[fpOf]using g2
   ·exact step_skip hop hw ann _ (ha (i,_) (by simp)) (g3 ann fun p hp=>ha p (by simp[hp]))
  split at h
  ·rename_i hg
   exact exec e (by simp[want,hg]) h
  ·rename_i j p hg
   rw[bind_eq_some_iff]at h;obtain⟨t,ht,h⟩:=h
   split at h
   ·rename_i v hv
    have hw:∀ e:List (Nat×DV X),lkE e b.env t= .c .bool v→want ops op (stOf b e o).env (stOf b e o).ok=some (v==p):=by
     intro e he
     simp only[want,hg,ht]
     have h0:(stOf b e o).ok t=none:=by
      simp only[stOf]
      unfold lkE at he
      cases hq:lk e t with
      |none=>rfl
      |some d=>rw[hq]at he;simp only at he;subst he;rfl
     have h1:(stOf b e o).env t= .t (.sc (.bool v)):=by simp only[stOf,he];rfl
     rw[h0,h1]
    have hk:=stOf_known (b:=b) (o:=o) hv
    have hv':lkE ((t,.c .bool v)::e) b.env t= .c .bool v:=by simp[lkE,lk]
    have htd:IsDst ops t:=by
     rw[bind_eq_some_iff]at ht
     obtain⟨oj,h1,h2⟩:=ht
     exact⟨j,oj,h1,h2⟩
    have wide:(∃ (tr:List (Nat×Ann)) (e':List (Nat×DV X)) (o':List (Nat×Option (DObj X))),tr.map (·.1)=i::l∧k e' o' ((fpOf tr).reverse++fps)=some r∧(∀ p∈e',p∈((t,.c .bool v)::e:List (Nat×DV X))∨IsDst ops p.1)∧
     ∀ ann:Nat→Ann,(∀ p∈tr,ann p.1=p.2)→eLex P T ops ann (fun σ=>σ=stOf b e' o') (i::l) (stOf b ((t,.c .bool v)::e) o))→
     ∃ (tr:List (Nat×Ann)) (e':List (Nat×DV X)) (o':List (Nat×Option (DObj X))),tr.map (·.1)=i::l∧k e' o' ((fpOf tr).reverse++fps)=some r∧(∀ p∈e',p∈e∨IsDst ops p.1)∧
     ∀ ann:Nat→Ann,(∀ p∈tr,ann p.1=p.2)→eLex P T ops ann (fun σ=>σ=stOf b e' o') (i::l) (stOf b e o):=by
     rintro⟨tr,e',o',g1,g2,g4,g3⟩
     refine⟨tr,e',o',g1,g2,fun q hq=>?_,hk ▸ g3⟩
     rcases g4 q hq with h |h
     ·rcases mem_cons.1 h with rfl |h
      ·exact .inr htd
      ·exact .inl h
     ·exact .inr h
    apply wide
    cases v with
    |true=>
     simp only[cond_true]at h
     cases p with
     |true=>exact exec _ (hw _ hv') h
     |false=>exact skip _ (hw _ hv') h
    |false=>
     simp only[cond_false]at h
     cases p with
     |true=>exact skip _ (hw _ hv') h
     |false=>exact exec _ (hw _ hv') h
   ·rename_i hv
    obtain⟨hsome,h⟩:=cond_some h
    refine skip e ?_ h
    simp only[want,hg,ht]
    have h1:(stOf b e o).env t= .undef:=by simp only[stOf,hv];rfl
    cases hq:lk e t with
    |some d=>
     have h0:(stOf b e o).ok t=some false:=by
      unfold lkE at hv
      rw[hq]at hv
      simp only at hv
      subst hv
      simp only[stOf,hq]
     rw[h0,h1]
    |none=>rw[hq]at hsome;cases hsome
   ·cases h
end
end Go.Gb
namespace Go.Gb
open Go.RowKit
section
variable {X:SX} {A:Type}
def fN (nx k:Nat):Nat:=if k < 1000000 then k else nx+(k - 1000000)
def gN (nx j:Nat):Nat:=if j < nx then j else 1000000+(j - nx)
def okN (nx sz k:Nat):Bool:=decide (k < nx) || (decide (1000000≤k)&&decide (k < 1000000+sz))
def okE (nx sz:Nat) (e:List (Nat×DV X)):Bool:=e.all fun p=>(drefs p.2).all (okN nx sz)
def okO (nx sz:Nat) (o:List (Nat×Option (DObj X))):Bool:=o.all fun p=>okN nx sz p.1&&match p.2 with |some x=>(orefs x).all (okN nx sz) |none=>true
def annF (fps:Fps):Nat→Ann:=fun i=>match lk fps i with |some p=>⟨.none,p.1,p.2,false⟩ |none=>⟨.none,[],[],false⟩
def annT (tr:List (Nat×Ann)):Nat→Ann:=fun i=>match lk tr i with |some a=>a |none=>⟨.none,[],[],false⟩
def unsk:DV X→DV X
 | .skip=> .undef
 |x=>x
theorem unsk_den (x:DV X):den (unsk x)=den x:=by cases x<;>rfl
theorem unsk_refs (x:DV X):drefs (unsk x)=drefs x:=by cases x<;>rfl
def fin (s:DSt X) (e:List (Nat×DV X)) (o:List (Nat×Option (DObj X))) (sz:Nat):DSt X:=
 ⟨e.map (fun p=>(p.1,unsk (rnD (fN s.nx) p.2)))++s.env,o.map (fun p=>(fN s.nx p.1,p.2.map (rnO (fN s.nx))))++s.obj,s.nx+sz,o.map (fun p=>fN s.nx p.1)++s.log⟩
def regOkB (N:Nat) (ops:Array Oper) (d:Bool) (nx:Nat) (e:List (Nat×DV X)) (o:List (Nat×Option (DObj X))) (fps:Fps):Bool:=
 dstsOk N ops&&(!d || lexOK ops (annF fps))&&okE nx (64*ops.size) e&&okO nx (64*ops.size) o&&decide (nx+64*ops.size≤1000000)
def runReg (Γ:FuncId→Option (Sig X)) (fz:List Nat) (T:Tab) (code:TypeId→Option (CT X.ι)) (N:Nat) (ops:Array Oper) (d:Bool) (s:DSt X) (k:DSt X→Option A):Option A:=
 runOps Γ fz T code ops s (fun e o fps=>bif regOkB N ops d s.nx e o fps then k (fin s e o (64*ops.size))else none) (List.range ops.size) [] [] []
theorem lexOK_congr {ops:Array Oper} {ann ann':Nat→Ann} (h:∀ i,(ann i).rd=(ann' i).rd∧(ann i).wr=(ann' i).wr):lexOK ops ann=lexOK ops ann':=by
 have h1:fpApart ann=fpApart ann':=by
  funext i j
  simp only[fpApart,(h i).1,(h i).2,(h j).1,(h j).2]
 have h2:∀ md,fpFree md ops ann=fpFree md ops ann':=by
  intro md
  funext listed i
  simp only[fpFree,h1]
 have h3:∀ (md:Region.Mode) (n k:Nat) (listed:Array Bool),lexFrom' md ops ann n k listed=lexFrom' md ops ann' n k listed:=by
  intro md n
  induction n with
  |zero=>intro k listed;rfl
  |succ n ih=>intro k listed;simp only[lexFrom',h2,ih]
 exact h3 _ _ _ _
theorem lk_append {α:Type}:∀ (a b:List (Nat×α)) (k:Nat),lk (a++b) k=match lk a k with |some x=>some x |none=>lk b k
 |[],_,_=>rfl
 |(j,x)::a,b,k=>by
  simp only[List.cons_append,lk]
  by_cases h:j=k
  ·simp[h]
  ·simp only[if_neg h,lk_append a b k]
theorem lk_none {α:Type}:∀ {l:List (Nat×α)} {k:Nat},lk l k=none→∀ x,(k,x)∉l
 |(j,y)::r,k,h,x=>by
  simp only[lk]at h
  split at h
  ·cases h
  ·rename_i hn
   simp only[mem_cons,Prod.mk.injEq,not_or]
   exact⟨fun e=>hn e.1.symm,lk_none h x⟩
 |[],_,_,_=>by simp
theorem annF_T {tr:List (Nat×Ann)} (hn:(tr.map (·.1)).Nodup) (i:Nat):(annF (fpOf tr).reverse i).rd=(annT tr i).rd∧(annF (fpOf tr).reverse i).wr=(annT tr i).wr:=by
 have hn':((fpOf tr).reverse.map (·.1)).Nodup:=by
  rw[List.map_reverse]
  have h1:((fpOf tr).map (·.1)).Nodup:=by simpa[fpOf,Function.comp_def]using hn
  exact List.pairwise_reverse.2 (h1.imp fun h=>Ne.symm h)
 unfold annF annT
 cases h:lk tr i with
 |none=>
  cases h':lk (fpOf tr).reverse i with
  |none=>exact⟨rfl,rfl⟩
  |some p=>
   have:=lk_mem h'
   simp only[fpOf,List.mem_reverse,mem_map]at this
   obtain⟨q,hq,he⟩:=this
   injection he with e1 e2
   subst e1
   exact (lk_none h q.2 hq).elim
 |some a=>
  have h1:=lk_mem h
  have h2:(i,a.rd,a.wr)∈(fpOf tr).reverse:=by
   simp only[fpOf,List.mem_reverse,mem_map]
   exact⟨(i,a),h1,rfl⟩
  rw[lk_of_mem hn' h2]
  exact⟨rfl,rfl⟩
theorem annT_mem {tr:List (Nat×Ann)} (hn:(tr.map (·.1)).Nodup):∀ p∈tr,annT tr p.1=p.2:=by
 rintro⟨i,a⟩ hp
 unfold annT
 rw[lk_of_mem hn hp]
theorem okN_spec {nx sz k:Nat} (h:okN nx sz k=true):k < nx∨(1000000≤k∧k < 1000000+sz):=by
 simpa[okN]using h
theorem gfN {nx sz k:Nat} (hle:nx+sz≤1000000) (h:k < nx∨(1000000≤k∧k < 1000000+sz)):gN nx (fN nx k)=k:=by
 unfold gN fN
 rcases h with h |⟨h1,h2⟩
 ·rw[if_pos (show k < 1000000 by omega),if_pos h]
 ·rw[if_neg (show ¬ k < 1000000 by omega),if_neg (by omega)];omega
theorem fN_lt {nx sz k:Nat} (hle:nx+sz≤1000000) (h:k < nx∨(1000000≤k∧k < 1000000+sz)):fN nx k < nx+sz:=by
 unfold fN
 rcases h with h |⟨h1,h2⟩
 ·rw[if_pos (show k < 1000000 by omega)];omega
 ·rw[if_neg (show ¬ k < 1000000 by omega)];omega
theorem fN_id {nx k:Nat} (hle:nx≤1000000) (h:k < nx):fN nx k=k:=if_pos (by omega)
mutual
theorem rnD_id {f:Nat→Nat}:∀ x:DV X,(∀ k∈drefs x,f k=k)→rnD f x=x
 | .own k _ _,h=>by simp only[rnD,h k (by simp[drefs])]
 | .ptr k _ _,h=>by simp only[rnD,h k (by simp[drefs])]
 | .ptl k _ _,h=>by simp only[rnD,h k (by simp[drefs])]
 | .mp k,h=>by simp only[rnD,h k (by simp[drefs])]
 | .pta k _ _ _ _,h=>by simp only[rnD,h k (by simp[drefs])]
 | .agg cs,h=>by simp only[rnD,rnDL_id cs (by simpa[drefs]using h)]
 | .tup cs,h=>by simp only[rnD,rnDL_id cs (by simpa[drefs]using h)]
 | .fn F first caps,h=>by simp only[rnD,rnDL_id first (fun k hk=>h k (by simp[drefs,hk])),rnDL_id caps (fun k hk=>h k (by simp[drefs,hk]))]
 | .c _ _,_=>rfl
 | .rp _ _ _,_=>rfl
 | .clo _ _ _,_=>rfl
 | .raw _,_=>rfl
 | .nil,_=>rfl
 | .ub,_=>rfl
 | .skip,_=>rfl
 | .undef,_=>rfl
theorem rnDL_id {f:Nat→Nat}:∀ l:List (DV X),(∀ k∈drefsL l,f k=k)→rnDL f l=l
 |[],_=>rfl
 |x::xs,h=>by simp only[rnDL,rnD_id x (fun k hk=>h k (by simp[drefsL,hk])),rnDL_id xs (fun k hk=>h k (by simp[drefsL,hk]))]
end
mutual
theorem drefs_rn (f:Nat→Nat):∀ x:DV X,drefs (rnD f x)=(drefs x).map f
 | .own _ _ _=>rfl
 | .ptr _ _ _=>rfl
 | .ptl _ _ _=>rfl
 | .mp _=>rfl
 | .pta _ _ _ _ _=>rfl
 | .agg cs=>by simp only[rnD,drefs,drefsL_rn f cs]
 | .tup cs=>by simp only[rnD,drefs,drefsL_rn f cs]
 | .fn F first caps=>by simp only[rnD,drefs,drefsL_rn f first,drefsL_rn f caps,List.map_append]
 | .c _ _=>rfl
 | .rp _ _ _=>rfl
 | .clo _ _ _=>rfl
 | .raw _=>rfl
 | .nil=>rfl
 | .ub=>rfl
 | .skip=>rfl
 | .undef=>rfl
theorem drefsL_rn (f:Nat→Nat):∀ l:List (DV X),drefsL (rnDL f l)=(drefsL l).map f
 |[]=>rfl
 |x::xs=>by simp only[rnDL,drefsL,drefs_rn f x,drefsL_rn f xs,List.map_append]
end
theorem orefs_rn (f:Nat→Nat) (o:DObj X):orefs (rnO f o)=(orefs o).map f:=by
 cases o with
 |cells sz rows=>simp only[rnO,orefs,List.map_map,List.map_flatten];congr 1;exact List.map_congr_left fun r _=>drefsL_rn f r
 |lst c l=>rfl
 |map kc vc l=>rfl
theorem lk_map {α β:Type} (f:α→β):∀ (l:List (Nat×α)) (k:Nat),lk (l.map fun p=>(p.1,f p.2)) k=(lk l k).map f
 |[],_=>rfl
 |(j,x)::r,k=>by
  simp only[map_cons,lk]
  by_cases h:j=k
  ·simp[h]
  ·simp only[if_neg h,lk_map f r k]
theorem lk_mapK {α β:Type} (f:α→β) (g:Nat→Nat):∀ (l:List (Nat×α)) (j:Nat),(∀ p∈l,∀ q∈l,g p.1=g q.1→p.1=q.1)→
 (∀ y,lk (l.map fun p=>(g p.1,f p.2)) j=some y→∃ k x,lk l k=some x∧g k=j∧y=f x)∧(lk (l.map fun p=>(g p.1,f p.2)) j=none→∀ p∈l,g p.1≠j)
 |[],_,_=>⟨fun _ h=>by simp[lk]at h,fun _=>by simp⟩
 |(k0,x0)::r,j,hi=>by
  obtain⟨i1,i2⟩:=lk_mapK f g r j (fun p hp q hq=>hi p (by simp[hp]) q (by simp[hq]))
  simp only[map_cons,lk]
  by_cases h:g k0=j
  ·rw[if_pos h]
   exact⟨fun y hy=>by injection hy with hy;exact⟨k0,x0,by simp,h,hy.symm⟩,fun hn=>by cases hn⟩
  ·rw[if_neg h]
   refine⟨fun y hy=>?_,fun hn p hp=>?_⟩
   ·obtain⟨k,x,h1,h2,h3⟩:=i1 y hy
    refine⟨k,x,?_,h2,h3⟩
    have hne:k0≠k:=fun e=>h (by rw[e];exact h2)
    rw[if_neg hne];exact h1
   ·rcases mem_cons.1 hp with rfl |hp
    ·exact h
    ·exact i2 hn p hp
structure Ext (ds:Nat→Prop) (s s':DSt X):Prop where
 env:∀ t,¬ ds t→lke s'.env t=lke s.env t∨lke s'.env t= .undef
 obj:∃ d,s'.log=d++s.log∧∀ k,k < s.nx→k∉d→lko s'.obj k=lko s.obj k∨lko s'.obj k=none
 nx:s.nx≤s'.nx
variable {Γ:FuncId→Option (Sig X)} {fz:List Nat} {T:Tab} {code:TypeId→Option (CT X.ι)} {P:Program} {N:Nat}
theorem lke_fin (s:DSt X) (e:List (Nat×DV X)) (o:List (Nat×Option (DObj X))) (sz t:Nat):lke (fin s e o sz).env t=match lk e t with |some d=>unsk (rnD (fN s.nx) d) |none=>lke s.env t:=by
 simp only[fin,lke,lk_append,lk_map (fun d=>unsk (rnD (fN s.nx) d))]
 cases lk e t<;>rfl
theorem runReg_sound (hT:TabOk P T) (hm:P.follows .mixedOrders=true) (hΓ:GOk P Γ) {id:Nat} {ops:Array Oper} {d:Bool} {s:DSt X} {k:DSt X→Option A} {r:A} (hl:Low s) (h:runReg Γ fz T code N ops d s k=some r):
 ∃ s':DSt X,k s'=some r∧Low s'∧Ext (IsDst ops) s s'∧Ev P N (.region id ops d) (fun e σ=>e= .normal∧σ=s'.st) s.st:=by
 unfold runReg at h
 obtain⟨tr,e,o,h1,h2,h3,h4⟩:=runOps_sound hΓ _ _ _ _ h
 obtain⟨h5,h6⟩:=cond_some h2
 simp only[regOkB,and_eq_true,List.append_nil]at h5
 obtain⟨⟨⟨⟨hd,hlex⟩,hE⟩,hO⟩,hnx⟩:=h5
 have hle:s.nx+64*ops.size≤1000000:=of_decide_eq_true hnx
 have hnod:(tr.map (·.1)).Nodup:=by rw[h1];exact List.nodup_range
 have hEn:∀ t x,lk e t=some x→∀ j∈drefs x,j < s.nx∨(1000000≤j∧j < 1000000+64*ops.size):=by
  intro t x hx j hj
  have:=all_eq_true.1 hE _ (lk_mem hx)
  exact okN_spec (all_eq_true.1 this j hj)
 have hOn:∀ p∈o,(p.1 < s.nx∨(1000000≤p.1∧p.1 < 1000000+64*ops.size))∧∀ x,p.2=some x→∀ j∈orefs x,j < s.nx∨(1000000≤j∧j < 1000000+64*ops.size):=by
  intro p hp
  have:=all_eq_true.1 hO _ hp
  simp only[and_eq_true]at this
  refine⟨okN_spec this.1,fun x hx j hj=>?_⟩
  have h2:=this.2
  rw[hx]at h2
  exact okN_spec (all_eq_true.1 h2 j hj)
 have hinj:∀ p∈o,∀ q∈o,fN s.nx p.1=fN s.nx q.1→p.1=q.1:=by
  intro p hp q hq he
  have:=congrArg (gN s.nx) he
  rwa [gfN hle (hOn p hp).1,gfN hle (hOn q hq).1]at this
 have hlko:∀ j,(∃ q x,lk o q=some x∧fN s.nx q=j∧lko (fin s e o (64*ops.size)).obj j=x.map (rnO (fN s.nx)))∨(lko (fin s e o (64*ops.size)).obj j=lko s.obj j∧∀ p∈o,fN s.nx p.1≠j):=by
  intro j
  obtain⟨i1,i2⟩:=lk_mapK (fun x:Option (DObj X)=>x.map (rnO (fN s.nx))) (fN s.nx) o j hinj
  simp only[fin,lko,lk_append]
  cases hj:lk (o.map fun p=>(fN s.nx p.1,p.2.map (rnO (fN s.nx)))) j with
  |none=>exact .inr ⟨rfl,i2 hj⟩
  |some y=>
   obtain⟨q,x,g1,g2,g3⟩:=i1 y hj
   exact .inl ⟨q,x,g1,g2,by rw[g3];rfl⟩
 refine⟨fin s e o (64*ops.size),h6,?_,?_,?_⟩
 ·constructor
  ·exact hle
  ·have:=hl.ge;show 1000≤s.nx+64*ops.size;omega
  ·intro t j hj
   rw[lke_fin]at hj
   cases ht:lk e t with
   |none=>rw[ht]at hj;have:=hl.env t j hj;show j < s.nx+64*ops.size;omega
   |some x=>
    rw[ht,unsk_refs,drefs_rn]at hj
    obtain⟨q,hq,rfl⟩:=mem_map.1 hj
    exact fN_lt hle (hEn t x ht q hq)
  ·intro j x hx
   rcases hlko j with ⟨q,y,g1,rfl,g3⟩ |⟨g1,_⟩
   ·rw[g3]at hx
    rw[Option.map_eq_some_iff]at hx
    obtain⟨z,rfl,rfl⟩:=hx
    obtain⟨k1,k2⟩:=hOn _ (lk_mem g1)
    refine⟨fN_lt hle k1,fun i hi=>?_⟩
    rw[orefs_rn]at hi
    obtain⟨i',hi',rfl⟩:=mem_map.1 hi
    exact fN_lt hle (k2 z rfl i' hi')
   ·rw[g1]at hx
    obtain⟨k1,k2⟩:=hl.obj j x hx
    refine⟨show j < s.nx+64*ops.size by omega,fun i hi=>?_⟩
    have:=k2 i hi
    show i < s.nx+64*ops.size;omega
 ·refine⟨fun t ht=> .inl ?_,⟨o.map (fun p=>fN s.nx p.1),rfl,fun j hj hn=>?_⟩,by show s.nx≤s.nx+64*ops.size;omega⟩
  ·rw[lke_fin]
   cases hx:lk e t with
   |none=>rfl
   |some x=>
    rcases h3 _ (lk_mem hx)with h |h
    ·simp at h
    ·exact (ht h).elim
  ·rcases hlko j with ⟨q,y,g1,g2,g3⟩ |⟨g1,_⟩
   ·exact (hn (mem_map.2 ⟨(q,y),lk_mem g1,g2⟩)).elim
   ·exact .inl g1
 ·have hst:stOf s [] []=s.st:=rfl
  have hex:=h4 (annT tr) (annT_mem hnod)
  rw[hst]at hex
  intro w0 O0 β I a w hr ho
  have done:∀ (e':Exit) (a':Act) (w':World),(∃ β' I' σ1,Rel P w0 O0 N β' I' σ1 a' w'∧e'= .normal∧σ1=stOf s e o)→∃ β' I' σ1,Rel P w0 O0 N β' I' σ1 a' w'∧Old σ1∧e'= .normal∧σ1=(fin s e o (64*ops.size)).st:=by
   rintro e' a' w' ⟨β',I',σ1,g1,rfl,rfl⟩
   refine⟨_,I',(fin s e o (64*ops.size)).st,Rel.re (f:=fN s.nx) (g:=gN s.nx) (D:=fun k=>k < s.nx∨(1000000≤k∧k < 1000000+64*ops.size)) (fun k hk=>gfN hle hk) (fun j hj=>by have:=hl.ge;unfold gN;rw[if_pos (by omega)]) g1 (fun t=>?_) (fun _=>rfl) (fun t=> .inr ?_) (fun j o' hj=>?_),?_,rfl,rfl⟩
   ·show (match lk e t with |some .skip=>some false |_=>none)=none∨den (lke (fin s e o (64*ops.size)).env t)= .undef
    rw[lke_fin]
    cases ht:lk e t with
    |none=>exact .inl rfl
    |some d=>cases d<;>first |exact .inl rfl |exact .inr rfl
   ·show (∀ k∈refs (den (lkE e s.env t)),_)∧Wkn (rnA (fN s.nx) (den (lkE e s.env t))) (den (lke (fin s e o (64*ops.size)).env t))
    rw[lke_fin,drefs_den,← rnD_den]
    unfold lkE
    cases ht:lk e t with
    |none=>
     refine⟨fun q hq=> .inl (hl.env t q hq),?_⟩
     rw[rnD_id _ (fun q hq=>fN_id (by omega) (hl.env t q hq))]
     exact Wkn.refl _
    |some x=>exact⟨hEn t x ht,by simp only[unsk_den];exact Wkn.refl _⟩
   ·simp only[DSt.st,Option.map_eq_some_iff]at hj
    obtain⟨x,hx,rfl⟩:=hj
    rcases hlko j with ⟨q,y,i1,rfl,i3⟩ |⟨i1,i2⟩
    ·rw[i3,Option.map_eq_some_iff]at hx
     obtain⟨z,rfl,rfl⟩:=hx
     obtain⟨k1,k2⟩:=hOn _ (lk_mem i1)
     obtain⟨r1,r2⟩:=rowsW_den (D:=fun k=>k < s.nx∨(1000000≤k∧k < 1000000+64*ops.size)) (fN s.nx) z (fun i hi=>k2 z rfl i hi)
     refine⟨q,denO z,?_,k1,rfl,r1,r2⟩
     simp only[stOf,lkO,i1,Option.map_some]
    ·rw[i1]at hx
     obtain⟨k1,k2⟩:=hl.obj j x hx
     have hid:rnO (fN s.nx) x=x:=by
      cases x with
      |lst c l=>rfl
      |map kc vc l=>rfl
      |cells sz rows=>
       simp only[rnO]
       congr 1
       have:∀ q∈rows,rnDL (fN s.nx) q=q:=fun q hq=>rnDL_id q fun i hi=>fN_id (by omega) (k2 i (by
        simp only[orefs,List.mem_flatten,mem_map]
        exact⟨_,⟨q,hq,rfl⟩,hi⟩))
       rw[List.map_congr_left this];simp
     obtain⟨r1,r2⟩:=rowsW_den (D:=fun k=>k < s.nx∨(1000000≤k∧k < 1000000+64*ops.size)) (fN s.nx) x (fun i hi=> .inl (k2 i hi))
     rw[hid]at r1 r2
     refine⟨j,denO x,?_,.inl k1,fN_id (by omega) k1,r1,r2⟩
     simp only[stOf,lkO]
     cases hlo:lk o j with
     |none=>simp[hx]
     |some y=>exact (i2 _ (lk_mem hlo) (fN_id (by omega) k1)).elim
   ·have hL:Low (fin s e o (64*ops.size)):=by
     constructor
     ·exact hle
     ·have:=hl.ge;show 1000≤s.nx+64*ops.size;omega
     ·intro t j hj
      rw[lke_fin]at hj
      cases ht:lk e t with
      |none=>rw[ht]at hj;have:=hl.env t j hj;show j < s.nx+64*ops.size;omega
      |some x=>
       rw[ht,unsk_refs,drefs_rn]at hj
       obtain⟨q,hq,rfl⟩:=mem_map.1 hj
       exact fN_lt hle (hEn t x ht q hq)
     ·intro j x hx
      rcases hlko j with ⟨q,y,g1,rfl,g3⟩ |⟨g1,_⟩
      ·rw[g3]at hx
       rw[Option.map_eq_some_iff]at hx
       obtain⟨z,rfl,rfl⟩:=hx
       obtain⟨k1,k2⟩:=hOn _ (lk_mem g1)
       refine⟨fN_lt hle k1,fun i hi=>?_⟩
       rw[orefs_rn]at hi
       obtain⟨i',hi',rfl⟩:=mem_map.1 hi
       exact fN_lt hle (k2 z rfl i' hi')
      ·rw[g1]at hx
       obtain⟨k1,k2⟩:=hl.obj j x hx
       refine⟨show j < s.nx+64*ops.size by omega,fun i hi=>?_⟩
       have:=k2 i hi
       show i < s.nx+64*ops.size;omega
    exact hL.old
  cases d with
  |false=>exact wp_mono (region_wp hT hd ho hex hr) done
  |true=>
   refine wp_mono (region_draw_wp hT hm hd ?_ ho hex hr) done
   rw[← lexOK_congr (annF_T hnod)]
   simpa using hlex
end
end Go.Gb
namespace Go.Gb
open Go.RowKit
structure Sh (ι:Type) where
 slots:List (Nat×Pt ι)
 objs:List (Nat×OP ι)
 keep:List Nat
 keepO:List Nat
 nx:Nat
 nils:List (Nat×CT ι)
def Sh.vars {ι:Type} (s:Sh ι):List (CT ι):=varsS s.slots++varsO s.objs
section
variable {X:SX}
def nil1 (s:DSt X) (t:Nat) (c:CT X.ι):DSt X:=
 match lke s.env t with
 | .nil=>if s.nx < 1000000 then⟨(t,.own s.nx 0 0)::s.env,(s.nx,some (.lst c []))::s.obj,s.nx+1,s.nx::s.log⟩else s
 |_=>s
def nilC (s:DSt X) (q j:Nat) (c:CT X.ι):DSt X:=
 match lko s.obj q with
 |some (.cells sz [row])=>match row[j]? with
  |some .nil=>if s.nx < 1000000 then⟨s.env,(q,some (.cells sz [row.set j (.own s.nx 0 0)]))::(s.nx,some (.lst c []))::s.obj,s.nx+1,q::s.nx::s.log⟩else s
  |_=>s
 |_=>s
def nilAll:List (Nat×CT X.ι)→DSt X→DSt X
 |[],s=>s
 |(t,c)::r,s=>nilAll r (bif Nat.ble 1000000 t then nilC s ((t - 1000000)/4096) ((t - 1000000)%4096) c else nil1 s t c)
def isU:DV X→Bool
 | .undef | .skip=>true
 |_=>false
def encS (sh:Sh X.ι) (s0:DSt X) (v:VT (X:=X) sh.vars):DSt X:=
 let L:=dcsV sh.vars v
 let n:=(varsS sh.slots).length
 let ol:=fun k=>(lk (lens sh.objs (L.drop n)) k).getD 0
 ⟨eSlots ol sh.slots (L.take n)++sh.keep.map (fun t=>(t,lke s0.env t)),eObjs ol sh.objs (L.drop n)++sh.keepO.map (fun k=>(k,lko s0.obj k)),sh.nx,
  (List.range s0.nx).filter (fun k=>!sh.keepO.contains k)++s0.log⟩
def okS (sh:Sh X.ι) (ds:List Nat) (s0 s':DSt X) (m:MA X):Bool:=
 decide (m.nm.map (·.1)++sh.keepO).Nodup&&decide (m.nm.map (·.2)++sh.keepO).Nodup&&decide (sh.objs.map (·.1)).Nodup&&m.nm.all (fun q=>(sh.objs.map (·.1)).contains q.2&&decide (q.2 < sh.nx)&&(decide (q.1=q.2) || decide (1000≤q.2)))&&
  sh.slots.all (fun p=>ds.contains p.1)&&sh.keep.all (fun t=>!ds.contains t&&!isU (lke s'.env t)&&(drefs (lke s0.env t)).all fun j=>sh.keepO.contains j || m.nm.contains (j,j))&&
  sh.keepO.all (fun k=>decide (k < s0.nx)&&!(s'.log.take (s'.log.length - s0.log.length)).contains k&&(lko s'.obj k).isSome&&match lko s0.obj k with |some o=>(orefs o).all fun j=>sh.keepO.contains j || m.nm.contains (j,j) |none=>false)&&
  decide (s0.nx≤sh.nx)&&decide (sh.nx≤1000000)
def matchT {A:Type} (sh:Sh X.ι) (ds:List Nat) (s0 s':DSt X) (k:VT (X:=X) sh.vars→Option A):Option A:=
 (mSlots (lko s'.obj) (lke s'.env) sh.slots ⟨[],[],[]⟩).bind fun m=>(mObjs (lko s'.obj) sh.objs m).bind fun m=>bif okS sh ds s0 s' m then (toVT sh.vars m.dcs).bind fun v=>chkA m.chk (k v)else none
def matchS {A:Type} (sh:Sh X.ι) (ds:List Nat) (s0 s':DSt X) (k:VT (X:=X) sh.vars→Option A):Option A:=
 bif sh.nils.all (fun p=>ds.contains p.1 || Nat.ble 1000000 p.1)then matchT sh ds s0 (nilAll sh.nils s') k else none
end
end Go.Gb
