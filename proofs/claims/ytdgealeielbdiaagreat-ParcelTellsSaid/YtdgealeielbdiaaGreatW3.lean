/-
  Each operation of the typed walk is what the abstract walk's operation does.
-/
import Derived.Test.YtdgealeielbdiaaGreatW2
open Option (bind_some)
open List (map_cons mem_cons append_assoc mem_append mem_map all_eq_true mem_singleton nil_append cons_append length_map append_nil mem_cons_of_mem map_map map_congr_left flatten_cons map_nil all_cons map_take map_drop mem_flatMap map_append mem_append_left mem_append_right)
open Bool (and_eq_true)
namespace Go.Gb
open Go.RowKit
section
variable {X:SX} {A:Type} {T:Tab} {code:TypeId->Option (CT X.ι)} {get:Nat->Option (DObj X)} {k:KK X A} {r:A} {i:Nat}
def dI (get:Nat->Option (DObj X)):Nat->Option aP:=fun j=>(get j).map aY
theorem dH {rd:List Nat} {j:Nat} {o:DObj X} (hj:j∈rd) (h:get j=some o):bM rd (dI get) j=some (aY o):=by simp[bM,hj,dI,h]
theorem iM (l:List (DV X)):(aW l).length=l.length:=by simp[kz]
theorem lu (l:List (DV X)) (a b:Nat):aW ((l.drop a).take b)=((aW l).drop a).take b:=by simp[kz,map_take,map_drop]
theorem QC {α:Type} {l:List α} {n:Int} {x:α} (h:at? l n=some x):0<=n∧l[n.toNat]? =some x:=by
 unfold at? at h;by_cases hn:0<=n
 ·simpa[hn]using h
 ·simp[hn]at h
theorem aep (t:Bool) (x y:DV X):den (af8 t x y)=Y2 t (den x) (den y):=by
 rw[Q5];have base:∀ x y:DV X,den (bif t then x else y)=if t=true then den x else den y:=fun x y=>by cases t<;>rfl
 unfold af8;split
 ·rename_i a p b q;split
  ·rename_i h _;subst h;cases t<;>rfl
  ·exact base _ _
 ·exact base _ _
theorem Im {agg:Bool} {size:Nat} {cs:List (DV X)} {v:DV X} (h:Lc agg size cs=some v):part' agg size (aW cs)=some (den v):=by
 unfold Lc at h;unfold part';rw[iM];split at h
 ·rename_i hl;rw[if_pos hl];cases agg with
  |true=>simp only[if_true,Option.some.injEq]at h ⊢;subst h;rfl
  |false=>
   simp only[Bool.false_eq_true,if_false]at h ⊢
   match cs,h with
   |[x],h=>
    simp only at h;split at h
    ·rename_i hx;injection h with h;subst h;simp only[aW];rw[if_pos (OW hx)]
    ·cases h
   |[],h=>cases h
   |_::_::_,h=>cases h
 ·cases h
theorem Nj {agg:Bool} {size off:Nat} {c:CT X.ι} {y:CT.T X.toSE c} {v:DV X} (h:Lc agg size (((yH c y).drop off).take size)=some v):part' agg size ((((CT.row X.toSE c y).drop off).take size).map AV.t)=some (den v):=by
 have:=Im h;rw[lu,og]at this;rw[<- this,map_take,map_drop]
theorem VQ {agg:Bool} {size off:Nat} {c:CT X.ι} {y:CT.T X.toSE c} {v:DV X} (h:adK agg size c y off=some v):part' agg size ((((CT.row X.toSE c y).drop off).take size).map AV.t)=some (den v):=by
 cases c
 case st j=>
  simp only[adK]at h;split at h
  ·rename_i hh;obtain⟨rfl,rfl,rfl⟩:=hh;injection h with h;subst h;have hl:(CT.row X.toSE (.st j) y).length=(X.tys j).length:=JV (.st j) y;rw[List.drop_zero,List.take_of_length_le (by omega)];unfold part';rw[if_pos (by simpa using hl)];rfl
  ·exact Nj h
 all_goals exact Nj h
theorem aer {t:TypeId} {x:DV X} (h:ldD T t x get k=some r):∃ orc rd dv out,Jt T t (den x) orc (bM rd (dI get))=some out∧ic out.obs∧out.v=den dv∧out.upd=[]∧k dv [] rd []=some r:=by
 unfold ldD at h;unfold Jt;rw[ai]at h;obtain⟨ti,h1,h⟩:=h;simp only[h1,bind_some];split at h
 ·rename_i kk row off;rw[ai]at h;obtain⟨o,h2,h⟩:=h;split at h
  ·rename_i sz rows;rw[ai]at h;obtain⟨rw',h3,h⟩:=h;rw[ai]at h;obtain⟨v,h4,h⟩:=h;refine⟨.none,[kk],v,⟨den v,[],[]⟩,?_,trivial,rfl,rfl,h⟩;have h5:=Im h4;rw[lu]at h5;simp[den,dH (List.mem_singleton_self kk) h2,aY,h3,h5,pv]
  ·cases h
 ·rename_i kk n off;rw[ai]at h;obtain⟨o,h2,h⟩:=h;split at h
  ·rename_i c l;rw[ai]at h;obtain⟨y,h3,h⟩:=h;rw[ai]at h;obtain⟨v,h4,h⟩:=h;obtain⟨_,h6⟩:=QC h3;refine⟨.row ((CT.row X.toSE c y).map AV.t),[kk],v,⟨den v,[],[(aK (l.map (CT.row X.toSE c)))[n.toNat]? =some ((CT.row X.toSE c y).map AV.t)]⟩,?_,?_,rfl,rfl,h⟩
   ·have h5:=VQ h4;rw[map_take,map_drop]at h5;simp only[den,dH (List.mem_singleton_self kk) h2,bind_some,aY,h5,pvo]
   ·simp[ic,aK,h6]
  ·cases h
 ·rename_i c y off;rw[ai]at h;obtain⟨v,h4,h⟩:=h;refine⟨.none,[],v,⟨den v,[],[]⟩,?_,trivial,rfl,rfl,h⟩;simp only[den,VQ h4,bind_some,pv]
 ·cases h
theorem RL (a:List (DV X)) (off:Nat) (cs:List (DV X)):aW (af9 a off cs)=put' (aW a) off (aW cs):=by simp[af9,put',kz,map_take,map_drop]
theorem kG {a c:CT X.ι} {x:CT.T X.toSE a} {y:CT.T X.toSE c} (h:iq a c x=some y):den (.c a x)=den (.c c y)∧CT.row X.toSE a x=CT.row X.toSE c y:=by
 obtain⟨e,h⟩:=rC h;subst e;subst h;exact⟨rfl,rfl⟩
theorem XH {c:CT X.ι} (hc:c.one=true) (x:CT.T X.toSE c):[(CT.tv X.toSE c x).av]=(CT.row X.toSE c x).map AV.t:=by
 obtain⟨t,h1,h2⟩:=row_one hc x;rw[h1,h2];rfl
theorem air {c:CT X.ι} (x:CT.T X.toSE c):wk (CT.tv X.toSE c x).av=(CT.tv X.toSE c x).av:=by cases c<;>rfl
theorem um {d:DV X} {c:CT X.ι} {x:CT.T X.toSE c} (h:I9 d c=some x):wk (den d)=(CT.tv X.toSE c x).av:=by
 unfold I9 at h;split at h
 ·rw[(kG h).1];exact air x
 ·injection h with h;subst h;rfl
 ·injection h with h;subst h;rfl
 ·cases h
theorem XI {d:DV X} {c:CT X.ι} {x:CT.T X.toSE c} (hc:c.one=true) (h:I9 d c=some x):tH d=true:=by
 cases d
 case c a y=>
  obtain⟨e,_⟩:=rC (show iq a c y=some x by cases c<;>exact h);subst e;cases a<;>first |rfl |simp[CT.one]at hc
 case nil=>rfl
 all_goals cases c<;>cases h
theorem yJ:∀ {ds:List (DV X)} {l:List (CT X.ι)} {h:HL X.toSE l},yI ds l=some h->l.all CT.one=true->(aW ds).map wk=(HL.row X.toSE l h).map AV.t∧ds.all tH=true
 |[],[],h,_,_=>⟨rfl,rfl⟩
 |d::ds,c::l,h,hr,ha=>by
  simp only[yI]at hr;rw[ai]at hr;obtain⟨x,h1,hr⟩:=hr;rw[ai]at hr;obtain⟨g,h2,hr⟩:=hr;injection hr with hr;subst hr;simp only[all_cons,and_eq_true]at ha ⊢;obtain⟨i1,i2⟩:=yJ h2 ha.2;simp only[aW,map_cons,HL.row,map_append,i1,um h1,i2,and_true,XI ha.1 h1];simp[<- XH ha.1 x]
 |[],_::_,_,hr,_=>by simp[yI]at hr
 |_::_,[],_,hr,_=>by simp[yI]at hr
theorem RN (j:X.ι) (h:HL X.toSE (X.tys j)):CT.row X.toSE (.st j) (X.make j h)=HL.row X.toSE (X.tys j) h:=X.row_make j h
theorem ahL {c:CT X.ι} (hc:c.one=true) {ds:List (DV X)} {x:CT.T X.toSE c} (h:mk1 c ds=some x):(aW ds).map wk=(CT.row X.toSE c x).map AV.t:=by
 match ds,h with
 |[d],h=>
  rw[<- XH hc x];simp only[aW,map_cons,map_nil,um h]
 |[],h=>cases h
 |_::_::_,h=>cases h
theorem yx {c:CT X.ι} {ds:List (DV X)} {x:CT.T X.toSE c} (h:Ld c ds=some x):(aW ds).map wk=(CT.row X.toSE c x).map AV.t:=by
 cases c
 case st j=>
  simp only[Ld]at h;rw[ai]at h;obtain⟨g,h1,h⟩:=h;injection h with h;subst h;rw[(yJ h1 (X.flat j)).1,RN]
 all_goals exact ahL rfl h
theorem abX {d:DV X} {c:CT X.ι} (hc:c.one=true) {x:CT.T X.toSE c} (h:I9 d c=some x):∃ cs,cellsOf (den d)=some cs∧cs.map wk=(CT.row X.toSE c x).map AV.t:=by
 have hk:=XI hc h;have hd:=um h;have he:cellsOf (den d)=some [den d]:=by
  have:=Eh (x:=d) (cs:=[d]) (by
   cases d
   case c t y=>cases t<;>first |rfl |simp[tH]at hk
   all_goals first |rfl |simp[tH]at hk)
  simpa[aW]using this
 exact⟨_,he,by rw[<- XH hc x];simp[hd]⟩
theorem aes {d:DV X} {c:CT X.ι} {x:CT.T X.toSE c} (h:dat d c=some x):∃ cs,cellsOf (den d)=some cs∧cs.map wk=(CT.row X.toSE c x).map AV.t:=by
 cases c
 case st j=>
  replace h:abS d j=some x:=h
  cases d
  case agg cs=>
   simp only[abS]at h;rw[ai]at h;obtain⟨g,h1,h⟩:=h;injection h with h;subst h;obtain⟨i1,i2⟩:=yJ h1 (X.flat j);refine⟨aW cs,?_,by rw[i1,RN]⟩;simp only[den,cellsOf];rw[if_pos (adI i2)]
  case c a y=>
   replace h:iq a (.st j) y=some x:=h
   rw[(kG h).1];refine⟨(CT.row X.toSE (.st j) x).map AV.t,?_,?_⟩
   ·show cellsOf (.agg _)=_;simp only[cellsOf];rw[if_pos]
    ·rfl
    ·rw[List.all_map,all_eq_true];exact fun _ _=>rfl
   ·rw[map_map];rfl
  all_goals cases h
 all_goals exact abX rfl h
theorem aeu {t:TypeId} {x y:DV X} (h:stD T t x y get k=some r):∃ orc kk u out,QV T t (den x) (den y) orc (bM [kk] (dI get))=some out∧ic out.obs∧out.v= .undef∧out.upd=eZ [(kk,u)]∧k .undef [(kk,u)] [kk] [kk]=some r:=by
 unfold stD at h;unfold QV;rw[ai]at h;obtain⟨ti,h1,h⟩:=h;rw[ai]at h;obtain⟨cs,h2,h⟩:=h;simp only[h1,Eh h2,bind_some];split at h
 ·rename_i hl;have hdl:(aW cs).length=ti.size:=by rw[iM];exact hl
  simp only[hdl,if_true];split at h
  ·rename_i kk row off;rw[ai]at h;obtain⟨o,h3,h⟩:=h;split at h
   ·rename_i sz rows;rw[ai]at h;obtain⟨rw',h4,h⟩:=h;split at h
    ·rename_i hle;refine⟨.none,kk,_,⟨.undef,_,[]⟩,?_,trivial,rfl,rfl,h⟩;simp only[den,dH (List.mem_singleton_self kk) h3,bind_some,aY,List.getElem?_map,h4,Option.map_some,iM];rw[if_pos (by rw[<- hl];exact hle)];simp[eZ,aY,RL]
    ·cases h
   ·cases h
  ·rename_i kk n off;rw[ai]at h;obtain⟨o,h3,h⟩:=h;split at h
   ·rename_i c l;rw[ai]at h;obtain⟨z,h4,h⟩:=h;split at h
    ·rename_i hle;rw[ai]at h;obtain⟨z',h5,h⟩:=h;obtain⟨_,h6⟩:=QC h4;refine⟨.set ((CT.row X.toSE c z).map AV.t) (aK ((l.set n.toNat z').map (CT.row X.toSE c))),kk,_,⟨.undef,_,[(aK (l.map (CT.row X.toSE c)))[n.toNat]? =some ((CT.row X.toSE c z).map AV.t)∧aK ((l.set n.toNat z').map (CT.row X.toSE c))=bR ((aK (l.map (CT.row X.toSE c))).set n.toNat (put' ((CT.row X.toSE c z).map AV.t) off (aW cs)))]⟩,?_,?_,rfl,rfl,h⟩
     ·simp only[den,dH (List.mem_singleton_self kk) h3,bind_some,aY];rw[if_pos (by rw[length_map,JV,<- hl];exact hle)];simp[eZ,aY]
     ·refine⟨by simp[aK,h6],?_⟩;have h7:=yx h5;rw[RL,og]at h7;have hid:bR (aK (l.map (CT.row X.toSE c)))=aK (l.map (CT.row X.toSE c)):=(by simp[bR,aK,Function.comp_def,wk]);simp only[bR,List.map_set,h7];have:(aK (l.map (CT.row X.toSE c))).map (List.map wk)=aK (l.map (CT.row X.toSE c)):=hid;rw[this];simp[aK]
    ·cases h
   ·cases h
  ·cases h
 ·cases h
theorem Nk {t:TypeId} {x:DV X} {f:Nat} (h:JW T t x f k=some r):∃ dv out,yD T t (den x) f=some out∧ic out.obs∧out.v=den dv∧out.upd=[]∧k dv [] [] []=some r:=by
 unfold JW at h;unfold yD;rw[ai]at h;obtain⟨⟨d,u⟩,h1,h⟩:=h;simp only[h1,bind_some];split at h
 ·exact⟨_,_,rfl,trivial,rfl,rfl,h⟩
 ·exact⟨_,_,rfl,trivial,rfl,rfl,h⟩
 ·exact⟨_,_,rfl,trivial,rfl,rfl,h⟩
 ·cases h
theorem XJ {t:TypeId} {x:DV X} {f:Nat} (h:abT T t x f k=some r):∃ dv out,QW T t (den x) f=some out∧ic out.obs∧out.v=den dv∧out.upd=[]∧k dv [] [] []=some r:=by
 unfold abT at h;unfold QW;rw[ai]at h;obtain⟨⟨d,u⟩,h1,h⟩:=h;simp only[h1,bind_some];split at h
 ·rw[ai]at h;obtain⟨v,h2,h⟩:=h;have h3:=Im h2;rw[lu]at h3;exact⟨v,⟨den v,[],[]⟩,by simp only[den,h3,bind_some,pv],trivial,rfl,rfl,h⟩
 ·rename_i j y;rw[ai]at h;obtain⟨v,h2,h⟩:=h;have h3:=Nj h2;rw[map_take,map_drop]at h3;refine⟨v,⟨den v,[],[]⟩,?_,trivial,rfl,rfl,h⟩;show (part' u.agg u.size (List.take u.size (List.drop d ((CT.row X.toSE (.st j) y).map AV.t)))).bind pv=_;rw[h3];rfl
 ·cases h
theorem cond_some {α:Type} {b:Bool} {x:Option α} {r:α} (h:(bif b then x else none)=some r):b=true∧x=some r:=by
 cases b with
 |true=>exact⟨rfl,h⟩
 |false=>cases h
theorem RO {n:Int} {len:Nat} (h:inb n len=true):0<=n∧n.toNat < len:=by simp only[inb,and_eq_true,decide_eq_true_eq]at h;omega
theorem l6 {A:Type}:∀ {cs:List Bool} {k:Option A} {r:A},RH cs k=some r->(∀ c∈cs,c=true)∧k=some r
 |[],_,_,h=>⟨by simp,h⟩
 |c::cs,k,r,h=>by
  obtain⟨h1,h2⟩:=cond_some h;obtain⟨h3,h4⟩:=l6 h2;exact⟨fun x hx=>(mem_cons.1 hx).elim (fun e=>e ▸ h1) (h3 x),h4⟩
theorem Nl {t:TypeId} {x j:DV X} (h:JX T t x j get k=some r):∃ orc rd dv out,jR T t (den x) (den j) orc (bM rd (dI get))=some out∧ic out.obs∧out.v=den dv∧out.upd=[]∧k dv [] rd []=some r:=by
 unfold JX at h;unfold jR;rw[ai]at h;obtain⟨ti,h1,h⟩:=h;simp only[h1,bind_some];split at h
 ·rename_i e kd n hk;rw[ai]at h;obtain⟨ei,h2,h⟩:=h;simp only[hk,den,CT.tv,TV.av,h2,bind_some];split at h
  ·rename_i c l;split at h
   ·rename_i hs;rw[ai]at h;obtain⟨y,h3,h⟩:=h;obtain⟨h4,h5⟩:=QC h3;refine⟨.trow (CT.row X.toSE c y),[],_,⟨.rptr (CT.row X.toSE c y) 0,[],[0<=n∧(l.map (CT.row X.toSE c))[n.toNat]? =some (CT.row X.toSE c y)]⟩,?_,?_,rfl,rfl,h⟩
    ·simp only[den,CT.tv,TV.av];rw[if_pos (by rw[JV];exact hs)];rfl
    ·exact⟨h4,by simp[h5]⟩
   ·cases h
  ·rename_i kk off len;rw[ai]at h;obtain⟨o,h3,h⟩:=h;split at h
   ·rename_i c l;split at h
    ·rename_i hs;obtain⟨h4,h⟩:=cond_some h;obtain⟨h5,h6⟩:=RO h4;refine⟨.none,[kk],_,⟨.ptr kk (off+n.toNat) 0,[],[0<=n∧n.toNat < len]⟩,?_,⟨h5,h6⟩,?_,rfl,h⟩
     ·simp only[den,dH (List.mem_singleton_self kk) h3,bind_some,aY];rw[if_pos hs];rfl
     ·simp only[den,iN];congr 1;show off+Int.toNat n=Int.toNat ((off:Int)+n);have:(0:Int)<=n:=h5;omega
    ·cases h
   ·rename_i sz rows;split at h
    ·rename_i hs;obtain⟨h4,h⟩:=cond_some h;obtain⟨h5,h6⟩:=RO h4;refine⟨.none,[kk],_,⟨.ptr kk (off+n.toNat) 0,[],[0<=n∧n.toNat < len]⟩,?_,⟨h5,h6⟩,rfl,rfl,h⟩;simp only[den,dH (List.mem_singleton_self kk) h3,bind_some,aY];rw[if_pos hs];rfl
    ·cases h
   ·cases h
  ·cases h
 ·rename_i m e kd n hk;rw[ai]at h;obtain⟨ei,h2,h⟩:=h;simp only[hk,den,CT.tv,TV.av,h2,bind_some];obtain⟨h4,h⟩:=cond_some h;obtain⟨h5,h6⟩:=RO h4;split at h
  ·exact⟨.none,[],_,_,rfl,⟨h5,h6⟩,rfl,rfl,h⟩
  ·exact⟨.none,[],_,_,rfl,⟨h5,h6⟩,rfl,rfl,h⟩
  ·exact⟨.none,[],_,_,rfl,⟨h5,h6⟩,rfl,rfl,h⟩
  ·cases h
 ·cases h
theorem RP {x:DV X} {j:Nat} (h:RI x j k=some r):∃ dv out,Gd (den x) j=some out∧ic out.obs∧out.v=den dv∧out.upd=[]∧k dv [] [] []=some r:=by
 unfold RI at h;split at h
 ·rw[ai]at h;obtain⟨v,h2,h⟩:=h;refine⟨v,⟨den v,[],[]⟩,?_,trivial,rfl,rfl,h⟩;simp[Gd,den,kz,h2,pv]
 ·cases h
end
section
variable {X:SX} {A:Type} {T:Tab} {code:TypeId->Option (CT X.ι)} {get:Nat->Option (DObj X)} {k:KK X A} {r:A} {i:Nat}
theorem XK {op:BinOp} {kd:IntKind} {a b:Int}:∃ v obs,QU op kd a b=some (v,obs)∧den (Gp (X:=X) op kd a b).1= .t (.sc v)∧(∀ g,(Gp (X:=X) op kd a b).2=some g->g=true->ic obs)∧((Gp (X:=X) op kd a b).2=none->ic obs):=by
 cases op<;>refine⟨_,_,rfl,rfl,fun g hg ht=>?_,fun hn=>?_⟩<;>simp only[Gp,Option.some.injEq,reduceCtorEq]at* <;>try trivial
 all_goals subst hg;simp_all [ic]
theorem Zp {n:Nat} {x y:DV X} {b:Bool} (h:XF n x y=some b):M4 n (den x) (den y)=some b:=by
 unfold XF at h;split at h
 ·split at h
  ·injection h with h;subst h;simp only[den,CT.tv,TV.av,M4];rw[if_pos ‹_›]
  ·cases h
 ·exact h
 ·exact h
 ·cases h
theorem Le:∀ {ks:List Nat} {xs ys:List (DV X)} {b:Bool},ul ks xs ys=some b->wY ks (aW xs) (aW ys)=some b
 |[],[],[],b,h=>h
 |k::ks,x::xs,y::ys,b,h=>by
  simp only[ul]at h;rw[ai]at h;obtain⟨p,h1,h⟩:=h;rw[ai]at h;obtain⟨q,h2,h⟩:=h;simp only[aW,wY,Zp h1,Le h2,bind_some,h]
 |[],_::_,_,_,h=>by simp[ul]at h
 |[],[],_::_,_,h=>by simp[ul]at h
 |_::_,[],_,_,h=>by simp[ul]at h
 |_::_,_::_,[],_,h=>by simp[ul]at h
theorem Zq {x:DV X} {xs:List (DV X)} (h:ahK x=some xs):den x= .agg (aW xs):=by
 unfold ahK at h;split at h
 ·injection h with h;subst h;rfl
 ·rename_i j y;injection h with h;subst h;rw[og];rfl
 ·cases h
theorem abY {op:BinOp} {t:TypeId} {x y:DV X} (h:aiG T op t x y k=some r):∃ dv out,UL T op t (den x) (den y)=some out∧ic out.obs∧out.v=den dv∧out.upd=[]∧k dv [] [] []=some r:=by
 unfold aiG at h;split at h
 ·rename_i kd a yk b;split at h
  ·rename_i hk;obtain⟨v,obs,h1,h2,h3,h4⟩:=XK (X:=X) (op:=op) (kd:=kd) (a:=a) (b:=b);have fin:ic obs->k (Gp op kd a b).1 [] [] []=some r->∃ dv out,UL T op t (den (.c (.int kd) a:DV X)) (den (.c (.int yk) b:DV X))=some out∧ic out.obs∧out.v=den dv∧out.upd=[]∧k dv [] [] []=some r:=by
    intro ho hkk;refine⟨_,⟨.t (.sc v),[],obs⟩,?_,ho,h2.symm,rfl,hkk⟩;simp only[den,CT.tv,TV.av,UL];rw[if_pos hk,h1];rfl
   split at h
   ·rename_i hn;exact fin (h4 hn) h
   ·rename_i g hg;obtain⟨hgt,h⟩:=cond_some h;exact fin (h3 g hg hgt) h
  ·cases h
 ·split at h
  ·exact⟨_,_,rfl,trivial,rfl,rfl,h⟩
  ·exact⟨_,_,rfl,trivial,rfl,rfl,h⟩
  ·cases h
 ·rw[ai]at h;obtain⟨ti,h1,h⟩:=h;split at h
  ·rename_i hk;refine⟨_,⟨.t (.sc (.bool _)),[],[]⟩,?_,trivial,rfl,rfl,h⟩;simp only[den,CT.tv,TV.av,UL,h1,bind_some,hk];rfl
  ·rename_i hk;refine⟨_,⟨.t (.sc (.bool _)),[],[]⟩,?_,trivial,rfl,rfl,h⟩;simp only[den,CT.tv,TV.av,UL,h1,bind_some,hk];rfl
  ·cases h
 ·rw[ai]at h;obtain⟨xs,h1,h⟩:=h;rw[ai]at h;obtain⟨ys,h2,h⟩:=h;rw[ai]at h;obtain⟨ti,h3,h⟩:=h;split at h
  ·cases h
  ·rename_i hc;rw[ai]at h;obtain⟨b,h4,h⟩:=h;have h5:=Le h4;rw[Zq h1,Zq h2];split at h
   ·refine⟨_,⟨.t (.sc (.bool b)),[],[]⟩,?_,trivial,rfl,rfl,h⟩;simp only[UL,h3,bind_some];rw[if_neg hc,h5];rfl
   ·refine⟨_,⟨.t (.sc (.bool (!b))),[],[]⟩,?_,trivial,rfl,rfl,h⟩;simp only[UL,h3,bind_some];rw[if_neg hc,h5];rfl
   ·cases h
theorem aev {op:UnOp} {x:DV X} (h:unD op x k=some r):∃ dv out,aUn op (den x)=some out∧ic out.obs∧out.v=den dv∧out.upd=[]∧k dv [] [] []=some r:=by
 unfold unD at h;split at h
 ·exact⟨_,_,rfl,trivial,rfl,rfl,h⟩
 ·exact⟨_,_,rfl,trivial,rfl,rfl,h⟩
 ·cases h
theorem OX (mx:Bool) (kd:IntKind):∀ (l:List (DV X)) (a n:Int),Il mx kd a l=some n->Ea mx kd a (aW l)=some n
 |[],a,n,h=>h
 |x::l,a,n,h=>by
  cases x
  case c t y=>
   cases t
   case int k'=>
    simp only[Il]at h;simp only[aW,den,CT.tv,TV.av,Ea];split at h
    ·rename_i hk;rw[if_pos hk];exact OX mx kd l _ _ h
    ·cases h
   all_goals simp[Il]at h
  all_goals simp[Il]at h
theorem VU {mx:Bool} {args:List (DV X)} (h:mmD mx args k=some r):∃ dv out,aMm mx (aW args)=some out∧ic out.obs∧out.v=den dv∧out.upd=[]∧k dv [] [] []=some r:=by
 unfold mmD at h;split at h
 ·rename_i kd a l;rw[ai]at h;obtain⟨n,h1,h⟩:=h;refine⟨_,⟨.t (.sc (.int kd n)),[],[]⟩,?_,trivial,rfl,rfl,h⟩;simp only[aW,den,CT.tv,TV.av,aMm];have:=OX mx kd l a n h1;simp only[this];rfl
 ·cases h
theorem abZ {t:TypeId} {x:DV X} (h:aiH T t x k=some r):∃ orc dv out,Y1 T t (den x) orc=some out∧ic out.obs∧out.v=den dv∧out.upd=[]∧k dv [] [] []=some r:=by
 unfold aiH at h;unfold Y1;rw[ai]at h;obtain⟨ti,h1,h⟩:=h;simp only[h1,bind_some];split at h
 ·rename_i e c l hk;simp only[hk];exact⟨.num (l.length:Int),_,⟨.t (.sc (.int .i64 (l.length:Int))),[],[(l.length:Int)=((l.map (CT.row X.toSE c)).length:Int)]⟩,rfl,by simp[ic],rfl,rfl,h⟩
 ·rename_i hk;simp only[hk];exact⟨.none,_,_,rfl,trivial,rfl,rfl,h⟩
 ·rename_i hk;simp only[hk];exact⟨.none,_,_,rfl,trivial,rfl,rfl,h⟩
 ·rename_i hk;simp only[hk];exact⟨.none,_,_,rfl,trivial,rfl,rfl,h⟩
 ·cases h
theorem Nn (place:Nat->Option (Nat×Nat)):∀ (parts:List (Nat×DV X)) (cells out:List (DV X)),VP place cells parts=some out->FB place (aW cells) (parts.map fun p=>(p.1,den p.2))=some (aW out)
 |[],cells,out,h=>by simp only[VP,Option.some.injEq]at h;subst h;rfl
 |(j,x)::rest,cells,out,h=>by
  simp only[VP]at h;rw[ai]at h;obtain⟨⟨off,size⟩,h1,h⟩:=h;rw[ai]at h;obtain⟨cs,h2,h⟩:=h;split at h
  ·rename_i hl;simp only[map_cons,FB,h1,Eh h2,bind_some,iM];rw[if_pos hl,<- RL];exact Nn place rest _ _ h
  ·cases h
theorem XL {t:TypeId} {parts:List (Nat×DV X)} (h:abU T t parts k=some r):∃ dv out,QX T t (parts.map fun p=>(p.1,den p.2))=some out∧ic out.obs∧out.v=den dv∧out.upd=[]∧k dv [] [] []=some r:=by
 unfold abU at h;unfold QX;rw[ai]at h;obtain⟨ti,h1,h⟩:=h;simp only[h1,bind_some];split at h
 ·rename_i fs hk;split at h
  ·rename_i ha;rw[ai]at h;obtain⟨cells,h2,h⟩:=h;have h3:=Nn _ _ _ _ h2;rw[CB]at h3;refine⟨_,⟨.agg (aW cells),[],[]⟩,?_,trivial,rfl,rfl,h⟩;simp only[hk];rw[if_pos ha,h3];rfl
  ·cases h
 ·rename_i m e hk;rw[ai]at h;obtain⟨ei,h2,h⟩:=h;rw[ai]at h;obtain⟨cells,h3,h⟩:=h;have h4:=Nn _ _ _ _ h3;rw[CB]at h4;refine⟨_,⟨.agg (aW cells),[],[]⟩,?_,trivial,rfl,rfl,h⟩;simp only[hk,h2,bind_some,h4];rfl
 ·cases h
theorem VW (size:Nat) (c:CT X.ι) (hs:CT.sz X c=size) (z:List AV):∀ (parts:List (Nat×DV X)) (n:Nat) (l:List (CT.T X.toSE c)) (done:List (List AV)),aga c n parts=some l->done.length=n->
 ∃ css:List (List AV),KT size (done++List.replicate parts.length z) (parts.map fun p=>(p.1,den p.2))=some (done++css)∧css.map (fun r=>r.map wk)=aK (l.map (CT.row X.toSE c))
 |[],n,l,done,h,_=>by
  simp only[aga,Option.some.injEq]at h;subst h;exact⟨[],by simp[KT],rfl⟩
 |(j,x)::rest,n,l,done,h,hd=>by
  simp only[aga]at h;split at h
  ·rename_i hj;subst hj;rw[ai]at h;obtain⟨y,h1,h⟩:=h;rw[ai]at h;obtain⟨l',h2,h⟩:=h;injection h with h;subst h;obtain⟨cs,g1,g2⟩:=aes h1;have hl:cs.length=size:=by
    have:=congrArg List.length g2;simp only[length_map,JV]at this;omega
   obtain⟨css,i1,i2⟩:=VW size c hs z rest (j+1) l' (done++[cs]) h2 (by simp[hd]);refine⟨cs::css,?_,?_⟩
   ·simp only[map_cons,KT,g1,bind_some];rw[if_pos ⟨hl,by simp;omega⟩];have:(done++List.replicate (rest.length+1) z).set j cs=done++[cs]++List.replicate rest.length z:=by
     rw[List.set_append_right _ _ (by omega),hd];simp[List.replicate_succ]
    simp only[List.length_cons,this,i1];simp
   ·simp only[map_cons,i2,g2,aK,map_cons]
  ·cases h
theorem Lf {t:TypeId} {len:Nat} {parts:List (Nat×DV X)} (h:Gq T code i t len parts k=some r):∃ dv u out,uj T i t len (parts.map fun p=>(p.1,den p.2))=some out∧ic out.obs∧out.v=den dv∧out.upd=eZ [(nid i,u)]∧k dv [(nid i,u)] [] []=some r:=by
 unfold Gq at h;unfold uj;rw[ai]at h;obtain⟨ti,h1,h⟩:=h;simp only[h1,bind_some];split at h
 ·rename_i e hk;rw[ai]at h;obtain⟨ei,h2,h⟩:=h;rw[ai]at h;obtain⟨c,h3,h⟩:=h;simp only[hk,h2,bind_some];split at h
  ·cases h
  ·rename_i hno;simp only[not_or,Decidable.not_not]at hno;obtain⟨n1,n2,n3,n4⟩:=hno;rw[ai]at h;obtain⟨l,h4,h⟩:=h;obtain⟨css,g1,g2⟩:=VW ei.size c n3 (ei.zero.map cv) parts 0 l [] h4 rfl;simp only[nil_append,n4]at g1;refine⟨_,_,⟨.own (nid i) 0 len,[(nid i,some ⟨ei.size,bR css⟩)],[]⟩,?_,trivial,rfl,?_,h⟩
   ·rw[if_neg (by simp only[not_or];exact⟨n1,n2⟩),g1];rfl
   ·simp only[eZ,aY,map_cons,map_nil,Option.map_some,n3];rw[show bR css=aK (l.map (CT.row X.toSE c))from g2]
 ·cases h
theorem XM {e:TypeId} (h:abV T i e k=some r):∃ dv u out,QY T i e=some out∧ic out.obs∧out.v=den dv∧out.upd=eZ [(nid i,u)]∧k dv [(nid i,u)] [] []=some r:=by
 unfold abV at h;unfold QY;rw[ai]at h;obtain⟨ti,h1,h⟩:=h;exact⟨_,_,⟨_,[(nid i,some ⟨ti.size,[ti.zero.map cv]⟩)],[]⟩,by simp only[h1,bind_some];rfl,trivial,rfl,by simp[eZ,aY,CB],h⟩
theorem ab0 {x:DV X} (h:aiI i x k=some r):∃ dv u out,afR i (den x)=some out∧ic out.obs∧out.v=den dv∧out.upd=eZ [(nid i,u)]∧k dv [(nid i,u)] [] []=some r:=by
 unfold aiI at h;unfold afR;rw[ai]at h;obtain⟨cs,h1,h⟩:=h;exact⟨_,_,⟨_,[(nid i,some ⟨(aW cs).length,[aW cs]⟩)],[]⟩,by simp only[Eh h1,bind_some];rfl,trivial,rfl,by simp[eZ,aY,iM],h⟩
theorem CF {d n:Int} {x:Option (DV X)} (h:Zo d x=some n):bnd d (x.map den)=some n:=by
 unfold Zo at h;split at h
 ·exact h
 ·exact h
 ·cases h
theorem VX {l h:Int} {len:Nat} (hh:oh l h len=true):0<=l∧l<=h∧h<=(len:Int):=by simpa[oh,and_assoc]using hh
theorem XO {t:TypeId} {x:DV X} {lo hi:Option (DV X)} (h:abW T t x lo hi get k=some r):∃ orc rd dv out,QZ T t (den x) (lo.map den) (hi.map den) orc (bM rd (dI get))=some out∧ic out.obs∧out.v=den dv∧out.upd=[]∧k dv [] rd []=some r:=by
 unfold abW at h;unfold QZ;rw[ai]at h;obtain⟨ti,h1,h⟩:=h;simp only[h1,bind_some];split at h
 ·rename_i e hk;rw[ai]at h;obtain⟨ei,h2,h⟩:=h;simp only[hk,h2,bind_some];split at h
  ·rename_i kk off len;rw[ai]at h;obtain⟨o,h3,h⟩:=h;split at h
   ·rename_i hs;rw[ai]at h;obtain⟨l,h4,h⟩:=h;rw[ai]at h;obtain⟨hh,h5,h⟩:=h;obtain⟨h6,h⟩:=cond_some h;refine⟨.none,[kk],_,⟨.own kk (off+l.toNat) (hh.toNat - l.toNat),[],[0<=l∧l<=hh∧hh<=(len:Int)]⟩,?_,VX h6,rfl,rfl,h⟩;simp only[den,dH (List.mem_singleton_self kk) h3,bind_some];rw[if_pos hs,CF h4,bind_some,CF h5];rfl
   ·cases h
  ·rename_i c xs;split at h
   ·rename_i hs;rw[ai]at h;obtain⟨l,h4,h⟩:=h;rw[ai]at h;obtain⟨hh,h5,h⟩:=h;obtain⟨h6,h⟩:=cond_some h;refine⟨.tsub ((sub xs l.toNat (hh.toNat - l.toNat)).map (CT.row X.toSE c)),[],_,⟨.t (.sl ((sub xs l.toNat (hh.toNat - l.toNat)).map (CT.row X.toSE c))),[],[0<=l∧l<=hh∧hh<=((xs.map (CT.row X.toSE c)).length:Int)∧(sub xs l.toNat (hh.toNat - l.toNat)).map (CT.row X.toSE c)=((xs.map (CT.row X.toSE c)).drop l.toNat).take (hh.toNat - l.toNat)∧(∀ q∈xs.map (CT.row X.toSE c),q.length=ei.size)]⟩,?_,?_,rfl,rfl,h⟩
    ·simp only[den,CT.tv,TV.av,CF h4,bind_some];have h7:bnd ((xs.map (CT.row X.toSE c)).length:Int) (hi.map den)=some hh:=by
      have:=CF h5;simpa using this
     rw[h7];rfl
    ·obtain⟨a1,a2,a3⟩:=VX h6;refine⟨a1,a2,by simpa using a3,by simp[sub,map_take,map_drop],fun q hq=>?_⟩;obtain⟨y,_,rfl⟩:=mem_map.1 hq;rw[JV];exact hs
   ·cases h
  ·cases h
 ·cases h
end
section
variable {X:SX} {A:Type} {T:Tab} {code:TypeId->Option (CT X.ι)} {get:Nat->Option (DObj X)} {k:KK X A} {r:A} {i:Nat}
theorem iH {b c:CT X.ι} {l:List (CT.T X.toSE b)} {l':List (CT.T X.toSE c)} (h:iq (.sl b) (.sl c) l=some l'):CT.sz X b=CT.sz X c∧l.map (CT.row X.toSE b)=l'.map (CT.row X.toSE c):=by
 obtain⟨e,h⟩:=rC h;injection e with e;subst e;subst h;exact⟨rfl,rfl⟩
theorem Zr {y:DV X} {c:CT X.ι} {n:Nat} {l:List (CT.T X.toSE c)} {rd:List Nat} (h:aiJ y c get=some (n,l,rd)) (hl:l.length=n) (rd':List Nat) (hrd:∀ j∈rd,j∈rd'):
 ∃ ob,Q0 (CT.sz X c) (den y) (bM rd' (dI get))=some (n,ob,aK (l.map (CT.row X.toSE c)))∧ob:=by
 unfold aiJ at h;split at h
 ·rename_i kk off len;rw[ai]at h;obtain⟨o,h1,h⟩:=h;split at h
  ·rename_i b l0;rw[ai]at h;obtain⟨l1,h2,h⟩:=h;injection h with h;simp only[Prod.mk.injEq]at h;obtain⟨rfl,rfl,rfl⟩:=h;obtain⟨h3,h4⟩:=iH h2;refine⟨True,?_,trivial⟩;simp only[den,Q0,dH (hrd kk (by simp)) h1,bind_some,aY];rw[if_pos h3];simp only[h4,Option.some.injEq,Prod.mk.injEq,true_and];simp[aK,sub,map_take,map_drop]
  ·cases h
 ·rename_i b l0;rw[ai]at h;obtain⟨l1,h2,h⟩:=h;injection h with h;simp only[Prod.mk.injEq]at h;obtain⟨rfl,rfl,rfl⟩:=h;refine⟨∀ q∈l1.map (CT.row X.toSE c),q.length=CT.sz X c,?_,?_⟩
  ·rw[(kG h2).1];simp only[den,CT.tv,TV.av,Q0,length_map]
  ·intro q hq;obtain⟨z,_,rfl⟩:=mem_map.1 hq;exact JV c z
 ·cases h
theorem RQ {lo len ln n bytes:Nat} (h:aX lo len ln n bytes=true):lo=len∧ln=n∧(len+n)*bytes<=140737488355328∧len+n<=maxLen:=by simpa[aX,and_assoc]using h
theorem U1 {t:TypeId} {x y:DV X} (h:XG T code i t x y get k=some r):∃ orc rd wr dv upd out,Aw T i t (den x) (den y) orc (bM rd (dI get))=some out∧ic out.obs∧out.v=den dv∧out.upd=eZ upd∧(∀ p∈upd,p.1=nid i∨p.1∈wr)∧k dv upd rd wr=some r:=by
 unfold XG at h;unfold Aw;rw[ai]at h;obtain⟨ti,h1,h⟩:=h;simp only[h1,bind_some];split at h
 ·rename_i e hk;rw[ai]at h;obtain⟨ei,h2,h⟩:=h;rw[ai]at h;obtain⟨c,h3,h⟩:=h;simp only[hk,h2,bind_some];split at h
  ·rename_i hs;rw[ai]at h;obtain⟨⟨n,l,rd⟩,h4,h⟩:=h;split at h
   ·rename_i kk len;rw[ai]at h;obtain⟨o,h5,h⟩:=h;split at h
    ·rename_i b l0;rw[ai]at h;obtain⟨l1,h6,h⟩:=h;obtain⟨h7,h⟩:=cond_some h;obtain⟨g1,g2,g3,g4⟩:=RQ h7;obtain⟨h8,h9⟩:=iH h6;obtain⟨ob,i1,i2⟩:=Zr h4 g2 (kk::rd) (fun j hj=>by simp[hj]);have i3:=dH (rd:=kk::rd) (by simp) h5
     refine⟨.rows (aK ((l1++l).map (CT.row X.toSE c))),kk::rd,[kk],_,_,⟨.own (nid i) 0 (aK ((l1++l).map (CT.row X.toSE c))).length,[(nid i,some ⟨ei.size,aK ((l1++l).map (CT.row X.toSE c))⟩),(kk,none)],
      [ob∧(aK (l1.map (CT.row X.toSE c))).length=len∧(aK (l.map (CT.row X.toSE c))).length=n∧aK ((l1++l).map (CT.row X.toSE c))=aK (l1.map (CT.row X.toSE c))++aK (l.map (CT.row X.toSE c))∧(len+n)*ei.bytes<=140737488355328∧len+n<=maxLen]⟩,?_,?_,?_,?_,?_,h⟩
     ·rw[hs]at i1;simp only[i1,bind_some,den,i3,aY,h9];rw[if_pos ⟨by rw[h8,hs],trivial⟩]
     ·exact⟨i2,by simpa[aK]using g1,by simpa[aK]using g2,by simp[aK],g3,g4⟩
     ·simp[den,aK]
     ·simp[eZ,aY,hs]
     ·intro p hp;simp only[mem_cons,List.not_mem_nil,or_false]at hp;rcases hp with rfl |rfl
      ·exact .inl rfl
      ·exact .inr (by simp)
    ·cases h
   ·obtain⟨h7,h⟩:=cond_some h;obtain⟨g1,g2,g3,g4⟩:=RQ h7;obtain⟨ob,i1,i2⟩:=Zr h4 g2 rd (fun j hj=>hj)
    refine⟨.rows (aK (l.map (CT.row X.toSE c))),rd,[],_,_,⟨.own (nid i) 0 (aK (l.map (CT.row X.toSE c))).length,[(nid i,some ⟨ei.size,aK (l.map (CT.row X.toSE c))⟩)],
     [ob∧(aK (l.map (CT.row X.toSE c))).length=n∧aK (l.map (CT.row X.toSE c))=aK (l.map (CT.row X.toSE c))∧n*ei.bytes<=140737488355328∧n<=maxLen]⟩,?_,?_,?_,?_,?_,h⟩
    ·rw[hs]at i1;simp only[i1,bind_some,den]
    ·exact⟨i2,by simpa[aK]using g2,rfl,by simpa using g3,by simpa using g4⟩
    ·simp[den,aK]
    ·simp[eZ,aY,hs]
    ·intro p hp;simp only[mem_cons,List.not_mem_nil,or_false]at hp;rcases hp with rfl;exact .inl rfl
   ·cases h
  ·cases h
 ·cases h
def ai6 (T:Tab) (i:Nat) (o:Oper) (ρ:Operand->DV X) (get:Nat->Option (DObj X)) (k:KK X A) (r:A):Prop:=
 ∃ orc rd wr dv upd out,oI T i o orc (fun x=>den (ρ x)) (bM rd (dI get))=some out∧ic out.obs∧out.v=den dv∧out.upd=eZ upd∧(∀ p∈upd,p.1=nid i∨p.1∈wr)∧k dv upd rd wr=some r
theorem RS {b:Builtin} {args:List (DV X)} {tys:List TypeId} (h:RJ T code i b args tys get k=some r):∃ orc rd wr dv upd out,Cz T i b (aW args) tys orc (bM rd (dI get))=some out∧ic out.obs∧out.v=den dv∧out.upd=eZ upd∧(∀ p∈upd,p.1=nid i∨p.1∈wr)∧k dv upd rd wr=some r:=by
 unfold RJ at h;unfold Cz;split at h
 ·obtain⟨orc,dv,out,h1,h2,h3,h4,h5⟩:=abZ h;exact⟨orc,[],[],dv,[],out,h1,h2,h3,h4,by simp,h5⟩
 ·obtain⟨dv,out,h1,h2,h3,h4,h5⟩:=VU h;exact⟨.none,[],[],dv,[],out,h1,h2,h3,h4,by simp,h5⟩
 ·obtain⟨dv,out,h1,h2,h3,h4,h5⟩:=VU h;exact⟨.none,[],[],dv,[],out,h1,h2,h3,h4,by simp,h5⟩
 ·split at h
  ·rename_i htu;obtain⟨orc,rd,wr,dv,upd,out,h1,h2⟩:=U1 h;refine⟨orc,rd,wr,dv,upd,out,?_,h2⟩;simp only[aW];rw[if_pos htu];exact h1
  ·cases h
 ·cases h
theorem QD (ρ:Operand->DV X) (l:List Operand):l.map (fun x=>den (ρ x))=aW (l.map ρ):=by rw[kz,map_map];rfl
theorem VY {o:Oper} {ρ:Operand->DV X} (h:opD T code i o.op ρ get k=some r):ai6 T i o ρ get k r:=by
 obtain⟨dst,op,ty,pos,after,guard⟩:=o;unfold ai6 oI;simp only at h;unfold opD at h;split at h
 ·exact⟨.none,[],[],_,[],_,rfl,trivial,rfl,rfl,by simp,h⟩
 ·exact⟨.none,[],[],_,[],_,rfl,trivial,rfl,rfl,by simp,h⟩
 ·rename_i c a b;split at h
  ·rename_i t hc;refine⟨.none,[],[],_,[],⟨Y2 t (den (ρ a)) (den (ρ b)),[],[]⟩,?_,trivial,(aep t _ _).symm,rfl,by simp,h⟩;simp only[hc,den,CT.tv,TV.av,pv]
  ·cases h
 ·obtain⟨dv,u,out,h1,h2,h3,h4,h5⟩:=XM h;exact⟨.none,[],[],dv,_,out,h1,h2,h3,h4,by simp,h5⟩
 ·obtain⟨dv,u,out,h1,h2,h3,h4,h5⟩:=ab0 h;exact⟨.none,[],[],dv,_,out,h1,h2,h3,h4,by simp,h5⟩
 ·rename_i t parts;obtain⟨dv,out,h1,h2,h3,h4,h5⟩:=XL h;refine⟨.none,[],[],dv,[],out,?_,h2,h3,h4,by simp,h5⟩;rw[map_map]at h1;exact h1
 ·rename_i t len parts;obtain⟨dv,u,out,h1,h2,h3,h4,h5⟩:=Lf h;refine⟨.none,[],[],dv,_,out,?_,h2,h3,h4,by simp,h5⟩;rw[map_map]at h1;exact h1
 ·obtain⟨orc,rd,dv,out,h1,h2,h3,h4,h5⟩:=aer h;exact⟨orc,rd,[],dv,[],out,h1,h2,h3,h4,by simp,h5⟩
 ·obtain⟨orc,kk,u,out,h1,h2,h3,h4,h5⟩:=aeu h;exact⟨orc,[kk],[kk],.undef,_,out,h1,h2,h3,h4,by simp,h5⟩
 ·obtain⟨dv,out,h1,h2,h3,h4,h5⟩:=abY h;exact⟨.none,[],[],dv,[],out,h1,h2,h3,h4,by simp,h5⟩
 ·obtain⟨dv,out,h1,h2,h3,h4,h5⟩:=aev h;exact⟨.none,[],[],dv,[],out,h1,h2,h3,h4,by simp,h5⟩
 ·rename_i f first caps
  refine⟨.none,[],[],_,[],⟨.fn f (first.toList.map fun x=>den (ρ x)) (caps.toList.map fun x=>den (ρ x)),[],[]⟩,rfl,trivial,?_,rfl,by simp,h⟩;simp only[den,QD]
 ·rename_i t x lo hi;obtain⟨orc,rd,dv,out,h1,h2,h3,h4,h5⟩:=XO h;refine⟨orc,rd,[],dv,[],out,?_,h2,h3,h4,by simp,h5⟩;simp only[Option.map_map]at h1;exact h1
 ·obtain⟨dv,out,h1,h2,h3,h4,h5⟩:=Nk h;exact⟨.none,[],[],dv,[],out,h1,h2,h3,h4,by simp,h5⟩
 ·obtain⟨dv,out,h1,h2,h3,h4,h5⟩:=XJ h;exact⟨.none,[],[],dv,[],out,h1,h2,h3,h4,by simp,h5⟩
 ·obtain⟨orc,rd,dv,out,h1,h2,h3,h4,h5⟩:=Nl h;exact⟨orc,rd,[],dv,[],out,h1,h2,h3,h4,by simp,h5⟩
 ·obtain⟨dv,out,h1,h2,h3,h4,h5⟩:=RP h;exact⟨.none,[],[],dv,[],out,h1,h2,h3,h4,by simp,h5⟩
 ·rename_i b args tys;obtain⟨orc,rd,wr,dv,upd,out,h1,h2⟩:=RS h;refine⟨orc,rd,wr,dv,upd,out,?_,h2⟩;simp only[QD];exact h1
 ·cases h
end
inductive Pt (ι:Type) where
 |v (c:CT ι)
 |o (k:Nat)
 |p (k:Nat)
 |nil
 |f (F:FuncId) (fs cs:List (Pt ι))
 |od (k:Nat)
 |mp (k:Nat)
 |a (ps:List (Pt ι))
inductive OP (ι:Type) where
 |l (c:CT ι)
 |m (k v:CT ι)
 |c (sz:Nat) (rows:List (List (Pt ι)))
section
variable {ι:Type}
mutual
def Pt.vars:Pt ι->List (CT ι)
 | .v c=>[c]
 | .a ps=>varsL ps
 | .f _ fs cs=>varsL fs++varsL cs
 | .od _=>[.int .i64]
 |_=>[]
def varsL:List (Pt ι)->List (CT ι)
 |[]=>[]
 |p::ps=>p.vars++varsL ps
end
def varsS:List (Nat×Pt ι)->List (CT ι)
 |[]=>[]
 |p::ps=>p.2.vars++varsS ps
def uo:List (List (Pt ι))->List (CT ι)
 |[]=>[]
 |r::rs=>varsL r++uo rs
def varsO:List (Nat×OP ι)->List (CT ι)
 |[]=>[]
 |(_,.l c)::r=> .sl c::varsO r
 |(_,.m k v)::r=> .mp k v::varsO r
 |(_,.c _ rows)::r=>uo rows++varsO r
end
section
variable {X:SX}
structure DC (X:SX) where
 c:CT X.ι
 x:CT.T X.toSE c
@[reducible] def VT:List (CT X.ι)->Type
 |[]=>Unit
 |[c]=>CT.T X.toSE c
 |c::c'::l=>CT.T X.toSE c×VT (c'::l)
def U2:(l:List (CT X.ι))->List (DC X)->Option (VT (X:=X) l)
 |[],[]=>some ()
 |[c],[d]=>iq d.c c d.x
 |c::c'::l,d::ds=>(iq d.c c d.x).bind fun x=>(U2 (c'::l) ds).bind fun v=>some (x,v)
 |_,_=>none
def uw:(l:List (CT X.ι))->VT (X:=X) l->List (DC X)
 |[],_=>[]
 |[c],x=>[⟨c,x⟩]
 |c::c'::l,v=>⟨c,v.1⟩::uw (c'::l) v.2
theorem Zt {d:DC X} {c:CT X.ι} {x:CT.T X.toSE c} (h:iq d.c c d.x=some x):(⟨c,x⟩:DC X)=d:=by
 obtain⟨a,y⟩:=d;obtain⟨e,h⟩:=rC h;simp only at e;subst e;subst h;rfl
theorem RU:∀ {l:List (CT X.ι)} {ds:List (DC X)} {v:VT (X:=X) l},U2 l ds=some v->uw l v=ds
 |[],[],_,_=>rfl
 |[c],[d],v,h=>by simp only[U2]at h;simp only[uw,Zt h]
 |c::c'::l,d::ds,v,h=>by
  simp only[U2]at h;rw[ai]at h;obtain⟨x,h1,h⟩:=h;rw[ai]at h;obtain⟨v',h2,h⟩:=h;injection h with h;subst h;simp only[uw,Zt h1,RU h2]
 |[],_::_,_,h=>by simp[U2]at h
 |[_],[],_,h=>by simp[U2]at h
 |[_],_::_::_,_,h=>by simp[U2]at h
 |_::_::_,[],_,h=>by simp[U2]at h
theorem RX {c:CT X.ι} (x:CT.T X.toSE c):iq c c x=some x:=by
 unfold iq;split
 ·rfl
 ·rename_i h _;exact absurd rfl h
def VZ (d:DC X):Nat:=match iq d.c (.int .i64) d.x with |some x=>Int.toNat x |none=>0
section
variable (olen:Nat->Nat)
mutual
def eP:Pt X.ι->List (DC X)->DV X×List (DC X)
 | .v _,L=>match L with
  |d::r=>(.c d.c d.x,r)
  |[]=>(.undef,[])
 | .o k,L=>(.own k 0 (olen k),L)
 | .p k,L=>(.ptr k 0 0,L)
 | .mp k,L=>(.mp k,L)
 | .nil,L=>(.nil,L)
 | .f F fs cs,L=>(.fn F (ePs fs L).1 (ePs cs (ePs fs L).2).1,(ePs cs (ePs fs L).2).2)
 | .od k,L=>match L with
  |d::r=>(.own k (VZ d) (olen k - VZ d),r)
  |[]=>(.undef,[])
 | .a ps,L=>(.agg (ePs ps L).1,(ePs ps L).2)
def ePs:List (Pt X.ι)->List (DC X)->List (DV X)×List (DC X)
 |[],L=>([],L)
 |p::ps,L=>((eP p L).1::(ePs ps (eP p L).2).1,(ePs ps (eP p L).2).2)
end
def BI:List (Nat×Pt X.ι)->List (DC X)->List (Nat×DV X)
 |[],_=>[]
 |(t,p)::r,L=>(t,(eP olen p L).1)::BI r (eP olen p L).2
def uy:List (List (Pt X.ι))->List (DC X)->List (List (DV X))×List (DC X)
 |[],L=>([],L)
 |r::rs,L=>((ePs olen r L).1::(uy rs (ePs olen r L).2).1,(uy rs (ePs olen r L).2).2)
def bB:List (Nat×OP X.ι)->List (DC X)->List (Nat×Option (DObj X))
 |[],_=>[]
 |(k,.l _)::r,L=>match L with
  |⟨.sl c',x⟩::L=>(k,some (.lst c' x))::bB r L
  |_=>[]
 |(k,.m _ _)::r,L=>match L with
  |⟨.mp kc vc,x⟩::L=>(k,some (.map kc vc x))::bB r L
  |_=>[]
 |(k,.c sz rows)::r,L=>(k,some (.cells sz (uy olen rows L).1))::bB r (uy olen rows L).2
end
def lens:List (Nat×OP X.ι)->List (DC X)->List (Nat×Nat)
 |[],_=>[]
 |(k,.l _)::r,L=>match L with
  |⟨.sl _,x⟩::L=>(k,List.length x)::lens r L
  |_=>[]
 |(_,.m _ _)::r,L=>lens r (L.drop 1)
 |(_,.c _ rows)::r,L=>lens r (L.drop (uo rows).length)
def zipS:Nat->List (Pt X.ι)->List (Nat×Pt X.ι)
 |_,[]=>[]
 |n,p::ps=>(n,p)::zipS (n+1) ps
theorem Np:∀ (n:Nat) (ps:List (Pt X.ι)),varsS (zipS n ps)=varsL ps
 |_,[]=>rfl
 |n,p::ps=>by simp only[zipS,varsS,varsL,Np (n+1) ps]
structure GSig (X:SX) where
 inP:List (Pt X.ι)
 inO:List (Nat×OP X.ι)
 outP:List (Pt X.ι)
 outO:List (Nat×OP X.ι)
 fn:VT (X:=X) (varsL inP++varsO inO)->Option (VT (X:=X) (varsS (zipS 0 outP)++varsO outO))
def BJ (O:List (Nat×OP X.ι)) (L:List (DC X)) (k:Nat):Nat:=(lk (lens O L) k).getD 0
def RY (ps:List (Pt X.ι)) (O:List (Nat×OP X.ι)) (L:List (DC X)):List (DV X):=(ePs (BJ O (L.drop (varsL ps).length)) ps (L.take (varsL ps).length)).1
def Zu (ps:List (Pt X.ι)) (O:List (Nat×OP X.ι)) (L:List (DC X)):List (Nat×Option (DObj X)):=bB (BJ O (L.drop (varsL ps).length)) O (L.drop (varsL ps).length)
def yK:List (DV X)->DV X
 |[d]=>d
 |ds=> .tup ds
def bF:List (Nat×Option (DObj X))->List (Nat×DObj X)
 |[]=>[]
 |(k,some o)::r=>(k,o)::bF r
 |(_,none)::r=>bF r
def pI (l:List (Nat×DObj X)):List (Nat×aP):=l.map fun p=>(p.1,aY p.2)
def GSig.args (g:GSig X) (v:VT (X:=X) (varsL g.inP++varsO g.inO)):List (DV X):=RY g.inP g.inO (uw _ v)
def GSig.objs (g:GSig X) (v:VT (X:=X) (varsL g.inP++varsO g.inO)):List (Nat×DObj X):=bF (Zu g.inP g.inO (uw _ v))
def GSig.res (g:GSig X) (r:VT (X:=X) (varsS (zipS 0 g.outP)++varsO g.outO)):DV X:=yK (RY g.outP g.outO (uw _ r))
def GSig.outs (g:GSig X) (r:VT (X:=X) (varsS (zipS 0 g.outP)++varsO g.outO)):List (Nat×DObj X):=bF (Zu g.outP g.outO (uw _ r))
def aew (P:Program) (f:FuncId) (g:GSig X):Prop:=∀ v r,g.fn v=some r->FnG P f (aW (g.args v)) ((g.objs v).map fun p=>aY p.2) (pI (g.outs r)) (den (g.res r))
end
inductive AT (ι:Type) where
 |d (c:CT ι)
 |ref (c:CT ι)
 |clo (as:List (CT ι)) (r:CT ι)
 |mut (c:CT ι)
 |mref (c:CT ι)
 |nil
 deriving DecidableEq
def AT.im {ι:Type}:AT ι->Bool
 | .mut _ | .mref _=>true
 |_=>false
def AT.pl {ι:Type}:AT ι->Bool
 | .mut _ | .mref _ | .nil=>false
 |_=>true
inductive RT (ι:Type) where
 |d (c:CT ι)
 |fresh (e:CT ι)
 |whole (j:Nat)
 |mu (c:CT ι)
 |mr (c:CT ι)
 |mv
def RT.out {ι:Type}:RT ι->Bool
 | .mu _ | .mr _ | .mv=>true
 |_=>false
section
variable (X:SX)
@[reducible] def AT.T:AT X.ι->Type
 | .d c=>CT.T X.toSE c
 | .ref c=>CT.T X.toSE c
 | .clo as r=>HL X.toSE as->Option (CT.T X.toSE r)
 | .mut c=>List (CT.T X.toSE c)
 | .mref c=>CT.T X.toSE c
 | .nil=>Unit
@[reducible] def RT.T:RT X.ι->Type
 | .d c=>CT.T X.toSE c
 | .fresh e=>List (CT.T X.toSE e)
 | .whole _=>Unit
 | .mu c=>List (CT.T X.toSE c)
 | .mr c=>CT.T X.toSE c
 | .mv=>Unit
@[reducible] def fM:List (AT X.ι)->Type
 |[]=>Unit
 |a::l=>AT.T X a×fM l
@[reducible] def pz:List (RT X.ι)->Type
 |[]=>Unit
 |[r]=>RT.T X r
 |r::r'::l=>RT.T X r×pz (r'::l)
structure Sig where
 args:List (AT X.ι)
 res:List (RT X.ι)
 fn:fM X args->Option (pz X res)
 gen:Option (GSig X):=none
variable {X}
def bP:Nat->(l:List (AT X.ι))->fM X l->List AV
 |_,[],_=>[]
 |n,.d c::l,a=>(CT.tv X.toSE c a.1).av::bP n l a.2
 |n,.ref c::l,a=> .rptr (CT.row X.toSE c a.1) 0::bP n l a.2
 |n,.clo as r::l,a=>den (.clo as r a.1:DV X)::bP n l a.2
 |n,.mut _::l,a=> .own n 0 (List.length a.1)::bP (n+1) l a.2
 |n,.mref _::l,a=> .ptr n 0 0::bP (n+1) l a.2
 |n,.nil::l,a=> .nilsl::bP n l a.2
abbrev yL (l:List (AT X.ι)) (a:fM X l):List AV:=bP 0 l a
def om (c:CT X.ι) (l:List (CT.T X.toSE c)):dn:=(CT.sz X c,l.map (CT.row X.toSE c))
def mO:(l:List (AT X.ι))->fM X l->List dn
 |[],_=>[]
 | .mut c::l,a=>om c a.1::mO l a.2
 | .mref c::l,a=>om c [a.1]::mO l a.2
 | .d _::l,a=>mO l a.2
 | .ref _::l,a=>mO l a.2
 | .clo _ _::l,a=>mO l a.2
 | .nil::l,a=>mO l a.2
def mQ:(r:RT X.ι)->RT.T X r->List (Option dn)
 | .mu c,x=>[some (om c x)]
 | .mr c,x=>[some (om c [x])]
 | .mv,_=>[none]
 |_,_=>[]
def kC:(l:List (RT X.ι))->pz X l->List (Option dn)
 |[],_=>[]
 |[r],x=>mQ r x
 |r::r'::l,x=>mQ r x.1++kC (r'::l) x.2
def U3:(r:RT X.ι)->RT.T X r->List Nat
 | .mu _,x=>[List.length x]
 | .mr _,_=>[1]
 | .mv,_=>[0]
 |_,_=>[]
def XP:(l:List (RT X.ι))->pz X l->List Nat
 |[],_=>[]
 |[r],x=>U3 r x
 |r::r'::l,x=>U3 r x.1++XP (r'::l) x.2
def RZ (ns:List Nat):(r:RT X.ι)->RT.T X r->List RC
 | .d c,x=>[.d (CT.tv X.toSE c x)]
 | .fresh e,l=>[.fresh (CT.sz X e) (l.map (CT.row X.toSE e))]
 | .whole j,_=>[.whole j (ns.getD j 0)]
 |_,_=>[]
def BK (ns:List Nat):(l:List (RT X.ι))->pz X l->List RC
 |[],_=>[]
 |[r],x=>RZ ns r x
 |r::r'::l,x=>RZ ns r x.1++BK ns (r'::l) x.2
def pJ (l:List (RT X.ι)) (x:pz X l):RV:=
 match BK (XP l x) l x with
 |[c]=> .one c
 |cs=> .tup cs
def GOk (P:Program) (Γ:FuncId->Option (Sig X)):Prop:=
 ∀ f s,Γ f=some s->iL P f∧(∀ a r,s.fn a=some r->FnW P f (yL s.args a) (mO s.args a) (kC s.res r) (pJ s.res r))∧∀ g,s.gen=some g->aew P f g
theorem ai7:∀ {l:List (AT X.ι)},(l.all fun q=>q.pl)=true->(l.all fun q=>!q.im)=true:=fun {l} h=>by
 rw[all_eq_true]at h ⊢;intro q hq;have:=h q hq;cases q<;>simp_all [AT.pl,AT.im]
theorem yM:∀ {l:List (AT X.ι)} {a:fM X l},(l.all fun q=>!q.im)=true->mO l a=[]
 |[],_,_=>rfl
 | .d _::l,a,h=>yM (l:=l) (by simpa[AT.im]using h)
 | .ref _::l,a,h=>yM (l:=l) (by simpa[AT.im]using h)
 | .clo _ _::l,a,h=>yM (l:=l) (by simpa[AT.im]using h)
 | .mut _::l,a,h=>by simp[AT.im]at h
 | .mref _::l,a,h=>by simp[AT.im]at h
 | .nil::l,a,h=>yM (l:=l) (by simpa[AT.im]using h)
theorem Zv {r:RT X.ι} {x:RT.T X r} (h:(!r.out)=true):mQ r x=[]:=by cases r<;>first |rfl |simp[RT.out]at h
theorem Zw:∀ {l:List (RT X.ι)} {x:pz X l},(l.all fun q=>!q.out)=true->kC l x=[]
 |[],_,_=>rfl
 |[r],x,h=>Zv (by simpa using h)
 |r::r'::l,x,h=>by
  simp only[all_cons,and_eq_true]at h;simp only[kC,Zv h.1,nil_append];exact Zw (l:=r'::l) (by simp only[all_cons,and_eq_true];exact h.2)
mutual
def drefs:DV X->List Nat
 | .own k _ _=>[k]
 | .ptr k _ _=>[k]
 | .ptl k _ _=>[k]
 | .pta k _ _ _ _=>[k]
 | .mp k=>[k]
 | .agg cs=>aL cs
 | .tup cs=>aL cs
 | .fn _ first caps=>aL first++aL caps
 |_=>[]
def aL:List (DV X)->List Nat
 |[]=>[]
 |x::xs=>drefs x++aL xs
end
theorem Ei (c:CT X.ι) (x:CT.T X.toSE c):refs (CT.tv X.toSE c x).av=[]:=by
 cases c<;>try rfl
 rename_i i;show cZ ((X.row i x).map AV.t)=[];generalize X.row i x=l
 induction l with
 |nil=>rfl
 |cons y ys ih=>simp only[map_cons,cZ,refs,ih,nil_append]
mutual
theorem fE:∀ x:DV X,refs (den x)=drefs x
 | .c t x=>Ei t x
 | .agg cs=>by simp only[den,refs,drefs,dZ cs]
 | .tup cs=>by simp only[den,refs,drefs,dZ cs]
 | .own _ _ _=>rfl
 | .ptr _ _ _=>rfl
 | .ptl _ _ _=>rfl
 | .mp _=>rfl
 | .pta _ _ _ _ _=>rfl
 | .rp _ _ _=>rfl
 | .fn f first caps=>by simp only[den,refs,drefs,dZ first,dZ caps]
 | .clo _ _ _=>rfl
 | .raw v=>by
  simp only[den,drefs,cv];split
  ·rfl
  ·split<;>rfl
 | .nil=>rfl
 | .ub=>rfl
 | .skip=>rfl
 | .undef=>rfl
theorem dZ:∀ l:List (DV X),cZ (aW l)=aL l
 |[]=>rfl
 |x::xs=>by simp only[aW,cZ,aL,fE x,dZ xs]
end
def OY (get:Nat->Option (DObj X)) (d:DV X) (c:CT X.ι):Option (CT.T X.toSE c×List Bool):=
 match d,c with
 | .own kk off len,.sl e=>(get kk).bind fun o=>match o with
  | .lst b l=>(iq (.sl b) (.sl e) l).bind fun (l:List (CT.T X.toSE e))=>some (sub l off len,[eqL (sub l off len).length len])
  |_=>none
 | .own kk off len,.any=>(get kk).bind fun o=>match o with
  | .lst b l=>some (.sl (List.map (CT.row X.toSE b) (sub l off len)),[eqL (sub l off len).length len])
  |_=>none
 |d,c=>(I9 d c).bind fun x=>some (x,[])
def vX (get:Nat->Option (DObj X)):List (DV X)->(l:List (CT X.ι))->Option (HL X.toSE l×List Bool)
 |[],[]=>some ((),[])
 |d::ds,c::l=>(OY get d c).bind fun x=>(vX get ds l).bind fun h=>some ((x.1,h.1),x.2++h.2)
 |_,_=>none
def V3 (get:Nat->Option (DObj X)) (d:DV X) (i:X.ι):Option (CT.T X.toSE (.st i)×List Bool):=
 match d with
 | .agg cs=>(vX get cs (X.tys i)).bind fun h=>some (X.make i h.1,h.2)
 | .c a x=>(iq a (.st i) x).bind fun x=>some (x,[])
 |_=>none
def FH (get:Nat->Option (DObj X)) (d:DV X) (c:CT X.ι):Option (CT.T X.toSE c×List Bool):=
 match c with
 | .st i=>V3 get d i
 |c=>OY get d c
def agb (get:Nat->Option (DObj X)) (d:DV X) (c:CT X.ι):Option (CT.T X.toSE c):=
 match d with
 | .ptr kk row 0=>(get kk).bind fun o=>match o with
  | .cells _ rows=>(rows[row]?).bind fun q=>if q.all (fun x=>match x with | .c _ _=>true |_=>false)then Ld c q else none
  |_=>none
 | .rp a x 0=>iq a c x
 |_=>none
def apA:(l l':List (AT X.ι))->fM X l->fM X l'->fM X (l++l')
 |[],_,_,b=>b
 |_::l,l',a,b=>(a.1,apA l l' a.2 b)
def hlA:(as:List (CT X.ι))->HL X.toSE as->fM X (as.map AT.d)
 |[],_=>()
 |_::l,h=>(h.1,hlA l h.2)
def mR:List (AT X.ι)->Nat
 |[]=>0
 |q::l=>(if q.im then 1 else 0)+mR l
theorem iO:∀ (n:Nat) (l l':List (AT X.ι)) (a:fM X l) (b:fM X l'),bP n (l++l') (apA l l' a b)=bP n l a++bP (n+mR l) l' b
 |n,[],_,_,_=>rfl
 |n,.d c::l,l',a,b=>by simp[bP,apA,iO n l l' a.2 b,mR,AT.im]
 |n,.ref c::l,l',a,b=>by simp[bP,apA,iO n l l' a.2 b,mR,AT.im]
 |n,.clo as r::l,l',a,b=>by simp[bP,apA,iO n l l' a.2 b,mR,AT.im]
 |n,.mut c::l,l',a,b=>by simp[bP,apA,iO (n+1) l l' a.2 b,mR,AT.im,Nat.add_assoc]
 |n,.mref c::l,l',a,b=>by simp[bP,apA,iO (n+1) l l' a.2 b,mR,AT.im,Nat.add_assoc]
 |n,.nil::l,l',a,b=>by simp[bP,apA,iO n l l' a.2 b,mR,AT.im]
theorem Nq:∀ (n:Nat) (as:List (CT X.ι)) (h:HL X.toSE as),bP n (as.map AT.d) (hlA as h)=(HL.tvs X.toSE as h).map TV.av
 |_,[],_=>rfl
 |n,c::l,h=>congrArg ((CT.tv X.toSE c h.1).av:: ·) (Nq n l h.2)
def ais {a b:CT X.ι} (h:a=b) (o:Option (CT.T X.toSE a)):Option (CT.T X.toSE b):=h ▸ o
def iw (get:Nat->Option (DObj X)) (clof:FuncId->List (DV X)->List (DV X)->(as:List (CT X.ι))->(r:CT X.ι)->Option ((HL X.toSE as->Option (CT.T X.toSE r))×List Bool)):List (DV X)->(l:List (AT X.ι))->Option (fM X l×List Bool)
 |[],[]=>some ((),[])
 |d::ds,.d c::l=>(FH get d c).bind fun x=>(iw get clof ds l).bind fun h=>some ((x.1,h.1),x.2++h.2)
 |d::ds,.ref c::l=>(agb get d c).bind fun x=>(iw get clof ds l).bind fun h=>some ((x,h.1),h.2)
 |d::ds,.clo as r::l=>(match d with
  | .clo as' r' φ=>if h:as'=as∧r'=r then some (fun x=>ais h.2 (φ (h.1 ▸ x)),[])else none
  | .fn f first caps=>clof f first caps as r
  |_=>none).bind fun φ=>(iw get clof ds l).bind fun q=>some ((φ.1,q.1),φ.2++q.2)
 |_,_=>none
def OZ (Γ:FuncId->Option (Sig X)) (get:Nat->Option (DObj X)):Nat->List (DV X)->(l:List (AT X.ι))->Option (fM X l×List Bool)
 | 0,ds,l=>iw get (fun _ _ _ _ _=>none) ds l
 |n+1,ds,l=>iw get (fun f first caps as r=>(Γ f).bind fun s=>match s with
   |⟨sa,[.d r'],fn,_⟩=>
    if h:r'=r∧sa=sa.take first.length++(as.map AT.d++sa.drop (first.length+as.length))then
     (OZ Γ get n first (sa.take first.length)).bind fun hf=>(OZ Γ get n caps (sa.drop (first.length+as.length))).bind fun hc=>
      some (fun x=>ais h.1 (fn (h.2 ▸ apA _ _ hf.1 (apA _ _ (hlA as x) hc.1))),hf.2++hc.2)
    else none
   |_=>none) ds l
section
variable {P:Program} {Γ:FuncId->Option (Sig X)} {get:Nat->Option (DObj X)} {rd:List Nat}
theorem dX {a b:List Prop} (h:∀ p∈a,p) (h':∀ p∈b,p):∀ p∈a++b,p:=fun p hp=>(mem_append.1 hp).elim (h p) (h' p)
theorem Gr {d:DV X} {c:CT X.ι} {x:CT.T X.toSE c×List Bool} (h:OY get d c=some x) (hc:∀ b∈x.2,b=true) (hrd:∀ j∈drefs d,j∈rd):∃ hs obs,(∀ p∈obs,p)∧∀ rest,kZ P (bM rd (dI get)) (den d) (hs++rest)=some ((CT.tv X.toSE c x.1).av,rest,obs):=by
 have base:∀ {d:DV X} {c:CT X.ι} {x:CT.T X.toSE c},I9 d c=some x->∃ hs obs,(∀ p∈obs,p)∧∀ rest,kZ P (bM rd (dI get)) (den d) (hs++rest)=some ((CT.tv X.toSE c x).av,rest,obs):=by
  intro d c x h;unfold I9 at h;split at h
  ·rw[(kG h).1];refine⟨[],[],by simp,fun rest=>?_⟩;simp only[nil_append,den];cases c<;>try rfl
   rename_i j;show kZ P _ (.agg ((X.row j x).map AV.t)) rest=_;have:∀ (l:List Tree) (hs:List LH),jM P (bM rd (dI get)) (l.map AV.t) hs=some (l.map AV.t,hs,[]):=by
    intro l
    induction l with
    |nil=>intro hs;rfl
    |cons y ys ih=>intro hs;simp only[map_cons,jM,kZ,bind_some,ih,nil_append]
   simp only[kZ,this,bind_some];rfl
  ·injection h with h;subst h;exact⟨[.emp],[],by simp,fun rest=>rfl⟩
  ·injection h with h;subst h;exact⟨[.emp],[],by simp,fun rest=>rfl⟩
  ·cases h
 unfold OY at h;split at h
 ·rename_i kk off len e;rw[ai]at h;obtain⟨o,h1,h⟩:=h;split at h
  ·rename_i b l0;rw[ai]at h;obtain⟨l,h2,h⟩:=h;injection h with h;subst h;have h3:(sub l off len).length=len:=(by simpa[eqL]using hc (eqL (sub l off len).length len) (by simp));obtain⟨h4,h5⟩:=iH h2;refine⟨[.rows ((sub l off len).map (CT.row X.toSE e))],[(((aY (.lst b l0):aP).rows.drop off).take len=aK ((sub l off len).map (CT.row X.toSE e))∧((sub l off len).map (CT.row X.toSE e)).length=len)],?_,fun rest=>?_⟩
   ·intro p hp;simp only[mem_singleton]at hp;subst hp;refine⟨?_,by simpa using h3⟩;simp only[aY,h5];simp[aK,sub,map_take,map_drop]
   ·simp only[cons_append,nil_append,den,kZ,dH (hrd kk (by simp[drefs])) h1,bind_some];rfl
  ·cases h
 ·rename_i kk off len;rw[ai]at h;obtain⟨o,h1,h⟩:=h;split at h
  ·rename_i b l0;injection h with h;subst h;have h3:(sub l0 off len).length=len:=(by simpa[eqL]using hc (eqL (sub l0 off len).length len) (by simp));refine⟨[.rows ((sub l0 off len).map (CT.row X.toSE b))],[(((aY (.lst b l0):aP).rows.drop off).take len=aK ((sub l0 off len).map (CT.row X.toSE b))∧((sub l0 off len).map (CT.row X.toSE b)).length=len)],?_,fun rest=>?_⟩
   ·intro p hp;simp only[mem_singleton]at hp;subst hp;refine⟨?_,by simpa using h3⟩;simp only[aY];simp[aK,sub,map_take,map_drop]
   ·simp only[cons_append,nil_append,den,kZ,dH (hrd kk (by simp[drefs])) h1,bind_some];rfl
  ·cases h
 ·rw[ai]at h;obtain⟨y,h1,h⟩:=h;injection h with h;subst h;exact base h1
theorem Lg:∀ {ds:List (DV X)} {l:List (CT X.ι)} {h:HL X.toSE l×List Bool},vX get ds l=some h->(∀ b∈h.2,b=true)->l.all CT.one=true->(∀ j∈aL ds,j∈rd)->
 ∃ hs obs,(∀ p∈obs,p)∧∀ rest,jM P (bM rd (dI get)) (aW ds) (hs++rest)=some ((HL.row X.toSE l h.1).map AV.t,rest,obs)
 |[],[],h,_,_,_,_=>⟨[],[],by simp,fun rest=>rfl⟩
 |d::ds,c::l,h,hr,hc,ha,hrd=>by
  simp only[vX]at hr;rw[ai]at hr;obtain⟨x,h1,hr⟩:=hr;rw[ai]at hr;obtain⟨g,h2,hr⟩:=hr;injection hr with hr;subst hr;simp only[all_cons,and_eq_true]at ha;obtain⟨hs1,o1,p1,q1⟩:=Gr (P:=P) (rd:=rd) h1 (fun b hb=>hc b (by simp[hb])) (fun j hj=>hrd j (by simp[aL,hj]));obtain⟨hs2,o2,p2,q2⟩:=Lg h2 (fun b hb=>hc b (by simp[hb])) ha.2 (fun j hj=>hrd j (by simp[aL,hj]));refine⟨hs1++hs2,o1++o2,dX p1 p2,fun rest=>?_⟩;simp only[aW,jM,append_assoc,q1,bind_some,q2];show _=some ((CT.row X.toSE c x.1++HL.row X.toSE l g.1).map AV.t,rest,o1++o2);rw[map_append,<- XH ha.1 x.1];rfl
 |[],_::_,_,hr,_,_,_=>by simp[vX]at hr
 |_::_,[],_,hr,_,_,_=>by simp[vX]at hr
theorem AB {d:DV X} {c:CT X.ι} {x:CT.T X.toSE c×List Bool} (h:FH get d c=some x) (hc:∀ b∈x.2,b=true) (hrd:∀ j∈drefs d,j∈rd):∃ hs obs,(∀ p∈obs,p)∧∀ rest,kZ P (bM rd (dI get)) (den d) (hs++rest)=some ((CT.tv X.toSE c x.1).av,rest,obs):=by
 cases c
 case st i=>
  replace h:V3 get d i=some x:=h
  cases d
  case agg cs=>
   simp only[V3]at h;rw[ai]at h;obtain⟨g,h1,h⟩:=h;injection h with h;subst h;obtain⟨hs,obs,p1,q1⟩:=Lg (P:=P) (rd:=rd) h1 hc (X.flat i) (fun j hj=>hrd j (by simpa[drefs]using hj));refine⟨hs,obs,p1,fun rest=>?_⟩;simp only[den,kZ,q1,bind_some,CT.tv,TV.av];rw[X.row_make]
  case c a y=>exact Gr (c:= .st i) (x:=x) (by unfold OY;exact h) hc hrd
  all_goals cases h
 all_goals exact Gr h hc hrd
theorem Zx {d:DV X} {c:CT X.ι} {x:CT.T X.toSE c} (h:agb get d c=some x) (hrd:∀ j∈drefs d,j∈rd):∃ hs obs,(∀ p∈obs,p)∧∀ rest,kZ P (bM rd (dI get)) (den d) (hs++rest)=some (.rptr (CT.row X.toSE c x) 0,rest,obs):=by
 unfold agb at h;split at h
 ·rename_i kk row;rw[ai]at h;obtain⟨o,h1,h⟩:=h;split at h
  ·rename_i sz rows;rw[ai]at h;obtain⟨q,h2,h⟩:=h;split at h
   ·rename_i hq;refine⟨[.row (CT.row X.toSE c x)],[(aY (.cells sz rows):aP).rows[row]? =some ((CT.row X.toSE c x).map AV.t)],?_,fun rest=>?_⟩
    ·intro p hp;simp only[mem_singleton]at hp;subst hp;simp only[aY,List.getElem?_map,h2,Option.map_some];rw[<- yx h,kz,map_map];congr 1;refine map_congr_left fun y hy=>?_;have:=all_eq_true.1 hq y hy;cases y<;>first |exact (air _).symm |simp at this
    ·simp only[cons_append,nil_append,den,kZ,dH (hrd kk (by simp[drefs])) h1,bind_some]
   ·cases h
  ·cases h
 ·rename_i a y;refine⟨[],[],by simp,fun rest=>?_⟩;simp only[den,(kG h).2];rfl
 ·cases h
theorem ab1 {n:Nat} {l l':List (AT X.ι)} (e:l=l') (b:fM X l):bP n l' (e ▸ b)=bP n l b:=by subst e;rfl
theorem CG {clof:FuncId->List (DV X)->List (DV X)->(as:List (CT X.ι))->(r:CT X.ι)->Option ((HL X.toSE as->Option (CT.T X.toSE r))×List Bool)}:∀ {ds:List (DV X)} {l:List (AT X.ι)} {a:fM X l×List Bool},iw get clof ds l=some a->(l.all fun q=>!q.im)=true
 |[],[],_,_=>rfl
 |d::ds,.d c::l,a,h=>by
  simp only[iw]at h;rw[ai]at h;obtain⟨x,h1,h⟩:=h;rw[ai]at h;obtain⟨q,h2,h⟩:=h;simpa[AT.im]using CG h2
 |d::ds,.ref c::l,a,h=>by
  simp only[iw]at h;rw[ai]at h;obtain⟨x,h1,h⟩:=h;rw[ai]at h;obtain⟨q,h2,h⟩:=h;simpa[AT.im]using CG h2
 |d::ds,.clo as r::l,a,h=>by
  simp only[iw]at h;rw[ai]at h;obtain⟨x,h1,h⟩:=h;rw[ai]at h;obtain⟨q,h2,h⟩:=h;simpa[AT.im]using CG h2
 |_::_,.mut _::_,_,h=>by simp[iw]at h
 |_::_,.mref _::_,_,h=>by simp[iw]at h
 |_::_,.nil::_,_,h=>by simp[iw]at h
 |[],_::_,_,h=>by simp[iw]at h
 |_::_,[],_,h=>by simp[iw]at h
theorem Zy:∀ {n:Nat} {ds:List (DV X)} {l:List (AT X.ι)} {a:fM X l×List Bool},OZ Γ get n ds l=some a->(l.all fun q=>!q.im)=true
 | 0,_,_,_,h=>CG h
 |_+1,_,_,_,h=>CG h
theorem XQ:∀ as:List (CT X.ι),((as.map AT.d).all fun q=>!q.im)=true
 |[]=>rfl
 |_::l=>XQ l
def ai8 (P:Program) (get:Nat->Option (DObj X)) (clof:FuncId->List (DV X)->List (DV X)->(as:List (CT X.ι))->(r:CT X.ι)->Option ((HL X.toSE as->Option (CT.T X.toSE r))×List Bool)):Prop:=
 ∀ f first caps as r φ rd,clof f first caps as r=some φ->(∀ b∈φ.2,b=true)->(∀ j∈aL first++aL caps,j∈rd)->∃ hs obs,(∀ p∈obs,p)∧∀ rest,kZ P (bM rd (dI get)) (.fn f (aW first) (aW caps)) (hs++rest)=some (den (.clo as r φ.1:DV X),rest,obs)
theorem pK {n:Nat} {clof:FuncId->List (DV X)->List (DV X)->(as:List (CT X.ι))->(r:CT X.ι)->Option ((HL X.toSE as->Option (CT.T X.toSE r))×List Bool)} (hclo:ai8 P get clof):∀ {ds:List (DV X)} {l:List (AT X.ι)} {a:fM X l×List Bool},iw get clof ds l=some a->(∀ b∈a.2,b=true)->(∀ j∈aL ds,j∈rd)->
 ∃ hs obs,(∀ p∈obs,p)∧∀ rest,jM P (bM rd (dI get)) (aW ds) (hs++rest)=some (bP n l a.1,rest,obs)
 |[],[],_,_,_,_=>⟨[],[],by simp,fun rest=>rfl⟩
 |d::ds,.d c::l,a,h,hc,hrd=>by
  simp only[iw]at h;rw[ai]at h;obtain⟨x,h1,h⟩:=h;rw[ai]at h;obtain⟨q,h2,h⟩:=h;injection h with h;subst h;obtain⟨hs1,o1,p1,q1⟩:=AB (P:=P) (rd:=rd) h1 (fun b hb=>hc b (by simp[hb])) (fun j hj=>hrd j (by simp[aL,hj]));obtain⟨hs2,o2,p2,q2⟩:=pK (n:=n) hclo h2 (fun b hb=>hc b (by simp[hb])) (fun j hj=>hrd j (by simp[aL,hj]));refine⟨hs1++hs2,o1++o2,dX p1 p2,fun rest=>?_⟩;simp only[aW,jM,append_assoc,q1,bind_some,q2,bP]
 |d::ds,.ref c::l,a,h,hc,hrd=>by
  simp only[iw]at h;rw[ai]at h;obtain⟨x,h1,h⟩:=h;rw[ai]at h;obtain⟨q,h2,h⟩:=h;injection h with h;subst h;obtain⟨hs1,o1,p1,q1⟩:=Zx (P:=P) (rd:=rd) h1 (fun j hj=>hrd j (by simp[aL,hj]));obtain⟨hs2,o2,p2,q2⟩:=pK (n:=n) hclo h2 hc (fun j hj=>hrd j (by simp[aL,hj]));refine⟨hs1++hs2,o1++o2,dX p1 p2,fun rest=>?_⟩;simp only[aW,jM,append_assoc,q1,bind_some,q2,bP]
 |d::ds,.clo as r::l,a,h,hc,hrd=>by
  simp only[iw]at h;rw[ai]at h;obtain⟨φ,h1,h⟩:=h;rw[ai]at h;obtain⟨q,h2,h⟩:=h;injection h with h;subst h;have hd:∃ hs obs,(∀ p∈obs,p)∧∀ rest,kZ P (bM rd (dI get)) (den d) (hs++rest)=some (den (.clo as r φ.1:DV X),rest,obs):=by
   cases d
   case clo as' r' ψ=>
    simp only at h1;split at h1
    ·rename_i e;obtain⟨rfl,rfl⟩:=e;injection h1 with h1;subst h1;exact⟨[],[],by simp,fun rest=>rfl⟩
    ·cases h1
   case fn f first caps=>
    obtain⟨hs,obs,g1,g2⟩:=hclo f first caps as r φ rd h1 (fun b hb=>hc b (by simp[hb])) (fun j hj=>hrd j (by simp only[aL,drefs,mem_append]at hj ⊢;exact .inl hj))
    exact⟨hs,obs,g1,fun rest=>by simp only[den];exact g2 rest⟩
   all_goals simp at h1
  obtain⟨hs1,o1,p1,q1⟩:=hd;obtain⟨hs2,o2,p2,q2⟩:=pK (n:=n) hclo h2 (fun b hb=>hc b (by simp[hb])) (fun j hj=>hrd j (by simp[aL,hj]));refine⟨hs1++hs2,o1++o2,dX p1 p2,fun rest=>?_⟩;simp only[aW,jM,append_assoc,q1,bind_some,q2,bP]
 |_::_,.mut _::_,_,h,_,_=>by simp[iw]at h
 |_::_,.mref _::_,_,h,_,_=>by simp[iw]at h
 |_::_,.nil::_,_,h,_,_=>by simp[iw]at h
 |[],_::_,_,h,_,_=>by simp[iw]at h
 |_::_,[],_,h,_,_=>by simp[iw]at h
theorem oK (hΓ:GOk P Γ):∀ (m:Nat) {n:Nat} {ds:List (DV X)} {l:List (AT X.ι)} {a:fM X l×List Bool} {rd:List Nat},OZ Γ get m ds l=some a->(∀ b∈a.2,b=true)->(∀ j∈aL ds,j∈rd)->
 ∃ hs obs,(∀ p∈obs,p)∧∀ rest,jM P (bM rd (dI get)) (aW ds) (hs++rest)=some (bP n l a.1,rest,obs)
 | 0,n,ds,l,a,rd,h,hcs,hrd=>pK (fun _ _ _ _ _ _ _ h=>by cases h) h hcs hrd
 |m+1,n,ds,l,a,rd,h,hcs,hrd=>by
  refine pK (fun f first caps as r φ rd' hc hb hrd'=>?_) h hcs hrd;rw[ai]at hc;obtain⟨s,h1,hc⟩:=hc;split at hc
  ·rename_i sa r' fn _;split at hc
   ·rename_i e;obtain⟨rfl,e2⟩:=e;rw[ai]at hc;obtain⟨hf,h2,hc⟩:=hc;rw[ai]at hc;obtain⟨hcap,h3,hc⟩:=hc;injection hc with hc;rw[<- hc]at hb;obtain⟨g1,g2,_⟩:=hΓ f _ h1;obtain⟨hs1,o1,p1,q1⟩:=oK hΓ m h2 (n:=0) (rd:=rd') (fun b hb'=>hb b (by simp[hb'])) (fun j hj=>hrd' j (by simp[hj]));obtain⟨hs2,o2,p2,q2⟩:=oK hΓ m h3 (n:=0+mR (sa.take first.length)+mR (as.map AT.d)) (rd:=rd') (fun b hb'=>hb b (by simp[hb'])) (fun j hj=>hrd' j (by simp[hj]));refine⟨.clo (fun ts u=>∃ h x,φ.1 h=some x∧ts=HL.tvs X.toSE as h∧u=CT.tv X.toSE r' x)::(hs1++hs2),o1++(o2++[iL P f∧∀ args r,(∃ h x,φ.1 h=some x∧args=HL.tvs X.toSE as h∧r=CT.tv X.toSE r' x)->FnP P f (bP 0 _ hf.1++args.map TV.av++bP (0+mR (sa.take first.length)+mR (as.map AT.d)) _ hcap.1) (.one (.d r))]),?_,fun rest=>?_⟩
    ·intro p hp;simp only[mem_append,mem_singleton]at hp;rcases hp with hp |hp |hp
     ·exact p1 p hp
     ·exact p2 p hp
     ·subst hp;refine⟨g1,?_⟩;rintro args r ⟨x,y,hxy,rfl,rfl⟩;rw[<- hc]at hxy;have hxy':fn (e2 ▸ apA _ _ hf.1 (apA _ _ (hlA as x) hcap.1))=some y:=hxy;have:=g2 _ _ hxy';have hnm:(sa.all fun q=>!q.im)=true:=(by rw[e2,List.all_append,List.all_append,Zy h2,Zy h3,XQ];rfl);rw[yM hnm,yL,ab1 e2.symm,iO,iO,Nq,<- append_assoc]at this;exact RD this
    ·simp only[cons_append,append_assoc,kZ,q1,bind_some,q2];rfl
   ·cases hc
  ·cases hc
end
end
def V4 (s:ByteArray) (n:Int):Option Int:=bif decide (0<=n)then (s[n.toNat]?).map fun b=>(b.toNat:Int)else none
def Lh (m:Int) (bytes:Nat):Bool:=decide (0<=m)&&decide (m.toNat*bytes<=140737488355328)&&decide (m.toNat<=maxLen)
def jN {K V:Type} (eq:K->K->Bool) (k:K):List (K×V)->Option V
 |[]=>none
 |p::r=>bif eq k p.1 then some p.2 else jN eq k r
def nk {K V:Type} (eq:K->K->Bool) (k:K) (v:V):List (K×V)->List (K×V)
 |[]=>[(k,v)]
 |p::r=>bif eq k p.1 then (k,v)::r else p::nk eq k v r
def iEq (a b:Int):Bool:=a==b
def sEq (a b:ByteArray):Bool:=a.toList==b.toList
section
variable {X:SX} {A:Type}
def FI:(c:CT X.ι)->Option (CT.T X.toSE c->CT.T X.toSE c->Bool)
 | .int _=>some iEq
 | .str=>some sEq
 |_=>none
def aex {ι:Type}:TyK->CT ι->Bool
 | .int a,.int b=>decide (a=b)
 | .str,.str=>true
 |_,_=>false
def ai9 {ι:Type}:CT ι->Bool
 | .st _=>true
 |_=>false
theorem eU (a b:List (DV X)):aW (a++b)=aW a++aW b:=by simp[kz]
theorem oL (a b:List (Nat×Option (DObj X))):eZ (a++b)=eZ a++eZ b:=by simp[eZ]
def Li (ids:List Nat):List (Nat×Option (DObj X)):=ids.map fun j=>(j,none)
theorem CJ (ids:List Nat):eZ (Li (X:=X) ids)=ids.map fun k=>(k,none):=by simp[eZ,Li]
theorem Io {ids:List Nat} {p:Nat×Option (DObj X)} (h:p∈Li ids):p.1∈ids:=by
 simp only[Li,mem_map]at h;obtain⟨j,hj,rfl⟩:=h;exact hj
variable (T:Tab) (code:TypeId->Option (CT X.ι))
def ab2:DV X->Bool
 | .nil=>true
 |_=>false
def agc (op:BinOp) (b:DV X) (yes:Bool) (k:KK X A):Option A:=
 match op with
 | .eql=>bif yes then k b [] [] []else k (.c .bool false) [] [] []
 | .neq=>bif yes then k b [] [] []else k (.c .bool true) [] [] []
 |_=>none
def aiK (op:BinOp) (t:TypeId) (x:DV X) (k:KK X A):Option A:=
 (T t).bind fun ti=>match ti.k,x with
 | .slice _,.c (.sl _) l=>agc op .ub (List.isEmpty l) k
 | .slice _,.own _ _ len=>agc op .ub (len==0) k
 | .slice _,.nil=>agc op (.c .bool (op== .eql)) true k
 |_,_=>none
def ait (s d:TypeId) (x:DV X) (k:KK X A):Option A:=
 (T s).bind fun _=>(T d).bind fun di=>match di.k,x with
 | .int kd,.c (.int _) n=>k (.c (.int kd) (kd.wrap (iN n))) [] [] []
 |_,_=>none
def agd (t:TypeId) (x j:DV X) (k:KK X A):Option A:=
 (T t).bind fun ti=>match ti.k,x,j with
 | .str,.c .str s,.c (.int _) n=>(V4 s n).bind fun b=>k (.c (.int .u8) b) [] [] []
 |_,_,_=>none
def V5 (t:TypeId) (x:DV X) (lo hi:Option (DV X)) (k:KK X A):Option A:=
 (T t).bind fun ti=>match ti.k,x with
 | .slice e,.nil=>(T e).bind fun _=>(Zo 0 lo).bind fun l=>(Zo 0 hi).bind fun h=>bif decide (l=0)&&decide (h=0)then k .nil [] [] []else none
 |_,_=>none
def Nr (i:Nat) (b:Builtin) (args:List (DV X)) (tys:List TypeId) (get:Nat->Option (DObj X)) (k:KK X A):Option A:=
 match b,args,tys with
 | .cap,[.nil],[t]=>(T t).bind fun ti=>match ti.k with
  | .slice _=>k (.c (.int .i64) (0:Int)) [] [] []
  |_=>none
 | .clear,[.own kk off _],[t]=>(T t).bind fun ti=>match ti.k with
  | .slice e=>(T e).bind fun ei=>(get kk).bind fun o=>match o with
   | .lst c l=>if CT.sz X c=ei.size then k (.tup []) [(kk,some (.lst c (l.take off)))] [kk] [kk]else none
   |_=>none
  |_=>none
 | .append,[.nil,.c (.int _) m],[t,u]=>(T t).bind fun ti=>(T u).bind fun ui=>match ti.k,ui.k with
  | .slice e,.int _=>(T e).bind fun ei=>(code e).bind fun c=>if CT.sz X c=ei.size∧0 < ei.size then (Ld c (ei.zero.map cvD)).bind fun z=>
   bif Lh (iN m) ei.bytes then k (.own (nid i) 0 m.toNat) [(nid i,some (.lst c (List.replicate m.toNat z)))] [] []else none else none
  |_,_=>none
 |_,_,_=>none
def Ns (x:DV X) (k:KK X A):Option A:=
 match x with
 | .ptr kk r f=>k (.ptr kk r f) [] [] []
 | .ptl kk n f=>k (.ptl kk n f) [] [] []
 | .pta kk r f m n=>k (.pta kk r f m n) [] [] []
 | .rp c y f=>k (.rp c y f) [] [] []
 |_=>none
def agf (i:Nat) (t:TypeId) (l c:DV X) (k:KK X A):Option A:=
 (T t).bind fun ti=>match ti.k,l,c with
 | .slice e,.c (.int _) n,.c (.int _) m=>(T e).bind fun ei=>(code e).bind fun c=>if CT.sz X c=ei.size∧0 < ei.size then (Ld c (ei.zero.map cvD)).bind fun z=>
  bif decide (iN n<=iN m)&&(decide (0<=iN n)&&Lh (iN m) ei.bytes)then k (.own (nid i) 0 n.toNat) [(nid i,some (.lst c (List.replicate n.toNat z)))] [] []else none else none
 |_,_,_=>none
def R3 (i:Nat) (t:TypeId) (k:KK X A):Option A:=
 (T t).bind fun ti=>match ti.k with
 | .map kt et=>(code kt).bind fun kc=>(code et).bind fun vc=>k (.mp (nid i)) [(nid i,some (.map kc vc []))] [] []
 |_=>none
def XR (t:TypeId) (x key:DV X) (ok:Bool) (get:Nat->Option (DObj X)) (k:KK X A):Option A:=
 (T t).bind fun ti=>match ti.k,x with
 | .map kt et,.mp kk=>(T kt).bind fun ki=>(T et).bind fun ei=>(get kk).bind fun o=>match o with
  | .map kc vc l=>(FI kc).bind fun eq=>(I9 key kc).bind fun kv=>if aex ki.k kc=true∧ei.agg=ai9 vc∧ei.size=CT.sz X vc then (Ld vc (ei.zero.map cvD)).bind fun z=>
   bif ok then k (.tup [.c vc ((jN eq kv l).getD z),.c .bool (jN eq kv l).isSome]) [] [kk] []else k (.c vc ((jN eq kv l).getD z)) [] [kk] []else none
  |_=>none
 |_,_=>none
def XT (t:TypeId) (x key y:DV X) (get:Nat->Option (DObj X)) (k:KK X A):Option A:=
 (T t).bind fun ti=>match ti.k,x with
 | .map kt _,.mp kk=>(T kt).bind fun ki=>(get kk).bind fun o=>match o with
  | .map kc vc l=>(FI kc).bind fun eq=>(I9 key kc).bind fun kv=>(dat y vc).bind fun v=>if aex ki.k kc=true then k .undef [(kk,some (.map kc vc (nk eq kv v l)))] [kk] [kk]else none
  |_=>none
 |_,_=>none
def aja (o:Op) (ρ:Operand->DV X):Bool:=
 match o with
 | .binOp _ _ _ y _=>ab2 (ρ y)
 | .convert _ _ _=>true
 | .index _ _ _=>true
 | .nilCheck _=>true
 | .makeSlice _ _ _=>true
 | .makeMap _ none=>true
 | .lookup _ _ _ _=>true
 | .mapUpdate _ _ _ _=>true
 | .slice _ x _ _ none=>ab2 (ρ x)
 | .call { callee:= .builtin b,args:=args,argTypes:=_ }=>match b,args.toList.map ρ with
  | .cap,_=>true
  | .clear,_=>true
  | .append,[_,.c (.int _) _]=>true
  |_,_=>false
 |_=>false
def aiL (i:Nat) (o:Op) (ρ:Operand->DV X) (get:Nat->Option (DObj X)) (k:KK X A):Option A:=
 match o with
 | .binOp op t x y _=>if ab2 (ρ y)then aiK T op t (ρ x) k else none
 | .convert s d x=>ait T s d (ρ x) k
 | .index t x j=>agd T t (ρ x) (ρ j) k
 | .slice t x lo hi none=>V5 T t (ρ x) (lo.map ρ) (hi.map ρ) k
 | .nilCheck x=>Ns (ρ x) k
 | .makeSlice t l c=>agf T code i t (ρ l) (ρ c) k
 | .makeMap t none=>R3 T code i t k
 | .lookup t m x ok=>XR T t (ρ m) (ρ x) ok get k
 | .mapUpdate t m x v=>XT T t (ρ m) (ρ x) (ρ v) get k
 | .call { callee:= .builtin b,args:=args,argTypes:=tys }=>Nr T code i b (args.toList.map ρ) tys.toList get k
 |_=>none
def agh (get:Nat->Option (DObj X)) (c:CT X.ι) (ρ:Operand->DV X) (x:Operand):DV X:=
 match FH get (ρ x) c with
 |some y=> .c c y.1
 |none=>ρ x
def ahM (get:Nat->Option (DObj X)) (c:CT X.ι) (ρ:Operand->DV X):List Operand->List Bool
 |[]=>[]
 |x::xs=>(match FH get (ρ x) c with |some y=>y.2 |none=>[])++ahM get c ρ xs
def Zz (get:Nat->Option (DObj X)) (c:CT X.ι) (ρ:Operand->DV X):List Operand->List Nat
 |[]=>[]
 |x::xs=>(match FH get (ρ x) c with |some _=>drefs (ρ x) |none=>[])++Zz get c ρ xs
def ahN (o:Op) (ρ:Operand->DV X) (get:Nat->Option (DObj X)):Option (CT X.ι):=
 match o with
 | .box t _=>code t
 | .assign x | .move x=>match ρ x with
  | .own kk _ _=>(get kk).bind fun o=>match o with
   | .lst c _=>some (.sl c)
   |_=>none
  |_=>none
 | .buildSlice t _ _=>(T t).bind fun ti=>match ti.k with
  | .slice e=>code e
  |_=>none
 | .store t _ _=>code t
 |_=>none
def ajb (o:Op) (ρ:Operand->DV X):Bool:=
 match o with
 | .buildSlice _ _ parts=>!(aL (parts.toList.map fun p=>ρ p.2)).isEmpty
 | .store _ a x=>match ρ a with
  | .ptl _ _ _=>!(drefs (ρ x)).isEmpty
  |_=>false
 |_=>false
def aiM (i:Nat) (o:Op) (ρ:Operand->DV X) (get:Nat->Option (DObj X)) (k:KK X A):Option A:=
 if abJ o then none else (ahN T code o ρ get).bind fun c=>RH (ahM get c ρ o.operands.toList)
  (opD T code i o (agh get c ρ) (fun j=>if j∈Zz get c ρ o.operands.toList then none else get j) fun dv upd rd wr=>
   k dv (upd++Li (Zz get c ρ o.operands.toList)) (rd++Zz get c ρ o.operands.toList) (wr++Zz get c ρ o.operands.toList))
def ajc (o:Op) (ρ:Operand->DV X):Bool:=
 match o with
 | .indexAddr t x (.tmp _)=>match ρ x,T t with
  | .ptr _ _ _,some ti=>match ti.k with
   | .arr _ e=>match T e with
    |some ei=>ei.size==1
    |none=>false
   |_=>false
  |_,_=>false
 | .load _ a=>match ρ a with
  | .pta _ _ _ _ _=>true
  |_=>false
 |_=>false
def CK (c:CT X.ι):List (DV X)->Option (List (CT.T X.toSE c))
 |[]=>some []
 | .c a x::r=>(iq a c x).bind fun y=>(CK c r).bind fun l=>some (y::l)
 |_=>none
def aiN (o:Op) (ρ:Operand->DV X) (get:Nat->Option (DObj X)) (k:KK X A):Option A:=
 match o with
 | .indexAddr t x j=>(T t).bind fun ti=>match ti.k,ρ x,ρ j with
  | .arr m e,.ptr kk row off,.c (.int _) n=>(T e).bind fun ei=>if ei.size=1 then bif inb n m then k (.pta kk row off m n) [] [] []else none else none
  |_,_,_=>none
 | .load t a=>(T t).bind fun ti=>match ρ a with
  | .pta kk row off m n=>if ti.size=1∧ti.agg=false then (code t).bind fun c=>if c.one=true then (get kk).bind fun o=>match o with
   | .cells _ rows=>(rows[row]?).bind fun q=>(CK c ((q.drop off).take m)).bind fun (xs:List (CT.T X.toSE c))=>(at? xs n).bind fun y=>k (.c c y) [] [kk] []
   |_=>none
   else none else none
  |_=>none
 |_=>none
variable {T code}
def SdAny (P:Program) (T:Tab) (i:Nat) (o:Oper) (ρ:Operand->DV X) (get:Nat->Option (DObj X)) (k:KK X A) (r:A):Prop:=
 ∃ orc rd wr dv upd out,gB P T i o orc (fun x=>den (ρ x)) (bM rd (dI get))=some out∧ic out.obs∧out.v=den dv∧out.upd=eZ upd∧(∀ p∈upd,p.1=nid i∨p.1∈wr)∧k dv upd rd wr=some r
section
variable {P:Program} {get:Nat->Option (DObj X)} {k:KK X A} {r:A} {i:Nat} {o:Oper} {ρ:Operand->DV X}
theorem agi {t:TypeId} {x:AV} {orc:Orc} (h:(∃ n,orc= .ext n)∨∃ ids fr q,orc= .frz ids fr q):Y1 T t x .none=Y1 T t x orc:=by
 unfold Y1;cases T t with
 |none=>rfl
 |some ti=>
  simp only[bind_some];generalize ti.k=kk;rcases h with ⟨n,rfl⟩ |⟨ids,fr,q,rfl⟩<;>cases kk<;>try rfl
  all_goals cases x<;>try rfl
  all_goals (rename_i y;cases y<;>try rfl)
  all_goals (rename_i y;cases y<;>rfl)
theorem R4 {t:TypeId} {x j:AV} {orc:Orc} {get:Nat->Option aP} (h:(∃ n,orc= .ext n)∨∃ ids fr q,orc= .frz ids fr q):jR T t x j .none get=jR T t x j orc get:=by
 unfold jR;cases T t with
 |none=>rfl
 |some ti=>
  simp only[bind_some];generalize ti.k=kk;cases kk<;>try rfl
  case arr m e=>
   cases j<;>try rfl
   rename_i y;cases y<;>try rfl
   rename_i y;cases y<;>rfl
  cases j<;>try rfl
  rename_i e y;cases y<;>try rfl
  rename_i y;cases y<;>try rfl
  simp only;cases T e with
  |none=>rfl
  |some ei=>
   simp only[bind_some];rcases h with ⟨n,rfl⟩ |⟨ids,fr,q,rfl⟩<;>cases x<;>try rfl
   all_goals (rename_i z;cases z<;>rfl)
theorem ZA {t:TypeId} {x y:AV} {orc:Orc} {get:Nat->Option aP} (h:(∃ n,orc= .ext n)∨∃ ids fr q,orc= .frz ids fr q):Aw T i t x y .none get=Aw T i t x y orc get:=by
 unfold Aw;rcases h with ⟨n,rfl⟩ |⟨ids,fr,q,rfl⟩<;>rfl
theorem aey {orc:Orc} {ρ:Operand->AV} {get:Nat->Option aP} (h:(∃ n,orc= .ext n)∨∃ ids fr q,orc= .frz ids fr q):oI T i o .none ρ get=oI T i o orc ρ get:=by
 obtain⟨dst,op,ty,pos,after,guard⟩:=o;cases op
 case call c=>
  obtain⟨callee,args,tys⟩:=c;cases callee<;>try rfl
  rename_i b;simp only[oI,Cz];split
  ·exact agi h
  ·rfl
  ·rfl
  ·rw[ZA h]
  ·rfl
 case slice t x lo hi mx=>cases mx<;>rcases h with ⟨n,rfl⟩ |⟨ids,fr,q,rfl⟩<;>rfl
 case makeFunc fn a b=>cases fn<;>rfl
 case indexAddr t x j=>exact R4 h
 all_goals (rcases h with ⟨n,rfl⟩ |⟨ids,fr,q,rfl⟩<;>rfl)
theorem SdAny.ext {n:Int} {rd wr:List Nat} {dv:DV X} {upd:List (Nat×Option (DObj X))} {out:Out} (h:q9 T i o n (fun x=>den (ρ x)) (bM rd (dI get))=some out) (h1:ic out.obs) (h2:out.v=den dv) (h3:out.upd=eZ upd) (h4:∀ p∈upd,p.1=nid i∨p.1∈wr) (h5:k dv upd rd wr=some r) (hx:afU o.op=false:=by rfl):SdAny P T i o ρ get k r:=
 ⟨.ext n,rd,wr,dv,upd,out,by show pG T i o n _ _=some out;unfold pG;rw[hx];exact h,h1,h2,h3,h4,h5⟩
theorem SdAny.ext2 {n:Int} {rd wr:List Nat} {dv:DV X} {upd:List (Nat×Option (DObj X))} {out:Out} (h:Ec T i o n (fun x=>den (ρ x)) (bM rd (dI get))=some out) (h1:ic out.obs) (h2:out.v=den dv) (h3:out.upd=eZ upd) (h4:∀ p∈upd,p.1=nid i∨p.1∈wr) (h5:k dv upd rd wr=some r) (hx:afU o.op=true:=by rfl):SdAny P T i o ρ get k r:=
 ⟨.ext n,rd,wr,dv,upd,out,by show pG T i o n _ _=some out;unfold pG;rw[hx];exact h,h1,h2,h3,h4,h5⟩
theorem PO {x:DV X} (h:Ns x k=some r):∃ dv,Na (den x)=some ⟨den dv,[],[]⟩∧k dv [] [] []=some r:=by cases x<;>simp only[Ns]at h<;>first |cases h |exact⟨_,rfl,h⟩
theorem V6 {orc:Orc} {ρ:Operand->AV} {get:Nat->Option aP} (hne:∀ f args tys,o.op≠ .call { callee:= .value f,args:=args,argTypes:=tys }) (ho:∀ n,orc≠ .ext n) (hf:∀ ids fr q,orc≠ .frz ids fr q):gB P T i o orc ρ get=oI T i o orc ρ get:=by
 have e:∀ (α:Type) (a:Operand->Array Operand->Array TypeId->α) (b:α),(match o.op with | .call { callee:= .value f,args:=args,argTypes:=tys }=>a f args tys |_=>b)=b:=by
  intro α a b;split
  ·rename_i f args tys heq;exact (hne f args tys heq).elim
  ·rfl
 cases orc<;>first |exact (ho _ rfl).elim |exact (hf _ _ _ rfl).elim |exact e _ _ _
theorem SdAny.op {orc:Orc} {rd wr:List Nat} {dv:DV X} {upd:List (Nat×Option (DObj X))} {out:Out} (hne:∀ f args tys,o.op≠ .call { callee:= .value f,args:=args,argTypes:=tys })
 (h:oI T i o orc (fun x=>den (ρ x)) (bM rd (dI get))=some out) (h1:ic out.obs∧out.v=den dv∧out.upd=eZ upd∧(∀ p∈upd,p.1=nid i∨p.1∈wr)∧k dv upd rd wr=some r):SdAny P T i o ρ get k r:=by
 obtain⟨orc',h'⟩:∃ orc',gB P T i o orc' (fun x=>den (ρ x)) (bM rd (dI get))=some out:=by
  by_cases hx:(∃ n,orc= .ext n)∨∃ ids fr q,orc= .frz ids fr q
  ·refine⟨.none,?_⟩;rw[V6 hne (by simp) (by simp),aey hx,h]
  ·simp only[not_or,not_exists]at hx;exact⟨orc,by rw[V6 hne hx.1 (fun ids fr q=>hx.2 ids fr q),h]⟩
 exact⟨orc',rd,wr,dv,upd,out,h',h1⟩
theorem SdAny.call {dst:Option Tmp} {f:Operand} {args:Array Operand} {tys:Array TypeId} {ty:TypeId} {pos:String} {after:Array Edge} {guard:Option (Nat×Bool)} {orc:Orc} {rd wr:List Nat} {dv:DV X} {upd:List (Nat×Option (DObj X))} {out:Out}
 (h:ig P i (den (ρ f)) (args.toList.map fun x=>den (ρ x)) orc (bM rd (dI get))=some out) (h1:ic out.obs∧out.v=den dv∧out.upd=eZ upd∧(∀ p∈upd,p.1=nid i∨p.1∈wr)∧k dv upd rd wr=some r):
 SdAny P T i ⟨dst,.call { callee:= .value f,args:=args,argTypes:=tys },ty,pos,after,guard⟩ ρ get k r:=by
 refine⟨orc,rd,wr,dv,upd,out,?_,h1⟩;unfold gB;split
 ·unfold ig lq wZ at h;simp only at h;split at h<;>first |cases h |(rename_i e;cases e)
 ·unfold ig lq wZ at h;simp only at h;split at h<;>first |cases h |(rename_i e;cases e)
 ·exact h
theorem Nt {op:BinOp} {b:DV X} {yes:Bool} (h:agc op b yes k=some r):∃ dv out,aef op (den b) yes=some out∧ic out.obs∧out.v=den dv∧out.upd=[]∧k dv [] [] []=some r:=by
 unfold agc at h;split at h
 ·cases yes with
  |true=>exact⟨b,_,rfl,trivial,rfl,rfl,h⟩
  |false=>exact⟨.c .bool false,_,rfl,trivial,rfl,rfl,h⟩
 ·cases yes with
  |true=>exact⟨b,_,rfl,trivial,rfl,rfl,h⟩
  |false=>exact⟨.c .bool true,_,rfl,trivial,rfl,rfl,h⟩
 ·cases h
theorem ab3 {op:BinOp} {t:TypeId} {x:DV X} (h:aiK T op t x k=some r):∃ dv out,abI T op t (den x) .nilsl=some out∧ic out.obs∧out.v=den dv∧out.upd=[]∧k dv [] [] []=some r:=by
 unfold aiK at h;rw[ai]at h;obtain⟨ti,h1,h⟩:=h;split at h
 ·rename_i e c l hk;obtain⟨dv,out,g1,g2⟩:=Nt h;refine⟨dv,out,?_,g2⟩;simp only[abI,h1,bind_some,hk,den,CT.tv,TV.av];rw[<- g1];congr 1;cases l<;>rfl
 ·rename_i e kk off len hk;obtain⟨dv,out,g1,g2⟩:=Nt h;exact⟨dv,out,by simp only[abI,h1,bind_some,hk,den];exact g1,g2⟩
 ·rename_i e hk;obtain⟨dv,out,g1,g2⟩:=Nt h;exact⟨dv,out,by simp only[abI,h1,bind_some,hk,den];exact g1,g2⟩
 ·cases h
theorem ab4 {s:ByteArray} {n b:Int} (h:V4 s n=some b):0<=n∧∃ c,s[n.toNat]? =some c∧b=c.toNat:=by
 unfold V4 at h;by_cases hn:0<=n
 ·simp only[hn,decide_true,cond_true,Option.map_eq_some_iff]at h;obtain⟨c,h1,h2⟩:=h;exact⟨hn,c,h1,h2.symm⟩
 ·simp[hn]at h
theorem V7 {m:Int} {bytes:Nat} (h:Lh m bytes=true):0<=m∧m.toNat*bytes<=140737488355328∧m.toNat<=maxLen:=by simpa[Lh,and_assoc]using h
theorem PS {b:Builtin} {args:List (DV X)} {tys:List TypeId} (h:Nr T code i b args tys get k=some r):
 ∃ rd wr dv upd out,q8 T i b (aW args) tys (bM rd (dI get))=some out∧ic out.obs∧out.v=den dv∧out.upd=eZ upd∧(∀ p∈upd,p.1=nid i∨p.1∈wr)∧k dv upd rd wr=some r:=by
 unfold Nr at h;split at h
 ·rename_i t;rw[ai]at h;obtain⟨ti,h1,h⟩:=h;split at h
  ·rename_i e hk;refine⟨[],[],_,[],⟨.t (.sc (.int .i64 0)),[],[]⟩,?_,trivial,rfl,rfl,by simp,h⟩;simp only[q8,aW,den,h1,bind_some,hk];rfl
  ·cases h
 ·rename_i kk off len t;rw[ai]at h;obtain⟨ti,h1,h⟩:=h;split at h
  ·rename_i e hk;rw[ai]at h;obtain⟨ei,h2,h⟩:=h;rw[ai]at h;obtain⟨o,h3,h⟩:=h;split at h
   ·rename_i c l;split at h
    ·rename_i hs;refine⟨[kk],[kk],_,_,⟨.tup [],[(kk,some ⟨CT.sz X c,(aK (l.map (CT.row X.toSE c))).take off⟩)],[]⟩,?_,trivial,rfl,?_,by simp,h⟩
     ·simp only[q8,aW,den,h1,bind_some,hk,h2,dH (List.mem_singleton_self kk) h3,aY];rw[if_pos hs]
     ·simp[eZ,aY,aK,map_take]
    ·cases h
   ·cases h
  ·cases h
 ·rename_i kd m t u;rw[ai]at h;obtain⟨ti,h1,h⟩:=h;rw[ai]at h;obtain⟨ui,h2,h⟩:=h;split at h
  ·rename_i e kn hk hk';rw[ai]at h;obtain⟨ei,h3,h⟩:=h;rw[ai]at h;obtain⟨c,h4,h⟩:=h;split at h
   ·rename_i hs;rw[ai]at h;obtain⟨z,h5,h⟩:=h;obtain⟨h6,h⟩:=cond_some h;obtain⟨m1,m2,m3⟩:=V7 h6;have hz:=yx h5;rw[CB]at hz;refine⟨[],[],_,_,⟨.own (nid i) 0 m.toNat,[(nid i,some ⟨ei.size,bR (List.replicate m.toNat (ei.zero.map cv))⟩)],[0<=m∧m.toNat*ei.bytes<=140737488355328∧m.toNat<=maxLen∧0 < ei.size]⟩,?_,?_,rfl,?_,by simp,h⟩
    ·simp only[q8,aW,den,CT.tv,TV.av,h1,h2,h3,bind_some,hk,hk']
    ·exact⟨m1,m2,m3,hs.2⟩
    ·simp only[eZ,map_cons,map_nil,Option.map_some,aY,hs.1,aK,bR,List.map_replicate];rw[hz]
   ·cases h
  ·cases h
 ·cases h
theorem ZB {t:TypeId} {l c:DV X} (h:agf T code i t l c k=some r):∃ dv upd out,Za T i t (den l) (den c)=some out∧ic out.obs∧out.v=den dv∧out.upd=eZ upd∧(∀ p∈upd,p.1=nid i)∧k dv upd [] []=some r:=by
 unfold agf at h;rw[ai]at h;obtain⟨ti,h1,h⟩:=h;split at h
 ·rename_i e kl n kc m hk;rw[ai]at h;obtain⟨ei,h3,h⟩:=h;rw[ai]at h;obtain⟨c,h4,h⟩:=h;split at h
  ·rename_i hs;rw[ai]at h;obtain⟨z,h5,h⟩:=h;obtain⟨h6,h⟩:=cond_some h;simp only[and_eq_true,decide_eq_true_eq]at h6;obtain⟨h7,h8,h9⟩:=h6;obtain⟨m1,m2,m3⟩:=V7 h9;have hz:=yx h5;rw[CB]at hz;refine⟨_,_,⟨.own (nid i) 0 n.toNat,[(nid i,some ⟨ei.size,bR (List.replicate n.toNat (ei.zero.map cv))⟩)],[0<=n∧n<=m∧m.toNat*ei.bytes<=140737488355328∧m.toNat<=maxLen∧0 < ei.size]⟩,?_,?_,rfl,?_,by simp,h⟩
   ·simp only[Za,den,CT.tv,TV.av,h1,h3,bind_some,hk]
   ·exact⟨h8,h7,m2,m3,hs.2⟩
   ·simp only[eZ,map_cons,map_nil,Option.map_some,aY,hs.1,aK,bR,List.map_replicate];rw[hz]
  ·cases h
 ·cases h
theorem R5 {t:TypeId} (h:R3 T code i t k=some r):∃ dv upd out,Gj T i t=some out∧ic out.obs∧out.v=den dv∧out.upd=eZ upd∧(∀ p∈upd,p.1=nid i)∧k dv upd [] []=some r:=by
 unfold R3 at h;rw[ai]at h;obtain⟨ti,h1,h⟩:=h;split at h
 ·rename_i kt et hk;rw[ai]at h;obtain⟨kc,h2,h⟩:=h;rw[ai]at h;obtain⟨vc,h3,h⟩:=h;exact⟨_,_,⟨.mp (nid i),[(nid i,some ⟨0,[]⟩)],[]⟩,by simp only[Gj,h1,bind_some,hk],trivial,rfl,rfl,by simp,h⟩
 ·cases h
theorem agj {ki:TyI} {kc:CT X.ι} (h:aex ki.k kc=true) (x:CT.T X.toSE kc):∃ v,(CT.tv X.toSE kc x).av= .t (.sc v)∧K3 ki.k v=true:=by
 cases kc
 case int b=>
  refine⟨.int b x,rfl,?_⟩;cases hk:ki.k<;>rw[hk]at h<;>simp only[aex,decide_eq_true_eq,Bool.false_eq_true]at h;subst h;simp[K3]
 case str=>
  refine⟨.string x,rfl,?_⟩;cases hk:ki.k<;>rw[hk]at h<;>simp only[aex,Bool.false_eq_true]at h;rfl
 all_goals (cases hk:ki.k<;>rw[hk]at h<;>simp[aex]at h)
theorem ZC {kc:CT X.ι} {eq:CT.T X.toSE kc->CT.T X.toSE kc->Bool} (h:FI kc=some eq) {a b:CT.T X.toSE kc} {va:Value} (ha:(CT.tv X.toSE kc a).av= .t (.sc va)):∃ vb,(CT.tv X.toSE kc b).av= .t (.sc vb)∧Rj va vb=some (eq a b):=by
 cases kc
 case int q=>
  simp only[FI,Option.some.injEq]at h;subst h;simp only[CT.tv,TV.av,AV.t.injEq,Tree.sc.injEq]at ha;subst ha;exact⟨_,rfl,by simp[Rj,iEq]⟩
 case str=>
  simp only[FI,Option.some.injEq]at h;subst h;simp only[CT.tv,TV.av,AV.t.injEq,Tree.sc.injEq]at ha;subst ha;exact⟨_,rfl,by simp[Rj,sEq]⟩
 all_goals simp[FI]at h
theorem V8 {kc vc:CT X.ι} {eq:CT.T X.toSE kc->CT.T X.toSE kc->Bool} (h:FI kc=some eq) {a:CT.T X.toSE kc} {va:Value} (ha:(CT.tv X.toSE kc a).av= .t (.sc va)):∀ l:List (CT.T X.toSE kc×CT.T X.toSE vc),
 ∃ r,OI va (aY (.map kc vc l:DObj X)).rows=some r∧r.map (·.2)=(jN eq a l).map fun v=>(CT.tv X.toSE vc v).av
 |[]=>⟨none,rfl,rfl⟩
 |p::l=>by
  obtain⟨vb,h1,h2⟩:=ZC h (b:=p.1) ha;obtain⟨r,g1,g2⟩:=V8 h ha l;have g1':OI va (l.map fun p=>[(CT.tv X.toSE kc p.1).av,(CT.tv X.toSE vc p.2).av])=some r:=g1;simp only[aY,map_cons,h1,OI,h2,bind_some,jN];cases eq a p.1 with
  |true=>exact⟨_,rfl,rfl⟩
  |false=>
   simp only[Bool.false_eq_true,if_false,g1',Option.map_some,cond_false];exact⟨_,rfl,by rw[<- g2,Option.map_map];rfl⟩
theorem ZE {kc vc:CT X.ι} {eq:CT.T X.toSE kc->CT.T X.toSE kc->Bool} (h:FI kc=some eq) {a:CT.T X.toSE kc} {va:Value} (ha:(CT.tv X.toSE kc a).av= .t (.sc va)) (y:CT.T X.toSE vc):∀ l:List (CT.T X.toSE kc×CT.T X.toSE vc),
 Xx va (CT.tv X.toSE vc y).av (aY (.map kc vc l:DObj X)).rows=some (aY (.map kc vc (nk eq a y l):DObj X)).rows
 |[]=>by simp only[aY,map_nil,Xx,nk,map_cons,ha]
 |p::l=>by
  obtain⟨vb,h1,h2⟩:=ZC h (b:=p.1) ha;have g:=ZE h ha y l;have g':Xx va (CT.tv X.toSE vc y).av (l.map fun p=>[(CT.tv X.toSE kc p.1).av,(CT.tv X.toSE vc p.2).av])=some ((nk eq a y l).map fun p=>[(CT.tv X.toSE kc p.1).av,(CT.tv X.toSE vc p.2).av]):=g;simp only[aY,map_cons,h1,Xx,h2,bind_some,nk];cases eq a p.1 with
  |true=>simp only[if_true,cond_true,map_cons,ha]
  |false=>simp only[Bool.false_eq_true,if_false,g',Option.map_some,cond_false,map_cons,h1]
theorem zero_den {vc:CT X.ι} {ei:TyI} {z:CT.T X.toSE vc} (h:Ld vc (ei.zero.map cvD)=some z) (ha:ei.agg=ai9 vc) (hs:ei.size=CT.sz X vc):part' ei.agg ei.size ((ei.zero.map cv).map wk)=some (CT.tv X.toSE vc z).av:=by
 have hz:=yx h;rw[CB]at hz;rw[hz,ha,hs];have hl:((CT.row X.toSE vc z).map AV.t).length=CT.sz X vc:=by rw[length_map,JV]
 unfold part';rw[if_pos hl];cases vc<;>rfl
theorem ahO {d:DV X} {c:CT X.ι} {x:CT.T X.toSE c} (h:dat d c=some x):wkV (den d)=(CT.tv X.toSE c x).av:=by
 cases c
 case st j=>
  replace h:abS d j=some x:=h
  cases d
  case agg cs=>
   simp only[abS]at h;rw[ai]at h;obtain⟨g,h1,h⟩:=h;injection h with h;subst h;simp only[den,wkV,(yJ h1 (X.flat j)).1];rw[<- RN];rfl
  case c a y=>
   replace h:iq a (.st j) y=some x:=h
   rw[(kG h).1];simp only[den,CT.tv,TV.av,wkV,map_map];congr 1
  all_goals cases h
 all_goals
  (have h':I9 d _=some x:=h
   have hd:=um h';cases d
   case agg=>cases h
   case c a y=>
    obtain⟨e,_⟩:=rC (show iq a _ y=some x from h);subst e;exact hd
   all_goals first |exact hd |(cases h))
theorem U4 {t:TypeId} {x key:DV X} {ok:Bool} (h:XR T t x key ok get k=some r):∃ rd dv out,Ij T t (den x) (den key) ok (bM rd (dI get))=some out∧ic out.obs∧out.v=den dv∧out.upd=[]∧k dv [] rd []=some r:=by
 unfold XR at h;rw[ai]at h;obtain⟨ti,h1,h⟩:=h;split at h
 ·rename_i kt et kk hk;rw[ai]at h;obtain⟨ki,h2,h⟩:=h;rw[ai]at h;obtain⟨ei,h3,h⟩:=h;rw[ai]at h;obtain⟨o,h4,h⟩:=h;split at h
  ·rename_i kc vc l;rw[ai]at h;obtain⟨eq,h5,h⟩:=h;rw[ai]at h;obtain⟨kv,h6,h⟩:=h;split at h
   ·rename_i hc;rw[ai]at h;obtain⟨z,h7,h⟩:=h;obtain⟨va,g1,g2⟩:=agj hc.1 kv;obtain⟨q,g3,g4⟩:=V8 (vc:=vc) h5 g1 l;have hkey:den key= .t (.sc va):=by
     have:=um h6;rw[g1]at this;cases hd:den key<;>rw[hd]at this<;>simp only[wk,AV.t.injEq,reduceCtorEq]at this;subst this;rfl
    have hv:∀ q:Option (Nat×AV),q.map (·.2)=(jN eq kv l).map (fun v=>(CT.tv X.toSE vc v).av)->orZ q (part' ei.agg ei.size ((ei.zero.map cv).map wk))=some (CT.tv X.toSE vc ((jN eq kv l).getD z)).av:=by
     intro q g;cases hm:jN eq kv l with
     |none=>
      rw[hm]at g;cases q with
      |none=>exact zero_den h7 hc.2.1 hc.2.2
      |some p=>simp at g
     |some v=>
      rw[hm]at g;cases q with
      |none=>simp at g
      |some p=>simp only[Option.map_some,Option.some.injEq]at g;simp only[orZ,g,Option.getD_some]
    have hi:q.isSome=(jN eq kv l).isSome:=by
     have:=congrArg Option.isSome g4;simpa using this
    have hb:Ij T t (den (.mp kk:DV X)) (den key) ok (bM [kk] (dI get))=pv (if ok then .tup [den (.c vc ((jN eq kv l).getD z):DV X),.t (.sc (.bool q.isSome))]else den (.c vc ((jN eq kv l).getD z):DV X)):=by
     simp only[Ij,h1,bind_some,hk,den,hkey,h2,h3,dH (List.mem_singleton_self kk) h4];rw[if_pos ⟨g2,by simp[aY]⟩];rw[g3,bind_some,hv q g4,bind_some]
    cases ok with
    |true=>exact⟨[kk],_,_,hb,trivial,by simp only[if_true,den,aW,hi];rfl,rfl,h⟩
    |false=>exact⟨[kk],_,_,hb,trivial,rfl,rfl,h⟩
   ·cases h
  ·cases h
 ·cases h
theorem U5 {t:TypeId} {x key y:DV X} (h:XT T t x key y get k=some r):∃ rd wr dv upd out,K4 T t (den x) (den key) (den y) (bM rd (dI get))=some out∧ic out.obs∧out.v=den dv∧out.upd=eZ upd∧(∀ p∈upd,p.1∈wr)∧k dv upd rd wr=some r:=by
 unfold XT at h;rw[ai]at h;obtain⟨ti,h1,h⟩:=h;split at h
 ·rename_i kt et kk hk;rw[ai]at h;obtain⟨ki,h2,h⟩:=h;rw[ai]at h;obtain⟨o,h4,h⟩:=h;split at h
  ·rename_i kc vc l;rw[ai]at h;obtain⟨eq,h5,h⟩:=h;rw[ai]at h;obtain⟨kv,h6,h⟩:=h;rw[ai]at h;obtain⟨v,h7,h⟩:=h;split at h
   ·rename_i hc;obtain⟨va,g1,g2⟩:=agj hc kv;have g3:=ZE (vc:=vc) h5 g1 v l;have hkey:den key= .t (.sc va):=by
     have:=um h6;rw[g1]at this;cases hd:den key<;>rw[hd]at this<;>simp only[wk,AV.t.injEq,reduceCtorEq]at this;subst this;rfl
    refine⟨[kk],[kk],_,_,⟨.undef,[(kk,some ⟨(aY (.map kc vc (nk eq kv v l):DObj X)).rows.length,(aY (.map kc vc (nk eq kv v l):DObj X)).rows⟩)],[]⟩,?_,trivial,rfl,?_,by simp,h⟩
    ·simp only[K4,h1,bind_some,hk,den,hkey,h2,dH (List.mem_singleton_self kk) h4];rw[if_pos ⟨g2,by simp[aY]⟩,ahO h7,g3];rfl
    ·simp[eZ,aY]
   ·cases h
  ·cases h
 ·cases h
theorem ab5 (h:aiL T code i o.op ρ get k=some r):SdAny P T i o ρ get k r:=by
 obtain⟨dst,op,ty,pos,after,guard⟩:=o;unfold aiL at h;simp only at h;split at h
 ·rename_i op t x y q;split at h
  ·rename_i hn;obtain⟨dv,out,g1,g2,g3,g4,g5⟩:=ab3 h;have hy:den (ρ y)= .nilsl:=(by cases hρ:ρ y<;>rw[hρ]at hn<;>first |rfl |cases hn);exact SdAny.ext (n:=0) (rd:=[]) (wr:=[]) (upd:=[]) (by simp only[q9,hy];exact g1) g2 g3 g4 (by simp) g5
  ·cases h
 ·rename_i s d x;unfold ait at h;rw[ai]at h;obtain⟨si,h1,h⟩:=h;rw[ai]at h;obtain⟨di,h2,h⟩:=h;split at h
  ·rename_i kd k' n hk hx;refine SdAny.ext (n:=0) (rd:=[]) (wr:=[]) (upd:=[]) (out:=⟨.t (.sc (.int kd (kd.wrap n))),[],[]⟩) ?_ trivial rfl rfl (by simp) h;simp only[q9,adE,h1,h2,bind_some,hk,hx];rfl
  ·cases h
 ·rename_i t x j;unfold agd at h;rw[ai]at h;obtain⟨ti,h1,h⟩:=h;split at h
  ·rename_i s kk n hk hx hj;rw[ai]at h;obtain⟨b,h2,h⟩:=h;refine SdAny.ext (n:=b) (rd:=[]) (wr:=[]) (upd:=[]) (out:=⟨.t (.sc (.int .u8 b)),[],[0<=n∧∃ c,s[n.toNat]? =some c∧b=c.toNat]⟩) ?_ (ab4 h2) rfl rfl (by simp) h;simp only[q9,Xq,h1,bind_some,hk,hx,hj];rfl
  ·cases h
 ·rename_i t x lo hi;unfold V5 at h;rw[ai]at h;obtain⟨ti,h1,h⟩:=h;split at h
  ·rename_i e hk hx;rw[ai]at h;obtain⟨ei,h2,h⟩:=h;rw[ai]at h;obtain⟨l,h3,h⟩:=h;rw[ai]at h;obtain⟨hh,h4,h⟩:=h;obtain⟨h5,h⟩:=cond_some h;refine SdAny.ext (n:=0) (rd:=[]) (wr:=[]) (upd:=[]) (out:=⟨.nilsl,[],[l=0∧hh=0]⟩) ?_ (show l=0∧hh=0 by simpa using h5) rfl rfl (by simp) h;have e1:=CF h3;have e2:=CF h4;rw[Option.map_map]at e1 e2;simp only[q9,Ii,h1,bind_some,hk,hx,h2,den];have e1':bnd 0 (lo.map fun x=>den (ρ x))=some l:=e1;have e2':bnd 0 (hi.map fun x=>den (ρ x))=some hh:=e2;rw[e1',bind_some,e2'];rfl
  ·cases h
 ·rename_i x;obtain⟨dv,g1,g2⟩:=PO h;exact SdAny.ext2 (n:=0) (rd:=[]) (wr:=[]) (upd:=[]) g1 trivial rfl rfl (by simp) g2
 ·rename_i t l c;obtain⟨dv,upd,out,g1,g2,g3,g4,g5,g6⟩:=ZB h;exact SdAny.ext2 (n:=0) (rd:=[]) (wr:=[]) (upd:=upd) g1 g2 g3 g4 (fun p hp=> .inl (g5 p hp)) g6
 ·rename_i t;obtain⟨dv,upd,out,g1,g2,g3,g4,g5,g6⟩:=R5 h;exact SdAny.ext2 (n:=0) (rd:=[]) (wr:=[]) (upd:=upd) g1 g2 g3 g4 (fun p hp=> .inl (g5 p hp)) g6
 ·rename_i t m x ok;obtain⟨rd,dv,out,g1,g2,g3,g4,g6⟩:=U4 h;exact SdAny.ext2 (n:=0) (rd:=rd) (wr:=[]) (upd:=[]) g1 g2 g3 g4 (by simp) g6
 ·rename_i t m x v;obtain⟨rd,wr,dv,upd,out,g1,g2,g3,g4,g5,g6⟩:=U5 h;exact SdAny.ext2 (n:=0) (rd:=rd) (wr:=wr) (upd:=upd) g1 g2 g3 g4 (fun p hp=> .inr (g5 p hp)) g6
 ·rename_i b args tys;obtain⟨rd,wr,dv,upd,out,g1,g2,g3,g4,g5,g6⟩:=PS h;refine SdAny.ext (n:=0) (rd:=rd) (wr:=wr) (upd:=upd) ?_ g2 g3 g4 g5 g6;simp only[q9,QD];exact g1
 ·cases h
theorem ZF {c:CT X.ι}:∀ {xs:List Operand} {x:Operand} {y:CT.T X.toSE c×List Bool},x∈xs->FH get (ρ x) c=some y->∀ j∈drefs (ρ x),j∈Zz get c ρ xs
 |z::xs,x,y,hx,h,j,hj=>by
  simp only[Zz,mem_append];rcases mem_cons.1 hx with rfl |hx
  ·left;rw[h];exact hj
  ·exact .inr (ZF hx h j hj)
 |[],_,_,hx,_,_,_=>by simp at hx
theorem ZG {c:CT X.ι}:∀ {xs:List Operand} {x:Operand} {y:CT.T X.toSE c×List Bool},x∈xs->FH get (ρ x) c=some y->∀ b∈y.2,b∈ahM get c ρ xs
 |z::xs,x,y,hx,h,b,hb=>by
  simp only[ahM,mem_append];rcases mem_cons.1 hx with rfl |hx
  ·left;rw[h];exact hb
  ·exact .inr (ZG hx h b hb)
 |[],_,_,hx,_,_,_=>by simp at hx
theorem ab6 (h:aiM T code i o.op ρ get k=some r):SdAny P T i o ρ get k r:=by
 unfold aiM at h;split at h
 ·cases h
 rename_i hpick;rw[ai]at h;obtain⟨c,h1,h⟩:=h;obtain⟨hcs,h⟩:=l6 h;obtain⟨orc,rd,wr,dv,upd,out,g1,g2,g3,g4,g5,g6⟩:=VY h;generalize hids:Zz get c ρ o.op.operands.toList=ids at*;refine⟨.frz ids (fun x=>den (agh get c ρ x)) orc,rd++ids,wr++ids,dv,upd++Li ids,⟨out.v,out.upd++ids.map (fun k=>(k,none)),out.obs++[∀ x∈o.op.operands,(Bor P (bM (rd++ids) (dI get)) (den (ρ x)) (den (agh get c ρ x))∧∀ k∈refs (den (ρ x)),k∈ids)∨den (agh get c ρ x)=den (ρ x)]⟩,?_,?_,g3,?_,?_,g6⟩
 ·unfold gB Gi;simp only;rw[if_neg hpick];have e:(fun k=>if k∈ids then none else bM (rd++ids) (dI get) k)=bM rd (dI fun j=>if j∈ids then none else get j):=by
   funext j;simp only[bM,dI,mem_append];by_cases hj:j∈ids
   ·simp[hj]
   ·simp[hj]
  rw[e,g1];rfl
 ·refine nT _ fun p hp=>?_;rcases mem_append.1 hp with hp |hp
  ·exact ni _ g2 p hp
  ·rw[mem_singleton]at hp;subst hp;intro x hx;unfold agh;cases hl:FH get (ρ x) c with
   |none=>exact .inr rfl
   |some y=>
    left;have hx':x∈o.op.operands.toList:=(by simpa using hx);have hin:∀ j∈drefs (ρ x),j∈ids:=fun j hj=>hids ▸ ZF hx' hl j hj;obtain⟨hs,obs,p1,p2⟩:=AB (P:=P) (rd:=rd++ids) hl (fun b hb=>hcs b (ZG hx' hl b hb)) (fun j hj=>mem_append_right _ (hin j hj));refine⟨?_,fun j hj=>hin j (by rwa [fE]at hj)⟩;have:=p2 [];exact JQ _ _ _ this p1
 ·simp only[oL,CJ,g4]
 ·intro p hp;rcases mem_append.1 hp with hp |hp
  ·exact (g5 p hp).imp id (fun h=>mem_append_left _ h)
  ·exact .inr (mem_append_right _ (Io hp))
theorem ZH {c:CT X.ι}:∀ {ds:List (DV X)} {xs:List (CT.T X.toSE c)},CK c ds=some xs->aW ds=xs.map fun y=>den (.c c y:DV X)
 |[],xs,h=>by simp only[CK,Option.some.injEq]at h;subst h;rfl
 | .c a x::ds,xs,h=>by
  simp only[CK]at h;rw[ai]at h;obtain⟨y,h1,h⟩:=h;rw[ai]at h;obtain⟨l,h2,h⟩:=h;injection h with h;subst h;simp only[aW,map_cons,ZH h2,(kG h1).1]
 | .agg _::_,_,h=>by simp[CK]at h
 | .tup _::_,_,h=>by simp[CK]at h
 | .own _ _ _::_,_,h=>by simp[CK]at h
 | .ptr _ _ _::_,_,h=>by simp[CK]at h
 | .ptl _ _ _::_,_,h=>by simp[CK]at h
 | .mp _::_,_,h=>by simp[CK]at h
 | .pta _ _ _ _ _::_,_,h=>by simp[CK]at h
 | .rp _ _ _::_,_,h=>by simp[CK]at h
 | .fn _ _ _::_,_,h=>by simp[CK]at h
 | .clo _ _ _::_,_,h=>by simp[CK]at h
 | .raw _::_,_,h=>by simp[CK]at h
 | .nil::_,_,h=>by simp[CK]at h
 | .ub::_,_,h=>by simp[CK]at h
 | .skip::_,_,h=>by simp[CK]at h
 | .undef::_,_,h=>by simp[CK]at h
theorem ab7 (h:aiN T code o.op ρ get k=some r):SdAny P T i o ρ get k r:=by
 obtain⟨dst,op,ty,pos,after,guard⟩:=o;unfold aiN at h;simp only at h;split at h
 ·rename_i t x j;rw[ai]at h;obtain⟨ti,h1,h⟩:=h;split at h
  ·rename_i m e kk row off kd n hk hx hj;rw[ai]at h;obtain⟨ei,h2,h⟩:=h;split at h
   ·rename_i hs;obtain⟨h3,h⟩:=cond_some h;refine SdAny.op (orc:= .none) (rd:=[]) (wr:=[]) (upd:=[]) (fun _ _ _ e=>by cases e) (out:=⟨.ptr kk row (off+n.toNat*1),[],[0<=n∧n.toNat < m]⟩) ?_ ⟨?_,?_,rfl,by simp,h⟩
    ·simp only[oI,jR,h1,bind_some,hk,hx,hj,den,CT.tv,TV.av,h2,hs];rfl
    ·simp only[inb,and_eq_true,decide_eq_true_eq]at h3;exact⟨h3.1,by omega⟩
    ·simp only[den,Nat.mul_one]
   ·cases h
  ·cases h
 ·rename_i t a;rw[ai]at h;obtain⟨ti,h1,h⟩:=h;split at h
  ·rename_i kk row off m n hx;split at h
   ·rename_i hs;rw[ai]at h;obtain⟨c,h2,h⟩:=h;split at h
    ·rename_i hc;rw[ai]at h;obtain⟨ob,h3,h⟩:=h;split at h
     ·rename_i sz rows;rw[ai]at h;obtain⟨q,h4,h⟩:=h;rw[ai]at h;obtain⟨xs,h5,h⟩:=h;rw[ai]at h;obtain⟨y,h6,h⟩:=h;obtain⟨_,h7⟩:=QC h6;have h8:=ZH h5;have h9:((aW q).drop (off+n.toNat)).take 1=[den (.c c y:DV X)]:=by
       have e1:(aW ((q.drop off).take m))[n.toNat]? =some (den (.c c y:DV X)):=(by rw[h8,List.getElem?_map,h7];rfl);rw[lu,List.getElem?_take]at e1;split at e1
       ·rw[List.getElem?_drop]at e1;obtain⟨g1,g2⟩:=List.getElem?_eq_some_iff.1 e1;rw[List.drop_eq_getElem_cons g1,List.take_succ_cons,List.take_zero,g2]
       ·cases e1
      refine SdAny.op (orc:= .none) (rd:=[kk]) (wr:=[]) (upd:=[]) (fun _ _ _ e=>by cases e) (out:=⟨den (.c c y:DV X),[],[]⟩) ?_ ⟨trivial,rfl,rfl,by simp,h⟩;simp only[oI,Jt,h1,bind_some,hx,den,dH (List.mem_singleton_self kk) h3,aY,List.getElem?_map,h4,Option.map_some,hs.1,hs.2];rw[h9];obtain⟨t',g1,g2⟩:=row_one hc y;simp only[den,g2,TV.av];rfl
     ·cases h
    ·cases h
   ·cases h
  ·cases h
 ·cases h
end
end
section
variable {X:SX}
structure MA (X:SX) where
 nm:List (Nat×Nat)
 dcs:List (DC X)
 chk:List Bool
def addN (m:MA X) (k' k:Nat):MA X:=if m.nm.contains (k',k)then m else⟨m.nm++[(k',k)],m.dcs,m.chk⟩
section
variable (get:Nat->Option (DObj X))
mutual
def mP:Pt X.ι->DV X->MA X->Option (MA X)
 | .v c,d,m=>(dat d c).bind fun x=>some ⟨m.nm,m.dcs++[⟨c,x⟩],m.chk⟩
 | .o k,d,m=>match d with
  | .own k' 0 len=>(get k').bind fun o=>match o with
   | .lst _ l=>some (addN ⟨m.nm,m.dcs,m.chk++[eqL len l.length]⟩ k' k)
   |_=>none
  |_=>none
 | .p k,d,m=>match d with
  | .ptr k' 0 0=>some (addN m k' k)
  |_=>none
 | .mp k,d,m=>match d with
  | .mp k'=>some (addN m k' k)
  |_=>none
 | .nil,d,m=>match d with
  | .nil=>some m
  |_=>none
 | .f F fs cs,d,m=>match d with
  | .fn F' first caps=>if F=F' then (mPs fs first m).bind fun m=>mPs cs caps m else none
  |_=>none
 | .od k,d,m=>match d with
  | .own k' off len=>(get k').bind fun o=>match o with
   | .lst _ l=>some (addN ⟨m.nm,m.dcs++[⟨.int .i64,(off:Int)⟩],m.chk++[eqL (off+len) l.length]⟩ k' k)
   |_=>none
  |_=>none
 | .a ps,d,m=>match d with
  | .agg ds=>mPs ps ds m
  |_=>none
def mPs:List (Pt X.ι)->List (DV X)->MA X->Option (MA X)
 |[],[],m=>some m
 |p::ps,d::ds,m=>(mP p d m).bind fun m=>mPs ps ds m
 |_,_,_=>none
end
def Gs (env:Nat->DV X):List (Nat×Pt X.ι)->MA X->Option (MA X)
 |[],m=>some m
 |(t,p)::r,m=>(mP get p (env t) m).bind fun m=>Gs env r m
def FJ:List (List (Pt X.ι))->List (List (DV X))->MA X->Option (MA X)
 |[],[],m=>some m
 |r::rs,q::qs,m=>(mPs get r q m).bind fun m=>FJ rs qs m
 |_,_,_=>none
def nameOf (m:MA X) (k:Nat):Nat:=match m.nm.find? (fun q=>q.2==k)with |some q=>q.1 |none=>k
def CO:List (Nat×OP X.ι)->MA X->Option (MA X)
 |[],m=>some m
 |(k,op)::r,m=>(get (nameOf m k)).bind fun o=>match op,o with
  | .l c,.lst c' l=>(iq (.sl c') (.sl c) l).bind fun l'=>CO r (addN ⟨m.nm,m.dcs++[⟨.sl c,l'⟩],m.chk⟩ (nameOf m k) k)
  | .m kc vc,.map kc' vc' l=>(iq (.mp kc' vc') (.mp kc vc) l).bind fun l'=>CO r (addN ⟨m.nm,m.dcs++[⟨.mp kc vc,l'⟩],m.chk⟩ (nameOf m k) k)
  | .c sz rows,.cells sz' rows'=>if sz=sz' then (FJ get rows rows' (addN m (nameOf m k) k)).bind fun m=>CO r m else none
  |_,_=>none
end
end
section
variable {X:SX} {A:Type}
mutual
def rnD (f:Nat->Nat):DV X->DV X
 | .own k off len=> .own (f k) off len
 | .ptr k row off=> .ptr (f k) row off
 | .ptl k n off=> .ptl (f k) n off
 | .pta k row off m n=> .pta (f k) row off m n
 | .mp k=> .mp (f k)
 | .agg cs=> .agg (Ja f cs)
 | .tup cs=> .tup (Ja f cs)
 | .fn F first caps=> .fn F (Ja f first) (Ja f caps)
 |x=>x
def Ja (f:Nat->Nat):List (DV X)->List (DV X)
 |[]=>[]
 |x::xs=>rnD f x::Ja f xs
end
theorem ab8 (f:Nat->Nat):∀ l:List Tree,zV f (l.map AV.t)=l.map AV.t
 |[]=>rfl
 |x::xs=>by simp only[map_cons,zV,rnA,ab8 f xs]
mutual
theorem AJ (f:Nat->Nat):∀ x:DV X,den (rnD f x)=rnA f (den x)
 | .own _ _ _=>rfl
 | .ptr _ _ _=>rfl
 | .ptl _ _ _=>rfl
 | .mp _=>rfl
 | .pta _ _ _ _ _=>rfl
 | .agg cs=>by simp only[rnD,den,rnA,CP f cs]
 | .tup cs=>by simp only[rnD,den,rnA,CP f cs]
 | .fn F first caps=>by simp only[rnD,den,rnA,CP f first,CP f caps]
 | .c t x=>by
  simp only[rnD,den];cases t<;>try rfl
  simp only[CT.tv,TV.av,rnA,ab8]
 | .rp _ _ _=>rfl
 | .clo _ _ _=>rfl
 | .raw v=>by
  simp only[rnD,den,cv];split
  ·rfl
  ·split<;>rfl
 | .nil=>rfl
 | .ub=>rfl
 | .skip=>rfl
 | .undef=>rfl
theorem CP (f:Nat->Nat):∀ l:List (DV X),aW (Ja f l)=zV f (aW l)
 |[]=>rfl
 |x::xs=>by simp only[Ja,aW,zV,AJ f x,CP f xs]
end
def rnO (f:Nat->Nat):DObj X->DObj X
 | .cells sz rows=> .cells sz (rows.map (Ja f))
 |o=>o
def orefs:DObj X->List Nat
 | .cells _ rows=>(rows.map aL).flatten
 | .lst _ _=>[]
 | .map _ _ _=>[]
def adL:CT X.ι->Bool
 | .int _ | .bool | .str=>true
 |_=>false
def wW:CT X.ι->Bool
 | .st i=>(X.tys i).all adL
 |c=>adL c
theorem Ej {c:CT X.ι} (h:adL c=true) (x:CT.T X.toSE c):∀ t∈CT.row X.toSE c x,t.flat:=by cases c<;>first |(intro t ht;simp only[CT.row,mem_singleton]at ht;subst ht;exact trivial) |cases h
theorem adM:∀ (l:List (CT X.ι)) (h:HL X.toSE l),l.all adL=true->∀ t∈HL.row X.toSE l h,t.flat
 |[],_,_,t,ht=>by simp[HL.row]at ht
 |c::l,h,ha,t,ht=>by
  simp only[all_cons,and_eq_true]at ha;rcases mem_append.1 (show t∈CT.row X.toSE c h.1++HL.row X.toSE l h.2 from ht)with ht |ht
  ·exact Ej ha.1 h.1 t ht
  ·exact adM l h.2 ha.2 t ht
theorem rD {c:CT X.ι} (h:wW c=true) (x:CT.T X.toSE c):∀ t∈CT.row X.toSE c x,t.flat:=by
 cases c
 case st i=>intro t ht;exact adM (X.tys i) (X.get i x) h t ((X.row_get i x) ▸ ht)
 case int k=>exact Ej (c:= .int k) h x
 case bool=>exact Ej (c:= .bool) h x
 case str=>exact Ej (c:= .str) h x
 case sl e=>cases h
 case any=>cases h
 case mp=>cases h
structure MG (X:SX) where
 nm:List (Nat×Nat)
 dcs:List (DC X)
 chk:List Bool
 vr:List Nat
section
variable (get:Nat->Option (DObj X))
mutual
def gA1:Pt X.ι->DV X->MG X->Option (MG X)
 | .v c,d,m=>(FH get d c).bind fun x=>some ⟨m.nm,m.dcs++[⟨c,x.1⟩],m.chk++x.2,m.vr++drefs d⟩
 | .o k,d,m=>match d with
  | .own k' 0 len=>(get k').bind fun o=>match o with
   | .lst _ l=>some ⟨m.nm++[(k',k)],m.dcs,m.chk++[eqL len l.length],m.vr⟩
   |_=>none
  |_=>none
 | .od k,d,m=>match d with
  | .own k' off len=>(get k').bind fun o=>match o with
   | .lst _ l=>some ⟨m.nm++[(k',k)],m.dcs++[⟨.int .i64,(off:Int)⟩],m.chk++[eqL (off+len) l.length],m.vr⟩
   |_=>none
  |_=>none
 | .p k,d,m=>match d with
  | .ptr k' 0 0=>some ⟨m.nm++[(k',k)],m.dcs,m.chk,m.vr⟩
  |_=>none
 | .nil,d,m=>match d with
  | .nil=>some m
  |_=>none
 | .f F fs cs,d,m=>match d with
  | .fn F' first caps=>if F=F' then (gAs fs first m).bind fun m=>gAs cs caps m else none
  |_=>none
 | .mp _,_,_=>none
 | .a _,_,_=>none
def gAs:List (Pt X.ι)->List (DV X)->MG X->Option (MG X)
 |[],[],m=>some m
 |p::ps,d::ds,m=>(gA1 p d m).bind fun m=>gAs ps ds m
 |_,_,_=>none
end
def FK:List (List (Pt X.ι))->List (List (DV X))->MG X->Option (MG X)
 |[],[],m=>some m
 |r::rs,q::qs,m=>(gAs get r q m).bind fun m=>FK rs qs m
 |_,_,_=>none
def nmG (m:MG X) (k:Nat):Nat:=match m.nm.find? (fun q=>q.2==k)with |some q=>q.1 |none=>k
def FL:List (Nat×OP X.ι)->MG X->Option (MG X)
 |[],m=>some m
 |(k,op)::r,m=>(get (nmG m k)).bind fun o=>match op,o with
  | .l c,.lst c' l=>(iq (.sl c') (.sl c) l).bind fun l'=>FL r ⟨m.nm++[(nmG m k,k)],m.dcs++[⟨.sl c,l'⟩],m.chk,m.vr⟩
  | .c sz rows,.cells sz' rows'=>if sz=sz' then (FK get rows rows' ⟨m.nm++[(nmG m k,k)],m.dcs,m.chk,m.vr⟩).bind fun m=>FL r m else none
  |_,_=>none
end
mutual
def Pt.refs:Pt X.ι->List Nat
 | .o k | .od k | .p k | .mp k=>[k]
 | .f _ fs cs=>BL fs++BL cs
 | .a ps=>BL ps
 |_=>[]
def BL:List (Pt X.ι)->List Nat
 |[]=>[]
 |p::ps=>p.refs++BL ps
end
def OP.refs:OP X.ι->List Nat
 | .l _=>[]
 | .m _ _=>[]
 | .c _ rows=>rows.flatMap BL
def nmB (n k:Nat):Bool:=Nat.blt k n || (Nat.ble 1000 k&&Nat.blt k 1064)
def GSig.ok (g:GSig X):Bool:=
 decide (g.inO.map (·.1)=List.range g.inO.length)&&decide (g.inO.length<=1000)&&(g.outO.all fun q=>nmB g.inO.length q.1&&q.2.refs.all fun k=>nmB g.inO.length k)&&decide (g.outO.map (·.1)).Nodup&&(BL g.outP).all fun k=>nmB g.inO.length k
def okG (m:MG X) (ids:List Nat):Bool:=
 decide ids.Nodup&&(m.nm.all fun q=>match ids[q.2]? with |some k=>Nat.beq k q.1 |none=>false)&&m.vr.all fun k=>!ids.contains k
def GSig.flat (g:GSig X):Bool:=(varsL g.outP).all wW&&g.outO.all fun q=>match q.2 with
 | .l c=>wW c
 | .m _ _=>false
 | .c _ rows=>(uo rows).all wW
def dlk:List (Nat×DObj X)->Nat->Option (DObj X)
 |[],_=>none
 |(j,o)::r,k=>if j=k then some o else dlk r k
def adN (i:Nat) (ids:List Nat) (os':List (Nat×DObj X)):List (Nat×Option (DObj X)):=
 (ids.zipIdx.map fun p=>(p.1,(dlk os' p.2).map (rnO (cn i ids))))++(os'.filter fun q=>decide (1000<=q.1)).map fun q=>(cn i ids q.1,some (rnO (cn i ids) q.2))
def ab9 (g:GSig X) (i:Nat) (ds:List (DV X)) (get:Nat->Option (DObj X)) (k:KK X A):Option A:=
 (gAs get g.inP ds ⟨[],[],[],[]⟩).bind fun m=>(FL get g.inO m).bind fun m=>
  bif g.ok&&okG m ((List.range g.inO.length).map (nmG m))then (U2 (varsL g.inP++varsO g.inO) m.dcs).bind fun v=>RH m.chk ((g.fn v).bind fun r=>
   let ids:=(List.range g.inO.length).map (nmG m)
   k (rnD (cn i ids) (g.res r)) (adN i ids (g.outs r)++(if g.flat then []else m.vr.map fun k=>(k,none))) (ids++m.vr) ((ids++(adN i ids (g.outs r)).map (·.1))++m.vr))
  else none
section
variable {P:Program} {get:Nat->Option (DObj X)} {rd ids:List Nat} {olen:Nat->Nat}
def MonoG (m m':MG X):Prop:=(∀ q∈m.nm,q∈m'.nm)∧(∀ c∈m.chk,c∈m'.chk)∧∀ k∈m.vr,k∈m'.vr
theorem MonoG.refl (m:MG X):MonoG m m:=⟨fun _ h=>h,fun _ h=>h,fun _ h=>h⟩
theorem MonoG.trans {a b c:MG X} (h:MonoG a b) (h':MonoG b c):MonoG a c:=⟨fun q hq=>h'.1 q (h.1 q hq),fun q hq=>h'.2.1 q (h.2.1 q hq),fun q hq=>h'.2.2 q (h.2.2 q hq)⟩
mutual
theorem agk:∀ (p:Pt X.ι) (d:DV X) (m m':MG X),gA1 get p d m=some m'->MonoG m m'∧∃ new,m'.dcs=m.dcs++new∧new.length=p.vars.length
 | .v c,d,m,m',h=>by
  simp only[gA1]at h;rw[ai]at h;obtain⟨x,h1,h⟩:=h;injection h with h;subst h;exact⟨⟨fun _ h=>h,fun _ h=>by simp[h],fun _ h=>by simp[h]⟩,[⟨c,x.1⟩],rfl,rfl⟩
 | .o k,d,m,m',h=>by
  simp only[gA1]at h;split at h
  ·rw[ai]at h;obtain⟨o,h1,h⟩:=h;split at h
   ·injection h with h;subst h;exact⟨⟨fun _ h=>by simp[h],fun _ h=>by simp[h],fun _ h=>h⟩,[],by simp,rfl⟩
   ·cases h
  ·cases h
 | .od k,d,m,m',h=>by
  simp only[gA1]at h;split at h
  ·rename_i k' off len;rw[ai]at h;obtain⟨o,h1,h⟩:=h;split at h
   ·injection h with h;subst h;exact⟨⟨fun _ h=>by simp[h],fun _ h=>by simp[h],fun _ h=>h⟩,[⟨.int .i64,(off:Int)⟩],rfl,rfl⟩
   ·cases h
  ·cases h
 | .p k,d,m,m',h=>by
  simp only[gA1]at h;split at h
  ·injection h with h;subst h;exact⟨⟨fun _ h=>by simp[h],fun _ h=>h,fun _ h=>h⟩,[],by simp,rfl⟩
  ·cases h
 | .nil,d,m,m',h=>by
  simp only[gA1]at h;split at h
  ·injection h with h;subst h;exact⟨MonoG.refl _,[],by simp,rfl⟩
  ·cases h
 | .f F fs cs,d,m,m',h=>by
  simp only[gA1]at h;split at h
  ·split at h
   ·rw[ai]at h;obtain⟨m1,h1,h⟩:=h;obtain⟨a1,n1,b1,c1⟩:=yN fs _ m m1 h1;obtain⟨a2,n2,b2,c2⟩:=yN cs _ m1 m' h;exact⟨a1.trans a2,n1++n2,by rw[b2,b1,append_assoc],by simp[Pt.vars,c1,c2]⟩
   ·cases h
  ·cases h
 | .mp _,d,m,m',h=>by simp[gA1]at h
 | .a ps,d,m,m',h=>by simp[gA1]at h
theorem yN:∀ (ps:List (Pt X.ι)) (ds:List (DV X)) (m m':MG X),gAs get ps ds m=some m'->MonoG m m'∧∃ new,m'.dcs=m.dcs++new∧new.length=(varsL ps).length
 |[],[],m,m',h=>by
  simp only[gAs,Option.some.injEq]at h;subst h;exact⟨MonoG.refl _,[],by simp,rfl⟩
 |p::ps,d::ds,m,m',h=>by
  simp only[gAs]at h;rw[ai]at h;obtain⟨m1,h1,h⟩:=h;obtain⟨a1,n1,b1,c1⟩:=agk p d m m1 h1;obtain⟨a2,n2,b2,c2⟩:=yN ps ds m1 m' h;exact⟨a1.trans a2,n1++n2,by rw[b2,b1,append_assoc],by simp[varsL,c1,c2]⟩
 |[],_::_,m,m',h=>by simp[gAs]at h
 |_::_,[],m,m',h=>by simp[gAs]at h
end
theorem yA {get':Nat->Option aP} {x:AV} {hs:List LH} {p:AV×List LH×List Prop} (h:kZ P get' x hs=some p) (hr:∀ k∈refs x,k∉ids):vW P get' ids x hs=some p:=by
 unfold vW;split
 ·simp[kZ]at h
 ·simp[kZ]at h
 ·simp[kZ]at h
 ·rw[if_pos]
  ·exact h
  ·simp only[all_eq_true,Bool.not_eq_true',List.contains_eq_mem,decide_eq_false_iff_not];exact hr
variable {NM:List (Nat×Nat)} {VRS:List Nat}
mutual
theorem aez (hi:∀ q∈NM,ids[q.2]? =some q.1) (hv:∀ k∈VRS,k∉ids) (hrd:∀ k,(∃ q,(k,q)∈NM)∨k∈VRS->k∈rd) (ho:∀ q∈NM,∀ c l,get q.1=some (.lst c l)->olen q.2=l.length):
 ∀ (p:Pt X.ι) (d:DV X) (m m':MG X),gA1 get p d m=some m'->(∀ q∈m'.nm,q∈NM)->(∀ c∈m'.chk,c=true)->(∀ k∈m'.vr,k∈VRS)->
 ∃ new,m'.dcs=m.dcs++new∧∃ d',(∀ rest,eP olen p (new++rest)=(d',rest))∧(∃ hs obs,(∀ p∈obs,p)∧∀ rest,vW P (bM rd (dI get)) ids (den d) (hs++rest)=some (den d',rest,obs))∧∀ j∈drefs d,(∃ q,(j,q)∈NM)∨j∈VRS
 | .v c,d,m,m',h,hn,hc,hr=>by
  simp only[gA1]at h;rw[ai]at h;obtain⟨x,h1,h⟩:=h;injection h with h;subst h;have hvr:∀ j∈drefs d,j∈VRS:=fun j hj=>hr j (by simp[hj]);obtain⟨hs,obs,p1,q1⟩:=AB (P:=P) (rd:=rd) h1 (fun b hb=>hc b (by simp[hb])) (fun j hj=>hrd j (.inr (hvr j hj)));refine⟨[⟨c,x.1⟩],rfl,.c c x.1,fun rest=>rfl,⟨hs,obs,p1,fun rest=>?_⟩,fun j hj=> .inr (hvr j hj)⟩;exact yA (q1 rest) (fun k hk=>hv k (hvr k (by rwa [fE]at hk)))
 | .o k,d,m,m',h,hn,hc,hr=>by
  simp only[gA1]at h;split at h
  ·rename_i k' len;rw[ai]at h;obtain⟨o,h1,h⟩:=h;split at h
   ·rename_i c l;injection h with h;subst h;have hq:(k',k)∈NM:=hn _ (by simp);have he:len=l.length:=by
     have:=hc (eqL len l.length) (by simp);simpa[eqL]using this
    refine⟨[],by simp,.own k 0 (olen k),fun rest=>rfl,⟨[.mut k],[],by simp,fun rest=>?_⟩,fun j hj=>?_⟩
    ·simp only[den,cons_append,nil_append,vW,hi _ hq,if_true,ho _ hq c l h1,he]
    ·simp only[drefs,mem_singleton]at hj;subst hj;exact .inl ⟨k,hq⟩
   ·cases h
  ·cases h
 | .od k,d,m,m',h,hn,hc,hr=>by
  simp only[gA1]at h;split at h
  ·rename_i k' off len;rw[ai]at h;obtain⟨o,h1,h⟩:=h;split at h
   ·rename_i c l;injection h with h;subst h;have hq:(k',k)∈NM:=hn _ (by simp);have he:off+len=l.length:=by
     have:=hc (eqL (off+len) l.length) (by simp);simpa[eqL]using this
    refine⟨[⟨.int .i64,(off:Int)⟩],rfl,.own k off (olen k - off),fun rest=>?_,⟨[.mut k],[],by simp,fun rest=>?_⟩,fun j hj=>?_⟩
    ·have:VZ (X:=X) ⟨.int .i64,(off:Int)⟩=off:=by
      simp only[VZ];rw[RX];simp
     simp only[eP,cons_append,nil_append,this]
    ·simp only[den,cons_append,nil_append,vW,hi _ hq,if_true,ho _ hq c l h1,show l.length - off=len by omega]
    ·simp only[drefs,mem_singleton]at hj;subst hj;exact .inl ⟨k,hq⟩
   ·cases h
  ·cases h
 | .p k,d,m,m',h,hn,hc,hr=>by
  simp only[gA1]at h;split at h
  ·rename_i k';injection h with h;subst h;have hq:(k',k)∈NM:=hn _ (by simp);refine⟨[],by simp,.ptr k 0 0,fun rest=>rfl,⟨[.mut k],[],by simp,fun rest=>?_⟩,fun j hj=>?_⟩
   ·simp only[den,cons_append,nil_append,vW,hi _ hq,if_true]
   ·simp only[drefs,mem_singleton]at hj;subst hj;exact .inl ⟨k,hq⟩
  ·cases h
 | .nil,d,m,m',h,hn,hc,hr=>by
  simp only[gA1]at h;split at h
  ·injection h with h;subst h;refine⟨[],by simp,.nil,fun rest=>rfl,⟨[.nil],[],by simp,fun rest=>?_⟩,by simp[drefs]⟩;exact yA (by simp only[den,cons_append,nil_append,kZ]) (by simp[den,refs])
  ·cases h
 | .f F fs cs,d,m,m',h,hn,hc,hr=>by
  simp only[gA1]at h;split at h
  ·rename_i F' first caps
   split at h
   ·rename_i e;subst e;rw[ai]at h;obtain⟨m1,h1,h⟩:=h;have hm:=(yN cs _ m1 m' h).1;obtain⟨n1,a1,f',b1,⟨hs1,o1,p1,q1⟩,r1⟩:=CQ hi hv hrd ho fs _ m m1 h1 (fun q hq=>hn q (hm.1 q hq)) (fun q hq=>hc q (hm.2.1 q hq)) (fun q hq=>hr q (hm.2.2 q hq));obtain⟨n2,a2,c',b2,⟨hs2,o2,p2,q2⟩,r2⟩:=CQ hi hv hrd ho cs _ m1 m' h hn hc hr;refine⟨n1++n2,by rw[a2,a1,append_assoc],.fn F f' c',fun rest=>by simp only[eP,append_assoc,b1,b2],⟨.fnw::(hs1++hs2),o1++o2,dX p1 p2,fun rest=>?_⟩,fun j hj=>?_⟩
    ·simp only[den,cons_append,append_assoc,vW,q1,bind_some,q2]
    ·simp only[drefs,mem_append]at hj;exact hj.elim (r1 j) (r2 j)
   ·cases h
  ·cases h
 | .mp _,d,m,m',h,hn,hc,hr=>by simp[gA1]at h
 | .a ps,d,m,m',h,_,_,_=>by simp[gA1]at h
theorem CQ (hi:∀ q∈NM,ids[q.2]? =some q.1) (hv:∀ k∈VRS,k∉ids) (hrd:∀ k,(∃ q,(k,q)∈NM)∨k∈VRS->k∈rd) (ho:∀ q∈NM,∀ c l,get q.1=some (.lst c l)->olen q.2=l.length):
 ∀ (ps:List (Pt X.ι)) (ds:List (DV X)) (m m':MG X),gAs get ps ds m=some m'->(∀ q∈m'.nm,q∈NM)->(∀ c∈m'.chk,c=true)->(∀ k∈m'.vr,k∈VRS)->
 ∃ new,m'.dcs=m.dcs++new∧∃ ds',(∀ rest,ePs olen ps (new++rest)=(ds',rest))∧(∃ hs obs,(∀ p∈obs,p)∧∀ rest,jS P (bM rd (dI get)) ids (aW ds) (hs++rest)=some (aW ds',rest,obs))∧∀ j∈aL ds,(∃ q,(j,q)∈NM)∨j∈VRS
 |[],[],m,m',h,_,_,_=>by
  simp only[gAs,Option.some.injEq]at h;subst h;exact⟨[],by simp,[],fun rest=>rfl,⟨[],[],by simp,fun rest=>rfl⟩,by simp[aL]⟩
 |p::ps,d::ds,m,m',h,hn,hc,hr=>by
  simp only[gAs]at h;rw[ai]at h;obtain⟨m1,h1,h⟩:=h;have hm:=(yN ps ds m1 m' h).1;obtain⟨n1,a1,d',b1,⟨hs1,o1,p1,q1⟩,r1⟩:=aez hi hv hrd ho p d m m1 h1 (fun q hq=>hn q (hm.1 q hq)) (fun q hq=>hc q (hm.2.1 q hq)) (fun q hq=>hr q (hm.2.2 q hq));obtain⟨n2,a2,ds',b2,⟨hs2,o2,p2,q2⟩,r2⟩:=CQ hi hv hrd ho ps ds m1 m' h hn hc hr;refine⟨n1++n2,by rw[a2,a1,append_assoc],d'::ds',fun rest=>by simp only[ePs,append_assoc,b1,b2],⟨hs1++hs2,o1++o2,dX p1 p2,fun rest=>?_⟩,fun j hj=>?_⟩
  ·simp only[aW,append_assoc,jS,q1,bind_some,q2]
  ·simp only[aL,mem_append]at hj;exact hj.elim (r1 j) (r2 j)
 |[],_::_,m,m',h,_,_,_=>by simp[gAs]at h
 |_::_,[],m,m',h,_,_,_=>by simp[gAs]at h
end
theorem yO:∀ (rs:List (List (Pt X.ι))) (qs:List (List (DV X))) (m m':MG X),FK get rs qs m=some m'->MonoG m m'∧∃ new,m'.dcs=m.dcs++new∧new.length=(uo rs).length
 |[],[],m,m',h=>by
  simp only[FK,Option.some.injEq]at h;subst h;exact⟨MonoG.refl _,[],by simp,rfl⟩
 |r::rs,q::qs,m,m',h=>by
  simp only[FK]at h;rw[ai]at h;obtain⟨m1,h1,h⟩:=h;obtain⟨a1,n1,b1,c1⟩:=yN r q m m1 h1;obtain⟨a2,n2,b2,c2⟩:=yO rs qs m1 m' h;exact⟨a1.trans a2,n1++n2,by rw[b2,b1,append_assoc],by simp[uo,c1,c2]⟩
 |[],_::_,m,m',h=>by simp[FK]at h
 |_::_,[],m,m',h=>by simp[FK]at h
theorem O1 (hi:∀ q∈NM,ids[q.2]? =some q.1) (hv:∀ k∈VRS,k∉ids) (hrd:∀ k,(∃ q,(k,q)∈NM)∨k∈VRS->k∈rd) (ho:∀ q∈NM,∀ c l,get q.1=some (.lst c l)->olen q.2=l.length):
 ∀ (rs:List (List (Pt X.ι))) (qs:List (List (DV X))) (m m':MG X),FK get rs qs m=some m'->(∀ q∈m'.nm,q∈NM)->(∀ c∈m'.chk,c=true)->(∀ k∈m'.vr,k∈VRS)->
 ∃ new,m'.dcs=m.dcs++new∧∃ qs',(∀ rest,uy olen rs (new++rest)=(qs',rest))∧(∃ hs obs,(∀ p∈obs,p)∧Eb P (bM rd (dI get)) ids (qs.map aW) hs=some (qs'.map aW,obs))∧∀ j∈(qs.map aL).flatten,(∃ q,(j,q)∈NM)∨j∈VRS
 |[],[],m,m',h,_,_,_=>by
  simp only[FK,Option.some.injEq]at h;subst h;exact⟨[],by simp,[],fun rest=>rfl,⟨[],[],by simp,rfl⟩,by simp⟩
 |r::rs,q::qs,m,m',h,hn,hc,hr=>by
  simp only[FK]at h;rw[ai]at h;obtain⟨m1,h1,h⟩:=h;have hm:=(yO rs qs m1 m' h).1;obtain⟨n1,a1,d',b1,⟨hs1,o1,p1,q1⟩,r1⟩:=CQ (P:=P) hi hv hrd ho r q m m1 h1 (fun q hq=>hn q (hm.1 q hq)) (fun q hq=>hc q (hm.2.1 q hq)) (fun q hq=>hr q (hm.2.2 q hq));obtain⟨n2,a2,ds',b2,⟨hs2,o2,p2,q2⟩,r2⟩:=O1 hi hv hrd ho rs qs m1 m' h hn hc hr;refine⟨n1++n2,by rw[a2,a1,append_assoc],d'::ds',fun rest=>by simp only[uy,append_assoc,b1,b2],⟨hs1::hs2,o1++o2,dX p1 p2,?_⟩,fun j hj=>?_⟩
  ·have:=q1 [];rw[append_nil]at this;simp only[map_cons,Eb,this,bind_some,q2]
  ·simp only[map_cons,flatten_cons,mem_append]at hj;exact hj.elim (r1 j) (r2 j)
 |[],_::_,m,m',h,_,_,_=>by simp[FK]at h
 |_::_,[],m,m',h,_,_,_=>by simp[FK]at h
theorem oo:∀ (os:List (Nat×OP X.ι)) (m m':MG X),FL get os m=some m'->MonoG m m'∧∃ new,m'.dcs=m.dcs++new∧new.length=(varsO os).length
 |[],m,m',h=>by
  simp only[FL,Option.some.injEq]at h;subst h;exact⟨MonoG.refl _,[],by simp,rfl⟩
 |(k,op)::r,m,m',h=>by
  simp only[FL]at h;rw[ai]at h;obtain⟨o,h1,h⟩:=h;split at h
  ·rename_i c c' l;rw[ai]at h;obtain⟨l',h2,h⟩:=h;obtain⟨a2,n2,b2,c2⟩:=oo r _ m' h;refine⟨MonoG.trans (b:=⟨m.nm++[(nmG m k,k)],m.dcs++[⟨.sl c,l'⟩],m.chk,m.vr⟩) ⟨fun _ h=>by simp[h],fun _ h=>h,fun _ h=>h⟩ a2,[⟨.sl c,l'⟩]++n2,?_,by simp[varsO,c2]⟩;rw[b2,append_assoc]
  ·rename_i sz rows sz' rows';split at h
   ·rw[ai]at h;obtain⟨m1,h2,h⟩:=h;obtain⟨a1,n1,b1,c1⟩:=yO rows _ _ m1 h2;obtain⟨a2,n2,b2,c2⟩:=oo r m1 m' h;refine⟨MonoG.trans (MonoG.trans (b:=⟨m.nm++[(nmG m k,k)],m.dcs,m.chk,m.vr⟩) ⟨fun _ h=>by simp[h],fun _ h=>h,fun _ h=>h⟩ a1) a2,n1++n2,?_,by simp[varsO,c1,c2]⟩;rw[b2,b1,append_assoc]
   ·cases h
  ·cases h
theorem JY:∀ (os:List (Nat×OP X.ι)) (m m':MG X),FL get os m=some m'->(∀ q∈m'.nm,q∈NM)->∃ new,m'.dcs=m.dcs++new∧∀ rest,∀ k∈os.map (·.1),∃ k' o,(k',k)∈NM∧get k'=some o∧∀ c l,o= .lst c l->(k,List.length l)∈lens os (new++rest)
 |[],m,m',h,_=>by
  simp only[FL,Option.some.injEq]at h;subst h;exact⟨[],by simp,fun rest k hk=>by simp at hk⟩
 |(k,op)::r,m,m',h,hn=>by
  simp only[FL]at h;rw[ai]at h;obtain⟨o,h1,h⟩:=h;split at h
  ·rename_i c c' l;rw[ai]at h;obtain⟨l',h2,h⟩:=h;have hm:=(oo r _ m' h).1;obtain⟨n2,b2,c2⟩:=JY r _ m' h hn;refine⟨[⟨.sl c,l'⟩]++n2,by rw[b2,append_assoc],fun rest j hj=>?_⟩;simp only[map_cons,mem_cons]at hj;simp only[append_assoc,cons_append,nil_append,lens];by_cases hjk:j=k
   ·subst hjk;refine⟨_,_,hn _ (hm.1 _ (by simp)),h1,fun c2 l2 he=>?_⟩;injection he with e1 e2;subst e1;have e2:=eq_of_heq e2;subst e2;have:=congrArg List.length (iH h2).2;simp only[length_map]at this;rw[this];exact List.mem_cons_self
   ·rcases hj with rfl |hj
    ·exact (hjk rfl).elim
    ·obtain⟨k',o',g1,g2,g3⟩:=c2 rest j hj;exact⟨k',o',g1,g2,fun c l he=>mem_cons_of_mem _ (g3 c l he)⟩
  ·rename_i sz rows sz' rows';split at h
   ·rw[ai]at h;obtain⟨m1,h2,h⟩:=h;obtain⟨a1,n1,b1,c1⟩:=yO rows _ _ m1 h2;have hm:=(oo r _ m' h).1;obtain⟨n2,b2,c2⟩:=JY r _ m' h hn;refine⟨n1++n2,by rw[b2,b1,append_assoc],fun rest j hj=>?_⟩;simp only[map_cons,mem_cons]at hj;have hd:(n1++n2++rest).drop (uo rows).length=n2++rest:=(by rw[<- c1,append_assoc,List.drop_left]);simp only[lens,hd];by_cases hjk:j=k
    ·subst hjk;exact⟨_,_,hn _ (hm.1 _ (a1.1 _ (by simp))),h1,fun c2 l2 he=>by cases he⟩
    ·rcases hj with rfl |hj
     ·exact (hjk rfl).elim
     ·exact c2 rest j hj
   ·cases h
  ·cases h
theorem El:∀ (os:List (Nat×OP X.ι)) (L:List (DC X)),((lens os L).map (·.1)).Sublist (os.map (·.1))
 |[],_=>by simp[lens]
 |(k,.l c)::r,L=>by
  simp only[lens];split
  ·exact (El r _).cons_cons _
  ·exact List.nil_sublist _
 |(k,.m kc vc)::r,L=>by
  simp only[lens];exact (El r _).cons _
 |(k,.c sz rows)::r,L=>by
  simp only[lens];exact (El r _).cons _
def aeA (get':Nat->Option aP) (NM:List (Nat×Nat)) (VRS:List Nat) (bs:List OB) (ks:List Nat):Prop:=
 ∀ (j:Nat) hs q o,bs[j]? =some (.cel hs)->ks[j]? =some q->get' q=some o->∀ k∈Ro o,(∃ z,(k,z)∈NM)∨k∈VRS
theorem Lj {sz:Nat} {rows:List (List (DV X))} {k:Nat} (h:k∈Ro (aY (.cells sz rows))):k∈(rows.map aL).flatten:=by
 simp only[Ro,aY,mem_flatMap,mem_map]at h;obtain⟨a,⟨r,hr,rfl⟩,hk⟩:=h;rw[dZ]at hk;exact List.mem_flatten.2 ⟨_,mem_map.2 ⟨r,hr,rfl⟩,hk⟩
theorem Gt (hi:∀ q∈NM,ids[q.2]? =some q.1) (hv:∀ k∈VRS,k∉ids) (hrd:∀ k,(∃ q,(k,q)∈NM)∨k∈VRS->k∈rd) (ho:∀ q∈NM,∀ c l,get q.1=some (.lst c l)->olen q.2=l.length):
 ∀ (os:List (Nat×OP X.ι)) (m m':MG X),FL get os m=some m'->(∀ q∈m'.nm,q∈NM)->(∀ c∈m'.chk,c=true)->(∀ k∈m'.vr,k∈VRS)->
 ∃ new,m'.dcs=m.dcs++new∧∃ xs:List (Nat×DObj X),(∀ rest,bB olen os (new++rest)=xs.map fun p=>(p.1,some p.2))∧
   ∃ bs mo,(∀ p∈mo,p)∧Jy P (bM rd (dI get)) ids (os.map fun p=>(ids[p.1]?).getD 0) bs=some (xs.map fun p=>aY p.2,mo)∧aeA (bM rd (dI get)) NM VRS bs (os.map fun p=>(ids[p.1]?).getD 0)
 |[],m,m',h,_,_,_=>by
  simp only[FL,Option.some.injEq]at h;subst h;exact⟨[],by simp,[],fun rest=>rfl,[],[],by simp,rfl,fun j hs q o h=>by simp at h⟩
 |(k,op)::r,m,m',h,hn,hc,hr=>by
  simp only[FL]at h;rw[ai]at h;obtain⟨o,h1,h⟩:=h;split at h
  ·rename_i c c' l;rw[ai]at h;obtain⟨l',h2,h⟩:=h;have hm:=(oo r _ m' h).1;have hq:(nmG m k,k)∈NM:=hn _ (hm.1 _ (by simp));have hid:(ids[k]?).getD 0=nmG m k:=(by rw[hi _ hq];rfl);have hget:=dH (hrd (nmG m k) (.inl ⟨k,hq⟩)) h1;obtain⟨h3,h4⟩:=iH h2;obtain⟨n2,a2,xs,b2,bs,mo,p2,q2,r2⟩:=Gt hi hv hrd ho r _ m' h hn hc hr;refine⟨[⟨.sl c,l'⟩]++n2,by rw[a2,append_assoc],(k,.lst c l')::xs,fun rest=>by simp only[append_assoc,cons_append,nil_append,bB,b2,map_cons],.dat (CT.sz X c,l'.map (CT.row X.toSE c))::bs,((aY (.lst c' l)).sz=CT.sz X c∧bR ((aY (.lst c' l)).rows.take (l'.map (CT.row X.toSE c)).length)=aK (l'.map (CT.row X.toSE c)))::mo,?_,?_,?_⟩
   ·intro p hp;rcases mem_cons.1 hp with rfl |hp
    ·refine⟨h3,?_⟩;simp only[aY,h4];rw[List.take_of_length_le (by simp[aK])];simp[bR,aK,Function.comp_def,wk]
    ·exact p2 p hp
   ·simp only[map_cons,Jy,Zc,hid,hget,bind_some,q2,cons_append,nil_append];rfl
   ·intro j hs q o' hj hq' ho';cases j with
    |zero=>simp at hj
    |succ j=>exact r2 j hs q o' (by simpa using hj) (by simpa using hq') ho'
  ·rename_i sz rows sz' rows';split at h
   ·rename_i hsz;rw[ai]at h;obtain⟨m1,h2,h⟩:=h;have hm1:=(yO rows _ _ m1 h2).1;have hm:=(oo r _ m' h).1;have hq:(nmG m k,k)∈NM:=hn _ (hm.1 _ (hm1.1 _ (by simp)));have hid:(ids[k]?).getD 0=nmG m k:=(by rw[hi _ hq];rfl);have hget:=dH (hrd (nmG m k) (.inl ⟨k,hq⟩)) h1;obtain⟨n1,a1,qs,b1,⟨hs1,o1,p1,q1⟩,r1⟩:=O1 (P:=P) hi hv hrd ho rows _ _ m1 h2 (fun q hq=>hn q (hm.1 q hq)) (fun q hq=>hc q (hm.2.1 q hq)) (fun q hq=>hr q (hm.2.2 q hq));obtain⟨n2,a2,xs,b2,bs,mo,p2,q2,r2⟩:=Gt hi hv hrd ho r _ m' h hn hc hr;subst hsz;refine⟨n1++n2,by rw[a2,a1,append_assoc],(k,.cells sz qs)::xs,fun rest=>by simp only[append_assoc,bB,b1,b2,map_cons],.cel hs1::bs,o1++mo,dX p1 p2,?_,?_⟩
    ·simp only[map_cons,Jy,Zc,hid,hget,bind_some,aY,q1,q2]
    ·intro j hs q o' hj hq' ho';cases j with
     |zero=>
      simp only[map_cons,List.getElem?_cons_zero,Option.some.injEq]at hq';rw[<- hq',hid,hget]at ho';injection ho' with ho';subst ho';exact fun z hz=>r1 z (Lj hz)
     |succ j=>exact r2 j hs q o' (by simpa using hj) (by simpa using hq') ho'
   ·cases h
  ·cases h
end
end
end Go.Gb
namespace Go.Gb
open Go.RowKit
section
variable {X:SX} {A:Type}
theorem acd:∀ (l:List (CT X.ι)) (v:VT (X:=X) l),(uw l v).map (·.c)=l
 |[],_=>rfl
 |[_],_=>rfl
 |c::c'::l,v=>by simp only[uw,map_cons,acd (c'::l) v.2]
theorem Nu:∀ {l:List Tree},(∀ t∈l,t.flat)->l5 (l.map AV.t)
 |[],_=>trivial
 |t::l,h=>⟨h t (by simp),Nu (fun u hu=>h u (by simp[hu]))⟩
theorem XU {c:CT X.ι} (h:wW c=true) (x:CT.T X.toSE c):rf (CT.tv X.toSE c x).av:=by
 have hf:=rD h x;cases c
 case st i=>exact Nu hf
 all_goals first |exact hf _ (mem_singleton.2 rfl) |cases h
section
variable {ol:Nat->Nat}
mutual
theorem ahP:∀ (p:Pt X.ι) (L:List (DC X)) (cs:List (CT X.ι)),L.map (·.c)=p.vars++cs->p.vars.all wW=true->rf (den (eP ol p L).1)∧(eP ol p L).2.map (·.c)=cs
 | .v c,L,cs,h,hs=>by
  match L,h with
  |d::r,h=>
   simp only[Pt.vars,map_cons,List.singleton_append,List.cons.injEq]at h;simp only[Pt.vars,all_cons,List.all_nil,Bool.and_true]at hs;exact⟨XU (h.1 ▸ hs) d.x,h.2⟩
  |[],h=>simp[Pt.vars]at h
 | .o k,L,cs,h,_=>⟨trivial,by simpa[Pt.vars,eP]using h⟩
 | .p k,L,cs,h,_=>⟨trivial,by simpa[Pt.vars,eP]using h⟩
 | .mp k,L,cs,h,_=>⟨trivial,by simpa[Pt.vars,eP]using h⟩
 | .nil,L,cs,h,_=>⟨trivial,by simpa[Pt.vars,eP]using h⟩
 | .od k,L,cs,h,_=>by
  match L,h with
  |d::r,h=>
   simp only[Pt.vars,map_cons,List.singleton_append,List.cons.injEq]at h;exact⟨trivial,h.2⟩
  |[],h=>simp[Pt.vars]at h
 | .f F fs ps,L,cs,h,hs=>by
  simp only[Pt.vars,List.all_append,and_eq_true]at hs;simp only[Pt.vars,append_assoc]at h;obtain⟨a1,a2⟩:=CR fs L _ h hs.1;obtain⟨b1,b2⟩:=CR ps _ _ a2 hs.2;exact⟨⟨a1,b1⟩,b2⟩
 | .a ps,L,cs,h,hs=>by
  simp only[Pt.vars]at h hs;exact CR ps L cs h hs
theorem CR:∀ (ps:List (Pt X.ι)) (L:List (DC X)) (cs:List (CT X.ι)),L.map (·.c)=varsL ps++cs->(varsL ps).all wW=true->l5 (aW (ePs ol ps L).1)∧(ePs ol ps L).2.map (·.c)=cs
 |[],L,cs,h,_=>⟨trivial,by simpa[varsL,ePs]using h⟩
 |p::ps,L,cs,h,hs=>by
  simp only[varsL,List.all_append,and_eq_true]at hs;simp only[varsL,append_assoc]at h;obtain⟨a1,a2⟩:=ahP p L _ h hs.1;obtain⟨b1,b2⟩:=CR ps _ _ a2 hs.2;exact⟨⟨a1,b1⟩,b2⟩
end
mutual
theorem ahQ:∀ (p:Pt X.ι) (L:List (DC X)),∀ j∈drefs (eP ol p L).1,j∈p.refs
 | .v c,L,j,h=>by cases L<;>simp[eP,drefs]at h
 | .o k,L,j,h=>by simpa[eP,drefs,Pt.refs]using h
 | .p k,L,j,h=>by simpa[eP,drefs,Pt.refs]using h
 | .mp k,L,j,h=>by simpa[eP,drefs,Pt.refs]using h
 | .nil,L,j,h=>by simp[eP,drefs]at h
 | .od k,L,j,h=>by cases L<;>simp[eP,drefs]at h<;>simp[Pt.refs,h]
 | .f F fs ps,L,j,h=>by
  simp only[eP,drefs,mem_append]at h;simp only[Pt.refs,mem_append];exact h.imp (yP fs _ j) (yP ps _ j)
 | .a ps,L,j,h=>by
  simp only[eP,drefs]at h;simp only[Pt.refs];exact yP ps _ j h
theorem yP:∀ (ps:List (Pt X.ι)) (L:List (DC X)),∀ j∈aL (ePs ol ps L).1,j∈BL ps
 |[],L,j,h=>by simp[ePs,aL]at h
 |p::ps,L,j,h=>by
  simp only[ePs,aL,mem_append]at h;simp only[BL,mem_append];exact h.imp (ahQ p _ j) (yP ps _ j)
end
theorem JZ:∀ (rs:List (List (Pt X.ι))) (L:List (DC X)) (cs:List (CT X.ι)),L.map (·.c)=uo rs++cs->(uy ol rs L).2.map (·.c)=cs∧((uo rs).all wW=true->∀ r∈(uy ol rs L).1,l5 (aW r))
 |[],L,cs,h=>⟨by simpa[uo,uy]using h,by simp[uy]⟩
 |r::rs,L,cs,h=>by
  simp only[uo,append_assoc]at h;have step:(ePs ol r L).2.map (·.c)=uo rs++cs:=ePs_codes r L _ h;obtain⟨b1,b2⟩:=JZ rs _ _ step;refine⟨b1,fun hs q hq=>?_⟩;simp only[uo,List.all_append,and_eq_true]at hs;simp only[uy,mem_cons]at hq;rcases hq with rfl |hq
  ·exact (CR r L _ h hs.1).1
  ·exact b2 hs.2 q hq
where
 ePs_codes (ps:List (Pt X.ι)) (L:List (DC X)) (cs:List (CT X.ι)) (h:L.map (·.c)=varsL ps++cs):(ePs ol ps L).2.map (·.c)=cs:=codesL ps L cs h
 codes1:∀ (p:Pt X.ι) (L:List (DC X)) (cs:List (CT X.ι)),L.map (·.c)=p.vars++cs->(eP ol p L).2.map (·.c)=cs
  | .v c,L,cs,h=>by
   match L,h with
   |d::r,h=>simp only[Pt.vars,map_cons,List.singleton_append,List.cons.injEq]at h;exact h.2
   |[],h=>simp[Pt.vars]at h
  | .o k,L,cs,h=>by simpa[Pt.vars,eP]using h
  | .p k,L,cs,h=>by simpa[Pt.vars,eP]using h
  | .mp k,L,cs,h=>by simpa[Pt.vars,eP]using h
  | .nil,L,cs,h=>by simpa[Pt.vars,eP]using h
  | .od k,L,cs,h=>by
   match L,h with
   |d::r,h=>simp only[Pt.vars,map_cons,List.singleton_append,List.cons.injEq]at h;exact h.2
   |[],h=>simp[Pt.vars]at h
  | .f F fs ps,L,cs,h=>by
   simp only[Pt.vars,append_assoc]at h;exact codesL ps _ _ (codesL fs L _ h)
  | .a ps,L,cs,h=>by
   simp only[Pt.vars]at h;exact codesL ps L cs h
 codesL:∀ (ps:List (Pt X.ι)) (L:List (DC X)) (cs:List (CT X.ι)),L.map (·.c)=varsL ps++cs->(ePs ol ps L).2.map (·.c)=cs
  |[],L,cs,h=>by simpa[varsL,ePs]using h
  |p::ps,L,cs,h=>by
   simp only[varsL,append_assoc]at h;exact codesL ps _ _ (codes1 p L _ h)
theorem R6:∀ (rs:List (List (Pt X.ι))) (L:List (DC X)),∀ j∈((uy ol rs L).1.map aL).flatten,j∈rs.flatMap BL
 |[],L,j,h=>by simp[uy]at h
 |r::rs,L,j,h=>by
  simp only[uy,map_cons,flatten_cons,mem_append]at h;simp only[List.flatMap_cons,mem_append];exact h.imp (yP r _ j) (R6 rs _ j)
theorem yQ:∀ (O:List (Nat×OP X.ι)) (L:List (DC X)),((bF (bB ol O L)).map (·.1)).Sublist (O.map (·.1))∧(∀ p∈bF (bB ol O L),∃ op,(p.1,op)∈O∧∀ j∈orefs p.2,j∈op.refs)∧
 (L.map (·.c)=varsO O->(O.all fun q=>match q.2 with | .l c=>wW c | .m _ _=>false | .c _ rows=>(uo rows).all wW)=true->∀ p∈bF (bB ol O L),∀ r∈(aY p.2).rows,l5 r)
 |[],L=>⟨by simp[bB,bF],by simp[bB,bF],by simp[bB,bF]⟩
 |(k,.l c)::O,L=>by
  match L with
  |[]=>exact⟨by simp[bB,bF],by simp[bB,bF],by simp[bB,bF]⟩
  |⟨.sl c',x⟩::L=>
   obtain⟨h1,h2,h3⟩:=yQ O L;refine⟨?_,?_,?_⟩
   ·simp only[bB,bF,map_cons];exact h1.cons_cons _
   ·intro p hp;simp only[bB,bF,mem_cons]at hp;rcases hp with rfl |hp
    ·exact⟨.l c,by simp,by simp[orefs]⟩
    ·obtain⟨op,g1,g2⟩:=h2 p hp;exact⟨op,mem_cons_of_mem _ g1,g2⟩
   ·intro hL hs p hp r hr;simp only[map_cons,varsO,List.cons.injEq]at hL;simp only[all_cons,and_eq_true]at hs;simp only[bB,bF,mem_cons]at hp;rcases hp with rfl |hp
    ·obtain⟨e,_⟩:=hL;injection e with e;simp only[aY,aK,mem_map]at hr;obtain⟨q,⟨y,hy,rfl⟩,rfl⟩:=hr;exact Nu (rD (e ▸ hs.1) y)
    ·exact h3 hL.2 hs.2 p hp r hr
  |⟨.int _,x⟩::L=>exact⟨by simp[bB,bF],by simp[bB,bF],by simp[bB,bF]⟩
  |⟨.bool,x⟩::L=>exact⟨by simp[bB,bF],by simp[bB,bF],by simp[bB,bF]⟩
  |⟨.str,x⟩::L=>exact⟨by simp[bB,bF],by simp[bB,bF],by simp[bB,bF]⟩
  |⟨.any,x⟩::L=>exact⟨by simp[bB,bF],by simp[bB,bF],by simp[bB,bF]⟩
  |⟨.mp _ _,x⟩::L=>exact⟨by simp[bB,bF],by simp[bB,bF],by simp[bB,bF]⟩
  |⟨.st _,x⟩::L=>exact⟨by simp[bB,bF],by simp[bB,bF],by simp[bB,bF]⟩
 |(k,.m kc vc)::O,L=>by
  match L with
  |[]=>exact⟨by simp[bB,bF],by simp[bB,bF],by simp[bB,bF]⟩
  |⟨.mp kc' vc',x⟩::L=>
   obtain⟨h1,h2,h3⟩:=yQ O L;refine⟨?_,?_,?_⟩
   ·simp only[bB,bF,map_cons];exact h1.cons_cons _
   ·intro p hp;simp only[bB,bF,mem_cons]at hp;rcases hp with rfl |hp
    ·exact⟨.m kc vc,by simp,by simp[orefs]⟩
    ·obtain⟨op,g1,g2⟩:=h2 p hp;exact⟨op,mem_cons_of_mem _ g1,g2⟩
   ·intro hL hs;simp at hs
  |⟨.sl _,x⟩::L=>exact⟨by simp[bB,bF],by simp[bB,bF],by simp[bB,bF]⟩
  |⟨.int _,x⟩::L=>exact⟨by simp[bB,bF],by simp[bB,bF],by simp[bB,bF]⟩
  |⟨.bool,x⟩::L=>exact⟨by simp[bB,bF],by simp[bB,bF],by simp[bB,bF]⟩
  |⟨.str,x⟩::L=>exact⟨by simp[bB,bF],by simp[bB,bF],by simp[bB,bF]⟩
  |⟨.any,x⟩::L=>exact⟨by simp[bB,bF],by simp[bB,bF],by simp[bB,bF]⟩
  |⟨.st _,x⟩::L=>exact⟨by simp[bB,bF],by simp[bB,bF],by simp[bB,bF]⟩
 |(k,.c sz rows)::O,L=>by
  obtain⟨h1,h2,h3⟩:=yQ O (uy ol rows L).2;refine⟨?_,?_,?_⟩
  ·simp only[bB,bF,map_cons];exact h1.cons_cons _
  ·intro p hp;simp only[bB,bF,mem_cons]at hp;rcases hp with rfl |hp
   ·exact⟨.c sz rows,by simp,fun j hj=>R6 rows L j hj⟩
   ·obtain⟨op,g1,g2⟩:=h2 p hp;exact⟨op,mem_cons_of_mem _ g1,g2⟩
  ·intro hL hs p hp r hr;simp only[varsO]at hL;simp only[all_cons,and_eq_true]at hs;obtain⟨e1,e2⟩:=JZ (ol:=ol) rows L _ hL;simp only[bB,bF,mem_cons]at hp;rcases hp with rfl |hp
   ·simp only[aY,mem_map]at hr;obtain⟨q,hq,rfl⟩:=hr;exact e2 hs.1 q hq
   ·exact h3 e1 hs.2 p hp r hr
end
theorem Nv (k:Nat):∀ os:List (Nat×DObj X),olk (pI os) k=(dlk os k).map aY
 |[]=>rfl
 |(j,o)::r=>by
  simp only[pI,map_cons,olk,dlk];split
  ·rfl
  ·exact Nv k r
theorem R7 (f:Nat->Nat) (c:CT X.ι) (x:CT.T X.toSE c):rnA f (CT.tv X.toSE c x).av=(CT.tv X.toSE c x).av:=(AJ f (.c c x)).symm
theorem ZI (f:Nat->Nat) (o:DObj X):aY (rnO f o)=I8 f (aY o):=by
 cases o with
 |cells sz rows=>simp only[rnO,aY,I8,map_map];congr 1;exact map_congr_left fun r _=>CP f r
 |lst c l=>simp only[rnO,aY,I8,aK,map_map];congr 1;exact map_congr_left fun r _=>(ab8 f _).symm
 |map kc vc l=>simp only[rnO,aY,I8,map_map];congr 1;exact map_congr_left fun r _=>by simp only[Function.comp_apply,zV,R7]
theorem aeB (i:Nat) (ids:List Nat) (os:List (Nat×DObj X)):eZ (adN i ids os)=Xz i ids (pI os):=by
 simp only[adN,Xz,oL];congr 1
 ·simp only[eZ,map_map];refine map_congr_left fun p _=>?_;simp only[Function.comp_apply,Nv,Option.map_map];congr 1;cases dlk os p.2<;>simp[ZI]
 ·simp only[eZ,pI,List.filter_map,map_map];refine map_congr_left fun q _=>?_;simp[ZI]
theorem R8 {ds:List (DV X)}:(∀ j∈refs (den (yK ds)),j∈aL ds)∧(l5 (aW ds)->rf (den (yK ds))):=by
 match ds with
 |[]=>exact⟨fun j hj=>by simp[yK,den,aW,refs,cZ]at hj,fun _=>by simp only[yK,den,rf];exact trivial⟩
 |[d]=>exact⟨fun j hj=>by simp only[yK,fE]at hj;simpa[aL]using hj,fun h=>h.1⟩
 |d::e::r=>exact⟨fun j hj=>by simp only[yK,den,refs,dZ]at hj;exact hj,fun h=>h⟩
theorem V9:∀ xs:List (Nat×DObj X),bF (xs.map fun p=>(p.1,some p.2))=xs
 |[]=>rfl
 |p::xs=>by simp only[map_cons,bF,V9 xs]
theorem adO:∀ l:List Tree,cZ (l.map AV.t)=[]
 |[]=>rfl
 |_::l=>by simp only[map_cons,cZ,refs,adO l,nil_append]
theorem XV {P:Program} {g:GSig X} {F:FuncId} (hg:aew P F g) {i:Nat} {first args caps:List (DV X)} {get:Nat->Option (DObj X)} {k:KK X A} {r:A} (h:ab9 g i (first++args++caps) get k=some r):
 ∃ orc rd wr dv upd out,ig P i (den (.fn F first caps)) (aW args) orc (bM rd (dI get))=some out∧ic out.obs∧out.v=den dv∧out.upd=eZ upd∧(∀ p∈upd,p.1=nid i∨p.1∈wr)∧k dv upd rd wr=some r:=by
 unfold ab9 at h;rw[ai]at h;obtain⟨m1,h1,h⟩:=h;rw[ai]at h;obtain⟨m,h2,h⟩:=h;obtain⟨h3,h⟩:=cond_some h;rw[ai]at h;obtain⟨v,h4,h⟩:=h;obtain⟨h5,h⟩:=l6 h;rw[ai]at h;obtain⟨rr,h6,h⟩:=h;simp only[and_eq_true]at h3;obtain⟨hok,hokG⟩:=h3;simp only at h;generalize hids:(List.range g.inO.length).map (nmG m)=ids at h hokG;simp only[GSig.ok,and_eq_true,decide_eq_true_eq]at hok;obtain⟨⟨⟨⟨n1,n2⟩,n3⟩,n4⟩,n5⟩:=hok;simp only[okG,and_eq_true,decide_eq_true_eq]at hokG;obtain⟨⟨hnd,hnm⟩,hvr⟩:=hokG;have hlen:ids.length=g.inO.length:=by rw[<- hids];simp
 have hi:∀ q∈m.nm,ids[q.2]? =some q.1:=by
  intro q hq;have:=all_eq_true.1 hnm q hq;split at this
  ·rename_i k' e;rw[e,Nat.eq_of_beq_eq_true this]
  ·cases this
 have hv:∀ k∈m.vr,k∉ids:=fun k hk=>by
  have:=all_eq_true.1 hvr k hk;simpa using this
 have hrd:∀ k,(∃ q,(k,q)∈m.nm)∨k∈m.vr->k∈ids++m.vr:=by
  rintro k (⟨q,hq⟩ |hk)
  ·exact mem_append_left _ (List.mem_of_getElem? (hi _ hq))
  ·exact mem_append_right _ hk
 have hm2:=(oo _ _ _ h2).1;have hdcs:=RU h4;obtain⟨_,nA,dA,lA⟩:=yN _ _ _ _ h1;simp only[nil_append]at dA;obtain⟨nB,dB,lB⟩:=JY (NM:=m.nm) _ _ _ h2 (fun q hq=>hq);have hL:m.dcs=nA++nB:=by rw[dB,dA]
 have hdrop:(uw _ v).drop (varsL g.inP).length=nB:=by rw[hdcs,hL,<- lA,List.drop_left]
 have htake:(uw _ v).take (varsL g.inP).length=nA:=by rw[hdcs,hL,<- lA,List.take_left]
 have ho:∀ q∈m.nm,∀ c l,get q.1=some (.lst c l)->BJ g.inO nB q.2=l.length:=by
  rintro⟨p,q⟩ hq c l hl;have hq2:=hi _ hq;have hqn:q < g.inO.length:=by rw[<- hlen];exact (List.getElem?_eq_some_iff.1 hq2).1
  obtain⟨p',o,g1,g2,g3⟩:=lB [] q (by rw[n1];exact List.mem_range.2 hqn);have:p'=p:=by
   have e1:=hi _ g1;rw[hq2]at e1;injection e1 with e1;exact e1.symm
  subst this;simp only at hl;rw[hl]at g2;injection g2 with g2;have h3:=g3 c l g2.symm;rw[append_nil]at h3;have hk:=(El g.inO nB).nodup (by rw[n1];exact List.nodup_range);simp only[BJ,ru hk h3,Option.getD_some]
 obtain⟨nA',dA',ds',eA,⟨hs,obs,pA,qA⟩,rA⟩:=CQ (P:=P) (ids:=ids) (rd:=ids++m.vr) (NM:=m.nm) (VRS:=m.vr) (olen:=BJ g.inO nB) hi hv hrd ho _ _ _ _ h1 (fun q hq=>hm2.1 q hq) (fun c hc=>h5 c (hm2.2.1 c hc)) (fun q hq=>hm2.2.2 q hq);obtain⟨nB',dB',xs,eB,bs,mo,pB,qB,rB⟩:=Gt (P:=P) (ids:=ids) (rd:=ids++m.vr) (NM:=m.nm) (VRS:=m.vr) (olen:=BJ g.inO nB) hi hv hrd ho _ _ _ h2 (fun q hq=>hq) h5 (fun q hq=>hq);have eqA:nA'=nA:=by simp only[nil_append]at dA';rw[<- dA',dA]
 have eqB:nB'=nB:=List.append_cancel_left (dB'.symm.trans dB);subst eqA eqB;have eA0:=eA [];have eB0:=eB [];rw[append_nil]at eA0 eB0;have hargs:g.args v=ds':=by simp only[GSig.args,RY,hdrop,htake,eA0]
 have hobjs:g.objs v=xs:=by simp only[GSig.objs,Zu,hdrop,eB0,V9]
 have hidl:(g.inO.map fun p=>(ids[p.1]?).getD 0)=ids:=by
  have:(g.inO.map fun p=>(ids[p.1]?).getD 0)=(g.inO.map (·.1)).map fun j=>(ids[j]?).getD 0:=by rw[map_map];rfl
  rw[this,n1];refine List.ext_getElem (by simp[hlen]) fun j a b=>?_;simp[List.getElem?_eq_getElem b]
 rw[hidl]at qB rB;have qA0:=qA [];rw[append_nil,eU,eU]at qA0;have hcon:=hg v rr h6;rw[hargs,hobjs]at hcon;obtain⟨s1,s2,s3⟩:=yQ (ol:=BJ g.outO ((uw (varsS (zipS 0 g.outP)++varsO g.outO) rr).drop (varsL g.outP).length)) g.outO ((uw _ rr).drop (varsL g.outP).length);have nmok:∀ k,nmB g.inO.length k=true->Zd ids.length k:=by
  intro k hk;simp only[nmB,Bool.or_eq_true,and_eq_true,Nat.blt_eq,Nat.ble_eq]at hk;simp only[Zd,hlen];exact hk
 have good:VI ids.length (pI (g.outs rr)) (den (g.res rr)):=by
  refine⟨?_,?_,?_,?_⟩
  ·intro q hq;simp only[pI,mem_map]at hq;obtain⟨p,hp,rfl⟩:=hq;obtain⟨op,g1,_⟩:=s2 p hp;have:=all_eq_true.1 n3 _ g1;simp only[and_eq_true]at this;exact nmok _ this.1
  ·have:(pI (g.outs rr)).map (·.1)=(g.outs rr).map (·.1):=(by simp[pI]);rw[this];exact s1.nodup n4
  ·intro q hq r' hr' j hj;simp only[pI,mem_map]at hq;obtain⟨p,hp,rfl⟩:=hq;obtain⟨op,g1,g2⟩:=s2 p hp;have:=all_eq_true.1 n3 _ g1;simp only[and_eq_true]at this;refine nmok _ (all_eq_true.1 this.2 j (g2 j ?_));obtain⟨pk,po⟩:=p;cases po with
   |cells sz rows=>exact Lj (mem_flatMap.2 ⟨r',hr',hj⟩)
   |lst c l=>
    simp only[aY,aK,mem_map]at hr';obtain⟨z,_,rfl⟩:=hr';rw[adO]at hj;simp at hj
   |map kc vc l=>
    simp only[aY,mem_map]at hr';obtain⟨z,_,rfl⟩:=hr';simp only[cZ,Ei,append_nil]at hj;simp at hj
  ·intro j hj;have:=(R8 (ds:=RY g.outP g.outO (uw _ rr))).1 j hj;exact nmok _ (all_eq_true.1 n5 j (yP g.outP _ j this))
 have flat:g.flat=true->flatG (pI (g.outs rr)) (den (g.res rr)):=by
  intro hf;simp only[GSig.flat,and_eq_true]at hf;have hc:(uw (varsS (zipS 0 g.outP)++varsO g.outO) rr).map (·.c)=varsL g.outP++varsO g.outO:=(acd _ rr).trans (by rw[Np]);refine⟨(R8 (ds:=RY g.outP g.outO (uw _ rr))).2 ?_,?_⟩
  ·refine (CR (ol:=_) g.outP _ [] ?_ hf.1).1;rw[append_nil,map_take,hc,List.take_left]
  ·intro q hq r' hr';simp only[pI,mem_map]at hq;obtain⟨p,hp,rfl⟩:=hq;exact s3 (by rw[map_drop,hc,List.drop_left]) hf.2 p hp r' hr'
 have lids:Rp (bM (ids++m.vr) (dI get)) (aW first++aW args++aW caps) ids m.vr bs:=by
  refine⟨hv,fun j hj hn=>?_,fun j hs' q o e1 e2 e3 z hz hn=>?_⟩
  ·rw[<- eU,<- eU,dZ]at hj;rcases rA j hj with ⟨q,hq⟩ |hj
   ·exact absurd (List.mem_of_getElem? (hi _ hq)) hn
   ·exact hj
  ·rcases rB j hs' q o e1 e2 e3 z hz with ⟨q',hq⟩ |hz
   ·exact absurd (List.mem_of_getElem? (hi _ hq)) hn
   ·exact hz
 refine⟨.callg ids m.vr bs hs (pI (g.outs rr)) (den (g.res rr)) g.flat,ids++m.vr,_,_,_,
  ⟨rnA (cn i ids) (den (g.res rr)),Xz i ids (pI (g.outs rr))++(if g.flat then []else m.vr.map fun k=>(k,none)),obs++mo++[FnG P F (aW ds') (xs.map fun p=>aY p.2) (pI (g.outs rr)) (den (g.res rr)),VI ids.length (pI (g.outs rr)) (den (g.res rr)),Rp (bM (ids++m.vr) (dI get)) (aW first++aW args++aW caps) ids m.vr bs]++(if g.flat then [flatG (pI (g.outs rr)) (den (g.res rr))]else [])⟩,?_,?_,(AJ _ _).symm,?_,?_,h⟩
 ·simp only[den,ig,K5,qB,qA0,bind_some];rw[if_pos ⟨hnd,by omega⟩]
 ·refine nT _ (dX (dX (dX pA pB) ?_) ?_)
  ·intro z hz;simp only[mem_cons,List.not_mem_nil,or_false]at hz;rcases hz with rfl |rfl |rfl
   ·exact hcon
   ·exact good
   ·exact lids
  ·intro z hz;cases hf:g.flat with
   |true=>rw[hf]at hz;simp only[if_true,mem_singleton]at hz;subst hz;exact flat hf
   |false=>rw[hf]at hz;simp at hz
 ·simp only[oL,aeB];congr 1;cases g.flat with
  |true=>rfl
  |false=>exact (CJ m.vr).symm
 ·intro p hp;refine .inr ?_;rcases mem_append.1 hp with hp |hp
  ·exact mem_append_left _ (mem_append_right _ (mem_map.2 ⟨p,hp,rfl⟩))
  ·cases hf:g.flat with
   |true=>rw[hf]at hp;simp at hp
   |false=>
    rw[hf]at hp;simp only[Bool.false_eq_true,if_false,mem_map]at hp;obtain⟨z,hz,rfl⟩:=hp;exact mem_append_right _ hz
end
section
variable {X:SX} {A:Type}
def R9:RT X.ι->Bool
 | .d c=>wW c
 | .fresh e=>wW e
 | .whole _=>true
 | .mu c=>wW c
 | .mr c=>wW c
 | .mv=>true
theorem ZJ {c:CT X.ι} (h:wW c=true) (x:CT.T X.toSE c):(CT.tv X.toSE c x).flat:=by
 cases c
 case st i=>exact rD h x
 all_goals first |exact trivial |cases h
theorem Sb {ns:List Nat} {q:RT X.ι} {x:RT.T X q} (h:R9 q=true):∀ c∈RZ ns q x,c.flat:=by
 intro c hc;cases q<;>simp only[RZ,mem_singleton,List.not_mem_nil]at hc
 case d c=>subst hc;exact ZJ h x
 case fresh e=>
  subst hc;intro row hr;obtain⟨y,_,rfl⟩:=mem_map.1 hr;exact rD h y
 case whole j=>subst hc;exact trivial
theorem O3 {ns:List Nat}:∀ {l:List (RT X.ι)} {x:pz X l},l.all R9=true->∀ c∈BK ns l x,c.flat
 |[],x,_,c,hc=>by simp[BK]at hc
 |[q],x,h,c,hc=>Sb (by simpa using h) c hc
 |q::q'::l,x,h,c,hc=>by
  simp only[all_cons,and_eq_true]at h;simp only[BK,mem_append]at hc;rcases hc with hc |hc
  ·exact Sb h.1 c hc
  ·exact O3 (by simp only[all_cons,and_eq_true];exact h.2) c hc
theorem Sc {l:List (RT X.ι)} (x:pz X l) (h:l.all R9=true):(pJ l x).flat:=by
 have:=O3 (ns:=XP l x) (x:=x) h;unfold pJ;split
 ·rename_i c hc;exact this c (by rw[hc];simp)
 ·exact this
theorem Wd {q:RT X.ι} {x:RT.T X q} (h:R9 q=true):Rf (mQ q x):=by
 intro p hp;cases q<;>simp only[mQ,mem_singleton,List.not_mem_nil,Option.some.injEq,reduceCtorEq]at hp
 case mu c=>
  subst hp;intro r hr;obtain⟨y,_,rfl⟩:=mem_map.1 hr;exact rD h y
 case mr c=>
  subst hp;intro r hr;obtain⟨y,_,rfl⟩:=mem_map.1 hr;exact rD h y
theorem Wh:∀ {l:List (RT X.ι)} {x:pz X l},l.all R9=true->Rf (kC l x)
 |[],x,_=>fun p hp=>by simp[kC]at hp
 |[q],x,h=>Wd (q:=q) (by simpa using h)
 |q::q'::l,x,h=>by
  simp only[all_cons,and_eq_true]at h;intro p hp;rcases mem_append.1 (show some p∈mQ q x.1++kC (q'::l) x.2 from hp)with hp |hp
  ·exact Wd h.1 p hp
  ·exact Wh (l:=q'::l) (by simp only[all_cons,and_eq_true];exact h.2) p hp
def Gu (i:Nat) (ids ns:List Nat):(q:RT X.ι)->RT.T X q->List (DV X)×List (Nat×Option (DObj X))
 | .d c,x=>([.c c x],[])
 | .fresh e,l=>([.own (nid i) 0 l.length],[(nid i,some (.lst e l))])
 | .whole j,_=>([match ids[j]? with |some k=> .own k 0 (ns.getD j 0) |none=> .undef],[])
 |_,_=>([],[])
def JD (i:Nat) (ids ns:List Nat):(l:List (RT X.ι))->pz X l->Option (List (DV X)×List (Nat×Option (DObj X)))
 |[],_=>some ([],[])
 |[q],x=>some (Gu i ids ns q x)
 |q::q'::l,x=>(JD i ids ns (q'::l) x.2).bind fun p=>if (Gu i ids ns q x.1).2.isEmpty || p.2.isEmpty then some ((Gu i ids ns q x.1).1++p.1,(Gu i ids ns q x.1).2++p.2)else none
def ajd:List (DV X)->DV X
 |[d]=>d
 |ds=> .tup ds
def aeC (i:Nat) (ids:List Nat) (l:List (RT X.ι)) (x:pz X l):Option (DV X×List (Nat×Option (DObj X))):=
 (JD i ids (XP l x) l x).bind fun p=>some (ajd p.1,p.2)
theorem XW (u:List (Nat×Option (DObj X))):(eZ u).isEmpty=u.isEmpty:=by cases u<;>rfl
theorem Wi (i:Nat) (ids ns:List Nat) (q:RT X.ι) (x:RT.T X q):(∃ c,RZ ns q x=[c]∧∃ d,(Gu i ids ns q x).1=[d]∧I7 i ids c=(den d,eZ (Gu i ids ns q x).2))∨(RZ ns q x=[]∧Gu i ids ns q x=([],[])):=by
 cases q
 case d c=>exact .inl ⟨_,rfl,_,rfl,rfl⟩
 case fresh e=>exact .inl ⟨_,rfl,_,rfl,by simp[I7,Gu,den,eZ,aY,aK]⟩
 case whole j=>
  refine .inl ⟨_,rfl,_,rfl,?_⟩;simp only[I7,eZ,Gu,map_nil,Prod.mk.injEq,and_true];cases ids[j]?<;>rfl
 all_goals exact .inr ⟨rfl,rfl⟩
theorem ZK (i:Nat) (ids:List Nat) (c:RC):KX i ids [c]=some ([(I7 i ids c).1],(I7 i ids c).2):=by simp[KX]
theorem Wj (i:Nat) (ids ns:List Nat):∀ (l:List (RT X.ι)) (x:pz X l) (p:List (DV X)×List (Nat×Option (DObj X))),JD i ids ns l x=some p->KX i ids (BK ns l x)=some (aW p.1,eZ p.2)
 |[],_,p,h=>by simp only[JD,Option.some.injEq]at h;subst h;rfl
 |[q],x,p,h=>by
  simp only[JD,Option.some.injEq]at h;subst h;simp only[BK];rcases Wi i ids ns q x with ⟨c,h1,d,h2,h3⟩ |⟨h1,h2⟩
  ·rw[h1,ZK,h2,h3];simp[aW]
  ·rw[h1,h2];rfl
 |q::q'::l,x,p,h=>by
  simp only[JD]at h;rw[ai]at h;obtain⟨p',h1,h⟩:=h;have ih:=Wj i ids ns (q'::l) x.2 p' h1;split at h
  ·rename_i hc;injection h with h;subst h;simp only[BK];rcases Wi i ids ns q x.1 with ⟨c,h1,d,h2,h3⟩ |⟨h1,h2⟩
   ·rw[h1];simp only[List.singleton_append,KX,ih,bind_some,h3,XW];rw[if_pos hc,h2];simp[aW,eZ]
   ·rw[h1,h2];simp only[nil_append];exact ih
  ·cases h
theorem ZL {i:Nat} {ids:List Nat} {l:List (RT X.ι)} {x:pz X l} {p:DV X×List (Nat×Option (DObj X))} (h:aeC i ids l x=some p):imp i ids (pJ l x)=some (den p.1,eZ p.2):=by
 unfold aeC at h;rw[ai]at h;obtain⟨p',h1,h⟩:=h;injection h with h;subst h;have ih:=Wj i ids _ l x p' h1;unfold pJ;split
 ·rename_i c hc;rw[hc,ZK]at ih;simp only[Option.some.injEq,Prod.mk.injEq]at ih;obtain⟨ds,u⟩:=p'
  match ds,ih with
  |[d],ih=>
   simp only[aW,List.cons.injEq,and_true]at ih;simp only[imp,ajd,<- ih.1,<- ih.2]
  |[],ih=>simp[aW]at ih
  |_::_::_,ih=>simp[aW]at ih
 ·rename_i hne;simp only[imp,ih,bind_some];obtain⟨ds,u⟩:=p'
  match ds,ih with
  |[],_=>rfl
  |_::_::_,_=>rfl
  |[d],ih=>
   exfalso;generalize hcs:BK (XP l x) l x=cs at ih hne
   match cs,ih,hne with
   |[],ih,_=>simp[KX,aW]at ih
   |[c],_,hne=>exact hne c rfl
   |c::c'::cs,ih,_=>
    simp only[KX]at ih;cases h3:KX i ids cs with
    |none=>rw[h3]at ih;simp at ih
    |some q=>
     rw[h3]at ih;simp only[bind_some]at ih;split at ih
     ·simp only[bind_some]at ih;split at ih
      ·simp[aW]at ih
      ·cases ih
     ·simp at ih
def ahR:(q:RT X.ι)->RT.T X q->List (Option (DObj X))
 | .mu c,x=>[some (.lst c x)]
 | .mr c,x=>[some (.cells (CT.sz X c) [yH c x])]
 | .mv,_=>[none]
 |_,_=>[]
def Sd:(l:List (RT X.ι))->pz X l->List (Option (DObj X))
 |[],_=>[]
 |[q],x=>ahR q x
 |q::q'::l,x=>ahR q x.1++Sd (q'::l) x.2
def Gv:List Nat->List (Option (DObj X))->List (Nat×Option (DObj X))
 |k::ids,p::os=>(k,p)::Gv ids os
 |_,_=>[]
theorem ZM (q:RT X.ι) (x:RT.T X q):(ahR q x).map (·.map aY)=(mQ q x).map (·.map aob):=by
 cases q<;>try rfl
 case mr c=>simp only[ahR,mQ,map_cons,map_nil,Option.map_some,aY,aob,om,aK,og]
theorem Nw:∀ (l:List (RT X.ι)) (x:pz X l),(Sd l x).map (·.map aY)=(kC l x).map (·.map aob)
 |[],_=>rfl
 |[q],x=>ZM q x
 |q::q'::l,x=>by simp only[Sd,kC,map_append,ZM,Nw (q'::l) x.2]
theorem Wl:∀ (ids:List Nat) (os:List (Option (DObj X))) (os':List (Option dn)),os.map (·.map aY)=os'.map (·.map aob)->eZ (Gv ids os)=BD ids os'
 |[],_,_,_=>by simp[Gv,BD,eZ]
 |_::_,[],[],_=>rfl
 |k::ids,p::os,p'::os',h=>by
  simp only[map_cons,List.cons.injEq]at h;have:=Wl ids os os' h.2;simp only[eZ]at this;simp only[Gv,BD,eZ,map_cons,h.1,this]
 |_::_,[],_::_,h=>by simp at h
 |_::_,_::_,[],h=>by simp at h
theorem J2:∀ {ids:List Nat} {os:List (Option (DObj X))} {p:Nat×Option (DObj X)},p∈Gv ids os->p.1∈ids
 |[],_,_,h=>by simp[Gv]at h
 |_::_,[],_,h=>by simp[Gv]at h
 |k::ids,q::os,p,h=>by
  simp only[Gv,mem_cons]at h;rcases h with rfl |h
  ·simp
  ·exact mem_cons_of_mem _ (J2 h)
def XY (get:Nat->Option (DObj X)) (d:DV X) (c:CT X.ι):Option (List (CT.T X.toSE c)×Nat×List Bool):=
 match d with
 | .own k 0 len=>(get k).bind fun o=>match o with
  | .lst b l=>(iq (.sl b) (.sl c) l).bind fun (l:List (CT.T X.toSE c))=>some (l,k,[eqL len (List.length l)])
  |_=>none
 |_=>none
def Sg (get:Nat->Option (DObj X)) (d:DV X) (c:CT X.ι):Option (CT.T X.toSE c×Nat):=
 match d with
 | .ptr k 0 0=>(get k).bind fun o=>match o with
  | .cells sz [row]=>if sz=CT.sz X c then (Ld c row).bind fun x=>some (x,k)else none
  |_=>none
 |_=>none
def lC (Γ:FuncId->Option (Sig X)) (get:Nat->Option (DObj X)):List (DV X)->(l:List (AT X.ι))->Option (fM X l×List Nat×List Bool)
 |[],[]=>some ((),[],[])
 |d::ds,.mut c::l=>(XY get d c).bind fun x=>(lC Γ get ds l).bind fun h=>some ((x.1,h.1),x.2.1::h.2.1,x.2.2++h.2.2)
 |d::ds,.mref c::l=>(Sg get d c).bind fun x=>(lC Γ get ds l).bind fun h=>some ((x.1,h.1),x.2::h.2.1,h.2.2)
 |d::ds,.d c::l=>(OZ Γ get 3 [d] [.d c]).bind fun x=>(lC Γ get ds l).bind fun h=>some ((x.1.1,h.1),h.2.1,x.2++h.2.2)
 |d::ds,.ref c::l=>(OZ Γ get 3 [d] [.ref c]).bind fun x=>(lC Γ get ds l).bind fun h=>some ((x.1.1,h.1),h.2.1,x.2++h.2.2)
 |d::ds,.clo as r::l=>(OZ Γ get 3 [d] [.clo as r]).bind fun x=>(lC Γ get ds l).bind fun h=>some ((x.1.1,h.1),h.2.1,x.2++h.2.2)
 |d::ds,.nil::l=>match d with
  | .nil=>(lC Γ get ds l).bind fun h=>some (((),h.1),h.2.1,h.2.2)
  |_=>none
 |_,_=>none
def Ip:List (DV X)->List (AT X.ι)->List Nat
 |d::ds,a::l=>(if a.im then []else drefs d)++Ip ds l
 |_,_=>[]
def Ny (get:Nat->Option (DObj X)):List (DV X)->(l:List (CT X.ι))->Option (HL X.toSE l×List Bool)
 |[],[]=>some ((),[])
 |d::ds,c::l=>(FH get d c).bind fun x=>(Ny get ds l).bind fun h=>some ((x.1,h.1),x.2++h.2)
 |_,_=>none
variable (Γ:FuncId->Option (Sig X))
def agl (i:Nat) (f:DV X) (args:List (DV X)) (get:Nat->Option (DObj X)) (k:KK X A):Option A:=
 match f with
 | .fn F first caps=>(Γ F).bind fun s=>match s.gen with
  |some g=>ab9 g i (first++args++caps) get k
  |none=>if (s.args.all (fun q=>q.pl)&&s.res.all (fun q=>!q.out))=true then (OZ Γ get 3 (first++args++caps) s.args).bind fun a=>RH a.2 ((s.fn a.1).bind fun x=>(aeC i [] s.res x).bind fun p=>
   if s.res.all R9 then k p.1 p.2 (aL (first++args++caps)) []
   else k p.1 (p.2++Li (aL (first++args++caps))) (aL (first++args++caps)) (aL (first++args++caps)))
  else (lC Γ get (first++args++caps) s.args).bind fun a=>RH a.2.2 ((s.fn a.1).bind fun x=>(aeC i a.2.1 s.res x).bind fun p=>
   if (decide a.2.1.Nodup&&(Ip (first++args++caps) s.args).all (fun j=>!a.2.1.contains j)&&decide ((Sd s.res x).length=a.2.1.length))=true then
    if s.res.all R9 then k p.1 (p.2++Gv a.2.1 (Sd s.res x)) (aL (first++args++caps)) a.2.1
    else k p.1 (p.2++(Gv a.2.1 (Sd s.res x)++Li ((aL (first++args++caps)).filter fun j=>!a.2.1.contains j))) (aL (first++args++caps)) (a.2.1++(aL (first++args++caps)).filter fun j=>!a.2.1.contains j)
   else none)
 | .clo as q φ=>(Ny get args as).bind fun h=>RH h.2 ((φ h.1).bind fun y=>
  if wW q then k (.c q y) [] (aL args) []else k (.c q y) (Li (aL args)) (aL args) (aL args))
 |_=>none
def ace (fz:List Nat) (T:Tab) (code:TypeId->Option (CT X.ι)) (i:Nat) (o:Op) (ρ:Operand->DV X) (get:Nat->Option (DObj X)) (k:KK X A):Option A:=
 match o with
 | .call { callee:= .value f,args:=args,argTypes:=_ }=>agl Γ i (ρ f) (args.toList.map ρ) get k
 |o=>if aja o ρ then aiL T code i o ρ get k else if ajb o ρ || fz.contains i then aiM T code i o ρ get k else if ajc T o ρ then aiN T code o ρ get k else opD T code i o ρ get k
variable {Γ}
theorem Ll {P:Program} {get:Nat->Option (DObj X)} {rd:List Nat}:∀ {ds:List (DV X)} {l:List (CT X.ι)} {h:HL X.toSE l×List Bool},Ny get ds l=some h->(∀ b∈h.2,b=true)->(∀ j∈aL ds,j∈rd)->
 ∃ hs obs,(∀ p∈obs,p)∧∀ rest,jM P (bM rd (dI get)) (aW ds) (hs++rest)=some ((HL.tvs X.toSE l h.1).map TV.av,rest,obs)
 |[],[],h,_,_,_=>⟨[],[],by simp,fun rest=>rfl⟩
 |d::ds,c::l,h,hr,hc,hrd=>by
  simp only[Ny]at hr;rw[ai]at hr;obtain⟨x,h1,hr⟩:=hr;rw[ai]at hr;obtain⟨g,h2,hr⟩:=hr;injection hr with hr;subst hr;obtain⟨hs1,o1,p1,q1⟩:=AB (P:=P) (rd:=rd) h1 (fun b hb=>hc b (by simp[hb])) (fun j hj=>hrd j (by simp[aL,hj]));obtain⟨hs2,o2,p2,q2⟩:=Ll (P:=P) (rd:=rd) h2 (fun b hb=>hc b (by simp[hb])) (fun j hj=>hrd j (by simp[aL,hj]));refine⟨hs1++hs2,o1++o2,dX p1 p2,fun rest=>?_⟩;simp only[aW,jM,append_assoc,q1,bind_some,q2];rfl
 |[],_::_,_,hr,_,_=>by simp[Ny]at hr
 |_::_,[],_,hr,_,_=>by simp[Ny]at hr
theorem Si {i:Nat} {ids ns:List Nat} {q:RT X.ι} {x:RT.T X q}:∀ p∈(Gu i ids ns q x).2,p.1=nid i:=by cases q<;>simp[Gu]
theorem Sj {i:Nat} {ids ns:List Nat}:∀ {l:List (RT X.ι)} {x:pz X l} {p:List (DV X)×List (Nat×Option (DObj X))},JD i ids ns l x=some p->∀ q∈p.2,q.1=nid i
 |[],_,p,h=>by simp only[JD,Option.some.injEq]at h;subst h;simp
 |[q],x,p,h=>by simp only[JD,Option.some.injEq]at h;subst h;exact Si
 |q::q'::l,x,p,h=>by
  simp only[JD]at h;rw[ai]at h;obtain⟨p',h1,h⟩:=h;split at h
  ·injection h with h;subst h;intro z hz;rcases mem_append.1 hz with hz |hz
   ·exact Si z hz
   ·exact Sj h1 z hz
  ·cases h
theorem Wm {i:Nat} {ids:List Nat} {l:List (RT X.ι)} {x:pz X l} {p:DV X×List (Nat×Option (DObj X))} (h:aeC i ids l x=some p):∀ q∈p.2,q.1=nid i:=by
 unfold aeC at h;rw[ai]at h;obtain⟨p',h1,h⟩:=h;injection h with h;subst h;exact Sj h1
theorem Gw {P:Program} {get:Nat->Option aP} {x:AV} {hs rest:List LH} {y:AV} {o:List Prop} (h:jM P get [x] hs=some ([y],rest,o)):kZ P get x hs=some (y,rest,o):=by
 simp only[jM,bind_some,append_nil,ai,Option.some.injEq,Prod.mk.injEq,List.cons.injEq,and_true]at h;obtain⟨q,h1,h2,h3,h4⟩:=h;rw[h1,<- h2,<- h3,<- h4]
theorem iP {d:DV X} {ds:List (DV X)} {a:AT X.ι} {l:List (AT X.ι)} {P:Nat->Prop} (h:∀ j∈Ip (d::ds) (a::l),P j):(a.im=false->∀ j∈drefs d,P j)∧∀ j∈Ip ds l,P j:=by
 simp only[Ip,mem_append]at h;exact⟨fun e j hj=>h j (.inl (by rw[e];simpa using hj)),fun j hj=>h j (.inr hj)⟩
theorem aiO {c:CT X.ι} {l:List (CT.T X.toSE c)}:bR ((aK (l.map (CT.row X.toSE c))).take (l.map (CT.row X.toSE c)).length)=aK (l.map (CT.row X.toSE c)):=by
 rw[List.take_of_length_le (by simp[aK])];simp only[bR,aK,map_map];exact map_congr_left fun y _=>by
  simp only[Function.comp,map_map];exact map_congr_left fun z _=>rfl
theorem U6 {get:Nat->Option (DObj X)} {d:DV X} {c:CT X.ι} {x:List (CT.T X.toSE c)×Nat×List Bool} (h:XY get d c=some x) (hc:∀ b∈x.2.2,b=true):
 d= .own x.2.1 0 (List.length x.1)∧∃ o,get x.2.1=some o∧(aY o).sz=(om c x.1).1∧bR ((aY o).rows.take (om c x.1).2.length)=aK (om c x.1).2:=by
 unfold XY at h;split at h
 ·rename_i k len;rw[ai]at h;obtain⟨o,h1,h⟩:=h;split at h
  ·rename_i b l;rw[ai]at h;obtain⟨l',h2,h⟩:=h;injection h with h;subst h;obtain⟨h3,h4⟩:=iH h2;have h5:len=List.length l':=(by simpa[eqL]using hc (eqL len (List.length l')) (by simp));refine⟨by rw[h5],.lst b l,h1,by simp only[aY,om];exact h3,?_⟩;simp only[aY,om,h4];exact aiO
  ·cases h
 ·cases h
theorem Sk {get:Nat->Option (DObj X)} {d:DV X} {c:CT X.ι} {x:CT.T X.toSE c×Nat} (h:Sg get d c=some x):
 d= .ptr x.2 0 0∧∃ o,get x.2=some o∧(aY o).sz=(om c [x.1]).1∧bR ((aY o).rows.take (om c [x.1]).2.length)=aK (om c [x.1]).2:=by
 unfold Sg at h;split at h
 ·rename_i k;rw[ai]at h;obtain⟨o,h1,h⟩:=h;split at h
  ·rename_i sz row;split at h
   ·rename_i hsz;rw[ai]at h;obtain⟨y,h2,h⟩:=h;injection h with h;subst h;refine⟨rfl,_,h1,by simp only[aY,om];exact hsz,?_⟩;simp only[aY,om,map_cons,map_nil,List.length_singleton,List.take_succ_cons,List.take_zero,bR,aK];rw[yx h2]
   ·cases h
  ·cases h
 ·cases h
theorem jV {P:Program} {Γ:FuncId->Option (Sig X)} (hΓ:GOk P Γ) {get:Nat->Option (DObj X)} {rd ids:List Nat}:∀ {n:Nat} {ds:List (DV X)} {l:List (AT X.ι)} {a:fM X l×List Nat×List Bool},lC Γ get ds l=some a->(∀ b∈a.2.2,b=true)->(∀ j∈aL ds,j∈rd)->(∀ j∈Ip ds l,j∉ids)->ids.drop n=a.2.1->
 (∃ hs obs,(∀ p∈obs,p)∧∀ rest,jS P (bM rd (dI get)) ids (aW ds) (hs++rest)=some (bP n l a.1,rest,obs))∧∃ mo,BB (bM rd (dI get)) a.2.1 (mO l a.1)=some mo∧∀ p∈mo,p
 |n,[],[],a,h,_,_,_,_=>by
  simp only[lC,Option.some.injEq]at h;subst h;exact⟨⟨[],[],by simp,fun rest=>rfl⟩,[],rfl,by simp⟩
 |n,d::ds,.mut c::l,a,h,hc,hrd,hnr,hid=>by
  simp only[lC]at h;rw[ai]at h;obtain⟨x,h1,h⟩:=h;rw[ai]at h;obtain⟨q,h2,h⟩:=h;injection h with h;subst h;obtain⟨rfl,o,g1,g2,g3⟩:=U6 h1 (fun b hb=>hc b (by simp[hb]));have hidn:ids[n]? =some x.2.1:=by rw[<- List.head?_drop,hid];rfl
  have hid':ids.drop (n+1)=q.2.1:=by rw[<- List.tail_drop,hid];rfl
  obtain⟨⟨hs,obs,p1,p2⟩,mo,m1,m2⟩:=jV hΓ (n:=n+1) h2 (fun b hb=>hc b (by simp[hb])) (fun j hj=>hrd j (by simp[aL,hj])) (iP hnr).2 hid';refine⟨⟨.mut n::hs,obs,p1,fun rest=>?_⟩,((aY o).sz=(om c x.1).1∧bR ((aY o).rows.take (om c x.1).2.length)=aK (om c x.1).2)::mo,?_,?_⟩
  ·simp only[aW,den,jS,cons_append,vW,hidn,if_true,bind_some,p2,bP,nil_append]
  ·simp only[mO,BB,dH (hrd x.2.1 (by simp[aL,drefs])) g1,bind_some,m1]
  ·intro p hp;rcases mem_cons.1 hp with rfl |hp
   ·exact⟨g2,g3⟩
   ·exact m2 p hp
 |n,d::ds,.mref c::l,a,h,hc,hrd,hnr,hid=>by
  simp only[lC]at h;rw[ai]at h;obtain⟨x,h1,h⟩:=h;rw[ai]at h;obtain⟨q,h2,h⟩:=h;injection h with h;subst h;obtain⟨rfl,o,g1,g2,g3⟩:=Sk h1;have hidn:ids[n]? =some x.2:=by rw[<- List.head?_drop,hid];rfl
  have hid':ids.drop (n+1)=q.2.1:=by rw[<- List.tail_drop,hid];rfl
  obtain⟨⟨hs,obs,p1,p2⟩,mo,m1,m2⟩:=jV hΓ (n:=n+1) h2 (fun b hb=>hc b (by simp[hb])) (fun j hj=>hrd j (by simp[aL,hj])) (iP hnr).2 hid';refine⟨⟨.mut n::hs,obs,p1,fun rest=>?_⟩,((aY o).sz=(om c [x.1]).1∧bR ((aY o).rows.take (om c [x.1]).2.length)=aK (om c [x.1]).2)::mo,?_,?_⟩
  ·simp only[aW,den,jS,cons_append,vW,hidn,if_true,bind_some,p2,bP,nil_append]
  ·simp only[mO,BB,dH (hrd x.2 (by simp[aL,drefs])) g1,bind_some,m1]
  ·intro p hp;rcases mem_cons.1 hp with rfl |hp
   ·exact⟨g2,g3⟩
   ·exact m2 p hp
 |n,d::ds,.d c::l,a,h,hc,hrd,hnr,hid=>by
  simp only[lC]at h;rw[ai]at h;obtain⟨x,h1,h⟩:=h;rw[ai]at h;obtain⟨q,h2,h⟩:=h;injection h with h;subst h;obtain⟨hs1,o1,p1,q1⟩:=oK (P:=P) hΓ 3 (n:=n) h1 (fun b hb=>hc b (by simp[hb])) (rd:=rd) (fun j hj=>hrd j (by simp only[aL,append_nil]at hj;simp[aL,hj]));obtain⟨⟨hs,obs,p2,q2⟩,mo,m1,m2⟩:=jV hΓ (n:=n) h2 (fun b hb=>hc b (by simp[hb])) (fun j hj=>hrd j (by simp[aL,hj])) (iP hnr).2 hid;refine⟨⟨hs1++hs,o1++obs,dX p1 p2,fun rest=>?_⟩,mo,m1,m2⟩;have:=yA (Gw (q1 (hs++rest))) (fun k hk=>(iP hnr).1 rfl k (by rwa [fE]at hk));simp only[aW,jS,append_assoc,this,bind_some,q2,bP]
 |n,d::ds,.ref c::l,a,h,hc,hrd,hnr,hid=>by
  simp only[lC]at h;rw[ai]at h;obtain⟨x,h1,h⟩:=h;rw[ai]at h;obtain⟨q,h2,h⟩:=h;injection h with h;subst h;obtain⟨hs1,o1,p1,q1⟩:=oK (P:=P) hΓ 3 (n:=n) h1 (fun b hb=>hc b (by simp[hb])) (rd:=rd) (fun j hj=>hrd j (by simp only[aL,append_nil]at hj;simp[aL,hj]));obtain⟨⟨hs,obs,p2,q2⟩,mo,m1,m2⟩:=jV hΓ (n:=n) h2 (fun b hb=>hc b (by simp[hb])) (fun j hj=>hrd j (by simp[aL,hj])) (iP hnr).2 hid;refine⟨⟨hs1++hs,o1++obs,dX p1 p2,fun rest=>?_⟩,mo,m1,m2⟩;have:=yA (Gw (q1 (hs++rest))) (fun k hk=>(iP hnr).1 rfl k (by rwa [fE]at hk));simp only[aW,jS,append_assoc,this,bind_some,q2,bP]
 |n,d::ds,.clo as r::l,a,h,hc,hrd,hnr,hid=>by
  simp only[lC]at h;rw[ai]at h;obtain⟨x,h1,h⟩:=h;rw[ai]at h;obtain⟨q,h2,h⟩:=h;injection h with h;subst h;obtain⟨hs1,o1,p1,q1⟩:=oK (P:=P) hΓ 3 (n:=n) h1 (fun b hb=>hc b (by simp[hb])) (rd:=rd) (fun j hj=>hrd j (by simp only[aL,append_nil]at hj;simp[aL,hj]));obtain⟨⟨hs,obs,p2,q2⟩,mo,m1,m2⟩:=jV hΓ (n:=n) h2 (fun b hb=>hc b (by simp[hb])) (fun j hj=>hrd j (by simp[aL,hj])) (iP hnr).2 hid;refine⟨⟨hs1++hs,o1++obs,dX p1 p2,fun rest=>?_⟩,mo,m1,m2⟩;have:=yA (Gw (q1 (hs++rest))) (fun k hk=>(iP hnr).1 rfl k (by rwa [fE]at hk));simp only[aW,jS,append_assoc,this,bind_some,q2,bP]
 |n,d::ds,.nil::l,a,h,hc,hrd,hnr,hid=>by
  simp only[lC]at h;split at h
  ·rw[ai]at h;obtain⟨q,h2,h⟩:=h;injection h with h;subst h;obtain⟨⟨hs,obs,p2,q2⟩,mo,m1,m2⟩:=jV hΓ (n:=n) h2 hc (fun j hj=>hrd j (by simp[aL,hj])) (iP hnr).2 hid;refine⟨⟨.nil::hs,obs,p2,fun rest=>?_⟩,mo,m1,m2⟩;have:=yA (P:=P) (get':=bM rd (dI get)) (ids:=ids) (x:= .nilsl) (hs:= .nil::(hs++rest)) (p:=(.nilsl,hs++rest,[])) rfl (fun k hk=>by simp[refs]at hk);simp only[aW,den,jS,cons_append,this,bind_some,q2,bP,nil_append]
  ·cases h
 |_,[],_::_,_,h,_,_,_,_=>by simp[lC]at h
 |_,_::_,[],_,h,_,_,_,_=>by simp[lC]at h
theorem ZN {P:Program} (hΓ:GOk P Γ) {i:Nat} {f:DV X} {args:List (DV X)} {get:Nat->Option (DObj X)} {k:KK X A} {r:A} (h:agl Γ i f args get k=some r):
 ∃ orc rd wr dv upd out,ig P i (den f) (aW args) orc (bM rd (dI get))=some out∧ic out.obs∧out.v=den dv∧out.upd=eZ upd∧(∀ p∈upd,p.1=nid i∨p.1∈wr)∧k dv upd rd wr=some r:=by
 unfold agl at h;split at h
 ·rename_i F first caps
  rw[ai]at h;obtain⟨s,h1,h⟩:=h;split at h
  ·rename_i g hgen;exact XV ((hΓ F s h1).2.2 g hgen) h
  split at h
  ·rename_i hpure;rw[ai]at h;obtain⟨⟨a,cs⟩,h2,h⟩:=h;obtain⟨hcs,h⟩:=l6 h;rw[ai]at h;obtain⟨x,h3,h⟩:=h;rw[ai]at h;obtain⟨p,h4,h⟩:=h;have hf0:=(hΓ F s h1).2.1 a x h3;simp only[and_eq_true]at hpure;rw[yM (ai7 hpure.1),Zw hpure.2]at hf0;have hf:=RD hf0;have hi:=ZL h4;have hk:=Wm h4;obtain⟨hs,obs,g1,g2⟩:=oK (P:=P) hΓ 3 h2 hcs (rd:=aL (first++args++caps)) (fun j hj=>hj);have g3:=g2 [];rw[append_nil,eU,eU]at g3;have hrefs:cZ (aW first++aW args++aW caps)=aL (first++args++caps):=(by rw[<- eU,<- eU,dZ]);split at h
   ·rename_i hfl;refine⟨.call hs (pJ s.res x) true,_,[],p.1,p.2,⟨den p.1,eZ p.2,obs++[FnP P F (yL s.args a) (pJ s.res x),(pJ s.res x).flat]⟩,?_,?_,rfl,rfl,fun q hq=> .inl (hk q hq),h⟩
    ·simp only[den,ig,lq,wZ,hi,bind_some,g3];rfl
    ·exact nT _ (dX g1 (by
      intro q hq;simp only[mem_cons,List.not_mem_nil,or_false]at hq;rcases hq with rfl |rfl
      ·exact hf
      ·exact Sc x hfl))
   ·refine⟨.call hs (pJ s.res x) false,_,_,p.1,_,⟨den p.1,eZ p.2++(aL (first++args++caps)).map (fun k=>(k,none)),obs++[FnP P F (yL s.args a) (pJ s.res x)]⟩,?_,?_,rfl,?_,?_,h⟩
    ·simp only[den,ig,lq,wZ,hi,bind_some,g3,hrefs];rfl
    ·exact nT _ (dX g1 (by
      intro q hq;simp only[mem_singleton]at hq;subst hq;exact hf))
    ·simp only[oL,CJ]
    ·intro q hq;rcases mem_append.1 hq with hq |hq
     ·exact .inl (hk q hq)
     ·exact .inr (Io hq)
  ·rename_i hpure;rw[ai]at h;obtain⟨⟨a,ids,cs⟩,h2,h⟩:=h;obtain⟨hcs,h⟩:=l6 h;rw[ai]at h;obtain⟨x,h3,h⟩:=h;rw[ai]at h;obtain⟨p,h4,h⟩:=h;split at h
   ·rename_i hc;simp only[and_eq_true,decide_eq_true_eq]at hc;obtain⟨⟨hnd,hnr⟩,hlen⟩:=hc;have hf:=(hΓ F s h1).2.1 a x h3;have hi:=ZL h4;have hk:=Wm h4;obtain⟨⟨hs,obs,g1,g2⟩,mo,m1,m2⟩:=jV (P:=P) hΓ (rd:=aL (first++args++caps)) (ids:=ids) (n:=0) h2 hcs (fun j hj=>hj) (fun j hj=>by simpa using all_eq_true.1 hnr j hj) rfl;have g3:=g2 [];rw[append_nil,eU,eU]at g3;have hrefs:cZ (aW first++aW args++aW caps)=aL (first++args++caps):=(by rw[<- eU,<- eU,dZ]);have hlen':(kC s.res x).length=ids.length:=by
     rw[<- hlen];simpa using (congrArg List.length (Nw s.res x)).symm
    have hout:eZ (Gv ids (Sd s.res x))=BD ids (kC s.res x):=Wl _ _ _ (Nw s.res x);split at h
    ·rename_i hfl;refine⟨.callw ids (mO s.args a) (kC s.res x) hs (pJ s.res x) true,_,ids,p.1,_,⟨den p.1,eZ p.2++BD ids (kC s.res x),obs++mo++[FnW P F (yL s.args a) (mO s.args a) (kC s.res x) (pJ s.res x),(pJ s.res x).flat,Rf (kC s.res x)]⟩,?_,?_,rfl,?_,?_,h⟩
     ·simp only[den,ig,lq,Gh,hi,bind_some,m1,g3];rw[if_pos ⟨hnd,hlen'⟩];rfl
     ·refine nT _ (dX (dX g1 m2) ?_);intro q hq;simp only[mem_cons,List.not_mem_nil,or_false]at hq;rcases hq with rfl |rfl |rfl
      ·exact hf
      ·exact Sc x hfl
      ·exact Wh hfl
     ·simp only[oL,hout]
     ·intro q hq;rcases mem_append.1 hq with hq |hq
      ·exact .inl (hk q hq)
      ·exact .inr (J2 hq)
    ·refine⟨.callw ids (mO s.args a) (kC s.res x) hs (pJ s.res x) false,_,_,p.1,_,⟨den p.1,eZ p.2++(BD ids (kC s.res x)++((aL (first++args++caps)).filter fun j=>!ids.contains j).map (fun k=>(k,none))),obs++mo++[FnW P F (yL s.args a) (mO s.args a) (kC s.res x) (pJ s.res x)]⟩,?_,?_,rfl,?_,?_,h⟩
     ·simp only[den,ig,lq,Gh,hi,bind_some,m1,g3,Gg,hrefs];rw[if_pos ⟨hnd,hlen'⟩];rfl
     ·refine nT _ (dX (dX g1 m2) ?_);intro q hq;simp only[mem_singleton]at hq;subst hq;exact hf
     ·simp only[oL,hout,CJ]
     ·intro q hq;rcases mem_append.1 hq with hq |hq
      ·exact .inl (hk q hq)
      ·rcases mem_append.1 hq with hq |hq
       ·exact .inr (mem_append_left _ (J2 hq))
       ·exact .inr (mem_append_right _ (Io hq))
   ·cases h
 ·rename_i as q φ;rw[ai]at h;obtain⟨⟨hh,cs⟩,h1,h⟩:=h;obtain⟨hcs,h⟩:=l6 h;rw[ai]at h;obtain⟨y,h2,h⟩:=h;obtain⟨hs,obs,g1,g2⟩:=Ll (P:=P) h1 hcs (rd:=aL args) (fun j hj=>hj);have g3:=g2 [];rw[append_nil]at g3;have hφ:∃ h' x',φ h'=some x'∧HL.tvs X.toSE as hh=HL.tvs X.toSE as h'∧CT.tv X.toSE q y=CT.tv X.toSE q x':=⟨hh,y,h2,rfl,rfl⟩;split at h
  ·rename_i hfl;refine⟨.cclo hs (HL.tvs X.toSE as hh) (CT.tv X.toSE q y) true,_,[],.c q y,[],⟨(CT.tv X.toSE q y).av,[],obs++[(HL.tvs X.toSE as hh).map TV.av=(HL.tvs X.toSE as hh).map TV.av,(∃ h' x',φ h'=some x'∧HL.tvs X.toSE as hh=HL.tvs X.toSE as h'∧CT.tv X.toSE q y=CT.tv X.toSE q x'),(CT.tv X.toSE q y).flat]⟩,?_,?_,rfl,rfl,by simp,h⟩
   ·simp only[den,ig,lq,wZ,g3,bind_some];rfl
   ·exact nT _ (dX g1 (by
     intro z hz;simp only[mem_cons,List.not_mem_nil,or_false]at hz;rcases hz with rfl |rfl |rfl
     ·trivial
     ·exact hφ
     ·exact ZJ hfl y))
  ·refine⟨.cclo hs (HL.tvs X.toSE as hh) (CT.tv X.toSE q y) false,_,_,.c q y,_,⟨(CT.tv X.toSE q y).av,(aL args).map (fun k=>(k,none)),obs++[(HL.tvs X.toSE as hh).map TV.av=(HL.tvs X.toSE as hh).map TV.av,(∃ h' x',φ h'=some x'∧HL.tvs X.toSE as hh=HL.tvs X.toSE as h'∧CT.tv X.toSE q y=CT.tv X.toSE q x')]⟩,?_,?_,rfl,(CJ _).symm,fun z hz=> .inr (Io hz),h⟩
   ·simp only[den,ig,lq,wZ,g3,bind_some,dZ];rfl
   ·exact nT _ (dX g1 (by
     intro z hz;simp only[mem_cons,List.not_mem_nil,or_false]at hz;rcases hz with rfl |rfl
     ·trivial
     ·exact hφ))
 ·cases h
theorem acf {P:Program} (hΓ:GOk P Γ) {fz:List Nat} {T:Tab} {code:TypeId->Option (CT X.ι)} {i:Nat} {o:Oper} {ρ:Operand->DV X} {get:Nat->Option (DObj X)} {k:KK X A} {r:A} (h:ace Γ fz T code i o.op ρ get k=some r):SdAny P T i o ρ get k r:=by
 obtain⟨dst,op,ty,pos,after,guard⟩:=o;unfold ace at h;simp only at h;split at h
 ·rename_i f args tys;have:=ZN hΓ h;simp only[<- QD]at this;obtain⟨orc,rd,wr,dv,upd,out,g1,g2⟩:=this;exact .call g1 g2
 ·split at h
  ·exact ab5 (o:=⟨dst,op,ty,pos,after,guard⟩) h
  ·split at h
   ·exact ab6 (o:=⟨dst,op,ty,pos,after,guard⟩) h
   ·split at h
    ·exact ab7 (o:=⟨dst,op,ty,pos,after,guard⟩) h
    ·rename_i hne _ _ _;obtain⟨orc,rd,wr,dv,upd,out,g1,g2⟩:=VY (o:=⟨dst,op,ty,pos,after,guard⟩) h;exact SdAny.op (fun f args tys e=>hne f args tys e) g1 g2
end
def Wkn (x y:AV):Prop:=∀ P β w I v,VR P β w I x v->VR P β w I y v
theorem Wkn.refl (x:AV):Wkn x x:=fun _ _ _ _ _ h=>h
theorem Wkn.undef (x:AV):Wkn x .undef:=fun _ _ _ _ _ _=>by simp[VR]
theorem Wkn.wk (x:AV):Wkn x (wk x):=fun _ _ _ _ _ h=>h.wk
section
variable {P:Program} {w0:World} {O0:Was} {N:Nat} {β:Nat->Option Blk} {I:Nat->Prop} {a:Act} {w:World} {f g:Nat->Nat} {D:Nat->Prop}
mutual
theorem VR.rn (hgf:∀ k,D k->g (f k)=k):∀ (x:AV) (v:Value),(∀ k∈refs x,D k)->VR P β w I x v->VR P (fun j=>β (g j)) w I (rnA f x) v
 | .own k off len,v,hd,h=>by simp only[rnA,VR,hgf k (hd k (by simp[refs]))]at h ⊢;exact h
 | .ptr k row off,v,hd,h=>by simp only[rnA,VR,hgf k (hd k (by simp[refs]))]at h ⊢;exact h
 | .agg cs,v,hd,h=>by
  simp only[rnA,VR]at h ⊢;obtain⟨vs,h1,h2⟩:=h;exact⟨vs,h1,VRl.rn hgf cs _ (by simpa[refs]using hd) h2⟩
 | .tup cs,v,hd,h=>by
  simp only[rnA,VR]at h ⊢;obtain⟨vs,h1,h2⟩:=h;exact⟨vs,h1,VRl.rn hgf cs _ (by simpa[refs]using hd) h2⟩
 | .fn F first caps,v,hd,h=>by
  simp only[rnA,VR]at h ⊢;obtain⟨fs,cs,h1,h2,h3⟩:=h;exact⟨fs,cs,h1,VRl.rn hgf first _ (fun k hk=>hd k (by simp[refs,hk])) h2,VRl.rn hgf caps _ (fun k hk=>hd k (by simp[refs,hk])) h3⟩
 | .t x,v,_,h=>by simpa[rnA,VR]using h
 | .rptr r o,v,_,h=>by simpa[rnA,VR]using h
 | .clo φ,v,_,h=>by simpa[rnA,VR]using h
 | .mp k,v,hd,h=>by simp only[rnA,VR,hgf k (hd k (by simp[refs]))]at h ⊢;exact h
 | .nilsl,v,_,h=>by simpa[rnA,VR]using h
 | .ub,v,_,h=>by simpa[rnA,VR]using h
 | .undef,v,_,h=>by simp[rnA,VR]
theorem VRl.rn (hgf:∀ k,D k->g (f k)=k):∀ (xs:List AV) (vs:List Value),(∀ k∈cZ xs,D k)->VRl P β w I xs vs->VRl P (fun j=>β (g j)) w I (zV f xs) vs
 |[],[],_,_=>by simp[zV,VRl]
 |x::xs,v::vs,hd,h=>by
  simp only[VRl]at h;simp only[zV,VRl];exact⟨VR.rn hgf x v (fun k hk=>hd k (by simp[cZ,hk])) h.1,VRl.rn hgf xs vs (fun k hk=>hd k (by simp[cZ,hk])) h.2⟩
 |[],_::_,_,h=>by simp[VRl]at h
 |_::_,[],_,h=>by simp[VRl]at h
end
def RowW (D:Nat->Prop) (f:Nat->Nat):List AV->List AV->Prop
 |[],[]=>True
 |x::xs,y::ys=>((∀ k∈refs x,D k)∧Wkn (rnA f x) y)∧RowW D f xs ys
 |_,_=>False
def RowsW (D:Nat->Prop) (f:Nat->Nat):List (List AV)->List (List AV)->Prop
 |[],[]=>True
 |r::rs,q::qs=>RowW D f r q∧RowsW D f rs qs
 |_,_=>False
theorem RowW.length:∀ {r q:List AV},RowW D f r q->q.length=r.length
 |[],[],_=>rfl
 |_::xs,_::ys,h=>by simp[RowW.length h.2]
 |[],_::_,h=>h.elim
 |_::_,[],h=>h.elim
theorem ORow.re (hgf:∀ k,D k->g (f k)=k):∀ {r q:List AV} {c:Array Value} {off:Nat},RowW D f r q->ORow P β w I r c off->ORow P (fun j=>β (g j)) w I q c off
 |[],[],_,_,_,_=>trivial
 |x::xs,y::ys,c,off,hr,⟨⟨v,h1,h2,h3⟩,h4⟩=>⟨⟨v,h1,hr.1.2 _ _ _ _ _ (VR.rn hgf x v hr.1.1 h2),h3⟩,ORow.re hgf hr.2 h4⟩
 |[],_::_,_,_,h,_=>h.elim
 |_::_,[],_,_,h,_=>h.elim
theorem ORows.re (hgf:∀ k,D k->g (f k)=k):∀ {rs qs:List (List AV)} {c:Array Value} {off sz:Nat},RowsW D f rs qs->ORows P β w I rs c off sz->ORows P (fun j=>β (g j)) w I qs c off sz
 |[],[],_,_,_,_,_=>trivial
 |r::rs,q::qs,c,off,sz,hr,⟨h1,h2,h3⟩=>⟨by rw[hr.1.length];exact h1,ORow.re hgf hr.1 h2,ORows.re hgf hr.2 h3⟩
 |[],_::_,_,_,_,h,_=>h.elim
 |_::_,[],_,_,_,h,_=>h.elim
theorem VRl.re (hgf:∀ k,D k->g (f k)=k):∀ {r q:List AV} {vs:List Value},RowW D f r q->VRl P β w I r vs->VRl P (fun j=>β (g j)) w I q vs
 |[],[],[],_,_=>by simp[VRl]
 |x::xs,y::ys,v::vs,hr,h=>by
  simp only[VRl]at h ⊢;exact⟨hr.1.2 _ _ _ _ _ (VR.rn hgf x v hr.1.1 h.1),VRl.re hgf hr.2 h.2⟩
 |[],_::_,_,h,_=>h.elim
 |_::_,[],_,h,_=>h.elim
 |[],[],_::_,_,h=>by simp[VRl]at h
 |_::_,_::_,[],_,h=>by simp[VRl]at h
theorem MRows.re (hgf:∀ k,D k->g (f k)=k):∀ {rs qs:List (List AV)} {es:List MapEntry},RowsW D f rs qs->MRows P β w I rs es->MRows P (fun j=>β (g j)) w I qs es
 |[],[],[],_,_=>trivial
 |r::rs,q::qs,_::es,hr,⟨h1,h2⟩=>⟨VRl.re hgf hr.1 h1,MRows.re hgf hr.2 h2⟩
 |[],_::_,_,h,_=>h.elim
 |_::_,[],_,h,_=>h.elim
 |[],[],_::_,_,h=>h.elim
 |_::_,_::_,[],_,h=>h.elim
theorem RowsW.length:∀ {rs qs:List (List AV)},RowsW D f rs qs->qs.length=rs.length
 |[],[],_=>rfl
 |_::xs,_::ys,h=>by simp[RowsW.length h.2]
 |[],_::_,h=>h.elim
 |_::_,[],h=>h.elim
theorem Rel.re {s s':St} (hgf:∀ k,D k->g (f k)=k) (hg:∀ j,j < 1000->g j=j) (hr:Rel P w0 O0 N β I s a w) (hok:∀ t,s.ok t=none∨s'.env t= .undef) (hok':∀ t,s'.ok t=none)
 (hE:∀ t,s'.env t= .undef∨((∀ k∈refs (s.env t),D k)∧Wkn (rnA f (s.env t)) (s'.env t)))
 (hO:∀ j o',s'.obj j=some o'->∃ k o,s.obj k=some o∧D k∧f k=j∧o'.sz=o.sz∧RowsW D f o.rows o'.rows):Rel P w0 O0 N (fun j=>β (g j)) I s' a w:=by
 refine⟨hr.defers,hr.size,fun t=>?_,?_⟩
 ·have h1:=hr.env t;rw[hok' t];rcases hok t with hk |h
  rotate_left
  ·rw[h];simp[SlotR,VR]
  rw[hk]at h1;rcases hE t with h |⟨h2,h3⟩
  ·rw[h];simp[SlotR,VR]
  ·exact h3 _ _ _ _ _ (VR.rn hgf _ _ h2 h1)
 ·have hm:=hr.mem;constructor
  ·intro j o' hj;obtain⟨k,o,h1,h2,rfl,h4,h5⟩:=hO j o' hj;obtain⟨B,hB,hOR⟩:=hm.objs k o h1;refine⟨B,by simp only[hgf k h2];exact hB,?_⟩;cases B with
   |none=>
    simp only[OR]at hOR ⊢;rw[hOR]at h5;cases ho:o'.rows with
    |nil=>rfl
    |cons=>rw[ho]at h5;exact h5.elim
   | «at» b sz n=>
    obtain⟨g1,c,e,g2,g3,g4⟩:=hOR;exact⟨by rw[g1,h4],c,e,g2,g3,ORows.re hgf h5 g4⟩
   |mp b=>
    obtain⟨es,cl,g1,gl,g2,g3⟩:=hOR;have hl:=h5.length;exact⟨es,cl,g1,by omega,fun e=>MRows.re hgf h5 (g2 (by omega)),g3⟩
  ·intro j j' o o' B B' b h1 h2 h3 h4 h5 h6;obtain⟨k,q,i1,i2,rfl,_⟩:=hO j o h1;obtain⟨k',q',i1',i2',rfl,_⟩:=hO j' o' h2;simp only[hgf k i2,hgf k' i2']at h3 h4;rw[hm.injB k k' q q' B B' b i1 i1' h3 h4 h5 h6]
  ·intro j o B b h1 h2;obtain⟨k,q,i1,i2,rfl,_⟩:=hO j o h1;simp only[hgf k i2]at h2;exact hm.ownB k q B b i1 h2
  ·exact hm.lt
  ·exact hm.up
  ·exact hm.keep
  ·exact hm.le
  ·exact hm.os
  ·exact hm.tape
  ·exact hm.output
  ·intro j B hj;show β (g j)=some B;rw[hg j (O0.lt j B hj)];exact hm.anch j B hj
end
section
variable {X:SX}
theorem ZO {D:Nat->Prop} (f:Nat->Nat):∀ r:List (DV X),(∀ k∈aL r,D k)->RowW D f (aW r) (aW (Ja f r))
 |[],_=>trivial
 |x::xs,h=>⟨⟨fun k hk=>h k (by rw[fE]at hk;simp[aL,hk]),by rw[AJ];exact Wkn.refl _⟩,ZO f xs fun k hk=>h k (by simp[aL,hk])⟩
theorem Iq {D:Nat->Prop} (f:Nat->Nat) (o:DObj X) (h:∀ k∈orefs o,D k):(aY (rnO f o)).sz=(aY o).sz∧RowsW D f (aY o).rows (aY (rnO f o)).rows:=by
 cases o with
 |cells sz rows=>
  refine⟨rfl,?_⟩;simp only[aY,rnO,map_map];simp only[orefs]at h
  induction rows with
  |nil=>trivial
  |cons r rs ih=>
   refine⟨ZO f r fun k hk=>h k (by simp[hk]),ih fun k hk=>h k ?_⟩;simp only[map_cons,flatten_cons,mem_append];exact .inr hk
 |lst c l=>
  refine⟨rfl,?_⟩;simp only[aY,rnO];generalize l.map (CT.row X.toSE c)=rows;have hrow:∀ r:List Tree,RowW D f (r.map AV.t) (r.map AV.t):=by
   intro r
   induction r with
   |nil=>trivial
   |cons y ys ih=>exact⟨⟨by simp[refs],Wkn.refl _⟩,ih⟩
  induction rows with
  |nil=>trivial
  |cons r rs ih=>exact⟨hrow r,ih⟩
 |map kc vc l=>
  refine⟨rfl,?_⟩;simp only[aY,rnO];clear h
  induction l with
  |nil=>trivial
  |cons p ps ih=>exact⟨⟨⟨by simp[Ei],by rw[R7];exact Wkn.refl _⟩,⟨by simp[Ei],by rw[R7];exact Wkn.refl _⟩,trivial⟩,ih⟩
structure Low (s:DSt X):Prop where
 le:s.nx<=1000000
 ge:1000<=s.nx
 env:∀ t,∀ k∈drefs (lke s.env t),k < s.nx
 obj:∀ k o,lko s.obj k=some o->k < s.nx∧∀ j∈orefs o,j < s.nx
theorem Sl {o:DObj X} {r:List AV} {x:AV} (hr:r∈(aY o).rows) (hx:x∈r):∀ j∈refs x,j∈orefs o:=by
 intro j hj;cases o with
 |cells sz rows=>
  simp only[aY,mem_map]at hr;obtain⟨q,hq,rfl⟩:=hr;rw[kz,mem_map]at hx;obtain⟨d,hd,rfl⟩:=hx;simp only[orefs,List.mem_flatten,mem_map];refine⟨_,⟨q,hq,rfl⟩,?_⟩;have:∀ l:List (DV X),d∈l->j∈aL l:=by
   intro l
   induction l with
   |nil=>intro h;simp at h
   |cons y ys ih=>intro h;rcases mem_cons.1 h with rfl |h
                  ·simp only[aL,mem_append];left;rwa [fE]at hj
                  ·simp only[aL,mem_append];exact .inr (ih h)
  exact this q hd
 |lst c l=>
  simp only[aY,aK,mem_map]at hr;obtain⟨q,_,rfl⟩:=hr;simp only[mem_map]at hx;obtain⟨t,_,rfl⟩:=hx;simp[refs]at hj
 |map kc vc l=>
  simp only[aY,mem_map]at hr;obtain⟨q,_,rfl⟩:=hr;simp only[mem_cons,List.not_mem_nil,or_false]at hx;rcases hx with rfl |rfl<;>simp[Ei]at hj
theorem Low.old {s:DSt X} (h:Low s):Old s.st:=by
 have hle:=h.le;constructor
 ·intro t k hk;have:=h.env t k (by rw[<- fE];exact hk);omega
 ·intro k o hk;simp only[DSt.st,Option.map_eq_some_iff]at hk;obtain⟨o',h1,rfl⟩:=hk;obtain⟨h2,h3⟩:=h.obj k o' h1;refine⟨by omega,fun r hr x hx j hj=>?_⟩;have:=h3 j (Sl hr hx j hj);omega
end
section
variable {X:SX} {A:Type}
def lkE (e b:List (Nat×DV X)) (t:Nat):DV X:=match lk e t with |some x=>x |none=>lke b t
def lkO (o b:List (Nat×Option (DObj X))) (k:Nat):Option (DObj X):=match lk o k with |some x=>x |none=>lko b k
def zW (dst:Option Tmp) (dv:DV X) (e:List (Nat×DV X)):List (Nat×DV X):=match dst with |some t=>(t,dv)::e |none=>e
def Sm:DV X->DV X
 | .skip=> .undef
 |x=>x
def JE (e:List (Nat×DV X)):Operand->Bool
 | .tmp t=>match lk e t with |some .skip=>false |_=>true
 |_=>true
def O4 (e b:List (Nat×DV X)) (o:Op):Bool:=
 match o with
 | .pick c x y=>JE e c&&((JE e x&&JE e y) || match U0 (lkE e b) c with | .c .bool t=>bif t then JE e x else JE e y |_=>false)
 |o=>o.operands.toList.all (JE e)
abbrev Fps:=List (Nat×List Nat×List Nat)
section
variable (Γ:FuncId->Option (Sig X)) (fz:List Nat) (T:Tab) (code:TypeId->Option (CT X.ι)) (ops:Array Oper) (b:DSt X)
def yR (k:List (Nat×DV X)->List (Nat×Option (DObj X))->Fps->Option A):List Nat->List (Nat×DV X)->List (Nat×Option (DObj X))->Fps->Option A
 |[],e,o,fps=>k e o fps
 |i::r,e,o,fps=>(ops[i]?).bind fun op=>match op.guard with
  |none=>bif O4 e b.env op.op then ace Γ fz T code i op.op (U0 (lkE e b.env)) (lkO o b.obj) fun dv upd rd wr=>yR k r (zW op.dst (Sm dv) e) (upd++o) ((i,rd,wr)::fps)else none
  |some (j,p)=>((ops[j]?).bind (·.dst)).bind fun t=>match lkE e b.env t with
   | .c .bool v=>
    bif v then (bif p then (bif O4 ((t,.c .bool true)::e) b.env op.op then ace Γ fz T code i op.op (U0 (lkE ((t,.c .bool true)::e) b.env)) (lkO o b.obj) fun dv upd rd wr=>yR k r (zW op.dst (Sm dv) ((t,.c .bool true)::e)) (upd++o) ((i,rd,wr)::fps)else none)
     else yR k r (zW op.dst .skip ((t,.c .bool true)::e)) o ((i,[],[])::fps))
    else (bif p then yR k r (zW op.dst .skip ((t,.c .bool false)::e)) o ((i,[],[])::fps)
     else (bif O4 ((t,.c .bool false)::e) b.env op.op then ace Γ fz T code i op.op (U0 (lkE ((t,.c .bool false)::e) b.env)) (lkO o b.obj) fun dv upd rd wr=>yR k r (zW op.dst (Sm dv) ((t,.c .bool false)::e)) (upd++o) ((i,rd,wr)::fps)else none))
   | .skip=>bif (lk e t).isSome then yR k r (zW op.dst .skip e) o ((i,[],[])::fps)else none
   |_=>none
end
def eH (b:DSt X) (e:List (Nat×DV X)) (o:List (Nat×Option (DObj X))):St:=⟨fun t=>den (lkE e b.env t),fun k=>(lkO o b.obj k).map aY,fun t=>match lk e t with |some .skip=>some false |_=>none⟩
theorem aeD (x:DV X):den (Sm x)=den x:=by cases x<;>rfl
theorem agm (b:DSt X) (e:List (Nat×DV X)) (o:List (Nat×Option (DObj X))) (dst:Option Tmp) (dv:DV X) (upd:List (Nat×Option (DObj X))) (obs:List Prop):
 (eH b e o).app dst (⟨den dv,eZ upd,obs⟩,none)=eH b (zW dst (Sm dv) e) (upd++o):=by
 simp only[eH,St.app,St.mk.injEq];refine⟨?_,?_,?_⟩
 ·funext t;cases dst with
  |none=>simp[yF,zW]
  |some d=>
   simp only[yF,zW,lkE,lk,Option.some.injEq];by_cases h:d=t<;>simp[h,aeD]
 ·funext j
  induction upd with
  |nil=>rfl
  |cons p u ih=>
   obtain⟨q,x⟩:=p;simp only[eZ,map_cons,bn,cons_append,lkO,lk]at ih ⊢;by_cases h:j=q
   ·simp[h]
   ·rw[if_neg h,if_neg (Ne.symm h)];exact ih
 ·funext t;cases dst with
  |none=>simp[yF,zW]
  |some d=>
   simp only[yF,zW,lk,Option.some.injEq];by_cases h:d=t
   ·simp only[h,if_true];cases dv<;>rfl
   ·simp only[if_neg h]
theorem aeE (b:DSt X) (e:List (Nat×DV X)) (o:List (Nat×Option (DObj X))) (dst:Option Tmp):(eH b e o).app dst (⟨.undef,[],[]⟩,some false)=eH b (zW dst .skip e) o:=by
 simp only[eH,St.app,St.mk.injEq];refine⟨?_,rfl,?_⟩
 ·funext t;cases dst with
  |none=>simp[yF,zW]
  |some d=>
   simp only[yF,zW,lkE,lk,Option.some.injEq];by_cases h:d=t<;>simp[h,den]
 ·funext t;cases dst with
  |none=>simp[yF,zW]
  |some d=>
   simp only[yF,zW,lk,Option.some.injEq];by_cases h:d=t<;>simp[h]
theorem ZP (b:DSt X) (e:List (Nat×DV X)) (o:List (Nat×Option (DObj X))):opv (eH b e o).env=fun x=>den (U0 (lkE e b.env) x):=by funext x;exact (Lb _ x).symm
theorem CU {b:DSt X} {e:List (Nat×DV X)} {o:List (Nat×Option (DObj X))} {x:Operand} (h:JE e x=true):wV (eH b e o).ok x=[]:=by
 cases x with
 |tmp t=>
  simp only[JE]at h;simp only[wV,eH];cases ht:lk e t with
  |none=>rfl
  |some d=>rw[ht]at h;cases d<;>first |rfl |cases h
 |_=>rfl
theorem aeF {b:DSt X} {e:List (Nat×DV X)} {o:List (Nat×Option (DObj X))} {P:Program} {T:Tab} {i:Nat} {op:Oper} {orc:Orc} {get:Nat->Option aP} {out:Out} (hok:O4 e b.env op.op=true)
 (h:gB P T i op orc (opv (eH b e o).env) get=some out):∀ p∈needs (eH b e o).env (eH b e o).ok op.op,p:=by
 obtain⟨dst,op,ty,pos,after,guard⟩:=op;unfold needs;split
 ·rename_i c x y heq;simp only at heq;subst heq;simp only[O4,and_eq_true,Bool.or_eq_true]at hok;obtain⟨hc,hxy⟩:=hok;have hb:∃ t,opv (eH b e o).env c= .t (.sc (.bool t)):=by
   have h0:(∃ n,orc= .ext n)∨(∃ ids fr q,orc= .frz ids fr q)∨oI T i ⟨dst,.pick c x y,ty,pos,after,guard⟩ orc (opv (eH b e o).env) get=some out:=(by cases orc<;>first |exact .inl ⟨_,rfl⟩ |exact .inr (.inl ⟨_,_,_,rfl⟩) |exact .inr (.inr h));rcases h0 with ⟨n,rfl⟩ |⟨ids,fr,q,rfl⟩ |h0
   ·simp[gB,pG,afU,q9]at h
   ·simp[gB,Gi,abJ]at h
   ·simp only[oI]at h0;split at h0
    ·rename_i t ht;exact⟨t,ht⟩
    ·cases h0
  obtain⟨t,ht⟩:=hb;rw[ht];simp only[CU hc,nil_append];rcases hxy with ⟨hx,hy⟩ |hxy
  ·simp[CU hx,CU hy]
  ·split at hxy
   ·rename_i t' ht';have e1:opv (eH b e o).env c= .t (.sc (.bool t')):=(by rw[ZP];simp only[ht'];rfl);rw[e1]at ht;injection ht with ht;injection ht with ht;injection ht with ht;subst ht;cases t' with
    |true=>
     simp only[cond_true]at hxy;simp[CU hxy]
    |false=>
     simp only[cond_false]at hxy;simp[CU hxy]
   ·cases hxy
 ·rename_i o' hne;intro p hp;have hall:∀ x∈op.operands.toList,JE e x=true:=by
   have:O4 e b.env op=op.operands.toList.all (JE e):=(by cases op<;>first |rfl |exact (hne _ _ _ rfl).elim);rw[this]at hok;exact all_eq_true.1 hok
  simp only[mem_flatMap]at hp;obtain⟨x,hx,hp⟩:=hp;rw[CU (hall x hx)]at hp;simp at hp
theorem agn {a b:List Prop} (h:∀ p∈a,p) (h':ic b):ic (a++b):=nT _ (dX h (K8 b h'))
variable {Γ:FuncId->Option (Sig X)} {fz:List Nat} {T:Tab} {code:TypeId->Option (CT X.ι)} {ops:Array Oper} {b:DSt X} {P:Program}
theorem aeG (hΓ:GOk P Γ) {i:Nat} {op:Oper} {e:List (Nat×DV X)} {o:List (Nat×Option (DObj X))} {k:KK X A} {r:A} (hop:ops[i]? =some op) (hw:want ops op (eH b e o).env (eH b e o).ok=some true) (hok:O4 e b.env op.op=true)
 (h:ace Γ fz T code i op.op (U0 (lkE e b.env)) (lkO o b.obj) k=some r):
 ∃ (a:Ann) (dv:DV X) (upd:List (Nat×Option (DObj X))),a.sym=false∧k dv upd a.rd a.wr=some r∧∀ (ann:Nat->Ann) (K:St->Prop),ann i=a->K (eH b (zW op.dst (Sm dv) e) (upd++o))->eOp P T ops ann i K (eH b e o):=by
 obtain⟨orc,rd,wr,dv,upd,out,h1,h2,h3,h4,h5,h6⟩:=acf hΓ h;refine⟨⟨orc,rd,wr,false⟩,dv,upd,rfl,h6,fun ann K ha hK=>?_⟩;have h1':gB P T i op orc (opv (eH b e o).env) (bM rd (eH b e o).obj)=some out:=by rw[ZP];exact h1
 refine⟨op,(⟨out.v,out.upd,needs (eH b e o).env (eH b e o).ok op.op++out.obs⟩,none),hop,?_,?_,?_⟩
 ·unfold opAt;simp only[hop,bind_some,hw,ha,h1'];rw[if_pos];rw[all_eq_true];intro p hp;rw[h4]at hp;simp only[eZ,mem_map]at hp;obtain⟨q,hq,rfl⟩:=hp;rcases h5 q hq with h |h
  ·simp[h,Rn.2 (.inl rfl:ownN (nid i) (nid i))]
  ·simp[h]
 ·exact agn (aeF hok h1') h2
 ·rw[h3,h4,agm];exact hK
theorem step_skip {i:Nat} {op:Oper} {e:List (Nat×DV X)} {o:List (Nat×Option (DObj X))} (hop:ops[i]? =some op) (hw:want ops op (eH b e o).env (eH b e o).ok=some false)
 (ann:Nat->Ann) (K:St->Prop) (ha:ann i=⟨.none,[],[],false⟩) (hK:K (eH b (zW op.dst .skip e) o)):eOp P T ops ann i K (eH b e o):=by
 refine⟨op,(⟨.undef,[],[]⟩,some false),hop,?_,trivial,?_⟩
 ·unfold opAt;simp only[hop,bind_some,hw,ha]
 ·rw[aeE];exact hK
theorem acg {e:List (Nat×DV X)} {o:List (Nat×Option (DObj X))} {t:Nat} {v:Bool} (h:lkE e b.env t= .c .bool v):eH b ((t,.c .bool v)::e) o=eH b e o:=by
 simp only[eH,St.mk.injEq,true_and];refine⟨?_,?_⟩
 ·funext s;by_cases hs:t=s
  ·subst hs;rw[h];simp[lkE,lk]
  ·simp[lkE,lk,hs]
 ·funext s;by_cases hs:t=s
  ·subst hs;simp only[lk,if_true];unfold lkE at h;cases ht:lk e t with
   |none=>rfl
   |some d=>rw[ht]at h;simp only at h;subst h;rfl
  ·simp[lk,hs]
def Jb (tr:List (Nat×Ann)):Fps:=tr.map fun p=>(p.1,p.2.rd,p.2.wr)
def O5 (ops:Array Oper) (t:Nat):Prop:=∃ (j:Nat) (op:Oper),ops[j]? =some op∧op.dst=some t
theorem ZQ {dst:Option Tmp} {dv:DV X} {e:List (Nat×DV X)} {p:Nat×DV X} (h:p∈zW dst dv e):p∈e∨dst=some p.1:=by
 cases dst with
 |none=>exact .inl h
 |some t=>
  simp only[zW,mem_cons]at h;rcases h with rfl |h
  ·exact .inr rfl
  ·exact .inl h
theorem Em (hΓ:GOk P Γ) {k:List (Nat×DV X)->List (Nat×Option (DObj X))->Fps->Option A} {r:A}:∀ (l:List Nat) (e:List (Nat×DV X)) (o:List (Nat×Option (DObj X))) (fps:Fps),yR Γ fz T code ops b k l e o fps=some r->
 ∃ (tr:List (Nat×Ann)) (e':List (Nat×DV X)) (o':List (Nat×Option (DObj X))),tr.map (·.1)=l∧k e' o' ((Jb tr).reverse++fps)=some r∧(∀ p∈e',p∈e∨O5 ops p.1)∧
   ∀ ann:Nat->Ann,(∀ p∈tr,ann p.1=p.2)->PL P T ops ann (fun σ=>σ=eH b e' o') l (eH b e o)
 |[],e,o,fps,h=>⟨[],e,o,rfl,h,fun _ hp=> .inl hp,fun _ _=>rfl⟩
 |i::l,e,o,fps,h=>by
  simp only[yR]at h;rw[ai]at h;obtain⟨op,hop,h⟩:=h
  have exec:∀ e:List (Nat×DV X),want ops op (eH b e o).env (eH b e o).ok=some true->
   (bif O4 e b.env op.op then ace Γ fz T code i op.op (U0 (lkE e b.env)) (lkO o b.obj) fun dv upd rd wr=>yR Γ fz T code ops b k l (zW op.dst (Sm dv) e) (upd++o) ((i,rd,wr)::fps)else none)=some r->
   ∃ (tr:List (Nat×Ann)) (e':List (Nat×DV X)) (o':List (Nat×Option (DObj X))),tr.map (·.1)=i::l∧k e' o' ((Jb tr).reverse++fps)=some r∧(∀ p∈e',p∈e∨O5 ops p.1)∧
     ∀ ann:Nat->Ann,(∀ p∈tr,ann p.1=p.2)->PL P T ops ann (fun σ=>σ=eH b e' o') (i::l) (eH b e o):=by
   intro e hw h;obtain⟨hok,h⟩:=cond_some h;obtain⟨a,dv,upd,_,h1,h2⟩:=aeG hΓ hop hw hok h;obtain⟨tr,e',o',g1,g2,g4,g3⟩:=Em hΓ l _ _ _ h1;refine⟨(i,a)::tr,e',o',by simp[g1],?_,fun p hp=>(g4 p hp).elim (fun hp=>(ZQ hp).elim .inl fun hd=> .inr ⟨i,op,hop,hd⟩) .inr,fun ann ha=>?_⟩
   ·simpa[Jb]using g2
   ·exact h2 ann _ (ha (i,a) (by simp)) (g3 ann fun p hp=>ha p (by simp[hp]))
  have skip:∀ e:List (Nat×DV X),want ops op (eH b e o).env (eH b e o).ok=some false->yR Γ fz T code ops b k l (zW op.dst .skip e) o ((i,[],[])::fps)=some r->
   ∃ (tr:List (Nat×Ann)) (e':List (Nat×DV X)) (o':List (Nat×Option (DObj X))),tr.map (·.1)=i::l∧k e' o' ((Jb tr).reverse++fps)=some r∧(∀ p∈e',p∈e∨O5 ops p.1)∧
     ∀ ann:Nat->Ann,(∀ p∈tr,ann p.1=p.2)->PL P T ops ann (fun σ=>σ=eH b e' o') (i::l) (eH b e o):=by
   intro e hw h;obtain⟨tr,e',o',g1,g2,g4,g3⟩:=Em hΓ l _ _ _ h;refine⟨(i,⟨.none,[],[],false⟩)::tr,e',o',by simp[g1],?_,fun p hp=>(g4 p hp).elim (fun hp=>(ZQ hp).elim .inl fun hd=> .inr ⟨i,op,hop,hd⟩) .inr,fun ann ha=>?_⟩
   ·simpa[Jb]using g2
   ·exact step_skip hop hw ann _ (ha (i,_) (by simp)) (g3 ann fun p hp=>ha p (by simp[hp]))
  split at h
  ·rename_i hg;exact exec e (by simp[want,hg]) h
  ·rename_i j p hg;rw[ai]at h;obtain⟨t,ht,h⟩:=h;split at h
   ·rename_i v hv;have hw:∀ e:List (Nat×DV X),lkE e b.env t= .c .bool v->want ops op (eH b e o).env (eH b e o).ok=some (v==p):=by
     intro e he;simp only[want,hg,ht];have h0:(eH b e o).ok t=none:=by
      simp only[eH];unfold lkE at he;cases hq:lk e t with
      |none=>rfl
      |some d=>rw[hq]at he;simp only at he;subst he;rfl
     have h1:(eH b e o).env t= .t (.sc (.bool v)):=(by simp only[eH,he];rfl);rw[h0,h1]
    have hk:=acg (b:=b) (o:=o) hv;have hv':lkE ((t,.c .bool v)::e) b.env t= .c .bool v:=(by simp[lkE,lk]);have htd:O5 ops t:=by
     rw[ai]at ht;obtain⟨oj,h1,h2⟩:=ht;exact⟨j,oj,h1,h2⟩
    have wide:(∃ (tr:List (Nat×Ann)) (e':List (Nat×DV X)) (o':List (Nat×Option (DObj X))),tr.map (·.1)=i::l∧k e' o' ((Jb tr).reverse++fps)=some r∧(∀ p∈e',p∈((t,.c .bool v)::e:List (Nat×DV X))∨O5 ops p.1)∧
     ∀ ann:Nat->Ann,(∀ p∈tr,ann p.1=p.2)->PL P T ops ann (fun σ=>σ=eH b e' o') (i::l) (eH b ((t,.c .bool v)::e) o))->
     ∃ (tr:List (Nat×Ann)) (e':List (Nat×DV X)) (o':List (Nat×Option (DObj X))),tr.map (·.1)=i::l∧k e' o' ((Jb tr).reverse++fps)=some r∧(∀ p∈e',p∈e∨O5 ops p.1)∧
     ∀ ann:Nat->Ann,(∀ p∈tr,ann p.1=p.2)->PL P T ops ann (fun σ=>σ=eH b e' o') (i::l) (eH b e o):=by
     rintro⟨tr,e',o',g1,g2,g4,g3⟩;refine⟨tr,e',o',g1,g2,fun q hq=>?_,hk ▸ g3⟩;rcases g4 q hq with h |h
     ·rcases mem_cons.1 h with rfl |h
      ·exact .inr htd
      ·exact .inl h
     ·exact .inr h
    apply wide;cases v with
    |true=>
     simp only[cond_true]at h;cases p with
     |true=>exact exec _ (hw _ hv') h
     |false=>exact skip _ (hw _ hv') h
    |false=>
     simp only[cond_false]at h;cases p with
     |true=>exact skip _ (hw _ hv') h
     |false=>exact exec _ (hw _ hv') h
   ·rename_i hv;obtain⟨hsome,h⟩:=cond_some h;refine skip e ?_ h;simp only[want,hg,ht];have h1:(eH b e o).env t= .undef:=(by simp only[eH,hv];rfl);cases hq:lk e t with
    |some d=>
     have h0:(eH b e o).ok t=some false:=by
      unfold lkE at hv;rw[hq]at hv;simp only at hv;subst hv;simp only[eH,hq]
     rw[h0,h1]
    |none=>rw[hq]at hsome;cases hsome
   ·cases h
end
section
variable {X:SX} {A:Type}
def fN (nx k:Nat):Nat:=if k < 1000000 then k else nx+(k - 1000000)
def gN (nx j:Nat):Nat:=if j < nx then j else 1000000+(j - nx)
def okN (nx sz k:Nat):Bool:=decide (k < nx) || (decide (1000000<=k)&&decide (k < 1000000+sz))
def okE (nx sz:Nat) (e:List (Nat×DV X)):Bool:=e.all fun p=>(drefs p.2).all (okN nx sz)
def okO (nx sz:Nat) (o:List (Nat×Option (DObj X))):Bool:=o.all fun p=>okN nx sz p.1&&match p.2 with |some x=>(orefs x).all (okN nx sz) |none=>true
def ahS (fps:Fps):Nat->Ann:=fun i=>match lk fps i with |some p=>⟨.none,p.1,p.2,false⟩ |none=>⟨.none,[],[],false⟩
def aeH (tr:List (Nat×Ann)):Nat->Ann:=fun i=>match lk tr i with |some a=>a |none=>⟨.none,[],[],false⟩
def agp:DV X->DV X
 | .skip=> .undef
 |x=>x
theorem agq (x:DV X):den (agp x)=den x:=by cases x<;>rfl
theorem Wn (x:DV X):drefs (agp x)=drefs x:=by cases x<;>rfl
def fin (s:DSt X) (e:List (Nat×DV X)) (o:List (Nat×Option (DObj X))) (sz:Nat):DSt X:=
 ⟨e.map (fun p=>(p.1,agp (rnD (fN s.nx) p.2)))++s.env,o.map (fun p=>(fN s.nx p.1,p.2.map (rnO (fN s.nx))))++s.obj,s.nx+sz,o.map (fun p=>fN s.nx p.1)++s.log⟩
def agr (N:Nat) (ops:Array Oper) (d:Bool) (nx:Nat) (e:List (Nat×DV X)) (o:List (Nat×Option (DObj X))) (fps:Fps):Bool:=
 XB N ops&&(!d || adG ops (ahS fps))&&okE nx (64*ops.size) e&&okO nx (64*ops.size) o&&decide (nx+64*ops.size<=1000000)
def ach (Γ:FuncId->Option (Sig X)) (fz:List Nat) (T:Tab) (code:TypeId->Option (CT X.ι)) (N:Nat) (ops:Array Oper) (d:Bool) (s:DSt X) (k:DSt X->Option A):Option A:=
 yR Γ fz T code ops s (fun e o fps=>bif agr N ops d s.nx e o fps then k (fin s e o (64*ops.size))else none) (List.range ops.size) [] [] []
theorem ZR {ops:Array Oper} {ann ann':Nat->Ann} (h:∀ i,(ann i).rd=(ann' i).rd∧(ann i).wr=(ann' i).wr):adG ops ann=adG ops ann':=by
 have h1:w9 ann=w9 ann':=by
  funext i j;simp only[w9,(h i).1,(h i).2,(h j).1,(h j).2]
 have h2:∀ md,Nc md ops ann=Nc md ops ann':=by
  intro md;funext listed i;simp only[Nc,h1]
 have h3:∀ (md:Region.Mode) (n k:Nat) (listed:Array Bool),lexFrom' md ops ann n k listed=lexFrom' md ops ann' n k listed:=by
  intro md n
  induction n with
  |zero=>intro k listed;rfl
  |succ n ih=>intro k listed;simp only[lexFrom',h2,ih]
 exact h3 _ _ _ _
theorem CV {α:Type}:∀ (a b:List (Nat×α)) (k:Nat),lk (a++b) k=match lk a k with |some x=>some x |none=>lk b k
 |[],_,_=>rfl
 |(j,x)::a,b,k=>by
  simp only[cons_append,lk];by_cases h:j=k
  ·simp[h]
  ·simp only[if_neg h,CV a b k]
theorem adP {α:Type}:∀ {l:List (Nat×α)} {k:Nat},lk l k=none->∀ x,(k,x)∉l
 |(j,y)::r,k,h,x=>by
  simp only[lk]at h;split at h
  ·cases h
  ·rename_i hn;simp only[mem_cons,Prod.mk.injEq,not_or];exact⟨fun e=>hn e.1.symm,adP h x⟩
 |[],_,_,_=>by simp
theorem aiP {tr:List (Nat×Ann)} (hn:(tr.map (·.1)).Nodup) (i:Nat):(ahS (Jb tr).reverse i).rd=(aeH tr i).rd∧(ahS (Jb tr).reverse i).wr=(aeH tr i).wr:=by
 have hn':((Jb tr).reverse.map (·.1)).Nodup:=by
  rw[List.map_reverse];have h1:((Jb tr).map (·.1)).Nodup:=by simpa[Jb,Function.comp_def]using hn
  exact List.pairwise_reverse.2 (h1.imp fun h=>Ne.symm h)
 unfold ahS aeH;cases h:lk tr i with
 |none=>
  cases h':lk (Jb tr).reverse i with
  |none=>exact⟨rfl,rfl⟩
  |some p=>
   have:=nZ h';simp only[Jb,List.mem_reverse,mem_map]at this;obtain⟨q,hq,he⟩:=this;injection he with e1 e2;subst e1;exact (adP h q.2 hq).elim
 |some a=>
  have h1:=nZ h;have h2:(i,a.rd,a.wr)∈(Jb tr).reverse:=by
   simp only[Jb,List.mem_reverse,mem_map];exact⟨(i,a),h1,rfl⟩
  rw[ru hn' h2];exact⟨rfl,rfl⟩
theorem ags {tr:List (Nat×Ann)} (hn:(tr.map (·.1)).Nodup):∀ p∈tr,aeH tr p.1=p.2:=by
 rintro⟨i,a⟩ hp;unfold aeH;rw[ru hn hp]
theorem Sn {nx sz k:Nat} (h:okN nx sz k=true):k < nx∨(1000000<=k∧k < 1000000+sz):=by simpa[okN]using h
theorem gfN {nx sz k:Nat} (hle:nx+sz<=1000000) (h:k < nx∨(1000000<=k∧k < 1000000+sz)):gN nx (fN nx k)=k:=by
 unfold gN fN;rcases h with h |⟨h1,h2⟩
 ·rw[if_pos (show k < 1000000 by omega),if_pos h]
 ·rw[if_neg (show ¬ k < 1000000 by omega),if_neg (by omega)];omega
theorem Wo {nx sz k:Nat} (hle:nx+sz<=1000000) (h:k < nx∨(1000000<=k∧k < 1000000+sz)):fN nx k < nx+sz:=by
 unfold fN;rcases h with h |⟨h1,h2⟩
 ·rw[if_pos (show k < 1000000 by omega)];omega
 ·rw[if_neg (show ¬ k < 1000000 by omega)];omega
theorem adQ {nx k:Nat} (hle:nx<=1000000) (h:k < nx):fN nx k=k:=if_pos (by omega)
mutual
theorem Sq {f:Nat->Nat}:∀ x:DV X,(∀ k∈drefs x,f k=k)->rnD f x=x
 | .own k _ _,h=>by simp only[rnD,h k (by simp[drefs])]
 | .ptr k _ _,h=>by simp only[rnD,h k (by simp[drefs])]
 | .ptl k _ _,h=>by simp only[rnD,h k (by simp[drefs])]
 | .mp k,h=>by simp only[rnD,h k (by simp[drefs])]
 | .pta k _ _ _ _,h=>by simp only[rnD,h k (by simp[drefs])]
 | .agg cs,h=>by simp only[rnD,AL cs (by simpa[drefs]using h)]
 | .tup cs,h=>by simp only[rnD,AL cs (by simpa[drefs]using h)]
 | .fn F first caps,h=>by simp only[rnD,AL first (fun k hk=>h k (by simp[drefs,hk])),AL caps (fun k hk=>h k (by simp[drefs,hk]))]
 | .c _ _,_=>rfl
 | .rp _ _ _,_=>rfl
 | .clo _ _ _,_=>rfl
 | .raw _,_=>rfl
 | .nil,_=>rfl
 | .ub,_=>rfl
 | .skip,_=>rfl
 | .undef,_=>rfl
theorem AL {f:Nat->Nat}:∀ l:List (DV X),(∀ k∈aL l,f k=k)->Ja f l=l
 |[],_=>rfl
 |x::xs,h=>by simp only[Ja,Sq x (fun k hk=>h k (by simp[aL,hk])),AL xs (fun k hk=>h k (by simp[aL,hk]))]
end
mutual
theorem Sr (f:Nat->Nat):∀ x:DV X,drefs (rnD f x)=(drefs x).map f
 | .own _ _ _=>rfl
 | .ptr _ _ _=>rfl
 | .ptl _ _ _=>rfl
 | .mp _=>rfl
 | .pta _ _ _ _ _=>rfl
 | .agg cs=>by simp only[rnD,drefs,yB f cs]
 | .tup cs=>by simp only[rnD,drefs,yB f cs]
 | .fn F first caps=>by simp only[rnD,drefs,yB f first,yB f caps,map_append]
 | .c _ _=>rfl
 | .rp _ _ _=>rfl
 | .clo _ _ _=>rfl
 | .raw _=>rfl
 | .nil=>rfl
 | .ub=>rfl
 | .skip=>rfl
 | .undef=>rfl
theorem yB (f:Nat->Nat):∀ l:List (DV X),aL (Ja f l)=(aL l).map f
 |[]=>rfl
 |x::xs=>by simp only[Ja,aL,Sr f x,yB f xs,map_append]
end
theorem ZT (f:Nat->Nat) (o:DObj X):orefs (rnO f o)=(orefs o).map f:=by
 cases o with
 |cells sz rows=>simp only[rnO,orefs,map_map,List.map_flatten];congr 1;exact map_congr_left fun r _=>yB f r
 |lst c l=>rfl
 |map kc vc l=>rfl
theorem agt {α β:Type} (f:α->β):∀ (l:List (Nat×α)) (k:Nat),lk (l.map fun p=>(p.1,f p.2)) k=(lk l k).map f
 |[],_=>rfl
 |(j,x)::r,k=>by
  simp only[map_cons,lk];by_cases h:j=k
  ·simp[h]
  ·simp only[if_neg h,agt f r k]
theorem adR {α β:Type} (f:α->β) (g:Nat->Nat):∀ (l:List (Nat×α)) (j:Nat),(∀ p∈l,∀ q∈l,g p.1=g q.1->p.1=q.1)->
 (∀ y,lk (l.map fun p=>(g p.1,f p.2)) j=some y->∃ k x,lk l k=some x∧g k=j∧y=f x)∧(lk (l.map fun p=>(g p.1,f p.2)) j=none->∀ p∈l,g p.1≠j)
 |[],_,_=>⟨fun _ h=>by simp[lk]at h,fun _=>by simp⟩
 |(k0,x0)::r,j,hi=>by
  obtain⟨i1,i2⟩:=adR f g r j (fun p hp q hq=>hi p (by simp[hp]) q (by simp[hq]));simp only[map_cons,lk];by_cases h:g k0=j
  ·rw[if_pos h];exact⟨fun y hy=>by injection hy with hy;exact⟨k0,x0,by simp,h,hy.symm⟩,fun hn=>by cases hn⟩
  ·rw[if_neg h];refine⟨fun y hy=>?_,fun hn p hp=>?_⟩
   ·obtain⟨k,x,h1,h2,h3⟩:=i1 y hy;refine⟨k,x,?_,h2,h3⟩;have hne:k0≠k:=fun e=>h (by rw[e];exact h2);rw[if_neg hne];exact h1
   ·rcases mem_cons.1 hp with rfl |hp
    ·exact h
    ·exact i2 hn p hp
structure Ext (ds:Nat->Prop) (s s':DSt X):Prop where
 env:∀ t,¬ ds t->lke s'.env t=lke s.env t∨lke s'.env t= .undef
 obj:∃ d,s'.log=d++s.log∧∀ k,k < s.nx->k∉d->lko s'.obj k=lko s.obj k∨lko s'.obj k=none
 nx:s.nx<=s'.nx
variable {Γ:FuncId->Option (Sig X)} {fz:List Nat} {T:Tab} {code:TypeId->Option (CT X.ι)} {P:Program} {N:Nat}
theorem Lm (s:DSt X) (e:List (Nat×DV X)) (o:List (Nat×Option (DObj X))) (sz t:Nat):lke (fin s e o sz).env t=match lk e t with |some d=>agp (rnD (fN s.nx) d) |none=>lke s.env t:=by
 simp only[fin,lke,CV,agt (fun d=>agp (rnD (fN s.nx) d))];cases lk e t<;>rfl
theorem XZ (hT:dG P T) (hm:P.follows .mixedOrders=true) (hΓ:GOk P Γ) {id:Nat} {ops:Array Oper} {d:Bool} {s:DSt X} {k:DSt X->Option A} {r:A} (hl:Low s) (h:ach Γ fz T code N ops d s k=some r):
 ∃ s':DSt X,k s'=some r∧Low s'∧Ext (O5 ops) s s'∧Ev P N (.region id ops d) (fun e σ=>e= .normal∧σ=s'.st) s.st:=by
 unfold ach at h;obtain⟨tr,e,o,h1,h2,h3,h4⟩:=Em hΓ _ _ _ _ h;obtain⟨h5,h6⟩:=cond_some h2;simp only[agr,and_eq_true,append_nil]at h5;obtain⟨⟨⟨⟨hd,hlex⟩,hE⟩,hO⟩,hnx⟩:=h5;have hle:s.nx+64*ops.size<=1000000:=of_decide_eq_true hnx;have hnod:(tr.map (·.1)).Nodup:=by rw[h1];exact List.nodup_range
 have hEn:∀ t x,lk e t=some x->∀ j∈drefs x,j < s.nx∨(1000000<=j∧j < 1000000+64*ops.size):=by
  intro t x hx j hj;have:=all_eq_true.1 hE _ (nZ hx);exact Sn (all_eq_true.1 this j hj)
 have hOn:∀ p∈o,(p.1 < s.nx∨(1000000<=p.1∧p.1 < 1000000+64*ops.size))∧∀ x,p.2=some x->∀ j∈orefs x,j < s.nx∨(1000000<=j∧j < 1000000+64*ops.size):=by
  intro p hp;have:=all_eq_true.1 hO _ hp;simp only[and_eq_true]at this;refine⟨Sn this.1,fun x hx j hj=>?_⟩;have h2:=this.2;rw[hx]at h2;exact Sn (all_eq_true.1 h2 j hj)
 have hinj:∀ p∈o,∀ q∈o,fN s.nx p.1=fN s.nx q.1->p.1=q.1:=by
  intro p hp q hq he;have:=congrArg (gN s.nx) he
  rwa [gfN hle (hOn p hp).1,gfN hle (hOn q hq).1]at this
 have hlko:∀ j,(∃ q x,lk o q=some x∧fN s.nx q=j∧lko (fin s e o (64*ops.size)).obj j=x.map (rnO (fN s.nx)))∨(lko (fin s e o (64*ops.size)).obj j=lko s.obj j∧∀ p∈o,fN s.nx p.1≠j):=by
  intro j;obtain⟨i1,i2⟩:=adR (fun x:Option (DObj X)=>x.map (rnO (fN s.nx))) (fN s.nx) o j hinj;simp only[fin,lko,CV];cases hj:lk (o.map fun p=>(fN s.nx p.1,p.2.map (rnO (fN s.nx)))) j with
  |none=>exact .inr ⟨rfl,i2 hj⟩
  |some y=>
   obtain⟨q,x,g1,g2,g3⟩:=i1 y hj;exact .inl ⟨q,x,g1,g2,by rw[g3];rfl⟩
 refine⟨fin s e o (64*ops.size),h6,?_,?_,?_⟩
 ·constructor
  ·exact hle
  ·have:=hl.ge;show 1000<=s.nx+64*ops.size;omega
  ·intro t j hj;rw[Lm]at hj;cases ht:lk e t with
   |none=>rw[ht]at hj;have:=hl.env t j hj;show j < s.nx+64*ops.size;omega
   |some x=>
    rw[ht,Wn,Sr]at hj;obtain⟨q,hq,rfl⟩:=mem_map.1 hj;exact Wo hle (hEn t x ht q hq)
  ·intro j x hx;rcases hlko j with ⟨q,y,g1,rfl,g3⟩ |⟨g1,_⟩
   ·rw[g3]at hx;rw[Option.map_eq_some_iff]at hx;obtain⟨z,rfl,rfl⟩:=hx;obtain⟨k1,k2⟩:=hOn _ (nZ g1);refine⟨Wo hle k1,fun i hi=>?_⟩;rw[ZT]at hi;obtain⟨i',hi',rfl⟩:=mem_map.1 hi;exact Wo hle (k2 z rfl i' hi')
   ·rw[g1]at hx;obtain⟨k1,k2⟩:=hl.obj j x hx;refine⟨show j < s.nx+64*ops.size by omega,fun i hi=>?_⟩;have:=k2 i hi;show i < s.nx+64*ops.size;omega
 ·refine⟨fun t ht=> .inl ?_,⟨o.map (fun p=>fN s.nx p.1),rfl,fun j hj hn=>?_⟩,by show s.nx<=s.nx+64*ops.size;omega⟩
  ·rw[Lm];cases hx:lk e t with
   |none=>rfl
   |some x=>
    rcases h3 _ (nZ hx)with h |h
    ·simp at h
    ·exact (ht h).elim
  ·rcases hlko j with ⟨q,y,g1,g2,g3⟩ |⟨g1,_⟩
   ·exact (hn (mem_map.2 ⟨(q,y),nZ g1,g2⟩)).elim
   ·exact .inl g1
 ·have hst:eH s [] []=s.st:=rfl;have hex:=h4 (aeH tr) (ags hnod);rw[hst]at hex;intro w0 O0 β I a w hr ho;have done:∀ (e':Exit) (a':Act) (w':World),(∃ β' I' σ1,Rel P w0 O0 N β' I' σ1 a' w'∧e'= .normal∧σ1=eH s e o)->∃ β' I' σ1,Rel P w0 O0 N β' I' σ1 a' w'∧Old σ1∧e'= .normal∧σ1=(fin s e o (64*ops.size)).st:=by
   rintro e' a' w' ⟨β',I',σ1,g1,rfl,rfl⟩;refine⟨_,I',(fin s e o (64*ops.size)).st,Rel.re (f:=fN s.nx) (g:=gN s.nx) (D:=fun k=>k < s.nx∨(1000000<=k∧k < 1000000+64*ops.size)) (fun k hk=>gfN hle hk) (fun j hj=>by have:=hl.ge;unfold gN;rw[if_pos (by omega)]) g1 (fun t=>?_) (fun _=>rfl) (fun t=> .inr ?_) (fun j o' hj=>?_),?_,rfl,rfl⟩
   ·show (match lk e t with |some .skip=>some false |_=>none)=none∨den (lke (fin s e o (64*ops.size)).env t)= .undef;rw[Lm];cases ht:lk e t with
    |none=>exact .inl rfl
    |some d=>cases d<;>first |exact .inl rfl |exact .inr rfl
   ·show (∀ k∈refs (den (lkE e s.env t)),_)∧Wkn (rnA (fN s.nx) (den (lkE e s.env t))) (den (lke (fin s e o (64*ops.size)).env t));rw[Lm,fE,<- AJ];unfold lkE;cases ht:lk e t with
    |none=>
     refine⟨fun q hq=> .inl (hl.env t q hq),?_⟩;rw[Sq _ (fun q hq=>adQ (by omega) (hl.env t q hq))];exact Wkn.refl _
    |some x=>exact⟨hEn t x ht,by simp only[agq];exact Wkn.refl _⟩
   ·simp only[DSt.st,Option.map_eq_some_iff]at hj;obtain⟨x,hx,rfl⟩:=hj;rcases hlko j with ⟨q,y,i1,rfl,i3⟩ |⟨i1,i2⟩
    ·rw[i3,Option.map_eq_some_iff]at hx;obtain⟨z,rfl,rfl⟩:=hx;obtain⟨k1,k2⟩:=hOn _ (nZ i1);obtain⟨r1,r2⟩:=Iq (D:=fun k=>k < s.nx∨(1000000<=k∧k < 1000000+64*ops.size)) (fN s.nx) z (fun i hi=>k2 z rfl i hi);refine⟨q,aY z,?_,k1,rfl,r1,r2⟩;simp only[eH,lkO,i1,Option.map_some]
    ·rw[i1]at hx;obtain⟨k1,k2⟩:=hl.obj j x hx;have hid:rnO (fN s.nx) x=x:=by
      cases x with
      |lst c l=>rfl
      |map kc vc l=>rfl
      |cells sz rows=>
       simp only[rnO];congr 1;have:∀ q∈rows,Ja (fN s.nx) q=q:=fun q hq=>AL q fun i hi=>adQ (by omega) (k2 i (by
        simp only[orefs,List.mem_flatten,mem_map];exact⟨_,⟨q,hq,rfl⟩,hi⟩))
       rw[map_congr_left this];simp
     obtain⟨r1,r2⟩:=Iq (D:=fun k=>k < s.nx∨(1000000<=k∧k < 1000000+64*ops.size)) (fN s.nx) x (fun i hi=> .inl (k2 i hi));rw[hid]at r1 r2;refine⟨j,aY x,?_,.inl k1,adQ (by omega) k1,r1,r2⟩;simp only[eH,lkO];cases hlo:lk o j with
     |none=>simp[hx]
     |some y=>exact (i2 _ (nZ hlo) (adQ (by omega) k1)).elim
   ·have hL:Low (fin s e o (64*ops.size)):=by
     constructor
     ·exact hle
     ·have:=hl.ge;show 1000<=s.nx+64*ops.size;omega
     ·intro t j hj;rw[Lm]at hj;cases ht:lk e t with
      |none=>rw[ht]at hj;have:=hl.env t j hj;show j < s.nx+64*ops.size;omega
      |some x=>
       rw[ht,Wn,Sr]at hj;obtain⟨q,hq,rfl⟩:=mem_map.1 hj;exact Wo hle (hEn t x ht q hq)
     ·intro j x hx;rcases hlko j with ⟨q,y,g1,rfl,g3⟩ |⟨g1,_⟩
      ·rw[g3]at hx;rw[Option.map_eq_some_iff]at hx;obtain⟨z,rfl,rfl⟩:=hx;obtain⟨k1,k2⟩:=hOn _ (nZ g1);refine⟨Wo hle k1,fun i hi=>?_⟩;rw[ZT]at hi;obtain⟨i',hi',rfl⟩:=mem_map.1 hi;exact Wo hle (k2 z rfl i' hi')
      ·rw[g1]at hx;obtain⟨k1,k2⟩:=hl.obj j x hx;refine⟨show j < s.nx+64*ops.size by omega,fun i hi=>?_⟩;have:=k2 i hi;show i < s.nx+64*ops.size;omega
    exact hL.old
  cases d with
  |false=>exact wp_mono (aei hT hd ho hex hr) done
  |true=>
   refine wp_mono (Rw hT hm hd ?_ ho hex hr) done;rw[<- ZR (aiP hnod)];simpa using hlex
end
end Go.Gb
namespace Go.Gb
open Go.RowKit
structure Sh (ι:Type) where
 slots:List (Nat×Pt ι)
 objs:List (Nat×OP ι)
 keep:List Nat
 keepO:List Nat
 nx:Nat
 nils:List (Nat×CT ι)
def Sh.vars {ι:Type} (s:Sh ι):List (CT ι):=varsS s.slots++varsO s.objs
section
variable {X:SX}
def ZU (s:DSt X) (t:Nat) (c:CT X.ι):DSt X:=
 match lke s.env t with
 | .nil=>if s.nx < 1000000 then⟨(t,.own s.nx 0 0)::s.env,(s.nx,some (.lst c []))::s.obj,s.nx+1,s.nx::s.log⟩else s
 |_=>s
def ZV (s:DSt X) (q j:Nat) (c:CT X.ι):DSt X:=
 match lko s.obj q with
 |some (.cells sz [row])=>match row[j]? with
  |some .nil=>if s.nx < 1000000 then⟨s.env,(q,some (.cells sz [row.set j (.own s.nx 0 0)]))::(s.nx,some (.lst c []))::s.obj,s.nx+1,q::s.nx::s.log⟩else s
  |_=>s
 |_=>s
def Sv:List (Nat×CT X.ι)->DSt X->DSt X
 |[],s=>s
 |(t,c)::r,s=>Sv r (bif Nat.ble 1000000 t then ZV s ((t - 1000000)/4096) ((t - 1000000)%4096) c else ZU s t c)
def isU:DV X->Bool
 | .undef | .skip=>true
 |_=>false
def encS (sh:Sh X.ι) (s0:DSt X) (v:VT (X:=X) sh.vars):DSt X:=
 let L:=uw sh.vars v
 let n:=(varsS sh.slots).length
 let ol:=fun k=>(lk (lens sh.objs (L.drop n)) k).getD 0
 ⟨BI ol sh.slots (L.take n)++sh.keep.map (fun t=>(t,lke s0.env t)),bB ol sh.objs (L.drop n)++sh.keepO.map (fun k=>(k,lko s0.obj k)),sh.nx,
  (List.range s0.nx).filter (fun k=>!sh.keepO.contains k)++s0.log⟩
def okS (sh:Sh X.ι) (ds:List Nat) (s0 s':DSt X) (m:MA X):Bool:=
 decide (m.nm.map (·.1)++sh.keepO).Nodup&&decide (m.nm.map (·.2)++sh.keepO).Nodup&&decide (sh.objs.map (·.1)).Nodup&&m.nm.all (fun q=>(sh.objs.map (·.1)).contains q.2&&decide (q.2 < sh.nx)&&(decide (q.1=q.2) || decide (1000<=q.2)))&&
  sh.slots.all (fun p=>ds.contains p.1)&&sh.keep.all (fun t=>!ds.contains t&&!isU (lke s'.env t)&&(drefs (lke s0.env t)).all fun j=>sh.keepO.contains j || m.nm.contains (j,j))&&
  sh.keepO.all (fun k=>decide (k < s0.nx)&&!(s'.log.take (s'.log.length - s0.log.length)).contains k&&(lko s'.obj k).isSome&&match lko s0.obj k with |some o=>(orefs o).all fun j=>sh.keepO.contains j || m.nm.contains (j,j) |none=>false)&&
  decide (s0.nx<=sh.nx)&&decide (sh.nx<=1000000)
def J3 {A:Type} (sh:Sh X.ι) (ds:List Nat) (s0 s':DSt X) (k:VT (X:=X) sh.vars->Option A):Option A:=
 (Gs (lko s'.obj) (lke s'.env) sh.slots ⟨[],[],[]⟩).bind fun m=>(CO (lko s'.obj) sh.objs m).bind fun m=>bif okS sh ds s0 s' m then (U2 sh.vars m.dcs).bind fun v=>RH m.chk (k v)else none
def jg {A:Type} (sh:Sh X.ι) (ds:List Nat) (s0 s':DSt X) (k:VT (X:=X) sh.vars->Option A):Option A:=
 bif sh.nils.all (fun p=>ds.contains p.1 || Nat.ble 1000000 p.1)then J3 sh ds s0 (Sv sh.nils s') k else none
end
end Go.Gb
