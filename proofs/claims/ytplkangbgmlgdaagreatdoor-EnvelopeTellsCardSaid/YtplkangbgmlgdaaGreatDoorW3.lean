/-
  The operations of the typed walk.
-/
import Derived.Test.YtplkangbgmlgdaaGreatDoorW2
open List (mem_map all_eq_true cons_append length_map append_nil map_map map_congr_left map_nil all_cons map_take map_drop map_append)
namespace Go.Gb
open Go.RowKit
def at? {α:Type} (l:List α) (n:Int):Option α:=bif decide (0<=n)then l[n.toNat]? else none
def sub {α:Type} (l:List α) (off len:Nat):List α:=(l.drop off).take len
def inb (n:Int) (len:Nat):Bool:=decide (0<=n)&&decide (n < (len:Int))
def gQ {α β:Type} (a:α) (f:α->β):β:=f a
def bM (lo len ln n bytes:Nat):Bool:=decide (lo=len)&&decide (ln=n)&&decide ((len+n)*bytes<=140737488355328)&&decide (len+n<=maxLen)
def eqL (a b:Nat):Bool:=decide (a=b)
def yA (l h:Int) (len:Nat):Bool:=decide (0<=l)&&decide (l<=h)&&decide (h<=(len:Int))
abbrev iN (n:Int):Int:=n
abbrev bN (b:Bool):Bool:=b
def Wj {A:Type}:List Bool->Option A->Option A
 |[],k=>k
 |c::cs,k=>bif c then Wj cs k else none
section
variable {X:SX} {A:Type}
abbrev KK (X:SX) (A:Type):=DV X->List (Nat×Option (DObj X))->List Nat->List Nat->Option A
def ahY (t:Bool) (x y:DV X):DV X:=
 match x,y with
 | .c a p,.c b q=>match decEq b a with
  |isTrue h=> .c a (bif t then p else h ▸ q)
  |isFalse _=>bif t then .c a p else .c b q
 |x,y=>bif t then x else y
def LJ (agg:Bool) (size:Nat) (cs:List (DV X)):Option (DV X):=
 if cs.length=size then (if agg then some (.agg cs)else match cs with |[x]=>if vP x then some x else none |_=>none)else none
def agb (agg:Bool) (size:Nat) (c:CT X.ι) (y:CT.T X.toSE c) (off:Nat):Option (DV X):=
 match c,y with
 | .st i,y=>if off=0∧agg=true∧size=(X.tys i).length then some (.c (.st i) y)else LJ agg size (((zx (.st i) y).drop off).take size)
 |c,y=>LJ agg size (((zx c y).drop off).take size)
def Oo (d:DV X) (c:CT X.ι):Option (CT.T X.toSE c):=
 match d,c with
 | .c a x,c=>kV a c x
 | .nil,.sl _=>some []
 | .nil,.any=>some (.sl [])
 |_,_=>none
def zy:List (DV X)->(l:List (CT X.ι))->Option (HL X.toSE l)
 |[],[]=>some ()
 |d::ds,c::l=>(Oo d c).bind fun x=>(zy ds l).bind fun h=>some (x,h)
 |_,_=>none
def ahZ (d:DV X) (i:X.ι):Option (CT.T X.toSE (.st i)):=
 match d with
 | .agg cs=>(zy cs (X.tys i)).bind fun h=>some (X.make i h)
 | .c a x=>kV a (.st i) x
 |_=>none
def dat (d:DV X) (c:CT X.ι):Option (CT.T X.toSE c):=
 match c with
 | .st i=>ahZ d i
 |c=>Oo d c
def mk1 (c:CT X.ι):List (DV X)->Option (CT.T X.toSE c)
 |[d]=>Oo d c
 |_=>none
def Ty (c:CT X.ι) (ds:List (DV X)):Option (CT.T X.toSE c):=
 match c with
 | .st i=>(zy ds (X.tys i)).bind fun h=>some (X.make i h)
 |c=>mk1 c ds
def ah0 (r:List (DV X)) (off:Nat) (cs:List (DV X)):List (DV X):=r.take off++cs++r.drop (off+cs.length)
variable (T:Tab) (code:TypeId->Option (CT X.ι))
def ldD (t:TypeId) (x:DV X) (get:Nat->Option (DObj X)) (k:KK X A):Option A:=
 (T t).bind fun ti=>match x with
 | .ptr kk row off=>(get kk).bind fun o=>match o with
  | .cells _ rows=>(rows[row]?).bind fun r=>(LJ ti.agg ti.size ((r.drop off).take ti.size)).bind fun v=>k v [] [kk] []
  |_=>none
 | .ptl kk n off=>(get kk).bind fun o=>match o with
  | .lst c l=>(at? l n).bind fun y=>(agb ti.agg ti.size c y off).bind fun v=>k v [] [kk] []
  |_=>none
 | .rp c y off=>(agb ti.agg ti.size c y off).bind fun v=>k v [] [] []
 |_=>none
def stD (t:TypeId) (x y:DV X) (get:Nat->Option (DObj X)) (k:KK X A):Option A:=
 (T t).bind fun ti=>(cellsD y).bind fun cs=>if cs.length=ti.size then match x with
 | .ptr kk row off=>(get kk).bind fun o=>match o with
  | .cells sz rows=>(rows[row]?).bind fun r=>if off+cs.length<=r.length then k .undef [(kk,some (.cells sz (rows.set row (ah0 r off cs))))] [kk] [kk]else none
  |_=>none
 | .ptl kk n off=>(get kk).bind fun o=>match o with
  | .lst c l=>(at? l n).bind fun y=>if off+cs.length<=CT.sz X c then (Ty c (ah0 (zx c y) off cs)).bind fun z=>k .undef [(kk,some (.lst c (l.set n.toNat z)))] [kk] [kk]else none
  |_=>none
 |_=>none else none
def Kn (t:TypeId) (x:DV X) (f:Nat) (k:KK X A):Option A:=
 (A7 T t f).bind fun p=>match x with
 | .ptr kk row off=>k (.ptr kk row (off+p.1)) [] [] []
 | .ptl kk n off=>k (.ptl kk n (off+p.1)) [] [] []
 | .rp c y off=>k (.rp c y (off+p.1)) [] [] []
 |_=>none
def ad8 (t:TypeId) (x:DV X) (f:Nat) (k:KK X A):Option A:=
 (A7 T t f).bind fun p=>match x with
 | .agg cs=>(LJ p.2.agg p.2.size ((cs.drop p.1).take p.2.size)).bind fun v=>k v [] [] []
 | .c (.st i) y=>(LJ p.2.agg p.2.size (((zx (.st i) y).drop p.1).take p.2.size)).bind fun v=>k v [] [] []
 |_=>none
def Ko (t:TypeId) (x j:DV X) (get:Nat->Option (DObj X)) (k:KK X A):Option A:=
 (T t).bind fun ti=>match ti.k,j with
 | .slice e,.c (.int _) n=>(T e).bind fun ei=>match x with
  | .c (.sl c) l=>if CT.sz X c=ei.size then (at? l n).bind fun y=>k (.rp c y 0) [] [] []else none
  | .own kk off len=>(get kk).bind fun o=>match o with
   | .lst c _=>if CT.sz X c=ei.size then bif inb n len then k (.ptl kk ((off:Int)+iN n) 0) [] [kk] []else none else none
   | .cells sz _=>if sz=ei.size then bif inb n len then k (.ptr kk (off+n.toNat) 0) [] [kk] []else none else none
   | .map _ _ _=>none
  |_=>none
 | .arr m e,.c (.int _) n=>(T e).bind fun ei=>bif inb n m then match x with
  | .ptr kk row off=>k (.ptr kk row (off+n.toNat*ei.size)) [] [] []
  | .ptl kk r off=>k (.ptl kk r (off+n.toNat*ei.size)) [] [] []
  | .rp c y off=>k (.rp c y (off+n.toNat*ei.size)) [] [] []
  |_=>none
  else none
 |_,_=>none
def Tz (x:DV X) (j:Nat) (k:KK X A):Option A:=
 match x with
 | .tup vs=>(vs[j]?).bind fun v=>k v [] [] []
 |_=>none
def Gt (op:BinOp) (kd:IntKind) (a b:Int):(DV X)×Option Bool:=
 match op with
 | .add=>(.c (.int kd) (kd.wrap (a+b)),none)
 | .sub=>(.c (.int kd) (kd.wrap (a - b)),none)
 | .mul=>(.c (.int kd) (kd.wrap (a*b)),none)
 | .quo=>(.c (.int kd) (kd.wrap (a.tdiv b)),some (b != 0))
 | .rem=>(.c (.int kd) (a.tmod b),some (b != 0))
 | .and=>(.c (.int kd) (bits .and kd a b),none)
 | .or=>(.c (.int kd) (bits .or kd a b),none)
 | .xor=>(.c (.int kd) (bits .xor kd a b),none)
 | .andNot=>(.c (.int kd) (bits .andNot kd a b),none)
 | .shl=>(.c (.int kd) (kd.wrap (a*2 ^ b.toNat)),some (decide (0<=b)&&decide (b<=kd.bits)))
 | .shr=>(.c (.int kd) (a/2 ^ b.toNat),some (decide (0<=b)&&decide (b<=kd.bits)))
 | .eql=>(.c .bool (a==b),none)
 | .neq=>(.c .bool (a != b),none)
 | .lss=>(.c .bool (decide (a < b)),none)
 | .leq=>(.c .bool (decide (a<=b)),none)
 | .gtr=>(.c .bool (decide (a>b)),none)
 | .geq=>(.c .bool (decide (a>=b)),none)
def YZ:Nat->DV X->DV X->Option Bool
 | 0,.c (.int j) a,.c (.int k) b=>if j=k then some (iN a==iN b)else none
 | 1,.c .bool a,.c .bool b=>some (bN a==bN b)
 | 2,.c .str a,.c .str b=>some (a.toList==b.toList)
 |_,_,_=>none
def wG:List Nat->List (DV X)->List (DV X)->Option Bool
 |[],[],[]=>some true
 |k::ks,x::xs,y::ys=>(YZ k x y).bind fun a=>(wG ks xs ys).bind fun b=>some (a&&b)
 |_,_,_=>none
def ajn:DV X->Option (List (DV X))
 | .agg cs=>some cs
 | .c (.st i) y=>some (zx (.st i) y)
 |_=>none
def aki (op:BinOp) (t:TypeId) (x y:DV X) (k:KK X A):Option A:=
 match x,y with
 | .c (.int kd) a,.c (.int yk) b=>if kd=yk∨op= .shl∨op= .shr then match (Gt op kd a b:DV X×Option Bool).2 with
  |none=>k (Gt op kd a b).1 [] [] []
  |some g=>bif g then k (Gt op kd a b).1 [] [] []else none
  else none
 | .c .str a,.c .str b=>match op with
  | .eql=>k (.c .bool (a.toList==b.toList)) [] [] []
  | .neq=>k (.c .bool (!(a.toList==b.toList))) [] [] []
  |_=>none
 | .c .bool a,.c .bool b=>(T t).bind fun ti=>match ti.k,op with
  | .bool,.eql=>k (.c .bool (bN a==bN b)) [] [] []
  | .bool,.neq=>k (.c .bool (!(bN a==bN b))) [] [] []
  |_,_=>none
 |x,y=>(ajn x).bind fun xs=>(ajn y).bind fun ys=>(T t).bind fun ti=>if ti.cmp=[]then none else (wG ti.cmp xs ys).bind fun b=>match op with
  | .eql=>k (.c .bool b) [] [] []
  | .neq=>k (.c .bool (!b)) [] [] []
  |_=>none
def unD (op:UnOp) (x:DV X) (k:KK X A):Option A:=
 match op,x with
 | .not,.c .bool b=>k (.c .bool (!b)) [] [] []
 | .neg,.c (.int kd) n=>k (.c (.int kd) (kd.wrap (0 - iN n))) [] [] []
 |_,_=>none
def IZ (mx:Bool) (kd:IntKind):Int->List (DV X)->Option Int
 |a,[]=>some a
 |a,.c (.int k') b::r=>if k'=kd then IZ mx kd (if mx then max a b else min a b) r else none
 |_,_=>none
def mmD (mx:Bool) (args:List (DV X)) (k:KK X A):Option A:=
 match args with
 | .c (.int kd) a::r=>(IZ mx kd a r).bind fun n=>k (.c (.int kd) n) [] [] []
 |_=>none
def akj (t:TypeId) (x:DV X) (k:KK X A):Option A:=
 (T t).bind fun ti=>match ti.k,x with
 | .slice _,.c (.sl _) l=>k (.c (.int .i64) (l.length:Int)) [] [] []
 | .slice _,.own _ _ len=>k (.c (.int .i64) (len:Int)) [] [] []
 | .slice _,.nil=>k (.c (.int .i64) (0:Int)) [] [] []
 | .str,.c .str s=>k (.c (.int .i64) (s.size:Int)) [] [] []
 |_,_=>none
def Xv (place:Nat->Option (Nat×Nat)):List (DV X)->List (Nat×DV X)->Option (List (DV X))
 |cells,[]=>some cells
 |cells,(j,x)::rest=>(place j).bind fun p=>(cellsD x).bind fun cs=>
  if cs.length=p.2∧p.1+cs.length<=cells.length then Xv place (ah0 cells p.1 cs) rest else none
def ad9 (t:TypeId) (parts:List (Nat×DV X)) (k:KK X A):Option A:=
 (T t).bind fun ti=>match ti.k with
 | .struct fs=>if fs.all (fun p=>(T p.2).isSome)then
  (Xv (fun j=>(fs[j]?).bind fun p=>(T p.2).bind fun ui=>some (p.1,ui.size)) (ti.zero.map cvD) parts).bind fun cells=>k (.agg cells) [] [] []else none
 | .arr _ e=>(T e).bind fun ei=>(Xv (fun j=>some (j*ei.size,ei.size)) (ti.zero.map cvD) parts).bind fun cells=>k (.agg cells) [] [] []
 |_=>none
def ah1 (c:CT X.ι):Nat->List (Nat×DV X)->Option (List (CT.T X.toSE c))
 |_,[]=>some []
 |n,(j,x)::r=>if j=n then (dat x c).bind fun y=>(ah1 c (n+1) r).bind fun l=>some (y::l)else none
def Gu (i:Nat) (t:TypeId) (len:Nat) (parts:List (Nat×DV X)) (k:KK X A):Option A:=
 (T t).bind fun ti=>match ti.k with
 | .slice e=>(T e).bind fun ei=>(code e).bind fun c=>if ei.size=0∨len*ei.size>2 ^ 24∨CT.sz X c≠ei.size∨parts.length≠len then none else
  (ah1 c 0 parts).bind fun l=>k (.own (nid i) 0 len) [(nid i,some (.lst c l))] [] []
 |_=>none
def aea (i:Nat) (e:TypeId) (k:KK X A):Option A:=
 (T e).bind fun ti=>k (.ptr (nid i) 0 0) [(nid i,some (.cells ti.size [ti.zero.map cvD]))] [] []
def akk (i:Nat) (x:DV X) (k:KK X A):Option A:=
 (cellsD x).bind fun cs=>k (.ptr (nid i) 0 0) [(nid i,some (.cells cs.length [cs]))] [] []
def abj (d:Int):Option (DV X)->Option Int
 |none=>some d
 |some (.c (.int _) n)=>some n
 |_=>none
def aeb (t:TypeId) (x:DV X) (lo hi:Option (DV X)) (get:Nat->Option (DObj X)) (k:KK X A):Option A:=
 (T t).bind fun ti=>match ti.k with
 | .slice e=>(T e).bind fun ei=>match x with
  | .own kk off len=>(get kk).bind fun o=>if (dM o).sz=ei.size then (abj 0 lo).bind fun l=>(abj len hi).bind fun h=>
   bif yA l h len then k (.own kk (off+l.toNat) (h.toNat - l.toNat)) [] [kk] []else none else none
  | .c (.sl c) xs=>if CT.sz X c=ei.size then (abj 0 lo).bind fun l=>(abj xs.length hi).bind fun h=>
   bif yA l h xs.length then k (.c (.sl c) (sub xs l.toNat (h.toNat - l.toNat))) [] [] []else none else none
  |_=>none
 |_=>none
def akl (y:DV X) (c:CT X.ι) (get:Nat->Option (DObj X)):Option (Nat×List (CT.T X.toSE c)×List Nat):=
 match y with
 | .own kk off len=>(get kk).bind fun o=>match o with
  | .lst b l=>(kV (.sl b) (.sl c) l).bind fun l=>some (len,sub l off len,[kk])
  |_=>none
 | .c b l=>(kV b (.sl c) l).bind fun (l:List (CT.T X.toSE c))=>some (l.length,l,[])
 |_=>none
def Y0 (i:Nat) (t:TypeId) (x y:DV X) (get:Nat->Option (DObj X)) (k:KK X A):Option A:=
 (T t).bind fun ti=>match ti.k with
 | .slice e=>(T e).bind fun ei=>(code e).bind fun c=>if CT.sz X c=ei.size then (akl y c get).bind fun s=>match x with
  | .own kk 0 len=>(get kk).bind fun o=>match o with
   | .lst b l=>(kV (.sl b) (.sl c) l).bind fun (l:List (CT.T X.toSE c))=>bif bM l.length len s.2.1.length s.1 ei.bytes then gQ (l++s.2.1) fun r=>k (.own (nid i) 0 r.length) [(nid i,some (.lst c r)),(kk,none)] (kk::s.2.2) [kk]else none
   |_=>none
  | .nil=>bif bM 0 0 s.2.1.length s.1 ei.bytes then gQ s.2.1 fun r=>k (.own (nid i) 0 r.length) [(nid i,some (.lst c r))] s.2.2 []else none
  |_=>none
  else none
 |_=>none
def TA (i:Nat) (b:Builtin) (args:List (DV X)) (tys:List TypeId) (get:Nat->Option (DObj X)) (k:KK X A):Option A:=
 match b,args,tys with
 | .len,[x],[t]=>akj T t x k
 | .max,args,_=>mmD true args k
 | .min,args,_=>mmD false args k
 | .append,[x,y],[t,u]=>if t=u then Y0 T code i t x y get k else none
 |_,_,_=>none
def opD (i:Nat) (o:Op) (ρ:Operand->DV X) (get:Nat->Option (DObj X)) (k:KK X A):Option A:=
 match o with
 | .move x=>k (ρ x) [] [] []
 | .assign x=>k (ρ x) [] [] []
 | .pick c a b=>match ρ c with | .c .bool t=>k (ahY t (ρ a) (ρ b)) [] [] [] |_=>none
 | .alloc e=>aea T i e k
 | .box _ x=>akk i (ρ x) k
 | .build t parts=>ad9 T t (parts.toList.map fun p=>(p.1,ρ p.2)) k
 | .buildSlice t len parts=>Gu T code i t len (parts.toList.map fun p=>(p.1,ρ p.2)) k
 | .load t a=>ldD T t (ρ a) get k
 | .store t a x=>stD T t (ρ a) (ρ x) get k
 | .binOp op t x y _=>aki T op t (ρ x) (ρ y) k
 | .unOp op _ x=>unD op (ρ x) k
 | .makeFunc (.func f) first caps=>k (.fn f (first.toList.map ρ) (caps.toList.map ρ)) [] [] []
 | .slice t x lo hi none=>aeb T t (ρ x) (lo.map ρ) (hi.map ρ) get k
 | .fieldAddr t x f=>Kn T t (ρ x) f k
 | .field t x f=>ad8 T t (ρ x) f k
 | .indexAddr t x j=>Ko T t (ρ x) (ρ j) get k
 | .extract x j=>Tz (ρ x) j k
 | .call { callee:= .builtin b,args:=args,argTypes:=tys }=>TA T code i b (args.toList.map ρ) tys.toList get k
 |_=>none
end
section
variable {X:SX} {A:Type} {T:Tab} {code:TypeId->Option (CT X.ι)} {get:Nat->Option (DObj X)} {k:KK X A} {r:A} {i:Nat}
def gP (get:Nat->Option (DObj X)):Nat->Option bA:=fun j=>(get j).map dM
theorem iy {rd:List Nat} {j:Nat} {o:DObj X} (hj:j∈rd) (h:get j=some o):fq rd (gP get) j=some (dM o):=by simp[fq,hj,gP,h]
theorem wH (l:List (DV X)):(cK l).length=l.length:=by simp[ni]
theorem oC (l:List (DV X)) (a b:Nat):cK ((l.drop a).take b)=((cK l).drop a).take b:=by simp[ni,map_take,map_drop]
theorem Sn {α:Type} {l:List α} {n:Int} {x:α} (h:at? l n=some x):0<=n∧l[n.toNat]? =some x:=by
 unfold at? at h;by_cases hn:0<=n
 ·simpa[hn]using h
 ·simp[hn]at h
theorem agL (t:Bool) (x y:DV X):den (ahY t x y)=aaZ t (den x) (den y):=by
 rw[S9];have base:∀ x y:DV X,den (bif t then x else y)=if t=true then den x else den y:=fun x y=>by cases t<;>rfl
 unfold ahY;split
 ·rename_i a p b q;split
  ·rename_i h _;subst h;cases t<;>rfl
  ·exact base _ _
 ·exact base _ _
theorem I4 {agg:Bool} {size:Nat} {cs:List (DV X)} {v:DV X} (h:LJ agg size cs=some v):part' agg size (cK cs)=some (den v):=by
 unfold LJ at h;unfold part';rw[wH];split at h
 ·rename_i hl;rw[aJ hl];cases agg with
  |true=>simp only[if_true,aG]at h ⊢;subst h;rfl
  |false=>
   simp only[Bool.false_eq_true,if_false]at h ⊢
   match cs,h with
   |[x],h=>
    simp only at h;split at h
    ·rename_i hx;injection h with h;subst h;simp only[cK];rw[aJ (Qw hx)]
    ·cases h
   |[],h=>cases h
   |_::_::_,h=>cases h
 ·cases h
theorem Oq {agg:Bool} {size off:Nat} {c:CT X.ι} {y:CT.T X.toSE c} {v:DV X} (h:LJ agg size (((zx c y).drop off).take size)=some v):part' agg size ((((CT.row X.toSE c y).drop off).take size).map AV.t)=some (den v):=by
 have:=I4 h;rw[oC,ru]at this;rw[<- this,map_take,map_drop]
theorem Xw {agg:Bool} {size off:Nat} {c:CT X.ι} {y:CT.T X.toSE c} {v:DV X} (h:agb agg size c y off=some v):part' agg size ((((CT.row X.toSE c y).drop off).take size).map AV.t)=some (den v):=by
 cases c
 case st j=>
  simp only[agb]at h;split at h
  ·rename_i hh;obtain⟨rfl,rfl,rfl⟩:=hh;injection h with h;subst h;have hl:(CT.row X.toSE (.st j) y).length=(X.tys j).length:=Om (.st j) y;rw[List.drop_zero,List.take_of_length_le (by omega)];unfold part';rw[aJ (by simpa using hl)];rfl
  ·exact Oq h
 all_goals exact Oq h
theorem agM {t:TypeId} {x:DV X} (h:ldD T t x get k=some r):∃ orc rd dv out,JV T t (den x) orc (fq rd (gP get))=some out∧jl out.obs∧out.v=den dv∧out.upd=[]∧k dv [] rd []=some r:=by
 unfold ldD at h;unfold JV;rw[ax]at h;obtain⟨ti,h1,h⟩:=h;simp only[h1,ah];split at h
 ·rename_i kk row off;rw[ax]at h;obtain⟨o,h2,h⟩:=h;split at h
  ·rename_i sz rows;rw[ax]at h;obtain⟨rw',h3,h⟩:=h;rw[ax]at h;obtain⟨v,h4,h⟩:=h;refine⟨.none,[kk],v,⟨den v,[],[]⟩,?_,trivial,rfl,rfl,h⟩;have h5:=I4 h4;rw[oC]at h5;simp[den,iy (List.mem_singleton_self kk) h2,dM,h3,h5,pv]
  ·cases h
 ·rename_i kk n off;rw[ax]at h;obtain⟨o,h2,h⟩:=h;split at h
  ·rename_i c l;rw[ax]at h;obtain⟨y,h3,h⟩:=h;rw[ax]at h;obtain⟨v,h4,h⟩:=h;obtain⟨_,h6⟩:=Sn h3;refine⟨.row ((CT.row X.toSE c y).map AV.t),[kk],v,⟨den v,[],[(aW (l.map (CT.row X.toSE c)))[n.toNat]? =some ((CT.row X.toSE c y).map AV.t)]⟩,?_,?_,rfl,rfl,h⟩
   ·have h5:=Xw h4;rw[map_take,map_drop]at h5;simp only[den,iy (List.mem_singleton_self kk) h2,ah,dM,h5,pvo]
   ·simp[jl,aW,h6]
  ·cases h
 ·rename_i c y off;rw[ax]at h;obtain⟨v,h4,h⟩:=h;refine⟨.none,[],v,⟨den v,[],[]⟩,?_,trivial,rfl,rfl,h⟩;simp only[den,Xw h4,ah,pv]
 ·cases h
theorem TB (a:List (DV X)) (off:Nat) (cs:List (DV X)):cK (ah0 a off cs)=put' (cK a) off (cK cs):=by simp[ah0,put',ni,map_take,map_drop]
theorem oQ {a c:CT X.ι} {x:CT.T X.toSE a} {y:CT.T X.toSE c} (h:kV a c x=some y):den (.c a x)=den (.c c y)∧CT.row X.toSE a x=CT.row X.toSE c y:=by
 obtain⟨e,h⟩:=zw h;subst e;subst h;exact⟨rfl,rfl⟩
theorem Y1 {c:CT X.ι} (hc:c.one=true) (x:CT.T X.toSE c):[(CT.tv X.toSE c x).av]=(CT.row X.toSE c x).map AV.t:=by
 obtain⟨t,h1,h2⟩:=row_one hc x;rw[h1,h2];rfl
theorem aj0 {c:CT X.ι} (x:CT.T X.toSE c):wk (CT.tv X.toSE c x).av=(CT.tv X.toSE c x).av:=by cases c<;>rfl
theorem Gv {d:DV X} {c:CT X.ι} {x:CT.T X.toSE c} (h:Oo d c=some x):wk (den d)=(CT.tv X.toSE c x).av:=by
 unfold Oo at h;split at h
 ·rw[(oQ h).1];exact aj0 x
 ·injection h with h;subst h;rfl
 ·injection h with h;subst h;rfl
 ·cases h
theorem Y2 {d:DV X} {c:CT X.ι} {x:CT.T X.toSE c} (hc:c.one=true) (h:Oo d c=some x):vP d=true:=by
 cases d
 case c a y=>
  obtain⟨e,_⟩:=zw (show kV a c y=some x by cases c<;>exact h);subst e;cases a<;>first |rfl |simp[CT.one]at hc
 case nil=>rfl
 all_goals cases c<;>cases h
theorem Ey:∀ {ds:List (DV X)} {l:List (CT X.ι)} {h:HL X.toSE l},zy ds l=some h->l.all CT.one=true->(cK ds).map wk=(HL.row X.toSE l h).map AV.t∧ds.all vP=true
 |[],[],h,_,_=>⟨rfl,rfl⟩
 |d::ds,c::l,h,hr,ha=>by
  simp only[zy]at hr;rw[ax]at hr;obtain⟨x,h1,hr⟩:=hr;rw[ax]at hr;obtain⟨g,h2,hr⟩:=hr;injection hr with hr;subst hr;simp only[all_cons,aK]at ha ⊢;obtain⟨i1,i2⟩:=Ey h2 ha.2;simp only[cK,bf,HL.row,map_append,i1,Gv h1,i2,and_true,Y2 ha.1 h1];simp[<- Y1 ha.1 x]
 |[],_::_,_,hr,_=>by simp[zy]at hr
 |_::_,[],_,hr,_=>by simp[zy]at hr
theorem abk (j:X.ι) (h:HL X.toSE (X.tys j)):CT.row X.toSE (.st j) (X.make j h)=HL.row X.toSE (X.tys j) h:=X.row_make j h
theorem ajo {c:CT X.ι} (hc:c.one=true) {ds:List (DV X)} {x:CT.T X.toSE c} (h:mk1 c ds=some x):(cK ds).map wk=(CT.row X.toSE c x).map AV.t:=by
 match ds,h with
 |[d],h=>
  rw[<- Y1 hc x];simp only[cK,bf,map_nil,Gv h]
 |[],h=>cases h
 |_::_::_,h=>cases h
theorem CV {c:CT X.ι} {ds:List (DV X)} {x:CT.T X.toSE c} (h:Ty c ds=some x):(cK ds).map wk=(CT.row X.toSE c x).map AV.t:=by
 cases c
 case st j=>
  simp only[Ty]at h;rw[ax]at h;obtain⟨g,h1,h⟩:=h;injection h with h;subst h;rw[(Ey h1 (X.flat j)).1,abk]
 all_goals exact ajo rfl h
theorem aec {d:DV X} {c:CT X.ι} (hc:c.one=true) {x:CT.T X.toSE c} (h:Oo d c=some x):∃ cs,cellsOf (den d)=some cs∧cs.map wk=(CT.row X.toSE c x).map AV.t:=by
 have hk:=Y2 hc h;have hd:=Gv h;have he:cellsOf (den d)=some [den d]:=by
  have:=Ew (x:=d) (cs:=[d]) (by
   cases d
   case c t y=>cases t<;>first |rfl |simp[vP]at hk
   all_goals first |rfl |simp[vP]at hk)
  simpa[cK]using this
 exact⟨_,he,by rw[<- Y1 hc x];simp[hd]⟩
theorem agN {d:DV X} {c:CT X.ι} {x:CT.T X.toSE c} (h:dat d c=some x):∃ cs,cellsOf (den d)=some cs∧cs.map wk=(CT.row X.toSE c x).map AV.t:=by
 cases c
 case st j=>
  replace h:ahZ d j=some x:=h
  cases d
  case agg cs=>
   simp only[ahZ]at h;rw[ax]at h;obtain⟨g,h1,h⟩:=h;injection h with h;subst h;obtain⟨i1,i2⟩:=Ey h1 (X.flat j);refine⟨cK cs,?_,by rw[i1,abk]⟩;simp only[den,cellsOf];rw[aJ (af9 i2)]
  case c a y=>
   replace h:kV a (.st j) y=some x:=h
   rw[(oQ h).1];refine⟨(CT.row X.toSE (.st j) x).map AV.t,?_,?_⟩
   ·show cellsOf (.agg _)=_;simp only[cellsOf];rw[aJ]
    ·rfl
    ·rw[List.all_map,all_eq_true];exact fun _ _=>rfl
   ·rw[map_map];rfl
  all_goals cases h
 all_goals exact aec rfl h
theorem agO {t:TypeId} {x y:DV X} (h:stD T t x y get k=some r):∃ orc kk u out,SK T t (den x) (den y) orc (fq [kk] (gP get))=some out∧jl out.obs∧out.v= .undef∧out.upd=jm [(kk,u)]∧k .undef [(kk,u)] [kk] [kk]=some r:=by
 unfold stD at h;unfold SK;rw[ax]at h;obtain⟨ti,h1,h⟩:=h;rw[ax]at h;obtain⟨cs,h2,h⟩:=h;simp only[h1,Ew h2,ah];split at h
 ·rename_i hl;have hdl:(cK cs).length=ti.size:=by rw[wH];exact hl
  simp only[hdl,if_true];split at h
  ·rename_i kk row off;rw[ax]at h;obtain⟨o,h3,h⟩:=h;split at h
   ·rename_i sz rows;rw[ax]at h;obtain⟨rw',h4,h⟩:=h;split at h
    ·rename_i hle;refine⟨.none,kk,_,⟨.undef,_,[]⟩,?_,trivial,rfl,rfl,h⟩;simp only[den,iy (List.mem_singleton_self kk) h3,ah,dM,List.getElem?_map,h4,Option.map_some,wH];rw[aJ (by rw[<- hl];exact hle)];simp[jm,dM,TB]
    ·cases h
   ·cases h
  ·rename_i kk n off;rw[ax]at h;obtain⟨o,h3,h⟩:=h;split at h
   ·rename_i c l;rw[ax]at h;obtain⟨z,h4,h⟩:=h;split at h
    ·rename_i hle;rw[ax]at h;obtain⟨z',h5,h⟩:=h;obtain⟨_,h6⟩:=Sn h4;refine⟨.set ((CT.row X.toSE c z).map AV.t) (aW ((l.set n.toNat z').map (CT.row X.toSE c))),kk,_,⟨.undef,_,[(aW (l.map (CT.row X.toSE c)))[n.toNat]? =some ((CT.row X.toSE c z).map AV.t)∧aW ((l.set n.toNat z').map (CT.row X.toSE c))=eU ((aW (l.map (CT.row X.toSE c))).set n.toNat (put' ((CT.row X.toSE c z).map AV.t) off (cK cs)))]⟩,?_,?_,rfl,rfl,h⟩
     ·simp only[den,iy (List.mem_singleton_self kk) h3,ah,dM];rw[aJ (by rw[length_map,Om,<- hl];exact hle)];simp[jm,dM]
     ·refine⟨by simp[aW,h6],?_⟩;have h7:=CV h5;rw[TB,ru]at h7;have hid:eU (aW (l.map (CT.row X.toSE c)))=aW (l.map (CT.row X.toSE c)):=(by simp[eU,aW,Function.comp_def,wk]);simp only[eU,List.map_set,h7];have:(aW (l.map (CT.row X.toSE c))).map (List.map wk)=aW (l.map (CT.row X.toSE c)):=hid;rw[this];simp[aW]
    ·cases h
   ·cases h
  ·cases h
 ·cases h
theorem Ot {t:TypeId} {x:DV X} {f:Nat} (h:Kn T t x f k=some r):∃ dv out,zm T t (den x) f=some out∧jl out.obs∧out.v=den dv∧out.upd=[]∧k dv [] [] []=some r:=by
 unfold Kn at h;unfold zm;rw[ax]at h;obtain⟨⟨d,u⟩,h1,h⟩:=h;simp only[h1,ah];split at h
 ·exact⟨_,_,rfl,trivial,rfl,rfl,h⟩
 ·exact⟨_,_,rfl,trivial,rfl,rfl,h⟩
 ·exact⟨_,_,rfl,trivial,rfl,rfl,h⟩
 ·cases h
theorem Y3 {t:TypeId} {x:DV X} {f:Nat} (h:ad8 T t x f k=some r):∃ dv out,SL T t (den x) f=some out∧jl out.obs∧out.v=den dv∧out.upd=[]∧k dv [] [] []=some r:=by
 unfold ad8 at h;unfold SL;rw[ax]at h;obtain⟨⟨d,u⟩,h1,h⟩:=h;simp only[h1,ah];split at h
 ·rw[ax]at h;obtain⟨v,h2,h⟩:=h;have h3:=I4 h2;rw[oC]at h3;exact⟨v,⟨den v,[],[]⟩,by simp only[den,h3,ah,pv],trivial,rfl,rfl,h⟩
 ·rename_i j y;rw[ax]at h;obtain⟨v,h2,h⟩:=h;have h3:=Oq h2;rw[map_take,map_drop]at h3;refine⟨v,⟨den v,[],[]⟩,?_,trivial,rfl,rfl,h⟩;show (part' u.agg u.size (List.take u.size (List.drop d ((CT.row X.toSE (.st j) y).map AV.t)))).bind pv=_;rw[h3];rfl
 ·cases h
theorem fH {α:Type} {b:Bool} {x:Option α} {r:α} (h:(bif b then x else none)=some r):b=true∧x=some r:=by
 cases b with
 |true=>exact⟨rfl,h⟩
 |false=>cases h
theorem TD {n:Int} {len:Nat} (h:inb n len=true):0<=n∧n.toNat < len:=by simp only[inb,aK,aM]at h;omega
theorem rO {A:Type}:∀ {cs:List Bool} {k:Option A} {r:A},Wj cs k=some r->(∀ c∈cs,c=true)∧k=some r
 |[],_,_,h=>⟨by simp,h⟩
 |c::cs,k,r,h=>by
  obtain⟨h1,h2⟩:=fH h;obtain⟨h3,h4⟩:=rO h2;exact⟨fun x hx=>(aI.1 hx).elim (fun e=>e ▸ h1) (h3 x),h4⟩
theorem Ou {t:TypeId} {x j:DV X} (h:Ko T t x j get k=some r):∃ orc rd dv out,mD T t (den x) (den j) orc (fq rd (gP get))=some out∧jl out.obs∧out.v=den dv∧out.upd=[]∧k dv [] rd []=some r:=by
 unfold Ko at h;unfold mD;rw[ax]at h;obtain⟨ti,h1,h⟩:=h;simp only[h1,ah];split at h
 ·rename_i e kd n hk;rw[ax]at h;obtain⟨ei,h2,h⟩:=h;simp only[hk,den,CT.tv,TV.av,h2,ah];split at h
  ·rename_i c l;split at h
   ·rename_i hs;rw[ax]at h;obtain⟨y,h3,h⟩:=h;obtain⟨h4,h5⟩:=Sn h3;refine⟨.trow (CT.row X.toSE c y),[],_,⟨.rptr (CT.row X.toSE c y) 0,[],[0<=n∧(l.map (CT.row X.toSE c))[n.toNat]? =some (CT.row X.toSE c y)]⟩,?_,?_,rfl,rfl,h⟩
    ·simp only[den,CT.tv,TV.av];rw[aJ (by rw[Om];exact hs)];rfl
    ·exact⟨h4,by simp[h5]⟩
   ·cases h
  ·rename_i kk off len;rw[ax]at h;obtain⟨o,h3,h⟩:=h;split at h
   ·rename_i c l;split at h
    ·rename_i hs;obtain⟨h4,h⟩:=fH h;obtain⟨h5,h6⟩:=TD h4;refine⟨.none,[kk],_,⟨.ptr kk (off+n.toNat) 0,[],[0<=n∧n.toNat < len]⟩,?_,⟨h5,h6⟩,?_,rfl,h⟩
     ·simp only[den,iy (List.mem_singleton_self kk) h3,ah,dM];rw[aJ hs];rfl
     ·simp only[den,iN];congr 1;show off+Int.toNat n=Int.toNat ((off:Int)+n);have:(0:Int)<=n:=h5;omega
    ·cases h
   ·rename_i sz rows;split at h
    ·rename_i hs;obtain⟨h4,h⟩:=fH h;obtain⟨h5,h6⟩:=TD h4;refine⟨.none,[kk],_,⟨.ptr kk (off+n.toNat) 0,[],[0<=n∧n.toNat < len]⟩,?_,⟨h5,h6⟩,rfl,rfl,h⟩;simp only[den,iy (List.mem_singleton_self kk) h3,ah,dM];rw[aJ hs];rfl
    ·cases h
   ·cases h
  ·cases h
 ·rename_i m e kd n hk;rw[ax]at h;obtain⟨ei,h2,h⟩:=h;simp only[hk,den,CT.tv,TV.av,h2,ah];obtain⟨h4,h⟩:=fH h;obtain⟨h5,h6⟩:=TD h4;split at h
  ·exact⟨.none,[],_,_,rfl,⟨h5,h6⟩,rfl,rfl,h⟩
  ·exact⟨.none,[],_,_,rfl,⟨h5,h6⟩,rfl,rfl,h⟩
  ·exact⟨.none,[],_,_,rfl,⟨h5,h6⟩,rfl,rfl,h⟩
  ·cases h
 ·cases h
theorem TF {x:DV X} {j:Nat} (h:Tz x j k=some r):∃ dv out,Gj (den x) j=some out∧jl out.obs∧out.v=den dv∧out.upd=[]∧k dv [] [] []=some r:=by
 unfold Tz at h;split at h
 ·rw[ax]at h;obtain⟨v,h2,h⟩:=h;refine⟨v,⟨den v,[],[]⟩,?_,trivial,rfl,rfl,h⟩;simp[Gj,den,ni,h2,pv]
 ·cases h
end
section
variable {X:SX} {A:Type} {T:Tab} {code:TypeId->Option (CT X.ι)} {get:Nat->Option (DObj X)} {k:KK X A} {r:A} {i:Nat}
theorem Y4 {op:BinOp} {kd:IntKind} {a b:Int}:∃ v obs,SH op kd a b=some (v,obs)∧den (Gt (X:=X) op kd a b).1= .t (.sc v)∧(∀ g,(Gt (X:=X) op kd a b).2=some g->g=true->jl obs)∧((Gt (X:=X) op kd a b).2=none->jl obs):=by
 cases op<;>refine⟨_,_,rfl,rfl,fun g hg ht=>?_,fun hn=>?_⟩<;>simp only[Gt,aG,reduceCtorEq]at* <;>try trivial
 all_goals subst hg;simp_all [jl]
theorem abl {n:Nat} {x y:DV X} {b:Bool} (h:YZ n x y=some b):NY n (den x) (den y)=some b:=by
 unfold YZ at h;split at h
 ·split at h
  ·injection h with h;subst h;simp only[den,CT.tv,TV.av,NY];rw[aJ ‹_›]
  ·cases h
 ·exact h
 ·exact h
 ·cases h
theorem LK:∀ {ks:List Nat} {xs ys:List (DV X)} {b:Bool},wG ks xs ys=some b->yj ks (cK xs) (cK ys)=some b
 |[],[],[],b,h=>h
 |k::ks,x::xs,y::ys,b,h=>by
  simp only[wG]at h;rw[ax]at h;obtain⟨p,h1,h⟩:=h;rw[ax]at h;obtain⟨q,h2,h⟩:=h;simp only[cK,yj,abl h1,LK h2,ah,h]
 |[],_::_,_,_,h=>by simp[wG]at h
 |[],[],_::_,_,h=>by simp[wG]at h
 |_::_,[],_,_,h=>by simp[wG]at h
 |_::_,_::_,[],_,h=>by simp[wG]at h
theorem abm {x:DV X} {xs:List (DV X)} (h:ajn x=some xs):den x= .agg (cK xs):=by
 unfold ajn at h;split at h
 ·injection h with h;subst h;rfl
 ·rename_i j y;injection h with h;subst h;rw[ru];rfl
 ·cases h
theorem aed {op:BinOp} {t:TypeId} {x y:DV X} (h:aki T op t x y k=some r):∃ dv out,V3 T op t (den x) (den y)=some out∧jl out.obs∧out.v=den dv∧out.upd=[]∧k dv [] [] []=some r:=by
 unfold aki at h;split at h
 ·rename_i kd a yk b;split at h
  ·rename_i hk;obtain⟨v,obs,h1,h2,h3,h4⟩:=Y4 (X:=X) (op:=op) (kd:=kd) (a:=a) (b:=b);have fin:jl obs->k (Gt op kd a b).1 [] [] []=some r->∃ dv out,V3 T op t (den (.c (.int kd) a:DV X)) (den (.c (.int yk) b:DV X))=some out∧jl out.obs∧out.v=den dv∧out.upd=[]∧k dv [] [] []=some r:=by
    intro ho hkk;refine⟨_,⟨.t (.sc v),[],obs⟩,?_,ho,h2.symm,rfl,hkk⟩;simp only[den,CT.tv,TV.av,V3];rw[aJ hk,h1];rfl
   split at h
   ·rename_i hn;exact fin (h4 hn) h
   ·rename_i g hg;obtain⟨hgt,h⟩:=fH h;exact fin (h3 g hg hgt) h
  ·cases h
 ·split at h
  ·exact⟨_,_,rfl,trivial,rfl,rfl,h⟩
  ·exact⟨_,_,rfl,trivial,rfl,rfl,h⟩
  ·cases h
 ·rw[ax]at h;obtain⟨ti,h1,h⟩:=h;split at h
  ·rename_i hk;refine⟨_,⟨.t (.sc (.bool _)),[],[]⟩,?_,trivial,rfl,rfl,h⟩;simp only[den,CT.tv,TV.av,V3,h1,ah,hk];rfl
  ·rename_i hk;refine⟨_,⟨.t (.sc (.bool _)),[],[]⟩,?_,trivial,rfl,rfl,h⟩;simp only[den,CT.tv,TV.av,V3,h1,ah,hk];rfl
  ·cases h
 ·rw[ax]at h;obtain⟨xs,h1,h⟩:=h;rw[ax]at h;obtain⟨ys,h2,h⟩:=h;rw[ax]at h;obtain⟨ti,h3,h⟩:=h;split at h
  ·cases h
  ·rename_i hc;rw[ax]at h;obtain⟨b,h4,h⟩:=h;have h5:=LK h4;rw[abm h1,abm h2];split at h
   ·refine⟨_,⟨.t (.sc (.bool b)),[],[]⟩,?_,trivial,rfl,rfl,h⟩;simp only[V3,h3,ah];rw[aD hc,h5];rfl
   ·refine⟨_,⟨.t (.sc (.bool (!b))),[],[]⟩,?_,trivial,rfl,rfl,h⟩;simp only[V3,h3,ah];rw[aD hc,h5];rfl
   ·cases h
theorem agP {op:UnOp} {x:DV X} (h:unD op x k=some r):∃ dv out,aUn op (den x)=some out∧jl out.obs∧out.v=den dv∧out.upd=[]∧k dv [] [] []=some r:=by
 unfold unD at h;split at h
 ·exact⟨_,_,rfl,trivial,rfl,rfl,h⟩
 ·exact⟨_,_,rfl,trivial,rfl,rfl,h⟩
 ·cases h
theorem Qx (mx:Bool) (kd:IntKind):∀ (l:List (DV X)) (a n:Int),IZ mx kd a l=some n->En mx kd a (cK l)=some n
 |[],a,n,h=>h
 |x::l,a,n,h=>by
  cases x
  case c t y=>
   cases t
   case int k'=>
    simp only[IZ]at h;simp only[cK,den,CT.tv,TV.av,En];split at h
    ·rename_i hk;rw[aJ hk];exact Qx mx kd l _ _ h
    ·cases h
   all_goals simp[IZ]at h
  all_goals simp[IZ]at h
theorem Xx {mx:Bool} {args:List (DV X)} (h:mmD mx args k=some r):∃ dv out,aMm mx (cK args)=some out∧jl out.obs∧out.v=den dv∧out.upd=[]∧k dv [] [] []=some r:=by
 unfold mmD at h;split at h
 ·rename_i kd a l;rw[ax]at h;obtain⟨n,h1,h⟩:=h;refine⟨_,⟨.t (.sc (.int kd n)),[],[]⟩,?_,trivial,rfl,rfl,h⟩;simp only[cK,den,CT.tv,TV.av,aMm];have:=Qx mx kd l a n h1;simp only[this];rfl
 ·cases h
theorem aee {t:TypeId} {x:DV X} (h:akj T t x k=some r):∃ orc dv out,aaY T t (den x) orc=some out∧jl out.obs∧out.v=den dv∧out.upd=[]∧k dv [] [] []=some r:=by
 unfold akj at h;unfold aaY;rw[ax]at h;obtain⟨ti,h1,h⟩:=h;simp only[h1,ah];split at h
 ·rename_i e c l hk;simp only[hk];exact⟨.num (l.length:Int),_,⟨.t (.sc (.int .i64 (l.length:Int))),[],[(l.length:Int)=((l.map (CT.row X.toSE c)).length:Int)]⟩,rfl,by simp[jl],rfl,rfl,h⟩
 ·rename_i hk;simp only[hk];exact⟨.none,_,_,rfl,trivial,rfl,rfl,h⟩
 ·rename_i hk;simp only[hk];exact⟨.none,_,_,rfl,trivial,rfl,rfl,h⟩
 ·rename_i hk;simp only[hk];exact⟨.none,_,_,rfl,trivial,rfl,rfl,h⟩
 ·cases h
theorem Ov (place:Nat->Option (Nat×Nat)):∀ (parts:List (Nat×DV X)) (cells out:List (DV X)),Xv place cells parts=some out->FH place (cK cells) (parts.map fun p=>(p.1,den p.2))=some (cK out)
 |[],cells,out,h=>by simp only[Xv,aG]at h;subst h;rfl
 |(j,x)::rest,cells,out,h=>by
  simp only[Xv]at h;rw[ax]at h;obtain⟨⟨off,size⟩,h1,h⟩:=h;rw[ax]at h;obtain⟨cs,h2,h⟩:=h;split at h
  ·rename_i hl;simp only[bf,FH,h1,Ew h2,ah,wH];rw[aJ hl,<- TB];exact Ov place rest _ _ h
  ·cases h
theorem Y5 {t:TypeId} {parts:List (Nat×DV X)} (h:ad9 T t parts k=some r):∃ dv out,SQ T t (parts.map fun p=>(p.1,den p.2))=some out∧jl out.obs∧out.v=den dv∧out.upd=[]∧k dv [] [] []=some r:=by
 unfold ad9 at h;unfold SQ;rw[ax]at h;obtain⟨ti,h1,h⟩:=h;simp only[h1,ah];split at h
 ·rename_i fs hk;split at h
  ·rename_i ha;rw[ax]at h;obtain⟨cells,h2,h⟩:=h;have h3:=Ov _ _ _ _ h2;rw[Gs]at h3;refine⟨_,⟨.agg (cK cells),[],[]⟩,?_,trivial,rfl,rfl,h⟩;simp only[hk];rw[aJ ha,h3];rfl
  ·cases h
 ·rename_i m e hk;rw[ax]at h;obtain⟨ei,h2,h⟩:=h;rw[ax]at h;obtain⟨cells,h3,h⟩:=h;have h4:=Ov _ _ _ _ h3;rw[Gs]at h4;refine⟨_,⟨.agg (cK cells),[],[]⟩,?_,trivial,rfl,rfl,h⟩;simp only[hk,h2,ah,h4];rfl
 ·cases h
theorem Xy (size:Nat) (c:CT X.ι) (hs:CT.sz X c=size) (z:List AV):∀ (parts:List (Nat×DV X)) (n:Nat) (l:List (CT.T X.toSE c)) (done:List (List AV)),ah1 c n parts=some l->done.length=n->
 ∃ css:List (List AV),Lm size (done++List.replicate parts.length z) (parts.map fun p=>(p.1,den p.2))=some (done++css)∧css.map (fun r=>r.map wk)=aW (l.map (CT.row X.toSE c))
 |[],n,l,done,h,_=>by
  simp only[ah1,aG]at h;subst h;exact⟨[],by simp[Lm],rfl⟩
 |(j,x)::rest,n,l,done,h,hd=>by
  simp only[ah1]at h;split at h
  ·rename_i hj;subst hj;rw[ax]at h;obtain⟨y,h1,h⟩:=h;rw[ax]at h;obtain⟨l',h2,h⟩:=h;injection h with h;subst h;obtain⟨cs,g1,g2⟩:=agN h1;have hl:cs.length=size:=by
    have:=congrArg List.length g2;simp only[length_map,Om]at this;omega
   obtain⟨css,i1,i2⟩:=Xy size c hs z rest (j+1) l' (done++[cs]) h2 (by simp[hd]);refine⟨cs::css,?_,?_⟩
   ·simp only[bf,Lm,g1,ah];rw[aJ ⟨hl,by simp;omega⟩];have:(done++List.replicate (rest.length+1) z).set j cs=done++[cs]++List.replicate rest.length z:=by
     rw[List.set_append_right _ _ (by omega),hd];simp[List.replicate_succ]
    simp only[bH,this,i1];simp
   ·simp only[bf,i2,g2,aW,bf]
  ·cases h
theorem LM {t:TypeId} {len:Nat} {parts:List (Nat×DV X)} (h:Gu T code i t len parts k=some r):∃ dv u out,wF T i t len (parts.map fun p=>(p.1,den p.2))=some out∧jl out.obs∧out.v=den dv∧out.upd=jm [(nid i,u)]∧k dv [(nid i,u)] [] []=some r:=by
 unfold Gu at h;unfold wF;rw[ax]at h;obtain⟨ti,h1,h⟩:=h;simp only[h1,ah];split at h
 ·rename_i e hk;rw[ax]at h;obtain⟨ei,h2,h⟩:=h;rw[ax]at h;obtain⟨c,h3,h⟩:=h;simp only[hk,h2,ah];split at h
  ·cases h
  ·rename_i hno;simp only[not_or,Decidable.not_not]at hno;obtain⟨n1,n2,n3,n4⟩:=hno;rw[ax]at h;obtain⟨l,h4,h⟩:=h;obtain⟨css,g1,g2⟩:=Xy ei.size c n3 (ei.zero.map cv) parts 0 l [] h4 rfl;simp only[cu,n4]at g1;refine⟨_,_,⟨.own (nid i) 0 len,[(nid i,some ⟨ei.size,eU css⟩)],[]⟩,?_,trivial,rfl,?_,h⟩
   ·rw[aD (by simp only[not_or];exact⟨n1,n2⟩),g1];rfl
   ·simp only[jm,dM,bf,map_nil,Option.map_some,n3];rw[show eU css=aW (l.map (CT.row X.toSE c))from g2]
 ·cases h
theorem Y6 {e:TypeId} (h:aea T i e k=some r):∃ dv u out,SS T i e=some out∧jl out.obs∧out.v=den dv∧out.upd=jm [(nid i,u)]∧k dv [(nid i,u)] [] []=some r:=by
 unfold aea at h;unfold SS;rw[ax]at h;obtain⟨ti,h1,h⟩:=h;exact⟨_,_,⟨_,[(nid i,some ⟨ti.size,[ti.zero.map cv]⟩)],[]⟩,by simp only[h1,ah];rfl,trivial,rfl,by simp[jm,dM,Gs],h⟩
theorem aef {x:DV X} (h:akk i x k=some r):∃ dv u out,ahL i (den x)=some out∧jl out.obs∧out.v=den dv∧out.upd=jm [(nid i,u)]∧k dv [(nid i,u)] [] []=some r:=by
 unfold akk at h;unfold ahL;rw[ax]at h;obtain⟨cs,h1,h⟩:=h;exact⟨_,_,⟨_,[(nid i,some ⟨(cK cs).length,[cK cs]⟩)],[]⟩,by simp only[Ew h1,ah];rfl,trivial,rfl,by simp[jm,dM,wH],h⟩
theorem CW {d n:Int} {x:Option (DV X)} (h:abj d x=some n):bnd d (x.map den)=some n:=by
 unfold abj at h;split at h
 ·exact h
 ·exact h
 ·cases h
theorem Xz {l h:Int} {len:Nat} (hh:yA l h len=true):0<=l∧l<=h∧h<=(len:Int):=by simpa[yA,and_assoc]using hh
theorem Y7 {t:TypeId} {x:DV X} {lo hi:Option (DV X)} (h:aeb T t x lo hi get k=some r):∃ orc rd dv out,SV T t (den x) (lo.map den) (hi.map den) orc (fq rd (gP get))=some out∧jl out.obs∧out.v=den dv∧out.upd=[]∧k dv [] rd []=some r:=by
 unfold aeb at h;unfold SV;rw[ax]at h;obtain⟨ti,h1,h⟩:=h;simp only[h1,ah];split at h
 ·rename_i e hk;rw[ax]at h;obtain⟨ei,h2,h⟩:=h;simp only[hk,h2,ah];split at h
  ·rename_i kk off len;rw[ax]at h;obtain⟨o,h3,h⟩:=h;split at h
   ·rename_i hs;rw[ax]at h;obtain⟨l,h4,h⟩:=h;rw[ax]at h;obtain⟨hh,h5,h⟩:=h;obtain⟨h6,h⟩:=fH h;refine⟨.none,[kk],_,⟨.own kk (off+l.toNat) (hh.toNat - l.toNat),[],[0<=l∧l<=hh∧hh<=(len:Int)]⟩,?_,Xz h6,rfl,rfl,h⟩;simp only[den,iy (List.mem_singleton_self kk) h3,ah];rw[aJ hs,CW h4,ah,CW h5];rfl
   ·cases h
  ·rename_i c xs;split at h
   ·rename_i hs;rw[ax]at h;obtain⟨l,h4,h⟩:=h;rw[ax]at h;obtain⟨hh,h5,h⟩:=h;obtain⟨h6,h⟩:=fH h;refine⟨.tsub ((sub xs l.toNat (hh.toNat - l.toNat)).map (CT.row X.toSE c)),[],_,⟨.t (.sl ((sub xs l.toNat (hh.toNat - l.toNat)).map (CT.row X.toSE c))),[],[0<=l∧l<=hh∧hh<=((xs.map (CT.row X.toSE c)).length:Int)∧(sub xs l.toNat (hh.toNat - l.toNat)).map (CT.row X.toSE c)=((xs.map (CT.row X.toSE c)).drop l.toNat).take (hh.toNat - l.toNat)∧(∀ q∈xs.map (CT.row X.toSE c),q.length=ei.size)]⟩,?_,?_,rfl,rfl,h⟩
    ·simp only[den,CT.tv,TV.av,CW h4,ah];have h7:bnd ((xs.map (CT.row X.toSE c)).length:Int) (hi.map den)=some hh:=by
      have:=CW h5;simpa using this
     rw[h7];rfl
    ·obtain⟨a1,a2,a3⟩:=Xz h6;refine⟨a1,a2,by simpa using a3,by simp[sub,map_take,map_drop],fun q hq=>?_⟩;obtain⟨y,_,rfl⟩:=mem_map.1 hq;rw[Om];exact hs
   ·cases h
  ·cases h
 ·cases h
end
section
variable {X:SX} {A:Type} {T:Tab} {code:TypeId->Option (CT X.ι)} {get:Nat->Option (DObj X)} {k:KK X A} {r:A} {i:Nat}
theorem ny {b c:CT X.ι} {l:List (CT.T X.toSE b)} {l':List (CT.T X.toSE c)} (h:kV (.sl b) (.sl c) l=some l'):CT.sz X b=CT.sz X c∧l.map (CT.row X.toSE b)=l'.map (CT.row X.toSE c):=by
 obtain⟨e,h⟩:=zw h;injection e with e;subst e;subst h;exact⟨rfl,rfl⟩
theorem abn {y:DV X} {c:CT X.ι} {n:Nat} {l:List (CT.T X.toSE c)} {rd:List Nat} (h:akl y c get=some (n,l,rd)) (hl:l.length=n) (rd':List Nat) (hrd:∀ j∈rd,j∈rd'):
 ∃ ob,SY (CT.sz X c) (den y) (fq rd' (gP get))=some (n,ob,aW (l.map (CT.row X.toSE c)))∧ob:=by
 unfold akl at h;split at h
 ·rename_i kk off len;rw[ax]at h;obtain⟨o,h1,h⟩:=h;split at h
  ·rename_i b l0;rw[ax]at h;obtain⟨l1,h2,h⟩:=h;injection h with h;simp only[Prod.mk.injEq]at h;obtain⟨rfl,rfl,rfl⟩:=h;obtain⟨h3,h4⟩:=ny h2;refine⟨True,?_,trivial⟩;simp only[den,SY,iy (hrd kk (by simp)) h1,ah,dM];rw[aJ h3];simp only[h4,aG,Prod.mk.injEq,true_and];simp[aW,sub,map_take,map_drop]
  ·cases h
 ·rename_i b l0;rw[ax]at h;obtain⟨l1,h2,h⟩:=h;injection h with h;simp only[Prod.mk.injEq]at h;obtain⟨rfl,rfl,rfl⟩:=h;refine⟨∀ q∈l1.map (CT.row X.toSE c),q.length=CT.sz X c,?_,?_⟩
  ·rw[(oQ h2).1];simp only[den,CT.tv,TV.av,SY,length_map]
  ·intro q hq;obtain⟨z,_,rfl⟩:=mem_map.1 hq;exact Om c z
 ·cases h
theorem TG {lo len ln n bytes:Nat} (h:bM lo len ln n bytes=true):lo=len∧ln=n∧(len+n)*bytes<=140737488355328∧len+n<=maxLen:=by simpa[bM,and_assoc]using h
theorem Wl {t:TypeId} {x y:DV X} (h:Y0 T code i t x y get k=some r):∃ orc rd wr dv upd out,A8 T i t (den x) (den y) orc (fq rd (gP get))=some out∧jl out.obs∧out.v=den dv∧out.upd=jm upd∧(∀ p∈upd,p.1=nid i∨p.1∈wr)∧k dv upd rd wr=some r:=by
 unfold Y0 at h;unfold A8;rw[ax]at h;obtain⟨ti,h1,h⟩:=h;simp only[h1,ah];split at h
 ·rename_i e hk;rw[ax]at h;obtain⟨ei,h2,h⟩:=h;rw[ax]at h;obtain⟨c,h3,h⟩:=h;simp only[hk,h2,ah];split at h
  ·rename_i hs;rw[ax]at h;obtain⟨⟨n,l,rd⟩,h4,h⟩:=h;split at h
   ·rename_i kk len;rw[ax]at h;obtain⟨o,h5,h⟩:=h;split at h
    ·rename_i b l0;rw[ax]at h;obtain⟨l1,h6,h⟩:=h;obtain⟨h7,h⟩:=fH h;obtain⟨g1,g2,g3,g4⟩:=TG h7;obtain⟨h8,h9⟩:=ny h6;obtain⟨ob,i1,i2⟩:=abn h4 g2 (kk::rd) (fun j hj=>by simp[hj]);have i3:=iy (rd:=kk::rd) (by simp) h5
     refine⟨.rows (aW ((l1++l).map (CT.row X.toSE c))),kk::rd,[kk],_,_,⟨.own (nid i) 0 (aW ((l1++l).map (CT.row X.toSE c))).length,[(nid i,some ⟨ei.size,aW ((l1++l).map (CT.row X.toSE c))⟩),(kk,none)],
      [ob∧(aW (l1.map (CT.row X.toSE c))).length=len∧(aW (l.map (CT.row X.toSE c))).length=n∧aW ((l1++l).map (CT.row X.toSE c))=aW (l1.map (CT.row X.toSE c))++aW (l.map (CT.row X.toSE c))∧(len+n)*ei.bytes<=140737488355328∧len+n<=maxLen]⟩,?_,?_,?_,?_,?_,h⟩
     ·rw[hs]at i1;simp only[i1,ah,den,i3,dM,h9];rw[aJ ⟨by rw[h8,hs],trivial⟩]
     ·exact⟨i2,by simpa[aW]using g1,by simpa[aW]using g2,by simp[aW],g3,g4⟩
     ·simp[den,aW]
     ·simp[jm,dM,hs]
     ·intro p hp;simp only[aI,aP,or_false]at hp;rcases hp with rfl |rfl
      ·exact .inl rfl
      ·exact .inr (by simp)
    ·cases h
   ·obtain⟨h7,h⟩:=fH h;obtain⟨g1,g2,g3,g4⟩:=TG h7;obtain⟨ob,i1,i2⟩:=abn h4 g2 rd (fun j hj=>hj)
    refine⟨.rows (aW (l.map (CT.row X.toSE c))),rd,[],_,_,⟨.own (nid i) 0 (aW (l.map (CT.row X.toSE c))).length,[(nid i,some ⟨ei.size,aW (l.map (CT.row X.toSE c))⟩)],
     [ob∧(aW (l.map (CT.row X.toSE c))).length=n∧aW (l.map (CT.row X.toSE c))=aW (l.map (CT.row X.toSE c))∧n*ei.bytes<=140737488355328∧n<=maxLen]⟩,?_,?_,?_,?_,?_,h⟩
    ·rw[hs]at i1;simp only[i1,ah,den]
    ·exact⟨i2,by simpa[aW]using g2,rfl,by simpa using g3,by simpa using g4⟩
    ·simp[den,aW]
    ·simp[jm,dM,hs]
    ·intro p hp;simp only[aI,aP,or_false]at hp;rcases hp with rfl;exact .inl rfl
   ·cases h
  ·cases h
 ·cases h
def akP (T:Tab) (i:Nat) (o:Oper) (ρ:Operand->DV X) (get:Nat->Option (DObj X)) (k:KK X A) (r:A):Prop:=
 ∃ orc rd wr dv upd out,rM T i o orc (fun x=>den (ρ x)) (fq rd (gP get))=some out∧jl out.obs∧out.v=den dv∧out.upd=jm upd∧(∀ p∈upd,p.1=nid i∨p.1∈wr)∧k dv upd rd wr=some r
theorem TH {b:Builtin} {args:List (DV X)} {tys:List TypeId} (h:TA T code i b args tys get k=some r):∃ orc rd wr dv upd out,CR T i b (cK args) tys orc (fq rd (gP get))=some out∧jl out.obs∧out.v=den dv∧out.upd=jm upd∧(∀ p∈upd,p.1=nid i∨p.1∈wr)∧k dv upd rd wr=some r:=by
 unfold TA at h;unfold CR;split at h
 ·obtain⟨orc,dv,out,h1,h2,h3,h4,h5⟩:=aee h;exact⟨orc,[],[],dv,[],out,h1,h2,h3,h4,by simp,h5⟩
 ·obtain⟨dv,out,h1,h2,h3,h4,h5⟩:=Xx h;exact⟨.none,[],[],dv,[],out,h1,h2,h3,h4,by simp,h5⟩
 ·obtain⟨dv,out,h1,h2,h3,h4,h5⟩:=Xx h;exact⟨.none,[],[],dv,[],out,h1,h2,h3,h4,by simp,h5⟩
 ·split at h
  ·rename_i htu;obtain⟨orc,rd,wr,dv,upd,out,h1,h2⟩:=Wl h;refine⟨orc,rd,wr,dv,upd,out,?_,h2⟩;simp only[cK];rw[aJ htu];exact h1
  ·cases h
 ·cases h
theorem Sq (ρ:Operand->DV X) (l:List Operand):l.map (fun x=>den (ρ x))=cK (l.map ρ):=by rw[ni,map_map];rfl
theorem XA {o:Oper} {ρ:Operand->DV X} (h:opD T code i o.op ρ get k=some r):akP T i o ρ get k r:=by
 obtain⟨dst,op,ty,pos,after,guard⟩:=o;unfold akP rM;simp only at h;unfold opD at h;split at h
 ·exact⟨.none,[],[],_,[],_,rfl,trivial,rfl,rfl,by simp,h⟩
 ·exact⟨.none,[],[],_,[],_,rfl,trivial,rfl,rfl,by simp,h⟩
 ·rename_i c a b;split at h
  ·rename_i t hc;refine⟨.none,[],[],_,[],⟨aaZ t (den (ρ a)) (den (ρ b)),[],[]⟩,?_,trivial,(agL t _ _).symm,rfl,by simp,h⟩;simp only[hc,den,CT.tv,TV.av,pv]
  ·cases h
 ·obtain⟨dv,u,out,h1,h2,h3,h4,h5⟩:=Y6 h;exact⟨.none,[],[],dv,_,out,h1,h2,h3,h4,by simp,h5⟩
 ·obtain⟨dv,u,out,h1,h2,h3,h4,h5⟩:=aef h;exact⟨.none,[],[],dv,_,out,h1,h2,h3,h4,by simp,h5⟩
 ·rename_i t parts;obtain⟨dv,out,h1,h2,h3,h4,h5⟩:=Y5 h;refine⟨.none,[],[],dv,[],out,?_,h2,h3,h4,by simp,h5⟩;rw[map_map]at h1;exact h1
 ·rename_i t len parts;obtain⟨dv,u,out,h1,h2,h3,h4,h5⟩:=LM h;refine⟨.none,[],[],dv,_,out,?_,h2,h3,h4,by simp,h5⟩;rw[map_map]at h1;exact h1
 ·obtain⟨orc,rd,dv,out,h1,h2,h3,h4,h5⟩:=agM h;exact⟨orc,rd,[],dv,[],out,h1,h2,h3,h4,by simp,h5⟩
 ·obtain⟨orc,kk,u,out,h1,h2,h3,h4,h5⟩:=agO h;exact⟨orc,[kk],[kk],.undef,_,out,h1,h2,h3,h4,by simp,h5⟩
 ·obtain⟨dv,out,h1,h2,h3,h4,h5⟩:=aed h;exact⟨.none,[],[],dv,[],out,h1,h2,h3,h4,by simp,h5⟩
 ·obtain⟨dv,out,h1,h2,h3,h4,h5⟩:=agP h;exact⟨.none,[],[],dv,[],out,h1,h2,h3,h4,by simp,h5⟩
 ·rename_i f first caps
  refine⟨.none,[],[],_,[],⟨.fn f (first.toList.map fun x=>den (ρ x)) (caps.toList.map fun x=>den (ρ x)),[],[]⟩,rfl,trivial,?_,rfl,by simp,h⟩;simp only[den,Sq]
 ·rename_i t x lo hi;obtain⟨orc,rd,dv,out,h1,h2,h3,h4,h5⟩:=Y7 h;refine⟨orc,rd,[],dv,[],out,?_,h2,h3,h4,by simp,h5⟩;simp only[Option.map_map]at h1;exact h1
 ·obtain⟨dv,out,h1,h2,h3,h4,h5⟩:=Ot h;exact⟨.none,[],[],dv,[],out,h1,h2,h3,h4,by simp,h5⟩
 ·obtain⟨dv,out,h1,h2,h3,h4,h5⟩:=Y3 h;exact⟨.none,[],[],dv,[],out,h1,h2,h3,h4,by simp,h5⟩
 ·obtain⟨orc,rd,dv,out,h1,h2,h3,h4,h5⟩:=Ou h;exact⟨orc,rd,[],dv,[],out,h1,h2,h3,h4,by simp,h5⟩
 ·obtain⟨dv,out,h1,h2,h3,h4,h5⟩:=TF h;exact⟨.none,[],[],dv,[],out,h1,h2,h3,h4,by simp,h5⟩
 ·rename_i b args tys;obtain⟨orc,rd,wr,dv,upd,out,h1,h2⟩:=TH h;refine⟨orc,rd,wr,dv,upd,out,?_,h2⟩;simp only[Sq];exact h1
 ·cases h
end
inductive Pt (ι:Type) where
 |v (c:CT ι)
 |o (k:Nat)
 |p (k:Nat)
 |nil
 |f (F:FuncId) (fs cs:List (Pt ι))
 |od (k:Nat)
 |mp (k:Nat)
 |a (ps:List (Pt ι))
inductive OP (ι:Type) where
 |l (c:CT ι)
 |m (k v:CT ι)
 |c (sz:Nat) (rows:List (List (Pt ι)))
section
variable {ι:Type}
mutual
def Pt.vars:Pt ι->List (CT ι)
 | .v c=>[c]
 | .a ps=>varsL ps
 | .f _ fs cs=>varsL fs++varsL cs
 | .od _=>[.int .i64]
 |_=>[]
def varsL:List (Pt ι)->List (CT ι)
 |[]=>[]
 |p::ps=>p.vars++varsL ps
end
def varsS:List (Nat×Pt ι)->List (CT ι)
 |[]=>[]
 |p::ps=>p.2.vars++varsS ps
def TI:List (List (Pt ι))->List (CT ι)
 |[]=>[]
 |r::rs=>varsL r++TI rs
def varsO:List (Nat×OP ι)->List (CT ι)
 |[]=>[]
 |(_,.l c)::r=> .sl c::varsO r
 |(_,.m k v)::r=> .mp k v::varsO r
 |(_,.c _ rows)::r=>TI rows++varsO r
end
section
variable {X:SX}
structure DC (X:SX) where
 c:CT X.ι
 x:CT.T X.toSE c
@[reducible] def VT:List (CT X.ι)->Type
 |[]=>Unit
 |[c]=>CT.T X.toSE c
 |c::c'::l=>CT.T X.toSE c×VT (c'::l)
def Y8:(l:List (CT X.ι))->List (DC X)->Option (VT (X:=X) l)
 |[],[]=>some ()
 |[c],[d]=>kV d.c c d.x
 |c::c'::l,d::ds=>(kV d.c c d.x).bind fun x=>(Y8 (c'::l) ds).bind fun v=>some (x,v)
 |_,_=>none
def TJ:(l:List (CT X.ι))->VT (X:=X) l->List (DC X)
 |[],_=>[]
 |[c],x=>[⟨c,x⟩]
 |c::c'::l,v=>⟨c,v.1⟩::TJ (c'::l) v.2
theorem abo {d:DC X} {c:CT X.ι} {x:CT.T X.toSE c} (h:kV d.c c d.x=some x):(⟨c,x⟩:DC X)=d:=by
 obtain⟨a,y⟩:=d;obtain⟨e,h⟩:=zw h;simp only at e;subst e;subst h;rfl
theorem abp:∀ {l:List (CT X.ι)} {ds:List (DC X)} {v:VT (X:=X) l},Y8 l ds=some v->TJ l v=ds
 |[],[],_,_=>rfl
 |[c],[d],v,h=>by simp only[Y8]at h;simp only[TJ,abo h]
 |c::c'::l,d::ds,v,h=>by
  simp only[Y8]at h;rw[ax]at h;obtain⟨x,h1,h⟩:=h;rw[ax]at h;obtain⟨v',h2,h⟩:=h;injection h with h;subst h;simp only[TJ,abo h1,abp h2]
 |[],_::_,_,h=>by simp[Y8]at h
 |[_],[],_,h=>by simp[Y8]at h
 |[_],_::_::_,_,h=>by simp[Y8]at h
 |_::_::_,[],_,h=>by simp[Y8]at h
theorem TK {c:CT X.ι} (x:CT.T X.toSE c):kV c c x=some x:=by
 unfold kV;split
 ·rfl
 ·rename_i h _;exact absurd rfl h
def XB (d:DC X):Nat:=match kV d.c (.int .i64) d.x with |some x=>Int.toNat x |none=>0
section
variable (olen:Nat->Nat)
mutual
def eP:Pt X.ι->List (DC X)->DV X×List (DC X)
 | .v _,L=>match L with
  |d::r=>(.c d.c d.x,r)
  |[]=>(.undef,[])
 | .o k,L=>(.own k 0 (olen k),L)
 | .p k,L=>(.ptr k 0 0,L)
 | .mp k,L=>(.mp k,L)
 | .nil,L=>(.nil,L)
 | .f F fs cs,L=>(.fn F (ePs fs L).1 (ePs cs (ePs fs L).2).1,(ePs cs (ePs fs L).2).2)
 | .od k,L=>match L with
  |d::r=>(.own k (XB d) (olen k - XB d),r)
  |[]=>(.undef,[])
 | .a ps,L=>(.agg (ePs ps L).1,(ePs ps L).2)
def ePs:List (Pt X.ι)->List (DC X)->List (DV X)×List (DC X)
 |[],L=>([],L)
 |p::ps,L=>((eP p L).1::(ePs ps (eP p L).2).1,(ePs ps (eP p L).2).2)
end
def Y9:List (Nat×Pt X.ι)->List (DC X)->List (Nat×DV X)
 |[],_=>[]
 |(t,p)::r,L=>(t,(eP olen p L).1)::Y9 r (eP olen p L).2
def XC:List (List (Pt X.ι))->List (DC X)->List (List (DV X))×List (DC X)
 |[],L=>([],L)
 |r::rs,L=>((ePs olen r L).1::(XC rs (ePs olen r L).2).1,(XC rs (ePs olen r L).2).2)
def LP:List (Nat×OP X.ι)->List (DC X)->List (Nat×Option (DObj X))
 |[],_=>[]
 |(k,.l _)::r,L=>match L with
  |⟨.sl c',x⟩::L=>(k,some (.lst c' x))::LP r L
  |_=>[]
 |(k,.m _ _)::r,L=>match L with
  |⟨.mp kc vc,x⟩::L=>(k,some (.map kc vc x))::LP r L
  |_=>[]
 |(k,.c sz rows)::r,L=>(k,some (.cells sz (XC olen rows L).1))::LP r (XC olen rows L).2
end
def lens:List (Nat×OP X.ι)->List (DC X)->List (Nat×Nat)
 |[],_=>[]
 |(k,.l _)::r,L=>match L with
  |⟨.sl _,x⟩::L=>(k,List.length x)::lens r L
  |_=>[]
 |(_,.m _ _)::r,L=>lens r (L.drop 1)
 |(_,.c _ rows)::r,L=>lens r (L.drop (TI rows).length)
def zipS:Nat->List (Pt X.ι)->List (Nat×Pt X.ι)
 |_,[]=>[]
 |n,p::ps=>(n,p)::zipS (n+1) ps
structure GSig (X:SX) where
 inP:List (Pt X.ι)
 inO:List (Nat×OP X.ι)
 outP:List (Pt X.ι)
 outO:List (Nat×OP X.ι)
 fn:VT (X:=X) (varsL inP++varsO inO)->Option (VT (X:=X) (varsS (zipS 0 outP)++varsO outO))
def ah2 (O:List (Nat×OP X.ι)) (L:List (DC X)) (k:Nat):Nat:=(lk (lens O L) k).getD 0
def aj1 (ps:List (Pt X.ι)) (O:List (Nat×OP X.ι)) (L:List (DC X)):List (DV X):=(ePs (ah2 O (L.drop (varsL ps).length)) ps (L.take (varsL ps).length)).1
def aj2 (ps:List (Pt X.ι)) (O:List (Nat×OP X.ι)) (L:List (DC X)):List (Nat×Option (DObj X)):=LP (ah2 O (L.drop (varsL ps).length)) O (L.drop (varsL ps).length)
def akm:List (DV X)->DV X
 |[d]=>d
 |ds=> .tup ds
def agc:List (Nat×Option (DObj X))->List (Nat×DObj X)
 |[]=>[]
 |(k,some o)::r=>(k,o)::agc r
 |(_,none)::r=>agc r
def akQ (l:List (Nat×DObj X)):List (Nat×bA):=l.map fun p=>(p.1,dM p.2)
def GSig.args (g:GSig X) (v:VT (X:=X) (varsL g.inP++varsO g.inO)):List (DV X):=aj1 g.inP g.inO (TJ _ v)
def GSig.objs (g:GSig X) (v:VT (X:=X) (varsL g.inP++varsO g.inO)):List (Nat×DObj X):=agc (aj2 g.inP g.inO (TJ _ v))
def GSig.res (g:GSig X) (r:VT (X:=X) (varsS (zipS 0 g.outP)++varsO g.outO)):DV X:=akm (aj1 g.outP g.outO (TJ _ r))
def GSig.outs (g:GSig X) (r:VT (X:=X) (varsS (zipS 0 g.outP)++varsO g.outO)):List (Nat×DObj X):=agc (aj2 g.outP g.outO (TJ _ r))
def akR (P:Program) (f:FuncId) (g:GSig X):Prop:=∀ v r,g.fn v=some r->FnG P f (cK (g.args v)) ((g.objs v).map fun p=>dM p.2) (akQ (g.outs r)) (den (g.res r))
end
inductive AT (ι:Type) where
 |d (c:CT ι)
 |ref (c:CT ι)
 |clo (as:List (CT ι)) (r:CT ι)
 |mut (c:CT ι)
 |mref (c:CT ι)
 |nil
 deriving DecidableEq
def AT.im {ι:Type}:AT ι->Bool
 | .mut _ | .mref _=>true
 |_=>false
def AT.pl {ι:Type}:AT ι->Bool
 | .mut _ | .mref _ | .nil=>false
 |_=>true
inductive RT (ι:Type) where
 |d (c:CT ι)
 |fresh (e:CT ι)
 |whole (j:Nat)
 |mu (c:CT ι)
 |mr (c:CT ι)
 |mv
def RT.out {ι:Type}:RT ι->Bool
 | .mu _ | .mr _ | .mv=>true
 |_=>false
section
variable (X:SX)
@[reducible] def AT.T:AT X.ι->Type
 | .d c=>CT.T X.toSE c
 | .ref c=>CT.T X.toSE c
 | .clo as r=>HL X.toSE as->Option (CT.T X.toSE r)
 | .mut c=>List (CT.T X.toSE c)
 | .mref c=>CT.T X.toSE c
 | .nil=>Unit
@[reducible] def RT.T:RT X.ι->Type
 | .d c=>CT.T X.toSE c
 | .fresh e=>List (CT.T X.toSE e)
 | .whole _=>Unit
 | .mu c=>List (CT.T X.toSE c)
 | .mr c=>CT.T X.toSE c
 | .mv=>Unit
@[reducible] def iW:List (AT X.ι)->Type
 |[]=>Unit
 |a::l=>AT.T X a×iW l
@[reducible] def su:List (RT X.ι)->Type
 |[]=>Unit
 |[r]=>RT.T X r
 |r::r'::l=>RT.T X r×su (r'::l)
structure Sig where
 args:List (AT X.ι)
 res:List (RT X.ι)
 fn:iW X args->Option (su X res)
 gen:Option (GSig X):=none
variable {X}
def dU:Nat->(l:List (AT X.ι))->iW X l->List AV
 |_,[],_=>[]
 |n,.d c::l,a=>(CT.tv X.toSE c a.1).av::dU n l a.2
 |n,.ref c::l,a=> .rptr (CT.row X.toSE c a.1) 0::dU n l a.2
 |n,.clo as r::l,a=>den (.clo as r a.1:DV X)::dU n l a.2
 |n,.mut _::l,a=> .own n 0 (List.length a.1)::dU (n+1) l a.2
 |n,.mref _::l,a=> .ptr n 0 0::dU (n+1) l a.2
 |n,.nil::l,a=> .nilsl::dU n l a.2
abbrev zA (l:List (AT X.ι)) (a:iW X l):List AV:=dU 0 l a
def rz (c:CT X.ι) (l:List (CT.T X.toSE c)):fE:=(CT.sz X c,l.map (CT.row X.toSE c))
def qd:(l:List (AT X.ι))->iW X l->List fE
 |[],_=>[]
 | .mut c::l,a=>rz c a.1::qd l a.2
 | .mref c::l,a=>rz c [a.1]::qd l a.2
 | .d _::l,a=>qd l a.2
 | .ref _::l,a=>qd l a.2
 | .clo _ _::l,a=>qd l a.2
 | .nil::l,a=>qd l a.2
def qf:(r:RT X.ι)->RT.T X r->List (Option fE)
 | .mu c,x=>[some (rz c x)]
 | .mr c,x=>[some (rz c [x])]
 | .mv,_=>[none]
 |_,_=>[]
def nk:(l:List (RT X.ι))->su X l->List (Option fE)
 |[],_=>[]
 |[r],x=>qf r x
 |r::r'::l,x=>qf r x.1++nk (r'::l) x.2
def Wm:(r:RT X.ι)->RT.T X r->List Nat
 | .mu _,x=>[List.length x]
 | .mr _,_=>[1]
 | .mv,_=>[0]
 |_,_=>[]
def Za:(l:List (RT X.ι))->su X l->List Nat
 |[],_=>[]
 |[r],x=>Wm r x
 |r::r'::l,x=>Wm r x.1++Za (r'::l) x.2
def TL (ns:List Nat):(r:RT X.ι)->RT.T X r->List RC
 | .d c,x=>[.d (CT.tv X.toSE c x)]
 | .fresh e,l=>[.fresh (CT.sz X e) (l.map (CT.row X.toSE e))]
 | .whole j,_=>[.whole j (ns.getD j 0)]
 |_,_=>[]
def Ca (ns:List Nat):(l:List (RT X.ι))->su X l->List RC
 |[],_=>[]
 |[r],x=>TL ns r x
 |r::r'::l,x=>TL ns r x.1++Ca ns (r'::l) x.2
def sI (l:List (RT X.ι)) (x:su X l):RV:=
 match Ca (Za l x) l x with
 |[c]=> .one c
 |cs=> .tup cs
def GOk (P:Program) (Γ:FuncId->Option (Sig X)):Prop:=
 ∀ f s,Γ f=some s->oh P f∧(∀ a r,s.fn a=some r->FnW P f (zA s.args a) (qd s.args a) (nk s.res r) (sI s.res r))∧∀ g,s.gen=some g->akR P f g
theorem akS:∀ {l:List (AT X.ι)},(l.all fun q=>q.pl)=true->(l.all fun q=>!q.im)=true:=fun {l} h=>by
 rw[all_eq_true]at h ⊢;intro q hq;have:=h q hq;cases q<;>simp_all [AT.pl,AT.im]
theorem zB:∀ {l:List (AT X.ι)} {a:iW X l},(l.all fun q=>!q.im)=true->qd l a=[]
 |[],_,_=>rfl
 | .d _::l,a,h=>zB (l:=l) (by simpa[AT.im]using h)
 | .ref _::l,a,h=>zB (l:=l) (by simpa[AT.im]using h)
 | .clo _ _::l,a,h=>zB (l:=l) (by simpa[AT.im]using h)
 | .mut _::l,a,h=>by simp[AT.im]at h
 | .mref _::l,a,h=>by simp[AT.im]at h
 | .nil::l,a,h=>zB (l:=l) (by simpa[AT.im]using h)
theorem abq {r:RT X.ι} {x:RT.T X r} (h:(!r.out)=true):qf r x=[]:=by cases r<;>first |rfl |simp[RT.out]at h
theorem abr:∀ {l:List (RT X.ι)} {x:su X l},(l.all fun q=>!q.out)=true->nk l x=[]
 |[],_,_=>rfl
 |[r],x,h=>abq (by simpa using h)
 |r::r'::l,x,h=>by
  simp only[all_cons,aK]at h;simp only[nk,abq h.1,cu];exact abr (l:=r'::l) (by simp only[all_cons,aK];exact h.2)
mutual
def drefs:DV X->List Nat
 | .own k _ _=>[k]
 | .ptr k _ _=>[k]
 | .ptl k _ _=>[k]
 | .pta k _ _ _ _=>[k]
 | .mp k=>[k]
 | .agg cs=>bn cs
 | .tup cs=>bn cs
 | .fn _ first caps=>bn first++bn caps
 |_=>[]
def bn:List (DV X)->List Nat
 |[]=>[]
 |x::xs=>drefs x++bn xs
end
theorem I5 (c:CT X.ι) (x:CT.T X.toSE c):refs (CT.tv X.toSE c x).av=[]:=by
 cases c<;>try rfl
 rename_i i;show dG ((X.row i x).map AV.t)=[];generalize X.row i x=l
 induction l with
 |nil=>rfl
 |cons y ys ih=>simp only[bf,dG,refs,ih,cu]
mutual
theorem iZ:∀ x:DV X,refs (den x)=drefs x
 | .c t x=>I5 t x
 | .agg cs=>by simp only[den,refs,drefs,kK cs]
 | .tup cs=>by simp only[den,refs,drefs,kK cs]
 | .own _ _ _=>rfl
 | .ptr _ _ _=>rfl
 | .ptl _ _ _=>rfl
 | .mp _=>rfl
 | .pta _ _ _ _ _=>rfl
 | .rp _ _ _=>rfl
 | .fn f first caps=>by simp only[den,refs,drefs,kK first,kK caps]
 | .clo _ _ _=>rfl
 | .raw v=>by
  simp only[den,drefs,cv];split
  ·rfl
  ·split<;>rfl
 | .nil=>rfl
 | .ub=>rfl
 | .skip=>rfl
 | .undef=>rfl
theorem kK:∀ l:List (DV X),dG (cK l)=bn l
 |[]=>rfl
 |x::xs=>by simp only[cK,dG,bn,iZ x,kK xs]
end
def Qy (get:Nat->Option (DObj X)) (d:DV X) (c:CT X.ι):Option (CT.T X.toSE c×List Bool):=
 match d,c with
 | .own kk off len,.sl e=>(get kk).bind fun o=>match o with
  | .lst b l=>(kV (.sl b) (.sl e) l).bind fun (l:List (CT.T X.toSE e))=>some (sub l off len,[eqL (sub l off len).length len])
  |_=>none
 | .own kk off len,.any=>(get kk).bind fun o=>match o with
  | .lst b l=>some (.sl (List.map (CT.row X.toSE b) (sub l off len)),[eqL (sub l off len).length len])
  |_=>none
 |d,c=>(Oo d c).bind fun x=>some (x,[])
def xE (get:Nat->Option (DObj X)):List (DV X)->(l:List (CT X.ι))->Option (HL X.toSE l×List Bool)
 |[],[]=>some ((),[])
 |d::ds,c::l=>(Qy get d c).bind fun x=>(xE get ds l).bind fun h=>some ((x.1,h.1),x.2++h.2)
 |_,_=>none
def XD (get:Nat->Option (DObj X)) (d:DV X) (i:X.ι):Option (CT.T X.toSE (.st i)×List Bool):=
 match d with
 | .agg cs=>(xE get cs (X.tys i)).bind fun h=>some (X.make i h.1,h.2)
 | .c a x=>(kV a (.st i) x).bind fun x=>some (x,[])
 |_=>none
def FL (get:Nat->Option (DObj X)) (d:DV X) (c:CT X.ι):Option (CT.T X.toSE c×List Bool):=
 match c with
 | .st i=>XD get d i
 |c=>Qy get d c
def ah3 (get:Nat->Option (DObj X)) (d:DV X) (c:CT X.ι):Option (CT.T X.toSE c):=
 match d with
 | .ptr kk row 0=>(get kk).bind fun o=>match o with
  | .cells _ rows=>(rows[row]?).bind fun q=>if q.all (fun x=>match x with | .c _ _=>true |_=>false)then Ty c q else none
  |_=>none
 | .rp a x 0=>kV a c x
 |_=>none
def apA:(l l':List (AT X.ι))->iW X l->iW X l'->iW X (l++l')
 |[],_,_,b=>b
 |_::l,l',a,b=>(a.1,apA l l' a.2 b)
def hlA:(as:List (CT X.ι))->HL X.toSE as->iW X (as.map AT.d)
 |[],_=>()
 |_::l,h=>(h.1,hlA l h.2)
def qg:List (AT X.ι)->Nat
 |[]=>0
 |q::l=>(if q.im then 1 else 0)+qg l
theorem jY:∀ (n:Nat) (l l':List (AT X.ι)) (a:iW X l) (b:iW X l'),dU n (l++l') (apA l l' a b)=dU n l a++dU (n+qg l) l' b
 |n,[],_,_,_=>rfl
 |n,.d c::l,l',a,b=>by simp[dU,apA,jY n l l' a.2 b,qg,AT.im]
 |n,.ref c::l,l',a,b=>by simp[dU,apA,jY n l l' a.2 b,qg,AT.im]
 |n,.clo as r::l,l',a,b=>by simp[dU,apA,jY n l l' a.2 b,qg,AT.im]
 |n,.mut c::l,l',a,b=>by simp[dU,apA,jY (n+1) l l' a.2 b,qg,AT.im,Nat.add_assoc]
 |n,.mref c::l,l',a,b=>by simp[dU,apA,jY (n+1) l l' a.2 b,qg,AT.im,Nat.add_assoc]
 |n,.nil::l,l',a,b=>by simp[dU,apA,jY n l l' a.2 b,qg,AT.im]
theorem Ow:∀ (n:Nat) (as:List (CT X.ι)) (h:HL X.toSE as),dU n (as.map AT.d) (hlA as h)=(HL.tvs X.toSE as h).map TV.av
 |_,[],_=>rfl
 |n,c::l,h=>congrArg ((CT.tv X.toSE c h.1).av:: ·) (Ow n l h.2)
def aj3 {a b:CT X.ι} (h:a=b) (o:Option (CT.T X.toSE a)):Option (CT.T X.toSE b):=h ▸ o
def jG (get:Nat->Option (DObj X)) (clof:FuncId->List (DV X)->List (DV X)->(as:List (CT X.ι))->(r:CT X.ι)->Option ((HL X.toSE as->Option (CT.T X.toSE r))×List Bool)):List (DV X)->(l:List (AT X.ι))->Option (iW X l×List Bool)
 |[],[]=>some ((),[])
 |d::ds,.d c::l=>(FL get d c).bind fun x=>(jG get clof ds l).bind fun h=>some ((x.1,h.1),x.2++h.2)
 |d::ds,.ref c::l=>(ah3 get d c).bind fun x=>(jG get clof ds l).bind fun h=>some ((x,h.1),h.2)
 |d::ds,.clo as r::l=>(match d with
  | .clo as' r' φ=>if h:as'=as∧r'=r then some (fun x=>aj3 h.2 (φ (h.1 ▸ x)),[])else none
  | .fn f first caps=>clof f first caps as r
  |_=>none).bind fun φ=>(jG get clof ds l).bind fun q=>some ((φ.1,q.1),φ.2++q.2)
 |_,_=>none
def Qz (Γ:FuncId->Option (Sig X)) (get:Nat->Option (DObj X)):Nat->List (DV X)->(l:List (AT X.ι))->Option (iW X l×List Bool)
 | 0,ds,l=>jG get (fun _ _ _ _ _=>none) ds l
 |n+1,ds,l=>jG get (fun f first caps as r=>(Γ f).bind fun s=>match s with
   |⟨sa,[.d r'],fn,_⟩=>
    if h:r'=r∧sa=sa.take first.length++(as.map AT.d++sa.drop (first.length+as.length))then
     (Qz Γ get n first (sa.take first.length)).bind fun hf=>(Qz Γ get n caps (sa.drop (first.length+as.length))).bind fun hc=>
      some (fun x=>aj3 h.1 (fn (h.2 ▸ apA _ _ hf.1 (apA _ _ (hlA as x) hc.1))),hf.2++hc.2)
    else none
   |_=>none) ds l
section
variable {P:Program} {Γ:FuncId->Option (Sig X)} {get:Nat->Option (DObj X)} {rd:List Nat}
theorem jr {a b:List Prop} (h:∀ p∈a,p) (h':∀ p∈b,p):∀ p∈a++b,p:=fun p hp=>(aX.1 hp).elim (h p) (h' p)
theorem Gw {d:DV X} {c:CT X.ι} {x:CT.T X.toSE c×List Bool} (h:Qy get d c=some x) (hc:∀ b∈x.2,b=true) (hrd:∀ j∈drefs d,j∈rd):∃ hs obs,(∀ p∈obs,p)∧∀ rest,oo P (fq rd (gP get)) (den d) (hs++rest)=some ((CT.tv X.toSE c x.1).av,rest,obs):=by
 have base:∀ {d:DV X} {c:CT X.ι} {x:CT.T X.toSE c},Oo d c=some x->∃ hs obs,(∀ p∈obs,p)∧∀ rest,oo P (fq rd (gP get)) (den d) (hs++rest)=some ((CT.tv X.toSE c x).av,rest,obs):=by
  intro d c x h;unfold Oo at h;split at h
  ·rw[(oQ h).1];refine⟨[],[],by simp,fun rest=>?_⟩;simp only[cu,den];cases c<;>try rfl
   rename_i j;show oo P _ (.agg ((X.row j x).map AV.t)) rest=_;have:∀ (l:List Tree) (hs:List LH),l6 P (fq rd (gP get)) (l.map AV.t) hs=some (l.map AV.t,hs,[]):=by
    intro l
    induction l with
    |nil=>intro hs;rfl
    |cons y ys ih=>intro hs;simp only[bf,l6,oo,ah,ih,cu]
   simp only[oo,this,ah];rfl
  ·injection h with h;subst h;exact⟨[.emp],[],by simp,fun rest=>rfl⟩
  ·injection h with h;subst h;exact⟨[.emp],[],by simp,fun rest=>rfl⟩
  ·cases h
 unfold Qy at h;split at h
 ·rename_i kk off len e;rw[ax]at h;obtain⟨o,h1,h⟩:=h;split at h
  ·rename_i b l0;rw[ax]at h;obtain⟨l,h2,h⟩:=h;injection h with h;subst h;have h3:(sub l off len).length=len:=(by simpa[eqL]using hc (eqL (sub l off len).length len) (by simp));obtain⟨h4,h5⟩:=ny h2;refine⟨[.rows ((sub l off len).map (CT.row X.toSE e))],[(((dM (.lst b l0):bA).rows.drop off).take len=aW ((sub l off len).map (CT.row X.toSE e))∧((sub l off len).map (CT.row X.toSE e)).length=len)],?_,fun rest=>?_⟩
   ·intro p hp;simp only[aO]at hp;subst hp;refine⟨?_,by simpa using h3⟩;simp only[dM,h5];simp[aW,sub,map_take,map_drop]
   ·simp only[cons_append,cu,den,oo,iy (hrd kk (by simp[drefs])) h1,ah];rfl
  ·cases h
 ·rename_i kk off len;rw[ax]at h;obtain⟨o,h1,h⟩:=h;split at h
  ·rename_i b l0;injection h with h;subst h;have h3:(sub l0 off len).length=len:=(by simpa[eqL]using hc (eqL (sub l0 off len).length len) (by simp));refine⟨[.rows ((sub l0 off len).map (CT.row X.toSE b))],[(((dM (.lst b l0):bA).rows.drop off).take len=aW ((sub l0 off len).map (CT.row X.toSE b))∧((sub l0 off len).map (CT.row X.toSE b)).length=len)],?_,fun rest=>?_⟩
   ·intro p hp;simp only[aO]at hp;subst hp;refine⟨?_,by simpa using h3⟩;simp only[dM];simp[aW,sub,map_take,map_drop]
   ·simp only[cons_append,cu,den,oo,iy (hrd kk (by simp[drefs])) h1,ah];rfl
  ·cases h
 ·rw[ax]at h;obtain⟨y,h1,h⟩:=h;injection h with h;subst h;exact base h1
theorem LQ:∀ {ds:List (DV X)} {l:List (CT X.ι)} {h:HL X.toSE l×List Bool},xE get ds l=some h->(∀ b∈h.2,b=true)->l.all CT.one=true->(∀ j∈bn ds,j∈rd)->
 ∃ hs obs,(∀ p∈obs,p)∧∀ rest,l6 P (fq rd (gP get)) (cK ds) (hs++rest)=some ((HL.row X.toSE l h.1).map AV.t,rest,obs)
 |[],[],h,_,_,_,_=>⟨[],[],by simp,fun rest=>rfl⟩
 |d::ds,c::l,h,hr,hc,ha,hrd=>by
  simp only[xE]at hr;rw[ax]at hr;obtain⟨x,h1,hr⟩:=hr;rw[ax]at hr;obtain⟨g,h2,hr⟩:=hr;injection hr with hr;subst hr;simp only[all_cons,aK]at ha;obtain⟨hs1,o1,p1,q1⟩:=Gw (P:=P) (rd:=rd) h1 (fun b hb=>hc b (by simp[hb])) (fun j hj=>hrd j (by simp[bn,hj]));obtain⟨hs2,o2,p2,q2⟩:=LQ h2 (fun b hb=>hc b (by simp[hb])) ha.2 (fun j hj=>hrd j (by simp[bn,hj]));refine⟨hs1++hs2,o1++o2,jr p1 p2,fun rest=>?_⟩;simp only[cK,l6,aQ,q1,ah,q2];show _=some ((CT.row X.toSE c x.1++HL.row X.toSE l g.1).map AV.t,rest,o1++o2);rw[map_append,<- Y1 ha.1 x.1];rfl
 |[],_::_,_,hr,_,_,_=>by simp[xE]at hr
 |_::_,[],_,hr,_,_,_=>by simp[xE]at hr
theorem Bd {d:DV X} {c:CT X.ι} {x:CT.T X.toSE c×List Bool} (h:FL get d c=some x) (hc:∀ b∈x.2,b=true) (hrd:∀ j∈drefs d,j∈rd):∃ hs obs,(∀ p∈obs,p)∧∀ rest,oo P (fq rd (gP get)) (den d) (hs++rest)=some ((CT.tv X.toSE c x.1).av,rest,obs):=by
 cases c
 case st i=>
  replace h:XD get d i=some x:=h
  cases d
  case agg cs=>
   simp only[XD]at h;rw[ax]at h;obtain⟨g,h1,h⟩:=h;injection h with h;subst h;obtain⟨hs,obs,p1,q1⟩:=LQ (P:=P) (rd:=rd) h1 hc (X.flat i) (fun j hj=>hrd j (by simpa[drefs]using hj));refine⟨hs,obs,p1,fun rest=>?_⟩;simp only[den,oo,q1,ah,CT.tv,TV.av];rw[X.row_make]
  case c a y=>exact Gw (c:= .st i) (x:=x) (by unfold Qy;exact h) hc hrd
  all_goals cases h
 all_goals exact Gw h hc hrd
theorem abt {d:DV X} {c:CT X.ι} {x:CT.T X.toSE c} (h:ah3 get d c=some x) (hrd:∀ j∈drefs d,j∈rd):∃ hs obs,(∀ p∈obs,p)∧∀ rest,oo P (fq rd (gP get)) (den d) (hs++rest)=some (.rptr (CT.row X.toSE c x) 0,rest,obs):=by
 unfold ah3 at h;split at h
 ·rename_i kk row;rw[ax]at h;obtain⟨o,h1,h⟩:=h;split at h
  ·rename_i sz rows;rw[ax]at h;obtain⟨q,h2,h⟩:=h;split at h
   ·rename_i hq;refine⟨[.row (CT.row X.toSE c x)],[(dM (.cells sz rows):bA).rows[row]? =some ((CT.row X.toSE c x).map AV.t)],?_,fun rest=>?_⟩
    ·intro p hp;simp only[aO]at hp;subst hp;simp only[dM,List.getElem?_map,h2,Option.map_some];rw[<- CV h,ni,map_map];congr 1;refine map_congr_left fun y hy=>?_;have:=all_eq_true.1 hq y hy;cases y<;>first |exact (aj0 _).symm |simp at this
    ·simp only[cons_append,cu,den,oo,iy (hrd kk (by simp[drefs])) h1,ah]
   ·cases h
  ·cases h
 ·rename_i a y;refine⟨[],[],by simp,fun rest=>?_⟩;simp only[den,(oQ h).2];rfl
 ·cases h
theorem aeg {n:Nat} {l l':List (AT X.ι)} (e:l=l') (b:iW X l):dU n l' (e ▸ b)=dU n l b:=by subst e;rfl
theorem CX {clof:FuncId->List (DV X)->List (DV X)->(as:List (CT X.ι))->(r:CT X.ι)->Option ((HL X.toSE as->Option (CT.T X.toSE r))×List Bool)}:∀ {ds:List (DV X)} {l:List (AT X.ι)} {a:iW X l×List Bool},jG get clof ds l=some a->(l.all fun q=>!q.im)=true
 |[],[],_,_=>rfl
 |d::ds,.d c::l,a,h=>by
  simp only[jG]at h;rw[ax]at h;obtain⟨x,h1,h⟩:=h;rw[ax]at h;obtain⟨q,h2,h⟩:=h;simpa[AT.im]using CX h2
 |d::ds,.ref c::l,a,h=>by
  simp only[jG]at h;rw[ax]at h;obtain⟨x,h1,h⟩:=h;rw[ax]at h;obtain⟨q,h2,h⟩:=h;simpa[AT.im]using CX h2
 |d::ds,.clo as r::l,a,h=>by
  simp only[jG]at h;rw[ax]at h;obtain⟨x,h1,h⟩:=h;rw[ax]at h;obtain⟨q,h2,h⟩:=h;simpa[AT.im]using CX h2
 |_::_,.mut _::_,_,h=>by simp[jG]at h
 |_::_,.mref _::_,_,h=>by simp[jG]at h
 |_::_,.nil::_,_,h=>by simp[jG]at h
 |[],_::_,_,h=>by simp[jG]at h
 |_::_,[],_,h=>by simp[jG]at h
theorem abu:∀ {n:Nat} {ds:List (DV X)} {l:List (AT X.ι)} {a:iW X l×List Bool},Qz Γ get n ds l=some a->(l.all fun q=>!q.im)=true
 | 0,_,_,_,h=>CX h
 |_+1,_,_,_,h=>CX h
theorem Zb:∀ as:List (CT X.ι),((as.map AT.d).all fun q=>!q.im)=true
 |[]=>rfl
 |_::l=>Zb l
def akT (P:Program) (get:Nat->Option (DObj X)) (clof:FuncId->List (DV X)->List (DV X)->(as:List (CT X.ι))->(r:CT X.ι)->Option ((HL X.toSE as->Option (CT.T X.toSE r))×List Bool)):Prop:=
 ∀ f first caps as r φ rd,clof f first caps as r=some φ->(∀ b∈φ.2,b=true)->(∀ j∈bn first++bn caps,j∈rd)->∃ hs obs,(∀ p∈obs,p)∧∀ rest,oo P (fq rd (gP get)) (.fn f (cK first) (cK caps)) (hs++rest)=some (den (.clo as r φ.1:DV X),rest,obs)
theorem sJ {n:Nat} {clof:FuncId->List (DV X)->List (DV X)->(as:List (CT X.ι))->(r:CT X.ι)->Option ((HL X.toSE as->Option (CT.T X.toSE r))×List Bool)} (hclo:akT P get clof):∀ {ds:List (DV X)} {l:List (AT X.ι)} {a:iW X l×List Bool},jG get clof ds l=some a->(∀ b∈a.2,b=true)->(∀ j∈bn ds,j∈rd)->
 ∃ hs obs,(∀ p∈obs,p)∧∀ rest,l6 P (fq rd (gP get)) (cK ds) (hs++rest)=some (dU n l a.1,rest,obs)
 |[],[],_,_,_,_=>⟨[],[],by simp,fun rest=>rfl⟩
 |d::ds,.d c::l,a,h,hc,hrd=>by
  simp only[jG]at h;rw[ax]at h;obtain⟨x,h1,h⟩:=h;rw[ax]at h;obtain⟨q,h2,h⟩:=h;injection h with h;subst h;obtain⟨hs1,o1,p1,q1⟩:=Bd (P:=P) (rd:=rd) h1 (fun b hb=>hc b (by simp[hb])) (fun j hj=>hrd j (by simp[bn,hj]));obtain⟨hs2,o2,p2,q2⟩:=sJ (n:=n) hclo h2 (fun b hb=>hc b (by simp[hb])) (fun j hj=>hrd j (by simp[bn,hj]));refine⟨hs1++hs2,o1++o2,jr p1 p2,fun rest=>?_⟩;simp only[cK,l6,aQ,q1,ah,q2,dU]
 |d::ds,.ref c::l,a,h,hc,hrd=>by
  simp only[jG]at h;rw[ax]at h;obtain⟨x,h1,h⟩:=h;rw[ax]at h;obtain⟨q,h2,h⟩:=h;injection h with h;subst h;obtain⟨hs1,o1,p1,q1⟩:=abt (P:=P) (rd:=rd) h1 (fun j hj=>hrd j (by simp[bn,hj]));obtain⟨hs2,o2,p2,q2⟩:=sJ (n:=n) hclo h2 hc (fun j hj=>hrd j (by simp[bn,hj]));refine⟨hs1++hs2,o1++o2,jr p1 p2,fun rest=>?_⟩;simp only[cK,l6,aQ,q1,ah,q2,dU]
 |d::ds,.clo as r::l,a,h,hc,hrd=>by
  simp only[jG]at h;rw[ax]at h;obtain⟨φ,h1,h⟩:=h;rw[ax]at h;obtain⟨q,h2,h⟩:=h;injection h with h;subst h;have hd:∃ hs obs,(∀ p∈obs,p)∧∀ rest,oo P (fq rd (gP get)) (den d) (hs++rest)=some (den (.clo as r φ.1:DV X),rest,obs):=by
   cases d
   case clo as' r' ψ=>
    simp only at h1;split at h1
    ·rename_i e;obtain⟨rfl,rfl⟩:=e;injection h1 with h1;subst h1;exact⟨[],[],by simp,fun rest=>rfl⟩
    ·cases h1
   case fn f first caps=>
    obtain⟨hs,obs,g1,g2⟩:=hclo f first caps as r φ rd h1 (fun b hb=>hc b (by simp[hb])) (fun j hj=>hrd j (by simp only[bn,drefs,aX]at hj ⊢;exact .inl hj))
    exact⟨hs,obs,g1,fun rest=>by simp only[den];exact g2 rest⟩
   all_goals simp at h1
  obtain⟨hs1,o1,p1,q1⟩:=hd;obtain⟨hs2,o2,p2,q2⟩:=sJ (n:=n) hclo h2 (fun b hb=>hc b (by simp[hb])) (fun j hj=>hrd j (by simp[bn,hj]));refine⟨hs1++hs2,o1++o2,jr p1 p2,fun rest=>?_⟩;simp only[cK,l6,aQ,q1,ah,q2,dU]
 |_::_,.mut _::_,_,h,_,_=>by simp[jG]at h
 |_::_,.mref _::_,_,h,_,_=>by simp[jG]at h
 |_::_,.nil::_,_,h,_,_=>by simp[jG]at h
 |[],_::_,_,h,_,_=>by simp[jG]at h
 |_::_,[],_,h,_,_=>by simp[jG]at h
theorem rP (hΓ:GOk P Γ):∀ (m:Nat) {n:Nat} {ds:List (DV X)} {l:List (AT X.ι)} {a:iW X l×List Bool} {rd:List Nat},Qz Γ get m ds l=some a->(∀ b∈a.2,b=true)->(∀ j∈bn ds,j∈rd)->
 ∃ hs obs,(∀ p∈obs,p)∧∀ rest,l6 P (fq rd (gP get)) (cK ds) (hs++rest)=some (dU n l a.1,rest,obs)
 | 0,n,ds,l,a,rd,h,hcs,hrd=>sJ (fun _ _ _ _ _ _ _ h=>by cases h) h hcs hrd
 |m+1,n,ds,l,a,rd,h,hcs,hrd=>by
  refine sJ (fun f first caps as r φ rd' hc hb hrd'=>?_) h hcs hrd;rw[ax]at hc;obtain⟨s,h1,hc⟩:=hc;split at hc
  ·rename_i sa r' fn _;split at hc
   ·rename_i e;obtain⟨rfl,e2⟩:=e;rw[ax]at hc;obtain⟨hf,h2,hc⟩:=hc;rw[ax]at hc;obtain⟨hcap,h3,hc⟩:=hc;injection hc with hc;rw[<- hc]at hb;obtain⟨g1,g2,_⟩:=hΓ f _ h1;obtain⟨hs1,o1,p1,q1⟩:=rP hΓ m h2 (n:=0) (rd:=rd') (fun b hb'=>hb b (by simp[hb'])) (fun j hj=>hrd' j (by simp[hj]));obtain⟨hs2,o2,p2,q2⟩:=rP hΓ m h3 (n:=0+qg (sa.take first.length)+qg (as.map AT.d)) (rd:=rd') (fun b hb'=>hb b (by simp[hb'])) (fun j hj=>hrd' j (by simp[hj]));refine⟨.clo (fun ts u=>∃ h x,φ.1 h=some x∧ts=HL.tvs X.toSE as h∧u=CT.tv X.toSE r' x)::(hs1++hs2),o1++(o2++[oh P f∧∀ args r,(∃ h x,φ.1 h=some x∧args=HL.tvs X.toSE as h∧r=CT.tv X.toSE r' x)->FnP P f (dU 0 _ hf.1++args.map TV.av++dU (0+qg (sa.take first.length)+qg (as.map AT.d)) _ hcap.1) (.one (.d r))]),?_,fun rest=>?_⟩
    ·intro p hp;simp only[aX,aO]at hp;rcases hp with hp |hp |hp
     ·exact p1 p hp
     ·exact p2 p hp
     ·subst hp;refine⟨g1,?_⟩;rintro args r ⟨x,y,hxy,rfl,rfl⟩;rw[<- hc]at hxy;have hxy':fn (e2 ▸ apA _ _ hf.1 (apA _ _ (hlA as x) hcap.1))=some y:=hxy;have:=g2 _ _ hxy';have hnm:(sa.all fun q=>!q.im)=true:=(by rw[e2,List.all_append,List.all_append,abu h2,abu h3,Zb];rfl);rw[zB hnm,zA,aeg e2.symm,jY,jY,Ow,<- aQ]at this;exact Tv this
    ·simp only[cons_append,aQ,oo,q1,ah,q2];rfl
   ·cases hc
  ·cases hc
end
end
def XE (s:ByteArray) (n:Int):Option Int:=bif decide (0<=n)then (s[n.toNat]?).map fun b=>(b.toNat:Int)else none
def Ri (m:Int) (bytes:Nat):Bool:=decide (0<=m)&&decide (m.toNat*bytes<=140737488355328)&&decide (m.toNat<=maxLen)
def sEq (a b:ByteArray):Bool:=a.toList==b.toList
section
variable {X:SX} {A:Type}
theorem l7 (a b:List (DV X)):cK (a++b)=cK a++cK b:=by simp[ni]
theorem Be (a b:List (Nat×Option (DObj X))):jm (a++b)=jm a++jm b:=by simp[jm]
def LU (ids:List Nat):List (Nat×Option (DObj X)):=ids.map fun j=>(j,none)
theorem I6 (ids:List Nat):jm (LU (X:=X) ids)=ids.map fun k=>(k,none):=by simp[jm,LU]
theorem I7 {ids:List Nat} {p:Nat×Option (DObj X)} (h:p∈LU ids):p.1∈ids:=by
 simp only[LU,mem_map]at h;obtain⟨j,hj,rfl⟩:=h;exact hj
variable (T:Tab) (code:TypeId->Option (CT X.ι))
def aeh:DV X->Bool
 | .nil=>true
 |_=>false
def ah4 (op:BinOp) (b:DV X) (yes:Bool) (k:KK X A):Option A:=
 match op with
 | .eql=>bif yes then k b [] [] []else k (.c .bool false) [] [] []
 | .neq=>bif yes then k b [] [] []else k (.c .bool true) [] [] []
 |_=>none
def akn (op:BinOp) (t:TypeId) (x:DV X) (k:KK X A):Option A:=
 (T t).bind fun ti=>match ti.k,x with
 | .slice _,.c (.sl _) l=>ah4 op .ub (List.isEmpty l) k
 | .slice _,.own _ _ len=>ah4 op .ub (len==0) k
 | .slice _,.nil=>ah4 op (.c .bool (op== .eql)) true k
 |_,_=>none
def aj4 (s d:TypeId) (x:DV X) (k:KK X A):Option A:=
 (T s).bind fun _=>(T d).bind fun di=>match di.k,x with
 | .int kd,.c (.int _) n=>k (.c (.int kd) (kd.wrap (iN n))) [] [] []
 |_,_=>none
def ah5 (t:TypeId) (x j:DV X) (k:KK X A):Option A:=
 (T t).bind fun ti=>match ti.k,x,j with
 | .str,.c .str s,.c (.int _) n=>(XE s n).bind fun b=>k (.c (.int .u8) b) [] [] []
 |_,_,_=>none
def XF (t:TypeId) (x:DV X) (lo hi:Option (DV X)) (k:KK X A):Option A:=
 (T t).bind fun ti=>match ti.k,x with
 | .slice e,.nil=>(T e).bind fun _=>(abj 0 lo).bind fun l=>(abj 0 hi).bind fun h=>bif decide (l=0)&&decide (h=0)then k .nil [] [] []else none
 |_,_=>none
def Ox (i:Nat) (b:Builtin) (args:List (DV X)) (tys:List TypeId) (get:Nat->Option (DObj X)) (k:KK X A):Option A:=
 match b,args,tys with
 | .cap,[.nil],[t]=>(T t).bind fun ti=>match ti.k with
  | .slice _=>k (.c (.int .i64) (0:Int)) [] [] []
  |_=>none
 | .clear,[.own kk off _],[t]=>(T t).bind fun ti=>match ti.k with
  | .slice e=>(T e).bind fun ei=>(get kk).bind fun o=>match o with
   | .lst c l=>if CT.sz X c=ei.size then k (.tup []) [(kk,some (.lst c (l.take off)))] [kk] [kk]else none
   |_=>none
  |_=>none
 | .append,[.nil,.c (.int _) m],[t,u]=>(T t).bind fun ti=>(T u).bind fun ui=>match ti.k,ui.k with
  | .slice e,.int _=>(T e).bind fun ei=>(code e).bind fun c=>if CT.sz X c=ei.size∧0 < ei.size then (Ty c (ei.zero.map cvD)).bind fun z=>
   bif Ri (iN m) ei.bytes then k (.own (nid i) 0 m.toNat) [(nid i,some (.lst c (List.replicate m.toNat z)))] [] []else none else none
  |_,_=>none
 |_,_,_=>none
def Oy (x:DV X) (k:KK X A):Option A:=
 match x with
 | .ptr kk r f=>k (.ptr kk r f) [] [] []
 | .ptl kk n f=>k (.ptl kk n f) [] [] []
 | .pta kk r f m n=>k (.pta kk r f m n) [] [] []
 | .rp c y f=>k (.rp c y f) [] [] []
 |_=>none
def ah6 (i:Nat) (t:TypeId) (l c:DV X) (k:KK X A):Option A:=
 (T t).bind fun ti=>match ti.k,l,c with
 | .slice e,.c (.int _) n,.c (.int _) m=>(T e).bind fun ei=>(code e).bind fun c=>if CT.sz X c=ei.size∧0 < ei.size then (Ty c (ei.zero.map cvD)).bind fun z=>
  bif decide (iN n<=iN m)&&(decide (0<=iN n)&&Ri (iN m) ei.bytes)then k (.own (nid i) 0 n.toNat) [(nid i,some (.lst c (List.replicate n.toNat z)))] [] []else none else none
 |_,_,_=>none
def akU (o:Op) (ρ:Operand->DV X):Bool:=
 match o with
 | .binOp _ _ _ y _=>aeh (ρ y)
 | .convert _ _ _=>true
 | .index _ _ _=>true
 | .nilCheck _=>true
 | .makeSlice _ _ _=>true
 | .slice _ x _ _ none=>aeh (ρ x)
 | .call { callee:= .builtin b,args:=args,argTypes:=_ }=>match b,args.toList.map ρ with
  | .cap,_=>true
  | .clear,_=>true
  | .append,[_,.c (.int _) _]=>true
  |_,_=>false
 |_=>false
def ako (i:Nat) (o:Op) (ρ:Operand->DV X) (get:Nat->Option (DObj X)) (k:KK X A):Option A:=
 match o with
 | .binOp op t x y _=>if aeh (ρ y)then akn T op t (ρ x) k else none
 | .convert s d x=>aj4 T s d (ρ x) k
 | .index t x j=>ah5 T t (ρ x) (ρ j) k
 | .slice t x lo hi none=>XF T t (ρ x) (lo.map ρ) (hi.map ρ) k
 | .nilCheck x=>Oy (ρ x) k
 | .makeSlice t l c=>ah6 T code i t (ρ l) (ρ c) k
 | .call { callee:= .builtin b,args:=args,argTypes:=tys }=>Ox T code i b (args.toList.map ρ) tys.toList get k
 |_=>none
def ah7 (get:Nat->Option (DObj X)) (c:CT X.ι) (ρ:Operand->DV X) (x:Operand):DV X:=
 match FL get (ρ x) c with
 |some y=> .c c y.1
 |none=>ρ x
def ajp (get:Nat->Option (DObj X)) (c:CT X.ι) (ρ:Operand->DV X):List Operand->List Bool
 |[]=>[]
 |x::xs=>(match FL get (ρ x) c with |some y=>y.2 |none=>[])++ajp get c ρ xs
def abv (get:Nat->Option (DObj X)) (c:CT X.ι) (ρ:Operand->DV X):List Operand->List Nat
 |[]=>[]
 |x::xs=>(match FL get (ρ x) c with |some _=>drefs (ρ x) |none=>[])++abv get c ρ xs
def ajq (o:Op) (ρ:Operand->DV X) (get:Nat->Option (DObj X)):Option (CT X.ι):=
 match o with
 | .box t _=>code t
 | .assign x | .move x=>match ρ x with
  | .own kk _ _=>(get kk).bind fun o=>match o with
   | .lst c _=>some (.sl c)
   |_=>none
  |_=>none
 | .buildSlice t _ _=>(T t).bind fun ti=>match ti.k with
  | .slice e=>code e
  |_=>none
 | .store t _ _=>code t
 |_=>none
def akV (o:Op) (ρ:Operand->DV X):Bool:=
 match o with
 | .buildSlice _ _ parts=>!(bn (parts.toList.map fun p=>ρ p.2)).isEmpty
 | .store _ a x=>match ρ a with
  | .ptl _ _ _=>!(drefs (ρ x)).isEmpty
  |_=>false
 |_=>false
def akp (i:Nat) (o:Op) (ρ:Operand->DV X) (get:Nat->Option (DObj X)) (k:KK X A):Option A:=
 if adV o then none else (ajq T code o ρ get).bind fun c=>Wj (ajp get c ρ o.operands.toList)
  (opD T code i o (ah7 get c ρ) (fun j=>if j∈abv get c ρ o.operands.toList then none else get j) fun dv upd rd wr=>
   k dv (upd++LU (abv get c ρ o.operands.toList)) (rd++abv get c ρ o.operands.toList) (wr++abv get c ρ o.operands.toList))
def akW (o:Op) (ρ:Operand->DV X):Bool:=
 match o with
 | .indexAddr t x (.tmp _)=>match ρ x,T t with
  | .ptr _ _ _,some ti=>match ti.k with
   | .arr _ e=>match T e with
    |some ei=>ei.size==1
    |none=>false
   |_=>false
  |_,_=>false
 | .load _ a=>match ρ a with
  | .pta _ _ _ _ _=>true
  |_=>false
 |_=>false
def CY (c:CT X.ι):List (DV X)->Option (List (CT.T X.toSE c))
 |[]=>some []
 | .c a x::r=>(kV a c x).bind fun y=>(CY c r).bind fun l=>some (y::l)
 |_=>none
def akq (o:Op) (ρ:Operand->DV X) (get:Nat->Option (DObj X)) (k:KK X A):Option A:=
 match o with
 | .indexAddr t x j=>(T t).bind fun ti=>match ti.k,ρ x,ρ j with
  | .arr m e,.ptr kk row off,.c (.int _) n=>(T e).bind fun ei=>if ei.size=1 then bif inb n m then k (.pta kk row off m n) [] [] []else none else none
  |_,_,_=>none
 | .load t a=>(T t).bind fun ti=>match ρ a with
  | .pta kk row off m n=>if ti.size=1∧ti.agg=false then (code t).bind fun c=>if c.one=true then (get kk).bind fun o=>match o with
   | .cells _ rows=>(rows[row]?).bind fun q=>(CY c ((q.drop off).take m)).bind fun (xs:List (CT.T X.toSE c))=>(at? xs n).bind fun y=>k (.c c y) [] [kk] []
   |_=>none
   else none else none
  |_=>none
 |_=>none
variable {T code}
def SdAny (P:Program) (T:Tab) (i:Nat) (o:Oper) (ρ:Operand->DV X) (get:Nat->Option (DObj X)) (k:KK X A) (r:A):Prop:=
 ∃ orc rd wr dv upd out,jo P T i o orc (fun x=>den (ρ x)) (fq rd (gP get))=some out∧jl out.obs∧out.v=den dv∧out.upd=jm upd∧(∀ p∈upd,p.1=nid i∨p.1∈wr)∧k dv upd rd wr=some r
section
variable {P:Program} {get:Nat->Option (DObj X)} {k:KK X A} {r:A} {i:Nat} {o:Oper} {ρ:Operand->DV X}
theorem ah8 {t:TypeId} {x:AV} {orc:Orc} (h:(∃ n,orc= .ext n)∨∃ ids fr q,orc= .frz ids fr q):aaY T t x .none=aaY T t x orc:=by
 unfold aaY;cases T t with
 |none=>rfl
 |some ti=>
  simp only[ah];generalize ti.k=kk;rcases h with ⟨n,rfl⟩ |⟨ids,fr,q,rfl⟩<;>cases kk<;>try rfl
  all_goals cases x<;>try rfl
  all_goals (rename_i y;cases y<;>try rfl)
  all_goals (rename_i y;cases y<;>rfl)
theorem TM {t:TypeId} {x j:AV} {orc:Orc} {get:Nat->Option bA} (h:(∃ n,orc= .ext n)∨∃ ids fr q,orc= .frz ids fr q):mD T t x j .none get=mD T t x j orc get:=by
 unfold mD;cases T t with
 |none=>rfl
 |some ti=>
  simp only[ah];generalize ti.k=kk;cases kk<;>try rfl
  case arr m e=>
   cases j<;>try rfl
   rename_i y;cases y<;>try rfl
   rename_i y;cases y<;>rfl
  cases j<;>try rfl
  rename_i e y;cases y<;>try rfl
  rename_i y;cases y<;>try rfl
  simp only;cases T e with
  |none=>rfl
  |some ei=>
   simp only[ah];rcases h with ⟨n,rfl⟩ |⟨ids,fr,q,rfl⟩<;>cases x<;>try rfl
   all_goals (rename_i z;cases z<;>rfl)
theorem abw {t:TypeId} {x y:AV} {orc:Orc} {get:Nat->Option bA} (h:(∃ n,orc= .ext n)∨∃ ids fr q,orc= .frz ids fr q):A8 T i t x y .none get=A8 T i t x y orc get:=by
 unfold A8;rcases h with ⟨n,rfl⟩ |⟨ids,fr,q,rfl⟩<;>rfl
theorem agQ {orc:Orc} {ρ:Operand->AV} {get:Nat->Option bA} (h:(∃ n,orc= .ext n)∨∃ ids fr q,orc= .frz ids fr q):rM T i o .none ρ get=rM T i o orc ρ get:=by
 obtain⟨dst,op,ty,pos,after,guard⟩:=o;cases op
 case call c=>
  obtain⟨callee,args,tys⟩:=c;cases callee<;>try rfl
  rename_i b;simp only[rM,CR];split
  ·exact ah8 h
  ·rfl
  ·rfl
  ·rw[abw h]
  ·rfl
 case slice t x lo hi mx=>cases mx<;>rcases h with ⟨n,rfl⟩ |⟨ids,fr,q,rfl⟩<;>rfl
 case makeFunc fn a b=>cases fn<;>rfl
 case indexAddr t x j=>exact TM h
 all_goals (rcases h with ⟨n,rfl⟩ |⟨ids,fr,q,rfl⟩<;>rfl)
theorem SdAny.ext {n:Int} {rd wr:List Nat} {dv:DV X} {upd:List (Nat×Option (DObj X))} {out:Out} (h:uU T i o n (fun x=>den (ρ x)) (fq rd (gP get))=some out) (h1:jl out.obs) (h2:out.v=den dv) (h3:out.upd=jm upd) (h4:∀ p∈upd,p.1=nid i∨p.1∈wr) (h5:k dv upd rd wr=some r) (hx:ahO o.op=false:=by rfl):SdAny P T i o ρ get k r:=
 ⟨.ext n,rd,wr,dv,upd,out,by show sG T i o n _ _=some out;unfold sG;rw[hx];exact h,h1,h2,h3,h4,h5⟩
theorem SdAny.ext2 {n:Int} {rd wr:List Nat} {dv:DV X} {upd:List (Nat×Option (DObj X))} {out:Out} (h:Ep T i o n (fun x=>den (ρ x)) (fq rd (gP get))=some out) (h1:jl out.obs) (h2:out.v=den dv) (h3:out.upd=jm upd) (h4:∀ p∈upd,p.1=nid i∨p.1∈wr) (h5:k dv upd rd wr=some r) (hx:ahO o.op=true:=by rfl):SdAny P T i o ρ get k r:=
 ⟨.ext n,rd,wr,dv,upd,out,by show sG T i o n _ _=some out;unfold sG;rw[hx];exact h,h1,h2,h3,h4,h5⟩
theorem Rj {x:DV X} (h:Oy x k=some r):∃ dv,Oa (den x)=some ⟨den dv,[],[]⟩∧k dv [] [] []=some r:=by cases x<;>simp only[Oy]at h<;>first |cases h |exact⟨_,rfl,h⟩
theorem XG {orc:Orc} {ρ:Operand->AV} {get:Nat->Option bA} (hne:∀ f args tys,o.op≠ .call { callee:= .value f,args:=args,argTypes:=tys }) (ho:∀ n,orc≠ .ext n) (hf:∀ ids fr q,orc≠ .frz ids fr q):jo P T i o orc ρ get=rM T i o orc ρ get:=by
 have e:∀ (α:Type) (a:Operand->Array Operand->Array TypeId->α) (b:α),(match o.op with | .call { callee:= .value f,args:=args,argTypes:=tys }=>a f args tys |_=>b)=b:=by
  intro α a b;split
  ·rename_i f args tys heq;exact (hne f args tys heq).elim
  ·rfl
 cases orc<;>first |exact (ho _ rfl).elim |exact (hf _ _ _ rfl).elim |exact e _ _ _
theorem SdAny.op {orc:Orc} {rd wr:List Nat} {dv:DV X} {upd:List (Nat×Option (DObj X))} {out:Out} (hne:∀ f args tys,o.op≠ .call { callee:= .value f,args:=args,argTypes:=tys })
 (h:rM T i o orc (fun x=>den (ρ x)) (fq rd (gP get))=some out) (h1:jl out.obs∧out.v=den dv∧out.upd=jm upd∧(∀ p∈upd,p.1=nid i∨p.1∈wr)∧k dv upd rd wr=some r):SdAny P T i o ρ get k r:=by
 obtain⟨orc',h'⟩:∃ orc',jo P T i o orc' (fun x=>den (ρ x)) (fq rd (gP get))=some out:=by
  by_cases hx:(∃ n,orc= .ext n)∨∃ ids fr q,orc= .frz ids fr q
  ·refine⟨.none,?_⟩;rw[XG hne (by simp) (by simp),agQ hx,h]
  ·simp only[not_or,not_exists]at hx;exact⟨orc,by rw[XG hne hx.1 (fun ids fr q=>hx.2 ids fr q),h]⟩
 exact⟨orc',rd,wr,dv,upd,out,h',h1⟩
theorem SdAny.call {dst:Option Tmp} {f:Operand} {args:Array Operand} {tys:Array TypeId} {ty:TypeId} {pos:String} {after:Array Edge} {guard:Option (Nat×Bool)} {orc:Orc} {rd wr:List Nat} {dv:DV X} {upd:List (Nat×Option (DObj X))} {out:Out}
 (h:kX P i (den (ρ f)) (args.toList.map fun x=>den (ρ x)) orc (fq rd (gP get))=some out) (h1:jl out.obs∧out.v=den dv∧out.upd=jm upd∧(∀ p∈upd,p.1=nid i∨p.1∈wr)∧k dv upd rd wr=some r):
 SdAny P T i ⟨dst,.call { callee:= .value f,args:=args,argTypes:=tys },ty,pos,after,guard⟩ ρ get k r:=by
 refine⟨orc,rd,wr,dv,upd,out,?_,h1⟩;unfold jo;split
 ·unfold kX ow yu at h;simp only at h;split at h<;>first |cases h |(rename_i e;cases e)
 ·unfold kX ow yu at h;simp only at h;split at h<;>first |cases h |(rename_i e;cases e)
 ·exact h
theorem Oz {op:BinOp} {b:DV X} {yes:Bool} (h:ah4 op b yes k=some r):∃ dv out,agH op (den b) yes=some out∧jl out.obs∧out.v=den dv∧out.upd=[]∧k dv [] [] []=some r:=by
 unfold ah4 at h;split at h
 ·cases yes with
  |true=>exact⟨b,_,rfl,trivial,rfl,rfl,h⟩
  |false=>exact⟨.c .bool false,_,rfl,trivial,rfl,rfl,h⟩
 ·cases yes with
  |true=>exact⟨b,_,rfl,trivial,rfl,rfl,h⟩
  |false=>exact⟨.c .bool true,_,rfl,trivial,rfl,rfl,h⟩
 ·cases h
theorem aei {op:BinOp} {t:TypeId} {x:DV X} (h:akn T op t x k=some r):∃ dv out,adU T op t (den x) .nilsl=some out∧jl out.obs∧out.v=den dv∧out.upd=[]∧k dv [] [] []=some r:=by
 unfold akn at h;rw[ax]at h;obtain⟨ti,h1,h⟩:=h;split at h
 ·rename_i e c l hk;obtain⟨dv,out,g1,g2⟩:=Oz h;refine⟨dv,out,?_,g2⟩;simp only[adU,h1,ah,hk,den,CT.tv,TV.av];rw[<- g1];congr 1;cases l<;>rfl
 ·rename_i e kk off len hk;obtain⟨dv,out,g1,g2⟩:=Oz h;exact⟨dv,out,by simp only[adU,h1,ah,hk,den];exact g1,g2⟩
 ·rename_i e hk;obtain⟨dv,out,g1,g2⟩:=Oz h;exact⟨dv,out,by simp only[adU,h1,ah,hk,den];exact g1,g2⟩
 ·cases h
theorem aej {s:ByteArray} {n b:Int} (h:XE s n=some b):0<=n∧∃ c,s[n.toNat]? =some c∧b=c.toNat:=by
 unfold XE at h;by_cases hn:0<=n
 ·simp only[hn,decide_true,au,fB]at h;obtain⟨c,h1,h2⟩:=h;exact⟨hn,c,h1,h2.symm⟩
 ·simp[hn]at h
theorem XH {m:Int} {bytes:Nat} (h:Ri m bytes=true):0<=m∧m.toNat*bytes<=140737488355328∧m.toNat<=maxLen:=by simpa[Ri,and_assoc]using h
theorem Rk {b:Builtin} {args:List (DV X)} {tys:List TypeId} (h:Ox T code i b args tys get k=some r):
 ∃ rd wr dv upd out,uT T i b (cK args) tys (fq rd (gP get))=some out∧jl out.obs∧out.v=den dv∧out.upd=jm upd∧(∀ p∈upd,p.1=nid i∨p.1∈wr)∧k dv upd rd wr=some r:=by
 unfold Ox at h;split at h
 ·rename_i t;rw[ax]at h;obtain⟨ti,h1,h⟩:=h;split at h
  ·rename_i e hk;refine⟨[],[],_,[],⟨.t (.sc (.int .i64 0)),[],[]⟩,?_,trivial,rfl,rfl,by simp,h⟩;simp only[uT,cK,den,h1,ah,hk];rfl
  ·cases h
 ·rename_i kk off len t;rw[ax]at h;obtain⟨ti,h1,h⟩:=h;split at h
  ·rename_i e hk;rw[ax]at h;obtain⟨ei,h2,h⟩:=h;rw[ax]at h;obtain⟨o,h3,h⟩:=h;split at h
   ·rename_i c l;split at h
    ·rename_i hs;refine⟨[kk],[kk],_,_,⟨.tup [],[(kk,some ⟨CT.sz X c,(aW (l.map (CT.row X.toSE c))).take off⟩)],[]⟩,?_,trivial,rfl,?_,by simp,h⟩
     ·simp only[uT,cK,den,h1,ah,hk,h2,iy (List.mem_singleton_self kk) h3,dM];rw[aJ hs]
     ·simp[jm,dM,aW,map_take]
    ·cases h
   ·cases h
  ·cases h
 ·rename_i kd m t u;rw[ax]at h;obtain⟨ti,h1,h⟩:=h;rw[ax]at h;obtain⟨ui,h2,h⟩:=h;split at h
  ·rename_i e kn hk hk';rw[ax]at h;obtain⟨ei,h3,h⟩:=h;rw[ax]at h;obtain⟨c,h4,h⟩:=h;split at h
   ·rename_i hs;rw[ax]at h;obtain⟨z,h5,h⟩:=h;obtain⟨h6,h⟩:=fH h;obtain⟨m1,m2,m3⟩:=XH h6;have hz:=CV h5;rw[Gs]at hz;refine⟨[],[],_,_,⟨.own (nid i) 0 m.toNat,[(nid i,some ⟨ei.size,eU (List.replicate m.toNat (ei.zero.map cv))⟩)],[0<=m∧m.toNat*ei.bytes<=140737488355328∧m.toNat<=maxLen∧0 < ei.size]⟩,?_,?_,rfl,?_,by simp,h⟩
    ·simp only[uT,cK,den,CT.tv,TV.av,h1,h2,h3,ah,hk,hk']
    ·exact⟨m1,m2,m3,hs.2⟩
    ·simp only[jm,bf,map_nil,Option.map_some,dM,hs.1,aW,eU,List.map_replicate];rw[hz]
   ·cases h
  ·cases h
 ·cases h
theorem abx {t:TypeId} {l c:DV X} (h:ah6 T code i t l c k=some r):∃ dv upd out,aa6 T i t (den l) (den c)=some out∧jl out.obs∧out.v=den dv∧out.upd=jm upd∧(∀ p∈upd,p.1=nid i)∧k dv upd [] []=some r:=by
 unfold ah6 at h;rw[ax]at h;obtain⟨ti,h1,h⟩:=h;split at h
 ·rename_i e kl n kc m hk;rw[ax]at h;obtain⟨ei,h3,h⟩:=h;rw[ax]at h;obtain⟨c,h4,h⟩:=h;split at h
  ·rename_i hs;rw[ax]at h;obtain⟨z,h5,h⟩:=h;obtain⟨h6,h⟩:=fH h;simp only[aK,aM]at h6;obtain⟨h7,h8,h9⟩:=h6;obtain⟨m1,m2,m3⟩:=XH h9;have hz:=CV h5;rw[Gs]at hz;refine⟨_,_,⟨.own (nid i) 0 n.toNat,[(nid i,some ⟨ei.size,eU (List.replicate n.toNat (ei.zero.map cv))⟩)],[0<=n∧n<=m∧m.toNat*ei.bytes<=140737488355328∧m.toNat<=maxLen∧0 < ei.size]⟩,?_,?_,rfl,?_,by simp,h⟩
   ·simp only[aa6,den,CT.tv,TV.av,h1,h3,ah,hk]
   ·exact⟨h8,h7,m2,m3,hs.2⟩
   ·simp only[jm,bf,map_nil,Option.map_some,dM,hs.1,aW,eU,List.map_replicate];rw[hz]
  ·cases h
 ·cases h
theorem aek (h:ako T code i o.op ρ get k=some r):SdAny P T i o ρ get k r:=by
 obtain⟨dst,op,ty,pos,after,guard⟩:=o;unfold ako at h;simp only at h;split at h
 ·rename_i op t x y q;split at h
  ·rename_i hn;obtain⟨dv,out,g1,g2,g3,g4,g5⟩:=aei h;have hy:den (ρ y)= .nilsl:=(by cases hρ:ρ y<;>rw[hρ]at hn<;>first |rfl |cases hn);exact SdAny.ext (n:=0) (rd:=[]) (wr:=[]) (upd:=[]) (by simp only[uU,hy];exact g1) g2 g3 g4 (by simp) g5
  ·cases h
 ·rename_i s d x;unfold aj4 at h;rw[ax]at h;obtain⟨si,h1,h⟩:=h;rw[ax]at h;obtain⟨di,h2,h⟩:=h;split at h
  ·rename_i kd k' n hk hx;refine SdAny.ext (n:=0) (rd:=[]) (wr:=[]) (upd:=[]) (out:=⟨.t (.sc (.int kd (kd.wrap n))),[],[]⟩) ?_ trivial rfl rfl (by simp) h;simp only[uU,af4,h1,h2,ah,hk,hx];rfl
  ·cases h
 ·rename_i t x j;unfold ah5 at h;rw[ax]at h;obtain⟨ti,h1,h⟩:=h;split at h
  ·rename_i s kk n hk hx hj;rw[ax]at h;obtain⟨b,h2,h⟩:=h;refine SdAny.ext (n:=b) (rd:=[]) (wr:=[]) (upd:=[]) (out:=⟨.t (.sc (.int .u8 b)),[],[0<=n∧∃ c,s[n.toNat]? =some c∧b=c.toNat]⟩) ?_ (aej h2) rfl rfl (by simp) h;simp only[uU,YN,h1,ah,hk,hx,hj];rfl
  ·cases h
 ·rename_i t x lo hi;unfold XF at h;rw[ax]at h;obtain⟨ti,h1,h⟩:=h;split at h
  ·rename_i e hk hx;rw[ax]at h;obtain⟨ei,h2,h⟩:=h;rw[ax]at h;obtain⟨l,h3,h⟩:=h;rw[ax]at h;obtain⟨hh,h4,h⟩:=h;obtain⟨h5,h⟩:=fH h;refine SdAny.ext (n:=0) (rd:=[]) (wr:=[]) (upd:=[]) (out:=⟨.nilsl,[],[l=0∧hh=0]⟩) ?_ (show l=0∧hh=0 by simpa using h5) rfl rfl (by simp) h;have e1:=CW h3;have e2:=CW h4;rw[Option.map_map]at e1 e2;simp only[uU,IY,h1,ah,hk,hx,h2,den];have e1':bnd 0 (lo.map fun x=>den (ρ x))=some l:=e1;have e2':bnd 0 (hi.map fun x=>den (ρ x))=some hh:=e2;rw[e1',ah,e2'];rfl
  ·cases h
 ·rename_i x;obtain⟨dv,g1,g2⟩:=Rj h;exact SdAny.ext2 (n:=0) (rd:=[]) (wr:=[]) (upd:=[]) g1 trivial rfl rfl (by simp) g2
 ·rename_i t l c;obtain⟨dv,upd,out,g1,g2,g3,g4,g5,g6⟩:=abx h;exact SdAny.ext2 (n:=0) (rd:=[]) (wr:=[]) (upd:=upd) g1 g2 g3 g4 (fun p hp=> .inl (g5 p hp)) g6
 ·rename_i b args tys;obtain⟨rd,wr,dv,upd,out,g1,g2,g3,g4,g5,g6⟩:=Rk h;refine SdAny.ext (n:=0) (rd:=rd) (wr:=wr) (upd:=upd) ?_ g2 g3 g4 g5 g6;simp only[uU,Sq];exact g1
 ·cases h
theorem aby {c:CT X.ι}:∀ {xs:List Operand} {x:Operand} {y:CT.T X.toSE c×List Bool},x∈xs->FL get (ρ x) c=some y->∀ j∈drefs (ρ x),j∈abv get c ρ xs
 |z::xs,x,y,hx,h,j,hj=>by
  simp only[abv,aX];rcases aI.1 hx with rfl |hx
  ·left;rw[h];exact hj
  ·exact .inr (aby hx h j hj)
 |[],_,_,hx,_,_,_=>by simp at hx
theorem abz {c:CT X.ι}:∀ {xs:List Operand} {x:Operand} {y:CT.T X.toSE c×List Bool},x∈xs->FL get (ρ x) c=some y->∀ b∈y.2,b∈ajp get c ρ xs
 |z::xs,x,y,hx,h,b,hb=>by
  simp only[ajp,aX];rcases aI.1 hx with rfl |hx
  ·left;rw[h];exact hb
  ·exact .inr (abz hx h b hb)
 |[],_,_,hx,_,_,_=>by simp at hx
theorem ael (h:akp T code i o.op ρ get k=some r):SdAny P T i o ρ get k r:=by
 unfold akp at h;split at h
 ·cases h
 rename_i hpick;rw[ax]at h;obtain⟨c,h1,h⟩:=h;obtain⟨hcs,h⟩:=rO h;obtain⟨orc,rd,wr,dv,upd,out,g1,g2,g3,g4,g5,g6⟩:=XA h;generalize hids:abv get c ρ o.op.operands.toList=ids at*;refine⟨.frz ids (fun x=>den (ah7 get c ρ x)) orc,rd++ids,wr++ids,dv,upd++LU ids,⟨out.v,out.upd++ids.map (fun k=>(k,none)),out.obs++[∀ x∈o.op.operands,(Bor P (fq (rd++ids) (gP get)) (den (ρ x)) (den (ah7 get c ρ x))∧∀ k∈refs (den (ρ x)),k∈ids)∨den (ah7 get c ρ x)=den (ρ x)]⟩,?_,?_,g3,?_,?_,g6⟩
 ·unfold jo Gp;simp only;rw[aD hpick];have e:(fun k=>if k∈ids then none else fq (rd++ids) (gP get) k)=fq rd (gP fun j=>if j∈ids then none else get j):=by
   funext j;simp only[fq,gP,aX];by_cases hj:j∈ids
   ·simp[hj]
   ·simp[hj]
  rw[e,g1];rfl
 ·refine sF _ fun p hp=>?_;rcases aX.1 hp with hp |hp
  ·exact sD _ g2 p hp
  ·rw[aO]at hp;subst hp;intro x hx;unfold ah7;cases hl:FL get (ρ x) c with
   |none=>exact .inr rfl
   |some y=>
    left;have hx':x∈o.op.operands.toList:=(by simpa using hx);have hin:∀ j∈drefs (ρ x),j∈ids:=fun j hj=>hids ▸ aby hx' hl j hj;obtain⟨hs,obs,p1,p2⟩:=Bd (P:=P) (rd:=rd++ids) hl (fun b hb=>hcs b (abz hx' hl b hb)) (fun j hj=>List.mem_append_right _ (hin j hj));refine⟨?_,fun j hj=>hin j (by rwa [iZ]at hj)⟩;have:=p2 [];exact Kl _ _ _ this p1
 ·simp only[Be,I6,g4]
 ·intro p hp;rcases aX.1 hp with hp |hp
  ·exact (g5 p hp).imp id (fun h=>List.mem_append_left _ h)
  ·exact .inr (List.mem_append_right _ (I7 hp))
theorem abA {c:CT X.ι}:∀ {ds:List (DV X)} {xs:List (CT.T X.toSE c)},CY c ds=some xs->cK ds=xs.map fun y=>den (.c c y:DV X)
 |[],xs,h=>by simp only[CY,aG]at h;subst h;rfl
 | .c a x::ds,xs,h=>by
  simp only[CY]at h;rw[ax]at h;obtain⟨y,h1,h⟩:=h;rw[ax]at h;obtain⟨l,h2,h⟩:=h;injection h with h;subst h;simp only[cK,bf,abA h2,(oQ h1).1]
 | .agg _::_,_,h=>by simp[CY]at h
 | .tup _::_,_,h=>by simp[CY]at h
 | .own _ _ _::_,_,h=>by simp[CY]at h
 | .ptr _ _ _::_,_,h=>by simp[CY]at h
 | .ptl _ _ _::_,_,h=>by simp[CY]at h
 | .mp _::_,_,h=>by simp[CY]at h
 | .pta _ _ _ _ _::_,_,h=>by simp[CY]at h
 | .rp _ _ _::_,_,h=>by simp[CY]at h
 | .fn _ _ _::_,_,h=>by simp[CY]at h
 | .clo _ _ _::_,_,h=>by simp[CY]at h
 | .raw _::_,_,h=>by simp[CY]at h
 | .nil::_,_,h=>by simp[CY]at h
 | .ub::_,_,h=>by simp[CY]at h
 | .skip::_,_,h=>by simp[CY]at h
 | .undef::_,_,h=>by simp[CY]at h
theorem aem (h:akq T code o.op ρ get k=some r):SdAny P T i o ρ get k r:=by
 obtain⟨dst,op,ty,pos,after,guard⟩:=o;unfold akq at h;simp only at h;split at h
 ·rename_i t x j;rw[ax]at h;obtain⟨ti,h1,h⟩:=h;split at h
  ·rename_i m e kk row off kd n hk hx hj;rw[ax]at h;obtain⟨ei,h2,h⟩:=h;split at h
   ·rename_i hs;obtain⟨h3,h⟩:=fH h;refine SdAny.op (orc:= .none) (rd:=[]) (wr:=[]) (upd:=[]) (fun _ _ _ e=>by cases e) (out:=⟨.ptr kk row (off+n.toNat*1),[],[0<=n∧n.toNat < m]⟩) ?_ ⟨?_,?_,rfl,by simp,h⟩
    ·simp only[rM,mD,h1,ah,hk,hx,hj,den,CT.tv,TV.av,h2,hs];rfl
    ·simp only[inb,aK,aM]at h3;exact⟨h3.1,by omega⟩
    ·simp only[den,Nat.mul_one]
   ·cases h
  ·cases h
 ·rename_i t a;rw[ax]at h;obtain⟨ti,h1,h⟩:=h;split at h
  ·rename_i kk row off m n hx;split at h
   ·rename_i hs;rw[ax]at h;obtain⟨c,h2,h⟩:=h;split at h
    ·rename_i hc;rw[ax]at h;obtain⟨ob,h3,h⟩:=h;split at h
     ·rename_i sz rows;rw[ax]at h;obtain⟨q,h4,h⟩:=h;rw[ax]at h;obtain⟨xs,h5,h⟩:=h;rw[ax]at h;obtain⟨y,h6,h⟩:=h;obtain⟨_,h7⟩:=Sn h6;have h8:=abA h5;have h9:((cK q).drop (off+n.toNat)).take 1=[den (.c c y:DV X)]:=by
       have e1:(cK ((q.drop off).take m))[n.toNat]? =some (den (.c c y:DV X)):=(by rw[h8,List.getElem?_map,h7];rfl);rw[oC,List.getElem?_take]at e1;split at e1
       ·rw[List.getElem?_drop]at e1;obtain⟨g1,g2⟩:=gH.1 e1;rw[List.drop_eq_getElem_cons g1,List.take_succ_cons,List.take_zero,g2]
       ·cases e1
      refine SdAny.op (orc:= .none) (rd:=[kk]) (wr:=[]) (upd:=[]) (fun _ _ _ e=>by cases e) (out:=⟨den (.c c y:DV X),[],[]⟩) ?_ ⟨trivial,rfl,rfl,by simp,h⟩;simp only[rM,JV,h1,ah,hx,den,iy (List.mem_singleton_self kk) h3,dM,List.getElem?_map,h4,Option.map_some,hs.1,hs.2];rw[h9];obtain⟨t',g1,g2⟩:=row_one hc y;simp only[den,g2,TV.av];rfl
     ·cases h
    ·cases h
   ·cases h
  ·cases h
 ·cases h
end
end
section
variable {X:SX}
structure MA (X:SX) where
 nm:List (Nat×Nat)
 dcs:List (DC X)
 chk:List Bool
def addN (m:MA X) (k' k:Nat):MA X:=if m.nm.contains (k',k)then m else⟨m.nm++[(k',k)],m.dcs,m.chk⟩
section
variable (get:Nat->Option (DObj X))
mutual
def mP:Pt X.ι->DV X->MA X->Option (MA X)
 | .v c,d,m=>(dat d c).bind fun x=>some ⟨m.nm,m.dcs++[⟨c,x⟩],m.chk⟩
 | .o k,d,m=>match d with
  | .own k' 0 len=>(get k').bind fun o=>match o with
   | .lst _ l=>some (addN ⟨m.nm,m.dcs,m.chk++[eqL len l.length]⟩ k' k)
   |_=>none
  |_=>none
 | .p k,d,m=>match d with
  | .ptr k' 0 0=>some (addN m k' k)
  |_=>none
 | .mp k,d,m=>match d with
  | .mp k'=>some (addN m k' k)
  |_=>none
 | .nil,d,m=>match d with
  | .nil=>some m
  |_=>none
 | .f F fs cs,d,m=>match d with
  | .fn F' first caps=>if F=F' then (mPs fs first m).bind fun m=>mPs cs caps m else none
  |_=>none
 | .od k,d,m=>match d with
  | .own k' off len=>(get k').bind fun o=>match o with
   | .lst _ l=>some (addN ⟨m.nm,m.dcs++[⟨.int .i64,(off:Int)⟩],m.chk++[eqL (off+len) l.length]⟩ k' k)
   |_=>none
  |_=>none
 | .a ps,d,m=>match d with
  | .agg ds=>mPs ps ds m
  |_=>none
def mPs:List (Pt X.ι)->List (DV X)->MA X->Option (MA X)
 |[],[],m=>some m
 |p::ps,d::ds,m=>(mP p d m).bind fun m=>mPs ps ds m
 |_,_,_=>none
end
def Gx (env:Nat->DV X):List (Nat×Pt X.ι)->MA X->Option (MA X)
 |[],m=>some m
 |(t,p)::r,m=>(mP get p (env t) m).bind fun m=>Gx env r m
def FM:List (List (Pt X.ι))->List (List (DV X))->MA X->Option (MA X)
 |[],[],m=>some m
 |r::rs,q::qs,m=>(mPs get r q m).bind fun m=>FM rs qs m
 |_,_,_=>none
def nameOf (m:MA X) (k:Nat):Nat:=match m.nm.find? (fun q=>q.2==k)with |some q=>q.1 |none=>k
def CZ:List (Nat×OP X.ι)->MA X->Option (MA X)
 |[],m=>some m
 |(k,op)::r,m=>(get (nameOf m k)).bind fun o=>match op,o with
  | .l c,.lst c' l=>(kV (.sl c') (.sl c) l).bind fun l'=>CZ r (addN ⟨m.nm,m.dcs++[⟨.sl c,l'⟩],m.chk⟩ (nameOf m k) k)
  | .m kc vc,.map kc' vc' l=>(kV (.mp kc' vc') (.mp kc vc) l).bind fun l'=>CZ r (addN ⟨m.nm,m.dcs++[⟨.mp kc vc,l'⟩],m.chk⟩ (nameOf m k) k)
  | .c sz rows,.cells sz' rows'=>if sz=sz' then (FM get rows rows' (addN m (nameOf m k) k)).bind fun m=>CZ r m else none
  |_,_=>none
end
end
section
variable {X:SX} {A:Type}
mutual
def rnD (f:Nat->Nat):DV X->DV X
 | .own k off len=> .own (f k) off len
 | .ptr k row off=> .ptr (f k) row off
 | .ptl k n off=> .ptl (f k) n off
 | .pta k row off m n=> .pta (f k) row off m n
 | .mp k=> .mp (f k)
 | .agg cs=> .agg (JF f cs)
 | .tup cs=> .tup (JF f cs)
 | .fn F first caps=> .fn F (JF f first) (JF f caps)
 |x=>x
def JF (f:Nat->Nat):List (DV X)->List (DV X)
 |[]=>[]
 |x::xs=>rnD f x::JF f xs
end
theorem ah9 (f:Nat->Nat):∀ l:List Tree,uG f (l.map AV.t)=l.map AV.t
 |[]=>rfl
 |x::xs=>by simp only[bf,uG,rnA,ah9 f xs]
mutual
theorem Ez (f:Nat->Nat):∀ x:DV X,den (rnD f x)=rnA f (den x)
 | .own _ _ _=>rfl
 | .ptr _ _ _=>rfl
 | .ptl _ _ _=>rfl
 | .mp _=>rfl
 | .pta _ _ _ _ _=>rfl
 | .agg cs=>by simp only[rnD,den,rnA,Gy f cs]
 | .tup cs=>by simp only[rnD,den,rnA,Gy f cs]
 | .fn F first caps=>by simp only[rnD,den,rnA,Gy f first,Gy f caps]
 | .c t x=>by
  simp only[rnD,den];cases t<;>try rfl
  simp only[CT.tv,TV.av,rnA,ah9]
 | .rp _ _ _=>rfl
 | .clo _ _ _=>rfl
 | .raw v=>by
  simp only[rnD,den,cv];split
  ·rfl
  ·split<;>rfl
 | .nil=>rfl
 | .ub=>rfl
 | .skip=>rfl
 | .undef=>rfl
theorem Gy (f:Nat->Nat):∀ l:List (DV X),cK (JF f l)=uG f (cK l)
 |[]=>rfl
 |x::xs=>by simp only[JF,cK,uG,Ez f x,Gy f xs]
end
def rnO (f:Nat->Nat):DObj X->DObj X
 | .cells sz rows=> .cells sz (rows.map (JF f))
 |o=>o
def orefs:DObj X->List Nat
 | .cells _ rows=>(rows.map bn).flatten
 | .lst _ _=>[]
 | .map _ _ _=>[]
def agd:CT X.ι->Bool
 | .int _ | .bool | .str=>true
 |_=>false
def C8:CT X.ι->Bool
 | .st i=>(X.tys i).all agd
 |c=>agd c
theorem EA {c:CT X.ι} (h:agd c=true) (x:CT.T X.toSE c):∀ t∈CT.row X.toSE c x,t.flat:=by cases c<;>first |(intro t ht;simp only[CT.row,aO]at ht;subst ht;exact trivial) |cases h
theorem agf:∀ (l:List (CT X.ι)) (h:HL X.toSE l),l.all agd=true->∀ t∈HL.row X.toSE l h,t.flat
 |[],_,_,t,ht=>by simp[HL.row]at ht
 |c::l,h,ha,t,ht=>by
  simp only[all_cons,aK]at ha;rcases aX.1 (show t∈CT.row X.toSE c h.1++HL.row X.toSE l h.2 from ht)with ht |ht
  ·exact EA ha.1 h.1 t ht
  ·exact agf l h.2 ha.2 t ht
theorem zC {c:CT X.ι} (h:C8 c=true) (x:CT.T X.toSE c):∀ t∈CT.row X.toSE c x,t.flat:=by
 cases c
 case st i=>intro t ht;exact agf (X.tys i) (X.get i x) h t ((X.row_get i x) ▸ ht)
 case int k=>exact EA (c:= .int k) h x
 case bool=>exact EA (c:= .bool) h x
 case str=>exact EA (c:= .str) h x
 case sl e=>cases h
 case any=>cases h
 case mp=>cases h
structure MG (X:SX) where
 nm:List (Nat×Nat)
 dcs:List (DC X)
 chk:List Bool
 vr:List Nat
section
variable (get:Nat->Option (DObj X))
mutual
def gA1:Pt X.ι->DV X->MG X->Option (MG X)
 | .v c,d,m=>(FL get d c).bind fun x=>some ⟨m.nm,m.dcs++[⟨c,x.1⟩],m.chk++x.2,m.vr++drefs d⟩
 | .o k,d,m=>match d with
  | .own k' 0 len=>(get k').bind fun o=>match o with
   | .lst _ l=>some ⟨m.nm++[(k',k)],m.dcs,m.chk++[eqL len l.length],m.vr⟩
   |_=>none
  |_=>none
 | .od k,d,m=>match d with
  | .own k' off len=>(get k').bind fun o=>match o with
   | .lst _ l=>some ⟨m.nm++[(k',k)],m.dcs++[⟨.int .i64,(off:Int)⟩],m.chk++[eqL (off+len) l.length],m.vr⟩
   |_=>none
  |_=>none
 | .p k,d,m=>match d with
  | .ptr k' 0 0=>some ⟨m.nm++[(k',k)],m.dcs,m.chk,m.vr⟩
  |_=>none
 | .nil,d,m=>match d with
  | .nil=>some m
  |_=>none
 | .f F fs cs,d,m=>match d with
  | .fn F' first caps=>if F=F' then (gAs fs first m).bind fun m=>gAs cs caps m else none
  |_=>none
 | .mp _,_,_=>none
 | .a _,_,_=>none
def gAs:List (Pt X.ι)->List (DV X)->MG X->Option (MG X)
 |[],[],m=>some m
 |p::ps,d::ds,m=>(gA1 p d m).bind fun m=>gAs ps ds m
 |_,_,_=>none
end
end
mutual
def Pt.refs:Pt X.ι->List Nat
 | .o k | .od k | .p k | .mp k=>[k]
 | .f _ fs cs=>Gz fs++Gz cs
 | .a ps=>Gz ps
 |_=>[]
def Gz:List (Pt X.ι)->List Nat
 |[]=>[]
 |p::ps=>p.refs++Gz ps
end
def OP.refs:OP X.ι->List Nat
 | .l _=>[]
 | .m _ _=>[]
 | .c _ rows=>rows.flatMap Gz
def nmB (n k:Nat):Bool:=Nat.blt k n || (Nat.ble 1000 k&&Nat.blt k 1064)
def GSig.ok (g:GSig X):Bool:=
 decide (g.inO.map (·.1)=List.range g.inO.length)&&decide (g.inO.length<=1000)&&(g.outO.all fun q=>nmB g.inO.length q.1&&q.2.refs.all fun k=>nmB g.inO.length k)&&decide (g.outO.map (·.1)).Nodup&&(Gz g.outP).all fun k=>nmB g.inO.length k
def GSig.flat (g:GSig X):Bool:=(varsL g.outP).all C8&&g.outO.all fun q=>match q.2 with
 | .l c=>C8 c
 | .m _ _=>false
 | .c _ rows=>(TI rows).all C8
section
variable {P:Program} {get:Nat->Option (DObj X)} {rd ids:List Nat} {olen:Nat->Nat}
def MonoG (m m':MG X):Prop:=(∀ q∈m.nm,q∈m'.nm)∧(∀ c∈m.chk,c∈m'.chk)∧∀ k∈m.vr,k∈m'.vr
theorem MonoG.refl (m:MG X):MonoG m m:=⟨fun _ h=>h,fun _ h=>h,fun _ h=>h⟩
theorem MonoG.trans {a b c:MG X} (h:MonoG a b) (h':MonoG b c):MonoG a c:=⟨fun q hq=>h'.1 q (h.1 q hq),fun q hq=>h'.2.1 q (h.2.1 q hq),fun q hq=>h'.2.2 q (h.2.2 q hq)⟩
mutual
theorem aia:∀ (p:Pt X.ι) (d:DV X) (m m':MG X),gA1 get p d m=some m'->MonoG m m'∧∃ new,m'.dcs=m.dcs++new∧new.length=p.vars.length
 | .v c,d,m,m',h=>by
  simp only[gA1]at h;rw[ax]at h;obtain⟨x,h1,h⟩:=h;injection h with h;subst h;exact⟨⟨fun _ h=>h,fun _ h=>by simp[h],fun _ h=>by simp[h]⟩,[⟨c,x.1⟩],rfl,rfl⟩
 | .o k,d,m,m',h=>by
  simp only[gA1]at h;split at h
  ·rw[ax]at h;obtain⟨o,h1,h⟩:=h;split at h
   ·injection h with h;subst h;exact⟨⟨fun _ h=>by simp[h],fun _ h=>by simp[h],fun _ h=>h⟩,[],by simp,rfl⟩
   ·cases h
  ·cases h
 | .od k,d,m,m',h=>by
  simp only[gA1]at h;split at h
  ·rename_i k' off len;rw[ax]at h;obtain⟨o,h1,h⟩:=h;split at h
   ·injection h with h;subst h;exact⟨⟨fun _ h=>by simp[h],fun _ h=>by simp[h],fun _ h=>h⟩,[⟨.int .i64,(off:Int)⟩],rfl,rfl⟩
   ·cases h
  ·cases h
 | .p k,d,m,m',h=>by
  simp only[gA1]at h;split at h
  ·injection h with h;subst h;exact⟨⟨fun _ h=>by simp[h],fun _ h=>h,fun _ h=>h⟩,[],by simp,rfl⟩
  ·cases h
 | .nil,d,m,m',h=>by
  simp only[gA1]at h;split at h
  ·injection h with h;subst h;exact⟨MonoG.refl _,[],by simp,rfl⟩
  ·cases h
 | .f F fs cs,d,m,m',h=>by
  simp only[gA1]at h;split at h
  ·split at h
   ·rw[ax]at h;obtain⟨m1,h1,h⟩:=h;obtain⟨a1,n1,b1,c1⟩:=GA fs _ m m1 h1;obtain⟨a2,n2,b2,c2⟩:=GA cs _ m1 m' h;exact⟨a1.trans a2,n1++n2,by rw[b2,b1,aQ],by simp[Pt.vars,c1,c2]⟩
   ·cases h
  ·cases h
 | .mp _,d,m,m',h=>by simp[gA1]at h
 | .a ps,d,m,m',h=>by simp[gA1]at h
theorem GA:∀ (ps:List (Pt X.ι)) (ds:List (DV X)) (m m':MG X),gAs get ps ds m=some m'->MonoG m m'∧∃ new,m'.dcs=m.dcs++new∧new.length=(varsL ps).length
 |[],[],m,m',h=>by
  simp only[gAs,aG]at h;subst h;exact⟨MonoG.refl _,[],by simp,rfl⟩
 |p::ps,d::ds,m,m',h=>by
  simp only[gAs]at h;rw[ax]at h;obtain⟨m1,h1,h⟩:=h;obtain⟨a1,n1,b1,c1⟩:=aia p d m m1 h1;obtain⟨a2,n2,b2,c2⟩:=GA ps ds m1 m' h;exact⟨a1.trans a2,n1++n2,by rw[b2,b1,aQ],by simp[varsL,c1,c2]⟩
 |[],_::_,m,m',h=>by simp[gAs]at h
 |_::_,[],m,m',h=>by simp[gAs]at h
end
theorem y9 {get':Nat->Option bA} {x:AV} {hs:List LH} {p:AV×List LH×List Prop} (h:oo P get' x hs=some p) (hr:∀ k∈refs x,k∉ids):xD P get' ids x hs=some p:=by
 unfold xD;split
 ·simp[oo]at h
 ·simp[oo]at h
 ·simp[oo]at h
 ·rw[aJ]
  ·exact h
  ·simp only[all_eq_true,Bool.not_eq_true',List.contains_eq_mem,bU];exact hr
variable {NM:List (Nat×Nat)} {VRS:List Nat}
mutual
theorem agR (hi:∀ q∈NM,ids[q.2]? =some q.1) (hv:∀ k∈VRS,k∉ids) (hrd:∀ k,(∃ q,(k,q)∈NM)∨k∈VRS->k∈rd) (ho:∀ q∈NM,∀ c l,get q.1=some (.lst c l)->olen q.2=l.length):
 ∀ (p:Pt X.ι) (d:DV X) (m m':MG X),gA1 get p d m=some m'->(∀ q∈m'.nm,q∈NM)->(∀ c∈m'.chk,c=true)->(∀ k∈m'.vr,k∈VRS)->
 ∃ new,m'.dcs=m.dcs++new∧∃ d',(∀ rest,eP olen p (new++rest)=(d',rest))∧(∃ hs obs,(∀ p∈obs,p)∧∀ rest,xD P (fq rd (gP get)) ids (den d) (hs++rest)=some (den d',rest,obs))∧∀ j∈drefs d,(∃ q,(j,q)∈NM)∨j∈VRS
 | .v c,d,m,m',h,hn,hc,hr=>by
  simp only[gA1]at h;rw[ax]at h;obtain⟨x,h1,h⟩:=h;injection h with h;subst h;have hvr:∀ j∈drefs d,j∈VRS:=fun j hj=>hr j (by simp[hj]);obtain⟨hs,obs,p1,q1⟩:=Bd (P:=P) (rd:=rd) h1 (fun b hb=>hc b (by simp[hb])) (fun j hj=>hrd j (.inr (hvr j hj)));refine⟨[⟨c,x.1⟩],rfl,.c c x.1,fun rest=>rfl,⟨hs,obs,p1,fun rest=>?_⟩,fun j hj=> .inr (hvr j hj)⟩;exact y9 (q1 rest) (fun k hk=>hv k (hvr k (by rwa [iZ]at hk)))
 | .o k,d,m,m',h,hn,hc,hr=>by
  simp only[gA1]at h;split at h
  ·rename_i k' len;rw[ax]at h;obtain⟨o,h1,h⟩:=h;split at h
   ·rename_i c l;injection h with h;subst h;have hq:(k',k)∈NM:=hn _ (by simp);have he:len=l.length:=by
     have:=hc (eqL len l.length) (by simp);simpa[eqL]using this
    refine⟨[],by simp,.own k 0 (olen k),fun rest=>rfl,⟨[.mut k],[],by simp,fun rest=>?_⟩,fun j hj=>?_⟩
    ·simp only[den,cons_append,cu,xD,hi _ hq,if_true,ho _ hq c l h1,he]
    ·simp only[drefs,aO]at hj;subst hj;exact .inl ⟨k,hq⟩
   ·cases h
  ·cases h
 | .od k,d,m,m',h,hn,hc,hr=>by
  simp only[gA1]at h;split at h
  ·rename_i k' off len;rw[ax]at h;obtain⟨o,h1,h⟩:=h;split at h
   ·rename_i c l;injection h with h;subst h;have hq:(k',k)∈NM:=hn _ (by simp);have he:off+len=l.length:=by
     have:=hc (eqL (off+len) l.length) (by simp);simpa[eqL]using this
    refine⟨[⟨.int .i64,(off:Int)⟩],rfl,.own k off (olen k - off),fun rest=>?_,⟨[.mut k],[],by simp,fun rest=>?_⟩,fun j hj=>?_⟩
    ·have:XB (X:=X) ⟨.int .i64,(off:Int)⟩=off:=by
      simp only[XB];rw[TK];simp
     simp only[eP,cons_append,cu,this]
    ·simp only[den,cons_append,cu,xD,hi _ hq,if_true,ho _ hq c l h1,show l.length - off=len by omega]
    ·simp only[drefs,aO]at hj;subst hj;exact .inl ⟨k,hq⟩
   ·cases h
  ·cases h
 | .p k,d,m,m',h,hn,hc,hr=>by
  simp only[gA1]at h;split at h
  ·rename_i k';injection h with h;subst h;have hq:(k',k)∈NM:=hn _ (by simp);refine⟨[],by simp,.ptr k 0 0,fun rest=>rfl,⟨[.mut k],[],by simp,fun rest=>?_⟩,fun j hj=>?_⟩
   ·simp only[den,cons_append,cu,xD,hi _ hq,if_true]
   ·simp only[drefs,aO]at hj;subst hj;exact .inl ⟨k,hq⟩
  ·cases h
 | .nil,d,m,m',h,hn,hc,hr=>by
  simp only[gA1]at h;split at h
  ·injection h with h;subst h;refine⟨[],by simp,.nil,fun rest=>rfl,⟨[.nil],[],by simp,fun rest=>?_⟩,by simp[drefs]⟩;exact y9 (by simp only[den,cons_append,cu,oo]) (by simp[den,refs])
  ·cases h
 | .f F fs cs,d,m,m',h,hn,hc,hr=>by
  simp only[gA1]at h;split at h
  ·rename_i F' first caps
   split at h
   ·rename_i e;subst e;rw[ax]at h;obtain⟨m1,h1,h⟩:=h;have hm:=(GA cs _ m1 m' h).1;obtain⟨n1,a1,f',b1,⟨hs1,o1,p1,q1⟩,r1⟩:=OA hi hv hrd ho fs _ m m1 h1 (fun q hq=>hn q (hm.1 q hq)) (fun q hq=>hc q (hm.2.1 q hq)) (fun q hq=>hr q (hm.2.2 q hq));obtain⟨n2,a2,c',b2,⟨hs2,o2,p2,q2⟩,r2⟩:=OA hi hv hrd ho cs _ m1 m' h hn hc hr;refine⟨n1++n2,by rw[a2,a1,aQ],.fn F f' c',fun rest=>by simp only[eP,aQ,b1,b2],⟨.fnw::(hs1++hs2),o1++o2,jr p1 p2,fun rest=>?_⟩,fun j hj=>?_⟩
    ·simp only[den,cons_append,aQ,xD,q1,ah,q2]
    ·simp only[drefs,aX]at hj;exact hj.elim (r1 j) (r2 j)
   ·cases h
  ·cases h
 | .mp _,d,m,m',h,hn,hc,hr=>by simp[gA1]at h
 | .a ps,d,m,m',h,_,_,_=>by simp[gA1]at h
theorem OA (hi:∀ q∈NM,ids[q.2]? =some q.1) (hv:∀ k∈VRS,k∉ids) (hrd:∀ k,(∃ q,(k,q)∈NM)∨k∈VRS->k∈rd) (ho:∀ q∈NM,∀ c l,get q.1=some (.lst c l)->olen q.2=l.length):
 ∀ (ps:List (Pt X.ι)) (ds:List (DV X)) (m m':MG X),gAs get ps ds m=some m'->(∀ q∈m'.nm,q∈NM)->(∀ c∈m'.chk,c=true)->(∀ k∈m'.vr,k∈VRS)->
 ∃ new,m'.dcs=m.dcs++new∧∃ ds',(∀ rest,ePs olen ps (new++rest)=(ds',rest))∧(∃ hs obs,(∀ p∈obs,p)∧∀ rest,ou P (fq rd (gP get)) ids (cK ds) (hs++rest)=some (cK ds',rest,obs))∧∀ j∈bn ds,(∃ q,(j,q)∈NM)∨j∈VRS
 |[],[],m,m',h,_,_,_=>by
  simp only[gAs,aG]at h;subst h;exact⟨[],by simp,[],fun rest=>rfl,⟨[],[],by simp,fun rest=>rfl⟩,by simp[bn]⟩
 |p::ps,d::ds,m,m',h,hn,hc,hr=>by
  simp only[gAs]at h;rw[ax]at h;obtain⟨m1,h1,h⟩:=h;have hm:=(GA ps ds m1 m' h).1;obtain⟨n1,a1,d',b1,⟨hs1,o1,p1,q1⟩,r1⟩:=agR hi hv hrd ho p d m m1 h1 (fun q hq=>hn q (hm.1 q hq)) (fun q hq=>hc q (hm.2.1 q hq)) (fun q hq=>hr q (hm.2.2 q hq));obtain⟨n2,a2,ds',b2,⟨hs2,o2,p2,q2⟩,r2⟩:=OA hi hv hrd ho ps ds m1 m' h hn hc hr;refine⟨n1++n2,by rw[a2,a1,aQ],d'::ds',fun rest=>by simp only[ePs,aQ,b1,b2],⟨hs1++hs2,o1++o2,jr p1 p2,fun rest=>?_⟩,fun j hj=>?_⟩
  ·simp only[cK,aQ,ou,q1,ah,q2]
  ·simp only[bn,aX]at hj;exact hj.elim (r1 j) (r2 j)
 |[],_::_,m,m',h,_,_,_=>by simp[gAs]at h
 |_::_,[],m,m',h,_,_,_=>by simp[gAs]at h
end
end
end
end Go.Gb
namespace Go.Gb
open Go.RowKit
section
variable {X:SX} {A:Type}
theorem XI:∀ {l:List Tree},(∀ t∈l,t.flat)->Bb (l.map AV.t)
 |[],_=>trivial
 |t::l,h=>⟨h t (by simp),XI (fun u hu=>h u (by simp[hu]))⟩
theorem Zc {c:CT X.ι} (h:C8 c=true) (x:CT.T X.toSE c):BX (CT.tv X.toSE c x).av:=by
 have hf:=zC h x;cases c
 case st i=>exact XI hf
 all_goals first |exact hf _ (aO.2 rfl) |cases h
section
variable {ol:Nat->Nat}
mutual
theorem ajr:∀ (p:Pt X.ι) (L:List (DC X)) (cs:List (CT X.ι)),L.map (·.c)=p.vars++cs->p.vars.all C8=true->BX (den (eP ol p L).1)∧(eP ol p L).2.map (·.c)=cs
 | .v c,L,cs,h,hs=>by
  match L,h with
  |d::r,h=>
   simp only[Pt.vars,bf,List.singleton_append,List.cons.injEq]at h;simp only[Pt.vars,all_cons,List.all_nil,Bool.and_true]at hs;exact⟨Zc (h.1 ▸ hs) d.x,h.2⟩
  |[],h=>simp[Pt.vars]at h
 | .o k,L,cs,h,_=>⟨trivial,by simpa[Pt.vars,eP]using h⟩
 | .p k,L,cs,h,_=>⟨trivial,by simpa[Pt.vars,eP]using h⟩
 | .mp k,L,cs,h,_=>⟨trivial,by simpa[Pt.vars,eP]using h⟩
 | .nil,L,cs,h,_=>⟨trivial,by simpa[Pt.vars,eP]using h⟩
 | .od k,L,cs,h,_=>by
  match L,h with
  |d::r,h=>
   simp only[Pt.vars,bf,List.singleton_append,List.cons.injEq]at h;exact⟨trivial,h.2⟩
  |[],h=>simp[Pt.vars]at h
 | .f F fs ps,L,cs,h,hs=>by
  simp only[Pt.vars,List.all_append,aK]at hs;simp only[Pt.vars,aQ]at h;obtain⟨a1,a2⟩:=LV fs L _ h hs.1;obtain⟨b1,b2⟩:=LV ps _ _ a2 hs.2;exact⟨⟨a1,b1⟩,b2⟩
 | .a ps,L,cs,h,hs=>by
  simp only[Pt.vars]at h hs;exact LV ps L cs h hs
theorem LV:∀ (ps:List (Pt X.ι)) (L:List (DC X)) (cs:List (CT X.ι)),L.map (·.c)=varsL ps++cs->(varsL ps).all C8=true->Bb (cK (ePs ol ps L).1)∧(ePs ol ps L).2.map (·.c)=cs
 |[],L,cs,h,_=>⟨trivial,by simpa[varsL,ePs]using h⟩
 |p::ps,L,cs,h,hs=>by
  simp only[varsL,List.all_append,aK]at hs;simp only[varsL,aQ]at h;obtain⟨a1,a2⟩:=ajr p L _ h hs.1;obtain⟨b1,b2⟩:=LV ps _ _ a2 hs.2;exact⟨⟨a1,b1⟩,b2⟩
end
mutual
theorem ajs:∀ (p:Pt X.ι) (L:List (DC X)),∀ j∈drefs (eP ol p L).1,j∈p.refs
 | .v c,L,j,h=>by cases L<;>simp[eP,drefs]at h
 | .o k,L,j,h=>by simpa[eP,drefs,Pt.refs]using h
 | .p k,L,j,h=>by simpa[eP,drefs,Pt.refs]using h
 | .mp k,L,j,h=>by simpa[eP,drefs,Pt.refs]using h
 | .nil,L,j,h=>by simp[eP,drefs]at h
 | .od k,L,j,h=>by cases L<;>simp[eP,drefs]at h<;>simp[Pt.refs,h]
 | .f F fs ps,L,j,h=>by
  simp only[eP,drefs,aX]at h;simp only[Pt.refs,aX];exact h.imp (LW fs _ j) (LW ps _ j)
 | .a ps,L,j,h=>by
  simp only[eP,drefs]at h;simp only[Pt.refs];exact LW ps _ j h
theorem LW:∀ (ps:List (Pt X.ι)) (L:List (DC X)),∀ j∈bn (ePs ol ps L).1,j∈Gz ps
 |[],L,j,h=>by simp[ePs,bn]at h
 |p::ps,L,j,h=>by
  simp only[ePs,bn,aX]at h;simp only[Gz,aX];exact h.imp (ajs p _ j) (LW ps _ j)
end
end
theorem Zd (f:Nat->Nat) (c:CT X.ι) (x:CT.T X.toSE c):rnA f (CT.tv X.toSE c x).av=(CT.tv X.toSE c x).av:=(Ez f (.c c x)).symm
end
section
variable {X:SX} {A:Type}
def TN:RT X.ι->Bool
 | .d c=>C8 c
 | .fresh e=>C8 e
 | .whole _=>true
 | .mu c=>C8 c
 | .mr c=>C8 c
 | .mv=>true
theorem abB {c:CT X.ι} (h:C8 c=true) (x:CT.T X.toSE c):(CT.tv X.toSE c x).flat:=by
 cases c
 case st i=>exact zC h x
 all_goals first |exact trivial |cases h
theorem TP {ns:List Nat} {q:RT X.ι} {x:RT.T X q} (h:TN q=true):∀ c∈TL ns q x,c.flat:=by
 intro c hc;cases q<;>simp only[TL,aO,aP]at hc
 case d c=>subst hc;exact abB h x
 case fresh e=>
  subst hc;intro row hr;obtain⟨y,_,rfl⟩:=mem_map.1 hr;exact zC h y
 case whole j=>subst hc;exact trivial
theorem QA {ns:List Nat}:∀ {l:List (RT X.ι)} {x:su X l},l.all TN=true->∀ c∈Ca ns l x,c.flat
 |[],x,_,c,hc=>by simp[Ca]at hc
 |[q],x,h,c,hc=>TP (by simpa using h) c hc
 |q::q'::l,x,h,c,hc=>by
  simp only[all_cons,aK]at h;simp only[Ca,aX]at hc;rcases hc with hc |hc
  ·exact TP h.1 c hc
  ·exact QA (by simp only[all_cons,aK];exact h.2) c hc
theorem TQ {l:List (RT X.ι)} (x:su X l) (h:l.all TN=true):(sI l x).flat:=by
 have:=QA (ns:=Za l x) (x:=x) h;unfold sI;split
 ·rename_i c hc;exact this c (by rw[hc];simp)
 ·exact this
theorem XJ {q:RT X.ι} {x:RT.T X q} (h:TN q=true):Tj (qf q x):=by
 intro p hp;cases q<;>simp only[qf,aO,aP,aG,reduceCtorEq]at hp
 case mu c=>
  subst hp;intro r hr;obtain⟨y,_,rfl⟩:=mem_map.1 hr;exact zC h y
 case mr c=>
  subst hp;intro r hr;obtain⟨y,_,rfl⟩:=mem_map.1 hr;exact zC h y
theorem XK:∀ {l:List (RT X.ι)} {x:su X l},l.all TN=true->Tj (nk l x)
 |[],x,_=>fun p hp=>by simp[nk]at hp
 |[q],x,h=>XJ (q:=q) (by simpa using h)
 |q::q'::l,x,h=>by
  simp only[all_cons,aK]at h;intro p hp;rcases aX.1 (show some p∈qf q x.1++nk (q'::l) x.2 from hp)with hp |hp
  ·exact XJ h.1 p hp
  ·exact XK (l:=q'::l) (by simp only[all_cons,aK];exact h.2) p hp
def GD (i:Nat) (ids ns:List Nat):(q:RT X.ι)->RT.T X q->List (DV X)×List (Nat×Option (DObj X))
 | .d c,x=>([.c c x],[])
 | .fresh e,l=>([.own (nid i) 0 l.length],[(nid i,some (.lst e l))])
 | .whole j,_=>([match ids[j]? with |some k=> .own k 0 (ns.getD j 0) |none=> .undef],[])
 |_,_=>([],[])
def J7 (i:Nat) (ids ns:List Nat):(l:List (RT X.ι))->su X l->Option (List (DV X)×List (Nat×Option (DObj X)))
 |[],_=>some ([],[])
 |[q],x=>some (GD i ids ns q x)
 |q::q'::l,x=>(J7 i ids ns (q'::l) x.2).bind fun p=>if (GD i ids ns q x.1).2.isEmpty || p.2.isEmpty then some ((GD i ids ns q x.1).1++p.1,(GD i ids ns q x.1).2++p.2)else none
def akX:List (DV X)->DV X
 |[d]=>d
 |ds=> .tup ds
def agS (i:Nat) (ids:List Nat) (l:List (RT X.ι)) (x:su X l):Option (DV X×List (Nat×Option (DObj X))):=
 (J7 i ids (Za l x) l x).bind fun p=>some (akX p.1,p.2)
theorem Ze (u:List (Nat×Option (DObj X))):(jm u).isEmpty=u.isEmpty:=by cases u<;>rfl
theorem XL (i:Nat) (ids ns:List Nat) (q:RT X.ι) (x:RT.T X q):(∃ c,TL ns q x=[c]∧∃ d,(GD i ids ns q x).1=[d]∧JE i ids c=(den d,jm (GD i ids ns q x).2))∨(TL ns q x=[]∧GD i ids ns q x=([],[])):=by
 cases q
 case d c=>exact .inl ⟨_,rfl,_,rfl,rfl⟩
 case fresh e=>exact .inl ⟨_,rfl,_,rfl,by simp[JE,GD,den,jm,dM,aW]⟩
 case whole j=>
  refine .inl ⟨_,rfl,_,rfl,?_⟩;simp only[JE,jm,GD,map_nil,Prod.mk.injEq,and_true];cases ids[j]?<;>rfl
 all_goals exact .inr ⟨rfl,rfl⟩
theorem abC (i:Nat) (ids:List Nat) (c:RC):Lu i ids [c]=some ([(JE i ids c).1],(JE i ids c).2):=by simp[Lu]
theorem XM (i:Nat) (ids ns:List Nat):∀ (l:List (RT X.ι)) (x:su X l) (p:List (DV X)×List (Nat×Option (DObj X))),J7 i ids ns l x=some p->Lu i ids (Ca ns l x)=some (cK p.1,jm p.2)
 |[],_,p,h=>by simp only[J7,aG]at h;subst h;rfl
 |[q],x,p,h=>by
  simp only[J7,aG]at h;subst h;simp only[Ca];rcases XL i ids ns q x with ⟨c,h1,d,h2,h3⟩ |⟨h1,h2⟩
  ·rw[h1,abC,h2,h3];simp[cK]
  ·rw[h1,h2];rfl
 |q::q'::l,x,p,h=>by
  simp only[J7]at h;rw[ax]at h;obtain⟨p',h1,h⟩:=h;have ih:=XM i ids ns (q'::l) x.2 p' h1;split at h
  ·rename_i hc;injection h with h;subst h;simp only[Ca];rcases XL i ids ns q x.1 with ⟨c,h1,d,h2,h3⟩ |⟨h1,h2⟩
   ·rw[h1];simp only[List.singleton_append,Lu,ih,ah,h3,Ze];rw[aJ hc,h2];simp[cK,jm]
   ·rw[h1,h2];simp only[cu];exact ih
  ·cases h
theorem abD {i:Nat} {ids:List Nat} {l:List (RT X.ι)} {x:su X l} {p:DV X×List (Nat×Option (DObj X))} (h:agS i ids l x=some p):imp i ids (sI l x)=some (den p.1,jm p.2):=by
 unfold agS at h;rw[ax]at h;obtain⟨p',h1,h⟩:=h;injection h with h;subst h;have ih:=XM i ids _ l x p' h1;unfold sI;split
 ·rename_i c hc;rw[hc,abC]at ih;simp only[aG,Prod.mk.injEq]at ih;obtain⟨ds,u⟩:=p'
  match ds,ih with
  |[d],ih=>
   simp only[cK,List.cons.injEq,and_true]at ih;simp only[imp,akX,<- ih.1,<- ih.2]
  |[],ih=>simp[cK]at ih
  |_::_::_,ih=>simp[cK]at ih
 ·rename_i hne;simp only[imp,ih,ah];obtain⟨ds,u⟩:=p'
  match ds,ih with
  |[],_=>rfl
  |_::_::_,_=>rfl
  |[d],ih=>
   exfalso;generalize hcs:Ca (Za l x) l x=cs at ih hne
   match cs,ih,hne with
   |[],ih,_=>simp[Lu,cK]at ih
   |[c],_,hne=>exact hne c rfl
   |c::c'::cs,ih,_=>
    simp only[Lu]at ih;cases h3:Lu i ids cs with
    |none=>rw[h3]at ih;simp at ih
    |some q=>
     rw[h3]at ih;simp only[ah]at ih;split at ih
     ·simp only[ah]at ih;split at ih
      ·simp[cK]at ih
      ·cases ih
     ·simp at ih
def ajt:(q:RT X.ι)->RT.T X q->List (Option (DObj X))
 | .mu c,x=>[some (.lst c x)]
 | .mr c,x=>[some (.cells (CT.sz X c) [zx c x])]
 | .mv,_=>[none]
 |_,_=>[]
def TS:(l:List (RT X.ι))->su X l->List (Option (DObj X))
 |[],_=>[]
 |[q],x=>ajt q x
 |q::q'::l,x=>ajt q x.1++TS (q'::l) x.2
def GH:List Nat->List (Option (DObj X))->List (Nat×Option (DObj X))
 |k::ids,p::os=>(k,p)::GH ids os
 |_,_=>[]
theorem abE (q:RT X.ι) (x:RT.T X q):(ajt q x).map (·.map dM)=(qf q x).map (·.map aob):=by
 cases q<;>try rfl
 case mr c=>simp only[ajt,qf,bf,map_nil,Option.map_some,dM,aob,rz,aW,ru]
theorem OC:∀ (l:List (RT X.ι)) (x:su X l),(TS l x).map (·.map dM)=(nk l x).map (·.map aob)
 |[],_=>rfl
 |[q],x=>abE q x
 |q::q'::l,x=>by simp only[TS,nk,map_append,abE,OC (q'::l) x.2]
theorem XO:∀ (ids:List Nat) (os:List (Option (DObj X))) (os':List (Option fE)),os.map (·.map dM)=os'.map (·.map aob)->jm (GH ids os)=BV ids os'
 |[],_,_,_=>by simp[GH,BV,jm]
 |_::_,[],[],_=>rfl
 |k::ids,p::os,p'::os',h=>by
  simp only[bf,List.cons.injEq]at h;have:=XO ids os os' h.2;simp only[jm]at this;simp only[GH,BV,jm,bf,h.1,this]
 |_::_,[],_::_,h=>by simp at h
 |_::_,_::_,[],h=>by simp at h
theorem Kq:∀ {ids:List Nat} {os:List (Option (DObj X))} {p:Nat×Option (DObj X)},p∈GH ids os->p.1∈ids
 |[],_,_,h=>by simp[GH]at h
 |_::_,[],_,h=>by simp[GH]at h
 |k::ids,q::os,p,h=>by
  simp only[GH,aI]at h;rcases h with rfl |h
  ·simp
  ·exact bP _ (Kq h)
def Zf (get:Nat->Option (DObj X)) (d:DV X) (c:CT X.ι):Option (List (CT.T X.toSE c)×Nat×List Bool):=
 match d with
 | .own k 0 len=>(get k).bind fun o=>match o with
  | .lst b l=>(kV (.sl b) (.sl c) l).bind fun (l:List (CT.T X.toSE c))=>some (l,k,[eqL len (List.length l)])
  |_=>none
 |_=>none
def TU (get:Nat->Option (DObj X)) (d:DV X) (c:CT X.ι):Option (CT.T X.toSE c×Nat):=
 match d with
 | .ptr k 0 0=>(get k).bind fun o=>match o with
  | .cells sz [row]=>if sz=CT.sz X c then (Ty c row).bind fun x=>some (x,k)else none
  |_=>none
 |_=>none
def oD (Γ:FuncId->Option (Sig X)) (get:Nat->Option (DObj X)):List (DV X)->(l:List (AT X.ι))->Option (iW X l×List Nat×List Bool)
 |[],[]=>some ((),[],[])
 |d::ds,.mut c::l=>(Zf get d c).bind fun x=>(oD Γ get ds l).bind fun h=>some ((x.1,h.1),x.2.1::h.2.1,x.2.2++h.2.2)
 |d::ds,.mref c::l=>(TU get d c).bind fun x=>(oD Γ get ds l).bind fun h=>some ((x.1,h.1),x.2::h.2.1,h.2.2)
 |d::ds,.d c::l=>(Qz Γ get 3 [d] [.d c]).bind fun x=>(oD Γ get ds l).bind fun h=>some ((x.1.1,h.1),h.2.1,x.2++h.2.2)
 |d::ds,.ref c::l=>(Qz Γ get 3 [d] [.ref c]).bind fun x=>(oD Γ get ds l).bind fun h=>some ((x.1.1,h.1),h.2.1,x.2++h.2.2)
 |d::ds,.clo as r::l=>(Qz Γ get 3 [d] [.clo as r]).bind fun x=>(oD Γ get ds l).bind fun h=>some ((x.1.1,h.1),h.2.1,x.2++h.2.2)
 |d::ds,.nil::l=>match d with
  | .nil=>(oD Γ get ds l).bind fun h=>some (((),h.1),h.2.1,h.2.2)
  |_=>none
 |_,_=>none
def I8:List (DV X)->List (AT X.ι)->List Nat
 |d::ds,a::l=>(if a.im then []else drefs d)++I8 ds l
 |_,_=>[]
def OD (get:Nat->Option (DObj X)):List (DV X)->(l:List (CT X.ι))->Option (HL X.toSE l×List Bool)
 |[],[]=>some ((),[])
 |d::ds,c::l=>(FL get d c).bind fun x=>(OD get ds l).bind fun h=>some ((x.1,h.1),x.2++h.2)
 |_,_=>none
variable (Γ:FuncId->Option (Sig X))
def aib (i:Nat) (f:DV X) (args:List (DV X)) (get:Nat->Option (DObj X)) (k:KK X A):Option A:=
 match f with
 | .fn F first caps=>(Γ F).bind fun s=>match s.gen with
  |some _=>none
  |none=>if (s.args.all (fun q=>q.pl)&&s.res.all (fun q=>!q.out))=true then (Qz Γ get 3 (first++args++caps) s.args).bind fun a=>Wj a.2 ((s.fn a.1).bind fun x=>(agS i [] s.res x).bind fun p=>
   if s.res.all TN then k p.1 p.2 (bn (first++args++caps)) []
   else k p.1 (p.2++LU (bn (first++args++caps))) (bn (first++args++caps)) (bn (first++args++caps)))
  else (oD Γ get (first++args++caps) s.args).bind fun a=>Wj a.2.2 ((s.fn a.1).bind fun x=>(agS i a.2.1 s.res x).bind fun p=>
   if (decide a.2.1.Nodup&&(I8 (first++args++caps) s.args).all (fun j=>!a.2.1.contains j)&&decide ((TS s.res x).length=a.2.1.length))=true then
    if s.res.all TN then k p.1 (p.2++GH a.2.1 (TS s.res x)) (bn (first++args++caps)) a.2.1
    else k p.1 (p.2++(GH a.2.1 (TS s.res x)++LU ((bn (first++args++caps)).filter fun j=>!a.2.1.contains j))) (bn (first++args++caps)) (a.2.1++(bn (first++args++caps)).filter fun j=>!a.2.1.contains j)
   else none)
 | .clo as q φ=>(OD get args as).bind fun h=>Wj h.2 ((φ h.1).bind fun y=>
  if C8 q then k (.c q y) [] (bn args) []else k (.c q y) (LU (bn args)) (bn args) (bn args))
 |_=>none
def aen (fz:List Nat) (T:Tab) (code:TypeId->Option (CT X.ι)) (i:Nat) (o:Op) (ρ:Operand->DV X) (get:Nat->Option (DObj X)) (k:KK X A):Option A:=
 match o with
 | .call { callee:= .value f,args:=args,argTypes:=_ }=>aib Γ i (ρ f) (args.toList.map ρ) get k
 |o=>if akU o ρ then ako T code i o ρ get k else if akV o ρ || fz.contains i then akp T code i o ρ get k else if akW T o ρ then akq T code o ρ get k else opD T code i o ρ get k
variable {Γ}
theorem LX {P:Program} {get:Nat->Option (DObj X)} {rd:List Nat}:∀ {ds:List (DV X)} {l:List (CT X.ι)} {h:HL X.toSE l×List Bool},OD get ds l=some h->(∀ b∈h.2,b=true)->(∀ j∈bn ds,j∈rd)->
 ∃ hs obs,(∀ p∈obs,p)∧∀ rest,l6 P (fq rd (gP get)) (cK ds) (hs++rest)=some ((HL.tvs X.toSE l h.1).map TV.av,rest,obs)
 |[],[],h,_,_,_=>⟨[],[],by simp,fun rest=>rfl⟩
 |d::ds,c::l,h,hr,hc,hrd=>by
  simp only[OD]at hr;rw[ax]at hr;obtain⟨x,h1,hr⟩:=hr;rw[ax]at hr;obtain⟨g,h2,hr⟩:=hr;injection hr with hr;subst hr;obtain⟨hs1,o1,p1,q1⟩:=Bd (P:=P) (rd:=rd) h1 (fun b hb=>hc b (by simp[hb])) (fun j hj=>hrd j (by simp[bn,hj]));obtain⟨hs2,o2,p2,q2⟩:=LX (P:=P) (rd:=rd) h2 (fun b hb=>hc b (by simp[hb])) (fun j hj=>hrd j (by simp[bn,hj]));refine⟨hs1++hs2,o1++o2,jr p1 p2,fun rest=>?_⟩;simp only[cK,l6,aQ,q1,ah,q2];rfl
 |[],_::_,_,hr,_,_=>by simp[OD]at hr
 |_::_,[],_,hr,_,_=>by simp[OD]at hr
theorem TW {i:Nat} {ids ns:List Nat} {q:RT X.ι} {x:RT.T X q}:∀ p∈(GD i ids ns q x).2,p.1=nid i:=by cases q<;>simp[GD]
theorem TY {i:Nat} {ids ns:List Nat}:∀ {l:List (RT X.ι)} {x:su X l} {p:List (DV X)×List (Nat×Option (DObj X))},J7 i ids ns l x=some p->∀ q∈p.2,q.1=nid i
 |[],_,p,h=>by simp only[J7,aG]at h;subst h;simp
 |[q],x,p,h=>by simp only[J7,aG]at h;subst h;exact TW
 |q::q'::l,x,p,h=>by
  simp only[J7]at h;rw[ax]at h;obtain⟨p',h1,h⟩:=h;split at h
  ·injection h with h;subst h;intro z hz;rcases aX.1 hz with hz |hz
   ·exact TW z hz
   ·exact TY h1 z hz
  ·cases h
theorem XP {i:Nat} {ids:List Nat} {l:List (RT X.ι)} {x:su X l} {p:DV X×List (Nat×Option (DObj X))} (h:agS i ids l x=some p):∀ q∈p.2,q.1=nid i:=by
 unfold agS at h;rw[ax]at h;obtain⟨p',h1,h⟩:=h;injection h with h;subst h;exact TY h1
theorem GI {P:Program} {get:Nat->Option bA} {x:AV} {hs rest:List LH} {y:AV} {o:List Prop} (h:l6 P get [x] hs=some ([y],rest,o)):oo P get x hs=some (y,rest,o):=by
 simp only[l6,ah,append_nil,ax,aG,Prod.mk.injEq,List.cons.injEq,and_true]at h;obtain⟨q,h1,h2,h3,h4⟩:=h;rw[h1,<- h2,<- h3,<- h4]
theorem jZ {d:DV X} {ds:List (DV X)} {a:AT X.ι} {l:List (AT X.ι)} {P:Nat->Prop} (h:∀ j∈I8 (d::ds) (a::l),P j):(a.im=false->∀ j∈drefs d,P j)∧∀ j∈I8 ds l,P j:=by
 simp only[I8,aX]at h;exact⟨fun e j hj=>h j (.inl (by rw[e];simpa using hj)),fun j hj=>h j (.inr hj)⟩
theorem akr {c:CT X.ι} {l:List (CT.T X.toSE c)}:eU ((aW (l.map (CT.row X.toSE c))).take (l.map (CT.row X.toSE c)).length)=aW (l.map (CT.row X.toSE c)):=by
 rw[List.take_of_length_le (by simp[aW])];simp only[eU,aW,map_map];exact map_congr_left fun y _=>by
  simp only[Function.comp,map_map];exact map_congr_left fun z _=>rfl
theorem Wn {get:Nat->Option (DObj X)} {d:DV X} {c:CT X.ι} {x:List (CT.T X.toSE c)×Nat×List Bool} (h:Zf get d c=some x) (hc:∀ b∈x.2.2,b=true):
 d= .own x.2.1 0 (List.length x.1)∧∃ o,get x.2.1=some o∧(dM o).sz=(rz c x.1).1∧eU ((dM o).rows.take (rz c x.1).2.length)=aW (rz c x.1).2:=by
 unfold Zf at h;split at h
 ·rename_i k len;rw[ax]at h;obtain⟨o,h1,h⟩:=h;split at h
  ·rename_i b l;rw[ax]at h;obtain⟨l',h2,h⟩:=h;injection h with h;subst h;obtain⟨h3,h4⟩:=ny h2;have h5:len=List.length l':=(by simpa[eqL]using hc (eqL len (List.length l')) (by simp));refine⟨by rw[h5],.lst b l,h1,by simp only[dM,rz];exact h3,?_⟩;simp only[dM,rz,h4];exact akr
  ·cases h
 ·cases h
theorem T9 {get:Nat->Option (DObj X)} {d:DV X} {c:CT X.ι} {x:CT.T X.toSE c×Nat} (h:TU get d c=some x):
 d= .ptr x.2 0 0∧∃ o,get x.2=some o∧(dM o).sz=(rz c [x.1]).1∧eU ((dM o).rows.take (rz c [x.1]).2.length)=aW (rz c [x.1]).2:=by
 unfold TU at h;split at h
 ·rename_i k;rw[ax]at h;obtain⟨o,h1,h⟩:=h;split at h
  ·rename_i sz row;split at h
   ·rename_i hsz;rw[ax]at h;obtain⟨y,h2,h⟩:=h;injection h with h;subst h;refine⟨rfl,_,h1,by simp only[dM,rz];exact hsz,?_⟩;simp only[dM,rz,bf,map_nil,List.length_singleton,List.take_succ_cons,List.take_zero,eU,aW];rw[CV h2]
   ·cases h
  ·cases h
 ·cases h
theorem mF {P:Program} {Γ:FuncId->Option (Sig X)} (hΓ:GOk P Γ) {get:Nat->Option (DObj X)} {rd ids:List Nat}:∀ {n:Nat} {ds:List (DV X)} {l:List (AT X.ι)} {a:iW X l×List Nat×List Bool},oD Γ get ds l=some a->(∀ b∈a.2.2,b=true)->(∀ j∈bn ds,j∈rd)->(∀ j∈I8 ds l,j∉ids)->ids.drop n=a.2.1->
 (∃ hs obs,(∀ p∈obs,p)∧∀ rest,ou P (fq rd (gP get)) ids (cK ds) (hs++rest)=some (dU n l a.1,rest,obs))∧∃ mo,BU (fq rd (gP get)) a.2.1 (qd l a.1)=some mo∧∀ p∈mo,p
 |n,[],[],a,h,_,_,_,_=>by
  simp only[oD,aG]at h;subst h;exact⟨⟨[],[],by simp,fun rest=>rfl⟩,[],rfl,by simp⟩
 |n,d::ds,.mut c::l,a,h,hc,hrd,hnr,hid=>by
  simp only[oD]at h;rw[ax]at h;obtain⟨x,h1,h⟩:=h;rw[ax]at h;obtain⟨q,h2,h⟩:=h;injection h with h;subst h;obtain⟨rfl,o,g1,g2,g3⟩:=Wn h1 (fun b hb=>hc b (by simp[hb]));have hidn:ids[n]? =some x.2.1:=by rw[<- List.head?_drop,hid];rfl
  have hid':ids.drop (n+1)=q.2.1:=by rw[<- List.tail_drop,hid];rfl
  obtain⟨⟨hs,obs,p1,p2⟩,mo,m1,m2⟩:=mF hΓ (n:=n+1) h2 (fun b hb=>hc b (by simp[hb])) (fun j hj=>hrd j (by simp[bn,hj])) (jZ hnr).2 hid';refine⟨⟨.mut n::hs,obs,p1,fun rest=>?_⟩,((dM o).sz=(rz c x.1).1∧eU ((dM o).rows.take (rz c x.1).2.length)=aW (rz c x.1).2)::mo,?_,?_⟩
  ·simp only[cK,den,ou,cons_append,xD,hidn,if_true,ah,p2,dU,cu]
  ·simp only[qd,BU,iy (hrd x.2.1 (by simp[bn,drefs])) g1,ah,m1]
  ·intro p hp;rcases aI.1 hp with rfl |hp
   ·exact⟨g2,g3⟩
   ·exact m2 p hp
 |n,d::ds,.mref c::l,a,h,hc,hrd,hnr,hid=>by
  simp only[oD]at h;rw[ax]at h;obtain⟨x,h1,h⟩:=h;rw[ax]at h;obtain⟨q,h2,h⟩:=h;injection h with h;subst h;obtain⟨rfl,o,g1,g2,g3⟩:=T9 h1;have hidn:ids[n]? =some x.2:=by rw[<- List.head?_drop,hid];rfl
  have hid':ids.drop (n+1)=q.2.1:=by rw[<- List.tail_drop,hid];rfl
  obtain⟨⟨hs,obs,p1,p2⟩,mo,m1,m2⟩:=mF hΓ (n:=n+1) h2 (fun b hb=>hc b (by simp[hb])) (fun j hj=>hrd j (by simp[bn,hj])) (jZ hnr).2 hid';refine⟨⟨.mut n::hs,obs,p1,fun rest=>?_⟩,((dM o).sz=(rz c [x.1]).1∧eU ((dM o).rows.take (rz c [x.1]).2.length)=aW (rz c [x.1]).2)::mo,?_,?_⟩
  ·simp only[cK,den,ou,cons_append,xD,hidn,if_true,ah,p2,dU,cu]
  ·simp only[qd,BU,iy (hrd x.2 (by simp[bn,drefs])) g1,ah,m1]
  ·intro p hp;rcases aI.1 hp with rfl |hp
   ·exact⟨g2,g3⟩
   ·exact m2 p hp
 |n,d::ds,.d c::l,a,h,hc,hrd,hnr,hid=>by
  simp only[oD]at h;rw[ax]at h;obtain⟨x,h1,h⟩:=h;rw[ax]at h;obtain⟨q,h2,h⟩:=h;injection h with h;subst h;obtain⟨hs1,o1,p1,q1⟩:=rP (P:=P) hΓ 3 (n:=n) h1 (fun b hb=>hc b (by simp[hb])) (rd:=rd) (fun j hj=>hrd j (by simp only[bn,append_nil]at hj;simp[bn,hj]));obtain⟨⟨hs,obs,p2,q2⟩,mo,m1,m2⟩:=mF hΓ (n:=n) h2 (fun b hb=>hc b (by simp[hb])) (fun j hj=>hrd j (by simp[bn,hj])) (jZ hnr).2 hid;refine⟨⟨hs1++hs,o1++obs,jr p1 p2,fun rest=>?_⟩,mo,m1,m2⟩;have:=y9 (GI (q1 (hs++rest))) (fun k hk=>(jZ hnr).1 rfl k (by rwa [iZ]at hk));simp only[cK,ou,aQ,this,ah,q2,dU]
 |n,d::ds,.ref c::l,a,h,hc,hrd,hnr,hid=>by
  simp only[oD]at h;rw[ax]at h;obtain⟨x,h1,h⟩:=h;rw[ax]at h;obtain⟨q,h2,h⟩:=h;injection h with h;subst h;obtain⟨hs1,o1,p1,q1⟩:=rP (P:=P) hΓ 3 (n:=n) h1 (fun b hb=>hc b (by simp[hb])) (rd:=rd) (fun j hj=>hrd j (by simp only[bn,append_nil]at hj;simp[bn,hj]));obtain⟨⟨hs,obs,p2,q2⟩,mo,m1,m2⟩:=mF hΓ (n:=n) h2 (fun b hb=>hc b (by simp[hb])) (fun j hj=>hrd j (by simp[bn,hj])) (jZ hnr).2 hid;refine⟨⟨hs1++hs,o1++obs,jr p1 p2,fun rest=>?_⟩,mo,m1,m2⟩;have:=y9 (GI (q1 (hs++rest))) (fun k hk=>(jZ hnr).1 rfl k (by rwa [iZ]at hk));simp only[cK,ou,aQ,this,ah,q2,dU]
 |n,d::ds,.clo as r::l,a,h,hc,hrd,hnr,hid=>by
  simp only[oD]at h;rw[ax]at h;obtain⟨x,h1,h⟩:=h;rw[ax]at h;obtain⟨q,h2,h⟩:=h;injection h with h;subst h;obtain⟨hs1,o1,p1,q1⟩:=rP (P:=P) hΓ 3 (n:=n) h1 (fun b hb=>hc b (by simp[hb])) (rd:=rd) (fun j hj=>hrd j (by simp only[bn,append_nil]at hj;simp[bn,hj]));obtain⟨⟨hs,obs,p2,q2⟩,mo,m1,m2⟩:=mF hΓ (n:=n) h2 (fun b hb=>hc b (by simp[hb])) (fun j hj=>hrd j (by simp[bn,hj])) (jZ hnr).2 hid;refine⟨⟨hs1++hs,o1++obs,jr p1 p2,fun rest=>?_⟩,mo,m1,m2⟩;have:=y9 (GI (q1 (hs++rest))) (fun k hk=>(jZ hnr).1 rfl k (by rwa [iZ]at hk));simp only[cK,ou,aQ,this,ah,q2,dU]
 |n,d::ds,.nil::l,a,h,hc,hrd,hnr,hid=>by
  simp only[oD]at h;split at h
  ·rw[ax]at h;obtain⟨q,h2,h⟩:=h;injection h with h;subst h;obtain⟨⟨hs,obs,p2,q2⟩,mo,m1,m2⟩:=mF hΓ (n:=n) h2 hc (fun j hj=>hrd j (by simp[bn,hj])) (jZ hnr).2 hid;refine⟨⟨.nil::hs,obs,p2,fun rest=>?_⟩,mo,m1,m2⟩;have:=y9 (P:=P) (get':=fq rd (gP get)) (ids:=ids) (x:= .nilsl) (hs:= .nil::(hs++rest)) (p:=(.nilsl,hs++rest,[])) rfl (fun k hk=>by simp[refs]at hk);simp only[cK,den,ou,cons_append,this,ah,q2,dU,cu]
  ·cases h
 |_,[],_::_,_,h,_,_,_,_=>by simp[oD]at h
 |_,_::_,[],_,h,_,_,_,_=>by simp[oD]at h
theorem abF {P:Program} (hΓ:GOk P Γ) {i:Nat} {f:DV X} {args:List (DV X)} {get:Nat->Option (DObj X)} {k:KK X A} {r:A} (h:aib Γ i f args get k=some r):
 ∃ orc rd wr dv upd out,kX P i (den f) (cK args) orc (fq rd (gP get))=some out∧jl out.obs∧out.v=den dv∧out.upd=jm upd∧(∀ p∈upd,p.1=nid i∨p.1∈wr)∧k dv upd rd wr=some r:=by
 unfold aib at h;split at h
 ·rename_i F first caps
  rw[ax]at h;obtain⟨s,h1,h⟩:=h;split at h
  ·cases h
  split at h
  ·rename_i hpure;rw[ax]at h;obtain⟨⟨a,cs⟩,h2,h⟩:=h;obtain⟨hcs,h⟩:=rO h;rw[ax]at h;obtain⟨x,h3,h⟩:=h;rw[ax]at h;obtain⟨p,h4,h⟩:=h;have hf0:=(hΓ F s h1).2.1 a x h3;simp only[aK]at hpure;rw[zB (akS hpure.1),abr hpure.2]at hf0;have hf:=Tv hf0;have hi:=abD h4;have hk:=XP h4;obtain⟨hs,obs,g1,g2⟩:=rP (P:=P) hΓ 3 h2 hcs (rd:=bn (first++args++caps)) (fun j hj=>hj);have g3:=g2 [];rw[append_nil,l7,l7]at g3;have hrefs:dG (cK first++cK args++cK caps)=bn (first++args++caps):=(by rw[<- l7,<- l7,kK]);split at h
   ·rename_i hfl;refine⟨.call hs (sI s.res x) true,_,[],p.1,p.2,⟨den p.1,jm p.2,obs++[FnP P F (zA s.args a) (sI s.res x),(sI s.res x).flat]⟩,?_,?_,rfl,rfl,fun q hq=> .inl (hk q hq),h⟩
    ·simp only[den,kX,ow,yu,hi,ah,g3];rfl
    ·exact sF _ (jr g1 (by
      intro q hq;simp only[aI,aP,or_false]at hq;rcases hq with rfl |rfl
      ·exact hf
      ·exact TQ x hfl))
   ·refine⟨.call hs (sI s.res x) false,_,_,p.1,_,⟨den p.1,jm p.2++(bn (first++args++caps)).map (fun k=>(k,none)),obs++[FnP P F (zA s.args a) (sI s.res x)]⟩,?_,?_,rfl,?_,?_,h⟩
    ·simp only[den,kX,ow,yu,hi,ah,g3,hrefs];rfl
    ·exact sF _ (jr g1 (by
      intro q hq;simp only[aO]at hq;subst hq;exact hf))
    ·simp only[Be,I6]
    ·intro q hq;rcases aX.1 hq with hq |hq
     ·exact .inl (hk q hq)
     ·exact .inr (I7 hq)
  ·rename_i hpure;rw[ax]at h;obtain⟨⟨a,ids,cs⟩,h2,h⟩:=h;obtain⟨hcs,h⟩:=rO h;rw[ax]at h;obtain⟨x,h3,h⟩:=h;rw[ax]at h;obtain⟨p,h4,h⟩:=h;split at h
   ·rename_i hc;simp only[aK,aM]at hc;obtain⟨⟨hnd,hnr⟩,hlen⟩:=hc;have hf:=(hΓ F s h1).2.1 a x h3;have hi:=abD h4;have hk:=XP h4;obtain⟨⟨hs,obs,g1,g2⟩,mo,m1,m2⟩:=mF (P:=P) hΓ (rd:=bn (first++args++caps)) (ids:=ids) (n:=0) h2 hcs (fun j hj=>hj) (fun j hj=>by simpa using all_eq_true.1 hnr j hj) rfl;have g3:=g2 [];rw[append_nil,l7,l7]at g3;have hrefs:dG (cK first++cK args++cK caps)=bn (first++args++caps):=(by rw[<- l7,<- l7,kK]);have hlen':(nk s.res x).length=ids.length:=by
     rw[<- hlen];simpa using (congrArg List.length (OC s.res x)).symm
    have hout:jm (GH ids (TS s.res x))=BV ids (nk s.res x):=XO _ _ _ (OC s.res x);split at h
    ·rename_i hfl;refine⟨.callw ids (qd s.args a) (nk s.res x) hs (sI s.res x) true,_,ids,p.1,_,⟨den p.1,jm p.2++BV ids (nk s.res x),obs++mo++[FnW P F (zA s.args a) (qd s.args a) (nk s.res x) (sI s.res x),(sI s.res x).flat,Tj (nk s.res x)]⟩,?_,?_,rfl,?_,?_,h⟩
     ·simp only[den,kX,ow,Gn,hi,ah,m1,g3];rw[aJ ⟨hnd,hlen'⟩];rfl
     ·refine sF _ (jr (jr g1 m2) ?_);intro q hq;simp only[aI,aP,or_false]at hq;rcases hq with rfl |rfl |rfl
      ·exact hf
      ·exact TQ x hfl
      ·exact XK hfl
     ·simp only[Be,hout]
     ·intro q hq;rcases aX.1 hq with hq |hq
      ·exact .inl (hk q hq)
      ·exact .inr (Kq hq)
    ·refine⟨.callw ids (qd s.args a) (nk s.res x) hs (sI s.res x) false,_,_,p.1,_,⟨den p.1,jm p.2++(BV ids (nk s.res x)++((bn (first++args++caps)).filter fun j=>!ids.contains j).map (fun k=>(k,none))),obs++mo++[FnW P F (zA s.args a) (qd s.args a) (nk s.res x) (sI s.res x)]⟩,?_,?_,rfl,?_,?_,h⟩
     ·simp only[den,kX,ow,Gn,hi,ah,m1,g3,Gm,hrefs];rw[aJ ⟨hnd,hlen'⟩];rfl
     ·refine sF _ (jr (jr g1 m2) ?_);intro q hq;simp only[aO]at hq;subst hq;exact hf
     ·simp only[Be,hout,I6]
     ·intro q hq;rcases aX.1 hq with hq |hq
      ·exact .inl (hk q hq)
      ·rcases aX.1 hq with hq |hq
       ·exact .inr (List.mem_append_left _ (Kq hq))
       ·exact .inr (List.mem_append_right _ (I7 hq))
   ·cases h
 ·rename_i as q φ;rw[ax]at h;obtain⟨⟨hh,cs⟩,h1,h⟩:=h;obtain⟨hcs,h⟩:=rO h;rw[ax]at h;obtain⟨y,h2,h⟩:=h;obtain⟨hs,obs,g1,g2⟩:=LX (P:=P) h1 hcs (rd:=bn args) (fun j hj=>hj);have g3:=g2 [];rw[append_nil]at g3;have hφ:∃ h' x',φ h'=some x'∧HL.tvs X.toSE as hh=HL.tvs X.toSE as h'∧CT.tv X.toSE q y=CT.tv X.toSE q x':=⟨hh,y,h2,rfl,rfl⟩;split at h
  ·rename_i hfl;refine⟨.cclo hs (HL.tvs X.toSE as hh) (CT.tv X.toSE q y) true,_,[],.c q y,[],⟨(CT.tv X.toSE q y).av,[],obs++[(HL.tvs X.toSE as hh).map TV.av=(HL.tvs X.toSE as hh).map TV.av,(∃ h' x',φ h'=some x'∧HL.tvs X.toSE as hh=HL.tvs X.toSE as h'∧CT.tv X.toSE q y=CT.tv X.toSE q x'),(CT.tv X.toSE q y).flat]⟩,?_,?_,rfl,rfl,by simp,h⟩
   ·simp only[den,kX,ow,yu,g3,ah];rfl
   ·exact sF _ (jr g1 (by
     intro z hz;simp only[aI,aP,or_false]at hz;rcases hz with rfl |rfl |rfl
     ·trivial
     ·exact hφ
     ·exact abB hfl y))
  ·refine⟨.cclo hs (HL.tvs X.toSE as hh) (CT.tv X.toSE q y) false,_,_,.c q y,_,⟨(CT.tv X.toSE q y).av,(bn args).map (fun k=>(k,none)),obs++[(HL.tvs X.toSE as hh).map TV.av=(HL.tvs X.toSE as hh).map TV.av,(∃ h' x',φ h'=some x'∧HL.tvs X.toSE as hh=HL.tvs X.toSE as h'∧CT.tv X.toSE q y=CT.tv X.toSE q x')]⟩,?_,?_,rfl,(I6 _).symm,fun z hz=> .inr (I7 hz),h⟩
   ·simp only[den,kX,ow,yu,g3,ah,kK];rfl
   ·exact sF _ (jr g1 (by
     intro z hz;simp only[aI,aP,or_false]at hz;rcases hz with rfl |rfl
     ·trivial
     ·exact hφ))
 ·cases h
theorem aeo {P:Program} (hΓ:GOk P Γ) {fz:List Nat} {T:Tab} {code:TypeId->Option (CT X.ι)} {i:Nat} {o:Oper} {ρ:Operand->DV X} {get:Nat->Option (DObj X)} {k:KK X A} {r:A} (h:aen Γ fz T code i o.op ρ get k=some r):SdAny P T i o ρ get k r:=by
 obtain⟨dst,op,ty,pos,after,guard⟩:=o;unfold aen at h;simp only at h;split at h
 ·rename_i f args tys;have:=abF hΓ h;simp only[<- Sq]at this;obtain⟨orc,rd,wr,dv,upd,out,g1,g2⟩:=this;exact .call g1 g2
 ·split at h
  ·exact aek (o:=⟨dst,op,ty,pos,after,guard⟩) h
  ·split at h
   ·exact ael (o:=⟨dst,op,ty,pos,after,guard⟩) h
   ·split at h
    ·exact aem (o:=⟨dst,op,ty,pos,after,guard⟩) h
    ·rename_i hne _ _ _;obtain⟨orc,rd,wr,dv,upd,out,g1,g2⟩:=XA (o:=⟨dst,op,ty,pos,after,guard⟩) h;exact SdAny.op (fun f args tys e=>hne f args tys e) g1 g2
end
def Wkn (x y:AV):Prop:=∀ P β w I v,VR P β w I x v->VR P β w I y v
theorem Wkn.refl (x:AV):Wkn x x:=fun _ _ _ _ _ h=>h
theorem Wkn.undef (x:AV):Wkn x .undef:=fun _ _ _ _ _ _=>by simp[VR]
theorem Wkn.wk (x:AV):Wkn x (wk x):=fun _ _ _ _ _ h=>h.wk
section
variable {P:Program} {w0:World} {O0:Was} {N:Nat} {β:Nat->Option Blk} {I:Nat->Prop} {a:Act} {w:World} {f g:Nat->Nat} {D:Nat->Prop}
mutual
theorem VR.rn (hgf:∀ k,D k->g (f k)=k):∀ (x:AV) (v:Value),(∀ k∈refs x,D k)->VR P β w I x v->VR P (fun j=>β (g j)) w I (rnA f x) v
 | .own k off len,v,hd,h=>by simp only[rnA,VR,hgf k (hd k (by simp[refs]))]at h ⊢;exact h
 | .ptr k row off,v,hd,h=>by simp only[rnA,VR,hgf k (hd k (by simp[refs]))]at h ⊢;exact h
 | .agg cs,v,hd,h=>by
  simp only[rnA,VR]at h ⊢;obtain⟨vs,h1,h2⟩:=h;exact⟨vs,h1,VRl.rn hgf cs _ (by simpa[refs]using hd) h2⟩
 | .tup cs,v,hd,h=>by
  simp only[rnA,VR]at h ⊢;obtain⟨vs,h1,h2⟩:=h;exact⟨vs,h1,VRl.rn hgf cs _ (by simpa[refs]using hd) h2⟩
 | .fn F first caps,v,hd,h=>by
  simp only[rnA,VR]at h ⊢;obtain⟨fs,cs,h1,h2,h3⟩:=h;exact⟨fs,cs,h1,VRl.rn hgf first _ (fun k hk=>hd k (by simp[refs,hk])) h2,VRl.rn hgf caps _ (fun k hk=>hd k (by simp[refs,hk])) h3⟩
 | .t x,v,_,h=>by simpa[rnA,VR]using h
 | .rptr r o,v,_,h=>by simpa[rnA,VR]using h
 | .clo φ,v,_,h=>by simpa[rnA,VR]using h
 | .mp k,v,hd,h=>by simp only[rnA,VR,hgf k (hd k (by simp[refs]))]at h ⊢;exact h
 | .nilsl,v,_,h=>by simpa[rnA,VR]using h
 | .ub,v,_,h=>by simpa[rnA,VR]using h
 | .undef,v,_,h=>by simp[rnA,VR]
theorem VRl.rn (hgf:∀ k,D k->g (f k)=k):∀ (xs:List AV) (vs:List Value),(∀ k∈dG xs,D k)->VRl P β w I xs vs->VRl P (fun j=>β (g j)) w I (uG f xs) vs
 |[],[],_,_=>by simp[uG,VRl]
 |x::xs,v::vs,hd,h=>by
  simp only[VRl]at h;simp only[uG,VRl];exact⟨VR.rn hgf x v (fun k hk=>hd k (by simp[dG,hk])) h.1,VRl.rn hgf xs vs (fun k hk=>hd k (by simp[dG,hk])) h.2⟩
 |[],_::_,_,h=>by simp[VRl]at h
 |_::_,[],_,h=>by simp[VRl]at h
end
def RowW (D:Nat->Prop) (f:Nat->Nat):List AV->List AV->Prop
 |[],[]=>True
 |x::xs,y::ys=>((∀ k∈refs x,D k)∧Wkn (rnA f x) y)∧RowW D f xs ys
 |_,_=>False
def RowsW (D:Nat->Prop) (f:Nat->Nat):List (List AV)->List (List AV)->Prop
 |[],[]=>True
 |r::rs,q::qs=>RowW D f r q∧RowsW D f rs qs
 |_,_=>False
theorem RowW.length:∀ {r q:List AV},RowW D f r q->q.length=r.length
 |[],[],_=>rfl
 |_::xs,_::ys,h=>by simp[RowW.length h.2]
 |[],_::_,h=>h.elim
 |_::_,[],h=>h.elim
theorem ORow.re (hgf:∀ k,D k->g (f k)=k):∀ {r q:List AV} {c:Array Value} {off:Nat},RowW D f r q->ORow P β w I r c off->ORow P (fun j=>β (g j)) w I q c off
 |[],[],_,_,_,_=>trivial
 |x::xs,y::ys,c,off,hr,⟨⟨v,h1,h2,h3⟩,h4⟩=>⟨⟨v,h1,hr.1.2 _ _ _ _ _ (VR.rn hgf x v hr.1.1 h2),h3⟩,ORow.re hgf hr.2 h4⟩
 |[],_::_,_,_,h,_=>h.elim
 |_::_,[],_,_,h,_=>h.elim
theorem ORows.re (hgf:∀ k,D k->g (f k)=k):∀ {rs qs:List (List AV)} {c:Array Value} {off sz:Nat},RowsW D f rs qs->ORows P β w I rs c off sz->ORows P (fun j=>β (g j)) w I qs c off sz
 |[],[],_,_,_,_,_=>trivial
 |r::rs,q::qs,c,off,sz,hr,⟨h1,h2,h3⟩=>⟨by rw[hr.1.length];exact h1,ORow.re hgf hr.1 h2,ORows.re hgf hr.2 h3⟩
 |[],_::_,_,_,_,h,_=>h.elim
 |_::_,[],_,_,_,h,_=>h.elim
theorem VRl.re (hgf:∀ k,D k->g (f k)=k):∀ {r q:List AV} {vs:List Value},RowW D f r q->VRl P β w I r vs->VRl P (fun j=>β (g j)) w I q vs
 |[],[],[],_,_=>by simp[VRl]
 |x::xs,y::ys,v::vs,hr,h=>by
  simp only[VRl]at h ⊢;exact⟨hr.1.2 _ _ _ _ _ (VR.rn hgf x v hr.1.1 h.1),VRl.re hgf hr.2 h.2⟩
 |[],_::_,_,h,_=>h.elim
 |_::_,[],_,h,_=>h.elim
 |[],[],_::_,_,h=>by simp[VRl]at h
 |_::_,_::_,[],_,h=>by simp[VRl]at h
theorem MRows.re (hgf:∀ k,D k->g (f k)=k):∀ {rs qs:List (List AV)} {es:List MapEntry},RowsW D f rs qs->MRows P β w I rs es->MRows P (fun j=>β (g j)) w I qs es
 |[],[],[],_,_=>trivial
 |r::rs,q::qs,_::es,hr,⟨h1,h2⟩=>⟨VRl.re hgf hr.1 h1,MRows.re hgf hr.2 h2⟩
 |[],_::_,_,h,_=>h.elim
 |_::_,[],_,h,_=>h.elim
 |[],[],_::_,_,h=>h.elim
 |_::_,_::_,[],_,h=>h.elim
theorem RowsW.length:∀ {rs qs:List (List AV)},RowsW D f rs qs->qs.length=rs.length
 |[],[],_=>rfl
 |_::xs,_::ys,h=>by simp[RowsW.length h.2]
 |[],_::_,h=>h.elim
 |_::_,[],h=>h.elim
theorem Rel.re {s s':St} (hgf:∀ k,D k->g (f k)=k) (hg:∀ j,j < 1000->g j=j) (hr:Rel P w0 O0 N β I s a w) (hok:∀ t,s.ok t=none∨s'.env t= .undef) (hok':∀ t,s'.ok t=none)
 (hE:∀ t,s'.env t= .undef∨((∀ k∈refs (s.env t),D k)∧Wkn (rnA f (s.env t)) (s'.env t)))
 (hO:∀ j o',s'.obj j=some o'->∃ k o,s.obj k=some o∧D k∧f k=j∧o'.sz=o.sz∧RowsW D f o.rows o'.rows):Rel P w0 O0 N (fun j=>β (g j)) I s' a w:=by
 refine⟨hr.defers,hr.size,fun t=>?_,?_⟩
 ·have h1:=hr.env t;rw[hok' t];rcases hok t with hk |h
  rotate_left
  ·rw[h];simp[SlotR,VR]
  rw[hk]at h1;rcases hE t with h |⟨h2,h3⟩
  ·rw[h];simp[SlotR,VR]
  ·exact h3 _ _ _ _ _ (VR.rn hgf _ _ h2 h1)
 ·have hm:=hr.mem;constructor
  ·intro j o' hj;obtain⟨k,o,h1,h2,rfl,h4,h5⟩:=hO j o' hj;obtain⟨B,hB,hOR⟩:=hm.objs k o h1;refine⟨B,by simp only[hgf k h2];exact hB,?_⟩;cases B with
   |none=>
    simp only[OR]at hOR ⊢;rw[hOR]at h5;cases ho:o'.rows with
    |nil=>rfl
    |cons=>rw[ho]at h5;exact h5.elim
   | «at» b sz n=>
    obtain⟨g1,c,e,g2,g3,g4⟩:=hOR;exact⟨by rw[g1,h4],c,e,g2,g3,ORows.re hgf h5 g4⟩
   |mp b=>
    obtain⟨es,cl,g1,gl,g2,g3⟩:=hOR;have hl:=h5.length;exact⟨es,cl,g1,by omega,fun e=>MRows.re hgf h5 (g2 (by omega)),g3⟩
  ·intro j j' o o' B B' b h1 h2 h3 h4 h5 h6;obtain⟨k,q,i1,i2,rfl,_⟩:=hO j o h1;obtain⟨k',q',i1',i2',rfl,_⟩:=hO j' o' h2;simp only[hgf k i2,hgf k' i2']at h3 h4;rw[hm.injB k k' q q' B B' b i1 i1' h3 h4 h5 h6]
  ·intro j o B b h1 h2;obtain⟨k,q,i1,i2,rfl,_⟩:=hO j o h1;simp only[hgf k i2]at h2;exact hm.ownB k q B b i1 h2
  ·exact hm.lt
  ·exact hm.up
  ·exact hm.keep
  ·exact hm.le
  ·exact hm.os
  ·exact hm.tape
  ·exact hm.output
  ·intro j B hj;show β (g j)=some B;rw[hg j (O0.lt j B hj)];exact hm.anch j B hj
  ·exact hm.vars
end
section
variable {X:SX}
theorem abG {D:Nat->Prop} (f:Nat->Nat):∀ r:List (DV X),(∀ k∈bn r,D k)->RowW D f (cK r) (cK (JF f r))
 |[],_=>trivial
 |x::xs,h=>⟨⟨fun k hk=>h k (by rw[iZ]at hk;simp[bn,hk]),by rw[Ez];exact Wkn.refl _⟩,abG f xs fun k hk=>h k (by simp[bn,hk])⟩
theorem I9 {D:Nat->Prop} (f:Nat->Nat) (o:DObj X) (h:∀ k∈orefs o,D k):(dM (rnO f o)).sz=(dM o).sz∧RowsW D f (dM o).rows (dM (rnO f o)).rows:=by
 cases o with
 |cells sz rows=>
  refine⟨rfl,?_⟩;simp only[dM,rnO,map_map];simp only[orefs]at h
  induction rows with
  |nil=>trivial
  |cons r rs ih=>
   refine⟨abG f r fun k hk=>h k (by simp[hk]),ih fun k hk=>h k ?_⟩;simp only[bf,List.flatten_cons,aX];exact .inr hk
 |lst c l=>
  refine⟨rfl,?_⟩;simp only[dM,rnO];generalize l.map (CT.row X.toSE c)=rows;have hrow:∀ r:List Tree,RowW D f (r.map AV.t) (r.map AV.t):=by
   intro r
   induction r with
   |nil=>trivial
   |cons y ys ih=>exact⟨⟨by simp[refs],Wkn.refl _⟩,ih⟩
  induction rows with
  |nil=>trivial
  |cons r rs ih=>exact⟨hrow r,ih⟩
 |map kc vc l=>
  refine⟨rfl,?_⟩;simp only[dM,rnO];clear h
  induction l with
  |nil=>trivial
  |cons p ps ih=>exact⟨⟨⟨by simp[I5],by rw[Zd];exact Wkn.refl _⟩,⟨by simp[I5],by rw[Zd];exact Wkn.refl _⟩,trivial⟩,ih⟩
structure Low (s:DSt X):Prop where
 le:s.nx<=1000000
 ge:1000<=s.nx
 env:∀ t,∀ k∈drefs (lke s.env t),k < s.nx
 obj:∀ k o,lko s.obj k=some o->k < s.nx∧∀ j∈orefs o,j < s.nx
theorem aep {o:DObj X} {r:List AV} {x:AV} (hr:r∈(dM o).rows) (hx:x∈r):∀ j∈refs x,j∈orefs o:=by
 intro j hj;cases o with
 |cells sz rows=>
  simp only[dM,mem_map]at hr;obtain⟨q,hq,rfl⟩:=hr;rw[ni,mem_map]at hx;obtain⟨d,hd,rfl⟩:=hx;simp only[orefs,List.mem_flatten,mem_map];refine⟨_,⟨q,hq,rfl⟩,?_⟩;have:∀ l:List (DV X),d∈l->j∈bn l:=by
   intro l
   induction l with
   |nil=>intro h;simp at h
   |cons y ys ih=>intro h;rcases aI.1 h with rfl |h
                  ·simp only[bn,aX];left;rwa [iZ]at hj
                  ·simp only[bn,aX];exact .inr (ih h)
  exact this q hd
 |lst c l=>
  simp only[dM,aW,mem_map]at hr;obtain⟨q,_,rfl⟩:=hr;simp only[mem_map]at hx;obtain⟨t,_,rfl⟩:=hx;simp[refs]at hj
 |map kc vc l=>
  simp only[dM,mem_map]at hr;obtain⟨q,_,rfl⟩:=hr;simp only[aI,aP,or_false]at hx;rcases hx with rfl |rfl<;>simp[I5]at hj
theorem Low.old {s:DSt X} (h:Low s):Old s.st:=by
 have hle:=h.le;constructor
 ·intro t k hk;have:=h.env t k (by rw[<- iZ];exact hk);omega
 ·intro k o hk;simp only[DSt.st,fB]at hk;obtain⟨o',h1,rfl⟩:=hk;obtain⟨h2,h3⟩:=h.obj k o' h1;refine⟨by omega,fun r hr x hx j hj=>?_⟩;have:=h3 j (aep hr hx j hj);omega
end
section
variable {X:SX} {A:Type}
def lkE (e b:List (Nat×DV X)) (t:Nat):DV X:=match lk e t with |some x=>x |none=>lke b t
def lkO (o b:List (Nat×Option (DObj X))) (k:Nat):Option (DObj X):=match lk o k with |some x=>x |none=>lko b k
def Am (dst:Option Tmp) (dv:DV X) (e:List (Nat×DV X)):List (Nat×DV X):=match dst with |some t=>(t,dv)::e |none=>e
def Ua:DV X->DV X
 | .skip=> .undef
 |x=>x
def J8 (e:List (Nat×DV X)):Operand->Bool
 | .tmp t=>match lk e t with |some .skip=>false |_=>true
 |_=>true
def QB (e b:List (Nat×DV X)) (o:Op):Bool:=
 match o with
 | .pick c x y=>J8 e c&&((J8 e x&&J8 e y) || match Wi (lkE e b) c with | .c .bool t=>bif t then J8 e x else J8 e y |_=>false)
 |o=>o.operands.toList.all (J8 e)
abbrev Fps:=List (Nat×List Nat×List Nat)
section
variable (Γ:FuncId->Option (Sig X)) (fz:List Nat) (T:Tab) (code:TypeId->Option (CT X.ι)) (ops:Array Oper) (b:DSt X)
def zF (k:List (Nat×DV X)->List (Nat×Option (DObj X))->Fps->Option A):List Nat->List (Nat×DV X)->List (Nat×Option (DObj X))->Fps->Option A
 |[],e,o,fps=>k e o fps
 |i::r,e,o,fps=>(ops[i]?).bind fun op=>match op.guard with
  |none=>bif QB e b.env op.op then aen Γ fz T code i op.op (Wi (lkE e b.env)) (lkO o b.obj) fun dv upd rd wr=>zF k r (Am op.dst (Ua dv) e) (upd++o) ((i,rd,wr)::fps)else none
  |some (j,p)=>((ops[j]?).bind (·.dst)).bind fun t=>match lkE e b.env t with
   | .c .bool v=>
    bif v then (bif p then (bif QB ((t,.c .bool true)::e) b.env op.op then aen Γ fz T code i op.op (Wi (lkE ((t,.c .bool true)::e) b.env)) (lkO o b.obj) fun dv upd rd wr=>zF k r (Am op.dst (Ua dv) ((t,.c .bool true)::e)) (upd++o) ((i,rd,wr)::fps)else none)
     else zF k r (Am op.dst .skip ((t,.c .bool true)::e)) o ((i,[],[])::fps))
    else (bif p then zF k r (Am op.dst .skip ((t,.c .bool false)::e)) o ((i,[],[])::fps)
     else (bif QB ((t,.c .bool false)::e) b.env op.op then aen Γ fz T code i op.op (Wi (lkE ((t,.c .bool false)::e) b.env)) (lkO o b.obj) fun dv upd rd wr=>zF k r (Am op.dst (Ua dv) ((t,.c .bool false)::e)) (upd++o) ((i,rd,wr)::fps)else none))
   | .skip=>bif (lk e t).isSome then zF k r (Am op.dst .skip e) o ((i,[],[])::fps)else none
   |_=>none
end
def iB (b:DSt X) (e:List (Nat×DV X)) (o:List (Nat×Option (DObj X))):St:=⟨fun t=>den (lkE e b.env t),fun k=>(lkO o b.obj k).map dM,fun t=>match lk e t with |some .skip=>some false |_=>none⟩
theorem agT (x:DV X):den (Ua x)=den x:=by cases x<;>rfl
theorem aic (b:DSt X) (e:List (Nat×DV X)) (o:List (Nat×Option (DObj X))) (dst:Option Tmp) (dv:DV X) (upd:List (Nat×Option (DObj X))) (obs:List Prop):
 (iB b e o).app dst (⟨den dv,jm upd,obs⟩,none)=iB b (Am dst (Ua dv) e) (upd++o):=by
 simp only[iB,St.app,St.mk.injEq];refine⟨?_,?_,?_⟩
 ·funext t;cases dst with
  |none=>simp[zq,Am]
  |some d=>
   simp only[zq,Am,lkE,lk,aG];by_cases h:d=t<;>simp[h,agT]
 ·funext j
  induction upd with
  |nil=>rfl
  |cons p u ih=>
   obtain⟨q,x⟩:=p;simp only[jm,bf,dQ,cons_append,lkO,lk]at ih ⊢;by_cases h:j=q
   ·simp[h]
   ·rw[aD h,aD (Ne.symm h)];exact ih
 ·funext t;cases dst with
  |none=>simp[zq,Am]
  |some d=>
   simp only[zq,Am,lk,aG];by_cases h:d=t
   ·simp only[h,if_true];cases dv<;>rfl
   ·simp only[aD h]
theorem agU (b:DSt X) (e:List (Nat×DV X)) (o:List (Nat×Option (DObj X))) (dst:Option Tmp):(iB b e o).app dst (⟨.undef,[],[]⟩,some false)=iB b (Am dst .skip e) o:=by
 simp only[iB,St.app,St.mk.injEq];refine⟨?_,rfl,?_⟩
 ·funext t;cases dst with
  |none=>simp[zq,Am]
  |some d=>
   simp only[zq,Am,lkE,lk,aG];by_cases h:d=t<;>simp[h,den]
 ·funext t;cases dst with
  |none=>simp[zq,Am]
  |some d=>
   simp only[zq,Am,lk,aG];by_cases h:d=t<;>simp[h]
theorem abH (b:DSt X) (e:List (Nat×DV X)) (o:List (Nat×Option (DObj X))):opv (iB b e o).env=fun x=>den (Wi (lkE e b.env) x):=by funext x;exact (Tx _ x).symm
theorem C9 {b:DSt X} {e:List (Nat×DV X)} {o:List (Nat×Option (DObj X))} {x:Operand} (h:J8 e x=true):yh (iB b e o).ok x=[]:=by
 cases x with
 |tmp t=>
  simp only[J8]at h;simp only[yh,iB];cases ht:lk e t with
  |none=>rfl
  |some d=>rw[ht]at h;cases d<;>first |rfl |cases h
 |_=>rfl
theorem agV {b:DSt X} {e:List (Nat×DV X)} {o:List (Nat×Option (DObj X))} {P:Program} {T:Tab} {i:Nat} {op:Oper} {orc:Orc} {get:Nat->Option bA} {out:Out} (hok:QB e b.env op.op=true)
 (h:jo P T i op orc (opv (iB b e o).env) get=some out):∀ p∈needs (iB b e o).env (iB b e o).ok op.op,p:=by
 obtain⟨dst,op,ty,pos,after,guard⟩:=op;unfold needs;split
 ·rename_i c x y heq;simp only at heq;subst heq;simp only[QB,aK,Bool.or_eq_true]at hok;obtain⟨hc,hxy⟩:=hok;have hb:∃ t,opv (iB b e o).env c= .t (.sc (.bool t)):=by
   have h0:(∃ n,orc= .ext n)∨(∃ ids fr q,orc= .frz ids fr q)∨rM T i ⟨dst,.pick c x y,ty,pos,after,guard⟩ orc (opv (iB b e o).env) get=some out:=(by cases orc<;>first |exact .inl ⟨_,rfl⟩ |exact .inr (.inl ⟨_,_,_,rfl⟩) |exact .inr (.inr h));rcases h0 with ⟨n,rfl⟩ |⟨ids,fr,q,rfl⟩ |h0
   ·simp[jo,sG,ahO,uU]at h
   ·simp[jo,Gp,adV]at h
   ·simp only[rM]at h0;split at h0
    ·rename_i t ht;exact⟨t,ht⟩
    ·cases h0
  obtain⟨t,ht⟩:=hb;rw[ht];simp only[C9 hc,cu];rcases hxy with ⟨hx,hy⟩ |hxy
  ·simp[C9 hx,C9 hy]
  ·split at hxy
   ·rename_i t' ht';have e1:opv (iB b e o).env c= .t (.sc (.bool t')):=(by rw[abH];simp only[ht'];rfl);rw[e1]at ht;injection ht with ht;injection ht with ht;injection ht with ht;subst ht;cases t' with
    |true=>
     simp only[au]at hxy;simp[C9 hxy]
    |false=>
     simp only[aA]at hxy;simp[C9 hxy]
   ·cases hxy
 ·rename_i o' hne;intro p hp;have hall:∀ x∈op.operands.toList,J8 e x=true:=by
   have:QB e b.env op=op.operands.toList.all (J8 e):=(by cases op<;>first |rfl |exact (hne _ _ _ rfl).elim);rw[this]at hok;exact all_eq_true.1 hok
  simp only[List.mem_flatMap]at hp;obtain⟨x,hx,hp⟩:=hp;rw[C9 (hall x hx)]at hp;simp at hp
theorem aid {a b:List Prop} (h:∀ p∈a,p) (h':jl b):jl (a++b):=sF _ (jr h (LA b h'))
variable {Γ:FuncId->Option (Sig X)} {fz:List Nat} {T:Tab} {code:TypeId->Option (CT X.ι)} {ops:Array Oper} {b:DSt X} {P:Program}
theorem agW (hΓ:GOk P Γ) {i:Nat} {op:Oper} {e:List (Nat×DV X)} {o:List (Nat×Option (DObj X))} {k:KK X A} {r:A} (hop:ops[i]? =some op) (hw:want ops op (iB b e o).env (iB b e o).ok=some true) (hok:QB e b.env op.op=true)
 (h:aen Γ fz T code i op.op (Wi (lkE e b.env)) (lkO o b.obj) k=some r):
 ∃ (a:Ann) (dv:DV X) (upd:List (Nat×Option (DObj X))),a.sym=false∧k dv upd a.rd a.wr=some r∧∀ (ann:Nat->Ann) (K:St->Prop),ann i=a->K (iB b (Am op.dst (Ua dv) e) (upd++o))->eOp P T ops ann i K (iB b e o):=by
 obtain⟨orc,rd,wr,dv,upd,out,h1,h2,h3,h4,h5,h6⟩:=aeo hΓ h;refine⟨⟨orc,rd,wr,false⟩,dv,upd,rfl,h6,fun ann K ha hK=>?_⟩;have h1':jo P T i op orc (opv (iB b e o).env) (fq rd (iB b e o).obj)=some out:=by rw[abH];exact h1
 refine⟨op,(⟨out.v,out.upd,needs (iB b e o).env (iB b e o).ok op.op++out.obs⟩,none),hop,?_,?_,?_⟩
 ·unfold opAt;simp only[hop,ah,hw,ha,h1'];rw[aJ];rw[all_eq_true];intro p hp;rw[h4]at hp;simp only[jm,mem_map]at hp;obtain⟨q,hq,rfl⟩:=hp;rcases h5 q hq with h |h
  ·simp[h,ahP.2 (.inl rfl:ownN (nid i) (nid i))]
  ·simp[h]
 ·exact aid (agV hok h1') h2
 ·rw[h3,h4,aic];exact hK
theorem step_skip {i:Nat} {op:Oper} {e:List (Nat×DV X)} {o:List (Nat×Option (DObj X))} (hop:ops[i]? =some op) (hw:want ops op (iB b e o).env (iB b e o).ok=some false)
 (ann:Nat->Ann) (K:St->Prop) (ha:ann i=⟨.none,[],[],false⟩) (hK:K (iB b (Am op.dst .skip e) o)):eOp P T ops ann i K (iB b e o):=by
 refine⟨op,(⟨.undef,[],[]⟩,some false),hop,?_,trivial,?_⟩
 ·unfold opAt;simp only[hop,ah,hw,ha]
 ·rw[agU];exact hK
theorem aer {e:List (Nat×DV X)} {o:List (Nat×Option (DObj X))} {t:Nat} {v:Bool} (h:lkE e b.env t= .c .bool v):iB b ((t,.c .bool v)::e) o=iB b e o:=by
 simp only[iB,St.mk.injEq,true_and];refine⟨?_,?_⟩
 ·funext s;by_cases hs:t=s
  ·subst hs;rw[h];simp[lkE,lk]
  ·simp[lkE,lk,hs]
 ·funext s;by_cases hs:t=s
  ·subst hs;simp only[lk,if_true];unfold lkE at h;cases ht:lk e t with
   |none=>rfl
   |some d=>rw[ht]at h;simp only at h;subst h;rfl
  ·simp[lk,hs]
def JG (tr:List (Nat×Ann)):Fps:=tr.map fun p=>(p.1,p.2.rd,p.2.wr)
def QC (ops:Array Oper) (t:Nat):Prop:=∃ (j:Nat) (op:Oper),ops[j]? =some op∧op.dst=some t
theorem abI {dst:Option Tmp} {dv:DV X} {e:List (Nat×DV X)} {p:Nat×DV X} (h:p∈Am dst dv e):p∈e∨dst=some p.1:=by
 cases dst with
 |none=>exact .inl h
 |some t=>
  simp only[Am,aI]at h;rcases h with rfl |h
  ·exact .inr rfl
  ·exact .inl h
theorem EB (hΓ:GOk P Γ) {k:List (Nat×DV X)->List (Nat×Option (DObj X))->Fps->Option A} {r:A}:∀ (l:List Nat) (e:List (Nat×DV X)) (o:List (Nat×Option (DObj X))) (fps:Fps),zF Γ fz T code ops b k l e o fps=some r->
 ∃ (tr:List (Nat×Ann)) (e':List (Nat×DV X)) (o':List (Nat×Option (DObj X))),tr.map (·.1)=l∧k e' o' ((JG tr).reverse++fps)=some r∧(∀ p∈e',p∈e∨QC ops p.1)∧
   ∀ ann:Nat->Ann,(∀ p∈tr,ann p.1=p.2)->Oc P T ops ann (fun σ=>σ=iB b e' o') l (iB b e o)
 |[],e,o,fps,h=>⟨[],e,o,rfl,h,fun _ hp=> .inl hp,fun _ _=>rfl⟩
 |i::l,e,o,fps,h=>by
  simp only[zF]at h;rw[ax]at h;obtain⟨op,hop,h⟩:=h
  have exec:∀ e:List (Nat×DV X),want ops op (iB b e o).env (iB b e o).ok=some true->
   (bif QB e b.env op.op then aen Γ fz T code i op.op (Wi (lkE e b.env)) (lkO o b.obj) fun dv upd rd wr=>zF Γ fz T code ops b k l (Am op.dst (Ua dv) e) (upd++o) ((i,rd,wr)::fps)else none)=some r->
   ∃ (tr:List (Nat×Ann)) (e':List (Nat×DV X)) (o':List (Nat×Option (DObj X))),tr.map (·.1)=i::l∧k e' o' ((JG tr).reverse++fps)=some r∧(∀ p∈e',p∈e∨QC ops p.1)∧
     ∀ ann:Nat->Ann,(∀ p∈tr,ann p.1=p.2)->Oc P T ops ann (fun σ=>σ=iB b e' o') (i::l) (iB b e o):=by
   intro e hw h;obtain⟨hok,h⟩:=fH h;obtain⟨a,dv,upd,_,h1,h2⟩:=agW hΓ hop hw hok h;obtain⟨tr,e',o',g1,g2,g4,g3⟩:=EB hΓ l _ _ _ h1;refine⟨(i,a)::tr,e',o',by simp[g1],?_,fun p hp=>(g4 p hp).elim (fun hp=>(abI hp).elim .inl fun hd=> .inr ⟨i,op,hop,hd⟩) .inr,fun ann ha=>?_⟩
   ·simpa[JG]using g2
   ·exact h2 ann _ (ha (i,a) (by simp)) (g3 ann fun p hp=>ha p (by simp[hp]))
  have skip:∀ e:List (Nat×DV X),want ops op (iB b e o).env (iB b e o).ok=some false->zF Γ fz T code ops b k l (Am op.dst .skip e) o ((i,[],[])::fps)=some r->
   ∃ (tr:List (Nat×Ann)) (e':List (Nat×DV X)) (o':List (Nat×Option (DObj X))),tr.map (·.1)=i::l∧k e' o' ((JG tr).reverse++fps)=some r∧(∀ p∈e',p∈e∨QC ops p.1)∧
     ∀ ann:Nat->Ann,(∀ p∈tr,ann p.1=p.2)->Oc P T ops ann (fun σ=>σ=iB b e' o') (i::l) (iB b e o):=by
   intro e hw h;obtain⟨tr,e',o',g1,g2,g4,g3⟩:=EB hΓ l _ _ _ h;refine⟨(i,⟨.none,[],[],false⟩)::tr,e',o',by simp[g1],?_,fun p hp=>(g4 p hp).elim (fun hp=>(abI hp).elim .inl fun hd=> .inr ⟨i,op,hop,hd⟩) .inr,fun ann ha=>?_⟩
   ·simpa[JG]using g2
   ·exact step_skip hop hw ann _ (ha (i,_) (by simp)) (g3 ann fun p hp=>ha p (by simp[hp]))
  split at h
  ·rename_i hg;exact exec e (by simp[want,hg]) h
  ·rename_i j p hg;rw[ax]at h;obtain⟨t,ht,h⟩:=h;split at h
   ·rename_i v hv;have hw:∀ e:List (Nat×DV X),lkE e b.env t= .c .bool v->want ops op (iB b e o).env (iB b e o).ok=some (v==p):=by
     intro e he;simp only[want,hg,ht];have h0:(iB b e o).ok t=none:=by
      simp only[iB];unfold lkE at he;cases hq:lk e t with
      |none=>rfl
      |some d=>rw[hq]at he;simp only at he;subst he;rfl
     have h1:(iB b e o).env t= .t (.sc (.bool v)):=(by simp only[iB,he];rfl);rw[h0,h1]
    have hk:=aer (b:=b) (o:=o) hv;have hv':lkE ((t,.c .bool v)::e) b.env t= .c .bool v:=(by simp[lkE,lk]);have htd:QC ops t:=by
     rw[ax]at ht;obtain⟨oj,h1,h2⟩:=ht;exact⟨j,oj,h1,h2⟩
    have wide:(∃ (tr:List (Nat×Ann)) (e':List (Nat×DV X)) (o':List (Nat×Option (DObj X))),tr.map (·.1)=i::l∧k e' o' ((JG tr).reverse++fps)=some r∧(∀ p∈e',p∈((t,.c .bool v)::e:List (Nat×DV X))∨QC ops p.1)∧
     ∀ ann:Nat->Ann,(∀ p∈tr,ann p.1=p.2)->Oc P T ops ann (fun σ=>σ=iB b e' o') (i::l) (iB b ((t,.c .bool v)::e) o))->
     ∃ (tr:List (Nat×Ann)) (e':List (Nat×DV X)) (o':List (Nat×Option (DObj X))),tr.map (·.1)=i::l∧k e' o' ((JG tr).reverse++fps)=some r∧(∀ p∈e',p∈e∨QC ops p.1)∧
     ∀ ann:Nat->Ann,(∀ p∈tr,ann p.1=p.2)->Oc P T ops ann (fun σ=>σ=iB b e' o') (i::l) (iB b e o):=by
     rintro⟨tr,e',o',g1,g2,g4,g3⟩;refine⟨tr,e',o',g1,g2,fun q hq=>?_,hk ▸ g3⟩;rcases g4 q hq with h |h
     ·rcases aI.1 h with rfl |h
      ·exact .inr htd
      ·exact .inl h
     ·exact .inr h
    apply wide;cases v with
    |true=>
     simp only[au]at h;cases p with
     |true=>exact exec _ (hw _ hv') h
     |false=>exact skip _ (hw _ hv') h
    |false=>
     simp only[aA]at h;cases p with
     |true=>exact skip _ (hw _ hv') h
     |false=>exact exec _ (hw _ hv') h
   ·rename_i hv;obtain⟨hsome,h⟩:=fH h;refine skip e ?_ h;simp only[want,hg,ht];have h1:(iB b e o).env t= .undef:=(by simp only[iB,hv];rfl);cases hq:lk e t with
    |some d=>
     have h0:(iB b e o).ok t=some false:=by
      unfold lkE at hv;rw[hq]at hv;simp only at hv;subst hv;simp only[iB,hq]
     rw[h0,h1]
    |none=>rw[hq]at hsome;cases hsome
   ·cases h
end
section
variable {X:SX} {A:Type}
def fN (nx k:Nat):Nat:=if k < 1000000 then k else nx+(k - 1000000)
def gN (nx j:Nat):Nat:=if j < nx then j else 1000000+(j - nx)
def okN (nx sz k:Nat):Bool:=decide (k < nx) || (decide (1000000<=k)&&decide (k < 1000000+sz))
def okE (nx sz:Nat) (e:List (Nat×DV X)):Bool:=e.all fun p=>(drefs p.2).all (okN nx sz)
def okO (nx sz:Nat) (o:List (Nat×Option (DObj X))):Bool:=o.all fun p=>okN nx sz p.1&&match p.2 with |some x=>(orefs x).all (okN nx sz) |none=>true
def aju (fps:Fps):Nat->Ann:=fun i=>match lk fps i with |some p=>⟨.none,p.1,p.2,false⟩ |none=>⟨.none,[],[],false⟩
def agX (tr:List (Nat×Ann)):Nat->Ann:=fun i=>match lk tr i with |some a=>a |none=>⟨.none,[],[],false⟩
def aie:DV X->DV X
 | .skip=> .undef
 |x=>x
theorem aif (x:DV X):den (aie x)=den x:=by cases x<;>rfl
theorem XQ (x:DV X):drefs (aie x)=drefs x:=by cases x<;>rfl
def fin (s:DSt X) (e:List (Nat×DV X)) (o:List (Nat×Option (DObj X))) (sz:Nat):DSt X:=
 ⟨e.map (fun p=>(p.1,aie (rnD (fN s.nx) p.2)))++s.env,o.map (fun p=>(fN s.nx p.1,p.2.map (rnO (fN s.nx))))++s.obj,s.nx+sz,o.map (fun p=>fN s.nx p.1)++s.log⟩
def aii (N:Nat) (ops:Array Oper) (d:Bool) (nx:Nat) (e:List (Nat×DV X)) (o:List (Nat×Option (DObj X))) (fps:Fps):Bool:=
 Og N ops&&(!d || Qp ops (aju fps))&&okE nx (64*ops.size) e&&okO nx (64*ops.size) o&&decide (nx+64*ops.size<=1000000)
def aes (Γ:FuncId->Option (Sig X)) (fz:List Nat) (T:Tab) (code:TypeId->Option (CT X.ι)) (N:Nat) (ops:Array Oper) (d:Bool) (s:DSt X) (k:DSt X->Option A):Option A:=
 zF Γ fz T code ops s (fun e o fps=>bif aii N ops d s.nx e o fps then k (fin s e o (64*ops.size))else none) (List.range ops.size) [] [] []
theorem abJ {ops:Array Oper} {ann ann':Nat->Ann} (h:∀ i,(ann i).rd=(ann' i).rd∧(ann i).wr=(ann' i).wr):Qp ops ann=Qp ops ann':=by
 have h1:yx ann=yx ann':=by
  funext i j;simp only[yx,(h i).1,(h i).2,(h j).1,(h j).2]
 have h2:∀ md,Oe md ops ann=Oe md ops ann':=by
  intro md;funext listed i;simp only[Oe,h1]
 have h3:∀ (md:Region.Mode) (n k:Nat) (listed:Array Bool),lexFrom' md ops ann n k listed=lexFrom' md ops ann' n k listed:=by
  intro md n
  induction n with
  |zero=>intro k listed;rfl
  |succ n ih=>intro k listed;simp only[lexFrom',h2,ih]
 exact h3 _ _ _ _
theorem Da {α:Type}:∀ (a b:List (Nat×α)) (k:Nat),lk (a++b) k=match lk a k with |some x=>some x |none=>lk b k
 |[],_,_=>rfl
 |(j,x)::a,b,k=>by
  simp only[cons_append,lk];by_cases h:j=k
  ·simp[h]
  ·simp only[aD h,Da a b k]
theorem agh {α:Type}:∀ {l:List (Nat×α)} {k:Nat},lk l k=none->∀ x,(k,x)∉l
 |(j,y)::r,k,h,x=>by
  simp only[lk]at h;split at h
  ·cases h
  ·rename_i hn;simp only[aI,Prod.mk.injEq,not_or];exact⟨fun e=>hn e.1.symm,agh h x⟩
 |[],_,_,_=>by simp
theorem aks {tr:List (Nat×Ann)} (hn:(tr.map (·.1)).Nodup) (i:Nat):(aju (JG tr).reverse i).rd=(agX tr i).rd∧(aju (JG tr).reverse i).wr=(agX tr i).wr:=by
 have hn':((JG tr).reverse.map (·.1)).Nodup:=by
  rw[List.map_reverse];have h1:((JG tr).map (·.1)).Nodup:=by simpa[JG,Function.comp_def]using hn
  exact List.pairwise_reverse.2 (h1.imp fun h=>Ne.symm h)
 unfold aju agX;cases h:lk tr i with
 |none=>
  cases h':lk (JG tr).reverse i with
  |none=>exact⟨rfl,rfl⟩
  |some p=>
   have:=mE h';simp only[JG,List.mem_reverse,mem_map]at this;obtain⟨q,hq,he⟩:=this;injection he with e1 e2;subst e1;exact (agh h q.2 hq).elim
 |some a=>
  have h1:=mE h;have h2:(i,a.rd,a.wr)∈(JG tr).reverse:=by
   simp only[JG,List.mem_reverse,mem_map];exact⟨(i,a),h1,rfl⟩
  rw[y8 hn' h2];exact⟨rfl,rfl⟩
theorem aij {tr:List (Nat×Ann)} (hn:(tr.map (·.1)).Nodup):∀ p∈tr,agX tr p.1=p.2:=by
 rintro⟨i,a⟩ hp;unfold agX;rw[y8 hn hp]
theorem Ub {nx sz k:Nat} (h:okN nx sz k=true):k < nx∨(1000000<=k∧k < 1000000+sz):=by simpa[okN]using h
theorem gfN {nx sz k:Nat} (hle:nx+sz<=1000000) (h:k < nx∨(1000000<=k∧k < 1000000+sz)):gN nx (fN nx k)=k:=by
 unfold gN fN;rcases h with h |⟨h1,h2⟩
 ·rw[aJ (show k < 1000000 by omega),aJ h]
 ·rw[aD (show ¬ k < 1000000 by omega),aD (by omega)];omega
theorem XR {nx sz k:Nat} (hle:nx+sz<=1000000) (h:k < nx∨(1000000<=k∧k < 1000000+sz)):fN nx k < nx+sz:=by
 unfold fN;rcases h with h |⟨h1,h2⟩
 ·rw[aJ (show k < 1000000 by omega)];omega
 ·rw[aD (show ¬ k < 1000000 by omega)];omega
theorem agi {nx k:Nat} (hle:nx<=1000000) (h:k < nx):fN nx k=k:=aJ (by omega)
mutual
theorem Uc {f:Nat->Nat}:∀ x:DV X,(∀ k∈drefs x,f k=k)->rnD f x=x
 | .own k _ _,h=>by simp only[rnD,h k (by simp[drefs])]
 | .ptr k _ _,h=>by simp only[rnD,h k (by simp[drefs])]
 | .ptl k _ _,h=>by simp only[rnD,h k (by simp[drefs])]
 | .mp k,h=>by simp only[rnD,h k (by simp[drefs])]
 | .pta k _ _ _ _,h=>by simp only[rnD,h k (by simp[drefs])]
 | .agg cs,h=>by simp only[rnD,Bf cs (by simpa[drefs]using h)]
 | .tup cs,h=>by simp only[rnD,Bf cs (by simpa[drefs]using h)]
 | .fn F first caps,h=>by simp only[rnD,Bf first (fun k hk=>h k (by simp[drefs,hk])),Bf caps (fun k hk=>h k (by simp[drefs,hk]))]
 | .c _ _,_=>rfl
 | .rp _ _ _,_=>rfl
 | .clo _ _ _,_=>rfl
 | .raw _,_=>rfl
 | .nil,_=>rfl
 | .ub,_=>rfl
 | .skip,_=>rfl
 | .undef,_=>rfl
theorem Bf {f:Nat->Nat}:∀ l:List (DV X),(∀ k∈bn l,f k=k)->JF f l=l
 |[],_=>rfl
 |x::xs,h=>by simp only[JF,Uc x (fun k hk=>h k (by simp[bn,hk])),Bf xs (fun k hk=>h k (by simp[bn,hk]))]
end
mutual
theorem Ud (f:Nat->Nat):∀ x:DV X,drefs (rnD f x)=(drefs x).map f
 | .own _ _ _=>rfl
 | .ptr _ _ _=>rfl
 | .ptl _ _ _=>rfl
 | .mp _=>rfl
 | .pta _ _ _ _ _=>rfl
 | .agg cs=>by simp only[rnD,drefs,za f cs]
 | .tup cs=>by simp only[rnD,drefs,za f cs]
 | .fn F first caps=>by simp only[rnD,drefs,za f first,za f caps,map_append]
 | .c _ _=>rfl
 | .rp _ _ _=>rfl
 | .clo _ _ _=>rfl
 | .raw _=>rfl
 | .nil=>rfl
 | .ub=>rfl
 | .skip=>rfl
 | .undef=>rfl
theorem za (f:Nat->Nat):∀ l:List (DV X),bn (JF f l)=(bn l).map f
 |[]=>rfl
 |x::xs=>by simp only[JF,bn,Ud f x,za f xs,map_append]
end
theorem abK (f:Nat->Nat) (o:DObj X):orefs (rnO f o)=(orefs o).map f:=by
 cases o with
 |cells sz rows=>simp only[rnO,orefs,map_map,List.map_flatten];congr 1;exact map_congr_left fun r _=>za f r
 |lst c l=>rfl
 |map kc vc l=>rfl
theorem aik {α β:Type} (f:α->β):∀ (l:List (Nat×α)) (k:Nat),lk (l.map fun p=>(p.1,f p.2)) k=(lk l k).map f
 |[],_=>rfl
 |(j,x)::r,k=>by
  simp only[bf,lk];by_cases h:j=k
  ·simp[h]
  ·simp only[aD h,aik f r k]
theorem agj {α β:Type} (f:α->β) (g:Nat->Nat):∀ (l:List (Nat×α)) (j:Nat),(∀ p∈l,∀ q∈l,g p.1=g q.1->p.1=q.1)->
 (∀ y,lk (l.map fun p=>(g p.1,f p.2)) j=some y->∃ k x,lk l k=some x∧g k=j∧y=f x)∧(lk (l.map fun p=>(g p.1,f p.2)) j=none->∀ p∈l,g p.1≠j)
 |[],_,_=>⟨fun _ h=>by simp[lk]at h,fun _=>by simp⟩
 |(k0,x0)::r,j,hi=>by
  obtain⟨i1,i2⟩:=agj f g r j (fun p hp q hq=>hi p (by simp[hp]) q (by simp[hq]));simp only[bf,lk];by_cases h:g k0=j
  ·rw[aJ h];exact⟨fun y hy=>by injection hy with hy;exact⟨k0,x0,by simp,h,hy.symm⟩,fun hn=>by cases hn⟩
  ·rw[aD h];refine⟨fun y hy=>?_,fun hn p hp=>?_⟩
   ·obtain⟨k,x,h1,h2,h3⟩:=i1 y hy;refine⟨k,x,?_,h2,h3⟩;have hne:k0≠k:=fun e=>h (by rw[e];exact h2);rw[aD hne];exact h1
   ·rcases aI.1 hp with rfl |hp
    ·exact h
    ·exact i2 hn p hp
structure Ext (ds:Nat->Prop) (s s':DSt X):Prop where
 env:∀ t,¬ ds t->lke s'.env t=lke s.env t∨lke s'.env t= .undef
 obj:∃ d,s'.log=d++s.log∧∀ k,k < s.nx->k∉d->lko s'.obj k=lko s.obj k∨lko s'.obj k=none
 nx:s.nx<=s'.nx
variable {Γ:FuncId->Option (Sig X)} {fz:List Nat} {T:Tab} {code:TypeId->Option (CT X.ι)} {P:Program} {N:Nat}
theorem LY (s:DSt X) (e:List (Nat×DV X)) (o:List (Nat×Option (DObj X))) (sz t:Nat):lke (fin s e o sz).env t=match lk e t with |some d=>aie (rnD (fN s.nx) d) |none=>lke s.env t:=by
 simp only[fin,lke,Da,aik (fun d=>aie (rnD (fN s.nx) d))];cases lk e t<;>rfl
theorem Zg (hT:gm P T) (hm:P.follows .mixedOrders=true) (hΓ:GOk P Γ) {id:Nat} {ops:Array Oper} {d:Bool} {s:DSt X} {k:DSt X->Option A} {r:A} (hl:Low s) (h:aes Γ fz T code N ops d s k=some r):
 ∃ s':DSt X,k s'=some r∧Low s'∧Ext (QC ops) s s'∧Ev P N (.region id ops d) (fun e σ=>e= .normal∧σ=s'.st) s.st:=by
 unfold aes at h;obtain⟨tr,e,o,h1,h2,h3,h4⟩:=EB hΓ _ _ _ _ h;obtain⟨h5,h6⟩:=fH h2;simp only[aii,aK,append_nil]at h5;obtain⟨⟨⟨⟨hd,hlex⟩,hE⟩,hO⟩,hnx⟩:=h5;have hle:s.nx+64*ops.size<=1000000:=of_decide_eq_true hnx;have hnod:(tr.map (·.1)).Nodup:=by rw[h1];exact List.nodup_range
 have hEn:∀ t x,lk e t=some x->∀ j∈drefs x,j < s.nx∨(1000000<=j∧j < 1000000+64*ops.size):=by
  intro t x hx j hj;have:=all_eq_true.1 hE _ (mE hx);exact Ub (all_eq_true.1 this j hj)
 have hOn:∀ p∈o,(p.1 < s.nx∨(1000000<=p.1∧p.1 < 1000000+64*ops.size))∧∀ x,p.2=some x->∀ j∈orefs x,j < s.nx∨(1000000<=j∧j < 1000000+64*ops.size):=by
  intro p hp;have:=all_eq_true.1 hO _ hp;simp only[aK]at this;refine⟨Ub this.1,fun x hx j hj=>?_⟩;have h2:=this.2;rw[hx]at h2;exact Ub (all_eq_true.1 h2 j hj)
 have hinj:∀ p∈o,∀ q∈o,fN s.nx p.1=fN s.nx q.1->p.1=q.1:=by
  intro p hp q hq he;have:=congrArg (gN s.nx) he
  rwa [gfN hle (hOn p hp).1,gfN hle (hOn q hq).1]at this
 have hlko:∀ j,(∃ q x,lk o q=some x∧fN s.nx q=j∧lko (fin s e o (64*ops.size)).obj j=x.map (rnO (fN s.nx)))∨(lko (fin s e o (64*ops.size)).obj j=lko s.obj j∧∀ p∈o,fN s.nx p.1≠j):=by
  intro j;obtain⟨i1,i2⟩:=agj (fun x:Option (DObj X)=>x.map (rnO (fN s.nx))) (fN s.nx) o j hinj;simp only[fin,lko,Da];cases hj:lk (o.map fun p=>(fN s.nx p.1,p.2.map (rnO (fN s.nx)))) j with
  |none=>exact .inr ⟨rfl,i2 hj⟩
  |some y=>
   obtain⟨q,x,g1,g2,g3⟩:=i1 y hj;exact .inl ⟨q,x,g1,g2,by rw[g3];rfl⟩
 refine⟨fin s e o (64*ops.size),h6,?_,?_,?_⟩
 ·constructor
  ·exact hle
  ·have:=hl.ge;show 1000<=s.nx+64*ops.size;omega
  ·intro t j hj;rw[LY]at hj;cases ht:lk e t with
   |none=>rw[ht]at hj;have:=hl.env t j hj;show j < s.nx+64*ops.size;omega
   |some x=>
    rw[ht,XQ,Ud]at hj;obtain⟨q,hq,rfl⟩:=mem_map.1 hj;exact XR hle (hEn t x ht q hq)
  ·intro j x hx;rcases hlko j with ⟨q,y,g1,rfl,g3⟩ |⟨g1,_⟩
   ·rw[g3]at hx;rw[fB]at hx;obtain⟨z,rfl,rfl⟩:=hx;obtain⟨k1,k2⟩:=hOn _ (mE g1);refine⟨XR hle k1,fun i hi=>?_⟩;rw[abK]at hi;obtain⟨i',hi',rfl⟩:=mem_map.1 hi;exact XR hle (k2 z rfl i' hi')
   ·rw[g1]at hx;obtain⟨k1,k2⟩:=hl.obj j x hx;refine⟨show j < s.nx+64*ops.size by omega,fun i hi=>?_⟩;have:=k2 i hi;show i < s.nx+64*ops.size;omega
 ·refine⟨fun t ht=> .inl ?_,⟨o.map (fun p=>fN s.nx p.1),rfl,fun j hj hn=>?_⟩,by show s.nx<=s.nx+64*ops.size;omega⟩
  ·rw[LY];cases hx:lk e t with
   |none=>rfl
   |some x=>
    rcases h3 _ (mE hx)with h |h
    ·simp at h
    ·exact (ht h).elim
  ·rcases hlko j with ⟨q,y,g1,g2,g3⟩ |⟨g1,_⟩
   ·exact (hn (mem_map.2 ⟨(q,y),mE g1,g2⟩)).elim
   ·exact .inl g1
 ·have hst:iB s [] []=s.st:=rfl;have hex:=h4 (agX tr) (aij hnod);rw[hst]at hex;intro w0 O0 β I a w hr ho;have done:∀ (e':Exit) (a':Act) (w':World),(∃ β' I' σ1,Rel P w0 O0 N β' I' σ1 a' w'∧e'= .normal∧σ1=iB s e o)->∃ β' I' σ1,Rel P w0 O0 N β' I' σ1 a' w'∧Old σ1∧e'= .normal∧σ1=(fin s e o (64*ops.size)).st:=by
   rintro e' a' w' ⟨β',I',σ1,g1,rfl,rfl⟩;refine⟨_,I',(fin s e o (64*ops.size)).st,Rel.re (f:=fN s.nx) (g:=gN s.nx) (D:=fun k=>k < s.nx∨(1000000<=k∧k < 1000000+64*ops.size)) (fun k hk=>gfN hle hk) (fun j hj=>by have:=hl.ge;unfold gN;rw[aJ (by omega)]) g1 (fun t=>?_) (fun _=>rfl) (fun t=> .inr ?_) (fun j o' hj=>?_),?_,rfl,rfl⟩
   ·show (match lk e t with |some .skip=>some false |_=>none)=none∨den (lke (fin s e o (64*ops.size)).env t)= .undef;rw[LY];cases ht:lk e t with
    |none=>exact .inl rfl
    |some d=>cases d<;>first |exact .inl rfl |exact .inr rfl
   ·show (∀ k∈refs (den (lkE e s.env t)),_)∧Wkn (rnA (fN s.nx) (den (lkE e s.env t))) (den (lke (fin s e o (64*ops.size)).env t));rw[LY,iZ,<- Ez];unfold lkE;cases ht:lk e t with
    |none=>
     refine⟨fun q hq=> .inl (hl.env t q hq),?_⟩;rw[Uc _ (fun q hq=>agi (by omega) (hl.env t q hq))];exact Wkn.refl _
    |some x=>exact⟨hEn t x ht,by simp only[aif];exact Wkn.refl _⟩
   ·simp only[DSt.st,fB]at hj;obtain⟨x,hx,rfl⟩:=hj;rcases hlko j with ⟨q,y,i1,rfl,i3⟩ |⟨i1,i2⟩
    ·rw[i3,fB]at hx;obtain⟨z,rfl,rfl⟩:=hx;obtain⟨k1,k2⟩:=hOn _ (mE i1);obtain⟨r1,r2⟩:=I9 (D:=fun k=>k < s.nx∨(1000000<=k∧k < 1000000+64*ops.size)) (fN s.nx) z (fun i hi=>k2 z rfl i hi);refine⟨q,dM z,?_,k1,rfl,r1,r2⟩;simp only[iB,lkO,i1,Option.map_some]
    ·rw[i1]at hx;obtain⟨k1,k2⟩:=hl.obj j x hx;have hid:rnO (fN s.nx) x=x:=by
      cases x with
      |lst c l=>rfl
      |map kc vc l=>rfl
      |cells sz rows=>
       simp only[rnO];congr 1;have:∀ q∈rows,JF (fN s.nx) q=q:=fun q hq=>Bf q fun i hi=>agi (by omega) (k2 i (by
        simp only[orefs,List.mem_flatten,mem_map];exact⟨_,⟨q,hq,rfl⟩,hi⟩))
       rw[map_congr_left this];simp
     obtain⟨r1,r2⟩:=I9 (D:=fun k=>k < s.nx∨(1000000<=k∧k < 1000000+64*ops.size)) (fN s.nx) x (fun i hi=> .inl (k2 i hi));rw[hid]at r1 r2;refine⟨j,dM x,?_,.inl k1,agi (by omega) k1,r1,r2⟩;simp only[iB,lkO];cases hlo:lk o j with
     |none=>simp[hx]
     |some y=>exact (i2 _ (mE hlo) (agi (by omega) k1)).elim
   ·have hL:Low (fin s e o (64*ops.size)):=by
     constructor
     ·exact hle
     ·have:=hl.ge;show 1000<=s.nx+64*ops.size;omega
     ·intro t j hj;rw[LY]at hj;cases ht:lk e t with
      |none=>rw[ht]at hj;have:=hl.env t j hj;show j < s.nx+64*ops.size;omega
      |some x=>
       rw[ht,XQ,Ud]at hj;obtain⟨q,hq,rfl⟩:=mem_map.1 hj;exact XR hle (hEn t x ht q hq)
     ·intro j x hx;rcases hlko j with ⟨q,y,g1,rfl,g3⟩ |⟨g1,_⟩
      ·rw[g3]at hx;rw[fB]at hx;obtain⟨z,rfl,rfl⟩:=hx;obtain⟨k1,k2⟩:=hOn _ (mE g1);refine⟨XR hle k1,fun i hi=>?_⟩;rw[abK]at hi;obtain⟨i',hi',rfl⟩:=mem_map.1 hi;exact XR hle (k2 z rfl i' hi')
      ·rw[g1]at hx;obtain⟨k1,k2⟩:=hl.obj j x hx;refine⟨show j < s.nx+64*ops.size by omega,fun i hi=>?_⟩;have:=k2 i hi;show i < s.nx+64*ops.size;omega
    exact hL.old
  cases d with
  |false=>exact wp_mono (Xl hT hd ho hex hr) done
  |true=>
   refine wp_mono (Gq hT hm hd ?_ ho hex hr) done;rw[<- abJ (aks hnod)];simpa using hlex
end
end Go.Gb
