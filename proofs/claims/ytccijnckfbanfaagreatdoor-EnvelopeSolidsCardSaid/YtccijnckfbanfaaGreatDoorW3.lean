/-
  The operations of the typed walk.
-/
import Derived.Test.YtccijnckfbanfaaGreatDoorW2
open Option (bind_some)
open List (map_cons mem_cons append_assoc mem_append mem_map all_eq_true mem_singleton nil_append cons_append length_map append_nil mem_cons_of_mem map_map map_congr_left flatten_cons map_nil all_cons map_take map_drop mem_flatMap map_append mem_append_left mem_append_right)
open Bool (and_eq_true)
namespace Go.Gb
open Go.RowKit
def at? {α:Type} (l:List α) (n:Int):Option α:=bif decide (0<=n)then l[n.toNat]? else none
def sub {α:Type} (l:List α) (off len:Nat):List α:=(l.drop off).take len
def inb (n:Int) (len:Nat):Bool:=decide (0<=n)&&decide (n < (len:Int))
def lD {α β:Type} (a:α) (f:α->β):β:=f a
def bG (lo len ln n bytes:Nat):Bool:=decide (lo=len)&&decide (ln=n)&&decide ((len+n)*bytes<=140737488355328)&&decide (len+n<=maxLen)
def eqL (a b:Nat):Bool:=decide (a=b)
def AR (l h:Int) (len:Nat):Bool:=decide (0<=l)&&decide (l<=h)&&decide (h<=(len:Int))
abbrev iN (n:Int):Int:=n
abbrev bN (b:Bool):Bool:=b
def Rb {A:Type}:List Bool->Option A->Option A
 |[],k=>k
 |c::cs,k=>bif c then Rb cs k else none
section
variable {X:SX} {A:Type}
abbrev KK (X:SX) (A:Type):=DV X->List (Nat×Option (DObj X))->List Nat->List Nat->Option A
def aeM (t:Bool) (x y:DV X):DV X:=
 match x,y with
 | .c a p,.c b q=>match decEq b a with
  |isTrue h=> .c a (bif t then p else h ▸ q)
  |isFalse _=>bif t then .c a p else .c b q
 |x,y=>bif t then x else y
def JQ (agg:Bool) (size:Nat) (cs:List (DV X)):Option (DV X):=
 if cs.length=size then (if agg then some (.agg cs)else match cs with |[x]=>if sO x then some x else none |_=>none)else none
def acJ (agg:Bool) (size:Nat) (c:CT X.ι) (y:CT.T X.toSE c) (off:Nat):Option (DV X):=
 match c,y with
 | .st i,y=>if off=0∧agg=true∧size=(X.tys i).length then some (.c (.st i) y)else JQ agg size (((xh (.st i) y).drop off).take size)
 |c,y=>JQ agg size (((xh c y).drop off).take size)
def GD (d:DV X) (c:CT X.ι):Option (CT.T X.toSE c):=
 match d,c with
 | .c a x,c=>iy a c x
 | .nil,.sl _=>some []
 | .nil,.any=>some (.sl [])
 |_,_=>none
def xk:List (DV X)->(l:List (CT X.ι))->Option (HL X.toSE l)
 |[],[]=>some ()
 |d::ds,c::l=>(GD d c).bind fun x=>(xk ds l).bind fun h=>some (x,h)
 |_,_=>none
def aa4 (d:DV X) (i:X.ι):Option (CT.T X.toSE (.st i)):=
 match d with
 | .agg cs=>(xk cs (X.tys i)).bind fun h=>some (X.make i h)
 | .c a x=>iy a (.st i) x
 |_=>none
def dat (d:DV X) (c:CT X.ι):Option (CT.T X.toSE c):=
 match c with
 | .st i=>aa4 d i
 |c=>GD d c
def mk1 (c:CT X.ι):List (DV X)->Option (CT.T X.toSE c)
 |[d]=>GD d c
 |_=>none
def JS (c:CT X.ι) (ds:List (DV X)):Option (CT.T X.toSE c):=
 match c with
 | .st i=>(xk ds (X.tys i)).bind fun h=>some (X.make i h)
 |c=>mk1 c ds
def aeN (r:List (DV X)) (off:Nat) (cs:List (DV X)):List (DV X):=r.take off++cs++r.drop (off+cs.length)
variable (T:Tab) (code:TypeId->Option (CT X.ι))
def ldD (t:TypeId) (x:DV X) (get:Nat->Option (DObj X)) (k:KK X A):Option A:=
 (T t).bind fun ti=>match x with
 | .ptr kk row off=>(get kk).bind fun o=>match o with
  | .cells _ rows=>(rows[row]?).bind fun r=>(JQ ti.agg ti.size ((r.drop off).take ti.size)).bind fun v=>k v [] [kk] []
  |_=>none
 | .ptl kk n off=>(get kk).bind fun o=>match o with
  | .lst c l=>(at? l n).bind fun y=>(acJ ti.agg ti.size c y off).bind fun v=>k v [] [kk] []
  |_=>none
 | .rp c y off=>(acJ ti.agg ti.size c y off).bind fun v=>k v [] [] []
 |_=>none
def stD (t:TypeId) (x y:DV X) (get:Nat->Option (DObj X)) (k:KK X A):Option A:=
 (T t).bind fun ti=>(cellsD y).bind fun cs=>if cs.length=ti.size then match x with
 | .ptr kk row off=>(get kk).bind fun o=>match o with
  | .cells sz rows=>(rows[row]?).bind fun r=>if off+cs.length<=r.length then k .undef [(kk,some (.cells sz (rows.set row (aeN r off cs))))] [kk] [kk]else none
  |_=>none
 | .ptl kk n off=>(get kk).bind fun o=>match o with
  | .lst c l=>(at? l n).bind fun y=>if off+cs.length<=CT.sz X c then (JS c (aeN (xh c y) off cs)).bind fun z=>k .undef [(kk,some (.lst c (l.set n.toNat z)))] [kk] [kk]else none
  |_=>none
 |_=>none else none
def Ik (t:TypeId) (x:DV X) (f:Nat) (k:KK X A):Option A:=
 (yX T t f).bind fun p=>match x with
 | .ptr kk row off=>k (.ptr kk row (off+p.1)) [] [] []
 | .ptl kk n off=>k (.ptl kk n (off+p.1)) [] [] []
 | .rp c y off=>k (.rp c y (off+p.1)) [] [] []
 |_=>none
def aa5 (t:TypeId) (x:DV X) (f:Nat) (k:KK X A):Option A:=
 (yX T t f).bind fun p=>match x with
 | .agg cs=>(JQ p.2.agg p.2.size ((cs.drop p.1).take p.2.size)).bind fun v=>k v [] [] []
 | .c (.st i) y=>(JQ p.2.agg p.2.size (((xh (.st i) y).drop p.1).take p.2.size)).bind fun v=>k v [] [] []
 |_=>none
def Im (t:TypeId) (x j:DV X) (get:Nat->Option (DObj X)) (k:KK X A):Option A:=
 (T t).bind fun ti=>match ti.k,j with
 | .slice e,.c (.int _) n=>(T e).bind fun ei=>match x with
  | .c (.sl c) l=>if CT.sz X c=ei.size then (at? l n).bind fun y=>k (.rp c y 0) [] [] []else none
  | .own kk off len=>(get kk).bind fun o=>match o with
   | .lst c _=>if CT.sz X c=ei.size then bif inb n len then k (.ptl kk ((off:Int)+iN n) 0) [] [kk] []else none else none
   | .cells sz _=>if sz=ei.size then bif inb n len then k (.ptr kk (off+n.toNat) 0) [] [kk] []else none else none
   | .map _ _ _=>none
  |_=>none
 | .arr m e,.c (.int _) n=>(T e).bind fun ei=>bif inb n m then match x with
  | .ptr kk row off=>k (.ptr kk row (off+n.toNat*ei.size)) [] [] []
  | .ptl kk r off=>k (.ptl kk r (off+n.toNat*ei.size)) [] [] []
  | .rp c y off=>k (.rp c y (off+n.toNat*ei.size)) [] [] []
  |_=>none
  else none
 |_,_=>none
def Rc (x:DV X) (j:Nat) (k:KK X A):Option A:=
 match x with
 | .tup vs=>(vs[j]?).bind fun v=>k v [] [] []
 |_=>none
def EA (op:BinOp) (kd:IntKind) (a b:Int):(DV X)×Option Bool:=
 match op with
 | .add=>(.c (.int kd) (kd.wrap (a+b)),none)
 | .sub=>(.c (.int kd) (kd.wrap (a - b)),none)
 | .mul=>(.c (.int kd) (kd.wrap (a*b)),none)
 | .quo=>(.c (.int kd) (kd.wrap (a.tdiv b)),some (b != 0))
 | .rem=>(.c (.int kd) (a.tmod b),some (b != 0))
 | .and=>(.c (.int kd) (bits .and kd a b),none)
 | .or=>(.c (.int kd) (bits .or kd a b),none)
 | .xor=>(.c (.int kd) (bits .xor kd a b),none)
 | .andNot=>(.c (.int kd) (bits .andNot kd a b),none)
 | .shl=>(.c (.int kd) (kd.wrap (a*2 ^ b.toNat)),some (decide (0<=b)&&decide (b<=kd.bits)))
 | .shr=>(.c (.int kd) (a/2 ^ b.toNat),some (decide (0<=b)&&decide (b<=kd.bits)))
 | .eql=>(.c .bool (a==b),none)
 | .neq=>(.c .bool (a != b),none)
 | .lss=>(.c .bool (decide (a < b)),none)
 | .leq=>(.c .bool (decide (a<=b)),none)
 | .gtr=>(.c .bool (decide (a>b)),none)
 | .geq=>(.c .bool (decide (a>=b)),none)
def WW:Nat->DV X->DV X->Option Bool
 | 0,.c (.int j) a,.c (.int k) b=>if j=k then some (iN a==iN b)else none
 | 1,.c .bool a,.c .bool b=>some (bN a==bN b)
 | 2,.c .str a,.c .str b=>some (a.toList==b.toList)
 |_,_,_=>none
def tL:List Nat->List (DV X)->List (DV X)->Option Bool
 |[],[],[]=>some true
 |k::ks,x::xs,y::ys=>(WW k x y).bind fun a=>(tL ks xs ys).bind fun b=>some (a&&b)
 |_,_,_=>none
def agc:DV X->Option (List (DV X))
 | .agg cs=>some cs
 | .c (.st i) y=>some (xh (.st i) y)
 |_=>none
def ahj (op:BinOp) (t:TypeId) (x y:DV X) (k:KK X A):Option A:=
 match x,y with
 | .c (.int kd) a,.c (.int yk) b=>if kd=yk∨op= .shl∨op= .shr then match (EA op kd a b:DV X×Option Bool).2 with
  |none=>k (EA op kd a b).1 [] [] []
  |some g=>bif g then k (EA op kd a b).1 [] [] []else none
  else none
 | .c .str a,.c .str b=>match op with
  | .eql=>k (.c .bool (a.toList==b.toList)) [] [] []
  | .neq=>k (.c .bool (!(a.toList==b.toList))) [] [] []
  |_=>none
 | .c .bool a,.c .bool b=>(T t).bind fun ti=>match ti.k,op with
  | .bool,.eql=>k (.c .bool (bN a==bN b)) [] [] []
  | .bool,.neq=>k (.c .bool (!(bN a==bN b))) [] [] []
  |_,_=>none
 |x,y=>(agc x).bind fun xs=>(agc y).bind fun ys=>(T t).bind fun ti=>if ti.cmp=[]then none else (tL ti.cmp xs ys).bind fun b=>match op with
  | .eql=>k (.c .bool b) [] [] []
  | .neq=>k (.c .bool (!b)) [] [] []
  |_=>none
def unD (op:UnOp) (x:DV X) (k:KK X A):Option A:=
 match op,x with
 | .not,.c .bool b=>k (.c .bool (!b)) [] [] []
 | .neg,.c (.int kd) n=>k (.c (.int kd) (kd.wrap (0 - iN n))) [] [] []
 |_,_=>none
def Gh (mx:Bool) (kd:IntKind):Int->List (DV X)->Option Int
 |a,[]=>some a
 |a,.c (.int k') b::r=>if k'=kd then Gh mx kd (if mx then max a b else min a b) r else none
 |_,_=>none
def mmD (mx:Bool) (args:List (DV X)) (k:KK X A):Option A:=
 match args with
 | .c (.int kd) a::r=>(Gh mx kd a r).bind fun n=>k (.c (.int kd) n) [] [] []
 |_=>none
def ahk (t:TypeId) (x:DV X) (k:KK X A):Option A:=
 (T t).bind fun ti=>match ti.k,x with
 | .slice _,.c (.sl _) l=>k (.c (.int .i64) (l.length:Int)) [] [] []
 | .slice _,.own _ _ len=>k (.c (.int .i64) (len:Int)) [] [] []
 | .slice _,.nil=>k (.c (.int .i64) (0:Int)) [] [] []
 | .str,.c .str s=>k (.c (.int .i64) (s.size:Int)) [] [] []
 |_,_=>none
def Vg (place:Nat->Option (Nat×Nat)):List (DV X)->List (Nat×DV X)->Option (List (DV X))
 |cells,[]=>some cells
 |cells,(j,x)::rest=>(place j).bind fun p=>(cellsD x).bind fun cs=>
  if cs.length=p.2∧p.1+cs.length<=cells.length then Vg place (aeN cells p.1 cs) rest else none
def aa6 (t:TypeId) (parts:List (Nat×DV X)) (k:KK X A):Option A:=
 (T t).bind fun ti=>match ti.k with
 | .struct fs=>if fs.all (fun p=>(T p.2).isSome)then
  (Vg (fun j=>(fs[j]?).bind fun p=>(T p.2).bind fun ui=>some (p.1,ui.size)) (ti.zero.map cvD) parts).bind fun cells=>k (.agg cells) [] [] []else none
 | .arr _ e=>(T e).bind fun ei=>(Vg (fun j=>some (j*ei.size,ei.size)) (ti.zero.map cvD) parts).bind fun cells=>k (.agg cells) [] [] []
 |_=>none
def aeO (c:CT X.ι):Nat->List (Nat×DV X)->Option (List (CT.T X.toSE c))
 |_,[]=>some []
 |n,(j,x)::r=>if j=n then (dat x c).bind fun y=>(aeO c (n+1) r).bind fun l=>some (y::l)else none
def EB (i:Nat) (t:TypeId) (len:Nat) (parts:List (Nat×DV X)) (k:KK X A):Option A:=
 (T t).bind fun ti=>match ti.k with
 | .slice e=>(T e).bind fun ei=>(code e).bind fun c=>if ei.size=0∨len*ei.size>2 ^ 24∨CT.sz X c≠ei.size∨parts.length≠len then none else
  (aeO c 0 parts).bind fun l=>k (.own (nid i) 0 len) [(nid i,some (.lst c l))] [] []
 |_=>none
def aa7 (i:Nat) (e:TypeId) (k:KK X A):Option A:=
 (T e).bind fun ti=>k (.ptr (nid i) 0 0) [(nid i,some (.cells ti.size [ti.zero.map cvD]))] [] []
def ahl (i:Nat) (x:DV X) (k:KK X A):Option A:=
 (cellsD x).bind fun cs=>k (.ptr (nid i) 0 0) [(nid i,some (.cells cs.length [cs]))] [] []
def YM (d:Int):Option (DV X)->Option Int
 |none=>some d
 |some (.c (.int _) n)=>some n
 |_=>none
def aa8 (t:TypeId) (x:DV X) (lo hi:Option (DV X)) (get:Nat->Option (DObj X)) (k:KK X A):Option A:=
 (T t).bind fun ti=>match ti.k with
 | .slice e=>(T e).bind fun ei=>match x with
  | .own kk off len=>(get kk).bind fun o=>if (aU o).sz=ei.size then (YM 0 lo).bind fun l=>(YM len hi).bind fun h=>
   bif AR l h len then k (.own kk (off+l.toNat) (h.toNat - l.toNat)) [] [kk] []else none else none
  | .c (.sl c) xs=>if CT.sz X c=ei.size then (YM 0 lo).bind fun l=>(YM xs.length hi).bind fun h=>
   bif AR l h xs.length then k (.c (.sl c) (sub xs l.toNat (h.toNat - l.toNat))) [] [] []else none else none
  |_=>none
 |_=>none
def ahm (y:DV X) (c:CT X.ι) (get:Nat->Option (DObj X)):Option (Nat×List (CT.T X.toSE c)×List Nat):=
 match y with
 | .own kk off len=>(get kk).bind fun o=>match o with
  | .lst b l=>(iy (.sl b) (.sl c) l).bind fun l=>some (len,sub l off len,[kk])
  |_=>none
 | .c b l=>(iy b (.sl c) l).bind fun (l:List (CT.T X.toSE c))=>some (l.length,l,[])
 |_=>none
def WX (i:Nat) (t:TypeId) (x y:DV X) (get:Nat->Option (DObj X)) (k:KK X A):Option A:=
 (T t).bind fun ti=>match ti.k with
 | .slice e=>(T e).bind fun ei=>(code e).bind fun c=>if CT.sz X c=ei.size then (ahm y c get).bind fun s=>match x with
  | .own kk 0 len=>(get kk).bind fun o=>match o with
   | .lst b l=>(iy (.sl b) (.sl c) l).bind fun (l:List (CT.T X.toSE c))=>bif bG l.length len s.2.1.length s.1 ei.bytes then lD (l++s.2.1) fun r=>k (.own (nid i) 0 r.length) [(nid i,some (.lst c r)),(kk,none)] (kk::s.2.2) [kk]else none
   |_=>none
  | .nil=>bif bG 0 0 s.2.1.length s.1 ei.bytes then lD s.2.1 fun r=>k (.own (nid i) 0 r.length) [(nid i,some (.lst c r))] s.2.2 []else none
  |_=>none
  else none
 |_=>none
def Rf (i:Nat) (b:Builtin) (args:List (DV X)) (tys:List TypeId) (get:Nat->Option (DObj X)) (k:KK X A):Option A:=
 match b,args,tys with
 | .len,[x],[t]=>ahk T t x k
 | .max,args,_=>mmD true args k
 | .min,args,_=>mmD false args k
 | .append,[x,y],[t,u]=>if t=u then WX T code i t x y get k else none
 |_,_,_=>none
def opD (i:Nat) (o:Op) (ρ:Operand->DV X) (get:Nat->Option (DObj X)) (k:KK X A):Option A:=
 match o with
 | .move x=>k (ρ x) [] [] []
 | .assign x=>k (ρ x) [] [] []
 | .pick c a b=>match ρ c with | .c .bool t=>k (aeM t (ρ a) (ρ b)) [] [] [] |_=>none
 | .alloc e=>aa7 T i e k
 | .box _ x=>ahl i (ρ x) k
 | .build t parts=>aa6 T t (parts.toList.map fun p=>(p.1,ρ p.2)) k
 | .buildSlice t len parts=>EB T code i t len (parts.toList.map fun p=>(p.1,ρ p.2)) k
 | .load t a=>ldD T t (ρ a) get k
 | .store t a x=>stD T t (ρ a) (ρ x) get k
 | .binOp op t x y _=>ahj T op t (ρ x) (ρ y) k
 | .unOp op _ x=>unD op (ρ x) k
 | .makeFunc (.func f) first caps=>k (.fn f (first.toList.map ρ) (caps.toList.map ρ)) [] [] []
 | .slice t x lo hi none=>aa8 T t (ρ x) (lo.map ρ) (hi.map ρ) get k
 | .fieldAddr t x f=>Ik T t (ρ x) f k
 | .field t x f=>aa5 T t (ρ x) f k
 | .indexAddr t x j=>Im T t (ρ x) (ρ j) get k
 | .extract x j=>Rc (ρ x) j k
 | .call { callee:= .builtin b,args:=args,argTypes:=tys }=>Rf T code i b (args.toList.map ρ) tys.toList get k
 |_=>none
end
section
variable {X:SX} {A:Type} {T:Tab} {code:TypeId->Option (CT X.ι)} {get:Nat->Option (DObj X)} {k:KK X A} {r:A} {i:Nat}
def dL (get:Nat->Option (DObj X)):Nat->Option aF:=fun j=>(get j).map aU
theorem dK {rd:List Nat} {j:Nat} {o:DObj X} (hj:j∈rd) (h:get j=some o):bS rd (dL get) j=some (aU o):=by simp[bS,hj,dL,h]
theorem iT (l:List (DV X)):(aP l).length=l.length:=by simp[kQ]
theorem lS (l:List (DV X)) (a b:Nat):aP ((l.drop a).take b)=((aP l).drop a).take b:=by simp[kQ,map_take,map_drop]
theorem Qa {α:Type} {l:List α} {n:Int} {x:α} (h:at? l n=some x):0<=n∧l[n.toNat]? =some x:=by
 unfold at? at h;by_cases hn:0<=n
 ·simpa[hn]using h
 ·simp[hn]at h
theorem adk (t:Bool) (x y:DV X):den (aeM t x y)=Yp t (den x) (den y):=by
 rw[QB];have base:∀ x y:DV X,den (bif t then x else y)=if t=true then den x else den y:=fun x y=>by cases t<;>rfl
 unfold aeM;split
 ·rename_i a p b q;split
  ·rename_i h _;subst h;cases t<;>rfl
  ·exact base _ _
 ·exact base _ _
theorem Gi {agg:Bool} {size:Nat} {cs:List (DV X)} {v:DV X} (h:JQ agg size cs=some v):part' agg size (aP cs)=some (den v):=by
 unfold JQ at h;unfold part';rw[iT];split at h
 ·rename_i hl;rw[if_pos hl];cases agg with
  |true=>simp only[if_true,Option.some.injEq]at h ⊢;subst h;rfl
  |false=>
   simp only[Bool.false_eq_true,if_false]at h ⊢
   match cs,h with
   |[x],h=>
    simp only at h;split at h
    ·rename_i hx;injection h with h;subst h;simp only[aP];rw[if_pos (Oa hx)]
    ·cases h
   |[],h=>cases h
   |_::_::_,h=>cases h
 ·cases h
theorem LZ {agg:Bool} {size off:Nat} {c:CT X.ι} {y:CT.T X.toSE c} {v:DV X} (h:JQ agg size (((xh c y).drop off).take size)=some v):part' agg size ((((CT.row X.toSE c y).drop off).take size).map AV.t)=some (den v):=by
 have:=Gi h;rw[lS,oN]at this;rw[<- this,map_take,map_drop]
theorem Vh {agg:Bool} {size off:Nat} {c:CT X.ι} {y:CT.T X.toSE c} {v:DV X} (h:acJ agg size c y off=some v):part' agg size ((((CT.row X.toSE c y).drop off).take size).map AV.t)=some (den v):=by
 cases c
 case st j=>
  simp only[acJ]at h;split at h
  ·rename_i hh;obtain⟨rfl,rfl,rfl⟩:=hh;injection h with h;subst h;have hl:(CT.row X.toSE (.st j) y).length=(X.tys j).length:=Ij (.st j) y;rw[List.drop_zero,List.take_of_length_le (by omega)];unfold part';rw[if_pos (by simpa using hl)];rfl
  ·exact LZ h
 all_goals exact LZ h
theorem adl {t:TypeId} {x:DV X} (h:ldD T t x get k=some r):∃ orc rd dv out,Hl T t (den x) orc (bS rd (dL get))=some out∧fJ out.obs∧out.v=den dv∧out.upd=[]∧k dv [] rd []=some r:=by
 unfold ldD at h;unfold Hl;rw[ai]at h;obtain⟨ti,h1,h⟩:=h;simp only[h1,bind_some];split at h
 ·rename_i kk row off;rw[ai]at h;obtain⟨o,h2,h⟩:=h;split at h
  ·rename_i sz rows;rw[ai]at h;obtain⟨rw',h3,h⟩:=h;rw[ai]at h;obtain⟨v,h4,h⟩:=h;refine⟨.none,[kk],v,⟨den v,[],[]⟩,?_,trivial,rfl,rfl,h⟩;have h5:=Gi h4;rw[lS]at h5;simp[den,dK (List.mem_singleton_self kk) h2,aU,h3,h5,pv]
  ·cases h
 ·rename_i kk n off;rw[ai]at h;obtain⟨o,h2,h⟩:=h;split at h
  ·rename_i c l;rw[ai]at h;obtain⟨y,h3,h⟩:=h;rw[ai]at h;obtain⟨v,h4,h⟩:=h;obtain⟨_,h6⟩:=Qa h3;refine⟨.row ((CT.row X.toSE c y).map AV.t),[kk],v,⟨den v,[],[(aD (l.map (CT.row X.toSE c)))[n.toNat]? =some ((CT.row X.toSE c y).map AV.t)]⟩,?_,?_,rfl,rfl,h⟩
   ·have h5:=Vh h4;rw[map_take,map_drop]at h5;simp only[den,dK (List.mem_singleton_self kk) h2,bind_some,aU,h5,pvo]
   ·simp[fJ,aD,h6]
  ·cases h
 ·rename_i c y off;rw[ai]at h;obtain⟨v,h4,h⟩:=h;refine⟨.none,[],v,⟨den v,[],[]⟩,?_,trivial,rfl,rfl,h⟩;simp only[den,Vh h4,bind_some,pv]
 ·cases h
theorem Rh (a:List (DV X)) (off:Nat) (cs:List (DV X)):aP (aeN a off cs)=put' (aP a) off (aP cs):=by simp[aeN,put',kQ,map_take,map_drop]
theorem kX {a c:CT X.ι} {x:CT.T X.toSE a} {y:CT.T X.toSE c} (h:iy a c x=some y):den (.c a x)=den (.c c y)∧CT.row X.toSE a x=CT.row X.toSE c y:=by
 obtain⟨e,h⟩:=rF h;subst e;subst h;exact⟨rfl,rfl⟩
theorem WY {c:CT X.ι} (hc:c.one=true) (x:CT.T X.toSE c):[(CT.tv X.toSE c x).av]=(CT.row X.toSE c x).map AV.t:=by
 obtain⟨t,h1,h2⟩:=row_one hc x;rw[h1,h2];rfl
theorem ag0 {c:CT X.ι} (x:CT.T X.toSE c):wk (CT.tv X.toSE c x).av=(CT.tv X.toSE c x).av:=by cases c<;>rfl
theorem tN {d:DV X} {c:CT X.ι} {x:CT.T X.toSE c} (h:GD d c=some x):wk (den d)=(CT.tv X.toSE c x).av:=by
 unfold GD at h;split at h
 ·rw[(kX h).1];exact ag0 x
 ·injection h with h;subst h;rfl
 ·injection h with h;subst h;rfl
 ·cases h
theorem WZ {d:DV X} {c:CT X.ι} {x:CT.T X.toSE c} (hc:c.one=true) (h:GD d c=some x):sO d=true:=by
 cases d
 case c a y=>
  obtain⟨e,_⟩:=rF (show iy a c y=some x by cases c<;>exact h);subst e;cases a<;>first |rfl |simp[CT.one]at hc
 case nil=>rfl
 all_goals cases c<;>cases h
theorem xq:∀ {ds:List (DV X)} {l:List (CT X.ι)} {h:HL X.toSE l},xk ds l=some h->l.all CT.one=true->(aP ds).map wk=(HL.row X.toSE l h).map AV.t∧ds.all sO=true
 |[],[],h,_,_=>⟨rfl,rfl⟩
 |d::ds,c::l,h,hr,ha=>by
  simp only[xk]at hr;rw[ai]at hr;obtain⟨x,h1,hr⟩:=hr;rw[ai]at hr;obtain⟨g,h2,hr⟩:=hr;injection hr with hr;subst hr;simp only[all_cons,and_eq_true]at ha ⊢;obtain⟨i1,i2⟩:=xq h2 ha.2;simp only[aP,map_cons,HL.row,map_append,i1,tN h1,i2,and_true,WZ ha.1 h1];simp[<- WY ha.1 x]
 |[],_::_,_,hr,_=>by simp[xk]at hr
 |_::_,[],_,hr,_=>by simp[xk]at hr
theorem Ri (j:X.ι) (h:HL X.toSE (X.tys j)):CT.row X.toSE (.st j) (X.make j h)=HL.row X.toSE (X.tys j) h:=X.row_make j h
theorem agd {c:CT X.ι} (hc:c.one=true) {ds:List (DV X)} {x:CT.T X.toSE c} (h:mk1 c ds=some x):(aP ds).map wk=(CT.row X.toSE c x).map AV.t:=by
 match ds,h with
 |[d],h=>
  rw[<- WY hc x];simp only[aP,map_cons,map_nil,tN h]
 |[],h=>cases h
 |_::_::_,h=>cases h
theorem wS {c:CT X.ι} {ds:List (DV X)} {x:CT.T X.toSE c} (h:JS c ds=some x):(aP ds).map wk=(CT.row X.toSE c x).map AV.t:=by
 cases c
 case st j=>
  simp only[JS]at h;rw[ai]at h;obtain⟨g,h1,h⟩:=h;injection h with h;subst h;rw[(xq h1 (X.flat j)).1,Ri]
 all_goals exact agd rfl h
theorem aa9 {d:DV X} {c:CT X.ι} (hc:c.one=true) {x:CT.T X.toSE c} (h:GD d c=some x):∃ cs,cellsOf (den d)=some cs∧cs.map wk=(CT.row X.toSE c x).map AV.t:=by
 have hk:=WZ hc h;have hd:=tN h;have he:cellsOf (den d)=some [den d]:=by
  have:=Co (x:=d) (cs:=[d]) (by
   cases d
   case c t y=>cases t<;>first |rfl |simp[sO]at hk
   all_goals first |rfl |simp[sO]at hk)
  simpa[aP]using this
 exact⟨_,he,by rw[<- WY hc x];simp[hd]⟩
theorem adm {d:DV X} {c:CT X.ι} {x:CT.T X.toSE c} (h:dat d c=some x):∃ cs,cellsOf (den d)=some cs∧cs.map wk=(CT.row X.toSE c x).map AV.t:=by
 cases c
 case st j=>
  replace h:aa4 d j=some x:=h
  cases d
  case agg cs=>
   simp only[aa4]at h;rw[ai]at h;obtain⟨g,h1,h⟩:=h;injection h with h;subst h;obtain⟨i1,i2⟩:=xq h1 (X.flat j);refine⟨aP cs,?_,by rw[i1,Ri]⟩;simp only[den,cellsOf];rw[if_pos (acH i2)]
  case c a y=>
   replace h:iy a (.st j) y=some x:=h
   rw[(kX h).1];refine⟨(CT.row X.toSE (.st j) x).map AV.t,?_,?_⟩
   ·show cellsOf (.agg _)=_;simp only[cellsOf];rw[if_pos]
    ·rfl
    ·rw[List.all_map,all_eq_true];exact fun _ _=>rfl
   ·rw[map_map];rfl
  all_goals cases h
 all_goals exact aa9 rfl h
theorem adn {t:TypeId} {x y:DV X} (h:stD T t x y get k=some r):∃ orc kk u out,Qv T t (den x) (den y) orc (bS [kk] (dL get))=some out∧fJ out.obs∧out.v= .undef∧out.upd=fw [(kk,u)]∧k .undef [(kk,u)] [kk] [kk]=some r:=by
 unfold stD at h;unfold Qv;rw[ai]at h;obtain⟨ti,h1,h⟩:=h;rw[ai]at h;obtain⟨cs,h2,h⟩:=h;simp only[h1,Co h2,bind_some];split at h
 ·rename_i hl;have hdl:(aP cs).length=ti.size:=by rw[iT];exact hl
  simp only[hdl,if_true];split at h
  ·rename_i kk row off;rw[ai]at h;obtain⟨o,h3,h⟩:=h;split at h
   ·rename_i sz rows;rw[ai]at h;obtain⟨rw',h4,h⟩:=h;split at h
    ·rename_i hle;refine⟨.none,kk,_,⟨.undef,_,[]⟩,?_,trivial,rfl,rfl,h⟩;simp only[den,dK (List.mem_singleton_self kk) h3,bind_some,aU,List.getElem?_map,h4,Option.map_some,iT];rw[if_pos (by rw[<- hl];exact hle)];simp[fw,aU,Rh]
    ·cases h
   ·cases h
  ·rename_i kk n off;rw[ai]at h;obtain⟨o,h3,h⟩:=h;split at h
   ·rename_i c l;rw[ai]at h;obtain⟨z,h4,h⟩:=h;split at h
    ·rename_i hle;rw[ai]at h;obtain⟨z',h5,h⟩:=h;obtain⟨_,h6⟩:=Qa h4;refine⟨.set ((CT.row X.toSE c z).map AV.t) (aD ((l.set n.toNat z').map (CT.row X.toSE c))),kk,_,⟨.undef,_,[(aD (l.map (CT.row X.toSE c)))[n.toNat]? =some ((CT.row X.toSE c z).map AV.t)∧aD ((l.set n.toNat z').map (CT.row X.toSE c))=bR ((aD (l.map (CT.row X.toSE c))).set n.toNat (put' ((CT.row X.toSE c z).map AV.t) off (aP cs)))]⟩,?_,?_,rfl,rfl,h⟩
     ·simp only[den,dK (List.mem_singleton_self kk) h3,bind_some,aU];rw[if_pos (by rw[length_map,Ij,<- hl];exact hle)];simp[fw,aU]
     ·refine⟨by simp[aD,h6],?_⟩;have h7:=wS h5;rw[Rh,oN]at h7;have hid:bR (aD (l.map (CT.row X.toSE c)))=aD (l.map (CT.row X.toSE c)):=(by simp[bR,aD,Function.comp_def,wk]);simp only[bR,List.map_set,h7];have:(aD (l.map (CT.row X.toSE c))).map (List.map wk)=aD (l.map (CT.row X.toSE c)):=hid;rw[this];simp[aD]
    ·cases h
   ·cases h
  ·cases h
 ·cases h
theorem L6 {t:TypeId} {x:DV X} {f:Nat} (h:Ik T t x f k=some r):∃ dv out,wY T t (den x) f=some out∧fJ out.obs∧out.v=den dv∧out.upd=[]∧k dv [] [] []=some r:=by
 unfold Ik at h;unfold wY;rw[ai]at h;obtain⟨⟨d,u⟩,h1,h⟩:=h;simp only[h1,bind_some];split at h
 ·exact⟨_,_,rfl,trivial,rfl,rfl,h⟩
 ·exact⟨_,_,rfl,trivial,rfl,rfl,h⟩
 ·exact⟨_,_,rfl,trivial,rfl,rfl,h⟩
 ·cases h
theorem W9 {t:TypeId} {x:DV X} {f:Nat} (h:aa5 T t x f k=some r):∃ dv out,Qw T t (den x) f=some out∧fJ out.obs∧out.v=den dv∧out.upd=[]∧k dv [] [] []=some r:=by
 unfold aa5 at h;unfold Qw;rw[ai]at h;obtain⟨⟨d,u⟩,h1,h⟩:=h;simp only[h1,bind_some];split at h
 ·rw[ai]at h;obtain⟨v,h2,h⟩:=h;have h3:=Gi h2;rw[lS]at h3;exact⟨v,⟨den v,[],[]⟩,by simp only[den,h3,bind_some,pv],trivial,rfl,rfl,h⟩
 ·rename_i j y;rw[ai]at h;obtain⟨v,h2,h⟩:=h;have h3:=LZ h2;rw[map_take,map_drop]at h3;refine⟨v,⟨den v,[],[]⟩,?_,trivial,rfl,rfl,h⟩;show (part' u.agg u.size (List.take u.size (List.drop d ((CT.row X.toSE (.st j) y).map AV.t)))).bind pv=_;rw[h3];rfl
 ·cases h
theorem dm {α:Type} {b:Bool} {x:Option α} {r:α} (h:(bif b then x else none)=some r):b=true∧x=some r:=by
 cases b with
 |true=>exact⟨rfl,h⟩
 |false=>cases h
theorem Rj {n:Int} {len:Nat} (h:inb n len=true):0<=n∧n.toNat < len:=by simp only[inb,and_eq_true,decide_eq_true_eq]at h;omega
theorem mG {A:Type}:∀ {cs:List Bool} {k:Option A} {r:A},Rb cs k=some r->(∀ c∈cs,c=true)∧k=some r
 |[],_,_,h=>⟨by simp,h⟩
 |c::cs,k,r,h=>by
  obtain⟨h1,h2⟩:=dm h;obtain⟨h3,h4⟩:=mG h2;exact⟨fun x hx=>(mem_cons.1 hx).elim (fun e=>e ▸ h1) (h3 x),h4⟩
theorem L8 {t:TypeId} {x j:DV X} (h:Im T t x j get k=some r):∃ orc rd dv out,j6 T t (den x) (den j) orc (bS rd (dL get))=some out∧fJ out.obs∧out.v=den dv∧out.upd=[]∧k dv [] rd []=some r:=by
 unfold Im at h;unfold j6;rw[ai]at h;obtain⟨ti,h1,h⟩:=h;simp only[h1,bind_some];split at h
 ·rename_i e kd n hk;rw[ai]at h;obtain⟨ei,h2,h⟩:=h;simp only[hk,den,CT.tv,TV.av,h2,bind_some];split at h
  ·rename_i c l;split at h
   ·rename_i hs;rw[ai]at h;obtain⟨y,h3,h⟩:=h;obtain⟨h4,h5⟩:=Qa h3;refine⟨.trow (CT.row X.toSE c y),[],_,⟨.rptr (CT.row X.toSE c y) 0,[],[0<=n∧(l.map (CT.row X.toSE c))[n.toNat]? =some (CT.row X.toSE c y)]⟩,?_,?_,rfl,rfl,h⟩
    ·simp only[den,CT.tv,TV.av];rw[if_pos (by rw[Ij];exact hs)];rfl
    ·exact⟨h4,by simp[h5]⟩
   ·cases h
  ·rename_i kk off len;rw[ai]at h;obtain⟨o,h3,h⟩:=h;split at h
   ·rename_i c l;split at h
    ·rename_i hs;obtain⟨h4,h⟩:=dm h;obtain⟨h5,h6⟩:=Rj h4;refine⟨.none,[kk],_,⟨.ptr kk (off+n.toNat) 0,[],[0<=n∧n.toNat < len]⟩,?_,⟨h5,h6⟩,?_,rfl,h⟩
     ·simp only[den,dK (List.mem_singleton_self kk) h3,bind_some,aU];rw[if_pos hs];rfl
     ·simp only[den,iN];congr 1;show off+Int.toNat n=Int.toNat ((off:Int)+n);have:(0:Int)<=n:=h5;omega
    ·cases h
   ·rename_i sz rows;split at h
    ·rename_i hs;obtain⟨h4,h⟩:=dm h;obtain⟨h5,h6⟩:=Rj h4;refine⟨.none,[kk],_,⟨.ptr kk (off+n.toNat) 0,[],[0<=n∧n.toNat < len]⟩,?_,⟨h5,h6⟩,rfl,rfl,h⟩;simp only[den,dK (List.mem_singleton_self kk) h3,bind_some,aU];rw[if_pos hs];rfl
    ·cases h
   ·cases h
  ·cases h
 ·rename_i m e kd n hk;rw[ai]at h;obtain⟨ei,h2,h⟩:=h;simp only[hk,den,CT.tv,TV.av,h2,bind_some];obtain⟨h4,h⟩:=dm h;obtain⟨h5,h6⟩:=Rj h4;split at h
  ·exact⟨.none,[],_,_,rfl,⟨h5,h6⟩,rfl,rfl,h⟩
  ·exact⟨.none,[],_,_,rfl,⟨h5,h6⟩,rfl,rfl,h⟩
  ·exact⟨.none,[],_,_,rfl,⟨h5,h6⟩,rfl,rfl,h⟩
  ·cases h
 ·cases h
theorem Rk {x:DV X} {j:Nat} (h:Rc x j k=some r):∃ dv out,En (den x) j=some out∧fJ out.obs∧out.v=den dv∧out.upd=[]∧k dv [] [] []=some r:=by
 unfold Rc at h;split at h
 ·rw[ai]at h;obtain⟨v,h2,h⟩:=h;refine⟨v,⟨den v,[],[]⟩,?_,trivial,rfl,rfl,h⟩;simp[En,den,kQ,h2,pv]
 ·cases h
end
section
variable {X:SX} {A:Type} {T:Tab} {code:TypeId->Option (CT X.ι)} {get:Nat->Option (DObj X)} {k:KK X A} {r:A} {i:Nat}
theorem Xa {op:BinOp} {kd:IntKind} {a b:Int}:∃ v obs,Qu op kd a b=some (v,obs)∧den (EA (X:=X) op kd a b).1= .t (.sc v)∧(∀ g,(EA (X:=X) op kd a b).2=some g->g=true->fJ obs)∧((EA (X:=X) op kd a b).2=none->fJ obs):=by
 cases op<;>refine⟨_,_,rfl,rfl,fun g hg ht=>?_,fun hn=>?_⟩<;>simp only[EA,Option.some.injEq,reduceCtorEq]at* <;>try trivial
 all_goals subst hg;simp_all [fJ]
theorem YN {n:Nat} {x y:DV X} {b:Bool} (h:WW n x y=some b):Lx n (den x) (den y)=some b:=by
 unfold WW at h;split at h
 ·split at h
  ·injection h with h;subst h;simp only[den,CT.tv,TV.av,Lx];rw[if_pos ‹_›]
  ·cases h
 ·exact h
 ·exact h
 ·cases h
theorem JU:∀ {ks:List Nat} {xs ys:List (DV X)} {b:Bool},tL ks xs ys=some b->vO ks (aP xs) (aP ys)=some b
 |[],[],[],b,h=>h
 |k::ks,x::xs,y::ys,b,h=>by
  simp only[tL]at h;rw[ai]at h;obtain⟨p,h1,h⟩:=h;rw[ai]at h;obtain⟨q,h2,h⟩:=h;simp only[aP,vO,YN h1,JU h2,bind_some,h]
 |[],_::_,_,_,h=>by simp[tL]at h
 |[],[],_::_,_,h=>by simp[tL]at h
 |_::_,[],_,_,h=>by simp[tL]at h
 |_::_,_::_,[],_,h=>by simp[tL]at h
theorem YO {x:DV X} {xs:List (DV X)} (h:agc x=some xs):den x= .agg (aP xs):=by
 unfold agc at h;split at h
 ·injection h with h;subst h;rfl
 ·rename_i j y;injection h with h;subst h;rw[oN];rfl
 ·cases h
theorem abb {op:BinOp} {t:TypeId} {x y:DV X} (h:ahj T op t x y k=some r):∃ dv out,Uk T op t (den x) (den y)=some out∧fJ out.obs∧out.v=den dv∧out.upd=[]∧k dv [] [] []=some r:=by
 unfold ahj at h;split at h
 ·rename_i kd a yk b;split at h
  ·rename_i hk;obtain⟨v,obs,h1,h2,h3,h4⟩:=Xa (X:=X) (op:=op) (kd:=kd) (a:=a) (b:=b);have fin:fJ obs->k (EA op kd a b).1 [] [] []=some r->∃ dv out,Uk T op t (den (.c (.int kd) a:DV X)) (den (.c (.int yk) b:DV X))=some out∧fJ out.obs∧out.v=den dv∧out.upd=[]∧k dv [] [] []=some r:=by
    intro ho hkk;refine⟨_,⟨.t (.sc v),[],obs⟩,?_,ho,h2.symm,rfl,hkk⟩;simp only[den,CT.tv,TV.av,Uk];rw[if_pos hk,h1];rfl
   split at h
   ·rename_i hn;exact fin (h4 hn) h
   ·rename_i g hg;obtain⟨hgt,h⟩:=dm h;exact fin (h3 g hg hgt) h
  ·cases h
 ·split at h
  ·exact⟨_,_,rfl,trivial,rfl,rfl,h⟩
  ·exact⟨_,_,rfl,trivial,rfl,rfl,h⟩
  ·cases h
 ·rw[ai]at h;obtain⟨ti,h1,h⟩:=h;split at h
  ·rename_i hk;refine⟨_,⟨.t (.sc (.bool _)),[],[]⟩,?_,trivial,rfl,rfl,h⟩;simp only[den,CT.tv,TV.av,Uk,h1,bind_some,hk];rfl
  ·rename_i hk;refine⟨_,⟨.t (.sc (.bool _)),[],[]⟩,?_,trivial,rfl,rfl,h⟩;simp only[den,CT.tv,TV.av,Uk,h1,bind_some,hk];rfl
  ·cases h
 ·rw[ai]at h;obtain⟨xs,h1,h⟩:=h;rw[ai]at h;obtain⟨ys,h2,h⟩:=h;rw[ai]at h;obtain⟨ti,h3,h⟩:=h;split at h
  ·cases h
  ·rename_i hc;rw[ai]at h;obtain⟨b,h4,h⟩:=h;have h5:=JU h4;rw[YO h1,YO h2];split at h
   ·refine⟨_,⟨.t (.sc (.bool b)),[],[]⟩,?_,trivial,rfl,rfl,h⟩;simp only[Uk,h3,bind_some];rw[if_neg hc,h5];rfl
   ·refine⟨_,⟨.t (.sc (.bool (!b))),[],[]⟩,?_,trivial,rfl,rfl,h⟩;simp only[Uk,h3,bind_some];rw[if_neg hc,h5];rfl
   ·cases h
theorem ado {op:UnOp} {x:DV X} (h:unD op x k=some r):∃ dv out,aUn op (den x)=some out∧fJ out.obs∧out.v=den dv∧out.upd=[]∧k dv [] [] []=some r:=by
 unfold unD at h;split at h
 ·exact⟨_,_,rfl,trivial,rfl,rfl,h⟩
 ·exact⟨_,_,rfl,trivial,rfl,rfl,h⟩
 ·cases h
theorem Ob (mx:Bool) (kd:IntKind):∀ (l:List (DV X)) (a n:Int),Gh mx kd a l=some n->Cf mx kd a (aP l)=some n
 |[],a,n,h=>h
 |x::l,a,n,h=>by
  cases x
  case c t y=>
   cases t
   case int k'=>
    simp only[Gh]at h;simp only[aP,den,CT.tv,TV.av,Cf];split at h
    ·rename_i hk;rw[if_pos hk];exact Ob mx kd l _ _ h
    ·cases h
   all_goals simp[Gh]at h
  all_goals simp[Gh]at h
theorem Vi {mx:Bool} {args:List (DV X)} (h:mmD mx args k=some r):∃ dv out,aMm mx (aP args)=some out∧fJ out.obs∧out.v=den dv∧out.upd=[]∧k dv [] [] []=some r:=by
 unfold mmD at h;split at h
 ·rename_i kd a l;rw[ai]at h;obtain⟨n,h1,h⟩:=h;refine⟨_,⟨.t (.sc (.int kd n)),[],[]⟩,?_,trivial,rfl,rfl,h⟩;simp only[aP,den,CT.tv,TV.av,aMm];have:=Ob mx kd l a n h1;simp only[this];rfl
 ·cases h
theorem abd {t:TypeId} {x:DV X} (h:ahk T t x k=some r):∃ orc dv out,Yo T t (den x) orc=some out∧fJ out.obs∧out.v=den dv∧out.upd=[]∧k dv [] [] []=some r:=by
 unfold ahk at h;unfold Yo;rw[ai]at h;obtain⟨ti,h1,h⟩:=h;simp only[h1,bind_some];split at h
 ·rename_i e c l hk;simp only[hk];exact⟨.num (l.length:Int),_,⟨.t (.sc (.int .i64 (l.length:Int))),[],[(l.length:Int)=((l.map (CT.row X.toSE c)).length:Int)]⟩,rfl,by simp[fJ],rfl,rfl,h⟩
 ·rename_i hk;simp only[hk];exact⟨.none,_,_,rfl,trivial,rfl,rfl,h⟩
 ·rename_i hk;simp only[hk];exact⟨.none,_,_,rfl,trivial,rfl,rfl,h⟩
 ·rename_i hk;simp only[hk];exact⟨.none,_,_,rfl,trivial,rfl,rfl,h⟩
 ·cases h
theorem L9 (place:Nat->Option (Nat×Nat)):∀ (parts:List (Nat×DV X)) (cells out:List (DV X)),Vg place cells parts=some out->Dx place (aP cells) (parts.map fun p=>(p.1,den p.2))=some (aP out)
 |[],cells,out,h=>by simp only[Vg,Option.some.injEq]at h;subst h;rfl
 |(j,x)::rest,cells,out,h=>by
  simp only[Vg]at h;rw[ai]at h;obtain⟨⟨off,size⟩,h1,h⟩:=h;rw[ai]at h;obtain⟨cs,h2,h⟩:=h;split at h
  ·rename_i hl;simp only[map_cons,Dx,h1,Co h2,bind_some,iT];rw[if_pos hl,<- Rh];exact L9 place rest _ _ h
  ·cases h
theorem Xb {t:TypeId} {parts:List (Nat×DV X)} (h:aa6 T t parts k=some r):∃ dv out,Qx T t (parts.map fun p=>(p.1,den p.2))=some out∧fJ out.obs∧out.v=den dv∧out.upd=[]∧k dv [] [] []=some r:=by
 unfold aa6 at h;unfold Qx;rw[ai]at h;obtain⟨ti,h1,h⟩:=h;simp only[h1,bind_some];split at h
 ·rename_i fs hk;split at h
  ·rename_i ha;rw[ai]at h;obtain⟨cells,h2,h⟩:=h;have h3:=L9 _ _ _ _ h2;rw[AQ]at h3;refine⟨_,⟨.agg (aP cells),[],[]⟩,?_,trivial,rfl,rfl,h⟩;simp only[hk];rw[if_pos ha,h3];rfl
  ·cases h
 ·rename_i m e hk;rw[ai]at h;obtain⟨ei,h2,h⟩:=h;rw[ai]at h;obtain⟨cells,h3,h⟩:=h;have h4:=L9 _ _ _ _ h3;rw[AQ]at h4;refine⟨_,⟨.agg (aP cells),[],[]⟩,?_,trivial,rfl,rfl,h⟩;simp only[hk,h2,bind_some,h4];rfl
 ·cases h
theorem Vj (size:Nat) (c:CT X.ι) (hs:CT.sz X c=size) (z:List AV):∀ (parts:List (Nat×DV X)) (n:Nat) (l:List (CT.T X.toSE c)) (done:List (List AV)),aeO c n parts=some l->done.length=n->
 ∃ css:List (List AV),Jv size (done++List.replicate parts.length z) (parts.map fun p=>(p.1,den p.2))=some (done++css)∧css.map (fun r=>r.map wk)=aD (l.map (CT.row X.toSE c))
 |[],n,l,done,h,_=>by
  simp only[aeO,Option.some.injEq]at h;subst h;exact⟨[],by simp[Jv],rfl⟩
 |(j,x)::rest,n,l,done,h,hd=>by
  simp only[aeO]at h;split at h
  ·rename_i hj;subst hj;rw[ai]at h;obtain⟨y,h1,h⟩:=h;rw[ai]at h;obtain⟨l',h2,h⟩:=h;injection h with h;subst h;obtain⟨cs,g1,g2⟩:=adm h1;have hl:cs.length=size:=by
    have:=congrArg List.length g2;simp only[length_map,Ij]at this;omega
   obtain⟨css,i1,i2⟩:=Vj size c hs z rest (j+1) l' (done++[cs]) h2 (by simp[hd]);refine⟨cs::css,?_,?_⟩
   ·simp only[map_cons,Jv,g1,bind_some];rw[if_pos ⟨hl,by simp;omega⟩];have:(done++List.replicate (rest.length+1) z).set j cs=done++[cs]++List.replicate rest.length z:=by
     rw[List.set_append_right _ _ (by omega),hd];simp[List.replicate_succ]
    simp only[List.length_cons,this,i1];simp
   ·simp only[map_cons,i2,g2,aD,map_cons]
  ·cases h
theorem JV {t:TypeId} {len:Nat} {parts:List (Nat×DV X)} (h:EB T code i t len parts k=some r):∃ dv u out,tJ T i t len (parts.map fun p=>(p.1,den p.2))=some out∧fJ out.obs∧out.v=den dv∧out.upd=fw [(nid i,u)]∧k dv [(nid i,u)] [] []=some r:=by
 unfold EB at h;unfold tJ;rw[ai]at h;obtain⟨ti,h1,h⟩:=h;simp only[h1,bind_some];split at h
 ·rename_i e hk;rw[ai]at h;obtain⟨ei,h2,h⟩:=h;rw[ai]at h;obtain⟨c,h3,h⟩:=h;simp only[hk,h2,bind_some];split at h
  ·cases h
  ·rename_i hno;simp only[not_or,Decidable.not_not]at hno;obtain⟨n1,n2,n3,n4⟩:=hno;rw[ai]at h;obtain⟨l,h4,h⟩:=h;obtain⟨css,g1,g2⟩:=Vj ei.size c n3 (ei.zero.map cv) parts 0 l [] h4 rfl;simp only[nil_append,n4]at g1;refine⟨_,_,⟨.own (nid i) 0 len,[(nid i,some ⟨ei.size,bR css⟩)],[]⟩,?_,trivial,rfl,?_,h⟩
   ·rw[if_neg (by simp only[not_or];exact⟨n1,n2⟩),g1];rfl
   ·simp only[fw,aU,map_cons,map_nil,Option.map_some,n3];rw[show bR css=aD (l.map (CT.row X.toSE c))from g2]
 ·cases h
theorem Xc {e:TypeId} (h:aa7 T i e k=some r):∃ dv u out,Qy T i e=some out∧fJ out.obs∧out.v=den dv∧out.upd=fw [(nid i,u)]∧k dv [(nid i,u)] [] []=some r:=by
 unfold aa7 at h;unfold Qy;rw[ai]at h;obtain⟨ti,h1,h⟩:=h;exact⟨_,_,⟨_,[(nid i,some ⟨ti.size,[ti.zero.map cv]⟩)],[]⟩,by simp only[h1,bind_some];rfl,trivial,rfl,by simp[fw,aU,AQ],h⟩
theorem abe {x:DV X} (h:ahl i x k=some r):∃ dv u out,aex i (den x)=some out∧fJ out.obs∧out.v=den dv∧out.upd=fw [(nid i,u)]∧k dv [(nid i,u)] [] []=some r:=by
 unfold ahl at h;unfold aex;rw[ai]at h;obtain⟨cs,h1,h⟩:=h;exact⟨_,_,⟨_,[(nid i,some ⟨(aP cs).length,[aP cs]⟩)],[]⟩,by simp only[Co h1,bind_some];rfl,trivial,rfl,by simp[fw,aU,iT],h⟩
theorem AU {d n:Int} {x:Option (DV X)} (h:YM d x=some n):bnd d (x.map den)=some n:=by
 unfold YM at h;split at h
 ·exact h
 ·exact h
 ·cases h
theorem Vk {l h:Int} {len:Nat} (hh:AR l h len=true):0<=l∧l<=h∧h<=(len:Int):=by simpa[AR,and_assoc]using hh
theorem Xd {t:TypeId} {x:DV X} {lo hi:Option (DV X)} (h:aa8 T t x lo hi get k=some r):∃ orc rd dv out,Qz T t (den x) (lo.map den) (hi.map den) orc (bS rd (dL get))=some out∧fJ out.obs∧out.v=den dv∧out.upd=[]∧k dv [] rd []=some r:=by
 unfold aa8 at h;unfold Qz;rw[ai]at h;obtain⟨ti,h1,h⟩:=h;simp only[h1,bind_some];split at h
 ·rename_i e hk;rw[ai]at h;obtain⟨ei,h2,h⟩:=h;simp only[hk,h2,bind_some];split at h
  ·rename_i kk off len;rw[ai]at h;obtain⟨o,h3,h⟩:=h;split at h
   ·rename_i hs;rw[ai]at h;obtain⟨l,h4,h⟩:=h;rw[ai]at h;obtain⟨hh,h5,h⟩:=h;obtain⟨h6,h⟩:=dm h;refine⟨.none,[kk],_,⟨.own kk (off+l.toNat) (hh.toNat - l.toNat),[],[0<=l∧l<=hh∧hh<=(len:Int)]⟩,?_,Vk h6,rfl,rfl,h⟩;simp only[den,dK (List.mem_singleton_self kk) h3,bind_some];rw[if_pos hs,AU h4,bind_some,AU h5];rfl
   ·cases h
  ·rename_i c xs;split at h
   ·rename_i hs;rw[ai]at h;obtain⟨l,h4,h⟩:=h;rw[ai]at h;obtain⟨hh,h5,h⟩:=h;obtain⟨h6,h⟩:=dm h;refine⟨.tsub ((sub xs l.toNat (hh.toNat - l.toNat)).map (CT.row X.toSE c)),[],_,⟨.t (.sl ((sub xs l.toNat (hh.toNat - l.toNat)).map (CT.row X.toSE c))),[],[0<=l∧l<=hh∧hh<=((xs.map (CT.row X.toSE c)).length:Int)∧(sub xs l.toNat (hh.toNat - l.toNat)).map (CT.row X.toSE c)=((xs.map (CT.row X.toSE c)).drop l.toNat).take (hh.toNat - l.toNat)∧(∀ q∈xs.map (CT.row X.toSE c),q.length=ei.size)]⟩,?_,?_,rfl,rfl,h⟩
    ·simp only[den,CT.tv,TV.av,AU h4,bind_some];have h7:bnd ((xs.map (CT.row X.toSE c)).length:Int) (hi.map den)=some hh:=by
      have:=AU h5;simpa using this
     rw[h7];rfl
    ·obtain⟨a1,a2,a3⟩:=Vk h6;refine⟨a1,a2,by simpa using a3,by simp[sub,map_take,map_drop],fun q hq=>?_⟩;obtain⟨y,_,rfl⟩:=mem_map.1 hq;rw[Ij];exact hs
   ·cases h
  ·cases h
 ·cases h
end
section
variable {X:SX} {A:Type} {T:Tab} {code:TypeId->Option (CT X.ι)} {get:Nat->Option (DObj X)} {k:KK X A} {r:A} {i:Nat}
theorem iO {b c:CT X.ι} {l:List (CT.T X.toSE b)} {l':List (CT.T X.toSE c)} (h:iy (.sl b) (.sl c) l=some l'):CT.sz X b=CT.sz X c∧l.map (CT.row X.toSE b)=l'.map (CT.row X.toSE c):=by
 obtain⟨e,h⟩:=rF h;injection e with e;subst e;subst h;exact⟨rfl,rfl⟩
theorem YP {y:DV X} {c:CT X.ι} {n:Nat} {l:List (CT.T X.toSE c)} {rd:List Nat} (h:ahm y c get=some (n,l,rd)) (hl:l.length=n) (rd':List Nat) (hrd:∀ j∈rd,j∈rd'):
 ∃ ob,QA (CT.sz X c) (den y) (bS rd' (dL get))=some (n,ob,aD (l.map (CT.row X.toSE c)))∧ob:=by
 unfold ahm at h;split at h
 ·rename_i kk off len;rw[ai]at h;obtain⟨o,h1,h⟩:=h;split at h
  ·rename_i b l0;rw[ai]at h;obtain⟨l1,h2,h⟩:=h;injection h with h;simp only[Prod.mk.injEq]at h;obtain⟨rfl,rfl,rfl⟩:=h;obtain⟨h3,h4⟩:=iO h2;refine⟨True,?_,trivial⟩;simp only[den,QA,dK (hrd kk (by simp)) h1,bind_some,aU];rw[if_pos h3];simp only[h4,Option.some.injEq,Prod.mk.injEq,true_and];simp[aD,sub,map_take,map_drop]
  ·cases h
 ·rename_i b l0;rw[ai]at h;obtain⟨l1,h2,h⟩:=h;injection h with h;simp only[Prod.mk.injEq]at h;obtain⟨rfl,rfl,rfl⟩:=h;refine⟨∀ q∈l1.map (CT.row X.toSE c),q.length=CT.sz X c,?_,?_⟩
  ·rw[(kX h2).1];simp only[den,CT.tv,TV.av,QA,length_map]
  ·intro q hq;obtain⟨z,_,rfl⟩:=mem_map.1 hq;exact Ij c z
 ·cases h
theorem Rl {lo len ln n bytes:Nat} (h:bG lo len ln n bytes=true):lo=len∧ln=n∧(len+n)*bytes<=140737488355328∧len+n<=maxLen:=by simpa[bG,and_assoc]using h
theorem Ux {t:TypeId} {x y:DV X} (h:WX T code i t x y get k=some r):∃ orc rd wr dv upd out,yY T i t (den x) (den y) orc (bS rd (dL get))=some out∧fJ out.obs∧out.v=den dv∧out.upd=fw upd∧(∀ p∈upd,p.1=nid i∨p.1∈wr)∧k dv upd rd wr=some r:=by
 unfold WX at h;unfold yY;rw[ai]at h;obtain⟨ti,h1,h⟩:=h;simp only[h1,bind_some];split at h
 ·rename_i e hk;rw[ai]at h;obtain⟨ei,h2,h⟩:=h;rw[ai]at h;obtain⟨c,h3,h⟩:=h;simp only[hk,h2,bind_some];split at h
  ·rename_i hs;rw[ai]at h;obtain⟨⟨n,l,rd⟩,h4,h⟩:=h;split at h
   ·rename_i kk len;rw[ai]at h;obtain⟨o,h5,h⟩:=h;split at h
    ·rename_i b l0;rw[ai]at h;obtain⟨l1,h6,h⟩:=h;obtain⟨h7,h⟩:=dm h;obtain⟨g1,g2,g3,g4⟩:=Rl h7;obtain⟨h8,h9⟩:=iO h6;obtain⟨ob,i1,i2⟩:=YP h4 g2 (kk::rd) (fun j hj=>by simp[hj]);have i3:=dK (rd:=kk::rd) (by simp) h5
     refine⟨.rows (aD ((l1++l).map (CT.row X.toSE c))),kk::rd,[kk],_,_,⟨.own (nid i) 0 (aD ((l1++l).map (CT.row X.toSE c))).length,[(nid i,some ⟨ei.size,aD ((l1++l).map (CT.row X.toSE c))⟩),(kk,none)],
      [ob∧(aD (l1.map (CT.row X.toSE c))).length=len∧(aD (l.map (CT.row X.toSE c))).length=n∧aD ((l1++l).map (CT.row X.toSE c))=aD (l1.map (CT.row X.toSE c))++aD (l.map (CT.row X.toSE c))∧(len+n)*ei.bytes<=140737488355328∧len+n<=maxLen]⟩,?_,?_,?_,?_,?_,h⟩
     ·rw[hs]at i1;simp only[i1,bind_some,den,i3,aU,h9];rw[if_pos ⟨by rw[h8,hs],trivial⟩]
     ·exact⟨i2,by simpa[aD]using g1,by simpa[aD]using g2,by simp[aD],g3,g4⟩
     ·simp[den,aD]
     ·simp[fw,aU,hs]
     ·intro p hp;simp only[mem_cons,List.not_mem_nil,or_false]at hp;rcases hp with rfl |rfl
      ·exact .inl rfl
      ·exact .inr (by simp)
    ·cases h
   ·obtain⟨h7,h⟩:=dm h;obtain⟨g1,g2,g3,g4⟩:=Rl h7;obtain⟨ob,i1,i2⟩:=YP h4 g2 rd (fun j hj=>hj)
    refine⟨.rows (aD (l.map (CT.row X.toSE c))),rd,[],_,_,⟨.own (nid i) 0 (aD (l.map (CT.row X.toSE c))).length,[(nid i,some ⟨ei.size,aD (l.map (CT.row X.toSE c))⟩)],
     [ob∧(aD (l.map (CT.row X.toSE c))).length=n∧aD (l.map (CT.row X.toSE c))=aD (l.map (CT.row X.toSE c))∧n*ei.bytes<=140737488355328∧n<=maxLen]⟩,?_,?_,?_,?_,?_,h⟩
    ·rw[hs]at i1;simp only[i1,bind_some,den]
    ·exact⟨i2,by simpa[aD]using g2,rfl,by simpa using g3,by simpa using g4⟩
    ·simp[den,aD]
    ·simp[fw,aU,hs]
    ·intro p hp;simp only[mem_cons,List.not_mem_nil,or_false]at hp;rcases hp with rfl;exact .inl rfl
   ·cases h
  ·cases h
 ·cases h
def ahT (T:Tab) (i:Nat) (o:Oper) (ρ:Operand->DV X) (get:Nat->Option (DObj X)) (k:KK X A) (r:A):Prop:=
 ∃ orc rd wr dv upd out,pE T i o orc (fun x=>den (ρ x)) (bS rd (dL get))=some out∧fJ out.obs∧out.v=den dv∧out.upd=fw upd∧(∀ p∈upd,p.1=nid i∨p.1∈wr)∧k dv upd rd wr=some r
theorem Rm {b:Builtin} {args:List (DV X)} {tys:List TypeId} (h:Rf T code i b args tys get k=some r):∃ orc rd wr dv upd out,AP T i b (aP args) tys orc (bS rd (dL get))=some out∧fJ out.obs∧out.v=den dv∧out.upd=fw upd∧(∀ p∈upd,p.1=nid i∨p.1∈wr)∧k dv upd rd wr=some r:=by
 unfold Rf at h;unfold AP;split at h
 ·obtain⟨orc,dv,out,h1,h2,h3,h4,h5⟩:=abd h;exact⟨orc,[],[],dv,[],out,h1,h2,h3,h4,by simp,h5⟩
 ·obtain⟨dv,out,h1,h2,h3,h4,h5⟩:=Vi h;exact⟨.none,[],[],dv,[],out,h1,h2,h3,h4,by simp,h5⟩
 ·obtain⟨dv,out,h1,h2,h3,h4,h5⟩:=Vi h;exact⟨.none,[],[],dv,[],out,h1,h2,h3,h4,by simp,h5⟩
 ·split at h
  ·rename_i htu;obtain⟨orc,rd,wr,dv,upd,out,h1,h2⟩:=Ux h;refine⟨orc,rd,wr,dv,upd,out,?_,h2⟩;simp only[aP];rw[if_pos htu];exact h1
  ·cases h
 ·cases h
theorem Qb (ρ:Operand->DV X) (l:List Operand):l.map (fun x=>den (ρ x))=aP (l.map ρ):=by rw[kQ,map_map];rfl
theorem Vl {o:Oper} {ρ:Operand->DV X} (h:opD T code i o.op ρ get k=some r):ahT T i o ρ get k r:=by
 obtain⟨dst,op,ty,pos,after,guard⟩:=o;unfold ahT pE;simp only at h;unfold opD at h;split at h
 ·exact⟨.none,[],[],_,[],_,rfl,trivial,rfl,rfl,by simp,h⟩
 ·exact⟨.none,[],[],_,[],_,rfl,trivial,rfl,rfl,by simp,h⟩
 ·rename_i c a b;split at h
  ·rename_i t hc;refine⟨.none,[],[],_,[],⟨Yp t (den (ρ a)) (den (ρ b)),[],[]⟩,?_,trivial,(adk t _ _).symm,rfl,by simp,h⟩;simp only[hc,den,CT.tv,TV.av,pv]
  ·cases h
 ·obtain⟨dv,u,out,h1,h2,h3,h4,h5⟩:=Xc h;exact⟨.none,[],[],dv,_,out,h1,h2,h3,h4,by simp,h5⟩
 ·obtain⟨dv,u,out,h1,h2,h3,h4,h5⟩:=abe h;exact⟨.none,[],[],dv,_,out,h1,h2,h3,h4,by simp,h5⟩
 ·rename_i t parts;obtain⟨dv,out,h1,h2,h3,h4,h5⟩:=Xb h;refine⟨.none,[],[],dv,[],out,?_,h2,h3,h4,by simp,h5⟩;rw[map_map]at h1;exact h1
 ·rename_i t len parts;obtain⟨dv,u,out,h1,h2,h3,h4,h5⟩:=JV h;refine⟨.none,[],[],dv,_,out,?_,h2,h3,h4,by simp,h5⟩;rw[map_map]at h1;exact h1
 ·obtain⟨orc,rd,dv,out,h1,h2,h3,h4,h5⟩:=adl h;exact⟨orc,rd,[],dv,[],out,h1,h2,h3,h4,by simp,h5⟩
 ·obtain⟨orc,kk,u,out,h1,h2,h3,h4,h5⟩:=adn h;exact⟨orc,[kk],[kk],.undef,_,out,h1,h2,h3,h4,by simp,h5⟩
 ·obtain⟨dv,out,h1,h2,h3,h4,h5⟩:=abb h;exact⟨.none,[],[],dv,[],out,h1,h2,h3,h4,by simp,h5⟩
 ·obtain⟨dv,out,h1,h2,h3,h4,h5⟩:=ado h;exact⟨.none,[],[],dv,[],out,h1,h2,h3,h4,by simp,h5⟩
 ·rename_i f first caps
  refine⟨.none,[],[],_,[],⟨.fn f (first.toList.map fun x=>den (ρ x)) (caps.toList.map fun x=>den (ρ x)),[],[]⟩,rfl,trivial,?_,rfl,by simp,h⟩;simp only[den,Qb]
 ·rename_i t x lo hi;obtain⟨orc,rd,dv,out,h1,h2,h3,h4,h5⟩:=Xd h;refine⟨orc,rd,[],dv,[],out,?_,h2,h3,h4,by simp,h5⟩;simp only[Option.map_map]at h1;exact h1
 ·obtain⟨dv,out,h1,h2,h3,h4,h5⟩:=L6 h;exact⟨.none,[],[],dv,[],out,h1,h2,h3,h4,by simp,h5⟩
 ·obtain⟨dv,out,h1,h2,h3,h4,h5⟩:=W9 h;exact⟨.none,[],[],dv,[],out,h1,h2,h3,h4,by simp,h5⟩
 ·obtain⟨orc,rd,dv,out,h1,h2,h3,h4,h5⟩:=L8 h;exact⟨orc,rd,[],dv,[],out,h1,h2,h3,h4,by simp,h5⟩
 ·obtain⟨dv,out,h1,h2,h3,h4,h5⟩:=Rk h;exact⟨.none,[],[],dv,[],out,h1,h2,h3,h4,by simp,h5⟩
 ·rename_i b args tys;obtain⟨orc,rd,wr,dv,upd,out,h1,h2⟩:=Rm h;refine⟨orc,rd,wr,dv,upd,out,?_,h2⟩;simp only[Qb];exact h1
 ·cases h
end
inductive Pt (ι:Type) where
 |v (c:CT ι)
 |o (k:Nat)
 |p (k:Nat)
 |nil
 |f (F:FuncId) (fs cs:List (Pt ι))
 |od (k:Nat)
 |mp (k:Nat)
 |a (ps:List (Pt ι))
inductive OP (ι:Type) where
 |l (c:CT ι)
 |m (k v:CT ι)
 |c (sz:Nat) (rows:List (List (Pt ι)))
section
variable {ι:Type}
mutual
def Pt.vars:Pt ι->List (CT ι)
 | .v c=>[c]
 | .a ps=>varsL ps
 | .f _ fs cs=>varsL fs++varsL cs
 | .od _=>[.int .i64]
 |_=>[]
def varsL:List (Pt ι)->List (CT ι)
 |[]=>[]
 |p::ps=>p.vars++varsL ps
end
def varsS:List (Nat×Pt ι)->List (CT ι)
 |[]=>[]
 |p::ps=>p.2.vars++varsS ps
def tO:List (List (Pt ι))->List (CT ι)
 |[]=>[]
 |r::rs=>varsL r++tO rs
def varsO:List (Nat×OP ι)->List (CT ι)
 |[]=>[]
 |(_,.l c)::r=> .sl c::varsO r
 |(_,.m k v)::r=> .mp k v::varsO r
 |(_,.c _ rows)::r=>tO rows++varsO r
end
section
variable {X:SX}
structure DC (X:SX) where
 c:CT X.ι
 x:CT.T X.toSE c
@[reducible] def VT:List (CT X.ι)->Type
 |[]=>Unit
 |[c]=>CT.T X.toSE c
 |c::c'::l=>CT.T X.toSE c×VT (c'::l)
def Uy:(l:List (CT X.ι))->List (DC X)->Option (VT (X:=X) l)
 |[],[]=>some ()
 |[c],[d]=>iy d.c c d.x
 |c::c'::l,d::ds=>(iy d.c c d.x).bind fun x=>(Uy (c'::l) ds).bind fun v=>some (x,v)
 |_,_=>none
def tQ:(l:List (CT X.ι))->VT (X:=X) l->List (DC X)
 |[],_=>[]
 |[c],x=>[⟨c,x⟩]
 |c::c'::l,v=>⟨c,v.1⟩::tQ (c'::l) v.2
theorem YQ {d:DC X} {c:CT X.ι} {x:CT.T X.toSE c} (h:iy d.c c d.x=some x):(⟨c,x⟩:DC X)=d:=by
 obtain⟨a,y⟩:=d;obtain⟨e,h⟩:=rF h;simp only at e;subst e;subst h;rfl
theorem Rn:∀ {l:List (CT X.ι)} {ds:List (DC X)} {v:VT (X:=X) l},Uy l ds=some v->tQ l v=ds
 |[],[],_,_=>rfl
 |[c],[d],v,h=>by simp only[Uy]at h;simp only[tQ,YQ h]
 |c::c'::l,d::ds,v,h=>by
  simp only[Uy]at h;rw[ai]at h;obtain⟨x,h1,h⟩:=h;rw[ai]at h;obtain⟨v',h2,h⟩:=h;injection h with h;subst h;simp only[tQ,YQ h1,Rn h2]
 |[],_::_,_,h=>by simp[Uy]at h
 |[_],[],_,h=>by simp[Uy]at h
 |[_],_::_::_,_,h=>by simp[Uy]at h
 |_::_::_,[],_,h=>by simp[Uy]at h
theorem Ro {c:CT X.ι} (x:CT.T X.toSE c):iy c c x=some x:=by
 unfold iy;split
 ·rfl
 ·rename_i h _;exact absurd rfl h
def Vm (d:DC X):Nat:=match iy d.c (.int .i64) d.x with |some x=>Int.toNat x |none=>0
section
variable (olen:Nat->Nat)
mutual
def eP:Pt X.ι->List (DC X)->DV X×List (DC X)
 | .v _,L=>match L with
  |d::r=>(.c d.c d.x,r)
  |[]=>(.undef,[])
 | .o k,L=>(.own k 0 (olen k),L)
 | .p k,L=>(.ptr k 0 0,L)
 | .mp k,L=>(.mp k,L)
 | .nil,L=>(.nil,L)
 | .f F fs cs,L=>(.fn F (ePs fs L).1 (ePs cs (ePs fs L).2).1,(ePs cs (ePs fs L).2).2)
 | .od k,L=>match L with
  |d::r=>(.own k (Vm d) (olen k - Vm d),r)
  |[]=>(.undef,[])
 | .a ps,L=>(.agg (ePs ps L).1,(ePs ps L).2)
def ePs:List (Pt X.ι)->List (DC X)->List (DV X)×List (DC X)
 |[],L=>([],L)
 |p::ps,L=>((eP p L).1::(ePs ps (eP p L).2).1,(ePs ps (eP p L).2).2)
end
def zM:List (Nat×Pt X.ι)->List (DC X)->List (Nat×DV X)
 |[],_=>[]
 |(t,p)::r,L=>(t,(eP olen p L).1)::zM r (eP olen p L).2
def tT:List (List (Pt X.ι))->List (DC X)->List (List (DV X))×List (DC X)
 |[],L=>([],L)
 |r::rs,L=>((ePs olen r L).1::(tT rs (ePs olen r L).2).1,(tT rs (ePs olen r L).2).2)
def bC:List (Nat×OP X.ι)->List (DC X)->List (Nat×Option (DObj X))
 |[],_=>[]
 |(k,.l _)::r,L=>match L with
  |⟨.sl c',x⟩::L=>(k,some (.lst c' x))::bC r L
  |_=>[]
 |(k,.m _ _)::r,L=>match L with
  |⟨.mp kc vc,x⟩::L=>(k,some (.map kc vc x))::bC r L
  |_=>[]
 |(k,.c sz rows)::r,L=>(k,some (.cells sz (tT olen rows L).1))::bC r (tT olen rows L).2
end
def lens:List (Nat×OP X.ι)->List (DC X)->List (Nat×Nat)
 |[],_=>[]
 |(k,.l _)::r,L=>match L with
  |⟨.sl _,x⟩::L=>(k,List.length x)::lens r L
  |_=>[]
 |(_,.m _ _)::r,L=>lens r (L.drop 1)
 |(_,.c _ rows)::r,L=>lens r (L.drop (tO rows).length)
def zipS:Nat->List (Pt X.ι)->List (Nat×Pt X.ι)
 |_,[]=>[]
 |n,p::ps=>(n,p)::zipS (n+1) ps
theorem Ma:∀ (n:Nat) (ps:List (Pt X.ι)),varsS (zipS n ps)=varsL ps
 |_,[]=>rfl
 |n,p::ps=>by simp only[zipS,varsS,varsL,Ma (n+1) ps]
structure GSig (X:SX) where
 inP:List (Pt X.ι)
 inO:List (Nat×OP X.ι)
 outP:List (Pt X.ι)
 outO:List (Nat×OP X.ι)
 fn:VT (X:=X) (varsL inP++varsO inO)->Option (VT (X:=X) (varsS (zipS 0 outP)++varsO outO))
def zN (O:List (Nat×OP X.ι)) (L:List (DC X)) (k:Nat):Nat:=(lk (lens O L) k).getD 0
def Rp (ps:List (Pt X.ι)) (O:List (Nat×OP X.ι)) (L:List (DC X)):List (DV X):=(ePs (zN O (L.drop (varsL ps).length)) ps (L.take (varsL ps).length)).1
def YR (ps:List (Pt X.ι)) (O:List (Nat×OP X.ι)) (L:List (DC X)):List (Nat×Option (DObj X)):=bC (zN O (L.drop (varsL ps).length)) O (L.drop (varsL ps).length)
def xu:List (DV X)->DV X
 |[d]=>d
 |ds=> .tup ds
def bH:List (Nat×Option (DObj X))->List (Nat×DObj X)
 |[]=>[]
 |(k,some o)::r=>(k,o)::bH r
 |(_,none)::r=>bH r
def qf (l:List (Nat×DObj X)):List (Nat×aF):=l.map fun p=>(p.1,aU p.2)
def GSig.args (g:GSig X) (v:VT (X:=X) (varsL g.inP++varsO g.inO)):List (DV X):=Rp g.inP g.inO (tQ _ v)
def GSig.objs (g:GSig X) (v:VT (X:=X) (varsL g.inP++varsO g.inO)):List (Nat×DObj X):=bH (YR g.inP g.inO (tQ _ v))
def GSig.res (g:GSig X) (r:VT (X:=X) (varsS (zipS 0 g.outP)++varsO g.outO)):DV X:=xu (Rp g.outP g.outO (tQ _ r))
def GSig.outs (g:GSig X) (r:VT (X:=X) (varsS (zipS 0 g.outP)++varsO g.outO)):List (Nat×DObj X):=bH (YR g.outP g.outO (tQ _ r))
def aeP (P:Program) (f:FuncId) (g:GSig X):Prop:=∀ v r,g.fn v=some r->FnG P f (aP (g.args v)) ((g.objs v).map fun p=>aU p.2) (qf (g.outs r)) (den (g.res r))
end
inductive AT (ι:Type) where
 |d (c:CT ι)
 |ref (c:CT ι)
 |clo (as:List (CT ι)) (r:CT ι)
 |mut (c:CT ι)
 |mref (c:CT ι)
 |nil
 deriving DecidableEq
def AT.im {ι:Type}:AT ι->Bool
 | .mut _ | .mref _=>true
 |_=>false
def AT.pl {ι:Type}:AT ι->Bool
 | .mut _ | .mref _ | .nil=>false
 |_=>true
inductive RT (ι:Type) where
 |d (c:CT ι)
 |fresh (e:CT ι)
 |whole (j:Nat)
 |mu (c:CT ι)
 |mr (c:CT ι)
 |mv
def RT.out {ι:Type}:RT ι->Bool
 | .mu _ | .mr _ | .mv=>true
 |_=>false
section
variable (X:SX)
@[reducible] def AT.T:AT X.ι->Type
 | .d c=>CT.T X.toSE c
 | .ref c=>CT.T X.toSE c
 | .clo as r=>HL X.toSE as->Option (CT.T X.toSE r)
 | .mut c=>List (CT.T X.toSE c)
 | .mref c=>CT.T X.toSE c
 | .nil=>Unit
@[reducible] def RT.T:RT X.ι->Type
 | .d c=>CT.T X.toSE c
 | .fresh e=>List (CT.T X.toSE e)
 | .whole _=>Unit
 | .mu c=>List (CT.T X.toSE c)
 | .mr c=>CT.T X.toSE c
 | .mv=>Unit
@[reducible] def fP:List (AT X.ι)->Type
 |[]=>Unit
 |a::l=>AT.T X a×fP l
@[reducible] def p9:List (RT X.ι)->Type
 |[]=>Unit
 |[r]=>RT.T X r
 |r::r'::l=>RT.T X r×p9 (r'::l)
structure Sig where
 args:List (AT X.ι)
 res:List (RT X.ι)
 fn:fP X args->Option (p9 X res)
 gen:Option (GSig X):=none
variable {X}
def bT:Nat->(l:List (AT X.ι))->fP X l->List AV
 |_,[],_=>[]
 |n,.d c::l,a=>(CT.tv X.toSE c a.1).av::bT n l a.2
 |n,.ref c::l,a=> .rptr (CT.row X.toSE c a.1) 0::bT n l a.2
 |n,.clo as r::l,a=>den (.clo as r a.1:DV X)::bT n l a.2
 |n,.mut _::l,a=> .own n 0 (List.length a.1)::bT (n+1) l a.2
 |n,.mref _::l,a=> .ptr n 0 0::bT (n+1) l a.2
 |n,.nil::l,a=> .nilsl::bT n l a.2
abbrev xw (l:List (AT X.ι)) (a:fP X l):List AV:=bT 0 l a
def oO (c:CT X.ι) (l:List (CT.T X.toSE c)):dG:=(CT.sz X c,l.map (CT.row X.toSE c))
def nK:(l:List (AT X.ι))->fP X l->List dG
 |[],_=>[]
 | .mut c::l,a=>oO c a.1::nK l a.2
 | .mref c::l,a=>oO c [a.1]::nK l a.2
 | .d _::l,a=>nK l a.2
 | .ref _::l,a=>nK l a.2
 | .clo _ _::l,a=>nK l a.2
 | .nil::l,a=>nK l a.2
def nL:(r:RT X.ι)->RT.T X r->List (Option dG)
 | .mu c,x=>[some (oO c x)]
 | .mr c,x=>[some (oO c [x])]
 | .mv,_=>[none]
 |_,_=>[]
def kR:(l:List (RT X.ι))->p9 X l->List (Option dG)
 |[],_=>[]
 |[r],x=>nL r x
 |r::r'::l,x=>nL r x.1++kR (r'::l) x.2
def Uz:(r:RT X.ι)->RT.T X r->List Nat
 | .mu _,x=>[List.length x]
 | .mr _,_=>[1]
 | .mv,_=>[0]
 |_,_=>[]
def Xe:(l:List (RT X.ι))->p9 X l->List Nat
 |[],_=>[]
 |[r],x=>Uz r x
 |r::r'::l,x=>Uz r x.1++Xe (r'::l) x.2
def Rq (ns:List Nat):(r:RT X.ι)->RT.T X r->List RC
 | .d c,x=>[.d (CT.tv X.toSE c x)]
 | .fresh e,l=>[.fresh (CT.sz X e) (l.map (CT.row X.toSE e))]
 | .whole j,_=>[.whole j (ns.getD j 0)]
 |_,_=>[]
def zO (ns:List Nat):(l:List (RT X.ι))->p9 X l->List RC
 |[],_=>[]
 |[r],x=>Rq ns r x
 |r::r'::l,x=>Rq ns r x.1++zO ns (r'::l) x.2
def qg (l:List (RT X.ι)) (x:p9 X l):RV:=
 match zO (Xe l x) l x with
 |[c]=> .one c
 |cs=> .tup cs
def GOk (P:Program) (Γ:FuncId->Option (Sig X)):Prop:=
 ∀ f s,Γ f=some s->kN P f∧(∀ a r,s.fn a=some r->FnW P f (xw s.args a) (nK s.args a) (kR s.res r) (qg s.res r))∧∀ g,s.gen=some g->aeP P f g
theorem ahU:∀ {l:List (AT X.ι)},(l.all fun q=>q.pl)=true->(l.all fun q=>!q.im)=true:=fun {l} h=>by
 rw[all_eq_true]at h ⊢;intro q hq;have:=h q hq;cases q<;>simp_all [AT.pl,AT.im]
theorem xA:∀ {l:List (AT X.ι)} {a:fP X l},(l.all fun q=>!q.im)=true->nK l a=[]
 |[],_,_=>rfl
 | .d _::l,a,h=>xA (l:=l) (by simpa[AT.im]using h)
 | .ref _::l,a,h=>xA (l:=l) (by simpa[AT.im]using h)
 | .clo _ _::l,a,h=>xA (l:=l) (by simpa[AT.im]using h)
 | .mut _::l,a,h=>by simp[AT.im]at h
 | .mref _::l,a,h=>by simp[AT.im]at h
 | .nil::l,a,h=>xA (l:=l) (by simpa[AT.im]using h)
theorem YS {r:RT X.ι} {x:RT.T X r} (h:(!r.out)=true):nL r x=[]:=by cases r<;>first |rfl |simp[RT.out]at h
theorem YT:∀ {l:List (RT X.ι)} {x:p9 X l},(l.all fun q=>!q.out)=true->kR l x=[]
 |[],_,_=>rfl
 |[r],x,h=>YS (by simpa using h)
 |r::r'::l,x,h=>by
  simp only[all_cons,and_eq_true]at h;simp only[kR,YS h.1,nil_append];exact YT (l:=r'::l) (by simp only[all_cons,and_eq_true];exact h.2)
mutual
def drefs:DV X->List Nat
 | .own k _ _=>[k]
 | .ptr k _ _=>[k]
 | .ptl k _ _=>[k]
 | .pta k _ _ _ _=>[k]
 | .mp k=>[k]
 | .agg cs=>aG cs
 | .tup cs=>aG cs
 | .fn _ first caps=>aG first++aG caps
 |_=>[]
def aG:List (DV X)->List Nat
 |[]=>[]
 |x::xs=>drefs x++aG xs
end
theorem Cq (c:CT X.ι) (x:CT.T X.toSE c):refs (CT.tv X.toSE c x).av=[]:=by
 cases c<;>try rfl
 rename_i i;show bg ((X.row i x).map AV.t)=[];generalize X.row i x=l
 induction l with
 |nil=>rfl
 |cons y ys ih=>simp only[map_cons,bg,refs,ih,nil_append]
mutual
theorem fF:∀ x:DV X,refs (den x)=drefs x
 | .c t x=>Cq t x
 | .agg cs=>by simp only[den,refs,drefs,eG cs]
 | .tup cs=>by simp only[den,refs,drefs,eG cs]
 | .own _ _ _=>rfl
 | .ptr _ _ _=>rfl
 | .ptl _ _ _=>rfl
 | .mp _=>rfl
 | .pta _ _ _ _ _=>rfl
 | .rp _ _ _=>rfl
 | .fn f first caps=>by simp only[den,refs,drefs,eG first,eG caps]
 | .clo _ _ _=>rfl
 | .raw v=>by
  simp only[den,drefs,cv];split
  ·rfl
  ·split<;>rfl
 | .nil=>rfl
 | .ub=>rfl
 | .skip=>rfl
 | .undef=>rfl
theorem eG:∀ l:List (DV X),bg (aP l)=aG l
 |[]=>rfl
 |x::xs=>by simp only[aP,bg,aG,fF x,eG xs]
end
def Oc (get:Nat->Option (DObj X)) (d:DV X) (c:CT X.ι):Option (CT.T X.toSE c×List Bool):=
 match d,c with
 | .own kk off len,.sl e=>(get kk).bind fun o=>match o with
  | .lst b l=>(iy (.sl b) (.sl e) l).bind fun (l:List (CT.T X.toSE e))=>some (sub l off len,[eqL (sub l off len).length len])
  |_=>none
 | .own kk off len,.any=>(get kk).bind fun o=>match o with
  | .lst b l=>some (.sl (List.map (CT.row X.toSE b) (sub l off len)),[eqL (sub l off len).length len])
  |_=>none
 |d,c=>(GD d c).bind fun x=>some (x,[])
def uW (get:Nat->Option (DObj X)):List (DV X)->(l:List (CT X.ι))->Option (HL X.toSE l×List Bool)
 |[],[]=>some ((),[])
 |d::ds,c::l=>(Oc get d c).bind fun x=>(uW get ds l).bind fun h=>some ((x.1,h.1),x.2++h.2)
 |_,_=>none
def Vn (get:Nat->Option (DObj X)) (d:DV X) (i:X.ι):Option (CT.T X.toSE (.st i)×List Bool):=
 match d with
 | .agg cs=>(uW get cs (X.tys i)).bind fun h=>some (X.make i h.1,h.2)
 | .c a x=>(iy a (.st i) x).bind fun x=>some (x,[])
 |_=>none
def DI (get:Nat->Option (DObj X)) (d:DV X) (c:CT X.ι):Option (CT.T X.toSE c×List Bool):=
 match c with
 | .st i=>Vn get d i
 |c=>Oc get d c
def aeQ (get:Nat->Option (DObj X)) (d:DV X) (c:CT X.ι):Option (CT.T X.toSE c):=
 match d with
 | .ptr kk row 0=>(get kk).bind fun o=>match o with
  | .cells _ rows=>(rows[row]?).bind fun q=>if q.all (fun x=>match x with | .c _ _=>true |_=>false)then JS c q else none
  |_=>none
 | .rp a x 0=>iy a c x
 |_=>none
def apA:(l l':List (AT X.ι))->fP X l->fP X l'->fP X (l++l')
 |[],_,_,b=>b
 |_::l,l',a,b=>(a.1,apA l l' a.2 b)
def hlA:(as:List (CT X.ι))->HL X.toSE as->fP X (as.map AT.d)
 |[],_=>()
 |_::l,h=>(h.1,hlA l h.2)
def nM:List (AT X.ι)->Nat
 |[]=>0
 |q::l=>(if q.im then 1 else 0)+nM l
theorem iU:∀ (n:Nat) (l l':List (AT X.ι)) (a:fP X l) (b:fP X l'),bT n (l++l') (apA l l' a b)=bT n l a++bT (n+nM l) l' b
 |n,[],_,_,_=>rfl
 |n,.d c::l,l',a,b=>by simp[bT,apA,iU n l l' a.2 b,nM,AT.im]
 |n,.ref c::l,l',a,b=>by simp[bT,apA,iU n l l' a.2 b,nM,AT.im]
 |n,.clo as r::l,l',a,b=>by simp[bT,apA,iU n l l' a.2 b,nM,AT.im]
 |n,.mut c::l,l',a,b=>by simp[bT,apA,iU (n+1) l l' a.2 b,nM,AT.im,Nat.add_assoc]
 |n,.mref c::l,l',a,b=>by simp[bT,apA,iU (n+1) l l' a.2 b,nM,AT.im,Nat.add_assoc]
 |n,.nil::l,l',a,b=>by simp[bT,apA,iU n l l' a.2 b,nM,AT.im]
theorem Mc:∀ (n:Nat) (as:List (CT X.ι)) (h:HL X.toSE as),bT n (as.map AT.d) (hlA as h)=(HL.tvs X.toSE as h).map TV.av
 |_,[],_=>rfl
 |n,c::l,h=>congrArg ((CT.tv X.toSE c h.1).av:: ·) (Mc n l h.2)
def ag1 {a b:CT X.ι} (h:a=b) (o:Option (CT.T X.toSE a)):Option (CT.T X.toSE b):=h ▸ o
def iA (get:Nat->Option (DObj X)) (clof:FuncId->List (DV X)->List (DV X)->(as:List (CT X.ι))->(r:CT X.ι)->Option ((HL X.toSE as->Option (CT.T X.toSE r))×List Bool)):List (DV X)->(l:List (AT X.ι))->Option (fP X l×List Bool)
 |[],[]=>some ((),[])
 |d::ds,.d c::l=>(DI get d c).bind fun x=>(iA get clof ds l).bind fun h=>some ((x.1,h.1),x.2++h.2)
 |d::ds,.ref c::l=>(aeQ get d c).bind fun x=>(iA get clof ds l).bind fun h=>some ((x,h.1),h.2)
 |d::ds,.clo as r::l=>(match d with
  | .clo as' r' φ=>if h:as'=as∧r'=r then some (fun x=>ag1 h.2 (φ (h.1 ▸ x)),[])else none
  | .fn f first caps=>clof f first caps as r
  |_=>none).bind fun φ=>(iA get clof ds l).bind fun q=>some ((φ.1,q.1),φ.2++q.2)
 |_,_=>none
def Od (Γ:FuncId->Option (Sig X)) (get:Nat->Option (DObj X)):Nat->List (DV X)->(l:List (AT X.ι))->Option (fP X l×List Bool)
 | 0,ds,l=>iA get (fun _ _ _ _ _=>none) ds l
 |n+1,ds,l=>iA get (fun f first caps as r=>(Γ f).bind fun s=>match s with
   |⟨sa,[.d r'],fn,_⟩=>
    if h:r'=r∧sa=sa.take first.length++(as.map AT.d++sa.drop (first.length+as.length))then
     (Od Γ get n first (sa.take first.length)).bind fun hf=>(Od Γ get n caps (sa.drop (first.length+as.length))).bind fun hc=>
      some (fun x=>ag1 h.1 (fn (h.2 ▸ apA _ _ hf.1 (apA _ _ (hlA as x) hc.1))),hf.2++hc.2)
    else none
   |_=>none) ds l
section
variable {P:Program} {Γ:FuncId->Option (Sig X)} {get:Nat->Option (DObj X)} {rd:List Nat}
theorem eu {a b:List Prop} (h:∀ p∈a,p) (h':∀ p∈b,p):∀ p∈a++b,p:=fun p hp=>(mem_append.1 hp).elim (h p) (h' p)
theorem EC {d:DV X} {c:CT X.ι} {x:CT.T X.toSE c×List Bool} (h:Oc get d c=some x) (hc:∀ b∈x.2,b=true) (hrd:∀ j∈drefs d,j∈rd):∃ hs obs,(∀ p∈obs,p)∧∀ rest,lN P (bS rd (dL get)) (den d) (hs++rest)=some ((CT.tv X.toSE c x.1).av,rest,obs):=by
 have base:∀ {d:DV X} {c:CT X.ι} {x:CT.T X.toSE c},GD d c=some x->∃ hs obs,(∀ p∈obs,p)∧∀ rest,lN P (bS rd (dL get)) (den d) (hs++rest)=some ((CT.tv X.toSE c x).av,rest,obs):=by
  intro d c x h;unfold GD at h;split at h
  ·rw[(kX h).1];refine⟨[],[],by simp,fun rest=>?_⟩;simp only[nil_append,den];cases c<;>try rfl
   rename_i j;show lN P _ (.agg ((X.row j x).map AV.t)) rest=_;have:∀ (l:List Tree) (hs:List LH),j3 P (bS rd (dL get)) (l.map AV.t) hs=some (l.map AV.t,hs,[]):=by
    intro l
    induction l with
    |nil=>intro hs;rfl
    |cons y ys ih=>intro hs;simp only[map_cons,j3,lN,bind_some,ih,nil_append]
   simp only[lN,this,bind_some];rfl
  ·injection h with h;subst h;exact⟨[.emp],[],by simp,fun rest=>rfl⟩
  ·injection h with h;subst h;exact⟨[.emp],[],by simp,fun rest=>rfl⟩
  ·cases h
 unfold Oc at h;split at h
 ·rename_i kk off len e;rw[ai]at h;obtain⟨o,h1,h⟩:=h;split at h
  ·rename_i b l0;rw[ai]at h;obtain⟨l,h2,h⟩:=h;injection h with h;subst h;have h3:(sub l off len).length=len:=(by simpa[eqL]using hc (eqL (sub l off len).length len) (by simp));obtain⟨h4,h5⟩:=iO h2;refine⟨[.rows ((sub l off len).map (CT.row X.toSE e))],[(((aU (.lst b l0):aF).rows.drop off).take len=aD ((sub l off len).map (CT.row X.toSE e))∧((sub l off len).map (CT.row X.toSE e)).length=len)],?_,fun rest=>?_⟩
   ·intro p hp;simp only[mem_singleton]at hp;subst hp;refine⟨?_,by simpa using h3⟩;simp only[aU,h5];simp[aD,sub,map_take,map_drop]
   ·simp only[cons_append,nil_append,den,lN,dK (hrd kk (by simp[drefs])) h1,bind_some];rfl
  ·cases h
 ·rename_i kk off len;rw[ai]at h;obtain⟨o,h1,h⟩:=h;split at h
  ·rename_i b l0;injection h with h;subst h;have h3:(sub l0 off len).length=len:=(by simpa[eqL]using hc (eqL (sub l0 off len).length len) (by simp));refine⟨[.rows ((sub l0 off len).map (CT.row X.toSE b))],[(((aU (.lst b l0):aF).rows.drop off).take len=aD ((sub l0 off len).map (CT.row X.toSE b))∧((sub l0 off len).map (CT.row X.toSE b)).length=len)],?_,fun rest=>?_⟩
   ·intro p hp;simp only[mem_singleton]at hp;subst hp;refine⟨?_,by simpa using h3⟩;simp only[aU];simp[aD,sub,map_take,map_drop]
   ·simp only[cons_append,nil_append,den,lN,dK (hrd kk (by simp[drefs])) h1,bind_some];rfl
  ·cases h
 ·rw[ai]at h;obtain⟨y,h1,h⟩:=h;injection h with h;subst h;exact base h1
theorem JW:∀ {ds:List (DV X)} {l:List (CT X.ι)} {h:HL X.toSE l×List Bool},uW get ds l=some h->(∀ b∈h.2,b=true)->l.all CT.one=true->(∀ j∈aG ds,j∈rd)->
 ∃ hs obs,(∀ p∈obs,p)∧∀ rest,j3 P (bS rd (dL get)) (aP ds) (hs++rest)=some ((HL.row X.toSE l h.1).map AV.t,rest,obs)
 |[],[],h,_,_,_,_=>⟨[],[],by simp,fun rest=>rfl⟩
 |d::ds,c::l,h,hr,hc,ha,hrd=>by
  simp only[uW]at hr;rw[ai]at hr;obtain⟨x,h1,hr⟩:=hr;rw[ai]at hr;obtain⟨g,h2,hr⟩:=hr;injection hr with hr;subst hr;simp only[all_cons,and_eq_true]at ha;obtain⟨hs1,o1,p1,q1⟩:=EC (P:=P) (rd:=rd) h1 (fun b hb=>hc b (by simp[hb])) (fun j hj=>hrd j (by simp[aG,hj]));obtain⟨hs2,o2,p2,q2⟩:=JW h2 (fun b hb=>hc b (by simp[hb])) ha.2 (fun j hj=>hrd j (by simp[aG,hj]));refine⟨hs1++hs2,o1++o2,eu p1 p2,fun rest=>?_⟩;simp only[aP,j3,append_assoc,q1,bind_some,q2];show _=some ((CT.row X.toSE c x.1++HL.row X.toSE l g.1).map AV.t,rest,o1++o2);rw[map_append,<- WY ha.1 x.1];rfl
 |[],_::_,_,hr,_,_,_=>by simp[uW]at hr
 |_::_,[],_,hr,_,_,_=>by simp[uW]at hr
theorem y8 {d:DV X} {c:CT X.ι} {x:CT.T X.toSE c×List Bool} (h:DI get d c=some x) (hc:∀ b∈x.2,b=true) (hrd:∀ j∈drefs d,j∈rd):∃ hs obs,(∀ p∈obs,p)∧∀ rest,lN P (bS rd (dL get)) (den d) (hs++rest)=some ((CT.tv X.toSE c x.1).av,rest,obs):=by
 cases c
 case st i=>
  replace h:Vn get d i=some x:=h
  cases d
  case agg cs=>
   simp only[Vn]at h;rw[ai]at h;obtain⟨g,h1,h⟩:=h;injection h with h;subst h;obtain⟨hs,obs,p1,q1⟩:=JW (P:=P) (rd:=rd) h1 hc (X.flat i) (fun j hj=>hrd j (by simpa[drefs]using hj));refine⟨hs,obs,p1,fun rest=>?_⟩;simp only[den,lN,q1,bind_some,CT.tv,TV.av];rw[X.row_make]
  case c a y=>exact EC (c:= .st i) (x:=x) (by unfold Oc;exact h) hc hrd
  all_goals cases h
 all_goals exact EC h hc hrd
theorem YU {d:DV X} {c:CT X.ι} {x:CT.T X.toSE c} (h:aeQ get d c=some x) (hrd:∀ j∈drefs d,j∈rd):∃ hs obs,(∀ p∈obs,p)∧∀ rest,lN P (bS rd (dL get)) (den d) (hs++rest)=some (.rptr (CT.row X.toSE c x) 0,rest,obs):=by
 unfold aeQ at h;split at h
 ·rename_i kk row;rw[ai]at h;obtain⟨o,h1,h⟩:=h;split at h
  ·rename_i sz rows;rw[ai]at h;obtain⟨q,h2,h⟩:=h;split at h
   ·rename_i hq;refine⟨[.row (CT.row X.toSE c x)],[(aU (.cells sz rows):aF).rows[row]? =some ((CT.row X.toSE c x).map AV.t)],?_,fun rest=>?_⟩
    ·intro p hp;simp only[mem_singleton]at hp;subst hp;simp only[aU,List.getElem?_map,h2,Option.map_some];rw[<- wS h,kQ,map_map];congr 1;refine map_congr_left fun y hy=>?_;have:=all_eq_true.1 hq y hy;cases y<;>first |exact (ag0 _).symm |simp at this
    ·simp only[cons_append,nil_append,den,lN,dK (hrd kk (by simp[drefs])) h1,bind_some]
   ·cases h
  ·cases h
 ·rename_i a y;refine⟨[],[],by simp,fun rest=>?_⟩;simp only[den,(kX h).2];rfl
 ·cases h
theorem abf {n:Nat} {l l':List (AT X.ι)} (e:l=l') (b:fP X l):bT n l' (e ▸ b)=bT n l b:=by subst e;rfl
theorem AX {clof:FuncId->List (DV X)->List (DV X)->(as:List (CT X.ι))->(r:CT X.ι)->Option ((HL X.toSE as->Option (CT.T X.toSE r))×List Bool)}:∀ {ds:List (DV X)} {l:List (AT X.ι)} {a:fP X l×List Bool},iA get clof ds l=some a->(l.all fun q=>!q.im)=true
 |[],[],_,_=>rfl
 |d::ds,.d c::l,a,h=>by
  simp only[iA]at h;rw[ai]at h;obtain⟨x,h1,h⟩:=h;rw[ai]at h;obtain⟨q,h2,h⟩:=h;simpa[AT.im]using AX h2
 |d::ds,.ref c::l,a,h=>by
  simp only[iA]at h;rw[ai]at h;obtain⟨x,h1,h⟩:=h;rw[ai]at h;obtain⟨q,h2,h⟩:=h;simpa[AT.im]using AX h2
 |d::ds,.clo as r::l,a,h=>by
  simp only[iA]at h;rw[ai]at h;obtain⟨x,h1,h⟩:=h;rw[ai]at h;obtain⟨q,h2,h⟩:=h;simpa[AT.im]using AX h2
 |_::_,.mut _::_,_,h=>by simp[iA]at h
 |_::_,.mref _::_,_,h=>by simp[iA]at h
 |_::_,.nil::_,_,h=>by simp[iA]at h
 |[],_::_,_,h=>by simp[iA]at h
 |_::_,[],_,h=>by simp[iA]at h
theorem YV:∀ {n:Nat} {ds:List (DV X)} {l:List (AT X.ι)} {a:fP X l×List Bool},Od Γ get n ds l=some a->(l.all fun q=>!q.im)=true
 | 0,_,_,_,h=>AX h
 |_+1,_,_,_,h=>AX h
theorem Xf:∀ as:List (CT X.ι),((as.map AT.d).all fun q=>!q.im)=true
 |[]=>rfl
 |_::l=>Xf l
def ahV (P:Program) (get:Nat->Option (DObj X)) (clof:FuncId->List (DV X)->List (DV X)->(as:List (CT X.ι))->(r:CT X.ι)->Option ((HL X.toSE as->Option (CT.T X.toSE r))×List Bool)):Prop:=
 ∀ f first caps as r φ rd,clof f first caps as r=some φ->(∀ b∈φ.2,b=true)->(∀ j∈aG first++aG caps,j∈rd)->∃ hs obs,(∀ p∈obs,p)∧∀ rest,lN P (bS rd (dL get)) (.fn f (aP first) (aP caps)) (hs++rest)=some (den (.clo as r φ.1:DV X),rest,obs)
theorem qh {n:Nat} {clof:FuncId->List (DV X)->List (DV X)->(as:List (CT X.ι))->(r:CT X.ι)->Option ((HL X.toSE as->Option (CT.T X.toSE r))×List Bool)} (hclo:ahV P get clof):∀ {ds:List (DV X)} {l:List (AT X.ι)} {a:fP X l×List Bool},iA get clof ds l=some a->(∀ b∈a.2,b=true)->(∀ j∈aG ds,j∈rd)->
 ∃ hs obs,(∀ p∈obs,p)∧∀ rest,j3 P (bS rd (dL get)) (aP ds) (hs++rest)=some (bT n l a.1,rest,obs)
 |[],[],_,_,_,_=>⟨[],[],by simp,fun rest=>rfl⟩
 |d::ds,.d c::l,a,h,hc,hrd=>by
  simp only[iA]at h;rw[ai]at h;obtain⟨x,h1,h⟩:=h;rw[ai]at h;obtain⟨q,h2,h⟩:=h;injection h with h;subst h;obtain⟨hs1,o1,p1,q1⟩:=y8 (P:=P) (rd:=rd) h1 (fun b hb=>hc b (by simp[hb])) (fun j hj=>hrd j (by simp[aG,hj]));obtain⟨hs2,o2,p2,q2⟩:=qh (n:=n) hclo h2 (fun b hb=>hc b (by simp[hb])) (fun j hj=>hrd j (by simp[aG,hj]));refine⟨hs1++hs2,o1++o2,eu p1 p2,fun rest=>?_⟩;simp only[aP,j3,append_assoc,q1,bind_some,q2,bT]
 |d::ds,.ref c::l,a,h,hc,hrd=>by
  simp only[iA]at h;rw[ai]at h;obtain⟨x,h1,h⟩:=h;rw[ai]at h;obtain⟨q,h2,h⟩:=h;injection h with h;subst h;obtain⟨hs1,o1,p1,q1⟩:=YU (P:=P) (rd:=rd) h1 (fun j hj=>hrd j (by simp[aG,hj]));obtain⟨hs2,o2,p2,q2⟩:=qh (n:=n) hclo h2 hc (fun j hj=>hrd j (by simp[aG,hj]));refine⟨hs1++hs2,o1++o2,eu p1 p2,fun rest=>?_⟩;simp only[aP,j3,append_assoc,q1,bind_some,q2,bT]
 |d::ds,.clo as r::l,a,h,hc,hrd=>by
  simp only[iA]at h;rw[ai]at h;obtain⟨φ,h1,h⟩:=h;rw[ai]at h;obtain⟨q,h2,h⟩:=h;injection h with h;subst h;have hd:∃ hs obs,(∀ p∈obs,p)∧∀ rest,lN P (bS rd (dL get)) (den d) (hs++rest)=some (den (.clo as r φ.1:DV X),rest,obs):=by
   cases d
   case clo as' r' ψ=>
    simp only at h1;split at h1
    ·rename_i e;obtain⟨rfl,rfl⟩:=e;injection h1 with h1;subst h1;exact⟨[],[],by simp,fun rest=>rfl⟩
    ·cases h1
   case fn f first caps=>
    obtain⟨hs,obs,g1,g2⟩:=hclo f first caps as r φ rd h1 (fun b hb=>hc b (by simp[hb])) (fun j hj=>hrd j (by simp only[aG,drefs,mem_append]at hj ⊢;exact .inl hj))
    exact⟨hs,obs,g1,fun rest=>by simp only[den];exact g2 rest⟩
   all_goals simp at h1
  obtain⟨hs1,o1,p1,q1⟩:=hd;obtain⟨hs2,o2,p2,q2⟩:=qh (n:=n) hclo h2 (fun b hb=>hc b (by simp[hb])) (fun j hj=>hrd j (by simp[aG,hj]));refine⟨hs1++hs2,o1++o2,eu p1 p2,fun rest=>?_⟩;simp only[aP,j3,append_assoc,q1,bind_some,q2,bT]
 |_::_,.mut _::_,_,h,_,_=>by simp[iA]at h
 |_::_,.mref _::_,_,h,_,_=>by simp[iA]at h
 |_::_,.nil::_,_,h,_,_=>by simp[iA]at h
 |[],_::_,_,h,_,_=>by simp[iA]at h
 |_::_,[],_,h,_,_=>by simp[iA]at h
theorem pG (hΓ:GOk P Γ):∀ (m:Nat) {n:Nat} {ds:List (DV X)} {l:List (AT X.ι)} {a:fP X l×List Bool} {rd:List Nat},Od Γ get m ds l=some a->(∀ b∈a.2,b=true)->(∀ j∈aG ds,j∈rd)->
 ∃ hs obs,(∀ p∈obs,p)∧∀ rest,j3 P (bS rd (dL get)) (aP ds) (hs++rest)=some (bT n l a.1,rest,obs)
 | 0,n,ds,l,a,rd,h,hcs,hrd=>qh (fun _ _ _ _ _ _ _ h=>by cases h) h hcs hrd
 |m+1,n,ds,l,a,rd,h,hcs,hrd=>by
  refine qh (fun f first caps as r φ rd' hc hb hrd'=>?_) h hcs hrd;rw[ai]at hc;obtain⟨s,h1,hc⟩:=hc;split at hc
  ·rename_i sa r' fn _;split at hc
   ·rename_i e;obtain⟨rfl,e2⟩:=e;rw[ai]at hc;obtain⟨hf,h2,hc⟩:=hc;rw[ai]at hc;obtain⟨hcap,h3,hc⟩:=hc;injection hc with hc;rw[<- hc]at hb;obtain⟨g1,g2,_⟩:=hΓ f _ h1;obtain⟨hs1,o1,p1,q1⟩:=pG hΓ m h2 (n:=0) (rd:=rd') (fun b hb'=>hb b (by simp[hb'])) (fun j hj=>hrd' j (by simp[hj]));obtain⟨hs2,o2,p2,q2⟩:=pG hΓ m h3 (n:=0+nM (sa.take first.length)+nM (as.map AT.d)) (rd:=rd') (fun b hb'=>hb b (by simp[hb'])) (fun j hj=>hrd' j (by simp[hj]));refine⟨.clo (fun ts u=>∃ h x,φ.1 h=some x∧ts=HL.tvs X.toSE as h∧u=CT.tv X.toSE r' x)::(hs1++hs2),o1++(o2++[kN P f∧∀ args r,(∃ h x,φ.1 h=some x∧args=HL.tvs X.toSE as h∧r=CT.tv X.toSE r' x)->FnP P f (bT 0 _ hf.1++args.map TV.av++bT (0+nM (sa.take first.length)+nM (as.map AT.d)) _ hcap.1) (.one (.d r))]),?_,fun rest=>?_⟩
    ·intro p hp;simp only[mem_append,mem_singleton]at hp;rcases hp with hp |hp |hp
     ·exact p1 p hp
     ·exact p2 p hp
     ·subst hp;refine⟨g1,?_⟩;rintro args r ⟨x,y,hxy,rfl,rfl⟩;rw[<- hc]at hxy;have hxy':fn (e2 ▸ apA _ _ hf.1 (apA _ _ (hlA as x) hcap.1))=some y:=hxy;have:=g2 _ _ hxy';have hnm:(sa.all fun q=>!q.im)=true:=(by rw[e2,List.all_append,List.all_append,YV h2,YV h3,Xf];rfl);rw[xA hnm,xw,abf e2.symm,iU,iU,Mc,<- append_assoc]at this;exact Q9 this
    ·simp only[cons_append,append_assoc,lN,q1,bind_some,q2];rfl
   ·cases hc
  ·cases hc
end
end
def Vo (s:ByteArray) (n:Int):Option Int:=bif decide (0<=n)then (s[n.toNat]?).map fun b=>(b.toNat:Int)else none
def O1 (m:Int) (bytes:Nat):Bool:=decide (0<=m)&&decide (m.toNat*bytes<=140737488355328)&&decide (m.toNat<=maxLen)
def DJ {K V:Type} (eq:K->K->Bool) (k:K):List (K×V)->Option V
 |[]=>none
 |p::r=>bif eq k p.1 then some p.2 else DJ eq k r
def YW {K V:Type} (eq:K->K->Bool) (k:K) (v:V):List (K×V)->List (K×V)
 |[]=>[(k,v)]
 |p::r=>bif eq k p.1 then (k,v)::r else p::YW eq k v r
def iEq (a b:Int):Bool:=a==b
def sEq (a b:ByteArray):Bool:=a.toList==b.toList
section
variable {X:SX} {A:Type}
def DK:(c:CT X.ι)->Option (CT.T X.toSE c->CT.T X.toSE c->Bool)
 | .int _=>some iEq
 | .str=>some sEq
 |_=>none
def adp {ι:Type}:TyK->CT ι->Bool
 | .int a,.int b=>decide (a=b)
 | .str,.str=>true
 |_,_=>false
def ahW {ι:Type}:CT ι->Bool
 | .st _=>true
 |_=>false
theorem fq (a b:List (DV X)):aP (a++b)=aP a++aP b:=by simp[kQ]
theorem pI (a b:List (Nat×Option (DObj X))):fw (a++b)=fw a++fw b:=by simp[fw]
def JX (ids:List Nat):List (Nat×Option (DObj X)):=ids.map fun j=>(j,none)
theorem AY (ids:List Nat):fw (JX (X:=X) ids)=ids.map fun k=>(k,none):=by simp[fw,JX]
theorem Gj {ids:List Nat} {p:Nat×Option (DObj X)} (h:p∈JX ids):p.1∈ids:=by
 simp only[JX,mem_map]at h;obtain⟨j,hj,rfl⟩:=h;exact hj
variable (T:Tab) (code:TypeId->Option (CT X.ι))
def abg:DV X->Bool
 | .nil=>true
 |_=>false
def aeR (op:BinOp) (b:DV X) (yes:Bool) (k:KK X A):Option A:=
 match op with
 | .eql=>bif yes then k b [] [] []else k (.c .bool false) [] [] []
 | .neq=>bif yes then k b [] [] []else k (.c .bool true) [] [] []
 |_=>none
def ahn (op:BinOp) (t:TypeId) (x:DV X) (k:KK X A):Option A:=
 (T t).bind fun ti=>match ti.k,x with
 | .slice _,.c (.sl _) l=>aeR op .ub (List.isEmpty l) k
 | .slice _,.own _ _ len=>aeR op .ub (len==0) k
 | .slice _,.nil=>aeR op (.c .bool (op== .eql)) true k
 |_,_=>none
def ag2 (s d:TypeId) (x:DV X) (k:KK X A):Option A:=
 (T s).bind fun _=>(T d).bind fun di=>match di.k,x with
 | .int kd,.c (.int _) n=>k (.c (.int kd) (kd.wrap (iN n))) [] [] []
 |_,_=>none
def aeS (t:TypeId) (x j:DV X) (k:KK X A):Option A:=
 (T t).bind fun ti=>match ti.k,x,j with
 | .str,.c .str s,.c (.int _) n=>(Vo s n).bind fun b=>k (.c (.int .u8) b) [] [] []
 |_,_,_=>none
def Vp (t:TypeId) (x:DV X) (lo hi:Option (DV X)) (k:KK X A):Option A:=
 (T t).bind fun ti=>match ti.k,x with
 | .slice e,.nil=>(T e).bind fun _=>(YM 0 lo).bind fun l=>(YM 0 hi).bind fun h=>bif decide (l=0)&&decide (h=0)then k .nil [] [] []else none
 |_,_=>none
def Md (i:Nat) (b:Builtin) (args:List (DV X)) (tys:List TypeId) (get:Nat->Option (DObj X)) (k:KK X A):Option A:=
 match b,args,tys with
 | .cap,[.nil],[t]=>(T t).bind fun ti=>match ti.k with
  | .slice _=>k (.c (.int .i64) (0:Int)) [] [] []
  |_=>none
 | .clear,[.own kk off _],[t]=>(T t).bind fun ti=>match ti.k with
  | .slice e=>(T e).bind fun ei=>(get kk).bind fun o=>match o with
   | .lst c l=>if CT.sz X c=ei.size then k (.tup []) [(kk,some (.lst c (l.take off)))] [kk] [kk]else none
   |_=>none
  |_=>none
 | .append,[.nil,.c (.int _) m],[t,u]=>(T t).bind fun ti=>(T u).bind fun ui=>match ti.k,ui.k with
  | .slice e,.int _=>(T e).bind fun ei=>(code e).bind fun c=>if CT.sz X c=ei.size∧0 < ei.size then (JS c (ei.zero.map cvD)).bind fun z=>
   bif O1 (iN m) ei.bytes then k (.own (nid i) 0 m.toNat) [(nid i,some (.lst c (List.replicate m.toNat z)))] [] []else none else none
  |_,_=>none
 |_,_,_=>none
def Me (x:DV X) (k:KK X A):Option A:=
 match x with
 | .ptr kk r f=>k (.ptr kk r f) [] [] []
 | .ptl kk n f=>k (.ptl kk n f) [] [] []
 | .pta kk r f m n=>k (.pta kk r f m n) [] [] []
 | .rp c y f=>k (.rp c y f) [] [] []
 |_=>none
def aeT (i:Nat) (t:TypeId) (l c:DV X) (k:KK X A):Option A:=
 (T t).bind fun ti=>match ti.k,l,c with
 | .slice e,.c (.int _) n,.c (.int _) m=>(T e).bind fun ei=>(code e).bind fun c=>if CT.sz X c=ei.size∧0 < ei.size then (JS c (ei.zero.map cvD)).bind fun z=>
  bif decide (iN n<=iN m)&&(decide (0<=iN n)&&O1 (iN m) ei.bytes)then k (.own (nid i) 0 n.toNat) [(nid i,some (.lst c (List.replicate n.toNat z)))] [] []else none else none
 |_,_,_=>none
def Rs (i:Nat) (t:TypeId) (k:KK X A):Option A:=
 (T t).bind fun ti=>match ti.k with
 | .map kt et=>(code kt).bind fun kc=>(code et).bind fun vc=>k (.mp (nid i)) [(nid i,some (.map kc vc []))] [] []
 |_=>none
def Xg (t:TypeId) (x key:DV X) (ok:Bool) (get:Nat->Option (DObj X)) (k:KK X A):Option A:=
 (T t).bind fun ti=>match ti.k,x with
 | .map kt et,.mp kk=>(T kt).bind fun ki=>(T et).bind fun ei=>(get kk).bind fun o=>match o with
  | .map kc vc l=>(DK kc).bind fun eq=>(GD key kc).bind fun kv=>if adp ki.k kc=true∧ei.agg=ahW vc∧ei.size=CT.sz X vc then (JS vc (ei.zero.map cvD)).bind fun z=>
   bif ok then k (.tup [.c vc ((DJ eq kv l).getD z),.c .bool (DJ eq kv l).isSome]) [] [kk] []else k (.c vc ((DJ eq kv l).getD z)) [] [kk] []else none
  |_=>none
 |_,_=>none
def Xh (t:TypeId) (x key y:DV X) (get:Nat->Option (DObj X)) (k:KK X A):Option A:=
 (T t).bind fun ti=>match ti.k,x with
 | .map kt _,.mp kk=>(T kt).bind fun ki=>(get kk).bind fun o=>match o with
  | .map kc vc l=>(DK kc).bind fun eq=>(GD key kc).bind fun kv=>(dat y vc).bind fun v=>if adp ki.k kc=true then k .undef [(kk,some (.map kc vc (YW eq kv v l)))] [kk] [kk]else none
  |_=>none
 |_,_=>none
def ahX (o:Op) (ρ:Operand->DV X):Bool:=
 match o with
 | .binOp _ _ _ y _=>abg (ρ y)
 | .convert _ _ _=>true
 | .index _ _ _=>true
 | .nilCheck _=>true
 | .makeSlice _ _ _=>true
 | .makeMap _ none=>true
 | .lookup _ _ _ _=>true
 | .mapUpdate _ _ _ _=>true
 | .slice _ x _ _ none=>abg (ρ x)
 | .call { callee:= .builtin b,args:=args,argTypes:=_ }=>match b,args.toList.map ρ with
  | .cap,_=>true
  | .clear,_=>true
  | .append,[_,.c (.int _) _]=>true
  |_,_=>false
 |_=>false
def aho (i:Nat) (o:Op) (ρ:Operand->DV X) (get:Nat->Option (DObj X)) (k:KK X A):Option A:=
 match o with
 | .binOp op t x y _=>if abg (ρ y)then ahn T op t (ρ x) k else none
 | .convert s d x=>ag2 T s d (ρ x) k
 | .index t x j=>aeS T t (ρ x) (ρ j) k
 | .slice t x lo hi none=>Vp T t (ρ x) (lo.map ρ) (hi.map ρ) k
 | .nilCheck x=>Me (ρ x) k
 | .makeSlice t l c=>aeT T code i t (ρ l) (ρ c) k
 | .makeMap t none=>Rs T code i t k
 | .lookup t m x ok=>Xg T t (ρ m) (ρ x) ok get k
 | .mapUpdate t m x v=>Xh T t (ρ m) (ρ x) (ρ v) get k
 | .call { callee:= .builtin b,args:=args,argTypes:=tys }=>Md T code i b (args.toList.map ρ) tys.toList get k
 |_=>none
def aeU (get:Nat->Option (DObj X)) (c:CT X.ι) (ρ:Operand->DV X) (x:Operand):DV X:=
 match DI get (ρ x) c with
 |some y=> .c c y.1
 |none=>ρ x
def agf (get:Nat->Option (DObj X)) (c:CT X.ι) (ρ:Operand->DV X):List Operand->List Bool
 |[]=>[]
 |x::xs=>(match DI get (ρ x) c with |some y=>y.2 |none=>[])++agf get c ρ xs
def YX (get:Nat->Option (DObj X)) (c:CT X.ι) (ρ:Operand->DV X):List Operand->List Nat
 |[]=>[]
 |x::xs=>(match DI get (ρ x) c with |some _=>drefs (ρ x) |none=>[])++YX get c ρ xs
def agh (o:Op) (ρ:Operand->DV X) (get:Nat->Option (DObj X)):Option (CT X.ι):=
 match o with
 | .box t _=>code t
 | .assign x | .move x=>match ρ x with
  | .own kk _ _=>(get kk).bind fun o=>match o with
   | .lst c _=>some (.sl c)
   |_=>none
  |_=>none
 | .buildSlice t _ _=>(T t).bind fun ti=>match ti.k with
  | .slice e=>code e
  |_=>none
 | .store t _ _=>code t
 |_=>none
def ahY (o:Op) (ρ:Operand->DV X):Bool:=
 match o with
 | .buildSlice _ _ parts=>!(aG (parts.toList.map fun p=>ρ p.2)).isEmpty
 | .store _ a x=>match ρ a with
  | .ptl _ _ _=>!(drefs (ρ x)).isEmpty
  |_=>false
 |_=>false
def ahp (i:Nat) (o:Op) (ρ:Operand->DV X) (get:Nat->Option (DObj X)) (k:KK X A):Option A:=
 if aaT o then none else (agh T code o ρ get).bind fun c=>Rb (agf get c ρ o.operands.toList)
  (opD T code i o (aeU get c ρ) (fun j=>if j∈YX get c ρ o.operands.toList then none else get j) fun dv upd rd wr=>
   k dv (upd++JX (YX get c ρ o.operands.toList)) (rd++YX get c ρ o.operands.toList) (wr++YX get c ρ o.operands.toList))
def ahZ (o:Op) (ρ:Operand->DV X):Bool:=
 match o with
 | .indexAddr t x (.tmp _)=>match ρ x,T t with
  | .ptr _ _ _,some ti=>match ti.k with
   | .arr _ e=>match T e with
    |some ei=>ei.size==1
    |none=>false
   |_=>false
  |_,_=>false
 | .load _ a=>match ρ a with
  | .pta _ _ _ _ _=>true
  |_=>false
 |_=>false
def AZ (c:CT X.ι):List (DV X)->Option (List (CT.T X.toSE c))
 |[]=>some []
 | .c a x::r=>(iy a c x).bind fun y=>(AZ c r).bind fun l=>some (y::l)
 |_=>none
def ahq (o:Op) (ρ:Operand->DV X) (get:Nat->Option (DObj X)) (k:KK X A):Option A:=
 match o with
 | .indexAddr t x j=>(T t).bind fun ti=>match ti.k,ρ x,ρ j with
  | .arr m e,.ptr kk row off,.c (.int _) n=>(T e).bind fun ei=>if ei.size=1 then bif inb n m then k (.pta kk row off m n) [] [] []else none else none
  |_,_,_=>none
 | .load t a=>(T t).bind fun ti=>match ρ a with
  | .pta kk row off m n=>if ti.size=1∧ti.agg=false then (code t).bind fun c=>if c.one=true then (get kk).bind fun o=>match o with
   | .cells _ rows=>(rows[row]?).bind fun q=>(AZ c ((q.drop off).take m)).bind fun (xs:List (CT.T X.toSE c))=>(at? xs n).bind fun y=>k (.c c y) [] [kk] []
   |_=>none
   else none else none
  |_=>none
 |_=>none
variable {T code}
def SdAny (P:Program) (T:Tab) (i:Nat) (o:Oper) (ρ:Operand->DV X) (get:Nat->Option (DObj X)) (k:KK X A) (r:A):Prop:=
 ∃ orc rd wr dv upd out,gP P T i o orc (fun x=>den (ρ x)) (bS rd (dL get))=some out∧fJ out.obs∧out.v=den dv∧out.upd=fw upd∧(∀ p∈upd,p.1=nid i∨p.1∈wr)∧k dv upd rd wr=some r
section
variable {P:Program} {get:Nat->Option (DObj X)} {k:KK X A} {r:A} {i:Nat} {o:Oper} {ρ:Operand->DV X}
theorem aeV {t:TypeId} {x:AV} {orc:Orc} (h:(∃ n,orc= .ext n)∨∃ ids fr q,orc= .frz ids fr q):Yo T t x .none=Yo T t x orc:=by
 unfold Yo;cases T t with
 |none=>rfl
 |some ti=>
  simp only[bind_some];generalize ti.k=kk;rcases h with ⟨n,rfl⟩ |⟨ids,fr,q,rfl⟩<;>cases kk<;>try rfl
  all_goals cases x<;>try rfl
  all_goals (rename_i y;cases y<;>try rfl)
  all_goals (rename_i y;cases y<;>rfl)
theorem Rt {t:TypeId} {x j:AV} {orc:Orc} {get:Nat->Option aF} (h:(∃ n,orc= .ext n)∨∃ ids fr q,orc= .frz ids fr q):j6 T t x j .none get=j6 T t x j orc get:=by
 unfold j6;cases T t with
 |none=>rfl
 |some ti=>
  simp only[bind_some];generalize ti.k=kk;cases kk<;>try rfl
  case arr m e=>
   cases j<;>try rfl
   rename_i y;cases y<;>try rfl
   rename_i y;cases y<;>rfl
  cases j<;>try rfl
  rename_i e y;cases y<;>try rfl
  rename_i y;cases y<;>try rfl
  simp only;cases T e with
  |none=>rfl
  |some ei=>
   simp only[bind_some];rcases h with ⟨n,rfl⟩ |⟨ids,fr,q,rfl⟩<;>cases x<;>try rfl
   all_goals (rename_i z;cases z<;>rfl)
theorem YZ {t:TypeId} {x y:AV} {orc:Orc} {get:Nat->Option aF} (h:(∃ n,orc= .ext n)∨∃ ids fr q,orc= .frz ids fr q):yY T i t x y .none get=yY T i t x y orc get:=by
 unfold yY;rcases h with ⟨n,rfl⟩ |⟨ids,fr,q,rfl⟩<;>rfl
theorem adq {orc:Orc} {ρ:Operand->AV} {get:Nat->Option aF} (h:(∃ n,orc= .ext n)∨∃ ids fr q,orc= .frz ids fr q):pE T i o .none ρ get=pE T i o orc ρ get:=by
 obtain⟨dst,op,ty,pos,after,guard⟩:=o;cases op
 case call c=>
  obtain⟨callee,args,tys⟩:=c;cases callee<;>try rfl
  rename_i b;simp only[pE,AP];split
  ·exact aeV h
  ·rfl
  ·rfl
  ·rw[YZ h]
  ·rfl
 case slice t x lo hi mx=>cases mx<;>rcases h with ⟨n,rfl⟩ |⟨ids,fr,q,rfl⟩<;>rfl
 case makeFunc fn a b=>cases fn<;>rfl
 case indexAddr t x j=>exact Rt h
 all_goals (rcases h with ⟨n,rfl⟩ |⟨ids,fr,q,rfl⟩<;>rfl)
theorem SdAny.ext {n:Int} {rd wr:List Nat} {dv:DV X} {upd:List (Nat×Option (DObj X))} {out:Out} (h:ru T i o n (fun x=>den (ρ x)) (bS rd (dL get))=some out) (h1:fJ out.obs) (h2:out.v=den dv) (h3:out.upd=fw upd) (h4:∀ p∈upd,p.1=nid i∨p.1∈wr) (h5:k dv upd rd wr=some r) (hx:aeA o.op=false:=by rfl):SdAny P T i o ρ get k r:=
 ⟨.ext n,rd,wr,dv,upd,out,by show qc T i o n _ _=some out;unfold qc;rw[hx];exact h,h1,h2,h3,h4,h5⟩
theorem SdAny.ext2 {n:Int} {rd wr:List Nat} {dv:DV X} {upd:List (Nat×Option (DObj X))} {out:Out} (h:Ch T i o n (fun x=>den (ρ x)) (bS rd (dL get))=some out) (h1:fJ out.obs) (h2:out.v=den dv) (h3:out.upd=fw upd) (h4:∀ p∈upd,p.1=nid i∨p.1∈wr) (h5:k dv upd rd wr=some r) (hx:aeA o.op=true:=by rfl):SdAny P T i o ρ get k r:=
 ⟨.ext n,rd,wr,dv,upd,out,by show qc T i o n _ _=some out;unfold qc;rw[hx];exact h,h1,h2,h3,h4,h5⟩
theorem O3 {x:DV X} (h:Me x k=some r):∃ dv,LG (den x)=some ⟨den dv,[],[]⟩∧k dv [] [] []=some r:=by cases x<;>simp only[Me]at h<;>first |cases h |exact⟨_,rfl,h⟩
theorem Vq {orc:Orc} {ρ:Operand->AV} {get:Nat->Option aF} (hne:∀ f args tys,o.op≠ .call { callee:= .value f,args:=args,argTypes:=tys }) (ho:∀ n,orc≠ .ext n) (hf:∀ ids fr q,orc≠ .frz ids fr q):gP P T i o orc ρ get=pE T i o orc ρ get:=by
 have e:∀ (α:Type) (a:Operand->Array Operand->Array TypeId->α) (b:α),(match o.op with | .call { callee:= .value f,args:=args,argTypes:=tys }=>a f args tys |_=>b)=b:=by
  intro α a b;split
  ·rename_i f args tys heq;exact (hne f args tys heq).elim
  ·rfl
 cases orc<;>first |exact (ho _ rfl).elim |exact (hf _ _ _ rfl).elim |exact e _ _ _
theorem SdAny.op {orc:Orc} {rd wr:List Nat} {dv:DV X} {upd:List (Nat×Option (DObj X))} {out:Out} (hne:∀ f args tys,o.op≠ .call { callee:= .value f,args:=args,argTypes:=tys })
 (h:pE T i o orc (fun x=>den (ρ x)) (bS rd (dL get))=some out) (h1:fJ out.obs∧out.v=den dv∧out.upd=fw upd∧(∀ p∈upd,p.1=nid i∨p.1∈wr)∧k dv upd rd wr=some r):SdAny P T i o ρ get k r:=by
 obtain⟨orc',h'⟩:∃ orc',gP P T i o orc' (fun x=>den (ρ x)) (bS rd (dL get))=some out:=by
  by_cases hx:(∃ n,orc= .ext n)∨∃ ids fr q,orc= .frz ids fr q
  ·refine⟨.none,?_⟩;rw[Vq hne (by simp) (by simp),adq hx,h]
  ·simp only[not_or,not_exists]at hx;exact⟨orc,by rw[Vq hne hx.1 (fun ids fr q=>hx.2 ids fr q),h]⟩
 exact⟨orc',rd,wr,dv,upd,out,h',h1⟩
theorem SdAny.call {dst:Option Tmp} {f:Operand} {args:Array Operand} {tys:Array TypeId} {ty:TypeId} {pos:String} {after:Array Edge} {guard:Option (Nat×Bool)} {orc:Orc} {rd wr:List Nat} {dv:DV X} {upd:List (Nat×Option (DObj X))} {out:Out}
 (h:iw P i (den (ρ f)) (args.toList.map fun x=>den (ρ x)) orc (bS rd (dL get))=some out) (h1:fJ out.obs∧out.v=den dv∧out.upd=fw upd∧(∀ p∈upd,p.1=nid i∨p.1∈wr)∧k dv upd rd wr=some r):
 SdAny P T i ⟨dst,.call { callee:= .value f,args:=args,argTypes:=tys },ty,pos,after,guard⟩ ρ get k r:=by
 refine⟨orc,rd,wr,dv,upd,out,?_,h1⟩;unfold gP;split
 ·unfold iw lQ vP at h;simp only at h;split at h<;>first |cases h |(rename_i e;cases e)
 ·unfold iw lQ vP at h;simp only at h;split at h<;>first |cases h |(rename_i e;cases e)
 ·exact h
theorem Mf {op:BinOp} {b:DV X} {yes:Bool} (h:aeR op b yes k=some r):∃ dv out,ada op (den b) yes=some out∧fJ out.obs∧out.v=den dv∧out.upd=[]∧k dv [] [] []=some r:=by
 unfold aeR at h;split at h
 ·cases yes with
  |true=>exact⟨b,_,rfl,trivial,rfl,rfl,h⟩
  |false=>exact⟨.c .bool false,_,rfl,trivial,rfl,rfl,h⟩
 ·cases yes with
  |true=>exact⟨b,_,rfl,trivial,rfl,rfl,h⟩
  |false=>exact⟨.c .bool true,_,rfl,trivial,rfl,rfl,h⟩
 ·cases h
theorem abh {op:BinOp} {t:TypeId} {x:DV X} (h:ahn T op t x k=some r):∃ dv out,aaS T op t (den x) .nilsl=some out∧fJ out.obs∧out.v=den dv∧out.upd=[]∧k dv [] [] []=some r:=by
 unfold ahn at h;rw[ai]at h;obtain⟨ti,h1,h⟩:=h;split at h
 ·rename_i e c l hk;obtain⟨dv,out,g1,g2⟩:=Mf h;refine⟨dv,out,?_,g2⟩;simp only[aaS,h1,bind_some,hk,den,CT.tv,TV.av];rw[<- g1];congr 1;cases l<;>rfl
 ·rename_i e kk off len hk;obtain⟨dv,out,g1,g2⟩:=Mf h;exact⟨dv,out,by simp only[aaS,h1,bind_some,hk,den];exact g1,g2⟩
 ·rename_i e hk;obtain⟨dv,out,g1,g2⟩:=Mf h;exact⟨dv,out,by simp only[aaS,h1,bind_some,hk,den];exact g1,g2⟩
 ·cases h
theorem abj {s:ByteArray} {n b:Int} (h:Vo s n=some b):0<=n∧∃ c,s[n.toNat]? =some c∧b=c.toNat:=by
 unfold Vo at h;by_cases hn:0<=n
 ·simp only[hn,decide_true,cond_true,Option.map_eq_some_iff]at h;obtain⟨c,h1,h2⟩:=h;exact⟨hn,c,h1,h2.symm⟩
 ·simp[hn]at h
theorem Vr {m:Int} {bytes:Nat} (h:O1 m bytes=true):0<=m∧m.toNat*bytes<=140737488355328∧m.toNat<=maxLen:=by simpa[O1,and_assoc]using h
theorem O4 {b:Builtin} {args:List (DV X)} {tys:List TypeId} (h:Md T code i b args tys get k=some r):
 ∃ rd wr dv upd out,rq T i b (aP args) tys (bS rd (dL get))=some out∧fJ out.obs∧out.v=den dv∧out.upd=fw upd∧(∀ p∈upd,p.1=nid i∨p.1∈wr)∧k dv upd rd wr=some r:=by
 unfold Md at h;split at h
 ·rename_i t;rw[ai]at h;obtain⟨ti,h1,h⟩:=h;split at h
  ·rename_i e hk;refine⟨[],[],_,[],⟨.t (.sc (.int .i64 0)),[],[]⟩,?_,trivial,rfl,rfl,by simp,h⟩;simp only[rq,aP,den,h1,bind_some,hk];rfl
  ·cases h
 ·rename_i kk off len t;rw[ai]at h;obtain⟨ti,h1,h⟩:=h;split at h
  ·rename_i e hk;rw[ai]at h;obtain⟨ei,h2,h⟩:=h;rw[ai]at h;obtain⟨o,h3,h⟩:=h;split at h
   ·rename_i c l;split at h
    ·rename_i hs;refine⟨[kk],[kk],_,_,⟨.tup [],[(kk,some ⟨CT.sz X c,(aD (l.map (CT.row X.toSE c))).take off⟩)],[]⟩,?_,trivial,rfl,?_,by simp,h⟩
     ·simp only[rq,aP,den,h1,bind_some,hk,h2,dK (List.mem_singleton_self kk) h3,aU];rw[if_pos hs]
     ·simp[fw,aU,aD,map_take]
    ·cases h
   ·cases h
  ·cases h
 ·rename_i kd m t u;rw[ai]at h;obtain⟨ti,h1,h⟩:=h;rw[ai]at h;obtain⟨ui,h2,h⟩:=h;split at h
  ·rename_i e kn hk hk';rw[ai]at h;obtain⟨ei,h3,h⟩:=h;rw[ai]at h;obtain⟨c,h4,h⟩:=h;split at h
   ·rename_i hs;rw[ai]at h;obtain⟨z,h5,h⟩:=h;obtain⟨h6,h⟩:=dm h;obtain⟨m1,m2,m3⟩:=Vr h6;have hz:=wS h5;rw[AQ]at hz;refine⟨[],[],_,_,⟨.own (nid i) 0 m.toNat,[(nid i,some ⟨ei.size,bR (List.replicate m.toNat (ei.zero.map cv))⟩)],[0<=m∧m.toNat*ei.bytes<=140737488355328∧m.toNat<=maxLen∧0 < ei.size]⟩,?_,?_,rfl,?_,by simp,h⟩
    ·simp only[rq,aP,den,CT.tv,TV.av,h1,h2,h3,bind_some,hk,hk']
    ·exact⟨m1,m2,m3,hs.2⟩
    ·simp only[fw,map_cons,map_nil,Option.map_some,aU,hs.1,aD,bR,List.map_replicate];rw[hz]
   ·cases h
  ·cases h
 ·cases h
theorem Y0 {t:TypeId} {l c:DV X} (h:aeT T code i t l c k=some r):∃ dv upd out,Yy T i t (den l) (den c)=some out∧fJ out.obs∧out.v=den dv∧out.upd=fw upd∧(∀ p∈upd,p.1=nid i)∧k dv upd [] []=some r:=by
 unfold aeT at h;rw[ai]at h;obtain⟨ti,h1,h⟩:=h;split at h
 ·rename_i e kl n kc m hk;rw[ai]at h;obtain⟨ei,h3,h⟩:=h;rw[ai]at h;obtain⟨c,h4,h⟩:=h;split at h
  ·rename_i hs;rw[ai]at h;obtain⟨z,h5,h⟩:=h;obtain⟨h6,h⟩:=dm h;simp only[and_eq_true,decide_eq_true_eq]at h6;obtain⟨h7,h8,h9⟩:=h6;obtain⟨m1,m2,m3⟩:=Vr h9;have hz:=wS h5;rw[AQ]at hz;refine⟨_,_,⟨.own (nid i) 0 n.toNat,[(nid i,some ⟨ei.size,bR (List.replicate n.toNat (ei.zero.map cv))⟩)],[0<=n∧n<=m∧m.toNat*ei.bytes<=140737488355328∧m.toNat<=maxLen∧0 < ei.size]⟩,?_,?_,rfl,?_,by simp,h⟩
   ·simp only[Yy,den,CT.tv,TV.av,h1,h3,bind_some,hk]
   ·exact⟨h8,h7,m2,m3,hs.2⟩
   ·simp only[fw,map_cons,map_nil,Option.map_some,aU,hs.1,aD,bR,List.map_replicate];rw[hz]
  ·cases h
 ·cases h
theorem Ru {t:TypeId} (h:Rs T code i t k=some r):∃ dv upd out,Et T i t=some out∧fJ out.obs∧out.v=den dv∧out.upd=fw upd∧(∀ p∈upd,p.1=nid i)∧k dv upd [] []=some r:=by
 unfold Rs at h;rw[ai]at h;obtain⟨ti,h1,h⟩:=h;split at h
 ·rename_i kt et hk;rw[ai]at h;obtain⟨kc,h2,h⟩:=h;rw[ai]at h;obtain⟨vc,h3,h⟩:=h;exact⟨_,_,⟨.mp (nid i),[(nid i,some ⟨0,[]⟩)],[]⟩,by simp only[Et,h1,bind_some,hk],trivial,rfl,rfl,by simp,h⟩
 ·cases h
theorem aeW {ki:TyI} {kc:CT X.ι} (h:adp ki.k kc=true) (x:CT.T X.toSE kc):∃ v,(CT.tv X.toSE kc x).av= .t (.sc v)∧JD ki.k v=true:=by
 cases kc
 case int b=>
  refine⟨.int b x,rfl,?_⟩;cases hk:ki.k<;>rw[hk]at h<;>simp only[adp,decide_eq_true_eq,Bool.false_eq_true]at h;subst h;simp[JD]
 case str=>
  refine⟨.string x,rfl,?_⟩;cases hk:ki.k<;>rw[hk]at h<;>simp only[adp,Bool.false_eq_true]at h;rfl
 all_goals (cases hk:ki.k<;>rw[hk]at h<;>simp[adp]at h)
theorem Y1 {kc:CT X.ι} {eq:CT.T X.toSE kc->CT.T X.toSE kc->Bool} (h:DK kc=some eq) {a b:CT.T X.toSE kc} {va:Value} (ha:(CT.tv X.toSE kc a).av= .t (.sc va)):∃ vb,(CT.tv X.toSE kc b).av= .t (.sc vb)∧QM va vb=some (eq a b):=by
 cases kc
 case int q=>
  simp only[DK,Option.some.injEq]at h;subst h;simp only[CT.tv,TV.av,AV.t.injEq,Tree.sc.injEq]at ha;subst ha;exact⟨_,rfl,by simp[QM,iEq]⟩
 case str=>
  simp only[DK,Option.some.injEq]at h;subst h;simp only[CT.tv,TV.av,AV.t.injEq,Tree.sc.injEq]at ha;subst ha;exact⟨_,rfl,by simp[QM,sEq]⟩
 all_goals simp[DK]at h
theorem Vs {kc vc:CT X.ι} {eq:CT.T X.toSE kc->CT.T X.toSE kc->Bool} (h:DK kc=some eq) {a:CT.T X.toSE kc} {va:Value} (ha:(CT.tv X.toSE kc a).av= .t (.sc va)):∀ l:List (CT.T X.toSE kc×CT.T X.toSE vc),
 ∃ r,NR va (aU (.map kc vc l:DObj X)).rows=some r∧r.map (·.2)=(DJ eq a l).map fun v=>(CT.tv X.toSE vc v).av
 |[]=>⟨none,rfl,rfl⟩
 |p::l=>by
  obtain⟨vb,h1,h2⟩:=Y1 h (b:=p.1) ha;obtain⟨r,g1,g2⟩:=Vs h ha l;have g1':NR va (l.map fun p=>[(CT.tv X.toSE kc p.1).av,(CT.tv X.toSE vc p.2).av])=some r:=g1;simp only[aU,map_cons,h1,NR,h2,bind_some,DJ];cases eq a p.1 with
  |true=>exact⟨_,rfl,rfl⟩
  |false=>
   simp only[Bool.false_eq_true,if_false,g1',Option.map_some,cond_false];exact⟨_,rfl,by rw[<- g2,Option.map_map];rfl⟩
theorem Y2 {kc vc:CT X.ι} {eq:CT.T X.toSE kc->CT.T X.toSE kc->Bool} (h:DK kc=some eq) {a:CT.T X.toSE kc} {va:Value} (ha:(CT.tv X.toSE kc a).av= .t (.sc va)) (y:CT.T X.toSE vc):∀ l:List (CT.T X.toSE kc×CT.T X.toSE vc),
 WL va (CT.tv X.toSE vc y).av (aU (.map kc vc l:DObj X)).rows=some (aU (.map kc vc (YW eq a y l):DObj X)).rows
 |[]=>by simp only[aU,map_nil,WL,YW,map_cons,ha]
 |p::l=>by
  obtain⟨vb,h1,h2⟩:=Y1 h (b:=p.1) ha;have g:=Y2 h ha y l;have g':WL va (CT.tv X.toSE vc y).av (l.map fun p=>[(CT.tv X.toSE kc p.1).av,(CT.tv X.toSE vc p.2).av])=some ((YW eq a y l).map fun p=>[(CT.tv X.toSE kc p.1).av,(CT.tv X.toSE vc p.2).av]):=g;simp only[aU,map_cons,h1,WL,h2,bind_some,YW];cases eq a p.1 with
  |true=>simp only[if_true,cond_true,map_cons,ha]
  |false=>simp only[Bool.false_eq_true,if_false,g',Option.map_some,cond_false,map_cons,h1]
theorem zero_den {vc:CT X.ι} {ei:TyI} {z:CT.T X.toSE vc} (h:JS vc (ei.zero.map cvD)=some z) (ha:ei.agg=ahW vc) (hs:ei.size=CT.sz X vc):part' ei.agg ei.size ((ei.zero.map cv).map wk)=some (CT.tv X.toSE vc z).av:=by
 have hz:=wS h;rw[AQ]at hz;rw[hz,ha,hs];have hl:((CT.row X.toSE vc z).map AV.t).length=CT.sz X vc:=by rw[length_map,Ij]
 unfold part';rw[if_pos hl];cases vc<;>rfl
theorem agi {d:DV X} {c:CT X.ι} {x:CT.T X.toSE c} (h:dat d c=some x):wkV (den d)=(CT.tv X.toSE c x).av:=by
 cases c
 case st j=>
  replace h:aa4 d j=some x:=h
  cases d
  case agg cs=>
   simp only[aa4]at h;rw[ai]at h;obtain⟨g,h1,h⟩:=h;injection h with h;subst h;simp only[den,wkV,(xq h1 (X.flat j)).1];rw[<- Ri];rfl
  case c a y=>
   replace h:iy a (.st j) y=some x:=h
   rw[(kX h).1];simp only[den,CT.tv,TV.av,wkV,map_map];congr 1
  all_goals cases h
 all_goals
  (have h':GD d _=some x:=h
   have hd:=tN h';cases d
   case agg=>cases h
   case c a y=>
    obtain⟨e,_⟩:=rF (show iy a _ y=some x from h);subst e;exact hd
   all_goals first |exact hd |(cases h))
theorem UA {t:TypeId} {x key:DV X} {ok:Bool} (h:Xg T t x key ok get k=some r):∃ rd dv out,Gf T t (den x) (den key) ok (bS rd (dL get))=some out∧fJ out.obs∧out.v=den dv∧out.upd=[]∧k dv [] rd []=some r:=by
 unfold Xg at h;rw[ai]at h;obtain⟨ti,h1,h⟩:=h;split at h
 ·rename_i kt et kk hk;rw[ai]at h;obtain⟨ki,h2,h⟩:=h;rw[ai]at h;obtain⟨ei,h3,h⟩:=h;rw[ai]at h;obtain⟨o,h4,h⟩:=h;split at h
  ·rename_i kc vc l;rw[ai]at h;obtain⟨eq,h5,h⟩:=h;rw[ai]at h;obtain⟨kv,h6,h⟩:=h;split at h
   ·rename_i hc;rw[ai]at h;obtain⟨z,h7,h⟩:=h;obtain⟨va,g1,g2⟩:=aeW hc.1 kv;obtain⟨q,g3,g4⟩:=Vs (vc:=vc) h5 g1 l;have hkey:den key= .t (.sc va):=by
     have:=tN h6;rw[g1]at this;cases hd:den key<;>rw[hd]at this<;>simp only[wk,AV.t.injEq,reduceCtorEq]at this;subst this;rfl
    have hv:∀ q:Option (Nat×AV),q.map (·.2)=(DJ eq kv l).map (fun v=>(CT.tv X.toSE vc v).av)->orZ q (part' ei.agg ei.size ((ei.zero.map cv).map wk))=some (CT.tv X.toSE vc ((DJ eq kv l).getD z)).av:=by
     intro q g;cases hm:DJ eq kv l with
     |none=>
      rw[hm]at g;cases q with
      |none=>exact zero_den h7 hc.2.1 hc.2.2
      |some p=>simp at g
     |some v=>
      rw[hm]at g;cases q with
      |none=>simp at g
      |some p=>simp only[Option.map_some,Option.some.injEq]at g;simp only[orZ,g,Option.getD_some]
    have hi:q.isSome=(DJ eq kv l).isSome:=by
     have:=congrArg Option.isSome g4;simpa using this
    have hb:Gf T t (den (.mp kk:DV X)) (den key) ok (bS [kk] (dL get))=pv (if ok then .tup [den (.c vc ((DJ eq kv l).getD z):DV X),.t (.sc (.bool q.isSome))]else den (.c vc ((DJ eq kv l).getD z):DV X)):=by
     simp only[Gf,h1,bind_some,hk,den,hkey,h2,h3,dK (List.mem_singleton_self kk) h4];rw[if_pos ⟨g2,by simp[aU]⟩];rw[g3,bind_some,hv q g4,bind_some]
    cases ok with
    |true=>exact⟨[kk],_,_,hb,trivial,by simp only[if_true,den,aP,hi];rfl,rfl,h⟩
    |false=>exact⟨[kk],_,_,hb,trivial,rfl,rfl,h⟩
   ·cases h
  ·cases h
 ·cases h
theorem UB {t:TypeId} {x key y:DV X} (h:Xh T t x key y get k=some r):∃ rd wr dv upd out,JE T t (den x) (den key) (den y) (bS rd (dL get))=some out∧fJ out.obs∧out.v=den dv∧out.upd=fw upd∧(∀ p∈upd,p.1∈wr)∧k dv upd rd wr=some r:=by
 unfold Xh at h;rw[ai]at h;obtain⟨ti,h1,h⟩:=h;split at h
 ·rename_i kt et kk hk;rw[ai]at h;obtain⟨ki,h2,h⟩:=h;rw[ai]at h;obtain⟨o,h4,h⟩:=h;split at h
  ·rename_i kc vc l;rw[ai]at h;obtain⟨eq,h5,h⟩:=h;rw[ai]at h;obtain⟨kv,h6,h⟩:=h;rw[ai]at h;obtain⟨v,h7,h⟩:=h;split at h
   ·rename_i hc;obtain⟨va,g1,g2⟩:=aeW hc kv;have g3:=Y2 (vc:=vc) h5 g1 v l;have hkey:den key= .t (.sc va):=by
     have:=tN h6;rw[g1]at this;cases hd:den key<;>rw[hd]at this<;>simp only[wk,AV.t.injEq,reduceCtorEq]at this;subst this;rfl
    refine⟨[kk],[kk],_,_,⟨.undef,[(kk,some ⟨(aU (.map kc vc (YW eq kv v l):DObj X)).rows.length,(aU (.map kc vc (YW eq kv v l):DObj X)).rows⟩)],[]⟩,?_,trivial,rfl,?_,by simp,h⟩
    ·simp only[JE,h1,bind_some,hk,den,hkey,h2,dK (List.mem_singleton_self kk) h4];rw[if_pos ⟨g2,by simp[aU]⟩,agi h7,g3];rfl
    ·simp[fw,aU]
   ·cases h
  ·cases h
 ·cases h
theorem abk (h:aho T code i o.op ρ get k=some r):SdAny P T i o ρ get k r:=by
 obtain⟨dst,op,ty,pos,after,guard⟩:=o;unfold aho at h;simp only at h;split at h
 ·rename_i op t x y q;split at h
  ·rename_i hn;obtain⟨dv,out,g1,g2,g3,g4,g5⟩:=abh h;have hy:den (ρ y)= .nilsl:=(by cases hρ:ρ y<;>rw[hρ]at hn<;>first |rfl |cases hn);exact SdAny.ext (n:=0) (rd:=[]) (wr:=[]) (upd:=[]) (by simp only[ru,hy];exact g1) g2 g3 g4 (by simp) g5
  ·cases h
 ·rename_i s d x;unfold ag2 at h;rw[ai]at h;obtain⟨si,h1,h⟩:=h;rw[ai]at h;obtain⟨di,h2,h⟩:=h;split at h
  ·rename_i kd k' n hk hx;refine SdAny.ext (n:=0) (rd:=[]) (wr:=[]) (upd:=[]) (out:=⟨.t (.sc (.int kd (kd.wrap n))),[],[]⟩) ?_ trivial rfl rfl (by simp) h;simp only[ru,acC,h1,h2,bind_some,hk,hx];rfl
  ·cases h
 ·rename_i t x j;unfold aeS at h;rw[ai]at h;obtain⟨ti,h1,h⟩:=h;split at h
  ·rename_i s kk n hk hx hj;rw[ai]at h;obtain⟨b,h2,h⟩:=h;refine SdAny.ext (n:=b) (rd:=[]) (wr:=[]) (upd:=[]) (out:=⟨.t (.sc (.int .u8 b)),[],[0<=n∧∃ c,s[n.toNat]? =some c∧b=c.toNat]⟩) ?_ (abj h2) rfl rfl (by simp) h;simp only[ru,WE,h1,bind_some,hk,hx,hj];rfl
  ·cases h
 ·rename_i t x lo hi;unfold Vp at h;rw[ai]at h;obtain⟨ti,h1,h⟩:=h;split at h
  ·rename_i e hk hx;rw[ai]at h;obtain⟨ei,h2,h⟩:=h;rw[ai]at h;obtain⟨l,h3,h⟩:=h;rw[ai]at h;obtain⟨hh,h4,h⟩:=h;obtain⟨h5,h⟩:=dm h;refine SdAny.ext (n:=0) (rd:=[]) (wr:=[]) (upd:=[]) (out:=⟨.nilsl,[],[l=0∧hh=0]⟩) ?_ (show l=0∧hh=0 by simpa using h5) rfl rfl (by simp) h;have e1:=AU h3;have e2:=AU h4;rw[Option.map_map]at e1 e2;simp only[ru,Gd,h1,bind_some,hk,hx,h2,den];have e1':bnd 0 (lo.map fun x=>den (ρ x))=some l:=e1;have e2':bnd 0 (hi.map fun x=>den (ρ x))=some hh:=e2;rw[e1',bind_some,e2'];rfl
  ·cases h
 ·rename_i x;obtain⟨dv,g1,g2⟩:=O3 h;exact SdAny.ext2 (n:=0) (rd:=[]) (wr:=[]) (upd:=[]) g1 trivial rfl rfl (by simp) g2
 ·rename_i t l c;obtain⟨dv,upd,out,g1,g2,g3,g4,g5,g6⟩:=Y0 h;exact SdAny.ext2 (n:=0) (rd:=[]) (wr:=[]) (upd:=upd) g1 g2 g3 g4 (fun p hp=> .inl (g5 p hp)) g6
 ·rename_i t;obtain⟨dv,upd,out,g1,g2,g3,g4,g5,g6⟩:=Ru h;exact SdAny.ext2 (n:=0) (rd:=[]) (wr:=[]) (upd:=upd) g1 g2 g3 g4 (fun p hp=> .inl (g5 p hp)) g6
 ·rename_i t m x ok;obtain⟨rd,dv,out,g1,g2,g3,g4,g6⟩:=UA h;exact SdAny.ext2 (n:=0) (rd:=rd) (wr:=[]) (upd:=[]) g1 g2 g3 g4 (by simp) g6
 ·rename_i t m x v;obtain⟨rd,wr,dv,upd,out,g1,g2,g3,g4,g5,g6⟩:=UB h;exact SdAny.ext2 (n:=0) (rd:=rd) (wr:=wr) (upd:=upd) g1 g2 g3 g4 (fun p hp=> .inr (g5 p hp)) g6
 ·rename_i b args tys;obtain⟨rd,wr,dv,upd,out,g1,g2,g3,g4,g5,g6⟩:=O4 h;refine SdAny.ext (n:=0) (rd:=rd) (wr:=wr) (upd:=upd) ?_ g2 g3 g4 g5 g6;simp only[ru,Qb];exact g1
 ·cases h
theorem Y3 {c:CT X.ι}:∀ {xs:List Operand} {x:Operand} {y:CT.T X.toSE c×List Bool},x∈xs->DI get (ρ x) c=some y->∀ j∈drefs (ρ x),j∈YX get c ρ xs
 |z::xs,x,y,hx,h,j,hj=>by
  simp only[YX,mem_append];rcases mem_cons.1 hx with rfl |hx
  ·left;rw[h];exact hj
  ·exact .inr (Y3 hx h j hj)
 |[],_,_,hx,_,_,_=>by simp at hx
theorem Y4 {c:CT X.ι}:∀ {xs:List Operand} {x:Operand} {y:CT.T X.toSE c×List Bool},x∈xs->DI get (ρ x) c=some y->∀ b∈y.2,b∈agf get c ρ xs
 |z::xs,x,y,hx,h,b,hb=>by
  simp only[agf,mem_append];rcases mem_cons.1 hx with rfl |hx
  ·left;rw[h];exact hb
  ·exact .inr (Y4 hx h b hb)
 |[],_,_,hx,_,_,_=>by simp at hx
theorem abl (h:ahp T code i o.op ρ get k=some r):SdAny P T i o ρ get k r:=by
 unfold ahp at h;split at h
 ·cases h
 rename_i hpick;rw[ai]at h;obtain⟨c,h1,h⟩:=h;obtain⟨hcs,h⟩:=mG h;obtain⟨orc,rd,wr,dv,upd,out,g1,g2,g3,g4,g5,g6⟩:=Vl h;generalize hids:YX get c ρ o.op.operands.toList=ids at*;refine⟨.frz ids (fun x=>den (aeU get c ρ x)) orc,rd++ids,wr++ids,dv,upd++JX ids,⟨out.v,out.upd++ids.map (fun k=>(k,none)),out.obs++[∀ x∈o.op.operands,(Bor P (bS (rd++ids) (dL get)) (den (ρ x)) (den (aeU get c ρ x))∧∀ k∈refs (den (ρ x)),k∈ids)∨den (aeU get c ρ x)=den (ρ x)]⟩,?_,?_,g3,?_,?_,g6⟩
 ·unfold gP Es;simp only;rw[if_neg hpick];have e:(fun k=>if k∈ids then none else bS (rd++ids) (dL get) k)=bS rd (dL fun j=>if j∈ids then none else get j):=by
   funext j;simp only[bS,dL,mem_append];by_cases hj:j∈ids
   ·simp[hj]
   ·simp[hj]
  rw[e,g1];rfl
 ·refine oD _ fun p hp=>?_;rcases mem_append.1 hp with hp |hp
  ·exact nT _ g2 p hp
  ·rw[mem_singleton]at hp;subst hp;intro x hx;unfold aeU;cases hl:DI get (ρ x) c with
   |none=>exact .inr rfl
   |some y=>
    left;have hx':x∈o.op.operands.toList:=(by simpa using hx);have hin:∀ j∈drefs (ρ x),j∈ids:=fun j hj=>hids ▸ Y3 hx' hl j hj;obtain⟨hs,obs,p1,p2⟩:=y8 (P:=P) (rd:=rd++ids) hl (fun b hb=>hcs b (Y4 hx' hl b hb)) (fun j hj=>mem_append_right _ (hin j hj));refine⟨?_,fun j hj=>hin j (by rwa [fF]at hj)⟩;have:=p2 [];exact Ig _ _ _ this p1
 ·simp only[pI,AY,g4]
 ·intro p hp;rcases mem_append.1 hp with hp |hp
  ·exact (g5 p hp).imp id (fun h=>mem_append_left _ h)
  ·exact .inr (mem_append_right _ (Gj hp))
theorem Y5 {c:CT X.ι}:∀ {ds:List (DV X)} {xs:List (CT.T X.toSE c)},AZ c ds=some xs->aP ds=xs.map fun y=>den (.c c y:DV X)
 |[],xs,h=>by simp only[AZ,Option.some.injEq]at h;subst h;rfl
 | .c a x::ds,xs,h=>by
  simp only[AZ]at h;rw[ai]at h;obtain⟨y,h1,h⟩:=h;rw[ai]at h;obtain⟨l,h2,h⟩:=h;injection h with h;subst h;simp only[aP,map_cons,Y5 h2,(kX h1).1]
 | .agg _::_,_,h=>by simp[AZ]at h
 | .tup _::_,_,h=>by simp[AZ]at h
 | .own _ _ _::_,_,h=>by simp[AZ]at h
 | .ptr _ _ _::_,_,h=>by simp[AZ]at h
 | .ptl _ _ _::_,_,h=>by simp[AZ]at h
 | .mp _::_,_,h=>by simp[AZ]at h
 | .pta _ _ _ _ _::_,_,h=>by simp[AZ]at h
 | .rp _ _ _::_,_,h=>by simp[AZ]at h
 | .fn _ _ _::_,_,h=>by simp[AZ]at h
 | .clo _ _ _::_,_,h=>by simp[AZ]at h
 | .raw _::_,_,h=>by simp[AZ]at h
 | .nil::_,_,h=>by simp[AZ]at h
 | .ub::_,_,h=>by simp[AZ]at h
 | .skip::_,_,h=>by simp[AZ]at h
 | .undef::_,_,h=>by simp[AZ]at h
theorem abm (h:ahq T code o.op ρ get k=some r):SdAny P T i o ρ get k r:=by
 obtain⟨dst,op,ty,pos,after,guard⟩:=o;unfold ahq at h;simp only at h;split at h
 ·rename_i t x j;rw[ai]at h;obtain⟨ti,h1,h⟩:=h;split at h
  ·rename_i m e kk row off kd n hk hx hj;rw[ai]at h;obtain⟨ei,h2,h⟩:=h;split at h
   ·rename_i hs;obtain⟨h3,h⟩:=dm h;refine SdAny.op (orc:= .none) (rd:=[]) (wr:=[]) (upd:=[]) (fun _ _ _ e=>by cases e) (out:=⟨.ptr kk row (off+n.toNat*1),[],[0<=n∧n.toNat < m]⟩) ?_ ⟨?_,?_,rfl,by simp,h⟩
    ·simp only[pE,j6,h1,bind_some,hk,hx,hj,den,CT.tv,TV.av,h2,hs];rfl
    ·simp only[inb,and_eq_true,decide_eq_true_eq]at h3;exact⟨h3.1,by omega⟩
    ·simp only[den,Nat.mul_one]
   ·cases h
  ·cases h
 ·rename_i t a;rw[ai]at h;obtain⟨ti,h1,h⟩:=h;split at h
  ·rename_i kk row off m n hx;split at h
   ·rename_i hs;rw[ai]at h;obtain⟨c,h2,h⟩:=h;split at h
    ·rename_i hc;rw[ai]at h;obtain⟨ob,h3,h⟩:=h;split at h
     ·rename_i sz rows;rw[ai]at h;obtain⟨q,h4,h⟩:=h;rw[ai]at h;obtain⟨xs,h5,h⟩:=h;rw[ai]at h;obtain⟨y,h6,h⟩:=h;obtain⟨_,h7⟩:=Qa h6;have h8:=Y5 h5;have h9:((aP q).drop (off+n.toNat)).take 1=[den (.c c y:DV X)]:=by
       have e1:(aP ((q.drop off).take m))[n.toNat]? =some (den (.c c y:DV X)):=(by rw[h8,List.getElem?_map,h7];rfl);rw[lS,List.getElem?_take]at e1;split at e1
       ·rw[List.getElem?_drop]at e1;obtain⟨g1,g2⟩:=List.getElem?_eq_some_iff.1 e1;rw[List.drop_eq_getElem_cons g1,List.take_succ_cons,List.take_zero,g2]
       ·cases e1
      refine SdAny.op (orc:= .none) (rd:=[kk]) (wr:=[]) (upd:=[]) (fun _ _ _ e=>by cases e) (out:=⟨den (.c c y:DV X),[],[]⟩) ?_ ⟨trivial,rfl,rfl,by simp,h⟩;simp only[pE,Hl,h1,bind_some,hx,den,dK (List.mem_singleton_self kk) h3,aU,List.getElem?_map,h4,Option.map_some,hs.1,hs.2];rw[h9];obtain⟨t',g1,g2⟩:=row_one hc y;simp only[den,g2,TV.av];rfl
     ·cases h
    ·cases h
   ·cases h
  ·cases h
 ·cases h
end
end
section
variable {X:SX}
structure MA (X:SX) where
 nm:List (Nat×Nat)
 dcs:List (DC X)
 chk:List Bool
def addN (m:MA X) (k' k:Nat):MA X:=if m.nm.contains (k',k)then m else⟨m.nm++[(k',k)],m.dcs,m.chk⟩
section
variable (get:Nat->Option (DObj X))
mutual
def mP:Pt X.ι->DV X->MA X->Option (MA X)
 | .v c,d,m=>(dat d c).bind fun x=>some ⟨m.nm,m.dcs++[⟨c,x⟩],m.chk⟩
 | .o k,d,m=>match d with
  | .own k' 0 len=>(get k').bind fun o=>match o with
   | .lst _ l=>some (addN ⟨m.nm,m.dcs,m.chk++[eqL len l.length]⟩ k' k)
   |_=>none
  |_=>none
 | .p k,d,m=>match d with
  | .ptr k' 0 0=>some (addN m k' k)
  |_=>none
 | .mp k,d,m=>match d with
  | .mp k'=>some (addN m k' k)
  |_=>none
 | .nil,d,m=>match d with
  | .nil=>some m
  |_=>none
 | .f F fs cs,d,m=>match d with
  | .fn F' first caps=>if F=F' then (mPs fs first m).bind fun m=>mPs cs caps m else none
  |_=>none
 | .od k,d,m=>match d with
  | .own k' off len=>(get k').bind fun o=>match o with
   | .lst _ l=>some (addN ⟨m.nm,m.dcs++[⟨.int .i64,(off:Int)⟩],m.chk++[eqL (off+len) l.length]⟩ k' k)
   |_=>none
  |_=>none
 | .a ps,d,m=>match d with
  | .agg ds=>mPs ps ds m
  |_=>none
def mPs:List (Pt X.ι)->List (DV X)->MA X->Option (MA X)
 |[],[],m=>some m
 |p::ps,d::ds,m=>(mP p d m).bind fun m=>mPs ps ds m
 |_,_,_=>none
end
def ED (env:Nat->DV X):List (Nat×Pt X.ι)->MA X->Option (MA X)
 |[],m=>some m
 |(t,p)::r,m=>(mP get p (env t) m).bind fun m=>ED env r m
def DL:List (List (Pt X.ι))->List (List (DV X))->MA X->Option (MA X)
 |[],[],m=>some m
 |r::rs,q::qs,m=>(mPs get r q m).bind fun m=>DL rs qs m
 |_,_,_=>none
def nameOf (m:MA X) (k:Nat):Nat:=match m.nm.find? (fun q=>q.2==k)with |some q=>q.1 |none=>k
def A7:List (Nat×OP X.ι)->MA X->Option (MA X)
 |[],m=>some m
 |(k,op)::r,m=>(get (nameOf m k)).bind fun o=>match op,o with
  | .l c,.lst c' l=>(iy (.sl c') (.sl c) l).bind fun l'=>A7 r (addN ⟨m.nm,m.dcs++[⟨.sl c,l'⟩],m.chk⟩ (nameOf m k) k)
  | .m kc vc,.map kc' vc' l=>(iy (.mp kc' vc') (.mp kc vc) l).bind fun l'=>A7 r (addN ⟨m.nm,m.dcs++[⟨.mp kc vc,l'⟩],m.chk⟩ (nameOf m k) k)
  | .c sz rows,.cells sz' rows'=>if sz=sz' then (DL get rows rows' (addN m (nameOf m k) k)).bind fun m=>A7 r m else none
  |_,_=>none
end
end
section
variable {X:SX} {A:Type}
mutual
def rnD (f:Nat->Nat):DV X->DV X
 | .own k off len=> .own (f k) off len
 | .ptr k row off=> .ptr (f k) row off
 | .ptl k n off=> .ptl (f k) n off
 | .pta k row off m n=> .pta (f k) row off m n
 | .mp k=> .mp (f k)
 | .agg cs=> .agg (GH f cs)
 | .tup cs=> .tup (GH f cs)
 | .fn F first caps=> .fn F (GH f first) (GH f caps)
 |x=>x
def GH (f:Nat->Nat):List (DV X)->List (DV X)
 |[]=>[]
 |x::xs=>rnD f x::GH f xs
end
theorem abn (f:Nat->Nat):∀ l:List Tree,qd f (l.map AV.t)=l.map AV.t
 |[]=>rfl
 |x::xs=>by simp only[map_cons,qd,rnA,abn f xs]
mutual
theorem y9 (f:Nat->Nat):∀ x:DV X,den (rnD f x)=rnA f (den x)
 | .own _ _ _=>rfl
 | .ptr _ _ _=>rfl
 | .ptl _ _ _=>rfl
 | .mp _=>rfl
 | .pta _ _ _ _ _=>rfl
 | .agg cs=>by simp only[rnD,den,rnA,A8 f cs]
 | .tup cs=>by simp only[rnD,den,rnA,A8 f cs]
 | .fn F first caps=>by simp only[rnD,den,rnA,A8 f first,A8 f caps]
 | .c t x=>by
  simp only[rnD,den];cases t<;>try rfl
  simp only[CT.tv,TV.av,rnA,abn]
 | .rp _ _ _=>rfl
 | .clo _ _ _=>rfl
 | .raw v=>by
  simp only[rnD,den,cv];split
  ·rfl
  ·split<;>rfl
 | .nil=>rfl
 | .ub=>rfl
 | .skip=>rfl
 | .undef=>rfl
theorem A8 (f:Nat->Nat):∀ l:List (DV X),aP (GH f l)=qd f (aP l)
 |[]=>rfl
 |x::xs=>by simp only[GH,aP,qd,y9 f x,A8 f xs]
end
def rnO (f:Nat->Nat):DObj X->DObj X
 | .cells sz rows=> .cells sz (rows.map (GH f))
 |o=>o
def orefs:DObj X->List Nat
 | .cells _ rows=>(rows.map aG).flatten
 | .lst _ _=>[]
 | .map _ _ _=>[]
def acK:CT X.ι->Bool
 | .int _ | .bool | .str=>true
 |_=>false
def vK:CT X.ι->Bool
 | .st i=>(X.tys i).all acK
 |c=>acK c
theorem Cr {c:CT X.ι} (h:acK c=true) (x:CT.T X.toSE c):∀ t∈CT.row X.toSE c x,t.flat:=by cases c<;>first |(intro t ht;simp only[CT.row,mem_singleton]at ht;subst ht;exact trivial) |cases h
theorem acL:∀ (l:List (CT X.ι)) (h:HL X.toSE l),l.all acK=true->∀ t∈HL.row X.toSE l h,t.flat
 |[],_,_,t,ht=>by simp[HL.row]at ht
 |c::l,h,ha,t,ht=>by
  simp only[all_cons,and_eq_true]at ha;rcases mem_append.1 (show t∈CT.row X.toSE c h.1++HL.row X.toSE l h.2 from ht)with ht |ht
  ·exact Cr ha.1 h.1 t ht
  ·exact acL l h.2 ha.2 t ht
theorem rG {c:CT X.ι} (h:vK c=true) (x:CT.T X.toSE c):∀ t∈CT.row X.toSE c x,t.flat:=by
 cases c
 case st i=>intro t ht;exact acL (X.tys i) (X.get i x) h t ((X.row_get i x) ▸ ht)
 case int k=>exact Cr (c:= .int k) h x
 case bool=>exact Cr (c:= .bool) h x
 case str=>exact Cr (c:= .str) h x
 case sl e=>cases h
 case any=>cases h
 case mp=>cases h
structure MG (X:SX) where
 nm:List (Nat×Nat)
 dcs:List (DC X)
 chk:List Bool
 vr:List Nat
section
variable (get:Nat->Option (DObj X))
mutual
def gA1:Pt X.ι->DV X->MG X->Option (MG X)
 | .v c,d,m=>(DI get d c).bind fun x=>some ⟨m.nm,m.dcs++[⟨c,x.1⟩],m.chk++x.2,m.vr++drefs d⟩
 | .o k,d,m=>match d with
  | .own k' 0 len=>(get k').bind fun o=>match o with
   | .lst _ l=>some ⟨m.nm++[(k',k)],m.dcs,m.chk++[eqL len l.length],m.vr⟩
   |_=>none
  |_=>none
 | .od k,d,m=>match d with
  | .own k' off len=>(get k').bind fun o=>match o with
   | .lst _ l=>some ⟨m.nm++[(k',k)],m.dcs++[⟨.int .i64,(off:Int)⟩],m.chk++[eqL (off+len) l.length],m.vr⟩
   |_=>none
  |_=>none
 | .p k,d,m=>match d with
  | .ptr k' 0 0=>some ⟨m.nm++[(k',k)],m.dcs,m.chk,m.vr⟩
  |_=>none
 | .nil,d,m=>match d with
  | .nil=>some m
  |_=>none
 | .f F fs cs,d,m=>match d with
  | .fn F' first caps=>if F=F' then (gAs fs first m).bind fun m=>gAs cs caps m else none
  |_=>none
 | .mp _,_,_=>none
 | .a _,_,_=>none
def gAs:List (Pt X.ι)->List (DV X)->MG X->Option (MG X)
 |[],[],m=>some m
 |p::ps,d::ds,m=>(gA1 p d m).bind fun m=>gAs ps ds m
 |_,_,_=>none
end
def DR:List (List (Pt X.ι))->List (List (DV X))->MG X->Option (MG X)
 |[],[],m=>some m
 |r::rs,q::qs,m=>(gAs get r q m).bind fun m=>DR rs qs m
 |_,_,_=>none
def nmG (m:MG X) (k:Nat):Nat:=match m.nm.find? (fun q=>q.2==k)with |some q=>q.1 |none=>k
def DT:List (Nat×OP X.ι)->MG X->Option (MG X)
 |[],m=>some m
 |(k,op)::r,m=>(get (nmG m k)).bind fun o=>match op,o with
  | .l c,.lst c' l=>(iy (.sl c') (.sl c) l).bind fun l'=>DT r ⟨m.nm++[(nmG m k,k)],m.dcs++[⟨.sl c,l'⟩],m.chk,m.vr⟩
  | .c sz rows,.cells sz' rows'=>if sz=sz' then (DR get rows rows' ⟨m.nm++[(nmG m k,k)],m.dcs,m.chk,m.vr⟩).bind fun m=>DT r m else none
  |_,_=>none
end
mutual
def Pt.refs:Pt X.ι->List Nat
 | .o k | .od k | .p k | .mp k=>[k]
 | .f _ fs cs=>zP fs++zP cs
 | .a ps=>zP ps
 |_=>[]
def zP:List (Pt X.ι)->List Nat
 |[]=>[]
 |p::ps=>p.refs++zP ps
end
def OP.refs:OP X.ι->List Nat
 | .l _=>[]
 | .m _ _=>[]
 | .c _ rows=>rows.flatMap zP
def nmB (n k:Nat):Bool:=Nat.blt k n || (Nat.ble 1000 k&&Nat.blt k 1064)
def GSig.ok (g:GSig X):Bool:=
 decide (g.inO.map (·.1)=List.range g.inO.length)&&decide (g.inO.length<=1000)&&(g.outO.all fun q=>nmB g.inO.length q.1&&q.2.refs.all fun k=>nmB g.inO.length k)&&decide (g.outO.map (·.1)).Nodup&&(zP g.outP).all fun k=>nmB g.inO.length k
def okG (m:MG X) (ids:List Nat):Bool:=
 decide ids.Nodup&&(m.nm.all fun q=>match ids[q.2]? with |some k=>Nat.beq k q.1 |none=>false)&&m.vr.all fun k=>!ids.contains k
def GSig.flat (g:GSig X):Bool:=(varsL g.outP).all vK&&g.outO.all fun q=>match q.2 with
 | .l c=>vK c
 | .m _ _=>false
 | .c _ rows=>(tO rows).all vK
def dlk:List (Nat×DObj X)->Nat->Option (DObj X)
 |[],_=>none
 |(j,o)::r,k=>if j=k then some o else dlk r k
def acM (i:Nat) (ids:List Nat) (os':List (Nat×DObj X)):List (Nat×Option (DObj X)):=
 (ids.zipIdx.map fun p=>(p.1,(dlk os' p.2).map (rnO (cn i ids))))++(os'.filter fun q=>decide (1000<=q.1)).map fun q=>(cn i ids q.1,some (rnO (cn i ids) q.2))
def abo (g:GSig X) (i:Nat) (ds:List (DV X)) (get:Nat->Option (DObj X)) (k:KK X A):Option A:=
 (gAs get g.inP ds ⟨[],[],[],[]⟩).bind fun m=>(DT get g.inO m).bind fun m=>
  bif g.ok&&okG m ((List.range g.inO.length).map (nmG m))then (Uy (varsL g.inP++varsO g.inO) m.dcs).bind fun v=>Rb m.chk ((g.fn v).bind fun r=>
   let ids:=(List.range g.inO.length).map (nmG m)
   k (rnD (cn i ids) (g.res r)) (acM i ids (g.outs r)++(if g.flat then []else m.vr.map fun k=>(k,none))) (ids++m.vr) ((ids++(acM i ids (g.outs r)).map (·.1))++m.vr))
  else none
section
variable {P:Program} {get:Nat->Option (DObj X)} {rd ids:List Nat} {olen:Nat->Nat}
def MonoG (m m':MG X):Prop:=(∀ q∈m.nm,q∈m'.nm)∧(∀ c∈m.chk,c∈m'.chk)∧∀ k∈m.vr,k∈m'.vr
theorem MonoG.refl (m:MG X):MonoG m m:=⟨fun _ h=>h,fun _ h=>h,fun _ h=>h⟩
theorem MonoG.trans {a b c:MG X} (h:MonoG a b) (h':MonoG b c):MonoG a c:=⟨fun q hq=>h'.1 q (h.1 q hq),fun q hq=>h'.2.1 q (h.2.1 q hq),fun q hq=>h'.2.2 q (h.2.2 q hq)⟩
mutual
theorem aeX:∀ (p:Pt X.ι) (d:DV X) (m m':MG X),gA1 get p d m=some m'->MonoG m m'∧∃ new,m'.dcs=m.dcs++new∧new.length=p.vars.length
 | .v c,d,m,m',h=>by
  simp only[gA1]at h;rw[ai]at h;obtain⟨x,h1,h⟩:=h;injection h with h;subst h;exact⟨⟨fun _ h=>h,fun _ h=>by simp[h],fun _ h=>by simp[h]⟩,[⟨c,x.1⟩],rfl,rfl⟩
 | .o k,d,m,m',h=>by
  simp only[gA1]at h;split at h
  ·rw[ai]at h;obtain⟨o,h1,h⟩:=h;split at h
   ·injection h with h;subst h;exact⟨⟨fun _ h=>by simp[h],fun _ h=>by simp[h],fun _ h=>h⟩,[],by simp,rfl⟩
   ·cases h
  ·cases h
 | .od k,d,m,m',h=>by
  simp only[gA1]at h;split at h
  ·rename_i k' off len;rw[ai]at h;obtain⟨o,h1,h⟩:=h;split at h
   ·injection h with h;subst h;exact⟨⟨fun _ h=>by simp[h],fun _ h=>by simp[h],fun _ h=>h⟩,[⟨.int .i64,(off:Int)⟩],rfl,rfl⟩
   ·cases h
  ·cases h
 | .p k,d,m,m',h=>by
  simp only[gA1]at h;split at h
  ·injection h with h;subst h;exact⟨⟨fun _ h=>by simp[h],fun _ h=>h,fun _ h=>h⟩,[],by simp,rfl⟩
  ·cases h
 | .nil,d,m,m',h=>by
  simp only[gA1]at h;split at h
  ·injection h with h;subst h;exact⟨MonoG.refl _,[],by simp,rfl⟩
  ·cases h
 | .f F fs cs,d,m,m',h=>by
  simp only[gA1]at h;split at h
  ·split at h
   ·rw[ai]at h;obtain⟨m1,h1,h⟩:=h;obtain⟨a1,n1,b1,c1⟩:=xB fs _ m m1 h1;obtain⟨a2,n2,b2,c2⟩:=xB cs _ m1 m' h;exact⟨a1.trans a2,n1++n2,by rw[b2,b1,append_assoc],by simp[Pt.vars,c1,c2]⟩
   ·cases h
  ·cases h
 | .mp _,d,m,m',h=>by simp[gA1]at h
 | .a ps,d,m,m',h=>by simp[gA1]at h
theorem xB:∀ (ps:List (Pt X.ι)) (ds:List (DV X)) (m m':MG X),gAs get ps ds m=some m'->MonoG m m'∧∃ new,m'.dcs=m.dcs++new∧new.length=(varsL ps).length
 |[],[],m,m',h=>by
  simp only[gAs,Option.some.injEq]at h;subst h;exact⟨MonoG.refl _,[],by simp,rfl⟩
 |p::ps,d::ds,m,m',h=>by
  simp only[gAs]at h;rw[ai]at h;obtain⟨m1,h1,h⟩:=h;obtain⟨a1,n1,b1,c1⟩:=aeX p d m m1 h1;obtain⟨a2,n2,b2,c2⟩:=xB ps ds m1 m' h;exact⟨a1.trans a2,n1++n2,by rw[b2,b1,append_assoc],by simp[varsL,c1,c2]⟩
 |[],_::_,m,m',h=>by simp[gAs]at h
 |_::_,[],m,m',h=>by simp[gAs]at h
end
theorem wT {get':Nat->Option aF} {x:AV} {hs:List LH} {p:AV×List LH×List Prop} (h:lN P get' x hs=some p) (hr:∀ k∈refs x,k∉ids):uU P get' ids x hs=some p:=by
 unfold uU;split
 ·simp[lN]at h
 ·simp[lN]at h
 ·simp[lN]at h
 ·rw[if_pos]
  ·exact h
  ·simp only[all_eq_true,Bool.not_eq_true',List.contains_eq_mem,decide_eq_false_iff_not];exact hr
variable {NM:List (Nat×Nat)} {VRS:List Nat}
mutual
theorem adr (hi:∀ q∈NM,ids[q.2]? =some q.1) (hv:∀ k∈VRS,k∉ids) (hrd:∀ k,(∃ q,(k,q)∈NM)∨k∈VRS->k∈rd) (ho:∀ q∈NM,∀ c l,get q.1=some (.lst c l)->olen q.2=l.length):
 ∀ (p:Pt X.ι) (d:DV X) (m m':MG X),gA1 get p d m=some m'->(∀ q∈m'.nm,q∈NM)->(∀ c∈m'.chk,c=true)->(∀ k∈m'.vr,k∈VRS)->
 ∃ new,m'.dcs=m.dcs++new∧∃ d',(∀ rest,eP olen p (new++rest)=(d',rest))∧(∃ hs obs,(∀ p∈obs,p)∧∀ rest,uU P (bS rd (dL get)) ids (den d) (hs++rest)=some (den d',rest,obs))∧∀ j∈drefs d,(∃ q,(j,q)∈NM)∨j∈VRS
 | .v c,d,m,m',h,hn,hc,hr=>by
  simp only[gA1]at h;rw[ai]at h;obtain⟨x,h1,h⟩:=h;injection h with h;subst h;have hvr:∀ j∈drefs d,j∈VRS:=fun j hj=>hr j (by simp[hj]);obtain⟨hs,obs,p1,q1⟩:=y8 (P:=P) (rd:=rd) h1 (fun b hb=>hc b (by simp[hb])) (fun j hj=>hrd j (.inr (hvr j hj)));refine⟨[⟨c,x.1⟩],rfl,.c c x.1,fun rest=>rfl,⟨hs,obs,p1,fun rest=>?_⟩,fun j hj=> .inr (hvr j hj)⟩;exact wT (q1 rest) (fun k hk=>hv k (hvr k (by rwa [fF]at hk)))
 | .o k,d,m,m',h,hn,hc,hr=>by
  simp only[gA1]at h;split at h
  ·rename_i k' len;rw[ai]at h;obtain⟨o,h1,h⟩:=h;split at h
   ·rename_i c l;injection h with h;subst h;have hq:(k',k)∈NM:=hn _ (by simp);have he:len=l.length:=by
     have:=hc (eqL len l.length) (by simp);simpa[eqL]using this
    refine⟨[],by simp,.own k 0 (olen k),fun rest=>rfl,⟨[.mut k],[],by simp,fun rest=>?_⟩,fun j hj=>?_⟩
    ·simp only[den,cons_append,nil_append,uU,hi _ hq,if_true,ho _ hq c l h1,he]
    ·simp only[drefs,mem_singleton]at hj;subst hj;exact .inl ⟨k,hq⟩
   ·cases h
  ·cases h
 | .od k,d,m,m',h,hn,hc,hr=>by
  simp only[gA1]at h;split at h
  ·rename_i k' off len;rw[ai]at h;obtain⟨o,h1,h⟩:=h;split at h
   ·rename_i c l;injection h with h;subst h;have hq:(k',k)∈NM:=hn _ (by simp);have he:off+len=l.length:=by
     have:=hc (eqL (off+len) l.length) (by simp);simpa[eqL]using this
    refine⟨[⟨.int .i64,(off:Int)⟩],rfl,.own k off (olen k - off),fun rest=>?_,⟨[.mut k],[],by simp,fun rest=>?_⟩,fun j hj=>?_⟩
    ·have:Vm (X:=X) ⟨.int .i64,(off:Int)⟩=off:=by
      simp only[Vm];rw[Ro];simp
     simp only[eP,cons_append,nil_append,this]
    ·simp only[den,cons_append,nil_append,uU,hi _ hq,if_true,ho _ hq c l h1,show l.length - off=len by omega]
    ·simp only[drefs,mem_singleton]at hj;subst hj;exact .inl ⟨k,hq⟩
   ·cases h
  ·cases h
 | .p k,d,m,m',h,hn,hc,hr=>by
  simp only[gA1]at h;split at h
  ·rename_i k';injection h with h;subst h;have hq:(k',k)∈NM:=hn _ (by simp);refine⟨[],by simp,.ptr k 0 0,fun rest=>rfl,⟨[.mut k],[],by simp,fun rest=>?_⟩,fun j hj=>?_⟩
   ·simp only[den,cons_append,nil_append,uU,hi _ hq,if_true]
   ·simp only[drefs,mem_singleton]at hj;subst hj;exact .inl ⟨k,hq⟩
  ·cases h
 | .nil,d,m,m',h,hn,hc,hr=>by
  simp only[gA1]at h;split at h
  ·injection h with h;subst h;refine⟨[],by simp,.nil,fun rest=>rfl,⟨[.nil],[],by simp,fun rest=>?_⟩,by simp[drefs]⟩;exact wT (by simp only[den,cons_append,nil_append,lN]) (by simp[den,refs])
  ·cases h
 | .f F fs cs,d,m,m',h,hn,hc,hr=>by
  simp only[gA1]at h;split at h
  ·rename_i F' first caps
   split at h
   ·rename_i e;subst e;rw[ai]at h;obtain⟨m1,h1,h⟩:=h;have hm:=(xB cs _ m1 m' h).1;obtain⟨n1,a1,f',b1,⟨hs1,o1,p1,q1⟩,r1⟩:=A9 hi hv hrd ho fs _ m m1 h1 (fun q hq=>hn q (hm.1 q hq)) (fun q hq=>hc q (hm.2.1 q hq)) (fun q hq=>hr q (hm.2.2 q hq));obtain⟨n2,a2,c',b2,⟨hs2,o2,p2,q2⟩,r2⟩:=A9 hi hv hrd ho cs _ m1 m' h hn hc hr;refine⟨n1++n2,by rw[a2,a1,append_assoc],.fn F f' c',fun rest=>by simp only[eP,append_assoc,b1,b2],⟨.fnw::(hs1++hs2),o1++o2,eu p1 p2,fun rest=>?_⟩,fun j hj=>?_⟩
    ·simp only[den,cons_append,append_assoc,uU,q1,bind_some,q2]
    ·simp only[drefs,mem_append]at hj;exact hj.elim (r1 j) (r2 j)
   ·cases h
  ·cases h
 | .mp _,d,m,m',h,hn,hc,hr=>by simp[gA1]at h
 | .a ps,d,m,m',h,_,_,_=>by simp[gA1]at h
theorem A9 (hi:∀ q∈NM,ids[q.2]? =some q.1) (hv:∀ k∈VRS,k∉ids) (hrd:∀ k,(∃ q,(k,q)∈NM)∨k∈VRS->k∈rd) (ho:∀ q∈NM,∀ c l,get q.1=some (.lst c l)->olen q.2=l.length):
 ∀ (ps:List (Pt X.ι)) (ds:List (DV X)) (m m':MG X),gAs get ps ds m=some m'->(∀ q∈m'.nm,q∈NM)->(∀ c∈m'.chk,c=true)->(∀ k∈m'.vr,k∈VRS)->
 ∃ new,m'.dcs=m.dcs++new∧∃ ds',(∀ rest,ePs olen ps (new++rest)=(ds',rest))∧(∃ hs obs,(∀ p∈obs,p)∧∀ rest,kg P (bS rd (dL get)) ids (aP ds) (hs++rest)=some (aP ds',rest,obs))∧∀ j∈aG ds,(∃ q,(j,q)∈NM)∨j∈VRS
 |[],[],m,m',h,_,_,_=>by
  simp only[gAs,Option.some.injEq]at h;subst h;exact⟨[],by simp,[],fun rest=>rfl,⟨[],[],by simp,fun rest=>rfl⟩,by simp[aG]⟩
 |p::ps,d::ds,m,m',h,hn,hc,hr=>by
  simp only[gAs]at h;rw[ai]at h;obtain⟨m1,h1,h⟩:=h;have hm:=(xB ps ds m1 m' h).1;obtain⟨n1,a1,d',b1,⟨hs1,o1,p1,q1⟩,r1⟩:=adr hi hv hrd ho p d m m1 h1 (fun q hq=>hn q (hm.1 q hq)) (fun q hq=>hc q (hm.2.1 q hq)) (fun q hq=>hr q (hm.2.2 q hq));obtain⟨n2,a2,ds',b2,⟨hs2,o2,p2,q2⟩,r2⟩:=A9 hi hv hrd ho ps ds m1 m' h hn hc hr;refine⟨n1++n2,by rw[a2,a1,append_assoc],d'::ds',fun rest=>by simp only[ePs,append_assoc,b1,b2],⟨hs1++hs2,o1++o2,eu p1 p2,fun rest=>?_⟩,fun j hj=>?_⟩
  ·simp only[aP,append_assoc,kg,q1,bind_some,q2]
  ·simp only[aG,mem_append]at hj;exact hj.elim (r1 j) (r2 j)
 |[],_::_,m,m',h,_,_,_=>by simp[gAs]at h
 |_::_,[],m,m',h,_,_,_=>by simp[gAs]at h
end
theorem xC:∀ (rs:List (List (Pt X.ι))) (qs:List (List (DV X))) (m m':MG X),DR get rs qs m=some m'->MonoG m m'∧∃ new,m'.dcs=m.dcs++new∧new.length=(tO rs).length
 |[],[],m,m',h=>by
  simp only[DR,Option.some.injEq]at h;subst h;exact⟨MonoG.refl _,[],by simp,rfl⟩
 |r::rs,q::qs,m,m',h=>by
  simp only[DR]at h;rw[ai]at h;obtain⟨m1,h1,h⟩:=h;obtain⟨a1,n1,b1,c1⟩:=xB r q m m1 h1;obtain⟨a2,n2,b2,c2⟩:=xC rs qs m1 m' h;exact⟨a1.trans a2,n1++n2,by rw[b2,b1,append_assoc],by simp[tO,c1,c2]⟩
 |[],_::_,m,m',h=>by simp[DR]at h
 |_::_,[],m,m',h=>by simp[DR]at h
theorem Oe (hi:∀ q∈NM,ids[q.2]? =some q.1) (hv:∀ k∈VRS,k∉ids) (hrd:∀ k,(∃ q,(k,q)∈NM)∨k∈VRS->k∈rd) (ho:∀ q∈NM,∀ c l,get q.1=some (.lst c l)->olen q.2=l.length):
 ∀ (rs:List (List (Pt X.ι))) (qs:List (List (DV X))) (m m':MG X),DR get rs qs m=some m'->(∀ q∈m'.nm,q∈NM)->(∀ c∈m'.chk,c=true)->(∀ k∈m'.vr,k∈VRS)->
 ∃ new,m'.dcs=m.dcs++new∧∃ qs',(∀ rest,tT olen rs (new++rest)=(qs',rest))∧(∃ hs obs,(∀ p∈obs,p)∧Cg P (bS rd (dL get)) ids (qs.map aP) hs=some (qs'.map aP,obs))∧∀ j∈(qs.map aG).flatten,(∃ q,(j,q)∈NM)∨j∈VRS
 |[],[],m,m',h,_,_,_=>by
  simp only[DR,Option.some.injEq]at h;subst h;exact⟨[],by simp,[],fun rest=>rfl,⟨[],[],by simp,rfl⟩,by simp⟩
 |r::rs,q::qs,m,m',h,hn,hc,hr=>by
  simp only[DR]at h;rw[ai]at h;obtain⟨m1,h1,h⟩:=h;have hm:=(xC rs qs m1 m' h).1;obtain⟨n1,a1,d',b1,⟨hs1,o1,p1,q1⟩,r1⟩:=A9 (P:=P) hi hv hrd ho r q m m1 h1 (fun q hq=>hn q (hm.1 q hq)) (fun q hq=>hc q (hm.2.1 q hq)) (fun q hq=>hr q (hm.2.2 q hq));obtain⟨n2,a2,ds',b2,⟨hs2,o2,p2,q2⟩,r2⟩:=Oe hi hv hrd ho rs qs m1 m' h hn hc hr;refine⟨n1++n2,by rw[a2,a1,append_assoc],d'::ds',fun rest=>by simp only[tT,append_assoc,b1,b2],⟨hs1::hs2,o1++o2,eu p1 p2,?_⟩,fun j hj=>?_⟩
  ·have:=q1 [];rw[append_nil]at this;simp only[map_cons,Cg,this,bind_some,q2]
  ·simp only[map_cons,flatten_cons,mem_append]at hj;exact hj.elim (r1 j) (r2 j)
 |[],_::_,m,m',h,_,_,_=>by simp[DR]at h
 |_::_,[],m,m',h,_,_,_=>by simp[DR]at h
theorem oP:∀ (os:List (Nat×OP X.ι)) (m m':MG X),DT get os m=some m'->MonoG m m'∧∃ new,m'.dcs=m.dcs++new∧new.length=(varsO os).length
 |[],m,m',h=>by
  simp only[DT,Option.some.injEq]at h;subst h;exact⟨MonoG.refl _,[],by simp,rfl⟩
 |(k,op)::r,m,m',h=>by
  simp only[DT]at h;rw[ai]at h;obtain⟨o,h1,h⟩:=h;split at h
  ·rename_i c c' l;rw[ai]at h;obtain⟨l',h2,h⟩:=h;obtain⟨a2,n2,b2,c2⟩:=oP r _ m' h;refine⟨MonoG.trans (b:=⟨m.nm++[(nmG m k,k)],m.dcs++[⟨.sl c,l'⟩],m.chk,m.vr⟩) ⟨fun _ h=>by simp[h],fun _ h=>h,fun _ h=>h⟩ a2,[⟨.sl c,l'⟩]++n2,?_,by simp[varsO,c2]⟩;rw[b2,append_assoc]
  ·rename_i sz rows sz' rows';split at h
   ·rw[ai]at h;obtain⟨m1,h2,h⟩:=h;obtain⟨a1,n1,b1,c1⟩:=xC rows _ _ m1 h2;obtain⟨a2,n2,b2,c2⟩:=oP r m1 m' h;refine⟨MonoG.trans (MonoG.trans (b:=⟨m.nm++[(nmG m k,k)],m.dcs,m.chk,m.vr⟩) ⟨fun _ h=>by simp[h],fun _ h=>h,fun _ h=>h⟩ a1) a2,n1++n2,?_,by simp[varsO,c1,c2]⟩;rw[b2,b1,append_assoc]
   ·cases h
  ·cases h
theorem Io:∀ (os:List (Nat×OP X.ι)) (m m':MG X),DT get os m=some m'->(∀ q∈m'.nm,q∈NM)->∃ new,m'.dcs=m.dcs++new∧∀ rest,∀ k∈os.map (·.1),∃ k' o,(k',k)∈NM∧get k'=some o∧∀ c l,o= .lst c l->(k,List.length l)∈lens os (new++rest)
 |[],m,m',h,_=>by
  simp only[DT,Option.some.injEq]at h;subst h;exact⟨[],by simp,fun rest k hk=>by simp at hk⟩
 |(k,op)::r,m,m',h,hn=>by
  simp only[DT]at h;rw[ai]at h;obtain⟨o,h1,h⟩:=h;split at h
  ·rename_i c c' l;rw[ai]at h;obtain⟨l',h2,h⟩:=h;have hm:=(oP r _ m' h).1;obtain⟨n2,b2,c2⟩:=Io r _ m' h hn;refine⟨[⟨.sl c,l'⟩]++n2,by rw[b2,append_assoc],fun rest j hj=>?_⟩;simp only[map_cons,mem_cons]at hj;simp only[append_assoc,cons_append,nil_append,lens];by_cases hjk:j=k
   ·subst hjk;refine⟨_,_,hn _ (hm.1 _ (by simp)),h1,fun c2 l2 he=>?_⟩;injection he with e1 e2;subst e1;have e2:=eq_of_heq e2;subst e2;have:=congrArg List.length (iO h2).2;simp only[length_map]at this;rw[this];exact List.mem_cons_self
   ·rcases hj with rfl |hj
    ·exact (hjk rfl).elim
    ·obtain⟨k',o',g1,g2,g3⟩:=c2 rest j hj;exact⟨k',o',g1,g2,fun c l he=>mem_cons_of_mem _ (g3 c l he)⟩
  ·rename_i sz rows sz' rows';split at h
   ·rw[ai]at h;obtain⟨m1,h2,h⟩:=h;obtain⟨a1,n1,b1,c1⟩:=xC rows _ _ m1 h2;have hm:=(oP r _ m' h).1;obtain⟨n2,b2,c2⟩:=Io r _ m' h hn;refine⟨n1++n2,by rw[b2,b1,append_assoc],fun rest j hj=>?_⟩;simp only[map_cons,mem_cons]at hj;have hd:(n1++n2++rest).drop (tO rows).length=n2++rest:=(by rw[<- c1,append_assoc,List.drop_left]);simp only[lens,hd];by_cases hjk:j=k
    ·subst hjk;exact⟨_,_,hn _ (hm.1 _ (a1.1 _ (by simp))),h1,fun c2 l2 he=>by cases he⟩
    ·rcases hj with rfl |hj
     ·exact (hjk rfl).elim
     ·exact c2 rest j hj
   ·cases h
  ·cases h
theorem Cs:∀ (os:List (Nat×OP X.ι)) (L:List (DC X)),((lens os L).map (·.1)).Sublist (os.map (·.1))
 |[],_=>by simp[lens]
 |(k,.l c)::r,L=>by
  simp only[lens];split
  ·exact (Cs r _).cons_cons _
  ·exact List.nil_sublist _
 |(k,.m kc vc)::r,L=>by
  simp only[lens];exact (Cs r _).cons _
 |(k,.c sz rows)::r,L=>by
  simp only[lens];exact (Cs r _).cons _
def ads (get':Nat->Option aF) (NM:List (Nat×Nat)) (VRS:List Nat) (bs:List OB) (ks:List Nat):Prop:=
 ∀ (j:Nat) hs q o,bs[j]? =some (.cel hs)->ks[j]? =some q->get' q=some o->∀ k∈QT o,(∃ z,(k,z)∈NM)∨k∈VRS
theorem JY {sz:Nat} {rows:List (List (DV X))} {k:Nat} (h:k∈QT (aU (.cells sz rows))):k∈(rows.map aG).flatten:=by
 simp only[QT,aU,mem_flatMap,mem_map]at h;obtain⟨a,⟨r,hr,rfl⟩,hk⟩:=h;rw[eG]at hk;exact List.mem_flatten.2 ⟨_,mem_map.2 ⟨r,hr,rfl⟩,hk⟩
theorem EF (hi:∀ q∈NM,ids[q.2]? =some q.1) (hv:∀ k∈VRS,k∉ids) (hrd:∀ k,(∃ q,(k,q)∈NM)∨k∈VRS->k∈rd) (ho:∀ q∈NM,∀ c l,get q.1=some (.lst c l)->olen q.2=l.length):
 ∀ (os:List (Nat×OP X.ι)) (m m':MG X),DT get os m=some m'->(∀ q∈m'.nm,q∈NM)->(∀ c∈m'.chk,c=true)->(∀ k∈m'.vr,k∈VRS)->
 ∃ new,m'.dcs=m.dcs++new∧∃ xs:List (Nat×DObj X),(∀ rest,bC olen os (new++rest)=xs.map fun p=>(p.1,some p.2))∧
   ∃ bs mo,(∀ p∈mo,p)∧Ht P (bS rd (dL get)) ids (os.map fun p=>(ids[p.1]?).getD 0) bs=some (xs.map fun p=>aU p.2,mo)∧ads (bS rd (dL get)) NM VRS bs (os.map fun p=>(ids[p.1]?).getD 0)
 |[],m,m',h,_,_,_=>by
  simp only[DT,Option.some.injEq]at h;subst h;exact⟨[],by simp,[],fun rest=>rfl,[],[],by simp,rfl,fun j hs q o h=>by simp at h⟩
 |(k,op)::r,m,m',h,hn,hc,hr=>by
  simp only[DT]at h;rw[ai]at h;obtain⟨o,h1,h⟩:=h;split at h
  ·rename_i c c' l;rw[ai]at h;obtain⟨l',h2,h⟩:=h;have hm:=(oP r _ m' h).1;have hq:(nmG m k,k)∈NM:=hn _ (hm.1 _ (by simp));have hid:(ids[k]?).getD 0=nmG m k:=(by rw[hi _ hq];rfl);have hget:=dK (hrd (nmG m k) (.inl ⟨k,hq⟩)) h1;obtain⟨h3,h4⟩:=iO h2;obtain⟨n2,a2,xs,b2,bs,mo,p2,q2,r2⟩:=EF hi hv hrd ho r _ m' h hn hc hr;refine⟨[⟨.sl c,l'⟩]++n2,by rw[a2,append_assoc],(k,.lst c l')::xs,fun rest=>by simp only[append_assoc,cons_append,nil_append,bC,b2,map_cons],.dat (CT.sz X c,l'.map (CT.row X.toSE c))::bs,((aU (.lst c' l)).sz=CT.sz X c∧bR ((aU (.lst c' l)).rows.take (l'.map (CT.row X.toSE c)).length)=aD (l'.map (CT.row X.toSE c)))::mo,?_,?_,?_⟩
   ·intro p hp;rcases mem_cons.1 hp with rfl |hp
    ·refine⟨h3,?_⟩;simp only[aU,h4];rw[List.take_of_length_le (by simp[aD])];simp[bR,aD,Function.comp_def,wk]
    ·exact p2 p hp
   ·simp only[map_cons,Ht,YA,hid,hget,bind_some,q2,cons_append,nil_append];rfl
   ·intro j hs q o' hj hq' ho';cases j with
    |zero=>simp at hj
    |succ j=>exact r2 j hs q o' (by simpa using hj) (by simpa using hq') ho'
  ·rename_i sz rows sz' rows';split at h
   ·rename_i hsz;rw[ai]at h;obtain⟨m1,h2,h⟩:=h;have hm1:=(xC rows _ _ m1 h2).1;have hm:=(oP r _ m' h).1;have hq:(nmG m k,k)∈NM:=hn _ (hm.1 _ (hm1.1 _ (by simp)));have hid:(ids[k]?).getD 0=nmG m k:=(by rw[hi _ hq];rfl);have hget:=dK (hrd (nmG m k) (.inl ⟨k,hq⟩)) h1;obtain⟨n1,a1,qs,b1,⟨hs1,o1,p1,q1⟩,r1⟩:=Oe (P:=P) hi hv hrd ho rows _ _ m1 h2 (fun q hq=>hn q (hm.1 q hq)) (fun q hq=>hc q (hm.2.1 q hq)) (fun q hq=>hr q (hm.2.2 q hq));obtain⟨n2,a2,xs,b2,bs,mo,p2,q2,r2⟩:=EF hi hv hrd ho r _ m' h hn hc hr;subst hsz;refine⟨n1++n2,by rw[a2,a1,append_assoc],(k,.cells sz qs)::xs,fun rest=>by simp only[append_assoc,bC,b1,b2,map_cons],.cel hs1::bs,o1++mo,eu p1 p2,?_,?_⟩
    ·simp only[map_cons,Ht,YA,hid,hget,bind_some,aU,q1,q2]
    ·intro j hs q o' hj hq' ho';cases j with
     |zero=>
      simp only[map_cons,List.getElem?_cons_zero,Option.some.injEq]at hq';rw[<- hq',hid,hget]at ho';injection ho' with ho';subst ho';exact fun z hz=>r1 z (JY hz)
     |succ j=>exact r2 j hs q o' (by simpa using hj) (by simpa using hq') ho'
   ·cases h
  ·cases h
end
end
end Go.Gb
namespace Go.Gb
open Go.RowKit
section
variable {X:SX} {A:Type}
theorem abp:∀ (l:List (CT X.ι)) (v:VT (X:=X) l),(tQ l v).map (·.c)=l
 |[],_=>rfl
 |[_],_=>rfl
 |c::c'::l,v=>by simp only[tQ,map_cons,abp (c'::l) v.2]
theorem Mg:∀ {l:List Tree},(∀ t∈l,t.flat)->mF (l.map AV.t)
 |[],_=>trivial
 |t::l,h=>⟨h t (by simp),Mg (fun u hu=>h u (by simp[hu]))⟩
theorem Xi {c:CT X.ι} (h:vK c=true) (x:CT.T X.toSE c):rz (CT.tv X.toSE c x).av:=by
 have hf:=rG h x;cases c
 case st i=>exact Mg hf
 all_goals first |exact hf _ (mem_singleton.2 rfl) |cases h
section
variable {ol:Nat->Nat}
mutual
theorem agj:∀ (p:Pt X.ι) (L:List (DC X)) (cs:List (CT X.ι)),L.map (·.c)=p.vars++cs->p.vars.all vK=true->rz (den (eP ol p L).1)∧(eP ol p L).2.map (·.c)=cs
 | .v c,L,cs,h,hs=>by
  match L,h with
  |d::r,h=>
   simp only[Pt.vars,map_cons,List.singleton_append,List.cons.injEq]at h;simp only[Pt.vars,all_cons,List.all_nil,Bool.and_true]at hs;exact⟨Xi (h.1 ▸ hs) d.x,h.2⟩
  |[],h=>simp[Pt.vars]at h
 | .o k,L,cs,h,_=>⟨trivial,by simpa[Pt.vars,eP]using h⟩
 | .p k,L,cs,h,_=>⟨trivial,by simpa[Pt.vars,eP]using h⟩
 | .mp k,L,cs,h,_=>⟨trivial,by simpa[Pt.vars,eP]using h⟩
 | .nil,L,cs,h,_=>⟨trivial,by simpa[Pt.vars,eP]using h⟩
 | .od k,L,cs,h,_=>by
  match L,h with
  |d::r,h=>
   simp only[Pt.vars,map_cons,List.singleton_append,List.cons.injEq]at h;exact⟨trivial,h.2⟩
  |[],h=>simp[Pt.vars]at h
 | .f F fs ps,L,cs,h,hs=>by
  simp only[Pt.vars,List.all_append,and_eq_true]at hs;simp only[Pt.vars,append_assoc]at h;obtain⟨a1,a2⟩:=Ba fs L _ h hs.1;obtain⟨b1,b2⟩:=Ba ps _ _ a2 hs.2;exact⟨⟨a1,b1⟩,b2⟩
 | .a ps,L,cs,h,hs=>by
  simp only[Pt.vars]at h hs;exact Ba ps L cs h hs
theorem Ba:∀ (ps:List (Pt X.ι)) (L:List (DC X)) (cs:List (CT X.ι)),L.map (·.c)=varsL ps++cs->(varsL ps).all vK=true->mF (aP (ePs ol ps L).1)∧(ePs ol ps L).2.map (·.c)=cs
 |[],L,cs,h,_=>⟨trivial,by simpa[varsL,ePs]using h⟩
 |p::ps,L,cs,h,hs=>by
  simp only[varsL,List.all_append,and_eq_true]at hs;simp only[varsL,append_assoc]at h;obtain⟨a1,a2⟩:=agj p L _ h hs.1;obtain⟨b1,b2⟩:=Ba ps _ _ a2 hs.2;exact⟨⟨a1,b1⟩,b2⟩
end
mutual
theorem agk:∀ (p:Pt X.ι) (L:List (DC X)),∀ j∈drefs (eP ol p L).1,j∈p.refs
 | .v c,L,j,h=>by cases L<;>simp[eP,drefs]at h
 | .o k,L,j,h=>by simpa[eP,drefs,Pt.refs]using h
 | .p k,L,j,h=>by simpa[eP,drefs,Pt.refs]using h
 | .mp k,L,j,h=>by simpa[eP,drefs,Pt.refs]using h
 | .nil,L,j,h=>by simp[eP,drefs]at h
 | .od k,L,j,h=>by cases L<;>simp[eP,drefs]at h<;>simp[Pt.refs,h]
 | .f F fs ps,L,j,h=>by
  simp only[eP,drefs,mem_append]at h;simp only[Pt.refs,mem_append];exact h.imp (xD fs _ j) (xD ps _ j)
 | .a ps,L,j,h=>by
  simp only[eP,drefs]at h;simp only[Pt.refs];exact xD ps _ j h
theorem xD:∀ (ps:List (Pt X.ι)) (L:List (DC X)),∀ j∈aG (ePs ol ps L).1,j∈zP ps
 |[],L,j,h=>by simp[ePs,aG]at h
 |p::ps,L,j,h=>by
  simp only[ePs,aG,mem_append]at h;simp only[zP,mem_append];exact h.imp (agk p _ j) (xD ps _ j)
end
theorem Ip:∀ (rs:List (List (Pt X.ι))) (L:List (DC X)) (cs:List (CT X.ι)),L.map (·.c)=tO rs++cs->(tT ol rs L).2.map (·.c)=cs∧((tO rs).all vK=true->∀ r∈(tT ol rs L).1,mF (aP r))
 |[],L,cs,h=>⟨by simpa[tO,tT]using h,by simp[tT]⟩
 |r::rs,L,cs,h=>by
  simp only[tO,append_assoc]at h;have step:(ePs ol r L).2.map (·.c)=tO rs++cs:=ePs_codes r L _ h;obtain⟨b1,b2⟩:=Ip rs _ _ step;refine⟨b1,fun hs q hq=>?_⟩;simp only[tO,List.all_append,and_eq_true]at hs;simp only[tT,mem_cons]at hq;rcases hq with rfl |hq
  ·exact (Ba r L _ h hs.1).1
  ·exact b2 hs.2 q hq
where
 ePs_codes (ps:List (Pt X.ι)) (L:List (DC X)) (cs:List (CT X.ι)) (h:L.map (·.c)=varsL ps++cs):(ePs ol ps L).2.map (·.c)=cs:=codesL ps L cs h
 codes1:∀ (p:Pt X.ι) (L:List (DC X)) (cs:List (CT X.ι)),L.map (·.c)=p.vars++cs->(eP ol p L).2.map (·.c)=cs
  | .v c,L,cs,h=>by
   match L,h with
   |d::r,h=>simp only[Pt.vars,map_cons,List.singleton_append,List.cons.injEq]at h;exact h.2
   |[],h=>simp[Pt.vars]at h
  | .o k,L,cs,h=>by simpa[Pt.vars,eP]using h
  | .p k,L,cs,h=>by simpa[Pt.vars,eP]using h
  | .mp k,L,cs,h=>by simpa[Pt.vars,eP]using h
  | .nil,L,cs,h=>by simpa[Pt.vars,eP]using h
  | .od k,L,cs,h=>by
   match L,h with
   |d::r,h=>simp only[Pt.vars,map_cons,List.singleton_append,List.cons.injEq]at h;exact h.2
   |[],h=>simp[Pt.vars]at h
  | .f F fs ps,L,cs,h=>by
   simp only[Pt.vars,append_assoc]at h;exact codesL ps _ _ (codesL fs L _ h)
  | .a ps,L,cs,h=>by
   simp only[Pt.vars]at h;exact codesL ps L cs h
 codesL:∀ (ps:List (Pt X.ι)) (L:List (DC X)) (cs:List (CT X.ι)),L.map (·.c)=varsL ps++cs->(ePs ol ps L).2.map (·.c)=cs
  |[],L,cs,h=>by simpa[varsL,ePs]using h
  |p::ps,L,cs,h=>by
   simp only[varsL,append_assoc]at h;exact codesL ps _ _ (codes1 p L _ h)
theorem Rv:∀ (rs:List (List (Pt X.ι))) (L:List (DC X)),∀ j∈((tT ol rs L).1.map aG).flatten,j∈rs.flatMap zP
 |[],L,j,h=>by simp[tT]at h
 |r::rs,L,j,h=>by
  simp only[tT,map_cons,flatten_cons,mem_append]at h;simp only[List.flatMap_cons,mem_append];exact h.imp (xD r _ j) (Rv rs _ j)
theorem xE:∀ (O:List (Nat×OP X.ι)) (L:List (DC X)),((bH (bC ol O L)).map (·.1)).Sublist (O.map (·.1))∧(∀ p∈bH (bC ol O L),∃ op,(p.1,op)∈O∧∀ j∈orefs p.2,j∈op.refs)∧
 (L.map (·.c)=varsO O->(O.all fun q=>match q.2 with | .l c=>vK c | .m _ _=>false | .c _ rows=>(tO rows).all vK)=true->∀ p∈bH (bC ol O L),∀ r∈(aU p.2).rows,mF r)
 |[],L=>⟨by simp[bC,bH],by simp[bC,bH],by simp[bC,bH]⟩
 |(k,.l c)::O,L=>by
  match L with
  |[]=>exact⟨by simp[bC,bH],by simp[bC,bH],by simp[bC,bH]⟩
  |⟨.sl c',x⟩::L=>
   obtain⟨h1,h2,h3⟩:=xE O L;refine⟨?_,?_,?_⟩
   ·simp only[bC,bH,map_cons];exact h1.cons_cons _
   ·intro p hp;simp only[bC,bH,mem_cons]at hp;rcases hp with rfl |hp
    ·exact⟨.l c,by simp,by simp[orefs]⟩
    ·obtain⟨op,g1,g2⟩:=h2 p hp;exact⟨op,mem_cons_of_mem _ g1,g2⟩
   ·intro hL hs p hp r hr;simp only[map_cons,varsO,List.cons.injEq]at hL;simp only[all_cons,and_eq_true]at hs;simp only[bC,bH,mem_cons]at hp;rcases hp with rfl |hp
    ·obtain⟨e,_⟩:=hL;injection e with e;simp only[aU,aD,mem_map]at hr;obtain⟨q,⟨y,hy,rfl⟩,rfl⟩:=hr;exact Mg (rG (e ▸ hs.1) y)
    ·exact h3 hL.2 hs.2 p hp r hr
  |⟨.int _,x⟩::L=>exact⟨by simp[bC,bH],by simp[bC,bH],by simp[bC,bH]⟩
  |⟨.bool,x⟩::L=>exact⟨by simp[bC,bH],by simp[bC,bH],by simp[bC,bH]⟩
  |⟨.str,x⟩::L=>exact⟨by simp[bC,bH],by simp[bC,bH],by simp[bC,bH]⟩
  |⟨.any,x⟩::L=>exact⟨by simp[bC,bH],by simp[bC,bH],by simp[bC,bH]⟩
  |⟨.mp _ _,x⟩::L=>exact⟨by simp[bC,bH],by simp[bC,bH],by simp[bC,bH]⟩
  |⟨.st _,x⟩::L=>exact⟨by simp[bC,bH],by simp[bC,bH],by simp[bC,bH]⟩
 |(k,.m kc vc)::O,L=>by
  match L with
  |[]=>exact⟨by simp[bC,bH],by simp[bC,bH],by simp[bC,bH]⟩
  |⟨.mp kc' vc',x⟩::L=>
   obtain⟨h1,h2,h3⟩:=xE O L;refine⟨?_,?_,?_⟩
   ·simp only[bC,bH,map_cons];exact h1.cons_cons _
   ·intro p hp;simp only[bC,bH,mem_cons]at hp;rcases hp with rfl |hp
    ·exact⟨.m kc vc,by simp,by simp[orefs]⟩
    ·obtain⟨op,g1,g2⟩:=h2 p hp;exact⟨op,mem_cons_of_mem _ g1,g2⟩
   ·intro hL hs;simp at hs
  |⟨.sl _,x⟩::L=>exact⟨by simp[bC,bH],by simp[bC,bH],by simp[bC,bH]⟩
  |⟨.int _,x⟩::L=>exact⟨by simp[bC,bH],by simp[bC,bH],by simp[bC,bH]⟩
  |⟨.bool,x⟩::L=>exact⟨by simp[bC,bH],by simp[bC,bH],by simp[bC,bH]⟩
  |⟨.str,x⟩::L=>exact⟨by simp[bC,bH],by simp[bC,bH],by simp[bC,bH]⟩
  |⟨.any,x⟩::L=>exact⟨by simp[bC,bH],by simp[bC,bH],by simp[bC,bH]⟩
  |⟨.st _,x⟩::L=>exact⟨by simp[bC,bH],by simp[bC,bH],by simp[bC,bH]⟩
 |(k,.c sz rows)::O,L=>by
  obtain⟨h1,h2,h3⟩:=xE O (tT ol rows L).2;refine⟨?_,?_,?_⟩
  ·simp only[bC,bH,map_cons];exact h1.cons_cons _
  ·intro p hp;simp only[bC,bH,mem_cons]at hp;rcases hp with rfl |hp
   ·exact⟨.c sz rows,by simp,fun j hj=>Rv rows L j hj⟩
   ·obtain⟨op,g1,g2⟩:=h2 p hp;exact⟨op,mem_cons_of_mem _ g1,g2⟩
  ·intro hL hs p hp r hr;simp only[varsO]at hL;simp only[all_cons,and_eq_true]at hs;obtain⟨e1,e2⟩:=Ip (ol:=ol) rows L _ hL;simp only[bC,bH,mem_cons]at hp;rcases hp with rfl |hp
   ·simp only[aU,mem_map]at hr;obtain⟨q,hq,rfl⟩:=hr;exact e2 hs.1 q hq
   ·exact h3 e1 hs.2 p hp r hr
end
theorem Mh (k:Nat):∀ os:List (Nat×DObj X),olk (qf os) k=(dlk os k).map aU
 |[]=>rfl
 |(j,o)::r=>by
  simp only[qf,map_cons,olk,dlk];split
  ·rfl
  ·exact Mh k r
theorem Rw (f:Nat->Nat) (c:CT X.ι) (x:CT.T X.toSE c):rnA f (CT.tv X.toSE c x).av=(CT.tv X.toSE c x).av:=(y9 f (.c c x)).symm
theorem Y6 (f:Nat->Nat) (o:DObj X):aU (rnO f o)=tK f (aU o):=by
 cases o with
 |cells sz rows=>simp only[rnO,aU,tK,map_map];congr 1;exact map_congr_left fun r _=>A8 f r
 |lst c l=>simp only[rnO,aU,tK,aD,map_map];congr 1;exact map_congr_left fun r _=>(abn f _).symm
 |map kc vc l=>simp only[rnO,aU,tK,map_map];congr 1;exact map_congr_left fun r _=>by simp only[Function.comp_apply,qd,Rw]
theorem adt (i:Nat) (ids:List Nat) (os:List (Nat×DObj X)):fw (acM i ids os)=WN i ids (qf os):=by
 simp only[acM,WN,pI];congr 1
 ·simp only[fw,map_map];refine map_congr_left fun p _=>?_;simp only[Function.comp_apply,Mh,Option.map_map];congr 1;cases dlk os p.2<;>simp[Y6]
 ·simp only[fw,qf,List.filter_map,map_map];refine map_congr_left fun q _=>?_;simp[Y6]
theorem Rx {ds:List (DV X)}:(∀ j∈refs (den (xu ds)),j∈aG ds)∧(mF (aP ds)->rz (den (xu ds))):=by
 match ds with
 |[]=>exact⟨fun j hj=>by simp[xu,den,aP,refs,bg]at hj,fun _=>by simp only[xu,den,rz];exact trivial⟩
 |[d]=>exact⟨fun j hj=>by simp only[xu,fF]at hj;simpa[aG]using hj,fun h=>h.1⟩
 |d::e::r=>exact⟨fun j hj=>by simp only[xu,den,refs,eG]at hj;exact hj,fun h=>h⟩
theorem Vt:∀ xs:List (Nat×DObj X),bH (xs.map fun p=>(p.1,some p.2))=xs
 |[]=>rfl
 |p::xs=>by simp only[map_cons,bH,Vt xs]
theorem acN:∀ l:List Tree,bg (l.map AV.t)=[]
 |[]=>rfl
 |_::l=>by simp only[map_cons,bg,refs,acN l,nil_append]
theorem Xj {P:Program} {g:GSig X} {F:FuncId} (hg:aeP P F g) {i:Nat} {first args caps:List (DV X)} {get:Nat->Option (DObj X)} {k:KK X A} {r:A} (h:abo g i (first++args++caps) get k=some r):
 ∃ orc rd wr dv upd out,iw P i (den (.fn F first caps)) (aP args) orc (bS rd (dL get))=some out∧fJ out.obs∧out.v=den dv∧out.upd=fw upd∧(∀ p∈upd,p.1=nid i∨p.1∈wr)∧k dv upd rd wr=some r:=by
 unfold abo at h;rw[ai]at h;obtain⟨m1,h1,h⟩:=h;rw[ai]at h;obtain⟨m,h2,h⟩:=h;obtain⟨h3,h⟩:=dm h;rw[ai]at h;obtain⟨v,h4,h⟩:=h;obtain⟨h5,h⟩:=mG h;rw[ai]at h;obtain⟨rr,h6,h⟩:=h;simp only[and_eq_true]at h3;obtain⟨hok,hokG⟩:=h3;simp only at h;generalize hids:(List.range g.inO.length).map (nmG m)=ids at h hokG;simp only[GSig.ok,and_eq_true,decide_eq_true_eq]at hok;obtain⟨⟨⟨⟨n1,n2⟩,n3⟩,n4⟩,n5⟩:=hok;simp only[okG,and_eq_true,decide_eq_true_eq]at hokG;obtain⟨⟨hnd,hnm⟩,hvr⟩:=hokG;have hlen:ids.length=g.inO.length:=by rw[<- hids];simp
 have hi:∀ q∈m.nm,ids[q.2]? =some q.1:=by
  intro q hq;have:=all_eq_true.1 hnm q hq;split at this
  ·rename_i k' e;rw[e,Nat.eq_of_beq_eq_true this]
  ·cases this
 have hv:∀ k∈m.vr,k∉ids:=fun k hk=>by
  have:=all_eq_true.1 hvr k hk;simpa using this
 have hrd:∀ k,(∃ q,(k,q)∈m.nm)∨k∈m.vr->k∈ids++m.vr:=by
  rintro k (⟨q,hq⟩ |hk)
  ·exact mem_append_left _ (List.mem_of_getElem? (hi _ hq))
  ·exact mem_append_right _ hk
 have hm2:=(oP _ _ _ h2).1;have hdcs:=Rn h4;obtain⟨_,nA,dA,lA⟩:=xB _ _ _ _ h1;simp only[nil_append]at dA;obtain⟨nB,dB,lB⟩:=Io (NM:=m.nm) _ _ _ h2 (fun q hq=>hq);have hL:m.dcs=nA++nB:=by rw[dB,dA]
 have hdrop:(tQ _ v).drop (varsL g.inP).length=nB:=by rw[hdcs,hL,<- lA,List.drop_left]
 have htake:(tQ _ v).take (varsL g.inP).length=nA:=by rw[hdcs,hL,<- lA,List.take_left]
 have ho:∀ q∈m.nm,∀ c l,get q.1=some (.lst c l)->zN g.inO nB q.2=l.length:=by
  rintro⟨p,q⟩ hq c l hl;have hq2:=hi _ hq;have hqn:q < g.inO.length:=by rw[<- hlen];exact (List.getElem?_eq_some_iff.1 hq2).1
  obtain⟨p',o,g1,g2,g3⟩:=lB [] q (by rw[n1];exact List.mem_range.2 hqn);have:p'=p:=by
   have e1:=hi _ g1;rw[hq2]at e1;injection e1 with e1;exact e1.symm
  subst this;simp only at hl;rw[hl]at g2;injection g2 with g2;have h3:=g3 c l g2.symm;rw[append_nil]at h3;have hk:=(Cs g.inO nB).nodup (by rw[n1];exact List.nodup_range);simp only[zN,rD hk h3,Option.getD_some]
 obtain⟨nA',dA',ds',eA,⟨hs,obs,pA,qA⟩,rA⟩:=A9 (P:=P) (ids:=ids) (rd:=ids++m.vr) (NM:=m.nm) (VRS:=m.vr) (olen:=zN g.inO nB) hi hv hrd ho _ _ _ _ h1 (fun q hq=>hm2.1 q hq) (fun c hc=>h5 c (hm2.2.1 c hc)) (fun q hq=>hm2.2.2 q hq);obtain⟨nB',dB',xs,eB,bs,mo,pB,qB,rB⟩:=EF (P:=P) (ids:=ids) (rd:=ids++m.vr) (NM:=m.nm) (VRS:=m.vr) (olen:=zN g.inO nB) hi hv hrd ho _ _ _ h2 (fun q hq=>hq) h5 (fun q hq=>hq);have eqA:nA'=nA:=by simp only[nil_append]at dA';rw[<- dA',dA]
 have eqB:nB'=nB:=List.append_cancel_left (dB'.symm.trans dB);subst eqA eqB;have eA0:=eA [];have eB0:=eB [];rw[append_nil]at eA0 eB0;have hargs:g.args v=ds':=by simp only[GSig.args,Rp,hdrop,htake,eA0]
 have hobjs:g.objs v=xs:=by simp only[GSig.objs,YR,hdrop,eB0,Vt]
 have hidl:(g.inO.map fun p=>(ids[p.1]?).getD 0)=ids:=by
  have:(g.inO.map fun p=>(ids[p.1]?).getD 0)=(g.inO.map (·.1)).map fun j=>(ids[j]?).getD 0:=by rw[map_map];rfl
  rw[this,n1];refine List.ext_getElem (by simp[hlen]) fun j a b=>?_;simp[List.getElem?_eq_getElem b]
 rw[hidl]at qB rB;have qA0:=qA [];rw[append_nil,fq,fq]at qA0;have hcon:=hg v rr h6;rw[hargs,hobjs]at hcon;obtain⟨s1,s2,s3⟩:=xE (ol:=zN g.outO ((tQ (varsS (zipS 0 g.outP)++varsO g.outO) rr).drop (varsL g.outP).length)) g.outO ((tQ _ rr).drop (varsL g.outP).length);have nmok:∀ k,nmB g.inO.length k=true->YB ids.length k:=by
  intro k hk;simp only[nmB,Bool.or_eq_true,and_eq_true,Nat.blt_eq,Nat.ble_eq]at hk;simp only[YB,hlen];exact hk
 have good:U5 ids.length (qf (g.outs rr)) (den (g.res rr)):=by
  refine⟨?_,?_,?_,?_⟩
  ·intro q hq;simp only[qf,mem_map]at hq;obtain⟨p,hp,rfl⟩:=hq;obtain⟨op,g1,_⟩:=s2 p hp;have:=all_eq_true.1 n3 _ g1;simp only[and_eq_true]at this;exact nmok _ this.1
  ·have:(qf (g.outs rr)).map (·.1)=(g.outs rr).map (·.1):=(by simp[qf]);rw[this];exact s1.nodup n4
  ·intro q hq r' hr' j hj;simp only[qf,mem_map]at hq;obtain⟨p,hp,rfl⟩:=hq;obtain⟨op,g1,g2⟩:=s2 p hp;have:=all_eq_true.1 n3 _ g1;simp only[and_eq_true]at this;refine nmok _ (all_eq_true.1 this.2 j (g2 j ?_));obtain⟨pk,po⟩:=p;cases po with
   |cells sz rows=>exact JY (mem_flatMap.2 ⟨r',hr',hj⟩)
   |lst c l=>
    simp only[aU,aD,mem_map]at hr';obtain⟨z,_,rfl⟩:=hr';rw[acN]at hj;simp at hj
   |map kc vc l=>
    simp only[aU,mem_map]at hr';obtain⟨z,_,rfl⟩:=hr';simp only[bg,Cq,append_nil]at hj;simp at hj
  ·intro j hj;have:=(Rx (ds:=Rp g.outP g.outO (tQ _ rr))).1 j hj;exact nmok _ (all_eq_true.1 n5 j (xD g.outP _ j this))
 have flat:g.flat=true->flatG (qf (g.outs rr)) (den (g.res rr)):=by
  intro hf;simp only[GSig.flat,and_eq_true]at hf;have hc:(tQ (varsS (zipS 0 g.outP)++varsO g.outO) rr).map (·.c)=varsL g.outP++varsO g.outO:=(abp _ rr).trans (by rw[Ma]);refine⟨(Rx (ds:=Rp g.outP g.outO (tQ _ rr))).2 ?_,?_⟩
  ·refine (Ba (ol:=_) g.outP _ [] ?_ hf.1).1;rw[append_nil,map_take,hc,List.take_left]
  ·intro q hq r' hr';simp only[qf,mem_map]at hq;obtain⟨p,hp,rfl⟩:=hq;exact s3 (by rw[map_drop,hc,List.drop_left]) hf.2 p hp r' hr'
 have lids:QU (bS (ids++m.vr) (dL get)) (aP first++aP args++aP caps) ids m.vr bs:=by
  refine⟨hv,fun j hj hn=>?_,fun j hs' q o e1 e2 e3 z hz hn=>?_⟩
  ·rw[<- fq,<- fq,eG]at hj;rcases rA j hj with ⟨q,hq⟩ |hj
   ·exact absurd (List.mem_of_getElem? (hi _ hq)) hn
   ·exact hj
  ·rcases rB j hs' q o e1 e2 e3 z hz with ⟨q',hq⟩ |hz
   ·exact absurd (List.mem_of_getElem? (hi _ hq)) hn
   ·exact hz
 refine⟨.callg ids m.vr bs hs (qf (g.outs rr)) (den (g.res rr)) g.flat,ids++m.vr,_,_,_,
  ⟨rnA (cn i ids) (den (g.res rr)),WN i ids (qf (g.outs rr))++(if g.flat then []else m.vr.map fun k=>(k,none)),obs++mo++[FnG P F (aP ds') (xs.map fun p=>aU p.2) (qf (g.outs rr)) (den (g.res rr)),U5 ids.length (qf (g.outs rr)) (den (g.res rr)),QU (bS (ids++m.vr) (dL get)) (aP first++aP args++aP caps) ids m.vr bs]++(if g.flat then [flatG (qf (g.outs rr)) (den (g.res rr))]else [])⟩,?_,?_,(y9 _ _).symm,?_,?_,h⟩
 ·simp only[den,iw,JF,qB,qA0,bind_some];rw[if_pos ⟨hnd,by omega⟩]
 ·refine oD _ (eu (eu (eu pA pB) ?_) ?_)
  ·intro z hz;simp only[mem_cons,List.not_mem_nil,or_false]at hz;rcases hz with rfl |rfl |rfl
   ·exact hcon
   ·exact good
   ·exact lids
  ·intro z hz;cases hf:g.flat with
   |true=>rw[hf]at hz;simp only[if_true,mem_singleton]at hz;subst hz;exact flat hf
   |false=>rw[hf]at hz;simp at hz
 ·simp only[pI,adt];congr 1;cases g.flat with
  |true=>rfl
  |false=>exact (AY m.vr).symm
 ·intro p hp;refine .inr ?_;rcases mem_append.1 hp with hp |hp
  ·exact mem_append_left _ (mem_append_right _ (mem_map.2 ⟨p,hp,rfl⟩))
  ·cases hf:g.flat with
   |true=>rw[hf]at hp;simp at hp
   |false=>
    rw[hf]at hp;simp only[Bool.false_eq_true,if_false,mem_map]at hp;obtain⟨z,hz,rfl⟩:=hp;exact mem_append_right _ hz
end
section
variable {X:SX} {A:Type}
def Ry:RT X.ι->Bool
 | .d c=>vK c
 | .fresh e=>vK e
 | .whole _=>true
 | .mu c=>vK c
 | .mr c=>vK c
 | .mv=>true
theorem Y7 {c:CT X.ι} (h:vK c=true) (x:CT.T X.toSE c):(CT.tv X.toSE c x).flat:=by
 cases c
 case st i=>exact rG h x
 all_goals first |exact trivial |cases h
theorem Rz {ns:List Nat} {q:RT X.ι} {x:RT.T X q} (h:Ry q=true):∀ c∈Rq ns q x,c.flat:=by
 intro c hc;cases q<;>simp only[Rq,mem_singleton,List.not_mem_nil]at hc
 case d c=>subst hc;exact Y7 h x
 case fresh e=>
  subst hc;intro row hr;obtain⟨y,_,rfl⟩:=mem_map.1 hr;exact rG h y
 case whole j=>subst hc;exact trivial
theorem Og {ns:List Nat}:∀ {l:List (RT X.ι)} {x:p9 X l},l.all Ry=true->∀ c∈zO ns l x,c.flat
 |[],x,_,c,hc=>by simp[zO]at hc
 |[q],x,h,c,hc=>Rz (by simpa using h) c hc
 |q::q'::l,x,h,c,hc=>by
  simp only[all_cons,and_eq_true]at h;simp only[zO,mem_append]at hc;rcases hc with hc |hc
  ·exact Rz h.1 c hc
  ·exact Og (by simp only[all_cons,and_eq_true];exact h.2) c hc
theorem RA {l:List (RT X.ι)} (x:p9 X l) (h:l.all Ry=true):(qg l x).flat:=by
 have:=Og (ns:=Xe l x) (x:=x) h;unfold qg;split
 ·rename_i c hc;exact this c (by rw[hc];simp)
 ·exact this
theorem Vu {q:RT X.ι} {x:RT.T X q} (h:Ry q=true):QJ (nL q x):=by
 intro p hp;cases q<;>simp only[nL,mem_singleton,List.not_mem_nil,Option.some.injEq,reduceCtorEq]at hp
 case mu c=>
  subst hp;intro r hr;obtain⟨y,_,rfl⟩:=mem_map.1 hr;exact rG h y
 case mr c=>
  subst hp;intro r hr;obtain⟨y,_,rfl⟩:=mem_map.1 hr;exact rG h y
theorem Vv:∀ {l:List (RT X.ι)} {x:p9 X l},l.all Ry=true->QJ (kR l x)
 |[],x,_=>fun p hp=>by simp[kR]at hp
 |[q],x,h=>Vu (q:=q) (by simpa using h)
 |q::q'::l,x,h=>by
  simp only[all_cons,and_eq_true]at h;intro p hp;rcases mem_append.1 (show some p∈nL q x.1++kR (q'::l) x.2 from hp)with hp |hp
  ·exact Vu h.1 p hp
  ·exact Vv (l:=q'::l) (by simp only[all_cons,and_eq_true];exact h.2) p hp
def EG (i:Nat) (ids ns:List Nat):(q:RT X.ι)->RT.T X q->List (DV X)×List (Nat×Option (DObj X))
 | .d c,x=>([.c c x],[])
 | .fresh e,l=>([.own (nid i) 0 l.length],[(nid i,some (.lst e l))])
 | .whole j,_=>([match ids[j]? with |some k=> .own k 0 (ns.getD j 0) |none=> .undef],[])
 |_,_=>([],[])
def HV (i:Nat) (ids ns:List Nat):(l:List (RT X.ι))->p9 X l->Option (List (DV X)×List (Nat×Option (DObj X)))
 |[],_=>some ([],[])
 |[q],x=>some (EG i ids ns q x)
 |q::q'::l,x=>(HV i ids ns (q'::l) x.2).bind fun p=>if (EG i ids ns q x.1).2.isEmpty || p.2.isEmpty then some ((EG i ids ns q x.1).1++p.1,(EG i ids ns q x.1).2++p.2)else none
def ah0:List (DV X)->DV X
 |[d]=>d
 |ds=> .tup ds
def adu (i:Nat) (ids:List Nat) (l:List (RT X.ι)) (x:p9 X l):Option (DV X×List (Nat×Option (DObj X))):=
 (HV i ids (Xe l x) l x).bind fun p=>some (ah0 p.1,p.2)
theorem Xk (u:List (Nat×Option (DObj X))):(fw u).isEmpty=u.isEmpty:=by cases u<;>rfl
theorem Vw (i:Nat) (ids ns:List Nat) (q:RT X.ι) (x:RT.T X q):(∃ c,Rq ns q x=[c]∧∃ d,(EG i ids ns q x).1=[d]∧GA i ids c=(den d,fw (EG i ids ns q x).2))∨(Rq ns q x=[]∧EG i ids ns q x=([],[])):=by
 cases q
 case d c=>exact .inl ⟨_,rfl,_,rfl,rfl⟩
 case fresh e=>exact .inl ⟨_,rfl,_,rfl,by simp[GA,EG,den,fw,aU,aD]⟩
 case whole j=>
  refine .inl ⟨_,rfl,_,rfl,?_⟩;simp only[GA,fw,EG,map_nil,Prod.mk.injEq,and_true];cases ids[j]?<;>rfl
 all_goals exact .inr ⟨rfl,rfl⟩
theorem Y8 (i:Nat) (ids:List Nat) (c:RC):JA i ids [c]=some ([(GA i ids c).1],(GA i ids c).2):=by simp[JA]
theorem Vx (i:Nat) (ids ns:List Nat):∀ (l:List (RT X.ι)) (x:p9 X l) (p:List (DV X)×List (Nat×Option (DObj X))),HV i ids ns l x=some p->JA i ids (zO ns l x)=some (aP p.1,fw p.2)
 |[],_,p,h=>by simp only[HV,Option.some.injEq]at h;subst h;rfl
 |[q],x,p,h=>by
  simp only[HV,Option.some.injEq]at h;subst h;simp only[zO];rcases Vw i ids ns q x with ⟨c,h1,d,h2,h3⟩ |⟨h1,h2⟩
  ·rw[h1,Y8,h2,h3];simp[aP]
  ·rw[h1,h2];rfl
 |q::q'::l,x,p,h=>by
  simp only[HV]at h;rw[ai]at h;obtain⟨p',h1,h⟩:=h;have ih:=Vx i ids ns (q'::l) x.2 p' h1;split at h
  ·rename_i hc;injection h with h;subst h;simp only[zO];rcases Vw i ids ns q x.1 with ⟨c,h1,d,h2,h3⟩ |⟨h1,h2⟩
   ·rw[h1];simp only[List.singleton_append,JA,ih,bind_some,h3,Xk];rw[if_pos hc,h2];simp[aP,fw]
   ·rw[h1,h2];simp only[nil_append];exact ih
  ·cases h
theorem Y9 {i:Nat} {ids:List Nat} {l:List (RT X.ι)} {x:p9 X l} {p:DV X×List (Nat×Option (DObj X))} (h:adu i ids l x=some p):imp i ids (qg l x)=some (den p.1,fw p.2):=by
 unfold adu at h;rw[ai]at h;obtain⟨p',h1,h⟩:=h;injection h with h;subst h;have ih:=Vx i ids _ l x p' h1;unfold qg;split
 ·rename_i c hc;rw[hc,Y8]at ih;simp only[Option.some.injEq,Prod.mk.injEq]at ih;obtain⟨ds,u⟩:=p'
  match ds,ih with
  |[d],ih=>
   simp only[aP,List.cons.injEq,and_true]at ih;simp only[imp,ah0,<- ih.1,<- ih.2]
  |[],ih=>simp[aP]at ih
  |_::_::_,ih=>simp[aP]at ih
 ·rename_i hne;simp only[imp,ih,bind_some];obtain⟨ds,u⟩:=p'
  match ds,ih with
  |[],_=>rfl
  |_::_::_,_=>rfl
  |[d],ih=>
   exfalso;generalize hcs:zO (Xe l x) l x=cs at ih hne
   match cs,ih,hne with
   |[],ih,_=>simp[JA,aP]at ih
   |[c],_,hne=>exact hne c rfl
   |c::c'::cs,ih,_=>
    simp only[JA]at ih;cases h3:JA i ids cs with
    |none=>rw[h3]at ih;simp at ih
    |some q=>
     rw[h3]at ih;simp only[bind_some]at ih;split at ih
     ·simp only[bind_some]at ih;split at ih
      ·simp[aP]at ih
      ·cases ih
     ·simp at ih
def agl:(q:RT X.ι)->RT.T X q->List (Option (DObj X))
 | .mu c,x=>[some (.lst c x)]
 | .mr c,x=>[some (.cells (CT.sz X c) [xh c x])]
 | .mv,_=>[none]
 |_,_=>[]
def RB:(l:List (RT X.ι))->p9 X l->List (Option (DObj X))
 |[],_=>[]
 |[q],x=>agl q x
 |q::q'::l,x=>agl q x.1++RB (q'::l) x.2
def EH:List Nat->List (Option (DObj X))->List (Nat×Option (DObj X))
 |k::ids,p::os=>(k,p)::EH ids os
 |_,_=>[]
theorem Za (q:RT X.ι) (x:RT.T X q):(agl q x).map (·.map aU)=(nL q x).map (·.map aob):=by
 cases q<;>try rfl
 case mr c=>simp only[agl,nL,map_cons,map_nil,Option.map_some,aU,aob,oO,aD,oN]
theorem Mi:∀ (l:List (RT X.ι)) (x:p9 X l),(RB l x).map (·.map aU)=(kR l x).map (·.map aob)
 |[],_=>rfl
 |[q],x=>Za q x
 |q::q'::l,x=>by simp only[RB,kR,map_append,Za,Mi (q'::l) x.2]
theorem Vy:∀ (ids:List Nat) (os:List (Option (DObj X))) (os':List (Option dG)),os.map (·.map aU)=os'.map (·.map aob)->fw (EH ids os)=zI ids os'
 |[],_,_,_=>by simp[EH,zI,fw]
 |_::_,[],[],_=>rfl
 |k::ids,p::os,p'::os',h=>by
  simp only[map_cons,List.cons.injEq]at h;have:=Vy ids os os' h.2;simp only[fw]at this;simp only[EH,zI,fw,map_cons,h.1,this]
 |_::_,[],_::_,h=>by simp at h
 |_::_,_::_,[],h=>by simp at h
theorem Iq:∀ {ids:List Nat} {os:List (Option (DObj X))} {p:Nat×Option (DObj X)},p∈EH ids os->p.1∈ids
 |[],_,_,h=>by simp[EH]at h
 |_::_,[],_,h=>by simp[EH]at h
 |k::ids,q::os,p,h=>by
  simp only[EH,mem_cons]at h;rcases h with rfl |h
  ·simp
  ·exact mem_cons_of_mem _ (Iq h)
def Xl (get:Nat->Option (DObj X)) (d:DV X) (c:CT X.ι):Option (List (CT.T X.toSE c)×Nat×List Bool):=
 match d with
 | .own k 0 len=>(get k).bind fun o=>match o with
  | .lst b l=>(iy (.sl b) (.sl c) l).bind fun (l:List (CT.T X.toSE c))=>some (l,k,[eqL len (List.length l)])
  |_=>none
 |_=>none
def RD (get:Nat->Option (DObj X)) (d:DV X) (c:CT X.ι):Option (CT.T X.toSE c×Nat):=
 match d with
 | .ptr k 0 0=>(get k).bind fun o=>match o with
  | .cells sz [row]=>if sz=CT.sz X c then (JS c row).bind fun x=>some (x,k)else none
  |_=>none
 |_=>none
def lT (Γ:FuncId->Option (Sig X)) (get:Nat->Option (DObj X)):List (DV X)->(l:List (AT X.ι))->Option (fP X l×List Nat×List Bool)
 |[],[]=>some ((),[],[])
 |d::ds,.mut c::l=>(Xl get d c).bind fun x=>(lT Γ get ds l).bind fun h=>some ((x.1,h.1),x.2.1::h.2.1,x.2.2++h.2.2)
 |d::ds,.mref c::l=>(RD get d c).bind fun x=>(lT Γ get ds l).bind fun h=>some ((x.1,h.1),x.2::h.2.1,h.2.2)
 |d::ds,.d c::l=>(Od Γ get 3 [d] [.d c]).bind fun x=>(lT Γ get ds l).bind fun h=>some ((x.1.1,h.1),h.2.1,x.2++h.2.2)
 |d::ds,.ref c::l=>(Od Γ get 3 [d] [.ref c]).bind fun x=>(lT Γ get ds l).bind fun h=>some ((x.1.1,h.1),h.2.1,x.2++h.2.2)
 |d::ds,.clo as r::l=>(Od Γ get 3 [d] [.clo as r]).bind fun x=>(lT Γ get ds l).bind fun h=>some ((x.1.1,h.1),h.2.1,x.2++h.2.2)
 |d::ds,.nil::l=>match d with
  | .nil=>(lT Γ get ds l).bind fun h=>some (((),h.1),h.2.1,h.2.2)
  |_=>none
 |_,_=>none
def Gl:List (DV X)->List (AT X.ι)->List Nat
 |d::ds,a::l=>(if a.im then []else drefs d)++Gl ds l
 |_,_=>[]
def Mj (get:Nat->Option (DObj X)):List (DV X)->(l:List (CT X.ι))->Option (HL X.toSE l×List Bool)
 |[],[]=>some ((),[])
 |d::ds,c::l=>(DI get d c).bind fun x=>(Mj get ds l).bind fun h=>some ((x.1,h.1),x.2++h.2)
 |_,_=>none
variable (Γ:FuncId->Option (Sig X))
def aeY (i:Nat) (f:DV X) (args:List (DV X)) (get:Nat->Option (DObj X)) (k:KK X A):Option A:=
 match f with
 | .fn F first caps=>(Γ F).bind fun s=>match s.gen with
  |some g=>abo g i (first++args++caps) get k
  |none=>if (s.args.all (fun q=>q.pl)&&s.res.all (fun q=>!q.out))=true then (Od Γ get 3 (first++args++caps) s.args).bind fun a=>Rb a.2 ((s.fn a.1).bind fun x=>(adu i [] s.res x).bind fun p=>
   if s.res.all Ry then k p.1 p.2 (aG (first++args++caps)) []
   else k p.1 (p.2++JX (aG (first++args++caps))) (aG (first++args++caps)) (aG (first++args++caps)))
  else (lT Γ get (first++args++caps) s.args).bind fun a=>Rb a.2.2 ((s.fn a.1).bind fun x=>(adu i a.2.1 s.res x).bind fun p=>
   if (decide a.2.1.Nodup&&(Gl (first++args++caps) s.args).all (fun j=>!a.2.1.contains j)&&decide ((RB s.res x).length=a.2.1.length))=true then
    if s.res.all Ry then k p.1 (p.2++EH a.2.1 (RB s.res x)) (aG (first++args++caps)) a.2.1
    else k p.1 (p.2++(EH a.2.1 (RB s.res x)++JX ((aG (first++args++caps)).filter fun j=>!a.2.1.contains j))) (aG (first++args++caps)) (a.2.1++(aG (first++args++caps)).filter fun j=>!a.2.1.contains j)
   else none)
 | .clo as q φ=>(Mj get args as).bind fun h=>Rb h.2 ((φ h.1).bind fun y=>
  if vK q then k (.c q y) [] (aG args) []else k (.c q y) (JX (aG args)) (aG args) (aG args))
 |_=>none
def abq (fz:List Nat) (T:Tab) (code:TypeId->Option (CT X.ι)) (i:Nat) (o:Op) (ρ:Operand->DV X) (get:Nat->Option (DObj X)) (k:KK X A):Option A:=
 match o with
 | .call { callee:= .value f,args:=args,argTypes:=_ }=>aeY Γ i (ρ f) (args.toList.map ρ) get k
 |o=>if ahX o ρ then aho T code i o ρ get k else if ahY o ρ || fz.contains i then ahp T code i o ρ get k else if ahZ T o ρ then ahq T code o ρ get k else opD T code i o ρ get k
variable {Γ}
theorem JZ {P:Program} {get:Nat->Option (DObj X)} {rd:List Nat}:∀ {ds:List (DV X)} {l:List (CT X.ι)} {h:HL X.toSE l×List Bool},Mj get ds l=some h->(∀ b∈h.2,b=true)->(∀ j∈aG ds,j∈rd)->
 ∃ hs obs,(∀ p∈obs,p)∧∀ rest,j3 P (bS rd (dL get)) (aP ds) (hs++rest)=some ((HL.tvs X.toSE l h.1).map TV.av,rest,obs)
 |[],[],h,_,_,_=>⟨[],[],by simp,fun rest=>rfl⟩
 |d::ds,c::l,h,hr,hc,hrd=>by
  simp only[Mj]at hr;rw[ai]at hr;obtain⟨x,h1,hr⟩:=hr;rw[ai]at hr;obtain⟨g,h2,hr⟩:=hr;injection hr with hr;subst hr;obtain⟨hs1,o1,p1,q1⟩:=y8 (P:=P) (rd:=rd) h1 (fun b hb=>hc b (by simp[hb])) (fun j hj=>hrd j (by simp[aG,hj]));obtain⟨hs2,o2,p2,q2⟩:=JZ (P:=P) (rd:=rd) h2 (fun b hb=>hc b (by simp[hb])) (fun j hj=>hrd j (by simp[aG,hj]));refine⟨hs1++hs2,o1++o2,eu p1 p2,fun rest=>?_⟩;simp only[aP,j3,append_assoc,q1,bind_some,q2];rfl
 |[],_::_,_,hr,_,_=>by simp[Mj]at hr
 |_::_,[],_,hr,_,_=>by simp[Mj]at hr
theorem RF {i:Nat} {ids ns:List Nat} {q:RT X.ι} {x:RT.T X q}:∀ p∈(EG i ids ns q x).2,p.1=nid i:=by cases q<;>simp[EG]
theorem RG {i:Nat} {ids ns:List Nat}:∀ {l:List (RT X.ι)} {x:p9 X l} {p:List (DV X)×List (Nat×Option (DObj X))},HV i ids ns l x=some p->∀ q∈p.2,q.1=nid i
 |[],_,p,h=>by simp only[HV,Option.some.injEq]at h;subst h;simp
 |[q],x,p,h=>by simp only[HV,Option.some.injEq]at h;subst h;exact RF
 |q::q'::l,x,p,h=>by
  simp only[HV]at h;rw[ai]at h;obtain⟨p',h1,h⟩:=h;split at h
  ·injection h with h;subst h;intro z hz;rcases mem_append.1 hz with hz |hz
   ·exact RF z hz
   ·exact RG h1 z hz
  ·cases h
theorem Vz {i:Nat} {ids:List Nat} {l:List (RT X.ι)} {x:p9 X l} {p:DV X×List (Nat×Option (DObj X))} (h:adu i ids l x=some p):∀ q∈p.2,q.1=nid i:=by
 unfold adu at h;rw[ai]at h;obtain⟨p',h1,h⟩:=h;injection h with h;subst h;exact RG h1
theorem EI {P:Program} {get:Nat->Option aF} {x:AV} {hs rest:List LH} {y:AV} {o:List Prop} (h:j3 P get [x] hs=some ([y],rest,o)):lN P get x hs=some (y,rest,o):=by
 simp only[j3,bind_some,append_nil,ai,Option.some.injEq,Prod.mk.injEq,List.cons.injEq,and_true]at h;obtain⟨q,h1,h2,h3,h4⟩:=h;rw[h1,<- h2,<- h3,<- h4]
theorem iV {d:DV X} {ds:List (DV X)} {a:AT X.ι} {l:List (AT X.ι)} {P:Nat->Prop} (h:∀ j∈Gl (d::ds) (a::l),P j):(a.im=false->∀ j∈drefs d,P j)∧∀ j∈Gl ds l,P j:=by
 simp only[Gl,mem_append]at h;exact⟨fun e j hj=>h j (.inl (by rw[e];simpa using hj)),fun j hj=>h j (.inr hj)⟩
theorem ahr {c:CT X.ι} {l:List (CT.T X.toSE c)}:bR ((aD (l.map (CT.row X.toSE c))).take (l.map (CT.row X.toSE c)).length)=aD (l.map (CT.row X.toSE c)):=by
 rw[List.take_of_length_le (by simp[aD])];simp only[bR,aD,map_map];exact map_congr_left fun y _=>by
  simp only[Function.comp,map_map];exact map_congr_left fun z _=>rfl
theorem UC {get:Nat->Option (DObj X)} {d:DV X} {c:CT X.ι} {x:List (CT.T X.toSE c)×Nat×List Bool} (h:Xl get d c=some x) (hc:∀ b∈x.2.2,b=true):
 d= .own x.2.1 0 (List.length x.1)∧∃ o,get x.2.1=some o∧(aU o).sz=(oO c x.1).1∧bR ((aU o).rows.take (oO c x.1).2.length)=aD (oO c x.1).2:=by
 unfold Xl at h;split at h
 ·rename_i k len;rw[ai]at h;obtain⟨o,h1,h⟩:=h;split at h
  ·rename_i b l;rw[ai]at h;obtain⟨l',h2,h⟩:=h;injection h with h;subst h;obtain⟨h3,h4⟩:=iO h2;have h5:len=List.length l':=(by simpa[eqL]using hc (eqL len (List.length l')) (by simp));refine⟨by rw[h5],.lst b l,h1,by simp only[aU,oO];exact h3,?_⟩;simp only[aU,oO,h4];exact ahr
  ·cases h
 ·cases h
theorem RH {get:Nat->Option (DObj X)} {d:DV X} {c:CT X.ι} {x:CT.T X.toSE c×Nat} (h:RD get d c=some x):
 d= .ptr x.2 0 0∧∃ o,get x.2=some o∧(aU o).sz=(oO c [x.1]).1∧bR ((aU o).rows.take (oO c [x.1]).2.length)=aD (oO c [x.1]).2:=by
 unfold RD at h;split at h
 ·rename_i k;rw[ai]at h;obtain⟨o,h1,h⟩:=h;split at h
  ·rename_i sz row;split at h
   ·rename_i hsz;rw[ai]at h;obtain⟨y,h2,h⟩:=h;injection h with h;subst h;refine⟨rfl,_,h1,by simp only[aU,oO];exact hsz,?_⟩;simp only[aU,oO,map_cons,map_nil,List.length_singleton,List.take_succ_cons,List.take_zero,bR,aD];rw[wS h2]
   ·cases h
  ·cases h
 ·cases h
theorem kz {P:Program} {Γ:FuncId->Option (Sig X)} (hΓ:GOk P Γ) {get:Nat->Option (DObj X)} {rd ids:List Nat}:∀ {n:Nat} {ds:List (DV X)} {l:List (AT X.ι)} {a:fP X l×List Nat×List Bool},lT Γ get ds l=some a->(∀ b∈a.2.2,b=true)->(∀ j∈aG ds,j∈rd)->(∀ j∈Gl ds l,j∉ids)->ids.drop n=a.2.1->
 (∃ hs obs,(∀ p∈obs,p)∧∀ rest,kg P (bS rd (dL get)) ids (aP ds) (hs++rest)=some (bT n l a.1,rest,obs))∧∃ mo,zH (bS rd (dL get)) a.2.1 (nK l a.1)=some mo∧∀ p∈mo,p
 |n,[],[],a,h,_,_,_,_=>by
  simp only[lT,Option.some.injEq]at h;subst h;exact⟨⟨[],[],by simp,fun rest=>rfl⟩,[],rfl,by simp⟩
 |n,d::ds,.mut c::l,a,h,hc,hrd,hnr,hid=>by
  simp only[lT]at h;rw[ai]at h;obtain⟨x,h1,h⟩:=h;rw[ai]at h;obtain⟨q,h2,h⟩:=h;injection h with h;subst h;obtain⟨rfl,o,g1,g2,g3⟩:=UC h1 (fun b hb=>hc b (by simp[hb]));have hidn:ids[n]? =some x.2.1:=by rw[<- List.head?_drop,hid];rfl
  have hid':ids.drop (n+1)=q.2.1:=by rw[<- List.tail_drop,hid];rfl
  obtain⟨⟨hs,obs,p1,p2⟩,mo,m1,m2⟩:=kz hΓ (n:=n+1) h2 (fun b hb=>hc b (by simp[hb])) (fun j hj=>hrd j (by simp[aG,hj])) (iV hnr).2 hid';refine⟨⟨.mut n::hs,obs,p1,fun rest=>?_⟩,((aU o).sz=(oO c x.1).1∧bR ((aU o).rows.take (oO c x.1).2.length)=aD (oO c x.1).2)::mo,?_,?_⟩
  ·simp only[aP,den,kg,cons_append,uU,hidn,if_true,bind_some,p2,bT,nil_append]
  ·simp only[nK,zH,dK (hrd x.2.1 (by simp[aG,drefs])) g1,bind_some,m1]
  ·intro p hp;rcases mem_cons.1 hp with rfl |hp
   ·exact⟨g2,g3⟩
   ·exact m2 p hp
 |n,d::ds,.mref c::l,a,h,hc,hrd,hnr,hid=>by
  simp only[lT]at h;rw[ai]at h;obtain⟨x,h1,h⟩:=h;rw[ai]at h;obtain⟨q,h2,h⟩:=h;injection h with h;subst h;obtain⟨rfl,o,g1,g2,g3⟩:=RH h1;have hidn:ids[n]? =some x.2:=by rw[<- List.head?_drop,hid];rfl
  have hid':ids.drop (n+1)=q.2.1:=by rw[<- List.tail_drop,hid];rfl
  obtain⟨⟨hs,obs,p1,p2⟩,mo,m1,m2⟩:=kz hΓ (n:=n+1) h2 (fun b hb=>hc b (by simp[hb])) (fun j hj=>hrd j (by simp[aG,hj])) (iV hnr).2 hid';refine⟨⟨.mut n::hs,obs,p1,fun rest=>?_⟩,((aU o).sz=(oO c [x.1]).1∧bR ((aU o).rows.take (oO c [x.1]).2.length)=aD (oO c [x.1]).2)::mo,?_,?_⟩
  ·simp only[aP,den,kg,cons_append,uU,hidn,if_true,bind_some,p2,bT,nil_append]
  ·simp only[nK,zH,dK (hrd x.2 (by simp[aG,drefs])) g1,bind_some,m1]
  ·intro p hp;rcases mem_cons.1 hp with rfl |hp
   ·exact⟨g2,g3⟩
   ·exact m2 p hp
 |n,d::ds,.d c::l,a,h,hc,hrd,hnr,hid=>by
  simp only[lT]at h;rw[ai]at h;obtain⟨x,h1,h⟩:=h;rw[ai]at h;obtain⟨q,h2,h⟩:=h;injection h with h;subst h;obtain⟨hs1,o1,p1,q1⟩:=pG (P:=P) hΓ 3 (n:=n) h1 (fun b hb=>hc b (by simp[hb])) (rd:=rd) (fun j hj=>hrd j (by simp only[aG,append_nil]at hj;simp[aG,hj]));obtain⟨⟨hs,obs,p2,q2⟩,mo,m1,m2⟩:=kz hΓ (n:=n) h2 (fun b hb=>hc b (by simp[hb])) (fun j hj=>hrd j (by simp[aG,hj])) (iV hnr).2 hid;refine⟨⟨hs1++hs,o1++obs,eu p1 p2,fun rest=>?_⟩,mo,m1,m2⟩;have:=wT (EI (q1 (hs++rest))) (fun k hk=>(iV hnr).1 rfl k (by rwa [fF]at hk));simp only[aP,kg,append_assoc,this,bind_some,q2,bT]
 |n,d::ds,.ref c::l,a,h,hc,hrd,hnr,hid=>by
  simp only[lT]at h;rw[ai]at h;obtain⟨x,h1,h⟩:=h;rw[ai]at h;obtain⟨q,h2,h⟩:=h;injection h with h;subst h;obtain⟨hs1,o1,p1,q1⟩:=pG (P:=P) hΓ 3 (n:=n) h1 (fun b hb=>hc b (by simp[hb])) (rd:=rd) (fun j hj=>hrd j (by simp only[aG,append_nil]at hj;simp[aG,hj]));obtain⟨⟨hs,obs,p2,q2⟩,mo,m1,m2⟩:=kz hΓ (n:=n) h2 (fun b hb=>hc b (by simp[hb])) (fun j hj=>hrd j (by simp[aG,hj])) (iV hnr).2 hid;refine⟨⟨hs1++hs,o1++obs,eu p1 p2,fun rest=>?_⟩,mo,m1,m2⟩;have:=wT (EI (q1 (hs++rest))) (fun k hk=>(iV hnr).1 rfl k (by rwa [fF]at hk));simp only[aP,kg,append_assoc,this,bind_some,q2,bT]
 |n,d::ds,.clo as r::l,a,h,hc,hrd,hnr,hid=>by
  simp only[lT]at h;rw[ai]at h;obtain⟨x,h1,h⟩:=h;rw[ai]at h;obtain⟨q,h2,h⟩:=h;injection h with h;subst h;obtain⟨hs1,o1,p1,q1⟩:=pG (P:=P) hΓ 3 (n:=n) h1 (fun b hb=>hc b (by simp[hb])) (rd:=rd) (fun j hj=>hrd j (by simp only[aG,append_nil]at hj;simp[aG,hj]));obtain⟨⟨hs,obs,p2,q2⟩,mo,m1,m2⟩:=kz hΓ (n:=n) h2 (fun b hb=>hc b (by simp[hb])) (fun j hj=>hrd j (by simp[aG,hj])) (iV hnr).2 hid;refine⟨⟨hs1++hs,o1++obs,eu p1 p2,fun rest=>?_⟩,mo,m1,m2⟩;have:=wT (EI (q1 (hs++rest))) (fun k hk=>(iV hnr).1 rfl k (by rwa [fF]at hk));simp only[aP,kg,append_assoc,this,bind_some,q2,bT]
 |n,d::ds,.nil::l,a,h,hc,hrd,hnr,hid=>by
  simp only[lT]at h;split at h
  ·rw[ai]at h;obtain⟨q,h2,h⟩:=h;injection h with h;subst h;obtain⟨⟨hs,obs,p2,q2⟩,mo,m1,m2⟩:=kz hΓ (n:=n) h2 hc (fun j hj=>hrd j (by simp[aG,hj])) (iV hnr).2 hid;refine⟨⟨.nil::hs,obs,p2,fun rest=>?_⟩,mo,m1,m2⟩;have:=wT (P:=P) (get':=bS rd (dL get)) (ids:=ids) (x:= .nilsl) (hs:= .nil::(hs++rest)) (p:=(.nilsl,hs++rest,[])) rfl (fun k hk=>by simp[refs]at hk);simp only[aP,den,kg,cons_append,this,bind_some,q2,bT,nil_append]
  ·cases h
 |_,[],_::_,_,h,_,_,_,_=>by simp[lT]at h
 |_,_::_,[],_,h,_,_,_,_=>by simp[lT]at h
theorem Zb {P:Program} (hΓ:GOk P Γ) {i:Nat} {f:DV X} {args:List (DV X)} {get:Nat->Option (DObj X)} {k:KK X A} {r:A} (h:aeY Γ i f args get k=some r):
 ∃ orc rd wr dv upd out,iw P i (den f) (aP args) orc (bS rd (dL get))=some out∧fJ out.obs∧out.v=den dv∧out.upd=fw upd∧(∀ p∈upd,p.1=nid i∨p.1∈wr)∧k dv upd rd wr=some r:=by
 unfold aeY at h;split at h
 ·rename_i F first caps
  rw[ai]at h;obtain⟨s,h1,h⟩:=h;split at h
  ·rename_i g hgen;exact Xj ((hΓ F s h1).2.2 g hgen) h
  split at h
  ·rename_i hpure;rw[ai]at h;obtain⟨⟨a,cs⟩,h2,h⟩:=h;obtain⟨hcs,h⟩:=mG h;rw[ai]at h;obtain⟨x,h3,h⟩:=h;rw[ai]at h;obtain⟨p,h4,h⟩:=h;have hf0:=(hΓ F s h1).2.1 a x h3;simp only[and_eq_true]at hpure;rw[xA (ahU hpure.1),YT hpure.2]at hf0;have hf:=Q9 hf0;have hi:=Y9 h4;have hk:=Vz h4;obtain⟨hs,obs,g1,g2⟩:=pG (P:=P) hΓ 3 h2 hcs (rd:=aG (first++args++caps)) (fun j hj=>hj);have g3:=g2 [];rw[append_nil,fq,fq]at g3;have hrefs:bg (aP first++aP args++aP caps)=aG (first++args++caps):=(by rw[<- fq,<- fq,eG]);split at h
   ·rename_i hfl;refine⟨.call hs (qg s.res x) true,_,[],p.1,p.2,⟨den p.1,fw p.2,obs++[FnP P F (xw s.args a) (qg s.res x),(qg s.res x).flat]⟩,?_,?_,rfl,rfl,fun q hq=> .inl (hk q hq),h⟩
    ·simp only[den,iw,lQ,vP,hi,bind_some,g3];rfl
    ·exact oD _ (eu g1 (by
      intro q hq;simp only[mem_cons,List.not_mem_nil,or_false]at hq;rcases hq with rfl |rfl
      ·exact hf
      ·exact RA x hfl))
   ·refine⟨.call hs (qg s.res x) false,_,_,p.1,_,⟨den p.1,fw p.2++(aG (first++args++caps)).map (fun k=>(k,none)),obs++[FnP P F (xw s.args a) (qg s.res x)]⟩,?_,?_,rfl,?_,?_,h⟩
    ·simp only[den,iw,lQ,vP,hi,bind_some,g3,hrefs];rfl
    ·exact oD _ (eu g1 (by
      intro q hq;simp only[mem_singleton]at hq;subst hq;exact hf))
    ·simp only[pI,AY]
    ·intro q hq;rcases mem_append.1 hq with hq |hq
     ·exact .inl (hk q hq)
     ·exact .inr (Gj hq)
  ·rename_i hpure;rw[ai]at h;obtain⟨⟨a,ids,cs⟩,h2,h⟩:=h;obtain⟨hcs,h⟩:=mG h;rw[ai]at h;obtain⟨x,h3,h⟩:=h;rw[ai]at h;obtain⟨p,h4,h⟩:=h;split at h
   ·rename_i hc;simp only[and_eq_true,decide_eq_true_eq]at hc;obtain⟨⟨hnd,hnr⟩,hlen⟩:=hc;have hf:=(hΓ F s h1).2.1 a x h3;have hi:=Y9 h4;have hk:=Vz h4;obtain⟨⟨hs,obs,g1,g2⟩,mo,m1,m2⟩:=kz (P:=P) hΓ (rd:=aG (first++args++caps)) (ids:=ids) (n:=0) h2 hcs (fun j hj=>hj) (fun j hj=>by simpa using all_eq_true.1 hnr j hj) rfl;have g3:=g2 [];rw[append_nil,fq,fq]at g3;have hrefs:bg (aP first++aP args++aP caps)=aG (first++args++caps):=(by rw[<- fq,<- fq,eG]);have hlen':(kR s.res x).length=ids.length:=by
     rw[<- hlen];simpa using (congrArg List.length (Mi s.res x)).symm
    have hout:fw (EH ids (RB s.res x))=zI ids (kR s.res x):=Vy _ _ _ (Mi s.res x);split at h
    ·rename_i hfl;refine⟨.callw ids (nK s.args a) (kR s.res x) hs (qg s.res x) true,_,ids,p.1,_,⟨den p.1,fw p.2++zI ids (kR s.res x),obs++mo++[FnW P F (xw s.args a) (nK s.args a) (kR s.res x) (qg s.res x),(qg s.res x).flat,QJ (kR s.res x)]⟩,?_,?_,rfl,?_,?_,h⟩
     ·simp only[den,iw,lQ,Er,hi,bind_some,m1,g3];rw[if_pos ⟨hnd,hlen'⟩];rfl
     ·refine oD _ (eu (eu g1 m2) ?_);intro q hq;simp only[mem_cons,List.not_mem_nil,or_false]at hq;rcases hq with rfl |rfl |rfl
      ·exact hf
      ·exact RA x hfl
      ·exact Vv hfl
     ·simp only[pI,hout]
     ·intro q hq;rcases mem_append.1 hq with hq |hq
      ·exact .inl (hk q hq)
      ·exact .inr (Iq hq)
    ·refine⟨.callw ids (nK s.args a) (kR s.res x) hs (qg s.res x) false,_,_,p.1,_,⟨den p.1,fw p.2++(zI ids (kR s.res x)++((aG (first++args++caps)).filter fun j=>!ids.contains j).map (fun k=>(k,none))),obs++mo++[FnW P F (xw s.args a) (nK s.args a) (kR s.res x) (qg s.res x)]⟩,?_,?_,rfl,?_,?_,h⟩
     ·simp only[den,iw,lQ,Er,hi,bind_some,m1,g3,Ep,hrefs];rw[if_pos ⟨hnd,hlen'⟩];rfl
     ·refine oD _ (eu (eu g1 m2) ?_);intro q hq;simp only[mem_singleton]at hq;subst hq;exact hf
     ·simp only[pI,hout,AY]
     ·intro q hq;rcases mem_append.1 hq with hq |hq
      ·exact .inl (hk q hq)
      ·rcases mem_append.1 hq with hq |hq
       ·exact .inr (mem_append_left _ (Iq hq))
       ·exact .inr (mem_append_right _ (Gj hq))
   ·cases h
 ·rename_i as q φ;rw[ai]at h;obtain⟨⟨hh,cs⟩,h1,h⟩:=h;obtain⟨hcs,h⟩:=mG h;rw[ai]at h;obtain⟨y,h2,h⟩:=h;obtain⟨hs,obs,g1,g2⟩:=JZ (P:=P) h1 hcs (rd:=aG args) (fun j hj=>hj);have g3:=g2 [];rw[append_nil]at g3;have hφ:∃ h' x',φ h'=some x'∧HL.tvs X.toSE as hh=HL.tvs X.toSE as h'∧CT.tv X.toSE q y=CT.tv X.toSE q x':=⟨hh,y,h2,rfl,rfl⟩;split at h
  ·rename_i hfl;refine⟨.cclo hs (HL.tvs X.toSE as hh) (CT.tv X.toSE q y) true,_,[],.c q y,[],⟨(CT.tv X.toSE q y).av,[],obs++[(HL.tvs X.toSE as hh).map TV.av=(HL.tvs X.toSE as hh).map TV.av,(∃ h' x',φ h'=some x'∧HL.tvs X.toSE as hh=HL.tvs X.toSE as h'∧CT.tv X.toSE q y=CT.tv X.toSE q x'),(CT.tv X.toSE q y).flat]⟩,?_,?_,rfl,rfl,by simp,h⟩
   ·simp only[den,iw,lQ,vP,g3,bind_some];rfl
   ·exact oD _ (eu g1 (by
     intro z hz;simp only[mem_cons,List.not_mem_nil,or_false]at hz;rcases hz with rfl |rfl |rfl
     ·trivial
     ·exact hφ
     ·exact Y7 hfl y))
  ·refine⟨.cclo hs (HL.tvs X.toSE as hh) (CT.tv X.toSE q y) false,_,_,.c q y,_,⟨(CT.tv X.toSE q y).av,(aG args).map (fun k=>(k,none)),obs++[(HL.tvs X.toSE as hh).map TV.av=(HL.tvs X.toSE as hh).map TV.av,(∃ h' x',φ h'=some x'∧HL.tvs X.toSE as hh=HL.tvs X.toSE as h'∧CT.tv X.toSE q y=CT.tv X.toSE q x')]⟩,?_,?_,rfl,(AY _).symm,fun z hz=> .inr (Gj hz),h⟩
   ·simp only[den,iw,lQ,vP,g3,bind_some,eG];rfl
   ·exact oD _ (eu g1 (by
     intro z hz;simp only[mem_cons,List.not_mem_nil,or_false]at hz;rcases hz with rfl |rfl
     ·trivial
     ·exact hφ))
 ·cases h
theorem abr {P:Program} (hΓ:GOk P Γ) {fz:List Nat} {T:Tab} {code:TypeId->Option (CT X.ι)} {i:Nat} {o:Oper} {ρ:Operand->DV X} {get:Nat->Option (DObj X)} {k:KK X A} {r:A} (h:abq Γ fz T code i o.op ρ get k=some r):SdAny P T i o ρ get k r:=by
 obtain⟨dst,op,ty,pos,after,guard⟩:=o;unfold abq at h;simp only at h;split at h
 ·rename_i f args tys;have:=Zb hΓ h;simp only[<- Qb]at this;obtain⟨orc,rd,wr,dv,upd,out,g1,g2⟩:=this;exact .call g1 g2
 ·split at h
  ·exact abk (o:=⟨dst,op,ty,pos,after,guard⟩) h
  ·split at h
   ·exact abl (o:=⟨dst,op,ty,pos,after,guard⟩) h
   ·split at h
    ·exact abm (o:=⟨dst,op,ty,pos,after,guard⟩) h
    ·rename_i hne _ _ _;obtain⟨orc,rd,wr,dv,upd,out,g1,g2⟩:=Vl (o:=⟨dst,op,ty,pos,after,guard⟩) h;exact SdAny.op (fun f args tys e=>hne f args tys e) g1 g2
end
def Wkn (x y:AV):Prop:=∀ P β w I v,VR P β w I x v->VR P β w I y v
theorem Wkn.refl (x:AV):Wkn x x:=fun _ _ _ _ _ h=>h
theorem Wkn.undef (x:AV):Wkn x .undef:=fun _ _ _ _ _ _=>by simp[VR]
theorem Wkn.wk (x:AV):Wkn x (wk x):=fun _ _ _ _ _ h=>h.wk
section
variable {P:Program} {w0:World} {O0:Was} {N:Nat} {β:Nat->Option Blk} {I:Nat->Prop} {a:Act} {w:World} {f g:Nat->Nat} {D:Nat->Prop}
mutual
theorem VR.rn (hgf:∀ k,D k->g (f k)=k):∀ (x:AV) (v:Value),(∀ k∈refs x,D k)->VR P β w I x v->VR P (fun j=>β (g j)) w I (rnA f x) v
 | .own k off len,v,hd,h=>by simp only[rnA,VR,hgf k (hd k (by simp[refs]))]at h ⊢;exact h
 | .ptr k row off,v,hd,h=>by simp only[rnA,VR,hgf k (hd k (by simp[refs]))]at h ⊢;exact h
 | .agg cs,v,hd,h=>by
  simp only[rnA,VR]at h ⊢;obtain⟨vs,h1,h2⟩:=h;exact⟨vs,h1,VRl.rn hgf cs _ (by simpa[refs]using hd) h2⟩
 | .tup cs,v,hd,h=>by
  simp only[rnA,VR]at h ⊢;obtain⟨vs,h1,h2⟩:=h;exact⟨vs,h1,VRl.rn hgf cs _ (by simpa[refs]using hd) h2⟩
 | .fn F first caps,v,hd,h=>by
  simp only[rnA,VR]at h ⊢;obtain⟨fs,cs,h1,h2,h3⟩:=h;exact⟨fs,cs,h1,VRl.rn hgf first _ (fun k hk=>hd k (by simp[refs,hk])) h2,VRl.rn hgf caps _ (fun k hk=>hd k (by simp[refs,hk])) h3⟩
 | .t x,v,_,h=>by simpa[rnA,VR]using h
 | .rptr r o,v,_,h=>by simpa[rnA,VR]using h
 | .clo φ,v,_,h=>by simpa[rnA,VR]using h
 | .mp k,v,hd,h=>by simp only[rnA,VR,hgf k (hd k (by simp[refs]))]at h ⊢;exact h
 | .nilsl,v,_,h=>by simpa[rnA,VR]using h
 | .ub,v,_,h=>by simpa[rnA,VR]using h
 | .undef,v,_,h=>by simp[rnA,VR]
theorem VRl.rn (hgf:∀ k,D k->g (f k)=k):∀ (xs:List AV) (vs:List Value),(∀ k∈bg xs,D k)->VRl P β w I xs vs->VRl P (fun j=>β (g j)) w I (qd f xs) vs
 |[],[],_,_=>by simp[qd,VRl]
 |x::xs,v::vs,hd,h=>by
  simp only[VRl]at h;simp only[qd,VRl];exact⟨VR.rn hgf x v (fun k hk=>hd k (by simp[bg,hk])) h.1,VRl.rn hgf xs vs (fun k hk=>hd k (by simp[bg,hk])) h.2⟩
 |[],_::_,_,h=>by simp[VRl]at h
 |_::_,[],_,h=>by simp[VRl]at h
end
def RowW (D:Nat->Prop) (f:Nat->Nat):List AV->List AV->Prop
 |[],[]=>True
 |x::xs,y::ys=>((∀ k∈refs x,D k)∧Wkn (rnA f x) y)∧RowW D f xs ys
 |_,_=>False
def RowsW (D:Nat->Prop) (f:Nat->Nat):List (List AV)->List (List AV)->Prop
 |[],[]=>True
 |r::rs,q::qs=>RowW D f r q∧RowsW D f rs qs
 |_,_=>False
theorem RowW.length:∀ {r q:List AV},RowW D f r q->q.length=r.length
 |[],[],_=>rfl
 |_::xs,_::ys,h=>by simp[RowW.length h.2]
 |[],_::_,h=>h.elim
 |_::_,[],h=>h.elim
theorem ORow.re (hgf:∀ k,D k->g (f k)=k):∀ {r q:List AV} {c:Array Value} {off:Nat},RowW D f r q->ORow P β w I r c off->ORow P (fun j=>β (g j)) w I q c off
 |[],[],_,_,_,_=>trivial
 |x::xs,y::ys,c,off,hr,⟨⟨v,h1,h2,h3⟩,h4⟩=>⟨⟨v,h1,hr.1.2 _ _ _ _ _ (VR.rn hgf x v hr.1.1 h2),h3⟩,ORow.re hgf hr.2 h4⟩
 |[],_::_,_,_,h,_=>h.elim
 |_::_,[],_,_,h,_=>h.elim
theorem ORows.re (hgf:∀ k,D k->g (f k)=k):∀ {rs qs:List (List AV)} {c:Array Value} {off sz:Nat},RowsW D f rs qs->ORows P β w I rs c off sz->ORows P (fun j=>β (g j)) w I qs c off sz
 |[],[],_,_,_,_,_=>trivial
 |r::rs,q::qs,c,off,sz,hr,⟨h1,h2,h3⟩=>⟨by rw[hr.1.length];exact h1,ORow.re hgf hr.1 h2,ORows.re hgf hr.2 h3⟩
 |[],_::_,_,_,_,h,_=>h.elim
 |_::_,[],_,_,_,h,_=>h.elim
theorem VRl.re (hgf:∀ k,D k->g (f k)=k):∀ {r q:List AV} {vs:List Value},RowW D f r q->VRl P β w I r vs->VRl P (fun j=>β (g j)) w I q vs
 |[],[],[],_,_=>by simp[VRl]
 |x::xs,y::ys,v::vs,hr,h=>by
  simp only[VRl]at h ⊢;exact⟨hr.1.2 _ _ _ _ _ (VR.rn hgf x v hr.1.1 h.1),VRl.re hgf hr.2 h.2⟩
 |[],_::_,_,h,_=>h.elim
 |_::_,[],_,h,_=>h.elim
 |[],[],_::_,_,h=>by simp[VRl]at h
 |_::_,_::_,[],_,h=>by simp[VRl]at h
theorem MRows.re (hgf:∀ k,D k->g (f k)=k):∀ {rs qs:List (List AV)} {es:List MapEntry},RowsW D f rs qs->MRows P β w I rs es->MRows P (fun j=>β (g j)) w I qs es
 |[],[],[],_,_=>trivial
 |r::rs,q::qs,_::es,hr,⟨h1,h2⟩=>⟨VRl.re hgf hr.1 h1,MRows.re hgf hr.2 h2⟩
 |[],_::_,_,h,_=>h.elim
 |_::_,[],_,h,_=>h.elim
 |[],[],_::_,_,h=>h.elim
 |_::_,_::_,[],_,h=>h.elim
theorem RowsW.length:∀ {rs qs:List (List AV)},RowsW D f rs qs->qs.length=rs.length
 |[],[],_=>rfl
 |_::xs,_::ys,h=>by simp[RowsW.length h.2]
 |[],_::_,h=>h.elim
 |_::_,[],h=>h.elim
theorem Rel.re {s s':St} (hgf:∀ k,D k->g (f k)=k) (hg:∀ j,j < 1000->g j=j) (hr:Rel P w0 O0 N β I s a w) (hok:∀ t,s.ok t=none∨s'.env t= .undef) (hok':∀ t,s'.ok t=none)
 (hE:∀ t,s'.env t= .undef∨((∀ k∈refs (s.env t),D k)∧Wkn (rnA f (s.env t)) (s'.env t)))
 (hO:∀ j o',s'.obj j=some o'->∃ k o,s.obj k=some o∧D k∧f k=j∧o'.sz=o.sz∧RowsW D f o.rows o'.rows):Rel P w0 O0 N (fun j=>β (g j)) I s' a w:=by
 refine⟨hr.defers,hr.size,fun t=>?_,?_⟩
 ·have h1:=hr.env t;rw[hok' t];rcases hok t with hk |h
  rotate_left
  ·rw[h];simp[SlotR,VR]
  rw[hk]at h1;rcases hE t with h |⟨h2,h3⟩
  ·rw[h];simp[SlotR,VR]
  ·exact h3 _ _ _ _ _ (VR.rn hgf _ _ h2 h1)
 ·have hm:=hr.mem;constructor
  ·intro j o' hj;obtain⟨k,o,h1,h2,rfl,h4,h5⟩:=hO j o' hj;obtain⟨B,hB,hOR⟩:=hm.objs k o h1;refine⟨B,by simp only[hgf k h2];exact hB,?_⟩;cases B with
   |none=>
    simp only[OR]at hOR ⊢;rw[hOR]at h5;cases ho:o'.rows with
    |nil=>rfl
    |cons=>rw[ho]at h5;exact h5.elim
   | «at» b sz n=>
    obtain⟨g1,c,e,g2,g3,g4⟩:=hOR;exact⟨by rw[g1,h4],c,e,g2,g3,ORows.re hgf h5 g4⟩
   |mp b=>
    obtain⟨es,cl,g1,gl,g2,g3⟩:=hOR;have hl:=h5.length;exact⟨es,cl,g1,by omega,fun e=>MRows.re hgf h5 (g2 (by omega)),g3⟩
  ·intro j j' o o' B B' b h1 h2 h3 h4 h5 h6;obtain⟨k,q,i1,i2,rfl,_⟩:=hO j o h1;obtain⟨k',q',i1',i2',rfl,_⟩:=hO j' o' h2;simp only[hgf k i2,hgf k' i2']at h3 h4;rw[hm.injB k k' q q' B B' b i1 i1' h3 h4 h5 h6]
  ·intro j o B b h1 h2;obtain⟨k,q,i1,i2,rfl,_⟩:=hO j o h1;simp only[hgf k i2]at h2;exact hm.ownB k q B b i1 h2
  ·exact hm.lt
  ·exact hm.up
  ·exact hm.keep
  ·exact hm.le
  ·exact hm.os
  ·exact hm.tape
  ·exact hm.output
  ·intro j B hj;show β (g j)=some B;rw[hg j (O0.lt j B hj)];exact hm.anch j B hj
  ·exact hm.vars
end
section
variable {X:SX}
theorem Zc {D:Nat->Prop} (f:Nat->Nat):∀ r:List (DV X),(∀ k∈aG r,D k)->RowW D f (aP r) (aP (GH f r))
 |[],_=>trivial
 |x::xs,h=>⟨⟨fun k hk=>h k (by rw[fF]at hk;simp[aG,hk]),by rw[y9];exact Wkn.refl _⟩,Zc f xs fun k hk=>h k (by simp[aG,hk])⟩
theorem Gm {D:Nat->Prop} (f:Nat->Nat) (o:DObj X) (h:∀ k∈orefs o,D k):(aU (rnO f o)).sz=(aU o).sz∧RowsW D f (aU o).rows (aU (rnO f o)).rows:=by
 cases o with
 |cells sz rows=>
  refine⟨rfl,?_⟩;simp only[aU,rnO,map_map];simp only[orefs]at h
  induction rows with
  |nil=>trivial
  |cons r rs ih=>
   refine⟨Zc f r fun k hk=>h k (by simp[hk]),ih fun k hk=>h k ?_⟩;simp only[map_cons,flatten_cons,mem_append];exact .inr hk
 |lst c l=>
  refine⟨rfl,?_⟩;simp only[aU,rnO];generalize l.map (CT.row X.toSE c)=rows;have hrow:∀ r:List Tree,RowW D f (r.map AV.t) (r.map AV.t):=by
   intro r
   induction r with
   |nil=>trivial
   |cons y ys ih=>exact⟨⟨by simp[refs],Wkn.refl _⟩,ih⟩
  induction rows with
  |nil=>trivial
  |cons r rs ih=>exact⟨hrow r,ih⟩
 |map kc vc l=>
  refine⟨rfl,?_⟩;simp only[aU,rnO];clear h
  induction l with
  |nil=>trivial
  |cons p ps ih=>exact⟨⟨⟨by simp[Cq],by rw[Rw];exact Wkn.refl _⟩,⟨by simp[Cq],by rw[Rw];exact Wkn.refl _⟩,trivial⟩,ih⟩
structure Low (s:DSt X):Prop where
 le:s.nx<=1000000
 ge:1000<=s.nx
 env:∀ t,∀ k∈drefs (lke s.env t),k < s.nx
 obj:∀ k o,lko s.obj k=some o->k < s.nx∧∀ j∈orefs o,j < s.nx
theorem RI {o:DObj X} {r:List AV} {x:AV} (hr:r∈(aU o).rows) (hx:x∈r):∀ j∈refs x,j∈orefs o:=by
 intro j hj;cases o with
 |cells sz rows=>
  simp only[aU,mem_map]at hr;obtain⟨q,hq,rfl⟩:=hr;rw[kQ,mem_map]at hx;obtain⟨d,hd,rfl⟩:=hx;simp only[orefs,List.mem_flatten,mem_map];refine⟨_,⟨q,hq,rfl⟩,?_⟩;have:∀ l:List (DV X),d∈l->j∈aG l:=by
   intro l
   induction l with
   |nil=>intro h;simp at h
   |cons y ys ih=>intro h;rcases mem_cons.1 h with rfl |h
                  ·simp only[aG,mem_append];left;rwa [fF]at hj
                  ·simp only[aG,mem_append];exact .inr (ih h)
  exact this q hd
 |lst c l=>
  simp only[aU,aD,mem_map]at hr;obtain⟨q,_,rfl⟩:=hr;simp only[mem_map]at hx;obtain⟨t,_,rfl⟩:=hx;simp[refs]at hj
 |map kc vc l=>
  simp only[aU,mem_map]at hr;obtain⟨q,_,rfl⟩:=hr;simp only[mem_cons,List.not_mem_nil,or_false]at hx;rcases hx with rfl |rfl<;>simp[Cq]at hj
theorem Low.old {s:DSt X} (h:Low s):Old s.st:=by
 have hle:=h.le;constructor
 ·intro t k hk;have:=h.env t k (by rw[<- fF];exact hk);omega
 ·intro k o hk;simp only[DSt.st,Option.map_eq_some_iff]at hk;obtain⟨o',h1,rfl⟩:=hk;obtain⟨h2,h3⟩:=h.obj k o' h1;refine⟨by omega,fun r hr x hx j hj=>?_⟩;have:=h3 j (RI hr hx j hj);omega
end
section
variable {X:SX} {A:Type}
def lkE (e b:List (Nat×DV X)) (t:Nat):DV X:=match lk e t with |some x=>x |none=>lke b t
def lkO (o b:List (Nat×Option (DObj X))) (k:Nat):Option (DObj X):=match lk o k with |some x=>x |none=>lko b k
def yB (dst:Option Tmp) (dv:DV X) (e:List (Nat×DV X)):List (Nat×DV X):=match dst with |some t=>(t,dv)::e |none=>e
def RJ:DV X->DV X
 | .skip=> .undef
 |x=>x
def HY (e:List (Nat×DV X)):Operand->Bool
 | .tmp t=>match lk e t with |some .skip=>false |_=>true
 |_=>true
def Oh (e b:List (Nat×DV X)) (o:Op):Bool:=
 match o with
 | .pick c x y=>HY e c&&((HY e x&&HY e y) || match Ra (lkE e b) c with | .c .bool t=>bif t then HY e x else HY e y |_=>false)
 |o=>o.operands.toList.all (HY e)
abbrev Fps:=List (Nat×List Nat×List Nat)
section
variable (Γ:FuncId->Option (Sig X)) (fz:List Nat) (T:Tab) (code:TypeId->Option (CT X.ι)) (ops:Array Oper) (b:DSt X)
def xG (k:List (Nat×DV X)->List (Nat×Option (DObj X))->Fps->Option A):List Nat->List (Nat×DV X)->List (Nat×Option (DObj X))->Fps->Option A
 |[],e,o,fps=>k e o fps
 |i::r,e,o,fps=>(ops[i]?).bind fun op=>match op.guard with
  |none=>bif Oh e b.env op.op then abq Γ fz T code i op.op (Ra (lkE e b.env)) (lkO o b.obj) fun dv upd rd wr=>xG k r (yB op.dst (RJ dv) e) (upd++o) ((i,rd,wr)::fps)else none
  |some (j,p)=>((ops[j]?).bind (·.dst)).bind fun t=>match lkE e b.env t with
   | .c .bool v=>
    bif v then (bif p then (bif Oh ((t,.c .bool true)::e) b.env op.op then abq Γ fz T code i op.op (Ra (lkE ((t,.c .bool true)::e) b.env)) (lkO o b.obj) fun dv upd rd wr=>xG k r (yB op.dst (RJ dv) ((t,.c .bool true)::e)) (upd++o) ((i,rd,wr)::fps)else none)
     else xG k r (yB op.dst .skip ((t,.c .bool true)::e)) o ((i,[],[])::fps))
    else (bif p then xG k r (yB op.dst .skip ((t,.c .bool false)::e)) o ((i,[],[])::fps)
     else (bif Oh ((t,.c .bool false)::e) b.env op.op then abq Γ fz T code i op.op (Ra (lkE ((t,.c .bool false)::e) b.env)) (lkO o b.obj) fun dv upd rd wr=>xG k r (yB op.dst (RJ dv) ((t,.c .bool false)::e)) (upd++o) ((i,rd,wr)::fps)else none))
   | .skip=>bif (lk e t).isSome then xG k r (yB op.dst .skip e) o ((i,[],[])::fps)else none
   |_=>none
end
def fe (b:DSt X) (e:List (Nat×DV X)) (o:List (Nat×Option (DObj X))):St:=⟨fun t=>den (lkE e b.env t),fun k=>(lkO o b.obj k).map aU,fun t=>match lk e t with |some .skip=>some false |_=>none⟩
theorem adv (x:DV X):den (RJ x)=den x:=by cases x<;>rfl
theorem aeZ (b:DSt X) (e:List (Nat×DV X)) (o:List (Nat×Option (DObj X))) (dst:Option Tmp) (dv:DV X) (upd:List (Nat×Option (DObj X))) (obs:List Prop):
 (fe b e o).app dst (⟨den dv,fw upd,obs⟩,none)=fe b (yB dst (RJ dv) e) (upd++o):=by
 simp only[fe,St.app,St.mk.injEq];refine⟨?_,?_,?_⟩
 ·funext t;cases dst with
  |none=>simp[uV,yB]
  |some d=>
   simp only[uV,yB,lkE,lk,Option.some.injEq];by_cases h:d=t<;>simp[h,adv]
 ·funext j
  induction upd with
  |nil=>rfl
  |cons p u ih=>
   obtain⟨q,x⟩:=p;simp only[fw,map_cons,bA,cons_append,lkO,lk]at ih ⊢;by_cases h:j=q
   ·simp[h]
   ·rw[if_neg h,if_neg (Ne.symm h)];exact ih
 ·funext t;cases dst with
  |none=>simp[uV,yB]
  |some d=>
   simp only[uV,yB,lk,Option.some.injEq];by_cases h:d=t
   ·simp only[h,if_true];cases dv<;>rfl
   ·simp only[if_neg h]
theorem adw (b:DSt X) (e:List (Nat×DV X)) (o:List (Nat×Option (DObj X))) (dst:Option Tmp):(fe b e o).app dst (⟨.undef,[],[]⟩,some false)=fe b (yB dst .skip e) o:=by
 simp only[fe,St.app,St.mk.injEq];refine⟨?_,rfl,?_⟩
 ·funext t;cases dst with
  |none=>simp[uV,yB]
  |some d=>
   simp only[uV,yB,lkE,lk,Option.some.injEq];by_cases h:d=t<;>simp[h,den]
 ·funext t;cases dst with
  |none=>simp[uV,yB]
  |some d=>
   simp only[uV,yB,lk,Option.some.injEq];by_cases h:d=t<;>simp[h]
theorem Zd (b:DSt X) (e:List (Nat×DV X)) (o:List (Nat×Option (DObj X))):opv (fe b e o).env=fun x=>den (Ra (lkE e b.env) x):=by funext x;exact (JP _ x).symm
theorem Bb {b:DSt X} {e:List (Nat×DV X)} {o:List (Nat×Option (DObj X))} {x:Operand} (h:HY e x=true):vJ (fe b e o).ok x=[]:=by
 cases x with
 |tmp t=>
  simp only[HY]at h;simp only[vJ,fe];cases ht:lk e t with
  |none=>rfl
  |some d=>rw[ht]at h;cases d<;>first |rfl |cases h
 |_=>rfl
theorem adx {b:DSt X} {e:List (Nat×DV X)} {o:List (Nat×Option (DObj X))} {P:Program} {T:Tab} {i:Nat} {op:Oper} {orc:Orc} {get:Nat->Option aF} {out:Out} (hok:Oh e b.env op.op=true)
 (h:gP P T i op orc (opv (fe b e o).env) get=some out):∀ p∈needs (fe b e o).env (fe b e o).ok op.op,p:=by
 obtain⟨dst,op,ty,pos,after,guard⟩:=op;unfold needs;split
 ·rename_i c x y heq;simp only at heq;subst heq;simp only[Oh,and_eq_true,Bool.or_eq_true]at hok;obtain⟨hc,hxy⟩:=hok;have hb:∃ t,opv (fe b e o).env c= .t (.sc (.bool t)):=by
   have h0:(∃ n,orc= .ext n)∨(∃ ids fr q,orc= .frz ids fr q)∨pE T i ⟨dst,.pick c x y,ty,pos,after,guard⟩ orc (opv (fe b e o).env) get=some out:=(by cases orc<;>first |exact .inl ⟨_,rfl⟩ |exact .inr (.inl ⟨_,_,_,rfl⟩) |exact .inr (.inr h));rcases h0 with ⟨n,rfl⟩ |⟨ids,fr,q,rfl⟩ |h0
   ·simp[gP,qc,aeA,ru]at h
   ·simp[gP,Es,aaT]at h
   ·simp only[pE]at h0;split at h0
    ·rename_i t ht;exact⟨t,ht⟩
    ·cases h0
  obtain⟨t,ht⟩:=hb;rw[ht];simp only[Bb hc,nil_append];rcases hxy with ⟨hx,hy⟩ |hxy
  ·simp[Bb hx,Bb hy]
  ·split at hxy
   ·rename_i t' ht';have e1:opv (fe b e o).env c= .t (.sc (.bool t')):=(by rw[Zd];simp only[ht'];rfl);rw[e1]at ht;injection ht with ht;injection ht with ht;injection ht with ht;subst ht;cases t' with
    |true=>
     simp only[cond_true]at hxy;simp[Bb hxy]
    |false=>
     simp only[cond_false]at hxy;simp[Bb hxy]
   ·cases hxy
 ·rename_i o' hne;intro p hp;have hall:∀ x∈op.operands.toList,HY e x=true:=by
   have:Oh e b.env op=op.operands.toList.all (HY e):=(by cases op<;>first |rfl |exact (hne _ _ _ rfl).elim);rw[this]at hok;exact all_eq_true.1 hok
  simp only[mem_flatMap]at hp;obtain⟨x,hx,hp⟩:=hp;rw[Bb (hall x hx)]at hp;simp at hp
theorem ae0 {a b:List Prop} (h:∀ p∈a,p) (h':fJ b):fJ (a++b):=oD _ (eu h (JI b h'))
variable {Γ:FuncId->Option (Sig X)} {fz:List Nat} {T:Tab} {code:TypeId->Option (CT X.ι)} {ops:Array Oper} {b:DSt X} {P:Program}
theorem ady (hΓ:GOk P Γ) {i:Nat} {op:Oper} {e:List (Nat×DV X)} {o:List (Nat×Option (DObj X))} {k:KK X A} {r:A} (hop:ops[i]? =some op) (hw:want ops op (fe b e o).env (fe b e o).ok=some true) (hok:Oh e b.env op.op=true)
 (h:abq Γ fz T code i op.op (Ra (lkE e b.env)) (lkO o b.obj) k=some r):
 ∃ (a:Ann) (dv:DV X) (upd:List (Nat×Option (DObj X))),a.sym=false∧k dv upd a.rd a.wr=some r∧∀ (ann:Nat->Ann) (K:St->Prop),ann i=a->K (fe b (yB op.dst (RJ dv) e) (upd++o))->eOp P T ops ann i K (fe b e o):=by
 obtain⟨orc,rd,wr,dv,upd,out,h1,h2,h3,h4,h5,h6⟩:=abr hΓ h;refine⟨⟨orc,rd,wr,false⟩,dv,upd,rfl,h6,fun ann K ha hK=>?_⟩;have h1':gP P T i op orc (opv (fe b e o).env) (bS rd (fe b e o).obj)=some out:=by rw[Zd];exact h1
 refine⟨op,(⟨out.v,out.upd,needs (fe b e o).env (fe b e o).ok op.op++out.obs⟩,none),hop,?_,?_,?_⟩
 ·unfold opAt;simp only[hop,bind_some,hw,ha,h1'];rw[if_pos];rw[all_eq_true];intro p hp;rw[h4]at hp;simp only[fw,mem_map]at hp;obtain⟨q,hq,rfl⟩:=hp;rcases h5 q hq with h |h
  ·simp[h,QS.2 (.inl rfl:ownN (nid i) (nid i))]
  ·simp[h]
 ·exact ae0 (adx hok h1') h2
 ·rw[h3,h4,aeZ];exact hK
theorem step_skip {i:Nat} {op:Oper} {e:List (Nat×DV X)} {o:List (Nat×Option (DObj X))} (hop:ops[i]? =some op) (hw:want ops op (fe b e o).env (fe b e o).ok=some false)
 (ann:Nat->Ann) (K:St->Prop) (ha:ann i=⟨.none,[],[],false⟩) (hK:K (fe b (yB op.dst .skip e) o)):eOp P T ops ann i K (fe b e o):=by
 refine⟨op,(⟨.undef,[],[]⟩,some false),hop,?_,trivial,?_⟩
 ·unfold opAt;simp only[hop,bind_some,hw,ha]
 ·rw[adw];exact hK
theorem abt {e:List (Nat×DV X)} {o:List (Nat×Option (DObj X))} {t:Nat} {v:Bool} (h:lkE e b.env t= .c .bool v):fe b ((t,.c .bool v)::e) o=fe b e o:=by
 simp only[fe,St.mk.injEq,true_and];refine⟨?_,?_⟩
 ·funext s;by_cases hs:t=s
  ·subst hs;rw[h];simp[lkE,lk]
  ·simp[lkE,lk,hs]
 ·funext s;by_cases hs:t=s
  ·subst hs;simp only[lk,if_true];unfold lkE at h;cases ht:lk e t with
   |none=>rfl
   |some d=>rw[ht]at h;simp only at h;subst h;rfl
  ·simp[lk,hs]
def GI (tr:List (Nat×Ann)):Fps:=tr.map fun p=>(p.1,p.2.rd,p.2.wr)
def Oi (ops:Array Oper) (t:Nat):Prop:=∃ (j:Nat) (op:Oper),ops[j]? =some op∧op.dst=some t
theorem Ze {dst:Option Tmp} {dv:DV X} {e:List (Nat×DV X)} {p:Nat×DV X} (h:p∈yB dst dv e):p∈e∨dst=some p.1:=by
 cases dst with
 |none=>exact .inl h
 |some t=>
  simp only[yB,mem_cons]at h;rcases h with rfl |h
  ·exact .inr rfl
  ·exact .inl h
theorem Ct (hΓ:GOk P Γ) {k:List (Nat×DV X)->List (Nat×Option (DObj X))->Fps->Option A} {r:A}:∀ (l:List Nat) (e:List (Nat×DV X)) (o:List (Nat×Option (DObj X))) (fps:Fps),xG Γ fz T code ops b k l e o fps=some r->
 ∃ (tr:List (Nat×Ann)) (e':List (Nat×DV X)) (o':List (Nat×Option (DObj X))),tr.map (·.1)=l∧k e' o' ((GI tr).reverse++fps)=some r∧(∀ p∈e',p∈e∨Oi ops p.1)∧
   ∀ ann:Nat->Ann,(∀ p∈tr,ann p.1=p.2)->LJ P T ops ann (fun σ=>σ=fe b e' o') l (fe b e o)
 |[],e,o,fps,h=>⟨[],e,o,rfl,h,fun _ hp=> .inl hp,fun _ _=>rfl⟩
 |i::l,e,o,fps,h=>by
  simp only[xG]at h;rw[ai]at h;obtain⟨op,hop,h⟩:=h
  have exec:∀ e:List (Nat×DV X),want ops op (fe b e o).env (fe b e o).ok=some true->
   (bif Oh e b.env op.op then abq Γ fz T code i op.op (Ra (lkE e b.env)) (lkO o b.obj) fun dv upd rd wr=>xG Γ fz T code ops b k l (yB op.dst (RJ dv) e) (upd++o) ((i,rd,wr)::fps)else none)=some r->
   ∃ (tr:List (Nat×Ann)) (e':List (Nat×DV X)) (o':List (Nat×Option (DObj X))),tr.map (·.1)=i::l∧k e' o' ((GI tr).reverse++fps)=some r∧(∀ p∈e',p∈e∨Oi ops p.1)∧
     ∀ ann:Nat->Ann,(∀ p∈tr,ann p.1=p.2)->LJ P T ops ann (fun σ=>σ=fe b e' o') (i::l) (fe b e o):=by
   intro e hw h;obtain⟨hok,h⟩:=dm h;obtain⟨a,dv,upd,_,h1,h2⟩:=ady hΓ hop hw hok h;obtain⟨tr,e',o',g1,g2,g4,g3⟩:=Ct hΓ l _ _ _ h1;refine⟨(i,a)::tr,e',o',by simp[g1],?_,fun p hp=>(g4 p hp).elim (fun hp=>(Ze hp).elim .inl fun hd=> .inr ⟨i,op,hop,hd⟩) .inr,fun ann ha=>?_⟩
   ·simpa[GI]using g2
   ·exact h2 ann _ (ha (i,a) (by simp)) (g3 ann fun p hp=>ha p (by simp[hp]))
  have skip:∀ e:List (Nat×DV X),want ops op (fe b e o).env (fe b e o).ok=some false->xG Γ fz T code ops b k l (yB op.dst .skip e) o ((i,[],[])::fps)=some r->
   ∃ (tr:List (Nat×Ann)) (e':List (Nat×DV X)) (o':List (Nat×Option (DObj X))),tr.map (·.1)=i::l∧k e' o' ((GI tr).reverse++fps)=some r∧(∀ p∈e',p∈e∨Oi ops p.1)∧
     ∀ ann:Nat->Ann,(∀ p∈tr,ann p.1=p.2)->LJ P T ops ann (fun σ=>σ=fe b e' o') (i::l) (fe b e o):=by
   intro e hw h;obtain⟨tr,e',o',g1,g2,g4,g3⟩:=Ct hΓ l _ _ _ h;refine⟨(i,⟨.none,[],[],false⟩)::tr,e',o',by simp[g1],?_,fun p hp=>(g4 p hp).elim (fun hp=>(Ze hp).elim .inl fun hd=> .inr ⟨i,op,hop,hd⟩) .inr,fun ann ha=>?_⟩
   ·simpa[GI]using g2
   ·exact step_skip hop hw ann _ (ha (i,_) (by simp)) (g3 ann fun p hp=>ha p (by simp[hp]))
  split at h
  ·rename_i hg;exact exec e (by simp[want,hg]) h
  ·rename_i j p hg;rw[ai]at h;obtain⟨t,ht,h⟩:=h;split at h
   ·rename_i v hv;have hw:∀ e:List (Nat×DV X),lkE e b.env t= .c .bool v->want ops op (fe b e o).env (fe b e o).ok=some (v==p):=by
     intro e he;simp only[want,hg,ht];have h0:(fe b e o).ok t=none:=by
      simp only[fe];unfold lkE at he;cases hq:lk e t with
      |none=>rfl
      |some d=>rw[hq]at he;simp only at he;subst he;rfl
     have h1:(fe b e o).env t= .t (.sc (.bool v)):=(by simp only[fe,he];rfl);rw[h0,h1]
    have hk:=abt (b:=b) (o:=o) hv;have hv':lkE ((t,.c .bool v)::e) b.env t= .c .bool v:=(by simp[lkE,lk]);have htd:Oi ops t:=by
     rw[ai]at ht;obtain⟨oj,h1,h2⟩:=ht;exact⟨j,oj,h1,h2⟩
    have wide:(∃ (tr:List (Nat×Ann)) (e':List (Nat×DV X)) (o':List (Nat×Option (DObj X))),tr.map (·.1)=i::l∧k e' o' ((GI tr).reverse++fps)=some r∧(∀ p∈e',p∈((t,.c .bool v)::e:List (Nat×DV X))∨Oi ops p.1)∧
     ∀ ann:Nat->Ann,(∀ p∈tr,ann p.1=p.2)->LJ P T ops ann (fun σ=>σ=fe b e' o') (i::l) (fe b ((t,.c .bool v)::e) o))->
     ∃ (tr:List (Nat×Ann)) (e':List (Nat×DV X)) (o':List (Nat×Option (DObj X))),tr.map (·.1)=i::l∧k e' o' ((GI tr).reverse++fps)=some r∧(∀ p∈e',p∈e∨Oi ops p.1)∧
     ∀ ann:Nat->Ann,(∀ p∈tr,ann p.1=p.2)->LJ P T ops ann (fun σ=>σ=fe b e' o') (i::l) (fe b e o):=by
     rintro⟨tr,e',o',g1,g2,g4,g3⟩;refine⟨tr,e',o',g1,g2,fun q hq=>?_,hk ▸ g3⟩;rcases g4 q hq with h |h
     ·rcases mem_cons.1 h with rfl |h
      ·exact .inr htd
      ·exact .inl h
     ·exact .inr h
    apply wide;cases v with
    |true=>
     simp only[cond_true]at h;cases p with
     |true=>exact exec _ (hw _ hv') h
     |false=>exact skip _ (hw _ hv') h
    |false=>
     simp only[cond_false]at h;cases p with
     |true=>exact skip _ (hw _ hv') h
     |false=>exact exec _ (hw _ hv') h
   ·rename_i hv;obtain⟨hsome,h⟩:=dm h;refine skip e ?_ h;simp only[want,hg,ht];have h1:(fe b e o).env t= .undef:=(by simp only[fe,hv];rfl);cases hq:lk e t with
    |some d=>
     have h0:(fe b e o).ok t=some false:=by
      unfold lkE at hv;rw[hq]at hv;simp only at hv;subst hv;simp only[fe,hq]
     rw[h0,h1]
    |none=>rw[hq]at hsome;cases hsome
   ·cases h
end
end Go.Gb
