/-
  The operations of the typed walk.
-/
import Derived.Test.YtgmmcfpjmkhmhaaXA
namespace Go.Gb
open Go.RowKit

/-- An element of a list by a number. -/
def at? {α : Type} (l : List α) (n : Int) : Option α := bif decide (0 ≤ n) then l[n.toNat]? else none
/-- An element of a part of a list that begins at 'off'. -/
def atO {α : Type} (l : List α) (off : Nat) (n : Int) : Option α := bif decide (0 ≤ n) then l[off + n.toNat]? else none
def sub {α : Type} (l : List α) (off len : Nat) : List α := (l.drop off).take len
def inb (n : Int) (len : Nat) : Bool := decide (0 ≤ n) && decide (n < (len : Int))
def letv {α β : Type} (a : α) (f : α → β) : β := f a
/-- Whether n more can be appended to a slice of 'len' that ends its object of 'lo' rows. -/
def appOk (lo len ln n bytes : Nat) : Bool := decide (lo = len) && decide (ln = n) && decide ((len + n) * bytes ≤ 140737488355328) && decide (len + n ≤ maxLen)
def eqL (a b : Nat) : Bool := decide (a = b)
def slOk (l h : Int) (len : Nat) : Bool := decide (0 ≤ l) && decide (l ≤ h) && decide (h ≤ (len : Int))

abbrev iN (n : Int) : Int := n
abbrev bN (b : Bool) : Bool := b

def chkA {A : Type} : List Bool → Option A → Option A
  | [], k => k
  | c :: cs, k => bif c then chkA cs k else none

section
variable {X : SX} {A : Type}

abbrev KK (X : SX) (A : Type) := DV X → List (Nat × Option (DObj X)) → List Nat → List Nat → Option A

def pickD (t : Bool) (x y : DV X) : DV X :=
  match x, y with
  | .c a p, .c b q => match decEq b a with
    | isTrue h => .c a (bif t then p else h ▸ q)
    | isFalse _ => bif t then .c a p else .c b q
  | x, y => bif t then x else y

def partD (agg : Bool) (size : Nat) (cs : List (DV X)) : Option (DV X) :=
  if cs.length = size then (if agg then some (.agg cs) else match cs with | [x] => if cellOkD x then some x else none | _ => none) else none

/-- A part of a row of data, whole if it is all of it. -/
def partW (agg : Bool) (size : Nat) (c : CT X.ι) (y : CT.T X.toSE c) (off : Nat) : Option (DV X) :=
  match c, y with
  | .st i, y => if off = 0 ∧ agg = true ∧ size = (X.tys i).length then some (.c (.st i) y) else partD agg size (((cellsC (.st i) y).drop off).take size)
  | c, y => partD agg size (((cellsC c y).drop off).take size)

/-- A cell, read as data. -/
def dat1 (d : DV X) (c : CT X.ι) : Option (CT.T X.toSE c) :=
  match d, c with
  | .c a x, c => castC a c x
  | .nil, .sl _ => some []
  | .nil, .any => some (.sl [])
  | _, _ => none

def readHL : List (DV X) → (l : List (CT X.ι)) → Option (HL X.toSE l)
  | [], [] => some ()
  | d :: ds, c :: l => (dat1 d c).bind fun x => (readHL ds l).bind fun h => some (x, h)
  | _, _ => none

def datS (d : DV X) (i : X.ι) : Option (CT.T X.toSE (.st i)) :=
  match d with
  | .agg cs => (readHL cs (X.tys i)).bind fun h => some (X.make i h)
  | .c a x => castC a (.st i) x
  | _ => none

/-- A value, read as data. -/
def dat (d : DV X) (c : CT X.ι) : Option (CT.T X.toSE c) :=
  match c with
  | .st i => datS d i
  | c => dat1 d c

def mk1 (c : CT X.ι) : List (DV X) → Option (CT.T X.toSE c)
  | [d] => dat1 d c
  | _ => none

def mkRow (c : CT X.ι) (ds : List (DV X)) : Option (CT.T X.toSE c) :=
  match c with
  | .st i => (readHL ds (X.tys i)).bind fun h => some (X.make i h)
  | c => mk1 c ds

def putD (r : List (DV X)) (off : Nat) (cs : List (DV X)) : List (DV X) := r.take off ++ cs ++ r.drop (off + cs.length)

variable (T : Tab) (code : TypeId → Option (CT X.ι))

def ldD (t : TypeId) (x : DV X) (get : Nat → Option (DObj X)) (k : KK X A) : Option A :=
  (T t).bind fun ti => match x with
  | .ptr kk row off => (get kk).bind fun o => match o with
    | .cells _ rows => (rows[row]?).bind fun r => (partD ti.agg ti.size ((r.drop off).take ti.size)).bind fun v => k v [] [kk] []
    | _ => none
  | .ptl kk n off => (get kk).bind fun o => match o with
    | .lst c l => (at? l n).bind fun y => (partW ti.agg ti.size c y off).bind fun v => k v [] [kk] []
    | _ => none
  | .rp c y off => (partW ti.agg ti.size c y off).bind fun v => k v [] [] []
  | _ => none

def stD (t : TypeId) (x y : DV X) (get : Nat → Option (DObj X)) (k : KK X A) : Option A :=
  (T t).bind fun ti => (cellsD y).bind fun cs => if cs.length = ti.size then match x with
  | .ptr kk row off => (get kk).bind fun o => match o with
    | .cells sz rows => (rows[row]?).bind fun r => if off + cs.length ≤ r.length then k .undef [(kk, some (.cells sz (rows.set row (putD r off cs))))] [kk] [kk] else none
    | _ => none
  | .ptl kk n off => (get kk).bind fun o => match o with
    | .lst c l => (at? l n).bind fun y => if off + cs.length ≤ CT.sz X c then (mkRow c (putD (cellsC c y) off cs)).bind fun z => k .undef [(kk, some (.lst c (l.set n.toNat z)))] [kk] [kk] else none
    | _ => none
  | _ => none else none

def fieldAddrD (t : TypeId) (x : DV X) (f : Nat) (k : KK X A) : Option A :=
  (fieldOf T t f).bind fun p => match x with
  | .ptr kk row off => k (.ptr kk row (off + p.1)) [] [] []
  | .ptl kk n off => k (.ptl kk n (off + p.1)) [] [] []
  | .rp c y off => k (.rp c y (off + p.1)) [] [] []
  | _ => none

def fieldD (t : TypeId) (x : DV X) (f : Nat) (k : KK X A) : Option A :=
  (fieldOf T t f).bind fun p => match x with
  | .agg cs => (partD p.2.agg p.2.size ((cs.drop p.1).take p.2.size)).bind fun v => k v [] [] []
  | .c (.st i) y => (partD p.2.agg p.2.size (((cellsC (.st i) y).drop p.1).take p.2.size)).bind fun v => k v [] [] []
  | _ => none

def indexAddrD (t : TypeId) (x j : DV X) (get : Nat → Option (DObj X)) (k : KK X A) : Option A :=
  (T t).bind fun ti => match ti.k, j with
  | .slice e, .c (.int _) n => (T e).bind fun ei => match x with
    | .c (.sl c) l => if CT.sz X c = ei.size then (at? l n).bind fun y => k (.rp c y 0) [] [] [] else none
    | .own kk off len => (get kk).bind fun o => match o with
      | .lst c _ => if CT.sz X c = ei.size then bif inb n len then k (.ptl kk ((off : Int) + iN n) 0) [] [kk] [] else none else none
      | .cells sz _ => if sz = ei.size then bif inb n len then k (.ptr kk (off + n.toNat) 0) [] [kk] [] else none else none
    | _ => none
  | .arr m e, .c (.int _) n => (T e).bind fun ei => bif inb n m then match x with
    | .ptr kk row off => k (.ptr kk row (off + n.toNat * ei.size)) [] [] []
    | .ptl kk r off => k (.ptl kk r (off + n.toNat * ei.size)) [] [] []
    | .rp c y off => k (.rp c y (off + n.toNat * ei.size)) [] [] []
    | _ => none
    else none
  | _, _ => none

def extractD (x : DV X) (j : Nat) (k : KK X A) : Option A :=
  match x with
  | .tup vs => (vs[j]?).bind fun v => k v [] [] []
  | _ => none

/-- A number and what must hold for it. -/
def arithD (op : BinOp) (kd : IntKind) (a b : Int) : (DV X) × Option Bool :=
  match op with
  | .add => (.c (.int kd) (kd.wrap (a + b)), none)
  | .sub => (.c (.int kd) (kd.wrap (a - b)), none)
  | .mul => (.c (.int kd) (kd.wrap (a * b)), none)
  | .quo => (.c (.int kd) (kd.wrap (a.tdiv b)), some (b != 0))
  | .rem => (.c (.int kd) (a.tmod b), some (b != 0))
  | .and => (.c (.int kd) (bits .and kd a b), none)
  | .or => (.c (.int kd) (bits .or kd a b), none)
  | .xor => (.c (.int kd) (bits .xor kd a b), none)
  | .andNot => (.c (.int kd) (bits .andNot kd a b), none)
  | .shl => (.c (.int kd) (kd.wrap (a * 2 ^ b.toNat)), some (decide (0 ≤ b) && decide (b ≤ kd.bits)))
  | .shr => (.c (.int kd) (a / 2 ^ b.toNat), some (decide (0 ≤ b) && decide (b ≤ kd.bits)))
  | .eql => (.c .bool (a == b), none)
  | .neq => (.c .bool (a != b), none)
  | .lss => (.c .bool (decide (a < b)), none)
  | .leq => (.c .bool (decide (a ≤ b)), none)
  | .gtr => (.c .bool (decide (a > b)), none)
  | .geq => (.c .bool (decide (a ≥ b)), none)

def cellEqD : Nat → DV X → DV X → Option Bool
  | 0, .c (.int j) a, .c (.int k) b => if j = k then some (iN a == iN b) else none
  | 1, .c .bool a, .c .bool b => some (bN a == bN b)
  | 2, .c .str a, .c .str b => some (a.toList == b.toList)
  | _, _, _ => none
def cellsEqD : List Nat → List (DV X) → List (DV X) → Option Bool
  | [], [], [] => some true
  | k :: ks, x :: xs, y :: ys => (cellEqD k x y).bind fun a => (cellsEqD ks xs ys).bind fun b => some (a && b)
  | _, _, _ => none

def aggD : DV X → Option (List (DV X))
  | .agg cs => some cs
  | .c (.st i) y => some (cellsC (.st i) y)
  | _ => none

def binD (op : BinOp) (t : TypeId) (x y : DV X) (k : KK X A) : Option A :=
  match x, y with
  | .c (.int kd) a, .c (.int yk) b => if kd = yk ∨ op = .shl ∨ op = .shr then match (arithD op kd a b : DV X × Option Bool).2 with
      | none => k (arithD op kd a b).1 [] [] []
      | some g => bif g then k (arithD op kd a b).1 [] [] [] else none
    else none
  | .c .str a, .c .str b => match op with
    | .eql => k (.c .bool (a.toList == b.toList)) [] [] []
    | .neq => k (.c .bool (!(a.toList == b.toList))) [] [] []
    | _ => none
  | .c .bool a, .c .bool b => (T t).bind fun ti => match ti.k, op with
    | .bool, .eql => k (.c .bool (bN a == bN b)) [] [] []
    | .bool, .neq => k (.c .bool (!(bN a == bN b))) [] [] []
    | _, _ => none
  | x, y => (aggD x).bind fun xs => (aggD y).bind fun ys => (T t).bind fun ti => if ti.cmp = [] then none else (cellsEqD ti.cmp xs ys).bind fun b => match op with
    | .eql => k (.c .bool b) [] [] []
    | .neq => k (.c .bool (!b)) [] [] []
    | _ => none

def unD (op : UnOp) (x : DV X) (k : KK X A) : Option A :=
  match op, x with
  | .not, .c .bool b => k (.c .bool (!b)) [] [] []
  | .neg, .c (.int kd) n => k (.c (.int kd) (kd.wrap (0 - iN n))) [] [] []
  | _, _ => none

def foldMmD (mx : Bool) (kd : IntKind) : Int → List (DV X) → Option Int
  | a, [] => some a
  | a, .c (.int k') b :: r => if k' = kd then foldMmD mx kd (if mx then max a b else min a b) r else none
  | _, _ => none

def mmD (mx : Bool) (args : List (DV X)) (k : KK X A) : Option A :=
  match args with
  | .c (.int kd) a :: r => (foldMmD mx kd a r).bind fun n => k (.c (.int kd) n) [] [] []
  | _ => none

def lenD (t : TypeId) (x : DV X) (k : KK X A) : Option A :=
  (T t).bind fun ti => match ti.k, x with
  | .slice _, .c (.sl _) l => k (.c (.int .i64) (l.length : Int)) [] [] []
  | .slice _, .own _ _ len => k (.c (.int .i64) (len : Int)) [] [] []
  | .slice _, .nil => k (.c (.int .i64) (0 : Int)) [] [] []
  | .str, .c .str s => k (.c (.int .i64) (s.size : Int)) [] [] []
  | _, _ => none

def fillD (place : Nat → Option (Nat × Nat)) : List (DV X) → List (Nat × DV X) → Option (List (DV X))
  | cells, [] => some cells
  | cells, (j, x) :: rest => (place j).bind fun p => (cellsD x).bind fun cs =>
      if cs.length = p.2 ∧ p.1 + cs.length ≤ cells.length then fillD place (putD cells p.1 cs) rest else none

def buildD (t : TypeId) (parts : List (Nat × DV X)) (k : KK X A) : Option A :=
  (T t).bind fun ti => match ti.k with
  | .struct fs => if fs.all (fun p => (T p.2).isSome) then
      (fillD (fun j => (fs[j]?).bind fun p => (T p.2).bind fun ui => some (p.1, ui.size)) (ti.zero.map cvD) parts).bind fun cells => k (.agg cells) [] [] [] else none
  | .arr _ e => (T e).bind fun ei => (fillD (fun j => some (j * ei.size, ei.size)) (ti.zero.map cvD) parts).bind fun cells => k (.agg cells) [] [] []
  | _ => none

/-- The elements of a literal, all of them, in order. -/
def litD (c : CT X.ι) : Nat → List (Nat × DV X) → Option (List (CT.T X.toSE c))
  | _, [] => some []
  | n, (j, x) :: r => if j = n then (dat x c).bind fun y => (litD c (n + 1) r).bind fun l => some (y :: l) else none

def buildSliceD (i : Nat) (t : TypeId) (len : Nat) (parts : List (Nat × DV X)) (k : KK X A) : Option A :=
  (T t).bind fun ti => match ti.k with
  | .slice e => (T e).bind fun ei => (code e).bind fun c => if ei.size = 0 ∨ len * ei.size > 2 ^ 24 ∨ CT.sz X c ≠ ei.size ∨ parts.length ≠ len then none else
      (litD c 0 parts).bind fun l => k (.own (nid i) 0 len) [(nid i, some (.lst c l))] [] []
  | _ => none

def allocD (i : Nat) (e : TypeId) (k : KK X A) : Option A :=
  (T e).bind fun ti => k (.ptr (nid i) 0 0) [(nid i, some (.cells ti.size [ti.zero.map cvD]))] [] []

def boxD (i : Nat) (x : DV X) (k : KK X A) : Option A :=
  (cellsD x).bind fun cs => k (.ptr (nid i) 0 0) [(nid i, some (.cells cs.length [cs]))] [] []

def bndD (d : Int) : Option (DV X) → Option Int
  | none => some d
  | some (.c (.int _) n) => some n
  | _ => none

def sliceD (t : TypeId) (x : DV X) (lo hi : Option (DV X)) (get : Nat → Option (DObj X)) (k : KK X A) : Option A :=
  (T t).bind fun ti => match ti.k with
  | .slice e => (T e).bind fun ei => match x with
    | .own kk off len => (get kk).bind fun o => if (denO o).sz = ei.size then (bndD 0 lo).bind fun l => (bndD len hi).bind fun h =>
        bif slOk l h len then k (.own kk (off + l.toNat) (h.toNat - l.toNat)) [] [kk] [] else none else none
    | .c (.sl c) xs => if CT.sz X c = ei.size then (bndD 0 lo).bind fun l => (bndD xs.length hi).bind fun h =>
        bif slOk l h xs.length then k (.c (.sl c) (sub xs l.toNat (h.toNat - l.toNat))) [] [] [] else none else none
    | _ => none
  | _ => none

/-- What is appended: how many, which, what is read for it. -/
def srcD (y : DV X) (c : CT X.ι) (get : Nat → Option (DObj X)) : Option (Nat × List (CT.T X.toSE c) × List Nat) :=
  match y with
  | .own kk off len => (get kk).bind fun o => match o with
    | .lst b l => (castC (.sl b) (.sl c) l).bind fun l => some (len, sub l off len, [kk])
    | _ => none
  | .c b l => (castC b (.sl c) l).bind fun (l : List (CT.T X.toSE c)) => some (l.length, l, [])
  | _ => none

def appendD (i : Nat) (t : TypeId) (x y : DV X) (get : Nat → Option (DObj X)) (k : KK X A) : Option A :=
  (T t).bind fun ti => match ti.k with
  | .slice e => (T e).bind fun ei => (code e).bind fun c => if CT.sz X c = ei.size then (srcD y c get).bind fun s => match x with
    | .own kk 0 len => (get kk).bind fun o => match o with
      | .lst b l => (castC (.sl b) (.sl c) l).bind fun (l : List (CT.T X.toSE c)) => bif appOk l.length len s.2.1.length s.1 ei.bytes then letv (l ++ s.2.1) fun r => k (.own (nid i) 0 r.length) [(nid i, some (.lst c r)), (kk, none)] (kk :: s.2.2) [kk] else none
      | _ => none
    | .nil => bif appOk 0 0 s.2.1.length s.1 ei.bytes then letv s.2.1 fun r => k (.own (nid i) 0 r.length) [(nid i, some (.lst c r))] s.2.2 [] else none
    | _ => none
    else none
  | _ => none

def builtinD (i : Nat) (b : Builtin) (args : List (DV X)) (tys : List TypeId) (get : Nat → Option (DObj X)) (k : KK X A) : Option A :=
  match b, args, tys with
  | .len, [x], [t] => lenD T t x k
  | .max, args, _ => mmD true args k
  | .min, args, _ => mmD false args k
  | .append, [x, y], [t, u] => if t = u then appendD T code i t x y get k else none
  | _, _, _ => none

def opD (i : Nat) (o : Op) (ρ : Operand → DV X) (get : Nat → Option (DObj X)) (k : KK X A) : Option A :=
  match o with
  | .move x => k (ρ x) [] [] []
  | .assign x => k (ρ x) [] [] []
  | .pick c a b => match ρ c with | .c .bool t => k (pickD t (ρ a) (ρ b)) [] [] [] | _ => none
  | .alloc e => allocD T i e k
  | .box _ x => boxD i (ρ x) k
  | .build t parts => buildD T t (parts.toList.map fun p => (p.1, ρ p.2)) k
  | .buildSlice t len parts => buildSliceD T code i t len (parts.toList.map fun p => (p.1, ρ p.2)) k
  | .load t a => ldD T t (ρ a) get k
  | .store t a x => stD T t (ρ a) (ρ x) get k
  | .binOp op t x y _ => binD T op t (ρ x) (ρ y) k
  | .unOp op _ x => unD op (ρ x) k
  | .makeFunc (.func f) first caps => k (.fn f (first.toList.map ρ) (caps.toList.map ρ)) [] [] []
  | .slice t x lo hi none => sliceD T t (ρ x) (lo.map ρ) (hi.map ρ) get k
  | .fieldAddr t x f => fieldAddrD T t (ρ x) f k
  | .field t x f => fieldD T t (ρ x) f k
  | .indexAddr t x j => indexAddrD T t (ρ x) (ρ j) get k
  | .extract x j => extractD (ρ x) j k
  | .call { callee := .builtin b, args := args, argTypes := tys } => builtinD T code i b (args.toList.map ρ) tys.toList get k
  | _ => none
end
end Go.Gb
