/-
  The operations of the abstract walk, and that each of them is what the model's operation does: those that make no call.
-/
import Derived.Test.YtgmmcfpjmkhmhaaGC
import Derived.Laws.StructEq
import Derived.Laws.Build
import Derived.WalkKit
namespace Go.Gb
open Go.RowKit

inductive TyK where
  | slice (e : TypeId)
  | arr (n : Nat) (e : TypeId)
  | struct (fs : List (Nat × TypeId))
  | bool
  | str
  | int (k : IntKind)
  | other

/-- What the walk knows of a type: its size in cells and in bytes, whether it is an aggregate, its zero value's cells, its make; whether its values are compared cell by cell. -/
structure TyI where
  size : Nat
  bytes : Nat
  agg : Bool
  zero : List Value
  k : TyK
  cmp : List Nat

abbrev Tab := Nat → Option TyI

def kOk : TyK → TypeDesc → Prop
  | .slice e, d => d = .slice e
  | .arr n e, d => d = .array n e
  | .struct fs, d => ∃ fa : Array Field, d = .struct fa ∧ fa.toList.map (fun f => (f.offset, f.type)) = fs
  | .bool, d => d = .bool
  | .str, d => d = .string
  | .int k, d => d = .int k
  | .other, _ => True

def isAggD : TypeDesc → Bool
  | .struct _ | .array _ _ => true
  | _ => false

def oneCellB : Value → Bool
  | .agg _ | .tuple _ => false
  | _ => true

theorem oneCell_of_B {v : Value} (h : oneCellB v = true) : oneCell v := by cases v <;> first | exact trivial | (simp [oneCellB] at h)

/-- A field that is compared by its one cell. -/
def cmpField (P : Program) (f : Field) (kd : Nat) : Bool :=
  (f.name != "_") && match P.underlying f.type with
    | some (.int _) => kd == 0
    | some .bool => kd == 1
    | some .string => kd == 2
    | _ => false

def cmpFields (P : Program) : Nat → List Field → List Nat → Bool
  | _, [], [] => true
  | n, f :: fs, k :: ks => f.offset == n && cmpField P f k && cmpFields P (n + 1) fs ks
  | _, _, _ => false

structure TyOk (P : Program) (t : TypeId) (ti : TyI) : Prop where
  ex : ∃ info d z, P.info? t = some info ∧ P.underlying t = some d ∧ info.size = ti.size ∧ info.bytes = ti.bytes ∧ info.zero = some z ∧ z.cells.toList = ti.zero ∧ isAggD d = ti.agg ∧ kOk ti.k d
  one : ti.zero.all oneCellB = true
  len : ti.zero.length = ti.size
  cmp : ti.cmp ≠ [] → ∃ fa : Array Field, P.underlying t = some (.struct fa) ∧ P.stoodInHeld t = false ∧ P.eqGuardType P.depth t = false ∧ cmpFields P 0 fa.toList ti.cmp = true

def TabOk (P : Program) (T : Tab) : Prop := ∀ t ti, T t = some ti → TyOk P t ti

def AllP : List Prop → Prop
  | [] => True
  | [p] => p
  | p :: q :: r => p ∧ AllP (q :: r)

/-- What an operation comes to: its value, the objects that it changes, what must be shown for it. -/
structure Out where
  v : AV
  upd : List (Nat × Option AObj)
  obs : List Prop

@[reducible] def Out.ob (o : Out) : Prop := AllP o.obs

def nid (i : Nat) : Nat := 1000000 + i

/-- How an argument is lent: an own slice as rows of data, an own cell row by an address, a function as itself, a function by how it answers. -/
inductive LH where
  | rows (tr : List (List Tree))
  | row (tr : List Tree)
  | fn
  | clo (φ : List TV → TV → Prop)
  | mut (j : Nat)
  | nil
  | emp

inductive Orc where
  | none
  | row (r : List AV)
  | set (r : List AV) (rs : List (List AV))
  | trow (r : List Tree)
  | num (n : Int)
  | rows (rs : List (List AV))
  | tsub (rows : List (List Tree))
  | call (hs : List LH) (r : RV) (keep : Bool)
  | cclo (hs : List LH) (args : List TV) (r : TV) (keep : Bool)
  | ext (n : Int)
  | frz (ids : List Nat) (fr : Operand → AV) (orc : Orc)
  | callw (ids : List Nat) (os : List (Nat × List (List Tree))) (os' : List (Option (Nat × List (List Tree)))) (hs : List LH) (r : RV) (keep : Bool)

def pv (v : AV) : Option Out := some ⟨v, [], []⟩
def pvo (v : AV) (ob : Prop) : Option Out := some ⟨v, [], [ob]⟩

def cv : Value → AV
  | .slice none 0 0 => .nilsl
  | v => if oneCellB v then .t (.sc v) else .undef

def opv (env : Nat → AV) : Operand → AV
  | .tmp t => env t
  | .const v => cv v
  | .global _ => .undef
  | .func f => .fn f [] []

def cellOk : AV → Bool
  | .agg _ | .tup _ | .undef => false
  | _ => true

/-- The cells of a value. -/
def cellsOf : AV → Option (List AV)
  | .agg cs => if cs.all cellOk then some cs else none
  | .tup _ | .undef => none
  | x => some [x]

/-- A part of some cells, as a value. -/
def part' (agg : Bool) (size : Nat) (cs : List AV) : Option AV :=
  if cs.length = size then (if agg then some (.agg cs) else match cs with | [x] => if cellOk x then some x else none | _ => none) else none

def put' (r : List AV) (off : Nat) (cs : List AV) : List AV := r.take off ++ cs ++ r.drop (off + cs.length)

def aArith (op : BinOp) (k : IntKind) (a b : Int) : Option (Value × List Prop) :=
  match op with
  | .add => some (.int k (k.wrap (a + b)), [])
  | .sub => some (.int k (k.wrap (a - b)), [])
  | .mul => some (.int k (k.wrap (a * b)), [])
  | .quo => some (.int k (k.wrap (a.tdiv b)), [b ≠ 0])
  | .rem => some (.int k (a.tmod b), [b ≠ 0])
  | .and => some (.int k (bits .and k a b), [])
  | .or => some (.int k (bits .or k a b), [])
  | .xor => some (.int k (bits .xor k a b), [])
  | .andNot => some (.int k (bits .andNot k a b), [])
  | .shl => some (.int k (k.wrap (a * 2 ^ b.toNat)), [0 ≤ b ∧ b ≤ k.bits])
  | .shr => some (.int k (a / 2 ^ b.toNat), [0 ≤ b ∧ b ≤ k.bits])
  | .eql => some (.bool (a == b), [])
  | .neq => some (.bool (a != b), [])
  | .lss => some (.bool (decide (a < b)), [])
  | .leq => some (.bool (decide (a ≤ b)), [])
  | .gtr => some (.bool (decide (a > b)), [])
  | .geq => some (.bool (decide (a ≥ b)), [])

/-- One cell against another. -/
def cellEq : Nat → AV → AV → Option Bool
  | 0, .t (.sc (.int j a)), .t (.sc (.int k b)) => if j = k then some (a == b) else none
  | 1, .t (.sc (.bool a)), .t (.sc (.bool b)) => some (a == b)
  | 2, .t (.sc (.string a)), .t (.sc (.string b)) => some (a.toList == b.toList)
  | _, _, _ => none
def cellsEq : List Nat → List AV → List AV → Option Bool
  | [], [], [] => some true
  | k :: ks, x :: xs, y :: ys => (cellEq k x y).bind fun a => (cellsEq ks xs ys).bind fun b => some (a && b)
  | _, _, _ => none

def aBin (T : Tab) (op : BinOp) (t : TypeId) (x y : AV) : Option Out :=
  match x, y with
  | .t (.sc (.int k a)), .t (.sc (.int yk b)) => if k = yk ∨ op = .shl ∨ op = .shr then (aArith op k a b).bind fun (v, obs) => some ⟨.t (.sc v), [], obs⟩ else none
  | .t (.sc (.string a)), .t (.sc (.string b)) => match op with
    | .eql => pv (.t (.sc (.bool (a.toList == b.toList))))
    | .neq => pv (.t (.sc (.bool (!(a.toList == b.toList)))))
    | _ => none
  | .t (.sc (.bool a)), .t (.sc (.bool b)) => (T t).bind fun ti => match ti.k, op with
    | .bool, .eql => pv (.t (.sc (.bool (a == b))))
    | .bool, .neq => pv (.t (.sc (.bool (!(a == b)))))
    | _, _ => none
  | .agg xs, .agg ys => (T t).bind fun ti => if ti.cmp = [] then none else (cellsEq ti.cmp xs ys).bind fun b => match op with
    | .eql => pv (.t (.sc (.bool b)))
    | .neq => pv (.t (.sc (.bool (!b))))
    | _ => none
  | _, _ => none

def aUn (op : UnOp) (x : AV) : Option Out :=
  match op, x with
  | .not, .t (.sc (.bool b)) => pv (.t (.sc (.bool (!b))))
  | .neg, .t (.sc (.int k n)) => pv (.t (.sc (.int k (k.wrap (0 - n)))))
  | _, _ => none

def foldMm (mx : Bool) (k : IntKind) : Int → List AV → Option Int
  | a, [] => some a
  | a, .t (.sc (.int k' b)) :: r => if k' = k then foldMm mx k (if mx then max a b else min a b) r else none
  | _, _ => none

def aMm (mx : Bool) (args : List AV) : Option Out :=
  match args with
  | .t (.sc (.int k a)) :: r => (foldMm mx k a r).bind fun n => pv (.t (.sc (.int k n)))
  | _ => none

def aLoad (T : Tab) (t : TypeId) (x : AV) (orc : Orc) (get : Nat → Option AObj) : Option Out :=
  (T t).bind fun ti => match x with
  | .ptr k row off => (get k).bind fun o => match orc with
    | .row r => (part' ti.agg ti.size ((r.drop off).take ti.size)).bind fun v => pvo v (o.rows[row]? = some r)
    | _ => (o.rows[row]?).bind fun r => (part' ti.agg ti.size ((r.drop off).take ti.size)).bind pv
  | .rptr r off => (part' ti.agg ti.size (((r.drop off).take ti.size).map AV.t)).bind pv
  | _ => none

def aStore (T : Tab) (t : TypeId) (x y : AV) (orc : Orc) (get : Nat → Option AObj) : Option Out :=
  (T t).bind fun ti => (cellsOf y).bind fun cs => if cs.length = ti.size then match x with
  | .ptr k row off => (get k).bind fun o => match orc with
    | .set r rs => if off + cs.length ≤ r.length then some ⟨.undef, [(k, some ⟨o.sz, rs⟩)], [o.rows[row]? = some r ∧ rs = wkRows (o.rows.set row (put' r off cs))]⟩ else none
    | _ => (o.rows[row]?).bind fun r => if off + cs.length ≤ r.length then some ⟨.undef, [(k, some ⟨o.sz, o.rows.set row (put' r off cs)⟩)], []⟩ else none
  | _ => none else none

def fieldOf (T : Tab) (t : TypeId) (f : Nat) : Option (Nat × TyI) :=
  (T t).bind fun ti => match ti.k with
  | .struct fs => (fs[f]?).bind fun (off, u) => (T u).bind fun ui => if ui.size = 0 then none else some (off, ui)
  | _ => none

def aFieldAddr (T : Tab) (t : TypeId) (x : AV) (f : Nat) : Option Out :=
  (fieldOf T t f).bind fun (d, _) => match x with
  | .ptr k row off => pv (.ptr k row (off + d))
  | .rptr r off => pv (.rptr r (off + d))
  | _ => none

def aField (T : Tab) (t : TypeId) (x : AV) (f : Nat) : Option Out :=
  (fieldOf T t f).bind fun (d, ui) => match x with
  | .agg cs => (part' ui.agg ui.size ((cs.drop d).take ui.size)).bind pv
  | _ => none

def aIndexAddr (T : Tab) (t : TypeId) (x i : AV) (orc : Orc) (get : Nat → Option AObj) : Option Out :=
  (T t).bind fun ti => match ti.k, i with
  | .slice e, .t (.sc (.int _ n)) => (T e).bind fun ei => match x, orc with
    | .t (.sl rows), .trow r => if r.length = ei.size then pvo (.rptr r 0) (0 ≤ n ∧ rows[n.toNat]? = some r) else none
    | .own k off len, _ => (get k).bind fun o => if o.sz = ei.size then pvo (.ptr k (off + n.toNat) 0) (0 ≤ n ∧ n.toNat < len) else none
    | _, _ => none
  | .arr m e, .t (.sc (.int _ n)) => (T e).bind fun ei => match x with
    | .ptr k row off => pvo (.ptr k row (off + n.toNat * ei.size)) (0 ≤ n ∧ n.toNat < m)
    | .rptr r off => pvo (.rptr r (off + n.toNat * ei.size)) (0 ≤ n ∧ n.toNat < m)
    | _ => none
  | _, _ => none

def aExtract (x : AV) (j : Nat) : Option Out :=
  match x with
  | .tup vs => (vs[j]?).bind pv
  | _ => none

def aLen (T : Tab) (t : TypeId) (x : AV) (orc : Orc) : Option Out :=
  (T t).bind fun ti => match ti.k, x, orc with
  | .slice _, .t (.sl rows), .num n => pvo (.t (.sc (.int .i64 n))) (n = (rows.length : Int))
  | .slice _, .own _ _ len, .num n => pvo (.t (.sc (.int .i64 n))) (n = (len : Int))
  | .slice _, .own _ _ len, _ => pv (.t (.sc (.int .i64 (len : Int))))
  | .slice _, .nilsl, _ => pv (.t (.sc (.int .i64 0)))
  | .str, .t (.sc (.string s)), _ => pv (.t (.sc (.int .i64 (s.size : Int))))
  | _, _, _ => none

/-- Parts laid into some cells. -/
def fillP (place : Nat → Option (Nat × Nat)) : List AV → List (Nat × AV) → Option (List AV)
  | cells, [] => some cells
  | cells, (j, x) :: rest => (place j).bind fun (off, size) => (cellsOf x).bind fun cs =>
      if cs.length = size ∧ off + cs.length ≤ cells.length then fillP place (put' cells off cs) rest else none

def aBuild (T : Tab) (t : TypeId) (parts : List (Nat × AV)) : Option Out :=
  (T t).bind fun ti => match ti.k with
  | .struct fs => if fs.all (fun p => (T p.2).isSome) then
      (fillP (fun j => (fs[j]?).bind fun p => (T p.2).bind fun ui => some (p.1, ui.size)) (ti.zero.map cv) parts).bind fun cells => pv (.agg cells) else none
  | .arr _ e => (T e).bind fun ei => (fillP (fun j => some (j * ei.size, ei.size)) (ti.zero.map cv) parts).bind fun cells => pv (.agg cells)
  | _ => none

/-- The rows of a slice literal: each part is a row. -/
def fillR (size : Nat) : List (List AV) → List (Nat × AV) → Option (List (List AV))
  | rows, [] => some rows
  | rows, (j, x) :: rest => (cellsOf x).bind fun cs => if cs.length = size ∧ j < rows.length then fillR size (rows.set j cs) rest else none

def aBuildSlice (T : Tab) (i : Nat) (t : TypeId) (len : Nat) (parts : List (Nat × AV)) : Option Out :=
  (T t).bind fun ti => match ti.k with
  | .slice e => (T e).bind fun ei => if ei.size = 0 ∨ len * ei.size > 2 ^ 24 then none else
      (fillR ei.size (List.replicate len (ei.zero.map cv)) parts).bind fun rows => some ⟨.own (nid i) 0 len, [(nid i, some ⟨ei.size, wkRows rows⟩)], []⟩
  | _ => none

def aAlloc (T : Tab) (i : Nat) (e : TypeId) : Option Out :=
  (T e).bind fun ti => some ⟨.ptr (nid i) 0 0, [(nid i, some ⟨ti.size, [ti.zero.map cv]⟩)], []⟩

def aBox (i : Nat) (x : AV) : Option Out :=
  (cellsOf x).bind fun cs => some ⟨.ptr (nid i) 0 0, [(nid i, some ⟨cs.length, [cs]⟩)], []⟩

/-- The numbers of a slice expression. -/
def bnd (d : Int) : Option AV → Option Int
  | none => some d
  | some (.t (.sc (.int _ n))) => some n
  | _ => none

/-- A part of a slice: of data, or of an own one (within its length). -/
def aSlice (T : Tab) (t : TypeId) (x : AV) (lo hi : Option AV) (orc : Orc) (get : Nat → Option AObj) : Option Out :=
  (T t).bind fun ti => match ti.k with
  | .slice e => (T e).bind fun ei => match x with
    | .own k off len => (get k).bind fun o => if o.sz = ei.size then (bnd 0 lo).bind fun l => (bnd len hi).bind fun h =>
        pvo (.own k (off + l.toNat) (h.toNat - l.toNat)) (0 ≤ l ∧ l ≤ h ∧ h ≤ (len : Int)) else none
    | .t (.sl rows) => match orc with
      | .tsub rs => (bnd 0 lo).bind fun l => (bnd rows.length hi).bind fun h =>
        pvo (.t (.sl rs)) (0 ≤ l ∧ l ≤ h ∧ h ≤ (rows.length : Int) ∧ rs = (rows.drop l.toNat).take (h.toNat - l.toNat) ∧ (∀ r ∈ rows, r.length = ei.size))
      | _ => none
    | _ => none
  | _ => none

/-- What is appended: how many rows, on what terms, which. -/
def srcOf (size : Nat) (y : AV) (get : Nat → Option AObj) : Option (Nat × Prop × List (List AV)) :=
  match y with
  | .own k off len => (get k).bind fun o => if o.sz = size then some (len, True, (o.rows.drop off).take len) else none
  | .t (.sl rows) => some (rows.length, ∀ r ∈ rows, r.length = size, avRows rows)
  | _ => none

/-- append, to an own slice up to its object's end, or to nil: of an own slice's rows or of data. -/
def aAppend (T : Tab) (i : Nat) (t : TypeId) (x y : AV) (orc : Orc) (get : Nat → Option AObj) : Option Out :=
  (T t).bind fun ti => match ti.k with
  | .slice e => (T e).bind fun ei => match orc with
    | .rows rs => (srcOf ei.size y get).bind fun (n, ob, new) => match x with
        | .own k off len => (get k).bind fun o => if o.sz = ei.size ∧ off = 0 then
            some ⟨.own (nid i) 0 rs.length, [(nid i, some ⟨ei.size, rs⟩), (k, none)], [ob ∧ o.rows.length = len ∧ new.length = n ∧ rs = o.rows ++ new ∧ (len + n) * ei.bytes ≤ 140737488355328 ∧ len + n ≤ maxLen]⟩ else none
        | .nilsl => some ⟨.own (nid i) 0 rs.length, [(nid i, some ⟨ei.size, rs⟩)], [ob ∧ new.length = n ∧ rs = new ∧ n * ei.bytes ≤ 140737488355328 ∧ n ≤ maxLen]⟩
        | _ => none
    | _ => none
  | _ => none

def aBuiltin (T : Tab) (i : Nat) (b : Builtin) (args : List AV) (tys : List TypeId) (orc : Orc) (get : Nat → Option AObj) : Option Out :=
  match b, args, tys with
  | .len, [x], [t] => aLen T t x orc
  | .max, args, _ => aMm true args
  | .min, args, _ => aMm false args
  | .append, [x, y], [t, u] => if t = u then aAppend T i t x y orc get else none
  | _, _, _ => none

/-- One of two values. -/
def pickV (t : Bool) (x y : AV) : AV :=
  match x, y with
  | .t (.sc (.bool p)), .t (.sc (.bool q)) => .t (.sc (.bool (bif t then p else q)))
  | .t (.sc (.int k p)), .t (.sc (.int k' q)) => if k = k' then .t (.sc (.int k (bif t then p else q))) else bif t then x else y
  | _, _ => bif t then x else y

theorem pickV_eq (t : Bool) (x y : AV) : pickV t x y = if t = true then x else y := by
  unfold pickV
  split
  · cases t <;> rfl
  · split
    · rename_i h; subst h; cases t <;> rfl
    · cases t <;> rfl
  · cases t <;> rfl

def absOp (T : Tab) (i : Nat) (o : Oper) (orc : Orc) (ρ : Operand → AV) (get : Nat → Option AObj) : Option Out :=
  match o.op with
  | .move x => pv (ρ x)
  | .assign x => pv (ρ x)
  | .pick c a b => match ρ c with | .t (.sc (.bool t)) => pv (pickV t (ρ a) (ρ b)) | _ => none
  | .alloc e => aAlloc T i e
  | .box _ x => aBox i (ρ x)
  | .build t parts => aBuild T t (parts.toList.map fun (j, x) => (j, ρ x))
  | .buildSlice t len parts => aBuildSlice T i t len (parts.toList.map fun (j, x) => (j, ρ x))
  | .load t a => aLoad T t (ρ a) orc get
  | .store t a x => aStore T t (ρ a) (ρ x) orc get
  | .binOp op t x y _ => aBin T op t (ρ x) (ρ y)
  | .unOp op _ x => aUn op (ρ x)
  | .makeFunc (.func f) first caps => pv (.fn f (first.toList.map ρ) (caps.toList.map ρ))
  | .slice t x lo hi none => aSlice T t (ρ x) (lo.map ρ) (hi.map ρ) orc get
  | .fieldAddr t x f => aFieldAddr T t (ρ x) f
  | .field t x f => aField T t (ρ x) f
  | .indexAddr t x j => aIndexAddr T t (ρ x) (ρ j) orc get
  | .extract x j => aExtract (ρ x) j
  | .call { callee := .builtin b, args := args, argTypes := tys } => aBuiltin T i b (args.toList.map ρ) tys.toList orc get
  | _ => none
end Go.Gb
