/-
  Codes of types of data, typed values of the walk, its states; what they stand for.
-/
import Derived.Test.YtgmmcfpjmkhmhaaGT
namespace Go.Gb
open Go.RowKit

/-- Types of data: in one cell, or a structure. -/
inductive CT (ι : Type) where
  | int (k : IntKind)
  | bool
  | str
  | sl (e : CT ι)
  | st (i : ι)
  | any
  deriving DecidableEq

/-- A seat's structures, as Lean types. -/
structure SE where
  ι : Type
  dec : DecidableEq ι
  T : ι → Type
  row : (i : ι) → T i → List Tree

instance (E : SE) : DecidableEq E.ι := E.dec

section
variable (E : SE)
@[reducible] def CT.T : CT E.ι → Type
  | .int _ => Int
  | .bool => Bool
  | .str => ByteArray
  | .sl e => List (CT.T e)
  | .st i => E.T i
  | .any => Tree

/-- Its cells. -/
def CT.row : (c : CT E.ι) → CT.T E c → List Tree
  | .int k, n => [.sc (.int k n)]
  | .bool, b => [.sc (.bool b)]
  | .str, s => [.sc (.string s)]
  | .sl e, l => [.sl (List.map (CT.row e) l)]
  | .st i, x => E.row i x
  | .any, x => [x]

def CT.one {ι : Type} : CT ι → Bool
  | .st _ => false
  | _ => true

/-- As a value. -/
def CT.tv : (c : CT E.ι) → CT.T E c → TV
  | .int k, n => .s (.sc (.int k n))
  | .bool, b => .s (.sc (.bool b))
  | .str, s => .s (.sc (.string s))
  | .sl e, l => .s (.sl (List.map (CT.row E e) l))
  | .st i, x => .a (E.row i x)
  | .any, x => .s x

/-- Some data. -/
def HL : List (CT E.ι) → Type
  | [] => Unit
  | c :: l => CT.T E c × HL l

def HL.row : (l : List (CT E.ι)) → HL E l → List Tree
  | [], _ => []
  | c :: l, h => CT.row E c h.1 ++ HL.row l h.2

def HL.tvs : (l : List (CT E.ι)) → HL E l → List TV
  | [], _ => []
  | c :: l, h => CT.tv E c h.1 :: HL.tvs l h.2
end

/-- How the structures lie in cells. -/
structure SX extends SE where
  tys : ι → List (CT ι)
  get : (i : ι) → T i → HL toSE (tys i)
  make : (i : ι) → HL toSE (tys i) → T i
  row_get : ∀ i x, row i x = HL.row toSE (tys i) (get i x)
  row_make : ∀ i h, row i (make i h) = HL.row toSE (tys i) h
  flat : ∀ i, (tys i).all CT.one = true

section
variable (X : SX)

abbrev SX.C := CT X.ι
abbrev SX.t (c : CT X.ι) : Type := CT.T X.toSE c

def CT.sz : CT X.ι → Nat
  | .st i => (X.tys i).length
  | _ => 1

inductive DV where
  | c (t : CT X.ι) (x : CT.T X.toSE t)
  | agg (cs : List DV)
  | tup (vs : List DV)
  | own (k off len : Nat)
  | ptr (k row off : Nat)
  | ptl (k : Nat) (n : Int) (off : Nat)
  | pta (k row off m : Nat) (n : Int)
  | rp (t : CT X.ι) (x : CT.T X.toSE t) (off : Nat)
  | fn (f : FuncId) (first caps : List DV)
  | clo (as : List (CT X.ι)) (r : CT X.ι) (φ : HL X.toSE as → Option (CT.T X.toSE r))
  | raw (v : Value)
  | nil
  | ub
  | skip
  | undef

inductive DObj where
  | cells (sz : Nat) (rows : List (List (DV X)))
  | lst (c : CT X.ι) (l : List (CT.T X.toSE c))

structure DSt where
  env : List (Nat × DV X)
  obj : List (Nat × Option (DObj X))
  nx : Nat
  log : List Nat

variable {X}
mutual
def den : DV X → AV
  | .c t x => (CT.tv X.toSE t x).av
  | .agg cs => .agg (denL cs)
  | .tup vs => .tup (denL vs)
  | .own k off len => .own k off len
  | .ptr k row off => .ptr k row off
  | .ptl k n off => .ptr k n.toNat off
  | .pta k row off _ n => .ptr k row (off + n.toNat)
  | .rp t x off => .rptr (CT.row X.toSE t x) off
  | .fn f first caps => .fn f (denL first) (denL caps)
  | .clo as r φ => .clo fun ts u => ∃ h x, φ h = some x ∧ ts = HL.tvs X.toSE as h ∧ u = CT.tv X.toSE r x
  | .raw v => cv v
  | .nil => .nilsl
  | .ub => .ub
  | .skip => .undef
  | .undef => .undef
def denL : List (DV X) → List AV
  | [] => []
  | x :: xs => den x :: denL xs
end

theorem denL_map : ∀ l : List (DV X), denL l = l.map den
  | [] => rfl
  | x :: xs => by simp only [denL, List.map_cons, denL_map xs]

def denO : DObj X → AObj
  | .cells sz rows => ⟨sz, rows.map denL⟩
  | .lst c l => ⟨CT.sz X c, avRows (l.map (CT.row X.toSE c))⟩

def denU (u : List (Nat × Option (DObj X))) : List (Nat × Option AObj) := u.map fun p => (p.1, p.2.map denO)

def lko (o : List (Nat × Option (DObj X))) (k : Nat) : Option (DObj X) := (lk o k).join
def lke (e : List (Nat × DV X)) (t : Nat) : DV X := (lk e t).getD .undef

def DSt.st (s : DSt X) : St := ⟨fun t => den (lke s.env t), fun k => (lko s.obj k).map denO, fun _ => none⟩

/-- A datum of one code, read as of another. -/
def castC (a b : CT X.ι) (x : CT.T X.toSE a) : Option (CT.T X.toSE b) :=
  match decEq a b with
  | isTrue h => some (h ▸ x)
  | isFalse _ => none

theorem castC_some {a b : CT X.ι} {x : CT.T X.toSE a} {y : CT.T X.toSE b} (h : castC a b x = some y) : ∃ e : a = b, y = e ▸ x := by
  unfold castC at h
  split at h
  · rename_i e _
    injection h with h
    exact ⟨e, h.symm⟩
  · cases h

/-- The cells of some data. -/
def HL.cells : (l : List (CT X.ι)) → HL X.toSE l → List (DV X)
  | [], _ => []
  | c :: l, h => .c c h.1 :: HL.cells l h.2

theorem row_one {c : CT X.ι} (h : c.one = true) (x : CT.T X.toSE c) : ∃ t, CT.row X.toSE c x = [t] ∧ CT.tv X.toSE c x = .s t := by
  cases c <;> first | exact ⟨_, rfl, rfl⟩ | cases h

theorem HL.cells_den : ∀ (l : List (CT X.ι)) (h : HL X.toSE l), l.all CT.one = true → denL (HL.cells l h) = (HL.row X.toSE l h).map AV.t
  | [], _, _ => rfl
  | c :: l, h, ha => by
    simp only [List.all_cons, Bool.and_eq_true] at ha
    obtain ⟨t, h1, h2⟩ := row_one ha.1 h.1
    simp only [HL.cells, denL, den, HL.row, h1, h2, TV.av, HL.cells_den l h.2 ha.2, List.cons_append, List.nil_append, List.map_cons]

theorem HL.row_length : ∀ (l : List (CT X.ι)) (h : HL X.toSE l), l.all CT.one = true → (HL.row X.toSE l h).length = l.length
  | [], _, _ => rfl
  | c :: l, h, ha => by
    simp only [List.all_cons, Bool.and_eq_true] at ha
    obtain ⟨t, h1, _⟩ := row_one ha.1 h.1
    simp only [HL.row, h1, List.cons_append, List.nil_append, List.length_cons, HL.row_length l h.2 ha.2]

theorem row_sz (c : CT X.ι) (x : CT.T X.toSE c) : (CT.row X.toSE c x).length = CT.sz X c := by
  cases c <;> try rfl
  rename_i i
  exact (congrArg List.length (X.row_get i x)).trans (HL.row_length _ _ (X.flat i))

/-- A struct's cells, one by one. -/
def cellsC : (c : CT X.ι) → CT.T X.toSE c → List (DV X)
  | .st i, x => HL.cells (X.tys i) (X.get i x)
  | c, x => [.c c x]

theorem cellsC_den (c : CT X.ι) (x : CT.T X.toSE c) : denL (cellsC c x) = (CT.row X.toSE c x).map AV.t := by
  cases c <;> try rfl
  rename_i i
  exact (HL.cells_den _ _ (X.flat i)).trans (congrArg (List.map AV.t) (X.row_get i x).symm)

def cellOkD : DV X → Bool
  | .agg _ | .tup _ | .undef | .skip | .raw _ | .c (.st _) _ => false
  | _ => true

theorem cellOkD_den {x : DV X} (h : cellOkD x = true) : cellOk (den x) = true := by
  cases x <;> try rfl
  case c t x => cases t <;> first | rfl | simp [cellOkD] at h
  all_goals simp [cellOkD] at h

def cellsD : DV X → Option (List (DV X))
  | .agg cs => if cs.all cellOkD then some cs else none
  | .c (.st i) x => some (cellsC (.st i) x)
  | .tup _ | .undef | .skip | .raw _ => none
  | x => some [x]

theorem HL.cells_ok : ∀ (l : List (CT X.ι)) (h : HL X.toSE l), l.all CT.one = true → (HL.cells l h).all cellOkD = true
  | [], _, _ => rfl
  | c :: l, h, ha => by
    simp only [List.all_cons, Bool.and_eq_true] at ha
    simp only [HL.cells, List.all_cons, Bool.and_eq_true, HL.cells_ok l h.2 ha.2, and_true]
    cases c <;> first | rfl | simp [CT.one] at ha

theorem all_den {l : List (DV X)} (h : l.all cellOkD = true) : (denL l).all cellOk = true := by
  rw [denL_map, List.all_map, List.all_eq_true]
  exact fun x hx => cellOkD_den (List.all_eq_true.1 h x hx)

theorem cellsD_den {x : DV X} {cs : List (DV X)} (h : cellsD x = some cs) : cellsOf (den x) = some (denL cs) := by
  cases x
  case c t x =>
    cases t
    case st i =>
      simp only [cellsD, Option.some.injEq] at h
      subst h
      simp only [den, CT.tv, TV.av, cellsOf, cellsC_den]
      show (if ((X.row i x).map AV.t).all cellOk then some ((X.row i x).map AV.t) else none) = some ((X.row i x).map AV.t)
      rw [if_pos]
      rw [List.all_map, List.all_eq_true]
      exact fun _ _ => rfl
    all_goals simp only [cellsD, Option.some.injEq] at h; subst h; rfl
  case agg l =>
    simp only [cellsD] at h
    split at h
    · injection h with h
      subst h
      simp only [den, cellsOf]
      rw [if_pos (all_den ‹_›)]
    · cases h
  all_goals simp only [cellsD, Option.some.injEq, reduceCtorEq] at h; try (subst h; rfl)

/-- A constant. -/
def cvD : Value → DV X
  | .slice none 0 0 => .nil
  | .int k n => .c (.int k) n
  | .bool b => .c .bool b
  | .string s => .c .str s
  | v => .raw v

theorem cvD_den (v : Value) : den (cvD (X := X) v) = cv v := by
  unfold cvD
  split <;> rfl

theorem cvDs_den (l : List Value) : denL (l.map (cvD (X := X))) = l.map cv := by
  rw [denL_map, List.map_map]
  exact List.map_congr_left fun v _ => cvD_den v

def opvD (env : Nat → DV X) : Operand → DV X
  | .tmp t => env t
  | .const v => cvD v
  | .global _ => .undef
  | .func f => .fn f [] []

theorem opvD_den (env : Nat → DV X) (x : Operand) : den (opvD env x) = opv (fun t => den (env t)) x := by
  cases x <;> first | rfl | exact cvD_den _
end
end Go.Gb
