/-
  Insertion sort as the walk prints it, over any order; no program in sight.
-/
import Derived.Test.YtgmmcfpjmkhmhaaPL
namespace Go.Gb
open Go.RowKit

section
variable {α : Type}

/-- An element among those to its left (told from the right), as far left as it goes. -/
def insRev (lt : α → α → Bool) (x : α) : List α → List α
  | [] => [x]
  | y :: ys => bif lt x y then y :: insRev lt x ys else x :: y :: ys

/-- Sorting by insertion. -/
def isort (lt : α → α → Bool) (l : List α) : List α := (l.foldl (fun rs x => insRev lt x rs) []).reverse

def gsIns2 (less : α → α → Option Bool) (m : Nat) (a1 : Int) : (Int × List α) → Option ((Int × List α) ⊕ List α)
  | (v3, v4) => ((bif (decide (v3 > (a1 : Int))) then bif inb v3 m then (at? v4 ((0 : Nat) + v3 : Int)).bind fun x1 => bif inb (IntKind.i64.wrap (v3 - 1)) m then (at? v4 ((0 : Nat) + (IntKind.i64.wrap (v3 - 1)) : Int)).bind fun x2 => less x1 x2 else none else none else some false) : Option (Bool)).bind fun v5 => (bif v5 then bif inb (IntKind.i64.wrap (v3 - 1)) m then (at? v4 ((0 : Nat) + (IntKind.i64.wrap (v3 - 1)) : Int)).bind fun x3 => bif inb v3 m then (at? v4 ((0 : Nat) + v3 : Int)).bind fun x4 => bif inb v3 m then (at? v4 ((0 : Nat) + v3 : Int)).bind fun _ => bif inb (IntKind.i64.wrap (v3 - 1)) m then (at? (v4.set ((0 : Nat) + v3 : Int).toNat x3) ((0 : Nat) + (IntKind.i64.wrap (v3 - 1)) : Int)).bind fun _ => some (.inl ((IntKind.i64.wrap (v3 - 1)), ((v4.set ((0 : Nat) + v3 : Int).toNat x3).set ((0 : Nat) + (IntKind.i64.wrap (v3 - 1)) : Int).toNat x4))) else none else none else none else none else some (.inr v4))

def gsIns1 (less : α → α → Option Bool) (n m : Nat) (a1 a2 : Int) : (Int × List α) → Option ((Int × List α) ⊕ List α)
  | (v1, v2) => (bif (decide (v1 < (a2 : Int))) then (iter (gsIns2 less m a1) n (v1, v2)).bind fun w1 => some (.inl ((IntKind.i64.wrap (v1 + 1)), w1)) else some (.inr v2))

def gsIns (less : α → α → Option Bool) (n : Nat) (a0 : List α) (a1 a2 : Int) : Option (List α) :=
  (iter (gsIns1 less n a0.length a1 a2) n ((IntKind.i64.wrap (a1 + 1)), a0)).bind fun w2 => some w2

variable {lt : α → α → Bool} {less : α → α → Option Bool}

theorem length_insRev (x : α) : ∀ ys : List α, (insRev lt x ys).length = ys.length + 1
  | [] => rfl
  | y :: ys => by
    simp only [insRev]
    cases lt x y <;> simp [length_insRev x ys]

theorem gsIns2_run (hl : ∀ x y, less x y = some (lt x y)) (m : Nat) (hm : m < 9223372036854775807) : ∀ (ys : List α) (x : α) (r : List α) (n : Nat), ys.length + 1 + r.length = m → ys.length < n →
    iter (gsIns2 less m 0) n (((ys.length : Nat) : Int), ys.reverse ++ x :: r) = some ((insRev lt x ys).reverse ++ r)
  | [], x, r, n, hmm, hn => by
    obtain ⟨k, rfl⟩ : ∃ k, n = k + 1 := ⟨n - 1, by simp at hn; omega⟩
    refine iter_inr ?_
    simp [gsIns2, insRev]
  | y :: ys, x, r, n, hmm, hn => by
    obtain ⟨k, rfl⟩ : ∃ k, n = k + 1 := ⟨n - 1, by simp at hn; omega⟩
    simp only [List.length_cons] at hmm hn
    have hlen : ((y :: ys).reverse ++ x :: r).length = m := by simp; omega
    have w1 : IntKind.i64.wrap ((((y :: ys).length : Nat) : Int) - 1) = ((ys.length : Nat) : Int) := by rw [wrap_pred (by simp) (by simp; omega)]; simp
    have g1 : ((y :: ys).reverse ++ x :: r)[(y :: ys).length]? = some x := by simp
    have g2 : ((y :: ys).reverse ++ x :: r)[ys.length]? = some y := by simp
    have d1 : decide ((((y :: ys).length : Nat) : Int) > 0) = true := by simp <;> omega
    have i1 : inb (((y :: ys).length : Nat) : Int) m = true := inb_get (by simp; omega)
    have i2 : inb ((ys.length : Nat) : Int) m = true := inb_get (by omega)
    have s1 : (((y :: ys).reverse ++ x :: r).set (((0 : Nat) : Int) + (((y :: ys).length : Nat) : Int)).toNat y).set (((0 : Nat) : Int) + ((ys.length : Nat) : Int)).toNat x = ys.reverse ++ x :: (y :: r) := by
      have e1 : (((0 : Nat) : Int) + (((y :: ys).length : Nat) : Int)).toNat = ys.length + 1 := by simp <;> omega
      have e2 : (((0 : Nat) : Int) + ((ys.length : Nat) : Int)).toNat = ys.length := by simp
      rw [e1, e2]
      simp only [List.reverse_cons, List.append_assoc, List.singleton_append]
      rw [List.set_append_right _ _ (by simp), List.set_append_right _ _ (by simp)]
      simp
    have g3 : (((y :: ys).reverse ++ x :: r).set (((0 : Nat) : Int) + (((y :: ys).length : Nat) : Int)).toNat y)[ys.length]? = some y := by
      rw [List.getElem?_set]
      have e1 : (((0 : Nat) : Int) + (((y :: ys).length : Nat) : Int)).toNat = ys.length + 1 := by simp <;> omega
      rw [e1, if_neg (by omega)]
      exact g2
    cases hxy : lt x y with
    | true =>
      have step : gsIns2 less m 0 (((y :: ys).length : Nat), (y :: ys).reverse ++ x :: r) = some (.inl (((ys.length : Nat) : Int), ys.reverse ++ x :: (y :: r))) := by
        simp only [gsIns2, d1, cond_true, i1, at_natz, g1, Option.bind_some, w1, i2, g2, hl, hxy, g3, s1]
      rw [iter_inl step, gsIns2_run hl m hm ys x (y :: r) k (by simp; omega) (by omega)]
      simp [insRev, hxy]
    | false =>
      refine (iter_inr ?_).trans rfl
      simp only [gsIns2, d1, cond_true, i1, at_natz, g1, Option.bind_some, w1, i2, g2, hl, hxy, cond_false]
      simp [insRev, hxy]

theorem gsIns_run (hl : ∀ x y, less x y = some (lt x y)) (n : Nat) (l : List α) (hn : l.length < n) (h : l.length < 9223372036854775807) : gsIns less n l 0 (l.length : Int) = some (isort lt l) := by
  have main : ∀ (rest : List α) (rs : List α) (k : Nat), rs.length + rest.length = l.length → rest.length < k →
      iter (gsIns1 less n l.length 0 (l.length : Int)) k (((rs.length : Nat) : Int), rs.reverse ++ rest) = some (rest.foldl (fun rs x => insRev lt x rs) rs).reverse := by
    intro rest
    induction rest with
    | nil =>
      intro rs k hk hkn
      obtain ⟨j, rfl⟩ : ∃ j, k = j + 1 := ⟨k - 1, by simp at hkn; omega⟩
      refine iter_inr ?_
      simp only [List.length_nil, Nat.add_zero] at hk
      simp [gsIns1, hk]
    | cons x rest ih =>
      intro rs k hk hkn
      simp only [List.length_cons] at hk hkn
      obtain ⟨j, rfl⟩ : ∃ j, k = j + 1 := ⟨k - 1, by omega⟩
      have h1 := gsIns2_run hl l.length h rs x rest n (by omega) (by omega)
      have hlt : ((rs.length : Nat) : Int) < (l.length : Int) := by omega
      have step : gsIns1 less n l.length 0 (l.length : Int) (((rs.length : Nat) : Int), rs.reverse ++ x :: rest) = some (.inl ((((insRev lt x rs).length : Nat) : Int), (insRev lt x rs).reverse ++ rest)) := by
        simp only [gsIns1, hlt, decide_true, cond_true, h1, Option.bind_some, length_insRev]
        rw [wrap_succ (by omega)]
      rw [iter_inl step, ih (insRev lt x rs) j (by rw [length_insRev]; omega) (by omega)]
      rfl
  unfold gsIns isort
  cases l with
  | nil =>
    obtain ⟨j, rfl⟩ : ∃ j, n = j + 1 := ⟨n - 1, by simp at hn; omega⟩
    have : gsIns1 less (j + 1) ([] : List α).length 0 (([] : List α).length : Int) (IntKind.i64.wrap (0 + 1), []) = some (.inr []) := by
      have w : IntKind.i64.wrap (0 + 1) = 1 := by decide
      rw [w]; simp [gsIns1]
    rw [iter_inr this]; rfl
  | cons x rest =>
    have w : IntKind.i64.wrap (0 + 1) = (([x].length : Nat) : Int) := by simp only [List.length_singleton]; decide
    rw [w]
    have := main rest [x] n (by simp; omega) (by simp at hn; omega)
    simp only [List.reverse_cons, List.reverse_nil, List.nil_append, List.singleton_append] at this
    rw [this]
    rfl

/-- What insertion gives: the same elements. -/
theorem insRev_mem (x z : α) : ∀ ys : List α, z ∈ insRev lt x ys ↔ z = x ∨ z ∈ ys
  | [] => by simp [insRev]
  | y :: ys => by
    simp only [insRev]
    cases lt x y with
    | true => simp only [cond_true, List.mem_cons, insRev_mem x z ys]; exact ⟨fun h => by rcases h with h | h | h <;> simp [h], fun h => by rcases h with h | h | h <;> simp [h]⟩
    | false => simp

theorem isort_mem (z : α) (l : List α) : z ∈ isort lt l ↔ z ∈ l := by
  unfold isort
  rw [List.mem_reverse]
  have : ∀ (l rs : List α), z ∈ l.foldl (fun rs x => insRev lt x rs) rs ↔ z ∈ l ∨ z ∈ rs := by
    intro l
    induction l with
    | nil => simp
    | cons x l ih => intro rs; simp only [List.foldl_cons, ih, insRev_mem, List.mem_cons]; exact ⟨fun h => by rcases h with h | h | h <;> simp [h], fun h => by rcases h with (h | h) | h <;> simp [h]⟩
  simpa using this l []

theorem length_isort (l : List α) : (isort lt l).length = l.length := by
  unfold isort
  rw [List.length_reverse]
  have : ∀ (l rs : List α), (l.foldl (fun rs x => insRev lt x rs) rs).length = l.length + rs.length := by
    intro l
    induction l with
    | nil => simp
    | cons x l ih => intro rs; simp only [List.foldl_cons, ih, length_insRev, List.length_cons]; omega
  simpa using this l []
end

/-- Ascending numbers. -/
theorem insRev_sorted (x : Int) : ∀ ys : List Int, ys.Pairwise (· ≥ ·) → (insRev (fun a b => decide (a < b)) x ys).Pairwise (· ≥ ·)
  | [], _ => by simp [insRev]
  | y :: ys, h => by
    simp only [insRev]
    rw [List.pairwise_cons] at h
    by_cases hxy : x < y
    · simp only [hxy, decide_true, cond_true, List.pairwise_cons]
      refine ⟨fun z hz => ?_, insRev_sorted x ys h.2⟩
      rcases (insRev_mem x z ys).1 hz with rfl | hz
      · exact Int.le_of_lt hxy
      · exact h.1 z hz
    · simp only [hxy, decide_false, cond_false, List.pairwise_cons, List.mem_cons]
      refine ⟨fun z hz => ?_, h⟩
      rcases hz with rfl | hz
      · omega
      · have := h.1 z hz; omega

theorem isort_sorted (l : List Int) : (isort (fun a b => decide (a < b)) l).Pairwise (· ≤ ·) := by
  unfold isort
  rw [List.pairwise_reverse]
  have : ∀ (l rs : List Int), rs.Pairwise (· ≥ ·) → (l.foldl (fun rs x => insRev (fun a b => decide (a < b)) x rs) rs).Pairwise (· ≥ ·) := by
    intro l
    induction l with
    | nil => intro rs h; exact h
    | cons x l ih => intro rs h; exact ih _ (insRev_sorted x rs h)
  exact this l [] List.Pairwise.nil

/-- Neighbours that are alike become one. -/
def compactL : List Int → List Int
  | [] => []
  | [x] => [x]
  | x :: y :: l => bif x == y then compactL (y :: l) else x :: compactL (y :: l)

/-- Two ascending lists without repeats of the same elements are one. -/
theorem strict_ext : ∀ {a b : List Int}, a.Pairwise (· < ·) → b.Pairwise (· < ·) → (∀ z, z ∈ a ↔ z ∈ b) → a = b
  | [], [], _, _, _ => rfl
  | [], y :: b, _, _, h => by have := (h y).2 (by simp); simp at this
  | x :: a, [], _, _, h => by have := (h x).1 (by simp); simp at this
  | x :: a, y :: b, ha, hb, h => by
    rw [List.pairwise_cons] at ha hb
    have hxy : x = y := by
      have h1 := (h x).1 (by simp)
      have h2 := (h y).2 (by simp)
      rcases List.mem_cons.1 h1 with h1 | h1
      · exact h1
      · rcases List.mem_cons.1 h2 with h2 | h2
        · exact h2.symm
        · have := ha.1 y h2; have := hb.1 x h1; omega
    subst hxy
    congr 1
    refine strict_ext ha.2 hb.2 fun z => ⟨fun hz => ?_, fun hz => ?_⟩
    · rcases List.mem_cons.1 ((h z).1 (List.mem_cons_of_mem _ hz)) with e | e
      · have := ha.1 z hz; omega
      · exact e
    · rcases List.mem_cons.1 ((h z).2 (List.mem_cons_of_mem _ hz)) with e | e
      · have := hb.1 z hz; omega
      · exact e

theorem compactL_mem : ∀ (l : List Int) (z : Int), z ∈ compactL l ↔ z ∈ l
  | [], _ => by simp [compactL]
  | [x], _ => by simp [compactL]
  | x :: y :: l, z => by
    simp only [compactL]
    by_cases h : x = y
    · subst h; simp only [beq_self_eq_true, cond_true, compactL_mem (x :: l) z, List.mem_cons, or_self_left]
    · have : (x == y) = false := by simp [h]
      simp only [this, cond_false, List.mem_cons, compactL_mem (y :: l) z]

theorem compactL_strict : ∀ (l : List Int), l.Pairwise (· ≤ ·) → (compactL l).Pairwise (· < ·)
  | [], _ => List.Pairwise.nil
  | [x], _ => by simp [compactL]
  | x :: y :: l, h => by
    rw [List.pairwise_cons] at h
    simp only [compactL]
    by_cases e : x = y
    · subst e; simp only [beq_self_eq_true, cond_true]; exact compactL_strict (x :: l) h.2
    · have hb : (x == y) = false := by simp [e]
      simp only [hb, cond_false, List.pairwise_cons]
      refine ⟨fun z hz => ?_, compactL_strict (y :: l) h.2⟩
      rw [compactL_mem] at hz
      have h1 := h.1 y (by simp)
      rcases List.mem_cons.1 hz with rfl | hz
      · omega
      · have := (List.pairwise_cons.1 h.2).1 z hz; omega

/-- Numbers, ascending, each once. -/
def setL (l : List Int) : List Int := compactL (isort (fun a b => decide (a < b)) l)
theorem setL_mem (l : List Int) (z : Int) : z ∈ setL l ↔ z ∈ l := by rw [setL, compactL_mem, isort_mem]
theorem setL_strict (l : List Int) : (setL l).Pairwise (· < ·) := compactL_strict _ (isort_sorted l)
theorem setL_unique {l m : List Int} (h : m.Pairwise (· < ·)) (hm : ∀ z, z ∈ m ↔ z ∈ l) : m = setL l := strict_ext h (setL_strict l) fun z => by rw [hm, setL_mem]
theorem setL_congr {l m : List Int} (h : ∀ z, z ∈ l ↔ z ∈ m) : setL l = setL m := strict_ext (setL_strict l) (setL_strict m) fun z => by rw [setL_mem, setL_mem, h]
end Go.Gb
