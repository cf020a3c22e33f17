/-
  Plain lemmas on what the typed walk prints: loops, lists, numbers. No program in sight.
  Insertion sort as the walk prints it, over any order; no program in sight.
  Go's package slices as the walk prints it, over any element; no program in sight.
  slices.Compact and the short way of slices.Sort, as the walk prints them.
-/
import Derived.Test.YtidlnbgnaeaghaaTF3
namespace Go.Gb
open Go.RowKit

theorem wrap_id {x : Int} (h1 : -9223372036854775808 ≤ x) (h2 : x ≤ 9223372036854775807) : IntKind.i64.wrap x = x := by
  rw [IntKind.wrap_i64]; omega

theorem wrap_nat {x : Nat} (h : x ≤ 9223372036854775807) : IntKind.i64.wrap (x : Int) = (x : Int) := wrap_id (by omega) (by omega)

theorem wrap_succ {i : Nat} (h : i < 9223372036854775807) : IntKind.i64.wrap ((i : Int) + 1) = ((i + 1 : Nat) : Int) := by
  rw [wrap_id (by omega) (by omega)]; omega

theorem wrap_pred {i : Nat} (h0 : 0 < i) (h : i ≤ 9223372036854775807) : IntKind.i64.wrap ((i : Int) - 1) = ((i - 1 : Nat) : Int) := by
  rw [wrap_id (by omega) (by omega)]; omega

section
variable {α β S V O W : Type}

@[simp] theorem at_nat (l : List α) (i : Nat) : at? l (i : Int) = l[i]? := by simp [at?]
theorem at_natz (l : List α) (i : Nat) : at? l (((0 : Nat) : Int) + (i : Int)) = l[i]? := by simp [at?]
theorem at_get {l : List α} {i : Nat} (h : i < l.length) : at? l (i : Int) = some l[i] := by simp [h]
theorem at_getz {l : List α} {i : Nat} (h : i < l.length) : at? l (((0 : Nat) : Int) + (i : Int)) = some l[i] := by rw [at_natz]; simp [h]
theorem at_zero {l : List α} (h : 0 < l.length) : at? l 0 = some l[0] := by have := at_get h; simpa using this

@[simp] theorem inb_nat (i n : Nat) : inb (i : Int) n = decide (i < n) := by simp [inb]
theorem inb_get {i n : Nat} (h : i < n) : inb (i : Int) n = true := by simp [h]

@[simp] theorem letv_eq (a : α) (f : α → β) : letv a f = f a := rfl
@[simp] theorem eqL_self (a : Nat) : eqL a a = true := by simp [eqL]
theorem eqL_of {a b : Nat} (h : a = b) : eqL a b = true := by simp [eqL, h]
@[simp] theorem sub_all (l : List α) : sub l 0 l.length = l := by simp [sub]
theorem sub_take (l : List α) (n : Nat) : sub l 0 n = l.take n := by simp [sub]
@[simp] theorem appOk_nil (n b : Nat) : appOk 0 0 n n b = (decide (n * b ≤ 140737488355328) && decide (n ≤ maxLen)) := by simp [appOk]
theorem appOk_true {a n b : Nat} (h1 : (a + n) * b ≤ 140737488355328) (h2 : a + n ≤ maxLen) : appOk a a n n b = true := by simp [appOk, h1, h2]
theorem slOk_true {l h : Int} {n : Nat} (h1 : 0 ≤ l) (h2 : l ≤ h) (h3 : h ≤ (n : Int)) : slOk l h n = true := by simp [slOk, h1, h2, h3]

@[simp] theorem thenB_inl (w : W) (f : W → Option α) : thenB (some (Sum.inl w : W ⊕ α)) f = f w := rfl
@[simp] theorem thenB_inr (a : α) (f : W → Option α) : thenB (some (Sum.inr a : W ⊕ α)) f = some a := rfl

theorem iter_succ (step : V → Option (V ⊕ O)) (n : Nat) (v : V) : iter step (n + 1) v = (step v).bind fun r => match r with
    | .inl v => iter step n v
    | .inr o => some o := rfl
theorem iter_inl {step : V → Option (V ⊕ O)} {n : Nat} {v v' : V} (h : step v = some (.inl v')) : iter step (n + 1) v = iter step n v' := by rw [iter_succ, h]; rfl
theorem iter_inr {step : V → Option (V ⊕ O)} {n : Nat} {v : V} {o : O} (h : step v = some (.inr o)) : iter step (n + 1) v = some o := by rw [iter_succ, h]; rfl

/-- A loop by the states that it goes through. -/
theorem iter_to {step : V → Option (V ⊕ O)} (g : Nat → V) (N : Nat) (o : O) (h : ∀ i, i < N → step (g i) = some (.inl (g (i + 1)))) (hN : step (g N) = some (.inr o)) :
    ∀ n, N < n → iter step n (g 0) = some o := by
  have main : ∀ k i n, i + k = N → k < n → iter step n (g i) = some o := by
    intro k
    induction k with
    | zero =>
      intro i n hi hn
      obtain ⟨m, rfl⟩ : ∃ m, n = m + 1 := ⟨n - 1, by omega⟩
      have : i = N := by omega
      subst this
      exact iter_inr hN
    | succ k ih =>
      intro i n hi hn
      obtain ⟨m, rfl⟩ : ∃ m, n = m + 1 := ⟨n - 1, by omega⟩
      rw [iter_inl (h i (by omega))]
      exact ih (i + 1) m (by omega) (by omega)
  intro n hn
  exact main N 0 n (by omega) hn

/-- Going over a list, with an end of its own at every element. -/
def loopL (f : α → S → S ⊕ O) (fin : S → O) : List α → S → O
  | [], s => fin s
  | x :: xs, s => match f x s with
    | .inl s' => loopL f fin xs s'
    | .inr o => o

theorem iter_listI {l : List α} {step : V → Option (V ⊕ O)} (enc : Nat → S → V) (f : α → S → S ⊕ O) (fin : S → O) (Inv : Nat → S → Prop)
    (h : ∀ i (hi : i < l.length) s, Inv i s → step (enc i s) = some (match f l[i] s with | .inl s' => .inl (enc (i + 1) s') | .inr o => .inr o) ∧ ∀ s', f l[i] s = .inl s' → Inv (i + 1) s')
    (hend : ∀ s, Inv l.length s → step (enc l.length s) = some (.inr (fin s))) : ∀ n, l.length < n → ∀ s, Inv 0 s → iter step n (enc 0 s) = some (loopL f fin l s) := by
  have main : ∀ k i n, i + k = l.length → k < n → ∀ s, Inv i s → iter step n (enc i s) = some (loopL f fin (l.drop i) s) := by
    intro k
    induction k with
    | zero =>
      intro i n hi hn s hs
      obtain ⟨m, rfl⟩ : ∃ m, n = m + 1 := ⟨n - 1, by omega⟩
      have : i = l.length := by omega
      subst this
      rw [iter_inr (hend s hs)]
      simp [loopL]
    | succ k ih =>
      intro i n hi hn s hs
      obtain ⟨m, rfl⟩ : ∃ m, n = m + 1 := ⟨n - 1, by omega⟩
      have hil : i < l.length := by omega
      obtain ⟨h1, h2⟩ := h i hil s hs
      rw [List.drop_eq_getElem_cons hil]
      simp only [loopL]
      cases hf : f l[i] s with
      | inl s' =>
        rw [hf] at h1
        rw [iter_inl h1]
        exact ih (i + 1) m (by omega) (by omega) s' (h2 s' hf)
      | inr o =>
        rw [hf] at h1
        rw [iter_inr h1]
  intro n hn s hs
  have := main l.length 0 n (by omega) hn s hs
  simpa using this

theorem iter_list {l : List α} {step : V → Option (V ⊕ O)} (enc : Nat → S → V) (f : α → S → S ⊕ O) (fin : S → O)
    (h : ∀ i (hi : i < l.length) s, step (enc i s) = some (match f l[i] s with | .inl s' => .inl (enc (i + 1) s') | .inr o => .inr o))
    (hend : ∀ s, step (enc l.length s) = some (.inr (fin s))) : ∀ n, l.length < n → ∀ s, iter step n (enc 0 s) = some (loopL f fin l s) := fun n hn s =>
  iter_listI enc f fin (fun _ _ => True) (fun i hi s _ => ⟨h i hi s, fun _ _ => trivial⟩) (fun s _ => hend s) n hn s trivial

theorem loopL_fold (g : α → S → S) (fin : S → O) : ∀ (l : List α) (s : S), loopL (fun x s => .inl (g x s)) fin l s = fin (l.foldl (fun s x => g x s) s)
  | [], _ => rfl
  | x :: xs, s => by simp only [loopL, List.foldl_cons]; exact loopL_fold g fin xs _

theorem iter_foldI {l : List α} {step : V → Option (V ⊕ O)} (enc : Nat → S → V) (g : α → S → S) (fin : S → O) (Inv : Nat → S → Prop)
    (h : ∀ i (hi : i < l.length) s, Inv i s → step (enc i s) = some (.inl (enc (i + 1) (g l[i] s))) ∧ Inv (i + 1) (g l[i] s))
    (hend : ∀ s, Inv l.length s → step (enc l.length s) = some (.inr (fin s))) (n : Nat) (hn : l.length < n) (s : S) (hs : Inv 0 s) : iter step n (enc 0 s) = some (fin (l.foldl (fun s x => g x s) s)) := by
  rw [iter_listI enc (fun x s => .inl (g x s)) fin Inv (fun i hi s hs => ⟨(h i hi s hs).1, fun s' hs' => by injection hs' with hs'; subst hs'; exact (h i hi s hs).2⟩) hend n hn s hs, loopL_fold]

theorem iter_fold {l : List α} {step : V → Option (V ⊕ O)} (enc : Nat → S → V) (g : α → S → S) (fin : S → O)
    (h : ∀ i (hi : i < l.length) s, step (enc i s) = some (.inl (enc (i + 1) (g l[i] s))))
    (hend : ∀ s, step (enc l.length s) = some (.inr (fin s))) (n : Nat) (hn : l.length < n) (s : S) : iter step n (enc 0 s) = some (fin (l.foldl (fun s x => g x s) s)) :=
  iter_foldI enc g fin (fun _ _ => True) (fun i hi s _ => ⟨h i hi s, trivial⟩) (fun s _ => hend s) n hn s trivial

/-- A search. -/
def findL (p : α → Bool) : List α → Option Nat
  | [] => none
  | x :: xs => bif p x then some 0 else (findL p xs).map (· + 1)

theorem findL_spec (p : α → Bool) : ∀ (l : List α), (∃ (i : Nat) (h : i < l.length), findL p l = some i ∧ p l[i] = true ∧ ∀ j (hj : j < i), p (l[j]'(by omega)) = false) ∨ (findL p l = none ∧ ∀ x ∈ l, p x = false)
  | [] => .inr ⟨rfl, by simp⟩
  | x :: xs => by
    cases hx : p x with
    | true => exact .inl ⟨0, by simp, by simp [findL, hx], by simpa using hx, fun j hj => by omega⟩
    | false =>
      rcases findL_spec p xs with ⟨i, h, h1, h2, h3⟩ | ⟨h1, h2⟩
      · refine .inl ⟨i + 1, by simpa using h, by simp [findL, hx, h1], by simpa using h2, fun j hj => ?_⟩
        cases j with
        | zero => simpa using hx
        | succ j => simpa using h3 j (by omega)
      · exact .inr ⟨by simp [findL, hx, h1], by simpa [hx] using h2⟩

/-- A loop that searches from the left for the first element that is so. -/
theorem iter_find {l : List α} {step : V → Option (V ⊕ (W ⊕ O))} (enc : Nat → V) (p : α → Bool) (w : W) (out : Nat → O)
    (h : ∀ i (hi : i < l.length), step (enc i) = some (bif p l[i] then .inr (.inr (out i)) else .inl (enc (i + 1))))
    (hend : step (enc l.length) = some (.inr (.inl w))) (n : Nat) (hn : l.length < n) : iter step n (enc 0) = some (match findL p l with | some i => .inr (out i) | none => .inl w) := by
  rcases findL_spec p l with ⟨i, hi, h1, h2, h3⟩ | ⟨h1, h2⟩
  · rw [h1]
    refine iter_to enc i _ (fun j hj => ?_) ?_ n (by omega)
    · rw [h j (by omega), h3 j hj]; rfl
    · rw [h i hi, h2]; rfl
  · rw [h1]
    refine iter_to enc l.length _ (fun j hj => ?_) hend n hn
    rw [h j hj, h2 _ (List.getElem_mem hj)]; rfl

theorem findL_isSome (p : α → Bool) (l : List α) : (findL p l).isSome = l.any p := by
  induction l with
  | nil => rfl
  | cons x xs ih =>
    simp only [findL, List.any_cons]
    cases p x with
    | true => rfl
    | false => simp [ih]
end
end Go.Gb

namespace Go.Gb
open Go.RowKit

section
variable {α : Type}

/-- An element among those to its left (told from the right), as far left as it goes. -/
def insRev (lt : α → α → Bool) (x : α) : List α → List α
  | [] => [x]
  | y :: ys => bif lt x y then y :: insRev lt x ys else x :: y :: ys

/-- Sorting by insertion. -/
def isort (lt : α → α → Bool) (l : List α) : List α := (l.foldl (fun rs x => insRev lt x rs) []).reverse

def gsIns2 (less : α → α → Option Bool) (m : Nat) (a1 : Int) : (Int × List α) → Option ((Int × List α) ⊕ List α)
  | (v3, v4) => ((bif (decide (v3 > (a1 : Int))) then bif inb v3 m then (at? v4 ((0 : Nat) + v3 : Int)).bind fun x1 => bif inb (IntKind.i64.wrap (v3 - 1)) m then (at? v4 ((0 : Nat) + (IntKind.i64.wrap (v3 - 1)) : Int)).bind fun x2 => less x1 x2 else none else none else some false) : Option (Bool)).bind fun v5 => (bif v5 then bif inb (IntKind.i64.wrap (v3 - 1)) m then (at? v4 ((0 : Nat) + (IntKind.i64.wrap (v3 - 1)) : Int)).bind fun x3 => bif inb v3 m then (at? v4 ((0 : Nat) + v3 : Int)).bind fun x4 => bif inb v3 m then (at? v4 ((0 : Nat) + v3 : Int)).bind fun _ => bif inb (IntKind.i64.wrap (v3 - 1)) m then (at? (v4.set ((0 : Nat) + v3 : Int).toNat x3) ((0 : Nat) + (IntKind.i64.wrap (v3 - 1)) : Int)).bind fun _ => some (.inl ((IntKind.i64.wrap (v3 - 1)), ((v4.set ((0 : Nat) + v3 : Int).toNat x3).set ((0 : Nat) + (IntKind.i64.wrap (v3 - 1)) : Int).toNat x4))) else none else none else none else none else some (.inr v4))

def gsIns1 (less : α → α → Option Bool) (n m : Nat) (a1 a2 : Int) : (Int × List α) → Option ((Int × List α) ⊕ List α)
  | (v1, v2) => (bif (decide (v1 < (a2 : Int))) then (iter (gsIns2 less m a1) n (v1, v2)).bind fun w1 => some (.inl ((IntKind.i64.wrap (v1 + 1)), w1)) else some (.inr v2))

def gsIns (less : α → α → Option Bool) (n : Nat) (a0 : List α) (a1 a2 : Int) : Option (List α) :=
  (iter (gsIns1 less n a0.length a1 a2) n ((IntKind.i64.wrap (a1 + 1)), a0)).bind fun w2 => some w2

variable {lt : α → α → Bool} {less : α → α → Option Bool}

theorem length_insRev (x : α) : ∀ ys : List α, (insRev lt x ys).length = ys.length + 1
  | [] => rfl
  | y :: ys => by
    simp only [insRev]
    cases lt x y <;> simp [length_insRev x ys]

theorem gsIns2_run (hl : ∀ x y, less x y = some (lt x y)) (m : Nat) (hm : m < 9223372036854775807) : ∀ (ys : List α) (x : α) (r : List α) (n : Nat), ys.length + 1 + r.length = m → ys.length < n →
    iter (gsIns2 less m 0) n (((ys.length : Nat) : Int), ys.reverse ++ x :: r) = some ((insRev lt x ys).reverse ++ r)
  | [], x, r, n, hmm, hn => by
    obtain ⟨k, rfl⟩ : ∃ k, n = k + 1 := ⟨n - 1, by simp at hn; omega⟩
    refine iter_inr ?_
    simp [gsIns2, insRev]
  | y :: ys, x, r, n, hmm, hn => by
    obtain ⟨k, rfl⟩ : ∃ k, n = k + 1 := ⟨n - 1, by simp at hn; omega⟩
    simp only [List.length_cons] at hmm hn
    have hlen : ((y :: ys).reverse ++ x :: r).length = m := by simp; omega
    have w1 : IntKind.i64.wrap ((((y :: ys).length : Nat) : Int) - 1) = ((ys.length : Nat) : Int) := by rw [wrap_pred (by simp) (by simp; omega)]; simp
    have g1 : ((y :: ys).reverse ++ x :: r)[(y :: ys).length]? = some x := by simp
    have g2 : ((y :: ys).reverse ++ x :: r)[ys.length]? = some y := by simp
    have d1 : decide ((((y :: ys).length : Nat) : Int) > 0) = true := by simp <;> omega
    have i1 : inb (((y :: ys).length : Nat) : Int) m = true := inb_get (by simp; omega)
    have i2 : inb ((ys.length : Nat) : Int) m = true := inb_get (by omega)
    have s1 : (((y :: ys).reverse ++ x :: r).set (((0 : Nat) : Int) + (((y :: ys).length : Nat) : Int)).toNat y).set (((0 : Nat) : Int) + ((ys.length : Nat) : Int)).toNat x = ys.reverse ++ x :: (y :: r) := by
      have e1 : (((0 : Nat) : Int) + (((y :: ys).length : Nat) : Int)).toNat = ys.length + 1 := by simp <;> omega
      have e2 : (((0 : Nat) : Int) + ((ys.length : Nat) : Int)).toNat = ys.length := by simp
      rw [e1, e2]
      simp only [List.reverse_cons, List.append_assoc, List.singleton_append]
      rw [List.set_append_right _ _ (by simp), List.set_append_right _ _ (by simp)]
      simp
    have g3 : (((y :: ys).reverse ++ x :: r).set (((0 : Nat) : Int) + (((y :: ys).length : Nat) : Int)).toNat y)[ys.length]? = some y := by
      rw [List.getElem?_set]
      have e1 : (((0 : Nat) : Int) + (((y :: ys).length : Nat) : Int)).toNat = ys.length + 1 := by simp <;> omega
      rw [e1, if_neg (by omega)]
      exact g2
    cases hxy : lt x y with
    | true =>
      have step : gsIns2 less m 0 (((y :: ys).length : Nat), (y :: ys).reverse ++ x :: r) = some (.inl (((ys.length : Nat) : Int), ys.reverse ++ x :: (y :: r))) := by
        simp only [gsIns2, d1, cond_true, i1, at_natz, g1, Option.bind_some, w1, i2, g2, hl, hxy, g3, s1]
      rw [iter_inl step, gsIns2_run hl m hm ys x (y :: r) k (by simp; omega) (by omega)]
      simp [insRev, hxy]
    | false =>
      refine (iter_inr ?_).trans rfl
      simp only [gsIns2, d1, cond_true, i1, at_natz, g1, Option.bind_some, w1, i2, g2, hl, hxy, cond_false]
      simp [insRev, hxy]

theorem gsIns_run (hl : ∀ x y, less x y = some (lt x y)) (n : Nat) (l : List α) (hn : l.length < n) (h : l.length < 9223372036854775807) : gsIns less n l 0 (l.length : Int) = some (isort lt l) := by
  have main : ∀ (rest : List α) (rs : List α) (k : Nat), rs.length + rest.length = l.length → rest.length < k →
      iter (gsIns1 less n l.length 0 (l.length : Int)) k (((rs.length : Nat) : Int), rs.reverse ++ rest) = some (rest.foldl (fun rs x => insRev lt x rs) rs).reverse := by
    intro rest
    induction rest with
    | nil =>
      intro rs k hk hkn
      obtain ⟨j, rfl⟩ : ∃ j, k = j + 1 := ⟨k - 1, by simp at hkn; omega⟩
      refine iter_inr ?_
      simp only [List.length_nil, Nat.add_zero] at hk
      simp [gsIns1, hk]
    | cons x rest ih =>
      intro rs k hk hkn
      simp only [List.length_cons] at hk hkn
      obtain ⟨j, rfl⟩ : ∃ j, k = j + 1 := ⟨k - 1, by omega⟩
      have h1 := gsIns2_run hl l.length h rs x rest n (by omega) (by omega)
      have hlt : ((rs.length : Nat) : Int) < (l.length : Int) := by omega
      have step : gsIns1 less n l.length 0 (l.length : Int) (((rs.length : Nat) : Int), rs.reverse ++ x :: rest) = some (.inl ((((insRev lt x rs).length : Nat) : Int), (insRev lt x rs).reverse ++ rest)) := by
        simp only [gsIns1, hlt, decide_true, cond_true, h1, Option.bind_some, length_insRev]
        rw [wrap_succ (by omega)]
      rw [iter_inl step, ih (insRev lt x rs) j (by rw [length_insRev]; omega) (by omega)]
      rfl
  unfold gsIns isort
  cases l with
  | nil =>
    obtain ⟨j, rfl⟩ : ∃ j, n = j + 1 := ⟨n - 1, by simp at hn; omega⟩
    have : gsIns1 less (j + 1) ([] : List α).length 0 (([] : List α).length : Int) (IntKind.i64.wrap (0 + 1), []) = some (.inr []) := by
      have w : IntKind.i64.wrap (0 + 1) = 1 := by decide
      rw [w]; simp [gsIns1]
    rw [iter_inr this]; rfl
  | cons x rest =>
    have w : IntKind.i64.wrap (0 + 1) = (([x].length : Nat) : Int) := by simp only [List.length_singleton]; decide
    rw [w]
    have := main rest [x] n (by simp; omega) (by simp at hn; omega)
    simp only [List.reverse_cons, List.reverse_nil, List.nil_append, List.singleton_append] at this
    rw [this]
    rfl

/-- What insertion gives: the same elements. -/
theorem insRev_mem (x z : α) : ∀ ys : List α, z ∈ insRev lt x ys ↔ z = x ∨ z ∈ ys
  | [] => by simp [insRev]
  | y :: ys => by
    simp only [insRev]
    cases lt x y with
    | true => simp only [cond_true, List.mem_cons, insRev_mem x z ys]; exact ⟨fun h => by rcases h with h | h | h <;> simp [h], fun h => by rcases h with h | h | h <;> simp [h]⟩
    | false => simp

theorem isort_mem (z : α) (l : List α) : z ∈ isort lt l ↔ z ∈ l := by
  unfold isort
  rw [List.mem_reverse]
  have : ∀ (l rs : List α), z ∈ l.foldl (fun rs x => insRev lt x rs) rs ↔ z ∈ l ∨ z ∈ rs := by
    intro l
    induction l with
    | nil => simp
    | cons x l ih => intro rs; simp only [List.foldl_cons, ih, insRev_mem, List.mem_cons]; exact ⟨fun h => by rcases h with h | h | h <;> simp [h], fun h => by rcases h with (h | h) | h <;> simp [h]⟩
  simpa using this l []

theorem length_isort (l : List α) : (isort lt l).length = l.length := by
  unfold isort
  rw [List.length_reverse]
  have : ∀ (l rs : List α), (l.foldl (fun rs x => insRev lt x rs) rs).length = l.length + rs.length := by
    intro l
    induction l with
    | nil => simp
    | cons x l ih => intro rs; simp only [List.foldl_cons, ih, length_insRev, List.length_cons]; omega
  simpa using this l []
end

/-- Ascending numbers. -/
theorem insRev_sorted (x : Int) : ∀ ys : List Int, ys.Pairwise (· ≥ ·) → (insRev (fun a b => decide (a < b)) x ys).Pairwise (· ≥ ·)
  | [], _ => by simp [insRev]
  | y :: ys, h => by
    simp only [insRev]
    rw [List.pairwise_cons] at h
    by_cases hxy : x < y
    · simp only [hxy, decide_true, cond_true, List.pairwise_cons]
      refine ⟨fun z hz => ?_, insRev_sorted x ys h.2⟩
      rcases (insRev_mem x z ys).1 hz with rfl | hz
      · exact Int.le_of_lt hxy
      · exact h.1 z hz
    · simp only [hxy, decide_false, cond_false, List.pairwise_cons, List.mem_cons]
      refine ⟨fun z hz => ?_, h⟩
      rcases hz with rfl | hz
      · omega
      · have := h.1 z hz; omega

theorem isort_sorted (l : List Int) : (isort (fun a b => decide (a < b)) l).Pairwise (· ≤ ·) := by
  unfold isort
  rw [List.pairwise_reverse]
  have : ∀ (l rs : List Int), rs.Pairwise (· ≥ ·) → (l.foldl (fun rs x => insRev (fun a b => decide (a < b)) x rs) rs).Pairwise (· ≥ ·) := by
    intro l
    induction l with
    | nil => intro rs h; exact h
    | cons x l ih => intro rs h; exact ih _ (insRev_sorted x rs h)
  exact this l [] List.Pairwise.nil

/-- Neighbours that are alike become one. -/
def compactL : List Int → List Int
  | [] => []
  | [x] => [x]
  | x :: y :: l => bif x == y then compactL (y :: l) else x :: compactL (y :: l)

/-- Two ascending lists without repeats of the same elements are one. -/
theorem strict_ext : ∀ {a b : List Int}, a.Pairwise (· < ·) → b.Pairwise (· < ·) → (∀ z, z ∈ a ↔ z ∈ b) → a = b
  | [], [], _, _, _ => rfl
  | [], y :: b, _, _, h => by have := (h y).2 (by simp); simp at this
  | x :: a, [], _, _, h => by have := (h x).1 (by simp); simp at this
  | x :: a, y :: b, ha, hb, h => by
    rw [List.pairwise_cons] at ha hb
    have hxy : x = y := by
      have h1 := (h x).1 (by simp)
      have h2 := (h y).2 (by simp)
      rcases List.mem_cons.1 h1 with h1 | h1
      · exact h1
      · rcases List.mem_cons.1 h2 with h2 | h2
        · exact h2.symm
        · have := ha.1 y h2; have := hb.1 x h1; omega
    subst hxy
    congr 1
    refine strict_ext ha.2 hb.2 fun z => ⟨fun hz => ?_, fun hz => ?_⟩
    · rcases List.mem_cons.1 ((h z).1 (List.mem_cons_of_mem _ hz)) with e | e
      · have := ha.1 z hz; omega
      · exact e
    · rcases List.mem_cons.1 ((h z).2 (List.mem_cons_of_mem _ hz)) with e | e
      · have := hb.1 z hz; omega
      · exact e

theorem compactL_mem : ∀ (l : List Int) (z : Int), z ∈ compactL l ↔ z ∈ l
  | [], _ => by simp [compactL]
  | [x], _ => by simp [compactL]
  | x :: y :: l, z => by
    simp only [compactL]
    by_cases h : x = y
    · subst h; simp only [beq_self_eq_true, cond_true, compactL_mem (x :: l) z, List.mem_cons, or_self_left]
    · have : (x == y) = false := by simp [h]
      simp only [this, cond_false, List.mem_cons, compactL_mem (y :: l) z]

theorem compactL_strict : ∀ (l : List Int), l.Pairwise (· ≤ ·) → (compactL l).Pairwise (· < ·)
  | [], _ => List.Pairwise.nil
  | [x], _ => by simp [compactL]
  | x :: y :: l, h => by
    rw [List.pairwise_cons] at h
    simp only [compactL]
    by_cases e : x = y
    · subst e; simp only [beq_self_eq_true, cond_true]; exact compactL_strict (x :: l) h.2
    · have hb : (x == y) = false := by simp [e]
      simp only [hb, cond_false, List.pairwise_cons]
      refine ⟨fun z hz => ?_, compactL_strict (y :: l) h.2⟩
      rw [compactL_mem] at hz
      have h1 := h.1 y (by simp)
      rcases List.mem_cons.1 hz with rfl | hz
      · omega
      · have := (List.pairwise_cons.1 h.2).1 z hz; omega

/-- Numbers, ascending, each once. -/
def setL (l : List Int) : List Int := compactL (isort (fun a b => decide (a < b)) l)
theorem setL_mem (l : List Int) (z : Int) : z ∈ setL l ↔ z ∈ l := by rw [setL, compactL_mem, isort_mem]
theorem setL_strict (l : List Int) : (setL l).Pairwise (· < ·) := compactL_strict _ (isort_sorted l)
theorem setL_unique {l m : List Int} (h : m.Pairwise (· < ·)) (hm : ∀ z, z ∈ m ↔ z ∈ l) : m = setL l := strict_ext h (setL_strict l) fun z => by rw [hm, setL_mem]
theorem setL_congr {l m : List Int} (h : ∀ z, z ∈ l ↔ z ∈ m) : setL l = setL m := strict_ext (setL_strict l) (setL_strict m) fun z => by rw [setL_mem, setL_mem, h]
end Go.Gb

namespace Go.Gb
open Go.RowKit

section
variable {α : Type}

/-- slices.IndexFunc -/
def gsIdx (l : List α) (φ : (α × Unit) → Option Bool) : Int → Option (Int ⊕ (Unit ⊕ Int))
  | v1 => (bif (decide (v1 < ((l.length : Int) : Int))) then (at? l v1).bind fun x1 => (φ (x1, ())).bind fun r1 => (bif r1 then (some v1).map fun a => .inr (.inr a) else some (.inl (IntKind.i64.wrap (v1 + 1)))) else some (.inr (.inl ())))
def gsIndexFunc (n : Nat) (l : List α) (φ : (α × Unit) → Option Bool) : Option Int :=
  thenB (iter (gsIdx l φ) n (0 : Int)) fun () => some ((-1) : Int)

def idxL (p : α → Bool) (l : List α) : Int := match findL p l with | some i => (i : Int) | none => -1

theorem gsIndexFunc_run {n : Nat} {l : List α} {φ : (α × Unit) → Option Bool} (p : α → Bool) (h : ∀ x ∈ l, φ (x, ()) = some (p x)) (hl : l.length < 1099511627776) (hn : l.length < n) : gsIndexFunc n l φ = some (idxL p l) := by
  unfold gsIndexFunc
  have := iter_find (l := l) (step := gsIdx l φ) (fun i => (i : Int)) p () (fun i => (i : Int)) (fun i hi => ?_) ?_ n hn
  · rw [show ((0 : Nat) : Int) = 0 from rfl] at this
    rw [this]
    unfold idxL
    cases findL p l <;> rfl
  · have hi' : decide (((i : Nat) : Int) < (l.length : Int)) = true := by simpa using hi
    simp only [gsIdx, hi', cond_true, at_get hi, Option.bind_some, h _ (List.getElem_mem hi)]
    cases p l[i] with
    | true => rfl
    | false => simp only [cond_false]; rw [wrap_succ (by omega)]
  · simp [gsIdx]

theorem idxL_neg (p : α → Bool) (l : List α) : decide (idxL p l < 0) = !(l.any p) := by
  unfold idxL
  rw [← findL_isSome]
  cases findL p l <;> simp

theorem idxL_ge (p : α → Bool) (l : List α) : decide (idxL p l ≥ 0) = l.any p := by
  unfold idxL
  rw [← findL_isSome]
  cases findL p l <;> simp

theorem idxL_get {p : α → Bool} {l : List α} (h : l.any p = true) : ∃ (i : Nat) (hi : i < l.length), idxL p l = (i : Int) ∧ l.find? p = some l[i] := by
  rcases findL_spec p l with ⟨i, hi, h1, h2, h3⟩ | ⟨h1, h2⟩
  · refine ⟨i, hi, by simp [idxL, h1], ?_⟩
    rw [List.find?_eq_some_iff_getElem]
    exact ⟨h2, i, hi, rfl, fun j hj => by simpa using h3 j hj⟩
  · rw [List.any_eq_true] at h
    obtain ⟨x, hx, hp⟩ := h
    rw [h2 x hx] at hp; cases hp

/-- slices.Index -/
def gsIx (eq : α → Bool) (l : List α) : Int → Option (Int ⊕ (Unit ⊕ Int))
  | v1 => (bif (decide (v1 < ((l.length : Int) : Int))) then (at? l v1).bind fun x1 => (bif eq x1 then (some v1).map fun a => .inr (.inr a) else some (.inl (IntKind.i64.wrap (v1 + 1)))) else some (.inr (.inl ())))
def gsIndex (n : Nat) (eq : α → Bool) (l : List α) : Option Int :=
  thenB (iter (gsIx eq l) n (0 : Int)) fun () => some ((-1) : Int)
theorem gsIndex_run {n : Nat} {l : List α} {eq : α → Bool} (hl : l.length < 1099511627776) (hn : l.length < n) : gsIndex n eq l = some (idxL eq l) := by
  unfold gsIndex
  have := iter_find (l := l) (step := gsIx eq l) (fun i => (i : Int)) eq () (fun i => (i : Int)) (fun i hi => ?_) ?_ n hn
  · rw [show ((0 : Nat) : Int) = 0 from rfl] at this
    rw [this]
    unfold idxL
    cases findL eq l <;> rfl
  · have hi' : decide (((i : Nat) : Int) < (l.length : Int)) = true := by simpa using hi
    simp only [gsIx, hi', cond_true, at_get hi, Option.bind_some]
    cases eq l[i] with
    | true => rfl
    | false => simp only [cond_false]; rw [wrap_succ (by omega)]
  · simp [gsIx]

/-- slices.Clone -/
noncomputable def gsClone (b : Nat) (a0 : List α) : Option (List α) :=
  (bif a0.isEmpty then (both (some ([] : (List α))) (bif appOk ([] : List α).length 0 a0.length a0.length b then letv (([] : List α) ++ a0) fun r1 => bif eqL (sub r1 0 r1.length).length r1.length then some (sub r1 0 r1.length) else none else none)) else bif appOk ([] : List α).length 0 a0.length a0.length b then letv (([] : List α) ++ a0) fun r2 => bif eqL (sub r2 0 r2.length).length r2.length then some (sub r2 0 r2.length) else none else none)
theorem gsClone_run {l : List α} {b : Nat} (h : l.length * b ≤ 140737488355328) (h2 : l.length ≤ maxLen) : gsClone b l = some l := by
  have : appOk ([] : List α).length 0 l.length l.length b = true := appOk_true (a := 0) (by simpa using h) (by simpa using h2)
  unfold gsClone
  cases l with
  | nil => simp only [this, cond_true, letv_eq, List.nil_append, sub_all, eqL_self, List.isEmpty_nil]; exact both_same _
  | cons x l => simp only [this, cond_true, letv_eq, List.nil_append, sub_all, eqL_self, List.isEmpty_cons, cond_false]

/-- slices.Grow at nil -/
def gsGrow (z : α) (b : Nat) (a1 : Int) : Option (List α) :=
  (bif (decide (a1 < (0 : Int))) then none else (bif (decide ((IntKind.i64.wrap (a1 - (IntKind.i64.wrap (0 - 0)))) > (0 : Int))) then bif mkOk (IntKind.i64.wrap (a1 - (IntKind.i64.wrap (0 - 0)))) b then bif slOk 0 0 ((IntKind.i64.wrap (a1 - (IntKind.i64.wrap (0 - 0)))).toNat) then bif eqL (sub (List.replicate (IntKind.i64.wrap (a1 - (IntKind.i64.wrap (0 - 0)))).toNat z) 0 0).length 0 then some (sub (List.replicate (IntKind.i64.wrap (a1 - (IntKind.i64.wrap (0 - 0)))).toNat z) 0 0) else none else none else none else some ([] : (List α))))
theorem gsGrow_run (z : α) {b n : Nat} (h : n * b ≤ 140737488355328) (hn : n < 1099511627776) : gsGrow z b (n : Int) = some [] := by
  have w0 : IntKind.i64.wrap (0 - 0) = 0 := by decide
  have w1 : IntKind.i64.wrap ((n : Int) - 0) = (n : Int) := by rw [Int.sub_zero]; exact wrap_nat (by omega)
  have d : decide ((n : Int) < 0) = false := by simp
  have m : mkOk (n : Int) b = true := by
    have h9 : n ≤ maxLen := by simp only [maxLen]; omega
    simp [mkOk, h, h9]
  have s : slOk 0 0 (n : Int).toNat = true := slOk_true (by omega) (by omega) (by omega)
  have e : sub (List.replicate (n : Int).toNat z) 0 0 = [] := by simp [sub]
  unfold gsGrow
  simp only [w0, w1, d, cond_false, m, cond_true, s, e]
  cases decide ((n : Int) > 0) <;> rfl

/-- slices.Concat -/
def gsCat1 (a0 : List (List α)) : (Int × Int) → Option ((Int × Int) ⊕ Int)
  | (v1, v2) => (bif (decide (v2 < ((a0.length : Int) : Int))) then (at? a0 v2).bind fun x1 => (bif (decide ((IntKind.i64.wrap (v1 + (x1.length : Int))) < (0 : Int))) then none else some (.inl ((IntKind.i64.wrap (v1 + (x1.length : Int))), (IntKind.i64.wrap (v2 + 1))))) else some (.inr v1))
def gsCat2 (b : Nat) (a0 : List (List α)) : (Int × List α) → Option ((Int × List α) ⊕ List α)
  | (v3, v4) => (bif (decide (v3 < ((a0.length : Int) : Int))) then (at? a0 v3).bind fun x2 => bif appOk v4.length v4.length x2.length x2.length b then letv (v4 ++ x2) fun r2 => bif eqL r2.length r2.length then some (.inl ((IntKind.i64.wrap (v3 + 1)), r2)) else none else none else bif eqL v4.length v4.length then some (.inr v4) else none)
def gsConcat (z : α) (b : Nat) (n : Nat) (a0 : List (List α)) : Option (List α) :=
  (iter (gsCat1 a0) n ((0 : Int), (0 : Int))).bind fun w1 => (gsGrow z b w1).bind fun r1 => bif eqL r1.length r1.length then (iter (gsCat2 b a0) n ((0 : Int), r1)).bind fun w2 => bif eqL (sub w2 0 w2.length).length w2.length then some (sub w2 0 w2.length) else none else none

theorem length_foldl_app (l : List (List α)) (s : List α) : l.foldl (fun s x => s ++ x) s = s ++ l.flatten := by
  induction l generalizing s with
  | nil => simp
  | cons x l ih => simp [ih]

theorem gsConcat_run (z : α) {b n : Nat} {a0 : List (List α)} (hf : a0.flatten.length < 1099511627776) (hb : a0.flatten.length * b ≤ 140737488355328) (hl : a0.length < 1099511627776) (hn : a0.length < n) : gsConcat z b n a0 = some a0.flatten := by
  have pre : ∀ i, i ≤ a0.length → (a0.take i).flatten.length ≤ a0.flatten.length := fun i _ => by
    conv => rhs; rw [← List.take_append_drop i a0, List.flatten_append, List.length_append]
    omega
  have step : ∀ i (hi : i < a0.length), (a0.take (i + 1)).flatten = (a0.take i).flatten ++ a0[i] := fun i hi => by rw [List.take_succ_eq_append_getElem hi, List.flatten_append]; simp only [List.flatten_cons, List.flatten_nil, List.append_nil]
  have h1 : iter (gsCat1 a0) n ((0 : Int), (0 : Int)) = some (a0.flatten.length : Int) := by
    refine iter_to (fun i => (((a0.take i).flatten.length : Int), ((i : Nat) : Int))) a0.length _ (fun i hi => ?_) ?_ n hn
    · have hi' : decide (((i : Nat) : Int) < (a0.length : Int)) = true := by simpa using hi
      have e1 : (((a0.take i).flatten.length : Int) + (a0[i].length : Int)) = ((a0.take (i + 1)).flatten.length : Int) := by rw [step i hi, List.length_append]; omega
      have h3 := pre (i + 1) (by omega)
      have e2 : IntKind.i64.wrap ((a0.take (i + 1)).flatten.length : Int) = ((a0.take (i + 1)).flatten.length : Int) := wrap_nat (by omega)
      have e3 : decide (((a0.take (i + 1)).flatten.length : Int) < 0) = false := by simp
      simp only [gsCat1, hi', cond_true, at_get hi, Option.bind_some, e1, e2, e3, cond_false]
      rw [wrap_succ (by omega)]
    · simp [gsCat1]
  have h2 : iter (gsCat2 b a0) n ((0 : Int), ([] : List α)) = some a0.flatten := by
    refine iter_to (fun i => (((i : Nat) : Int), (a0.take i).flatten)) a0.length _ (fun i hi => ?_) ?_ n hn
    · have hi' : decide (((i : Nat) : Int) < (a0.length : Int)) = true := by simpa using hi
      have h3 := pre (i + 1) (by omega)
      have e1 : (a0.take i).flatten.length + a0[i].length = (a0.take (i + 1)).flatten.length := by rw [step i hi, List.length_append]
      have ap : appOk (a0.take i).flatten.length (a0.take i).flatten.length a0[i].length a0[i].length b = true := appOk_true (by rw [e1]; exact Nat.le_trans (Nat.mul_le_mul_right _ h3) hb) (by simp only [maxLen]; omega)
      simp only [gsCat2, hi', cond_true, at_get hi, Option.bind_some, ap, letv_eq, eqL_self, ← step i hi]
      rw [wrap_succ (by omega)]
    · simp [gsCat2]
  unfold gsConcat
  simp only [h1, Option.bind_some, gsGrow_run z hb hf, eqL_self, cond_true, h2, sub_all]

/-- slices.Equal -/
def gsEq (ne : α → α → Bool) (a b : List α) : Int → Option (Int ⊕ (Unit ⊕ Bool))
  | v1 => (bif (decide (v1 < ((a.length : Int) : Int))) then (at? a v1).bind fun x1 => (at? b v1).bind fun x2 => (bif ne x1 x2 then (some false).map fun a => .inr (.inr a) else some (.inl (IntKind.i64.wrap (v1 + 1)))) else some (.inr (.inl ())))
def gsEqual (n : Nat) (ne : α → α → Bool) (a b : List α) : Option Bool :=
  (bif ((a.length : Int) != ((b.length : Int) : Int)) then some false else thenB (iter (gsEq ne a b) n (0 : Int)) fun () => some true)

theorem gsEqual_run [DecidableEq α] {n : Nat} {ne : α → α → Bool} {a b : List α} (h : ∀ x y, ne x y = !decide (x = y)) (hl : a.length < 1099511627776) (hn : a.length < n) : gsEqual n ne a b = some (decide (a = b)) := by
  unfold gsEqual
  by_cases hlen : a.length = b.length
  · have h0 : ((a.length : Int) != (b.length : Int)) = false := by simp [hlen]
    rw [h0, cond_false]
    by_cases he : a = b
    · subst he
      have := iter_to (step := gsEq ne a a) (fun i => ((i : Nat) : Int)) a.length (.inl ()) (fun i hi => ?_) ?_ n hn
      · rw [show ((0 : Nat) : Int) = 0 from rfl] at this
        rw [this]; simp
      · have hi' : decide (((i : Nat) : Int) < (a.length : Int)) = true := by simpa using hi
        simp only [gsEq, hi', cond_true, at_get hi, Option.bind_some, h, decide_true, Bool.not_true, cond_false]
        rw [wrap_succ (by omega)]
      · simp [gsEq]
    · -- the first place where they part
      have hp : ∃ i, ∃ (h1 : i < a.length) (h2 : i < b.length), a[i] ≠ b[i] ∧ ∀ j (hj : j < i), a[j]'(by omega) = b[j]'(by omega) := by
        have hex : ∃ i, ∃ (h1 : i < a.length) (h2 : i < b.length), a[i] ≠ b[i] := by
          refine Classical.byContradiction fun hc => he ?_
          refine List.ext_getElem hlen fun i h1 h2 => ?_
          exact Classical.byContradiction fun hne => hc ⟨i, h1, h2, hne⟩
        have hmin : ∀ k, (∃ i, i ≤ k ∧ ∃ (h1 : i < a.length) (h2 : i < b.length), a[i] ≠ b[i]) → ∃ i, ∃ (h1 : i < a.length) (h2 : i < b.length), a[i] ≠ b[i] ∧ ∀ j (hj : j < i), a[j]'(by omega) = b[j]'(by omega) := by
          intro k
          induction k with
          | zero =>
            rintro ⟨i, hi, h1, h2, h3⟩
            have : i = 0 := by omega
            subst this
            exact ⟨0, h1, h2, h3, fun j hj => by omega⟩
          | succ k ih =>
            rintro ⟨i, hi, h1, h2, h3⟩
            by_cases hs : ∃ i, i ≤ k ∧ ∃ (h1 : i < a.length) (h2 : i < b.length), a[i] ≠ b[i]
            · exact ih hs
            · refine ⟨i, h1, h2, h3, fun j hj => ?_⟩
              exact Classical.byContradiction fun hne => hs ⟨j, by omega, by omega, by omega, hne⟩
        obtain ⟨i, h1, h2, h3⟩ := hex
        exact hmin i ⟨i, Nat.le_refl i, h1, h2, h3⟩
      obtain ⟨i, h1, h2, h3, h4⟩ := hp
      have := iter_to (step := gsEq ne a b) (fun i => ((i : Nat) : Int)) i (.inr false) (fun j hj => ?_) ?_ n (by omega)
      · rw [show ((0 : Nat) : Int) = 0 from rfl] at this
        rw [this]; simp [he]
      · have hj' : decide (((j : Nat) : Int) < (a.length : Int)) = true := by simp; omega
        simp only [gsEq, hj', cond_true, at_get (show j < a.length by omega), at_get (show j < b.length by omega), Option.bind_some, h, h4 j hj, decide_true, Bool.not_true, cond_false]
        rw [wrap_succ (by omega)]
      · have hi' : decide (((i : Nat) : Int) < (a.length : Int)) = true := by simpa using h1
        simp only [gsEq, hi', cond_true, at_get h1, at_get h2, Option.bind_some, h, h3, decide_false, Bool.not_false, Option.map_some]
  · have h0 : ((a.length : Int) != (b.length : Int)) = true := by simp; omega
    rw [h0, cond_true]
    have : a ≠ b := fun e => hlen (by rw [e])
    simp [this]

/-- slices.DeleteFunc -/
def gsDel1 (a0 : List α) (φ : (α × Unit) → Option Bool) : (Int × Int × List α) → Option ((Int × Int × List α) ⊕ (Int × List α))
  | (v1, v2, v3) => (bif (decide (v2 < (((a0.length : Nat) : Int) : Int))) then (bif inb v2 a0.length then (at? v3 ((0 : Nat) + v2 : Int)).bind fun x1 => (φ (x1, ())).bind fun r2 => (bif (!r2) then bif inb v1 a0.length then (at? v3 ((0 : Nat) + v1 : Int)).bind fun _ => some ((IntKind.i64.wrap (v1 + 1)), (v3.set ((0 : Nat) + v1 : Int).toNat x1)) else none else some (v1, v3)) else none : Option (Int × (List α))).bind fun (v4, v5) => some (.inl (v4, (IntKind.i64.wrap (v2 + 1)), v5)) else some (.inr (v1, v3)))
def gsDeleteFunc (n : Nat) (a0 : List α) (φ : (α × Unit) → Option Bool) : Option (Unit × List α) :=
  bif eqL (sub a0 0 a0.length).length a0.length then (gsIndexFunc n (sub a0 0 a0.length) φ).bind fun r1 => (bif (r1 == ((-1) : Int)) then bif eqL a0.length a0.length then bif eqL (sub a0 0 a0.length).length a0.length then some ((), (sub a0 0 a0.length)) else none else none else (iter (gsDel1 a0 φ) n (r1, (IntKind.i64.wrap (r1 + 1)), a0)).bind fun (w1, w2) => bif slOk w1 ((a0.length : Nat) : Int) a0.length then bif slOk 0 w1 a0.length then bif eqL ((w1 : Int).toNat) ((w1 : Int).toNat) then bif eqL (sub (w2.take (0 + (w1 : Int).toNat)) 0 ((w1 : Int).toNat)).length ((w1 : Int).toNat) then some ((), (sub (w2.take (0 + (w1 : Int).toNat)) 0 ((w1 : Int).toNat))) else none else none else none else none) else none

theorem gsDeleteFunc_run {n : Nat} {l : List α} {φ : (α × Unit) → Option Bool} (p : α → Bool) (h : ∀ x ∈ l, φ (x, ()) = some (p x)) (hl : l.length < 1099511627776) (hn : l.length < n) : gsDeleteFunc n l φ = some ((), l.filter fun x => !p x) := by
  unfold gsDeleteFunc
  simp only [sub_all, eqL_self, cond_true, gsIndexFunc_run p h hl hn, Option.bind_some]
  rcases findL_spec p l with ⟨i, hi, h1, h2, h3⟩ | ⟨h1, h2⟩
  · have e1 : idxL p l = (i : Int) := by simp [idxL, h1]
    have e2 : (((i : Nat) : Int) == -1) = false := by simp <;> omega
    simp only [e1, e2, cond_false]
    rw [wrap_succ (by omega)]
    -- behind m elements: the kept ones of the first m, then what was there
    have keep : ∀ m, (l.take m).filter (fun x => !p x) = (l.take m).filter (fun x => !p x) := fun _ => rfl
    have kl : ∀ m, ((l.take m).filter (fun x => !p x)).length ≤ m := fun m => Nat.le_trans (List.length_filter_le _ _) (by rw [List.length_take]; exact Nat.min_le_left _ _)
    have base : (l.take (i + 1)).filter (fun x => !p x) = l.take i := by
      rw [List.take_succ_eq_append_getElem hi, List.filter_append]
      simp only [List.filter_cons, h2, Bool.not_true, Bool.false_eq_true, if_false, List.filter_nil, List.append_nil]
      rw [List.filter_eq_self]
      intro x hx
      obtain ⟨j, hj, rfl⟩ := List.getElem_of_mem hx
      rw [List.length_take] at hj
      rw [List.getElem_take, h3 j (by omega)]; rfl
    have main : ∀ k m (v : List α) (n : Nat), m + k = l.length → i < m → k < n → v.length = l.length → v.drop m = l.drop m → v.take ((l.take m).filter (fun x => !p x)).length = (l.take m).filter (fun x => !p x) → ((l.take m).filter (fun x => !p x)).length < m →
        ∃ w, iter (gsDel1 l φ) n ((((l.take m).filter (fun x => !p x)).length : Int), (m : Int), v) = some (((l.filter fun x => !p x).length : Int), w) ∧ w.take (l.filter fun x => !p x).length = (l.filter fun x => !p x) := by
      intro k
      induction k with
      | zero =>
        intro m v n hm him hkn hv hd ht hlt
        obtain ⟨j, rfl⟩ : ∃ j, n = j + 1 := ⟨n - 1, by omega⟩
        have hml : m = l.length := by omega
        subst hml
        rw [List.take_length] at ht ⊢
        exact ⟨v, iter_inr (by simp [gsDel1]), ht⟩
      | succ k ih =>
        intro m v n hm him hkn hv hd ht hlt
        obtain ⟨j, rfl⟩ : ∃ j, n = j + 1 := ⟨n - 1, by omega⟩
        have hml : m < l.length := by omega
        have d1 : decide (((m : Nat) : Int) < ((l.length : Nat) : Int)) = true := by simpa using hml
        have g1 : v[m]? = some l[m] := by
          have := congrArg (fun x : List α => x[0]?) hd
          simpa [List.getElem?_drop, hml] using this
        have hp := h l[m] (List.getElem_mem hml)
        cases hpm : p l[m] with
        | true =>
          have ef : (l.take (m + 1)).filter (fun x => !p x) = (l.take m).filter (fun x => !p x) := by
            rw [List.take_succ_eq_append_getElem hml, List.filter_append]; simp [hpm]
          have st : gsDel1 l φ ((((l.take m).filter (fun x => !p x)).length : Int), (m : Int), v) = some (.inl ((((l.take (m + 1)).filter (fun x => !p x)).length : Int), ((m + 1 : Nat) : Int), v)) := by
            simp only [gsDel1, d1, cond_true, inb_get hml, at_natz, g1, Option.bind_some, hp, hpm, Bool.not_true, cond_false, ef]
            rw [wrap_succ (by omega)]
          rw [iter_inl st]
          exact ih (m + 1) v j (by omega) (by omega) (by omega) hv (by rw [← List.drop_drop, ← List.drop_drop, hd]) (by rw [ef]; exact ht) (by rw [ef]; omega)
        | false =>
          have ef : (l.take (m + 1)).filter (fun x => !p x) = (l.take m).filter (fun x => !p x) ++ [l[m]] := by
            rw [List.take_succ_eq_append_getElem hml, List.filter_append]; simp [hpm]
          generalize hK : (l.take m).filter (fun x => !p x) = K at *
          have g2 : v[K.length]? = some v[K.length] := by rw [List.getElem?_eq_getElem (by omega)]
          have st : gsDel1 l φ ((K.length : Int), (m : Int), v) = some (.inl (((K ++ [l[m]]).length : Int), ((m + 1 : Nat) : Int), v.set K.length l[m])) := by
            have z : (((0 : Nat) : Int) + (K.length : Int)).toNat = K.length := by simp
            simp only [gsDel1, d1, cond_true, inb_get hml, inb_get (show K.length < l.length by omega), at_natz, g1, g2, Option.bind_some, hp, hpm, Bool.not_false, z]
            rw [wrap_succ (by omega), wrap_succ (by omega), List.length_append, List.length_singleton]
          rw [iter_inl st]
          have := ih (m + 1) (v.set K.length l[m]) j (by omega) (by omega) (by omega) (by simp [hv]) (by
            rw [List.drop_set_of_lt (by omega), ← List.drop_drop, ← List.drop_drop, hd]) (by
            rw [ef, List.length_append, List.length_singleton, List.take_succ_eq_append_getElem (by rw [List.length_set]; omega), List.getElem_set_self]
            congr 1
            rw [List.take_set_of_le (Nat.le_refl _), ht]) (by rw [ef, List.length_append, List.length_singleton]; omega)
          rw [ef] at this
          exact this
    obtain ⟨w, hw1, hw2⟩ := main (l.length - (i + 1)) (i + 1) l n (by omega) (by omega) (by omega) rfl rfl (by rw [base, List.length_take, Nat.min_eq_left (by omega)]) (by rw [base, List.length_take]; omega)
    rw [base, List.length_take, Nat.min_eq_left (by omega)] at hw1
    rw [hw1]
    have fl : (l.filter fun x => !p x).length ≤ l.length := List.length_filter_le _ _
    have s1 : slOk ((l.filter fun x => !p x).length : Int) ((l.length : Nat) : Int) l.length = true := slOk_true (by omega) (by omega) (by omega)
    have s2 : slOk 0 ((l.filter fun x => !p x).length : Int) l.length = true := slOk_true (by omega) (by omega) (by omega)
    simp only [Option.bind_some, s1, s2, cond_true, Int.toNat_natCast, eqL_self, Nat.zero_add, hw2, sub_all]
  · have e1 : idxL p l = -1 := by simp [idxL, h1]
    have e2 : l.filter (fun x => !p x) = l := by
      rw [List.filter_eq_self]
      intro x hx; rw [h2 x hx]; rfl
    simp [e1, e2]
end
end Go.Gb

namespace Go.Gb
open Go.RowKit

theorem first_or_none (p : Nat → Bool) (a b : Nat) : (∃ i, a ≤ i ∧ i < b ∧ p i = true ∧ ∀ j, a ≤ j → j < i → p j = false) ∨ ∀ j, a ≤ j → j < b → p j = false := by
  by_cases hab : a ≤ b
  · obtain ⟨k, rfl⟩ : ∃ k, b = a + k := ⟨b - a, by omega⟩
    clear hab
    induction k with
    | zero => exact .inr fun j h1 h2 => by omega
    | succ k ih =>
      rcases ih with ⟨i, h1, h2, h3, h4⟩ | h
      · exact .inl ⟨i, h1, by omega, h3, h4⟩
      · cases hp : p (a + k) with
        | true => exact .inl ⟨a + k, by omega, by omega, hp, fun j h1 h2 => h j h1 h2⟩
        | false =>
          refine .inr fun j h1 h2 => ?_
          by_cases e : j = a + k
          · subst e; exact hp
          · exact h j h1 (by omega)
  · exact .inr fun j h1 h2 => by omega

section
variable {α : Type}

def gsCom2 (ne : α → α → Bool) (a0 : List α) (v1 : Int) : (Int × Int × List α) → Option ((Int × Int × List α) ⊕ (Int × List α))
  | (v2, v3, v4) => (bif (decide (v3 < ((((a0.length - (v1 : Int).toNat) : Nat) : Int) : Int))) then (bif inb v3 (a0.length - (v1 : Int).toNat) then (at? v4 (((0 + (v1 : Int).toNat) : Nat) + v3 : Int)).bind fun x3 => bif inb (IntKind.i64.wrap (v3 - 1)) (a0.length - (v1 : Int).toNat) then (at? v4 (((0 + (v1 : Int).toNat) : Nat) + (IntKind.i64.wrap (v3 - 1)) : Int)).bind fun x4 => (bif ne x3 x4 then bif inb v3 (a0.length - (v1 : Int).toNat) then (at? v4 (((0 + (v1 : Int).toNat) : Nat) + v3 : Int)).bind fun x5 => bif inb v2 a0.length then (at? v4 ((0 : Nat) + v2 : Int)).bind fun _ => some ((IntKind.i64.wrap (v2 + 1)), (v4.set ((0 : Nat) + v2 : Int).toNat x5)) else none else none else some (v2, v4)) else none else none : Option (Int × (List α))).bind fun (v5, v6) => some (.inl (v5, (IntKind.i64.wrap (v3 + 1)), v6)) else some (.inr (v2, v4)))
def gsCom1 (eq ne : α → α → Bool) (n : Nat) (a0 : List α) : Int → Option (Int ⊕ (Unit ⊕ (Unit × List α)))
  | v1 => (bif (decide (v1 < (((a0.length : Nat) : Int) : Int))) then bif inb v1 a0.length then (at? a0 ((0 : Nat) + v1 : Int)).bind fun x1 => bif inb (IntKind.i64.wrap (v1 - 1)) a0.length then (at? a0 ((0 : Nat) + (IntKind.i64.wrap (v1 - 1)) : Int)).bind fun x2 => (bif eq x1 x2 then bif slOk v1 ((a0.length : Nat) : Int) a0.length then (iter (gsCom2 ne a0 v1) n (v1, (1 : Int), a0)).bind fun (w1, w2) => bif slOk w1 ((a0.length : Nat) : Int) a0.length then bif slOk 0 w1 a0.length then (bif eqL ((w1 : Int).toNat) ((w1 : Int).toNat) then bif eqL (sub (w2.take (0 + (w1 : Int).toNat)) 0 ((w1 : Int).toNat)).length ((w1 : Int).toNat) then some ((), (sub (w2.take (0 + (w1 : Int).toNat)) 0 ((w1 : Int).toNat))) else none else none).map fun a => .inr (.inr a) else none else none else none else some (.inl (IntKind.i64.wrap (v1 + 1)))) else none else none else some (.inr (.inl ())))
def gsCompact (eq ne : α → α → Bool) (n : Nat) (a0 : List α) : Option (Unit × List α) :=
  (bif (decide (((a0.length : Nat) : Int) < (2 : Int))) then bif eqL a0.length a0.length then bif eqL (sub a0 0 a0.length).length a0.length then some ((), (sub a0 0 a0.length)) else none else none else thenB (iter (gsCom1 eq ne n a0) n (1 : Int)) fun () => bif eqL a0.length a0.length then bif eqL (sub a0 0 a0.length).length a0.length then some ((), (sub a0 0 a0.length)) else none else none)

def cptF (ne : α → α → Bool) (s : α × List α) (x : α) : α × List α := (x, bif ne x s.1 then s.2 ++ [x] else s.2)
/-- Neighbours that are alike become one. -/
def cptG (ne : α → α → Bool) : List α → List α
  | [] => []
  | x :: xs => x :: (xs.foldl (cptF ne) (x, [])).2

theorem cptF_app (ne : α → α → Bool) (xs : List α) (x : α) (K : List α) : xs.foldl (cptF ne) (x, K) = ((xs.foldl (cptF ne) (x, [])).1, K ++ (xs.foldl (cptF ne) (x, [])).2) := by
  induction xs generalizing x K with
  | nil => simp
  | cons y xs ih =>
    simp only [List.foldl_cons, cptF]
    cases ne y x with
    | true => simp only [cond_true, List.nil_append]; rw [ih y (K ++ [y]), ih y [y]]; simp
    | false => simp only [cond_false]; rw [ih y K]

theorem cptF_diff (ne : α → α → Bool) : ∀ (xs : List α) (x : α), (∀ i (h : i + 1 < (x :: xs).length), ne ((x :: xs)[i + 1]) ((x :: xs)[i]) = true) → xs.foldl (cptF ne) (x, []) = ((x :: xs).getLast (by simp), xs)
  | [], x, _ => rfl
  | y :: xs, x, h => by
    have h0 := h 0 (by simp)
    simp only [List.getElem_cons_succ, List.getElem_cons_zero] at h0
    simp only [List.foldl_cons, cptF, h0, cond_true, List.nil_append]
    rw [cptF_app, cptF_diff ne xs y (fun i hi => h (i + 1) (by simp at hi ⊢; omega))]
    simp

theorem gsCompact_run {eq ne : α → α → Bool} (hen : ∀ x y, eq x y = !ne x y) {n : Nat} {l : List α} (hl : l.length < 1099511627776) (hn : l.length < n) : gsCompact eq ne n l = some ((), cptG ne l) := by
  unfold gsCompact
  by_cases h2 : l.length < 2
  · have d : decide (((l.length : Nat) : Int) < 2) = true := by simp; omega
    simp only [d, cond_true, eqL_self, sub_all]
    match l, h2 with
    | [], _ => rfl
    | [x], _ => rfl
    | x :: y :: l, h2 => exact absurd h2 (by simp)
  · have d : decide (((l.length : Nat) : Int) < 2) = false := by simp; omega
    simp only [d, cond_false, eqL_self, cond_true, sub_all]
    obtain ⟨x0, xs, rfl⟩ : ∃ x xs, l = x :: xs := by
      cases l with
      | nil => simp at h2
      | cons x xs => exact ⟨x, xs, rfl⟩
    generalize hL : (x0 :: xs) = l at *
    have step1 : ∀ (i : Nat) (hi : i < l.length) (h1 : 1 ≤ i), eq (l[i]) (l[i - 1]'(by omega)) = false → gsCom1 eq ne n l (i : Int) = some (.inl ((i + 1 : Nat) : Int)) := fun i hi h1 he => by
      have d1 : decide (((i : Nat) : Int) < ((l.length : Nat) : Int)) = true := by simpa using hi
      simp only [gsCom1, d1, cond_true, inb_get hi, at_getz hi, Option.bind_some]
      rw [wrap_pred (by omega) (by omega)]
      simp only [inb_get (show i - 1 < l.length by omega), cond_true, at_getz (show i - 1 < l.length by omega), Option.bind_some, he, cond_false]
      rw [wrap_succ (by omega)]
    rcases first_or_none (fun i => if h : i < l.length then eq (l[i]) (l[i - 1]'(by omega)) else false) 1 l.length with ⟨i, h1, hi, hp, hq⟩ | hnone
    · simp only [hi, dite_true] at hp
      have hq' : ∀ j (hj1 : 1 ≤ j) (hj : j < i), eq (l[j]'(by omega)) (l[j - 1]'(by omega)) = false := fun j hj1 hj => by
        have := hq j hj1 hj
        simpa only [show j < l.length by omega, dite_true] using this
      have hK : ∀ s : α × List α, ((l.drop (i + 1)).foldl (cptF ne) s).2.length ≤ s.2.length + (l.length - (i + 1)) := by
        have : ∀ (ys : List α) (s : α × List α), (ys.foldl (cptF ne) s).2.length ≤ s.2.length + ys.length := by
          intro ys
          induction ys with
          | nil => intro s; simp
          | cons y ys ih =>
            intro s
            simp only [List.foldl_cons, List.length_cons]
            refine Nat.le_trans (ih _) ?_
            simp only [cptF]
            cases ne y s.1 <;> simp <;> omega
        intro s
        have := this (l.drop (i + 1)) s
        rwa [List.length_drop] at this
      have hin : iter (gsCom2 ne l (i : Int)) n ((i : Int), (1 : Int), l) = some (((i + ((l.drop (i + 1)).foldl (cptF ne) (l[i], [])).2.length : Nat) : Int), l.take i ++ ((l.drop (i + 1)).foldl (cptF ne) (l[i], [])).2 ++ l.drop (i + ((l.drop (i + 1)).foldl (cptF ne) (l[i], [])).2.length)) := by
        have := iter_foldI (l := l.drop (i + 1)) (step := gsCom2 ne l (i : Int)) (fun j (s : α × List α) => (((i + s.2.length : Nat) : Int), ((j + 1 : Nat) : Int), l.take i ++ s.2 ++ l.drop (i + s.2.length))) (fun x s => cptF ne s x) (fun s => (((i + s.2.length : Nat) : Int), l.take i ++ s.2 ++ l.drop (i + s.2.length)))
          (fun j s => s.2.length ≤ j ∧ l[i + j]? = some s.1) (fun j hj s hs => ?_) (fun s hs => ?_) n (by rw [List.length_drop]; omega) (l[i], []) ⟨Nat.le_refl 0, by simp [hi]⟩
        · simpa using this
        · obtain ⟨s1, s2⟩ := hs
          rw [List.length_drop] at hj
          have hx : (l.drop (i + 1))[j]'(by rw [List.length_drop]; omega) = l[i + 1 + j]'(by omega) := by rw [List.getElem_drop]
          have gv : ∀ k, s.2.length ≤ k → (l.take i ++ s.2 ++ l.drop (i + s.2.length))[i + k]? = l[i + k]? := fun k hk => by
            rw [List.getElem?_append_right (by simp [List.length_take]; omega), List.getElem?_drop]
            congr 1
            simp only [List.length_append, List.length_take]
            omega
          have tn : ((i : Nat) : Int).toNat = i := by simp
          have d1 : decide (((j + 1 : Nat) : Int) < (((l.length - i : Nat)) : Int)) = true := by simp; omega
          have a1 : at? (l.take i ++ s.2 ++ l.drop (i + s.2.length)) (((0 + i : Nat) : Int) + ((j + 1 : Nat) : Int)) = some (l[i + 1 + j]'(by omega)) := by
            rw [show (((0 + i : Nat) : Int) + ((j + 1 : Nat) : Int)) = ((i + (j + 1) : Nat) : Int) by omega, at_nat, gv (j + 1) (by omega), show i + (j + 1) = i + 1 + j by omega]
            exact List.getElem?_eq_getElem (by omega)
          have a2 : at? (l.take i ++ s.2 ++ l.drop (i + s.2.length)) (((0 + i : Nat) : Int) + ((j : Nat) : Int)) = some s.1 := by
            rw [show (((0 + i : Nat) : Int) + ((j : Nat) : Int)) = ((i + j : Nat) : Int) by omega, at_nat, gv j s1, s2]
          have wp : IntKind.i64.wrap (((j + 1 : Nat) : Int) - 1) = ((j : Nat) : Int) := by rw [wrap_pred (by omega) (by omega)]; rfl
          refine ⟨?_, ?_, ?_⟩
          · simp only [gsCom2, tn, d1, cond_true, inb_get (show j + 1 < l.length - i by omega), a1, Option.bind_some, wp, inb_get (show j < l.length - i by omega), a2, hx, cptF]
            cases hne : ne (l[i + 1 + j]'(by omega)) s.1 with
            | false => simp only [cond_false, Option.bind_some]; rw [wrap_succ (by omega)]
            | true =>
              have g2 : at? (l.take i ++ s.2 ++ l.drop (i + s.2.length)) (((0 : Nat) : Int) + ((i + s.2.length : Nat) : Int)) = some (l[i + s.2.length]'(by omega)) := by
                rw [at_natz, gv s.2.length (Nat.le_refl _)]
                exact List.getElem?_eq_getElem (by omega)
              have z : (((0 : Nat) : Int) + ((i + s.2.length : Nat) : Int)).toNat = i + s.2.length := by omega
              have st : (l.take i ++ s.2 ++ l.drop (i + s.2.length)).set (i + s.2.length) (l[i + 1 + j]'(by omega)) = l.take i ++ (s.2 ++ [l[i + 1 + j]'(by omega)]) ++ l.drop (i + (s.2 ++ [l[i + 1 + j]'(by omega)]).length) := by
                rw [List.set_append_right _ _ (by simp [List.length_take]; omega)]
                have e0 : i + s.2.length - (l.take i ++ s.2).length = 0 := by simp [List.length_take]; omega
                rw [e0, List.drop_eq_getElem_cons (show i + s.2.length < l.length by omega)]
                simp only [List.set_cons_zero, List.length_append, List.length_singleton, List.append_assoc, List.singleton_append]
                rfl
              simp only [cond_true, inb_get (show i + s.2.length < l.length by omega), g2, Option.bind_some, z, st]
              rw [wrap_succ (by omega), wrap_succ (by omega), List.length_append, List.length_singleton]
              rfl
          · simp only [cptF]
            cases ne _ s.1 <;> simp <;> omega
          · simp only [cptF]
            rw [show i + (j + 1) = i + 1 + j by omega, hx]
            exact List.getElem?_eq_getElem (by omega)
        · obtain ⟨s1, s2⟩ := hs
          rw [List.length_drop] at s1 ⊢
          have tn : ((i : Nat) : Int).toNat = i := by simp
          have d1 : decide (((l.length - (i + 1) + 1 : Nat) : Int) < (((l.length - i : Nat)) : Int)) = false := by simp; omega
          simp only [gsCom2, tn, d1, cond_false]
      have hfin : gsCom1 eq ne n l (i : Int) = some (.inr (.inr ((), cptG ne l))) := by
        have d1 : decide (((i : Nat) : Int) < ((l.length : Nat) : Int)) = true := by simpa using hi
        simp only [gsCom1, d1, cond_true, inb_get hi, at_getz hi, Option.bind_some]
        rw [wrap_pred (by omega) (by omega)]
        simp only [inb_get (show i - 1 < l.length by omega), cond_true, at_getz (show i - 1 < l.length by omega), Option.bind_some, hp]
        have s0 : slOk ((i : Nat) : Int) ((l.length : Nat) : Int) l.length = true := slOk_true (by omega) (by omega) (by omega)
        have hk := hK (l[i], [])
        simp only [List.length_nil, Nat.zero_add] at hk
        have res : l.take i ++ ((l.drop (i + 1)).foldl (cptF ne) (l[i], [])).2 = cptG ne l := by
          -- the elements ahead of the first pair that is alike stay; that one goes
          have hd : ne (l[i]) (l[i - 1]'(by omega)) = false := by
            have := hen (l[i]) (l[i - 1]'(by omega)); rw [hp] at this
            simpa using this.symm
          subst hL
          obtain ⟨m, rfl⟩ : ∃ m, i = m + 1 := ⟨i - 1, by omega⟩
          have hm : m < xs.length := by simp at hi; omega
          have e1 : xs = xs.take m ++ xs[m] :: xs.drop (m + 1) := by rw [← List.drop_eq_getElem_cons hm, List.take_append_drop]
          have e2 : (xs.take m).foldl (cptF ne) (x0, []) = ((x0 :: xs.take m).getLast (by simp), xs.take m) := by
            refine cptF_diff ne _ x0 fun k hk => ?_
            simp only [List.length_cons, List.length_take] at hk
            have h9 := hq' (k + 1) (by omega) (by omega)
            rw [hen] at h9
            have : ne ((x0 :: xs)[k + 1]'(by simp; omega)) ((x0 :: xs)[k]'(by simp; omega)) = true := by
              simpa using h9
            have t : ∀ q (hq : q < (x0 :: xs.take m).length), (x0 :: xs.take m)[q] = (x0 :: xs)[q]'(by simp [List.length_take] at hq ⊢; omega) := fun q hq => by
              cases q with
              | zero => rfl
              | succ q => simp
            rw [t, t]; exact this
          have lastE : (x0 :: xs.take m).getLast (by simp) = (x0 :: xs)[m + 1 - 1]'(by simp; omega) := by
            rw [List.getLast_eq_getElem]
            simp only [List.length_cons, List.length_take, Nat.add_sub_cancel]
            have : min m xs.length = m := Nat.min_eq_left (by omega)
            cases m with
            | zero => simp
            | succ m => simp [this]
          simp only [List.getElem_cons_succ, List.drop_succ_cons, List.take_succ_cons, List.cons_append, cptG, List.cons.injEq, true_and]
          conv => rhs; rw [e1, List.foldl_append, e2]
          simp only [List.foldl_cons, cptF]
          rw [lastE]
          simp only [List.getElem_cons_succ] at hd
          rw [hd, cond_false, cptF_app ne (List.drop (m + 1) xs) xs[m] (List.take m xs)]
        have tl : (l.take i ++ ((l.drop (i + 1)).foldl (cptF ne) (l[i], [])).2).length = i + ((l.drop (i + 1)).foldl (cptF ne) (l[i], [])).2.length := by rw [List.length_append, List.length_take, Nat.min_eq_left (by omega)]
        simp only [s0, cond_true, hin, Option.bind_some]
        have s1 : slOk ((i + ((l.drop (i + 1)).foldl (cptF ne) (l[i], [])).2.length : Nat) : Int) ((l.length : Nat) : Int) l.length = true := slOk_true (by omega) (by omega) (by omega)
        have s2 : slOk 0 ((i + ((l.drop (i + 1)).foldl (cptF ne) (l[i], [])).2.length : Nat) : Int) l.length = true := slOk_true (by omega) (by omega) (by omega)
        have tk : (l.take i ++ ((l.drop (i + 1)).foldl (cptF ne) (l[i], [])).2 ++ l.drop (i + ((l.drop (i + 1)).foldl (cptF ne) (l[i], [])).2.length)).take (i + ((l.drop (i + 1)).foldl (cptF ne) (l[i], [])).2.length) = l.take i ++ ((l.drop (i + 1)).foldl (cptF ne) (l[i], [])).2 := by
          rw [List.take_append_of_le_length (by rw [tl]; exact Nat.le_refl _), ← tl, List.take_length]
        simp only [s1, s2, cond_true, Int.toNat_natCast, eqL_self, Nat.zero_add, tk]
        rw [← tl, sub_all, eqL_self, cond_true, res]
        rfl
      have := iter_to (step := gsCom1 eq ne n l) (fun k => ((k + 1 : Nat) : Int)) (i - 1) (.inr ((), cptG ne l)) (fun k hk => ?_) ?_ n (by omega)
      · rw [show ((0 + 1 : Nat) : Int) = 1 from rfl] at this
        rw [this]; rfl
      · exact step1 (k + 1) (by omega) (by omega) (hq' (k + 1) (by omega) (by omega))
      · rw [show i - 1 + 1 = i by omega]; exact hfin
    · have hnone' : ∀ j (hj1 : 1 ≤ j) (hj : j < l.length), eq (l[j]) (l[j - 1]'(by omega)) = false := fun j hj1 hj => by
        have := hnone j hj1 hj
        simpa only [hj, dite_true] using this
      have := iter_to (step := gsCom1 eq ne n l) (fun k => ((k + 1 : Nat) : Int)) (l.length - 1) (.inl ()) (fun k hk => ?_) ?_ n (by omega)
      · rw [show ((0 + 1 : Nat) : Int) = 1 from rfl] at this
        rw [this]
        simp only [thenB_inl]
        subst hL
        simp only [cptG]
        rw [cptF_diff ne xs x0 fun k hk => ?_]
        have h9 := hnone' (k + 1) (by omega) hk
        rw [hen] at h9
        simp only [Nat.add_sub_cancel] at h9
        simpa using h9
      · exact step1 (k + 1) (by omega) (by omega) (hnone' (k + 1) (by omega) (by omega))
      · rw [show l.length - 1 + 1 = l.length by omega]
        simp [gsCom1]
end

theorem cptG_int (l : List Int) : cptG (fun x y => x != y) l = compactL l := by
  match l with
  | [] => rfl
  | [x] => rfl
  | x :: y :: l =>
    have ih := cptG_int (y :: l)
    simp only [cptG, List.foldl_cons, cptF, compactL] at ih ⊢
    by_cases h : y = x
    · subst h
      simp only [bne_self_eq_false, cond_false, beq_self_eq_true, cond_true]
      exact ih
    · have h1 : (y != x) = true := by simp [h]
      have h2 : (x == y) = false := by simp [Ne.symm h]
      simp only [h1, cond_true, h2, cond_false, List.nil_append]
      rw [cptF_app, ← ih]
      simp
end Go.Gb
