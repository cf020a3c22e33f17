/-
  Plain lemmas on what the typed walk prints: loops, lists, numbers. No program in sight.
-/
import Derived.Test.YtgmmcfpjmkhmhaaXO
namespace Go.Gb
open Go.RowKit

theorem wrap_id {x : Int} (h1 : -9223372036854775808 ≤ x) (h2 : x ≤ 9223372036854775807) : IntKind.i64.wrap x = x := by
  rw [IntKind.wrap_i64]; omega

theorem wrap_nat {x : Nat} (h : x ≤ 9223372036854775807) : IntKind.i64.wrap (x : Int) = (x : Int) := wrap_id (by omega) (by omega)

theorem wrap_succ {i : Nat} (h : i < 9223372036854775807) : IntKind.i64.wrap ((i : Int) + 1) = ((i + 1 : Nat) : Int) := by
  rw [wrap_id (by omega) (by omega)]; omega

theorem wrap_pred {i : Nat} (h0 : 0 < i) (h : i ≤ 9223372036854775807) : IntKind.i64.wrap ((i : Int) - 1) = ((i - 1 : Nat) : Int) := by
  rw [wrap_id (by omega) (by omega)]; omega

section
variable {α β S V O W : Type}

@[simp] theorem at_nat (l : List α) (i : Nat) : at? l (i : Int) = l[i]? := by simp [at?]
theorem at_natz (l : List α) (i : Nat) : at? l (((0 : Nat) : Int) + (i : Int)) = l[i]? := by simp [at?]
theorem at_get {l : List α} {i : Nat} (h : i < l.length) : at? l (i : Int) = some l[i] := by simp [h]
theorem at_getz {l : List α} {i : Nat} (h : i < l.length) : at? l (((0 : Nat) : Int) + (i : Int)) = some l[i] := by rw [at_natz]; simp [h]
theorem at_zero {l : List α} (h : 0 < l.length) : at? l 0 = some l[0] := by have := at_get h; simpa using this

@[simp] theorem inb_nat (i n : Nat) : inb (i : Int) n = decide (i < n) := by simp [inb]
theorem inb_get {i n : Nat} (h : i < n) : inb (i : Int) n = true := by simp [h]

@[simp] theorem letv_eq (a : α) (f : α → β) : letv a f = f a := rfl
@[simp] theorem eqL_self (a : Nat) : eqL a a = true := by simp [eqL]
theorem eqL_of {a b : Nat} (h : a = b) : eqL a b = true := by simp [eqL, h]
@[simp] theorem sub_all (l : List α) : sub l 0 l.length = l := by simp [sub]
theorem sub_take (l : List α) (n : Nat) : sub l 0 n = l.take n := by simp [sub]
@[simp] theorem appOk_nil (n b : Nat) : appOk 0 0 n n b = (decide (n * b ≤ 140737488355328) && decide (n ≤ maxLen)) := by simp [appOk]
theorem appOk_true {a n b : Nat} (h1 : (a + n) * b ≤ 140737488355328) (h2 : a + n ≤ maxLen) : appOk a a n n b = true := by simp [appOk, h1, h2]
theorem slOk_true {l h : Int} {n : Nat} (h1 : 0 ≤ l) (h2 : l ≤ h) (h3 : h ≤ (n : Int)) : slOk l h n = true := by simp [slOk, h1, h2, h3]

@[simp] theorem thenB_inl (w : W) (f : W → Option α) : thenB (some (Sum.inl w : W ⊕ α)) f = f w := rfl
@[simp] theorem thenB_inr (a : α) (f : W → Option α) : thenB (some (Sum.inr a : W ⊕ α)) f = some a := rfl

theorem iter_succ (step : V → Option (V ⊕ O)) (n : Nat) (v : V) : iter step (n + 1) v = (step v).bind fun r => match r with
    | .inl v => iter step n v
    | .inr o => some o := rfl
theorem iter_inl {step : V → Option (V ⊕ O)} {n : Nat} {v v' : V} (h : step v = some (.inl v')) : iter step (n + 1) v = iter step n v' := by rw [iter_succ, h]; rfl
theorem iter_inr {step : V → Option (V ⊕ O)} {n : Nat} {v : V} {o : O} (h : step v = some (.inr o)) : iter step (n + 1) v = some o := by rw [iter_succ, h]; rfl

/-- A loop by the states that it goes through. -/
theorem iter_to {step : V → Option (V ⊕ O)} (g : Nat → V) (N : Nat) (o : O) (h : ∀ i, i < N → step (g i) = some (.inl (g (i + 1)))) (hN : step (g N) = some (.inr o)) :
    ∀ n, N < n → iter step n (g 0) = some o := by
  have main : ∀ k i n, i + k = N → k < n → iter step n (g i) = some o := by
    intro k
    induction k with
    | zero =>
      intro i n hi hn
      obtain ⟨m, rfl⟩ : ∃ m, n = m + 1 := ⟨n - 1, by omega⟩
      have : i = N := by omega
      subst this
      exact iter_inr hN
    | succ k ih =>
      intro i n hi hn
      obtain ⟨m, rfl⟩ : ∃ m, n = m + 1 := ⟨n - 1, by omega⟩
      rw [iter_inl (h i (by omega))]
      exact ih (i + 1) m (by omega) (by omega)
  intro n hn
  exact main N 0 n (by omega) hn

/-- Going over a list, with an end of its own at every element. -/
def loopL (f : α → S → S ⊕ O) (fin : S → O) : List α → S → O
  | [], s => fin s
  | x :: xs, s => match f x s with
    | .inl s' => loopL f fin xs s'
    | .inr o => o

theorem iter_listI {l : List α} {step : V → Option (V ⊕ O)} (enc : Nat → S → V) (f : α → S → S ⊕ O) (fin : S → O) (Inv : Nat → S → Prop)
    (h : ∀ i (hi : i < l.length) s, Inv i s → step (enc i s) = some (match f l[i] s with | .inl s' => .inl (enc (i + 1) s') | .inr o => .inr o) ∧ ∀ s', f l[i] s = .inl s' → Inv (i + 1) s')
    (hend : ∀ s, Inv l.length s → step (enc l.length s) = some (.inr (fin s))) : ∀ n, l.length < n → ∀ s, Inv 0 s → iter step n (enc 0 s) = some (loopL f fin l s) := by
  have main : ∀ k i n, i + k = l.length → k < n → ∀ s, Inv i s → iter step n (enc i s) = some (loopL f fin (l.drop i) s) := by
    intro k
    induction k with
    | zero =>
      intro i n hi hn s hs
      obtain ⟨m, rfl⟩ : ∃ m, n = m + 1 := ⟨n - 1, by omega⟩
      have : i = l.length := by omega
      subst this
      rw [iter_inr (hend s hs)]
      simp [loopL]
    | succ k ih =>
      intro i n hi hn s hs
      obtain ⟨m, rfl⟩ : ∃ m, n = m + 1 := ⟨n - 1, by omega⟩
      have hil : i < l.length := by omega
      obtain ⟨h1, h2⟩ := h i hil s hs
      rw [List.drop_eq_getElem_cons hil]
      simp only [loopL]
      cases hf : f l[i] s with
      | inl s' =>
        rw [hf] at h1
        rw [iter_inl h1]
        exact ih (i + 1) m (by omega) (by omega) s' (h2 s' hf)
      | inr o =>
        rw [hf] at h1
        rw [iter_inr h1]
  intro n hn s hs
  have := main l.length 0 n (by omega) hn s hs
  simpa using this

theorem iter_list {l : List α} {step : V → Option (V ⊕ O)} (enc : Nat → S → V) (f : α → S → S ⊕ O) (fin : S → O)
    (h : ∀ i (hi : i < l.length) s, step (enc i s) = some (match f l[i] s with | .inl s' => .inl (enc (i + 1) s') | .inr o => .inr o))
    (hend : ∀ s, step (enc l.length s) = some (.inr (fin s))) : ∀ n, l.length < n → ∀ s, iter step n (enc 0 s) = some (loopL f fin l s) := fun n hn s =>
  iter_listI enc f fin (fun _ _ => True) (fun i hi s _ => ⟨h i hi s, fun _ _ => trivial⟩) (fun s _ => hend s) n hn s trivial

theorem loopL_fold (g : α → S → S) (fin : S → O) : ∀ (l : List α) (s : S), loopL (fun x s => .inl (g x s)) fin l s = fin (l.foldl (fun s x => g x s) s)
  | [], _ => rfl
  | x :: xs, s => by simp only [loopL, List.foldl_cons]; exact loopL_fold g fin xs _

theorem iter_foldI {l : List α} {step : V → Option (V ⊕ O)} (enc : Nat → S → V) (g : α → S → S) (fin : S → O) (Inv : Nat → S → Prop)
    (h : ∀ i (hi : i < l.length) s, Inv i s → step (enc i s) = some (.inl (enc (i + 1) (g l[i] s))) ∧ Inv (i + 1) (g l[i] s))
    (hend : ∀ s, Inv l.length s → step (enc l.length s) = some (.inr (fin s))) (n : Nat) (hn : l.length < n) (s : S) (hs : Inv 0 s) : iter step n (enc 0 s) = some (fin (l.foldl (fun s x => g x s) s)) := by
  rw [iter_listI enc (fun x s => .inl (g x s)) fin Inv (fun i hi s hs => ⟨(h i hi s hs).1, fun s' hs' => by injection hs' with hs'; subst hs'; exact (h i hi s hs).2⟩) hend n hn s hs, loopL_fold]

theorem iter_fold {l : List α} {step : V → Option (V ⊕ O)} (enc : Nat → S → V) (g : α → S → S) (fin : S → O)
    (h : ∀ i (hi : i < l.length) s, step (enc i s) = some (.inl (enc (i + 1) (g l[i] s))))
    (hend : ∀ s, step (enc l.length s) = some (.inr (fin s))) (n : Nat) (hn : l.length < n) (s : S) : iter step n (enc 0 s) = some (fin (l.foldl (fun s x => g x s) s)) :=
  iter_foldI enc g fin (fun _ _ => True) (fun i hi s _ => ⟨h i hi s, trivial⟩) (fun s _ => hend s) n hn s trivial

/-- A search. -/
def findL (p : α → Bool) : List α → Option Nat
  | [] => none
  | x :: xs => bif p x then some 0 else (findL p xs).map (· + 1)

theorem findL_spec (p : α → Bool) : ∀ (l : List α), (∃ (i : Nat) (h : i < l.length), findL p l = some i ∧ p l[i] = true ∧ ∀ j (hj : j < i), p (l[j]'(by omega)) = false) ∨ (findL p l = none ∧ ∀ x ∈ l, p x = false)
  | [] => .inr ⟨rfl, by simp⟩
  | x :: xs => by
    cases hx : p x with
    | true => exact .inl ⟨0, by simp, by simp [findL, hx], by simpa using hx, fun j hj => by omega⟩
    | false =>
      rcases findL_spec p xs with ⟨i, h, h1, h2, h3⟩ | ⟨h1, h2⟩
      · refine .inl ⟨i + 1, by simpa using h, by simp [findL, hx, h1], by simpa using h2, fun j hj => ?_⟩
        cases j with
        | zero => simpa using hx
        | succ j => simpa using h3 j (by omega)
      · exact .inr ⟨by simp [findL, hx, h1], by simpa [hx] using h2⟩

/-- A loop that searches from the left for the first element that is so. -/
theorem iter_find {l : List α} {step : V → Option (V ⊕ (W ⊕ O))} (enc : Nat → V) (p : α → Bool) (w : W) (out : Nat → O)
    (h : ∀ i (hi : i < l.length), step (enc i) = some (bif p l[i] then .inr (.inr (out i)) else .inl (enc (i + 1))))
    (hend : step (enc l.length) = some (.inr (.inl w))) (n : Nat) (hn : l.length < n) : iter step n (enc 0) = some (match findL p l with | some i => .inr (out i) | none => .inl w) := by
  rcases findL_spec p l with ⟨i, hi, h1, h2, h3⟩ | ⟨h1, h2⟩
  · rw [h1]
    refine iter_to enc i _ (fun j hj => ?_) ?_ n (by omega)
    · rw [h j (by omega), h3 j hj]; rfl
    · rw [h i hi, h2]; rfl
  · rw [h1]
    refine iter_to enc l.length _ (fun j hj => ?_) hend n hn
    rw [h j hj, h2 _ (List.getElem_mem hj)]; rfl

theorem findL_isSome (p : α → Bool) (l : List α) : (findL p l).isSome = l.any p := by
  induction l with
  | nil => rfl
  | cons x xs ih =>
    simp only [findL, List.any_cons]
    cases p x with
    | true => rfl
    | false => simp [ih]
end
end Go.Gb
