/-
  Go's package slices as the walk prints it, over any element; no program in sight.
-/
import Derived.Test.YtgmmcfpjmkhmhaaPLins
namespace Go.Gb
open Go.RowKit

section
variable {α : Type}

/-- slices.IndexFunc -/
def gsIdx (l : List α) (φ : (α × Unit) → Option Bool) : Int → Option (Int ⊕ (Unit ⊕ Int))
  | v1 => (bif (decide (v1 < ((l.length : Int) : Int))) then (at? l v1).bind fun x1 => (φ (x1, ())).bind fun r1 => (bif r1 then (some v1).map fun a => .inr (.inr a) else some (.inl (IntKind.i64.wrap (v1 + 1)))) else some (.inr (.inl ())))
def gsIndexFunc (n : Nat) (l : List α) (φ : (α × Unit) → Option Bool) : Option Int :=
  thenB (iter (gsIdx l φ) n (0 : Int)) fun () => some ((-1) : Int)

def idxL (p : α → Bool) (l : List α) : Int := match findL p l with | some i => (i : Int) | none => -1

theorem gsIndexFunc_run {n : Nat} {l : List α} {φ : (α × Unit) → Option Bool} (p : α → Bool) (h : ∀ x ∈ l, φ (x, ()) = some (p x)) (hl : l.length < 1099511627776) (hn : l.length < n) : gsIndexFunc n l φ = some (idxL p l) := by
  unfold gsIndexFunc
  have := iter_find (l := l) (step := gsIdx l φ) (fun i => (i : Int)) p () (fun i => (i : Int)) (fun i hi => ?_) ?_ n hn
  · rw [show ((0 : Nat) : Int) = 0 from rfl] at this
    rw [this]
    unfold idxL
    cases findL p l <;> rfl
  · have hi' : decide (((i : Nat) : Int) < (l.length : Int)) = true := by simpa using hi
    simp only [gsIdx, hi', cond_true, at_get hi, Option.bind_some, h _ (List.getElem_mem hi)]
    cases p l[i] with
    | true => rfl
    | false => simp only [cond_false]; rw [wrap_succ (by omega)]
  · simp [gsIdx]

theorem idxL_neg (p : α → Bool) (l : List α) : decide (idxL p l < 0) = !(l.any p) := by
  unfold idxL
  rw [← findL_isSome]
  cases findL p l <;> simp

theorem idxL_ge (p : α → Bool) (l : List α) : decide (idxL p l ≥ 0) = l.any p := by
  unfold idxL
  rw [← findL_isSome]
  cases findL p l <;> simp

theorem idxL_get {p : α → Bool} {l : List α} (h : l.any p = true) : ∃ (i : Nat) (hi : i < l.length), idxL p l = (i : Int) ∧ l.find? p = some l[i] := by
  rcases findL_spec p l with ⟨i, hi, h1, h2, h3⟩ | ⟨h1, h2⟩
  · refine ⟨i, hi, by simp [idxL, h1], ?_⟩
    rw [List.find?_eq_some_iff_getElem]
    exact ⟨h2, i, hi, rfl, fun j hj => by simpa using h3 j hj⟩
  · rw [List.any_eq_true] at h
    obtain ⟨x, hx, hp⟩ := h
    rw [h2 x hx] at hp; cases hp

/-- slices.Index -/
def gsIx (eq : α → Bool) (l : List α) : Int → Option (Int ⊕ (Unit ⊕ Int))
  | v1 => (bif (decide (v1 < ((l.length : Int) : Int))) then (at? l v1).bind fun x1 => (bif eq x1 then (some v1).map fun a => .inr (.inr a) else some (.inl (IntKind.i64.wrap (v1 + 1)))) else some (.inr (.inl ())))
def gsIndex (n : Nat) (eq : α → Bool) (l : List α) : Option Int :=
  thenB (iter (gsIx eq l) n (0 : Int)) fun () => some ((-1) : Int)
theorem gsIndex_run {n : Nat} {l : List α} {eq : α → Bool} (hl : l.length < 1099511627776) (hn : l.length < n) : gsIndex n eq l = some (idxL eq l) := by
  unfold gsIndex
  have := iter_find (l := l) (step := gsIx eq l) (fun i => (i : Int)) eq () (fun i => (i : Int)) (fun i hi => ?_) ?_ n hn
  · rw [show ((0 : Nat) : Int) = 0 from rfl] at this
    rw [this]
    unfold idxL
    cases findL eq l <;> rfl
  · have hi' : decide (((i : Nat) : Int) < (l.length : Int)) = true := by simpa using hi
    simp only [gsIx, hi', cond_true, at_get hi, Option.bind_some]
    cases eq l[i] with
    | true => rfl
    | false => simp only [cond_false]; rw [wrap_succ (by omega)]
  · simp [gsIx]

/-- slices.Clone -/
noncomputable def gsClone (b : Nat) (a0 : List α) : Option (List α) :=
  (bif a0.isEmpty then (both (some ([] : (List α))) (bif appOk ([] : List α).length 0 a0.length a0.length b then letv (([] : List α) ++ a0) fun r1 => bif eqL (sub r1 0 r1.length).length r1.length then some (sub r1 0 r1.length) else none else none)) else bif appOk ([] : List α).length 0 a0.length a0.length b then letv (([] : List α) ++ a0) fun r2 => bif eqL (sub r2 0 r2.length).length r2.length then some (sub r2 0 r2.length) else none else none)
theorem gsClone_run {l : List α} {b : Nat} (h : l.length * b ≤ 140737488355328) (h2 : l.length ≤ maxLen) : gsClone b l = some l := by
  have : appOk ([] : List α).length 0 l.length l.length b = true := appOk_true (a := 0) (by simpa using h) (by simpa using h2)
  unfold gsClone
  cases l with
  | nil => simp only [this, cond_true, letv_eq, List.nil_append, sub_all, eqL_self, List.isEmpty_nil]; exact both_same _
  | cons x l => simp only [this, cond_true, letv_eq, List.nil_append, sub_all, eqL_self, List.isEmpty_cons, cond_false]

/-- slices.Grow at nil -/
def gsGrow (z : α) (b : Nat) (a1 : Int) : Option (List α) :=
  (bif (decide (a1 < (0 : Int))) then none else (bif (decide ((IntKind.i64.wrap (a1 - (IntKind.i64.wrap (0 - 0)))) > (0 : Int))) then bif mkOk (IntKind.i64.wrap (a1 - (IntKind.i64.wrap (0 - 0)))) b then bif slOk 0 0 ((IntKind.i64.wrap (a1 - (IntKind.i64.wrap (0 - 0)))).toNat) then bif eqL (sub (List.replicate (IntKind.i64.wrap (a1 - (IntKind.i64.wrap (0 - 0)))).toNat z) 0 0).length 0 then some (sub (List.replicate (IntKind.i64.wrap (a1 - (IntKind.i64.wrap (0 - 0)))).toNat z) 0 0) else none else none else none else some ([] : (List α))))
theorem gsGrow_run (z : α) {b n : Nat} (h : n * b ≤ 140737488355328) (hn : n < 1099511627776) : gsGrow z b (n : Int) = some [] := by
  have w0 : IntKind.i64.wrap (0 - 0) = 0 := by decide
  have w1 : IntKind.i64.wrap ((n : Int) - 0) = (n : Int) := by rw [Int.sub_zero]; exact wrap_nat (by omega)
  have d : decide ((n : Int) < 0) = false := by simp
  have m : mkOk (n : Int) b = true := by
    have h9 : n ≤ maxLen := by simp only [maxLen]; omega
    simp [mkOk, h, h9]
  have s : slOk 0 0 (n : Int).toNat = true := slOk_true (by omega) (by omega) (by omega)
  have e : sub (List.replicate (n : Int).toNat z) 0 0 = [] := by simp [sub]
  unfold gsGrow
  simp only [w0, w1, d, cond_false, m, cond_true, s, e]
  cases decide ((n : Int) > 0) <;> rfl

/-- slices.Concat -/
def gsCat1 (a0 : List (List α)) : (Int × Int) → Option ((Int × Int) ⊕ Int)
  | (v1, v2) => (bif (decide (v2 < ((a0.length : Int) : Int))) then (at? a0 v2).bind fun x1 => (bif (decide ((IntKind.i64.wrap (v1 + (x1.length : Int))) < (0 : Int))) then none else some (.inl ((IntKind.i64.wrap (v1 + (x1.length : Int))), (IntKind.i64.wrap (v2 + 1))))) else some (.inr v1))
def gsCat2 (b : Nat) (a0 : List (List α)) : (Int × List α) → Option ((Int × List α) ⊕ List α)
  | (v3, v4) => (bif (decide (v3 < ((a0.length : Int) : Int))) then (at? a0 v3).bind fun x2 => bif appOk v4.length v4.length x2.length x2.length b then letv (v4 ++ x2) fun r2 => bif eqL r2.length r2.length then some (.inl ((IntKind.i64.wrap (v3 + 1)), r2)) else none else none else bif eqL v4.length v4.length then some (.inr v4) else none)
def gsConcat (z : α) (b : Nat) (n : Nat) (a0 : List (List α)) : Option (List α) :=
  (iter (gsCat1 a0) n ((0 : Int), (0 : Int))).bind fun w1 => (gsGrow z b w1).bind fun r1 => bif eqL r1.length r1.length then (iter (gsCat2 b a0) n ((0 : Int), r1)).bind fun w2 => bif eqL (sub w2 0 w2.length).length w2.length then some (sub w2 0 w2.length) else none else none

theorem length_foldl_app (l : List (List α)) (s : List α) : l.foldl (fun s x => s ++ x) s = s ++ l.flatten := by
  induction l generalizing s with
  | nil => simp
  | cons x l ih => simp [ih]

theorem gsConcat_run (z : α) {b n : Nat} {a0 : List (List α)} (hf : a0.flatten.length < 1099511627776) (hb : a0.flatten.length * b ≤ 140737488355328) (hl : a0.length < 1099511627776) (hn : a0.length < n) : gsConcat z b n a0 = some a0.flatten := by
  have pre : ∀ i, i ≤ a0.length → (a0.take i).flatten.length ≤ a0.flatten.length := fun i _ => by
    conv => rhs; rw [← List.take_append_drop i a0, List.flatten_append, List.length_append]
    omega
  have step : ∀ i (hi : i < a0.length), (a0.take (i + 1)).flatten = (a0.take i).flatten ++ a0[i] := fun i hi => by rw [List.take_succ_eq_append_getElem hi, List.flatten_append]; simp only [List.flatten_cons, List.flatten_nil, List.append_nil]
  have h1 : iter (gsCat1 a0) n ((0 : Int), (0 : Int)) = some (a0.flatten.length : Int) := by
    refine iter_to (fun i => (((a0.take i).flatten.length : Int), ((i : Nat) : Int))) a0.length _ (fun i hi => ?_) ?_ n hn
    · have hi' : decide (((i : Nat) : Int) < (a0.length : Int)) = true := by simpa using hi
      have e1 : (((a0.take i).flatten.length : Int) + (a0[i].length : Int)) = ((a0.take (i + 1)).flatten.length : Int) := by rw [step i hi, List.length_append]; omega
      have h3 := pre (i + 1) (by omega)
      have e2 : IntKind.i64.wrap ((a0.take (i + 1)).flatten.length : Int) = ((a0.take (i + 1)).flatten.length : Int) := wrap_nat (by omega)
      have e3 : decide (((a0.take (i + 1)).flatten.length : Int) < 0) = false := by simp
      simp only [gsCat1, hi', cond_true, at_get hi, Option.bind_some, e1, e2, e3, cond_false]
      rw [wrap_succ (by omega)]
    · simp [gsCat1]
  have h2 : iter (gsCat2 b a0) n ((0 : Int), ([] : List α)) = some a0.flatten := by
    refine iter_to (fun i => (((i : Nat) : Int), (a0.take i).flatten)) a0.length _ (fun i hi => ?_) ?_ n hn
    · have hi' : decide (((i : Nat) : Int) < (a0.length : Int)) = true := by simpa using hi
      have h3 := pre (i + 1) (by omega)
      have e1 : (a0.take i).flatten.length + a0[i].length = (a0.take (i + 1)).flatten.length := by rw [step i hi, List.length_append]
      have ap : appOk (a0.take i).flatten.length (a0.take i).flatten.length a0[i].length a0[i].length b = true := appOk_true (by rw [e1]; exact Nat.le_trans (Nat.mul_le_mul_right _ h3) hb) (by simp only [maxLen]; omega)
      simp only [gsCat2, hi', cond_true, at_get hi, Option.bind_some, ap, letv_eq, eqL_self, ← step i hi]
      rw [wrap_succ (by omega)]
    · simp [gsCat2]
  unfold gsConcat
  simp only [h1, Option.bind_some, gsGrow_run z hb hf, eqL_self, cond_true, h2, sub_all]

/-- slices.Equal -/
def gsEq (ne : α → α → Bool) (a b : List α) : Int → Option (Int ⊕ (Unit ⊕ Bool))
  | v1 => (bif (decide (v1 < ((a.length : Int) : Int))) then (at? a v1).bind fun x1 => (at? b v1).bind fun x2 => (bif ne x1 x2 then (some false).map fun a => .inr (.inr a) else some (.inl (IntKind.i64.wrap (v1 + 1)))) else some (.inr (.inl ())))
def gsEqual (n : Nat) (ne : α → α → Bool) (a b : List α) : Option Bool :=
  (bif ((a.length : Int) != ((b.length : Int) : Int)) then some false else thenB (iter (gsEq ne a b) n (0 : Int)) fun () => some true)

theorem gsEqual_run [DecidableEq α] {n : Nat} {ne : α → α → Bool} {a b : List α} (h : ∀ x y, ne x y = !decide (x = y)) (hl : a.length < 1099511627776) (hn : a.length < n) : gsEqual n ne a b = some (decide (a = b)) := by
  unfold gsEqual
  by_cases hlen : a.length = b.length
  · have h0 : ((a.length : Int) != (b.length : Int)) = false := by simp [hlen]
    rw [h0, cond_false]
    by_cases he : a = b
    · subst he
      have := iter_to (step := gsEq ne a a) (fun i => ((i : Nat) : Int)) a.length (.inl ()) (fun i hi => ?_) ?_ n hn
      · rw [show ((0 : Nat) : Int) = 0 from rfl] at this
        rw [this]; simp
      · have hi' : decide (((i : Nat) : Int) < (a.length : Int)) = true := by simpa using hi
        simp only [gsEq, hi', cond_true, at_get hi, Option.bind_some, h, decide_true, Bool.not_true, cond_false]
        rw [wrap_succ (by omega)]
      · simp [gsEq]
    · -- the first place where they part
      have hp : ∃ i, ∃ (h1 : i < a.length) (h2 : i < b.length), a[i] ≠ b[i] ∧ ∀ j (hj : j < i), a[j]'(by omega) = b[j]'(by omega) := by
        have hex : ∃ i, ∃ (h1 : i < a.length) (h2 : i < b.length), a[i] ≠ b[i] := by
          refine Classical.byContradiction fun hc => he ?_
          refine List.ext_getElem hlen fun i h1 h2 => ?_
          exact Classical.byContradiction fun hne => hc ⟨i, h1, h2, hne⟩
        have hmin : ∀ k, (∃ i, i ≤ k ∧ ∃ (h1 : i < a.length) (h2 : i < b.length), a[i] ≠ b[i]) → ∃ i, ∃ (h1 : i < a.length) (h2 : i < b.length), a[i] ≠ b[i] ∧ ∀ j (hj : j < i), a[j]'(by omega) = b[j]'(by omega) := by
          intro k
          induction k with
          | zero =>
            rintro ⟨i, hi, h1, h2, h3⟩
            have : i = 0 := by omega
            subst this
            exact ⟨0, h1, h2, h3, fun j hj => by omega⟩
          | succ k ih =>
            rintro ⟨i, hi, h1, h2, h3⟩
            by_cases hs : ∃ i, i ≤ k ∧ ∃ (h1 : i < a.length) (h2 : i < b.length), a[i] ≠ b[i]
            · exact ih hs
            · refine ⟨i, h1, h2, h3, fun j hj => ?_⟩
              exact Classical.byContradiction fun hne => hs ⟨j, by omega, by omega, by omega, hne⟩
        obtain ⟨i, h1, h2, h3⟩ := hex
        exact hmin i ⟨i, Nat.le_refl i, h1, h2, h3⟩
      obtain ⟨i, h1, h2, h3, h4⟩ := hp
      have := iter_to (step := gsEq ne a b) (fun i => ((i : Nat) : Int)) i (.inr false) (fun j hj => ?_) ?_ n (by omega)
      · rw [show ((0 : Nat) : Int) = 0 from rfl] at this
        rw [this]; simp [he]
      · have hj' : decide (((j : Nat) : Int) < (a.length : Int)) = true := by simp; omega
        simp only [gsEq, hj', cond_true, at_get (show j < a.length by omega), at_get (show j < b.length by omega), Option.bind_some, h, h4 j hj, decide_true, Bool.not_true, cond_false]
        rw [wrap_succ (by omega)]
      · have hi' : decide (((i : Nat) : Int) < (a.length : Int)) = true := by simpa using h1
        simp only [gsEq, hi', cond_true, at_get h1, at_get h2, Option.bind_some, h, h3, decide_false, Bool.not_false, Option.map_some]
  · have h0 : ((a.length : Int) != (b.length : Int)) = true := by simp; omega
    rw [h0, cond_true]
    have : a ≠ b := fun e => hlen (by rw [e])
    simp [this]

/-- slices.DeleteFunc -/
def gsDel1 (a0 : List α) (φ : (α × Unit) → Option Bool) : (Int × Int × List α) → Option ((Int × Int × List α) ⊕ (Int × List α))
  | (v1, v2, v3) => (bif (decide (v2 < (((a0.length : Nat) : Int) : Int))) then (bif inb v2 a0.length then (at? v3 ((0 : Nat) + v2 : Int)).bind fun x1 => (φ (x1, ())).bind fun r2 => (bif (!r2) then bif inb v1 a0.length then (at? v3 ((0 : Nat) + v1 : Int)).bind fun _ => some ((IntKind.i64.wrap (v1 + 1)), (v3.set ((0 : Nat) + v1 : Int).toNat x1)) else none else some (v1, v3)) else none : Option (Int × (List α))).bind fun (v4, v5) => some (.inl (v4, (IntKind.i64.wrap (v2 + 1)), v5)) else some (.inr (v1, v3)))
def gsDeleteFunc (n : Nat) (a0 : List α) (φ : (α × Unit) → Option Bool) : Option (Unit × List α) :=
  bif eqL (sub a0 0 a0.length).length a0.length then (gsIndexFunc n (sub a0 0 a0.length) φ).bind fun r1 => (bif (r1 == ((-1) : Int)) then bif eqL a0.length a0.length then bif eqL (sub a0 0 a0.length).length a0.length then some ((), (sub a0 0 a0.length)) else none else none else (iter (gsDel1 a0 φ) n (r1, (IntKind.i64.wrap (r1 + 1)), a0)).bind fun (w1, w2) => bif slOk w1 ((a0.length : Nat) : Int) a0.length then bif slOk 0 w1 a0.length then bif eqL ((w1 : Int).toNat) ((w1 : Int).toNat) then bif eqL (sub (w2.take (0 + (w1 : Int).toNat)) 0 ((w1 : Int).toNat)).length ((w1 : Int).toNat) then some ((), (sub (w2.take (0 + (w1 : Int).toNat)) 0 ((w1 : Int).toNat))) else none else none else none else none) else none

theorem gsDeleteFunc_run {n : Nat} {l : List α} {φ : (α × Unit) → Option Bool} (p : α → Bool) (h : ∀ x ∈ l, φ (x, ()) = some (p x)) (hl : l.length < 1099511627776) (hn : l.length < n) : gsDeleteFunc n l φ = some ((), l.filter fun x => !p x) := by
  unfold gsDeleteFunc
  simp only [sub_all, eqL_self, cond_true, gsIndexFunc_run p h hl hn, Option.bind_some]
  rcases findL_spec p l with ⟨i, hi, h1, h2, h3⟩ | ⟨h1, h2⟩
  · have e1 : idxL p l = (i : Int) := by simp [idxL, h1]
    have e2 : (((i : Nat) : Int) == -1) = false := by simp <;> omega
    simp only [e1, e2, cond_false]
    rw [wrap_succ (by omega)]
    -- behind m elements: the kept ones of the first m, then what was there
    have keep : ∀ m, (l.take m).filter (fun x => !p x) = (l.take m).filter (fun x => !p x) := fun _ => rfl
    have kl : ∀ m, ((l.take m).filter (fun x => !p x)).length ≤ m := fun m => Nat.le_trans (List.length_filter_le _ _) (by rw [List.length_take]; exact Nat.min_le_left _ _)
    have base : (l.take (i + 1)).filter (fun x => !p x) = l.take i := by
      rw [List.take_succ_eq_append_getElem hi, List.filter_append]
      simp only [List.filter_cons, h2, Bool.not_true, Bool.false_eq_true, if_false, List.filter_nil, List.append_nil]
      rw [List.filter_eq_self]
      intro x hx
      obtain ⟨j, hj, rfl⟩ := List.getElem_of_mem hx
      rw [List.length_take] at hj
      rw [List.getElem_take, h3 j (by omega)]; rfl
    have main : ∀ k m (v : List α) (n : Nat), m + k = l.length → i < m → k < n → v.length = l.length → v.drop m = l.drop m → v.take ((l.take m).filter (fun x => !p x)).length = (l.take m).filter (fun x => !p x) → ((l.take m).filter (fun x => !p x)).length < m →
        ∃ w, iter (gsDel1 l φ) n ((((l.take m).filter (fun x => !p x)).length : Int), (m : Int), v) = some (((l.filter fun x => !p x).length : Int), w) ∧ w.take (l.filter fun x => !p x).length = (l.filter fun x => !p x) := by
      intro k
      induction k with
      | zero =>
        intro m v n hm him hkn hv hd ht hlt
        obtain ⟨j, rfl⟩ : ∃ j, n = j + 1 := ⟨n - 1, by omega⟩
        have hml : m = l.length := by omega
        subst hml
        rw [List.take_length] at ht ⊢
        exact ⟨v, iter_inr (by simp [gsDel1]), ht⟩
      | succ k ih =>
        intro m v n hm him hkn hv hd ht hlt
        obtain ⟨j, rfl⟩ : ∃ j, n = j + 1 := ⟨n - 1, by omega⟩
        have hml : m < l.length := by omega
        have d1 : decide (((m : Nat) : Int) < ((l.length : Nat) : Int)) = true := by simpa using hml
        have g1 : v[m]? = some l[m] := by
          have := congrArg (fun x : List α => x[0]?) hd
          simpa [List.getElem?_drop, hml] using this
        have hp := h l[m] (List.getElem_mem hml)
        cases hpm : p l[m] with
        | true =>
          have ef : (l.take (m + 1)).filter (fun x => !p x) = (l.take m).filter (fun x => !p x) := by
            rw [List.take_succ_eq_append_getElem hml, List.filter_append]; simp [hpm]
          have st : gsDel1 l φ ((((l.take m).filter (fun x => !p x)).length : Int), (m : Int), v) = some (.inl ((((l.take (m + 1)).filter (fun x => !p x)).length : Int), ((m + 1 : Nat) : Int), v)) := by
            simp only [gsDel1, d1, cond_true, inb_get hml, at_natz, g1, Option.bind_some, hp, hpm, Bool.not_true, cond_false, ef]
            rw [wrap_succ (by omega)]
          rw [iter_inl st]
          exact ih (m + 1) v j (by omega) (by omega) (by omega) hv (by rw [← List.drop_drop, ← List.drop_drop, hd]) (by rw [ef]; exact ht) (by rw [ef]; omega)
        | false =>
          have ef : (l.take (m + 1)).filter (fun x => !p x) = (l.take m).filter (fun x => !p x) ++ [l[m]] := by
            rw [List.take_succ_eq_append_getElem hml, List.filter_append]; simp [hpm]
          generalize hK : (l.take m).filter (fun x => !p x) = K at *
          have g2 : v[K.length]? = some v[K.length] := by rw [List.getElem?_eq_getElem (by omega)]
          have st : gsDel1 l φ ((K.length : Int), (m : Int), v) = some (.inl (((K ++ [l[m]]).length : Int), ((m + 1 : Nat) : Int), v.set K.length l[m])) := by
            have z : (((0 : Nat) : Int) + (K.length : Int)).toNat = K.length := by simp
            simp only [gsDel1, d1, cond_true, inb_get hml, inb_get (show K.length < l.length by omega), at_natz, g1, g2, Option.bind_some, hp, hpm, Bool.not_false, z]
            rw [wrap_succ (by omega), wrap_succ (by omega), List.length_append, List.length_singleton]
          rw [iter_inl st]
          have := ih (m + 1) (v.set K.length l[m]) j (by omega) (by omega) (by omega) (by simp [hv]) (by
            rw [List.drop_set_of_lt (by omega), ← List.drop_drop, ← List.drop_drop, hd]) (by
            rw [ef, List.length_append, List.length_singleton, List.take_succ_eq_append_getElem (by rw [List.length_set]; omega), List.getElem_set_self]
            congr 1
            rw [List.take_set_of_le (Nat.le_refl _), ht]) (by rw [ef, List.length_append, List.length_singleton]; omega)
          rw [ef] at this
          exact this
    obtain ⟨w, hw1, hw2⟩ := main (l.length - (i + 1)) (i + 1) l n (by omega) (by omega) (by omega) rfl rfl (by rw [base, List.length_take, Nat.min_eq_left (by omega)]) (by rw [base, List.length_take]; omega)
    rw [base, List.length_take, Nat.min_eq_left (by omega)] at hw1
    rw [hw1]
    have fl : (l.filter fun x => !p x).length ≤ l.length := List.length_filter_le _ _
    have s1 : slOk ((l.filter fun x => !p x).length : Int) ((l.length : Nat) : Int) l.length = true := slOk_true (by omega) (by omega) (by omega)
    have s2 : slOk 0 ((l.filter fun x => !p x).length : Int) l.length = true := slOk_true (by omega) (by omega) (by omega)
    simp only [Option.bind_some, s1, s2, cond_true, Int.toNat_natCast, eqL_self, Nat.zero_add, hw2, sub_all]
  · have e1 : idxL p l = -1 := by simp [idxL, h1]
    have e2 : l.filter (fun x => !p x) = l := by
      rw [List.filter_eq_self]
      intro x hx; rw [h2 x hx]; rfl
    simp [e1, e2]
end
end Go.Gb
