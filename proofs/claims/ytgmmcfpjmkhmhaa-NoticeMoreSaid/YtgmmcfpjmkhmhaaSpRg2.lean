/-
  What region.Of, region.Right and offset.Gap come to, at few rectangles.
-/
import Derived.Test.YtgmmcfpjmkhmhaaSpRg
namespace Go.Proofs
open Go.Gb Go.RowKit

/-- The rectangles of a column. -/
def rectsL (x0 x1 : Int) (c : List Gspan) : List GRect := c.map fun q => ⟨x0, q.from_, x1, q.to⟩
/-- Strips as rectangles; neighbours with one column become one. -/
def wrGo (x0 x1 : Int) (c : List Gspan) : List Gstrip → List GRect
  | [] => rectsL x0 x1 c
  | s :: l => if s.column = c then wrGo x0 s.x1 c l else rectsL x0 x1 c ++ wrGo s.x0 s.x1 s.column l
def writeL : List Gstrip → List GRect
  | [] => []
  | s :: l => wrGo s.x0 s.x1 s.column l

theorem wrGo_skip (x0 : Int) (c : List Gspan) : ∀ (l : List Gstrip) (x1 : Int) (k : Nat) (hk : k ≤ l.length), (∀ j (hj : j < k), (l[j]'(by omega)).column = c) → (∀ h : k < l.length, l[k].column ≠ c) →
    wrGo x0 x1 c l = rectsL x0 (if h : 0 < k then (l[k - 1]'(by omega)).x1 else x1) c ++ writeL (l.drop k)
  | l, x1, 0, _, _, h2 => by
    cases l with
    | nil => simp [wrGo, writeL]
    | cons s l =>
      have := h2 (by simp)
      simp only [List.getElem_cons_zero] at this
      simp [wrGo, writeL, this]
  | [], x1, k + 1, hk, _, _ => by simp at hk
  | s :: l, x1, k + 1, hk, h1, h2 => by
    have e0 := h1 0 (by omega)
    simp only [List.getElem_cons_zero] at e0
    simp only [wrGo, e0, if_true]
    rw [wrGo_skip x0 c l s.x1 k (by simpa using hk) (fun j hj => by have := h1 (j + 1) (by omega); simpa using this) (fun h => by have := h2 (by simpa using h); simpa using this)]
    simp only [List.drop_succ_cons]
    congr 2
    by_cases hk0 : 0 < k
    · simp only [hk0, dite_true, Nat.zero_lt_succ, Nat.add_sub_cancel]
      obtain ⟨m, rfl⟩ : ∃ m, k = m + 1 := ⟨k - 1, by omega⟩
      simp
    · have : k = 0 := by omega
      subst this
      simp

theorem length_writeL (l : List Gstrip) (b : Nat) (h : ∀ s ∈ l, s.column.length ≤ b) : (writeL l).length ≤ l.length * b := by
  have go : ∀ (l : List Gstrip) (x0 x1 : Int) (c : List Gspan), c.length ≤ b → (∀ s ∈ l, s.column.length ≤ b) → (wrGo x0 x1 c l).length ≤ (l.length + 1) * b := by
    intro l
    induction l with
    | nil => intro x0 x1 c hc _; simp only [wrGo, rectsL, List.length_map, List.length_nil]; omega
    | cons s l ih =>
      intro x0 x1 c hc hl
      simp only [wrGo]
      split
      · have := ih x0 s.x1 c hc (fun t ht => hl t (List.mem_cons_of_mem _ ht))
        simp only [List.length_cons, Nat.add_mul] at *
        omega
      · have := ih s.x0 s.x1 s.column (hl s (by simp)) (fun t ht => hl t (List.mem_cons_of_mem _ ht))
        simp only [List.length_append, rectsL, List.length_map, List.length_cons, Nat.add_mul] at *
        omega
  cases l with
  | nil => simp [writeL]
  | cons s l =>
    simp only [writeL]
    exact go l _ _ _ (h s (by simp)) (fun t ht => h t (List.mem_cons_of_mem _ ht))

theorem rg_write_s3_run {n : Nat} {l : List Gstrip} {i k : Nat} (hi : i < l.length) (hk1 : 0 < k) (hk : k ≤ l.length) (hl : l.length < 10995116277) (x3 : Gstrip) (out : List GRect) (ho : out.length < 1099511627776) (hc : x3.column.length < 1099511627776) (hn : x3.column.length < n) :
    iter (rg_write_s3 l (i : Int) (k : Int) x3) n ((0 : Int), out) = some (out ++ rectsL l[i].x0 (l[k - 1]'(by omega)).x1 x3.column) := by
  have := iter_foldI (l := x3.column) (step := rg_write_s3 l (i : Int) (k : Int) x3) (fun j (s : List GRect) => ((j : Int), s)) (fun q s => s ++ [⟨l[i].x0, q.from_, (l[k - 1]'(by omega)).x1, q.to⟩]) (fun s => s) (fun j s => s.length ≤ out.length + j)
    (fun j hj s hs => ?_) (fun s hs => by simp [rg_write_s3]) n hn out (Nat.le_refl _)
  · rw [show ((0 : Nat) : Int) = 0 from rfl] at this
    rw [this]
    have gen : ∀ (ys : List Gspan) (s : List GRect), ys.foldl (fun s q => s ++ [⟨l[i].x0, q.from_, (l[k - 1]'(by omega)).x1, q.to⟩]) s = s ++ rectsL l[i].x0 (l[k - 1]'(by omega)).x1 ys := by
      intro ys
      induction ys with
      | nil => intro s; simp [rectsL]
      | cons y ys ih => intro s; simp only [List.foldl_cons, ih]; simp [rectsL]
    rw [gen]
  · have hj' : decide (((j : Nat) : Int) < (x3.column.length : Int)) = true := by simpa using hj
    have wp : IntKind.i64.wrap ((k : Int) - 1) = ((k - 1 : Nat) : Int) := wrap_pred hk1 (by omega)
    have ap : appOk s.length s.length (sub ([(GRect.mk l[i].x0 (x3.column[j]).from_ (l[k - 1]'(by omega)).x1 (x3.column[j]).to)] : List GRect) 0 1).length 1 32 = true := appOk_true (n := 1) (by omega) (by simp only [maxLen]; omega)
    simp only [rg_write_s3, hj', cond_true, at_get hj, at_get hi, wp, at_get (show k - 1 < l.length by omega), Option.bind_some, ap, letv_eq, eqL_self]
    refine ⟨?_, by simp; omega⟩
    rw [wrap_succ (by omega)]; rfl

theorem rg_write_eq {n : Nat} {l : List Gstrip} {b : Nat} (hb : b ≤ 100) (hl : l.length ≤ 100) (hc : ∀ s ∈ l, s.column.length ≤ b) (hn : 200 ≤ n) : rg_write n l = some (writeL l) := by
  unfold rg_write
  simp only [List.length_nil, eqL_self, cond_true]
  have main : ∀ (m i : Nat) (out : List GRect) (k : Nat), i + m = l.length → m < k → out.length ≤ i * b → iter (rg_write_s1 n l) k ((i : Int), out) = some (out ++ writeL (l.drop i)) := by
    intro m
    induction m using Nat.strongRecOn with
    | ind m ih =>
      intro i out k him hk ho
      obtain ⟨k, rfl⟩ : ∃ j, k = j + 1 := ⟨k - 1, by omega⟩
      by_cases hm : m = 0
      · subst hm
        have : i = l.length := by omega
        subst this
        refine iter_inr ?_
        simp [rg_write_s1, writeL]
      · have hi : i < l.length := by omega
        have di : decide (((i : Nat) : Int) < (l.length : Int)) = true := by simpa using hi
        -- up to where the columns are alike
        obtain ⟨q, hq1, hq2, hq3, hq4⟩ : ∃ q, i < q ∧ q ≤ l.length ∧ (∀ j, i < j → j < q → ∀ h : j < l.length, l[j].column = l[i].column) ∧ (∀ h : q < l.length, l[q].column ≠ l[i].column) := by
          rcases first_or_none (fun j => if h : j < l.length then decide (l[j].column ≠ l[i].column) else false) (i + 1) l.length with ⟨q, h1, h2, h3, h4⟩ | h
          · simp only [h2, dite_true, decide_eq_true_eq] at h3
            refine ⟨q, by omega, by omega, fun j hj1 hj2 hj => ?_, fun _ => h3⟩
            have := h4 j (by omega) hj2
            simp only [hj, dite_true, decide_eq_false_iff_not, ne_eq, Decidable.not_not] at this
            exact this
          · refine ⟨l.length, hi, Nat.le_refl _, fun j hj1 hj2 hj => ?_, fun h => by omega⟩
            have := h j (by omega) hj
            simp only [hj, dite_true, decide_eq_false_iff_not, ne_eq, Decidable.not_not] at this
            exact this
        have cl : ∀ j (hj : j < l.length), l[j].column.length ≤ b := fun j hj => hc _ (List.getElem_mem hj)
        have r2 : iter (rg_write_s2 n l (i : Int)) n (IntKind.i64.wrap ((i : Int) + 1)) = some (q : Int) := by
          rw [wrap_succ (by omega)]
          have := iter_to (step := rg_write_s2 n l (i : Int)) (fun j => ((i + 1 + j : Nat) : Int)) (q - (i + 1)) (q : Int) (fun j hj => ?_) ?_ n (by omega)
          · simpa using this
          · have hjl : i + 1 + j < l.length := by omega
            have dj : decide (((i + 1 + j : Nat) : Int) < (l.length : Int)) = true := by simp; omega
            have hcc := cl (i + 1 + j) hjl
            simp only [rg_write_s2, dj, cond_true, at_get hjl, at_get hi, Option.bind_some]
            rw [sl_Equal_span_eq (by omega) (by omega), hq3 (i + 1 + j) (by omega) (by omega) hjl]
            simp only [decide_true, Option.bind_some, cond_true]
            rw [wrap_succ (by omega)]; rfl
          · rw [show i + 1 + (q - (i + 1)) = q by omega]
            by_cases hql : q < l.length
            · have dj : decide (((q : Nat) : Int) < (l.length : Int)) = true := by simpa using hql
              have hcc := cl q hql
              simp only [rg_write_s2, dj, cond_true, at_get hql, at_get hi, Option.bind_some]
              rw [sl_Equal_span_eq (by omega) (by omega)]
              simp [hq4 hql]
            · have dj : decide (((q : Nat) : Int) < (l.length : Int)) = false := by simp; omega
              simp only [rg_write_s2, dj, cond_false, Option.bind_some]
        have ob : i * b ≤ 100 * 100 := Nat.mul_le_mul (by omega) hb
        have hci := cl i hi
        have r3 := rg_write_s3_run (n := n) hi (show 0 < q by omega) hq2 (by omega) l[i] out (by omega) (by omega) (by omega)
        have step : rg_write_s1 n l ((i : Int), out) = some (.inl ((q : Int), out ++ rectsL l[i].x0 (l[q - 1]'(by omega)).x1 l[i].column)) := by
          simp only [rg_write_s1, di, cond_true, r2, at_get hi, Option.bind_some, eqL_self, r3]
        rw [iter_inl step, ih (l.length - q) (by omega) q _ k (by omega) (by omega) (by
          rw [List.length_append, rectsL, List.length_map]
          have : (i + 1) * b ≤ q * b := Nat.mul_le_mul_right _ (by omega)
          rw [Nat.add_mul] at this
          omega)]
        rw [List.append_assoc]
        congr 2
        conv => rhs; rw [List.drop_eq_getElem_cons hi]
        simp only [writeL]
        rw [wrGo_skip l[i].x0 l[i].column (l.drop (i + 1)) l[i].x1 (q - (i + 1)) (by rw [List.length_drop]; omega) (fun j hj => by
          rw [List.getElem_drop]; exact hq3 _ (by omega) (by omega) (by omega)) (fun h => by
          rw [List.length_drop] at h
          rw [List.getElem_drop]
          have := hq4 (by omega)
          have hqq : i + 1 + (q - (i + 1)) = q := by omega
          simp only [hqq]; exact this)]
        rw [List.drop_drop, show i + 1 + (q - (i + 1)) = q by omega]
        congr 2
        by_cases h0 : 0 < q - (i + 1)
        · simp only [h0, dite_true, List.getElem_drop]
          congr 2
          omega
        · simp only [h0, dite_false]
          have : q - 1 = i := by omega
          congr 2
  have := main l.length 0 [] n (by omega) (by omega) (by simp)
  simp only [Int.natCast_zero, List.nil_append, List.drop_zero] at this
  rw [this]
  simp

/-- The region of some rectangles; what went wrong. -/
def ofL (l : List GRect) : List GRect × Int :=
  if l.all OkR then (if (writeL (stripsL l)).length > 200 then ([], 6) else (writeL (stripsL l), 0)) else ([], 1)
def rightL (l : List GRect) : Bool := decide ((ofL l).2 = 0) && decide ((ofL l).1 = l)

theorem stripsL_col {l : List GRect} {s : Gstrip} (h : s ∈ stripsL l) : s.column.length ≤ l.length := by
  obtain ⟨i, hi, rfl⟩ := List.getElem_of_mem h
  obtain ⟨p1, p2⟩ := pairsL_get (fun a b => (⟨a, b, columnL l a⟩ : Gstrip)) (edgesL l)
  have : (stripsL l)[i] = ⟨(edgesL l)[i]'(by unfold stripsL at hi; omega), (edgesL l)[i + 1]'(by unfold stripsL at hi; omega), columnL l ((edgesL l)[i]'(by unfold stripsL at hi; omega))⟩ := p2 i (by unfold stripsL at hi; omega) hi
  rw [this]
  exact length_columnL l _

theorem length_stripsL (l : List GRect) : (stripsL l).length ≤ 2 * l.length := by
  obtain ⟨p1, _⟩ := pairsL_get (fun a b => (⟨a, b, columnL l a⟩ : Gstrip)) (edgesL l)
  have := length_edgesL l
  unfold stripsL
  omega

theorem rg_Of_eq {n : Nat} {l : List GRect} (hl : l.length ≤ 6) (hn : 200 ≤ n) : rg_Of n l = some (ofL l) := by
  unfold rg_Of
  have h1 := iter_find (l := l) (step := rg_Of_s1 l) (fun i => (i : Int)) (fun r => !OkR r) () (fun _ => (([] : List GRect), (1 : Int))) (fun i hi => ?_) ?_ n (by omega)
  · rw [show ((0 : Nat) : Int) = 0 from rfl] at h1
    rw [h1]
    have h2 := findL_isSome (fun r => !OkR r) l
    cases hf : findL (fun r => !OkR r) l with
    | some i =>
      rw [hf] at h2
      have : l.all OkR = false := by
        rw [← Bool.not_eq_true, List.all_eq_true]
        intro hall
        have h3 := h2.symm
        simp only [Option.isSome_some, List.any_eq_true] at h3
        obtain ⟨x, hx, hx2⟩ := h3
        rw [hall x hx] at hx2; cases hx2
      simp [ofL, this]
    | none =>
      rw [hf] at h2
      have : l.all OkR = true := by
        rw [List.all_eq_true]
        intro x hx
        cases h : OkR x with
        | true => rfl
        | false =>
          have : l.any (fun r => !OkR r) = true := List.any_eq_true.2 ⟨x, hx, by rw [h]; rfl⟩
          rw [this] at h2; cases h2
      have d4 : decide ((l.length : Int) > 400) = false := by simp; omega
      have ls := length_stripsL l
      have lw := length_writeL (stripsL l) 6 (fun s hs => Nat.le_trans (stripsL_col hs) hl)
      simp only [thenB_inl, d4, cond_false]
      rw [show (sub ([l] : List (List GRect)) 0 1) = [l] from rfl, rg_strips_eq hl (by omega)]
      simp only [List.length_singleton, eqL_self, cond_true, Option.bind_some, sub_all]
      rw [rg_write_eq (b := 6) (by omega) (by omega) (fun s hs => Nat.le_trans (stripsL_col hs) hl) hn]
      simp only [Option.bind_some, sub_all, eqL_self, cond_true, rg_limited, ofL, this, if_true]
      by_cases h200 : (writeL (stripsL l)).length > 200
      · have : decide (((writeL (stripsL l)).length : Int) > 200) = true := by simp; omega
        simp only [this, cond_true, Option.bind_some, h200, if_true]
      · have : decide (((writeL (stripsL l)).length : Int) > 200) = false := by simp; omega
        simp only [this, cond_false, Option.bind_some, h200, if_false]
  · have hi' : decide (((i : Nat) : Int) < (l.length : Int)) = true := by simpa using hi
    simp only [rg_Of_s1, hi', cond_true, at_get hi, Option.bind_some, r_Right_eq]
    cases OkR l[i] with
    | false => rfl
    | true => simp only [Bool.not_true, cond_false]; rw [wrap_succ (by omega)]
  · simp [rg_Of_s1]

theorem rg_Right_eq {n : Nat} {l : List GRect} (hl : l.length ≤ 6) (hn : 200 ≤ n) : rg_Right n l = some (rightL l) := by
  unfold rg_Right rightL
  rw [rg_Of_eq hl hn]
  simp only [Option.bind_some]
  by_cases h : (ofL l).2 = 0
  · have e : ((ofL l).2 == 0) = true := by simp [h]
    have lo : (ofL l).1.length ≤ 200 := by
      unfold ofL
      split
      · split
        · simp
        · simp; omega
      · simp
    by_cases hlen : (ofL l).1.length < n
    · simp only [e, cond_true, h, decide_true, Bool.true_and]
      rw [sl_Equal_Rect_eq (by omega) hlen]; rfl
    · have : (ofL l).1.length ≠ l.length := by omega
      have hne : (ofL l).1 ≠ l := fun e => this (by rw [e])
      simp only [e, cond_true, h, decide_true, Bool.true_and]
      unfold sl_Equal_Rect
      have hb : (((ofL l).1.length : Int) != (l.length : Int)) = true := by simp; omega
      rw [hb]
      simp [hne]
  · have e : ((ofL l).2 == 0) = false := by simp [h]
    simp [e, h]
end Go.Proofs
