/-
  The plain law of the rectangles: what the printed functions come to.
-/
import Derived.Test.YtihokdanilekmaaRectSums1
import Derived.Laws.BitsLemmas
namespace Go.Proofs
open Go.Gb

theorem wrap64 {n : Int} (h : -9223372036854775808 ≤ n) (h' : n < 9223372036854775808) : IntKind.i64.wrap n = n := by
  rw [IntKind.wrap_i64]; omega

/-- A valid rectangle. -/
def Ok (a : S22) : Prop := 0 ≤ a.x0 ∧ a.x0 < a.x1 ∧ a.x1 ≤ 1048576 ∧ 0 ≤ a.y0 ∧ a.y0 < a.y1 ∧ a.y1 ≤ 1048576

instance (a : S22) : Decidable (Ok a) := by unfold Ok; infer_instance

theorem r_Right_eq (a : S22) : r_Right a = decide (Ok a) := by
  rw [Bool.eq_iff_iff, decide_eq_true_iff]
  simp only [r_Right, Bool.cond_false_right, Bool.and_eq_true, decide_eq_true_eq, Ok, and_assoc]

theorem q_Right_eq (a : S22) : q_Right a = decide (Ok a) := by
  rw [Bool.eq_iff_iff, decide_eq_true_iff]
  simp only [q_Right, q_span, letv, Bool.cond_false_right, Bool.and_eq_true, decide_eq_true_eq, Ok, and_assoc, ge_iff_le]

def zz : S22 := ⟨0, 0, 0, 0⟩
def meet (a b : S22) : S22 := ⟨max a.x0 b.x0, max a.y0 b.y0, min a.x1 b.x1, min a.y1 b.y1⟩
def grow (a : S22) (d : Int) : S22 := ⟨max 0 (a.x0 - min d 1048576), max 0 (a.y0 - min d 1048576), min 1048576 (a.x1 + min d 1048576), min 1048576 (a.y1 + min d 1048576)⟩
def shr (a : S22) (d : Int) : S22 := ⟨a.x0 + d, a.y0 + d, a.x1 - d, a.y1 - d⟩
def apart (a b c d : Int) : Int := if b ≤ c then c - b + 1 else if d ≤ a then a - d + 1 else 0

theorem r_checked_eq (a : S22) : r_checked a = if Ok a then (a, true) else (zz, false) := by
  simp only [r_checked, letv, r_Right_eq, zz]
  by_cases h : Ok a <;> simp [h]

theorem r_Intersect_eq (a b : S22) : r_Intersect a b = if Ok a ∧ Ok b ∧ Ok (meet a b) then (meet a b, true) else (zz, false) := by
  have e : S22.mk (max a.x0 b.x0) (max a.y0 b.y0) (min a.x1 b.x1) (min a.y1 b.y1) = meet a b := rfl
  simp only [r_Intersect, letv, r_Right_eq, r_checked_eq, e, zz]
  generalize meet a b = m
  by_cases h : Ok a <;> by_cases h' : Ok b <;> by_cases h2 : Ok m <;> simp [h, h', h2]

theorem q_Intersect_eq (a b : S22) : q_Intersect a b = if Ok a ∧ Ok b ∧ Ok (meet a b) then (meet a b, true) else (zz, false) := by
  have e : S22.mk (max a.x0 b.x0) (max a.y0 b.y0) (min a.x1 b.x1) (min a.y1 b.y1) = meet a b := rfl
  simp only [q_Intersect, letv, q_Right_eq, e, zz]
  generalize meet a b = m
  by_cases h : Ok a <;> by_cases h' : Ok b <;> by_cases h2 : Ok m <;> simp [h, h', h2]

theorem r_Grow_eq (a : S22) (d : Int) (hd : -9223372036854775808 ≤ d) : r_Grow a d = if Ok a ∧ 0 ≤ d then (grow a d, true) else (zz, false) := by
  simp only [r_Grow, letv, r_Right_eq]
  by_cases h : Ok a
  · by_cases h' : d < 0
    · have : ¬ 0 ≤ d := by omega
      simp [h, h', this, zz]
    · have h2 : 0 ≤ d := by omega
      have hh := h
      obtain ⟨_, _, _, _, _, _⟩ := hh
      rw [wrap64 (by omega) (by omega), wrap64 (by omega) (by omega), wrap64 (by omega) (by omega), wrap64 (by omega) (by omega)]
      simp only [h, h', h2, decide_true, decide_false, Bool.not_true, cond_false, and_self, if_true, grow, Prod.mk.injEq, and_true, S22.mk.injEq]
      omega
  · simp [h, zz]

theorem q_Grow_eq (a : S22) (d : Int) (hd : -9223372036854775808 ≤ d) : q_Grow a d = if Ok a ∧ 0 ≤ d then (grow a d, true) else (zz, false) := by
  simp only [q_Grow, letv, q_Right_eq]
  by_cases h : Ok a
  · by_cases h' : d < 0
    · have : ¬ 0 ≤ d := by omega
      simp [h, h', this, zz]
    · have h2 : 0 ≤ d := by omega
      have hh := h
      obtain ⟨_, _, _, _, _, _⟩ := hh
      rw [wrap64 (by omega) (by omega), wrap64 (by omega) (by omega), wrap64 (by omega) (by omega), wrap64 (by omega) (by omega)]
      simp only [h, h', h2, decide_true, decide_false, Bool.not_true, cond_false, and_self, if_true, grow]
  · simp [h, zz]

theorem r_Shrink_eq (a : S22) (d : Int) (hd : -9223372036854775808 ≤ d) : r_Shrink a d = if Ok a ∧ 0 ≤ d ∧ Ok (shr a d) then (shr a d, true) else (zz, false) := by
  simp only [r_Shrink, letv, r_Right_eq, r_checked_eq]
  by_cases h : Ok a
  · by_cases h' : d < 0
    · have : ¬ 0 ≤ d := by omega
      simp [h, h', this, zz]
    · have h2 : 0 ≤ d := by omega
      have hh := h
      obtain ⟨_, _, _, _, _, _⟩ := hh
      rw [wrap64 (by omega) (by omega), wrap64 (by omega) (by omega), wrap64 (by omega) (by omega), wrap64 (by omega) (by omega)]
      by_cases hb : d ≤ 1048576
      · have e : min d 1048576 = d := by omega
        have e2 : S22.mk (a.x0 + d) (a.y0 + d) (a.x1 - d) (a.y1 - d) = shr a d := rfl
        rw [e, e2]
        generalize shr a d = m
        by_cases h3 : Ok m <;> simp [h, h', h2, h3, zz]
      · have e : min d 1048576 = 1048576 := by omega
        rw [e]
        have n1 : ¬ Ok ⟨a.x0 + 1048576, a.y0 + 1048576, a.x1 - 1048576, a.y1 - 1048576⟩ := by simp only [Ok]; omega
        have n2 : ¬ Ok (shr a d) := by simp only [Ok, shr]; omega
        simp [h, h', n1, n2]
  · simp [h, zz]

theorem q_Shrink_eq (a : S22) (d : Int) (hd : -9223372036854775808 ≤ d) : q_Shrink a d = if Ok a ∧ 0 ≤ d ∧ Ok (shr a d) then (shr a d, true) else (zz, false) := by
  simp only [q_Shrink, letv, q_Right_eq]
  by_cases h : Ok a
  · by_cases h' : d < 0
    · have : ¬ 0 ≤ d := by omega
      simp [h, h', this, zz]
    · have h2 : 0 ≤ d := by omega
      have hh := h
      obtain ⟨_, _, _, _, _, _⟩ := hh
      by_cases hb : d ≤ 1048576
      · have hb' : ¬ d > 1048576 := by omega
        rw [wrap64 (by omega) (by omega), wrap64 (by omega) (by omega), wrap64 (by omega) (by omega), wrap64 (by omega) (by omega)]
        have e2 : S22.mk (a.x0 + d) (a.y0 + d) (a.x1 - d) (a.y1 - d) = shr a d := rfl
        rw [e2]
        generalize shr a d = m
        by_cases h3 : Ok m <;> simp [h, h', h2, h3, hb', zz]
      · have hb' : d > 1048576 := by omega
        have n2 : ¬ Ok (shr a d) := by simp only [Ok, shr]; omega
        simp [h, hb', n2, zz]
  · simp [h, zz]

/-- How many cells. -/
def area (a : S22) : Int := if Ok a then (a.x1 - a.x0) * (a.y1 - a.y0) else 0

theorem prod_fits {p q : Int} (hp : 0 ≤ p) (hp' : p ≤ 1048576) (hq : 0 ≤ q) (hq' : q ≤ 1048576) : 0 ≤ p * q ∧ p * q ≤ 1099511627776 :=
  ⟨Int.mul_nonneg hp hq, Int.le_trans (Int.mul_le_mul hp' hq' hq (by omega)) (by omega)⟩

theorem r_Area_eq (a : S22) : r_Area a = area a := by
  simp only [r_Area, letv, r_checked_eq, area]
  by_cases h : Ok a
  · have hh := h
    obtain ⟨_, _, _, _, _, _⟩ := hh
    have := prod_fits (p := a.x1 - a.x0) (q := a.y1 - a.y0) (by omega) (by omega) (by omega) (by omega)
    simp only [h, if_true]
    rw [wrap64 (n := a.x1 - a.x0) (by omega) (by omega), wrap64 (n := a.y1 - a.y0) (by omega) (by omega), wrap64 (by omega) (by omega)]
  · simp only [h, if_false, zz]
    rfl

theorem q_Area_eq (a : S22) : q_Area a = area a := by
  simp only [q_Area, letv, q_Right_eq, area]
  by_cases h : Ok a
  · have hh := h
    obtain ⟨_, _, _, _, _, _⟩ := hh
    have := prod_fits (p := a.x1 - a.x0) (q := a.y1 - a.y0) (by omega) (by omega) (by omega) (by omega)
    simp only [h, if_true, decide_true, Bool.not_true, cond_false]
    rw [wrap64 (n := a.x1 - a.x0) (by omega) (by omega), wrap64 (n := a.y1 - a.y0) (by omega) (by omega), wrap64 (by omega) (by omega)]
  · simp [h]

def gaps1 (a b c d : Int) : Int := max a c - min b d

/-- The distance of two rectangles; -1 if one is not valid. -/
def gap (a b : S22) : Int := if Ok a ∧ Ok b then max (max 0 (gaps1 a.x0 a.x1 b.x0 b.x1)) (gaps1 a.y0 a.y1 b.y0 b.y1) else -1

theorem r_Gap_eq (a b : S22) : r_Gap a b = gap a b := by
  simp only [r_Gap, letv, r_Right_eq, r_gaps, gap, gaps1]
  by_cases h : Ok a
  · by_cases h' : Ok b
    · have h1 := h
      have h2 := h'
      obtain ⟨_, _, _, _, _, _⟩ := h1
      obtain ⟨_, _, _, _, _, _⟩ := h2
      rw [wrap64 (by omega) (by omega), wrap64 (by omega) (by omega)]
      simp [h, h']
    · simp [h, h']
  · simp [h]

theorem q_apart_eq (a b c d : Int) (h1 : -1048576 ≤ a ∧ a ≤ 1048576) (h2 : -1048576 ≤ b ∧ b ≤ 1048576) (h3 : -1048576 ≤ c ∧ c ≤ 1048576) (h4 : -1048576 ≤ d ∧ d ≤ 1048576) : q_apart a b c d = apart a b c d := by
  simp only [q_apart, apart]
  rw [wrap64 (n := c - b) (by omega) (by omega), wrap64 (by omega) (by omega), wrap64 (n := a - d) (by omega) (by omega), wrap64 (by omega) (by omega)]
  by_cases h5 : b ≤ c
  · simp [h5]
  · by_cases h6 : d ≤ a <;> simp [h5, h6]

theorem q_Gap_eq (a b : S22) : q_Gap a b = gap a b := by
  simp only [q_Gap, letv, q_Right_eq, gap]
  by_cases h : Ok a
  · by_cases h' : Ok b
    · have h1 := h
      have h2 := h'
      obtain ⟨_, _, _, _, _, _⟩ := h1
      obtain ⟨_, _, _, _, _, _⟩ := h2
      rw [q_apart_eq _ _ _ _ (by omega) (by omega) (by omega) (by omega), q_apart_eq _ _ _ _ (by omega) (by omega) (by omega) (by omega)]
      rw [wrap64 (by simp only [apart]; omega) (by simp only [apart]; omega)]
      simp only [h, h', decide_true, Bool.not_true, cond_false, and_self, if_true, apart, gaps1]
      omega
    · simp [h, h']
  · simp [h]

/-- Two rectangles have a piece of a side in common, and no cell. -/
def touch (a b : S22) : Bool := decide (Ok a ∧ Ok b) && (decide (gaps1 a.x0 a.x1 b.x0 b.x1 = 0 ∧ gaps1 a.y0 a.y1 b.y0 b.y1 < 0) || decide (gaps1 a.y0 a.y1 b.y0 b.y1 = 0 ∧ gaps1 a.x0 a.x1 b.x0 b.x1 < 0))

theorem r_gaps_eq (a b : S22) (h : Ok a) (h' : Ok b) : r_gaps a b = (gaps1 a.x0 a.x1 b.x0 b.x1, gaps1 a.y0 a.y1 b.y0 b.y1) := by
  obtain ⟨_, _, _, _, _, _⟩ := h
  obtain ⟨_, _, _, _, _, _⟩ := h'
  simp only [r_gaps, gaps1]
  rw [wrap64 (by omega) (by omega), wrap64 (by omega) (by omega)]

theorem r_Touch_eq (a b : S22) : r_Touch a b = touch a b := by
  simp only [r_Touch, letv, r_Right_eq, touch]
  by_cases h : Ok a
  · by_cases h' : Ok b
    · rw [r_gaps_eq a b h h', Bool.eq_iff_iff]
      simp [h, h']
    · simp [h, h']
  · simp [h]

theorem q_Touch_eq (a b : S22) : q_Touch a b = touch a b := by
  simp only [q_Touch, letv, q_Right_eq, touch]
  by_cases h : Ok a
  · by_cases h' : Ok b
    · have h1 := h
      have h2 := h'
      obtain ⟨_, _, _, _, _, _⟩ := h1
      obtain ⟨_, _, _, _, _, _⟩ := h2
      rw [q_apart_eq _ _ _ _ (by omega) (by omega) (by omega) (by omega), q_apart_eq _ _ _ _ (by omega) (by omega) (by omega) (by omega)]
      rw [wrap64 (by simp only [apart]; omega) (by simp only [apart]; omega)]
      rw [Bool.eq_iff_iff]
      simp only [h, h', decide_true, Bool.not_true, cond_false, and_self, beq_iff_eq, Bool.true_and, Bool.or_eq_true, decide_eq_true_eq]
      simp only [apart, gaps1]
      omega
    · simp [h, h']
  · simp [h]
theorem r_Has_eq (a : S22) (x y : Int) : r_Has a x y = decide (Ok a ∧ a.x0 ≤ x ∧ x < a.x1 ∧ a.y0 ≤ y ∧ y < a.y1) := by
  simp only [r_Has, letv, r_checked_eq]
  rw [Bool.eq_iff_iff]
  by_cases h : Ok a
  · simp [h, and_assoc]
  · simp only [h, if_false, zz, Bool.cond_false_right, Bool.and_eq_true, decide_eq_true_eq, false_and, iff_false]
    omega

theorem q_Has_eq (a : S22) (x y : Int) : q_Has a x y = decide (Ok a ∧ a.x0 ≤ x ∧ x < a.x1 ∧ a.y0 ≤ y ∧ y < a.y1) := by
  simp only [q_Has, letv, q_Right_eq]
  rw [Bool.eq_iff_iff]
  simp [and_assoc]

/-- a lies inside of b. -/
def inside (a b : S22) : Prop := Ok a ∧ Ok b ∧ b.x0 ≤ a.x0 ∧ a.x1 ≤ b.x1 ∧ b.y0 ≤ a.y0 ∧ a.y1 ≤ b.y1
instance (a b : S22) : Decidable (inside a b) := by unfold inside; infer_instance

theorem q_Inside_eq (a b : S22) : q_Inside a b = decide (inside a b) := by
  simp only [q_Inside, letv, q_Right_eq]
  rw [Bool.eq_iff_iff, decide_eq_true_iff]
  simp [and_assoc, inside]

theorem r_Inside_eq (a b : S22) : r_Inside a b = decide (inside a b) := by
  simp only [r_Inside, letv, r_Intersect_eq]
  rw [Bool.eq_iff_iff, decide_eq_true_iff]
  by_cases h : Ok a ∧ Ok b ∧ Ok (meet a b)
  · rw [if_pos h]
    obtain ⟨h1, h2, _⟩ := h
    simp only [cond_true, Bool.and_eq_true, beq_iff_eq, Bool.and_true, inside, meet, h1, h2, true_and]
    omega
  · rw [if_neg h]
    simp only [cond_false, Bool.false_eq_true, false_iff]
    intro hi
    obtain ⟨h1, h2, h3⟩ := hi
    refine h ⟨h1, h2, ?_⟩
    simp only [Ok, meet] at h1 h2 ⊢
    omega
end Go.Proofs
