/-
  RectMeets: the plain law, the row.
-/
import Derived.Test.YtihokdanilekmaaRectLoops
import Derived.Test.YtihokdanilekmaaSumRectMeets
import Derived.Test.YtihokdanilekmaaRows
namespace Go.Proofs.Ytihokdanilekmaa
open Go.Gb Go.RowKit Go.ChangeShapes Go.WideShapes Go.ChangeAt

theorem meet_comm (a b : S22) : meet a b = meet b a := by
  simp only [meet, S22.mk.injEq]; omega

theorem meet_assoc (a b c : S22) : meet (meet a b) c = meet a (meet b c) := by
  simp only [meet, S22.mk.injEq]; omega

theorem meet_right {a b c : S22} (hb : Ok b) (hc : Ok c) (h : Ok (meet a (meet b c))) : Ok (meet b c) := by
  simp only [Ok, meet] at *; omega

theorem meet_left {a b c : S22} (ha : Ok a) (hb : Ok b) (h : Ok (meet (meet a b) c)) : Ok (meet a b) := by
  simp only [Ok, meet] at *; omega


theorem hull_ok {a b : S22} (ha : Ok a) (hb : Ok b) : Ok (hull a b) := by
  simp only [Ok, hull] at *; omega

theorem bounds2 {a b : S22} (ha : Ok a) (hb : Ok b) : r_Bounds 10 [a, b] = some (hull a b, true) := by
  rw [r_Bounds_eq [a, b] (by simp) (by simp)]
  simp [bounds, bstep, ha, hb]

theorem quad {p q u v : Int} (h1 : 0 ≤ p) (h2 : 0 ≤ q) (h3 : 0 ≤ u) (h4 : 0 ≤ v) : 0 ≤ p * q + u * v :=
  Int.add_nonneg (Int.mul_nonneg h1 h2) (Int.mul_nonneg h3 h4)

/-- Two sides of two rectangles: what both have together, the common cells counted once. -/
theorem both_in {w1 h1 w2 h2 p q : Int} (a1 : 0 ≤ w1) (a2 : 0 ≤ h1) (b1 : 0 ≤ w2) (b2 : 0 ≤ h2) (c1 : p ≤ w1) (c2 : p ≤ w2) (c3 : q ≤ h1) (c4 : q ≤ h2) :
    w1 * h1 + w2 * h2 - p * q ≤ (w1 + w2 - p) * (h1 + h2 - q) := by
  have := quad (p := w1 - p) (q := h2 - q) (u := w2 - p) (v := h1 - q) (by omega) (by omega) (by omega) (by omega)
  grind

theorem both_out {w1 h1 w2 h2 p q : Int} (a1 : 0 ≤ w1) (a2 : 0 ≤ h1) (b1 : 0 ≤ w2) (b2 : 0 ≤ h2) (c1 : p ≤ 0) (c3 : q ≤ h1) (c4 : q ≤ h2) :
    w1 * h1 + w2 * h2 ≤ (w1 + w2 - p) * (h1 + h2 - q) := by
  have e1 := quad (p := w1) (q := h2 - q) (u := w2) (v := h1 - q) (by omega) (by omega) (by omega) (by omega)
  have e2 := Int.mul_nonneg (a := -p) (b := h1 + h2 - q) (by omega) (by omega)
  grind

theorem both_out' {w1 h1 w2 h2 p q : Int} (a1 : 0 ≤ w1) (a2 : 0 ≤ h1) (b1 : 0 ≤ w2) (b2 : 0 ≤ h2) (c1 : q ≤ 0) (c3 : p ≤ w1) (c4 : p ≤ w2) :
    w1 * h1 + w2 * h2 ≤ (w1 + w2 - p) * (h1 + h2 - q) := by
  have := both_out (w1 := h1) (h1 := w1) (w2 := h2) (h2 := w2) (p := q) (q := p) a2 a1 b2 b1 c1 c3 c4
  grind

theorem area_ok {a : S22} (h : Ok a) : area a = (a.x1 - a.x0) * (a.y1 - a.y0) := by simp [area, h]
theorem area_fits (a : S22) : 0 ≤ area a ∧ area a ≤ 1099511627776 := by
  by_cases h : Ok a
  · rw [area_ok h]
    obtain ⟨_, _, _, _, _, _⟩ := h
    exact prod_fits (by omega) (by omega) (by omega) (by omega)
  · rw [area_zero h]; omega

theorem hull_area {a b : S22} (ha : Ok a) (hb : Ok b) : area a + area b - area (meet a b) ≤ area (hull a b) := by
  have hh := hull_ok ha hb
  rw [area_ok ha, area_ok hb, area_ok hh]
  have e1 : (hull a b).x1 - (hull a b).x0 = (a.x1 - a.x0) + (b.x1 - b.x0) - (min a.x1 b.x1 - max a.x0 b.x0) := by simp only [hull]; omega
  have e2 : (hull a b).y1 - (hull a b).y0 = (a.y1 - a.y0) + (b.y1 - b.y0) - (min a.y1 b.y1 - max a.y0 b.y0) := by simp only [hull]; omega
  rw [e1, e2]
  obtain ⟨a1, a2, a3, a4, a5, a6⟩ := ha
  obtain ⟨b1, b2, b3, b4, b5, b6⟩ := hb
  by_cases hm : Ok (meet a b)
  · rw [area_ok hm]
    simp only [meet]
    exact both_in (by omega) (by omega) (by omega) (by omega) (by omega) (by omega) (by omega) (by omega)
  · rw [area_zero hm, Int.sub_zero]
    by_cases hp : min a.x1 b.x1 - max a.x0 b.x0 ≤ 0
    · exact both_out (by omega) (by omega) (by omega) (by omega) hp (by omega) (by omega)
    · refine both_out' (by omega) (by omega) (by omega) (by omega) ?_ (by omega) (by omega)
      simp only [Ok, meet] at hm
      omega

theorem meet_area {a b : S22} (ha : Ok a) (hb : Ok b) : area (meet a b) ≤ min (area a) (area b) := by
  by_cases hm : Ok (meet a b)
  · rw [area_ok hm, area_ok ha, area_ok hb]
    obtain ⟨a1, a2, a3, a4, a5, a6⟩ := ha
    obtain ⟨b1, b2, b3, b4, b5, b6⟩ := hb
    simp only [Ok, meet] at hm ⊢
    have e1 : (min a.x1 b.x1 - max a.x0 b.x0) * (min a.y1 b.y1 - max a.y0 b.y0) ≤ (a.x1 - a.x0) * (a.y1 - a.y0) := Int.mul_le_mul (by omega) (by omega) (by omega) (by omega)
    have e2 : (min a.x1 b.x1 - max a.x0 b.x0) * (min a.y1 b.y1 - max a.y0 b.y0) ≤ (b.x1 - b.x0) * (b.y1 - b.y0) := Int.mul_le_mul (by omega) (by omega) (by omega) (by omega)
    omega
  · rw [area_zero hm]
    have := area_fits a
    have := area_fits b
    omega

theorem inside_iff {a b : S22} (ha : Ok a) (hb : Ok b) : inside a b ↔ meet a b = a := by
  simp only [inside, ha, hb, true_and, meet]
  obtain ⟨a1, a2, a3, a4⟩ := a
  simp only [S22.mk.injEq]
  omega

/-- The cells that two rectangles have in common, if any. -/
def cut (a b : S22) : S22 × Bool := if Ok a ∧ Ok b ∧ Ok (meet a b) then (meet a b, true) else (zz, false)

theorem cut_comm (a b : S22) : cut a b = cut b a := by
  simp only [cut, meet_comm a b]
  by_cases h : Ok a <;> by_cases h' : Ok b <;> simp [h, h']

theorem cut_assoc (a b c : S22) : cut (cut a b).1 c = cut a (cut b c).1 := by
  by_cases ha : Ok a
  · by_cases hb : Ok b
    · by_cases hc : Ok c
      · by_cases h1 : Ok (meet a b) <;> by_cases h2 : Ok (meet b c)
        · simp only [cut, ha, hb, hc, h1, h2, and_self, true_and, if_true, meet_assoc]
        · have h3 : ¬ Ok (meet (meet a b) c) := fun h => by rw [meet_assoc] at h; exact h2 (meet_right hb hc h)
          simp [cut, ha, hb, hc, h1, h2, h3, not_zz]
        · have h3 : ¬ Ok (meet a (meet b c)) := fun h => by rw [← meet_assoc] at h; exact h1 (meet_left ha hb h)
          simp [cut, ha, hb, hc, h1, h2, h3, not_zz]
        · simp [cut, ha, hb, hc, h1, h2, not_zz]
      · simp [cut, hc, not_zz]
    · simp [cut, hb, not_zz]
  · simp [cut, ha, not_zz]

theorem cut_third {a b c : S22} (h : (cut (cut a b).1 c).2 = true) : (cut b c).2 = true := by
  rw [cut_assoc] at h
  by_cases h1 : Ok b ∧ Ok c ∧ Ok (meet b c)
  · simp [cut, h1]
  · simp [cut, h1, not_zz] at h

theorem cut_in (a b : S22) : decide (inside a b) = (decide (Ok a) && (cut a b).2 && decide ((cut a b).1 = a)) := by
  by_cases ha : Ok a
  · by_cases hb : Ok b
    · by_cases hm : Ok (meet a b)
      · simp [cut, ha, hb, hm, inside_iff]
      · have : ¬ inside a b := fun h => by rw [inside_iff ha hb] at h; rw [h] at hm; exact hm ha
        simp [cut, ha, hb, hm, this]
    · have : ¬ inside a b := fun h => hb h.2.1
      simp [cut, hb, this]
  · have : ¬ inside a b := fun h => ha h.1
    simp [ha, this]

theorem r_cut (a b : S22) : r_Intersect a b = cut a b := r_Intersect_eq a b

theorem meets (a b c : S22) : l_RectMeets 10 a b c = some true := by
  simp only [l_RectMeets, small, letv, Option.bind_some, r_cut, r_Inside_eq, r_Right_eq, eqB, r_Area_eq]
  rw [cut_assoc a b c, cut_comm b a, cut_in a b]
  have h3 : (bif (cut a (cut b c).1).2 then !(cut b c).2 else false) = false := by
    rw [← cut_assoc]
    cases h : (cut (cut a b).1 c).2
    · rfl
    · rw [cut_third h]; rfl
  rw [h3]
  simp only [decide_true, Bool.not_true, beq_self_eq_true, cond_false]
  have e : ((decide (Ok a) && (cut a b).2 && decide ((cut a b).1 = a)) == (bif (bif decide (Ok a) then (cut a b).2 else false) then decide ((cut a b).1 = a) else false)) = true := by
    cases decide (Ok a) <;> cases (cut a b).2 <;> simp
  rw [e]
  simp only [Bool.not_true, cond_false]
  by_cases ha : Ok a
  · by_cases hb : Ok b
    · have e1 : area (cut a b).1 = area (meet a b) := by
        by_cases hm : Ok (meet a b)
        · simp [cut, ha, hb, hm]
        · simp [cut, ha, hb, hm, area_zero hm, area_zero not_zz]
      have g1 := hull_area ha hb
      have g2 := meet_area ha hb
      have g3 := area_fits a
      have g4 := area_fits b
      have g5 := area_fits (meet a b)
      simp only [ha, hb, decide_true, Bool.not_true, cond_false, bounds2 ha hb, Option.bind_some, cond_true, e1]
      rw [wrap64 (n := area a + area b) (by omega) (by omega), wrap64 (by omega) (by omega)]
      simp only [ge_iff_le, g1, g2, decide_true, cond_true]
    · simp [hb, cut, area_zero hb]
      decide
  · simp [ha, cut, area_zero ha]
    decide

theorem law (xs : List TV) (h : FitVs [shR, shR, shR] xs) : FnP Try.prog 6 (xs.map TV.av) (.one (.d (.s (.sc (.bool true))))) := by
  match xs, h with
  | [x0, x1, x2], ⟨h0, h1, h2, _⟩ =>
    obtain ⟨a, rfl, _⟩ := fitR h0
    obtain ⟨b, rfl, _⟩ := fitR h1
    obtain ⟨c, rfl, _⟩ := fitR h2
    exact l_RectMeets_ok 10 a b c true (meets a b c)
  | [], h => exact h.elim
  | [_], h => exact h.2.elim
  | [_, _], h => exact h.2.2.elim
  | _ :: _ :: _ :: _ :: _, h => exact h.2.2.2.elim

theorem lifted (os : Os) (started : os.Started) (H : Type) (enc : TypeId × Value → H) :
    ReturnsInHanded {} Try.checked os 6 .any (Rows.rectMeetsSpec.pre6 enc Try.prog Try.f6 Rows.rectMeetsRow.domain false) (Rows.rectMeetsSpec.post enc Try.prog Try.f6 false true false false) := by
  refine returnsInHanded_of_change (C := Try.checked) own started (by kernel_rfl) Try.func6
    (ChangeSpec.witness6 (enc := enc) (C := Try.checked) false ⟨#[], #[.agg #[.int .i64 0, .int .i64 0, .int .i64 0, .int .i64 0], .agg #[.int .i64 0, .int .i64 0, .int .i64 0, .int .i64 0], .agg #[.int .i64 0, .int .i64 0, .int .i64 0, .int .i64 0]], []⟩ 8 (by kernel_rfl) (by kernel_rfl) (by kernel_rfl) (by kernel_rfl)) ?_
  intro W base args ds gs before hval hW _ _
  exact row_contract (C := Try.checked) (s := Rows.rectMeetsSpec) (ss := [shR, shR, shR]) (by kernel_rfl) (by kernel_rfl) (by kernel_rfl) rfl (tb := 4) (by kernel_rfl) Try.underlying4
    (fun ds hl => match ds, hl with | [_, _, _], _ => rfl) law hval hW

theorem over : Rows.rectMeetsRow.holds Try.pinned (OpenSpec.ofChange Rows.rectMeetsSpec) :=
  OpenClaim.holds_of_wide 6 Try.f6 rfl rfl rfl rfl rfl rfl rfl ⟨rfl, rfl, rfl, rfl, rfl⟩ rfl rfl rfl rfl rfl (by kernel_rfl) Try.func6 (by kernel_rfl)
    (of_decide_eq_true (by kernel_rfl)) (by unfold Func.isWrapper; first | (rw [if_pos (by decide +kernel)]; kernel_rfl) | (rw [if_neg (by decide +kernel)]; exact ⟨rfl, rfl⟩))
    (fun os started H enc _ => lifted os started H enc)

theorem rectMeets_holds : Rows.RectMeetsSaid := over
#print axioms rectMeets_holds
end Go.Proofs.Ytihokdanilekmaa
