/-
  RectGap: the plain law, the row.
-/
import Derived.Test.YtihokdanilekmaaRectRow
import Derived.Test.YtihokdanilekmaaSumRectGap
import Derived.Test.YtihokdanilekmaaRows
namespace Go.Proofs.Ytihokdanilekmaa
open Go.Gb Go.RowKit Go.ChangeShapes Go.WideShapes Go.ChangeAt

/-- Two intervals, one of them grown, meet exactly if they are not farther apart than that. -/
theorem axis {a b c d D : Int} (h1 : 0 ≤ a) (h2 : a < b) (h3 : b ≤ 1048576) (h4 : 0 ≤ c) (h5 : c < d) (h6 : d ≤ 1048576) (h0 : 0 ≤ D) :
    max (max 0 (a - min (D + 1) 1048576)) c < min (min 1048576 (b + min (D + 1) 1048576)) d ↔ gaps1 a b c d ≤ D := by
  simp only [gaps1]
  by_cases hD : D + 1 ≤ 1048576
  · rw [Int.min_eq_left hD]
    simp only [Int.max_lt, Int.lt_min]
    omega
  · rw [Int.min_eq_right (by omega)]
    simp only [Int.max_lt, Int.lt_min]
    omega

theorem grow_ok {a : S22} {d : Int} (h : Ok a) (hd : 0 ≤ d) : Ok (grow a (d + 1)) := by
  obtain ⟨h1, h2, h3, h4, h5, h6⟩ := h
  refine ⟨?_, ?_, ?_, ?_, ?_, ?_⟩ <;> simp only [grow] <;> omega

theorem meet_grow {a b : S22} {d : Int} (ha : Ok a) (hb : Ok b) (hd : 0 ≤ d) : Ok (meet (grow a (d + 1)) b) ↔ gap a b ≤ d := by
  have e : gap a b ≤ d ↔ gaps1 a.x0 a.x1 b.x0 b.x1 ≤ d ∧ gaps1 a.y0 a.y1 b.y0 b.y1 ≤ d := by
    simp only [gap, ha, hb, and_self, if_true]
    generalize gaps1 a.x0 a.x1 b.x0 b.x1 = p
    generalize gaps1 a.y0 a.y1 b.y0 b.y1 = q
    omega
  obtain ⟨a1, a2, a3, a4, a5, a6⟩ := ha
  obtain ⟨b1, b2, b3, b4, b5, b6⟩ := hb
  rw [e, ← axis a1 a2 a3 b1 b2 b3 hd, ← axis a4 a5 a6 b4 b5 b6 hd]
  simp only [Ok, meet, grow]
  constructor
  · exact fun h => ⟨h.2.1, h.2.2.2.2.1⟩
  · exact fun h => ⟨by omega, h.1, by omega, by omega, h.2, by omega⟩

theorem gap_ok {a b : S22} (ha : Ok a) (hb : Ok b) : gap a b = max (max 0 (gaps1 a.x0 a.x1 b.x0 b.x1)) (gaps1 a.y0 a.y1 b.y0 b.y1) := by
  simp only [gap, ha, hb, and_self, if_true]

theorem meet_iff {a b : S22} (ha : Ok a) (hb : Ok b) : Ok (meet a b) ↔ gaps1 a.x0 a.x1 b.x0 b.x1 < 0 ∧ gaps1 a.y0 a.y1 b.y0 b.y1 < 0 := by
  obtain ⟨a1, a2, a3, a4, a5, a6⟩ := ha
  obtain ⟨b1, b2, b3, b4, b5, b6⟩ := hb
  simp only [Ok, meet, gaps1]
  constructor
  · exact fun h => ⟨by have := h.2.1; omega, by have := h.2.2.2.2.1; omega⟩
  · exact fun h => ⟨by omega, by have := h.1; omega, by omega, by omega, by have := h.2; omega, by omega⟩

theorem meet_gap {a b : S22} (ha : Ok a) (hb : Ok b) (h : Ok (meet a b)) : gap a b = 0 := by
  rw [meet_iff ha hb] at h
  rw [gap_ok ha hb]
  generalize gaps1 a.x0 a.x1 b.x0 b.x1 = p at h ⊢
  generalize gaps1 a.y0 a.y1 b.y0 b.y1 = q at h ⊢
  omega

theorem touch_gap {a b : S22} (ha : Ok a) (hb : Ok b) (h : touch a b = true) : gap a b = 0 ∧ ¬ Ok (meet a b) := by
  rw [meet_iff ha hb, gap_ok ha hb]
  simp only [touch, ha, hb, and_self, decide_true, Bool.true_and, Bool.or_eq_true, decide_eq_true_eq] at h
  generalize gaps1 a.x0 a.x1 b.x0 b.x1 = p at h ⊢
  generalize gaps1 a.y0 a.y1 b.y0 b.y1 = q at h ⊢
  omega

theorem gaps (a b : S22) (d : Int) : l_RectGap 10 a b d = some true := by
  simp only [l_RectGap, small, letv, Option.bind_some, r_Intersect_eq, r_Right_eq, r_Touch_eq, r_Gap_eq]
  by_cases ha : Ok a
  · by_cases hb : Ok b
    · by_cases h0 : d < 0
      · simp [ha, hb, h0]
      · by_cases h1 : d > 2000000
        · simp [ha, hb, h1]
        · rw [wrap64 (by omega) (by omega), r_Grow_eq _ _ (by omega)]
          have h2 : 0 ≤ d + 1 := by omega
          simp only [ha, hb, h0, h1, h2, decide_true, decide_false, Bool.not_true, cond_false, and_self, if_true, true_and]
          have hg := grow_ok ha (d := d) (by omega)
          have e1 := meet_grow ha hb (d := d) (by omega)
          have e2 : 0 ≤ gap a b := by
            simp only [gap, ha, hb, and_self, if_true]
            omega
          have e3 : gap b a = gap a b := by
            simp only [gap, ha, hb, and_self, if_true, gaps1]
            omega
          have e4 := meet_gap ha hb
          have e5 := touch_gap ha hb
          simp only [hg, true_and, e1]
          by_cases h3 : gap a b ≤ d <;> by_cases h4 : Ok (meet a b) <;> cases h5 : touch a b <;> simp [h3, h4, e2, e3] <;> simp_all <;> omega
    · simp [ha, hb]
  · simp [ha]

theorem law (xs : List TV) (h : FitVs [shR, shR, .one (.int .i64)] xs) : FnP Try.prog 3 (xs.map TV.av) (.one (.d (.s (.sc (.bool true))))) := by
  match xs, h with
  | [x0, x1, x2], ⟨h0, h1, h2, _⟩ =>
    obtain ⟨a, rfl, _⟩ := fitR h0
    obtain ⟨b, rfl, _⟩ := fitR h1
    obtain ⟨d, rfl, _⟩ := fitI h2
    exact l_RectGap_ok 10 a b d true (gaps a b d)
  | [], h => exact h.elim
  | [_], h => exact h.2.elim
  | [_, _], h => exact h.2.2.elim
  | _ :: _ :: _ :: _ :: _, h => exact h.2.2.2.elim

theorem lifted (os : Os) (started : os.Started) (H : Type) (enc : TypeId × Value → H) :
    ReturnsInHanded {} Try.checked os 3 .any (Rows.rectGapSpec.pre6 enc Try.prog Try.f3 Rows.rectGapRow.domain false) (Rows.rectGapSpec.post enc Try.prog Try.f3 false true false false) := by
  refine returnsInHanded_of_change (C := Try.checked) own started (by kernel_rfl) Try.func3
    (ChangeSpec.witness6 (enc := enc) (C := Try.checked) false ⟨#[], #[.agg #[.int .i64 0, .int .i64 0, .int .i64 0, .int .i64 0], .agg #[.int .i64 0, .int .i64 0, .int .i64 0, .int .i64 0], .int .i64 0], []⟩ 8 (by kernel_rfl) (by kernel_rfl) (by kernel_rfl) (by kernel_rfl)) ?_
  intro W base args ds gs before hval hW _ _
  exact row_contract (C := Try.checked) (s := Rows.rectGapSpec) (ss := [shR, shR, .one (.int .i64)]) (by kernel_rfl) (by kernel_rfl) (by kernel_rfl) rfl (tb := 4) (by kernel_rfl) Try.underlying4
    (fun ds hl => match ds, hl with | [_, _, _], _ => rfl) law hval hW

theorem over : Rows.rectGapRow.holds Try.pinned (OpenSpec.ofChange Rows.rectGapSpec) :=
  OpenClaim.holds_of_wide 3 Try.f3 rfl rfl rfl rfl rfl rfl rfl ⟨rfl, rfl, rfl, rfl, rfl⟩ rfl rfl rfl rfl rfl (by kernel_rfl) Try.func3 (by kernel_rfl)
    (of_decide_eq_true (by kernel_rfl)) (by unfold Func.isWrapper; first | (rw [if_pos (by decide +kernel)]; kernel_rfl) | (rw [if_neg (by decide +kernel)]; exact ⟨rfl, rfl⟩))
    (fun os started H enc _ => lifted os started H enc)

theorem rectGap_holds : Rows.RectGapSaid := over
#print axioms rectGap_holds
end Go.Proofs.Ytihokdanilekmaa
