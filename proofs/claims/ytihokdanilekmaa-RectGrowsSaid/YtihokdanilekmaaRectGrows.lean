/-
  RectGrows: the plain law, the row.
-/
import Derived.Test.YtihokdanilekmaaRectRow
import Derived.Test.YtihokdanilekmaaSumRectGrows
import Derived.Test.YtihokdanilekmaaRows
namespace Go.Proofs.Ytihokdanilekmaa
open Go.Gb Go.RowKit Go.ChangeShapes Go.WideShapes Go.ChangeAt

theorem grow_fits {a : S22} {d : Int} (h : Ok a) (hd : 0 ≤ d) : Ok (grow a d) := by
  obtain ⟨h1, h2, h3, h4, h5, h6⟩ := h
  refine ⟨?_, ?_, ?_, ?_, ?_, ?_⟩ <;> simp only [grow] <;> omega

theorem low2 {x d m : Int} (h : x ≤ 1048576) (hd : 0 ≤ d) (hm : 0 ≤ m) : max 0 (max 0 (x - min d 1048576) - min m 1048576) = max 0 (x - min (d + m) 1048576) := by
  by_cases h1 : d + m ≤ 1048576
  · rw [Int.min_eq_left h1, Int.min_eq_left (by omega), Int.min_eq_left (by omega)]; omega
  · rw [Int.min_eq_right (a := d + m) (by omega)]; omega

theorem high2 {x d m : Int} (h : 0 ≤ x) (hd : 0 ≤ d) (hm : 0 ≤ m) : min 1048576 (min 1048576 (x + min d 1048576) + min m 1048576) = min 1048576 (x + min (d + m) 1048576) := by
  by_cases h1 : d + m ≤ 1048576
  · rw [Int.min_eq_left h1, Int.min_eq_left (a := d) (by omega), Int.min_eq_left (a := m) (by omega)]; omega
  · rw [Int.min_eq_right (a := d + m) (by omega)]; omega

theorem grow_grow {a : S22} {d m : Int} (h : Ok a) (hd : 0 ≤ d) (hm : 0 ≤ m) : grow (grow a d) m = grow a (d + m) := by
  obtain ⟨h1, h2, h3, h4, h5, h6⟩ := h
  simp only [grow, S22.mk.injEq]
  exact ⟨low2 (by omega) hd hm, low2 (by omega) hd hm, high2 (by omega) hd hm, high2 (by omega) hd hm⟩

theorem inside_grow {a : S22} {d : Int} (h : Ok a) (hd : 0 ≤ d) : inside a (grow a d) := by
  refine ⟨h, grow_fits h hd, ?_⟩
  obtain ⟨h1, h2, h3, h4, h5, h6⟩ := h
  refine ⟨?_, ?_, ?_, ?_⟩ <;> simp only [grow] <;> omega

theorem shr_grow {a : S22} {d : Int} (h : Ok a) (g1 : (grow a d).x0 > 0) (g2 : (grow a d).y0 > 0) (g3 : (grow a d).x1 < 1048576) (g4 : (grow a d).y1 < 1048576) : shr (grow a d) d = a := by
  obtain ⟨h1, h2, h3, h4, h5, h6⟩ := h
  obtain ⟨x0, y0, x1, y1⟩ := a
  simp only [grow, shr, S22.mk.injEq] at *
  refine ⟨?_, ?_, ?_, ?_⟩ <;> omega

theorem grow_shr {a : S22} {d : Int} (h : Ok a) (h' : Ok (shr a d)) : grow (shr a d) d = a := by
  obtain ⟨h1, h2, h3, h4, h5, h6⟩ := h
  obtain ⟨k1, k2, k3, k4, k5, k6⟩ := h'
  obtain ⟨x0, y0, x1, y1⟩ := a
  simp only [grow, shr, S22.mk.injEq] at *
  refine ⟨?_, ?_, ?_, ?_⟩ <;> omega

theorem shr_ok {a : S22} {d : Int} (h : Ok a) (hd : 0 ≤ d) : Ok (shr a d) ↔ ¬ (a.x1 - a.x0 ≤ 2 * d ∨ a.y1 - a.y0 ≤ 2 * d) := by
  obtain ⟨h1, h2, h3, h4, h5, h6⟩ := h
  simp only [Ok, shr]
  omega

theorem grows (a : S22) (d m : Int) : l_RectGrows 10 a d m = some true := by
  simp only [l_RectGrows, small, letv, Option.bind_some]
  by_cases hc : d < 0 ∨ d > 2000000 ∨ m < 0 ∨ m > 2000000
  · rcases hc with h | h | h | h <;> simp [h]
  · have hd : 0 ≤ d := by omega
    have hm : 0 ≤ m := by omega
    have c1 : ¬ d < 0 := by omega
    have c2 : ¬ d > 2000000 := by omega
    have c3 : ¬ m < 0 := by omega
    have c4 : ¬ m > 2000000 := by omega
    rw [wrap64 (n := d + m) (by omega) (by omega), wrap64 (n := 2 * d) (by omega) (by omega)]
    simp only [r_Right_eq, r_Inside_eq, r_Grow_eq _ d (by omega), r_Grow_eq _ m (by omega), r_Grow_eq _ (d + m) (by omega), r_Shrink_eq _ d (by omega), c1, c2, c3, c4, decide_false, cond_false]
    by_cases ha : Ok a
    · have hg := grow_fits ha hd
      have hdm : 0 ≤ d + m := by omega
      have hb := ha
      obtain ⟨_, _, _, _, _, _⟩ := hb
      rw [wrap64 (n := a.x1 - a.x0) (by omega) (by omega), wrap64 (n := a.y1 - a.y0) (by omega) (by omega)]
      simp only [ha, hg, hd, hm, hdm, and_self, true_and, if_true, decide_true, Bool.not_true, cond_false, grow_grow ha hd hm, inside_grow ha hd, beq_self_eq_true, Bool.and_true, Bool.and_self]
      have key : (bif bif bif bif decide ((grow a d).x0 > 0) then decide ((grow a d).y0 > 0) else false then decide ((grow a d).x1 < 1048576) else false then decide ((grow a d).y1 < 1048576) else false then
          bif !(if Ok (shr (grow a d) d) then (shr (grow a d) d, true) else (zz, false)).snd then true
          else !((if Ok (shr (grow a d) d) then (shr (grow a d) d, true) else (zz, false)).fst.x0 == a.x0 && ((if Ok (shr (grow a d) d) then (shr (grow a d) d, true) else (zz, false)).fst.y0 == a.y0 && ((if Ok (shr (grow a d) d) then (shr (grow a d) d, true) else (zz, false)).fst.x1 == a.x1 && ((if Ok (shr (grow a d) d) then (shr (grow a d) d, true) else (zz, false)).fst.y1 == a.y1))))
          else false) = false := by
        by_cases g : (grow a d).x0 > 0 ∧ (grow a d).y0 > 0 ∧ (grow a d).x1 < 1048576 ∧ (grow a d).y1 < 1048576
        · rw [shr_grow ha g.1 g.2.1 g.2.2.1 g.2.2.2]
          simp [ha]
        · simp only [Bool.cond_false_right, Bool.and_eq_false_iff, decide_eq_false_iff_not]
          omega
      rw [key]
      by_cases hs : Ok (shr a d)
      · have e := grow_shr ha hs
        have hw := (shr_ok ha hd).1 hs
        simp only [hs, if_true, e, true_and, Bool.not_true, cond_false, cond_true, beq_self_eq_true, Bool.and_self]
        rw [wrap64 (by simp only [shr]; omega) (by simp only [shr]; omega), wrap64 (by simp only [shr]; omega) (by simp only [shr]; omega)]
        have w1 : a.x1 - a.x0 > 2 * d := by omega
        have w2 : a.y1 - a.y0 > 2 * d := by omega
        have e1 : (shr a d).x0 - a.x0 = d := by simp only [shr]; omega
        have e2 : a.y1 - (shr a d).y1 = d := by simp only [shr]; omega
        simp [w1, w2, e1, e2]
      · have hw : a.x1 - a.x0 ≤ 2 * d ∨ a.y1 - a.y0 ≤ 2 * d := by
          rw [shr_ok ha hd] at hs; omega
        simp only [hs, if_false, zz]
        rcases hw with hw | hw <;> simp [hw]
    · simp [ha, zz]

theorem law (xs : List TV) (h : FitVs [shR, .one (.int .i64), .one (.int .i64)] xs) : FnP Try.prog 5 (xs.map TV.av) (.one (.d (.s (.sc (.bool true))))) := by
  match xs, h with
  | [x0, x1, x2], ⟨h0, h1, h2, _⟩ =>
    obtain ⟨a, rfl, _⟩ := fitR h0
    obtain ⟨d, rfl, _⟩ := fitI h1
    obtain ⟨m, rfl, _⟩ := fitI h2
    exact l_RectGrows_ok 10 a d m true (grows a d m)
  | [], h => exact h.elim
  | [_], h => exact h.2.elim
  | [_, _], h => exact h.2.2.elim
  | _ :: _ :: _ :: _ :: _, h => exact h.2.2.2.elim

theorem lifted (os : Os) (started : os.Started) (H : Type) (enc : TypeId × Value → H) :
    ReturnsInHanded {} Try.checked os 5 .any (Rows.rectGrowsSpec.pre6 enc Try.prog Try.f5 Rows.rectGrowsRow.domain false) (Rows.rectGrowsSpec.post enc Try.prog Try.f5 false true false false) := by
  refine returnsInHanded_of_change (C := Try.checked) own started (by kernel_rfl) Try.func5
    (ChangeSpec.witness6 (enc := enc) (C := Try.checked) false ⟨#[], #[.agg #[.int .i64 0, .int .i64 0, .int .i64 0, .int .i64 0], .int .i64 0, .int .i64 0], []⟩ 8 (by kernel_rfl) (by kernel_rfl) (by kernel_rfl) (by kernel_rfl)) ?_
  intro W base args ds gs before hval hW _ _
  exact row_contract (C := Try.checked) (s := Rows.rectGrowsSpec) (ss := [shR, .one (.int .i64), .one (.int .i64)]) (by kernel_rfl) (by kernel_rfl) (by kernel_rfl) rfl (tb := 4) (by kernel_rfl) Try.underlying4
    (fun ds hl => match ds, hl with | [_, _, _], _ => rfl) law hval hW

theorem over : Rows.rectGrowsRow.holds Try.pinned (OpenSpec.ofChange Rows.rectGrowsSpec) :=
  OpenClaim.holds_of_wide 5 Try.f5 rfl rfl rfl rfl rfl rfl rfl ⟨rfl, rfl, rfl, rfl, rfl⟩ rfl rfl rfl rfl rfl (by kernel_rfl) Try.func5 (by kernel_rfl)
    (of_decide_eq_true (by kernel_rfl)) (by unfold Func.isWrapper; first | (rw [if_pos (by decide +kernel)]; kernel_rfl) | (rw [if_neg (by decide +kernel)]; exact ⟨rfl, rfl⟩))
    (fun os started H enc _ => lifted os started H enc)

theorem rectGrows_holds : Rows.RectGrowsSaid := over
#print axioms rectGrows_holds
end Go.Proofs.Ytihokdanilekmaa
