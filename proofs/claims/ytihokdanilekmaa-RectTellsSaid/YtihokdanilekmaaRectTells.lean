/-
  RectTells: the plain law, the row.
-/
import Derived.Test.YtihokdanilekmaaRectPlainA
import Derived.Test.YtihokdanilekmaaSumRectTells
import Derived.Test.YtihokdanilekmaaRows
import Derived.WalkKit
import Derived.ProofKit
import Derived.OpenShut
namespace Go.Proofs.Ytihokdanilekmaa
open Go.Gb Go.RowKit Go.ChangeShapes Go.WideShapes Go.ChangeAt

theorem own : ownKnob Try.prog.godebug = none := by kernel_rfl

theorem small : l_small 10 = some true := by kernel_rfl

theorem tells (a b : S22) (x y d : Int) (hd : -9223372036854775808 ≤ d) : l_RectTells 10 a b x y d = some true := by
  simp only [l_RectTells, small, letv, Option.bind_some, r_Intersect_eq, q_Intersect_eq, r_Grow_eq a d hd, q_Grow_eq a d hd, r_Shrink_eq a d hd, q_Shrink_eq a d hd, r_Right_eq, q_Right_eq, r_Area_eq, q_Area_eq,
    r_Has_eq, q_Has_eq, r_Inside_eq, q_Inside_eq, r_Touch_eq, q_Touch_eq, r_Gap_eq, q_Gap_eq, beq_self_eq_true, cond_true, Bool.and_true]

/-- A rectangle that is read. -/
theorem fitR {x : TV} (h : FitV (.agg [.int .i64, .int .i64, .int .i64, .int .i64]) x) : ∃ a : S22, x = .a (row22 a) ∧ (Lit.int .i64 a.x0).wf = true ∧ (Lit.int .i64 a.y0).wf = true ∧ (Lit.int .i64 a.x1).wf = true ∧ (Lit.int .i64 a.y1).wf = true := by
  obtain ⟨ys, rfl, h⟩ := h
  match ys, h with
  | [y0, y1, y2, y3], h =>
    simp only [FitL, Fit, and_true] at h
    obtain ⟨⟨n0, rfl, w0⟩, ⟨n1, rfl, w1⟩, ⟨n2, rfl, w2⟩, ⟨n3, rfl, w3⟩⟩ := h
    exact ⟨⟨n0, n1, n2, n3⟩, rfl, w0, w1, w2, w3⟩
  | [], h => simp [FitL] at h
  | [_], h => simp [FitL] at h
  | [_, _], h => simp [FitL] at h
  | [_, _, _], h => simp [FitL] at h
  | _ :: _ :: _ :: _ :: _ :: _, h => simp [FitL] at h

theorem fitI {x : TV} {k : IntKind} (h : FitV (.one (.int k)) x) : ∃ n, x = .s (.sc (.int k n)) ∧ (Lit.int k n).wf = true := by
  obtain ⟨y, rfl, h⟩ := h
  simp only [Fit] at h
  obtain ⟨n, rfl, w⟩ := h
  exact ⟨n, rfl, w⟩

theorem wf64 {n : Int} (h : (Lit.int .i64 n).wf = true) : -9223372036854775808 ≤ n ∧ n ≤ 9223372036854775807 := by
  simp [Lit.wf, IntKind.min, IntKind.max, IntKind.signed, IntKind.bits] at h
  omega

def shR : VS := .agg [.int .i64, .int .i64, .int .i64, .int .i64]

theorem law (xs : List TV) (h : FitVs [shR, shR, .one (.int .i64), .one (.int .i64), .one (.int .i64)] xs) : FnP Try.prog 7 (xs.map TV.av) (.one (.d (.s (.sc (.bool true))))) := by
  match xs, h with
  | [x0, x1, x2, x3, x4], ⟨h0, h1, h2, h3, h4, _⟩ =>
    obtain ⟨a, rfl, _⟩ := fitR h0
    obtain ⟨b, rfl, _⟩ := fitR h1
    obtain ⟨x, rfl, _⟩ := fitI h2
    obtain ⟨y, rfl, _⟩ := fitI h3
    obtain ⟨d, rfl, hd⟩ := fitI h4
    exact l_RectTells_ok 10 a b x y d true (tells a b x y d (wf64 hd).1)
  | [], h => exact h.elim
  | [_], h => exact h.2.elim
  | [_, _], h => exact h.2.2.elim
  | [_, _, _], h => exact h.2.2.2.elim
  | [_, _, _, _], h => exact h.2.2.2.2.elim
  | _ :: _ :: _ :: _ :: _ :: _ :: _, h => exact h.2.2.2.2.2.elim

theorem lifted (os : Os) (started : os.Started) (H : Type) (enc : TypeId × Value → H) :
    ReturnsInHanded {} Try.checked os 7 .any (Rows.rectTellsSpec.pre6 enc Try.prog Try.f7 Rows.rectTellsRow.domain false) (Rows.rectTellsSpec.post enc Try.prog Try.f7 false true false false) := by
  refine returnsInHanded_of_change (C := Try.checked) own started (by kernel_rfl) Try.func7
    (ChangeSpec.witness6 (enc := enc) (C := Try.checked) false ⟨#[], #[.agg #[.int .i64 0, .int .i64 0, .int .i64 0, .int .i64 0], .agg #[.int .i64 0, .int .i64 0, .int .i64 0, .int .i64 0], .int .i64 0, .int .i64 0, .int .i64 0], []⟩ 8 (by kernel_rfl) (by kernel_rfl) (by kernel_rfl) (by kernel_rfl)) ?_
  intro W base args ds gs before hval hW _ _
  exact row_contract (C := Try.checked) (s := Rows.rectTellsSpec) (ss := [shR, shR, .one (.int .i64), .one (.int .i64), .one (.int .i64)]) (by kernel_rfl) (by kernel_rfl) (by kernel_rfl) rfl (tb := 4) (by kernel_rfl) Try.underlying4
    (fun ds hl => match ds, hl with | [_, _, _, _, _], _ => rfl) law hval hW

theorem over : Rows.rectTellsRow.holds Try.pinned (OpenSpec.ofChange Rows.rectTellsSpec) :=
  OpenClaim.holds_of_wide 7 Try.f7 rfl rfl rfl rfl rfl rfl rfl ⟨rfl, rfl, rfl, rfl, rfl⟩ rfl rfl rfl rfl rfl (by kernel_rfl) Try.func7 (by kernel_rfl)
    (of_decide_eq_true (by kernel_rfl)) (by unfold Func.isWrapper; first | (rw [if_pos (by decide +kernel)]; kernel_rfl) | (rw [if_neg (by decide +kernel)]; exact ⟨rfl, rfl⟩))
    (fun os started H enc _ => lifted os started H enc)

theorem rectTells_holds : Rows.RectTellsSaid := over
#print axioms rectTells_holds
end Go.Proofs.Ytihokdanilekmaa
