/-
  What the rows of the rectangles share.
-/
import Derived.Test.YtihokdanilekmaaRectPlainA
import Derived.WalkKit
import Derived.ProofKit
import Derived.OpenShut
namespace Go.Proofs.Ytihokdanilekmaa
open Go.Gb Go.RowKit Go.ChangeShapes Go.WideShapes Go.ChangeAt

theorem own : ownKnob Try.prog.godebug = none := by kernel_rfl

theorem small : l_small 10 = some true := by kernel_rfl

/-- A rectangle that is read. -/
theorem fitR {x : TV} (h : FitV (.agg [.int .i64, .int .i64, .int .i64, .int .i64]) x) : ∃ a : S22, x = .a (row22 a) ∧ (Lit.int .i64 a.x0).wf = true ∧ (Lit.int .i64 a.y0).wf = true ∧ (Lit.int .i64 a.x1).wf = true ∧ (Lit.int .i64 a.y1).wf = true := by
  obtain ⟨ys, rfl, h⟩ := h
  match ys, h with
  | [y0, y1, y2, y3], h =>
    simp only [FitL, Fit, and_true] at h
    obtain ⟨⟨n0, rfl, w0⟩, ⟨n1, rfl, w1⟩, ⟨n2, rfl, w2⟩, ⟨n3, rfl, w3⟩⟩ := h
    exact ⟨⟨n0, n1, n2, n3⟩, rfl, w0, w1, w2, w3⟩
  | [], h => simp [FitL] at h
  | [_], h => simp [FitL] at h
  | [_, _], h => simp [FitL] at h
  | [_, _, _], h => simp [FitL] at h
  | _ :: _ :: _ :: _ :: _ :: _, h => simp [FitL] at h

theorem fitI {x : TV} {k : IntKind} (h : FitV (.one (.int k)) x) : ∃ n, x = .s (.sc (.int k n)) ∧ (Lit.int k n).wf = true := by
  obtain ⟨y, rfl, h⟩ := h
  simp only [Fit] at h
  obtain ⟨n, rfl, w⟩ := h
  exact ⟨n, rfl, w⟩

theorem wf64 {n : Int} (h : (Lit.int .i64 n).wf = true) : -9223372036854775808 ≤ n ∧ n ≤ 9223372036854775807 := by
  simp [Lit.wf, IntKind.min, IntKind.max, IntKind.signed, IntKind.bits] at h
  omega

def shR : VS := .agg [.int .i64, .int .i64, .int .i64, .int .i64]

end Go.Proofs.Ytihokdanilekmaa
