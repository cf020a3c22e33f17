/-
  RectBounds: the plain law, the row.
-/
import Derived.Test.YtihokdanilekmaaRectLoops
import Derived.Test.YtihokdanilekmaaSumRectBounds
import Derived.Test.YtihokdanilekmaaRows
namespace Go.Proofs.Ytihokdanilekmaa
open Go.Gb Go.RowKit Go.ChangeShapes Go.WideShapes Go.ChangeAt

theorem small' : l_small 1000 = some true := by kernel_rfl

/-- What the bounds of some rectangles are. -/
def Bd (l : List S22) (s : S22 × Bool) : Prop :=
  (s.2 = true ↔ ∃ r ∈ l, Ok r) ∧ (s.2 = true → Ok s.1 ∧ (∀ r ∈ l, Ok r → inside r s.1) ∧ (∃ r ∈ l, Ok r ∧ r.x0 = s.1.x0) ∧ (∃ r ∈ l, Ok r ∧ r.x1 = s.1.x1) ∧ (∃ r ∈ l, Ok r ∧ r.y0 = s.1.y0) ∧ (∃ r ∈ l, Ok r ∧ r.y1 = s.1.y1))

theorem inside_hull {r o x : S22} (h : inside r o) (hx : Ok x) : inside r (hull o x) := by
  simp only [inside, Ok, hull] at *; omega

theorem inside_new {o x : S22} (ho : Ok o) (hx : Ok x) : inside x (hull o x) := by
  simp only [inside, Ok, hull] at *; omega

theorem pick_min {l : List S22} {x : S22} {v : Int} (f : S22 → Int) (h : ∃ r ∈ l, Ok r ∧ f r = v) (hx : Ok x) : ∃ r ∈ l ++ [x], Ok r ∧ f r = min v (f x) := by
  obtain ⟨r, h1, h2, h3⟩ := h
  by_cases hc : v ≤ f x
  · exact ⟨r, by simp [h1], h2, by omega⟩
  · exact ⟨x, by simp, hx, by omega⟩

theorem pick_max {l : List S22} {x : S22} {v : Int} (f : S22 → Int) (h : ∃ r ∈ l, Ok r ∧ f r = v) (hx : Ok x) : ∃ r ∈ l ++ [x], Ok r ∧ f r = max v (f x) := by
  obtain ⟨r, h1, h2, h3⟩ := h
  by_cases hc : v ≤ f x
  · exact ⟨x, by simp, hx, by omega⟩
  · exact ⟨r, by simp [h1], h2, by omega⟩

theorem bd_step {l : List S22} {s : S22 × Bool} (x : S22) (h : Bd l s) : Bd (l ++ [x]) (bstep s x) := by
  obtain ⟨o, any⟩ := s
  obtain ⟨h1, h2⟩ := h
  simp only [bstep]
  by_cases hx : Ok x
  · cases any with
    | false =>
      have hno : ∀ r ∈ l, ¬ Ok r := fun r hr ho => by simpa using h1.2 ⟨r, hr, ho⟩
      simp only [hx, if_true, Bool.false_eq_true, if_false]
      refine ⟨by simp [hx], fun _ => ⟨hx, fun r hr ho => ?_, ⟨x, by simp, hx, rfl⟩, ⟨x, by simp, hx, rfl⟩, ⟨x, by simp, hx, rfl⟩, ⟨x, by simp, hx, rfl⟩⟩⟩
      rcases List.mem_append.1 hr with hr | hr
      · exact absurd ho (hno r hr)
      · simp only [List.mem_singleton] at hr
        subst hr
        exact ⟨ho, ho, Int.le_refl _, Int.le_refl _, Int.le_refl _, Int.le_refl _⟩
    | true =>
      obtain ⟨g1, g2, g3, g4, g5, g6⟩ := h2 rfl
      simp only [hx, if_true]
      refine ⟨by simp [hx], fun _ => ⟨?_, fun r hr ho => ?_, ?_, ?_, ?_, ?_⟩⟩
      · exact (inside_new g1 hx).2.1
      · rcases List.mem_append.1 hr with hr | hr
        · exact inside_hull (g2 r hr ho) hx
        · simp only [List.mem_singleton] at hr
          subst hr
          exact inside_new g1 ho
      · exact pick_min (·.x0) g3 hx
      · exact pick_max (·.x1) g4 hx
      · exact pick_min (·.y0) g5 hx
      · exact pick_max (·.y1) g6 hx
  · simp only [hx, if_false]
    refine ⟨by simpa [hx] using h1, fun e => ?_⟩
    obtain ⟨g1, g2, g3, g4, g5, g6⟩ := h2 e
    have more : ∀ (f : S22 → Int) (v : Int), (∃ r ∈ l, Ok r ∧ f r = v) → ∃ r ∈ l ++ [x], Ok r ∧ f r = v := fun f v ⟨r, a, b, c⟩ => ⟨r, by simp [a], b, c⟩
    refine ⟨g1, fun r hr ho => ?_, more _ _ g3, more _ _ g4, more _ _ g5, more _ _ g6⟩
    rcases List.mem_append.1 hr with hr | hr
    · exact g2 r hr ho
    · simp only [List.mem_singleton] at hr
      subst hr
      exact absurd ho hx

theorem bd_fold : ∀ (l pre : List S22) (s : S22 × Bool), Bd pre s → Bd (pre ++ l) (l.foldl bstep s)
  | [], pre, s, h => by simpa using h
  | x :: l, pre, s, h => by
    have := bd_fold l (pre ++ [x]) _ (bd_step x h)
    simpa using this

theorem bd (l : List S22) : Bd l (bounds l) := by
  have := bd_fold l [] (zz, false) ⟨by simp, by simp⟩
  simpa [bounds] using this

/-- The sides that some rectangles touch, and whether there are some. -/
abbrev Sides := Bool × Bool × Bool × Bool × Bool

def touches (o : S22) (s : Sides) (r : S22) : Sides :=
  if Ok r then (s.1 || (r.x0 == o.x0), s.2.1 || (r.x1 == o.x1), s.2.2.1 || (r.y0 == o.y0), s.2.2.2.1 || (r.y1 == o.y1), true) else s

theorem touches_fold (o : S22) : ∀ (l : List S22) (s : Sides), l.foldl (touches o) s =
    (s.1 || l.any (fun r => decide (Ok r) && (r.x0 == o.x0)), s.2.1 || l.any (fun r => decide (Ok r) && (r.x1 == o.x1)), s.2.2.1 || l.any (fun r => decide (Ok r) && (r.y0 == o.y0)), s.2.2.2.1 || l.any (fun r => decide (Ok r) && (r.y1 == o.y1)), s.2.2.2.2 || l.any (fun r => decide (Ok r)))
  | [], s => by simp
  | x :: l, s => by
    rw [List.foldl_cons, touches_fold o l]
    by_cases hx : Ok x <;> simp [touches, hx, Bool.or_assoc]

theorem law_loop (l : List S22) (h : l.length ≤ 200) (r1 : Bool) (j : Bool → Bool → Bool → Bool → Bool → Option Bool) (hin : ∀ r ∈ l, Ok r → inside r (bounds l).1) :
    l_RectBounds_l1 l r1 (bounds l) j 1000 false false false false false 0 =
      (let s := l.foldl (touches (bounds l).1) (false, false, false, false, false); j s.1 s.2.1 s.2.2.1 s.2.2.2.1 s.2.2.2.2) := by
  have := loop_list (l := l) (Φ := fun k (s : Sides) i => l_RectBounds_l1 l r1 (bounds l) j k s.1 s.2.1 s.2.2.1 s.2.2.2.1 s.2.2.2.2 i) (f := touches (bounds l).1) (j := fun s => j s.1 s.2.1 s.2.2.1 s.2.2.2.1 s.2.2.2.2) (by omega)
    (fun k s i x hi hx => by
      obtain ⟨w, e, so, n, any⟩ := s
      simp only [l_RectBounds_l1, letv, at_nat, hx, Option.bind_some, r_Right_eq, r_Inside_eq, touches, Int.ofNat_lt, hi, decide_true, cond_true]
      by_cases ho : Ok x
      · have hn := hin x (List.mem_of_getElem? hx) ho
        cases w <;> cases e <;> cases so <;> cases n <;> simp [ho, hn, grd]
      · simp [ho]) (fun k s => by simp [l_RectBounds_l1]) l.length 0 1000 (false, false, false, false, false) (by omega) (by omega)
  simpa using this

theorem bounds_law (l : List S22) : l_RectBounds 1000 l = some true := by
  simp only [l_RectBounds, small', letv, Option.bind_some]
  by_cases hl : (l.length : Int) > 200
  · simp [hl]
  · rw [r_Bounds_eq l (by omega) (by omega), q_Bounds_eq l (by omega) (by omega)]
    simp only [hl, decide_false, cond_false, Option.bind_some, eqB, decide_true, Bool.not_true, beq_self_eq_true]
    obtain ⟨h1, h2⟩ := bd l
    cases hb : (bounds l).2 with
    | false =>
      have hno : ∀ r ∈ l, ¬ Ok r := fun r hr ho => by rw [hb] at h1; simpa using h1.2 ⟨r, hr, ho⟩
      rw [law_loop l (by omega) true _ (fun r hr ho => absurd ho (hno r hr)), touches_fold]
      have : l.any (fun r => decide (Ok r)) = false := by simpa using hno
      simp [this, hb]
    | true =>
      obtain ⟨g1, g2, g3, g4, g5, g6⟩ := h2 hb
      rw [law_loop l (by omega) true _ g2, touches_fold]
      have e0 : l.any (fun r => decide (Ok r)) = true := by simpa using h1.1 hb
      have ex : ∀ (f : S22 → Int) (v : Int), (∃ r ∈ l, Ok r ∧ f r = v) → l.any (fun r => decide (Ok r) && (f r == v)) = true := fun f v ⟨r, a, b, c⟩ => by
        simp only [List.any_eq_true, Bool.and_eq_true, decide_eq_true_eq, beq_iff_eq]
        exact ⟨r, a, b, c⟩
      simp [e0, ex _ _ g3, ex _ _ g4, ex _ _ g5, ex _ _ g6, hb]

theorem fitRs {x : TV} (h : FitV (.one (.sl [.int .i64, .int .i64, .int .i64, .int .i64])) x) : ∃ l : List S22, x = .s (.sl (l.map row22)) ∧ l.length ≤ maxLen := by
  obtain ⟨y, rfl, h⟩ := h
  simp only [Fit] at h
  obtain ⟨rows, rfl, hlen, h⟩ := h
  have : ∀ rows : List (List Tree), (∀ r ∈ rows, FitL [.int .i64, .int .i64, .int .i64, .int .i64] r) → ∃ l : List S22, rows = l.map row22 := by
    intro rows
    induction rows with
    | nil => exact fun _ => ⟨[], rfl⟩
    | cons r rows ih =>
      intro h
      obtain ⟨l, rfl⟩ := ih fun r hr => h r (by simp [hr])
      obtain ⟨a, ha, _⟩ := fitR (x := .a r) ⟨r, rfl, h r (by simp)⟩
      injection ha with ha
      exact ⟨a :: l, by rw [ha]; rfl⟩
  obtain ⟨l, rfl⟩ := this rows h
  exact ⟨l, rfl, by simpa using hlen⟩

theorem law (xs : List TV) (h : FitVs [.one (.sl [.int .i64, .int .i64, .int .i64, .int .i64])] xs) : FnP Try.prog 4 (xs.map TV.av) (.one (.d (.s (.sc (.bool true))))) := by
  match xs, h with
  | [x0], ⟨h0, _⟩ =>
    obtain ⟨l, rfl, _⟩ := fitRs h0
    exact l_RectBounds_ok 1000 l true (bounds_law l)
  | [], h => exact h.elim
  | _ :: _ :: _, h => exact h.2.elim

theorem lifted (os : Os) (started : os.Started) (H : Type) (enc : TypeId × Value → H) :
    ReturnsInHanded {} Try.checked os 4 .any (Rows.rectBoundsSpec.pre6 enc Try.prog Try.f4 Rows.rectBoundsRow.domain false) (Rows.rectBoundsSpec.post enc Try.prog Try.f4 false true false false) := by
  refine returnsInHanded_of_change (C := Try.checked) own started (by kernel_rfl) Try.func4
    (ChangeSpec.witness6 (enc := enc) (C := Try.checked) false ⟨#[], #[.slice none 0 0], []⟩ 8 (by kernel_rfl) (by kernel_rfl) (by kernel_rfl) (by kernel_rfl)) ?_
  intro W base args ds gs before hval hW _ _
  exact row_contract (C := Try.checked) (s := Rows.rectBoundsSpec) (ss := [.one (.sl [.int .i64, .int .i64, .int .i64, .int .i64])]) (by kernel_rfl) (by kernel_rfl) (by kernel_rfl) rfl (tb := 4) (by kernel_rfl) Try.underlying4
    (fun ds hl => match ds, hl with | [_], _ => rfl) law hval hW

theorem over : Rows.rectBoundsRow.holds Try.pinned (OpenSpec.ofChange Rows.rectBoundsSpec) :=
  OpenClaim.holds_of_wide 4 Try.f4 rfl rfl rfl rfl rfl rfl rfl ⟨rfl, rfl, rfl, rfl, rfl⟩ rfl rfl rfl rfl rfl (by kernel_rfl) Try.func4 (by kernel_rfl)
    (of_decide_eq_true (by kernel_rfl)) (by unfold Func.isWrapper; first | (rw [if_pos (by decide +kernel)]; kernel_rfl) | (rw [if_neg (by decide +kernel)]; exact ⟨rfl, rfl⟩))
    (fun os started H enc _ => lifted os started H enc)

theorem rectBounds_holds : Rows.RectBoundsSaid := over
#print axioms rectBounds_holds
end Go.Proofs.Ytihokdanilekmaa
