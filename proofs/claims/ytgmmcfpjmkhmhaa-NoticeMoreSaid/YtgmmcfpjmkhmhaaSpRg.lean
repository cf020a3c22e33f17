/-
  What the printed functions of package region come to, at few rectangles.
-/
import Derived.Test.YtgmmcfpjmkhmhaaSpSl
namespace Go.Proofs
open Go.Gb Go.RowKit

/-- A valid rectangle. -/
abbrev OkR (r : GRect) : Bool := decide (0 ≤ r.x0) && (decide (r.x0 < r.x1) && (decide (r.x1 ≤ 1048576) && (decide (0 ≤ r.y0) && (decide (r.y0 < r.y1) && decide (r.y1 ≤ 1048576)))))

theorem bifand (a b : Bool) : (bif a then some b else some false) = some (a && b) := by cases a <;> rfl
theorem bifandO (a : Bool) (b : Bool) : (bif a then (some b) else some false : Option Bool) = some (a && b) := by cases a <;> rfl
theorem biford (a b : Bool) : (bif a then some true else some b) = some (a || b) := by cases a <;> rfl

theorem r_Right_eq (r : GRect) : r_Right r = some (OkR r) := by
  simp only [r_Right, bifand]

/-- The spans of the rectangles over x. -/
def spansAt (l : List GRect) (x : Int) : List Gspan := (l.filter fun r => decide (r.x0 ≤ x) && decide (x < r.x1)).map fun r => ⟨r.y0, r.y1⟩
/-- A span behind others. -/
def mrg (out : List Gspan) (s : Gspan) : List Gspan :=
  match out.getLast? with
  | some q => bif decide (s.from_ ≤ q.to) then out.dropLast ++ [⟨q.from_, max q.to s.to⟩] else out ++ [s]
  | none => [s]
def columnL (l : List GRect) (x : Int) : List Gspan := (isort ltS (spansAt l x)).foldl mrg []

theorem length_mrg (out : List Gspan) (s : Gspan) : (mrg out s).length ≤ out.length + 1 := by
  unfold mrg
  cases out.getLast? with
  | none => simp
  | some q => simp only; cases decide (s.from_ ≤ q.to) <;> simp <;> omega

theorem length_spansAt (l : List GRect) (x : Int) : (spansAt l x).length ≤ l.length := by
  simp only [spansAt, List.length_map]; exact List.length_filter_le _ _

theorem length_columnL (l : List GRect) (x : Int) : (columnL l x).length ≤ l.length := by
  have : ∀ (ys out : List Gspan), (ys.foldl mrg out).length ≤ out.length + ys.length := by
    intro ys
    induction ys with
    | nil => intro out; simp
    | cons y ys ih =>
      intro out
      simp only [List.foldl_cons, List.length_cons]
      have := ih (mrg out y); have := length_mrg out y; omega
  have h := this (isort ltS (spansAt l x)) []
  rw [length_isort] at h
  have := length_spansAt l x
  simp only [List.length_nil] at h
  unfold columnL
  omega

theorem rg_column_s1_run {l : List GRect} {x : Int} (hl : l.length < 1099511627776) {n : Nat} (hn : l.length < n) : iter (rg_column_s1 l x) n ((0 : Int), ([] : List Gspan)) = some (spansAt l x) := by
  have := iter_foldI (l := l) (step := rg_column_s1 l x) (fun i (s : List Gspan) => ((i : Int), s)) (fun r s => bif decide (r.x0 ≤ x) && decide (x < r.x1) then s ++ [⟨r.y0, r.y1⟩] else s) (fun s => s) (fun i s => s.length ≤ i)
    (fun i hi s hs => ?_) (fun s hs => by simp [rg_column_s1]) n hn [] (Nat.le_refl _)
  · rw [show ((0 : Nat) : Int) = 0 from rfl] at this
    rw [this]
    congr 1
    have gen : ∀ (ys : List GRect) (s : List Gspan), ys.foldl (fun s r => bif decide (r.x0 ≤ x) && decide (x < r.x1) then s ++ [⟨r.y0, r.y1⟩] else s) s = s ++ spansAt ys x := by
      intro ys
      induction ys with
      | nil => intro s; simp [spansAt]
      | cons y ys ih =>
        intro s
        simp only [List.foldl_cons, ih]
        cases h : (decide (y.x0 ≤ x) && decide (x < y.x1)) with
        | true => simp [spansAt, h]
        | false => simp [spansAt, h]
    simpa using gen l []
  · have hi' : decide (((i : Nat) : Int) < (l.length : Int)) = true := by simpa using hi
    have ap : appOk s.length s.length (sub ([(Gspan.mk l[i].y0 l[i].y1)] : List Gspan) 0 1).length 1 16 = true := appOk_true (n := 1) (by omega) (by simp only [maxLen]; omega)
    simp only [rg_column_s1, hi', cond_true, at_get hi, Option.bind_some, bifand]
    cases h : (decide (l[i].x0 ≤ x) && decide (x < l[i].x1)) with
    | true =>
      simp only [cond_true, ap, letv_eq, eqL_self, Option.bind_some]
      refine ⟨?_, by simp; omega⟩
      rw [wrap_succ (by omega)]; rfl
    | false =>
      simp only [cond_false, eqL_self, cond_true, Option.bind_some]
      exact ⟨by rw [wrap_succ (by omega)], by omega⟩

theorem getLast_at {α : Type} {l : List α} (h : 0 < l.length) : at? l (((0 : Nat) : Int) + IntKind.i64.wrap (((l.length : Nat) : Int) - 1)) = l.getLast? ∨ 9223372036854775807 < l.length := by
  by_cases hb : l.length ≤ 9223372036854775807
  · left
    rw [wrap_pred h hb, at_natz, List.getLast?_eq_getElem?]
  · exact .inr (by omega)

theorem rg_column_s2_run {n : Nat} (w1 r2 : List Gspan) (hw : w1.length = r2.length) (hl : r2.length < 1099511627776) (hn : r2.length < n) : iter (rg_column_s2 w1 r2) n ((0 : Int), ([] : List Gspan)) = some (r2.foldl mrg []) := by
  have := iter_foldI (l := r2) (step := rg_column_s2 w1 r2) (fun i (s : List Gspan) => ((i : Int), s)) (fun r s => mrg s r) (fun s => s) (fun i s => s.length ≤ i)
    (fun i hi s hs => ?_) (fun s hs => by simp [rg_column_s2, hw]) n hn [] (Nat.le_refl _)
  · rw [show ((0 : Nat) : Int) = 0 from rfl] at this
    exact this
  · refine ⟨?_, by have := length_mrg s r2[i]; omega⟩
    have hi' : decide (((i : Nat) : Int) < ((w1.length : Nat) : Int)) = true := by simp; omega
    have ib : inb (i : Int) w1.length = true := inb_get (by omega)
    have ap : appOk s.length s.length (sub ([r2[i]] : List Gspan) 0 1).length 1 16 = true := appOk_true (n := 1) (by omega) (by simp only [maxLen]; omega)
    simp only [rg_column_s2, hi', cond_true, ib, at_getz hi, Option.bind_some]
    rcases List.eq_nil_or_concat s with rfl | ⟨s0, q, hsq⟩
    · have d0 : decide (((([] : List Gspan).length : Nat) : Int) > 0) = false := by simp
      simp only [d0, cond_false, Option.bind_some, ap, cond_true, letv_eq, eqL_self]
      rw [wrap_succ (by omega)]
      rfl
    · rw [List.concat_eq_append] at hsq
      subst hsq
      have d0 : decide (((((s0 ++ [q]).length : Nat) : Int)) > 0) = true := by simp <;> omega
      have lenq : (s0 ++ [q]).length = s0.length + 1 := by simp
      have wp : IntKind.i64.wrap ((((s0 ++ [q]).length : Nat) : Int) - 1) = ((s0.length : Nat) : Int) := by rw [wrap_pred (by simp) (by omega), lenq]; rfl
      have ib2 : inb ((s0.length : Nat) : Int) (s0 ++ [q]).length = true := inb_get (by omega)
      have g : at? (s0 ++ [q]) (((0 : Nat) : Int) + ((s0.length : Nat) : Int)) = some q := by rw [at_natz]; simp
      have z : (((0 : Nat) : Int) + ((s0.length : Nat) : Int)).toNat = s0.length := by simp
      have st : (s0 ++ [q]).set s0.length (Gspan.mk q.from_ (max q.to r2[i].to)) = s0 ++ [⟨q.from_, max q.to r2[i].to⟩] := by simp
      have m : mrg (s0 ++ [q]) r2[i] = bif decide (r2[i].from_ ≤ q.to) then s0 ++ [⟨q.from_, max q.to r2[i].to⟩] else s0 ++ [q] ++ [r2[i]] := by
        simp [mrg]
      simp only [d0, cond_true, wp, ib2, g, Option.bind_some, m, z, st]
      cases decide (r2[i].from_ ≤ q.to) with
      | true =>
        have e : eqL (s0 ++ [q]).length (s0 ++ [(⟨q.from_, max q.to r2[i].to⟩ : Gspan)]).length = true := by simp
        simp only [cond_true, e, Option.bind_some, eqL_self]
        rw [wrap_succ (by omega)]
      | false =>
        simp only [cond_false, ap, cond_true, letv_eq, eqL_self, Option.bind_some]
        rw [wrap_succ (by omega)]
        rfl

theorem rg_column_eq {n : Nat} {l : List GRect} {x : Int} (hl : l.length ≤ 12) (hn : 13 ≤ n) : rg_column n l x = some (columnL l x) := by
  have h1 := length_spansAt l x
  have h2 : (isort ltS (spansAt l x)).length = (spansAt l x).length := length_isort _
  unfold rg_column
  simp only [List.length_nil, eqL_self, cond_true, rg_column_s1_run (x := x) (l := l) (by omega) (n := n) (by omega), Option.bind_some]
  rw [sl_SortFunc_span_eq (fun x y => rg_column_f1_eq x y) (by omega) hn]
  simp only [Option.bind_some]
  rw [rg_column_s2_run _ _ h2.symm (by omega) (by omega)]
  simp only [Option.bind_some, sub_all, eqL_self, cond_true]
  rfl

/-- The numbers at which rectangles begin or end. -/
def edgesL (l : List GRect) : List Int := setL (l.flatMap fun r => [r.x0, r.x1])
def pairsL {α : Type} (f : Int → Int → α) : List Int → List α
  | a :: b :: l => f a b :: pairsL f (b :: l)
  | _ => []
def stripsL (l : List GRect) : List Gstrip := pairsL (fun a b => ⟨a, b, columnL l a⟩) (edgesL l)

theorem pairsL_get {α : Type} (f : Int → Int → α) : ∀ (l : List Int), (pairsL f l).length = l.length - 1 ∧ ∀ i (h : i + 1 < l.length) (h' : i < (pairsL f l).length), (pairsL f l)[i] = f l[i] l[i + 1]
  | [] => ⟨rfl, fun i h => by simp at h⟩
  | [a] => ⟨rfl, fun i h => by simp at h⟩
  | a :: b :: l => by
    obtain ⟨h1, h2⟩ := pairsL_get f (b :: l)
    refine ⟨by simp only [pairsL, List.length_cons, h1]; simp, fun i h h' => ?_⟩
    cases i with
    | zero => rfl
    | succ i =>
      simp only [pairsL, List.getElem_cons_succ]
      exact h2 i (by simpa using h) _

theorem flatMap_len (l : List GRect) : (l.flatMap fun r => [r.x0, r.x1]).length = 2 * l.length := by
  induction l with
  | nil => rfl
  | cons x l ih => simp only [List.flatMap_cons, List.length_append, ih, List.length_cons, List.length_nil]; omega

theorem length_compactL (l : List Int) : (compactL l).length ≤ l.length := by
  match l with
  | [] => simp [compactL]
  | [x] => simp [compactL]
  | x :: y :: l =>
    have := length_compactL (y :: l)
    simp only [compactL]
    cases x == y <;> simp at * <;> omega

theorem length_edgesL (l : List GRect) : (edgesL l).length ≤ 2 * l.length := by
  have h := length_compactL (isort (fun a b => decide (a < b)) (l.flatMap fun r => [r.x0, r.x1]))
  rw [length_isort, flatMap_len] at h
  exact h

theorem rg_strips_s1_run {n : Nat} {l : List GRect} (hl : l.length < 10995116277) (hn : l.length < n) : iter (rg_strips_s1 l) n ((0 : Int), ([] : List Int)) = some (l.flatMap fun r => [r.x0, r.x1]) := by
  have := iter_foldI (l := l) (step := rg_strips_s1 l) (fun i (s : List Int) => ((i : Int), s)) (fun r s => s ++ [r.x0, r.x1]) (fun s => s) (fun i s => s.length ≤ 2 * i)
    (fun i hi s hs => ?_) (fun s hs => by simp [rg_strips_s1]) n hn [] (Nat.le_refl _)
  · rw [show ((0 : Nat) : Int) = 0 from rfl] at this
    rw [this]
    have gen : ∀ (ys : List GRect) (s : List Int), ys.foldl (fun s r => s ++ [r.x0, r.x1]) s = s ++ ys.flatMap fun r => [r.x0, r.x1] := by
      intro ys
      induction ys with
      | nil => intro s; simp
      | cons y ys ih => intro s; simp [ih]
    congr 1
    simpa using gen l []
  · have hi' : decide (((i : Nat) : Int) < ((l.length : Nat) : Int)) = true := by simpa using hi
    have ap : appOk s.length s.length (sub ([l[i].x0, l[i].x1] : List Int) 0 2).length 2 8 = true := appOk_true (n := 2) (by omega) (by simp only [maxLen]; omega)
    simp only [rg_strips_s1, hi', cond_true, inb_get hi, at_getz hi, Option.bind_some, ap, letv_eq, eqL_self]
    refine ⟨?_, by simp; omega⟩
    rw [wrap_succ (by omega)]; rfl

theorem rg_strips_eq {n : Nat} {l : List GRect} (hl : l.length ≤ 6) (hn : 30 ≤ n) : rg_strips n [l] = some (stripsL l) := by
  have he := length_edgesL l
  unfold rg_strips
  rw [sl_Concat_Rect_eq (by simp; omega) (by simp) (by simp; omega)]
  have fl : [l].flatten = l := by simp
  simp only [fl, Option.bind_some, List.length_nil, eqL_self, cond_true, rg_strips_s1_run (l := l) (n := n) (by omega) (by omega)]
  rw [sl_Sort_int_eq (by rw [flatMap_len]; omega) (by omega)]
  simp only [Option.bind_some, length_isort, eqL_self, cond_true]
  rw [sl_Compact_int_eq (by rw [length_isort, flatMap_len]; omega) (by rw [length_isort, flatMap_len]; omega)]
  simp only [Option.bind_some]
  have hE : compactL (isort ltI (l.flatMap fun r => [r.x0, r.x1])) = edgesL l := rfl
  rw [hE]
  obtain ⟨p1, p2⟩ := pairsL_get (fun a b => (⟨a, b, columnL l a⟩ : Gstrip)) (edgesL l)
  have key : iter (rg_strips_s2 n l ((), edgesL l)) n ((1 : Int), ([] : List Gstrip)) = some (stripsL l) := by
    have := iter_to (step := rg_strips_s2 n l ((), edgesL l)) (fun i => (((i + 1 : Nat) : Int), (stripsL l).take i)) (stripsL l).length (stripsL l) (fun i hi => ?_) ?_ n (by unfold stripsL; omega)
    · simpa using this
    · have hi2 : i + 1 < (edgesL l).length := by unfold stripsL at hi; omega
      have d : decide (((i + 1 : Nat) : Int) < (((edgesL l).length : Nat) : Int)) = true := by simp; omega
      have wp : IntKind.i64.wrap (((i + 1 : Nat) : Int) - 1) = ((i : Nat) : Int) := by rw [wrap_pred (by omega) (by omega)]; rfl
      have ap : appOk ((stripsL l).take i).length ((stripsL l).take i).length (sub ([(Gstrip.mk ((edgesL l)[i]'(by omega)) (edgesL l)[i + 1] (columnL l ((edgesL l)[i]'(by omega))))] : List Gstrip) 0 1).length 1 40 = true := by
        refine appOk_true (n := 1) ?_ ?_
        · rw [List.length_take]; unfold stripsL; omega
        · rw [List.length_take]; unfold stripsL; simp only [maxLen]; omega
      have tk : (stripsL l).take (i + 1) = (stripsL l).take i ++ [⟨(edgesL l)[i]'(by omega), (edgesL l)[i + 1], columnL l ((edgesL l)[i]'(by omega))⟩] := by
        rw [List.take_succ_eq_append_getElem hi]
        congr 2
        exact p2 i hi2 hi
      simp only [rg_strips_s2, d, cond_true, wp, inb_get (show i < (edgesL l).length by omega), at_getz (show i < (edgesL l).length by omega), Option.bind_some, inb_get hi2, at_getz hi2, sub_all, eqL_self, rg_column_eq (l := l) (n := n) (by omega) (by omega), ap, letv_eq]
      rw [wrap_succ (by omega), tk]
      rfl
    · have d : decide ((((stripsL l).length + 1 : Nat) : Int) < (((edgesL l).length : Nat) : Int)) = false := by
        unfold stripsL; simp; omega
      simp only [rg_strips_s2, d, cond_false, List.take_length, eqL_self, cond_true]
  rw [key]
  simp only [Option.bind_some, sub_all, eqL_self, cond_true]
end Go.Proofs
