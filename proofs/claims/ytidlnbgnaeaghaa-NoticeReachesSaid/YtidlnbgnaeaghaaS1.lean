/-
  What the printed functions of package slices and cmp come to.
  What the printed functions of package region come to, at few rectangles.
  What region.Of, region.Right and offset.Gap come to, at few rectangles.
  What the printed functions of packages offset, parcel and notice come to, in few towns.
  The example; what the laws of the notice share.
  What region.Parts comes to: the connected parts of a few rectangles.
  What parcel.Right comes to.
  NoticeReaches as a plain law.
-/
import Derived.Test.YtidlnbgnaeaghaaL1
namespace Go.Proofs
open Go.Gb Go.RowKit

abbrev ltI (a b : Int) : Bool := decide (a < b)

theorem cmp_Less_int_eq (a b : Int) : cmp_Less_int a b = some (ltI a b) := by
  simp [cmp_Less_int, cmp_isNaN_int]

theorem cmp_Compare_int_eq (a b : Int) : cmp_Compare_int a b = some (if a < b then -1 else if b < a then 1 else 0) := by
  by_cases h1 : a < b
  · simp [cmp_Compare_int, cmp_isNaN_int, h1]
  · by_cases h2 : b < a
    · simp [cmp_Compare_int, cmp_isNaN_int, h1, h2]
    · simp [cmp_Compare_int, cmp_isNaN_int, h1, h2]

theorem bits_Len_small {m : Nat} (h : m ≤ 12) : ∃ r, bits_Len (IntKind.u64.wrap ((m : Nat) : Int)) = some r := by
  have all : ∀ k : Fin 13, (bits_Len (IntKind.u64.wrap ((k.val : Nat) : Int))).isSome = true := by decide +kernel
  have := all ⟨m, by omega⟩
  exact Option.isSome_iff_exists.1 this

theorem sl_Sort_int_eq {n : Nat} {l : List Int} (hl : l.length ≤ 12) (hn : 13 ≤ n) : sl_Sort_int n l = some (isort ltI l) := by
  obtain ⟨r, hr⟩ := bits_Len_small hl
  obtain ⟨k, rfl⟩ : ∃ k, n = k + 1 := ⟨n - 1, by omega⟩
  have h1 : sl_insertionSortOrdered_int (k + 1) l 0 (l.length : Int) = some (isort ltI l) := gsIns_run (less := fun x y => (cmp_Less_int x y).bind fun r => some r) (fun x y => by rw [cmp_Less_int_eq]; rfl) (k + 1) l (by omega) (by omega)
  have w : IntKind.i64.wrap ((l.length : Int) - 0) = (l.length : Int) := by rw [Int.sub_zero]; exact wrap_nat (by omega)
  have d : decide ((l.length : Int) ≤ 12) = true := by simpa using (by omega : (l.length : Int) ≤ 12)
  have h2 : sl_pdqsortOrdered_int_s1 (k + 1) (sl_pdqsortOrdered_int_m (k + 1) k) l (0, (l.length : Int), r, true, true, l) = some (.inr (.inr (isort ltI l))) := by
    simp only [sl_pdqsortOrdered_int_s1, w, d, cond_true, eqL_self, h1, Option.bind_some, Option.map_some]
  have h3 : sl_pdqsortOrdered_int (k + 1) l 0 (l.length : Int) r = some (isort ltI l) := by
    show sl_pdqsortOrdered_int_b (k + 1) (sl_pdqsortOrdered_int_m (k + 1) k) l 0 (l.length : Int) r = _
    unfold sl_pdqsortOrdered_int_b
    rw [iter_inr h2]; rfl
  unfold sl_Sort_int
  simp only [hr, Option.bind_some, eqL_self, cond_true, h3]

theorem sl_Compact_int_eq {n : Nat} {l : List Int} (hl : l.length < 1099511627776) (hn : l.length < n) : sl_Compact_int n l = some ((), compactL l) := by
  rw [← cptG_int]
  exact gsCompact_run (eq := fun x y => x == y) (ne := fun x y => x != y) (fun x y => by simp [bne]) hl hn

theorem sl_Index_int_eq {n : Nat} {l : List Int} {a : Int} (hl : l.length < 1099511627776) (hn : l.length < n) : sl_Index_int n l a = some (idxL (fun x => a == x) l) := gsIndex_run hl hn

theorem sl_Contains_int_eq {n : Nat} {l : List Int} {a : Int} (hl : l.length < 1099511627776) (hn : l.length < n) : sl_Contains_int n l a = some (l.any fun x => a == x) := by
  unfold sl_Contains_int
  rw [sl_Index_int_eq hl hn, Option.bind_some, idxL_ge]

theorem sl_DeleteFunc_int_eq {n : Nat} {l : List Int} {φ : (Int × Unit) → Option Bool} (p : Int → Bool) (h : ∀ x ∈ l, φ (x, ()) = some (p x)) (hl : l.length < 1099511627776) (hn : l.length < n) : sl_DeleteFunc_int n l φ = some ((), l.filter fun x => !p x) := gsDeleteFunc_run p h hl hn

theorem sl_IndexFunc_Table_eq {n : Nat} {l : List GTable} {φ : (GTable × Unit) → Option Bool} (p : GTable → Bool) (h : ∀ x ∈ l, φ (x, ()) = some (p x)) (hl : l.length < 1099511627776) (hn : l.length < n) : sl_IndexFunc_Table n l φ = some (idxL p l) := gsIndexFunc_run p h hl hn

theorem sl_IndexFunc_Entry_eq {n : Nat} {l : List GEntry} {φ : (GEntry × Unit) → Option Bool} (p : GEntry → Bool) (h : ∀ x ∈ l, φ (x, ()) = some (p x)) (hl : l.length < 1099511627776) (hn : l.length < n) : sl_IndexFunc_Entry n l φ = some (idxL p l) := gsIndexFunc_run p h hl hn

theorem sl_Clone_Rect_eq {l : List GRect} (h : l.length < 1099511627776) : sl_Clone_Rect l = some l := gsClone_run (b := 32) (by omega) (by simp only [maxLen]; omega)
theorem sl_Clone_int_eq {l : List Int} (h : l.length < 1099511627776) : sl_Clone_int l = some l := gsClone_run (b := 8) (by omega) (by simp only [maxLen]; omega)

theorem sl_Concat_Rect_eq {n : Nat} {l : List (List GRect)} (hf : l.flatten.length < 1099511627776) (hl : l.length < 1099511627776) (hn : l.length < n) : sl_Concat_Rect n l = some l.flatten := gsConcat_run (GRect.mk 0 0 0 0) (b := 32) hf (by omega) hl hn

theorem sl_Equal_Rect_eq {n : Nat} {a b : List GRect} (hl : a.length < 1099511627776) (hn : a.length < n) : sl_Equal_Rect n a b = some (decide (a = b)) := by
  have e : sl_Equal_Rect n a b = gsEqual n (fun x1 x2 : GRect => !((x1.x0 == (x2.x0 : Int)) && ((x1.y0 == (x2.y0 : Int)) && ((x1.x1 == (x2.x1 : Int)) && ((x1.y1 == (x2.y1 : Int)) && true))))) a b := by kernel_rfl
  rw [e]
  refine gsEqual_run (fun x y => ?_) hl hn
  obtain ⟨a, b, c, d⟩ := x
  obtain ⟨e, f, g, h⟩ := y
  simp only [GRect.mk.injEq, Bool.and_true]
  rw [Bool.eq_iff_iff]
  simp

theorem sl_Equal_span_eq {n : Nat} {a b : List Gspan} (hl : a.length < 1099511627776) (hn : a.length < n) : sl_Equal_span n a b = some (decide (a = b)) := by
  have e : sl_Equal_span n a b = gsEqual n (fun x1 x2 : Gspan => !((x1.from_ == (x2.from_ : Int)) && ((x1.to == (x2.to : Int)) && true))) a b := by kernel_rfl
  rw [e]
  refine gsEqual_run (fun x y => ?_) hl hn
  obtain ⟨a, b⟩ := x
  obtain ⟨c, d⟩ := y
  simp only [Gspan.mk.injEq, Bool.and_true]
  rw [Bool.eq_iff_iff]
  simp

theorem q35_Ints_eq {n : Nat} {a b : List Int} (hl : a.length < 1099511627776) (hn : a.length < n) : q35_Ints n a b = some (decide (a = b)) := by
  have e : q35_Ints n a b = gsEqual n (fun x1 x2 : Int => x1 != x2) a b := by kernel_rfl
  rw [e]
  refine gsEqual_run (fun x y => ?_) hl hn
  rw [Bool.eq_iff_iff]
  simp [bne]

abbrev ltS (a b : Gspan) : Bool := decide (a.from_ < b.from_)

theorem rg_column_f1_eq (a b : Gspan) : (rg_column_f1 a b).bind (fun r => some (decide (r < 0))) = some (ltS a b) := by
  unfold rg_column_f1
  rw [cmp_Compare_int_eq]
  simp only [Option.bind_some, ltS]
  by_cases h1 : a.from_ < b.from_
  · simp [h1]
  · by_cases h2 : b.from_ < a.from_ <;> simp [h1, h2]

theorem sl_SortFunc_span_eq {n : Nat} {l : List Gspan} {φ : (Gspan × Gspan × Unit) → Option Int} (hφ : ∀ x y, (φ (x, y, ())).bind (fun r => some (decide (r < 0))) = some (ltS x y)) (hl : l.length ≤ 12) (hn : 13 ≤ n) : sl_SortFunc_span n l φ = some (isort ltS l) := by
  obtain ⟨r, hr⟩ := bits_Len_small hl
  obtain ⟨k, rfl⟩ : ∃ k, n = k + 1 := ⟨n - 1, by omega⟩
  have h1 : sl_insertionSortCmpFunc_span (k + 1) l 0 (l.length : Int) φ = some (isort ltS l) := gsIns_run (less := fun x y => (φ (x, y, ())).bind fun r => some (decide (r < 0))) hφ (k + 1) l (by omega) (by omega)
  have w : IntKind.i64.wrap ((l.length : Int) - 0) = (l.length : Int) := by rw [Int.sub_zero]; exact wrap_nat (by omega)
  have d : decide ((l.length : Int) ≤ 12) = true := by simpa using (by omega : (l.length : Int) ≤ 12)
  have h2 : sl_pdqsortCmpFunc_span_s1 (k + 1) (sl_pdqsortCmpFunc_span_m (k + 1) k) l φ (0, (l.length : Int), r, true, true, l) = some (.inr (.inr (isort ltS l))) := by
    simp only [sl_pdqsortCmpFunc_span_s1, w, d, cond_true, eqL_self, h1, Option.bind_some, Option.map_some]
  have h3 : sl_pdqsortCmpFunc_span (k + 1) l 0 (l.length : Int) r φ = some (isort ltS l) := by
    show sl_pdqsortCmpFunc_span_b (k + 1) (sl_pdqsortCmpFunc_span_m (k + 1) k) l 0 (l.length : Int) r φ = _
    unfold sl_pdqsortCmpFunc_span_b
    rw [iter_inr h2]; rfl
  unfold sl_SortFunc_span
  simp only [hr, Option.bind_some, eqL_self, cond_true, h3]
end Go.Proofs

namespace Go.Proofs
open Go.Gb Go.RowKit

/-- A valid rectangle. -/
abbrev OkR (r : GRect) : Bool := decide (0 ≤ r.x0) && (decide (r.x0 < r.x1) && (decide (r.x1 ≤ 1048576) && (decide (0 ≤ r.y0) && (decide (r.y0 < r.y1) && decide (r.y1 ≤ 1048576)))))

theorem bifand (a b : Bool) : (bif a then some b else some false) = some (a && b) := by cases a <;> rfl
theorem bifandO (a : Bool) (b : Bool) : (bif a then (some b) else some false : Option Bool) = some (a && b) := by cases a <;> rfl
theorem biford (a b : Bool) : (bif a then some true else some b) = some (a || b) := by cases a <;> rfl

theorem r_Right_eq (r : GRect) : r_Right r = some (OkR r) := by
  simp only [r_Right, bifand]

/-- The spans of the rectangles over x. -/
def spansAt (l : List GRect) (x : Int) : List Gspan := (l.filter fun r => decide (r.x0 ≤ x) && decide (x < r.x1)).map fun r => ⟨r.y0, r.y1⟩
/-- A span behind others. -/
def mrg (out : List Gspan) (s : Gspan) : List Gspan :=
  match out.getLast? with
  | some q => bif decide (s.from_ ≤ q.to) then out.dropLast ++ [⟨q.from_, max q.to s.to⟩] else out ++ [s]
  | none => [s]
def columnL (l : List GRect) (x : Int) : List Gspan := (isort ltS (spansAt l x)).foldl mrg []

theorem length_mrg (out : List Gspan) (s : Gspan) : (mrg out s).length ≤ out.length + 1 := by
  unfold mrg
  cases out.getLast? with
  | none => simp
  | some q => simp only; cases decide (s.from_ ≤ q.to) <;> simp <;> omega

theorem length_spansAt (l : List GRect) (x : Int) : (spansAt l x).length ≤ l.length := by
  simp only [spansAt, List.length_map]; exact List.length_filter_le _ _

theorem length_columnL (l : List GRect) (x : Int) : (columnL l x).length ≤ l.length := by
  have : ∀ (ys out : List Gspan), (ys.foldl mrg out).length ≤ out.length + ys.length := by
    intro ys
    induction ys with
    | nil => intro out; simp
    | cons y ys ih =>
      intro out
      simp only [List.foldl_cons, List.length_cons]
      have := ih (mrg out y); have := length_mrg out y; omega
  have h := this (isort ltS (spansAt l x)) []
  rw [length_isort] at h
  have := length_spansAt l x
  simp only [List.length_nil] at h
  unfold columnL
  omega

theorem rg_column_s1_run {l : List GRect} {x : Int} (hl : l.length < 1099511627776) {n : Nat} (hn : l.length < n) : iter (rg_column_s1 l x) n ((0 : Int), ([] : List Gspan)) = some (spansAt l x) := by
  have := iter_foldI (l := l) (step := rg_column_s1 l x) (fun i (s : List Gspan) => ((i : Int), s)) (fun r s => bif decide (r.x0 ≤ x) && decide (x < r.x1) then s ++ [⟨r.y0, r.y1⟩] else s) (fun s => s) (fun i s => s.length ≤ i)
    (fun i hi s hs => ?_) (fun s hs => by simp [rg_column_s1]) n hn [] (Nat.le_refl _)
  · rw [show ((0 : Nat) : Int) = 0 from rfl] at this
    rw [this]
    congr 1
    have gen : ∀ (ys : List GRect) (s : List Gspan), ys.foldl (fun s r => bif decide (r.x0 ≤ x) && decide (x < r.x1) then s ++ [⟨r.y0, r.y1⟩] else s) s = s ++ spansAt ys x := by
      intro ys
      induction ys with
      | nil => intro s; simp [spansAt]
      | cons y ys ih =>
        intro s
        simp only [List.foldl_cons, ih]
        cases h : (decide (y.x0 ≤ x) && decide (x < y.x1)) with
        | true => simp [spansAt, h]
        | false => simp [spansAt, h]
    simpa using gen l []
  · have hi' : decide (((i : Nat) : Int) < (l.length : Int)) = true := by simpa using hi
    have ap : appOk s.length s.length (sub ([(Gspan.mk l[i].y0 l[i].y1)] : List Gspan) 0 1).length 1 16 = true := appOk_true (n := 1) (by omega) (by simp only [maxLen]; omega)
    simp only [rg_column_s1, hi', cond_true, at_get hi, Option.bind_some, bifand]
    cases h : (decide (l[i].x0 ≤ x) && decide (x < l[i].x1)) with
    | true =>
      simp only [cond_true, ap, letv_eq, eqL_self, Option.bind_some]
      refine ⟨?_, by simp; omega⟩
      rw [wrap_succ (by omega)]; rfl
    | false =>
      simp only [cond_false, eqL_self, cond_true, Option.bind_some]
      exact ⟨by rw [wrap_succ (by omega)], by omega⟩

theorem getLast_at {α : Type} {l : List α} (h : 0 < l.length) : at? l (((0 : Nat) : Int) + IntKind.i64.wrap (((l.length : Nat) : Int) - 1)) = l.getLast? ∨ 9223372036854775807 < l.length := by
  by_cases hb : l.length ≤ 9223372036854775807
  · left
    rw [wrap_pred h hb, at_natz, List.getLast?_eq_getElem?]
  · exact .inr (by omega)

theorem rg_column_s2_run {n : Nat} (w1 r2 : List Gspan) (hw : w1.length = r2.length) (hl : r2.length < 1099511627776) (hn : r2.length < n) : iter (rg_column_s2 w1 r2) n ((0 : Int), ([] : List Gspan)) = some (r2.foldl mrg []) := by
  have := iter_foldI (l := r2) (step := rg_column_s2 w1 r2) (fun i (s : List Gspan) => ((i : Int), s)) (fun r s => mrg s r) (fun s => s) (fun i s => s.length ≤ i)
    (fun i hi s hs => ?_) (fun s hs => by simp [rg_column_s2, hw]) n hn [] (Nat.le_refl _)
  · rw [show ((0 : Nat) : Int) = 0 from rfl] at this
    exact this
  · refine ⟨?_, by have := length_mrg s r2[i]; omega⟩
    have hi' : decide (((i : Nat) : Int) < ((w1.length : Nat) : Int)) = true := by simp; omega
    have ib : inb (i : Int) w1.length = true := inb_get (by omega)
    have ap : appOk s.length s.length (sub ([r2[i]] : List Gspan) 0 1).length 1 16 = true := appOk_true (n := 1) (by omega) (by simp only [maxLen]; omega)
    simp only [rg_column_s2, hi', cond_true, ib, at_getz hi, Option.bind_some]
    rcases List.eq_nil_or_concat s with rfl | ⟨s0, q, hsq⟩
    · have d0 : decide (((([] : List Gspan).length : Nat) : Int) > 0) = false := by simp
      simp only [d0, cond_false, Option.bind_some, ap, cond_true, letv_eq, eqL_self]
      rw [wrap_succ (by omega)]
      rfl
    · rw [List.concat_eq_append] at hsq
      subst hsq
      have d0 : decide (((((s0 ++ [q]).length : Nat) : Int)) > 0) = true := by simp <;> omega
      have lenq : (s0 ++ [q]).length = s0.length + 1 := by simp
      have wp : IntKind.i64.wrap ((((s0 ++ [q]).length : Nat) : Int) - 1) = ((s0.length : Nat) : Int) := by rw [wrap_pred (by simp) (by omega), lenq]; rfl
      have ib2 : inb ((s0.length : Nat) : Int) (s0 ++ [q]).length = true := inb_get (by omega)
      have g : at? (s0 ++ [q]) (((0 : Nat) : Int) + ((s0.length : Nat) : Int)) = some q := by rw [at_natz]; simp
      have z : (((0 : Nat) : Int) + ((s0.length : Nat) : Int)).toNat = s0.length := by simp
      have st : (s0 ++ [q]).set s0.length (Gspan.mk q.from_ (max q.to r2[i].to)) = s0 ++ [⟨q.from_, max q.to r2[i].to⟩] := by simp
      have m : mrg (s0 ++ [q]) r2[i] = bif decide (r2[i].from_ ≤ q.to) then s0 ++ [⟨q.from_, max q.to r2[i].to⟩] else s0 ++ [q] ++ [r2[i]] := by
        simp [mrg]
      simp only [d0, cond_true, wp, ib2, g, Option.bind_some, m, z, st]
      cases decide (r2[i].from_ ≤ q.to) with
      | true =>
        have e : eqL (s0 ++ [q]).length (s0 ++ [(⟨q.from_, max q.to r2[i].to⟩ : Gspan)]).length = true := by simp
        simp only [cond_true, e, Option.bind_some, eqL_self]
        rw [wrap_succ (by omega)]
      | false =>
        simp only [cond_false, ap, cond_true, letv_eq, eqL_self, Option.bind_some]
        rw [wrap_succ (by omega)]
        rfl

theorem rg_column_eq {n : Nat} {l : List GRect} {x : Int} (hl : l.length ≤ 12) (hn : 13 ≤ n) : rg_column n l x = some (columnL l x) := by
  have h1 := length_spansAt l x
  have h2 : (isort ltS (spansAt l x)).length = (spansAt l x).length := length_isort _
  unfold rg_column
  simp only [List.length_nil, eqL_self, cond_true, rg_column_s1_run (x := x) (l := l) (by omega) (n := n) (by omega), Option.bind_some]
  rw [sl_SortFunc_span_eq (fun x y => rg_column_f1_eq x y) (by omega) hn]
  simp only [Option.bind_some]
  rw [rg_column_s2_run _ _ h2.symm (by omega) (by omega)]
  simp only [Option.bind_some, sub_all, eqL_self, cond_true]
  rfl

/-- The numbers at which rectangles begin or end. -/
def edgesL (l : List GRect) : List Int := setL (l.flatMap fun r => [r.x0, r.x1])
def pairsL {α : Type} (f : Int → Int → α) : List Int → List α
  | a :: b :: l => f a b :: pairsL f (b :: l)
  | _ => []
def stripsL (l : List GRect) : List Gstrip := pairsL (fun a b => ⟨a, b, columnL l a⟩) (edgesL l)

theorem pairsL_get {α : Type} (f : Int → Int → α) : ∀ (l : List Int), (pairsL f l).length = l.length - 1 ∧ ∀ i (h : i + 1 < l.length) (h' : i < (pairsL f l).length), (pairsL f l)[i] = f l[i] l[i + 1]
  | [] => ⟨rfl, fun i h => by simp at h⟩
  | [a] => ⟨rfl, fun i h => by simp at h⟩
  | a :: b :: l => by
    obtain ⟨h1, h2⟩ := pairsL_get f (b :: l)
    refine ⟨by simp only [pairsL, List.length_cons, h1]; simp, fun i h h' => ?_⟩
    cases i with
    | zero => rfl
    | succ i =>
      simp only [pairsL, List.getElem_cons_succ]
      exact h2 i (by simpa using h) _

theorem flatMap_len (l : List GRect) : (l.flatMap fun r => [r.x0, r.x1]).length = 2 * l.length := by
  induction l with
  | nil => rfl
  | cons x l ih => simp only [List.flatMap_cons, List.length_append, ih, List.length_cons, List.length_nil]; omega

theorem length_compactL (l : List Int) : (compactL l).length ≤ l.length := by
  match l with
  | [] => simp [compactL]
  | [x] => simp [compactL]
  | x :: y :: l =>
    have := length_compactL (y :: l)
    simp only [compactL]
    cases x == y <;> simp at * <;> omega

theorem length_edgesL (l : List GRect) : (edgesL l).length ≤ 2 * l.length := by
  have h := length_compactL (isort (fun a b => decide (a < b)) (l.flatMap fun r => [r.x0, r.x1]))
  rw [length_isort, flatMap_len] at h
  exact h

theorem rg_strips_s1_run {n : Nat} {l : List GRect} (hl : l.length < 10995116277) (hn : l.length < n) : iter (rg_strips_s1 l) n ((0 : Int), ([] : List Int)) = some (l.flatMap fun r => [r.x0, r.x1]) := by
  have := iter_foldI (l := l) (step := rg_strips_s1 l) (fun i (s : List Int) => ((i : Int), s)) (fun r s => s ++ [r.x0, r.x1]) (fun s => s) (fun i s => s.length ≤ 2 * i)
    (fun i hi s hs => ?_) (fun s hs => by simp [rg_strips_s1]) n hn [] (Nat.le_refl _)
  · rw [show ((0 : Nat) : Int) = 0 from rfl] at this
    rw [this]
    have gen : ∀ (ys : List GRect) (s : List Int), ys.foldl (fun s r => s ++ [r.x0, r.x1]) s = s ++ ys.flatMap fun r => [r.x0, r.x1] := by
      intro ys
      induction ys with
      | nil => intro s; simp
      | cons y ys ih => intro s; simp [ih]
    congr 1
    simpa using gen l []
  · have hi' : decide (((i : Nat) : Int) < ((l.length : Nat) : Int)) = true := by simpa using hi
    have ap : appOk s.length s.length (sub ([l[i].x0, l[i].x1] : List Int) 0 2).length 2 8 = true := appOk_true (n := 2) (by omega) (by simp only [maxLen]; omega)
    simp only [rg_strips_s1, hi', cond_true, inb_get hi, at_getz hi, Option.bind_some, ap, letv_eq, eqL_self]
    refine ⟨?_, by simp; omega⟩
    rw [wrap_succ (by omega)]; rfl

theorem rg_strips_eq {n : Nat} {l : List GRect} (hl : l.length ≤ 6) (hn : 30 ≤ n) : rg_strips n [l] = some (stripsL l) := by
  have he := length_edgesL l
  unfold rg_strips
  rw [sl_Concat_Rect_eq (by simp; omega) (by simp) (by simp; omega)]
  have fl : [l].flatten = l := by simp
  simp only [fl, Option.bind_some, List.length_nil, eqL_self, cond_true, rg_strips_s1_run (l := l) (n := n) (by omega) (by omega)]
  rw [sl_Sort_int_eq (by rw [flatMap_len]; omega) (by omega)]
  simp only [Option.bind_some, length_isort, eqL_self, cond_true]
  rw [sl_Compact_int_eq (by rw [length_isort, flatMap_len]; omega) (by rw [length_isort, flatMap_len]; omega)]
  simp only [Option.bind_some]
  have hE : compactL (isort ltI (l.flatMap fun r => [r.x0, r.x1])) = edgesL l := rfl
  rw [hE]
  obtain ⟨p1, p2⟩ := pairsL_get (fun a b => (⟨a, b, columnL l a⟩ : Gstrip)) (edgesL l)
  have key : iter (rg_strips_s2 n l ((), edgesL l)) n ((1 : Int), ([] : List Gstrip)) = some (stripsL l) := by
    have := iter_to (step := rg_strips_s2 n l ((), edgesL l)) (fun i => (((i + 1 : Nat) : Int), (stripsL l).take i)) (stripsL l).length (stripsL l) (fun i hi => ?_) ?_ n (by unfold stripsL; omega)
    · simpa using this
    · have hi2 : i + 1 < (edgesL l).length := by unfold stripsL at hi; omega
      have d : decide (((i + 1 : Nat) : Int) < (((edgesL l).length : Nat) : Int)) = true := by simp; omega
      have wp : IntKind.i64.wrap (((i + 1 : Nat) : Int) - 1) = ((i : Nat) : Int) := by rw [wrap_pred (by omega) (by omega)]; rfl
      have ap : appOk ((stripsL l).take i).length ((stripsL l).take i).length (sub ([(Gstrip.mk ((edgesL l)[i]'(by omega)) (edgesL l)[i + 1] (columnL l ((edgesL l)[i]'(by omega))))] : List Gstrip) 0 1).length 1 40 = true := by
        refine appOk_true (n := 1) ?_ ?_
        · rw [List.length_take]; unfold stripsL; omega
        · rw [List.length_take]; unfold stripsL; simp only [maxLen]; omega
      have tk : (stripsL l).take (i + 1) = (stripsL l).take i ++ [⟨(edgesL l)[i]'(by omega), (edgesL l)[i + 1], columnL l ((edgesL l)[i]'(by omega))⟩] := by
        rw [List.take_succ_eq_append_getElem hi]
        congr 2
        exact p2 i hi2 hi
      simp only [rg_strips_s2, d, cond_true, wp, inb_get (show i < (edgesL l).length by omega), at_getz (show i < (edgesL l).length by omega), Option.bind_some, inb_get hi2, at_getz hi2, sub_all, eqL_self, rg_column_eq (l := l) (n := n) (by omega) (by omega), ap, letv_eq]
      rw [wrap_succ (by omega), tk]
      rfl
    · have d : decide ((((stripsL l).length + 1 : Nat) : Int) < (((edgesL l).length : Nat) : Int)) = false := by
        unfold stripsL; simp; omega
      simp only [rg_strips_s2, d, cond_false, List.take_length, eqL_self, cond_true]
  rw [key]
  simp only [Option.bind_some, sub_all, eqL_self, cond_true]
end Go.Proofs

namespace Go.Proofs
open Go.Gb Go.RowKit

/-- The rectangles of a column. -/
def rectsL (x0 x1 : Int) (c : List Gspan) : List GRect := c.map fun q => ⟨x0, q.from_, x1, q.to⟩
/-- Strips as rectangles; neighbours with one column become one. -/
def wrGo (x0 x1 : Int) (c : List Gspan) : List Gstrip → List GRect
  | [] => rectsL x0 x1 c
  | s :: l => if s.column = c then wrGo x0 s.x1 c l else rectsL x0 x1 c ++ wrGo s.x0 s.x1 s.column l
def writeL : List Gstrip → List GRect
  | [] => []
  | s :: l => wrGo s.x0 s.x1 s.column l

theorem wrGo_skip (x0 : Int) (c : List Gspan) : ∀ (l : List Gstrip) (x1 : Int) (k : Nat) (hk : k ≤ l.length), (∀ j (hj : j < k), (l[j]'(by omega)).column = c) → (∀ h : k < l.length, l[k].column ≠ c) →
    wrGo x0 x1 c l = rectsL x0 (if h : 0 < k then (l[k - 1]'(by omega)).x1 else x1) c ++ writeL (l.drop k)
  | l, x1, 0, _, _, h2 => by
    cases l with
    | nil => simp [wrGo, writeL]
    | cons s l =>
      have := h2 (by simp)
      simp only [List.getElem_cons_zero] at this
      simp [wrGo, writeL, this]
  | [], x1, k + 1, hk, _, _ => by simp at hk
  | s :: l, x1, k + 1, hk, h1, h2 => by
    have e0 := h1 0 (by omega)
    simp only [List.getElem_cons_zero] at e0
    simp only [wrGo, e0, if_true]
    rw [wrGo_skip x0 c l s.x1 k (by simpa using hk) (fun j hj => by have := h1 (j + 1) (by omega); simpa using this) (fun h => by have := h2 (by simpa using h); simpa using this)]
    simp only [List.drop_succ_cons]
    congr 2
    by_cases hk0 : 0 < k
    · simp only [hk0, dite_true, Nat.zero_lt_succ, Nat.add_sub_cancel]
      obtain ⟨m, rfl⟩ : ∃ m, k = m + 1 := ⟨k - 1, by omega⟩
      simp
    · have : k = 0 := by omega
      subst this
      simp

theorem length_writeL (l : List Gstrip) (b : Nat) (h : ∀ s ∈ l, s.column.length ≤ b) : (writeL l).length ≤ l.length * b := by
  have go : ∀ (l : List Gstrip) (x0 x1 : Int) (c : List Gspan), c.length ≤ b → (∀ s ∈ l, s.column.length ≤ b) → (wrGo x0 x1 c l).length ≤ (l.length + 1) * b := by
    intro l
    induction l with
    | nil => intro x0 x1 c hc _; simp only [wrGo, rectsL, List.length_map, List.length_nil]; omega
    | cons s l ih =>
      intro x0 x1 c hc hl
      simp only [wrGo]
      split
      · have := ih x0 s.x1 c hc (fun t ht => hl t (List.mem_cons_of_mem _ ht))
        simp only [List.length_cons, Nat.add_mul] at *
        omega
      · have := ih s.x0 s.x1 s.column (hl s (by simp)) (fun t ht => hl t (List.mem_cons_of_mem _ ht))
        simp only [List.length_append, rectsL, List.length_map, List.length_cons, Nat.add_mul] at *
        omega
  cases l with
  | nil => simp [writeL]
  | cons s l =>
    simp only [writeL]
    exact go l _ _ _ (h s (by simp)) (fun t ht => h t (List.mem_cons_of_mem _ ht))

theorem rg_write_s3_run {n : Nat} {l : List Gstrip} {i k : Nat} (hi : i < l.length) (hk1 : 0 < k) (hk : k ≤ l.length) (hl : l.length < 10995116277) (x3 : Gstrip) (out : List GRect) (ho : out.length < 1099511627776) (hc : x3.column.length < 1099511627776) (hn : x3.column.length < n) :
    iter (rg_write_s3 l (i : Int) (k : Int) x3) n ((0 : Int), out) = some (out ++ rectsL l[i].x0 (l[k - 1]'(by omega)).x1 x3.column) := by
  have := iter_foldI (l := x3.column) (step := rg_write_s3 l (i : Int) (k : Int) x3) (fun j (s : List GRect) => ((j : Int), s)) (fun q s => s ++ [⟨l[i].x0, q.from_, (l[k - 1]'(by omega)).x1, q.to⟩]) (fun s => s) (fun j s => s.length ≤ out.length + j)
    (fun j hj s hs => ?_) (fun s hs => by simp [rg_write_s3]) n hn out (Nat.le_refl _)
  · rw [show ((0 : Nat) : Int) = 0 from rfl] at this
    rw [this]
    have gen : ∀ (ys : List Gspan) (s : List GRect), ys.foldl (fun s q => s ++ [⟨l[i].x0, q.from_, (l[k - 1]'(by omega)).x1, q.to⟩]) s = s ++ rectsL l[i].x0 (l[k - 1]'(by omega)).x1 ys := by
      intro ys
      induction ys with
      | nil => intro s; simp [rectsL]
      | cons y ys ih => intro s; simp only [List.foldl_cons, ih]; simp [rectsL]
    rw [gen]
  · have hj' : decide (((j : Nat) : Int) < (x3.column.length : Int)) = true := by simpa using hj
    have wp : IntKind.i64.wrap ((k : Int) - 1) = ((k - 1 : Nat) : Int) := wrap_pred hk1 (by omega)
    have ap : appOk s.length s.length (sub ([(GRect.mk l[i].x0 (x3.column[j]).from_ (l[k - 1]'(by omega)).x1 (x3.column[j]).to)] : List GRect) 0 1).length 1 32 = true := appOk_true (n := 1) (by omega) (by simp only [maxLen]; omega)
    simp only [rg_write_s3, hj', cond_true, at_get hj, at_get hi, wp, at_get (show k - 1 < l.length by omega), Option.bind_some, ap, letv_eq, eqL_self]
    refine ⟨?_, by simp; omega⟩
    rw [wrap_succ (by omega)]; rfl

theorem rg_write_eq {n : Nat} {l : List Gstrip} {b : Nat} (hb : b ≤ 100) (hl : l.length ≤ 100) (hc : ∀ s ∈ l, s.column.length ≤ b) (hn : 200 ≤ n) : rg_write n l = some (writeL l) := by
  unfold rg_write
  simp only [List.length_nil, eqL_self, cond_true]
  have main : ∀ (m i : Nat) (out : List GRect) (k : Nat), i + m = l.length → m < k → out.length ≤ i * b → iter (rg_write_s1 n l) k ((i : Int), out) = some (out ++ writeL (l.drop i)) := by
    intro m
    induction m using Nat.strongRecOn with
    | ind m ih =>
      intro i out k him hk ho
      obtain ⟨k, rfl⟩ : ∃ j, k = j + 1 := ⟨k - 1, by omega⟩
      by_cases hm : m = 0
      · subst hm
        have : i = l.length := by omega
        subst this
        refine iter_inr ?_
        simp [rg_write_s1, writeL]
      · have hi : i < l.length := by omega
        have di : decide (((i : Nat) : Int) < (l.length : Int)) = true := by simpa using hi
        -- up to where the columns are alike
        obtain ⟨q, hq1, hq2, hq3, hq4⟩ : ∃ q, i < q ∧ q ≤ l.length ∧ (∀ j, i < j → j < q → ∀ h : j < l.length, l[j].column = l[i].column) ∧ (∀ h : q < l.length, l[q].column ≠ l[i].column) := by
          rcases first_or_none (fun j => if h : j < l.length then decide (l[j].column ≠ l[i].column) else false) (i + 1) l.length with ⟨q, h1, h2, h3, h4⟩ | h
          · simp only [h2, dite_true, decide_eq_true_eq] at h3
            refine ⟨q, by omega, by omega, fun j hj1 hj2 hj => ?_, fun _ => h3⟩
            have := h4 j (by omega) hj2
            simp only [hj, dite_true, decide_eq_false_iff_not, ne_eq, Decidable.not_not] at this
            exact this
          · refine ⟨l.length, hi, Nat.le_refl _, fun j hj1 hj2 hj => ?_, fun h => by omega⟩
            have := h j (by omega) hj
            simp only [hj, dite_true, decide_eq_false_iff_not, ne_eq, Decidable.not_not] at this
            exact this
        have cl : ∀ j (hj : j < l.length), l[j].column.length ≤ b := fun j hj => hc _ (List.getElem_mem hj)
        have r2 : iter (rg_write_s2 n l (i : Int)) n (IntKind.i64.wrap ((i : Int) + 1)) = some (q : Int) := by
          rw [wrap_succ (by omega)]
          have := iter_to (step := rg_write_s2 n l (i : Int)) (fun j => ((i + 1 + j : Nat) : Int)) (q - (i + 1)) (q : Int) (fun j hj => ?_) ?_ n (by omega)
          · simpa using this
          · have hjl : i + 1 + j < l.length := by omega
            have dj : decide (((i + 1 + j : Nat) : Int) < (l.length : Int)) = true := by simp; omega
            have hcc := cl (i + 1 + j) hjl
            simp only [rg_write_s2, dj, cond_true, at_get hjl, at_get hi, Option.bind_some]
            rw [sl_Equal_span_eq (by omega) (by omega), hq3 (i + 1 + j) (by omega) (by omega) hjl]
            simp only [decide_true, Option.bind_some, cond_true]
            rw [wrap_succ (by omega)]; rfl
          · rw [show i + 1 + (q - (i + 1)) = q by omega]
            by_cases hql : q < l.length
            · have dj : decide (((q : Nat) : Int) < (l.length : Int)) = true := by simpa using hql
              have hcc := cl q hql
              simp only [rg_write_s2, dj, cond_true, at_get hql, at_get hi, Option.bind_some]
              rw [sl_Equal_span_eq (by omega) (by omega)]
              simp [hq4 hql]
            · have dj : decide (((q : Nat) : Int) < (l.length : Int)) = false := by simp; omega
              simp only [rg_write_s2, dj, cond_false, Option.bind_some]
        have ob : i * b ≤ 100 * 100 := Nat.mul_le_mul (by omega) hb
        have hci := cl i hi
        have r3 := rg_write_s3_run (n := n) hi (show 0 < q by omega) hq2 (by omega) l[i] out (by omega) (by omega) (by omega)
        have step : rg_write_s1 n l ((i : Int), out) = some (.inl ((q : Int), out ++ rectsL l[i].x0 (l[q - 1]'(by omega)).x1 l[i].column)) := by
          simp only [rg_write_s1, di, cond_true, r2, at_get hi, Option.bind_some, eqL_self, r3]
        rw [iter_inl step, ih (l.length - q) (by omega) q _ k (by omega) (by omega) (by
          rw [List.length_append, rectsL, List.length_map]
          have : (i + 1) * b ≤ q * b := Nat.mul_le_mul_right _ (by omega)
          rw [Nat.add_mul] at this
          omega)]
        rw [List.append_assoc]
        congr 2
        conv => rhs; rw [List.drop_eq_getElem_cons hi]
        simp only [writeL]
        rw [wrGo_skip l[i].x0 l[i].column (l.drop (i + 1)) l[i].x1 (q - (i + 1)) (by rw [List.length_drop]; omega) (fun j hj => by
          rw [List.getElem_drop]; exact hq3 _ (by omega) (by omega) (by omega)) (fun h => by
          rw [List.length_drop] at h
          rw [List.getElem_drop]
          have := hq4 (by omega)
          have hqq : i + 1 + (q - (i + 1)) = q := by omega
          simp only [hqq]; exact this)]
        rw [List.drop_drop, show i + 1 + (q - (i + 1)) = q by omega]
        congr 2
        by_cases h0 : 0 < q - (i + 1)
        · simp only [h0, dite_true, List.getElem_drop]
          congr 2
          omega
        · simp only [h0, dite_false]
          have : q - 1 = i := by omega
          congr 2
  have := main l.length 0 [] n (by omega) (by omega) (by simp)
  simp only [Int.natCast_zero, List.nil_append, List.drop_zero] at this
  rw [this]
  simp

/-- The region of some rectangles; what went wrong. -/
def ofL (l : List GRect) : List GRect × Int :=
  if l.all OkR then (if (writeL (stripsL l)).length > 200 then ([], 6) else (writeL (stripsL l), 0)) else ([], 1)
def rightL (l : List GRect) : Bool := decide ((ofL l).2 = 0) && decide ((ofL l).1 = l)

theorem stripsL_col {l : List GRect} {s : Gstrip} (h : s ∈ stripsL l) : s.column.length ≤ l.length := by
  obtain ⟨i, hi, rfl⟩ := List.getElem_of_mem h
  obtain ⟨p1, p2⟩ := pairsL_get (fun a b => (⟨a, b, columnL l a⟩ : Gstrip)) (edgesL l)
  have : (stripsL l)[i] = ⟨(edgesL l)[i]'(by unfold stripsL at hi; omega), (edgesL l)[i + 1]'(by unfold stripsL at hi; omega), columnL l ((edgesL l)[i]'(by unfold stripsL at hi; omega))⟩ := p2 i (by unfold stripsL at hi; omega) hi
  rw [this]
  exact length_columnL l _

theorem length_stripsL (l : List GRect) : (stripsL l).length ≤ 2 * l.length := by
  obtain ⟨p1, _⟩ := pairsL_get (fun a b => (⟨a, b, columnL l a⟩ : Gstrip)) (edgesL l)
  have := length_edgesL l
  unfold stripsL
  omega

theorem rg_Of_eq {n : Nat} {l : List GRect} (hl : l.length ≤ 6) (hn : 200 ≤ n) : rg_Of n l = some (ofL l) := by
  unfold rg_Of
  have h1 := iter_find (l := l) (step := rg_Of_s1 l) (fun i => (i : Int)) (fun r => !OkR r) () (fun _ => (([] : List GRect), (1 : Int))) (fun i hi => ?_) ?_ n (by omega)
  · rw [show ((0 : Nat) : Int) = 0 from rfl] at h1
    rw [h1]
    have h2 := findL_isSome (fun r => !OkR r) l
    cases hf : findL (fun r => !OkR r) l with
    | some i =>
      rw [hf] at h2
      have : l.all OkR = false := by
        rw [← Bool.not_eq_true, List.all_eq_true]
        intro hall
        have h3 := h2.symm
        simp only [Option.isSome_some, List.any_eq_true] at h3
        obtain ⟨x, hx, hx2⟩ := h3
        rw [hall x hx] at hx2; cases hx2
      simp [ofL, this]
    | none =>
      rw [hf] at h2
      have : l.all OkR = true := by
        rw [List.all_eq_true]
        intro x hx
        cases h : OkR x with
        | true => rfl
        | false =>
          have : l.any (fun r => !OkR r) = true := List.any_eq_true.2 ⟨x, hx, by rw [h]; rfl⟩
          rw [this] at h2; cases h2
      have d4 : decide ((l.length : Int) > 400) = false := by simp; omega
      have ls := length_stripsL l
      have lw := length_writeL (stripsL l) 6 (fun s hs => Nat.le_trans (stripsL_col hs) hl)
      simp only [thenB_inl, d4, cond_false]
      rw [show (sub ([l] : List (List GRect)) 0 1) = [l] from rfl, rg_strips_eq hl (by omega)]
      simp only [List.length_singleton, eqL_self, cond_true, Option.bind_some, sub_all]
      rw [rg_write_eq (b := 6) (by omega) (by omega) (fun s hs => Nat.le_trans (stripsL_col hs) hl) hn]
      simp only [Option.bind_some, sub_all, eqL_self, cond_true, rg_limited, ofL, this, if_true]
      by_cases h200 : (writeL (stripsL l)).length > 200
      · have : decide (((writeL (stripsL l)).length : Int) > 200) = true := by simp; omega
        simp only [this, cond_true, Option.bind_some, h200, if_true]
      · have : decide (((writeL (stripsL l)).length : Int) > 200) = false := by simp; omega
        simp only [this, cond_false, Option.bind_some, h200, if_false]
  · have hi' : decide (((i : Nat) : Int) < (l.length : Int)) = true := by simpa using hi
    simp only [rg_Of_s1, hi', cond_true, at_get hi, Option.bind_some, r_Right_eq]
    cases OkR l[i] with
    | false => rfl
    | true => simp only [Bool.not_true, cond_false]; rw [wrap_succ (by omega)]
  · simp [rg_Of_s1]

theorem rg_Right_eq {n : Nat} {l : List GRect} (hl : l.length ≤ 6) (hn : 200 ≤ n) : rg_Right n l = some (rightL l) := by
  unfold rg_Right rightL
  rw [rg_Of_eq hl hn]
  simp only [Option.bind_some]
  by_cases h : (ofL l).2 = 0
  · have e : ((ofL l).2 == 0) = true := by simp [h]
    have lo : (ofL l).1.length ≤ 200 := by
      unfold ofL
      split
      · split
        · simp
        · simp; omega
      · simp
    by_cases hlen : (ofL l).1.length < n
    · simp only [e, cond_true, h, decide_true, Bool.true_and]
      rw [sl_Equal_Rect_eq (by omega) hlen]; rfl
    · have : (ofL l).1.length ≠ l.length := by omega
      have hne : (ofL l).1 ≠ l := fun e => this (by rw [e])
      simp only [e, cond_true, h, decide_true, Bool.true_and]
      unfold sl_Equal_Rect
      have hb : (((ofL l).1.length : Int) != (l.length : Int)) = true := by simp; omega
      rw [hb]
      simp [hne]
  · have e : ((ofL l).2 == 0) = false := by simp [h]
    simp [e, h]
end Go.Proofs

namespace Go.Proofs
open Go.Gb Go.RowKit

/-! ### Gaps -/
def gapR (a b : GRect) : Int := bif (!OkR a || !OkR b) then -1 else max (max 0 (IntKind.i64.wrap ((max a.x0 b.x0) - (min a.x1 b.x1)))) (IntKind.i64.wrap ((max a.y0 b.y0) - (min a.y1 b.y1)))

theorem r_Gap_eq (a b : GRect) : r_Gap a b = some (gapR a b) := by
  unfold r_Gap gapR
  rw [r_Right_eq, r_Right_eq]
  simp only [Option.bind_some]
  cases OkR a <;> cases OkR b <;> rfl

def gapL (a b : List GRect) : Int × Bool :=
  bif (decide (a = []) || (decide (b = []) || (!rightL a || !rightL b))) then (0, false) else (a.foldl (fun m x => b.foldl (fun m y => min m (gapR x y)) m) 1048576, true)

theorem of_Gap_s2_run {n : Nat} {b : List GRect} (hb : b.length < 1099511627776) (hn : b.length < n) (x : GRect) (m : Int) : iter (of_Gap_s2 b x) n (m, (0 : Int)) = some (b.foldl (fun m y => min m (gapR x y)) m) := by
  have := iter_fold (l := b) (step := of_Gap_s2 b x) (fun i (s : Int) => (s, ((i : Nat) : Int))) (fun y m => min m (gapR x y)) (fun s => s) (fun i hi s => ?_) (fun s => by simp [of_Gap_s2]) n hn m
  · exact this
  · have hi' : decide (((i : Nat) : Int) < (b.length : Int)) = true := by simpa using hi
    simp only [of_Gap_s2, hi', cond_true, at_get hi, Option.bind_some, r_Gap_eq]
    rw [wrap_succ (by omega)]

theorem of_Gap_eq {n : Nat} {a b : List GRect} (ha : a.length ≤ 6) (hb : b.length ≤ 6) (hn : 200 ≤ n) : of_Gap n a b = some (gapL a b) := by
  unfold of_Gap gapL
  have z : ∀ l : List GRect, (((l.length : Int)) == 0) = decide (l = []) := fun l => by cases l <;> simp <;> omega
  rw [z a, z b, rg_Right_eq ha hn, rg_Right_eq hb hn]
  have loop : (iter (of_Gap_s1 n a b) n ((1048576 : Int), (0 : Int))) = some (a.foldl (fun m x => b.foldl (fun m y => min m (gapR x y)) m) 1048576) := by
    have := iter_fold (l := a) (step := of_Gap_s1 n a b) (fun i (s : Int) => (s, ((i : Nat) : Int))) (fun x m => b.foldl (fun m y => min m (gapR x y)) m) (fun s => s) (fun i hi s => ?_) (fun s => by simp [of_Gap_s1]) n (by omega) 1048576
    · exact this
    · have hi' : decide (((i : Nat) : Int) < (a.length : Int)) = true := by simpa using hi
      simp only [of_Gap_s1, hi', cond_true, at_get hi, Option.bind_some]
      rw [of_Gap_s2_run (by omega) (by omega), Option.bind_some, wrap_succ (by omega)]
  simp only [Option.bind_some, loop]
  cases decide (a = []) <;> cases decide (b = []) <;> cases rightL a <;> cases rightL b <;> rfl

/-! ### Lots -/
def noLot : GLot := GLot.mk 0 0 [] []
def findLot (land : List GLot) (id : Int) : GLot × Bool := match land.find? fun t => t.id == id with
  | some t => (t, true)
  | none => (noLot, false)

abbrev LotOk (t : GLot) : Prop := t.area.length ≤ 6 ∧ t.from_.length ≤ 10

theorem pc_clone_eq {t : GLot} (h : LotOk t) : pc_clone t = some t := by
  unfold pc_clone
  rw [sl_Clone_Rect_eq (by omega), Option.bind_some, sl_Clone_int_eq (by omega), Option.bind_some]
  simp only [sub_all, eqL_self, cond_true]

theorem findL_find {α : Type} (p : α → Bool) (l : List α) : (∃ (i : Nat) (h : i < l.length), findL p l = some i ∧ l.find? p = some l[i]) ∨ (findL p l = none ∧ l.find? p = none) := by
  rcases findL_spec p l with ⟨i, hi, h1, h2, h3⟩ | ⟨h1, h2⟩
  · refine .inl ⟨i, hi, h1, ?_⟩
    rw [List.find?_eq_some_iff_getElem]
    exact ⟨h2, i, hi, rfl, fun j hj => by simpa using h3 j hj⟩
  · refine .inr ⟨h1, ?_⟩
    rw [List.find?_eq_none]
    intro x hx; rw [h2 x hx]; simp

theorem pc_Find_eq {n : Nat} {land : List GLot} {id : Int} (h : ∀ t ∈ land, LotOk t) (hl : land.length < 1099511627776) (hn : land.length < n) : pc_Find n land id = some (findLot land id) := by
  unfold pc_Find
  have := iter_find (l := land) (step := pc_Find_s1 land id) (fun i => (i : Int)) (fun t => t.id == id) () (fun i => (land.getD i noLot, true)) (fun i hi => ?_) ?_ n hn
  · rw [show ((0 : Nat) : Int) = 0 from rfl] at this
    rw [this]
    unfold findLot
    rcases findL_find (fun t : GLot => t.id == id) land with ⟨i, hi, h1, h2⟩ | ⟨h1, h2⟩
    · rw [h1, h2]; simp [hi]
    · rw [h1, h2]; rfl
  · have hi' : decide (((i : Nat) : Int) < (land.length : Int)) = true := by simpa using hi
    simp only [pc_Find_s1, hi', cond_true, at_get hi, Option.bind_some, pc_clone_eq (h _ (List.getElem_mem hi))]
    cases land[i].id == id with
    | true => simp [hi]
    | false => simp only [cond_false]; rw [wrap_succ (by omega)]
  · simp [pc_Find_s1]

theorem findLot_ok {land : List GLot} (h : ∀ t ∈ land, LotOk t) (id : Int) : LotOk (findLot land id).1 := by
  unfold findLot
  split
  · rename_i t ht
    exact h t (List.mem_of_find?_eq_some ht)
  · simp [LotOk, noLot]

def isNear (t : GLot) (id d : Int) (u : GLot) : Bool := (gapL t.area u.area).2 && (decide ((gapL t.area u.area).1 ≤ d) && (u.id != id))
def nearIds (land : List GLot) (t : GLot) (id d : Int) : List Int := (land.filter fun u => isNear t id d u).map (·.id)
def nearL (land : List GLot) (id d : Int) : List Int :=
  bif (findLot land id).2 then setL (nearIds land (findLot land id).1 id d) else []

theorem pc_Near_s1_run {n : Nat} {land : List GLot} (hl : land.length < 10995116277) (hn : land.length < n) : iter (pc_Near_s1 land) n ((0 : Int), ([] : List (List GRect))) = some (land.map (·.area)) := by
  have := iter_to (step := pc_Near_s1 land) (fun i => (((i : Nat) : Int), (land.take i).map (·.area))) land.length (land.map (·.area)) (fun i hi => ?_) ?_ n hn
  · simpa using this
  · have hi' : decide (((i : Nat) : Int) < (land.length : Int)) = true := by simpa using hi
    have ap : appOk ((land.take i).map (·.area)).length ((land.take i).map (·.area)).length (sub ([land[i].area] : List (List GRect)) 0 1).length 1 24 = true := by
      refine appOk_true (n := 1) ?_ ?_
      · rw [List.length_map, List.length_take]; omega
      · rw [List.length_map, List.length_take]; simp only [maxLen]; omega
    simp only [pc_Near_s1, hi', cond_true, at_get hi, Option.bind_some, ap, letv_eq, eqL_self]
    rw [wrap_succ (by omega), List.take_succ_eq_append_getElem hi, List.map_append]
    rfl
  · simp [pc_Near_s1]

theorem pc_Near_eq {n : Nat} {land : List GLot} {id d : Int} (h : ∀ t ∈ land, LotOk t) (hl : land.length ≤ 8) (hn : 200 ≤ n) : pc_Near n land id d = some (nearL land id d) := by
  unfold pc_Near nearL
  rw [pc_Find_eq h (by omega) (by omega)]
  simp only [Option.bind_some]
  cases hf : (findLot land id).2 with
  | false => rfl
  | true =>
    have ht := findLot_ok h id
    simp only [Bool.not_true, cond_false, List.length_nil, eqL_self, cond_true, pc_Near_s1_run (land := land) (n := n) (by omega) (by omega), Option.bind_some]
    have key : iter (pc_Near_s2 n land id d (findLot land id) (land.map (·.area))) n ((0 : Int), ([] : List Int)) = some (nearIds land (findLot land id).1 id d) := by
      have := iter_foldI (l := land) (step := pc_Near_s2 n land id d (findLot land id) (land.map (·.area))) (fun i (s : List Int) => (((i : Nat) : Int), s)) (fun u s => bif isNear (findLot land id).1 id d u then s ++ [u.id] else s) (fun s => s) (fun i s => s.length ≤ i)
        (fun i hi s hs => ?_) (fun s hs => by simp [pc_Near_s2]) n (by omega) [] (Nat.le_refl _)
      · rw [show ((0 : Nat) : Int) = 0 from rfl] at this
        rw [this]
        have gen : ∀ (ys : List GLot) (s : List Int), ys.foldl (fun s u => bif isNear (findLot land id).1 id d u then s ++ [u.id] else s) s = s ++ nearIds ys (findLot land id).1 id d := by
          intro ys
          induction ys with
          | nil => intro s; simp [nearIds]
          | cons y ys ih =>
            intro s
            simp only [List.foldl_cons, ih, nearIds]
            cases hy : isNear (findLot land id).1 id d y <;> simp [hy]
        rw [gen]; simp
      · have hlm : (land.map (·.area)).length = land.length := by simp
        have hi' : decide (((i : Nat) : Int) < (((land.map (·.area)).length : Nat) : Int)) = true := by rw [hlm]; simpa using hi
        have ib : inb ((i : Nat) : Int) (land.map (·.area)).length = true := inb_get (by omega)
        have g : at? (land.map (·.area)) (((0 : Nat) : Int) + ((i : Nat) : Int)) = some land[i].area := by rw [at_natz]; simp [hi]
        have hu := h _ (List.getElem_mem hi)
        have ap : appOk s.length s.length (sub ([land[i].id] : List Int) 0 1).length 1 8 = true := appOk_true (n := 1) (by omega) (by simp only [maxLen]; omega)
        have gp : of_Gap n (findLot land id).1.area land[i].area = some (gapL (findLot land id).1.area land[i].area) := of_Gap_eq ht.1 hu.1 hn
        simp only [pc_Near_s2, hi', cond_true, ib, g, Option.bind_some, gp, at_get hi]
        have e : ((bif (gapL (findLot land id).1.area land[i].area).2 then (bif (decide ((gapL (findLot land id).1.area land[i].area).1 ≤ d)) then some (land[i].id != id) else some false) else some false) : Option Bool) = some (isNear (findLot land id).1 id d land[i]) := by
          unfold isNear
          cases (gapL (findLot land id).1.area land[i].area).2 <;> cases decide ((gapL (findLot land id).1.area land[i].area).1 ≤ d) <;> rfl
        rw [e]
        simp only [Option.bind_some]
        cases isNear (findLot land id).1 id d land[i] with
        | true =>
          simp only [cond_true, ap, letv_eq, eqL_self, Option.bind_some]
          refine ⟨?_, by simp; omega⟩
          rw [wrap_succ (by omega)]; rfl
        | false =>
          simp only [cond_false, eqL_self, cond_true, Option.bind_some]
          exact ⟨by rw [wrap_succ (by omega)], by omega⟩
    have hlen : (nearIds land (findLot land id).1 id d).length ≤ 8 := by
      unfold nearIds
      rw [List.length_map]
      exact Nat.le_trans (List.length_filter_le _ _) hl
    rw [key]
    simp only [Option.bind_some, eqL_self, cond_true]
    rw [sl_Sort_int_eq (by omega) (by omega)]
    simp only [Option.bind_some, length_isort, eqL_self, cond_true]
    rw [sl_Compact_int_eq (by rw [length_isort]; omega) (by rw [length_isort]; omega)]
    simp only [Option.bind_some, sub_all, eqL_self, cond_true]
    rfl

/-! ### Distances -/
def noticeB : ByteArray := ⟨#[110, 111, 116, 105, 99, 101]⟩
def rowT (t : GTable) (name : ByteArray) : Int := match t.rows.find? fun e => ByteArray.toList e.name == ByteArray.toList name with
  | some e => e.n
  | none => t.else_
def rowL (tables : List GTable) (name : ByteArray) : Int := match tables.find? fun t => ByteArray.toList t.name == ByteArray.toList noticeB with
  | some t => rowT t name
  | none => 0

theorem idxL_cases {α : Type} (p : α → Bool) (l : List α) : (∃ (i : Nat) (h : i < l.length), idxL p l = (i : Int) ∧ l.find? p = some l[i]) ∨ (idxL p l = -1 ∧ l.find? p = none) := by
  rcases findL_find p l with ⟨i, hi, h1, h2⟩ | ⟨h1, h2⟩
  · exact .inl ⟨i, hi, by simp [idxL, h1], h2⟩
  · exact .inr ⟨by simp [idxL, h1], h2⟩

theorem nt_row_eq {n : Nat} {p : GPlan} {name : ByteArray} (h : p.tables.length < n) (hl : p.tables.length < 1099511627776) (hr : ∀ t ∈ p.tables, t.rows.length < n ∧ t.rows.length < 1099511627776) : nt_row n p name = some (rowL p.tables name) := by
  unfold nt_row rowL
  rw [sl_IndexFunc_Table_eq (fun t => ByteArray.toList t.name == ByteArray.toList noticeB) (fun x _ => rfl) hl h]
  simp only [Option.bind_some]
  rcases idxL_cases (fun t : GTable => ByteArray.toList t.name == ByteArray.toList noticeB) p.tables with ⟨i, hi, h1, h2⟩ | ⟨h1, h2⟩
  · rw [h1, h2]
    have d : decide (((i : Nat) : Int) < 0) = false := by simp
    obtain ⟨r1, r2⟩ := hr _ (List.getElem_mem hi)
    simp only [d, cond_false, at_get hi, Option.bind_some]
    rw [sl_IndexFunc_Entry_eq (fun e => ByteArray.toList e.name == ByteArray.toList name) (fun x _ => rfl) r2 r1]
    simp only [Option.bind_some, rowT]
    rcases idxL_cases (fun e : GEntry => ByteArray.toList e.name == ByteArray.toList name) p.tables[i].rows with ⟨j, hj, g1, g2⟩ | ⟨g1, g2⟩
    · rw [g1, g2]
      have d : decide (((j : Nat) : Int) < 0) = false := by simp
      simp only [d, cond_false, at_get hj, Option.bind_some]
    · rw [g1, g2]; rfl
  · rw [h1, h2]; rfl

def useNames : List ByteArray := [⟨#[104, 111, 109, 101]⟩, ⟨#[115, 104, 111, 112]⟩, ⟨#[119, 111, 114, 107]⟩, ⟨#[112, 97, 114, 107]⟩, ⟨#[112, 108, 97, 110, 116]⟩, ⟨#[104, 97, 108, 108]⟩]
def nameOf (use : Int) : Option ByteArray := at? useNames use
def volD (tables : List GTable) (m : Int) (v : GVolume) : Int := match nameOf v.use with
  | some nm => max m (rowL tables nm)
  | none => m
def distP (tables : List GTable) (m : Int) (ph : GPhase) : Int := ph.volumes.foldl (volD tables) m
def distL (tables : List GTable) (d : GDrawing) : Int := d.phases.foldl (distP tables) 0

abbrev TabsOk (ts : List GTable) : Prop := ts.length ≤ 4 ∧ ∀ t ∈ ts, t.rows.length ≤ 10
abbrev DrawOk (d : GDrawing) : Prop := d.phases.length ≤ 5 ∧ ∀ p ∈ d.phases, p.volumes.length ≤ 4

theorem nt_Distance_s2_run {n : Nat} {p : GPlan} (hp : TabsOk p.tables) {ph : GPhase} (hv : ph.volumes.length ≤ 4) (hn : 200 ≤ n) (m : Int) : iter (nt_Distance_s2 n p ph) n (m, (0 : Int)) = some (distP p.tables m ph) := by
  have := iter_fold (l := ph.volumes) (step := nt_Distance_s2 n p ph) (fun i (s : Int) => (s, ((i : Nat) : Int))) (fun v m => volD p.tables m v) (fun s => s) (fun i hi s => ?_) (fun s => by simp [nt_Distance_s2]) n (by omega) m
  · exact this
  · have hi' : decide (((i : Nat) : Int) < (ph.volumes.length : Int)) = true := by simpa using hi
    have rw1 : ∀ nm, nt_row n p nm = some (rowL p.tables nm) := fun nm => nt_row_eq (by omega) (by omega) (fun t ht => by have := hp.2 t ht; omega)
    simp only [nt_Distance_s2, hi', cond_true, at_get hi, Option.bind_some]
    have e : ((bif (decide (ph.volumes[i].use ≥ (0 : Int))) then some (decide (ph.volumes[i].use < (6 : Int))) else some false) : Option Bool) = some (inb ph.volumes[i].use 6) := by
      simp only [bifand, inb]; rfl
    rw [e]
    simp only [Option.bind_some, volD, nameOf]
    cases hb : inb ph.volumes[i].use 6 with
    | true =>
      have hb2 : 0 ≤ ph.volumes[i].use ∧ ph.volumes[i].use < 6 := by simpa [inb] using hb
      obtain ⟨k, hk⟩ : ∃ k : Nat, ph.volumes[i].use = (k : Int) := ⟨ph.volumes[i].use.toNat, by omega⟩
      have hk6 : k < useNames.length := by have : useNames.length = 6 := rfl; omega
      have g : at? useNames ph.volumes[i].use = some useNames[k] := by rw [hk]; exact at_get hk6
      have g' : at? ([⟨#[104, 111, 109, 101]⟩, ⟨#[115, 104, 111, 112]⟩, ⟨#[119, 111, 114, 107]⟩, ⟨#[112, 97, 114, 107]⟩, ⟨#[112, 108, 97, 110, 116]⟩, ⟨#[104, 97, 108, 108]⟩] : List ByteArray) ph.volumes[i].use = some useNames[k] := g
      simp only [cond_true, g', Option.bind_some, rw1, g]
      rw [wrap_succ (by omega)]
    | false =>
      have g : at? useNames ph.volumes[i].use = none := by
        have hb2 : ¬ (0 ≤ ph.volumes[i].use ∧ ph.volumes[i].use < 6) := by intro hc; rw [show inb ph.volumes[i].use 6 = true by simpa [inb] using hc] at hb; cases hb
        by_cases h0 : 0 ≤ ph.volumes[i].use
        · obtain ⟨k, hk⟩ : ∃ k : Nat, ph.volumes[i].use = (k : Int) := ⟨ph.volumes[i].use.toNat, by omega⟩
          rw [hk, at_nat]
          exact List.getElem?_eq_none (by have : useNames.length = 6 := rfl; omega)
        · simp [at?, h0]
      simp only [cond_false, g, Option.bind_some]
      rw [wrap_succ (by omega)]

theorem nt_Distance_eq {n : Nat} {p : GPlan} (hp : TabsOk p.tables) {d : GDrawing} (hd : DrawOk d) (hn : 200 ≤ n) : nt_Distance n p d = some (distL p.tables d) := by
  unfold nt_Distance
  have := iter_fold (l := d.phases) (step := nt_Distance_s1 n p d) (fun i (s : Int) => (s, ((i : Nat) : Int))) (fun ph m => distP p.tables m ph) (fun s => s) (fun i hi s => ?_) (fun s => by simp [nt_Distance_s1]) n (by omega) 0
  · rw [show ((0 : Nat) : Int) = 0 from rfl] at this
    rw [this]; rfl
  · have hi' : decide (((i : Nat) : Int) < (d.phases.length : Int)) = true := by simpa using hi
    simp only [nt_Distance_s1, hi', cond_true, at_get hi, Option.bind_some]
    rw [nt_Distance_s2_run hp (hd.2 _ (List.getElem_mem hi)) hn, Option.bind_some, wrap_succ (by omega)]

theorem nt_Days_eq {n : Nat} {p : GPlan} (hp : TabsOk p.tables) (hn : 200 ≤ n) : nt_Days n p = some (max 0 (rowL p.tables ⟨#[100, 97, 121, 115]⟩)) := by
  unfold nt_Days
  rw [nt_row_eq (by omega) (by omega) (fun t ht => by have := hp.2 t ht; omega)]
  rfl

/-! ### Owners -/
abbrev TownOk (t : GTown) : Prop := t.land.length ≤ 8 ∧ (∀ l ∈ t.land, LotOk l) ∧ TabsOk t.plan_tables
def planOf (a0 : GTown) : GPlan := GPlan.mk a0.plan_defs a0.plan_tables a0.plan_zones a0.plan_rules a0.plan_caps a0.plan_views a0.plan_sun a0.plan_hours
def lotsL (t : GTown) (d : GDrawing) : List Int := nearL t.land d.lot (distL t.plan_tables d)
def ownersOf (t : GTown) (ids : List Int) : List Int := ids.map fun id => (findLot t.land id).1.owner
def ownersL (t : GTown) (d : GDrawing) : List Int := setL (ownersOf t (lotsL t d))

theorem length_setL (l : List Int) : (setL l).length ≤ l.length := by
  unfold setL
  have := length_compactL (isort (fun a b => decide (a < b)) l)
  rwa [length_isort] at this

theorem length_nearL (land : List GLot) (id d : Int) : (nearL land id d).length ≤ land.length := by
  unfold nearL
  cases (findLot land id).2 with
  | true =>
    refine Nat.le_trans (length_setL _) ?_
    unfold nearIds
    rw [List.length_map]
    exact List.length_filter_le _ _
  | false => simp

theorem nt_Lots_eq {n : Nat} {t : GTown} (ht : TownOk t) {d : GDrawing} (hd : DrawOk d) (hn : 200 ≤ n) : nt_Lots n t d = some (lotsL t d) := by
  unfold nt_Lots
  have h1 : nt_Distance n (GPlan.mk t.plan_defs t.plan_tables t.plan_zones t.plan_rules t.plan_caps t.plan_views t.plan_sun t.plan_hours) d = some (distL t.plan_tables d) := nt_Distance_eq (p := planOf t) ht.2.2 hd hn
  rw [h1, Option.bind_some, pc_Near_eq ht.2.1 ht.1 hn]
  simp only [Option.bind_some, sub_all, eqL_self, cond_true]
  rfl

theorem nt_Owners_eq {n : Nat} {t : GTown} (ht : TownOk t) {d : GDrawing} (hd : DrawOk d) (hn : 200 ≤ n) : nt_Owners n t d = some (ownersL t d) := by
  unfold nt_Owners
  rw [nt_Lots_eq ht hd hn]
  have hlen : (lotsL t d).length ≤ 8 := Nat.le_trans (length_nearL _ _ _) ht.1
  have key : iter (nt_Owners_s1 n t (lotsL t d)) n ((0 : Int), ([] : List Int)) = some (ownersOf t (lotsL t d)) := by
    have := iter_to (step := nt_Owners_s1 n t (lotsL t d)) (fun i => (((i : Nat) : Int), ownersOf t ((lotsL t d).take i))) (lotsL t d).length (ownersOf t (lotsL t d)) (fun i hi => ?_) ?_ n (by omega)
    · simpa [ownersOf] using this
    · have hi' : decide (((i : Nat) : Int) < (((lotsL t d).length : Nat) : Int)) = true := by simpa using hi
      have ap : appOk (ownersOf t ((lotsL t d).take i)).length (ownersOf t ((lotsL t d).take i)).length (sub ([(findLot t.land (lotsL t d)[i]).1.owner] : List Int) 0 1).length 1 8 = true := by
        refine appOk_true (n := 1) ?_ ?_
        · unfold ownersOf; rw [List.length_map, List.length_take]; omega
        · unfold ownersOf; rw [List.length_map, List.length_take]; simp only [maxLen]; omega
      simp only [nt_Owners_s1, hi', cond_true, inb_get hi, at_getz hi, Option.bind_some]
      rw [pc_Find_eq ht.2.1 (by have := ht.1; omega) (by have := ht.1; omega)]
      simp only [Option.bind_some, ap, cond_true, letv_eq, eqL_self]
      rw [wrap_succ (by omega), List.take_succ_eq_append_getElem hi]
      simp only [ownersOf, List.map_append]
      rfl
    · simp [nt_Owners_s1, ownersOf]
  simp only [Option.bind_some, List.length_nil, eqL_self, cond_true, key]
  have hol : (ownersOf t (lotsL t d)).length ≤ 8 := by unfold ownersOf; rw [List.length_map]; exact hlen
  rw [sl_Sort_int_eq (by omega) (by omega)]
  simp only [Option.bind_some, length_isort, eqL_self, cond_true]
  rw [sl_Compact_int_eq (by rw [length_isort]; omega) (by rw [length_isort]; omega)]
  simp only [Option.bind_some, sub_all, eqL_self, cond_true]
  rfl

theorem length_ownersL {t : GTown} (ht : TownOk t) (d : GDrawing) : (ownersL t d).length ≤ 8 := by
  refine Nat.le_trans (length_setL _) ?_
  unfold ownersOf
  rw [List.length_map]
  exact Nat.le_trans (length_nearL _ _ _) ht.1

def addedL (t : GTown) (d x : GDrawing) : List Int := (ownersL t x).filter fun o => !((ownersL t d).any fun y => o == y)

theorem nt_Added_eq {n : Nat} {t : GTown} (ht : TownOk t) {d x : GDrawing} (hd : DrawOk d) (hx : DrawOk x) (hn : 200 ≤ n) : nt_Added n t d x = some (addedL t d x) := by
  unfold nt_Added
  have l1 := length_ownersL ht d
  have l2 := length_ownersL ht x
  rw [nt_Owners_eq ht hd hn, nt_Owners_eq ht hx hn]
  simp only [Option.bind_some, sub_all, eqL_self, cond_true]
  rw [sl_DeleteFunc_int_eq (fun o => (ownersL t d).any fun y => o == y) (fun o _ => by
    show nt_Added_f1 n o (ownersL t d) = _
    unfold nt_Added_f1
    rw [sl_Contains_int_eq (by omega) (by omega)]; rfl) (by omega) (by omega)]
  simp only [Option.bind_some, sub_all, eqL_self, cond_true]
  rfl

def mayL (t : GTown) (d : GDrawing) (party : Int) : Bool := ((ownersL t d).any fun y => party == y) && ((findLot t.land d.lot).2 && ((findLot t.land d.lot).1.owner != party))

theorem nt_May_eq {n : Nat} {t : GTown} (ht : TownOk t) {d : GDrawing} (hd : DrawOk d) {party : Int} (hn : 200 ≤ n) : nt_May n t d party = some (mayL t d party) := by
  unfold nt_May mayL
  have l1 := length_ownersL ht d
  rw [pc_Find_eq ht.2.1 (by have := ht.1; omega) (by have := ht.1; omega), nt_Owners_eq ht hd hn]
  simp only [Option.bind_some, sub_all, eqL_self, cond_true]
  rw [sl_Contains_int_eq (by omega) (by omega)]
  simp only [Option.bind_some, bifand]

/-! ### The law's own functions -/
theorem q35_Has_eq {n : Nat} {l : List Int} {a : Int} (hl : l.length < 1099511627776) (hn : l.length < n) : q35_Has n l a = some (l.any fun x => x == a) := by
  unfold q35_Has
  have := iter_find (l := l) (step := q35_Has_s1 l a) (fun i => (i : Int)) (fun x => x == a) () (fun _ => true) (fun i hi => ?_) ?_ n hn
  · rw [show ((0 : Nat) : Int) = 0 from rfl] at this
    rw [this, ← findL_isSome]
    cases findL (fun x => x == a) l <;> rfl
  · have hi' : decide (((i : Nat) : Int) < (l.length : Int)) = true := by simpa using hi
    simp only [q35_Has_s1, hi', cond_true, at_get hi, Option.bind_some]
    cases l[i] == a with
    | true => rfl
    | false => simp only [cond_false]; rw [wrap_succ (by omega)]
  · simp [q35_Has_s1]

theorem l35_few_eq {n : Nat} (t : GTown) (d : GDrawing) (hn : 200 ≤ n) : ∃ b, l35_few n t d = some b ∧ (b = true → TownOk t ∧ d.phases.length ≤ 4 ∧ DrawOk d) := by
  have tk : ∀ {α : Type} (l : List α) (k i : Nat) (hi : i < (l.take k).length), (l.take k)[i] = l[i]'(by rw [List.length_take] at hi; omega) := fun l k i hi => List.getElem_take
  unfold l35_few
  have h1 := iter_find (l := t.land.take 9) (step := l35_few_s1 t) (fun i => (i : Int)) (fun x => decide (x.area.length > 6) || decide (x.from_.length > 10)) () (fun _ => false) (fun i hi => ?_) ?_ n (by rw [List.length_take]; omega)
  · have h2 := iter_find (l := t.plan_tables.take 5) (step := l35_few_s2 t) (fun i => (i : Int)) (fun x => decide (x.rows.length > 10)) () (fun _ => false) (fun i hi => ?_) ?_ n (by rw [List.length_take]; omega)
    · have h3 := iter_find (l := d.phases.take 5) (step := l35_few_s3 d) (fun i => (i : Int)) (fun x => decide (x.volumes.length > 4)) () (fun _ => false) (fun i hi => ?_) ?_ n (by rw [List.length_take]; omega)
      · rw [show ((0 : Nat) : Int) = 0 from rfl] at h1 h2 h3
        rw [h1, h2, h3]
        rcases findL_spec (fun x : GLot => decide (x.area.length > 6) || decide (x.from_.length > 10)) (t.land.take 9) with ⟨i, _, e, _⟩ | ⟨e1, f1⟩
        · rw [e]; exact ⟨false, rfl, fun h => by cases h⟩
        rcases findL_spec (fun x : GTable => decide (x.rows.length > 10)) (t.plan_tables.take 5) with ⟨i, _, e, _⟩ | ⟨e2, f2⟩
        · rw [e1, e]; exact ⟨false, rfl, fun h => by cases h⟩
        rcases findL_spec (fun x : GPhase => decide (x.volumes.length > 4)) (d.phases.take 5) with ⟨i, _, e, _⟩ | ⟨e3, f3⟩
        · rw [e1, e2, e]; exact ⟨false, rfl, fun h => by cases h⟩
        rw [e1, e2, e3]
        simp only [thenB_inl, bifand]
        refine ⟨_, rfl, fun h => ?_⟩
        simp only [Bool.and_eq_true, decide_eq_true_eq] at h
        obtain ⟨a1, a2, a3⟩ := h
        rw [List.take_of_length_le (by omega)] at f1 f2 f3
        refine ⟨⟨by omega, fun l hl => ?_, by omega, fun x hx => ?_⟩, by omega, by omega, fun x hx => ?_⟩
        · have := f1 l hl; simp at this; exact this
        · have := f2 x hx; simpa using this
        · have := f3 x hx; simpa using this
      · have hi2 : i < d.phases.length ∧ i < 5 := by rw [List.length_take] at hi; omega
        have c1 : decide (((i : Nat) : Int) < (d.phases.length : Int)) = true := by simpa using hi2.1
        have c2 : decide (((i : Nat) : Int) < (5 : Int)) = true := by simp; omega
        rw [tk]
        simp only [l35_few_s3, c1, c2, cond_true, Option.bind_some, at_get hi2.1]
        have e : decide ((d.phases[i].volumes.length : Int) > 4) = decide (d.phases[i].volumes.length > 4) := by simp; omega
        rw [e]
        cases decide (d.phases[i].volumes.length > 4) with
        | true => rfl
        | false => simp only [cond_false]; rw [wrap_succ (by omega)]
      · have : (decide ((((d.phases.take 5).length : Nat) : Int) < (d.phases.length : Int)) && decide ((((d.phases.take 5).length : Nat) : Int) < (5 : Int))) = false := by
          rw [List.length_take]; simp; omega
        simp only [l35_few_s3, bifand, this, Option.bind_some, cond_false]
    · have hi2 : i < t.plan_tables.length ∧ i < 5 := by rw [List.length_take] at hi; omega
      have c1 : decide (((i : Nat) : Int) < (t.plan_tables.length : Int)) = true := by simpa using hi2.1
      have c2 : decide (((i : Nat) : Int) < (5 : Int)) = true := by simp; omega
      rw [tk]
      simp only [l35_few_s2, c1, c2, cond_true, Option.bind_some, at_get hi2.1]
      have e : decide ((t.plan_tables[i].rows.length : Int) > 10) = decide (t.plan_tables[i].rows.length > 10) := by simp; omega
      rw [e]
      cases decide (t.plan_tables[i].rows.length > 10) with
      | true => rfl
      | false => simp only [cond_false]; rw [wrap_succ (by omega)]
    · have : (decide ((((t.plan_tables.take 5).length : Nat) : Int) < (t.plan_tables.length : Int)) && decide ((((t.plan_tables.take 5).length : Nat) : Int) < (5 : Int))) = false := by
        rw [List.length_take]; simp; omega
      simp only [l35_few_s2, bifand, this, Option.bind_some, cond_false]
  · have hi2 : i < t.land.length ∧ i < 9 := by rw [List.length_take] at hi; omega
    have c1 : decide (((i : Nat) : Int) < (t.land.length : Int)) = true := by simpa using hi2.1
    have c2 : decide (((i : Nat) : Int) < (9 : Int)) = true := by simp; omega
    rw [tk]
    simp only [l35_few_s1, c1, c2, cond_true, Option.bind_some, at_get hi2.1, biford]
    have e : (decide ((t.land[i].area.length : Int) > 6) || decide ((t.land[i].from_.length : Int) > 10)) = (decide (t.land[i].area.length > 6) || decide (t.land[i].from_.length > 10)) := by congr 1 <;> (rw [decide_eq_decide]; omega)
    rw [e]
    cases (decide (t.land[i].area.length > 6) || decide (t.land[i].from_.length > 10)) with
    | true => rfl
    | false => simp only [cond_false]; rw [wrap_succ (by omega)]
  · have : (decide ((((t.land.take 9).length : Nat) : Int) < (t.land.length : Int)) && decide ((((t.land.take 9).length : Nat) : Int) < (9 : Int))) = false := by
      rw [List.length_take]; simp; omega
    simp only [l35_few_s1, bifand, this, Option.bind_some, cond_false]
end Go.Proofs

namespace Go.Proofs
open Go.Gb Go.RowKit

def boxG (a b : Int) : List GRect := [GRect.mk a 0 b 4]
def sampleG : GTown := GTown.mk [] [GTable.mk noticeB [GEntry.mk ⟨#[104, 111, 109, 101]⟩ 2, GEntry.mk ⟨#[112, 108, 97, 110, 116]⟩ 9, GEntry.mk ⟨#[100, 97, 121, 115]⟩ 14] 1] [] [] [] [] [] 0 [GLot.mk 1 7 (boxG 0 4) [], GLot.mk 2 7 (boxG 5 8) [], GLot.mk 3 5 (boxG 12 14) []] [] [] [] []
def ofG (lot a b : Int) : GDrawing := GDrawing.mk lot [GPhase.mk [GVolume.mk 0 0 0 0 0 0 a 0 false] [], GPhase.mk [GVolume.mk 0 0 0 0 0 0 b 0 false] []]

theorem sample_eq : l35_sample = some sampleG := by kernel_rfl
theorem of_eq (lot a b : Int) : l35_of lot a b = some (ofG lot a b) := by kernel_rfl

theorem sampleOk : TownOk sampleG := by
  refine ⟨by decide, ?_, by decide, ?_⟩
  · intro l hl
    simp only [sampleG, List.mem_cons, List.not_mem_nil, or_false] at hl
    rcases hl with rfl | rfl | rfl <;> exact ⟨by decide, by decide⟩
  · intro t ht
    simp only [sampleG, List.mem_singleton] at ht
    subst ht
    decide

theorem ofOk (lot a b : Int) : DrawOk (ofG lot a b) := by
  refine ⟨by simp [ofG], fun p hp => ?_⟩
  simp only [ofG, List.mem_cons, List.not_mem_nil, or_false] at hp
  rcases hp with rfl | rfl <;> simp

theorem small_eq {n : Nat} (hn : 200 ≤ n) : l35_small n = some true := by
  have k := sampleOk
  have d1 : ∀ lot a b, nt_Distance n (GPlan.mk sampleG.plan_defs sampleG.plan_tables sampleG.plan_zones sampleG.plan_rules sampleG.plan_caps sampleG.plan_views sampleG.plan_sun sampleG.plan_hours) (ofG lot a b) = some (distL sampleG.plan_tables (ofG lot a b)) := fun lot a b => nt_Distance_eq (p := planOf sampleG) k.2.2 (ofOk lot a b) hn
  have d2 : nt_Days n (GPlan.mk sampleG.plan_defs sampleG.plan_tables sampleG.plan_zones sampleG.plan_rules sampleG.plan_caps sampleG.plan_views sampleG.plan_sun sampleG.plan_hours) = some (max 0 (rowL sampleG.plan_tables ⟨#[100, 97, 121, 115]⟩)) := nt_Days_eq (p := planOf sampleG) k.2.2 hn
  have o1 : ∀ lot a b, nt_Owners n sampleG (ofG lot a b) = some (ownersL sampleG (ofG lot a b)) := fun lot a b => nt_Owners_eq k (ofOk lot a b) hn
  have l1 : ∀ lot a b, nt_Lots n sampleG (ofG lot a b) = some (lotsL sampleG (ofG lot a b)) := fun lot a b => nt_Lots_eq k (ofOk lot a b) hn
  have a1 : nt_Added n sampleG (ofG 1 0 0) (ofG 1 0 4) = some (addedL sampleG (ofG 1 0 0) (ofG 1 0 4)) := nt_Added_eq k (ofOk _ _ _) (ofOk _ _ _) hn
  have m1 : ∀ lot a b party, nt_May n sampleG (ofG lot a b) party = some (mayL sampleG (ofG lot a b) party) := fun lot a b party => nt_May_eq k (ofOk lot a b) hn
  have e1 : distL sampleG.plan_tables (ofG 1 0 0) = 2 := by kernel_rfl
  have e2 : distL sampleG.plan_tables (ofG 1 0 4) = 9 := by kernel_rfl
  have e3 : distL sampleG.plan_tables (ofG 1 1 1) = 1 := by kernel_rfl
  have e4 : max 0 (rowL sampleG.plan_tables ⟨#[100, 97, 121, 115]⟩) = 14 := by kernel_rfl
  have e5 : ownersL sampleG (ofG 1 0 0) = [7] := by kernel_rfl
  have e6 : ownersL sampleG (ofG 1 0 4) = [5, 7] := by kernel_rfl
  have e7 : lotsL sampleG (ofG 1 0 4) = [2, 3] := by kernel_rfl
  have e8 : addedL sampleG (ofG 1 0 0) (ofG 1 0 4) = [5] := by kernel_rfl
  have e9 : mayL sampleG (ofG 1 0 4) 5 = true := by kernel_rfl
  have e10 : mayL sampleG (ofG 1 0 4) 7 = false := by kernel_rfl
  have e11 : mayL sampleG (ofG 1 0 0) 5 = false := by kernel_rfl
  have i1 : q35_Ints n [7] [7] = some true := by rw [q35_Ints_eq (by simp) (by simp; omega)]; rfl
  have i2 : q35_Ints n [5, 7] [5, 7] = some true := by rw [q35_Ints_eq (by simp) (by simp; omega)]; rfl
  have i3 : q35_Ints n [2, 3] [2, 3] = some true := by rw [q35_Ints_eq (by simp) (by simp; omega)]; rfl
  have i4 : q35_Ints n [5] [5] = some true := by rw [q35_Ints_eq (by simp) (by simp; omega)]; rfl
  have s1 : (sub ([7] : List Int) 0 1) = [7] := rfl
  have s2 : (sub ([5, 7] : List Int) 0 2) = [5, 7] := rfl
  have s3 : (sub ([2, 3] : List Int) 0 2) = [2, 3] := rfl
  have s4 : (sub ([5] : List Int) 0 1) = [5] := rfl
  have q1 : ∀ a : Int, eqL [a].length 1 = true := fun _ => rfl
  have q2 : ∀ a b : Int, eqL [a, b].length 2 = true := fun _ _ => rfl
  unfold l35_small
  simp only [sample_eq, of_eq, Option.bind_some, d1, e1, e2, e3, d2, e4, beq_self_eq_true, cond_true, o1, e5, e6, sub_all, eqL_self, s1, s2, s3, s4, q1, q2, i1, i2, i3, i4, l1, e7, a1, e8, m1, e9, e10, e11, Bool.not_false]

theorem volD_ge (ts : List GTable) (m : Int) (v : GVolume) : m ≤ volD ts m v := by
  unfold volD
  split
  · exact Int.le_max_left _ _
  · exact Int.le_refl _

theorem distP_ge (ts : List GTable) (ph : GPhase) (m : Int) : m ≤ distP ts m ph := by
  unfold distP
  generalize ph.volumes = l
  induction l generalizing m with
  | nil => exact Int.le_refl _
  | cons v l ih => exact Int.le_trans (volD_ge ts m v) (ih _)

theorem nearL_mono {land : List GLot} {id a b : Int} (h : a ≤ b) : ∀ z ∈ nearL land id a, z ∈ nearL land id b := by
  intro z
  unfold nearL
  cases (findLot land id).2 with
  | false => exact fun h => h
  | true =>
    simp only [cond_true, setL_mem, nearIds, List.mem_map, List.mem_filter]
    rintro ⟨u, ⟨h1, h2⟩, h3⟩
    refine ⟨u, ⟨h1, ?_⟩, h3⟩
    simp only [isNear, Bool.and_eq_true, decide_eq_true_eq] at h2 ⊢
    exact ⟨h2.1, by omega, h2.2.2⟩

theorem ownersL_mem (t : GTown) (d : GDrawing) (z : Int) : z ∈ ownersL t d ↔ ∃ id ∈ lotsL t d, (findLot t.land id).1.owner = z := by
  simp only [ownersL, setL_mem, ownersOf, List.mem_map]

theorem any_mem (l : List Int) (a : Int) : (l.any fun x => x == a) = decide (a ∈ l) := by
  rw [Bool.eq_iff_iff]
  simp
end Go.Proofs

namespace Go.Proofs
open Go.Gb Go.RowKit

def gxR (a b : GRect) : Int := IntKind.i64.wrap ((max a.x0 b.x0) - (min a.x1 b.x1))
def gyR (a b : GRect) : Int := IntKind.i64.wrap ((max a.y0 b.y0) - (min a.y1 b.y1))
def touchR (a b : GRect) : Bool := (OkR a && OkR b) && ((gxR a b == 0 && decide (gyR a b < 0)) || (gyR a b == 0 && decide (gxR a b < 0)))

theorem r_Touch_eq (a b : GRect) : r_Touch a b = some (touchR a b) := by
  unfold r_Touch r_gaps touchR
  rw [r_Right_eq, r_Right_eq]
  simp only [Option.bind_some]
  cases OkR a <;> cases OkR b <;> simp only [Bool.not_true, Bool.not_false, cond_true, cond_false, Option.bind_some, Bool.and_self, Bool.false_and, Bool.and_false, Bool.true_and]
  show (bif gxR a b == 0 then (bif decide (gyR a b < 0) then some true else (bif gyR a b == 0 then some (decide (gxR a b < 0)) else some false)) else (bif gyR a b == 0 then some (decide (gxR a b < 0)) else some false)) = _
  cases gxR a b == 0 <;> cases decide (gyR a b < 0) <;> cases gyR a b == 0 <;> simp

theorem Parts_f1_eq {part : List GRect} {i : Nat} (hi : i < part.length) (hl : part.length < 1099511627) (x : GRect) :
    rg_Parts_f1_v1 x (i : Int) part = some (touchR part[i] x, (i : Int), bif touchR part[i] x then part ++ [x] else part) := by
  unfold rg_Parts_f1_v1
  have ap : appOk part.length part.length (sub ([x] : List GRect) 0 1).length 1 32 = true := appOk_true (n := 1) (by omega) (by simp only [maxLen]; omega)
  rw [inb_get hi, at_getz hi]
  simp only [cond_true, Option.bind_some, r_Touch_eq, ap, letv_eq, eqL_self]
  cases touchR part[i] x <;> rfl

theorem getElem_app {α : Type} {l m : List α} {i : Nat} (h : i < l.length) : (l ++ m)[i]'(by rw [List.length_append]; omega) = l[i] := List.getElem_append_left h

/-- The first one that touches. -/
theorem IndexFunc_v1_eq {n : Nat} {l part : List GRect} {i : Nat} (hi : i < part.length) (hp : part.length < 1099511627) (hl : l.length < 1099511627) (hn : l.length < n) :
    sl_IndexFunc_Rect_v1 n l (i : Int) part = some (match findL (fun x => touchR part[i] x) l with
      | some k => ((k : Int), (i : Int), part ++ [l.getD k (GRect.mk 0 0 0 0)])
      | none => (-1, (i : Int), part)) := by
  unfold sl_IndexFunc_Rect_v1
  have := iter_find (l := l) (step := sl_IndexFunc_Rect_v1_s1 l) (fun k => (((k : Nat) : Int), (i : Int), part)) (fun x => touchR part[i] x) ((i : Int), part) (fun k => ((k : Int), (i : Int), part ++ [l.getD k (GRect.mk 0 0 0 0)])) (fun k hk => ?_) ?_ n hn
  · rw [show ((0 : Nat) : Int) = 0 from rfl] at this
    rw [this, eqL_self]
    cases findL (fun x => touchR part[i] x) l with
    | none => simp
    | some k => simp
  · have hk' : decide (((k : Nat) : Int) < (l.length : Int)) = true := by simpa using hk
    simp only [sl_IndexFunc_Rect_v1_s1, hk', cond_true, at_get hk, Option.bind_some, eqL_self, Parts_f1_eq hi hp]
    cases touchR part[i] l[k] with
    | true => simp [hk]
    | false => simp only [cond_false]; rw [wrap_succ (by omega)]
  · simp [sl_IndexFunc_Rect_v1_s1]

/-- The state of DeleteFunc's loop behind j elements. -/
structure DelI (full : List GRect) (off : Nat) (p : GRect) (part : List GRect) (j w : Nat) (arr prt : List GRect) : Prop where
  len : arr.length = full.length
  pre : arr.take (off + w) = full.take off ++ ((full.drop off).take j).filter fun x => !touchR p x
  post : arr.drop (off + j) = full.drop (off + j)
  wl : w = (((full.drop off).take j).filter fun x => !touchR p x).length
  prt : prt = part ++ ((full.drop off).take j).filter fun x => touchR p x

theorem DelI.wle {full : List GRect} {off : Nat} {p : GRect} {part : List GRect} {j w : Nat} {arr prt : List GRect} (h : DelI full off p part j w arr prt) : w ≤ j := by
  rw [h.wl]
  exact Nat.le_trans (List.length_filter_le _ _) (by rw [List.length_take]; omega)

theorem DelI.step {full : List GRect} {off : Nat} {p : GRect} {part : List GRect} {j w : Nat} {arr prt : List GRect} (h : DelI full off p part j w arr prt) (hj : off + j < full.length) :
    (touchR p full[off + j] = true → DelI full off p part (j + 1) w arr (prt ++ [full[off + j]])) ∧ (touchR p full[off + j] = false → DelI full off p part (j + 1) (w + 1) (arr.set (off + w) full[off + j]) prt) := by
  have hw := h.wle
  have ht : (full.drop off).take (j + 1) = (full.drop off).take j ++ [full[off + j]] := by
    rw [List.take_succ_eq_append_getElem (by rw [List.length_drop]; omega), List.getElem_drop]
  have hpost : ∀ arr' : List GRect, arr'.drop (off + j) = full.drop (off + j) → arr'.drop (off + (j + 1)) = full.drop (off + (j + 1)) := fun arr' hh => by
    have := congrArg (List.drop 1) hh
    rw [List.drop_drop, List.drop_drop] at this
    exact this
  constructor
  · intro hx
    refine ⟨h.len, ?_, hpost _ h.post, ?_, ?_⟩
    · rw [ht, List.filter_append]; simp [hx, h.pre]
    · rw [ht, List.filter_append]; simp [hx, ← h.wl]
    · rw [ht, List.filter_append]; simp [hx, h.prt]
  · intro hx
    have hlt : off + w < arr.length := by rw [h.len]; omega
    refine ⟨by rw [List.length_set]; exact h.len, ?_, ?_, ?_, ?_⟩
    · rw [ht, List.filter_append, show off + (w + 1) = (off + w) + 1 by omega, List.take_succ_eq_append_getElem (by rw [List.length_set]; exact hlt), List.take_set_of_le (Nat.le_refl _), h.pre]
      simp [hx]
    · refine hpost _ ?_
      rcases Nat.lt_or_ge w j with hwj | hwj
      · rw [List.drop_set_of_lt (by omega)]; exact h.post
      · have : w = j := by omega
        subst this
        rw [List.drop_set, if_neg (by omega), h.post]
        simp only [Nat.sub_self]
        rw [List.drop_eq_getElem_cons hj]; rfl
    · rw [ht, List.filter_append]; simp [hx, ← h.wl]
    · rw [ht, List.filter_append]; simp [hx, h.prt]

theorem findL_first {α : Type} {p : α → Bool} : ∀ {l : List α} {k : Nat}, findL p l = some k → ∃ h : k < l.length, p l[k] = true ∧ (l.take k).filter p = [] ∧ (l.take k).filter (fun x => !p x) = l.take k := by
  intro l k h
  rcases findL_spec p l with ⟨i, hi, h1, h2, h3⟩ | ⟨h1, _⟩
  · rw [h] at h1
    injection h1 with h1
    subst h1
    have hall : ∀ x ∈ l.take k, p x = false := by
      intro x hx
      obtain ⟨j, hj, rfl⟩ := List.mem_iff_getElem.1 hx
      rw [List.getElem_take]
      exact h3 j (by rw [List.length_take] at hj; omega)
    exact ⟨hi, h2, List.filter_eq_nil_iff.2 fun x hx => by simp [hall x hx], List.filter_eq_self.2 fun x hx => by simp [hall x hx]⟩
  · rw [h] at h1; cases h1

theorem DeleteFunc_v1_eq {n : Nat} {full part : List GRect} {off i : Nat} (ho : off ≤ full.length) (hi : i < part.length) (hp : part.length + full.length < 109951162) (hn : full.length < n) :
    sl_DeleteFunc_Rect_v1 n (off : Int) full (i : Int) part = some ((off : Int), full.take off ++ (full.drop off).filter (fun x => !touchR part[i] x), (i : Int), part ++ (full.drop off).filter fun x => touchR part[i] x) := by
  unfold sl_DeleteFunc_Rect_v1
  have e1 : sub full off (full.length - off) = full.drop off := by simp [sub, List.take_of_length_le]
  simp only [Int.toNat_natCast, e1, List.length_drop, eqL_self, cond_true]
  rw [IndexFunc_v1_eq hi (by omega) (by rw [List.length_drop]; omega) (by rw [List.length_drop]; omega), Option.bind_some]
  cases hf : findL (fun x => touchR part[i] x) (full.drop off) with
  | none =>
    have hno : ∀ x ∈ full.drop off, touchR part[i] x = false := by
      rcases findL_spec (fun x => touchR part[i] x) (full.drop off) with ⟨k, hk, h1, _⟩ | ⟨_, h2⟩
      · rw [hf] at h1; cases h1
      · exact h2
    have f1 : (full.drop off).filter (fun x => !touchR part[i] x) = full.drop off := List.filter_eq_self.2 fun x hx => by simp [hno x hx]
    have f2 : (full.drop off).filter (fun x => touchR part[i] x) = [] := List.filter_eq_nil_iff.2 fun x hx => by simp [hno x hx]
    have e2 : off + (full.length - off) = full.length := by omega
    simp only [beq_self_eq_true, cond_true, e2, eqL_self, f1, f2, List.append_nil, List.take_append_drop]
  | some k =>
    obtain ⟨hk, h2, h3, h4⟩ := findL_first hf
    rw [List.length_drop] at hk
    rw [List.getElem_drop] at h2
    have hkf : off + k < full.length := by omega
    have e3 : (full.drop off).getD k (GRect.mk 0 0 0 0) = full[off + k] := by
      rw [List.getD_eq_getElem?_getD, List.getElem?_drop, List.getElem?_eq_getElem hkf]; rfl
    have e4 : (((k : Nat) : Int) == -1) = false := by
      rw [beq_eq_false_iff_ne]; omega
    simp only [e4, cond_false, eqL_self, cond_true, e3]
    rw [wrap_succ (by omega)]
    have start : DelI full off part[i] part (k + 1) k full (part ++ [full[off + k]]) := by
      refine ⟨rfl, ?_, rfl, ?_, ?_⟩
      · have ht : (full.drop off).take (k + 1) = (full.drop off).take k ++ [full[off + k]] := by
          rw [List.take_succ_eq_append_getElem (by rw [List.length_drop]; omega), List.getElem_drop]
        rw [ht, List.filter_append, h4]
        simp only [h2, Bool.not_true, List.filter_cons, Bool.false_eq_true, if_false, List.filter_nil, List.append_nil]
        rw [List.take_add]
      · have ht : (full.drop off).take (k + 1) = (full.drop off).take k ++ [full[off + k]] := by
          rw [List.take_succ_eq_append_getElem (by rw [List.length_drop]; omega), List.getElem_drop]
        rw [ht, List.filter_append, h4]
        simp [h2]; omega
      · have ht : (full.drop off).take (k + 1) = (full.drop off).take k ++ [full[off + k]] := by
          rw [List.take_succ_eq_append_getElem (by rw [List.length_drop]; omega), List.getElem_drop]
        rw [ht, List.filter_append, h3]
        simp [h2]
    have loop : ∀ (m j w : Nat) (arr prt : List GRect) (n : Nat), j + m = full.length - off → m < n → DelI full off part[i] part j w arr prt →
        ∃ (w' : Nat) (arr' prt' : List GRect), iter (sl_DeleteFunc_Rect_v1_s1 (off : Int) full) n ((w : Int), (j : Int), arr, (i : Int), prt) = some ((w' : Int), arr', (i : Int), prt') ∧ DelI full off part[i] part (full.length - off) w' arr' prt' := by
      intro m
      induction m with
      | zero =>
        intro j w arr prt n hm hn hd
        obtain ⟨n, rfl⟩ : ∃ q, n = q + 1 := ⟨n - 1, by omega⟩
        have hj : j = full.length - off := by omega
        subst hj
        refine ⟨w, arr, prt, iter_inr ?_, hd⟩
        simp [sl_DeleteFunc_Rect_v1_s1]
      | succ m ih =>
        intro j w arr prt n hm hn hd
        obtain ⟨n, rfl⟩ : ∃ q, n = q + 1 := ⟨n - 1, by omega⟩
        have hjf : off + j < full.length := by omega
        have hwj := hd.wle
        have hpl : prt.length ≤ part.length + full.length := by
          rw [hd.prt, List.length_append]
          have := List.length_filter_le (fun x => touchR part[i] x) ((full.drop off).take j)
          rw [List.length_take, List.length_drop] at this
          omega
        have hip : i < prt.length := by rw [hd.prt, List.length_append]; omega
        have hpi : prt[i] = part[i] := by
          have : prt[i]? = part[i]? := by rw [hd.prt, List.getElem?_append_left hi]
          rw [List.getElem?_eq_getElem hip, List.getElem?_eq_getElem hi] at this
          exact Option.some.inj this
        have harr : arr[off + j]'(by rw [hd.len]; exact hjf) = full[off + j] := by
          have := congrArg (fun l => l[0]?) hd.post
          simp only [List.getElem?_drop, Nat.add_zero] at this
          rw [List.getElem?_eq_getElem hjf, List.getElem?_eq_getElem (by rw [hd.len]; exact hjf)] at this
          exact Option.some.inj this
        have c1 : decide ((j : Int) < (((full.length - off : Nat) : Int) : Int)) = true := by simp; omega
        have at1 : at? arr (((off : Nat) : Int) + (j : Int)) = some full[off + j] := by
          rw [show ((off : Int) + (j : Int)) = ((off + j : Nat) : Int) by omega, at_nat, List.getElem?_eq_getElem (by rw [hd.len]; exact hjf), harr]
        have at2 : ∃ z, at? arr (((off : Nat) : Int) + (w : Int)) = some z := by
          rw [show ((off : Int) + (w : Int)) = ((off + w : Nat) : Int) by omega, at_nat]
          exact ⟨_, List.getElem?_eq_getElem (by rw [hd.len]; omega)⟩
        obtain ⟨z, at2⟩ := at2
        obtain ⟨d1, d2⟩ := hd.step hjf
        cases hx : touchR part[i] full[off + j] with
        | true =>
          have hs : sl_DeleteFunc_Rect_v1_s1 (off : Int) full ((w : Int), (j : Int), arr, (i : Int), prt) = some (.inl ((w : Int), ((j + 1 : Nat) : Int), arr, (i : Int), prt ++ [full[off + j]])) := by
            simp only [sl_DeleteFunc_Rect_v1_s1, Int.toNat_natCast, c1, cond_true, inb_nat, show decide (j < full.length - off) = true by simp; omega, at1, Option.bind_some, eqL_self, Parts_f1_eq hip (by omega), hpi, hx, Bool.not_true, cond_false]
            rw [wrap_succ (by omega)]
          rw [iter_inl hs]
          exact ih (j + 1) w arr _ n (by omega) (by omega) (d1 hx)
        | false =>
          have hs : sl_DeleteFunc_Rect_v1_s1 (off : Int) full ((w : Int), (j : Int), arr, (i : Int), prt) = some (.inl (((w + 1 : Nat) : Int), ((j + 1 : Nat) : Int), arr.set (off + w) full[off + j], (i : Int), prt)) := by
            simp only [sl_DeleteFunc_Rect_v1_s1, Int.toNat_natCast, c1, cond_true, inb_nat, show decide (j < full.length - off) = true by simp; omega, at1, Option.bind_some, eqL_self, Parts_f1_eq hip (by omega), hpi, hx, Bool.not_false, cond_false, show decide (w < full.length - off) = true by simp; omega, at2]
            rw [wrap_succ (by omega), wrap_succ (by omega), show (((off : Nat) : Int) + (w : Int)).toNat = off + w by omega]
          rw [iter_inl hs]
          exact ih (j + 1) (w + 1) _ prt n (by omega) (by omega) (d2 hx)
    obtain ⟨w', arr', prt', h5, h6⟩ := loop (full.length - off - (k + 1)) (k + 1) k full _ n (by omega) (by omega) start
    rw [h5]
    have hwl := h6.wle
    have htk : (full.drop off).take (full.length - off) = full.drop off := List.take_of_length_le (by rw [List.length_drop]; exact Nat.le_refl _)
    have hpre := h6.pre
    have hprt := h6.prt
    rw [htk] at hpre hprt
    have e5 : (arr'.take (off + w')).length = off + w' := by rw [List.length_take, h6.len]; omega
    have s1 : slOk (w' : Int) ((full.length - off : Nat) : Int) (full.length - off) = true := slOk_true (by omega) (by omega) (by omega)
    have s2 : slOk 0 (w' : Int) (full.length - off) = true := slOk_true (by omega) (by omega) (by omega)
    rw [hpre] at e5
    simp only [Option.bind_some, s1, s2, cond_true, Int.toNat_natCast, hpre, e5, eqL_self, hprt]

/-- A part grows by what touches its members, one after the other; what is left. -/
def growF : Nat → List GRect → Nat → List GRect → List GRect × List GRect
  | 0, part, _, left => (part, left)
  | f + 1, part, i, left => match part[i]? with
    | none => (part, left)
    | some p => growF f (part ++ left.filter fun x => touchR p x) (i + 1) (left.filter fun x => !touchR p x)

theorem filter_two {α : Type} (p : α → Bool) (l : List α) : (l.filter p).length + (l.filter fun x => !p x).length = l.length := by
  induction l with
  | nil => rfl
  | cons x l ih => cases h : p x <;> simp [h] <;> omega

theorem growF_len : ∀ (f : Nat) (part left : List GRect) (i : Nat), (growF f part i left).1.length + (growF f part i left).2.length = part.length + left.length
  | 0, _, _, _ => rfl
  | f + 1, part, left, i => by
    simp only [growF]
    split
    · rfl
    · rename_i p _
      rw [growF_len f, List.length_append]
      have := filter_two (fun x => touchR p x) left
      omega

theorem growF_le : ∀ (f : Nat) (part left : List GRect) (i : Nat), part.length ≤ (growF f part i left).1.length
  | 0, _, _, _ => Nat.le_refl _
  | f + 1, part, left, i => by
    simp only [growF]
    split
    · exact Nat.le_refl _
    · exact Nat.le_trans (by rw [List.length_append]; omega) (growF_le f _ _ _)

theorem Parts_s2_run : ∀ (m f n : Nat) (full part : List GRect) (off i : Nat), off ≤ full.length → part.length + (full.length - off) = i + m → m < f → part.length + full.length < 109951162 → full.length < n → ∀ k, m < k →
    ∃ full', off ≤ full'.length ∧ full'.length ≤ full.length ∧ full'.drop off = (growF f part i (full.drop off)).2 ∧
      iter (rg_Parts_s2 n) k ((off : Int), full, (i : Int), part) = some ((off : Int), full', (growF f part i (full.drop off)).1) := by
  intro m
  induction m with
  | zero =>
    intro f n full part off i ho hm hf hl hn k hk
    obtain ⟨k, rfl⟩ : ∃ q, k = q + 1 := ⟨k - 1, by omega⟩
    obtain ⟨f, rfl⟩ : ∃ q, f = q + 1 := ⟨f - 1, by omega⟩
    have hi : part.length ≤ i := by omega
    have hnone : part[i]? = none := List.getElem?_eq_none hi
    have e2 : off + (full.length - off) = full.length := by omega
    refine ⟨full, ho, Nat.le_refl _, by simp only [growF, hnone], iter_inr ?_⟩
    have c : decide ((i : Int) < ((part.length : Nat) : Int)) = false := by simp; omega
    simp only [rg_Parts_s2, c, cond_false, Int.toNat_natCast, e2, eqL_self, cond_true, growF, hnone]
  | succ m ih =>
    intro f n full part off i ho hm hf hl hn k hk
    obtain ⟨k, rfl⟩ : ∃ q, k = q + 1 := ⟨k - 1, by omega⟩
    obtain ⟨f, rfl⟩ : ∃ q, f = q + 1 := ⟨f - 1, by omega⟩
    have e2 : off + (full.length - off) = full.length := by omega
    by_cases hi : i < part.length
    · have c : decide ((i : Int) < ((part.length : Nat) : Int)) = true := by simpa using hi
      have ft := filter_two (fun x => touchR part[i] x) (full.drop off)
      rw [List.length_drop] at ft
      have hfull : (full.take off ++ (full.drop off).filter fun x => !touchR part[i] x).length = off + ((full.drop off).filter fun x => !touchR part[i] x).length := by
        rw [List.length_append, List.length_take, Nat.min_eq_left ho]
      have hdrop : (full.take off ++ (full.drop off).filter fun x => !touchR part[i] x).drop off = (full.drop off).filter fun x => !touchR part[i] x := by
        have : (full.take off).length = off := by rw [List.length_take, Nat.min_eq_left ho]
        rw [List.drop_append_of_le_length (by omega), List.drop_of_length_le (by omega), List.nil_append]
      have hs : rg_Parts_s2 n ((off : Int), full, (i : Int), part) = some (.inl ((off : Int), full.take off ++ (full.drop off).filter (fun x => !touchR part[i] x), ((i + 1 : Nat) : Int), part ++ (full.drop off).filter fun x => touchR part[i] x)) := by
        simp only [rg_Parts_s2, c, cond_true, Int.toNat_natCast, e2, eqL_self, DeleteFunc_v1_eq ho hi hl hn, Option.bind_some]
        rw [hfull, show off + (off + ((full.drop off).filter fun x => !touchR part[i] x).length - off) = off + ((full.drop off).filter fun x => !touchR part[i] x).length by omega, eqL_self]
        simp only [cond_true]
        rw [wrap_succ (by omega)]
      rw [iter_inl hs]
      obtain ⟨full', h1, h1', h2, h3⟩ := ih f n (full.take off ++ (full.drop off).filter fun x => !touchR part[i] x) (part ++ (full.drop off).filter fun x => touchR part[i] x) off (i + 1) (by rw [hfull]; omega) (by rw [hfull, List.length_append]; omega) (by omega)
        (by rw [hfull, List.length_append]; omega) (by rw [hfull]; omega) k (by omega)
      refine ⟨full', h1, Nat.le_trans h1' (by rw [hfull]; omega), ?_, ?_⟩
      · rw [h2, hdrop]; simp only [growF, List.getElem?_eq_getElem hi]
      · rw [h3, hdrop]; simp only [growF, List.getElem?_eq_getElem hi]
    · have hnone : part[i]? = none := List.getElem?_eq_none (by omega)
      refine ⟨full, ho, Nat.le_refl _, by simp only [growF, hnone], iter_inr ?_⟩
      have c : decide ((i : Int) < ((part.length : Nat) : Int)) = false := by simp; omega
      simp only [rg_Parts_s2, c, cond_false, Int.toNat_natCast, e2, eqL_self, cond_true, growF, hnone]

/-- The connected parts. -/
def partsF : Nat → List GRect → List (List GRect)
  | 0, _ => []
  | _ + 1, [] => []
  | f + 1, x :: xs => writeL (stripsL (growF (xs.length + 2) [x] 0 xs).1) :: partsF f (growF (xs.length + 2) [x] 0 xs).2
def partsL (a : List GRect) : List (List GRect) := bif rightL a then partsF (a.length + 1) a else []

theorem partsF_len : ∀ (f : Nat) (l : List GRect), (partsF f l).length ≤ l.length
  | 0, _ => by simp [partsF]
  | _ + 1, [] => by simp [partsF]
  | f + 1, x :: xs => by
    simp only [partsF, List.length_cons]
    have h1 := partsF_len f (growF (xs.length + 2) [x] 0 xs).2
    have h2 := growF_len (xs.length + 2) [x] xs 0
    have h3 := growF_le (xs.length + 2) [x] xs 0
    simp only [List.length_cons, List.length_nil] at h2 h3
    omega

theorem Parts_s1_run {n : Nat} (hn : 200 ≤ n) : ∀ (f : Nat) (full : List GRect) (off : Nat) (out : List (List GRect)), off ≤ full.length → full.length ≤ 6 → out.length + (full.length - off) ≤ 6 → full.length - off < f → ∀ k, full.length - off < k →
    iter (rg_Parts_s1 n) k ((off : Int), full, out) = some (out ++ partsF f (full.drop off)) := by
  intro f
  induction f with
  | zero => intro full off out _ _ _ hf; omega
  | succ f ih =>
    intro full off out ho h6 hout hf k hk
    obtain ⟨k, rfl⟩ : ∃ q, k = q + 1 := ⟨k - 1, by omega⟩
    by_cases h0 : off < full.length
    · have hd : full.drop off = full[off] :: full.drop (off + 1) := List.drop_eq_getElem_cons h0
      have c : decide ((((full.length - off : Nat) : Nat) : Int) > 0) = true := by simp; omega
      have c2 : inb 0 (full.length - off) = true := by have := inb_get (i := 0) (n := full.length - off) (by omega); simpa using this
      have at0 : at? full (((off : Nat) : Int) + 0) = some full[off] := by rw [Int.add_zero, at_get h0]
      have sl : slOk 1 ((full.length - off : Nat) : Int) (full.length - off) = true := slOk_true (by omega) (by omega) (by omega)
      have e1 : off + 1 + (full.length - off - 1) = full.length := by omega
      have hdl : (full.drop (off + 1)).length = full.length - (off + 1) := List.length_drop
      obtain ⟨full', g1, g1', g2, g3⟩ := Parts_s2_run (full.length - (off + 1) + 1) ((full.drop (off + 1)).length + 2) n full [full[off]] (off + 1) 0 (by omega) (by simp; omega) (by omega) (by simp; omega) (by omega) n (by omega)
      have hg1 := growF_len ((full.drop (off + 1)).length + 2) [full[off]] (full.drop (off + 1)) 0
      have hg2 := growF_le ((full.drop (off + 1)).length + 2) [full[off]] (full.drop (off + 1)) 0
      simp only [List.length_cons, List.length_nil] at hg1 hg2
      generalize hG : growF ((full.drop (off + 1)).length + 2) [full[off]] 0 (full.drop (off + 1)) = G at *
      have hG6 : G.1.length ≤ 6 := by omega
      have g3' : iter (rg_Parts_s2 n) n ((((off + 1 : Nat)) : Int), full, (0 : Int), ([full[off]] : List GRect)) = some (((off + 1 : Nat) : Int), full', G.1) := g3
      have s1 : (sub ([G.1] : List (List GRect)) 0 1) = [G.1] := rfl
      have w1 : rg_write n (stripsL G.1) = some (writeL (stripsL G.1)) := rg_write_eq (b := 6) (by omega) (by have := length_stripsL G.1; omega) (fun s hs => Nat.le_trans (stripsL_col hs) hG6) (by omega)
      have ap : appOk out.length out.length ([writeL (stripsL G.1)] : List (List GRect)).length 1 24 = true := appOk_true (n := 1) (by omega) (by simp only [maxLen]; omega)
      have s2 : (sub ([writeL (stripsL G.1)] : List (List GRect)) 0 1) = [writeL (stripsL G.1)] := rfl
      have q1 : eqL ([G.1] : List (List GRect)).length 1 = true := rfl
      have q2 : eqL 1 ([full[off]] : List GRect).length = true := rfl
      have e3 : off + 1 + (full'.length - (off + 1)) = full'.length := by omega
      have hs : rg_Parts_s1 n ((off : Int), full, out) = some (.inl (((off + 1 : Nat) : Int), full', out ++ [writeL (stripsL G.1)])) := by
        simp only [rg_Parts_s1, Int.toNat_natCast, c, c2, cond_true, at0, Option.bind_some, sl, e1, eqL_self, q2, g3', sub_all, s1, q1, rg_strips_eq hG6 (show 30 ≤ n by omega), w1, s2, ap, letv_eq, e3]
      rw [iter_inl hs]
      have hlen' : full'.length - (off + 1) = G.2.length := by rw [← g2, List.length_drop]
      rw [ih full' (off + 1) _ (by omega) (by omega) (by simp; omega) (by omega) k (by omega), hd, g2]
      simp only [partsF, hG, List.append_assoc, List.cons_append, List.nil_append]
    · have hnil : full.drop off = [] := List.drop_of_length_le (by omega)
      have c : decide ((((full.length - off : Nat) : Nat) : Int) > 0) = false := by simp; omega
      rw [hnil]
      refine iter_inr ?_
      simp only [rg_Parts_s1, Int.toNat_natCast, c, cond_false, eqL_self, cond_true, partsF, List.append_nil]

theorem rg_Parts_eq {n : Nat} {a : List GRect} (ha : a.length ≤ 6) (hn : 200 ≤ n) : rg_Parts n a = some (partsL a) := by
  unfold rg_Parts partsL
  rw [rg_Right_eq ha hn, Option.bind_some]
  cases rightL a with
  | false => rfl
  | true =>
    simp only [Bool.not_true, cond_false, cond_true, sl_Clone_Rect_eq (show a.length < 1099511627776 by omega), Option.bind_some, Nat.zero_add, List.length_nil, eqL_self]
    have := Parts_s1_run hn (a.length + 1) a 0 [] (by omega) ha (by simp; omega) (by omega) n (by omega)
    rw [this]
    simp only [Option.bind_some, List.nil_append, List.drop_zero, sub_all, eqL_self, cond_true]
end Go.Proofs

namespace Go.Proofs
open Go.Gb Go.RowKit

def numB (x : Int) : Bool := decide (1 ≤ x) && decide (x ≤ 1073741824)
def ownB (x : Int) : Bool := decide (0 ≤ x) && decide (x ≤ 1073741824)
theorem pc_number_eq (x : Int) : pc_number x = some (numB x) := by unfold pc_number numB; cases decide (1 ≤ x) <;> rfl
theorem pc_owner_eq (x : Int) : pc_owner x = some (ownB x) := by unfold pc_owner ownB; cases decide (0 ≤ x) <;> rfl

def ascL (l : List Int) : Bool := !((l.zip l.tail).any fun p => decide (p.1 ≥ p.2))

theorem findL_any {α : Type} (p : α → Bool) (l : List α) : (match findL p l with | some _ => true | none => false) = l.any p := by
  have := findL_isSome p l
  rw [← this]
  cases findL p l <;> rfl

theorem pc_ascending_eq {n : Nat} {l : List Int} (hl : l.length < 1099511627776) (hn : l.length < n) : pc_ascending n l = some (ascL l) := by
  unfold pc_ascending ascL
  have hz : (l.zip l.tail).length = l.length - 1 := by rw [List.length_zip, List.length_tail]; omega
  have := iter_find (l := l.zip l.tail) (step := pc_ascending_s1 l) (fun i => ((i + 1 : Nat) : Int)) (fun p => decide (p.1 ≥ p.2)) () (fun _ => false) (fun i hi => ?_) ?_ n (by omega)
  · rw [show ((0 + 1 : Nat) : Int) = 1 from rfl] at this
    rw [this, ← findL_any]
    cases findL _ (l.zip l.tail) <;> rfl
  · rw [hz] at hi
    have h1 : i + 1 < l.length := by omega
    have c : decide (((i + 1 : Nat) : Int) < (l.length : Int)) = true := by simp; omega
    have e : IntKind.i64.wrap (((i + 1 : Nat) : Int) - 1) = ((i : Nat) : Int) := by
      rw [show ((i + 1 : Nat) : Int) - 1 = ((i : Nat) : Int) by omega, wrap_nat (by omega)]
    have g : (l.zip l.tail)[i] = (l[i], l[i + 1]) := by simp
    simp only [pc_ascending_s1, c, cond_true, e, at_get (show i < l.length by omega), at_get h1, Option.bind_some, g]
    cases decide (l[i] ≥ l[i + 1]) with
    | true => rfl
    | false => simp only [cond_false]; rw [wrap_succ (by omega)]
  · have c : decide ((((l.zip l.tail).length + 1 : Nat) : Int) < (l.length : Int)) = false := by rw [hz]; simp; omega
    simp only [pc_ascending_s1, c, cond_false]

theorem sl_IndexFunc_int_eq {n : Nat} {l : List Int} {φ : (Int × Unit) → Option Bool} (p : Int → Bool) (h : ∀ x ∈ l, φ (x, ()) = some (p x)) (hl : l.length < 1099511627776) (hn : l.length < n) : sl_IndexFunc_int n l φ = some (idxL p l) := gsIndexFunc_run p h hl hn
theorem sl_IndexFunc_Rect_eq {n : Nat} {l : List GRect} {φ : (GRect × Unit) → Option Bool} (p : GRect → Bool) (h : ∀ x ∈ l, φ (x, ()) = some (p x)) (hl : l.length < 1099511627776) (hn : l.length < n) : sl_IndexFunc_Rect n l φ = some (idxL p l) := gsIndexFunc_run p h hl hn
theorem sl_ContainsFunc_int_eq {n : Nat} {l : List Int} {φ : (Int × Unit) → Option Bool} (p : Int → Bool) (h : ∀ x ∈ l, φ (x, ()) = some (p x)) (hl : l.length < 1099511627776) (hn : l.length < n) : sl_ContainsFunc_int n l φ = some (l.any p) := by
  unfold sl_ContainsFunc_int
  rw [sl_IndexFunc_int_eq p h hl hn, Option.bind_some, idxL_ge]
theorem sl_ContainsFunc_Rect_eq {n : Nat} {l : List GRect} {φ : (GRect × Unit) → Option Bool} (p : GRect → Bool) (h : ∀ x ∈ l, φ (x, ()) = some (p x)) (hl : l.length < 1099511627776) (hn : l.length < n) : sl_ContainsFunc_Rect n l φ = some (l.any p) := by
  unfold sl_ContainsFunc_Rect
  rw [sl_IndexFunc_Rect_eq p h hl hn, Option.bind_some, idxL_ge]

def validL (t : GLot) : Bool := numB t.id && (ownB t.owner && (ascL t.from_ && (!(t.from_.any fun x => !numB x) && ((partsL t.area).length : Int) == 1)))

theorem pc_valid_eq {n : Nat} {t : GLot} (h : LotOk t) (hn : 200 ≤ n) : pc_valid n t = some (validL t) := by
  unfold pc_valid validL
  have h1 := h.1
  have h2 := h.2
  rw [pc_number_eq, pc_owner_eq, pc_ascending_eq (by omega) (by omega), sl_ContainsFunc_int_eq (fun x => !numB x) (fun x _ => by show pc_valid_f1 x = _; unfold pc_valid_f1; rw [pc_number_eq]; rfl) (by omega) (by omega), rg_Parts_eq h1 hn]
  simp only [Option.bind_some]
  cases numB t.id <;> cases ownB t.owner <;> cases ascL t.from_ <;> cases (t.from_.any fun x => !numB x) <;> rfl

def meetR (p q : GRect) : Bool := decide (max p.x0 q.x0 < min p.x1 q.x1) && decide (max p.y0 q.y0 < min p.y1 q.y1)
def meetL (a b : List GRect) : Bool := a.any fun p => b.any fun q => meetR p q

theorem pc_meet_eq {n : Nat} {a b : List GRect} (ha : a.length < 1099511627776) (hb : b.length < 1099511627776) (hna : a.length < n) (hnb : b.length < n) : pc_meet n a b = some (meetL a b) := by
  unfold pc_meet meetL
  rw [sl_ContainsFunc_Rect_eq (fun p => b.any fun q => meetR p q) (fun p _ => ?_) ha hna]
  · rfl
  · show pc_meet_f1 n p b = _
    unfold pc_meet_f1
    rw [sl_ContainsFunc_Rect_eq (fun q => meetR p q) (fun q _ => ?_) hb hnb]
    · rfl
    · show pc_meet_f1_f1 q p = _
      unfold pc_meet_f1_f1 meetR
      have e1 : max q.x0 p.x0 = max p.x0 q.x0 := by omega
      have e2 : min q.x1 p.x1 = min p.x1 q.x1 := by omega
      have e3 : max q.y0 p.y0 = max p.y0 q.y0 := by omega
      have e4 : min q.y1 p.y1 = min p.y1 q.y1 := by omega
      first
        | (cases decide (max p.x0 q.x0 < min p.x1 q.x1) <;> rfl)
        | (rw [e1, e2, e3, e4]; cases decide (max p.x0 q.x0 < min p.x1 q.x1) <;> rfl)

/-! ### Maps as lists -/
theorem mlook_mput {V : Type} (k k' : Int) (v : V) (l : List (Int × V)) : mlook iEq k (mput iEq k' v l) = bif k == k' then some v else mlook iEq k l := by
  induction l with
  | nil => simp only [mput, mlook, iEq]
  | cons p r ih =>
    simp only [mput, mlook, iEq]
    cases h : k' == p.1 with
    | true =>
      have := eq_of_beq h
      simp only [cond_true, mlook, iEq, ← this]
      cases k == k' <;> rfl
    | false =>
      simp only [cond_false, mlook, iEq] at ih ⊢
      rw [ih]
      cases h2 : k == p.1 with
      | true =>
        have h2 := eq_of_beq h2
        have : (k == k') = false := by rw [beq_eq_false_iff_ne] at h ⊢; omega
        rw [this]; rfl
      | false => rfl

theorem keys_mput {V : Type} (k k' : Int) (v : V) (l : List (Int × V)) : k ∈ (mput iEq k' v l).map (·.1) ↔ k = k' ∨ k ∈ l.map (·.1) := by
  induction l with
  | nil => simp [mput]
  | cons p r ih =>
    simp only [mput, iEq]
    cases h : k' == p.1 with
    | true =>
      have := eq_of_beq h
      simp only [cond_true, List.map_cons, List.mem_cons, ← this]
      constructor
      · rintro (h | h)
        · exact .inl h
        · exact .inr (.inr h)
      · rintro (h | h | h)
        · exact .inl h
        · exact .inl h
        · exact .inr h
    | false =>
      simp only [cond_false, List.map_cons, List.mem_cons, ih]
      constructor
      · rintro (h | h | h)
        · exact .inr (.inl h)
        · exact .inl h
        · exact .inr (.inr h)
      · rintro (h | h | h)
        · exact .inr (.inl h)
        · exact .inl h
        · exact .inr (.inr h)

theorem keys_foldl_mput {V : Type} (v : V) (k : Int) : ∀ (xs : List Int) (l : List (Int × V)), k ∈ (xs.foldl (fun m x => mput iEq x v m) l).map (·.1) ↔ k ∈ xs ∨ k ∈ l.map (·.1)
  | [], l => by simp
  | x :: xs, l => by
    rw [List.foldl_cons, keys_foldl_mput v k xs, keys_mput, List.mem_cons]
    constructor
    · rintro (h | h | h)
      · exact .inl (.inr h)
      · exact .inl (.inl h)
      · exact .inr h
    · rintro ((h | h) | h)
      · exact .inr (.inl h)
      · exact .inl h
      · exact .inr (.inr h)

theorem loopL_guard {α S O : Type} (bad : α → Bool) (o : O) (g : α → S → S) (fin : S → O) : ∀ (l : List α) (s : S),
    loopL (fun x s => bif bad x then .inr o else .inl (g x s)) fin l s = bif l.any bad then o else fin (l.foldl (fun s x => g x s) s)
  | [], s => rfl
  | x :: xs, s => by
    simp only [loopL, List.any_cons, List.foldl_cons]
    cases bad x with
    | true => rfl
    | false => simp only [cond_false, Bool.false_or]; exact loopL_guard bad o g fin xs _

/-! ### parcel.Right -/
def prevs (land : List GLot) : List (Option GLot × GLot) := (none :: land.map some).zip land
def badAt (p : Option GLot × GLot) : Bool := !validL p.2 || p.1.any fun u => decide (u.id ≥ p.2.id)
def landL (land : List GLot) : Bool :=
  !((prevs land).any badAt) && (!(land.any fun t => t.from_.any fun k => land.any fun u => u.id == k) && !(land.zipIdx.any fun p => (land.take p.2).any fun u => meetL p.1.area u.area))

theorem pc_Right_s2_run {n : Nat} {t : GLot} (h : LotOk t) (hn : 200 ≤ n) (m : List (Int × Bool)) : iter (pc_Right_s2 t) n ((0 : Int), m) = some (t.from_.foldl (fun m x => mput iEq x true m) m) := by
  have h2 := h.2
  have := iter_fold (l := t.from_) (step := pc_Right_s2 t) (fun i (s : List (Int × Bool)) => (((i : Nat) : Int), s)) (fun x m => mput iEq x true m) (fun s => s) (fun i hi s => ?_) (fun s => by simp [pc_Right_s2]) n (by omega) m
  · exact this
  · have hi' : decide (((i : Nat) : Int) < (t.from_.length : Int)) = true := by simpa using hi
    simp only [pc_Right_s2, hi', cond_true, at_get hi, Option.bind_some]
    rw [wrap_succ (by omega)]

theorem prevs_length (land : List GLot) : (prevs land).length = land.length := by simp [prevs, List.length_zip]

theorem prevs_get {land : List GLot} {i : Nat} (h : i < (prevs land).length) : (prevs land)[i] = (if h0 : i = 0 then none else some (land[i - 1]'(by rw [prevs_length] at h; omega)), land[i]'(by rw [prevs_length] at h; exact h)) := by
  have hz : i < ((none :: land.map some).zip land).length := h
  have : ((none :: land.map some).zip land)[i] = (if h0 : i = 0 then none else some (land[i - 1]'(by rw [prevs_length] at h; omega)), land[i]'(by rw [prevs_length] at h; exact h)) := by
    rw [List.getElem_zip]
    cases i with
    | zero => simp
    | succ i => simp
  exact this

theorem pc_Right_s1_run {n : Nat} {land : List GLot} (hl : land.length ≤ 8) (h : ∀ t ∈ land, LotOk t) (hn : 200 ≤ n) :
    iter (pc_Right_s1 n land) n ((0 : Int), ([] : List (Int × Bool)), ([] : List (Int × Bool))) = some (bif (prevs land).any badAt then .inr false else .inl (land.foldl (fun m t => mput iEq t.id true m) [], land.foldl (fun m t => t.from_.foldl (fun m x => mput iEq x true m) m) [])) := by
  have hp := prevs_length land
  have := iter_listI (l := prevs land) (step := pc_Right_s1 n land) (S := List (Int × Bool) × List (Int × Bool)) (fun i s => (((i : Nat) : Int), s.1, s.2))
    (fun p s => bif badAt p then .inr (.inr false) else .inl (mput iEq p.2.id true s.1, p.2.from_.foldl (fun m x => mput iEq x true m) s.2)) (fun s => .inl s) (fun _ _ => True) (fun i hi s _ => ⟨?_, fun _ _ => trivial⟩) (fun s _ => by simp [pc_Right_s1, hp]) n (by omega) ([], []) trivial
  · rw [show ((0 : Nat) : Int) = 0 from rfl] at this
    rw [this, loopL_guard]
    have e : ∀ (ps : List (Option GLot × GLot)) (s : List (Int × Bool) × List (Int × Bool)), ps.foldl (fun s p => (mput iEq p.2.id true s.1, p.2.from_.foldl (fun m x => mput iEq x true m) s.2)) s = ((ps.map (·.2)).foldl (fun m t => mput iEq t.id true m) s.1, (ps.map (·.2)).foldl (fun m t => t.from_.foldl (fun m x => mput iEq x true m) m) s.2) := by
      intro ps
      induction ps with
      | nil => intro s; rfl
      | cons p ps ih => intro s; simp only [List.foldl_cons, List.map_cons, ih]
    rw [e]
    have em : (prevs land).map (·.2) = land := by
      unfold prevs
      rw [show (fun p : Option GLot × GLot => p.2) = Prod.snd from rfl, List.map_snd_zip]
      simp
    rw [em]
  · rw [prevs_get hi]
    rw [hp] at hi
    have hi' : decide (((i : Nat) : Int) < (land.length : Int)) = true := by simpa using hi
    have ht := h _ (List.getElem_mem hi)
    have body : ((pc_valid n land[i]).bind fun r1 => (bif (!r1) then some true else (bif (decide (((i : Nat) : Int) > (0 : Int))) then (at? land (IntKind.i64.wrap (((i : Nat) : Int) - 1))).bind fun x2 => some (decide (x2.id ≥ (land[i].id : Int))) else some false)) : Option Bool) = some (badAt (if h0 : i = 0 then none else some (land[i - 1]'(by omega)), land[i])) := by
      rw [pc_valid_eq ht hn, Option.bind_some]
      unfold badAt
      by_cases h0 : i = 0
      · subst h0
        simp only [dif_pos]
        cases validL land[0] <;> rfl
      · have c : decide (((i : Nat) : Int) > 0) = true := by simp; omega
        have e : IntKind.i64.wrap (((i : Nat) : Int) - 1) = ((i - 1 : Nat) : Int) := by
          rw [show ((i : Nat) : Int) - 1 = ((i - 1 : Nat) : Int) by omega, wrap_nat (by omega)]
        simp only [dif_neg h0, c, cond_true, e, at_get (show i - 1 < land.length by omega), Option.bind_some]
        cases validL land[i] <;> rfl
    simp only [pc_Right_s1, hi', cond_true, at_get hi, Option.bind_some]
    rw [body, Option.bind_some]
    cases badAt (if h0 : i = 0 then none else some (land[i - 1]'(by omega)), land[i]) with
    | true => rfl
    | false =>
      simp only [cond_false]
      rw [pc_Right_s2_run ht hn, Option.bind_some, wrap_succ (by omega)]

theorem pc_Right_r3_run (w : List (Int × Bool)) : ∀ ks : List Int, foldR (pc_Right_r3 w) ks () = some (bif ks.any (fun k => (mlook iEq k w).getD false) then .inr false else .inl ())
  | [] => rfl
  | k :: ks => by
    have ih := pc_Right_r3_run w ks
    simp only [foldR, pc_Right_r3, List.any_cons]
    cases (mlook iEq k w).getD false with
    | true => rfl
    | false => simpa using ih

theorem any_perm {α : Type} {p : α → Bool} {l l' : List α} (h : l.Perm l') : l.any p = l'.any p := by
  rw [Bool.eq_iff_iff, List.any_eq_true, List.any_eq_true]
  exact ⟨fun ⟨x, hx, hp⟩ => ⟨x, h.mem_iff.1 hx, hp⟩, fun ⟨x, hx, hp⟩ => ⟨x, h.mem_iff.2 hx, hp⟩⟩

theorem ids_look (land : List GLot) (k : Int) : (mlook iEq k (land.foldl (fun m t => mput iEq t.id true m) [])).getD false = land.any fun u => u.id == k := by
  have gen : ∀ (l : List GLot) (m : List (Int × Bool)), (mlook iEq k (l.foldl (fun m t => mput iEq t.id true m) m)).getD false = ((l.any fun u => u.id == k) || (mlook iEq k m).getD false) := by
    intro l
    induction l with
    | nil => intro m; rfl
    | cons t l ih =>
      intro m
      rw [List.foldl_cons, ih, mlook_mput, List.any_cons, show (k == t.id) = (t.id == k) by rw [Bool.eq_iff_iff, beq_iff_eq, beq_iff_eq]; exact ⟨Eq.symm, Eq.symm⟩]
      cases t.id == k <;> cases (l.any fun u => u.id == k) <;> rfl
  rw [gen]
  simp [mlook]

theorem olds_mem (land : List GLot) (k : Int) : k ∈ (land.foldl (fun m t => t.from_.foldl (fun m x => mput iEq x true m) m) ([] : List (Int × Bool))).map (·.1) ↔ ∃ t ∈ land, k ∈ t.from_ := by
  have gen : ∀ (l : List GLot) (m : List (Int × Bool)), k ∈ (l.foldl (fun m t => t.from_.foldl (fun m x => mput iEq x true m) m) m).map (·.1) ↔ (∃ t ∈ l, k ∈ t.from_) ∨ k ∈ m.map (·.1) := by
    intro l
    induction l with
    | nil => intro m; simp
    | cons t l ih =>
      intro m
      rw [List.foldl_cons, ih, keys_foldl_mput]
      constructor
      · rintro (⟨u, hu, hk⟩ | h | h)
        · exact .inl ⟨u, List.mem_cons_of_mem _ hu, hk⟩
        · exact .inl ⟨t, List.mem_cons_self, h⟩
        · exact .inr h
      · rintro (⟨u, hu, hk⟩ | h)
        · rcases List.mem_cons.1 hu with rfl | hu
          · exact .inr (.inl hk)
          · exact .inl ⟨u, hu, hk⟩
        · exact .inr (.inr h)
  rw [gen]
  simp

theorem pc_Right_s4_run {n : Nat} {land : List GLot} (hl : land.length ≤ 8) (h : ∀ t ∈ land, LotOk t) (hn : 200 ≤ n) :
    thenB (iter (pc_Right_s4 n land) n (0 : Int)) (fun () => some true) = some (!(land.zipIdx.any fun p => (land.take p.2).any fun u => meetL p.1.area u.area)) := by
  have hz : land.zipIdx.length = land.length := List.length_zipIdx
  have := iter_find (l := land.zipIdx) (step := pc_Right_s4 n land) (fun i => ((i : Nat) : Int)) (fun p => (land.take p.2).any fun u => meetL p.1.area u.area) () (fun _ => false) (fun i hi => ?_) ?_ n (by omega)
  · rw [show ((0 : Nat) : Int) = 0 from rfl] at this
    rw [this, ← findL_any]
    cases findL _ land.zipIdx <;> rfl
  · have g : land.zipIdx[i] = (land[i]'(by omega), i) := by simp
    rw [g]
    rw [hz] at hi
    have c : decide (((i : Nat) : Int) < (land.length : Int)) = true := by simpa using hi
    have hlt : (land.take i).length = i := by rw [List.length_take]; omega
    have inner := iter_find (l := land.take i) (step := pc_Right_s5 n land ((i : Nat) : Int)) (fun k => ((k : Nat) : Int)) (fun u => meetL land[i].area u.area) () (fun _ => (.inr (.inr false) : Int ⊕ (Unit ⊕ Bool))) (fun k hk => ?_) ?_ n (by omega)
    · rw [show ((0 : Nat) : Int) = 0 from rfl] at inner
      simp only [pc_Right_s4, c, cond_true, inner]
      rw [← findL_any]
      cases findL (fun u => meetL land[i].area u.area) (land.take i) with
      | some k => rfl
      | none => simp only [thenB_inl, cond_false]; rw [wrap_succ (by omega)]
    · rw [hlt] at hk
      have c2 : decide (((k : Nat) : Int) < ((i : Nat) : Int)) = true := by simpa using hk
      have hkl : k < land.length := by omega
      have a1 := (h _ (List.getElem_mem hi)).1
      have a2 := (h _ (List.getElem_mem hkl)).1
      simp only [pc_Right_s5, c2, cond_true, at_get hi, at_get hkl, Option.bind_some, List.getElem_take, pc_meet_eq (n := n) (show land[i].area.length < 1099511627776 by omega) (show land[k].area.length < 1099511627776 by omega) (by omega) (by omega)]
      cases meetL land[i].area land[k].area with
      | true => rfl
      | false => simp only [cond_false]; rw [wrap_succ (by omega)]
    · rw [hlt]; simp [pc_Right_s5]
  · rw [hz]; simp [pc_Right_s4]

theorem pc_Right_eq {n : Nat} {land : List GLot} (hl : land.length ≤ 8) (h : ∀ t ∈ land, LotOk t) (hn : 200 ≤ n) : pc_Right n land = some (landL land) := by
  unfold pc_Right landL
  have c : decide (((land.length : Nat) : Int) > 20000) = false := by simp; omega
  rw [c, cond_false, pc_Right_s1_run hl h hn, pc_Right_s4_run hl h hn]
  cases (prevs land).any badAt with
  | true => rfl
  | false =>
    simp only [cond_false, thenB_inl]
    rw [allEq_const, permAll_of (o := bif (land.any fun t => t.from_.any fun k => land.any fun u => u.id == k) then .inr false else .inl ()) (fun ks hks => ?_)]
    · cases (land.any fun t => t.from_.any fun k => land.any fun u => u.id == k) <;> rfl
    · rw [pc_Right_r3_run]
      have : ks.any (fun k => (mlook iEq k (land.foldl (fun m t => mput iEq t.id true m) [])).getD false) = land.any fun t => t.from_.any fun k => land.any fun u => u.id == k := by
        rw [Bool.eq_iff_iff]
        simp only [List.any_eq_true, ids_look]
        constructor
        · rintro ⟨k, hk, hu⟩
          obtain ⟨t, ht, hkt⟩ := (olds_mem land k).1 (hks.mem_iff.2 hk)
          exact ⟨t, ht, k, hkt, hu⟩
        · rintro ⟨t, ht, k, hkt, hu⟩
          exact ⟨k, hks.mem_iff.1 ((olds_mem land k).2 ⟨t, ht, hkt⟩), hu⟩
      rw [this]

/-- Ids ascend in land that is right. -/
theorem landL_asc {land : List GLot} (h : landL land = true) : ∀ (i j : Nat) (hj : j < land.length) (hij : i < j), (land[i]'(by omega)).id < land[j].id := by
  unfold landL at h
  rw [Bool.and_eq_true] at h
  have h1 := h.1
  have adj : ∀ (i : Nat) (hi : i + 1 < land.length), (land[i]'(by omega)).id < land[i + 1].id := by
    intro i hi
    have hm : (prevs land)[i + 1]'(by rw [prevs_length]; exact hi) ∈ prevs land := List.getElem_mem _
    rw [prevs_get] at hm
    simp only [Nat.succ_ne_zero, dif_neg, not_false_eq_true, Nat.add_sub_cancel] at hm
    have h1' : (prevs land).any badAt = false := by simpa using h1
    have := List.any_eq_false.1 h1' _ hm
    simp only [badAt, Option.any_some, Bool.or_eq_true, not_or] at this
    have := this.2
    simp only [decide_eq_true_eq] at this
    omega
  intro i j
  induction j with
  | zero => intro _ h; omega
  | succ j ih =>
    intro hj hij
    rcases Nat.lt_or_ge i j with h | h
    · exact Int.lt_trans (ih (by omega) h) (adj j hj)
    · have : i = j := by omega
      subst this
      exact adj i hj

theorem find_of_asc {land : List GLot} (h : landL land = true) {t : GLot} (ht : t ∈ land) : findLot land t.id = (t, true) := by
  unfold findLot
  cases hf : land.find? fun u => u.id == t.id with
  | none =>
    have := List.find?_eq_none.1 hf t ht
    simp at this
  | some u =>
    have hu := List.mem_of_find?_eq_some hf
    have e := List.find?_some hf
    have e := eq_of_beq e
    obtain ⟨i, hi, rfl⟩ := List.mem_iff_getElem.1 hu
    obtain ⟨j, hj, rfl⟩ := List.mem_iff_getElem.1 ht
    rcases Nat.lt_trichotomy i j with hl | hl | hl
    · have := landL_asc h i j hj hl; omega
    · subst hl; rfl
    · have := landL_asc h j i hi hl; omega
end Go.Proofs

namespace Go.Proofs
open Go.Gb Go.RowKit

def hitL (land : List GLot) (lot party d : Int) (u : GLot) : Bool := (findLot land lot).2 && ((u.id != lot) && ((u.owner == party) && ((gapL (findLot land lot).1.area u.area).2 && decide ((gapL (findLot land lot).1.area u.area).1 ≤ d))))

theorem nearL_hit {land : List GLot} (h : landL land = true) (lot party d : Int) : (∃ id ∈ nearL land lot d, (findLot land id).1.owner = party) ↔ land.any (hitL land lot party d) = true := by
  unfold nearL
  simp only [List.any_eq_true, hitL]
  cases (findLot land lot).2 with
  | false => simp
  | true =>
    simp only [cond_true, setL_mem, nearIds, List.mem_map, List.mem_filter, isNear, Bool.true_and, Bool.and_eq_true, decide_eq_true_eq, bne_iff_ne, beq_iff_eq, ne_eq]
    constructor
    · rintro ⟨id, ⟨u, ⟨hu, h1, h2, h3⟩, rfl⟩, ho⟩
      rw [find_of_asc h hu] at ho
      exact ⟨u, hu, h3, ho, h1, h2⟩
    · rintro ⟨u, hu, h3, ho, h1, h2⟩
      refine ⟨u.id, ⟨u, ⟨hu, h1, h2, h3⟩, rfl⟩, ?_⟩
      rw [find_of_asc h hu]
      exact ho

theorem NoticeReaches_s1_run {n : Nat} {t : GTown} {d : GDrawing} {party g : Int} (ht : TownOk t) (hn : 200 ≤ n) :
    iter (l35_NoticeReaches_s1 n t d party g (findLot t.land d.lot)) n (false, (0 : Int)) = some (t.land.any (hitL t.land d.lot party g)) := by
  have hl := ht.1
  have := iter_fold (l := t.land) (step := l35_NoticeReaches_s1 n t d party g (findLot t.land d.lot)) (fun i (s : Bool) => (s, ((i : Nat) : Int))) (fun u s => s || hitL t.land d.lot party g u) (fun s => s) (fun i hi s => ?_) (fun s => by simp [l35_NoticeReaches_s1]) n (by omega) false
  · rw [show ((0 : Nat) : Int) = 0 from rfl] at this
    rw [this]
    have gen : ∀ (l : List GLot) (s : Bool), l.foldl (fun s u => s || hitL t.land d.lot party g u) s = (s || l.any (hitL t.land d.lot party g)) := by
      intro l
      induction l with
      | nil => intro s; simp
      | cons x l ih => intro s; rw [List.foldl_cons, ih, List.any_cons, Bool.or_assoc]
    rw [gen, Bool.false_or]
  · have hi' : decide (((i : Nat) : Int) < (t.land.length : Int)) = true := by simpa using hi
    have hu := ht.2.1 _ (List.getElem_mem hi)
    have ho := findLot_ok ht.2.1 d.lot
    simp only [l35_NoticeReaches_s1, hi', cond_true, at_get hi, Option.bind_some, of_Gap_eq ho.1 hu.1 hn]
    rw [wrap_succ (by omega)]
    unfold hitL
    cases s <;> cases (findLot t.land d.lot).2 <;> cases (t.land[i].id != d.lot) <;> cases (t.land[i].owner == party) <;> cases (gapL (findLot t.land d.lot).1.area t.land[i].area).2 <;> rfl

theorem NoticeReaches_true {n : Nat} (hn : 200 ≤ n) (t : GTown) (d : GDrawing) (party : Int) : l35_NoticeReaches n t d party = some true := by
  obtain ⟨b, hb, hfew⟩ := l35_few_eq t d hn
  unfold l35_NoticeReaches
  rw [small_eq hn, hb]
  simp only [Option.bind_some]
  cases b with
  | false => rfl
  | true =>
    obtain ⟨ht, hp4, hd⟩ := hfew rfl
    rw [pc_Right_eq ht.1 ht.2.1 hn]
    simp only [Bool.not_true, cond_false, Option.bind_some]
    cases hr : landL t.land with
    | false => rfl
    | true =>
      have e1 : nt_Distance n (GPlan.mk t.plan_defs t.plan_tables t.plan_zones t.plan_rules t.plan_caps t.plan_views t.plan_sun t.plan_hours) d = some (distL t.plan_tables d) := nt_Distance_eq (p := planOf t) ht.2.2 hd hn
      have l1 := length_ownersL ht d
      have e2 : pc_Find n t.land d.lot = some (findLot t.land d.lot) := pc_Find_eq ht.2.1 (by have := ht.1; omega) (by have := ht.1; omega)
      simp only [Bool.not_true, cond_false, cond_true, Option.bind_some, e1, e2, NoticeReaches_s1_run ht hn, nt_Owners_eq ht hd hn, nt_May_eq ht hd hn, sub_all, eqL_self, q35_Has_eq (l := ownersL t d) (a := party) (n := n) (by omega) (by omega), any_mem]
      have key : party ∈ ownersL t d ↔ t.land.any (hitL t.land d.lot party (distL t.plan_tables d)) = true := by
        rw [ownersL_mem]
        exact nearL_hit hr _ _ _
      have k2 : decide (party ∈ ownersL t d) = t.land.any (hitL t.land d.lot party (distL t.plan_tables d)) := by
        rw [Bool.eq_iff_iff, decide_eq_true_eq]; exact key
      have k3 : ((ownersL t d).any fun y => party == y) = decide (party ∈ ownersL t d) := by rw [Bool.eq_iff_iff]; simp
      simp only [mayL, k3, k2, beq_self_eq_true, cond_true]
      cases hh : t.land.any (hitL t.land d.lot party (distL t.plan_tables d)) with
      | false => rfl
      | true =>
        obtain ⟨u, _, hu⟩ := List.any_eq_true.1 hh
        have : (findLot t.land d.lot).2 = true := by
          unfold hitL at hu
          rw [Bool.and_eq_true] at hu
          exact hu.1
        simp [this]
end Go.Proofs
