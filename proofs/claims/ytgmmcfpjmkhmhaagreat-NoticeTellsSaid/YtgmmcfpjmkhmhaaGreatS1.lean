/-
  What the printed functions of package slices and cmp come to.
  What the printed functions of package region come to, at few rectangles.
  What region.Of, region.Right and offset.Gap come to, at few rectangles.
  What the printed functions of packages offset, parcel and notice come to, in few towns.
  The example; what the laws of the notice share.
  What the printed functions of greenbeltref06 come to, at few rectangles (its column, the edges).
  greenbeltref06: edges, columns, their combination with nothing.
  greenbeltref06: a column.
  greenbeltref06: the form of some rectangles, what is right.
  greenbeltref06: Form, Of, Right.
  What the printed functions of greenbeltref05, 08, 13 and 35 come to, in few towns.
  greenbeltref35: distances and owners; NoticeTells as a plain law.
-/
import Derived.Test.YtgmmcfpjmkhmhaaGreatL1
namespace Go.Proofs
open Go.Gb Go.RowKit

abbrev ltI (a b : Int) : Bool := decide (a < b)

theorem cmp_Less_int_eq (a b : Int) : cmp_Less_int a b = some (ltI a b) := by
  simp [cmp_Less_int, cmp_isNaN_int]

theorem cmp_Compare_int_eq (a b : Int) : cmp_Compare_int a b = some (if a < b then -1 else if b < a then 1 else 0) := by
  by_cases h1 : a < b
  · simp [cmp_Compare_int, cmp_isNaN_int, h1]
  · by_cases h2 : b < a
    · simp [cmp_Compare_int, cmp_isNaN_int, h1, h2]
    · simp [cmp_Compare_int, cmp_isNaN_int, h1, h2]

theorem bits_Len_small {m : Nat} (h : m ≤ 12) : ∃ r, bits_Len (IntKind.u64.wrap ((m : Nat) : Int)) = some r := by
  have all : ∀ k : Fin 13, (bits_Len (IntKind.u64.wrap ((k.val : Nat) : Int))).isSome = true := by decide +kernel
  have := all ⟨m, by omega⟩
  exact Option.isSome_iff_exists.1 this

theorem sl_Sort_int_eq {n : Nat} {l : List Int} (hl : l.length ≤ 12) (hn : 13 ≤ n) : sl_Sort_int n l = some (isort ltI l) := by
  obtain ⟨r, hr⟩ := bits_Len_small hl
  obtain ⟨k, rfl⟩ : ∃ k, n = k + 1 := ⟨n - 1, by omega⟩
  have h1 : sl_insertionSortOrdered_int (k + 1) l 0 (l.length : Int) = some (isort ltI l) := gsIns_run (less := fun x y => (cmp_Less_int x y).bind fun r => some r) (fun x y => by rw [cmp_Less_int_eq]; rfl) (k + 1) l (by omega) (by omega)
  have w : IntKind.i64.wrap ((l.length : Int) - 0) = (l.length : Int) := by rw [Int.sub_zero]; exact wrap_nat (by omega)
  have d : decide ((l.length : Int) ≤ 12) = true := by simpa using (by omega : (l.length : Int) ≤ 12)
  have h2 : sl_pdqsortOrdered_int_s1 (k + 1) (sl_pdqsortOrdered_int_m (k + 1) k) l (0, (l.length : Int), r, true, true, l) = some (.inr (.inr (isort ltI l))) := by
    simp only [sl_pdqsortOrdered_int_s1, w, d, cond_true, eqL_self, h1, Option.bind_some, Option.map_some]
  have h3 : sl_pdqsortOrdered_int (k + 1) l 0 (l.length : Int) r = some (isort ltI l) := by
    show sl_pdqsortOrdered_int_b (k + 1) (sl_pdqsortOrdered_int_m (k + 1) k) l 0 (l.length : Int) r = _
    unfold sl_pdqsortOrdered_int_b
    rw [iter_inr h2]; rfl
  unfold sl_Sort_int
  simp only [hr, Option.bind_some, eqL_self, cond_true, h3]

theorem sl_Compact_int_eq {n : Nat} {l : List Int} (hl : l.length < 1099511627776) (hn : l.length < n) : sl_Compact_int n l = some ((), compactL l) := by
  rw [← cptG_int]
  exact gsCompact_run (eq := fun x y => x == y) (ne := fun x y => x != y) (fun x y => by simp [bne]) hl hn

theorem sl_Index_int_eq {n : Nat} {l : List Int} {a : Int} (hl : l.length < 1099511627776) (hn : l.length < n) : sl_Index_int n l a = some (idxL (fun x => a == x) l) := gsIndex_run hl hn

theorem sl_Contains_int_eq {n : Nat} {l : List Int} {a : Int} (hl : l.length < 1099511627776) (hn : l.length < n) : sl_Contains_int n l a = some (l.any fun x => a == x) := by
  unfold sl_Contains_int
  rw [sl_Index_int_eq hl hn, Option.bind_some, idxL_ge]

theorem sl_DeleteFunc_int_eq {n : Nat} {l : List Int} {φ : (Int × Unit) → Option Bool} (p : Int → Bool) (h : ∀ x ∈ l, φ (x, ()) = some (p x)) (hl : l.length < 1099511627776) (hn : l.length < n) : sl_DeleteFunc_int n l φ = some ((), l.filter fun x => !p x) := gsDeleteFunc_run p h hl hn

theorem sl_IndexFunc_Table_eq {n : Nat} {l : List GTable} {φ : (GTable × Unit) → Option Bool} (p : GTable → Bool) (h : ∀ x ∈ l, φ (x, ()) = some (p x)) (hl : l.length < 1099511627776) (hn : l.length < n) : sl_IndexFunc_Table n l φ = some (idxL p l) := gsIndexFunc_run p h hl hn

theorem sl_IndexFunc_Entry_eq {n : Nat} {l : List GEntry} {φ : (GEntry × Unit) → Option Bool} (p : GEntry → Bool) (h : ∀ x ∈ l, φ (x, ()) = some (p x)) (hl : l.length < 1099511627776) (hn : l.length < n) : sl_IndexFunc_Entry n l φ = some (idxL p l) := gsIndexFunc_run p h hl hn

theorem sl_Clone_Rect_eq {l : List GRect} (h : l.length < 1099511627776) : sl_Clone_Rect l = some l := gsClone_run (b := 32) (by omega) (by simp only [maxLen]; omega)
theorem sl_Clone_int_eq {l : List Int} (h : l.length < 1099511627776) : sl_Clone_int l = some l := gsClone_run (b := 8) (by omega) (by simp only [maxLen]; omega)

theorem sl_Concat_Rect_eq {n : Nat} {l : List (List GRect)} (hf : l.flatten.length < 1099511627776) (hl : l.length < 1099511627776) (hn : l.length < n) : sl_Concat_Rect n l = some l.flatten := gsConcat_run (GRect.mk 0 0 0 0) (b := 32) hf (by omega) hl hn

theorem sl_Equal_Rect_eq {n : Nat} {a b : List GRect} (hl : a.length < 1099511627776) (hn : a.length < n) : sl_Equal_Rect n a b = some (decide (a = b)) := by
  have e : sl_Equal_Rect n a b = gsEqual n (fun x1 x2 : GRect => !((x1.x0 == (x2.x0 : Int)) && ((x1.y0 == (x2.y0 : Int)) && ((x1.x1 == (x2.x1 : Int)) && ((x1.y1 == (x2.y1 : Int)) && true))))) a b := by kernel_rfl
  rw [e]
  refine gsEqual_run (fun x y => ?_) hl hn
  obtain ⟨a, b, c, d⟩ := x
  obtain ⟨e, f, g, h⟩ := y
  simp only [GRect.mk.injEq, Bool.and_true]
  rw [Bool.eq_iff_iff]
  simp

theorem sl_Equal_span_eq {n : Nat} {a b : List Gspan} (hl : a.length < 1099511627776) (hn : a.length < n) : sl_Equal_span n a b = some (decide (a = b)) := by
  have e : sl_Equal_span n a b = gsEqual n (fun x1 x2 : Gspan => !((x1.from_ == (x2.from_ : Int)) && ((x1.to == (x2.to : Int)) && true))) a b := by kernel_rfl
  rw [e]
  refine gsEqual_run (fun x y => ?_) hl hn
  obtain ⟨a, b⟩ := x
  obtain ⟨c, d⟩ := y
  simp only [Gspan.mk.injEq, Bool.and_true]
  rw [Bool.eq_iff_iff]
  simp

theorem q35_Ints_eq {n : Nat} {a b : List Int} (hl : a.length < 1099511627776) (hn : a.length < n) : q35_Ints n a b = some (decide (a = b)) := by
  have e : q35_Ints n a b = gsEqual n (fun x1 x2 : Int => x1 != x2) a b := by kernel_rfl
  rw [e]
  refine gsEqual_run (fun x y => ?_) hl hn
  rw [Bool.eq_iff_iff]
  simp [bne]

abbrev ltS (a b : Gspan) : Bool := decide (a.from_ < b.from_)

theorem rg_column_f1_eq (a b : Gspan) : (rg_column_f1 a b).bind (fun r => some (decide (r < 0))) = some (ltS a b) := by
  unfold rg_column_f1
  rw [cmp_Compare_int_eq]
  simp only [Option.bind_some, ltS]
  by_cases h1 : a.from_ < b.from_
  · simp [h1]
  · by_cases h2 : b.from_ < a.from_ <;> simp [h1, h2]

theorem sl_SortFunc_span_eq {n : Nat} {l : List Gspan} {φ : (Gspan × Gspan × Unit) → Option Int} (hφ : ∀ x y, (φ (x, y, ())).bind (fun r => some (decide (r < 0))) = some (ltS x y)) (hl : l.length ≤ 12) (hn : 13 ≤ n) : sl_SortFunc_span n l φ = some (isort ltS l) := by
  obtain ⟨r, hr⟩ := bits_Len_small hl
  obtain ⟨k, rfl⟩ : ∃ k, n = k + 1 := ⟨n - 1, by omega⟩
  have h1 : sl_insertionSortCmpFunc_span (k + 1) l 0 (l.length : Int) φ = some (isort ltS l) := gsIns_run (less := fun x y => (φ (x, y, ())).bind fun r => some (decide (r < 0))) hφ (k + 1) l (by omega) (by omega)
  have w : IntKind.i64.wrap ((l.length : Int) - 0) = (l.length : Int) := by rw [Int.sub_zero]; exact wrap_nat (by omega)
  have d : decide ((l.length : Int) ≤ 12) = true := by simpa using (by omega : (l.length : Int) ≤ 12)
  have h2 : sl_pdqsortCmpFunc_span_s1 (k + 1) (sl_pdqsortCmpFunc_span_m (k + 1) k) l φ (0, (l.length : Int), r, true, true, l) = some (.inr (.inr (isort ltS l))) := by
    simp only [sl_pdqsortCmpFunc_span_s1, w, d, cond_true, eqL_self, h1, Option.bind_some, Option.map_some]
  have h3 : sl_pdqsortCmpFunc_span (k + 1) l 0 (l.length : Int) r φ = some (isort ltS l) := by
    show sl_pdqsortCmpFunc_span_b (k + 1) (sl_pdqsortCmpFunc_span_m (k + 1) k) l 0 (l.length : Int) r φ = _
    unfold sl_pdqsortCmpFunc_span_b
    rw [iter_inr h2]; rfl
  unfold sl_SortFunc_span
  simp only [hr, Option.bind_some, eqL_self, cond_true, h3]
end Go.Proofs

namespace Go.Proofs
open Go.Gb Go.RowKit

/-- A valid rectangle. -/
abbrev OkR (r : GRect) : Bool := decide (0 ≤ r.x0) && (decide (r.x0 < r.x1) && (decide (r.x1 ≤ 1048576) && (decide (0 ≤ r.y0) && (decide (r.y0 < r.y1) && decide (r.y1 ≤ 1048576)))))

theorem bifand (a b : Bool) : (bif a then some b else some false) = some (a && b) := by cases a <;> rfl
theorem bifandO (a : Bool) (b : Bool) : (bif a then (some b) else some false : Option Bool) = some (a && b) := by cases a <;> rfl
theorem biford (a b : Bool) : (bif a then some true else some b) = some (a || b) := by cases a <;> rfl

theorem r_Right_eq (r : GRect) : r_Right r = some (OkR r) := by
  simp only [r_Right, bifand]

/-- The spans of the rectangles over x. -/
def spansAt (l : List GRect) (x : Int) : List Gspan := (l.filter fun r => decide (r.x0 ≤ x) && decide (x < r.x1)).map fun r => ⟨r.y0, r.y1⟩
/-- A span behind others. -/
def mrg (out : List Gspan) (s : Gspan) : List Gspan :=
  match out.getLast? with
  | some q => bif decide (s.from_ ≤ q.to) then out.dropLast ++ [⟨q.from_, max q.to s.to⟩] else out ++ [s]
  | none => [s]
def columnL (l : List GRect) (x : Int) : List Gspan := (isort ltS (spansAt l x)).foldl mrg []

theorem length_mrg (out : List Gspan) (s : Gspan) : (mrg out s).length ≤ out.length + 1 := by
  unfold mrg
  cases out.getLast? with
  | none => simp
  | some q => simp only; cases decide (s.from_ ≤ q.to) <;> simp <;> omega

theorem length_spansAt (l : List GRect) (x : Int) : (spansAt l x).length ≤ l.length := by
  simp only [spansAt, List.length_map]; exact List.length_filter_le _ _

theorem length_columnL (l : List GRect) (x : Int) : (columnL l x).length ≤ l.length := by
  have : ∀ (ys out : List Gspan), (ys.foldl mrg out).length ≤ out.length + ys.length := by
    intro ys
    induction ys with
    | nil => intro out; simp
    | cons y ys ih =>
      intro out
      simp only [List.foldl_cons, List.length_cons]
      have := ih (mrg out y); have := length_mrg out y; omega
  have h := this (isort ltS (spansAt l x)) []
  rw [length_isort] at h
  have := length_spansAt l x
  simp only [List.length_nil] at h
  unfold columnL
  omega

theorem rg_column_s1_run {l : List GRect} {x : Int} (hl : l.length < 1099511627776) {n : Nat} (hn : l.length < n) : iter (rg_column_s1 l x) n ((0 : Int), ([] : List Gspan)) = some (spansAt l x) := by
  have := iter_foldI (l := l) (step := rg_column_s1 l x) (fun i (s : List Gspan) => ((i : Int), s)) (fun r s => bif decide (r.x0 ≤ x) && decide (x < r.x1) then s ++ [⟨r.y0, r.y1⟩] else s) (fun s => s) (fun i s => s.length ≤ i)
    (fun i hi s hs => ?_) (fun s hs => by simp [rg_column_s1]) n hn [] (Nat.le_refl _)
  · rw [show ((0 : Nat) : Int) = 0 from rfl] at this
    rw [this]
    congr 1
    have gen : ∀ (ys : List GRect) (s : List Gspan), ys.foldl (fun s r => bif decide (r.x0 ≤ x) && decide (x < r.x1) then s ++ [⟨r.y0, r.y1⟩] else s) s = s ++ spansAt ys x := by
      intro ys
      induction ys with
      | nil => intro s; simp [spansAt]
      | cons y ys ih =>
        intro s
        simp only [List.foldl_cons, ih]
        cases h : (decide (y.x0 ≤ x) && decide (x < y.x1)) with
        | true => simp [spansAt, h]
        | false => simp [spansAt, h]
    simpa using gen l []
  · have hi' : decide (((i : Nat) : Int) < (l.length : Int)) = true := by simpa using hi
    have ap : appOk s.length s.length (sub ([(Gspan.mk l[i].y0 l[i].y1)] : List Gspan) 0 1).length 1 16 = true := appOk_true (n := 1) (by omega) (by simp only [maxLen]; omega)
    simp only [rg_column_s1, hi', cond_true, at_get hi, Option.bind_some, bifand]
    cases h : (decide (l[i].x0 ≤ x) && decide (x < l[i].x1)) with
    | true =>
      simp only [cond_true, ap, letv_eq, eqL_self, Option.bind_some]
      refine ⟨?_, by simp; omega⟩
      rw [wrap_succ (by omega)]; rfl
    | false =>
      simp only [cond_false, eqL_self, cond_true, Option.bind_some]
      exact ⟨by rw [wrap_succ (by omega)], by omega⟩

theorem getLast_at {α : Type} {l : List α} (h : 0 < l.length) : at? l (((0 : Nat) : Int) + IntKind.i64.wrap (((l.length : Nat) : Int) - 1)) = l.getLast? ∨ 9223372036854775807 < l.length := by
  by_cases hb : l.length ≤ 9223372036854775807
  · left
    rw [wrap_pred h hb, at_natz, List.getLast?_eq_getElem?]
  · exact .inr (by omega)

theorem rg_column_s2_run {n : Nat} (w1 r2 : List Gspan) (hw : w1.length = r2.length) (hl : r2.length < 1099511627776) (hn : r2.length < n) : iter (rg_column_s2 w1 r2) n ((0 : Int), ([] : List Gspan)) = some (r2.foldl mrg []) := by
  have := iter_foldI (l := r2) (step := rg_column_s2 w1 r2) (fun i (s : List Gspan) => ((i : Int), s)) (fun r s => mrg s r) (fun s => s) (fun i s => s.length ≤ i)
    (fun i hi s hs => ?_) (fun s hs => by simp [rg_column_s2, hw]) n hn [] (Nat.le_refl _)
  · rw [show ((0 : Nat) : Int) = 0 from rfl] at this
    exact this
  · refine ⟨?_, by have := length_mrg s r2[i]; omega⟩
    have hi' : decide (((i : Nat) : Int) < ((w1.length : Nat) : Int)) = true := by simp; omega
    have ib : inb (i : Int) w1.length = true := inb_get (by omega)
    have ap : appOk s.length s.length (sub ([r2[i]] : List Gspan) 0 1).length 1 16 = true := appOk_true (n := 1) (by omega) (by simp only [maxLen]; omega)
    simp only [rg_column_s2, hi', cond_true, ib, at_getz hi, Option.bind_some]
    rcases List.eq_nil_or_concat s with rfl | ⟨s0, q, hsq⟩
    · have d0 : decide (((([] : List Gspan).length : Nat) : Int) > 0) = false := by simp
      simp only [d0, cond_false, Option.bind_some, ap, cond_true, letv_eq, eqL_self]
      rw [wrap_succ (by omega)]
      rfl
    · rw [List.concat_eq_append] at hsq
      subst hsq
      have d0 : decide (((((s0 ++ [q]).length : Nat) : Int)) > 0) = true := by simp <;> omega
      have lenq : (s0 ++ [q]).length = s0.length + 1 := by simp
      have wp : IntKind.i64.wrap ((((s0 ++ [q]).length : Nat) : Int) - 1) = ((s0.length : Nat) : Int) := by rw [wrap_pred (by simp) (by omega), lenq]; rfl
      have ib2 : inb ((s0.length : Nat) : Int) (s0 ++ [q]).length = true := inb_get (by omega)
      have g : at? (s0 ++ [q]) (((0 : Nat) : Int) + ((s0.length : Nat) : Int)) = some q := by rw [at_natz]; simp
      have z : (((0 : Nat) : Int) + ((s0.length : Nat) : Int)).toNat = s0.length := by simp
      have st : (s0 ++ [q]).set s0.length (Gspan.mk q.from_ (max q.to r2[i].to)) = s0 ++ [⟨q.from_, max q.to r2[i].to⟩] := by simp
      have m : mrg (s0 ++ [q]) r2[i] = bif decide (r2[i].from_ ≤ q.to) then s0 ++ [⟨q.from_, max q.to r2[i].to⟩] else s0 ++ [q] ++ [r2[i]] := by
        simp [mrg]
      simp only [d0, cond_true, wp, ib2, g, Option.bind_some, m, z, st]
      cases decide (r2[i].from_ ≤ q.to) with
      | true =>
        have e : eqL (s0 ++ [q]).length (s0 ++ [(⟨q.from_, max q.to r2[i].to⟩ : Gspan)]).length = true := by simp
        simp only [cond_true, e, Option.bind_some, eqL_self]
        rw [wrap_succ (by omega)]
      | false =>
        simp only [cond_false, ap, cond_true, letv_eq, eqL_self, Option.bind_some]
        rw [wrap_succ (by omega)]
        rfl

theorem rg_column_eq {n : Nat} {l : List GRect} {x : Int} (hl : l.length ≤ 12) (hn : 13 ≤ n) : rg_column n l x = some (columnL l x) := by
  have h1 := length_spansAt l x
  have h2 : (isort ltS (spansAt l x)).length = (spansAt l x).length := length_isort _
  unfold rg_column
  simp only [List.length_nil, eqL_self, cond_true, rg_column_s1_run (x := x) (l := l) (by omega) (n := n) (by omega), Option.bind_some]
  rw [sl_SortFunc_span_eq (fun x y => rg_column_f1_eq x y) (by omega) hn]
  simp only [Option.bind_some]
  rw [rg_column_s2_run _ _ h2.symm (by omega) (by omega)]
  simp only [Option.bind_some, sub_all, eqL_self, cond_true]
  rfl

/-- The numbers at which rectangles begin or end. -/
def edgesL (l : List GRect) : List Int := setL (l.flatMap fun r => [r.x0, r.x1])
def pairsL {α : Type} (f : Int → Int → α) : List Int → List α
  | a :: b :: l => f a b :: pairsL f (b :: l)
  | _ => []
def stripsL (l : List GRect) : List Gstrip := pairsL (fun a b => ⟨a, b, columnL l a⟩) (edgesL l)

theorem pairsL_get {α : Type} (f : Int → Int → α) : ∀ (l : List Int), (pairsL f l).length = l.length - 1 ∧ ∀ i (h : i + 1 < l.length) (h' : i < (pairsL f l).length), (pairsL f l)[i] = f l[i] l[i + 1]
  | [] => ⟨rfl, fun i h => by simp at h⟩
  | [a] => ⟨rfl, fun i h => by simp at h⟩
  | a :: b :: l => by
    obtain ⟨h1, h2⟩ := pairsL_get f (b :: l)
    refine ⟨by simp only [pairsL, List.length_cons, h1]; simp, fun i h h' => ?_⟩
    cases i with
    | zero => rfl
    | succ i =>
      simp only [pairsL, List.getElem_cons_succ]
      exact h2 i (by simpa using h) _

theorem flatMap_len (l : List GRect) : (l.flatMap fun r => [r.x0, r.x1]).length = 2 * l.length := by
  induction l with
  | nil => rfl
  | cons x l ih => simp only [List.flatMap_cons, List.length_append, ih, List.length_cons, List.length_nil]; omega

theorem length_compactL (l : List Int) : (compactL l).length ≤ l.length := by
  match l with
  | [] => simp [compactL]
  | [x] => simp [compactL]
  | x :: y :: l =>
    have := length_compactL (y :: l)
    simp only [compactL]
    cases x == y <;> simp at * <;> omega

theorem length_edgesL (l : List GRect) : (edgesL l).length ≤ 2 * l.length := by
  have h := length_compactL (isort (fun a b => decide (a < b)) (l.flatMap fun r => [r.x0, r.x1]))
  rw [length_isort, flatMap_len] at h
  exact h

theorem rg_strips_s1_run {n : Nat} {l : List GRect} (hl : l.length < 10995116277) (hn : l.length < n) : iter (rg_strips_s1 l) n ((0 : Int), ([] : List Int)) = some (l.flatMap fun r => [r.x0, r.x1]) := by
  have := iter_foldI (l := l) (step := rg_strips_s1 l) (fun i (s : List Int) => ((i : Int), s)) (fun r s => s ++ [r.x0, r.x1]) (fun s => s) (fun i s => s.length ≤ 2 * i)
    (fun i hi s hs => ?_) (fun s hs => by simp [rg_strips_s1]) n hn [] (Nat.le_refl _)
  · rw [show ((0 : Nat) : Int) = 0 from rfl] at this
    rw [this]
    have gen : ∀ (ys : List GRect) (s : List Int), ys.foldl (fun s r => s ++ [r.x0, r.x1]) s = s ++ ys.flatMap fun r => [r.x0, r.x1] := by
      intro ys
      induction ys with
      | nil => intro s; simp
      | cons y ys ih => intro s; simp [ih]
    congr 1
    simpa using gen l []
  · have hi' : decide (((i : Nat) : Int) < ((l.length : Nat) : Int)) = true := by simpa using hi
    have ap : appOk s.length s.length (sub ([l[i].x0, l[i].x1] : List Int) 0 2).length 2 8 = true := appOk_true (n := 2) (by omega) (by simp only [maxLen]; omega)
    simp only [rg_strips_s1, hi', cond_true, inb_get hi, at_getz hi, Option.bind_some, ap, letv_eq, eqL_self]
    refine ⟨?_, by simp; omega⟩
    rw [wrap_succ (by omega)]; rfl

theorem rg_strips_eq {n : Nat} {l : List GRect} (hl : l.length ≤ 6) (hn : 30 ≤ n) : rg_strips n [l] = some (stripsL l) := by
  have he := length_edgesL l
  unfold rg_strips
  rw [sl_Concat_Rect_eq (by simp; omega) (by simp) (by simp; omega)]
  have fl : [l].flatten = l := by simp
  simp only [fl, Option.bind_some, List.length_nil, eqL_self, cond_true, rg_strips_s1_run (l := l) (n := n) (by omega) (by omega)]
  rw [sl_Sort_int_eq (by rw [flatMap_len]; omega) (by omega)]
  simp only [Option.bind_some, length_isort, eqL_self, cond_true]
  rw [sl_Compact_int_eq (by rw [length_isort, flatMap_len]; omega) (by rw [length_isort, flatMap_len]; omega)]
  simp only [Option.bind_some]
  have hE : compactL (isort ltI (l.flatMap fun r => [r.x0, r.x1])) = edgesL l := rfl
  rw [hE]
  obtain ⟨p1, p2⟩ := pairsL_get (fun a b => (⟨a, b, columnL l a⟩ : Gstrip)) (edgesL l)
  have key : iter (rg_strips_s2 n l ((), edgesL l)) n ((1 : Int), ([] : List Gstrip)) = some (stripsL l) := by
    have := iter_to (step := rg_strips_s2 n l ((), edgesL l)) (fun i => (((i + 1 : Nat) : Int), (stripsL l).take i)) (stripsL l).length (stripsL l) (fun i hi => ?_) ?_ n (by unfold stripsL; omega)
    · simpa using this
    · have hi2 : i + 1 < (edgesL l).length := by unfold stripsL at hi; omega
      have d : decide (((i + 1 : Nat) : Int) < (((edgesL l).length : Nat) : Int)) = true := by simp; omega
      have wp : IntKind.i64.wrap (((i + 1 : Nat) : Int) - 1) = ((i : Nat) : Int) := by rw [wrap_pred (by omega) (by omega)]; rfl
      have ap : appOk ((stripsL l).take i).length ((stripsL l).take i).length (sub ([(Gstrip.mk ((edgesL l)[i]'(by omega)) (edgesL l)[i + 1] (columnL l ((edgesL l)[i]'(by omega))))] : List Gstrip) 0 1).length 1 40 = true := by
        refine appOk_true (n := 1) ?_ ?_
        · rw [List.length_take]; unfold stripsL; omega
        · rw [List.length_take]; unfold stripsL; simp only [maxLen]; omega
      have tk : (stripsL l).take (i + 1) = (stripsL l).take i ++ [⟨(edgesL l)[i]'(by omega), (edgesL l)[i + 1], columnL l ((edgesL l)[i]'(by omega))⟩] := by
        rw [List.take_succ_eq_append_getElem hi]
        congr 2
        exact p2 i hi2 hi
      simp only [rg_strips_s2, d, cond_true, wp, inb_get (show i < (edgesL l).length by omega), at_getz (show i < (edgesL l).length by omega), Option.bind_some, inb_get hi2, at_getz hi2, sub_all, eqL_self, rg_column_eq (l := l) (n := n) (by omega) (by omega), ap, letv_eq]
      rw [wrap_succ (by omega), tk]
      rfl
    · have d : decide ((((stripsL l).length + 1 : Nat) : Int) < (((edgesL l).length : Nat) : Int)) = false := by
        unfold stripsL; simp; omega
      simp only [rg_strips_s2, d, cond_false, List.take_length, eqL_self, cond_true]
  rw [key]
  simp only [Option.bind_some, sub_all, eqL_self, cond_true]
end Go.Proofs

namespace Go.Proofs
open Go.Gb Go.RowKit

/-- The rectangles of a column. -/
def rectsL (x0 x1 : Int) (c : List Gspan) : List GRect := c.map fun q => ⟨x0, q.from_, x1, q.to⟩
/-- Strips as rectangles; neighbours with one column become one. -/
def wrGo (x0 x1 : Int) (c : List Gspan) : List Gstrip → List GRect
  | [] => rectsL x0 x1 c
  | s :: l => if s.column = c then wrGo x0 s.x1 c l else rectsL x0 x1 c ++ wrGo s.x0 s.x1 s.column l
def writeL : List Gstrip → List GRect
  | [] => []
  | s :: l => wrGo s.x0 s.x1 s.column l

theorem wrGo_skip (x0 : Int) (c : List Gspan) : ∀ (l : List Gstrip) (x1 : Int) (k : Nat) (hk : k ≤ l.length), (∀ j (hj : j < k), (l[j]'(by omega)).column = c) → (∀ h : k < l.length, l[k].column ≠ c) →
    wrGo x0 x1 c l = rectsL x0 (if h : 0 < k then (l[k - 1]'(by omega)).x1 else x1) c ++ writeL (l.drop k)
  | l, x1, 0, _, _, h2 => by
    cases l with
    | nil => simp [wrGo, writeL]
    | cons s l =>
      have := h2 (by simp)
      simp only [List.getElem_cons_zero] at this
      simp [wrGo, writeL, this]
  | [], x1, k + 1, hk, _, _ => by simp at hk
  | s :: l, x1, k + 1, hk, h1, h2 => by
    have e0 := h1 0 (by omega)
    simp only [List.getElem_cons_zero] at e0
    simp only [wrGo, e0, if_true]
    rw [wrGo_skip x0 c l s.x1 k (by simpa using hk) (fun j hj => by have := h1 (j + 1) (by omega); simpa using this) (fun h => by have := h2 (by simpa using h); simpa using this)]
    simp only [List.drop_succ_cons]
    congr 2
    by_cases hk0 : 0 < k
    · simp only [hk0, dite_true, Nat.zero_lt_succ, Nat.add_sub_cancel]
      obtain ⟨m, rfl⟩ : ∃ m, k = m + 1 := ⟨k - 1, by omega⟩
      simp
    · have : k = 0 := by omega
      subst this
      simp

theorem length_writeL (l : List Gstrip) (b : Nat) (h : ∀ s ∈ l, s.column.length ≤ b) : (writeL l).length ≤ l.length * b := by
  have go : ∀ (l : List Gstrip) (x0 x1 : Int) (c : List Gspan), c.length ≤ b → (∀ s ∈ l, s.column.length ≤ b) → (wrGo x0 x1 c l).length ≤ (l.length + 1) * b := by
    intro l
    induction l with
    | nil => intro x0 x1 c hc _; simp only [wrGo, rectsL, List.length_map, List.length_nil]; omega
    | cons s l ih =>
      intro x0 x1 c hc hl
      simp only [wrGo]
      split
      · have := ih x0 s.x1 c hc (fun t ht => hl t (List.mem_cons_of_mem _ ht))
        simp only [List.length_cons, Nat.add_mul] at *
        omega
      · have := ih s.x0 s.x1 s.column (hl s (by simp)) (fun t ht => hl t (List.mem_cons_of_mem _ ht))
        simp only [List.length_append, rectsL, List.length_map, List.length_cons, Nat.add_mul] at *
        omega
  cases l with
  | nil => simp [writeL]
  | cons s l =>
    simp only [writeL]
    exact go l _ _ _ (h s (by simp)) (fun t ht => h t (List.mem_cons_of_mem _ ht))

theorem rg_write_s3_run {n : Nat} {l : List Gstrip} {i k : Nat} (hi : i < l.length) (hk1 : 0 < k) (hk : k ≤ l.length) (hl : l.length < 10995116277) (x3 : Gstrip) (out : List GRect) (ho : out.length < 1099511627776) (hc : x3.column.length < 1099511627776) (hn : x3.column.length < n) :
    iter (rg_write_s3 l (i : Int) (k : Int) x3) n ((0 : Int), out) = some (out ++ rectsL l[i].x0 (l[k - 1]'(by omega)).x1 x3.column) := by
  have := iter_foldI (l := x3.column) (step := rg_write_s3 l (i : Int) (k : Int) x3) (fun j (s : List GRect) => ((j : Int), s)) (fun q s => s ++ [⟨l[i].x0, q.from_, (l[k - 1]'(by omega)).x1, q.to⟩]) (fun s => s) (fun j s => s.length ≤ out.length + j)
    (fun j hj s hs => ?_) (fun s hs => by simp [rg_write_s3]) n hn out (Nat.le_refl _)
  · rw [show ((0 : Nat) : Int) = 0 from rfl] at this
    rw [this]
    have gen : ∀ (ys : List Gspan) (s : List GRect), ys.foldl (fun s q => s ++ [⟨l[i].x0, q.from_, (l[k - 1]'(by omega)).x1, q.to⟩]) s = s ++ rectsL l[i].x0 (l[k - 1]'(by omega)).x1 ys := by
      intro ys
      induction ys with
      | nil => intro s; simp [rectsL]
      | cons y ys ih => intro s; simp only [List.foldl_cons, ih]; simp [rectsL]
    rw [gen]
  · have hj' : decide (((j : Nat) : Int) < (x3.column.length : Int)) = true := by simpa using hj
    have wp : IntKind.i64.wrap ((k : Int) - 1) = ((k - 1 : Nat) : Int) := wrap_pred hk1 (by omega)
    have ap : appOk s.length s.length (sub ([(GRect.mk l[i].x0 (x3.column[j]).from_ (l[k - 1]'(by omega)).x1 (x3.column[j]).to)] : List GRect) 0 1).length 1 32 = true := appOk_true (n := 1) (by omega) (by simp only [maxLen]; omega)
    simp only [rg_write_s3, hj', cond_true, at_get hj, at_get hi, wp, at_get (show k - 1 < l.length by omega), Option.bind_some, ap, letv_eq, eqL_self]
    refine ⟨?_, by simp; omega⟩
    rw [wrap_succ (by omega)]; rfl

theorem rg_write_eq {n : Nat} {l : List Gstrip} {b : Nat} (hb : b ≤ 100) (hl : l.length ≤ 100) (hc : ∀ s ∈ l, s.column.length ≤ b) (hn : 200 ≤ n) : rg_write n l = some (writeL l) := by
  unfold rg_write
  simp only [List.length_nil, eqL_self, cond_true]
  have main : ∀ (m i : Nat) (out : List GRect) (k : Nat), i + m = l.length → m < k → out.length ≤ i * b → iter (rg_write_s1 n l) k ((i : Int), out) = some (out ++ writeL (l.drop i)) := by
    intro m
    induction m using Nat.strongRecOn with
    | ind m ih =>
      intro i out k him hk ho
      obtain ⟨k, rfl⟩ : ∃ j, k = j + 1 := ⟨k - 1, by omega⟩
      by_cases hm : m = 0
      · subst hm
        have : i = l.length := by omega
        subst this
        refine iter_inr ?_
        simp [rg_write_s1, writeL]
      · have hi : i < l.length := by omega
        have di : decide (((i : Nat) : Int) < (l.length : Int)) = true := by simpa using hi
        -- up to where the columns are alike
        obtain ⟨q, hq1, hq2, hq3, hq4⟩ : ∃ q, i < q ∧ q ≤ l.length ∧ (∀ j, i < j → j < q → ∀ h : j < l.length, l[j].column = l[i].column) ∧ (∀ h : q < l.length, l[q].column ≠ l[i].column) := by
          rcases first_or_none (fun j => if h : j < l.length then decide (l[j].column ≠ l[i].column) else false) (i + 1) l.length with ⟨q, h1, h2, h3, h4⟩ | h
          · simp only [h2, dite_true, decide_eq_true_eq] at h3
            refine ⟨q, by omega, by omega, fun j hj1 hj2 hj => ?_, fun _ => h3⟩
            have := h4 j (by omega) hj2
            simp only [hj, dite_true, decide_eq_false_iff_not, ne_eq, Decidable.not_not] at this
            exact this
          · refine ⟨l.length, hi, Nat.le_refl _, fun j hj1 hj2 hj => ?_, fun h => by omega⟩
            have := h j (by omega) hj
            simp only [hj, dite_true, decide_eq_false_iff_not, ne_eq, Decidable.not_not] at this
            exact this
        have cl : ∀ j (hj : j < l.length), l[j].column.length ≤ b := fun j hj => hc _ (List.getElem_mem hj)
        have r2 : iter (rg_write_s2 n l (i : Int)) n (IntKind.i64.wrap ((i : Int) + 1)) = some (q : Int) := by
          rw [wrap_succ (by omega)]
          have := iter_to (step := rg_write_s2 n l (i : Int)) (fun j => ((i + 1 + j : Nat) : Int)) (q - (i + 1)) (q : Int) (fun j hj => ?_) ?_ n (by omega)
          · simpa using this
          · have hjl : i + 1 + j < l.length := by omega
            have dj : decide (((i + 1 + j : Nat) : Int) < (l.length : Int)) = true := by simp; omega
            have hcc := cl (i + 1 + j) hjl
            simp only [rg_write_s2, dj, cond_true, at_get hjl, at_get hi, Option.bind_some]
            rw [sl_Equal_span_eq (by omega) (by omega), hq3 (i + 1 + j) (by omega) (by omega) hjl]
            simp only [decide_true, Option.bind_some, cond_true]
            rw [wrap_succ (by omega)]; rfl
          · rw [show i + 1 + (q - (i + 1)) = q by omega]
            by_cases hql : q < l.length
            · have dj : decide (((q : Nat) : Int) < (l.length : Int)) = true := by simpa using hql
              have hcc := cl q hql
              simp only [rg_write_s2, dj, cond_true, at_get hql, at_get hi, Option.bind_some]
              rw [sl_Equal_span_eq (by omega) (by omega)]
              simp [hq4 hql]
            · have dj : decide (((q : Nat) : Int) < (l.length : Int)) = false := by simp; omega
              simp only [rg_write_s2, dj, cond_false, Option.bind_some]
        have ob : i * b ≤ 100 * 100 := Nat.mul_le_mul (by omega) hb
        have hci := cl i hi
        have r3 := rg_write_s3_run (n := n) hi (show 0 < q by omega) hq2 (by omega) l[i] out (by omega) (by omega) (by omega)
        have step : rg_write_s1 n l ((i : Int), out) = some (.inl ((q : Int), out ++ rectsL l[i].x0 (l[q - 1]'(by omega)).x1 l[i].column)) := by
          simp only [rg_write_s1, di, cond_true, r2, at_get hi, Option.bind_some, eqL_self, r3]
        rw [iter_inl step, ih (l.length - q) (by omega) q _ k (by omega) (by omega) (by
          rw [List.length_append, rectsL, List.length_map]
          have : (i + 1) * b ≤ q * b := Nat.mul_le_mul_right _ (by omega)
          rw [Nat.add_mul] at this
          omega)]
        rw [List.append_assoc]
        congr 2
        conv => rhs; rw [List.drop_eq_getElem_cons hi]
        simp only [writeL]
        rw [wrGo_skip l[i].x0 l[i].column (l.drop (i + 1)) l[i].x1 (q - (i + 1)) (by rw [List.length_drop]; omega) (fun j hj => by
          rw [List.getElem_drop]; exact hq3 _ (by omega) (by omega) (by omega)) (fun h => by
          rw [List.length_drop] at h
          rw [List.getElem_drop]
          have := hq4 (by omega)
          have hqq : i + 1 + (q - (i + 1)) = q := by omega
          simp only [hqq]; exact this)]
        rw [List.drop_drop, show i + 1 + (q - (i + 1)) = q by omega]
        congr 2
        by_cases h0 : 0 < q - (i + 1)
        · simp only [h0, dite_true, List.getElem_drop]
          congr 2
          omega
        · simp only [h0, dite_false]
          have : q - 1 = i := by omega
          congr 2
  have := main l.length 0 [] n (by omega) (by omega) (by simp)
  simp only [Int.natCast_zero, List.nil_append, List.drop_zero] at this
  rw [this]
  simp

/-- The region of some rectangles; what went wrong. -/
def ofL (l : List GRect) : List GRect × Int :=
  if l.all OkR then (if (writeL (stripsL l)).length > 200 then ([], 6) else (writeL (stripsL l), 0)) else ([], 1)
def rightL (l : List GRect) : Bool := decide ((ofL l).2 = 0) && decide ((ofL l).1 = l)

theorem stripsL_col {l : List GRect} {s : Gstrip} (h : s ∈ stripsL l) : s.column.length ≤ l.length := by
  obtain ⟨i, hi, rfl⟩ := List.getElem_of_mem h
  obtain ⟨p1, p2⟩ := pairsL_get (fun a b => (⟨a, b, columnL l a⟩ : Gstrip)) (edgesL l)
  have : (stripsL l)[i] = ⟨(edgesL l)[i]'(by unfold stripsL at hi; omega), (edgesL l)[i + 1]'(by unfold stripsL at hi; omega), columnL l ((edgesL l)[i]'(by unfold stripsL at hi; omega))⟩ := p2 i (by unfold stripsL at hi; omega) hi
  rw [this]
  exact length_columnL l _

theorem length_stripsL (l : List GRect) : (stripsL l).length ≤ 2 * l.length := by
  obtain ⟨p1, _⟩ := pairsL_get (fun a b => (⟨a, b, columnL l a⟩ : Gstrip)) (edgesL l)
  have := length_edgesL l
  unfold stripsL
  omega

theorem rg_Of_eq {n : Nat} {l : List GRect} (hl : l.length ≤ 6) (hn : 200 ≤ n) : rg_Of n l = some (ofL l) := by
  unfold rg_Of
  have h1 := iter_find (l := l) (step := rg_Of_s1 l) (fun i => (i : Int)) (fun r => !OkR r) () (fun _ => (([] : List GRect), (1 : Int))) (fun i hi => ?_) ?_ n (by omega)
  · rw [show ((0 : Nat) : Int) = 0 from rfl] at h1
    rw [h1]
    have h2 := findL_isSome (fun r => !OkR r) l
    cases hf : findL (fun r => !OkR r) l with
    | some i =>
      rw [hf] at h2
      have : l.all OkR = false := by
        rw [← Bool.not_eq_true, List.all_eq_true]
        intro hall
        have h3 := h2.symm
        simp only [Option.isSome_some, List.any_eq_true] at h3
        obtain ⟨x, hx, hx2⟩ := h3
        rw [hall x hx] at hx2; cases hx2
      simp [ofL, this]
    | none =>
      rw [hf] at h2
      have : l.all OkR = true := by
        rw [List.all_eq_true]
        intro x hx
        cases h : OkR x with
        | true => rfl
        | false =>
          have : l.any (fun r => !OkR r) = true := List.any_eq_true.2 ⟨x, hx, by rw [h]; rfl⟩
          rw [this] at h2; cases h2
      have d4 : decide ((l.length : Int) > 400) = false := by simp; omega
      have ls := length_stripsL l
      have lw := length_writeL (stripsL l) 6 (fun s hs => Nat.le_trans (stripsL_col hs) hl)
      simp only [thenB_inl, d4, cond_false]
      rw [show (sub ([l] : List (List GRect)) 0 1) = [l] from rfl, rg_strips_eq hl (by omega)]
      simp only [List.length_singleton, eqL_self, cond_true, Option.bind_some, sub_all]
      rw [rg_write_eq (b := 6) (by omega) (by omega) (fun s hs => Nat.le_trans (stripsL_col hs) hl) hn]
      simp only [Option.bind_some, sub_all, eqL_self, cond_true, rg_limited, ofL, this, if_true]
      by_cases h200 : (writeL (stripsL l)).length > 200
      · have : decide (((writeL (stripsL l)).length : Int) > 200) = true := by simp; omega
        simp only [this, cond_true, Option.bind_some, h200, if_true]
      · have : decide (((writeL (stripsL l)).length : Int) > 200) = false := by simp; omega
        simp only [this, cond_false, Option.bind_some, h200, if_false]
  · have hi' : decide (((i : Nat) : Int) < (l.length : Int)) = true := by simpa using hi
    simp only [rg_Of_s1, hi', cond_true, at_get hi, Option.bind_some, r_Right_eq]
    cases OkR l[i] with
    | false => rfl
    | true => simp only [Bool.not_true, cond_false]; rw [wrap_succ (by omega)]
  · simp [rg_Of_s1]

theorem rg_Right_eq {n : Nat} {l : List GRect} (hl : l.length ≤ 6) (hn : 200 ≤ n) : rg_Right n l = some (rightL l) := by
  unfold rg_Right rightL
  rw [rg_Of_eq hl hn]
  simp only [Option.bind_some]
  by_cases h : (ofL l).2 = 0
  · have e : ((ofL l).2 == 0) = true := by simp [h]
    have lo : (ofL l).1.length ≤ 200 := by
      unfold ofL
      split
      · split
        · simp
        · simp; omega
      · simp
    by_cases hlen : (ofL l).1.length < n
    · simp only [e, cond_true, h, decide_true, Bool.true_and]
      rw [sl_Equal_Rect_eq (by omega) hlen]; rfl
    · have : (ofL l).1.length ≠ l.length := by omega
      have hne : (ofL l).1 ≠ l := fun e => this (by rw [e])
      simp only [e, cond_true, h, decide_true, Bool.true_and]
      unfold sl_Equal_Rect
      have hb : (((ofL l).1.length : Int) != (l.length : Int)) = true := by simp; omega
      rw [hb]
      simp [hne]
  · have e : ((ofL l).2 == 0) = false := by simp [h]
    simp [e, h]
end Go.Proofs

namespace Go.Proofs
open Go.Gb Go.RowKit

/-! ### Gaps -/
def gapR (a b : GRect) : Int := bif (!OkR a || !OkR b) then -1 else max (max 0 (IntKind.i64.wrap ((max a.x0 b.x0) - (min a.x1 b.x1)))) (IntKind.i64.wrap ((max a.y0 b.y0) - (min a.y1 b.y1)))

theorem r_Gap_eq (a b : GRect) : r_Gap a b = some (gapR a b) := by
  unfold r_Gap gapR
  rw [r_Right_eq, r_Right_eq]
  simp only [Option.bind_some]
  cases OkR a <;> cases OkR b <;> rfl

def gapL (a b : List GRect) : Int × Bool :=
  bif (decide (a = []) || (decide (b = []) || (!rightL a || !rightL b))) then (0, false) else (a.foldl (fun m x => b.foldl (fun m y => min m (gapR x y)) m) 1048576, true)

theorem of_Gap_s2_run {n : Nat} {b : List GRect} (hb : b.length < 1099511627776) (hn : b.length < n) (x : GRect) (m : Int) : iter (of_Gap_s2 b x) n (m, (0 : Int)) = some (b.foldl (fun m y => min m (gapR x y)) m) := by
  have := iter_fold (l := b) (step := of_Gap_s2 b x) (fun i (s : Int) => (s, ((i : Nat) : Int))) (fun y m => min m (gapR x y)) (fun s => s) (fun i hi s => ?_) (fun s => by simp [of_Gap_s2]) n hn m
  · exact this
  · have hi' : decide (((i : Nat) : Int) < (b.length : Int)) = true := by simpa using hi
    simp only [of_Gap_s2, hi', cond_true, at_get hi, Option.bind_some, r_Gap_eq]
    rw [wrap_succ (by omega)]

theorem of_Gap_eq {n : Nat} {a b : List GRect} (ha : a.length ≤ 6) (hb : b.length ≤ 6) (hn : 200 ≤ n) : of_Gap n a b = some (gapL a b) := by
  unfold of_Gap gapL
  have z : ∀ l : List GRect, (((l.length : Int)) == 0) = decide (l = []) := fun l => by cases l <;> simp <;> omega
  rw [z a, z b, rg_Right_eq ha hn, rg_Right_eq hb hn]
  have loop : (iter (of_Gap_s1 n a b) n ((1048576 : Int), (0 : Int))) = some (a.foldl (fun m x => b.foldl (fun m y => min m (gapR x y)) m) 1048576) := by
    have := iter_fold (l := a) (step := of_Gap_s1 n a b) (fun i (s : Int) => (s, ((i : Nat) : Int))) (fun x m => b.foldl (fun m y => min m (gapR x y)) m) (fun s => s) (fun i hi s => ?_) (fun s => by simp [of_Gap_s1]) n (by omega) 1048576
    · exact this
    · have hi' : decide (((i : Nat) : Int) < (a.length : Int)) = true := by simpa using hi
      simp only [of_Gap_s1, hi', cond_true, at_get hi, Option.bind_some]
      rw [of_Gap_s2_run (by omega) (by omega), Option.bind_some, wrap_succ (by omega)]
  simp only [Option.bind_some, loop]
  cases decide (a = []) <;> cases decide (b = []) <;> cases rightL a <;> cases rightL b <;> rfl

/-! ### Lots -/
def noLot : GLot := GLot.mk 0 0 [] []
def findLot (land : List GLot) (id : Int) : GLot × Bool := match land.find? fun t => t.id == id with
  | some t => (t, true)
  | none => (noLot, false)

abbrev LotOk (t : GLot) : Prop := t.area.length ≤ 6 ∧ t.from_.length ≤ 10

theorem pc_clone_eq {t : GLot} (h : LotOk t) : pc_clone t = some t := by
  unfold pc_clone
  rw [sl_Clone_Rect_eq (by omega), Option.bind_some, sl_Clone_int_eq (by omega), Option.bind_some]
  simp only [sub_all, eqL_self, cond_true]

theorem findL_find {α : Type} (p : α → Bool) (l : List α) : (∃ (i : Nat) (h : i < l.length), findL p l = some i ∧ l.find? p = some l[i]) ∨ (findL p l = none ∧ l.find? p = none) := by
  rcases findL_spec p l with ⟨i, hi, h1, h2, h3⟩ | ⟨h1, h2⟩
  · refine .inl ⟨i, hi, h1, ?_⟩
    rw [List.find?_eq_some_iff_getElem]
    exact ⟨h2, i, hi, rfl, fun j hj => by simpa using h3 j hj⟩
  · refine .inr ⟨h1, ?_⟩
    rw [List.find?_eq_none]
    intro x hx; rw [h2 x hx]; simp

theorem pc_Find_eq {n : Nat} {land : List GLot} {id : Int} (h : ∀ t ∈ land, LotOk t) (hl : land.length < 1099511627776) (hn : land.length < n) : pc_Find n land id = some (findLot land id) := by
  unfold pc_Find
  have := iter_find (l := land) (step := pc_Find_s1 land id) (fun i => (i : Int)) (fun t => t.id == id) () (fun i => (land.getD i noLot, true)) (fun i hi => ?_) ?_ n hn
  · rw [show ((0 : Nat) : Int) = 0 from rfl] at this
    rw [this]
    unfold findLot
    rcases findL_find (fun t : GLot => t.id == id) land with ⟨i, hi, h1, h2⟩ | ⟨h1, h2⟩
    · rw [h1, h2]; simp [hi]
    · rw [h1, h2]; rfl
  · have hi' : decide (((i : Nat) : Int) < (land.length : Int)) = true := by simpa using hi
    simp only [pc_Find_s1, hi', cond_true, at_get hi, Option.bind_some, pc_clone_eq (h _ (List.getElem_mem hi))]
    cases land[i].id == id with
    | true => simp [hi]
    | false => simp only [cond_false]; rw [wrap_succ (by omega)]
  · simp [pc_Find_s1]

theorem findLot_ok {land : List GLot} (h : ∀ t ∈ land, LotOk t) (id : Int) : LotOk (findLot land id).1 := by
  unfold findLot
  split
  · rename_i t ht
    exact h t (List.mem_of_find?_eq_some ht)
  · simp [LotOk, noLot]

def isNear (t : GLot) (id d : Int) (u : GLot) : Bool := (gapL t.area u.area).2 && (decide ((gapL t.area u.area).1 ≤ d) && (u.id != id))
def nearIds (land : List GLot) (t : GLot) (id d : Int) : List Int := (land.filter fun u => isNear t id d u).map (·.id)
def nearL (land : List GLot) (id d : Int) : List Int :=
  bif (findLot land id).2 then setL (nearIds land (findLot land id).1 id d) else []

theorem pc_Near_s1_run {n : Nat} {land : List GLot} (hl : land.length < 10995116277) (hn : land.length < n) : iter (pc_Near_s1 land) n ((0 : Int), ([] : List (List GRect))) = some (land.map (·.area)) := by
  have := iter_to (step := pc_Near_s1 land) (fun i => (((i : Nat) : Int), (land.take i).map (·.area))) land.length (land.map (·.area)) (fun i hi => ?_) ?_ n hn
  · simpa using this
  · have hi' : decide (((i : Nat) : Int) < (land.length : Int)) = true := by simpa using hi
    have ap : appOk ((land.take i).map (·.area)).length ((land.take i).map (·.area)).length (sub ([land[i].area] : List (List GRect)) 0 1).length 1 24 = true := by
      refine appOk_true (n := 1) ?_ ?_
      · rw [List.length_map, List.length_take]; omega
      · rw [List.length_map, List.length_take]; simp only [maxLen]; omega
    simp only [pc_Near_s1, hi', cond_true, at_get hi, Option.bind_some, ap, letv_eq, eqL_self]
    rw [wrap_succ (by omega), List.take_succ_eq_append_getElem hi, List.map_append]
    rfl
  · simp [pc_Near_s1]

theorem pc_Near_eq {n : Nat} {land : List GLot} {id d : Int} (h : ∀ t ∈ land, LotOk t) (hl : land.length ≤ 8) (hn : 200 ≤ n) : pc_Near n land id d = some (nearL land id d) := by
  unfold pc_Near nearL
  rw [pc_Find_eq h (by omega) (by omega)]
  simp only [Option.bind_some]
  cases hf : (findLot land id).2 with
  | false => rfl
  | true =>
    have ht := findLot_ok h id
    simp only [Bool.not_true, cond_false, List.length_nil, eqL_self, cond_true, pc_Near_s1_run (land := land) (n := n) (by omega) (by omega), Option.bind_some]
    have key : iter (pc_Near_s2 n land id d (findLot land id) (land.map (·.area))) n ((0 : Int), ([] : List Int)) = some (nearIds land (findLot land id).1 id d) := by
      have := iter_foldI (l := land) (step := pc_Near_s2 n land id d (findLot land id) (land.map (·.area))) (fun i (s : List Int) => (((i : Nat) : Int), s)) (fun u s => bif isNear (findLot land id).1 id d u then s ++ [u.id] else s) (fun s => s) (fun i s => s.length ≤ i)
        (fun i hi s hs => ?_) (fun s hs => by simp [pc_Near_s2]) n (by omega) [] (Nat.le_refl _)
      · rw [show ((0 : Nat) : Int) = 0 from rfl] at this
        rw [this]
        have gen : ∀ (ys : List GLot) (s : List Int), ys.foldl (fun s u => bif isNear (findLot land id).1 id d u then s ++ [u.id] else s) s = s ++ nearIds ys (findLot land id).1 id d := by
          intro ys
          induction ys with
          | nil => intro s; simp [nearIds]
          | cons y ys ih =>
            intro s
            simp only [List.foldl_cons, ih, nearIds]
            cases hy : isNear (findLot land id).1 id d y <;> simp [hy]
        rw [gen]; simp
      · have hlm : (land.map (·.area)).length = land.length := by simp
        have hi' : decide (((i : Nat) : Int) < (((land.map (·.area)).length : Nat) : Int)) = true := by rw [hlm]; simpa using hi
        have ib : inb ((i : Nat) : Int) (land.map (·.area)).length = true := inb_get (by omega)
        have g : at? (land.map (·.area)) (((0 : Nat) : Int) + ((i : Nat) : Int)) = some land[i].area := by rw [at_natz]; simp [hi]
        have hu := h _ (List.getElem_mem hi)
        have ap : appOk s.length s.length (sub ([land[i].id] : List Int) 0 1).length 1 8 = true := appOk_true (n := 1) (by omega) (by simp only [maxLen]; omega)
        have gp : of_Gap n (findLot land id).1.area land[i].area = some (gapL (findLot land id).1.area land[i].area) := of_Gap_eq ht.1 hu.1 hn
        simp only [pc_Near_s2, hi', cond_true, ib, g, Option.bind_some, gp, at_get hi]
        have e : ((bif (gapL (findLot land id).1.area land[i].area).2 then (bif (decide ((gapL (findLot land id).1.area land[i].area).1 ≤ d)) then some (land[i].id != id) else some false) else some false) : Option Bool) = some (isNear (findLot land id).1 id d land[i]) := by
          unfold isNear
          cases (gapL (findLot land id).1.area land[i].area).2 <;> cases decide ((gapL (findLot land id).1.area land[i].area).1 ≤ d) <;> rfl
        rw [e]
        simp only [Option.bind_some]
        cases isNear (findLot land id).1 id d land[i] with
        | true =>
          simp only [cond_true, ap, letv_eq, eqL_self, Option.bind_some]
          refine ⟨?_, by simp; omega⟩
          rw [wrap_succ (by omega)]; rfl
        | false =>
          simp only [cond_false, eqL_self, cond_true, Option.bind_some]
          exact ⟨by rw [wrap_succ (by omega)], by omega⟩
    have hlen : (nearIds land (findLot land id).1 id d).length ≤ 8 := by
      unfold nearIds
      rw [List.length_map]
      exact Nat.le_trans (List.length_filter_le _ _) hl
    rw [key]
    simp only [Option.bind_some, eqL_self, cond_true]
    rw [sl_Sort_int_eq (by omega) (by omega)]
    simp only [Option.bind_some, length_isort, eqL_self, cond_true]
    rw [sl_Compact_int_eq (by rw [length_isort]; omega) (by rw [length_isort]; omega)]
    simp only [Option.bind_some, sub_all, eqL_self, cond_true]
    rfl

/-! ### Distances -/
def noticeB : ByteArray := ⟨#[110, 111, 116, 105, 99, 101]⟩
def rowT (t : GTable) (name : ByteArray) : Int := match t.rows.find? fun e => ByteArray.toList e.name == ByteArray.toList name with
  | some e => e.n
  | none => t.else_
def rowL (tables : List GTable) (name : ByteArray) : Int := match tables.find? fun t => ByteArray.toList t.name == ByteArray.toList noticeB with
  | some t => rowT t name
  | none => 0

theorem idxL_cases {α : Type} (p : α → Bool) (l : List α) : (∃ (i : Nat) (h : i < l.length), idxL p l = (i : Int) ∧ l.find? p = some l[i]) ∨ (idxL p l = -1 ∧ l.find? p = none) := by
  rcases findL_find p l with ⟨i, hi, h1, h2⟩ | ⟨h1, h2⟩
  · exact .inl ⟨i, hi, by simp [idxL, h1], h2⟩
  · exact .inr ⟨by simp [idxL, h1], h2⟩

theorem nt_row_eq {n : Nat} {p : GPlan} {name : ByteArray} (h : p.tables.length < n) (hl : p.tables.length < 1099511627776) (hr : ∀ t ∈ p.tables, t.rows.length < n ∧ t.rows.length < 1099511627776) : nt_row n p name = some (rowL p.tables name) := by
  unfold nt_row rowL
  rw [sl_IndexFunc_Table_eq (fun t => ByteArray.toList t.name == ByteArray.toList noticeB) (fun x _ => rfl) hl h]
  simp only [Option.bind_some]
  rcases idxL_cases (fun t : GTable => ByteArray.toList t.name == ByteArray.toList noticeB) p.tables with ⟨i, hi, h1, h2⟩ | ⟨h1, h2⟩
  · rw [h1, h2]
    have d : decide (((i : Nat) : Int) < 0) = false := by simp
    obtain ⟨r1, r2⟩ := hr _ (List.getElem_mem hi)
    simp only [d, cond_false, at_get hi, Option.bind_some]
    rw [sl_IndexFunc_Entry_eq (fun e => ByteArray.toList e.name == ByteArray.toList name) (fun x _ => rfl) r2 r1]
    simp only [Option.bind_some, rowT]
    rcases idxL_cases (fun e : GEntry => ByteArray.toList e.name == ByteArray.toList name) p.tables[i].rows with ⟨j, hj, g1, g2⟩ | ⟨g1, g2⟩
    · rw [g1, g2]
      have d : decide (((j : Nat) : Int) < 0) = false := by simp
      simp only [d, cond_false, at_get hj, Option.bind_some]
    · rw [g1, g2]; rfl
  · rw [h1, h2]; rfl

def useNames : List ByteArray := [⟨#[104, 111, 109, 101]⟩, ⟨#[115, 104, 111, 112]⟩, ⟨#[119, 111, 114, 107]⟩, ⟨#[112, 97, 114, 107]⟩, ⟨#[112, 108, 97, 110, 116]⟩, ⟨#[104, 97, 108, 108]⟩]
def nameOf (use : Int) : Option ByteArray := at? useNames use
def volD (tables : List GTable) (m : Int) (v : GVolume) : Int := match nameOf v.use with
  | some nm => max m (rowL tables nm)
  | none => m
def distP (tables : List GTable) (m : Int) (ph : GPhase) : Int := ph.volumes.foldl (volD tables) m
def distL (tables : List GTable) (d : GDrawing) : Int := d.phases.foldl (distP tables) 0

abbrev TabsOk (ts : List GTable) : Prop := ts.length ≤ 4 ∧ ∀ t ∈ ts, t.rows.length ≤ 10
abbrev DrawOk (d : GDrawing) : Prop := d.phases.length ≤ 5 ∧ ∀ p ∈ d.phases, p.volumes.length ≤ 4

theorem nt_Distance_s2_run {n : Nat} {p : GPlan} (hp : TabsOk p.tables) {ph : GPhase} (hv : ph.volumes.length ≤ 4) (hn : 200 ≤ n) (m : Int) : iter (nt_Distance_s2 n p ph) n (m, (0 : Int)) = some (distP p.tables m ph) := by
  have := iter_fold (l := ph.volumes) (step := nt_Distance_s2 n p ph) (fun i (s : Int) => (s, ((i : Nat) : Int))) (fun v m => volD p.tables m v) (fun s => s) (fun i hi s => ?_) (fun s => by simp [nt_Distance_s2]) n (by omega) m
  · exact this
  · have hi' : decide (((i : Nat) : Int) < (ph.volumes.length : Int)) = true := by simpa using hi
    have rw1 : ∀ nm, nt_row n p nm = some (rowL p.tables nm) := fun nm => nt_row_eq (by omega) (by omega) (fun t ht => by have := hp.2 t ht; omega)
    simp only [nt_Distance_s2, hi', cond_true, at_get hi, Option.bind_some]
    have e : ((bif (decide (ph.volumes[i].use ≥ (0 : Int))) then some (decide (ph.volumes[i].use < (6 : Int))) else some false) : Option Bool) = some (inb ph.volumes[i].use 6) := by
      simp only [bifand, inb]; rfl
    rw [e]
    simp only [Option.bind_some, volD, nameOf]
    cases hb : inb ph.volumes[i].use 6 with
    | true =>
      have hb2 : 0 ≤ ph.volumes[i].use ∧ ph.volumes[i].use < 6 := by simpa [inb] using hb
      obtain ⟨k, hk⟩ : ∃ k : Nat, ph.volumes[i].use = (k : Int) := ⟨ph.volumes[i].use.toNat, by omega⟩
      have hk6 : k < useNames.length := by have : useNames.length = 6 := rfl; omega
      have g : at? useNames ph.volumes[i].use = some useNames[k] := by rw [hk]; exact at_get hk6
      have g' : at? ([⟨#[104, 111, 109, 101]⟩, ⟨#[115, 104, 111, 112]⟩, ⟨#[119, 111, 114, 107]⟩, ⟨#[112, 97, 114, 107]⟩, ⟨#[112, 108, 97, 110, 116]⟩, ⟨#[104, 97, 108, 108]⟩] : List ByteArray) ph.volumes[i].use = some useNames[k] := g
      simp only [cond_true, g', Option.bind_some, rw1, g]
      rw [wrap_succ (by omega)]
    | false =>
      have g : at? useNames ph.volumes[i].use = none := by
        have hb2 : ¬ (0 ≤ ph.volumes[i].use ∧ ph.volumes[i].use < 6) := by intro hc; rw [show inb ph.volumes[i].use 6 = true by simpa [inb] using hc] at hb; cases hb
        by_cases h0 : 0 ≤ ph.volumes[i].use
        · obtain ⟨k, hk⟩ : ∃ k : Nat, ph.volumes[i].use = (k : Int) := ⟨ph.volumes[i].use.toNat, by omega⟩
          rw [hk, at_nat]
          exact List.getElem?_eq_none (by have : useNames.length = 6 := rfl; omega)
        · simp [at?, h0]
      simp only [cond_false, g, Option.bind_some]
      rw [wrap_succ (by omega)]

theorem nt_Distance_eq {n : Nat} {p : GPlan} (hp : TabsOk p.tables) {d : GDrawing} (hd : DrawOk d) (hn : 200 ≤ n) : nt_Distance n p d = some (distL p.tables d) := by
  unfold nt_Distance
  have := iter_fold (l := d.phases) (step := nt_Distance_s1 n p d) (fun i (s : Int) => (s, ((i : Nat) : Int))) (fun ph m => distP p.tables m ph) (fun s => s) (fun i hi s => ?_) (fun s => by simp [nt_Distance_s1]) n (by omega) 0
  · rw [show ((0 : Nat) : Int) = 0 from rfl] at this
    rw [this]; rfl
  · have hi' : decide (((i : Nat) : Int) < (d.phases.length : Int)) = true := by simpa using hi
    simp only [nt_Distance_s1, hi', cond_true, at_get hi, Option.bind_some]
    rw [nt_Distance_s2_run hp (hd.2 _ (List.getElem_mem hi)) hn, Option.bind_some, wrap_succ (by omega)]

theorem nt_Days_eq {n : Nat} {p : GPlan} (hp : TabsOk p.tables) (hn : 200 ≤ n) : nt_Days n p = some (max 0 (rowL p.tables ⟨#[100, 97, 121, 115]⟩)) := by
  unfold nt_Days
  rw [nt_row_eq (by omega) (by omega) (fun t ht => by have := hp.2 t ht; omega)]
  rfl

/-! ### Owners -/
abbrev TownOk (t : GTown) : Prop := t.land.length ≤ 8 ∧ (∀ l ∈ t.land, LotOk l) ∧ TabsOk t.plan_tables
def planOf (a0 : GTown) : GPlan := GPlan.mk a0.plan_defs a0.plan_tables a0.plan_zones a0.plan_rules a0.plan_caps a0.plan_views a0.plan_sun a0.plan_hours
def lotsL (t : GTown) (d : GDrawing) : List Int := nearL t.land d.lot (distL t.plan_tables d)
def ownersOf (t : GTown) (ids : List Int) : List Int := ids.map fun id => (findLot t.land id).1.owner
def ownersL (t : GTown) (d : GDrawing) : List Int := setL (ownersOf t (lotsL t d))

theorem length_setL (l : List Int) : (setL l).length ≤ l.length := by
  unfold setL
  have := length_compactL (isort (fun a b => decide (a < b)) l)
  rwa [length_isort] at this

theorem length_nearL (land : List GLot) (id d : Int) : (nearL land id d).length ≤ land.length := by
  unfold nearL
  cases (findLot land id).2 with
  | true =>
    refine Nat.le_trans (length_setL _) ?_
    unfold nearIds
    rw [List.length_map]
    exact List.length_filter_le _ _
  | false => simp

theorem nt_Lots_eq {n : Nat} {t : GTown} (ht : TownOk t) {d : GDrawing} (hd : DrawOk d) (hn : 200 ≤ n) : nt_Lots n t d = some (lotsL t d) := by
  unfold nt_Lots
  have h1 : nt_Distance n (GPlan.mk t.plan_defs t.plan_tables t.plan_zones t.plan_rules t.plan_caps t.plan_views t.plan_sun t.plan_hours) d = some (distL t.plan_tables d) := nt_Distance_eq (p := planOf t) ht.2.2 hd hn
  rw [h1, Option.bind_some, pc_Near_eq ht.2.1 ht.1 hn]
  simp only [Option.bind_some, sub_all, eqL_self, cond_true]
  rfl

theorem nt_Owners_eq {n : Nat} {t : GTown} (ht : TownOk t) {d : GDrawing} (hd : DrawOk d) (hn : 200 ≤ n) : nt_Owners n t d = some (ownersL t d) := by
  unfold nt_Owners
  rw [nt_Lots_eq ht hd hn]
  have hlen : (lotsL t d).length ≤ 8 := Nat.le_trans (length_nearL _ _ _) ht.1
  have key : iter (nt_Owners_s1 n t (lotsL t d)) n ((0 : Int), ([] : List Int)) = some (ownersOf t (lotsL t d)) := by
    have := iter_to (step := nt_Owners_s1 n t (lotsL t d)) (fun i => (((i : Nat) : Int), ownersOf t ((lotsL t d).take i))) (lotsL t d).length (ownersOf t (lotsL t d)) (fun i hi => ?_) ?_ n (by omega)
    · simpa [ownersOf] using this
    · have hi' : decide (((i : Nat) : Int) < (((lotsL t d).length : Nat) : Int)) = true := by simpa using hi
      have ap : appOk (ownersOf t ((lotsL t d).take i)).length (ownersOf t ((lotsL t d).take i)).length (sub ([(findLot t.land (lotsL t d)[i]).1.owner] : List Int) 0 1).length 1 8 = true := by
        refine appOk_true (n := 1) ?_ ?_
        · unfold ownersOf; rw [List.length_map, List.length_take]; omega
        · unfold ownersOf; rw [List.length_map, List.length_take]; simp only [maxLen]; omega
      simp only [nt_Owners_s1, hi', cond_true, inb_get hi, at_getz hi, Option.bind_some]
      rw [pc_Find_eq ht.2.1 (by have := ht.1; omega) (by have := ht.1; omega)]
      simp only [Option.bind_some, ap, cond_true, letv_eq, eqL_self]
      rw [wrap_succ (by omega), List.take_succ_eq_append_getElem hi]
      simp only [ownersOf, List.map_append]
      rfl
    · simp [nt_Owners_s1, ownersOf]
  simp only [Option.bind_some, List.length_nil, eqL_self, cond_true, key]
  have hol : (ownersOf t (lotsL t d)).length ≤ 8 := by unfold ownersOf; rw [List.length_map]; exact hlen
  rw [sl_Sort_int_eq (by omega) (by omega)]
  simp only [Option.bind_some, length_isort, eqL_self, cond_true]
  rw [sl_Compact_int_eq (by rw [length_isort]; omega) (by rw [length_isort]; omega)]
  simp only [Option.bind_some, sub_all, eqL_self, cond_true]
  rfl

theorem length_ownersL {t : GTown} (ht : TownOk t) (d : GDrawing) : (ownersL t d).length ≤ 8 := by
  refine Nat.le_trans (length_setL _) ?_
  unfold ownersOf
  rw [List.length_map]
  exact Nat.le_trans (length_nearL _ _ _) ht.1

def addedL (t : GTown) (d x : GDrawing) : List Int := (ownersL t x).filter fun o => !((ownersL t d).any fun y => o == y)

theorem nt_Added_eq {n : Nat} {t : GTown} (ht : TownOk t) {d x : GDrawing} (hd : DrawOk d) (hx : DrawOk x) (hn : 200 ≤ n) : nt_Added n t d x = some (addedL t d x) := by
  unfold nt_Added
  have l1 := length_ownersL ht d
  have l2 := length_ownersL ht x
  rw [nt_Owners_eq ht hd hn, nt_Owners_eq ht hx hn]
  simp only [Option.bind_some, sub_all, eqL_self, cond_true]
  rw [sl_DeleteFunc_int_eq (fun o => (ownersL t d).any fun y => o == y) (fun o _ => by
    show nt_Added_f1 n o (ownersL t d) = _
    unfold nt_Added_f1
    rw [sl_Contains_int_eq (by omega) (by omega)]; rfl) (by omega) (by omega)]
  simp only [Option.bind_some, sub_all, eqL_self, cond_true]
  rfl

def mayL (t : GTown) (d : GDrawing) (party : Int) : Bool := ((ownersL t d).any fun y => party == y) && ((findLot t.land d.lot).2 && ((findLot t.land d.lot).1.owner != party))

theorem nt_May_eq {n : Nat} {t : GTown} (ht : TownOk t) {d : GDrawing} (hd : DrawOk d) {party : Int} (hn : 200 ≤ n) : nt_May n t d party = some (mayL t d party) := by
  unfold nt_May mayL
  have l1 := length_ownersL ht d
  rw [pc_Find_eq ht.2.1 (by have := ht.1; omega) (by have := ht.1; omega), nt_Owners_eq ht hd hn]
  simp only [Option.bind_some, sub_all, eqL_self, cond_true]
  rw [sl_Contains_int_eq (by omega) (by omega)]
  simp only [Option.bind_some, bifand]

/-! ### The law's own functions -/
theorem q35_Has_eq {n : Nat} {l : List Int} {a : Int} (hl : l.length < 1099511627776) (hn : l.length < n) : q35_Has n l a = some (l.any fun x => x == a) := by
  unfold q35_Has
  have := iter_find (l := l) (step := q35_Has_s1 l a) (fun i => (i : Int)) (fun x => x == a) () (fun _ => true) (fun i hi => ?_) ?_ n hn
  · rw [show ((0 : Nat) : Int) = 0 from rfl] at this
    rw [this, ← findL_isSome]
    cases findL (fun x => x == a) l <;> rfl
  · have hi' : decide (((i : Nat) : Int) < (l.length : Int)) = true := by simpa using hi
    simp only [q35_Has_s1, hi', cond_true, at_get hi, Option.bind_some]
    cases l[i] == a with
    | true => rfl
    | false => simp only [cond_false]; rw [wrap_succ (by omega)]
  · simp [q35_Has_s1]

theorem l35_few_eq {n : Nat} (t : GTown) (d : GDrawing) (hn : 200 ≤ n) : ∃ b, l35_few n t d = some b ∧ (b = true → TownOk t ∧ d.phases.length ≤ 4 ∧ DrawOk d) := by
  have tk : ∀ {α : Type} (l : List α) (k i : Nat) (hi : i < (l.take k).length), (l.take k)[i] = l[i]'(by rw [List.length_take] at hi; omega) := fun l k i hi => List.getElem_take
  unfold l35_few
  have h1 := iter_find (l := t.land.take 9) (step := l35_few_s1 t) (fun i => (i : Int)) (fun x => decide (x.area.length > 6) || decide (x.from_.length > 10)) () (fun _ => false) (fun i hi => ?_) ?_ n (by rw [List.length_take]; omega)
  · have h2 := iter_find (l := t.plan_tables.take 5) (step := l35_few_s2 t) (fun i => (i : Int)) (fun x => decide (x.rows.length > 10)) () (fun _ => false) (fun i hi => ?_) ?_ n (by rw [List.length_take]; omega)
    · have h3 := iter_find (l := d.phases.take 5) (step := l35_few_s3 d) (fun i => (i : Int)) (fun x => decide (x.volumes.length > 4)) () (fun _ => false) (fun i hi => ?_) ?_ n (by rw [List.length_take]; omega)
      · rw [show ((0 : Nat) : Int) = 0 from rfl] at h1 h2 h3
        rw [h1, h2, h3]
        rcases findL_spec (fun x : GLot => decide (x.area.length > 6) || decide (x.from_.length > 10)) (t.land.take 9) with ⟨i, _, e, _⟩ | ⟨e1, f1⟩
        · rw [e]; exact ⟨false, rfl, fun h => by cases h⟩
        rcases findL_spec (fun x : GTable => decide (x.rows.length > 10)) (t.plan_tables.take 5) with ⟨i, _, e, _⟩ | ⟨e2, f2⟩
        · rw [e1, e]; exact ⟨false, rfl, fun h => by cases h⟩
        rcases findL_spec (fun x : GPhase => decide (x.volumes.length > 4)) (d.phases.take 5) with ⟨i, _, e, _⟩ | ⟨e3, f3⟩
        · rw [e1, e2, e]; exact ⟨false, rfl, fun h => by cases h⟩
        rw [e1, e2, e3]
        simp only [thenB_inl, bifand]
        refine ⟨_, rfl, fun h => ?_⟩
        simp only [Bool.and_eq_true, decide_eq_true_eq] at h
        obtain ⟨a1, a2, a3⟩ := h
        rw [List.take_of_length_le (by omega)] at f1 f2 f3
        refine ⟨⟨by omega, fun l hl => ?_, by omega, fun x hx => ?_⟩, by omega, by omega, fun x hx => ?_⟩
        · have := f1 l hl; simp at this; exact this
        · have := f2 x hx; simpa using this
        · have := f3 x hx; simpa using this
      · have hi2 : i < d.phases.length ∧ i < 5 := by rw [List.length_take] at hi; omega
        have c1 : decide (((i : Nat) : Int) < (d.phases.length : Int)) = true := by simpa using hi2.1
        have c2 : decide (((i : Nat) : Int) < (5 : Int)) = true := by simp; omega
        rw [tk]
        simp only [l35_few_s3, c1, c2, cond_true, Option.bind_some, at_get hi2.1]
        have e : decide ((d.phases[i].volumes.length : Int) > 4) = decide (d.phases[i].volumes.length > 4) := by simp; omega
        rw [e]
        cases decide (d.phases[i].volumes.length > 4) with
        | true => rfl
        | false => simp only [cond_false]; rw [wrap_succ (by omega)]
      · have : (decide ((((d.phases.take 5).length : Nat) : Int) < (d.phases.length : Int)) && decide ((((d.phases.take 5).length : Nat) : Int) < (5 : Int))) = false := by
          rw [List.length_take]; simp; omega
        simp only [l35_few_s3, bifand, this, Option.bind_some, cond_false]
    · have hi2 : i < t.plan_tables.length ∧ i < 5 := by rw [List.length_take] at hi; omega
      have c1 : decide (((i : Nat) : Int) < (t.plan_tables.length : Int)) = true := by simpa using hi2.1
      have c2 : decide (((i : Nat) : Int) < (5 : Int)) = true := by simp; omega
      rw [tk]
      simp only [l35_few_s2, c1, c2, cond_true, Option.bind_some, at_get hi2.1]
      have e : decide ((t.plan_tables[i].rows.length : Int) > 10) = decide (t.plan_tables[i].rows.length > 10) := by simp; omega
      rw [e]
      cases decide (t.plan_tables[i].rows.length > 10) with
      | true => rfl
      | false => simp only [cond_false]; rw [wrap_succ (by omega)]
    · have : (decide ((((t.plan_tables.take 5).length : Nat) : Int) < (t.plan_tables.length : Int)) && decide ((((t.plan_tables.take 5).length : Nat) : Int) < (5 : Int))) = false := by
        rw [List.length_take]; simp; omega
      simp only [l35_few_s2, bifand, this, Option.bind_some, cond_false]
  · have hi2 : i < t.land.length ∧ i < 9 := by rw [List.length_take] at hi; omega
    have c1 : decide (((i : Nat) : Int) < (t.land.length : Int)) = true := by simpa using hi2.1
    have c2 : decide (((i : Nat) : Int) < (9 : Int)) = true := by simp; omega
    rw [tk]
    simp only [l35_few_s1, c1, c2, cond_true, Option.bind_some, at_get hi2.1, biford]
    have e : (decide ((t.land[i].area.length : Int) > 6) || decide ((t.land[i].from_.length : Int) > 10)) = (decide (t.land[i].area.length > 6) || decide (t.land[i].from_.length > 10)) := by congr 1 <;> (rw [decide_eq_decide]; omega)
    rw [e]
    cases (decide (t.land[i].area.length > 6) || decide (t.land[i].from_.length > 10)) with
    | true => rfl
    | false => simp only [cond_false]; rw [wrap_succ (by omega)]
  · have : (decide ((((t.land.take 9).length : Nat) : Int) < (t.land.length : Int)) && decide ((((t.land.take 9).length : Nat) : Int) < (9 : Int))) = false := by
      rw [List.length_take]; simp; omega
    simp only [l35_few_s1, bifand, this, Option.bind_some, cond_false]
end Go.Proofs

namespace Go.Proofs
open Go.Gb Go.RowKit

def boxG (a b : Int) : List GRect := [GRect.mk a 0 b 4]
def sampleG : GTown := GTown.mk [] [GTable.mk noticeB [GEntry.mk ⟨#[104, 111, 109, 101]⟩ 2, GEntry.mk ⟨#[112, 108, 97, 110, 116]⟩ 9, GEntry.mk ⟨#[100, 97, 121, 115]⟩ 14] 1] [] [] [] [] [] 0 [GLot.mk 1 7 (boxG 0 4) [], GLot.mk 2 7 (boxG 5 8) [], GLot.mk 3 5 (boxG 12 14) []] [] [] [] []
def ofG (lot a b : Int) : GDrawing := GDrawing.mk lot [GPhase.mk [GVolume.mk 0 0 0 0 0 0 a 0 false] [], GPhase.mk [GVolume.mk 0 0 0 0 0 0 b 0 false] []]

theorem sample_eq : l35_sample = some sampleG := by kernel_rfl
theorem of_eq (lot a b : Int) : l35_of lot a b = some (ofG lot a b) := by kernel_rfl

theorem sampleOk : TownOk sampleG := by
  refine ⟨by decide, ?_, by decide, ?_⟩
  · intro l hl
    simp only [sampleG, List.mem_cons, List.not_mem_nil, or_false] at hl
    rcases hl with rfl | rfl | rfl <;> exact ⟨by decide, by decide⟩
  · intro t ht
    simp only [sampleG, List.mem_singleton] at ht
    subst ht
    decide

theorem ofOk (lot a b : Int) : DrawOk (ofG lot a b) := by
  refine ⟨by simp [ofG], fun p hp => ?_⟩
  simp only [ofG, List.mem_cons, List.not_mem_nil, or_false] at hp
  rcases hp with rfl | rfl <;> simp

theorem small_eq {n : Nat} (hn : 200 ≤ n) : l35_small n = some true := by
  have k := sampleOk
  have d1 : ∀ lot a b, nt_Distance n (GPlan.mk sampleG.plan_defs sampleG.plan_tables sampleG.plan_zones sampleG.plan_rules sampleG.plan_caps sampleG.plan_views sampleG.plan_sun sampleG.plan_hours) (ofG lot a b) = some (distL sampleG.plan_tables (ofG lot a b)) := fun lot a b => nt_Distance_eq (p := planOf sampleG) k.2.2 (ofOk lot a b) hn
  have d2 : nt_Days n (GPlan.mk sampleG.plan_defs sampleG.plan_tables sampleG.plan_zones sampleG.plan_rules sampleG.plan_caps sampleG.plan_views sampleG.plan_sun sampleG.plan_hours) = some (max 0 (rowL sampleG.plan_tables ⟨#[100, 97, 121, 115]⟩)) := nt_Days_eq (p := planOf sampleG) k.2.2 hn
  have o1 : ∀ lot a b, nt_Owners n sampleG (ofG lot a b) = some (ownersL sampleG (ofG lot a b)) := fun lot a b => nt_Owners_eq k (ofOk lot a b) hn
  have l1 : ∀ lot a b, nt_Lots n sampleG (ofG lot a b) = some (lotsL sampleG (ofG lot a b)) := fun lot a b => nt_Lots_eq k (ofOk lot a b) hn
  have a1 : nt_Added n sampleG (ofG 1 0 0) (ofG 1 0 4) = some (addedL sampleG (ofG 1 0 0) (ofG 1 0 4)) := nt_Added_eq k (ofOk _ _ _) (ofOk _ _ _) hn
  have m1 : ∀ lot a b party, nt_May n sampleG (ofG lot a b) party = some (mayL sampleG (ofG lot a b) party) := fun lot a b party => nt_May_eq k (ofOk lot a b) hn
  have e1 : distL sampleG.plan_tables (ofG 1 0 0) = 2 := by kernel_rfl
  have e2 : distL sampleG.plan_tables (ofG 1 0 4) = 9 := by kernel_rfl
  have e3 : distL sampleG.plan_tables (ofG 1 1 1) = 1 := by kernel_rfl
  have e4 : max 0 (rowL sampleG.plan_tables ⟨#[100, 97, 121, 115]⟩) = 14 := by kernel_rfl
  have e5 : ownersL sampleG (ofG 1 0 0) = [7] := by kernel_rfl
  have e6 : ownersL sampleG (ofG 1 0 4) = [5, 7] := by kernel_rfl
  have e7 : lotsL sampleG (ofG 1 0 4) = [2, 3] := by kernel_rfl
  have e8 : addedL sampleG (ofG 1 0 0) (ofG 1 0 4) = [5] := by kernel_rfl
  have e9 : mayL sampleG (ofG 1 0 4) 5 = true := by kernel_rfl
  have e10 : mayL sampleG (ofG 1 0 4) 7 = false := by kernel_rfl
  have e11 : mayL sampleG (ofG 1 0 0) 5 = false := by kernel_rfl
  have i1 : q35_Ints n [7] [7] = some true := by rw [q35_Ints_eq (by simp) (by simp; omega)]; rfl
  have i2 : q35_Ints n [5, 7] [5, 7] = some true := by rw [q35_Ints_eq (by simp) (by simp; omega)]; rfl
  have i3 : q35_Ints n [2, 3] [2, 3] = some true := by rw [q35_Ints_eq (by simp) (by simp; omega)]; rfl
  have i4 : q35_Ints n [5] [5] = some true := by rw [q35_Ints_eq (by simp) (by simp; omega)]; rfl
  have s1 : (sub ([7] : List Int) 0 1) = [7] := rfl
  have s2 : (sub ([5, 7] : List Int) 0 2) = [5, 7] := rfl
  have s3 : (sub ([2, 3] : List Int) 0 2) = [2, 3] := rfl
  have s4 : (sub ([5] : List Int) 0 1) = [5] := rfl
  have q1 : ∀ a : Int, eqL [a].length 1 = true := fun _ => rfl
  have q2 : ∀ a b : Int, eqL [a, b].length 2 = true := fun _ _ => rfl
  unfold l35_small
  simp only [sample_eq, of_eq, Option.bind_some, d1, e1, e2, e3, d2, e4, beq_self_eq_true, cond_true, o1, e5, e6, sub_all, eqL_self, s1, s2, s3, s4, q1, q2, i1, i2, i3, i4, l1, e7, a1, e8, m1, e9, e10, e11, Bool.not_false]

theorem volD_ge (ts : List GTable) (m : Int) (v : GVolume) : m ≤ volD ts m v := by
  unfold volD
  split
  · exact Int.le_max_left _ _
  · exact Int.le_refl _

theorem distP_ge (ts : List GTable) (ph : GPhase) (m : Int) : m ≤ distP ts m ph := by
  unfold distP
  generalize ph.volumes = l
  induction l generalizing m with
  | nil => exact Int.le_refl _
  | cons v l ih => exact Int.le_trans (volD_ge ts m v) (ih _)

theorem nearL_mono {land : List GLot} {id a b : Int} (h : a ≤ b) : ∀ z ∈ nearL land id a, z ∈ nearL land id b := by
  intro z
  unfold nearL
  cases (findLot land id).2 with
  | false => exact fun h => h
  | true =>
    simp only [cond_true, setL_mem, nearIds, List.mem_map, List.mem_filter]
    rintro ⟨u, ⟨h1, h2⟩, h3⟩
    refine ⟨u, ⟨h1, ?_⟩, h3⟩
    simp only [isNear, Bool.and_eq_true, decide_eq_true_eq] at h2 ⊢
    exact ⟨h2.1, by omega, h2.2.2⟩

theorem ownersL_mem (t : GTown) (d : GDrawing) (z : Int) : z ∈ ownersL t d ↔ ∃ id ∈ lotsL t d, (findLot t.land id).1.owner = z := by
  simp only [ownersL, setL_mem, ownersOf, List.mem_map]

theorem any_mem (l : List Int) (a : Int) : (l.any fun x => x == a) = decide (a ∈ l) := by
  rw [Bool.eq_iff_iff]
  simp
end Go.Proofs

namespace Go.Proofs
open Go.Gb Go.RowKit

/-! ### A place among ascending numbers -/
theorem strict_get {out : List Int} (h : out.Pairwise (· < ·)) {i j : Nat} (hij : i < j) (hj : j < out.length) : out[i]'(by omega) < out[j] :=
  (List.pairwise_iff_getElem.1 h) i j _ hj hij

theorem ins_strict {out : List Int} (h : out.Pairwise (· < ·)) {k : Nat} (hk : k ≤ out.length) {x : Int} (h1 : ∀ j (hj : j < out.length), k ≤ j → x < out[j]) (h2 : ∀ h0 : 0 < k, out[k - 1]'(by omega) < x) :
    (out.take k ++ x :: out.drop k).Pairwise (· < ·) := by
  have low : ∀ a ∈ out.take k, a < x := by
    intro a ha
    obtain ⟨j, hj, rfl⟩ := List.getElem_of_mem ha
    rw [List.length_take] at hj
    rw [List.getElem_take]
    have h3 := h2 (by omega)
    by_cases e : j = k - 1
    · subst e; exact h3
    · have := strict_get h (show j < k - 1 by omega) (by omega); omega
  have high : ∀ b ∈ out.drop k, x < b := by
    intro b hb
    obtain ⟨j, hj, rfl⟩ := List.getElem_of_mem hb
    rw [List.length_drop] at hj
    rw [List.getElem_drop]
    exact h1 _ (by omega) (by omega)
  rw [List.pairwise_append, List.pairwise_cons]
  refine ⟨h.sublist (List.take_sublist _ _), ⟨high, h.sublist (List.drop_sublist _ _)⟩, fun a ha b hb => ?_⟩
  rcases List.mem_cons.1 hb with rfl | hb
  · exact low a ha
  · have := low a ha; have := high b hb; omega

theorem ins_mem {α : Type} {out : List α} {k : Nat} {x z : α} : z ∈ out.take k ++ x :: out.drop k ↔ z ∈ out ∨ z = x := by
  conv => rhs; rw [← List.take_append_drop k out]
  simp only [List.mem_append, List.mem_cons]
  exact ⟨fun h => by rcases h with h | h | h <;> simp [h], fun h => by rcases h with (h | h) | h <;> simp [h]⟩

theorem q06_sorted_s2_run {l out : List Int} {i : Nat} (hi : i < l.length) (ho : out.length < 1099511627776) : ∀ (m : Nat), m ≤ out.length → (∀ j (h : j < out.length), m ≤ j → l[i] < out[j]) → ∀ n, m < n →
    ∃ k, k ≤ m ∧ iter (q06_sorted_s2 l (i : Int) out) n (m : Int) = some (k : Int) ∧ (∀ j (h : j < out.length), k ≤ j → l[i] < out[j]) ∧ (∀ h : 0 < k, ∀ h' : k - 1 < out.length, out[k - 1] ≤ l[i])
  | 0, _, h, n, hn => by
    obtain ⟨k, rfl⟩ : ∃ k, n = k + 1 := ⟨n - 1, by omega⟩
    exact ⟨0, Nat.le_refl _, iter_inr (by simp [q06_sorted_s2]), h, fun h => by omega⟩
  | m + 1, hm, h, n, hn => by
    obtain ⟨k, rfl⟩ : ∃ k, n = k + 1 := ⟨n - 1, by omega⟩
    have d : decide (((m + 1 : Nat) : Int) > 0) = true := by simp <;> omega
    have wp : IntKind.i64.wrap (((m + 1 : Nat) : Int) - 1) = ((m : Nat) : Int) := by rw [wrap_pred (by omega) (by omega)]; rfl
    have ib : inb ((m : Nat) : Int) out.length = true := inb_get (by omega)
    have step : q06_sorted_s2 l (i : Int) out (((m + 1 : Nat)) : Int) = some (bif decide (out[m]'(by omega) > l[i]) then .inl ((m : Nat) : Int) else .inr (((m + 1 : Nat)) : Int)) := by
      simp only [q06_sorted_s2, d, cond_true, wp, ib, at_getz (show m < out.length by omega), at_get hi, Option.bind_some]
      cases decide (out[m]'(by omega) > l[i]) <;> rfl
    by_cases hg : out[m]'(by omega) > l[i]
    · have stp : q06_sorted_s2 l (i : Int) out (((m + 1 : Nat)) : Int) = some (.inl ((m : Nat) : Int)) := by rw [step]; simp only [hg, decide_true, cond_true]
      rw [iter_inl stp]
      obtain ⟨q, h1, h2, h3, h4⟩ := q06_sorted_s2_run hi ho m (by omega) (fun j hj hmj => by
        by_cases e : j = m
        · subst e; exact hg
        · exact h j hj (by omega)) k (by omega)
      exact ⟨q, by omega, h2, h3, h4⟩
    · exact ⟨m + 1, Nat.le_refl _, iter_inr (by rw [step]; simp only [hg, decide_false, cond_false]), h, fun _ _ => by simpa using hg⟩

theorem q06_sorted_s3_run {out : List Int} {k : Nat} (hk : k ≤ out.length) (ho : out.length < 1099511627776) (r : List Int) (hr : r.length = out.length + 1) : ∀ (m : Nat) (z : Int), k ≤ m → m ≤ out.length → ∀ n, m - k < n →
    ∃ z', iter (q06_sorted_s3 (k : Int) r) n ((m : Int), out.take m ++ z :: out.drop m) = some (out.take k ++ z' :: out.drop k)
  | 0, z, h1, _, n, hn => by
    obtain ⟨j, rfl⟩ : ∃ k, n = k + 1 := ⟨n - 1, by omega⟩
    have : k = 0 := by omega
    subst this
    exact ⟨z, iter_inr (by simp [q06_sorted_s3])⟩
  | m + 1, z, h1, h2, n, hn => by
    obtain ⟨j, rfl⟩ : ∃ k, n = k + 1 := ⟨n - 1, by omega⟩
    by_cases e : k = m + 1
    · subst e
      exact ⟨z, iter_inr (by simp [q06_sorted_s3])⟩
    · have d : decide (((m + 1 : Nat) : Int) > (k : Int)) = true := by simp; omega
      have wp : IntKind.i64.wrap (((m + 1 : Nat) : Int) - 1) = ((m : Nat) : Int) := by rw [wrap_pred (by omega) (by omega)]; rfl
      have ib : inb ((m : Nat) : Int) r.length = true := inb_get (by omega)
      have ib2 : inb ((m + 1 : Nat) : Int) r.length = true := inb_get (by omega)
      have lt : (out.take (m + 1)).length = m + 1 := by rw [List.length_take]; omega
      have g1 : at? (out.take (m + 1) ++ z :: out.drop (m + 1)) (((0 : Nat) : Int) + ((m : Nat) : Int)) = some (out[m]'(by omega)) := by
        rw [at_natz, List.getElem?_append_left (by omega), List.getElem?_take, if_pos (by omega), List.getElem?_eq_getElem (by omega)]
      have g2 : at? (out.take (m + 1) ++ z :: out.drop (m + 1)) (((0 : Nat) : Int) + ((m + 1 : Nat) : Int)) = some z := by
        rw [at_natz, List.getElem?_append_right (by omega), lt]; simp
      have e2 : (((0 : Nat) : Int) + ((m + 1 : Nat) : Int)).toNat = m + 1 := by simp
      have st : (out.take (m + 1) ++ z :: out.drop (m + 1)).set (m + 1) (out[m]'(by omega)) = out.take m ++ (out[m]'(by omega)) :: out.drop m := by
        rw [List.set_append_right _ _ (by omega), lt]
        simp only [Nat.sub_self, List.set_cons_zero]
        rw [List.take_succ_eq_append_getElem (by omega), List.append_assoc, List.drop_eq_getElem_cons (show m < out.length by omega)]
        rfl
      have step : q06_sorted_s3 (k : Int) r (((m + 1 : Nat) : Int), out.take (m + 1) ++ z :: out.drop (m + 1)) = some (.inl (((m : Nat) : Int), out.take m ++ (out[m]'(by omega)) :: out.drop m)) := by
        simp only [q06_sorted_s3, d, cond_true, wp, ib, ib2, g1, g2, Option.bind_some, e2, st]
      rw [iter_inl step]
      exact q06_sorted_s3_run hk ho r hr m _ (by omega) (by omega) j (by omega)

theorem q06_sorted_eq {n : Nat} {l : List Int} (hl : l.length < 10995116277) (hn : l.length + 1 < n) : q06_sorted n l = some (setL l) := by
  unfold q06_sorted
  have lenS : ∀ m : List Int, (setL m).length ≤ m.length := fun m => by
    have := length_compactL (isort (fun a b => decide (a < b)) m)
    rw [length_isort] at this; exact this
  have key : iter (q06_sorted_s1 n l) n ((0 : Int), ([] : List Int)) = some (setL l) := by
    have := iter_to (step := q06_sorted_s1 n l) (fun i => (((i : Nat) : Int), setL (l.take i))) l.length (setL l) (fun i hi => ?_) ?_ n (by omega)
    · simpa [setL, isort, compactL] using this
    · have hi' : decide (((i : Nat) : Int) < (l.length : Int)) = true := by simpa using hi
      have hs := setL_strict (l.take i)
      have hm : ∀ z, z ∈ setL (l.take i) ↔ z ∈ l.take i := setL_mem _
      have ho := lenS (l.take i)
      rw [List.length_take] at ho
      generalize setL (l.take i) = out at hs hm ho
      have uq : ∀ m : List Int, m.Pairwise (· < ·) → (∀ z, z ∈ m ↔ z ∈ out ∨ z = l[i]) → m = setL (l.take (i + 1)) := by
        intro m h1 h2
        refine setL_unique h1 fun z => ?_
        rw [h2, hm, List.take_succ_eq_append_getElem hi, List.mem_append, List.mem_singleton]
      obtain ⟨k, k1, k2, k3, k4⟩ := q06_sorted_s2_run hi (out := out) (by omega) out.length (Nat.le_refl _) (fun j h1 h2 => by omega) n (by omega)
      simp only [q06_sorted_s1, hi', cond_true, k2, Option.bind_some]
      have wk : ∀ h0 : 0 < k, IntKind.i64.wrap ((k : Int) - 1) = ((k - 1 : Nat) : Int) := fun h0 => wrap_pred h0 (by omega)
      have test : ((bif (decide ((k : Int) > (0 : Int))) then bif inb (IntKind.i64.wrap ((k : Int) - 1)) out.length then (at? out ((0 : Nat) + (IntKind.i64.wrap ((k : Int) - 1)) : Int)).bind fun x3 => (some l[i] : Option Int).bind fun x4 => some (x3 == (x4 : Int)) else none else some false) : Option (Bool)) = some (if h0 : 0 < k then decide (out[k - 1]'(by omega) = l[i]) else false) := by
        by_cases h0 : 0 < k
        · have d : decide ((k : Int) > 0) = true := by simp; omega
          rw [d, wk h0]
          simp only [cond_true, inb_get (show k - 1 < out.length by omega), at_getz (show k - 1 < out.length by omega), Option.bind_some, h0, dite_true]
          rfl
        · have d : decide ((k : Int) > 0) = false := by simp; omega
          simp only [d, cond_false, h0, dite_false]
      simp only [at_get hi]
      rw [test]
      simp only [Option.bind_some]
      by_cases hx : ∃ h0 : 0 < k, out[k - 1]'(by omega) = l[i]
      · obtain ⟨h0, hx⟩ := hx
        simp only [h0, dite_true, hx, decide_true, cond_true, eqL_self, Option.bind_some]
        rw [wrap_succ (by omega), ← uq out hs (fun z => ⟨fun h => .inl h, fun h => by
          rcases h with h | rfl
          · exact h
          · rw [← hx]; exact List.getElem_mem _⟩)]
      · have f : (if h0 : 0 < k then decide (out[k - 1]'(by omega) = l[i]) else false) = false := by
          split
          · rename_i h0
            simp only [decide_eq_false_iff_not]
            exact fun e => hx ⟨h0, e⟩
          · rfl
        rw [f]
        have ap : appOk out.length out.length (sub ([0] : List Int) 0 1).length 1 8 = true := appOk_true (n := 1) (by omega) (by simp only [maxLen]; omega)
        have s1 : out ++ (sub ([0] : List Int) 0 1) = out ++ [0] := rfl
        have lr : (out ++ ([0] : List Int)).length = out.length + 1 := by simp
        have wl : IntKind.i64.wrap (((out.length + 1 : Nat) : Int) - 1) = ((out.length : Nat) : Int) := by rw [wrap_pred (by omega) (by omega)]; rfl
        obtain ⟨z, hz⟩ := q06_sorted_s3_run (k := k) k1 (by omega) (out ++ [0]) lr out.length 0 k1 (Nat.le_refl _) n (by omega)
        rw [List.take_length, List.drop_length] at hz
        have lt : (out.take k).length = k := by rw [List.length_take]; omega
        have g1 : at? (out.take k ++ z :: out.drop k) (((0 : Nat) : Int) + ((k : Nat) : Int)) = some z := by
          rw [at_natz, List.getElem?_append_right (by omega), lt]; simp
        have e2 : (((0 : Nat) : Int) + ((k : Nat) : Int)).toNat = k := by simp
        have st : (out.take k ++ z :: out.drop k).set k l[i] = out.take k ++ l[i] :: out.drop k := by
          rw [List.set_append_right _ _ (by omega), lt]; simp
        have le : (out.take k ++ l[i] :: out.drop k).length = out.length + 1 := by
          rw [List.length_append, List.length_cons, List.length_take, List.length_drop]; omega
        simp only [cond_false, ap, cond_true, letv_eq, s1, lr, wl, hz, Option.bind_some, inb_get (show k < out.length + 1 by omega), g1, e2, st, le, eqL_self]
        rw [wrap_succ (by omega), ← uq (out.take k ++ l[i] :: out.drop k) (ins_strict hs k1 k3 (fun h0 => by
          have h5 := k4 h0 (by omega)
          by_cases e : out[k - 1]'(by omega) = l[i]
          · exact absurd ⟨h0, e⟩ hx
          · omega)) (fun z => ins_mem)]
    · have d : decide (((l.length : Nat) : Int) < (l.length : Int)) = false := by simp
      simp only [q06_sorted_s1, d, cond_false, List.take_length, eqL_self, cond_true]
  rw [key]
  simp only [List.length_nil, eqL_self, cond_true, Option.bind_some, sub_all]
end Go.Proofs

namespace Go.Proofs
open Go.Gb Go.RowKit

theorem q06_edges_s1_run {n : Nat} {l : List GRect} (hl : l.length < 10995116277) (hn : l.length < n) : iter (q06_edges_s1 l) n ((0 : Int), ([] : List Int)) = some (l.flatMap fun r => [r.x0, r.x1]) := by
  have := iter_foldI (l := l) (step := q06_edges_s1 l) (fun i (s : List Int) => ((i : Int), s)) (fun r s => s ++ [r.x0, r.x1]) (fun s => s) (fun i s => s.length ≤ 2 * i)
    (fun i hi s hs => ?_) (fun s hs => by simp [q06_edges_s1]) n hn [] (Nat.le_refl _)
  · rw [show ((0 : Nat) : Int) = 0 from rfl] at this
    rw [this]
    have gen : ∀ (ys : List GRect) (s : List Int), ys.foldl (fun s r => s ++ [r.x0, r.x1]) s = s ++ ys.flatMap fun r => [r.x0, r.x1] := by
      intro ys
      induction ys with
      | nil => intro s; simp
      | cons y ys ih => intro s; simp [ih]
    congr 1
    simpa using gen l []
  · have hi' : decide (((i : Nat) : Int) < ((l.length : Nat) : Int)) = true := by simpa using hi
    have ap : appOk s.length s.length (sub ([l[i].x0, l[i].x1] : List Int) 0 2).length 2 8 = true := appOk_true (n := 2) (by omega) (by simp only [maxLen]; omega)
    simp only [q06_edges_s1, hi', cond_true, at_get hi, Option.bind_some, ap, letv_eq, eqL_self]
    refine ⟨?_, by simp; omega⟩
    rw [wrap_succ (by omega)]; rfl

theorem q06_edges_eq {n : Nat} {l : List GRect} (hl : l.length < 1000000) (hn : 2 * l.length + 1 < n) : q06_edges n l [] = some (edgesL l) := by
  unfold q06_edges
  have h2 : ∀ m : List Int, iter (q06_edges_s2 []) n ((0 : Int), m) = some m := fun m => by
    obtain ⟨k, rfl⟩ : ∃ k, n = k + 1 := ⟨n - 1, by omega⟩
    exact iter_inr (by simp [q06_edges_s2])
  simp only [List.length_nil, eqL_self, cond_true, q06_edges_s1_run (l := l) (n := n) (by omega) (by omega), Option.bind_some, h2, sub_all]
  rw [q06_sorted_eq (by rw [flatMap_len]; omega) (by rw [flatMap_len]; omega)]
  simp only [Option.bind_some, sub_all, eqL_self, cond_true]
  rfl

/-! ### Columns -/
def flatS (c : List Gspan) : List Int := c.flatMap fun q => [q.from_, q.to]

theorem flatS_len (l : List Gspan) : (flatS l).length = 2 * l.length := by
  induction l with
  | nil => rfl
  | cons x l ih => simp only [flatS, List.flatMap_cons, List.length_append, List.length_cons, List.length_nil] at *; omega

theorem flatS_append (a b : List Gspan) : flatS (a ++ b) = flatS a ++ flatS b := by simp [flatS]

theorem flatS_inj : ∀ {a b : List Gspan}, flatS a = flatS b → a = b
  | [], [], _ => rfl
  | [], y :: b, h => by simp [flatS] at h
  | x :: a, [], h => by simp [flatS] at h
  | ⟨x1, x2⟩ :: a, ⟨y1, y2⟩ :: b, h => by
    simp only [flatS, List.flatMap_cons, List.cons_append, List.nil_append, List.cons.injEq] at h
    obtain ⟨rfl, rfl, h⟩ := h
    rw [flatS_inj (a := a) (b := b) h]

/-- A place among spans, told from the right. -/
theorem insRev_place (x : Gspan) : ∀ ys : List Gspan, ∃ k, k ≤ ys.length ∧ (insRev ltS x ys).reverse = ys.reverse.take k ++ x :: ys.reverse.drop k ∧ (∀ j (h : j < ys.reverse.length), k ≤ j → x.from_ < (ys.reverse[j]).from_) ∧ (∀ h : 0 < k, ∀ h' : k - 1 < ys.reverse.length, ¬ x.from_ < (ys.reverse[k - 1]).from_)
  | [] => ⟨0, Nat.le_refl _, by simp [insRev], fun j h => by simp at h, fun h => by omega⟩
  | y :: ys => by
    by_cases hxy : x.from_ < y.from_
    · have hb : ltS x y = true := by simp [ltS, hxy]
      obtain ⟨k, h1, h2, h3, h4⟩ := insRev_place x ys
      have hlr : ys.reverse.length = ys.length := by simp
      refine ⟨k, by simp; omega, ?_, fun j hj hkj => ?_, fun h0 hk => ?_⟩
      · simp only [insRev, hb, cond_true, List.reverse_cons, h2]
        rw [List.take_append_of_le_length (by omega), List.drop_append_of_le_length (by omega), List.append_assoc]
        rfl
      · simp only [List.reverse_cons] at hj ⊢
        by_cases e : j < ys.reverse.length
        · rw [List.getElem_append_left e]; exact h3 j e hkj
        · have : j = ys.reverse.length := by rw [List.length_append] at hj; simp only [List.length_singleton] at hj; omega
          subst this
          simp [hxy]
      · simp only [List.reverse_cons]
        rw [List.getElem_append_left (by omega)]
        exact h4 h0 (by omega)
    · have hb : ltS x y = false := by simp [ltS, hxy]
      refine ⟨ys.length + 1, by simp, ?_, fun j hj hkj => ?_, fun h0 hk => ?_⟩
      · simp only [insRev, hb, cond_false]
        rw [List.take_of_length_le (by simp), List.drop_of_length_le (by simp)]
        simp
      · simp at hj; omega
      · simp [hxy]

end Go.Proofs

namespace Go.Proofs
open Go.Gb Go.RowKit

theorem q06_column_s2_run {l : List GRect} {i : Nat} (hi : i < l.length) {F T : List Int} (hT : T.length = F.length) (ho : F.length < 1099511627776) {k : Nat} (hk : k ≤ F.length)
    (h1 : ∀ j (h : j < F.length), k ≤ j → l[i].y0 < F[j]) (h2 : ∀ h : 0 < k, ¬ l[i].y0 < F[k - 1]'(by omega)) (r1 r2 : List Int) (hr1 : r1.length = F.length + 1) (hr2 : r2.length = F.length + 1) :
    ∀ (m : Nat) (z z' : Int), k ≤ m → m ≤ F.length → ∀ n, m - k < n →
    ∃ y y', iter (q06_column_s2 l (i : Int) r1 r2) n ((m : Int), F.take m ++ z :: F.drop m, T.take m ++ z' :: T.drop m) = some ((k : Int), F.take k ++ y :: F.drop k, T.take k ++ y' :: T.drop k)
  | 0, z, z', g1, _, n, hn => by
    obtain ⟨j, rfl⟩ : ∃ k, n = k + 1 := ⟨n - 1, by omega⟩
    have : k = 0 := by omega
    subst this
    exact ⟨z, z', iter_inr (by simp [q06_column_s2])⟩
  | m + 1, z, z', g1, g2, n, hn => by
    obtain ⟨j, rfl⟩ : ∃ k, n = k + 1 := ⟨n - 1, by omega⟩
    have d : decide (((m + 1 : Nat) : Int) > 0) = true := by simp <;> omega
    have wp : IntKind.i64.wrap (((m + 1 : Nat) : Int) - 1) = ((m : Nat) : Int) := by rw [wrap_pred (by omega) (by omega)]; rfl
    have ib1 : inb ((m : Nat) : Int) r1.length = true := inb_get (by omega)
    have ib1' : inb ((m + 1 : Nat) : Int) r1.length = true := inb_get (by omega)
    have ib2 : inb ((m : Nat) : Int) r2.length = true := inb_get (by omega)
    have ib2' : inb ((m + 1 : Nat) : Int) r2.length = true := inb_get (by omega)
    have gen : ∀ (A : List Int) (hA : A.length = F.length) (z : Int), at? (A.take (m + 1) ++ z :: A.drop (m + 1)) (((0 : Nat) : Int) + ((m : Nat) : Int)) = some (A[m]'(by omega)) ∧ at? (A.take (m + 1) ++ z :: A.drop (m + 1)) (((0 : Nat) : Int) + ((m + 1 : Nat) : Int)) = some z ∧
        (A.take (m + 1) ++ z :: A.drop (m + 1)).set (m + 1) (A[m]'(by omega)) = A.take m ++ (A[m]'(by omega)) :: A.drop m := by
      intro A hA z
      have lt : (A.take (m + 1)).length = m + 1 := by rw [List.length_take]; omega
      refine ⟨?_, ?_, ?_⟩
      · rw [at_natz, List.getElem?_append_left (by omega), List.getElem?_take, if_pos (by omega), List.getElem?_eq_getElem (by omega)]
      · rw [at_natz, List.getElem?_append_right (by omega), lt]; simp
      · rw [List.set_append_right _ _ (by omega), lt]
        simp only [Nat.sub_self, List.set_cons_zero]
        rw [List.take_succ_eq_append_getElem (by omega), List.append_assoc, List.drop_eq_getElem_cons (show m < A.length by omega)]
        rfl
    obtain ⟨a1, a2, a3⟩ := gen F rfl z
    obtain ⟨b1, b2, b3⟩ := gen T hT z'
    have e2 : (((0 : Nat) : Int) + ((m + 1 : Nat) : Int)).toNat = m + 1 := by simp
    by_cases e : k = m + 1
    · subst e
      have hno : decide (F[m]'(by omega) > l[i].y0) = false := by simpa using h2 (by omega)
      refine ⟨z, z', iter_inr ?_⟩
      simp only [q06_column_s2, d, cond_true, wp, ib1, a1, at_get hi, Option.bind_some, hno, cond_false]
    · have hyes : decide (F[m]'(by omega) > l[i].y0) = true := by simpa using h1 m (by omega) (by omega)
      have step : q06_column_s2 l (i : Int) r1 r2 (((m + 1 : Nat) : Int), F.take (m + 1) ++ z :: F.drop (m + 1), T.take (m + 1) ++ z' :: T.drop (m + 1)) = some (.inl (((m : Nat) : Int), F.take m ++ (F[m]'(by omega)) :: F.drop m, T.take m ++ (T[m]'(by omega)) :: T.drop m)) := by
        simp only [q06_column_s2, d, cond_true, wp, ib1, a1, at_get hi, Option.bind_some, hyes, ib1', a2, ib2, b1, ib2', b2, e2, a3, b3]
      rw [iter_inl step]
      exact q06_column_s2_run hi hT ho hk h1 h2 r1 r2 hr1 hr2 m _ _ (by omega) (by omega) j (by omega)

/-- The spans, told from the right, in order. -/
def spansR (l : List GRect) (x : Int) : List Gspan := (spansAt l x).foldl (fun rs s => insRev ltS s rs) []

theorem spansR_len (l : List GRect) (x : Int) : (spansR l x).length ≤ l.length := by
  have h := length_isort (lt := ltS) (spansAt l x)
  have h2 := length_spansAt l x
  have : (isort ltS (spansAt l x)).length = (spansR l x).length := by unfold isort spansR; rw [List.length_reverse]
  omega

theorem spansR_snoc (l : List GRect) (r : GRect) (x : Int) : spansR (l ++ [r]) x = if r.x0 ≤ x ∧ x < r.x1 then insRev ltS ⟨r.y0, r.y1⟩ (spansR l x) else spansR l x := by
  unfold spansR spansAt
  rw [List.filter_append, List.map_append, List.foldl_append]
  by_cases h : r.x0 ≤ x ∧ x < r.x1
  · simp [h]
  · have hf : (decide (r.x0 ≤ x) && decide (x < r.x1)) = false := by simpa using h
    simp [List.filter_cons, hf, h]

theorem q06_column_s1_run {n : Nat} {l : List GRect} {x : Int} (hl : l.length < 1099511627) (hn : l.length < n) :
    iter (q06_column_s1 n l x) n ((0 : Int), ([] : List Int), ([] : List Int)) = some ((spansR l x).reverse.map (·.from_), (spansR l x).reverse.map (·.to)) := by
  have := iter_to (step := q06_column_s1 n l x) (fun i => (((i : Nat) : Int), (spansR (l.take i) x).reverse.map (·.from_), (spansR (l.take i) x).reverse.map (·.to))) l.length ((spansR l x).reverse.map (·.from_), (spansR l x).reverse.map (·.to)) (fun i hi => ?_) ?_ n (by omega)
  · simpa [spansR, spansAt] using this
  · have hi' : decide (((i : Nat) : Int) < (l.length : Int)) = true := by simpa using hi
    have ht : l.take (i + 1) = l.take i ++ [l[i]] := List.take_succ_eq_append_getElem hi
    have sn := spansR_snoc (l.take i) l[i] x
    rw [ht, sn]
    have hlen := spansR_len (l.take i) x
    rw [List.length_take] at hlen
    obtain ⟨k, p1, p2, p3, p4⟩ := insRev_place ⟨l[i].y0, l[i].y1⟩ (spansR (l.take i) x)
    generalize spansR (l.take i) x = rs at *
    have e : ((bif (decide (l[i].x0 > (x : Int))) then some true else some (decide (l[i].x1 ≤ (x : Int)))) : Option Bool) = some (!decide (l[i].x0 ≤ x ∧ x < l[i].x1)) := by
      rw [biford]
      congr 1
      by_cases h1 : l[i].x0 ≤ x <;> by_cases h2 : x < l[i].x1 <;> simp [h1, h2] <;> omega
    simp only [q06_column_s1, hi', cond_true, at_get hi, Option.bind_some, e]
    by_cases hc : l[i].x0 ≤ x ∧ x < l[i].x1
    · simp only [hc, and_self, decide_true, Bool.not_true, cond_false, if_true]
      have lF : (rs.reverse.map (·.from_)).length = rs.length := by simp
      have lT : (rs.reverse.map (·.to)).length = rs.length := by simp
      have lR : rs.reverse.length = rs.length := by simp
      have q := q06_column_s2_run (l := l) hi (F := rs.reverse.map (·.from_)) (T := rs.reverse.map (·.to)) (by simp) (by omega) (k := k) (by omega)
        (fun j hj hkj => by rw [List.getElem_map]; exact p3 j (by omega) hkj) (fun h0 => by rw [List.getElem_map]; exact p4 h0 (by omega)) (rs.reverse.map (·.from_) ++ [0]) (rs.reverse.map (·.to) ++ [0]) (by simp) (by simp) rs.length 0 0 p1 (by omega) n (by omega)
      have tF : (rs.reverse.map (·.from_)).take rs.length = rs.reverse.map (·.from_) := List.take_of_length_le (by simp)
      have dF : (rs.reverse.map (·.from_)).drop rs.length = [] := List.drop_of_length_le (by simp)
      have tT : (rs.reverse.map (·.to)).take rs.length = rs.reverse.map (·.to) := List.take_of_length_le (by simp)
      have dT : (rs.reverse.map (·.to)).drop rs.length = [] := List.drop_of_length_le (by simp)
      rw [tF, dF, tT, dT] at q
      obtain ⟨y, y', q⟩ := q
      have hF : ((insRev ltS ⟨l[i].y0, l[i].y1⟩ rs).reverse).map (·.from_) = (rs.reverse.map (·.from_)).take k ++ l[i].y0 :: (rs.reverse.map (·.from_)).drop k := by
        rw [p2]; simp [List.map_take, List.map_drop]
      have hT' : ((insRev ltS ⟨l[i].y0, l[i].y1⟩ rs).reverse).map (·.to) = (rs.reverse.map (·.to)).take k ++ l[i].y1 :: (rs.reverse.map (·.to)).drop k := by
        rw [p2]; simp [List.map_take, List.map_drop]
      rw [hF, hT']
      generalize hFd : rs.reverse.map (·.from_) = F at *
      generalize hTd : rs.reverse.map (·.to) = T at *
      have ap1 : appOk F.length F.length (sub ([0] : List Int) 0 1).length 1 8 = true := appOk_true (n := 1) (by omega) (by simp only [maxLen]; omega)
      have ap2 : appOk T.length T.length (sub ([0] : List Int) 0 1).length 1 8 = true := appOk_true (n := 1) (by omega) (by simp only [maxLen]; omega)
      have s1 : ∀ A : List Int, A ++ (sub ([0] : List Int) 0 1) = A ++ [0] := fun _ => rfl
      have gen : ∀ (A : List Int) (hA : A.length = rs.length) (z v : Int), at? (A.take k ++ z :: A.drop k) (((0 : Nat) : Int) + ((k : Nat) : Int)) = some z ∧ (A.take k ++ z :: A.drop k).set k v = A.take k ++ v :: A.drop k ∧ (A.take k ++ v :: A.drop k).length = rs.length + 1 := by
        intro A hA z v
        have lt : (A.take k).length = k := by rw [List.length_take]; omega
        refine ⟨?_, ?_, ?_⟩
        · rw [at_natz, List.getElem?_append_right (by omega), lt]; simp
        · rw [List.set_append_right _ _ (by omega), lt]; simp
        · rw [List.length_append, List.length_cons, List.length_drop]; omega
      obtain ⟨a1, a2, a3⟩ := gen F (by omega) y l[i].y0
      obtain ⟨b1, b2, b3⟩ := gen T (by omega) y' l[i].y1
      have e2 : (((0 : Nat) : Int) + ((k : Nat) : Int)).toNat = k := by simp
      have lr1 : (F ++ ([0] : List Int)).length = rs.length + 1 := by simp; omega
      have lr2 : (T ++ ([0] : List Int)).length = rs.length + 1 := by simp; omega
      have q' : iter (q06_column_s2 l (i : Int) (F ++ [0]) (T ++ [0])) n ((F.length : Int), F ++ [0], T ++ [0]) = some ((k : Int), F.take k ++ y :: F.drop k, T.take k ++ y' :: T.drop k) := by rw [lF]; exact q
      simp only [ap1, cond_true, letv_eq, s1, ap2, q', Option.bind_some, lr1, lr2, inb_get (show k < rs.length + 1 by omega), a1, b1, e2, a2, b2, a3, b3, eqL_self]
      rw [wrap_succ (by omega)]
    · have hcf : decide (l[i].x0 ≤ x ∧ x < l[i].x1) = false := by simpa using hc
      rw [if_neg hc]
      simp only [hcf, Bool.not_false, cond_true, eqL_self, Option.bind_some]
      rw [wrap_succ (by omega)]
  · have d : decide (((l.length : Nat) : Int) < (l.length : Int)) = false := by simp
    simp only [q06_column_s1, d, cond_false, List.take_length, eqL_self, cond_true]

theorem q06_column_s3_run {n : Nat} {c : List Gspan} (hc : c.length < 1099511627) (hn : c.length < n) :
    iter (q06_column_s3 (c.map (·.from_)) (c.map (·.to))) n ((0 : Int), ([] : List Int)) = some (flatS (c.foldl mrg [])) := by
  have := iter_foldI (l := c) (step := q06_column_s3 (c.map (·.from_)) (c.map (·.to))) (fun i (s : List Gspan) => (((i : Nat) : Int), flatS s)) (fun q s => mrg s q) (fun s => flatS s) (fun i s => s.length ≤ i)
    (fun i hi s hs => ?_) (fun s hs => by simp [q06_column_s3]) n hn [] (Nat.le_refl _)
  · rw [show ((0 : Nat) : Int) = 0 from rfl] at this
    exact this
  · refine ⟨?_, by have := length_mrg s c[i]; omega⟩
    have lF : (c.map (·.from_)).length = c.length := by simp
    have lT : (c.map (·.to)).length = c.length := by simp
    have hi' : decide (((i : Nat) : Int) < (((c.map (·.from_)).length : Nat) : Int)) = true := by rw [lF]; simpa using hi
    have ibF : inb ((i : Nat) : Int) (c.map (·.from_)).length = true := inb_get (by omega)
    have ibT : inb ((i : Nat) : Int) (c.map (·.to)).length = true := inb_get (by omega)
    have gF : at? (c.map (·.from_)) (((0 : Nat) : Int) + ((i : Nat) : Int)) = some c[i].from_ := by rw [at_natz]; simp [hi]
    have gT : at? (c.map (·.to)) (((0 : Nat) : Int) + ((i : Nat) : Int)) = some c[i].to := by rw [at_natz]; simp [hi]
    have sl := flatS_len s
    have ap : appOk (flatS s).length (flatS s).length (sub ([c[i].from_, c[i].to] : List Int) 0 2).length 2 8 = true := appOk_true (n := 2) (by omega) (by simp only [maxLen]; omega)
    have sb : (sub ([c[i].from_, c[i].to] : List Int) 0 2) = [c[i].from_, c[i].to] := rfl
    rw [sb] at ap
    have fl : flatS s ++ [c[i].from_, c[i].to] = flatS (s ++ [c[i]]) := by rw [flatS_append]; rfl
    simp only [q06_column_s3, hi', cond_true, ibF, gF, Option.bind_some]
    rcases List.eq_nil_or_concat s with rfl | ⟨s0, q, hsq⟩
    · have d0 : decide ((((flatS []).length : Nat) : Int) > 0) = false := by simp [flatS]
      simp only [d0, cond_false, Option.bind_some, ibT, gT, cond_true, ap, letv_eq, sb, fl, eqL_self]
      rw [wrap_succ (by omega)]
      rfl
    · rw [List.concat_eq_append] at hsq
      subst hsq
      have f1 : flatS (s0 ++ [q]) = flatS s0 ++ [q.from_, q.to] := by rw [flatS_append]; rfl
      have lenq : (flatS (s0 ++ [q])).length = (flatS s0).length + 2 := by rw [f1]; simp
      have d0 : decide ((((flatS (s0 ++ [q])).length : Nat) : Int) > 0) = true := by rw [lenq]; simp <;> omega
      have wp : IntKind.i64.wrap ((((flatS (s0 ++ [q])).length : Nat) : Int) - 1) = (((flatS s0).length + 1 : Nat) : Int) := by rw [wrap_pred (by omega) (by omega), lenq]; rfl
      have ib2 : inb (((flatS s0).length + 1 : Nat) : Int) (flatS (s0 ++ [q])).length = true := inb_get (by omega)
      have g : at? (flatS (s0 ++ [q])) (((0 : Nat) : Int) + (((flatS s0).length + 1 : Nat) : Int)) = some q.to := by
        rw [at_natz, f1, List.getElem?_append_right (by omega)]; simp
      have z : (((0 : Nat) : Int) + (((flatS s0).length + 1 : Nat) : Int)).toNat = (flatS s0).length + 1 := by simp
      have st : (flatS (s0 ++ [q])).set ((flatS s0).length + 1) (max q.to c[i].to) = flatS (s0 ++ [⟨q.from_, max q.to c[i].to⟩]) := by
        rw [f1, flatS_append, List.set_append_right _ _ (by omega)]
        simp [flatS]
      have m : mrg (s0 ++ [q]) c[i] = bif decide (c[i].from_ ≤ q.to) then s0 ++ [⟨q.from_, max q.to c[i].to⟩] else s0 ++ [q] ++ [c[i]] := by
        simp [mrg]
      have le : (flatS (s0 ++ [(⟨q.from_, max q.to c[i].to⟩ : Gspan)])).length = (flatS (s0 ++ [q])).length := by rw [flatS_len, flatS_len]; simp
      simp only [d0, cond_true, wp, ib2, g, Option.bind_some, m]
      cases decide (c[i].from_ ≤ q.to) with
      | true =>
        simp only [cond_true, ibT, gT, z, st, Option.bind_some, le, eqL_self]
        rw [wrap_succ (by omega)]
      | false =>
        simp only [cond_false, ibT, gT, cond_true, ap, letv_eq, sb, fl, eqL_self, Option.bind_some]
        rw [wrap_succ (by omega)]

theorem q06_column_eq {n : Nat} {l : List GRect} {x : Int} (hl : l.length < 1099511627) (hn : l.length < n) : q06_column n l x = some (flatS (columnL l x)) := by
  have h := spansR_len l x
  have hr : (spansR l x).reverse.length = (spansR l x).length := by simp
  unfold q06_column
  simp only [List.length_nil, eqL_self, cond_true, q06_column_s1_run hl hn, Option.bind_some]
  rw [q06_column_s3_run (n := n) (c := (spansR l x).reverse) (by omega) (by omega)]
  simp only [Option.bind_some, sub_all, eqL_self, cond_true]
  rfl
end Go.Proofs

namespace Go.Proofs
open Go.Gb Go.RowKit

theorem q06_combine_nil {n : Nat} {a : List Int} (ha : a.length < 1099511627) (hn : a.length < n) : q06_combine n a [] 0 = some a := by
  have odd : ∀ i : Nat, (Int.tmod (((i + 1 : Nat)) : Int) 2 == 1) = !(Int.tmod ((i : Nat) : Int) 2 == 1) := by
    intro i
    rw [Int.tmod_eq_emod_of_nonneg (by omega), Int.tmod_eq_emod_of_nonneg (by omega)]
    by_cases h : ((i : Nat) : Int) % 2 = 1
    · have e1 : ((((i + 1 : Nat)) : Int) % 2 == 1) = false := by rw [beq_eq_false_iff_ne]; omega
      have e2 : (((i : Nat) : Int) % 2 == 1) = true := by rw [beq_iff_eq]; exact h
      rw [e1, e2]; rfl
    · have e1 : ((((i + 1 : Nat)) : Int) % 2 == 1) = true := by rw [beq_iff_eq]; omega
      have e2 : (((i : Nat) : Int) % 2 == 1) = false := by rw [beq_eq_false_iff_ne]; exact h
      rw [e1, e2]; rfl
  have := iter_to (step := q06_combine_s1 a [] 0) (fun i => (((i : Nat) : Int), (0 : Int), (Int.tmod ((i : Nat) : Int) 2 == 1), a.take i)) a.length a (fun i hi => ?_) ?_ n hn
  · unfold q06_combine
    have z : (Int.tmod (((0 : Nat)) : Int) 2 == 1) = false := by decide
    simp only [z, List.take_zero] at this
    rw [show ((0 : Nat) : Int) = 0 from rfl] at this
    simp only [List.length_nil, eqL_self, cond_true, this, Option.bind_some, sub_all]
  · have hi' : decide (((i : Nat) : Int) < (a.length : Int)) = true := by simpa using hi
    have lt : (a.take i).length = i := by rw [List.length_take]; omega
    have ap : appOk (a.take i).length (a.take i).length (sub ([a[i]] : List Int) 0 1).length 1 8 = true := appOk_true (n := 1) (by omega) (by simp only [maxLen]; omega)
    have sb : (sub ([a[i]] : List Int) 0 1) = [a[i]] := rfl
    rw [sb] at ap
    have d0 : decide ((0 : Int) ≥ ((([] : List Int).length : Nat) : Int)) = true := by decide
    have d1 : decide ((0 : Int) < ((([] : List Int).length : Nat) : Int)) = false := by decide
    have t2 : ((2 : Nat) != 0) = true := by decide
    have t2' : ((2 : Int) != 0) = true := by decide
    have t0 : (Int.tmod (0 : Int) 2 == 1) = false := by decide
    have e1 : ((0 : Int) == 1) = false := by decide
    have e2 : ((0 : Int) == 2) = false := by decide
    have w : IntKind.i64.wrap ((i : Int) + 1) = (((i + 1 : Nat)) : Int) := wrap_succ (by omega)
    have ne : (!((!(Int.tmod ((i : Nat) : Int) 2 == 1)) == (Int.tmod ((i : Nat) : Int) 2 == 1))) = true := by cases (Int.tmod ((i : Nat) : Int) 2 == 1) <;> rfl
    have bb : ∀ b : Bool, ((bif b then some true else some false) : Option Bool) = some b := fun b => by cases b <;> rfl
    simp only [q06_combine_s1, hi', cond_true, Option.bind_some, d0, at_get hi, beq_self_eq_true, d1, cond_false, t2, t2', t0, e1, e2, w, odd, bb, ne, sb, ap, letv_eq, eqL_self]
    rw [List.take_succ_eq_append_getElem hi]
  · have d : decide (((a.length : Nat) : Int) < (a.length : Int)) = false := by simp
    have d1 : decide ((0 : Int) < ((([] : List Int).length : Nat) : Int)) = false := by decide
    simp only [q06_combine_s1, d, d1, cond_false, Option.bind_some, List.take_length, eqL_self, cond_true]

theorem q06_ints_eq {n : Nat} {a b : List Int} (ha : a.length < 1099511627) (hn : a.length < n) : q06_ints n a b = some (decide (a = b)) := by
  unfold q06_ints
  by_cases hl : a.length = b.length
  · have e : ((a.length : Int) != (b.length : Int)) = false := by simp [hl]
    rw [e]
    simp only [cond_false]
    have eq : ∀ m : Nat, m ≤ a.length → (∀ j (h : j < m) (h1 : j < a.length) (h2 : j < b.length), a[j] = b[j]) → ∀ k, a.length - m < k → iter (q06_ints_s1 a b) k (m : Int) = some (if a = b then .inl () else .inr false) := by
      intro m
      induction hm : a.length - m generalizing m with
      | zero =>
        intro h1 h2 k hk
        obtain ⟨k, rfl⟩ : ∃ j, k = j + 1 := ⟨k - 1, by omega⟩
        have : m = a.length := by omega
        subst this
        have : a = b := List.ext_getElem hl fun i h1 h2' => h2 i h1 h1 h2'
        refine iter_inr ?_
        simp [q06_ints_s1, this]
      | succ d ih =>
        intro h1 h2 k hk
        obtain ⟨k, rfl⟩ : ∃ j, k = j + 1 := ⟨k - 1, by omega⟩
        have hma : m < a.length := by omega
        have hmb : m < b.length := by omega
        have d' : decide (((m : Nat) : Int) < (a.length : Int)) = true := by simpa using hma
        by_cases hab : a[m] = b[m]
        · have stp : q06_ints_s1 a b (m : Int) = some (.inl (((m + 1 : Nat)) : Int)) := by
            simp only [q06_ints_s1, d', cond_true, at_get hma, at_get hmb, Option.bind_some, hab, bne_self_eq_false, cond_false]
            rw [wrap_succ (by omega)]
          rw [iter_inl stp]
          refine ih (m + 1) (by omega) (by omega) (fun j hj h3 h4 => ?_) k (by omega)
          by_cases e : j = m
          · subst e; exact hab
          · exact h2 j (by omega) h3 h4
        · have : ¬ a = b := fun e => hab (by simp only [e])
          refine iter_inr ?_
          have ne : (a[m] != b[m]) = true := by simp [hab]
          simp only [q06_ints_s1, d', cond_true, at_get hma, at_get hmb, Option.bind_some, ne, this, if_false]
          rfl
    have := eq 0 (by omega) (fun j h => by omega) n (by omega)
    rw [show ((0 : Nat) : Int) = 0 from rfl] at this
    rw [this]
    by_cases hab : a = b <;> simp [hab, thenB]
  · have e : ((a.length : Int) != (b.length : Int)) = true := by simp; omega
    have : ¬ a = b := fun e => hl (by rw [e])
    simp [e, this]

theorem q06_Form_s2_run {n : Nat} {E : List Int} {i : Nat} (hi : i + 1 < E.length) (hE : E.length < 1099511627) (done : List GRect) (w : List Gspan) (x0 x1 : Int) (hd : done.length + w.length < 1099511627) (hn : w.length < n) :
    iter (q06_Form_s2 E (i : Int) (done ++ rectsL x0 x1 w)) n ((done.length : Int), done ++ rectsL x0 x1 w) = some (done ++ rectsL x0 E[i + 1] w) := by
  have lr : ∀ y, (rectsL x0 y w).length = w.length := fun y => by simp [rectsL]
  have := iter_to (step := q06_Form_s2 E (i : Int) (done ++ rectsL x0 x1 w)) (fun j => (((done.length + j : Nat) : Int), done ++ ((rectsL x0 E[i + 1] w).take j ++ (rectsL x0 x1 w).drop j))) w.length (done ++ rectsL x0 E[i + 1] w) (fun j hj => ?_) ?_ n hn
  · simpa using this
  · have hlen : (done ++ rectsL x0 x1 w).length = done.length + w.length := by rw [List.length_append, lr]
    have d : decide (((done.length + j : Nat) : Int) < (((done ++ rectsL x0 x1 w).length : Nat) : Int)) = true := by rw [hlen]; simp; omega
    have w1 : IntKind.i64.wrap ((i : Int) + 1) = (((i + 1 : Nat)) : Int) := wrap_succ (by omega)
    have w2 : IntKind.i64.wrap (((done.length + j : Nat) : Int) + 1) = (((done.length + j + 1 : Nat)) : Int) := wrap_succ (by omega)
    have ib : inb ((done.length + j : Nat) : Int) (done ++ rectsL x0 x1 w).length = true := inb_get (by omega)
    have lt : ((rectsL x0 E[i + 1] w).take j).length = j := by rw [List.length_take, lr]; omega
    have hjr : j < (rectsL x0 x1 w).length := by rw [lr]; exact hj
    have dr : (rectsL x0 x1 w).drop j = (⟨x0, w[j].from_, x1, w[j].to⟩ : GRect) :: (rectsL x0 x1 w).drop (j + 1) := by
      rw [List.drop_eq_getElem_cons hjr]
      congr 1
      simp [rectsL]
    have g : at? (done ++ ((rectsL x0 E[i + 1] w).take j ++ (rectsL x0 x1 w).drop j)) (((0 : Nat) : Int) + ((done.length + j : Nat) : Int)) = some ⟨x0, w[j].from_, x1, w[j].to⟩ := by
      rw [at_natz, List.getElem?_append_right (by omega), List.getElem?_append_right (by omega), lt, dr]
      simp
    have e2 : (((0 : Nat) : Int) + ((done.length + j : Nat) : Int)).toNat = done.length + j := by simp; omega
    have st : (done ++ ((rectsL x0 E[i + 1] w).take j ++ (rectsL x0 x1 w).drop j)).set (done.length + j) (GRect.mk x0 w[j].from_ E[i + 1] w[j].to) = done ++ ((rectsL x0 E[i + 1] w).take (j + 1) ++ (rectsL x0 x1 w).drop (j + 1)) := by
      rw [List.set_append_right _ _ (by omega), List.set_append_right _ _ (by omega), lt, dr]
      rw [List.take_succ_eq_append_getElem (by rw [lr]; exact hj)]
      have : done.length + j - done.length - j = 0 := by omega
      rw [this]
      simp [rectsL]
    simp only [q06_Form_s2, d, cond_true, w1, inb_get hi, at_getz hi, Option.bind_some, ib, g, e2, st, w2]
    rfl
  · have hlen : (done ++ rectsL x0 x1 w).length = done.length + w.length := by rw [List.length_append, lr]
    have d : decide (((done.length + w.length : Nat) : Int) < (((done ++ rectsL x0 x1 w).length : Nat) : Int)) = false := by rw [hlen]; simp
    simp only [q06_Form_s2, d, cond_false]
    rw [List.take_of_length_le (by rw [lr]; exact Nat.le_refl _), List.drop_of_length_le (by rw [lr]; exact Nat.le_refl _), List.append_nil]

theorem q06_Form_s3_run {n : Nat} {E : List Int} {i : Nat} (hi : i + 1 < E.length) (hE : E.length < 1099511627) (out : List GRect) (w : List Gspan) (hd : out.length + w.length < 1099511627) (hn : w.length < n) :
    iter (q06_Form_s3 E (i : Int) (flatS w)) n ((0 : Int), out) = some (out ++ rectsL (E[i]'(by omega)) E[i + 1] w) := by
  have lr : (rectsL (E[i]'(by omega)) E[i + 1] w).length = w.length := by simp [rectsL]
  have fl := flatS_len w
  have getf : ∀ j (hj : j < w.length), (flatS w)[2 * j]? = some w[j].from_ ∧ (flatS w)[2 * j + 1]? = some w[j].to := by
    intro j
    clear hd hn lr fl
    induction w generalizing j with
    | nil => intro hj; simp at hj
    | cons q w ih =>
      intro hj
      have fc : flatS (q :: w) = q.from_ :: q.to :: flatS w := by simp [flatS]
      rw [fc]
      cases j with
      | zero => simp
      | succ j =>
        have := ih j (by simpa using hj)
        rw [show 2 * (j + 1) = 2 * j + 1 + 1 by omega]
        simpa using this
  have := iter_to (step := q06_Form_s3 E (i : Int) (flatS w)) (fun j => (((2 * j : Nat) : Int), out ++ (rectsL (E[i]'(by omega)) E[i + 1] w).take j)) w.length (out ++ rectsL (E[i]'(by omega)) E[i + 1] w) (fun j hj => ?_) ?_ n hn
  · simpa using this
  · have w1 : IntKind.i64.wrap ((i : Int) + 1) = (((i + 1 : Nat)) : Int) := wrap_succ (by omega)
    have w2 : IntKind.i64.wrap (((2 * j : Nat) : Int) + 1) = (((2 * j + 1 : Nat)) : Int) := wrap_succ (by omega)
    have w3 : IntKind.i64.wrap (((2 * j : Nat) : Int) + 2) = (((2 * (j + 1) : Nat)) : Int) := by rw [wrap_id (by omega) (by omega)]; omega
    have d : decide (((2 * j + 1 : Nat) : Int) < (((flatS w).length : Nat) : Int)) = true := by rw [fl]; simp; omega
    have ib0 : inb ((2 * j : Nat) : Int) (flatS w).length = true := inb_get (by omega)
    have ib1 : inb ((2 * j + 1 : Nat) : Int) (flatS w).length = true := inb_get (by omega)
    have g0 : at? (flatS w) (((0 : Nat) : Int) + ((2 * j : Nat) : Int)) = some w[j].from_ := by rw [at_natz]; exact (getf j hj).1
    have g1 : at? (flatS w) (((0 : Nat) : Int) + ((2 * j + 1 : Nat) : Int)) = some w[j].to := by rw [at_natz]; exact (getf j hj).2
    have lt : ((rectsL (E[i]'(by omega)) E[i + 1] w).take j).length = j := by rw [List.length_take, lr]; omega
    have lo : (out ++ (rectsL (E[i]'(by omega)) E[i + 1] w).take j).length = out.length + j := by rw [List.length_append, lt]
    have ap : appOk (out ++ (rectsL (E[i]'(by omega)) E[i + 1] w).take j).length (out ++ (rectsL (E[i]'(by omega)) E[i + 1] w).take j).length (sub ([(GRect.mk (E[i]'(by omega)) w[j].from_ E[i + 1] w[j].to)] : List GRect) 0 1).length 1 32 = true := appOk_true (n := 1) (by omega) (by simp only [maxLen]; omega)
    have sb : (sub ([(GRect.mk (E[i]'(by omega)) w[j].from_ E[i + 1] w[j].to)] : List GRect) 0 1) = [⟨E[i]'(by omega), w[j].from_, E[i + 1], w[j].to⟩] := rfl
    rw [sb] at ap
    simp only [q06_Form_s3, w2, d, cond_true, inb_get (show i < E.length by omega), at_getz (show i < E.length by omega), Option.bind_some, ib0, g0, w1, inb_get hi, at_getz hi, ib1, g1, sb, ap, letv_eq, eqL_self, w3]
    rw [List.take_succ_eq_append_getElem (by rw [lr]; exact hj), List.append_assoc]
    simp [rectsL]
  · have w2 : IntKind.i64.wrap (((2 * w.length : Nat) : Int) + 1) = (((2 * w.length + 1 : Nat)) : Int) := wrap_succ (by omega)
    have d : decide (((2 * w.length + 1 : Nat) : Int) < (((flatS w).length : Nat) : Int)) = false := by rw [fl]; simp; omega
    simp only [q06_Form_s3, w2, d, cond_false, eqL_self, cond_true]
    rw [List.take_of_length_le (by rw [lr]; exact Nat.le_refl _)]
end Go.Proofs

namespace Go.Proofs
open Go.Gb Go.RowKit

theorem wrGo_nil (l : List Gstrip) : ∀ x0 x1 y0 y1, wrGo x0 x1 [] l = wrGo y0 y1 [] l := by
  induction l with
  | nil => intros; simp [wrGo, rectsL]
  | cons s l ih =>
    intro x0 x1 y0 y1
    simp only [wrGo]
    split
    · exact ih _ _ _ _
    · simp [rectsL]

/-- What the loop of Form has behind it. -/
def FormInv (l : List GRect) (i : Nat) (last : Nat) (out : List GRect) (w : List Gspan) : Prop :=
  out.length ≤ i * l.length ∧ w.length ≤ l.length ∧
  ((i = 0 ∧ last = 0 ∧ out = [] ∧ w = []) ∨
   (0 < i ∧ ∃ done x0 x1, out = done ++ rectsL x0 x1 w ∧ last = done.length ∧ writeL (stripsL l) = done ++ wrGo x0 x1 w ((stripsL l).drop i)))

theorem stripsL_get {l : List GRect} {i : Nat} (h : i < (stripsL l).length) : ∃ (h1 : i < (edgesL l).length) (h2 : i + 1 < (edgesL l).length), (stripsL l)[i] = ⟨(edgesL l)[i], (edgesL l)[i + 1], columnL l (edgesL l)[i]⟩ := by
  obtain ⟨p1, p2⟩ := pairsL_get (fun a b => (⟨a, b, columnL l a⟩ : Gstrip)) (edgesL l)
  have h0 : i < (pairsL (fun a b => (⟨a, b, columnL l a⟩ : Gstrip)) (edgesL l)).length := h
  exact ⟨by omega, by omega, p2 i (by omega) h⟩

theorem stripsL_len (l : List GRect) : (stripsL l).length = (edgesL l).length - 1 := (pairsL_get (fun a b => (⟨a, b, columnL l a⟩ : Gstrip)) (edgesL l)).1

theorem q06_Form_s1_run {n : Nat} {l : List GRect} (hl : l.length ≤ 1000) (hn : 2 * l.length + 2 < n) : ∀ (m i last : Nat) (out : List GRect) (w : List Gspan), i + m = (stripsL l).length → FormInv l i last out w → ∀ k, m < k →
    iter (q06_Form_s1 n l [] 0 (edgesL l)) k ((last : Int), (i : Int), out, flatS w) = some (writeL (stripsL l))
  | 0, i, last, out, w, hm, hI, k, hk => by
    obtain ⟨k, rfl⟩ : ∃ j, k = j + 1 := ⟨k - 1, by omega⟩
    have sl := stripsL_len l
    have le := length_edgesL l
    have wp : IntKind.i64.wrap ((i : Int) + 1) = (((i + 1 : Nat)) : Int) := wrap_succ (by omega)
    have d : decide ((((i + 1 : Nat)) : Int) < (((edgesL l).length : Nat) : Int)) = false := by simp; omega
    obtain ⟨_, _, hI⟩ := hI
    have fin : out = writeL (stripsL l) := by
      rcases hI with ⟨h0, _, rfl, _⟩ | ⟨h0, done, x0, x1, rfl, _, hw⟩
      · subst h0
        have : stripsL l = [] := List.eq_nil_of_length_eq_zero (by omega)
        rw [this]; rfl
      · rw [hw, List.drop_of_length_le (by omega)]; rfl
    refine iter_inr ?_
    simp only [q06_Form_s1, wp, d, cond_false, eqL_self, cond_true, fin]
  | m + 1, i, last, out, w, hm, hI, k, hk => by
    obtain ⟨k, rfl⟩ : ∃ j, k = j + 1 := ⟨k - 1, by omega⟩
    have sl := stripsL_len l
    have le := length_edgesL l
    have hi : i < (stripsL l).length := by omega
    obtain ⟨e1, e2, es⟩ := stripsL_get hi
    obtain ⟨hlo, hlw, hI⟩ := hI
    have ob : i * l.length ≤ 2000 * 1000 := Nat.mul_le_mul (by omega) hl
    have wp : IntKind.i64.wrap ((i : Int) + 1) = (((i + 1 : Nat)) : Int) := wrap_succ (by omega)
    have d : decide ((((i + 1 : Nat)) : Int) < (((edgesL l).length : Nat) : Int)) = true := by simp; omega
    have hcl := length_columnL l (edgesL l)[i]
    have c1 : q06_column n l (edgesL l)[i] = some (flatS (columnL l (edgesL l)[i])) := q06_column_eq (by omega) (by omega)
    have c2 : q06_column n [] (edgesL l)[i] = some [] := q06_column_eq (l := []) (x := (edgesL l)[i]) (by simp) (by simp; omega)
    have c3 : q06_combine n (flatS (columnL l (edgesL l)[i])) [] 0 = some (flatS (columnL l (edgesL l)[i])) := q06_combine_nil (by rw [flatS_len]; omega) (by rw [flatS_len]; omega)
    have dr : (stripsL l).drop i = ⟨(edgesL l)[i], (edgesL l)[i + 1], columnL l (edgesL l)[i]⟩ :: (stripsL l).drop (i + 1) := by rw [List.drop_eq_getElem_cons hi, es]
    have ints : q06_ints n (flatS (columnL l (edgesL l)[i])) (flatS w) = some (decide (columnL l (edgesL l)[i] = w)) := by
      rw [q06_ints_eq (by rw [flatS_len]; omega) (by rw [flatS_len]; omega)]
      congr 1
      exact decide_eq_decide.2 ⟨fun h => flatS_inj h, fun h => by rw [h]⟩
    have hlen : decide ((((flatS (columnL l (edgesL l)[i])).length : Nat) : Int) > 0) = decide (columnL l (edgesL l)[i] ≠ []) := by
      rw [flatS_len]
      refine decide_eq_decide.2 ?_
      rw [← List.length_pos_iff]
      omega
    have di : decide ((i : Int) > 0) = decide (0 < i) := by refine decide_eq_decide.2 ?_; omega
    generalize hc : columnL l (edgesL l)[i] = c at *
    have test : ((bif decide ((i : Int) > 0) then (bif decide ((((flatS c).length : Nat) : Int) > 0) then some (decide (c = w)) else some false) else some false) : Option Bool) = some (decide (0 < i ∧ c ≠ [] ∧ c = w)) := by
      rw [hlen, di, bifand, bifand]
      congr 1
      by_cases a : 0 < i <;> by_cases b : c ≠ [] <;> by_cases e : c = w <;> simp [a, b, e]
    have c2' : q06_column n [] (edgesL l)[i] = some (flatS []) := c2
    by_cases ht : 0 < i ∧ c ≠ [] ∧ c = w
    · obtain ⟨h0, hne, rfl⟩ := ht
      rcases hI with ⟨h1, _⟩ | ⟨_, done, x0, x1, rfl, rfl, hw⟩
      · omega
      · have lenr : (done ++ rectsL x0 x1 c).length = done.length + c.length := by simp [rectsL]
        have r := q06_Form_s2_run (n := n) (E := edgesL l) e2 (by omega) done c x0 x1 (by omega) (by omega)
        have le2 : (done ++ rectsL x0 x1 c).length = (done ++ rectsL x0 (edgesL l)[i + 1] c).length := by simp [rectsL]
        have stp : q06_Form_s1 n l [] 0 (edgesL l) (((done.length : Nat) : Int), (i : Int), done ++ rectsL x0 x1 c, flatS c) = some (.inl (((done.length : Nat) : Int), (((i + 1 : Nat)) : Int), done ++ rectsL x0 (edgesL l)[i + 1] c, flatS c)) := by
          have t1 : decide (0 < i ∧ c ≠ [] ∧ c = c) = true := by simp [h0, hne]
          rw [t1] at test
          simp only [eq_self] at test
          simp only [q06_Form_s1, wp, d, cond_true, inb_get e1, at_getz e1, Option.bind_some, c1, c2, sub_all, eqL_self, c3, ints]
          rw [test]
          simp only [Option.bind_some, cond_true, r, le2, eqL_self]
        rw [iter_inl stp]
        refine q06_Form_s1_run hl hn m (i + 1) _ _ _ (by omega) ⟨?_, hlw, .inr ⟨by omega, done, x0, _, rfl, rfl, ?_⟩⟩ k (by omega)
        · rw [← le2, Nat.add_mul]; omega
        · rw [hw, dr]
          simp only [wrGo, if_true]
    · have hcw : ¬ (0 < i ∧ c ≠ [] ∧ c = w) := ht
      have r := q06_Form_s3_run (n := n) (E := edgesL l) e2 (by omega) out c (by omega) (by omega)
      have stp : q06_Form_s1 n l [] 0 (edgesL l) ((last : Int), (i : Int), out, flatS w) = some (.inl (((out.length : Nat) : Int), (((i + 1 : Nat)) : Int), out ++ rectsL (edgesL l)[i] (edgesL l)[i + 1] c, flatS c)) := by
        have t1 : decide (0 < i ∧ c ≠ [] ∧ c = w) = false := by simpa using hcw
        rw [t1] at test
        simp only [q06_Form_s1, wp, d, cond_true, inb_get e1, at_getz e1, Option.bind_some, c1, c2, sub_all, eqL_self, c3, ints]
        rw [test]
        simp only [Option.bind_some, cond_false, r, eqL_self, cond_true]
      rw [iter_inl stp]
      refine q06_Form_s1_run hl hn m (i + 1) _ _ _ (by omega) ⟨?_, hcl, .inr ⟨by omega, out, _, _, rfl, rfl, ?_⟩⟩ k (by omega)
      · rw [List.length_append, Nat.add_mul]; simp [rectsL]; omega
      · rcases hI with ⟨rfl, rfl, rfl, rfl⟩ | ⟨h0, done, x0, x1, rfl, rfl, hw⟩
        · rw [List.drop_zero] at dr
          conv => lhs; rw [dr]
          simp [writeL]
        · rw [hw, dr, List.append_assoc]
          congr 1
          simp only [wrGo]
          by_cases hcw2 : c = w
          · have hce : c = [] := by
              rcases Decidable.em (c = []) with h | h
              · exact h
              · exact absurd ⟨h0, h, hcw2⟩ hcw
            subst hcw2
            subst hce
            simp only [if_true]
            have : rectsL x0 x1 [] = [] := rfl
            rw [this, List.nil_append]
            exact wrGo_nil _ _ _ _ _
          · simp only [hcw2, if_false]

theorem q06_Form_eq {n : Nat} {l : List GRect} (hl : l.length ≤ 1000) (hn : 2 * l.length + 2 < n) : q06_Form n l [] 0 = some (writeL (stripsL l)) := by
  have sl := stripsL_len l
  have le := length_edgesL l
  unfold q06_Form
  rw [q06_edges_eq (by omega) (by omega)]
  have := q06_Form_s1_run hl hn (stripsL l).length 0 0 [] [] (by omega) ⟨by simp, by simp, .inl ⟨rfl, rfl, rfl, rfl⟩⟩ n (by omega)
  have this' : iter (q06_Form_s1 n l [] 0 (edgesL l)) n ((0 : Int), (0 : Int), ([] : List GRect), ([] : List Int)) = some (writeL (stripsL l)) := this
  simp only [Option.bind_some, List.length_nil, eqL_self, cond_true, this', sub_all]

theorem q06_RightRect_eq (r : GRect) : q06_RightRect r = some (OkR r) := by
  simp only [q06_RightRect, bifand]

theorem q06_Of_eq {n : Nat} {l : List GRect} (hl : l.length ≤ 400) (hn : 2 * l.length + 2 < n) : q06_Of n l = some (ofL l) := by
  unfold q06_Of
  have h1 := iter_find (l := l) (step := q06_Of_s1 l) (fun i => (i : Int)) (fun r => !OkR r) () (fun _ => (([] : List GRect), (1 : Int))) (fun i hi => ?_) ?_ n (by omega)
  · rw [show ((0 : Nat) : Int) = 0 from rfl] at h1
    rw [h1]
    have h2 := findL_isSome (fun r => !OkR r) l
    cases hf : findL (fun r => !OkR r) l with
    | some i =>
      rw [hf] at h2
      have : l.all OkR = false := by
        rw [← Bool.not_eq_true, List.all_eq_true]
        intro hall
        have h3 := h2.symm
        simp only [Option.isSome_some, List.any_eq_true] at h3
        obtain ⟨x, hx, hx2⟩ := h3
        rw [hall x hx] at hx2; cases hx2
      simp [ofL, this]
    | none =>
      rw [hf] at h2
      have : l.all OkR = true := by
        rw [List.all_eq_true]
        intro x hx
        cases h : OkR x with
        | true => rfl
        | false =>
          have : l.any (fun r => !OkR r) = true := List.any_eq_true.2 ⟨x, hx, by rw [h]; rfl⟩
          rw [this] at h2; cases h2
      have d4 : decide ((l.length : Int) > 400) = false := by simp; omega
      simp only [thenB_inl, d4, cond_false]
      rw [q06_Form_eq (by omega) hn]
      simp only [Option.bind_some, sub_all, eqL_self, cond_true, ofL, this, if_true]
      by_cases h200 : (writeL (stripsL l)).length > 200
      · have : decide (((writeL (stripsL l)).length : Int) > 200) = true := by simp; omega
        simp only [this, cond_true, h200, if_true]
      · have : decide (((writeL (stripsL l)).length : Int) > 200) = false := by simp; omega
        simp only [this, cond_false, h200, if_false]
  · have hi' : decide (((i : Nat) : Int) < (l.length : Int)) = true := by simpa using hi
    simp only [q06_Of_s1, hi', cond_true, at_get hi, Option.bind_some, q06_RightRect_eq]
    cases OkR l[i] with
    | false => rfl
    | true => simp only [Bool.not_true, cond_false]; rw [wrap_succ (by omega)]
  · simp [q06_Of_s1]

/-- Comparing place by place. -/
theorem iter_same {α : Type} [DecidableEq α] {a b : List α} {step : Int → Option (Int ⊕ (Unit ⊕ Bool))} (hl : a.length = b.length)
    (h : ∀ i (h1 : i < a.length) (h2 : i < b.length), step (i : Int) = some (if a[i] = b[i] then .inl (((i + 1 : Nat)) : Int) else .inr (.inr false))) (hend : step (a.length : Int) = some (.inr (.inl ()))) (n : Nat) (hn : a.length < n) :
    iter step n (0 : Int) = some (if a = b then .inl () else .inr false) := by
  have eq : ∀ m : Nat, m ≤ a.length → (∀ j (h : j < m) (h1 : j < a.length) (h2 : j < b.length), a[j] = b[j]) → ∀ k, a.length - m < k → iter step k (m : Int) = some (if a = b then .inl () else .inr false) := by
    intro m
    induction hm : a.length - m generalizing m with
    | zero =>
      intro h1 h2 k hk
      obtain ⟨k, rfl⟩ : ∃ j, k = j + 1 := ⟨k - 1, by omega⟩
      have : m = a.length := by omega
      subst this
      have : a = b := List.ext_getElem hl fun i h1 h2' => h2 i h1 h1 h2'
      refine iter_inr ?_
      rw [hend, if_pos this]
    | succ d ih =>
      intro h1 h2 k hk
      obtain ⟨k, rfl⟩ : ∃ j, k = j + 1 := ⟨k - 1, by omega⟩
      have hma : m < a.length := by omega
      have hmb : m < b.length := by omega
      by_cases hab : a[m] = b[m]
      · have stp : step (m : Int) = some (.inl (((m + 1 : Nat)) : Int)) := by rw [h m hma hmb, if_pos hab]
        rw [iter_inl stp]
        refine ih (m + 1) (by omega) (by omega) (fun j hj h3 h4 => ?_) k (by omega)
        by_cases e : j = m
        · subst e; exact hab
        · exact h2 j (by omega) h3 h4
      · have : ¬ a = b := fun e => hab (by simp only [e])
        refine iter_inr ?_
        rw [h m hma hmb, if_neg hab, if_neg this]
  exact eq 0 (by omega) (fun j h => by omega) n (by omega)

theorem q06_Same_eq {n : Nat} {a b : List GRect} (ha : a.length < 1099511627) (hn : a.length = b.length → a.length < n) : q06_Same n a b = some (decide (a = b)) := by
  unfold q06_Same
  by_cases hl : a.length = b.length
  · have e : ((a.length : Int) != (b.length : Int)) = false := by simp [hl]
    rw [e]
    simp only [cond_false]
    rw [iter_same (step := q06_Same_s1 a b) hl (fun i h1 h2 => ?_) (by simp [q06_Same_s1]) n (hn hl)]
    · by_cases hab : a = b <;> simp [hab, thenB]
    · have d : decide (((i : Nat) : Int) < (a.length : Int)) = true := by simpa using h1
      have eqr : (a[i].x0 == b[i].x0 && (a[i].y0 == b[i].y0 && (a[i].x1 == b[i].x1 && (a[i].y1 == b[i].y1 && true)))) = decide (a[i] = b[i]) := by
        cases a[i]; cases b[i]
        rw [Bool.eq_iff_iff]
        simp
      simp only [q06_Same_s1, d, cond_true, at_get h1, at_get h2, Option.bind_some, eqr]
      by_cases hab : a[i] = b[i]
      · simp only [hab, decide_true, Bool.not_true, cond_false, if_true]
        rw [wrap_succ (by omega)]
      · simp only [hab, decide_false, Bool.not_false, cond_true, if_false]
        rfl
  · have e : ((a.length : Int) != (b.length : Int)) = true := by simp; omega
    have : ¬ a = b := fun e => hl (by rw [e])
    simp [e, this]

theorem q06_Right_eq {n : Nat} {l : List GRect} (hl : l.length ≤ 400) (hn : 2 * l.length + 2 < n) : q06_Right n l = some (rightL l) := by
  unfold q06_Right rightL
  rw [q06_Of_eq hl hn]
  simp only [Option.bind_some]
  by_cases h : (ofL l).2 = 0
  · have e : ((ofL l).2 == 0) = true := by simp [h]
    have lo : (ofL l).1.length ≤ 200 := by
      unfold ofL
      split
      · split
        · simp
        · simp; omega
      · simp
    simp only [e, cond_true, sub_all, eqL_self, h, decide_true, Bool.true_and]
    rw [q06_Same_eq (by omega) (by omega)]; rfl
  · have e : ((ofL l).2 == 0) = false := by simp [h]
    simp [e, h]
end Go.Proofs

namespace Go.Proofs
open Go.Gb Go.RowKit

/-! ### Gaps -/
theorem q05_Right_eq (r : GRect) : q05_Right r = some (OkR r) := by
  simp only [q05_Right, q05_span, bifand, Option.bind_some, Bool.and_assoc]

theorem q05_Gap_eq (a b : GRect) : q05_Gap a b = some (gapR a b) := by
  unfold q05_Gap gapR
  rw [q05_Right_eq, q05_Right_eq]
  simp only [Option.bind_some]
  cases ha : OkR a with
  | false => rfl
  | true =>
    cases hb : OkR b with
    | false => rfl
    | true =>
      simp only [OkR, Bool.and_eq_true, decide_eq_true_eq] at ha hb
      obtain ⟨a1, a2, a3, a4, a5, a6⟩ := ha
      obtain ⟨b1, b2, b3, b4, b5, b6⟩ := hb
      have ap : ∀ p q r s : Int, 0 ≤ p → p < q → q ≤ 1048576 → 0 ≤ r → r < s → s ≤ 1048576 → q05_apart p q r s = some (max 0 (max p r - min q s + 1)) := by
        intro p q r s h1 h2 h3 h4 h5 h6
        unfold q05_apart
        by_cases c1 : r ≥ q
        · simp only [c1, decide_true, cond_true]
          rw [wrap_id (x := r - q) (by omega) (by omega), wrap_id (by omega) (by omega)]
          congr 1; omega
        · simp only [c1, decide_false, cond_false]
          by_cases c2 : p ≥ s
          · simp only [c2, decide_true, cond_true]
            rw [wrap_id (x := p - s) (by omega) (by omega), wrap_id (by omega) (by omega)]
            congr 1; omega
          · simp only [c2, decide_false, cond_false]
            congr 1; omega
      rw [ap _ _ _ _ a1 a2 a3 b1 b2 b3, ap _ _ _ _ a4 a5 a6 b4 b5 b6]
      simp only [Bool.not_true, cond_false, Option.bind_some, Bool.or_self]
      rw [wrap_id (x := max a.x0 b.x0 - min a.x1 b.x1) (by omega) (by omega), wrap_id (x := max a.y0 b.y0 - min a.y1 b.y1) (by omega) (by omega), wrap_id (by omega) (by omega)]
      congr 1; omega

theorem q08_Gap_s2_run {n : Nat} {a b : List GRect} {i : Nat} (hi : i < a.length) (hb : b.length < 1099511627776) (hn : b.length < n) (m : Int) : iter (q08_Gap_s2 a b (i : Int)) n (m, (0 : Int)) = some (b.foldl (fun m y => min m (gapR a[i] y)) m) := by
  have := iter_fold (l := b) (step := q08_Gap_s2 a b (i : Int)) (fun i (s : Int) => (s, ((i : Nat) : Int))) (fun y m => min m (gapR a[i] y)) (fun s => s) (fun j hj s => ?_) (fun s => by simp [q08_Gap_s2]) n hn m
  · exact this
  · have hj' : decide (((j : Nat) : Int) < (b.length : Int)) = true := by simpa using hj
    simp only [q08_Gap_s2, hj', cond_true, at_get hi, at_get hj, Option.bind_some, q05_Gap_eq]
    rw [wrap_succ (by omega)]

theorem q08_Gap_eq {n : Nat} {a b : List GRect} (ha : a.length ≤ 6) (hb : b.length ≤ 6) (hn : 200 ≤ n) : q08_Gap n a b = some (gapL a b) := by
  unfold q08_Gap gapL
  have z : ∀ l : List GRect, (((l.length : Int)) == 0) = decide (l = []) := fun l => by cases l <;> simp <;> omega
  rw [z a, z b, q06_Right_eq (by omega) (by omega), q06_Right_eq (by omega) (by omega)]
  have loop : (iter (q08_Gap_s1 n a b) n ((1048576 : Int), (0 : Int))) = some (a.foldl (fun m x => b.foldl (fun m y => min m (gapR x y)) m) 1048576) := by
    have := iter_fold (l := a) (step := q08_Gap_s1 n a b) (fun i (s : Int) => (s, ((i : Nat) : Int))) (fun x m => b.foldl (fun m y => min m (gapR x y)) m) (fun s => s) (fun i hi s => ?_) (fun s => by simp [q08_Gap_s1]) n (by omega) 1048576
    · exact this
    · have hi' : decide (((i : Nat) : Int) < (a.length : Int)) = true := by simpa using hi
      simp only [q08_Gap_s1, hi', cond_true]
      rw [q08_Gap_s2_run hi (by omega) (by omega), Option.bind_some, wrap_succ (by omega)]
  simp only [Option.bind_some, loop]
  cases decide (a = []) <;> cases decide (b = []) <;> cases rightL a <;> cases rightL b <;> rfl

/-! ### Lots -/
theorem q13_Copy_eq {t : GLot} (h : LotOk t) : q13_Copy t = some t := by
  unfold q13_Copy
  have a1 : appOk ([] : List GRect).length 0 t.area.length t.area.length 32 = true := appOk_true (a := 0) (by omega) (by simp only [maxLen]; omega)
  have a2 : appOk ([] : List Int).length 0 t.from_.length t.from_.length 8 = true := appOk_true (a := 0) (by omega) (by simp only [maxLen]; omega)
  simp only [a1, a2, cond_true, letv_eq, List.nil_append, sub_all, eqL_self]

theorem q13_Find_eq {n : Nat} {land : List GLot} {id : Int} (h : ∀ t ∈ land, LotOk t) (hl : land.length < 1099511627776) (hn : land.length < n) : q13_Find n land id = some (findLot land id) := by
  unfold q13_Find
  have := iter_find (l := land) (step := q13_Find_s1 land id) (fun i => (i : Int)) (fun t => t.id == id) () (fun i => (land.getD i noLot, true)) (fun i hi => ?_) ?_ n hn
  · rw [show ((0 : Nat) : Int) = 0 from rfl] at this
    rw [this]
    unfold findLot
    rcases findL_find (fun t : GLot => t.id == id) land with ⟨i, hi, h1, h2⟩ | ⟨h1, h2⟩
    · rw [h1, h2]; simp [hi]
    · rw [h1, h2]; rfl
  · have hi' : decide (((i : Nat) : Int) < (land.length : Int)) = true := by simpa using hi
    simp only [q13_Find_s1, hi', cond_true, at_get hi, Option.bind_some, q13_Copy_eq (h _ (List.getElem_mem hi))]
    cases land[i].id == id with
    | true => simp [hi]
    | false => simp only [cond_false]; rw [wrap_succ (by omega)]
  · simp [q13_Find_s1]

theorem q13_has_eq {n : Nat} {l : List Int} {a : Int} (hl : l.length < 1099511627776) (hn : l.length < n) : q13_has n l a = some (decide (a ∈ l)) := by
  unfold q13_has
  have := iter_find (l := l) (step := q13_has_s1 l a) (fun i => (i : Int)) (fun x => x == a) () (fun _ => true) (fun i hi => ?_) ?_ n hn
  · rw [show ((0 : Nat) : Int) = 0 from rfl] at this
    rw [this, ← any_mem, ← findL_isSome]
    cases findL (fun x => x == a) l <;> rfl
  · have hi' : decide (((i : Nat) : Int) < (l.length : Int)) = true := by simpa using hi
    simp only [q13_has_s1, hi', cond_true, at_get hi, Option.bind_some]
    cases l[i] == a with
    | true => rfl
    | false => simp only [cond_false]; rw [wrap_succ (by omega)]
  · simp [q13_has_s1]

theorem q13_with_eq {n : Nat} {l : List Int} {a : Int} (hs : l.Pairwise (· < ·)) (hl : l.length < 10995116277) (hn : l.length < n) : q13_with n l a = some (setL (l ++ [a])) := by
  unfold q13_with
  rw [q13_has_eq (by omega) hn]
  simp only [Option.bind_some]
  by_cases ha : a ∈ l
  · simp only [ha, decide_true, cond_true]
    congr 1
    exact setL_unique hs fun z => by simp only [List.mem_append, List.mem_singleton]; exact ⟨fun h => .inl h, fun h => by rcases h with h | rfl <;> assumption⟩
  · simp only [ha, decide_false, cond_false]
    obtain ⟨k, k1, k2, k3, k4⟩ : ∃ k, k ≤ l.length ∧ iter (q13_with_s1 l a) n (0 : Int) = some (k : Int) ∧ (∀ j (h : j < l.length), k ≤ j → a < l[j]) ∧ (∀ h : 0 < k, ∀ h' : k - 1 < l.length, l[k - 1] < a) := by
      have gen : ∀ (m i : Nat), i + m = l.length → (∀ h : 0 < i, ∀ h' : i - 1 < l.length, l[i - 1] < a) → ∀ q, m < q → ∃ k, k ≤ l.length ∧ iter (q13_with_s1 l a) q (i : Int) = some (k : Int) ∧ (∀ j (h : j < l.length), k ≤ j → a < l[j]) ∧ (∀ h : 0 < k, ∀ h' : k - 1 < l.length, l[k - 1] < a) := by
        intro m
        induction m with
        | zero =>
          intro i hi h q hq
          obtain ⟨q, rfl⟩ : ∃ j, q = j + 1 := ⟨q - 1, by omega⟩
          have : i = l.length := by omega
          subst this
          exact ⟨l.length, Nat.le_refl _, iter_inr (by simp [q13_with_s1]), fun j h1 h2 => by omega, h⟩
        | succ m ih =>
          intro i hi h q hq
          obtain ⟨q, rfl⟩ : ∃ j, q = j + 1 := ⟨q - 1, by omega⟩
          have hil : i < l.length := by omega
          have d : decide (((i : Nat) : Int) < (l.length : Int)) = true := by simpa using hil
          by_cases hla : l[i] < a
          · have stp : q13_with_s1 l a (i : Int) = some (.inl (((i + 1 : Nat)) : Int)) := by
              simp only [q13_with_s1, d, cond_true, at_get hil, Option.bind_some, hla, decide_true]
              rw [wrap_succ (by omega)]
            rw [iter_inl stp]
            exact ih (i + 1) (by omega) (fun _ _ => hla) q (by omega)
          · refine ⟨i, by omega, iter_inr ?_, fun j h1 h2 => ?_, h⟩
            · simp only [q13_with_s1, d, cond_true, at_get hil, Option.bind_some, hla, decide_false, cond_false]
            · have hne : l[i] ≠ a := fun e => ha (e ▸ List.getElem_mem hil)
              by_cases e : j = i
              · subst e; omega
              · have := strict_get hs (show i < j by omega) h1; omega
      exact gen l.length 0 (by omega) (fun h => by omega) n hn
    have lt : (l.take k).length = k := by rw [List.length_take]; omega
    have s1 : sub l 0 ((k : Int)).toNat = l.take k := by simp [sub]
    have s2 : sub l ((k : Int)).toNat (l.length - ((k : Int)).toNat) = l.drop k := by
      simp only [sub, Int.toNat_natCast]
      rw [List.take_of_length_le (by rw [List.length_drop]; omega)]
    have o1 : slOk 0 (k : Int) l.length = true := slOk_true (by omega) (by omega) (by omega)
    have o2 : slOk (k : Int) (l.length : Int) l.length = true := slOk_true (by omega) (by omega) (by omega)
    have a1 : appOk 0 0 (l.take k).length (l.take k).length 8 = true := appOk_true (a := 0) (by omega) (by simp only [maxLen]; omega)
    have a2 : appOk (l.take k).length (l.take k).length (sub ([a] : List Int) 0 1).length 1 8 = true := appOk_true (n := 1) (by omega) (by simp only [maxLen]; omega)
    have sb : (sub ([a] : List Int) 0 1) = [a] := rfl
    rw [sb] at a2
    have ld : (l.drop k).length = l.length - k := by rw [List.length_drop]
    have a3 : appOk (l.take k ++ [a]).length (l.take k ++ [a]).length (l.drop k).length (l.drop k).length 8 = true := appOk_true (by simp; omega) (by rw [List.length_append]; simp only [maxLen, List.length_singleton]; omega)
    simp only [k2, Option.bind_some, o1, cond_true, s1, a1, letv_eq, sb, a2, o2, s2, a3, sub_all, eqL_self]
    congr 1
    rw [List.append_assoc]
    exact setL_unique (ins_strict hs k1 k3 (fun h => k4 h (by omega))) fun z => by rw [List.singleton_append, ins_mem]; simp

theorem setL_snoc (l : List Int) (a : Int) : setL (setL l ++ [a]) = setL (l ++ [a]) := setL_congr fun z => by simp [setL_mem]

theorem q13_Near_eq {n : Nat} {land : List GLot} {id d : Int} (h : ∀ t ∈ land, LotOk t) (hl : land.length ≤ 8) (hn : 200 ≤ n) : q13_Near n land id d = some (nearL land id d) := by
  unfold q13_Near nearL
  rw [q13_Find_eq h (by omega) (by omega)]
  simp only [Option.bind_some]
  cases hf : (findLot land id).2 with
  | false => rfl
  | true =>
    have ht := findLot_ok h id
    simp only [Bool.not_true, cond_false, cond_true]
    have := iter_to (step := q13_Near_s1 n land id d (findLot land id)) (fun i => (setL (nearIds (land.take i) (findLot land id).1 id d), ((i : Nat) : Int))) land.length (setL (nearIds land (findLot land id).1 id d)) (fun i hi => ?_) ?_ n (by omega)
    · have z : setL (nearIds (land.take 0) (findLot land id).1 id d) = [] := by simp [nearIds, setL, isort, compactL]
      simp only [z] at this
      rw [show ((0 : Nat) : Int) = 0 from rfl] at this
      rw [this]; rfl
    · have hi' : decide (((i : Nat) : Int) < (land.length : Int)) = true := by simpa using hi
      have hu := h _ (List.getElem_mem hi)
      have gp : q08_Gap n (findLot land id).1.area land[i].area = some (gapL (findLot land id).1.area land[i].area) := q08_Gap_eq ht.1 hu.1 hn
      have e : ((bif (gapL (findLot land id).1.area land[i].area).2 then (bif (decide ((gapL (findLot land id).1.area land[i].area).1 ≤ d)) then some (land[i].id != id) else some false) else some false) : Option Bool) = some (isNear (findLot land id).1 id d land[i]) := by
        unfold isNear
        cases (gapL (findLot land id).1.area land[i].area).2 <;> cases decide ((gapL (findLot land id).1.area land[i].area).1 ≤ d) <;> rfl
      have ll : (setL (nearIds (land.take i) (findLot land id).1 id d)).length ≤ 8 := by
        refine Nat.le_trans (length_setL _) ?_
        unfold nearIds
        rw [List.length_map]
        refine Nat.le_trans (List.length_filter_le _ _) ?_
        rw [List.length_take]; omega
      have nx : nearIds (land.take (i + 1)) (findLot land id).1 id d = nearIds (land.take i) (findLot land id).1 id d ++ (bif isNear (findLot land id).1 id d land[i] then [land[i].id] else []) := by
        rw [List.take_succ_eq_append_getElem hi]
        unfold nearIds
        rw [List.filter_append, List.map_append]
        congr 1
        cases hb : isNear (findLot land id).1 id d land[i] <;> simp [hb]
      simp only [q13_Near_s1, hi', cond_true, at_get hi, Option.bind_some, gp, e]
      rw [nx]
      cases isNear (findLot land id).1 id d land[i] with
      | true =>
        simp only [cond_true]
        rw [q13_with_eq (setL_strict _) (by omega) (by omega), setL_snoc]
        simp only [Option.bind_some]
        rw [wrap_succ (by omega)]
      | false =>
        simp only [cond_false, Option.bind_some, List.append_nil]
        rw [wrap_succ (by omega)]
    · simp [q13_Near_s1]
end Go.Proofs

namespace Go.Proofs
open Go.Gb Go.RowKit

/-! ### Distances -/
theorem q35_row_eq {n : Nat} {p : GPlan} {name : ByteArray} (h : p.tables.length < n) (hl : p.tables.length < 1099511627776) (hr : ∀ t ∈ p.tables, t.rows.length < n ∧ t.rows.length < 1099511627776) : q35_row n p name = some (rowL p.tables name) := by
  unfold q35_row rowL
  have := iter_find (l := p.tables) (step := q35_row_s1 n p name) (fun i => (i : Int)) (fun t => ByteArray.toList t.name == ByteArray.toList noticeB) () (fun i => match p.tables[i]? with | some t => rowT t name | none => 0) (fun i hi => ?_) ?_ n h
  · rw [show ((0 : Nat) : Int) = 0 from rfl] at this
    rw [this]
    rcases findL_find (fun t : GTable => ByteArray.toList t.name == ByteArray.toList noticeB) p.tables with ⟨i, hi, h1, h2⟩ | ⟨h1, h2⟩
    · rw [h1, h2]; simp [hi]
    · rw [h1, h2]; rfl
  · have hi' : decide (((i : Nat) : Int) < (p.tables.length : Int)) = true := by simpa using hi
    obtain ⟨r1, r2⟩ := hr _ (List.getElem_mem hi)
    have hb : (ByteArray.toList p.tables[i].name == ByteArray.toList (⟨#[110, 111, 116, 105, 99, 101]⟩)) = (ByteArray.toList p.tables[i].name == ByteArray.toList noticeB) := rfl
    simp only [q35_row_s1, hi', cond_true, at_get hi, Option.bind_some, hb]
    cases ByteArray.toList p.tables[i].name == ByteArray.toList noticeB with
    | false => simp only [Bool.not_false, cond_true, cond_false]; rw [wrap_succ (by omega)]
    | true =>
      simp only [Bool.not_true, cond_false, cond_true]
      have inner := iter_find (l := p.tables[i].rows) (step := q35_row_s2 n p name (i : Int)) (fun i => (i : Int)) (fun e => ByteArray.toList e.name == ByteArray.toList name) () (fun j => (.inr (.inr (match p.tables[i].rows[j]? with | some e => e.n | none => 0)) : Int ⊕ (Unit ⊕ Int))) (fun j hj => ?_) ?_ n r1
      · rw [show ((0 : Nat) : Int) = 0 from rfl] at inner
        rw [inner]
        simp only [List.getElem?_eq_getElem hi, rowT]
        rcases findL_find (fun e : GEntry => ByteArray.toList e.name == ByteArray.toList name) p.tables[i].rows with ⟨j, hj, g1, g2⟩ | ⟨g1, g2⟩
        · rw [g1, g2]; simp [hj]
        · rw [g1, g2]; rfl
      · have hj' : decide (((j : Nat) : Int) < (p.tables[i].rows.length : Int)) = true := by simpa using hj
        simp only [q35_row_s2, at_get hi, Option.bind_some, hj', cond_true, at_get hj]
        cases ByteArray.toList p.tables[i].rows[j].name == ByteArray.toList name with
        | true => simp [hj]
        | false => simp only [cond_false]; rw [wrap_succ (by omega)]
      · simp [q35_row_s2, at_get hi]
  · simp [q35_row_s1]

theorem q35_Name_eq (u : Int) : q35_Name u = some ((nameOf u).getD ⟨#[]⟩) ∧ (!(ByteArray.toList ((nameOf u).getD ⟨#[]⟩) == ByteArray.toList ⟨#[]⟩)) = (nameOf u).isSome := by
  by_cases h : 0 ≤ u ∧ u < 6
  · obtain ⟨h0, h6⟩ := h
    have : u = 0 ∨ u = 1 ∨ u = 2 ∨ u = 3 ∨ u = 4 ∨ u = 5 := by omega
    rcases this with rfl | rfl | rfl | rfl | rfl | rfl <;> exact ⟨by kernel_rfl, by kernel_rfl⟩
  · have g : nameOf u = none := by
      unfold nameOf
      by_cases h0 : 0 ≤ u
      · obtain ⟨k, rfl⟩ : ∃ k : Nat, u = (k : Int) := ⟨u.toNat, by omega⟩
        rw [at_nat]
        exact List.getElem?_eq_none (by have : useNames.length = 6 := rfl; omega)
      · simp [at?, h0]
    have e : ∀ k : Int, 0 ≤ k → k < 6 → (u == k) = false := fun k h0 h1 => by rw [beq_eq_false_iff_ne]; omega
    rw [g]
    refine ⟨?_, by kernel_rfl⟩
    simp only [q35_Name, e 0 (by omega) (by omega), e 1 (by omega) (by omega), e 2 (by omega) (by omega), e 3 (by omega) (by omega), e 4 (by omega) (by omega), e 5 (by omega) (by omega), cond_false]
    rfl

theorem q35_Distance_s2_run {n : Nat} {p : GPlan} (hp : TabsOk p.tables) {d : GDrawing} {i : Nat} (hi : i < d.phases.length) (hv : d.phases[i].volumes.length ≤ 4) (hn : 200 ≤ n) (m : Int) : iter (q35_Distance_s2 n p d (i : Int)) n (m, (0 : Int)) = some (distP p.tables m d.phases[i]) := by
  have := iter_fold (l := d.phases[i].volumes) (step := q35_Distance_s2 n p d (i : Int)) (fun i (s : Int) => (s, ((i : Nat) : Int))) (fun v m => volD p.tables m v) (fun s => s) (fun j hj s => ?_) (fun s => by simp [q35_Distance_s2, at_get hi]) n (by omega) m
  · exact this
  · have hj' : decide (((j : Nat) : Int) < (d.phases[i].volumes.length : Int)) = true := by simpa using hj
    have rw1 : ∀ nm, q35_row n p nm = some (rowL p.tables nm) := fun nm => q35_row_eq (by omega) (by omega) (fun t ht => by have := hp.2 t ht; omega)
    obtain ⟨n1, n2⟩ := q35_Name_eq d.phases[i].volumes[j].use
    simp only [q35_Distance_s2, at_get hi, Option.bind_some, hj', cond_true, at_get hj, n1, n2, rw1, volD]
    cases nameOf d.phases[i].volumes[j].use with
    | none => simp only [Option.isSome_none, cond_false, Option.bind_some]; rw [wrap_succ (by omega)]
    | some nm => simp only [Option.isSome_some, cond_true, Option.bind_some, Option.getD_some]; rw [wrap_succ (by omega)]

theorem q35_Distance_eq {n : Nat} {p : GPlan} (hp : TabsOk p.tables) {d : GDrawing} (hd : DrawOk d) (hn : 200 ≤ n) : q35_Distance n p d = some (distL p.tables d) := by
  unfold q35_Distance
  have := iter_fold (l := d.phases) (step := q35_Distance_s1 n p d) (fun i (s : Int) => (s, ((i : Nat) : Int))) (fun ph m => distP p.tables m ph) (fun s => s) (fun i hi s => ?_) (fun s => by simp [q35_Distance_s1]) n (by omega) 0
  · rw [show ((0 : Nat) : Int) = 0 from rfl] at this
    rw [this]; rfl
  · have hi' : decide (((i : Nat) : Int) < (d.phases.length : Int)) = true := by simpa using hi
    simp only [q35_Distance_s1, hi', cond_true]
    rw [q35_Distance_s2_run hp hi (hd.2 _ (List.getElem_mem hi)) hn, Option.bind_some, wrap_succ (by omega)]

theorem q35_Days_eq {n : Nat} {p : GPlan} (hp : TabsOk p.tables) (hn : 200 ≤ n) : q35_Days n p = some (max 0 (rowL p.tables ⟨#[100, 97, 121, 115]⟩)) := by
  unfold q35_Days
  rw [q35_row_eq (by omega) (by omega) (fun t ht => by have := hp.2 t ht; omega)]
  rfl

theorem q35_Lots_eq {n : Nat} {t : GTown} (ht : TownOk t) {d : GDrawing} (hd : DrawOk d) (hn : 200 ≤ n) : q35_Lots n t d = some (lotsL t d) := by
  unfold q35_Lots
  have h1 : q35_Distance n (GPlan.mk t.plan_defs t.plan_tables t.plan_zones t.plan_rules t.plan_caps t.plan_views t.plan_sun t.plan_hours) d = some (distL t.plan_tables d) := q35_Distance_eq (p := planOf t) ht.2.2 hd hn
  rw [h1, Option.bind_some, q13_Near_eq ht.2.1 ht.1 hn]
  rfl

/-! ### Owners -/
/-- The least that is not there yet. -/
def selF (out : List Int) (x : Int) (s : Int × Bool) : Int × Bool := bif !decide (x ∈ out) && (!s.2 || decide (x < s.1)) then (x, true) else s

theorem selF_spec (out : List Int) : ∀ (l : List Int) (s : Int × Bool), (s.2 = true → s.1 ∉ out) →
    (let r := l.foldl (fun s x => selF out x s) s
     (r.2 = false → s.2 = false ∧ ∀ x ∈ l, x ∈ out) ∧ (r.2 = true → r.1 ∉ out ∧ (r.1 ∈ l ∨ (s.2 = true ∧ r.1 = s.1)) ∧ (s.2 = true → r.1 ≤ s.1) ∧ ∀ x ∈ l, x ∉ out → r.1 ≤ x))
  | [], s, h => ⟨fun e => ⟨e, by simp⟩, fun e => ⟨h e, .inr ⟨e, rfl⟩, fun _ => Int.le_refl _, by simp⟩⟩
  | y :: l, s, h => by
    simp only [List.foldl_cons]
    by_cases hy : y ∈ out
    · have e : selF out y s = s := by simp [selF, hy]
      rw [e]
      obtain ⟨h1, h2⟩ := selF_spec out l s h
      refine ⟨fun e => ?_, fun e => ?_⟩
      · obtain ⟨a, b⟩ := h1 e
        refine ⟨a, fun x hx => ?_⟩
        rcases List.mem_cons.1 hx with rfl | hx
        · exact hy
        · exact b x hx
      · obtain ⟨a, b, c, d⟩ := h2 e
        refine ⟨a, ?_, c, fun x hx hxo => ?_⟩
        · rcases b with b | b
          · exact .inl (List.mem_cons_of_mem _ b)
          · exact .inr b
        · rcases List.mem_cons.1 hx with rfl | hx
          · exact absurd hy hxo
          · exact d x hx hxo
    · by_cases hc : s.2 = false ∨ y < s.1
      · have e : selF out y s = (y, true) := by
          rcases hc with hc | hc <;> simp [selF, hy, hc]
        rw [e]
        obtain ⟨h1, h2⟩ := selF_spec out l (y, true) (fun _ => hy)
        refine ⟨fun e => absurd (h1 e).1 (by simp), fun e => ?_⟩
        obtain ⟨a, b, c, d⟩ := h2 e
        have c' := c rfl
        refine ⟨a, .inl ?_, fun hs => ?_, fun x hx hxo => ?_⟩
        · rcases b with b | ⟨_, b⟩
          · exact List.mem_cons_of_mem _ b
          · rw [b]; exact List.mem_cons_self
        · rcases hc with hc | hc
          · rw [hc] at hs; cases hs
          · simp only at c'; omega
        · rcases List.mem_cons.1 hx with rfl | hx
          · exact c'
          · exact d x hx hxo
      · have hs2 : s.2 = true := by
          cases h2 : s.2 with
          | true => rfl
          | false => exact absurd (.inl h2) hc
        have hle : s.1 ≤ y := by
          have : ¬ y < s.1 := fun h => hc (.inr h)
          omega
        have hnl : ¬ y < s.1 := by omega
        have e : selF out y s = s := by simp [selF, hy, hs2, hnl]
        rw [e]
        obtain ⟨h1, h2⟩ := selF_spec out l s h
        refine ⟨fun e => absurd (h1 e).1 (by simp [hs2]), fun e => ?_⟩
        obtain ⟨a, b, c, d⟩ := h2 e
        refine ⟨a, ?_, c, fun x hx hxo => ?_⟩
        · rcases b with b | b
          · exact .inl (List.mem_cons_of_mem _ b)
          · exact .inr b
        · rcases List.mem_cons.1 hx with rfl | hx
          · exact Int.le_trans (c hs2) hle
          · exact d x hx hxo

theorem strict_sub_len : ∀ {m l : List Int}, m.Pairwise (· < ·) → (∀ x ∈ m, x ∈ l) → m.length ≤ l.length
  | [], _, _, _ => by simp
  | x :: m, l, hm, hs => by
    rw [List.pairwise_cons] at hm
    have hx := hs x (by simp)
    have := strict_sub_len (m := m) (l := l.erase x) hm.2 (fun y hy => by
      have := hm.1 y hy
      exact (List.mem_erase_of_ne (by omega)).2 (hs y (List.mem_cons_of_mem _ hy)))
    rw [List.length_erase_of_mem hx] at this
    have : 0 < l.length := List.length_pos_of_mem hx
    simp only [List.length_cons]; omega

theorem q35_Owners_s3_run {n : Nat} {all out : List Int} (ha : all.length < n) (hl : all.length < 1099511627776) (ho : out.length < n) (hol : out.length < 1099511627776) :
    iter (q35_Owners_s3 n all out) n ((0 : Int), false, (0 : Int)) = some (all.foldl (fun s x => selF out x s) (0, false)) := by
  have := iter_fold (l := all) (step := q35_Owners_s3 n all out) (fun i (s : Int × Bool) => (s.1, s.2, ((i : Nat) : Int))) (fun x s => selF out x s) (fun s => s) (fun i hi s => ?_) (fun s => by simp [q35_Owners_s3]) n ha (0, false)
  · exact this
  · have hi' : decide (((i : Nat) : Int) < (((all.length : Nat) : Int))) = true := by simpa using hi
    have hh : q35_Has n out all[i] = some (decide (all[i] ∈ out)) := by rw [q35_Has_eq hol ho, any_mem]
    simp only [q35_Owners_s3, hi', cond_true, inb_get hi, at_getz hi, Option.bind_some, sub_all, eqL_self, hh, selF]
    rw [wrap_succ (by omega)]
    obtain ⟨p, q⟩ := s
    simp only
    cases decide (all[i] ∈ out) <;> cases q <;> cases decide (all[i] < p) <;> rfl

theorem q35_Owners_s2_run {n : Nat} {all : List Int} (ha : all.length + 1 < n) (hl : all.length < 1099511627) : ∀ (m : Nat) (out : List Int), all.length - out.length = m → out.Pairwise (· < ·) → (∀ x ∈ out, x ∈ all) → (∀ x ∈ all, x ∉ out → ∀ y ∈ out, y < x) → ∀ k, m < k →
    iter (q35_Owners_s2 n all) k out = some (setL all) := by
  intro m
  induction m with
  | zero =>
    intro out hm hs hsub hgt k hk
    obtain ⟨k, rfl⟩ : ∃ j, k = j + 1 := ⟨k - 1, by omega⟩
    have d : decide (((out.length : Nat) : Int) < ((all.length : Nat) : Int)) = false := by simp; omega
    have : out = setL all := setL_unique hs fun z => ⟨hsub z, fun hz => by
      rcases Decidable.em (z ∈ out) with h | h
      · exact h
      · exfalso
        have h2 : (out ++ [z]).Pairwise (· < ·) := by
          rw [List.pairwise_append]
          refine ⟨hs, by simp, fun a ha b hb => ?_⟩
          rw [List.mem_singleton] at hb; subst hb
          exact hgt b hz h a ha
        have := strict_sub_len h2 (l := all) (fun x hx => by
          rcases List.mem_append.1 hx with hx | hx
          · exact hsub x hx
          · rw [List.mem_singleton] at hx; subst hx; exact hz)
        simp only [List.length_append, List.length_singleton] at this
        omega⟩
    refine iter_inr ?_
    rw [← this]
    simp only [q35_Owners_s2, d, cond_false, eqL_self, cond_true]
  | succ m ih =>
    intro out hm hs hsub hgt k hk
    obtain ⟨k, rfl⟩ : ∃ j, k = j + 1 := ⟨k - 1, by omega⟩
    have d : decide (((out.length : Nat) : Int) < ((all.length : Nat) : Int)) = true := by simp; omega
    have r := q35_Owners_s3_run (n := n) (all := all) (out := out) (by omega) (by omega) (by omega) (by omega)
    obtain ⟨s1, s2⟩ := selF_spec out all (0, false) (fun h => by cases h)
    generalize all.foldl (fun s x => selF out x s) (0, false) = b at r s1 s2
    obtain ⟨b1, b2⟩ := b
    cases b2 with
    | false =>
      obtain ⟨_, h1⟩ := s1 rfl
      have : out = setL all := setL_unique hs fun z => ⟨hsub z, h1 z⟩
      refine iter_inr ?_
      simp only [q35_Owners_s2, d, cond_true, r, Option.bind_some, Bool.not_false, eqL_self, ← this]
    | true =>
      obtain ⟨h1, h2, _, h4⟩ := s2 rfl
      have h2' : b1 ∈ all := by
        rcases h2 with h2 | ⟨h2, _⟩
        · exact h2
        · cases h2
      have ap : appOk out.length out.length (sub ([b1] : List Int) 0 1).length 1 8 = true := appOk_true (n := 1) (by omega) (by simp only [maxLen]; omega)
      have sb : (sub ([b1] : List Int) 0 1) = [b1] := rfl
      rw [sb] at ap
      have stp : q35_Owners_s2 n all out = some (.inl (out ++ [b1])) := by
        simp only [q35_Owners_s2, d, cond_true, r, Option.bind_some, Bool.not_true, cond_false, sb, ap, letv_eq, eqL_self]
      rw [iter_inl stp]
      refine ih (out ++ [b1]) (by simp; omega) ?_ ?_ ?_ k (by omega)
      · rw [List.pairwise_append]
        refine ⟨hs, by simp, fun a ha b hb => ?_⟩
        rw [List.mem_singleton] at hb; subst hb
        exact hgt b h2' h1 a ha
      · intro x hx
        rcases List.mem_append.1 hx with hx | hx
        · exact hsub x hx
        · rw [List.mem_singleton] at hx; subst hx; exact h2'
      · intro x hx hxo y hy
        have hxo1 : x ∉ out := fun h => hxo (List.mem_append_left _ h)
        have hxb : x ≠ b1 := fun h => hxo (List.mem_append_right _ (by simp [h]))
        rcases List.mem_append.1 hy with hy | hy
        · exact hgt x hx hxo1 y hy
        · rw [List.mem_singleton] at hy; subst hy
          have := h4 x hx hxo1
          simp only at this; omega

theorem q35_Owners_eq {n : Nat} {t : GTown} (ht : TownOk t) {d : GDrawing} (hd : DrawOk d) (hn : 200 ≤ n) : q35_Owners n t d = some (ownersL t d) := by
  unfold q35_Owners
  rw [q35_Lots_eq ht hd hn]
  have hlen : (lotsL t d).length ≤ 8 := Nat.le_trans (length_nearL _ _ _) ht.1
  have key : iter (q35_Owners_s1 n t (lotsL t d)) n ((0 : Int), ([] : List Int)) = some (ownersOf t (lotsL t d)) := by
    have := iter_to (step := q35_Owners_s1 n t (lotsL t d)) (fun i => (((i : Nat) : Int), ownersOf t ((lotsL t d).take i))) (lotsL t d).length (ownersOf t (lotsL t d)) (fun i hi => ?_) ?_ n (by omega)
    · simpa [ownersOf] using this
    · have hi' : decide (((i : Nat) : Int) < (((lotsL t d).length : Nat) : Int)) = true := by simpa using hi
      have ap : appOk (ownersOf t ((lotsL t d).take i)).length (ownersOf t ((lotsL t d).take i)).length (sub ([(findLot t.land (lotsL t d)[i]).1.owner] : List Int) 0 1).length 1 8 = true := by
        refine appOk_true (n := 1) ?_ ?_
        · unfold ownersOf; rw [List.length_map, List.length_take]; omega
        · unfold ownersOf; rw [List.length_map, List.length_take]; simp only [maxLen]; omega
      simp only [q35_Owners_s1, hi', cond_true, at_get hi, Option.bind_some]
      rw [q13_Find_eq ht.2.1 (by have := ht.1; omega) (by have := ht.1; omega)]
      simp only [Option.bind_some, ap, cond_true, letv_eq, eqL_self]
      rw [wrap_succ (by omega), List.take_succ_eq_append_getElem hi]
      simp only [ownersOf, List.map_append]
      rfl
    · simp [q35_Owners_s1, ownersOf]
  have hol : (ownersOf t (lotsL t d)).length ≤ 8 := by unfold ownersOf; rw [List.length_map]; exact hlen
  simp only [Option.bind_some, List.length_nil, eqL_self, cond_true, key]
  rw [q35_Owners_s2_run (by omega) (by omega) _ [] rfl List.Pairwise.nil (by simp) (by simp) n (by simp; omega)]
  simp only [Option.bind_some, sub_all, eqL_self, cond_true]
  rfl

theorem q35_Added_eq {n : Nat} {t : GTown} (ht : TownOk t) {d x : GDrawing} (hd : DrawOk d) (hx : DrawOk x) (hn : 200 ≤ n) : q35_Added n t d x = some (addedL t d x) := by
  unfold q35_Added
  have l1 := length_ownersL ht d
  have l2 := length_ownersL ht x
  rw [q35_Owners_eq ht hd hn, q35_Owners_eq ht hx hn]
  simp only [Option.bind_some, List.length_nil, eqL_self, cond_true]
  have key := iter_foldI (l := ownersL t x) (step := q35_Added_s1 n (ownersL t d) (ownersL t x)) (fun i (s : List Int) => (((i : Nat) : Int), s)) (fun o s => bif !(decide (o ∈ ownersL t d)) then s ++ [o] else s) (fun s => s) (fun i s => s.length ≤ i)
    (fun i hi s hs => ?_) (fun s hs => by simp [q35_Added_s1]) n (by omega) [] (Nat.le_refl _)
  · rw [show ((0 : Nat) : Int) = 0 from rfl] at key
    rw [key]
    have gen : ∀ (ys : List Int) (s : List Int), ys.foldl (fun s o => bif !(decide (o ∈ ownersL t d)) then s ++ [o] else s) s = s ++ ys.filter fun o => !((ownersL t d).any fun y => o == y) := by
      intro ys
      induction ys with
      | nil => intro s; simp
      | cons y ys ih =>
        intro s
        have e : ((ownersL t d).any fun z => y == z) = decide (y ∈ ownersL t d) := by rw [Bool.eq_iff_iff]; simp
        simp only [List.foldl_cons, ih, List.filter_cons, e]
        by_cases hy : y ∈ ownersL t d <;> simp [hy]
    rw [gen]
    simp only [List.nil_append, Option.bind_some, sub_all, eqL_self, cond_true]
    rfl
  · have hi' : decide (((i : Nat) : Int) < (((ownersL t x).length : Nat) : Int)) = true := by simpa using hi
    have hh : q35_Has n (ownersL t d) (ownersL t x)[i] = some (decide ((ownersL t x)[i] ∈ ownersL t d)) := by rw [q35_Has_eq (by omega) (by omega), any_mem]
    have ap : appOk s.length s.length (sub ([(ownersL t x)[i]] : List Int) 0 1).length 1 8 = true := appOk_true (n := 1) (by omega) (by simp only [maxLen]; omega)
    have sb : (sub ([(ownersL t x)[i]] : List Int) 0 1) = [(ownersL t x)[i]] := rfl
    rw [sb] at ap
    simp only [q35_Added_s1, hi', cond_true, inb_get hi, at_getz hi, Option.bind_some, sub_all, eqL_self, hh]
    cases decide ((ownersL t x)[i] ∈ ownersL t d) with
    | false =>
      simp only [Bool.not_false, cond_true, sb, ap, letv_eq, eqL_self, Option.bind_some]
      refine ⟨?_, by simp; omega⟩
      rw [wrap_succ (by omega)]
    | true =>
      simp only [Bool.not_true, cond_false, eqL_self, cond_true, Option.bind_some]
      exact ⟨by rw [wrap_succ (by omega)], by omega⟩

theorem q35_May_eq {n : Nat} {t : GTown} (ht : TownOk t) {d : GDrawing} (hd : DrawOk d) {party : Int} (hn : 200 ≤ n) : q35_May n t d party = some (mayL t d party) := by
  unfold q35_May mayL
  have l1 := length_ownersL ht d
  rw [q13_Find_eq ht.2.1 (by have := ht.1; omega) (by have := ht.1; omega), q35_Owners_eq ht hd hn]
  have e : ((ownersL t d).any fun y => party == y) = ((ownersL t d).any fun y => y == party) := by
    rw [Bool.eq_iff_iff]; simp only [List.any_eq_true, beq_iff_eq]; exact ⟨fun ⟨y, a, b⟩ => ⟨y, a, b.symm⟩, fun ⟨y, a, b⟩ => ⟨y, a, b.symm⟩⟩
  simp only [Option.bind_some, sub_all, eqL_self, cond_true, q35_Has_eq (l := ownersL t d) (a := party) (n := n) (by omega) (by omega), bifand, e]
  congr 1
  cases (ownersL t d).any fun y => y == party <;> cases (findLot t.land d.lot).2 <;> cases ((findLot t.land d.lot).1.owner != party) <;> rfl

theorem NoticeTells_true {n : Nat} (hn : 200 ≤ n) (t : GTown) (d x : GDrawing) (party : Int) : l35_NoticeTells n t d x party = some true := by
  obtain ⟨b, hb, hfew⟩ := l35_few_eq t d hn
  obtain ⟨c, hc, hfewx⟩ := l35_few_eq t x hn
  unfold l35_NoticeTells
  rw [small_eq hn, hb, hc]
  simp only [Option.bind_some]
  cases b with
  | false => rfl
  | true =>
    cases c with
    | false => rfl
    | true =>
      obtain ⟨ht, _, hd⟩ := hfew rfl
      obtain ⟨_, _, hx⟩ := hfewx rfl
      have l1 := length_ownersL ht d
      have l2 := length_ownersL ht x
      have l0 : (lotsL t d).length ≤ 8 := Nat.le_trans (length_nearL _ _ _) ht.1
      have l3 : (addedL t d x).length ≤ 8 := Nat.le_trans (List.length_filter_le _ _) l2
      have e1 : nt_Distance n (GPlan.mk t.plan_defs t.plan_tables t.plan_zones t.plan_rules t.plan_caps t.plan_views t.plan_sun t.plan_hours) d = some (distL t.plan_tables d) := nt_Distance_eq (p := planOf t) ht.2.2 hd hn
      have e2 : q35_Distance n (GPlan.mk t.plan_defs t.plan_tables t.plan_zones t.plan_rules t.plan_caps t.plan_views t.plan_sun t.plan_hours) d = some (distL t.plan_tables d) := q35_Distance_eq (p := planOf t) ht.2.2 hd hn
      have e3 : nt_Days n (GPlan.mk t.plan_defs t.plan_tables t.plan_zones t.plan_rules t.plan_caps t.plan_views t.plan_sun t.plan_hours) = some (max 0 (rowL t.plan_tables ⟨#[100, 97, 121, 115]⟩)) := nt_Days_eq (p := planOf t) ht.2.2 hn
      have e4 : q35_Days n (GPlan.mk t.plan_defs t.plan_tables t.plan_zones t.plan_rules t.plan_caps t.plan_views t.plan_sun t.plan_hours) = some (max 0 (rowL t.plan_tables ⟨#[100, 97, 121, 115]⟩)) := q35_Days_eq (p := planOf t) ht.2.2 hn
      have i0 : ∀ l : List Int, l.length ≤ 8 → q35_Ints n l l = some true := fun l hl => by rw [q35_Ints_eq (by omega) (by omega)]; simp
      simp only [Bool.not_true, cond_false, Option.bind_some, e1, e2, e3, e4, beq_self_eq_true, cond_true, nt_Lots_eq ht hd hn, q35_Lots_eq ht hd hn, sub_all, eqL_self, i0 _ l0, nt_Owners_eq ht hd hn, q35_Owners_eq ht hd hn, i0 _ l1, nt_Added_eq ht hd hx hn, q35_Added_eq ht hd hx hn, i0 _ l3, nt_May_eq ht hd hn, q35_May_eq ht hd hn]
end Go.Proofs
