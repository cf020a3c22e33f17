/-
  What the printed functions of package slices and cmp come to.
-/
import Derived.Test.YtgmmcfpjmkhmhaaTF3
import Derived.Test.YtgmmcfpjmkhmhaaPLsl2
namespace Go.Proofs
open Go.Gb Go.RowKit

abbrev ltI (a b : Int) : Bool := decide (a < b)

theorem cmp_Less_int_eq (a b : Int) : cmp_Less_int a b = some (ltI a b) := by
  simp [cmp_Less_int, cmp_isNaN_int]

theorem cmp_Compare_int_eq (a b : Int) : cmp_Compare_int a b = some (if a < b then -1 else if b < a then 1 else 0) := by
  by_cases h1 : a < b
  · simp [cmp_Compare_int, cmp_isNaN_int, h1]
  · by_cases h2 : b < a
    · simp [cmp_Compare_int, cmp_isNaN_int, h1, h2]
    · simp [cmp_Compare_int, cmp_isNaN_int, h1, h2]

theorem bits_Len_small {m : Nat} (h : m ≤ 12) : ∃ r, bits_Len (IntKind.u64.wrap ((m : Nat) : Int)) = some r := by
  have all : ∀ k : Fin 13, (bits_Len (IntKind.u64.wrap ((k.val : Nat) : Int))).isSome = true := by decide +kernel
  have := all ⟨m, by omega⟩
  exact Option.isSome_iff_exists.1 this

theorem sl_Sort_int_eq {n : Nat} {l : List Int} (hl : l.length ≤ 12) (hn : 13 ≤ n) : sl_Sort_int n l = some (isort ltI l) := by
  obtain ⟨r, hr⟩ := bits_Len_small hl
  obtain ⟨k, rfl⟩ : ∃ k, n = k + 1 := ⟨n - 1, by omega⟩
  have h1 : sl_insertionSortOrdered_int (k + 1) l 0 (l.length : Int) = some (isort ltI l) := gsIns_run (less := fun x y => (cmp_Less_int x y).bind fun r => some r) (fun x y => by rw [cmp_Less_int_eq]; rfl) (k + 1) l (by omega) (by omega)
  have w : IntKind.i64.wrap ((l.length : Int) - 0) = (l.length : Int) := by rw [Int.sub_zero]; exact wrap_nat (by omega)
  have d : decide ((l.length : Int) ≤ 12) = true := by simpa using (by omega : (l.length : Int) ≤ 12)
  have h2 : sl_pdqsortOrdered_int_s1 (k + 1) (sl_pdqsortOrdered_int_m (k + 1) k) l (0, (l.length : Int), r, true, true, l) = some (.inr (.inr (isort ltI l))) := by
    simp only [sl_pdqsortOrdered_int_s1, w, d, cond_true, eqL_self, h1, Option.bind_some, Option.map_some]
  have h3 : sl_pdqsortOrdered_int (k + 1) l 0 (l.length : Int) r = some (isort ltI l) := by
    show sl_pdqsortOrdered_int_b (k + 1) (sl_pdqsortOrdered_int_m (k + 1) k) l 0 (l.length : Int) r = _
    unfold sl_pdqsortOrdered_int_b
    rw [iter_inr h2]; rfl
  unfold sl_Sort_int
  simp only [hr, Option.bind_some, eqL_self, cond_true, h3]

theorem sl_Compact_int_eq {n : Nat} {l : List Int} (hl : l.length < 1099511627776) (hn : l.length < n) : sl_Compact_int n l = some ((), compactL l) := by
  rw [← cptG_int]
  exact gsCompact_run (eq := fun x y => x == y) (ne := fun x y => x != y) (fun x y => by simp [bne]) hl hn

theorem sl_Index_int_eq {n : Nat} {l : List Int} {a : Int} (hl : l.length < 1099511627776) (hn : l.length < n) : sl_Index_int n l a = some (idxL (fun x => a == x) l) := gsIndex_run hl hn

theorem sl_Contains_int_eq {n : Nat} {l : List Int} {a : Int} (hl : l.length < 1099511627776) (hn : l.length < n) : sl_Contains_int n l a = some (l.any fun x => a == x) := by
  unfold sl_Contains_int
  rw [sl_Index_int_eq hl hn, Option.bind_some, idxL_ge]

theorem sl_DeleteFunc_int_eq {n : Nat} {l : List Int} {φ : (Int × Unit) → Option Bool} (p : Int → Bool) (h : ∀ x ∈ l, φ (x, ()) = some (p x)) (hl : l.length < 1099511627776) (hn : l.length < n) : sl_DeleteFunc_int n l φ = some ((), l.filter fun x => !p x) := gsDeleteFunc_run p h hl hn

theorem sl_IndexFunc_Table_eq {n : Nat} {l : List GTable} {φ : (GTable × Unit) → Option Bool} (p : GTable → Bool) (h : ∀ x ∈ l, φ (x, ()) = some (p x)) (hl : l.length < 1099511627776) (hn : l.length < n) : sl_IndexFunc_Table n l φ = some (idxL p l) := gsIndexFunc_run p h hl hn

theorem sl_IndexFunc_Entry_eq {n : Nat} {l : List GEntry} {φ : (GEntry × Unit) → Option Bool} (p : GEntry → Bool) (h : ∀ x ∈ l, φ (x, ()) = some (p x)) (hl : l.length < 1099511627776) (hn : l.length < n) : sl_IndexFunc_Entry n l φ = some (idxL p l) := gsIndexFunc_run p h hl hn

theorem sl_Clone_Rect_eq {l : List GRect} (h : l.length < 1099511627776) : sl_Clone_Rect l = some l := gsClone_run (b := 32) (by omega) (by simp only [maxLen]; omega)
theorem sl_Clone_int_eq {l : List Int} (h : l.length < 1099511627776) : sl_Clone_int l = some l := gsClone_run (b := 8) (by omega) (by simp only [maxLen]; omega)

theorem sl_Concat_Rect_eq {n : Nat} {l : List (List GRect)} (hf : l.flatten.length < 1099511627776) (hl : l.length < 1099511627776) (hn : l.length < n) : sl_Concat_Rect n l = some l.flatten := gsConcat_run (GRect.mk 0 0 0 0) (b := 32) hf (by omega) hl hn

theorem sl_Equal_Rect_eq {n : Nat} {a b : List GRect} (hl : a.length < 1099511627776) (hn : a.length < n) : sl_Equal_Rect n a b = some (decide (a = b)) := by
  have e : sl_Equal_Rect n a b = gsEqual n (fun x1 x2 : GRect => !((x1.x0 == (x2.x0 : Int)) && ((x1.y0 == (x2.y0 : Int)) && ((x1.x1 == (x2.x1 : Int)) && ((x1.y1 == (x2.y1 : Int)) && true))))) a b := by kernel_rfl
  rw [e]
  refine gsEqual_run (fun x y => ?_) hl hn
  obtain ⟨a, b, c, d⟩ := x
  obtain ⟨e, f, g, h⟩ := y
  simp only [GRect.mk.injEq, Bool.and_true]
  rw [Bool.eq_iff_iff]
  simp

theorem sl_Equal_span_eq {n : Nat} {a b : List Gspan} (hl : a.length < 1099511627776) (hn : a.length < n) : sl_Equal_span n a b = some (decide (a = b)) := by
  have e : sl_Equal_span n a b = gsEqual n (fun x1 x2 : Gspan => !((x1.from_ == (x2.from_ : Int)) && ((x1.to == (x2.to : Int)) && true))) a b := by kernel_rfl
  rw [e]
  refine gsEqual_run (fun x y => ?_) hl hn
  obtain ⟨a, b⟩ := x
  obtain ⟨c, d⟩ := y
  simp only [Gspan.mk.injEq, Bool.and_true]
  rw [Bool.eq_iff_iff]
  simp

theorem q35_Ints_eq {n : Nat} {a b : List Int} (hl : a.length < 1099511627776) (hn : a.length < n) : q35_Ints n a b = some (decide (a = b)) := by
  have e : q35_Ints n a b = gsEqual n (fun x1 x2 : Int => x1 != x2) a b := by kernel_rfl
  rw [e]
  refine gsEqual_run (fun x y => ?_) hl hn
  rw [Bool.eq_iff_iff]
  simp [bne]

abbrev ltS (a b : Gspan) : Bool := decide (a.from_ < b.from_)

theorem rg_column_f1_eq (a b : Gspan) : (rg_column_f1 a b).bind (fun r => some (decide (r < 0))) = some (ltS a b) := by
  unfold rg_column_f1
  rw [cmp_Compare_int_eq]
  simp only [Option.bind_some, ltS]
  by_cases h1 : a.from_ < b.from_
  · simp [h1]
  · by_cases h2 : b.from_ < a.from_ <;> simp [h1, h2]

theorem sl_SortFunc_span_eq {n : Nat} {l : List Gspan} {φ : (Gspan × Gspan × Unit) → Option Int} (hφ : ∀ x y, (φ (x, y, ())).bind (fun r => some (decide (r < 0))) = some (ltS x y)) (hl : l.length ≤ 12) (hn : 13 ≤ n) : sl_SortFunc_span n l φ = some (isort ltS l) := by
  obtain ⟨r, hr⟩ := bits_Len_small hl
  obtain ⟨k, rfl⟩ : ∃ k, n = k + 1 := ⟨n - 1, by omega⟩
  have h1 : sl_insertionSortCmpFunc_span (k + 1) l 0 (l.length : Int) φ = some (isort ltS l) := gsIns_run (less := fun x y => (φ (x, y, ())).bind fun r => some (decide (r < 0))) hφ (k + 1) l (by omega) (by omega)
  have w : IntKind.i64.wrap ((l.length : Int) - 0) = (l.length : Int) := by rw [Int.sub_zero]; exact wrap_nat (by omega)
  have d : decide ((l.length : Int) ≤ 12) = true := by simpa using (by omega : (l.length : Int) ≤ 12)
  have h2 : sl_pdqsortCmpFunc_span_s1 (k + 1) (sl_pdqsortCmpFunc_span_m (k + 1) k) l φ (0, (l.length : Int), r, true, true, l) = some (.inr (.inr (isort ltS l))) := by
    simp only [sl_pdqsortCmpFunc_span_s1, w, d, cond_true, eqL_self, h1, Option.bind_some, Option.map_some]
  have h3 : sl_pdqsortCmpFunc_span (k + 1) l 0 (l.length : Int) r φ = some (isort ltS l) := by
    show sl_pdqsortCmpFunc_span_b (k + 1) (sl_pdqsortCmpFunc_span_m (k + 1) k) l 0 (l.length : Int) r φ = _
    unfold sl_pdqsortCmpFunc_span_b
    rw [iter_inr h2]; rfl
  unfold sl_SortFunc_span
  simp only [hr, Option.bind_some, eqL_self, cond_true, h3]
end Go.Proofs
