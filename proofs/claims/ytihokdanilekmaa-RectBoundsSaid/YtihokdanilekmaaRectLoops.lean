/-
  Loops over lists and over numbers, as folds.
-/
import Derived.Test.YtihokdanilekmaaRectRow
namespace Go.Proofs.Ytihokdanilekmaa
open Go.Gb

theorem at_nat {α : Type} (l : List α) (i : Nat) : at? l (i : Int) = l[i]? := by simp [at?]

theorem succ64 {i : Nat} (h : i < 4611686018427387904) : IntKind.i64.wrap ((i : Int) + 1) = ((i + 1 : Nat) : Int) := by
  rw [wrap64 (by omega) (by omega)]; omega

/-- A loop over a list. -/
theorem loop_list {α σ R : Type} {l : List α} {Φ : Nat → σ → Int → Option R} {f : σ → α → σ} {j : σ → Option R} (hl : l.length < 4611686018427387904)
    (step : ∀ k s (i : Nat) x, i < l.length → l[i]? = some x → Φ (k + 1) s i = Φ k (f s x) (IntKind.i64.wrap ((i : Int) + 1))) (stop : ∀ k s, Φ (k + 1) s l.length = j s) :
    ∀ (m i k : Nat) (s : σ), i + m = l.length → m < k → Φ k s i = j ((l.drop i).foldl f s)
  | 0, i, k + 1, s, h, _ => by
    have e : i = l.length := by omega
    subst e
    rw [stop, List.drop_length]; rfl
  | m + 1, i, k + 1, s, h, hk => by
    have hi : i < l.length := by omega
    rw [step k s i l[i] hi (List.getElem?_eq_getElem hi), succ64 (by omega), loop_list hl step stop m (i + 1) k _ (by omega) (by omega), List.drop_eq_getElem_cons hi]
    rfl

/-- A loop over a list, with what holds of its state. -/
theorem loop_inv {α σ R : Type} {l : List α} {Φ : Nat → σ → Int → Option R} {f : σ → α → σ} {j : σ → Option R} {Inv : Nat → σ → Prop} (hl : l.length < 4611686018427387904)
    (step : ∀ k s (i : Nat) x, i < l.length → l[i]? = some x → Inv i s → Φ (k + 1) s i = Φ k (f s x) (IntKind.i64.wrap ((i : Int) + 1)) ∧ Inv (i + 1) (f s x)) (stop : ∀ k s, Φ (k + 1) s l.length = j s) :
    ∀ (m i k : Nat) (s : σ), i + m = l.length → m < k → Inv i s → Φ k s i = j ((l.drop i).foldl f s)
  | 0, i, k + 1, s, h, _, _ => by
    have e : i = l.length := by omega
    subst e
    rw [stop, List.drop_length]; rfl
  | m + 1, i, k + 1, s, h, hk, hv => by
    have hi : i < l.length := by omega
    obtain ⟨h1, h2⟩ := step k s i l[i] hi (List.getElem?_eq_getElem hi) hv
    rw [h1, succ64 (by omega), loop_inv hl step stop m (i + 1) k _ (by omega) (by omega) h2, List.drop_eq_getElem_cons hi]
    rfl

/-- A loop over the numbers below N, with what holds of its state. -/
theorem loop_upto {σ R : Type} {N : Nat} {Φ : Nat → σ → Int → Option R} {f : σ → Int → σ} {j : σ → Option R} {Inv : Nat → σ → Prop} (hl : N < 4611686018427387904)
    (step : ∀ k s (i : Nat), i < N → Inv i s → Φ (k + 1) s i = Φ k (f s i) (IntKind.i64.wrap ((i : Int) + 1)) ∧ Inv (i + 1) (f s i)) (stop : ∀ k s, Φ (k + 1) s N = j s) :
    ∀ (m i k : Nat) (s : σ), i + m = N → m < k → Inv i s → Φ k s i = j (((List.range' i m).map Int.ofNat).foldl f s) ∧ Inv N (((List.range' i m).map Int.ofNat).foldl f s)
  | 0, i, k + 1, s, h, _, hv => by
    have e : i = N := by omega
    subst e
    exact ⟨stop k s, hv⟩
  | m + 1, i, k + 1, s, h, hk, hv => by
    obtain ⟨h1, h2⟩ := step k s i (by omega) hv
    rw [h1, succ64 (by omega)]
    have := loop_upto hl step stop m (i + 1) k _ (by omega) (by omega) h2
    simpa [List.range'_succ] using this

theorem eqB (a b : S22) : ((a.x0 == b.x0) && ((a.y0 == b.y0) && ((a.x1 == b.x1) && ((a.y1 == b.y1) && true)))) = decide (a = b) := by
  obtain ⟨a1, a2, a3, a4⟩ := a
  obtain ⟨b1, b2, b3, b4⟩ := b
  rw [Bool.eq_iff_iff]
  simp
/-- The bounds of two rectangles. -/
def hull (a b : S22) : S22 := ⟨min a.x0 b.x0, min a.y0 b.y0, max a.x1 b.x1, max a.y1 b.y1⟩

def bstep (s : S22 × Bool) (r : S22) : S22 × Bool := if Ok r then (if s.2 then (hull s.1 r, true) else (r, true)) else s

def bounds (l : List S22) : S22 × Bool := l.foldl bstep (zz, false)

theorem r_Bounds_eq (l : List S22) {n : Nat} (h : l.length < n) (h2 : l.length < 4611686018427387904) : r_Bounds n l = some (bounds l) := by
  have := loop_list (l := l) (Φ := fun k (s : S22 × Bool) i => r_Bounds_l1 l (fun a b c d e => some (⟨a, b, c, d⟩, e)) k s.1.x0 s.1.y0 s.1.x1 s.1.y1 s.2 i) (f := bstep) (j := fun s => some s) h2
    (fun k s i x hi hx => by
      obtain ⟨o, any⟩ := s
      simp only [r_Bounds_l1, letv, at_nat, hx, Option.bind_some, r_Right_eq, bstep, Int.ofNat_lt, hi, decide_true, cond_true]
      by_cases ho : Ok x <;> cases any <;> simp [ho, hull]) (fun k s => by simp [r_Bounds_l1]) l.length 0 n (zz, false) (by omega) h
  simpa [r_Bounds, letv, zz, bounds] using this

theorem q_Bounds_eq (l : List S22) {n : Nat} (h : l.length < n) (h2 : l.length < 4611686018427387904) : q_Bounds n l = some (bounds l) := by
  have := loop_list (l := l) (Φ := fun k (s : S22 × Bool) i => q_Bounds_l1 l (fun a b c d e => some (⟨a, b, c, d⟩, e)) k s.1.x0 s.1.y0 s.1.x1 s.1.y1 s.2 i) (f := bstep) (j := fun s => some s) h2
    (fun k s i x hi hx => by
      obtain ⟨o, any⟩ := s
      simp only [q_Bounds_l1, letv, at_nat, hx, Option.bind_some, q_Right_eq, bstep, Int.ofNat_lt, hi, decide_true, cond_true]
      by_cases ho : Ok x <;> cases any <;> simp [ho, hull, Int.min_self, Int.max_self]) (fun k s => by simp [q_Bounds_l1]) l.length 0 n (zz, false) (by omega) h
  simpa [q_Bounds, letv, zz, bounds] using this

theorem not_zz : ¬ Ok zz := by simp [Ok, zz]
theorem area_zero {a : S22} (h : ¬ Ok a) : area a = 0 := by simp [area, h]
end Go.Proofs.Ytihokdanilekmaa
