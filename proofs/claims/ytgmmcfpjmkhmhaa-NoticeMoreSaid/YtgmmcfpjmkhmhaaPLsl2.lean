/-
  slices.Compact and the short way of slices.Sort, as the walk prints them.
-/
import Derived.Test.YtgmmcfpjmkhmhaaPLsl
namespace Go.Gb
open Go.RowKit

theorem first_or_none (p : Nat → Bool) (a b : Nat) : (∃ i, a ≤ i ∧ i < b ∧ p i = true ∧ ∀ j, a ≤ j → j < i → p j = false) ∨ ∀ j, a ≤ j → j < b → p j = false := by
  by_cases hab : a ≤ b
  · obtain ⟨k, rfl⟩ : ∃ k, b = a + k := ⟨b - a, by omega⟩
    clear hab
    induction k with
    | zero => exact .inr fun j h1 h2 => by omega
    | succ k ih =>
      rcases ih with ⟨i, h1, h2, h3, h4⟩ | h
      · exact .inl ⟨i, h1, by omega, h3, h4⟩
      · cases hp : p (a + k) with
        | true => exact .inl ⟨a + k, by omega, by omega, hp, fun j h1 h2 => h j h1 h2⟩
        | false =>
          refine .inr fun j h1 h2 => ?_
          by_cases e : j = a + k
          · subst e; exact hp
          · exact h j h1 (by omega)
  · exact .inr fun j h1 h2 => by omega

section
variable {α : Type}

def gsCom2 (ne : α → α → Bool) (a0 : List α) (v1 : Int) : (Int × Int × List α) → Option ((Int × Int × List α) ⊕ (Int × List α))
  | (v2, v3, v4) => (bif (decide (v3 < ((((a0.length - (v1 : Int).toNat) : Nat) : Int) : Int))) then (bif inb v3 (a0.length - (v1 : Int).toNat) then (at? v4 (((0 + (v1 : Int).toNat) : Nat) + v3 : Int)).bind fun x3 => bif inb (IntKind.i64.wrap (v3 - 1)) (a0.length - (v1 : Int).toNat) then (at? v4 (((0 + (v1 : Int).toNat) : Nat) + (IntKind.i64.wrap (v3 - 1)) : Int)).bind fun x4 => (bif ne x3 x4 then bif inb v3 (a0.length - (v1 : Int).toNat) then (at? v4 (((0 + (v1 : Int).toNat) : Nat) + v3 : Int)).bind fun x5 => bif inb v2 a0.length then (at? v4 ((0 : Nat) + v2 : Int)).bind fun _ => some ((IntKind.i64.wrap (v2 + 1)), (v4.set ((0 : Nat) + v2 : Int).toNat x5)) else none else none else some (v2, v4)) else none else none : Option (Int × (List α))).bind fun (v5, v6) => some (.inl (v5, (IntKind.i64.wrap (v3 + 1)), v6)) else some (.inr (v2, v4)))
def gsCom1 (eq ne : α → α → Bool) (n : Nat) (a0 : List α) : Int → Option (Int ⊕ (Unit ⊕ (Unit × List α)))
  | v1 => (bif (decide (v1 < (((a0.length : Nat) : Int) : Int))) then bif inb v1 a0.length then (at? a0 ((0 : Nat) + v1 : Int)).bind fun x1 => bif inb (IntKind.i64.wrap (v1 - 1)) a0.length then (at? a0 ((0 : Nat) + (IntKind.i64.wrap (v1 - 1)) : Int)).bind fun x2 => (bif eq x1 x2 then bif slOk v1 ((a0.length : Nat) : Int) a0.length then (iter (gsCom2 ne a0 v1) n (v1, (1 : Int), a0)).bind fun (w1, w2) => bif slOk w1 ((a0.length : Nat) : Int) a0.length then bif slOk 0 w1 a0.length then (bif eqL ((w1 : Int).toNat) ((w1 : Int).toNat) then bif eqL (sub (w2.take (0 + (w1 : Int).toNat)) 0 ((w1 : Int).toNat)).length ((w1 : Int).toNat) then some ((), (sub (w2.take (0 + (w1 : Int).toNat)) 0 ((w1 : Int).toNat))) else none else none).map fun a => .inr (.inr a) else none else none else none else some (.inl (IntKind.i64.wrap (v1 + 1)))) else none else none else some (.inr (.inl ())))
def gsCompact (eq ne : α → α → Bool) (n : Nat) (a0 : List α) : Option (Unit × List α) :=
  (bif (decide (((a0.length : Nat) : Int) < (2 : Int))) then bif eqL a0.length a0.length then bif eqL (sub a0 0 a0.length).length a0.length then some ((), (sub a0 0 a0.length)) else none else none else thenB (iter (gsCom1 eq ne n a0) n (1 : Int)) fun () => bif eqL a0.length a0.length then bif eqL (sub a0 0 a0.length).length a0.length then some ((), (sub a0 0 a0.length)) else none else none)

def cptF (ne : α → α → Bool) (s : α × List α) (x : α) : α × List α := (x, bif ne x s.1 then s.2 ++ [x] else s.2)
/-- Neighbours that are alike become one. -/
def cptG (ne : α → α → Bool) : List α → List α
  | [] => []
  | x :: xs => x :: (xs.foldl (cptF ne) (x, [])).2

theorem cptF_app (ne : α → α → Bool) (xs : List α) (x : α) (K : List α) : xs.foldl (cptF ne) (x, K) = ((xs.foldl (cptF ne) (x, [])).1, K ++ (xs.foldl (cptF ne) (x, [])).2) := by
  induction xs generalizing x K with
  | nil => simp
  | cons y xs ih =>
    simp only [List.foldl_cons, cptF]
    cases ne y x with
    | true => simp only [cond_true, List.nil_append]; rw [ih y (K ++ [y]), ih y [y]]; simp
    | false => simp only [cond_false]; rw [ih y K]

theorem cptF_diff (ne : α → α → Bool) : ∀ (xs : List α) (x : α), (∀ i (h : i + 1 < (x :: xs).length), ne ((x :: xs)[i + 1]) ((x :: xs)[i]) = true) → xs.foldl (cptF ne) (x, []) = ((x :: xs).getLast (by simp), xs)
  | [], x, _ => rfl
  | y :: xs, x, h => by
    have h0 := h 0 (by simp)
    simp only [List.getElem_cons_succ, List.getElem_cons_zero] at h0
    simp only [List.foldl_cons, cptF, h0, cond_true, List.nil_append]
    rw [cptF_app, cptF_diff ne xs y (fun i hi => h (i + 1) (by simp at hi ⊢; omega))]
    simp

theorem gsCompact_run {eq ne : α → α → Bool} (hen : ∀ x y, eq x y = !ne x y) {n : Nat} {l : List α} (hl : l.length < 1099511627776) (hn : l.length < n) : gsCompact eq ne n l = some ((), cptG ne l) := by
  unfold gsCompact
  by_cases h2 : l.length < 2
  · have d : decide (((l.length : Nat) : Int) < 2) = true := by simp; omega
    simp only [d, cond_true, eqL_self, sub_all]
    match l, h2 with
    | [], _ => rfl
    | [x], _ => rfl
    | x :: y :: l, h2 => exact absurd h2 (by simp)
  · have d : decide (((l.length : Nat) : Int) < 2) = false := by simp; omega
    simp only [d, cond_false, eqL_self, cond_true, sub_all]
    obtain ⟨x0, xs, rfl⟩ : ∃ x xs, l = x :: xs := by
      cases l with
      | nil => simp at h2
      | cons x xs => exact ⟨x, xs, rfl⟩
    generalize hL : (x0 :: xs) = l at *
    have step1 : ∀ (i : Nat) (hi : i < l.length) (h1 : 1 ≤ i), eq (l[i]) (l[i - 1]'(by omega)) = false → gsCom1 eq ne n l (i : Int) = some (.inl ((i + 1 : Nat) : Int)) := fun i hi h1 he => by
      have d1 : decide (((i : Nat) : Int) < ((l.length : Nat) : Int)) = true := by simpa using hi
      simp only [gsCom1, d1, cond_true, inb_get hi, at_getz hi, Option.bind_some]
      rw [wrap_pred (by omega) (by omega)]
      simp only [inb_get (show i - 1 < l.length by omega), cond_true, at_getz (show i - 1 < l.length by omega), Option.bind_some, he, cond_false]
      rw [wrap_succ (by omega)]
    rcases first_or_none (fun i => if h : i < l.length then eq (l[i]) (l[i - 1]'(by omega)) else false) 1 l.length with ⟨i, h1, hi, hp, hq⟩ | hnone
    · simp only [hi, dite_true] at hp
      have hq' : ∀ j (hj1 : 1 ≤ j) (hj : j < i), eq (l[j]'(by omega)) (l[j - 1]'(by omega)) = false := fun j hj1 hj => by
        have := hq j hj1 hj
        simpa only [show j < l.length by omega, dite_true] using this
      have hK : ∀ s : α × List α, ((l.drop (i + 1)).foldl (cptF ne) s).2.length ≤ s.2.length + (l.length - (i + 1)) := by
        have : ∀ (ys : List α) (s : α × List α), (ys.foldl (cptF ne) s).2.length ≤ s.2.length + ys.length := by
          intro ys
          induction ys with
          | nil => intro s; simp
          | cons y ys ih =>
            intro s
            simp only [List.foldl_cons, List.length_cons]
            refine Nat.le_trans (ih _) ?_
            simp only [cptF]
            cases ne y s.1 <;> simp <;> omega
        intro s
        have := this (l.drop (i + 1)) s
        rwa [List.length_drop] at this
      have hin : iter (gsCom2 ne l (i : Int)) n ((i : Int), (1 : Int), l) = some (((i + ((l.drop (i + 1)).foldl (cptF ne) (l[i], [])).2.length : Nat) : Int), l.take i ++ ((l.drop (i + 1)).foldl (cptF ne) (l[i], [])).2 ++ l.drop (i + ((l.drop (i + 1)).foldl (cptF ne) (l[i], [])).2.length)) := by
        have := iter_foldI (l := l.drop (i + 1)) (step := gsCom2 ne l (i : Int)) (fun j (s : α × List α) => (((i + s.2.length : Nat) : Int), ((j + 1 : Nat) : Int), l.take i ++ s.2 ++ l.drop (i + s.2.length))) (fun x s => cptF ne s x) (fun s => (((i + s.2.length : Nat) : Int), l.take i ++ s.2 ++ l.drop (i + s.2.length)))
          (fun j s => s.2.length ≤ j ∧ l[i + j]? = some s.1) (fun j hj s hs => ?_) (fun s hs => ?_) n (by rw [List.length_drop]; omega) (l[i], []) ⟨Nat.le_refl 0, by simp [hi]⟩
        · simpa using this
        · obtain ⟨s1, s2⟩ := hs
          rw [List.length_drop] at hj
          have hx : (l.drop (i + 1))[j]'(by rw [List.length_drop]; omega) = l[i + 1 + j]'(by omega) := by rw [List.getElem_drop]
          have gv : ∀ k, s.2.length ≤ k → (l.take i ++ s.2 ++ l.drop (i + s.2.length))[i + k]? = l[i + k]? := fun k hk => by
            rw [List.getElem?_append_right (by simp [List.length_take]; omega), List.getElem?_drop]
            congr 1
            simp only [List.length_append, List.length_take]
            omega
          have tn : ((i : Nat) : Int).toNat = i := by simp
          have d1 : decide (((j + 1 : Nat) : Int) < (((l.length - i : Nat)) : Int)) = true := by simp; omega
          have a1 : at? (l.take i ++ s.2 ++ l.drop (i + s.2.length)) (((0 + i : Nat) : Int) + ((j + 1 : Nat) : Int)) = some (l[i + 1 + j]'(by omega)) := by
            rw [show (((0 + i : Nat) : Int) + ((j + 1 : Nat) : Int)) = ((i + (j + 1) : Nat) : Int) by omega, at_nat, gv (j + 1) (by omega), show i + (j + 1) = i + 1 + j by omega]
            exact List.getElem?_eq_getElem (by omega)
          have a2 : at? (l.take i ++ s.2 ++ l.drop (i + s.2.length)) (((0 + i : Nat) : Int) + ((j : Nat) : Int)) = some s.1 := by
            rw [show (((0 + i : Nat) : Int) + ((j : Nat) : Int)) = ((i + j : Nat) : Int) by omega, at_nat, gv j s1, s2]
          have wp : IntKind.i64.wrap (((j + 1 : Nat) : Int) - 1) = ((j : Nat) : Int) := by rw [wrap_pred (by omega) (by omega)]; rfl
          refine ⟨?_, ?_, ?_⟩
          · simp only [gsCom2, tn, d1, cond_true, inb_get (show j + 1 < l.length - i by omega), a1, Option.bind_some, wp, inb_get (show j < l.length - i by omega), a2, hx, cptF]
            cases hne : ne (l[i + 1 + j]'(by omega)) s.1 with
            | false => simp only [cond_false, Option.bind_some]; rw [wrap_succ (by omega)]
            | true =>
              have g2 : at? (l.take i ++ s.2 ++ l.drop (i + s.2.length)) (((0 : Nat) : Int) + ((i + s.2.length : Nat) : Int)) = some (l[i + s.2.length]'(by omega)) := by
                rw [at_natz, gv s.2.length (Nat.le_refl _)]
                exact List.getElem?_eq_getElem (by omega)
              have z : (((0 : Nat) : Int) + ((i + s.2.length : Nat) : Int)).toNat = i + s.2.length := by omega
              have st : (l.take i ++ s.2 ++ l.drop (i + s.2.length)).set (i + s.2.length) (l[i + 1 + j]'(by omega)) = l.take i ++ (s.2 ++ [l[i + 1 + j]'(by omega)]) ++ l.drop (i + (s.2 ++ [l[i + 1 + j]'(by omega)]).length) := by
                rw [List.set_append_right _ _ (by simp [List.length_take]; omega)]
                have e0 : i + s.2.length - (l.take i ++ s.2).length = 0 := by simp [List.length_take]; omega
                rw [e0, List.drop_eq_getElem_cons (show i + s.2.length < l.length by omega)]
                simp only [List.set_cons_zero, List.length_append, List.length_singleton, List.append_assoc, List.singleton_append]
                rfl
              simp only [cond_true, inb_get (show i + s.2.length < l.length by omega), g2, Option.bind_some, z, st]
              rw [wrap_succ (by omega), wrap_succ (by omega), List.length_append, List.length_singleton]
              rfl
          · simp only [cptF]
            cases ne _ s.1 <;> simp <;> omega
          · simp only [cptF]
            rw [show i + (j + 1) = i + 1 + j by omega, hx]
            exact List.getElem?_eq_getElem (by omega)
        · obtain ⟨s1, s2⟩ := hs
          rw [List.length_drop] at s1 ⊢
          have tn : ((i : Nat) : Int).toNat = i := by simp
          have d1 : decide (((l.length - (i + 1) + 1 : Nat) : Int) < (((l.length - i : Nat)) : Int)) = false := by simp; omega
          simp only [gsCom2, tn, d1, cond_false]
      have hfin : gsCom1 eq ne n l (i : Int) = some (.inr (.inr ((), cptG ne l))) := by
        have d1 : decide (((i : Nat) : Int) < ((l.length : Nat) : Int)) = true := by simpa using hi
        simp only [gsCom1, d1, cond_true, inb_get hi, at_getz hi, Option.bind_some]
        rw [wrap_pred (by omega) (by omega)]
        simp only [inb_get (show i - 1 < l.length by omega), cond_true, at_getz (show i - 1 < l.length by omega), Option.bind_some, hp]
        have s0 : slOk ((i : Nat) : Int) ((l.length : Nat) : Int) l.length = true := slOk_true (by omega) (by omega) (by omega)
        have hk := hK (l[i], [])
        simp only [List.length_nil, Nat.zero_add] at hk
        have res : l.take i ++ ((l.drop (i + 1)).foldl (cptF ne) (l[i], [])).2 = cptG ne l := by
          -- the elements ahead of the first pair that is alike stay; that one goes
          have hd : ne (l[i]) (l[i - 1]'(by omega)) = false := by
            have := hen (l[i]) (l[i - 1]'(by omega)); rw [hp] at this
            simpa using this.symm
          subst hL
          obtain ⟨m, rfl⟩ : ∃ m, i = m + 1 := ⟨i - 1, by omega⟩
          have hm : m < xs.length := by simp at hi; omega
          have e1 : xs = xs.take m ++ xs[m] :: xs.drop (m + 1) := by rw [← List.drop_eq_getElem_cons hm, List.take_append_drop]
          have e2 : (xs.take m).foldl (cptF ne) (x0, []) = ((x0 :: xs.take m).getLast (by simp), xs.take m) := by
            refine cptF_diff ne _ x0 fun k hk => ?_
            simp only [List.length_cons, List.length_take] at hk
            have h9 := hq' (k + 1) (by omega) (by omega)
            rw [hen] at h9
            have : ne ((x0 :: xs)[k + 1]'(by simp; omega)) ((x0 :: xs)[k]'(by simp; omega)) = true := by
              simpa using h9
            have t : ∀ q (hq : q < (x0 :: xs.take m).length), (x0 :: xs.take m)[q] = (x0 :: xs)[q]'(by simp [List.length_take] at hq ⊢; omega) := fun q hq => by
              cases q with
              | zero => rfl
              | succ q => simp
            rw [t, t]; exact this
          have lastE : (x0 :: xs.take m).getLast (by simp) = (x0 :: xs)[m + 1 - 1]'(by simp; omega) := by
            rw [List.getLast_eq_getElem]
            simp only [List.length_cons, List.length_take, Nat.add_sub_cancel]
            have : min m xs.length = m := Nat.min_eq_left (by omega)
            cases m with
            | zero => simp
            | succ m => simp [this]
          simp only [List.getElem_cons_succ, List.drop_succ_cons, List.take_succ_cons, List.cons_append, cptG, List.cons.injEq, true_and]
          conv => rhs; rw [e1, List.foldl_append, e2]
          simp only [List.foldl_cons, cptF]
          rw [lastE]
          simp only [List.getElem_cons_succ] at hd
          rw [hd, cond_false, cptF_app ne (List.drop (m + 1) xs) xs[m] (List.take m xs)]
        have tl : (l.take i ++ ((l.drop (i + 1)).foldl (cptF ne) (l[i], [])).2).length = i + ((l.drop (i + 1)).foldl (cptF ne) (l[i], [])).2.length := by rw [List.length_append, List.length_take, Nat.min_eq_left (by omega)]
        simp only [s0, cond_true, hin, Option.bind_some]
        have s1 : slOk ((i + ((l.drop (i + 1)).foldl (cptF ne) (l[i], [])).2.length : Nat) : Int) ((l.length : Nat) : Int) l.length = true := slOk_true (by omega) (by omega) (by omega)
        have s2 : slOk 0 ((i + ((l.drop (i + 1)).foldl (cptF ne) (l[i], [])).2.length : Nat) : Int) l.length = true := slOk_true (by omega) (by omega) (by omega)
        have tk : (l.take i ++ ((l.drop (i + 1)).foldl (cptF ne) (l[i], [])).2 ++ l.drop (i + ((l.drop (i + 1)).foldl (cptF ne) (l[i], [])).2.length)).take (i + ((l.drop (i + 1)).foldl (cptF ne) (l[i], [])).2.length) = l.take i ++ ((l.drop (i + 1)).foldl (cptF ne) (l[i], [])).2 := by
          rw [List.take_append_of_le_length (by rw [tl]; exact Nat.le_refl _), ← tl, List.take_length]
        simp only [s1, s2, cond_true, Int.toNat_natCast, eqL_self, Nat.zero_add, tk]
        rw [← tl, sub_all, eqL_self, cond_true, res]
        rfl
      have := iter_to (step := gsCom1 eq ne n l) (fun k => ((k + 1 : Nat) : Int)) (i - 1) (.inr ((), cptG ne l)) (fun k hk => ?_) ?_ n (by omega)
      · rw [show ((0 + 1 : Nat) : Int) = 1 from rfl] at this
        rw [this]; rfl
      · exact step1 (k + 1) (by omega) (by omega) (hq' (k + 1) (by omega) (by omega))
      · rw [show i - 1 + 1 = i by omega]; exact hfin
    · have hnone' : ∀ j (hj1 : 1 ≤ j) (hj : j < l.length), eq (l[j]) (l[j - 1]'(by omega)) = false := fun j hj1 hj => by
        have := hnone j hj1 hj
        simpa only [hj, dite_true] using this
      have := iter_to (step := gsCom1 eq ne n l) (fun k => ((k + 1 : Nat) : Int)) (l.length - 1) (.inl ()) (fun k hk => ?_) ?_ n (by omega)
      · rw [show ((0 + 1 : Nat) : Int) = 1 from rfl] at this
        rw [this]
        simp only [thenB_inl]
        subst hL
        simp only [cptG]
        rw [cptF_diff ne xs x0 fun k hk => ?_]
        have h9 := hnone' (k + 1) (by omega) hk
        rw [hen] at h9
        simp only [Nat.add_sub_cancel] at h9
        simpa using h9
      · exact step1 (k + 1) (by omega) (by omega) (hnone' (k + 1) (by omega) (by omega))
      · rw [show l.length - 1 + 1 = l.length by omega]
        simp [gsCom1]
end

theorem cptG_int (l : List Int) : cptG (fun x y => x != y) l = compactL l := by
  match l with
  | [] => rfl
  | [x] => rfl
  | x :: y :: l =>
    have ih := cptG_int (y :: l)
    simp only [cptG, List.foldl_cons, cptF, compactL] at ih ⊢
    by_cases h : y = x
    · subst h
      simp only [bne_self_eq_false, cond_false, beq_self_eq_true, cond_true]
      exact ih
    · have h1 : (y != x) = true := by simp [h]
      have h2 : (x == y) = false := by simp [Ne.symm h]
      simp only [h1, cond_true, h2, cond_false, List.nil_append]
      rw [cptF_app, ← ih]
      simp
end Go.Gb
