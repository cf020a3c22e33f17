/-
  A law's row out of its typed contract: what is read has typed values.
-/
import Derived.Test.YtgmmcfpjmkhmhaaXO
namespace Go.Gb
open Go.RowKit

section
variable {X : SX}

def mapO {α β : Type} (f : α → Option β) : List α → Option (List β)
  | [] => some []
  | x :: xs => (f x).bind fun y => (mapO f xs).bind fun ys => some (y :: ys)

/-- The shape of a code's cells. -/
def csF : Nat → CT X.ι → Option (List CS)
  | 0, _ => none
  | _ + 1, .int k => some [.int k]
  | _ + 1, .bool => some [.bool]
  | _ + 1, .str => some [.str]
  | _ + 1, .any => some [.any]
  | n + 1, .sl e => (csF n e).bind fun r => some [.sl r]
  | n + 1, .st i => (mapO (csF n) (X.tys i)).bind fun l => some l.flatten

def vsF (n : Nat) (c : CT X.ι) : Option VS :=
  match c with
  | .st i => (csF n (.st i : CT X.ι)).map .agg
  | c => (csF n c).bind fun l => match l with
    | [x] => some (.one x)
    | _ => none

theorem FitL_append : ∀ (a b : List CS) (ys : List Tree), FitL (a ++ b) ys → ∃ ya yb, ys = ya ++ yb ∧ FitL a ya ∧ FitL b yb
  | [], b, ys, h => ⟨[], ys, rfl, trivial, h⟩
  | c :: a, b, y :: ys, h => by
    simp only [List.cons_append, FitL] at h
    obtain ⟨ya, yb, rfl, h1, h2⟩ := FitL_append a b ys h.2
    exact ⟨y :: ya, yb, rfl, ⟨h.1, h1⟩, h2⟩
  | _ :: _, _, [], h => h.elim

theorem rows_fit {c : CT X.ι} {cs : List CS} (h : ∀ ys, FitL cs ys → ∃ x : CT.T X.toSE c, ys = CT.row X.toSE c x) : ∀ rows : List (List Tree), (∀ r ∈ rows, FitL cs r) → ∃ l : List (CT.T X.toSE c), rows = l.map (CT.row X.toSE c)
  | [], _ => ⟨[], rfl⟩
  | r :: rows, hr => by
    obtain ⟨x, hx⟩ := h r (hr r (by simp))
    obtain ⟨l, hl⟩ := rows_fit h rows fun q hq => hr q (List.mem_cons_of_mem _ hq)
    exact ⟨x :: l, by rw [List.map_cons, ← hx, ← hl]⟩

theorem hl_fit {f : CT X.ι → Option (List CS)} (hf : ∀ c cs, f c = some cs → ∀ ys, FitL cs ys → ∃ x : CT.T X.toSE c, ys = CT.row X.toSE c x) : ∀ (l : List (CT X.ι)) (css : List (List CS)), mapO f l = some css → ∀ ys, FitL css.flatten ys → ∃ h : HL X.toSE l, ys = HL.row X.toSE l h
  | [], css, h, ys, hy => by
    simp only [mapO, Option.some.injEq] at h
    subst h
    cases ys with
    | nil => exact ⟨(), rfl⟩
    | cons y ys => exact hy.elim
  | c :: l, css, h, ys, hy => by
    simp only [mapO] at h
    rw [Option.bind_eq_some_iff] at h; obtain ⟨a, h1, h⟩ := h
    rw [Option.bind_eq_some_iff] at h; obtain ⟨b, h2, h⟩ := h
    injection h with h
    subst h
    simp only [List.flatten_cons] at hy
    obtain ⟨ya, yb, rfl, g1, g2⟩ := FitL_append _ _ _ hy
    obtain ⟨x, hx⟩ := hf c a h1 ya g1
    obtain ⟨q, hq⟩ := hl_fit hf l b h2 yb g2
    exact ⟨(x, q), by rw [hx, hq]; rfl⟩

theorem csF_fit : ∀ (n : Nat) (c : CT X.ι) (cs : List CS), csF n c = some cs → ∀ ys, FitL cs ys → ∃ x : CT.T X.toSE c, ys = CT.row X.toSE c x
  | 0, _, _, h, _, _ => by cases h
  | n + 1, .int k, cs, h, ys, hy => by
    simp only [csF, Option.some.injEq] at h; subst h
    match ys, hy with
    | [y], hy =>
      simp only [FitL, Fit, and_true] at hy
      obtain ⟨m, rfl, _⟩ := hy
      exact ⟨m, rfl⟩
    | [], hy => exact hy.elim
    | _ :: _ :: _, hy => exact hy.2.elim
  | n + 1, .bool, cs, h, ys, hy => by
    simp only [csF, Option.some.injEq] at h; subst h
    match ys, hy with
    | [y], hy =>
      simp only [FitL, Fit, and_true] at hy
      obtain ⟨m, rfl⟩ := hy
      exact ⟨m, rfl⟩
    | [], hy => exact hy.elim
    | _ :: _ :: _, hy => exact hy.2.elim
  | n + 1, .str, cs, h, ys, hy => by
    simp only [csF, Option.some.injEq] at h; subst h
    match ys, hy with
    | [y], hy =>
      simp only [FitL, Fit, and_true] at hy
      obtain ⟨m, rfl, _⟩ := hy
      exact ⟨m, rfl⟩
    | [], hy => exact hy.elim
    | _ :: _ :: _, hy => exact hy.2.elim
  | n + 1, .any, cs, h, ys, hy => by
    simp only [csF, Option.some.injEq] at h; subst h
    match ys, hy with
    | [y], hy => exact ⟨y, rfl⟩
    | [], hy => exact hy.elim
    | _ :: _ :: _, hy => exact hy.2.elim
  | n + 1, .sl e, cs, h, ys, hy => by
    simp only [csF] at h
    rw [Option.bind_eq_some_iff] at h; obtain ⟨r, h1, h⟩ := h
    injection h with h; subst h
    match ys, hy with
    | [y], hy =>
      simp only [FitL, Fit, and_true] at hy
      obtain ⟨rows, rfl, _, hr⟩ := hy
      obtain ⟨l, hl⟩ := rows_fit (csF_fit n e r h1) rows hr
      exact ⟨l, by rw [hl]; rfl⟩
    | [], hy => exact hy.elim
    | _ :: _ :: _, hy => exact hy.2.elim
  | n + 1, .st i, cs, h, ys, hy => by
    simp only [csF] at h
    rw [Option.bind_eq_some_iff] at h; obtain ⟨css, h1, h⟩ := h
    injection h with h; subst h
    obtain ⟨q, hq⟩ := hl_fit (csF_fit n) (X.tys i) css h1 ys hy
    exact ⟨X.make i q, by rw [hq]; exact (X.row_make i q).symm⟩

theorem vsF_fit {n : Nat} {c : CT X.ι} {s : VS} (h : vsF n c = some s) {x : TV} (hx : FitV s x) : ∃ y : CT.T X.toSE c, x = CT.tv X.toSE c y := by
  have one : ∀ c : CT X.ι, c.one = true → ((csF n c).bind fun l => match l with
      | [x] => some (VS.one x)
      | _ => none) = some s → ∃ y : CT.T X.toSE c, x = CT.tv X.toSE c y := by
    intro c hc h
    rw [Option.bind_eq_some_iff] at h; obtain ⟨l, h1, h⟩ := h
    split at h
    · rename_i z
      injection h with h; subst h
      simp only [FitV] at hx
      obtain ⟨t, rfl, ht⟩ := hx
      obtain ⟨y, hy⟩ := csF_fit n c _ h1 [t] ⟨ht, trivial⟩
      obtain ⟨t', e1, e2⟩ := row_one hc y
      rw [e1] at hy
      injection hy with hy
      subst hy
      exact ⟨y, e2.symm⟩
    · cases h
  cases c
  case st i =>
    simp only [vsF, Option.map_eq_some_iff] at h
    obtain ⟨cs, h1, rfl⟩ := h
    simp only [FitV] at hx
    obtain ⟨ys, rfl, hy⟩ := hx
    obtain ⟨y, hy⟩ := csF_fit n (.st i) _ h1 ys hy
    exact ⟨y, by rw [hy]; rfl⟩
  all_goals exact one _ rfl h

theorem args_fit (n : Nat) : ∀ (cs : List (CT X.ι)) (ss : List VS), mapO (vsF n) cs = some ss → ∀ xs, FitVs ss xs → ∃ h : HL X.toSE cs, xs = HL.tvs X.toSE cs h
  | [], ss, h, xs, hx => by
    simp only [mapO, Option.some.injEq] at h; subst h
    cases xs with
    | nil => exact ⟨(), rfl⟩
    | cons x xs => exact hx.elim
  | c :: cs, ss, h, xs, hx => by
    simp only [mapO] at h
    rw [Option.bind_eq_some_iff] at h; obtain ⟨a, h1, h⟩ := h
    rw [Option.bind_eq_some_iff] at h; obtain ⟨b, h2, h⟩ := h
    injection h with h; subst h
    cases xs with
    | nil => exact hx.elim
    | cons x xs =>
      obtain ⟨y, rfl⟩ := vsF_fit h1 hx.1
      obtain ⟨q, rfl⟩ := args_fit n cs b h2 xs hx.2
      exact ⟨(y, q), rfl⟩

/-- A law that is true of all data. -/
theorem law_fnP {P : Program} {f : FuncId} {n : Nat} {cs : List (CT X.ι)} {ss : List VS} {fn : ArgsT X (cs.map AT.d) → Option Bool} (hc : COk P f ⟨cs.map AT.d, [.d .bool], fn⟩) (hs : mapO (vsF n) cs = some ss) (hl : ∀ a, fn a = some true) (xs : List TV) (h : FitVs ss xs) :
    FnP P f (xs.map TV.av) (.one (.d (.s (.sc (.bool true))))) := by
  obtain ⟨q, rfl⟩ := args_fit n cs ss hs xs h
  have h1 := hc.2 (hlA cs q) true (hl _)
  have h2 := h1
  rw [objA_nil (mapD_nm cs)] at h2
  have h3 : FnW P f (argAV (cs.map AT.d) (hlA cs q)) [] [] (.one (.d (.s (.sc (.bool true))))) := h2
  have h4 := fnP_of_W h3
  rw [argAV, argAV_hlA] at h4
  exact h4
end
end Go.Gb
