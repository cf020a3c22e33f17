/-
  Names of objects told anew; states told with less.
-/
import Derived.Test.YtgmmcfpjmkhmhaaXG
namespace Go.Gb
open Go.RowKit

mutual
def rnA (f : Nat → Nat) : AV → AV
  | .own k off len => .own (f k) off len
  | .ptr k row off => .ptr (f k) row off
  | .agg cs => .agg (rnAL f cs)
  | .tup cs => .tup (rnAL f cs)
  | .fn F first caps => .fn F (rnAL f first) (rnAL f caps)
  | .t x => .t x
  | .rptr r o => .rptr r o
  | .clo φ => .clo φ
  | .nilsl => .nilsl
  | .ub => .ub
  | .undef => .undef
def rnAL (f : Nat → Nat) : List AV → List AV
  | [] => []
  | x :: xs => rnA f x :: rnAL f xs
end

/-- y says no more than x. -/
def Wkn (x y : AV) : Prop := ∀ P β w I v, VR P β w I x v → VR P β w I y v

theorem Wkn.refl (x : AV) : Wkn x x := fun _ _ _ _ _ h => h
theorem Wkn.undef (x : AV) : Wkn x .undef := fun _ _ _ _ _ _ => by simp [VR]
theorem Wkn.wk (x : AV) : Wkn x (wk x) := fun _ _ _ _ _ h => h.wk

section
variable {P : Program} {w0 : World} {O0 : Was} {N : Nat} {β : Nat → Option Blk} {I : Nat → Prop} {a : Act} {w : World} {f g : Nat → Nat} {D : Nat → Prop}

mutual
theorem VR.rn (hgf : ∀ k, D k → g (f k) = k) : ∀ (x : AV) (v : Value), (∀ k ∈ refs x, D k) → VR P β w I x v → VR P (fun j => β (g j)) w I (rnA f x) v
  | .own k off len, v, hd, h => by
    simp only [rnA, VR, hgf k (hd k (by simp [refs]))] at h ⊢; exact h
  | .ptr k row off, v, hd, h => by
    simp only [rnA, VR, hgf k (hd k (by simp [refs]))] at h ⊢; exact h
  | .agg cs, v, hd, h => by
    simp only [rnA, VR] at h ⊢
    obtain ⟨vs, h1, h2⟩ := h
    exact ⟨vs, h1, VRl.rn hgf cs _ (by simpa [refs] using hd) h2⟩
  | .tup cs, v, hd, h => by
    simp only [rnA, VR] at h ⊢
    obtain ⟨vs, h1, h2⟩ := h
    exact ⟨vs, h1, VRl.rn hgf cs _ (by simpa [refs] using hd) h2⟩
  | .fn F first caps, v, hd, h => by
    simp only [rnA, VR] at h ⊢
    obtain ⟨fs, cs, h1, h2, h3⟩ := h
    exact ⟨fs, cs, h1, VRl.rn hgf first _ (fun k hk => hd k (by simp [refs, hk])) h2, VRl.rn hgf caps _ (fun k hk => hd k (by simp [refs, hk])) h3⟩
  | .t x, v, _, h => by simpa [rnA, VR] using h
  | .rptr r o, v, _, h => by simpa [rnA, VR] using h
  | .clo φ, v, _, h => by simpa [rnA, VR] using h
  | .nilsl, v, _, h => by simpa [rnA, VR] using h
  | .ub, v, _, h => by simpa [rnA, VR] using h
  | .undef, v, _, h => by simp [rnA, VR]
theorem VRl.rn (hgf : ∀ k, D k → g (f k) = k) : ∀ (xs : List AV) (vs : List Value), (∀ k ∈ refsL xs, D k) → VRl P β w I xs vs → VRl P (fun j => β (g j)) w I (rnAL f xs) vs
  | [], [], _, _ => by simp [rnAL, VRl]
  | x :: xs, v :: vs, hd, h => by
    simp only [VRl] at h
    simp only [rnAL, VRl]
    exact ⟨VR.rn hgf x v (fun k hk => hd k (by simp [refsL, hk])) h.1, VRl.rn hgf xs vs (fun k hk => hd k (by simp [refsL, hk])) h.2⟩
  | [], _ :: _, _, h => by simp [VRl] at h
  | _ :: _, [], _, h => by simp [VRl] at h
end

/-- Rows told with less, under other names. -/
def RowW (D : Nat → Prop) (f : Nat → Nat) : List AV → List AV → Prop
  | [], [] => True
  | x :: xs, y :: ys => ((∀ k ∈ refs x, D k) ∧ Wkn (rnA f x) y) ∧ RowW D f xs ys
  | _, _ => False
def RowsW (D : Nat → Prop) (f : Nat → Nat) : List (List AV) → List (List AV) → Prop
  | [], [] => True
  | r :: rs, q :: qs => RowW D f r q ∧ RowsW D f rs qs
  | _, _ => False

theorem RowW.length : ∀ {r q : List AV}, RowW D f r q → q.length = r.length
  | [], [], _ => rfl
  | _ :: xs, _ :: ys, h => by simp [RowW.length h.2]
  | [], _ :: _, h => h.elim
  | _ :: _, [], h => h.elim

theorem ORow.re (hgf : ∀ k, D k → g (f k) = k) : ∀ {r q : List AV} {c : Array Value} {off : Nat}, RowW D f r q → ORow P β w I r c off → ORow P (fun j => β (g j)) w I q c off
  | [], [], _, _, _, _ => trivial
  | x :: xs, y :: ys, c, off, hr, ⟨⟨v, h1, h2, h3⟩, h4⟩ => ⟨⟨v, h1, hr.1.2 _ _ _ _ _ (VR.rn hgf x v hr.1.1 h2), h3⟩, ORow.re hgf hr.2 h4⟩
  | [], _ :: _, _, _, h, _ => h.elim
  | _ :: _, [], _, _, h, _ => h.elim

theorem ORows.re (hgf : ∀ k, D k → g (f k) = k) : ∀ {rs qs : List (List AV)} {c : Array Value} {off sz : Nat}, RowsW D f rs qs → ORows P β w I rs c off sz → ORows P (fun j => β (g j)) w I qs c off sz
  | [], [], _, _, _, _, _ => trivial
  | r :: rs, q :: qs, c, off, sz, hr, ⟨h1, h2, h3⟩ => ⟨by rw [hr.1.length]; exact h1, ORow.re hgf hr.1 h2, ORows.re hgf hr.2 h3⟩
  | [], _ :: _, _, _, _, h, _ => h.elim
  | _ :: _, [], _, _, _, h, _ => h.elim

theorem Rel.re {s s' : St} (hgf : ∀ k, D k → g (f k) = k) (hg : ∀ j, j < 1000 → g j = j) (hr : Rel P w0 O0 N β I s a w) (hok : ∀ t, s.ok t = none ∨ s'.env t = .undef) (hok' : ∀ t, s'.ok t = none)
    (hE : ∀ t, s'.env t = .undef ∨ ((∀ k ∈ refs (s.env t), D k) ∧ Wkn (rnA f (s.env t)) (s'.env t)))
    (hO : ∀ j o', s'.obj j = some o' → ∃ k o, s.obj k = some o ∧ D k ∧ f k = j ∧ o'.sz = o.sz ∧ RowsW D f o.rows o'.rows) : Rel P w0 O0 N (fun j => β (g j)) I s' a w := by
  refine ⟨hr.defers, hr.size, fun t => ?_, ?_⟩
  · have h1 := hr.env t
    rw [hok' t]
    rcases hok t with hk | h
    rotate_left
    · rw [h]; simp [SlotR, VR]
    rw [hk] at h1
    rcases hE t with h | ⟨h2, h3⟩
    · rw [h]; simp [SlotR, VR]
    · exact h3 _ _ _ _ _ (VR.rn hgf _ _ h2 h1)
  · have hm := hr.mem
    constructor
    · intro j o' hj
      obtain ⟨k, o, h1, h2, rfl, h4, h5⟩ := hO j o' hj
      obtain ⟨B, hB, hOR⟩ := hm.objs k o h1
      refine ⟨B, by simp only [hgf k h2]; exact hB, ?_⟩
      cases B with
      | none =>
        simp only [OR] at hOR ⊢
        rw [hOR] at h5
        cases ho : o'.rows with
        | nil => rfl
        | cons => rw [ho] at h5; exact h5.elim
      | «at» b sz n =>
        obtain ⟨g1, c, e, g2, g3, g4⟩ := hOR
        exact ⟨by rw [g1, h4], c, e, g2, g3, ORows.re hgf h5 g4⟩
    · intro j j' o o' b s0 n s1 n' h1 h2 h3 h4
      obtain ⟨k, q, i1, i2, rfl, _⟩ := hO j o h1
      obtain ⟨k', q', i1', i2', rfl, _⟩ := hO j' o' h2
      simp only [hgf k i2, hgf k' i2'] at h3 h4
      rw [hm.inj k k' q q' b s0 n s1 n' i1 i1' h3 h4]
    · intro j o b s0 n h1 h2
      obtain ⟨k, q, i1, i2, rfl, _⟩ := hO j o h1
      simp only [hgf k i2] at h2
      exact hm.own k q b s0 n i1 h2
    · exact hm.lt
    · exact hm.up
    · exact hm.keep
    · exact hm.le
    · exact hm.os
    · exact hm.tape
    · exact hm.output
    · intro j B hj; show β (g j) = some B; rw [hg j (O0.lt j B hj)]; exact hm.anch j B hj
end

section
variable {X : SX}
mutual
def rnD (f : Nat → Nat) : DV X → DV X
  | .own k off len => .own (f k) off len
  | .ptr k row off => .ptr (f k) row off
  | .ptl k n off => .ptl (f k) n off
  | .pta k row off m n => .pta (f k) row off m n
  | .agg cs => .agg (rnDL f cs)
  | .tup cs => .tup (rnDL f cs)
  | .fn F first caps => .fn F (rnDL f first) (rnDL f caps)
  | x => x
def rnDL (f : Nat → Nat) : List (DV X) → List (DV X)
  | [] => []
  | x :: xs => rnD f x :: rnDL f xs
end

theorem rnAL_t (f : Nat → Nat) : ∀ l : List Tree, rnAL f (l.map AV.t) = l.map AV.t
  | [] => rfl
  | x :: xs => by simp only [List.map_cons, rnAL, rnA, rnAL_t f xs]

mutual
theorem rnD_den (f : Nat → Nat) : ∀ x : DV X, den (rnD f x) = rnA f (den x)
  | .own _ _ _ => rfl
  | .ptr _ _ _ => rfl
  | .ptl _ _ _ => rfl
  | .pta _ _ _ _ _ => rfl
  | .agg cs => by simp only [rnD, den, rnA, rnDL_den f cs]
  | .tup cs => by simp only [rnD, den, rnA, rnDL_den f cs]
  | .fn F first caps => by simp only [rnD, den, rnA, rnDL_den f first, rnDL_den f caps]
  | .c t x => by
    simp only [rnD, den]
    cases t <;> try rfl
    simp only [CT.tv, TV.av, rnA, rnAL_t]
  | .rp _ _ _ => rfl
  | .clo _ _ _ => rfl
  | .raw v => by
    simp only [rnD, den, cv]
    split
    · rfl
    · split <;> rfl
  | .nil => rfl
  | .ub => rfl
  | .skip => rfl
  | .undef => rfl
theorem rnDL_den (f : Nat → Nat) : ∀ l : List (DV X), denL (rnDL f l) = rnAL f (denL l)
  | [] => rfl
  | x :: xs => by simp only [rnDL, denL, rnAL, rnD_den f x, rnDL_den f xs]
end

def rnO (f : Nat → Nat) : DObj X → DObj X
  | .cells sz rows => .cells sz (rows.map (rnDL f))
  | o => o

def orefs : DObj X → List Nat
  | .cells _ rows => (rows.map drefsL).flatten
  | .lst _ _ => []

theorem rowW_den {D : Nat → Prop} (f : Nat → Nat) : ∀ r : List (DV X), (∀ k ∈ drefsL r, D k) → RowW D f (denL r) (denL (rnDL f r))
  | [], _ => trivial
  | x :: xs, h => ⟨⟨fun k hk => h k (by rw [drefs_den] at hk; simp [drefsL, hk]), by rw [rnD_den]; exact Wkn.refl _⟩, rowW_den f xs fun k hk => h k (by simp [drefsL, hk])⟩

theorem rowsW_den {D : Nat → Prop} (f : Nat → Nat) (o : DObj X) (h : ∀ k ∈ orefs o, D k) : (denO (rnO f o)).sz = (denO o).sz ∧ RowsW D f (denO o).rows (denO (rnO f o)).rows := by
  cases o with
  | cells sz rows =>
    refine ⟨rfl, ?_⟩
    simp only [denO, rnO, List.map_map]
    simp only [orefs] at h
    induction rows with
    | nil => trivial
    | cons r rs ih =>
      refine ⟨rowW_den f r fun k hk => h k (by simp [hk]), ih fun k hk => h k ?_⟩
      simp only [List.map_cons, List.flatten_cons, List.mem_append]
      exact .inr hk
  | lst c l =>
    refine ⟨rfl, ?_⟩
    simp only [denO, rnO]
    generalize l.map (CT.row X.toSE c) = rows
    have hrow : ∀ r : List Tree, RowW D f (r.map AV.t) (r.map AV.t) := by
      intro r
      induction r with
      | nil => trivial
      | cons y ys ih => exact ⟨⟨by simp [refs], Wkn.refl _⟩, ih⟩
    induction rows with
    | nil => trivial
    | cons r rs ih => exact ⟨hrow r, ih⟩

/-- All names are below the next one. -/
structure Low (s : DSt X) : Prop where
  le : s.nx ≤ 1000000
  ge : 1000 ≤ s.nx
  env : ∀ t, ∀ k ∈ drefs (lke s.env t), k < s.nx
  obj : ∀ k o, lko s.obj k = some o → k < s.nx ∧ ∀ j ∈ orefs o, j < s.nx

theorem orefs_rows {o : DObj X} {r : List AV} {x : AV} (hr : r ∈ (denO o).rows) (hx : x ∈ r) : ∀ j ∈ refs x, j ∈ orefs o := by
  intro j hj
  cases o with
  | cells sz rows =>
    simp only [denO, List.mem_map] at hr
    obtain ⟨q, hq, rfl⟩ := hr
    rw [denL_map, List.mem_map] at hx
    obtain ⟨d, hd, rfl⟩ := hx
    simp only [orefs, List.mem_flatten, List.mem_map]
    refine ⟨_, ⟨q, hq, rfl⟩, ?_⟩
    have : ∀ l : List (DV X), d ∈ l → j ∈ drefsL l := by
      intro l
      induction l with
      | nil => intro h; simp at h
      | cons y ys ih => intro h; rcases List.mem_cons.1 h with rfl | h
                        · simp only [drefsL, List.mem_append]; left; rwa [drefs_den] at hj
                        · simp only [drefsL, List.mem_append]; exact .inr (ih h)
    exact this q hd
  | lst c l =>
    simp only [denO, avRows, List.mem_map] at hr
    obtain ⟨q, _, rfl⟩ := hr
    simp only [List.mem_map] at hx
    obtain ⟨t, _, rfl⟩ := hx
    simp [refs] at hj

theorem Low.old {s : DSt X} (h : Low s) : Old s.st := by
  have hle := h.le
  constructor
  · intro t k hk
    have := h.env t k (by rw [← drefs_den]; exact hk)
    omega
  · intro k o hk
    simp only [DSt.st, Option.map_eq_some_iff] at hk
    obtain ⟨o', h1, rfl⟩ := hk
    obtain ⟨h2, h3⟩ := h.obj k o' h1
    refine ⟨by omega, fun r hr x hx j hj => ?_⟩
    have := h3 j (orefs_rows hr hx j hj)
    omega
end
end Go.Gb
