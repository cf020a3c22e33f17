/-
  A law's arguments as data of the abstract walk; the law's contract as the row's statement wants it.
-/
import Derived.Test.YtgmmcfpjmkhmhaaGR
import Derived.ChangeSame
import Derived.Carry
import Derived.OpenShut
import Derived.WalkKit
import Derived.ProofKit
namespace Go.Gb
open Go.RowKit Go.WideShapes Go.ChangeShapes

/-- The shape of a cell. -/
inductive CS where
  | int (k : IntKind)
  | bool
  | str
  | sl (row : List CS)
  | any

mutual
def Fit : CS → Tree → Prop
  | .int k, x => ∃ n, x = .sc (.int k n) ∧ (Lit.int k n).wf = true
  | .bool, x => ∃ b, x = .sc (.bool b)
  | .str, x => ∃ s, x = .sc (.string s) ∧ s.size ≤ maxLen
  | .sl row, x => ∃ rows, x = .sl rows ∧ rows.length ≤ maxLen ∧ ∀ r ∈ rows, FitL row r
  | .any, _ => True
def FitL : List CS → List Tree → Prop
  | [], [] => True
  | c :: cs, x :: xs => Fit c x ∧ FitL cs xs
  | _, _ => False
end

def shpF (P : Program) (go : TypeId → Option (List CS)) : Nat → List Field → Option (List CS)
  | _, [] => some []
  | o, f :: fs => (go f.type).bind fun a => if f.offset = o ∧ a.length = P.cellsOf f.type then (shpF P go (o + a.length) fs).map (a ++ ·) else none

/-- The cells of a type; slices of 'cut' are not looked into. -/
def shp (P : Program) (cut : List TypeId) : Nat → TypeId → Option (List CS)
  | 0, _ => none
  | n + 1, t => match P.underlying t with
    | some (.int k) => some [.int k]
    | some .bool => some [.bool]
    | some .string => some [.str]
    | some (.slice e) => if cut.contains t then some [.any] else (shp P cut n e).bind fun r => if r.length = P.cellsOf e ∧ 0 < r.length then some [.sl r] else none
    | some (.struct fs) => (shpF P (shp P cut n) 0 fs.toList).bind fun r => if r.length = P.cellsOf t then some r else none
    | some (.array m e) => (shp P cut n e).bind fun r => if r.length = P.cellsOf e ∧ m * r.length = P.cellsOf t then some (List.replicate m r).flatten else none
    | _ => none

theorem FitL.length : ∀ (cs : List CS) (ts : List Tree), FitL cs ts → ts.length = cs.length
  | [], [], _ => rfl
  | c :: cs, x :: xs, h => by simp only [FitL] at h; simp [FitL.length cs xs h.2]
  | [], _ :: _, h => by simp [FitL] at h
  | _ :: _, [], h => by simp [FitL] at h

theorem FitL.append : ∀ (cs : List CS) (ts : List Tree) {cs' : List CS} {ts' : List Tree}, FitL cs ts → FitL cs' ts' → FitL (cs ++ cs') (ts ++ ts')
  | [], [], _, _, _, h => h
  | c :: cs, x :: xs, _, _, h, h' => by simp only [FitL, List.cons_append] at h ⊢; exact ⟨h.1, FitL.append cs xs h.2 h'⟩
  | [], _ :: _, _, _, h, _ => by simp [FitL] at h
  | _ :: _, [], _, _, h, _ => by simp [FitL] at h

/-- The memory that is there. -/
def Here (w : World) (b : Nat) : Prop := b < w.heap.size

section
variable {w : World} {I : Nat → Prop}
theorem TRl.append : ∀ (ts : List Tree) (cs : List Value) {ts' : List Tree} {cs' : List Value}, TRl w I ts cs → TRl w I ts' cs' → TRl w I (ts ++ ts') (cs ++ cs')
  | [], [], _, _, _, h => h
  | _ :: xs, _ :: vs, _, _, h, h' => ⟨h.1, TRl.append xs vs h.2 h'⟩
  | [], _ :: _, _, _, h, _ => h.elim
  | _ :: _, [], _, _, h, _ => h.elim

theorem TRl.length : ∀ (ts : List Tree) (cs : List Value), TRl w I ts cs → ts.length = cs.length
  | [], [], _ => rfl
  | _ :: xs, _ :: vs, h => by simp [TRl.length xs vs h.2]
  | [], _ :: _, h => h.elim
  | _ :: _, [], h => h.elim

theorem TRow_of : ∀ (ts : List Tree) (cs : List Value) (b off : Nat), TRl w I ts cs → (∀ i, i < cs.length → w.cell? ⟨b, off + i, none⟩ = cs[i]?) → TRow w I ts b off
  | [], [], _, _, _, _ => by simp [TRow]
  | x :: xs, v :: vs, b, off, h, hc => by
    simp only [TRow]
    refine ⟨⟨v, by simpa using hc 0 (by simp), h.1⟩, TRow_of xs vs b (off + 1) h.2 fun i hi => ?_⟩
    have := hc (i + 1) (by simpa using hi)
    rw [show off + (i + 1) = off + 1 + i by omega] at this
    simpa using this
  | [], _ :: _, _, _, h, _ => h.elim
  | _ :: _, [], _, _, h, _ => h.elim
end

section
variable {H : Type} {enc : TypeId × Value → H} {P : Program} {w : World} {sp : Nat → Bool} {held : Bool}

theorem spot_none {a : Addr} {v : Value} (h : w.cell? a = some v) : a.spot = none ∧ a.block < w.heap.size := by
  simp only [World.cell?] at h
  split at h
  · rename_i c e st hc
    split at h
    · cases h
    · rename_i hs
      exact ⟨by simpa using hs, (Array.getElem?_eq_some_iff.1 hc).1⟩
  · cases h

theorem read_fields (m : Nat) (cs : List Value) (go : TypeId → Option (List CS)) (hgo : ∀ t sh, go t = some sh → ∀ cs x, DataW.trod enc P w 0 sp held m t cs = some x → ∃ ts, TRl w (Here w) ts cs ∧ FitL sh ts) :
    ∀ (fs : List Field) (o : Nat) (sh : List CS), shpF P go o fs = some sh → (∀ f ∈ fs, ∃ x, DataW.trod enc P w 0 sp held m f.type ((cs.drop f.offset).take (P.cellsOf f.type)) = some x) →
      ∃ ts, TRl w (Here w) ts ((cs.drop o).take sh.length) ∧ FitL sh ts
  | [], o, sh, h, _ => by
    simp only [shpF, Option.some.injEq] at h
    subst h
    exact ⟨[], by simp [TRl], by simp [FitL]⟩
  | f :: fs, o, sh, h, hf => by
    simp only [shpF, Option.bind_eq_some_iff] at h
    obtain ⟨a, h1, h2⟩ := h
    split at h2
    · rename_i hc
      obtain ⟨hc1, hc2⟩ := hc
      simp only [Option.map_eq_some_iff] at h2
      obtain ⟨r, h3, rfl⟩ := h2
      obtain ⟨x, hx⟩ := hf f (by simp)
      obtain ⟨ts, g1, g2⟩ := hgo _ _ h1 _ _ hx
      obtain ⟨ts', g3, g4⟩ := read_fields m cs go hgo fs _ _ h3 fun f' hf' => hf f' (by simp [hf'])
      refine ⟨ts ++ ts', ?_, FitL.append _ _ g2 g4⟩
      rw [List.length_append, List.take_add, List.drop_drop]
      rw [hc1, ← hc2] at g1
      exact TRl.append _ _ g1 g3
    · cases h2

theorem read_cells {cut : List TypeId} : ∀ (n : Nat) (t : TypeId) (sh : List CS), shp P cut n t = some sh → ∀ (fuel : Nat) (cs : List Value) (x : DataW H × List MemPlace), DataW.trod enc P w 0 sp held fuel t cs = some x →
    ∃ ts, TRl w (Here w) ts cs ∧ FitL sh ts
  | 0, _, _, h, _, _, _, _ => by simp [shp] at h
  | n + 1, t, sh, h, fuel, cs, x, hx => by
    unfold shp at h
    split at h
    · rename_i k hk
      injection h with h; subst h
      obtain ⟨v, rfl, _, hw⟩ := DataW.trod_int hk hx
      exact ⟨[.sc (.int k v)], by simp [TRl, TR, oneCell], by simp only [FitL, Fit]; exact ⟨⟨v, rfl, hw⟩, trivial⟩⟩
    · rename_i hk
      injection h with h; subst h
      obtain ⟨v, rfl, _⟩ := DataW.trod_bool hk hx
      exact ⟨[.sc (.bool v)], by simp [TRl, TR, oneCell], by simp only [FitL, Fit]; exact ⟨⟨v, rfl⟩, trivial⟩⟩
    · rename_i hk
      injection h with h; subst h
      obtain ⟨v, rfl, _, hw⟩ := DataW.trod_string hk hx
      exact ⟨[.sc (.string v)], by simp [TRl, TR, oneCell], by simp only [FitL, Fit]; exact ⟨⟨v, rfl, hw⟩, trivial⟩⟩
    · rename_i e hk
      split at h
      · injection h with h; subst h
        rcases DataW.trod_slice hk hx with ⟨rfl, _⟩ | ⟨a, len, cap, elems, rest, m, _, rfl, _, _, hl, hm, hlen, hel, _, _⟩
        · exact ⟨[.sc (.slice none 0 0)], by simp [TRl, TR, oneCell], by simp [FitL, Fit]⟩
        · exact ⟨[.sc (.slice (some a) len cap)], by simp [TRl, TR, oneCell], by simp [FitL, Fit]⟩
      simp only [Option.bind_eq_some_iff] at h
      obtain ⟨r, h1, h2⟩ := h
      split at h2
      · rename_i hr
        injection h2 with h2; subst h2
        rcases DataW.trod_slice hk hx with ⟨rfl, _⟩ | ⟨a, len, cap, elems, rest, m, _, rfl, _, _, hl, hm, hlen, hel, _, _⟩
        · refine ⟨[.sl []], ?_, by simp only [FitL, Fit]; exact ⟨⟨[], rfl, by simp [maxLen], by simp⟩, trivial⟩⟩
          simp only [TRl, TR]
          exact ⟨.inl ⟨trivial, none, 0, rfl, fun _ => rfl⟩, trivial⟩
        · have each : ∀ i, i < len → ∃ csi y, w.cells? 0 (a.add (i * P.cellsOf e)) (P.cellsOf e) = some csi ∧ DataW.trod enc P w 0 sp held m e csi = some y := by
            intro i hi
            have h3 := hel i hi
            rw [List.getElem?_eq_getElem (by omega), Option.bind_eq_some_iff] at h3
            obtain ⟨csi, h4, h5⟩ := h3
            exact ⟨csi, _, h4, h5⟩
          by_cases h0 : len = 0
          · subst h0
            refine ⟨[.sl []], ?_, by simp only [FitL, Fit]; exact ⟨⟨[], rfl, by simp [maxLen], by simp⟩, trivial⟩⟩
            simp only [TRl, TR]
            exact ⟨.inl ⟨trivial, some a, cap, rfl, fun h => by cases h⟩, trivial⟩
          · obtain ⟨cs0, y0, c0, _⟩ := each 0 (by omega)
            obtain ⟨_, c1, c2⟩ := World.cells?_some c0
            have c3 := c2 0 (by omega)
            rw [List.getElem?_eq_getElem (by omega)] at c3
            have c4 := spot_none c3
            simp only [Nat.zero_mul, Addr.add, if_true] at c4
            obtain ⟨b, off, s⟩ := a
            simp only at c4
            obtain ⟨rfl, hb⟩ := c4
            have rows : ∀ m j, j + m = len → ∃ rows : List (List Tree), rows.length = m ∧ TRows w (Here w) rows b (off + j * P.cellsOf e) (P.cellsOf e) ∧ ∀ x ∈ rows, FitL r x := by
              intro m
              induction m with
              | zero => intro j _; exact ⟨[], rfl, by simp [TRows], by simp⟩
              | succ m ih =>
                intro j hj
                obtain ⟨rows, g1, g2, g3⟩ := ih (j + 1) (by omega)
                obtain ⟨csj, y, g4, g5⟩ := each j (by omega)
                obtain ⟨ts, g6, g7⟩ := read_cells n e r h1 _ _ _ g5
                obtain ⟨_, g8, g9⟩ := World.cells?_some g4
                refine ⟨ts :: rows, by simp [g1], ?_, fun x hx => ?_⟩
                · simp only [TRows]
                  refine ⟨(TRl.length _ _ g6).trans g8, TRow_of _ _ _ _ g6 fun i hi => ?_, ?_⟩
                  · rw [← g9 i (by omega), addr_add, addr_add]
                  · rw [show off + j * P.cellsOf e + P.cellsOf e = off + (j + 1) * P.cellsOf e by rw [Nat.add_mul]; omega]
                    exact g2
                · rcases List.mem_cons.1 hx with rfl | hx
                  · exact g7
                  · exact g3 x hx
            obtain ⟨rows, g1, g2, g3⟩ := rows len 0 (by omega)
            refine ⟨[.sl rows], ?_, by simp only [FitL, Fit]; exact ⟨⟨rows, rfl, by omega, g3⟩, trivial⟩⟩
            simp only [TRl, TR]
            exact ⟨.inr ⟨b, off, cap, P.cellsOf e, by rw [g1], by omega, hb, by simpa using g2⟩, trivial⟩
      · cases h2
    · rename_i fs hk
      simp only [Option.bind_eq_some_iff] at h
      obtain ⟨r, h1, h2⟩ := h
      split at h2
      · rename_i hr
        injection h2 with h2; subst h2
        obtain ⟨xs, m, _, _, hl, hxs, hf⟩ := DataW.trod_struct hk hx
        obtain ⟨ts, g1, g2⟩ := read_fields m cs (shp P cut n) (fun t sh hsh cs x hx => read_cells n t sh hsh m cs x hx) fs.toList 0 r h1 (fun f hf' => by
          obtain ⟨i, hi⟩ := List.getElem?_of_mem hf'
          have hi' : fs[i]? = some f := by simpa using hi
          have := hf i f hi'
          rw [List.getElem?_eq_getElem (by have := (Array.getElem?_eq_some_iff.1 hi').1; omega)] at this
          exact ⟨_, this⟩)
        refine ⟨ts, ?_, g2⟩
        rw [List.drop_zero, List.take_of_length_le (by omega)] at g1
        exact g1
      · cases h2
    · rename_i m e hk
      simp only [Option.bind_eq_some_iff] at h
      obtain ⟨r, h1, h2⟩ := h
      split at h2
      · rename_i hr
        injection h2 with h2; subst h2
        obtain ⟨xs, q, _, _, hl, hxs, hf⟩ := DataW.trod_array hk hx
        have part : ∀ i j, j + i = m → ∃ ts, TRl w (Here w) ts (cs.drop (j * P.cellsOf e)) ∧ FitL (List.replicate i r).flatten ts := by
          intro i
          induction i with
          | zero =>
            intro j hj
            refine ⟨[], ?_, by simp [FitL]⟩
            have : j = m := by omega
            subst this
            rw [List.drop_of_length_le (by rw [hl, ← hr.2, ← hr.1]; omega)]
            simp [TRl]
          | succ i ih =>
            intro j hj
            obtain ⟨ts, g1, g2⟩ := ih (j + 1) (by omega)
            have := hf j (by omega)
            rw [List.getElem?_eq_getElem (by omega)] at this
            obtain ⟨ts0, g3, g4⟩ := read_cells n e r h1 _ _ _ this
            refine ⟨ts0 ++ ts, ?_, ?_⟩
            · have := TRl.append _ _ g3 g1
              rw [show (j + 1) * P.cellsOf e = j * P.cellsOf e + P.cellsOf e by rw [Nat.add_mul]; omega, ← List.drop_drop, List.take_append_drop] at this
              exact this
            · rw [List.replicate_succ, List.flatten_cons]
              exact FitL.append _ _ g4 g2
        obtain ⟨ts, g1, g2⟩ := part m 0 (by omega)
        exact ⟨ts, by simpa using g1, g2⟩
      · cases h2
    · cases h

/-- The shape of a value. -/
inductive VS where
  | one (c : CS)
  | agg (cs : List CS)

def vshp (P : Program) (cut : List TypeId) (t : TypeId) : Option VS :=
  (shp P cut 12 t).bind fun sh => match P.underlying t with
    | some (.struct _) | some (.array _ _) => some (.agg sh)
    | _ => match sh with
      | [c] => some (.one c)
      | _ => none

def FitV : VS → TV → Prop
  | .one c, x => ∃ y, x = .s y ∧ Fit c y
  | .agg cs, x => ∃ ys, x = .a ys ∧ FitL cs ys

def FitVs : List VS → List TV → Prop
  | [], [] => True
  | s :: ss, x :: xs => FitV s x ∧ FitVs ss xs
  | _, _ => False

theorem read_arg {cut : List TypeId} {t : TypeId} {s : VS} {v : Value} {d : DataW H} {ps : List MemPlace} {b0 : Nat} (hs : vshp P cut t = some s) (hval : Value.okWide P w .any b0 t v) (hd : DataW.Trod enc P w 0 sp held t v d ps) :
    ∃ x, TVR w (Here w) x v ∧ FitV s x := by
  obtain ⟨fuel, hf⟩ := hd
  simp only [vshp, Option.bind_eq_some_iff] at hs
  obtain ⟨sh, h1, h2⟩ := hs
  obtain ⟨ts, g1, g2⟩ := read_cells 12 t sh h1 _ _ _ hf
  have hag : ∀ cs : Array Value, v = .agg cs → s = .agg sh → ∃ x, TVR w (Here w) x v ∧ FitV s x := by
    rintro cs rfl rfl
    exact ⟨.a ts, ⟨cs, rfl, by simpa [Value.cells] using g1⟩, ts, rfl, g2⟩
  unfold Value.okWide at hval
  split at h2
  · rename_i hu
    injection h2 with h2
    rw [hu] at hval
    obtain ⟨cs, rfl, _⟩ := hval
    exact hag cs rfl h2.symm
  · rename_i hu
    injection h2 with h2
    rw [hu] at hval
    obtain ⟨cs, rfl, _⟩ := hval
    exact hag cs rfl h2.symm
  · rename_i hu1 hu2
    split at h2
    · rename_i c
      injection h2 with h2; subst h2
      have hone : v.cells.toList = [v] := by
        cases hu : P.underlying t with
        | none => rw [hu] at hval; simp [Cell.okWide, Cell.ok, hu] at hval
        | some d =>
          rw [hu] at hval
          cases v <;> first | rfl | (exfalso; revert hval; cases d <;> simp_all [Cell.okWide, Cell.ok])
      rw [hone] at g1
      match ts, g1, g2 with
      | [y], g1, g2 =>
        simp only [FitL] at g2
        exact ⟨.s y, g1.1, y, rfl, g2.1⟩
      | [], g1, _ => exact g1.elim
      | _ :: _ :: _, g1, _ => exact g1.2.elim
    · cases h2

theorem read_args {cut : List TypeId} : ∀ {ts : List TypeId} {ss : List VS} {vs : List Value} {ds : List (DataW H)} {ps : List MemPlace} {b0 : Nat}, ts.mapM (vshp P cut) = some ss →
    (∀ (j : Nat) t v, ts[j]? = some t → vs[j]? = some v → Value.okWide P w .any b0 t v) → DataW.TrodAll enc P w 0 sp held ts vs ds ps → ∃ xs, TVRs w (Here w) xs vs ∧ FitVs ss xs
  | [], ss, vs, ds, ps, b0, hs, _, hd => by
    obtain ⟨rfl, rfl, rfl⟩ := trodAll_nil hd
    simp only [List.mapM_nil, Option.pure_def, Option.some.injEq] at hs
    subst hs
    exact ⟨[], trivial, trivial⟩
  | t :: ts, ss, vs, ds, ps, b0, hs, hval, hd => by
    obtain ⟨v, vs', d, ds', p, q, rfl, rfl, rfl, h0, r0⟩ := trodAll_cons hd
    simp only [List.mapM_cons, Option.bind_eq_bind, Option.bind_eq_some_iff, Option.pure_def, Option.some.injEq] at hs
    obtain ⟨s, h1, ss', h2, rfl⟩ := hs
    obtain ⟨x, g1, g2⟩ := read_arg h1 (hval 0 t v rfl rfl) h0
    obtain ⟨xs, g3, g4⟩ := read_args h2 (fun j t v h h' => hval (j + 1) t v h h') r0
    exact ⟨x :: xs, ⟨g1, g3⟩, g2, g4⟩

theorem VRl_of_TVRs {β : Nat → Option Blk} {I : Nat → Prop} : ∀ (xs : List TV) (vs : List Value), TVRs w I xs vs → VRl P β w I (xs.map TV.av) vs
  | [], [], _ => by simp [VRl]
  | x :: xs, v :: vs, h => by
    simp only [List.map_cons, VRl]
    refine ⟨?_, VRl_of_TVRs xs vs h.2⟩
    have h1 := h.1
    cases x with
    | s y => simp only [TV.av, VR]; exact h1
    | a cs =>
      obtain ⟨us, rfl, h2⟩ := h1
      simp only [TV.av, VR]
      refine ⟨us, rfl, ?_⟩
      have : ∀ (cs : List Tree) (us : List Value), TRl w I cs us → VRl P β w I (cs.map AV.t) us := by
        intro cs
        induction cs with
        | nil => intro us h; cases us <;> first | (simp [VRl]; done) | exact h.elim
        | cons c cs ih => intro us h; cases us with
          | nil => exact h.elim
          | cons u us => simp only [List.map_cons, VRl, VR]; exact ⟨h.1, ih us h.2⟩
      exact this cs us.toList h2
  | [], _ :: _, h => h.elim
  | _ :: _, [], h => h.elim
end
end Go.Gb
