/-
  Each operation of the abstract walk is what the model's operation does: literals, lengths, parts of slices, append.
-/
import Derived.Test.YtgmmcfpjmkhmhaaGG
namespace Go.Gb
open Go.RowKit

section
variable {P : Program} {T : Tab} {w0 : World} {O0 : Was} {β : Nat → Option Blk} {I : Nat → Prop} {obj : Nat → Option AObj} {w : World} {i : Nat}

theorem aLen_sound (hT : TabOk P T) {t ty : TypeId} {x : AV} {orc : Orc} {v : Value} {out : Out} (ha : aLen T t x orc = some out) (hob : out.ob) (hx : VR P β w I x v) :
    ∃ z, (Builtin.len_ #[t] ty #[v]).run P w = .ok z w ∧ VR P β w I out.v z ∧ out.upd = [] := by
  unfold aLen at ha
  cases hti : T t with
  | none => simp [hti] at ha
  | some ti =>
    have ht := hT t ti hti
    simp only [hti, Option.bind_some] at ha
    have hsl : ∀ e b n c, ti.k = .slice e → (Builtin.len_ #[t] ty #[.slice b n c]).run P w = .ok (goInt n) w := fun e b n c hk => by
      simp [Builtin.len_, run_underlying (kind_slice ht hk)]
    split at ha
    · rename_i e rows n hk
      simp only [pvo, Option.some.injEq] at ha
      subst ha
      have hob : n = _ := hob
      subst hob
      simp only [VR, TR] at hx
      rcases hx with ⟨rfl, _, _, rfl, _⟩ | ⟨b, off, cap, sz, rfl, _⟩
      · exact ⟨_, hsl _ _ _ _ hk, by simp only [VR, TR, goInt]; exact ⟨by simp, trivial⟩, rfl⟩
      · exact ⟨_, hsl _ _ _ _ hk, by simp only [VR, TR, goInt]; exact ⟨trivial, trivial⟩, rfl⟩
    · rename_i e k off len n hk
      simp only [pvo, Option.some.injEq] at ha
      subst ha
      have hob : n = _ := hob
      subst hob
      simp only [VR] at hx
      rcases hx with ⟨_, rfl, _, rfl⟩ | ⟨b, sz, m, cap, a, _, rfl, _⟩
      · exact ⟨_, hsl _ _ _ _ hk, by simp only [VR, TR, goInt]; exact ⟨trivial, trivial⟩, rfl⟩
      · exact ⟨_, hsl _ _ _ _ hk, by simp only [VR, TR, goInt]; exact ⟨trivial, trivial⟩, rfl⟩
    · rename_i e k off len hk _
      simp only [pv, Option.some.injEq] at ha
      subst ha
      simp only [VR] at hx
      rcases hx with ⟨_, rfl, _, rfl⟩ | ⟨b, sz, m, cap, a, _, rfl, _⟩
      · exact ⟨_, hsl _ _ _ _ hk, by simp only [VR, TR, goInt]; exact ⟨trivial, trivial⟩, rfl⟩
      · exact ⟨_, hsl _ _ _ _ hk, by simp only [VR, TR, goInt]; exact ⟨trivial, trivial⟩, rfl⟩
    · rename_i e hk
      simp only [pv, Option.some.injEq] at ha
      subst ha
      simp only [VR] at hx
      subst hx
      exact ⟨_, hsl _ _ _ _ hk, by simp only [VR, TR, goInt]; exact ⟨by simp, trivial⟩, rfl⟩
    · rename_i s hk
      simp only [pv, Option.some.injEq] at ha
      subst ha
      simp only [VR, TR] at hx
      obtain ⟨rfl, _⟩ := hx
      have hund : P.underlying t = some .string := by
        obtain ⟨info, d, z, h1, h2, h3, h4, h5, h6, h7, h8⟩ := ht.ex
        rw [hk] at h8; rw [h2, h8]
      exact ⟨_, by simp [Builtin.len_, run_underlying hund]; rfl, by simp only [VR, TR, goInt]; exact ⟨trivial, trivial⟩, rfl⟩
    · cases ha

/-- The model's own way of laying a part's cells, on lists. -/
theorem foldl_put (vs : List Value) (off : Nat) : ∀ (ps : List Value) (n : Nat) (cs : Array Value), off + n + ps.length ≤ cs.size →
    (ps.zipIdx n).foldl (fun cs (c, j) => cs.setIfInBounds (off + j) c) cs = ((cs.toList.take (off + n)) ++ ps ++ cs.toList.drop (off + n + ps.length)).toArray
  | [], n, cs, _ => by simp
  | p :: ps, n, cs, h => by
    simp only [List.length_cons] at h
    rw [List.zipIdx_cons, List.foldl_cons, foldl_put vs off ps (n + 1) _ (by simp; omega)]
    congr 1
    rw [Array.toList_setIfInBounds]
    have h1 : off + n < cs.toList.length := by simp; omega
    rw [show off + (n + 1) = off + n + 1 by omega, List.take_succ_eq_append_getElem (by simpa using h1)]
    rw [List.take_set, List.set_eq_of_length_le (by simp; omega)]
    simp only [List.getElem_set_self, List.append_assoc, List.length_cons, List.cons_append, List.nil_append]
    congr 3
    rw [List.drop_set_of_lt (by omega)]
    congr 1; omega

theorem put_rel {cells cs : List AV} {us vs : List Value} {off : Nat} (h1 : VRl P β w I cells us) (h2 : VRl P β w I cs vs) : VRl P β w I (put' cells off cs) (us.take off ++ vs ++ us.drop (off + vs.length)) := by
  unfold put'
  rw [VRl.length _ _ h2]
  exact VRl.append _ _ _ _ (VRl.append _ _ _ _ (VRl.take _ _ _ h1) h2) (VRl.drop _ _ _ h1)

theorem fillP_sound {place place' : Nat → Option (Nat × Nat)} (hpl : ∀ j p, place j = some p → place' j = some p) : ∀ (parts : List (Nat × AV)) (vs : List (Nat × Value)) (cells : List AV) (us : Array Value) (out : List AV),
    fillP place cells parts = some out → VRl P β w I cells us.toList → parts.map (·.1) = vs.map (·.1) → VRl P β w I (parts.map (·.2)) (vs.map (·.2)) →
    ∃ zs, Instr.fill place' us vs = some zs ∧ VRl P β w I out zs.toList
  | [], [], cells, us, out, h, hc, _, _ => by simp only [fillP, Option.some.injEq] at h; subst h; exact ⟨us, rfl, hc⟩
  | (j, x) :: rest, (j', v) :: vs, cells, us, out, h, hc, hk, hv => by
    simp only [List.map_cons, List.cons.injEq] at hk
    obtain ⟨rfl, hk⟩ := hk
    simp only [List.map_cons, VRl] at hv
    simp only [fillP] at h
    cases hp : place j with
    | none => simp [hp] at h
    | some p =>
      obtain ⟨off, size⟩ := p
      simp only [hp, Option.bind_some] at h
      cases hcs : cellsOf x with
      | none => simp [hcs] at h
      | some cs =>
        simp only [hcs, Option.bind_some] at h
        split at h
        · rename_i hl
          obtain ⟨g1, g2⟩ := cellsOf_sound hcs hv.1
          have hlen := VRl.length _ _ g1
          have hlc := VRl.length _ _ hc
          simp only [Array.length_toList] at hlen hlc
          have hnew := put_rel (off := off) hc g1
          have := fillP_sound hpl rest vs _ (us.toList.take off ++ v.cells.toList ++ us.toList.drop (off + v.cells.toList.length)).toArray out h (by simpa using hnew) hk hv.2
          obtain ⟨zs, hz, hz2⟩ := this
          refine ⟨zs, ?_, hz2⟩
          simp only [Instr.fill, hpl j _ hp]
          have hsz : v.cells.size = size := by omega
          have hno : ¬ (v.cells.size ≠ size ∨ off + v.cells.size > us.size) := by omega
          rw [if_neg (by simp only [Bool.or_eq_true, decide_eq_true_eq]; exact hno)]
          have hfold := foldl_put [] off v.cells.toList 0 us (by simp; omega)
          simp only [Nat.add_zero] at hfold
          rw [← hz, ← hfold]
          congr 1
          rw [← Array.foldl_toList, Array.toList_zipIdx]
        · cases h
  | [], _ :: _, _, _, _, _, _, hk, _ => by simp at hk
  | _ :: _, [], _, _, _, _, _, hk, _ => by simp at hk

theorem run_mapM_places (hT : TabOk P T) : ∀ (fs : List Field), (∀ f ∈ fs, (T f.type).isSome = true) →
    ∃ ps : List (Nat × Nat), (fs.mapM (fun f => do pure (f.offset, ← sizeOf f.type) : Field → Sem (Nat × Nat))).run P w = .ok ps w ∧ ps.map some = fs.map fun f => (T f.type).bind fun ui => some (f.offset, ui.size)
  | [], _ => ⟨[], by simp, rfl⟩
  | f :: fs, h => by
    obtain ⟨ui, hui⟩ := Option.isSome_iff_exists.1 (h f (by simp))
    obtain ⟨ps, h1, h2⟩ := run_mapM_places hT fs (fun g hg => h g (by simp [hg]))
    refine ⟨(f.offset, ui.size) :: ps, ?_, by simp [hui, h2]⟩
    simp only [List.mapM_cons, Sem.run_bind, (hT _ _ hui).size (w := w), Result.andThen_ok, Sem.run_pure, h1]

theorem aBuild_sound (hT : TabOk P T) {t : TypeId} {parts : List (Nat × AV)} {vs : Array (Nat × Value)} {out : Out} (ha : aBuild T t parts = some out)
    (hk : parts.map (·.1) = vs.toList.map (·.1)) (hv : VRl P β w I (parts.map (·.2)) (vs.toList.map (·.2))) : ∃ z, (Instr.build t vs).run P w = .ok z w ∧ VR P β w I out.v z ∧ out.upd = [] := by
  unfold aBuild at ha
  cases hti : T t with
  | none => simp [hti] at ha
  | some ti =>
    have ht := hT t ti hti
    simp only [hti, Option.bind_some] at ha
    obtain ⟨z, hz, hz2⟩ := ht.zeroV (w := w)
    split at ha
    · rename_i fs hkd
      split at ha
      · rename_i hall
        generalize hpl : (fun (j : Nat) => (fs[j]?).bind fun (p : Nat × TypeId) => (T p.2).bind fun ui => some (p.1, ui.size)) = place at ha
        cases hf : fillP place (ti.zero.map cv) parts with
        | none => simp [hf] at ha
        | some cells =>
          simp only [hf, Option.bind_some, pv, Option.some.injEq] at ha
          subst ha
          obtain ⟨info, d, z', h1, h2, h3, h4, h5, h6, h7, h8⟩ := ht.ex
          rw [hkd] at h8
          obtain ⟨fa, rfl, hfa⟩ := h8
          have hall' : ∀ f ∈ fa.toList, (T f.type).isSome = true := fun f hf => by
            have := List.all_eq_true.1 hall (f.offset, f.type) (by rw [← hfa]; exact List.mem_map.2 ⟨f, hf, rfl⟩)
            simpa using this
          obtain ⟨ps, hp1, hp2⟩ := run_mapM_places (w := w) hT fa.toList hall'
          have hpl' : ∀ j p, place j = some p → ps[j]? = some p := by
            intro j p hj
            rw [← hpl] at hj
            simp only at hj
            have e1 : (ps.map some)[j]? = some (some p) := by
              rw [hp2, List.getElem?_map]
              rw [← hfa] at hj
              simp only [List.getElem?_map] at hj
              cases hfj : fa.toList[j]? with
              | none => rw [hfj] at hj; simp at hj
              | some f => rw [hfj] at hj; simpa using hj
            simpa using e1
          obtain ⟨zs, hz3, hz4⟩ := fillP_sound (place' := fun j => ps.toArray[j]?) (fun j p h => by simpa using hpl' j p h) parts vs.toList _ z.cells cells hf (by rw [hz2]; exact VRl.cv _) hk hv
          refine ⟨.agg zs, ?_, by simp only [VR]; exact ⟨zs, rfl, hz4⟩, rfl⟩
          have hm : (fa.mapM (fun f => do pure (f.offset, ← sizeOf f.type) : Field → Sem (Nat × Nat))).run P w = .ok ps.toArray w := by
            rw [Array.mapM_eq_mapM_toList, Sem.run_map, hp1]; rfl
          simp only [Instr.build, Sem.run_bind, hz, Result.andThen_ok, run_underlying h2, hm, hz3, Sem.run_pure]
      · cases ha
    · rename_i n e hkd
      cases hei : T e with
      | none => simp [hei] at ha
      | some ei =>
        have he := hT e ei hei
        simp only [hei, Option.bind_some] at ha
        cases hf : fillP (fun j => some (j * ei.size, ei.size)) (ti.zero.map cv) parts with
        | none => simp [hf] at ha
        | some cells =>
          simp only [hf, Option.bind_some, pv, Option.some.injEq] at ha
          subst ha
          obtain ⟨zs, hz3, hz4⟩ := fillP_sound (place' := fun j => some (j * ei.size, ei.size)) (fun j p h => h) parts vs.toList _ z.cells cells hf (by rw [hz2]; exact VRl.cv _) hk hv
          refine ⟨.agg zs, ?_, by simp only [VR]; exact ⟨zs, rfl, hz4⟩, rfl⟩
          simp only [Instr.build, Sem.run_bind, hz, Result.andThen_ok, run_underlying (kind_arr ht hkd), he.size (w := w), hz3, Sem.run_pure]
    · cases ha
end
end Go.Gb
