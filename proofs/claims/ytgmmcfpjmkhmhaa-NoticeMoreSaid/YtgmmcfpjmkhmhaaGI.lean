/-
  Each operation of the abstract walk is what the model's operation does: slice literals, parts of slices, append.
-/
import Derived.Test.YtgmmcfpjmkhmhaaGH
namespace Go.Gb
open Go.RowKit

section
variable {P : Program} {T : Tab} {w0 : World} {O0 : Was} {β : Nat → Option Blk} {I : Nat → Prop} {obj : Nat → Option AObj} {w : World} {i : Nat}

/-- An object goes by another name. -/
theorem Mem.rename {i k : Nat} {o : AObj} {B : Blk} (h : Mem P w0 O0 β I obj w) (hn : β i = none) (hk : obj k = some o) (hβ : β k = some B) :
    Step β I w i (ins β i B) I w ∧ Mem P w0 O0 (ins β i B) I (updo obj [(i, some o), (k, none)]) w := by
  have hS : Step β I w i (ins β i B) I w := ⟨fun j hj => by simp [ins, hj], ins_ext hn, fun _ _ => rfl, fun _ h => h⟩
  have hne : ∀ j o', obj j = some o' → j ≠ i := fun j o' hj e => by
    obtain ⟨B, hB, _⟩ := h.objs j o' hj
    rw [e, hn] at hB; cases hB
  have look : ∀ j o', updo obj [(i, some o), (k, none)] j = some o' → (j = i ∧ o' = o) ∨ (j ≠ i ∧ j ≠ k ∧ obj j = some o') := by
    intro j o' hj
    simp only [updo] at hj
    split at hj
    · injection hj with hj; exact .inl ⟨‹_›, hj.symm⟩
    · split at hj
      · cases hj
      · exact .inr ⟨‹_›, ‹_›, hj⟩
  refine ⟨hS, ?_⟩
  constructor
  · intro j o' hj
    rcases look j o' hj with ⟨rfl, rfl⟩ | ⟨h1, h2, h3⟩
    · obtain ⟨B', hB', hO⟩ := h.objs k o' hk
      rw [hβ] at hB'; injection hB' with hB'; subst hB'
      exact ⟨B, by simp [ins], OR.mono hS.ext hS.same hS.inc (fun _ _ _ _ => rfl) hO⟩
    · obtain ⟨B', hB', hO⟩ := h.objs j o' h3
      exact ⟨B', ins_ext hn _ _ hB', OR.mono hS.ext hS.same hS.inc (fun _ _ _ _ => rfl) hO⟩
  · intro j j' o1 o2 b s n s' n' h1 h2 h3 h4
    rcases look j o1 h1 with ⟨rfl, rfl⟩ | ⟨a1, a2, a3⟩ <;> rcases look j' o2 h2 with ⟨rfl, rfl⟩ | ⟨c1, c2, c3⟩
    · rfl
    · simp only [ins, if_true, Option.some.injEq] at h3
      simp only [ins, c1, if_false] at h4
      exact absurd (h.inj k j' _ _ b s n s' n' hk c3 (h3 ▸ hβ) h4) (fun e => c2 e.symm)
    · simp only [ins, if_true, Option.some.injEq] at h4
      simp only [ins, a1, if_false] at h3
      exact absurd (h.inj j k _ _ b s n s' n' a3 hk h3 (h4 ▸ hβ)) (fun e => a2 e)
    · simp only [ins, a1, c1, if_false] at h3 h4
      exact h.inj j j' o1 o2 b s n s' n' a3 c3 h3 h4
  · intro j o' b s n h1 h2
    rcases look j o' h1 with ⟨rfl, rfl⟩ | ⟨a1, a2, a3⟩
    · simp only [ins, if_true, Option.some.injEq] at h2
      exact h.own k o' b s n hk (h2 ▸ hβ)
    · simp only [ins, a1, if_false] at h2
      exact h.own j o' b s n a3 h2
  · exact h.lt
  · exact h.up
  · exact h.keep
  · exact h.le
  · exact h.os
  · exact h.tape
  · exact h.output
  · intro j C hj; exact ins_ext hn _ _ (h.anch j C hj)

theorem ORows_of_flat : ∀ (rows : List (List AV)) (c : Array Value) (off sz : Nat) (l : List Value), (∀ r ∈ rows, r.length = sz ∧ r.all cellOk = true) → VRl P β w I rows.flatten l → (∀ j u, l[j]? = some u → c[off + j]? = some u) → ORows P β w I rows c off sz
  | [], _, _, _, _, _, _, _ => by simp [ORows]
  | r :: rs, c, off, sz, l, hr, hl, hc => by
    obtain ⟨h1, h2⟩ := hr r (by simp)
    simp only [List.flatten_cons] at hl
    have ht := VRl.take sz _ _ hl
    have hd := VRl.drop sz _ _ hl
    rw [List.take_append_of_le_length (by omega), List.take_of_length_le (by omega)] at ht
    rw [List.drop_append_of_le_length (by omega), List.drop_of_length_le (by omega), List.nil_append] at hd
    simp only [ORows]
    refine ⟨h1, ORow.of_list r _ c off ht (fun u hu => ?_) (fun j u hj => ?_), ORows_of_flat rs c (off + sz) sz _ (fun r' hr' => hr r' (by simp [hr'])) hd (fun j u hj => ?_)⟩
    · obtain ⟨j, hj⟩ := List.getElem?_of_mem hu
      have hlen := VRl.length _ _ ht
      have hjl : j < r.length := by have := (List.getElem?_eq_some_iff.1 hj).1; omega
      obtain ⟨u', hu', hv⟩ := VRl.get _ _ j _ ht (List.getElem?_eq_getElem hjl)
      rw [hj] at hu'; injection hu' with hu'; subst hu'
      exact VR.one (List.all_eq_true.1 h2 _ (List.getElem_mem hjl)) hv
    · rw [List.getElem?_take] at hj
      split at hj
      · exact hc j u hj
      · cases hj
    · rw [List.getElem?_drop] at hj
      rw [show off + sz + j = off + (sz + j) by omega]
      exact hc _ u hj

theorem cellsOf_ok {x : AV} {cs : List AV} (h : cellsOf x = some cs) : cs.all cellOk = true := by
  cases x <;> simp only [cellsOf, Option.some.injEq, reduceCtorEq] at h
  case agg => split at h <;> first | (injection h with h; subst h; assumption) | cases h
  all_goals subst h; simp [cellOk]

theorem fillR_flat (size : Nat) : ∀ (parts : List (Nat × AV)) (rows out : List (List AV)), fillR size rows parts = some out → (∀ r ∈ rows, r.length = size ∧ r.all cellOk = true) →
    fillP (fun j => some (j * size, size)) rows.flatten parts = some out.flatten ∧ (∀ r ∈ out, r.length = size ∧ r.all cellOk = true) ∧ out.length = rows.length
  | [], rows, out, h, hr => by simp only [fillR, Option.some.injEq] at h; subst h; exact ⟨rfl, hr, rfl⟩
  | (j, x) :: rest, rows, out, h, hr => by
    simp only [fillR] at h
    cases hcs : cellsOf x with
    | none => simp [hcs] at h
    | some cs =>
      simp only [hcs, Option.bind_some] at h
      split at h
      · rename_i hl
        obtain ⟨h1, h2, h3⟩ := fillR_flat size rest (rows.set j cs) out h (fun r hr' => by
          rcases List.mem_or_eq_of_mem_set hr' with h4 | h4
          · exact hr r h4
          · rw [h4]; exact ⟨hl.1, cellsOf_ok hcs⟩)
        refine ⟨?_, h2, by simpa using h3⟩
        have hflat : ∀ (n : Nat) (rows : List (List AV)), (∀ r ∈ rows, r.length = size) → n < rows.length → (rows.set n cs).flatten = put' rows.flatten (n * size) cs ∧ n * size + cs.length ≤ rows.flatten.length := by
          intro n
          induction n with
          | zero =>
            intro rows hr hn
            cases rows with
            | nil => simp at hn
            | cons r rs =>
              have := hr r (by simp)
              simp only [List.set_cons_zero, List.flatten_cons, put', Nat.zero_mul, List.take_zero, List.nil_append, Nat.zero_add, List.length_append]
              refine ⟨?_, by omega⟩
              rw [hl.1, List.drop_append_of_le_length (by omega), List.drop_of_length_le (by omega), List.nil_append]
          | succ n ih =>
            intro rows hr hn
            cases rows with
            | nil => simp at hn
            | cons r rs =>
              have hrl := hr r (by simp)
              obtain ⟨g1, g2⟩ := ih rs (fun r' h' => hr r' (by simp [h'])) (by simpa using hn)
              have e1 : (n + 1) * size = r.length + n * size := by rw [Nat.add_mul]; omega
              simp only [List.set_cons_succ, List.flatten_cons, g1, put', e1, List.length_append]
              refine ⟨?_, by omega⟩
              rw [List.take_length_add_append, show r.length + n * size + cs.length = r.length + (n * size + cs.length) by omega, List.drop_length_add_append]
              simp [List.append_assoc]
        obtain ⟨g1, g2⟩ := hflat j rows (fun r h' => (hr r h').1) hl.2
        simp only [fillP, Option.bind_some, hcs]
        rw [if_pos ⟨hl.1, g2⟩, ← g1]
        exact h1
      · cases h

theorem aBuildSlice_sound (hT : TabOk P T) (h : Mem P w0 O0 β I obj w) (hn : β (nid i) = none) {t : TypeId} {len : Nat} {parts : List (Nat × AV)} {vs : Array (Nat × Value)} {out : Out} (ha : aBuildSlice T i t len parts = some out)
    (hk : parts.map (·.1) = vs.toList.map (·.1)) (hv : VRl P β w I (parts.map (·.2)) (vs.toList.map (·.2))) :
    ∃ u w' β', (Instr.buildSlice t len vs).run P w = .ok u w' ∧ Step β I w (nid i) β' I w' ∧ Mem P w0 O0 β' I (updo obj out.upd) w' ∧ VR P β' w' I out.v u := by
  unfold aBuildSlice at ha
  cases hti : T t with
  | none => simp [hti] at ha
  | some ti =>
    have ht := hT t ti hti
    simp only [hti, Option.bind_some] at ha
    split at ha
    · rename_i e hkd
      cases hei : T e with
      | none => simp [hei] at ha
      | some ei =>
        have he := hT e ei hei
        simp only [hei, Option.bind_some] at ha
        split at ha
        · cases ha
        · rename_i hno
          simp only [not_or] at hno
          cases hf : fillR ei.size (List.replicate len (ei.zero.map cv)) parts with
          | none => simp [hf] at ha
          | some rows =>
            simp only [hf, Option.bind_some, Option.some.injEq] at ha
            subst ha
            obtain ⟨z, hz, hz2⟩ := he.zeroV (w := w)
            have hzl : ei.zero.length = ei.size := he.len
            have hok : ∀ r ∈ List.replicate len (ei.zero.map cv), r.length = ei.size ∧ r.all cellOk = true := by
              intro r hr
              obtain ⟨_, rfl⟩ := List.mem_replicate.1 hr
              refine ⟨by simpa using hzl, ?_⟩
              rw [List.all_map, List.all_eq_true]
              intro v hvz
              have h1 := List.all_eq_true.1 he.one v hvz
              simp only [Function.comp, cv]
              split
              · rfl
              · rw [if_pos h1]; rfl
            obtain ⟨h1, h2, h3⟩ := fillR_flat ei.size parts _ rows hf hok
            have hzs : z.cells.size = ei.size := by rw [← Array.length_toList, hz2]; exact hzl
            have hinit : ((Array.range (len * ei.size)).map (fun j => z.cells[j % z.cells.size]!)).toList = (List.replicate len ei.zero).flatten := by
              apply List.ext_getElem?
              intro j
              have hlen : ∀ n, ((List.replicate n ei.zero).flatten).length = n * ei.size := fun n => by simp [hzl]
              have hget : ∀ n j, j < n * ei.size → ((List.replicate n ei.zero).flatten)[j]? = ei.zero[j % ei.size]? := by
                intro n
                induction n with
                | zero => intro j hj; simp at hj
                | succ n ih =>
                  intro j hj
                  rw [List.replicate_succ, List.flatten_cons]
                  by_cases hjs : j < ei.size
                  · rw [List.getElem?_append_left (by omega), Nat.mod_eq_of_lt hjs]
                  · rw [List.getElem?_append_right (by omega), hzl, ih _ (by rw [Nat.add_mul] at hj; omega)]
                    rw [← Nat.mod_eq_sub_mod (by omega)]
              by_cases hj : j < len * ei.size
              · rw [hget len j hj, Array.getElem?_toList, Array.getElem?_map]
                have hm : j % ei.size < ei.size := Nat.mod_lt _ (by omega)
                rw [show (Array.range (len * ei.size))[j]? = some j by simp [hj]]
                simp only [Option.map_some]
                rw [hzs, ← hz2, Array.getElem?_toList]
                simp [show j % ei.size < z.cells.size by omega]
              · rw [List.getElem?_eq_none (by simp; omega), List.getElem?_eq_none (by rw [hlen]; omega)]
            generalize hin : (Array.range (len * ei.size)).map (fun j => z.cells[j % z.cells.size]!) = cells0 at hinit
            obtain ⟨zs, hz3, hz4⟩ := fillP_sound (place' := fun j => some (j * ei.size, ei.size)) (fun j p h => h) parts vs.toList _ cells0 rows.flatten h1 (by
              rw [hinit]
              have : (List.replicate len (ei.zero.map cv)).flatten = ((List.replicate len ei.zero).flatten).map cv := by
                induction len with
                | zero => rfl
                | succ n ih => simp [List.replicate_succ]
              rw [this]; exact VRl.cv _) hk hv
            have hrl : rows.length = len := by rw [h3]; simp
            obtain ⟨hS, hM⟩ := Mem.alloc (o := ⟨ei.size, rows⟩) (c := zs) (e := e) h hn (ORows_of_flat rows zs 0 ei.size zs.toList h2 hz4 (fun j u hj => by simpa using hj))
            refine ⟨.slice (some ⟨w.heap.size, 0, none⟩) len len, _, _, ?_, hS, hM.wkAt, ?_⟩
            · simp only [Instr.buildSlice, Sem.run_bind, run_underlying (kind_slice ht hkd), Result.andThen_ok, he.size (w := w)]
              rw [if_neg (by omega)]
              by_cases hl0 : len * ei.size = 0
              · have hc0 : cells0 = #[] := by rw [← hin, hl0]; simp
                have e0 : (Array.range (len * ei.size)).map (fun j => (#[] : Array Value)[j % (#[] : Array Value).size]!) = cells0 := by rw [hc0, hl0]; simp
                simp only [hl0, if_true, Sem.run_pure, Result.andThen_ok, Sem.run_bind]
                rw [hl0] at e0
                rw [e0, hz3]
                simp only [Sem.run_bind, newRow, run_newObj, Result.andThen_ok, Sem.run_pure]; rfl
              · simp only [hl0, if_false, Sem.run_bind, hz, Result.andThen_ok, Sem.run_pure]
                rw [hin, hz3]
                simp only [Sem.run_bind, newRow, run_newObj, Result.andThen_ok, Sem.run_pure]; rfl
            · simp only [VR]
              refine .inr ⟨w.heap.size, ei.size, zs.size, len, 0, by simp [ins], rfl, Nat.le_refl _, ?_, by simp⟩
              have := VRl.length _ _ hz4
              simp only [Array.length_toList] at this
              rw [this, Nat.zero_add, ← hrl]
              have hfl : ∀ (l : List (List AV)), (∀ r ∈ l, r.length = ei.size) → l.flatten.length = l.length * ei.size := by
                intro l
                induction l with
                | nil => simp
                | cons r rs ih => intro h; simp only [List.flatten_cons, List.length_append, List.length_cons, ih (fun r' h' => h r' (by simp [h'])), h r (by simp)]; rw [Nat.add_mul]; omega
              rw [hfl rows (fun r hr => (h2 r hr).1)]
              exact Nat.le_refl _
    · cases ha
end
end Go.Gb
