/-
  append in the abstract walk is the model's append.
-/
import Derived.Test.YtgmmcfpjmkhmhaaGJ
namespace Go.Gb
open Go.RowKit

section
variable {P : Program} {T : Tab} {w0 : World} {O0 : Was} {β : Nat → Option Blk} {I : Nat → Prop} {obj : Nat → Option AObj} {w : World} {i : Nat}

theorem Mem.addNil {i : Nat} {o : AObj} (h : Mem P w0 O0 β I obj w) (hn : β i = none) (ho : o.rows = []) :
    Step β I w i (ins β i .none) I w ∧ Mem P w0 O0 (ins β i .none) I (updo obj [(i, some o)]) w := by
  have hS : Step β I w i (ins β i .none) I w := ⟨fun j hj => by simp [ins, hj], ins_ext hn, fun _ _ => rfl, fun _ h => h⟩
  refine ⟨hS, ?_⟩
  constructor
  · intro k o' hk
    simp only [updo] at hk
    split at hk
    · injection hk with hk; subst hk
      rename_i hki
      exact ⟨.none, by simp [ins, hki], ho⟩
    · obtain ⟨B, hB, hO⟩ := h.objs k o' hk
      exact ⟨B, ins_ext hn _ _ hB, OR.mono hS.ext hS.same hS.inc (fun _ _ _ _ => rfl) hO⟩
  · intro k k' o1 o2 b s n s' n' h1 h2 h3 h4
    simp only [updo] at h1 h2
    simp only [ins] at h3 h4
    split at h3
    · simp at h3
    · split at h4
      · simp at h4
      · rename_i a b; rw [if_neg a] at h1; rw [if_neg b] at h2; exact h.inj k k' o1 o2 _ s n s' n' h1 h2 h3 h4
  · intro k o' b s n h1 h2
    simp only [updo] at h1
    simp only [ins] at h2
    split at h2
    · simp at h2
    · rename_i a; rw [if_neg a] at h1; exact h.own k o' b s n h1 h2
  · exact h.lt
  · exact h.up
  · exact h.keep
  · exact h.le
  · exact h.os
  · exact h.tape
  · exact h.output
  · intro j C hj; exact ins_ext hn _ _ (h.anch j C hj)

theorem ORows_of_flat1 : ∀ (rows : List (List AV)) (c : Array Value) (off sz : Nat) (l : List Value), (∀ r ∈ rows, r.length = sz) → VRl P β w I rows.flatten l → (∀ u ∈ l, oneCell u) → (∀ j u, l[j]? = some u → c[off + j]? = some u) → ORows P β w I rows c off sz
  | [], _, _, _, _, _, _, _, _ => by simp [ORows]
  | r :: rs, c, off, sz, l, hr, hl, h1, hc => by
    have hrl := hr r (by simp)
    simp only [List.flatten_cons] at hl
    have ht := VRl.take sz _ _ hl
    have hd := VRl.drop sz _ _ hl
    rw [List.take_append_of_le_length (by omega), List.take_of_length_le (by omega)] at ht
    rw [List.drop_append_of_le_length (by omega), List.drop_of_length_le (by omega), List.nil_append] at hd
    simp only [ORows]
    refine ⟨hrl, ORow.of_list r _ c off ht (fun u hu => h1 u (List.mem_of_mem_take hu)) (fun j u hj => ?_), ORows_of_flat1 rs c (off + sz) sz _ (fun r' hr' => hr r' (by simp [hr'])) hd (fun u hu => h1 u (List.mem_of_mem_drop hu)) (fun j u hj => ?_)⟩
    · rw [List.getElem?_take] at hj
      split at hj
      · exact hc j u hj
      · cases hj
    · rw [List.getElem?_drop] at hj
      rw [show off + sz + j = off + (sz + j) by omega]
      exact hc _ u hj

theorem ORows.list : ∀ (rows : List (List AV)) (c : Array Value) (off sz : Nat), ORows P β w I rows c off sz → ∃ l : List Value, VRl P β w I rows.flatten l ∧ (∀ u ∈ l, oneCell u) ∧ l.length = rows.length * sz ∧ (∀ r ∈ rows, r.length = sz) ∧ ∀ j u, l[j]? = some u → c[off + j]? = some u
  | [], _, _, _, _ => ⟨[], by simp [VRl], by simp, by simp, by simp, by simp⟩
  | r :: rs, c, off, sz, ⟨h1, h2, h3⟩ => by
    obtain ⟨l1, a1, a2, a3⟩ := ORow.list r c off h2
    obtain ⟨l2, b1, b2, b3, b4, b5⟩ := ORows.list rs c (off + sz) sz h3
    have hl1 : l1.length = sz := by rw [VRl.length _ _ a1, h1]
    refine ⟨l1 ++ l2, by simp only [List.flatten_cons]; exact VRl.append _ _ _ _ a1 b1, fun u hu => ?_, ?_, fun r' hr' => ?_, fun j u hj => ?_⟩
    · rcases List.mem_append.1 hu with hu | hu
      · exact a2 u hu
      · exact b2 u hu
    · simp only [List.length_append, List.length_cons, hl1, b3, Nat.add_mul]; omega
    · rcases List.mem_cons.1 hr' with rfl | hr'
      · exact h1
      · exact b4 r' hr'
    · by_cases hjs : j < sz
      · rw [List.getElem?_append_left (by omega)] at hj
        exact a3 j u hj
      · rw [List.getElem?_append_right (by omega)] at hj
        have := b5 _ u hj
        rw [hl1] at this
        rw [show off + j = off + sz + (j - sz) by omega]; exact this

theorem TRows.list {b sz : Nat} : ∀ (rows : List (List Tree)) (off : Nat), TRows w I rows b off sz → ∃ l : List Value, VRl P β w I (avRows rows).flatten l ∧ (∀ u ∈ l, oneCell u) ∧ l.length = rows.length * sz ∧ (∀ r ∈ avRows rows, r.length = sz) ∧ ∀ j u, l[j]? = some u → w.cell? ⟨b, off + j, none⟩ = some u
  | [], _, _ => ⟨[], by simp [avRows, VRl], by simp, by simp, by simp [avRows], by simp⟩
  | r :: rs, off, h => by
    simp only [TRows] at h
    obtain ⟨h1, h2, h3⟩ := h
    obtain ⟨l1, a1, a3⟩ := TRow.list (P := P) (β := β) r b off h2
    obtain ⟨l2, b1, b2, b3, b4, b5⟩ := TRows.list rs (off + sz) h3
    have hl1 : l1.length = sz := by rw [VRl.length _ _ a1]; simpa using h1
    have a2 : ∀ u ∈ l1, oneCell u := by
      intro u hu
      obtain ⟨j, hj⟩ := List.getElem?_of_mem hu
      have hjl : j < (r.map AV.t).length := by have := (List.getElem?_eq_some_iff.1 hj).1; rw [VRl.length _ _ a1] at this; exact this
      obtain ⟨u', hu', hv⟩ := VRl.get _ _ j _ a1 (List.getElem?_eq_getElem hjl)
      rw [hj] at hu'; injection hu' with hu'; subst hu'
      refine VR.one ?_ hv
      simp [cellOk]
    refine ⟨l1 ++ l2, by simp only [avRows, List.map_cons, List.flatten_cons]; exact VRl.append _ _ _ _ a1 b1, fun u hu => ?_, ?_, fun r' hr' => ?_, fun j u hj => ?_⟩
    · rcases List.mem_append.1 hu with hu | hu
      · exact a2 u hu
      · exact b2 u hu
    · simp only [List.length_append, List.length_cons, hl1, b3, Nat.add_mul]; omega
    · simp only [avRows, List.map_cons, List.mem_cons] at hr'
      rcases hr' with rfl | hr'
      · simpa using h1
      · exact b4 r' hr'
    · by_cases hjs : j < sz
      · rw [List.getElem?_append_left (by omega)] at hj
        exact a3 j u hj
      · rw [List.getElem?_append_right (by omega)] at hj
        have := b5 _ u hj
        rw [hl1] at this
        rw [show off + j = off + sz + (j - sz) by omega]; exact this

/-- The slice that is appended, as cells. -/
def SrcR (P : Program) (β : Nat → Option Blk) (w : World) (I : Nat → Prop) (size n : Nat) (new : List (List AV)) (v : Value) : Prop :=
  (n = 0 ∧ ∃ b c, v = .slice b 0 c) ∨ ∃ (a : Addr) (c : Nat) (l : List Value), v = .slice (some a) n c ∧ 0 < n ∧ VRl P β w I new.flatten l ∧ (∀ u ∈ l, oneCell u) ∧ l.length = n * size ∧ (∀ r ∈ new, r.length = size) ∧ ∀ j u, l[j]? = some u → w.cell? (a.add j) = some u

theorem src_sound (h : Mem P w0 O0 β I obj w) {size n : Nat} {ob : Prop} {new : List (List AV)} {y : AV} {get : Nat → Option AObj} {v : Value} (hg : ∀ k o, get k = some o → obj k = some o)
    (hs : srcOf size y get = some (n, ob, new)) (hob : ob) (hl : new.length = n) (hy : VR P β w I y v) : SrcR P β w I size n new v := by
  unfold srcOf at hs
  split at hs
  · rename_i k off len
    cases hk : get k with
    | none => simp [hk] at hs
    | some o =>
      simp only [hk, Option.bind_some] at hs
      split at hs
      · rename_i hsz
        simp only [Option.some.injEq, Prod.mk.injEq] at hs
        obtain ⟨rfl, _, rfl⟩ := hs
        simp only [VR] at hy
        rcases hy with ⟨_, rfl, _, rfl⟩ | ⟨b, sz, m, cap, a, h1, rfl, h2, h3, h4⟩
        · exact .inl ⟨rfl, _, _, rfl⟩
        · by_cases h0 : len = 0
          · subst h0; exact .inl ⟨rfl, _, _, rfl⟩
          · obtain ⟨B, hB, hO⟩ := h.objs k o (hg k o hk)
            rw [h1] at hB; injection hB with hB; subst hB
            obtain ⟨hs, c, e, hc, _, hO⟩ := hO
            have h5 := ORows.take len _ _ _ _ (ORows.drop off _ _ _ _ hO)
            rw [Nat.zero_add] at h5
            obtain ⟨l, g1, g2, g3, g4, g5⟩ := ORows.list _ _ _ _ h5
            refine .inr ⟨_, cap, l, rfl, by omega, g1, g2, ?_, fun r hr => ?_, fun j u hj => ?_⟩
            · rw [g3, hl, hs, hsz]
            · rw [g4 r hr, hs, hsz]
            · rw [addr_add, h4 (by omega)]
              simp [World.cell?, hc, g5 j u hj]
      · cases hs
  · rename_i rows
    simp only [Option.some.injEq, Prod.mk.injEq] at hs
    obtain ⟨rfl, rfl, rfl⟩ := hs
    simp only [VR, TR] at hy
    rcases hy with ⟨rfl, _, _, rfl, _⟩ | ⟨b, off, cap, sz, rfl, h1, h2, h3⟩
    · exact .inl ⟨rfl, _, _, rfl⟩
    · cases rows with
      | nil => exact .inl ⟨rfl, _, _, rfl⟩
      | cons r rs =>
        obtain ⟨l, g1, g2, g3, g4, g5⟩ := TRows.list (P := P) (β := β) _ _ h3
        have hsz : sz = size := by
          have e1 := hob r (by simp)
          simp only [TRows] at h3
          omega
        subst hsz
        exact .inr ⟨_, cap, l, rfl, by simp, g1, g2, g3, g4, fun j u hj => by rw [addr_add]; exact g5 j u hj⟩
  · cases hs

theorem oneCell' {u : Value} (h : oneCell u) : u.oneCell' = true := by cases u <;> first | rfl | exact h.elim

/-- A new block that holds some rows, behind a draw. -/
theorem Mem.grow (h : Mem P w0 O0 β I obj w) (hn : β i = none) {size : Nat} {rows : List (List AV)} {l : List Value} {e : TypeId} {rest : Array Value} (hr : ∀ r ∈ rows, r.length = size) (hl : VRl P β w I rows.flatten l) (h1 : ∀ u ∈ l, oneCell u) :
    Step β I w i (ins β i (.at w.heap.size size (l.toArray ++ rest).size)) I (w.drew.alloc (.cells (l.toArray ++ rest) e)) ∧
    Mem P w0 O0 (ins β i (.at w.heap.size size (l.toArray ++ rest).size)) I (updo obj [(i, some ⟨size, rows⟩)]) (w.drew.alloc (.cells (l.toArray ++ rest) e)) := by
  have hd := h.drew
  obtain ⟨hS, hM⟩ := Mem.alloc (i := i) (o := ⟨size, rows⟩) (c := l.toArray ++ rest) (e := e) hd hn (ORows_of_flat1 rows _ 0 size l hr (VRl.mono (w := w) (w' := w.drew) (fun _ _ h => h) (fun _ _ => rfl) (fun _ h => h) _ _ hl) h1 (fun j u hj => by
    have hlt := (List.getElem?_eq_some_iff.1 hj).1
    rw [Nat.zero_add, Array.getElem?_append_left (by simpa using hlt)]
    simpa using hj))
  exact ⟨⟨hS.other, hS.ext, fun b hb => hS.same b hb, hS.inc⟩, hM⟩

theorem appendNil_sound (hT : TabOk P T) (h : Mem P w0 O0 β I obj w) (hn : β i = none) {t e ty : TypeId} {ei : TyI} (hund : P.underlying t = some (.slice e)) (hei : T e = some ei) {n : Nat} {new : List (List AV)} {v : Value}
    (hsrc : SrcR P β w I ei.size n new v) (hl : new.length = n) (h48 : n * ei.bytes ≤ 140737488355328) (h63 : n ≤ maxLen) :
    ∃ u w' β', (Builtin.append_ #[t, t] ty #[.slice none 0 0, v]).run P w = .ok u w' ∧ Step β I w i β' I w' ∧ Mem P w0 O0 β' I (updo obj [(i, some ⟨ei.size, new⟩)]) w' ∧ VR P β' w' I (.own i 0 n) u := by
  have he := hT e ei hei
  obtain ⟨info, d, z, g1, g2, g3, g4, g5, g6, g7, g8⟩ := he.ex
  rcases hsrc with ⟨rfl, b, c, rfl⟩ | ⟨a, c, l, rfl, hpos, q1, q2, q3, q4, q5⟩
  · have hnew : new = [] := List.eq_nil_of_length_eq_zero hl
    subst hnew
    obtain ⟨hS, hM⟩ := Mem.addNil (i := i) (o := ⟨ei.size, []⟩) h hn rfl
    refine ⟨.slice none 0 0, w, _, ?_, hS, hM, by simp only [VR]; exact .inl ⟨by simp [ins], trivial, trivial, trivial⟩⟩
    cases b <;> simp [Builtin.append_, run_underlying hund, sizeOf, typeInfo, g1, Builtin.lenOf, Builtin.firstCells, loadCells, loadCellsFrom]
  · have hm : n ≤ 9223372036854775807 := by simp only [maxLen] at h63; omega
    have hrun := run_append_nil (P := P) w t ty e info z hund g1 g5 a n c l (by rw [q3, g3]) q5 hpos (by omega) (by rw [g4]; omega)
    obtain ⟨hS, hM⟩ := Mem.grow (i := i) (e := e) (rest := Builtin.zeroCells z.cells (grownCap w n 0 e - n)) h hn q4 q1 q2
    refine ⟨_, _, _, hrun, hS, hM, ?_⟩
    simp only [VR]
    refine .inr ⟨w.heap.size, ei.size, _, _, 0, by simp [ins]; rfl, rfl, grownCap_ge w n 0 e, ?_, by simp⟩
    have hz : z.cells.size = ei.size := by rw [← Array.length_toList, g6]; exact he.len
    have hge := grownCap_ge w n 0 e
    simp only [size_zeroCells, q3, hz, Nat.zero_add, ← Nat.add_mul]
    exact Nat.mul_le_mul_right _ (by omega)

theorem appendOwn_sound (hT : TabOk P T) (h : Mem P w0 O0 β I obj w) (hn : β i = none) {t e ty : TypeId} {ei : TyI} (hund : P.underlying t = some (.slice e)) (hei : T e = some ei) {n k len : Nat} {o : AObj} {new : List (List AV)} {u v : Value}
    (hk : obj k = some o) (hsz : o.sz = ei.size) (hlen : o.rows.length = len) (hx : VR P β w I (.own k 0 len) u)
    (hsrc : SrcR P β w I ei.size n new v) (hl : new.length = n) (h48 : (len + n) * ei.bytes ≤ 140737488355328) (h63 : len + n ≤ maxLen) :
    ∃ z w' β', (Builtin.append_ #[t, t] ty #[u, v]).run P w = .ok z w' ∧ Step β I w i β' I w' ∧ Mem P w0 O0 β' I (updo obj [(i, some ⟨ei.size, o.rows ++ new⟩), (k, none)]) w' ∧ VR P β' w' I (.own i 0 (len + n)) z := by
  have he := hT e ei hei
  obtain ⟨info, d, z, g1, g2, g3, g4, g5, g6, g7, g8⟩ := he.ex
  have hki : k ≠ i := fun e => by
    obtain ⟨B, hB, _⟩ := h.objs k o hk
    rw [e, hn] at hB; cases hB
  have dropk : ∀ {β' : Nat → Option Blk} {I' : Nat → Prop} {w' : World} {o' : AObj}, Mem P w0 O0 β' I' (updo obj [(i, some o')]) w' → Mem P w0 O0 β' I' (updo obj [(i, some o'), (k, none)]) w' := by
    intro β' I' w' o' hM
    refine hM.drop _ fun j oj hj => ?_
    simp only [updo] at hj ⊢
    split
    · rw [if_pos ‹_›] at hj; exact hj
    · rw [if_neg ‹_›] at hj
      split at hj
      · cases hj
      · exact hj
  simp only [VR] at hx
  rcases hx with ⟨hβ, rfl, _, rfl⟩ | ⟨b, sz, m, cap, a, hβ, rfl, h2, h3, h4⟩
  · obtain ⟨B, hB, hO⟩ := h.objs k o hk
    rw [hβ] at hB; injection hB with hB; subst hB
    have hr : o.rows = [] := hO
    rw [hr, List.nil_append, Nat.zero_add]
    obtain ⟨z', w', β', e1, e2, e3, e4⟩ := appendNil_sound (ty := ty) hT h hn hund hei hsrc hl (by simpa using h48) (by simpa using h63)
    exact ⟨z', w', β', e1, e2, dropk e3, e4⟩
  · obtain ⟨B, hB, hO⟩ := h.objs k o hk
    rw [hβ] at hB; injection hB with hB; subst hB
    obtain ⟨hs, c, ce, hc, hcn, hO⟩ := hO
    rw [Nat.zero_add] at h3
    rcases hsrc with ⟨rfl, b', c', rfl⟩ | ⟨a', c', l, rfl, hpos, q1, q2, q3, q4, q5⟩
    · have hnew : new = [] := List.eq_nil_of_length_eq_zero hl
      subst hnew
      rw [List.append_nil, Nat.add_zero]
      obtain ⟨hS, hM⟩ := Mem.rename h hn hk hβ
      refine ⟨.slice (some ⟨b, a, none⟩) len cap, w, _, ?_, hS, by rw [← hsz]; exact hM, ?_⟩
      · cases b' <;> simp [Builtin.append_, run_underlying hund, sizeOf, typeInfo, g1, Builtin.lenOf, Builtin.firstCells, loadCells, loadCellsFrom, h2, storeCells]
      · simp only [VR]; exact .inr ⟨b, sz, m, cap, a, by simp [ins], rfl, h2, by simpa using h3, h4⟩
    · obtain ⟨ol, o1, o2, o3, o4, o5⟩ := ORows.list _ _ _ _ hO
      have hrl : ∀ r ∈ o.rows ++ new, r.length = ei.size := fun r hr => by
        rcases List.mem_append.1 hr with hr | hr
        · rw [o4 r hr, hs, hsz]
        · exact q4 r hr
      have hol : ol.length = len * info.size := by rw [o3, hlen, hs, hsz, g3]
      by_cases hroom : len + n ≤ cap
      · -- in place
        have ha : a = 0 := by rw [h4 (by omega)]; simp
        subst ha
        have hcsz : cap * info.size ≤ c.size := by rw [g3, ← hsz, ← hs, hcn]; exact h3
        have hfit : len * info.size + l.length ≤ c.size := by rw [q3, ← g3, ← Nat.add_mul]; exact Nat.le_trans (Nat.mul_le_mul_right _ hroom) hcsz
        have hf := run_firstCells_some (P := P) w info.size n a' n c' l (by rw [q3, g3]) q5
        have hst := run_storeCells_at P b (len * info.size) ce l 0 c w hc (by omega) (fun u hu => oneCell' (q2 u hu))
        simp only [Nat.add_zero] at hst
        generalize hc' : (List.take (len * info.size) c.toList ++ l ++ List.drop (len * info.size + l.length) c.toList).toArray = cc at hst
        have hccs : cc.size = c.size := by rw [← hc']; simp [List.length_take, List.length_drop]; omega
        have hrun : (Builtin.append_ #[t, t] ty #[.slice (some ⟨b, 0, none⟩) len cap, .slice (some a') n c']).run P w = .ok (.slice (some ⟨b, 0, none⟩) (len + n) cap) (w.setRow b cc) := by
          have hf' : (Builtin.firstCells info.size n (.slice (some a') n c')).run P w = .ok l.toArray w := hf
          simp [Builtin.append_, run_underlying hund, sizeOf, typeInfo, g1, Builtin.lenOf, hroom, hf', addr_add, hst]
        have hcells : ∀ j u, (ol ++ l)[j]? = some u → cc[0 + j]? = some u := by
          intro j u hj
          rw [Nat.zero_add, ← hc', List.getElem?_toArray]
          have h1 : (c.toList.take (len * info.size)).length = len * info.size := by simp [List.length_take]; omega
          by_cases hjl : j < ol.length
          · rw [List.getElem?_append_left hjl] at hj
            have := o5 j u hj
            rw [Nat.zero_add] at this
            rw [List.append_assoc, List.getElem?_append_left (by omega), List.getElem?_take, if_pos (by omega), Array.getElem?_toList]
            exact this
          · rw [List.getElem?_append_right (by omega)] at hj
            have hjl2 := (List.getElem?_eq_some_iff.1 hj).1
            rw [List.append_assoc, List.getElem?_append_right (by omega), h1, List.getElem?_append_left (by omega), ← hol]
            exact hj
        obtain ⟨hSame, hM⟩ := Mem.write (o' := ⟨ei.size, o.rows ++ new⟩) h hk hβ (c' := cc) (e := ce) (setRow_heap w b c cc ce (0, 0) hc) (fun b' hb => setRow_other w b b' cc hb) (by simp) rfl rfl rfl (by rw [hs, hsz]) (by omega)
          (ORows_of_flat1 _ _ 0 ei.size (ol ++ l) hrl (by simp only [List.flatten_append]; exact VRl.append _ _ _ _ o1 q1) (fun u hu => by
            rcases List.mem_append.1 hu with hu | hu
            · exact o2 u hu
            · exact q2 u hu) hcells)
        obtain ⟨hS, hM2⟩ := Mem.rename (i := i) (k := k) (o := ⟨ei.size, o.rows ++ new⟩) hM hn (by simp [updo]) hβ
        refine ⟨_, _, _, hrun, ⟨hS.other, hS.ext, hSame, fun _ h => h⟩, hM2.drop _ (fun j oj hj => ?_), ?_⟩
        · simp only [updo] at hj ⊢
          split at hj
          · rw [if_pos ‹_›]; exact hj
          · rw [if_neg ‹_›]
            split at hj
            · cases hj
            · rw [if_neg ‹_›, if_neg ‹_›]; exact hj
        · simp only [VR]; exact .inr ⟨b, sz, m, cap, 0, by simp [ins], rfl, hroom, by simpa using h3, by simp⟩
      · have holds : ∀ j v, ol[j]? = some v → w.cell? ((⟨b, a, none⟩ : Addr).add j) = some v := by
          intro j v hj
          have hjl := (List.getElem?_eq_some_iff.1 hj).1
          have hlen0 : len ≠ 0 := fun h0 => by rw [hol, h0] at hjl; simp at hjl
          rw [addr_add, h4 (by omega), Nat.zero_mul]
          have := o5 j v hj
          simp [World.cell?, hc] at this ⊢
          exact this
        have hm : len + n ≤ 9223372036854775807 := by simp only [maxLen] at h63; omega
        have hrun := run_append_grow (P := P) w t ty e info z hund g1 g5 ⟨b, a, none⟩ len cap ol hol holds a' n c' l (by rw [q3, g3]) q5 (by omega) (by omega) (growslice_fits (by omega) (by rw [g4]; exact h48))
        have happ : VRl P β w I (o.rows ++ new).flatten (ol ++ l) := by simp only [List.flatten_append]; exact VRl.append _ _ _ _ o1 q1
        obtain ⟨hS, hM⟩ := Mem.grow (i := i) (e := e) (rest := Builtin.zeroCells z.cells (grownCap w (len + n) cap e - (len + n))) h hn hrl happ (fun u hu => by
          rcases List.mem_append.1 hu with hu | hu
          · exact o2 u hu
          · exact q2 u hu)
        have earr : ol.toArray ++ l.toArray ++ Builtin.zeroCells z.cells (grownCap w (len + n) cap e - (len + n)) = (ol ++ l).toArray ++ Builtin.zeroCells z.cells (grownCap w (len + n) cap e - (len + n)) := by simp
        rw [earr] at hrun
        refine ⟨_, _, _, hrun, hS, dropk hM, ?_⟩
        simp only [VR]
        refine .inr ⟨w.heap.size, ei.size, _, _, 0, by simp [ins]; rfl, rfl, grownCap_ge w (len + n) cap e, ?_, by simp⟩
        have hz : z.cells.size = ei.size := by rw [← Array.length_toList, g6]; exact he.len
        have hge := grownCap_ge w (len + n) cap e
        simp only [size_zeroCells, q3, hol, hz, g3, Nat.zero_add, ← Nat.add_mul]
        exact Nat.mul_le_mul_right _ (by omega)
end
end Go.Gb
