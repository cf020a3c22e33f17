/-
  Memory in the abstract walk: which objects lie in which blocks; that it stays true when a block is laid, written, or a call has been made.
-/
import Derived.Test.YtgmmcfpjmkhmhaaGA
import Derived.Laws.Cells
import Derived.Laws.AppendOwn
namespace Go.Gb
open Go.RowKit

/-- What was there at the call's beginning: the blocks that it may write, those that nobody writes, and where the objects lie that it was handed. -/
structure Was where
  own : Nat → Prop
  imm : Nat → Prop
  anc : Nat → Option Blk := fun _ => none
  lt : ∀ j B, anc j = some B → j < 1000 := by intro j B h; cases h

/-- The objects lie in blocks of their own, apart from each other and from what nobody writes; nothing that was there at the call's beginning has changed, but for the blocks of O0. -/
structure Mem (P : Program) (w0 : World) (O0 : Was) (β : Nat → Option Blk) (I : Nat → Prop) (obj : Nat → Option AObj) (w : World) : Prop where
  objs : ∀ k o, obj k = some o → ∃ B, β k = some B ∧ OR P β w I o B
  inj : ∀ k k' o o' b s n s' n', obj k = some o → obj k' = some o' → β k = some (.at b s n) → β k' = some (.at b s' n') → k = k'
  own : ∀ k o b s n, obj k = some o → β k = some (.at b s n) → ¬ I b ∧ b < w.heap.size ∧ (O0.own b ∨ w0.heap.size ≤ b)
  lt : ∀ b, I b → b < w.heap.size
  up : ∀ b, I b → O0.imm b ∨ O0.own b ∨ w0.heap.size ≤ b
  keep : ∀ b, b < w0.heap.size → ¬ O0.own b → w.heap[b]? = w0.heap[b]?
  le : w0.heap.size ≤ w.heap.size
  os : w.os = w0.os
  tape : w.tape = w0.tape
  output : w.output = w0.output
  anch : ∀ j B, O0.anc j = some B → β j = some B

def updo (obj : Nat → Option AObj) : List (Nat × Option AObj) → Nat → Option AObj
  | [], k => obj k
  | (j, o) :: r, k => if k = j then o else updo obj r k

/-- What one operation may do to where things lie: one new name at most. -/
structure Step (β : Nat → Option Blk) (I : Nat → Prop) (w : World) (i : Nat) (β' : Nat → Option Blk) (I' : Nat → Prop) (w' : World) : Prop where
  other : ∀ k, k ≠ i → β' k = β k
  ext : ∀ k B, β k = some B → β' k = some B
  same : Same I w w'
  inc : ∀ b, I b → I' b

theorem Step.refl (β : Nat → Option Blk) (I : Nat → Prop) (w : World) (i : Nat) : Step β I w i β I w := ⟨fun _ _ => rfl, fun _ _ h => h, fun _ _ => rfl, fun _ h => h⟩

theorem heap_alloc_lt {w : World} {o : Obj} {b : Nat} (h : b < w.heap.size) : (w.alloc o).heap[b]? = w.heap[b]? := by
  simp only [World.alloc, Array.getElem?_push]
  rw [if_neg (by omega)]

theorem Same.alloc {I : Nat → Prop} {w : World} (h : ∀ b, I b → b < w.heap.size) (o : Obj) : Same I w (w.alloc o) := fun b hb => heap_alloc_lt (h b hb)

def ins (β : Nat → Option Blk) (i : Nat) (B : Blk) : Nat → Option Blk := fun k => if k = i then some B else β k

theorem ins_ext {β : Nat → Option Blk} {i : Nat} {B : Blk} (h : β i = none) : ∀ k C, β k = some C → ins β i B k = some C := by
  intro k C hk
  unfold ins
  split
  · subst_vars; rw [h] at hk; cases hk
  · exact hk

theorem ORow_iff {P : Program} {β : Nat → Option Blk} {w : World} {I : Nat → Prop} : ∀ (r : List AV) (c : Array Value) (off : Nat), ORow P β w I r c off ↔ ∀ j x, r[j]? = some x → ∃ v, c[off + j]? = some v ∧ VR P β w I x v ∧ oneCell v
  | [], c, off => by simp [ORow]
  | x :: xs, c, off => by
    simp only [ORow, ORow_iff xs c (off + 1)]
    constructor
    · rintro ⟨h1, h2⟩ j y hj
      cases j with
      | zero => simp at hj; subst hj; exact h1
      | succ j => obtain ⟨v, hv⟩ := h2 j y (by simpa using hj); exact ⟨v, by rw [show off + (j + 1) = off + 1 + j by omega]; exact hv.1, hv.2⟩
    · intro h
      refine ⟨by simpa using h 0 x rfl, fun j y hj => ?_⟩
      obtain ⟨v, hv⟩ := h (j + 1) y (by simpa using hj)
      exact ⟨v, by rw [show off + 1 + j = off + (j + 1) by omega]; exact hv.1, hv.2⟩

theorem ORows_iff {P : Program} {β : Nat → Option Blk} {w : World} {I : Nat → Prop} : ∀ (rs : List (List AV)) (c : Array Value) (off sz : Nat), ORows P β w I rs c off sz ↔ ∀ i r, rs[i]? = some r → r.length = sz ∧ ORow P β w I r c (off + i * sz)
  | [], c, off, sz => by simp [ORows]
  | r :: rs, c, off, sz => by
    simp only [ORows, ORows_iff rs c (off + sz) sz]
    constructor
    · rintro ⟨h1, h2, h3⟩ i r' hi
      cases i with
      | zero => simp at hi; subst hi; exact ⟨h1, by simpa using h2⟩
      | succ i => have := h3 i r' (by simpa using hi); rw [show off + (i + 1) * sz = off + sz + i * sz by rw [Nat.add_mul]; omega]; exact this
    · intro h
      have h0 := h 0 r rfl
      refine ⟨h0.1, by simpa using h0.2, fun i r' hi => ?_⟩
      have := h (i + 1) r' (by simpa using hi)
      rw [show off + sz + i * sz = off + (i + 1) * sz by rw [Nat.add_mul]; omega]
      exact this

section
variable {P : Program} {w0 : World} {O0 : Was} {β : Nat → Option Blk} {I : Nat → Prop} {obj : Nat → Option AObj} {w : World}

/-- The same memory, where another world has all blocks that count. -/
theorem OR.mono {β' : Nat → Option Blk} {I' : Nat → Prop} {w' : World} {o : AObj} {B : Blk} (hb : ∀ k B, β k = some B → β' k = some B) (hs : Same I w w') (hi : ∀ b, I b → I' b)
    (hB : ∀ b s n, B = .at b s n → w'.heap[b]? = w.heap[b]?) (h : OR P β w I o B) : OR P β' w' I' o B := by
  cases B with
  | none => exact h
  | «at» b s n =>
    obtain ⟨h1, c, e, h2, h3, h4⟩ := h
    exact ⟨h1, c, e, (hB b s n rfl).trans h2, h3, ORows.mono hb hs hi _ _ _ _ h4⟩

/-- A new object in a new block. -/
theorem Mem.alloc {i : Nat} {o : AObj} {c : Array Value} {e : TypeId} (h : Mem P w0 O0 β I obj w) (hn : β i = none)
    (hr : ORows P β w I o.rows c 0 o.sz) :
    Step β I w i (ins β i (.at w.heap.size o.sz c.size)) I (w.alloc (.cells c e)) ∧
    Mem P w0 O0 (ins β i (.at w.heap.size o.sz c.size)) I (updo obj [(i, some o)]) (w.alloc (.cells c e)) := by
  have hS : Step β I w i (ins β i (.at w.heap.size o.sz c.size)) I (w.alloc (.cells c e)) :=
    ⟨fun k hk => by simp [ins, hk], ins_ext hn, Same.alloc h.lt _, fun _ h => h⟩
  refine ⟨hS, ?_⟩
  have hne : ∀ k o', obj k = some o' → k ≠ i := fun k o' hk e => by
    obtain ⟨B, hB, _⟩ := h.objs k o' hk
    rw [e, hn] at hB; cases hB
  constructor
  · intro k o' hk
    simp only [updo] at hk
    split at hk
    · injection hk with hk
      subst hk
      rename_i hki
      refine ⟨.at w.heap.size o.sz c.size, by simp [ins, hki], rfl, c, e, ?_, rfl, ORows.mono hS.ext hS.same hS.inc _ _ _ _ hr⟩
      exact heap_alloc_new w _
    · obtain ⟨B, hB, hO⟩ := h.objs k o' hk
      refine ⟨B, ins_ext hn _ _ hB, OR.mono hS.ext hS.same hS.inc (fun b s n hb => ?_) hO⟩
      subst hb
      exact heap_alloc_lt (h.own k o' b s n hk hB).2.1
  · intro k k' o1 o2 b s n s' n' h1 h2 h3 h4
    simp only [updo] at h1 h2
    simp only [ins] at h3 h4
    split at h1 <;> split at h2
    · rename_i a b; rw [a, b]
    · rename_i hki hki'
      simp only [hki, if_true, Option.some.injEq, Blk.at.injEq] at h3
      simp only [hki', if_false] at h4
      have := (h.own k' o2 b s' n' h2 h4).2.1
      omega
    · rename_i hki hki'
      simp only [hki', if_true, Option.some.injEq, Blk.at.injEq] at h4
      simp only [hki, if_false] at h3
      have := (h.own k o1 b s n h1 h3).2.1
      omega
    · rename_i hki hki'
      simp only [hki, hki', if_false] at h3 h4
      exact h.inj k k' o1 o2 b s n s' n' h1 h2 h3 h4
  · intro k o' b s n h1 h2
    simp only [updo] at h1
    simp only [ins] at h2
    split at h1
    · rename_i hki
      simp only [hki, if_true, Option.some.injEq, Blk.at.injEq] at h2
      refine ⟨fun hI => ?_, ?_, .inr ?_⟩
      · have := h.lt b hI; omega
      · simp; omega
      · have := h.le; omega
    · rename_i hki
      simp only [hki, if_false] at h2
      obtain ⟨a, b', c'⟩ := h.own k o' b s n h1 h2
      exact ⟨a, by simp; omega, c'⟩
  · intro b hb; have := h.lt b hb; simp; omega
  · exact h.up
  · intro b hb hO; rw [heap_alloc_lt (by have := h.le; omega)]; exact h.keep b hb hO
  · have := h.le; simp; omega
  · exact h.os
  · exact h.tape
  · exact h.output
  · intro j B hj; exact ins_ext hn _ _ (h.anch j B hj)

/-- One block of the call's own has been written. -/
theorem Mem.write {k : Nat} {o o' : AObj} {b s n : Nat} {c' : Array Value} {e : TypeId} {w' : World} (h : Mem P w0 O0 β I obj w) (hk : obj k = some o) (hβ : β k = some (.at b s n))
    (hnew : w'.heap[b]? = some (.cells c' e (0, 0))) (hother : ∀ b', b' ≠ b → w'.heap[b']? = w.heap[b']?) (hsize : w'.heap.size = w.heap.size) (hos : w'.os = w.os) (htape : w'.tape = w.tape) (hout : w'.output = w.output)
    (hsz : s = o'.sz) (hn : c'.size = n) (hr : ORows P β w I o'.rows c' 0 o'.sz) :
    Same I w w' ∧ Mem P w0 O0 β I (updo obj [(k, some o')]) w' := by
  obtain ⟨hnI, hlt, hO⟩ := h.own k o b s n hk hβ
  have hs : Same I w w' := fun b' hb => hother b' (fun e => hnI (e ▸ hb))
  refine ⟨hs, ?_⟩
  constructor
  · intro j oj hj
    simp only [updo] at hj
    split at hj
    · rename_i hjk
      injection hj with hj
      subst hj
      refine ⟨.at b s n, by rw [hjk]; exact hβ, hsz, c', e, ?_, hn, hsz ▸ ORows.mono (fun _ _ h => h) hs (fun _ h => h) _ _ _ _ hr⟩
      exact hnew
    · rename_i hjk
      obtain ⟨B, hB, hOR⟩ := h.objs j oj hj
      refine ⟨B, hB, OR.mono (fun _ _ h => h) hs (fun _ h => h) (fun b1 s1 n1 e1 => hother b1 (fun e2 => hjk ?_)) hOR⟩
      subst e1; subst e2
      exact h.inj j k oj o b1 s1 n1 s n hj hk hB hβ
  · intro j j' o1 o2 b1 s1 n1 s2 n2 h1 h2 h3 h4
    have hx : ∀ (j : Nat) (o1 : AObj), updo obj [(k, some o')] j = some o1 → ∃ o2, obj j = some o2 := fun j o1 h => by
      simp only [updo] at h
      split at h
      · rename_i e; exact ⟨o, by rw [e]; exact hk⟩
      · exact ⟨_, h⟩
    obtain ⟨p1, q1⟩ := hx j o1 h1
    obtain ⟨p2, q2⟩ := hx j' o2 h2
    exact h.inj j j' p1 p2 b1 s1 n1 s2 n2 q1 q2 h3 h4
  · intro j o1 b1 s1 n1 h1 h2
    have hx : ∃ o2, obj j = some o2 := by
      simp only [updo] at h1
      split at h1
      · rename_i e; exact ⟨o, by rw [e]; exact hk⟩
      · exact ⟨_, h1⟩
    obtain ⟨p1, q1⟩ := hx
    have := h.own j p1 b1 s1 n1 q1 h2
    rw [hsize]; exact this
  · intro b1 hb1; rw [hsize]; exact h.lt b1 hb1
  · exact h.up
  · intro b1 hb1 hno
    rw [hother b1 (fun e1 => ?_)]
    · exact h.keep b1 hb1 hno
    · subst e1
      rcases hO with hO | hO
      · exact hno hO
      · omega
  · rw [hsize]; exact h.le
  · rw [hos]; exact h.os
  · rw [htape]; exact h.tape
  · rw [hout]; exact h.output
  · exact h.anch

/-- An object is given up: nobody reads it any more. -/
theorem Mem.drop (h : Mem P w0 O0 β I obj w) (obj' : Nat → Option AObj) (hsub : ∀ k o, obj' k = some o → obj k = some o) : Mem P w0 O0 β I obj' w :=
  ⟨fun k o hk => h.objs k o (hsub k o hk), fun k k' o o' b s n s' n' h1 h2 => h.inj k k' o o' b s n s' n' (hsub _ _ h1) (hsub _ _ h2), fun k o b s n h1 => h.own k o b s n (hsub _ _ h1), h.lt, h.up, h.keep, h.le, h.os, h.tape, h.output, h.anch⟩

/-- A call has been made that changes nothing that was there. -/
theorem Mem.below {w' : World} {I' : Nat → Prop} (h : Mem P w0 O0 β I obj w) (hb : Below w.heap.size w w') (hi : ∀ b, I b → I' b) (hlt : ∀ b, I' b → b < w'.heap.size) (hI : ∀ b k o s n, I' b → obj k = some o → β k = some (.at b s n) → False) (hup : ∀ b, I' b → O0.imm b ∨ O0.own b ∨ w0.heap.size ≤ b) :
    Same I w w' ∧ Mem P w0 O0 β I' obj w' := by
  have hs : Same I w w' := fun b hb' => hb.block b (h.lt b hb')
  refine ⟨hs, ?_⟩
  constructor
  · intro k o hk
    obtain ⟨B, hB, hO⟩ := h.objs k o hk
    exact ⟨B, hB, OR.mono (fun _ _ h => h) hs hi (fun b s n e => hb.block b (by subst e; exact (h.own k o b s n hk hB).2.1)) hO⟩
  · exact h.inj
  · intro k o b s n h1 h2
    obtain ⟨a, b', c⟩ := h.own k o b s n h1 h2
    exact ⟨fun hb2 => hI b k o s n hb2 h1 h2, Nat.lt_of_lt_of_le b' hb.size, c⟩
  · exact hlt
  · exact hup
  · intro b hb1 hno
    rw [hb.block b (by have := h.le; omega)]
    exact h.keep b hb1 hno
  · have := h.le; have := hb.size; omega
  · rw [hb.os]; exact h.os
  · rw [hb.tape]; exact h.tape
  · rw [hb.output]; exact h.output
  · exact h.anch

/-- Objects told with less. -/
theorem Mem.weak {obj' : Nat → Option AObj} (h : Mem P w0 O0 β I obj w) (ho : ∀ k o', obj' k = some o' → ∃ o, obj k = some o ∧ ∀ B, β k = some B → OR P β w I o B → OR P β w I o' B) : Mem P w0 O0 β I obj' w := by
  constructor
  · intro k o' hk
    obtain ⟨o, h1, h2⟩ := ho k o' hk
    obtain ⟨B, hB, hO⟩ := h.objs k o h1
    exact ⟨B, hB, h2 B hB hO⟩
  · intro k k' o o' b s n s' n' h1 h2
    obtain ⟨q, g1, _⟩ := ho k o h1
    obtain ⟨q', g2, _⟩ := ho k' o' h2
    exact h.inj k k' q q' b s n s' n' g1 g2
  · intro k o b s n h1
    obtain ⟨q, g1, _⟩ := ho k o h1
    exact h.own k q b s n g1
  · exact h.lt
  · exact h.up
  · exact h.keep
  · exact h.le
  · exact h.os
  · exact h.tape
  · exact h.output
  · exact h.anch

theorem OR.wk {o : AObj} {B : Blk} (h : OR P β w I o B) : OR P β w I ⟨o.sz, wkRows o.rows⟩ B := by
  cases B with
  | none => simp only [OR] at h ⊢; simp [wkRows, h]
  | «at» b s n =>
    obtain ⟨h1, c, e, h2, h3, h4⟩ := h
    exact ⟨h1, c, e, h2, h3, ORows.wk _ _ _ _ h4⟩

/-- One object told with less. -/
theorem Mem.wkAt {k : Nat} {sz : Nat} {rows : List (List AV)} (h : Mem P w0 O0 β I (updo obj [(k, some ⟨sz, rows⟩)]) w) : Mem P w0 O0 β I (updo obj [(k, some ⟨sz, wkRows rows⟩)]) w := by
  refine h.weak fun j o' hj => ?_
  simp only [updo] at hj ⊢
  by_cases e : j = k
  · rw [if_pos e] at hj ⊢
    injection hj with hj
    subst hj
    exact ⟨_, rfl, fun B _ hB => OR.wk hB⟩
  · rw [if_neg e] at hj ⊢
    exact ⟨o', hj, fun _ _ h => h⟩

theorem Mem.drew (h : Mem P w0 O0 β I obj w) : Mem P w0 O0 β I obj w.drew := by
  have hb : Below w.heap.size w w.drew := ⟨rfl, rfl, rfl, Nat.le_refl _, fun _ _ => rfl⟩
  exact (h.below hb (fun _ h => h) h.lt (fun b k o s n h1 h2 h3 => (h.own k o b s n h2 h3).1 h1) h.up).2
end
end Go.Gb
