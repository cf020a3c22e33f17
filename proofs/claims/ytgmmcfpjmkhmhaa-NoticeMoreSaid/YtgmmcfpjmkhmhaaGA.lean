/-
  The values of the abstract walk: data that nobody writes as trees, memory of the call's own as objects; how they stand for the model's values in a world; that they go on standing for them while the world grows.
-/
import Derived.Calls
import Derived.Below
import Derived.Orders
namespace Go.Gb
open Go.RowKit

/-- A datum in one cell: a scalar, or a slice that nobody writes, as its rows of cells (nil and empty are one, wherever the empty one lies). -/
inductive Tree where
  | sc (v : Value)
  | sl (rows : List (List Tree))

/-- A datum as a value: in one cell, or an aggregate of cells. -/
inductive TV where
  | s (x : Tree)
  | a (cs : List Tree)

/-- What a slot holds in the abstract walk; 'ub': some boolean. -/
inductive AV where
  | t (x : Tree)
  | agg (cs : List AV)
  | tup (vs : List AV)
  | own (k : Nat) (off len : Nat)
  | ptr (k : Nat) (row off : Nat)
  | rptr (row : List Tree) (off : Nat)
  | fn (f : FuncId) (first caps : List AV)
  | clo (φ : List TV → TV → Prop)
  | nilsl
  | ub
  | undef

/-- Memory of the call's own: rows of cells, each row of 'sz' cells. -/
structure AObj where
  sz : Nat
  rows : List (List AV)

/-- Where an object lies: nowhere (a nil slice), or in a block of n cells. -/
inductive Blk where
  | none
  | at (b sz n : Nat)

def oneCell : Value → Prop
  | .agg _ | .tuple _ => False
  | _ => True

section
variable (w : World) (I : Nat → Prop)
mutual
def TR : Tree → Value → Prop
  | .sc v, u => u = v ∧ oneCell v
  | .sl rows, u => (rows = [] ∧ ∃ a cap, u = .slice a 0 cap ∧ (a = none → cap = 0)) ∨ ∃ b off cap sz, u = .slice (some ⟨b, off, none⟩) rows.length cap ∧ rows.length ≤ cap ∧ I b ∧ TRows rows b off sz
def TRows : List (List Tree) → Nat → Nat → Nat → Prop
  | [], _, _, _ => True
  | r :: rs, b, off, sz => r.length = sz ∧ TRow r b off ∧ TRows rs b (off + sz) sz
def TRow : List Tree → Nat → Nat → Prop
  | [], _, _ => True
  | x :: xs, b, off => (∃ c, w.cell? ⟨b, off, none⟩ = some c ∧ TR x c) ∧ TRow xs b (off + 1)
end

/-- Cells against values, one by one. -/
def TRl : List Tree → List Value → Prop
  | [], [] => True
  | x :: xs, v :: vs => TR w I x v ∧ TRl xs vs
  | _, _ => False

def TVR : TV → Value → Prop
  | .s x, v => TR w I x v
  | .a cs, v => ∃ vs : Array Value, v = .agg vs ∧ TRl w I cs vs.toList

def TVRs : List TV → List Value → Prop
  | [], [] => True
  | x :: xs, v :: vs => TVR w I x v ∧ TVRs xs vs
  | _, _ => False
end

/-- Every block of I reads in w' as in w. -/
def Same (I : Nat → Prop) (w w' : World) : Prop := ∀ b, I b → w'.heap[b]? = w.heap[b]?

theorem Same.cell {I : Nat → Prop} {w w' : World} (h : Same I w w') {b off : Nat} (hb : I b) : w'.cell? ⟨b, off, none⟩ = w.cell? ⟨b, off, none⟩ := by
  simp only [World.cell?, h b hb]

mutual
theorem TR.mono {w w' : World} {I I' : Nat → Prop} (hs : Same I w w') (hi : ∀ b, I b → I' b) : ∀ (x : Tree) (v : Value), TR w I x v → TR w' I' x v
  | .sc _, _, h => by simpa [TR] using h
  | .sl rows, v, h => by
    simp only [TR] at h ⊢
    rcases h with h | ⟨b, off, cap, sz, h1, h2, h3, h4⟩
    · exact .inl h
    · exact .inr ⟨b, off, cap, sz, h1, h2, hi _ h3, TRows.mono hs hi rows b off sz h3 h4⟩
theorem TRows.mono {w w' : World} {I I' : Nat → Prop} (hs : Same I w w') (hi : ∀ b, I b → I' b) : ∀ (rows : List (List Tree)) (b off sz : Nat), I b → TRows w I rows b off sz → TRows w' I' rows b off sz
  | [], _, _, _, _, _ => by simp [TRows]
  | r :: rs, b, off, sz, hb, h => by
    simp only [TRows] at h ⊢
    exact ⟨h.1, TRow.mono hs hi r b off hb h.2.1, TRows.mono hs hi rs b (off + sz) sz hb h.2.2⟩
theorem TRow.mono {w w' : World} {I I' : Nat → Prop} (hs : Same I w w') (hi : ∀ b, I b → I' b) : ∀ (r : List Tree) (b off : Nat), I b → TRow w I r b off → TRow w' I' r b off
  | [], _, _, _, _ => by simp [TRow]
  | x :: xs, b, off, hb, h => by
    simp only [TRow] at h ⊢
    obtain ⟨⟨c, hc, hx⟩, h2⟩ := h
    exact ⟨⟨c, by rw [hs.cell hb]; exact hc, TR.mono hs hi x c hx⟩, TRow.mono hs hi xs b (off + 1) hb h2⟩
end

theorem TRl.mono {w w' : World} {I I' : Nat → Prop} (hs : Same I w w') (hi : ∀ b, I b → I' b) : ∀ (xs : List Tree) (vs : List Value), TRl w I xs vs → TRl w' I' xs vs
  | [], [], _ => trivial
  | x :: xs, v :: vs, h => ⟨TR.mono hs hi x v h.1, TRl.mono hs hi xs vs h.2⟩
  | [], _ :: _, h => h.elim
  | _ :: _, [], h => h.elim

theorem TVR.mono {w w' : World} {I I' : Nat → Prop} (hs : Same I w w') (hi : ∀ b, I b → I' b) : ∀ (x : TV) (v : Value), TVR w I x v → TVR w' I' x v
  | .s x, v, h => TR.mono hs hi x v h
  | .a cs, _, ⟨vs, h1, h2⟩ => ⟨vs, h1, TRl.mono hs hi cs vs.toList h2⟩

theorem TVRs.mono {w w' : World} {I I' : Nat → Prop} (hs : Same I w w') (hi : ∀ b, I b → I' b) : ∀ (xs : List TV) (vs : List Value), TVRs w I xs vs → TVRs w' I' xs vs
  | [], [], _ => trivial
  | x :: xs, v :: vs, h => ⟨TVR.mono hs hi x v h.1, TVRs.mono hs hi xs vs h.2⟩
  | [], _ :: _, h => h.elim
  | _ :: _, [], h => h.elim

/-- A call that changes nothing that was there: what it hands back is in memory of I, or in new memory. -/
def PureRet (w : World) (I : Nat → Prop) (R : World → (Nat → Prop) → Value → Prop) (e : Ending) (w' : World) : Prop :=
  ∃ v I', e = .returned v ∧ Below w.heap.size w w' ∧ (∀ b, I b → I' b) ∧ (∀ b, I' b → b < w'.heap.size) ∧ (∀ b, I' b → I b ∨ w.heap.size ≤ b) ∧ R w' I' v

/-- A function value that answers as φ, in this world and in every later one. -/
def CloR (P : Program) (w : World) (I : Nat → Prop) (φ : List TV → TV → Prop) (v : Value) : Prop :=
  ∃ (f : FuncId) (first caps : Array Value), v = .func (.func f) first caps ∧
    (∀ fn, P.funcs[f]? = some fn → fn.body.isSome = true ∧ (fn.name == "runtime.NumGoroutine") = false) ∧ (P.funcs[f]?).isSome = true ∧
    ∀ (w' : World) (I' : Nat → Prop) (args : List TV) (vs : Array Value) (r : TV), (∀ b, I b → I' b) → Same I w w' → (∀ b, I' b → b < w'.heap.size) →
      φ args r → TVRs w' I' args vs.toList → Calls P f (first ++ vs ++ caps) w' (PureRet w' I' fun w'' I'' u => TVR w'' I'' r u)

section
variable (P : Program) (β : Nat → Option Blk) (w : World) (I : Nat → Prop)
mutual
def VR : AV → Value → Prop
  | .t x, v => TR w I x v
  | .agg cs, v => ∃ vs : Array Value, v = .agg vs ∧ VRl cs vs.toList
  | .tup cs, v => ∃ vs : Array Value, v = .tuple vs ∧ VRl cs vs.toList
  | .own k off len, v => (β k = some .none ∧ v = .slice none 0 0 ∧ off = 0 ∧ len = 0) ∨
      ∃ b sz n cap o, β k = some (.at b sz n) ∧ v = .slice (some ⟨b, o, none⟩) len cap ∧ len ≤ cap ∧ (off + cap) * sz ≤ n ∧ (cap ≠ 0 → o = off * sz)
  | .ptr k row off, v => ∃ b sz n, β k = some (.at b sz n) ∧ v = .pointer (some ⟨b, row * sz + off, none⟩)
  | .rptr row off, v => ∃ b o, v = .pointer (some ⟨b, o + off, none⟩) ∧ I b ∧ TRow w I row b o
  | .fn f first caps, v => ∃ fs cs : Array Value, v = .func (.func f) fs cs ∧ VRl first fs.toList ∧ VRl caps cs.toList
  | .clo φ, v => CloR P w I φ v
  | .nilsl, v => v = .slice none 0 0
  | .ub, v => ∃ b, v = .bool b
  | .undef, _ => True
def VRl : List AV → List Value → Prop
  | [], [] => True
  | x :: xs, v :: vs => VR x v ∧ VRl xs vs
  | _, _ => False
end

def ORow : List AV → Array Value → Nat → Prop
  | [], _, _ => True
  | x :: xs, c, off => (∃ v, c[off]? = some v ∧ VR P β w I x v ∧ oneCell v) ∧ ORow xs c (off + 1)
def ORows : List (List AV) → Array Value → Nat → Nat → Prop
  | [], _, _, _ => True
  | r :: rs, c, off, sz => r.length = sz ∧ ORow P β w I r c off ∧ ORows rs c (off + sz) sz

/-- An object in its block: the block is the call's own to write. -/
def OR (o : AObj) : Blk → Prop
  | .none => o.rows = []
  | .at b sz n => sz = o.sz ∧ ∃ c e, w.heap[b]? = some (.cells c e (0, 0)) ∧ c.size = n ∧ ORows P β w I o.rows c 0 sz
end

theorem CloR.mono {P : Program} {w w' : World} {I I' : Nat → Prop} (hs : Same I w w') (hi : ∀ b, I b → I' b) {φ : List TV → TV → Prop} {v : Value} (h : CloR P w I φ v) : CloR P w' I' φ v := by
  obtain ⟨f, first, caps, h1, h2, h3, h4⟩ := h
  exact ⟨f, first, caps, h1, h2, h3, fun w2 I2 args vs r hi2 hs2 hlt hφ ha => h4 w2 I2 args vs r (fun b h => hi2 b (hi b h)) (fun b h => (hs2 b (hi b h)).trans (hs b h)) hlt hφ ha⟩
mutual
theorem VR.mono {P : Program} {β β' : Nat → Option Blk} {w w' : World} {I I' : Nat → Prop} (hb : ∀ k B, β k = some B → β' k = some B) (hs : Same I w w') (hi : ∀ b, I b → I' b) : ∀ (x : AV) (v : Value), VR P β w I x v → VR P β' w' I' x v
  | .t x, v, h => by simp only [VR] at h ⊢; exact TR.mono hs hi x v h
  | .agg cs, v, h => by
    simp only [VR] at h ⊢
    obtain ⟨vs, h1, h2⟩ := h
    exact ⟨vs, h1, VRl.mono hb hs hi cs vs.toList h2⟩
  | .tup cs, v, h => by
    simp only [VR] at h ⊢
    obtain ⟨vs, h1, h2⟩ := h
    exact ⟨vs, h1, VRl.mono hb hs hi cs vs.toList h2⟩
  | .own k off len, v, h => by
    simp only [VR] at h ⊢
    rcases h with ⟨h1, h2⟩ | ⟨b, sz, n, cap, o, h1, h2⟩
    · exact .inl ⟨hb _ _ h1, h2⟩
    · exact .inr ⟨b, sz, n, cap, o, hb _ _ h1, h2⟩
  | .ptr k row off, v, h => by
    simp only [VR] at h ⊢
    obtain ⟨b, sz, n, h1, h2⟩ := h
    exact ⟨b, sz, n, hb _ _ h1, h2⟩
  | .rptr row off, v, h => by
    simp only [VR] at h ⊢
    obtain ⟨b, o, h1, h2, h3⟩ := h
    exact ⟨b, o, h1, hi _ h2, TRow.mono hs hi row b o h2 h3⟩
  | .fn f first caps, v, h => by
    simp only [VR] at h ⊢
    obtain ⟨fs, cs, h1, h2, h3⟩ := h
    exact ⟨fs, cs, h1, VRl.mono hb hs hi first fs.toList h2, VRl.mono hb hs hi caps cs.toList h3⟩
  | .clo φ, v, h => by simp only [VR] at h ⊢; exact CloR.mono hs hi h
  | .nilsl, v, h => by simpa [VR] using h
  | .ub, v, h => by simpa [VR] using h
  | .undef, _, _ => by simp [VR]
theorem VRl.mono {P : Program} {β β' : Nat → Option Blk} {w w' : World} {I I' : Nat → Prop} (hb : ∀ k B, β k = some B → β' k = some B) (hs : Same I w w') (hi : ∀ b, I b → I' b) : ∀ (xs : List AV) (vs : List Value), VRl P β w I xs vs → VRl P β' w' I' xs vs
  | [], [], _ => by simp [VRl]
  | x :: xs, v :: vs, h => by simp only [VRl] at h ⊢; exact ⟨VR.mono hb hs hi x v h.1, VRl.mono hb hs hi xs vs h.2⟩
  | [], _ :: _, h => by simp [VRl] at h
  | _ :: _, [], h => by simp [VRl] at h
end

/-- nil, as data. -/
def wk : AV → AV
  | .nilsl => .t (.sl [])
  | x => x
def wkRows (rows : List (List AV)) : List (List AV) := rows.map fun r => r.map wk

theorem VR.wk {P : Program} {β : Nat → Option Blk} {w : World} {I : Nat → Prop} {x : AV} {v : Value} (h : VR P β w I x v) : VR P β w I (wk x) v := by
  cases x <;> simp only [Gb.wk] <;> try exact h
  simp only [VR] at h ⊢
  simp only [TR]
  exact .inl ⟨trivial, none, 0, h, fun _ => rfl⟩

theorem ORow.wk {P : Program} {β : Nat → Option Blk} {w : World} {I : Nat → Prop} : ∀ (r : List AV) (c : Array Value) (off : Nat), ORow P β w I r c off → ORow P β w I (r.map Gb.wk) c off
  | [], _, _, _ => trivial
  | _ :: xs, c, off, ⟨⟨v, h1, h2, h3⟩, h4⟩ => ⟨⟨v, h1, h2.wk, h3⟩, ORow.wk xs c (off + 1) h4⟩
theorem ORows.wk {P : Program} {β : Nat → Option Blk} {w : World} {I : Nat → Prop} : ∀ (rs : List (List AV)) (c : Array Value) (off sz : Nat), ORows P β w I rs c off sz → ORows P β w I (wkRows rs) c off sz
  | [], _, _, _, _ => trivial
  | r :: rs, c, off, sz, ⟨h1, h2, h3⟩ => ⟨by simpa using h1, ORow.wk r c off h2, ORows.wk rs c (off + sz) sz h3⟩

theorem ORow.mono {P : Program} {β β' : Nat → Option Blk} {w w' : World} {I I' : Nat → Prop} (hb : ∀ k B, β k = some B → β' k = some B) (hs : Same I w w') (hi : ∀ b, I b → I' b) : ∀ (r : List AV) (c : Array Value) (off : Nat), ORow P β w I r c off → ORow P β' w' I' r c off
  | [], _, _, _ => trivial
  | x :: xs, c, off, ⟨⟨v, h1, h2, h3⟩, h4⟩ => ⟨⟨v, h1, VR.mono hb hs hi x v h2, h3⟩, ORow.mono hb hs hi xs c (off + 1) h4⟩
theorem ORows.mono {P : Program} {β β' : Nat → Option Blk} {w w' : World} {I I' : Nat → Prop} (hb : ∀ k B, β k = some B → β' k = some B) (hs : Same I w w') (hi : ∀ b, I b → I' b) : ∀ (rs : List (List AV)) (c : Array Value) (off sz : Nat), ORows P β w I rs c off sz → ORows P β' w' I' rs c off sz
  | [], _, _, _, _ => trivial
  | r :: rs, c, off, sz, ⟨h1, h2, h3⟩ => ⟨h1, ORow.mono hb hs hi r c off h2, ORows.mono hb hs hi rs c (off + sz) sz h3⟩
end Go.Gb
