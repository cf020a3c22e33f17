/-
  What a function's contract says in the abstract walk, and how arguments are lent to a call that changes nothing.
-/
import Derived.Test.YtgmmcfpjmkhmhaaGB
namespace Go.Gb
open Go.RowKit

def nob : Nat → Option Blk := fun _ => none

def TV.av : TV → AV
  | .s x => .t x
  | .a cs => .agg (cs.map .t)

/-- One result: a datum, or a slice in memory that nobody else holds, or a slice of the j-th object that was handed in. -/
inductive RC where
  | d (x : TV)
  | fresh (sz : Nat) (rows : List (List Tree))
  | whole (j len : Nat)

inductive RV where
  | one (c : RC)
  | tup (cs : List RC)

def avRows (rows : List (List Tree)) : List (List AV) := rows.map fun r => r.map AV.t

def FreshR (P : Program) (F : Nat → Prop) (sz : Nat) (rows : List (List Tree)) (w : World) (I : Nat → Prop) (v : Value) : Prop :=
  (rows = [] ∧ v = .slice none 0 0) ∨ ∃ b c e cap o, v = .slice (some ⟨b, o, none⟩) rows.length cap ∧ F b ∧ ¬ I b ∧ w.heap[b]? = some (.cells c e (0, 0)) ∧ rows.length ≤ cap ∧ cap * sz ≤ c.size ∧
    ORows P nob w I (avRows rows) c 0 sz ∧ (cap ≠ 0 → o = 0)

def RCR (P : Program) (F : Nat → Prop) (β : Nat → Option Blk) : RC → World → (Nat → Prop) → Value → Prop
  | .d x, w, I, v => TVR w I x v
  | .fresh sz rows, w, I, v => FreshR P F sz rows w I v
  | .whole j len, w, I, v => VR P β w I (.own j 0 len) v

def RCRl (P : Program) (F : Nat → Prop) (β : Nat → Option Blk) : List RC → World → (Nat → Prop) → List Value → Prop
  | [], _, _, [] => True
  | c :: cs, w, I, v :: vs => RCR P F β c w I v ∧ RCRl P F β cs w I vs
  | _, _, _, _ => False

def RVR (P : Program) (F : Nat → Prop) (β : Nat → Option Blk) : RV → World → (Nat → Prop) → Value → Prop
  | .one c, w, I, v => RCR P F β c w I v
  | .tup cs, w, I, v => ∃ vs : Array Value, v = .tuple vs ∧ RCRl P F β cs w I vs.toList

/-- New memory. -/
def newB (w : World) (b : Nat) : Prop := w.heap.size ≤ b

/-- A call of f enters f's body. -/
def Callable (P : Program) (f : FuncId) : Prop := ∃ fn, P.funcs[f]? = some fn ∧ fn.body.isSome = true ∧ (fn.name == "runtime.NumGoroutine") = false

/-- f, called with these data, hands back r and changes nothing that was there. -/
def FnP (P : Program) (f : FuncId) (args : List AV) (r : RV) : Prop :=
  Callable P f ∧ ∀ (w : World) (I : Nat → Prop) (vs : Array Value), (∀ b, I b → b < w.heap.size) → VRl P nob w I args vs.toList → Calls P f vs w (PureRet w I (RVR P (newB w) nob r))

mutual
/-- x, lent to a call, is y there. -/
def Bor (P : Program) (get : Nat → Option AObj) : AV → AV → Prop
  | .t x, y => y = .t x
  | .agg cs, y => ∃ cs', y = .agg cs' ∧ BorL P get cs cs'
  | .tup _, _ => False
  | .own k off len, y => ∃ o trows, get k = some o ∧ y = .t (.sl trows) ∧ (o.rows.drop off).take len = avRows trows ∧ trows.length = len
  | .ptr k row off, y => ∃ o trow, get k = some o ∧ y = .rptr trow off ∧ o.rows[row]? = some (trow.map AV.t)
  | .rptr r o, y => y = .rptr r o
  | .fn f first caps, y => ∃ first' caps', BorL P get first first' ∧ BorL P get caps caps' ∧ (y = .fn f first' caps' ∨
      ∃ φ, y = .clo φ ∧ Callable P f ∧ ∀ args r, φ args r → FnP P f (first' ++ args.map TV.av ++ caps') (.one (.d r)))
  | .clo φ, y => y = .clo φ
  | .nilsl, y => y = .t (.sl []) ∨ y = .nilsl
  | .ub, _ => False
  | .undef, _ => False
def BorL (P : Program) (get : Nat → Option AObj) : List AV → List AV → Prop
  | [], [] => True
  | x :: xs, y :: ys => Bor P get x y ∧ BorL P get xs ys
  | _, _ => False
end

mutual
/-- The objects that a value leads to. -/
def refs : AV → List Nat
  | .own k _ _ => [k]
  | .ptr k _ _ => [k]
  | .agg cs => refsL cs
  | .tup cs => refsL cs
  | .fn _ first caps => refsL first ++ refsL caps
  | _ => []
def refsL : List AV → List Nat
  | [] => []
  | x :: xs => refs x ++ refsL xs
end

/-- The memory of the call's data, with the objects that are lent. -/
def Lent (β : Nat → Option Blk) (obj : Nat → Option AObj) (ids : List Nat) (I : Nat → Prop) (b : Nat) : Prop :=
  I b ∨ ∃ k o s n, k ∈ ids ∧ obj k = some o ∧ β k = some (.at b s n)

theorem Lent.sub {β : Nat → Option Blk} {obj : Nat → Option AObj} {ids ids' : List Nat} {I : Nat → Prop} (h : ∀ k, k ∈ ids → k ∈ ids') : ∀ b, Lent β obj ids I b → Lent β obj ids' I b := by
  intro b hb
  rcases hb with hb | ⟨k, o, s, n, h1, h2⟩
  · exact .inl hb
  · exact .inr ⟨k, o, s, n, h k h1, h2⟩

section
variable {P : Program} {β : Nat → Option Blk} {w : World} {I : Nat → Prop}

theorem ORow.drop : ∀ (n : Nat) (r : List AV) (c : Array Value) (off : Nat), ORow P β w I r c off → ORow P β w I (r.drop n) c (off + n)
  | 0, _, _, _, h => by simpa using h
  | n + 1, [], _, _, _ => by simp [ORow]
  | n + 1, x :: xs, c, off, ⟨_, h⟩ => by
    have := ORow.drop n xs c (off + 1) h
    rw [List.drop_succ_cons, show off + (n + 1) = off + 1 + n by omega]
    exact this
theorem ORow.take : ∀ (n : Nat) (r : List AV) (c : Array Value) (off : Nat), ORow P β w I r c off → ORow P β w I (r.take n) c off
  | 0, _, _, _, _ => by simp [ORow]
  | n + 1, [], _, _, _ => by simp [ORow]
  | n + 1, x :: xs, c, off, ⟨h1, h⟩ => ⟨h1, ORow.take n xs c (off + 1) h⟩
theorem ORows.drop : ∀ (n : Nat) (rs : List (List AV)) (c : Array Value) (off sz : Nat), ORows P β w I rs c off sz → ORows P β w I (rs.drop n) c (off + n * sz) sz
  | 0, _, _, _, _, h => by simpa using h
  | n + 1, [], _, _, _, _ => by simp [ORows]
  | n + 1, r :: rs, c, off, sz, ⟨_, _, h⟩ => by
    have := ORows.drop n rs c (off + sz) sz h
    rw [List.drop_succ_cons, show off + (n + 1) * sz = off + sz + n * sz by rw [Nat.add_mul]; omega]
    exact this
theorem ORows.take : ∀ (n : Nat) (rs : List (List AV)) (c : Array Value) (off sz : Nat), ORows P β w I rs c off sz → ORows P β w I (rs.take n) c off sz
  | 0, _, _, _, _, _ => by simp [ORows]
  | n + 1, [], _, _, _, _ => by simp [ORows]
  | n + 1, r :: rs, c, off, sz, ⟨h1, h2, h⟩ => ⟨h1, h2, ORows.take n rs c (off + sz) sz h⟩
theorem ORows.get : ∀ (i : Nat) (rs : List (List AV)) (c : Array Value) (off sz : Nat) (r : List AV), ORows P β w I rs c off sz → rs[i]? = some r → r.length = sz ∧ ORow P β w I r c (off + i * sz)
  | 0, r :: rs, c, off, sz, r', ⟨h1, h2, _⟩, h => by
    simp at h; subst h; exact ⟨h1, by simpa using h2⟩
  | i + 1, r :: rs, c, off, sz, r', ⟨_, _, h3⟩, h => by
    have := ORows.get i rs c (off + sz) sz r' h3 (by simpa using h)
    rw [show off + (i + 1) * sz = off + sz + i * sz by rw [Nat.add_mul]; omega]
    exact this
  | _, [], _, _, _, _, _, h => by simp at h

/-- A row of data in an own block, read as data. -/
theorem TRow.of_own {I' : Nat → Prop} {b : Nat} {c : Array Value} {e : TypeId} {f : Nat × Nat} (hI : ∀ b, I b → I' b) (hc : w.heap[b]? = some (.cells c e f)) : ∀ (r : List Tree) (off : Nat), ORow P β w I (r.map AV.t) c off → TRow w I' r b off
  | [], _, _ => by simp [TRow]
  | x :: xs, off, ⟨⟨v, h1, h2, _⟩, h3⟩ => by
    simp only [TRow]
    refine ⟨⟨v, ?_, ?_⟩, TRow.of_own hI hc xs (off + 1) h3⟩
    · simp [World.cell?, hc, h1]
    · simp only [VR] at h2
      exact TR.mono (fun _ _ => rfl) hI x v h2
theorem TRows.of_own {I' : Nat → Prop} {b : Nat} {c : Array Value} {e : TypeId} {f : Nat × Nat} (hI : ∀ b, I b → I' b) (hc : w.heap[b]? = some (.cells c e f)) : ∀ (rs : List (List Tree)) (off sz : Nat), ORows P β w I (avRows rs) c off sz → TRows w I' rs b off sz
  | [], _, _, _ => by simp [TRows]
  | r :: rs, off, sz, h => by
    simp only [avRows, List.map_cons, ORows] at h
    simp only [TRows]
    exact ⟨by simpa using h.1, TRow.of_own hI hc r off h.2.1, TRows.of_own hI hc rs (off + sz) sz h.2.2⟩

theorem CloR.of_fn {f : FuncId} {first caps : Array Value} {first' caps' : List AV} {φ : List TV → TV → Prop} (hcall : Callable P f) (hf : VRl P nob w I first' first.toList) (hc : VRl P nob w I caps' caps.toList)
    (h : ∀ args r, φ args r → FnP P f (first' ++ args.map TV.av ++ caps') (.one (.d r))) : CloR P w I φ (.func (.func f) first caps) := by
  obtain ⟨fn, h1, h2, h3⟩ := hcall
  refine ⟨f, first, caps, rfl, fun fn' hfn => ?_, by simp [h1], ?_⟩
  · rw [h1] at hfn; injection hfn with hfn; subst hfn; exact ⟨h2, h3⟩
  · intro w' I' args vs r hI hS hlt hφ ha
    have happ : ∀ (a b : List AV) (u v : List Value), VRl P nob w' I' a u → VRl P nob w' I' b v → VRl P nob w' I' (a ++ b) (u ++ v) := by
      intro a
      induction a with
      | nil => intro b u v h1 h2; cases u with
        | nil => simpa using h2
        | cons => simp [VRl] at h1
      | cons x xs ih => intro b u v h1 h2; cases u with
        | nil => simp [VRl] at h1
        | cons y ys => simp only [VRl] at h1; simp only [List.cons_append, VRl]; exact ⟨h1.1, ih _ _ _ h1.2 h2⟩
    have hargs : ∀ (args : List TV) (vs : List Value), TVRs w' I' args vs → VRl P nob w' I' (args.map TV.av) vs := by
      intro args
      induction args with
      | nil => intro vs h; cases vs with
        | nil => simp [VRl]
        | cons => simp [TVRs] at h
      | cons x xs ih => intro vs h; cases vs with
        | nil => simp [TVRs] at h
        | cons y ys =>
          simp only [TVRs] at h
          simp only [List.map_cons, VRl]
          refine ⟨?_, ih ys h.2⟩
          cases x with
          | s x => simpa [TV.av, VR, TVR] using h.1
          | a cs =>
            obtain ⟨us, rfl, h5⟩ := h.1
            simp only [TV.av, VR]
            refine ⟨us, rfl, ?_⟩
            have : ∀ (cs : List Tree) (us : List Value), TRl w' I' cs us → VRl P nob w' I' (cs.map AV.t) us := by
              intro cs
              induction cs with
              | nil => intro us h; cases us with
                | nil => simp [VRl]
                | cons => simp [TRl] at h
              | cons x xs ih => intro us h; cases us with
                | nil => simp [TRl] at h
                | cons y ys => simp only [TRl] at h; simp only [List.map_cons, VRl, VR]; exact ⟨h.1, ih _ h.2⟩
            exact this cs us.toList h5
    have hm : ∀ k B, nob k = some B → nob k = some B := fun _ _ h => h
    have := (h args r hφ).2 w' I' (first ++ vs ++ caps) hlt (by
      simp only [Array.toList_append]
      exact happ _ _ _ _ (happ _ _ _ _ (VRl.mono hm hS hI _ _ hf) (hargs _ _ ha)) (VRl.mono hm hS hI _ _ hc))
    exact this

variable {w0 : World} {O0 : Was} {obj : Nat → Option AObj}
mutual
/-- What is lent reads as data there. -/
theorem Bor.sound (h : Mem P w0 O0 β I obj w) (ids : List Nat) : ∀ (x y : AV) (v : Value), (∀ k, k ∈ refs x → k ∈ ids) → Bor P obj x y → VR P β w I x v → VR P nob w (Lent β obj ids I) y v
  | .t x, y, v, _, hb, hv => by
    simp only [Bor] at hb; subst hb
    simp only [VR] at hv ⊢
    exact TR.mono (fun _ _ => rfl) (fun _ h => .inl h) x v hv
  | .agg cs, y, v, hk, hb, hv => by
    simp only [Bor] at hb
    obtain ⟨cs', rfl, hb⟩ := hb
    simp only [VR] at hv ⊢
    obtain ⟨vs, rfl, hv⟩ := hv
    exact ⟨vs, rfl, BorL.sound h ids cs cs' vs.toList (by simpa [refs] using hk) hb hv⟩
  | .tup _, _, _, _, hb, _ => by simp [Bor] at hb
  | .own k off len, y, v, hk, hb, hv => by
    simp only [Bor] at hb
    obtain ⟨o, trows, hget, rfl, hrows, hlen⟩ := hb
    simp only [VR] at hv ⊢
    simp only [TR]
    rcases hv with ⟨h1, rfl, h2, h3⟩ | ⟨b, sz, n, cap, a, h1, rfl, h2, h3, h4⟩
    · exact .inl ⟨List.eq_nil_of_length_eq_zero (by omega), none, 0, rfl, fun _ => rfl⟩
    · refine .inr ⟨b, a, cap, sz, by rw [hlen], by omega, .inr ⟨k, o, sz, n, hk k (by simp [refs]), hget, h1⟩, ?_⟩
      by_cases h0 : cap = 0
      · have : trows = [] := List.eq_nil_of_length_eq_zero (by omega)
        subst this; simp [TRows]
      · rw [h4 h0]
        obtain ⟨B, hB, hO⟩ := h.objs k o hget
        rw [h1] at hB; injection hB with hB; subst hB
        obtain ⟨hs, c, e, hc, _, hO⟩ := hO
        have h4 := ORows.take len _ _ _ _ (ORows.drop off _ _ _ _ hO)
        rw [hrows, Nat.zero_add] at h4
        exact TRows.of_own (fun _ h => .inl h) hc trows _ _ h4
  | .ptr k row off, y, v, hk, hb, hv => by
    simp only [Bor] at hb
    obtain ⟨o, trow, hget, rfl, hrow⟩ := hb
    simp only [VR] at hv ⊢
    obtain ⟨b, sz, n, h1, rfl⟩ := hv
    obtain ⟨B, hB, hO⟩ := h.objs k o hget
    rw [h1] at hB; injection hB with hB; subst hB
    obtain ⟨hs, c, e, hc, _, hO⟩ := hO
    have h4 := (ORows.get row _ _ _ _ _ hO hrow).2
    rw [Nat.zero_add] at h4
    exact ⟨b, row * sz, rfl, .inr ⟨k, o, sz, n, hk k (by simp [refs]), hget, h1⟩, TRow.of_own (fun _ h => .inl h) hc trow _ h4⟩
  | .rptr r o, y, v, _, hb, hv => by
    simp only [Bor] at hb; subst hb
    simp only [VR] at hv ⊢
    obtain ⟨b, o', h1, h2, h3⟩ := hv
    exact ⟨b, o', h1, .inl h2, TRow.mono (fun _ _ => rfl) (fun _ h => .inl h) r b o' h2 h3⟩
  | .fn f first caps, y, v, hk, hb, hv => by
    simp only [Bor] at hb
    obtain ⟨first', caps', hb1, hb2, hy⟩ := hb
    simp only [VR] at hv
    obtain ⟨fs, cs, rfl, hv1, hv2⟩ := hv
    have h1 := BorL.sound h ids first first' fs.toList (fun k hk' => hk k (by simp [refs, hk'])) hb1 hv1
    have h2 := BorL.sound h ids caps caps' cs.toList (fun k hk' => hk k (by simp [refs, hk'])) hb2 hv2
    rcases hy with rfl | ⟨φ, rfl, hc, hφ⟩
    · simp only [VR]; exact ⟨fs, cs, rfl, h1, h2⟩
    · simp only [VR]; exact CloR.of_fn hc h1 h2 hφ
  | .clo φ, y, v, _, hb, hv => by
    simp only [Bor] at hb; subst hb
    simp only [VR] at hv ⊢
    exact CloR.mono (fun _ _ => rfl) (fun _ h => .inl h) hv
  | .nilsl, y, v, _, hb, hv => by
    simp only [Bor] at hb
    rcases hb with rfl | rfl
    · simp only [VR] at hv ⊢
      simp only [TR]; exact .inl ⟨trivial, none, 0, hv, fun _ => rfl⟩
    · simpa only [VR] using hv
  | .ub, _, _, _, hb, _ => by simp [Bor] at hb
  | .undef, _, _, _, hb, _ => by simp [Bor] at hb
theorem BorL.sound (h : Mem P w0 O0 β I obj w) (ids : List Nat) : ∀ (xs ys : List AV) (vs : List Value), (∀ k, k ∈ refsL xs → k ∈ ids) → BorL P obj xs ys → VRl P β w I xs vs → VRl P nob w (Lent β obj ids I) ys vs
  | [], [], [], _, _, _ => by simp [VRl]
  | x :: xs, y :: ys, v :: vs, hk, hb, hv => by
    simp only [BorL] at hb
    simp only [VRl] at hv ⊢
    exact ⟨Bor.sound h ids x y v (fun k hk' => hk k (by simp [refsL, hk'])) hb.1 hv.1, BorL.sound h ids xs ys vs (fun k hk' => hk k (by simp [refsL, hk'])) hb.2 hv.2⟩
  | [], _ :: _, _, _, hb, _ => by simp [BorL] at hb
  | _ :: _, [], _, _, hb, _ => by simp [BorL] at hb
  | [], [], _ :: _, _, _, hv => by simp [VRl] at hv
  | _ :: _, _ :: _, [], _, _, hv => by simp [VRl] at hv
end
end
end Go.Gb
