/-
  More operations of the abstract walk, second part.
-/
import Derived.Test.YtgmmcfpjmkhmhaaGV
import Derived.Laws.MakeOwn
namespace Go.Gb
open Go.RowKit

def aMake (T : Tab) (i : Nat) (t : TypeId) (l c : AV) : Option Out :=
  (T t).bind fun ti => match ti.k, l, c with
  | .slice e, .t (.sc (.int _ n)), .t (.sc (.int _ m)) => (T e).bind fun ei =>
      some ⟨.own (nid i) 0 n.toNat, [(nid i, some ⟨ei.size, wkRows (List.replicate n.toNat (ei.zero.map cv))⟩)], [0 ≤ n ∧ n ≤ m ∧ m.toNat * ei.bytes ≤ 140737488355328 ∧ m.toNat ≤ maxLen ∧ 0 < ei.size]⟩
  | _, _, _ => none

def aNilCheck (x : AV) : Option Out :=
  match x with
  | .ptr k r f => pv (.ptr k r f)
  | .rptr r f => pv (.rptr r f)
  | _ => none

def isX2 : Op → Bool
  | .nilCheck _ => true
  | .makeSlice _ _ _ => true
  | _ => false

def absExt2 (T : Tab) (i : Nat) (o : Oper) (_n : Int) (ρ : Operand → AV) (_get : Nat → Option AObj) : Option Out :=
  match o.op with
  | .nilCheck x => aNilCheck (ρ x)
  | .makeSlice t l c => aMake T i t (ρ l) (ρ c)
  | _ => none

def absExtA (T : Tab) (i : Nat) (o : Oper) (n : Int) (ρ : Operand → AV) (get : Nat → Option AObj) : Option Out :=
  bif isX2 o.op then absExt2 T i o n ρ get else absExt T i o n ρ get

section
variable {T : Tab}
theorem absExt2_congr {i : Nat} {o : Oper} {n : Int} {ρ ρ' : Operand → AV} {get : Nat → Option AObj} (h : ∀ x ∈ o.op.operands, ρ x = ρ' x) : absExt2 T i o n ρ get = absExt2 T i o n ρ' get := by
  obtain ⟨dst, op, ty, pos, after, guard⟩ := o
  cases op <;> simp only [Op.operands] at h <;> simp only [absExt2]
  case nilCheck x => rw [h x (by simp)]
  case makeSlice t l c => rw [h l (by simp), h c (by simp)]

theorem absExtA_congr {i : Nat} {o : Oper} {n : Int} {ρ ρ' : Operand → AV} {get : Nat → Option AObj} (h : ∀ x ∈ o.op.operands, ρ x = ρ' x) : absExtA T i o n ρ get = absExtA T i o n ρ' get := by
  unfold absExtA
  rw [absExt_congr h, absExt2_congr h]
end

section
variable {P : Program} {T : Tab} {w0 : World} {O0 : Was} {β : Nat → Option Blk} {I : Nat → Prop} {obj : Nat → Option AObj} {w : World} {i : Nat}

theorem madeCells_get (z : Array Value) (n j : Nat) (h : j < n) : (madeCells z n)[j]? = some (z[j % z.size]!) := by
  simp [madeCells, Array.getElem?_map, h]

theorem aMake_sound (hT : TabOk P T) (h : Mem P w0 O0 β I obj w) (hn : β (nid i) = none) {t : TypeId} {l c : AV} {u v : Value} {out : Out} (ha : aMake T i t l c = some out) (hob : out.ob) (hl : VR P β w I l u) (hc : VR P β w I c v)
    {r : Operand → Value} {x y : Operand} (hu : r x = u) (hv : r y = v) {dst : Option Tmp} {ty : TypeId} {pos : String} {after : Array Edge} {guard : Option (Nat × Bool)} :
    Did P w0 O0 β I obj w i out ((execOp r ⟨dst, .makeSlice t x y, ty, pos, after, guard⟩).run P w) := by
  unfold aMake at ha
  cases hti : T t with
  | none => simp [hti] at ha
  | some ti =>
    simp only [hti, Option.bind_some] at ha
    split at ha
    · rename_i e kl n kc m hkd
      cases hei : T e with
      | none => simp [hei] at ha
      | some ei =>
        simp only [hei, Option.bind_some, Option.some.injEq] at ha
        subst ha
        obtain ⟨n0, nm, m47, m63, mpos⟩ := hob
        simp only [VR, TR] at hl hc
        obtain ⟨rfl, _⟩ := hl
        obtain ⟨rfl, _⟩ := hc
        have he := hT e ei hei
        have hund := kind_slice (hT t ti hti) hkd
        obtain ⟨info, d, z, g1, g2, g3, g4, g5, g6, g7, g8⟩ := he.ex
        obtain ⟨n, rfl⟩ : ∃ n' : Nat, n = (n' : Int) := ⟨n.toNat, by omega⟩
        obtain ⟨m, rfl⟩ : ∃ m' : Nat, m = (m' : Int) := ⟨m.toNat, by omega⟩
        simp only [Int.toNat_natCast] at m47 m63 ⊢
        have hb : (info.bytes : Int) * (m : Int) ≤ 281474976710656 := by
          have : ((info.bytes * m : Nat) : Int) ≤ 281474976710656 := by rw [g4, Nat.mul_comm]; omega
          rwa [Int.natCast_mul] at this
        have hrun := run_make (P := P) w t e info z hund g1 g5 kl kc n m n0 nm hb (by simp only [maxLen] at m63; omega)
        simp only [Int.toNat_natCast, g3] at hrun
        have hzs : z.cells.size = ei.size := by rw [← Array.length_toList, g6]; exact he.len
        have hcs : (madeCells z.cells (m * ei.size)).size = m * ei.size := size_madeCells _ _
        obtain ⟨hS, hM⟩ := Mem.alloc (i := nid i) (o := ⟨ei.size, List.replicate n (ei.zero.map cv)⟩) (c := madeCells z.cells (m * ei.size)) (e := e) h hn (by
          refine ORows.zeros ei.zero ei.size he.len (fun v hv => oneCell_of_B (List.all_eq_true.1 he.one v hv)) n _ 0 (fun i j hi hj => ?_)
          have hlt : 0 + i * ei.size + j < m * ei.size := by
            have : (i + 1) * ei.size ≤ m * ei.size := Nat.mul_le_mul_right _ (by omega)
            rw [Nat.add_mul] at this
            omega
          rw [madeCells_get _ _ _ hlt, hzs]
          have e1 : (0 + i * ei.size + j) % ei.size = j := by rw [Nat.zero_add, Nat.mul_comm, Nat.mul_add_mod, Nat.mod_eq_of_lt hj]
          rw [e1, ← g6, Array.getElem?_toList, getElem!_pos z.cells j (by rw [hzs]; exact hj), Array.getElem?_eq_getElem])
        refine ⟨_, _, _, I, .inl (by simp [execOp, hu, hv, hrun]; rfl), hS, hM.wkAt, ?_⟩
        simp only [VR]
        refine .inr ⟨w.heap.size, ei.size, _, _, 0, by simp [ins]; rfl, rfl, by omega, ?_, by simp⟩
        rw [hcs, Nat.zero_add]; exact Nat.le_refl _
    · cases ha

theorem absExt2_sound (hT : TabOk P T) (h : Mem P w0 O0 β I obj w) (hn : β (nid i) = none) {o : Oper} {n : Int} {ρ : Operand → AV} {get : Nat → Option AObj} {out : Out} (_hg : ∀ k o, get k = some o → obj k = some o)
    {r : Operand → Value} (hρ : ∀ x, VR P β w I (ρ x) (r x)) (ha : absExt2 T i o n ρ get = some out) (hob : out.ob) : Did P w0 O0 β I obj w i out ((execOp r o).run P w) := by
  obtain ⟨dst, op, ty, pos, after, guard⟩ := o
  unfold absExt2 at ha
  split at ha
  · rename_i x heq
    simp only at heq; subst heq
    have hx := hρ x
    unfold aNilCheck at ha
    split at ha
    · rename_i k q f hk
      simp only [pv, Option.some.injEq] at ha
      subst ha
      rw [hk] at hx
      have hx2 := hx
      simp only [VR] at hx2
      obtain ⟨b, sz, m, _, e1⟩ := hx2
      exact ⟨r x, w, β, I, .inl (by simp [execOp, e1]), Step.refl .., h, hx⟩
    · rename_i q f hk
      simp only [pv, Option.some.injEq] at ha
      subst ha
      rw [hk] at hx
      have hx2 := hx
      simp only [VR] at hx2
      obtain ⟨b, o', e1, _⟩ := hx2
      exact ⟨r x, w, β, I, .inl (by simp [execOp, e1]), Step.refl .., h, hx⟩
    · cases ha
  · rename_i t l c heq
    simp only at heq; subst heq
    exact aMake_sound hT h hn ha hob (hρ l) (hρ c) rfl rfl
  · cases ha

theorem absExtA_sound (hT : TabOk P T) (h : Mem P w0 O0 β I obj w) (hn : β (nid i) = none) {o : Oper} {n : Int} {ρ : Operand → AV} {get : Nat → Option AObj} {out : Out} (hg : ∀ k o, get k = some o → obj k = some o)
    {r : Operand → Value} (hρ : ∀ x, VR P β w I (ρ x) (r x)) (ha : absExtA T i o n ρ get = some out) (hob : out.ob) : Did P w0 O0 β I obj w i out ((execOp r o).run P w) := by
  unfold absExtA at ha
  cases hx : isX2 o.op with
  | true => rw [hx] at ha; exact absExt2_sound (n := n) hT h hn hg hρ ha hob
  | false => rw [hx] at ha; exact absExt_sound hT h hn hg hρ ha hob
end
end Go.Gb
