/-
  Each operation of the abstract walk is what the model's operation does: parts of slices, append.
-/
import Derived.Test.YtgmmcfpjmkhmhaaGI
namespace Go.Gb
open Go.RowKit

section
variable {P : Program} {T : Tab} {w0 : World} {O0 : Was} {β : Nat → Option Blk} {I : Nat → Prop} {obj : Nat → Option AObj} {w : World} {i : Nat}

theorem bnd_sound {d n : Int} {x : Option AV} {v : Option Value} (h : bnd d x = some n) (hx : ∀ y, x = some y → ∃ u, v = some u ∧ VR P β w I y u) (h0 : x = none → v = none) : (v = none ∧ n = d) ∨ ∃ k, v = some (.int k n) := by
  cases x with
  | none => simp only [bnd, Option.some.injEq] at h; exact .inl ⟨h0 rfl, h.symm⟩
  | some y =>
    obtain ⟨u, rfl, hu⟩ := hx y rfl
    unfold bnd at h
    split at h
    · cases ‹some _ = none›
    · rename_i k m heq
      injection heq with heq; subst heq
      injection h with h; subst h
      simp only [VR, TR] at hu
      exact .inr ⟨k, by rw [hu.1]⟩
    · cases h

theorem run_sliceBounds {lov hiv : Option Value} {l hh : Int} {len cap : Nat} (h1 : (lov = none ∧ l = 0) ∨ ∃ k, lov = some (.int k l)) (h2 : (hiv = none ∧ hh = (len : Int)) ∨ ∃ k, hiv = some (.int k hh)) (g0 : 0 ≤ l) (g1 : l ≤ hh) (g2 : hh ≤ (cap : Int)) :
    (Instr.sliceBounds true len cap lov hiv none).run P w = .ok (l.toNat, hh.toNat, cap) w := by
  have hb : ∀ (k : IntKind) (n : Int) (y : Nat) code, 0 ≤ n → n ≤ (y : Int) → (Instr.sliceBound (.int k n) y code).run P w = .ok n.toNat w := fun k n y code a b => by
    simp [Instr.sliceBound, asIntOf, a, b]
  rcases h1 with ⟨rfl, rfl⟩ | ⟨k, rfl⟩ <;> rcases h2 with ⟨rfl, rfl⟩ | ⟨k', rfl⟩
  · simp [Instr.sliceBounds]
  · simp [Instr.sliceBounds, hb k' hh cap _ (by omega) g2]
  · simp [Instr.sliceBounds, hb k l len _ g0 g1]
  · have h3 := fun code => hb k l hh.toNat code g0 (by omega)
    simp [Instr.sliceBounds, hb k' hh cap _ (by omega) g2, h3]

theorem aSlice_sound (hT : TabOk P T) (h : Mem P w0 O0 β I obj w) {t : TypeId} {x : AV} {lo hi : Option AV} {orc : Orc} {get : Nat → Option AObj} {out : Out} {v : Value} {lov hiv : Option Value} (hg : ∀ k o, get k = some o → obj k = some o)
    (ha : aSlice T t x lo hi orc get = some out) (hob : out.ob) (hx : VR P β w I x v) (hlo : ∀ x, lo = some x → ∃ v, lov = some v ∧ VR P β w I x v) (hlo0 : lo = none → lov = none) (hhi : ∀ x, hi = some x → ∃ v, hiv = some v ∧ VR P β w I x v) (hhi0 : hi = none → hiv = none) :
    ∃ u, (Instr.sliceAt t v lov hiv none).run P w = .ok u w ∧ VR P β w I out.v u ∧ out.upd = [] := by
  unfold aSlice at ha
  cases hti : T t with
  | none => simp [hti] at ha
  | some ti =>
    have ht := hT t ti hti
    simp only [hti, Option.bind_some] at ha
    split at ha
    · rename_i e hkd
      cases hei : T e with
      | none => simp [hei] at ha
      | some ei =>
        have he := hT e ei hei
        simp only [hei, Option.bind_some] at ha
        have hund := kind_slice ht hkd
        have hrun : ∀ (a : Option Addr) (len cap : Nat) (l hh : Int), bnd 0 lo = some l → bnd len hi = some hh → 0 ≤ l → l ≤ hh → hh ≤ (cap : Int) →
            (Instr.sliceAt t (.slice a len cap) lov hiv none).run P w = .ok (.slice (if cap = l.toNat then a else a.map (·.add (l.toNat * ei.size))) (hh.toNat - l.toNat) (cap - l.toNat)) w := by
          intro a len cap l hh b1 b2 b3 b4 b5
          have := run_sliceBounds (P := P) (w := w) (len := len) (cap := cap) (bnd_sound b1 hlo hlo0) (bnd_sound b2 hhi hhi0) b3 b4 b5
          simp only [Instr.sliceAt, Instr.slice, Sem.run_bind, run_underlying hund, Result.andThen_ok, this, he.size (w := w), Sem.run_pure]
        cases x <;> try simp only [reduceCtorEq] at ha
        case own k off len =>
          cases hk : get k with
          | none => simp [hk] at ha
          | some o =>
            simp only [hk, Option.bind_some] at ha
            split at ha
            · rename_i hsz
              cases hl : bnd 0 lo with
              | none => simp [hl] at ha
              | some l =>
                cases hh : bnd len hi with
                | none => simp [hl, hh] at ha
                | some r =>
                  simp only [hl, hh, Option.bind_some, pvo, Option.some.injEq] at ha
                  subst ha
                  obtain ⟨b1, b2, b3⟩ := hob
                  simp only [VR] at hx ⊢
                  rcases hx with ⟨h1, rfl, h2, h3⟩ | ⟨b, sz, m, cap, a, h1, rfl, h2, h3, h4⟩
                  · subst h3
                    subst h2
                    have hr : r = 0 := by omega
                    have hl0 : l = 0 := by omega
                    subst hr; subst hl0
                    refine ⟨_, hrun _ _ _ _ _ hl hh b1 b2 (by omega), .inl ⟨h1, by simp, by simp, by simp⟩, trivial⟩
                  · refine ⟨_, hrun _ _ _ _ _ hl hh b1 b2 (by omega), .inr ⟨b, sz, m, cap - l.toNat, if cap = l.toNat then a else a + l.toNat * ei.size, h1, ?_, by omega, ?_, ?_⟩, trivial⟩
                    · split
                      · rfl
                      · simp [addr_add]
                    · have : off + l.toNat + (cap - l.toNat) = off + cap := by omega
                      rw [this]; exact h3
                    · intro hc
                      have hcl : ¬ cap = l.toNat := by omega
                      rw [if_neg hcl, h4 (by omega)]
                      obtain ⟨B, hB, hO⟩ := h.objs k o (hg k o hk)
                      rw [h1] at hB; injection hB with hB; subst hB
                      have hs : sz = o.sz := hO.1
                      rw [hs, hsz, Nat.add_mul]
            · cases ha
        case t x =>
          cases x <;> simp only [reduceCtorEq] at ha
          case sl rows =>
            cases orc <;> simp only [reduceCtorEq] at ha
            case tsub rs =>
              cases hl : bnd 0 lo with
              | none => simp [hl] at ha
              | some l =>
                cases hh : bnd rows.length hi with
                | none => simp [hl, hh] at ha
                | some r =>
                  simp only [hl, hh, Option.bind_some, pvo, Option.some.injEq] at ha
                  subst ha
                  obtain ⟨b1, b2, b3, hrs, hall⟩ := hob
                  simp only [VR, TR] at hx ⊢
                  have hlen : rs.length = r.toNat - l.toNat := by rw [hrs]; simp only [List.length_take, List.length_drop]; omega
                  rcases hx with ⟨rfl, a, cap, rfl, hac⟩ | ⟨b, off, cap, sz, rfl, h1, h2, h3⟩
                  · simp only [List.length_nil] at b3
                    have hr : r = 0 := by omega
                    have hl0 : l = 0 := by omega
                    subst hr; subst hl0
                    refine ⟨_, hrun _ _ _ _ _ hl hh b1 b2 (by omega), .inl ⟨by rw [hrs]; simp, a.map (·.add 0), cap, ?_, fun h0 => hac (by simpa using h0)⟩, trivial⟩
                    by_cases hc : cap = 0
                    · subst hc; cases a <;> simp [Addr.add]
                    · simp [hc]
                  · refine ⟨_, hrun _ _ _ _ _ hl hh b1 b2 (by omega), .inr ⟨b, if cap = l.toNat then off else off + l.toNat * ei.size, cap - l.toNat, sz, ?_, by omega, h2, ?_⟩, trivial⟩
                    · rw [hlen]
                      split
                      · rfl
                      · simp [addr_add]
                    · by_cases hc : cap = l.toNat
                      · have : rs = [] := List.eq_nil_of_length_eq_zero (by omega)
                        rw [this]; simp [TRows]
                      · rw [if_neg hc, hrs]
                        have hd : ∀ (n : Nat) (rows : List (List Tree)) (off : Nat), TRows w I rows b off sz → TRows w I (rows.drop n) b (off + n * sz) sz := by
                          intro n
                          induction n with
                          | zero => intro rows off h; simpa using h
                          | succ n ih =>
                            intro rows off h
                            cases rows with
                            | nil => simp [TRows]
                            | cons r rs =>
                              simp only [TRows] at h
                              rw [List.drop_succ_cons, show off + (n + 1) * sz = off + sz + n * sz by rw [Nat.add_mul]; omega]
                              exact ih rs _ h.2.2
                        have htk : ∀ (n : Nat) (rows : List (List Tree)) (off : Nat), TRows w I rows b off sz → TRows w I (rows.take n) b off sz := by
                          intro n
                          induction n with
                          | zero => intro rows off h; simp [TRows]
                          | succ n ih =>
                            intro rows off h
                            cases rows with
                            | nil => simp [TRows]
                            | cons r rs =>
                              simp only [TRows] at h
                              simp only [List.take_succ_cons, TRows]
                              exact ⟨h.1, h.2.1, ih rs _ h.2.2⟩
                        by_cases hne : rows = []
                        · subst hne; simp [TRows]
                        · obtain ⟨r0, rest, rfl⟩ := List.exists_cons_of_ne_nil hne
                          have hsz : ei.size = sz := by
                            have e1 := hall r0 (by simp)
                            simp only [TRows] at h3
                            omega
                          rw [hsz]
                          exact htk _ _ _ (hd _ _ _ h3)
    · cases ha
end
end Go.Gb
