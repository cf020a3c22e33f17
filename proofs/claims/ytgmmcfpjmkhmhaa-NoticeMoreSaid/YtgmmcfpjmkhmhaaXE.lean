/-
  The typed walk's append; all operations together.
-/
import Derived.Test.YtgmmcfpjmkhmhaaXD
namespace Go.Gb
open Go.RowKit

section
variable {X : SX} {A : Type} {T : Tab} {code : TypeId → Option (CT X.ι)} {get : Nat → Option (DObj X)} {k : KK X A} {r : A} {i : Nat}

theorem castL_den {b c : CT X.ι} {l : List (CT.T X.toSE b)} {l' : List (CT.T X.toSE c)} (h : castC (.sl b) (.sl c) l = some l') : CT.sz X b = CT.sz X c ∧ l.map (CT.row X.toSE b) = l'.map (CT.row X.toSE c) := by
  obtain ⟨e, h⟩ := castC_some h
  injection e with e
  subst e; subst h
  exact ⟨rfl, rfl⟩

theorem restr_get' {rd : List Nat} {j : Nat} {o : DObj X} (hj : j ∈ rd) (h : get j = some o) : restr rd (aget get) j = some (denO o) := restr_get hj h

theorem srcD_den {y : DV X} {c : CT X.ι} {n : Nat} {l : List (CT.T X.toSE c)} {rd : List Nat} (h : srcD y c get = some (n, l, rd)) (hl : l.length = n) (rd' : List Nat) (hrd : ∀ j ∈ rd, j ∈ rd') :
    ∃ ob, srcOf (CT.sz X c) (den y) (restr rd' (aget get)) = some (n, ob, avRows (l.map (CT.row X.toSE c))) ∧ ob := by
  unfold srcD at h
  split at h
  · rename_i kk off len
    rw [Option.bind_eq_some_iff] at h; obtain ⟨o, h1, h⟩ := h
    split at h
    · rename_i b l0
      rw [Option.bind_eq_some_iff] at h; obtain ⟨l1, h2, h⟩ := h
      injection h with h
      simp only [Prod.mk.injEq] at h
      obtain ⟨rfl, rfl, rfl⟩ := h
      obtain ⟨h3, h4⟩ := castL_den h2
      refine ⟨True, ?_, trivial⟩
      simp only [den, srcOf, restr_get (hrd kk (by simp)) h1, Option.bind_some, denO]
      rw [if_pos h3]
      simp only [h4, Option.some.injEq, Prod.mk.injEq, true_and]
      simp [avRows, sub, List.map_take, List.map_drop]
    · cases h
  · rename_i b l0
    rw [Option.bind_eq_some_iff] at h; obtain ⟨l1, h2, h⟩ := h
    injection h with h
    simp only [Prod.mk.injEq] at h
    obtain ⟨rfl, rfl, rfl⟩ := h
    refine ⟨∀ q ∈ l1.map (CT.row X.toSE c), q.length = CT.sz X c, ?_, ?_⟩
    · rw [(castC_den h2).1]
      simp only [den, CT.tv, TV.av, srcOf, List.length_map]
    · intro q hq
      obtain ⟨z, _, rfl⟩ := List.mem_map.1 hq
      exact row_sz c z
  · cases h

theorem appOk_spec {lo len ln n bytes : Nat} (h : appOk lo len ln n bytes = true) : lo = len ∧ ln = n ∧ (len + n) * bytes ≤ 140737488355328 ∧ len + n ≤ maxLen := by
  simpa [appOk, and_assoc] using h

theorem appendD_sound {t : TypeId} {x y : DV X} (h : appendD T code i t x y get k = some r) : ∃ orc rd wr dv upd out, aAppend T i t (den x) (den y) orc (restr rd (aget get)) = some out ∧ AllP out.obs ∧ out.v = den dv ∧ out.upd = denU upd ∧ (∀ p ∈ upd, p.1 = nid i ∨ p.1 ∈ wr) ∧ k dv upd rd wr = some r := by
  unfold appendD at h
  unfold aAppend
  rw [Option.bind_eq_some_iff] at h; obtain ⟨ti, h1, h⟩ := h
  simp only [h1, Option.bind_some]
  split at h
  · rename_i e hk
    rw [Option.bind_eq_some_iff] at h; obtain ⟨ei, h2, h⟩ := h
    rw [Option.bind_eq_some_iff] at h; obtain ⟨c, h3, h⟩ := h
    simp only [hk, h2, Option.bind_some]
    split at h
    · rename_i hs
      rw [Option.bind_eq_some_iff] at h; obtain ⟨⟨n, l, rd⟩, h4, h⟩ := h
      split at h
      · rename_i kk len
        rw [Option.bind_eq_some_iff] at h; obtain ⟨o, h5, h⟩ := h
        split at h
        · rename_i b l0
          rw [Option.bind_eq_some_iff] at h; obtain ⟨l1, h6, h⟩ := h
          obtain ⟨h7, h⟩ := cond_some h
          obtain ⟨g1, g2, g3, g4⟩ := appOk_spec h7
          obtain ⟨h8, h9⟩ := castL_den h6
          obtain ⟨ob, i1, i2⟩ := srcD_den h4 g2 (kk :: rd) (fun j hj => by simp [hj])
          have i3 := restr_get (rd := kk :: rd) (by simp) h5
          refine ⟨.rows (avRows ((l1 ++ l).map (CT.row X.toSE c))), kk :: rd, [kk], _, _, ⟨.own (nid i) 0 (avRows ((l1 ++ l).map (CT.row X.toSE c))).length, [(nid i, some ⟨ei.size, avRows ((l1 ++ l).map (CT.row X.toSE c))⟩), (kk, none)],
            [ob ∧ (avRows (l1.map (CT.row X.toSE c))).length = len ∧ (avRows (l.map (CT.row X.toSE c))).length = n ∧ avRows ((l1 ++ l).map (CT.row X.toSE c)) = avRows (l1.map (CT.row X.toSE c)) ++ avRows (l.map (CT.row X.toSE c)) ∧ (len + n) * ei.bytes ≤ 140737488355328 ∧ len + n ≤ maxLen]⟩, ?_, ?_, ?_, ?_, ?_, h⟩
          · rw [hs] at i1
            simp only [i1, Option.bind_some, den, i3, denO, h9]
            rw [if_pos ⟨by rw [h8, hs], trivial⟩]
          · exact ⟨i2, by simpa [avRows] using g1, by simpa [avRows] using g2, by simp [avRows], g3, g4⟩
          · simp [den, avRows]
          · simp [denU, denO, hs]
          · intro p hp
            simp only [List.mem_cons, List.not_mem_nil, or_false] at hp
            rcases hp with rfl | rfl
            · exact .inl rfl
            · exact .inr (by simp)
        · cases h
      · obtain ⟨h7, h⟩ := cond_some h
        obtain ⟨g1, g2, g3, g4⟩ := appOk_spec h7
        obtain ⟨ob, i1, i2⟩ := srcD_den h4 g2 rd (fun j hj => hj)
        refine ⟨.rows (avRows (l.map (CT.row X.toSE c))), rd, [], _, _, ⟨.own (nid i) 0 (avRows (l.map (CT.row X.toSE c))).length, [(nid i, some ⟨ei.size, avRows (l.map (CT.row X.toSE c))⟩)],
            [ob ∧ (avRows (l.map (CT.row X.toSE c))).length = n ∧ avRows (l.map (CT.row X.toSE c)) = avRows (l.map (CT.row X.toSE c)) ∧ n * ei.bytes ≤ 140737488355328 ∧ n ≤ maxLen]⟩, ?_, ?_, ?_, ?_, ?_, h⟩
        · rw [hs] at i1
          simp only [i1, Option.bind_some, den]
        · exact ⟨i2, by simpa [avRows] using g2, rfl, by simpa using g3, by simpa using g4⟩
        · simp [den, avRows]
        · simp [denU, denO, hs]
        · intro p hp
          simp only [List.mem_cons, List.not_mem_nil, or_false] at hp
          rcases hp with rfl
          exact .inl rfl
      · cases h
    · cases h
  · cases h

/-- What an operation has come to. -/
def SdOp (T : Tab) (i : Nat) (o : Oper) (ρ : Operand → DV X) (get : Nat → Option (DObj X)) (k : KK X A) (r : A) : Prop :=
  ∃ orc rd wr dv upd out, absOp T i o orc (fun x => den (ρ x)) (restr rd (aget get)) = some out ∧ AllP out.obs ∧ out.v = den dv ∧ out.upd = denU upd ∧ (∀ p ∈ upd, p.1 = nid i ∨ p.1 ∈ wr) ∧ k dv upd rd wr = some r

theorem builtinD_sound {b : Builtin} {args : List (DV X)} {tys : List TypeId} (h : builtinD T code i b args tys get k = some r) : ∃ orc rd wr dv upd out, aBuiltin T i b (denL args) tys orc (restr rd (aget get)) = some out ∧ AllP out.obs ∧ out.v = den dv ∧ out.upd = denU upd ∧ (∀ p ∈ upd, p.1 = nid i ∨ p.1 ∈ wr) ∧ k dv upd rd wr = some r := by
  unfold builtinD at h
  unfold aBuiltin
  split at h
  · obtain ⟨orc, dv, out, h1, h2, h3, h4, h5⟩ := lenD_sound h
    exact ⟨orc, [], [], dv, [], out, h1, h2, h3, h4, by simp, h5⟩
  · obtain ⟨dv, out, h1, h2, h3, h4, h5⟩ := mmD_sound h
    exact ⟨.none, [], [], dv, [], out, h1, h2, h3, h4, by simp, h5⟩
  · obtain ⟨dv, out, h1, h2, h3, h4, h5⟩ := mmD_sound h
    exact ⟨.none, [], [], dv, [], out, h1, h2, h3, h4, by simp, h5⟩
  · split at h
    · rename_i htu
      obtain ⟨orc, rd, wr, dv, upd, out, h1, h2⟩ := appendD_sound h
      refine ⟨orc, rd, wr, dv, upd, out, ?_, h2⟩
      simp only [denL]
      rw [if_pos htu]; exact h1
    · cases h
  · cases h

theorem map_den (ρ : Operand → DV X) (l : List Operand) : l.map (fun x => den (ρ x)) = denL (l.map ρ) := by rw [denL_map, List.map_map]; rfl

theorem opD_sound {o : Oper} {ρ : Operand → DV X} (h : opD T code i o.op ρ get k = some r) : SdOp T i o ρ get k r := by
  obtain ⟨dst, op, ty, pos, after, guard⟩ := o
  unfold SdOp absOp
  simp only at h
  unfold opD at h
  split at h
  · exact ⟨.none, [], [], _, [], _, rfl, trivial, rfl, rfl, by simp, h⟩
  · exact ⟨.none, [], [], _, [], _, rfl, trivial, rfl, rfl, by simp, h⟩
  · rename_i c a b
    split at h
    · rename_i t hc
      refine ⟨.none, [], [], _, [], ⟨pickV t (den (ρ a)) (den (ρ b)), [], []⟩, ?_, trivial, (pickD_den t _ _).symm, rfl, by simp, h⟩
      simp only [hc, den, CT.tv, TV.av, pv]
    · cases h
  · obtain ⟨dv, u, out, h1, h2, h3, h4, h5⟩ := allocD_sound h
    exact ⟨.none, [], [], dv, _, out, h1, h2, h3, h4, by simp, h5⟩
  · obtain ⟨dv, u, out, h1, h2, h3, h4, h5⟩ := boxD_sound h
    exact ⟨.none, [], [], dv, _, out, h1, h2, h3, h4, by simp, h5⟩
  · rename_i t parts
    obtain ⟨dv, out, h1, h2, h3, h4, h5⟩ := buildD_sound h
    refine ⟨.none, [], [], dv, [], out, ?_, h2, h3, h4, by simp, h5⟩
    rw [List.map_map] at h1; exact h1
  · rename_i t len parts
    obtain ⟨dv, u, out, h1, h2, h3, h4, h5⟩ := buildSliceD_sound h
    refine ⟨.none, [], [], dv, _, out, ?_, h2, h3, h4, by simp, h5⟩
    rw [List.map_map] at h1; exact h1
  · obtain ⟨orc, rd, dv, out, h1, h2, h3, h4, h5⟩ := ldD_sound h
    exact ⟨orc, rd, [], dv, [], out, h1, h2, h3, h4, by simp, h5⟩
  · obtain ⟨orc, kk, u, out, h1, h2, h3, h4, h5⟩ := stD_sound h
    exact ⟨orc, [kk], [kk], .undef, _, out, h1, h2, h3, h4, by simp, h5⟩
  · obtain ⟨dv, out, h1, h2, h3, h4, h5⟩ := binD_sound h
    exact ⟨.none, [], [], dv, [], out, h1, h2, h3, h4, by simp, h5⟩
  · obtain ⟨dv, out, h1, h2, h3, h4, h5⟩ := unD_sound h
    exact ⟨.none, [], [], dv, [], out, h1, h2, h3, h4, by simp, h5⟩
  · rename_i f first caps
    refine ⟨.none, [], [], _, [], ⟨.fn f (first.toList.map fun x => den (ρ x)) (caps.toList.map fun x => den (ρ x)), [], []⟩, rfl, trivial, ?_, rfl, by simp, h⟩
    simp only [den, map_den]
  · rename_i t x lo hi
    obtain ⟨orc, rd, dv, out, h1, h2, h3, h4, h5⟩ := sliceD_sound h
    refine ⟨orc, rd, [], dv, [], out, ?_, h2, h3, h4, by simp, h5⟩
    simp only [Option.map_map] at h1; exact h1
  · obtain ⟨dv, out, h1, h2, h3, h4, h5⟩ := fieldAddrD_sound h
    exact ⟨.none, [], [], dv, [], out, h1, h2, h3, h4, by simp, h5⟩
  · obtain ⟨dv, out, h1, h2, h3, h4, h5⟩ := fieldD_sound h
    exact ⟨.none, [], [], dv, [], out, h1, h2, h3, h4, by simp, h5⟩
  · obtain ⟨orc, rd, dv, out, h1, h2, h3, h4, h5⟩ := indexAddrD_sound h
    exact ⟨orc, rd, [], dv, [], out, h1, h2, h3, h4, by simp, h5⟩
  · obtain ⟨dv, out, h1, h2, h3, h4, h5⟩ := extractD_sound h
    exact ⟨.none, [], [], dv, [], out, h1, h2, h3, h4, by simp, h5⟩
  · rename_i b args tys
    obtain ⟨orc, rd, wr, dv, upd, out, h1, h2⟩ := builtinD_sound h
    refine ⟨orc, rd, wr, dv, upd, out, ?_, h2⟩
    simp only [map_den]; exact h1
  · cases h
end
end Go.Gb
