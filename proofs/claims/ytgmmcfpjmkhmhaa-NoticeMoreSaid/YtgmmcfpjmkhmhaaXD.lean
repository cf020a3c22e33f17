/-
  Each operation of the typed walk is what the abstract walk's operation does: the rest.
-/
import Derived.Test.YtgmmcfpjmkhmhaaXC
namespace Go.Gb
open Go.RowKit

section
variable {X : SX} {A : Type} {T : Tab} {code : TypeId → Option (CT X.ι)} {get : Nat → Option (DObj X)} {k : KK X A} {r : A} {i : Nat}

theorem arithD_sound {op : BinOp} {kd : IntKind} {a b : Int} : ∃ v obs, aArith op kd a b = some (v, obs) ∧ den (arithD (X := X) op kd a b).1 = .t (.sc v) ∧ (∀ g, (arithD (X := X) op kd a b).2 = some g → g = true → AllP obs) ∧ ((arithD (X := X) op kd a b).2 = none → AllP obs) := by
  cases op <;> refine ⟨_, _, rfl, rfl, fun g hg ht => ?_, fun hn => ?_⟩ <;> simp only [arithD, Option.some.injEq, reduceCtorEq] at * <;> try trivial
  all_goals subst hg; simp_all [AllP]

theorem cellEqD_den {n : Nat} {x y : DV X} {b : Bool} (h : cellEqD n x y = some b) : cellEq n (den x) (den y) = some b := by
  unfold cellEqD at h
  split at h
  · split at h
    · injection h with h
      subst h
      simp only [den, CT.tv, TV.av, cellEq]
      rw [if_pos ‹_›]
    · cases h
  · exact h
  · exact h
  · cases h

theorem cellsEqD_den : ∀ {ks : List Nat} {xs ys : List (DV X)} {b : Bool}, cellsEqD ks xs ys = some b → cellsEq ks (denL xs) (denL ys) = some b
  | [], [], [], b, h => h
  | k :: ks, x :: xs, y :: ys, b, h => by
    simp only [cellsEqD] at h
    rw [Option.bind_eq_some_iff] at h; obtain ⟨p, h1, h⟩ := h
    rw [Option.bind_eq_some_iff] at h; obtain ⟨q, h2, h⟩ := h
    simp only [denL, cellsEq, cellEqD_den h1, cellsEqD_den h2, Option.bind_some, h]
  | [], _ :: _, _, _, h => by simp [cellsEqD] at h
  | [], [], _ :: _, _, h => by simp [cellsEqD] at h
  | _ :: _, [], _, _, h => by simp [cellsEqD] at h
  | _ :: _, _ :: _, [], _, h => by simp [cellsEqD] at h

theorem aggD_den {x : DV X} {xs : List (DV X)} (h : aggD x = some xs) : den x = .agg (denL xs) := by
  unfold aggD at h
  split at h
  · injection h with h; subst h; rfl
  · rename_i j y
    injection h with h; subst h
    rw [cellsC_den]; rfl
  · cases h

theorem binD_sound {op : BinOp} {t : TypeId} {x y : DV X} (h : binD T op t x y k = some r) : ∃ dv out, aBin T op t (den x) (den y) = some out ∧ AllP out.obs ∧ out.v = den dv ∧ out.upd = [] ∧ k dv [] [] [] = some r := by
  unfold binD at h
  split at h
  · rename_i kd a yk b
    split at h
    · rename_i hk
      obtain ⟨v, obs, h1, h2, h3, h4⟩ := arithD_sound (X := X) (op := op) (kd := kd) (a := a) (b := b)
      have fin : AllP obs → k (arithD op kd a b).1 [] [] [] = some r → ∃ dv out, aBin T op t (den (.c (.int kd) a : DV X)) (den (.c (.int yk) b : DV X)) = some out ∧ AllP out.obs ∧ out.v = den dv ∧ out.upd = [] ∧ k dv [] [] [] = some r := by
        intro ho hkk
        refine ⟨_, ⟨.t (.sc v), [], obs⟩, ?_, ho, h2.symm, rfl, hkk⟩
        simp only [den, CT.tv, TV.av, aBin]
        rw [if_pos hk, h1]; rfl
      split at h
      · rename_i hn
        exact fin (h4 hn) h
      · rename_i g hg
        obtain ⟨hgt, h⟩ := cond_some h
        exact fin (h3 g hg hgt) h
    · cases h
  · split at h
    · exact ⟨_, _, rfl, trivial, rfl, rfl, h⟩
    · exact ⟨_, _, rfl, trivial, rfl, rfl, h⟩
    · cases h
  · rw [Option.bind_eq_some_iff] at h; obtain ⟨ti, h1, h⟩ := h
    split at h
    · rename_i hk
      refine ⟨_, ⟨.t (.sc (.bool _)), [], []⟩, ?_, trivial, rfl, rfl, h⟩
      simp only [den, CT.tv, TV.av, aBin, h1, Option.bind_some, hk]; rfl
    · rename_i hk
      refine ⟨_, ⟨.t (.sc (.bool _)), [], []⟩, ?_, trivial, rfl, rfl, h⟩
      simp only [den, CT.tv, TV.av, aBin, h1, Option.bind_some, hk]; rfl
    · cases h
  · rw [Option.bind_eq_some_iff] at h; obtain ⟨xs, h1, h⟩ := h
    rw [Option.bind_eq_some_iff] at h; obtain ⟨ys, h2, h⟩ := h
    rw [Option.bind_eq_some_iff] at h; obtain ⟨ti, h3, h⟩ := h
    split at h
    · cases h
    · rename_i hc
      rw [Option.bind_eq_some_iff] at h; obtain ⟨b, h4, h⟩ := h
      have h5 := cellsEqD_den h4
      rw [aggD_den h1, aggD_den h2]
      split at h
      · refine ⟨_, ⟨.t (.sc (.bool b)), [], []⟩, ?_, trivial, rfl, rfl, h⟩
        simp only [aBin, h3, Option.bind_some]
        rw [if_neg hc, h5]; rfl
      · refine ⟨_, ⟨.t (.sc (.bool (!b))), [], []⟩, ?_, trivial, rfl, rfl, h⟩
        simp only [aBin, h3, Option.bind_some]
        rw [if_neg hc, h5]; rfl
      · cases h

theorem unD_sound {op : UnOp} {x : DV X} (h : unD op x k = some r) : ∃ dv out, aUn op (den x) = some out ∧ AllP out.obs ∧ out.v = den dv ∧ out.upd = [] ∧ k dv [] [] [] = some r := by
  unfold unD at h
  split at h
  · exact ⟨_, _, rfl, trivial, rfl, rfl, h⟩
  · exact ⟨_, _, rfl, trivial, rfl, rfl, h⟩
  · cases h

theorem foldMmD_den (mx : Bool) (kd : IntKind) : ∀ (l : List (DV X)) (a n : Int), foldMmD mx kd a l = some n → foldMm mx kd a (denL l) = some n
  | [], a, n, h => h
  | x :: l, a, n, h => by
    cases x
    case c t y =>
      cases t
      case int k' =>
        simp only [foldMmD] at h
        simp only [denL, den, CT.tv, TV.av, foldMm]
        split at h
        · rename_i hk
          rw [if_pos hk]
          exact foldMmD_den mx kd l _ _ h
        · cases h
      all_goals simp [foldMmD] at h
    all_goals simp [foldMmD] at h

theorem mmD_sound {mx : Bool} {args : List (DV X)} (h : mmD mx args k = some r) : ∃ dv out, aMm mx (denL args) = some out ∧ AllP out.obs ∧ out.v = den dv ∧ out.upd = [] ∧ k dv [] [] [] = some r := by
  unfold mmD at h
  split at h
  · rename_i kd a l
    rw [Option.bind_eq_some_iff] at h; obtain ⟨n, h1, h⟩ := h
    refine ⟨_, ⟨.t (.sc (.int kd n)), [], []⟩, ?_, trivial, rfl, rfl, h⟩
    simp only [denL, den, CT.tv, TV.av, aMm]
    have := foldMmD_den mx kd l a n h1
    simp only [this]; rfl
  · cases h

theorem lenD_sound {t : TypeId} {x : DV X} (h : lenD T t x k = some r) : ∃ orc dv out, aLen T t (den x) orc = some out ∧ AllP out.obs ∧ out.v = den dv ∧ out.upd = [] ∧ k dv [] [] [] = some r := by
  unfold lenD at h
  unfold aLen
  rw [Option.bind_eq_some_iff] at h; obtain ⟨ti, h1, h⟩ := h
  simp only [h1, Option.bind_some]
  split at h
  · rename_i e c l hk
    simp only [hk]
    exact ⟨.num (l.length : Int), _, ⟨.t (.sc (.int .i64 (l.length : Int))), [], [(l.length : Int) = ((l.map (CT.row X.toSE c)).length : Int)]⟩, rfl, by simp [AllP], rfl, rfl, h⟩
  · rename_i hk
    simp only [hk]
    exact ⟨.none, _, _, rfl, trivial, rfl, rfl, h⟩
  · rename_i hk
    simp only [hk]
    exact ⟨.none, _, _, rfl, trivial, rfl, rfl, h⟩
  · rename_i hk
    simp only [hk]
    exact ⟨.none, _, _, rfl, trivial, rfl, rfl, h⟩
  · cases h

theorem fillD_den (place : Nat → Option (Nat × Nat)) : ∀ (parts : List (Nat × DV X)) (cells out : List (DV X)), fillD place cells parts = some out → fillP place (denL cells) (parts.map fun p => (p.1, den p.2)) = some (denL out)
  | [], cells, out, h => by simp only [fillD, Option.some.injEq] at h; subst h; rfl
  | (j, x) :: rest, cells, out, h => by
    simp only [fillD] at h
    rw [Option.bind_eq_some_iff] at h; obtain ⟨⟨off, size⟩, h1, h⟩ := h
    rw [Option.bind_eq_some_iff] at h; obtain ⟨cs, h2, h⟩ := h
    split at h
    · rename_i hl
      simp only [List.map_cons, fillP, h1, cellsD_den h2, Option.bind_some, denL_length]
      rw [if_pos hl, ← putD_den]
      exact fillD_den place rest _ _ h
    · cases h

theorem buildD_sound {t : TypeId} {parts : List (Nat × DV X)} (h : buildD T t parts k = some r) : ∃ dv out, aBuild T t (parts.map fun p => (p.1, den p.2)) = some out ∧ AllP out.obs ∧ out.v = den dv ∧ out.upd = [] ∧ k dv [] [] [] = some r := by
  unfold buildD at h
  unfold aBuild
  rw [Option.bind_eq_some_iff] at h; obtain ⟨ti, h1, h⟩ := h
  simp only [h1, Option.bind_some]
  split at h
  · rename_i fs hk
    split at h
    · rename_i ha
      rw [Option.bind_eq_some_iff] at h; obtain ⟨cells, h2, h⟩ := h
      have h3 := fillD_den _ _ _ _ h2
      rw [cvDs_den] at h3
      refine ⟨_, ⟨.agg (denL cells), [], []⟩, ?_, trivial, rfl, rfl, h⟩
      simp only [hk]
      rw [if_pos ha, h3]; rfl
    · cases h
  · rename_i m e hk
    rw [Option.bind_eq_some_iff] at h; obtain ⟨ei, h2, h⟩ := h
    rw [Option.bind_eq_some_iff] at h; obtain ⟨cells, h3, h⟩ := h
    have h4 := fillD_den _ _ _ _ h3
    rw [cvDs_den] at h4
    refine ⟨_, ⟨.agg (denL cells), [], []⟩, ?_, trivial, rfl, rfl, h⟩
    simp only [hk, h2, Option.bind_some, h4]; rfl
  · cases h

theorem fillR_lit (size : Nat) (c : CT X.ι) (hs : CT.sz X c = size) (z : List AV) : ∀ (parts : List (Nat × DV X)) (n : Nat) (l : List (CT.T X.toSE c)) (done : List (List AV)), litD c n parts = some l → done.length = n →
    ∃ css : List (List AV), fillR size (done ++ List.replicate parts.length z) (parts.map fun p => (p.1, den p.2)) = some (done ++ css) ∧ css.map (fun r => r.map wk) = avRows (l.map (CT.row X.toSE c))
  | [], n, l, done, h, _ => by
    simp only [litD, Option.some.injEq] at h
    subst h
    exact ⟨[], by simp [fillR], rfl⟩
  | (j, x) :: rest, n, l, done, h, hd => by
    simp only [litD] at h
    split at h
    · rename_i hj
      subst hj
      rw [Option.bind_eq_some_iff] at h; obtain ⟨y, h1, h⟩ := h
      rw [Option.bind_eq_some_iff] at h; obtain ⟨l', h2, h⟩ := h
      injection h with h
      subst h
      obtain ⟨cs, g1, g2⟩ := dat_cells h1
      have hl : cs.length = size := by
        have := congrArg List.length g2
        simp only [List.length_map, row_sz] at this
        omega
      obtain ⟨css, i1, i2⟩ := fillR_lit size c hs z rest (j + 1) l' (done ++ [cs]) h2 (by simp [hd])
      refine ⟨cs :: css, ?_, ?_⟩
      · simp only [List.map_cons, fillR, g1, Option.bind_some]
        rw [if_pos ⟨hl, by simp; omega⟩]
        have : (done ++ List.replicate (rest.length + 1) z).set j cs = done ++ [cs] ++ List.replicate rest.length z := by
          rw [List.set_append_right _ _ (by omega), hd]
          simp [List.replicate_succ]
        simp only [List.length_cons, this, i1]
        simp
      · simp only [List.map_cons, i2, g2, avRows, List.map_cons]
    · cases h

theorem buildSliceD_sound {t : TypeId} {len : Nat} {parts : List (Nat × DV X)} (h : buildSliceD T code i t len parts k = some r) : ∃ dv u out, aBuildSlice T i t len (parts.map fun p => (p.1, den p.2)) = some out ∧ AllP out.obs ∧ out.v = den dv ∧ out.upd = denU [(nid i, u)] ∧ k dv [(nid i, u)] [] [] = some r := by
  unfold buildSliceD at h
  unfold aBuildSlice
  rw [Option.bind_eq_some_iff] at h; obtain ⟨ti, h1, h⟩ := h
  simp only [h1, Option.bind_some]
  split at h
  · rename_i e hk
    rw [Option.bind_eq_some_iff] at h; obtain ⟨ei, h2, h⟩ := h
    rw [Option.bind_eq_some_iff] at h; obtain ⟨c, h3, h⟩ := h
    simp only [hk, h2, Option.bind_some]
    split at h
    · cases h
    · rename_i hno
      simp only [not_or, Decidable.not_not] at hno
      obtain ⟨n1, n2, n3, n4⟩ := hno
      rw [Option.bind_eq_some_iff] at h; obtain ⟨l, h4, h⟩ := h
      obtain ⟨css, g1, g2⟩ := fillR_lit ei.size c n3 (ei.zero.map cv) parts 0 l [] h4 rfl
      simp only [List.nil_append, n4] at g1
      refine ⟨_, _, ⟨.own (nid i) 0 len, [(nid i, some ⟨ei.size, wkRows css⟩)], []⟩, ?_, trivial, rfl, ?_, h⟩
      · rw [if_neg (by simp only [not_or]; exact ⟨n1, n2⟩), g1]; rfl
      · simp only [denU, denO, List.map_cons, List.map_nil, Option.map_some, n3]
        rw [show wkRows css = avRows (l.map (CT.row X.toSE c)) from g2]
  · cases h

theorem allocD_sound {e : TypeId} (h : allocD T i e k = some r) : ∃ dv u out, aAlloc T i e = some out ∧ AllP out.obs ∧ out.v = den dv ∧ out.upd = denU [(nid i, u)] ∧ k dv [(nid i, u)] [] [] = some r := by
  unfold allocD at h
  unfold aAlloc
  rw [Option.bind_eq_some_iff] at h; obtain ⟨ti, h1, h⟩ := h
  exact ⟨_, _, ⟨_, [(nid i, some ⟨ti.size, [ti.zero.map cv]⟩)], []⟩, by simp only [h1, Option.bind_some]; rfl, trivial, rfl, by simp [denU, denO, cvDs_den], h⟩

theorem boxD_sound {x : DV X} (h : boxD i x k = some r) : ∃ dv u out, aBox i (den x) = some out ∧ AllP out.obs ∧ out.v = den dv ∧ out.upd = denU [(nid i, u)] ∧ k dv [(nid i, u)] [] [] = some r := by
  unfold boxD at h
  unfold aBox
  rw [Option.bind_eq_some_iff] at h; obtain ⟨cs, h1, h⟩ := h
  exact ⟨_, _, ⟨_, [(nid i, some ⟨(denL cs).length, [denL cs]⟩)], []⟩, by simp only [cellsD_den h1, Option.bind_some]; rfl, trivial, rfl, by simp [denU, denO, denL_length], h⟩

theorem bndD_den {d n : Int} {x : Option (DV X)} (h : bndD d x = some n) : bnd d (x.map den) = some n := by
  unfold bndD at h
  split at h
  · exact h
  · exact h
  · cases h

theorem slOk_spec {l h : Int} {len : Nat} (hh : slOk l h len = true) : 0 ≤ l ∧ l ≤ h ∧ h ≤ (len : Int) := by
  simpa [slOk, and_assoc] using hh

theorem sliceD_sound {t : TypeId} {x : DV X} {lo hi : Option (DV X)} (h : sliceD T t x lo hi get k = some r) : ∃ orc rd dv out, aSlice T t (den x) (lo.map den) (hi.map den) orc (restr rd (aget get)) = some out ∧ AllP out.obs ∧ out.v = den dv ∧ out.upd = [] ∧ k dv [] rd [] = some r := by
  unfold sliceD at h
  unfold aSlice
  rw [Option.bind_eq_some_iff] at h; obtain ⟨ti, h1, h⟩ := h
  simp only [h1, Option.bind_some]
  split at h
  · rename_i e hk
    rw [Option.bind_eq_some_iff] at h; obtain ⟨ei, h2, h⟩ := h
    simp only [hk, h2, Option.bind_some]
    split at h
    · rename_i kk off len
      rw [Option.bind_eq_some_iff] at h; obtain ⟨o, h3, h⟩ := h
      split at h
      · rename_i hs
        rw [Option.bind_eq_some_iff] at h; obtain ⟨l, h4, h⟩ := h
        rw [Option.bind_eq_some_iff] at h; obtain ⟨hh, h5, h⟩ := h
        obtain ⟨h6, h⟩ := cond_some h
        refine ⟨.none, [kk], _, ⟨.own kk (off + l.toNat) (hh.toNat - l.toNat), [], [0 ≤ l ∧ l ≤ hh ∧ hh ≤ (len : Int)]⟩, ?_, slOk_spec h6, rfl, rfl, h⟩
        simp only [den, restr_get (List.mem_singleton_self kk) h3, Option.bind_some]
        rw [if_pos hs, bndD_den h4, Option.bind_some, bndD_den h5]; rfl
      · cases h
    · rename_i c xs
      split at h
      · rename_i hs
        rw [Option.bind_eq_some_iff] at h; obtain ⟨l, h4, h⟩ := h
        rw [Option.bind_eq_some_iff] at h; obtain ⟨hh, h5, h⟩ := h
        obtain ⟨h6, h⟩ := cond_some h
        refine ⟨.tsub ((sub xs l.toNat (hh.toNat - l.toNat)).map (CT.row X.toSE c)), [], _, ⟨.t (.sl ((sub xs l.toNat (hh.toNat - l.toNat)).map (CT.row X.toSE c))), [], [0 ≤ l ∧ l ≤ hh ∧ hh ≤ ((xs.map (CT.row X.toSE c)).length : Int) ∧ (sub xs l.toNat (hh.toNat - l.toNat)).map (CT.row X.toSE c) = ((xs.map (CT.row X.toSE c)).drop l.toNat).take (hh.toNat - l.toNat) ∧ (∀ q ∈ xs.map (CT.row X.toSE c), q.length = ei.size)]⟩, ?_, ?_, rfl, rfl, h⟩
        · simp only [den, CT.tv, TV.av, bndD_den h4, Option.bind_some]
          have h7 : bnd ((xs.map (CT.row X.toSE c)).length : Int) (hi.map den) = some hh := by
            have := bndD_den h5
            simpa using this
          rw [h7]; rfl
        · obtain ⟨a1, a2, a3⟩ := slOk_spec h6
          refine ⟨a1, a2, by simpa using a3, by simp [sub, List.map_take, List.map_drop], fun q hq => ?_⟩
          obtain ⟨y, _, rfl⟩ := List.mem_map.1 hq
          rw [row_sz]; exact hs
      · cases h
    · cases h
  · cases h
end
end Go.Gb
