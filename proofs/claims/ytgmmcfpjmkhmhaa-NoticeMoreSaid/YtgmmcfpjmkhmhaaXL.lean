/-
  A state, told as a shape says, stands for what it stood for.
-/
import Derived.Test.YtgmmcfpjmkhmhaaXK
namespace Go.Gb
open Go.RowKit

section
variable {X : SX}

theorem VRl.wk {P : Program} {β : Nat → Option Blk} {w : World} {I : Nat → Prop} : ∀ (xs : List AV) (vs : List Value), VRl P β w I xs vs → VRl P β w I (xs.map Gb.wk) vs
  | [], [], h => h
  | x :: xs, v :: vs, h => by simp only [VRl] at h; simp only [List.map_cons, VRl]; exact ⟨h.1.wk, VRl.wk xs vs h.2⟩
  | [], _ :: _, h => by simp [VRl] at h
  | _ :: _, [], h => by simp [VRl] at h

theorem dat1_refs {d : DV X} {c : CT X.ι} {x : CT.T X.toSE c} (h : dat1 d c = some x) : drefs d = [] := by
  cases d
  case c => rfl
  case nil => rfl
  all_goals cases c <;> cases h

theorem readHL_refs : ∀ {ds : List (DV X)} {l : List (CT X.ι)} {h : HL X.toSE l}, readHL ds l = some h → drefsL ds = []
  | [], [], _, _ => rfl
  | d :: ds, c :: l, h, hr => by
    simp only [readHL] at hr
    rw [Option.bind_eq_some_iff] at hr; obtain ⟨x, h1, hr⟩ := hr
    rw [Option.bind_eq_some_iff] at hr; obtain ⟨g, h2, hr⟩ := hr
    simp only [drefsL, dat1_refs h1, readHL_refs h2, List.append_nil]
  | [], _ :: _, _, hr => by simp [readHL] at hr
  | _ :: _, [], _, hr => by simp [readHL] at hr

theorem dat_wkn {d : DV X} {c : CT X.ι} {x : CT.T X.toSE c} (h : dat d c = some x) : Wkn (den d) (den (.c c x : DV X)) ∧ drefs d = [] := by
  cases c
  case st i =>
    replace h : datS d i = some x := h
    cases d
    case agg cs =>
      simp only [datS] at h
      rw [Option.bind_eq_some_iff] at h; obtain ⟨g, h1, h⟩ := h
      injection h with h
      subst h
      refine ⟨fun P β w I v hv => ?_, by simp only [drefs, readHL_refs h1]⟩
      have h2 := (readHL_den h1 (X.flat i)).1
      simp only [den, VR] at hv
      obtain ⟨vs, rfl, hv⟩ := hv
      show VR P β w I (.agg ((X.row i (X.make i g)).map AV.t)) _
      have h3 : (X.row i (X.make i g)).map AV.t = (denL cs).map Gb.wk := by rw [h2]; exact congrArg _ (X.row_make i g)
      rw [h3]
      simp only [VR]
      exact ⟨vs, rfl, VRl.wk _ _ hv⟩
    case c a y =>
      replace h : castC a (.st i) y = some x := h
      rw [(castC_den h).1]
      exact ⟨Wkn.refl _, rfl⟩
    all_goals cases h
  all_goals
    have h1 := dat1_den h
    refine ⟨fun P β w I v hv => ?_, dat1_refs h⟩
    simp only [den]
    rw [← h1]
    exact hv.wk

def Mono (m m' : MA X) : Prop := (∀ q ∈ m.nm, q ∈ m'.nm) ∧ (∀ c ∈ m.chk, c ∈ m'.chk)
theorem Mono.refl (m : MA X) : Mono m m := ⟨fun _ h => h, fun _ h => h⟩
theorem Mono.trans {a b c : MA X} (h : Mono a b) (h' : Mono b c) : Mono a c := ⟨fun q hq => h'.1 q (h.1 q hq), fun q hq => h'.2 q (h.2 q hq)⟩

theorem addN_dcs (m : MA X) (k' k : Nat) : (addN m k' k).dcs = m.dcs ∧ (addN m k' k).chk = m.chk := by
  unfold addN; split <;> exact ⟨rfl, rfl⟩
theorem addN_mem (m : MA X) (k' k : Nat) : (k', k) ∈ (addN m k' k).nm := by
  unfold addN
  split
  · rename_i h; simpa using h
  · simp
theorem addN_mono (m : MA X) (k' k : Nat) : Mono m (addN m k' k) := by
  unfold addN
  split
  · exact Mono.refl m
  · exact ⟨fun q hq => by simp [hq], fun _ h => h⟩

variable {get : Nat → Option (DObj X)}

mutual
theorem mP_mono : ∀ (p : Pt X.ι) (d : DV X) (m m' : MA X), mP get p d m = some m' → Mono m m' ∧ ∃ new, m'.dcs = m.dcs ++ new ∧ new.length = p.vars.length
  | .v c, d, m, m', h => by
    simp only [mP] at h
    rw [Option.bind_eq_some_iff] at h; obtain ⟨x, h1, h⟩ := h
    injection h with h
    subst h
    exact ⟨⟨fun _ h => h, fun _ h => h⟩, [⟨c, x⟩], rfl, rfl⟩
  | .o k, d, m, m', h => by
    simp only [mP] at h
    split at h
    · rename_i k' len
      rw [Option.bind_eq_some_iff] at h; obtain ⟨o, h1, h⟩ := h
      split at h
      · injection h with h
        subst h
        refine ⟨Mono.trans (b := ⟨m.nm, m.dcs, m.chk ++ _⟩) ⟨fun _ h => h, fun _ h => by simp [h]⟩ (addN_mono _ _ _), [], by rw [(addN_dcs _ _ _).1]; simp, rfl⟩
      · cases h
    · cases h
  | .p k, d, m, m', h => by
    simp only [mP] at h
    split at h
    · injection h with h
      subst h
      exact ⟨addN_mono _ _ _, [], by rw [(addN_dcs _ _ _).1]; simp, rfl⟩
    · cases h
  | .nil, d, m, m', h => by
    simp only [mP] at h
    split at h
    · injection h with h
      subst h
      exact ⟨Mono.refl _, [], by simp, rfl⟩
    · cases h
  | .f F, d, m, m', h => by
    simp only [mP] at h
    split at h
    · split at h
      · injection h with h
        subst h
        exact ⟨Mono.refl _, [], by simp, rfl⟩
      · cases h
    · cases h
  | .a ps, d, m, m', h => by
    simp only [mP] at h
    split at h
    · exact mPs_mono ps _ m m' h
    · cases h
theorem mPs_mono : ∀ (ps : List (Pt X.ι)) (ds : List (DV X)) (m m' : MA X), mPs get ps ds m = some m' → Mono m m' ∧ ∃ new, m'.dcs = m.dcs ++ new ∧ new.length = (varsL ps).length
  | [], [], m, m', h => by
    simp only [mPs, Option.some.injEq] at h
    subst h
    exact ⟨Mono.refl _, [], by simp, rfl⟩
  | p :: ps, d :: ds, m, m', h => by
    simp only [mPs] at h
    rw [Option.bind_eq_some_iff] at h; obtain ⟨m1, h1, h⟩ := h
    obtain ⟨a1, n1, b1, c1⟩ := mP_mono p d m m1 h1
    obtain ⟨a2, n2, b2, c2⟩ := mPs_mono ps ds m1 m' h
    exact ⟨a1.trans a2, n1 ++ n2, by rw [b2, b1, List.append_assoc], by simp [varsL, c1, c2]⟩
  | [], _ :: _, m, m', h => by simp [mPs] at h
  | _ :: _, [], m, m', h => by simp [mPs] at h
end

theorem mRows_mono : ∀ (rs : List (List (Pt X.ι))) (qs : List (List (DV X))) (m m' : MA X), mRows get rs qs m = some m' → Mono m m' ∧ ∃ new, m'.dcs = m.dcs ++ new ∧ new.length = (varsR rs).length
  | [], [], m, m', h => by
    simp only [mRows, Option.some.injEq] at h
    subst h
    exact ⟨Mono.refl _, [], by simp, rfl⟩
  | r :: rs, q :: qs, m, m', h => by
    simp only [mRows] at h
    rw [Option.bind_eq_some_iff] at h; obtain ⟨m1, h1, h⟩ := h
    obtain ⟨a1, n1, b1, c1⟩ := mPs_mono r q m m1 h1
    obtain ⟨a2, n2, b2, c2⟩ := mRows_mono rs qs m1 m' h
    exact ⟨a1.trans a2, n1 ++ n2, by rw [b2, b1, List.append_assoc], by simp [varsR, c1, c2]⟩
  | [], _ :: _, m, m', h => by simp [mRows] at h
  | _ :: _, [], m, m', h => by simp [mRows] at h

section
variable {NM : List (Nat × Nat)} {f : Nat → Nat} {olen : Nat → Nat}

/-- A name that is told. -/
def DN (NM : List (Nat × Nat)) (j : Nat) : Prop := ∃ k, (j, k) ∈ NM
def SN (NM : List (Nat × Nat)) (j : Nat) : Prop := ∃ k, (k, j) ∈ NM

mutual
theorem mP_sound (hf : ∀ q ∈ NM, f q.1 = q.2) (ho : ∀ q ∈ NM, ∀ c l, get q.1 = some (.lst c l) → olen q.2 = l.length) : ∀ (p : Pt X.ι) (d : DV X) (m m' : MA X), mP get p d m = some m' → (∀ q ∈ m'.nm, q ∈ NM) → (∀ c ∈ m'.chk, c = true) →
    ∃ new, m'.dcs = m.dcs ++ new ∧ ∃ d', (∀ rest, eP olen p (new ++ rest) = (d', rest)) ∧ Wkn (rnA f (den d)) (den d') ∧ (∀ j ∈ drefs d, DN NM j) ∧ (∀ j ∈ drefs d', SN NM j)
  | .v c, d, m, m', h, _, _ => by
    simp only [mP] at h
    rw [Option.bind_eq_some_iff] at h; obtain ⟨x, h1, h⟩ := h
    injection h with h
    subst h
    obtain ⟨h2, h3⟩ := dat_wkn h1
    refine ⟨[⟨c, x⟩], rfl, .c c x, fun rest => rfl, ?_, by simp [h3], by simp [drefs]⟩
    rw [← rnD_den, rnD_id d (by simp [h3])]
    exact h2
  | .o k, d, m, m', h, hn, hc => by
    simp only [mP] at h
    split at h
    · rename_i k' len
      rw [Option.bind_eq_some_iff] at h; obtain ⟨o, h1, h⟩ := h
      split at h
      · rename_i c l
        injection h with h
        subst h
        have hq : (k', k) ∈ NM := hn _ (addN_mem _ _ _)
        have he : len = l.length := by
          have := hc (eqL len l.length) (by rw [(addN_dcs _ _ _).2]; simp)
          simpa [eqL] using this
        refine ⟨[], by rw [(addN_dcs _ _ _).1]; simp, .own k 0 (olen k), fun rest => rfl, ?_, ?_, ?_⟩
        · simp only [den, rnA]
          rw [hf _ hq, ho _ hq c l h1, he]
          exact Wkn.refl _
        · intro j hj
          simp only [drefs, List.mem_singleton] at hj
          subst hj
          exact ⟨k, hq⟩
        · intro j hj
          simp only [drefs, List.mem_singleton] at hj
          subst hj
          exact ⟨k', hq⟩
      · cases h
    · cases h
  | .p k, d, m, m', h, hn, hc => by
    simp only [mP] at h
    split at h
    · rename_i k'
      injection h with h
      subst h
      have hq : (k', k) ∈ NM := hn _ (addN_mem _ _ _)
      refine ⟨[], by rw [(addN_dcs _ _ _).1]; simp, .ptr k 0 0, fun rest => rfl, ?_, ?_, ?_⟩
      · simp only [den, rnA]
        rw [hf _ hq]
        exact Wkn.refl _
      · intro j hj
        simp only [drefs, List.mem_singleton] at hj
        subst hj
        exact ⟨k, hq⟩
      · intro j hj
        simp only [drefs, List.mem_singleton] at hj
        subst hj
        exact ⟨k', hq⟩
    · cases h
  | .nil, d, m, m', h, _, _ => by
    simp only [mP] at h
    split at h
    · injection h with h
      subst h
      exact ⟨[], by simp, .nil, fun rest => rfl, Wkn.refl _, by simp [drefs], by simp [drefs]⟩
    · cases h
  | .f F, d, m, m', h, _, _ => by
    simp only [mP] at h
    split at h
    · split at h
      · rename_i e
        injection h with h
        subst h; subst e
        exact ⟨[], by simp, .fn F [] [], fun rest => rfl, Wkn.refl _, by simp [drefs, drefsL], by simp [drefs, drefsL]⟩
      · cases h
    · cases h
  | .a ps, d, m, m', h, hn, hc => by
    simp only [mP] at h
    split at h
    · rename_i ds
      obtain ⟨new, h1, ds', h2, h3, h4, h5⟩ := mPs_sound hf ho ps ds m m' h hn hc
      refine ⟨new, h1, .agg ds', fun rest => by simp only [eP, h2], ?_, by simpa [drefs] using h4, by simpa [drefs] using h5⟩
      intro P β w I v hv
      simp only [den, rnA, VR] at hv ⊢
      obtain ⟨vs, rfl, hv⟩ := hv
      refine ⟨vs, rfl, ?_⟩
      have : ∀ (a b : List AV) (u : List Value), RowW (DN NM) f a b → VRl P β w I (rnAL f a) u → VRl P β w I b u := by
        intro a
        induction a with
        | nil => intro b u hr hu; cases b with
          | nil => exact hu
          | cons => exact hr.elim
        | cons y ys ih =>
          intro b u hr hu
          cases b with
          | nil => exact hr.elim
          | cons z zs =>
            cases u with
            | nil => simp [rnAL, VRl] at hu
            | cons v vs =>
              simp only [rnAL, VRl] at hu ⊢
              exact ⟨hr.1.2 _ _ _ _ _ hu.1, ih zs vs hr.2 hu.2⟩
      exact this _ _ _ h3 hv
    · cases h
theorem mPs_sound (hf : ∀ q ∈ NM, f q.1 = q.2) (ho : ∀ q ∈ NM, ∀ c l, get q.1 = some (.lst c l) → olen q.2 = l.length) : ∀ (ps : List (Pt X.ι)) (ds : List (DV X)) (m m' : MA X), mPs get ps ds m = some m' → (∀ q ∈ m'.nm, q ∈ NM) → (∀ c ∈ m'.chk, c = true) →
    ∃ new, m'.dcs = m.dcs ++ new ∧ ∃ ds', (∀ rest, ePs olen ps (new ++ rest) = (ds', rest)) ∧ RowW (DN NM) f (denL ds) (denL ds') ∧ (∀ j ∈ drefsL ds, DN NM j) ∧ (∀ j ∈ drefsL ds', SN NM j)
  | [], [], m, m', h, _, _ => by
    simp only [mPs, Option.some.injEq] at h
    subst h
    exact ⟨[], by simp, [], fun rest => rfl, trivial, by simp [drefsL], by simp [drefsL]⟩
  | p :: ps, d :: ds, m, m', h, hn, hc => by
    simp only [mPs] at h
    rw [Option.bind_eq_some_iff] at h; obtain ⟨m1, h1, h⟩ := h
    have hm := (mPs_mono ps ds m1 m' h).1
    obtain ⟨n1, a1, d', b1, c1, e1, g1⟩ := mP_sound hf ho p d m m1 h1 (fun q hq => hn q (hm.1 q hq)) (fun q hq => hc q (hm.2 q hq))
    obtain ⟨n2, a2, ds', b2, c2, e2, g2⟩ := mPs_sound hf ho ps ds m1 m' h hn hc
    refine ⟨n1 ++ n2, by rw [a2, a1, List.append_assoc], d' :: ds', fun rest => ?_, ⟨⟨fun k hk => e1 k (by rwa [drefs_den] at hk), c1⟩, c2⟩, ?_, ?_⟩
    · simp only [ePs, List.append_assoc, b1, b2]
    · intro j hj
      simp only [drefsL, List.mem_append] at hj
      exact hj.elim (e1 j) (e2 j)
    · intro j hj
      simp only [drefsL, List.mem_append] at hj
      exact hj.elim (g1 j) (g2 j)
  | [], _ :: _, m, m', h, _, _ => by simp [mPs] at h
  | _ :: _, [], m, m', h, _, _ => by simp [mPs] at h
end

theorem mRows_sound (hf : ∀ q ∈ NM, f q.1 = q.2) (ho : ∀ q ∈ NM, ∀ c l, get q.1 = some (.lst c l) → olen q.2 = l.length) : ∀ (rs : List (List (Pt X.ι))) (qs : List (List (DV X))) (m m' : MA X), mRows get rs qs m = some m' → (∀ q ∈ m'.nm, q ∈ NM) → (∀ c ∈ m'.chk, c = true) →
    ∃ new, m'.dcs = m.dcs ++ new ∧ ∃ qs', (∀ rest, eRows olen rs (new ++ rest) = (qs', rest)) ∧ RowsW (DN NM) f (qs.map denL) (qs'.map denL) ∧ (∀ j ∈ (qs.map drefsL).flatten, DN NM j) ∧ (∀ j ∈ (qs'.map drefsL).flatten, SN NM j)
  | [], [], m, m', h, _, _ => by
    simp only [mRows, Option.some.injEq] at h
    subst h
    exact ⟨[], by simp, [], fun rest => rfl, trivial, by simp, by simp⟩
  | r :: rs, q :: qs, m, m', h, hn, hc => by
    simp only [mRows] at h
    rw [Option.bind_eq_some_iff] at h; obtain ⟨m1, h1, h⟩ := h
    have hm := (mRows_mono rs qs m1 m' h).1
    obtain ⟨n1, a1, d', b1, c1, e1, g1⟩ := mPs_sound hf ho r q m m1 h1 (fun q hq => hn q (hm.1 q hq)) (fun q hq => hc q (hm.2 q hq))
    obtain ⟨n2, a2, ds', b2, c2, e2, g2⟩ := mRows_sound hf ho rs qs m1 m' h hn hc
    refine ⟨n1 ++ n2, by rw [a2, a1, List.append_assoc], d' :: ds', fun rest => ?_, ⟨c1, c2⟩, ?_, ?_⟩
    · simp only [eRows, List.append_assoc, b1, b2]
    · intro j hj
      simp only [List.map_cons, List.flatten_cons, List.mem_append] at hj
      exact hj.elim (e1 j) (e2 j)
    · intro j hj
      simp only [List.map_cons, List.flatten_cons, List.mem_append] at hj
      exact hj.elim (g1 j) (g2 j)
  | [], _ :: _, m, m', h, _, _ => by simp [mRows] at h
  | _ :: _, [], m, m', h, _, _ => by simp [mRows] at h
end
end
end Go.Gb
