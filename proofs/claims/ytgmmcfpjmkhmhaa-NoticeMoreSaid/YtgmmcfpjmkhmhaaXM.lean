/-
  A state, told as a shape says, stands for what it stood for: the whole.
-/
import Derived.Test.YtgmmcfpjmkhmhaaXL
namespace Go.Gb
open Go.RowKit

section
variable {X : SX} {get : Nat → Option (DObj X)} {env : Nat → DV X}

theorem mSlots_mono : ∀ (sl : List (Nat × Pt X.ι)) (m m' : MA X), mSlots get env sl m = some m' → Mono m m' ∧ ∃ new, m'.dcs = m.dcs ++ new ∧ new.length = (varsS sl).length
  | [], m, m', h => by
    simp only [mSlots, Option.some.injEq] at h
    subst h
    exact ⟨Mono.refl _, [], by simp, rfl⟩
  | (t, p) :: r, m, m', h => by
    simp only [mSlots] at h
    rw [Option.bind_eq_some_iff] at h; obtain ⟨m1, h1, h⟩ := h
    obtain ⟨a1, n1, b1, c1⟩ := mP_mono p _ m m1 h1
    obtain ⟨a2, n2, b2, c2⟩ := mSlots_mono r m1 m' h
    exact ⟨a1.trans a2, n1 ++ n2, by rw [b2, b1, List.append_assoc], by simp [varsS, c1, c2]⟩

theorem mObjs_mono : ∀ (os : List (Nat × OP X.ι)) (m m' : MA X), mObjs get os m = some m' → Mono m m' ∧ ∃ new, m'.dcs = m.dcs ++ new ∧ new.length = (varsO os).length
  | [], m, m', h => by
    simp only [mObjs, Option.some.injEq] at h
    subst h
    exact ⟨Mono.refl _, [], by simp, rfl⟩
  | (k, op) :: r, m, m', h => by
    simp only [mObjs] at h
    rw [Option.bind_eq_some_iff] at h; obtain ⟨o, h1, h⟩ := h
    split at h
    · rename_i c c' l
      rw [Option.bind_eq_some_iff] at h; obtain ⟨l', h2, h⟩ := h
      obtain ⟨a2, n2, b2, c2⟩ := mObjs_mono r _ m' h
      refine ⟨Mono.trans (Mono.trans (b := ⟨m.nm, m.dcs ++ [⟨.sl c, l'⟩], m.chk⟩) ⟨fun _ h => h, fun _ h => h⟩ (addN_mono _ _ _)) a2, [⟨.sl c, l'⟩] ++ n2, ?_, by simp [varsO, c2]⟩
      rw [b2, (addN_dcs _ _ _).1, List.append_assoc]
    · rename_i sz rows sz' rows'
      split at h
      · rw [Option.bind_eq_some_iff] at h; obtain ⟨m1, h2, h⟩ := h
        obtain ⟨a1, n1, b1, c1⟩ := mRows_mono rows _ _ m1 h2
        obtain ⟨a2, n2, b2, c2⟩ := mObjs_mono r m1 m' h
        refine ⟨((addN_mono m _ _).trans a1).trans a2, n1 ++ n2, ?_, by simp [varsO, c1, c2]⟩
        rw [b2, b1, (addN_dcs _ _ _).1, List.append_assoc]
      · cases h
    · cases h

theorem nameOf_mem {m m' : MA X} {k : Nat} (h : (nameOf m k, k) ∈ m'.nm → True) : True := trivial

variable {NM : List (Nat × Nat)} {f : Nat → Nat} {olen : Nat → Nat}

/-- Each object of the shape has been found; a list's length is told. -/
theorem mObjs_lens : ∀ (os : List (Nat × OP X.ι)) (m m' : MA X), mObjs get os m = some m' → (∀ q ∈ m'.nm, q ∈ NM) → ∃ new, m'.dcs = m.dcs ++ new ∧ ∀ rest, ∀ k ∈ os.map (·.1), ∃ k' o, (k', k) ∈ NM ∧ get k' = some o ∧ ∀ c l, o = .lst c l → (k, List.length l) ∈ lens os (new ++ rest)
  | [], m, m', h, _ => by
    simp only [mObjs, Option.some.injEq] at h
    subst h
    exact ⟨[], by simp, fun rest k hk => by simp at hk⟩
  | (k, op) :: r, m, m', h, hn => by
    simp only [mObjs] at h
    rw [Option.bind_eq_some_iff] at h; obtain ⟨o, h1, h⟩ := h
    split at h
    · rename_i c c' l
      rw [Option.bind_eq_some_iff] at h; obtain ⟨l', h2, h⟩ := h
      have hm := (mObjs_mono r _ m' h).1
      obtain ⟨n2, b2, c2⟩ := mObjs_lens r _ m' h hn
      refine ⟨[⟨.sl c, l'⟩] ++ n2, by rw [b2, (addN_dcs _ _ _).1, List.append_assoc], fun rest j hj => ?_⟩
      simp only [List.map_cons, List.mem_cons] at hj
      simp only [List.append_assoc, List.cons_append, List.nil_append, lens]
      by_cases hjk : j = k
      · subst hjk
        refine ⟨_, _, hn _ (hm.1 _ (addN_mem _ _ _)), h1, fun c2 l2 he => ?_⟩
        injection he with e1 e2
        subst e1
        have e2 := eq_of_heq e2
        subst e2
        have := congrArg List.length (castL_den h2).2
        simp only [List.length_map] at this
        rw [this]; exact List.mem_cons_self
      · rcases hj with rfl | hj
        · exact (hjk rfl).elim
        · obtain ⟨k', o', g1, g2, g3⟩ := c2 rest j hj
          exact ⟨k', o', g1, g2, fun c l he => List.mem_cons_of_mem _ (g3 c l he)⟩
    · rename_i sz rows sz' rows'
      split at h
      · rw [Option.bind_eq_some_iff] at h; obtain ⟨m1, h2, h⟩ := h
        obtain ⟨a1, n1, b1, c1⟩ := mRows_mono rows _ _ m1 h2
        have hm := (mObjs_mono r _ m' h).1
        obtain ⟨n2, b2, c2⟩ := mObjs_lens r _ m' h hn
        refine ⟨n1 ++ n2, by rw [b2, b1, (addN_dcs _ _ _).1, List.append_assoc], fun rest j hj => ?_⟩
        simp only [List.map_cons, List.mem_cons] at hj
        have hd : (n1 ++ n2 ++ rest).drop (varsR rows).length = n2 ++ rest := by rw [← c1, List.append_assoc, List.drop_left]
        simp only [lens, hd]
        by_cases hjk : j = k
        · subst hjk
          exact ⟨_, _, hn _ (hm.1 _ (a1.1 _ (addN_mem _ _ _))), h1, fun c2 l2 he => by cases he⟩
        · rcases hj with rfl | hj
          · exact (hjk rfl).elim
          · exact c2 rest j hj
      · cases h
    · cases h

theorem lens_keys : ∀ (os : List (Nat × OP X.ι)) (L : List (DC X)), ((lens os L).map (·.1)).Sublist (os.map (·.1))
  | [], _ => by simp [lens]
  | (k, .l c) :: r, L => by
    simp only [lens]
    split
    · exact (lens_keys r _).cons_cons _
    · exact List.nil_sublist _
  | (k, .c sz rows) :: r, L => by
    simp only [lens]
    exact (lens_keys r _).cons _

theorem mSlots_sound (hf : ∀ q ∈ NM, f q.1 = q.2) (ho : ∀ q ∈ NM, ∀ c l, get q.1 = some (.lst c l) → olen q.2 = l.length) : ∀ (sl : List (Nat × Pt X.ι)) (m m' : MA X), mSlots get env sl m = some m' → (∀ q ∈ m'.nm, q ∈ NM) → (∀ c ∈ m'.chk, c = true) →
    ∃ new, m'.dcs = m.dcs ++ new ∧ ∃ es, (∀ rest, eSlots olen sl (new ++ rest) = es) ∧ (∀ p ∈ es, p.1 ∈ sl.map (·.1) ∧ Wkn (rnA f (den (env p.1))) (den p.2) ∧ (∀ j ∈ drefs (env p.1), DN NM j) ∧ (∀ j ∈ drefs p.2, SN NM j))
  | [], m, m', h, _, _ => by
    simp only [mSlots, Option.some.injEq] at h
    subst h
    exact ⟨[], by simp, [], fun rest => rfl, by simp⟩
  | (t, p) :: r, m, m', h, hn, hc => by
    simp only [mSlots] at h
    rw [Option.bind_eq_some_iff] at h; obtain ⟨m1, h1, h⟩ := h
    have hm := (mSlots_mono r m1 m' h).1
    obtain ⟨n1, a1, d', b1, c1, e1, g1⟩ := mP_sound hf ho p _ m m1 h1 (fun q hq => hn q (hm.1 q hq)) (fun q hq => hc q (hm.2 q hq))
    obtain ⟨n2, a2, es, b2, c2⟩ := mSlots_sound hf ho r m1 m' h hn hc
    refine ⟨n1 ++ n2, by rw [a2, a1, List.append_assoc], (t, d') :: es, fun rest => by simp only [eSlots, List.append_assoc, b1, b2], fun q hq => ?_⟩
    rcases List.mem_cons.1 hq with rfl | hq
    · exact ⟨by simp, c1, e1, g1⟩
    · obtain ⟨i1, i2⟩ := c2 q hq
      exact ⟨by simp only [List.map_cons, List.mem_cons]; exact .inr i1, i2⟩

theorem rowsW_lst {D : Nat → Prop} (f : Nat → Nat) : ∀ rows : List (List Tree), RowsW D f (avRows rows) (avRows rows)
  | [] => trivial
  | r :: rs => by
    refine ⟨?_, rowsW_lst f rs⟩
    induction r with
    | nil => trivial
    | cons y ys ih => exact ⟨⟨by simp [refs], Wkn.refl _⟩, ih⟩

theorem mObjs_sound (hf : ∀ q ∈ NM, f q.1 = q.2) (ho : ∀ q ∈ NM, ∀ c l, get q.1 = some (.lst c l) → olen q.2 = l.length) : ∀ (os : List (Nat × OP X.ι)) (m m' : MA X), mObjs get os m = some m' → (∀ q ∈ m'.nm, q ∈ NM) → (∀ c ∈ m'.chk, c = true) →
    ∃ new, m'.dcs = m.dcs ++ new ∧ ∃ xs, (∀ rest, eObjs olen os (new ++ rest) = xs) ∧ (∀ p ∈ xs, p.1 ∈ os.map (·.1) ∧ ∃ k' o o', p.2 = some o' ∧ (k', p.1) ∈ NM ∧ get k' = some o ∧ (denO o').sz = (denO o).sz ∧ RowsW (DN NM) f (denO o).rows (denO o').rows ∧ (∀ j ∈ orefs o', SN NM j))
  | [], m, m', h, _, _ => by
    simp only [mObjs, Option.some.injEq] at h
    subst h
    exact ⟨[], by simp, [], fun rest => rfl, by simp⟩
  | (k, op) :: r, m, m', h, hn, hc => by
    simp only [mObjs] at h
    rw [Option.bind_eq_some_iff] at h; obtain ⟨o, h1, h⟩ := h
    split at h
    · rename_i c c' l
      rw [Option.bind_eq_some_iff] at h; obtain ⟨l', h2, h⟩ := h
      have hm := (mObjs_mono r _ m' h).1
      obtain ⟨n2, a2, xs, b2, c2⟩ := mObjs_sound hf ho r _ m' h hn hc
      refine ⟨[⟨.sl c, l'⟩] ++ n2, by rw [a2, (addN_dcs _ _ _).1, List.append_assoc], (k, some (.lst c l')) :: xs, fun rest => by simp only [List.append_assoc, List.cons_append, List.nil_append, eObjs, b2], fun q hq => ?_⟩
      rcases List.mem_cons.1 hq with rfl | hq
      · refine ⟨by simp, _, _, _, rfl, hn _ (hm.1 _ (addN_mem _ _ _)), h1, ?_, ?_, by simp [orefs]⟩
        · simp only [denO, (castL_den h2).1]
        · simp only [denO, (castL_den h2).2]; exact rowsW_lst f _
      · obtain ⟨i1, i2⟩ := c2 q hq
        exact ⟨by simp only [List.map_cons, List.mem_cons]; exact .inr i1, i2⟩
    · rename_i sz rows sz' rows'
      split at h
      · rename_i hsz
        rw [Option.bind_eq_some_iff] at h; obtain ⟨m1, h2, h⟩ := h
        have hm1 := (mRows_mono rows _ _ m1 h2).1
        have hm := (mObjs_mono r _ m' h).1
        obtain ⟨n1, a1, qs, b1, c1, e1, g1⟩ := mRows_sound hf ho rows _ _ m1 h2 (fun q hq => hn q (hm.1 q hq)) (fun q hq => hc q (hm.2 q hq))
        obtain ⟨n2, a2, xs, b2, c2⟩ := mObjs_sound hf ho r _ m' h hn hc
        refine ⟨n1 ++ n2, by rw [a2, a1, (addN_dcs _ _ _).1, List.append_assoc], (k, some (.cells sz qs)) :: xs, fun rest => by simp only [List.append_assoc, eObjs, b1, b2], fun q hq => ?_⟩
        rcases List.mem_cons.1 hq with rfl | hq
        · exact ⟨by simp, _, _, _, rfl, hn _ (hm.1 _ (hm1.1 _ (addN_mem _ _ _))), h1, hsz, c1, g1⟩
        · obtain ⟨i1, i2⟩ := c2 q hq
          exact ⟨by simp only [List.map_cons, List.mem_cons]; exact .inr i1, i2⟩
      · cases h
    · cases h

theorem drefs_isU {d : DV X} (h : isU d = false) (h' : d = .undef) : False := by subst h'; cases h

theorem matchT_sound {A : Type} {sh : Sh X.ι} {ds : List Nat} {s0 s' : DSt X} {k : VT (X := X) sh.vars → Option A} {r : A} (hl0 : Low s0) (hx : Ext (· ∈ ds) s0 s') (h : matchT sh ds s0 s' k = some r) :
    ∃ v, k v = some r ∧ Low (encS sh s0 v) ∧ Ext (· ∈ ds) s0 (encS sh s0 v) ∧ ∀ (P : Program) (w0 : World) (O0 : Was) (N : Nat) (β : Nat → Option Blk) (I : Nat → Prop) (a : Act) (w : World), Rel P w0 O0 N β I s'.st a w → ∃ β', Rel P w0 O0 N β' I (encS sh s0 v).st a w := by
  unfold matchT at h
  rw [Option.bind_eq_some_iff] at h; obtain ⟨m1, h1, h⟩ := h
  rw [Option.bind_eq_some_iff] at h; obtain ⟨m, h2, h⟩ := h
  obtain ⟨h3, h⟩ := cond_some h
  rw [Option.bind_eq_some_iff] at h; obtain ⟨v, h4, h⟩ := h
  obtain ⟨h5, h6⟩ := chkA_some h
  simp only [okS, Bool.and_eq_true, decide_eq_true_eq] at h3
  obtain ⟨⟨⟨⟨⟨⟨⟨⟨n1, n2⟩, n3⟩, n4⟩, n5⟩, n6⟩, n7⟩, n8⟩, n9⟩ := h3
  have hm2 := (mObjs_mono _ _ _ h2).1
  have hdcs := toVT_dcs h4
  obtain ⟨_, nA, dA, lA⟩ := mSlots_mono _ _ _ h1
  simp only [List.nil_append] at dA
  have hnd1 : (m.nm.map (·.1)).Nodup := (List.nodup_append.1 n1).1
  have hnd2 : (m.nm.map (·.2)).Nodup := (List.nodup_append.1 n2).1
  have hsw : ((m.nm.map fun q => (q.2, q.1)).map (·.1)).Nodup := by rw [List.map_map]; exact hnd2
  -- the names, there and back
  generalize hf' : (fun j => match lk m.nm j with | some q => q | none => j : Nat → Nat) = f
  generalize hg' : (fun j => match lk (m.nm.map fun q => (q.2, q.1)) j with | some q => q | none => j : Nat → Nat) = g
  have hf : ∀ q ∈ m.nm, f q.1 = q.2 := by
    rintro ⟨p, q⟩ hq
    rw [← hf']
    simp only [lk_of_mem hnd1 hq]
  have hg : ∀ q ∈ m.nm, g q.2 = q.1 := by
    rintro ⟨p, q⟩ hq
    rw [← hg']
    have : (q, p) ∈ m.nm.map fun q => (q.2, q.1) := List.mem_map.2 ⟨(p, q), hq, rfl⟩
    simp only [lk_of_mem hsw this]
  have hfk : ∀ j ∈ sh.keepO, f j = j := by
    intro j hj
    rw [← hf']
    cases hh : lk m.nm j with
    | none => simp [hh]
    | some q => exact ((List.nodup_append.1 n1).2.2 j (List.mem_map.2 ⟨(j, q), lk_mem hh, rfl⟩) j hj rfl).elim
  have hgk : ∀ j ∈ sh.keepO, g j = j := by
    intro j hj
    rw [← hg']
    cases hh : lk (m.nm.map fun q => (q.2, q.1)) j with
    | none => simp [hh]
    | some q =>
      have h1 := lk_mem hh
      simp only [List.mem_map] at h1
      obtain ⟨z, hz, e⟩ := h1
      injection e with e1 e2
      exact ((List.nodup_append.1 n2).2.2 j (List.mem_map.2 ⟨z, hz, e1⟩) j hj rfl).elim
  have hg0 : ∀ j, j < 1000 → g j = j := by
    intro j hj
    rw [← hg']
    cases hh : lk (m.nm.map fun q => (q.2, q.1)) j with
    | none => simp [hh]
    | some q =>
      have h1 := lk_mem hh
      simp only [List.mem_map] at h1
      obtain ⟨z, hz, e⟩ := h1
      injection e with e1 e2
      have := List.all_eq_true.1 n4 z hz
      simp only [Bool.and_eq_true, Bool.or_eq_true, decide_eq_true_eq] at this
      simp only [hh]
      omega
  have hgf : ∀ j, (DN m.nm j ∨ j ∈ sh.keepO) → g (f j) = j := by
    rintro j (⟨q, hq⟩ | hj)
    · rw [hf _ hq]; exact hg _ hq
    · rw [hfk j hj]; exact hgk j hj
  -- the lists' lengths
  obtain ⟨nB, dB, lB⟩ := mObjs_lens (NM := m.nm) _ _ _ h2 (fun q hq => hq)
  have hL : m.dcs = nA ++ nB := by rw [dB, dA]
  have hdrop : (dcsV sh.vars v).drop (varsS sh.slots).length = nB := by rw [hdcs, hL, ← lA, List.drop_left]
  have htake : (dcsV sh.vars v).take (varsS sh.slots).length = nA := by rw [hdcs, hL, ← lA, List.take_left]
  generalize hol : (fun k => (lk (lens sh.objs nB) k).getD 0 : Nat → Nat) = olen
  have ho : ∀ q ∈ m.nm, ∀ c l, lko s'.obj q.1 = some (.lst c l) → olen q.2 = l.length := by
    rintro ⟨p, q⟩ hq c l hl
    have hqk := List.all_eq_true.1 n4 _ hq
    simp only [Bool.and_eq_true] at hqk
    obtain ⟨p', o, g1, g2, g3⟩ := lB [] q (by simpa using hqk.1.1)
    have : p' = p := by
      have e1 := hg _ g1
      have e2 := hg _ hq
      simp only at e1 e2
      rw [← e1, e2]
    subst this
    simp only at hl
    rw [hl] at g2
    injection g2 with g2
    have h3 := g3 c l g2.symm
    rw [List.append_nil] at h3
    rw [← hol]
    have hk := (lens_keys sh.objs nB).nodup n3
    simp only [lk_of_mem hk h3, Option.getD_some]
  obtain ⟨nA', dA', es, eA, pA⟩ := mSlots_sound (NM := m.nm) (f := f) (olen := olen) hf ho _ _ _ h1 (fun q hq => hm2.1 q hq) (fun c hc => h5 c (hm2.2 c hc))
  obtain ⟨nB', dB', xs, eB, pB⟩ := mObjs_sound (NM := m.nm) (f := f) (olen := olen) hf ho _ _ _ h2 (fun q hq => hq) h5
  have eqA : nA' = nA := by simp only [List.nil_append] at dA'; rw [← dA', dA]
  have eqB : nB' = nB := List.append_cancel_left (dB'.symm.trans dB)
  subst eqA eqB
  have eA0 := eA []
  have eB0 := eB []
  rw [List.append_nil] at eA0 eB0
  have hS : encS sh s0 v = ⟨es ++ sh.keep.map (fun t => (t, lke s0.env t)), xs ++ sh.keepO.map (fun k => (k, lko s0.obj k)), sh.nx, (List.range s0.nx).filter (fun k => !sh.keepO.contains k) ++ s0.log⟩ := by
    simp only [encS, hdrop, htake, hol, eA0, eB0]
  have hsn : ∀ j, SN m.nm j → j < sh.nx := by
    rintro j ⟨p, hp⟩
    have := List.all_eq_true.1 n4 _ hp
    simp only [Bool.and_eq_true, decide_eq_true_eq] at this
    exact this.1.2
  have kp : ∀ j, (sh.keepO.contains j || m.nm.contains (j, j)) = true → j ∈ sh.keepO ∨ (j, j) ∈ m.nm := by
    intro j hj
    simpa using hj
  have hfp : ∀ j, j ∈ sh.keepO ∨ (j, j) ∈ m.nm → f j = j := fun j hj => hj.elim (hfk j) (fun h => hf (j, j) h)
  have hdp : ∀ j, j ∈ sh.keepO ∨ (j, j) ∈ m.nm → DN m.nm j ∨ j ∈ sh.keepO := fun j hj => hj.elim .inr (fun h => .inl ⟨j, h⟩)
  have hko : ∀ j ∈ sh.keepO, j < s0.nx ∧ (∃ o, lko s0.obj j = some o ∧ lko s'.obj j = some o ∧ ∀ i ∈ orefs o, i ∈ sh.keepO ∨ (i, i) ∈ m.nm) := by
    intro j hj
    have := List.all_eq_true.1 n7 _ hj
    simp only [Bool.and_eq_true, decide_eq_true_eq, Bool.not_eq_true'] at this
    obtain ⟨⟨⟨a1, a2⟩, a3⟩, a4⟩ := this
    refine ⟨a1, ?_⟩
    cases ho0 : lko s0.obj j with
    | none => rw [ho0] at a4; cases a4
    | some o =>
      rw [ho0] at a4
      refine ⟨o, rfl, ?_, fun i hi => kp i (List.all_eq_true.1 a4 i hi)⟩
      obtain ⟨d, hd, hd2⟩ := hx.obj
      have hnd : j ∉ d := by
        have e : s'.log.take (s'.log.length - s0.log.length) = d := by rw [hd, List.length_append, Nat.add_sub_cancel, List.take_left]
        rw [e] at a2
        simpa using a2
      rcases hd2 j a1 hnd with h | h
      · rw [h, ho0]
      · rw [h] at a3; cases a3
  have hke : ∀ t ∈ sh.keep, t ∉ ds ∧ lke s'.env t = lke s0.env t ∧ ∀ j ∈ drefs (lke s0.env t), j ∈ sh.keepO ∨ (j, j) ∈ m.nm := by
    intro t ht
    have := List.all_eq_true.1 n6 _ ht
    simp only [Bool.and_eq_true, Bool.not_eq_true'] at this
    obtain ⟨⟨a1, a2⟩, a3⟩ := this
    have a1' : t ∉ ds := by simpa using a1
    refine ⟨a1', ?_, fun j hj => kp j (List.all_eq_true.1 a3 j hj)⟩
    rcases hx.env t a1' with h | h
    · exact h
    · exact (drefs_isU a2 h).elim
  have hks : ∀ q ∈ es, q.1 ∈ ds := by
    intro q hq
    have h1 := (pA q hq).1
    obtain ⟨z, hz, e⟩ := List.mem_map.1 h1
    have := List.all_eq_true.1 n5 _ hz
    rw [← e]; simpa using this
  have hkeep : ∀ t, lk (sh.keep.map fun t => (t, lke s0.env t)) t = if t ∈ sh.keep then some (lke s0.env t) else none := by
    intro t
    induction sh.keep with
    | nil => simp [lk]
    | cons q qs ih =>
      simp only [List.map_cons, lk, ih, List.mem_cons]
      by_cases e : q = t
      · subst e; simp
      · rw [if_neg e]; simp [Ne.symm e]
  have hkeepO : ∀ t, lk (sh.keepO.map fun t => (t, lko s0.obj t)) t = if t ∈ sh.keepO then some (lko s0.obj t) else none := by
    intro t
    induction sh.keepO with
    | nil => simp [lk]
    | cons q qs ih =>
      simp only [List.map_cons, lk, ih, List.mem_cons]
      by_cases e : q = t
      · subst e; simp
      · rw [if_neg e]; simp [Ne.symm e]
  have henv : ∀ t, (∃ d, (t, d) ∈ es ∧ lke (encS sh s0 v).env t = d) ∨ (t ∈ sh.keep ∧ lke (encS sh s0 v).env t = lke s0.env t) ∨ lke (encS sh s0 v).env t = .undef := by
    intro t
    have e1 : lke (encS sh s0 v).env t = (match lk es t with | some d => some d | none => if t ∈ sh.keep then some (lke s0.env t) else none).getD .undef := by
      rw [hS]
      show (lk (es ++ sh.keep.map (fun t => (t, lke s0.env t))) t).getD .undef = _
      rw [lk_append, hkeep t]
      cases lk es t <;> rfl
    rw [e1]
    cases he : lk es t with
    | some d => exact .inl ⟨d, lk_mem he, rfl⟩
    | none =>
      by_cases ht : t ∈ sh.keep
      · simp only [if_pos ht]; exact .inr (.inl ⟨ht, rfl⟩)
      · simp only [if_neg ht]; exact .inr (.inr rfl)
  have hobj : ∀ j o, lko (encS sh s0 v).obj j = some o → (∃ k' o1, (k', j) ∈ m.nm ∧ lko s'.obj k' = some o1 ∧ (denO o).sz = (denO o1).sz ∧ RowsW (DN m.nm) f (denO o1).rows (denO o).rows ∧ (∀ i ∈ orefs o, SN m.nm i)) ∨ (j ∈ sh.keepO ∧ lko s0.obj j = some o) := by
    intro j o hjo
    have e1 : lko (encS sh s0 v).obj j = (match lk xs j with | some d => some d | none => if j ∈ sh.keepO then some (lko s0.obj j) else none).join := by
      rw [hS]
      show (lk (xs ++ sh.keepO.map (fun k => (k, lko s0.obj k))) j).join = _
      rw [lk_append, hkeepO j]
      cases lk xs j <;> rfl
    rw [e1] at hjo
    cases he : lk xs j with
    | some x =>
      rw [he] at hjo
      obtain ⟨_, k', o1, o', b1, b2, b3, b4, b5, b6⟩ := pB _ (lk_mem he)
      simp only at b1 b2 hjo
      subst b1
      simp only [Option.join_some, Option.some.injEq] at hjo
      subst hjo
      exact .inl ⟨k', o1, b2, b3, b4, b5, b6⟩
    | none =>
      rw [he] at hjo
      by_cases hj : j ∈ sh.keepO
      · simp only [if_pos hj, Option.join_some] at hjo
        exact .inr ⟨hj, hjo⟩
      · simp [if_neg hj] at hjo
  have hnx : s0.nx ≤ sh.nx := n8
  have hkx : ∀ j, j ∈ sh.keepO ∨ (j, j) ∈ m.nm → j < sh.nx := fun j hj => hj.elim (fun hj => Nat.lt_of_lt_of_le (hko j hj).1 hnx) (fun h => hsn j ⟨j, h⟩)
  have hRW : ∀ {r q : List AV}, RowW (DN m.nm) f r q → RowW (fun j => DN m.nm j ∨ j ∈ sh.keepO) f r q := by
    intro r
    induction r with
    | nil => intro q h; cases q with
      | nil => trivial
      | cons => exact h.elim
    | cons x xs ih => intro q h; cases q with
      | nil => exact h.elim
      | cons y ys => exact ⟨⟨fun k hk => .inl (h.1.1 k hk), h.1.2⟩, ih h.2⟩
  have hRsW : ∀ {r q : List (List AV)}, RowsW (DN m.nm) f r q → RowsW (fun j => DN m.nm j ∨ j ∈ sh.keepO) f r q := by
    intro r
    induction r with
    | nil => intro q h; cases q with
      | nil => trivial
      | cons => exact h.elim
    | cons x xs ih => intro q h; cases q with
      | nil => exact h.elim
      | cons y ys => exact ⟨hRW h.1, ih h.2⟩
  refine ⟨v, h6, ?_, ?_, ?_⟩
  · constructor
    · rw [hS]; exact n9
    · rw [hS]; exact Nat.le_trans hl0.ge n8
    · intro t j hj
      have hnx' : (encS sh s0 v).nx = sh.nx := by rw [hS]
      rw [hnx']
      rcases henv t with ⟨d, h1, h2⟩ | ⟨h1, h2⟩ | h2
      · rw [h2] at hj
        exact hsn j ((pA _ h1).2.2.2 j hj)
      · rw [h2] at hj
        exact hkx j ((hke t h1).2.2 j hj)
      · rw [h2] at hj; simp [drefs] at hj
    · intro j o hjo
      have hnx' : (encS sh s0 v).nx = sh.nx := by rw [hS]
      rw [hnx']
      rcases hobj j o hjo with ⟨k', o1, b1, b2, b3, b4, b5⟩ | ⟨b1, b2⟩
      · exact ⟨hsn j ⟨k', b1⟩, fun i hi => hsn i (b5 i hi)⟩
      · obtain ⟨c1, o', c2, c3, c4⟩ := hko j b1
        rw [b2] at c2
        injection c2 with c2
        subst c2
        exact ⟨hkx j (.inl b1), fun i hi => hkx i (c4 i hi)⟩
  · refine ⟨fun t ht => ?_, ⟨(List.range s0.nx).filter (fun k => !sh.keepO.contains k), by rw [hS], fun j hj hn => ?_⟩, by rw [hS]; exact hnx⟩
    · rcases henv t with ⟨d, h1, h2⟩ | ⟨h1, h2⟩ | h2
      · exact (ht (hks _ h1)).elim
      · exact .inl h2
      · exact .inr h2
    · have hjk : j ∈ sh.keepO := by
        simpa [hj] using hn
      cases hjo : lko (encS sh s0 v).obj j with
      | none => exact .inr rfl
      | some o =>
        rcases hobj j o hjo with ⟨k', o1, b1, _⟩ | ⟨b1, b2⟩
        · exact ((List.nodup_append.1 n2).2.2 j (List.mem_map.2 ⟨(k', j), b1, rfl⟩) j hjk rfl).elim
        · exact .inl b2.symm
  · intro P w0 O0 N β I a w hr
    refine ⟨_, Rel.re (f := f) (g := g) (D := fun j => DN m.nm j ∨ j ∈ sh.keepO) hgf hg0 hr (fun _ => .inl rfl) (fun _ => rfl) (fun t => ?_) (fun j o' hj => ?_)⟩
    · show den (lke (encS sh s0 v).env t) = .undef ∨ ((∀ k ∈ refs (den (lke s'.env t)), _) ∧ Wkn (rnA f (den (lke s'.env t))) (den (lke (encS sh s0 v).env t)))
      rcases henv t with ⟨d, h1, h2⟩ | ⟨h1, h2⟩ | h2
      · right
        rw [h2]
        obtain ⟨_, b1, b2, _⟩ := pA _ h1
        exact ⟨fun k hk => .inl (b2 k (by rwa [drefs_den] at hk)), b1⟩
      · right
        obtain ⟨_, b1, b2⟩ := hke t h1
        rw [h2, b1]
        refine ⟨fun k hk => hdp k (b2 k (by rwa [drefs_den] at hk)), ?_⟩
        rw [← rnD_den, rnD_id _ (fun k hk => hfp k (b2 k hk))]
        exact Wkn.refl _
      · left; rw [h2]; rfl
    · simp only [DSt.st, Option.map_eq_some_iff] at hj
      obtain ⟨o, hjo, rfl⟩ := hj
      rcases hobj j o hjo with ⟨k', o1, b1, b2, b3, b4, b5⟩ | ⟨b1, b2⟩
      · exact ⟨k', denO o1, by simp [DSt.st, b2], .inl ⟨j, b1⟩, hf _ b1, b3, hRsW b4⟩
      · obtain ⟨c1, o', c2, c3, c4⟩ := hko j b1
        rw [b2] at c2
        injection c2 with c2
        subst c2
        have hid : rnO f o = o := by
          cases o with
          | lst c l => rfl
          | cells sz rows =>
            simp only [rnO]
            congr 1
            have : ∀ q ∈ rows, rnDL f q = q := fun q hq => rnDL_id q fun i hi => hfp i (c4 i (by
              simp only [orefs, List.mem_flatten, List.mem_map]
              exact ⟨_, ⟨q, hq, rfl⟩, hi⟩))
            rw [List.map_congr_left this]; simp
        obtain ⟨r1, r2⟩ := rowsW_den (D := fun j => DN m.nm j ∨ j ∈ sh.keepO) f o (fun i hi => hdp i (c4 i hi))
        rw [hid] at r1 r2
        exact ⟨j, denO o, by simp [DSt.st, c3], .inr b1, hfk j b1, r1, r2⟩

theorem Ext.trans {ds : Nat → Prop} {a b c : DSt X} (h : Ext ds a b) (h' : Ext ds b c) : Ext ds a c := by
  refine ⟨fun t ht => ?_, ?_, Nat.le_trans h.nx h'.nx⟩
  · rcases h'.env t ht with h1 | h1
    · rcases h.env t ht with h2 | h2
      · exact .inl (h1.trans h2)
      · exact .inr (h1.trans h2)
    · exact .inr h1
  · obtain ⟨d, h1, h2⟩ := h.obj
    obtain ⟨d', h3, h4⟩ := h'.obj
    refine ⟨d' ++ d, by rw [h3, h1, List.append_assoc], fun k hk hn => ?_⟩
    simp only [List.mem_append, not_or] at hn
    rcases h4 k (Nat.lt_of_lt_of_le hk h.nx) hn.1 with h5 | h5
    · rcases h2 k hk hn.2 with h6 | h6
      · exact .inl (h5.trans h6)
      · exact .inr (h5.trans h6)
    · exact .inr h5

theorem Ext.refl (ds : Nat → Prop) (s : DSt X) : Ext ds s s := ⟨fun _ _ => .inl rfl, ⟨[], by simp, fun _ _ _ => .inl rfl⟩, Nat.le_refl _⟩

/-- A state that says what another one says. -/
def Says (s s' : DSt X) : Prop := ∀ (P : Program) (w0 : World) (O0 : Was) (N : Nat) (β : Nat → Option Blk) (I : Nat → Prop) (a : Act) (w : World), Rel P w0 O0 N β I s.st a w → ∃ β', Rel P w0 O0 N β' I s'.st a w

theorem nil1_sound {ds : List Nat} {s : DSt X} {t : Nat} {c : CT X.ι} (hl : Low s) (ht : t ∈ ds) : Low (nil1 s t c) ∧ Ext (· ∈ ds) s (nil1 s t c) ∧ Says s (nil1 s t c) := by
  unfold nil1
  split
  · rename_i hn
    split
    · rename_i hlt
      have he : ∀ q, lke ((t, .own s.nx 0 0) :: s.env) q = if t = q then .own s.nx 0 0 else lke s.env q := fun q => by
        simp only [lke, lk]
        by_cases e : t = q <;> simp [e]
      have hO : ∀ q, lko ((s.nx, some (.lst c [])) :: s.obj) q = if s.nx = q then some (.lst c []) else lko s.obj q := fun q => by
        simp only [lko, lk]
        by_cases e : s.nx = q <;> simp [e]
      refine ⟨⟨by show s.nx + 1 ≤ 1000000; omega, by have := hl.ge; show 1000 ≤ s.nx + 1; omega, fun q k hk => ?_, fun k o ho => ?_⟩, ⟨fun q hq => ?_, ⟨[s.nx], rfl, fun k hk hnk => ?_⟩, by show s.nx ≤ s.nx + 1; omega⟩, fun P w0 O0 N β I a w hr => ?_⟩
      · rw [he] at hk
        split at hk
        · simp only [drefs, List.mem_singleton] at hk
          subst hk; show s.nx < s.nx + 1; omega
        · have := hl.env q k hk
          show k < s.nx + 1; omega
      · rw [hO] at ho
        split at ho
        · rename_i e
          injection ho with ho
          subst ho; subst e
          exact ⟨by show s.nx < s.nx + 1; omega, by simp [orefs]⟩
        · obtain ⟨h1, h2⟩ := hl.obj k o ho
          exact ⟨by show k < s.nx + 1; omega, fun j hj => by have := h2 j hj; show j < s.nx + 1; omega⟩
      · left
        rw [he, if_neg]
        intro e
        subst e
        exact hq ht
      · left
        rw [hO, if_neg (by omega)]
      · have hr1 := hr.restrict hl.old
        have hr2 := Rel.re (f := id) (g := fun j => if j < s.nx then j else 1000000) (D := (· < s.nx)) (s' := s.st) (fun k hk => if_pos hk) (fun j hj => if_pos (by have := hl.ge; omega)) hr1 (fun _ => .inl rfl) (fun _ => rfl)
          (fun q => .inr ⟨fun k hk => hl.env q k (by rw [← drefs_den]; exact hk), by
            show Wkn (rnA id (den (lke s.env q))) (den (lke s.env q))
            rw [← rnD_den, rnD_id (f := id) _ (fun _ _ => rfl)]
            exact Wkn.refl _⟩)
          (fun j o' hj => by
            simp only [DSt.st, Option.map_eq_some_iff] at hj
            obtain ⟨x, hx, rfl⟩ := hj
            obtain ⟨h1, h2⟩ := hl.obj j x hx
            obtain ⟨r1, r2⟩ := rowsW_den (D := (· < s.nx)) id x h2
            have hid : rnO id x = x := by
              cases x with
              | lst c l => rfl
              | cells sz rows =>
                simp only [rnO]
                congr 1
                have : ∀ q ∈ rows, rnDL id q = q := fun q _ => rnDL_id (f := id) q fun _ _ => rfl
                rw [List.map_congr_left this]; simp
            rw [hid] at r1 r2
            exact ⟨j, denO x, by simp [DSt.st, hx], h1, rfl, r1, r2⟩)
        obtain ⟨β2, hβ2, hr2⟩ : ∃ β2, β2 s.nx = none ∧ Rel P w0 O0 N β2 I s.st a w := ⟨_, by simp, hr2⟩
        obtain ⟨hS, hM⟩ := Mem.addNil (i := s.nx) (o := denO (.lst c [] : DObj X)) hr2.mem hβ2 rfl
        refine ⟨ins β2 s.nx .none, hr2.defers, hr2.size, fun q => ?_, ?_⟩
        · have h1 := hr2.env q
          show SlotR P _ w I (den (lke ((t, .own s.nx 0 0) :: s.env) q)) none _
          rw [he]
          by_cases e : t = q
          · subst e
            rw [if_pos rfl]
            have h2 : VR P _ w I (den (lke s.env t)) (a.tmps.getD t undef) := h1
            rw [hn] at h2
            simp only [den, VR] at h2
            simp only [SlotR, den, VR]
            exact .inl ⟨by simp [ins], h2, trivial, trivial⟩
          · rw [if_neg e]
            exact SlotR.mono hS.ext hS.same hS.inc h1
        · have e : (fun k => (lko ((s.nx, some (.lst c [])) :: s.obj) k).map denO) = updo s.st.obj [(s.nx, some (denO (.lst c [] : DObj X)))] := by
            funext q
            simp only [updo, DSt.st]
            rw [hO]
            by_cases e : s.nx = q
            · simp [e]
            · rw [if_neg e, if_neg (Ne.symm e)]
          show Mem P w0 O0 _ I (fun k => (lko ((s.nx, some (.lst c [])) :: s.obj) k).map denO) w
          rw [e]; exact hM
    · exact ⟨hl, Ext.refl _ s, fun _ _ _ _ β _ _ _ h => ⟨β, h⟩⟩
  · exact ⟨hl, Ext.refl _ s, fun _ _ _ _ β _ _ _ h => ⟨β, h⟩⟩

theorem nilAll_sound {ds : List Nat} : ∀ (l : List (Nat × CT X.ι)) {s : DSt X}, Low s → (∀ p ∈ l, p.1 ∈ ds) → Low (nilAll l s) ∧ Ext (· ∈ ds) s (nilAll l s) ∧ Says s (nilAll l s)
  | [], s, hl, _ => ⟨hl, Ext.refl _ s, fun _ _ _ _ β _ _ _ h => ⟨β, h⟩⟩
  | (t, c) :: r, s, hl, hd => by
    obtain ⟨h1, h2, h3⟩ := nil1_sound (c := c) hl (hd (t, c) (by simp))
    obtain ⟨g1, g2, g3⟩ := nilAll_sound r h1 (fun p hp => hd p (by simp [hp]))
    refine ⟨g1, h2.trans g2, fun P w0 O0 N β I a w hr => ?_⟩
    obtain ⟨β', hr'⟩ := h3 P w0 O0 N β I a w hr
    exact g3 P w0 O0 N β' I a w hr'

theorem matchS_sound {A : Type} {sh : Sh X.ι} {ds : List Nat} {s0 s' : DSt X} {k : VT (X := X) sh.vars → Option A} {r : A} (hl0 : Low s0) (hl' : Low s') (hx : Ext (· ∈ ds) s0 s') (h : matchS sh ds s0 s' k = some r) :
    ∃ v, k v = some r ∧ Low (encS sh s0 v) ∧ Ext (· ∈ ds) s0 (encS sh s0 v) ∧ Says s' (encS sh s0 v) := by
  unfold matchS at h
  obtain ⟨h1, h2⟩ := cond_some h
  obtain ⟨g1, g2, g3⟩ := nilAll_sound (ds := ds) sh.nils hl' (fun p hp => by simpa using List.all_eq_true.1 h1 p hp)
  obtain ⟨v, i1, i2, i3, i4⟩ := matchT_sound hl0 (hx.trans g2) h2
  refine ⟨v, i1, i2, i3, fun P w0 O0 N β I a w hr => ?_⟩
  obtain ⟨β', hr'⟩ := g3 P w0 O0 N β I a w hr
  exact i4 P w0 O0 N β' I a w hr'
end
end Go.Gb
