/-
  Code in the abstract walk: sequences, branches, blocks, loops, regions; the state is kept small and its names are kept low.
-/
import Derived.Test.YtihokdanilekmaaLiftP
namespace Go.Gb
open Go.RowKit

/-- What code does, seen in the abstract walk. -/
def Ev (P : Program) (N : Nat) (c : Code) (Q : Exit → St → Prop) (σ : St) : Prop :=
  ∀ (w0 : World) (O0 : Was) (β : Nat → Option Blk) (I : Nat → Prop) (a : Act) (w : World), Rel P w0 O0 N β I σ a w → Old σ →
    c.wp P (fun e a' w' => ∃ β' I' σ', Rel P w0 O0 N β' I' σ' a' w' ∧ Old σ' ∧ Q e σ') a w

def thenE (K : St → Prop) (Q : Exit → St → Prop) : Exit → St → Prop
  | .normal, σ => K σ
  | e, σ => Q e σ

def blockE (id : Nat) (Q : Exit → St → Prop) : Exit → St → Prop
  | .exit j, σ => if j = id then Q .normal σ else Q (.exit j) σ
  | e, σ => Q e σ

/-- A real loop by a number that each round lowers. -/
theorem wp_loop_n {P : Program} {c : Code} {Q : Exit → Act → World → Prop} (J : Nat → Act → World → Prop) (h0 : ∀ a w, ¬ J 0 a w) (round : ∀ n a w, J (n + 1) a w → c.wp P (Exit.then (J n) Q) a w) (n : Nat) (a : Act) (w : World) (h : J n a w) :
    (Code.loop c).wp P Q a w := by
  intro b k cs
  have key : ∀ n a w, J n a w → ∃ e a' w', Q e a' w' ∧ Arrives P (lone (b.at a (.code c :: .inLoop c :: k)) cs w) b k cs e a' w' := by
    intro n
    induction n with
    | zero => intro a w h; exact (h0 a w h).elim
    | succ n ih =>
      intro a w hI
      obtain ⟨e, a₁, w₁, hq, harr⟩ := round n a w hI b (.inLoop c :: k) cs
      cases e with
      | normal =>
        obtain ⟨e₂, a₂, w₂, hq₂, harr₂⟩ := ih a₁ w₁ hq
        exact ⟨e₂, a₂, w₂, hq₂, .of_steps (Steps.trans harr (.one step_inLoop)) harr₂⟩
      | exit id => exact ⟨_, a₁, w₁, hq, .pass (x := .inLoop c) rfl (fun _ _ => .inl (by simp)) harr⟩
      | goto l => exact ⟨_, a₁, w₁, hq, .pass (x := .inLoop c) rfl (fun _ _ => .inl (by simp)) harr⟩
      | ret => exact ⟨_, a₁, w₁, hq, .pass (x := .inLoop c) rfl (fun _ _ => .inl (by simp)) harr⟩
      | panic ch => exact ⟨_, a₁, w₁, hq, .pass (x := .inLoop c) rfl (fun _ _ => .inl (by simp)) harr⟩
      | outgrown => exact ⟨_, a₁, w₁, hq, .pass (x := .inLoop c) rfl (fun _ _ => .inl (by simp)) harr⟩
  obtain ⟨e, a', w', hq, harr⟩ := key n a w h
  exact ⟨e, a', w', hq, .of_steps (.one step_loop) harr⟩

section
variable {P : Program} {N : Nat} {Q : Exit → St → Prop} {σ : St}

theorem Ev.mono {c : Code} {Q' : Exit → St → Prop} (h : Ev P N c Q σ) (hq : ∀ e σ, Q e σ → Q' e σ) : Ev P N c Q' σ :=
  fun w0 O0 β I a w hr ho => wp_mono (h w0 O0 β I a w hr ho) fun _ _ _ ⟨β', I', σ', h1, h2, h3⟩ => ⟨β', I', σ', h1, h2, hq _ _ h3⟩

theorem ev_skip (h : Q .normal σ) : Ev P N .skip Q σ := fun _ _ β I _ _ hr ho => wp_skip ⟨β, I, σ, hr, ho, h⟩
theorem ev_exit {id : Nat} (h : Q (.exit id) σ) : Ev P N (.exit id) Q σ := fun _ _ β I _ _ hr ho => wp_exit ⟨β, I, σ, hr, ho, h⟩
theorem ev_ret (h : Q .ret σ) : Ev P N .ret Q σ := fun _ _ β I _ _ hr ho => wp_ret ⟨β, I, σ, hr, ho, h⟩
theorem ev_label {l : Nat} (h : Q .normal σ) : Ev P N (.label l) Q σ := fun _ _ β I _ _ hr ho => wp_label ⟨β, I, σ, hr, ho, h⟩

theorem ev_seq {x y : Code} (h : Ev P N x (thenE (Ev P N y Q) Q) σ) : Ev P N (.seq x y) Q σ := by
  intro w0 O0 β I a w hr ho
  refine wp_seq (wp_mono (h w0 O0 β I a w hr ho) ?_)
  rintro e a' w' ⟨β', I', σ', h1, h2, h3⟩
  cases e <;> first | exact h3 w0 O0 β' I' a' w' h1 h2 | exact ⟨β', I', σ', h1, h2, h3⟩

theorem ev_cond {c : Operand} {x y : Code} (b : Bool) (hk : ∀ t, c = .tmp t → σ.ok t = none) (hc : opv σ.env c = .t (.sc (.bool b))) (h : Ev P N (bif b then x else y) Q σ) : Ev P N (.cond c x y) Q σ := by
  intro w0 O0 β I a w hr ho
  have h1 := opv_one (P := P) (β := β) (w := w) (I := I) (σ := σ) (a := a) (x := c) (fun t ht => by
    have h1 := hr.env t
    rw [hk t ht] at h1; exact h1)
  rw [hc] at h1
  simp only [VR, TR] at h1
  refine wp_cond (t := b) h1.1 ?_
  cases b <;> exact h w0 O0 β I a w hr ho

theorem ev_block {id : Nat} {c : Code} (h : Ev P N c (blockE id Q) σ) : Ev P N (.block id c) Q σ := by
  intro w0 O0 β I a w hr ho
  refine wp_block (wp_mono (h w0 O0 β I a w hr ho) ?_)
  rintro e a' w' ⟨β', I', σ', h1, h2, h3⟩
  cases e with
  | exit j =>
    simp only [blockE] at h3
    simp only [Exit.inBlock]
    split
    · rw [if_pos ‹_›] at h3; exact ⟨β', I', σ', h1, h2, h3⟩
    · rw [if_neg ‹_›] at h3; exact ⟨β', I', σ', h1, h2, h3⟩
  | _ => exact ⟨β', I', σ', h1, h2, h3⟩

theorem ev_loop {c : Code} (J : Nat → St → Prop) (h0 : ∀ σ, ¬ J 0 σ) (round : ∀ n σ, J (n + 1) σ → Ev P N c (thenE (J n) Q) σ) (n : Nat) (h : J n σ) : Ev P N (.loop c) Q σ := by
  intro w0 O0 β I a w hr ho
  refine wp_loop_n (fun n a w => ∃ β I σ, Rel P w0 O0 N β I σ a w ∧ Old σ ∧ J n σ) (fun a w ⟨_, _, σ, _, _, h⟩ => h0 σ h) ?_ n a w ⟨β, I, σ, hr, ho, h⟩
  rintro n a w ⟨β, I, σ, hr, ho, hJ⟩
  refine wp_mono (round n σ hJ w0 O0 β I a w hr ho) ?_
  rintro e a' w' ⟨β', I', σ', h1, h2, h3⟩
  cases e <;> exact ⟨β', I', σ', h1, h2, h3⟩
end

/-- The value of a key in a list. -/
def lk {α : Type} : List (Nat × α) → Nat → Option α
  | [], _ => none
  | (j, x) :: r, k => if j = k then some x else lk r k

mutual
def ren (π : List (Nat × Nat)) : AV → AV
  | .own k off len => match lk π k with | some k' => .own k' off len | none => .undef
  | .ptr k row off => match lk π k with | some k' => .ptr k' row off | none => .undef
  | .agg cs => .agg (renL π cs)
  | .tup cs => .tup (renL π cs)
  | .fn f first caps => .fn f (renL π first) (renL π caps)
  | .t x => .t x
  | .rptr r o => .rptr r o
  | .clo φ => .clo φ
  | .nilsl => .nilsl
  | .undef => .undef
def renL (π : List (Nat × Nat)) : List AV → List AV
  | [] => []
  | x :: xs => ren π x :: renL π xs
end

structure LSt where
  env : List (Nat × AV)
  objs : List (Nat × AObj)

def LSt.st (L : LSt) : St := ⟨fun t => (lk L.env t).getD .undef, fun k => lk L.objs k, fun _ => none⟩

def renO (π : List (Nat × Nat)) (o : AObj) : AObj := ⟨o.sz, o.rows.map (renL π)⟩

theorem renL_av (π : List (Nat × Nat)) : ∀ (r : List Tree), renL π (r.map AV.t) = r.map AV.t
  | [] => rfl
  | x :: xs => by simp only [List.map_cons, renL, ren, renL_av π xs]

theorem renO_av (π : List (Nat × Nat)) (sz : Nat) (rows : List (List Tree)) : renO π ⟨sz, avRows rows⟩ = ⟨sz, avRows rows⟩ := by
  simp only [renO, avRows, List.map_map, AObj.mk.injEq, true_and]
  exact List.map_congr_left fun r _ => renL_av π r

/-- Each object that is kept, under its new name. -/
def RenAll (π : List (Nat × Nat)) : List (Nat × Option AObj) → List (Nat × AObj) → Prop
  | [], [] => True
  | (k, some o) :: r, (k', o') :: r' => k = k' ∧ o' = renO π o ∧ RenAll π r r'
  | _, _ => False

def canonO (σ : St) : List (Nat × Nat) → List (Nat × Option AObj)
  | [] => []
  | (k, k') :: r => (k', σ.obj k) :: canonO σ r

def canonE (π : List (Nat × Nat)) (σ : St) : List Nat → List (Nat × AV)
  | [] => []
  | t :: r => (t, match σ.ok t with | none => ren π (σ.env t) | some _ => .undef) :: canonE π σ r

/-- The new names are low, and no name is given twice; no object is named twice. -/
def piOk (π : List (Nat × Nat)) : Bool := π.all (fun p => decide (p.2 < 1000)) && decide (π.map (·.1)).Nodup && decide (π.map (·.2)).Nodup

theorem lk_mem {α : Type} : ∀ {l : List (Nat × α)} {k : Nat} {x : α}, lk l k = some x → (k, x) ∈ l
  | (j, y) :: r, k, x, h => by
    simp only [lk] at h
    split at h
    · injection h with h; subst h; rename_i e; subst e; simp
    · exact List.mem_cons_of_mem _ (lk_mem h)

theorem lk_of_mem {α : Type} : ∀ {l : List (Nat × α)} {k : Nat} {x : α}, (l.map (·.1)).Nodup → (k, x) ∈ l → lk l k = some x
  | (j, y) :: r, k, x, hn, h => by
    simp only [List.map_cons, List.nodup_cons] at hn
    simp only [lk]
    rcases List.mem_cons.1 h with h | h
    · injection h with h1 h2; subst h1; subst h2; simp
    · have hne : k ≠ j := fun e => hn.1 (List.mem_map.2 ⟨(k, x), h, e⟩)
      rw [if_neg (Ne.symm hne)]
      exact lk_of_mem hn.2 h

section
variable {P : Program} {w0 : World} {O0 : Was} {N : Nat} {β : Nat → Option Blk} {I : Nat → Prop} {σ : St} {a : Act} {w : World}

/-- Where the new names lie. -/
noncomputable def ren' (π : List (Nat × Nat)) (β : Nat → Option Blk) (k' : Nat) : Option Blk := (lk (π.map fun p => (p.2, p.1)) k').bind β

theorem ren'_eq {π : List (Nat × Nat)} (hp : piOk π = true) {k k' : Nat} (h : lk π k = some k') : ren' π β k' = β k := by
  simp only [piOk, Bool.and_eq_true, decide_eq_true_eq] at hp
  unfold ren'
  have : lk (π.map fun p => (p.2, p.1)) k' = some k := by
    refine lk_of_mem ?_ (List.mem_map.2 ⟨(k, k'), lk_mem h, rfl⟩)
    simp only [List.map_map]
    exact hp.2
  rw [this]; rfl

mutual
theorem VR.ren {π : List (Nat × Nat)} (hp : piOk π = true) : ∀ (x : AV) (v : Value), VR P β w I x v → VR P (ren' π β) w I (Gb.ren π x) v
  | .own k off len, v, h => by
    simp only [Gb.ren]
    cases hk : lk π k with
    | none => simp [VR]
    | some k' => simp only [VR, ren'_eq hp hk] at h ⊢; exact h
  | .ptr k row off, v, h => by
    simp only [Gb.ren]
    cases hk : lk π k with
    | none => simp [VR]
    | some k' => simp only [VR, ren'_eq hp hk] at h ⊢; exact h
  | .agg cs, v, h => by
    simp only [Gb.ren, VR] at h ⊢
    obtain ⟨vs, h1, h2⟩ := h
    exact ⟨vs, h1, VRl.ren hp cs _ h2⟩
  | .tup cs, v, h => by
    simp only [Gb.ren, VR] at h ⊢
    obtain ⟨vs, h1, h2⟩ := h
    exact ⟨vs, h1, VRl.ren hp cs _ h2⟩
  | .fn f first caps, v, h => by
    simp only [Gb.ren, VR] at h ⊢
    obtain ⟨fs, cs, h1, h2, h3⟩ := h
    exact ⟨fs, cs, h1, VRl.ren hp first _ h2, VRl.ren hp caps _ h3⟩
  | .t x, v, h => by simpa [Gb.ren, VR] using h
  | .rptr r o, v, h => by simpa [Gb.ren, VR] using h
  | .clo φ, v, h => by simpa [Gb.ren, VR] using h
  | .nilsl, v, h => by simpa [Gb.ren, VR] using h
  | .undef, v, h => by simp [Gb.ren, VR]
theorem VRl.ren {π : List (Nat × Nat)} (hp : piOk π = true) : ∀ (xs : List AV) (vs : List Value), VRl P β w I xs vs → VRl P (ren' π β) w I (renL π xs) vs
  | [], [], _ => by simp [renL, VRl]
  | x :: xs, v :: vs, h => by simp only [VRl] at h; simp only [renL, VRl]; exact ⟨VR.ren hp x v h.1, VRl.ren hp xs vs h.2⟩
  | [], _ :: _, h => by simp [VRl] at h
  | _ :: _, [], h => by simp [VRl] at h
end

mutual
theorem refs_ren {π : List (Nat × Nat)} (hp : piOk π = true) : ∀ (x : AV) (k : Nat), k ∈ refs (ren π x) → k < 1000
  | .own j off len, k, h => by
    simp only [ren] at h
    cases hj : lk π j with
    | none => simp [hj, refs] at h
    | some k' =>
      simp only [hj, refs, List.mem_singleton] at h
      subst h
      simp only [piOk, Bool.and_eq_true] at hp
      simpa using List.all_eq_true.1 hp.1.1 _ (lk_mem hj)
  | .ptr j row off, k, h => by
    simp only [ren] at h
    cases hj : lk π j with
    | none => simp [hj, refs] at h
    | some k' =>
      simp only [hj, refs, List.mem_singleton] at h
      subst h
      simp only [piOk, Bool.and_eq_true] at hp
      simpa using List.all_eq_true.1 hp.1.1 _ (lk_mem hj)
  | .agg cs, k, h => by simp only [ren, refs] at h; exact refsL_ren hp cs k h
  | .tup cs, k, h => by simp only [ren, refs] at h; exact refsL_ren hp cs k h
  | .fn f first caps, k, h => by
    simp only [ren, refs, List.mem_append] at h
    rcases h with h | h
    · exact refsL_ren hp first k h
    · exact refsL_ren hp caps k h
  | .t x, k, h => by simp [ren, refs] at h
  | .rptr r o, k, h => by simp [ren, refs] at h
  | .clo φ, k, h => by simp [ren, refs] at h
  | .nilsl, k, h => by simp [ren, refs] at h
  | .undef, k, h => by simp [ren, refs] at h
theorem refsL_ren {π : List (Nat × Nat)} (hp : piOk π = true) : ∀ (xs : List AV) (k : Nat), k ∈ refsL (renL π xs) → k < 1000
  | [], k, h => by simp [renL, refsL] at h
  | x :: xs, k, h => by
    simp only [renL, refsL, List.mem_append] at h
    rcases h with h | h
    · exact refs_ren hp x k h
    · exact refsL_ren hp xs k h
end

theorem renAll_spec {π : List (Nat × Nat)} : ∀ {os : List (Nat × Option AObj)} {l : List (Nat × AObj)} {k : Nat} {o' : AObj}, RenAll π os l → lk l k = some o' → ∃ o, (k, some o) ∈ os ∧ o' = renO π o
  | (j, some o) :: r, (j', oj) :: r', k, o', h, hk => by
    simp only [RenAll] at h
    obtain ⟨rfl, rfl, h3⟩ := h
    simp only [lk] at hk
    split at hk
    · injection hk with hk; subst hk
      rename_i e; subst e
      exact ⟨o, by simp, rfl⟩
    · obtain ⟨o2, g1, g2⟩ := renAll_spec h3 hk
      exact ⟨o2, List.mem_cons_of_mem _ g1, g2⟩
  | [], [], _, _, _, hk => by simp [lk] at hk
  | [], _ :: _, _, _, h, _ => by simp [RenAll] at h
  | (_, some _) :: _, [], _, _, h, _ => by simp [RenAll] at h
  | (_, none) :: _, _, _, _, h, _ => by simp [RenAll] at h

theorem canonO_spec {σ : St} : ∀ {π : List (Nat × Nat)} {k' : Nat} {o : AObj}, (k', some o) ∈ canonO σ π → ∃ k, (k, k') ∈ π ∧ σ.obj k = some o
  | (k, j) :: r, k', o, h => by
    simp only [canonO, List.mem_cons, Prod.mk.injEq] at h
    rcases h with ⟨rfl, h⟩ | h
    · exact ⟨k, by simp, h.symm⟩
    · obtain ⟨k2, h1, h2⟩ := canonO_spec h
      exact ⟨k2, List.mem_cons_of_mem _ h1, h2⟩
  | [], _, _, h => by simp [canonO] at h

theorem canonE_spec {π : List (Nat × Nat)} {σ : St} : ∀ {l : List Nat} {t : Nat} {x : AV}, lk (canonE π σ l) t = some x → x = .undef ∨ (σ.ok t = none ∧ x = ren π (σ.env t))
  | s :: r, t, x, h => by
    simp only [canonE, lk] at h
    split at h
    · rename_i e; subst e; injection h with h
      cases hk : σ.ok s with
      | none => rw [hk] at h; exact .inr ⟨rfl, h.symm⟩
      | some b => rw [hk] at h; exact .inl h.symm
    · exact canonE_spec h
  | [], _, _, h => by simp [canonE, lk] at h

/-- The state with what is kept alone, under new names. -/
theorem Rel.canon {L : LSt} {π : List (Nat × Nat)} {keep : List Nat} (hp : piOk π = true) (hE : canonE π σ keep = L.env) (hO : RenAll π (canonO σ π) L.objs) (hr : Rel P w0 O0 N β I σ a w) :
    Rel P w0 O0 N (ren' π β) I L.st a w ∧ Old L.st := by
  have hobj : ∀ k' o', lk L.objs k' = some o' → ∃ k o, lk π k = some k' ∧ σ.obj k = some o ∧ o' = renO π o := by
    intro k' o' hk
    obtain ⟨o, h1, h2⟩ := renAll_spec hO hk
    obtain ⟨k, h3, h4⟩ := canonO_spec h1
    have hn : (π.map (·.1)).Nodup := by simp only [piOk, Bool.and_eq_true, decide_eq_true_eq] at hp; exact hp.1.2
    exact ⟨k, o, lk_of_mem hn h3, h4, h2⟩
  have henv : ∀ t, (L.st.env t = .undef) ∨ (σ.ok t = none ∧ L.st.env t = ren π (σ.env t)) := by
    intro t
    simp only [LSt.st, ← hE]
    cases h : lk (canonE π σ keep) t with
    | none => exact .inl rfl
    | some x => exact canonE_spec h
  refine ⟨⟨hr.defers, hr.size, fun t => ?_, ?_⟩, ⟨fun t k hk => ?_, fun k o hk => ?_⟩⟩
  · show VR P (ren' π β) w I (L.st.env t) _
    rcases henv t with h | ⟨hk, h⟩
    · rw [h]; simp [VR]
    · have h1 := hr.env t
      rw [hk] at h1
      rw [h]; exact VR.ren hp _ _ h1
  · have hm := hr.mem
    constructor
    · intro k' o' hk
      obtain ⟨k, o, h1, h2, rfl⟩ := hobj k' o' hk
      obtain ⟨B, hB, hOR⟩ := hm.objs k o h2
      refine ⟨B, by rw [ren'_eq hp h1]; exact hB, ?_⟩
      cases B with
      | none => simp only [OR, renO] at hOR ⊢; rw [hOR]; rfl
      | «at» b s n =>
        obtain ⟨g1, c, e, g2, g3, g4⟩ := hOR
        refine ⟨g1, c, e, g2, g3, ?_⟩
        rw [ORows_iff] at g4 ⊢
        intro i r hi
        simp only [renO, List.getElem?_map, Option.map_eq_some_iff] at hi
        obtain ⟨r0, hr0, rfl⟩ := hi
        obtain ⟨q1, q2⟩ := g4 i r0 hr0
        have hlen : ∀ l : List AV, (renL π l).length = l.length := by
          intro l; induction l with
          | nil => rfl
          | cons x xs ih => simp [renL, ih]
        have hget : ∀ (l : List AV) (j : Nat), (renL π l)[j]? = (l[j]?).map (ren π) := by
          intro l; induction l with
          | nil => intro j; simp [renL]
          | cons x xs ih => intro j; cases j with
            | zero => simp [renL]
            | succ j => simp [renL, ih j]
        refine ⟨by rw [hlen]; exact q1, ?_⟩
        rw [ORow_iff] at q2 ⊢
        intro j x hx
        rw [hget, Option.map_eq_some_iff] at hx
        obtain ⟨x0, hx0, rfl⟩ := hx
        obtain ⟨v, p1, p2, p3⟩ := q2 j x0 hx0
        exact ⟨v, p1, VR.ren hp _ _ p2, p3⟩
    · intro k k' o o' b s n s' n' h1 h2 h3 h4
      obtain ⟨j, oj, g1, g2, _⟩ := hobj k o h1
      obtain ⟨j', oj', g3, g4, _⟩ := hobj k' o' h2
      rw [ren'_eq hp g1] at h3
      rw [ren'_eq hp g3] at h4
      have := hm.inj j j' oj oj' b s n s' n' g2 g4 h3 h4
      subst this
      rw [g1] at g3; injection g3
    · intro k o b s n h1 h2
      obtain ⟨j, oj, g1, g2, _⟩ := hobj k o h1
      rw [ren'_eq hp g1] at h2
      exact hm.own j oj b s n g2 h2
    · exact hm.lt
    · exact hm.up
    · exact hm.keep
    · exact hm.le
    · exact hm.os
    · exact hm.tape
    · exact hm.output
  · rcases henv t with h | ⟨_, h⟩
    · rw [h] at hk; simp [refs] at hk
    · rw [h] at hk; exact refs_ren hp _ k hk
  · obtain ⟨j, oj, g1, g2, rfl⟩ := hobj k o hk
    refine ⟨?_, fun r hr' x hx i hi => ?_⟩
    · simp only [piOk, Bool.and_eq_true] at hp
      simpa using List.all_eq_true.1 hp.1.1 _ (lk_mem g1)
    · simp only [renO, List.mem_map] at hr'
      obtain ⟨r0, _, rfl⟩ := hr'
      have hmem : ∀ (l : List AV) (x : AV), x ∈ renL π l → ∃ y, x = ren π y := by
        intro l; induction l with
        | nil => intro x hx; simp [renL] at hx
        | cons y ys ih => intro x hx; simp only [renL, List.mem_cons] at hx; rcases hx with rfl | hx
                          · exact ⟨y, rfl⟩
                          · exact ih x hx
      obtain ⟨y, rfl⟩ := hmem r0 x hx
      exact refs_ren hp y i hi
end
end Go.Gb
