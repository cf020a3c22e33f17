/-
  Code in the abstract walk: sequences, branches, blocks, loops, regions; the state is kept small and its names are kept low.
-/
import Derived.Test.YtgmmcfpjmkhmhaaGP
namespace Go.Gb
open Go.RowKit

/-- What code does, seen in the abstract walk. -/
def Ev (P : Program) (N : Nat) (c : Code) (Q : Exit → St → Prop) (σ : St) : Prop :=
  ∀ (w0 : World) (O0 : Was) (β : Nat → Option Blk) (I : Nat → Prop) (a : Act) (w : World), Rel P w0 O0 N β I σ a w → Old σ →
    c.wp P (fun e a' w' => ∃ β' I' σ', Rel P w0 O0 N β' I' σ' a' w' ∧ Old σ' ∧ Q e σ') a w

def thenE (K : St → Prop) (Q : Exit → St → Prop) : Exit → St → Prop
  | .normal, σ => K σ
  | e, σ => Q e σ

def blockE (id : Nat) (Q : Exit → St → Prop) : Exit → St → Prop
  | .exit j, σ => if j = id then Q .normal σ else Q (.exit j) σ
  | e, σ => Q e σ

/-- A real loop by a number that each round lowers. -/
theorem wp_loop_n {P : Program} {c : Code} {Q : Exit → Act → World → Prop} (J : Nat → Act → World → Prop) (h0 : ∀ a w, ¬ J 0 a w) (round : ∀ n a w, J (n + 1) a w → c.wp P (Exit.then (J n) Q) a w) (n : Nat) (a : Act) (w : World) (h : J n a w) :
    (Code.loop c).wp P Q a w := by
  intro b k cs
  have key : ∀ n a w, J n a w → ∃ e a' w', Q e a' w' ∧ Arrives P (lone (b.at a (.code c :: .inLoop c :: k)) cs w) b k cs e a' w' := by
    intro n
    induction n with
    | zero => intro a w h; exact (h0 a w h).elim
    | succ n ih =>
      intro a w hI
      obtain ⟨e, a₁, w₁, hq, harr⟩ := round n a w hI b (.inLoop c :: k) cs
      cases e with
      | normal =>
        obtain ⟨e₂, a₂, w₂, hq₂, harr₂⟩ := ih a₁ w₁ hq
        exact ⟨e₂, a₂, w₂, hq₂, .of_steps (Steps.trans harr (.one step_inLoop)) harr₂⟩
      | exit id => exact ⟨_, a₁, w₁, hq, .pass (x := .inLoop c) rfl (fun _ _ => .inl (by simp)) harr⟩
      | goto l => exact ⟨_, a₁, w₁, hq, .pass (x := .inLoop c) rfl (fun _ _ => .inl (by simp)) harr⟩
      | ret => exact ⟨_, a₁, w₁, hq, .pass (x := .inLoop c) rfl (fun _ _ => .inl (by simp)) harr⟩
      | panic ch => exact ⟨_, a₁, w₁, hq, .pass (x := .inLoop c) rfl (fun _ _ => .inl (by simp)) harr⟩
      | outgrown => exact ⟨_, a₁, w₁, hq, .pass (x := .inLoop c) rfl (fun _ _ => .inl (by simp)) harr⟩
  obtain ⟨e, a', w', hq, harr⟩ := key n a w h
  exact ⟨e, a', w', hq, .of_steps (.one step_loop) harr⟩

section
variable {P : Program} {N : Nat} {Q : Exit → St → Prop} {σ : St}

theorem Ev.mono {c : Code} {Q' : Exit → St → Prop} (h : Ev P N c Q σ) (hq : ∀ e σ, Q e σ → Q' e σ) : Ev P N c Q' σ :=
  fun w0 O0 β I a w hr ho => wp_mono (h w0 O0 β I a w hr ho) fun _ _ _ ⟨β', I', σ', h1, h2, h3⟩ => ⟨β', I', σ', h1, h2, hq _ _ h3⟩

theorem ev_skip (h : Q .normal σ) : Ev P N .skip Q σ := fun _ _ β I _ _ hr ho => wp_skip ⟨β, I, σ, hr, ho, h⟩
theorem ev_exit {id : Nat} (h : Q (.exit id) σ) : Ev P N (.exit id) Q σ := fun _ _ β I _ _ hr ho => wp_exit ⟨β, I, σ, hr, ho, h⟩
theorem ev_ret (h : Q .ret σ) : Ev P N .ret Q σ := fun _ _ β I _ _ hr ho => wp_ret ⟨β, I, σ, hr, ho, h⟩
theorem ev_label {l : Nat} (h : Q .normal σ) : Ev P N (.label l) Q σ := fun _ _ β I _ _ hr ho => wp_label ⟨β, I, σ, hr, ho, h⟩

theorem ev_seq {x y : Code} (h : Ev P N x (thenE (Ev P N y Q) Q) σ) : Ev P N (.seq x y) Q σ := by
  intro w0 O0 β I a w hr ho
  refine wp_seq (wp_mono (h w0 O0 β I a w hr ho) ?_)
  rintro e a' w' ⟨β', I', σ', h1, h2, h3⟩
  cases e <;> first | exact h3 w0 O0 β' I' a' w' h1 h2 | exact ⟨β', I', σ', h1, h2, h3⟩

theorem ev_cond {c : Operand} {x y : Code} (b : Bool) (hk : ∀ t, c = .tmp t → σ.ok t = none) (hc : opv σ.env c = .t (.sc (.bool b))) (h : Ev P N (bif b then x else y) Q σ) : Ev P N (.cond c x y) Q σ := by
  intro w0 O0 β I a w hr ho
  have h1 := opv_one (P := P) (β := β) (w := w) (I := I) (σ := σ) (a := a) (x := c) (fun t ht => by
    have h1 := hr.env t
    rw [hk t ht] at h1; exact h1)
  rw [hc] at h1
  simp only [VR, TR] at h1
  refine wp_cond (t := b) h1.1 ?_
  cases b <;> exact h w0 O0 β I a w hr ho

/-- A condition of which nothing is known. -/
theorem ev_cond_ub {c : Operand} {x y : Code} (hk : ∀ t, c = .tmp t → σ.ok t = none) (hc : opv σ.env c = .ub) (h1 : Ev P N x Q σ) (h2 : Ev P N y Q σ) : Ev P N (.cond c x y) Q σ := by
  intro w0 O0 β I a w hr ho
  have h3 := opv_one (P := P) (β := β) (w := w) (I := I) (σ := σ) (a := a) (x := c) (fun t ht => by
    have h1 := hr.env t
    rw [hk t ht] at h1; exact h1)
  rw [hc] at h3
  simp only [VR] at h3
  obtain ⟨b, hb⟩ := h3
  refine wp_cond (t := b) hb ?_
  cases b
  · exact h2 w0 O0 β I a w hr ho
  · exact h1 w0 O0 β I a w hr ho

theorem ev_block {id : Nat} {c : Code} (h : Ev P N c (blockE id Q) σ) : Ev P N (.block id c) Q σ := by
  intro w0 O0 β I a w hr ho
  refine wp_block (wp_mono (h w0 O0 β I a w hr ho) ?_)
  rintro e a' w' ⟨β', I', σ', h1, h2, h3⟩
  cases e with
  | exit j =>
    simp only [blockE] at h3
    simp only [Exit.inBlock]
    split
    · rw [if_pos ‹_›] at h3; exact ⟨β', I', σ', h1, h2, h3⟩
    · rw [if_neg ‹_›] at h3; exact ⟨β', I', σ', h1, h2, h3⟩
  | _ => exact ⟨β', I', σ', h1, h2, h3⟩

theorem ev_loop {c : Code} (J : Nat → St → Prop) (h0 : ∀ σ, ¬ J 0 σ) (round : ∀ n σ, J (n + 1) σ → Ev P N c (thenE (J n) Q) σ) (n : Nat) (h : J n σ) : Ev P N (.loop c) Q σ := by
  intro w0 O0 β I a w hr ho
  refine wp_loop_n (fun n a w => ∃ β I σ, Rel P w0 O0 N β I σ a w ∧ Old σ ∧ J n σ) (fun a w ⟨_, _, σ, _, _, h⟩ => h0 σ h) ?_ n a w ⟨β, I, σ, hr, ho, h⟩
  rintro n a w ⟨β, I, σ, hr, ho, hJ⟩
  refine wp_mono (round n σ hJ w0 O0 β I a w hr ho) ?_
  rintro e a' w' ⟨β', I', σ', h1, h2, h3⟩
  cases e <;> exact ⟨β', I', σ', h1, h2, h3⟩
end

/-- The value of a key in a list. -/
def lk {α : Type} : List (Nat × α) → Nat → Option α
  | [], _ => none
  | (j, x) :: r, k => if j = k then some x else lk r k

structure LSt where
  env : List (Nat × AV)
  objs : List (Nat × AObj)

def LSt.st (L : LSt) : St := ⟨fun t => (lk L.env t).getD .undef, fun k => lk L.objs k, fun _ => none⟩

theorem lk_mem {α : Type} : ∀ {l : List (Nat × α)} {k : Nat} {x : α}, lk l k = some x → (k, x) ∈ l
  | (j, y) :: r, k, x, h => by
    simp only [lk] at h
    split at h
    · injection h with h; subst h; rename_i e; subst e; simp
    · exact List.mem_cons_of_mem _ (lk_mem h)

theorem lk_of_mem {α : Type} : ∀ {l : List (Nat × α)} {k : Nat} {x : α}, (l.map (·.1)).Nodup → (k, x) ∈ l → lk l k = some x
  | (j, y) :: r, k, x, hn, h => by
    simp only [List.map_cons, List.nodup_cons] at hn
    simp only [lk]
    rcases List.mem_cons.1 h with h | h
    · injection h with h1 h2; subst h1; subst h2; simp
    · have hne : k ≠ j := fun e => hn.1 (List.mem_map.2 ⟨(k, x), h, e⟩)
      rw [if_neg (Ne.symm hne)]
      exact lk_of_mem hn.2 h

end Go.Gb
