/-
  Code in the typed walk.
-/
import Derived.Test.YtgmmcfpjmkhmhaaXM
namespace Go.Gb
open Go.RowKit

/-- What a printed function says of a piece of code: its joins and its loops. -/
inductive Hn (ι : Type) where
  | z
  | f (l : List Nat)
  | s (a b : Hn ι)
  | b (a : Hn ι)
  | j (sh : Sh ι) (a : Hn ι)
  | jx (sh : Sh ι) (a : Hn ι)
  | l (head : Sh ι) (id : Nat) (out : Sh ι) (a : Hn ι)
  | lx (head : Sh ι) (id : Nat) (out : Sh ι) (a : Hn ι)

def Hn.fz {ι : Type} : Hn ι → List Nat
  | .f is => is
  | _ => []
def Hn.fst {ι : Type} : Hn ι → Hn ι
  | .s a _ => a
  | _ => .z
def Hn.snd {ι : Type} : Hn ι → Hn ι
  | .s _ y => y
  | _ => .z
def Hn.sub {ι : Type} : Hn ι → Hn ι
  | .b a => a
  | _ => .z

/-- The slots that a piece of code writes. -/
def dstsC : Code → List Nat
  | .region _ ops _ => ops.toList.filterMap (·.dst)
  | .seq a b => dstsC a ++ dstsC b
  | .cond _ a b => dstsC a ++ dstsC b
  | .block _ b => dstsC b
  | .loop b => dstsC b
  | _ => []

/-- A loop: rounds until one comes out. -/
def iter {V O : Type} (step : V → Option (V ⊕ O)) : Nat → V → Option O
  | 0, _ => none
  | n + 1, v => (step v).bind fun r => match r with
    | .inl v => iter step n v
    | .inr o => some o

def thenB {W A : Type} (o : Option (W ⊕ A)) (f : W → Option A) : Option A := o.bind fun r => match r with
  | .inl w => f w
  | .inr a => some a

/-- Two ways, of which nobody knows which is taken: they must come to the same. -/
noncomputable def both {A : Type} (x y : Option A) : Option A := open Classical in if x = y then x else none

theorem both_some {A : Type} {x y : Option A} {r : A} (h : both x y = some r) : x = some r ∧ y = some r := by
  unfold both at h
  split at h
  · rename_i e; exact ⟨h, e ▸ h⟩
  · cases h

theorem both_same {A : Type} (x : Option A) : both x x = x := by simp [both]

section
variable {X : SX}

def wrapJ (ds : List Nat) (s : DSt X) (h : Hn X.ι) {A : Type} (k : Exit → DSt X → Option A) (body : (B : Type) → Hn X.ι → (Exit → DSt X → Option B) → Option B) : Option A :=
  match h with
  | .j sh h' => (body (VT (X := X) sh.vars) h' fun e s' => match e with
      | .normal => matchS sh ds s s' some
      | _ => none).bind fun v => k .normal (encS sh s v)
  | .jx sh h' => thenB (body (VT (X := X) sh.vars ⊕ A) h' fun e s' => match e with
      | .normal => matchS sh ds s s' fun v => some (.inl v)
      | e => (k e s').map .inr) fun v => k .normal (encS sh s v)
  | h => body A h k

variable (Γ : FuncId → Option (Sig X)) (T : Tab) (code : TypeId → Option (CT X.ι)) (N n : Nat)

noncomputable def run : Code → (A : Type) → Hn X.ι → DSt X → (Exit → DSt X → Option A) → Option A
  | .skip, _, _, s, k => k .normal s
  | .region id ops d, A, h, s, k => wrapJ (dstsC (.region id ops d)) s h k fun _ h k => runReg Γ h.fz T code N ops d s (k .normal)
  | .seq x y, A, h, s, k => wrapJ (dstsC (.seq x y)) s h k fun B h k => run x B h.fst s fun e s' => match e with
      | .normal => run y B h.snd s' k
      | e => k e s'
  | .cond c x y, A, h, s, k => wrapJ (dstsC (.cond c x y)) s h k fun B h k => match opvD (lke s.env) c with
      | .c .bool v => bif v then run x B h.fst s k else run y B h.snd s k
      | .ub => both (run x B h.fst s k) (run y B h.snd s k)
      | _ => none
  | .block id b, A, h, s, k => wrapJ (dstsC (.block id b)) s h k fun B h k => run b B h.sub s fun e s' => match e with
      | .exit j => if j = id then k .normal s' else k (.exit j) s'
      | e => k e s'
  | .loop b, A, h, s, k => match h with
      | .l hd id out h' => matchS hd (dstsC b) s s fun v0 => (iter (fun v => run b (VT (X := X) hd.vars ⊕ VT (X := X) out.vars) h' (encS hd s v) fun e s' => match e with
          | .normal => matchS hd (dstsC b) s s' fun v => some (.inl v)
          | .exit j => if j = id then matchS out (dstsC b) s s' fun w => some (.inr w) else none
          | _ => none) n v0).bind fun w => k (.exit id) (encS out s w)
      | .lx hd id out h' => matchS hd (dstsC b) s s fun v0 => thenB (iter (fun v => run b (VT (X := X) hd.vars ⊕ (VT (X := X) out.vars ⊕ A)) h' (encS hd s v) fun e s' => match e with
          | .normal => matchS hd (dstsC b) s s' fun v => some (.inl v)
          | .exit j => if j = id then matchS out (dstsC b) s s' fun w => some (.inr (.inl w)) else (k (.exit j) s').map fun a => .inr (.inr a)
          | e => (k e s').map fun a => .inr (.inr a)) n v0) fun w => k (.exit id) (encS out s w)
      | _ => none
  | .exit id, _, _, s, k => k (.exit id) s
  | .ret, _, _, s, k => k .ret s
  | .label _, _, _, s, k => k .normal s
  | _, _, _, _, _ => none

section
variable {Γ : FuncId → Option (Sig X)} {T : Tab} {code : TypeId → Option (CT X.ι)} {N n : Nat} {P : Program}

theorem Ext.wide {ds ds' : Nat → Prop} {a b : DSt X} (h : Ext ds a b) (hd : ∀ t, ds t → ds' t) : Ext ds' a b := ⟨fun t ht => h.env t fun hh => ht (hd t hh), h.obj, h.nx⟩

/-- How a piece of code comes out. -/
def PostQ {A : Type} (ds : List Nat) (s : DSt X) (k : Exit → DSt X → Option A) (r : A) (e : Exit) (σ : St) : Prop := ∃ s', Low s' ∧ Ext (· ∈ ds) s s' ∧ σ = s'.st ∧ k e s' = some r

theorem ev_post {c : Code} {Q Q' : Exit → St → Prop} {σ : St} (h : Ev P N c Q σ) (ht : ∀ e σ, Q e σ → ∀ w0 O0 β I a w, Rel P w0 O0 N β I σ a w → ∃ β' σ', Rel P w0 O0 N β' I σ' a w ∧ Old σ' ∧ Q' e σ') : Ev P N c Q' σ := by
  intro w0 O0 β I a w hr ho
  refine wp_mono (h w0 O0 β I a w hr ho) ?_
  rintro e a' w' ⟨β', I', σ', h1, _, h3⟩
  obtain ⟨β2, σ2, g1, g2, g3⟩ := ht e σ' h3 w0 O0 β' I' a' w' h1
  exact ⟨β2, I', σ2, g1, g2, g3⟩

theorem map_inr {α β : Type} {o : Option β} {r : α ⊕ β} (h : o.map Sum.inr = some r) : ∃ b, o = some b ∧ r = .inr b := by
  cases o with
  | none => cases h
  | some b => injection h with h; exact ⟨b, rfl, h.symm⟩

theorem wrap_sound {c : Code} {s : DSt X} {h : Hn X.ι} {A : Type} {k : Exit → DSt X → Option A} {r : A} {body : (B : Type) → Hn X.ι → (Exit → DSt X → Option B) → Option B} (hl : Low s)
    (hb : ∀ (B : Type) (h : Hn X.ι) (k : Exit → DSt X → Option B) (r : B), body B h k = some r → Ev P N c (PostQ (dstsC c) s k r) s.st) (hr : wrapJ (dstsC c) s h k body = some r) : Ev P N c (PostQ (dstsC c) s k r) s.st := by
  unfold wrapJ at hr
  split at hr
  · rename_i sh h'
    rw [Option.bind_eq_some_iff] at hr; obtain ⟨v, h1, hr⟩ := hr
    refine ev_post (hb _ _ _ _ h1) ?_
    rintro e σ ⟨s', g1, g2, rfl, g4⟩ w0 O0 β I a w hrel
    cases e <;> simp only [reduceCtorEq] at g4
    obtain ⟨v', i1, i2, i3, i4⟩ := matchS_sound hl g1 g2 g4
    injection i1 with i1
    subst i1
    obtain ⟨β', i5⟩ := i4 P w0 O0 N β I a w hrel
    exact ⟨β', _, i5, i2.old, _, i2, i3, rfl, hr⟩
  · rename_i sh h'
    unfold thenB at hr
    rw [Option.bind_eq_some_iff] at hr; obtain ⟨v, h1, hr⟩ := hr
    refine ev_post (hb _ _ _ _ h1) ?_
    rintro e σ ⟨s', g1, g2, rfl, g4⟩ w0 O0 β I a w hrel
    have other : (k e s').map Sum.inr = some v → ∃ β' σ', Rel P w0 O0 N β' I σ' a w ∧ Old σ' ∧ PostQ (dstsC c) s k r e σ' := by
      intro hm
      obtain ⟨b, hk, rfl⟩ := map_inr hm
      injection hr with hr
      subst hr
      exact ⟨β, _, hrel, g1.old, s', g1, g2, rfl, hk⟩
    cases e with
    | normal =>
      simp only at g4
      obtain ⟨v', i1, i2, i3, i4⟩ := matchS_sound hl g1 g2 g4
      injection i1 with i1
      subst i1
      obtain ⟨β', i5⟩ := i4 P w0 O0 N β I a w hrel
      exact ⟨β', _, i5, i2.old, _, i2, i3, rfl, hr⟩
    | _ => exact other g4
  · exact hb _ _ _ _ hr

theorem isDst_mem {id : Nat} {ops : Array Oper} {d : Bool} {t : Nat} (h : IsDst ops t) : t ∈ dstsC (.region id ops d) := by
  obtain ⟨j, op, h1, h2⟩ := h
  simp only [dstsC, List.mem_filterMap]
  exact ⟨op, by rw [← Array.getElem?_toList] at h1; exact List.mem_of_getElem? h1, h2⟩

/-- A loop in the typed walk. -/
theorem loop_sound {b : Code} {s : DSt X} {hd : Sh X.ι} {O : Type} {step : VT (X := X) hd.vars → Option (VT (X := X) hd.vars ⊕ O)} {kb : Exit → DSt X → Option (VT (X := X) hd.vars ⊕ O)} {Q : Exit → St → Prop} (hl : Low s)
    (hkn : ∀ s', kb .normal s' = matchS hd (dstsC b) s s' fun v => some (.inl v))
    (hstep : ∀ v r, Low (encS hd s v) → step v = some r → Ev P N b (PostQ (dstsC b) (encS hd s v) kb r) (encS hd s v).st)
    {o : O} (hQ : ∀ e s', e ≠ .normal → Low s' → Ext (· ∈ dstsC b) s s' → kb e s' = some (.inr o) → ∀ w0 O0 β I a w, Rel P w0 O0 N β I s'.st a w → ∃ β' σ', Rel P w0 O0 N β' I σ' a w ∧ Old σ' ∧ Q e σ')
    (hno : ∀ e s' v, e ≠ .normal → kb e s' = some (.inl v) → False) (n : Nat) (v0 : VT (X := X) hd.vars) (h : iter step n v0 = some o) (hl0 : Low (encS hd s v0)) (hx0 : Ext (· ∈ dstsC b) s (encS hd s v0)) : Ev P N (.loop b) Q (encS hd s v0).st := by
  intro w0 O0 β I a w hr ho
  refine wp_loop_n (fun n a w => ∃ β I v, Rel P w0 O0 N β I (encS hd s v).st a w ∧ iter step n v = some o ∧ Low (encS hd s v) ∧ Ext (· ∈ dstsC b) s (encS hd s v)) (fun a w ⟨_, _, v, _, h, _⟩ => by cases h) ?_ n a w ⟨β, I, v0, hr, h, hl0, hx0⟩
  rintro n a w ⟨β, I, v, hr, hi, hlv, hxv⟩
  simp only [iter] at hi
  rw [Option.bind_eq_some_iff] at hi; obtain ⟨r, h1, hi⟩ := hi
  refine wp_mono (hstep v r hlv h1 w0 O0 β I a w hr hlv.old) ?_
  rintro e a' w' ⟨β', I', σ', g1, _, s', g2, g3, rfl, g4⟩
  have hxs := hxv.trans g3
  by_cases he : e = .normal
  · subst he
    rw [hkn] at g4
    obtain ⟨v', i1, i2, i3, i4⟩ := matchS_sound hl g2 hxs g4
    injection i1 with i1
    subst i1
    obtain ⟨β2, i5⟩ := i4 P w0 O0 N β' I' a' w' g1
    exact ⟨β2, I', v', i5, hi, i2, i3⟩
  · cases r with
    | inl v' => exact (hno e s' v' he g4).elim
    | inr o' =>
      injection hi with hi
      subst hi
      obtain ⟨β2, σ2, i1, i2, i3⟩ := hQ e s' he g2 hxs g4 w0 O0 β' I' a' w' g1
      cases e with
      | normal => exact (he rfl).elim
      | _ => exact ⟨β2, I', σ2, i1, i2, i3⟩

theorem matchS_val {A : Type} {sh : Sh X.ι} {ds : List Nat} {s0 s' : DSt X} {k : VT (X := X) sh.vars → Option A} {r : A} (h : matchS sh ds s0 s' k = some r) : ∃ v, k v = some r := by
  unfold matchS at h
  obtain ⟨_, h⟩ := cond_some h
  unfold matchT at h
  rw [Option.bind_eq_some_iff] at h; obtain ⟨m1, h1, h⟩ := h
  rw [Option.bind_eq_some_iff] at h; obtain ⟨m, h2, h⟩ := h
  obtain ⟨h3, h⟩ := cond_some h
  rw [Option.bind_eq_some_iff] at h; obtain ⟨v, h4, h⟩ := h
  exact ⟨v, (chkA_some h).2⟩

theorem map_inr2 {α β γ : Type} {o : Option γ} {r : α ⊕ (β ⊕ γ)} (h : o.map (fun a => Sum.inr (Sum.inr a)) = some r) : ∃ b, o = some b ∧ r = .inr (.inr b) := by
  cases o with
  | none => cases h
  | some b => injection h with h; exact ⟨b, rfl, h.symm⟩

theorem run_sound (hT : TabOk P T) (hm : P.follows .mixedOrders = true) (hΓ : GOk P Γ) : ∀ (c : Code) (A : Type) (h : Hn X.ι) (s : DSt X) (k : Exit → DSt X → Option A) (r : A), Low s → run Γ T code N n c A h s k = some r → Ev P N c (PostQ (dstsC c) s k r) s.st
  | .skip, A, h, s, k, r, hl, hr => ev_skip ⟨s, hl, Ext.refl _ s, rfl, hr⟩
  | .exit id, A, h, s, k, r, hl, hr => ev_exit ⟨s, hl, Ext.refl _ s, rfl, hr⟩
  | .ret, A, h, s, k, r, hl, hr => ev_ret ⟨s, hl, Ext.refl _ s, rfl, hr⟩
  | .label l, A, h, s, k, r, hl, hr => ev_label ⟨s, hl, Ext.refl _ s, rfl, hr⟩
  | .region id ops d, A, h, s, k, r, hl, hr => by
    refine wrap_sound hl (fun B h k r hb => ?_) hr
    obtain ⟨s', g1, g2, g3, g4⟩ := runReg_sound (id := id) hT hm hΓ hl hb
    exact g4.mono fun e σ ⟨he, hσ⟩ => ⟨s', g2, g3.wide fun t ht => isDst_mem ht, hσ, by rw [he]; exact g1⟩
  | .seq x y, A, h, s, k, r, hl, hr => by
    refine wrap_sound hl (fun B h k r hb => ?_) hr
    refine ev_seq ((run_sound hT hm hΓ x B _ s _ r hl hb).mono ?_)
    rintro e σ ⟨s', g1, g2, rfl, g4⟩
    have wide : Ext (· ∈ dstsC (.seq x y)) s s' := g2.wide fun t ht => by simp [dstsC, ht]
    cases e with
    | normal =>
      exact (run_sound hT hm hΓ y B _ s' k r g1 g4).mono fun e σ ⟨s2, i1, i2, i3, i4⟩ => ⟨s2, i1, wide.trans (i2.wide fun t ht => by simp [dstsC, ht]), i3, i4⟩
    | _ => exact ⟨s', g1, wide, rfl, g4⟩
  | .cond c x y, A, h, s, k, r, hl, hr => by
    refine wrap_sound hl (fun B h k r hb => ?_) hr
    split at hb
    · rename_i v hv
      refine ev_cond v (fun _ _ => rfl) ?_ ?_
      · have := opvD_den (lke s.env) c
        rw [hv] at this
        exact this.symm
      · cases v with
        | true => exact (run_sound hT hm hΓ x B _ s k r hl hb).mono fun e σ ⟨s2, i1, i2, i3, i4⟩ => ⟨s2, i1, i2.wide fun t ht => by simp [dstsC, ht], i3, i4⟩
        | false => exact (run_sound hT hm hΓ y B _ s k r hl hb).mono fun e σ ⟨s2, i1, i2, i3, i4⟩ => ⟨s2, i1, i2.wide fun t ht => by simp [dstsC, ht], i3, i4⟩
    · rename_i hv
      obtain ⟨hb1, hb2⟩ := both_some hb
      refine ev_cond_ub (fun _ _ => rfl) ?_ ?_ ?_
      · have := opvD_den (lke s.env) c
        rw [hv] at this
        exact this.symm
      · exact (run_sound hT hm hΓ x B _ s k r hl hb1).mono fun e σ ⟨s2, i1, i2, i3, i4⟩ => ⟨s2, i1, i2.wide fun t ht => by simp [dstsC, ht], i3, i4⟩
      · exact (run_sound hT hm hΓ y B _ s k r hl hb2).mono fun e σ ⟨s2, i1, i2, i3, i4⟩ => ⟨s2, i1, i2.wide fun t ht => by simp [dstsC, ht], i3, i4⟩
    · cases hb
  | .block id b, A, h, s, k, r, hl, hr => by
    refine wrap_sound hl (fun B h k r hb => ?_) hr
    refine ev_block ((run_sound hT hm hΓ b B _ s _ r hl hb).mono ?_)
    rintro e σ ⟨s', g1, g2, rfl, g4⟩
    cases e with
    | exit j =>
      simp only [blockE]
      simp only at g4
      split
      · rw [if_pos ‹_›] at g4; exact ⟨s', g1, g2, rfl, g4⟩
      · rw [if_neg ‹_›] at g4; exact ⟨s', g1, g2, rfl, g4⟩
    | _ => exact ⟨s', g1, g2, rfl, g4⟩
  | .loop b, A, h, s, k, r, hl, hr => by
    simp only [run] at hr
    split at hr
    · rename_i hd id out h'
      obtain ⟨v0, h1, h2, h3, h4⟩ := matchS_sound hl hl (Ext.refl _ s) hr
      rw [Option.bind_eq_some_iff] at h1; obtain ⟨w, h5, h6⟩ := h1
      intro w0 O0 β I a ww hrel ho
      obtain ⟨β', hrel'⟩ := h4 P w0 O0 N β I a ww hrel
      refine loop_sound (Q := PostQ (dstsC (.loop b)) s k r) hl (fun s' => rfl) (fun v r hlv hs => run_sound hT hm hΓ b _ h' (encS hd s v) _ r hlv hs) (fun e s' he hls hxs hk => ?_) (fun e s' v he hk => ?_) n v0 h5 h2 h3 w0 O0 β' I a ww hrel' h2.old
      · cases e with
        | exit j =>
          simp only at hk
          split at hk
          · rename_i hj
            subst hj
            obtain ⟨w', i1, i2, i3, i4⟩ := matchS_sound hl hls hxs hk
            injection i1 with i1
            injection i1 with i1
            subst i1
            intro w0 O0 β I a ww hrel
            obtain ⟨β', hrel'⟩ := i4 P w0 O0 N β I a ww hrel
            exact ⟨β', _, hrel', i2.old, _, i2, i3, rfl, h6⟩
          · cases hk
        | normal => exact (he rfl).elim
        | _ => cases hk
      · cases e with
        | exit j =>
          simp only at hk
          split at hk
          · obtain ⟨w', i1⟩ := matchS_val hk
            injection i1 with i1; cases i1
          · cases hk
        | normal => exact he rfl
        | _ => cases hk
    · rename_i hd id out h'
      obtain ⟨v0, h1, h2, h3, h4⟩ := matchS_sound hl hl (Ext.refl _ s) hr
      unfold thenB at h1
      rw [Option.bind_eq_some_iff] at h1; obtain ⟨w, h5, h6⟩ := h1
      intro w0 O0 β I a ww hrel ho
      obtain ⟨β', hrel'⟩ := h4 P w0 O0 N β I a ww hrel
      refine loop_sound (Q := PostQ (dstsC (.loop b)) s k r) hl (fun s' => rfl) (fun v r hlv hs => run_sound hT hm hΓ b _ h' (encS hd s v) _ r hlv hs) (fun e s' he hls hxs hk => ?_) (fun e s' v he hk => ?_) n v0 h5 h2 h3 w0 O0 β' I a ww hrel' h2.old
      · intro w0 O0 β I a ww hrel
        have other : (k e s').map (fun a => Sum.inr (Sum.inr a)) = some (Sum.inr w : VT (X := X) hd.vars ⊕ (VT (X := X) out.vars ⊕ A)) → ∃ β' σ', Rel P w0 O0 N β' I σ' a ww ∧ Old σ' ∧ PostQ (dstsC (.loop b)) s k r e σ' := by
          intro hm
          obtain ⟨q, hq, hr⟩ := map_inr2 hm
          injection hr with hr
          subst hr
          injection h6 with h6
          subst h6
          exact ⟨β, _, hrel, hls.old, s', hls, hxs, rfl, hq⟩
        cases e with
        | exit j =>
          simp only at hk
          split at hk
          · rename_i hj
            subst hj
            obtain ⟨w', i1, i2, i3, i4⟩ := matchS_sound hl hls hxs hk
            injection i1 with i1
            injection i1 with i1
            subst i1
            obtain ⟨β', hrel'⟩ := i4 P w0 O0 N β I a ww hrel
            exact ⟨β', _, hrel', i2.old, _, i2, i3, rfl, h6⟩
          · exact other hk
        | normal => exact (he rfl).elim
        | _ => exact other hk
      · have other : (k e s').map (fun a => Sum.inr (Sum.inr a)) = some (Sum.inl v : VT (X := X) hd.vars ⊕ (VT (X := X) out.vars ⊕ A)) → False := by
          intro hm
          obtain ⟨q, hq, hr⟩ := map_inr2 hm
          cases hr
        cases e with
        | exit j =>
          simp only at hk
          split at hk
          · obtain ⟨w', i1⟩ := matchS_val hk
            injection i1 with i1; cases i1
          · exact other hk
        | normal => exact he rfl
        | _ => exact other hk
    · cases hr
  | .rangeFunc .., _, _, _, _, _, _, hr => by cases hr
  | .scope _, _, _, _, _, _, _, hr => by cases hr
  | .goto _, _, _, _, _, _, _, hr => by cases hr
  | .refuse _, _, _, _, _, _, _, hr => by cases hr
end
end
end Go.Gb
