/-
  A region in the typed walk.
-/
import Derived.Test.YtgmmcfpjmkhmhaaXH
namespace Go.Gb
open Go.RowKit

section
variable {X : SX} {A : Type}

def lkE (e b : List (Nat × DV X)) (t : Nat) : DV X := match lk e t with | some x => x | none => lke b t
def lkO (o b : List (Nat × Option (DObj X))) (k : Nat) : Option (DObj X) := match lk o k with | some x => x | none => lko b k
def appE (dst : Option Tmp) (dv : DV X) (e : List (Nat × DV X)) : List (Nat × DV X) := match dst with | some t => (t, dv) :: e | none => e

def unskD : DV X → DV X
  | .skip => .undef
  | x => x
def notSk (e : List (Nat × DV X)) : Operand → Bool
  | .tmp t => match lk e t with | some .skip => false | _ => true
  | _ => true
def okOps (e b : List (Nat × DV X)) (o : Op) : Bool :=
  match o with
  | .pick c x y => notSk e c && ((notSk e x && notSk e y) || match opvD (lkE e b) c with | .c .bool t => bif t then notSk e x else notSk e y | _ => false)
  | o => o.operands.toList.all (notSk e)

abbrev Fps := List (Nat × List Nat × List Nat)

section
variable (Γ : FuncId → Option (Sig X)) (fz : List Nat) (T : Tab) (code : TypeId → Option (CT X.ι)) (ops : Array Oper) (b : DSt X)

def runOps (k : List (Nat × DV X) → List (Nat × Option (DObj X)) → Fps → Option A) : List Nat → List (Nat × DV X) → List (Nat × Option (DObj X)) → Fps → Option A
  | [], e, o, fps => k e o fps
  | i :: r, e, o, fps => (ops[i]?).bind fun op => match op.guard with
    | none => bif okOps e b.env op.op then anyD Γ fz T code i op.op (opvD (lkE e b.env)) (lkO o b.obj) fun dv upd rd wr => runOps k r (appE op.dst (unskD dv) e) (upd ++ o) ((i, rd, wr) :: fps) else none
    | some (j, p) => ((ops[j]?).bind (·.dst)).bind fun t => match lkE e b.env t with
      | .c .bool v =>
        bif v then (bif p then (bif okOps ((t, .c .bool true) :: e) b.env op.op then anyD Γ fz T code i op.op (opvD (lkE ((t, .c .bool true) :: e) b.env)) (lkO o b.obj) fun dv upd rd wr => runOps k r (appE op.dst (unskD dv) ((t, .c .bool true) :: e)) (upd ++ o) ((i, rd, wr) :: fps) else none)
          else runOps k r (appE op.dst .skip ((t, .c .bool true) :: e)) o ((i, [], []) :: fps))
        else (bif p then runOps k r (appE op.dst .skip ((t, .c .bool false) :: e)) o ((i, [], []) :: fps)
          else (bif okOps ((t, .c .bool false) :: e) b.env op.op then anyD Γ fz T code i op.op (opvD (lkE ((t, .c .bool false) :: e) b.env)) (lkO o b.obj) fun dv upd rd wr => runOps k r (appE op.dst (unskD dv) ((t, .c .bool false) :: e)) (upd ++ o) ((i, rd, wr) :: fps) else none))
      | .skip => bif (lk e t).isSome then runOps k r (appE op.dst .skip e) o ((i, [], []) :: fps) else none
      | _ => none
end

def stOf (b : DSt X) (e : List (Nat × DV X)) (o : List (Nat × Option (DObj X))) : St := ⟨fun t => den (lkE e b.env t), fun k => (lkO o b.obj k).map denO, fun t => match lk e t with | some .skip => some false | _ => none⟩

theorem unskD_den (x : DV X) : den (unskD x) = den x := by cases x <;> rfl

theorem stOf_app (b : DSt X) (e : List (Nat × DV X)) (o : List (Nat × Option (DObj X))) (dst : Option Tmp) (dv : DV X) (upd : List (Nat × Option (DObj X))) (obs : List Prop) :
    (stOf b e o).app dst (⟨den dv, denU upd, obs⟩, none) = stOf b (appE dst (unskD dv) e) (upd ++ o) := by
  simp only [stOf, St.app, St.mk.injEq]
  refine ⟨?_, ?_, ?_⟩
  · funext t
    cases dst with
    | none => simp [setE, appE]
    | some d =>
      simp only [setE, appE, lkE, lk, Option.some.injEq]
      by_cases h : d = t <;> simp [h, unskD_den]
  · funext j
    induction upd with
    | nil => rfl
    | cons p u ih =>
      obtain ⟨q, x⟩ := p
      simp only [denU, List.map_cons, updo, List.cons_append, lkO, lk] at ih ⊢
      by_cases h : j = q
      · simp [h]
      · rw [if_neg h, if_neg (Ne.symm h)]; exact ih
  · funext t
    cases dst with
    | none => simp [setE, appE]
    | some d =>
      simp only [setE, appE, lk, Option.some.injEq]
      by_cases h : d = t
      · simp only [h, if_true]
        cases dv <;> rfl
      · simp only [if_neg h]

theorem stOf_skip (b : DSt X) (e : List (Nat × DV X)) (o : List (Nat × Option (DObj X))) (dst : Option Tmp) : (stOf b e o).app dst (⟨.undef, [], []⟩, some false) = stOf b (appE dst .skip e) o := by
  simp only [stOf, St.app, St.mk.injEq]
  refine ⟨?_, rfl, ?_⟩
  · funext t
    cases dst with
    | none => simp [setE, appE]
    | some d =>
      simp only [setE, appE, lkE, lk, Option.some.injEq]
      by_cases h : d = t <;> simp [h, den]
  · funext t
    cases dst with
    | none => simp [setE, appE]
    | some d =>
      simp only [setE, appE, lk, Option.some.injEq]
      by_cases h : d = t <;> simp [h]

theorem opv_stOf (b : DSt X) (e : List (Nat × DV X)) (o : List (Nat × Option (DObj X))) : opv (stOf b e o).env = fun x => den (opvD (lkE e b.env) x) := by
  funext x; exact (opvD_den _ x).symm

theorem need1_ok {b : DSt X} {e : List (Nat × DV X)} {o : List (Nat × Option (DObj X))} {x : Operand} (h : notSk e x = true) : need1 (stOf b e o).ok x = [] := by
  cases x with
  | tmp t =>
    simp only [notSk] at h
    simp only [need1, stOf]
    cases ht : lk e t with
    | none => rfl
    | some d => rw [ht] at h; cases d <;> first | rfl | cases h
  | _ => rfl

theorem needs_nil {b : DSt X} {e : List (Nat × DV X)} {o : List (Nat × Option (DObj X))} {P : Program} {T : Tab} {i : Nat} {op : Oper} {orc : Orc} {get : Nat → Option AObj} {out : Out} (hok : okOps e b.env op.op = true)
    (h : absAny P T i op orc (opv (stOf b e o).env) get = some out) : ∀ p ∈ needs (stOf b e o).env (stOf b e o).ok op.op, p := by
  obtain ⟨dst, op, ty, pos, after, guard⟩ := op
  unfold needs
  split
  · rename_i c x y heq
    simp only at heq
    subst heq
    simp only [okOps, Bool.and_eq_true, Bool.or_eq_true] at hok
    obtain ⟨hc, hxy⟩ := hok
    have hb : ∃ t, opv (stOf b e o).env c = .t (.sc (.bool t)) := by
      have h0 : (∃ n, orc = .ext n) ∨ (∃ ids fr q, orc = .frz ids fr q) ∨ absOp T i ⟨dst, .pick c x y, ty, pos, after, guard⟩ orc (opv (stOf b e o).env) get = some out := by
        cases orc <;> first | exact .inl ⟨_, rfl⟩ | exact .inr (.inl ⟨_, _, _, rfl⟩) | exact .inr (.inr h)
      rcases h0 with ⟨n, rfl⟩ | ⟨ids, fr, q, rfl⟩ | h0
      · simp [absAny, absExtA, isX2, absExt] at h
      · simp [absAny, absFrz, isPick] at h
      · simp only [absOp] at h0
        split at h0
        · rename_i t ht; exact ⟨t, ht⟩
        · cases h0
    obtain ⟨t, ht⟩ := hb
    rw [ht]
    simp only [need1_ok hc, List.nil_append]
    rcases hxy with ⟨hx, hy⟩ | hxy
    · simp [need1_ok hx, need1_ok hy]
    · split at hxy
      · rename_i t' ht'
        have e1 : opv (stOf b e o).env c = .t (.sc (.bool t')) := by rw [opv_stOf]; simp only [ht']; rfl
        rw [e1] at ht
        injection ht with ht; injection ht with ht; injection ht with ht
        subst ht
        cases t' with
        | true =>
          simp only [cond_true] at hxy
          simp [need1_ok hxy]
        | false =>
          simp only [cond_false] at hxy
          simp [need1_ok hxy]
      · cases hxy
  · rename_i o' hne
    intro p hp
    have hall : ∀ x ∈ op.operands.toList, notSk e x = true := by
      have : okOps e b.env op = op.operands.toList.all (notSk e) := by
        cases op <;> first | rfl | exact (hne _ _ _ rfl).elim
      rw [this] at hok
      exact List.all_eq_true.1 hok
    simp only [List.mem_flatMap] at hp
    obtain ⟨x, hx, hp⟩ := hp
    rw [need1_ok (hall x hx)] at hp
    simp at hp

theorem allp_app {a b : List Prop} (h : ∀ p ∈ a, p) (h' : AllP b) : AllP (a ++ b) := AllP_of _ (all_app h (AllP_mem b h'))

variable {Γ : FuncId → Option (Sig X)} {fz : List Nat} {T : Tab} {code : TypeId → Option (CT X.ι)} {ops : Array Oper} {b : DSt X} {P : Program}

theorem step_exec (hΓ : GOk P Γ) {i : Nat} {op : Oper} {e : List (Nat × DV X)} {o : List (Nat × Option (DObj X))} {k : KK X A} {r : A} (hop : ops[i]? = some op) (hw : want ops op (stOf b e o).env (stOf b e o).ok = some true) (hok : okOps e b.env op.op = true)
    (h : anyD Γ fz T code i op.op (opvD (lkE e b.env)) (lkO o b.obj) k = some r) :
    ∃ (a : Ann) (dv : DV X) (upd : List (Nat × Option (DObj X))), a.sym = false ∧ k dv upd a.rd a.wr = some r ∧ ∀ (ann : Nat → Ann) (K : St → Prop), ann i = a → K (stOf b (appE op.dst (unskD dv) e) (upd ++ o)) → eOp P T ops ann i K (stOf b e o) := by
  obtain ⟨orc, rd, wr, dv, upd, out, h1, h2, h3, h4, h5, h6⟩ := anyD_sound hΓ h
  refine ⟨⟨orc, rd, wr, false⟩, dv, upd, rfl, h6, fun ann K ha hK => ?_⟩
  have h1' : absAny P T i op orc (opv (stOf b e o).env) (restr rd (stOf b e o).obj) = some out := by
    rw [opv_stOf]; exact h1
  refine ⟨op, (⟨out.v, out.upd, needs (stOf b e o).env (stOf b e o).ok op.op ++ out.obs⟩, none), hop, ?_, ?_, ?_⟩
  · unfold opAt
    simp only [hop, Option.bind_some, hw, ha, h1']
    rw [if_pos]
    rw [List.all_eq_true]
    intro p hp
    rw [h4] at hp
    simp only [denU, List.mem_map] at hp
    obtain ⟨q, hq, rfl⟩ := hp
    rcases h5 q hq with h | h
    · simp [h]
    · simp [h]
  · exact allp_app (needs_nil hok h1') h2
  · rw [h3, h4, stOf_app]; exact hK

theorem step_skip {i : Nat} {op : Oper} {e : List (Nat × DV X)} {o : List (Nat × Option (DObj X))} (hop : ops[i]? = some op) (hw : want ops op (stOf b e o).env (stOf b e o).ok = some false)
    (ann : Nat → Ann) (K : St → Prop) (ha : ann i = ⟨.none, [], [], false⟩) (hK : K (stOf b (appE op.dst .skip e) o)) : eOp P T ops ann i K (stOf b e o) := by
  refine ⟨op, (⟨.undef, [], []⟩, some false), hop, ?_, trivial, ?_⟩
  · unfold opAt
    simp only [hop, Option.bind_some, hw, ha]
  · rw [stOf_skip]; exact hK

theorem stOf_known {e : List (Nat × DV X)} {o : List (Nat × Option (DObj X))} {t : Nat} {v : Bool} (h : lkE e b.env t = .c .bool v) : stOf b ((t, .c .bool v) :: e) o = stOf b e o := by
  simp only [stOf, St.mk.injEq, true_and]
  refine ⟨?_, ?_⟩
  · funext s
    by_cases hs : t = s
    · subst hs
      rw [h]; simp [lkE, lk]
    · simp [lkE, lk, hs]
  · funext s
    by_cases hs : t = s
    · subst hs
      simp only [lk, if_true]
      unfold lkE at h
      cases ht : lk e t with
      | none => rfl
      | some d => rw [ht] at h; simp only at h; subst h; rfl
    · simp [lk, hs]

def fpOf (tr : List (Nat × Ann)) : Fps := tr.map fun p => (p.1, p.2.rd, p.2.wr)

/-- A slot that the region writes. -/
def IsDst (ops : Array Oper) (t : Nat) : Prop := ∃ (j : Nat) (op : Oper), ops[j]? = some op ∧ op.dst = some t

theorem appE_mem {dst : Option Tmp} {dv : DV X} {e : List (Nat × DV X)} {p : Nat × DV X} (h : p ∈ appE dst dv e) : p ∈ e ∨ dst = some p.1 := by
  cases dst with
  | none => exact .inl h
  | some t =>
    simp only [appE, List.mem_cons] at h
    rcases h with rfl | h
    · exact .inr rfl
    · exact .inl h

theorem runOps_sound (hΓ : GOk P Γ) {k : List (Nat × DV X) → List (Nat × Option (DObj X)) → Fps → Option A} {r : A} : ∀ (l : List Nat) (e : List (Nat × DV X)) (o : List (Nat × Option (DObj X))) (fps : Fps), runOps Γ fz T code ops b k l e o fps = some r →
    ∃ (tr : List (Nat × Ann)) (e' : List (Nat × DV X)) (o' : List (Nat × Option (DObj X))), tr.map (·.1) = l ∧ k e' o' ((fpOf tr).reverse ++ fps) = some r ∧ (∀ p ∈ e', p ∈ e ∨ IsDst ops p.1) ∧
      ∀ ann : Nat → Ann, (∀ p ∈ tr, ann p.1 = p.2) → eLex P T ops ann (fun σ => σ = stOf b e' o') l (stOf b e o)
  | [], e, o, fps, h => ⟨[], e, o, rfl, h, fun _ hp => .inl hp, fun _ _ => rfl⟩
  | i :: l, e, o, fps, h => by
    simp only [runOps] at h
    rw [Option.bind_eq_some_iff] at h; obtain ⟨op, hop, h⟩ := h
    have exec : ∀ e : List (Nat × DV X), want ops op (stOf b e o).env (stOf b e o).ok = some true →
        (bif okOps e b.env op.op then anyD Γ fz T code i op.op (opvD (lkE e b.env)) (lkO o b.obj) fun dv upd rd wr => runOps Γ fz T code ops b k l (appE op.dst (unskD dv) e) (upd ++ o) ((i, rd, wr) :: fps) else none) = some r →
        ∃ (tr : List (Nat × Ann)) (e' : List (Nat × DV X)) (o' : List (Nat × Option (DObj X))), tr.map (·.1) = i :: l ∧ k e' o' ((fpOf tr).reverse ++ fps) = some r ∧ (∀ p ∈ e', p ∈ e ∨ IsDst ops p.1) ∧
          ∀ ann : Nat → Ann, (∀ p ∈ tr, ann p.1 = p.2) → eLex P T ops ann (fun σ => σ = stOf b e' o') (i :: l) (stOf b e o) := by
      intro e hw h
      obtain ⟨hok, h⟩ := cond_some h
      obtain ⟨a, dv, upd, _, h1, h2⟩ := step_exec hΓ hop hw hok h
      obtain ⟨tr, e', o', g1, g2, g4, g3⟩ := runOps_sound hΓ l _ _ _ h1
      refine ⟨(i, a) :: tr, e', o', by simp [g1], ?_, fun p hp => (g4 p hp).elim (fun hp => (appE_mem hp).elim .inl fun hd => .inr ⟨i, op, hop, hd⟩) .inr, fun ann ha => ?_⟩
      · simpa [fpOf] using g2
      · exact h2 ann _ (ha (i, a) (by simp)) (g3 ann fun p hp => ha p (by simp [hp]))
    have skip : ∀ e : List (Nat × DV X), want ops op (stOf b e o).env (stOf b e o).ok = some false → runOps Γ fz T code ops b k l (appE op.dst .skip e) o ((i, [], []) :: fps) = some r →
        ∃ (tr : List (Nat × Ann)) (e' : List (Nat × DV X)) (o' : List (Nat × Option (DObj X))), tr.map (·.1) = i :: l ∧ k e' o' ((fpOf tr).reverse ++ fps) = some r ∧ (∀ p ∈ e', p ∈ e ∨ IsDst ops p.1) ∧
          ∀ ann : Nat → Ann, (∀ p ∈ tr, ann p.1 = p.2) → eLex P T ops ann (fun σ => σ = stOf b e' o') (i :: l) (stOf b e o) := by
      intro e hw h
      obtain ⟨tr, e', o', g1, g2, g4, g3⟩ := runOps_sound hΓ l _ _ _ h
      refine ⟨(i, ⟨.none, [], [], false⟩) :: tr, e', o', by simp [g1], ?_, fun p hp => (g4 p hp).elim (fun hp => (appE_mem hp).elim .inl fun hd => .inr ⟨i, op, hop, hd⟩) .inr, fun ann ha => ?_⟩
      · simpa [fpOf] using g2
      · exact step_skip hop hw ann _ (ha (i, _) (by simp)) (g3 ann fun p hp => ha p (by simp [hp]))
    split at h
    · rename_i hg
      exact exec e (by simp [want, hg]) h
    · rename_i j p hg
      rw [Option.bind_eq_some_iff] at h; obtain ⟨t, ht, h⟩ := h
      split at h
      · rename_i v hv
        have hw : ∀ e : List (Nat × DV X), lkE e b.env t = .c .bool v → want ops op (stOf b e o).env (stOf b e o).ok = some (v == p) := by
          intro e he
          simp only [want, hg, ht]
          have h0 : (stOf b e o).ok t = none := by
            simp only [stOf]
            unfold lkE at he
            cases hq : lk e t with
            | none => rfl
            | some d => rw [hq] at he; simp only at he; subst he; rfl
          have h1 : (stOf b e o).env t = .t (.sc (.bool v)) := by simp only [stOf, he]; rfl
          rw [h0, h1]
        have hk := stOf_known (b := b) (o := o) hv
        have hv' : lkE ((t, .c .bool v) :: e) b.env t = .c .bool v := by simp [lkE, lk]
        have htd : IsDst ops t := by
          rw [Option.bind_eq_some_iff] at ht
          obtain ⟨oj, h1, h2⟩ := ht
          exact ⟨j, oj, h1, h2⟩
        have wide : (∃ (tr : List (Nat × Ann)) (e' : List (Nat × DV X)) (o' : List (Nat × Option (DObj X))), tr.map (·.1) = i :: l ∧ k e' o' ((fpOf tr).reverse ++ fps) = some r ∧ (∀ p ∈ e', p ∈ ((t, .c .bool v) :: e : List (Nat × DV X)) ∨ IsDst ops p.1) ∧
            ∀ ann : Nat → Ann, (∀ p ∈ tr, ann p.1 = p.2) → eLex P T ops ann (fun σ => σ = stOf b e' o') (i :: l) (stOf b ((t, .c .bool v) :: e) o)) →
            ∃ (tr : List (Nat × Ann)) (e' : List (Nat × DV X)) (o' : List (Nat × Option (DObj X))), tr.map (·.1) = i :: l ∧ k e' o' ((fpOf tr).reverse ++ fps) = some r ∧ (∀ p ∈ e', p ∈ e ∨ IsDst ops p.1) ∧
            ∀ ann : Nat → Ann, (∀ p ∈ tr, ann p.1 = p.2) → eLex P T ops ann (fun σ => σ = stOf b e' o') (i :: l) (stOf b e o) := by
          rintro ⟨tr, e', o', g1, g2, g4, g3⟩
          refine ⟨tr, e', o', g1, g2, fun q hq => ?_, hk ▸ g3⟩
          rcases g4 q hq with h | h
          · rcases List.mem_cons.1 h with rfl | h
            · exact .inr htd
            · exact .inl h
          · exact .inr h
        apply wide
        cases v with
        | true =>
          simp only [cond_true] at h
          cases p with
          | true => exact exec _ (hw _ hv') h
          | false => exact skip _ (hw _ hv') h
        | false =>
          simp only [cond_false] at h
          cases p with
          | true => exact skip _ (hw _ hv') h
          | false => exact exec _ (hw _ hv') h
      · rename_i hv
        obtain ⟨hsome, h⟩ := cond_some h
        refine skip e ?_ h
        simp only [want, hg, ht]
        have h1 : (stOf b e o).env t = .undef := by simp only [stOf, hv]; rfl
        cases hq : lk e t with
        | some d =>
          have h0 : (stOf b e o).ok t = some false := by
            unfold lkE at hv
            rw [hq] at hv
            simp only at hv
            subst hv
            simp only [stOf, hq]
          rw [h0, h1]
        | none => rw [hq] at hsome; cases hsome
      · cases h
end
end Go.Gb
