/-
  A region, and a whole function, in the abstract walk.
-/
import Derived.Test.YtihokdanilekmaaLiftQ
namespace Go.Gb
open Go.RowKit

section
variable (P : Program) (T : Tab) (ops : Array Oper) (ann : Nat → Ann)

/-- The region's operations in the order of the text: the state behind them, and what must be shown. -/
def evalR : List Nat → St → List Prop → Option (St × List Prop)
  | [], σ, obs => some (σ, obs)
  | i :: r, σ, obs => (ops[i]?).bind fun o => (opAt P T ops ann i σ).bind fun out => evalR r (σ.app o.dst out) (obs ++ out.1.obs)

/-- What is kept of it. -/
def regOut (L : LSt) (π : List (Nat × Nat)) (keep : List Nat) : Option (List (Nat × AV) × List (Nat × Option AObj) × List Prop) :=
  (evalR P T ops ann (List.range ops.size) L.st []).bind fun p => some (canonE π p.1 keep, canonO p.1 π, p.2)
end

theorem AllP_iff : ∀ (l : List Prop), AllP l ↔ ∀ p ∈ l, p
  | [] => by simp [AllP]
  | [p] => ⟨fun h q hq => by rw [List.mem_singleton] at hq; rw [hq]; exact h, fun h => h p (List.mem_singleton.2 rfl)⟩
  | p :: q :: r => by
    have ih := AllP_iff (q :: r)
    constructor
    · intro h x hx
      rcases List.mem_cons.1 hx with hx | hx
      · rw [hx]; exact h.1
      · exact ih.1 h.2 x hx
    · intro h
      exact ⟨h p List.mem_cons_self, ih.2 fun x hx => h x (List.mem_cons_of_mem _ hx)⟩

section
variable {P : Program} {T : Tab} {ops : Array Oper} {ann : Nat → Ann} {N : Nat} {Q : Exit → St → Prop}

theorem evalR_lex : ∀ (l : List Nat) (σ σ' : St) (obs obs' : List Prop), evalR P T ops ann l σ obs = some (σ', obs') → AllP obs' → AllP obs ∧ eLex P T ops ann (fun s => s = σ') l σ
  | [], σ, σ', obs, obs', h, hob => by
    simp only [evalR, Option.some.injEq, Prod.mk.injEq] at h
    exact ⟨h.2 ▸ hob, h.1⟩
  | i :: r, σ, σ', obs, obs', h, hob => by
    simp only [evalR] at h
    cases ho : ops[i]? with
    | none => simp [ho] at h
    | some o =>
      cases hout : opAt P T ops ann i σ with
      | none => simp [ho, hout] at h
      | some out =>
        simp only [ho, hout, Option.bind_some] at h
        obtain ⟨h1, h2⟩ := evalR_lex r _ _ _ _ h hob
        rw [AllP_iff] at h1
        exact ⟨(AllP_iff _).2 fun p hp => h1 p (by simp [hp]), o, out, ho, hout, (AllP_iff _).2 fun p hp => h1 p (by simp [hp]), h2⟩

/-- The rule for a region. -/
theorem ev_reg (hT : TabOk P T) (hm : P.follows .mixedOrders = true) {id : Nat} {d : Bool} (ann : Nat → Ann) (L' : LSt) (π : List (Nat × Nat)) (keep : List Nat) {L : LSt} {os : List (Nat × Option AObj)} {obs : List Prop}
    (hs : (dstsOk N ops && (!d || lexOK ops ann) && piOk π) = true) (he : regOut P T ops ann L π keep = some (L'.env, os, obs)) (hob : AllP obs) (hO : RenAll π os L'.objs) (hQ : Q .normal L'.st) : Ev P N (.region id ops d) Q L.st := by
  simp only [Bool.and_eq_true] at hs
  obtain ⟨⟨hd, hB⟩, hp⟩ := hs
  unfold regOut at he
  cases hev : evalR P T ops ann (List.range ops.size) L.st [] with
  | none => simp [hev] at he
  | some p =>
    obtain ⟨σ', obs'⟩ := p
    simp only [hev, Option.bind_some, Option.some.injEq, Prod.mk.injEq] at he
    obtain ⟨e1, rfl, rfl⟩ := he
    obtain ⟨_, hlex⟩ := evalR_lex _ _ _ _ _ hev hob
    intro w0 O0 β I a w hr ho
    have fin : ∀ e a' w', (∃ β' I' σ1, Rel P w0 O0 N β' I' σ1 a' w' ∧ e = .normal ∧ σ1 = σ') → ∃ β' I' σ1, Rel P w0 O0 N β' I' σ1 a' w' ∧ Old σ1 ∧ Q e σ1 := by
      rintro e a' w' ⟨β', I', σ1, h1, rfl, rfl⟩
      obtain ⟨g1, g2⟩ := h1.canon hp e1 hO
      exact ⟨_, I', L'.st, g1, g2, hQ⟩
    cases d with
    | false => exact wp_mono (region_wp hT hd ho hlex hr) fin
    | true => exact wp_mono (region_draw_wp hT hm hd (by simpa using hB) ho hlex hr) fin

/-- Another state for the same frame. -/
theorem ev_as {c : Code} {L : LSt} (L' : LSt) (π : List (Nat × Nat)) (keep : List Nat) {os : List (Nat × Option AObj)} (hp : piOk π = true) (he : (canonE π L.st keep, canonO L.st π) = (L'.env, os)) (hO : RenAll π os L'.objs) (h : Ev P N c Q L'.st) : Ev P N c Q L.st := by
  intro w0 O0 β I a w hr ho
  simp only [Prod.mk.injEq] at he
  obtain ⟨g1, g2⟩ := hr.canon hp he.1 (he.2 ▸ hO)
  exact h w0 O0 _ I a w g1 g2
end

/-- A value that goes out: as data, or as new memory (the object fk). -/
def ExpT (get : Nat → Option AObj) (fk : Option Nat) : AV → Tree → Prop
  | .t x, y => y = x
  | .nilsl, y => y = .sl []
  | .own k off len, y => fk ≠ some k ∧ ∃ o trows, get k = some o ∧ (o.rows.drop off).take len = avRows trows ∧ trows.length = len ∧ y = .sl trows
  | _, _ => False

def ExpL (get : Nat → Option AObj) (fk : Option Nat) : List AV → List Tree → Prop
  | [], [] => True
  | x :: xs, y :: ys => ExpT get fk x y ∧ ExpL get fk xs ys
  | _, _ => False

def ExpC (get : Nat → Option AObj) (fk : Option Nat) : AV → RC → Prop
  | .agg cs, .d (.a ts) => ExpL get fk cs ts
  | x, .d (.s y) => ExpT get fk x y
  | .nilsl, .fresh _ rows => rows = []
  | .own k off len, .fresh sz rows => fk = some k ∧ off = 0 ∧ ∃ o, get k = some o ∧ o.sz = sz ∧ o.rows.take len = avRows rows ∧ rows.length = len
  | _, _ => False

def ExpCs (get : Nat → Option AObj) (fk : Option Nat) : List AV → List RC → Prop
  | [], [] => True
  | x :: xs, c :: cs => ExpC get fk x c ∧ ExpCs get fk xs cs
  | _, _ => False

def ExpR (get : Nat → Option AObj) (fk : Option Nat) : List AV → RV → Prop
  | [x], .one c => ExpC get fk x c
  | x :: y :: r, .tup cs => ExpCs get fk (x :: y :: r) cs
  | [], .tup cs => cs = []
  | _, _ => False

def resVal (T : Tab) (σ : St) : ResultVar → Option AV
  | .tmp t => match σ.ok t with
    | none => some (σ.env t)
    | some _ => none
  | .cell a t => match σ.ok a with
    | none => match aLoad T t (σ.env a) .none σ.obj with
      | some ⟨v, [], []⟩ => some v
      | _ => none
    | some _ => none

def resVals (T : Tab) (σ : St) : List ResultVar → Option (List AV)
  | [] => some []
  | r :: rs => (resVal T σ r).bind fun v => (resVals T σ rs).bind fun vs => some (v :: vs)

def rdRes (tmps : Array Value) : ResultVar → Sem Value
  | .tmp t => pure (tmps.getD t undef)
  | .cell a t => do loadVar t (← asAddr (tmps.getD a undef))

theorem results_eq (fn : Func) (tmps : Array Value) : results fn tmps = (fn.results.mapM (rdRes tmps)) >>= fun vs => pure (if h : vs.size = 1 then vs[0] else .tuple vs) := by
  unfold results
  congr 2

/-- What a function hands back. -/
def RetQ (T : Tab) (rs : List ResultVar) (rv : RV) : Exit → St → Prop
  | .normal, σ => ∃ xs fk, resVals T σ rs = some xs ∧ ExpR σ.obj fk xs rv
  | .ret, σ => ∃ xs fk, resVals T σ rs = some xs ∧ ExpR σ.obj fk xs rv
  | _, _ => False

section
variable {P : Program} {T : Tab} {w0 : World} {O0 : Was} {N : Nat} {β : Nat → Option Blk} {I : Nat → Prop} {σ : St} {a : Act} {w : World}

theorem resVal_sound (hT : TabOk P T) (hr : Rel P w0 O0 N β I σ a w) {r : ResultVar} {x : AV} (h : resVal T σ r = some x) :
    ∃ v, (rdRes a.tmps r).run P w = .ok v w ∧ VR P β w I x v := by
  cases r with
  | tmp t =>
    simp only [resVal] at h
    have h1 := hr.env t
    cases hk : σ.ok t with
    | some b => rw [hk] at h; cases h
    | none =>
      rw [hk] at h h1
      injection h with h; subst h
      exact ⟨_, by simp [rdRes], h1⟩
  | cell ad t =>
    simp only [resVal] at h
    have hx := hr.env ad
    cases hk : σ.ok ad with
    | some b => rw [hk] at h; cases h
    | none =>
    rw [hk] at h hx
    simp only at h
    have hx : VR P β w I (σ.env ad) (a.tmps.getD ad undef) := hx
    split at h
    · rename_i v hl
      injection h with h; subst h
      obtain ⟨u, h1, h2, _⟩ := aLoad_sound hT hr.mem (fun _ _ h => h) hl trivial hx
      refine ⟨u, ?_, h2⟩
      have hp : ∃ p, a.tmps.getD ad undef = .pointer (some p) := by
        unfold aLoad at hl
        cases hti : T t with
        | none => simp [hti] at hl
        | some ti =>
          simp only [hti, Option.bind_some] at hl
          split at hl
          · rename_i heq; rw [heq] at hx; simp only [VR] at hx; obtain ⟨b, sz, n, _, h⟩ := hx; exact ⟨_, h⟩
          · rename_i heq; rw [heq] at hx; simp only [VR] at hx; obtain ⟨b, o, h, _⟩ := hx; exact ⟨_, h⟩
          · cases hl
      obtain ⟨p, hp⟩ := hp
      rw [hp] at h1
      simp only [Instr.loadAt, Instr.sureAddr, Sem.run_bind, Sem.run_pure, Result.andThen_ok] at h1
      simp only [rdRes, hp, asAddr, Sem.run_bind, Sem.run_pure, Result.andThen_ok]
      exact h1
    · cases h

theorem resVals_sound (hT : TabOk P T) (hr : Rel P w0 O0 N β I σ a w) : ∀ (rs : List ResultVar) (xs : List AV), resVals T σ rs = some xs →
    ∃ vs, (rs.mapM (rdRes a.tmps)).run P w = .ok vs w ∧ VRl P β w I xs vs
  | [], xs, h => by simp only [resVals, Option.some.injEq] at h; subst h; exact ⟨[], by simp, by simp [VRl]⟩
  | r :: rs, xs, h => by
    simp only [resVals] at h
    cases h1 : resVal T σ r with
    | none => simp [h1] at h
    | some x =>
      cases h2 : resVals T σ rs with
      | none => simp [h1, h2] at h
      | some ys =>
        simp only [h1, h2, Option.bind_some, Option.some.injEq] at h
        subst h
        obtain ⟨v, g1, g2⟩ := resVal_sound hT hr h1
        obtain ⟨vs, g3, g4⟩ := resVals_sound hT hr rs ys h2
        exact ⟨v :: vs, by simp only [List.mapM_cons, Sem.run_bind, g1, Result.andThen_ok, g3, Sem.run_pure], by simp only [VRl]; exact ⟨g2, g4⟩⟩

/-- The memory in which the results are read. -/
def OutI (σ : St) (w0 w : World) (β : Nat → Option Blk) (I I0 : Nat → Prop) (fk : Option Nat) (b : Nat) : Prop :=
  (I b ∨ I0 b ∨ w0.heap.size ≤ b) ∧ b < w.heap.size ∧ ¬ ∃ k s n, fk = some k ∧ (∃ o, σ.obj k = some o) ∧ β k = some (.at b s n)

theorem outI_sub (I0 : Nat → Prop) (hr : Rel P w0 O0 N β I σ a w) (fk : Option Nat) : ∀ b, I b → OutI σ w0 w β I I0 fk b := fun b hb =>
  ⟨.inl hb, hr.mem.lt b hb, fun ⟨k, s, n, _, ⟨o, ho⟩, hβ⟩ => (hr.mem.own k o b s n ho hβ).1 hb⟩

theorem ORows.toNob {I' : Nat → Prop} (hI : ∀ b, I b → I' b) (rows : List (List Tree)) (c : Array Value) (off sz : Nat) (h : ORows P β w I (avRows rows) c off sz) : ORows P nob w I' (avRows rows) c off sz := by
  rw [ORows_iff] at h ⊢
  intro i r hr
  obtain ⟨h1, h2⟩ := h i r hr
  refine ⟨h1, ?_⟩
  rw [ORow_iff] at h2 ⊢
  intro j x hx
  obtain ⟨v, g1, g2, g3⟩ := h2 j x hx
  refine ⟨v, g1, ?_, g3⟩
  simp only [avRows, List.getElem?_map, Option.map_eq_some_iff] at hr
  obtain ⟨r', hr', rfl⟩ := hr
  simp only [List.getElem?_map, Option.map_eq_some_iff] at hx
  obtain ⟨x', hx', rfl⟩ := hx
  simp only [VR] at g2 ⊢
  exact TR.mono (fun _ _ => rfl) hI _ _ g2

theorem expT_sound {I0 : Nat → Prop} (hO : ∀ b, ¬ O0.own b) (hr : Rel P w0 O0 N β I σ a w) {fk : Option Nat} {x : AV} {y : Tree} {v : Value} (h : ExpT σ.obj fk x y) (hv : VR P β w I x v) : TR w (OutI σ w0 w β I I0 fk) y v := by
  cases x <;> simp only [ExpT] at h
  case t x => subst h; simp only [VR] at hv; exact TR.mono (fun _ _ => rfl) (outI_sub I0 hr fk) _ _ hv
  case nilsl => subst h; simp only [VR] at hv; simp only [TR]; exact .inl ⟨trivial, none, 0, hv, fun _ => rfl⟩
  case own k off len =>
    obtain ⟨hne, o, trows, h1, h2, h3, rfl⟩ := h
    simp only [VR] at hv
    simp only [TR]
    rcases hv with ⟨_, rfl, _, h4⟩ | ⟨b, sz, n, cap, ad, h4, rfl, h5, h6, h7⟩
    · exact .inl ⟨List.eq_nil_of_length_eq_zero (by omega), none, 0, rfl, fun _ => rfl⟩
    · obtain ⟨g1, g2, g3⟩ := hr.mem.own k o b sz n h1 h4
      refine .inr ⟨b, ad, cap, sz, by rw [h3], by omega, ⟨.inr (.inr (g3.resolve_left (hO b))), g2, fun ⟨k', s', n', e1, ⟨o', e2⟩, e3⟩ => ?_⟩, ?_⟩
      · have := hr.mem.inj k k' o o' b sz n s' n' h1 e2 h4 e3
        subst this
        exact hne e1
      · by_cases hc : cap = 0
        · have : trows = [] := List.eq_nil_of_length_eq_zero (by omega)
          subst this; simp [TRows]
        · rw [h7 hc]
          obtain ⟨B, hB, hOR⟩ := hr.mem.objs k o h1
          rw [h4] at hB; injection hB with hB; subst hB
          obtain ⟨hs, c, e, hc', _, hOR⟩ := hOR
          have h8 := ORows.take len _ _ _ _ (ORows.drop off _ _ _ _ hOR)
          rw [h2, Nat.zero_add] at h8
          exact TRows.of_own (outI_sub I0 hr fk) hc' trows _ _ h8

theorem expC_sound {I0 : Nat → Prop} (hO : ∀ b, ¬ O0.own b) (hr : Rel P w0 O0 N β I σ a w) {fk : Option Nat} {x : AV} {c : RC} {v : Value} (h : ExpC σ.obj fk x c) (hv : VR P β w I x v) : RCR P w0 c w (OutI σ w0 w β I I0 fk) v := by
  unfold ExpC at h
  split at h
  · rename_i cs ts
    simp only [VR] at hv
    obtain ⟨vs, rfl, hv⟩ := hv
    refine ⟨vs, rfl, ?_⟩
    have : ∀ (cs : List AV) (ts : List Tree) (vs : List Value), ExpL σ.obj fk cs ts → VRl P β w I cs vs → TRl w (OutI σ w0 w β I I0 fk) ts vs := by
      intro cs
      induction cs with
      | nil => intro ts vs h hv; cases ts <;> cases vs <;> first | trivial | exact h.elim | (simp [VRl] at hv)
      | cons x xs ih =>
        intro ts vs h hv
        cases ts with
        | nil => exact h.elim
        | cons t ts =>
          cases vs with
          | nil => simp [VRl] at hv
          | cons u us => simp only [VRl] at hv; exact ⟨expT_sound hO hr h.1 hv.1, ih ts us h.2 hv.2⟩
    exact this cs ts vs.toList h hv
  · exact expT_sound hO hr h hv
  · subst h
    simp only [VR] at hv
    exact .inl ⟨rfl, hv⟩
  · rename_i k off len sz rows
    obtain ⟨rfl, rfl, o, h1, rfl, h2, h3⟩ := h
    simp only [VR] at hv
    rcases hv with ⟨_, rfl, _, h4⟩ | ⟨b, sz, n, cap, ad, h4, rfl, h5, h6, h7⟩
    · exact .inl ⟨List.eq_nil_of_length_eq_zero (by omega), rfl⟩
    · obtain ⟨g1, g2, g3⟩ := hr.mem.own k o b sz n h1 h4
      obtain ⟨B, hB, hOR⟩ := hr.mem.objs k o h1
      rw [h4] at hB; injection hB with hB; subst hB
      obtain ⟨hs, c, e, hc', hn, hOR⟩ := hOR
      have h8 := ORows.take len _ _ _ _ hOR
      rw [h2] at h8
      refine .inr ⟨b, c, e, cap, ad, by rw [h3], g3.resolve_left (hO b), fun hI => hI.2.2 ⟨k, sz, n, rfl, ⟨o, h1⟩, h4⟩, hc', by omega, ?_, ?_, fun hc => by simpa using h7 hc⟩
      · rw [← hs, hn]; simpa using h6
      · rw [← hs]; exact ORows.toNob (outI_sub I0 hr _) rows c 0 sz h8
  · exact h.elim

/-- A function's contract out of the abstract walk of its body. -/
theorem fnP_of_ev (hT : TabOk P T) {f : FuncId} {fn : Func} {c : Code} {args : List AV} {rv : RV} (hfn : P.funcs[f]? = some fn) (hb : fn.body = some c) (hname : (fn.name == "runtime.NumGoroutine") = false) (hN : args.length ≤ fn.ntmps) (hargs : refsL args = [])
    (h : Ev P fn.ntmps c (RetQ T fn.results.toList rv) (LSt.st ⟨(List.range args.length).zip args, []⟩)) : FnP P f args rv := by
  refine ⟨⟨fn, hfn, by rw [hb]; rfl, hname⟩, fun w I vs hlt hv => ?_⟩
  have hvl := VRl.length _ _ hv
  simp only [Array.length_toList] at hvl
  have hlook : ∀ (l : List AV) (s t : Nat), (lk ((List.range' s l.length).zip l) t) = if s ≤ t ∧ t < s + l.length then l[t - s]? else none := by
    intro l
    induction l with
    | nil => intro s t; simp [lk]
    | cons x xs ih =>
      intro s t
      simp only [List.length_cons, List.range'_succ, List.zip_cons_cons, lk]
      by_cases hst : s = t
      · subst hst; simp
      · rw [if_neg hst, ih]
        by_cases hlt' : s + 1 ≤ t ∧ t < s + 1 + xs.length
        · rw [if_pos hlt', if_pos (by omega), show t - s = (t - (s + 1)) + 1 by omega]; simp
        · rw [if_neg hlt', if_neg (by omega)]
  have hlook0 : ∀ t, lk ((List.range args.length).zip args) t = args[t]? := by
    intro t
    rw [List.range_eq_range', hlook]
    by_cases ht : t < args.length
    · simp [ht]
    · rw [if_neg (by omega)]; simp [List.getElem?_eq_none (Nat.le_of_not_lt ht)]
  have hnoref : ∀ x ∈ args, refs x = [] := by
    have : ∀ l : List AV, refsL l = [] → ∀ x ∈ l, refs x = [] := by
      intro l
      induction l with
      | nil => intro _ x hx; simp at hx
      | cons y ys ih => intro h x hx; simp only [refsL, List.append_eq_nil_iff] at h; rcases List.mem_cons.1 hx with rfl | hx
                        · exact h.1
                        · exact ih h.2 x hx
    exact this args hargs
  refine calls_of_wp hfn hb ?_
  have hrel : Rel P w ⟨fun _ => False, I⟩ fn.ntmps nob I (LSt.st ⟨(List.range args.length).zip args, []⟩) { tmps := vs ++ Array.replicate (fn.ntmps - vs.size) undef, defers := [] } w := by
    refine ⟨rfl, by simp; omega, fun t => ?_, ?_⟩
    · simp only [LSt.st, hlook0, SlotR]
      by_cases ht : t < args.length
      · obtain ⟨v, g1, g2⟩ := VRl.get _ _ t _ hv (List.getElem?_eq_getElem ht)
        rw [List.getElem?_eq_getElem ht]
        simp only [Option.getD_some]
        have : (vs ++ Array.replicate (fn.ntmps - vs.size) undef).getD t undef = v := by
          rw [Array.getElem?_toList] at g1
          simp only [Array.getD_eq_getD_getElem?, Array.getElem?_append, show t < vs.size by omega, if_true, g1, Option.getD_some]
        rw [this]; exact g2
      · rw [List.getElem?_eq_none (Nat.le_of_not_lt ht)]; simp [VR]
    · refine ⟨fun k o hk => by simp [LSt.st, lk] at hk, fun k k' o o' b s n s' n' hk => by simp [LSt.st, lk] at hk, fun k o b s n hk => by simp [LSt.st, lk] at hk, hlt, fun b hb => .inl hb, fun _ _ _ => rfl, Nat.le_refl _, rfl, rfl, rfl⟩
  have hold : Old (LSt.st ⟨(List.range args.length).zip args, []⟩) := by
    refine ⟨fun t k hk => ?_, fun k o hk => by simp [LSt.st, lk] at hk⟩
    simp only [LSt.st, hlook0] at hk
    cases ht : args[t]? with
    | none => rw [ht] at hk; simp [refs] at hk
    | some x => rw [ht] at hk; simp only [Option.getD_some, hnoref x (List.mem_of_getElem? ht)] at hk; simp at hk
  refine wp_mono (h w ⟨fun _ => False, I⟩ nob I _ w hrel hold) ?_
  have fin : ∀ (a' : Act) (w' : World) (β' : Nat → Option Blk) (I' : Nat → Prop) (σ' : St), Rel P w ⟨fun _ => False, I⟩ fn.ntmps β' I' σ' a' w' → (∃ xs fk, resVals T σ' fn.results.toList = some xs ∧ ExpR σ'.obj fk xs rv) →
      a'.defers = [] ∧ ∃ v, (results fn a'.tmps).run P w' = .ok v w' ∧ PureRet w I (RVR P w rv) (.returned v) w' := by
    intro a' w' β' I' σ' hr ⟨xs, fk, hx, he⟩
    have hO : ∀ b, ¬ (⟨fun _ => False, I⟩ : Was).own b := fun b h => h
    obtain ⟨us, g1, g2⟩ := resVals_sound hT hr _ _ hx
    have hul := VRl.length _ _ g2
    have hm := hr.mem
    have hrun : (fn.results.mapM (rdRes a'.tmps)).run P w' = .ok us.toArray w' := by
      rw [Array.mapM_eq_mapM_toList, Sem.run_map, g1]; rfl
    have ret : ∀ v, RVR P w rv w' (OutI σ' w w' β' I' I fk) v → PureRet w I (RVR P w rv) (.returned v) w' := by
      intro v hv'
      refine ⟨v, OutI σ' w w' β' I' I fk, rfl, ⟨hm.os, hm.tape, hm.output, hm.le, fun b hb => hm.keep b hb (hO b)⟩, fun b hb => ⟨.inr (.inl hb), Nat.lt_of_lt_of_le (hlt b hb) hm.le, ?_⟩, fun b hb => hb.2.1, fun b hb => ?_, hv'⟩
      · rintro ⟨k, s, n, _, ⟨o, ho⟩, hβ⟩
        have h1 := (hm.own k o b s n ho hβ).2.2.resolve_left (hO b)
        have h2 := hlt b hb
        omega
      · rcases hb.1 with h1 | h1 | h1
        · rcases hm.up b h1 with h2 | h2 | h2
          · exact .inl h2
          · exact (hO b h2).elim
          · exact .inr h2
        · exact .inl h1
        · exact .inr h1
    refine ⟨hr.defers, ?_⟩
    have hlist : ∀ (xs : List AV) (cs : List RC) (us : List Value), ExpCs σ'.obj fk xs cs → VRl P β' w' I' xs us → RCRl P w cs w' (OutI σ' w w' β' I' I fk) us := by
      intro xs
      induction xs with
      | nil => intro cs us h1 h2; cases cs <;> cases us <;> first | trivial | exact h1.elim | (simp [VRl] at h2)
      | cons x xs ih =>
        intro cs us h1 h2
        cases cs with
        | nil => exact h1.elim
        | cons c cs =>
          cases us with
          | nil => simp [VRl] at h2
          | cons u us => simp only [VRl] at h2; exact ⟨expC_sound hO hr h1.1 h2.1, ih cs us h1.2 h2.2⟩
    simp only [results_eq, Sem.run_bind, hrun, Result.andThen_ok, Sem.run_pure]
    refine ⟨_, rfl, ret _ ?_⟩
    match xs, us, rv, he, g2 with
    | [x], [u], .one c, he, g2 =>
      simp only [VRl] at g2
      simpa [RVR] using expC_sound hO hr he g2.1
    | x :: y :: r, u :: u' :: us, .tup cs, he, g2 =>
      have := hlist _ _ _ he g2
      rw [dif_neg (by simp)]
      exact ⟨_, rfl, by simpa using this⟩
    | [], [], .tup cs, he, g2 =>
      simp only [ExpR] at he
      subst he
      rw [dif_neg (by simp)]
      exact ⟨_, rfl, trivial⟩
    | [x], [u], .tup cs, he, _ => exact he.elim
    | [], _, .one c, he, _ => exact he.elim
    | x :: y :: r, _, .one c, he, _ => exact he.elim
    | [], _ :: _, .tup _, _, g2 => simp [VRl] at g2
    | [_], [], _, _, g2 => simp [VRl] at g2
    | [_], _ :: _ :: _, _, _, g2 => simp [VRl] at g2
    | _ :: _ :: _, [], _, _, g2 => simp [VRl] at g2
    | _ :: _ :: _, [_], _, _, g2 => simp [VRl] at g2
  rintro e a' w' ⟨β', I', σ', h1, h2, h3⟩
  cases e with
  | normal => exact fin a' w' β' I' σ' h1 h3
  | ret => exact fin a' w' β' I' σ' h1 h3
  | _ => exact h3.elim
end
end Go.Gb
