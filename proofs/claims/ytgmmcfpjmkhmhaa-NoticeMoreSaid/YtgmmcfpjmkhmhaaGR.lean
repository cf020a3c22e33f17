/-
  A region, and a whole function, in the abstract walk.
-/
import Derived.Test.YtgmmcfpjmkhmhaaGQ
namespace Go.Gb
open Go.RowKit

/-- The j-th object that was handed in is handed back. -/
def kept (os' : List (Option RowsT)) (j : Nat) : Prop := ∃ p, os'[j]? = some (some p)

/-- A value that goes out: as data, or as memory that nobody else holds (the object fk). -/
def ExpT (get : Nat → Option AObj) (fk : Option Nat) (os' : List (Option RowsT)) : AV → Tree → Prop
  | .t x, y => y = x
  | .nilsl, y => y = .sl []
  | .own k off len, y => fk ≠ some k ∧ ¬ kept os' k ∧ ∃ o trows, get k = some o ∧ (o.rows.drop off).take len = avRows trows ∧ trows.length = len ∧ y = .sl trows
  | _, _ => False

def ExpL (get : Nat → Option AObj) (fk : Option Nat) (os' : List (Option RowsT)) : List AV → List Tree → Prop
  | [], [] => True
  | x :: xs, y :: ys => ExpT get fk os' x y ∧ ExpL get fk os' xs ys
  | _, _ => False

def ExpRows (get : Nat → Option AObj) (fk : Option Nat) (os' : List (Option RowsT)) : List (List AV) → List (List Tree) → Prop
  | [], [] => True
  | x :: xs, y :: ys => ExpL get fk os' x y ∧ ExpRows get fk os' xs ys
  | _, _ => False

def ExpC (get : Nat → Option AObj) (fk : Option Nat) (os' : List (Option RowsT)) : AV → RC → Prop
  | .agg cs, .d (.a ts) => ExpL get fk os' cs ts
  | x, .d (.s y) => ExpT get fk os' x y
  | .nilsl, .fresh _ rows => rows = []
  | .own k off len, .fresh sz rows => fk = some k ∧ ¬ kept os' k ∧ off = 0 ∧ ∃ o, get k = some o ∧ o.sz = sz ∧ ExpRows get fk os' (o.rows.take len) rows ∧ rows.length = len
  | .own k off len, .whole j len' => k = j ∧ off = 0 ∧ len' = len ∧ kept os' j
  | _, _ => False

def ExpCs (get : Nat → Option AObj) (fk : Option Nat) (os' : List (Option RowsT)) : List AV → List RC → Prop
  | [], [] => True
  | x :: xs, c :: cs => ExpC get fk os' x c ∧ ExpCs get fk os' xs cs
  | _, _ => False

def ExpR (get : Nat → Option AObj) (fk : Option Nat) (os' : List (Option RowsT)) : List AV → RV → Prop
  | [x], .one c => ExpC get fk os' x c
  | x :: y :: r, .tup cs => ExpCs get fk os' (x :: y :: r) cs
  | [], .tup cs => cs = []
  | _, _ => False

/-- The objects that are handed back. -/
def ExpO (get : Nat → Option AObj) (fk : Option Nat) (os' : List (Option RowsT)) : Prop :=
  ∀ (j : Nat) p, os'[j]? = some (some p) → fk ≠ some j ∧ ∃ o, get j = some o ∧ o.sz = p.1 ∧ ExpRows get fk os' (o.rows.take p.2.length) p.2

def resVal (T : Tab) (σ : St) : ResultVar → Option AV
  | .tmp t => match σ.ok t with
    | none => some (σ.env t)
    | some _ => none
  | .cell a t => match σ.ok a with
    | none => match aLoad T t (σ.env a) .none σ.obj with
      | some ⟨v, [], []⟩ => some v
      | _ => none
    | some _ => none

def resVals (T : Tab) (σ : St) : List ResultVar → Option (List AV)
  | [] => some []
  | r :: rs => (resVal T σ r).bind fun v => (resVals T σ rs).bind fun vs => some (v :: vs)

def rdRes (tmps : Array Value) : ResultVar → Sem Value
  | .tmp t => pure (tmps.getD t undef)
  | .cell a t => do loadVar t (← asAddr (tmps.getD a undef))

theorem results_eq (fn : Func) (tmps : Array Value) : results fn tmps = (fn.results.mapM (rdRes tmps)) >>= fun vs => pure (if h : vs.size = 1 then vs[0] else .tuple vs) := by
  unfold results
  congr 2

/-- What a function hands back. -/
def RetQ (T : Tab) (rs : List ResultVar) (rv : RV) (os' : List (Option RowsT)) : Exit → St → Prop
  | .normal, σ => ∃ xs fk, resVals T σ rs = some xs ∧ ExpR σ.obj fk os' xs rv ∧ ExpO σ.obj fk os'
  | .ret, σ => ∃ xs fk, resVals T σ rs = some xs ∧ ExpR σ.obj fk os' xs rv ∧ ExpO σ.obj fk os'
  | _, _ => False

section
variable {P : Program} {T : Tab} {w0 : World} {O0 : Was} {N : Nat} {β : Nat → Option Blk} {I : Nat → Prop} {σ : St} {a : Act} {w : World}

theorem resVal_sound (hT : TabOk P T) (hr : Rel P w0 O0 N β I σ a w) {r : ResultVar} {x : AV} (h : resVal T σ r = some x) :
    ∃ v, (rdRes a.tmps r).run P w = .ok v w ∧ VR P β w I x v := by
  cases r with
  | tmp t =>
    simp only [resVal] at h
    have h1 := hr.env t
    cases hk : σ.ok t with
    | some b => rw [hk] at h; cases h
    | none =>
      rw [hk] at h h1
      injection h with h; subst h
      exact ⟨_, by simp [rdRes], h1⟩
  | cell ad t =>
    simp only [resVal] at h
    have hx := hr.env ad
    cases hk : σ.ok ad with
    | some b => rw [hk] at h; cases h
    | none =>
    rw [hk] at h hx
    simp only at h
    have hx : VR P β w I (σ.env ad) (a.tmps.getD ad undef) := hx
    split at h
    · rename_i v hl
      injection h with h; subst h
      obtain ⟨u, h1, h2, _⟩ := aLoad_sound hT hr.mem (fun _ _ h => h) hl trivial hx
      refine ⟨u, ?_, h2⟩
      have hp : ∃ p, a.tmps.getD ad undef = .pointer (some p) := by
        unfold aLoad at hl
        cases hti : T t with
        | none => simp [hti] at hl
        | some ti =>
          simp only [hti, Option.bind_some] at hl
          split at hl
          · rename_i heq; rw [heq] at hx; simp only [VR] at hx; obtain ⟨b, sz, n, _, h⟩ := hx; exact ⟨_, h⟩
          · rename_i heq; rw [heq] at hx; simp only [VR] at hx; obtain ⟨b, o, h, _⟩ := hx; exact ⟨_, h⟩
          · cases hl
      obtain ⟨p, hp⟩ := hp
      rw [hp] at h1
      simp only [Instr.loadAt, Instr.sureAddr, Sem.run_bind, Sem.run_pure, Result.andThen_ok] at h1
      simp only [rdRes, hp, asAddr, Sem.run_bind, Sem.run_pure, Result.andThen_ok]
      exact h1
    · cases h

theorem resVals_sound (hT : TabOk P T) (hr : Rel P w0 O0 N β I σ a w) : ∀ (rs : List ResultVar) (xs : List AV), resVals T σ rs = some xs →
    ∃ vs, (rs.mapM (rdRes a.tmps)).run P w = .ok vs w ∧ VRl P β w I xs vs
  | [], xs, h => by simp only [resVals, Option.some.injEq] at h; subst h; exact ⟨[], by simp, by simp [VRl]⟩
  | r :: rs, xs, h => by
    simp only [resVals] at h
    cases h1 : resVal T σ r with
    | none => simp [h1] at h
    | some x =>
      cases h2 : resVals T σ rs with
      | none => simp [h1, h2] at h
      | some ys =>
        simp only [h1, h2, Option.bind_some, Option.some.injEq] at h
        subst h
        obtain ⟨v, g1, g2⟩ := resVal_sound hT hr h1
        obtain ⟨vs, g3, g4⟩ := resVals_sound hT hr rs ys h2
        exact ⟨v :: vs, by simp only [List.mapM_cons, Sem.run_bind, g1, Result.andThen_ok, g3, Sem.run_pure], by simp only [VRl]; exact ⟨g2, g4⟩⟩

/-- The memory in which the results are read. -/
def OutI (σ : St) (w0 w : World) (β : Nat → Option Blk) (I : Nat → Prop) (O0 : Was) (fk : Option Nat) (os' : List (Option RowsT)) (b : Nat) : Prop :=
  (I b ∨ O0.imm b ∨ w0.heap.size ≤ b ∨ O0.own b) ∧ b < w.heap.size ∧ ¬ ∃ k s n, (fk = some k ∨ kept os' k) ∧ (∃ o, σ.obj k = some o) ∧ β k = some (.at b s n)

theorem outI_sub (hr : Rel P w0 O0 N β I σ a w) (fk : Option Nat) (os' : List (Option RowsT)) : ∀ b, I b → OutI σ w0 w β I O0 fk os' b := fun b hb =>
  ⟨.inl hb, hr.mem.lt b hb, fun ⟨k, s, n, _, ⟨o, ho⟩, hβ⟩ => (hr.mem.own k o b s n ho hβ).1 hb⟩

theorem expT_sound (hr : Rel P w0 O0 N β I σ a w) {fk : Option Nat} {os' : List (Option RowsT)} {x : AV} {y : Tree} {v : Value} (h : ExpT σ.obj fk os' x y) (hv : VR P β w I x v) : TR w (OutI σ w0 w β I O0 fk os') y v := by
  cases x <;> simp only [ExpT] at h
  case t x => subst h; simp only [VR] at hv; exact TR.mono (fun _ _ => rfl) (outI_sub hr fk os') _ _ hv
  case nilsl => subst h; simp only [VR] at hv; simp only [TR]; exact .inl ⟨trivial, none, 0, hv, fun _ => rfl⟩
  case own k off len =>
    obtain ⟨hne, hnk, o, trows, h1, h2, h3, rfl⟩ := h
    simp only [VR] at hv
    simp only [TR]
    rcases hv with ⟨_, rfl, _, h4⟩ | ⟨b, sz, n, cap, ad, h4, rfl, h5, h6, h7⟩
    · exact .inl ⟨List.eq_nil_of_length_eq_zero (by omega), none, 0, rfl, fun _ => rfl⟩
    · obtain ⟨g1, g2, g3⟩ := hr.mem.own k o b sz n h1 h4
      refine .inr ⟨b, ad, cap, sz, by rw [h3], by omega, ⟨.inr (.inr (g3.elim .inr .inl)), g2, fun ⟨k', s', n', e1, ⟨o', e2⟩, e3⟩ => ?_⟩, ?_⟩
      · have := hr.mem.inj k k' o o' b sz n s' n' h1 e2 h4 e3
        subst this
        exact e1.elim hne hnk
      · by_cases hc : cap = 0
        · have : trows = [] := List.eq_nil_of_length_eq_zero (by omega)
          subst this; simp [TRows]
        · rw [h7 hc]
          obtain ⟨B, hB, hOR⟩ := hr.mem.objs k o h1
          rw [h4] at hB; injection hB with hB; subst hB
          obtain ⟨hs, c, e, hc', _, hOR⟩ := hOR
          have h8 := ORows.take len _ _ _ _ (ORows.drop off _ _ _ _ hOR)
          rw [h2, Nat.zero_add] at h8
          exact TRows.of_own (outI_sub hr fk os') hc' trows _ _ h8

theorem expRow_sound (hr : Rel P w0 O0 N β I σ a w) {fk : Option Nat} {os' : List (Option RowsT)} {β' : Nat → Option Blk} : ∀ {r : List AV} {t : List Tree} {c : Array Value} {off : Nat}, ExpL σ.obj fk os' r t → ORow P β w I r c off → ORow P β' w (OutI σ w0 w β I O0 fk os') (t.map AV.t) c off
  | [], [], _, _, _, _ => trivial
  | x :: xs, y :: ys, c, off, h, ⟨⟨v, h1, h2, h3⟩, h4⟩ => ⟨⟨v, h1, by simp only [VR]; exact expT_sound hr h.1 h2, h3⟩, expRow_sound hr h.2 h4⟩
  | [], _ :: _, _, _, h, _ => h.elim
  | _ :: _, [], _, _, h, _ => h.elim

theorem ExpL.length {get : Nat → Option AObj} {fk : Option Nat} {os' : List (Option RowsT)} : ∀ {r : List AV} {t : List Tree}, ExpL get fk os' r t → t.length = r.length
  | [], [], _ => rfl
  | _ :: _, _ :: _, h => by simp [ExpL.length h.2]
  | [], _ :: _, h => h.elim
  | _ :: _, [], h => h.elim

theorem expRows_sound (hr : Rel P w0 O0 N β I σ a w) {fk : Option Nat} {os' : List (Option RowsT)} {β' : Nat → Option Blk} : ∀ {rs : List (List AV)} {ts : List (List Tree)} {c : Array Value} {off sz : Nat}, ExpRows σ.obj fk os' rs ts → ORows P β w I rs c off sz → ORows P β' w (OutI σ w0 w β I O0 fk os') (avRows ts) c off sz
  | [], [], _, _, _, _, _ => trivial
  | r :: rs, t :: ts, c, off, sz, h, ⟨h1, h2, h3⟩ => ⟨by rw [List.length_map, h.1.length, h1], expRow_sound hr h.1 h2, expRows_sound hr h.2 h3⟩
  | [], _ :: _, _, _, _, h, _ => h.elim
  | _ :: _, [], _, _, _, h, _ => h.elim

theorem ExpRows.nil {get : Nat → Option AObj} {fk : Option Nat} {os' : List (Option RowsT)} {t : List (List Tree)} (h : ExpRows get fk os' [] t) : t = [] := by
  cases t with
  | nil => rfl
  | cons => exact h.elim

theorem expC_sound (hr : Rel P w0 O0 N β I σ a w) {F : Nat → Prop} {βi : Nat → Option Blk} {fk : Option Nat} {os' : List (Option RowsT)} (hF : ∀ k o b s n, fk = some k → σ.obj k = some o → ¬ kept os' k → β k = some (.at b s n) → F b) (hi : ∀ j, kept os' j → β j = βi j) {x : AV} {c : RC} {v : Value}
    (h : ExpC σ.obj fk os' x c) (hv : VR P β w I x v) : RCR P F βi c w (OutI σ w0 w β I O0 fk os') v := by
  unfold ExpC at h
  split at h
  · rename_i cs ts
    simp only [VR] at hv
    obtain ⟨vs, rfl, hv⟩ := hv
    refine ⟨vs, rfl, ?_⟩
    have : ∀ (cs : List AV) (ts : List Tree) (vs : List Value), ExpL σ.obj fk os' cs ts → VRl P β w I cs vs → TRl w (OutI σ w0 w β I O0 fk os') ts vs := by
      intro cs
      induction cs with
      | nil => intro ts vs h hv; cases ts <;> cases vs <;> first | trivial | exact h.elim | (simp [VRl] at hv)
      | cons x xs ih =>
        intro ts vs h hv
        cases ts with
        | nil => exact h.elim
        | cons t ts =>
          cases vs with
          | nil => simp [VRl] at hv
          | cons u us => simp only [VRl] at hv; exact ⟨expT_sound hr h.1 hv.1, ih ts us h.2 hv.2⟩
    exact this cs ts vs.toList h hv
  · exact expT_sound hr h hv
  · subst h
    simp only [VR] at hv
    exact .inl ⟨rfl, hv⟩
  · rename_i k off len sz rows
    obtain ⟨rfl, hnk, rfl, o, h1, rfl, h2, h3⟩ := h
    simp only [VR] at hv
    rcases hv with ⟨_, rfl, _, h4⟩ | ⟨b, sz, n, cap, ad, h4, rfl, h5, h6, h7⟩
    · exact .inl ⟨List.eq_nil_of_length_eq_zero (by omega), rfl⟩
    · obtain ⟨g1, g2, g3⟩ := hr.mem.own k o b sz n h1 h4
      obtain ⟨B, hB, hOR⟩ := hr.mem.objs k o h1
      rw [h4] at hB; injection hB with hB; subst hB
      obtain ⟨hs, c, e, hc', hn, hOR⟩ := hOR
      refine .inr ⟨b, c, e, cap, ad, by rw [h3], hF k o b sz n rfl h1 hnk h4, fun hI => hI.2.2 ⟨k, sz, n, .inl rfl, ⟨o, h1⟩, h4⟩, hc', by omega, ?_, ?_, fun hc => by simpa using h7 hc⟩
      · rw [← hs, hn]; simpa using h6
      · rw [← hs]; exact expRows_sound hr h2 (ORows.take len _ _ _ _ hOR)
  · rename_i k off len j len'
    obtain ⟨rfl, rfl, rfl, hk⟩ := h
    show VR P βi w (OutI σ w0 w β I O0 fk os') (.own k 0 len') v
    simp only [VR] at hv ⊢
    rw [← hi k hk]; exact hv
  · exact h.elim

theorem lk_zip {α : Type} (l : List α) (t : Nat) : lk ((List.range l.length).zip l) t = l[t]? := by
  have hlook : ∀ (l : List α) (s t : Nat), (lk ((List.range' s l.length).zip l) t) = if s ≤ t ∧ t < s + l.length then l[t - s]? else none := by
    intro l
    induction l with
    | nil => intro s t; simp [lk]
    | cons x xs ih =>
      intro s t
      simp only [List.length_cons, List.range'_succ, List.zip_cons_cons, lk]
      by_cases hst : s = t
      · subst hst; simp
      · rw [if_neg hst, ih]
        by_cases hlt' : s + 1 ≤ t ∧ t < s + 1 + xs.length
        · rw [if_pos hlt', if_pos (by omega), show t - s = (t - (s + 1)) + 1 by omega]; simp
        · rw [if_neg hlt', if_neg (by omega)]
  rw [List.range_eq_range', hlook]
  by_cases ht : t < l.length
  · simp [ht]
  · rw [if_neg (by omega)]; simp [List.getElem?_eq_none (Nat.le_of_not_lt ht)]

theorem mem_refsL {x : AV} : ∀ {l : List AV}, x ∈ l → ∀ k ∈ refs x, k ∈ refsL l
  | [], h, _, _ => by simp at h
  | y :: ys, h, k, hk => by
    simp only [refsL, List.mem_append]
    rcases List.mem_cons.1 h with rfl | h
    · exact .inl hk
    · exact .inr (mem_refsL h k hk)

/-- A function's contract out of the abstract walk of its body. -/
theorem fnW_of_ev (hT : TabOk P T) {f : FuncId} {fn : Func} {c : Code} {args : List AV} {os : List RowsT} {os' : List (Option RowsT)} {rv : RV} (hfn : P.funcs[f]? = some fn) (hb : fn.body = some c) (hname : (fn.name == "runtime.NumGoroutine") = false) (hN : args.length ≤ fn.ntmps) (hargs : ∀ k ∈ refsL args, k < 1000) (hos : os.length ≤ 1000) (hlen : os'.length = os.length)
    (h : Ev P fn.ntmps c (RetQ T fn.results.toList rv os') (LSt.st ⟨(List.range args.length).zip args, (List.range (os.map aob).length).zip (os.map aob)⟩)) : FnW P f args os os' rv := by
  refine ⟨⟨fn, hfn, by rw [hb]; rfl, hname⟩, fun w β I vs hβ hM hv => ?_⟩
  have hvl := VRl.length _ _ hv
  simp only [Array.length_toList] at hvl
  have hobj : ∀ k, lk ((List.range (os.map aob).length).zip (os.map aob)) k = osf os k := fun k => by
    rw [lk_zip]; simp [osf]
  refine calls_of_wp hfn hb ?_
  have hrel : Rel P w (WasW β I) fn.ntmps β I (LSt.st ⟨(List.range args.length).zip args, (List.range (os.map aob).length).zip (os.map aob)⟩) { tmps := vs ++ Array.replicate (fn.ntmps - vs.size) undef, defers := [] } w := by
    refine ⟨rfl, by simp; omega, fun t => ?_, ?_⟩
    · simp only [LSt.st, lk_zip, SlotR]
      by_cases ht : t < args.length
      · obtain ⟨v, g1, g2⟩ := VRl.get _ _ t _ hv (List.getElem?_eq_getElem ht)
        rw [List.getElem?_eq_getElem ht]
        simp only [Option.getD_some]
        have : (vs ++ Array.replicate (fn.ntmps - vs.size) undef).getD t undef = v := by
          rw [Array.getElem?_toList] at g1
          simp only [Array.getD_eq_getD_getElem?, Array.getElem?_append, show t < vs.size by omega, if_true, g1, Option.getD_some]
        rw [this]; exact g2
      · rw [List.getElem?_eq_none (Nat.le_of_not_lt ht)]; simp [VR]
    · have : (LSt.st ⟨(List.range args.length).zip args, (List.range (os.map aob).length).zip (os.map aob)⟩).obj = osf os := funext hobj
      rw [this]; exact hM
  have hold : Old (LSt.st ⟨(List.range args.length).zip args, (List.range (os.map aob).length).zip (os.map aob)⟩) := by
    refine ⟨fun t k hk => ?_, fun k o hk => ?_⟩
    · simp only [LSt.st, lk_zip] at hk
      cases ht : args[t]? with
      | none => rw [ht] at hk; simp [refs] at hk
      | some x => rw [ht] at hk; have := hargs k (mem_refsL (List.mem_of_getElem? ht) k hk); omega
    · have hk : osf os k = some o := (hobj k).symm.trans hk
      simp only [osf, Option.map_eq_some_iff] at hk
      obtain ⟨p, hp, rfl⟩ := hk
      refine ⟨by have := (List.getElem?_eq_some_iff.1 hp).1; omega, fun r hr x hx j hj => ?_⟩
      simp only [aob, avRows, List.mem_map] at hr
      obtain ⟨q, _, rfl⟩ := hr
      simp only [List.mem_map] at hx
      obtain ⟨t, _, rfl⟩ := hx
      simp [refs] at hj
  refine wp_mono (h w (WasW β I) β I _ w hrel hold) ?_
  have fin : ∀ (a' : Act) (w' : World) (β' : Nat → Option Blk) (I' : Nat → Prop) (σ' : St), Rel P w (WasW β I) fn.ntmps β' I' σ' a' w' → (∃ xs fk, resVals T σ' fn.results.toList = some xs ∧ ExpR σ'.obj fk os' xs rv ∧ ExpO σ'.obj fk os') →
      a'.defers = [] ∧ ∃ v, (results fn a'.tmps).run P w' = .ok v w' ∧ RetW P w β I os' rv (.returned v) w' := by
    intro a' w' β' I' σ' hr ⟨xs, fk, hx, he, heo⟩
    obtain ⟨us, g1, g2⟩ := resVals_sound hT hr _ _ hx
    have hul := VRl.length _ _ g2
    have hm := hr.mem
    have hrun : (fn.results.mapM (rdRes a'.tmps)).run P w' = .ok us.toArray w' := by
      rw [Array.mapM_eq_mapM_toList, Sem.run_map, g1]; rfl
    have hko : ∀ j p, os'[j]? = some (some p) → ∃ B o, β j = some B ∧ β' j = some B ∧ σ'.obj j = some o ∧ OR P β' w' I' o B ∧ o.sz = p.1 ∧ ExpRows σ'.obj fk os' (o.rows.take p.2.length) p.2 := by
      intro j p hj
      obtain ⟨_, o, e1, e2, e3⟩ := heo j p hj
      have hjl : j < os.length := by rw [← hlen]; exact (List.getElem?_eq_some_iff.1 hj).1
      obtain ⟨B, hB, _⟩ := hM.objs j (aob os[j]) (by simp [osf, hjl])
      have hB' := hm.anch j B (by simp only [WasW]; rw [if_pos (by omega)]; exact hB)
      obtain ⟨B', hB2, hO⟩ := hm.objs j o e1
      rw [hB'] at hB2; injection hB2 with hB2; subst hB2
      exact ⟨B, o, hB, hB', e1, hO, e2, e3⟩
    have hkept : ∀ j, kept os' j → β' j = β j := fun j ⟨p, hp⟩ => by
      obtain ⟨B, o, h1, h2, _⟩ := hko j p hp
      rw [h1, h2]
    have hosf : ∀ j o, osf' os' j = some o → ∃ p, os'[j]? = some (some p) ∧ o = aob p := by
      intro j o hj
      simp only [osf', Option.map_eq_some_iff, Option.join_eq_some_iff] at hj
      obtain ⟨p, hp, rfl⟩ := hj
      exact ⟨p, hp, rfl⟩
    have hownI : ∀ b, I b → ¬ ownB β b ∧ b < w.heap.size := by
      intro b hb
      refine ⟨?_, hM.lt b hb⟩
      rintro ⟨j, s, n, hj⟩
      rcases Nat.lt_or_ge j os.length with hjl | hjl
      · exact (hM.own j (aob os[j]) b s n (by simp [osf, hjl]) hj).1 hb
      · rw [hβ j hjl] at hj; cases hj
    have hOI : ∀ b, I b → OutI σ' w w' β' I' (WasW β I) fk os' b := by
      intro b hb
      obtain ⟨g1, g2⟩ := hownI b hb
      refine ⟨.inr (.inl hb), Nat.lt_of_lt_of_le g2 hm.le, ?_⟩
      rintro ⟨k, s, n, _, ⟨o, ho⟩, hβk⟩
      rcases (hm.own k o b s n ho hβk).2.2 with g | g
      · exact g1 g
      · omega
    have hmem : Mem P w (WasW β I) β (OutI σ' w w' β' I' (WasW β I) fk os') (osf' os') w' := by
      constructor
      · intro j o hj
        obtain ⟨p, hp, rfl⟩ := hosf j o hj
        obtain ⟨B, o1, b1, b2, b3, b4, b5, b6⟩ := hko j p hp
        refine ⟨B, b1, ?_⟩
        cases B with
        | none =>
          simp only [OR] at b4 ⊢
          rw [b4] at b6
          have := ExpRows.nil (by simpa using b6)
          simp [aob, avRows, this]
        | «at» b s n =>
          obtain ⟨c1, c, e, c2, c3, c4⟩ := b4
          refine ⟨by rw [c1, b5]; rfl, c, e, c2, c3, ?_⟩
          exact expRows_sound hr b6 (ORows.take _ _ _ _ _ c4)
      · intro j j' o o' b s n s' n' h1 h2 h3 h4
        obtain ⟨p, hp, rfl⟩ := hosf j o h1
        obtain ⟨p', hp', rfl⟩ := hosf j' o' h2
        obtain ⟨_, o1, _, _, b3, _⟩ := hko j p hp
        obtain ⟨_, o1', _, _, b3', _⟩ := hko j' p' hp'
        rw [← hkept j ⟨p, hp⟩] at h3
        rw [← hkept j' ⟨p', hp'⟩] at h4
        exact hm.inj j j' o1 o1' b s n s' n' b3 b3' h3 h4
      · intro j o b s n h1 h2
        obtain ⟨p, hp, rfl⟩ := hosf j o h1
        obtain ⟨_, o1, _, _, b3, _⟩ := hko j p hp
        rw [← hkept j ⟨p, hp⟩] at h2
        obtain ⟨_, c2, c3⟩ := hm.own j o1 b s n b3 h2
        exact ⟨fun hb => hb.2.2 ⟨j, s, n, .inr ⟨p, hp⟩, ⟨o1, b3⟩, h2⟩, c2, c3⟩
      · exact fun b hb => hb.2.1
      · intro b hb
        rcases hb.1 with g | g | g | g
        · exact hm.up b g
        · exact .inl g
        · exact .inr (.inr g)
        · exact .inr (.inl g)
      · exact hm.keep
      · exact hm.le
      · exact hm.os
      · exact hm.tape
      · exact hm.output
      · intro j B hj
        simp only [WasW] at hj
        split at hj
        · exact hj
        · cases hj
    have hF : ∀ k o b s n, fk = some k → σ'.obj k = some o → ¬ kept os' k → β' k = some (.at b s n) → newW w β os' b := by
      intro k o b s n _ h2 h3 h4
      refine ⟨(hm.own k o b s n h2 h4).2.2, fun j o' s' n' h5 h6 => ?_⟩
      obtain ⟨p, hp, rfl⟩ := hosf j o' h5
      obtain ⟨_, o1, _, _, b3, _⟩ := hko j p hp
      rw [← hkept j ⟨p, hp⟩] at h6
      have := hm.inj k j o o1 b s n s' n' h2 b3 h4 h6
      subst this
      exact h3 ⟨p, hp⟩
    have ret : ∀ v, RVR P (newW w β os') β rv w' (OutI σ' w w' β' I' (WasW β I) fk os') v → RetW P w β I os' rv (.returned v) w' := fun v hv' => ⟨v, _, rfl, hmem, hOI, hv'⟩
    refine ⟨hr.defers, ?_⟩
    have hlist : ∀ (xs : List AV) (cs : List RC) (us : List Value), ExpCs σ'.obj fk os' xs cs → VRl P β' w' I' xs us → RCRl P (newW w β os') β cs w' (OutI σ' w w' β' I' (WasW β I) fk os') us := by
      intro xs
      induction xs with
      | nil => intro cs us h1 h2; cases cs <;> cases us <;> first | trivial | exact h1.elim | (simp [VRl] at h2)
      | cons x xs ih =>
        intro cs us h1 h2
        cases cs with
        | nil => exact h1.elim
        | cons c cs =>
          cases us with
          | nil => simp [VRl] at h2
          | cons u us => simp only [VRl] at h2; exact ⟨expC_sound hr hF hkept h1.1 h2.1, ih cs us h1.2 h2.2⟩
    simp only [results_eq, Sem.run_bind, hrun, Result.andThen_ok, Sem.run_pure]
    refine ⟨_, rfl, ret _ ?_⟩
    match xs, us, rv, he, g2 with
    | [x], [u], .one c, he, g2 =>
      simp only [VRl] at g2
      simpa [RVR] using expC_sound hr hF hkept he g2.1
    | x :: y :: r, u :: u' :: us, .tup cs, he, g2 =>
      have := hlist _ _ _ he g2
      rw [dif_neg (by simp)]
      exact ⟨_, rfl, by simpa using this⟩
    | [], [], .tup cs, he, g2 =>
      simp only [ExpR] at he
      subst he
      rw [dif_neg (by simp)]
      exact ⟨_, rfl, trivial⟩
    | [x], [u], .tup cs, he, _ => exact he.elim
    | [], _, .one c, he, _ => exact he.elim
    | x :: y :: r, _, .one c, he, _ => exact he.elim
    | [], _ :: _, .tup _, _, g2 => simp [VRl] at g2
    | [_], [], _, _, g2 => simp [VRl] at g2
    | [_], _ :: _ :: _, _, _, g2 => simp [VRl] at g2
    | _ :: _ :: _, [], _, _, g2 => simp [VRl] at g2
    | _ :: _ :: _, [_], _, _, g2 => simp [VRl] at g2
  rintro e a' w' ⟨β', I', σ', h1, h2, h3⟩
  cases e with
  | normal => exact fin a' w' β' I' σ' h1 h3
  | ret => exact fin a' w' β' I' σ' h1 h3
  | _ => exact h3.elim

theorem RVR.monoF {F F' : Nat → Prop} {βi : Nat → Option Blk} {w' : World} {I' : Nat → Prop} (hF : ∀ b, F b → F' b) {rv : RV} {v : Value} (h : RVR P F βi rv w' I' v) : RVR P F' βi rv w' I' v := by
  have hc : ∀ (c : RC) (v : Value), RCR P F βi c w' I' v → RCR P F' βi c w' I' v := by
    intro c v h
    cases c with
    | d x => exact h
    | fresh sz rows =>
      rcases h with h | ⟨b, c, e, cap, o, h1, h2, h3⟩
      · exact .inl h
      · exact .inr ⟨b, c, e, cap, o, h1, hF b h2, h3⟩
    | whole j len => exact h
  cases rv with
  | one c => exact hc c v h
  | tup cs =>
    obtain ⟨vs, rfl, h⟩ := h
    refine ⟨vs, rfl, ?_⟩
    have : ∀ (cs : List RC) (vs : List Value), RCRl P F βi cs w' I' vs → RCRl P F' βi cs w' I' vs := by
      intro cs
      induction cs with
      | nil => intro vs h; cases vs with
        | nil => trivial
        | cons => exact h.elim
      | cons c cs ih => intro vs h; cases vs with
        | nil => exact h.elim
        | cons v vs => exact ⟨hc c v h.1, ih vs h.2⟩
    exact this cs vs.toList h

/-- A call that is handed no object changes nothing that was there. -/
theorem fnP_of_W {f : FuncId} {args : List AV} {rv : RV} (h : FnW P f args [] [] rv) : FnP P f args rv := by
  refine ⟨h.1, fun w I vs hlt hv => ?_⟩
  have hM : Mem P w (WasW nob I) nob I (osf []) w := by
    refine ⟨fun k o hk => by simp [osf] at hk, fun k k' o o' b s n s' n' hk => by simp [osf] at hk, fun k o b s n hk => by simp [osf] at hk, hlt, fun b hb => .inl hb, fun _ _ _ => rfl, Nat.le_refl _, rfl, rfl, rfl, fun j B hj => ?_⟩
    simp only [WasW, nob, ite_self] at hj
    cases hj
  refine (h.2 w nob I vs (fun _ _ => rfl) hM hv).mono ?_
  rintro e w' ⟨v, I', rfl, g1, g2, g3⟩
  have hno : ∀ b, ¬ (WasW nob I).own b := fun b ⟨j, s, n, hj⟩ => by cases hj
  refine ⟨v, I', rfl, ⟨g1.os, g1.tape, g1.output, g1.le, fun b hb => g1.keep b hb (hno b)⟩, g2, g1.lt, fun b hb => ?_, RVR.monoF (fun b hb => ?_) g3⟩
  · rcases g1.up b hb with h | h | h
    · exact .inl h
    · exact (hno b h).elim
    · exact .inr h
  · rcases hb.1 with h | h
    · exact (hno b h).elim
    · exact h
end
end Go.Gb
