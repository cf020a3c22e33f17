/-
  A call in the abstract walk is what the model's call does.
-/
import Derived.Test.YtgmmcfpjmkhmhaaGM
namespace Go.Gb
open Go.RowKit

section
variable {P : Program} {T : Tab} {w0 : World} {O0 : Was} {β : Nat → Option Blk} {I : Nat → Prop} {obj : Nat → Option AObj} {w : World} {i : Nat}

theorem RVR.flat {F : Nat → Prop} {βc : Nat → Option Blk} {w' : World} {I' I'' : Nat → Prop} {rv : RV} {v : Value} (hf : rv.flat) (hI : ∀ b, I'' b → I' b) (h : RVR P F βc rv w' I' v) : RVR P F βc rv w' I'' v := by
  have hc : ∀ (c : RC) (v : Value), c.flat → RCR P F βc c w' I' v → RCR P F βc c w' I'' v := by
    intro c v hf h
    cases c with
    | d x => exact TV.flat_TVR hf h
    | fresh sz rows =>
      rcases h with h | ⟨b, c, e, cap, o, h1, h2, h3, h4, h5, h6, h7, h8⟩
      · exact .inl h
      · exact .inr ⟨b, c, e, cap, o, h1, h2, fun hb => h3 (hI b hb), h4, h5, h6, ORows.flat rows c 0 sz hf h7, h8⟩
    | whole j len => have h : VR P βc w' I' (.own j 0 len) v := h; show VR P βc w' I'' (.own j 0 len) v; simp only [VR] at h ⊢; exact h
  cases rv with
  | one c => exact hc c v hf h
  | tup cs =>
    obtain ⟨vs, rfl, h⟩ := h
    refine ⟨vs, rfl, ?_⟩
    have : ∀ (cs : List RC) (vs : List Value), (∀ c ∈ cs, c.flat) → RCRl P F βc cs w' I' vs → RCRl P F βc cs w' I'' vs := by
      intro cs
      induction cs with
      | nil => intro vs _ h; cases vs with
        | nil => trivial
        | cons => exact h.elim
      | cons c cs ih => intro vs hf h; cases vs with
        | nil => exact h.elim
        | cons v vs => exact ⟨hc c v (hf c (by simp)) h.1, ih vs (fun y hy => hf y (by simp [hy])) h.2⟩
    exact this cs vs.toList hf h

/-- Behind a call that changes nothing that was there: its result comes in, the objects that were lent stay or go. -/
theorem after_call (h : Mem P w0 O0 β I obj w) (hn : β (nid i) = none) {ids : List Nat} {rv : RV} {p : AV × List (Nat × Option AObj)} {keep : Bool} (hp : imp i [] rv = some p) (hk : keep = true → rv.flat)
    {w' : World} {I1 : Nat → Prop} {v : Value} (hb : Below w.heap.size w w') (h1 : ∀ b, Lent β obj ids I b → I1 b) (h2 : ∀ b, I1 b → b < w'.heap.size) (h3 : ∀ b, I1 b → Lent β obj ids I b ∨ w.heap.size ≤ b) (hr : RVR P (newB w) nob rv w' I1 v) :
    ∃ β' I', Step β I w (nid i) β' I' w' ∧ Mem P w0 O0 β' I' (updo obj (p.2 ++ if keep then [] else ids.map (fun k => (k, none)))) w' ∧ VR P β' w' I' p.1 v := by
  have hlt : ∀ (obj' : Nat → Option AObj), (∀ k o, obj' k = some o → obj k = some o) → ∀ k o b s n, obj' k = some o → β k = some (.at b s n) → ¬ newB w b := fun obj' hs k o b s n e1 e2 hb => Nat.lt_irrefl _ (Nat.lt_of_lt_of_le (h.own k o b s n (hs k o e1) e2).2.1 hb)
  have hnew : ∀ b, newB w b → O0.own b ∨ w0.heap.size ≤ b := fun b hb => .inr (Nat.le_trans h.le hb)
  have hup : ∀ b, I1 b → O0.imm b ∨ O0.own b ∨ w0.heap.size ≤ b := fun b hb' => by
    rcases h3 b hb' with (h5 | ⟨k', o', s', n', g1, g2, g3⟩) | h5
    · exact h.up b h5
    · exact .inr (h.own k' o' b s' n' g2 g3).2.2
    · exact .inr (.inr (Nat.le_trans h.le h5))
  cases keep with
  | true =>
    obtain ⟨hS, hM⟩ := h.below (I' := fun b => I1 b ∧ (I b ∨ w.heap.size ≤ b)) hb (fun b hb' => ⟨h1 b (.inl hb'), .inl hb'⟩) (fun b hb' => h2 b hb'.1) (fun b k o s n hb' e1 e2 => by
      obtain ⟨a1, a2, _⟩ := h.own k o b s n e1 e2
      rcases hb'.2 with h5 | h5
      · exact a1 h5
      · omega) (fun b hb' => hup b hb'.1)
    obtain ⟨β', k1, k2, k3⟩ := imp_sound hM hn (hlt obj (fun _ _ h => h)) hnew (fun _ _ h => by cases h) hp (RVR.flat (hk rfl) (fun b hb => hb.1) hr)
    refine ⟨β', _, ⟨k1.other, k1.ext, hS, fun b hb' => ⟨h1 b (.inl hb'), .inl hb'⟩⟩, ?_, k3⟩
    simpa using k2
  | false =>
    have hsub : ∀ k o, updo obj (ids.map fun k => (k, none)) k = some o → obj k = some o ∧ k ∉ ids := by
      intro k o hk
      rw [updo_none] at hk
      split at hk
      · cases hk
      · exact ⟨hk, ‹_›⟩
    have hd := h.drop (updo obj (ids.map fun k => (k, none))) (fun k o hk => (hsub k o hk).1)
    obtain ⟨hS, hM⟩ := hd.below (I' := I1) hb (fun b hb' => h1 b (.inl hb')) h2 (fun b k o s n hb' e1 e2 => by
      obtain ⟨f1, f2⟩ := hsub k o e1
      obtain ⟨a1, a2, _⟩ := h.own k o b s n f1 e2
      rcases h3 b hb' with (h5 | ⟨k', o', s', n', g1, g2, g3⟩) | h5
      · exact a1 h5
      · have := h.inj k k' o o' b s n s' n' f1 g2 e2 g3
        subst this
        exact f2 g1
      · omega) hup
    obtain ⟨β', k1, k2, k3⟩ := imp_sound hM hn (hlt _ (fun k o hk => (hsub k o hk).1)) hnew (fun _ _ h => by cases h) hp hr
    refine ⟨β', I1, ⟨k1.other, k1.ext, hS, fun b hb' => h1 b (.inl hb')⟩, ?_, k3⟩
    simp only [Bool.false_eq_true, if_false]
    have e : updo obj (p.2 ++ ids.map fun k => (k, none)) = updo (updo obj (ids.map fun k => (k, none))) p.2 := funext fun k => updo_append obj _ _ k
    rw [e]
    exact k2

theorem lent_lt (h : Mem P w0 O0 β I obj w) (ids : List Nat) : ∀ b, Lent β obj ids I b → b < w.heap.size := by
  intro b hb
  rcases hb with hb | ⟨k, o, s, n, _, h2, h3⟩
  · exact h.lt b hb
  · exact (h.own k o b s n h2 h3).2.1

theorem absCall_sound (h : Mem P w0 O0 β I obj w) (hn : β (nid i) = none) {f : AV} {args : List AV} {orc : Orc} {get : Nat → Option AObj} {out : Out} (hg : ∀ k o, get k = some o → obj k = some o)
    {fv : Value} {vs : Array Value} {ops : Array Operand} {fo : Operand} {r : Operand → Value} (ha : absCall P i f args orc get = some out) (hob : out.ob) (hf : VR P β w I f fv) (hv : VRl P β w I args vs.toList) (hfo : r fo = fv) (hops : vs = ops.map r)
    {dst : Option Tmp} {pos : String} {after : Array Edge} {guard : Option (Nat × Bool)} {ty : TypeId} {tys : Array TypeId} :
    CallDid P w0 O0 β I obj w i out ((execOp r ⟨dst, .call { callee := .value fo, args := ops, argTypes := tys }, ty, pos, after, guard⟩).run P w) := by
  have enter : ∀ (F : FuncId) (first caps : Array Value) (args' : Array Value), (∃ fn, P.funcs[F]? = some fn ∧ fn.body.isSome = true ∧ (fn.name == "runtime.NumGoroutine") = false) → fv = .func (.func F) first caps → args' = first ++ vs ++ caps →
      (execOp r ⟨dst, .call { callee := .value fo, args := ops, argTypes := tys }, ty, pos, after, guard⟩).run P w = .ok (.enter F args') w := by
    rintro F first caps args' ⟨fn, e1, e2, e3⟩ e4 rfl
    have hb : ¬ fn.body = none := by cases hh : fn.body <;> simp [hh] at e2 ⊢
    have e3' : ¬ fn.name = "runtime.NumGoroutine" := by simpa using e3
    simp [execOp, resolve, hfo, e4, ← hops, Deferred.ofValue, invoke, callFunc, e1, e3', hb]
  unfold absCall at ha
  split at ha
  · rename_i F first caps hs rv keep
    cases hp : imp i [] rv with
    | none => simp [hp] at ha
    | some p =>
      cases hq : lendL P get (first ++ args ++ caps) hs with
      | none => simp only [hp, hq, Option.bind_some, Option.bind_none, reduceCtorEq] at ha
      | some q =>
      simp only [hp, hq, Option.bind_some] at ha
      simp only [VR] at hf
      obtain ⟨fs, cs, rfl, hf1, hf2⟩ := hf
      have fin : ∀ (keep : Bool), BorL P get (first ++ args ++ caps) q.1 → FnP P F q.1 rv → (keep = true → rv.flat) →
          out = ⟨p.1, p.2 ++ (if keep then [] else (refsL (first ++ args ++ caps)).map (fun k => (k, none))), out.obs⟩ → CallDid P w0 O0 β I obj w i out ((execOp r ⟨dst, .call { callee := .value fo, args := ops, argTypes := tys }, ty, pos, after, guard⟩).run P w) := by
        intro keep hb hF hk hout
        obtain ⟨hcal, hcon⟩ := hF
        have hall : VRl P β w I (first ++ args ++ caps) (fs ++ vs ++ cs).toList := by
          simp only [Array.toList_append]
          exact VRl.append _ _ _ _ (VRl.append _ _ _ _ hf1 hv) hf2
        have hlent := BorL.sound h (refsL (first ++ args ++ caps)) _ _ _ (fun k hk => hk) (BorL.weaken hg _ _ hb) hall
        refine ⟨F, fs ++ vs ++ cs, enter F fs cs _ hcal rfl rfl, (hcon w _ _ (lent_lt h _) hlent).mono ?_⟩
        rintro e w' ⟨v', I1, rfl, hbel, g1, g2, g3, g4⟩
        obtain ⟨β', I', k1, k2, k3⟩ := after_call (keep := keep) h hn hp hk hbel g1 g2 g3 g4
        rw [hout]
        exact ⟨v', β', I', rfl, k1, k2, k3⟩
      cases keep with
      | true =>
        simp only [if_true, Option.some.injEq] at ha
        subst ha
        have hob := AllP_all _ hob
        exact fin true (lendL_sound _ _ _ hq fun x hx => hob x (by simp [hx])) (hob (FnP P F q.1 rv) (by simp)) (fun _ => hob rv.flat (by simp)) (by simp)
      | false =>
        simp only [Bool.false_eq_true, if_false, Option.some.injEq] at ha
        subst ha
        have hob := AllP_all _ hob
        exact fin false (lendL_sound _ _ _ hq fun x hx => hob x (by simp [hx])) (hob (FnP P F q.1 rv) (by simp)) (fun h => by cases h) (by simp)
  · rename_i φ hs targs rr keep
    cases hq : lendL P get args hs with
    | none => simp [hq] at ha
    | some q =>
    simp only [hq, Option.bind_some] at ha
    simp only [VR] at hf
    obtain ⟨F, fs, cs, rfl, hF1, hF2, hF3⟩ := hf
    obtain ⟨fn, hfn⟩ := Option.isSome_iff_exists.1 hF2
    have fin : ∀ (keep : Bool), BorL P get args (targs.map TV.av) → φ targs rr → (keep = true → rr.flat) →
        out = ⟨rr.av, [] ++ (if keep then [] else (refsL args).map (fun k => (k, none))), out.obs⟩ → CallDid P w0 O0 β I obj w i out ((execOp r ⟨dst, .call { callee := .value fo, args := ops, argTypes := tys }, ty, pos, after, guard⟩).run P w) := by
      intro keep hb hφ hk hout
      have hlent := BorL.sound h (refsL args) _ _ _ (fun k hk => hk) (BorL.weaken hg _ _ hb) hv
      have htv : ∀ (xs : List TV) (us : List Value), VRl P nob w (Lent β obj (refsL args) I) (xs.map TV.av) us → TVRs w (Lent β obj (refsL args) I) xs us := by
        intro xs
        induction xs with
        | nil => intro us h; cases us with
          | nil => trivial
          | cons => simp [VRl] at h
        | cons x xs ih => intro us h; cases us with
          | nil => simp [VRl] at h
          | cons u us =>
            simp only [List.map_cons, VRl] at h
            refine ⟨?_, ih us h.2⟩
            cases x with
            | s x => simpa [TV.av, VR, TVR] using h.1
            | a cs =>
              simp only [TV.av, VR] at h
              obtain ⟨⟨vs', rfl, h1⟩, _⟩ := h
              refine ⟨vs', rfl, ?_⟩
              have : ∀ (cs : List Tree) (us : List Value), VRl P nob w (Lent β obj (refsL args) I) (cs.map AV.t) us → TRl w (Lent β obj (refsL args) I) cs us := by
                intro cs
                induction cs with
                | nil => intro us h; cases us with
                  | nil => trivial
                  | cons => simp [VRl] at h
                | cons c cs ih => intro us h; cases us with
                  | nil => simp [VRl] at h
                  | cons u us => simp only [List.map_cons, VRl, VR] at h; exact ⟨h.1, ih us h.2⟩
              exact this cs _ h1
      refine ⟨F, fs ++ vs ++ cs, enter F fs cs _ ⟨fn, hfn, (hF1 fn hfn).1, (hF1 fn hfn).2⟩ rfl rfl, (hF3 w _ targs vs rr (fun b hb => Or.inl hb) (fun _ _ => rfl) (lent_lt h _) hφ (htv _ _ hlent)).mono ?_⟩
      rintro e w' ⟨v', I1, rfl, hbel, g1, g2, g3, g4⟩
      obtain ⟨β', I', k1, k2, k3⟩ := after_call (i := i) (rv := .one (.d rr)) (p := (rr.av, [])) (keep := keep) h hn rfl hk hbel g1 g2 g3 g4
      rw [hout]
      exact ⟨v', β', I', rfl, k1, k2, k3⟩
    cases keep with
    | true =>
      simp only [if_true, Option.some.injEq] at ha
      subst ha
      have hob := AllP_all _ hob
      have e : q.1 = targs.map TV.av := hob _ (by simp)
      exact fin true (e ▸ lendL_sound _ _ _ hq fun x hx => hob x (by simp [hx])) (hob (φ targs rr) (by simp)) (fun _ => hob rr.flat (by simp)) (by simp)
    | false =>
      simp only [Bool.false_eq_true, if_false, Option.some.injEq] at ha
      subst ha
      have hob := AllP_all _ hob
      have e : q.1 = targs.map TV.av := hob _ (by simp)
      exact fin false (e ▸ lendL_sound _ _ _ hq fun x hx => hob x (by simp [hx])) (hob (φ targs rr) (by simp)) (fun h => by cases h) (by simp)
  · cases ha
end
end Go.Gb
