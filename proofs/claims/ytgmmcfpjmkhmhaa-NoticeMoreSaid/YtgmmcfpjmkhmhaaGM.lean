/-
  A call in the abstract walk: of a function whose contract is known, or of a function value of which one knows how it answers.
-/
import Derived.Test.YtgmmcfpjmkhmhaaGL
namespace Go.Gb
open Go.RowKit

def Tree.flat : Tree → Prop
  | .sc _ => True
  | .sl _ => False
def TV.flat : TV → Prop
  | .s x => x.flat
  | .a cs => ∀ x ∈ cs, x.flat
def RC.flat : RC → Prop
  | .d x => x.flat
  | .fresh _ rows => ∀ r ∈ rows, ∀ x ∈ r, x.flat
  | .whole _ _ => True
def RV.flat : RV → Prop
  | .one c => c.flat
  | .tup cs => ∀ c ∈ cs, c.flat

/-- A result comes in: new memory becomes the caller's own. -/
def impC (i : Nat) (ids : List Nat) : RC → AV × List (Nat × Option AObj)
  | .whole j len => (match ids[j]? with | some k => .own k 0 len | none => .undef, [])
  | .d x => (x.av, [])
  | .fresh sz rows => (.own (nid i) 0 (avRows rows).length, [(nid i, some ⟨sz, avRows rows⟩)])
def impL (i : Nat) (ids : List Nat) : List RC → Option (List AV × List (Nat × Option AObj))
  | [] => some ([], [])
  | c :: cs => (impL i ids cs).bind fun p => if (impC i ids c).2.isEmpty || p.2.isEmpty then some ((impC i ids c).1 :: p.1, (impC i ids c).2 ++ p.2) else none
def imp (i : Nat) (ids : List Nat) : RV → Option (AV × List (Nat × Option AObj))
  | .one c => some (impC i ids c)
  | .tup cs => (impL i ids cs).bind fun p => some (.tup p.1, p.2)

mutual
/-- x as it is lent. -/
def lend (P : Program) (get : Nat → Option AObj) : AV → List LH → Option (AV × List LH × List Prop)
  | .t x, hs => some (.t x, hs, [])
  | .agg cs, hs => (lendL P get cs hs).bind fun p => some (.agg p.1, p.2.1, p.2.2)
  | .tup _, _ => none
  | .own k off len, hs => match hs with
    | .rows tr :: hs => (get k).bind fun o => some (.t (.sl tr), hs, [(o.rows.drop off).take len = avRows tr ∧ tr.length = len])
    | _ => none
  | .ptr k row off, hs => match hs with
    | .row tr :: hs => (get k).bind fun o => some (.rptr tr off, hs, [o.rows[row]? = some (tr.map AV.t)])
    | _ => none
  | .rptr r o, hs => some (.rptr r o, hs, [])
  | .fn f first caps, hs => match hs with
    | .fn :: hs => (lendL P get first hs).bind fun p => (lendL P get caps p.2.1).bind fun q => some (.fn f p.1 q.1, q.2.1, p.2.2 ++ q.2.2)
    | .clo φ :: hs => (lendL P get first hs).bind fun p => (lendL P get caps p.2.1).bind fun q =>
        some (.clo φ, q.2.1, p.2.2 ++ (q.2.2 ++ [Callable P f ∧ ∀ args r, φ args r → FnP P f (p.1 ++ args.map TV.av ++ q.1) (.one (.d r))]))
    | _ => none
  | .clo φ, hs => some (.clo φ, hs, [])
  | .nilsl, hs => match hs with
    | .nil :: hs => some (.nilsl, hs, [])
    | .emp :: hs => some (.t (.sl []), hs, [])
    | _ => none
  | .ub, _ => none
  | .undef, _ => none
def lendL (P : Program) (get : Nat → Option AObj) : List AV → List LH → Option (List AV × List LH × List Prop)
  | [], hs => some ([], hs, [])
  | x :: xs, hs => (lend P get x hs).bind fun p => (lendL P get xs p.2.1).bind fun q => some (p.1 :: q.1, q.2.1, p.2.2 ++ q.2.2)
end

def absCall (P : Program) (i : Nat) (f : AV) (args : List AV) (orc : Orc) (get : Nat → Option AObj) : Option Out :=
  match f, orc with
  | .fn F first caps, .call hs rv keep => (imp i [] rv).bind fun p => (lendL P get (first ++ args ++ caps) hs).bind fun q =>
      if keep then some ⟨p.1, p.2, q.2.2 ++ [FnP P F q.1 rv, rv.flat]⟩
      else some ⟨p.1, p.2 ++ (refsL (first ++ args ++ caps)).map (fun k => (k, none)), q.2.2 ++ [FnP P F q.1 rv]⟩
  | .clo φ, .cclo hs targs r keep => (lendL P get args hs).bind fun q =>
      if keep then some ⟨r.av, [], q.2.2 ++ [q.1 = targs.map TV.av, φ targs r, r.flat]⟩
      else some ⟨r.av, (refsL args).map (fun k => (k, none)), q.2.2 ++ [q.1 = targs.map TV.av, φ targs r]⟩
  | _, _ => none

/-- What a call has done. -/
def CallDid (P : Program) (w0 : World) (O0 : Was) (β : Nat → Option Blk) (I : Nat → Prop) (obj : Nat → Option AObj) (w : World) (i : Nat) (out : Out) (r : Result Next) : Prop :=
  ∃ F args, r = .ok (.enter F args) w ∧ Calls P F args w fun e w' => ∃ v' β' I', e = .returned v' ∧ Step β I w (nid i) β' I' w' ∧ Mem P w0 O0 β' I' (updo obj out.upd) w' ∧ VR P β' w' I' out.v v'

section
variable {P : Program} {T : Tab} {w0 : World} {O0 : Was} {β : Nat → Option Blk} {I : Nat → Prop} {obj : Nat → Option AObj} {w : World} {i : Nat}

mutual
theorem BorL.weaken {get get' : Nat → Option AObj} (h : ∀ k o, get k = some o → get' k = some o) : ∀ (xs ys : List AV), BorL P get xs ys → BorL P get' xs ys
  | [], [], _ => by simp [BorL]
  | x :: xs, y :: ys, hb => by simp only [BorL] at hb ⊢; exact ⟨Bor.weaken h x y hb.1, BorL.weaken h xs ys hb.2⟩
  | [], _ :: _, hb => by simp [BorL] at hb
  | _ :: _, [], hb => by simp [BorL] at hb
theorem Bor.weaken {get get' : Nat → Option AObj} (h : ∀ k o, get k = some o → get' k = some o) : ∀ (x y : AV), Bor P get x y → Bor P get' x y
  | .t _, _, hb => by simpa [Bor] using hb
  | .agg cs, y, hb => by
    simp only [Bor] at hb ⊢
    obtain ⟨cs', h1, h2⟩ := hb
    exact ⟨cs', h1, BorL.weaken h cs cs' h2⟩
  | .tup _, _, hb => by simp [Bor] at hb
  | .own k off len, y, hb => by
    simp only [Bor] at hb ⊢
    obtain ⟨o, tr, h1, h2⟩ := hb
    exact ⟨o, tr, h k o h1, h2⟩
  | .ptr k row off, y, hb => by
    simp only [Bor] at hb ⊢
    obtain ⟨o, tr, h1, h2⟩ := hb
    exact ⟨o, tr, h k o h1, h2⟩
  | .rptr _ _, _, hb => by simpa [Bor] using hb
  | .fn f first caps, y, hb => by
    simp only [Bor] at hb ⊢
    obtain ⟨a, b, h1, h2, h3⟩ := hb
    exact ⟨a, b, BorL.weaken h first a h1, BorL.weaken h caps b h2, h3⟩
  | .clo _, _, hb => by simpa [Bor] using hb
  | .nilsl, _, hb => by simpa [Bor] using hb
  | .ub, _, hb => by simp [Bor] at hb
  | .undef, _, hb => by simp [Bor] at hb
end

mutual
theorem lend_sound {get : Nat → Option AObj} : ∀ (x : AV) (hs : List LH) (p : AV × List LH × List Prop), lend P get x hs = some p → (∀ q ∈ p.2.2, q) → Bor P get x p.1
  | .t x, hs, p, h, _ => by simp only [lend, Option.some.injEq] at h; subst h; simp [Bor]
  | .agg cs, hs, p, h, ho => by
    simp only [lend, Option.bind_eq_some_iff, Option.some.injEq] at h
    obtain ⟨q, h1, rfl⟩ := h
    simp only [Bor]
    exact ⟨_, rfl, lendL_sound cs hs q h1 ho⟩
  | .tup _, _, _, h, _ => by simp [lend] at h
  | .own k off len, hs, p, h, ho => by
    simp only [lend] at h
    split at h
    · simp only [Option.bind_eq_some_iff, Option.some.injEq] at h
      obtain ⟨o, h1, rfl⟩ := h
      have h2 := ho _ (List.mem_singleton.2 rfl)
      simp only [Bor]
      exact ⟨o, _, h1, rfl, h2.1, h2.2⟩
    · cases h
  | .ptr k row off, hs, p, h, ho => by
    simp only [lend] at h
    split at h
    · simp only [Option.bind_eq_some_iff, Option.some.injEq] at h
      obtain ⟨o, h1, rfl⟩ := h
      have h2 := ho _ (List.mem_singleton.2 rfl)
      simp only [Bor]
      exact ⟨o, _, h1, rfl, h2⟩
    · cases h
  | .rptr r o, hs, p, h, _ => by simp only [lend, Option.some.injEq] at h; subst h; simp [Bor]
  | .fn f first caps, hs, p, h, ho => by
    simp only [lend] at h
    split at h
    · simp only [Option.bind_eq_some_iff, Option.some.injEq] at h
      obtain ⟨q, h1, q', h2, rfl⟩ := h
      simp only [Bor]
      exact ⟨q.1, q'.1, lendL_sound first _ q h1 (fun x hx => ho x (by simp [hx])), lendL_sound caps _ q' h2 (fun x hx => ho x (by simp [hx])), .inl rfl⟩
    · simp only [Option.bind_eq_some_iff, Option.some.injEq] at h
      obtain ⟨q, h1, q', h2, rfl⟩ := h
      have h3 := ho _ (by simp only [List.mem_append, List.mem_singleton]; exact .inr (.inr rfl))
      simp only [Bor]
      exact ⟨q.1, q'.1, lendL_sound first _ q h1 (fun x hx => ho x (by simp [hx])), lendL_sound caps _ q' h2 (fun x hx => ho x (by simp [hx])), .inr ⟨_, rfl, h3.1, h3.2⟩⟩
    · cases h
  | .clo φ, hs, p, h, _ => by simp only [lend, Option.some.injEq] at h; subst h; simp [Bor]
  | .nilsl, hs, p, h, _ => by
    simp only [lend] at h
    split at h
    · injection h with h; subst h; simp [Bor]
    · injection h with h; subst h; simp [Bor]
    · cases h
  | .ub, _, _, h, _ => by simp [lend] at h
  | .undef, _, _, h, _ => by simp [lend] at h
theorem lendL_sound {get : Nat → Option AObj} : ∀ (xs : List AV) (hs : List LH) (p : List AV × List LH × List Prop), lendL P get xs hs = some p → (∀ q ∈ p.2.2, q) → BorL P get xs p.1
  | [], hs, p, h, _ => by simp only [lendL, Option.some.injEq] at h; subst h; simp [BorL]
  | x :: xs, hs, p, h, ho => by
    simp only [lendL, Option.bind_eq_some_iff, Option.some.injEq] at h
    obtain ⟨q, h1, q', h2, rfl⟩ := h
    simp only [BorL]
    exact ⟨lend_sound x hs q h1 (fun y hy => ho y (by simp [hy])), lendL_sound xs _ q' h2 (fun y hy => ho y (by simp [hy]))⟩
end

theorem AllP_all : ∀ (l : List Prop), AllP l → ∀ p ∈ l, p
  | [], _, _, hp => by simp at hp
  | [q], h, p, hp => by rw [List.mem_singleton] at hp; rw [hp]; exact h
  | q :: r :: l, h, p, hp => by
    rcases List.mem_cons.1 hp with e | hp
    · rw [e]; exact h.1
    · exact AllP_all (r :: l) h.2 p hp

theorem Tree.flat_TR {w' : World} {I' : Nat → Prop} : ∀ {x : Tree} {v : Value}, x.flat → TR w I x v → TR w' I' x v
  | .sc _, _, _, h => by simpa [TR] using h
  | .sl _, _, hf, _ => hf.elim

theorem TV.flat_TVR {w' : World} {I' : Nat → Prop} : ∀ {x : TV} {v : Value}, x.flat → TVR w I x v → TVR w' I' x v
  | .s _, _, hf, h => Tree.flat_TR hf h
  | .a cs, v, hf, ⟨vs, h1, h2⟩ => by
    refine ⟨vs, h1, ?_⟩
    have : ∀ (cs : List Tree) (vs : List Value), (∀ x ∈ cs, x.flat) → TRl w I cs vs → TRl w' I' cs vs := by
      intro cs
      induction cs with
      | nil => intro vs _ h; cases vs with
        | nil => trivial
        | cons => exact h.elim
      | cons x xs ih => intro vs hf h; cases vs with
        | nil => exact h.elim
        | cons v vs => exact ⟨Tree.flat_TR (hf x (by simp)) h.1, ih vs (fun y hy => hf y (by simp [hy])) h.2⟩
    exact this cs vs.toList hf h2

theorem ORows.flat {β' : Nat → Option Blk} {w' : World} {I' : Nat → Prop} (rows : List (List Tree)) (c : Array Value) (off sz : Nat) (hf : ∀ r ∈ rows, ∀ x ∈ r, Tree.flat x) (h : ORows P β w I (avRows rows) c off sz) : ORows P β' w' I' (avRows rows) c off sz := by
  rw [ORows_iff] at h ⊢
  intro i r hr
  obtain ⟨h1, h2⟩ := h i r hr
  refine ⟨h1, ?_⟩
  rw [ORow_iff] at h2 ⊢
  intro j x hx
  obtain ⟨v, g1, g2, g3⟩ := h2 j x hx
  refine ⟨v, g1, ?_, g3⟩
  simp only [avRows, List.getElem?_map, Option.map_eq_some_iff] at hr
  obtain ⟨r', hr', rfl⟩ := hr
  simp only [List.getElem?_map, Option.map_eq_some_iff] at hx
  obtain ⟨x', hx', rfl⟩ := hx
  simp only [VR] at g2 ⊢
  exact Tree.flat_TR (hf r' (List.mem_of_getElem? hr') x' (List.mem_of_getElem? hx')) g2

theorem TV.av_VR {x : TV} {v : Value} (h : TVR w I x v) : VR P β w I x.av v := by
  cases x with
  | s x => simp only [TV.av, VR]; exact h
  | a cs =>
    obtain ⟨vs, rfl, h⟩ := h
    simp only [TV.av, VR]
    refine ⟨vs, rfl, ?_⟩
    have : ∀ (cs : List Tree) (us : List Value), TRl w I cs us → VRl P β w I (cs.map AV.t) us := by
      intro cs
      induction cs with
      | nil => intro us h; cases us with
        | nil => simp [VRl]
        | cons => simp [TRl] at h
      | cons x xs ih => intro us h; cases us with
        | nil => simp [TRl] at h
        | cons y ys => simp only [TRl] at h; simp only [List.map_cons, VRl, VR]; exact ⟨h.1, ih _ h.2⟩
    exact this cs vs.toList h

/-- New memory that a call has handed back becomes an object. -/
theorem Mem.fresh {i : Nat} {obj : Nat → Option AObj} {F : Nat → Prop} {sz : Nat} {rows : List (List Tree)} {v : Value} (h : Mem P w0 O0 β I obj w) (hn : β i = none) (hlt : ∀ k o b s n, obj k = some o → β k = some (.at b s n) → ¬ F b) (hle : ∀ b, F b → O0.own b ∨ w0.heap.size ≤ b) (hf : FreshR P F sz rows w I v) :
    ∃ β', Step β I w i β' I w ∧ Mem P w0 O0 β' I (updo obj [(i, some ⟨sz, avRows rows⟩)]) w ∧ VR P β' w I (.own i 0 rows.length) v := by
  rcases hf with ⟨rfl, rfl⟩ | ⟨b, c, e, cap, o, rfl, h1, h2, h3, h4, h5, h6, h7⟩
  · obtain ⟨hS, hM⟩ := Mem.addNil (i := i) (o := ⟨sz, avRows []⟩) h hn rfl
    exact ⟨_, hS, hM, by simp only [VR]; exact .inl ⟨by simp [ins], trivial, trivial, rfl⟩⟩
  · have hS : Step β I w i (ins β i (.at b sz c.size)) I w := ⟨fun j hj => by simp [ins, hj], ins_ext hn, fun _ _ => rfl, fun _ h => h⟩
    refine ⟨_, hS, ?_, by simp only [VR]; exact .inr ⟨b, sz, c.size, cap, o, by simp [ins], rfl, h4, by simpa using h5, fun hc => by simpa using h7 hc⟩⟩
    have hbl : b < w.heap.size := (Array.getElem?_eq_some_iff.1 h3).1
    constructor
    · intro k o' hk
      simp only [updo] at hk
      split at hk
      · injection hk with hk; subst hk
        rename_i hki
        exact ⟨.at b sz c.size, by simp [ins, hki], rfl, c, e, h3, rfl, ORows.mono (fun k B h => by simp [nob] at h) (fun _ _ => rfl) (fun _ h => h) _ _ _ _ h6⟩
      · obtain ⟨B, hB, hO⟩ := h.objs k o' hk
        exact ⟨B, ins_ext hn _ _ hB, OR.mono hS.ext hS.same hS.inc (fun _ _ _ _ => rfl) hO⟩
    · intro k k' o1 o2 b1 s n s' n' e1 e2 e3 e4
      simp only [updo] at e1 e2
      simp only [ins] at e3 e4
      split at e3 <;> split at e4
      · rename_i p q; rw [p, q]
      · rename_i p q
        simp only [Option.some.injEq, Blk.at.injEq] at e3
        rw [if_neg q] at e2
        exact (hlt k' o2 b1 s' n' e2 e4 (e3.1 ▸ h1)).elim
      · rename_i p q
        simp only [Option.some.injEq, Blk.at.injEq] at e4
        rw [if_neg p] at e1
        exact (hlt k o1 b1 s n e1 e3 (e4.1 ▸ h1)).elim
      · rename_i p q
        rw [if_neg p] at e1; rw [if_neg q] at e2
        exact h.inj k k' o1 o2 b1 s n s' n' e1 e2 e3 e4
    · intro k o' b1 s n e1 e2
      simp only [updo] at e1
      simp only [ins] at e2
      split at e2
      · simp only [Option.some.injEq, Blk.at.injEq] at e2
        obtain ⟨rfl, _, _⟩ := e2
        exact ⟨h2, hbl, hle _ h1⟩
      · rename_i p; rw [if_neg p] at e1; exact h.own k o' b1 s n e1 e2
    · exact h.lt
    · exact h.up
    · exact h.keep
    · exact h.le
    · exact h.os
    · exact h.tape
    · exact h.output
    · intro j C hj; exact ins_ext hn _ _ (h.anch j C hj)

theorem impC_sound {i : Nat} {ids : List Nat} {F : Nat → Prop} {βc : Nat → Option Blk} {c : RC} {v : Value} (h : Mem P w0 O0 β I obj w) (hn : β (nid i) = none) (hlt : ∀ k o b s n, obj k = some o → β k = some (.at b s n) → ¬ F b) (hle : ∀ b, F b → O0.own b ∨ w0.heap.size ≤ b) (hbc : ∀ j B, βc j = some B → ∃ k, ids[j]? = some k ∧ β k = some B) (hc : RCR P F βc c w I v) :
    ∃ β', Step β I w (nid i) β' I w ∧ Mem P w0 O0 β' I (updo obj (impC i ids c).2) w ∧ VR P β' w I (impC i ids c).1 v ∧ ((impC i ids c).2 = [] → β' = β) := by
  cases c with
  | d x => exact ⟨β, Step.refl .., h, TV.av_VR hc, fun _ => rfl⟩
  | fresh sz rows =>
    obtain ⟨β', h1, h2, h3⟩ := Mem.fresh (i := nid i) h hn hlt hle hc
    exact ⟨β', h1, h2, by simpa [impC, avRows] using h3, fun h => by simp [impC] at h⟩
  | whole j len =>
    refine ⟨β, Step.refl .., h, ?_, fun _ => rfl⟩
    have hc : VR P βc w I (.own j 0 len) v := hc
    simp only [VR] at hc
    have key : ∀ B, βc j = some B → ∃ k, ids[j]? = some k ∧ β k = some B := hbc j
    simp only [impC]
    rcases hc with ⟨g1, g2⟩ | ⟨b, sz, n, cap, o, g1, g2⟩
    · obtain ⟨k, e1, e2⟩ := key _ g1
      simp only [e1, VR]
      exact .inl ⟨e2, g2⟩
    · obtain ⟨k, e1, e2⟩ := key _ g1
      simp only [e1, VR]
      exact .inr ⟨b, sz, n, cap, o, e2, g2⟩

theorem impL_sound {i : Nat} {ids : List Nat} {F : Nat → Prop} {βc : Nat → Option Blk} : ∀ (cs : List RC) (vs : List Value) (p : List AV × List (Nat × Option AObj)), Mem P w0 O0 β I obj w → β (nid i) = none → (∀ k o b s n, obj k = some o → β k = some (.at b s n) → ¬ F b) → (∀ b, F b → O0.own b ∨ w0.heap.size ≤ b) → (∀ j B, βc j = some B → ∃ k, ids[j]? = some k ∧ β k = some B) →
    impL i ids cs = some p → RCRl P F βc cs w I vs → ∃ β', Step β I w (nid i) β' I w ∧ Mem P w0 O0 β' I (updo obj p.2) w ∧ VRl P β' w I p.1 vs ∧ (p.2 = [] → β' = β)
  | [], [], p, h, _, _, _, _, hp, _ => by simp only [impL, Option.some.injEq] at hp; subst hp; exact ⟨β, Step.refl .., h, by simp [VRl], fun _ => rfl⟩
  | c :: cs, v :: vs, p, h, hn, hlt, hle, hbc, hp, hr => by
    simp only [RCRl] at hr
    simp only [impL] at hp
    cases hq : impL i ids cs with
    | none => simp [hq] at hp
    | some q =>
      simp only [hq, Option.bind_some] at hp
      split at hp
      · rename_i hem
        simp only [Option.some.injEq] at hp
        subst hp
        obtain ⟨β1, g1, g2, g3, g4⟩ := impC_sound (i := i) h hn hlt hle hbc hr.1
        obtain ⟨β2, k1, k2, k3, k4⟩ := impL_sound cs vs q h hn hlt hle hbc hq hr.2
        have hem' : (impC i ids c).2 = [] ∨ q.2 = [] := by simpa using hem
        rcases hem' with hem | hem
        · have := g4 hem
          subst this
          refine ⟨β2, k1, by simpa [hem] using k2, ?_, fun h0 => k4 (by simpa [hem] using h0)⟩
          simp only [VRl]
          exact ⟨VR.mono k1.ext k1.same k1.inc _ _ g3, k3⟩
        · have := k4 hem
          subst this
          refine ⟨β1, g1, by simpa [hem] using g2, ?_, fun h0 => g4 (by simpa [hem] using h0)⟩
          simp only [VRl]
          exact ⟨g3, VRl.mono g1.ext g1.same g1.inc _ _ k3⟩
      · cases hp
  | [], _ :: _, _, _, _, _, _, _, _, hr => by simp [RCRl] at hr
  | _ :: _, [], _, _, _, _, _, _, _, hr => by simp [RCRl] at hr

theorem imp_sound {i : Nat} {ids : List Nat} {F : Nat → Prop} {βc : Nat → Option Blk} {rv : RV} {v : Value} {p : AV × List (Nat × Option AObj)} (h : Mem P w0 O0 β I obj w) (hn : β (nid i) = none) (hlt : ∀ k o b s n, obj k = some o → β k = some (.at b s n) → ¬ F b) (hle : ∀ b, F b → O0.own b ∨ w0.heap.size ≤ b) (hbc : ∀ j B, βc j = some B → ∃ k, ids[j]? = some k ∧ β k = some B)
    (hp : imp i ids rv = some p) (hr : RVR P F βc rv w I v) : ∃ β', Step β I w (nid i) β' I w ∧ Mem P w0 O0 β' I (updo obj p.2) w ∧ VR P β' w I p.1 v := by
  cases rv with
  | one c =>
    simp only [imp, Option.some.injEq] at hp
    subst hp
    obtain ⟨β', h1, h2, h3, _⟩ := impC_sound (i := i) h hn hlt hle hbc hr
    exact ⟨β', h1, h2, h3⟩
  | tup cs =>
    simp only [imp] at hp
    cases hq : impL i ids cs with
    | none => simp [hq] at hp
    | some q =>
      simp only [hq, Option.bind_some, Option.some.injEq] at hp
      subst hp
      obtain ⟨vs, rfl, hvs⟩ := hr
      obtain ⟨β', h1, h2, h3, _⟩ := impL_sound (i := i) cs vs.toList q h hn hlt hle hbc hq hvs
      exact ⟨β', h1, h2, by simp only [VR]; exact ⟨vs, rfl, h3⟩⟩

theorem updo_append (obj : Nat → Option AObj) : ∀ (a b : List (Nat × Option AObj)) (k : Nat), updo obj (a ++ b) k = updo (updo obj b) a k
  | [], _, _ => rfl
  | (j, o) :: a, b, k => by simp only [List.cons_append, updo, updo_append obj a b k]

theorem updo_none (obj : Nat → Option AObj) : ∀ (ids : List Nat) (k : Nat), updo obj (ids.map fun k => (k, none)) k = if k ∈ ids then none else obj k
  | [], k => by simp [updo]
  | j :: ids, k => by
    simp only [List.map_cons, updo, updo_none obj ids k, List.mem_cons]
    by_cases h : k = j <;> simp [h]
end
end Go.Gb
