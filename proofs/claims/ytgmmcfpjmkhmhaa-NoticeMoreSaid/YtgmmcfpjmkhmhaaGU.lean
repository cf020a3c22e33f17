/-
  A call that changes objects of its caller's: what its contract says; what it does in the abstract walk.
-/
import Derived.Test.YtgmmcfpjmkhmhaaGN
namespace Go.Gb
open Go.RowKit

abbrev RowsT := Nat × List (List Tree)
def aob (p : RowsT) : AObj := ⟨p.1, avRows p.2⟩
def osf (os : List RowsT) (k : Nat) : Option AObj := (os[k]?).map aob
def osf' (os : List (Option RowsT)) (k : Nat) : Option AObj := ((os[k]?).join).map aob
def ownB (β : Nat → Option Blk) (b : Nat) : Prop := ∃ j s n, β j = some (.at b s n)

/-- What a call finds that is handed objects. -/
def WasW (β : Nat → Option Blk) (I : Nat → Prop) : Was := ⟨ownB β, I, fun j => if j < 1000 then β j else none, fun j B h => by
  split at h
  · assumption
  · cases h⟩

/-- Memory that a call hands back: new, or that of an object that it was handed and has given up. -/
def newW (w : World) (β : Nat → Option Blk) (os' : List (Option RowsT)) (b : Nat) : Prop := (ownB β b ∨ w.heap.size ≤ b) ∧ ∀ k o s n, osf' os' k = some o → β k ≠ some (.at b s n)

def RetW (P : Program) (w : World) (β : Nat → Option Blk) (I : Nat → Prop) (os' : List (Option RowsT)) (rv : RV) (e : Ending) (w' : World) : Prop :=
  ∃ v I', e = .returned v ∧ Mem P w (WasW β I) β I' (osf' os') w' ∧ (∀ b, I b → I' b) ∧ RVR P (newW w β os') β rv w' I' v

/-- f, called with these values, whose own objects are 'os', leaves them as 'os'' and hands back rv; it changes nothing else that was there. -/
def FnW (P : Program) (f : FuncId) (args : List AV) (os : List RowsT) (os' : List (Option RowsT)) (rv : RV) : Prop :=
  Callable P f ∧ ∀ (w : World) (β : Nat → Option Blk) (I : Nat → Prop) (vs : Array Value), (∀ k, os.length ≤ k → β k = none) → Mem P w (WasW β I) β I (osf os) w → VRl P β w I args vs.toList → Calls P f vs w (RetW P w β I os' rv)

/-- Where the objects lie that are handed in. -/
def βc (ids : List Nat) (β : Nat → Option Blk) (j : Nat) : Option Blk := (ids[j]?).bind β

def lendW1 (P : Program) (get : Nat → Option AObj) (ids : List Nat) (x : AV) (hs : List LH) : Option (AV × List LH × List Prop) :=
  match x, hs with
  | .own k off len, .mut j :: hs => if ids[j]? = some k then some (.own j off len, hs, []) else none
  | .ptr k row off, .mut j :: hs => if ids[j]? = some k then some (.ptr j row off, hs, []) else none
  | x, hs => if (refs x).all (fun k => !ids.contains k) then lend P get x hs else none

def lendLW (P : Program) (get : Nat → Option AObj) (ids : List Nat) : List AV → List LH → Option (List AV × List LH × List Prop)
  | [], hs => some ([], hs, [])
  | x :: xs, hs => (lendW1 P get ids x hs).bind fun p => (lendLW P get ids xs p.2.1).bind fun q => some (p.1 :: q.1, q.2.1, p.2.2 ++ q.2.2)

def BorW1 (P : Program) (get : Nat → Option AObj) (ids : List Nat) (x y : AV) : Prop :=
  (∃ j k off len, ids[j]? = some k ∧ x = .own k off len ∧ y = .own j off len) ∨ (∃ j k row off, ids[j]? = some k ∧ x = .ptr k row off ∧ y = .ptr j row off) ∨ ((∀ k ∈ refs x, k ∉ ids) ∧ Bor P get x y)

def BorLW (P : Program) (get : Nat → Option AObj) (ids : List Nat) : List AV → List AV → Prop
  | [], [] => True
  | x :: xs, y :: ys => BorW1 P get ids x y ∧ BorLW P get ids xs ys
  | _, _ => False

/-- The objects that are handed in, told as data. -/
def mutObs (get : Nat → Option AObj) : List Nat → List RowsT → Option (List Prop)
  | [], [] => some []
  | k :: ids, p :: os => (get k).bind fun o => (mutObs get ids os).bind fun l => some ((o.sz = p.1 ∧ wkRows (o.rows.take p.2.length) = avRows p.2) :: l)
  | _, _ => none

def outU : List Nat → List (Option RowsT) → List (Nat × Option AObj)
  | k :: ids, p :: os => (k, p.map aob) :: outU ids os
  | _, _ => []

def lidsOf (xs : List AV) (ids : List Nat) : List Nat := (refsL xs).filter fun k => !ids.contains k

def flatO (os' : List (Option RowsT)) : Prop := ∀ p, some p ∈ os' → ∀ r ∈ p.2, ∀ x ∈ r, Tree.flat x

def absCallW (P : Program) (i : Nat) (f : AV) (args : List AV) (orc : Orc) (get : Nat → Option AObj) : Option Out :=
  match f, orc with
  | .fn F first caps, .callw ids os os' hs rv keep => if ids.Nodup ∧ os'.length = ids.length then (imp i ids rv).bind fun p => (mutObs get ids os).bind fun mo => (lendLW P get ids (first ++ args ++ caps) hs).bind fun q =>
      if keep then some ⟨p.1, p.2 ++ outU ids os', q.2.2 ++ mo ++ [FnW P F q.1 os os' rv, rv.flat, flatO os']⟩
      else some ⟨p.1, p.2 ++ (outU ids os' ++ (lidsOf (first ++ args ++ caps) ids).map fun k => (k, none)), q.2.2 ++ mo ++ [FnW P F q.1 os os' rv]⟩
    else none
  | _, _ => none

def absCallX (P : Program) (i : Nat) (f : AV) (args : List AV) (orc : Orc) (get : Nat → Option AObj) : Option Out :=
  match orc with
  | .callw .. => absCallW P i f args orc get
  | _ => absCall P i f args orc get

section
variable {P : Program} {T : Tab} {w0 : World} {O0 : Was} {β : Nat → Option Blk} {I : Nat → Prop} {obj : Nat → Option AObj} {w : World} {i : Nat}

theorem βc_some {ids : List Nat} {j : Nat} {B : Blk} (h : βc ids β j = some B) : ∃ k, ids[j]? = some k ∧ β k = some B := by
  simpa [βc, Option.bind_eq_some_iff] using h

theorem ORows.dat {β' : Nat → Option Blk} {I' : Nat → Prop} (hI : ∀ b, I b → I' b) (rows : List (List Tree)) (c : Array Value) (off sz : Nat) (h : ORows P β w I (avRows rows) c off sz) : ORows P β' w I' (avRows rows) c off sz := by
  rw [ORows_iff] at h ⊢
  intro i r hr
  obtain ⟨h1, h2⟩ := h i r hr
  refine ⟨h1, ?_⟩
  rw [ORow_iff] at h2 ⊢
  intro j x hx
  obtain ⟨v, g1, g2, g3⟩ := h2 j x hx
  refine ⟨v, g1, ?_, g3⟩
  simp only [avRows, List.getElem?_map, Option.map_eq_some_iff] at hr
  obtain ⟨r', hr', rfl⟩ := hr
  simp only [List.getElem?_map, Option.map_eq_some_iff] at hx
  obtain ⟨x', hx', rfl⟩ := hx
  simp only [VR] at g2 ⊢
  exact TR.mono (fun _ _ => rfl) hI _ _ g2

theorem OR.dat {β' : Nat → Option Blk} {I' : Nat → Prop} (hI : ∀ b, I b → I' b) {p : RowsT} {B : Blk} (h : OR P β w I (aob p) B) : OR P β' w I' (aob p) B := by
  cases B with
  | none => exact h
  | «at» b s n =>
    obtain ⟨h1, c, e, h2, h3, h4⟩ := h
    exact ⟨h1, c, e, h2, h3, ORows.dat hI _ _ _ _ h4⟩

theorem OR.flat {β' : Nat → Option Blk} {I' : Nat → Prop} {p : RowsT} {B : Blk} (hf : ∀ r ∈ p.2, ∀ x ∈ r, Tree.flat x) (h : OR P β w I (aob p) B) : OR P β' w I' (aob p) B := by
  cases B with
  | none => exact h
  | «at» b s n =>
    obtain ⟨h1, c, e, h2, h3, h4⟩ := h
    exact ⟨h1, c, e, h2, h3, ORows.flat _ _ _ _ hf h4⟩

theorem mutObs_spec {get : Nat → Option AObj} : ∀ {ids : List Nat} {os : List RowsT} {l : List Prop}, mutObs get ids os = some l → (∀ q ∈ l, q) → ids.length = os.length ∧ ∀ (j : Nat) k p, ids[j]? = some k → os[j]? = some p → ∃ o, get k = some o ∧ o.sz = p.1 ∧ wkRows (o.rows.take p.2.length) = avRows p.2
  | [], [], _, _, _ => ⟨rfl, fun j k p h => by simp at h⟩
  | k :: ids, p :: os, l, h, hq => by
    simp only [mutObs, Option.bind_eq_some_iff, Option.some.injEq] at h
    obtain ⟨o, h1, l', h2, rfl⟩ := h
    obtain ⟨h3, h4⟩ := mutObs_spec h2 (fun q hq' => hq q (by simp [hq']))
    refine ⟨by simp [h3], fun j k' p' hj hj' => ?_⟩
    cases j with
    | zero =>
      simp only [List.getElem?_cons_zero, Option.some.injEq] at hj hj'
      subst hj; subst hj'
      exact ⟨o, h1, hq _ (by simp)⟩
    | succ j => exact h4 j k' p' (by simpa using hj) (by simpa using hj')
  | [], _ :: _, _, h, _ => by simp [mutObs] at h
  | _ :: _, [], _, h, _ => by simp [mutObs] at h

theorem outU_none {ids : List Nat} : ∀ {os' : List (Option RowsT)} {g : List (Nat × Option AObj)} {k : Nat}, k ∉ ids → updo obj (outU ids os' ++ g) k = updo obj g k := by
  induction ids with
  | nil => intro os' g k _; rfl
  | cons j ids ih =>
    intro os' g k hk
    cases os' with
    | nil => rfl
    | cons p os' =>
      simp only [List.mem_cons, not_or] at hk
      simp only [outU, List.cons_append, updo, if_neg hk.1, ih hk.2]

theorem outU_some : ∀ {ids : List Nat} {os' : List (Option RowsT)} {g : List (Nat × Option AObj)} {j k : Nat}, ids.Nodup → os'.length = ids.length → ids[j]? = some k → updo obj (outU ids os' ++ g) k = osf' os' j
  | [], _, _, _, _, _, _, h => by simp at h
  | i :: ids, [], _, _, _, _, hl, _ => by simp at hl
  | i :: ids, p :: os', g, j, k, hn, hl, h => by
    simp only [List.nodup_cons] at hn
    cases j with
    | zero =>
      simp only [List.getElem?_cons_zero, Option.some.injEq] at h
      subst h
      simp [outU, updo, osf']
    | succ j =>
      simp only [List.getElem?_cons_succ] at h
      have hne : k ≠ i := fun e => hn.1 (e ▸ List.mem_of_getElem? h)
      simp only [outU, List.cons_append, updo, if_neg hne, outU_some hn.2 (by simpa using hl) h]
      simp [osf']

theorem nodup_get : ∀ {ids : List Nat}, ids.Nodup → ∀ {j j' k : Nat}, ids[j]? = some k → ids[j']? = some k → j = j'
  | [], _, _, _, _, h, _ => by simp at h
  | i :: ids, hn, j, j', k, h, h' => by
    simp only [List.nodup_cons] at hn
    cases j with
    | zero =>
      cases j' with
      | zero => rfl
      | succ j' =>
        simp only [List.getElem?_cons_zero, Option.some.injEq, List.getElem?_cons_succ] at h h'
        exact (hn.1 (h ▸ List.mem_of_getElem? h')).elim
    | succ j =>
      cases j' with
      | zero =>
        simp only [List.getElem?_cons_zero, Option.some.injEq, List.getElem?_cons_succ] at h h'
        exact (hn.1 (h' ▸ List.mem_of_getElem? h)).elim
      | succ j' => exact congrArg (· + 1) (nodup_get hn.2 (k := k) (by simpa using h) (by simpa using h'))

/-- The memory as the call finds it. -/
theorem Mem.handed (h : Mem P w0 O0 β I obj w) {ids lids : List Nat} {os : List RowsT} (hnd : ids.Nodup) (hlen : ids.length = os.length)
    (hm : ∀ (j : Nat) k p, ids[j]? = some k → os[j]? = some p → ∃ o, obj k = some o ∧ o.sz = p.1 ∧ wkRows (o.rows.take p.2.length) = avRows p.2) (hdis : ∀ k ∈ lids, k ∉ ids) :
    Mem P w (WasW (βc ids β) (Lent β obj lids I)) (βc ids β) (Lent β obj lids I) (osf os) w := by
  have look : ∀ j o', osf os j = some o' → ∃ k p o, ids[j]? = some k ∧ os[j]? = some p ∧ o' = aob p ∧ obj k = some o ∧ o.sz = p.1 ∧ wkRows (o.rows.take p.2.length) = avRows p.2 := by
    intro j o' hj
    simp only [osf, Option.map_eq_some_iff] at hj
    obtain ⟨p, hp, rfl⟩ := hj
    have hjl : j < ids.length := by rw [hlen]; exact (List.getElem?_eq_some_iff.1 hp).1
    obtain ⟨o, g⟩ := hm j _ p (List.getElem?_eq_getElem hjl) hp
    exact ⟨_, p, o, List.getElem?_eq_getElem hjl, hp, rfl, g⟩
  have hb0 : ∀ j k, ids[j]? = some k → βc ids β j = β k := fun j k hk => by simp [βc, hk]
  constructor
  · intro j o' hj
    obtain ⟨k, p, o, g1, g2, rfl, g3, g4, g5⟩ := look j o' hj
    obtain ⟨B, hB, hO⟩ := h.objs k o g3
    refine ⟨B, by rw [hb0 j k g1]; exact hB, ?_⟩
    have : OR P β w I (aob p) B := by
      cases B with
      | none =>
        simp only [OR] at hO ⊢
        rw [hO] at g5
        simpa [wkRows, aob] using g5.symm
      | «at» b s n =>
        obtain ⟨h1, c, e, h2, h3, h4⟩ := hO
        refine ⟨by rw [h1, g4]; rfl, c, e, h2, h3, ?_⟩
        have := ORows.wk _ _ _ _ (ORows.take p.2.length _ _ _ _ h4)
        rw [g5] at this; exact this
    exact this.dat fun b hb => .inl hb
  · intro j j' o o' b s n s' n' h1 h2 h3 h4
    obtain ⟨k, p, q, g1, _, _, g3, _⟩ := look j o h1
    obtain ⟨k', p', q', g1', _, _, g3', _⟩ := look j' o' h2
    rw [hb0 j k g1] at h3
    rw [hb0 j' k' g1'] at h4
    have := h.inj k k' q q' b s n s' n' g3 g3' h3 h4
    subst this
    exact nodup_get hnd g1 g1'
  · intro j o b s n h1 h2
    obtain ⟨k, p, q, g1, _, _, g3, _⟩ := look j o h1
    have h2' := h2
    rw [hb0 j k g1] at h2
    obtain ⟨a1, a2, _⟩ := h.own k q b s n g3 h2
    refine ⟨?_, a2, .inl ⟨j, s, n, h2'⟩⟩
    rintro (hI | ⟨k', o', s', n', e1, e2, e3⟩)
    · exact a1 hI
    · have := h.inj k k' q o' b s n s' n' g3 e2 h2 e3
      subst this
      exact hdis _ e1 (List.mem_of_getElem? g1)
  · exact lent_lt h _
  · exact fun b hb => .inl hb
  · exact fun _ _ _ => rfl
  · exact Nat.le_refl _
  · rfl
  · rfl
  · rfl
  · intro j B hj
    simp only [WasW] at hj
    split at hj
    · exact hj
    · cases hj

/-- The caller's memory behind such a call. -/
theorem Mem.afterW (h : Mem P w0 O0 β I obj w) {ids lids : List Nat} {os' : List (Option RowsT)} {w' : World} {I1 I2 : Nat → Prop} {obj2 : Nat → Option AObj}
    (hM : Mem P w (WasW (βc ids β) (Lent β obj lids I)) (βc ids β) I1 (osf' os') w') (hI : ∀ b, I b → I2 b) (hI1 : ∀ b, I2 b → I1 b) (hids : ∀ k ∈ ids, ∃ o, obj k = some o)
    (ho : ∀ k o, obj2 k = some o → (∃ j, ids[j]? = some k ∧ osf' os' j = some o ∧ ∀ B, OR P (βc ids β) w' I1 o B → OR P β w' I2 o B) ∨ (k ∉ ids ∧ obj k = some o ∧ ∀ b s n, β k = some (.at b s n) → ¬ I2 b)) :
    Same I w w' ∧ Mem P w0 O0 β I2 obj2 w' ∧ (∀ b, ownB (βc ids β) b → ¬ I b ∧ (O0.own b ∨ w0.heap.size ≤ b)) ∧ ∀ k o b s n, k ∉ ids → obj k = some o → β k = some (.at b s n) → ¬ ownB (βc ids β) b := by
  have hb0 : ∀ j k, ids[j]? = some k → βc ids β j = β k := fun j k hk => by simp [βc, hk]
  have hown : ∀ b, ownB (βc ids β) b → ∃ k o s n, k ∈ ids ∧ obj k = some o ∧ β k = some (.at b s n) := by
    rintro b ⟨j, s, n, hj⟩
    obtain ⟨k, h1, h2⟩ := βc_some hj
    obtain ⟨o, h3⟩ := hids k (List.mem_of_getElem? h1)
    exact ⟨k, o, s, n, List.mem_of_getElem? h1, h3, h2⟩
  have hold : ∀ k o, obj2 k = some o → ∃ q, obj k = some q := by
    intro k o hk
    rcases ho k o hk with ⟨j, h1, _⟩ | ⟨_, h2, _⟩
    · exact hids k (List.mem_of_getElem? h1)
    · exact ⟨o, h2⟩
  have hapart : ∀ k o b s n, k ∉ ids → obj k = some o → β k = some (.at b s n) → ¬ ownB (βc ids β) b := by
    intro k o b s n hk h1 h2 hb
    obtain ⟨k', o', s', n', g1, g2, g3⟩ := hown b hb
    have := h.inj k k' o o' b s n s' n' h1 g2 h2 g3
    subst this
    exact hk g1
  have hS : Same I w w' := fun b hb => hM.keep b (h.lt b hb) (fun hb' => by
    obtain ⟨k', o', s', n', g1, g2, g3⟩ := hown b hb'
    exact (h.own k' o' b s' n' g2 g3).1 hb)
  refine ⟨hS, ?_, fun b hb => ?_, hapart⟩
  · constructor
    · intro k o hk
      rcases ho k o hk with ⟨j, h1, h2, h3⟩ | ⟨h1, h2, h3⟩
      · obtain ⟨B, hB, hO⟩ := hM.objs j o h2
        exact ⟨B, by rw [← hb0 j k h1]; exact hB, h3 B hO⟩
      · obtain ⟨B, hB, hO⟩ := h.objs k o h2
        refine ⟨B, hB, OR.mono (fun _ _ h => h) hS hI (fun b s n e => ?_) hO⟩
        subst e
        exact hM.keep b (h.own k o b s n h2 hB).2.1 (hapart k o b s n h1 h2 hB)
    · intro k k' o o' b s n s' n' h1 h2
      obtain ⟨q, e1⟩ := hold k o h1
      obtain ⟨q', e2⟩ := hold k' o' h2
      exact h.inj k k' q q' b s n s' n' e1 e2
    · intro k o b s n h1 h2
      obtain ⟨q, e1⟩ := hold k o h1
      obtain ⟨a1, a2, a3⟩ := h.own k q b s n e1 h2
      refine ⟨?_, Nat.lt_of_lt_of_le a2 hM.le, a3⟩
      rcases ho k o h1 with ⟨j, g1, g2, _⟩ | ⟨_, _, g3⟩
      · exact fun hb => (hM.own j o b s n g2 (by rw [hb0 j k g1]; exact h2)).1 (hI1 b hb)
      · exact g3 b s n h2
    · exact fun b hb => hM.lt b (hI1 b hb)
    · intro b hb
      rcases hM.up b (hI1 b hb) with (g | ⟨k', o', s', n', _, g2, g3⟩) | g | g
      · exact h.up b g
      · exact .inr (h.own k' o' b s' n' g2 g3).2.2
      · obtain ⟨k', o', s', n', _, g2, g3⟩ := hown b g
        exact .inr (h.own k' o' b s' n' g2 g3).2.2
      · exact .inr (.inr (Nat.le_trans h.le g))
    · intro b hb hno
      refine (hM.keep b (Nat.lt_of_lt_of_le hb h.le) (fun hb' => ?_)).trans (h.keep b hb hno)
      obtain ⟨k', o', s', n', _, g2, g3⟩ := hown b hb'
      rcases (h.own k' o' b s' n' g2 g3).2.2 with g | g
      · exact hno g
      · omega
    · exact Nat.le_trans h.le hM.le
    · exact hM.os.trans h.os
    · exact hM.tape.trans h.tape
    · exact hM.output.trans h.output
    · exact h.anch
  · obtain ⟨k', o', s', n', _, g2, g3⟩ := hown b hb
    exact ⟨(h.own k' o' b s' n' g2 g3).1, (h.own k' o' b s' n' g2 g3).2.2⟩

theorem lendW1_sound {get : Nat → Option AObj} {ids : List Nat} {x : AV} {hs : List LH} {p : AV × List LH × List Prop} (h : lendW1 P get ids x hs = some p) (ho : ∀ q ∈ p.2.2, q) : BorW1 P get ids x p.1 := by
  unfold lendW1 at h
  split at h
  · split at h
    · injection h with h; subst h
      exact .inl ⟨_, _, _, _, ‹_›, rfl, rfl⟩
    · cases h
  · split at h
    · injection h with h; subst h
      exact .inr (.inl ⟨_, _, _, _, ‹_›, rfl, rfl⟩)
    · cases h
  · split at h
    · rename_i hd
      refine .inr (.inr ⟨fun k hk => by simpa using List.all_eq_true.1 hd k hk, lend_sound _ _ _ h ho⟩)
    · cases h

theorem lendLW_sound {get : Nat → Option AObj} {ids : List Nat} : ∀ {xs : List AV} {hs : List LH} {p : List AV × List LH × List Prop}, lendLW P get ids xs hs = some p → (∀ q ∈ p.2.2, q) → BorLW P get ids xs p.1
  | [], hs, p, h, _ => by simp only [lendLW, Option.some.injEq] at h; subst h; trivial
  | x :: xs, hs, p, h, ho => by
    simp only [lendLW, Option.bind_eq_some_iff, Option.some.injEq] at h
    obtain ⟨q, h1, q', h2, rfl⟩ := h
    exact ⟨lendW1_sound h1 (fun y hy => ho y (by simp [hy])), lendLW_sound h2 (fun y hy => ho y (by simp [hy]))⟩

theorem BorLW.sound (h : Mem P w0 O0 β I obj w) {get : Nat → Option AObj} (hg : ∀ k o, get k = some o → obj k = some o) {ids : List Nat} (lids : List Nat) : ∀ (xs ys : List AV) (vs : List Value), (∀ k, k ∈ refsL xs → k ∉ ids → k ∈ lids) → BorLW P get ids xs ys → VRl P β w I xs vs → VRl P (βc ids β) w (Lent β obj lids I) ys vs
  | [], [], [], _, _, _ => by simp [VRl]
  | x :: xs, y :: ys, v :: vs, hk, hb, hv => by
    simp only [VRl] at hv ⊢
    refine ⟨?_, BorLW.sound h hg lids xs ys vs (fun k hk' => hk k (by simp [refsL, hk'])) hb.2 hv.2⟩
    have hv1 := hv.1
    rcases hb.1 with ⟨j, k, off, len, e1, rfl, rfl⟩ | ⟨j, k, row, off, e1, rfl, rfl⟩ | ⟨e1, e2⟩
    · simp only [VR] at hv1 ⊢
      have : βc ids β j = β k := by simp [βc, e1]
      rw [this]; exact hv1
    · simp only [VR] at hv1 ⊢
      have : βc ids β j = β k := by simp [βc, e1]
      rw [this]; exact hv1
    · have := Bor.sound h lids x y v (fun k hk' => hk k (by simp [refsL, hk']) (e1 k hk')) (Bor.weaken hg x y e2) hv1
      exact VR.mono (fun k B h => by simp [nob] at h) (fun _ _ => rfl) (fun _ h => h) _ _ this
  | [], _ :: _, _, _, hb, _ => hb.elim
  | _ :: _, [], _, _, hb, _ => hb.elim
  | [], [], _ :: _, _, _, hv => by simp [VRl] at hv
  | _ :: _, _ :: _, [], _, _, hv => by simp [VRl] at hv

theorem osf'_mem {os' : List (Option RowsT)} {j : Nat} {o : AObj} (h : osf' os' j = some o) : ∃ p, some p ∈ os' ∧ o = aob p := by
  simp only [osf', Option.map_eq_some_iff, Option.join_eq_some_iff] at h
  obtain ⟨p, hp, rfl⟩ := h
  exact ⟨p, List.mem_of_getElem? hp, rfl⟩

/-- Behind such a call. -/
theorem after_callW (h : Mem P w0 O0 β I obj w) (hn : β (nid i) = none) {ids lids : List Nat} {os' : List (Option RowsT)} {rv : RV} {p : AV × List (Nat × Option AObj)} {keep : Bool} (hp : imp i ids rv = some p) (hk : keep = true → rv.flat ∧ flatO os')
    (hnd : ids.Nodup) (hlen : os'.length = ids.length) (hids : ∀ k ∈ ids, ∃ o, obj k = some o)
    {w' : World} {I1 : Nat → Prop} {v : Value} (hM : Mem P w (WasW (βc ids β) (Lent β obj lids I)) (βc ids β) I1 (osf' os') w') (h1 : ∀ b, Lent β obj lids I b → I1 b) (hr : RVR P (newW w (βc ids β) os') (βc ids β) rv w' I1 v) :
    ∃ β' I', Step β I w (nid i) β' I' w' ∧ Mem P w0 O0 β' I' (updo obj (p.2 ++ (outU ids os' ++ if keep then [] else lids.map (fun k => (k, none))))) w' ∧ VR P β' w' I' p.1 v := by
  have look : ∀ g k o, updo obj (outU ids os' ++ g) k = some o → (∃ j, ids[j]? = some k ∧ osf' os' j = some o) ∨ (k ∉ ids ∧ updo obj g k = some o) := by
    intro g k o hk
    by_cases hki : k ∈ ids
    · obtain ⟨j, hj⟩ := List.getElem?_of_mem hki
      rw [outU_some hnd hlen hj] at hk
      exact .inl ⟨j, hj, hk⟩
    · rw [outU_none hki] at hk
      exact .inr ⟨hki, hk⟩
  have main : ∀ (g : List (Nat × Option AObj)) (I2 : Nat → Prop), (∀ k o, updo obj g k = some o → obj k = some o) → (∀ b, I b → I2 b) → (∀ b, I2 b → I1 b) → (∀ j o B, osf' os' j = some o → OR P (βc ids β) w' I1 o B → OR P β w' I2 o B) →
      (∀ k o b s n, k ∉ ids → updo obj g k = some o → β k = some (.at b s n) → ¬ I2 b) → RVR P (newW w (βc ids β) os') (βc ids β) rv w' I2 v →
      ∃ β' I', Step β I w (nid i) β' I' w' ∧ Mem P w0 O0 β' I' (updo obj (p.2 ++ (outU ids os' ++ g))) w' ∧ VR P β' w' I' p.1 v := by
    intro g I2 hg hI hI1 hor hng hr2
    obtain ⟨hS, hM2, hown, hapart⟩ := h.afterW (obj2 := updo obj (outU ids os' ++ g)) hM hI hI1 hids (fun k o hk => by
      rcases look g k o hk with ⟨j, e1, e2⟩ | ⟨e1, e2⟩
      · exact .inl ⟨j, e1, e2, fun B => hor j o B e2⟩
      · exact .inr ⟨e1, hg k o e2, fun b s n e3 => hng k o b s n e1 e2 e3⟩)
    obtain ⟨β', k1, k2, k3⟩ := imp_sound (ids := ids) (F := newW w (βc ids β) os') (βc := βc ids β) hM2 hn (fun k o b s n e1 e2 hb => by
      rcases look g k o e1 with ⟨j, e3, e4⟩ | ⟨e3, e4⟩
      · exact hb.2 j o s n e4 (by simp [βc, e3, e2])
      · rcases hb.1 with hb | hb
        · exact hapart k o b s n e3 (hg k o e4) e2 hb
        · have := (h.own k o b s n (hg k o e4) e2).2.1; omega) (fun b hb => by
      rcases hb.1 with hb | hb
      · exact (hown b hb).2
      · exact .inr (Nat.le_trans h.le hb)) (fun j B hj => βc_some hj) hp hr2
    refine ⟨β', I2, ⟨k1.other, k1.ext, hS, hI⟩, ?_, k3⟩
    have e : updo obj (p.2 ++ (outU ids os' ++ g)) = updo (updo obj (outU ids os' ++ g)) p.2 := funext fun k => updo_append obj _ _ k
    rw [e]; exact k2
  cases keep with
  | true =>
    obtain ⟨hf1, hf2⟩ := hk rfl
    exact main [] I (fun _ _ h => h) (fun _ h => h) (fun b hb => h1 b (.inl hb)) (fun j o B hj hO => by
      obtain ⟨q, hq, rfl⟩ := osf'_mem hj
      exact OR.flat (hf2 q hq) hO) (fun k o b s n _ e1 e2 => (h.own k o b s n e1 e2).1) (RVR.flat hf1 (fun b hb => h1 b (.inl hb)) hr)
  | false =>
    have hsub : ∀ k o, updo obj (lids.map fun k => (k, none)) k = some o → obj k = some o ∧ k ∉ lids := by
      intro k o hk
      rw [updo_none] at hk
      split at hk
      · cases hk
      · exact ⟨hk, ‹_›⟩
    refine main _ I1 (fun k o hk => (hsub k o hk).1) (fun b hb => h1 b (.inl hb)) (fun _ h => h) (fun j o B hj hO => by
      obtain ⟨q, hq, rfl⟩ := osf'_mem hj
      exact OR.dat (fun _ h => h) hO) (fun k o b s n hki e1 e2 hb => ?_) hr
    obtain ⟨f1, f2⟩ := hsub k o e1
    obtain ⟨a1, a2, _⟩ := h.own k o b s n f1 e2
    rcases hM.up b hb with (g | ⟨k', o', s', n', g1, g2, g3⟩) | ⟨j, s', n', g⟩ | g
    · exact a1 g
    · have := h.inj k k' o o' b s n s' n' f1 g2 e2 g3
      subst this
      exact f2 g1
    · obtain ⟨k', g1, g2⟩ := βc_some g
      obtain ⟨o', g3⟩ := hids k' (List.mem_of_getElem? g1)
      have := h.inj k k' o o' b s n s' n' f1 g3 e2 g2
      subst this
      exact hki (List.mem_of_getElem? g1)
    · omega

theorem absCallW_sound (h : Mem P w0 O0 β I obj w) (hn : β (nid i) = none) {f : AV} {args : List AV} {orc : Orc} {get : Nat → Option AObj} {out : Out} (hg : ∀ k o, get k = some o → obj k = some o)
    {fv : Value} {vs : Array Value} {ops : Array Operand} {fo : Operand} {r : Operand → Value} (ha : absCallW P i f args orc get = some out) (hob : out.ob) (hf : VR P β w I f fv) (hv : VRl P β w I args vs.toList) (hfo : r fo = fv) (hops : vs = ops.map r)
    {dst : Option Tmp} {pos : String} {after : Array Edge} {guard : Option (Nat × Bool)} {ty : TypeId} {tys : Array TypeId} :
    CallDid P w0 O0 β I obj w i out ((execOp r ⟨dst, .call { callee := .value fo, args := ops, argTypes := tys }, ty, pos, after, guard⟩).run P w) := by
  unfold absCallW at ha
  split at ha
  · rename_i F first caps ids os os' hs rv keep
    split at ha
    · rename_i hc
      obtain ⟨hnd, hlen⟩ := hc
      cases hp : imp i ids rv with
      | none => simp [hp] at ha
      | some p =>
      cases hmo : mutObs get ids os with
      | none => simp [hp, hmo] at ha
      | some mo =>
      cases hq : lendLW P get ids (first ++ args ++ caps) hs with
      | none => simp only [hp, hmo, hq, Option.bind_some, Option.bind_none, reduceCtorEq] at ha
      | some q =>
      simp only [hp, hmo, hq, Option.bind_some] at ha
      simp only [VR] at hf
      obtain ⟨fs, cs, rfl, hf1, hf2⟩ := hf
      have hout : (∀ x ∈ q.2.2 ++ mo, x) ∧ FnW P F q.1 os os' rv ∧ (keep = true → rv.flat ∧ flatO os') ∧ out.v = p.1 ∧ out.upd = p.2 ++ (outU ids os' ++ if keep then [] else (lidsOf (first ++ args ++ caps) ids).map (fun k => (k, none))) := by
        cases keep with
        | true =>
          simp only [if_true, Option.some.injEq] at ha
          subst ha
          have hob := AllP_all _ hob
          exact ⟨fun x hx => hob x (by simp only [List.mem_append] at hx ⊢; exact .inl hx), hob (FnW P F q.1 os os' rv) (by simp), fun _ => ⟨hob rv.flat (by simp), hob (flatO os') (by simp)⟩, rfl, by simp⟩
        | false =>
          simp only [Bool.false_eq_true, if_false, Option.some.injEq] at ha
          subst ha
          have hob := AllP_all _ hob
          exact ⟨fun x hx => hob x (by simp only [List.mem_append] at hx ⊢; exact .inl hx), hob (FnW P F q.1 os os' rv) (by simp), fun h => (by cases h), rfl, by simp⟩
      obtain ⟨o1, o2, o3, o4, o5⟩ := hout
      obtain ⟨⟨fn, e1, e2, e3⟩, hcon⟩ := o2
      obtain ⟨hl2, hmm⟩ := mutObs_spec hmo (fun x hx => o1 x (by simp [hx]))
      have hmm' : ∀ (j : Nat) k p, ids[j]? = some k → os[j]? = some p → ∃ o, obj k = some o ∧ o.sz = p.1 ∧ wkRows (o.rows.take p.2.length) = avRows p.2 := fun j k p h1 h2 => by
        obtain ⟨o, g1, g2⟩ := hmm j k p h1 h2
        exact ⟨o, hg k o g1, g2⟩
      have hids : ∀ k ∈ ids, ∃ o, obj k = some o := by
        intro k hk
        obtain ⟨j, hj⟩ := List.getElem?_of_mem hk
        have hjl : j < os.length := by rw [← hl2]; exact (List.getElem?_eq_some_iff.1 hj).1
        obtain ⟨o, g, _⟩ := hmm' j k _ hj (List.getElem?_eq_getElem hjl)
        exact ⟨o, g⟩
      have hlid : ∀ k ∈ lidsOf (first ++ args ++ caps) ids, k ∉ ids := fun k hk => by
        simp only [lidsOf, List.mem_filter] at hk
        simpa using hk.2
      have hM := h.handed (lids := lidsOf (first ++ args ++ caps) ids) hnd hl2 hmm' hlid
      have hall : VRl P β w I (first ++ args ++ caps) (fs ++ vs ++ cs).toList := by
        simp only [Array.toList_append]
        exact VRl.append _ _ _ _ (VRl.append _ _ _ _ hf1 hv) hf2
      have hlent := BorLW.sound h hg (lidsOf (first ++ args ++ caps) ids) _ _ _ (fun k hk hn => by simp only [lidsOf, List.mem_filter]; exact ⟨hk, by simpa using hn⟩) (lendLW_sound hq (fun x hx => o1 x (by simp [hx]))) hall
      refine ⟨F, fs ++ vs ++ cs, ?_, (hcon w _ _ _ (fun k hk => ?_) hM hlent).mono ?_⟩
      · have hb : ¬ fn.body = none := by cases hh : fn.body <;> simp [hh] at e2 ⊢
        have e3' : ¬ fn.name = "runtime.NumGoroutine" := by simpa using e3
        simp [execOp, resolve, hfo, ← hops, Deferred.ofValue, invoke, callFunc, e1, e3', hb]
      · simp [βc, List.getElem?_eq_none (show ids.length ≤ k by omega)]
      · rintro e w' ⟨v', I1, rfl, g1, g2, g3⟩
        obtain ⟨β', I', k1, k2, k3⟩ := after_callW (keep := keep) h hn hp o3 hnd hlen hids g1 g2 g3
        exact ⟨v', β', I', rfl, k1, by rw [o5]; exact k2, by rw [o4]; exact k3⟩
    · cases ha
  · cases ha

theorem absCallX_sound (h : Mem P w0 O0 β I obj w) (hn : β (nid i) = none) {f : AV} {args : List AV} {orc : Orc} {get : Nat → Option AObj} {out : Out} (hg : ∀ k o, get k = some o → obj k = some o)
    {fv : Value} {vs : Array Value} {ops : Array Operand} {fo : Operand} {r : Operand → Value} (ha : absCallX P i f args orc get = some out) (hob : out.ob) (hf : VR P β w I f fv) (hv : VRl P β w I args vs.toList) (hfo : r fo = fv) (hops : vs = ops.map r)
    {dst : Option Tmp} {pos : String} {after : Array Edge} {guard : Option (Nat × Bool)} {ty : TypeId} {tys : Array TypeId} :
    CallDid P w0 O0 β I obj w i out ((execOp r ⟨dst, .call { callee := .value fo, args := ops, argTypes := tys }, ty, pos, after, guard⟩).run P w) := by
  unfold absCallX at ha
  split at ha
  · exact absCallW_sound h hn hg ha hob hf hv hfo hops
  · exact absCall_sound h hn hg ha hob hf hv hfo hops
end
end Go.Gb
