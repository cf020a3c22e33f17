/-
  Contracts with typed functions; calls of the typed walk.
-/
import Derived.Test.YtgmmcfpjmkhmhaaXE
namespace Go.Gb
open Go.RowKit

/-- What a function is given: data, the address of data that nobody writes, a function; a slice of its caller's own, the address of a variable of its caller's own, which it may change. -/
inductive AT (ι : Type) where
  | d (c : CT ι)
  | ref (c : CT ι)
  | clo (as : List (CT ι)) (r : CT ι)
  | mut (c : CT ι)
  | mref (c : CT ι)
  | nil
  deriving DecidableEq

def AT.im {ι : Type} : AT ι → Bool
  | .mut _ | .mref _ => true
  | _ => false

/-- Lent as it is, with nothing to be held in the caller. -/
def AT.pl {ι : Type} : AT ι → Bool
  | .mut _ | .mref _ | .nil => false
  | _ => true

/-- What it hands back: data, a slice in memory that nobody else holds, the whole of the j-th object that it was handed; and, behind these, what the objects hold that it was handed, in their order: a slice, a variable; one that it has given up. -/
inductive RT (ι : Type) where
  | d (c : CT ι)
  | fresh (e : CT ι)
  | whole (j : Nat)
  | mu (c : CT ι)
  | mr (c : CT ι)
  | mv

def RT.out {ι : Type} : RT ι → Bool
  | .mu _ | .mr _ | .mv => true
  | _ => false

section
variable (X : SX)
@[reducible] def AT.T : AT X.ι → Type
  | .d c => CT.T X.toSE c
  | .ref c => CT.T X.toSE c
  | .clo as r => HL X.toSE as → Option (CT.T X.toSE r)
  | .mut c => List (CT.T X.toSE c)
  | .mref c => CT.T X.toSE c
  | .nil => Unit
@[reducible] def RT.T : RT X.ι → Type
  | .d c => CT.T X.toSE c
  | .fresh e => List (CT.T X.toSE e)
  | .whole _ => Unit
  | .mu c => List (CT.T X.toSE c)
  | .mr c => CT.T X.toSE c
  | .mv => Unit
@[reducible] def ArgsT : List (AT X.ι) → Type
  | [] => Unit
  | a :: l => AT.T X a × ArgsT l
@[reducible] def ResT : List (RT X.ι) → Type
  | [] => Unit
  | [r] => RT.T X r
  | r :: r' :: l => RT.T X r × ResT (r' :: l)

structure Sig where
  args : List (AT X.ι)
  res : List (RT X.ι)
  fn : ArgsT X args → Option (ResT X res)

variable {X}
def argAVn : Nat → (l : List (AT X.ι)) → ArgsT X l → List AV
  | _, [], _ => []
  | n, .d c :: l, a => (CT.tv X.toSE c a.1).av :: argAVn n l a.2
  | n, .ref c :: l, a => .rptr (CT.row X.toSE c a.1) 0 :: argAVn n l a.2
  | n, .clo as r :: l, a => den (.clo as r a.1 : DV X) :: argAVn n l a.2
  | n, .mut _ :: l, a => .own n 0 (List.length a.1) :: argAVn (n + 1) l a.2
  | n, .mref _ :: l, a => .ptr n 0 0 :: argAVn (n + 1) l a.2
  | n, .nil :: l, a => .nilsl :: argAVn n l a.2
abbrev argAV (l : List (AT X.ι)) (a : ArgsT X l) : List AV := argAVn 0 l a

def mutR (c : CT X.ι) (l : List (CT.T X.toSE c)) : RowsT := (CT.sz X c, l.map (CT.row X.toSE c))

/-- The objects that it is handed. -/
def objA : (l : List (AT X.ι)) → ArgsT X l → List RowsT
  | [], _ => []
  | .mut c :: l, a => mutR c a.1 :: objA l a.2
  | .mref c :: l, a => mutR c [a.1] :: objA l a.2
  | .d _ :: l, a => objA l a.2
  | .ref _ :: l, a => objA l a.2
  | .clo _ _ :: l, a => objA l a.2
  | .nil :: l, a => objA l a.2

def outC : (r : RT X.ι) → RT.T X r → List (Option RowsT)
  | .mu c, x => [some (mutR c x)]
  | .mr c, x => [some (mutR c [x])]
  | .mv, _ => [none]
  | _, _ => []

/-- What they hold behind the call. -/
def objR : (l : List (RT X.ι)) → ResT X l → List (Option RowsT)
  | [], _ => []
  | [r], x => outC r x
  | r :: r' :: l, x => outC r x.1 ++ objR (r' :: l) x.2

def outN : (r : RT X.ι) → RT.T X r → List Nat
  | .mu _, x => [List.length x]
  | .mr _, _ => [1]
  | .mv, _ => [0]
  | _, _ => []

/-- How long they are. -/
def lenR : (l : List (RT X.ι)) → ResT X l → List Nat
  | [], _ => []
  | [r], x => outN r x
  | r :: r' :: l, x => outN r x.1 ++ lenR (r' :: l) x.2

def resRC (ns : List Nat) : (r : RT X.ι) → RT.T X r → List RC
  | .d c, x => [.d (CT.tv X.toSE c x)]
  | .fresh e, l => [.fresh (CT.sz X e) (l.map (CT.row X.toSE e))]
  | .whole j, _ => [.whole j (ns.getD j 0)]
  | _, _ => []

def resRCs (ns : List Nat) : (l : List (RT X.ι)) → ResT X l → List RC
  | [], _ => []
  | [r], x => resRC ns r x
  | r :: r' :: l, x => resRC ns r x.1 ++ resRCs ns (r' :: l) x.2

def resRV (l : List (RT X.ι)) (x : ResT X l) : RV :=
  match resRCs (lenR l x) l x with
  | [c] => .one c
  | cs => .tup cs

def GOk (P : Program) (Γ : FuncId → Option (Sig X)) : Prop :=
  ∀ f s, Γ f = some s → Callable P f ∧ ∀ a r, s.fn a = some r → FnW P f (argAV s.args a) (objA s.args a) (objR s.res r) (resRV s.res r)

theorem pl_im : ∀ {l : List (AT X.ι)}, (l.all fun q => q.pl) = true → (l.all fun q => !q.im) = true := fun {l} h => by
  rw [List.all_eq_true] at h ⊢
  intro q hq
  have := h q hq
  cases q <;> simp_all [AT.pl, AT.im]

theorem objA_nil : ∀ {l : List (AT X.ι)} {a : ArgsT X l}, (l.all fun q => !q.im) = true → objA l a = []
  | [], _, _ => rfl
  | .d _ :: l, a, h => objA_nil (l := l) (by simpa [AT.im] using h)
  | .ref _ :: l, a, h => objA_nil (l := l) (by simpa [AT.im] using h)
  | .clo _ _ :: l, a, h => objA_nil (l := l) (by simpa [AT.im] using h)
  | .mut _ :: l, a, h => by simp [AT.im] at h
  | .mref _ :: l, a, h => by simp [AT.im] at h
  | .nil :: l, a, h => objA_nil (l := l) (by simpa [AT.im] using h)

theorem outC_nil {r : RT X.ι} {x : RT.T X r} (h : (!r.out) = true) : outC r x = [] := by
  cases r <;> first | rfl | simp [RT.out] at h

theorem objR_nil : ∀ {l : List (RT X.ι)} {x : ResT X l}, (l.all fun q => !q.out) = true → objR l x = []
  | [], _, _ => rfl
  | [r], x, h => outC_nil (by simpa using h)
  | r :: r' :: l, x, h => by
    simp only [List.all_cons, Bool.and_eq_true] at h
    simp only [objR, outC_nil h.1, List.nil_append]
    exact objR_nil (l := r' :: l) (by simp only [List.all_cons, Bool.and_eq_true]; exact h.2)

mutual
/-- The objects that a value leads to. -/
def drefs : DV X → List Nat
  | .own k _ _ => [k]
  | .ptr k _ _ => [k]
  | .ptl k _ _ => [k]
  | .pta k _ _ _ _ => [k]
  | .agg cs => drefsL cs
  | .tup cs => drefsL cs
  | .fn _ first caps => drefsL first ++ drefsL caps
  | _ => []
def drefsL : List (DV X) → List Nat
  | [] => []
  | x :: xs => drefs x ++ drefsL xs
end

theorem refs_tv (c : CT X.ι) (x : CT.T X.toSE c) : refs (CT.tv X.toSE c x).av = [] := by
  cases c <;> try rfl
  rename_i i
  show refsL ((X.row i x).map AV.t) = []
  generalize X.row i x = l
  induction l with
  | nil => rfl
  | cons y ys ih => simp only [List.map_cons, refsL, refs, ih, List.nil_append]

mutual
theorem drefs_den : ∀ x : DV X, refs (den x) = drefs x
  | .c t x => refs_tv t x
  | .agg cs => by simp only [den, refs, drefs, drefsL_den cs]
  | .tup cs => by simp only [den, refs, drefs, drefsL_den cs]
  | .own _ _ _ => rfl
  | .ptr _ _ _ => rfl
  | .ptl _ _ _ => rfl
  | .pta _ _ _ _ _ => rfl
  | .rp _ _ _ => rfl
  | .fn f first caps => by simp only [den, refs, drefs, drefsL_den first, drefsL_den caps]
  | .clo _ _ _ => rfl
  | .raw v => by
    simp only [den, drefs, cv]
    split
    · rfl
    · split <;> rfl
  | .nil => rfl
  | .ub => rfl
  | .skip => rfl
  | .undef => rfl
theorem drefsL_den : ∀ l : List (DV X), refsL (denL l) = drefsL l
  | [] => rfl
  | x :: xs => by simp only [denL, refsL, drefsL, drefs_den x, drefsL_den xs]
end

/-- A cell as it is lent. -/
def lend1 (get : Nat → Option (DObj X)) (d : DV X) (c : CT X.ι) : Option (CT.T X.toSE c × List Bool) :=
  match d, c with
  | .own kk off len, .sl e => (get kk).bind fun o => match o with
    | .lst b l => (castC (.sl b) (.sl e) l).bind fun (l : List (CT.T X.toSE e)) => some (sub l off len, [eqL (sub l off len).length len])
    | _ => none
  | .own kk off len, .any => (get kk).bind fun o => match o with
    | .lst b l => some (.sl (List.map (CT.row X.toSE b) (sub l off len)), [eqL (sub l off len).length len])
    | _ => none
  | d, c => (dat1 d c).bind fun x => some (x, [])

def lendHL (get : Nat → Option (DObj X)) : List (DV X) → (l : List (CT X.ι)) → Option (HL X.toSE l × List Bool)
  | [], [] => some ((), [])
  | d :: ds, c :: l => (lend1 get d c).bind fun x => (lendHL get ds l).bind fun h => some ((x.1, h.1), x.2 ++ h.2)
  | _, _ => none

def lendS (get : Nat → Option (DObj X)) (d : DV X) (i : X.ι) : Option (CT.T X.toSE (.st i) × List Bool) :=
  match d with
  | .agg cs => (lendHL get cs (X.tys i)).bind fun h => some (X.make i h.1, h.2)
  | .c a x => (castC a (.st i) x).bind fun x => some (x, [])
  | _ => none

def lendD (get : Nat → Option (DObj X)) (d : DV X) (c : CT X.ι) : Option (CT.T X.toSE c × List Bool) :=
  match c with
  | .st i => lendS get d i
  | c => lend1 get d c

def lendR (get : Nat → Option (DObj X)) (d : DV X) (c : CT X.ι) : Option (CT.T X.toSE c) :=
  match d with
  | .ptr kk row 0 => (get kk).bind fun o => match o with
    | .cells _ rows => (rows[row]?).bind fun q => if q.all (fun x => match x with | .c _ _ => true | _ => false) then mkRow c q else none
    | _ => none
  | .rp a x 0 => castC a c x
  | _ => none

/-- Data as values. -/
def HL.dvs : (l : List (CT X.ι)) → HL X.toSE l → List (DV X)
  | [], _ => []
  | c :: l, h => .c c h.1 :: HL.dvs l h.2

theorem HL.dvs_den : ∀ (l : List (CT X.ι)) (h : HL X.toSE l), denL (HL.dvs l h) = (HL.tvs X.toSE l h).map TV.av
  | [], _ => rfl
  | c :: l, h => by simp only [HL.dvs, denL, den, HL.tvs, List.map_cons, HL.dvs_den l h.2]

def apA : (l l' : List (AT X.ι)) → ArgsT X l → ArgsT X l' → ArgsT X (l ++ l')
  | [], _, _, b => b
  | _ :: l, l', a, b => (a.1, apA l l' a.2 b)

def hlA : (as : List (CT X.ι)) → HL X.toSE as → ArgsT X (as.map AT.d)
  | [], _ => ()
  | _ :: l, h => (h.1, hlA l h.2)

def muts : List (AT X.ι) → Nat
  | [] => 0
  | q :: l => (if q.im then 1 else 0) + muts l

theorem argAV_append : ∀ (n : Nat) (l l' : List (AT X.ι)) (a : ArgsT X l) (b : ArgsT X l'), argAVn n (l ++ l') (apA l l' a b) = argAVn n l a ++ argAVn (n + muts l) l' b
  | n, [], _, _, _ => rfl
  | n, .d c :: l, l', a, b => by simp [argAVn, apA, argAV_append n l l' a.2 b, muts, AT.im]
  | n, .ref c :: l, l', a, b => by simp [argAVn, apA, argAV_append n l l' a.2 b, muts, AT.im]
  | n, .clo as r :: l, l', a, b => by simp [argAVn, apA, argAV_append n l l' a.2 b, muts, AT.im]
  | n, .mut c :: l, l', a, b => by simp [argAVn, apA, argAV_append (n + 1) l l' a.2 b, muts, AT.im, Nat.add_assoc]
  | n, .mref c :: l, l', a, b => by simp [argAVn, apA, argAV_append (n + 1) l l' a.2 b, muts, AT.im, Nat.add_assoc]
  | n, .nil :: l, l', a, b => by simp [argAVn, apA, argAV_append n l l' a.2 b, muts, AT.im]

theorem argAV_hlA : ∀ (n : Nat) (as : List (CT X.ι)) (h : HL X.toSE as), argAVn n (as.map AT.d) (hlA as h) = (HL.tvs X.toSE as h).map TV.av
  | _, [], _ => rfl
  | n, c :: l, h => congrArg ((CT.tv X.toSE c h.1).av :: ·) (argAV_hlA n l h.2)

def castO {a b : CT X.ι} (h : a = b) (o : Option (CT.T X.toSE a)) : Option (CT.T X.toSE b) := h ▸ o

/-- The arguments of a call, one by one; what must hold. -/
def lendLg (get : Nat → Option (DObj X)) (clof : FuncId → List (DV X) → List (DV X) → (as : List (CT X.ι)) → (r : CT X.ι) → Option ((HL X.toSE as → Option (CT.T X.toSE r)) × List Bool)) : List (DV X) → (l : List (AT X.ι)) → Option (ArgsT X l × List Bool)
  | [], [] => some ((), [])
  | d :: ds, .d c :: l => (lendD get d c).bind fun x => (lendLg get clof ds l).bind fun h => some ((x.1, h.1), x.2 ++ h.2)
  | d :: ds, .ref c :: l => (lendR get d c).bind fun x => (lendLg get clof ds l).bind fun h => some ((x, h.1), h.2)
  | d :: ds, .clo as r :: l => (match d with
    | .clo as' r' φ => if h : as' = as ∧ r' = r then some (fun x => castO h.2 (φ (h.1 ▸ x)), []) else none
    | .fn f first caps => clof f first caps as r
    | _ => none).bind fun φ => (lendLg get clof ds l).bind fun q => some ((φ.1, q.1), φ.2 ++ q.2)
  | _, _ => none

/-- Values of functions may have functions in what they have captured, up to this depth. -/
def lendA (Γ : FuncId → Option (Sig X)) (get : Nat → Option (DObj X)) : Nat → List (DV X) → (l : List (AT X.ι)) → Option (ArgsT X l × List Bool)
  | 0, ds, l => lendLg get (fun _ _ _ _ _ => none) ds l
  | n + 1, ds, l => lendLg get (fun f first caps as r => (Γ f).bind fun s => match s with
      | ⟨sa, [.d r'], fn⟩ =>
        if h : r' = r ∧ sa = sa.take first.length ++ (as.map AT.d ++ sa.drop (first.length + as.length)) then
          (lendA Γ get n first (sa.take first.length)).bind fun hf => (lendA Γ get n caps (sa.drop (first.length + as.length))).bind fun hc =>
            some (fun x => castO h.1 (fn (h.2 ▸ apA _ _ hf.1 (apA _ _ (hlA as x) hc.1))), hf.2 ++ hc.2)
        else none
      | _ => none) ds l

section
variable {P : Program} {Γ : FuncId → Option (Sig X)} {get : Nat → Option (DObj X)} {rd : List Nat}

theorem all_app {a b : List Prop} (h : ∀ p ∈ a, p) (h' : ∀ p ∈ b, p) : ∀ p ∈ a ++ b, p := fun p hp => (List.mem_append.1 hp).elim (h p) (h' p)

theorem lend1_sound {d : DV X} {c : CT X.ι} {x : CT.T X.toSE c × List Bool} (h : lend1 get d c = some x) (hc : ∀ b ∈ x.2, b = true) (hrd : ∀ j ∈ drefs d, j ∈ rd) : ∃ hs obs, (∀ p ∈ obs, p) ∧ ∀ rest, lend P (restr rd (aget get)) (den d) (hs ++ rest) = some ((CT.tv X.toSE c x.1).av, rest, obs) := by
  have base : ∀ {d : DV X} {c : CT X.ι} {x : CT.T X.toSE c}, dat1 d c = some x → ∃ hs obs, (∀ p ∈ obs, p) ∧ ∀ rest, lend P (restr rd (aget get)) (den d) (hs ++ rest) = some ((CT.tv X.toSE c x).av, rest, obs) := by
    intro d c x h
    unfold dat1 at h
    split at h
    · rw [(castC_den h).1]
      refine ⟨[], [], by simp, fun rest => ?_⟩
      simp only [List.nil_append, den]
      cases c <;> try rfl
      rename_i j
      show lend P _ (.agg ((X.row j x).map AV.t)) rest = _
      have : ∀ (l : List Tree) (hs : List LH), lendL P (restr rd (aget get)) (l.map AV.t) hs = some (l.map AV.t, hs, []) := by
        intro l
        induction l with
        | nil => intro hs; rfl
        | cons y ys ih => intro hs; simp only [List.map_cons, lendL, lend, Option.bind_some, ih, List.nil_append]
      simp only [lend, this, Option.bind_some]
      rfl
    · injection h with h
      subst h
      exact ⟨[.emp], [], by simp, fun rest => rfl⟩
    · injection h with h
      subst h
      exact ⟨[.emp], [], by simp, fun rest => rfl⟩
    · cases h
  unfold lend1 at h
  split at h
  · rename_i kk off len e
    rw [Option.bind_eq_some_iff] at h; obtain ⟨o, h1, h⟩ := h
    split at h
    · rename_i b l0
      rw [Option.bind_eq_some_iff] at h; obtain ⟨l, h2, h⟩ := h
      injection h with h
      subst h
      have h3 : (sub l off len).length = len := by simpa [eqL] using hc (eqL (sub l off len).length len) (by simp)
      obtain ⟨h4, h5⟩ := castL_den h2
      refine ⟨[.rows ((sub l off len).map (CT.row X.toSE e))], [(((denO (.lst b l0) : AObj).rows.drop off).take len = avRows ((sub l off len).map (CT.row X.toSE e)) ∧ ((sub l off len).map (CT.row X.toSE e)).length = len)], ?_, fun rest => ?_⟩
      · intro p hp
        simp only [List.mem_singleton] at hp
        subst hp
        refine ⟨?_, by simpa using h3⟩
        simp only [denO, h5]
        simp [avRows, sub, List.map_take, List.map_drop]
      · simp only [List.cons_append, List.nil_append, den, lend, restr_get (hrd kk (by simp [drefs])) h1, Option.bind_some]
        rfl
    · cases h
  · rename_i kk off len
    rw [Option.bind_eq_some_iff] at h; obtain ⟨o, h1, h⟩ := h
    split at h
    · rename_i b l0
      injection h with h
      subst h
      have h3 : (sub l0 off len).length = len := by simpa [eqL] using hc (eqL (sub l0 off len).length len) (by simp)
      refine ⟨[.rows ((sub l0 off len).map (CT.row X.toSE b))], [(((denO (.lst b l0) : AObj).rows.drop off).take len = avRows ((sub l0 off len).map (CT.row X.toSE b)) ∧ ((sub l0 off len).map (CT.row X.toSE b)).length = len)], ?_, fun rest => ?_⟩
      · intro p hp
        simp only [List.mem_singleton] at hp
        subst hp
        refine ⟨?_, by simpa using h3⟩
        simp only [denO]
        simp [avRows, sub, List.map_take, List.map_drop]
      · simp only [List.cons_append, List.nil_append, den, lend, restr_get (hrd kk (by simp [drefs])) h1, Option.bind_some]
        rfl
    · cases h
  · rw [Option.bind_eq_some_iff] at h; obtain ⟨y, h1, h⟩ := h
    injection h with h
    subst h
    exact base h1

theorem lendHL_sound : ∀ {ds : List (DV X)} {l : List (CT X.ι)} {h : HL X.toSE l × List Bool}, lendHL get ds l = some h → (∀ b ∈ h.2, b = true) → l.all CT.one = true → (∀ j ∈ drefsL ds, j ∈ rd) →
    ∃ hs obs, (∀ p ∈ obs, p) ∧ ∀ rest, lendL P (restr rd (aget get)) (denL ds) (hs ++ rest) = some ((HL.row X.toSE l h.1).map AV.t, rest, obs)
  | [], [], h, _, _, _, _ => ⟨[], [], by simp, fun rest => rfl⟩
  | d :: ds, c :: l, h, hr, hc, ha, hrd => by
    simp only [lendHL] at hr
    rw [Option.bind_eq_some_iff] at hr; obtain ⟨x, h1, hr⟩ := hr
    rw [Option.bind_eq_some_iff] at hr; obtain ⟨g, h2, hr⟩ := hr
    injection hr with hr
    subst hr
    simp only [List.all_cons, Bool.and_eq_true] at ha
    obtain ⟨hs1, o1, p1, q1⟩ := lend1_sound (P := P) (rd := rd) h1 (fun b hb => hc b (by simp [hb])) (fun j hj => hrd j (by simp [drefsL, hj]))
    obtain ⟨hs2, o2, p2, q2⟩ := lendHL_sound h2 (fun b hb => hc b (by simp [hb])) ha.2 (fun j hj => hrd j (by simp [drefsL, hj]))
    refine ⟨hs1 ++ hs2, o1 ++ o2, all_app p1 p2, fun rest => ?_⟩
    simp only [denL, lendL, List.append_assoc, q1, Option.bind_some, q2]
    show _ = some ((CT.row X.toSE c x.1 ++ HL.row X.toSE l g.1).map AV.t, rest, o1 ++ o2)
    rw [List.map_append, ← tv_one ha.1 x.1]; rfl
  | [], _ :: _, _, hr, _, _, _ => by simp [lendHL] at hr
  | _ :: _, [], _, hr, _, _, _ => by simp [lendHL] at hr

theorem lendD_sound {d : DV X} {c : CT X.ι} {x : CT.T X.toSE c × List Bool} (h : lendD get d c = some x) (hc : ∀ b ∈ x.2, b = true) (hrd : ∀ j ∈ drefs d, j ∈ rd) : ∃ hs obs, (∀ p ∈ obs, p) ∧ ∀ rest, lend P (restr rd (aget get)) (den d) (hs ++ rest) = some ((CT.tv X.toSE c x.1).av, rest, obs) := by
  cases c
  case st i =>
    replace h : lendS get d i = some x := h
    cases d
    case agg cs =>
      simp only [lendS] at h
      rw [Option.bind_eq_some_iff] at h; obtain ⟨g, h1, h⟩ := h
      injection h with h
      subst h
      obtain ⟨hs, obs, p1, q1⟩ := lendHL_sound (P := P) (rd := rd) h1 hc (X.flat i) (fun j hj => hrd j (by simpa [drefs] using hj))
      refine ⟨hs, obs, p1, fun rest => ?_⟩
      simp only [den, lend, q1, Option.bind_some, CT.tv, TV.av]
      rw [X.row_make]
    case c a y => exact lend1_sound (c := .st i) (x := x) (by unfold lend1; exact h) hc hrd
    all_goals cases h
  all_goals exact lend1_sound h hc hrd

theorem lendR_sound {d : DV X} {c : CT X.ι} {x : CT.T X.toSE c} (h : lendR get d c = some x) (hrd : ∀ j ∈ drefs d, j ∈ rd) : ∃ hs obs, (∀ p ∈ obs, p) ∧ ∀ rest, lend P (restr rd (aget get)) (den d) (hs ++ rest) = some (.rptr (CT.row X.toSE c x) 0, rest, obs) := by
  unfold lendR at h
  split at h
  · rename_i kk row
    rw [Option.bind_eq_some_iff] at h; obtain ⟨o, h1, h⟩ := h
    split at h
    · rename_i sz rows
      rw [Option.bind_eq_some_iff] at h; obtain ⟨q, h2, h⟩ := h
      split at h
      · rename_i hq
        refine ⟨[.row (CT.row X.toSE c x)], [(denO (.cells sz rows) : AObj).rows[row]? = some ((CT.row X.toSE c x).map AV.t)], ?_, fun rest => ?_⟩
        · intro p hp
          simp only [List.mem_singleton] at hp
          subst hp
          simp only [denO, List.getElem?_map, h2, Option.map_some]
          rw [← mkRow_den h, denL_map, List.map_map]
          congr 1
          refine List.map_congr_left fun y hy => ?_
          have := List.all_eq_true.1 hq y hy
          cases y <;> first | exact (wk_tv _).symm | simp at this
        · simp only [List.cons_append, List.nil_append, den, lend, restr_get (hrd kk (by simp [drefs])) h1, Option.bind_some]
      · cases h
    · cases h
  · rename_i a y
    refine ⟨[], [], by simp, fun rest => ?_⟩
    simp only [den, (castC_den h).2]; rfl
  · cases h

theorem argAV_cast {n : Nat} {l l' : List (AT X.ι)} (e : l = l') (b : ArgsT X l) : argAVn n l' (e ▸ b) = argAVn n l b := by subst e; rfl

theorem lendLg_nm {clof : FuncId → List (DV X) → List (DV X) → (as : List (CT X.ι)) → (r : CT X.ι) → Option ((HL X.toSE as → Option (CT.T X.toSE r)) × List Bool)} : ∀ {ds : List (DV X)} {l : List (AT X.ι)} {a : ArgsT X l × List Bool}, lendLg get clof ds l = some a → (l.all fun q => !q.im) = true
  | [], [], _, _ => rfl
  | d :: ds, .d c :: l, a, h => by
    simp only [lendLg] at h
    rw [Option.bind_eq_some_iff] at h; obtain ⟨x, h1, h⟩ := h
    rw [Option.bind_eq_some_iff] at h; obtain ⟨q, h2, h⟩ := h
    simpa [AT.im] using lendLg_nm h2
  | d :: ds, .ref c :: l, a, h => by
    simp only [lendLg] at h
    rw [Option.bind_eq_some_iff] at h; obtain ⟨x, h1, h⟩ := h
    rw [Option.bind_eq_some_iff] at h; obtain ⟨q, h2, h⟩ := h
    simpa [AT.im] using lendLg_nm h2
  | d :: ds, .clo as r :: l, a, h => by
    simp only [lendLg] at h
    rw [Option.bind_eq_some_iff] at h; obtain ⟨x, h1, h⟩ := h
    rw [Option.bind_eq_some_iff] at h; obtain ⟨q, h2, h⟩ := h
    simpa [AT.im] using lendLg_nm h2
  | _ :: _, .mut _ :: _, _, h => by simp [lendLg] at h
  | _ :: _, .mref _ :: _, _, h => by simp [lendLg] at h
  | _ :: _, .nil :: _, _, h => by simp [lendLg] at h
  | [], _ :: _, _, h => by simp [lendLg] at h
  | _ :: _, [], _, h => by simp [lendLg] at h

theorem lendA_nm : ∀ {n : Nat} {ds : List (DV X)} {l : List (AT X.ι)} {a : ArgsT X l × List Bool}, lendA Γ get n ds l = some a → (l.all fun q => !q.im) = true
  | 0, _, _, _, h => lendLg_nm h
  | _ + 1, _, _, _, h => lendLg_nm h

theorem mapD_nm : ∀ as : List (CT X.ι), ((as.map AT.d).all fun q => !q.im) = true
  | [] => rfl
  | _ :: l => mapD_nm l

/-- What is lent as a function. -/
def CloOk (P : Program) (get : Nat → Option (DObj X)) (clof : FuncId → List (DV X) → List (DV X) → (as : List (CT X.ι)) → (r : CT X.ι) → Option ((HL X.toSE as → Option (CT.T X.toSE r)) × List Bool)) : Prop :=
  ∀ f first caps as r φ rd, clof f first caps as r = some φ → (∀ b ∈ φ.2, b = true) → (∀ j ∈ drefsL first ++ drefsL caps, j ∈ rd) → ∃ hs obs, (∀ p ∈ obs, p) ∧ ∀ rest, lend P (restr rd (aget get)) (.fn f (denL first) (denL caps)) (hs ++ rest) = some (den (.clo as r φ.1 : DV X), rest, obs)

theorem lendLg_sound {n : Nat} {clof : FuncId → List (DV X) → List (DV X) → (as : List (CT X.ι)) → (r : CT X.ι) → Option ((HL X.toSE as → Option (CT.T X.toSE r)) × List Bool)} (hclo : CloOk P get clof) : ∀ {ds : List (DV X)} {l : List (AT X.ι)} {a : ArgsT X l × List Bool}, lendLg get clof ds l = some a → (∀ b ∈ a.2, b = true) → (∀ j ∈ drefsL ds, j ∈ rd) →
    ∃ hs obs, (∀ p ∈ obs, p) ∧ ∀ rest, lendL P (restr rd (aget get)) (denL ds) (hs ++ rest) = some (argAVn n l a.1, rest, obs)
  | [], [], _, _, _, _ => ⟨[], [], by simp, fun rest => rfl⟩
  | d :: ds, .d c :: l, a, h, hc, hrd => by
    simp only [lendLg] at h
    rw [Option.bind_eq_some_iff] at h; obtain ⟨x, h1, h⟩ := h
    rw [Option.bind_eq_some_iff] at h; obtain ⟨q, h2, h⟩ := h
    injection h with h
    subst h
    obtain ⟨hs1, o1, p1, q1⟩ := lendD_sound (P := P) (rd := rd) h1 (fun b hb => hc b (by simp [hb])) (fun j hj => hrd j (by simp [drefsL, hj]))
    obtain ⟨hs2, o2, p2, q2⟩ := lendLg_sound (n := n) hclo h2 (fun b hb => hc b (by simp [hb])) (fun j hj => hrd j (by simp [drefsL, hj]))
    refine ⟨hs1 ++ hs2, o1 ++ o2, all_app p1 p2, fun rest => ?_⟩
    simp only [denL, lendL, List.append_assoc, q1, Option.bind_some, q2, argAVn]
  | d :: ds, .ref c :: l, a, h, hc, hrd => by
    simp only [lendLg] at h
    rw [Option.bind_eq_some_iff] at h; obtain ⟨x, h1, h⟩ := h
    rw [Option.bind_eq_some_iff] at h; obtain ⟨q, h2, h⟩ := h
    injection h with h
    subst h
    obtain ⟨hs1, o1, p1, q1⟩ := lendR_sound (P := P) (rd := rd) h1 (fun j hj => hrd j (by simp [drefsL, hj]))
    obtain ⟨hs2, o2, p2, q2⟩ := lendLg_sound (n := n) hclo h2 hc (fun j hj => hrd j (by simp [drefsL, hj]))
    refine ⟨hs1 ++ hs2, o1 ++ o2, all_app p1 p2, fun rest => ?_⟩
    simp only [denL, lendL, List.append_assoc, q1, Option.bind_some, q2, argAVn]
  | d :: ds, .clo as r :: l, a, h, hc, hrd => by
    simp only [lendLg] at h
    rw [Option.bind_eq_some_iff] at h; obtain ⟨φ, h1, h⟩ := h
    rw [Option.bind_eq_some_iff] at h; obtain ⟨q, h2, h⟩ := h
    injection h with h
    subst h
    have hd : ∃ hs obs, (∀ p ∈ obs, p) ∧ ∀ rest, lend P (restr rd (aget get)) (den d) (hs ++ rest) = some (den (.clo as r φ.1 : DV X), rest, obs) := by
      cases d
      case clo as' r' ψ =>
        simp only at h1
        split at h1
        · rename_i e
          obtain ⟨rfl, rfl⟩ := e
          injection h1 with h1
          subst h1
          exact ⟨[], [], by simp, fun rest => rfl⟩
        · cases h1
      case fn f first caps =>
        obtain ⟨hs, obs, g1, g2⟩ := hclo f first caps as r φ rd h1 (fun b hb => hc b (by simp [hb])) (fun j hj => hrd j (by simp only [drefsL, drefs, List.mem_append] at hj ⊢; exact .inl hj))
        exact ⟨hs, obs, g1, fun rest => by simp only [den]; exact g2 rest⟩
      all_goals simp at h1
    obtain ⟨hs1, o1, p1, q1⟩ := hd
    obtain ⟨hs2, o2, p2, q2⟩ := lendLg_sound (n := n) hclo h2 (fun b hb => hc b (by simp [hb])) (fun j hj => hrd j (by simp [drefsL, hj]))
    refine ⟨hs1 ++ hs2, o1 ++ o2, all_app p1 p2, fun rest => ?_⟩
    simp only [denL, lendL, List.append_assoc, q1, Option.bind_some, q2, argAVn]
  | _ :: _, .mut _ :: _, _, h, _, _ => by simp [lendLg] at h
  | _ :: _, .mref _ :: _, _, h, _, _ => by simp [lendLg] at h
  | _ :: _, .nil :: _, _, h, _, _ => by simp [lendLg] at h
  | [], _ :: _, _, h, _, _ => by simp [lendLg] at h
  | _ :: _, [], _, h, _, _ => by simp [lendLg] at h

theorem lendA_sound (hΓ : GOk P Γ) : ∀ (m : Nat) {n : Nat} {ds : List (DV X)} {l : List (AT X.ι)} {a : ArgsT X l × List Bool} {rd : List Nat}, lendA Γ get m ds l = some a → (∀ b ∈ a.2, b = true) → (∀ j ∈ drefsL ds, j ∈ rd) →
    ∃ hs obs, (∀ p ∈ obs, p) ∧ ∀ rest, lendL P (restr rd (aget get)) (denL ds) (hs ++ rest) = some (argAVn n l a.1, rest, obs)
  | 0, n, ds, l, a, rd, h, hcs, hrd => lendLg_sound (fun _ _ _ _ _ _ _ h => by cases h) h hcs hrd
  | m + 1, n, ds, l, a, rd, h, hcs, hrd => by
    refine lendLg_sound (fun f first caps as r φ rd' hc hb hrd' => ?_) h hcs hrd
    rw [Option.bind_eq_some_iff] at hc; obtain ⟨s, h1, hc⟩ := hc
    split at hc
    · rename_i sa r' fn
      split at hc
      · rename_i e
        obtain ⟨rfl, e2⟩ := e
        rw [Option.bind_eq_some_iff] at hc; obtain ⟨hf, h2, hc⟩ := hc
        rw [Option.bind_eq_some_iff] at hc; obtain ⟨hcap, h3, hc⟩ := hc
        injection hc with hc
        rw [← hc] at hb
        obtain ⟨g1, g2⟩ := hΓ f _ h1
        obtain ⟨hs1, o1, p1, q1⟩ := lendA_sound hΓ m h2 (n := 0) (rd := rd') (fun b hb' => hb b (by simp [hb'])) (fun j hj => hrd' j (by simp [hj]))
        obtain ⟨hs2, o2, p2, q2⟩ := lendA_sound hΓ m h3 (n := 0 + muts (sa.take first.length) + muts (as.map AT.d)) (rd := rd') (fun b hb' => hb b (by simp [hb'])) (fun j hj => hrd' j (by simp [hj]))
        refine ⟨.clo (fun ts u => ∃ h x, φ.1 h = some x ∧ ts = HL.tvs X.toSE as h ∧ u = CT.tv X.toSE r' x) :: (hs1 ++ hs2), o1 ++ (o2 ++ [Callable P f ∧ ∀ args r, (∃ h x, φ.1 h = some x ∧ args = HL.tvs X.toSE as h ∧ r = CT.tv X.toSE r' x) → FnP P f (argAVn 0 _ hf.1 ++ args.map TV.av ++ argAVn (0 + muts (sa.take first.length) + muts (as.map AT.d)) _ hcap.1) (.one (.d r))]), ?_, fun rest => ?_⟩
        · intro p hp
          simp only [List.mem_append, List.mem_singleton] at hp
          rcases hp with hp | hp | hp
          · exact p1 p hp
          · exact p2 p hp
          · subst hp
            refine ⟨g1, ?_⟩
            rintro args r ⟨x, y, hxy, rfl, rfl⟩
            rw [← hc] at hxy
            have hxy' : fn (e2 ▸ apA _ _ hf.1 (apA _ _ (hlA as x) hcap.1)) = some y := hxy
            have := g2 _ _ hxy'
            have hnm : (sa.all fun q => !q.im) = true := by
              rw [e2, List.all_append, List.all_append, lendA_nm h2, lendA_nm h3, mapD_nm]; rfl
            rw [objA_nil hnm, argAV, argAV_cast e2.symm, argAV_append, argAV_append, argAV_hlA, ← List.append_assoc] at this
            exact fnP_of_W this
        · simp only [List.cons_append, List.append_assoc, lend, q1, Option.bind_some, q2]
          rfl
      · cases hc
    · cases hc
end
end
end Go.Gb
