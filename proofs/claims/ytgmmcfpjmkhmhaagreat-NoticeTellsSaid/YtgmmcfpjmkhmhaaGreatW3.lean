/-
  Calls of the typed walk.
  Names of objects told anew; states told with less.
  A region in the typed walk.
  A region in the typed walk, whole.
  Shapes of states: what is kept at a join and at a loop's head.
  A state, told as a shape says, stands for what it stood for.
  A state, told as a shape says, stands for what it stood for: the whole.
  Code in the typed walk.
  A function's contract out of the typed walk of its body.
  A law's row out of its typed contract: what is read has typed values.
-/
import Derived.Test.YtgmmcfpjmkhmhaaGreatW2
namespace Go.Gb
open Go.RowKit

section
variable {X : SX} {A : Type}

def scal1 : CT X.ι → Bool
  | .int _ | .bool | .str => true
  | _ => false
def scalC : CT X.ι → Bool
  | .st i => (X.tys i).all scal1
  | c => scal1 c
def scalR : RT X.ι → Bool
  | .d c => scalC c
  | .fresh e => scalC e
  | .whole _ => true
  | .mu c => scalC c
  | .mr c => scalC c
  | .mv => true

theorem scal1_flat {c : CT X.ι} (h : scal1 c = true) (x : CT.T X.toSE c) : ∀ t ∈ CT.row X.toSE c x, t.flat := by
  cases c <;> first | (intro t ht; simp only [CT.row, List.mem_singleton] at ht; subst ht; exact trivial) | cases h

theorem HL_flat : ∀ (l : List (CT X.ι)) (h : HL X.toSE l), l.all scal1 = true → ∀ t ∈ HL.row X.toSE l h, t.flat
  | [], _, _, t, ht => by simp [HL.row] at ht
  | c :: l, h, ha, t, ht => by
    simp only [List.all_cons, Bool.and_eq_true] at ha
    rcases List.mem_append.1 (show t ∈ CT.row X.toSE c h.1 ++ HL.row X.toSE l h.2 from ht) with ht | ht
    · exact scal1_flat ha.1 h.1 t ht
    · exact HL_flat l h.2 ha.2 t ht

theorem scalC_flat {c : CT X.ι} (h : scalC c = true) (x : CT.T X.toSE c) : ∀ t ∈ CT.row X.toSE c x, t.flat := by
  cases c
  case st i => intro t ht; exact HL_flat (X.tys i) (X.get i x) h t ((X.row_get i x) ▸ ht)
  case int k => exact scal1_flat (c := .int k) h x
  case bool => exact scal1_flat (c := .bool) h x
  case str => exact scal1_flat (c := .str) h x
  case sl e => cases h
  case any => cases h

theorem scalC_tv {c : CT X.ι} (h : scalC c = true) (x : CT.T X.toSE c) : (CT.tv X.toSE c x).flat := by
  cases c
  case st i => exact scalC_flat h x
  all_goals first | exact trivial | cases h

theorem scalR_flat {ns : List Nat} {q : RT X.ι} {x : RT.T X q} (h : scalR q = true) : ∀ c ∈ resRC ns q x, c.flat := by
  intro c hc
  cases q <;> simp only [resRC, List.mem_singleton, List.not_mem_nil] at hc
  case d c => subst hc; exact scalC_tv h x
  case fresh e =>
    subst hc
    intro row hr
    obtain ⟨y, _, rfl⟩ := List.mem_map.1 hr
    exact scalC_flat h y
  case whole j => subst hc; exact trivial

theorem scalRs_flat {ns : List Nat} : ∀ {l : List (RT X.ι)} {x : ResT X l}, l.all scalR = true → ∀ c ∈ resRCs ns l x, c.flat
  | [], x, _, c, hc => by simp [resRCs] at hc
  | [q], x, h, c, hc => scalR_flat (by simpa using h) c hc
  | q :: q' :: l, x, h, c, hc => by
    simp only [List.all_cons, Bool.and_eq_true] at h
    simp only [resRCs, List.mem_append] at hc
    rcases hc with hc | hc
    · exact scalR_flat h.1 c hc
    · exact scalRs_flat (by simp only [List.all_cons, Bool.and_eq_true]; exact h.2) c hc

theorem resRV_flat {l : List (RT X.ι)} (x : ResT X l) (h : l.all scalR = true) : (resRV l x).flat := by
  have := scalRs_flat (ns := lenR l x) (x := x) h
  unfold resRV
  split
  · rename_i c hc
    exact this c (by rw [hc]; simp)
  · exact this

theorem outC_flat {q : RT X.ι} {x : RT.T X q} (h : scalR q = true) : flatO (outC q x) := by
  intro p hp
  cases q <;> simp only [outC, List.mem_singleton, List.not_mem_nil, Option.some.injEq, reduceCtorEq] at hp
  case mu c =>
    subst hp
    intro r hr
    obtain ⟨y, _, rfl⟩ := List.mem_map.1 hr
    exact scalC_flat h y
  case mr c =>
    subst hp
    intro r hr
    obtain ⟨y, _, rfl⟩ := List.mem_map.1 hr
    exact scalC_flat h y

theorem objR_flat : ∀ {l : List (RT X.ι)} {x : ResT X l}, l.all scalR = true → flatO (objR l x)
  | [], x, _ => fun p hp => by simp [objR] at hp
  | [q], x, h => outC_flat (q := q) (by simpa using h)
  | q :: q' :: l, x, h => by
    simp only [List.all_cons, Bool.and_eq_true] at h
    intro p hp
    rcases List.mem_append.1 (show some p ∈ outC q x.1 ++ objR (q' :: l) x.2 from hp) with hp | hp
    · exact outC_flat h.1 p hp
    · exact objR_flat (l := q' :: l) (by simp only [List.all_cons, Bool.and_eq_true]; exact h.2) p hp

def impC1 (i : Nat) (ids ns : List Nat) : (q : RT X.ι) → RT.T X q → List (DV X) × List (Nat × Option (DObj X))
  | .d c, x => ([.c c x], [])
  | .fresh e, l => ([.own (nid i) 0 l.length], [(nid i, some (.lst e l))])
  | .whole j, _ => ([match ids[j]? with | some k => .own k 0 (ns.getD j 0) | none => .undef], [])
  | _, _ => ([], [])
def impLD (i : Nat) (ids ns : List Nat) : (l : List (RT X.ι)) → ResT X l → Option (List (DV X) × List (Nat × Option (DObj X)))
  | [], _ => some ([], [])
  | [q], x => some (impC1 i ids ns q x)
  | q :: q' :: l, x => (impLD i ids ns (q' :: l) x.2).bind fun p => if (impC1 i ids ns q x.1).2.isEmpty || p.2.isEmpty then some ((impC1 i ids ns q x.1).1 ++ p.1, (impC1 i ids ns q x.1).2 ++ p.2) else none
def tupD : List (DV X) → DV X
  | [d] => d
  | ds => .tup ds
def impD (i : Nat) (ids : List Nat) (l : List (RT X.ι)) (x : ResT X l) : Option (DV X × List (Nat × Option (DObj X))) :=
  (impLD i ids (lenR l x) l x).bind fun p => some (tupD p.1, p.2)

theorem denU_isEmpty (u : List (Nat × Option (DObj X))) : (denU u).isEmpty = u.isEmpty := by cases u <;> rfl

theorem impC1_den (i : Nat) (ids ns : List Nat) (q : RT X.ι) (x : RT.T X q) : (∃ c, resRC ns q x = [c] ∧ ∃ d, (impC1 i ids ns q x).1 = [d] ∧ impC i ids c = (den d, denU (impC1 i ids ns q x).2)) ∨ (resRC ns q x = [] ∧ impC1 i ids ns q x = ([], [])) := by
  cases q
  case d c => exact .inl ⟨_, rfl, _, rfl, rfl⟩
  case fresh e => exact .inl ⟨_, rfl, _, rfl, by simp [impC, impC1, den, denU, denO, avRows]⟩
  case whole j =>
    refine .inl ⟨_, rfl, _, rfl, ?_⟩
    simp only [impC, denU, impC1, List.map_nil, Prod.mk.injEq, and_true]
    cases ids[j]? <;> rfl
  all_goals exact .inr ⟨rfl, rfl⟩

theorem impL_one (i : Nat) (ids : List Nat) (c : RC) : impL i ids [c] = some ([(impC i ids c).1], (impC i ids c).2) := by
  simp [impL]

theorem impLD_den (i : Nat) (ids ns : List Nat) : ∀ (l : List (RT X.ι)) (x : ResT X l) (p : List (DV X) × List (Nat × Option (DObj X))), impLD i ids ns l x = some p → impL i ids (resRCs ns l x) = some (denL p.1, denU p.2)
  | [], _, p, h => by simp only [impLD, Option.some.injEq] at h; subst h; rfl
  | [q], x, p, h => by
    simp only [impLD, Option.some.injEq] at h
    subst h
    simp only [resRCs]
    rcases impC1_den i ids ns q x with ⟨c, h1, d, h2, h3⟩ | ⟨h1, h2⟩
    · rw [h1, impL_one, h2, h3]; simp [denL]
    · rw [h1, h2]; rfl
  | q :: q' :: l, x, p, h => by
    simp only [impLD] at h
    rw [Option.bind_eq_some_iff] at h; obtain ⟨p', h1, h⟩ := h
    have ih := impLD_den i ids ns (q' :: l) x.2 p' h1
    split at h
    · rename_i hc
      injection h with h
      subst h
      simp only [resRCs]
      rcases impC1_den i ids ns q x.1 with ⟨c, h1, d, h2, h3⟩ | ⟨h1, h2⟩
      · rw [h1]
        simp only [List.singleton_append, impL, ih, Option.bind_some, h3, denU_isEmpty]
        rw [if_pos hc, h2]
        simp [denL, denU]
      · rw [h1, h2]
        simp only [List.nil_append]
        exact ih
    · cases h

theorem impD_den {i : Nat} {ids : List Nat} {l : List (RT X.ι)} {x : ResT X l} {p : DV X × List (Nat × Option (DObj X))} (h : impD i ids l x = some p) : imp i ids (resRV l x) = some (den p.1, denU p.2) := by
  unfold impD at h
  rw [Option.bind_eq_some_iff] at h; obtain ⟨p', h1, h⟩ := h
  injection h with h
  subst h
  have ih := impLD_den i ids _ l x p' h1
  unfold resRV
  split
  · rename_i c hc
    rw [hc, impL_one] at ih
    simp only [Option.some.injEq, Prod.mk.injEq] at ih
    obtain ⟨ds, u⟩ := p'
    match ds, ih with
    | [d], ih =>
      simp only [denL, List.cons.injEq, and_true] at ih
      simp only [imp, tupD, ← ih.1, ← ih.2]
    | [], ih => simp [denL] at ih
    | _ :: _ :: _, ih => simp [denL] at ih
  · rename_i hne
    simp only [imp, ih, Option.bind_some]
    obtain ⟨ds, u⟩ := p'
    match ds, ih with
    | [], _ => rfl
    | _ :: _ :: _, _ => rfl
    | [d], ih =>
      exfalso
      generalize hcs : resRCs (lenR l x) l x = cs at ih hne
      match cs, ih, hne with
      | [], ih, _ => simp [impL, denL] at ih
      | [c], _, hne => exact hne c rfl
      | c :: c' :: cs, ih, _ =>
        simp only [impL] at ih
        cases h3 : impL i ids cs with
        | none => rw [h3] at ih; simp at ih
        | some q =>
          rw [h3] at ih
          simp only [Option.bind_some] at ih
          split at ih
          · simp only [Option.bind_some] at ih
            split at ih
            · simp [denL] at ih
            · cases ih
          · simp at ih

def outD : (q : RT X.ι) → RT.T X q → List (Option (DObj X))
  | .mu c, x => [some (.lst c x)]
  | .mr c, x => [some (.cells (CT.sz X c) [cellsC c x])]
  | .mv, _ => [none]
  | _, _ => []
def outDs : (l : List (RT X.ι)) → ResT X l → List (Option (DObj X))
  | [], _ => []
  | [q], x => outD q x
  | q :: q' :: l, x => outD q x.1 ++ outDs (q' :: l) x.2
def outUD : List Nat → List (Option (DObj X)) → List (Nat × Option (DObj X))
  | k :: ids, p :: os => (k, p) :: outUD ids os
  | _, _ => []

theorem outD_den (q : RT X.ι) (x : RT.T X q) : (outD q x).map (·.map denO) = (outC q x).map (·.map aob) := by
  cases q <;> try rfl
  case mr c => simp only [outD, outC, List.map_cons, List.map_nil, Option.map_some, denO, aob, mutR, avRows, cellsC_den]

theorem outDs_den : ∀ (l : List (RT X.ι)) (x : ResT X l), (outDs l x).map (·.map denO) = (objR l x).map (·.map aob)
  | [], _ => rfl
  | [q], x => outD_den q x
  | q :: q' :: l, x => by simp only [outDs, objR, List.map_append, outD_den, outDs_den (q' :: l) x.2]

theorem outUD_den : ∀ (ids : List Nat) (os : List (Option (DObj X))) (os' : List (Option RowsT)), os.map (·.map denO) = os'.map (·.map aob) → denU (outUD ids os) = outU ids os'
  | [], _, _, _ => by simp [outUD, outU, denU]
  | _ :: _, [], [], _ => rfl
  | k :: ids, p :: os, p' :: os', h => by
    simp only [List.map_cons, List.cons.injEq] at h
    have := outUD_den ids os os' h.2
    simp only [denU] at this
    simp only [outUD, outU, denU, List.map_cons, h.1, this]
  | _ :: _, [], _ :: _, h => by simp at h
  | _ :: _, _ :: _, [], h => by simp at h

theorem outUD_keys : ∀ {ids : List Nat} {os : List (Option (DObj X))} {p : Nat × Option (DObj X)}, p ∈ outUD ids os → p.1 ∈ ids
  | [], _, _, h => by simp [outUD] at h
  | _ :: _, [], _, h => by simp [outUD] at h
  | k :: ids, q :: os, p, h => by
    simp only [outUD, List.mem_cons] at h
    rcases h with rfl | h
    · simp
    · exact List.mem_cons_of_mem _ (outUD_keys h)

def lendMut (get : Nat → Option (DObj X)) (d : DV X) (c : CT X.ι) : Option (List (CT.T X.toSE c) × Nat × List Bool) :=
  match d with
  | .own k 0 len => (get k).bind fun o => match o with
    | .lst b l => (castC (.sl b) (.sl c) l).bind fun (l : List (CT.T X.toSE c)) => some (l, k, [eqL len (List.length l)])
    | _ => none
  | _ => none

def lendMref (get : Nat → Option (DObj X)) (d : DV X) (c : CT X.ι) : Option (CT.T X.toSE c × Nat) :=
  match d with
  | .ptr k 0 0 => (get k).bind fun o => match o with
    | .cells sz [row] => if sz = CT.sz X c then (mkRow c row).bind fun x => some (x, k) else none
    | _ => none
  | _ => none

/-- The arguments of a call that may change objects; their names. -/
def lendAW (Γ : FuncId → Option (Sig X)) (get : Nat → Option (DObj X)) : List (DV X) → (l : List (AT X.ι)) → Option (ArgsT X l × List Nat × List Bool)
  | [], [] => some ((), [], [])
  | d :: ds, .mut c :: l => (lendMut get d c).bind fun x => (lendAW Γ get ds l).bind fun h => some ((x.1, h.1), x.2.1 :: h.2.1, x.2.2 ++ h.2.2)
  | d :: ds, .mref c :: l => (lendMref get d c).bind fun x => (lendAW Γ get ds l).bind fun h => some ((x.1, h.1), x.2 :: h.2.1, h.2.2)
  | d :: ds, .d c :: l => (lendA Γ get 3 [d] [.d c]).bind fun x => (lendAW Γ get ds l).bind fun h => some ((x.1.1, h.1), h.2.1, x.2 ++ h.2.2)
  | d :: ds, .ref c :: l => (lendA Γ get 3 [d] [.ref c]).bind fun x => (lendAW Γ get ds l).bind fun h => some ((x.1.1, h.1), h.2.1, x.2 ++ h.2.2)
  | d :: ds, .clo as r :: l => (lendA Γ get 3 [d] [.clo as r]).bind fun x => (lendAW Γ get ds l).bind fun h => some ((x.1.1, h.1), h.2.1, x.2 ++ h.2.2)
  | d :: ds, .nil :: l => match d with
    | .nil => (lendAW Γ get ds l).bind fun h => some (((), h.1), h.2.1, h.2.2)
    | _ => none
  | _, _ => none

def nonRefs : List (DV X) → List (AT X.ι) → List Nat
  | d :: ds, a :: l => (if a.im then [] else drefs d) ++ nonRefs ds l
  | _, _ => []

def lendHD (get : Nat → Option (DObj X)) : List (DV X) → (l : List (CT X.ι)) → Option (HL X.toSE l × List Bool)
  | [], [] => some ((), [])
  | d :: ds, c :: l => (lendD get d c).bind fun x => (lendHD get ds l).bind fun h => some ((x.1, h.1), x.2 ++ h.2)
  | _, _ => none


variable (Γ : FuncId → Option (Sig X))

def callD (i : Nat) (f : DV X) (args : List (DV X)) (get : Nat → Option (DObj X)) (k : KK X A) : Option A :=
  match f with
  | .fn F first caps => (Γ F).bind fun s =>
    if (s.args.all (fun q => q.pl) && s.res.all (fun q => !q.out)) = true then (lendA Γ get 3 (first ++ args ++ caps) s.args).bind fun a => chkA a.2 ((s.fn a.1).bind fun x => (impD i [] s.res x).bind fun p =>
      if s.res.all scalR then k p.1 p.2 (drefsL (first ++ args ++ caps)) []
      else k p.1 (p.2 ++ goneD (drefsL (first ++ args ++ caps))) (drefsL (first ++ args ++ caps)) (drefsL (first ++ args ++ caps)))
    else (lendAW Γ get (first ++ args ++ caps) s.args).bind fun a => chkA a.2.2 ((s.fn a.1).bind fun x => (impD i a.2.1 s.res x).bind fun p =>
      if (decide a.2.1.Nodup && (nonRefs (first ++ args ++ caps) s.args).all (fun j => !a.2.1.contains j) && decide ((outDs s.res x).length = a.2.1.length)) = true then
        if s.res.all scalR then k p.1 (p.2 ++ outUD a.2.1 (outDs s.res x)) (drefsL (first ++ args ++ caps)) a.2.1
        else k p.1 (p.2 ++ (outUD a.2.1 (outDs s.res x) ++ goneD ((drefsL (first ++ args ++ caps)).filter fun j => !a.2.1.contains j))) (drefsL (first ++ args ++ caps)) (a.2.1 ++ (drefsL (first ++ args ++ caps)).filter fun j => !a.2.1.contains j)
      else none)
  | .clo as q φ => (lendHD get args as).bind fun h => chkA h.2 ((φ h.1).bind fun y =>
      if scalC q then k (.c q y) [] (drefsL args) [] else k (.c q y) (goneD (drefsL args)) (drefsL args) (drefsL args))
  | _ => none

/-- Any operation; those of 'fz' make data of their own operands. -/
def anyD (fz : List Nat) (T : Tab) (code : TypeId → Option (CT X.ι)) (i : Nat) (o : Op) (ρ : Operand → DV X) (get : Nat → Option (DObj X)) (k : KK X A) : Option A :=
  match o with
  | .call { callee := .value f, args := args, argTypes := _ } => callD Γ i (ρ f) (args.toList.map ρ) get k
  | o => if isExt o ρ then extD T code i o ρ get k else if isFrz o ρ || fz.contains i then frzD T code i o ρ get k else if isArr T o ρ then arrD T code o ρ get k else opD T code i o ρ get k

variable {Γ}
theorem lendHD_sound {P : Program} {get : Nat → Option (DObj X)} {rd : List Nat} : ∀ {ds : List (DV X)} {l : List (CT X.ι)} {h : HL X.toSE l × List Bool}, lendHD get ds l = some h → (∀ b ∈ h.2, b = true) → (∀ j ∈ drefsL ds, j ∈ rd) →
    ∃ hs obs, (∀ p ∈ obs, p) ∧ ∀ rest, lendL P (restr rd (aget get)) (denL ds) (hs ++ rest) = some ((HL.tvs X.toSE l h.1).map TV.av, rest, obs)
  | [], [], h, _, _, _ => ⟨[], [], by simp, fun rest => rfl⟩
  | d :: ds, c :: l, h, hr, hc, hrd => by
    simp only [lendHD] at hr
    rw [Option.bind_eq_some_iff] at hr; obtain ⟨x, h1, hr⟩ := hr
    rw [Option.bind_eq_some_iff] at hr; obtain ⟨g, h2, hr⟩ := hr
    injection hr with hr
    subst hr
    obtain ⟨hs1, o1, p1, q1⟩ := lendD_sound (P := P) (rd := rd) h1 (fun b hb => hc b (by simp [hb])) (fun j hj => hrd j (by simp [drefsL, hj]))
    obtain ⟨hs2, o2, p2, q2⟩ := lendHD_sound (P := P) (rd := rd) h2 (fun b hb => hc b (by simp [hb])) (fun j hj => hrd j (by simp [drefsL, hj]))
    refine ⟨hs1 ++ hs2, o1 ++ o2, all_app p1 p2, fun rest => ?_⟩
    simp only [denL, lendL, List.append_assoc, q1, Option.bind_some, q2]
    rfl
  | [], _ :: _, _, hr, _, _ => by simp [lendHD] at hr
  | _ :: _, [], _, hr, _, _ => by simp [lendHD] at hr

theorem impC1_keys {i : Nat} {ids ns : List Nat} {q : RT X.ι} {x : RT.T X q} : ∀ p ∈ (impC1 i ids ns q x).2, p.1 = nid i := by
  cases q <;> simp [impC1]
theorem impLD_keys {i : Nat} {ids ns : List Nat} : ∀ {l : List (RT X.ι)} {x : ResT X l} {p : List (DV X) × List (Nat × Option (DObj X))}, impLD i ids ns l x = some p → ∀ q ∈ p.2, q.1 = nid i
  | [], _, p, h => by simp only [impLD, Option.some.injEq] at h; subst h; simp
  | [q], x, p, h => by simp only [impLD, Option.some.injEq] at h; subst h; exact impC1_keys
  | q :: q' :: l, x, p, h => by
    simp only [impLD] at h
    rw [Option.bind_eq_some_iff] at h; obtain ⟨p', h1, h⟩ := h
    split at h
    · injection h with h
      subst h
      intro z hz
      rcases List.mem_append.1 hz with hz | hz
      · exact impC1_keys z hz
      · exact impLD_keys h1 z hz
    · cases h
theorem impD_keys {i : Nat} {ids : List Nat} {l : List (RT X.ι)} {x : ResT X l} {p : DV X × List (Nat × Option (DObj X))} (h : impD i ids l x = some p) : ∀ q ∈ p.2, q.1 = nid i := by
  unfold impD at h
  rw [Option.bind_eq_some_iff] at h; obtain ⟨p', h1, h⟩ := h
  injection h with h; subst h; exact impLD_keys h1

theorem lendW1_of {P : Program} {get : Nat → Option AObj} {ids : List Nat} {x : AV} {hs : List LH} {p : AV × List LH × List Prop} (h : lend P get x hs = some p) (hr : ∀ k ∈ refs x, k ∉ ids) : lendW1 P get ids x hs = some p := by
  unfold lendW1
  split
  · simp [lend] at h
  · simp [lend] at h
  · rw [if_pos]
    · exact h
    · simp only [List.all_eq_true, Bool.not_eq_true', List.contains_eq_mem, decide_eq_false_iff_not]
      exact hr

theorem lend_single {P : Program} {get : Nat → Option AObj} {x : AV} {hs rest : List LH} {y : AV} {o : List Prop} (h : lendL P get [x] hs = some ([y], rest, o)) : lend P get x hs = some (y, rest, o) := by
  simp only [lendL, Option.bind_some, List.append_nil, Option.bind_eq_some_iff, Option.some.injEq, Prod.mk.injEq, List.cons.injEq, and_true] at h
  obtain ⟨q, h1, h2, h3, h4⟩ := h
  rw [h1, ← h2, ← h3, ← h4]

theorem nonRefs_mem {d : DV X} {ds : List (DV X)} {a : AT X.ι} {l : List (AT X.ι)} {P : Nat → Prop} (h : ∀ j ∈ nonRefs (d :: ds) (a :: l), P j) : (a.im = false → ∀ j ∈ drefs d, P j) ∧ ∀ j ∈ nonRefs ds l, P j := by
  simp only [nonRefs, List.mem_append] at h
  exact ⟨fun e j hj => h j (.inl (by rw [e]; simpa using hj)), fun j hj => h j (.inr hj)⟩

theorem mutRow {c : CT X.ι} {l : List (CT.T X.toSE c)} : wkRows ((avRows (l.map (CT.row X.toSE c))).take (l.map (CT.row X.toSE c)).length) = avRows (l.map (CT.row X.toSE c)) := by
  rw [List.take_of_length_le (by simp [avRows])]
  simp only [wkRows, avRows, List.map_map]
  exact List.map_congr_left fun y _ => by
    simp only [Function.comp, List.map_map]
    exact List.map_congr_left fun z _ => rfl

theorem lendMut_sound {get : Nat → Option (DObj X)} {d : DV X} {c : CT X.ι} {x : List (CT.T X.toSE c) × Nat × List Bool} (h : lendMut get d c = some x) (hc : ∀ b ∈ x.2.2, b = true) :
    d = .own x.2.1 0 (List.length x.1) ∧ ∃ o, get x.2.1 = some o ∧ (denO o).sz = (mutR c x.1).1 ∧ wkRows ((denO o).rows.take (mutR c x.1).2.length) = avRows (mutR c x.1).2 := by
  unfold lendMut at h
  split at h
  · rename_i k len
    rw [Option.bind_eq_some_iff] at h; obtain ⟨o, h1, h⟩ := h
    split at h
    · rename_i b l
      rw [Option.bind_eq_some_iff] at h; obtain ⟨l', h2, h⟩ := h
      injection h with h
      subst h
      obtain ⟨h3, h4⟩ := castL_den h2
      have h5 : len = List.length l' := by simpa [eqL] using hc (eqL len (List.length l')) (by simp)
      refine ⟨by rw [h5], .lst b l, h1, by simp only [denO, mutR]; exact h3, ?_⟩
      simp only [denO, mutR, h4]
      exact mutRow
    · cases h
  · cases h

theorem lendMref_sound {get : Nat → Option (DObj X)} {d : DV X} {c : CT X.ι} {x : CT.T X.toSE c × Nat} (h : lendMref get d c = some x) :
    d = .ptr x.2 0 0 ∧ ∃ o, get x.2 = some o ∧ (denO o).sz = (mutR c [x.1]).1 ∧ wkRows ((denO o).rows.take (mutR c [x.1]).2.length) = avRows (mutR c [x.1]).2 := by
  unfold lendMref at h
  split at h
  · rename_i k
    rw [Option.bind_eq_some_iff] at h; obtain ⟨o, h1, h⟩ := h
    split at h
    · rename_i sz row
      split at h
      · rename_i hsz
        rw [Option.bind_eq_some_iff] at h; obtain ⟨y, h2, h⟩ := h
        injection h with h
        subst h
        refine ⟨rfl, _, h1, by simp only [denO, mutR]; exact hsz, ?_⟩
        simp only [denO, mutR, List.map_cons, List.map_nil, List.length_singleton, List.take_succ_cons, List.take_zero, wkRows, avRows]
        rw [mkRow_den h2]
      · cases h
    · cases h
  · cases h

theorem lendAW_sound {P : Program} {Γ : FuncId → Option (Sig X)} (hΓ : GOk P Γ) {get : Nat → Option (DObj X)} {rd ids : List Nat} : ∀ {n : Nat} {ds : List (DV X)} {l : List (AT X.ι)} {a : ArgsT X l × List Nat × List Bool}, lendAW Γ get ds l = some a → (∀ b ∈ a.2.2, b = true) → (∀ j ∈ drefsL ds, j ∈ rd) → (∀ j ∈ nonRefs ds l, j ∉ ids) → ids.drop n = a.2.1 →
    (∃ hs obs, (∀ p ∈ obs, p) ∧ ∀ rest, lendLW P (restr rd (aget get)) ids (denL ds) (hs ++ rest) = some (argAVn n l a.1, rest, obs)) ∧ ∃ mo, mutObs (restr rd (aget get)) a.2.1 (objA l a.1) = some mo ∧ ∀ p ∈ mo, p
  | n, [], [], a, h, _, _, _, _ => by
    simp only [lendAW, Option.some.injEq] at h
    subst h
    exact ⟨⟨[], [], by simp, fun rest => rfl⟩, [], rfl, by simp⟩
  | n, d :: ds, .mut c :: l, a, h, hc, hrd, hnr, hid => by
    simp only [lendAW] at h
    rw [Option.bind_eq_some_iff] at h; obtain ⟨x, h1, h⟩ := h
    rw [Option.bind_eq_some_iff] at h; obtain ⟨q, h2, h⟩ := h
    injection h with h
    subst h
    obtain ⟨rfl, o, g1, g2, g3⟩ := lendMut_sound h1 (fun b hb => hc b (by simp [hb]))
    have hidn : ids[n]? = some x.2.1 := by rw [← List.head?_drop, hid]; rfl
    have hid' : ids.drop (n + 1) = q.2.1 := by rw [← List.tail_drop, hid]; rfl
    obtain ⟨⟨hs, obs, p1, p2⟩, mo, m1, m2⟩ := lendAW_sound hΓ (n := n + 1) h2 (fun b hb => hc b (by simp [hb])) (fun j hj => hrd j (by simp [drefsL, hj])) (nonRefs_mem hnr).2 hid'
    refine ⟨⟨.mut n :: hs, obs, p1, fun rest => ?_⟩, ((denO o).sz = (mutR c x.1).1 ∧ wkRows ((denO o).rows.take (mutR c x.1).2.length) = avRows (mutR c x.1).2) :: mo, ?_, ?_⟩
    · simp only [denL, den, lendLW, List.cons_append, lendW1, hidn, if_true, Option.bind_some, p2, argAVn, List.nil_append]
    · simp only [objA, mutObs, restr_get (hrd x.2.1 (by simp [drefsL, drefs])) g1, Option.bind_some, m1]
    · intro p hp
      rcases List.mem_cons.1 hp with rfl | hp
      · exact ⟨g2, g3⟩
      · exact m2 p hp
  | n, d :: ds, .mref c :: l, a, h, hc, hrd, hnr, hid => by
    simp only [lendAW] at h
    rw [Option.bind_eq_some_iff] at h; obtain ⟨x, h1, h⟩ := h
    rw [Option.bind_eq_some_iff] at h; obtain ⟨q, h2, h⟩ := h
    injection h with h
    subst h
    obtain ⟨rfl, o, g1, g2, g3⟩ := lendMref_sound h1
    have hidn : ids[n]? = some x.2 := by rw [← List.head?_drop, hid]; rfl
    have hid' : ids.drop (n + 1) = q.2.1 := by rw [← List.tail_drop, hid]; rfl
    obtain ⟨⟨hs, obs, p1, p2⟩, mo, m1, m2⟩ := lendAW_sound hΓ (n := n + 1) h2 (fun b hb => hc b (by simp [hb])) (fun j hj => hrd j (by simp [drefsL, hj])) (nonRefs_mem hnr).2 hid'
    refine ⟨⟨.mut n :: hs, obs, p1, fun rest => ?_⟩, ((denO o).sz = (mutR c [x.1]).1 ∧ wkRows ((denO o).rows.take (mutR c [x.1]).2.length) = avRows (mutR c [x.1]).2) :: mo, ?_, ?_⟩
    · simp only [denL, den, lendLW, List.cons_append, lendW1, hidn, if_true, Option.bind_some, p2, argAVn, List.nil_append]
    · simp only [objA, mutObs, restr_get (hrd x.2 (by simp [drefsL, drefs])) g1, Option.bind_some, m1]
    · intro p hp
      rcases List.mem_cons.1 hp with rfl | hp
      · exact ⟨g2, g3⟩
      · exact m2 p hp
  | n, d :: ds, .d c :: l, a, h, hc, hrd, hnr, hid => by
    simp only [lendAW] at h
    rw [Option.bind_eq_some_iff] at h; obtain ⟨x, h1, h⟩ := h
    rw [Option.bind_eq_some_iff] at h; obtain ⟨q, h2, h⟩ := h
    injection h with h
    subst h
    obtain ⟨hs1, o1, p1, q1⟩ := lendA_sound (P := P) hΓ 3 (n := n) h1 (fun b hb => hc b (by simp [hb])) (rd := rd) (fun j hj => hrd j (by simp only [drefsL, List.append_nil] at hj; simp [drefsL, hj]))
    obtain ⟨⟨hs, obs, p2, q2⟩, mo, m1, m2⟩ := lendAW_sound hΓ (n := n) h2 (fun b hb => hc b (by simp [hb])) (fun j hj => hrd j (by simp [drefsL, hj])) (nonRefs_mem hnr).2 hid
    refine ⟨⟨hs1 ++ hs, o1 ++ obs, all_app p1 p2, fun rest => ?_⟩, mo, m1, m2⟩
    have := lendW1_of (lend_single (q1 (hs ++ rest))) (fun k hk => (nonRefs_mem hnr).1 rfl k (by rwa [drefs_den] at hk))
    simp only [denL, lendLW, List.append_assoc, this, Option.bind_some, q2, argAVn]
  | n, d :: ds, .ref c :: l, a, h, hc, hrd, hnr, hid => by
    simp only [lendAW] at h
    rw [Option.bind_eq_some_iff] at h; obtain ⟨x, h1, h⟩ := h
    rw [Option.bind_eq_some_iff] at h; obtain ⟨q, h2, h⟩ := h
    injection h with h
    subst h
    obtain ⟨hs1, o1, p1, q1⟩ := lendA_sound (P := P) hΓ 3 (n := n) h1 (fun b hb => hc b (by simp [hb])) (rd := rd) (fun j hj => hrd j (by simp only [drefsL, List.append_nil] at hj; simp [drefsL, hj]))
    obtain ⟨⟨hs, obs, p2, q2⟩, mo, m1, m2⟩ := lendAW_sound hΓ (n := n) h2 (fun b hb => hc b (by simp [hb])) (fun j hj => hrd j (by simp [drefsL, hj])) (nonRefs_mem hnr).2 hid
    refine ⟨⟨hs1 ++ hs, o1 ++ obs, all_app p1 p2, fun rest => ?_⟩, mo, m1, m2⟩
    have := lendW1_of (lend_single (q1 (hs ++ rest))) (fun k hk => (nonRefs_mem hnr).1 rfl k (by rwa [drefs_den] at hk))
    simp only [denL, lendLW, List.append_assoc, this, Option.bind_some, q2, argAVn]
  | n, d :: ds, .clo as r :: l, a, h, hc, hrd, hnr, hid => by
    simp only [lendAW] at h
    rw [Option.bind_eq_some_iff] at h; obtain ⟨x, h1, h⟩ := h
    rw [Option.bind_eq_some_iff] at h; obtain ⟨q, h2, h⟩ := h
    injection h with h
    subst h
    obtain ⟨hs1, o1, p1, q1⟩ := lendA_sound (P := P) hΓ 3 (n := n) h1 (fun b hb => hc b (by simp [hb])) (rd := rd) (fun j hj => hrd j (by simp only [drefsL, List.append_nil] at hj; simp [drefsL, hj]))
    obtain ⟨⟨hs, obs, p2, q2⟩, mo, m1, m2⟩ := lendAW_sound hΓ (n := n) h2 (fun b hb => hc b (by simp [hb])) (fun j hj => hrd j (by simp [drefsL, hj])) (nonRefs_mem hnr).2 hid
    refine ⟨⟨hs1 ++ hs, o1 ++ obs, all_app p1 p2, fun rest => ?_⟩, mo, m1, m2⟩
    have := lendW1_of (lend_single (q1 (hs ++ rest))) (fun k hk => (nonRefs_mem hnr).1 rfl k (by rwa [drefs_den] at hk))
    simp only [denL, lendLW, List.append_assoc, this, Option.bind_some, q2, argAVn]
  | n, d :: ds, .nil :: l, a, h, hc, hrd, hnr, hid => by
    simp only [lendAW] at h
    split at h
    · rw [Option.bind_eq_some_iff] at h; obtain ⟨q, h2, h⟩ := h
      injection h with h
      subst h
      obtain ⟨⟨hs, obs, p2, q2⟩, mo, m1, m2⟩ := lendAW_sound hΓ (n := n) h2 hc (fun j hj => hrd j (by simp [drefsL, hj])) (nonRefs_mem hnr).2 hid
      refine ⟨⟨.nil :: hs, obs, p2, fun rest => ?_⟩, mo, m1, m2⟩
      have := lendW1_of (P := P) (get := restr rd (aget get)) (ids := ids) (x := .nilsl) (hs := .nil :: (hs ++ rest)) (p := (.nilsl, hs ++ rest, [])) rfl (fun k hk => by simp [refs] at hk)
      simp only [denL, den, lendLW, List.cons_append, this, Option.bind_some, q2, argAVn, List.nil_append]
    · cases h
  | _, [], _ :: _, _, h, _, _, _, _ => by simp [lendAW] at h
  | _, _ :: _, [], _, h, _, _, _, _ => by simp [lendAW] at h

theorem callD_sound {P : Program} (hΓ : GOk P Γ) {i : Nat} {f : DV X} {args : List (DV X)} {get : Nat → Option (DObj X)} {k : KK X A} {r : A} (h : callD Γ i f args get k = some r) :
    ∃ orc rd wr dv upd out, absCallX P i (den f) (denL args) orc (restr rd (aget get)) = some out ∧ AllP out.obs ∧ out.v = den dv ∧ out.upd = denU upd ∧ (∀ p ∈ upd, p.1 = nid i ∨ p.1 ∈ wr) ∧ k dv upd rd wr = some r := by
  unfold callD at h
  split at h
  · rename_i F first caps
    rw [Option.bind_eq_some_iff] at h; obtain ⟨s, h1, h⟩ := h
    split at h
    · rename_i hpure
      rw [Option.bind_eq_some_iff] at h; obtain ⟨⟨a, cs⟩, h2, h⟩ := h
      obtain ⟨hcs, h⟩ := chkA_some h
      rw [Option.bind_eq_some_iff] at h; obtain ⟨x, h3, h⟩ := h
      rw [Option.bind_eq_some_iff] at h; obtain ⟨p, h4, h⟩ := h
      have hf0 := (hΓ F s h1).2 a x h3
      simp only [Bool.and_eq_true] at hpure
      rw [objA_nil (pl_im hpure.1), objR_nil hpure.2] at hf0
      have hf := fnP_of_W hf0
      have hi := impD_den h4
      have hk := impD_keys h4
      obtain ⟨hs, obs, g1, g2⟩ := lendA_sound (P := P) hΓ 3 h2 hcs (rd := drefsL (first ++ args ++ caps)) (fun j hj => hj)
      have g3 := g2 []
      rw [List.append_nil, denL_append, denL_append] at g3
      have hrefs : refsL (denL first ++ denL args ++ denL caps) = drefsL (first ++ args ++ caps) := by
        rw [← denL_append, ← denL_append, drefsL_den]
      split at h
      · rename_i hfl
        refine ⟨.call hs (resRV s.res x) true, _, [], p.1, p.2, ⟨den p.1, denU p.2, obs ++ [FnP P F (argAV s.args a) (resRV s.res x), (resRV s.res x).flat]⟩, ?_, ?_, rfl, rfl, fun q hq => .inl (hk q hq), h⟩
        · simp only [den, absCallX, absCall, hi, Option.bind_some, g3]; rfl
        · exact AllP_of _ (all_app g1 (by
            intro q hq
            simp only [List.mem_cons, List.not_mem_nil, or_false] at hq
            rcases hq with rfl | rfl
            · exact hf
            · exact resRV_flat x hfl))
      · refine ⟨.call hs (resRV s.res x) false, _, _, p.1, _, ⟨den p.1, denU p.2 ++ (drefsL (first ++ args ++ caps)).map (fun k => (k, none)), obs ++ [FnP P F (argAV s.args a) (resRV s.res x)]⟩, ?_, ?_, rfl, ?_, ?_, h⟩
        · simp only [den, absCallX, absCall, hi, Option.bind_some, g3, hrefs]; rfl
        · exact AllP_of _ (all_app g1 (by
            intro q hq
            simp only [List.mem_singleton] at hq
            subst hq
            exact hf))
        · simp only [denU_append, goneD_den]
        · intro q hq
          rcases List.mem_append.1 hq with hq | hq
          · exact .inl (hk q hq)
          · exact .inr (goneD_mem hq)
    · rename_i hpure
      rw [Option.bind_eq_some_iff] at h; obtain ⟨⟨a, ids, cs⟩, h2, h⟩ := h
      obtain ⟨hcs, h⟩ := chkA_some h
      rw [Option.bind_eq_some_iff] at h; obtain ⟨x, h3, h⟩ := h
      rw [Option.bind_eq_some_iff] at h; obtain ⟨p, h4, h⟩ := h
      split at h
      · rename_i hc
        simp only [Bool.and_eq_true, decide_eq_true_eq] at hc
        obtain ⟨⟨hnd, hnr⟩, hlen⟩ := hc
        have hf := (hΓ F s h1).2 a x h3
        have hi := impD_den h4
        have hk := impD_keys h4
        obtain ⟨⟨hs, obs, g1, g2⟩, mo, m1, m2⟩ := lendAW_sound (P := P) hΓ (rd := drefsL (first ++ args ++ caps)) (ids := ids) (n := 0) h2 hcs (fun j hj => hj) (fun j hj => by simpa using List.all_eq_true.1 hnr j hj) rfl
        have g3 := g2 []
        rw [List.append_nil, denL_append, denL_append] at g3
        have hrefs : refsL (denL first ++ denL args ++ denL caps) = drefsL (first ++ args ++ caps) := by
          rw [← denL_append, ← denL_append, drefsL_den]
        have hlen' : (objR s.res x).length = ids.length := by
          rw [← hlen]
          simpa using (congrArg List.length (outDs_den s.res x)).symm
        have hout : denU (outUD ids (outDs s.res x)) = outU ids (objR s.res x) := outUD_den _ _ _ (outDs_den s.res x)
        split at h
        · rename_i hfl
          refine ⟨.callw ids (objA s.args a) (objR s.res x) hs (resRV s.res x) true, _, ids, p.1, _, ⟨den p.1, denU p.2 ++ outU ids (objR s.res x), obs ++ mo ++ [FnW P F (argAV s.args a) (objA s.args a) (objR s.res x) (resRV s.res x), (resRV s.res x).flat, flatO (objR s.res x)]⟩, ?_, ?_, rfl, ?_, ?_, h⟩
          · simp only [den, absCallX, absCallW, hi, Option.bind_some, m1, g3]
            rw [if_pos ⟨hnd, hlen'⟩]
            rfl
          · refine AllP_of _ (all_app (all_app g1 m2) ?_)
            intro q hq
            simp only [List.mem_cons, List.not_mem_nil, or_false] at hq
            rcases hq with rfl | rfl | rfl
            · exact hf
            · exact resRV_flat x hfl
            · exact objR_flat hfl
          · simp only [denU_append, hout]
          · intro q hq
            rcases List.mem_append.1 hq with hq | hq
            · exact .inl (hk q hq)
            · exact .inr (outUD_keys hq)
        · refine ⟨.callw ids (objA s.args a) (objR s.res x) hs (resRV s.res x) false, _, _, p.1, _, ⟨den p.1, denU p.2 ++ (outU ids (objR s.res x) ++ ((drefsL (first ++ args ++ caps)).filter fun j => !ids.contains j).map (fun k => (k, none))), obs ++ mo ++ [FnW P F (argAV s.args a) (objA s.args a) (objR s.res x) (resRV s.res x)]⟩, ?_, ?_, rfl, ?_, ?_, h⟩
          · simp only [den, absCallX, absCallW, hi, Option.bind_some, m1, g3, lidsOf, hrefs]
            rw [if_pos ⟨hnd, hlen'⟩]
            rfl
          · refine AllP_of _ (all_app (all_app g1 m2) ?_)
            intro q hq
            simp only [List.mem_singleton] at hq
            subst hq
            exact hf
          · simp only [denU_append, hout, goneD_den]
          · intro q hq
            rcases List.mem_append.1 hq with hq | hq
            · exact .inl (hk q hq)
            · rcases List.mem_append.1 hq with hq | hq
              · exact .inr (List.mem_append_left _ (outUD_keys hq))
              · exact .inr (List.mem_append_right _ (goneD_mem hq))
      · cases h
  · rename_i as q φ
    rw [Option.bind_eq_some_iff] at h; obtain ⟨⟨hh, cs⟩, h1, h⟩ := h
    obtain ⟨hcs, h⟩ := chkA_some h
    rw [Option.bind_eq_some_iff] at h; obtain ⟨y, h2, h⟩ := h
    obtain ⟨hs, obs, g1, g2⟩ := lendHD_sound (P := P) h1 hcs (rd := drefsL args) (fun j hj => hj)
    have g3 := g2 []
    rw [List.append_nil] at g3
    have hφ : ∃ h' x', φ h' = some x' ∧ HL.tvs X.toSE as hh = HL.tvs X.toSE as h' ∧ CT.tv X.toSE q y = CT.tv X.toSE q x' := ⟨hh, y, h2, rfl, rfl⟩
    split at h
    · rename_i hfl
      refine ⟨.cclo hs (HL.tvs X.toSE as hh) (CT.tv X.toSE q y) true, _, [], .c q y, [], ⟨(CT.tv X.toSE q y).av, [], obs ++ [(HL.tvs X.toSE as hh).map TV.av = (HL.tvs X.toSE as hh).map TV.av, (∃ h' x', φ h' = some x' ∧ HL.tvs X.toSE as hh = HL.tvs X.toSE as h' ∧ CT.tv X.toSE q y = CT.tv X.toSE q x'), (CT.tv X.toSE q y).flat]⟩, ?_, ?_, rfl, rfl, by simp, h⟩
      · simp only [den, absCallX, absCall, g3, Option.bind_some]; rfl
      · exact AllP_of _ (all_app g1 (by
          intro z hz
          simp only [List.mem_cons, List.not_mem_nil, or_false] at hz
          rcases hz with rfl | rfl | rfl
          · trivial
          · exact hφ
          · exact scalC_tv hfl y))
    · refine ⟨.cclo hs (HL.tvs X.toSE as hh) (CT.tv X.toSE q y) false, _, _, .c q y, _, ⟨(CT.tv X.toSE q y).av, (drefsL args).map (fun k => (k, none)), obs ++ [(HL.tvs X.toSE as hh).map TV.av = (HL.tvs X.toSE as hh).map TV.av, (∃ h' x', φ h' = some x' ∧ HL.tvs X.toSE as hh = HL.tvs X.toSE as h' ∧ CT.tv X.toSE q y = CT.tv X.toSE q x')]⟩, ?_, ?_, rfl, (goneD_den _).symm, fun z hz => .inr (goneD_mem hz), h⟩
      · simp only [den, absCallX, absCall, g3, Option.bind_some, drefsL_den]; rfl
      · exact AllP_of _ (all_app g1 (by
          intro z hz
          simp only [List.mem_cons, List.not_mem_nil, or_false] at hz
          rcases hz with rfl | rfl
          · trivial
          · exact hφ))
  · cases h

/-- What any operation has come to. -/
theorem anyD_sound {P : Program} (hΓ : GOk P Γ) {fz : List Nat} {T : Tab} {code : TypeId → Option (CT X.ι)} {i : Nat} {o : Oper} {ρ : Operand → DV X} {get : Nat → Option (DObj X)} {k : KK X A} {r : A} (h : anyD Γ fz T code i o.op ρ get k = some r) : SdAny P T i o ρ get k r := by
  obtain ⟨dst, op, ty, pos, after, guard⟩ := o
  unfold anyD at h
  simp only at h
  split at h
  · rename_i f args tys
    have := callD_sound hΓ h
    simp only [← map_den] at this
    obtain ⟨orc, rd, wr, dv, upd, out, g1, g2⟩ := this
    exact .call g1 g2
  · split at h
    · exact extD_sound (o := ⟨dst, op, ty, pos, after, guard⟩) h
    · split at h
      · exact frzD_sound (o := ⟨dst, op, ty, pos, after, guard⟩) h
      · split at h
        · exact arrD_sound (o := ⟨dst, op, ty, pos, after, guard⟩) h
        · rename_i hne _ _ _
          obtain ⟨orc, rd, wr, dv, upd, out, g1, g2⟩ := opD_sound (o := ⟨dst, op, ty, pos, after, guard⟩) h
          exact SdAny.op (fun f args tys e => hne f args tys e) g1 g2
end
end Go.Gb

namespace Go.Gb
open Go.RowKit

mutual
def rnA (f : Nat → Nat) : AV → AV
  | .own k off len => .own (f k) off len
  | .ptr k row off => .ptr (f k) row off
  | .agg cs => .agg (rnAL f cs)
  | .tup cs => .tup (rnAL f cs)
  | .fn F first caps => .fn F (rnAL f first) (rnAL f caps)
  | .t x => .t x
  | .rptr r o => .rptr r o
  | .clo φ => .clo φ
  | .nilsl => .nilsl
  | .ub => .ub
  | .undef => .undef
def rnAL (f : Nat → Nat) : List AV → List AV
  | [] => []
  | x :: xs => rnA f x :: rnAL f xs
end

/-- y says no more than x. -/
def Wkn (x y : AV) : Prop := ∀ P β w I v, VR P β w I x v → VR P β w I y v

theorem Wkn.refl (x : AV) : Wkn x x := fun _ _ _ _ _ h => h
theorem Wkn.undef (x : AV) : Wkn x .undef := fun _ _ _ _ _ _ => by simp [VR]
theorem Wkn.wk (x : AV) : Wkn x (wk x) := fun _ _ _ _ _ h => h.wk

section
variable {P : Program} {w0 : World} {O0 : Was} {N : Nat} {β : Nat → Option Blk} {I : Nat → Prop} {a : Act} {w : World} {f g : Nat → Nat} {D : Nat → Prop}

mutual
theorem VR.rn (hgf : ∀ k, D k → g (f k) = k) : ∀ (x : AV) (v : Value), (∀ k ∈ refs x, D k) → VR P β w I x v → VR P (fun j => β (g j)) w I (rnA f x) v
  | .own k off len, v, hd, h => by
    simp only [rnA, VR, hgf k (hd k (by simp [refs]))] at h ⊢; exact h
  | .ptr k row off, v, hd, h => by
    simp only [rnA, VR, hgf k (hd k (by simp [refs]))] at h ⊢; exact h
  | .agg cs, v, hd, h => by
    simp only [rnA, VR] at h ⊢
    obtain ⟨vs, h1, h2⟩ := h
    exact ⟨vs, h1, VRl.rn hgf cs _ (by simpa [refs] using hd) h2⟩
  | .tup cs, v, hd, h => by
    simp only [rnA, VR] at h ⊢
    obtain ⟨vs, h1, h2⟩ := h
    exact ⟨vs, h1, VRl.rn hgf cs _ (by simpa [refs] using hd) h2⟩
  | .fn F first caps, v, hd, h => by
    simp only [rnA, VR] at h ⊢
    obtain ⟨fs, cs, h1, h2, h3⟩ := h
    exact ⟨fs, cs, h1, VRl.rn hgf first _ (fun k hk => hd k (by simp [refs, hk])) h2, VRl.rn hgf caps _ (fun k hk => hd k (by simp [refs, hk])) h3⟩
  | .t x, v, _, h => by simpa [rnA, VR] using h
  | .rptr r o, v, _, h => by simpa [rnA, VR] using h
  | .clo φ, v, _, h => by simpa [rnA, VR] using h
  | .nilsl, v, _, h => by simpa [rnA, VR] using h
  | .ub, v, _, h => by simpa [rnA, VR] using h
  | .undef, v, _, h => by simp [rnA, VR]
theorem VRl.rn (hgf : ∀ k, D k → g (f k) = k) : ∀ (xs : List AV) (vs : List Value), (∀ k ∈ refsL xs, D k) → VRl P β w I xs vs → VRl P (fun j => β (g j)) w I (rnAL f xs) vs
  | [], [], _, _ => by simp [rnAL, VRl]
  | x :: xs, v :: vs, hd, h => by
    simp only [VRl] at h
    simp only [rnAL, VRl]
    exact ⟨VR.rn hgf x v (fun k hk => hd k (by simp [refsL, hk])) h.1, VRl.rn hgf xs vs (fun k hk => hd k (by simp [refsL, hk])) h.2⟩
  | [], _ :: _, _, h => by simp [VRl] at h
  | _ :: _, [], _, h => by simp [VRl] at h
end

/-- Rows told with less, under other names. -/
def RowW (D : Nat → Prop) (f : Nat → Nat) : List AV → List AV → Prop
  | [], [] => True
  | x :: xs, y :: ys => ((∀ k ∈ refs x, D k) ∧ Wkn (rnA f x) y) ∧ RowW D f xs ys
  | _, _ => False
def RowsW (D : Nat → Prop) (f : Nat → Nat) : List (List AV) → List (List AV) → Prop
  | [], [] => True
  | r :: rs, q :: qs => RowW D f r q ∧ RowsW D f rs qs
  | _, _ => False

theorem RowW.length : ∀ {r q : List AV}, RowW D f r q → q.length = r.length
  | [], [], _ => rfl
  | _ :: xs, _ :: ys, h => by simp [RowW.length h.2]
  | [], _ :: _, h => h.elim
  | _ :: _, [], h => h.elim

theorem ORow.re (hgf : ∀ k, D k → g (f k) = k) : ∀ {r q : List AV} {c : Array Value} {off : Nat}, RowW D f r q → ORow P β w I r c off → ORow P (fun j => β (g j)) w I q c off
  | [], [], _, _, _, _ => trivial
  | x :: xs, y :: ys, c, off, hr, ⟨⟨v, h1, h2, h3⟩, h4⟩ => ⟨⟨v, h1, hr.1.2 _ _ _ _ _ (VR.rn hgf x v hr.1.1 h2), h3⟩, ORow.re hgf hr.2 h4⟩
  | [], _ :: _, _, _, h, _ => h.elim
  | _ :: _, [], _, _, h, _ => h.elim

theorem ORows.re (hgf : ∀ k, D k → g (f k) = k) : ∀ {rs qs : List (List AV)} {c : Array Value} {off sz : Nat}, RowsW D f rs qs → ORows P β w I rs c off sz → ORows P (fun j => β (g j)) w I qs c off sz
  | [], [], _, _, _, _, _ => trivial
  | r :: rs, q :: qs, c, off, sz, hr, ⟨h1, h2, h3⟩ => ⟨by rw [hr.1.length]; exact h1, ORow.re hgf hr.1 h2, ORows.re hgf hr.2 h3⟩
  | [], _ :: _, _, _, _, h, _ => h.elim
  | _ :: _, [], _, _, _, h, _ => h.elim

theorem Rel.re {s s' : St} (hgf : ∀ k, D k → g (f k) = k) (hg : ∀ j, j < 1000 → g j = j) (hr : Rel P w0 O0 N β I s a w) (hok : ∀ t, s.ok t = none ∨ s'.env t = .undef) (hok' : ∀ t, s'.ok t = none)
    (hE : ∀ t, s'.env t = .undef ∨ ((∀ k ∈ refs (s.env t), D k) ∧ Wkn (rnA f (s.env t)) (s'.env t)))
    (hO : ∀ j o', s'.obj j = some o' → ∃ k o, s.obj k = some o ∧ D k ∧ f k = j ∧ o'.sz = o.sz ∧ RowsW D f o.rows o'.rows) : Rel P w0 O0 N (fun j => β (g j)) I s' a w := by
  refine ⟨hr.defers, hr.size, fun t => ?_, ?_⟩
  · have h1 := hr.env t
    rw [hok' t]
    rcases hok t with hk | h
    rotate_left
    · rw [h]; simp [SlotR, VR]
    rw [hk] at h1
    rcases hE t with h | ⟨h2, h3⟩
    · rw [h]; simp [SlotR, VR]
    · exact h3 _ _ _ _ _ (VR.rn hgf _ _ h2 h1)
  · have hm := hr.mem
    constructor
    · intro j o' hj
      obtain ⟨k, o, h1, h2, rfl, h4, h5⟩ := hO j o' hj
      obtain ⟨B, hB, hOR⟩ := hm.objs k o h1
      refine ⟨B, by simp only [hgf k h2]; exact hB, ?_⟩
      cases B with
      | none =>
        simp only [OR] at hOR ⊢
        rw [hOR] at h5
        cases ho : o'.rows with
        | nil => rfl
        | cons => rw [ho] at h5; exact h5.elim
      | «at» b sz n =>
        obtain ⟨g1, c, e, g2, g3, g4⟩ := hOR
        exact ⟨by rw [g1, h4], c, e, g2, g3, ORows.re hgf h5 g4⟩
    · intro j j' o o' b s0 n s1 n' h1 h2 h3 h4
      obtain ⟨k, q, i1, i2, rfl, _⟩ := hO j o h1
      obtain ⟨k', q', i1', i2', rfl, _⟩ := hO j' o' h2
      simp only [hgf k i2, hgf k' i2'] at h3 h4
      rw [hm.inj k k' q q' b s0 n s1 n' i1 i1' h3 h4]
    · intro j o b s0 n h1 h2
      obtain ⟨k, q, i1, i2, rfl, _⟩ := hO j o h1
      simp only [hgf k i2] at h2
      exact hm.own k q b s0 n i1 h2
    · exact hm.lt
    · exact hm.up
    · exact hm.keep
    · exact hm.le
    · exact hm.os
    · exact hm.tape
    · exact hm.output
    · intro j B hj; show β (g j) = some B; rw [hg j (O0.lt j B hj)]; exact hm.anch j B hj
end

section
variable {X : SX}
mutual
def rnD (f : Nat → Nat) : DV X → DV X
  | .own k off len => .own (f k) off len
  | .ptr k row off => .ptr (f k) row off
  | .ptl k n off => .ptl (f k) n off
  | .pta k row off m n => .pta (f k) row off m n
  | .agg cs => .agg (rnDL f cs)
  | .tup cs => .tup (rnDL f cs)
  | .fn F first caps => .fn F (rnDL f first) (rnDL f caps)
  | x => x
def rnDL (f : Nat → Nat) : List (DV X) → List (DV X)
  | [] => []
  | x :: xs => rnD f x :: rnDL f xs
end

theorem rnAL_t (f : Nat → Nat) : ∀ l : List Tree, rnAL f (l.map AV.t) = l.map AV.t
  | [] => rfl
  | x :: xs => by simp only [List.map_cons, rnAL, rnA, rnAL_t f xs]

mutual
theorem rnD_den (f : Nat → Nat) : ∀ x : DV X, den (rnD f x) = rnA f (den x)
  | .own _ _ _ => rfl
  | .ptr _ _ _ => rfl
  | .ptl _ _ _ => rfl
  | .pta _ _ _ _ _ => rfl
  | .agg cs => by simp only [rnD, den, rnA, rnDL_den f cs]
  | .tup cs => by simp only [rnD, den, rnA, rnDL_den f cs]
  | .fn F first caps => by simp only [rnD, den, rnA, rnDL_den f first, rnDL_den f caps]
  | .c t x => by
    simp only [rnD, den]
    cases t <;> try rfl
    simp only [CT.tv, TV.av, rnA, rnAL_t]
  | .rp _ _ _ => rfl
  | .clo _ _ _ => rfl
  | .raw v => by
    simp only [rnD, den, cv]
    split
    · rfl
    · split <;> rfl
  | .nil => rfl
  | .ub => rfl
  | .skip => rfl
  | .undef => rfl
theorem rnDL_den (f : Nat → Nat) : ∀ l : List (DV X), denL (rnDL f l) = rnAL f (denL l)
  | [] => rfl
  | x :: xs => by simp only [rnDL, denL, rnAL, rnD_den f x, rnDL_den f xs]
end

def rnO (f : Nat → Nat) : DObj X → DObj X
  | .cells sz rows => .cells sz (rows.map (rnDL f))
  | o => o

def orefs : DObj X → List Nat
  | .cells _ rows => (rows.map drefsL).flatten
  | .lst _ _ => []

theorem rowW_den {D : Nat → Prop} (f : Nat → Nat) : ∀ r : List (DV X), (∀ k ∈ drefsL r, D k) → RowW D f (denL r) (denL (rnDL f r))
  | [], _ => trivial
  | x :: xs, h => ⟨⟨fun k hk => h k (by rw [drefs_den] at hk; simp [drefsL, hk]), by rw [rnD_den]; exact Wkn.refl _⟩, rowW_den f xs fun k hk => h k (by simp [drefsL, hk])⟩

theorem rowsW_den {D : Nat → Prop} (f : Nat → Nat) (o : DObj X) (h : ∀ k ∈ orefs o, D k) : (denO (rnO f o)).sz = (denO o).sz ∧ RowsW D f (denO o).rows (denO (rnO f o)).rows := by
  cases o with
  | cells sz rows =>
    refine ⟨rfl, ?_⟩
    simp only [denO, rnO, List.map_map]
    simp only [orefs] at h
    induction rows with
    | nil => trivial
    | cons r rs ih =>
      refine ⟨rowW_den f r fun k hk => h k (by simp [hk]), ih fun k hk => h k ?_⟩
      simp only [List.map_cons, List.flatten_cons, List.mem_append]
      exact .inr hk
  | lst c l =>
    refine ⟨rfl, ?_⟩
    simp only [denO, rnO]
    generalize l.map (CT.row X.toSE c) = rows
    have hrow : ∀ r : List Tree, RowW D f (r.map AV.t) (r.map AV.t) := by
      intro r
      induction r with
      | nil => trivial
      | cons y ys ih => exact ⟨⟨by simp [refs], Wkn.refl _⟩, ih⟩
    induction rows with
    | nil => trivial
    | cons r rs ih => exact ⟨hrow r, ih⟩

/-- All names are below the next one. -/
structure Low (s : DSt X) : Prop where
  le : s.nx ≤ 1000000
  ge : 1000 ≤ s.nx
  env : ∀ t, ∀ k ∈ drefs (lke s.env t), k < s.nx
  obj : ∀ k o, lko s.obj k = some o → k < s.nx ∧ ∀ j ∈ orefs o, j < s.nx

theorem orefs_rows {o : DObj X} {r : List AV} {x : AV} (hr : r ∈ (denO o).rows) (hx : x ∈ r) : ∀ j ∈ refs x, j ∈ orefs o := by
  intro j hj
  cases o with
  | cells sz rows =>
    simp only [denO, List.mem_map] at hr
    obtain ⟨q, hq, rfl⟩ := hr
    rw [denL_map, List.mem_map] at hx
    obtain ⟨d, hd, rfl⟩ := hx
    simp only [orefs, List.mem_flatten, List.mem_map]
    refine ⟨_, ⟨q, hq, rfl⟩, ?_⟩
    have : ∀ l : List (DV X), d ∈ l → j ∈ drefsL l := by
      intro l
      induction l with
      | nil => intro h; simp at h
      | cons y ys ih => intro h; rcases List.mem_cons.1 h with rfl | h
                        · simp only [drefsL, List.mem_append]; left; rwa [drefs_den] at hj
                        · simp only [drefsL, List.mem_append]; exact .inr (ih h)
    exact this q hd
  | lst c l =>
    simp only [denO, avRows, List.mem_map] at hr
    obtain ⟨q, _, rfl⟩ := hr
    simp only [List.mem_map] at hx
    obtain ⟨t, _, rfl⟩ := hx
    simp [refs] at hj

theorem Low.old {s : DSt X} (h : Low s) : Old s.st := by
  have hle := h.le
  constructor
  · intro t k hk
    have := h.env t k (by rw [← drefs_den]; exact hk)
    omega
  · intro k o hk
    simp only [DSt.st, Option.map_eq_some_iff] at hk
    obtain ⟨o', h1, rfl⟩ := hk
    obtain ⟨h2, h3⟩ := h.obj k o' h1
    refine ⟨by omega, fun r hr x hx j hj => ?_⟩
    have := h3 j (orefs_rows hr hx j hj)
    omega
end
end Go.Gb

namespace Go.Gb
open Go.RowKit

section
variable {X : SX} {A : Type}

def lkE (e b : List (Nat × DV X)) (t : Nat) : DV X := match lk e t with | some x => x | none => lke b t
def lkO (o b : List (Nat × Option (DObj X))) (k : Nat) : Option (DObj X) := match lk o k with | some x => x | none => lko b k
def appE (dst : Option Tmp) (dv : DV X) (e : List (Nat × DV X)) : List (Nat × DV X) := match dst with | some t => (t, dv) :: e | none => e

def unskD : DV X → DV X
  | .skip => .undef
  | x => x
def notSk (e : List (Nat × DV X)) : Operand → Bool
  | .tmp t => match lk e t with | some .skip => false | _ => true
  | _ => true
def okOps (e b : List (Nat × DV X)) (o : Op) : Bool :=
  match o with
  | .pick c x y => notSk e c && ((notSk e x && notSk e y) || match opvD (lkE e b) c with | .c .bool t => bif t then notSk e x else notSk e y | _ => false)
  | o => o.operands.toList.all (notSk e)

abbrev Fps := List (Nat × List Nat × List Nat)

section
variable (Γ : FuncId → Option (Sig X)) (fz : List Nat) (T : Tab) (code : TypeId → Option (CT X.ι)) (ops : Array Oper) (b : DSt X)

def runOps (k : List (Nat × DV X) → List (Nat × Option (DObj X)) → Fps → Option A) : List Nat → List (Nat × DV X) → List (Nat × Option (DObj X)) → Fps → Option A
  | [], e, o, fps => k e o fps
  | i :: r, e, o, fps => (ops[i]?).bind fun op => match op.guard with
    | none => bif okOps e b.env op.op then anyD Γ fz T code i op.op (opvD (lkE e b.env)) (lkO o b.obj) fun dv upd rd wr => runOps k r (appE op.dst (unskD dv) e) (upd ++ o) ((i, rd, wr) :: fps) else none
    | some (j, p) => ((ops[j]?).bind (·.dst)).bind fun t => match lkE e b.env t with
      | .c .bool v =>
        bif v then (bif p then (bif okOps ((t, .c .bool true) :: e) b.env op.op then anyD Γ fz T code i op.op (opvD (lkE ((t, .c .bool true) :: e) b.env)) (lkO o b.obj) fun dv upd rd wr => runOps k r (appE op.dst (unskD dv) ((t, .c .bool true) :: e)) (upd ++ o) ((i, rd, wr) :: fps) else none)
          else runOps k r (appE op.dst .skip ((t, .c .bool true) :: e)) o ((i, [], []) :: fps))
        else (bif p then runOps k r (appE op.dst .skip ((t, .c .bool false) :: e)) o ((i, [], []) :: fps)
          else (bif okOps ((t, .c .bool false) :: e) b.env op.op then anyD Γ fz T code i op.op (opvD (lkE ((t, .c .bool false) :: e) b.env)) (lkO o b.obj) fun dv upd rd wr => runOps k r (appE op.dst (unskD dv) ((t, .c .bool false) :: e)) (upd ++ o) ((i, rd, wr) :: fps) else none))
      | .skip => bif (lk e t).isSome then runOps k r (appE op.dst .skip e) o ((i, [], []) :: fps) else none
      | _ => none
end

def stOf (b : DSt X) (e : List (Nat × DV X)) (o : List (Nat × Option (DObj X))) : St := ⟨fun t => den (lkE e b.env t), fun k => (lkO o b.obj k).map denO, fun t => match lk e t with | some .skip => some false | _ => none⟩

theorem unskD_den (x : DV X) : den (unskD x) = den x := by cases x <;> rfl

theorem stOf_app (b : DSt X) (e : List (Nat × DV X)) (o : List (Nat × Option (DObj X))) (dst : Option Tmp) (dv : DV X) (upd : List (Nat × Option (DObj X))) (obs : List Prop) :
    (stOf b e o).app dst (⟨den dv, denU upd, obs⟩, none) = stOf b (appE dst (unskD dv) e) (upd ++ o) := by
  simp only [stOf, St.app, St.mk.injEq]
  refine ⟨?_, ?_, ?_⟩
  · funext t
    cases dst with
    | none => simp [setE, appE]
    | some d =>
      simp only [setE, appE, lkE, lk, Option.some.injEq]
      by_cases h : d = t <;> simp [h, unskD_den]
  · funext j
    induction upd with
    | nil => rfl
    | cons p u ih =>
      obtain ⟨q, x⟩ := p
      simp only [denU, List.map_cons, updo, List.cons_append, lkO, lk] at ih ⊢
      by_cases h : j = q
      · simp [h]
      · rw [if_neg h, if_neg (Ne.symm h)]; exact ih
  · funext t
    cases dst with
    | none => simp [setE, appE]
    | some d =>
      simp only [setE, appE, lk, Option.some.injEq]
      by_cases h : d = t
      · simp only [h, if_true]
        cases dv <;> rfl
      · simp only [if_neg h]

theorem stOf_skip (b : DSt X) (e : List (Nat × DV X)) (o : List (Nat × Option (DObj X))) (dst : Option Tmp) : (stOf b e o).app dst (⟨.undef, [], []⟩, some false) = stOf b (appE dst .skip e) o := by
  simp only [stOf, St.app, St.mk.injEq]
  refine ⟨?_, rfl, ?_⟩
  · funext t
    cases dst with
    | none => simp [setE, appE]
    | some d =>
      simp only [setE, appE, lkE, lk, Option.some.injEq]
      by_cases h : d = t <;> simp [h, den]
  · funext t
    cases dst with
    | none => simp [setE, appE]
    | some d =>
      simp only [setE, appE, lk, Option.some.injEq]
      by_cases h : d = t <;> simp [h]

theorem opv_stOf (b : DSt X) (e : List (Nat × DV X)) (o : List (Nat × Option (DObj X))) : opv (stOf b e o).env = fun x => den (opvD (lkE e b.env) x) := by
  funext x; exact (opvD_den _ x).symm

theorem need1_ok {b : DSt X} {e : List (Nat × DV X)} {o : List (Nat × Option (DObj X))} {x : Operand} (h : notSk e x = true) : need1 (stOf b e o).ok x = [] := by
  cases x with
  | tmp t =>
    simp only [notSk] at h
    simp only [need1, stOf]
    cases ht : lk e t with
    | none => rfl
    | some d => rw [ht] at h; cases d <;> first | rfl | cases h
  | _ => rfl

theorem needs_nil {b : DSt X} {e : List (Nat × DV X)} {o : List (Nat × Option (DObj X))} {P : Program} {T : Tab} {i : Nat} {op : Oper} {orc : Orc} {get : Nat → Option AObj} {out : Out} (hok : okOps e b.env op.op = true)
    (h : absAny P T i op orc (opv (stOf b e o).env) get = some out) : ∀ p ∈ needs (stOf b e o).env (stOf b e o).ok op.op, p := by
  obtain ⟨dst, op, ty, pos, after, guard⟩ := op
  unfold needs
  split
  · rename_i c x y heq
    simp only at heq
    subst heq
    simp only [okOps, Bool.and_eq_true, Bool.or_eq_true] at hok
    obtain ⟨hc, hxy⟩ := hok
    have hb : ∃ t, opv (stOf b e o).env c = .t (.sc (.bool t)) := by
      have h0 : (∃ n, orc = .ext n) ∨ (∃ ids fr q, orc = .frz ids fr q) ∨ absOp T i ⟨dst, .pick c x y, ty, pos, after, guard⟩ orc (opv (stOf b e o).env) get = some out := by
        cases orc <;> first | exact .inl ⟨_, rfl⟩ | exact .inr (.inl ⟨_, _, _, rfl⟩) | exact .inr (.inr h)
      rcases h0 with ⟨n, rfl⟩ | ⟨ids, fr, q, rfl⟩ | h0
      · simp [absAny, absExtA, isX2, absExt] at h
      · simp [absAny, absFrz, isPick] at h
      · simp only [absOp] at h0
        split at h0
        · rename_i t ht; exact ⟨t, ht⟩
        · cases h0
    obtain ⟨t, ht⟩ := hb
    rw [ht]
    simp only [need1_ok hc, List.nil_append]
    rcases hxy with ⟨hx, hy⟩ | hxy
    · simp [need1_ok hx, need1_ok hy]
    · split at hxy
      · rename_i t' ht'
        have e1 : opv (stOf b e o).env c = .t (.sc (.bool t')) := by rw [opv_stOf]; simp only [ht']; rfl
        rw [e1] at ht
        injection ht with ht; injection ht with ht; injection ht with ht
        subst ht
        cases t' with
        | true =>
          simp only [cond_true] at hxy
          simp [need1_ok hxy]
        | false =>
          simp only [cond_false] at hxy
          simp [need1_ok hxy]
      · cases hxy
  · rename_i o' hne
    intro p hp
    have hall : ∀ x ∈ op.operands.toList, notSk e x = true := by
      have : okOps e b.env op = op.operands.toList.all (notSk e) := by
        cases op <;> first | rfl | exact (hne _ _ _ rfl).elim
      rw [this] at hok
      exact List.all_eq_true.1 hok
    simp only [List.mem_flatMap] at hp
    obtain ⟨x, hx, hp⟩ := hp
    rw [need1_ok (hall x hx)] at hp
    simp at hp

theorem allp_app {a b : List Prop} (h : ∀ p ∈ a, p) (h' : AllP b) : AllP (a ++ b) := AllP_of _ (all_app h (AllP_mem b h'))

variable {Γ : FuncId → Option (Sig X)} {fz : List Nat} {T : Tab} {code : TypeId → Option (CT X.ι)} {ops : Array Oper} {b : DSt X} {P : Program}

theorem step_exec (hΓ : GOk P Γ) {i : Nat} {op : Oper} {e : List (Nat × DV X)} {o : List (Nat × Option (DObj X))} {k : KK X A} {r : A} (hop : ops[i]? = some op) (hw : want ops op (stOf b e o).env (stOf b e o).ok = some true) (hok : okOps e b.env op.op = true)
    (h : anyD Γ fz T code i op.op (opvD (lkE e b.env)) (lkO o b.obj) k = some r) :
    ∃ (a : Ann) (dv : DV X) (upd : List (Nat × Option (DObj X))), a.sym = false ∧ k dv upd a.rd a.wr = some r ∧ ∀ (ann : Nat → Ann) (K : St → Prop), ann i = a → K (stOf b (appE op.dst (unskD dv) e) (upd ++ o)) → eOp P T ops ann i K (stOf b e o) := by
  obtain ⟨orc, rd, wr, dv, upd, out, h1, h2, h3, h4, h5, h6⟩ := anyD_sound hΓ h
  refine ⟨⟨orc, rd, wr, false⟩, dv, upd, rfl, h6, fun ann K ha hK => ?_⟩
  have h1' : absAny P T i op orc (opv (stOf b e o).env) (restr rd (stOf b e o).obj) = some out := by
    rw [opv_stOf]; exact h1
  refine ⟨op, (⟨out.v, out.upd, needs (stOf b e o).env (stOf b e o).ok op.op ++ out.obs⟩, none), hop, ?_, ?_, ?_⟩
  · unfold opAt
    simp only [hop, Option.bind_some, hw, ha, h1']
    rw [if_pos]
    rw [List.all_eq_true]
    intro p hp
    rw [h4] at hp
    simp only [denU, List.mem_map] at hp
    obtain ⟨q, hq, rfl⟩ := hp
    rcases h5 q hq with h | h
    · simp [h]
    · simp [h]
  · exact allp_app (needs_nil hok h1') h2
  · rw [h3, h4, stOf_app]; exact hK

theorem step_skip {i : Nat} {op : Oper} {e : List (Nat × DV X)} {o : List (Nat × Option (DObj X))} (hop : ops[i]? = some op) (hw : want ops op (stOf b e o).env (stOf b e o).ok = some false)
    (ann : Nat → Ann) (K : St → Prop) (ha : ann i = ⟨.none, [], [], false⟩) (hK : K (stOf b (appE op.dst .skip e) o)) : eOp P T ops ann i K (stOf b e o) := by
  refine ⟨op, (⟨.undef, [], []⟩, some false), hop, ?_, trivial, ?_⟩
  · unfold opAt
    simp only [hop, Option.bind_some, hw, ha]
  · rw [stOf_skip]; exact hK

theorem stOf_known {e : List (Nat × DV X)} {o : List (Nat × Option (DObj X))} {t : Nat} {v : Bool} (h : lkE e b.env t = .c .bool v) : stOf b ((t, .c .bool v) :: e) o = stOf b e o := by
  simp only [stOf, St.mk.injEq, true_and]
  refine ⟨?_, ?_⟩
  · funext s
    by_cases hs : t = s
    · subst hs
      rw [h]; simp [lkE, lk]
    · simp [lkE, lk, hs]
  · funext s
    by_cases hs : t = s
    · subst hs
      simp only [lk, if_true]
      unfold lkE at h
      cases ht : lk e t with
      | none => rfl
      | some d => rw [ht] at h; simp only at h; subst h; rfl
    · simp [lk, hs]

def fpOf (tr : List (Nat × Ann)) : Fps := tr.map fun p => (p.1, p.2.rd, p.2.wr)

/-- A slot that the region writes. -/
def IsDst (ops : Array Oper) (t : Nat) : Prop := ∃ (j : Nat) (op : Oper), ops[j]? = some op ∧ op.dst = some t

theorem appE_mem {dst : Option Tmp} {dv : DV X} {e : List (Nat × DV X)} {p : Nat × DV X} (h : p ∈ appE dst dv e) : p ∈ e ∨ dst = some p.1 := by
  cases dst with
  | none => exact .inl h
  | some t =>
    simp only [appE, List.mem_cons] at h
    rcases h with rfl | h
    · exact .inr rfl
    · exact .inl h

theorem runOps_sound (hΓ : GOk P Γ) {k : List (Nat × DV X) → List (Nat × Option (DObj X)) → Fps → Option A} {r : A} : ∀ (l : List Nat) (e : List (Nat × DV X)) (o : List (Nat × Option (DObj X))) (fps : Fps), runOps Γ fz T code ops b k l e o fps = some r →
    ∃ (tr : List (Nat × Ann)) (e' : List (Nat × DV X)) (o' : List (Nat × Option (DObj X))), tr.map (·.1) = l ∧ k e' o' ((fpOf tr).reverse ++ fps) = some r ∧ (∀ p ∈ e', p ∈ e ∨ IsDst ops p.1) ∧
      ∀ ann : Nat → Ann, (∀ p ∈ tr, ann p.1 = p.2) → eLex P T ops ann (fun σ => σ = stOf b e' o') l (stOf b e o)
  | [], e, o, fps, h => ⟨[], e, o, rfl, h, fun _ hp => .inl hp, fun _ _ => rfl⟩
  | i :: l, e, o, fps, h => by
    simp only [runOps] at h
    rw [Option.bind_eq_some_iff] at h; obtain ⟨op, hop, h⟩ := h
    have exec : ∀ e : List (Nat × DV X), want ops op (stOf b e o).env (stOf b e o).ok = some true →
        (bif okOps e b.env op.op then anyD Γ fz T code i op.op (opvD (lkE e b.env)) (lkO o b.obj) fun dv upd rd wr => runOps Γ fz T code ops b k l (appE op.dst (unskD dv) e) (upd ++ o) ((i, rd, wr) :: fps) else none) = some r →
        ∃ (tr : List (Nat × Ann)) (e' : List (Nat × DV X)) (o' : List (Nat × Option (DObj X))), tr.map (·.1) = i :: l ∧ k e' o' ((fpOf tr).reverse ++ fps) = some r ∧ (∀ p ∈ e', p ∈ e ∨ IsDst ops p.1) ∧
          ∀ ann : Nat → Ann, (∀ p ∈ tr, ann p.1 = p.2) → eLex P T ops ann (fun σ => σ = stOf b e' o') (i :: l) (stOf b e o) := by
      intro e hw h
      obtain ⟨hok, h⟩ := cond_some h
      obtain ⟨a, dv, upd, _, h1, h2⟩ := step_exec hΓ hop hw hok h
      obtain ⟨tr, e', o', g1, g2, g4, g3⟩ := runOps_sound hΓ l _ _ _ h1
      refine ⟨(i, a) :: tr, e', o', by simp [g1], ?_, fun p hp => (g4 p hp).elim (fun hp => (appE_mem hp).elim .inl fun hd => .inr ⟨i, op, hop, hd⟩) .inr, fun ann ha => ?_⟩
      · simpa [fpOf] using g2
      · exact h2 ann _ (ha (i, a) (by simp)) (g3 ann fun p hp => ha p (by simp [hp]))
    have skip : ∀ e : List (Nat × DV X), want ops op (stOf b e o).env (stOf b e o).ok = some false → runOps Γ fz T code ops b k l (appE op.dst .skip e) o ((i, [], []) :: fps) = some r →
        ∃ (tr : List (Nat × Ann)) (e' : List (Nat × DV X)) (o' : List (Nat × Option (DObj X))), tr.map (·.1) = i :: l ∧ k e' o' ((fpOf tr).reverse ++ fps) = some r ∧ (∀ p ∈ e', p ∈ e ∨ IsDst ops p.1) ∧
          ∀ ann : Nat → Ann, (∀ p ∈ tr, ann p.1 = p.2) → eLex P T ops ann (fun σ => σ = stOf b e' o') (i :: l) (stOf b e o) := by
      intro e hw h
      obtain ⟨tr, e', o', g1, g2, g4, g3⟩ := runOps_sound hΓ l _ _ _ h
      refine ⟨(i, ⟨.none, [], [], false⟩) :: tr, e', o', by simp [g1], ?_, fun p hp => (g4 p hp).elim (fun hp => (appE_mem hp).elim .inl fun hd => .inr ⟨i, op, hop, hd⟩) .inr, fun ann ha => ?_⟩
      · simpa [fpOf] using g2
      · exact step_skip hop hw ann _ (ha (i, _) (by simp)) (g3 ann fun p hp => ha p (by simp [hp]))
    split at h
    · rename_i hg
      exact exec e (by simp [want, hg]) h
    · rename_i j p hg
      rw [Option.bind_eq_some_iff] at h; obtain ⟨t, ht, h⟩ := h
      split at h
      · rename_i v hv
        have hw : ∀ e : List (Nat × DV X), lkE e b.env t = .c .bool v → want ops op (stOf b e o).env (stOf b e o).ok = some (v == p) := by
          intro e he
          simp only [want, hg, ht]
          have h0 : (stOf b e o).ok t = none := by
            simp only [stOf]
            unfold lkE at he
            cases hq : lk e t with
            | none => rfl
            | some d => rw [hq] at he; simp only at he; subst he; rfl
          have h1 : (stOf b e o).env t = .t (.sc (.bool v)) := by simp only [stOf, he]; rfl
          rw [h0, h1]
        have hk := stOf_known (b := b) (o := o) hv
        have hv' : lkE ((t, .c .bool v) :: e) b.env t = .c .bool v := by simp [lkE, lk]
        have htd : IsDst ops t := by
          rw [Option.bind_eq_some_iff] at ht
          obtain ⟨oj, h1, h2⟩ := ht
          exact ⟨j, oj, h1, h2⟩
        have wide : (∃ (tr : List (Nat × Ann)) (e' : List (Nat × DV X)) (o' : List (Nat × Option (DObj X))), tr.map (·.1) = i :: l ∧ k e' o' ((fpOf tr).reverse ++ fps) = some r ∧ (∀ p ∈ e', p ∈ ((t, .c .bool v) :: e : List (Nat × DV X)) ∨ IsDst ops p.1) ∧
            ∀ ann : Nat → Ann, (∀ p ∈ tr, ann p.1 = p.2) → eLex P T ops ann (fun σ => σ = stOf b e' o') (i :: l) (stOf b ((t, .c .bool v) :: e) o)) →
            ∃ (tr : List (Nat × Ann)) (e' : List (Nat × DV X)) (o' : List (Nat × Option (DObj X))), tr.map (·.1) = i :: l ∧ k e' o' ((fpOf tr).reverse ++ fps) = some r ∧ (∀ p ∈ e', p ∈ e ∨ IsDst ops p.1) ∧
            ∀ ann : Nat → Ann, (∀ p ∈ tr, ann p.1 = p.2) → eLex P T ops ann (fun σ => σ = stOf b e' o') (i :: l) (stOf b e o) := by
          rintro ⟨tr, e', o', g1, g2, g4, g3⟩
          refine ⟨tr, e', o', g1, g2, fun q hq => ?_, hk ▸ g3⟩
          rcases g4 q hq with h | h
          · rcases List.mem_cons.1 h with rfl | h
            · exact .inr htd
            · exact .inl h
          · exact .inr h
        apply wide
        cases v with
        | true =>
          simp only [cond_true] at h
          cases p with
          | true => exact exec _ (hw _ hv') h
          | false => exact skip _ (hw _ hv') h
        | false =>
          simp only [cond_false] at h
          cases p with
          | true => exact skip _ (hw _ hv') h
          | false => exact exec _ (hw _ hv') h
      · rename_i hv
        obtain ⟨hsome, h⟩ := cond_some h
        refine skip e ?_ h
        simp only [want, hg, ht]
        have h1 : (stOf b e o).env t = .undef := by simp only [stOf, hv]; rfl
        cases hq : lk e t with
        | some d =>
          have h0 : (stOf b e o).ok t = some false := by
            unfold lkE at hv
            rw [hq] at hv
            simp only at hv
            subst hv
            simp only [stOf, hq]
          rw [h0, h1]
        | none => rw [hq] at hsome; cases hsome
      · cases h
end
end Go.Gb

namespace Go.Gb
open Go.RowKit

section
variable {X : SX} {A : Type}

def fN (nx k : Nat) : Nat := if k < 1000000 then k else nx + (k - 1000000)
def gN (nx j : Nat) : Nat := if j < nx then j else 1000000 + (j - nx)
def okN (nx sz k : Nat) : Bool := decide (k < nx) || (decide (1000000 ≤ k) && decide (k < 1000000 + sz))
def okE (nx sz : Nat) (e : List (Nat × DV X)) : Bool := e.all fun p => (drefs p.2).all (okN nx sz)
def okO (nx sz : Nat) (o : List (Nat × Option (DObj X))) : Bool := o.all fun p => okN nx sz p.1 && match p.2 with | some x => (orefs x).all (okN nx sz) | none => true
def annF (fps : Fps) : Nat → Ann := fun i => match lk fps i with | some p => ⟨.none, p.1, p.2, false⟩ | none => ⟨.none, [], [], false⟩
def annT (tr : List (Nat × Ann)) : Nat → Ann := fun i => match lk tr i with | some a => a | none => ⟨.none, [], [], false⟩

def unsk : DV X → DV X
  | .skip => .undef
  | x => x

theorem unsk_den (x : DV X) : den (unsk x) = den x := by cases x <;> rfl
theorem unsk_refs (x : DV X) : drefs (unsk x) = drefs x := by cases x <;> rfl

def fin (s : DSt X) (e : List (Nat × DV X)) (o : List (Nat × Option (DObj X))) (sz : Nat) : DSt X :=
  ⟨e.map (fun p => (p.1, unsk (rnD (fN s.nx) p.2))) ++ s.env, o.map (fun p => (fN s.nx p.1, p.2.map (rnO (fN s.nx)))) ++ s.obj, s.nx + sz, o.map (fun p => fN s.nx p.1) ++ s.log⟩

def regOkB (N : Nat) (ops : Array Oper) (d : Bool) (nx : Nat) (e : List (Nat × DV X)) (o : List (Nat × Option (DObj X))) (fps : Fps) : Bool :=
  dstsOk N ops && (!d || lexOK ops (annF fps)) && okE nx ops.size e && okO nx ops.size o && decide (nx + ops.size ≤ 1000000)

def runReg (Γ : FuncId → Option (Sig X)) (fz : List Nat) (T : Tab) (code : TypeId → Option (CT X.ι)) (N : Nat) (ops : Array Oper) (d : Bool) (s : DSt X) (k : DSt X → Option A) : Option A :=
  runOps Γ fz T code ops s (fun e o fps => bif regOkB N ops d s.nx e o fps then k (fin s e o ops.size) else none) (List.range ops.size) [] [] []

theorem lexOK_congr {ops : Array Oper} {ann ann' : Nat → Ann} (h : ∀ i, (ann i).rd = (ann' i).rd ∧ (ann i).wr = (ann' i).wr) : lexOK ops ann = lexOK ops ann' := by
  have h1 : fpApart ann = fpApart ann' := by
    funext i j
    simp only [fpApart, (h i).1, (h i).2, (h j).1, (h j).2]
  have h2 : ∀ md, fpFree md ops ann = fpFree md ops ann' := by
    intro md
    funext listed i
    simp only [fpFree, h1]
  have h3 : ∀ (md : Region.Mode) (n k : Nat) (listed : Array Bool), lexFrom' md ops ann n k listed = lexFrom' md ops ann' n k listed := by
    intro md n
    induction n with
    | zero => intro k listed; rfl
    | succ n ih => intro k listed; simp only [lexFrom', h2, ih]
  exact h3 _ _ _ _

theorem lk_append {α : Type} : ∀ (a b : List (Nat × α)) (k : Nat), lk (a ++ b) k = match lk a k with | some x => some x | none => lk b k
  | [], _, _ => rfl
  | (j, x) :: a, b, k => by
    simp only [List.cons_append, lk]
    by_cases h : j = k
    · simp [h]
    · simp only [if_neg h, lk_append a b k]

theorem lk_none {α : Type} : ∀ {l : List (Nat × α)} {k : Nat}, lk l k = none → ∀ x, (k, x) ∉ l
  | (j, y) :: r, k, h, x => by
    simp only [lk] at h
    split at h
    · cases h
    · rename_i hn
      simp only [List.mem_cons, Prod.mk.injEq, not_or]
      exact ⟨fun e => hn e.1.symm, lk_none h x⟩
  | [], _, _, _ => by simp

theorem annF_T {tr : List (Nat × Ann)} (hn : (tr.map (·.1)).Nodup) (i : Nat) : (annF (fpOf tr).reverse i).rd = (annT tr i).rd ∧ (annF (fpOf tr).reverse i).wr = (annT tr i).wr := by
  have hn' : ((fpOf tr).reverse.map (·.1)).Nodup := by
    rw [List.map_reverse]
    have h1 : ((fpOf tr).map (·.1)).Nodup := by simpa [fpOf, Function.comp_def] using hn
    exact List.pairwise_reverse.2 (h1.imp fun h => Ne.symm h)
  unfold annF annT
  cases h : lk tr i with
  | none =>
    cases h' : lk (fpOf tr).reverse i with
    | none => exact ⟨rfl, rfl⟩
    | some p =>
      have := lk_mem h'
      simp only [fpOf, List.mem_reverse, List.mem_map] at this
      obtain ⟨q, hq, he⟩ := this
      injection he with e1 e2
      subst e1
      exact (lk_none h q.2 hq).elim
  | some a =>
    have h1 := lk_mem h
    have h2 : (i, a.rd, a.wr) ∈ (fpOf tr).reverse := by
      simp only [fpOf, List.mem_reverse, List.mem_map]
      exact ⟨(i, a), h1, rfl⟩
    rw [lk_of_mem hn' h2]
    exact ⟨rfl, rfl⟩

theorem annT_mem {tr : List (Nat × Ann)} (hn : (tr.map (·.1)).Nodup) : ∀ p ∈ tr, annT tr p.1 = p.2 := by
  rintro ⟨i, a⟩ hp
  unfold annT
  rw [lk_of_mem hn hp]

theorem okN_spec {nx sz k : Nat} (h : okN nx sz k = true) : k < nx ∨ (1000000 ≤ k ∧ k < 1000000 + sz) := by
  simpa [okN] using h

theorem gfN {nx sz k : Nat} (hle : nx + sz ≤ 1000000) (h : k < nx ∨ (1000000 ≤ k ∧ k < 1000000 + sz)) : gN nx (fN nx k) = k := by
  unfold gN fN
  rcases h with h | ⟨h1, h2⟩
  · rw [if_pos (show k < 1000000 by omega), if_pos h]
  · rw [if_neg (show ¬ k < 1000000 by omega), if_neg (by omega)]; omega

theorem fN_lt {nx sz k : Nat} (hle : nx + sz ≤ 1000000) (h : k < nx ∨ (1000000 ≤ k ∧ k < 1000000 + sz)) : fN nx k < nx + sz := by
  unfold fN
  rcases h with h | ⟨h1, h2⟩
  · rw [if_pos (show k < 1000000 by omega)]; omega
  · rw [if_neg (show ¬ k < 1000000 by omega)]; omega

theorem fN_id {nx k : Nat} (hle : nx ≤ 1000000) (h : k < nx) : fN nx k = k := if_pos (by omega)

mutual
theorem rnD_id {f : Nat → Nat} : ∀ x : DV X, (∀ k ∈ drefs x, f k = k) → rnD f x = x
  | .own k _ _, h => by simp only [rnD, h k (by simp [drefs])]
  | .ptr k _ _, h => by simp only [rnD, h k (by simp [drefs])]
  | .ptl k _ _, h => by simp only [rnD, h k (by simp [drefs])]
  | .pta k _ _ _ _, h => by simp only [rnD, h k (by simp [drefs])]
  | .agg cs, h => by simp only [rnD, rnDL_id cs (by simpa [drefs] using h)]
  | .tup cs, h => by simp only [rnD, rnDL_id cs (by simpa [drefs] using h)]
  | .fn F first caps, h => by simp only [rnD, rnDL_id first (fun k hk => h k (by simp [drefs, hk])), rnDL_id caps (fun k hk => h k (by simp [drefs, hk]))]
  | .c _ _, _ => rfl
  | .rp _ _ _, _ => rfl
  | .clo _ _ _, _ => rfl
  | .raw _, _ => rfl
  | .nil, _ => rfl
  | .ub, _ => rfl
  | .skip, _ => rfl
  | .undef, _ => rfl
theorem rnDL_id {f : Nat → Nat} : ∀ l : List (DV X), (∀ k ∈ drefsL l, f k = k) → rnDL f l = l
  | [], _ => rfl
  | x :: xs, h => by simp only [rnDL, rnD_id x (fun k hk => h k (by simp [drefsL, hk])), rnDL_id xs (fun k hk => h k (by simp [drefsL, hk]))]
end

mutual
theorem drefs_rn (f : Nat → Nat) : ∀ x : DV X, drefs (rnD f x) = (drefs x).map f
  | .own _ _ _ => rfl
  | .ptr _ _ _ => rfl
  | .ptl _ _ _ => rfl
  | .pta _ _ _ _ _ => rfl
  | .agg cs => by simp only [rnD, drefs, drefsL_rn f cs]
  | .tup cs => by simp only [rnD, drefs, drefsL_rn f cs]
  | .fn F first caps => by simp only [rnD, drefs, drefsL_rn f first, drefsL_rn f caps, List.map_append]
  | .c _ _ => rfl
  | .rp _ _ _ => rfl
  | .clo _ _ _ => rfl
  | .raw _ => rfl
  | .nil => rfl
  | .ub => rfl
  | .skip => rfl
  | .undef => rfl
theorem drefsL_rn (f : Nat → Nat) : ∀ l : List (DV X), drefsL (rnDL f l) = (drefsL l).map f
  | [] => rfl
  | x :: xs => by simp only [rnDL, drefsL, drefs_rn f x, drefsL_rn f xs, List.map_append]
end

theorem orefs_rn (f : Nat → Nat) (o : DObj X) : orefs (rnO f o) = (orefs o).map f := by
  cases o with
  | cells sz rows => simp only [rnO, orefs, List.map_map, List.map_flatten]; congr 1; exact List.map_congr_left fun r _ => drefsL_rn f r
  | lst c l => rfl

theorem lk_map {α β : Type} (f : α → β) : ∀ (l : List (Nat × α)) (k : Nat), lk (l.map fun p => (p.1, f p.2)) k = (lk l k).map f
  | [], _ => rfl
  | (j, x) :: r, k => by
    simp only [List.map_cons, lk]
    by_cases h : j = k
    · simp [h]
    · simp only [if_neg h, lk_map f r k]

theorem lk_mapK {α β : Type} (f : α → β) (g : Nat → Nat) : ∀ (l : List (Nat × α)) (j : Nat), (∀ p ∈ l, ∀ q ∈ l, g p.1 = g q.1 → p.1 = q.1) →
    (∀ y, lk (l.map fun p => (g p.1, f p.2)) j = some y → ∃ k x, lk l k = some x ∧ g k = j ∧ y = f x) ∧ (lk (l.map fun p => (g p.1, f p.2)) j = none → ∀ p ∈ l, g p.1 ≠ j)
  | [], _, _ => ⟨fun _ h => by simp [lk] at h, fun _ => by simp⟩
  | (k0, x0) :: r, j, hi => by
    obtain ⟨i1, i2⟩ := lk_mapK f g r j (fun p hp q hq => hi p (by simp [hp]) q (by simp [hq]))
    simp only [List.map_cons, lk]
    by_cases h : g k0 = j
    · rw [if_pos h]
      exact ⟨fun y hy => by injection hy with hy; exact ⟨k0, x0, by simp, h, hy.symm⟩, fun hn => by cases hn⟩
    · rw [if_neg h]
      refine ⟨fun y hy => ?_, fun hn p hp => ?_⟩
      · obtain ⟨k, x, h1, h2, h3⟩ := i1 y hy
        refine ⟨k, x, ?_, h2, h3⟩
        have hne : k0 ≠ k := fun e => h (by rw [e]; exact h2)
        rw [if_neg hne]; exact h1
      · rcases List.mem_cons.1 hp with rfl | hp
        · exact h
        · exact i2 hn p hp

/-- What a piece of code leaves as it was. -/
structure Ext (ds : Nat → Prop) (s s' : DSt X) : Prop where
  env : ∀ t, ¬ ds t → lke s'.env t = lke s.env t ∨ lke s'.env t = .undef
  obj : ∃ d, s'.log = d ++ s.log ∧ ∀ k, k < s.nx → k ∉ d → lko s'.obj k = lko s.obj k ∨ lko s'.obj k = none
  nx : s.nx ≤ s'.nx

variable {Γ : FuncId → Option (Sig X)} {fz : List Nat} {T : Tab} {code : TypeId → Option (CT X.ι)} {P : Program} {N : Nat}

theorem lke_fin (s : DSt X) (e : List (Nat × DV X)) (o : List (Nat × Option (DObj X))) (sz t : Nat) : lke (fin s e o sz).env t = match lk e t with | some d => unsk (rnD (fN s.nx) d) | none => lke s.env t := by
  simp only [fin, lke, lk_append, lk_map (fun d => unsk (rnD (fN s.nx) d))]
  cases lk e t <;> rfl

theorem runReg_sound (hT : TabOk P T) (hm : P.follows .mixedOrders = true) (hΓ : GOk P Γ) {id : Nat} {ops : Array Oper} {d : Bool} {s : DSt X} {k : DSt X → Option A} {r : A} (hl : Low s) (h : runReg Γ fz T code N ops d s k = some r) :
    ∃ s' : DSt X, k s' = some r ∧ Low s' ∧ Ext (IsDst ops) s s' ∧ Ev P N (.region id ops d) (fun e σ => e = .normal ∧ σ = s'.st) s.st := by
  unfold runReg at h
  obtain ⟨tr, e, o, h1, h2, h3, h4⟩ := runOps_sound hΓ _ _ _ _ h
  obtain ⟨h5, h6⟩ := cond_some h2
  simp only [regOkB, Bool.and_eq_true, List.append_nil] at h5
  obtain ⟨⟨⟨⟨hd, hlex⟩, hE⟩, hO⟩, hnx⟩ := h5
  have hle : s.nx + ops.size ≤ 1000000 := of_decide_eq_true hnx
  have hnod : (tr.map (·.1)).Nodup := by rw [h1]; exact List.nodup_range
  have hEn : ∀ t x, lk e t = some x → ∀ j ∈ drefs x, j < s.nx ∨ (1000000 ≤ j ∧ j < 1000000 + ops.size) := by
    intro t x hx j hj
    have := List.all_eq_true.1 hE _ (lk_mem hx)
    exact okN_spec (List.all_eq_true.1 this j hj)
  have hOn : ∀ p ∈ o, (p.1 < s.nx ∨ (1000000 ≤ p.1 ∧ p.1 < 1000000 + ops.size)) ∧ ∀ x, p.2 = some x → ∀ j ∈ orefs x, j < s.nx ∨ (1000000 ≤ j ∧ j < 1000000 + ops.size) := by
    intro p hp
    have := List.all_eq_true.1 hO _ hp
    simp only [Bool.and_eq_true] at this
    refine ⟨okN_spec this.1, fun x hx j hj => ?_⟩
    have h2 := this.2
    rw [hx] at h2
    exact okN_spec (List.all_eq_true.1 h2 j hj)
  have hinj : ∀ p ∈ o, ∀ q ∈ o, fN s.nx p.1 = fN s.nx q.1 → p.1 = q.1 := by
    intro p hp q hq he
    have := congrArg (gN s.nx) he
    rwa [gfN hle (hOn p hp).1, gfN hle (hOn q hq).1] at this
  have hlko : ∀ j, (∃ q x, lk o q = some x ∧ fN s.nx q = j ∧ lko (fin s e o ops.size).obj j = x.map (rnO (fN s.nx))) ∨ (lko (fin s e o ops.size).obj j = lko s.obj j ∧ ∀ p ∈ o, fN s.nx p.1 ≠ j) := by
    intro j
    obtain ⟨i1, i2⟩ := lk_mapK (fun x : Option (DObj X) => x.map (rnO (fN s.nx))) (fN s.nx) o j hinj
    simp only [fin, lko, lk_append]
    cases hj : lk (o.map fun p => (fN s.nx p.1, p.2.map (rnO (fN s.nx)))) j with
    | none => exact .inr ⟨rfl, i2 hj⟩
    | some y =>
      obtain ⟨q, x, g1, g2, g3⟩ := i1 y hj
      exact .inl ⟨q, x, g1, g2, by rw [g3]; rfl⟩
  refine ⟨fin s e o ops.size, h6, ?_, ?_, ?_⟩
  · constructor
    · exact hle
    · have := hl.ge; show 1000 ≤ s.nx + ops.size; omega
    · intro t j hj
      rw [lke_fin] at hj
      cases ht : lk e t with
      | none => rw [ht] at hj; have := hl.env t j hj; show j < s.nx + ops.size; omega
      | some x =>
        rw [ht, unsk_refs, drefs_rn] at hj
        obtain ⟨q, hq, rfl⟩ := List.mem_map.1 hj
        exact fN_lt hle (hEn t x ht q hq)
    · intro j x hx
      rcases hlko j with ⟨q, y, g1, rfl, g3⟩ | ⟨g1, _⟩
      · rw [g3] at hx
        rw [Option.map_eq_some_iff] at hx
        obtain ⟨z, rfl, rfl⟩ := hx
        obtain ⟨k1, k2⟩ := hOn _ (lk_mem g1)
        refine ⟨fN_lt hle k1, fun i hi => ?_⟩
        rw [orefs_rn] at hi
        obtain ⟨i', hi', rfl⟩ := List.mem_map.1 hi
        exact fN_lt hle (k2 z rfl i' hi')
      · rw [g1] at hx
        obtain ⟨k1, k2⟩ := hl.obj j x hx
        refine ⟨show j < s.nx + ops.size by omega, fun i hi => ?_⟩
        have := k2 i hi
        show i < s.nx + ops.size; omega
  · refine ⟨fun t ht => .inl ?_, ⟨o.map (fun p => fN s.nx p.1), rfl, fun j hj hn => ?_⟩, by show s.nx ≤ s.nx + ops.size; omega⟩
    · rw [lke_fin]
      cases hx : lk e t with
      | none => rfl
      | some x =>
        rcases h3 _ (lk_mem hx) with h | h
        · simp at h
        · exact (ht h).elim
    · rcases hlko j with ⟨q, y, g1, g2, g3⟩ | ⟨g1, _⟩
      · exact (hn (List.mem_map.2 ⟨(q, y), lk_mem g1, g2⟩)).elim
      · exact .inl g1
  · have hst : stOf s [] [] = s.st := rfl
    have hex := h4 (annT tr) (annT_mem hnod)
    rw [hst] at hex
    intro w0 O0 β I a w hr ho
    have done : ∀ (e' : Exit) (a' : Act) (w' : World), (∃ β' I' σ1, Rel P w0 O0 N β' I' σ1 a' w' ∧ e' = .normal ∧ σ1 = stOf s e o) → ∃ β' I' σ1, Rel P w0 O0 N β' I' σ1 a' w' ∧ Old σ1 ∧ e' = .normal ∧ σ1 = (fin s e o ops.size).st := by
      rintro e' a' w' ⟨β', I', σ1, g1, rfl, rfl⟩
      refine ⟨_, I', (fin s e o ops.size).st, Rel.re (f := fN s.nx) (g := gN s.nx) (D := fun k => k < s.nx ∨ (1000000 ≤ k ∧ k < 1000000 + ops.size)) (fun k hk => gfN hle hk) (fun j hj => by have := hl.ge; unfold gN; rw [if_pos (by omega)]) g1 (fun t => ?_) (fun _ => rfl) (fun t => .inr ?_) (fun j o' hj => ?_), ?_, rfl, rfl⟩
      · show (match lk e t with | some .skip => some false | _ => none) = none ∨ den (lke (fin s e o ops.size).env t) = .undef
        rw [lke_fin]
        cases ht : lk e t with
        | none => exact .inl rfl
        | some d => cases d <;> first | exact .inl rfl | exact .inr rfl
      · show (∀ k ∈ refs (den (lkE e s.env t)), _) ∧ Wkn (rnA (fN s.nx) (den (lkE e s.env t))) (den (lke (fin s e o ops.size).env t))
        rw [lke_fin, drefs_den, ← rnD_den]
        unfold lkE
        cases ht : lk e t with
        | none =>
          refine ⟨fun q hq => .inl (hl.env t q hq), ?_⟩
          rw [rnD_id _ (fun q hq => fN_id (by omega) (hl.env t q hq))]
          exact Wkn.refl _
        | some x => exact ⟨hEn t x ht, by simp only [unsk_den]; exact Wkn.refl _⟩
      · simp only [DSt.st, Option.map_eq_some_iff] at hj
        obtain ⟨x, hx, rfl⟩ := hj
        rcases hlko j with ⟨q, y, i1, rfl, i3⟩ | ⟨i1, i2⟩
        · rw [i3, Option.map_eq_some_iff] at hx
          obtain ⟨z, rfl, rfl⟩ := hx
          obtain ⟨k1, k2⟩ := hOn _ (lk_mem i1)
          obtain ⟨r1, r2⟩ := rowsW_den (D := fun k => k < s.nx ∨ (1000000 ≤ k ∧ k < 1000000 + ops.size)) (fN s.nx) z (fun i hi => k2 z rfl i hi)
          refine ⟨q, denO z, ?_, k1, rfl, r1, r2⟩
          simp only [stOf, lkO, i1, Option.map_some]
        · rw [i1] at hx
          obtain ⟨k1, k2⟩ := hl.obj j x hx
          have hid : rnO (fN s.nx) x = x := by
            cases x with
            | lst c l => rfl
            | cells sz rows =>
              simp only [rnO]
              congr 1
              have : ∀ q ∈ rows, rnDL (fN s.nx) q = q := fun q hq => rnDL_id q fun i hi => fN_id (by omega) (k2 i (by
                simp only [orefs, List.mem_flatten, List.mem_map]
                exact ⟨_, ⟨q, hq, rfl⟩, hi⟩))
              rw [List.map_congr_left this]; simp
          obtain ⟨r1, r2⟩ := rowsW_den (D := fun k => k < s.nx ∨ (1000000 ≤ k ∧ k < 1000000 + ops.size)) (fN s.nx) x (fun i hi => .inl (k2 i hi))
          rw [hid] at r1 r2
          refine ⟨j, denO x, ?_, .inl k1, fN_id (by omega) k1, r1, r2⟩
          simp only [stOf, lkO]
          cases hlo : lk o j with
          | none => simp [hx]
          | some y => exact (i2 _ (lk_mem hlo) (fN_id (by omega) k1)).elim
      · have hL : Low (fin s e o ops.size) := by
          constructor
          · exact hle
          · have := hl.ge; show 1000 ≤ s.nx + ops.size; omega
          · intro t j hj
            rw [lke_fin] at hj
            cases ht : lk e t with
            | none => rw [ht] at hj; have := hl.env t j hj; show j < s.nx + ops.size; omega
            | some x =>
              rw [ht, unsk_refs, drefs_rn] at hj
              obtain ⟨q, hq, rfl⟩ := List.mem_map.1 hj
              exact fN_lt hle (hEn t x ht q hq)
          · intro j x hx
            rcases hlko j with ⟨q, y, g1, rfl, g3⟩ | ⟨g1, _⟩
            · rw [g3] at hx
              rw [Option.map_eq_some_iff] at hx
              obtain ⟨z, rfl, rfl⟩ := hx
              obtain ⟨k1, k2⟩ := hOn _ (lk_mem g1)
              refine ⟨fN_lt hle k1, fun i hi => ?_⟩
              rw [orefs_rn] at hi
              obtain ⟨i', hi', rfl⟩ := List.mem_map.1 hi
              exact fN_lt hle (k2 z rfl i' hi')
            · rw [g1] at hx
              obtain ⟨k1, k2⟩ := hl.obj j x hx
              refine ⟨show j < s.nx + ops.size by omega, fun i hi => ?_⟩
              have := k2 i hi
              show i < s.nx + ops.size; omega
        exact hL.old
    cases d with
    | false => exact wp_mono (region_wp hT hd ho hex hr) done
    | true =>
      refine wp_mono (region_draw_wp hT hm hd ?_ ho hex hr) done
      rw [← lexOK_congr (annF_T hnod)]
      simpa using hlex
end
end Go.Gb

namespace Go.Gb
open Go.RowKit

/-- A slot's value: a datum that varies, a whole slice of the call's own, the address of an object, nil, a function, an aggregate. -/
inductive Pt (ι : Type) where
  | v (c : CT ι)
  | o (k : Nat)
  | p (k : Nat)
  | nil
  | f (F : FuncId)
  | a (ps : List (Pt ι))

inductive OP (ι : Type) where
  | l (c : CT ι)
  | c (sz : Nat) (rows : List (List (Pt ι)))

/-- What a state is told as: the slots and the objects that change, those that stay as they were, the next name. -/
structure Sh (ι : Type) where
  slots : List (Nat × Pt ι)
  objs : List (Nat × OP ι)
  keep : List Nat
  keepO : List Nat
  nx : Nat
  nils : List (Nat × CT ι)

section
variable {ι : Type}
mutual
def Pt.vars : Pt ι → List (CT ι)
  | .v c => [c]
  | .a ps => varsL ps
  | _ => []
def varsL : List (Pt ι) → List (CT ι)
  | [] => []
  | p :: ps => p.vars ++ varsL ps
end
def varsS : List (Nat × Pt ι) → List (CT ι)
  | [] => []
  | p :: ps => p.2.vars ++ varsS ps
def varsR : List (List (Pt ι)) → List (CT ι)
  | [] => []
  | r :: rs => varsL r ++ varsR rs
def varsO : List (Nat × OP ι) → List (CT ι)
  | [] => []
  | (_, .l c) :: r => .sl c :: varsO r
  | (_, .c _ rows) :: r => varsR rows ++ varsO r
def Sh.vars (s : Sh ι) : List (CT ι) := varsS s.slots ++ varsO s.objs
end

section
variable {X : SX}
structure DC (X : SX) where
  c : CT X.ι
  x : CT.T X.toSE c

/-- Some data, as one value. -/
@[reducible] def VT : List (CT X.ι) → Type
  | [] => Unit
  | [c] => CT.T X.toSE c
  | c :: c' :: l => CT.T X.toSE c × VT (c' :: l)

def toVT : (l : List (CT X.ι)) → List (DC X) → Option (VT (X := X) l)
  | [], [] => some ()
  | [c], [d] => castC d.c c d.x
  | c :: c' :: l, d :: ds => (castC d.c c d.x).bind fun x => (toVT (c' :: l) ds).bind fun v => some (x, v)
  | _, _ => none

def dcsV : (l : List (CT X.ι)) → VT (X := X) l → List (DC X)
  | [], _ => []
  | [c], x => [⟨c, x⟩]
  | c :: c' :: l, v => ⟨c, v.1⟩ :: dcsV (c' :: l) v.2

theorem castC_dc {d : DC X} {c : CT X.ι} {x : CT.T X.toSE c} (h : castC d.c c d.x = some x) : (⟨c, x⟩ : DC X) = d := by
  obtain ⟨a, y⟩ := d
  obtain ⟨e, h⟩ := castC_some h
  simp only at e
  subst e; subst h; rfl

theorem toVT_dcs : ∀ {l : List (CT X.ι)} {ds : List (DC X)} {v : VT (X := X) l}, toVT l ds = some v → dcsV l v = ds
  | [], [], _, _ => rfl
  | [c], [d], v, h => by simp only [toVT] at h; simp only [dcsV, castC_dc h]
  | c :: c' :: l, d :: ds, v, h => by
    simp only [toVT] at h
    rw [Option.bind_eq_some_iff] at h; obtain ⟨x, h1, h⟩ := h
    rw [Option.bind_eq_some_iff] at h; obtain ⟨v', h2, h⟩ := h
    injection h with h
    subst h
    simp only [dcsV, castC_dc h1, toVT_dcs h2]
  | [], _ :: _, _, h => by simp [toVT] at h
  | [_], [], _, h => by simp [toVT] at h
  | [_], _ :: _ :: _, _, h => by simp [toVT] at h
  | _ :: _ :: _, [], _, h => by simp [toVT] at h

/-- What has been matched so far: names, data, what must hold. -/
structure MA (X : SX) where
  nm : List (Nat × Nat)
  dcs : List (DC X)
  chk : List Bool

def addN (m : MA X) (k' k : Nat) : MA X := if m.nm.contains (k', k) then m else ⟨m.nm ++ [(k', k)], m.dcs, m.chk⟩

section
variable (get : Nat → Option (DObj X))
mutual
def mP : Pt X.ι → DV X → MA X → Option (MA X)
  | .v c, d, m => (dat d c).bind fun x => some ⟨m.nm, m.dcs ++ [⟨c, x⟩], m.chk⟩
  | .o k, d, m => match d with
    | .own k' 0 len => (get k').bind fun o => match o with
      | .lst _ l => some (addN ⟨m.nm, m.dcs, m.chk ++ [eqL len l.length]⟩ k' k)
      | _ => none
    | _ => none
  | .p k, d, m => match d with
    | .ptr k' 0 0 => some (addN m k' k)
    | _ => none
  | .nil, d, m => match d with
    | .nil => some m
    | _ => none
  | .f F, d, m => match d with
    | .fn F' [] [] => if F = F' then some m else none
    | _ => none
  | .a ps, d, m => match d with
    | .agg ds => mPs ps ds m
    | _ => none
def mPs : List (Pt X.ι) → List (DV X) → MA X → Option (MA X)
  | [], [], m => some m
  | p :: ps, d :: ds, m => (mP p d m).bind fun m => mPs ps ds m
  | _, _, _ => none
end

def mSlots (env : Nat → DV X) : List (Nat × Pt X.ι) → MA X → Option (MA X)
  | [], m => some m
  | (t, p) :: r, m => (mP get p (env t) m).bind fun m => mSlots env r m

def mRows : List (List (Pt X.ι)) → List (List (DV X)) → MA X → Option (MA X)
  | [], [], m => some m
  | r :: rs, q :: qs, m => (mPs get r q m).bind fun m => mRows rs qs m
  | _, _, _ => none

def nameOf (m : MA X) (k : Nat) : Nat := match m.nm.find? (fun q => q.2 == k) with | some q => q.1 | none => k

def mObjs : List (Nat × OP X.ι) → MA X → Option (MA X)
  | [], m => some m
  | (k, op) :: r, m => (get (nameOf m k)).bind fun o => match op, o with
    | .l c, .lst c' l => (castC (.sl c') (.sl c) l).bind fun l' => mObjs r (addN ⟨m.nm, m.dcs ++ [⟨.sl c, l'⟩], m.chk⟩ (nameOf m k) k)
    | .c sz rows, .cells sz' rows' => if sz = sz' then (mRows get rows rows' (addN m (nameOf m k) k)).bind fun m => mObjs r m else none
    | _, _ => none
end

section
variable (olen : Nat → Nat)
mutual
def eP : Pt X.ι → List (DC X) → DV X × List (DC X)
  | .v _, L => match L with
    | d :: r => (.c d.c d.x, r)
    | [] => (.undef, [])
  | .o k, L => (.own k 0 (olen k), L)
  | .p k, L => (.ptr k 0 0, L)
  | .nil, L => (.nil, L)
  | .f F, L => (.fn F [] [], L)
  | .a ps, L => (.agg (ePs ps L).1, (ePs ps L).2)
def ePs : List (Pt X.ι) → List (DC X) → List (DV X) × List (DC X)
  | [], L => ([], L)
  | p :: ps, L => ((eP p L).1 :: (ePs ps (eP p L).2).1, (ePs ps (eP p L).2).2)
end
def eSlots : List (Nat × Pt X.ι) → List (DC X) → List (Nat × DV X)
  | [], _ => []
  | (t, p) :: r, L => (t, (eP olen p L).1) :: eSlots r (eP olen p L).2
def eRows : List (List (Pt X.ι)) → List (DC X) → List (List (DV X)) × List (DC X)
  | [], L => ([], L)
  | r :: rs, L => ((ePs olen r L).1 :: (eRows rs (ePs olen r L).2).1, (eRows rs (ePs olen r L).2).2)
def eObjs : List (Nat × OP X.ι) → List (DC X) → List (Nat × Option (DObj X))
  | [], _ => []
  | (k, .l _) :: r, L => match L with
    | ⟨.sl c', x⟩ :: L => (k, some (.lst c' x)) :: eObjs r L
    | _ => []
  | (k, .c sz rows) :: r, L => (k, some (.cells sz (eRows olen rows L).1)) :: eObjs r (eRows olen rows L).2
end

/-- The lengths of the lists among the objects. -/
def lens : List (Nat × OP X.ι) → List (DC X) → List (Nat × Nat)
  | [], _ => []
  | (k, .l _) :: r, L => match L with
    | ⟨.sl _, x⟩ :: L => (k, List.length x) :: lens r L
    | _ => []
  | (_, .c _ rows) :: r, L => lens r (L.drop (varsR rows).length)

/-- A nil slice in a slot, as an own slice of no rows. -/
def nil1 (s : DSt X) (t : Nat) (c : CT X.ι) : DSt X :=
  match lke s.env t with
  | .nil => if s.nx < 1000000 then ⟨(t, .own s.nx 0 0) :: s.env, (s.nx, some (.lst c [])) :: s.obj, s.nx + 1, s.nx :: s.log⟩ else s
  | _ => s
def nilAll : List (Nat × CT X.ι) → DSt X → DSt X
  | [], s => s
  | (t, c) :: r, s => nilAll r (nil1 s t c)

def isU : DV X → Bool
  | .undef | .skip => true
  | _ => false

def encS (sh : Sh X.ι) (s0 : DSt X) (v : VT (X := X) sh.vars) : DSt X :=
  let L := dcsV sh.vars v
  let n := (varsS sh.slots).length
  let ol := fun k => (lk (lens sh.objs (L.drop n)) k).getD 0
  ⟨eSlots ol sh.slots (L.take n) ++ sh.keep.map (fun t => (t, lke s0.env t)), eObjs ol sh.objs (L.drop n) ++ sh.keepO.map (fun k => (k, lko s0.obj k)), sh.nx,
    (List.range s0.nx).filter (fun k => !sh.keepO.contains k) ++ s0.log⟩

def okS (sh : Sh X.ι) (ds : List Nat) (s0 s' : DSt X) (m : MA X) : Bool :=
  decide (m.nm.map (·.1) ++ sh.keepO).Nodup && decide (m.nm.map (·.2) ++ sh.keepO).Nodup && decide (sh.objs.map (·.1)).Nodup && m.nm.all (fun q => (sh.objs.map (·.1)).contains q.2 && decide (q.2 < sh.nx) && (decide (q.1 = q.2) || decide (1000 ≤ q.2))) &&
    sh.slots.all (fun p => ds.contains p.1) && sh.keep.all (fun t => !ds.contains t && !isU (lke s'.env t) && (drefs (lke s0.env t)).all fun j => sh.keepO.contains j || m.nm.contains (j, j)) &&
    sh.keepO.all (fun k => decide (k < s0.nx) && !(s'.log.take (s'.log.length - s0.log.length)).contains k && (lko s'.obj k).isSome && match lko s0.obj k with | some o => (orefs o).all fun j => sh.keepO.contains j || m.nm.contains (j, j) | none => false) &&
    decide (s0.nx ≤ sh.nx) && decide (sh.nx ≤ 1000000)

/-- A state at its end, told as a shape says. -/
def matchT {A : Type} (sh : Sh X.ι) (ds : List Nat) (s0 s' : DSt X) (k : VT (X := X) sh.vars → Option A) : Option A :=
  (mSlots (lko s'.obj) (lke s'.env) sh.slots ⟨[], [], []⟩).bind fun m => (mObjs (lko s'.obj) sh.objs m).bind fun m => bif okS sh ds s0 s' m then (toVT sh.vars m.dcs).bind fun v => chkA m.chk (k v) else none

def matchS {A : Type} (sh : Sh X.ι) (ds : List Nat) (s0 s' : DSt X) (k : VT (X := X) sh.vars → Option A) : Option A :=
  bif sh.nils.all (fun p => ds.contains p.1) then matchT sh ds s0 (nilAll sh.nils s') k else none
end
end Go.Gb

namespace Go.Gb
open Go.RowKit

section
variable {X : SX}

theorem VRl.wk {P : Program} {β : Nat → Option Blk} {w : World} {I : Nat → Prop} : ∀ (xs : List AV) (vs : List Value), VRl P β w I xs vs → VRl P β w I (xs.map Gb.wk) vs
  | [], [], h => h
  | x :: xs, v :: vs, h => by simp only [VRl] at h; simp only [List.map_cons, VRl]; exact ⟨h.1.wk, VRl.wk xs vs h.2⟩
  | [], _ :: _, h => by simp [VRl] at h
  | _ :: _, [], h => by simp [VRl] at h

theorem dat1_refs {d : DV X} {c : CT X.ι} {x : CT.T X.toSE c} (h : dat1 d c = some x) : drefs d = [] := by
  cases d
  case c => rfl
  case nil => rfl
  all_goals cases c <;> cases h

theorem readHL_refs : ∀ {ds : List (DV X)} {l : List (CT X.ι)} {h : HL X.toSE l}, readHL ds l = some h → drefsL ds = []
  | [], [], _, _ => rfl
  | d :: ds, c :: l, h, hr => by
    simp only [readHL] at hr
    rw [Option.bind_eq_some_iff] at hr; obtain ⟨x, h1, hr⟩ := hr
    rw [Option.bind_eq_some_iff] at hr; obtain ⟨g, h2, hr⟩ := hr
    simp only [drefsL, dat1_refs h1, readHL_refs h2, List.append_nil]
  | [], _ :: _, _, hr => by simp [readHL] at hr
  | _ :: _, [], _, hr => by simp [readHL] at hr

theorem dat_wkn {d : DV X} {c : CT X.ι} {x : CT.T X.toSE c} (h : dat d c = some x) : Wkn (den d) (den (.c c x : DV X)) ∧ drefs d = [] := by
  cases c
  case st i =>
    replace h : datS d i = some x := h
    cases d
    case agg cs =>
      simp only [datS] at h
      rw [Option.bind_eq_some_iff] at h; obtain ⟨g, h1, h⟩ := h
      injection h with h
      subst h
      refine ⟨fun P β w I v hv => ?_, by simp only [drefs, readHL_refs h1]⟩
      have h2 := (readHL_den h1 (X.flat i)).1
      simp only [den, VR] at hv
      obtain ⟨vs, rfl, hv⟩ := hv
      show VR P β w I (.agg ((X.row i (X.make i g)).map AV.t)) _
      have h3 : (X.row i (X.make i g)).map AV.t = (denL cs).map Gb.wk := by rw [h2]; exact congrArg _ (X.row_make i g)
      rw [h3]
      simp only [VR]
      exact ⟨vs, rfl, VRl.wk _ _ hv⟩
    case c a y =>
      replace h : castC a (.st i) y = some x := h
      rw [(castC_den h).1]
      exact ⟨Wkn.refl _, rfl⟩
    all_goals cases h
  all_goals
    have h1 := dat1_den h
    refine ⟨fun P β w I v hv => ?_, dat1_refs h⟩
    simp only [den]
    rw [← h1]
    exact hv.wk

def Mono (m m' : MA X) : Prop := (∀ q ∈ m.nm, q ∈ m'.nm) ∧ (∀ c ∈ m.chk, c ∈ m'.chk)
theorem Mono.refl (m : MA X) : Mono m m := ⟨fun _ h => h, fun _ h => h⟩
theorem Mono.trans {a b c : MA X} (h : Mono a b) (h' : Mono b c) : Mono a c := ⟨fun q hq => h'.1 q (h.1 q hq), fun q hq => h'.2 q (h.2 q hq)⟩

theorem addN_dcs (m : MA X) (k' k : Nat) : (addN m k' k).dcs = m.dcs ∧ (addN m k' k).chk = m.chk := by
  unfold addN; split <;> exact ⟨rfl, rfl⟩
theorem addN_mem (m : MA X) (k' k : Nat) : (k', k) ∈ (addN m k' k).nm := by
  unfold addN
  split
  · rename_i h; simpa using h
  · simp
theorem addN_mono (m : MA X) (k' k : Nat) : Mono m (addN m k' k) := by
  unfold addN
  split
  · exact Mono.refl m
  · exact ⟨fun q hq => by simp [hq], fun _ h => h⟩

variable {get : Nat → Option (DObj X)}

mutual
theorem mP_mono : ∀ (p : Pt X.ι) (d : DV X) (m m' : MA X), mP get p d m = some m' → Mono m m' ∧ ∃ new, m'.dcs = m.dcs ++ new ∧ new.length = p.vars.length
  | .v c, d, m, m', h => by
    simp only [mP] at h
    rw [Option.bind_eq_some_iff] at h; obtain ⟨x, h1, h⟩ := h
    injection h with h
    subst h
    exact ⟨⟨fun _ h => h, fun _ h => h⟩, [⟨c, x⟩], rfl, rfl⟩
  | .o k, d, m, m', h => by
    simp only [mP] at h
    split at h
    · rename_i k' len
      rw [Option.bind_eq_some_iff] at h; obtain ⟨o, h1, h⟩ := h
      split at h
      · injection h with h
        subst h
        refine ⟨Mono.trans (b := ⟨m.nm, m.dcs, m.chk ++ _⟩) ⟨fun _ h => h, fun _ h => by simp [h]⟩ (addN_mono _ _ _), [], by rw [(addN_dcs _ _ _).1]; simp, rfl⟩
      · cases h
    · cases h
  | .p k, d, m, m', h => by
    simp only [mP] at h
    split at h
    · injection h with h
      subst h
      exact ⟨addN_mono _ _ _, [], by rw [(addN_dcs _ _ _).1]; simp, rfl⟩
    · cases h
  | .nil, d, m, m', h => by
    simp only [mP] at h
    split at h
    · injection h with h
      subst h
      exact ⟨Mono.refl _, [], by simp, rfl⟩
    · cases h
  | .f F, d, m, m', h => by
    simp only [mP] at h
    split at h
    · split at h
      · injection h with h
        subst h
        exact ⟨Mono.refl _, [], by simp, rfl⟩
      · cases h
    · cases h
  | .a ps, d, m, m', h => by
    simp only [mP] at h
    split at h
    · exact mPs_mono ps _ m m' h
    · cases h
theorem mPs_mono : ∀ (ps : List (Pt X.ι)) (ds : List (DV X)) (m m' : MA X), mPs get ps ds m = some m' → Mono m m' ∧ ∃ new, m'.dcs = m.dcs ++ new ∧ new.length = (varsL ps).length
  | [], [], m, m', h => by
    simp only [mPs, Option.some.injEq] at h
    subst h
    exact ⟨Mono.refl _, [], by simp, rfl⟩
  | p :: ps, d :: ds, m, m', h => by
    simp only [mPs] at h
    rw [Option.bind_eq_some_iff] at h; obtain ⟨m1, h1, h⟩ := h
    obtain ⟨a1, n1, b1, c1⟩ := mP_mono p d m m1 h1
    obtain ⟨a2, n2, b2, c2⟩ := mPs_mono ps ds m1 m' h
    exact ⟨a1.trans a2, n1 ++ n2, by rw [b2, b1, List.append_assoc], by simp [varsL, c1, c2]⟩
  | [], _ :: _, m, m', h => by simp [mPs] at h
  | _ :: _, [], m, m', h => by simp [mPs] at h
end

theorem mRows_mono : ∀ (rs : List (List (Pt X.ι))) (qs : List (List (DV X))) (m m' : MA X), mRows get rs qs m = some m' → Mono m m' ∧ ∃ new, m'.dcs = m.dcs ++ new ∧ new.length = (varsR rs).length
  | [], [], m, m', h => by
    simp only [mRows, Option.some.injEq] at h
    subst h
    exact ⟨Mono.refl _, [], by simp, rfl⟩
  | r :: rs, q :: qs, m, m', h => by
    simp only [mRows] at h
    rw [Option.bind_eq_some_iff] at h; obtain ⟨m1, h1, h⟩ := h
    obtain ⟨a1, n1, b1, c1⟩ := mPs_mono r q m m1 h1
    obtain ⟨a2, n2, b2, c2⟩ := mRows_mono rs qs m1 m' h
    exact ⟨a1.trans a2, n1 ++ n2, by rw [b2, b1, List.append_assoc], by simp [varsR, c1, c2]⟩
  | [], _ :: _, m, m', h => by simp [mRows] at h
  | _ :: _, [], m, m', h => by simp [mRows] at h

section
variable {NM : List (Nat × Nat)} {f : Nat → Nat} {olen : Nat → Nat}

/-- A name that is told. -/
def DN (NM : List (Nat × Nat)) (j : Nat) : Prop := ∃ k, (j, k) ∈ NM
def SN (NM : List (Nat × Nat)) (j : Nat) : Prop := ∃ k, (k, j) ∈ NM

mutual
theorem mP_sound (hf : ∀ q ∈ NM, f q.1 = q.2) (ho : ∀ q ∈ NM, ∀ c l, get q.1 = some (.lst c l) → olen q.2 = l.length) : ∀ (p : Pt X.ι) (d : DV X) (m m' : MA X), mP get p d m = some m' → (∀ q ∈ m'.nm, q ∈ NM) → (∀ c ∈ m'.chk, c = true) →
    ∃ new, m'.dcs = m.dcs ++ new ∧ ∃ d', (∀ rest, eP olen p (new ++ rest) = (d', rest)) ∧ Wkn (rnA f (den d)) (den d') ∧ (∀ j ∈ drefs d, DN NM j) ∧ (∀ j ∈ drefs d', SN NM j)
  | .v c, d, m, m', h, _, _ => by
    simp only [mP] at h
    rw [Option.bind_eq_some_iff] at h; obtain ⟨x, h1, h⟩ := h
    injection h with h
    subst h
    obtain ⟨h2, h3⟩ := dat_wkn h1
    refine ⟨[⟨c, x⟩], rfl, .c c x, fun rest => rfl, ?_, by simp [h3], by simp [drefs]⟩
    rw [← rnD_den, rnD_id d (by simp [h3])]
    exact h2
  | .o k, d, m, m', h, hn, hc => by
    simp only [mP] at h
    split at h
    · rename_i k' len
      rw [Option.bind_eq_some_iff] at h; obtain ⟨o, h1, h⟩ := h
      split at h
      · rename_i c l
        injection h with h
        subst h
        have hq : (k', k) ∈ NM := hn _ (addN_mem _ _ _)
        have he : len = l.length := by
          have := hc (eqL len l.length) (by rw [(addN_dcs _ _ _).2]; simp)
          simpa [eqL] using this
        refine ⟨[], by rw [(addN_dcs _ _ _).1]; simp, .own k 0 (olen k), fun rest => rfl, ?_, ?_, ?_⟩
        · simp only [den, rnA]
          rw [hf _ hq, ho _ hq c l h1, he]
          exact Wkn.refl _
        · intro j hj
          simp only [drefs, List.mem_singleton] at hj
          subst hj
          exact ⟨k, hq⟩
        · intro j hj
          simp only [drefs, List.mem_singleton] at hj
          subst hj
          exact ⟨k', hq⟩
      · cases h
    · cases h
  | .p k, d, m, m', h, hn, hc => by
    simp only [mP] at h
    split at h
    · rename_i k'
      injection h with h
      subst h
      have hq : (k', k) ∈ NM := hn _ (addN_mem _ _ _)
      refine ⟨[], by rw [(addN_dcs _ _ _).1]; simp, .ptr k 0 0, fun rest => rfl, ?_, ?_, ?_⟩
      · simp only [den, rnA]
        rw [hf _ hq]
        exact Wkn.refl _
      · intro j hj
        simp only [drefs, List.mem_singleton] at hj
        subst hj
        exact ⟨k, hq⟩
      · intro j hj
        simp only [drefs, List.mem_singleton] at hj
        subst hj
        exact ⟨k', hq⟩
    · cases h
  | .nil, d, m, m', h, _, _ => by
    simp only [mP] at h
    split at h
    · injection h with h
      subst h
      exact ⟨[], by simp, .nil, fun rest => rfl, Wkn.refl _, by simp [drefs], by simp [drefs]⟩
    · cases h
  | .f F, d, m, m', h, _, _ => by
    simp only [mP] at h
    split at h
    · split at h
      · rename_i e
        injection h with h
        subst h; subst e
        exact ⟨[], by simp, .fn F [] [], fun rest => rfl, Wkn.refl _, by simp [drefs, drefsL], by simp [drefs, drefsL]⟩
      · cases h
    · cases h
  | .a ps, d, m, m', h, hn, hc => by
    simp only [mP] at h
    split at h
    · rename_i ds
      obtain ⟨new, h1, ds', h2, h3, h4, h5⟩ := mPs_sound hf ho ps ds m m' h hn hc
      refine ⟨new, h1, .agg ds', fun rest => by simp only [eP, h2], ?_, by simpa [drefs] using h4, by simpa [drefs] using h5⟩
      intro P β w I v hv
      simp only [den, rnA, VR] at hv ⊢
      obtain ⟨vs, rfl, hv⟩ := hv
      refine ⟨vs, rfl, ?_⟩
      have : ∀ (a b : List AV) (u : List Value), RowW (DN NM) f a b → VRl P β w I (rnAL f a) u → VRl P β w I b u := by
        intro a
        induction a with
        | nil => intro b u hr hu; cases b with
          | nil => exact hu
          | cons => exact hr.elim
        | cons y ys ih =>
          intro b u hr hu
          cases b with
          | nil => exact hr.elim
          | cons z zs =>
            cases u with
            | nil => simp [rnAL, VRl] at hu
            | cons v vs =>
              simp only [rnAL, VRl] at hu ⊢
              exact ⟨hr.1.2 _ _ _ _ _ hu.1, ih zs vs hr.2 hu.2⟩
      exact this _ _ _ h3 hv
    · cases h
theorem mPs_sound (hf : ∀ q ∈ NM, f q.1 = q.2) (ho : ∀ q ∈ NM, ∀ c l, get q.1 = some (.lst c l) → olen q.2 = l.length) : ∀ (ps : List (Pt X.ι)) (ds : List (DV X)) (m m' : MA X), mPs get ps ds m = some m' → (∀ q ∈ m'.nm, q ∈ NM) → (∀ c ∈ m'.chk, c = true) →
    ∃ new, m'.dcs = m.dcs ++ new ∧ ∃ ds', (∀ rest, ePs olen ps (new ++ rest) = (ds', rest)) ∧ RowW (DN NM) f (denL ds) (denL ds') ∧ (∀ j ∈ drefsL ds, DN NM j) ∧ (∀ j ∈ drefsL ds', SN NM j)
  | [], [], m, m', h, _, _ => by
    simp only [mPs, Option.some.injEq] at h
    subst h
    exact ⟨[], by simp, [], fun rest => rfl, trivial, by simp [drefsL], by simp [drefsL]⟩
  | p :: ps, d :: ds, m, m', h, hn, hc => by
    simp only [mPs] at h
    rw [Option.bind_eq_some_iff] at h; obtain ⟨m1, h1, h⟩ := h
    have hm := (mPs_mono ps ds m1 m' h).1
    obtain ⟨n1, a1, d', b1, c1, e1, g1⟩ := mP_sound hf ho p d m m1 h1 (fun q hq => hn q (hm.1 q hq)) (fun q hq => hc q (hm.2 q hq))
    obtain ⟨n2, a2, ds', b2, c2, e2, g2⟩ := mPs_sound hf ho ps ds m1 m' h hn hc
    refine ⟨n1 ++ n2, by rw [a2, a1, List.append_assoc], d' :: ds', fun rest => ?_, ⟨⟨fun k hk => e1 k (by rwa [drefs_den] at hk), c1⟩, c2⟩, ?_, ?_⟩
    · simp only [ePs, List.append_assoc, b1, b2]
    · intro j hj
      simp only [drefsL, List.mem_append] at hj
      exact hj.elim (e1 j) (e2 j)
    · intro j hj
      simp only [drefsL, List.mem_append] at hj
      exact hj.elim (g1 j) (g2 j)
  | [], _ :: _, m, m', h, _, _ => by simp [mPs] at h
  | _ :: _, [], m, m', h, _, _ => by simp [mPs] at h
end

theorem mRows_sound (hf : ∀ q ∈ NM, f q.1 = q.2) (ho : ∀ q ∈ NM, ∀ c l, get q.1 = some (.lst c l) → olen q.2 = l.length) : ∀ (rs : List (List (Pt X.ι))) (qs : List (List (DV X))) (m m' : MA X), mRows get rs qs m = some m' → (∀ q ∈ m'.nm, q ∈ NM) → (∀ c ∈ m'.chk, c = true) →
    ∃ new, m'.dcs = m.dcs ++ new ∧ ∃ qs', (∀ rest, eRows olen rs (new ++ rest) = (qs', rest)) ∧ RowsW (DN NM) f (qs.map denL) (qs'.map denL) ∧ (∀ j ∈ (qs.map drefsL).flatten, DN NM j) ∧ (∀ j ∈ (qs'.map drefsL).flatten, SN NM j)
  | [], [], m, m', h, _, _ => by
    simp only [mRows, Option.some.injEq] at h
    subst h
    exact ⟨[], by simp, [], fun rest => rfl, trivial, by simp, by simp⟩
  | r :: rs, q :: qs, m, m', h, hn, hc => by
    simp only [mRows] at h
    rw [Option.bind_eq_some_iff] at h; obtain ⟨m1, h1, h⟩ := h
    have hm := (mRows_mono rs qs m1 m' h).1
    obtain ⟨n1, a1, d', b1, c1, e1, g1⟩ := mPs_sound hf ho r q m m1 h1 (fun q hq => hn q (hm.1 q hq)) (fun q hq => hc q (hm.2 q hq))
    obtain ⟨n2, a2, ds', b2, c2, e2, g2⟩ := mRows_sound hf ho rs qs m1 m' h hn hc
    refine ⟨n1 ++ n2, by rw [a2, a1, List.append_assoc], d' :: ds', fun rest => ?_, ⟨c1, c2⟩, ?_, ?_⟩
    · simp only [eRows, List.append_assoc, b1, b2]
    · intro j hj
      simp only [List.map_cons, List.flatten_cons, List.mem_append] at hj
      exact hj.elim (e1 j) (e2 j)
    · intro j hj
      simp only [List.map_cons, List.flatten_cons, List.mem_append] at hj
      exact hj.elim (g1 j) (g2 j)
  | [], _ :: _, m, m', h, _, _ => by simp [mRows] at h
  | _ :: _, [], m, m', h, _, _ => by simp [mRows] at h
end
end
end Go.Gb

namespace Go.Gb
open Go.RowKit

section
variable {X : SX} {get : Nat → Option (DObj X)} {env : Nat → DV X}

theorem mSlots_mono : ∀ (sl : List (Nat × Pt X.ι)) (m m' : MA X), mSlots get env sl m = some m' → Mono m m' ∧ ∃ new, m'.dcs = m.dcs ++ new ∧ new.length = (varsS sl).length
  | [], m, m', h => by
    simp only [mSlots, Option.some.injEq] at h
    subst h
    exact ⟨Mono.refl _, [], by simp, rfl⟩
  | (t, p) :: r, m, m', h => by
    simp only [mSlots] at h
    rw [Option.bind_eq_some_iff] at h; obtain ⟨m1, h1, h⟩ := h
    obtain ⟨a1, n1, b1, c1⟩ := mP_mono p _ m m1 h1
    obtain ⟨a2, n2, b2, c2⟩ := mSlots_mono r m1 m' h
    exact ⟨a1.trans a2, n1 ++ n2, by rw [b2, b1, List.append_assoc], by simp [varsS, c1, c2]⟩

theorem mObjs_mono : ∀ (os : List (Nat × OP X.ι)) (m m' : MA X), mObjs get os m = some m' → Mono m m' ∧ ∃ new, m'.dcs = m.dcs ++ new ∧ new.length = (varsO os).length
  | [], m, m', h => by
    simp only [mObjs, Option.some.injEq] at h
    subst h
    exact ⟨Mono.refl _, [], by simp, rfl⟩
  | (k, op) :: r, m, m', h => by
    simp only [mObjs] at h
    rw [Option.bind_eq_some_iff] at h; obtain ⟨o, h1, h⟩ := h
    split at h
    · rename_i c c' l
      rw [Option.bind_eq_some_iff] at h; obtain ⟨l', h2, h⟩ := h
      obtain ⟨a2, n2, b2, c2⟩ := mObjs_mono r _ m' h
      refine ⟨Mono.trans (Mono.trans (b := ⟨m.nm, m.dcs ++ [⟨.sl c, l'⟩], m.chk⟩) ⟨fun _ h => h, fun _ h => h⟩ (addN_mono _ _ _)) a2, [⟨.sl c, l'⟩] ++ n2, ?_, by simp [varsO, c2]⟩
      rw [b2, (addN_dcs _ _ _).1, List.append_assoc]
    · rename_i sz rows sz' rows'
      split at h
      · rw [Option.bind_eq_some_iff] at h; obtain ⟨m1, h2, h⟩ := h
        obtain ⟨a1, n1, b1, c1⟩ := mRows_mono rows _ _ m1 h2
        obtain ⟨a2, n2, b2, c2⟩ := mObjs_mono r m1 m' h
        refine ⟨((addN_mono m _ _).trans a1).trans a2, n1 ++ n2, ?_, by simp [varsO, c1, c2]⟩
        rw [b2, b1, (addN_dcs _ _ _).1, List.append_assoc]
      · cases h
    · cases h

theorem nameOf_mem {m m' : MA X} {k : Nat} (h : (nameOf m k, k) ∈ m'.nm → True) : True := trivial

variable {NM : List (Nat × Nat)} {f : Nat → Nat} {olen : Nat → Nat}

/-- Each object of the shape has been found; a list's length is told. -/
theorem mObjs_lens : ∀ (os : List (Nat × OP X.ι)) (m m' : MA X), mObjs get os m = some m' → (∀ q ∈ m'.nm, q ∈ NM) → ∃ new, m'.dcs = m.dcs ++ new ∧ ∀ rest, ∀ k ∈ os.map (·.1), ∃ k' o, (k', k) ∈ NM ∧ get k' = some o ∧ ∀ c l, o = .lst c l → (k, List.length l) ∈ lens os (new ++ rest)
  | [], m, m', h, _ => by
    simp only [mObjs, Option.some.injEq] at h
    subst h
    exact ⟨[], by simp, fun rest k hk => by simp at hk⟩
  | (k, op) :: r, m, m', h, hn => by
    simp only [mObjs] at h
    rw [Option.bind_eq_some_iff] at h; obtain ⟨o, h1, h⟩ := h
    split at h
    · rename_i c c' l
      rw [Option.bind_eq_some_iff] at h; obtain ⟨l', h2, h⟩ := h
      have hm := (mObjs_mono r _ m' h).1
      obtain ⟨n2, b2, c2⟩ := mObjs_lens r _ m' h hn
      refine ⟨[⟨.sl c, l'⟩] ++ n2, by rw [b2, (addN_dcs _ _ _).1, List.append_assoc], fun rest j hj => ?_⟩
      simp only [List.map_cons, List.mem_cons] at hj
      simp only [List.append_assoc, List.cons_append, List.nil_append, lens]
      by_cases hjk : j = k
      · subst hjk
        refine ⟨_, _, hn _ (hm.1 _ (addN_mem _ _ _)), h1, fun c2 l2 he => ?_⟩
        injection he with e1 e2
        subst e1
        have e2 := eq_of_heq e2
        subst e2
        have := congrArg List.length (castL_den h2).2
        simp only [List.length_map] at this
        rw [this]; exact List.mem_cons_self
      · rcases hj with rfl | hj
        · exact (hjk rfl).elim
        · obtain ⟨k', o', g1, g2, g3⟩ := c2 rest j hj
          exact ⟨k', o', g1, g2, fun c l he => List.mem_cons_of_mem _ (g3 c l he)⟩
    · rename_i sz rows sz' rows'
      split at h
      · rw [Option.bind_eq_some_iff] at h; obtain ⟨m1, h2, h⟩ := h
        obtain ⟨a1, n1, b1, c1⟩ := mRows_mono rows _ _ m1 h2
        have hm := (mObjs_mono r _ m' h).1
        obtain ⟨n2, b2, c2⟩ := mObjs_lens r _ m' h hn
        refine ⟨n1 ++ n2, by rw [b2, b1, (addN_dcs _ _ _).1, List.append_assoc], fun rest j hj => ?_⟩
        simp only [List.map_cons, List.mem_cons] at hj
        have hd : (n1 ++ n2 ++ rest).drop (varsR rows).length = n2 ++ rest := by rw [← c1, List.append_assoc, List.drop_left]
        simp only [lens, hd]
        by_cases hjk : j = k
        · subst hjk
          exact ⟨_, _, hn _ (hm.1 _ (a1.1 _ (addN_mem _ _ _))), h1, fun c2 l2 he => by cases he⟩
        · rcases hj with rfl | hj
          · exact (hjk rfl).elim
          · exact c2 rest j hj
      · cases h
    · cases h

theorem lens_keys : ∀ (os : List (Nat × OP X.ι)) (L : List (DC X)), ((lens os L).map (·.1)).Sublist (os.map (·.1))
  | [], _ => by simp [lens]
  | (k, .l c) :: r, L => by
    simp only [lens]
    split
    · exact (lens_keys r _).cons_cons _
    · exact List.nil_sublist _
  | (k, .c sz rows) :: r, L => by
    simp only [lens]
    exact (lens_keys r _).cons _

theorem mSlots_sound (hf : ∀ q ∈ NM, f q.1 = q.2) (ho : ∀ q ∈ NM, ∀ c l, get q.1 = some (.lst c l) → olen q.2 = l.length) : ∀ (sl : List (Nat × Pt X.ι)) (m m' : MA X), mSlots get env sl m = some m' → (∀ q ∈ m'.nm, q ∈ NM) → (∀ c ∈ m'.chk, c = true) →
    ∃ new, m'.dcs = m.dcs ++ new ∧ ∃ es, (∀ rest, eSlots olen sl (new ++ rest) = es) ∧ (∀ p ∈ es, p.1 ∈ sl.map (·.1) ∧ Wkn (rnA f (den (env p.1))) (den p.2) ∧ (∀ j ∈ drefs (env p.1), DN NM j) ∧ (∀ j ∈ drefs p.2, SN NM j))
  | [], m, m', h, _, _ => by
    simp only [mSlots, Option.some.injEq] at h
    subst h
    exact ⟨[], by simp, [], fun rest => rfl, by simp⟩
  | (t, p) :: r, m, m', h, hn, hc => by
    simp only [mSlots] at h
    rw [Option.bind_eq_some_iff] at h; obtain ⟨m1, h1, h⟩ := h
    have hm := (mSlots_mono r m1 m' h).1
    obtain ⟨n1, a1, d', b1, c1, e1, g1⟩ := mP_sound hf ho p _ m m1 h1 (fun q hq => hn q (hm.1 q hq)) (fun q hq => hc q (hm.2 q hq))
    obtain ⟨n2, a2, es, b2, c2⟩ := mSlots_sound hf ho r m1 m' h hn hc
    refine ⟨n1 ++ n2, by rw [a2, a1, List.append_assoc], (t, d') :: es, fun rest => by simp only [eSlots, List.append_assoc, b1, b2], fun q hq => ?_⟩
    rcases List.mem_cons.1 hq with rfl | hq
    · exact ⟨by simp, c1, e1, g1⟩
    · obtain ⟨i1, i2⟩ := c2 q hq
      exact ⟨by simp only [List.map_cons, List.mem_cons]; exact .inr i1, i2⟩

theorem rowsW_lst {D : Nat → Prop} (f : Nat → Nat) : ∀ rows : List (List Tree), RowsW D f (avRows rows) (avRows rows)
  | [] => trivial
  | r :: rs => by
    refine ⟨?_, rowsW_lst f rs⟩
    induction r with
    | nil => trivial
    | cons y ys ih => exact ⟨⟨by simp [refs], Wkn.refl _⟩, ih⟩

theorem mObjs_sound (hf : ∀ q ∈ NM, f q.1 = q.2) (ho : ∀ q ∈ NM, ∀ c l, get q.1 = some (.lst c l) → olen q.2 = l.length) : ∀ (os : List (Nat × OP X.ι)) (m m' : MA X), mObjs get os m = some m' → (∀ q ∈ m'.nm, q ∈ NM) → (∀ c ∈ m'.chk, c = true) →
    ∃ new, m'.dcs = m.dcs ++ new ∧ ∃ xs, (∀ rest, eObjs olen os (new ++ rest) = xs) ∧ (∀ p ∈ xs, p.1 ∈ os.map (·.1) ∧ ∃ k' o o', p.2 = some o' ∧ (k', p.1) ∈ NM ∧ get k' = some o ∧ (denO o').sz = (denO o).sz ∧ RowsW (DN NM) f (denO o).rows (denO o').rows ∧ (∀ j ∈ orefs o', SN NM j))
  | [], m, m', h, _, _ => by
    simp only [mObjs, Option.some.injEq] at h
    subst h
    exact ⟨[], by simp, [], fun rest => rfl, by simp⟩
  | (k, op) :: r, m, m', h, hn, hc => by
    simp only [mObjs] at h
    rw [Option.bind_eq_some_iff] at h; obtain ⟨o, h1, h⟩ := h
    split at h
    · rename_i c c' l
      rw [Option.bind_eq_some_iff] at h; obtain ⟨l', h2, h⟩ := h
      have hm := (mObjs_mono r _ m' h).1
      obtain ⟨n2, a2, xs, b2, c2⟩ := mObjs_sound hf ho r _ m' h hn hc
      refine ⟨[⟨.sl c, l'⟩] ++ n2, by rw [a2, (addN_dcs _ _ _).1, List.append_assoc], (k, some (.lst c l')) :: xs, fun rest => by simp only [List.append_assoc, List.cons_append, List.nil_append, eObjs, b2], fun q hq => ?_⟩
      rcases List.mem_cons.1 hq with rfl | hq
      · refine ⟨by simp, _, _, _, rfl, hn _ (hm.1 _ (addN_mem _ _ _)), h1, ?_, ?_, by simp [orefs]⟩
        · simp only [denO, (castL_den h2).1]
        · simp only [denO, (castL_den h2).2]; exact rowsW_lst f _
      · obtain ⟨i1, i2⟩ := c2 q hq
        exact ⟨by simp only [List.map_cons, List.mem_cons]; exact .inr i1, i2⟩
    · rename_i sz rows sz' rows'
      split at h
      · rename_i hsz
        rw [Option.bind_eq_some_iff] at h; obtain ⟨m1, h2, h⟩ := h
        have hm1 := (mRows_mono rows _ _ m1 h2).1
        have hm := (mObjs_mono r _ m' h).1
        obtain ⟨n1, a1, qs, b1, c1, e1, g1⟩ := mRows_sound hf ho rows _ _ m1 h2 (fun q hq => hn q (hm.1 q hq)) (fun q hq => hc q (hm.2 q hq))
        obtain ⟨n2, a2, xs, b2, c2⟩ := mObjs_sound hf ho r _ m' h hn hc
        refine ⟨n1 ++ n2, by rw [a2, a1, (addN_dcs _ _ _).1, List.append_assoc], (k, some (.cells sz qs)) :: xs, fun rest => by simp only [List.append_assoc, eObjs, b1, b2], fun q hq => ?_⟩
        rcases List.mem_cons.1 hq with rfl | hq
        · exact ⟨by simp, _, _, _, rfl, hn _ (hm.1 _ (hm1.1 _ (addN_mem _ _ _))), h1, hsz, c1, g1⟩
        · obtain ⟨i1, i2⟩ := c2 q hq
          exact ⟨by simp only [List.map_cons, List.mem_cons]; exact .inr i1, i2⟩
      · cases h
    · cases h

theorem drefs_isU {d : DV X} (h : isU d = false) (h' : d = .undef) : False := by subst h'; cases h

theorem matchT_sound {A : Type} {sh : Sh X.ι} {ds : List Nat} {s0 s' : DSt X} {k : VT (X := X) sh.vars → Option A} {r : A} (hl0 : Low s0) (hx : Ext (· ∈ ds) s0 s') (h : matchT sh ds s0 s' k = some r) :
    ∃ v, k v = some r ∧ Low (encS sh s0 v) ∧ Ext (· ∈ ds) s0 (encS sh s0 v) ∧ ∀ (P : Program) (w0 : World) (O0 : Was) (N : Nat) (β : Nat → Option Blk) (I : Nat → Prop) (a : Act) (w : World), Rel P w0 O0 N β I s'.st a w → ∃ β', Rel P w0 O0 N β' I (encS sh s0 v).st a w := by
  unfold matchT at h
  rw [Option.bind_eq_some_iff] at h; obtain ⟨m1, h1, h⟩ := h
  rw [Option.bind_eq_some_iff] at h; obtain ⟨m, h2, h⟩ := h
  obtain ⟨h3, h⟩ := cond_some h
  rw [Option.bind_eq_some_iff] at h; obtain ⟨v, h4, h⟩ := h
  obtain ⟨h5, h6⟩ := chkA_some h
  simp only [okS, Bool.and_eq_true, decide_eq_true_eq] at h3
  obtain ⟨⟨⟨⟨⟨⟨⟨⟨n1, n2⟩, n3⟩, n4⟩, n5⟩, n6⟩, n7⟩, n8⟩, n9⟩ := h3
  have hm2 := (mObjs_mono _ _ _ h2).1
  have hdcs := toVT_dcs h4
  obtain ⟨_, nA, dA, lA⟩ := mSlots_mono _ _ _ h1
  simp only [List.nil_append] at dA
  have hnd1 : (m.nm.map (·.1)).Nodup := (List.nodup_append.1 n1).1
  have hnd2 : (m.nm.map (·.2)).Nodup := (List.nodup_append.1 n2).1
  have hsw : ((m.nm.map fun q => (q.2, q.1)).map (·.1)).Nodup := by rw [List.map_map]; exact hnd2
  -- the names, there and back
  generalize hf' : (fun j => match lk m.nm j with | some q => q | none => j : Nat → Nat) = f
  generalize hg' : (fun j => match lk (m.nm.map fun q => (q.2, q.1)) j with | some q => q | none => j : Nat → Nat) = g
  have hf : ∀ q ∈ m.nm, f q.1 = q.2 := by
    rintro ⟨p, q⟩ hq
    rw [← hf']
    simp only [lk_of_mem hnd1 hq]
  have hg : ∀ q ∈ m.nm, g q.2 = q.1 := by
    rintro ⟨p, q⟩ hq
    rw [← hg']
    have : (q, p) ∈ m.nm.map fun q => (q.2, q.1) := List.mem_map.2 ⟨(p, q), hq, rfl⟩
    simp only [lk_of_mem hsw this]
  have hfk : ∀ j ∈ sh.keepO, f j = j := by
    intro j hj
    rw [← hf']
    cases hh : lk m.nm j with
    | none => simp [hh]
    | some q => exact ((List.nodup_append.1 n1).2.2 j (List.mem_map.2 ⟨(j, q), lk_mem hh, rfl⟩) j hj rfl).elim
  have hgk : ∀ j ∈ sh.keepO, g j = j := by
    intro j hj
    rw [← hg']
    cases hh : lk (m.nm.map fun q => (q.2, q.1)) j with
    | none => simp [hh]
    | some q =>
      have h1 := lk_mem hh
      simp only [List.mem_map] at h1
      obtain ⟨z, hz, e⟩ := h1
      injection e with e1 e2
      exact ((List.nodup_append.1 n2).2.2 j (List.mem_map.2 ⟨z, hz, e1⟩) j hj rfl).elim
  have hg0 : ∀ j, j < 1000 → g j = j := by
    intro j hj
    rw [← hg']
    cases hh : lk (m.nm.map fun q => (q.2, q.1)) j with
    | none => simp [hh]
    | some q =>
      have h1 := lk_mem hh
      simp only [List.mem_map] at h1
      obtain ⟨z, hz, e⟩ := h1
      injection e with e1 e2
      have := List.all_eq_true.1 n4 z hz
      simp only [Bool.and_eq_true, Bool.or_eq_true, decide_eq_true_eq] at this
      simp only [hh]
      omega
  have hgf : ∀ j, (DN m.nm j ∨ j ∈ sh.keepO) → g (f j) = j := by
    rintro j (⟨q, hq⟩ | hj)
    · rw [hf _ hq]; exact hg _ hq
    · rw [hfk j hj]; exact hgk j hj
  -- the lists' lengths
  obtain ⟨nB, dB, lB⟩ := mObjs_lens (NM := m.nm) _ _ _ h2 (fun q hq => hq)
  have hL : m.dcs = nA ++ nB := by rw [dB, dA]
  have hdrop : (dcsV sh.vars v).drop (varsS sh.slots).length = nB := by rw [hdcs, hL, ← lA, List.drop_left]
  have htake : (dcsV sh.vars v).take (varsS sh.slots).length = nA := by rw [hdcs, hL, ← lA, List.take_left]
  generalize hol : (fun k => (lk (lens sh.objs nB) k).getD 0 : Nat → Nat) = olen
  have ho : ∀ q ∈ m.nm, ∀ c l, lko s'.obj q.1 = some (.lst c l) → olen q.2 = l.length := by
    rintro ⟨p, q⟩ hq c l hl
    have hqk := List.all_eq_true.1 n4 _ hq
    simp only [Bool.and_eq_true] at hqk
    obtain ⟨p', o, g1, g2, g3⟩ := lB [] q (by simpa using hqk.1.1)
    have : p' = p := by
      have e1 := hg _ g1
      have e2 := hg _ hq
      simp only at e1 e2
      rw [← e1, e2]
    subst this
    simp only at hl
    rw [hl] at g2
    injection g2 with g2
    have h3 := g3 c l g2.symm
    rw [List.append_nil] at h3
    rw [← hol]
    have hk := (lens_keys sh.objs nB).nodup n3
    simp only [lk_of_mem hk h3, Option.getD_some]
  obtain ⟨nA', dA', es, eA, pA⟩ := mSlots_sound (NM := m.nm) (f := f) (olen := olen) hf ho _ _ _ h1 (fun q hq => hm2.1 q hq) (fun c hc => h5 c (hm2.2 c hc))
  obtain ⟨nB', dB', xs, eB, pB⟩ := mObjs_sound (NM := m.nm) (f := f) (olen := olen) hf ho _ _ _ h2 (fun q hq => hq) h5
  have eqA : nA' = nA := by simp only [List.nil_append] at dA'; rw [← dA', dA]
  have eqB : nB' = nB := List.append_cancel_left (dB'.symm.trans dB)
  subst eqA eqB
  have eA0 := eA []
  have eB0 := eB []
  rw [List.append_nil] at eA0 eB0
  have hS : encS sh s0 v = ⟨es ++ sh.keep.map (fun t => (t, lke s0.env t)), xs ++ sh.keepO.map (fun k => (k, lko s0.obj k)), sh.nx, (List.range s0.nx).filter (fun k => !sh.keepO.contains k) ++ s0.log⟩ := by
    simp only [encS, hdrop, htake, hol, eA0, eB0]
  have hsn : ∀ j, SN m.nm j → j < sh.nx := by
    rintro j ⟨p, hp⟩
    have := List.all_eq_true.1 n4 _ hp
    simp only [Bool.and_eq_true, decide_eq_true_eq] at this
    exact this.1.2
  have kp : ∀ j, (sh.keepO.contains j || m.nm.contains (j, j)) = true → j ∈ sh.keepO ∨ (j, j) ∈ m.nm := by
    intro j hj
    simpa using hj
  have hfp : ∀ j, j ∈ sh.keepO ∨ (j, j) ∈ m.nm → f j = j := fun j hj => hj.elim (hfk j) (fun h => hf (j, j) h)
  have hdp : ∀ j, j ∈ sh.keepO ∨ (j, j) ∈ m.nm → DN m.nm j ∨ j ∈ sh.keepO := fun j hj => hj.elim .inr (fun h => .inl ⟨j, h⟩)
  have hko : ∀ j ∈ sh.keepO, j < s0.nx ∧ (∃ o, lko s0.obj j = some o ∧ lko s'.obj j = some o ∧ ∀ i ∈ orefs o, i ∈ sh.keepO ∨ (i, i) ∈ m.nm) := by
    intro j hj
    have := List.all_eq_true.1 n7 _ hj
    simp only [Bool.and_eq_true, decide_eq_true_eq, Bool.not_eq_true'] at this
    obtain ⟨⟨⟨a1, a2⟩, a3⟩, a4⟩ := this
    refine ⟨a1, ?_⟩
    cases ho0 : lko s0.obj j with
    | none => rw [ho0] at a4; cases a4
    | some o =>
      rw [ho0] at a4
      refine ⟨o, rfl, ?_, fun i hi => kp i (List.all_eq_true.1 a4 i hi)⟩
      obtain ⟨d, hd, hd2⟩ := hx.obj
      have hnd : j ∉ d := by
        have e : s'.log.take (s'.log.length - s0.log.length) = d := by rw [hd, List.length_append, Nat.add_sub_cancel, List.take_left]
        rw [e] at a2
        simpa using a2
      rcases hd2 j a1 hnd with h | h
      · rw [h, ho0]
      · rw [h] at a3; cases a3
  have hke : ∀ t ∈ sh.keep, t ∉ ds ∧ lke s'.env t = lke s0.env t ∧ ∀ j ∈ drefs (lke s0.env t), j ∈ sh.keepO ∨ (j, j) ∈ m.nm := by
    intro t ht
    have := List.all_eq_true.1 n6 _ ht
    simp only [Bool.and_eq_true, Bool.not_eq_true'] at this
    obtain ⟨⟨a1, a2⟩, a3⟩ := this
    have a1' : t ∉ ds := by simpa using a1
    refine ⟨a1', ?_, fun j hj => kp j (List.all_eq_true.1 a3 j hj)⟩
    rcases hx.env t a1' with h | h
    · exact h
    · exact (drefs_isU a2 h).elim
  have hks : ∀ q ∈ es, q.1 ∈ ds := by
    intro q hq
    have h1 := (pA q hq).1
    obtain ⟨z, hz, e⟩ := List.mem_map.1 h1
    have := List.all_eq_true.1 n5 _ hz
    rw [← e]; simpa using this
  have hkeep : ∀ t, lk (sh.keep.map fun t => (t, lke s0.env t)) t = if t ∈ sh.keep then some (lke s0.env t) else none := by
    intro t
    induction sh.keep with
    | nil => simp [lk]
    | cons q qs ih =>
      simp only [List.map_cons, lk, ih, List.mem_cons]
      by_cases e : q = t
      · subst e; simp
      · rw [if_neg e]; simp [Ne.symm e]
  have hkeepO : ∀ t, lk (sh.keepO.map fun t => (t, lko s0.obj t)) t = if t ∈ sh.keepO then some (lko s0.obj t) else none := by
    intro t
    induction sh.keepO with
    | nil => simp [lk]
    | cons q qs ih =>
      simp only [List.map_cons, lk, ih, List.mem_cons]
      by_cases e : q = t
      · subst e; simp
      · rw [if_neg e]; simp [Ne.symm e]
  have henv : ∀ t, (∃ d, (t, d) ∈ es ∧ lke (encS sh s0 v).env t = d) ∨ (t ∈ sh.keep ∧ lke (encS sh s0 v).env t = lke s0.env t) ∨ lke (encS sh s0 v).env t = .undef := by
    intro t
    have e1 : lke (encS sh s0 v).env t = (match lk es t with | some d => some d | none => if t ∈ sh.keep then some (lke s0.env t) else none).getD .undef := by
      rw [hS]
      show (lk (es ++ sh.keep.map (fun t => (t, lke s0.env t))) t).getD .undef = _
      rw [lk_append, hkeep t]
      cases lk es t <;> rfl
    rw [e1]
    cases he : lk es t with
    | some d => exact .inl ⟨d, lk_mem he, rfl⟩
    | none =>
      by_cases ht : t ∈ sh.keep
      · simp only [if_pos ht]; exact .inr (.inl ⟨ht, rfl⟩)
      · simp only [if_neg ht]; exact .inr (.inr rfl)
  have hobj : ∀ j o, lko (encS sh s0 v).obj j = some o → (∃ k' o1, (k', j) ∈ m.nm ∧ lko s'.obj k' = some o1 ∧ (denO o).sz = (denO o1).sz ∧ RowsW (DN m.nm) f (denO o1).rows (denO o).rows ∧ (∀ i ∈ orefs o, SN m.nm i)) ∨ (j ∈ sh.keepO ∧ lko s0.obj j = some o) := by
    intro j o hjo
    have e1 : lko (encS sh s0 v).obj j = (match lk xs j with | some d => some d | none => if j ∈ sh.keepO then some (lko s0.obj j) else none).join := by
      rw [hS]
      show (lk (xs ++ sh.keepO.map (fun k => (k, lko s0.obj k))) j).join = _
      rw [lk_append, hkeepO j]
      cases lk xs j <;> rfl
    rw [e1] at hjo
    cases he : lk xs j with
    | some x =>
      rw [he] at hjo
      obtain ⟨_, k', o1, o', b1, b2, b3, b4, b5, b6⟩ := pB _ (lk_mem he)
      simp only at b1 b2 hjo
      subst b1
      simp only [Option.join_some, Option.some.injEq] at hjo
      subst hjo
      exact .inl ⟨k', o1, b2, b3, b4, b5, b6⟩
    | none =>
      rw [he] at hjo
      by_cases hj : j ∈ sh.keepO
      · simp only [if_pos hj, Option.join_some] at hjo
        exact .inr ⟨hj, hjo⟩
      · simp [if_neg hj] at hjo
  have hnx : s0.nx ≤ sh.nx := n8
  have hkx : ∀ j, j ∈ sh.keepO ∨ (j, j) ∈ m.nm → j < sh.nx := fun j hj => hj.elim (fun hj => Nat.lt_of_lt_of_le (hko j hj).1 hnx) (fun h => hsn j ⟨j, h⟩)
  have hRW : ∀ {r q : List AV}, RowW (DN m.nm) f r q → RowW (fun j => DN m.nm j ∨ j ∈ sh.keepO) f r q := by
    intro r
    induction r with
    | nil => intro q h; cases q with
      | nil => trivial
      | cons => exact h.elim
    | cons x xs ih => intro q h; cases q with
      | nil => exact h.elim
      | cons y ys => exact ⟨⟨fun k hk => .inl (h.1.1 k hk), h.1.2⟩, ih h.2⟩
  have hRsW : ∀ {r q : List (List AV)}, RowsW (DN m.nm) f r q → RowsW (fun j => DN m.nm j ∨ j ∈ sh.keepO) f r q := by
    intro r
    induction r with
    | nil => intro q h; cases q with
      | nil => trivial
      | cons => exact h.elim
    | cons x xs ih => intro q h; cases q with
      | nil => exact h.elim
      | cons y ys => exact ⟨hRW h.1, ih h.2⟩
  refine ⟨v, h6, ?_, ?_, ?_⟩
  · constructor
    · rw [hS]; exact n9
    · rw [hS]; exact Nat.le_trans hl0.ge n8
    · intro t j hj
      have hnx' : (encS sh s0 v).nx = sh.nx := by rw [hS]
      rw [hnx']
      rcases henv t with ⟨d, h1, h2⟩ | ⟨h1, h2⟩ | h2
      · rw [h2] at hj
        exact hsn j ((pA _ h1).2.2.2 j hj)
      · rw [h2] at hj
        exact hkx j ((hke t h1).2.2 j hj)
      · rw [h2] at hj; simp [drefs] at hj
    · intro j o hjo
      have hnx' : (encS sh s0 v).nx = sh.nx := by rw [hS]
      rw [hnx']
      rcases hobj j o hjo with ⟨k', o1, b1, b2, b3, b4, b5⟩ | ⟨b1, b2⟩
      · exact ⟨hsn j ⟨k', b1⟩, fun i hi => hsn i (b5 i hi)⟩
      · obtain ⟨c1, o', c2, c3, c4⟩ := hko j b1
        rw [b2] at c2
        injection c2 with c2
        subst c2
        exact ⟨hkx j (.inl b1), fun i hi => hkx i (c4 i hi)⟩
  · refine ⟨fun t ht => ?_, ⟨(List.range s0.nx).filter (fun k => !sh.keepO.contains k), by rw [hS], fun j hj hn => ?_⟩, by rw [hS]; exact hnx⟩
    · rcases henv t with ⟨d, h1, h2⟩ | ⟨h1, h2⟩ | h2
      · exact (ht (hks _ h1)).elim
      · exact .inl h2
      · exact .inr h2
    · have hjk : j ∈ sh.keepO := by
        simpa [hj] using hn
      cases hjo : lko (encS sh s0 v).obj j with
      | none => exact .inr rfl
      | some o =>
        rcases hobj j o hjo with ⟨k', o1, b1, _⟩ | ⟨b1, b2⟩
        · exact ((List.nodup_append.1 n2).2.2 j (List.mem_map.2 ⟨(k', j), b1, rfl⟩) j hjk rfl).elim
        · exact .inl b2.symm
  · intro P w0 O0 N β I a w hr
    refine ⟨_, Rel.re (f := f) (g := g) (D := fun j => DN m.nm j ∨ j ∈ sh.keepO) hgf hg0 hr (fun _ => .inl rfl) (fun _ => rfl) (fun t => ?_) (fun j o' hj => ?_)⟩
    · show den (lke (encS sh s0 v).env t) = .undef ∨ ((∀ k ∈ refs (den (lke s'.env t)), _) ∧ Wkn (rnA f (den (lke s'.env t))) (den (lke (encS sh s0 v).env t)))
      rcases henv t with ⟨d, h1, h2⟩ | ⟨h1, h2⟩ | h2
      · right
        rw [h2]
        obtain ⟨_, b1, b2, _⟩ := pA _ h1
        exact ⟨fun k hk => .inl (b2 k (by rwa [drefs_den] at hk)), b1⟩
      · right
        obtain ⟨_, b1, b2⟩ := hke t h1
        rw [h2, b1]
        refine ⟨fun k hk => hdp k (b2 k (by rwa [drefs_den] at hk)), ?_⟩
        rw [← rnD_den, rnD_id _ (fun k hk => hfp k (b2 k hk))]
        exact Wkn.refl _
      · left; rw [h2]; rfl
    · simp only [DSt.st, Option.map_eq_some_iff] at hj
      obtain ⟨o, hjo, rfl⟩ := hj
      rcases hobj j o hjo with ⟨k', o1, b1, b2, b3, b4, b5⟩ | ⟨b1, b2⟩
      · exact ⟨k', denO o1, by simp [DSt.st, b2], .inl ⟨j, b1⟩, hf _ b1, b3, hRsW b4⟩
      · obtain ⟨c1, o', c2, c3, c4⟩ := hko j b1
        rw [b2] at c2
        injection c2 with c2
        subst c2
        have hid : rnO f o = o := by
          cases o with
          | lst c l => rfl
          | cells sz rows =>
            simp only [rnO]
            congr 1
            have : ∀ q ∈ rows, rnDL f q = q := fun q hq => rnDL_id q fun i hi => hfp i (c4 i (by
              simp only [orefs, List.mem_flatten, List.mem_map]
              exact ⟨_, ⟨q, hq, rfl⟩, hi⟩))
            rw [List.map_congr_left this]; simp
        obtain ⟨r1, r2⟩ := rowsW_den (D := fun j => DN m.nm j ∨ j ∈ sh.keepO) f o (fun i hi => hdp i (c4 i hi))
        rw [hid] at r1 r2
        exact ⟨j, denO o, by simp [DSt.st, c3], .inr b1, hfk j b1, r1, r2⟩

theorem Ext.trans {ds : Nat → Prop} {a b c : DSt X} (h : Ext ds a b) (h' : Ext ds b c) : Ext ds a c := by
  refine ⟨fun t ht => ?_, ?_, Nat.le_trans h.nx h'.nx⟩
  · rcases h'.env t ht with h1 | h1
    · rcases h.env t ht with h2 | h2
      · exact .inl (h1.trans h2)
      · exact .inr (h1.trans h2)
    · exact .inr h1
  · obtain ⟨d, h1, h2⟩ := h.obj
    obtain ⟨d', h3, h4⟩ := h'.obj
    refine ⟨d' ++ d, by rw [h3, h1, List.append_assoc], fun k hk hn => ?_⟩
    simp only [List.mem_append, not_or] at hn
    rcases h4 k (Nat.lt_of_lt_of_le hk h.nx) hn.1 with h5 | h5
    · rcases h2 k hk hn.2 with h6 | h6
      · exact .inl (h5.trans h6)
      · exact .inr (h5.trans h6)
    · exact .inr h5

theorem Ext.refl (ds : Nat → Prop) (s : DSt X) : Ext ds s s := ⟨fun _ _ => .inl rfl, ⟨[], by simp, fun _ _ _ => .inl rfl⟩, Nat.le_refl _⟩

/-- A state that says what another one says. -/
def Says (s s' : DSt X) : Prop := ∀ (P : Program) (w0 : World) (O0 : Was) (N : Nat) (β : Nat → Option Blk) (I : Nat → Prop) (a : Act) (w : World), Rel P w0 O0 N β I s.st a w → ∃ β', Rel P w0 O0 N β' I s'.st a w

theorem nil1_sound {ds : List Nat} {s : DSt X} {t : Nat} {c : CT X.ι} (hl : Low s) (ht : t ∈ ds) : Low (nil1 s t c) ∧ Ext (· ∈ ds) s (nil1 s t c) ∧ Says s (nil1 s t c) := by
  unfold nil1
  split
  · rename_i hn
    split
    · rename_i hlt
      have he : ∀ q, lke ((t, .own s.nx 0 0) :: s.env) q = if t = q then .own s.nx 0 0 else lke s.env q := fun q => by
        simp only [lke, lk]
        by_cases e : t = q <;> simp [e]
      have hO : ∀ q, lko ((s.nx, some (.lst c [])) :: s.obj) q = if s.nx = q then some (.lst c []) else lko s.obj q := fun q => by
        simp only [lko, lk]
        by_cases e : s.nx = q <;> simp [e]
      refine ⟨⟨by show s.nx + 1 ≤ 1000000; omega, by have := hl.ge; show 1000 ≤ s.nx + 1; omega, fun q k hk => ?_, fun k o ho => ?_⟩, ⟨fun q hq => ?_, ⟨[s.nx], rfl, fun k hk hnk => ?_⟩, by show s.nx ≤ s.nx + 1; omega⟩, fun P w0 O0 N β I a w hr => ?_⟩
      · rw [he] at hk
        split at hk
        · simp only [drefs, List.mem_singleton] at hk
          subst hk; show s.nx < s.nx + 1; omega
        · have := hl.env q k hk
          show k < s.nx + 1; omega
      · rw [hO] at ho
        split at ho
        · rename_i e
          injection ho with ho
          subst ho; subst e
          exact ⟨by show s.nx < s.nx + 1; omega, by simp [orefs]⟩
        · obtain ⟨h1, h2⟩ := hl.obj k o ho
          exact ⟨by show k < s.nx + 1; omega, fun j hj => by have := h2 j hj; show j < s.nx + 1; omega⟩
      · left
        rw [he, if_neg]
        intro e
        subst e
        exact hq ht
      · left
        rw [hO, if_neg (by omega)]
      · have hr1 := hr.restrict hl.old
        have hr2 := Rel.re (f := id) (g := fun j => if j < s.nx then j else 1000000) (D := (· < s.nx)) (s' := s.st) (fun k hk => if_pos hk) (fun j hj => if_pos (by have := hl.ge; omega)) hr1 (fun _ => .inl rfl) (fun _ => rfl)
          (fun q => .inr ⟨fun k hk => hl.env q k (by rw [← drefs_den]; exact hk), by
            show Wkn (rnA id (den (lke s.env q))) (den (lke s.env q))
            rw [← rnD_den, rnD_id (f := id) _ (fun _ _ => rfl)]
            exact Wkn.refl _⟩)
          (fun j o' hj => by
            simp only [DSt.st, Option.map_eq_some_iff] at hj
            obtain ⟨x, hx, rfl⟩ := hj
            obtain ⟨h1, h2⟩ := hl.obj j x hx
            obtain ⟨r1, r2⟩ := rowsW_den (D := (· < s.nx)) id x h2
            have hid : rnO id x = x := by
              cases x with
              | lst c l => rfl
              | cells sz rows =>
                simp only [rnO]
                congr 1
                have : ∀ q ∈ rows, rnDL id q = q := fun q _ => rnDL_id (f := id) q fun _ _ => rfl
                rw [List.map_congr_left this]; simp
            rw [hid] at r1 r2
            exact ⟨j, denO x, by simp [DSt.st, hx], h1, rfl, r1, r2⟩)
        obtain ⟨β2, hβ2, hr2⟩ : ∃ β2, β2 s.nx = none ∧ Rel P w0 O0 N β2 I s.st a w := ⟨_, by simp, hr2⟩
        obtain ⟨hS, hM⟩ := Mem.addNil (i := s.nx) (o := denO (.lst c [] : DObj X)) hr2.mem hβ2 rfl
        refine ⟨ins β2 s.nx .none, hr2.defers, hr2.size, fun q => ?_, ?_⟩
        · have h1 := hr2.env q
          show SlotR P _ w I (den (lke ((t, .own s.nx 0 0) :: s.env) q)) none _
          rw [he]
          by_cases e : t = q
          · subst e
            rw [if_pos rfl]
            have h2 : VR P _ w I (den (lke s.env t)) (a.tmps.getD t undef) := h1
            rw [hn] at h2
            simp only [den, VR] at h2
            simp only [SlotR, den, VR]
            exact .inl ⟨by simp [ins], h2, trivial, trivial⟩
          · rw [if_neg e]
            exact SlotR.mono hS.ext hS.same hS.inc h1
        · have e : (fun k => (lko ((s.nx, some (.lst c [])) :: s.obj) k).map denO) = updo s.st.obj [(s.nx, some (denO (.lst c [] : DObj X)))] := by
            funext q
            simp only [updo, DSt.st]
            rw [hO]
            by_cases e : s.nx = q
            · simp [e]
            · rw [if_neg e, if_neg (Ne.symm e)]
          show Mem P w0 O0 _ I (fun k => (lko ((s.nx, some (.lst c [])) :: s.obj) k).map denO) w
          rw [e]; exact hM
    · exact ⟨hl, Ext.refl _ s, fun _ _ _ _ β _ _ _ h => ⟨β, h⟩⟩
  · exact ⟨hl, Ext.refl _ s, fun _ _ _ _ β _ _ _ h => ⟨β, h⟩⟩

theorem nilAll_sound {ds : List Nat} : ∀ (l : List (Nat × CT X.ι)) {s : DSt X}, Low s → (∀ p ∈ l, p.1 ∈ ds) → Low (nilAll l s) ∧ Ext (· ∈ ds) s (nilAll l s) ∧ Says s (nilAll l s)
  | [], s, hl, _ => ⟨hl, Ext.refl _ s, fun _ _ _ _ β _ _ _ h => ⟨β, h⟩⟩
  | (t, c) :: r, s, hl, hd => by
    obtain ⟨h1, h2, h3⟩ := nil1_sound (c := c) hl (hd (t, c) (by simp))
    obtain ⟨g1, g2, g3⟩ := nilAll_sound r h1 (fun p hp => hd p (by simp [hp]))
    refine ⟨g1, h2.trans g2, fun P w0 O0 N β I a w hr => ?_⟩
    obtain ⟨β', hr'⟩ := h3 P w0 O0 N β I a w hr
    exact g3 P w0 O0 N β' I a w hr'

theorem matchS_sound {A : Type} {sh : Sh X.ι} {ds : List Nat} {s0 s' : DSt X} {k : VT (X := X) sh.vars → Option A} {r : A} (hl0 : Low s0) (hl' : Low s') (hx : Ext (· ∈ ds) s0 s') (h : matchS sh ds s0 s' k = some r) :
    ∃ v, k v = some r ∧ Low (encS sh s0 v) ∧ Ext (· ∈ ds) s0 (encS sh s0 v) ∧ Says s' (encS sh s0 v) := by
  unfold matchS at h
  obtain ⟨h1, h2⟩ := cond_some h
  obtain ⟨g1, g2, g3⟩ := nilAll_sound (ds := ds) sh.nils hl' (fun p hp => by simpa using List.all_eq_true.1 h1 p hp)
  obtain ⟨v, i1, i2, i3, i4⟩ := matchT_sound hl0 (hx.trans g2) h2
  refine ⟨v, i1, i2, i3, fun P w0 O0 N β I a w hr => ?_⟩
  obtain ⟨β', hr'⟩ := g3 P w0 O0 N β I a w hr
  exact i4 P w0 O0 N β' I a w hr'
end
end Go.Gb

namespace Go.Gb
open Go.RowKit

/-- What a printed function says of a piece of code: its joins and its loops. -/
inductive Hn (ι : Type) where
  | z
  | f (l : List Nat)
  | s (a b : Hn ι)
  | b (a : Hn ι)
  | j (sh : Sh ι) (a : Hn ι)
  | jx (sh : Sh ι) (a : Hn ι)
  | l (head : Sh ι) (id : Nat) (out : Sh ι) (a : Hn ι)
  | lx (head : Sh ι) (id : Nat) (out : Sh ι) (a : Hn ι)

def Hn.fz {ι : Type} : Hn ι → List Nat
  | .f is => is
  | _ => []
def Hn.fst {ι : Type} : Hn ι → Hn ι
  | .s a _ => a
  | _ => .z
def Hn.snd {ι : Type} : Hn ι → Hn ι
  | .s _ y => y
  | _ => .z
def Hn.sub {ι : Type} : Hn ι → Hn ι
  | .b a => a
  | _ => .z

/-- The slots that a piece of code writes. -/
def dstsC : Code → List Nat
  | .region _ ops _ => ops.toList.filterMap (·.dst)
  | .seq a b => dstsC a ++ dstsC b
  | .cond _ a b => dstsC a ++ dstsC b
  | .block _ b => dstsC b
  | .loop b => dstsC b
  | _ => []

/-- A loop: rounds until one comes out. -/
def iter {V O : Type} (step : V → Option (V ⊕ O)) : Nat → V → Option O
  | 0, _ => none
  | n + 1, v => (step v).bind fun r => match r with
    | .inl v => iter step n v
    | .inr o => some o

def thenB {W A : Type} (o : Option (W ⊕ A)) (f : W → Option A) : Option A := o.bind fun r => match r with
  | .inl w => f w
  | .inr a => some a

/-- Two ways, of which nobody knows which is taken: they must come to the same. -/
noncomputable def both {A : Type} (x y : Option A) : Option A := open Classical in if x = y then x else none

theorem both_some {A : Type} {x y : Option A} {r : A} (h : both x y = some r) : x = some r ∧ y = some r := by
  unfold both at h
  split at h
  · rename_i e; exact ⟨h, e ▸ h⟩
  · cases h

theorem both_same {A : Type} (x : Option A) : both x x = x := by simp [both]

section
variable {X : SX}

def wrapJ (ds : List Nat) (s : DSt X) (h : Hn X.ι) {A : Type} (k : Exit → DSt X → Option A) (body : (B : Type) → Hn X.ι → (Exit → DSt X → Option B) → Option B) : Option A :=
  match h with
  | .j sh h' => (body (VT (X := X) sh.vars) h' fun e s' => match e with
      | .normal => matchS sh ds s s' some
      | _ => none).bind fun v => k .normal (encS sh s v)
  | .jx sh h' => thenB (body (VT (X := X) sh.vars ⊕ A) h' fun e s' => match e with
      | .normal => matchS sh ds s s' fun v => some (.inl v)
      | e => (k e s').map .inr) fun v => k .normal (encS sh s v)
  | h => body A h k

variable (Γ : FuncId → Option (Sig X)) (T : Tab) (code : TypeId → Option (CT X.ι)) (N n : Nat)

noncomputable def run : Code → (A : Type) → Hn X.ι → DSt X → (Exit → DSt X → Option A) → Option A
  | .skip, _, _, s, k => k .normal s
  | .region id ops d, A, h, s, k => wrapJ (dstsC (.region id ops d)) s h k fun _ h k => runReg Γ h.fz T code N ops d s (k .normal)
  | .seq x y, A, h, s, k => wrapJ (dstsC (.seq x y)) s h k fun B h k => run x B h.fst s fun e s' => match e with
      | .normal => run y B h.snd s' k
      | e => k e s'
  | .cond c x y, A, h, s, k => wrapJ (dstsC (.cond c x y)) s h k fun B h k => match opvD (lke s.env) c with
      | .c .bool v => bif v then run x B h.fst s k else run y B h.snd s k
      | .ub => both (run x B h.fst s k) (run y B h.snd s k)
      | _ => none
  | .block id b, A, h, s, k => wrapJ (dstsC (.block id b)) s h k fun B h k => run b B h.sub s fun e s' => match e with
      | .exit j => if j = id then k .normal s' else k (.exit j) s'
      | e => k e s'
  | .loop b, A, h, s, k => match h with
      | .l hd id out h' => matchS hd (dstsC b) s s fun v0 => (iter (fun v => run b (VT (X := X) hd.vars ⊕ VT (X := X) out.vars) h' (encS hd s v) fun e s' => match e with
          | .normal => matchS hd (dstsC b) s s' fun v => some (.inl v)
          | .exit j => if j = id then matchS out (dstsC b) s s' fun w => some (.inr w) else none
          | _ => none) n v0).bind fun w => k (.exit id) (encS out s w)
      | .lx hd id out h' => matchS hd (dstsC b) s s fun v0 => thenB (iter (fun v => run b (VT (X := X) hd.vars ⊕ (VT (X := X) out.vars ⊕ A)) h' (encS hd s v) fun e s' => match e with
          | .normal => matchS hd (dstsC b) s s' fun v => some (.inl v)
          | .exit j => if j = id then matchS out (dstsC b) s s' fun w => some (.inr (.inl w)) else (k (.exit j) s').map fun a => .inr (.inr a)
          | e => (k e s').map fun a => .inr (.inr a)) n v0) fun w => k (.exit id) (encS out s w)
      | _ => none
  | .exit id, _, _, s, k => k (.exit id) s
  | .ret, _, _, s, k => k .ret s
  | .label _, _, _, s, k => k .normal s
  | _, _, _, _, _ => none

section
variable {Γ : FuncId → Option (Sig X)} {T : Tab} {code : TypeId → Option (CT X.ι)} {N n : Nat} {P : Program}

theorem Ext.wide {ds ds' : Nat → Prop} {a b : DSt X} (h : Ext ds a b) (hd : ∀ t, ds t → ds' t) : Ext ds' a b := ⟨fun t ht => h.env t fun hh => ht (hd t hh), h.obj, h.nx⟩

/-- How a piece of code comes out. -/
def PostQ {A : Type} (ds : List Nat) (s : DSt X) (k : Exit → DSt X → Option A) (r : A) (e : Exit) (σ : St) : Prop := ∃ s', Low s' ∧ Ext (· ∈ ds) s s' ∧ σ = s'.st ∧ k e s' = some r

theorem ev_post {c : Code} {Q Q' : Exit → St → Prop} {σ : St} (h : Ev P N c Q σ) (ht : ∀ e σ, Q e σ → ∀ w0 O0 β I a w, Rel P w0 O0 N β I σ a w → ∃ β' σ', Rel P w0 O0 N β' I σ' a w ∧ Old σ' ∧ Q' e σ') : Ev P N c Q' σ := by
  intro w0 O0 β I a w hr ho
  refine wp_mono (h w0 O0 β I a w hr ho) ?_
  rintro e a' w' ⟨β', I', σ', h1, _, h3⟩
  obtain ⟨β2, σ2, g1, g2, g3⟩ := ht e σ' h3 w0 O0 β' I' a' w' h1
  exact ⟨β2, I', σ2, g1, g2, g3⟩

theorem map_inr {α β : Type} {o : Option β} {r : α ⊕ β} (h : o.map Sum.inr = some r) : ∃ b, o = some b ∧ r = .inr b := by
  cases o with
  | none => cases h
  | some b => injection h with h; exact ⟨b, rfl, h.symm⟩

theorem wrap_sound {c : Code} {s : DSt X} {h : Hn X.ι} {A : Type} {k : Exit → DSt X → Option A} {r : A} {body : (B : Type) → Hn X.ι → (Exit → DSt X → Option B) → Option B} (hl : Low s)
    (hb : ∀ (B : Type) (h : Hn X.ι) (k : Exit → DSt X → Option B) (r : B), body B h k = some r → Ev P N c (PostQ (dstsC c) s k r) s.st) (hr : wrapJ (dstsC c) s h k body = some r) : Ev P N c (PostQ (dstsC c) s k r) s.st := by
  unfold wrapJ at hr
  split at hr
  · rename_i sh h'
    rw [Option.bind_eq_some_iff] at hr; obtain ⟨v, h1, hr⟩ := hr
    refine ev_post (hb _ _ _ _ h1) ?_
    rintro e σ ⟨s', g1, g2, rfl, g4⟩ w0 O0 β I a w hrel
    cases e <;> simp only [reduceCtorEq] at g4
    obtain ⟨v', i1, i2, i3, i4⟩ := matchS_sound hl g1 g2 g4
    injection i1 with i1
    subst i1
    obtain ⟨β', i5⟩ := i4 P w0 O0 N β I a w hrel
    exact ⟨β', _, i5, i2.old, _, i2, i3, rfl, hr⟩
  · rename_i sh h'
    unfold thenB at hr
    rw [Option.bind_eq_some_iff] at hr; obtain ⟨v, h1, hr⟩ := hr
    refine ev_post (hb _ _ _ _ h1) ?_
    rintro e σ ⟨s', g1, g2, rfl, g4⟩ w0 O0 β I a w hrel
    have other : (k e s').map Sum.inr = some v → ∃ β' σ', Rel P w0 O0 N β' I σ' a w ∧ Old σ' ∧ PostQ (dstsC c) s k r e σ' := by
      intro hm
      obtain ⟨b, hk, rfl⟩ := map_inr hm
      injection hr with hr
      subst hr
      exact ⟨β, _, hrel, g1.old, s', g1, g2, rfl, hk⟩
    cases e with
    | normal =>
      simp only at g4
      obtain ⟨v', i1, i2, i3, i4⟩ := matchS_sound hl g1 g2 g4
      injection i1 with i1
      subst i1
      obtain ⟨β', i5⟩ := i4 P w0 O0 N β I a w hrel
      exact ⟨β', _, i5, i2.old, _, i2, i3, rfl, hr⟩
    | _ => exact other g4
  · exact hb _ _ _ _ hr

theorem isDst_mem {id : Nat} {ops : Array Oper} {d : Bool} {t : Nat} (h : IsDst ops t) : t ∈ dstsC (.region id ops d) := by
  obtain ⟨j, op, h1, h2⟩ := h
  simp only [dstsC, List.mem_filterMap]
  exact ⟨op, by rw [← Array.getElem?_toList] at h1; exact List.mem_of_getElem? h1, h2⟩

/-- A loop in the typed walk. -/
theorem loop_sound {b : Code} {s : DSt X} {hd : Sh X.ι} {O : Type} {step : VT (X := X) hd.vars → Option (VT (X := X) hd.vars ⊕ O)} {kb : Exit → DSt X → Option (VT (X := X) hd.vars ⊕ O)} {Q : Exit → St → Prop} (hl : Low s)
    (hkn : ∀ s', kb .normal s' = matchS hd (dstsC b) s s' fun v => some (.inl v))
    (hstep : ∀ v r, Low (encS hd s v) → step v = some r → Ev P N b (PostQ (dstsC b) (encS hd s v) kb r) (encS hd s v).st)
    {o : O} (hQ : ∀ e s', e ≠ .normal → Low s' → Ext (· ∈ dstsC b) s s' → kb e s' = some (.inr o) → ∀ w0 O0 β I a w, Rel P w0 O0 N β I s'.st a w → ∃ β' σ', Rel P w0 O0 N β' I σ' a w ∧ Old σ' ∧ Q e σ')
    (hno : ∀ e s' v, e ≠ .normal → kb e s' = some (.inl v) → False) (n : Nat) (v0 : VT (X := X) hd.vars) (h : iter step n v0 = some o) (hl0 : Low (encS hd s v0)) (hx0 : Ext (· ∈ dstsC b) s (encS hd s v0)) : Ev P N (.loop b) Q (encS hd s v0).st := by
  intro w0 O0 β I a w hr ho
  refine wp_loop_n (fun n a w => ∃ β I v, Rel P w0 O0 N β I (encS hd s v).st a w ∧ iter step n v = some o ∧ Low (encS hd s v) ∧ Ext (· ∈ dstsC b) s (encS hd s v)) (fun a w ⟨_, _, v, _, h, _⟩ => by cases h) ?_ n a w ⟨β, I, v0, hr, h, hl0, hx0⟩
  rintro n a w ⟨β, I, v, hr, hi, hlv, hxv⟩
  simp only [iter] at hi
  rw [Option.bind_eq_some_iff] at hi; obtain ⟨r, h1, hi⟩ := hi
  refine wp_mono (hstep v r hlv h1 w0 O0 β I a w hr hlv.old) ?_
  rintro e a' w' ⟨β', I', σ', g1, _, s', g2, g3, rfl, g4⟩
  have hxs := hxv.trans g3
  by_cases he : e = .normal
  · subst he
    rw [hkn] at g4
    obtain ⟨v', i1, i2, i3, i4⟩ := matchS_sound hl g2 hxs g4
    injection i1 with i1
    subst i1
    obtain ⟨β2, i5⟩ := i4 P w0 O0 N β' I' a' w' g1
    exact ⟨β2, I', v', i5, hi, i2, i3⟩
  · cases r with
    | inl v' => exact (hno e s' v' he g4).elim
    | inr o' =>
      injection hi with hi
      subst hi
      obtain ⟨β2, σ2, i1, i2, i3⟩ := hQ e s' he g2 hxs g4 w0 O0 β' I' a' w' g1
      cases e with
      | normal => exact (he rfl).elim
      | _ => exact ⟨β2, I', σ2, i1, i2, i3⟩

theorem matchS_val {A : Type} {sh : Sh X.ι} {ds : List Nat} {s0 s' : DSt X} {k : VT (X := X) sh.vars → Option A} {r : A} (h : matchS sh ds s0 s' k = some r) : ∃ v, k v = some r := by
  unfold matchS at h
  obtain ⟨_, h⟩ := cond_some h
  unfold matchT at h
  rw [Option.bind_eq_some_iff] at h; obtain ⟨m1, h1, h⟩ := h
  rw [Option.bind_eq_some_iff] at h; obtain ⟨m, h2, h⟩ := h
  obtain ⟨h3, h⟩ := cond_some h
  rw [Option.bind_eq_some_iff] at h; obtain ⟨v, h4, h⟩ := h
  exact ⟨v, (chkA_some h).2⟩

theorem map_inr2 {α β γ : Type} {o : Option γ} {r : α ⊕ (β ⊕ γ)} (h : o.map (fun a => Sum.inr (Sum.inr a)) = some r) : ∃ b, o = some b ∧ r = .inr (.inr b) := by
  cases o with
  | none => cases h
  | some b => injection h with h; exact ⟨b, rfl, h.symm⟩

theorem run_sound (hT : TabOk P T) (hm : P.follows .mixedOrders = true) (hΓ : GOk P Γ) : ∀ (c : Code) (A : Type) (h : Hn X.ι) (s : DSt X) (k : Exit → DSt X → Option A) (r : A), Low s → run Γ T code N n c A h s k = some r → Ev P N c (PostQ (dstsC c) s k r) s.st
  | .skip, A, h, s, k, r, hl, hr => ev_skip ⟨s, hl, Ext.refl _ s, rfl, hr⟩
  | .exit id, A, h, s, k, r, hl, hr => ev_exit ⟨s, hl, Ext.refl _ s, rfl, hr⟩
  | .ret, A, h, s, k, r, hl, hr => ev_ret ⟨s, hl, Ext.refl _ s, rfl, hr⟩
  | .label l, A, h, s, k, r, hl, hr => ev_label ⟨s, hl, Ext.refl _ s, rfl, hr⟩
  | .region id ops d, A, h, s, k, r, hl, hr => by
    refine wrap_sound hl (fun B h k r hb => ?_) hr
    obtain ⟨s', g1, g2, g3, g4⟩ := runReg_sound (id := id) hT hm hΓ hl hb
    exact g4.mono fun e σ ⟨he, hσ⟩ => ⟨s', g2, g3.wide fun t ht => isDst_mem ht, hσ, by rw [he]; exact g1⟩
  | .seq x y, A, h, s, k, r, hl, hr => by
    refine wrap_sound hl (fun B h k r hb => ?_) hr
    refine ev_seq ((run_sound hT hm hΓ x B _ s _ r hl hb).mono ?_)
    rintro e σ ⟨s', g1, g2, rfl, g4⟩
    have wide : Ext (· ∈ dstsC (.seq x y)) s s' := g2.wide fun t ht => by simp [dstsC, ht]
    cases e with
    | normal =>
      exact (run_sound hT hm hΓ y B _ s' k r g1 g4).mono fun e σ ⟨s2, i1, i2, i3, i4⟩ => ⟨s2, i1, wide.trans (i2.wide fun t ht => by simp [dstsC, ht]), i3, i4⟩
    | _ => exact ⟨s', g1, wide, rfl, g4⟩
  | .cond c x y, A, h, s, k, r, hl, hr => by
    refine wrap_sound hl (fun B h k r hb => ?_) hr
    split at hb
    · rename_i v hv
      refine ev_cond v (fun _ _ => rfl) ?_ ?_
      · have := opvD_den (lke s.env) c
        rw [hv] at this
        exact this.symm
      · cases v with
        | true => exact (run_sound hT hm hΓ x B _ s k r hl hb).mono fun e σ ⟨s2, i1, i2, i3, i4⟩ => ⟨s2, i1, i2.wide fun t ht => by simp [dstsC, ht], i3, i4⟩
        | false => exact (run_sound hT hm hΓ y B _ s k r hl hb).mono fun e σ ⟨s2, i1, i2, i3, i4⟩ => ⟨s2, i1, i2.wide fun t ht => by simp [dstsC, ht], i3, i4⟩
    · rename_i hv
      obtain ⟨hb1, hb2⟩ := both_some hb
      refine ev_cond_ub (fun _ _ => rfl) ?_ ?_ ?_
      · have := opvD_den (lke s.env) c
        rw [hv] at this
        exact this.symm
      · exact (run_sound hT hm hΓ x B _ s k r hl hb1).mono fun e σ ⟨s2, i1, i2, i3, i4⟩ => ⟨s2, i1, i2.wide fun t ht => by simp [dstsC, ht], i3, i4⟩
      · exact (run_sound hT hm hΓ y B _ s k r hl hb2).mono fun e σ ⟨s2, i1, i2, i3, i4⟩ => ⟨s2, i1, i2.wide fun t ht => by simp [dstsC, ht], i3, i4⟩
    · cases hb
  | .block id b, A, h, s, k, r, hl, hr => by
    refine wrap_sound hl (fun B h k r hb => ?_) hr
    refine ev_block ((run_sound hT hm hΓ b B _ s _ r hl hb).mono ?_)
    rintro e σ ⟨s', g1, g2, rfl, g4⟩
    cases e with
    | exit j =>
      simp only [blockE]
      simp only at g4
      split
      · rw [if_pos ‹_›] at g4; exact ⟨s', g1, g2, rfl, g4⟩
      · rw [if_neg ‹_›] at g4; exact ⟨s', g1, g2, rfl, g4⟩
    | _ => exact ⟨s', g1, g2, rfl, g4⟩
  | .loop b, A, h, s, k, r, hl, hr => by
    simp only [run] at hr
    split at hr
    · rename_i hd id out h'
      obtain ⟨v0, h1, h2, h3, h4⟩ := matchS_sound hl hl (Ext.refl _ s) hr
      rw [Option.bind_eq_some_iff] at h1; obtain ⟨w, h5, h6⟩ := h1
      intro w0 O0 β I a ww hrel ho
      obtain ⟨β', hrel'⟩ := h4 P w0 O0 N β I a ww hrel
      refine loop_sound (Q := PostQ (dstsC (.loop b)) s k r) hl (fun s' => rfl) (fun v r hlv hs => run_sound hT hm hΓ b _ h' (encS hd s v) _ r hlv hs) (fun e s' he hls hxs hk => ?_) (fun e s' v he hk => ?_) n v0 h5 h2 h3 w0 O0 β' I a ww hrel' h2.old
      · cases e with
        | exit j =>
          simp only at hk
          split at hk
          · rename_i hj
            subst hj
            obtain ⟨w', i1, i2, i3, i4⟩ := matchS_sound hl hls hxs hk
            injection i1 with i1
            injection i1 with i1
            subst i1
            intro w0 O0 β I a ww hrel
            obtain ⟨β', hrel'⟩ := i4 P w0 O0 N β I a ww hrel
            exact ⟨β', _, hrel', i2.old, _, i2, i3, rfl, h6⟩
          · cases hk
        | normal => exact (he rfl).elim
        | _ => cases hk
      · cases e with
        | exit j =>
          simp only at hk
          split at hk
          · obtain ⟨w', i1⟩ := matchS_val hk
            injection i1 with i1; cases i1
          · cases hk
        | normal => exact he rfl
        | _ => cases hk
    · rename_i hd id out h'
      obtain ⟨v0, h1, h2, h3, h4⟩ := matchS_sound hl hl (Ext.refl _ s) hr
      unfold thenB at h1
      rw [Option.bind_eq_some_iff] at h1; obtain ⟨w, h5, h6⟩ := h1
      intro w0 O0 β I a ww hrel ho
      obtain ⟨β', hrel'⟩ := h4 P w0 O0 N β I a ww hrel
      refine loop_sound (Q := PostQ (dstsC (.loop b)) s k r) hl (fun s' => rfl) (fun v r hlv hs => run_sound hT hm hΓ b _ h' (encS hd s v) _ r hlv hs) (fun e s' he hls hxs hk => ?_) (fun e s' v he hk => ?_) n v0 h5 h2 h3 w0 O0 β' I a ww hrel' h2.old
      · intro w0 O0 β I a ww hrel
        have other : (k e s').map (fun a => Sum.inr (Sum.inr a)) = some (Sum.inr w : VT (X := X) hd.vars ⊕ (VT (X := X) out.vars ⊕ A)) → ∃ β' σ', Rel P w0 O0 N β' I σ' a ww ∧ Old σ' ∧ PostQ (dstsC (.loop b)) s k r e σ' := by
          intro hm
          obtain ⟨q, hq, hr⟩ := map_inr2 hm
          injection hr with hr
          subst hr
          injection h6 with h6
          subst h6
          exact ⟨β, _, hrel, hls.old, s', hls, hxs, rfl, hq⟩
        cases e with
        | exit j =>
          simp only at hk
          split at hk
          · rename_i hj
            subst hj
            obtain ⟨w', i1, i2, i3, i4⟩ := matchS_sound hl hls hxs hk
            injection i1 with i1
            injection i1 with i1
            subst i1
            obtain ⟨β', hrel'⟩ := i4 P w0 O0 N β I a ww hrel
            exact ⟨β', _, hrel', i2.old, _, i2, i3, rfl, h6⟩
          · exact other hk
        | normal => exact (he rfl).elim
        | _ => exact other hk
      · have other : (k e s').map (fun a => Sum.inr (Sum.inr a)) = some (Sum.inl v : VT (X := X) hd.vars ⊕ (VT (X := X) out.vars ⊕ A)) → False := by
          intro hm
          obtain ⟨q, hq, hr⟩ := map_inr2 hm
          cases hr
        cases e with
        | exit j =>
          simp only at hk
          split at hk
          · obtain ⟨w', i1⟩ := matchS_val hk
            injection i1 with i1; cases i1
          · exact other hk
        | normal => exact he rfl
        | _ => exact other hk
    · cases hr
  | .rangeFunc .., _, _, _, _, _, _, hr => by cases hr
  | .scope _, _, _, _, _, _, _, hr => by cases hr
  | .goto _, _, _, _, _, _, _, hr => by cases hr
  | .refuse _, _, _, _, _, _, _, hr => by cases hr
end
end
end Go.Gb

namespace Go.Gb
open Go.RowKit

section
variable {X : SX}

def argDVn : Nat → (l : List (AT X.ι)) → ArgsT X l → List (DV X)
  | _, [], _ => []
  | n, .d c :: l, a => .c c a.1 :: argDVn n l a.2
  | n, .ref c :: l, a => .rp c a.1 0 :: argDVn n l a.2
  | n, .clo as r :: l, a => .clo as r a.1 :: argDVn n l a.2
  | n, .mut _ :: l, a => .own n 0 (List.length a.1) :: argDVn (n + 1) l a.2
  | n, .mref _ :: l, a => .ptr n 0 0 :: argDVn (n + 1) l a.2
  | n, .nil :: l, a => .nil :: argDVn n l a.2

def objD : (l : List (AT X.ι)) → ArgsT X l → List (DObj X)
  | [], _ => []
  | .mut c :: l, a => .lst c a.1 :: objD l a.2
  | .mref c :: l, a => .cells (CT.sz X c) [cellsC c a.1] :: objD l a.2
  | .d _ :: l, a => objD l a.2
  | .ref _ :: l, a => objD l a.2
  | .clo _ _ :: l, a => objD l a.2
  | .nil :: l, a => objD l a.2

theorem argDV_den : ∀ (n : Nat) (l : List (AT X.ι)) (a : ArgsT X l), denL (argDVn n l a) = argAVn n l a
  | _, [], _ => rfl
  | n, .d c :: l, a => by simp only [argDVn, denL, den, argAVn, argDV_den n l a.2]
  | n, .ref c :: l, a => by simp only [argDVn, denL, den, argAVn, argDV_den n l a.2]
  | n, .clo as r :: l, a => by simp only [argDVn, denL, argAVn, argDV_den n l a.2]
  | n, .mut c :: l, a => by simp only [argDVn, denL, den, argAVn, argDV_den (n + 1) l a.2]
  | n, .mref c :: l, a => by simp only [argDVn, denL, den, argAVn, argDV_den (n + 1) l a.2]
  | n, .nil :: l, a => by simp only [argDVn, denL, den, argAVn, argDV_den n l a.2]

theorem objD_den : ∀ (l : List (AT X.ι)) (a : ArgsT X l), (objD l a).map denO = (objA l a).map aob
  | [], _ => rfl
  | .d _ :: l, a => objD_den l a.2
  | .ref _ :: l, a => objD_den l a.2
  | .clo _ _ :: l, a => objD_den l a.2
  | .nil :: l, a => objD_den l a.2
  | .mut c :: l, a => by simp only [objD, objA, List.map_cons, objD_den l a.2]; rfl
  | .mref c :: l, a => by simp only [objD, objA, List.map_cons, objD_den l a.2, denO, aob, mutR, avRows, List.map_nil, cellsC_den]

theorem argDV_refs : ∀ (n : Nat) (l : List (AT X.ι)) (a : ArgsT X l), ∀ k ∈ drefsL (argDVn n l a), k < n + muts l
  | _, [], _, k, hk => by simp [argDVn, drefsL] at hk
  | n, .d c :: l, a, k, hk => by
    have := argDV_refs n l a.2 k (by simpa [argDVn, drefsL, drefs] using hk)
    simpa [muts, AT.im] using this
  | n, .ref c :: l, a, k, hk => by
    have := argDV_refs n l a.2 k (by simpa [argDVn, drefsL, drefs] using hk)
    simpa [muts, AT.im] using this
  | n, .clo as r :: l, a, k, hk => by
    have := argDV_refs n l a.2 k (by simpa [argDVn, drefsL, drefs] using hk)
    simpa [muts, AT.im] using this
  | n, .nil :: l, a, k, hk => by
    have := argDV_refs n l a.2 k (by simpa [argDVn, drefsL, drefs] using hk)
    simpa [muts, AT.im] using this
  | n, .mut c :: l, a, k, hk => by
    simp only [argDVn, drefsL, drefs, List.singleton_append, List.mem_cons] at hk
    simp only [muts, AT.im, if_true]
    rcases hk with rfl | hk
    · omega
    · have := argDV_refs (n + 1) l a.2 k hk; omega
  | n, .mref c :: l, a, k, hk => by
    simp only [argDVn, drefsL, drefs, List.singleton_append, List.mem_cons] at hk
    simp only [muts, AT.im, if_true]
    rcases hk with rfl | hk
    · omega
    · have := argDV_refs (n + 1) l a.2 k hk; omega

theorem argAV_length : ∀ (n : Nat) (l : List (AT X.ι)) (a : ArgsT X l), (argAVn n l a).length = l.length
  | _, [], _ => rfl
  | n, .d c :: l, a => by simp only [argAVn, List.length_cons, argAV_length n l a.2]
  | n, .ref c :: l, a => by simp only [argAVn, List.length_cons, argAV_length n l a.2]
  | n, .clo as r :: l, a => by simp only [argAVn, List.length_cons, argAV_length n l a.2]
  | n, .mut c :: l, a => by simp only [argAVn, List.length_cons, argAV_length (n + 1) l a.2]
  | n, .mref c :: l, a => by simp only [argAVn, List.length_cons, argAV_length (n + 1) l a.2]
  | n, .nil :: l, a => by simp only [argAVn, List.length_cons, argAV_length n l a.2]

theorem objA_length : ∀ (l : List (AT X.ι)) (a : ArgsT X l), (objA l a).length = muts l
  | [], _ => rfl
  | .d _ :: l, a => by simpa [muts, AT.im, objA] using objA_length l a.2
  | .ref _ :: l, a => by simpa [muts, AT.im, objA] using objA_length l a.2
  | .clo _ _ :: l, a => by simpa [muts, AT.im, objA] using objA_length l a.2
  | .nil :: l, a => by simpa [muts, AT.im, objA] using objA_length l a.2
  | .mut _ :: l, a => by simp only [objA, List.length_cons, objA_length l a.2, muts, AT.im, if_true]; omega
  | .mref _ :: l, a => by simp only [objA, List.length_cons, objA_length l a.2, muts, AT.im, if_true]; omega

/-- The state at a function's beginning. -/
def ini (l : List (AT X.ι)) (a : ArgsT X l) : DSt X := ⟨(List.range l.length).zip (argDVn 0 l a), (List.range (objD l a).length).zip ((objD l a).map some), 1000, []⟩

theorem ini_obj (l : List (AT X.ι)) (a : ArgsT X l) (k : Nat) : lko (ini l a).obj k = (objD l a)[k]? := by
  have h : (List.range (objD l a).length).zip ((objD l a).map some) = (List.range ((objD l a).map some).length).zip ((objD l a).map some) := by rw [List.length_map]
  simp only [ini, lko]
  rw [h, lk_zip, List.getElem?_map]
  cases (objD l a)[k]? <;> rfl

theorem ini_st (l : List (AT X.ι)) (a : ArgsT X l) : (ini l a).st = LSt.st ⟨(List.range (argAV l a).length).zip (argAV l a), (List.range ((objA l a).map aob).length).zip ((objA l a).map aob)⟩ := by
  have ho : ∀ k, ((lko (ini l a).obj k).map denO) = lk ((List.range ((objA l a).map aob).length).zip ((objA l a).map aob)) k := by
    intro k
    rw [lk_zip, ini_obj, ← objD_den, List.getElem?_map]
  simp only [DSt.st, LSt.st, St.mk.injEq, and_true]
  refine ⟨?_, funext ho⟩
  funext t
  simp only [ini]
  rw [argAV_length, argAV, ← argDV_den]
  generalize argDVn 0 l a = ds
  have : ∀ (ks : List Nat) (ds : List (DV X)), den (lke (ks.zip ds) t) = (lk (ks.zip (denL ds)) t).getD .undef := by
    intro ks
    induction ks with
    | nil => intro ds; rfl
    | cons k ks ih =>
      intro ds
      cases ds with
      | nil => rfl
      | cons d ds =>
        simp only [List.zip_cons_cons, lke, lk, denL]
        by_cases h : k = t
        · simp [h]
        · simp only [if_neg h]; exact ih ds
  exact this _ _

theorem ini_low (l : List (AT X.ι)) (a : ArgsT X l) (hm : muts l ≤ 1000) : Low (ini l a) := by
  refine ⟨by show 1000 ≤ 1000000; decide, Nat.le_refl _, fun t k hk => ?_, fun k o ho => ?_⟩
  · have h0 := argDV_refs 0 l a
    simp only [ini] at hk
    generalize argDVn 0 l a = ds at hk h0
    have : ∀ (ks : List Nat) (ds : List (DV X)), (∀ k ∈ drefsL ds, k < 0 + muts l) → ∀ k ∈ drefs (lke (ks.zip ds) t), k < 1000 := by
      intro ks
      induction ks with
      | nil => intro ds _ k hk; simp [lke, lk, drefs] at hk
      | cons k ks ih =>
        intro ds h j hj
        cases ds with
        | nil => simp [lke, lk, drefs] at hj
        | cons d ds =>
          simp only [List.zip_cons_cons, lke, lk] at hj
          by_cases e : k = t
          · simp only [if_pos e, Option.getD_some] at hj
            have := h j (by simp [drefsL, hj]); omega
          · simp only [if_neg e] at hj
            exact ih ds (fun k hk => h k (by simp [drefsL, hk])) j hj
    exact this _ _ h0 k hk
  · rw [ini_obj] at ho
    have hl : (objD l a).length = muts l := by rw [← objA_length l a]; simpa using congrArg List.length (objD_den l a)
    refine ⟨by have := (List.getElem?_eq_some_iff.1 ho).1; show k < 1000; omega, fun j hj => ?_⟩
    have hz : ∀ (l : List (AT X.ι)) (a : ArgsT X l), ∀ o ∈ objD l a, orefs o = [] := by
      intro l
      induction l with
      | nil => intro a o ho; simp [objD] at ho
      | cons q l ih =>
        intro a o ho
        cases q <;> simp only [objD, List.mem_cons] at ho
        case «mut» c => rcases ho with rfl | ho; rfl; exact ih _ o ho
        case mref c =>
          rcases ho with rfl | ho
          · have h1 : drefsL (cellsC c a.1) = [] := by
              rw [← drefsL_den, cellsC_den]
              generalize CT.row X.toSE c a.1 = r
              induction r with
              | nil => rfl
              | cons y ys ih => simp only [List.map_cons, refsL, refs, ih, List.nil_append]
            simp [orefs, h1]
          · exact ih _ o ho
        all_goals exact ih _ o ho
    rw [hz l a o (List.mem_of_getElem? ho)] at hj
    cases hj

variable (T : Tab)

def resV (s : DSt X) : ResultVar → Option (DV X)
  | .tmp t => some (lke s.env t)
  | .cell a t => (T t).bind fun ti => match lke s.env a with
    | .ptr kk row off => (lko s.obj kk).bind fun o => match o with
      | .cells _ rows => (rows[row]?).bind fun r => partD ti.agg ti.size ((r.drop off).take ti.size)
      | _ => none
    | _ => none

def resVs (s : DSt X) : List ResultVar → Option (List (DV X))
  | [] => some []
  | r :: rs => (resV T s r).bind fun v => (resVs s rs).bind fun vs => some (v :: vs)

theorem resV_den {s : DSt X} {r : ResultVar} {d : DV X} (h : resV T s r = some d) : resVal T s.st r = some (den d) := by
  cases r with
  | tmp t => simp only [resV, Option.some.injEq] at h; subst h; rfl
  | cell a t =>
    simp only [resV] at h
    rw [Option.bind_eq_some_iff] at h; obtain ⟨ti, h1, h⟩ := h
    split at h
    · rename_i kk row off hp
      rw [Option.bind_eq_some_iff] at h; obtain ⟨o, h2, h⟩ := h
      split at h
      · rename_i sz rows
        rw [Option.bind_eq_some_iff] at h; obtain ⟨q, h3, h⟩ := h
        have h4 := partD_den h
        rw [denL_drop_take] at h4
        show (match aLoad T t (den (lke s.env a)) .none (fun k => (lko s.obj k).map denO) with
          | some ⟨v, [], []⟩ => some v
          | _ => none) = some (den d)
        simp only [aLoad, h1, Option.bind_some, hp, den, h2, Option.map_some, denO, List.getElem?_map, h3, h4, pv]
      · cases h
    · cases h

theorem resVs_den {s : DSt X} : ∀ {rs : List ResultVar} {ds : List (DV X)}, resVs T s rs = some ds → resVals T s.st rs = some (denL ds)
  | [], ds, h => by simp only [resVs, Option.some.injEq] at h; subst h; rfl
  | r :: rs, ds, h => by
    simp only [resVs] at h
    rw [Option.bind_eq_some_iff] at h; obtain ⟨d, h1, h⟩ := h
    rw [Option.bind_eq_some_iff] at h; obtain ⟨ds', h2, h⟩ := h
    injection h with h
    subst h
    simp only [resVals, resV_den T h1, resVs_den h2, Option.bind_some, denL]

/-- The object that goes out as memory that nobody else holds. -/
def fkOf : List (RT X.ι) → List (DV X) → Option Nat
  | .mu _ :: l, ds => fkOf l ds
  | .mr _ :: l, ds => fkOf l ds
  | .mv :: l, ds => fkOf l ds
  | .fresh _ :: l, d :: ds => match d with
    | .own k _ _ => some k
    | _ => fkOf l ds
  | .d _ :: l, _ :: ds => fkOf l ds
  | .whole _ :: l, _ :: ds => fkOf l ds
  | _, _ => none

/-- How long the whole objects are that are handed back. -/
def whl : List (RT X.ι) → List (DV X) → List (Nat × Nat)
  | .mu _ :: l, ds => whl l ds
  | .mr _ :: l, ds => whl l ds
  | .mv :: l, ds => whl l ds
  | .whole j :: l, d :: ds => match d with
    | .own _ _ len => (j, len) :: whl l ds
    | _ => whl l ds
  | .d _ :: l, _ :: ds => whl l ds
  | .fresh _ :: l, _ :: ds => whl l ds
  | _, _ => []

/-- The numbers of the objects that are handed back; of the slices among them. -/
def keptN : Nat → List (RT X.ι) → List Nat
  | _, [] => []
  | n, .mu _ :: l => n :: keptN (n + 1) l
  | n, .mr _ :: l => n :: keptN (n + 1) l
  | n, .mv :: l => keptN (n + 1) l
  | n, _ :: l => keptN n l
def muN : Nat → List (RT X.ι) → List Nat
  | _, [] => []
  | n, .mu _ :: l => n :: muN (n + 1) l
  | n, .mr _ :: l => muN (n + 1) l
  | n, .mv :: l => muN (n + 1) l
  | n, _ :: l => muN n l

def noBad (bad : List Nat) (ks : List Nat) : Bool := ks.all fun k => !bad.contains k

def lendRow (get : Nat → Option (DObj X)) (row : List (DV X)) (c : CT X.ι) : Option (CT.T X.toSE c × List Bool) :=
  match c with
  | .st i => (lendHL get row (X.tys i)).bind fun h => some (X.make i h.1, h.2)
  | c => match row with
    | [d] => lend1 get d c
    | _ => none

def lendRows (get : Nat → Option (DObj X)) (c : CT X.ι) : List (List (DV X)) → Option (List (CT.T X.toSE c) × List Bool)
  | [] => some ([], [])
  | r :: rs => (lendRow get r c).bind fun x => (lendRows get c rs).bind fun y => some (x.1 :: y.1, x.2 ++ y.2)

/-- One result; the values that are left. -/
def expE (get : Nat → Option (DObj X)) (bad mus : List Nat) (fk : Option Nat) (wl : List (Nat × Nat)) (n : Nat) : (q : RT X.ι) → List (DV X) → Option ((RT.T X q × List Bool) × List (DV X))
  | .d c, d :: ds => if noBad bad (drefs d) then (lendD get d c).bind fun x => some (x, ds) else none
  | .fresh e, d :: ds => match d with
    | .nil => some (([], []), ds)
    | .own k 0 len => if fk = some k then (get k).bind fun o => match o with
      | .lst b l => (castC (.sl b) (.sl e) l).bind fun (l : List (CT.T X.toSE e)) => some ((sub l 0 len, [eqL (sub l 0 len).length len]), ds)
      | .cells sz rows => if sz = CT.sz X e ∧ noBad bad (rows.map drefsL).flatten = true then (lendRows get e rows).bind fun x => some ((x.1, eqL len (List.length x.1) :: x.2), ds) else none
      else none
    | _ => none
  | .whole j, d :: ds => match d with
    | .own k 0 len => if k = j ∧ mus.contains j = true then (lk wl j).bind fun len0 => some (((), [eqL len len0]), ds) else none
    | _ => none
  | .mu c, ds => (get n).bind fun o => match o with
    | .lst b l => (castC (.sl b) (.sl c) l).bind fun (l : List (CT.T X.toSE c)) => match lk wl n with
      | some len => some ((sub l 0 len, [eqL (sub l 0 len).length len]), ds)
      | none => some ((l, []), ds)
    | _ => none
  | .mr c, ds => (get n).bind fun o => match o with
    | .cells sz [row] => if sz = CT.sz X c ∧ noBad bad (drefsL row) = true then (lendRow get row c).bind fun x => some (x, ds) else none
    | _ => none
  | .mv, ds => some (((), []), ds)
  | _, [] => none

def expDs (get : Nat → Option (DObj X)) (bad mus : List Nat) (fk : Option Nat) (wl : List (Nat × Nat)) : Nat → (l : List (RT X.ι)) → (ds : List (DV X)) → Option (ResT X l × List Bool)
  | _, [], ds => match ds with
    | [] => some ((), [])
    | _ => none
  | n, [q], ds => (expE get bad mus fk wl n q ds).bind fun p => match p.2 with
    | [] => some p.1
    | _ => none
  | n, q :: q' :: l, ds => (expE get bad mus fk wl n q ds).bind fun p => (expDs get bad mus fk wl (if q.out then n + 1 else n) (q' :: l) p.2).bind fun y => some ((p.1.1, y.1), p.1.2 ++ y.2)

def expAll (s : DSt X) (l : List (RT X.ι)) (ds : List (DV X)) : Option (ResT X l × List Bool) :=
  if noBad (keptN 0 l) (fkOf l ds).toList then expDs (lko s.obj) (keptN 0 l ++ (fkOf l ds).toList) (muN 0 l) (fkOf l ds) (whl l ds) 0 l ds else none

/-- What a function hands back. -/
def kRet (rs : List ResultVar) (l : List (RT X.ι)) : Exit → DSt X → Option (ResT X l)
  | .normal, s => (resVs T s rs).bind fun ds => (expAll s l ds).bind fun x => chkA x.2 (some x.1)
  | .ret, s => (resVs T s rs).bind fun ds => (expAll s l ds).bind fun x => chkA x.2 (some x.1)
  | _, _ => none

def exit (A : Type) (k : DSt X → Option A) : Exit → DSt X → Option A
  | .normal, s => k s
  | .ret, s => k s
  | _, _ => none

variable {T}

section
variable {get : Nat → Option (DObj X)} {fk : Option Nat} {os' : List (Option RowsT)} {bad : List Nat}

theorem noBad_spec {ks : List Nat} (h : noBad bad ks = true) : ∀ j ∈ ks, j ∉ bad := fun j hj => by simpa using List.all_eq_true.1 h j hj

theorem lend1_exp (hbad : ∀ j, j ∉ bad → fk ≠ some j ∧ ¬ kept os' j) {d : DV X} {c : CT X.ι} {x : CT.T X.toSE c × List Bool} (hc : c.one = true) (h : lend1 get d c = some x) (hb : ∀ b ∈ x.2, b = true) (hfk : ∀ j ∈ drefs d, j ∉ bad) : ∃ t, CT.tv X.toSE c x.1 = .s t ∧ ExpT (aget get) fk os' (den d) t := by
  obtain ⟨t, h1, h2⟩ := row_one hc x.1
  refine ⟨t, h2, ?_⟩
  have hbase : ∀ y, dat1 d c = some y → y = x.1 → ExpT (aget get) fk os' (den d) t := by
    intro y hy he
    subst he
    have h3 := dat1_den hy
    rw [h2] at h3
    have h4 := dat1_ok hc hy
    unfold dat1 at hy
    split at hy
    · rw [(castC_den hy).1]
      simp only [den, h2, TV.av, ExpT]
    · simp only [den, Gb.wk, TV.av, AV.t.injEq] at h3
      simp only [den, ExpT]
      exact h3.symm
    · simp only [den, Gb.wk, TV.av, AV.t.injEq] at h3
      simp only [den, ExpT]
      exact h3.symm
    · cases hy
  unfold lend1 at h
  split at h
  · rename_i kk off len e
    rw [Option.bind_eq_some_iff] at h; obtain ⟨o, h3, h⟩ := h
    split at h
    · rename_i b l0
      rw [Option.bind_eq_some_iff] at h; obtain ⟨l, h4, h⟩ := h
      injection h with h
      subst h
      have h5 : (sub l off len).length = len := by simpa [eqL] using hb (eqL (sub l off len).length len) (by simp)
      obtain ⟨h6, h7⟩ := castL_den h4
      obtain ⟨hf1, hf2⟩ := hbad kk (hfk kk (by simp [drefs]))
      simp only [den, ExpT]
      refine ⟨hf1, hf2, denO (.lst b l0), (sub l off len).map (CT.row X.toSE e), by simp [aget, h3], ?_, by simpa using h5, ?_⟩
      · simp only [denO, h7]
        simp [avRows, sub, List.map_take, List.map_drop]
      · simpa [CT.row] using h1.symm
    · cases h
  · rename_i kk off len
    rw [Option.bind_eq_some_iff] at h; obtain ⟨o, h3, h⟩ := h
    split at h
    · rename_i b l0
      injection h with h
      subst h
      have h5 : (sub l0 off len).length = len := by simpa [eqL] using hb (eqL (sub l0 off len).length len) (by simp)
      obtain ⟨hf1, hf2⟩ := hbad kk (hfk kk (by simp [drefs]))
      simp only [den, ExpT]
      refine ⟨hf1, hf2, denO (.lst b l0), (sub l0 off len).map (CT.row X.toSE b), by simp [aget, h3], ?_, by simpa using h5, ?_⟩
      · simp only [denO]
        simp [avRows, sub, List.map_take, List.map_drop]
      · simpa [CT.row] using h1.symm
    · cases h
  · rw [Option.bind_eq_some_iff] at h; obtain ⟨y, h3, h⟩ := h
    injection h with h
    exact hbase y h3 (by rw [← h])

theorem lendHL_exp (hbad : ∀ j, j ∉ bad → fk ≠ some j ∧ ¬ kept os' j) : ∀ {ds : List (DV X)} {l : List (CT X.ι)} {h : HL X.toSE l × List Bool}, lendHL get ds l = some h → (∀ b ∈ h.2, b = true) → l.all CT.one = true → (∀ j ∈ drefsL ds, j ∉ bad) → ExpL (aget get) fk os' (denL ds) (HL.row X.toSE l h.1)
  | [], [], h, _, _, _, _ => trivial
  | d :: ds, c :: l, h, hr, hb, ha, hfk => by
    simp only [lendHL] at hr
    rw [Option.bind_eq_some_iff] at hr; obtain ⟨x, h1, hr⟩ := hr
    rw [Option.bind_eq_some_iff] at hr; obtain ⟨g, h2, hr⟩ := hr
    injection hr with hr
    subst hr
    simp only [List.all_cons, Bool.and_eq_true] at ha
    obtain ⟨t, i1, i2⟩ := lend1_exp hbad ha.1 h1 (fun b hb' => hb b (by simp [hb'])) (fun j hj => hfk j (by simp [drefsL, hj]))
    have i3 := lendHL_exp hbad h2 (fun b hb' => hb b (by simp [hb'])) ha.2 (fun j hj => hfk j (by simp [drefsL, hj]))
    obtain ⟨t', j1, j2⟩ := row_one ha.1 x.1
    rw [i1] at j2
    injection j2 with j2
    subst j2
    show ExpL (aget get) fk os' (den d :: denL ds) (CT.row X.toSE c x.1 ++ HL.row X.toSE l g.1)
    rw [j1]
    exact ⟨i2, i3⟩
  | [], _ :: _, _, hr, _, _, _ => by simp [lendHL] at hr
  | _ :: _, [], _, hr, _, _, _ => by simp [lendHL] at hr

theorem lendRow_exp (hbad : ∀ j, j ∉ bad → fk ≠ some j ∧ ¬ kept os' j) {row : List (DV X)} {c : CT X.ι} {x : CT.T X.toSE c × List Bool} (h : lendRow get row c = some x) (hb : ∀ b ∈ x.2, b = true) (hfk : ∀ j ∈ drefsL row, j ∉ bad) : ExpL (aget get) fk os' (denL row) (CT.row X.toSE c x.1) := by
  cases c
  case st i =>
    replace h : (lendHL get row (X.tys i)).bind (fun h => some (X.make i h.1, h.2)) = some x := h
    rw [Option.bind_eq_some_iff] at h; obtain ⟨g, h1, h⟩ := h
    injection h with h
    subst h
    have := lendHL_exp hbad h1 hb (X.flat i) hfk
    show ExpL (aget get) fk os' (denL row) (X.row i (X.make i g.1))
    rw [X.row_make]; exact this
  all_goals
    match row, h, hfk with
    | [d], h, hfk =>
      obtain ⟨t, i1, i2⟩ := lend1_exp (fk := fk) hbad rfl h hb (fun j hj => hfk j (by simp [drefsL, hj]))
      obtain ⟨t', j1, j2⟩ := row_one rfl x.1
      rw [i1] at j2
      injection j2 with j2
      subst j2
      rw [j1]
      exact ⟨i2, trivial⟩
    | [], h, _ => cases h
    | _ :: _ :: _, h, _ => cases h

theorem lendRows_exp (hbad : ∀ j, j ∉ bad → fk ≠ some j ∧ ¬ kept os' j) {c : CT X.ι} : ∀ {rows : List (List (DV X))} {x : List (CT.T X.toSE c) × List Bool}, lendRows get c rows = some x → (∀ b ∈ x.2, b = true) → (∀ j ∈ (rows.map drefsL).flatten, j ∉ bad) → ExpRows (aget get) fk os' (rows.map denL) (x.1.map (CT.row X.toSE c)) ∧ rows.length = List.length x.1
  | [], x, h, _, _ => by simp only [lendRows, Option.some.injEq] at h; subst h; exact ⟨trivial, rfl⟩
  | r :: rs, x, h, hb, hfk => by
    simp only [lendRows] at h
    rw [Option.bind_eq_some_iff] at h; obtain ⟨y, h1, h⟩ := h
    rw [Option.bind_eq_some_iff] at h; obtain ⟨z, h2, h⟩ := h
    injection h with h
    subst h
    have i1 := lendRow_exp hbad h1 (fun b hb' => hb b (by simp [hb'])) (fun j hj => hfk j (by simp [hj]))
    obtain ⟨i2, i3⟩ := lendRows_exp hbad h2 (fun b hb' => hb b (by simp [hb'])) (fun j hj => hfk j (by simp only [List.map_cons, List.flatten_cons, List.mem_append]; exact .inr hj))
    exact ⟨⟨i1, i2⟩, by simp [i3]⟩

theorem expC_one {x : AV} {t : Tree} (h : ExpT (aget get) fk os' x t) : ExpC (aget get) fk os' x (.d (.s t)) := by
  cases x <;> first | exact h | exact h.elim

theorem ExpRows_refl (sz : CT X.ι) (l : List (CT.T X.toSE sz)) : ExpRows (aget get) fk os' (avRows (l.map (CT.row X.toSE sz))) (l.map (CT.row X.toSE sz)) := by
  generalize l.map (CT.row X.toSE sz) = rows
  induction rows with
  | nil => trivial
  | cons r rs ih =>
    refine ⟨?_, ih⟩
    show ExpL (aget get) fk os' (r.map AV.t) r
    induction r with
    | nil => trivial
    | cons y ys ih2 => exact ⟨rfl, ih2⟩

theorem expD_exp (hbad : ∀ j, j ∉ bad → fk ≠ some j ∧ ¬ kept os' j) {c : CT X.ι} {d : DV X} {x : CT.T X.toSE c × List Bool} (h : lendD get d c = some x) (hfk : ∀ j ∈ drefs d, j ∉ bad) (hb : ∀ b ∈ x.2, b = true) : ExpC (aget get) fk os' (den d) (.d (CT.tv X.toSE c x.1)) := by
  cases c
  case st i =>
    replace h : lendS get d i = some x := h
    cases d
    case agg cs =>
      simp only [lendS] at h
      rw [Option.bind_eq_some_iff] at h; obtain ⟨g, h1, h⟩ := h
      injection h with h
      subst h
      have := lendHL_exp (fk := fk) hbad h1 hb (X.flat i) (by simpa [drefs] using hfk)
      show ExpL (aget get) fk os' (denL cs) (X.row i (X.make i g.1))
      rw [X.row_make]; exact this
    case c a y =>
      simp only [lendS] at h
      rw [Option.bind_eq_some_iff] at h; obtain ⟨z, h1, h⟩ := h
      injection h with h
      subst h
      rw [(castC_den h1).1]
      show ExpL (aget get) fk os' ((X.row i z).map AV.t) (X.row i z)
      generalize X.row i z = l
      induction l with
      | nil => trivial
      | cons y ys ih => exact ⟨rfl, ih⟩
    all_goals cases h
  all_goals
    obtain ⟨t, i1, i2⟩ := lend1_exp (fk := fk) hbad rfl h hb hfk
    rw [i1]
    exact expC_one i2

/-- One result: what it is in the untyped walk. -/
theorem expE_sound {mus : List Nat} {wl : List (Nat × Nat)} {ns : List Nat} {n : Nat} (hbad : ∀ j, j ∉ bad → fk ≠ some j ∧ ¬ kept os' j) (hfkk : ∀ k, fk = some k → ¬ kept os' k) (hns : ∀ j len0, j ∈ mus → lk wl j = some len0 → ns.getD j 0 = len0) (hmu : ∀ j ∈ mus, kept os' j) {q : RT X.ι} {ds : List (DV X)} {p : (RT.T X q × List Bool) × List (DV X)} (h : expE get bad mus fk wl n q ds = some p) (hb : ∀ b ∈ p.1.2, b = true) :
    (∀ cs, ExpCs (aget get) fk os' (denL p.2) cs → ExpCs (aget get) fk os' (denL ds) (resRC ns q p.1.1 ++ cs)) ∧
    (∀ t, outC q p.1.1 = [some t] → ∃ o, get n = some o ∧ (denO o).sz = t.1 ∧ ExpRows (aget get) fk os' ((denO o).rows.take t.2.length) t.2) ∧
    (∀ len0 c, q = .mu c → lk wl n = some len0 → outN q p.1.1 = [len0]) := by
  cases q
  case d c =>
    cases ds with
    | nil => simp [expE] at h
    | cons d ds =>
      simp only [expE] at h
      split at h
      · rename_i hnb
        rw [Option.bind_eq_some_iff] at h; obtain ⟨x, h1, h⟩ := h
        injection h with h
        subst h
        exact ⟨fun cs hcs => ⟨expD_exp hbad h1 (noBad_spec hnb) hb, hcs⟩, fun t ht => by simp [outC] at ht, fun _ _ h => by cases h⟩
      · cases h
  case fresh e =>
    cases ds with
    | nil => simp [expE] at h
    | cons d ds =>
      refine ⟨fun cs hcs => ?_, fun t ht => by simp [outC] at ht, fun _ _ h => by cases h⟩
      simp only [expE] at h
      split at h
      · injection h with h
        subst h
        exact ⟨rfl, hcs⟩
      · rename_i k len
        split at h
        · rename_i hfk
          rw [Option.bind_eq_some_iff] at h; obtain ⟨o, h1, h⟩ := h
          split at h
          · rename_i b l0
            rw [Option.bind_eq_some_iff] at h; obtain ⟨l, h2, h⟩ := h
            injection h with h
            subst h
            obtain ⟨h3, h4⟩ := castL_den h2
            have h5 : (sub l 0 len).length = len := by simpa [eqL] using hb (eqL (sub l 0 len).length len) (by simp)
            refine ⟨⟨hfk, hfkk k hfk, rfl, denO (.lst b l0), by simp [aget, h1], by simp only [denO]; exact h3, ?_, by simpa using h5⟩, hcs⟩
            have e1 : (denO (.lst b l0)).rows.take len = avRows ((sub l 0 len).map (CT.row X.toSE e)) := by
              simp only [denO, h4]
              simp [avRows, sub, List.map_take]
            rw [e1]
            exact ExpRows_refl e _
          · rename_i sz rows
            split at h
            · rename_i hc
              rw [Option.bind_eq_some_iff] at h; obtain ⟨x, h2, h⟩ := h
              injection h with h
              subst h
              obtain ⟨i1, i2⟩ := lendRows_exp (fk := fk) hbad h2 (fun b hb' => hb b (by simp [hb'])) (noBad_spec hc.2)
              have h5 : len = List.length x.1 := by simpa [eqL] using hb (eqL len (List.length x.1)) (by simp)
              refine ⟨⟨hfk, hfkk k hfk, rfl, denO (.cells sz rows), by simp [aget, h1], hc.1, ?_, by simpa using h5.symm⟩, hcs⟩
              simp only [denO]
              rw [List.take_of_length_le (by simp; omega)]
              exact i1
            · cases h
        · cases h
      · cases h
  case whole j =>
    cases ds with
    | nil => simp [expE] at h
    | cons d ds =>
      refine ⟨fun cs hcs => ?_, fun t ht => by simp [outC] at ht, fun _ _ h => by cases h⟩
      simp only [expE] at h
      split at h
      · rename_i k len
        split at h
        · rename_i hc
          obtain ⟨rfl, hm⟩ := hc
          rw [Option.bind_eq_some_iff] at h; obtain ⟨len0, h1, h⟩ := h
          injection h with h
          subst h
          have h5 : len = len0 := by simpa [eqL] using hb (eqL len len0) (by simp)
          have hm : k ∈ mus := by simpa using hm
          refine ⟨⟨rfl, rfl, ?_, hmu k hm⟩, hcs⟩
          rw [h5]; exact hns k len0 hm h1
        · cases h
      · cases h
  case mu c =>
    simp only [expE] at h
    rw [Option.bind_eq_some_iff] at h; obtain ⟨o, h1, h⟩ := h
    split at h
    · rename_i b l0
      rw [Option.bind_eq_some_iff] at h; obtain ⟨l, h2, h⟩ := h
      obtain ⟨h3, h4⟩ := castL_den h2
      split at h
      · rename_i len hl
        injection h with h
        subst h
        have h5 : (sub l 0 len).length = len := by simpa [eqL] using hb (eqL (sub l 0 len).length len) (by simp)
        refine ⟨fun cs hcs => hcs, fun t ht => ?_, fun len0 c' _ hl' => ?_⟩
        · simp only [outC, List.cons.injEq, Option.some.injEq, and_true] at ht
          subst ht
          refine ⟨_, h1, by simp only [denO, mutR]; exact h3, ?_⟩
          have e1 : (denO (.lst b l0)).rows.take (mutR c (sub l 0 len)).2.length = avRows (mutR c (sub l 0 len)).2 := by
            simp only [denO, h4, mutR, List.length_map, h5]
            simp [avRows, sub, List.map_take]
          rw [e1]
          exact ExpRows_refl c _
        · rw [hl] at hl'
          injection hl' with hl'
          subst hl'
          simp only [outN, h5]
      · rename_i hl
        injection h with h
        subst h
        refine ⟨fun cs hcs => hcs, fun t ht => ?_, fun len0 c' _ hl' => by rw [hl] at hl'; cases hl'⟩
        simp only [outC, List.cons.injEq, Option.some.injEq, and_true] at ht
        subst ht
        refine ⟨_, h1, by simp only [denO, mutR]; exact h3, ?_⟩
        have e1 : (denO (.lst b l0)).rows.take (mutR c l).2.length = avRows (mutR c l).2 := by
          simp only [denO, h4, mutR]
          rw [List.take_of_length_le (by simp [avRows])]
        rw [e1]
        exact ExpRows_refl c _
    · cases h
  case mr c =>
    simp only [expE] at h
    rw [Option.bind_eq_some_iff] at h; obtain ⟨o, h1, h⟩ := h
    split at h
    · rename_i sz row
      split at h
      · rename_i hc
        rw [Option.bind_eq_some_iff] at h; obtain ⟨x, h2, h⟩ := h
        injection h with h
        subst h
        refine ⟨fun cs hcs => hcs, fun t ht => ?_, fun _ _ h => by cases h⟩
        simp only [outC, List.cons.injEq, Option.some.injEq, and_true] at ht
        subst ht
        refine ⟨_, h1, by simp only [denO, mutR]; exact hc.1, ?_⟩
        exact ⟨lendRow_exp hbad h2 hb (noBad_spec hc.2), trivial⟩
      · cases h
    · cases h
  case mv =>
    simp only [expE, Option.some.injEq] at h
    subst h
    exact ⟨fun cs hcs => hcs, fun t ht => by simp [outC] at ht, fun _ _ h => by cases h⟩

theorem outC_len {q : RT X.ι} {x : RT.T X q} : (outC q x).length = (if q.out then 1 else 0) ∧ (outN q x).length = (if q.out then 1 else 0) := by
  cases q <;> exact ⟨rfl, rfl⟩

theorem keptN_step {n j : Nat} {q : RT X.ι} {l : List (RT X.ι)} : j ∈ keptN n (q :: l) → (j = n ∧ q.out = true) ∨ j ∈ keptN (if q.out then n + 1 else n) l := by
  cases q <;> simp only [keptN, RT.out, if_true, Bool.false_eq_true, if_false, List.mem_cons]
  case mu c => exact fun h => h.imp (fun h => ⟨h, trivial⟩) id
  case mr c => exact fun h => h.imp (fun h => ⟨h, trivial⟩) id
  all_goals exact .inr

theorem muN_step {n j : Nat} {q : RT X.ι} {l : List (RT X.ι)} : j ∈ muN n (q :: l) → (j = n ∧ ∃ c, q = .mu c) ∨ j ∈ muN (if q.out then n + 1 else n) l := by
  cases q <;> simp only [muN, RT.out, if_true, Bool.false_eq_true, if_false, List.mem_cons]
  case mu c => exact fun h => h.imp (fun h => ⟨h, c, rfl⟩) id
  all_goals exact .inr

theorem muN_ge {j : Nat} : ∀ {l : List (RT X.ι)} {n : Nat}, j ∈ muN n l → n ≤ j
  | [], n, h => by simp [muN] at h
  | q :: l, n, h => by
    rcases muN_step h with ⟨rfl, _⟩ | h
    · exact Nat.le_refl _
    · have := muN_ge h
      split at this <;> omega

/-- The slices among the objects are there. -/
theorem muN_kept : ∀ {l : List (RT X.ι)} {x : ResT X l} {n j : Nat}, j ∈ muN n l → ∃ p, (objR l x)[j - n]? = some (some p)
  | [], x, n, j, h => by simp [muN] at h
  | [q], x, n, j, h => by
    rcases muN_step h with ⟨rfl, c, rfl⟩ | h
    · exact ⟨_, by simp only [Nat.sub_self]; rfl⟩
    · simp [muN] at h
  | q :: q' :: l, x, n, j, h => by
    rcases muN_step h with ⟨rfl, c, rfl⟩ | h
    · exact ⟨_, by simp only [Nat.sub_self]; rfl⟩
    · obtain ⟨p, hp⟩ := muN_kept (l := q' :: l) (x := x.2) h
      have hge := muN_ge h
      refine ⟨p, ?_⟩
      show (outC q x.1 ++ objR (q' :: l) x.2)[j - n]? = _
      have hl := (outC_len (q := q) (x := x.1)).1
      split at hl
      · rename_i e
        rw [if_pos e] at hp hge
        rw [List.getElem?_append_right (by omega), hl, show j - n - 1 = j - (n + 1) by omega]; exact hp
      · rename_i e
        rw [if_neg e] at hp hge
        rw [List.getElem?_append_right (by omega), hl, Nat.sub_zero]; exact hp

theorem objR_kept : ∀ {l : List (RT X.ι)} {x : ResT X l} {n j : Nat} {p : RowsT}, (objR l x)[j]? = some (some p) → n + j ∈ keptN n l
  | [], x, n, j, p, h => by simp [objR] at h
  | [q], x, n, j, p, h => by
    have h : (outC q x)[j]? = some (some p) := h
    cases q <;> simp only [outC, List.getElem?_nil, reduceCtorEq] at h
    case mu c => cases j <;> simp at h <;> simp [keptN]
    case mr c => cases j <;> simp at h <;> simp [keptN]
    case mv => cases j <;> simp at h
  | q :: q' :: l, x, n, j, p, h => by
    have h : (outC q x.1 ++ objR (q' :: l) x.2)[j]? = some (some p) := h
    cases q
    case mu c =>
      cases j with
      | zero => simp [keptN]
      | succ j =>
        have := objR_kept (l := q' :: l) (x := x.2) (n := n + 1) (by simpa [outC] using h)
        simp only [keptN, List.mem_cons]
        right
        rw [show n + (j + 1) = n + 1 + j by omega]; exact this
    case mr c =>
      cases j with
      | zero => simp [keptN]
      | succ j =>
        have := objR_kept (l := q' :: l) (x := x.2) (n := n + 1) (by simpa [outC] using h)
        simp only [keptN, List.mem_cons]
        right
        rw [show n + (j + 1) = n + 1 + j by omega]; exact this
    case mv =>
      cases j with
      | zero => simp [outC] at h
      | succ j =>
        have := objR_kept (l := q' :: l) (x := x.2) (n := n + 1) (by simpa [outC] using h)
        simp only [keptN]
        rw [show n + (j + 1) = n + 1 + j by omega]; exact this
    all_goals
      simp only [keptN]
      exact objR_kept (l := q' :: l) (x := x.2) (by simpa [outC] using h)

theorem expE_len {mus : List Nat} {wl : List (Nat × Nat)} {n : Nat} {q : RT X.ι} {ds : List (DV X)} {p : (RT.T X q × List Bool) × List (DV X)} (h : expE get bad mus fk wl n q ds = some p) (hb : ∀ b ∈ p.1.2, b = true) : ∀ len0 c, q = .mu c → lk wl n = some len0 → outN q p.1.1 = [len0] := by
  rintro len0 c rfl hl
  simp only [expE] at h
  rw [Option.bind_eq_some_iff] at h; obtain ⟨o, h1, h⟩ := h
  split at h
  · rename_i b l0
    rw [Option.bind_eq_some_iff] at h; obtain ⟨l, h2, h⟩ := h
    rw [hl] at h
    injection h with h
    subst h
    have h5 : (sub l 0 len0).length = len0 := by simpa [eqL] using hb (eqL (sub l 0 len0).length len0) (by simp)
    simp only [outN, h5]
  · cases h

/-- The results, without the contract's numbers: how long the slices are. -/
theorem expDs_lens {mus : List Nat} {wl : List (Nat × Nat)} : ∀ {n : Nat} {l : List (RT X.ι)} {ds : List (DV X)} {x : ResT X l × List Bool}, expDs get bad mus fk wl n l ds = some x → (∀ b ∈ x.2, b = true) → ∀ j len0, n + j ∈ muN n l → lk wl (n + j) = some len0 → (lenR l x.1).getD j 0 = len0
  | n, [], ds, x, h, hb, j, len0, hm, _ => by simp [muN] at hm
  | n, [q], ds, x, h, hb, j, len0, hm, hl => by
    simp only [expDs] at h
    rw [Option.bind_eq_some_iff] at h; obtain ⟨p, h1, h⟩ := h
    split at h
    · injection h with h
      subst h
      rcases muN_step hm with ⟨e, c, rfl⟩ | hm
      · have e : j = 0 := by omega
        subst e
        have := (expE_len h1 hb) len0 c rfl hl
        show (outN _ p.1.1).getD 0 0 = len0
        rw [this]; rfl
      · simp [muN] at hm
    · cases h
  | n, q :: q' :: l, ds, x, h, hb, j, len0, hm, hl => by
    simp only [expDs] at h
    rw [Option.bind_eq_some_iff] at h; obtain ⟨p, h1, h⟩ := h
    rw [Option.bind_eq_some_iff] at h; obtain ⟨y, h2, h⟩ := h
    injection h with h
    subst h
    have hlen := (outC_len (q := q) (x := p.1.1)).2
    rcases muN_step hm with ⟨e, c, rfl⟩ | hm
    · have e : j = 0 := by omega
      subst e
      have := (expE_len h1 (fun b hb' => hb b (by simp [hb']))) len0 c rfl hl
      show (outN _ p.1.1 ++ lenR (q' :: l) y.1).getD 0 0 = len0
      rw [this]; rfl
    · have hge := muN_ge hm
      show (outN _ p.1.1 ++ lenR (q' :: l) y.1).getD j 0 = len0
      by_cases hq : q.out = true
      · rw [if_pos hq] at h2 hm hge hlen
        have := expDs_lens h2 (fun b hb' => hb b (by simp [hb'])) (j - 1) len0 (by rw [show n + 1 + (j - 1) = n + j by omega]; exact hm) (by rw [show n + 1 + (j - 1) = n + j by omega]; exact hl)
        rw [List.getD_eq_getElem?_getD, List.getElem?_append_right (by omega), hlen, ← List.getD_eq_getElem?_getD]
        exact this
      · rw [if_neg hq] at h2 hm hge hlen
        have := expDs_lens h2 (fun b hb' => hb b (by simp [hb'])) j len0 hm hl
        rw [List.getD_eq_getElem?_getD, List.getElem?_append_right (by omega), hlen, Nat.sub_zero, ← List.getD_eq_getElem?_getD]
        exact this

theorem expDs_exp {mus : List Nat} {wl : List (Nat × Nat)} {ns : List Nat} (hbad : ∀ j, j ∉ bad → fk ≠ some j ∧ ¬ kept os' j) (hfkk : ∀ k, fk = some k → ¬ kept os' k) (hns : ∀ j len0, j ∈ mus → lk wl j = some len0 → ns.getD j 0 = len0) (hmu : ∀ j ∈ mus, kept os' j) : ∀ {n : Nat} {l : List (RT X.ι)} {ds : List (DV X)} {x : ResT X l × List Bool}, expDs get bad mus fk wl n l ds = some x → (∀ b ∈ x.2, b = true) →
    ExpCs (aget get) fk os' (denL ds) (resRCs ns l x.1) ∧ ∀ j t, (objR l x.1)[j]? = some (some t) → ∃ o, get (n + j) = some o ∧ (denO o).sz = t.1 ∧ ExpRows (aget get) fk os' ((denO o).rows.take t.2.length) t.2
  | n, [], ds, x, h, _ => by
    simp only [expDs] at h
    split at h
    · exact ⟨trivial, fun j t ht => by simp [objR] at ht⟩
    · cases h
  | n, [q], ds, x, h, hb => by
    simp only [expDs] at h
    rw [Option.bind_eq_some_iff] at h; obtain ⟨p, h1, h⟩ := h
    split at h
    · rename_i hp
      injection h with h
      subst h
      obtain ⟨i1, i2, _⟩ := expE_sound (ns := ns) hbad hfkk hns hmu h1 hb
      rw [hp] at i1
      have := i1 [] trivial
      rw [List.append_nil] at this
      refine ⟨this, fun j t ht => ?_⟩
      have ht : (outC q p.1.1)[j]? = some (some t) := ht
      have hl := (outC_len (q := q) (x := p.1.1)).1
      have hj := (List.getElem?_eq_some_iff.1 ht).1
      have hj0 : j = 0 := by split at hl <;> omega
      subst hj0
      refine i2 t ?_
      match ho : outC q p.1.1, ht, hl with
      | [z], ht, _ => simpa using ht
      | [], ht, _ => simp at ht
      | _ :: _ :: _, _, hl => simp only [List.length_cons] at hl; split at hl <;> omega
    · cases h
  | n, q :: q' :: l, ds, x, h, hb => by
    simp only [expDs] at h
    rw [Option.bind_eq_some_iff] at h; obtain ⟨p, h1, h⟩ := h
    rw [Option.bind_eq_some_iff] at h; obtain ⟨y, h2, h⟩ := h
    injection h with h
    subst h
    obtain ⟨i1, i2, _⟩ := expE_sound (ns := ns) hbad hfkk hns hmu h1 (fun b hb' => hb b (by simp [hb']))
    obtain ⟨k1, k2⟩ := expDs_exp (ns := ns) hbad hfkk hns hmu h2 (fun b hb' => hb b (by simp [hb']))
    refine ⟨i1 _ k1, fun j t ht => ?_⟩
    have ht : (outC q p.1.1 ++ objR (q' :: l) y.1)[j]? = some (some t) := ht
    have hl := (outC_len (q := q) (x := p.1.1)).1
    by_cases hq : q.out = true
    · rw [if_pos hq] at k2 hl
      cases j with
      | zero =>
        refine i2 t ?_
        match ho : outC q p.1.1, ht, hl with
        | [z], ht, _ => simpa using ht
        | [], _, hl => simp at hl
        | _ :: _ :: _, _, hl => simp at hl
      | succ j =>
        rw [List.getElem?_append_right (by omega), hl, Nat.add_sub_cancel] at ht
        rw [show n + (j + 1) = n + 1 + j by omega]
        exact k2 j t ht
    · rw [if_neg hq] at k2 hl
      rw [List.getElem?_append_right (by omega), hl, Nat.sub_zero] at ht
      exact k2 j t ht
end

theorem ExpCs.R {get : Nat → Option AObj} {fk : Option Nat} {os' : List (Option RowsT)} : ∀ {xs : List AV} {cs : List RC}, ExpCs get fk os' xs cs → ExpR get fk os' xs (match cs with | [c] => .one c | cs => .tup cs)
  | [], [], _ => rfl
  | [_], [_], h => h.1
  | _ :: _ :: _, _ :: _ :: _, h => h
  | [], _ :: _, h => h.elim
  | _ :: _, [], h => h.elim
  | [_], _ :: _ :: _, h => h.2.elim
  | _ :: _ :: _, [_], h => h.2.elim

theorem kRet_ret {s : DSt X} {rs : List ResultVar} {l : List (RT X.ι)} {r : ResT X l} (h : ((resVs T s rs).bind fun ds => (expAll s l ds).bind fun x => chkA x.2 (some x.1)) = some r) : ∃ xs fk, resVals T s.st rs = some xs ∧ ExpR s.st.obj fk (objR l r) xs (resRV l r) ∧ ExpO s.st.obj fk (objR l r) := by
  rw [Option.bind_eq_some_iff] at h; obtain ⟨ds, h1, h⟩ := h
  rw [Option.bind_eq_some_iff] at h; obtain ⟨x, h2, h⟩ := h
  obtain ⟨h3, h⟩ := chkA_some h
  injection h with h
  subst h
  unfold expAll at h2
  split at h2
  · rename_i hnb
    have hkn : ∀ j, kept (objR l x.1) j → j ∈ keptN 0 l := fun j ⟨p, hp⟩ => by
      have := objR_kept (n := 0) hp
      simpa using this
    have hbad : ∀ j, j ∉ keptN 0 l ++ (fkOf l ds).toList → fkOf l ds ≠ some j ∧ ¬ kept (objR l x.1) j := by
      intro j hj
      simp only [List.mem_append, Option.mem_toList, not_or] at hj
      exact ⟨hj.2, fun h => hj.1 (hkn j h)⟩
    have hfkk : ∀ k, fkOf l ds = some k → ¬ kept (objR l x.1) k := fun k hk hkk => noBad_spec hnb k (by simp [hk]) (hkn k hkk)
    have hmu : ∀ j ∈ muN 0 l, kept (objR l x.1) j := fun j hj => by
      obtain ⟨p, hp⟩ := muN_kept (x := x.1) hj
      exact ⟨p, by simpa using hp⟩
    obtain ⟨i1, i2⟩ := expDs_exp (ns := lenR l x.1) hbad hfkk (fun j len0 hj hl => expDs_lens h2 h3 j len0 (by simpa using hj) (by simpa using hl)) hmu h2 h3
    have hobj : s.st.obj = aget (lko s.obj) := rfl
    refine ⟨denL ds, fkOf l ds, resVs_den T h1, ?_, fun j p hp => ?_⟩
    · rw [hobj]
      exact i1.R
    · obtain ⟨o, g1, g2, g3⟩ := i2 j p hp
      rw [Nat.zero_add] at g1
      exact ⟨fun e => hfkk j e ⟨p, hp⟩, denO o, by rw [hobj]; simp [aget, g1], g2, by rw [hobj]; exact g3⟩
  · cases h2

variable {Γ : FuncId → Option (Sig X)} {code : TypeId → Option (CT X.ι)} {P : Program}

/-- A function's contract out of its walk. -/
theorem fn_ok (hT : TabOk P T) (hm : P.follows .mixedOrders = true) (hΓ : GOk P Γ) {f : FuncId} {fn : Func} {c : Code} (hfn : P.funcs[f]? = some fn) (hb : fn.body = some c) (hname : (fn.name == "runtime.NumGoroutine") = false) (sa : List (AT X.ι)) (sr : List (RT X.ι)) (hN : sa.length ≤ fn.ntmps ∧ muts sa ≤ 1000 ∧ (sr.filter RT.out).length = muts sa)
    (h : Hn X.ι) (n : Nat) {a : ArgsT X sa} {r : ResT X sr} (hr : run Γ T code fn.ntmps n c (ResT X sr) h (ini sa a) (kRet T fn.results.toList sr) = some r) : FnW P f (argAV sa a) (objA sa a) (objR sr r) (resRV sr r) := by
  have hl : (objR sr r).length = (objA sa a).length := by
    rw [objA_length, ← hN.2.2]
    have : ∀ (sr : List (RT X.ι)) (r : ResT X sr), (objR sr r).length = (sr.filter RT.out).length := by
      intro sr
      induction sr with
      | nil => intro r; rfl
      | cons q l ih =>
        intro r
        have hq : ∀ x : RT.T X q, (outC q x).length = (if q.out then 1 else 0) := fun x => outC_len.1
        cases l with
        | nil =>
          show (outC q r).length = _
          rw [hq]
          by_cases e : q.out = true <;> simp [e]
        | cons q' l =>
          show (outC q r.1 ++ objR (q' :: l) r.2).length = _
          rw [List.length_append, hq, ih r.2]
          by_cases e : q.out = true <;> simp [List.filter_cons, e]
          omega
    exact this sr r
  refine fnW_of_ev hT hfn hb hname (by rw [argAV_length]; exact hN.1) (fun k hk => ?_) (by rw [objA_length]; exact hN.2.1) hl ?_
  · rw [argAV, ← argDV_den, drefsL_den] at hk
    have := argDV_refs 0 sa a k hk
    have := hN.2.1
    omega
  · rw [← ini_st]
    refine (run_sound hT hm hΓ c _ h _ _ r (ini_low sa a hN.2.1) hr).mono ?_
    rintro e σ ⟨s', _, _, rfl, g4⟩
    cases e <;> first | exact kRet_ret g4 | cases g4

theorem callable_of {f : FuncId} {fn : Func} {c : Code} (hfn : P.funcs[f]? = some fn) (hb : fn.body = some c) (hname : (fn.name == "runtime.NumGoroutine") = false) : Callable P f := ⟨fn, hfn, by rw [hb]; rfl, hname⟩

/-- A function's contract. -/
abbrev COk (P : Program) (f : FuncId) (s : Sig X) : Prop := Callable P f ∧ ∀ a r, s.fn a = some r → FnW P f (argAV s.args a) (objA s.args a) (objR s.res r) (resRV s.res r)

/-- Some contracts, by number. -/
def gam (l : List (FuncId × Sig X)) : FuncId → Option (Sig X) := fun f => lk l f
theorem gam_nil : GOk P (gam ([] : List (FuncId × Sig X))) := fun _ _ h => by cases h
theorem gam_cons {f : FuncId} {s : Sig X} {l : List (FuncId × Sig X)} (h : Callable P f ∧ ∀ a r, s.fn a = some r → FnW P f (argAV s.args a) (objA s.args a) (objR s.res r) (resRV s.res r)) (hl : GOk P (gam l)) : GOk P (gam ((f, s) :: l)) := by
  intro g q hg
  simp only [gam, lk] at hg
  split at hg
  · rename_i e
    injection hg with hg
    subst hg; subst e
    exact h
  · exact hl g q hg
end
end Go.Gb

namespace Go.Gb
open Go.RowKit

section
variable {X : SX}

def mapO {α β : Type} (f : α → Option β) : List α → Option (List β)
  | [] => some []
  | x :: xs => (f x).bind fun y => (mapO f xs).bind fun ys => some (y :: ys)

/-- The shape of a code's cells. -/
def csF : Nat → CT X.ι → Option (List CS)
  | 0, _ => none
  | _ + 1, .int k => some [.int k]
  | _ + 1, .bool => some [.bool]
  | _ + 1, .str => some [.str]
  | _ + 1, .any => some [.any]
  | n + 1, .sl e => (csF n e).bind fun r => some [.sl r]
  | n + 1, .st i => (mapO (csF n) (X.tys i)).bind fun l => some l.flatten

def vsF (n : Nat) (c : CT X.ι) : Option VS :=
  match c with
  | .st i => (csF n (.st i : CT X.ι)).map .agg
  | c => (csF n c).bind fun l => match l with
    | [x] => some (.one x)
    | _ => none

theorem FitL_append : ∀ (a b : List CS) (ys : List Tree), FitL (a ++ b) ys → ∃ ya yb, ys = ya ++ yb ∧ FitL a ya ∧ FitL b yb
  | [], b, ys, h => ⟨[], ys, rfl, trivial, h⟩
  | c :: a, b, y :: ys, h => by
    simp only [List.cons_append, FitL] at h
    obtain ⟨ya, yb, rfl, h1, h2⟩ := FitL_append a b ys h.2
    exact ⟨y :: ya, yb, rfl, ⟨h.1, h1⟩, h2⟩
  | _ :: _, _, [], h => h.elim

theorem rows_fit {c : CT X.ι} {cs : List CS} (h : ∀ ys, FitL cs ys → ∃ x : CT.T X.toSE c, ys = CT.row X.toSE c x) : ∀ rows : List (List Tree), (∀ r ∈ rows, FitL cs r) → ∃ l : List (CT.T X.toSE c), rows = l.map (CT.row X.toSE c)
  | [], _ => ⟨[], rfl⟩
  | r :: rows, hr => by
    obtain ⟨x, hx⟩ := h r (hr r (by simp))
    obtain ⟨l, hl⟩ := rows_fit h rows fun q hq => hr q (List.mem_cons_of_mem _ hq)
    exact ⟨x :: l, by rw [List.map_cons, ← hx, ← hl]⟩

theorem hl_fit {f : CT X.ι → Option (List CS)} (hf : ∀ c cs, f c = some cs → ∀ ys, FitL cs ys → ∃ x : CT.T X.toSE c, ys = CT.row X.toSE c x) : ∀ (l : List (CT X.ι)) (css : List (List CS)), mapO f l = some css → ∀ ys, FitL css.flatten ys → ∃ h : HL X.toSE l, ys = HL.row X.toSE l h
  | [], css, h, ys, hy => by
    simp only [mapO, Option.some.injEq] at h
    subst h
    cases ys with
    | nil => exact ⟨(), rfl⟩
    | cons y ys => exact hy.elim
  | c :: l, css, h, ys, hy => by
    simp only [mapO] at h
    rw [Option.bind_eq_some_iff] at h; obtain ⟨a, h1, h⟩ := h
    rw [Option.bind_eq_some_iff] at h; obtain ⟨b, h2, h⟩ := h
    injection h with h
    subst h
    simp only [List.flatten_cons] at hy
    obtain ⟨ya, yb, rfl, g1, g2⟩ := FitL_append _ _ _ hy
    obtain ⟨x, hx⟩ := hf c a h1 ya g1
    obtain ⟨q, hq⟩ := hl_fit hf l b h2 yb g2
    exact ⟨(x, q), by rw [hx, hq]; rfl⟩

theorem csF_fit : ∀ (n : Nat) (c : CT X.ι) (cs : List CS), csF n c = some cs → ∀ ys, FitL cs ys → ∃ x : CT.T X.toSE c, ys = CT.row X.toSE c x
  | 0, _, _, h, _, _ => by cases h
  | n + 1, .int k, cs, h, ys, hy => by
    simp only [csF, Option.some.injEq] at h; subst h
    match ys, hy with
    | [y], hy =>
      simp only [FitL, Fit, and_true] at hy
      obtain ⟨m, rfl, _⟩ := hy
      exact ⟨m, rfl⟩
    | [], hy => exact hy.elim
    | _ :: _ :: _, hy => exact hy.2.elim
  | n + 1, .bool, cs, h, ys, hy => by
    simp only [csF, Option.some.injEq] at h; subst h
    match ys, hy with
    | [y], hy =>
      simp only [FitL, Fit, and_true] at hy
      obtain ⟨m, rfl⟩ := hy
      exact ⟨m, rfl⟩
    | [], hy => exact hy.elim
    | _ :: _ :: _, hy => exact hy.2.elim
  | n + 1, .str, cs, h, ys, hy => by
    simp only [csF, Option.some.injEq] at h; subst h
    match ys, hy with
    | [y], hy =>
      simp only [FitL, Fit, and_true] at hy
      obtain ⟨m, rfl, _⟩ := hy
      exact ⟨m, rfl⟩
    | [], hy => exact hy.elim
    | _ :: _ :: _, hy => exact hy.2.elim
  | n + 1, .any, cs, h, ys, hy => by
    simp only [csF, Option.some.injEq] at h; subst h
    match ys, hy with
    | [y], hy => exact ⟨y, rfl⟩
    | [], hy => exact hy.elim
    | _ :: _ :: _, hy => exact hy.2.elim
  | n + 1, .sl e, cs, h, ys, hy => by
    simp only [csF] at h
    rw [Option.bind_eq_some_iff] at h; obtain ⟨r, h1, h⟩ := h
    injection h with h; subst h
    match ys, hy with
    | [y], hy =>
      simp only [FitL, Fit, and_true] at hy
      obtain ⟨rows, rfl, _, hr⟩ := hy
      obtain ⟨l, hl⟩ := rows_fit (csF_fit n e r h1) rows hr
      exact ⟨l, by rw [hl]; rfl⟩
    | [], hy => exact hy.elim
    | _ :: _ :: _, hy => exact hy.2.elim
  | n + 1, .st i, cs, h, ys, hy => by
    simp only [csF] at h
    rw [Option.bind_eq_some_iff] at h; obtain ⟨css, h1, h⟩ := h
    injection h with h; subst h
    obtain ⟨q, hq⟩ := hl_fit (csF_fit n) (X.tys i) css h1 ys hy
    exact ⟨X.make i q, by rw [hq]; exact (X.row_make i q).symm⟩

theorem vsF_fit {n : Nat} {c : CT X.ι} {s : VS} (h : vsF n c = some s) {x : TV} (hx : FitV s x) : ∃ y : CT.T X.toSE c, x = CT.tv X.toSE c y := by
  have one : ∀ c : CT X.ι, c.one = true → ((csF n c).bind fun l => match l with
      | [x] => some (VS.one x)
      | _ => none) = some s → ∃ y : CT.T X.toSE c, x = CT.tv X.toSE c y := by
    intro c hc h
    rw [Option.bind_eq_some_iff] at h; obtain ⟨l, h1, h⟩ := h
    split at h
    · rename_i z
      injection h with h; subst h
      simp only [FitV] at hx
      obtain ⟨t, rfl, ht⟩ := hx
      obtain ⟨y, hy⟩ := csF_fit n c _ h1 [t] ⟨ht, trivial⟩
      obtain ⟨t', e1, e2⟩ := row_one hc y
      rw [e1] at hy
      injection hy with hy
      subst hy
      exact ⟨y, e2.symm⟩
    · cases h
  cases c
  case st i =>
    simp only [vsF, Option.map_eq_some_iff] at h
    obtain ⟨cs, h1, rfl⟩ := h
    simp only [FitV] at hx
    obtain ⟨ys, rfl, hy⟩ := hx
    obtain ⟨y, hy⟩ := csF_fit n (.st i) _ h1 ys hy
    exact ⟨y, by rw [hy]; rfl⟩
  all_goals exact one _ rfl h

theorem args_fit (n : Nat) : ∀ (cs : List (CT X.ι)) (ss : List VS), mapO (vsF n) cs = some ss → ∀ xs, FitVs ss xs → ∃ h : HL X.toSE cs, xs = HL.tvs X.toSE cs h
  | [], ss, h, xs, hx => by
    simp only [mapO, Option.some.injEq] at h; subst h
    cases xs with
    | nil => exact ⟨(), rfl⟩
    | cons x xs => exact hx.elim
  | c :: cs, ss, h, xs, hx => by
    simp only [mapO] at h
    rw [Option.bind_eq_some_iff] at h; obtain ⟨a, h1, h⟩ := h
    rw [Option.bind_eq_some_iff] at h; obtain ⟨b, h2, h⟩ := h
    injection h with h; subst h
    cases xs with
    | nil => exact hx.elim
    | cons x xs =>
      obtain ⟨y, rfl⟩ := vsF_fit h1 hx.1
      obtain ⟨q, rfl⟩ := args_fit n cs b h2 xs hx.2
      exact ⟨(y, q), rfl⟩

/-- A law that is true of all data. -/
theorem law_fnP {P : Program} {f : FuncId} {n : Nat} {cs : List (CT X.ι)} {ss : List VS} {fn : ArgsT X (cs.map AT.d) → Option Bool} (hc : COk P f ⟨cs.map AT.d, [.d .bool], fn⟩) (hs : mapO (vsF n) cs = some ss) (hl : ∀ a, fn a = some true) (xs : List TV) (h : FitVs ss xs) :
    FnP P f (xs.map TV.av) (.one (.d (.s (.sc (.bool true))))) := by
  obtain ⟨q, rfl⟩ := args_fit n cs ss hs xs h
  have h1 := hc.2 (hlA cs q) true (hl _)
  have h2 := h1
  rw [objA_nil (mapD_nm cs)] at h2
  have h3 : FnW P f (argAV (cs.map AT.d) (hlA cs q)) [] [] (.one (.d (.s (.sc (.bool true))))) := h2
  have h4 := fnP_of_W h3
  rw [argAV, argAV_hlA] at h4
  exact h4
end
end Go.Gb
