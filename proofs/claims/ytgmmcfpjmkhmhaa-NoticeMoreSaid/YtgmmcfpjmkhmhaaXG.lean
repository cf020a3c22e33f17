/-
  Calls of the typed walk.
-/
import Derived.Test.YtgmmcfpjmkhmhaaXP
namespace Go.Gb
open Go.RowKit

section
variable {X : SX} {A : Type}

def scal1 : CT X.ι → Bool
  | .int _ | .bool | .str => true
  | _ => false
def scalC : CT X.ι → Bool
  | .st i => (X.tys i).all scal1
  | c => scal1 c
def scalR : RT X.ι → Bool
  | .d c => scalC c
  | .fresh e => scalC e
  | .whole _ => true
  | .mu c => scalC c
  | .mr c => scalC c
  | .mv => true

theorem scal1_flat {c : CT X.ι} (h : scal1 c = true) (x : CT.T X.toSE c) : ∀ t ∈ CT.row X.toSE c x, t.flat := by
  cases c <;> first | (intro t ht; simp only [CT.row, List.mem_singleton] at ht; subst ht; exact trivial) | cases h

theorem HL_flat : ∀ (l : List (CT X.ι)) (h : HL X.toSE l), l.all scal1 = true → ∀ t ∈ HL.row X.toSE l h, t.flat
  | [], _, _, t, ht => by simp [HL.row] at ht
  | c :: l, h, ha, t, ht => by
    simp only [List.all_cons, Bool.and_eq_true] at ha
    rcases List.mem_append.1 (show t ∈ CT.row X.toSE c h.1 ++ HL.row X.toSE l h.2 from ht) with ht | ht
    · exact scal1_flat ha.1 h.1 t ht
    · exact HL_flat l h.2 ha.2 t ht

theorem scalC_flat {c : CT X.ι} (h : scalC c = true) (x : CT.T X.toSE c) : ∀ t ∈ CT.row X.toSE c x, t.flat := by
  cases c
  case st i => intro t ht; exact HL_flat (X.tys i) (X.get i x) h t ((X.row_get i x) ▸ ht)
  case int k => exact scal1_flat (c := .int k) h x
  case bool => exact scal1_flat (c := .bool) h x
  case str => exact scal1_flat (c := .str) h x
  case sl e => cases h
  case any => cases h

theorem scalC_tv {c : CT X.ι} (h : scalC c = true) (x : CT.T X.toSE c) : (CT.tv X.toSE c x).flat := by
  cases c
  case st i => exact scalC_flat h x
  all_goals first | exact trivial | cases h

theorem scalR_flat {ns : List Nat} {q : RT X.ι} {x : RT.T X q} (h : scalR q = true) : ∀ c ∈ resRC ns q x, c.flat := by
  intro c hc
  cases q <;> simp only [resRC, List.mem_singleton, List.not_mem_nil] at hc
  case d c => subst hc; exact scalC_tv h x
  case fresh e =>
    subst hc
    intro row hr
    obtain ⟨y, _, rfl⟩ := List.mem_map.1 hr
    exact scalC_flat h y
  case whole j => subst hc; exact trivial

theorem scalRs_flat {ns : List Nat} : ∀ {l : List (RT X.ι)} {x : ResT X l}, l.all scalR = true → ∀ c ∈ resRCs ns l x, c.flat
  | [], x, _, c, hc => by simp [resRCs] at hc
  | [q], x, h, c, hc => scalR_flat (by simpa using h) c hc
  | q :: q' :: l, x, h, c, hc => by
    simp only [List.all_cons, Bool.and_eq_true] at h
    simp only [resRCs, List.mem_append] at hc
    rcases hc with hc | hc
    · exact scalR_flat h.1 c hc
    · exact scalRs_flat (by simp only [List.all_cons, Bool.and_eq_true]; exact h.2) c hc

theorem resRV_flat {l : List (RT X.ι)} (x : ResT X l) (h : l.all scalR = true) : (resRV l x).flat := by
  have := scalRs_flat (ns := lenR l x) (x := x) h
  unfold resRV
  split
  · rename_i c hc
    exact this c (by rw [hc]; simp)
  · exact this

theorem outC_flat {q : RT X.ι} {x : RT.T X q} (h : scalR q = true) : flatO (outC q x) := by
  intro p hp
  cases q <;> simp only [outC, List.mem_singleton, List.not_mem_nil, Option.some.injEq, reduceCtorEq] at hp
  case mu c =>
    subst hp
    intro r hr
    obtain ⟨y, _, rfl⟩ := List.mem_map.1 hr
    exact scalC_flat h y
  case mr c =>
    subst hp
    intro r hr
    obtain ⟨y, _, rfl⟩ := List.mem_map.1 hr
    exact scalC_flat h y

theorem objR_flat : ∀ {l : List (RT X.ι)} {x : ResT X l}, l.all scalR = true → flatO (objR l x)
  | [], x, _ => fun p hp => by simp [objR] at hp
  | [q], x, h => outC_flat (q := q) (by simpa using h)
  | q :: q' :: l, x, h => by
    simp only [List.all_cons, Bool.and_eq_true] at h
    intro p hp
    rcases List.mem_append.1 (show some p ∈ outC q x.1 ++ objR (q' :: l) x.2 from hp) with hp | hp
    · exact outC_flat h.1 p hp
    · exact objR_flat (l := q' :: l) (by simp only [List.all_cons, Bool.and_eq_true]; exact h.2) p hp

def impC1 (i : Nat) (ids ns : List Nat) : (q : RT X.ι) → RT.T X q → List (DV X) × List (Nat × Option (DObj X))
  | .d c, x => ([.c c x], [])
  | .fresh e, l => ([.own (nid i) 0 l.length], [(nid i, some (.lst e l))])
  | .whole j, _ => ([match ids[j]? with | some k => .own k 0 (ns.getD j 0) | none => .undef], [])
  | _, _ => ([], [])
def impLD (i : Nat) (ids ns : List Nat) : (l : List (RT X.ι)) → ResT X l → Option (List (DV X) × List (Nat × Option (DObj X)))
  | [], _ => some ([], [])
  | [q], x => some (impC1 i ids ns q x)
  | q :: q' :: l, x => (impLD i ids ns (q' :: l) x.2).bind fun p => if (impC1 i ids ns q x.1).2.isEmpty || p.2.isEmpty then some ((impC1 i ids ns q x.1).1 ++ p.1, (impC1 i ids ns q x.1).2 ++ p.2) else none
def tupD : List (DV X) → DV X
  | [d] => d
  | ds => .tup ds
def impD (i : Nat) (ids : List Nat) (l : List (RT X.ι)) (x : ResT X l) : Option (DV X × List (Nat × Option (DObj X))) :=
  (impLD i ids (lenR l x) l x).bind fun p => some (tupD p.1, p.2)

theorem denU_isEmpty (u : List (Nat × Option (DObj X))) : (denU u).isEmpty = u.isEmpty := by cases u <;> rfl

theorem impC1_den (i : Nat) (ids ns : List Nat) (q : RT X.ι) (x : RT.T X q) : (∃ c, resRC ns q x = [c] ∧ ∃ d, (impC1 i ids ns q x).1 = [d] ∧ impC i ids c = (den d, denU (impC1 i ids ns q x).2)) ∨ (resRC ns q x = [] ∧ impC1 i ids ns q x = ([], [])) := by
  cases q
  case d c => exact .inl ⟨_, rfl, _, rfl, rfl⟩
  case fresh e => exact .inl ⟨_, rfl, _, rfl, by simp [impC, impC1, den, denU, denO, avRows]⟩
  case whole j =>
    refine .inl ⟨_, rfl, _, rfl, ?_⟩
    simp only [impC, denU, impC1, List.map_nil, Prod.mk.injEq, and_true]
    cases ids[j]? <;> rfl
  all_goals exact .inr ⟨rfl, rfl⟩

theorem impL_one (i : Nat) (ids : List Nat) (c : RC) : impL i ids [c] = some ([(impC i ids c).1], (impC i ids c).2) := by
  simp [impL]

theorem impLD_den (i : Nat) (ids ns : List Nat) : ∀ (l : List (RT X.ι)) (x : ResT X l) (p : List (DV X) × List (Nat × Option (DObj X))), impLD i ids ns l x = some p → impL i ids (resRCs ns l x) = some (denL p.1, denU p.2)
  | [], _, p, h => by simp only [impLD, Option.some.injEq] at h; subst h; rfl
  | [q], x, p, h => by
    simp only [impLD, Option.some.injEq] at h
    subst h
    simp only [resRCs]
    rcases impC1_den i ids ns q x with ⟨c, h1, d, h2, h3⟩ | ⟨h1, h2⟩
    · rw [h1, impL_one, h2, h3]; simp [denL]
    · rw [h1, h2]; rfl
  | q :: q' :: l, x, p, h => by
    simp only [impLD] at h
    rw [Option.bind_eq_some_iff] at h; obtain ⟨p', h1, h⟩ := h
    have ih := impLD_den i ids ns (q' :: l) x.2 p' h1
    split at h
    · rename_i hc
      injection h with h
      subst h
      simp only [resRCs]
      rcases impC1_den i ids ns q x.1 with ⟨c, h1, d, h2, h3⟩ | ⟨h1, h2⟩
      · rw [h1]
        simp only [List.singleton_append, impL, ih, Option.bind_some, h3, denU_isEmpty]
        rw [if_pos hc, h2]
        simp [denL, denU]
      · rw [h1, h2]
        simp only [List.nil_append]
        exact ih
    · cases h

theorem impD_den {i : Nat} {ids : List Nat} {l : List (RT X.ι)} {x : ResT X l} {p : DV X × List (Nat × Option (DObj X))} (h : impD i ids l x = some p) : imp i ids (resRV l x) = some (den p.1, denU p.2) := by
  unfold impD at h
  rw [Option.bind_eq_some_iff] at h; obtain ⟨p', h1, h⟩ := h
  injection h with h
  subst h
  have ih := impLD_den i ids _ l x p' h1
  unfold resRV
  split
  · rename_i c hc
    rw [hc, impL_one] at ih
    simp only [Option.some.injEq, Prod.mk.injEq] at ih
    obtain ⟨ds, u⟩ := p'
    match ds, ih with
    | [d], ih =>
      simp only [denL, List.cons.injEq, and_true] at ih
      simp only [imp, tupD, ← ih.1, ← ih.2]
    | [], ih => simp [denL] at ih
    | _ :: _ :: _, ih => simp [denL] at ih
  · rename_i hne
    simp only [imp, ih, Option.bind_some]
    obtain ⟨ds, u⟩ := p'
    match ds, ih with
    | [], _ => rfl
    | _ :: _ :: _, _ => rfl
    | [d], ih =>
      exfalso
      generalize hcs : resRCs (lenR l x) l x = cs at ih hne
      match cs, ih, hne with
      | [], ih, _ => simp [impL, denL] at ih
      | [c], _, hne => exact hne c rfl
      | c :: c' :: cs, ih, _ =>
        simp only [impL] at ih
        cases h3 : impL i ids cs with
        | none => rw [h3] at ih; simp at ih
        | some q =>
          rw [h3] at ih
          simp only [Option.bind_some] at ih
          split at ih
          · simp only [Option.bind_some] at ih
            split at ih
            · simp [denL] at ih
            · cases ih
          · simp at ih

def outD : (q : RT X.ι) → RT.T X q → List (Option (DObj X))
  | .mu c, x => [some (.lst c x)]
  | .mr c, x => [some (.cells (CT.sz X c) [cellsC c x])]
  | .mv, _ => [none]
  | _, _ => []
def outDs : (l : List (RT X.ι)) → ResT X l → List (Option (DObj X))
  | [], _ => []
  | [q], x => outD q x
  | q :: q' :: l, x => outD q x.1 ++ outDs (q' :: l) x.2
def outUD : List Nat → List (Option (DObj X)) → List (Nat × Option (DObj X))
  | k :: ids, p :: os => (k, p) :: outUD ids os
  | _, _ => []

theorem outD_den (q : RT X.ι) (x : RT.T X q) : (outD q x).map (·.map denO) = (outC q x).map (·.map aob) := by
  cases q <;> try rfl
  case mr c => simp only [outD, outC, List.map_cons, List.map_nil, Option.map_some, denO, aob, mutR, avRows, cellsC_den]

theorem outDs_den : ∀ (l : List (RT X.ι)) (x : ResT X l), (outDs l x).map (·.map denO) = (objR l x).map (·.map aob)
  | [], _ => rfl
  | [q], x => outD_den q x
  | q :: q' :: l, x => by simp only [outDs, objR, List.map_append, outD_den, outDs_den (q' :: l) x.2]

theorem outUD_den : ∀ (ids : List Nat) (os : List (Option (DObj X))) (os' : List (Option RowsT)), os.map (·.map denO) = os'.map (·.map aob) → denU (outUD ids os) = outU ids os'
  | [], _, _, _ => by simp [outUD, outU, denU]
  | _ :: _, [], [], _ => rfl
  | k :: ids, p :: os, p' :: os', h => by
    simp only [List.map_cons, List.cons.injEq] at h
    have := outUD_den ids os os' h.2
    simp only [denU] at this
    simp only [outUD, outU, denU, List.map_cons, h.1, this]
  | _ :: _, [], _ :: _, h => by simp at h
  | _ :: _, _ :: _, [], h => by simp at h

theorem outUD_keys : ∀ {ids : List Nat} {os : List (Option (DObj X))} {p : Nat × Option (DObj X)}, p ∈ outUD ids os → p.1 ∈ ids
  | [], _, _, h => by simp [outUD] at h
  | _ :: _, [], _, h => by simp [outUD] at h
  | k :: ids, q :: os, p, h => by
    simp only [outUD, List.mem_cons] at h
    rcases h with rfl | h
    · simp
    · exact List.mem_cons_of_mem _ (outUD_keys h)

def lendMut (get : Nat → Option (DObj X)) (d : DV X) (c : CT X.ι) : Option (List (CT.T X.toSE c) × Nat × List Bool) :=
  match d with
  | .own k 0 len => (get k).bind fun o => match o with
    | .lst b l => (castC (.sl b) (.sl c) l).bind fun (l : List (CT.T X.toSE c)) => some (l, k, [eqL len (List.length l)])
    | _ => none
  | _ => none

def lendMref (get : Nat → Option (DObj X)) (d : DV X) (c : CT X.ι) : Option (CT.T X.toSE c × Nat) :=
  match d with
  | .ptr k 0 0 => (get k).bind fun o => match o with
    | .cells sz [row] => if sz = CT.sz X c then (mkRow c row).bind fun x => some (x, k) else none
    | _ => none
  | _ => none

/-- The arguments of a call that may change objects; their names. -/
def lendAW (Γ : FuncId → Option (Sig X)) (get : Nat → Option (DObj X)) : List (DV X) → (l : List (AT X.ι)) → Option (ArgsT X l × List Nat × List Bool)
  | [], [] => some ((), [], [])
  | d :: ds, .mut c :: l => (lendMut get d c).bind fun x => (lendAW Γ get ds l).bind fun h => some ((x.1, h.1), x.2.1 :: h.2.1, x.2.2 ++ h.2.2)
  | d :: ds, .mref c :: l => (lendMref get d c).bind fun x => (lendAW Γ get ds l).bind fun h => some ((x.1, h.1), x.2 :: h.2.1, h.2.2)
  | d :: ds, .d c :: l => (lendA Γ get 3 [d] [.d c]).bind fun x => (lendAW Γ get ds l).bind fun h => some ((x.1.1, h.1), h.2.1, x.2 ++ h.2.2)
  | d :: ds, .ref c :: l => (lendA Γ get 3 [d] [.ref c]).bind fun x => (lendAW Γ get ds l).bind fun h => some ((x.1.1, h.1), h.2.1, x.2 ++ h.2.2)
  | d :: ds, .clo as r :: l => (lendA Γ get 3 [d] [.clo as r]).bind fun x => (lendAW Γ get ds l).bind fun h => some ((x.1.1, h.1), h.2.1, x.2 ++ h.2.2)
  | d :: ds, .nil :: l => match d with
    | .nil => (lendAW Γ get ds l).bind fun h => some (((), h.1), h.2.1, h.2.2)
    | _ => none
  | _, _ => none

def nonRefs : List (DV X) → List (AT X.ι) → List Nat
  | d :: ds, a :: l => (if a.im then [] else drefs d) ++ nonRefs ds l
  | _, _ => []

def lendHD (get : Nat → Option (DObj X)) : List (DV X) → (l : List (CT X.ι)) → Option (HL X.toSE l × List Bool)
  | [], [] => some ((), [])
  | d :: ds, c :: l => (lendD get d c).bind fun x => (lendHD get ds l).bind fun h => some ((x.1, h.1), x.2 ++ h.2)
  | _, _ => none


variable (Γ : FuncId → Option (Sig X))

def callD (i : Nat) (f : DV X) (args : List (DV X)) (get : Nat → Option (DObj X)) (k : KK X A) : Option A :=
  match f with
  | .fn F first caps => (Γ F).bind fun s =>
    if (s.args.all (fun q => q.pl) && s.res.all (fun q => !q.out)) = true then (lendA Γ get 3 (first ++ args ++ caps) s.args).bind fun a => chkA a.2 ((s.fn a.1).bind fun x => (impD i [] s.res x).bind fun p =>
      if s.res.all scalR then k p.1 p.2 (drefsL (first ++ args ++ caps)) []
      else k p.1 (p.2 ++ goneD (drefsL (first ++ args ++ caps))) (drefsL (first ++ args ++ caps)) (drefsL (first ++ args ++ caps)))
    else (lendAW Γ get (first ++ args ++ caps) s.args).bind fun a => chkA a.2.2 ((s.fn a.1).bind fun x => (impD i a.2.1 s.res x).bind fun p =>
      if (decide a.2.1.Nodup && (nonRefs (first ++ args ++ caps) s.args).all (fun j => !a.2.1.contains j) && decide ((outDs s.res x).length = a.2.1.length)) = true then
        if s.res.all scalR then k p.1 (p.2 ++ outUD a.2.1 (outDs s.res x)) (drefsL (first ++ args ++ caps)) a.2.1
        else k p.1 (p.2 ++ (outUD a.2.1 (outDs s.res x) ++ goneD ((drefsL (first ++ args ++ caps)).filter fun j => !a.2.1.contains j))) (drefsL (first ++ args ++ caps)) (a.2.1 ++ (drefsL (first ++ args ++ caps)).filter fun j => !a.2.1.contains j)
      else none)
  | .clo as q φ => (lendHD get args as).bind fun h => chkA h.2 ((φ h.1).bind fun y =>
      if scalC q then k (.c q y) [] (drefsL args) [] else k (.c q y) (goneD (drefsL args)) (drefsL args) (drefsL args))
  | _ => none

/-- Any operation; those of 'fz' make data of their own operands. -/
def anyD (fz : List Nat) (T : Tab) (code : TypeId → Option (CT X.ι)) (i : Nat) (o : Op) (ρ : Operand → DV X) (get : Nat → Option (DObj X)) (k : KK X A) : Option A :=
  match o with
  | .call { callee := .value f, args := args, argTypes := _ } => callD Γ i (ρ f) (args.toList.map ρ) get k
  | o => if isExt o ρ then extD T code i o ρ get k else if isFrz o ρ || fz.contains i then frzD T code i o ρ get k else if isArr T o ρ then arrD T code o ρ get k else opD T code i o ρ get k

variable {Γ}
theorem lendHD_sound {P : Program} {get : Nat → Option (DObj X)} {rd : List Nat} : ∀ {ds : List (DV X)} {l : List (CT X.ι)} {h : HL X.toSE l × List Bool}, lendHD get ds l = some h → (∀ b ∈ h.2, b = true) → (∀ j ∈ drefsL ds, j ∈ rd) →
    ∃ hs obs, (∀ p ∈ obs, p) ∧ ∀ rest, lendL P (restr rd (aget get)) (denL ds) (hs ++ rest) = some ((HL.tvs X.toSE l h.1).map TV.av, rest, obs)
  | [], [], h, _, _, _ => ⟨[], [], by simp, fun rest => rfl⟩
  | d :: ds, c :: l, h, hr, hc, hrd => by
    simp only [lendHD] at hr
    rw [Option.bind_eq_some_iff] at hr; obtain ⟨x, h1, hr⟩ := hr
    rw [Option.bind_eq_some_iff] at hr; obtain ⟨g, h2, hr⟩ := hr
    injection hr with hr
    subst hr
    obtain ⟨hs1, o1, p1, q1⟩ := lendD_sound (P := P) (rd := rd) h1 (fun b hb => hc b (by simp [hb])) (fun j hj => hrd j (by simp [drefsL, hj]))
    obtain ⟨hs2, o2, p2, q2⟩ := lendHD_sound (P := P) (rd := rd) h2 (fun b hb => hc b (by simp [hb])) (fun j hj => hrd j (by simp [drefsL, hj]))
    refine ⟨hs1 ++ hs2, o1 ++ o2, all_app p1 p2, fun rest => ?_⟩
    simp only [denL, lendL, List.append_assoc, q1, Option.bind_some, q2]
    rfl
  | [], _ :: _, _, hr, _, _ => by simp [lendHD] at hr
  | _ :: _, [], _, hr, _, _ => by simp [lendHD] at hr

theorem impC1_keys {i : Nat} {ids ns : List Nat} {q : RT X.ι} {x : RT.T X q} : ∀ p ∈ (impC1 i ids ns q x).2, p.1 = nid i := by
  cases q <;> simp [impC1]
theorem impLD_keys {i : Nat} {ids ns : List Nat} : ∀ {l : List (RT X.ι)} {x : ResT X l} {p : List (DV X) × List (Nat × Option (DObj X))}, impLD i ids ns l x = some p → ∀ q ∈ p.2, q.1 = nid i
  | [], _, p, h => by simp only [impLD, Option.some.injEq] at h; subst h; simp
  | [q], x, p, h => by simp only [impLD, Option.some.injEq] at h; subst h; exact impC1_keys
  | q :: q' :: l, x, p, h => by
    simp only [impLD] at h
    rw [Option.bind_eq_some_iff] at h; obtain ⟨p', h1, h⟩ := h
    split at h
    · injection h with h
      subst h
      intro z hz
      rcases List.mem_append.1 hz with hz | hz
      · exact impC1_keys z hz
      · exact impLD_keys h1 z hz
    · cases h
theorem impD_keys {i : Nat} {ids : List Nat} {l : List (RT X.ι)} {x : ResT X l} {p : DV X × List (Nat × Option (DObj X))} (h : impD i ids l x = some p) : ∀ q ∈ p.2, q.1 = nid i := by
  unfold impD at h
  rw [Option.bind_eq_some_iff] at h; obtain ⟨p', h1, h⟩ := h
  injection h with h; subst h; exact impLD_keys h1

theorem lendW1_of {P : Program} {get : Nat → Option AObj} {ids : List Nat} {x : AV} {hs : List LH} {p : AV × List LH × List Prop} (h : lend P get x hs = some p) (hr : ∀ k ∈ refs x, k ∉ ids) : lendW1 P get ids x hs = some p := by
  unfold lendW1
  split
  · simp [lend] at h
  · simp [lend] at h
  · rw [if_pos]
    · exact h
    · simp only [List.all_eq_true, Bool.not_eq_true', List.contains_eq_mem, decide_eq_false_iff_not]
      exact hr

theorem lend_single {P : Program} {get : Nat → Option AObj} {x : AV} {hs rest : List LH} {y : AV} {o : List Prop} (h : lendL P get [x] hs = some ([y], rest, o)) : lend P get x hs = some (y, rest, o) := by
  simp only [lendL, Option.bind_some, List.append_nil, Option.bind_eq_some_iff, Option.some.injEq, Prod.mk.injEq, List.cons.injEq, and_true] at h
  obtain ⟨q, h1, h2, h3, h4⟩ := h
  rw [h1, ← h2, ← h3, ← h4]

theorem nonRefs_mem {d : DV X} {ds : List (DV X)} {a : AT X.ι} {l : List (AT X.ι)} {P : Nat → Prop} (h : ∀ j ∈ nonRefs (d :: ds) (a :: l), P j) : (a.im = false → ∀ j ∈ drefs d, P j) ∧ ∀ j ∈ nonRefs ds l, P j := by
  simp only [nonRefs, List.mem_append] at h
  exact ⟨fun e j hj => h j (.inl (by rw [e]; simpa using hj)), fun j hj => h j (.inr hj)⟩

theorem mutRow {c : CT X.ι} {l : List (CT.T X.toSE c)} : wkRows ((avRows (l.map (CT.row X.toSE c))).take (l.map (CT.row X.toSE c)).length) = avRows (l.map (CT.row X.toSE c)) := by
  rw [List.take_of_length_le (by simp [avRows])]
  simp only [wkRows, avRows, List.map_map]
  exact List.map_congr_left fun y _ => by
    simp only [Function.comp, List.map_map]
    exact List.map_congr_left fun z _ => rfl

theorem lendMut_sound {get : Nat → Option (DObj X)} {d : DV X} {c : CT X.ι} {x : List (CT.T X.toSE c) × Nat × List Bool} (h : lendMut get d c = some x) (hc : ∀ b ∈ x.2.2, b = true) :
    d = .own x.2.1 0 (List.length x.1) ∧ ∃ o, get x.2.1 = some o ∧ (denO o).sz = (mutR c x.1).1 ∧ wkRows ((denO o).rows.take (mutR c x.1).2.length) = avRows (mutR c x.1).2 := by
  unfold lendMut at h
  split at h
  · rename_i k len
    rw [Option.bind_eq_some_iff] at h; obtain ⟨o, h1, h⟩ := h
    split at h
    · rename_i b l
      rw [Option.bind_eq_some_iff] at h; obtain ⟨l', h2, h⟩ := h
      injection h with h
      subst h
      obtain ⟨h3, h4⟩ := castL_den h2
      have h5 : len = List.length l' := by simpa [eqL] using hc (eqL len (List.length l')) (by simp)
      refine ⟨by rw [h5], .lst b l, h1, by simp only [denO, mutR]; exact h3, ?_⟩
      simp only [denO, mutR, h4]
      exact mutRow
    · cases h
  · cases h

theorem lendMref_sound {get : Nat → Option (DObj X)} {d : DV X} {c : CT X.ι} {x : CT.T X.toSE c × Nat} (h : lendMref get d c = some x) :
    d = .ptr x.2 0 0 ∧ ∃ o, get x.2 = some o ∧ (denO o).sz = (mutR c [x.1]).1 ∧ wkRows ((denO o).rows.take (mutR c [x.1]).2.length) = avRows (mutR c [x.1]).2 := by
  unfold lendMref at h
  split at h
  · rename_i k
    rw [Option.bind_eq_some_iff] at h; obtain ⟨o, h1, h⟩ := h
    split at h
    · rename_i sz row
      split at h
      · rename_i hsz
        rw [Option.bind_eq_some_iff] at h; obtain ⟨y, h2, h⟩ := h
        injection h with h
        subst h
        refine ⟨rfl, _, h1, by simp only [denO, mutR]; exact hsz, ?_⟩
        simp only [denO, mutR, List.map_cons, List.map_nil, List.length_singleton, List.take_succ_cons, List.take_zero, wkRows, avRows]
        rw [mkRow_den h2]
      · cases h
    · cases h
  · cases h

theorem lendAW_sound {P : Program} {Γ : FuncId → Option (Sig X)} (hΓ : GOk P Γ) {get : Nat → Option (DObj X)} {rd ids : List Nat} : ∀ {n : Nat} {ds : List (DV X)} {l : List (AT X.ι)} {a : ArgsT X l × List Nat × List Bool}, lendAW Γ get ds l = some a → (∀ b ∈ a.2.2, b = true) → (∀ j ∈ drefsL ds, j ∈ rd) → (∀ j ∈ nonRefs ds l, j ∉ ids) → ids.drop n = a.2.1 →
    (∃ hs obs, (∀ p ∈ obs, p) ∧ ∀ rest, lendLW P (restr rd (aget get)) ids (denL ds) (hs ++ rest) = some (argAVn n l a.1, rest, obs)) ∧ ∃ mo, mutObs (restr rd (aget get)) a.2.1 (objA l a.1) = some mo ∧ ∀ p ∈ mo, p
  | n, [], [], a, h, _, _, _, _ => by
    simp only [lendAW, Option.some.injEq] at h
    subst h
    exact ⟨⟨[], [], by simp, fun rest => rfl⟩, [], rfl, by simp⟩
  | n, d :: ds, .mut c :: l, a, h, hc, hrd, hnr, hid => by
    simp only [lendAW] at h
    rw [Option.bind_eq_some_iff] at h; obtain ⟨x, h1, h⟩ := h
    rw [Option.bind_eq_some_iff] at h; obtain ⟨q, h2, h⟩ := h
    injection h with h
    subst h
    obtain ⟨rfl, o, g1, g2, g3⟩ := lendMut_sound h1 (fun b hb => hc b (by simp [hb]))
    have hidn : ids[n]? = some x.2.1 := by rw [← List.head?_drop, hid]; rfl
    have hid' : ids.drop (n + 1) = q.2.1 := by rw [← List.tail_drop, hid]; rfl
    obtain ⟨⟨hs, obs, p1, p2⟩, mo, m1, m2⟩ := lendAW_sound hΓ (n := n + 1) h2 (fun b hb => hc b (by simp [hb])) (fun j hj => hrd j (by simp [drefsL, hj])) (nonRefs_mem hnr).2 hid'
    refine ⟨⟨.mut n :: hs, obs, p1, fun rest => ?_⟩, ((denO o).sz = (mutR c x.1).1 ∧ wkRows ((denO o).rows.take (mutR c x.1).2.length) = avRows (mutR c x.1).2) :: mo, ?_, ?_⟩
    · simp only [denL, den, lendLW, List.cons_append, lendW1, hidn, if_true, Option.bind_some, p2, argAVn, List.nil_append]
    · simp only [objA, mutObs, restr_get (hrd x.2.1 (by simp [drefsL, drefs])) g1, Option.bind_some, m1]
    · intro p hp
      rcases List.mem_cons.1 hp with rfl | hp
      · exact ⟨g2, g3⟩
      · exact m2 p hp
  | n, d :: ds, .mref c :: l, a, h, hc, hrd, hnr, hid => by
    simp only [lendAW] at h
    rw [Option.bind_eq_some_iff] at h; obtain ⟨x, h1, h⟩ := h
    rw [Option.bind_eq_some_iff] at h; obtain ⟨q, h2, h⟩ := h
    injection h with h
    subst h
    obtain ⟨rfl, o, g1, g2, g3⟩ := lendMref_sound h1
    have hidn : ids[n]? = some x.2 := by rw [← List.head?_drop, hid]; rfl
    have hid' : ids.drop (n + 1) = q.2.1 := by rw [← List.tail_drop, hid]; rfl
    obtain ⟨⟨hs, obs, p1, p2⟩, mo, m1, m2⟩ := lendAW_sound hΓ (n := n + 1) h2 (fun b hb => hc b (by simp [hb])) (fun j hj => hrd j (by simp [drefsL, hj])) (nonRefs_mem hnr).2 hid'
    refine ⟨⟨.mut n :: hs, obs, p1, fun rest => ?_⟩, ((denO o).sz = (mutR c [x.1]).1 ∧ wkRows ((denO o).rows.take (mutR c [x.1]).2.length) = avRows (mutR c [x.1]).2) :: mo, ?_, ?_⟩
    · simp only [denL, den, lendLW, List.cons_append, lendW1, hidn, if_true, Option.bind_some, p2, argAVn, List.nil_append]
    · simp only [objA, mutObs, restr_get (hrd x.2 (by simp [drefsL, drefs])) g1, Option.bind_some, m1]
    · intro p hp
      rcases List.mem_cons.1 hp with rfl | hp
      · exact ⟨g2, g3⟩
      · exact m2 p hp
  | n, d :: ds, .d c :: l, a, h, hc, hrd, hnr, hid => by
    simp only [lendAW] at h
    rw [Option.bind_eq_some_iff] at h; obtain ⟨x, h1, h⟩ := h
    rw [Option.bind_eq_some_iff] at h; obtain ⟨q, h2, h⟩ := h
    injection h with h
    subst h
    obtain ⟨hs1, o1, p1, q1⟩ := lendA_sound (P := P) hΓ 3 (n := n) h1 (fun b hb => hc b (by simp [hb])) (rd := rd) (fun j hj => hrd j (by simp only [drefsL, List.append_nil] at hj; simp [drefsL, hj]))
    obtain ⟨⟨hs, obs, p2, q2⟩, mo, m1, m2⟩ := lendAW_sound hΓ (n := n) h2 (fun b hb => hc b (by simp [hb])) (fun j hj => hrd j (by simp [drefsL, hj])) (nonRefs_mem hnr).2 hid
    refine ⟨⟨hs1 ++ hs, o1 ++ obs, all_app p1 p2, fun rest => ?_⟩, mo, m1, m2⟩
    have := lendW1_of (lend_single (q1 (hs ++ rest))) (fun k hk => (nonRefs_mem hnr).1 rfl k (by rwa [drefs_den] at hk))
    simp only [denL, lendLW, List.append_assoc, this, Option.bind_some, q2, argAVn]
  | n, d :: ds, .ref c :: l, a, h, hc, hrd, hnr, hid => by
    simp only [lendAW] at h
    rw [Option.bind_eq_some_iff] at h; obtain ⟨x, h1, h⟩ := h
    rw [Option.bind_eq_some_iff] at h; obtain ⟨q, h2, h⟩ := h
    injection h with h
    subst h
    obtain ⟨hs1, o1, p1, q1⟩ := lendA_sound (P := P) hΓ 3 (n := n) h1 (fun b hb => hc b (by simp [hb])) (rd := rd) (fun j hj => hrd j (by simp only [drefsL, List.append_nil] at hj; simp [drefsL, hj]))
    obtain ⟨⟨hs, obs, p2, q2⟩, mo, m1, m2⟩ := lendAW_sound hΓ (n := n) h2 (fun b hb => hc b (by simp [hb])) (fun j hj => hrd j (by simp [drefsL, hj])) (nonRefs_mem hnr).2 hid
    refine ⟨⟨hs1 ++ hs, o1 ++ obs, all_app p1 p2, fun rest => ?_⟩, mo, m1, m2⟩
    have := lendW1_of (lend_single (q1 (hs ++ rest))) (fun k hk => (nonRefs_mem hnr).1 rfl k (by rwa [drefs_den] at hk))
    simp only [denL, lendLW, List.append_assoc, this, Option.bind_some, q2, argAVn]
  | n, d :: ds, .clo as r :: l, a, h, hc, hrd, hnr, hid => by
    simp only [lendAW] at h
    rw [Option.bind_eq_some_iff] at h; obtain ⟨x, h1, h⟩ := h
    rw [Option.bind_eq_some_iff] at h; obtain ⟨q, h2, h⟩ := h
    injection h with h
    subst h
    obtain ⟨hs1, o1, p1, q1⟩ := lendA_sound (P := P) hΓ 3 (n := n) h1 (fun b hb => hc b (by simp [hb])) (rd := rd) (fun j hj => hrd j (by simp only [drefsL, List.append_nil] at hj; simp [drefsL, hj]))
    obtain ⟨⟨hs, obs, p2, q2⟩, mo, m1, m2⟩ := lendAW_sound hΓ (n := n) h2 (fun b hb => hc b (by simp [hb])) (fun j hj => hrd j (by simp [drefsL, hj])) (nonRefs_mem hnr).2 hid
    refine ⟨⟨hs1 ++ hs, o1 ++ obs, all_app p1 p2, fun rest => ?_⟩, mo, m1, m2⟩
    have := lendW1_of (lend_single (q1 (hs ++ rest))) (fun k hk => (nonRefs_mem hnr).1 rfl k (by rwa [drefs_den] at hk))
    simp only [denL, lendLW, List.append_assoc, this, Option.bind_some, q2, argAVn]
  | n, d :: ds, .nil :: l, a, h, hc, hrd, hnr, hid => by
    simp only [lendAW] at h
    split at h
    · rw [Option.bind_eq_some_iff] at h; obtain ⟨q, h2, h⟩ := h
      injection h with h
      subst h
      obtain ⟨⟨hs, obs, p2, q2⟩, mo, m1, m2⟩ := lendAW_sound hΓ (n := n) h2 hc (fun j hj => hrd j (by simp [drefsL, hj])) (nonRefs_mem hnr).2 hid
      refine ⟨⟨.nil :: hs, obs, p2, fun rest => ?_⟩, mo, m1, m2⟩
      have := lendW1_of (P := P) (get := restr rd (aget get)) (ids := ids) (x := .nilsl) (hs := .nil :: (hs ++ rest)) (p := (.nilsl, hs ++ rest, [])) rfl (fun k hk => by simp [refs] at hk)
      simp only [denL, den, lendLW, List.cons_append, this, Option.bind_some, q2, argAVn, List.nil_append]
    · cases h
  | _, [], _ :: _, _, h, _, _, _, _ => by simp [lendAW] at h
  | _, _ :: _, [], _, h, _, _, _, _ => by simp [lendAW] at h

theorem callD_sound {P : Program} (hΓ : GOk P Γ) {i : Nat} {f : DV X} {args : List (DV X)} {get : Nat → Option (DObj X)} {k : KK X A} {r : A} (h : callD Γ i f args get k = some r) :
    ∃ orc rd wr dv upd out, absCallX P i (den f) (denL args) orc (restr rd (aget get)) = some out ∧ AllP out.obs ∧ out.v = den dv ∧ out.upd = denU upd ∧ (∀ p ∈ upd, p.1 = nid i ∨ p.1 ∈ wr) ∧ k dv upd rd wr = some r := by
  unfold callD at h
  split at h
  · rename_i F first caps
    rw [Option.bind_eq_some_iff] at h; obtain ⟨s, h1, h⟩ := h
    split at h
    · rename_i hpure
      rw [Option.bind_eq_some_iff] at h; obtain ⟨⟨a, cs⟩, h2, h⟩ := h
      obtain ⟨hcs, h⟩ := chkA_some h
      rw [Option.bind_eq_some_iff] at h; obtain ⟨x, h3, h⟩ := h
      rw [Option.bind_eq_some_iff] at h; obtain ⟨p, h4, h⟩ := h
      have hf0 := (hΓ F s h1).2 a x h3
      simp only [Bool.and_eq_true] at hpure
      rw [objA_nil (pl_im hpure.1), objR_nil hpure.2] at hf0
      have hf := fnP_of_W hf0
      have hi := impD_den h4
      have hk := impD_keys h4
      obtain ⟨hs, obs, g1, g2⟩ := lendA_sound (P := P) hΓ 3 h2 hcs (rd := drefsL (first ++ args ++ caps)) (fun j hj => hj)
      have g3 := g2 []
      rw [List.append_nil, denL_append, denL_append] at g3
      have hrefs : refsL (denL first ++ denL args ++ denL caps) = drefsL (first ++ args ++ caps) := by
        rw [← denL_append, ← denL_append, drefsL_den]
      split at h
      · rename_i hfl
        refine ⟨.call hs (resRV s.res x) true, _, [], p.1, p.2, ⟨den p.1, denU p.2, obs ++ [FnP P F (argAV s.args a) (resRV s.res x), (resRV s.res x).flat]⟩, ?_, ?_, rfl, rfl, fun q hq => .inl (hk q hq), h⟩
        · simp only [den, absCallX, absCall, hi, Option.bind_some, g3]; rfl
        · exact AllP_of _ (all_app g1 (by
            intro q hq
            simp only [List.mem_cons, List.not_mem_nil, or_false] at hq
            rcases hq with rfl | rfl
            · exact hf
            · exact resRV_flat x hfl))
      · refine ⟨.call hs (resRV s.res x) false, _, _, p.1, _, ⟨den p.1, denU p.2 ++ (drefsL (first ++ args ++ caps)).map (fun k => (k, none)), obs ++ [FnP P F (argAV s.args a) (resRV s.res x)]⟩, ?_, ?_, rfl, ?_, ?_, h⟩
        · simp only [den, absCallX, absCall, hi, Option.bind_some, g3, hrefs]; rfl
        · exact AllP_of _ (all_app g1 (by
            intro q hq
            simp only [List.mem_singleton] at hq
            subst hq
            exact hf))
        · simp only [denU_append, goneD_den]
        · intro q hq
          rcases List.mem_append.1 hq with hq | hq
          · exact .inl (hk q hq)
          · exact .inr (goneD_mem hq)
    · rename_i hpure
      rw [Option.bind_eq_some_iff] at h; obtain ⟨⟨a, ids, cs⟩, h2, h⟩ := h
      obtain ⟨hcs, h⟩ := chkA_some h
      rw [Option.bind_eq_some_iff] at h; obtain ⟨x, h3, h⟩ := h
      rw [Option.bind_eq_some_iff] at h; obtain ⟨p, h4, h⟩ := h
      split at h
      · rename_i hc
        simp only [Bool.and_eq_true, decide_eq_true_eq] at hc
        obtain ⟨⟨hnd, hnr⟩, hlen⟩ := hc
        have hf := (hΓ F s h1).2 a x h3
        have hi := impD_den h4
        have hk := impD_keys h4
        obtain ⟨⟨hs, obs, g1, g2⟩, mo, m1, m2⟩ := lendAW_sound (P := P) hΓ (rd := drefsL (first ++ args ++ caps)) (ids := ids) (n := 0) h2 hcs (fun j hj => hj) (fun j hj => by simpa using List.all_eq_true.1 hnr j hj) rfl
        have g3 := g2 []
        rw [List.append_nil, denL_append, denL_append] at g3
        have hrefs : refsL (denL first ++ denL args ++ denL caps) = drefsL (first ++ args ++ caps) := by
          rw [← denL_append, ← denL_append, drefsL_den]
        have hlen' : (objR s.res x).length = ids.length := by
          rw [← hlen]
          simpa using (congrArg List.length (outDs_den s.res x)).symm
        have hout : denU (outUD ids (outDs s.res x)) = outU ids (objR s.res x) := outUD_den _ _ _ (outDs_den s.res x)
        split at h
        · rename_i hfl
          refine ⟨.callw ids (objA s.args a) (objR s.res x) hs (resRV s.res x) true, _, ids, p.1, _, ⟨den p.1, denU p.2 ++ outU ids (objR s.res x), obs ++ mo ++ [FnW P F (argAV s.args a) (objA s.args a) (objR s.res x) (resRV s.res x), (resRV s.res x).flat, flatO (objR s.res x)]⟩, ?_, ?_, rfl, ?_, ?_, h⟩
          · simp only [den, absCallX, absCallW, hi, Option.bind_some, m1, g3]
            rw [if_pos ⟨hnd, hlen'⟩]
            rfl
          · refine AllP_of _ (all_app (all_app g1 m2) ?_)
            intro q hq
            simp only [List.mem_cons, List.not_mem_nil, or_false] at hq
            rcases hq with rfl | rfl | rfl
            · exact hf
            · exact resRV_flat x hfl
            · exact objR_flat hfl
          · simp only [denU_append, hout]
          · intro q hq
            rcases List.mem_append.1 hq with hq | hq
            · exact .inl (hk q hq)
            · exact .inr (outUD_keys hq)
        · refine ⟨.callw ids (objA s.args a) (objR s.res x) hs (resRV s.res x) false, _, _, p.1, _, ⟨den p.1, denU p.2 ++ (outU ids (objR s.res x) ++ ((drefsL (first ++ args ++ caps)).filter fun j => !ids.contains j).map (fun k => (k, none))), obs ++ mo ++ [FnW P F (argAV s.args a) (objA s.args a) (objR s.res x) (resRV s.res x)]⟩, ?_, ?_, rfl, ?_, ?_, h⟩
          · simp only [den, absCallX, absCallW, hi, Option.bind_some, m1, g3, lidsOf, hrefs]
            rw [if_pos ⟨hnd, hlen'⟩]
            rfl
          · refine AllP_of _ (all_app (all_app g1 m2) ?_)
            intro q hq
            simp only [List.mem_singleton] at hq
            subst hq
            exact hf
          · simp only [denU_append, hout, goneD_den]
          · intro q hq
            rcases List.mem_append.1 hq with hq | hq
            · exact .inl (hk q hq)
            · rcases List.mem_append.1 hq with hq | hq
              · exact .inr (List.mem_append_left _ (outUD_keys hq))
              · exact .inr (List.mem_append_right _ (goneD_mem hq))
      · cases h
  · rename_i as q φ
    rw [Option.bind_eq_some_iff] at h; obtain ⟨⟨hh, cs⟩, h1, h⟩ := h
    obtain ⟨hcs, h⟩ := chkA_some h
    rw [Option.bind_eq_some_iff] at h; obtain ⟨y, h2, h⟩ := h
    obtain ⟨hs, obs, g1, g2⟩ := lendHD_sound (P := P) h1 hcs (rd := drefsL args) (fun j hj => hj)
    have g3 := g2 []
    rw [List.append_nil] at g3
    have hφ : ∃ h' x', φ h' = some x' ∧ HL.tvs X.toSE as hh = HL.tvs X.toSE as h' ∧ CT.tv X.toSE q y = CT.tv X.toSE q x' := ⟨hh, y, h2, rfl, rfl⟩
    split at h
    · rename_i hfl
      refine ⟨.cclo hs (HL.tvs X.toSE as hh) (CT.tv X.toSE q y) true, _, [], .c q y, [], ⟨(CT.tv X.toSE q y).av, [], obs ++ [(HL.tvs X.toSE as hh).map TV.av = (HL.tvs X.toSE as hh).map TV.av, (∃ h' x', φ h' = some x' ∧ HL.tvs X.toSE as hh = HL.tvs X.toSE as h' ∧ CT.tv X.toSE q y = CT.tv X.toSE q x'), (CT.tv X.toSE q y).flat]⟩, ?_, ?_, rfl, rfl, by simp, h⟩
      · simp only [den, absCallX, absCall, g3, Option.bind_some]; rfl
      · exact AllP_of _ (all_app g1 (by
          intro z hz
          simp only [List.mem_cons, List.not_mem_nil, or_false] at hz
          rcases hz with rfl | rfl | rfl
          · trivial
          · exact hφ
          · exact scalC_tv hfl y))
    · refine ⟨.cclo hs (HL.tvs X.toSE as hh) (CT.tv X.toSE q y) false, _, _, .c q y, _, ⟨(CT.tv X.toSE q y).av, (drefsL args).map (fun k => (k, none)), obs ++ [(HL.tvs X.toSE as hh).map TV.av = (HL.tvs X.toSE as hh).map TV.av, (∃ h' x', φ h' = some x' ∧ HL.tvs X.toSE as hh = HL.tvs X.toSE as h' ∧ CT.tv X.toSE q y = CT.tv X.toSE q x')]⟩, ?_, ?_, rfl, (goneD_den _).symm, fun z hz => .inr (goneD_mem hz), h⟩
      · simp only [den, absCallX, absCall, g3, Option.bind_some, drefsL_den]; rfl
      · exact AllP_of _ (all_app g1 (by
          intro z hz
          simp only [List.mem_cons, List.not_mem_nil, or_false] at hz
          rcases hz with rfl | rfl
          · trivial
          · exact hφ))
  · cases h

/-- What any operation has come to. -/
theorem anyD_sound {P : Program} (hΓ : GOk P Γ) {fz : List Nat} {T : Tab} {code : TypeId → Option (CT X.ι)} {i : Nat} {o : Oper} {ρ : Operand → DV X} {get : Nat → Option (DObj X)} {k : KK X A} {r : A} (h : anyD Γ fz T code i o.op ρ get k = some r) : SdAny P T i o ρ get k r := by
  obtain ⟨dst, op, ty, pos, after, guard⟩ := o
  unfold anyD at h
  simp only at h
  split at h
  · rename_i f args tys
    have := callD_sound hΓ h
    simp only [← map_den] at this
    obtain ⟨orc, rd, wr, dv, upd, out, g1, g2⟩ := this
    exact .call g1 g2
  · split at h
    · exact extD_sound (o := ⟨dst, op, ty, pos, after, guard⟩) h
    · split at h
      · exact frzD_sound (o := ⟨dst, op, ty, pos, after, guard⟩) h
      · split at h
        · exact arrD_sound (o := ⟨dst, op, ty, pos, after, guard⟩) h
        · rename_i hne _ _ _
          obtain ⟨orc, rd, wr, dv, upd, out, g1, g2⟩ := opD_sound (o := ⟨dst, op, ty, pos, after, guard⟩) h
          exact SdAny.op (fun f args tys e => hne f args tys e) g1 g2
end
end Go.Gb
