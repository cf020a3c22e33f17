/-
  A function's contract out of the typed walk of its body.
-/
import Derived.Test.YtgmmcfpjmkhmhaaXN
namespace Go.Gb
open Go.RowKit

section
variable {X : SX}

def argDVn : Nat → (l : List (AT X.ι)) → ArgsT X l → List (DV X)
  | _, [], _ => []
  | n, .d c :: l, a => .c c a.1 :: argDVn n l a.2
  | n, .ref c :: l, a => .rp c a.1 0 :: argDVn n l a.2
  | n, .clo as r :: l, a => .clo as r a.1 :: argDVn n l a.2
  | n, .mut _ :: l, a => .own n 0 (List.length a.1) :: argDVn (n + 1) l a.2
  | n, .mref _ :: l, a => .ptr n 0 0 :: argDVn (n + 1) l a.2
  | n, .nil :: l, a => .nil :: argDVn n l a.2

def objD : (l : List (AT X.ι)) → ArgsT X l → List (DObj X)
  | [], _ => []
  | .mut c :: l, a => .lst c a.1 :: objD l a.2
  | .mref c :: l, a => .cells (CT.sz X c) [cellsC c a.1] :: objD l a.2
  | .d _ :: l, a => objD l a.2
  | .ref _ :: l, a => objD l a.2
  | .clo _ _ :: l, a => objD l a.2
  | .nil :: l, a => objD l a.2

theorem argDV_den : ∀ (n : Nat) (l : List (AT X.ι)) (a : ArgsT X l), denL (argDVn n l a) = argAVn n l a
  | _, [], _ => rfl
  | n, .d c :: l, a => by simp only [argDVn, denL, den, argAVn, argDV_den n l a.2]
  | n, .ref c :: l, a => by simp only [argDVn, denL, den, argAVn, argDV_den n l a.2]
  | n, .clo as r :: l, a => by simp only [argDVn, denL, argAVn, argDV_den n l a.2]
  | n, .mut c :: l, a => by simp only [argDVn, denL, den, argAVn, argDV_den (n + 1) l a.2]
  | n, .mref c :: l, a => by simp only [argDVn, denL, den, argAVn, argDV_den (n + 1) l a.2]
  | n, .nil :: l, a => by simp only [argDVn, denL, den, argAVn, argDV_den n l a.2]

theorem objD_den : ∀ (l : List (AT X.ι)) (a : ArgsT X l), (objD l a).map denO = (objA l a).map aob
  | [], _ => rfl
  | .d _ :: l, a => objD_den l a.2
  | .ref _ :: l, a => objD_den l a.2
  | .clo _ _ :: l, a => objD_den l a.2
  | .nil :: l, a => objD_den l a.2
  | .mut c :: l, a => by simp only [objD, objA, List.map_cons, objD_den l a.2]; rfl
  | .mref c :: l, a => by simp only [objD, objA, List.map_cons, objD_den l a.2, denO, aob, mutR, avRows, List.map_nil, cellsC_den]

theorem argDV_refs : ∀ (n : Nat) (l : List (AT X.ι)) (a : ArgsT X l), ∀ k ∈ drefsL (argDVn n l a), k < n + muts l
  | _, [], _, k, hk => by simp [argDVn, drefsL] at hk
  | n, .d c :: l, a, k, hk => by
    have := argDV_refs n l a.2 k (by simpa [argDVn, drefsL, drefs] using hk)
    simpa [muts, AT.im] using this
  | n, .ref c :: l, a, k, hk => by
    have := argDV_refs n l a.2 k (by simpa [argDVn, drefsL, drefs] using hk)
    simpa [muts, AT.im] using this
  | n, .clo as r :: l, a, k, hk => by
    have := argDV_refs n l a.2 k (by simpa [argDVn, drefsL, drefs] using hk)
    simpa [muts, AT.im] using this
  | n, .nil :: l, a, k, hk => by
    have := argDV_refs n l a.2 k (by simpa [argDVn, drefsL, drefs] using hk)
    simpa [muts, AT.im] using this
  | n, .mut c :: l, a, k, hk => by
    simp only [argDVn, drefsL, drefs, List.singleton_append, List.mem_cons] at hk
    simp only [muts, AT.im, if_true]
    rcases hk with rfl | hk
    · omega
    · have := argDV_refs (n + 1) l a.2 k hk; omega
  | n, .mref c :: l, a, k, hk => by
    simp only [argDVn, drefsL, drefs, List.singleton_append, List.mem_cons] at hk
    simp only [muts, AT.im, if_true]
    rcases hk with rfl | hk
    · omega
    · have := argDV_refs (n + 1) l a.2 k hk; omega

theorem argAV_length : ∀ (n : Nat) (l : List (AT X.ι)) (a : ArgsT X l), (argAVn n l a).length = l.length
  | _, [], _ => rfl
  | n, .d c :: l, a => by simp only [argAVn, List.length_cons, argAV_length n l a.2]
  | n, .ref c :: l, a => by simp only [argAVn, List.length_cons, argAV_length n l a.2]
  | n, .clo as r :: l, a => by simp only [argAVn, List.length_cons, argAV_length n l a.2]
  | n, .mut c :: l, a => by simp only [argAVn, List.length_cons, argAV_length (n + 1) l a.2]
  | n, .mref c :: l, a => by simp only [argAVn, List.length_cons, argAV_length (n + 1) l a.2]
  | n, .nil :: l, a => by simp only [argAVn, List.length_cons, argAV_length n l a.2]

theorem objA_length : ∀ (l : List (AT X.ι)) (a : ArgsT X l), (objA l a).length = muts l
  | [], _ => rfl
  | .d _ :: l, a => by simpa [muts, AT.im, objA] using objA_length l a.2
  | .ref _ :: l, a => by simpa [muts, AT.im, objA] using objA_length l a.2
  | .clo _ _ :: l, a => by simpa [muts, AT.im, objA] using objA_length l a.2
  | .nil :: l, a => by simpa [muts, AT.im, objA] using objA_length l a.2
  | .mut _ :: l, a => by simp only [objA, List.length_cons, objA_length l a.2, muts, AT.im, if_true]; omega
  | .mref _ :: l, a => by simp only [objA, List.length_cons, objA_length l a.2, muts, AT.im, if_true]; omega

/-- The state at a function's beginning. -/
def ini (l : List (AT X.ι)) (a : ArgsT X l) : DSt X := ⟨(List.range l.length).zip (argDVn 0 l a), (List.range (objD l a).length).zip ((objD l a).map some), 1000, []⟩

theorem ini_obj (l : List (AT X.ι)) (a : ArgsT X l) (k : Nat) : lko (ini l a).obj k = (objD l a)[k]? := by
  have h : (List.range (objD l a).length).zip ((objD l a).map some) = (List.range ((objD l a).map some).length).zip ((objD l a).map some) := by rw [List.length_map]
  simp only [ini, lko]
  rw [h, lk_zip, List.getElem?_map]
  cases (objD l a)[k]? <;> rfl

theorem ini_st (l : List (AT X.ι)) (a : ArgsT X l) : (ini l a).st = LSt.st ⟨(List.range (argAV l a).length).zip (argAV l a), (List.range ((objA l a).map aob).length).zip ((objA l a).map aob)⟩ := by
  have ho : ∀ k, ((lko (ini l a).obj k).map denO) = lk ((List.range ((objA l a).map aob).length).zip ((objA l a).map aob)) k := by
    intro k
    rw [lk_zip, ini_obj, ← objD_den, List.getElem?_map]
  simp only [DSt.st, LSt.st, St.mk.injEq, and_true]
  refine ⟨?_, funext ho⟩
  funext t
  simp only [ini]
  rw [argAV_length, argAV, ← argDV_den]
  generalize argDVn 0 l a = ds
  have : ∀ (ks : List Nat) (ds : List (DV X)), den (lke (ks.zip ds) t) = (lk (ks.zip (denL ds)) t).getD .undef := by
    intro ks
    induction ks with
    | nil => intro ds; rfl
    | cons k ks ih =>
      intro ds
      cases ds with
      | nil => rfl
      | cons d ds =>
        simp only [List.zip_cons_cons, lke, lk, denL]
        by_cases h : k = t
        · simp [h]
        · simp only [if_neg h]; exact ih ds
  exact this _ _

theorem ini_low (l : List (AT X.ι)) (a : ArgsT X l) (hm : muts l ≤ 1000) : Low (ini l a) := by
  refine ⟨by show 1000 ≤ 1000000; decide, Nat.le_refl _, fun t k hk => ?_, fun k o ho => ?_⟩
  · have h0 := argDV_refs 0 l a
    simp only [ini] at hk
    generalize argDVn 0 l a = ds at hk h0
    have : ∀ (ks : List Nat) (ds : List (DV X)), (∀ k ∈ drefsL ds, k < 0 + muts l) → ∀ k ∈ drefs (lke (ks.zip ds) t), k < 1000 := by
      intro ks
      induction ks with
      | nil => intro ds _ k hk; simp [lke, lk, drefs] at hk
      | cons k ks ih =>
        intro ds h j hj
        cases ds with
        | nil => simp [lke, lk, drefs] at hj
        | cons d ds =>
          simp only [List.zip_cons_cons, lke, lk] at hj
          by_cases e : k = t
          · simp only [if_pos e, Option.getD_some] at hj
            have := h j (by simp [drefsL, hj]); omega
          · simp only [if_neg e] at hj
            exact ih ds (fun k hk => h k (by simp [drefsL, hk])) j hj
    exact this _ _ h0 k hk
  · rw [ini_obj] at ho
    have hl : (objD l a).length = muts l := by rw [← objA_length l a]; simpa using congrArg List.length (objD_den l a)
    refine ⟨by have := (List.getElem?_eq_some_iff.1 ho).1; show k < 1000; omega, fun j hj => ?_⟩
    have hz : ∀ (l : List (AT X.ι)) (a : ArgsT X l), ∀ o ∈ objD l a, orefs o = [] := by
      intro l
      induction l with
      | nil => intro a o ho; simp [objD] at ho
      | cons q l ih =>
        intro a o ho
        cases q <;> simp only [objD, List.mem_cons] at ho
        case «mut» c => rcases ho with rfl | ho; rfl; exact ih _ o ho
        case mref c =>
          rcases ho with rfl | ho
          · have h1 : drefsL (cellsC c a.1) = [] := by
              rw [← drefsL_den, cellsC_den]
              generalize CT.row X.toSE c a.1 = r
              induction r with
              | nil => rfl
              | cons y ys ih => simp only [List.map_cons, refsL, refs, ih, List.nil_append]
            simp [orefs, h1]
          · exact ih _ o ho
        all_goals exact ih _ o ho
    rw [hz l a o (List.mem_of_getElem? ho)] at hj
    cases hj

variable (T : Tab)

def resV (s : DSt X) : ResultVar → Option (DV X)
  | .tmp t => some (lke s.env t)
  | .cell a t => (T t).bind fun ti => match lke s.env a with
    | .ptr kk row off => (lko s.obj kk).bind fun o => match o with
      | .cells _ rows => (rows[row]?).bind fun r => partD ti.agg ti.size ((r.drop off).take ti.size)
      | _ => none
    | _ => none

def resVs (s : DSt X) : List ResultVar → Option (List (DV X))
  | [] => some []
  | r :: rs => (resV T s r).bind fun v => (resVs s rs).bind fun vs => some (v :: vs)

theorem resV_den {s : DSt X} {r : ResultVar} {d : DV X} (h : resV T s r = some d) : resVal T s.st r = some (den d) := by
  cases r with
  | tmp t => simp only [resV, Option.some.injEq] at h; subst h; rfl
  | cell a t =>
    simp only [resV] at h
    rw [Option.bind_eq_some_iff] at h; obtain ⟨ti, h1, h⟩ := h
    split at h
    · rename_i kk row off hp
      rw [Option.bind_eq_some_iff] at h; obtain ⟨o, h2, h⟩ := h
      split at h
      · rename_i sz rows
        rw [Option.bind_eq_some_iff] at h; obtain ⟨q, h3, h⟩ := h
        have h4 := partD_den h
        rw [denL_drop_take] at h4
        show (match aLoad T t (den (lke s.env a)) .none (fun k => (lko s.obj k).map denO) with
          | some ⟨v, [], []⟩ => some v
          | _ => none) = some (den d)
        simp only [aLoad, h1, Option.bind_some, hp, den, h2, Option.map_some, denO, List.getElem?_map, h3, h4, pv]
      · cases h
    · cases h

theorem resVs_den {s : DSt X} : ∀ {rs : List ResultVar} {ds : List (DV X)}, resVs T s rs = some ds → resVals T s.st rs = some (denL ds)
  | [], ds, h => by simp only [resVs, Option.some.injEq] at h; subst h; rfl
  | r :: rs, ds, h => by
    simp only [resVs] at h
    rw [Option.bind_eq_some_iff] at h; obtain ⟨d, h1, h⟩ := h
    rw [Option.bind_eq_some_iff] at h; obtain ⟨ds', h2, h⟩ := h
    injection h with h
    subst h
    simp only [resVals, resV_den T h1, resVs_den h2, Option.bind_some, denL]

/-- The object that goes out as memory that nobody else holds. -/
def fkOf : List (RT X.ι) → List (DV X) → Option Nat
  | .mu _ :: l, ds => fkOf l ds
  | .mr _ :: l, ds => fkOf l ds
  | .mv :: l, ds => fkOf l ds
  | .fresh _ :: l, d :: ds => match d with
    | .own k _ _ => some k
    | _ => fkOf l ds
  | .d _ :: l, _ :: ds => fkOf l ds
  | .whole _ :: l, _ :: ds => fkOf l ds
  | _, _ => none

/-- How long the whole objects are that are handed back. -/
def whl : List (RT X.ι) → List (DV X) → List (Nat × Nat)
  | .mu _ :: l, ds => whl l ds
  | .mr _ :: l, ds => whl l ds
  | .mv :: l, ds => whl l ds
  | .whole j :: l, d :: ds => match d with
    | .own _ _ len => (j, len) :: whl l ds
    | _ => whl l ds
  | .d _ :: l, _ :: ds => whl l ds
  | .fresh _ :: l, _ :: ds => whl l ds
  | _, _ => []

/-- The numbers of the objects that are handed back; of the slices among them. -/
def keptN : Nat → List (RT X.ι) → List Nat
  | _, [] => []
  | n, .mu _ :: l => n :: keptN (n + 1) l
  | n, .mr _ :: l => n :: keptN (n + 1) l
  | n, .mv :: l => keptN (n + 1) l
  | n, _ :: l => keptN n l
def muN : Nat → List (RT X.ι) → List Nat
  | _, [] => []
  | n, .mu _ :: l => n :: muN (n + 1) l
  | n, .mr _ :: l => muN (n + 1) l
  | n, .mv :: l => muN (n + 1) l
  | n, _ :: l => muN n l

def noBad (bad : List Nat) (ks : List Nat) : Bool := ks.all fun k => !bad.contains k

def lendRow (get : Nat → Option (DObj X)) (row : List (DV X)) (c : CT X.ι) : Option (CT.T X.toSE c × List Bool) :=
  match c with
  | .st i => (lendHL get row (X.tys i)).bind fun h => some (X.make i h.1, h.2)
  | c => match row with
    | [d] => lend1 get d c
    | _ => none

def lendRows (get : Nat → Option (DObj X)) (c : CT X.ι) : List (List (DV X)) → Option (List (CT.T X.toSE c) × List Bool)
  | [] => some ([], [])
  | r :: rs => (lendRow get r c).bind fun x => (lendRows get c rs).bind fun y => some (x.1 :: y.1, x.2 ++ y.2)

/-- One result; the values that are left. -/
def expE (get : Nat → Option (DObj X)) (bad mus : List Nat) (fk : Option Nat) (wl : List (Nat × Nat)) (n : Nat) : (q : RT X.ι) → List (DV X) → Option ((RT.T X q × List Bool) × List (DV X))
  | .d c, d :: ds => if noBad bad (drefs d) then (lendD get d c).bind fun x => some (x, ds) else none
  | .fresh e, d :: ds => match d with
    | .nil => some (([], []), ds)
    | .own k 0 len => if fk = some k then (get k).bind fun o => match o with
      | .lst b l => (castC (.sl b) (.sl e) l).bind fun (l : List (CT.T X.toSE e)) => some ((sub l 0 len, [eqL (sub l 0 len).length len]), ds)
      | .cells sz rows => if sz = CT.sz X e ∧ noBad bad (rows.map drefsL).flatten = true then (lendRows get e rows).bind fun x => some ((x.1, eqL len (List.length x.1) :: x.2), ds) else none
      else none
    | _ => none
  | .whole j, d :: ds => match d with
    | .own k 0 len => if k = j ∧ mus.contains j = true then (lk wl j).bind fun len0 => some (((), [eqL len len0]), ds) else none
    | _ => none
  | .mu c, ds => (get n).bind fun o => match o with
    | .lst b l => (castC (.sl b) (.sl c) l).bind fun (l : List (CT.T X.toSE c)) => match lk wl n with
      | some len => some ((sub l 0 len, [eqL (sub l 0 len).length len]), ds)
      | none => some ((l, []), ds)
    | _ => none
  | .mr c, ds => (get n).bind fun o => match o with
    | .cells sz [row] => if sz = CT.sz X c ∧ noBad bad (drefsL row) = true then (lendRow get row c).bind fun x => some (x, ds) else none
    | _ => none
  | .mv, ds => some (((), []), ds)
  | _, [] => none

def expDs (get : Nat → Option (DObj X)) (bad mus : List Nat) (fk : Option Nat) (wl : List (Nat × Nat)) : Nat → (l : List (RT X.ι)) → (ds : List (DV X)) → Option (ResT X l × List Bool)
  | _, [], ds => match ds with
    | [] => some ((), [])
    | _ => none
  | n, [q], ds => (expE get bad mus fk wl n q ds).bind fun p => match p.2 with
    | [] => some p.1
    | _ => none
  | n, q :: q' :: l, ds => (expE get bad mus fk wl n q ds).bind fun p => (expDs get bad mus fk wl (if q.out then n + 1 else n) (q' :: l) p.2).bind fun y => some ((p.1.1, y.1), p.1.2 ++ y.2)

def expAll (s : DSt X) (l : List (RT X.ι)) (ds : List (DV X)) : Option (ResT X l × List Bool) :=
  if noBad (keptN 0 l) (fkOf l ds).toList then expDs (lko s.obj) (keptN 0 l ++ (fkOf l ds).toList) (muN 0 l) (fkOf l ds) (whl l ds) 0 l ds else none

/-- What a function hands back. -/
def kRet (rs : List ResultVar) (l : List (RT X.ι)) : Exit → DSt X → Option (ResT X l)
  | .normal, s => (resVs T s rs).bind fun ds => (expAll s l ds).bind fun x => chkA x.2 (some x.1)
  | .ret, s => (resVs T s rs).bind fun ds => (expAll s l ds).bind fun x => chkA x.2 (some x.1)
  | _, _ => none

def exit (A : Type) (k : DSt X → Option A) : Exit → DSt X → Option A
  | .normal, s => k s
  | .ret, s => k s
  | _, _ => none

variable {T}

section
variable {get : Nat → Option (DObj X)} {fk : Option Nat} {os' : List (Option RowsT)} {bad : List Nat}

theorem noBad_spec {ks : List Nat} (h : noBad bad ks = true) : ∀ j ∈ ks, j ∉ bad := fun j hj => by simpa using List.all_eq_true.1 h j hj

theorem lend1_exp (hbad : ∀ j, j ∉ bad → fk ≠ some j ∧ ¬ kept os' j) {d : DV X} {c : CT X.ι} {x : CT.T X.toSE c × List Bool} (hc : c.one = true) (h : lend1 get d c = some x) (hb : ∀ b ∈ x.2, b = true) (hfk : ∀ j ∈ drefs d, j ∉ bad) : ∃ t, CT.tv X.toSE c x.1 = .s t ∧ ExpT (aget get) fk os' (den d) t := by
  obtain ⟨t, h1, h2⟩ := row_one hc x.1
  refine ⟨t, h2, ?_⟩
  have hbase : ∀ y, dat1 d c = some y → y = x.1 → ExpT (aget get) fk os' (den d) t := by
    intro y hy he
    subst he
    have h3 := dat1_den hy
    rw [h2] at h3
    have h4 := dat1_ok hc hy
    unfold dat1 at hy
    split at hy
    · rw [(castC_den hy).1]
      simp only [den, h2, TV.av, ExpT]
    · simp only [den, Gb.wk, TV.av, AV.t.injEq] at h3
      simp only [den, ExpT]
      exact h3.symm
    · simp only [den, Gb.wk, TV.av, AV.t.injEq] at h3
      simp only [den, ExpT]
      exact h3.symm
    · cases hy
  unfold lend1 at h
  split at h
  · rename_i kk off len e
    rw [Option.bind_eq_some_iff] at h; obtain ⟨o, h3, h⟩ := h
    split at h
    · rename_i b l0
      rw [Option.bind_eq_some_iff] at h; obtain ⟨l, h4, h⟩ := h
      injection h with h
      subst h
      have h5 : (sub l off len).length = len := by simpa [eqL] using hb (eqL (sub l off len).length len) (by simp)
      obtain ⟨h6, h7⟩ := castL_den h4
      obtain ⟨hf1, hf2⟩ := hbad kk (hfk kk (by simp [drefs]))
      simp only [den, ExpT]
      refine ⟨hf1, hf2, denO (.lst b l0), (sub l off len).map (CT.row X.toSE e), by simp [aget, h3], ?_, by simpa using h5, ?_⟩
      · simp only [denO, h7]
        simp [avRows, sub, List.map_take, List.map_drop]
      · simpa [CT.row] using h1.symm
    · cases h
  · rename_i kk off len
    rw [Option.bind_eq_some_iff] at h; obtain ⟨o, h3, h⟩ := h
    split at h
    · rename_i b l0
      injection h with h
      subst h
      have h5 : (sub l0 off len).length = len := by simpa [eqL] using hb (eqL (sub l0 off len).length len) (by simp)
      obtain ⟨hf1, hf2⟩ := hbad kk (hfk kk (by simp [drefs]))
      simp only [den, ExpT]
      refine ⟨hf1, hf2, denO (.lst b l0), (sub l0 off len).map (CT.row X.toSE b), by simp [aget, h3], ?_, by simpa using h5, ?_⟩
      · simp only [denO]
        simp [avRows, sub, List.map_take, List.map_drop]
      · simpa [CT.row] using h1.symm
    · cases h
  · rw [Option.bind_eq_some_iff] at h; obtain ⟨y, h3, h⟩ := h
    injection h with h
    exact hbase y h3 (by rw [← h])

theorem lendHL_exp (hbad : ∀ j, j ∉ bad → fk ≠ some j ∧ ¬ kept os' j) : ∀ {ds : List (DV X)} {l : List (CT X.ι)} {h : HL X.toSE l × List Bool}, lendHL get ds l = some h → (∀ b ∈ h.2, b = true) → l.all CT.one = true → (∀ j ∈ drefsL ds, j ∉ bad) → ExpL (aget get) fk os' (denL ds) (HL.row X.toSE l h.1)
  | [], [], h, _, _, _, _ => trivial
  | d :: ds, c :: l, h, hr, hb, ha, hfk => by
    simp only [lendHL] at hr
    rw [Option.bind_eq_some_iff] at hr; obtain ⟨x, h1, hr⟩ := hr
    rw [Option.bind_eq_some_iff] at hr; obtain ⟨g, h2, hr⟩ := hr
    injection hr with hr
    subst hr
    simp only [List.all_cons, Bool.and_eq_true] at ha
    obtain ⟨t, i1, i2⟩ := lend1_exp hbad ha.1 h1 (fun b hb' => hb b (by simp [hb'])) (fun j hj => hfk j (by simp [drefsL, hj]))
    have i3 := lendHL_exp hbad h2 (fun b hb' => hb b (by simp [hb'])) ha.2 (fun j hj => hfk j (by simp [drefsL, hj]))
    obtain ⟨t', j1, j2⟩ := row_one ha.1 x.1
    rw [i1] at j2
    injection j2 with j2
    subst j2
    show ExpL (aget get) fk os' (den d :: denL ds) (CT.row X.toSE c x.1 ++ HL.row X.toSE l g.1)
    rw [j1]
    exact ⟨i2, i3⟩
  | [], _ :: _, _, hr, _, _, _ => by simp [lendHL] at hr
  | _ :: _, [], _, hr, _, _, _ => by simp [lendHL] at hr

theorem lendRow_exp (hbad : ∀ j, j ∉ bad → fk ≠ some j ∧ ¬ kept os' j) {row : List (DV X)} {c : CT X.ι} {x : CT.T X.toSE c × List Bool} (h : lendRow get row c = some x) (hb : ∀ b ∈ x.2, b = true) (hfk : ∀ j ∈ drefsL row, j ∉ bad) : ExpL (aget get) fk os' (denL row) (CT.row X.toSE c x.1) := by
  cases c
  case st i =>
    replace h : (lendHL get row (X.tys i)).bind (fun h => some (X.make i h.1, h.2)) = some x := h
    rw [Option.bind_eq_some_iff] at h; obtain ⟨g, h1, h⟩ := h
    injection h with h
    subst h
    have := lendHL_exp hbad h1 hb (X.flat i) hfk
    show ExpL (aget get) fk os' (denL row) (X.row i (X.make i g.1))
    rw [X.row_make]; exact this
  all_goals
    match row, h, hfk with
    | [d], h, hfk =>
      obtain ⟨t, i1, i2⟩ := lend1_exp (fk := fk) hbad rfl h hb (fun j hj => hfk j (by simp [drefsL, hj]))
      obtain ⟨t', j1, j2⟩ := row_one rfl x.1
      rw [i1] at j2
      injection j2 with j2
      subst j2
      rw [j1]
      exact ⟨i2, trivial⟩
    | [], h, _ => cases h
    | _ :: _ :: _, h, _ => cases h

theorem lendRows_exp (hbad : ∀ j, j ∉ bad → fk ≠ some j ∧ ¬ kept os' j) {c : CT X.ι} : ∀ {rows : List (List (DV X))} {x : List (CT.T X.toSE c) × List Bool}, lendRows get c rows = some x → (∀ b ∈ x.2, b = true) → (∀ j ∈ (rows.map drefsL).flatten, j ∉ bad) → ExpRows (aget get) fk os' (rows.map denL) (x.1.map (CT.row X.toSE c)) ∧ rows.length = List.length x.1
  | [], x, h, _, _ => by simp only [lendRows, Option.some.injEq] at h; subst h; exact ⟨trivial, rfl⟩
  | r :: rs, x, h, hb, hfk => by
    simp only [lendRows] at h
    rw [Option.bind_eq_some_iff] at h; obtain ⟨y, h1, h⟩ := h
    rw [Option.bind_eq_some_iff] at h; obtain ⟨z, h2, h⟩ := h
    injection h with h
    subst h
    have i1 := lendRow_exp hbad h1 (fun b hb' => hb b (by simp [hb'])) (fun j hj => hfk j (by simp [hj]))
    obtain ⟨i2, i3⟩ := lendRows_exp hbad h2 (fun b hb' => hb b (by simp [hb'])) (fun j hj => hfk j (by simp only [List.map_cons, List.flatten_cons, List.mem_append]; exact .inr hj))
    exact ⟨⟨i1, i2⟩, by simp [i3]⟩

theorem expC_one {x : AV} {t : Tree} (h : ExpT (aget get) fk os' x t) : ExpC (aget get) fk os' x (.d (.s t)) := by
  cases x <;> first | exact h | exact h.elim

theorem ExpRows_refl (sz : CT X.ι) (l : List (CT.T X.toSE sz)) : ExpRows (aget get) fk os' (avRows (l.map (CT.row X.toSE sz))) (l.map (CT.row X.toSE sz)) := by
  generalize l.map (CT.row X.toSE sz) = rows
  induction rows with
  | nil => trivial
  | cons r rs ih =>
    refine ⟨?_, ih⟩
    show ExpL (aget get) fk os' (r.map AV.t) r
    induction r with
    | nil => trivial
    | cons y ys ih2 => exact ⟨rfl, ih2⟩

theorem expD_exp (hbad : ∀ j, j ∉ bad → fk ≠ some j ∧ ¬ kept os' j) {c : CT X.ι} {d : DV X} {x : CT.T X.toSE c × List Bool} (h : lendD get d c = some x) (hfk : ∀ j ∈ drefs d, j ∉ bad) (hb : ∀ b ∈ x.2, b = true) : ExpC (aget get) fk os' (den d) (.d (CT.tv X.toSE c x.1)) := by
  cases c
  case st i =>
    replace h : lendS get d i = some x := h
    cases d
    case agg cs =>
      simp only [lendS] at h
      rw [Option.bind_eq_some_iff] at h; obtain ⟨g, h1, h⟩ := h
      injection h with h
      subst h
      have := lendHL_exp (fk := fk) hbad h1 hb (X.flat i) (by simpa [drefs] using hfk)
      show ExpL (aget get) fk os' (denL cs) (X.row i (X.make i g.1))
      rw [X.row_make]; exact this
    case c a y =>
      simp only [lendS] at h
      rw [Option.bind_eq_some_iff] at h; obtain ⟨z, h1, h⟩ := h
      injection h with h
      subst h
      rw [(castC_den h1).1]
      show ExpL (aget get) fk os' ((X.row i z).map AV.t) (X.row i z)
      generalize X.row i z = l
      induction l with
      | nil => trivial
      | cons y ys ih => exact ⟨rfl, ih⟩
    all_goals cases h
  all_goals
    obtain ⟨t, i1, i2⟩ := lend1_exp (fk := fk) hbad rfl h hb hfk
    rw [i1]
    exact expC_one i2

/-- One result: what it is in the untyped walk. -/
theorem expE_sound {mus : List Nat} {wl : List (Nat × Nat)} {ns : List Nat} {n : Nat} (hbad : ∀ j, j ∉ bad → fk ≠ some j ∧ ¬ kept os' j) (hfkk : ∀ k, fk = some k → ¬ kept os' k) (hns : ∀ j len0, j ∈ mus → lk wl j = some len0 → ns.getD j 0 = len0) (hmu : ∀ j ∈ mus, kept os' j) {q : RT X.ι} {ds : List (DV X)} {p : (RT.T X q × List Bool) × List (DV X)} (h : expE get bad mus fk wl n q ds = some p) (hb : ∀ b ∈ p.1.2, b = true) :
    (∀ cs, ExpCs (aget get) fk os' (denL p.2) cs → ExpCs (aget get) fk os' (denL ds) (resRC ns q p.1.1 ++ cs)) ∧
    (∀ t, outC q p.1.1 = [some t] → ∃ o, get n = some o ∧ (denO o).sz = t.1 ∧ ExpRows (aget get) fk os' ((denO o).rows.take t.2.length) t.2) ∧
    (∀ len0 c, q = .mu c → lk wl n = some len0 → outN q p.1.1 = [len0]) := by
  cases q
  case d c =>
    cases ds with
    | nil => simp [expE] at h
    | cons d ds =>
      simp only [expE] at h
      split at h
      · rename_i hnb
        rw [Option.bind_eq_some_iff] at h; obtain ⟨x, h1, h⟩ := h
        injection h with h
        subst h
        exact ⟨fun cs hcs => ⟨expD_exp hbad h1 (noBad_spec hnb) hb, hcs⟩, fun t ht => by simp [outC] at ht, fun _ _ h => by cases h⟩
      · cases h
  case fresh e =>
    cases ds with
    | nil => simp [expE] at h
    | cons d ds =>
      refine ⟨fun cs hcs => ?_, fun t ht => by simp [outC] at ht, fun _ _ h => by cases h⟩
      simp only [expE] at h
      split at h
      · injection h with h
        subst h
        exact ⟨rfl, hcs⟩
      · rename_i k len
        split at h
        · rename_i hfk
          rw [Option.bind_eq_some_iff] at h; obtain ⟨o, h1, h⟩ := h
          split at h
          · rename_i b l0
            rw [Option.bind_eq_some_iff] at h; obtain ⟨l, h2, h⟩ := h
            injection h with h
            subst h
            obtain ⟨h3, h4⟩ := castL_den h2
            have h5 : (sub l 0 len).length = len := by simpa [eqL] using hb (eqL (sub l 0 len).length len) (by simp)
            refine ⟨⟨hfk, hfkk k hfk, rfl, denO (.lst b l0), by simp [aget, h1], by simp only [denO]; exact h3, ?_, by simpa using h5⟩, hcs⟩
            have e1 : (denO (.lst b l0)).rows.take len = avRows ((sub l 0 len).map (CT.row X.toSE e)) := by
              simp only [denO, h4]
              simp [avRows, sub, List.map_take]
            rw [e1]
            exact ExpRows_refl e _
          · rename_i sz rows
            split at h
            · rename_i hc
              rw [Option.bind_eq_some_iff] at h; obtain ⟨x, h2, h⟩ := h
              injection h with h
              subst h
              obtain ⟨i1, i2⟩ := lendRows_exp (fk := fk) hbad h2 (fun b hb' => hb b (by simp [hb'])) (noBad_spec hc.2)
              have h5 : len = List.length x.1 := by simpa [eqL] using hb (eqL len (List.length x.1)) (by simp)
              refine ⟨⟨hfk, hfkk k hfk, rfl, denO (.cells sz rows), by simp [aget, h1], hc.1, ?_, by simpa using h5.symm⟩, hcs⟩
              simp only [denO]
              rw [List.take_of_length_le (by simp; omega)]
              exact i1
            · cases h
        · cases h
      · cases h
  case whole j =>
    cases ds with
    | nil => simp [expE] at h
    | cons d ds =>
      refine ⟨fun cs hcs => ?_, fun t ht => by simp [outC] at ht, fun _ _ h => by cases h⟩
      simp only [expE] at h
      split at h
      · rename_i k len
        split at h
        · rename_i hc
          obtain ⟨rfl, hm⟩ := hc
          rw [Option.bind_eq_some_iff] at h; obtain ⟨len0, h1, h⟩ := h
          injection h with h
          subst h
          have h5 : len = len0 := by simpa [eqL] using hb (eqL len len0) (by simp)
          have hm : k ∈ mus := by simpa using hm
          refine ⟨⟨rfl, rfl, ?_, hmu k hm⟩, hcs⟩
          rw [h5]; exact hns k len0 hm h1
        · cases h
      · cases h
  case mu c =>
    simp only [expE] at h
    rw [Option.bind_eq_some_iff] at h; obtain ⟨o, h1, h⟩ := h
    split at h
    · rename_i b l0
      rw [Option.bind_eq_some_iff] at h; obtain ⟨l, h2, h⟩ := h
      obtain ⟨h3, h4⟩ := castL_den h2
      split at h
      · rename_i len hl
        injection h with h
        subst h
        have h5 : (sub l 0 len).length = len := by simpa [eqL] using hb (eqL (sub l 0 len).length len) (by simp)
        refine ⟨fun cs hcs => hcs, fun t ht => ?_, fun len0 c' _ hl' => ?_⟩
        · simp only [outC, List.cons.injEq, Option.some.injEq, and_true] at ht
          subst ht
          refine ⟨_, h1, by simp only [denO, mutR]; exact h3, ?_⟩
          have e1 : (denO (.lst b l0)).rows.take (mutR c (sub l 0 len)).2.length = avRows (mutR c (sub l 0 len)).2 := by
            simp only [denO, h4, mutR, List.length_map, h5]
            simp [avRows, sub, List.map_take]
          rw [e1]
          exact ExpRows_refl c _
        · rw [hl] at hl'
          injection hl' with hl'
          subst hl'
          simp only [outN, h5]
      · rename_i hl
        injection h with h
        subst h
        refine ⟨fun cs hcs => hcs, fun t ht => ?_, fun len0 c' _ hl' => by rw [hl] at hl'; cases hl'⟩
        simp only [outC, List.cons.injEq, Option.some.injEq, and_true] at ht
        subst ht
        refine ⟨_, h1, by simp only [denO, mutR]; exact h3, ?_⟩
        have e1 : (denO (.lst b l0)).rows.take (mutR c l).2.length = avRows (mutR c l).2 := by
          simp only [denO, h4, mutR]
          rw [List.take_of_length_le (by simp [avRows])]
        rw [e1]
        exact ExpRows_refl c _
    · cases h
  case mr c =>
    simp only [expE] at h
    rw [Option.bind_eq_some_iff] at h; obtain ⟨o, h1, h⟩ := h
    split at h
    · rename_i sz row
      split at h
      · rename_i hc
        rw [Option.bind_eq_some_iff] at h; obtain ⟨x, h2, h⟩ := h
        injection h with h
        subst h
        refine ⟨fun cs hcs => hcs, fun t ht => ?_, fun _ _ h => by cases h⟩
        simp only [outC, List.cons.injEq, Option.some.injEq, and_true] at ht
        subst ht
        refine ⟨_, h1, by simp only [denO, mutR]; exact hc.1, ?_⟩
        exact ⟨lendRow_exp hbad h2 hb (noBad_spec hc.2), trivial⟩
      · cases h
    · cases h
  case mv =>
    simp only [expE, Option.some.injEq] at h
    subst h
    exact ⟨fun cs hcs => hcs, fun t ht => by simp [outC] at ht, fun _ _ h => by cases h⟩

theorem outC_len {q : RT X.ι} {x : RT.T X q} : (outC q x).length = (if q.out then 1 else 0) ∧ (outN q x).length = (if q.out then 1 else 0) := by
  cases q <;> exact ⟨rfl, rfl⟩

theorem keptN_step {n j : Nat} {q : RT X.ι} {l : List (RT X.ι)} : j ∈ keptN n (q :: l) → (j = n ∧ q.out = true) ∨ j ∈ keptN (if q.out then n + 1 else n) l := by
  cases q <;> simp only [keptN, RT.out, if_true, Bool.false_eq_true, if_false, List.mem_cons]
  case mu c => exact fun h => h.imp (fun h => ⟨h, trivial⟩) id
  case mr c => exact fun h => h.imp (fun h => ⟨h, trivial⟩) id
  all_goals exact .inr

theorem muN_step {n j : Nat} {q : RT X.ι} {l : List (RT X.ι)} : j ∈ muN n (q :: l) → (j = n ∧ ∃ c, q = .mu c) ∨ j ∈ muN (if q.out then n + 1 else n) l := by
  cases q <;> simp only [muN, RT.out, if_true, Bool.false_eq_true, if_false, List.mem_cons]
  case mu c => exact fun h => h.imp (fun h => ⟨h, c, rfl⟩) id
  all_goals exact .inr

theorem muN_ge {j : Nat} : ∀ {l : List (RT X.ι)} {n : Nat}, j ∈ muN n l → n ≤ j
  | [], n, h => by simp [muN] at h
  | q :: l, n, h => by
    rcases muN_step h with ⟨rfl, _⟩ | h
    · exact Nat.le_refl _
    · have := muN_ge h
      split at this <;> omega

/-- The slices among the objects are there. -/
theorem muN_kept : ∀ {l : List (RT X.ι)} {x : ResT X l} {n j : Nat}, j ∈ muN n l → ∃ p, (objR l x)[j - n]? = some (some p)
  | [], x, n, j, h => by simp [muN] at h
  | [q], x, n, j, h => by
    rcases muN_step h with ⟨rfl, c, rfl⟩ | h
    · exact ⟨_, by simp only [Nat.sub_self]; rfl⟩
    · simp [muN] at h
  | q :: q' :: l, x, n, j, h => by
    rcases muN_step h with ⟨rfl, c, rfl⟩ | h
    · exact ⟨_, by simp only [Nat.sub_self]; rfl⟩
    · obtain ⟨p, hp⟩ := muN_kept (l := q' :: l) (x := x.2) h
      have hge := muN_ge h
      refine ⟨p, ?_⟩
      show (outC q x.1 ++ objR (q' :: l) x.2)[j - n]? = _
      have hl := (outC_len (q := q) (x := x.1)).1
      split at hl
      · rename_i e
        rw [if_pos e] at hp hge
        rw [List.getElem?_append_right (by omega), hl, show j - n - 1 = j - (n + 1) by omega]; exact hp
      · rename_i e
        rw [if_neg e] at hp hge
        rw [List.getElem?_append_right (by omega), hl, Nat.sub_zero]; exact hp

theorem objR_kept : ∀ {l : List (RT X.ι)} {x : ResT X l} {n j : Nat} {p : RowsT}, (objR l x)[j]? = some (some p) → n + j ∈ keptN n l
  | [], x, n, j, p, h => by simp [objR] at h
  | [q], x, n, j, p, h => by
    have h : (outC q x)[j]? = some (some p) := h
    cases q <;> simp only [outC, List.getElem?_nil, reduceCtorEq] at h
    case mu c => cases j <;> simp at h <;> simp [keptN]
    case mr c => cases j <;> simp at h <;> simp [keptN]
    case mv => cases j <;> simp at h
  | q :: q' :: l, x, n, j, p, h => by
    have h : (outC q x.1 ++ objR (q' :: l) x.2)[j]? = some (some p) := h
    cases q
    case mu c =>
      cases j with
      | zero => simp [keptN]
      | succ j =>
        have := objR_kept (l := q' :: l) (x := x.2) (n := n + 1) (by simpa [outC] using h)
        simp only [keptN, List.mem_cons]
        right
        rw [show n + (j + 1) = n + 1 + j by omega]; exact this
    case mr c =>
      cases j with
      | zero => simp [keptN]
      | succ j =>
        have := objR_kept (l := q' :: l) (x := x.2) (n := n + 1) (by simpa [outC] using h)
        simp only [keptN, List.mem_cons]
        right
        rw [show n + (j + 1) = n + 1 + j by omega]; exact this
    case mv =>
      cases j with
      | zero => simp [outC] at h
      | succ j =>
        have := objR_kept (l := q' :: l) (x := x.2) (n := n + 1) (by simpa [outC] using h)
        simp only [keptN]
        rw [show n + (j + 1) = n + 1 + j by omega]; exact this
    all_goals
      simp only [keptN]
      exact objR_kept (l := q' :: l) (x := x.2) (by simpa [outC] using h)

theorem expE_len {mus : List Nat} {wl : List (Nat × Nat)} {n : Nat} {q : RT X.ι} {ds : List (DV X)} {p : (RT.T X q × List Bool) × List (DV X)} (h : expE get bad mus fk wl n q ds = some p) (hb : ∀ b ∈ p.1.2, b = true) : ∀ len0 c, q = .mu c → lk wl n = some len0 → outN q p.1.1 = [len0] := by
  rintro len0 c rfl hl
  simp only [expE] at h
  rw [Option.bind_eq_some_iff] at h; obtain ⟨o, h1, h⟩ := h
  split at h
  · rename_i b l0
    rw [Option.bind_eq_some_iff] at h; obtain ⟨l, h2, h⟩ := h
    rw [hl] at h
    injection h with h
    subst h
    have h5 : (sub l 0 len0).length = len0 := by simpa [eqL] using hb (eqL (sub l 0 len0).length len0) (by simp)
    simp only [outN, h5]
  · cases h

/-- The results, without the contract's numbers: how long the slices are. -/
theorem expDs_lens {mus : List Nat} {wl : List (Nat × Nat)} : ∀ {n : Nat} {l : List (RT X.ι)} {ds : List (DV X)} {x : ResT X l × List Bool}, expDs get bad mus fk wl n l ds = some x → (∀ b ∈ x.2, b = true) → ∀ j len0, n + j ∈ muN n l → lk wl (n + j) = some len0 → (lenR l x.1).getD j 0 = len0
  | n, [], ds, x, h, hb, j, len0, hm, _ => by simp [muN] at hm
  | n, [q], ds, x, h, hb, j, len0, hm, hl => by
    simp only [expDs] at h
    rw [Option.bind_eq_some_iff] at h; obtain ⟨p, h1, h⟩ := h
    split at h
    · injection h with h
      subst h
      rcases muN_step hm with ⟨e, c, rfl⟩ | hm
      · have e : j = 0 := by omega
        subst e
        have := (expE_len h1 hb) len0 c rfl hl
        show (outN _ p.1.1).getD 0 0 = len0
        rw [this]; rfl
      · simp [muN] at hm
    · cases h
  | n, q :: q' :: l, ds, x, h, hb, j, len0, hm, hl => by
    simp only [expDs] at h
    rw [Option.bind_eq_some_iff] at h; obtain ⟨p, h1, h⟩ := h
    rw [Option.bind_eq_some_iff] at h; obtain ⟨y, h2, h⟩ := h
    injection h with h
    subst h
    have hlen := (outC_len (q := q) (x := p.1.1)).2
    rcases muN_step hm with ⟨e, c, rfl⟩ | hm
    · have e : j = 0 := by omega
      subst e
      have := (expE_len h1 (fun b hb' => hb b (by simp [hb']))) len0 c rfl hl
      show (outN _ p.1.1 ++ lenR (q' :: l) y.1).getD 0 0 = len0
      rw [this]; rfl
    · have hge := muN_ge hm
      show (outN _ p.1.1 ++ lenR (q' :: l) y.1).getD j 0 = len0
      by_cases hq : q.out = true
      · rw [if_pos hq] at h2 hm hge hlen
        have := expDs_lens h2 (fun b hb' => hb b (by simp [hb'])) (j - 1) len0 (by rw [show n + 1 + (j - 1) = n + j by omega]; exact hm) (by rw [show n + 1 + (j - 1) = n + j by omega]; exact hl)
        rw [List.getD_eq_getElem?_getD, List.getElem?_append_right (by omega), hlen, ← List.getD_eq_getElem?_getD]
        exact this
      · rw [if_neg hq] at h2 hm hge hlen
        have := expDs_lens h2 (fun b hb' => hb b (by simp [hb'])) j len0 hm hl
        rw [List.getD_eq_getElem?_getD, List.getElem?_append_right (by omega), hlen, Nat.sub_zero, ← List.getD_eq_getElem?_getD]
        exact this

theorem expDs_exp {mus : List Nat} {wl : List (Nat × Nat)} {ns : List Nat} (hbad : ∀ j, j ∉ bad → fk ≠ some j ∧ ¬ kept os' j) (hfkk : ∀ k, fk = some k → ¬ kept os' k) (hns : ∀ j len0, j ∈ mus → lk wl j = some len0 → ns.getD j 0 = len0) (hmu : ∀ j ∈ mus, kept os' j) : ∀ {n : Nat} {l : List (RT X.ι)} {ds : List (DV X)} {x : ResT X l × List Bool}, expDs get bad mus fk wl n l ds = some x → (∀ b ∈ x.2, b = true) →
    ExpCs (aget get) fk os' (denL ds) (resRCs ns l x.1) ∧ ∀ j t, (objR l x.1)[j]? = some (some t) → ∃ o, get (n + j) = some o ∧ (denO o).sz = t.1 ∧ ExpRows (aget get) fk os' ((denO o).rows.take t.2.length) t.2
  | n, [], ds, x, h, _ => by
    simp only [expDs] at h
    split at h
    · exact ⟨trivial, fun j t ht => by simp [objR] at ht⟩
    · cases h
  | n, [q], ds, x, h, hb => by
    simp only [expDs] at h
    rw [Option.bind_eq_some_iff] at h; obtain ⟨p, h1, h⟩ := h
    split at h
    · rename_i hp
      injection h with h
      subst h
      obtain ⟨i1, i2, _⟩ := expE_sound (ns := ns) hbad hfkk hns hmu h1 hb
      rw [hp] at i1
      have := i1 [] trivial
      rw [List.append_nil] at this
      refine ⟨this, fun j t ht => ?_⟩
      have ht : (outC q p.1.1)[j]? = some (some t) := ht
      have hl := (outC_len (q := q) (x := p.1.1)).1
      have hj := (List.getElem?_eq_some_iff.1 ht).1
      have hj0 : j = 0 := by split at hl <;> omega
      subst hj0
      refine i2 t ?_
      match ho : outC q p.1.1, ht, hl with
      | [z], ht, _ => simpa using ht
      | [], ht, _ => simp at ht
      | _ :: _ :: _, _, hl => simp only [List.length_cons] at hl; split at hl <;> omega
    · cases h
  | n, q :: q' :: l, ds, x, h, hb => by
    simp only [expDs] at h
    rw [Option.bind_eq_some_iff] at h; obtain ⟨p, h1, h⟩ := h
    rw [Option.bind_eq_some_iff] at h; obtain ⟨y, h2, h⟩ := h
    injection h with h
    subst h
    obtain ⟨i1, i2, _⟩ := expE_sound (ns := ns) hbad hfkk hns hmu h1 (fun b hb' => hb b (by simp [hb']))
    obtain ⟨k1, k2⟩ := expDs_exp (ns := ns) hbad hfkk hns hmu h2 (fun b hb' => hb b (by simp [hb']))
    refine ⟨i1 _ k1, fun j t ht => ?_⟩
    have ht : (outC q p.1.1 ++ objR (q' :: l) y.1)[j]? = some (some t) := ht
    have hl := (outC_len (q := q) (x := p.1.1)).1
    by_cases hq : q.out = true
    · rw [if_pos hq] at k2 hl
      cases j with
      | zero =>
        refine i2 t ?_
        match ho : outC q p.1.1, ht, hl with
        | [z], ht, _ => simpa using ht
        | [], _, hl => simp at hl
        | _ :: _ :: _, _, hl => simp at hl
      | succ j =>
        rw [List.getElem?_append_right (by omega), hl, Nat.add_sub_cancel] at ht
        rw [show n + (j + 1) = n + 1 + j by omega]
        exact k2 j t ht
    · rw [if_neg hq] at k2 hl
      rw [List.getElem?_append_right (by omega), hl, Nat.sub_zero] at ht
      exact k2 j t ht
end

theorem ExpCs.R {get : Nat → Option AObj} {fk : Option Nat} {os' : List (Option RowsT)} : ∀ {xs : List AV} {cs : List RC}, ExpCs get fk os' xs cs → ExpR get fk os' xs (match cs with | [c] => .one c | cs => .tup cs)
  | [], [], _ => rfl
  | [_], [_], h => h.1
  | _ :: _ :: _, _ :: _ :: _, h => h
  | [], _ :: _, h => h.elim
  | _ :: _, [], h => h.elim
  | [_], _ :: _ :: _, h => h.2.elim
  | _ :: _ :: _, [_], h => h.2.elim

theorem kRet_ret {s : DSt X} {rs : List ResultVar} {l : List (RT X.ι)} {r : ResT X l} (h : ((resVs T s rs).bind fun ds => (expAll s l ds).bind fun x => chkA x.2 (some x.1)) = some r) : ∃ xs fk, resVals T s.st rs = some xs ∧ ExpR s.st.obj fk (objR l r) xs (resRV l r) ∧ ExpO s.st.obj fk (objR l r) := by
  rw [Option.bind_eq_some_iff] at h; obtain ⟨ds, h1, h⟩ := h
  rw [Option.bind_eq_some_iff] at h; obtain ⟨x, h2, h⟩ := h
  obtain ⟨h3, h⟩ := chkA_some h
  injection h with h
  subst h
  unfold expAll at h2
  split at h2
  · rename_i hnb
    have hkn : ∀ j, kept (objR l x.1) j → j ∈ keptN 0 l := fun j ⟨p, hp⟩ => by
      have := objR_kept (n := 0) hp
      simpa using this
    have hbad : ∀ j, j ∉ keptN 0 l ++ (fkOf l ds).toList → fkOf l ds ≠ some j ∧ ¬ kept (objR l x.1) j := by
      intro j hj
      simp only [List.mem_append, Option.mem_toList, not_or] at hj
      exact ⟨hj.2, fun h => hj.1 (hkn j h)⟩
    have hfkk : ∀ k, fkOf l ds = some k → ¬ kept (objR l x.1) k := fun k hk hkk => noBad_spec hnb k (by simp [hk]) (hkn k hkk)
    have hmu : ∀ j ∈ muN 0 l, kept (objR l x.1) j := fun j hj => by
      obtain ⟨p, hp⟩ := muN_kept (x := x.1) hj
      exact ⟨p, by simpa using hp⟩
    obtain ⟨i1, i2⟩ := expDs_exp (ns := lenR l x.1) hbad hfkk (fun j len0 hj hl => expDs_lens h2 h3 j len0 (by simpa using hj) (by simpa using hl)) hmu h2 h3
    have hobj : s.st.obj = aget (lko s.obj) := rfl
    refine ⟨denL ds, fkOf l ds, resVs_den T h1, ?_, fun j p hp => ?_⟩
    · rw [hobj]
      exact i1.R
    · obtain ⟨o, g1, g2, g3⟩ := i2 j p hp
      rw [Nat.zero_add] at g1
      exact ⟨fun e => hfkk j e ⟨p, hp⟩, denO o, by rw [hobj]; simp [aget, g1], g2, by rw [hobj]; exact g3⟩
  · cases h2

variable {Γ : FuncId → Option (Sig X)} {code : TypeId → Option (CT X.ι)} {P : Program}

/-- A function's contract out of its walk. -/
theorem fn_ok (hT : TabOk P T) (hm : P.follows .mixedOrders = true) (hΓ : GOk P Γ) {f : FuncId} {fn : Func} {c : Code} (hfn : P.funcs[f]? = some fn) (hb : fn.body = some c) (hname : (fn.name == "runtime.NumGoroutine") = false) (sa : List (AT X.ι)) (sr : List (RT X.ι)) (hN : sa.length ≤ fn.ntmps ∧ muts sa ≤ 1000 ∧ (sr.filter RT.out).length = muts sa)
    (h : Hn X.ι) (n : Nat) {a : ArgsT X sa} {r : ResT X sr} (hr : run Γ T code fn.ntmps n c (ResT X sr) h (ini sa a) (kRet T fn.results.toList sr) = some r) : FnW P f (argAV sa a) (objA sa a) (objR sr r) (resRV sr r) := by
  have hl : (objR sr r).length = (objA sa a).length := by
    rw [objA_length, ← hN.2.2]
    have : ∀ (sr : List (RT X.ι)) (r : ResT X sr), (objR sr r).length = (sr.filter RT.out).length := by
      intro sr
      induction sr with
      | nil => intro r; rfl
      | cons q l ih =>
        intro r
        have hq : ∀ x : RT.T X q, (outC q x).length = (if q.out then 1 else 0) := fun x => outC_len.1
        cases l with
        | nil =>
          show (outC q r).length = _
          rw [hq]
          by_cases e : q.out = true <;> simp [e]
        | cons q' l =>
          show (outC q r.1 ++ objR (q' :: l) r.2).length = _
          rw [List.length_append, hq, ih r.2]
          by_cases e : q.out = true <;> simp [List.filter_cons, e]
          omega
    exact this sr r
  refine fnW_of_ev hT hfn hb hname (by rw [argAV_length]; exact hN.1) (fun k hk => ?_) (by rw [objA_length]; exact hN.2.1) hl ?_
  · rw [argAV, ← argDV_den, drefsL_den] at hk
    have := argDV_refs 0 sa a k hk
    have := hN.2.1
    omega
  · rw [← ini_st]
    refine (run_sound hT hm hΓ c _ h _ _ r (ini_low sa a hN.2.1) hr).mono ?_
    rintro e σ ⟨s', _, _, rfl, g4⟩
    cases e <;> first | exact kRet_ret g4 | cases g4

theorem callable_of {f : FuncId} {fn : Func} {c : Code} (hfn : P.funcs[f]? = some fn) (hb : fn.body = some c) (hname : (fn.name == "runtime.NumGoroutine") = false) : Callable P f := ⟨fn, hfn, by rw [hb]; rfl, hname⟩

/-- A function's contract. -/
abbrev COk (P : Program) (f : FuncId) (s : Sig X) : Prop := Callable P f ∧ ∀ a r, s.fn a = some r → FnW P f (argAV s.args a) (objA s.args a) (objR s.res r) (resRV s.res r)

/-- Some contracts, by number. -/
def gam (l : List (FuncId × Sig X)) : FuncId → Option (Sig X) := fun f => lk l f
theorem gam_nil : GOk P (gam ([] : List (FuncId × Sig X))) := fun _ _ h => by cases h
theorem gam_cons {f : FuncId} {s : Sig X} {l : List (FuncId × Sig X)} (h : Callable P f ∧ ∀ a r, s.fn a = some r → FnW P f (argAV s.args a) (objA s.args a) (objR s.res r) (resRV s.res r)) (hl : GOk P (gam l)) : GOk P (gam ((f, s) :: l)) := by
  intro g q hg
  simp only [gam, lk] at hg
  split at hg
  · rename_i e
    injection hg with hg
    subst hg; subst e
    exact h
  · exact hl g q hg
end
end Go.Gb
