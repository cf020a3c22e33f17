/-
  A region in the typed walk, whole.
-/
import Derived.Test.YtgmmcfpjmkhmhaaXI
namespace Go.Gb
open Go.RowKit

section
variable {X : SX} {A : Type}

def fN (nx k : Nat) : Nat := if k < 1000000 then k else nx + (k - 1000000)
def gN (nx j : Nat) : Nat := if j < nx then j else 1000000 + (j - nx)
def okN (nx sz k : Nat) : Bool := decide (k < nx) || (decide (1000000 ≤ k) && decide (k < 1000000 + sz))
def okE (nx sz : Nat) (e : List (Nat × DV X)) : Bool := e.all fun p => (drefs p.2).all (okN nx sz)
def okO (nx sz : Nat) (o : List (Nat × Option (DObj X))) : Bool := o.all fun p => okN nx sz p.1 && match p.2 with | some x => (orefs x).all (okN nx sz) | none => true
def annF (fps : Fps) : Nat → Ann := fun i => match lk fps i with | some p => ⟨.none, p.1, p.2, false⟩ | none => ⟨.none, [], [], false⟩
def annT (tr : List (Nat × Ann)) : Nat → Ann := fun i => match lk tr i with | some a => a | none => ⟨.none, [], [], false⟩

def unsk : DV X → DV X
  | .skip => .undef
  | x => x

theorem unsk_den (x : DV X) : den (unsk x) = den x := by cases x <;> rfl
theorem unsk_refs (x : DV X) : drefs (unsk x) = drefs x := by cases x <;> rfl

def fin (s : DSt X) (e : List (Nat × DV X)) (o : List (Nat × Option (DObj X))) (sz : Nat) : DSt X :=
  ⟨e.map (fun p => (p.1, unsk (rnD (fN s.nx) p.2))) ++ s.env, o.map (fun p => (fN s.nx p.1, p.2.map (rnO (fN s.nx)))) ++ s.obj, s.nx + sz, o.map (fun p => fN s.nx p.1) ++ s.log⟩

def regOkB (N : Nat) (ops : Array Oper) (d : Bool) (nx : Nat) (e : List (Nat × DV X)) (o : List (Nat × Option (DObj X))) (fps : Fps) : Bool :=
  dstsOk N ops && (!d || lexOK ops (annF fps)) && okE nx ops.size e && okO nx ops.size o && decide (nx + ops.size ≤ 1000000)

def runReg (Γ : FuncId → Option (Sig X)) (fz : List Nat) (T : Tab) (code : TypeId → Option (CT X.ι)) (N : Nat) (ops : Array Oper) (d : Bool) (s : DSt X) (k : DSt X → Option A) : Option A :=
  runOps Γ fz T code ops s (fun e o fps => bif regOkB N ops d s.nx e o fps then k (fin s e o ops.size) else none) (List.range ops.size) [] [] []

theorem lexOK_congr {ops : Array Oper} {ann ann' : Nat → Ann} (h : ∀ i, (ann i).rd = (ann' i).rd ∧ (ann i).wr = (ann' i).wr) : lexOK ops ann = lexOK ops ann' := by
  have h1 : fpApart ann = fpApart ann' := by
    funext i j
    simp only [fpApart, (h i).1, (h i).2, (h j).1, (h j).2]
  have h2 : ∀ md, fpFree md ops ann = fpFree md ops ann' := by
    intro md
    funext listed i
    simp only [fpFree, h1]
  have h3 : ∀ (md : Region.Mode) (n k : Nat) (listed : Array Bool), lexFrom' md ops ann n k listed = lexFrom' md ops ann' n k listed := by
    intro md n
    induction n with
    | zero => intro k listed; rfl
    | succ n ih => intro k listed; simp only [lexFrom', h2, ih]
  exact h3 _ _ _ _

theorem lk_append {α : Type} : ∀ (a b : List (Nat × α)) (k : Nat), lk (a ++ b) k = match lk a k with | some x => some x | none => lk b k
  | [], _, _ => rfl
  | (j, x) :: a, b, k => by
    simp only [List.cons_append, lk]
    by_cases h : j = k
    · simp [h]
    · simp only [if_neg h, lk_append a b k]

theorem lk_none {α : Type} : ∀ {l : List (Nat × α)} {k : Nat}, lk l k = none → ∀ x, (k, x) ∉ l
  | (j, y) :: r, k, h, x => by
    simp only [lk] at h
    split at h
    · cases h
    · rename_i hn
      simp only [List.mem_cons, Prod.mk.injEq, not_or]
      exact ⟨fun e => hn e.1.symm, lk_none h x⟩
  | [], _, _, _ => by simp

theorem annF_T {tr : List (Nat × Ann)} (hn : (tr.map (·.1)).Nodup) (i : Nat) : (annF (fpOf tr).reverse i).rd = (annT tr i).rd ∧ (annF (fpOf tr).reverse i).wr = (annT tr i).wr := by
  have hn' : ((fpOf tr).reverse.map (·.1)).Nodup := by
    rw [List.map_reverse]
    have h1 : ((fpOf tr).map (·.1)).Nodup := by simpa [fpOf, Function.comp_def] using hn
    exact List.pairwise_reverse.2 (h1.imp fun h => Ne.symm h)
  unfold annF annT
  cases h : lk tr i with
  | none =>
    cases h' : lk (fpOf tr).reverse i with
    | none => exact ⟨rfl, rfl⟩
    | some p =>
      have := lk_mem h'
      simp only [fpOf, List.mem_reverse, List.mem_map] at this
      obtain ⟨q, hq, he⟩ := this
      injection he with e1 e2
      subst e1
      exact (lk_none h q.2 hq).elim
  | some a =>
    have h1 := lk_mem h
    have h2 : (i, a.rd, a.wr) ∈ (fpOf tr).reverse := by
      simp only [fpOf, List.mem_reverse, List.mem_map]
      exact ⟨(i, a), h1, rfl⟩
    rw [lk_of_mem hn' h2]
    exact ⟨rfl, rfl⟩

theorem annT_mem {tr : List (Nat × Ann)} (hn : (tr.map (·.1)).Nodup) : ∀ p ∈ tr, annT tr p.1 = p.2 := by
  rintro ⟨i, a⟩ hp
  unfold annT
  rw [lk_of_mem hn hp]

theorem okN_spec {nx sz k : Nat} (h : okN nx sz k = true) : k < nx ∨ (1000000 ≤ k ∧ k < 1000000 + sz) := by
  simpa [okN] using h

theorem gfN {nx sz k : Nat} (hle : nx + sz ≤ 1000000) (h : k < nx ∨ (1000000 ≤ k ∧ k < 1000000 + sz)) : gN nx (fN nx k) = k := by
  unfold gN fN
  rcases h with h | ⟨h1, h2⟩
  · rw [if_pos (show k < 1000000 by omega), if_pos h]
  · rw [if_neg (show ¬ k < 1000000 by omega), if_neg (by omega)]; omega

theorem fN_lt {nx sz k : Nat} (hle : nx + sz ≤ 1000000) (h : k < nx ∨ (1000000 ≤ k ∧ k < 1000000 + sz)) : fN nx k < nx + sz := by
  unfold fN
  rcases h with h | ⟨h1, h2⟩
  · rw [if_pos (show k < 1000000 by omega)]; omega
  · rw [if_neg (show ¬ k < 1000000 by omega)]; omega

theorem fN_id {nx k : Nat} (hle : nx ≤ 1000000) (h : k < nx) : fN nx k = k := if_pos (by omega)

mutual
theorem rnD_id {f : Nat → Nat} : ∀ x : DV X, (∀ k ∈ drefs x, f k = k) → rnD f x = x
  | .own k _ _, h => by simp only [rnD, h k (by simp [drefs])]
  | .ptr k _ _, h => by simp only [rnD, h k (by simp [drefs])]
  | .ptl k _ _, h => by simp only [rnD, h k (by simp [drefs])]
  | .pta k _ _ _ _, h => by simp only [rnD, h k (by simp [drefs])]
  | .agg cs, h => by simp only [rnD, rnDL_id cs (by simpa [drefs] using h)]
  | .tup cs, h => by simp only [rnD, rnDL_id cs (by simpa [drefs] using h)]
  | .fn F first caps, h => by simp only [rnD, rnDL_id first (fun k hk => h k (by simp [drefs, hk])), rnDL_id caps (fun k hk => h k (by simp [drefs, hk]))]
  | .c _ _, _ => rfl
  | .rp _ _ _, _ => rfl
  | .clo _ _ _, _ => rfl
  | .raw _, _ => rfl
  | .nil, _ => rfl
  | .ub, _ => rfl
  | .skip, _ => rfl
  | .undef, _ => rfl
theorem rnDL_id {f : Nat → Nat} : ∀ l : List (DV X), (∀ k ∈ drefsL l, f k = k) → rnDL f l = l
  | [], _ => rfl
  | x :: xs, h => by simp only [rnDL, rnD_id x (fun k hk => h k (by simp [drefsL, hk])), rnDL_id xs (fun k hk => h k (by simp [drefsL, hk]))]
end

mutual
theorem drefs_rn (f : Nat → Nat) : ∀ x : DV X, drefs (rnD f x) = (drefs x).map f
  | .own _ _ _ => rfl
  | .ptr _ _ _ => rfl
  | .ptl _ _ _ => rfl
  | .pta _ _ _ _ _ => rfl
  | .agg cs => by simp only [rnD, drefs, drefsL_rn f cs]
  | .tup cs => by simp only [rnD, drefs, drefsL_rn f cs]
  | .fn F first caps => by simp only [rnD, drefs, drefsL_rn f first, drefsL_rn f caps, List.map_append]
  | .c _ _ => rfl
  | .rp _ _ _ => rfl
  | .clo _ _ _ => rfl
  | .raw _ => rfl
  | .nil => rfl
  | .ub => rfl
  | .skip => rfl
  | .undef => rfl
theorem drefsL_rn (f : Nat → Nat) : ∀ l : List (DV X), drefsL (rnDL f l) = (drefsL l).map f
  | [] => rfl
  | x :: xs => by simp only [rnDL, drefsL, drefs_rn f x, drefsL_rn f xs, List.map_append]
end

theorem orefs_rn (f : Nat → Nat) (o : DObj X) : orefs (rnO f o) = (orefs o).map f := by
  cases o with
  | cells sz rows => simp only [rnO, orefs, List.map_map, List.map_flatten]; congr 1; exact List.map_congr_left fun r _ => drefsL_rn f r
  | lst c l => rfl

theorem lk_map {α β : Type} (f : α → β) : ∀ (l : List (Nat × α)) (k : Nat), lk (l.map fun p => (p.1, f p.2)) k = (lk l k).map f
  | [], _ => rfl
  | (j, x) :: r, k => by
    simp only [List.map_cons, lk]
    by_cases h : j = k
    · simp [h]
    · simp only [if_neg h, lk_map f r k]

theorem lk_mapK {α β : Type} (f : α → β) (g : Nat → Nat) : ∀ (l : List (Nat × α)) (j : Nat), (∀ p ∈ l, ∀ q ∈ l, g p.1 = g q.1 → p.1 = q.1) →
    (∀ y, lk (l.map fun p => (g p.1, f p.2)) j = some y → ∃ k x, lk l k = some x ∧ g k = j ∧ y = f x) ∧ (lk (l.map fun p => (g p.1, f p.2)) j = none → ∀ p ∈ l, g p.1 ≠ j)
  | [], _, _ => ⟨fun _ h => by simp [lk] at h, fun _ => by simp⟩
  | (k0, x0) :: r, j, hi => by
    obtain ⟨i1, i2⟩ := lk_mapK f g r j (fun p hp q hq => hi p (by simp [hp]) q (by simp [hq]))
    simp only [List.map_cons, lk]
    by_cases h : g k0 = j
    · rw [if_pos h]
      exact ⟨fun y hy => by injection hy with hy; exact ⟨k0, x0, by simp, h, hy.symm⟩, fun hn => by cases hn⟩
    · rw [if_neg h]
      refine ⟨fun y hy => ?_, fun hn p hp => ?_⟩
      · obtain ⟨k, x, h1, h2, h3⟩ := i1 y hy
        refine ⟨k, x, ?_, h2, h3⟩
        have hne : k0 ≠ k := fun e => h (by rw [e]; exact h2)
        rw [if_neg hne]; exact h1
      · rcases List.mem_cons.1 hp with rfl | hp
        · exact h
        · exact i2 hn p hp

/-- What a piece of code leaves as it was. -/
structure Ext (ds : Nat → Prop) (s s' : DSt X) : Prop where
  env : ∀ t, ¬ ds t → lke s'.env t = lke s.env t ∨ lke s'.env t = .undef
  obj : ∃ d, s'.log = d ++ s.log ∧ ∀ k, k < s.nx → k ∉ d → lko s'.obj k = lko s.obj k ∨ lko s'.obj k = none
  nx : s.nx ≤ s'.nx

variable {Γ : FuncId → Option (Sig X)} {fz : List Nat} {T : Tab} {code : TypeId → Option (CT X.ι)} {P : Program} {N : Nat}

theorem lke_fin (s : DSt X) (e : List (Nat × DV X)) (o : List (Nat × Option (DObj X))) (sz t : Nat) : lke (fin s e o sz).env t = match lk e t with | some d => unsk (rnD (fN s.nx) d) | none => lke s.env t := by
  simp only [fin, lke, lk_append, lk_map (fun d => unsk (rnD (fN s.nx) d))]
  cases lk e t <;> rfl

theorem runReg_sound (hT : TabOk P T) (hm : P.follows .mixedOrders = true) (hΓ : GOk P Γ) {id : Nat} {ops : Array Oper} {d : Bool} {s : DSt X} {k : DSt X → Option A} {r : A} (hl : Low s) (h : runReg Γ fz T code N ops d s k = some r) :
    ∃ s' : DSt X, k s' = some r ∧ Low s' ∧ Ext (IsDst ops) s s' ∧ Ev P N (.region id ops d) (fun e σ => e = .normal ∧ σ = s'.st) s.st := by
  unfold runReg at h
  obtain ⟨tr, e, o, h1, h2, h3, h4⟩ := runOps_sound hΓ _ _ _ _ h
  obtain ⟨h5, h6⟩ := cond_some h2
  simp only [regOkB, Bool.and_eq_true, List.append_nil] at h5
  obtain ⟨⟨⟨⟨hd, hlex⟩, hE⟩, hO⟩, hnx⟩ := h5
  have hle : s.nx + ops.size ≤ 1000000 := of_decide_eq_true hnx
  have hnod : (tr.map (·.1)).Nodup := by rw [h1]; exact List.nodup_range
  have hEn : ∀ t x, lk e t = some x → ∀ j ∈ drefs x, j < s.nx ∨ (1000000 ≤ j ∧ j < 1000000 + ops.size) := by
    intro t x hx j hj
    have := List.all_eq_true.1 hE _ (lk_mem hx)
    exact okN_spec (List.all_eq_true.1 this j hj)
  have hOn : ∀ p ∈ o, (p.1 < s.nx ∨ (1000000 ≤ p.1 ∧ p.1 < 1000000 + ops.size)) ∧ ∀ x, p.2 = some x → ∀ j ∈ orefs x, j < s.nx ∨ (1000000 ≤ j ∧ j < 1000000 + ops.size) := by
    intro p hp
    have := List.all_eq_true.1 hO _ hp
    simp only [Bool.and_eq_true] at this
    refine ⟨okN_spec this.1, fun x hx j hj => ?_⟩
    have h2 := this.2
    rw [hx] at h2
    exact okN_spec (List.all_eq_true.1 h2 j hj)
  have hinj : ∀ p ∈ o, ∀ q ∈ o, fN s.nx p.1 = fN s.nx q.1 → p.1 = q.1 := by
    intro p hp q hq he
    have := congrArg (gN s.nx) he
    rwa [gfN hle (hOn p hp).1, gfN hle (hOn q hq).1] at this
  have hlko : ∀ j, (∃ q x, lk o q = some x ∧ fN s.nx q = j ∧ lko (fin s e o ops.size).obj j = x.map (rnO (fN s.nx))) ∨ (lko (fin s e o ops.size).obj j = lko s.obj j ∧ ∀ p ∈ o, fN s.nx p.1 ≠ j) := by
    intro j
    obtain ⟨i1, i2⟩ := lk_mapK (fun x : Option (DObj X) => x.map (rnO (fN s.nx))) (fN s.nx) o j hinj
    simp only [fin, lko, lk_append]
    cases hj : lk (o.map fun p => (fN s.nx p.1, p.2.map (rnO (fN s.nx)))) j with
    | none => exact .inr ⟨rfl, i2 hj⟩
    | some y =>
      obtain ⟨q, x, g1, g2, g3⟩ := i1 y hj
      exact .inl ⟨q, x, g1, g2, by rw [g3]; rfl⟩
  refine ⟨fin s e o ops.size, h6, ?_, ?_, ?_⟩
  · constructor
    · exact hle
    · have := hl.ge; show 1000 ≤ s.nx + ops.size; omega
    · intro t j hj
      rw [lke_fin] at hj
      cases ht : lk e t with
      | none => rw [ht] at hj; have := hl.env t j hj; show j < s.nx + ops.size; omega
      | some x =>
        rw [ht, unsk_refs, drefs_rn] at hj
        obtain ⟨q, hq, rfl⟩ := List.mem_map.1 hj
        exact fN_lt hle (hEn t x ht q hq)
    · intro j x hx
      rcases hlko j with ⟨q, y, g1, rfl, g3⟩ | ⟨g1, _⟩
      · rw [g3] at hx
        rw [Option.map_eq_some_iff] at hx
        obtain ⟨z, rfl, rfl⟩ := hx
        obtain ⟨k1, k2⟩ := hOn _ (lk_mem g1)
        refine ⟨fN_lt hle k1, fun i hi => ?_⟩
        rw [orefs_rn] at hi
        obtain ⟨i', hi', rfl⟩ := List.mem_map.1 hi
        exact fN_lt hle (k2 z rfl i' hi')
      · rw [g1] at hx
        obtain ⟨k1, k2⟩ := hl.obj j x hx
        refine ⟨show j < s.nx + ops.size by omega, fun i hi => ?_⟩
        have := k2 i hi
        show i < s.nx + ops.size; omega
  · refine ⟨fun t ht => .inl ?_, ⟨o.map (fun p => fN s.nx p.1), rfl, fun j hj hn => ?_⟩, by show s.nx ≤ s.nx + ops.size; omega⟩
    · rw [lke_fin]
      cases hx : lk e t with
      | none => rfl
      | some x =>
        rcases h3 _ (lk_mem hx) with h | h
        · simp at h
        · exact (ht h).elim
    · rcases hlko j with ⟨q, y, g1, g2, g3⟩ | ⟨g1, _⟩
      · exact (hn (List.mem_map.2 ⟨(q, y), lk_mem g1, g2⟩)).elim
      · exact .inl g1
  · have hst : stOf s [] [] = s.st := rfl
    have hex := h4 (annT tr) (annT_mem hnod)
    rw [hst] at hex
    intro w0 O0 β I a w hr ho
    have done : ∀ (e' : Exit) (a' : Act) (w' : World), (∃ β' I' σ1, Rel P w0 O0 N β' I' σ1 a' w' ∧ e' = .normal ∧ σ1 = stOf s e o) → ∃ β' I' σ1, Rel P w0 O0 N β' I' σ1 a' w' ∧ Old σ1 ∧ e' = .normal ∧ σ1 = (fin s e o ops.size).st := by
      rintro e' a' w' ⟨β', I', σ1, g1, rfl, rfl⟩
      refine ⟨_, I', (fin s e o ops.size).st, Rel.re (f := fN s.nx) (g := gN s.nx) (D := fun k => k < s.nx ∨ (1000000 ≤ k ∧ k < 1000000 + ops.size)) (fun k hk => gfN hle hk) (fun j hj => by have := hl.ge; unfold gN; rw [if_pos (by omega)]) g1 (fun t => ?_) (fun _ => rfl) (fun t => .inr ?_) (fun j o' hj => ?_), ?_, rfl, rfl⟩
      · show (match lk e t with | some .skip => some false | _ => none) = none ∨ den (lke (fin s e o ops.size).env t) = .undef
        rw [lke_fin]
        cases ht : lk e t with
        | none => exact .inl rfl
        | some d => cases d <;> first | exact .inl rfl | exact .inr rfl
      · show (∀ k ∈ refs (den (lkE e s.env t)), _) ∧ Wkn (rnA (fN s.nx) (den (lkE e s.env t))) (den (lke (fin s e o ops.size).env t))
        rw [lke_fin, drefs_den, ← rnD_den]
        unfold lkE
        cases ht : lk e t with
        | none =>
          refine ⟨fun q hq => .inl (hl.env t q hq), ?_⟩
          rw [rnD_id _ (fun q hq => fN_id (by omega) (hl.env t q hq))]
          exact Wkn.refl _
        | some x => exact ⟨hEn t x ht, by simp only [unsk_den]; exact Wkn.refl _⟩
      · simp only [DSt.st, Option.map_eq_some_iff] at hj
        obtain ⟨x, hx, rfl⟩ := hj
        rcases hlko j with ⟨q, y, i1, rfl, i3⟩ | ⟨i1, i2⟩
        · rw [i3, Option.map_eq_some_iff] at hx
          obtain ⟨z, rfl, rfl⟩ := hx
          obtain ⟨k1, k2⟩ := hOn _ (lk_mem i1)
          obtain ⟨r1, r2⟩ := rowsW_den (D := fun k => k < s.nx ∨ (1000000 ≤ k ∧ k < 1000000 + ops.size)) (fN s.nx) z (fun i hi => k2 z rfl i hi)
          refine ⟨q, denO z, ?_, k1, rfl, r1, r2⟩
          simp only [stOf, lkO, i1, Option.map_some]
        · rw [i1] at hx
          obtain ⟨k1, k2⟩ := hl.obj j x hx
          have hid : rnO (fN s.nx) x = x := by
            cases x with
            | lst c l => rfl
            | cells sz rows =>
              simp only [rnO]
              congr 1
              have : ∀ q ∈ rows, rnDL (fN s.nx) q = q := fun q hq => rnDL_id q fun i hi => fN_id (by omega) (k2 i (by
                simp only [orefs, List.mem_flatten, List.mem_map]
                exact ⟨_, ⟨q, hq, rfl⟩, hi⟩))
              rw [List.map_congr_left this]; simp
          obtain ⟨r1, r2⟩ := rowsW_den (D := fun k => k < s.nx ∨ (1000000 ≤ k ∧ k < 1000000 + ops.size)) (fN s.nx) x (fun i hi => .inl (k2 i hi))
          rw [hid] at r1 r2
          refine ⟨j, denO x, ?_, .inl k1, fN_id (by omega) k1, r1, r2⟩
          simp only [stOf, lkO]
          cases hlo : lk o j with
          | none => simp [hx]
          | some y => exact (i2 _ (lk_mem hlo) (fN_id (by omega) k1)).elim
      · have hL : Low (fin s e o ops.size) := by
          constructor
          · exact hle
          · have := hl.ge; show 1000 ≤ s.nx + ops.size; omega
          · intro t j hj
            rw [lke_fin] at hj
            cases ht : lk e t with
            | none => rw [ht] at hj; have := hl.env t j hj; show j < s.nx + ops.size; omega
            | some x =>
              rw [ht, unsk_refs, drefs_rn] at hj
              obtain ⟨q, hq, rfl⟩ := List.mem_map.1 hj
              exact fN_lt hle (hEn t x ht q hq)
          · intro j x hx
            rcases hlko j with ⟨q, y, g1, rfl, g3⟩ | ⟨g1, _⟩
            · rw [g3] at hx
              rw [Option.map_eq_some_iff] at hx
              obtain ⟨z, rfl, rfl⟩ := hx
              obtain ⟨k1, k2⟩ := hOn _ (lk_mem g1)
              refine ⟨fN_lt hle k1, fun i hi => ?_⟩
              rw [orefs_rn] at hi
              obtain ⟨i', hi', rfl⟩ := List.mem_map.1 hi
              exact fN_lt hle (k2 z rfl i' hi')
            · rw [g1] at hx
              obtain ⟨k1, k2⟩ := hl.obj j x hx
              refine ⟨show j < s.nx + ops.size by omega, fun i hi => ?_⟩
              have := k2 i hi
              show i < s.nx + ops.size; omega
        exact hL.old
    cases d with
    | false => exact wp_mono (region_wp hT hd ho hex hr) done
    | true =>
      refine wp_mono (region_draw_wp hT hm hd ?_ ho hex hr) done
      rw [← lexOK_congr (annF_T hnod)]
      simpa using hlex
end
end Go.Gb
