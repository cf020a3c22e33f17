/-
  The row's step out of a contract; what a table of types must say, as a program.
-/
import Derived.Test.YtgmmcfpjmkhmhaaGS
namespace Go.Gb
open Go.RowKit Go.WideShapes Go.ChangeShapes

section
variable {H : Type} {enc : TypeId × Value → H} {P : Program}
theorem post_below {f : Func} {s : ChangeSpec} {apart fresh handsOn again : Bool} {W W' : World} {args : Array Value} {v : Value} {ds gs : List (DataW H)} {before pa pv : List MemPlace}
    (hW : DataW.Whole enc P f.params.toList s.vars apart W args.toList ds gs before)
    (hres : ∀ (b : Nat) (sp : Nat → Bool) (hd : Bool), DataW.TrodAll enc P W' b sp hd f.resultTypes.toList (v.resultList f.resultTypes.size) (s.fn H (ds ++ gs)).results [])
    (hargs : ∀ sp : Nat → Bool, (∀ p ∈ before, sp p.block = true) → DataW.TrodAll enc P W' 0 sp true f.params.toList args.toList (s.fn H (ds ++ gs)).args pa)
    (hvars : ∀ sp : Nat → Bool, (∀ p ∈ before, sp p.block = true) → DataW.TrodVars enc P W' sp s.vars (s.fn H (ds ++ gs)).vars pv)
    (hps : before = pa ++ pv) (hb : Below W.heap.size W W')
    (hok : ∀ (j : Nat) (t : TypeId) (r : Value), f.resultTypes[j]? = some t → (v.resultList f.resultTypes.size)[j]? = some r → Value.okWide P W' .any 0 t r) :
    s.post enc P f apart fresh handsOn again W args v W' := by
  have hlt : ∀ p ∈ before, p.block < W.heap.size := fun p hp => hW.lt p hp
  have hold : ∀ p ∈ before, (fun b => decide (b < W.heap.size)) p.block = true := fun p hp => by simpa using hlt p hp
  refine ⟨ds, gs, before, [], pa, pv, hW, hres _ _ _, hargs _ hold, hvars _ hold, World.keptBut_mono (fun p hp => ⟨hp, ?_⟩) (hb.frame (· ∈ before)), fun _ => ?_⟩
  · rw [hps, List.mem_append] at hp
    exact Or.inr hp
  · obtain ⟨_, _, _, _, _, hz, hn⟩ := hW
    refine ⟨hok, _, _, ([] ++ pa) ++ pv, ⟨[] ++ pa, pv, trodAll_append (hargs _ (fun _ _ => rfl)) (hres _ _ _), hvars _ (fun _ _ => rfl), rfl, ?_, ?_⟩, ?_⟩
    · intro b off hp
      have hin : MemPlace.cell b off ∈ before := by rw [hps]; simpa using hp
      rw [hb.frozen (hlt _ hin)]
      exact hz b off hin
    · intro ha
      have := hn ha
      rw [hps] at this
      simpa using this
    · intro p hp _
      rw [hps]
      simpa using hp

/-- What the arguments read as, they read as behind the call. -/
theorem trodAll_below (hl : laidOutB P = true) {W W' : World} (hb : Below W.heap.size W W') : ∀ {ts : List TypeId} {vs : List Value} {ds : List (DataW H)} {ps : List MemPlace}, (∀ t ∈ ts, P.readableRec t = true ∧ t < P.types.size) →
    DataW.TrodAll enc P W 0 (fun _ => true) true ts vs ds ps → (∀ x ∈ ps, x.block < W.heap.size) → ∀ sp : Nat → Bool, (∀ p ∈ ps, sp p.block = true) → DataW.TrodAll enc P W' 0 sp true ts vs ds ps
  | [], vs, ds, ps, _, hd, _, sp, _ => by
    obtain ⟨rfl, rfl, rfl⟩ := trodAll_nil hd
    exact trodAll_mk0
  | t :: ts, vs, ds, ps, ht, hd, hlt, sp, hsp => by
    obtain ⟨v, vs', d, ds', p, q, rfl, rfl, rfl, h0, r0⟩ := trodAll_cons hd
    obtain ⟨h1, h2⟩ := ht t (by simp)
    exact trodAll_cons_mk (WideElems.Trod_stays hl h1 h2 h0 (fun x hx => hb.same (hlt x (by simp [hx]))) (fun x hx => hsp x (by simp [hx])))
      (trodAll_below hl hb (fun t ht' => ht t (by simp [ht'])) r0 (fun x hx => hlt x (by simp [hx])) sp (fun x hx => hsp x (by simp [hx])))

theorem trodAll_len {w : World} {base : Nat} {sp : Nat → Bool} {held : Bool} : ∀ {ts : List TypeId} {vs : List Value} {ds : List (DataW H)} {ps : List MemPlace}, DataW.TrodAll enc P w base sp held ts vs ds ps → ds.length = ts.length
  | [], _, _, _, h => by
    obtain ⟨_, rfl, _⟩ := trodAll_nil h
    rfl
  | _ :: _, _, _, _, h => by
    obtain ⟨_, _, _, _, _, _, _, rfl, _, _, h2⟩ := trodAll_cons h
    simp [trodAll_len h2]

/-- The row's contract out of the law's. -/
theorem row_contract {cut : List TypeId} {C : Checked} {f : FuncId} {fn : Func} {s : ChangeSpec} {ss : List VS} {tb : TypeId} (hl : laidOutB C.prog = true) (hread : (fn.params.toList.all fun t => C.prog.readableRec t && decide (t < C.prog.types.size)) = true)
    (hss : fn.params.toList.mapM (vshp C.prog cut) = some ss) (hvars : s.vars = []) (hres : fn.resultTypes = #[tb]) (hb : C.prog.underlying tb = some .bool)
    (hs : ∀ ds : List (DataW H), ds.length = fn.params.toList.length → s.fn H ds = { results := [.lit (.bool true)], args := ds })
    (hlaw : ∀ xs, FitVs ss xs → FnP C.prog f (xs.map TV.av) (.one (.d (.s (.sc (.bool true))))))
    {W : World} {base : Nat} {args : Array Value} {ds gs : List (DataW H)} {before : List MemPlace}
    (hval : ∀ (j : Nat) t v, fn.params[j]? = some t → args[j]? = some v → Value.okWide C.prog W .any base t v)
    (hW : DataW.Whole enc C.prog fn.params.toList s.vars false W args.toList ds gs before) :
    Calls C.prog f args W fun e W' => ∃ v, e = .returned v ∧ s.post enc C.prog fn false true false false W args v W' := by
  have hW' := hW
  obtain ⟨p, q, hA, hV, rfl, _, _⟩ := hW
  rw [hvars] at hV
  obtain ⟨rfl, rfl⟩ := trodVars_none hV
  obtain ⟨xs, g1, g2⟩ := read_args hss (fun j t v h1 h2 => hval j t v (by simpa using h1) (by simpa using h2)) hA
  have hlen := trodAll_len hA
  simp only [List.append_nil] at hW'
  have hlt : ∀ x ∈ p, x.block < W.heap.size := fun x hx => hW'.lt x hx
  refine ((hlaw xs g2).2 W (Here W) args (fun _ h => h) (VRl_of_TVRs _ _ g1)).mono fun e W' ⟨v, I', he, hbel, _, _, _, hr⟩ => ⟨v, he, ?_⟩
  simp only [RVR, RCR, TVR, TR] at hr
  obtain ⟨rfl, _⟩ := hr
  have hfn : s.fn H (ds ++ []) = { results := [.lit (.bool true)], args := ds } := by rw [List.append_nil]; exact hs ds hlen
  refine post_below (pa := p) (pv := []) hW' (fun b sp hd => ?_) (fun sp hsp => ?_) (fun sp _ => ?_) (by simp) hbel (ok_one (by rw [hres]) rfl (okWide_bool_mk hb _))
  · rw [hfn, hres]
    exact trodAll_mk1 (shut_bool hb _)
  · rw [hfn]
    refine trodAll_below hl hbel (fun t ht => ?_) hA hlt sp hsp
    have := List.all_eq_true.1 hread t ht
    simpa using this
  · rw [hfn, hvars]
    rfl
end

/-! ### A table of types, asked of the program -/
def kOkB : TyK → TypeDesc → Bool
  | .slice e, .slice e' => e == e'
  | .arr n e, .array n' e' => n == n' && e == e'
  | .struct fs, .struct fa => fa.toList.map (fun f => (f.offset, f.type)) == fs
  | .bool, .bool => true
  | .str, .string => true
  | .int k, .int k' => k == k'
  | .other, _ => true
  | _, _ => false

/-- One plain value against another. -/
def valEq : Value → Value → Bool
  | .int k a, .int k' b => k == k' && a == b
  | .bool a, .bool b => a == b
  | .string a, .string b => decide (a = b)
  | .slice none 0 0, .slice none 0 0 => true
  | .pointer none, .pointer none => true
  | .nilFunc, .nilFunc => true
  | .nilIface, .nilIface => true
  | .map none, .map none => true
  | _, _ => false

theorem valEq_sound {a b : Value} (h : valEq a b = true) : a = b := by
  unfold valEq at h
  split at h <;> simp_all

def valEqs : List Value → List Value → Bool
  | [], [] => true
  | a :: as, b :: bs => valEq a b && valEqs as bs
  | _, _ => false

theorem valEqs_sound : ∀ {a b : List Value}, valEqs a b = true → a = b
  | [], [], _ => rfl
  | a :: as, b :: bs, h => by simp only [valEqs, Bool.and_eq_true] at h; rw [valEq_sound h.1, valEqs_sound h.2]
  | [], _ :: _, h => by simp [valEqs] at h
  | _ :: _, [], h => by simp [valEqs] at h

def tyOkB (P : Program) (t : TypeId) (ti : TyI) : Bool :=
  match P.info? t, P.underlying t with
  | some info, some d => match info.zero with
    | some z => info.size == ti.size && info.bytes == ti.bytes && isAggD d == ti.agg && kOkB ti.k d && ti.zero.all oneCellB && ti.zero.length == ti.size &&
      (ti.cmp.isEmpty || match d with
        | .struct fa => !P.stoodInHeld t && !P.eqGuardType P.depth t && cmpFields P 0 fa.toList ti.cmp
        | _ => false) && valEqs z.cells.toList ti.zero
    | none => false
  | _, _ => false

theorem kOkB_sound {k : TyK} {d : TypeDesc} (h : kOkB k d = true) : kOk k d := by
  unfold kOkB at h
  split at h
  · simp only [beq_iff_eq] at h; subst h; rfl
  · simp only [Bool.and_eq_true, beq_iff_eq] at h; obtain ⟨rfl, rfl⟩ := h; rfl
  · rename_i fs fa
    exact ⟨fa, rfl, by simpa using h⟩
  · rfl
  · rfl
  · simp only [beq_iff_eq] at h; subst h; rfl
  · trivial
  · cases h

theorem tyOkB_sound {P : Program} {t : TypeId} {ti : TyI} (h : tyOkB P t ti = true) : TyOk P t ti := by
  unfold tyOkB at h
  split at h
  · rename_i info d h1 h2
    split at h
    · rename_i z h3
      simp only [Bool.and_eq_true, beq_iff_eq] at h
      obtain ⟨⟨⟨⟨⟨⟨⟨a1, a2⟩, a3⟩, a4⟩, a5⟩, a6⟩, a7⟩, a8⟩ := h
      refine ⟨⟨info, d, z, h1, h2, a1, a2, h3, valEqs_sound a8, a3, kOkB_sound a4⟩, a5, a6, fun hne => ?_⟩
      simp only [Bool.or_eq_true] at a7
      rcases a7 with a7 | a7
      · exact absurd (List.isEmpty_iff.1 a7) hne
      · split at a7
        · rename_i fa
          simp only [Bool.and_eq_true, Bool.not_eq_true'] at a7
          exact ⟨fa, h2, a7.1.1, a7.1.2, a7.2⟩
        · cases a7
    · cases h
  · cases h

/-- A table as a list. -/
def tabOf (l : List (TypeId × TyI)) : Tab := fun t => (l.find? fun p => p.1 == t).map (·.2)

theorem tabOk_of {P : Program} {l : List (TypeId × TyI)} (h : (l.all fun p => tyOkB P p.1 p.2) = true) : TabOk P (tabOf l) := by
  intro t ti ht
  simp only [tabOf, Option.map_eq_some_iff] at ht
  obtain ⟨p, hp, rfl⟩ := ht
  have h1 := List.find?_some hp
  simp only [beq_iff_eq] at h1
  subst h1
  exact tyOkB_sound (List.all_eq_true.1 h p (List.mem_of_find?_eq_some hp))
end Go.Gb
