/-
  A region in the abstract walk is what the model's region does, in whatever order it is carried out.
-/
import Derived.Test.YtgmmcfpjmkhmhaaGO
namespace Go.Gb
open Go.RowKit

/-- What a slot holds, if it stands; what has not been carried out leaves nothing. -/
def SlotR (P : Program) (β : Nat → Option Blk) (w : World) (I : Nat → Prop) (x : AV) (ok : Option Bool) (v : Value) : Prop :=
  match ok with
  | none => VR P β w I x v
  | some b => (b = true → VR P β w I x v) ∧ (b = false → v = undef)

theorem SlotR.mono {P : Program} {β β' : Nat → Option Blk} {w w' : World} {I I' : Nat → Prop} (hb : ∀ k B, β k = some B → β' k = some B) (hs : Same I w w') (hi : ∀ b, I b → I' b) {x : AV} {ok : Option Bool} {v : Value} (h : SlotR P β w I x ok v) : SlotR P β' w' I' x ok v := by
  cases ok with
  | none => exact VR.mono hb hs hi _ _ h
  | some b => exact ⟨fun hh => VR.mono hb hs hi _ _ (h.1 hh), h.2⟩

/-- The abstract state stands for the frame and the world. -/
structure Rel (P : Program) (w0 : World) (O0 : Was) (N : Nat) (β : Nat → Option Blk) (I : Nat → Prop) (σ : St) (a : Act) (w : World) : Prop where
  defers : a.defers = []
  size : a.tmps.size = N
  env : ∀ t, SlotR P β w I (σ.env t) (σ.ok t) (a.tmps.getD t undef)
  mem : Mem P w0 O0 β I σ.obj w

section
variable {P : Program} {T : Tab} {w0 : World} {O0 : Was} {N : Nat} {β : Nat → Option Blk} {I : Nat → Prop} {σ : St} {a : Act} {w : World} {ops : Array Oper} {ann : Nat → Ann}

/-- No new name of the region has been used but for those of operations that have been carried out. -/
def Fr (un : Nat → Prop) (β : Nat → Option Blk) : Prop := ∀ i, un i → β (nid i) = none

theorem opv_one {x : Operand} (h : ∀ t, x = .tmp t → VR P β w I (σ.env t) (a.tmps.getD t undef)) : VR P β w I (opv σ.env x) (a.eval x) := by
  cases x with
  | tmp t => exact h t rfl
  | const v => exact VR.cv
  | global g => simp [opv, VR]
  | func f => simp only [opv, VR, Act.eval]; exact ⟨#[], #[], rfl, by simp [VRl], by simp [VRl]⟩

theorem need1_sound (hr : Rel P w0 O0 N β I σ a w) {x : Operand} (h : ∀ p ∈ need1 σ.ok x, p) : VR P β w I (opv σ.env x) (a.eval x) := by
  refine opv_one fun t hx => ?_
  subst hx
  have h1 := hr.env t
  simp only [need1] at h
  cases hk : σ.ok t with
  | none => rw [hk] at h1; exact h1
  | some b => rw [hk] at h1 h; exact h1.1 (h _ (by simp))

theorem exec_sound (hT : TabOk P T) {i : Nat} {o : Oper} {orc : Orc} {rd : List Nat} {out : Out} (hr : Rel P w0 O0 N β I σ a w) (hn : β (nid i) = none) (ha : absAny P T i o orc (opv σ.env) (restr rd σ.obj) = some out)
    (hob : out.ob) (hnd : ∀ p ∈ needs σ.env σ.ok o.op, p) : Did P w0 O0 β I σ.obj w i out ((execOp a.eval o).run P w) ∨ CallDid P w0 O0 β I σ.obj w i out ((execOp a.eval o).run P w) := by
  have hg : ∀ k ob, restr rd σ.obj k = some ob → σ.obj k = some ob := fun k ob hk => by
    simp only [restr] at hk
    split at hk
    · exact hk
    · cases hk
  by_cases hp : ∃ c x y, o.op = .pick c x y
  · obtain ⟨c, x, y, he⟩ := hp
    obtain ⟨dst, op, ty, pos, after, guard⟩ := o
    simp only at he; subst he
    have ha : absOp T i ⟨dst, .pick c x y, ty, pos, after, guard⟩ orc (opv σ.env) (restr rd σ.obj) = some out := by
      unfold absAny at ha
      split at ha
      · cases ha
      · cases ha
      · exact ha
    simp only [absOp] at ha
    simp only [needs] at hnd
    split at ha
    · rename_i t hc
      rw [hc] at hnd
      simp only [pv, Option.some.injEq] at ha; subst ha
      have h1 := need1_sound hr (x := c) (fun p hp => hnd p (by simp [hp]))
      rw [hc] at h1
      simp only [VR, TR] at h1
      refine .inl ⟨if t then a.eval x else a.eval y, w, β, I, .inl ?_, Step.refl .., hr.mem, ?_⟩
      · simp only [execOp, h1.1, asBool]; simp
      · rw [pickV_eq]
        cases t
        · exact need1_sound hr fun p hp => hnd (false = false → p) (by simp only [List.mem_append, List.mem_map]; exact .inr (.inr ⟨p, hp, rfl⟩)) rfl
        · exact need1_sound hr fun p hp => hnd (true = true → p) (by simp only [List.mem_append, List.mem_map]; exact .inr (.inl ⟨p, hp, rfl⟩)) rfl
    · cases ha
  · have hnd' : ∀ x ∈ o.op.operands, ∀ p ∈ need1 σ.ok x, p := fun x hx p hp' => hnd p (by
      unfold needs
      split
      · rename_i c x y he; exact absurd ⟨c, x, y, he⟩ hp
      · exact List.mem_flatMap.2 ⟨x, by simpa using hx, hp'⟩)
    have hρ : ∀ x, VR P β w I ((fun x => open Classical in if x ∈ o.op.operands then opv σ.env x else .undef) x) (a.eval x) := fun x => by
      by_cases hx : x ∈ o.op.operands
      · simp only [hx, if_true]; exact need1_sound hr (hnd' x hx)
      · simp only [hx, if_false, VR]
    rw [absAny_congr (ρ' := fun x => open Classical in if x ∈ o.op.operands then opv σ.env x else .undef) (fun x hx => by simp only [hx, if_true])] at ha
    generalize (fun x => open Classical in if x ∈ o.op.operands then opv σ.env x else AV.undef) = ρ at ha hρ
    unfold absAny at ha
    split at ha
    · exact .inl (absExtA_sound hT hr.mem hn hg hρ ha hob)
    · exact .inl (absFrz_sound hT hr.mem hn hg hρ ha hob)
    · split at ha
      · rename_i f args tys heq
        obtain ⟨dst, op, ty, pos, after, guard⟩ := o
        simp only at heq; subst heq
        exact .inr (absCallX_sound hr.mem hn hg ha hob (hρ f) (by rw [Array.toList_map]; exact VRl.map hρ _) rfl rfl)
      · exact .inl (absOp_sound hT hr.mem hn hg hρ ha hob)

theorem wanted_of (hr : Rel P w0 O0 N β I σ a w) {o : Oper} {b : Bool} (hb : want ops o σ.env σ.ok = some b) : Region.wanted o (yielded ops a.tmps) = b := by
  unfold want at hb
  unfold Region.wanted
  cases hg : o.guard with
  | none => simp only [hg, Option.some.injEq] at hb ⊢; exact hb
  | some gw =>
    obtain ⟨g, bw⟩ := gw
    simp only [hg] at hb ⊢
    unfold yielded
    cases ht : (ops[g]?).bind (·.dst) with
    | none => simp [ht] at hb
    | some t =>
      simp only [ht] at hb
      have he := hr.env t
      have val : ∀ v : Bool, a.tmps.getD t undef = .bool v → a.tmps[t]? = some (.bool v) := fun v hv => by
        cases hh : a.tmps[t]? with
        | none => simp [hh, undef] at hv
        | some u => simp [hh] at hv; rw [hv]
      split at hb
      · rename_i v e1 e2
        rw [e1, e2] at he
        simp only [SlotR, VR, TR] at he
        injection hb with hb; subst hb
        simp only [Option.bind_some, val v he.1]
        cases v <;> cases bw <;> rfl
      · rename_i v q e1 e2
        rw [e1, e2] at he
        simp only [SlotR, VR, TR] at he
        injection hb with hb; subst hb
        cases q with
        | true =>
          simp only [Option.bind_some, val v (he.1 rfl).1]
          cases v <;> cases bw <;> rfl
        | false =>
          have h0 := he.2 rfl
          simp only [Option.bind_some]
          cases hh : a.tmps[t]? with
          | none => simp
          | some u => simp [hh, undef] at h0; subst h0; simp
      · rename_i e1 e2
        rw [e1, e2] at he
        injection hb with hb; subst hb
        have h0 := he.2 rfl
        simp only [Option.bind_some]
        cases hh : a.tmps[t]? with
        | none => simp
        | some u => simp [hh, undef] at h0; subst h0; simp
      · cases hb

theorem AllP_mem : ∀ (l : List Prop), AllP l → ∀ p ∈ l, p
  | [], _, _, hp => by simp at hp
  | [q], h, p, hp => by rw [List.mem_singleton] at hp; rw [hp]; exact h
  | q :: r :: l, h, p, hp => by
    rcases List.mem_cons.1 hp with e | hp
    · rw [e]; exact h.1
    · exact AllP_mem (r :: l) h.2 p hp

theorem wpOp_of_eOp (hT : TabOk P T) {i : Nat} {K : St → Prop} {Q : Exit → Act → World → Prop} {K' : Act → World → Prop} {un : Nat → Prop} (hd : ∀ (j : Nat) (o : Oper) (d : Tmp), ops[j]? = some o → o.dst = some d → d < N)
    (hr : Rel P w0 O0 N β I σ a w) (hf : Fr un β) (hi : un i)
    (hK : ∀ σ' a' w' β' I', Rel P w0 O0 N β' I' σ' a' w' → Fr (fun j => un j ∧ j ≠ i) β' → K σ' → K' a' w') (h : eOp P T ops ann i K σ) : wpOp P ops Q i K' a w := by
  obtain ⟨o, ⟨out, okb⟩, h1, h2, h3, h4⟩ := h
  have put : ∀ (v' : Value) (w' : World) (β' : Nat → Option Blk) (I' : Nat → Prop), Step β I w (nid i) β' I' w' → Mem P w0 O0 β' I' (updo σ.obj out.upd) w' → SlotR P β' w' I' out.v okb v' → K' (a.put o.dst v') w' := by
    intro v' w' β' I' k1 k2 k3
    refine hK (σ.app o.dst (out, okb)) _ w' β' I' ⟨?_, ?_, ?_, k2⟩ ?_ h4
    · cases hdst : o.dst <;> simp [Act.put, hr.defers]
    · cases hdst : o.dst <;> simp [Act.put, hr.size]
    · intro t
      have hold := SlotR.mono k1.ext k1.same k1.inc (hr.env t)
      simp only [St.app, setE]
      cases hdst : o.dst with
      | none => simpa [Act.put] using hold
      | some d =>
        simp only [Act.put, Option.some.injEq]
        by_cases hdt : d = t
        · subst hdt
          rw [if_pos rfl, if_pos rfl]
          have hlt : d < a.tmps.size := Nat.lt_of_lt_of_eq (hd i o d h1 hdst) hr.size.symm
          have e : (a.tmps.setIfInBounds d v').getD d undef = v' := by simp [hlt]
          rw [e]
          exact k3
        · rw [if_neg hdt, if_neg hdt]
          simpa [Array.getElem?_setIfInBounds_ne hdt] using hold
    · intro j hj
      rw [k1.other (nid j) (by simp only [nid]; have := hj.2; omega)]
      exact hf j hj.1
  unfold opAt at h2
  simp only [h1, Option.bind_some] at h2
  unfold wpOp
  simp only [h1]
  have hn := hf i hi
  cases hw : want ops o σ.env σ.ok with
  | none => simp [hw] at h2
  | some g =>
    simp only [hw, Option.bind_some] at h2
    rw [wanted_of hr hw]
    have run : ∀ (out' : Out), absAny P T i o (ann i).orc (opv σ.env) (restr (ann i).rd σ.obj) = some out' → (∀ p ∈ needs σ.env σ.ok o.op ++ out'.obs, p) → out'.v = out.v → (out'.upd = out.upd) → (∀ β' w' I' v', VR P β' w' I' out.v v' → SlotR P β' w' I' out.v okb v') →
        o.wp P a w K' Q := by
      intro out' ha hob e1 e2 hslot
      have hDid := exec_sound hT hr hn ha (AllP_of _ fun p hp => hob p (by simp [hp])) (fun p hp => hob p (by simp [hp]))
      unfold Oper.wp
      rcases hDid with ⟨v', w', β', I', hrun, k1, k2, k3⟩ | ⟨F, args, hrun, hcal⟩
      · rw [e1] at k3
        rw [e2] at k2
        rcases hrun with hrun | ⟨hrun, rfl⟩
        · rw [hrun]; exact put v' w' β' I' k1 k2 (hslot _ _ _ _ k3)
        · rw [hrun]; exact put _ w' β' I' k1 k2 (hslot _ _ _ _ k3)
      · rw [hrun]
        refine hcal.mono ?_
        rintro e w' ⟨v', β', I', rfl, k1, k2, k3⟩
        rw [e1] at k3
        rw [e2] at k2
        exact put v' w' β' I' k1 k2 (hslot _ _ _ _ k3)
    split at h2
    · cases ha : absAny P T i o (ann i).orc (opv σ.env) (restr (ann i).rd σ.obj) with
      | none => simp [ha] at h2
      | some out' =>
        simp only [ha, Option.bind_some] at h2
        split at h2
        · rename_i hem
          simp only [Option.some.injEq, Prod.mk.injEq] at h2
          obtain ⟨rfl, rfl⟩ := h2
          have hem' : out'.upd = [] := by simpa using hem
          have h3 := AllP_mem _ h3
          cases g with
          | true =>
            simp only [if_true]
            refine .inl (run out' ha (fun p hp => h3 (true = true → p) (List.mem_map.2 ⟨p, hp, rfl⟩) rfl) rfl hem' fun _ _ _ _ hv => ⟨fun _ => hv, fun h => by cases h⟩)
          | false =>
            simp only [Bool.false_eq_true, if_false]
            exact put _ w β I (Step.refl ..) hr.mem ⟨fun h => (by cases h), fun _ => rfl⟩
        · cases h2
    · split at h2
      · cases ha : absAny P T i o (ann i).orc (opv σ.env) (restr (ann i).rd σ.obj) with
        | none => simp [ha] at h2
        | some out' =>
          simp only [ha, Option.bind_some] at h2
          split at h2
          · simp only [Option.some.injEq, Prod.mk.injEq] at h2
            obtain ⟨rfl, rfl⟩ := h2
            simp only [if_true]
            exact .inl (run out' ha (AllP_mem _ h3) rfl rfl fun _ _ _ _ hv => hv)
          · cases h2
      · simp only [Option.some.injEq, Prod.mk.injEq] at h2
        obtain ⟨rfl, rfl⟩ := h2
        simp only [Bool.false_eq_true, if_false]
        exact put _ w β I (Step.refl ..) hr.mem ⟨fun h => (by cases h), fun _ => rfl⟩

theorem wpAny_of_eAny (hT : TabOk P T) {md : Region.Mode} {Q : St → Prop} {Q' : Exit → Act → World → Prop} (hd : ∀ (j : Nat) (o : Oper) (d : Tmp), ops[j]? = some o → o.dst = some d → d < N)
    (hQ : ∀ σ a w β I, Rel P w0 O0 N β I σ a w → Q σ → Q' .normal a w) : ∀ (fuel : Nat) (listed : Array Bool) (σ : St) (a : Act) (w : World) (β : Nat → Option Blk) (I : Nat → Prop), Rel P w0 O0 N β I σ a w →
      Fr (fun j => listed.getD j true = false) β → eAny P T ops ann md Q fuel listed σ → wpAny P md ops Q' fuel listed a w
  | 0, _, _, _, _, _, _, hr, _, h => ⟨h.1, hQ _ _ _ _ _ hr h.2⟩
  | fuel + 1, listed, σ, a, w, β, I, hr, hf, h => by
    refine ⟨fun h0 => hQ _ _ _ _ _ hr (h.1 h0), fun i hi => ?_⟩
    have hun : listed.getD i true = false := (mem_ready.1 hi).1
    refine wpOp_of_eOp hT hd hr hf hun (fun σ' a' w' β' I' hr' hf' hK => ?_) (h.2 i hi)
    refine wpAny_of_eAny hT hd hQ fuel _ σ' a' w' β' I' hr' (fun j hj => hf' j ?_) hK
    have hj : (listed.setIfInBounds i true).getD j true = false := hj
    by_cases hji : i = j
    · subst hji
      rcases Nat.lt_or_ge i listed.size with h1 | h1
      · simp [h1] at hj
      · simp [Array.getElem?_eq_none h1] at hun
    · rw [getD_set_ne true hji] at hj
      exact ⟨hj, fun e => hji e.symm⟩

theorem wpOps_of_eLex (hT : TabOk P T) {Q : St → Prop} {Q' : Exit → Act → World → Prop} (hd : ∀ (j : Nat) (o : Oper) (d : Tmp), ops[j]? = some o → o.dst = some d → d < N)
    (hQ : ∀ σ a w β I, Rel P w0 O0 N β I σ a w → Q σ → Q' .normal a w) : ∀ (l : List Nat) (σ : St) (a : Act) (w : World) (β : Nat → Option Blk) (I : Nat → Prop), l.Nodup → Rel P w0 O0 N β I σ a w →
      Fr (fun j => j ∈ l) β → eLex P T ops ann Q l σ → wpOps P ops Q' l a w
  | [], _, _, _, _, _, _, hr, _, h => hQ _ _ _ _ _ hr h
  | i :: l, σ, a, w, β, I, hn, hr, hf, h => by
    rw [wpOps_cons]
    refine wpOp_of_eOp hT hd hr hf (by simp) (fun σ' a' w' β' I' hr' hf' hK => ?_) h
    refine wpOps_of_eLex hT hd hQ l σ' a' w' β' I' (List.nodup_cons.1 hn).2 hr' (fun j hj => hf' j ⟨by simp [hj], fun e => ?_⟩) hK
    subst e
    exact (List.nodup_cons.1 hn).1 hj

def dstsOk (N : Nat) (ops : Array Oper) : Bool := ops.all fun o => match o.dst with | some d => decide (d < N) | none => true

theorem dstsOk_spec (h : dstsOk N ops = true) (j : Nat) (o : Oper) (d : Tmp) (hj : ops[j]? = some o) (hd : o.dst = some d) : d < N := by
  have := Array.all_eq_true_iff_forall_mem.1 h o (Array.mem_of_getElem? hj)
  simpa [hd] using this

/-- The state names no object of the region's own. -/
structure Old (σ : St) : Prop where
  env : ∀ t k, k ∈ refs (σ.env t) → k < 1000000
  obj : ∀ k o, σ.obj k = some o → k < 1000000 ∧ ∀ r ∈ o.rows, ∀ x ∈ r, ∀ j ∈ refs x, j < 1000000

mutual
theorem VR.restrict {β' : Nat → Option Blk} (h : ∀ k, k < 1000000 → β' k = β k) : ∀ (x : AV) (v : Value), (∀ k ∈ refs x, k < 1000000) → VR P β w I x v → VR P β' w I x v
  | .t _, _, _, hv => by simpa [VR] using hv
  | .agg cs, _, hk, hv => by
    simp only [VR] at hv ⊢
    obtain ⟨vs, h1, h2⟩ := hv
    exact ⟨vs, h1, VRl.restrict h cs _ (by simpa [refs] using hk) h2⟩
  | .tup cs, _, hk, hv => by
    simp only [VR] at hv ⊢
    obtain ⟨vs, h1, h2⟩ := hv
    exact ⟨vs, h1, VRl.restrict h cs _ (by simpa [refs] using hk) h2⟩
  | .own k _ _, _, hk, hv => by simp only [VR, h k (hk k (by simp [refs]))] at hv ⊢; exact hv
  | .ptr k _ _, _, hk, hv => by simp only [VR, h k (hk k (by simp [refs]))] at hv ⊢; exact hv
  | .rptr _ _, _, _, hv => by simpa [VR] using hv
  | .fn f first caps, _, hk, hv => by
    simp only [VR] at hv ⊢
    obtain ⟨fs, cs, h1, h2, h3⟩ := hv
    exact ⟨fs, cs, h1, VRl.restrict h first _ (fun k hk' => hk k (by simp [refs, hk'])) h2, VRl.restrict h caps _ (fun k hk' => hk k (by simp [refs, hk'])) h3⟩
  | .clo _, _, _, hv => by simpa [VR] using hv
  | .nilsl, _, _, hv => by simpa [VR] using hv
  | .ub, _, _, hv => by simpa [VR] using hv
  | .undef, _, _, _ => by simp [VR]
theorem VRl.restrict {β' : Nat → Option Blk} (h : ∀ k, k < 1000000 → β' k = β k) : ∀ (xs : List AV) (vs : List Value), (∀ k ∈ refsL xs, k < 1000000) → VRl P β w I xs vs → VRl P β' w I xs vs
  | [], [], _, _ => by simp [VRl]
  | x :: xs, v :: vs, hk, hv => by
    simp only [VRl] at hv ⊢
    exact ⟨VR.restrict h x v (fun k hk' => hk k (by simp [refsL, hk'])) hv.1, VRl.restrict h xs vs (fun k hk' => hk k (by simp [refsL, hk'])) hv.2⟩
  | [], _ :: _, _, hv => by simp [VRl] at hv
  | _ :: _, [], _, hv => by simp [VRl] at hv
end

theorem Rel.restrict (ho : Old σ) (hr : Rel P w0 O0 N β I σ a w) : Rel P w0 O0 N (fun k => if k < 1000000 then β k else none) I σ a w := by
  have hb : ∀ k, k < 1000000 → (fun k => if k < 1000000 then β k else none) k = β k := fun k hk => by simp [hk]
  have hslot : ∀ t, SlotR P (fun k => if k < 1000000 then β k else none) w I (σ.env t) (σ.ok t) (a.tmps.getD t undef) := fun t => by
    have h1 := hr.env t
    cases hk : σ.ok t with
    | none => rw [hk] at h1; exact VR.restrict hb _ _ (ho.env t) h1
    | some b => rw [hk] at h1; exact ⟨fun h => VR.restrict hb _ _ (ho.env t) (h1.1 h), h1.2⟩
  refine ⟨hr.defers, hr.size, hslot, ?_⟩
  have hm := hr.mem
  constructor
  · intro k o hk
    obtain ⟨B, hB, hO⟩ := hm.objs k o hk
    obtain ⟨h1, h2⟩ := ho.obj k o hk
    refine ⟨B, by simp only [h1, if_true]; exact hB, ?_⟩
    cases B with
    | none => exact hO
    | «at» b s n =>
      obtain ⟨g1, c, e, g2, g3, g4⟩ := hO
      refine ⟨g1, c, e, g2, g3, ?_⟩
      rw [ORows_iff] at g4 ⊢
      intro i r hir
      obtain ⟨q1, q2⟩ := g4 i r hir
      refine ⟨q1, ?_⟩
      rw [ORow_iff] at q2 ⊢
      intro j x hx
      obtain ⟨v, p1, p2, p3⟩ := q2 j x hx
      exact ⟨v, p1, VR.restrict hb _ _ (h2 r (List.mem_of_getElem? hir) x (List.mem_of_getElem? hx)) p2, p3⟩
  · intro k k' o o' b s n s' n' h1 h2 h3 h4
    simp only [(ho.obj k o h1).1, (ho.obj k' o' h2).1, if_true] at h3 h4
    exact hm.inj k k' o o' b s n s' n' h1 h2 h3 h4
  · intro k o b s n h1 h2
    simp only [(ho.obj k o h1).1, if_true] at h2
    exact hm.own k o b s n h1 h2
  · exact hm.lt
  · exact hm.up
  · exact hm.keep
  · exact hm.le
  · exact hm.os
  · exact hm.tape
  · exact hm.output
  · intro j B hj
    have := O0.lt j B hj
    show (if j < 1000000 then β j else none) = some B
    rw [if_pos (by omega)]; exact hm.anch j B hj

theorem Rel.drew (hr : Rel P w0 O0 N β I σ a w) : Rel P w0 O0 N β I σ a w.drew :=
  ⟨hr.defers, hr.size, fun t => SlotR.mono (w := w) (w' := w.drew) (fun _ _ h => h) (fun _ _ => rfl) (fun _ h => h) (hr.env t), hr.mem.drew⟩

theorem region_wp (hT : TabOk P T) {id : Nat} {Q : St → Prop} (hd : dstsOk N ops = true) (ho : Old σ) (h : eLex P T ops ann Q (List.range ops.size) σ) (hr : Rel P w0 O0 N β I σ a w) :
    (Code.region id ops false).wp P (fun e a' w' => ∃ β' I' σ', Rel P w0 O0 N β' I' σ' a' w' ∧ e = .normal ∧ Q σ') a w := by
  refine wp_region (wpOps_of_eLex hT (dstsOk_spec hd) (Q := Q) (fun σ a w β I hr hq => ⟨β, I, σ, hr, rfl, hq⟩) _ σ a w _ I List.nodup_range (hr.restrict ho) (fun j _ => ?_) h)
  exact if_neg (by simp only [nid]; omega)

theorem region_draw_wp (hT : TabOk P T) (hm : P.follows .mixedOrders = true) {id : Nat} {Q : St → Prop} (hd : dstsOk N ops = true) (hB : lexOK ops ann = true) (ho : Old σ) (h : eLex P T ops ann Q (List.range ops.size) σ) (hr : Rel P w0 O0 N β I σ a w) :
    (Code.region id ops true).wp P (fun e a' w' => ∃ β' I' σ', Rel P w0 O0 N β' I' σ' a' w' ∧ e = .normal ∧ Q σ') a w := by
  refine wp_region_any hm (wpAny_of_eAny hT (md := .any) (ann := ann) (dstsOk_spec hd) (Q := Q) (fun σ a w β I hr hq => ⟨β, I, σ, hr, rfl, hq⟩) _ _ σ a _ _ I (hr.restrict ho).drew (fun j _ => ?_) ?_)
  · exact if_neg (by simp only [nid]; omega)
  · refine eAny_lex ops.size 0 _ σ hB ?_
    have e : (List.range ops.size).map (fun x => 0 + x) = List.range ops.size := by simp
    rw [e]
    exact h
end
end Go.Gb
