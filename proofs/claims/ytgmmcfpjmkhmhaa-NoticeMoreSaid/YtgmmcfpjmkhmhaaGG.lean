/-
  Each operation of the abstract walk is what the model's operation does: arithmetic, tests, parts of slices, append.
-/
import Derived.Test.YtgmmcfpjmkhmhaaGF
namespace Go.Gb
open Go.RowKit

section
variable {P : Program} {T : Tab} {w0 : World} {O0 : Was} {β : Nat → Option Blk} {I : Nat → Prop} {obj : Nat → Option AObj} {w : World} {i : Nat}

theorem aArith_sound {op : BinOp} {t : TypeId} {k yk : IntKind} {a b : Int} {v : Value} {ob : List Prop} (hk : k = yk ∨ op = .shl ∨ op = .shr) (h : aArith op k a b = some (v, ob)) (hob : AllP ob) :
    (binOp op t (.int k a) (.int yk b)).run P w = .ok v w ∧ oneCell v := by
  cases op <;> simp only [aArith, Option.some.injEq, Prod.mk.injEq] at h <;> obtain ⟨rfl, rfl⟩ := h
  case shl => exact ⟨by rw [binOp_shl, shift_shl k yk a b hob.1 hob.2]; simp, trivial⟩
  case shr => exact ⟨by rw [binOp_shr, shift_shr k yk a b hob.1 hob.2]; simp, trivial⟩
  all_goals
    have hk' : k = yk := by rcases hk with h | h | h <;> first | exact h | cases h
    subst hk'
  case add => exact ⟨by simp [binOp_add, Op.intArith], trivial⟩
  case sub => exact ⟨by simp [binOp_sub, Op.intArith], trivial⟩
  case mul => exact ⟨by simp [binOp_mul, Op.intArith], trivial⟩
  case quo => exact ⟨by have h0 : b ≠ 0 := hob; rw [binOp_quo]; simp [Op.intDiv, h0], trivial⟩
  case rem => exact ⟨by have h0 : b ≠ 0 := hob; rw [binOp_rem]; simp [Op.intDiv, h0], trivial⟩
  case and => exact ⟨by rw [binOp_and, intBits_and]; simp, trivial⟩
  case or => exact ⟨by rw [binOp_or, intBits_or]; simp, trivial⟩
  case xor => exact ⟨by rw [binOp_xor, intBits_xor]; simp, trivial⟩
  case andNot => exact ⟨by rw [binOp_andNot, intBits_andNot]; simp, trivial⟩
  case eql => exact ⟨by rw [binOp_eql]; simp, trivial⟩
  case neq => exact ⟨by rw [binOp_neq]; simp, trivial⟩
  case lss => exact ⟨by rw [binOp_lss]; simp, trivial⟩
  case leq => exact ⟨by rw [binOp_leq]; simp, trivial⟩
  case gtr => exact ⟨by rw [binOp_gtr]; simp, trivial⟩
  case geq => exact ⟨by rw [binOp_geq]; simp, trivial⟩

theorem cellEq_sound {f : Field} {kd : Nat} {x y : AV} {b : Bool} {u v : Value} (hf : cmpField P f kd = true) (h : cellEq kd x y = some b) (hx : VR P β w I x u) (hy : VR P β w I y v) (d : Nat) :
    (Op.equalIn (d + 1) f.type u v).run P w = .ok b w ∧ f.name ≠ "_" ∧ (isAgg f.type).run P w = .ok false w := by
  unfold cmpField at hf
  simp only [Bool.and_eq_true, bne_iff_ne, ne_eq] at hf
  obtain ⟨hname, hf⟩ := hf
  unfold cellEq at h
  split at h
  · split at h
    · rename_i hk
      subst hk
      injection h with h; subst h
      simp only [VR, TR] at hx hy
      obtain ⟨rfl, _⟩ := hx
      obtain ⟨rfl, _⟩ := hy
      split at hf <;> first | (rename_i hu; exact ⟨run_equalIn_int w d _ _ _ _ _ hu, hname, by simp [isAgg, run_underlying hu]⟩) | (simp at hf)
    · cases h
  · injection h with h; subst h
    simp only [VR, TR] at hx hy
    obtain ⟨rfl, _⟩ := hx
    obtain ⟨rfl, _⟩ := hy
    split at hf <;> first | (rename_i hu; exact ⟨run_equalIn_bool w d _ _ _ hu, hname, by simp [isAgg, run_underlying hu]⟩) | (simp at hf)
  · injection h with h; subst h
    simp only [VR, TR] at hx hy
    obtain ⟨rfl, _⟩ := hx
    obtain ⟨rfl, _⟩ := hy
    split at hf <;> first | (rename_i hu; exact ⟨run_equalIn_string w d _ _ _ hu, hname, by simp [isAgg, run_underlying hu]⟩) | (simp at hf)
  · cases h

theorem cellsEq_sound (d : Nat) (us vs : List Value) : ∀ (fs : List Field) (ks : List Nat) (n : Nat) (xs ys : List AV) (b : Bool), cmpFields P n fs ks = true → cellsEq ks xs ys = some b →
    VRl P β w I xs (us.drop n) → VRl P β w I ys (vs.drop n) → (Op.eqFields (d + 1) us.toArray vs.toArray fs).run P w = .ok b w
  | [], [], n, xs, ys, b, _, h, _, _ => by
    cases xs <;> cases ys <;> simp [cellsEq] at h
    subst h
    simp [Op.eqFields]
  | f :: fs, k :: ks, n, xs, ys, b, hc, h, hx, hy => by
    cases xs <;> cases ys <;> simp only [cellsEq, reduceCtorEq] at h
    rename_i x xs y ys
    simp only [cmpFields, Bool.and_eq_true, beq_iff_eq] at hc
    obtain ⟨⟨hoff, hcf⟩, hrest⟩ := hc
    cases h1 : cellEq k x y with
    | none => simp [h1] at h
    | some a =>
      cases h2 : cellsEq ks xs ys with
      | none => simp [h1, h2] at h
      | some c =>
        simp only [h1, h2, Option.bind_some, Option.some.injEq] at h
        subst h
        have lt_of : ∀ (us : List Value) (xs : List AV) (x : AV), VRl P β w I (x :: xs) (us.drop n) → ∃ u, us[n]? = some u ∧ VR P β w I x u ∧ VRl P β w I xs (us.drop (n + 1)) := by
          intro us xs x hx
          have hlt : n < us.length := by
            have := VRl.length _ _ hx
            simp at this; omega
          rw [List.drop_eq_getElem_cons hlt] at hx
          simp only [VRl] at hx
          exact ⟨us[n], List.getElem?_eq_getElem hlt, hx.1, hx.2⟩
        obtain ⟨u, hu, hxu, hxs⟩ := lt_of us xs x hx
        obtain ⟨v, hv, hyv, hys⟩ := lt_of vs ys y hy
        obtain ⟨e1, e2, e3⟩ := cellEq_sound hcf h1 hxu hyv d
        have ih := cellsEq_sound d us vs fs ks (n + 1) xs ys c hrest h2 hxs hys
        have hp : ∀ (zs : List Value) (z : Value), zs[n]? = some z → (Go.part f.type zs.toArray f.offset).run P w = .ok z w := by
          intro zs z hz
          simp [Go.part, e3, hoff, hz]
        simp only [Op.eqFields, e2, ne_eq, not_false_eq_true, if_true, Sem.run_bind, hp us u hu, hp vs v hv, Result.andThen_ok, e1, Sem.run_ite, Sem.run_pure, ih]
        cases a <;> simp
  | [], _ :: _, _, _, _, _, hc, _, _, _ => by simp [cmpFields] at hc
  | _ :: _, [], _, _, _, _, hc, _, _, _ => by simp [cmpFields] at hc

theorem aBin_sound (hT : TabOk P T) {op : BinOp} {t : TypeId} {x y : AV} {xo yo : Operand} {u v : Value} {out : Out} (ha : aBin T op t x y = some out) (hob : out.ob) (hx : VR P β w I x u) (hy : VR P β w I y v) :
    ∃ z, (do eqGuard op t xo yo u v; binOp op t u v : Sem Value).run P w = .ok z w ∧ VR P β w I out.v z ∧ out.upd = [] := by
  unfold aBin at ha
  split at ha
  · rename_i k a yk b
    simp only [VR, TR] at hx hy
    obtain ⟨rfl, _⟩ := hx
    obtain ⟨rfl, _⟩ := hy
    split at ha
    · rename_i hk
      cases har : aArith op k a b with
      | none => simp [har] at ha
      | some p =>
        obtain ⟨z, ob⟩ := p
        simp only [har, Option.bind_some, Option.some.injEq] at ha
        subst ha
        obtain ⟨h1, h2⟩ := aArith_sound (P := P) (w := w) (t := t) hk har hob
        exact ⟨z, by simp [eqGuard_at_int, h1], by simp only [VR, TR]; exact ⟨trivial, h2⟩, rfl⟩
    · cases ha
  · rename_i a b
    simp only [VR, TR] at hx hy
    obtain ⟨rfl, _⟩ := hx
    obtain ⟨rfl, _⟩ := hy
    cases op <;> simp only [pv, Option.some.injEq, reduceCtorEq] at ha <;> subst ha
    · exact ⟨.bool (a.toList == b.toList), by simp [eqGuard_at_string, binOp, Op.stringOp], by simp only [VR, TR]; exact ⟨trivial, trivial⟩, rfl⟩
    · exact ⟨.bool (!(a.toList == b.toList)), by simp [eqGuard_at_string, binOp, Op.stringOp], by simp only [VR, TR]; exact ⟨trivial, trivial⟩, rfl⟩
  · rename_i a b
    simp only [VR, TR] at hx hy
    obtain ⟨rfl, _⟩ := hx
    obtain ⟨rfl, _⟩ := hy
    cases hti : T t with
    | none => simp [hti] at ha
    | some ti =>
      have ht := hT t ti hti
      simp only [hti, Option.bind_some] at ha
      have hund : ti.k = .bool → P.underlying t = some .bool := fun hk => by
        obtain ⟨info, d, z, h1, h2, h3, h4, h5, h6, h7, h8⟩ := ht.ex
        rw [hk] at h8; rw [h2, h8]
      split at ha
      · rename_i hk
        simp only [pv, Option.some.injEq] at ha
        subst ha
        exact ⟨.bool (a == b), by simp [eqGuard_at_bool, binOp, run_equal_bool w t a b (hund hk)], by simp only [VR, TR]; exact ⟨trivial, trivial⟩, rfl⟩
      · rename_i hk
        simp only [pv, Option.some.injEq] at ha
        subst ha
        exact ⟨.bool (!(a == b)), by simp [eqGuard_at_bool, binOp, run_equal_bool w t a b (hund hk)], by simp only [VR, TR]; exact ⟨trivial, trivial⟩, rfl⟩
      · cases ha
  · rename_i xs ys
    simp only [VR] at hx hy
    obtain ⟨us, rfl, hus⟩ := hx
    obtain ⟨vs, rfl, hvs⟩ := hy
    cases hti : T t with
    | none => simp [hti] at ha
    | some ti =>
      have ht := hT t ti hti
      simp only [hti, Option.bind_some] at ha
      split at ha
      · cases ha
      · rename_i hne
        obtain ⟨fa, h1, h2, h3, h4⟩ := ht.cmp hne
        cases hc : cellsEq ti.cmp xs ys with
        | none => simp [hc] at ha
        | some b =>
          simp only [hc, Option.bind_some] at ha
          have hfo : P.fieldsOf t = fa := by simp [Program.fieldsOf, h1]
          have heq : (Op.equalIn 10000 t (.agg us) (.agg vs)).run P w = .ok b w := by
            rw [run_equalIn_struct w 9999 t us vs (by rw [hfo]; exact h1) h2, hfo]
            have := cellsEq_sound (P := P) (w := w) 9998 us.toList vs.toList fa.toList ti.cmp 0 xs ys b h4 hc (by simpa using hus) (by simpa using hvs)
            simpa using this
          have hgd : ∀ op, (eqGuard op t xo yo (.agg us) (.agg vs)).run P w = .ok () w := fun op => run_eqGuard_agg w op t xo yo us vs h3
          cases op <;> simp only [pv, Option.some.injEq, reduceCtorEq] at ha <;> subst ha
          · exact ⟨.bool b, by simp [hgd, run_eql_struct, heq], by simp only [VR, TR]; exact ⟨trivial, trivial⟩, rfl⟩
          · exact ⟨.bool (!b), by simp [hgd, run_neq_struct, heq], by simp only [VR, TR]; exact ⟨trivial, trivial⟩, rfl⟩
  · cases ha

theorem aUn_sound {op : UnOp} {x : AV} {v : Value} {out : Out} (ha : aUn op x = some out) (hx : VR P β w I x v) : ∃ z, (Op.unary op v).run P w = .ok z w ∧ VR P β w I out.v z ∧ out.upd = [] := by
  unfold aUn at ha
  split at ha
  · simp only [pv, Option.some.injEq] at ha
    subst ha
    simp only [VR, TR] at hx
    obtain ⟨rfl, _⟩ := hx
    exact ⟨_, by simp [Op.unary]; rfl, by simp only [VR, TR]; exact ⟨trivial, trivial⟩, rfl⟩
  · simp only [pv, Option.some.injEq] at ha
    subst ha
    simp only [VR, TR] at hx
    obtain ⟨rfl, _⟩ := hx
    exact ⟨_, by simp only [Op.unary, Op.intArith]; rfl, by simp only [VR, TR]; exact ⟨trivial, trivial⟩, rfl⟩
  · cases ha

theorem foldMm_sound (mx : Bool) (k : IntKind) : ∀ (r : List AV) (vs : List Value) (a n : Int), foldMm mx k a r = some n → VRl P β w I r vs →
    (vs.foldlM (if mx then Builtin.max2 else Builtin.min2) (.int k a)).run P w = .ok (.int k n) w
  | [], [], a, n, h, _ => by simp only [foldMm, Option.some.injEq] at h; subst h; simp
  | x :: r, v :: vs, a, n, h, hv => by
    simp only [VRl] at hv
    have hx : ∃ k' b, x = .t (.sc (.int k' b)) := by
      unfold foldMm at h
      split at h
      · cases ‹_ :: _ = _›
      · rename_i heq
        injection heq with h1 h2
        exact ⟨_, _, h1⟩
      · cases h
    obtain ⟨k', b, rfl⟩ := hx
    simp only [foldMm] at h
    split at h
    · rename_i hk
      subst hk
      simp only [VR, TR] at hv
      obtain ⟨⟨rfl, _⟩, hv⟩ := hv
      have ih := foldMm_sound mx k' r vs _ n h hv
      cases mx
      · simp only [Bool.false_eq_true, if_false] at ih ⊢
        simp only [List.foldlM_cons, Builtin.min2, Sem.run_bind, Sem.run_pure, Result.andThen_ok]
        rw [show (if b < a then b else a) = min a b by rw [Int.min_def]; split <;> split <;> omega]
        exact ih
      · simp only [if_true] at ih ⊢
        simp only [List.foldlM_cons, Builtin.max2, Sem.run_bind, Sem.run_pure, Result.andThen_ok]
        rw [show (if b > a then b else a) = max a b by rw [Int.max_def]; split <;> split <;> omega]
        exact ih
    · cases h
  | [], _ :: _, _, _, _, hv => by simp [VRl] at hv
  | _ :: _, [], _, _, _, hv => by simp [VRl] at hv

theorem aMm_sound {mx : Bool} {args : List AV} {vs : Array Value} {tys : Array TypeId} {ty : TypeId} {out : Out} (ha : aMm mx args = some out) (hx : VRl P β w I args vs.toList) :
    ∃ z, ((if mx then Builtin.max_ else Builtin.min_) tys ty vs).run P w = .ok z w ∧ VR P β w I out.v z ∧ out.upd = [] := by
  unfold aMm at ha
  split at ha
  · rename_i k a r
    cases hf : foldMm mx k a r with
    | none => simp [hf] at ha
    | some n =>
      simp only [hf, Option.bind_some, pv, Option.some.injEq] at ha
      subst ha
      cases hvs : vs.toList with
      | nil => rw [hvs] at hx; simp [VRl] at hx
      | cons v vs' =>
        rw [hvs] at hx
        simp only [VRl, VR, TR] at hx
        obtain ⟨⟨rfl, _⟩, hr⟩ := hx
        have := foldMm_sound (P := P) mx k r vs' a n hf hr
        refine ⟨.int k n, ?_, by simp only [VR, TR]; exact ⟨trivial, trivial⟩, rfl⟩
        cases mx
        · simpa [Builtin.min_, hvs] using this
        · simpa [Builtin.max_, hvs] using this
  · cases ha
end
end Go.Gb
