/-
  Every operation of the abstract walk that makes no call is what the model's operation does.
-/
import Derived.Test.YtgmmcfpjmkhmhaaGK
namespace Go.Gb
open Go.RowKit

section
variable {P : Program} {T : Tab} {w0 : World} {O0 : Was} {β : Nat → Option Blk} {I : Nat → Prop} {obj : Nat → Option AObj} {w : World} {i : Nat}

theorem aAppend_sound (hT : TabOk P T) (h : Mem P w0 O0 β I obj w) (hn : β (nid i) = none) {t ty : TypeId} {x y : AV} {orc : Orc} {get : Nat → Option AObj} {out : Out} {u v : Value} (hg : ∀ k o, get k = some o → obj k = some o)
    (ha : aAppend T i t x y orc get = some out) (hob : out.ob) (hx : VR P β w I x u) (hy : VR P β w I y v) :
    ∃ z w' β', (Builtin.append_ #[t, t] ty #[u, v]).run P w = .ok z w' ∧ Step β I w (nid i) β' I w' ∧ Mem P w0 O0 β' I (updo obj out.upd) w' ∧ VR P β' w' I out.v z := by
  unfold aAppend at ha
  cases hti : T t with
  | none => simp [hti] at ha
  | some ti =>
    have ht := hT t ti hti
    simp only [hti, Option.bind_some] at ha
    split at ha
    · rename_i e hkd
      cases hei : T e with
      | none => simp [hei] at ha
      | some ei =>
        simp only [hei, Option.bind_some] at ha
        have hund := kind_slice ht hkd
        split at ha
        · rename_i rs
          cases hs : srcOf ei.size y get with
          | none => simp [hs] at ha
          | some p =>
            obtain ⟨n, ob, new⟩ := p
            simp only [hs, Option.bind_some] at ha
            split at ha
            · rename_i k off len
              cases hk : get k with
              | none => simp [hk] at ha
              | some o =>
                simp only [hk, Option.bind_some] at ha
                split at ha
                · rename_i hc
                  obtain ⟨hsz, rfl⟩ := hc
                  injection ha with ha
                  subst ha
                  obtain ⟨b1, b2, b3, rfl, b5, b6⟩ := hob
                  have e : (o.rows ++ new).length = len + n := by rw [List.length_append, b2, b3]
                  simp only [e]
                  exact appendOwn_sound hT h hn hund hei (hg k o hk) hsz b2 hx (src_sound h hg hs b1 b3 hy) b3 b5 b6
                · cases ha
            · injection ha with ha
              subst ha
              obtain ⟨b1, b2, rfl, b5, b6⟩ := hob
              simp only [VR] at hx
              subst hx
              simp only [b2]
              exact appendNil_sound hT h hn hund hei (src_sound h hg hs b1 b2 hy) b2 b5 b6
            · cases ha
        · cases ha
    · cases ha

theorem opv_sound {env : Nat → AV} {a : Act} (h : ∀ t, VR P β w I (env t) (a.tmps.getD t undef)) (x : Operand) : VR P β w I (opv env x) (a.eval x) := by
  cases x with
  | tmp t => exact h t
  | const v => exact VR.cv
  | global g => simp [opv, VR]
  | func f => simp only [opv, VR, Act.eval]; exact ⟨#[], #[], rfl, by simp [VRl], by simp [VRl]⟩

theorem VRl.map {ρ : Operand → AV} {r : Operand → Value} (hρ : ∀ x, VR P β w I (ρ x) (r x)) : ∀ (l : List Operand), VRl P β w I (l.map ρ) (l.map r)
  | [] => by simp [VRl]
  | x :: xs => by simp only [List.map_cons, VRl]; exact ⟨hρ x, VRl.map hρ xs⟩

theorem aBuiltin_sound (hT : TabOk P T) (h : Mem P w0 O0 β I obj w) (hn : β (nid i) = none) {b : Builtin} {args : List AV} {tys : Array TypeId} {orc : Orc} {get : Nat → Option AObj} {out : Out} (hg : ∀ k o, get k = some o → obj k = some o)
    {vs : Array Value} {ty : TypeId} {ops : Array Operand} (ha : aBuiltin T i b args tys.toList orc get = some out) (hob : out.ob) (hv : VRl P β w I args vs.toList) {r : Operand → Value} (hops : vs = ops.map r) {dst : Option Tmp} {pos : String} {after : Array Edge} {guard : Option (Nat × Bool)} :
    Did P w0 O0 β I obj w i out ((execOp r ⟨dst, .call { callee := .builtin b, args := ops, argTypes := tys }, ty, pos, after, guard⟩).run P w) := by
  unfold aBuiltin at ha
  split at ha
  · rename_i x t htys
    obtain ⟨v, hvs⟩ : ∃ v, vs = #[v] := by
      obtain ⟨l⟩ := vs
      match l, hv with
      | [v], _ => exact ⟨v, rfl⟩
      | [], h => simp [VRl] at h
      | _ :: _ :: _, h => simp [VRl] at h
    have ht : tys = #[t] := by cases tys; simpa using htys
    subst hvs ht
    simp only [VRl] at hv
    obtain ⟨u, h1, h2, h3⟩ := aLen_sound (ty := ty) hT ha hob hv.1
    refine ⟨u, w, β, I, .inl ?_, Step.refl .., by rw [h3]; exact h, h2⟩
    simp [execOp, resolve, invoke, builtin, ← hops, h1]
  · obtain ⟨u, h1, h2, h3⟩ := aMm_sound (tys := tys) (ty := ty) ha hv
    simp only [if_true] at h1
    refine ⟨u, w, β, I, .inl ?_, Step.refl .., by rw [h3]; exact h, h2⟩
    simp [execOp, resolve, invoke, builtin, ← hops, h1]
  · obtain ⟨u, h1, h2, h3⟩ := aMm_sound (tys := tys) (ty := ty) ha hv
    simp only [Bool.false_eq_true, if_false] at h1
    refine ⟨u, w, β, I, .inl ?_, Step.refl .., by rw [h3]; exact h, h2⟩
    simp [execOp, resolve, invoke, builtin, ← hops, h1]
  · rename_i x y t u htys
    split at ha
    · rename_i htu
      subst htu
      obtain ⟨v, v', hvs⟩ : ∃ v v', vs = #[v, v'] := by
        obtain ⟨l⟩ := vs
        match l, hv with
        | [v, v'], _ => exact ⟨v, v', rfl⟩
        | [], h => simp [VRl] at h
        | [_], h => simp [VRl] at h
        | _ :: _ :: _ :: _, h => simp [VRl] at h
      have ht : tys = #[t, t] := by cases tys; simpa using htys
      subst hvs ht
      simp only [VRl] at hv
      obtain ⟨z, w', β', h1, h2, h3, h4⟩ := aAppend_sound (ty := ty) hT h hn hg ha hob hv.1 hv.2.1
      refine ⟨z, w', β', I, .inl ?_, h2, h3, h4⟩
      simp [execOp, resolve, invoke, builtin, ← hops, h1]
    · cases ha
  · cases ha

theorem absOp_sound (hT : TabOk P T) (h : Mem P w0 O0 β I obj w) (hn : β (nid i) = none) {o : Oper} {orc : Orc} {ρ : Operand → AV} {get : Nat → Option AObj} {out : Out} (hg : ∀ k o, get k = some o → obj k = some o)
    {r : Operand → Value} (hρ : ∀ x, VR P β w I (ρ x) (r x)) (ha : absOp T i o orc ρ get = some out) (hob : out.ob) : Did P w0 O0 β I obj w i out ((execOp r o).run P w) := by
  obtain ⟨dst, op, ty, pos, after, guard⟩ := o
  have val : ∀ {s : Sem Value} {z : Value}, s.run P w = .ok z w → out.upd = [] → VR P β w I out.v z → Did P w0 O0 β I obj w i out ((do pure (.value (← s)) : Sem Next).run P w) := by
    intro s z h1 h2 h3
    refine ⟨z, w, β, I, .inl (by simp [h1]), Step.refl .., by rw [h2]; exact h, h3⟩
  have val' : ∀ {s : Sem Value} {z : Value} {w' : World} {β' : Nat → Option Blk}, s.run P w = .ok z w' → Step β I w (nid i) β' I w' → Mem P w0 O0 β' I (updo obj out.upd) w' → VR P β' w' I out.v z → Did P w0 O0 β I obj w i out ((do pure (.value (← s)) : Sem Next).run P w) := by
    intro s z w' β' h1 h2 h3 h4
    exact ⟨z, w', β', I, .inl (by simp [h1]), h2, h3, h4⟩
  unfold absOp at ha
  split at ha
  · rename_i x heq
    simp only at heq; subst heq
    simp only [pv, Option.some.injEq] at ha; subst ha
    exact Did.pure h (hρ x)
  · rename_i x heq
    simp only at heq; subst heq
    simp only [pv, Option.some.injEq] at ha; subst ha
    exact Did.pure h (hρ x)
  · rename_i c a b heq
    simp only at heq; subst heq
    split at ha
    · rename_i t hc
      simp only [pv, Option.some.injEq] at ha; subst ha
      have h1 := hρ c
      rw [hc] at h1
      simp only [VR, TR] at h1
      refine ⟨if t then r a else r b, w, β, I, .inl ?_, Step.refl .., h, ?_⟩
      · simp only [execOp, h1.1, asBool]; simp
      · rw [pickV_eq]
        cases t
        · exact hρ b
        · exact hρ a
    · cases ha
  · rename_i e heq
    simp only at heq; subst heq
    obtain ⟨u, w', β', h1, h2, h3, h4⟩ := aAlloc_sound hT h hn ha
    exact val' h1 h2 h3 h4
  · rename_i e x heq
    simp only at heq; subst heq
    obtain ⟨u, w', β', h1, h2, h3, h4⟩ := aBox_sound (e := e) h hn ha (hρ x)
    exact val' h1 h2 h3 h4
  · rename_i t parts heq
    simp only at heq; subst heq
    obtain ⟨z, h1, h2, h3⟩ := aBuild_sound (w := w) (P := P) (β := β) (I := I) (vs := parts.map fun (i, x) => (i, r x)) hT ha (by simp) (by
      simp only [Array.toList_map, List.map_map]
      have hm := VRl.map (fun x => hρ x) (parts.toList.map (·.2))
      simp only [List.map_map] at hm; exact hm)
    exact val h1 h3 h2
  · rename_i t len parts heq
    simp only at heq; subst heq
    obtain ⟨z, w', β', h1, h2, h3, h4⟩ := aBuildSlice_sound (vs := parts.map fun (i, x) => (i, r x)) hT h hn ha (by simp) (by
      simp only [Array.toList_map, List.map_map]
      have hm := VRl.map (fun x => hρ x) (parts.toList.map (·.2))
      simp only [List.map_map] at hm; exact hm)
    exact val' h1 h2 h3 h4
  · rename_i t a heq
    simp only at heq; subst heq
    obtain ⟨u, h1, h2, h3⟩ := aLoad_sound hT h hg ha hob (hρ a)
    exact val h1 h3 h2
  · rename_i t a x heq
    simp only at heq; subst heq
    obtain ⟨w', h1, h2, h3, h4⟩ := aStore_sound hT h hg ha hob (hρ a) (hρ x)
    exact ⟨undef, w', β, I, .inr ⟨by simp [execOp, h1], rfl⟩, ⟨fun _ _ => rfl, fun _ _ h => h, h2, fun _ h => h⟩, h3, by rw [h4]; simp [VR]⟩
  · rename_i op t x y yt heq
    simp only at heq; subst heq
    obtain ⟨z, h1, h2, h3⟩ := aBin_sound (xo := x) (yo := y) hT ha hob (hρ x) (hρ y)
    exact val h1 h3 h2
  · rename_i op t x heq
    simp only at heq; subst heq
    obtain ⟨z, h1, h2, h3⟩ := aUn_sound ha (hρ x)
    exact val h1 h3 h2
  · rename_i f first caps heq
    simp only at heq; subst heq
    simp only [pv, Option.some.injEq] at ha; subst ha
    refine ⟨.func (.func f) (first.map r) (caps.map r), w, β, I, .inl ?_, Step.refl .., h, ?_⟩
    · simp [execOp, Instr.makeFunc]
    · simp only [VR]
      exact ⟨_, _, rfl, by rw [Array.toList_map]; exact VRl.map hρ _, by rw [Array.toList_map]; exact VRl.map hρ _⟩
  · rename_i t x lo hi heq
    simp only at heq; subst heq
    obtain ⟨u, h1, h2, h3⟩ := aSlice_sound (lov := lo.map r) (hiv := hi.map r) hT h hg ha hob (hρ x)
      (fun y hy => by
        cases lo with
        | none => simp at hy
        | some z => simp at hy; subst hy; exact ⟨r z, rfl, hρ z⟩) (fun hy => by cases lo <;> simp at hy ⊢)
      (fun y hy => by
        cases hi with
        | none => simp at hy
        | some z => simp at hy; subst hy; exact ⟨r z, rfl, hρ z⟩) (fun hy => by cases hi <;> simp at hy ⊢)
    exact val h1 h3 h2
  · rename_i t x f heq
    simp only at heq; subst heq
    obtain ⟨u, h1, h2, h3⟩ := aFieldAddr_sound hT ha (hρ x)
    exact val h1 h3 h2
  · rename_i t x f heq
    simp only at heq; subst heq
    obtain ⟨u, h1, h2, h3⟩ := aField_sound hT ha (hρ x)
    exact val h1 h3 h2
  · rename_i t x j heq
    simp only at heq; subst heq
    obtain ⟨u, h1, h2, h3⟩ := aIndexAddr_sound hT h hg ha hob (hρ x) (hρ j)
    exact val h1 h3 h2
  · rename_i x j heq
    simp only at heq; subst heq
    obtain ⟨u, h1, h2, h3⟩ := aExtract_sound ha (hρ x)
    exact val h1 h3 h2
  · rename_i b args tys heq
    simp only at heq; subst heq
    exact aBuiltin_sound (ty := ty) hT h hn hg (vs := args.map r) ha hob (by rw [Array.toList_map]; exact VRl.map hρ _) rfl
  · cases ha
end
end Go.Gb
