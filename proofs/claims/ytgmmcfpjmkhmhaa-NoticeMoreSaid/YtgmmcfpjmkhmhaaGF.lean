/-
  Each operation of the abstract walk is what the model's operation does: blocks laid, fields, indexes, numbers.
-/
import Derived.Test.YtgmmcfpjmkhmhaaGE
namespace Go.Gb
open Go.RowKit

section
variable {P : Program} {T : Tab} {w0 : World} {O0 : Was} {β : Nat → Option Blk} {I : Nat → Prop} {obj : Nat → Option AObj} {w : World} {i : Nat}

/-- A new block with one row. -/
theorem newVar_sound (h : Mem P w0 O0 β I obj w) (hn : β (nid i) = none) {e : TypeId} {v : Value} {cs : List AV} (hcs : VRl P β w I cs v.cells.toList) (h1 : ∀ u ∈ v.cells.toList, oneCell u) :
    ∃ w' β', (newVar e v).run P w = .ok ⟨w.heap.size, 0, none⟩ w' ∧ Step β I w (nid i) β' I w' ∧ Mem P w0 O0 β' I (updo obj [(nid i, some ⟨cs.length, [cs]⟩)]) w' ∧ VR P β' w' I (.ptr (nid i) 0 0) (.pointer (some ⟨w.heap.size, 0, none⟩)) := by
  obtain ⟨hS, hM⟩ := Mem.alloc (o := ⟨cs.length, [cs]⟩) (c := v.cells) (e := e) h hn (by
    simp only [ORows, and_true, true_and]
    exact ORow.of_list cs _ _ 0 hcs h1 (fun j u hj => by simpa using hj))
  refine ⟨_, _, ?_, hS, hM, ?_⟩
  · simp only [newVar, newRow, Sem.run_bind, run_newObj, Result.andThen_ok, Sem.run_pure]; rfl
  · simp only [VR]; exact ⟨w.heap.size, cs.length, v.cells.size, by simp [ins], by simp⟩

theorem aAlloc_sound (hT : TabOk P T) (h : Mem P w0 O0 β I obj w) (hn : β (nid i) = none) {e : TypeId} {out : Out} (ha : aAlloc T i e = some out) :
    ∃ u w' β', (Instr.alloc e true (.tuple #[])).run P w = .ok u w' ∧ Step β I w (nid i) β' I w' ∧ Mem P w0 O0 β' I (updo obj out.upd) w' ∧ VR P β' w' I out.v u := by
  unfold aAlloc at ha
  cases hti : T e with
  | none => simp [hti] at ha
  | some ti =>
    have ht := hT e ti hti
    simp only [hti, Option.bind_some, Option.some.injEq] at ha
    subst ha
    obtain ⟨z, hz, hz2⟩ := ht.zeroV (w := w)
    obtain ⟨w', β', h1, h2, h3, h4⟩ := newVar_sound (i := i) (e := e) (v := z) (cs := ti.zero.map cv) h hn (by rw [hz2]; exact VRl.cv _) (fun u hu => oneCell_of_B (List.all_eq_true.1 ht.one u (hz2 ▸ hu)))
    have hl : (ti.zero.map cv).length = ti.size := by simp [ht.len]
    rw [hl] at h3
    exact ⟨_, w', β', by simp [Instr.alloc, hz, h1], h2, h3, h4⟩

theorem aBox_sound (h : Mem P w0 O0 β I obj w) (hn : β (nid i) = none) {e : TypeId} {x : AV} {v : Value} {out : Out} (ha : aBox i x = some out) (hx : VR P β w I x v) :
    ∃ u w' β', (Instr.box e v).run P w = .ok u w' ∧ Step β I w (nid i) β' I w' ∧ Mem P w0 O0 β' I (updo obj out.upd) w' ∧ VR P β' w' I out.v u := by
  unfold aBox at ha
  cases hcs : cellsOf x with
  | none => simp [hcs] at ha
  | some cs =>
    simp only [hcs, Option.bind_some, Option.some.injEq] at ha
    subst ha
    obtain ⟨hv1, hv2⟩ := cellsOf_sound hcs hx
    obtain ⟨w', β', h1, h2, h3, h4⟩ := newVar_sound (i := i) (e := e) h hn hv1 hv2
    exact ⟨_, w', β', by simp [Instr.box, h1], h2, h3, h4⟩

theorem field_at (hT : TabOk P T) {t : TypeId} {f off : Nat} {ui : TyI} (hf : fieldOf T t f = some (off, ui)) :
    ∃ (fa : Array Field) (fd : Field), P.underlying t = some (.struct fa) ∧ fa[f]? = some fd ∧ fd.offset = off ∧ TyOk P fd.type ui ∧ ui.size ≠ 0 := by
  unfold fieldOf at hf
  cases hti : T t with
  | none => simp [hti] at hf
  | some ti =>
    have ht := hT t ti hti
    simp only [hti, Option.bind_some] at hf
    cases hk : ti.k <;> simp only [hk, reduceCtorEq] at hf
    case struct fs =>
      cases hj : fs[f]? with
      | none => simp [hj] at hf
      | some p =>
        obtain ⟨o, u⟩ := p
        simp only [hj, Option.bind_some] at hf
        cases hu : T u with
        | none => simp [hu] at hf
        | some ui' =>
          simp only [hu, Option.bind_some] at hf
          split at hf
          · cases hf
          · rename_i hne
            simp only [Option.some.injEq, Prod.mk.injEq] at hf
            obtain ⟨rfl, rfl⟩ := hf
            obtain ⟨info, d, z, h1, h2, h3, h4, h5, h6, h7, h8⟩ := ht.ex
            rw [hk] at h8
            obtain ⟨fa, rfl, hfs⟩ := h8
            rw [← hfs] at hj
            simp only [List.getElem?_map, Array.getElem?_toList, Option.map_eq_some_iff, Prod.mk.injEq] at hj
            obtain ⟨fd, g1, g2, g3⟩ := hj
            exact ⟨fa, fd, h2, g1, g2, g3 ▸ hT u _ hu, hne⟩

theorem aFieldAddr_sound (hT : TabOk P T) {t : TypeId} {x : AV} {f : Nat} {v : Value} {out : Out} (ha : aFieldAddr T t x f = some out) (hx : VR P β w I x v) :
    ∃ u, (Instr.fieldAt t v f).run P w = .ok u w ∧ VR P β w I out.v u ∧ out.upd = [] := by
  unfold aFieldAddr at ha
  cases hf : fieldOf T t f with
  | none => simp [hf] at ha
  | some p =>
    obtain ⟨d, ui⟩ := p
    simp only [hf, Option.bind_some] at ha
    obtain ⟨fa, fd, h1, h2, h3, h4, h5⟩ := field_at hT hf
    have hrun : ∀ b o, (Instr.fieldAt t (.pointer (some ⟨b, o, none⟩)) f).run P w = .ok (.pointer (some ⟨b, o + d, none⟩)) w := fun b o => by
      simp [Instr.fieldAt, run_underlying h1, h2, Instr.sureAddr, fieldPlace, h4.size (w := w), h5, h3, addr_add]
    cases x <;> simp only [reduceCtorEq] at ha
    case ptr k row off =>
      simp only [pv, Option.some.injEq] at ha
      subst ha
      simp only [VR] at hx ⊢
      obtain ⟨b, sz, n, g1, rfl⟩ := hx
      exact ⟨_, hrun _ _, ⟨b, sz, n, g1, by rw [Nat.add_assoc]⟩, trivial⟩
    case rptr r off =>
      simp only [pv, Option.some.injEq] at ha
      subst ha
      simp only [VR] at hx ⊢
      obtain ⟨b, o, rfl, g1, g2⟩ := hx
      exact ⟨_, hrun _ _, ⟨b, o, by rw [Nat.add_assoc], g1, g2⟩, trivial⟩

theorem run_part {t : TypeId} {ti : TyI} (ht : TyOk P t ti) {cs : List AV} {vs : List Value} {d : Nat} {v : AV} (hp : part' ti.agg ti.size ((cs.drop d).take ti.size) = some v) (hr : VRl P β w I cs vs) :
    ∃ u, (part t vs.toArray d).run P w = .ok u w ∧ VR P β w I v u := by
  obtain ⟨h1, h2, h3, h4⟩ := part_sound hp (VRl.take ti.size _ _ (VRl.drop d _ _ hr))
  unfold Go.part
  simp only [Sem.run_bind, ht.agg (w := w), Result.andThen_ok]
  cases hag : ti.agg with
  | true =>
    refine ⟨.agg ((vs.drop d).take ti.size).toArray, ?_, h3 hag⟩
    simp only [if_true, Sem.run_bind, ht.size (w := w), Result.andThen_ok, Sem.run_pure]
    congr 2
    apply Array.ext'
    simp [List.extract_eq_take_drop]
  | false =>
    obtain ⟨u, hu, hv⟩ := h4 hag
    refine ⟨u, ?_, hv⟩
    have : vs[d]? = some u := by
      have h5 : ((vs.drop d).take ti.size)[0]? = some u := by rw [hu]; rfl
      rw [List.getElem?_take] at h5
      split at h5
      · simpa using h5
      · cases h5
    simp [this]

theorem aField_sound (hT : TabOk P T) {t : TypeId} {x : AV} {f : Nat} {v : Value} {out : Out} (ha : aField T t x f = some out) (hx : VR P β w I x v) :
    ∃ u, (Instr.field t v f).run P w = .ok u w ∧ VR P β w I out.v u ∧ out.upd = [] := by
  unfold aField at ha
  cases hf : fieldOf T t f with
  | none => simp [hf] at ha
  | some p =>
    obtain ⟨d, ui⟩ := p
    simp only [hf, Option.bind_some] at ha
    obtain ⟨fa, fd, h1, h2, h3, h4, h5⟩ := field_at hT hf
    cases x <;> simp only [reduceCtorEq] at ha
    case agg cs =>
      cases hp : part' ui.agg ui.size ((cs.drop d).take ui.size) with
      | none => simp [hp] at ha
      | some y =>
        simp only [hp, Option.bind_some, pv, Option.some.injEq] at ha
        subst ha
        simp only [VR] at hx
        obtain ⟨vs, rfl, hvs⟩ := hx
        obtain ⟨u, hu, hv⟩ := run_part h4 hp hvs
        refine ⟨u, ?_, hv, rfl⟩
        simp [Instr.field, run_underlying h1, h2, h3, asAgg]
        simpa using hu

theorem TRows.get {b sz : Nat} : ∀ (n : Nat) (rows : List (List Tree)) (off : Nat) (r : List Tree), TRows w I rows b off sz → rows[n]? = some r → r.length = sz ∧ TRow w I r b (off + n * sz)
  | 0, r :: rs, off, r', h, hn => by simp only [TRows] at h; simp at hn; subst hn; exact ⟨h.1, by simpa using h.2.1⟩
  | n + 1, r :: rs, off, r', h, hn => by
    simp only [TRows] at h
    have := TRows.get n rs (off + sz) r' h.2.2 (by simpa using hn)
    rw [show off + (n + 1) * sz = off + sz + n * sz by rw [Nat.add_mul]; omega]
    exact this
  | _, [], _, _, _, hn => by simp at hn

theorem kind_slice {t e : TypeId} {ti : TyI} (ht : TyOk P t ti) (hk : ti.k = .slice e) : P.underlying t = some (.slice e) := by
  obtain ⟨info, d, z, h1, h2, h3, h4, h5, h6, h7, h8⟩ := ht.ex
  rw [hk] at h8; rw [h2, h8]
theorem kind_arr {t e : TypeId} {n : Nat} {ti : TyI} (ht : TyOk P t ti) (hk : ti.k = .arr n e) : P.underlying t = some (.array n e) := by
  obtain ⟨info, d, z, h1, h2, h3, h4, h5, h6, h7, h8⟩ := ht.ex
  rw [hk] at h8; rw [h2, h8]

theorem aIndexAddr_sound (hT : TabOk P T) (h : Mem P w0 O0 β I obj w) {t : TypeId} {x j : AV} {orc : Orc} {get : Nat → Option AObj} {v u : Value} {out : Out} (hg : ∀ k o, get k = some o → obj k = some o)
    (ha : aIndexAddr T t x j orc get = some out) (hob : out.ob) (hx : VR P β w I x v) (hj : VR P β w I j u) :
    ∃ z, (Instr.indexAt t v u).run P w = .ok z w ∧ VR P β w I out.v z ∧ out.upd = [] := by
  unfold aIndexAddr at ha
  cases hti : T t with
  | none => simp [hti] at ha
  | some ti =>
    have ht := hT t ti hti
    simp only [hti, Option.bind_some] at ha
    split at ha
    · rename_i e kd n hk
      simp only [VR, TR] at hj
      obtain ⟨rfl, _⟩ := hj
      have hund := kind_slice ht hk
      cases hei : T e with
      | none => simp [hei] at ha
      | some ei =>
        have he := hT e ei hei
        simp only [hei, Option.bind_some] at ha
        have hrun : ∀ (b o len cap : Nat), 0 ≤ n → n.toNat < len → (Instr.indexAt t (.slice (some ⟨b, o, none⟩) len cap) (.int kd n)).run P w = .ok (.pointer (some ⟨b, o + n.toNat * ei.size, none⟩)) w := by
          intro b o len cap h0 h1
          have h2 : n < (len : Int) := by omega
          simp [Instr.indexAt, asIntOf, run_underlying hund, h0, h2, he.size (w := w), addr_add]
        split at ha
        · rename_i rows r
          split at ha
          · rename_i hlen
            simp only [pvo, Option.some.injEq] at ha
            subst ha
            obtain ⟨h0, hr⟩ := hob
            simp only [VR, TR] at hx
            rcases hx with ⟨rfl, _⟩ | ⟨b, off, cap, sz, rfl, h1, h2, h3⟩
            · simp at hr
            · have hlt := (List.getElem?_eq_some_iff.1 hr).1
              obtain ⟨g1, g2⟩ := TRows.get _ _ _ _ h3 hr
              refine ⟨_, hrun _ _ _ _ h0 hlt, ?_, rfl⟩
              simp only [VR]
              exact ⟨b, off + n.toNat * sz, by rw [← g1, hlen]; rfl, h2, g2⟩
          · cases ha
        · rename_i k off len
          cases hk2 : get k with
          | none => simp [hk2] at ha
          | some o =>
            simp only [hk2, Option.bind_some] at ha
            split at ha
            · rename_i hsz
              simp only [pvo, Option.some.injEq] at ha
              subst ha
              obtain ⟨h0, hlt⟩ := hob
              simp only [VR] at hx ⊢
              rcases hx with ⟨_, _, _, rfl⟩ | ⟨b, sz, m, cap, a, h1, rfl, h2, h3, h4⟩
              · omega
              · obtain ⟨B, hB, hO⟩ := h.objs k o (hg k o hk2)
                rw [h1] at hB; injection hB with hB; subst hB
                have hs : sz = o.sz := hO.1
                refine ⟨_, hrun _ _ _ _ h0 hlt, ⟨b, sz, m, h1, ?_⟩, trivial⟩
                rw [h4 (by omega), hs, hsz, Nat.add_mul]; rfl
            · cases ha
        · cases ha
    · rename_i m e kd n hk
      simp only [VR, TR] at hj
      obtain ⟨rfl, _⟩ := hj
      have hund := kind_arr ht hk
      cases hei : T e with
      | none => simp [hei] at ha
      | some ei =>
        have he := hT e ei hei
        simp only [hei, Option.bind_some] at ha
        have hrun : ∀ (b o : Nat), 0 ≤ n → n.toNat < m → (Instr.indexAt t (.pointer (some ⟨b, o, none⟩)) (.int kd n)).run P w = .ok (.pointer (some ⟨b, o + n.toNat * ei.size, none⟩)) w := by
          intro b o h0 h1
          have h2 : n < (m : Int) := by omega
          simp [Instr.indexAt, asIntOf, run_underlying hund, Instr.sureAddr, h0, h2, he.size (w := w), addr_add]
        cases x <;> simp only [reduceCtorEq] at ha
        case ptr k row off =>
          simp only [pvo, Option.some.injEq] at ha
          subst ha
          simp only [VR] at hx ⊢
          obtain ⟨b, sz, q, g1, rfl⟩ := hx
          exact ⟨_, hrun _ _ hob.1 hob.2, ⟨b, sz, q, g1, by rw [Nat.add_assoc]⟩, trivial⟩
        case rptr r off =>
          simp only [pvo, Option.some.injEq] at ha
          subst ha
          simp only [VR] at hx ⊢
          obtain ⟨b, o, rfl, g1, g2⟩ := hx
          exact ⟨_, hrun _ _ hob.1 hob.2, ⟨b, o, by rw [Nat.add_assoc], g1, g2⟩, trivial⟩
    · cases ha

theorem aExtract_sound {x : AV} {j : Nat} {v : Value} {out : Out} (ha : aExtract x j = some out) (hx : VR P β w I x v) : ∃ u, (Instr.extract v j).run P w = .ok u w ∧ VR P β w I out.v u ∧ out.upd = [] := by
  unfold aExtract at ha
  split at ha
  · rename_i vs
    simp only [VR] at hx
    obtain ⟨us, rfl, hus⟩ := hx
    cases hj : vs[j]? with
    | none => simp [hj] at ha
    | some y =>
      simp only [hj, Option.bind_some, pv, Option.some.injEq] at ha
      subst ha
      obtain ⟨u, hu, hv⟩ := VRl.get _ _ j y hus hj
      refine ⟨u, ?_, hv, rfl⟩
      have : us[j]? = some u := by simpa using hu
      simp [Instr.extract, this]
  · cases ha

end
end Go.Gb
