/-
  Each operation of the abstract walk is what the model's operation does.
-/
import Derived.Test.YtgmmcfpjmkhmhaaGD
namespace Go.Gb
open Go.RowKit

/-- What an operation has done. -/
def Did (P : Program) (w0 : World) (O0 : Was) (β : Nat → Option Blk) (I : Nat → Prop) (obj : Nat → Option AObj) (w : World) (i : Nat) (out : Out) (r : Result Next) : Prop :=
  ∃ v' w' β' I', (r = .ok (.value v') w' ∨ (r = .ok .skip w' ∧ v' = undef)) ∧ Step β I w (nid i) β' I' w' ∧ Mem P w0 O0 β' I' (updo obj out.upd) w' ∧ VR P β' w' I' out.v v'

theorem updo_nil (obj : Nat → Option AObj) : updo obj [] = obj := rfl

section
variable {P : Program} {T : Tab} {w0 : World} {O0 : Was} {β : Nat → Option Blk} {I : Nat → Prop} {obj : Nat → Option AObj} {w : World} {i : Nat}

theorem Did.pure (h : Mem P w0 O0 β I obj w) {x : AV} {ob : List Prop} {v : Value} (hv : VR P β w I x v) : Did P w0 O0 β I obj w i ⟨x, [], ob⟩ (.ok (.value v) w) :=
  ⟨v, w, β, I, .inl rfl, Step.refl .., h, hv⟩

theorem VRl.length : ∀ (xs : List AV) (vs : List Value), VRl P β w I xs vs → vs.length = xs.length
  | [], [], _ => rfl
  | x :: xs, v :: vs, h => by simp only [VRl] at h; simp [VRl.length xs vs h.2]
  | [], _ :: _, h => by simp [VRl] at h
  | _ :: _, [], h => by simp [VRl] at h

theorem VRl.get : ∀ (xs : List AV) (vs : List Value) (j : Nat) (x : AV), VRl P β w I xs vs → xs[j]? = some x → ∃ v, vs[j]? = some v ∧ VR P β w I x v
  | x :: xs, v :: vs, 0, x', h, hj => by simp only [VRl] at h; simp at hj; subst hj; exact ⟨v, rfl, h.1⟩
  | x :: xs, v :: vs, j + 1, x', h, hj => by simp only [VRl] at h; simpa using VRl.get xs vs j x' h.2 (by simpa using hj)
  | [], _, _, _, _, hj => by simp at hj
  | _ :: _, [], _, _, h, _ => by simp [VRl] at h

theorem VRl.take : ∀ (n : Nat) (xs : List AV) (vs : List Value), VRl P β w I xs vs → VRl P β w I (xs.take n) (vs.take n)
  | 0, _, _, _ => by simp [VRl]
  | n + 1, [], [], _ => by simp [VRl]
  | n + 1, x :: xs, v :: vs, h => by simp only [VRl] at h; simp only [List.take_succ_cons, VRl]; exact ⟨h.1, VRl.take n xs vs h.2⟩
  | _ + 1, [], _ :: _, h => by simp [VRl] at h
  | _ + 1, _ :: _, [], h => by simp [VRl] at h
theorem VRl.drop : ∀ (n : Nat) (xs : List AV) (vs : List Value), VRl P β w I xs vs → VRl P β w I (xs.drop n) (vs.drop n)
  | 0, _, _, h => by simpa using h
  | n + 1, [], [], _ => by simp [VRl]
  | n + 1, x :: xs, v :: vs, h => by simp only [VRl] at h; simpa using VRl.drop n xs vs h.2
  | _ + 1, [], _ :: _, h => by simp [VRl] at h
  | _ + 1, _ :: _, [], h => by simp [VRl] at h
theorem VRl.append : ∀ (xs ys : List AV) (us vs : List Value), VRl P β w I xs us → VRl P β w I ys vs → VRl P β w I (xs ++ ys) (us ++ vs)
  | [], ys, [], vs, _, h => by simpa using h
  | x :: xs, ys, u :: us, vs, h1, h2 => by simp only [VRl] at h1; simp only [List.cons_append, VRl]; exact ⟨h1.1, VRl.append xs ys us vs h1.2 h2⟩
  | [], _, _ :: _, _, h, _ => by simp [VRl] at h
  | _ :: _, _, [], _, h, _ => by simp [VRl] at h

theorem VR.one {x : AV} {v : Value} (hx : cellOk x = true) (h : VR P β w I x v) : oneCell v := by
  cases x <;> simp only [VR] at h
  case t x =>
    cases x with
    | sc u => simp only [TR] at h; rw [h.1]; exact h.2
    | sl rows => simp only [TR] at h; rcases h with ⟨_, _, _, rfl, _⟩ | ⟨b, off, cap, sz, rfl, _⟩ <;> exact trivial
  case agg => simp [cellOk] at hx
  case tup => simp [cellOk] at hx
  case own k off len => rcases h with ⟨_, rfl, _⟩ | ⟨b, sz, n, cap, a, _, rfl, _⟩ <;> exact trivial
  case ptr => obtain ⟨b, sz, n, _, rfl⟩ := h; exact trivial
  case rptr => obtain ⟨b, o, rfl, _⟩ := h; exact trivial
  case fn => obtain ⟨fs, cs, rfl, _⟩ := h; exact trivial
  case clo => obtain ⟨f, a, b, rfl, _⟩ := h; exact trivial
  case nilsl => subst h; exact trivial
  case ub => obtain ⟨b, rfl⟩ := h; exact trivial
  case undef => simp [cellOk] at hx

theorem cells_one {v : Value} (h : oneCell v) : v.cells = #[v] := by cases v <;> first | rfl | exact h.elim

theorem cellsOf_sound {x : AV} {cs : List AV} {v : Value} (hc : cellsOf x = some cs) (h : VR P β w I x v) : VRl P β w I cs v.cells.toList ∧ (∀ u ∈ v.cells.toList, oneCell u) := by
  have single : cellOk x = true → cs = [x] → VRl P β w I cs v.cells.toList ∧ (∀ u ∈ v.cells.toList, oneCell u) := fun hk e => by
    have h1 := VR.one hk h
    rw [cells_one h1, e]
    simp only [VRl]
    exact ⟨⟨h, trivial⟩, fun u hu => by simp at hu; rw [hu]; exact h1⟩
  cases x <;> simp only [cellsOf, Option.some.injEq, reduceCtorEq] at hc
  case agg cs' =>
    split at hc
    · injection hc with hc
      subst hc
      rename_i hall
      simp only [VR] at h
      obtain ⟨vs, rfl, hvs⟩ := h
      refine ⟨hvs, fun u hu => ?_⟩
      obtain ⟨j, hj⟩ := List.getElem?_of_mem hu
      have hlen := VRl.length _ _ hvs
      have hjl : j < cs'.length := by
        have := (List.getElem?_eq_some_iff.1 hj).1
        simp only [Value.cells] at this; omega
      obtain ⟨u', hu', hv'⟩ := VRl.get _ _ j _ hvs (List.getElem?_eq_getElem hjl)
      simp only [Value.cells] at hj
      rw [hj] at hu'; injection hu' with hu'; subst hu'
      exact VR.one (List.all_eq_true.1 hall _ (List.getElem_mem hjl)) hv'
    · cases hc
  all_goals exact single rfl hc.symm

theorem VR.cv {v : Value} : VR P β w I (cv v) v := by
  unfold Gb.cv
  split
  · simp [VR]
  · split
    · rename_i h; simp only [VR, TR]; exact ⟨trivial, oneCell_of_B h⟩
    · simp [VR]

theorem VRl.cv : ∀ (vs : List Value), VRl P β w I (vs.map cv) vs
  | [] => by simp [VRl]
  | v :: vs => by simp only [List.map_cons, VRl]; exact ⟨VR.cv, VRl.cv vs⟩

theorem ORow.of_list (cs : List AV) (vs : List Value) (c : Array Value) (off : Nat) (h : VRl P β w I cs vs) (h1 : ∀ u ∈ vs, oneCell u) (hc : ∀ j u, vs[j]? = some u → c[off + j]? = some u) : ORow P β w I cs c off := by
  rw [ORow_iff]
  intro j x hx
  obtain ⟨v, hv, hr⟩ := VRl.get _ _ j x h hx
  exact ⟨v, hc j v hv, hr, h1 v (List.mem_of_getElem? hv)⟩

/-- The cells of a row, as values. -/
theorem ORow.list : ∀ (cs : List AV) (c : Array Value) (off : Nat), ORow P β w I cs c off → ∃ vs : List Value, VRl P β w I cs vs ∧ (∀ u ∈ vs, oneCell u) ∧ ∀ j u, vs[j]? = some u → c[off + j]? = some u
  | [], _, _, _ => ⟨[], by simp [VRl], by simp, by simp⟩
  | x :: xs, c, off, ⟨⟨v, h1, h2, h3⟩, h4⟩ => by
    obtain ⟨vs, g1, g2, g3⟩ := ORow.list xs c (off + 1) h4
    refine ⟨v :: vs, by simp only [VRl]; exact ⟨h2, g1⟩, fun u hu => ?_, fun j u hj => ?_⟩
    · rcases List.mem_cons.1 hu with rfl | hu
      · exact h3
      · exact g2 u hu
    · cases j with
      | zero => simp at hj; subst hj; simpa using h1
      | succ j => rw [show off + (j + 1) = off + 1 + j by omega]; exact g3 j u (by simpa using hj)

theorem TRow.list : ∀ (cs : List Tree) (b off : Nat), TRow w I cs b off → ∃ vs : List Value, VRl P β w I (cs.map AV.t) vs ∧ ∀ j u, vs[j]? = some u → w.cell? ⟨b, off + j, none⟩ = some u
  | [], _, _, _ => ⟨[], by simp [VRl], by simp⟩
  | x :: xs, b, off, h => by
    simp only [TRow] at h
    obtain ⟨⟨v, h1, h2⟩, h4⟩ := h
    obtain ⟨vs, g1, g3⟩ := TRow.list xs b (off + 1) h4
    refine ⟨v :: vs, by simp only [List.map_cons, VRl, VR]; exact ⟨h2, g1⟩, fun j u hj => ?_⟩
    cases j with
    | zero => simp at hj; subst hj; simpa using h1
    | succ j => rw [show off + (j + 1) = off + 1 + j by omega]; exact g3 j u (by simpa using hj)

theorem part_sound {agg : Bool} {size : Nat} {cs : List AV} {v : AV} {vs : List Value} (hp : part' agg size cs = some v) (h : VRl P β w I cs vs) : cs.length = size ∧ vs.length = size ∧
    (agg = true → VR P β w I v (.agg vs.toArray)) ∧ (agg = false → ∃ u, vs = [u] ∧ VR P β w I v u) := by
  unfold part' at hp
  split at hp
  · rename_i hl
    have hl2 := VRl.length _ _ h
    refine ⟨hl, by omega, ?_, ?_⟩
    · rintro rfl
      simp only [if_true, Option.some.injEq] at hp
      subst hp
      simp only [VR]
      exact ⟨vs.toArray, rfl, h⟩
    · rintro rfl
      simp only [Bool.false_eq_true, if_false] at hp
      split at hp
      · split at hp
        · injection hp with hp
          subst hp
          match vs, h with
          | [u], h => simp only [VRl] at h; exact ⟨u, rfl, h.1⟩
          | [], h => simp [VRl] at h
          | _ :: _ :: _, h => simp [VRl] at h
        · cases hp
      · cases hp
  · cases hp

section types
variable {t : TypeId} {ti : TyI} (ht : TyOk P t ti)
include ht
theorem TyOk.size : (sizeOf t).run P w = .ok ti.size w := by
  obtain ⟨info, d, z, h1, h2, h3, h4, h5, h6, h7, h8⟩ := ht.ex
  simp [sizeOf, typeInfo, h1, h3]
theorem TyOk.agg : (isAgg t).run P w = .ok ti.agg w := by
  obtain ⟨info, d, z, h1, h2, h3, h4, h5, h6, h7, h8⟩ := ht.ex
  rw [← h7]
  cases d <;> simp [isAgg, run_underlying h2, isAggD]
theorem TyOk.zeroV : ∃ z, (zeroValue t).run P w = .ok z w ∧ z.cells.toList = ti.zero := by
  obtain ⟨info, d, z, h1, h2, h3, h4, h5, h6, h7, h8⟩ := ht.ex
  exact ⟨z, by simp [zeroValue, typeInfo, h1, h5], h6⟩
end types

theorem addr_add (b o n : Nat) : (⟨b, o, none⟩ : Addr).add n = ⟨b, o + n, none⟩ := by unfold Addr.add; split <;> simp_all

/-- A variable read whose cells are known. -/
theorem run_loadVar_of {t : TypeId} {ti : TyI} (ht : TyOk P t ti) {b o : Nat} {cs : List AV} {v : AV} {vs : List Value} (hp : part' ti.agg ti.size cs = some v) (hr : VRl P β w I cs vs)
    (hc : ∀ j u, vs[j]? = some u → w.cell? ⟨b, o + j, none⟩ = some u) : ∃ u, (loadVar t ⟨b, o, none⟩).run P w = .ok u w ∧ VR P β w I v u := by
  obtain ⟨h1, h2, h3, h4⟩ := part_sound hp hr
  unfold loadVar
  simp only [Sem.run_bind, ht.agg (w := w), Result.andThen_ok]
  cases hag : ti.agg with
  | true =>
    refine ⟨.agg vs.toArray, ?_, h3 hag⟩
    simp only [if_true, Sem.run_bind, ht.size (w := w), Result.andThen_ok]
    rw [← h2, run_loadCells_list w ⟨b, o, none⟩ vs (fun j u hj => by rw [addr_add]; exact hc j u hj)]
    simp
  | false =>
    obtain ⟨u, rfl, hu⟩ := h4 hag
    refine ⟨u, ?_, hu⟩
    have := hc 0 u rfl
    simp only [Nat.add_zero] at this
    simp [this]

theorem aLoad_sound (hT : TabOk P T) (h : Mem P w0 O0 β I obj w) {t : TypeId} {x : AV} {orc : Orc} {get : Nat → Option AObj} {out : Out} {v : Value} (hg : ∀ k o, get k = some o → obj k = some o)
    (ha : aLoad T t x orc get = some out) (hob : out.ob) (hx : VR P β w I x v) : ∃ u, (Instr.loadAt t v).run P w = .ok u w ∧ VR P β w I out.v u ∧ out.upd = [] := by
  unfold aLoad at ha
  cases hti : T t with
  | none => simp [hti] at ha
  | some ti =>
    have ht := hT t ti hti
    simp only [hti, Option.bind_some] at ha
    cases x <;> simp only [reduceCtorEq] at ha
    case ptr k row off =>
      cases hk : get k with
      | none => simp [hk] at ha
      | some o =>
        simp only [hk, Option.bind_some] at ha
        have key : ∀ r, o.rows[row]? = some r → ∀ u, part' ti.agg ti.size ((r.drop off).take ti.size) = some u → ∃ z, (Instr.loadAt t v).run P w = .ok z w ∧ VR P β w I u z := by
          intro r hr u hp
          simp only [VR] at hx
          obtain ⟨b, sz, n, h1, rfl⟩ := hx
          obtain ⟨B, hB, hO⟩ := h.objs k o (hg k o hk)
          rw [h1] at hB; injection hB with hB; subst hB
          obtain ⟨hs, c, e, hc, _, hO⟩ := hO
          have h4 := (ORows.get row _ _ _ _ _ hO hr).2
          rw [Nat.zero_add] at h4
          obtain ⟨vs, g1, g2, g3⟩ := ORow.list _ _ _ (ORow.take ti.size _ _ _ (ORow.drop off _ _ _ h4))
          obtain ⟨z, hz, hz2⟩ := run_loadVar_of ht (b := b) (o := row * sz + off) hp g1 (fun j u hj => by simp [World.cell?, hc, g3 j u hj])
          exact ⟨z, by simp [Instr.loadAt, Instr.sureAddr, hz], hz2⟩
        have fin : ∀ r ob, o.rows[row]? = some r → ((part' ti.agg ti.size ((r.drop off).take ti.size)).bind fun v => some (⟨v, [], ob⟩ : Out)) = some out → ∃ u, (Instr.loadAt t v).run P w = .ok u w ∧ VR P β w I out.v u ∧ out.upd = [] := by
          intro r ob hr hh
          cases hp : part' ti.agg ti.size ((r.drop off).take ti.size) with
          | none => simp [hp] at hh
          | some u =>
            simp only [hp, Option.bind_some, Option.some.injEq] at hh
            subst hh
            obtain ⟨z, hz⟩ := key r hr u hp
            exact ⟨z, hz.1, hz.2, rfl⟩
        cases orc
        case row r =>
          have hr : o.rows[row]? = some r := by
            cases hp : part' ti.agg ti.size ((r.drop off).take ti.size) with
            | none => simp [hp] at ha
            | some u => simp only [hp, Option.bind_some, pvo, Option.some.injEq] at ha; subst ha; exact hob
          exact fin r _ hr ha
        all_goals
          cases hr : o.rows[row]? with
          | none => simp [hr] at ha
          | some r =>
            simp only [hr, Option.bind_some] at ha
            exact fin r _ hr ha
    case rptr r off =>
      cases hp : part' ti.agg ti.size (((r.drop off).take ti.size).map AV.t) with
      | none => rw [hp] at ha; simp at ha
      | some u =>
        simp only [hp, Option.bind_some, pv, Option.some.injEq] at ha
        subst ha
        simp only [VR] at hx
        obtain ⟨b, o, rfl, hI, hr⟩ := hx
        have hdrop : ∀ (n : Nat) (r : List Tree) (o : Nat), TRow w I r b o → TRow w I (r.drop n) b (o + n) := by
          intro n
          induction n with
          | zero => intro r o h; simpa using h
          | succ n ih => intro r o h; cases r with
            | nil => simp [TRow]
            | cons x xs => simp only [TRow] at h; rw [List.drop_succ_cons, show o + (n + 1) = o + 1 + n by omega]; exact ih xs (o + 1) h.2
        have htake : ∀ (n : Nat) (r : List Tree) (o : Nat), TRow w I r b o → TRow w I (r.take n) b o := by
          intro n
          induction n with
          | zero => intro r o h; simp [TRow]
          | succ n ih => intro r o h; cases r with
            | nil => simp [TRow]
            | cons x xs => simp only [TRow] at h; simp only [List.take_succ_cons, TRow]; exact ⟨h.1, ih xs (o + 1) h.2⟩
        obtain ⟨vs, g1, g3⟩ := TRow.list (P := P) (β := β) _ _ _ (htake ti.size _ _ (hdrop off r o hr))
        obtain ⟨z, hz, hz2⟩ := run_loadVar_of ht (b := b) (o := o + off) hp g1 g3
        exact ⟨z, by simp [Instr.loadAt, Instr.sureAddr, hz], hz2, rfl⟩

theorem put'_length (r : List AV) (off : Nat) (cs : List AV) (h : off + cs.length ≤ r.length) : (put' r off cs).length = r.length := by
  simp [put', List.length_take, List.length_drop]; omega

theorem put'_get (r : List AV) (off : Nat) (cs : List AV) (h : off + cs.length ≤ r.length) (j : Nat) : (put' r off cs)[j]? = if j < off then r[j]? else if j < off + cs.length then cs[j - off]? else r[j]? := by
  unfold put'
  have h1 : (r.take off).length = off := by simp [List.length_take]; omega
  split
  · rw [List.append_assoc, List.getElem?_append_left (by omega), List.getElem?_take]; simp [*]
  · split
    · rw [List.append_assoc, List.getElem?_append_right (by omega), h1, List.getElem?_append_left (by omega)]
    · rw [List.getElem?_append_right (by simp; omega)]
      simp only [List.length_append, h1, List.getElem?_drop]
      congr 1; omega

/-- A store of cells into a row. -/
theorem run_storeVar_own (h : Mem P w0 O0 β I obj w) {t : TypeId} {ti : TyI} (ht : TyOk P t ti) {k : Nat} {o : AObj} {b sz n : Nat} (hk : obj k = some o) (hβ : β k = some (.at b sz n))
    {row off : Nat} {r : List AV} {cs : List AV} {v : Value} (hr : o.rows[row]? = some r) (hl : off + cs.length ≤ r.length) (hlen : cs.length = ti.size) (hcs : VRl P β w I cs v.cells.toList) (h1 : ∀ u ∈ v.cells.toList, oneCell u) :
    ∃ w', (storeVar t ⟨b, row * sz + off, none⟩ v).run P w = .ok () w' ∧ Same I w w' ∧ Mem P w0 O0 β I (updo obj [(k, some ⟨o.sz, o.rows.set row (put' r off cs)⟩)]) w' := by
  obtain ⟨B, hB, hO⟩ := h.objs k o hk
  rw [hβ] at hB; injection hB with hB; subst hB
  obtain ⟨hs, c, e, hc, hn, hO⟩ := hO
  have hO' := hO
  rw [ORows_iff] at hO
  have hrow := hO row r hr
  simp only [Nat.zero_add] at hrow
  have hvl := VRl.length _ _ hcs
  have hfit : row * sz + off + cs.length ≤ c.size := by
    by_cases h0 : r.length = 0
    · have : off + cs.length = 0 := by omega
      have hz : sz = 0 := by omega
      have : row * sz = 0 := by rw [hz]; simp
      omega
    · have hlast := (ORow_iff _ _ _).1 hrow.2 (r.length - 1) _ (List.getElem?_eq_getElem (by omega))
      obtain ⟨u, hu, _⟩ := hlast
      have := (Array.getElem?_eq_some_iff.1 hu).1
      omega
  have hst := run_storeCells_at P b (row * sz + off) e v.cells.toList 0 c w hc (by omega) (fun u hu => by
    have := h1 u hu
    cases u <;> first | rfl | exact this.elim)
  simp only [Nat.add_zero] at hst
  generalize hc' : (List.take (row * sz + off) c.toList ++ v.cells.toList ++ List.drop (row * sz + off + v.cells.toList.length) c.toList).toArray = c' at hst
  have hsize : c'.size = c.size := by rw [← hc']; simp [List.length_take, List.length_drop]; simp at hvl; omega
  refine ⟨w.setRow b c', ?_, ?_⟩
  · unfold storeVar
    simp only [Sem.run_bind, ht.size (w := w), Result.andThen_ok]
    rw [if_neg (by rw [← Array.length_toList]; omega)]
    simp only [hst]
  · have hget : ∀ j, c'[j]? = if j < row * sz + off then c[j]? else if j < row * sz + off + cs.length then v.cells.toList[j - (row * sz + off)]? else c[j]? := by
      intro j
      rw [← hc']
      have h1 : (c.toList.take (row * sz + off)).length = row * sz + off := by simp [List.length_take]; omega
      simp only [List.getElem?_toArray]
      split
      · rw [List.append_assoc, List.getElem?_append_left (by omega), List.getElem?_take, if_pos (by omega)]; simp
      · split
        · rw [List.append_assoc, List.getElem?_append_right (by omega), h1, List.getElem?_append_left (by omega)]
        · rw [List.getElem?_append_right (by simp only [List.length_append, h1]; omega)]
          simp only [List.length_append, h1, List.getElem?_drop, Array.getElem?_toList]
          congr 1; omega
    refine Mem.write h hk hβ (c' := c') (e := e) (setRow_heap w b c c' e (0, 0) hc) (fun b' hb => setRow_other w b b' c' hb) (by simp) rfl rfl rfl hs (by omega) ?_
    rw [← hs, ORows_iff]
    simp only
    intro i' r' hi'
    rw [List.getElem?_set] at hi'
    have other : ∀ (i' : Nat) (r' : List AV), i' ≠ row → o.rows[i']? = some r' → r'.length = sz ∧ ORow P β w I r' c' (0 + i' * sz) := by
      intro i' r' hne hi'
      have hh := hO i' r' hi'
      simp only [Nat.zero_add] at hh
      refine ⟨hh.1, ?_⟩
      rw [Nat.zero_add, ORow_iff]
      intro j x hx
      obtain ⟨u, hu⟩ := (ORow_iff _ _ _).1 hh.2 j x hx
      have hj : j < sz := by have := (List.getElem?_eq_some_iff.1 hx).1; omega
      refine ⟨u, ?_, hu.2⟩
      rw [hget]
      rcases Nat.lt_or_gt_of_ne hne with hlt | hgt
      · have : (i' + 1) * sz ≤ row * sz := Nat.mul_le_mul_right _ hlt
        rw [Nat.add_mul] at this
        rw [if_pos (by omega)]; exact hu.1
      · have : (row + 1) * sz ≤ i' * sz := Nat.mul_le_mul_right _ hgt
        rw [Nat.add_mul] at this
        rw [if_neg (by omega), if_neg (by omega)]; exact hu.1
    split at hi'
    · rename_i hrow'
      subst hrow'
      split at hi'
      · injection hi' with hi'
        subst hi'
        refine ⟨by rw [put'_length r off cs hl]; exact hrow.1, ?_⟩
        rw [Nat.zero_add, ORow_iff]
        intro j x hx
        rw [put'_get r off cs hl] at hx
        rw [hget]
        split at hx
        · rw [if_pos (by omega)]; exact (ORow_iff _ _ _).1 hrow.2 j x hx
        · split at hx
          · obtain ⟨u, hu, hr2⟩ := VRl.get _ _ _ _ hcs hx
            rw [if_neg (by omega), if_pos (by omega)]
            refine ⟨u, ?_, hr2, h1 u (List.mem_of_getElem? hu)⟩
            rw [← hu]; congr 1; omega
          · rw [if_neg (by omega), if_neg (by omega)]; exact (ORow_iff _ _ _).1 hrow.2 j x hx
      · cases hi'
    · exact other i' r' (by omega) hi'

theorem aStore_sound (hT : TabOk P T) (h : Mem P w0 O0 β I obj w) {t : TypeId} {x y : AV} {orc : Orc} {get : Nat → Option AObj} {out : Out} {v u : Value} (hg : ∀ k o, get k = some o → obj k = some o)
    (ha : aStore T t x y orc get = some out) (hob : out.ob) (hx : VR P β w I x v) (hy : VR P β w I y u) :
    ∃ w', (Instr.storeAt t v u).run P w = .ok () w' ∧ Same I w w' ∧ Mem P w0 O0 β I (updo obj out.upd) w' ∧ out.v = .undef := by
  unfold aStore at ha
  cases hti : T t with
  | none => simp [hti] at ha
  | some ti =>
    have ht := hT t ti hti
    simp only [hti, Option.bind_some] at ha
    cases hcs : cellsOf y with
    | none => simp [hcs] at ha
    | some cs =>
      simp only [hcs, Option.bind_some] at ha
      obtain ⟨hv1, hv2⟩ := cellsOf_sound hcs hy
      split at ha
      · rename_i hlen
        cases x <;> simp only [reduceCtorEq] at ha
        case ptr k row off =>
          cases hk : get k with
          | none => simp [hk] at ha
          | some o =>
            simp only [hk, Option.bind_some] at ha
            simp only [VR] at hx
            obtain ⟨b, sz, n, hβ, rfl⟩ := hx
            have fin : ∀ r, o.rows[row]? = some r → off + cs.length ≤ r.length → ∃ w', (Instr.storeAt t (.pointer (some ⟨b, row * sz + off, none⟩)) u).run P w = .ok () w' ∧ Same I w w' ∧ Mem P w0 O0 β I (updo obj [(k, some ⟨o.sz, o.rows.set row (put' r off cs)⟩)]) w' := by
              intro r hr hl
              obtain ⟨w', h1, h2, h3⟩ := run_storeVar_own h ht (hg k o hk) hβ hr hl hlen hv1 hv2
              exact ⟨w', by simp [Instr.storeAt, Instr.sureAddr, h1], h2, h3⟩
            cases orc
            case set r rs =>
              simp only at ha
              split at ha
              · rename_i hl
                injection ha with ha
                subst ha
                obtain ⟨hr, hrs⟩ := hob
                obtain ⟨w', h1, h2, h3⟩ := fin r hr hl
                subst hrs
                exact ⟨w', h1, h2, h3.wkAt, rfl⟩
              · cases ha
            all_goals
              cases hr : o.rows[row]? with
              | none => simp [hr] at ha
              | some r =>
                simp only [hr, Option.bind_some] at ha
                split at ha
                · rename_i hl
                  injection ha with ha
                  subst ha
                  obtain ⟨w', h1, h2, h3⟩ := fin r hr hl
                  exact ⟨w', h1, h2, h3, rfl⟩
                · cases ha
      · cases ha
end
end Go.Gb
