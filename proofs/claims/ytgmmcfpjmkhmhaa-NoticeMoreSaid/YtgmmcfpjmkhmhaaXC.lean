/-
  Each operation of the typed walk is what the abstract walk's operation does.
-/
import Derived.Test.YtgmmcfpjmkhmhaaXB
namespace Go.Gb
open Go.RowKit

section
variable {X : SX} {A : Type} {T : Tab} {code : TypeId → Option (CT X.ι)} {get : Nat → Option (DObj X)} {k : KK X A} {r : A} {i : Nat}

def aget (get : Nat → Option (DObj X)) : Nat → Option AObj := fun j => (get j).map denO

theorem restr_get {rd : List Nat} {j : Nat} {o : DObj X} (hj : j ∈ rd) (h : get j = some o) : restr rd (aget get) j = some (denO o) := by
  simp [restr, hj, aget, h]

theorem denL_length (l : List (DV X)) : (denL l).length = l.length := by simp [denL_map]

theorem denL_drop_take (l : List (DV X)) (a b : Nat) : denL ((l.drop a).take b) = ((denL l).drop a).take b := by
  simp [denL_map, List.map_take, List.map_drop]

theorem at_some {α : Type} {l : List α} {n : Int} {x : α} (h : at? l n = some x) : 0 ≤ n ∧ l[n.toNat]? = some x := by
  unfold at? at h
  by_cases hn : 0 ≤ n
  · simpa [hn] using h
  · simp [hn] at h

theorem pickD_den (t : Bool) (x y : DV X) : den (pickD t x y) = pickV t (den x) (den y) := by
  rw [pickV_eq]
  have base : ∀ x y : DV X, den (bif t then x else y) = if t = true then den x else den y := fun x y => by cases t <;> rfl
  unfold pickD
  split
  · rename_i a p b q
    split
    · rename_i h _
      subst h
      cases t <;> rfl
    · exact base _ _
  · exact base _ _

theorem partD_den {agg : Bool} {size : Nat} {cs : List (DV X)} {v : DV X} (h : partD agg size cs = some v) : part' agg size (denL cs) = some (den v) := by
  unfold partD at h
  unfold part'
  rw [denL_length]
  split at h
  · rename_i hl
    rw [if_pos hl]
    cases agg with
    | true => simp only [if_true, Option.some.injEq] at h ⊢; subst h; rfl
    | false =>
      simp only [Bool.false_eq_true, if_false] at h ⊢
      match cs, h with
      | [x], h =>
        simp only at h
        split at h
        · rename_i hx
          injection h with h
          subst h
          simp only [denL]
          rw [if_pos (cellOkD_den hx)]
        · cases h
      | [], h => cases h
      | _ :: _ :: _, h => cases h
  · cases h

theorem partC_den {agg : Bool} {size off : Nat} {c : CT X.ι} {y : CT.T X.toSE c} {v : DV X} (h : partD agg size (((cellsC c y).drop off).take size) = some v) : part' agg size ((((CT.row X.toSE c y).drop off).take size).map AV.t) = some (den v) := by
  have := partD_den h
  rw [denL_drop_take, cellsC_den] at this
  rw [← this, List.map_take, List.map_drop]

theorem partW_den {agg : Bool} {size off : Nat} {c : CT X.ι} {y : CT.T X.toSE c} {v : DV X} (h : partW agg size c y off = some v) : part' agg size ((((CT.row X.toSE c y).drop off).take size).map AV.t) = some (den v) := by
  cases c
  case st j =>
    simp only [partW] at h
    split at h
    · rename_i hh
      obtain ⟨rfl, rfl, rfl⟩ := hh
      injection h with h
      subst h
      have hl : (CT.row X.toSE (.st j) y).length = (X.tys j).length := row_sz (.st j) y
      rw [List.drop_zero, List.take_of_length_le (by omega)]
      unfold part'
      rw [if_pos (by simpa using hl)]
      rfl
    · exact partC_den h
  all_goals exact partC_den h

theorem ldD_sound {t : TypeId} {x : DV X} (h : ldD T t x get k = some r) : ∃ orc rd dv out, aLoad T t (den x) orc (restr rd (aget get)) = some out ∧ AllP out.obs ∧ out.v = den dv ∧ out.upd = [] ∧ k dv [] rd [] = some r := by
  unfold ldD at h
  unfold aLoad
  rw [Option.bind_eq_some_iff] at h; obtain ⟨ti, h1, h⟩ := h
  simp only [h1, Option.bind_some]
  split at h
  · rename_i kk row off
    rw [Option.bind_eq_some_iff] at h; obtain ⟨o, h2, h⟩ := h
    split at h
    · rename_i sz rows
      rw [Option.bind_eq_some_iff] at h; obtain ⟨rw', h3, h⟩ := h
      rw [Option.bind_eq_some_iff] at h; obtain ⟨v, h4, h⟩ := h
      refine ⟨.none, [kk], v, ⟨den v, [], []⟩, ?_, trivial, rfl, rfl, h⟩
      have h5 := partD_den h4
      rw [denL_drop_take] at h5
      simp [den, restr_get (List.mem_singleton_self kk) h2, denO, h3, h5, pv]
    · cases h
  · rename_i kk n off
    rw [Option.bind_eq_some_iff] at h; obtain ⟨o, h2, h⟩ := h
    split at h
    · rename_i c l
      rw [Option.bind_eq_some_iff] at h; obtain ⟨y, h3, h⟩ := h
      rw [Option.bind_eq_some_iff] at h; obtain ⟨v, h4, h⟩ := h
      obtain ⟨_, h6⟩ := at_some h3
      refine ⟨.row ((CT.row X.toSE c y).map AV.t), [kk], v, ⟨den v, [], [(avRows (l.map (CT.row X.toSE c)))[n.toNat]? = some ((CT.row X.toSE c y).map AV.t)]⟩, ?_, ?_, rfl, rfl, h⟩
      · have h5 := partW_den h4
        rw [List.map_take, List.map_drop] at h5
        simp only [den, restr_get (List.mem_singleton_self kk) h2, Option.bind_some, denO, h5, pvo]
      · simp [AllP, avRows, h6]
    · cases h
  · rename_i c y off
    rw [Option.bind_eq_some_iff] at h; obtain ⟨v, h4, h⟩ := h
    refine ⟨.none, [], v, ⟨den v, [], []⟩, ?_, trivial, rfl, rfl, h⟩
    simp only [den, partW_den h4, Option.bind_some, pv]
  · cases h

theorem putD_den (a : List (DV X)) (off : Nat) (cs : List (DV X)) : denL (putD a off cs) = put' (denL a) off (denL cs) := by
  simp [putD, put', denL_map, List.map_take, List.map_drop]

theorem castC_den {a c : CT X.ι} {x : CT.T X.toSE a} {y : CT.T X.toSE c} (h : castC a c x = some y) : den (.c a x) = den (.c c y) ∧ CT.row X.toSE a x = CT.row X.toSE c y := by
  obtain ⟨e, h⟩ := castC_some h
  subst e; subst h
  exact ⟨rfl, rfl⟩

theorem tv_one {c : CT X.ι} (hc : c.one = true) (x : CT.T X.toSE c) : [(CT.tv X.toSE c x).av] = (CT.row X.toSE c x).map AV.t := by
  obtain ⟨t, h1, h2⟩ := row_one hc x
  rw [h1, h2]; rfl

theorem wk_tv {c : CT X.ι} (x : CT.T X.toSE c) : wk (CT.tv X.toSE c x).av = (CT.tv X.toSE c x).av := by cases c <;> rfl

theorem dat1_den {d : DV X} {c : CT X.ι} {x : CT.T X.toSE c} (h : dat1 d c = some x) : wk (den d) = (CT.tv X.toSE c x).av := by
  unfold dat1 at h
  split at h
  · rw [(castC_den h).1]; exact wk_tv x
  · injection h with h; subst h; rfl
  · injection h with h; subst h; rfl
  · cases h

theorem dat1_ok {d : DV X} {c : CT X.ι} {x : CT.T X.toSE c} (hc : c.one = true) (h : dat1 d c = some x) : cellOkD d = true := by
  cases d
  case c a y =>
    obtain ⟨e, _⟩ := castC_some (show castC a c y = some x by cases c <;> exact h)
    subst e
    cases a <;> first | rfl | simp [CT.one] at hc
  case nil => rfl
  all_goals cases c <;> cases h

theorem readHL_den : ∀ {ds : List (DV X)} {l : List (CT X.ι)} {h : HL X.toSE l}, readHL ds l = some h → l.all CT.one = true → (denL ds).map wk = (HL.row X.toSE l h).map AV.t ∧ ds.all cellOkD = true
  | [], [], h, _, _ => ⟨rfl, rfl⟩
  | d :: ds, c :: l, h, hr, ha => by
    simp only [readHL] at hr
    rw [Option.bind_eq_some_iff] at hr; obtain ⟨x, h1, hr⟩ := hr
    rw [Option.bind_eq_some_iff] at hr; obtain ⟨g, h2, hr⟩ := hr
    injection hr with hr
    subst hr
    simp only [List.all_cons, Bool.and_eq_true] at ha ⊢
    obtain ⟨i1, i2⟩ := readHL_den h2 ha.2
    simp only [denL, List.map_cons, HL.row, List.map_append, i1, dat1_den h1, i2, and_true, dat1_ok ha.1 h1]
    simp [← tv_one ha.1 x]
  | [], _ :: _, _, hr, _ => by simp [readHL] at hr
  | _ :: _, [], _, hr, _ => by simp [readHL] at hr

theorem make_row (j : X.ι) (h : HL X.toSE (X.tys j)) : CT.row X.toSE (.st j) (X.make j h) = HL.row X.toSE (X.tys j) h := X.row_make j h

theorem mk1_den {c : CT X.ι} (hc : c.one = true) {ds : List (DV X)} {x : CT.T X.toSE c} (h : mk1 c ds = some x) : (denL ds).map wk = (CT.row X.toSE c x).map AV.t := by
  match ds, h with
  | [d], h =>
    rw [← tv_one hc x]
    simp only [denL, List.map_cons, List.map_nil, dat1_den h]
  | [], h => cases h
  | _ :: _ :: _, h => cases h

theorem mkRow_den {c : CT X.ι} {ds : List (DV X)} {x : CT.T X.toSE c} (h : mkRow c ds = some x) : (denL ds).map wk = (CT.row X.toSE c x).map AV.t := by
  cases c
  case st j =>
    simp only [mkRow] at h
    rw [Option.bind_eq_some_iff] at h; obtain ⟨g, h1, h⟩ := h
    injection h with h
    subst h
    rw [(readHL_den h1 (X.flat j)).1, make_row]
  all_goals exact mk1_den rfl h

theorem dat1_cells {d : DV X} {c : CT X.ι} (hc : c.one = true) {x : CT.T X.toSE c} (h : dat1 d c = some x) : ∃ cs, cellsOf (den d) = some cs ∧ cs.map wk = (CT.row X.toSE c x).map AV.t := by
  have hk := dat1_ok hc h
  have hd := dat1_den h
  have he : cellsOf (den d) = some [den d] := by
    have := cellsD_den (x := d) (cs := [d]) (by
      cases d
      case c t y => cases t <;> first | rfl | simp [cellOkD] at hk
      all_goals first | rfl | simp [cellOkD] at hk)
    simpa [denL] using this
  exact ⟨_, he, by rw [← tv_one hc x]; simp [hd]⟩

/-- A value that reads as data has cells that do. -/
theorem dat_cells {d : DV X} {c : CT X.ι} {x : CT.T X.toSE c} (h : dat d c = some x) : ∃ cs, cellsOf (den d) = some cs ∧ cs.map wk = (CT.row X.toSE c x).map AV.t := by
  cases c
  case st j =>
    replace h : datS d j = some x := h
    cases d
    case agg cs =>
      simp only [datS] at h
      rw [Option.bind_eq_some_iff] at h; obtain ⟨g, h1, h⟩ := h
      injection h with h
      subst h
      obtain ⟨i1, i2⟩ := readHL_den h1 (X.flat j)
      refine ⟨denL cs, ?_, by rw [i1, make_row]⟩
      simp only [den, cellsOf]
      rw [if_pos (all_den i2)]
    case c a y =>
      replace h : castC a (.st j) y = some x := h
      rw [(castC_den h).1]
      refine ⟨(CT.row X.toSE (.st j) x).map AV.t, ?_, ?_⟩
      · show cellsOf (.agg _) = _
        simp only [cellsOf]
        rw [if_pos]
        · rfl
        · rw [List.all_map, List.all_eq_true]; exact fun _ _ => rfl
      · rw [List.map_map]; rfl
    all_goals cases h
  all_goals exact dat1_cells rfl h

theorem stD_sound {t : TypeId} {x y : DV X} (h : stD T t x y get k = some r) : ∃ orc kk u out, aStore T t (den x) (den y) orc (restr [kk] (aget get)) = some out ∧ AllP out.obs ∧ out.v = .undef ∧ out.upd = denU [(kk, u)] ∧ k .undef [(kk, u)] [kk] [kk] = some r := by
  unfold stD at h
  unfold aStore
  rw [Option.bind_eq_some_iff] at h; obtain ⟨ti, h1, h⟩ := h
  rw [Option.bind_eq_some_iff] at h; obtain ⟨cs, h2, h⟩ := h
  simp only [h1, cellsD_den h2, Option.bind_some]
  split at h
  · rename_i hl
    have hdl : (denL cs).length = ti.size := by rw [denL_length]; exact hl
    simp only [hdl, if_true]
    split at h
    · rename_i kk row off
      rw [Option.bind_eq_some_iff] at h; obtain ⟨o, h3, h⟩ := h
      split at h
      · rename_i sz rows
        rw [Option.bind_eq_some_iff] at h; obtain ⟨rw', h4, h⟩ := h
        split at h
        · rename_i hle
          refine ⟨.none, kk, _, ⟨.undef, _, []⟩, ?_, trivial, rfl, rfl, h⟩
          simp only [den, restr_get (List.mem_singleton_self kk) h3, Option.bind_some, denO, List.getElem?_map, h4, Option.map_some, denL_length]
          rw [if_pos (by rw [← hl]; exact hle)]
          simp [denU, denO, putD_den]
        · cases h
      · cases h
    · rename_i kk n off
      rw [Option.bind_eq_some_iff] at h; obtain ⟨o, h3, h⟩ := h
      split at h
      · rename_i c l
        rw [Option.bind_eq_some_iff] at h; obtain ⟨z, h4, h⟩ := h
        split at h
        · rename_i hle
          rw [Option.bind_eq_some_iff] at h; obtain ⟨z', h5, h⟩ := h
          obtain ⟨_, h6⟩ := at_some h4
          refine ⟨.set ((CT.row X.toSE c z).map AV.t) (avRows ((l.set n.toNat z').map (CT.row X.toSE c))), kk, _, ⟨.undef, _, [(avRows (l.map (CT.row X.toSE c)))[n.toNat]? = some ((CT.row X.toSE c z).map AV.t) ∧ avRows ((l.set n.toNat z').map (CT.row X.toSE c)) = wkRows ((avRows (l.map (CT.row X.toSE c))).set n.toNat (put' ((CT.row X.toSE c z).map AV.t) off (denL cs)))]⟩, ?_, ?_, rfl, rfl, h⟩
          · simp only [den, restr_get (List.mem_singleton_self kk) h3, Option.bind_some, denO]
            rw [if_pos (by rw [List.length_map, row_sz, ← hl]; exact hle)]
            simp [denU, denO]
          · refine ⟨by simp [avRows, h6], ?_⟩
            have h7 := mkRow_den h5
            rw [putD_den, cellsC_den] at h7
            have hid : wkRows (avRows (l.map (CT.row X.toSE c))) = avRows (l.map (CT.row X.toSE c)) := by
              simp [wkRows, avRows, Function.comp_def, wk]
            simp only [wkRows, List.map_set, h7]
            have : (avRows (l.map (CT.row X.toSE c))).map (List.map wk) = avRows (l.map (CT.row X.toSE c)) := hid
            rw [this]
            simp [avRows]
        · cases h
      · cases h
    · cases h
  · cases h

theorem fieldAddrD_sound {t : TypeId} {x : DV X} {f : Nat} (h : fieldAddrD T t x f k = some r) : ∃ dv out, aFieldAddr T t (den x) f = some out ∧ AllP out.obs ∧ out.v = den dv ∧ out.upd = [] ∧ k dv [] [] [] = some r := by
  unfold fieldAddrD at h
  unfold aFieldAddr
  rw [Option.bind_eq_some_iff] at h; obtain ⟨⟨d, u⟩, h1, h⟩ := h
  simp only [h1, Option.bind_some]
  split at h
  · exact ⟨_, _, rfl, trivial, rfl, rfl, h⟩
  · exact ⟨_, _, rfl, trivial, rfl, rfl, h⟩
  · exact ⟨_, _, rfl, trivial, rfl, rfl, h⟩
  · cases h

theorem fieldD_sound {t : TypeId} {x : DV X} {f : Nat} (h : fieldD T t x f k = some r) : ∃ dv out, aField T t (den x) f = some out ∧ AllP out.obs ∧ out.v = den dv ∧ out.upd = [] ∧ k dv [] [] [] = some r := by
  unfold fieldD at h
  unfold aField
  rw [Option.bind_eq_some_iff] at h; obtain ⟨⟨d, u⟩, h1, h⟩ := h
  simp only [h1, Option.bind_some]
  split at h
  · rw [Option.bind_eq_some_iff] at h; obtain ⟨v, h2, h⟩ := h
    have h3 := partD_den h2
    rw [denL_drop_take] at h3
    exact ⟨v, ⟨den v, [], []⟩, by simp only [den, h3, Option.bind_some, pv], trivial, rfl, rfl, h⟩
  · rename_i j y
    rw [Option.bind_eq_some_iff] at h; obtain ⟨v, h2, h⟩ := h
    have h3 := partC_den h2
    rw [List.map_take, List.map_drop] at h3
    refine ⟨v, ⟨den v, [], []⟩, ?_, trivial, rfl, rfl, h⟩
    show (part' u.agg u.size (List.take u.size (List.drop d ((CT.row X.toSE (.st j) y).map AV.t)))).bind pv = _
    rw [h3]; rfl
  · cases h

theorem cond_some {α : Type} {b : Bool} {x : Option α} {r : α} (h : (bif b then x else none) = some r) : b = true ∧ x = some r := by
  cases b with
  | true => exact ⟨rfl, h⟩
  | false => cases h

theorem inb_spec {n : Int} {len : Nat} (h : inb n len = true) : 0 ≤ n ∧ n.toNat < len := by
  simp only [inb, Bool.and_eq_true, decide_eq_true_eq] at h; omega

theorem chkA_some {A : Type} : ∀ {cs : List Bool} {k : Option A} {r : A}, chkA cs k = some r → (∀ c ∈ cs, c = true) ∧ k = some r
  | [], _, _, h => ⟨by simp, h⟩
  | c :: cs, k, r, h => by
    obtain ⟨h1, h2⟩ := cond_some h
    obtain ⟨h3, h4⟩ := chkA_some h2
    exact ⟨fun x hx => (List.mem_cons.1 hx).elim (fun e => e ▸ h1) (h3 x), h4⟩

theorem indexAddrD_sound {t : TypeId} {x j : DV X} (h : indexAddrD T t x j get k = some r) : ∃ orc rd dv out, aIndexAddr T t (den x) (den j) orc (restr rd (aget get)) = some out ∧ AllP out.obs ∧ out.v = den dv ∧ out.upd = [] ∧ k dv [] rd [] = some r := by
  unfold indexAddrD at h
  unfold aIndexAddr
  rw [Option.bind_eq_some_iff] at h; obtain ⟨ti, h1, h⟩ := h
  simp only [h1, Option.bind_some]
  split at h
  · rename_i e kd n hk
    rw [Option.bind_eq_some_iff] at h; obtain ⟨ei, h2, h⟩ := h
    simp only [hk, den, CT.tv, TV.av, h2, Option.bind_some]
    split at h
    · rename_i c l
      split at h
      · rename_i hs
        rw [Option.bind_eq_some_iff] at h; obtain ⟨y, h3, h⟩ := h
        obtain ⟨h4, h5⟩ := at_some h3
        refine ⟨.trow (CT.row X.toSE c y), [], _, ⟨.rptr (CT.row X.toSE c y) 0, [], [0 ≤ n ∧ (l.map (CT.row X.toSE c))[n.toNat]? = some (CT.row X.toSE c y)]⟩, ?_, ?_, rfl, rfl, h⟩
        · simp only [den, CT.tv, TV.av]
          rw [if_pos (by rw [row_sz]; exact hs)]; rfl
        · exact ⟨h4, by simp [h5]⟩
      · cases h
    · rename_i kk off len
      rw [Option.bind_eq_some_iff] at h; obtain ⟨o, h3, h⟩ := h
      split at h
      · rename_i c l
        split at h
        · rename_i hs
          obtain ⟨h4, h⟩ := cond_some h
          obtain ⟨h5, h6⟩ := inb_spec h4
          refine ⟨.none, [kk], _, ⟨.ptr kk (off + n.toNat) 0, [], [0 ≤ n ∧ n.toNat < len]⟩, ?_, ⟨h5, h6⟩, ?_, rfl, h⟩
          · simp only [den, restr_get (List.mem_singleton_self kk) h3, Option.bind_some, denO]
            rw [if_pos hs]; rfl
          · simp only [den, iN]
            congr 1
            show off + Int.toNat n = Int.toNat ((off : Int) + n)
            have : (0 : Int) ≤ n := h5
            omega
        · cases h
      · rename_i sz rows
        split at h
        · rename_i hs
          obtain ⟨h4, h⟩ := cond_some h
          obtain ⟨h5, h6⟩ := inb_spec h4
          refine ⟨.none, [kk], _, ⟨.ptr kk (off + n.toNat) 0, [], [0 ≤ n ∧ n.toNat < len]⟩, ?_, ⟨h5, h6⟩, rfl, rfl, h⟩
          simp only [den, restr_get (List.mem_singleton_self kk) h3, Option.bind_some, denO]
          rw [if_pos hs]; rfl
        · cases h
    · cases h
  · rename_i m e kd n hk
    rw [Option.bind_eq_some_iff] at h; obtain ⟨ei, h2, h⟩ := h
    simp only [hk, den, CT.tv, TV.av, h2, Option.bind_some]
    obtain ⟨h4, h⟩ := cond_some h
    obtain ⟨h5, h6⟩ := inb_spec h4
    split at h
    · exact ⟨.none, [], _, _, rfl, ⟨h5, h6⟩, rfl, rfl, h⟩
    · exact ⟨.none, [], _, _, rfl, ⟨h5, h6⟩, rfl, rfl, h⟩
    · exact ⟨.none, [], _, _, rfl, ⟨h5, h6⟩, rfl, rfl, h⟩
    · cases h
  · cases h

theorem extractD_sound {x : DV X} {j : Nat} (h : extractD x j k = some r) : ∃ dv out, aExtract (den x) j = some out ∧ AllP out.obs ∧ out.v = den dv ∧ out.upd = [] ∧ k dv [] [] [] = some r := by
  unfold extractD at h
  split at h
  · rw [Option.bind_eq_some_iff] at h; obtain ⟨v, h2, h⟩ := h
    refine ⟨v, ⟨den v, [], []⟩, ?_, trivial, rfl, rfl, h⟩
    simp [aExtract, den, denL_map, h2, pv]
  · cases h
end
end Go.Gb
