/-
  What the printed functions of packages offset, parcel and notice come to, in few towns.
-/
import Derived.Test.YtgmmcfpjmkhmhaaSpRg2
namespace Go.Proofs
open Go.Gb Go.RowKit

/-! ### Gaps -/
def gapR (a b : GRect) : Int := bif (!OkR a || !OkR b) then -1 else max (max 0 (IntKind.i64.wrap ((max a.x0 b.x0) - (min a.x1 b.x1)))) (IntKind.i64.wrap ((max a.y0 b.y0) - (min a.y1 b.y1)))

theorem r_Gap_eq (a b : GRect) : r_Gap a b = some (gapR a b) := by
  unfold r_Gap gapR
  rw [r_Right_eq, r_Right_eq]
  simp only [Option.bind_some]
  cases OkR a <;> cases OkR b <;> rfl

def gapL (a b : List GRect) : Int × Bool :=
  bif (decide (a = []) || (decide (b = []) || (!rightL a || !rightL b))) then (0, false) else (a.foldl (fun m x => b.foldl (fun m y => min m (gapR x y)) m) 1048576, true)

theorem of_Gap_s2_run {n : Nat} {b : List GRect} (hb : b.length < 1099511627776) (hn : b.length < n) (x : GRect) (m : Int) : iter (of_Gap_s2 b x) n (m, (0 : Int)) = some (b.foldl (fun m y => min m (gapR x y)) m) := by
  have := iter_fold (l := b) (step := of_Gap_s2 b x) (fun i (s : Int) => (s, ((i : Nat) : Int))) (fun y m => min m (gapR x y)) (fun s => s) (fun i hi s => ?_) (fun s => by simp [of_Gap_s2]) n hn m
  · exact this
  · have hi' : decide (((i : Nat) : Int) < (b.length : Int)) = true := by simpa using hi
    simp only [of_Gap_s2, hi', cond_true, at_get hi, Option.bind_some, r_Gap_eq]
    rw [wrap_succ (by omega)]

theorem of_Gap_eq {n : Nat} {a b : List GRect} (ha : a.length ≤ 6) (hb : b.length ≤ 6) (hn : 200 ≤ n) : of_Gap n a b = some (gapL a b) := by
  unfold of_Gap gapL
  have z : ∀ l : List GRect, (((l.length : Int)) == 0) = decide (l = []) := fun l => by cases l <;> simp <;> omega
  rw [z a, z b, rg_Right_eq ha hn, rg_Right_eq hb hn]
  have loop : (iter (of_Gap_s1 n a b) n ((1048576 : Int), (0 : Int))) = some (a.foldl (fun m x => b.foldl (fun m y => min m (gapR x y)) m) 1048576) := by
    have := iter_fold (l := a) (step := of_Gap_s1 n a b) (fun i (s : Int) => (s, ((i : Nat) : Int))) (fun x m => b.foldl (fun m y => min m (gapR x y)) m) (fun s => s) (fun i hi s => ?_) (fun s => by simp [of_Gap_s1]) n (by omega) 1048576
    · exact this
    · have hi' : decide (((i : Nat) : Int) < (a.length : Int)) = true := by simpa using hi
      simp only [of_Gap_s1, hi', cond_true, at_get hi, Option.bind_some]
      rw [of_Gap_s2_run (by omega) (by omega), Option.bind_some, wrap_succ (by omega)]
  simp only [Option.bind_some, loop]
  cases decide (a = []) <;> cases decide (b = []) <;> cases rightL a <;> cases rightL b <;> rfl

/-! ### Lots -/
def noLot : GLot := GLot.mk 0 0 [] []
def findLot (land : List GLot) (id : Int) : GLot × Bool := match land.find? fun t => t.id == id with
  | some t => (t, true)
  | none => (noLot, false)

abbrev LotOk (t : GLot) : Prop := t.area.length ≤ 6 ∧ t.from_.length ≤ 10

theorem pc_clone_eq {t : GLot} (h : LotOk t) : pc_clone t = some t := by
  unfold pc_clone
  rw [sl_Clone_Rect_eq (by omega), Option.bind_some, sl_Clone_int_eq (by omega), Option.bind_some]
  simp only [sub_all, eqL_self, cond_true]

theorem findL_find {α : Type} (p : α → Bool) (l : List α) : (∃ (i : Nat) (h : i < l.length), findL p l = some i ∧ l.find? p = some l[i]) ∨ (findL p l = none ∧ l.find? p = none) := by
  rcases findL_spec p l with ⟨i, hi, h1, h2, h3⟩ | ⟨h1, h2⟩
  · refine .inl ⟨i, hi, h1, ?_⟩
    rw [List.find?_eq_some_iff_getElem]
    exact ⟨h2, i, hi, rfl, fun j hj => by simpa using h3 j hj⟩
  · refine .inr ⟨h1, ?_⟩
    rw [List.find?_eq_none]
    intro x hx; rw [h2 x hx]; simp

theorem pc_Find_eq {n : Nat} {land : List GLot} {id : Int} (h : ∀ t ∈ land, LotOk t) (hl : land.length < 1099511627776) (hn : land.length < n) : pc_Find n land id = some (findLot land id) := by
  unfold pc_Find
  have := iter_find (l := land) (step := pc_Find_s1 land id) (fun i => (i : Int)) (fun t => t.id == id) () (fun i => (land.getD i noLot, true)) (fun i hi => ?_) ?_ n hn
  · rw [show ((0 : Nat) : Int) = 0 from rfl] at this
    rw [this]
    unfold findLot
    rcases findL_find (fun t : GLot => t.id == id) land with ⟨i, hi, h1, h2⟩ | ⟨h1, h2⟩
    · rw [h1, h2]; simp [hi]
    · rw [h1, h2]; rfl
  · have hi' : decide (((i : Nat) : Int) < (land.length : Int)) = true := by simpa using hi
    simp only [pc_Find_s1, hi', cond_true, at_get hi, Option.bind_some, pc_clone_eq (h _ (List.getElem_mem hi))]
    cases land[i].id == id with
    | true => simp [hi]
    | false => simp only [cond_false]; rw [wrap_succ (by omega)]
  · simp [pc_Find_s1]

theorem findLot_ok {land : List GLot} (h : ∀ t ∈ land, LotOk t) (id : Int) : LotOk (findLot land id).1 := by
  unfold findLot
  split
  · rename_i t ht
    exact h t (List.mem_of_find?_eq_some ht)
  · simp [LotOk, noLot]

def isNear (t : GLot) (id d : Int) (u : GLot) : Bool := (gapL t.area u.area).2 && (decide ((gapL t.area u.area).1 ≤ d) && (u.id != id))
def nearIds (land : List GLot) (t : GLot) (id d : Int) : List Int := (land.filter fun u => isNear t id d u).map (·.id)
def nearL (land : List GLot) (id d : Int) : List Int :=
  bif (findLot land id).2 then setL (nearIds land (findLot land id).1 id d) else []

theorem pc_Near_s1_run {n : Nat} {land : List GLot} (hl : land.length < 10995116277) (hn : land.length < n) : iter (pc_Near_s1 land) n ((0 : Int), ([] : List (List GRect))) = some (land.map (·.area)) := by
  have := iter_to (step := pc_Near_s1 land) (fun i => (((i : Nat) : Int), (land.take i).map (·.area))) land.length (land.map (·.area)) (fun i hi => ?_) ?_ n hn
  · simpa using this
  · have hi' : decide (((i : Nat) : Int) < (land.length : Int)) = true := by simpa using hi
    have ap : appOk ((land.take i).map (·.area)).length ((land.take i).map (·.area)).length (sub ([land[i].area] : List (List GRect)) 0 1).length 1 24 = true := by
      refine appOk_true (n := 1) ?_ ?_
      · rw [List.length_map, List.length_take]; omega
      · rw [List.length_map, List.length_take]; simp only [maxLen]; omega
    simp only [pc_Near_s1, hi', cond_true, at_get hi, Option.bind_some, ap, letv_eq, eqL_self]
    rw [wrap_succ (by omega), List.take_succ_eq_append_getElem hi, List.map_append]
    rfl
  · simp [pc_Near_s1]

theorem pc_Near_eq {n : Nat} {land : List GLot} {id d : Int} (h : ∀ t ∈ land, LotOk t) (hl : land.length ≤ 8) (hn : 200 ≤ n) : pc_Near n land id d = some (nearL land id d) := by
  unfold pc_Near nearL
  rw [pc_Find_eq h (by omega) (by omega)]
  simp only [Option.bind_some]
  cases hf : (findLot land id).2 with
  | false => rfl
  | true =>
    have ht := findLot_ok h id
    simp only [Bool.not_true, cond_false, List.length_nil, eqL_self, cond_true, pc_Near_s1_run (land := land) (n := n) (by omega) (by omega), Option.bind_some]
    have key : iter (pc_Near_s2 n land id d (findLot land id) (land.map (·.area))) n ((0 : Int), ([] : List Int)) = some (nearIds land (findLot land id).1 id d) := by
      have := iter_foldI (l := land) (step := pc_Near_s2 n land id d (findLot land id) (land.map (·.area))) (fun i (s : List Int) => (((i : Nat) : Int), s)) (fun u s => bif isNear (findLot land id).1 id d u then s ++ [u.id] else s) (fun s => s) (fun i s => s.length ≤ i)
        (fun i hi s hs => ?_) (fun s hs => by simp [pc_Near_s2]) n (by omega) [] (Nat.le_refl _)
      · rw [show ((0 : Nat) : Int) = 0 from rfl] at this
        rw [this]
        have gen : ∀ (ys : List GLot) (s : List Int), ys.foldl (fun s u => bif isNear (findLot land id).1 id d u then s ++ [u.id] else s) s = s ++ nearIds ys (findLot land id).1 id d := by
          intro ys
          induction ys with
          | nil => intro s; simp [nearIds]
          | cons y ys ih =>
            intro s
            simp only [List.foldl_cons, ih, nearIds]
            cases hy : isNear (findLot land id).1 id d y <;> simp [hy]
        rw [gen]; simp
      · have hlm : (land.map (·.area)).length = land.length := by simp
        have hi' : decide (((i : Nat) : Int) < (((land.map (·.area)).length : Nat) : Int)) = true := by rw [hlm]; simpa using hi
        have ib : inb ((i : Nat) : Int) (land.map (·.area)).length = true := inb_get (by omega)
        have g : at? (land.map (·.area)) (((0 : Nat) : Int) + ((i : Nat) : Int)) = some land[i].area := by rw [at_natz]; simp [hi]
        have hu := h _ (List.getElem_mem hi)
        have ap : appOk s.length s.length (sub ([land[i].id] : List Int) 0 1).length 1 8 = true := appOk_true (n := 1) (by omega) (by simp only [maxLen]; omega)
        have gp : of_Gap n (findLot land id).1.area land[i].area = some (gapL (findLot land id).1.area land[i].area) := of_Gap_eq ht.1 hu.1 hn
        simp only [pc_Near_s2, hi', cond_true, ib, g, Option.bind_some, gp, at_get hi]
        have e : ((bif (gapL (findLot land id).1.area land[i].area).2 then (bif (decide ((gapL (findLot land id).1.area land[i].area).1 ≤ d)) then some (land[i].id != id) else some false) else some false) : Option Bool) = some (isNear (findLot land id).1 id d land[i]) := by
          unfold isNear
          cases (gapL (findLot land id).1.area land[i].area).2 <;> cases decide ((gapL (findLot land id).1.area land[i].area).1 ≤ d) <;> rfl
        rw [e]
        simp only [Option.bind_some]
        cases isNear (findLot land id).1 id d land[i] with
        | true =>
          simp only [cond_true, ap, letv_eq, eqL_self, Option.bind_some]
          refine ⟨?_, by simp; omega⟩
          rw [wrap_succ (by omega)]; rfl
        | false =>
          simp only [cond_false, eqL_self, cond_true, Option.bind_some]
          exact ⟨by rw [wrap_succ (by omega)], by omega⟩
    have hlen : (nearIds land (findLot land id).1 id d).length ≤ 8 := by
      unfold nearIds
      rw [List.length_map]
      exact Nat.le_trans (List.length_filter_le _ _) hl
    rw [key]
    simp only [Option.bind_some, eqL_self, cond_true]
    rw [sl_Sort_int_eq (by omega) (by omega)]
    simp only [Option.bind_some, length_isort, eqL_self, cond_true]
    rw [sl_Compact_int_eq (by rw [length_isort]; omega) (by rw [length_isort]; omega)]
    simp only [Option.bind_some, sub_all, eqL_self, cond_true]
    rfl

/-! ### Distances -/
def noticeB : ByteArray := ⟨#[110, 111, 116, 105, 99, 101]⟩
def rowT (t : GTable) (name : ByteArray) : Int := match t.rows.find? fun e => ByteArray.toList e.name == ByteArray.toList name with
  | some e => e.n
  | none => t.else_
def rowL (tables : List GTable) (name : ByteArray) : Int := match tables.find? fun t => ByteArray.toList t.name == ByteArray.toList noticeB with
  | some t => rowT t name
  | none => 0

theorem idxL_cases {α : Type} (p : α → Bool) (l : List α) : (∃ (i : Nat) (h : i < l.length), idxL p l = (i : Int) ∧ l.find? p = some l[i]) ∨ (idxL p l = -1 ∧ l.find? p = none) := by
  rcases findL_find p l with ⟨i, hi, h1, h2⟩ | ⟨h1, h2⟩
  · exact .inl ⟨i, hi, by simp [idxL, h1], h2⟩
  · exact .inr ⟨by simp [idxL, h1], h2⟩

theorem nt_row_eq {n : Nat} {p : GPlan} {name : ByteArray} (h : p.tables.length < n) (hl : p.tables.length < 1099511627776) (hr : ∀ t ∈ p.tables, t.rows.length < n ∧ t.rows.length < 1099511627776) : nt_row n p name = some (rowL p.tables name) := by
  unfold nt_row rowL
  rw [sl_IndexFunc_Table_eq (fun t => ByteArray.toList t.name == ByteArray.toList noticeB) (fun x _ => rfl) hl h]
  simp only [Option.bind_some]
  rcases idxL_cases (fun t : GTable => ByteArray.toList t.name == ByteArray.toList noticeB) p.tables with ⟨i, hi, h1, h2⟩ | ⟨h1, h2⟩
  · rw [h1, h2]
    have d : decide (((i : Nat) : Int) < 0) = false := by simp
    obtain ⟨r1, r2⟩ := hr _ (List.getElem_mem hi)
    simp only [d, cond_false, at_get hi, Option.bind_some]
    rw [sl_IndexFunc_Entry_eq (fun e => ByteArray.toList e.name == ByteArray.toList name) (fun x _ => rfl) r2 r1]
    simp only [Option.bind_some, rowT]
    rcases idxL_cases (fun e : GEntry => ByteArray.toList e.name == ByteArray.toList name) p.tables[i].rows with ⟨j, hj, g1, g2⟩ | ⟨g1, g2⟩
    · rw [g1, g2]
      have d : decide (((j : Nat) : Int) < 0) = false := by simp
      simp only [d, cond_false, at_get hj, Option.bind_some]
    · rw [g1, g2]; rfl
  · rw [h1, h2]; rfl

def useNames : List ByteArray := [⟨#[104, 111, 109, 101]⟩, ⟨#[115, 104, 111, 112]⟩, ⟨#[119, 111, 114, 107]⟩, ⟨#[112, 97, 114, 107]⟩, ⟨#[112, 108, 97, 110, 116]⟩, ⟨#[104, 97, 108, 108]⟩]
def nameOf (use : Int) : Option ByteArray := at? useNames use
def volD (tables : List GTable) (m : Int) (v : GVolume) : Int := match nameOf v.use with
  | some nm => max m (rowL tables nm)
  | none => m
def distP (tables : List GTable) (m : Int) (ph : GPhase) : Int := ph.volumes.foldl (volD tables) m
def distL (tables : List GTable) (d : GDrawing) : Int := d.phases.foldl (distP tables) 0

abbrev TabsOk (ts : List GTable) : Prop := ts.length ≤ 4 ∧ ∀ t ∈ ts, t.rows.length ≤ 10
abbrev DrawOk (d : GDrawing) : Prop := d.phases.length ≤ 5 ∧ ∀ p ∈ d.phases, p.volumes.length ≤ 4

theorem nt_Distance_s2_run {n : Nat} {p : GPlan} (hp : TabsOk p.tables) {ph : GPhase} (hv : ph.volumes.length ≤ 4) (hn : 200 ≤ n) (m : Int) : iter (nt_Distance_s2 n p ph) n (m, (0 : Int)) = some (distP p.tables m ph) := by
  have := iter_fold (l := ph.volumes) (step := nt_Distance_s2 n p ph) (fun i (s : Int) => (s, ((i : Nat) : Int))) (fun v m => volD p.tables m v) (fun s => s) (fun i hi s => ?_) (fun s => by simp [nt_Distance_s2]) n (by omega) m
  · exact this
  · have hi' : decide (((i : Nat) : Int) < (ph.volumes.length : Int)) = true := by simpa using hi
    have rw1 : ∀ nm, nt_row n p nm = some (rowL p.tables nm) := fun nm => nt_row_eq (by omega) (by omega) (fun t ht => by have := hp.2 t ht; omega)
    simp only [nt_Distance_s2, hi', cond_true, at_get hi, Option.bind_some]
    have e : ((bif (decide (ph.volumes[i].use ≥ (0 : Int))) then some (decide (ph.volumes[i].use < (6 : Int))) else some false) : Option Bool) = some (inb ph.volumes[i].use 6) := by
      simp only [bifand, inb]; rfl
    rw [e]
    simp only [Option.bind_some, volD, nameOf]
    cases hb : inb ph.volumes[i].use 6 with
    | true =>
      have hb2 : 0 ≤ ph.volumes[i].use ∧ ph.volumes[i].use < 6 := by simpa [inb] using hb
      obtain ⟨k, hk⟩ : ∃ k : Nat, ph.volumes[i].use = (k : Int) := ⟨ph.volumes[i].use.toNat, by omega⟩
      have hk6 : k < useNames.length := by have : useNames.length = 6 := rfl; omega
      have g : at? useNames ph.volumes[i].use = some useNames[k] := by rw [hk]; exact at_get hk6
      have g' : at? ([⟨#[104, 111, 109, 101]⟩, ⟨#[115, 104, 111, 112]⟩, ⟨#[119, 111, 114, 107]⟩, ⟨#[112, 97, 114, 107]⟩, ⟨#[112, 108, 97, 110, 116]⟩, ⟨#[104, 97, 108, 108]⟩] : List ByteArray) ph.volumes[i].use = some useNames[k] := g
      simp only [cond_true, g', Option.bind_some, rw1, g]
      rw [wrap_succ (by omega)]
    | false =>
      have g : at? useNames ph.volumes[i].use = none := by
        have hb2 : ¬ (0 ≤ ph.volumes[i].use ∧ ph.volumes[i].use < 6) := by intro hc; rw [show inb ph.volumes[i].use 6 = true by simpa [inb] using hc] at hb; cases hb
        by_cases h0 : 0 ≤ ph.volumes[i].use
        · obtain ⟨k, hk⟩ : ∃ k : Nat, ph.volumes[i].use = (k : Int) := ⟨ph.volumes[i].use.toNat, by omega⟩
          rw [hk, at_nat]
          exact List.getElem?_eq_none (by have : useNames.length = 6 := rfl; omega)
        · simp [at?, h0]
      simp only [cond_false, g, Option.bind_some]
      rw [wrap_succ (by omega)]

theorem nt_Distance_eq {n : Nat} {p : GPlan} (hp : TabsOk p.tables) {d : GDrawing} (hd : DrawOk d) (hn : 200 ≤ n) : nt_Distance n p d = some (distL p.tables d) := by
  unfold nt_Distance
  have := iter_fold (l := d.phases) (step := nt_Distance_s1 n p d) (fun i (s : Int) => (s, ((i : Nat) : Int))) (fun ph m => distP p.tables m ph) (fun s => s) (fun i hi s => ?_) (fun s => by simp [nt_Distance_s1]) n (by omega) 0
  · rw [show ((0 : Nat) : Int) = 0 from rfl] at this
    rw [this]; rfl
  · have hi' : decide (((i : Nat) : Int) < (d.phases.length : Int)) = true := by simpa using hi
    simp only [nt_Distance_s1, hi', cond_true, at_get hi, Option.bind_some]
    rw [nt_Distance_s2_run hp (hd.2 _ (List.getElem_mem hi)) hn, Option.bind_some, wrap_succ (by omega)]

theorem nt_Days_eq {n : Nat} {p : GPlan} (hp : TabsOk p.tables) (hn : 200 ≤ n) : nt_Days n p = some (max 0 (rowL p.tables ⟨#[100, 97, 121, 115]⟩)) := by
  unfold nt_Days
  rw [nt_row_eq (by omega) (by omega) (fun t ht => by have := hp.2 t ht; omega)]
  rfl

/-! ### Owners -/
abbrev TownOk (t : GTown) : Prop := t.land.length ≤ 8 ∧ (∀ l ∈ t.land, LotOk l) ∧ TabsOk t.plan_tables
def planOf (a0 : GTown) : GPlan := GPlan.mk a0.plan_defs a0.plan_tables a0.plan_zones a0.plan_rules a0.plan_caps a0.plan_views a0.plan_sun a0.plan_hours
def lotsL (t : GTown) (d : GDrawing) : List Int := nearL t.land d.lot (distL t.plan_tables d)
def ownersOf (t : GTown) (ids : List Int) : List Int := ids.map fun id => (findLot t.land id).1.owner
def ownersL (t : GTown) (d : GDrawing) : List Int := setL (ownersOf t (lotsL t d))

theorem length_setL (l : List Int) : (setL l).length ≤ l.length := by
  unfold setL
  have := length_compactL (isort (fun a b => decide (a < b)) l)
  rwa [length_isort] at this

theorem length_nearL (land : List GLot) (id d : Int) : (nearL land id d).length ≤ land.length := by
  unfold nearL
  cases (findLot land id).2 with
  | true =>
    refine Nat.le_trans (length_setL _) ?_
    unfold nearIds
    rw [List.length_map]
    exact List.length_filter_le _ _
  | false => simp

theorem nt_Lots_eq {n : Nat} {t : GTown} (ht : TownOk t) {d : GDrawing} (hd : DrawOk d) (hn : 200 ≤ n) : nt_Lots n t d = some (lotsL t d) := by
  unfold nt_Lots
  have h1 : nt_Distance n (GPlan.mk t.plan_defs t.plan_tables t.plan_zones t.plan_rules t.plan_caps t.plan_views t.plan_sun t.plan_hours) d = some (distL t.plan_tables d) := nt_Distance_eq (p := planOf t) ht.2.2 hd hn
  rw [h1, Option.bind_some, pc_Near_eq ht.2.1 ht.1 hn]
  simp only [Option.bind_some, sub_all, eqL_self, cond_true]
  rfl

theorem nt_Owners_eq {n : Nat} {t : GTown} (ht : TownOk t) {d : GDrawing} (hd : DrawOk d) (hn : 200 ≤ n) : nt_Owners n t d = some (ownersL t d) := by
  unfold nt_Owners
  rw [nt_Lots_eq ht hd hn]
  have hlen : (lotsL t d).length ≤ 8 := Nat.le_trans (length_nearL _ _ _) ht.1
  have key : iter (nt_Owners_s1 n t (lotsL t d)) n ((0 : Int), ([] : List Int)) = some (ownersOf t (lotsL t d)) := by
    have := iter_to (step := nt_Owners_s1 n t (lotsL t d)) (fun i => (((i : Nat) : Int), ownersOf t ((lotsL t d).take i))) (lotsL t d).length (ownersOf t (lotsL t d)) (fun i hi => ?_) ?_ n (by omega)
    · simpa [ownersOf] using this
    · have hi' : decide (((i : Nat) : Int) < (((lotsL t d).length : Nat) : Int)) = true := by simpa using hi
      have ap : appOk (ownersOf t ((lotsL t d).take i)).length (ownersOf t ((lotsL t d).take i)).length (sub ([(findLot t.land (lotsL t d)[i]).1.owner] : List Int) 0 1).length 1 8 = true := by
        refine appOk_true (n := 1) ?_ ?_
        · unfold ownersOf; rw [List.length_map, List.length_take]; omega
        · unfold ownersOf; rw [List.length_map, List.length_take]; simp only [maxLen]; omega
      simp only [nt_Owners_s1, hi', cond_true, inb_get hi, at_getz hi, Option.bind_some]
      rw [pc_Find_eq ht.2.1 (by have := ht.1; omega) (by have := ht.1; omega)]
      simp only [Option.bind_some, ap, cond_true, letv_eq, eqL_self]
      rw [wrap_succ (by omega), List.take_succ_eq_append_getElem hi]
      simp only [ownersOf, List.map_append]
      rfl
    · simp [nt_Owners_s1, ownersOf]
  simp only [Option.bind_some, List.length_nil, eqL_self, cond_true, key]
  have hol : (ownersOf t (lotsL t d)).length ≤ 8 := by unfold ownersOf; rw [List.length_map]; exact hlen
  rw [sl_Sort_int_eq (by omega) (by omega)]
  simp only [Option.bind_some, length_isort, eqL_self, cond_true]
  rw [sl_Compact_int_eq (by rw [length_isort]; omega) (by rw [length_isort]; omega)]
  simp only [Option.bind_some, sub_all, eqL_self, cond_true]
  rfl

theorem length_ownersL {t : GTown} (ht : TownOk t) (d : GDrawing) : (ownersL t d).length ≤ 8 := by
  refine Nat.le_trans (length_setL _) ?_
  unfold ownersOf
  rw [List.length_map]
  exact Nat.le_trans (length_nearL _ _ _) ht.1

def addedL (t : GTown) (d x : GDrawing) : List Int := (ownersL t x).filter fun o => !((ownersL t d).any fun y => o == y)

theorem nt_Added_eq {n : Nat} {t : GTown} (ht : TownOk t) {d x : GDrawing} (hd : DrawOk d) (hx : DrawOk x) (hn : 200 ≤ n) : nt_Added n t d x = some (addedL t d x) := by
  unfold nt_Added
  have l1 := length_ownersL ht d
  have l2 := length_ownersL ht x
  rw [nt_Owners_eq ht hd hn, nt_Owners_eq ht hx hn]
  simp only [Option.bind_some, sub_all, eqL_self, cond_true]
  rw [sl_DeleteFunc_int_eq (fun o => (ownersL t d).any fun y => o == y) (fun o _ => by
    show nt_Added_f1 n o (ownersL t d) = _
    unfold nt_Added_f1
    rw [sl_Contains_int_eq (by omega) (by omega)]; rfl) (by omega) (by omega)]
  simp only [Option.bind_some, sub_all, eqL_self, cond_true]
  rfl

def mayL (t : GTown) (d : GDrawing) (party : Int) : Bool := ((ownersL t d).any fun y => party == y) && ((findLot t.land d.lot).2 && ((findLot t.land d.lot).1.owner != party))

theorem nt_May_eq {n : Nat} {t : GTown} (ht : TownOk t) {d : GDrawing} (hd : DrawOk d) {party : Int} (hn : 200 ≤ n) : nt_May n t d party = some (mayL t d party) := by
  unfold nt_May mayL
  have l1 := length_ownersL ht d
  rw [pc_Find_eq ht.2.1 (by have := ht.1; omega) (by have := ht.1; omega), nt_Owners_eq ht hd hn]
  simp only [Option.bind_some, sub_all, eqL_self, cond_true]
  rw [sl_Contains_int_eq (by omega) (by omega)]
  simp only [Option.bind_some, bifand]

/-! ### The law's own functions -/
theorem q35_Has_eq {n : Nat} {l : List Int} {a : Int} (hl : l.length < 1099511627776) (hn : l.length < n) : q35_Has n l a = some (l.any fun x => x == a) := by
  unfold q35_Has
  have := iter_find (l := l) (step := q35_Has_s1 l a) (fun i => (i : Int)) (fun x => x == a) () (fun _ => true) (fun i hi => ?_) ?_ n hn
  · rw [show ((0 : Nat) : Int) = 0 from rfl] at this
    rw [this, ← findL_isSome]
    cases findL (fun x => x == a) l <;> rfl
  · have hi' : decide (((i : Nat) : Int) < (l.length : Int)) = true := by simpa using hi
    simp only [q35_Has_s1, hi', cond_true, at_get hi, Option.bind_some]
    cases l[i] == a with
    | true => rfl
    | false => simp only [cond_false]; rw [wrap_succ (by omega)]
  · simp [q35_Has_s1]

theorem l35_few_eq {n : Nat} (t : GTown) (d : GDrawing) (hn : 200 ≤ n) : ∃ b, l35_few n t d = some b ∧ (b = true → TownOk t ∧ d.phases.length ≤ 4 ∧ DrawOk d) := by
  have tk : ∀ {α : Type} (l : List α) (k i : Nat) (hi : i < (l.take k).length), (l.take k)[i] = l[i]'(by rw [List.length_take] at hi; omega) := fun l k i hi => List.getElem_take
  unfold l35_few
  have h1 := iter_find (l := t.land.take 9) (step := l35_few_s1 t) (fun i => (i : Int)) (fun x => decide (x.area.length > 6) || decide (x.from_.length > 10)) () (fun _ => false) (fun i hi => ?_) ?_ n (by rw [List.length_take]; omega)
  · have h2 := iter_find (l := t.plan_tables.take 5) (step := l35_few_s2 t) (fun i => (i : Int)) (fun x => decide (x.rows.length > 10)) () (fun _ => false) (fun i hi => ?_) ?_ n (by rw [List.length_take]; omega)
    · have h3 := iter_find (l := d.phases.take 5) (step := l35_few_s3 d) (fun i => (i : Int)) (fun x => decide (x.volumes.length > 4)) () (fun _ => false) (fun i hi => ?_) ?_ n (by rw [List.length_take]; omega)
      · rw [show ((0 : Nat) : Int) = 0 from rfl] at h1 h2 h3
        rw [h1, h2, h3]
        rcases findL_spec (fun x : GLot => decide (x.area.length > 6) || decide (x.from_.length > 10)) (t.land.take 9) with ⟨i, _, e, _⟩ | ⟨e1, f1⟩
        · rw [e]; exact ⟨false, rfl, fun h => by cases h⟩
        rcases findL_spec (fun x : GTable => decide (x.rows.length > 10)) (t.plan_tables.take 5) with ⟨i, _, e, _⟩ | ⟨e2, f2⟩
        · rw [e1, e]; exact ⟨false, rfl, fun h => by cases h⟩
        rcases findL_spec (fun x : GPhase => decide (x.volumes.length > 4)) (d.phases.take 5) with ⟨i, _, e, _⟩ | ⟨e3, f3⟩
        · rw [e1, e2, e]; exact ⟨false, rfl, fun h => by cases h⟩
        rw [e1, e2, e3]
        simp only [thenB_inl, bifand]
        refine ⟨_, rfl, fun h => ?_⟩
        simp only [Bool.and_eq_true, decide_eq_true_eq] at h
        obtain ⟨a1, a2, a3⟩ := h
        rw [List.take_of_length_le (by omega)] at f1 f2 f3
        refine ⟨⟨by omega, fun l hl => ?_, by omega, fun x hx => ?_⟩, by omega, by omega, fun x hx => ?_⟩
        · have := f1 l hl; simp at this; exact this
        · have := f2 x hx; simpa using this
        · have := f3 x hx; simpa using this
      · have hi2 : i < d.phases.length ∧ i < 5 := by rw [List.length_take] at hi; omega
        have c1 : decide (((i : Nat) : Int) < (d.phases.length : Int)) = true := by simpa using hi2.1
        have c2 : decide (((i : Nat) : Int) < (5 : Int)) = true := by simp; omega
        rw [tk]
        simp only [l35_few_s3, c1, c2, cond_true, Option.bind_some, at_get hi2.1]
        have e : decide ((d.phases[i].volumes.length : Int) > 4) = decide (d.phases[i].volumes.length > 4) := by simp; omega
        rw [e]
        cases decide (d.phases[i].volumes.length > 4) with
        | true => rfl
        | false => simp only [cond_false]; rw [wrap_succ (by omega)]
      · have : (decide ((((d.phases.take 5).length : Nat) : Int) < (d.phases.length : Int)) && decide ((((d.phases.take 5).length : Nat) : Int) < (5 : Int))) = false := by
          rw [List.length_take]; simp; omega
        simp only [l35_few_s3, bifand, this, Option.bind_some, cond_false]
    · have hi2 : i < t.plan_tables.length ∧ i < 5 := by rw [List.length_take] at hi; omega
      have c1 : decide (((i : Nat) : Int) < (t.plan_tables.length : Int)) = true := by simpa using hi2.1
      have c2 : decide (((i : Nat) : Int) < (5 : Int)) = true := by simp; omega
      rw [tk]
      simp only [l35_few_s2, c1, c2, cond_true, Option.bind_some, at_get hi2.1]
      have e : decide ((t.plan_tables[i].rows.length : Int) > 10) = decide (t.plan_tables[i].rows.length > 10) := by simp; omega
      rw [e]
      cases decide (t.plan_tables[i].rows.length > 10) with
      | true => rfl
      | false => simp only [cond_false]; rw [wrap_succ (by omega)]
    · have : (decide ((((t.plan_tables.take 5).length : Nat) : Int) < (t.plan_tables.length : Int)) && decide ((((t.plan_tables.take 5).length : Nat) : Int) < (5 : Int))) = false := by
        rw [List.length_take]; simp; omega
      simp only [l35_few_s2, bifand, this, Option.bind_some, cond_false]
  · have hi2 : i < t.land.length ∧ i < 9 := by rw [List.length_take] at hi; omega
    have c1 : decide (((i : Nat) : Int) < (t.land.length : Int)) = true := by simpa using hi2.1
    have c2 : decide (((i : Nat) : Int) < (9 : Int)) = true := by simp; omega
    rw [tk]
    simp only [l35_few_s1, c1, c2, cond_true, Option.bind_some, at_get hi2.1, biford]
    have e : (decide ((t.land[i].area.length : Int) > 6) || decide ((t.land[i].from_.length : Int) > 10)) = (decide (t.land[i].area.length > 6) || decide (t.land[i].from_.length > 10)) := by congr 1 <;> (rw [decide_eq_decide]; omega)
    rw [e]
    cases (decide (t.land[i].area.length > 6) || decide (t.land[i].from_.length > 10)) with
    | true => rfl
    | false => simp only [cond_false]; rw [wrap_succ (by omega)]
  · have : (decide ((((t.land.take 9).length : Nat) : Int) < (t.land.length : Int)) && decide ((((t.land.take 9).length : Nat) : Int) < (9 : Int))) = false := by
      rw [List.length_take]; simp; omega
    simp only [l35_few_s1, bifand, this, Option.bind_some, cond_false]
end Go.Proofs
