/-
  RectCells: the plain law, the row.
-/
import Derived.Test.YtihokdanilekmaaRectLoops
import Derived.Test.YtihokdanilekmaaSumRectCells
import Derived.Test.YtihokdanilekmaaRows
namespace Go.Proofs.Ytihokdanilekmaa
open Go.Gb Go.RowKit Go.ChangeShapes Go.WideShapes Go.ChangeAt

theorem small' : l_small 100 = some true := by kernel_rfl

/-- A rectangle has a cell. -/
def has (a : S22) (x y : Int) : Bool := decide (a.x0 ≤ x ∧ x < a.x1) && decide (a.y0 ≤ y ∧ y < a.y1)

theorem r_has {a : S22} (h : Ok a) (x y : Int) : r_Has a x y = has a x y := by
  rw [r_Has_eq, Bool.eq_iff_iff]
  simp [has, h, and_assoc]

def eight : List Int := [0, 1, 2, 3, 4, 5, 6, 7]

/-- The cells of a rectangle in one column. -/
def col (a : S22) (x : Int) : List S41 := (eight.filter fun y => has a x y).map fun y => ⟨x, y⟩

def cellsOf' (a : S22) : List S41 := eight.flatMap (col a)

theorem fold_app {α β : Type} (p : β → Bool) (g : β → α) : ∀ (l : List β) (s : List α), l.foldl (fun s y => if p y then s ++ [g y] else s) s = s ++ (l.filter p).map g
  | [], s => by simp
  | y :: l, s => by
    rw [List.foldl_cons, fold_app p g l]
    by_cases h : p y <;> simp [h]

theorem fold_cat {α β : Type} (g : β → List α) : ∀ (l : List β) (s : List α), l.foldl (fun s y => s ++ g y) s = s ++ l.flatMap g
  | [], s => by simp
  | y :: l, s => by rw [List.foldl_cons, fold_cat g l]; simp

theorem eight_eq : (List.range' 0 8).map Int.ofNat = eight := by decide

theorem col_len (a : S22) (x : Int) : (col a x).length ≤ 8 := by
  simp only [col, List.length_map]
  exact Nat.le_trans (List.length_filter_le _ _) (by decide)

theorem cap_ok {n : Nat} (h : n ≤ 64) : capOk n 16 = true := by
  simp only [capOk, Bool.and_eq_true, decide_eq_true_eq]
  exact ⟨by omega, Nat.le_trans h (by decide)⟩

theorem l2_eq {a : S22} (ha : Ok a) (x : Int) (j : List S41 → Option (List S41)) (s : List S41) (hs : s.length ≤ 56) : l_cells_l2 a x j 100 s 0 = j (s ++ col a x) := by
  have := loop_upto (N := 8) (Φ := fun k (s : List S41) i => l_cells_l2 a x j k s i) (f := fun s y => if has a x y then s ++ [⟨x, y⟩] else s) (j := j) (Inv := fun i s => s.length ≤ 56 + i) (by omega)
    (fun k s i hi hv => by
      have hi' : (i : Int) < 8 := by omega
      simp only [l_cells_l2, letv, r_has ha, hi', decide_true, cond_true]
      cases hh : has a x i
      · refine ⟨rfl, ?_⟩
        simp only [Bool.false_eq_true, if_false]; omega
      · rw [cap_ok (by simp; omega)]
        refine ⟨rfl, ?_⟩
        simp; omega) (fun k s => by simp [l_cells_l2]) 8 0 100 s (by omega) (by omega) (by omega)
  rw [show (0 : Int) = ((0 : Nat) : Int) from rfl, this.1, eight_eq, fold_app (fun y => has a x y) (fun y => (⟨x, y⟩ : S41))]
  rfl

theorem cells_eq {a : S22} (ha : Ok a) : l_cells 100 a = some (cellsOf' a) := by
  have := loop_upto (N := 8) (Φ := fun k (s : List S41) i => l_cells_l1 100 a some k s i) (f := fun s x => s ++ col a x) (j := some) (Inv := fun i s => s.length ≤ 8 * i) (by omega)
    (fun k s i hi hv => by
      have hi' : (i : Int) < 8 := by omega
      simp only [l_cells_l1, letv, hi', decide_true, cond_true]
      refine ⟨l2_eq ha _ _ _ (by omega), ?_⟩
      have := col_len a i
      simp; omega) (fun k s => by simp [l_cells_l1]) 8 0 100 [] (by omega) (by omega) (by simp)
  simp only [l_cells, letv]
  rw [show (0 : Int) = ((0 : Nat) : Int) from rfl]
  rw [this.1, eight_eq, fold_cat]
  rfl

theorem mem_cells {a : S22} {c : S41} (h0 : 0 ≤ a.x0) (h1 : a.x1 ≤ 8) (h2 : 0 ≤ a.y0) (h3 : a.y1 ≤ 8) : c ∈ cellsOf' a ↔ has a c.a0 c.a1 = true := by
  obtain ⟨x, y⟩ := c
  simp only [cellsOf', col, List.mem_flatMap, List.mem_map, List.mem_filter, S41.mk.injEq]
  constructor
  · rintro ⟨x', _, y', ⟨_, hy⟩, rfl, rfl⟩
    exact hy
  · intro h
    have hh := h
    simp only [has, Bool.and_eq_true, decide_eq_true_eq] at hh
    have e : ∀ n : Int, 0 ≤ n → n < 8 → n ∈ eight := by
      intro n g1 g2
      simp only [eight, List.mem_cons, List.not_mem_nil, or_false]; omega
    exact ⟨x, e x (by omega) (by omega), y, ⟨e y (by omega) (by omega), h⟩, rfl, rfl⟩

/-- How many of the eight lie between two bounds. -/
theorem cnt (lo hi : Int) (h0 : 0 ≤ lo) (h1 : lo ≤ hi) (h2 : hi ≤ 8) : ((eight.countP fun x => decide (lo ≤ x ∧ x < hi) : Nat) : Int) = hi - lo := by
  have key : ∀ p q : Fin 9, p ≤ q → ((eight.countP fun x => decide (((p : Nat) : Int) ≤ x ∧ x < ((q : Nat) : Int)) : Nat) : Int) = ((q : Nat) : Int) - ((p : Nat) : Int) := by decide
  have := key ⟨lo.toNat, by omega⟩ ⟨hi.toNat, by omega⟩ (by simp only [Fin.mk_le_mk]; omega)
  simp only [show ((lo.toNat : Nat) : Int) = lo by omega, show ((hi.toNat : Nat) : Int) = hi by omega] at this
  exact this

theorem count_flat (X Y : Int → Bool) : ∀ l : List Int, (l.flatMap fun x => (eight.filter fun y => X x && Y y).map fun y => (⟨x, y⟩ : S41)).length = l.countP X * eight.countP Y
  | [] => by simp
  | x :: l => by
    rw [List.flatMap_cons, List.length_append, count_flat X Y l]
    cases hx : X x
    · simp [hx, List.countP_eq_zero]
    · have e : List.countP (fun y => Y y) eight = List.countP Y eight := rfl
      simp only [Bool.true_and, List.length_map, ← List.countP_eq_length_filter, List.countP_cons, hx, if_true, Nat.add_mul, Nat.one_mul]
      omega

theorem filter_cells (a b : S22) : ((cellsOf' a).filter fun c => has b c.a0 c.a1) = eight.flatMap fun x => (eight.filter fun y => (decide (a.x0 ≤ x ∧ x < a.x1) && decide (b.x0 ≤ x ∧ x < b.x1)) && (decide (a.y0 ≤ y ∧ y < a.y1) && decide (b.y0 ≤ y ∧ y < b.y1))).map fun y => (⟨x, y⟩ : S41) := by
  unfold cellsOf'
  rw [List.filter_flatMap]
  congr 1
  funext x
  simp only [col, List.filter_map, List.filter_filter]
  congr 1
  apply List.filter_congr
  intro y _
  simp only [has, Function.comp]
  cases decide (a.x0 ≤ x ∧ x < a.x1) <;> cases decide (b.x0 ≤ x ∧ x < b.x1) <;> simp [Bool.and_comm]

theorem len_cells {a : S22} (ha : Ok a) (h1 : a.x1 ≤ 7) (h3 : a.y1 ≤ 7) : ((cellsOf' a).length : Int) = area a := by
  have e : (cellsOf' a).length = eight.countP (fun x => decide (a.x0 ≤ x ∧ x < a.x1)) * eight.countP (fun y => decide (a.y0 ≤ y ∧ y < a.y1)) := count_flat _ _ eight
  obtain ⟨g1, g2, g3, g4, g5, g6⟩ := ha
  rw [e, Int.natCast_mul, cnt _ _ g1 (by omega) (by omega), cnt _ _ g4 (by omega) (by omega)]
  rw [area, if_pos (show Ok a from ⟨g1, g2, g3, g4, g5, g6⟩)]

theorem both_cells {a b : S22} (ha : Ok a) (hb : Ok b) (h1 : a.x1 ≤ 7) (h3 : a.y1 ≤ 7) : ((((cellsOf' a).filter fun c => has b c.a0 c.a1).length : Nat) : Int) = area (meet a b) := by
  rw [filter_cells]
  have ex : ∀ (p q r s : Int), (fun x => decide (p ≤ x ∧ x < q) && decide (r ≤ x ∧ x < s)) = (fun x : Int => decide (max p r ≤ x ∧ x < min q s)) := by
    intro p q r s
    funext x
    rw [Bool.eq_iff_iff]
    simp only [Bool.and_eq_true, decide_eq_true_eq]; omega
  have := count_flat (fun x => decide (a.x0 ≤ x ∧ x < a.x1) && decide (b.x0 ≤ x ∧ x < b.x1)) (fun y => decide (a.y0 ≤ y ∧ y < a.y1) && decide (b.y0 ≤ y ∧ y < b.y1)) eight
  rw [this, ex, ex]
  obtain ⟨g1, g2, g3, g4, g5, g6⟩ := ha
  obtain ⟨k1, k2, k3, k4, k5, k6⟩ := hb
  have z : ∀ lo hi : Int, hi ≤ lo → eight.countP (fun x => decide (lo ≤ x ∧ x < hi)) = 0 := by
    intro lo hi h
    rw [List.countP_eq_zero]
    intro x _
    simp only [decide_eq_true_eq]; omega
  by_cases hm : Ok (meet a b)
  · simp only [area, if_pos hm]
    simp only [Ok, meet] at hm ⊢
    rw [Int.natCast_mul, cnt _ _ (by omega) (by omega) (by omega), cnt _ _ (by omega) (by omega) (by omega)]
  · simp only [area, if_neg hm]
    simp only [Ok, meet] at hm
    by_cases hx : min a.x1 b.x1 ≤ max a.x0 b.x0
    · rw [z _ _ hx]; simp
    · rw [z (max a.y0 b.y0) (min a.y1 b.y1) (by omega)]; simp

def dist (c d : S41) : Int := max (max (c.a0 - d.a0) (d.a0 - c.a0)) (max (c.a1 - d.a1) (d.a1 - c.a1))
def side (c d : S41) : Bool := decide (c.a0 = d.a0 ∧ (c.a1 - d.a1 = 1 ∨ d.a1 - c.a1 = 1) ∨ c.a1 = d.a1 ∧ (c.a0 - d.a0 = 1 ∨ d.a0 - c.a0 = 1))

theorem beside_eq {x y u v : Int} (hx : 0 ≤ x ∧ x ≤ 8) (hy : 0 ≤ y ∧ y ≤ 8) (hu : 0 ≤ u ∧ u ≤ 8) (hv : 0 ≤ v ∧ v ≤ 8) : l_beside x y u v = side ⟨x, y⟩ ⟨u, v⟩ := by
  simp only [l_beside]
  rw [wrap64 (by omega) (by omega), wrap64 (by omega) (by omega), wrap64 (by omega) (by omega), wrap64 (by omega) (by omega), Bool.eq_iff_iff]
  simp [side]

def In8 (c : S41) : Prop := 0 ≤ c.a0 ∧ c.a0 ≤ 8 ∧ 0 ≤ c.a1 ∧ c.a1 ≤ 8

theorem inner_eq (a b : S22) (r1 : Bool) (L M : List S41) (r6 : S22 × Bool) (v7 : Int) (j : Int → Int → Bool → Option Bool) (c : S41) (v11 v5 : Int) (v6 : Bool) (hc : In8 c) (hM : ∀ d ∈ M, In8 d) (hl : M.length < 100) :
    l_RectCells_l2 a b r1 L M r6 v7 j c c v11 100 v5 v6 0 = j v11 (M.foldl (fun s d => min s (dist c d)) v5) (v6 || M.any (side c)) := by
  have := loop_list (l := M) (Φ := fun k (s : Int × Bool) i => l_RectCells_l2 a b r1 L M r6 v7 j c c v11 k s.1 s.2 i) (f := fun s d => (min s.1 (dist c d), s.2 || side c d)) (j := fun s => j v11 s.1 s.2) (by omega)
    (fun k s i d hi hx => by
      have hd := hM d (List.mem_of_getElem? hx)
      obtain ⟨h1, h2, h3, h4⟩ := hc
      obtain ⟨g1, g2, g3, g4⟩ := hd
      simp only [l_RectCells_l2, letv, at_nat, hx, Option.bind_some, Int.ofNat_lt, hi, decide_true, cond_true, beside_eq (x := c.a0) (y := c.a1) (u := d.a0) (v := d.a1) ⟨h1, h2⟩ ⟨h3, h4⟩ ⟨g1, g2⟩ ⟨g3, g4⟩]
      rw [wrap64 (n := c.a0 - d.a0) (by omega) (by omega), wrap64 (n := d.a0 - c.a0) (by omega) (by omega), wrap64 (n := c.a1 - d.a1) (by omega) (by omega), wrap64 (n := d.a1 - c.a1) (by omega) (by omega)]
      cases s.2 <;> simp [dist]) (fun k s => by simp [l_RectCells_l2]) M.length 0 100 (v5, v6) (by omega) (by omega)
  rw [show (0 : Int) = ((0 : Nat) : Int) from rfl, this, List.drop_zero]
  have e : ∀ (M : List S41) (s : Int) (t : Bool), M.foldl (fun (s : Int × Bool) d => (min s.1 (dist c d), s.2 || side c d)) (s, t) = (M.foldl (fun s d => min s (dist c d)) s, t || M.any (side c)) := by
    intro M
    induction M with
    | nil => simp
    | cons d M ih => intro s t; simp [ih, Bool.or_assoc]
  rw [e]

/-- What the cells of one rectangle come to. -/
def sums (b : S22) (M : List S41) (s : Int × Int × Bool) (c : S41) : Int × Int × Bool :=
  (if has b c.a0 c.a1 then s.1 + 1 else s.1, M.foldl (fun s d => min s (dist c d)) s.2.1, s.2.2 || M.any (side c))

theorem sums_fold (b : S22) (M : List S41) : ∀ (L : List S41) (s : Int × Int × Bool), L.foldl (sums b M) s =
    (s.1 + (((L.filter fun c => has b c.a0 c.a1).length : Nat) : Int), L.foldl (fun t c => M.foldl (fun s d => min s (dist c d)) t) s.2.1, s.2.2 || L.any fun c => M.any (side c))
  | [], s => by simp
  | c :: L, s => by
    rw [List.foldl_cons, sums_fold b M L]
    cases h : has b c.a0 c.a1
    · simp [sums, h, Bool.or_assoc]
    · simp only [sums, h, if_true, List.filter_cons, List.length_cons, List.foldl_cons, List.any_cons, Bool.or_assoc, Prod.mk.injEq, and_true]
      omega

theorem outer_eq {a b : S22} (hb : Ok b) (r1 : Bool) (L M : List S41) (r6 : S22 × Bool) (j : Int → Int → Bool → Option Bool) (hL : ∀ d ∈ L, In8 d) (hM : ∀ d ∈ M, In8 d) (hl : L.length < 100) (hm : M.length < 100)
    (h6 : ∀ c ∈ L, has b c.a0 c.a1 = true → r_Has r6.1 c.a0 c.a1 = true) :
    l_RectCells_l1 100 a b r1 L M r6 j 100 0 100 false 0 = (let s := L.foldl (sums b M) (0, 100, false); j s.1 s.2.1 s.2.2) := by
  have := loop_inv (l := L) (Φ := fun k (s : Int × Int × Bool) i => l_RectCells_l1 100 a b r1 L M r6 j k s.1 s.2.1 s.2.2 i) (f := sums b M) (j := fun s => j s.1 s.2.1 s.2.2) (Inv := fun i s => 0 ≤ s.1 ∧ s.1 ≤ (i : Int)) (by omega)
    (fun k s i c hi hx hv => by
      have hc := List.mem_of_getElem? hx
      simp only [l_RectCells_l1, letv, at_nat, hx, Option.bind_some, Int.ofNat_lt, hi, decide_true, cond_true, r_has hb, inner_eq a b r1 L M r6 _ _ c _ _ _ (hL c hc) hM hm]
      cases hh : has b c.a0 c.a1
      · simp only [cond_false, sums, hh, Bool.false_eq_true, if_false]
        refine ⟨trivial, ?_⟩; omega
      · rw [h6 c hc hh, wrap64 (by omega) (by omega)]
        simp only [cond_true, sums, hh, if_true, Bool.not_true, cond_false]
        refine ⟨trivial, ?_⟩; omega) (fun k s => by simp [l_RectCells_l1]) L.length 0 100 (0, 100, false) (by omega) (by omega) (by simp)
  rw [show ((0 : Nat) : Int) = 0 from rfl] at this
  simpa using this

theorem fold_min_le (g : S41 → Int) : ∀ (M : List S41) (s : Int), M.foldl (fun s d => min s (g d)) s ≤ s ∧ (∀ d ∈ M, M.foldl (fun s d => min s (g d)) s ≤ g d) ∧ (M.foldl (fun s d => min s (g d)) s = s ∨ ∃ d ∈ M, M.foldl (fun s d => min s (g d)) s = g d)
  | [], s => by simp
  | d :: M, s => by
    obtain ⟨h1, h2, h3⟩ := fold_min_le g M (min s (g d))
    simp only [List.foldl_cons]
    refine ⟨by omega, fun e he => ?_, ?_⟩
    · rcases List.mem_cons.1 he with rfl | he
      · omega
      · exact h2 e he
    · rcases h3 with h3 | ⟨e, he, h3⟩
      · by_cases hc : s ≤ g d
        · left; rw [h3]; omega
        · right; exact ⟨d, by simp, by rw [h3]; omega⟩
      · right; exact ⟨e, by simp [he], h3⟩

/-- The least distance. -/
theorem least_spec (M : List S41) : ∀ (L : List S41) (s : Int), let r := L.foldl (fun t c => M.foldl (fun s d => min s (dist c d)) t) s
    r ≤ s ∧ (∀ c ∈ L, ∀ d ∈ M, r ≤ dist c d) ∧ (r = s ∨ ∃ c ∈ L, ∃ d ∈ M, r = dist c d)
  | [], s => by simp
  | c :: L, s => by
    obtain ⟨h1, h2, h3⟩ := least_spec M L (M.foldl (fun s d => min s (dist c d)) s)
    obtain ⟨g1, g2, g3⟩ := fold_min_le (dist c) M s
    simp only [List.foldl_cons]
    refine ⟨by omega, fun e he d hd => ?_, ?_⟩
    · rcases List.mem_cons.1 he with rfl | he
      · exact Int.le_trans h1 (g2 d hd)
      · exact h2 e he d hd
    · rcases h3 with h3 | ⟨e, he, d, hd, h3⟩
      · rw [h3]
        rcases g3 with g3 | ⟨d, hd, g3⟩
        · exact .inl g3
        · exact .inr ⟨c, by simp, d, hd, g3⟩
      · exact .inr ⟨e, by simp [he], d, hd, h3⟩

theorem axis_near {p q r s : Int} (h1 : p < q) (h2 : r < s) : ∃ x u, p ≤ x ∧ x < q ∧ r ≤ u ∧ u < s ∧ max (x - u) (u - x) = max 0 (gaps1 p q r s + 1) ∧ (gaps1 p q r s < 0 → x = u) := by
  simp only [gaps1]
  by_cases h3 : q ≤ r
  · exact ⟨q - 1, r, by omega, by omega, by omega, by omega, by omega, by omega⟩
  · by_cases h4 : s ≤ p
    · exact ⟨p, s - 1, by omega, by omega, by omega, by omega, by omega, by omega⟩
    · exact ⟨max p r, max p r, by omega, by omega, by omega, by omega, by omega, by omega⟩

theorem axis_far {p q r s x u : Int} (h1 : p ≤ x ∧ x < q) (h2 : r ≤ u ∧ u < s) : max 0 (gaps1 p q r s + 1) ≤ max (x - u) (u - x) := by
  simp only [gaps1]; omega

section
variable {a b : S22} (ha : Ok a) (hb : Ok b) (h1 : a.x1 ≤ 7) (h3 : a.y1 ≤ 7) (k1 : b.x1 ≤ 7) (k3 : b.y1 ≤ 7)
include ha hb h1 h3 k1 k3

omit hb k1 k3 in
theorem mem_a {c : S41} : c ∈ cellsOf' a ↔ has a c.a0 c.a1 = true := mem_cells ha.1 (by omega) ha.2.2.2.1 (by omega)
omit ha h1 h3 in
theorem mem_b {c : S41} : c ∈ cellsOf' b ↔ has b c.a0 c.a1 = true := mem_cells hb.1 (by omega) hb.2.2.2.1 (by omega)

theorem least_eq : max 0 ((cellsOf' a).foldl (fun t c => (cellsOf' b).foldl (fun s d => min s (dist c d)) t) 100 - 1) = gap a b := by
  obtain ⟨g1, g2, g3⟩ := least_spec (cellsOf' b) (cellsOf' a) 100
  generalize (cellsOf' a).foldl (fun t c => (cellsOf' b).foldl (fun s d => min s (dist c d)) t) 100 = r at g1 g2 g3 ⊢
  obtain ⟨x, u, p1, p2, p3, p4, p5, p6⟩ := axis_near (p := a.x0) (q := a.x1) (r := b.x0) (s := b.x1) ha.2.1 hb.2.1
  obtain ⟨y, v, q1, q2, q3, q4, q5, q6⟩ := axis_near (p := a.y0) (q := a.y1) (r := b.y0) (s := b.y1) ha.2.2.2.2.1 hb.2.2.2.2.1
  have m1 : (⟨x, y⟩ : S41) ∈ cellsOf' a := (mem_a ha h1 h3).2 (by simp [has, p1, p2, q1, q2])
  have m2 : (⟨u, v⟩ : S41) ∈ cellsOf' b := (mem_b hb k1 k3).2 (by simp [has, p3, p4, q3, q4])
  have up := g2 _ m1 _ m2
  simp only [dist] at up
  rw [p5, q5] at up
  have low : max (max 0 (gaps1 a.x0 a.x1 b.x0 b.x1 + 1)) (max 0 (gaps1 a.y0 a.y1 b.y0 b.y1 + 1)) ≤ r := by
    rcases g3 with g3 | ⟨c, hc, d, hd, g3⟩
    · obtain ⟨_, _, _, _, _, _⟩ := ha
      obtain ⟨_, _, _, _, _, _⟩ := hb
      simp only [gaps1]; omega
    · rw [mem_a ha h1 h3] at hc
      rw [mem_b hb k1 k3] at hd
      simp only [has, Bool.and_eq_true, decide_eq_true_eq] at hc hd
      have e1 := axis_far hc.1 hd.1
      have e2 := axis_far hc.2 hd.2
      rw [g3]
      simp only [dist]; omega
  simp only [gap, ha, hb, and_self, if_true]
  omega

theorem touch_eq : touch a b = (((cellsOf' a).any fun c => (cellsOf' b).any (side c)) && decide (¬ Ok (meet a b))) := by
  have hno : ¬ Ok (meet a b) ↔ ¬ (gaps1 a.x0 a.x1 b.x0 b.x1 < 0 ∧ gaps1 a.y0 a.y1 b.y0 b.y1 < 0) := by
    obtain ⟨_, _, _, _, _, _⟩ := ha
    obtain ⟨_, _, _, _, _, _⟩ := hb
    simp only [Ok, meet, gaps1]; omega
  rw [Bool.eq_iff_iff]
  simp only [touch, ha, hb, and_self, decide_true, Bool.true_and, Bool.or_eq_true, decide_eq_true_eq, Bool.and_eq_true, hno, List.any_eq_true]
  obtain ⟨x, u, p1, p2, p3, p4, p5, p6⟩ := axis_near (p := a.x0) (q := a.x1) (r := b.x0) (s := b.x1) ha.2.1 hb.2.1
  obtain ⟨y, v, q1, q2, q3, q4, q5, q6⟩ := axis_near (p := a.y0) (q := a.y1) (r := b.y0) (s := b.y1) ha.2.2.2.2.1 hb.2.2.2.2.1
  have m1 : (⟨x, y⟩ : S41) ∈ cellsOf' a := (mem_a ha h1 h3).2 (by simp [has, p1, p2, q1, q2])
  have m2 : (⟨u, v⟩ : S41) ∈ cellsOf' b := (mem_b hb k1 k3).2 (by simp [has, p3, p4, q3, q4])
  constructor
  · intro h
    refine ⟨⟨⟨x, y⟩, m1, ⟨u, v⟩, m2, ?_⟩, by omega⟩
    simp only [side, decide_eq_true_eq]
    rcases h with ⟨hx, hy⟩ | ⟨hy, hx⟩
    · right; exact ⟨q6 hy, by omega⟩
    · left; exact ⟨p6 hx, by omega⟩
  · rintro ⟨⟨c, hc, d, hd, hs⟩, hn⟩
    rw [mem_a ha h1 h3] at hc
    rw [mem_b hb k1 k3] at hd
    simp only [has, Bool.and_eq_true, decide_eq_true_eq] at hc hd
    simp only [side, decide_eq_true_eq] at hs
    have e1 := axis_far hc.1 hd.1
    have e2 := axis_far hc.2 hd.2
    omega

theorem inside_eq : decide (inside a b) = decide (area (meet a b) = area a) := by
  rw [decide_eq_decide]
  have hA : area a = (a.x1 - a.x0) * (a.y1 - a.y0) := by simp [area, ha]
  obtain ⟨g1, g2, g3, g4, g5, g6⟩ := ha
  obtain ⟨j1, j2, j3, j4, j5, j6⟩ := hb
  have hpos : 0 < (a.x1 - a.x0) * (a.y1 - a.y0) := Int.mul_pos (by omega) (by omega)
  simp only [inside, Ok]
  by_cases hm : Ok (meet a b)
  · have hM : area (meet a b) = (min a.x1 b.x1 - max a.x0 b.x0) * (min a.y1 b.y1 - max a.y0 b.y0) := by rw [area, if_pos hm]; rfl
    rw [hM, hA]
    simp only [Ok, meet] at hm
    constructor
    · intro h
      rw [show min a.x1 b.x1 = a.x1 by omega, show max a.x0 b.x0 = a.x0 by omega, show min a.y1 b.y1 = a.y1 by omega, show max a.y0 b.y0 = a.y0 by omega]
    · intro h
      have c1 : min a.x1 b.x1 - max a.x0 b.x0 = a.x1 - a.x0 := by
        by_cases hc : min a.x1 b.x1 - max a.x0 b.x0 = a.x1 - a.x0
        · exact hc
        · have l1 : (min a.x1 b.x1 - max a.x0 b.x0) * (min a.y1 b.y1 - max a.y0 b.y0) ≤ (min a.x1 b.x1 - max a.x0 b.x0) * (a.y1 - a.y0) := Int.mul_le_mul_of_nonneg_left (by omega) (by omega)
          have l2 : (min a.x1 b.x1 - max a.x0 b.x0) * (a.y1 - a.y0) < (a.x1 - a.x0) * (a.y1 - a.y0) := Int.mul_lt_mul_of_pos_right (by omega) (by omega)
          omega
      have c2 : min a.y1 b.y1 - max a.y0 b.y0 = a.y1 - a.y0 := by
        rw [c1] at h
        exact Int.eq_of_mul_eq_mul_left (by omega) h
      omega
  · have hM : area (meet a b) = 0 := by simp [area, hm]
    rw [hM, hA]
    constructor
    · intro h
      refine absurd ?_ hm
      simp only [Ok, meet]; omega
    · intro h; omega

theorem cells_law : l_RectCells 100 a b = some true := by
  have z1 : ¬ a.x1 > 7 := by omega
  have z2 : ¬ a.y1 > 7 := by omega
  have z3 : ¬ b.x1 > 7 := by omega
  have z4 : ¬ b.y1 > 7 := by omega
  have L1 := len_cells ha h1 h3
  have L2 := len_cells hb k1 k3
  have B := both_cells ha hb h1 h3
  have ar : ∀ {c : S22}, Ok c → c.x1 ≤ 7 → c.y1 ≤ 7 → area c ≤ 49 := by
    intro c hc f1 f2
    simp only [area, hc, if_true]
    obtain ⟨_, _, _, _, _, _⟩ := hc
    exact Int.le_trans (Int.mul_le_mul (show c.x1 - c.x0 ≤ 7 by omega) (show c.y1 - c.y0 ≤ 7 by omega) (by omega) (by omega)) (by omega)
  have in8 : ∀ {c : S22} {d : S41}, Ok c → c.x1 ≤ 7 → c.y1 ≤ 7 → d ∈ cellsOf' c → In8 d := by
    intro c d hc f1 f2 hd
    rw [mem_cells hc.1 (by omega) hc.2.2.2.1 (by omega)] at hd
    simp only [has, Bool.and_eq_true, decide_eq_true_eq] at hd
    obtain ⟨_, _, _, _, _, _⟩ := hc
    refine ⟨?_, ?_, ?_, ?_⟩ <;> omega
  have h6 : ∀ c ∈ cellsOf' a, has b c.a0 c.a1 = true → r_Has (r_Intersect a b).1 c.a0 c.a1 = true := by
    intro c hc hh
    rw [mem_a ha h1 h3] at hc
    simp only [has, Bool.and_eq_true, decide_eq_true_eq] at hc hh
    have hm : Ok (meet a b) := by
      obtain ⟨_, _, _, _, _, _⟩ := ha
      obtain ⟨_, _, _, _, _, _⟩ := hb
      simp only [Ok, meet]; omega
    rw [r_Intersect_eq, if_pos ⟨ha, hb, hm⟩, r_Has_eq]
    rw [decide_eq_true_iff]
    refine ⟨hm, ?_⟩
    simp only [meet]; omega
  have a1 := ar ha h1 h3
  have a2 := ar hb k1 k3
  simp only [l_RectCells, small', letv, Option.bind_some, r_Right_eq, ha, hb, z1, z2, z3, z4, decide_true, decide_false, cond_false, Bool.not_true, cells_eq ha, cells_eq hb, r_Area_eq, r_Inside_eq, r_Gap_eq, r_Touch_eq]
  rw [outer_eq hb true _ _ _ _ (fun d hd => in8 ha h1 h3 hd) (fun d hd => in8 hb k1 k3 hd) (by omega) (by omega) h6, sums_fold]
  have e1 : (r_Intersect a b).2 = decide (Ok (meet a b)) ∧ area (r_Intersect a b).1 = area (meet a b) := by
    rw [r_Intersect_eq]
    by_cases hm : Ok (meet a b)
    · simp [ha, hb, hm]
    · rw [if_neg (fun h => hm h.2.2), area_zero hm]
      exact ⟨by simp [hm], area_zero not_zz⟩
  have least := least_eq ha hb h1 h3 k1 k3
  have far : 0 ≤ (cellsOf' a).foldl (fun t c => (cellsOf' b).foldl (fun s d => min s (dist c d)) t) 100 ∧ (cellsOf' a).foldl (fun t c => (cellsOf' b).foldl (fun s d => min s (dist c d)) t) 100 ≤ 100 := by
    obtain ⟨g1, _, g3⟩ := least_spec (cellsOf' b) (cellsOf' a) 100
    refine ⟨?_, g1⟩
    rcases g3 with g3 | ⟨c, _, d, _, g3⟩
    · omega
    · rw [g3]; simp only [dist]; omega
  have pos : area (meet a b) > 0 ↔ Ok (meet a b) := by
    by_cases hm : Ok (meet a b)
    · simp only [area, hm, if_true, iff_true]
      obtain ⟨_, _, _, _, _, _⟩ := hm
      exact Int.mul_pos (by omega) (by omega)
    · simp [area, hm]
  have zero : area (meet a b) = 0 ↔ ¬ Ok (meet a b) := by
    by_cases hm : Ok (meet a b)
    · have := pos.2 hm
      simp only [hm, not_true, iff_false]; omega
    · simp [area, hm]
  simp only [Int.zero_add, B, L1, L2, e1.1, e1.2, Bool.false_or]
  rw [wrap64 (by omega) (by omega), least, inside_eq ha hb h1 h3 k1 k3, touch_eq ha hb h1 h3 k1 k3]
  have bd : ∀ p q : Int, (p == q) = decide (p = q) := fun p q => by rw [Bool.eq_iff_iff]; simp
  simp only [beq_self_eq_true, cond_true, pos, bd, zero, decide_true]
  generalize ((cellsOf' a).any fun c => (cellsOf' b).any (side c)) = t
  cases t <;> simp
end

theorem law_all (a b : S22) : l_RectCells 100 a b = some true := by
  by_cases h : a.x1 ≤ 7 ∧ a.y1 ≤ 7 ∧ b.x1 ≤ 7 ∧ b.y1 ≤ 7 ∧ Ok a ∧ Ok b
  · exact cells_law h.2.2.2.2.1 h.2.2.2.2.2 h.1 h.2.1 h.2.2.1 h.2.2.2.1
  · simp only [l_RectCells, small', letv, Option.bind_some, r_Right_eq]
    have : (bif bif bif bif bif decide (a.x1 > 7) then true else decide (a.y1 > 7) then true else decide (b.x1 > 7) then true else decide (b.y1 > 7) then true else !decide (Ok a) then true else !decide (Ok b)) = true := by
      simp only [Bool.cond_true_left, Bool.or_eq_true, decide_eq_true_eq, Bool.not_eq_true', decide_eq_false_iff_not]
      by_cases g1 : Ok a <;> by_cases g2 : Ok b <;> simp only [g1, g2, and_true, not_true, not_false_eq_true, or_true, or_false] at h ⊢
      omega
    rw [this]; rfl

theorem law (xs : List TV) (h : FitVs [shR, shR] xs) : FnP Try.prog 8 (xs.map TV.av) (.one (.d (.s (.sc (.bool true))))) := by
  match xs, h with
  | [x0, x1], ⟨h0, h1, _⟩ =>
    obtain ⟨a, rfl, _⟩ := fitR h0
    obtain ⟨b, rfl, _⟩ := fitR h1
    exact l_RectCells_ok 100 a b true (law_all a b)
  | [], h => exact h.elim
  | [_], h => exact h.2.elim
  | _ :: _ :: _ :: _, h => exact h.2.2.elim

theorem lifted (os : Os) (started : os.Started) (H : Type) (enc : TypeId × Value → H) :
    ReturnsInHanded {} Try.checked os 8 .any (Rows.rectCellsSpec.pre6 enc Try.prog Try.f8 Rows.rectCellsRow.domain false) (Rows.rectCellsSpec.post enc Try.prog Try.f8 false true false false) := by
  refine returnsInHanded_of_change (C := Try.checked) own started (by kernel_rfl) Try.func8
    (ChangeSpec.witness6 (enc := enc) (C := Try.checked) false ⟨#[], #[.agg #[.int .i64 0, .int .i64 0, .int .i64 0, .int .i64 0], .agg #[.int .i64 0, .int .i64 0, .int .i64 0, .int .i64 0]], []⟩ 8 (by kernel_rfl) (by kernel_rfl) (by kernel_rfl) (by kernel_rfl)) ?_
  intro W base args ds gs before hval hW _ _
  exact row_contract (C := Try.checked) (s := Rows.rectCellsSpec) (ss := [shR, shR]) (by kernel_rfl) (by kernel_rfl) (by kernel_rfl) rfl (tb := 4) (by kernel_rfl) Try.underlying4
    (fun ds hl => match ds, hl with | [_, _], _ => rfl) law hval hW

theorem over : Rows.rectCellsRow.holds Try.pinned (OpenSpec.ofChange Rows.rectCellsSpec) :=
  OpenClaim.holds_of_wide 8 Try.f8 rfl rfl rfl rfl rfl rfl rfl ⟨rfl, rfl, rfl, rfl, rfl⟩ rfl rfl rfl rfl rfl (by kernel_rfl) Try.func8 (by kernel_rfl)
    (of_decide_eq_true (by kernel_rfl)) (by unfold Func.isWrapper; first | (rw [if_pos (by decide +kernel)]; kernel_rfl) | (rw [if_neg (by decide +kernel)]; exact ⟨rfl, rfl⟩))
    (fun os started H enc _ => lifted os started H enc)

theorem rectCells_holds : Rows.RectCellsSaid := over
#print axioms rectCells_holds
end Go.Proofs.Ytihokdanilekmaa
