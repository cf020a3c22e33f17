/-
  The example, and NoticeMore as a plain law.
-/
import Derived.Test.YtgmmcfpjmkhmhaaSpNt
namespace Go.Proofs
open Go.Gb Go.RowKit

def boxG (a b : Int) : List GRect := [GRect.mk a 0 b 4]
def sampleG : GTown := GTown.mk [] [GTable.mk noticeB [GEntry.mk ⟨#[104, 111, 109, 101]⟩ 2, GEntry.mk ⟨#[112, 108, 97, 110, 116]⟩ 9, GEntry.mk ⟨#[100, 97, 121, 115]⟩ 14] 1] [] [] [] [] [] 0 [GLot.mk 1 7 (boxG 0 4) [], GLot.mk 2 7 (boxG 5 8) [], GLot.mk 3 5 (boxG 12 14) []] [] [] [] []
def ofG (lot a b : Int) : GDrawing := GDrawing.mk lot [GPhase.mk [GVolume.mk 0 0 0 0 0 0 a 0 false] [], GPhase.mk [GVolume.mk 0 0 0 0 0 0 b 0 false] []]

theorem sample_eq : l35_sample = some sampleG := by kernel_rfl
theorem of_eq (lot a b : Int) : l35_of lot a b = some (ofG lot a b) := by kernel_rfl

theorem sampleOk : TownOk sampleG := by
  refine ⟨by decide, ?_, by decide, ?_⟩
  · intro l hl
    simp only [sampleG, List.mem_cons, List.not_mem_nil, or_false] at hl
    rcases hl with rfl | rfl | rfl <;> exact ⟨by decide, by decide⟩
  · intro t ht
    simp only [sampleG, List.mem_singleton] at ht
    subst ht
    decide

theorem ofOk (lot a b : Int) : DrawOk (ofG lot a b) := by
  refine ⟨by simp [ofG], fun p hp => ?_⟩
  simp only [ofG, List.mem_cons, List.not_mem_nil, or_false] at hp
  rcases hp with rfl | rfl <;> simp

theorem small_eq {n : Nat} (hn : 200 ≤ n) : l35_small n = some true := by
  have k := sampleOk
  have d1 : ∀ lot a b, nt_Distance n (GPlan.mk sampleG.plan_defs sampleG.plan_tables sampleG.plan_zones sampleG.plan_rules sampleG.plan_caps sampleG.plan_views sampleG.plan_sun sampleG.plan_hours) (ofG lot a b) = some (distL sampleG.plan_tables (ofG lot a b)) := fun lot a b => nt_Distance_eq (p := planOf sampleG) k.2.2 (ofOk lot a b) hn
  have d2 : nt_Days n (GPlan.mk sampleG.plan_defs sampleG.plan_tables sampleG.plan_zones sampleG.plan_rules sampleG.plan_caps sampleG.plan_views sampleG.plan_sun sampleG.plan_hours) = some (max 0 (rowL sampleG.plan_tables ⟨#[100, 97, 121, 115]⟩)) := nt_Days_eq (p := planOf sampleG) k.2.2 hn
  have o1 : ∀ lot a b, nt_Owners n sampleG (ofG lot a b) = some (ownersL sampleG (ofG lot a b)) := fun lot a b => nt_Owners_eq k (ofOk lot a b) hn
  have l1 : ∀ lot a b, nt_Lots n sampleG (ofG lot a b) = some (lotsL sampleG (ofG lot a b)) := fun lot a b => nt_Lots_eq k (ofOk lot a b) hn
  have a1 : nt_Added n sampleG (ofG 1 0 0) (ofG 1 0 4) = some (addedL sampleG (ofG 1 0 0) (ofG 1 0 4)) := nt_Added_eq k (ofOk _ _ _) (ofOk _ _ _) hn
  have m1 : ∀ lot a b party, nt_May n sampleG (ofG lot a b) party = some (mayL sampleG (ofG lot a b) party) := fun lot a b party => nt_May_eq k (ofOk lot a b) hn
  have e1 : distL sampleG.plan_tables (ofG 1 0 0) = 2 := by kernel_rfl
  have e2 : distL sampleG.plan_tables (ofG 1 0 4) = 9 := by kernel_rfl
  have e3 : distL sampleG.plan_tables (ofG 1 1 1) = 1 := by kernel_rfl
  have e4 : max 0 (rowL sampleG.plan_tables ⟨#[100, 97, 121, 115]⟩) = 14 := by kernel_rfl
  have e5 : ownersL sampleG (ofG 1 0 0) = [7] := by kernel_rfl
  have e6 : ownersL sampleG (ofG 1 0 4) = [5, 7] := by kernel_rfl
  have e7 : lotsL sampleG (ofG 1 0 4) = [2, 3] := by kernel_rfl
  have e8 : addedL sampleG (ofG 1 0 0) (ofG 1 0 4) = [5] := by kernel_rfl
  have e9 : mayL sampleG (ofG 1 0 4) 5 = true := by kernel_rfl
  have e10 : mayL sampleG (ofG 1 0 4) 7 = false := by kernel_rfl
  have e11 : mayL sampleG (ofG 1 0 0) 5 = false := by kernel_rfl
  have i1 : q35_Ints n [7] [7] = some true := by rw [q35_Ints_eq (by simp) (by simp; omega)]; rfl
  have i2 : q35_Ints n [5, 7] [5, 7] = some true := by rw [q35_Ints_eq (by simp) (by simp; omega)]; rfl
  have i3 : q35_Ints n [2, 3] [2, 3] = some true := by rw [q35_Ints_eq (by simp) (by simp; omega)]; rfl
  have i4 : q35_Ints n [5] [5] = some true := by rw [q35_Ints_eq (by simp) (by simp; omega)]; rfl
  have s1 : (sub ([7] : List Int) 0 1) = [7] := rfl
  have s2 : (sub ([5, 7] : List Int) 0 2) = [5, 7] := rfl
  have s3 : (sub ([2, 3] : List Int) 0 2) = [2, 3] := rfl
  have s4 : (sub ([5] : List Int) 0 1) = [5] := rfl
  have q1 : ∀ a : Int, eqL [a].length 1 = true := fun _ => rfl
  have q2 : ∀ a b : Int, eqL [a, b].length 2 = true := fun _ _ => rfl
  unfold l35_small
  simp only [sample_eq, of_eq, Option.bind_some, d1, e1, e2, e3, d2, e4, beq_self_eq_true, cond_true, o1, e5, e6, sub_all, eqL_self, s1, s2, s3, s4, q1, q2, i1, i2, i3, i4, l1, e7, a1, e8, m1, e9, e10, e11, Bool.not_false]

theorem volD_ge (ts : List GTable) (m : Int) (v : GVolume) : m ≤ volD ts m v := by
  unfold volD
  split
  · exact Int.le_max_left _ _
  · exact Int.le_refl _

theorem distP_ge (ts : List GTable) (ph : GPhase) (m : Int) : m ≤ distP ts m ph := by
  unfold distP
  generalize ph.volumes = l
  induction l generalizing m with
  | nil => exact Int.le_refl _
  | cons v l ih => exact Int.le_trans (volD_ge ts m v) (ih _)

theorem nearL_mono {land : List GLot} {id a b : Int} (h : a ≤ b) : ∀ z ∈ nearL land id a, z ∈ nearL land id b := by
  intro z
  unfold nearL
  cases (findLot land id).2 with
  | false => exact fun h => h
  | true =>
    simp only [cond_true, setL_mem, nearIds, List.mem_map, List.mem_filter]
    rintro ⟨u, ⟨h1, h2⟩, h3⟩
    refine ⟨u, ⟨h1, ?_⟩, h3⟩
    simp only [isNear, Bool.and_eq_true, decide_eq_true_eq] at h2 ⊢
    exact ⟨h2.1, by omega, h2.2.2⟩

theorem ownersL_mem (t : GTown) (d : GDrawing) (z : Int) : z ∈ ownersL t d ↔ ∃ id ∈ lotsL t d, (findLot t.land id).1.owner = z := by
  simp only [ownersL, setL_mem, ownersOf, List.mem_map]

theorem any_mem (l : List Int) (a : Int) : (l.any fun x => x == a) = decide (a ∈ l) := by
  rw [Bool.eq_iff_iff]
  simp

theorem NoticeMore_true {n : Nat} (hn : 200 ≤ n) (t : GTown) (d : GDrawing) (p : GPhase) (party : Int) : l35_NoticeMore n t d p party = some true := by
  obtain ⟨b, hb, hfew⟩ := l35_few_eq t d hn
  unfold l35_NoticeMore
  rw [small_eq hn, hb]
  simp only [Option.bind_some]
  cases b with
  | false => rfl
  | true =>
    obtain ⟨ht, hp4, hd⟩ := hfew rfl
    simp only [Bool.not_true, cond_false, Option.bind_some]
    by_cases hv : (p.volumes.length : Int) > 4
    · simp only [hv, decide_true, cond_true]
    · simp only [hv, decide_false, cond_false]
      have hx : DrawOk (GDrawing.mk d.lot (d.phases ++ [p])) := by
        refine ⟨by simp; omega, fun q hq => ?_⟩
        rcases List.mem_append.1 hq with hq | hq
        · exact hd.2 q hq
        · rw [List.mem_singleton] at hq; subst hq; omega
      have a1 : appOk ([] : List GPhase).length 0 d.phases.length d.phases.length 48 = true := appOk_true (a := 0) (by omega) (by simp only [maxLen]; omega)
      have a2 : appOk d.phases.length d.phases.length ([p] : List GPhase).length 1 48 = true := appOk_true (n := 1) (by omega) (by simp only [maxLen]; omega)
      have s1 : (sub ([p] : List GPhase) 0 1) = [p] := rfl
      have l1 := length_ownersL ht d
      have l2 := length_ownersL ht (GDrawing.mk d.lot (d.phases ++ [p]))
      have l3 : (addedL t d (GDrawing.mk d.lot (d.phases ++ [p]))).length ≤ 8 := Nat.le_trans (List.length_filter_le _ _) l2
      have e1 : nt_Distance n (GPlan.mk t.plan_defs t.plan_tables t.plan_zones t.plan_rules t.plan_caps t.plan_views t.plan_sun t.plan_hours) (GDrawing.mk d.lot (d.phases ++ [p])) = some (distL t.plan_tables (GDrawing.mk d.lot (d.phases ++ [p]))) := nt_Distance_eq (p := planOf t) ht.2.2 hx hn
      have e2 : nt_Distance n (GPlan.mk t.plan_defs t.plan_tables t.plan_zones t.plan_rules t.plan_caps t.plan_views t.plan_sun t.plan_hours) d = some (distL t.plan_tables d) := nt_Distance_eq (p := planOf t) ht.2.2 hd hn
      have ge : distL t.plan_tables (GDrawing.mk d.lot (d.phases ++ [p])) ≥ distL t.plan_tables d := by
        unfold distL
        rw [List.foldl_append]
        exact distP_ge _ _ _
      simp only [a1, cond_true, letv_eq, List.nil_append, a2, s1, nt_Owners_eq ht hd hn, nt_Owners_eq ht hx hn, nt_Added_eq ht hd hx hn, Option.bind_some, sub_all, eqL_self, q35_Has_eq (l := ownersL t d) (a := party) (n := n) (by omega) (by omega), q35_Has_eq (l := ownersL t (GDrawing.mk d.lot (d.phases ++ [p]))) (a := party) (n := n) (by omega) (by omega), q35_Has_eq (l := addedL t d (GDrawing.mk d.lot (d.phases ++ [p]))) (a := party) (n := n) (by omega) (by omega), e1, e2, ge, decide_true, any_mem]
      have mono : party ∈ ownersL t d → party ∈ ownersL t (GDrawing.mk d.lot (d.phases ++ [p])) := by
        rw [ownersL_mem, ownersL_mem]
        rintro ⟨id, h1, h2⟩
        exact ⟨id, nearL_mono ge id h1, h2⟩
      have add : party ∈ addedL t d (GDrawing.mk d.lot (d.phases ++ [p])) ↔ party ∈ ownersL t (GDrawing.mk d.lot (d.phases ++ [p])) ∧ ¬ party ∈ ownersL t d := by
        simp only [addedL, List.mem_filter]
        have : ((ownersL t d).any fun y => party == y) = decide (party ∈ ownersL t d) := by rw [Bool.eq_iff_iff]; simp
        rw [this]; simp
      by_cases c1 : party ∈ ownersL t d
      · have c2 := mono c1
        simp [add, c1, c2]
      · by_cases c2 : party ∈ ownersL t (GDrawing.mk d.lot (d.phases ++ [p])) <;> simp [add, c1, c2]
end Go.Proofs
