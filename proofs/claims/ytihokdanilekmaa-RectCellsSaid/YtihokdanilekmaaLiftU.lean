/-
  The rules of the abstract walk as a printed proof wants them.
-/
import Derived.Test.YtihokdanilekmaaLiftT
namespace Go.Gb
open Go.RowKit

def annOf (l : List (Nat × Ann)) : Nat → Ann := fun i => (lk l i).getD ⟨.none, [], [], false⟩

section
variable {P : Program} {N : Nat} {Q : Exit → St → Prop} {σ : St}

theorem th_n {K : St → Prop} (h : K σ) : thenE K Q .normal σ := h
theorem th_x {K : St → Prop} {j : Nat} (h : Q (.exit j) σ) : thenE K Q (.exit j) σ := h
theorem th_r {K : St → Prop} (h : Q .ret σ) : thenE K Q .ret σ := h
theorem bl_n {id : Nat} (h : Q .normal σ) : blockE id Q .normal σ := h
theorem bl_h {id : Nat} (h : Q .normal σ) : blockE id Q (.exit id) σ := by simp only [blockE, if_true]; exact h
theorem bl_p {id j : Nat} (hne : (j == id) = false) (h : Q (.exit j) σ) : blockE id Q (.exit j) σ := by
  simp only [beq_eq_false_iff_ne, ne_eq] at hne
  simp only [blockE, if_neg hne]; exact h
theorem bl_r {id : Nat} (h : Q .ret σ) : blockE id Q .ret σ := h

/-- The same frame and world, told anew, are a state of K. -/
def Re (P : Program) (K : St → Prop) (σ : St) : Prop := ∀ (w0 : World) (O0 : Was) (N : Nat) (β : Nat → Option Blk) (I : Nat → Prop) (a : Act) (w : World), Rel P w0 O0 N β I σ a w → Old σ → ∃ β' I' σ', Rel P w0 O0 N β' I' σ' a w ∧ Old σ' ∧ K σ'

theorem re_at {K : St → Prop} (h : K σ) : Re P K σ := fun _ _ _ β I _ _ hr ho => ⟨β, I, σ, hr, ho, h⟩

theorem re_as {K : St → Prop} {L : LSt} (L' : LSt) (π : List (Nat × Nat)) (keep : List Nat) {os : List (Nat × Option AObj)} (hp : piOk π = true) (he : (canonE π L.st keep, canonO L.st π) = (L'.env, os)) (hO : RenAll π os L'.objs) (h : Re P K L'.st) : Re P K L.st := by
  intro w0 O0 N β I a w hr _
  simp only [Prod.mk.injEq] at he
  obtain ⟨g1, g2⟩ := hr.canon hp he.1 (he.2 ▸ hO)
  exact h w0 O0 N _ I a w g1 g2

theorem ev_of_re {c : Code} {K : St → Prop} (h : Re P K σ) (hk : ∀ σ, K σ → Ev P N c Q σ) : Ev P N c Q σ := by
  intro w0 O0 β I a w hr ho
  obtain ⟨β', I', σ', g1, g2, g3⟩ := h w0 O0 N β I a w hr ho
  exact hk σ' g3 w0 O0 β' I' a w g1 g2

theorem ev_join {x y : Code} (K : St → Prop) (hk : ∀ σ, K σ → Ev P N y Q σ) (hx : Ev P N x (thenE (Re P K) Q) σ) : Ev P N (.seq x y) Q σ :=
  ev_seq (hx.mono fun e σ' h => by
    cases e with
    | normal => exact ev_of_re h hk
    | _ => exact h)

/-- A loop, by fuel. -/
theorem ev_loopf {c : Code} (J : Nat → St → Prop) (h0 : ∀ σ, ¬ J 0 σ) (round : ∀ n σ, J (n + 1) σ → Ev P N c (thenE (Re P (J n)) Q) σ) (n : Nat) (h : Re P (J n) σ) : Ev P N (.loop c) Q σ := by
  refine ev_of_re h fun σ hJ => ?_
  intro w0 O0 β I a w hr ho
  refine wp_loop_n (fun n a w => ∃ β I σ, Rel P w0 O0 N β I σ a w ∧ Old σ ∧ J n σ) (fun a w ⟨_, _, σ, _, _, h⟩ => h0 σ h) ?_ n a w ⟨β, I, σ, hr, ho, hJ⟩
  rintro n a w ⟨β, I, σ, hr, ho, hJ⟩
  refine wp_mono (round n σ hJ w0 O0 β I a w hr ho) ?_
  rintro e a' w' ⟨β', I', σ', h1, h2, h3⟩
  cases e with
  | normal => exact h3 w0 O0 N β' I' a' w' h1 h2
  | _ => exact ⟨β', I', σ', h1, h2, h3⟩

theorem ev_if {α : Type} {c : Operand} {x y : Code} {L : LSt} {e : Bool} {A B r : α} (hc : opv L.st.env c = .t (.sc (.bool e))) (h : (bif e then A else B) = r) (ht : A = r → Ev P N x Q L.st) (hf : B = r → Ev P N y Q L.st) : Ev P N (.cond c x y) Q L.st := by
  refine ev_cond e (fun _ _ => rfl) hc ?_
  cases e with
  | true => exact ht h
  | false => exact hf h
end

theorem chk {α : Type} {c : Bool} {A : Option α} {r : α} (h : (bif c then A else none) = some r) : c = true ∧ A = some r := by
  cases c with
  | true => exact ⟨rfl, h⟩
  | false => cases h

theorem bnd_some {α β : Type} {x : Option α} {f : α → Option β} {r : β} (h : x.bind f = some r) : ∃ a, x = some a ∧ f a = some r := Option.bind_eq_some_iff.1 h

def letv {α β : Type} (a : α) (f : α → β) : β := f a
theorem letv_elim {α β : Type} {a : α} {f : α → β} {r : β} {M : α → Prop} (h : letv a f = r) (hM : ∀ x, f x = r → M x) : M a := hM a h

/-- An element of a list by a number. -/
def at? {α : Type} (l : List α) (n : Int) : Option α := bif decide (0 ≤ n) then l[n.toNat]? else none

theorem at_row {α : Type} {l : List α} {n : Int} {x : α} (h : at? l n = some x) (f : α → List Tree) : 0 ≤ n ∧ (l.map f)[n.toNat]? = some (f x) := by
  obtain ⟨h1, h2⟩ := chk h
  exact ⟨of_decide_eq_true h1, by rw [List.getElem?_map, h2]; rfl⟩

/-- What is carried out under a guard. -/
def grd {α : Type} [Inhabited α] (g : Bool) (x : Option α) : Option α := bif g then x else some default
theorem grd_of {α : Type} [Inhabited α] {g : Bool} {x : Option α} {a : α} (h : grd g x = some a) (hg : g = true) : x = some a := by
  subst hg; exact h

theorem gE {e b : Bool} (h : (e == b) = true) : e = b := by simpa using h
theorem gM {e b : Bool} (h : e = b) : (e == b) = true := by simpa using h
theorem gL {a b : Bool} (h : (a && b) = true) : a = true := by cases a <;> simp_all
theorem gR {a b : Bool} (h : (a && b) = true) : b = true := by cases a <;> simp_all
theorem gA {a b : Bool} (h : a = true) (h' : b = true) : (a && b) = true := by simp_all

section
variable {get : Nat → Option AObj} {fk : Option Nat}
theorem exL_n : ExpL get fk [] [] := trivial
theorem exL_c {x : Tree} {xs : List AV} {ys : List Tree} (h : ExpL get fk xs ys) : ExpL get fk (.t x :: xs) (x :: ys) := ⟨rfl, h⟩
theorem exA {cs : List AV} {ts : List Tree} (h : ExpL get fk cs ts) : ExpC get fk (.agg cs) (.d (.a ts)) := h
theorem exT {x : Tree} : ExpC get fk (.t x) (.d (.s x)) := rfl
theorem ex1 {x : AV} {c : RC} (h : ExpC get fk x c) : ExpR get fk [x] (.one c) := h
theorem ex2 {x y : AV} {r : List AV} {cs : List RC} (h : ExpCs get fk (x :: y :: r) cs) : ExpR get fk (x :: y :: r) (.tup cs) := h
theorem exs_n : ExpCs get fk [] [] := trivial
theorem exs_c {x : AV} {c : RC} {xs : List AV} {cs : List RC} (h : ExpC get fk x c) (h' : ExpCs get fk xs cs) : ExpCs get fk (x :: xs) (c :: cs) := ⟨h, h'⟩
theorem exNilF {sz : Nat} : ExpC get fk .nilsl (.fresh sz []) := rfl
theorem exOwnF {k len sz : Nat} {rows : List (List Tree)} {o : AObj} (ho : get k = some o) (hs : o.sz = sz) (hr : o.rows.take len = avRows rows) (hl : rows.length = len) : ExpC get (some k) (.own k 0 len) (.fresh sz rows) := ⟨rfl, rfl, o, ho, hs, hr, hl⟩
end

theorem al_n : AllP [] := trivial
theorem al_1 {p : Prop} (h : p) : AllP [p] := h
theorem al_c {p q : Prop} {r : List Prop} (h : p) (h' : AllP (q :: r)) : AllP (p :: q :: r) := ⟨h, h'⟩
theorem rn_n {π : List (Nat × Nat)} : RenAll π [] [] := trivial
theorem rn_c {π : List (Nat × Nat)} {k : Nat} {o o' : AObj} {r : List (Nat × Option AObj)} {r' : List (Nat × AObj)} (h : o' = renO π o) (h' : RenAll π r r') : RenAll π ((k, some o) :: r) ((k, o') :: r') := ⟨rfl, h, h'⟩

theorem letv_ex {α β : Type} {a : α} {f : α → β} {r : β} (h : letv a f = r) : ∃ x, a = x ∧ f x = r := ⟨a, rfl, h⟩

theorem lenAv {α : Type} (l : List α) (f : α → List Tree) : (l.length : Int) = (((avRows (l.map f)).length : Nat) : Int) := by simp [avRows]
theorem own_at {α : Type} {l : List α} {n : Int} {x : α} (h : at? l n = some x) (f : α → List Tree) : 0 ≤ n ∧ n.toNat < (avRows (l.map f)).length := by
  obtain ⟨h1, h2⟩ := chk h
  exact ⟨of_decide_eq_true h1, by simpa [avRows] using (List.getElem?_eq_some_iff.1 h2).1⟩
theorem own_row {α : Type} {l : List α} {n : Int} {x : α} (h : at? l n = some x) (f : α → List Tree) : (avRows (l.map f))[0 + n.toNat]? = some ((f x).map AV.t) := by
  obtain ⟨_, h2⟩ := chk h
  simp [avRows, List.getElem?_map, h2]

theorem lendOwn {α : Type} (l : List α) (f : α → List Tree) {sz : Nat} : ((⟨sz, avRows (l.map f)⟩ : AObj).rows.drop 0).take (avRows (l.map f)).length = avRows (l.map f) ∧ (l.map f).length = (avRows (l.map f)).length :=
  ⟨List.take_of_length_le (by simp), by simp [avRows]⟩

def capOk (n bytes : Nat) : Bool := decide (n * bytes ≤ 140737488355328) && decide (n ≤ maxLen)
theorem appNil {α : Type} {l : List α} {f : α → List Tree} {n sz : Nat} {new : List (List AV)} (hn : new = avRows (l.map f)) (hl : l.length = n) (hc : capOk l.length sz = true) : True ∧ new.length = n ∧ avRows (l.map f) = new ∧ n * sz ≤ 140737488355328 ∧ n ≤ maxLen := by
  subst hn
  simp only [capOk, Bool.and_eq_true, decide_eq_true_eq] at hc
  subst hl
  exact ⟨trivial, by simp [avRows], rfl, hc.1, hc.2⟩
theorem appOwn {α : Type} {l m : List α} {f : α → List Tree} {n sz : Nat} {new : List (List AV)} (hn : new = avRows (m.map f)) (hl : m.length = n) (hc : capOk (l ++ m).length sz = true) :
    True ∧ (avRows (l.map f)).length = (avRows (l.map f)).length ∧ new.length = n ∧ avRows ((l ++ m).map f) = avRows (l.map f) ++ new ∧ ((avRows (l.map f)).length + n) * sz ≤ 140737488355328 ∧ (avRows (l.map f)).length + n ≤ maxLen := by
  subst hn
  simp only [capOk, Bool.and_eq_true, decide_eq_true_eq, List.length_append] at hc
  refine ⟨trivial, rfl, by simp [avRows, hl], by simp [avRows], ?_, ?_⟩
  · simp only [avRows, List.length_map]; rw [← hl]; exact hc.1
  · simp only [avRows, List.length_map]; rw [← hl]; exact hc.2

/-- A nil slice in a slot, as an own slice of no rows. -/
def nilAs (σ : St) (t sz : Nat) : St := ⟨fun s => if s = t then .own 1000 0 0 else σ.env s, updo σ.obj [(1000, some ⟨sz, []⟩)], σ.ok⟩

theorem re_nil {P : Program} {K : St → Prop} {L : LSt} (t sz : Nat) (L' : LSt) (π : List (Nat × Nat)) (keep : List Nat) {os : List (Nat × Option AObj)} (hp : piOk π = true) (ht : L.st.env t = .nilsl)
    (he : (canonE π (nilAs L.st t sz) keep, canonO (nilAs L.st t sz) π) = (L'.env, os)) (hO : RenAll π os L'.objs) (h : Re P K L'.st) : Re P K L.st := by
  intro w0 O0 N β I a w hr ho
  simp only [Prod.mk.injEq] at he
  have hr1 := hr.restrict ho
  obtain ⟨hS, hM⟩ := Mem.addNil (i := 1000) (o := ⟨sz, []⟩) hr1.mem (by simp) rfl
  have hr2 : Rel P w0 O0 N (ins (fun k => if k < 1000 then β k else none) 1000 .none) I (nilAs L.st t sz) a w := by
    refine ⟨hr.defers, hr.size, fun s => ?_, hM⟩
    have h1 := hr1.env s
    simp only [nilAs]
    by_cases hs : s = t
    · subst hs
      rw [if_pos rfl]
      have h2 : VR P (fun k => if k < 1000 then β k else none) w I (L.st.env s) (a.tmps.getD s undef) := h1
      rw [ht] at h2
      simp only [VR] at h2
      show VR P _ w I (.own 1000 0 0) _
      simp only [VR]
      exact .inl ⟨by simp [ins], h2, trivial, trivial⟩
    · rw [if_neg hs]
      exact SlotR.mono hS.ext hS.same hS.inc h1
  obtain ⟨g1, g2⟩ := hr2.canon hp he.1 (he.2 ▸ hO)
  exact h w0 O0 N _ I a w g1 g2

theorem flat1 {x : TV} (h : x.flat) : (RV.one (.d x)).flat := h

theorem exOwnL {α : Type} {get : Nat → Option AObj} {k sz : Nat} {l : List α} {f : α → List Tree} (ho : get k = some ⟨sz, avRows (l.map f)⟩) : ExpC get (some k) (.own k 0 (avRows (l.map f)).length) (.fresh sz (l.map f)) :=
  ⟨rfl, rfl, _, ho, rfl, by simp, by simp [avRows]⟩

theorem lenMap {α : Type} (l : List α) (f : α → List Tree) : ((l.length : Nat) : Int) = ((l.map f).length : Int) := by simp
end Go.Gb
