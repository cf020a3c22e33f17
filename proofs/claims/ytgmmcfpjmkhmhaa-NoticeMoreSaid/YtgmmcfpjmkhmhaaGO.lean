/-
  A region in the abstract walk: one walk in the order of the text serves every order that the region may draw.
-/
import Derived.Test.YtgmmcfpjmkhmhaaGW
namespace Go.Gb
open Go.RowKit

/-- The slots, the objects; 'ok t = some b': what the slot t holds stands only if b. -/
structure St where
  env : Nat → AV
  obj : Nat → Option AObj
  ok : Nat → Option Bool

structure Ann where
  orc : Orc
  rd : List Nat
  wr : List Nat
  sym : Bool

def absAny (P : Program) (T : Tab) (i : Nat) (o : Oper) (orc : Orc) (ρ : Operand → AV) (get : Nat → Option AObj) : Option Out :=
  match orc with
  | .ext n => absExtA T i o n ρ get
  | .frz ids fr orc' => absFrz P T i o ids fr orc' ρ get
  | orc => match o.op with
    | .call { callee := .value f, args := args, argTypes := _ } => absCallX P i (ρ f) (args.toList.map ρ) orc get
    | _ => absOp T i o orc ρ get

def setE {α : Type} (env : Nat → α) (dst : Option Tmp) (v : α) : Nat → α := fun t => if dst = some t then v else env t

def St.app (σ : St) (dst : Option Tmp) (p : Out × Option Bool) : St := ⟨setE σ.env dst p.1.v, updo σ.obj p.1.upd, setE σ.ok dst p.2⟩

/-- Whether an operation is to be carried out: what its guard comes to. -/
def want (ops : Array Oper) (o : Oper) (env : Nat → AV) (ok : Nat → Option Bool) : Option Bool :=
  match o.guard with
  | none => some true
  | some (j, b) => match (ops[j]?).bind (·.dst) with
    | some t => match env t, ok t with
      | .t (.sc (.bool v)), none => some (v == b)
      | .t (.sc (.bool v)), some g => some (g && (v == b))
      | .undef, some false => some false
      | _, _ => none
    | none => none

/-- What an operand asks: that it stands. -/
def need1 (ok : Nat → Option Bool) : Operand → List Prop
  | .tmp t => match ok t with
    | none => []
    | some b => [b = true]
  | _ => []

def needs (env : Nat → AV) (ok : Nat → Option Bool) (o : Op) : List Prop :=
  match o with
  | .pick c a b => match opv env c with
    | .t (.sc (.bool e)) => need1 ok c ++ ((need1 ok a).map (fun p => e = true → p) ++ (need1 ok b).map (fun p => e = false → p))
    | _ => [False]
  | o => o.operands.toList.flatMap (need1 ok)

def restr (rd : List Nat) (obj : Nat → Option AObj) : Nat → Option AObj := fun k => if k ∈ rd then obj k else none

section
variable (P : Program) (T : Tab) (ops : Array Oper) (ann : Nat → Ann)

def opAt (i : Nat) (σ : St) : Option (Out × Option Bool) :=
  (ops[i]?).bind fun o => (want ops o σ.env σ.ok).bind fun g => match (ann i).sym with
    | true => (absAny P T i o (ann i).orc (opv σ.env) (restr (ann i).rd σ.obj)).bind fun out =>
        if out.upd.isEmpty then some (⟨out.v, [], (needs σ.env σ.ok o.op ++ out.obs).map fun p => g = true → p⟩, some g) else none
    | false => match g with
      | true => (absAny P T i o (ann i).orc (opv σ.env) (restr (ann i).rd σ.obj)).bind fun out =>
          if out.upd.all (fun p => p.1 == nid i || (ann i).wr.contains p.1) then some (⟨out.v, out.upd, needs σ.env σ.ok o.op ++ out.obs⟩, none) else none
      | false => some (⟨.undef, [], []⟩, some false)

def eOp (i : Nat) (K : St → Prop) (σ : St) : Prop := ∃ o out, ops[i]? = some o ∧ opAt P T ops ann i σ = some out ∧ out.1.ob ∧ K (σ.app o.dst out)

def eLex (Q : St → Prop) : List Nat → St → Prop
  | [], σ => Q σ
  | i :: r, σ => eOp P T ops ann i (eLex Q r) σ

def eAny (md : Region.Mode) (Q : St → Prop) : Nat → Array Bool → St → Prop
  | 0, listed, σ => Region.ready md ops listed = [] ∧ Q σ
  | fuel + 1, listed, σ => (Region.ready md ops listed = [] → Q σ) ∧ ∀ i ∈ Region.ready md ops listed, eOp P T ops ann i (eAny md Q fuel (listed.setIfInBounds i true)) σ
end

def disj (a b : List Nat) : Bool := a.all fun x => !b.contains x

/-- Two operations touch nothing in common that either of them changes. -/
def fpApart (ann : Nat → Ann) (i j : Nat) : Bool :=
  disj (nid i :: (ann i).wr) (ann j).rd && disj (nid i :: (ann i).wr) (nid j :: (ann j).wr) && disj (nid j :: (ann j).wr) (ann i).rd

/-- The operations that wait, at last, for operation i. -/
def depsOn (md : Region.Mode) (ops : Array Oper) (i : Nat) : List Nat :=
  (List.range ops.size).foldl (fun D j => match ops[j]? with
    | some oj => bif oj.after.any (fun e => Region.binds md e && (e.on == i || D.contains e.on)) then j :: D else D
    | none => D) []

def depOk (md : Region.Mode) (ops : Array Oper) (listed : Array Bool) (i j : Nat) : Bool :=
  (depsOn md ops i).contains j && (depsOn md ops i).all fun d => !listed.getD d true

def fpFree (md : Region.Mode) (ops : Array Oper) (ann : Nat → Ann) (listed : Array Bool) (i : Nat) : Bool :=
  match ops[i]? with
  | some oi => (List.range ops.size).all fun j => j == i || listed.getD j true || match ops[j]? with
    | some oj => oj.after.any (fun e => Region.binds md e && e.on == i) || (oi.apart ops oj && fpApart ann i j) || depOk md ops listed i j
    | none => true
  | none => false

def lexFrom' (md : Region.Mode) (ops : Array Oper) (ann : Nat → Ann) : Nat → Nat → Array Bool → Bool
  | 0, _, listed => (Region.ready md ops listed).isEmpty
  | fuel + 1, k, listed => (Region.ready md ops listed).contains k && fpFree md ops ann listed k && lexFrom' md ops ann fuel (k + 1) (listed.setIfInBounds k true)

def lexOK (ops : Array Oper) (ann : Nat → Ann) : Bool := lexFrom' .any ops ann ops.size 0 (Array.replicate ops.size false)

section
variable {P : Program} {T : Tab} {ops : Array Oper} {ann : Nat → Ann} {md : Region.Mode} {Q : St → Prop}

theorem eOp_mono {i : Nat} {K K' : St → Prop} {σ : St} (h : ∀ σ, K σ → K' σ) (hh : eOp P T ops ann i K σ) : eOp P T ops ann i K' σ :=
  let ⟨o, out, h1, h2, h3, h4⟩ := hh
  ⟨o, out, h1, h2, h3, h _ h4⟩

theorem absAny_congr {i : Nat} {o : Oper} {orc : Orc} {ρ ρ' : Operand → AV} {get : Nat → Option AObj} (h : ∀ x ∈ o.op.operands, ρ x = ρ' x) : absAny P T i o orc ρ get = absAny P T i o orc ρ' get := by
  have hop := absOp_congr (T := T) (i := i) (orc := orc) (get := get) h
  unfold absAny
  split
  · exact absExtA_congr h
  · exact absFrz_congr h
  · obtain ⟨dst, op, ty, pos, after, guard⟩ := o
    simp only at h ⊢
    split
    · rename_i f args tys
      simp only [Op.operands, Call.operands] at h
      have h1 : args.toList.map ρ = args.toList.map ρ' := List.map_congr_left fun x hx => h x (by simp; exact .inr (by simpa using hx))
      rw [h1, h f (by simp)]
    · exact hop

theorem opAt_keys {i : Nat} {σ : St} {out : Out × Option Bool} (h : opAt P T ops ann i σ = some out) : ∀ p ∈ out.1.upd, p.1 = nid i ∨ p.1 ∈ (ann i).wr := by
  unfold opAt at h
  cases ho : ops[i]? with
  | none => simp [ho] at h
  | some o =>
    simp only [ho, Option.bind_some] at h
    cases hw : want ops o σ.env σ.ok with
    | none => simp [hw] at h
    | some g =>
      simp only [hw, Option.bind_some] at h
      split at h
      · cases ha : absAny P T i o (ann i).orc (opv σ.env) (restr (ann i).rd σ.obj) with
        | none => simp [ha] at h
        | some out' =>
          simp only [ha, Option.bind_some] at h
          split at h
          · injection h with h; subst h; simp
          · cases h
      · split at h
        · cases ha : absAny P T i o (ann i).orc (opv σ.env) (restr (ann i).rd σ.obj) with
          | none => simp [ha] at h
          | some out' =>
            simp only [ha, Option.bind_some] at h
            split at h
            · rename_i hall
              injection h with h; subst h
              intro p hp
              have := List.all_eq_true.1 hall p hp
              simpa using this
            · cases h
        · injection h with h; subst h; simp

theorem updo_other {obj : Nat → Option AObj} : ∀ (upd : List (Nat × Option AObj)) (k : Nat), (∀ p ∈ upd, p.1 ≠ k) → updo obj upd k = obj k
  | [], _, _ => rfl
  | (j, o) :: r, k, h => by
    simp only [updo]
    rw [if_neg (fun e => h (j, o) (by simp) e.symm), updo_other r k (fun p hp => h p (by simp [hp]))]

theorem updo_same_or {obj obj' : Nat → Option AObj} : ∀ (upd : List (Nat × Option AObj)) (k : Nat), obj k = obj' k → updo obj upd k = updo obj' upd k
  | [], _, h => h
  | (j, o) :: r, k, h => by simp only [updo, updo_same_or r k h]

theorem disj_spec {a b : List Nat} (h : disj a b = true) {x : Nat} (ha : x ∈ a) (hb : x ∈ b) : False := by
  have := List.all_eq_true.1 h x ha
  simp [hb] at this

theorem needs_congr {env env' : Nat → AV} {ok ok' : Nat → Option Bool} {o : Op} (h : ∀ t, .tmp t ∈ o.operands → env t = env' t ∧ ok t = ok' t) : needs env ok o = needs env' ok' o := by
  have h1 : ∀ x ∈ o.operands, need1 ok x = need1 ok' x := fun x hx => by
    cases x with
    | tmp t => simp only [need1, (h t hx).2]
    | _ => rfl
  unfold needs
  split
  · rename_i c a b
    have hc : opv env c = opv env' c := by
      cases c with
      | tmp t => exact (h t (by simp [Op.operands])).1
      | _ => rfl
    rw [hc, h1 c (by simp [Op.operands]), h1 a (by simp [Op.operands]), h1 b (by simp [Op.operands])]
  · have : ∀ l : List Operand, (∀ x ∈ l, need1 ok x = need1 ok' x) → l.flatMap (need1 ok) = l.flatMap (need1 ok') := by
      intro l
      induction l with
      | nil => intro _; rfl
      | cons x xs ih => intro hx; simp only [List.flatMap_cons, hx x (by simp), ih (fun y hy => hx y (by simp [hy]))]
    exact this _ fun x hx => h1 x (by simpa using hx)

/-- One operation, apart from another, finds the same whether the other has been carried out or not. -/
theorem opAt_app {j : Nat} {oi oj : Oper} {out : Out × Option Bool} {σ : St} (hj : ops[j]? = some oj) (hd : ∀ d, oi.dst = some d → d ∉ oj.looksAt ops) (hk : ∀ p ∈ out.1.upd, p.1 ∉ (ann j).rd) :
    opAt P T ops ann j (σ.app oi.dst out) = opAt P T ops ann j σ := by
  unfold opAt
  simp only [hj, Option.bind_some]
  have henv : ∀ t, t ∈ oj.looksAt ops → (σ.app oi.dst out).env t = σ.env t := fun t ht => by
    simp only [St.app, setE]
    rw [if_neg (fun e => hd t e ht)]
  have hokk : ∀ t, t ∈ oj.looksAt ops → (σ.app oi.dst out).ok t = σ.ok t := fun t ht => by
    simp only [St.app, setE]
    rw [if_neg (fun e => hd t e ht)]
  have hw : want ops oj (σ.app oi.dst out).env (σ.app oi.dst out).ok = want ops oj σ.env σ.ok := by
    unfold want
    cases hg : oj.guard with
    | none => rfl
    | some gw =>
      obtain ⟨g, b⟩ := gw
      cases ht : (ops[g]?).bind (·.dst) with
      | none => simp only [ht]
      | some t => simp only [ht, henv t (by simp [Oper.looksAt, hg, ht]), hokk t (by simp [Oper.looksAt, hg, ht])]
  have hget : restr (ann j).rd (σ.app oi.dst out).obj = restr (ann j).rd σ.obj := by
    funext k
    simp only [restr]
    split
    · rename_i hkr
      exact updo_other _ _ (fun p hp e => hk p hp (e ▸ hkr))
    · rfl
  have hin : ∀ t, .tmp t ∈ oj.op.operands → t ∈ oj.looksAt ops := fun t ht => by
    simp only [Oper.looksAt]; exact List.mem_append_left _ (List.mem_filterMap.2 ⟨.tmp t, by simpa using ht, rfl⟩)
  have hρ : absAny P T j oj (ann j).orc (opv (σ.app oi.dst out).env) (restr (ann j).rd σ.obj) = absAny P T j oj (ann j).orc (opv σ.env) (restr (ann j).rd σ.obj) := by
    refine absAny_congr fun x hx => ?_
    cases x with
    | tmp t => exact henv t (hin t hx)
    | _ => rfl
  have hnd : needs (σ.app oi.dst out).env (σ.app oi.dst out).ok oj.op = needs σ.env σ.ok oj.op := needs_congr fun t ht => ⟨henv t (hin t ht), hokk t (hin t ht)⟩
  rw [hw, hget, hρ, hnd]

theorem app_comm {σ : St} {di dj : Option Tmp} {a b : Out × Option Bool} (hd : ∀ d, di = some d → dj ≠ some d) (hk : ∀ p ∈ a.1.upd, ∀ q ∈ b.1.upd, p.1 ≠ q.1) : (σ.app di a).app dj b = (σ.app dj b).app di a := by
  have slot : ∀ {α : Type} (e : Nat → α) (x y : α), setE (setE e di x) dj y = setE (setE e dj y) di x := fun e x y => by
    funext t
    simp only [setE]
    by_cases h1 : dj = some t
    · rw [if_pos h1, if_neg (fun e => hd t e h1), if_pos h1]
    · rw [if_neg h1, if_neg h1]
  simp only [St.app, St.mk.injEq]
  refine ⟨slot _ _ _, ?_, slot _ _ _⟩
  funext k
  by_cases h1 : ∃ p ∈ a.1.upd, p.1 = k
  · obtain ⟨p, hp, e⟩ := h1
    rw [updo_other b.1.upd k (fun q hq e2 => hk p hp q hq (e.trans e2.symm))]
    exact updo_same_or _ _ (updo_other b.1.upd k (fun q hq e2 => hk p hp q hq (e.trans e2.symm))).symm
  · have h2 : ∀ p ∈ a.1.upd, p.1 ≠ k := fun p hp e => h1 ⟨p, hp, e⟩
    rw [updo_other a.1.upd k h2]
    exact updo_same_or _ _ (updo_other a.1.upd k h2)

theorem eOp_put {i j : Nat} {oi oj : Oper} {out : Out × Option Bool} {σ : St} {K : St → Prop} (hi : ops[i]? = some oi) (hj : ops[j]? = some oj) (hap : oi.apart ops oj = true) (hfp : fpApart ann i j = true)
    (hy : opAt P T ops ann i σ = some out) (h : eOp P T ops ann j K (σ.app oi.dst out)) :
    eOp P T ops ann j (fun σ' => opAt P T ops ann i σ' = some out ∧ K (σ'.app oi.dst out)) σ := by
  obtain ⟨a1, a2, a3⟩ := Oper.apart_spec hap
  simp only [fpApart, Bool.and_eq_true] at hfp
  obtain ⟨⟨f1, f2⟩, f3⟩ := hfp
  have ki := opAt_keys hy
  have kmem : ∀ p ∈ out.1.upd, p.1 ∈ nid i :: (ann i).wr := fun p hp => by rcases ki p hp with e | e <;> simp [e]
  obtain ⟨o, outj, g1, g2, g3, g4⟩ := h
  rw [hj] at g1; injection g1 with g1; subst g1
  rw [opAt_app hj a1 (fun p hp hr => disj_spec f1 (kmem p hp) hr)] at g2
  have kj := opAt_keys g2
  have kmemj : ∀ p ∈ outj.1.upd, p.1 ∈ nid j :: (ann j).wr := fun p hp => by rcases kj p hp with e | e <;> simp [e]
  refine ⟨oj, outj, hj, g2, g3, ?_, ?_⟩
  · rw [opAt_app hi a3 (fun p hp hr => disj_spec f3 (kmemj p hp) hr)]; exact hy
  · rw [← app_comm a2 (fun p hp q hq e => disj_spec f2 (kmem p hp) (e ▸ kmemj q hq))]; exact g4

theorem depsOn_spec {i : Nat} : ∀ d ∈ depsOn md ops i, ∃ od, ops[d]? = some od ∧ ∃ e ∈ od.after, Region.binds md e = true ∧ (e.on = i ∨ e.on ∈ depsOn md ops i) := by
  have main : ∀ (l : List Nat) (D0 : List Nat), (∀ d ∈ D0, ∃ od, ops[d]? = some od ∧ ∃ e ∈ od.after, Region.binds md e = true ∧ (e.on = i ∨ e.on ∈ D0)) →
      ∀ d ∈ l.foldl (fun D j => match ops[j]? with
        | some oj => bif oj.after.any (fun e => Region.binds md e && (e.on == i || D.contains e.on)) then j :: D else D
        | none => D) D0, ∃ od, ops[d]? = some od ∧ ∃ e ∈ od.after, Region.binds md e = true ∧ (e.on = i ∨ e.on ∈ l.foldl (fun D j => match ops[j]? with
        | some oj => bif oj.after.any (fun e => Region.binds md e && (e.on == i || D.contains e.on)) then j :: D else D
        | none => D) D0) := by
    intro l
    induction l with
    | nil => intro D0 h; exact h
    | cons j l ih =>
      intro D0 h
      simp only [List.foldl_cons]
      refine ih _ ?_
      cases hj : ops[j]? with
      | none => exact h
      | some oj =>
        simp only
        cases hb : oj.after.any (fun e => Region.binds md e && (e.on == i || D0.contains e.on)) with
        | false => simp only [cond_false]; exact h
        | true =>
          simp only [cond_true]
          intro d hd
          rcases List.mem_cons.1 hd with rfl | hd
          · obtain ⟨e, he, hb'⟩ := Array.any_eq_true'.1 hb
            simp only [Bool.and_eq_true, Bool.or_eq_true, beq_iff_eq, List.contains_iff_mem] at hb'
            exact ⟨oj, hj, e, he, hb'.1, hb'.2.imp id fun h => List.mem_cons_of_mem _ h⟩
          · obtain ⟨od, g1, e, g2, g3, g4⟩ := h d hd
            exact ⟨od, g1, e, g2, g3, g4.imp id fun h => List.mem_cons_of_mem _ h⟩
  exact main _ [] (fun d hd => by simp at hd)

theorem fpFree_spec {i : Nat} {oi : Oper} {listed : Array Bool} (hi : ops[i]? = some oi) (h : fpFree md ops ann listed i = true) (j : Nat) (oj : Oper) (hj : ops[j]? = some oj) (hne : j ≠ i) (hun : listed.getD j true = false)
    (hno : ∀ e ∈ oj.after, Region.binds md e = true → e.on ≠ i) : (oi.apart ops oj = true ∧ fpApart ann i j = true) ∨ depOk md ops listed i j = true := by
  simp only [fpFree, hi, List.all_eq_true, List.mem_range] at h
  have h1 := h j (Array.getElem?_eq_some_iff.1 hj).1
  simp only [hj, Bool.or_eq_true, beq_iff_eq, hne, false_or, hun, Bool.false_eq_true, Bool.and_eq_true] at h1
  rcases h1 with (h1 | h1) | h1
  · obtain ⟨e, he, hb⟩ := Array.any_eq_true'.1 h1
    simp only [Bool.and_eq_true, beq_iff_eq] at hb
    exact absurd hb.2 (hno e he hb.1)
  · exact .inl h1
  · exact .inr h1

theorem eAny_first {i : Nat} {oi : Oper} {out : Out × Option Bool} (D : List Nat) (hi : ops[i]? = some oi) (hD : ∀ d ∈ D, ∃ od, ops[d]? = some od ∧ ∃ e ∈ od.after, Region.binds md e = true ∧ (e.on = i ∨ e.on ∈ D)) :
    ∀ (fuel : Nat) (listed : Array Bool) (σ : St), (∀ d ∈ D, listed.getD d true = false) →
      (∀ j oj, ops[j]? = some oj → j ≠ i → listed.getD j true = false → j ∉ D → (∀ e ∈ oj.after, Region.binds md e = true → e.on ≠ i) → oi.apart ops oj = true ∧ fpApart ann i j = true) →
      i ∈ Region.ready md ops listed → opAt P T ops ann i σ = some out → out.1.ob →
      eAny P T ops ann md Q fuel (listed.setIfInBounds i true) (σ.app oi.dst out) → eAny P T ops ann md Q (fuel + 1) listed σ := by
  intro fuel
  induction fuel with
  | zero =>
    intro listed σ _ _ hr hy hob H
    refine ⟨fun h => (by rw [h] at hr; cases hr), fun j hj => ?_⟩
    by_cases hji : j = i
    · subst hji; exact ⟨oi, out, hi, hy, hob, H⟩
    · have := ready_mono hj hji
      rw [H.1] at this
      cases this
  | succ fuel ih =>
    intro listed σ hDu hfree hr hy hob H
    refine ⟨fun h => (by rw [h] at hr; cases hr), fun j hj => ?_⟩
    by_cases hji : j = i
    · subst hji; exact ⟨oi, out, hi, hy, hob, H⟩
    · have h1 := H.2 j (ready_mono hj hji)
      obtain ⟨hjun, oj, hoj, hall⟩ := mem_ready.1 hj
      have hnl : ∀ k, listed.getD k true = false → ∀ e ∈ oj.after, Region.binds md e = true → e.on ≠ k := fun k h0 e he hb heq => by
        have h1 := hall e he hb
        rw [heq] at h1
        rcases Nat.lt_or_ge k listed.size with h' | h'
        · simp [h'] at h0 h1; rw [h0] at h1; cases h1
        · simp [Array.getElem?_eq_none h'] at h1
      have hnot : ∀ e ∈ oj.after, Region.binds md e = true → e.on ≠ i := hnl i (mem_ready.1 hr).1
      have hjD : j ∉ D := fun hm => by
        obtain ⟨od, g1, e, g2, g3, g4⟩ := hD j hm
        rw [hoj] at g1; injection g1 with g1; subst g1
        rcases g4 with g4 | g4
        · exact hnot e g2 g3 g4
        · exact hnl _ (hDu _ g4) e g2 g3 rfl
      obtain ⟨hap, hfp⟩ := hfree j oj hoj hji hjun hjD hnot
      have h2 := eOp_put hi hoj hap hfp hy h1
      have hfree' : ∀ k ok, ops[k]? = some ok → k ≠ i → (listed.setIfInBounds j true).getD k true = false → k ∉ D →
          (∀ e ∈ ok.after, Region.binds md e = true → e.on ≠ i) → oi.apart ops ok = true ∧ fpApart ann i k = true := fun k ok hk hki hun hkD hno => by
        refine hfree k ok hk hki ?_ hkD hno
        by_cases hjk : j = k
        · subst hjk; exact hjun
        · rw [getD_set_ne true hjk] at hun; exact hun
      have hDu' : ∀ d ∈ D, (listed.setIfInBounds j true).getD d true = false := fun d hd => by
        have hne : j ≠ d := fun e => hjD (by rw [e]; exact hd)
        rw [getD_set_ne true hne]; exact hDu d hd
      refine eOp_mono (fun σ' h3 => ih (listed.setIfInBounds j true) σ' hDu' hfree' (ready_mono hr (Ne.symm hji)) h3.1 hob ?_) h2
      rw [Array.setIfInBounds_comm _ _ hji]
      exact h3.2

theorem eAny_lex : ∀ (n k : Nat) (listed : Array Bool) (σ : St), lexFrom' md ops ann n k listed = true → eLex P T ops ann Q ((List.range n).map (k + ·)) σ → eAny P T ops ann md Q n listed σ
  | 0, k, listed, σ, hB, h => ⟨by simpa [lexFrom'] using hB, by simpa [eLex] using h⟩
  | n + 1, k, listed, σ, hB, h => by
    simp only [lexFrom', Bool.and_eq_true] at hB
    obtain ⟨⟨hr, hfp⟩, hB'⟩ := hB
    rw [List.range_succ_eq_map, List.map_cons, List.map_map] at h
    simp only [eLex, Nat.add_zero] at h
    obtain ⟨o, out, h1, h2, h3, h4⟩ := h
    have fin : eAny P T ops ann md Q n (listed.setIfInBounds k true) (σ.app o.dst out) → eAny P T ops ann md Q (n + 1) listed σ := by
      intro H
      cases hd : (depsOn md ops k).all fun d => !listed.getD d true with
      | true =>
        refine eAny_first (depsOn md ops k) h1 depsOn_spec n listed σ (fun d hd' => by simpa using List.all_eq_true.1 hd d hd') (fun j oj hj hne hun hjD hno => ?_) (by simpa using hr) h2 h3 H
        rcases fpFree_spec h1 hfp j oj hj hne hun hno with h | h
        · exact h
        · simp only [depOk, Bool.and_eq_true, List.contains_iff_mem] at h
          exact absurd h.1 hjD
      | false =>
        refine eAny_first [] h1 (fun d hd' => by simp at hd') n listed σ (fun d hd' => by simp at hd') (fun j oj hj hne hun _ hno => ?_) (by simpa using hr) h2 h3 H
        rcases fpFree_spec h1 hfp j oj hj hne hun hno with h | h
        · exact h
        · simp only [depOk, Bool.and_eq_true] at h
          rw [h.2] at hd; cases hd
    refine fin ?_
    refine eAny_lex n (k + 1) _ _ hB' ?_
    have e : (fun x => k + x) ∘ Nat.succ = fun x => k + 1 + x := by funext x; simp only [Function.comp]; omega
    rw [e] at h4
    exact h4
end
end Go.Gb
